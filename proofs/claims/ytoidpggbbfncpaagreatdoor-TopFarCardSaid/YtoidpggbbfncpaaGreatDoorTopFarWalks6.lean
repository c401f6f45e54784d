/- What the functions that the law TopFar reaches compute: walks, part 6. No condition. -/
import Derived.Test.YtoidpggbbfncpaaGreatDoorCards
import Derived.Test.YtoidpggbbfncpaaGreatDoorTie
import Derived.Deep.DeepHandedRow
import Derived.Test.YtoidpggbbfncpaaGreatDoorRows
import Derived.Test.YtoidpggbbfncpaaGreatDoorTopFarEc3
import Derived.Test.YtoidpggbbfncpaaGreatDoorTopFarRa1
import Derived.Test.YtoidpggbbfncpaaGreatDoorTopFarRb1
import Derived.Test.YtoidpggbbfncpaaGreatDoorTopFarRc1
import Derived.Test.YtoidpggbbfncpaaGreatDoorTopFarWalks
import Derived.Test.YtoidpggbbfncpaaGreatDoorTopFarWalks2
import Derived.Test.YtoidpggbbfncpaaGreatDoorTopFarWalks3
import Derived.Test.YtoidpggbbfncpaaGreatDoorTopFarWalks4
import Derived.Test.YtoidpggbbfncpaaGreatDoorTopFarWalks5
set_option linter.unusedSimpArgs false
set_option linter.unusedVariables false
set_option maxRecDepth 100000
set_option maxHeartbeats 1000000
namespace Go.Proofs.YtoidpggbbfncpaaGreatDoor
open Go Go.Ing Go.RowKit Go.ChangeShapes Go.WideShapes Go.ChangeAt
theorem N8 {t0:Nat}(l:BM)(qs:List Ap)(w:World)(r0:Rd w l.queue t0 1 (qs.flatMap A8)):Ed Tryz.prog 45 #[.agg l.enc.toArray] w fun v w'=>v = .bool (Bi.Bh l qs)∧CA w w':=by
 have hl:=r0.La DX (by decide)
 refine Ak [] [] Tryz.func45 rfl rfl rfl (St.start w []) ?_
 refine Gs ?_
 refine B6 rfl rfl rfl (fun b1=>?_)
 refine Ga rfl (Gn (.t1 1) (CG (Gt (Ai Jj rfl) (Gt (AG rfl CX .m0 BM.l0 rfl rfl) (Gt (BI rfl Tryz.underlying9 rfl) (Gt (Cn rfl rfl) (Gm rfl ?_)))))))
 refine Bg 10 rfl rfl (fun q=>Ai F5 rfl) (Bg 10 rfl rfl (fun q=>AG (cF rfl q) F3 .m0 BM.l3 rfl rfl) (Bg 10 rfl rfl (fun q=>Ar rfl Tryz.underlying52 (cF rfl q)) (Bg 10 rfl rfl (fun q=>Cn (cF rfl q) rfl) ?_)))
 refine Gt (BS rfl rfl (fun h=>by rw [h];rfl)) ?_
 refine Gm rfl (Bg 16 rfl rfl (fun q=>Ai Oo rfl) (Bg 16 rfl rfl (fun q=>AG (cF rfl q) Dn .m0 BM.l1 rfl rfl) (Bg 16 rfl rfl (fun q=>AF (cF rfl q)) ?_)))
 refine DR (t:=19) rfl rfl rfl (fun qc q=>Ai Jj rfl) ?_
 refine DR (t:=19) rfl rfl rfl (fun qc q=>AG (Bc rfl (by rw [qc,q];rfl)) CX .m0 BM.l0 rfl rfl) ?_
 refine DR (t:=19) rfl rfl rfl (fun qc q=>BI rfl Tryz.underlying9 (Bc rfl (by rw [qc,q];rfl))) ?_
 refine DR (t:=19) rfl rfl rfl (fun qc q=>Cn (Bc rfl (by rw [qc,q];rfl)) rfl) ?_
 refine Bg 16 rfl rfl (fun q=>BG (cF rfl q) rfl (fun h=>by rw [q,h];rfl)) ?_
 refine Gt (BS rfl rfl (fun h=>by rw [h];rfl)) ?_
 refine Gm rfl (Bg 26 rfl rfl (fun q=>Ai N5 rfl) (Bg 26 rfl rfl (fun q=>AG (cF rfl q) Dn .m0 BM.l2 rfl rfl) (Bg 26 rfl rfl (fun q=>AF (cF rfl q)) ?_)))
 refine DR (t:=29) rfl rfl rfl (fun qc q=>Ai Jj rfl) ?_
 refine DR (t:=29) rfl rfl rfl (fun qc q=>AG (Bc rfl (by rw [qc,q];rfl)) CX .m0 BM.l0 rfl rfl) ?_
 refine DR (t:=29) rfl rfl rfl (fun qc q=>D1 (Bc rfl (by rw [qc,q];rfl)) rfl) ?_
 refine DR (t:=29) rfl rfl rfl (fun qc q=>AF (Bc rfl (by rw [qc,q];rfl))) ?_
 refine Cl (t:=33) rfl rfl rfl (fun qc q=>Ai Oo rfl) ?_
 refine Cl (t:=33) rfl rfl rfl (fun qc q=>AG (Bc rfl (by rw [qc,q];rfl)) Dn .m0 BM.l1 rfl rfl) ?_
 refine DR (t:=29) rfl rfl rfl (fun qc q=>BS (Bc rfl (by rw [qc,q];rfl)) rfl (fun h=>by rw [qc,q,h];rfl)) ?_
 refine Bg 26 rfl rfl (fun q=>BG (cF rfl q) rfl (fun h=>by rw [q,h];rfl)) ?_
 refine Gt (BS rfl rfl (fun h=>by rw [h];rfl)) ?_
 refine Gn (.t2 1 38) ?_
 refine Gc (fun c1=>?_) (fun c1=>?_)
 ·
  refine Gs (Ga rfl (Gn (.t1 2) (Ac (AD ?_))))
  refine AY rfl (.tmp rfl .n) ?_
  intro w1 hS;refine⟨congrArg Value.bool ?_,hS.Am⟩;rw [Bi.Bh,show Bi.I7 l=true from c1];rfl
 have c1p:=kz c1
 have hq:(l.queue.len:Int)≤6:=by omega
 refine Aa ?_
 refine AB (.t1 1) ?_
 refine AA (Ao (Ao ?_))
 refine BE (N:=9) [0,1,3,0,8,24,63,127,0] mix (by kernel_rfl) rfl ?_
 refine Pf 0 rfl (Ai F5 rfl) (Pf 1 rfl (AG rfl F3 .m0 BM.l3 rfl rfl) (Pf 3 rfl (Ai Jj rfl) (Pf 4 rfl (AG rfl CX .m0 BM.l0 rfl rfl) (Pf 8 rfl (AF rfl) ?_))))
 refine Jo 2 5 rfl rfl (by kernel_rfl) ?_ ?_
 ·
  refine BF rfl WV (.c rfl .n) .n (B0 _ _ (by first | assumption | omega)) (fun w hS=>(Kn.IT r0) w hS) (fun v1 B hv=>?_)
  obtain⟨y2,rfl,y3,rfl⟩:=hv
  refine Bq rfl ⟨?_,?_⟩
  · exact(Po rfl (AF rfl) rfl rfl (Po rfl (AG rfl CX .m1 BM.l0 rfl rfl) rfl rfl (Po rfl (Ai Jj rfl) rfl rfl (Pk (Pk As)))))
  refine An 5 rfl (by kernel_rfl) ?_
  refine Fy A8 DX rfl Tryz.underlying52 E5 Sy rfl (by decide) (by decide) rfl rfl (fun b2=>?_)
  refine Bq rfl ⟨?_,?_⟩
  · exact(Po rfl (AF rfl) rfl rfl (Pk (Pk (Po rfl (AG rfl F3 .m2 BM.l3 rfl rfl) rfl rfl (Po rfl (Ai F5 rfl) rfl rfl As)))))
  refine An 6 rfl (by kernel_rfl) ?_
  refine Ce DX rfl Tryz.underlying52 E5 Sy rfl YZ (by decide) (by decide) rfl rfl (fun w hS=>Src.D7 Tryz.underlying52 ((Kn.own .m0) w hS)) (by(try dsimp only);omega) (fun _=>(.t .h)) (fun h5 h5l h5z=>?_)
  refine Bq rfl ⟨?_,?_⟩
  · exact(Po rfl (AF rfl) rfl rfl (Pk (Pk (Pk (Pk As)))))
  refine Pf 7 rfl (Ar rfl Tryz.underlying52 rfl) ?_
  refine A4 (by kernel_rfl) ?_
  refine AB (.t3 45 46 47) ?_
  refine AA (Ae ?_)
  refine Bn (.t3 47 45 46) ?_
  refine CY (fun(k:Int)=>0≤k∧k≤((qs ++ [l.now]).length:Int)∧Bi.Bh l qs=((qs ++ [l.now]).drop k.toNat).all Bi.F2) (fun(k:Int)=>(((qs ++ [l.now]).length:Int) - k).toNat) (fun(k:Int)=> [(47, .int .i64 k)]) (fun(k:Int)=> []) (0) ?_ rfl rfl (fun k hI1=>?_)
  · exact⟨by omega,by omega,by rw [Bi.Bh,show Bi.I7 l=false from c1];rfl⟩
  obtain⟨hI11,hI12,hI13⟩:=hI1
  refine Gs (Gt (A7 rfl rfl) (AQ (AA (Ao ?_))))
  refine Gc (fun c2=>?_) (fun c2=>?_)
  ·
   have c2p:=kz c2
   have hk:k < ((qs ++ [l.now]).length:Int):=by simp only [List.length_append,List.length_cons,List.length_nil] at *;omega
   have hk7:((qs ++ [l.now]).length:Int)≤7:=by simp only [List.length_append,List.length_cons,List.length_nil] at *;omega
   refine Aa ?_
   refine AB (.t3 45 46 47) ?_
   refine AA (Ao (Ae (Gs ?_)))
   refine Gt (Bp JR (by decide) (Kn.own .m1) rfl rfl (by omega) (by simp only [List.length_append,List.length_cons,List.length_nil] at *;omega)) ?_
   refine Gt (Dj rfl CX (Kn.own .m1) (by omega)) ?_
   refine Ga rfl (Gn (.t4 4 45 46 47) (CG (Gm rfl (Gt (BI rfl Tryz.underlying9 rfl) (Gt (Cn rfl rfl) (Gn (.t5 4 45 46 47 53) ?_))))))
   refine Gc (fun c3=>?_) (fun c3=>?_)
   ·
    refine Gs (Ga rfl (Gn (.t1 2) (Ac (AD (AS (AD (AD ?_)))))))
    refine AS (AD ?_)
    refine AY rfl (.tmp rfl .n) ?_
    intro w1 hS;refine⟨congrArg Value.bool ?_,hS.Am⟩;rw [hI13,Bi.FE (d:= []) hI11 hk,Bi.F2,c3];rfl
   have c3p:=kz c3
   refine Aa ?_
   refine AB (.t4 4 45 46 47) ?_
   refine AA (Gs (Gm rfl (Gt (BI rfl Tryz.underlying9 rfl) (Gm rfl (Gn (.t6 4 45 46 47 55 56) (Ae ?_))))))
   refine Bn (.t6 56 4 45 46 47 55) ?_
   refine CY (fun(i:Int)=>0≤i∧i≤(((qs ++ [l.now]).getD k.toNat []).length:Int)∧Bi.F2 ((qs ++ [l.now]).getD k.toNat [])=(((qs ++ [l.now]).getD k.toNat []).drop i.toNat).all Bi.Fu) (fun(i:Int)=>((((qs ++ [l.now]).getD k.toNat []).length:Int) - i).toNat) (fun(i:Int)=> [(56, .int .i64 i)]) (fun(i:Int)=> []) (0) ?_ rfl rfl (fun i hI2=>?_)
   · exact⟨by omega,by omega,by rw [Bi.F2,c3];rfl⟩
   obtain⟨hI21,hI22,hI23⟩:=hI2
   refine Gs (Gt (A7 rfl rfl) (AQ (AA (Ao ?_))))
   refine Gc (fun c4=>?_) (fun c4=>?_)
   ·
    have c4p:=kz c4
    refine Aa ?_
    refine AB (.t6 4 45 46 47 55 56) ?_
    refine AA (Ao (Ae (Gs (Gm rfl (Ga rfl (Gn (.t7 4 5 45 46 47 55 56) (Gs ?_)))))))
    refine Gm rfl (Gm rfl ?_)
    refine Gt (Bl Tryz.underlying9 rfl rfl (by omega) (by omega)) ?_
    refine BA rfl ao (.c rfl .n) (fun w hS=>G4 _ w) ?_
    refine Gt (BT rfl) (Gn (.t7 4 45 46 47 55 56 63) ?_)
    refine Gc (fun c5=>?_) (fun c5=>?_)
    ·
     have c5p:=kz c5
     refine Gs (Ga rfl (Gn (.t1 2) (Ac (AS (AD (AD (AS ?_)))))))
     refine AS (AD (AD (AS (AD ?_))))
     refine AY rfl (.tmp rfl .n) ?_
     intro w1 hS;refine⟨congrArg Value.bool ?_,hS.Am⟩;rw [hI13,Bi.FE (d:= []) hI11 hk,hI23,Bi.FE (d:=0) hI21 (by omega),show Bi.Fu _=false from by simpa using c5];rfl
    have c5p:=kz c5
    refine Aa ?_
    refine AB (.t6 4 45 46 47 55 56) ?_
    refine AV (AA (AJ ?_))
    refine Gt (Av rfl rfl (IntWalk.i64_in _ (by omega))) ?_
    refine Gm rfl ?_
    refine AQ (AB (.t6 4 45 46 47 55 56) ?_)
    refine B2 (i+1) ?_ ?_ (.t6 56 4 45 46 47 55) (.refl _)
    · exact⟨by omega,by omega,by rw [hI23,Bi.FE (d:=0) hI21 (by omega),show Bi.Fu _=true from by simpa using c5];rfl⟩
    · omega
   have c4p:=kz c4
   refine Bb (AW (AW (Ag ?_)))
   refine AB (.t3 45 46 47) ?_
   refine AV (AA (AJ ?_))
   refine Gt (Av rfl rfl (IntWalk.i64_in _ (by omega))) ?_
   refine Gm rfl ?_
   refine AQ (AB (.t3 45 46 47) ?_)
   refine B2 (k+1) ?_ ?_ (.t3 47 45 46) (.refl _)
   · exact⟨by omega,by omega,by rw [hI13,Bi.FE (d:= []) hI11 hk,hI23,show i.toNat=((qs ++ [l.now]).getD k.toNat []).length from by omega,List.drop_length];rfl⟩
   · omega
  have c2p:=kz c2
  have hk:¬ k < ((qs ++ [l.now]).length:Int):=by simp only [List.length_append,List.length_cons,List.length_nil] at *;omega
  refine Bb (AW (AW (Ag ?_)))
  refine AB (.nil _) ?_
  refine AA (Gs (Ga rfl (AQ (AA (Ac ?_)))))
  refine AY rfl (.tmp rfl .n) ?_
  intro w1 hS;refine⟨congrArg Value.bool ?_,hS.Am⟩;rw [hI13,show k.toNat=(qs ++ [l.now]).length from by omega,List.drop_length];rfl
 ·
  refine Fy A8 DX rfl Tryz.underlying52 E5 Sy rfl (by decide) (by decide) rfl rfl (fun b3=>?_)
  refine Bq rfl ⟨?_,?_⟩
  · exact(Po rfl (AF rfl) rfl rfl (Pk (Pk (Po rfl (AG rfl F3 .m1 BM.l3 rfl rfl) rfl rfl (Po rfl (Ai F5 rfl) rfl rfl As)))))
  refine An 2 rfl (by kernel_rfl) ?_
  refine BF rfl WV (.c rfl .n) .n (B0 _ _ (by first | assumption | omega)) (fun w hS=>(Kn.IT r0) w hS) (fun v6 B hv=>?_)
  obtain⟨y7,rfl,y8,rfl⟩:=hv
  refine Bq rfl ⟨?_,?_⟩
  · exact(Po rfl (AF rfl) rfl rfl (Po rfl (AG rfl CX .m2 BM.l0 rfl rfl) rfl rfl (Po rfl (Ai Jj rfl) rfl rfl (Pk (Pk As)))))
  refine An 6 rfl (by kernel_rfl) ?_
  refine Ce DX rfl Tryz.underlying52 E5 Sy rfl YZ (by decide) (by decide) rfl rfl (fun w hS=>Src.D7 Tryz.underlying52 ((Kn.own .m1) w hS)) (by(try dsimp only);omega) (fun _=> .h) (fun h10 h10l h10z=>?_)
  refine Bq rfl ⟨?_,?_⟩
  · exact(Po rfl (AF rfl) rfl rfl (Pk (Pk (Pk (Pk As)))))
  refine Pf 7 rfl (Ar rfl Tryz.underlying52 rfl) ?_
  refine A4 (by kernel_rfl) ?_
  refine AB (.t3 45 46 47) ?_
  refine AA (Ae ?_)
  refine Bn (.t3 47 45 46) ?_
  refine CY (fun(k:Int)=>0≤k∧k≤((qs ++ [l.now]).length:Int)∧Bi.Bh l qs=((qs ++ [l.now]).drop k.toNat).all Bi.F2) (fun(k:Int)=>(((qs ++ [l.now]).length:Int) - k).toNat) (fun(k:Int)=> [(47, .int .i64 k)]) (fun(k:Int)=> []) (0) ?_ rfl rfl (fun k hI1=>?_)
  · exact⟨by omega,by omega,by rw [Bi.Bh,show Bi.I7 l=false from c1];rfl⟩
  obtain⟨hI11,hI12,hI13⟩:=hI1
  refine Gs (Gt (A7 rfl rfl) (AQ (AA (Ao ?_))))
  refine Gc (fun c6=>?_) (fun c6=>?_)
  ·
   have c6p:=kz c6
   have hk:k < ((qs ++ [l.now]).length:Int):=by simp only [List.length_append,List.length_cons,List.length_nil] at *;omega
   have hk7:((qs ++ [l.now]).length:Int)≤7:=by simp only [List.length_append,List.length_cons,List.length_nil] at *;omega
   refine Aa ?_
   refine AB (.t3 45 46 47) ?_
   refine AA (Ao (Ae (Gs ?_)))
   refine Gt (Bp JR (by decide) (Kn.own .m0) rfl rfl (by omega) (by simp only [List.length_append,List.length_cons,List.length_nil] at *;omega)) ?_
   refine Gt (Dj rfl CX (Kn.own .m0) (by omega)) ?_
   refine Ga rfl (Gn (.t4 4 45 46 47) (CG (Gm rfl (Gt (BI rfl Tryz.underlying9 rfl) (Gt (Cn rfl rfl) (Gn (.t5 4 45 46 47 53) ?_))))))
   refine Gc (fun c7=>?_) (fun c7=>?_)
   ·
    refine Gs (Ga rfl (Gn (.t1 2) (Ac (AD (AS (AD (AD ?_)))))))
    refine AS (AD ?_)
    refine AY rfl (.tmp rfl .n) ?_
    intro w1 hS;refine⟨congrArg Value.bool ?_,hS.Am⟩;rw [hI13,Bi.FE (d:= []) hI11 hk,Bi.F2,c7];rfl
   have c7p:=kz c7
   refine Aa ?_
   refine AB (.t4 4 45 46 47) ?_
   refine AA (Gs (Gm rfl (Gt (BI rfl Tryz.underlying9 rfl) (Gm rfl (Gn (.t6 4 45 46 47 55 56) (Ae ?_))))))
   refine Bn (.t6 56 4 45 46 47 55) ?_
   refine CY (fun(i:Int)=>0≤i∧i≤(((qs ++ [l.now]).getD k.toNat []).length:Int)∧Bi.F2 ((qs ++ [l.now]).getD k.toNat [])=(((qs ++ [l.now]).getD k.toNat []).drop i.toNat).all Bi.Fu) (fun(i:Int)=>((((qs ++ [l.now]).getD k.toNat []).length:Int) - i).toNat) (fun(i:Int)=> [(56, .int .i64 i)]) (fun(i:Int)=> []) (0) ?_ rfl rfl (fun i hI2=>?_)
   · exact⟨by omega,by omega,by rw [Bi.F2,c7];rfl⟩
   obtain⟨hI21,hI22,hI23⟩:=hI2
   refine Gs (Gt (A7 rfl rfl) (AQ (AA (Ao ?_))))
   refine Gc (fun c8=>?_) (fun c8=>?_)
   ·
    have c8p:=kz c8
    refine Aa ?_
    refine AB (.t6 4 45 46 47 55 56) ?_
    refine AA (Ao (Ae (Gs (Gm rfl (Ga rfl (Gn (.t7 4 5 45 46 47 55 56) (Gs ?_)))))))
    refine Gm rfl (Gm rfl ?_)
    refine Gt (Bl Tryz.underlying9 rfl rfl (by omega) (by omega)) ?_
    refine BA rfl ao (.c rfl .n) (fun w hS=>G4 _ w) ?_
    refine Gt (BT rfl) (Gn (.t7 4 45 46 47 55 56 63) ?_)
    refine Gc (fun c9=>?_) (fun c9=>?_)
    ·
     have c9p:=kz c9
     refine Gs (Ga rfl (Gn (.t1 2) (Ac (AS (AD (AD (AS ?_)))))))
     refine AS (AD (AD (AS (AD ?_))))
     refine AY rfl (.tmp rfl .n) ?_
     intro w1 hS;refine⟨congrArg Value.bool ?_,hS.Am⟩;rw [hI13,Bi.FE (d:= []) hI11 hk,hI23,Bi.FE (d:=0) hI21 (by omega),show Bi.Fu _=false from by simpa using c9];rfl
    have c9p:=kz c9
    refine Aa ?_
    refine AB (.t6 4 45 46 47 55 56) ?_
    refine AV (AA (AJ ?_))
    refine Gt (Av rfl rfl (IntWalk.i64_in _ (by omega))) ?_
    refine Gm rfl ?_
    refine AQ (AB (.t6 4 45 46 47 55 56) ?_)
    refine B2 (i+1) ?_ ?_ (.t6 56 4 45 46 47 55) (.refl _)
    · exact⟨by omega,by omega,by rw [hI23,Bi.FE (d:=0) hI21 (by omega),show Bi.Fu _=true from by simpa using c9];rfl⟩
    · omega
   have c8p:=kz c8
   refine Bb (AW (AW (Ag ?_)))
   refine AB (.t3 45 46 47) ?_
   refine AV (AA (AJ ?_))
   refine Gt (Av rfl rfl (IntWalk.i64_in _ (by omega))) ?_
   refine Gm rfl ?_
   refine AQ (AB (.t3 45 46 47) ?_)
   refine B2 (k+1) ?_ ?_ (.t3 47 45 46) (.refl _)
   · exact⟨by omega,by omega,by rw [hI13,Bi.FE (d:= []) hI11 hk,hI23,show i.toNat=((qs ++ [l.now]).getD k.toNat []).length from by omega,List.drop_length];rfl⟩
   · omega
  have c6p:=kz c6
  have hk:¬ k < ((qs ++ [l.now]).length:Int):=by simp only [List.length_append,List.length_cons,List.length_nil] at *;omega
  refine Bb (AW (AW (Ag ?_)))
  refine AB (.nil _) ?_
  refine AA (Gs (Ga rfl (AQ (AA (Ac ?_)))))
  refine AY rfl (.tmp rfl .n) ?_
  intro w1 hS;refine⟨congrArg Value.bool ?_,hS.Am⟩;rw [hI13,show k.toNat=(qs ++ [l.now]).length from by omega,List.drop_length];rfl
theorem PN {t0:Nat}(l:BM)(qs:List Ap)(u:Ap)(hu:u.length≤9000000000000000000):FU Tryz.prog 63 #[.agg l.enc.toArray,BU u] [] (fun w=>Rd w l.queue t0 1 (qs.flatMap A8)) (fun v B=>(Bi.Bh l qs=false∧v = .tuple #[.agg l.enc.toArray, .int .i64 0, .int .i64 2]∧B = [])∨(Bi.Bh l qs=true∧∃ h':Hd,v = .tuple #[.agg (BM.enc ⟨(Bi.feed (Bi.start l qs) u).now,(Bi.feed (Bi.start l qs) u).C0,(Bi.feed (Bi.start l qs) u).ret,h'⟩).toArray, .int .i64 (Bi.feed (Bi.start l qs) u).lost, .int .i64 0]∧h'.len=(Bi.feed (Bi.start l qs) u).queue.length∧B = [Ab.own h' 9 1 ((Bi.feed (Bi.start l qs) u).queue.flatMap A8)])):=by
 intro w hS0 hH
 have r0:=hH
 have hl0:=r0.La DX (by decide)
 refine Ak _ _ Tryz.func63 rfl rfl rfl (hS0) ?_
 refine Gs ?_
 refine B6 rfl rfl rfl (fun b1=>?_)
 refine BD rfl cC rfl (fun b2=>?_)
 refine Ga rfl (Ga rfl (Gn (.t3 1 2 4) (CG (Gt (AZ rfl Jc .m1 (AU.id BM.fl.len BM.fl.one) rfl) ?_))))
 refine BA rfl dZ (.c rfl .n) (fun w hS=>N8 _ _ w ((Kn.IT r0) w hS)) ?_
 refine Gt (BT rfl) (Gn (.t4 1 2 4 14) ?_)
 refine Gc (fun c1=>?_) (fun c1=>?_)
 ·
  refine Gs (Gt (AZ rfl Jc .m1 (AU.id BM.fl.len BM.fl.one) rfl) ?_)
  refine AT (AK (AU.id BM.fl.len BM.fl.one) rfl rfl rfl O3 rfl .h) ?_
  refine Ga rfl (Ga rfl (Gn (.t3 4 5 6) (Ac (AD ?_))))
  refine AY rfl (.cell rfl .m0 (.inl ⟨(by rw [BM.fl.len];exact Jc),rfl⟩) (.tmp rfl (.tmp rfl .n))) ?_
  intro w1 hS
  have hS:=(hS.perm (Ax.perm .n)).A1
  exact⟨_, .inl ⟨by simpa using c1,rfl,rfl⟩,hS⟩
 have c1p:=kz c1
 have hgd:Bi.Bh l qs=true:=by simpa using c1
 have hh:=Bi.Vw hgd
 have hq6:qs.length≤17592186044416:=by omega
 refine Aa ?_
 refine AB (.t3 1 2 4) ?_
 refine AA (Gs (Gt (Ai F5 rfl) (Gt (AG rfl F3 .m1 BM.l3 rfl rfl) ?_)))
 refine BF rfl WV (.c rfl .n) .n (B0 _ _ (by first | assumption | omega)) (fun w hS=>(Kn.IT r0) w hS) (fun v1 B hv=>?_)
 obtain⟨y2,rfl,y3,rfl⟩:=hv
 refine Gt (Ai F5 rfl) ?_
 refine AT (AK BM.l3 rfl rfl rfl OZ rfl (.t (.t .h))) ?_
 refine Gn (.t3 1 2 4) (Gs (Ga rfl (AQ (AA (Gs (Gt (Ai Jj rfl) (Gt (AG rfl CX .m2 BM.l0 rfl rfl) ?_)))))))
 refine Nx rfl Tryz.underlying9 Tryz.underlying105 Tryz.underlying5 rfl (fun h5 h5l=>?_)
 refine Ga rfl (Gn (.t5 1 2 4 7 8) (CG (Gm rfl (Gt (BI rfl Tryz.underlying9 rfl) (Gm rfl (Gn (.t7 1 2 4 7 8 24 25) (Ae ?_)))))))
 refine Bn (.t7 7 8 25 1 2 4 24) ?_
 refine Ba (.t (.t (.t .h))) ?_
 refine Ba (.t (.t .h)) ?_
 refine Ba (.t (.t .h)) ?_
 refine Rh (fun(k:Int) (now:Ap) (C0:Bool) (ret:Bool) (queue:List Ap) (lost:Int) (h:Hd) (g:Hd)=>Bi.I (Bi.start l qs) u k ⟨now,C0,ret,queue,lost⟩∧h.len=now.length∧g.len=queue.length) (fun(k:Int) (now:Ap) (C0:Bool) (ret:Bool) (queue:List Ap) (lost:Int) (h:Hd) (g:Hd)=>((u.length:Int) - k).toNat) (fun(k:Int) (now:Ap) (C0:Bool) (ret:Bool) (queue:List Ap) (lost:Int) (h:Hd) (g:Hd)=> [(7, .int .i64 lost),(8,h.val),(25, .int .i64 k)]) (fun(k:Int) (now:Ap) (C0:Bool) (ret:Bool) (queue:List Ap) (lost:Int) (h:Hd) (g:Hd)=> [Ab.own h 5 1 (now.flatMap DT),Ab.own g 9 1 (queue.flatMap A8),Ab.box b1 75 (BM.enc ⟨l.now,C0,ret,g⟩)]) (0) (l.now) (l.C0) (l.ret) (qs) (0) (_) (_) ?_ rfl rfl (fun k now C0 ret queue lost h g hI1=>?_)
 · exact⟨Bi.I.start hh.1 (show qs.length≤6 by omega) rfl,by assumption,by assumption⟩
 obtain⟨hI11,hl,hg⟩:=hI1;have hk0:=hI11.k0;have hk1:=hI11.k1;have hn:now.length≤60:=hI11.now;have hq:queue.length≤6:=hI11.queue;have hlo:0≤lost∧lost≤k:=hI11.lost
 refine Gs (Gt (A7 rfl rfl) (AQ (AA (Ao ?_))))
 refine Gc (fun c2=>?_) (fun c2=>?_)
 ·
  have c2p:=kz c2
  refine Aa ?_
  refine AB (.t7 1 2 4 7 8 24 25) ?_
  refine AA (Ao (Ae (Gs (Gm rfl (Ga rfl (Gn (.t8 1 2 4 7 8 9 24 25) (Gs ?_)))))))
  refine Gm rfl (Gm rfl ?_)
  refine Gt (Bl Tryz.underlying9 rfl rfl (by omega) (by omega)) ?_
  refine Ga rfl (Gn (.t8 1 2 4 7 8 10 24 25) (Gs (Gt (Ai N5 rfl) (Gt (AG rfl Dn .m2 BM.l2 rfl rfl) (Ga rfl (Gn (.t9 1 2 4 7 8 10 11 24 25) (Gs ?_)))))))
  refine Gt (Ai N5 rfl) ?_
  refine AT (AK BM.l2 rfl rfl rfl KU rfl (.t (.t .h))) ?_
  refine Gn (.t9 1 2 4 7 8 10 11 24 25) (Ae (Gs (Gm rfl (Gm rfl (Bf 40 rfl rfl (fun q=>AF rfl) (Bf 40 rfl rfl (fun q=>Af (Bc rfl q) rfl) (Bf 40 rfl rfl (fun q=>AF (Bc rfl q)) ?_)))))))
  refine Cl (t:=43) rfl rfl rfl (fun qc q=>AF rfl) ?_
  refine Cl (t:=43) rfl rfl rfl (fun qc q=>Af (Bc rfl (by rw [qc,q];rfl)) rfl) ?_
  refine Bf 40 rfl rfl (fun q=>BS (Bc rfl q) rfl (fun h=>by rw [q,h];rfl)) ?_
  refine Gt (BG rfl rfl (fun h=>h)) (Ga rfl (Gn (.t9 1 2 4 7 8 10 24 25 38) ?_))
  refine Gc (fun c3=>?_) (fun c3=>?_)
  ·
   have c3p:=kz c3
   refine Aa ?_
   refine AB (.t7 1 2 4 7 8 24 25) ?_
   refine AV (AV (AA (AJ ?_)))
   refine Gt (Av rfl rfl (IntWalk.i64_in _ (by omega))) ?_
   refine Gm rfl ?_
   refine AQ (AB (.t7 1 2 4 7 8 24 25) ?_)
   refine CS (k+1) _ _ _ _ _ _ _ ?_ ?_ (.t7 7 8 25 1 2 4 24) (.refl _)
   · exact⟨hI11.next (by omega) (by simp only [Bi.step,hl,c1,c2,c3,↓reduceIte,Bool.false_eq_true]),(by(try dsimp only at *)<;>(try simp only [List.length_append,List.length_take,List.length_cons,List.length_nil])<;>omega),(by(try dsimp only at *)<;>(try simp only [List.length_append,List.length_cons,List.length_nil])<;>omega)⟩
   · omega
  have c3p:=kz c3
  refine Gs (Gm rfl (Gt (Af rfl rfl) (Gm rfl (Bg 51 rfl rfl (fun q=>AF rfl) (Bg 51 rfl rfl (fun q=>Af (cF rfl q) rfl) ?_)))))
  refine Gt (BS rfl rfl (fun h=>by rw [h];rfl)) ?_
  refine Ga rfl (Gn (.t9 1 2 4 7 8 10 24 25 48) ?_)
  refine Gc (fun c4=>?_) (fun c4=>?_)
  ·
   have c4p:=kz c4
   refine CG (Gt (Ai F5 rfl) (Gt (AG rfl F3 .m2 BM.l3 rfl rfl) (Gt (Ar rfl Tryz.underlying52 rfl) (Gt (A7 rfl rfl) (Gn (.t9 1 2 4 7 8 10 24 25 58) ?_)))))
   refine Gc (fun c5=>?_) (fun c5=>?_)
   ·
    have c5p:=kz c5
    rw [hg] at c5
    refine AJ (Gt (Ai F5 rfl) (Gt (AG rfl F3 .m2 BM.l3 rfl rfl) (Gm rfl (Gt (KA Tryz.underlying105 Tryz.underlying9 Tryz.underlying5 rfl (Kn.own .m0)) ?_))))
    refine Fy A8 DX rfl Tryz.underlying52 E5 Sy rfl (by decide) (by decide) rfl rfl (fun b3=>?_)
    refine Ce DX rfl Tryz.underlying52 E5 Sy rfl YZ (by decide) (by decide) rfl rfl (fun w hS=>Src.D7 Tryz.underlying52 ((Kn.own .m0) w hS)) (by(try dsimp only);omega) (fun _=>(.t (.t .h))) (fun h6 h6l h6z=>?_)
    refine Gt (Ai F5 rfl) ?_
    refine AT (AK BM.l3 rfl rfl rfl OZ rfl (.t (.t (.t .h)))) ?_
    refine Gn (.t7 1 2 4 7 10 24 25) (AJ (Gm rfl (Gt (Af rfl rfl) (Ga rfl (Gt (Ai Oo rfl) ?_)))))
    refine AT (AK BM.l1 rfl rfl rfl KU rfl (.t (.t (.t .h)))) ?_
    refine Gt (Ai N5 rfl) ?_
    refine AT (AK BM.l2 rfl rfl rfl KU rfl (.t (.t (.t .h)))) ?_
    refine AQ (AB (.t7 1 2 4 7 8 24 25) ?_)
    refine AV (AV (AA (AJ ?_)))
    refine Gt (Av rfl rfl (IntWalk.i64_in _ (by omega))) ?_
    refine Gm rfl ?_
    refine AQ (AB (.t7 1 2 4 7 8 24 25) ?_)
    refine UY DT 5 1 ?_
    refine CE (.c .h (.c (.t (.t .h)) (.c (.t (.t .h)) (.c (.t (.t .h)) .n)))) ?_
    refine CZ ?_
    refine CS (k+1) _ _ _ _ _ _ _ ?_ ?_ (.t7 7 8 25 1 2 4 24) (.refl _)
    · exact⟨hI11.next (by omega) (by simp only [Bi.step,hl,c1,c2,c3,c4,c5,↓reduceIte,Bool.false_eq_true]),(by(try dsimp only at *)<;>(try simp only [List.length_append,List.length_take,List.length_cons,List.length_nil])<;>omega),(by(try dsimp only at *)<;>(try simp only [List.length_append,List.length_cons,List.length_nil])<;>omega)⟩
    · omega
   have c5p:=kz c5
   rw [hg] at c5
   refine AJ (Gm rfl ?_)
   refine Gt (Av rfl rfl (IntWalk.i64_in _ (by omega))) ?_
   refine Ga rfl (Gn (.t7 1 2 4 7 10 24 25) (AJ (Gm rfl (Gt (Af rfl rfl) (Ga rfl (Gt (Ai Oo rfl) ?_))))))
   refine AT (AK BM.l1 rfl rfl rfl KU rfl (.t (.t .h))) ?_
   refine Gt (Ai N5 rfl) ?_
   refine AT (AK BM.l2 rfl rfl rfl KU rfl (.t (.t .h))) ?_
   refine AQ (AB (.t7 1 2 4 7 8 24 25) ?_)
   refine AV (AV (AA (AJ ?_)))
   refine Gt (Av rfl rfl (IntWalk.i64_in _ (by omega))) ?_
   refine Gm rfl ?_
   refine AQ (AB (.t7 1 2 4 7 8 24 25) ?_)
   refine UY DT 5 1 ?_
   refine CE (.c .h (.c (.t .h) (.c (.t .h) (.c (.t .h) .n)))) ?_
   refine CZ ?_
   refine CS (k+1) _ _ _ _ _ _ _ ?_ ?_ (.t7 7 8 25 1 2 4 24) (.refl _)
   · exact⟨hI11.next (by omega) (by simp only [Bi.step,hl,c1,c2,c3,c4,c5,↓reduceIte,Bool.false_eq_true]),(by(try dsimp only at *)<;>(try simp only [List.length_append,List.length_take,List.length_cons,List.length_nil])<;>omega),(by(try dsimp only at *)<;>(try simp only [List.length_append,List.length_cons,List.length_nil])<;>omega)⟩
   · omega
  have c4p:=kz c4
  refine Gs (Gm rfl (Gt (Af rfl rfl) (Gm rfl (Bg 75 rfl rfl (fun q=>AF rfl) (Bg 75 rfl rfl (fun q=>Af (cF rfl q) rfl) ?_)))))
  refine Gt (BS rfl rfl (fun h=>by rw [h];rfl)) ?_
  refine Ga rfl (Gn (.t9 1 2 4 7 8 10 24 25 72) ?_)
  refine Gc (fun c6=>?_) (fun c6=>?_)
  ·
   have c6p:=kz c6
   refine Gs (Gm rfl (Gt (Ar rfl Tryz.underlying105 rfl) (Gt (Cn rfl rfl) (Gn (.t8 1 2 4 7 8 24 25 81) ?_))))
   refine Gc (fun c7=>?_) (fun c7=>?_)
   ·
    have c7p:=kz c7
    rw [hl] at c7
    refine AJ (Gm rfl (Gm rfl (Gt (Ar rfl Tryz.underlying105 rfl) ?_)))
    refine Gt (FR rfl rfl (IntWalk.i64_in _ (by omega))) ?_
    refine KD WY rfl Tryz.underlying105 VY rfl rfl (by omega) (by omega) (fun _=> .h) ?_
    refine Ga rfl ?_
    refine AQ (AB (.t7 1 2 4 7 8 24 25) ?_)
    refine AV (AV (AA (AJ ?_)))
    refine Gt (Av rfl rfl (IntWalk.i64_in _ (by omega))) ?_
    refine Gm rfl ?_
    refine AQ (AB (.t7 1 2 4 7 8 24 25) ?_)
    refine CS (k+1) _ _ _ _ _ _ _ ?_ ?_ (.t7 7 8 25 1 2 4 24) (.refl _)
    · exact⟨hI11.next (by omega) (by simp only [Bi.step,hl,c1,c2,c3,c4,c6,c7,↓reduceIte,Bool.false_eq_true]),(by(try dsimp only at *)<;>(try simp only [List.length_append,List.length_take,List.length_cons,List.length_nil])<;>omega),(by(try dsimp only at *)<;>(try simp only [List.length_append,List.length_cons,List.length_nil])<;>omega)⟩
    · omega
   have c7p:=kz c7
   rw [hl] at c7
   refine Aa ?_
   refine AB (.t7 1 2 4 7 8 24 25) ?_
   refine AV (AV (AA (AJ ?_)))
   refine Gt (Av rfl rfl (IntWalk.i64_in _ (by omega))) ?_
   refine Gm rfl ?_
   refine AQ (AB (.t7 1 2 4 7 8 24 25) ?_)
   refine CS (k+1) _ _ _ _ _ _ _ ?_ ?_ (.t7 7 8 25 1 2 4 24) (.refl _)
   · exact⟨hI11.next (by omega) (by simp only [Bi.step,hl,c1,c2,c3,c4,c6,c7,↓reduceIte,Bool.false_eq_true]),(by(try dsimp only at *)<;>(try simp only [List.length_append,List.length_take,List.length_cons,List.length_nil])<;>omega),(by(try dsimp only at *)<;>(try simp only [List.length_append,List.length_cons,List.length_nil])<;>omega)⟩
   · omega
  have c6p:=kz c6
  refine Gs (Gm rfl ?_)
  refine BA rfl ao (.c rfl .n) (fun w hS=>G4 _ w) ?_
  refine Gt (BT rfl) (Ga rfl (Gn (.t9 1 2 4 7 8 10 24 25 87) ?_))
  refine Gc (fun c8=>?_) (fun c8=>?_)
  ·
   have c8p:=kz c8
   refine Aa ?_
   refine AB (.t7 1 2 4 7 8 24 25) ?_
   refine AV (AV (AA (AJ ?_)))
   refine Gt (Av rfl rfl (IntWalk.i64_in _ (by omega))) ?_
   refine Gm rfl ?_
   refine AQ (AB (.t7 1 2 4 7 8 24 25) ?_)
   refine CS (k+1) _ _ _ _ _ _ _ ?_ ?_ (.t7 7 8 25 1 2 4 24) (.refl _)
   · exact⟨hI11.next (by omega) (by simp only [Bi.step,hl,c1,c2,c3,c4,c6,c8,↓reduceIte,Bool.false_eq_true]),(by(try dsimp only at *)<;>(try simp only [List.length_append,List.length_take,List.length_cons,List.length_nil])<;>omega),(by(try dsimp only at *)<;>(try simp only [List.length_append,List.length_cons,List.length_nil])<;>omega)⟩
   · omega
  have c8p:=kz c8
  refine Gs (Gm rfl (Gt (Ar rfl Tryz.underlying105 rfl) (Gt (CK rfl rfl) (Ga rfl (Gn (.t9 1 2 4 7 8 10 24 25 91) ?_)))))
  refine Gc (fun c9=>?_) (fun c9=>?_)
  ·
   have c9p:=kz c9
   rw [hl] at c9
   refine AJ (Gt (Ai Oo rfl) ?_)
   refine AT (AK BM.l1 rfl rfl rfl KU rfl (.t (.t .h))) ?_
   refine AQ (AB (.t7 1 2 4 7 8 24 25) ?_)
   refine AV (AV (AA (AJ ?_)))
   refine Gt (Av rfl rfl (IntWalk.i64_in _ (by omega))) ?_
   refine Gm rfl ?_
   refine AQ (AB (.t7 1 2 4 7 8 24 25) ?_)
   refine CS (k+1) _ _ _ _ _ _ _ ?_ ?_ (.t7 7 8 25 1 2 4 24) (.refl _)
   · exact⟨hI11.next (by omega) (by simp only [Bi.step,hl,c1,c2,c3,c4,c6,c8,c9,↓reduceIte,Bool.false_eq_true]),(by(try dsimp only at *)<;>(try simp only [List.length_append,List.length_take,List.length_cons,List.length_nil])<;>omega),(by(try dsimp only at *)<;>(try simp only [List.length_append,List.length_cons,List.length_nil])<;>omega)⟩
   · omega
  have c9p:=kz c9
  rw [hl] at c9
  refine AJ (Gm rfl (Gm rfl ?_))
  refine Fy DT WY rfl Tryz.underlying105 VY aE rfl (by decide) (by decide) rfl rfl (fun b4=>?_)
  refine Ce WY rfl Tryz.underlying105 VY aE rfl eJ (by decide) (by decide) rfl rfl (fun w hS=>Src.D7 Tryz.underlying105 ((Kn.own .m0) w hS)) (by(try dsimp only);omega) (fun _=>(.t .h)) (fun h9 h9l h9z=>?_)
  refine Ga rfl ?_
  refine AQ (AB (.t7 1 2 4 7 8 24 25) ?_)
  refine AV (AV (AA (AJ ?_)))
  refine Gt (Av rfl rfl (IntWalk.i64_in _ (by omega))) ?_
  refine Gm rfl ?_
  refine AQ (AB (.t7 1 2 4 7 8 24 25) ?_)
  refine CS (k+1) _ _ _ _ _ _ _ ?_ ?_ (.t7 7 8 25 1 2 4 24) (.cons _ (.refl _))
  · exact⟨hI11.next (by omega) (by simp only [Bi.step,hl,c1,c2,c3,c4,c6,c8,c9,↓reduceIte,Bool.false_eq_true]),(by(try dsimp only at *)<;>(try simp only [List.length_append,List.length_take,List.length_cons,List.length_nil])<;>omega),(by(try dsimp only at *)<;>(try simp only [List.length_append,List.length_cons,List.length_nil])<;>omega)⟩
  · omega
 have c2p:=kz c2
 refine Bb (AW (AW (Ag ?_)))
 refine AB (.t4 2 4 7 8) ?_
 refine AA (Gs (Gm rfl (Gt (KA Tryz.underlying105 Tryz.underlying9 Tryz.underlying5 rfl (Kn.own .m0)) (Gt (Ai Jj rfl) ?_))))
 refine AT (AK BM.l0 rfl rfl rfl E5 rfl (.t (.t .h))) ?_
 refine Gn (.t3 2 4 7) (Gs (Gt (AZ rfl Jc .m2 (AU.id BM.fl.len BM.fl.one) rfl) (Gm rfl ?_)))
 refine AT (AK (AU.id BM.fl.len BM.fl.one) rfl rfl rfl O3 rfl (.t (.t (.t .h)))) ?_
 refine Ga rfl (Ga rfl (Gn (.t3 4 5 6) (Ac ?_)))
 refine AY rfl (.cell rfl .m3 (.inl ⟨(by rw [BM.fl.len];exact Jc),rfl⟩) (.tmp rfl (.tmp rfl .n))) ?_
 intro w1 hS
 have hS:=(hS.perm (Ax.perm (.c (.t .h) .n))).A1
 have e:=hI11.done (by omega)
 exact⟨_, .inr ⟨hgd,_,by rw [e];rfl,by rw [e];exact hg,by rw [e]⟩,hS⟩
theorem NF (p:Az)(n:Int)(w:World):Ed Tryz.prog 66 #[.agg p.enc.toArray, .int .i64 n] w fun v w'=>v = .tuple #[.agg (Az.enc ⟨p.wait,p.shown,p.B9,p.ring.drop (max 0 (min n (p.ring.length:Int))).toNat,p.cut⟩).toArray,BU (p.ring.take (max 0 (min n (p.ring.length:Int))).toNat)]∧CA w w':=by
 refine Ak [] [] Tryz.func66 rfl rfl rfl (St.start w []) ?_
 refine Gs ?_
 refine B6 rfl rfl rfl (fun b1=>?_)
 refine BD rfl W9 rfl (fun b2=>?_)
 refine Ga rfl (Gn (.t3 1 2 4) (Gs (Gm rfl (Gt (Ai Jk rfl) (Gt (AG rfl CX .m1 Az.l3 rfl rfl) (Gt (BI rfl Tryz.underlying9 rfl) (Gt (MA rfl rfl) ?_)))))))
 refine Gt (Lj rfl rfl) (Ga rfl (Gn (.t3 1 2 4) (Gs (Gt (Ai Jk rfl) (Gt (AG rfl CX .m1 Az.l3 rfl rfl) (Gm rfl ?_))))))
 refine Gt (Ic Tryz.underlying9 rfl rfl (by omega) (by omega)) ?_
 refine Ga rfl (Gn (.t4 1 2 4 6) (Gs (Gt (Ai Jk rfl) (Gt (AG rfl CX .m1 Az.l3 rfl rfl) (Gm rfl ?_)))))
 refine Gt (GY Tryz.underlying9 rfl rfl (by omega) (by omega)) ?_
 refine Gt (Ai Jk rfl) ?_
 refine AT (AK Az.l3 rfl rfl rfl E5 rfl (.t .h)) ?_
 refine Gn (.t3 2 4 6) (Gs (Gt (AZ rfl C5 .m1 (AU.id Az.fl.len Az.fl.one) rfl) (Gm rfl ?_)))
 refine AT (AK (AU.id Az.fl.len Az.fl.one) rfl rfl rfl Fz rfl .h) ?_
 refine Ga rfl (Gn (.t2 4 5) (Ac ?_))
 refine AY rfl (.cell rfl .m0 (.inl ⟨(by rw [Az.fl.len];exact C5),rfl⟩) (.tmp rfl .n)) ?_
 intro w1 hS;refine⟨?_,hS.Am⟩;rfl
theorem I5 (b:Nat)(V:AM)(ls:Vector BJ 4)(ev:List Ing.Event)(a:Bz)(hL:AI.Live (A5 V ls ev))(hu:a.bytes.length≤140737488351232):FU Tryz.prog 38 #[.pointer (some ⟨b,0,none⟩), .agg a.enc.toArray] [Ab.box b 101 (AM.enc V),Ab.EB (CR 9 (AM.Au V) ls),Ab.own (AM.last V) 56 16 ((ev).flatMap Ing.Event.enc)] (fun w=>(GV 2 Fp w∧2 ∉ Cg [Ab.box b 101 (AM.enc V),Ab.EB (CR 9 (AM.Au V) ls),Ab.own (AM.last V) 56 16 ((ev).flatMap Ing.Event.enc)])∧(GV 0 AH.DJ w∧0 ∉ Cg [Ab.box b 101 (AM.enc V),Ab.EB (CR 9 (AM.Au V) ls),Ab.own (AM.last V) 56 16 ((ev).flatMap Ing.Event.enc)])∧(Gu 7 w∧7 ∉ Cg [Ab.box b 101 (AM.enc V),Ab.EB (CR 9 (AM.Au V) ls),Ab.own (AM.last V) 56 16 ((ev).flatMap Ing.Event.enc)])∧(Gu 8 w∧8 ∉ Cg [Ab.box b 101 (AM.enc V),Ab.EB (CR 9 (AM.Au V) ls),Ab.own (AM.last V) 56 16 ((ev).flatMap Ing.Event.enc)])) (fun v B=>∃ V' ls' ev',v = .agg (Bm.enc (AI.act (A5 V ls ev) a).2).toArray∧A5 V' ls' ev'=(AI.act (A5 V ls ev) a).1∧B = [Ab.box b 101 (AM.enc V'),Ab.EB (CR 9 (AM.Au V') ls'),Ab.own (AM.last V') 56 16 ((ev').flatMap Ing.Event.enc)]):=by
 intro w hS0 hH
 obtain⟨⟨gl0,gm0⟩,⟨gl1,gm1⟩,⟨gl2,gm2⟩,⟨gl3,gm3⟩⟩:=hH
 obtain⟨n,m,hF⟩:=hL.fits
 have hc:0≤V.B7:=hL.B7
 refine Ak _ _ Tryz.func38 rfl rfl rfl (hS0) ?_
 refine Gs ?_
 refine B6 rfl rfl rfl (fun b1=>?_)
 refine BD rfl Ka rfl (fun b2=>?_)
 refine Gn (.t3 0 3 4) (Ao (Ae (Gs (Gm rfl (Gt (Ei Tryz.underlying37 rfl) (Ga rfl (Gn (.t4 0 3 4 11) ?_)))))))
 refine Dr rfl rfl ?_
 refine Gs (Gm rfl (Gt (BV rfl) (Gt (Ai RH rfl) (Gt (AG rfl A2 .m2 AM.l2 rfl rfl) (Gt (CK rfl rfl) (Ga rfl (Gn (.t4 0 3 4 15) ?_)))))))
 refine Gc (fun c1=>?_) (fun c1=>?_)
 ·
  refine Gs (Gt (BC NM Ka rfl (.cons Bm.l0 rfl rfl rfl .nil)) ?_)
  refine AT (AK (AU.id Bm.fl.len Bm.fl.one) rfl rfl rfl KS rfl .h) ?_
  refine Gn (.t1 4) (Ac (AS (AD ?_)))
  refine AY rfl (.cell rfl .m0 (.inl ⟨(by rw [Bm.fl.len];exact Iv),rfl⟩) .n) ?_
  intro w1 hS
  have hS:=(hS.perm (Ax.perm (.c (.t (.t .h)) (.c (.t (.t .h)) (.c (.t (.t .h)) .n))))).A1
  have hq:(AI.act (A5 V ls ev) a)=((A5 V ls ev),⟨4,[]⟩):=BB c1
  refine⟨_,⟨V,ls,ev,?gv1,?ga1,rfl⟩,hS⟩
  case gv1=>rw [hq];rfl
  case ga1=>rw [hq]
 have c1p:=kz c1
 refine Aa ?_
 refine AB (.t3 0 3 4) ?_
 refine AV (AA (Gs (Gm rfl (Gt (BV rfl) (Gt (Ai RH rfl) (Gt (AG rfl A2 .m2 AM.l2 rfl rfl) ?_))))))
 refine Gt (Av rfl rfl (IntWalk.i64_in _ (by first | omega | exact hi.1 | exact hi.2 | exact hs.1 | exact hs.2))) ?_
 refine Gt (BV rfl) (Gt (Ai RH rfl) ?_)
 refine AT (AK AM.l2 rfl rfl rfl C6 rfl (.t (.t .h))) ?_
 refine Gn (.t3 0 3 4) (Gs (Gm rfl (Gt (BV rfl) (Gt (Ai NR rfl) ?_))))
 refine AT (AK (Y:=⟨none,0,0⟩) AM.l3 rfl rfl rfl Ra rfl (.t (.t .h))) ?_
 refine Gn (.t3 0 3 4) (Ao (Ao ?_))
 refine E7 Ing.Event.enc 56 16 ?_
 refine Ey (.c (.t (.t (.t .h))) (.c (.t (.t (.t .h))) (.c .h .n))) ?_
 refine AJ (Gm rfl (AQ (AA (Ae ?_))))
 refine Bn (.t4 32 0 3 4) ?_
 refine Ba (.t (.t .h)) ?_
 refine Ba (.t (.t .h)) ?_
 refine Ba (.t (.t .h)) ?_
 refine Iu (fun(i:Int) (V1:AM) (ls1:Vector BJ 4) (ev1:List Ing.Event)=>0≤i∧i≤4∧(A5 V1 ls1 ev1)=AI.EZ ({ (A5 V ls ev) with B7:=((A5 V ls ev)).B7+1,last:= [] }:AI) i.toNat) (fun(i:Int) (V1:AM) (ls1:Vector BJ 4) (ev1:List Ing.Event)=>(4 - i).toNat) (fun(i:Int) (V1:AM) (ls1:Vector BJ 4) (ev1:List Ing.Event)=> [(32, .int .i64 i)]) (fun(i:Int) (V1:AM) (ls1:Vector BJ 4) (ev1:List Ing.Event)=> [Ab.box b 101 (AM.enc V1),Ab.EB (CR 9 (AM.Au V1) ls1),Ab.own (AM.last V1) 56 16 (ev1.flatMap Ing.Event.enc)]) (0) (_) (ls) ([]) ?_ rfl rfl (fun i V1 ls1 ev1 hI1=>?_)
 · exact⟨by omega,by omega,rfl⟩
 obtain⟨hI11,hI12,hI13⟩:=hI1
 refine Gs (Gt (A7 rfl rfl) (AQ (AA (Ao ?_))))
 refine Gc (fun c2=>?_) (fun c2=>?_)
 ·
  have c2p:=kz c2
  have hi:0≤i∧i < 4:=⟨by omega,by omega⟩
  refine Aa ?_
  refine AB (.t4 0 3 4 32) ?_
  refine AA (Ao (Ae (Gs (Gm rfl (Ga rfl (Gn (.t5 0 3 4 5 32) ?_))))))
  refine Ft (k:=i) hi.1 hi.2 (fun sv sl hsv hlv hln=>?_)
  refine AJ (Gm rfl (Gm rfl (Gt (BV rfl) (Gt (Ai HH rfl) ?_))))
  refine Gt (AR Qu rfl rfl (by first | omega | exact hi.1 | exact hi.2 | exact hs.1 | exact hs.2) (by first | omega | exact hi.1 | exact hi.2 | exact hs.1 | exact hs.2)) ?_
  refine Gt (Ai Q5 rfl) ?_
  refine AT (AK (Y:=⟨none,0,0⟩) ((AU.BL V1 hi.1 hi.2).comp A3.l5) rfl rfl rfl OZ rfl (.t (.t (.t .h)))) ?_
  refine AQ (AB (.t4 0 3 4 32) ?_)
  refine AV (AA ?_)
  refine E7 A8 9 1 ?_
  refine Ey (.c (.t .h) (.c (.t .h) (.c .h (.c (.t .h) (.c (.t .h) .n))))) ?_
  refine HM hi.1 hi.2 (by rfl) (by rfl) (by rfl) ?_
  refine AJ ?_
  refine Gt (Av rfl rfl (IntWalk.i64_in _ (by first | omega | exact hi.1 | exact hi.2 | exact hs.1 | exact hs.2))) ?_
  refine Gm rfl ?_
  refine AQ (AB (.t4 0 3 4 32) ?_)
  refine CE (.c .h (.c .h (.c (.t .h) (.c (.t .h) (.c (.t .h) (.c (.t .h) .n)))))) ?_
  refine CZ ?_
  refine DC (i+1) _ _ _ ?_ ?_ (.t4 32 0 3 4) (.refl _)
  · exact⟨by omega,by omega,(Em hi.1 hi.2 hsv hlv (f:=fun x=>{ x with told:= [] }) rfl).trans (by rw [hI13];exact(AI.RI hI11).symm)⟩
  · omega
 have c2p:=kz c2
 obtain rfl:i=4:=by omega
 have hX:(A5 V1 ls1 ev1)=(AI.begun (A5 V ls ev)):=hI13
 have hF0:AI.Fit (A5 V1 ls1 ev1) 0 0:=by rw [hX];exact hF.begun
 refine Bb (AW (AW (Ag ?_)))
 refine AB (.t3 0 3 4) ?_
 refine AA (CG (Gt (Ai OU rfl) (Gt (AG rfl A2 .m4 Bz.l0 rfl rfl) (Gt (Af rfl rfl) (Gn (.t4 0 3 4 44) ?_)))))
 refine Gc (fun c3=>?_) (fun c3=>?_)
 ·
  have c3p:=kz c3
  refine Gs (Gm rfl (Gt (Ai Wo rfl) (Gt (AG rfl A2 .m4 Bz.l2 rfl rfl) ?_)))
  refine BF rfl eF (.c rfl (.c rfl .n)) (.c .h (.c .h (.c .h .n))) (PW _ V1 ls1 ev1 a.n 0 0 hF0 (by omega) (by omega)) (fun w hS=>⟨gl0.pull gm0 hS (.c .h (.c .h (.c .h .n))),gl1.pull gm1 hS (.c .h (.c .h (.c .h .n))),gl2.pull gm2 hS (.c .h (.c .h (.c .h .n))),gl3.pull gm3 hS (.c .h (.c .h (.c .h .n)))⟩) (fun v2 B hv=>?_)
  obtain⟨y3,y4,y5,rfl,y6,rfl⟩:=hv
  refine Gn (.t1 4) (Gs (Gt (BC NM Ka rfl .nil) ?_))
  refine AT (AK (AU.id Bm.fl.len Bm.fl.one) rfl rfl rfl KS rfl (.t (.t (.t .h)))) ?_
  refine Gn (.t1 4) (Ac (AD ?_))
  refine AY rfl (.cell rfl .m3 (.inl ⟨(by rw [Bm.fl.len];exact Iv),rfl⟩) .n) ?_
  intro w1 hS
  have hS:=(hS.perm (Ax.perm (.c .h (.c .h (.c .h .n))))).A1
  have hq0:AI.Dv (A5 V1 ls1 ev1) a=_:=(BB c3)
  have hq:(AI.act (A5 V ls ev) a)=_:=(AI.GA c1 a).trans ((congrArg (fun X=>AI.Dv X a) hX.symm).trans hq0)
  refine⟨_,⟨y3,y4,y5,?gv2,?ga2,rfl⟩,hS⟩
  case gv2=>rw [hq];rfl
  case ga2=>rw [hq];dsimp only;exact y6
 have c3p:=kz c3
 refine Aa ?_
 refine AB (.t3 0 3 4) ?_
 refine AA (CG (Gt (Ai OU rfl) (Gt (AG rfl A2 .m4 Bz.l0 rfl rfl) (Gt (A7 rfl rfl) (Gm rfl (Bg 53 rfl rfl (fun q=>Ai OU rfl) (Bg 53 rfl rfl (fun q=>AG (cF rfl q) A2 .m4 Bz.l0 rfl rfl) ?_)))))))
 refine Bg 53 rfl rfl (fun q=>Cn (cF rfl q) rfl) ?_
 refine Gt (BS rfl rfl (fun h=>by rw [h];rfl)) ?_
 refine Gn (.t4 0 3 4 57) ?_
 refine Gc (fun c4=>?_) (fun c4=>?_)
 ·
  refine Gs (Gt (BC NM Ka rfl (.cons Bm.l0 rfl rfl rfl .nil)) ?_)
  refine AT (AK (AU.id Bm.fl.len Bm.fl.one) rfl rfl rfl KS rfl (.t (.t (.t .h)))) ?_
  refine Gn (.t1 4) (Ac (AD ?_))
  refine AY rfl (.cell rfl .m3 (.inl ⟨(by rw [Bm.fl.len];exact Iv),rfl⟩) .n) ?_
  intro w1 hS
  have hS:=(hS.perm (Ax.perm (.c .h (.c .h (.c .h .n))))).A1
  have hq0:AI.Dv (A5 V1 ls1 ev1) a=_:=((AX c3).trans (BB c4))
  have hq:(AI.act (A5 V ls ev) a)=_:=(AI.GA c1 a).trans ((congrArg (fun X=>AI.Dv X a) hX.symm).trans hq0)
  refine⟨_,⟨V1,ls1,ev1,?gv3,?ga3,rfl⟩,hS⟩
  case gv3=>rw [hq];rfl
  case ga3=>rw [hq]
 have c4p:=kz c4
 refine Aa ?_
 refine AB (.t3 0 3 4) ?_
 refine AA (CG (Gt (Ai Ts rfl) (Gt (AG rfl A2 .m4 Bz.l1 rfl rfl) (Gt (A7 rfl rfl) (Gm rfl (Bg 62 rfl rfl (fun q=>Ai Ts rfl) (Bg 62 rfl rfl (fun q=>AG (cF rfl q) A2 .m4 Bz.l1 rfl rfl) ?_)))))))
 refine Bg 62 rfl rfl (fun q=>CK (cF rfl q) rfl) ?_
 refine Gt (BS rfl rfl (fun h=>by rw [h];rfl)) ?_
 refine Gn (.t4 0 3 4 66) ?_
 refine Gc (fun c5=>?_) (fun c5=>?_)
 ·
  refine Gs (Gt (BC NM Ka rfl (.cons Bm.l0 rfl rfl rfl .nil)) ?_)
  refine AT (AK (AU.id Bm.fl.len Bm.fl.one) rfl rfl rfl KS rfl (.t (.t (.t .h)))) ?_
  refine Gn (.t1 4) (Ac (AD ?_))
  refine AY rfl (.cell rfl .m3 (.inl ⟨(by rw [Bm.fl.len];exact Iv),rfl⟩) .n) ?_
  intro w1 hS
  have hS:=(hS.perm (Ax.perm (.c .h (.c .h (.c .h .n))))).A1
  have hq0:AI.Dv (A5 V1 ls1 ev1) a=_:=((AX c3).trans ((AX c4).trans (BB c5)))
  have hq:(AI.act (A5 V ls ev) a)=_:=(AI.GA c1 a).trans ((congrArg (fun X=>AI.Dv X a) hX.symm).trans hq0)
  refine⟨_,⟨V1,ls1,ev1,?gv4,?ga4,rfl⟩,hS⟩
  case gv4=>rw [hq];rfl
  case ga4=>rw [hq]
 have c5p:=kz c5
 have hs:0≤a.BL∧a.BL < 4:=⟨by omega,by omega⟩
 refine Aa ?_
 refine AB (.t3 0 3 4) ?_
 refine AA (Ao ?_)
 refine BE (N:=7) [0,0,2,1,9,31,63] mix (by kernel_rfl) rfl ?_
 refine Pf 0 rfl (AF rfl) (Pf 1 rfl (Ai Ts rfl) (Pf 2 rfl (AG rfl A2 .m4 Bz.l1 rfl rfl) (Pf 3 rfl (BV rfl) (Pf 4 rfl (Ai HH rfl) ?_))))
 refine Pf 5 rfl (AR Qu rfl rfl (by first | omega | exact hi.1 | exact hi.2 | exact hs.1 | exact hs.2) (by first | omega | exact hi.1 | exact hi.2 | exact hs.1 | exact hs.2)) ?_
 refine Pf 6 rfl (A0 rfl) ?_
 refine A4 (by kernel_rfl) ?_
 refine AB (.t4 0 3 4 6) ?_
 refine AA (Ao (Ao ?_))
 refine BE (N:=9) [0,1,3,7,15,0,32,96,255] mix (by kernel_rfl) rfl ?_
 refine Pf 0 rfl (AF rfl) (Pf 1 rfl (BV rfl) (Pf 2 rfl (Ai I4 rfl) ?_))
 refine Pf 3 rfl (AG rfl A2 .m0 ((AM.l1.comp (AU.ar (n:=4) A3.fl (by first | omega | exact hi | exact hs))).comp A3.l0) rfl rfl) ?_
 refine Pf 4 rfl (Af rfl rfl) (Pf 5 rfl (Ai OU rfl) (Pf 6 rfl (AG rfl A2 .m4 Bz.l0 rfl rfl) (Pf 7 rfl (Af rfl rfl) (Pf 8 rfl (JW Tryz.underlying4 rfl rfl) ?_))))
 refine A4 (by kernel_rfl) ?_
 refine AB (.t5 0 3 4 6 82) ?_
 refine AA ?_
 refine Gc (fun c6=>?_) (fun c6=>?_)
 ·
  refine Gs (Gt (BC NM Ka rfl (.cons Bm.l0 rfl rfl rfl .nil)) ?_)
  refine AT (AK (AU.id Bm.fl.len Bm.fl.one) rfl rfl rfl KS rfl (.t (.t (.t .h)))) ?_
  refine Gn (.t1 4) (Ac (AD ?_))
  refine AY rfl (.cell rfl .m3 (.inl ⟨(by rw [Bm.fl.len];exact Iv),rfl⟩) .n) ?_
  intro w1 hS
  have hS:=(hS.perm (Ax.perm (.c .h (.c .h (.c .h .n))))).A1
  have hq0:AI.Dv (A5 V1 ls1 ev1) a=_:=((AX c3).trans ((AX c4).trans ((AX c5).trans (BB (show(decide ((AI.at_ (A5 V1 ls1 ev1) a.BL).state=0) != decide (a.kind=1))=true by rw [Gb V1 ls1 ev1 hs.1 hs.2];exact c6)))))
  have hq:(AI.act (A5 V ls ev) a)=_:=(AI.GA c1 a).trans ((congrArg (fun X=>AI.Dv X a) hX.symm).trans hq0)
  refine⟨_,⟨V1,ls1,ev1,?gv5,?ga5,rfl⟩,hS⟩
  case gv5=>rw [hq];rfl
  case ga5=>rw [hq]
 have c6p:=kz c6
 refine Aa ?_
 refine AB (.t4 0 3 4 6) ?_
 refine AA (CG (Gt (Ai OU rfl) (Gt (AG rfl A2 .m4 Bz.l0 rfl rfl) (Gn (.t5 0 3 4 6 85) (Ae (Gs (Gt (Af rfl rfl) ?_)))))))
 refine Ga rfl (Gn (.t6 0 3 4 6 85 86) ?_)
 refine Gc (fun c7=>?_) (fun c7=>?_)
 ·
  have c7p:=kz c7
  refine AJ (Gm rfl (Gm rfl ?_))
  refine BF rfl dR (.c rfl (.c rfl .n)) (.c .h (.c .h (.c .h .n))) (RQ _ V1 ls1 ev1 a.BL 0 0 hs hF0 (by omega) (by omega)) (fun w hS=>⟨gl0.pull gm0 hS (.c .h (.c .h (.c .h .n))),gl1.pull gm1 hS (.c .h (.c .h (.c .h .n))),gl2.pull gm2 hS (.c .h (.c .h (.c .h .n))),gl3.pull gm3 hS (.c .h (.c .h (.c .h .n)))⟩) (fun v7 B hv=>?_)
  obtain⟨y8,y9,y10,rfl,y11,rfl⟩:=hv
  refine AQ (AB (.t1 4) ?_)
  refine AV (AA (Gs (Gt (BC NM Ka rfl .nil) ?_)))
  refine AT (AK (AU.id Bm.fl.len Bm.fl.one) rfl rfl rfl KS rfl (.t (.t (.t .h)))) ?_
  refine Gn (.t1 4) (Ac ?_)
  refine AY rfl (.cell rfl .m3 (.inl ⟨(by rw [Bm.fl.len];exact Iv),rfl⟩) .n) ?_
  intro w1 hS
  have hS:=(hS.perm (Ax.perm (.c .h (.c .h (.c .h .n))))).A1
  have hq0:AI.Dv (A5 V1 ls1 ev1) a=_:=((AX c3).trans ((AX c4).trans ((AX c5).trans ((AX (show(decide ((AI.at_ (A5 V1 ls1 ev1) a.BL).state=0) != decide (a.kind=1))=false by rw [Gb V1 ls1 ev1 hs.1 hs.2];exact c6)).trans (BB c7)))))
  have hq:(AI.act (A5 V ls ev) a)=_:=(AI.GA c1 a).trans ((congrArg (fun X=>AI.Dv X a) hX.symm).trans hq0)
  refine⟨_,⟨y8,y9,y10,?gv6,?ga6,rfl⟩,hS⟩
  case gv6=>rw [hq];rfl
  case ga6=>rw [hq];dsimp only;exact y11
 have c7p:=kz c7
 refine Gs (Gt (Af rfl rfl) (Ga rfl (Gn (.t6 0 3 4 6 85 91) ?_)))
 refine Gc (fun c8=>?_) (fun c8=>?_)
 ·
  have c8p:=kz c8
  refine Gs (Ga rfl (Ga rfl (Gn (.t4 0 3 4 6) (Ao ?_))))
  refine Ft (k:=a.BL) hs.1 hs.2 (fun sv sl hsv hlv hln=>?_)
  refine BE (N:=18) [0,0,2,6,14,0,32,126,254,510,510,510,510,1023,9215,25599,59391,126975] mix (by kernel_rfl) rfl ?_
  refine Pf 0 rfl (AF rfl) (Pf 1 rfl (AF rfl) (Pf 2 rfl (BV rfl) (Pf 3 rfl (Ai K7 rfl) (Pf 4 rfl (AZ rfl D5 .m3 ((AU.BL V1 hs.1 hs.2).comp A3.l2) rfl) (Pf 5 rfl (Ai aL rfl) (Pf 6 rfl (AG rfl CX .m7 Bz.l3 rfl rfl) ?_))))))
  refine BX 7 rfl rfl (by kernel_rfl) (MD (LJ (D9 eK (.c rfl (.c rfl .n)) (fun w hS=>Mh _ _ (by omega) w)))) ?_
  refine Pf 8 rfl (AF rfl) (Pf 9 rfl (AN rfl rfl) (Pf 10 rfl (AN rfl rfl) (Pf 11 rfl (AN rfl rfl) (Pf 12 rfl (AN rfl rfl) (Pf 13 rfl (BV rfl) (Pf 14 rfl (Ai K7 rfl) ?_))))))
  refine An 15 rfl (by kernel_rfl) ?_
  refine AT (AK ((AU.BL V1 hs.1 hs.2).comp A3.l2) rfl rfl rfl KT rfl (.t (.t (.t .h)))) ?_
  refine BN rfl ⟨?_,?_⟩
  · exact(Pk (Pk (Po rfl (AN rfl rfl) rfl rfl (Po rfl (AN rfl rfl) rfl rfl (Po rfl (AN rfl rfl) rfl rfl (Pk (Pk (Pk (Pk (Pk (Pk (Pk (Pk (Pk (Pk As)))))))))))))))
  refine Pf 16 rfl (A0 rfl) (Pf 17 rfl (A0 rfl) ?_)
  refine A4 (by kernel_rfl) ?_
  refine AB (.t5 0 4 6 7 8) ?_
  refine AA (Gs (Gm rfl (Gm rfl (Gt (BV rfl) (Gt (Ai D2 rfl) (Gt (AZ rfl C5 .m3 ((AU.BL V1 hs.1 hs.2).comp A3.l4) rfl) (Gm rfl ?_)))))))
  refine BA rfl XW (.c rfl (.c rfl .n)) (fun w hS=>ET _ _ (by have h:=AP.Vn sv.Dw a.bytes;omega) w) ?_
  refine Gm rfl (Gt (AN rfl rfl) (Gt (AN rfl rfl) (Gt (BV rfl) (Gt (Ai D2 rfl) ?_))))
  refine AT (AK ((AU.BL V1 hs.1 hs.2).comp A3.l4) rfl rfl rfl Fz rfl (.t (.t (.t .h)))) ?_
  refine Gn (.t4 0 4 6 7) (Gs (Ga rfl (Gn (.t4 0 4 6 7) (CG (Gm rfl (Gm rfl (Gt (BV rfl) ?_)))))))
  refine Gt (Ai Mp rfl) (Gt (AZ rfl Jc .m3 ((AU.BL V1 hs.1 hs.2).comp A3.l3) rfl) (Gm rfl ?_))
  refine BF rfl dP (.c rfl (.c rfl .n)) .n (PN _ _ _ (by have h:=Vt sv.Dw a.bytes;omega)) (fun w hS=>(Kn.own .m0) w hS) (fun v12 B hv=>?_)
  rcases hv with ⟨y13,rfl,rfl⟩ | ⟨y14,y15,rfl,y16,rfl⟩
  ·
   refine Gm rfl (Gt (AN rfl rfl) (Gt (AN rfl rfl) (Gt (AN rfl rfl) (Gt (BV rfl) (Gt (Ai Mp rfl) ?_)))))
   refine AT (AK ((AU.BL V1 hs.1 hs.2).comp A3.l3) rfl rfl rfl O3 rfl (.t (.t (.t .h)))) ?_
   refine Ga rfl (Gn (.t4 0 4 6 9) (Ao ?_))
   refine Ey (.c .h (.c .h (.c .h (.c .h (.c .h .n))))) ?_
   refine HM hs.1 hs.2 (by rfl) (by rfl) (by rfl) ?_
   refine AJ (Gm rfl (Gt (Cn rfl rfl) (Gn (.t4 0 4 6 134) ?_)))
   refine Gc (fun c9=>?_) (fun c9=>?_)
   ·
    have c9p:=kz c9
    refine AJ (Gm rfl (Gm rfl ?_))
    refine Ah rfl TV (.c rfl (.c rfl (.c rfl .n))) (.c .h (.c .h (.c .h .n))) (EL _ (AM.BL V1 a.BL (heard sv a.bytes)) (ls1.put a.BL ⟨sl.queue,sl.wait,sl.told⟩) ev1 a.BL _ hs (Nat.le_trans (GX (Iy hs.1 hs.2 (FH (V:=V1) (ls:=ls1) (ev:=ev1) hs.1 hs.2 hsv hlv (Hn (u:=a.bytes) hln.2.1 hln.1 y13)) hF0) a.BL hs.1 hs.2) (by omega))) (fun v18 B hv=>?_)
    obtain⟨y19,y20,y21,rfl,y22,rfl⟩:=hv
    refine Gn (.t2 0 4) (AJ (Gm rfl ?_))
    refine BF rfl SX (.c rfl .n) (.c .h (.c .h (.c .h .n))) (Dt _ y19 y20 y21 1 0 (by rw [y22];exact(Iy hs.1 hs.2 (FH (V:=V1) (ls:=ls1) (ev:=ev1) hs.1 hs.2 hsv hlv (Hn (u:=a.bytes) hln.2.1 hln.1 y13)) hF0).tell hs.1 hs.2 (show AI.Oi.length≤_ by decide)) (by omega) (by omega)) (fun w hS=>⟨gl0.pull gm0 hS (.c .h (.c .h (.c .h .n))),gl1.pull gm1 hS (.c .h (.c .h (.c .h .n))),gl2.pull gm2 hS (.c .h (.c .h (.c .h .n))),gl3.pull gm3 hS (.c .h (.c .h (.c .h .n)))⟩) (fun v23 B hv=>?_)
    obtain⟨y24,y25,y26,rfl,y27,rfl⟩:=hv
    refine AQ (AB (.t1 4) ?_)
    refine AV (AA (Gs (Gt (BC NM Ka rfl .nil) ?_)))
    refine AT (AK (AU.id Bm.fl.len Bm.fl.one) rfl rfl rfl KS rfl (.t (.t (.t .h)))) ?_
    refine Gn (.t1 4) (Ac ?_)
    refine AY rfl (.cell rfl .m3 (.inl ⟨(by rw [Bm.fl.len];exact Iv),rfl⟩) .n) ?_
    intro w1 hS
    have hS:=(hS.perm (Ax.perm (.c .h (.c .h (.c .h .n))))).A1
    have hq0:AI.Dv (A5 V1 ls1 ev1) a=_:=((AX c3).trans ((AX c4).trans ((AX c5).trans ((AX (show(decide ((AI.at_ (A5 V1 ls1 ev1) a.BL).state=0) != decide (a.kind=1))=false by rw [Gb V1 ls1 ev1 hs.1 hs.2];exact c6)).trans ((AX c7).trans (BB c8))))))
    have hq:(AI.act (A5 V ls ev) a)=_:=(AI.GA c1 a).trans ((congrArg (fun X=>AI.Dv X a) hX.symm).trans hq0)
    refine⟨_,⟨y24,y25,y26,?gv7,?ga7,rfl⟩,hS⟩
    case gv7=>rw [hq];rfl
    case ga7=>rw [hq];dsimp only;exact(Lg hs.1 hs.2 (FH (V:=V1) (ls:=ls1) (ev:=ev1) hs.1 hs.2 hsv hlv (Hn (u:=a.bytes) hln.2.1 hln.1 y13)) (.inl ⟨c9,y22⟩) y27)
   have c9p:=kz c9
   refine Aa ?_
   refine AB (.t2 0 4) ?_
   refine AA (AJ (Gm rfl ?_))
   refine BF rfl SX (.c rfl .n) (.c .h (.c .h (.c .h .n))) (Dt _ (AM.BL V1 a.BL (heard sv a.bytes)) (ls1.put a.BL ⟨sl.queue,sl.wait,sl.told⟩) ev1 0 0 (Iy hs.1 hs.2 (FH (V:=V1) (ls:=ls1) (ev:=ev1) hs.1 hs.2 hsv hlv (Hn (u:=a.bytes) hln.2.1 hln.1 y13)) hF0) (by omega) (by omega)) (fun w hS=>⟨gl0.pull gm0 hS (.c .h (.c .h (.c .h .n))),gl1.pull gm1 hS (.c .h (.c .h (.c .h .n))),gl2.pull gm2 hS (.c .h (.c .h (.c .h .n))),gl3.pull gm3 hS (.c .h (.c .h (.c .h .n)))⟩) (fun v28 B hv=>?_)
   obtain⟨y29,y30,y31,rfl,y32,rfl⟩:=hv
   refine AQ (AB (.t1 4) ?_)
   refine AV (AA (Gs (Gt (BC NM Ka rfl .nil) ?_)))
   refine AT (AK (AU.id Bm.fl.len Bm.fl.one) rfl rfl rfl KS rfl (.t (.t (.t .h)))) ?_
   refine Gn (.t1 4) (Ac ?_)
   refine AY rfl (.cell rfl .m3 (.inl ⟨(by rw [Bm.fl.len];exact Iv),rfl⟩) .n) ?_
   intro w1 hS
   have hS:=(hS.perm (Ax.perm (.c .h (.c .h (.c .h .n))))).A1
   have hq0:AI.Dv (A5 V1 ls1 ev1) a=_:=((AX c3).trans ((AX c4).trans ((AX c5).trans ((AX (show(decide ((AI.at_ (A5 V1 ls1 ev1) a.BL).state=0) != decide (a.kind=1))=false by rw [Gb V1 ls1 ev1 hs.1 hs.2];exact c6)).trans ((AX c7).trans (BB c8))))))
   have hq:(AI.act (A5 V ls ev) a)=_:=(AI.GA c1 a).trans ((congrArg (fun X=>AI.Dv X a) hX.symm).trans hq0)
   refine⟨_,⟨y29,y30,y31,?gv8,?ga8,rfl⟩,hS⟩
   case gv8=>rw [hq];rfl
   case ga8=>rw [hq];dsimp only;exact(Lg hs.1 hs.2 (FH (V:=V1) (ls:=ls1) (ev:=ev1) hs.1 hs.2 hsv hlv (Hn (u:=a.bytes) hln.2.1 hln.1 y13)) (.inr ⟨c9,rfl⟩) y32)
  refine Gm rfl (Gt (AN rfl rfl) (Gt (AN rfl rfl) (Gt (AN rfl rfl) (Gt (BV rfl) (Gt (Ai Mp rfl) ?_)))))
  refine AT (AK ((AU.BL V1 hs.1 hs.2).comp A3.l3) rfl rfl rfl O3 rfl (.t (.t (.t (.t .h))))) ?_
  refine Ga rfl (Gn (.t4 0 4 6 9) (Ao ?_))
  refine Ey (.c .h (.c (.t .h) (.c (.t .h) (.c (.t .h) (.c (.t .h) .n))))) ?_
  refine HM hs.1 hs.2 (by rfl) (by rfl) (by rfl) ?_
  refine AJ (Gm rfl (Gt (Cn rfl rfl) (Gn (.t4 0 4 6 134) ?_)))
  refine Gc (fun c10=>?_) (fun c10=>?_)
  ·
   have c10p:=kz c10
   refine AJ (Gm rfl (Gm rfl ?_))
   refine Ah rfl TV (.c rfl (.c rfl (.c rfl .n))) (.c .h (.c .h (.c (.t .h) .n))) (EL _ (AM.BL V1 a.BL { heard sv a.bytes with Ec:=⟨(Bi.feed (Bi.start sv.Ec sl.queue) (sv.Dw.Dg a.bytes).2.1).now,(Bi.feed (Bi.start sv.Ec sl.queue) (sv.Dw.Dg a.bytes).2.1).C0,(Bi.feed (Bi.start sv.Ec sl.queue) (sv.Dw.Dg a.bytes).2.1).ret,y15⟩ }) (ls1.put a.BL ⟨(Bi.feed (Bi.start sv.Ec sl.queue) (sv.Dw.Dg a.bytes).2.1).queue,sl.wait,sl.told⟩) ev1 a.BL _ hs (Nat.le_trans (GX (Iy hs.1 hs.2 (FH (V:=V1) (ls:=ls1) (ev:=ev1) hs.1 hs.2 hsv hlv (Iq (u:=a.bytes) hln.2.1 hln.1 y14 y15)) hF0) a.BL hs.1 hs.2) (by omega))) (fun v33 B hv=>?_)
   obtain⟨y34,y35,y36,rfl,y37,rfl⟩:=hv
   refine Gn (.t2 0 4) (AJ (Gm rfl ?_))
   refine BF rfl SX (.c rfl .n) (.c .h (.c .h (.c .h .n))) (Dt _ y34 y35 y36 1 0 (by rw [y37];exact(Iy hs.1 hs.2 (FH (V:=V1) (ls:=ls1) (ev:=ev1) hs.1 hs.2 hsv hlv (Iq (u:=a.bytes) hln.2.1 hln.1 y14 y15)) hF0).tell hs.1 hs.2 (show AI.Oi.length≤_ by decide)) (by omega) (by omega)) (fun w hS=>⟨gl0.pull gm0 hS (.c .h (.c .h (.c .h .n))),gl1.pull gm1 hS (.c .h (.c .h (.c .h .n))),gl2.pull gm2 hS (.c .h (.c .h (.c .h .n))),gl3.pull gm3 hS (.c .h (.c .h (.c .h .n)))⟩) (fun v38 B hv=>?_)
   obtain⟨y39,y40,y41,rfl,y42,rfl⟩:=hv
   refine AQ (AB (.t1 4) ?_)
   refine AV (AA (Gs (Gt (BC NM Ka rfl .nil) ?_)))
   refine AT (AK (AU.id Bm.fl.len Bm.fl.one) rfl rfl rfl KS rfl (.t (.t (.t (.t .h))))) ?_
   refine Gn (.t1 4) (Ac ?_)
   refine AY rfl (.cell rfl .m4 (.inl ⟨(by rw [Bm.fl.len];exact Iv),rfl⟩) .n) ?_
   intro w1 hS
   have hS:=(hS.perm (Ax.perm (.c .h (.c .h (.c .h .n))))).A1
   have hq0:AI.Dv (A5 V1 ls1 ev1) a=_:=((AX c3).trans ((AX c4).trans ((AX c5).trans ((AX (show(decide ((AI.at_ (A5 V1 ls1 ev1) a.BL).state=0) != decide (a.kind=1))=false by rw [Gb V1 ls1 ev1 hs.1 hs.2];exact c6)).trans ((AX c7).trans (BB c8))))))
   have hq:(AI.act (A5 V ls ev) a)=_:=(AI.GA c1 a).trans ((congrArg (fun X=>AI.Dv X a) hX.symm).trans hq0)
   refine⟨_,⟨y39,y40,y41,?gv9,?ga9,rfl⟩,hS⟩
   case gv9=>rw [hq];rfl
   case ga9=>rw [hq];dsimp only;exact(Lg hs.1 hs.2 (FH (V:=V1) (ls:=ls1) (ev:=ev1) hs.1 hs.2 hsv hlv (Iq (u:=a.bytes) hln.2.1 hln.1 y14 y15)) (.inl ⟨c10,y37⟩) y42)
  have c10p:=kz c10
  refine Aa ?_
  refine AB (.t2 0 4) ?_
  refine AA (AJ (Gm rfl ?_))
  refine BF rfl SX (.c rfl .n) (.c .h (.c .h (.c (.t .h) .n))) (Dt _ (AM.BL V1 a.BL { heard sv a.bytes with Ec:=⟨(Bi.feed (Bi.start sv.Ec sl.queue) (sv.Dw.Dg a.bytes).2.1).now,(Bi.feed (Bi.start sv.Ec sl.queue) (sv.Dw.Dg a.bytes).2.1).C0,(Bi.feed (Bi.start sv.Ec sl.queue) (sv.Dw.Dg a.bytes).2.1).ret,y15⟩ }) (ls1.put a.BL ⟨(Bi.feed (Bi.start sv.Ec sl.queue) (sv.Dw.Dg a.bytes).2.1).queue,sl.wait,sl.told⟩) ev1 0 0 (Iy hs.1 hs.2 (FH (V:=V1) (ls:=ls1) (ev:=ev1) hs.1 hs.2 hsv hlv (Iq (u:=a.bytes) hln.2.1 hln.1 y14 y15)) hF0) (by omega) (by omega)) (fun w hS=>⟨gl0.pull gm0 hS (.c .h (.c .h (.c (.t .h) .n))),gl1.pull gm1 hS (.c .h (.c .h (.c (.t .h) .n))),gl2.pull gm2 hS (.c .h (.c .h (.c (.t .h) .n))),gl3.pull gm3 hS (.c .h (.c .h (.c (.t .h) .n)))⟩) (fun v43 B hv=>?_)
  obtain⟨y44,y45,y46,rfl,y47,rfl⟩:=hv
  refine AQ (AB (.t1 4) ?_)
  refine AV (AA (Gs (Gt (BC NM Ka rfl .nil) ?_)))
  refine AT (AK (AU.id Bm.fl.len Bm.fl.one) rfl rfl rfl KS rfl (.t (.t (.t (.t .h))))) ?_
  refine Gn (.t1 4) (Ac ?_)
  refine AY rfl (.cell rfl .m4 (.inl ⟨(by rw [Bm.fl.len];exact Iv),rfl⟩) .n) ?_
  intro w1 hS
  have hS:=(hS.perm (Ax.perm (.c .h (.c .h (.c .h .n))))).A1
  have hq0:AI.Dv (A5 V1 ls1 ev1) a=_:=((AX c3).trans ((AX c4).trans ((AX c5).trans ((AX (show(decide ((AI.at_ (A5 V1 ls1 ev1) a.BL).state=0) != decide (a.kind=1))=false by rw [Gb V1 ls1 ev1 hs.1 hs.2];exact c6)).trans ((AX c7).trans (BB c8))))))
  have hq:(AI.act (A5 V ls ev) a)=_:=(AI.GA c1 a).trans ((congrArg (fun X=>AI.Dv X a) hX.symm).trans hq0)
  refine⟨_,⟨y44,y45,y46,?gv10,?ga10,rfl⟩,hS⟩
  case gv10=>rw [hq];rfl
  case ga10=>rw [hq];dsimp only;exact(Lg hs.1 hs.2 (FH (V:=V1) (ls:=ls1) (ev:=ev1) hs.1 hs.2 hsv hlv (Iq (u:=a.bytes) hln.2.1 hln.1 y14 y15)) (.inr ⟨c10,rfl⟩) y47)
 have c8p:=kz c8
 refine Gs (Gt (Af rfl rfl) (Ga rfl (Gn (.t6 0 3 4 6 85 140) ?_)))
 refine Gc (fun c11=>?_) (fun c11=>?_)
 ·
  have c11p:=kz c11
  refine Gs (Ga rfl (Gn (.t4 0 3 4 6) (Ao ?_)))
  refine Ft (k:=a.BL) hs.1 hs.2 (fun sv sl hsv hlv hln=>?_)
  refine BE (N:=15) [0,0,2,6,14,0,32,126,254,510,510,1023,3071,7167,16383] mix (by kernel_rfl) rfl ?_
  refine Pf 0 rfl (AF rfl) (Pf 1 rfl (AF rfl) (Pf 2 rfl (BV rfl) (Pf 3 rfl (Ai D2 rfl) (Pf 4 rfl (AZ rfl C5 .m3 ((AU.BL V1 hs.1 hs.2).comp A3.l4) rfl) (Pf 5 rfl (Ai Wo rfl) (Pf 6 rfl (AG rfl A2 .m7 Bz.l2 rfl rfl) ?_))))))
  refine BX 7 rfl rfl (by kernel_rfl) (MD (LJ (D9 eS (.c rfl (.c rfl .n)) (fun w hS=>NF _ _ w)))) ?_
  refine Pf 8 rfl (AF rfl) (Pf 9 rfl (AN rfl rfl) (Pf 10 rfl (AN rfl rfl) (Pf 11 rfl (BV rfl) (Pf 12 rfl (Ai D2 rfl) ?_))))
  refine An 13 rfl (by kernel_rfl) ?_
  refine AT (AK ((AU.BL V1 hs.1 hs.2).comp A3.l4) rfl rfl rfl Fz rfl (.t (.t (.t .h)))) ?_
  refine BN rfl ⟨?_,?_⟩
  · exact(Pk (Pk (Po rfl (AN rfl rfl) rfl rfl (Pk (Pk (Pk (Pk (Pk (Pk (Pk (Pk (Pk (Pk As)))))))))))))
  refine Pf 14 rfl (A0 rfl) ?_
  refine A4 (by kernel_rfl) ?_
  refine AB (.t3 0 4 10) ?_
  refine AA (Ao ?_)
  refine Ey (.c .h (.c .h (.c .h (.c .h (.c .h .n))))) ?_
  refine HM hs.1 hs.2 (by rfl) (by rfl) (by rfl) ?_
  refine AJ (Gm rfl ?_)
  refine BF rfl SX (.c rfl .n) (.c .h (.c .h (.c .h .n))) (Dt _ (AM.BL V1 a.BL { sv with out:=⟨sv.out.wait,sv.out.shown,sv.out.B9,sv.out.ring.drop (max 0 (min a.n (sv.out.ring.length:Int))).toNat,sv.out.cut⟩ }) (ls1.put a.BL ⟨sl.queue,sl.wait,sl.told⟩) ev1 0 0 (by rw [(show A5 (AM.BL V1 a.BL { sv with out:=⟨sv.out.wait,sv.out.shown,sv.out.B9,sv.out.ring.drop (max 0 (min a.n (sv.out.ring.length:Int))).toNat,sv.out.cut⟩ }) (ls1.put a.BL ⟨sl.queue,sl.wait,sl.told⟩) ev1=AI.set (A5 V1 ls1 ev1) a.BL ((AI.at_ (A5 V1 ls1 ev1) a.BL).G6 a.n) from Em hs.1 hs.2 hsv hlv (f:=fun x=>x.G6 a.n) rfl)];exact hF0.G6 hs.1 hs.2 a.n) (by omega) (by omega)) (fun w hS=>⟨gl0.pull gm0 hS (.c .h (.c .h (.c .h .n))),gl1.pull gm1 hS (.c .h (.c .h (.c .h .n))),gl2.pull gm2 hS (.c .h (.c .h (.c .h .n))),gl3.pull gm3 hS (.c .h (.c .h (.c .h .n)))⟩) (fun v48 B hv=>?_)
  obtain⟨y49,y50,y51,rfl,y52,rfl⟩:=hv
  refine Gn (.t2 4 10) (Gs (Gm rfl (Gt (BC NM Ka rfl (.cons Bm.l1 rfl rfl rfl .nil)) ?_)))
  refine AT (AK (AU.id Bm.fl.len Bm.fl.one) rfl rfl rfl KS rfl (.t (.t (.t .h)))) ?_
  refine Gn (.t1 4) (Ac (AS (AD ?_)))
  refine AY rfl (.cell rfl .m3 (.inl ⟨(by rw [Bm.fl.len];exact Iv),rfl⟩) .n) ?_
  intro w1 hS
  have hS:=(hS.perm (Ax.perm (.c .h (.c .h (.c .h .n))))).A1
  have hq0:AI.Dv (A5 V1 ls1 ev1) a=_:=((AX c3).trans ((AX c4).trans ((AX c5).trans ((AX (show(decide ((AI.at_ (A5 V1 ls1 ev1) a.BL).state=0) != decide (a.kind=1))=false by rw [Gb V1 ls1 ev1 hs.1 hs.2];exact c6)).trans ((AX c7).trans ((AX c8).trans (BB c11)))))))
  have hq:(AI.act (A5 V ls ev) a)=_:=(AI.GA c1 a).trans ((congrArg (fun X=>AI.Dv X a) hX.symm).trans hq0)
  refine⟨_,⟨y49,y50,y51,?gv11,?ga11,rfl⟩,hS⟩
  case gv11=>rw [hq];exact congrArg (fun x=>Value.agg (Bm.enc ⟨0,x⟩).toArray) (Wq V1 ls1 ev1 hs.1 hs.2 hsv a.n)
  case ga11=>rw [hq];dsimp only;exact y52.trans (congrArg AI.BZ (show A5 (AM.BL V1 a.BL { sv with out:=⟨sv.out.wait,sv.out.shown,sv.out.B9,sv.out.ring.drop (max 0 (min a.n (sv.out.ring.length:Int))).toNat,sv.out.cut⟩ }) (ls1.put a.BL ⟨sl.queue,sl.wait,sl.told⟩) ev1=AI.set (A5 V1 ls1 ev1) a.BL ((AI.at_ (A5 V1 ls1 ev1) a.BL).G6 a.n) from Em hs.1 hs.2 hsv hlv (f:=fun x=>x.G6 a.n) rfl))
 have c11p:=kz c11
 refine Gs (Gt (Af rfl rfl) (Ga rfl (Gn (.t4 0 4 6 159) ?_)))
 refine G1 rfl (decide_eq_true (by omega)) ?_
 refine Gs (Gm rfl (Gm rfl ?_))
 refine BF rfl aD (.c rfl (.c rfl .n)) (.c .h (.c .h (.c .h .n))) (IN _ V1 ls1 ev1 a.BL 0 0 hs hF0 (by omega) (by omega)) (fun w hS=>⟨gl0.pull gm0 hS (.c .h (.c .h (.c .h .n))),gl1.pull gm1 hS (.c .h (.c .h (.c .h .n))),gl2.pull gm2 hS (.c .h (.c .h (.c .h .n))),gl3.pull gm3 hS (.c .h (.c .h (.c .h .n)))⟩) (fun v53 B hv=>?_)
 obtain⟨y54,y55,y56,rfl,y57,rfl⟩:=hv
 refine Gn (.t2 0 4) (AJ (Gm rfl ?_))
 refine BF rfl SX (.c rfl .n) (.c .h (.c .h (.c .h .n))) (Dt _ y54 y55 y56 11 11 (by rw [y57];exact hF0.leave hs.1 hs.2) (by omega) (by omega)) (fun w hS=>⟨gl0.pull gm0 hS (.c .h (.c .h (.c .h .n))),gl1.pull gm1 hS (.c .h (.c .h (.c .h .n))),gl2.pull gm2 hS (.c .h (.c .h (.c .h .n))),gl3.pull gm3 hS (.c .h (.c .h (.c .h .n)))⟩) (fun v58 B hv=>?_)
 obtain⟨y59,y60,y61,rfl,y62,rfl⟩:=hv
 refine AQ (AB (.t1 4) ?_)
 refine AV (AA (Gs (Gt (BC NM Ka rfl .nil) ?_)))
 refine AT (AK (AU.id Bm.fl.len Bm.fl.one) rfl rfl rfl KS rfl (.t (.t (.t .h)))) ?_
 refine Gn (.t1 4) (Ac ?_)
 refine AY rfl (.cell rfl .m3 (.inl ⟨(by rw [Bm.fl.len];exact Iv),rfl⟩) .n) ?_
 intro w1 hS
 have hS:=(hS.perm (Ax.perm (.c .h (.c .h (.c .h .n))))).A1
 have hq0:AI.Dv (A5 V1 ls1 ev1) a=_:=((AX c3).trans ((AX c4).trans ((AX c5).trans ((AX (show(decide ((AI.at_ (A5 V1 ls1 ev1) a.BL).state=0) != decide (a.kind=1))=false by rw [Gb V1 ls1 ev1 hs.1 hs.2];exact c6)).trans ((AX c7).trans ((AX c8).trans (AX c11)))))))
 have hq:(AI.act (A5 V ls ev) a)=_:=(AI.GA c1 a).trans ((congrArg (fun X=>AI.Dv X a) hX.symm).trans hq0)
 refine⟨_,⟨y59,y60,y61,?gv12,?ga12,rfl⟩,hS⟩
 case gv12=>rw [hq];rfl
 case ga12=>rw [hq];dsimp only;exact y62.trans (congrArg AI.BZ y57)
theorem Q4 (b:Nat)(V:AM)(ls:Vector BJ 4)(i:Int)(hi:0≤i∧i < 4)(hl:(ls.at i).told.length≤1000000):JQ Tryz.prog 24 #[.pointer (some ⟨b,0,none⟩), .int .i64 i] [Ab.box b 101 (AM.enc V),Ab.EB (CR 9 (AM.Au V) ls)] (fun v B=>∃ h':Hd,v=h'.val∧h'.len=(ls.at i).told.length∧B = [Ab.box b 101 (AM.enc V),Ab.EB (CR 9 (AM.Au V) ls),Ab.own h' 9 1 ((ls.at i).told.flatMap A8)]):=by
 intro w hS0
 refine Ak _ _ Tryz.func24 rfl rfl rfl (hS0) ?_
 refine Gs (Ga rfl (Gn (.t2 0 1) (CG (Gm rfl (Gt (Ei Tryz.underlying37 rfl) (Gm rfl ?_))))))
 refine Dq (t:=7) rfl rfl rfl (AF rfl) ?_
 refine Dq (t:=7) rfl rfl rfl (A7 rfl rfl) ?_
 refine Gt (Da rfl rfl) (Gm rfl (Bg 11 rfl rfl (fun q=>AF rfl) (Bg 11 rfl rfl (fun q=>CK (cF rfl q) rfl) ?_)))
 refine Gt (BS rfl rfl (fun h=>by rw [h];rfl)) ?_
 refine Gn (.t3 0 1 14) ?_
 refine Dr rfl (by rw [Bool.or_eq_false_iff,decide_eq_false_iff_not,decide_eq_false_iff_not];omega) ?_
 refine Aa ?_
 refine AB (.t2 0 1) ?_
 refine AA (Ao ?_)
 refine Ft (k:=i) hi.1 hi.2 (fun sv sl hsv hlv hln=>?_)
 have hl2:=hl
 rw [hlv] at hl2
 refine AJ (Gm rfl (Gm rfl (Gt (BV rfl) (Gt (Ai HH rfl) ?_))))
 refine Gt (AR Qu rfl rfl (by first | omega | exact hi.1 | exact hi.2) (by first | omega | exact hi.1 | exact hi.2)) ?_
 refine Gt (Ai Q5 rfl) (Gt (AG rfl F3 .m3 ((AU.BL V hi.1 hi.2).comp A3.l5) rfl rfl) ?_)
 refine Dm A8 9 1 ?_
 refine K6 (e:=A8) rfl Tryz.underlying52 E5 Sy rfl YZ (by decide) rfl rfl (fun w hS=>Src.D7 Tryz.underlying52 ((Kn.own .m3) w hS)) rfl rfl (by omega) (fun _=> .h) (fun h1 h1l=>?_)
 refine Ga rfl (Gn (.t1 4) (Ac ?_))
 refine AY rfl (.tmp rfl .n) ?_
 intro w1 hS
 have hS:=(hS.perm (Ax.perm (.c (.t .h) (.c (.t .h) (.c (.t .h) (.c (.t .h) (.c (.t .h) (.c .h .n)))))))).A1
 have e1:V.BL i sv=V:=by rw [← hsv];exact V.QX hi.1 hi.2
 have e2:ls.put i ⟨sl.queue,sl.wait,sl.told⟩=ls:=by rw [← hlv];exact Vector.RC ls hi.1 hi.2
 have hS:=St.close' (s:=sv) (qs:=sl.queue) (ws:=sl.wait) (ts:=sl.told) hi.1 hi.2 rfl rfl rfl hS
 rw [e1,e2] at hS
 try rw [hsv]
 rw [hlv]
 refine⟨_,⟨_,rfl,?gl,rfl⟩,hS⟩
 case gl=>(try simp only [List.length_append,List.length_nil] at *);omega
theorem Nh  (w:World)(gl0:GV 2 Fp w)(gl1:GV 0 AH.DJ w)(gl2:Gu 7 w)(gl3:Gu 8 w):Ed Tryz.prog 33 #[] w fun v w'=>v = .bool true∧CA w w':=by
 refine Ak [] [] Tryz.func33 rfl rfl rfl (St.start w []) ?_
 refine Gs (Ga rfl (Gn (.nil _) (Gs ?_)))
 refine Ah rfl cU .n .n (Jv ) (fun v1 B hv=>?_)
 obtain⟨y2,y3,y4,y5,rfl,y6,rfl⟩:=hv
 refine Ga rfl (Gn (.t1 1) (CG (Gm rfl (Gt (Ei Tryz.underlying37 rfl) (Gn (.t2 1 8) ?_)))))
 refine Dr rfl rfl ?_
 refine Aa ?_
 refine AB (.t1 1) ?_
 refine AA (Gs (Gm rfl (Gt (BC au aX rfl (.cons Bz.l0 rfl rfl rfl (.cons Bz.l1 rfl rfl rfl .nil))) ?_)))
 refine BF rfl Y8 (.c rfl (.c rfl .n)) (.c .h (.c .h (.c .h .n))) (I5 y2 y3 y4 y5 AI.Pu (by rw [y6];exact AI.eU) (by decide)) (fun w hS=>⟨gl0.pull (by simp) hS (.c .h (.c .h (.c .h .n))),gl1.pull (by simp) hS (.c .h (.c .h (.c .h .n))),gl2.pull (by simp) hS (.c .h (.c .h (.c .h .n))),gl3.pull (by simp) hS (.c .h (.c .h (.c .h .n)))⟩) (fun v8 B hv=>?_)
 obtain⟨y9,y10,y11,rfl,y12,rfl⟩:=hv
 refine BD rfl Ka rfl (fun b1=>?_)
 refine AT (AK (AU.id Bm.fl.len Bm.fl.one) rfl rfl rfl KS rfl .h) ?_
 refine Gn (.t2 1 2) (Gs (Gm rfl (Gt (BC au aX rfl (.cons Bz.l0 rfl rfl rfl (.cons Bz.l1 rfl rfl rfl (.cons Bz.l3 rfl rfl rfl .nil)))) ?_)))
 refine BF rfl Y8 (.c rfl (.c rfl .n)) (.c (.t .h) (.c (.t .h) (.c (.t .h) .n))) (I5 y2 y9 y10 y11 AI.type2 (by rw [y12,y6];exact AI.eZ) (by decide)) (fun w hS=>⟨gl0.pull (by simp) hS (.c (.t .h) (.c (.t .h) (.c (.t .h) .n))),gl1.pull (by simp) hS (.c (.t .h) (.c (.t .h) (.c (.t .h) .n))),gl2.pull (by simp) hS (.c (.t .h) (.c (.t .h) (.c (.t .h) .n))),gl3.pull (by simp) hS (.c (.t .h) (.c (.t .h) (.c (.t .h) .n)))⟩) (fun v13 B hv=>?_)
 obtain⟨y14,y15,y16,rfl,y17,rfl⟩:=hv
 refine Gn (.t2 1 2) (Gs (Gm rfl (Gt (BC au aX rfl (.cons Bz.l0 rfl rfl rfl .nil)) ?_)))
 refine BF rfl Y8 (.c rfl (.c rfl .n)) (.c .h (.c .h (.c .h .n))) (I5 y2 y14 y15 y16 AI.UC (by rw [y17,y12,y6];exact AI.eW) (by decide)) (fun w hS=>⟨gl0.pull (by simp) hS (.c .h (.c .h (.c .h .n))),gl1.pull (by simp) hS (.c .h (.c .h (.c .h .n))),gl2.pull (by simp) hS (.c .h (.c .h (.c .h .n))),gl3.pull (by simp) hS (.c .h (.c .h (.c .h .n)))⟩) (fun v18 B hv=>?_)
 obtain⟨y19,y20,y21,rfl,y22,rfl⟩:=hv
 refine BD rfl Ka rfl (fun b2=>?_)
 refine AT (AK (AU.id Bm.fl.len Bm.fl.one) rfl rfl rfl KS rfl .h) ?_
 refine Gn (.t3 1 2 3) (Ao ?_)
 have hA:A5 y19 y20 y21=AI.dI:=by rw [y22,y17,y12,y6];rfl
 have hA3:(A5 y19 y20 y21).Live:=by rw [hA];exact AI.XI
 refine AJ (Gm rfl ?_)
 refine Ah rfl cS (.c rfl (.c rfl .n)) (.c (.t .h) .n) (Ke y2 y19 2 (by decide)) (fun v23 B hv=>?_)
 obtain⟨rfl,rfl⟩:=hv
 refine Gm rfl (Gt (AN rfl rfl) (Gt (AN rfl rfl) (Ga rfl (Ga rfl (Gn (.t5 1 2 3 4 5) (Gs (Gt (Ai Xv rfl) ?_)))))))
 refine Gt (AG rfl Zo .m4 Bm.l0 rfl rfl) (Gt (Af rfl rfl) (Gm rfl (Bf 26 rfl rfl (fun q=>Ai Xv rfl) (Bf 26 rfl rfl (fun q=>AG (Bc rfl q) Zo .m1 Bm.l0 rfl rfl) (Bf 26 rfl rfl (fun q=>Af (Bc rfl q) rfl) (Gt (BG rfl rfl (fun h=>h)) (Gm rfl ?_)))))))
 refine Bf 31 rfl rfl (fun q=>AF rfl) (Bf 31 rfl rfl (fun q=>Af (Bc rfl q) rfl) (Gt (BG rfl rfl (fun h=>h)) (Gm rfl (Bf 35 rfl rfl (fun q=>AF rfl) (Bf 35 rfl rfl (fun q=>Af (Bc rfl q) rfl) (Gt (BG rfl rfl (fun h=>h)) (Gm rfl ?_)))))))
 refine Bf 39 rfl rfl (fun q=>AF rfl) ?_
 refine UZ 39 rfl (fun c1=>?_) (fun c1=>?_)
 ·
  refine Oe (t:=39) rfl (by first | rfl | exact eV rfl c1) rfl dz (.c (Bc rfl c1) (.c rfl .n)) (.c .h (.c (.t .h) .n)) (Q4 y2 y19 y20 2 (by decide) (hA3.told (by decide) (by decide))) (fun v24 B hv=>?_)
  obtain⟨y25,rfl,y26,rfl⟩:=hv
  refine Dq (t:=39) rfl rfl rfl (Ar rfl Tryz.underlying52 rfl) ?_
  refine Dq (t:=39) rfl rfl rfl (Cn rfl rfl) ?_
  refine Gt (DE rfl rfl) (Ga rfl (Gn (.t1 0) (Ac ?_)))
  refine AY rfl (.tmp rfl .n) ?_
  intro w1 hS;refine⟨?_,hS.Am⟩;have hd:=AI.dW
  rw [← hA,Cr _ _ _ (by decide) (by decide)] at hd
  exact congrArg Value.bool (by rw [y26];exact hd)
 refine Ct (t:=39) rfl rfl rfl rfl ?_
 refine Ct (t:=39) rfl rfl rfl rfl ?_
 refine Ct (t:=39) rfl rfl rfl rfl ?_
 refine Gt (Da rfl rfl) (Ga rfl (Gn (.t1 0) (Ac ?_)))
 refine AY rfl (.tmp rfl .n) ?_
 intro w1 hS;refine⟨?_,hS.Am⟩;have hs:=HD y19 y20 y21 (show(0:Int)≤2 by decide) (by decide)
 rw [hA,AI.eA] at hs
 have hc:=c1
 rw [hs,y6,AI.dM,y17,y12,y6,AI.eE] at hc
 cases hc
theorem Pl {t0:Nat}(c d:Nat)(T:Vector Int 4)(hT:∀ j:Int,0≤j→j < 4→T.at j=-1)(f:Hd)(l:List Bz)(hu:∀ a∈l,a.bytes.length≤140737488351232):FU Tryz.prog 16 #[f.val, .func (.func 35) #[] #[.pointer (some ⟨c,0,none⟩), .pointer (some ⟨d,0,none⟩)]] [Ab.box c 49 (Bx (n:=4) Aq T),Ab.box d 49 (Bx (n:=4) Aq (Vector.replicate 4 default))] (fun w=>dk w (Cg [Ab.box c 49 (Bx (n:=4) Aq T),Ab.box d 49 (Bx (n:=4) Aq (Vector.replicate 4 default))]) f t0 4 (l.flatMap Bz.enc)∧(GV 2 Fp w∧2 ∉ Cg [Ab.box c 49 (Bx (n:=4) Aq T),Ab.box d 49 (Bx (n:=4) Aq (Vector.replicate 4 default))])∧(GV 0 AH.DJ w∧0 ∉ Cg [Ab.box c 49 (Bx (n:=4) Aq T),Ab.box d 49 (Bx (n:=4) Aq (Vector.replicate 4 default))])∧(Gu 7 w∧7 ∉ Cg [Ab.box c 49 (Bx (n:=4) Aq T),Ab.box d 49 (Bx (n:=4) Aq (Vector.replicate 4 default))])∧(Gu 8 w∧8 ∉ Cg [Ab.box c 49 (Bx (n:=4) Aq T),Ab.box d 49 (Bx (n:=4) Aq (Vector.replicate 4 default))])) (fun v B=>∃ p:Option Addr,v = .tuple #[.pointer p, .bool true]∧B = []):=by
 intro w hS0 hH
 obtain⟨r0,⟨gl0,gm0⟩,⟨gl1,gm1⟩,⟨gl2,gm2⟩,⟨gl3,gm3⟩⟩:=hH
 have hfl:=r0.1.La Bz.fl (by decide)
 refine Ak _ _ Tryz.func16 rfl rfl rfl (hS0) ?_
 refine Gs (Ga rfl (Ga rfl (Gn (.t2 0 1) (CG ?_))))
 refine BA rfl dx .n (fun w hS=>Nh w (gl0.stM gm0 hS) (gl1.stM gm1 hS) (gl2.stM gm2 hS) (gl3.stM gm3 hS)) ?_
 refine Gt (BT rfl) (Gn (.t3 0 1 10) ?_)
 refine Dr rfl rfl ?_
 refine Aa ?_
 refine AB (.t2 0 1) ?_
 refine AA (Gs ?_)
 refine Ah rfl cU .n .n (Jv ) (fun v1 B hv=>?_)
 obtain⟨y2,y3,y4,y5,rfl,y6,rfl⟩:=hv
 refine Ga rfl (Gn (.t3 0 1 6) (CG (Ga rfl (AQ (AA (Ae ?_))))))
 refine Bn (.t4 7 0 1 6) ?_
 refine Ba (.t (.t (.t (.t .h)))) ?_
 refine Ba (.t (.t (.t (.t .h)))) ?_
 refine Ba (.t (.t (.t (.t .h)))) ?_
 refine Ba (.t (.t (.t (.t .h)))) ?_
 refine Ba (.t (.t (.t (.t .h)))) ?_
 refine Wg (fun(k:Int) (V1:AM) (ls1:Vector BJ 4) (ev1:List Ing.Event) (W1:Vector Int 4) (X1:Vector Int 4)=>0≤k∧k≤150∧k≤(l.length:Int)∧A5 V1 ls1 ev1=(AI.new.run (l.take k.toNat)).1∧(∀ j:Int,0≤j→j < 4→W1.at j=(((AI.new.run (l.take k.toNat)).1).Co j).2∧(0≤W1.at j→X1.at j=AI.QB ((AI.new.run (l.take k.toNat)).1) j))) (fun(k:Int) (V1:AM) (ls1:Vector BJ 4) (ev1:List Ing.Event) (W1:Vector Int 4) (X1:Vector Int 4)=>(150 - k).toNat) (fun(k:Int) (V1:AM) (ls1:Vector BJ 4) (ev1:List Ing.Event) (W1:Vector Int 4) (X1:Vector Int 4)=> [(7, .int .i64 k)]) (fun(k:Int) (V1:AM) (ls1:Vector BJ 4) (ev1:List Ing.Event) (W1:Vector Int 4) (X1:Vector Int 4)=> [Ab.box y2 101 (AM.enc V1),Ab.EB (CR 9 (AM.Au V1) ls1),Ab.own (AM.last V1) 56 16 (ev1.flatMap Ing.Event.enc),Ab.box c 49 (Bx (n:=4) Aq W1),Ab.box d 49 (Bx (n:=4) Aq X1)]) (0) (y3) (y4) (y5) (T) ((Vector.replicate 4 default)) ?_ rfl rfl (fun k V1 ls1 ev1 W1 X1 hI1=>?_)
 · exact⟨by omega,by omega,by omega,y6,(ZL hT)⟩
 obtain⟨hI11,hI12,hI13,hI14,hI15⟩:=hI1
 refine CG (Gm rfl (Gm rfl (Gt (Ar rfl Tryz.underlying22 rfl) (Gt (A7 rfl rfl) (Gm rfl (Bf 16 rfl rfl (fun q=>AF rfl) (Bf 16 rfl rfl (fun q=>A7 (Bc rfl q) rfl) ?_)))))))
 refine Gt (BG rfl rfl (fun h=>h)) (Gn (.t5 0 1 6 7 19) ?_)
 refine Gc (fun c1=>?_) (fun c1=>?_)
 ·
  have c1p:=kz c1
  refine Aa ?_
  refine AB (.t4 0 1 6 7) ?_
  refine AA (Ao (Ae (Gs (Gm rfl (Gm rfl (Gm rfl ?_))))))
  refine Gt (Bp cG (by decide) (Kn.Ym r0) rfl rfl (by omega) (by omega)) ?_
  refine Gt (Ku rfl Zr (by decide) Bz.fl (Kn.Ym r0) (by omega)) ?_
  refine BF rfl Y8 (.c rfl (.c rfl .n)) (.c .h (.c .h (.c .h .n))) (I5 y2 V1 ls1 ev1 (l.getD k.toNat default) (by rw [hI14];exact AI.Live.run _ AI.LZ) (hu _ (MJ (d:=default) (xs:=l) (i:=k.toNat) (by omega)))) (fun w hS=>⟨gl0.pull gm0 hS (.c .h (.c .h (.c .h .n))),gl1.pull gm1 hS (.c .h (.c .h (.c .h .n))),gl2.pull gm2 hS (.c .h (.c .h (.c .h .n))),gl3.pull gm3 hS (.c .h (.c .h (.c .h .n)))⟩) (fun v8 B hv=>?_)
  obtain⟨y9,y10,y11,rfl,y12,rfl⟩:=hv
  refine BD rfl Ka rfl (fun b1=>?_)
  refine AT (AK (AU.id Bm.fl.len Bm.fl.one) rfl rfl rfl KS rfl .h) ?_
  refine Gn (.t5 0 1 6 7 8) (Ao ?_)
  refine BE (N:=9) [0,0,0,0,12,28,0,127,255] mix (by kernel_rfl) rfl ?_
  refine Pf 0 rfl (AF rfl) (Pf 1 rfl (AF rfl) (Pf 2 rfl (AF rfl) (Pf 3 rfl (AF rfl) ?_)))
  refine Pf 4 rfl (Bp cG (by decide) (Kn.Ym r0) rfl rfl (by omega) (by omega)) ?_
  refine Pf 5 rfl (Ku rfl Zr (by decide) Bz.fl (Kn.Ym r0) (by omega)) ?_
  refine Pf 6 rfl (AZ rfl Iv .m0 (AU.id Bm.fl.len Bm.fl.one) rfl) ?_
  refine An 7 rfl (by kernel_rfl) ?_
  refine DM rfl du rfl (.c rfl (.c rfl (.c rfl .n))) (.c (.t .h) (.c (.t (.t .h)) (.c (.t (.t .h)) (.c (.t (.t .h)) .n)))) (LO y2 y9 y10 y11 _ _ c d W1 X1 (by rw [y12,hI14];exact(AI.Live.run _ AI.LZ).act _) (Z4 (AI.Ip.run (l.take k.toNat) AI.Wp) (by rw [AI.SI _ (by show(0:Int)+_≤400;rw [List.length_take];omega)];show(0:Int)+_ < 400;rw [List.length_take];omega) (by rw [y12,hI14]) hI15)) (fun v13 B hv=>?_)
  obtain⟨y14,y15,rfl,y16,y17,rfl⟩:=hv
  refine Bq rfl ⟨?_,?_⟩
  · exact(Pk (Pk (Pk (Pk (Pk (Pk (Pk As)))))))
  refine Pf 8 rfl (BT rfl) ?_
  refine A4 (by kernel_rfl) ?_
  refine AB (.t5 0 1 6 7 36) ?_
  refine AA ?_
  refine Dr rfl rfl ?_
  refine Aa ?_
  refine AB (.t4 0 1 6 7) ?_
  refine AV (AA (AJ (Gm rfl ?_)))
  refine Gt (Av rfl rfl (IntWalk.i64_in _ (by omega))) ?_
  refine Ga rfl ?_
  refine AQ (AB (.t4 0 1 6 7) ?_)
  refine CE (.c .h (.c (.t (.t (.t (.t .h)))) (.c .h (.c .h (.c .h .n))))) ?_
  refine CZ ?_
  refine Va (k+1) _ _ _ _ _ ?_ ?_ (.t4 7 0 1 6) (.refl _)
  · exact⟨by omega,by omega,by omega,by rw [AI.SL hI11 (by omega),← hI14];exact y12,(by rw [AI.SL hI11 (by omega),← hI14,← y12];exact X3 y16 y17)⟩
  · omega
 refine Bb (AW (AW (Ag ?_)))
 refine AB (.t1 6) ?_
 refine AA (Gs (Gm rfl (Ga rfl (Ga rfl (Gn (.t2 4 5) (Ac ?_))))))
 refine AY rfl (.tmp rfl (.tmp rfl .n)) ?_
 intro w1 hS
 have hS:=(hS.perm (Ax.perm .n)).A1
 exact⟨_,⟨_,rfl,rfl⟩,hS⟩
end Go.Proofs.YtoidpggbbfncpaaGreatDoor

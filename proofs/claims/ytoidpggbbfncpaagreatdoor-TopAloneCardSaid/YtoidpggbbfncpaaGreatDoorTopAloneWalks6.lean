/- What the functions that the law TopAlone reaches compute: walks, part 6. No condition. -/
import Derived.Test.YtoidpggbbfncpaaGreatDoorCards
import Derived.Test.YtoidpggbbfncpaaGreatDoorTie
import Derived.Deep.DeepHandedRow
import Derived.Test.YtoidpggbbfncpaaGreatDoorRows
import Derived.Test.YtoidpggbbfncpaaGreatDoorTopAloneEc3
import Derived.Test.YtoidpggbbfncpaaGreatDoorTopAloneRa1
import Derived.Test.YtoidpggbbfncpaaGreatDoorTopAloneRb1
import Derived.Test.YtoidpggbbfncpaaGreatDoorTopAloneRc1
import Derived.Test.YtoidpggbbfncpaaGreatDoorTopAloneWalks
import Derived.Test.YtoidpggbbfncpaaGreatDoorTopAloneWalks2
import Derived.Test.YtoidpggbbfncpaaGreatDoorTopAloneWalks3
import Derived.Test.YtoidpggbbfncpaaGreatDoorTopAloneWalks4
import Derived.Test.YtoidpggbbfncpaaGreatDoorTopAloneWalks5
set_option linter.unusedSimpArgs false
set_option linter.unusedVariables false
set_option maxRecDepth 100000
set_option maxHeartbeats 1000000
namespace Go.Proofs.YtoidpggbbfncpaaGreatDoor
open Go Go.Ing Go.RowKit Go.ChangeShapes Go.WideShapes Go.ChangeAt
theorem Ol {t0:Nat}(l:A6)(qs:List Au)(w:World)(r0:Rd w l.queue t0 1 (qs.flatMap A8)):En Tryz.prog 45 #[.agg l.enc.toArray] w fun v w'=>v = .bool (Bi.Bj l qs)∧B9 w w':=by
 have hl:=r0.MC De (by decide)
 refine Am [] [] Tryz.func45 rfl rfl rfl (St.start w []) ?_
 refine Gs ?_
 refine B0 rfl rfl rfl (fun b1=>?_)
 refine Ga rfl (Gn (.t1 1) (CD (Gt (Aj IZ rfl) (Gt (AG rfl CM .m0 A6.l0 rfl rfl) (Gt (BL rfl Tryz.underlying9 rfl) (Gt (Cp rfl rfl) (Gm rfl ?_)))))))
 refine Bg 10 rfl rfl (fun q=>Aj Ex rfl) (Bg 10 rfl rfl (fun q=>AG (cF rfl q) Eh .m0 A6.l3 rfl rfl) (Bg 10 rfl rfl (fun q=>Av rfl Tryz.underlying52 (cF rfl q)) (Bg 10 rfl rfl (fun q=>Cp (cF rfl q) rfl) ?_)))
 refine Gt (BU rfl rfl (fun h=>by rw [h];rfl)) ?_
 refine Gm rfl (Bg 16 rfl rfl (fun q=>Aj LY rfl) (Bg 16 rfl rfl (fun q=>AG (cF rfl q) DO .m0 A6.l1 rfl rfl) (Bg 16 rfl rfl (fun q=>AD (cF rfl q)) ?_)))
 refine DX (t:=19) rfl rfl rfl (fun qc q=>Aj IZ rfl) ?_
 refine DX (t:=19) rfl rfl rfl (fun qc q=>AG (BX rfl (by rw [qc,q];rfl)) CM .m0 A6.l0 rfl rfl) ?_
 refine DX (t:=19) rfl rfl rfl (fun qc q=>BL rfl Tryz.underlying9 (BX rfl (by rw [qc,q];rfl))) ?_
 refine DX (t:=19) rfl rfl rfl (fun qc q=>Cp (BX rfl (by rw [qc,q];rfl)) rfl) ?_
 refine Bg 16 rfl rfl (fun q=>BI (cF rfl q) rfl (fun h=>by rw [q,h];rfl)) ?_
 refine Gt (BU rfl rfl (fun h=>by rw [h];rfl)) ?_
 refine Gm rfl (Bg 26 rfl rfl (fun q=>Aj LZ rfl) (Bg 26 rfl rfl (fun q=>AG (cF rfl q) DO .m0 A6.l2 rfl rfl) (Bg 26 rfl rfl (fun q=>AD (cF rfl q)) ?_)))
 refine DX (t:=29) rfl rfl rfl (fun qc q=>Aj IZ rfl) ?_
 refine DX (t:=29) rfl rfl rfl (fun qc q=>AG (BX rfl (by rw [qc,q];rfl)) CM .m0 A6.l0 rfl rfl) ?_
 refine DX (t:=29) rfl rfl rfl (fun qc q=>Dt (BX rfl (by rw [qc,q];rfl)) rfl) ?_
 refine DX (t:=29) rfl rfl rfl (fun qc q=>AD (BX rfl (by rw [qc,q];rfl))) ?_
 refine C3 (t:=33) rfl rfl rfl (fun qc q=>Aj LY rfl) ?_
 refine C3 (t:=33) rfl rfl rfl (fun qc q=>AG (BX rfl (by rw [qc,q];rfl)) DO .m0 A6.l1 rfl rfl) ?_
 refine DX (t:=29) rfl rfl rfl (fun qc q=>BU (BX rfl (by rw [qc,q];rfl)) rfl (fun h=>by rw [qc,q,h];rfl)) ?_
 refine Bg 26 rfl rfl (fun q=>BI (cF rfl q) rfl (fun h=>by rw [q,h];rfl)) ?_
 refine Gt (BU rfl rfl (fun h=>by rw [h];rfl)) ?_
 refine Gn (.t2 1 38) ?_
 refine Gc (fun c1=>?_) (fun c1=>?_)
 ·
  refine Gs (Ga rfl (Gn (.t1 2) (Ac (AE ?_))))
  refine AZ rfl (.tmp rfl .n) ?_
  intro w1 hS;refine⟨congrArg Value.bool ?_,hS.Al⟩;rw [Bi.Bj,show Bi.JG l=true from c1];rfl
 have c1p:=kz c1
 have hq:(l.queue.len:Int)≤6:=by omega
 refine Aa ?_
 refine AB (.t1 1) ?_
 refine AA (Aq (Aq ?_))
 refine BE (N:=9) [0,1,3,0,8,24,63,127,0] mix (by kernel_rfl) rfl ?_
 refine Pf 0 rfl (Aj Ex rfl) (Pf 1 rfl (AG rfl Eh .m0 A6.l3 rfl rfl) (Pf 3 rfl (Aj IZ rfl) (Pf 4 rfl (AG rfl CM .m0 A6.l0 rfl rfl) (Pf 8 rfl (AD rfl) ?_))))
 refine J9 2 5 rfl rfl (by kernel_rfl) ?_ ?_
 ·
  refine BJ rfl WM (.c rfl .n) .n (B2 _ _ (by first | assumption | omega)) (fun w hS=>(Kn.Hv r0) w hS) (fun v1 B hv=>?_)
  obtain⟨y2,rfl,y3,rfl⟩:=hv
  refine Bf rfl ⟨?_,?_⟩
  · exact(Po rfl (AD rfl) rfl rfl (Po rfl (AG rfl CM .m1 A6.l0 rfl rfl) rfl rfl (Po rfl (Aj IZ rfl) rfl rfl (Pk (Pk Ar)))))
  refine Af 5 rfl (by kernel_rfl) ?_
  refine F8 A8 De rfl Tryz.underlying52 Ez R3 rfl (by decide) (by decide) rfl rfl (fun b2=>?_)
  refine Bf rfl ⟨?_,?_⟩
  · exact(Po rfl (AD rfl) rfl rfl (Pk (Pk (Po rfl (AG rfl Eh .m2 A6.l3 rfl rfl) rfl rfl (Po rfl (Aj Ex rfl) rfl rfl Ar)))))
  refine Af 6 rfl (by kernel_rfl) ?_
  refine Ch De rfl Tryz.underlying52 Ez R3 rfl WW (by decide) (by decide) rfl rfl (fun w hS=>Src.D8 Tryz.underlying52 ((Kn.own .m0) w hS)) (by(try dsimp only);omega) (fun _=>(.t .h)) (fun h5 h5l h5z=>?_)
  refine Bf rfl ⟨?_,?_⟩
  · exact(Po rfl (AD rfl) rfl rfl (Pk (Pk (Pk (Pk Ar)))))
  refine Pf 7 rfl (Av rfl Tryz.underlying52 rfl) ?_
  refine A1 (by kernel_rfl) ?_
  refine AB (.t3 45 46 47) ?_
  refine AA (Ag ?_)
  refine Bo (.t3 47 45 46) ?_
  refine CT (fun(k:Int)=>0≤k∧k≤((qs ++ [l.now]).length:Int)∧Bi.Bj l qs=((qs ++ [l.now]).drop k.toNat).all Bi.GG) (fun(k:Int)=>(((qs ++ [l.now]).length:Int) - k).toNat) (fun(k:Int)=> [(47, .int .i64 k)]) (fun(k:Int)=> []) (0) ?_ rfl rfl (fun k hI1=>?_)
  · exact⟨by omega,by omega,by rw [Bi.Bj,show Bi.JG l=false from c1];rfl⟩
  obtain⟨hI11,hI12,hI13⟩:=hI1
  refine Gs (Gt (BA rfl rfl) (AQ (AA (Aq ?_))))
  refine Gc (fun c2=>?_) (fun c2=>?_)
  ·
   have c2p:=kz c2
   have hk:k < ((qs ++ [l.now]).length:Int):=by simp only [List.length_append,List.length_cons,List.length_nil] at *;omega
   have hk7:((qs ++ [l.now]).length:Int)≤7:=by simp only [List.length_append,List.length_cons,List.length_nil] at *;omega
   refine Aa ?_
   refine AB (.t3 45 46 47) ?_
   refine AA (Aq (Ag (Gs ?_)))
   refine Gt (Bs Io (by decide) (Kn.own .m1) rfl rfl (by omega) (by simp only [List.length_append,List.length_cons,List.length_nil] at *;omega)) ?_
   refine Gt (DM rfl CM (Kn.own .m1) (by omega)) ?_
   refine Ga rfl (Gn (.t4 4 45 46 47) (CD (Gm rfl (Gt (BL rfl Tryz.underlying9 rfl) (Gt (Cp rfl rfl) (Gn (.t5 4 45 46 47 53) ?_))))))
   refine Gc (fun c3=>?_) (fun c3=>?_)
   ·
    refine Gs (Ga rfl (Gn (.t1 2) (Ac (AE (AT (AE (AE ?_)))))))
    refine AT (AE ?_)
    refine AZ rfl (.tmp rfl .n) ?_
    intro w1 hS;refine⟨congrArg Value.bool ?_,hS.Al⟩;rw [hI13,Bi.FR (d:= []) hI11 hk,Bi.GG,c3];rfl
   have c3p:=kz c3
   refine Aa ?_
   refine AB (.t4 4 45 46 47) ?_
   refine AA (Gs (Gm rfl (Gt (BL rfl Tryz.underlying9 rfl) (Gm rfl (Gn (.t6 4 45 46 47 55 56) (Ag ?_))))))
   refine Bo (.t6 56 4 45 46 47 55) ?_
   refine CT (fun(i:Int)=>0≤i∧i≤(((qs ++ [l.now]).getD k.toNat []).length:Int)∧Bi.GG ((qs ++ [l.now]).getD k.toNat [])=(((qs ++ [l.now]).getD k.toNat []).drop i.toNat).all Bi.F4) (fun(i:Int)=>((((qs ++ [l.now]).getD k.toNat []).length:Int) - i).toNat) (fun(i:Int)=> [(56, .int .i64 i)]) (fun(i:Int)=> []) (0) ?_ rfl rfl (fun i hI2=>?_)
   · exact⟨by omega,by omega,by rw [Bi.GG,c3];rfl⟩
   obtain⟨hI21,hI22,hI23⟩:=hI2
   refine Gs (Gt (BA rfl rfl) (AQ (AA (Aq ?_))))
   refine Gc (fun c4=>?_) (fun c4=>?_)
   ·
    have c4p:=kz c4
    refine Aa ?_
    refine AB (.t6 4 45 46 47 55 56) ?_
    refine AA (Aq (Ag (Gs (Gm rfl (Ga rfl (Gn (.t7 4 5 45 46 47 55 56) (Gs ?_)))))))
    refine Gm rfl (Gm rfl ?_)
    refine Gt (Bq Tryz.underlying9 rfl rfl (by omega) (by omega)) ?_
    refine BD rfl aU (.c rfl .n) (fun w hS=>G5 _ w) ?_
    refine Gt (BR rfl) (Gn (.t7 4 45 46 47 55 56 63) ?_)
    refine Gc (fun c5=>?_) (fun c5=>?_)
    ·
     have c5p:=kz c5
     refine Gs (Ga rfl (Gn (.t1 2) (Ac (AT (AE (AE (AT ?_)))))))
     refine AT (AE (AE (AT (AE ?_))))
     refine AZ rfl (.tmp rfl .n) ?_
     intro w1 hS;refine⟨congrArg Value.bool ?_,hS.Al⟩;rw [hI13,Bi.FR (d:= []) hI11 hk,hI23,Bi.FR (d:=0) hI21 (by omega),show Bi.F4 _=false from by simpa using c5];rfl
    have c5p:=kz c5
    refine Aa ?_
    refine AB (.t6 4 45 46 47 55 56) ?_
    refine AV (AA (AJ ?_))
    refine Gt (Ax rfl rfl (IntWalk.i64_in _ (by omega))) ?_
    refine Gm rfl ?_
    refine AQ (AB (.t6 4 45 46 47 55 56) ?_)
    refine Bz (i+1) ?_ ?_ (.t6 56 4 45 46 47 55) (.refl _)
    · exact⟨by omega,by omega,by rw [hI23,Bi.FR (d:=0) hI21 (by omega),show Bi.F4 _=true from by simpa using c5];rfl⟩
    · omega
   have c4p:=kz c4
   refine Be (AW (AW (Ai ?_)))
   refine AB (.t3 45 46 47) ?_
   refine AV (AA (AJ ?_))
   refine Gt (Ax rfl rfl (IntWalk.i64_in _ (by omega))) ?_
   refine Gm rfl ?_
   refine AQ (AB (.t3 45 46 47) ?_)
   refine Bz (k+1) ?_ ?_ (.t3 47 45 46) (.refl _)
   · exact⟨by omega,by omega,by rw [hI13,Bi.FR (d:= []) hI11 hk,hI23,show i.toNat=((qs ++ [l.now]).getD k.toNat []).length from by omega,List.drop_length];rfl⟩
   · omega
  have c2p:=kz c2
  have hk:¬ k < ((qs ++ [l.now]).length:Int):=by simp only [List.length_append,List.length_cons,List.length_nil] at *;omega
  refine Be (AW (AW (Ai ?_)))
  refine AB (.nil _) ?_
  refine AA (Gs (Ga rfl (AQ (AA (Ac ?_)))))
  refine AZ rfl (.tmp rfl .n) ?_
  intro w1 hS;refine⟨congrArg Value.bool ?_,hS.Al⟩;rw [hI13,show k.toNat=(qs ++ [l.now]).length from by omega,List.drop_length];rfl
 ·
  refine F8 A8 De rfl Tryz.underlying52 Ez R3 rfl (by decide) (by decide) rfl rfl (fun b3=>?_)
  refine Bf rfl ⟨?_,?_⟩
  · exact(Po rfl (AD rfl) rfl rfl (Pk (Pk (Po rfl (AG rfl Eh .m1 A6.l3 rfl rfl) rfl rfl (Po rfl (Aj Ex rfl) rfl rfl Ar)))))
  refine Af 2 rfl (by kernel_rfl) ?_
  refine BJ rfl WM (.c rfl .n) .n (B2 _ _ (by first | assumption | omega)) (fun w hS=>(Kn.Hv r0) w hS) (fun v6 B hv=>?_)
  obtain⟨y7,rfl,y8,rfl⟩:=hv
  refine Bf rfl ⟨?_,?_⟩
  · exact(Po rfl (AD rfl) rfl rfl (Po rfl (AG rfl CM .m2 A6.l0 rfl rfl) rfl rfl (Po rfl (Aj IZ rfl) rfl rfl (Pk (Pk Ar)))))
  refine Af 6 rfl (by kernel_rfl) ?_
  refine Ch De rfl Tryz.underlying52 Ez R3 rfl WW (by decide) (by decide) rfl rfl (fun w hS=>Src.D8 Tryz.underlying52 ((Kn.own .m1) w hS)) (by(try dsimp only);omega) (fun _=> .h) (fun h10 h10l h10z=>?_)
  refine Bf rfl ⟨?_,?_⟩
  · exact(Po rfl (AD rfl) rfl rfl (Pk (Pk (Pk (Pk Ar)))))
  refine Pf 7 rfl (Av rfl Tryz.underlying52 rfl) ?_
  refine A1 (by kernel_rfl) ?_
  refine AB (.t3 45 46 47) ?_
  refine AA (Ag ?_)
  refine Bo (.t3 47 45 46) ?_
  refine CT (fun(k:Int)=>0≤k∧k≤((qs ++ [l.now]).length:Int)∧Bi.Bj l qs=((qs ++ [l.now]).drop k.toNat).all Bi.GG) (fun(k:Int)=>(((qs ++ [l.now]).length:Int) - k).toNat) (fun(k:Int)=> [(47, .int .i64 k)]) (fun(k:Int)=> []) (0) ?_ rfl rfl (fun k hI1=>?_)
  · exact⟨by omega,by omega,by rw [Bi.Bj,show Bi.JG l=false from c1];rfl⟩
  obtain⟨hI11,hI12,hI13⟩:=hI1
  refine Gs (Gt (BA rfl rfl) (AQ (AA (Aq ?_))))
  refine Gc (fun c6=>?_) (fun c6=>?_)
  ·
   have c6p:=kz c6
   have hk:k < ((qs ++ [l.now]).length:Int):=by simp only [List.length_append,List.length_cons,List.length_nil] at *;omega
   have hk7:((qs ++ [l.now]).length:Int)≤7:=by simp only [List.length_append,List.length_cons,List.length_nil] at *;omega
   refine Aa ?_
   refine AB (.t3 45 46 47) ?_
   refine AA (Aq (Ag (Gs ?_)))
   refine Gt (Bs Io (by decide) (Kn.own .m0) rfl rfl (by omega) (by simp only [List.length_append,List.length_cons,List.length_nil] at *;omega)) ?_
   refine Gt (DM rfl CM (Kn.own .m0) (by omega)) ?_
   refine Ga rfl (Gn (.t4 4 45 46 47) (CD (Gm rfl (Gt (BL rfl Tryz.underlying9 rfl) (Gt (Cp rfl rfl) (Gn (.t5 4 45 46 47 53) ?_))))))
   refine Gc (fun c7=>?_) (fun c7=>?_)
   ·
    refine Gs (Ga rfl (Gn (.t1 2) (Ac (AE (AT (AE (AE ?_)))))))
    refine AT (AE ?_)
    refine AZ rfl (.tmp rfl .n) ?_
    intro w1 hS;refine⟨congrArg Value.bool ?_,hS.Al⟩;rw [hI13,Bi.FR (d:= []) hI11 hk,Bi.GG,c7];rfl
   have c7p:=kz c7
   refine Aa ?_
   refine AB (.t4 4 45 46 47) ?_
   refine AA (Gs (Gm rfl (Gt (BL rfl Tryz.underlying9 rfl) (Gm rfl (Gn (.t6 4 45 46 47 55 56) (Ag ?_))))))
   refine Bo (.t6 56 4 45 46 47 55) ?_
   refine CT (fun(i:Int)=>0≤i∧i≤(((qs ++ [l.now]).getD k.toNat []).length:Int)∧Bi.GG ((qs ++ [l.now]).getD k.toNat [])=(((qs ++ [l.now]).getD k.toNat []).drop i.toNat).all Bi.F4) (fun(i:Int)=>((((qs ++ [l.now]).getD k.toNat []).length:Int) - i).toNat) (fun(i:Int)=> [(56, .int .i64 i)]) (fun(i:Int)=> []) (0) ?_ rfl rfl (fun i hI2=>?_)
   · exact⟨by omega,by omega,by rw [Bi.GG,c7];rfl⟩
   obtain⟨hI21,hI22,hI23⟩:=hI2
   refine Gs (Gt (BA rfl rfl) (AQ (AA (Aq ?_))))
   refine Gc (fun c8=>?_) (fun c8=>?_)
   ·
    have c8p:=kz c8
    refine Aa ?_
    refine AB (.t6 4 45 46 47 55 56) ?_
    refine AA (Aq (Ag (Gs (Gm rfl (Ga rfl (Gn (.t7 4 5 45 46 47 55 56) (Gs ?_)))))))
    refine Gm rfl (Gm rfl ?_)
    refine Gt (Bq Tryz.underlying9 rfl rfl (by omega) (by omega)) ?_
    refine BD rfl aU (.c rfl .n) (fun w hS=>G5 _ w) ?_
    refine Gt (BR rfl) (Gn (.t7 4 45 46 47 55 56 63) ?_)
    refine Gc (fun c9=>?_) (fun c9=>?_)
    ·
     have c9p:=kz c9
     refine Gs (Ga rfl (Gn (.t1 2) (Ac (AT (AE (AE (AT ?_)))))))
     refine AT (AE (AE (AT (AE ?_))))
     refine AZ rfl (.tmp rfl .n) ?_
     intro w1 hS;refine⟨congrArg Value.bool ?_,hS.Al⟩;rw [hI13,Bi.FR (d:= []) hI11 hk,hI23,Bi.FR (d:=0) hI21 (by omega),show Bi.F4 _=false from by simpa using c9];rfl
    have c9p:=kz c9
    refine Aa ?_
    refine AB (.t6 4 45 46 47 55 56) ?_
    refine AV (AA (AJ ?_))
    refine Gt (Ax rfl rfl (IntWalk.i64_in _ (by omega))) ?_
    refine Gm rfl ?_
    refine AQ (AB (.t6 4 45 46 47 55 56) ?_)
    refine Bz (i+1) ?_ ?_ (.t6 56 4 45 46 47 55) (.refl _)
    · exact⟨by omega,by omega,by rw [hI23,Bi.FR (d:=0) hI21 (by omega),show Bi.F4 _=true from by simpa using c9];rfl⟩
    · omega
   have c8p:=kz c8
   refine Be (AW (AW (Ai ?_)))
   refine AB (.t3 45 46 47) ?_
   refine AV (AA (AJ ?_))
   refine Gt (Ax rfl rfl (IntWalk.i64_in _ (by omega))) ?_
   refine Gm rfl ?_
   refine AQ (AB (.t3 45 46 47) ?_)
   refine Bz (k+1) ?_ ?_ (.t3 47 45 46) (.refl _)
   · exact⟨by omega,by omega,by rw [hI13,Bi.FR (d:= []) hI11 hk,hI23,show i.toNat=((qs ++ [l.now]).getD k.toNat []).length from by omega,List.drop_length];rfl⟩
   · omega
  have c6p:=kz c6
  have hk:¬ k < ((qs ++ [l.now]).length:Int):=by simp only [List.length_append,List.length_cons,List.length_nil] at *;omega
  refine Be (AW (AW (Ai ?_)))
  refine AB (.nil _) ?_
  refine AA (Gs (Ga rfl (AQ (AA (Ac ?_)))))
  refine AZ rfl (.tmp rfl .n) ?_
  intro w1 hS;refine⟨congrArg Value.bool ?_,hS.Al⟩;rw [hI13,show k.toNat=(qs ++ [l.now]).length from by omega,List.drop_length];rfl
theorem OI {t0:Nat}(l:A6)(qs:List Au)(u:Au)(hu:u.length≤9000000000000000000):Fa Tryz.prog 63 #[.agg l.enc.toArray,BT u] [] (fun w=>Rd w l.queue t0 1 (qs.flatMap A8)) (fun v B=>(Bi.Bj l qs=false∧v = .tuple #[.agg l.enc.toArray, .int .i64 0, .int .i64 2]∧B = [])∨(Bi.Bj l qs=true∧∃ h':Hd,v = .tuple #[.agg (A6.enc ⟨(Bi.feed (Bi.start l qs) u).now,(Bi.feed (Bi.start l qs) u).Ci,(Bi.feed (Bi.start l qs) u).ret,h'⟩).toArray, .int .i64 (Bi.feed (Bi.start l qs) u).lost, .int .i64 0]∧h'.len=(Bi.feed (Bi.start l qs) u).queue.length∧B = [Ad.own h' 9 1 ((Bi.feed (Bi.start l qs) u).queue.flatMap A8)])):=by
 intro w hS0 hH
 have r0:=hH
 have hl0:=r0.MC De (by decide)
 refine Am _ _ Tryz.func63 rfl rfl rfl (hS0) ?_
 refine Gs ?_
 refine B0 rfl rfl rfl (fun b1=>?_)
 refine BG rfl Yq rfl (fun b2=>?_)
 refine Ga rfl (Ga rfl (Gn (.t3 1 2 4) (CD (Gt (AY rfl GH .m1 (AS.id A6.fl.len A6.fl.one) rfl) ?_))))
 refine BD rfl df (.c rfl .n) (fun w hS=>Ol _ _ w ((Kn.Hv r0) w hS)) ?_
 refine Gt (BR rfl) (Gn (.t4 1 2 4 14) ?_)
 refine Gc (fun c1=>?_) (fun c1=>?_)
 ·
  refine Gs (Gt (AY rfl GH .m1 (AS.id A6.fl.len A6.fl.one) rfl) ?_)
  refine AU (AK (AS.id A6.fl.len A6.fl.one) rfl rfl rfl LM rfl .h) ?_
  refine Ga rfl (Ga rfl (Gn (.t3 4 5 6) (Ac (AE ?_))))
  refine AZ rfl (.cell rfl .m0 (.inl ⟨(by rw [A6.fl.len];exact GH),rfl⟩) (.tmp rfl (.tmp rfl .n))) ?_
  intro w1 hS
  have hS:=(hS.perm (Ay.perm .n)).A4
  exact⟨_, .inl ⟨by simpa using c1,rfl,rfl⟩,hS⟩
 have c1p:=kz c1
 have hgd:Bi.Bj l qs=true:=by simpa using c1
 have hh:=Bi.VC hgd
 have hq6:qs.length≤17592186044416:=by omega
 refine Aa ?_
 refine AB (.t3 1 2 4) ?_
 refine AA (Gs (Gt (Aj Ex rfl) (Gt (AG rfl Eh .m1 A6.l3 rfl rfl) ?_)))
 refine BJ rfl WM (.c rfl .n) .n (B2 _ _ (by first | assumption | omega)) (fun w hS=>(Kn.Hv r0) w hS) (fun v1 B hv=>?_)
 obtain⟨y2,rfl,y3,rfl⟩:=hv
 refine Gt (Aj Ex rfl) ?_
 refine AU (AK A6.l3 rfl rfl rfl MT rfl (.t (.t .h))) ?_
 refine Gn (.t3 1 2 4) (Gs (Ga rfl (AQ (AA (Gs (Gt (Aj IZ rfl) (Gt (AG rfl CM .m2 A6.l0 rfl rfl) ?_)))))))
 refine O6 rfl Tryz.underlying9 Tryz.underlying105 Tryz.underlying5 rfl (fun h5 h5l=>?_)
 refine Ga rfl (Gn (.t5 1 2 4 7 8) (CD (Gm rfl (Gt (BL rfl Tryz.underlying9 rfl) (Gm rfl (Gn (.t7 1 2 4 7 8 24 25) (Ag ?_)))))))
 refine Bo (.t7 7 8 25 1 2 4 24) ?_
 refine Bc (.t (.t (.t .h))) ?_
 refine Bc (.t (.t .h)) ?_
 refine Bc (.t (.t .h)) ?_
 refine Rj (fun(k:Int) (now:Au) (Ci:Bool) (ret:Bool) (queue:List Au) (lost:Int) (h:Hd) (g:Hd)=>Bi.I (Bi.start l qs) u k ⟨now,Ci,ret,queue,lost⟩∧h.len=now.length∧g.len=queue.length) (fun(k:Int) (now:Au) (Ci:Bool) (ret:Bool) (queue:List Au) (lost:Int) (h:Hd) (g:Hd)=>((u.length:Int) - k).toNat) (fun(k:Int) (now:Au) (Ci:Bool) (ret:Bool) (queue:List Au) (lost:Int) (h:Hd) (g:Hd)=> [(7, .int .i64 lost),(8,h.val),(25, .int .i64 k)]) (fun(k:Int) (now:Au) (Ci:Bool) (ret:Bool) (queue:List Au) (lost:Int) (h:Hd) (g:Hd)=> [Ad.own h 5 1 (now.flatMap Db),Ad.own g 9 1 (queue.flatMap A8),Ad.box b1 75 (A6.enc ⟨l.now,Ci,ret,g⟩)]) (0) (l.now) (l.Ci) (l.ret) (qs) (0) (_) (_) ?_ rfl rfl (fun k now Ci ret queue lost h g hI1=>?_)
 · exact⟨Bi.I.start hh.1 (show qs.length≤6 by omega) rfl,by assumption,by assumption⟩
 obtain⟨hI11,hl,hg⟩:=hI1;have hk0:=hI11.k0;have hk1:=hI11.k1;have hn:now.length≤60:=hI11.now;have hq:queue.length≤6:=hI11.queue;have hlo:0≤lost∧lost≤k:=hI11.lost
 refine Gs (Gt (BA rfl rfl) (AQ (AA (Aq ?_))))
 refine Gc (fun c2=>?_) (fun c2=>?_)
 ·
  have c2p:=kz c2
  refine Aa ?_
  refine AB (.t7 1 2 4 7 8 24 25) ?_
  refine AA (Aq (Ag (Gs (Gm rfl (Ga rfl (Gn (.t8 1 2 4 7 8 9 24 25) (Gs ?_)))))))
  refine Gm rfl (Gm rfl ?_)
  refine Gt (Bq Tryz.underlying9 rfl rfl (by omega) (by omega)) ?_
  refine Ga rfl (Gn (.t8 1 2 4 7 8 10 24 25) (Gs (Gt (Aj LZ rfl) (Gt (AG rfl DO .m2 A6.l2 rfl rfl) (Ga rfl (Gn (.t9 1 2 4 7 8 10 11 24 25) (Gs ?_)))))))
  refine Gt (Aj LZ rfl) ?_
  refine AU (AK A6.l2 rfl rfl rfl Km rfl (.t (.t .h))) ?_
  refine Gn (.t9 1 2 4 7 8 10 11 24 25) (Ag (Gs (Gm rfl (Gm rfl (Bb 40 rfl rfl (fun q=>AD rfl) (Bb 40 rfl rfl (fun q=>Ak (BX rfl q) rfl) (Bb 40 rfl rfl (fun q=>AD (BX rfl q)) ?_)))))))
  refine C3 (t:=43) rfl rfl rfl (fun qc q=>AD rfl) ?_
  refine C3 (t:=43) rfl rfl rfl (fun qc q=>Ak (BX rfl (by rw [qc,q];rfl)) rfl) ?_
  refine Bb 40 rfl rfl (fun q=>BU (BX rfl q) rfl (fun h=>by rw [q,h];rfl)) ?_
  refine Gt (BI rfl rfl (fun h=>h)) (Ga rfl (Gn (.t9 1 2 4 7 8 10 24 25 38) ?_))
  refine Gc (fun c3=>?_) (fun c3=>?_)
  ·
   have c3p:=kz c3
   refine Aa ?_
   refine AB (.t7 1 2 4 7 8 24 25) ?_
   refine AV (AV (AA (AJ ?_)))
   refine Gt (Ax rfl rfl (IntWalk.i64_in _ (by omega))) ?_
   refine Gm rfl ?_
   refine AQ (AB (.t7 1 2 4 7 8 24 25) ?_)
   refine CW (k+1) _ _ _ _ _ _ _ ?_ ?_ (.t7 7 8 25 1 2 4 24) (.refl _)
   · exact⟨hI11.next (by omega) (by simp only [Bi.step,hl,c1,c2,c3,↓reduceIte,Bool.false_eq_true]),(by(try dsimp only at *)<;>(try simp only [List.length_append,List.length_take,List.length_cons,List.length_nil])<;>omega),(by(try dsimp only at *)<;>(try simp only [List.length_append,List.length_cons,List.length_nil])<;>omega)⟩
   · omega
  have c3p:=kz c3
  refine Gs (Gm rfl (Gt (Ak rfl rfl) (Gm rfl (Bg 51 rfl rfl (fun q=>AD rfl) (Bg 51 rfl rfl (fun q=>Ak (cF rfl q) rfl) ?_)))))
  refine Gt (BU rfl rfl (fun h=>by rw [h];rfl)) ?_
  refine Ga rfl (Gn (.t9 1 2 4 7 8 10 24 25 48) ?_)
  refine Gc (fun c4=>?_) (fun c4=>?_)
  ·
   have c4p:=kz c4
   refine CD (Gt (Aj Ex rfl) (Gt (AG rfl Eh .m2 A6.l3 rfl rfl) (Gt (Av rfl Tryz.underlying52 rfl) (Gt (BA rfl rfl) (Gn (.t9 1 2 4 7 8 10 24 25 58) ?_)))))
   refine Gc (fun c5=>?_) (fun c5=>?_)
   ·
    have c5p:=kz c5
    rw [hg] at c5
    refine AJ (Gt (Aj Ex rfl) (Gt (AG rfl Eh .m2 A6.l3 rfl rfl) (Gm rfl (Gt (KS Tryz.underlying105 Tryz.underlying9 Tryz.underlying5 rfl (Kn.own .m0)) ?_))))
    refine F8 A8 De rfl Tryz.underlying52 Ez R3 rfl (by decide) (by decide) rfl rfl (fun b3=>?_)
    refine Ch De rfl Tryz.underlying52 Ez R3 rfl WW (by decide) (by decide) rfl rfl (fun w hS=>Src.D8 Tryz.underlying52 ((Kn.own .m0) w hS)) (by(try dsimp only);omega) (fun _=>(.t (.t .h))) (fun h6 h6l h6z=>?_)
    refine Gt (Aj Ex rfl) ?_
    refine AU (AK A6.l3 rfl rfl rfl MT rfl (.t (.t (.t .h)))) ?_
    refine Gn (.t7 1 2 4 7 10 24 25) (AJ (Gm rfl (Gt (Ak rfl rfl) (Ga rfl (Gt (Aj LY rfl) ?_)))))
    refine AU (AK A6.l1 rfl rfl rfl Km rfl (.t (.t (.t .h)))) ?_
    refine Gt (Aj LZ rfl) ?_
    refine AU (AK A6.l2 rfl rfl rfl Km rfl (.t (.t (.t .h)))) ?_
    refine AQ (AB (.t7 1 2 4 7 8 24 25) ?_)
    refine AV (AV (AA (AJ ?_)))
    refine Gt (Ax rfl rfl (IntWalk.i64_in _ (by omega))) ?_
    refine Gm rfl ?_
    refine AQ (AB (.t7 1 2 4 7 8 24 25) ?_)
    refine U5 Db 5 1 ?_
    refine CJ (.c .h (.c (.t (.t .h)) (.c (.t (.t .h)) (.c (.t (.t .h)) .n)))) ?_
    refine Cf ?_
    refine CW (k+1) _ _ _ _ _ _ _ ?_ ?_ (.t7 7 8 25 1 2 4 24) (.refl _)
    · exact⟨hI11.next (by omega) (by simp only [Bi.step,hl,c1,c2,c3,c4,c5,↓reduceIte,Bool.false_eq_true]),(by(try dsimp only at *)<;>(try simp only [List.length_append,List.length_take,List.length_cons,List.length_nil])<;>omega),(by(try dsimp only at *)<;>(try simp only [List.length_append,List.length_cons,List.length_nil])<;>omega)⟩
    · omega
   have c5p:=kz c5
   rw [hg] at c5
   refine AJ (Gm rfl ?_)
   refine Gt (Ax rfl rfl (IntWalk.i64_in _ (by omega))) ?_
   refine Ga rfl (Gn (.t7 1 2 4 7 10 24 25) (AJ (Gm rfl (Gt (Ak rfl rfl) (Ga rfl (Gt (Aj LY rfl) ?_))))))
   refine AU (AK A6.l1 rfl rfl rfl Km rfl (.t (.t .h))) ?_
   refine Gt (Aj LZ rfl) ?_
   refine AU (AK A6.l2 rfl rfl rfl Km rfl (.t (.t .h))) ?_
   refine AQ (AB (.t7 1 2 4 7 8 24 25) ?_)
   refine AV (AV (AA (AJ ?_)))
   refine Gt (Ax rfl rfl (IntWalk.i64_in _ (by omega))) ?_
   refine Gm rfl ?_
   refine AQ (AB (.t7 1 2 4 7 8 24 25) ?_)
   refine U5 Db 5 1 ?_
   refine CJ (.c .h (.c (.t .h) (.c (.t .h) (.c (.t .h) .n)))) ?_
   refine Cf ?_
   refine CW (k+1) _ _ _ _ _ _ _ ?_ ?_ (.t7 7 8 25 1 2 4 24) (.refl _)
   · exact⟨hI11.next (by omega) (by simp only [Bi.step,hl,c1,c2,c3,c4,c5,↓reduceIte,Bool.false_eq_true]),(by(try dsimp only at *)<;>(try simp only [List.length_append,List.length_take,List.length_cons,List.length_nil])<;>omega),(by(try dsimp only at *)<;>(try simp only [List.length_append,List.length_cons,List.length_nil])<;>omega)⟩
   · omega
  have c4p:=kz c4
  refine Gs (Gm rfl (Gt (Ak rfl rfl) (Gm rfl (Bg 75 rfl rfl (fun q=>AD rfl) (Bg 75 rfl rfl (fun q=>Ak (cF rfl q) rfl) ?_)))))
  refine Gt (BU rfl rfl (fun h=>by rw [h];rfl)) ?_
  refine Ga rfl (Gn (.t9 1 2 4 7 8 10 24 25 72) ?_)
  refine Gc (fun c6=>?_) (fun c6=>?_)
  ·
   have c6p:=kz c6
   refine Gs (Gm rfl (Gt (Av rfl Tryz.underlying105 rfl) (Gt (Cp rfl rfl) (Gn (.t8 1 2 4 7 8 24 25 81) ?_))))
   refine Gc (fun c7=>?_) (fun c7=>?_)
   ·
    have c7p:=kz c7
    rw [hl] at c7
    refine AJ (Gm rfl (Gm rfl (Gt (Av rfl Tryz.underlying105 rfl) ?_)))
    refine Gt (FX rfl rfl (IntWalk.i64_in _ (by omega))) ?_
    refine Ke WT rfl Tryz.underlying105 WB rfl rfl (by omega) (by omega) (fun _=> .h) ?_
    refine Ga rfl ?_
    refine AQ (AB (.t7 1 2 4 7 8 24 25) ?_)
    refine AV (AV (AA (AJ ?_)))
    refine Gt (Ax rfl rfl (IntWalk.i64_in _ (by omega))) ?_
    refine Gm rfl ?_
    refine AQ (AB (.t7 1 2 4 7 8 24 25) ?_)
    refine CW (k+1) _ _ _ _ _ _ _ ?_ ?_ (.t7 7 8 25 1 2 4 24) (.refl _)
    · exact⟨hI11.next (by omega) (by simp only [Bi.step,hl,c1,c2,c3,c4,c6,c7,↓reduceIte,Bool.false_eq_true]),(by(try dsimp only at *)<;>(try simp only [List.length_append,List.length_take,List.length_cons,List.length_nil])<;>omega),(by(try dsimp only at *)<;>(try simp only [List.length_append,List.length_cons,List.length_nil])<;>omega)⟩
    · omega
   have c7p:=kz c7
   rw [hl] at c7
   refine Aa ?_
   refine AB (.t7 1 2 4 7 8 24 25) ?_
   refine AV (AV (AA (AJ ?_)))
   refine Gt (Ax rfl rfl (IntWalk.i64_in _ (by omega))) ?_
   refine Gm rfl ?_
   refine AQ (AB (.t7 1 2 4 7 8 24 25) ?_)
   refine CW (k+1) _ _ _ _ _ _ _ ?_ ?_ (.t7 7 8 25 1 2 4 24) (.refl _)
   · exact⟨hI11.next (by omega) (by simp only [Bi.step,hl,c1,c2,c3,c4,c6,c7,↓reduceIte,Bool.false_eq_true]),(by(try dsimp only at *)<;>(try simp only [List.length_append,List.length_take,List.length_cons,List.length_nil])<;>omega),(by(try dsimp only at *)<;>(try simp only [List.length_append,List.length_cons,List.length_nil])<;>omega)⟩
   · omega
  have c6p:=kz c6
  refine Gs (Gm rfl ?_)
  refine BD rfl aU (.c rfl .n) (fun w hS=>G5 _ w) ?_
  refine Gt (BR rfl) (Ga rfl (Gn (.t9 1 2 4 7 8 10 24 25 87) ?_))
  refine Gc (fun c8=>?_) (fun c8=>?_)
  ·
   have c8p:=kz c8
   refine Aa ?_
   refine AB (.t7 1 2 4 7 8 24 25) ?_
   refine AV (AV (AA (AJ ?_)))
   refine Gt (Ax rfl rfl (IntWalk.i64_in _ (by omega))) ?_
   refine Gm rfl ?_
   refine AQ (AB (.t7 1 2 4 7 8 24 25) ?_)
   refine CW (k+1) _ _ _ _ _ _ _ ?_ ?_ (.t7 7 8 25 1 2 4 24) (.refl _)
   · exact⟨hI11.next (by omega) (by simp only [Bi.step,hl,c1,c2,c3,c4,c6,c8,↓reduceIte,Bool.false_eq_true]),(by(try dsimp only at *)<;>(try simp only [List.length_append,List.length_take,List.length_cons,List.length_nil])<;>omega),(by(try dsimp only at *)<;>(try simp only [List.length_append,List.length_cons,List.length_nil])<;>omega)⟩
   · omega
  have c8p:=kz c8
  refine Gs (Gm rfl (Gt (Av rfl Tryz.underlying105 rfl) (Gt (CK rfl rfl) (Ga rfl (Gn (.t9 1 2 4 7 8 10 24 25 91) ?_)))))
  refine Gc (fun c9=>?_) (fun c9=>?_)
  ·
   have c9p:=kz c9
   rw [hl] at c9
   refine AJ (Gt (Aj LY rfl) ?_)
   refine AU (AK A6.l1 rfl rfl rfl Km rfl (.t (.t .h))) ?_
   refine AQ (AB (.t7 1 2 4 7 8 24 25) ?_)
   refine AV (AV (AA (AJ ?_)))
   refine Gt (Ax rfl rfl (IntWalk.i64_in _ (by omega))) ?_
   refine Gm rfl ?_
   refine AQ (AB (.t7 1 2 4 7 8 24 25) ?_)
   refine CW (k+1) _ _ _ _ _ _ _ ?_ ?_ (.t7 7 8 25 1 2 4 24) (.refl _)
   · exact⟨hI11.next (by omega) (by simp only [Bi.step,hl,c1,c2,c3,c4,c6,c8,c9,↓reduceIte,Bool.false_eq_true]),(by(try dsimp only at *)<;>(try simp only [List.length_append,List.length_take,List.length_cons,List.length_nil])<;>omega),(by(try dsimp only at *)<;>(try simp only [List.length_append,List.length_cons,List.length_nil])<;>omega)⟩
   · omega
  have c9p:=kz c9
  rw [hl] at c9
  refine AJ (Gm rfl (Gm rfl ?_))
  refine F8 Db WT rfl Tryz.underlying105 WB aA rfl (by decide) (by decide) rfl rfl (fun b4=>?_)
  refine Ch WT rfl Tryz.underlying105 WB aA rfl eO (by decide) (by decide) rfl rfl (fun w hS=>Src.D8 Tryz.underlying105 ((Kn.own .m0) w hS)) (by(try dsimp only);omega) (fun _=>(.t .h)) (fun h9 h9l h9z=>?_)
  refine Ga rfl ?_
  refine AQ (AB (.t7 1 2 4 7 8 24 25) ?_)
  refine AV (AV (AA (AJ ?_)))
  refine Gt (Ax rfl rfl (IntWalk.i64_in _ (by omega))) ?_
  refine Gm rfl ?_
  refine AQ (AB (.t7 1 2 4 7 8 24 25) ?_)
  refine CW (k+1) _ _ _ _ _ _ _ ?_ ?_ (.t7 7 8 25 1 2 4 24) (.cons _ (.refl _))
  · exact⟨hI11.next (by omega) (by simp only [Bi.step,hl,c1,c2,c3,c4,c6,c8,c9,↓reduceIte,Bool.false_eq_true]),(by(try dsimp only at *)<;>(try simp only [List.length_append,List.length_take,List.length_cons,List.length_nil])<;>omega),(by(try dsimp only at *)<;>(try simp only [List.length_append,List.length_cons,List.length_nil])<;>omega)⟩
  · omega
 have c2p:=kz c2
 refine Be (AW (AW (Ai ?_)))
 refine AB (.t4 2 4 7 8) ?_
 refine AA (Gs (Gm rfl (Gt (KS Tryz.underlying105 Tryz.underlying9 Tryz.underlying5 rfl (Kn.own .m0)) (Gt (Aj IZ rfl) ?_))))
 refine AU (AK A6.l0 rfl rfl rfl Ez rfl (.t (.t .h))) ?_
 refine Gn (.t3 2 4 7) (Gs (Gt (AY rfl GH .m2 (AS.id A6.fl.len A6.fl.one) rfl) (Gm rfl ?_)))
 refine AU (AK (AS.id A6.fl.len A6.fl.one) rfl rfl rfl LM rfl (.t (.t (.t .h)))) ?_
 refine Ga rfl (Ga rfl (Gn (.t3 4 5 6) (Ac ?_)))
 refine AZ rfl (.cell rfl .m3 (.inl ⟨(by rw [A6.fl.len];exact GH),rfl⟩) (.tmp rfl (.tmp rfl .n))) ?_
 intro w1 hS
 have hS:=(hS.perm (Ay.perm (.c (.t .h) .n))).A4
 have e:=hI11.done (by omega)
 exact⟨_, .inr ⟨hgd,_,by rw [e];rfl,by rw [e];exact hg,by rw [e]⟩,hS⟩
theorem NK (p:Ap)(n:Int)(w:World):En Tryz.prog 66 #[.agg p.enc.toArray, .int .i64 n] w fun v w'=>v = .tuple #[.agg (Ap.enc ⟨p.wait,p.shown,p.Bv,p.ring.drop (max 0 (min n (p.ring.length:Int))).toNat,p.cut⟩).toArray,BT (p.ring.take (max 0 (min n (p.ring.length:Int))).toNat)]∧B9 w w':=by
 refine Am [] [] Tryz.func66 rfl rfl rfl (St.start w []) ?_
 refine Gs ?_
 refine B0 rfl rfl rfl (fun b1=>?_)
 refine BG rfl Th rfl (fun b2=>?_)
 refine Ga rfl (Gn (.t3 1 2 4) (Gs (Gm rfl (Gt (Aj IU rfl) (Gt (AG rfl CM .m1 Ap.l3 rfl rfl) (Gt (BL rfl Tryz.underlying9 rfl) (Gt (MG rfl rfl) ?_)))))))
 refine Gt (Ly rfl rfl) (Ga rfl (Gn (.t3 1 2 4) (Gs (Gt (Aj IU rfl) (Gt (AG rfl CM .m1 Ap.l3 rfl rfl) (Gm rfl ?_))))))
 refine Gt (Il Tryz.underlying9 rfl rfl (by omega) (by omega)) ?_
 refine Ga rfl (Gn (.t4 1 2 4 6) (Gs (Gt (Aj IU rfl) (Gt (AG rfl CM .m1 Ap.l3 rfl rfl) (Gm rfl ?_)))))
 refine Gt (Gu Tryz.underlying9 rfl rfl (by omega) (by omega)) ?_
 refine Gt (Aj IU rfl) ?_
 refine AU (AK Ap.l3 rfl rfl rfl Ez rfl (.t .h)) ?_
 refine Gn (.t3 2 4 6) (Gs (Gt (AY rfl Co .m1 (AS.id Ap.fl.len Ap.fl.one) rfl) (Gm rfl ?_)))
 refine AU (AK (AS.id Ap.fl.len Ap.fl.one) rfl rfl rfl FH rfl .h) ?_
 refine Ga rfl (Gn (.t2 4 5) (Ac ?_))
 refine AZ rfl (.cell rfl .m0 (.inl ⟨(by rw [Ap.fl.len];exact Co),rfl⟩) (.tmp rfl .n)) ?_
 intro w1 hS;refine⟨?_,hS.Al⟩;rfl
theorem Hr (b:Nat)(V:AM)(ls:Vector BK 4)(ev:List Ing.Event)(a:Bk)(hL:AH.Live (A7 V ls ev))(hu:a.bytes.length≤140737488351232):Fa Tryz.prog 38 #[.pointer (some ⟨b,0,none⟩), .agg a.enc.toArray] [Ad.box b 101 (AM.enc V),Ad.Da (CL 9 (AM.As V) ls),Ad.own (AM.last V) 56 16 ((ev).flatMap Ing.Event.enc)] (fun w=>(GV 2 Fy w∧2 ∉ Cj [Ad.box b 101 (AM.enc V),Ad.Da (CL 9 (AM.As V) ls),Ad.own (AM.last V) 56 16 ((ev).flatMap Ing.Event.enc)])∧(GV 0 AI.DP w∧0 ∉ Cj [Ad.box b 101 (AM.enc V),Ad.Da (CL 9 (AM.As V) ls),Ad.own (AM.last V) 56 16 ((ev).flatMap Ing.Event.enc)])∧(G3 7 w∧7 ∉ Cj [Ad.box b 101 (AM.enc V),Ad.Da (CL 9 (AM.As V) ls),Ad.own (AM.last V) 56 16 ((ev).flatMap Ing.Event.enc)])∧(G3 8 w∧8 ∉ Cj [Ad.box b 101 (AM.enc V),Ad.Da (CL 9 (AM.As V) ls),Ad.own (AM.last V) 56 16 ((ev).flatMap Ing.Event.enc)])) (fun v B=>∃ V' ls' ev',v = .agg (Bp.enc (AH.act (A7 V ls ev) a).2).toArray∧A7 V' ls' ev'=(AH.act (A7 V ls ev) a).1∧B = [Ad.box b 101 (AM.enc V'),Ad.Da (CL 9 (AM.As V') ls'),Ad.own (AM.last V') 56 16 ((ev').flatMap Ing.Event.enc)]):=by
 intro w hS0 hH
 obtain⟨⟨gl0,gm0⟩,⟨gl1,gm1⟩,⟨gl2,gm2⟩,⟨gl3,gm3⟩⟩:=hH
 obtain⟨n,m,hF⟩:=hL.fits
 have hc:0≤V.CH:=hL.CH
 refine Am _ _ Tryz.func38 rfl rfl rfl (hS0) ?_
 refine Gs ?_
 refine B0 rfl rfl rfl (fun b1=>?_)
 refine BG rfl Kk rfl (fun b2=>?_)
 refine Gn (.t3 0 3 4) (Aq (Ag (Gs (Gm rfl (Gt (Ev Tryz.underlying37 rfl) (Ga rfl (Gn (.t4 0 3 4 11) ?_)))))))
 refine DU rfl rfl ?_
 refine Gs (Gm rfl (Gt (BV rfl) (Gt (Aj Q9 rfl) (Gt (AG rfl A5 .m2 AM.l2 rfl rfl) (Gt (CK rfl rfl) (Ga rfl (Gn (.t4 0 3 4 15) ?_)))))))
 refine Gc (fun c1=>?_) (fun c1=>?_)
 ·
  refine Gs (Gt (BH NO Kk rfl (.cons Bp.l0 rfl rfl rfl .nil)) ?_)
  refine AU (AK (AS.id Bp.fl.len Bp.fl.one) rfl rfl rfl Ki rfl .h) ?_
  refine Gn (.t1 4) (Ac (AT (AE ?_)))
  refine AZ rfl (.cell rfl .m0 (.inl ⟨(by rw [Bp.fl.len];exact Ii),rfl⟩) .n) ?_
  intro w1 hS
  have hS:=(hS.perm (Ay.perm (.c (.t (.t .h)) (.c (.t (.t .h)) (.c (.t (.t .h)) .n))))).A4
  have hq:(AH.act (A7 V ls ev) a)=((A7 V ls ev),⟨4,[]⟩):=BF c1
  refine⟨_,⟨V,ls,ev,?gv1,?ga1,rfl⟩,hS⟩
  case gv1=>rw [hq];rfl
  case ga1=>rw [hq]
 have c1p:=kz c1
 refine Aa ?_
 refine AB (.t3 0 3 4) ?_
 refine AV (AA (Gs (Gm rfl (Gt (BV rfl) (Gt (Aj Q9 rfl) (Gt (AG rfl A5 .m2 AM.l2 rfl rfl) ?_))))))
 refine Gt (Ax rfl rfl (IntWalk.i64_in _ (by first | omega | exact hi.1 | exact hi.2 | exact hs.1 | exact hs.2))) ?_
 refine Gt (BV rfl) (Gt (Aj Q9 rfl) ?_)
 refine AU (AK AM.l2 rfl rfl rfl DD rfl (.t (.t .h))) ?_
 refine Gn (.t3 0 3 4) (Gs (Gm rfl (Gt (BV rfl) (Gt (Aj Q3 rfl) ?_))))
 refine AU (AK (Y:=⟨none,0,0⟩) AM.l3 rfl rfl rfl R8 rfl (.t (.t .h))) ?_
 refine Gn (.t3 0 3 4) (Aq (Aq ?_))
 refine FF Ing.Event.enc 56 16 ?_
 refine EN (.c (.t (.t (.t .h))) (.c (.t (.t (.t .h))) (.c .h .n))) ?_
 refine AJ (Gm rfl (AQ (AA (Ag ?_))))
 refine Bo (.t4 32 0 3 4) ?_
 refine Bc (.t (.t .h)) ?_
 refine Bc (.t (.t .h)) ?_
 refine Bc (.t (.t .h)) ?_
 refine Hj (fun(i:Int) (V1:AM) (ls1:Vector BK 4) (ev1:List Ing.Event)=>0≤i∧i≤4∧(A7 V1 ls1 ev1)=AH.Ek ({ (A7 V ls ev) with CH:=((A7 V ls ev)).CH+1,last:= [] }:AH) i.toNat) (fun(i:Int) (V1:AM) (ls1:Vector BK 4) (ev1:List Ing.Event)=>(4 - i).toNat) (fun(i:Int) (V1:AM) (ls1:Vector BK 4) (ev1:List Ing.Event)=> [(32, .int .i64 i)]) (fun(i:Int) (V1:AM) (ls1:Vector BK 4) (ev1:List Ing.Event)=> [Ad.box b 101 (AM.enc V1),Ad.Da (CL 9 (AM.As V1) ls1),Ad.own (AM.last V1) 56 16 (ev1.flatMap Ing.Event.enc)]) (0) (_) (ls) ([]) ?_ rfl rfl (fun i V1 ls1 ev1 hI1=>?_)
 · exact⟨by omega,by omega,rfl⟩
 obtain⟨hI11,hI12,hI13⟩:=hI1
 refine Gs (Gt (BA rfl rfl) (AQ (AA (Aq ?_))))
 refine Gc (fun c2=>?_) (fun c2=>?_)
 ·
  have c2p:=kz c2
  have hi:0≤i∧i < 4:=⟨by omega,by omega⟩
  refine Aa ?_
  refine AB (.t4 0 3 4 32) ?_
  refine AA (Aq (Ag (Gs (Gm rfl (Ga rfl (Gn (.t5 0 3 4 5 32) ?_))))))
  refine FG (k:=i) hi.1 hi.2 (fun sv sl hsv hlv hln=>?_)
  refine AJ (Gm rfl (Gm rfl (Gt (BV rfl) (Gt (Aj F3 rfl) ?_))))
  refine Gt (AN PG rfl rfl (by first | omega | exact hi.1 | exact hi.2 | exact hs.1 | exact hs.2) (by first | omega | exact hi.1 | exact hi.2 | exact hs.1 | exact hs.2)) ?_
  refine Gt (Aj Qy rfl) ?_
  refine AU (AK (Y:=⟨none,0,0⟩) ((AS.BB V1 hi.1 hi.2).comp A3.l5) rfl rfl rfl MT rfl (.t (.t (.t .h)))) ?_
  refine AQ (AB (.t4 0 3 4 32) ?_)
  refine AV (AA ?_)
  refine FF A8 9 1 ?_
  refine EN (.c (.t .h) (.c (.t .h) (.c .h (.c (.t .h) (.c (.t .h) .n))))) ?_
  refine HH hi.1 hi.2 (by rfl) (by rfl) (by rfl) ?_
  refine AJ ?_
  refine Gt (Ax rfl rfl (IntWalk.i64_in _ (by first | omega | exact hi.1 | exact hi.2 | exact hs.1 | exact hs.2))) ?_
  refine Gm rfl ?_
  refine AQ (AB (.t4 0 3 4 32) ?_)
  refine CJ (.c .h (.c .h (.c (.t .h) (.c (.t .h) (.c (.t .h) (.c (.t .h) .n)))))) ?_
  refine Cf ?_
  refine C0 (i+1) _ _ _ ?_ ?_ (.t4 32 0 3 4) (.refl _)
  · exact⟨by omega,by omega,(Es hi.1 hi.2 hsv hlv (f:=fun x=>{ x with told:= [] }) rfl).trans (by rw [hI13];exact(AH.RK hI11).symm)⟩
  · omega
 have c2p:=kz c2
 obtain rfl:i=4:=by omega
 have hX:(A7 V1 ls1 ev1)=(AH.begun (A7 V ls ev)):=hI13
 have hF0:AH.Fit (A7 V1 ls1 ev1) 0 0:=by rw [hX];exact hF.begun
 refine Be (AW (AW (Ai ?_)))
 refine AB (.t3 0 3 4) ?_
 refine AA (CD (Gt (Aj Me rfl) (Gt (AG rfl A5 .m4 Bk.l0 rfl rfl) (Gt (Ak rfl rfl) (Gn (.t4 0 3 4 44) ?_)))))
 refine Gc (fun c3=>?_) (fun c3=>?_)
 ·
  have c3p:=kz c3
  refine Gs (Gm rfl (Gt (Aj Xs rfl) (Gt (AG rfl A5 .m4 Bk.l2 rfl rfl) ?_)))
  refine BJ rfl dm (.c rfl (.c rfl .n)) (.c .h (.c .h (.c .h .n))) (Pb _ V1 ls1 ev1 a.n 0 0 hF0 (by omega) (by omega)) (fun w hS=>⟨gl0.pull gm0 hS (.c .h (.c .h (.c .h .n))),gl1.pull gm1 hS (.c .h (.c .h (.c .h .n))),gl2.pull gm2 hS (.c .h (.c .h (.c .h .n))),gl3.pull gm3 hS (.c .h (.c .h (.c .h .n)))⟩) (fun v2 B hv=>?_)
  obtain⟨y3,y4,y5,rfl,y6,rfl⟩:=hv
  refine Gn (.t1 4) (Gs (Gt (BH NO Kk rfl .nil) ?_))
  refine AU (AK (AS.id Bp.fl.len Bp.fl.one) rfl rfl rfl Ki rfl (.t (.t (.t .h)))) ?_
  refine Gn (.t1 4) (Ac (AE ?_))
  refine AZ rfl (.cell rfl .m3 (.inl ⟨(by rw [Bp.fl.len];exact Ii),rfl⟩) .n) ?_
  intro w1 hS
  have hS:=(hS.perm (Ay.perm (.c .h (.c .h (.c .h .n))))).A4
  have hq0:AH.Dv (A7 V1 ls1 ev1) a=_:=(BF c3)
  have hq:(AH.act (A7 V ls ev) a)=_:=(AH.GO c1 a).trans ((congrArg (fun X=>AH.Dv X a) hX.symm).trans hq0)
  refine⟨_,⟨y3,y4,y5,?gv2,?ga2,rfl⟩,hS⟩
  case gv2=>rw [hq];rfl
  case ga2=>rw [hq];dsimp only;exact y6
 have c3p:=kz c3
 refine Aa ?_
 refine AB (.t3 0 3 4) ?_
 refine AA (CD (Gt (Aj Me rfl) (Gt (AG rfl A5 .m4 Bk.l0 rfl rfl) (Gt (BA rfl rfl) (Gm rfl (Bg 53 rfl rfl (fun q=>Aj Me rfl) (Bg 53 rfl rfl (fun q=>AG (cF rfl q) A5 .m4 Bk.l0 rfl rfl) ?_)))))))
 refine Bg 53 rfl rfl (fun q=>Cp (cF rfl q) rfl) ?_
 refine Gt (BU rfl rfl (fun h=>by rw [h];rfl)) ?_
 refine Gn (.t4 0 3 4 57) ?_
 refine Gc (fun c4=>?_) (fun c4=>?_)
 ·
  refine Gs (Gt (BH NO Kk rfl (.cons Bp.l0 rfl rfl rfl .nil)) ?_)
  refine AU (AK (AS.id Bp.fl.len Bp.fl.one) rfl rfl rfl Ki rfl (.t (.t (.t .h)))) ?_
  refine Gn (.t1 4) (Ac (AE ?_))
  refine AZ rfl (.cell rfl .m3 (.inl ⟨(by rw [Bp.fl.len];exact Ii),rfl⟩) .n) ?_
  intro w1 hS
  have hS:=(hS.perm (Ay.perm (.c .h (.c .h (.c .h .n))))).A4
  have hq0:AH.Dv (A7 V1 ls1 ev1) a=_:=((AX c3).trans (BF c4))
  have hq:(AH.act (A7 V ls ev) a)=_:=(AH.GO c1 a).trans ((congrArg (fun X=>AH.Dv X a) hX.symm).trans hq0)
  refine⟨_,⟨V1,ls1,ev1,?gv3,?ga3,rfl⟩,hS⟩
  case gv3=>rw [hq];rfl
  case ga3=>rw [hq]
 have c4p:=kz c4
 refine Aa ?_
 refine AB (.t3 0 3 4) ?_
 refine AA (CD (Gt (Aj Jb rfl) (Gt (AG rfl A5 .m4 Bk.l1 rfl rfl) (Gt (BA rfl rfl) (Gm rfl (Bg 62 rfl rfl (fun q=>Aj Jb rfl) (Bg 62 rfl rfl (fun q=>AG (cF rfl q) A5 .m4 Bk.l1 rfl rfl) ?_)))))))
 refine Bg 62 rfl rfl (fun q=>CK (cF rfl q) rfl) ?_
 refine Gt (BU rfl rfl (fun h=>by rw [h];rfl)) ?_
 refine Gn (.t4 0 3 4 66) ?_
 refine Gc (fun c5=>?_) (fun c5=>?_)
 ·
  refine Gs (Gt (BH NO Kk rfl (.cons Bp.l0 rfl rfl rfl .nil)) ?_)
  refine AU (AK (AS.id Bp.fl.len Bp.fl.one) rfl rfl rfl Ki rfl (.t (.t (.t .h)))) ?_
  refine Gn (.t1 4) (Ac (AE ?_))
  refine AZ rfl (.cell rfl .m3 (.inl ⟨(by rw [Bp.fl.len];exact Ii),rfl⟩) .n) ?_
  intro w1 hS
  have hS:=(hS.perm (Ay.perm (.c .h (.c .h (.c .h .n))))).A4
  have hq0:AH.Dv (A7 V1 ls1 ev1) a=_:=((AX c3).trans ((AX c4).trans (BF c5)))
  have hq:(AH.act (A7 V ls ev) a)=_:=(AH.GO c1 a).trans ((congrArg (fun X=>AH.Dv X a) hX.symm).trans hq0)
  refine⟨_,⟨V1,ls1,ev1,?gv4,?ga4,rfl⟩,hS⟩
  case gv4=>rw [hq];rfl
  case ga4=>rw [hq]
 have c5p:=kz c5
 have hs:0≤a.BB∧a.BB < 4:=⟨by omega,by omega⟩
 refine Aa ?_
 refine AB (.t3 0 3 4) ?_
 refine AA (Aq ?_)
 refine BE (N:=7) [0,0,2,1,9,31,63] mix (by kernel_rfl) rfl ?_
 refine Pf 0 rfl (AD rfl) (Pf 1 rfl (Aj Jb rfl) (Pf 2 rfl (AG rfl A5 .m4 Bk.l1 rfl rfl) (Pf 3 rfl (BV rfl) (Pf 4 rfl (Aj F3 rfl) ?_))))
 refine Pf 5 rfl (AN PG rfl rfl (by first | omega | exact hi.1 | exact hi.2 | exact hs.1 | exact hs.2) (by first | omega | exact hi.1 | exact hi.2 | exact hs.1 | exact hs.2)) ?_
 refine Pf 6 rfl (A2 rfl) ?_
 refine A1 (by kernel_rfl) ?_
 refine AB (.t4 0 3 4 6) ?_
 refine AA (Aq (Aq ?_))
 refine BE (N:=9) [0,1,3,7,15,0,32,96,255] mix (by kernel_rfl) rfl ?_
 refine Pf 0 rfl (AD rfl) (Pf 1 rfl (BV rfl) (Pf 2 rfl (Aj Ja rfl) ?_))
 refine Pf 3 rfl (AG rfl A5 .m0 ((AM.l1.comp (AS.ar (n:=4) A3.fl (by first | omega | exact hi | exact hs))).comp A3.l0) rfl rfl) ?_
 refine Pf 4 rfl (Ak rfl rfl) (Pf 5 rfl (Aj Me rfl) (Pf 6 rfl (AG rfl A5 .m4 Bk.l0 rfl rfl) (Pf 7 rfl (Ak rfl rfl) (Pf 8 rfl (Jq Tryz.underlying4 rfl rfl) ?_))))
 refine A1 (by kernel_rfl) ?_
 refine AB (.t5 0 3 4 6 82) ?_
 refine AA ?_
 refine Gc (fun c6=>?_) (fun c6=>?_)
 ·
  refine Gs (Gt (BH NO Kk rfl (.cons Bp.l0 rfl rfl rfl .nil)) ?_)
  refine AU (AK (AS.id Bp.fl.len Bp.fl.one) rfl rfl rfl Ki rfl (.t (.t (.t .h)))) ?_
  refine Gn (.t1 4) (Ac (AE ?_))
  refine AZ rfl (.cell rfl .m3 (.inl ⟨(by rw [Bp.fl.len];exact Ii),rfl⟩) .n) ?_
  intro w1 hS
  have hS:=(hS.perm (Ay.perm (.c .h (.c .h (.c .h .n))))).A4
  have hq0:AH.Dv (A7 V1 ls1 ev1) a=_:=((AX c3).trans ((AX c4).trans ((AX c5).trans (BF (show(decide ((AH.at_ (A7 V1 ls1 ev1) a.BB).state=0) != decide (a.kind=1))=true by rw [Gp V1 ls1 ev1 hs.1 hs.2];exact c6)))))
  have hq:(AH.act (A7 V ls ev) a)=_:=(AH.GO c1 a).trans ((congrArg (fun X=>AH.Dv X a) hX.symm).trans hq0)
  refine⟨_,⟨V1,ls1,ev1,?gv5,?ga5,rfl⟩,hS⟩
  case gv5=>rw [hq];rfl
  case ga5=>rw [hq]
 have c6p:=kz c6
 refine Aa ?_
 refine AB (.t4 0 3 4 6) ?_
 refine AA (CD (Gt (Aj Me rfl) (Gt (AG rfl A5 .m4 Bk.l0 rfl rfl) (Gn (.t5 0 3 4 6 85) (Ag (Gs (Gt (Ak rfl rfl) ?_)))))))
 refine Ga rfl (Gn (.t6 0 3 4 6 85 86) ?_)
 refine Gc (fun c7=>?_) (fun c7=>?_)
 ·
  have c7p:=kz c7
  refine AJ (Gm rfl (Gm rfl ?_))
  refine BJ rfl dZ (.c rfl (.c rfl .n)) (.c .h (.c .h (.c .h .n))) (Q8 _ V1 ls1 ev1 a.BB 0 0 hs hF0 (by omega) (by omega)) (fun w hS=>⟨gl0.pull gm0 hS (.c .h (.c .h (.c .h .n))),gl1.pull gm1 hS (.c .h (.c .h (.c .h .n))),gl2.pull gm2 hS (.c .h (.c .h (.c .h .n))),gl3.pull gm3 hS (.c .h (.c .h (.c .h .n)))⟩) (fun v7 B hv=>?_)
  obtain⟨y8,y9,y10,rfl,y11,rfl⟩:=hv
  refine AQ (AB (.t1 4) ?_)
  refine AV (AA (Gs (Gt (BH NO Kk rfl .nil) ?_)))
  refine AU (AK (AS.id Bp.fl.len Bp.fl.one) rfl rfl rfl Ki rfl (.t (.t (.t .h)))) ?_
  refine Gn (.t1 4) (Ac ?_)
  refine AZ rfl (.cell rfl .m3 (.inl ⟨(by rw [Bp.fl.len];exact Ii),rfl⟩) .n) ?_
  intro w1 hS
  have hS:=(hS.perm (Ay.perm (.c .h (.c .h (.c .h .n))))).A4
  have hq0:AH.Dv (A7 V1 ls1 ev1) a=_:=((AX c3).trans ((AX c4).trans ((AX c5).trans ((AX (show(decide ((AH.at_ (A7 V1 ls1 ev1) a.BB).state=0) != decide (a.kind=1))=false by rw [Gp V1 ls1 ev1 hs.1 hs.2];exact c6)).trans (BF c7)))))
  have hq:(AH.act (A7 V ls ev) a)=_:=(AH.GO c1 a).trans ((congrArg (fun X=>AH.Dv X a) hX.symm).trans hq0)
  refine⟨_,⟨y8,y9,y10,?gv6,?ga6,rfl⟩,hS⟩
  case gv6=>rw [hq];rfl
  case ga6=>rw [hq];dsimp only;exact y11
 have c7p:=kz c7
 refine Gs (Gt (Ak rfl rfl) (Ga rfl (Gn (.t6 0 3 4 6 85 91) ?_)))
 refine Gc (fun c8=>?_) (fun c8=>?_)
 ·
  have c8p:=kz c8
  refine Gs (Ga rfl (Ga rfl (Gn (.t4 0 3 4 6) (Aq ?_))))
  refine FG (k:=a.BB) hs.1 hs.2 (fun sv sl hsv hlv hln=>?_)
  refine BE (N:=18) [0,0,2,6,14,0,32,126,254,510,510,510,510,1023,9215,25599,59391,126975] mix (by kernel_rfl) rfl ?_
  refine Pf 0 rfl (AD rfl) (Pf 1 rfl (AD rfl) (Pf 2 rfl (BV rfl) (Pf 3 rfl (Aj LH rfl) (Pf 4 rfl (AY rfl EC .m3 ((AS.BB V1 hs.1 hs.2).comp A3.l2) rfl) (Pf 5 rfl (Aj Zr rfl) (Pf 6 rfl (AG rfl CM .m7 Bk.l3 rfl rfl) ?_))))))
  refine Ab 7 rfl rfl (by kernel_rfl) (Ln (JX (Dl dj (.c rfl (.c rfl .n)) (fun w hS=>Mi _ _ (by omega) w)))) ?_
  refine Pf 8 rfl (AD rfl) (Pf 9 rfl (AL rfl rfl) (Pf 10 rfl (AL rfl rfl) (Pf 11 rfl (AL rfl rfl) (Pf 12 rfl (AL rfl rfl) (Pf 13 rfl (BV rfl) (Pf 14 rfl (Aj LH rfl) ?_))))))
  refine Af 15 rfl (by kernel_rfl) ?_
  refine AU (AK ((AS.BB V1 hs.1 hs.2).comp A3.l2) rfl rfl rfl Kp rfl (.t (.t (.t .h)))) ?_
  refine BN rfl ⟨?_,?_⟩
  · exact(Pk (Pk (Po rfl (AL rfl rfl) rfl rfl (Po rfl (AL rfl rfl) rfl rfl (Po rfl (AL rfl rfl) rfl rfl (Pk (Pk (Pk (Pk (Pk (Pk (Pk (Pk (Pk (Pk Ar)))))))))))))))
  refine Pf 16 rfl (A2 rfl) (Pf 17 rfl (A2 rfl) ?_)
  refine A1 (by kernel_rfl) ?_
  refine AB (.t5 0 4 6 7 8) ?_
  refine AA (Gs (Gm rfl (Gm rfl (Gt (BV rfl) (Gt (Aj Dy rfl) (Gt (AY rfl Co .m3 ((AS.BB V1 hs.1 hs.2).comp A3.l4) rfl) (Gm rfl ?_)))))))
  refine BD rfl Xu (.c rfl (.c rfl .n)) (fun w hS=>EW _ _ (by have h:=AR.Vk sv.D6 a.bytes;omega) w) ?_
  refine Gm rfl (Gt (AL rfl rfl) (Gt (AL rfl rfl) (Gt (BV rfl) (Gt (Aj Dy rfl) ?_))))
  refine AU (AK ((AS.BB V1 hs.1 hs.2).comp A3.l4) rfl rfl rfl FH rfl (.t (.t (.t .h)))) ?_
  refine Gn (.t4 0 4 6 7) (Gs (Ga rfl (Gn (.t4 0 4 6 7) (CD (Gm rfl (Gm rfl (Gt (BV rfl) ?_)))))))
  refine Gt (Aj LI rfl) (Gt (AY rfl GH .m3 ((AS.BB V1 hs.1 hs.2).comp A3.l3) rfl) (Gm rfl ?_))
  refine BJ rfl eB (.c rfl (.c rfl .n)) .n (OI _ _ _ (by have h:=WO sv.D6 a.bytes;omega)) (fun w hS=>(Kn.own .m0) w hS) (fun v12 B hv=>?_)
  rcases hv with ⟨y13,rfl,rfl⟩ | ⟨y14,y15,rfl,y16,rfl⟩
  ·
   refine Gm rfl (Gt (AL rfl rfl) (Gt (AL rfl rfl) (Gt (AL rfl rfl) (Gt (BV rfl) (Gt (Aj LI rfl) ?_)))))
   refine AU (AK ((AS.BB V1 hs.1 hs.2).comp A3.l3) rfl rfl rfl LM rfl (.t (.t (.t .h)))) ?_
   refine Ga rfl (Gn (.t4 0 4 6 9) (Aq ?_))
   refine EN (.c .h (.c .h (.c .h (.c .h (.c .h .n))))) ?_
   refine HH hs.1 hs.2 (by rfl) (by rfl) (by rfl) ?_
   refine AJ (Gm rfl (Gt (Cp rfl rfl) (Gn (.t4 0 4 6 134) ?_)))
   refine Gc (fun c9=>?_) (fun c9=>?_)
   ·
    have c9p:=kz c9
    refine AJ (Gm rfl (Gm rfl ?_))
    refine Ah rfl TY (.c rfl (.c rfl (.c rfl .n))) (.c .h (.c .h (.c .h .n))) (EU _ (AM.BB V1 a.BB (heard sv a.bytes)) (ls1.put a.BB ⟨sl.queue,sl.wait,sl.told⟩) ev1 a.BB _ hs (Nat.le_trans (Gx (Im hs.1 hs.2 (FN (V:=V1) (ls:=ls1) (ev:=ev1) hs.1 hs.2 hsv hlv (HU (u:=a.bytes) hln.2.1 hln.1 y13)) hF0) a.BB hs.1 hs.2) (by omega))) (fun v18 B hv=>?_)
    obtain⟨y19,y20,y21,rfl,y22,rfl⟩:=hv
    refine Gn (.t2 0 4) (AJ (Gm rfl ?_))
    refine BJ rfl SG (.c rfl .n) (.c .h (.c .h (.c .h .n))) (D5 _ y19 y20 y21 1 0 (by rw [y22];exact(Im hs.1 hs.2 (FN (V:=V1) (ls:=ls1) (ev:=ev1) hs.1 hs.2 hsv hlv (HU (u:=a.bytes) hln.2.1 hln.1 y13)) hF0).tell hs.1 hs.2 (show AH.OG.length≤_ by decide)) (by omega) (by omega)) (fun w hS=>⟨gl0.pull gm0 hS (.c .h (.c .h (.c .h .n))),gl1.pull gm1 hS (.c .h (.c .h (.c .h .n))),gl2.pull gm2 hS (.c .h (.c .h (.c .h .n))),gl3.pull gm3 hS (.c .h (.c .h (.c .h .n)))⟩) (fun v23 B hv=>?_)
    obtain⟨y24,y25,y26,rfl,y27,rfl⟩:=hv
    refine AQ (AB (.t1 4) ?_)
    refine AV (AA (Gs (Gt (BH NO Kk rfl .nil) ?_)))
    refine AU (AK (AS.id Bp.fl.len Bp.fl.one) rfl rfl rfl Ki rfl (.t (.t (.t .h)))) ?_
    refine Gn (.t1 4) (Ac ?_)
    refine AZ rfl (.cell rfl .m3 (.inl ⟨(by rw [Bp.fl.len];exact Ii),rfl⟩) .n) ?_
    intro w1 hS
    have hS:=(hS.perm (Ay.perm (.c .h (.c .h (.c .h .n))))).A4
    have hq0:AH.Dv (A7 V1 ls1 ev1) a=_:=((AX c3).trans ((AX c4).trans ((AX c5).trans ((AX (show(decide ((AH.at_ (A7 V1 ls1 ev1) a.BB).state=0) != decide (a.kind=1))=false by rw [Gp V1 ls1 ev1 hs.1 hs.2];exact c6)).trans ((AX c7).trans (BF c8))))))
    have hq:(AH.act (A7 V ls ev) a)=_:=(AH.GO c1 a).trans ((congrArg (fun X=>AH.Dv X a) hX.symm).trans hq0)
    refine⟨_,⟨y24,y25,y26,?gv7,?ga7,rfl⟩,hS⟩
    case gv7=>rw [hq];rfl
    case ga7=>rw [hq];dsimp only;exact(Ld hs.1 hs.2 (FN (V:=V1) (ls:=ls1) (ev:=ev1) hs.1 hs.2 hsv hlv (HU (u:=a.bytes) hln.2.1 hln.1 y13)) (.inl ⟨c9,y22⟩) y27)
   have c9p:=kz c9
   refine Aa ?_
   refine AB (.t2 0 4) ?_
   refine AA (AJ (Gm rfl ?_))
   refine BJ rfl SG (.c rfl .n) (.c .h (.c .h (.c .h .n))) (D5 _ (AM.BB V1 a.BB (heard sv a.bytes)) (ls1.put a.BB ⟨sl.queue,sl.wait,sl.told⟩) ev1 0 0 (Im hs.1 hs.2 (FN (V:=V1) (ls:=ls1) (ev:=ev1) hs.1 hs.2 hsv hlv (HU (u:=a.bytes) hln.2.1 hln.1 y13)) hF0) (by omega) (by omega)) (fun w hS=>⟨gl0.pull gm0 hS (.c .h (.c .h (.c .h .n))),gl1.pull gm1 hS (.c .h (.c .h (.c .h .n))),gl2.pull gm2 hS (.c .h (.c .h (.c .h .n))),gl3.pull gm3 hS (.c .h (.c .h (.c .h .n)))⟩) (fun v28 B hv=>?_)
   obtain⟨y29,y30,y31,rfl,y32,rfl⟩:=hv
   refine AQ (AB (.t1 4) ?_)
   refine AV (AA (Gs (Gt (BH NO Kk rfl .nil) ?_)))
   refine AU (AK (AS.id Bp.fl.len Bp.fl.one) rfl rfl rfl Ki rfl (.t (.t (.t .h)))) ?_
   refine Gn (.t1 4) (Ac ?_)
   refine AZ rfl (.cell rfl .m3 (.inl ⟨(by rw [Bp.fl.len];exact Ii),rfl⟩) .n) ?_
   intro w1 hS
   have hS:=(hS.perm (Ay.perm (.c .h (.c .h (.c .h .n))))).A4
   have hq0:AH.Dv (A7 V1 ls1 ev1) a=_:=((AX c3).trans ((AX c4).trans ((AX c5).trans ((AX (show(decide ((AH.at_ (A7 V1 ls1 ev1) a.BB).state=0) != decide (a.kind=1))=false by rw [Gp V1 ls1 ev1 hs.1 hs.2];exact c6)).trans ((AX c7).trans (BF c8))))))
   have hq:(AH.act (A7 V ls ev) a)=_:=(AH.GO c1 a).trans ((congrArg (fun X=>AH.Dv X a) hX.symm).trans hq0)
   refine⟨_,⟨y29,y30,y31,?gv8,?ga8,rfl⟩,hS⟩
   case gv8=>rw [hq];rfl
   case ga8=>rw [hq];dsimp only;exact(Ld hs.1 hs.2 (FN (V:=V1) (ls:=ls1) (ev:=ev1) hs.1 hs.2 hsv hlv (HU (u:=a.bytes) hln.2.1 hln.1 y13)) (.inr ⟨c9,rfl⟩) y32)
  refine Gm rfl (Gt (AL rfl rfl) (Gt (AL rfl rfl) (Gt (AL rfl rfl) (Gt (BV rfl) (Gt (Aj LI rfl) ?_)))))
  refine AU (AK ((AS.BB V1 hs.1 hs.2).comp A3.l3) rfl rfl rfl LM rfl (.t (.t (.t (.t .h))))) ?_
  refine Ga rfl (Gn (.t4 0 4 6 9) (Aq ?_))
  refine EN (.c .h (.c (.t .h) (.c (.t .h) (.c (.t .h) (.c (.t .h) .n))))) ?_
  refine HH hs.1 hs.2 (by rfl) (by rfl) (by rfl) ?_
  refine AJ (Gm rfl (Gt (Cp rfl rfl) (Gn (.t4 0 4 6 134) ?_)))
  refine Gc (fun c10=>?_) (fun c10=>?_)
  ·
   have c10p:=kz c10
   refine AJ (Gm rfl (Gm rfl ?_))
   refine Ah rfl TY (.c rfl (.c rfl (.c rfl .n))) (.c .h (.c .h (.c (.t .h) .n))) (EU _ (AM.BB V1 a.BB { heard sv a.bytes with D4:=⟨(Bi.feed (Bi.start sv.D4 sl.queue) (sv.D6.Dr a.bytes).2.1).now,(Bi.feed (Bi.start sv.D4 sl.queue) (sv.D6.Dr a.bytes).2.1).Ci,(Bi.feed (Bi.start sv.D4 sl.queue) (sv.D6.Dr a.bytes).2.1).ret,y15⟩ }) (ls1.put a.BB ⟨(Bi.feed (Bi.start sv.D4 sl.queue) (sv.D6.Dr a.bytes).2.1).queue,sl.wait,sl.told⟩) ev1 a.BB _ hs (Nat.le_trans (Gx (Im hs.1 hs.2 (FN (V:=V1) (ls:=ls1) (ev:=ev1) hs.1 hs.2 hsv hlv (I1 (u:=a.bytes) hln.2.1 hln.1 y14 y15)) hF0) a.BB hs.1 hs.2) (by omega))) (fun v33 B hv=>?_)
   obtain⟨y34,y35,y36,rfl,y37,rfl⟩:=hv
   refine Gn (.t2 0 4) (AJ (Gm rfl ?_))
   refine BJ rfl SG (.c rfl .n) (.c .h (.c .h (.c .h .n))) (D5 _ y34 y35 y36 1 0 (by rw [y37];exact(Im hs.1 hs.2 (FN (V:=V1) (ls:=ls1) (ev:=ev1) hs.1 hs.2 hsv hlv (I1 (u:=a.bytes) hln.2.1 hln.1 y14 y15)) hF0).tell hs.1 hs.2 (show AH.OG.length≤_ by decide)) (by omega) (by omega)) (fun w hS=>⟨gl0.pull gm0 hS (.c .h (.c .h (.c .h .n))),gl1.pull gm1 hS (.c .h (.c .h (.c .h .n))),gl2.pull gm2 hS (.c .h (.c .h (.c .h .n))),gl3.pull gm3 hS (.c .h (.c .h (.c .h .n)))⟩) (fun v38 B hv=>?_)
   obtain⟨y39,y40,y41,rfl,y42,rfl⟩:=hv
   refine AQ (AB (.t1 4) ?_)
   refine AV (AA (Gs (Gt (BH NO Kk rfl .nil) ?_)))
   refine AU (AK (AS.id Bp.fl.len Bp.fl.one) rfl rfl rfl Ki rfl (.t (.t (.t (.t .h))))) ?_
   refine Gn (.t1 4) (Ac ?_)
   refine AZ rfl (.cell rfl .m4 (.inl ⟨(by rw [Bp.fl.len];exact Ii),rfl⟩) .n) ?_
   intro w1 hS
   have hS:=(hS.perm (Ay.perm (.c .h (.c .h (.c .h .n))))).A4
   have hq0:AH.Dv (A7 V1 ls1 ev1) a=_:=((AX c3).trans ((AX c4).trans ((AX c5).trans ((AX (show(decide ((AH.at_ (A7 V1 ls1 ev1) a.BB).state=0) != decide (a.kind=1))=false by rw [Gp V1 ls1 ev1 hs.1 hs.2];exact c6)).trans ((AX c7).trans (BF c8))))))
   have hq:(AH.act (A7 V ls ev) a)=_:=(AH.GO c1 a).trans ((congrArg (fun X=>AH.Dv X a) hX.symm).trans hq0)
   refine⟨_,⟨y39,y40,y41,?gv9,?ga9,rfl⟩,hS⟩
   case gv9=>rw [hq];rfl
   case ga9=>rw [hq];dsimp only;exact(Ld hs.1 hs.2 (FN (V:=V1) (ls:=ls1) (ev:=ev1) hs.1 hs.2 hsv hlv (I1 (u:=a.bytes) hln.2.1 hln.1 y14 y15)) (.inl ⟨c10,y37⟩) y42)
  have c10p:=kz c10
  refine Aa ?_
  refine AB (.t2 0 4) ?_
  refine AA (AJ (Gm rfl ?_))
  refine BJ rfl SG (.c rfl .n) (.c .h (.c .h (.c (.t .h) .n))) (D5 _ (AM.BB V1 a.BB { heard sv a.bytes with D4:=⟨(Bi.feed (Bi.start sv.D4 sl.queue) (sv.D6.Dr a.bytes).2.1).now,(Bi.feed (Bi.start sv.D4 sl.queue) (sv.D6.Dr a.bytes).2.1).Ci,(Bi.feed (Bi.start sv.D4 sl.queue) (sv.D6.Dr a.bytes).2.1).ret,y15⟩ }) (ls1.put a.BB ⟨(Bi.feed (Bi.start sv.D4 sl.queue) (sv.D6.Dr a.bytes).2.1).queue,sl.wait,sl.told⟩) ev1 0 0 (Im hs.1 hs.2 (FN (V:=V1) (ls:=ls1) (ev:=ev1) hs.1 hs.2 hsv hlv (I1 (u:=a.bytes) hln.2.1 hln.1 y14 y15)) hF0) (by omega) (by omega)) (fun w hS=>⟨gl0.pull gm0 hS (.c .h (.c .h (.c (.t .h) .n))),gl1.pull gm1 hS (.c .h (.c .h (.c (.t .h) .n))),gl2.pull gm2 hS (.c .h (.c .h (.c (.t .h) .n))),gl3.pull gm3 hS (.c .h (.c .h (.c (.t .h) .n)))⟩) (fun v43 B hv=>?_)
  obtain⟨y44,y45,y46,rfl,y47,rfl⟩:=hv
  refine AQ (AB (.t1 4) ?_)
  refine AV (AA (Gs (Gt (BH NO Kk rfl .nil) ?_)))
  refine AU (AK (AS.id Bp.fl.len Bp.fl.one) rfl rfl rfl Ki rfl (.t (.t (.t (.t .h))))) ?_
  refine Gn (.t1 4) (Ac ?_)
  refine AZ rfl (.cell rfl .m4 (.inl ⟨(by rw [Bp.fl.len];exact Ii),rfl⟩) .n) ?_
  intro w1 hS
  have hS:=(hS.perm (Ay.perm (.c .h (.c .h (.c .h .n))))).A4
  have hq0:AH.Dv (A7 V1 ls1 ev1) a=_:=((AX c3).trans ((AX c4).trans ((AX c5).trans ((AX (show(decide ((AH.at_ (A7 V1 ls1 ev1) a.BB).state=0) != decide (a.kind=1))=false by rw [Gp V1 ls1 ev1 hs.1 hs.2];exact c6)).trans ((AX c7).trans (BF c8))))))
  have hq:(AH.act (A7 V ls ev) a)=_:=(AH.GO c1 a).trans ((congrArg (fun X=>AH.Dv X a) hX.symm).trans hq0)
  refine⟨_,⟨y44,y45,y46,?gv10,?ga10,rfl⟩,hS⟩
  case gv10=>rw [hq];rfl
  case ga10=>rw [hq];dsimp only;exact(Ld hs.1 hs.2 (FN (V:=V1) (ls:=ls1) (ev:=ev1) hs.1 hs.2 hsv hlv (I1 (u:=a.bytes) hln.2.1 hln.1 y14 y15)) (.inr ⟨c10,rfl⟩) y47)
 have c8p:=kz c8
 refine Gs (Gt (Ak rfl rfl) (Ga rfl (Gn (.t6 0 3 4 6 85 140) ?_)))
 refine Gc (fun c11=>?_) (fun c11=>?_)
 ·
  have c11p:=kz c11
  refine Gs (Ga rfl (Gn (.t4 0 3 4 6) (Aq ?_)))
  refine FG (k:=a.BB) hs.1 hs.2 (fun sv sl hsv hlv hln=>?_)
  refine BE (N:=15) [0,0,2,6,14,0,32,126,254,510,510,1023,3071,7167,16383] mix (by kernel_rfl) rfl ?_
  refine Pf 0 rfl (AD rfl) (Pf 1 rfl (AD rfl) (Pf 2 rfl (BV rfl) (Pf 3 rfl (Aj Dy rfl) (Pf 4 rfl (AY rfl Co .m3 ((AS.BB V1 hs.1 hs.2).comp A3.l4) rfl) (Pf 5 rfl (Aj Xs rfl) (Pf 6 rfl (AG rfl A5 .m7 Bk.l2 rfl rfl) ?_))))))
  refine Ab 7 rfl rfl (by kernel_rfl) (Ln (JX (Dl dH (.c rfl (.c rfl .n)) (fun w hS=>NK _ _ w)))) ?_
  refine Pf 8 rfl (AD rfl) (Pf 9 rfl (AL rfl rfl) (Pf 10 rfl (AL rfl rfl) (Pf 11 rfl (BV rfl) (Pf 12 rfl (Aj Dy rfl) ?_))))
  refine Af 13 rfl (by kernel_rfl) ?_
  refine AU (AK ((AS.BB V1 hs.1 hs.2).comp A3.l4) rfl rfl rfl FH rfl (.t (.t (.t .h)))) ?_
  refine BN rfl ⟨?_,?_⟩
  · exact(Pk (Pk (Po rfl (AL rfl rfl) rfl rfl (Pk (Pk (Pk (Pk (Pk (Pk (Pk (Pk (Pk (Pk Ar)))))))))))))
  refine Pf 14 rfl (A2 rfl) ?_
  refine A1 (by kernel_rfl) ?_
  refine AB (.t3 0 4 10) ?_
  refine AA (Aq ?_)
  refine EN (.c .h (.c .h (.c .h (.c .h (.c .h .n))))) ?_
  refine HH hs.1 hs.2 (by rfl) (by rfl) (by rfl) ?_
  refine AJ (Gm rfl ?_)
  refine BJ rfl SG (.c rfl .n) (.c .h (.c .h (.c .h .n))) (D5 _ (AM.BB V1 a.BB { sv with out:=⟨sv.out.wait,sv.out.shown,sv.out.Bv,sv.out.ring.drop (max 0 (min a.n (sv.out.ring.length:Int))).toNat,sv.out.cut⟩ }) (ls1.put a.BB ⟨sl.queue,sl.wait,sl.told⟩) ev1 0 0 (by rw [(show A7 (AM.BB V1 a.BB { sv with out:=⟨sv.out.wait,sv.out.shown,sv.out.Bv,sv.out.ring.drop (max 0 (min a.n (sv.out.ring.length:Int))).toNat,sv.out.cut⟩ }) (ls1.put a.BB ⟨sl.queue,sl.wait,sl.told⟩) ev1=AH.set (A7 V1 ls1 ev1) a.BB ((AH.at_ (A7 V1 ls1 ev1) a.BB).HZ a.n) from Es hs.1 hs.2 hsv hlv (f:=fun x=>x.HZ a.n) rfl)];exact hF0.HZ hs.1 hs.2 a.n) (by omega) (by omega)) (fun w hS=>⟨gl0.pull gm0 hS (.c .h (.c .h (.c .h .n))),gl1.pull gm1 hS (.c .h (.c .h (.c .h .n))),gl2.pull gm2 hS (.c .h (.c .h (.c .h .n))),gl3.pull gm3 hS (.c .h (.c .h (.c .h .n)))⟩) (fun v48 B hv=>?_)
  obtain⟨y49,y50,y51,rfl,y52,rfl⟩:=hv
  refine Gn (.t2 4 10) (Gs (Gm rfl (Gt (BH NO Kk rfl (.cons Bp.l1 rfl rfl rfl .nil)) ?_)))
  refine AU (AK (AS.id Bp.fl.len Bp.fl.one) rfl rfl rfl Ki rfl (.t (.t (.t .h)))) ?_
  refine Gn (.t1 4) (Ac (AT (AE ?_)))
  refine AZ rfl (.cell rfl .m3 (.inl ⟨(by rw [Bp.fl.len];exact Ii),rfl⟩) .n) ?_
  intro w1 hS
  have hS:=(hS.perm (Ay.perm (.c .h (.c .h (.c .h .n))))).A4
  have hq0:AH.Dv (A7 V1 ls1 ev1) a=_:=((AX c3).trans ((AX c4).trans ((AX c5).trans ((AX (show(decide ((AH.at_ (A7 V1 ls1 ev1) a.BB).state=0) != decide (a.kind=1))=false by rw [Gp V1 ls1 ev1 hs.1 hs.2];exact c6)).trans ((AX c7).trans ((AX c8).trans (BF c11)))))))
  have hq:(AH.act (A7 V ls ev) a)=_:=(AH.GO c1 a).trans ((congrArg (fun X=>AH.Dv X a) hX.symm).trans hq0)
  refine⟨_,⟨y49,y50,y51,?gv11,?ga11,rfl⟩,hS⟩
  case gv11=>rw [hq];exact congrArg (fun x=>Value.agg (Bp.enc ⟨0,x⟩).toArray) (XB V1 ls1 ev1 hs.1 hs.2 hsv a.n)
  case ga11=>rw [hq];dsimp only;exact y52.trans (congrArg AH.BZ (show A7 (AM.BB V1 a.BB { sv with out:=⟨sv.out.wait,sv.out.shown,sv.out.Bv,sv.out.ring.drop (max 0 (min a.n (sv.out.ring.length:Int))).toNat,sv.out.cut⟩ }) (ls1.put a.BB ⟨sl.queue,sl.wait,sl.told⟩) ev1=AH.set (A7 V1 ls1 ev1) a.BB ((AH.at_ (A7 V1 ls1 ev1) a.BB).HZ a.n) from Es hs.1 hs.2 hsv hlv (f:=fun x=>x.HZ a.n) rfl))
 have c11p:=kz c11
 refine Gs (Gt (Ak rfl rfl) (Ga rfl (Gn (.t4 0 4 6 159) ?_)))
 refine HF rfl (decide_eq_true (by omega)) ?_
 refine Gs (Gm rfl (Gm rfl ?_))
 refine BJ rfl aj (.c rfl (.c rfl .n)) (.c .h (.c .h (.c .h .n))) (IQ _ V1 ls1 ev1 a.BB 0 0 hs hF0 (by omega) (by omega)) (fun w hS=>⟨gl0.pull gm0 hS (.c .h (.c .h (.c .h .n))),gl1.pull gm1 hS (.c .h (.c .h (.c .h .n))),gl2.pull gm2 hS (.c .h (.c .h (.c .h .n))),gl3.pull gm3 hS (.c .h (.c .h (.c .h .n)))⟩) (fun v53 B hv=>?_)
 obtain⟨y54,y55,y56,rfl,y57,rfl⟩:=hv
 refine Gn (.t2 0 4) (AJ (Gm rfl ?_))
 refine BJ rfl SG (.c rfl .n) (.c .h (.c .h (.c .h .n))) (D5 _ y54 y55 y56 11 11 (by rw [y57];exact hF0.leave hs.1 hs.2) (by omega) (by omega)) (fun w hS=>⟨gl0.pull gm0 hS (.c .h (.c .h (.c .h .n))),gl1.pull gm1 hS (.c .h (.c .h (.c .h .n))),gl2.pull gm2 hS (.c .h (.c .h (.c .h .n))),gl3.pull gm3 hS (.c .h (.c .h (.c .h .n)))⟩) (fun v58 B hv=>?_)
 obtain⟨y59,y60,y61,rfl,y62,rfl⟩:=hv
 refine AQ (AB (.t1 4) ?_)
 refine AV (AA (Gs (Gt (BH NO Kk rfl .nil) ?_)))
 refine AU (AK (AS.id Bp.fl.len Bp.fl.one) rfl rfl rfl Ki rfl (.t (.t (.t .h)))) ?_
 refine Gn (.t1 4) (Ac ?_)
 refine AZ rfl (.cell rfl .m3 (.inl ⟨(by rw [Bp.fl.len];exact Ii),rfl⟩) .n) ?_
 intro w1 hS
 have hS:=(hS.perm (Ay.perm (.c .h (.c .h (.c .h .n))))).A4
 have hq0:AH.Dv (A7 V1 ls1 ev1) a=_:=((AX c3).trans ((AX c4).trans ((AX c5).trans ((AX (show(decide ((AH.at_ (A7 V1 ls1 ev1) a.BB).state=0) != decide (a.kind=1))=false by rw [Gp V1 ls1 ev1 hs.1 hs.2];exact c6)).trans ((AX c7).trans ((AX c8).trans (AX c11)))))))
 have hq:(AH.act (A7 V ls ev) a)=_:=(AH.GO c1 a).trans ((congrArg (fun X=>AH.Dv X a) hX.symm).trans hq0)
 refine⟨_,⟨y59,y60,y61,?gv12,?ga12,rfl⟩,hS⟩
 case gv12=>rw [hq];rfl
 case ga12=>rw [hq];dsimp only;exact y62.trans (congrArg AH.BZ y57)
theorem FM (b:Nat)(V:AM)(i:Int)(hi:0≤i∧i < 4):Jk Tryz.prog 21 #[.pointer (some ⟨b,0,none⟩), .int .i64 i] [Ad.box b 101 (AM.enc V)] (fun v B=>v = .tuple #[.int .i64 (DS (V.As.at i)).1, .int .i64 (DS (V.As.at i)).2]∧B = [Ad.box b 101 (AM.enc V)]):=by
 intro w hS0
 refine Am _ _ Tryz.func21 rfl rfl rfl (hS0) ?_
 refine Gs (Ga rfl (Ga rfl (Gn (.t2 0 1) (CD (Gm rfl (Gt (Ev Tryz.underlying37 rfl) (Gm rfl ?_)))))))
 refine Dd (t:=8) rfl rfl rfl (AD rfl) ?_
 refine Dd (t:=8) rfl rfl rfl (BA rfl rfl) ?_
 refine Gt (CC rfl rfl) (Gm rfl (Bg 12 rfl rfl (fun q=>AD rfl) (Bg 12 rfl rfl (fun q=>CK (cF rfl q) rfl) ?_)))
 refine Gt (BU rfl rfl (fun h=>by rw [h];rfl)) ?_
 refine Gm rfl (Bg 16 rfl rfl (fun q=>AD rfl) (Bg 16 rfl rfl (fun q=>AD rfl) (Bg 16 rfl rfl (fun q=>BV (cF rfl q)) (Bg 16 rfl rfl (fun q=>Aj F3 (cF rfl q)) ?_))))
 refine Bg 16 rfl rfl (fun q=>by have q1:=q;(try simp at q1);exact AN PG (cF rfl q) (cF rfl q) (by first | omega | exact hi.1 | exact hi.2) (by first | omega | exact hi.1 | exact hi.2)) ?_
 refine Bg 16 rfl rfl (fun q=>Aj Ja (cF rfl q)) ?_
 refine Bg 16 rfl rfl (fun q=>by have q1:=q;(try simp at q1);exact AG (cF rfl q) A5 .m0 ((AM.l1.comp (AS.ar (n:=4) A3.fl (by first | omega | exact hi))).comp A3.l0) rfl rfl) ?_
 refine Bg 16 rfl rfl (fun q=>CN (cF rfl q) rfl) ?_
 refine Gt (BU rfl rfl (fun h=>by rw [h];rfl)) ?_
 refine Gn (.t3 0 1 25) ?_
 refine Gc (fun c1=>?_) (fun c1=>?_)
 ·
  have c1p:=kz c1
  refine CD (Gm rfl (Gt (Ev Tryz.underlying37 rfl) (Gm rfl ?_)))
  refine Dd (t:=28) rfl rfl rfl (AD rfl) ?_
  refine Dd (t:=28) rfl rfl rfl (BA rfl rfl) ?_
  refine Gt (CC rfl rfl) (Gm rfl (Bg 32 rfl rfl (fun q=>AD rfl) (Bg 32 rfl rfl (fun q=>CK (cF rfl q) rfl) ?_)))
  refine Gt (BU rfl rfl (fun h=>by rw [h];rfl)) ?_
  refine Gn (.t3 0 1 35) ?_
  refine DU rfl (by rw [Bool.or_eq_false_iff,decide_eq_false_iff_not,decide_eq_false_iff_not];omega) ?_
  refine Aa ?_
  refine AB (.t2 0 1) ?_
  refine AA (Gs (Gm rfl (Gm rfl (Gt (BV rfl) (Gt (Aj F3 rfl) ?_)))))
  refine Gt (AN PG rfl rfl (by first | omega | exact hi.1 | exact hi.2) (by first | omega | exact hi.1 | exact hi.2)) ?_
  refine Gt (Aj Ja rfl) ?_
  refine Gt (AG rfl A5 .m0 ((AM.l1.comp (AS.ar (n:=4) A3.fl (by first | omega | exact hi))).comp A3.l0) rfl rfl) ?_
  refine Ga rfl (Ga rfl (Gn (.t2 4 5) (Ac (AE ?_))))
  refine AZ rfl (.tmp rfl (.tmp rfl .n)) ?_
  intro w1 hS
  have hS:=(hS.perm (Ay.perm (.c .h .n))).A4
  have hq:DS (V.As.at i)=_:=if_neg (by rw [decide_eq_true_eq];rcases c1p with (h | h) | h<;>first | omega | exact h)
  refine⟨_,⟨?gv1,rfl⟩,hS⟩
  case gv1=>rw [hq];rfl
 have c1p:=kz c1
 refine Aa ?_
 refine AB (.t2 0 1) ?_
 refine AA (Aq ?_)
 refine BE (N:=9) [0,0,1,5,15,31,63,0,255] mix (by kernel_rfl) rfl ?_
 refine Pf 0 rfl (AD rfl) (Pf 1 rfl (AD rfl) (Pf 2 rfl (BV rfl) (Pf 3 rfl (Aj F3 rfl) ?_)))
 refine Pf 4 rfl (AN PG rfl rfl (by first | omega | exact hi.1 | exact hi.2) (by first | omega | exact hi.1 | exact hi.2)) ?_
 refine Pf 5 rfl (Aj IV rfl) ?_
 refine Pf 6 rfl (AG rfl A5 .m0 ((AM.l1.comp (AS.ar (n:=4) A3.fl (by first | omega | exact hi))).comp A3.l1) rfl rfl) ?_
 refine Pf 7 rfl (A2 rfl) (Pf 8 rfl (A2 rfl) ?_)
 refine A1 (by kernel_rfl) ?_
 refine AB (.t2 4 5) ?_
 refine AA (Ac ?_)
 refine AZ rfl (.tmp rfl (.tmp rfl .n)) ?_
 intro w1 hS
 have hS:=(hS.perm (Ay.perm (.c .h .n))).A4
 have hq:DS (V.As.at i)=_:=if_pos (decide_eq_true c1p.2)
 refine⟨_,⟨?gv2,rfl⟩,hS⟩
 case gv2=>rw [hq];rfl
theorem RM (b:Nat)(V:AM)(ls:Vector BK 4)(i:Int)(hi:0≤i∧i < 4)(hl:(ls.at i).told.length≤1000000):Jk Tryz.prog 24 #[.pointer (some ⟨b,0,none⟩), .int .i64 i] [Ad.box b 101 (AM.enc V),Ad.Da (CL 9 (AM.As V) ls)] (fun v B=>∃ h':Hd,v=h'.val∧h'.len=(ls.at i).told.length∧B = [Ad.box b 101 (AM.enc V),Ad.Da (CL 9 (AM.As V) ls),Ad.own h' 9 1 ((ls.at i).told.flatMap A8)]):=by
 intro w hS0
 refine Am _ _ Tryz.func24 rfl rfl rfl (hS0) ?_
 refine Gs (Ga rfl (Gn (.t2 0 1) (CD (Gm rfl (Gt (Ev Tryz.underlying37 rfl) (Gm rfl ?_))))))
 refine Dd (t:=7) rfl rfl rfl (AD rfl) ?_
 refine Dd (t:=7) rfl rfl rfl (BA rfl rfl) ?_
 refine Gt (CC rfl rfl) (Gm rfl (Bg 11 rfl rfl (fun q=>AD rfl) (Bg 11 rfl rfl (fun q=>CK (cF rfl q) rfl) ?_)))
 refine Gt (BU rfl rfl (fun h=>by rw [h];rfl)) ?_
 refine Gn (.t3 0 1 14) ?_
 refine DU rfl (by rw [Bool.or_eq_false_iff,decide_eq_false_iff_not,decide_eq_false_iff_not];omega) ?_
 refine Aa ?_
 refine AB (.t2 0 1) ?_
 refine AA (Aq ?_)
 refine FG (k:=i) hi.1 hi.2 (fun sv sl hsv hlv hln=>?_)
 have hl2:=hl
 rw [hlv] at hl2
 refine AJ (Gm rfl (Gm rfl (Gt (BV rfl) (Gt (Aj F3 rfl) ?_))))
 refine Gt (AN PG rfl rfl (by first | omega | exact hi.1 | exact hi.2) (by first | omega | exact hi.1 | exact hi.2)) ?_
 refine Gt (Aj Qy rfl) (Gt (AG rfl Eh .m3 ((AS.BB V hi.1 hi.2).comp A3.l5) rfl rfl) ?_)
 refine Dg A8 9 1 ?_
 refine Jd (e:=A8) rfl Tryz.underlying52 Ez R3 rfl WW (by decide) rfl rfl (fun w hS=>Src.D8 Tryz.underlying52 ((Kn.own .m3) w hS)) rfl rfl (by omega) (fun _=> .h) (fun h1 h1l=>?_)
 refine Ga rfl (Gn (.t1 4) (Ac ?_))
 refine AZ rfl (.tmp rfl .n) ?_
 intro w1 hS
 have hS:=(hS.perm (Ay.perm (.c (.t .h) (.c (.t .h) (.c (.t .h) (.c (.t .h) (.c (.t .h) (.c .h .n)))))))).A4
 have e1:V.BB i sv=V:=by rw [← hsv];exact V.Kf hi.1 hi.2
 have e2:ls.put i ⟨sl.queue,sl.wait,sl.told⟩=ls:=by rw [← hlv];exact Vector.MF ls hi.1 hi.2
 have hS:=St.close' (s:=sv) (qs:=sl.queue) (ws:=sl.wait) (ts:=sl.told) hi.1 hi.2 rfl rfl rfl hS
 rw [e1,e2] at hS
 try rw [hsv]
 rw [hlv]
 refine⟨_,⟨_,rfl,?gl,rfl⟩,hS⟩
 case gl=>(try simp only [List.length_append,List.length_nil] at *);omega
theorem Nr  (w:World)(gl0:GV 2 Fy w)(gl1:GV 0 AI.DP w)(gl2:G3 7 w)(gl3:G3 8 w):En Tryz.prog 33 #[] w fun v w'=>v = .bool true∧B9 w w':=by
 refine Am [] [] Tryz.func33 rfl rfl rfl (St.start w []) ?_
 refine Gs (Ga rfl (Gn (.nil _) (Gs ?_)))
 refine Ah rfl bB .n .n (Jv ) (fun v1 B hv=>?_)
 obtain⟨y2,y3,y4,y5,rfl,y6,rfl⟩:=hv
 refine Ga rfl (Gn (.t1 1) (CD (Gm rfl (Gt (Ev Tryz.underlying37 rfl) (Gn (.t2 1 8) ?_)))))
 refine DU rfl rfl ?_
 refine Aa ?_
 refine AB (.t1 1) ?_
 refine AA (Gs (Gm rfl (Gt (BH Z6 aX rfl (.cons Bk.l0 rfl rfl rfl (.cons Bk.l1 rfl rfl rfl .nil))) ?_)))
 refine BJ rfl X1 (.c rfl (.c rfl .n)) (.c .h (.c .h (.c .h .n))) (Hr y2 y3 y4 y5 AH.P3 (by rw [y6];exact AH.eR) (by decide)) (fun w hS=>⟨gl0.pull (by simp) hS (.c .h (.c .h (.c .h .n))),gl1.pull (by simp) hS (.c .h (.c .h (.c .h .n))),gl2.pull (by simp) hS (.c .h (.c .h (.c .h .n))),gl3.pull (by simp) hS (.c .h (.c .h (.c .h .n)))⟩) (fun v8 B hv=>?_)
 obtain⟨y9,y10,y11,rfl,y12,rfl⟩:=hv
 refine BG rfl Kk rfl (fun b1=>?_)
 refine AU (AK (AS.id Bp.fl.len Bp.fl.one) rfl rfl rfl Ki rfl .h) ?_
 refine Gn (.t2 1 2) (Gs (Gm rfl (Gt (BH Z6 aX rfl (.cons Bk.l0 rfl rfl rfl (.cons Bk.l1 rfl rfl rfl (.cons Bk.l3 rfl rfl rfl .nil)))) ?_)))
 refine BJ rfl X1 (.c rfl (.c rfl .n)) (.c (.t .h) (.c (.t .h) (.c (.t .h) .n))) (Hr y2 y9 y10 y11 AH.type2 (by rw [y12,y6];exact AH.eW) (by decide)) (fun w hS=>⟨gl0.pull (by simp) hS (.c (.t .h) (.c (.t .h) (.c (.t .h) .n))),gl1.pull (by simp) hS (.c (.t .h) (.c (.t .h) (.c (.t .h) .n))),gl2.pull (by simp) hS (.c (.t .h) (.c (.t .h) (.c (.t .h) .n))),gl3.pull (by simp) hS (.c (.t .h) (.c (.t .h) (.c (.t .h) .n)))⟩) (fun v13 B hv=>?_)
 obtain⟨y14,y15,y16,rfl,y17,rfl⟩:=hv
 refine Gn (.t2 1 2) (Gs (Gm rfl (Gt (BH Z6 aX rfl (.cons Bk.l0 rfl rfl rfl .nil)) ?_)))
 refine BJ rfl X1 (.c rfl (.c rfl .n)) (.c .h (.c .h (.c .h .n))) (Hr y2 y14 y15 y16 AH.Ti (by rw [y17,y12,y6];exact AH.eQ) (by decide)) (fun w hS=>⟨gl0.pull (by simp) hS (.c .h (.c .h (.c .h .n))),gl1.pull (by simp) hS (.c .h (.c .h (.c .h .n))),gl2.pull (by simp) hS (.c .h (.c .h (.c .h .n))),gl3.pull (by simp) hS (.c .h (.c .h (.c .h .n)))⟩) (fun v18 B hv=>?_)
 obtain⟨y19,y20,y21,rfl,y22,rfl⟩:=hv
 refine BG rfl Kk rfl (fun b2=>?_)
 refine AU (AK (AS.id Bp.fl.len Bp.fl.one) rfl rfl rfl Ki rfl .h) ?_
 refine Gn (.t3 1 2 3) (Aq ?_)
 have hA:A7 y19 y20 y21=AH.cy:=by rw [y22,y17,y12,y6];rfl
 have hA3:(A7 y19 y20 y21).Live:=by rw [hA];exact AH.Wl
 refine AJ (Gm rfl ?_)
 refine Ah rfl XY (.c rfl (.c rfl .n)) (.c (.t .h) .n) (FM y2 y19 2 (by decide)) (fun v23 B hv=>?_)
 obtain⟨rfl,rfl⟩:=hv
 refine Gm rfl (Gt (AL rfl rfl) (Gt (AL rfl rfl) (Ga rfl (Ga rfl (Gn (.t5 1 2 3 4 5) (Gs (Gt (Aj Wp rfl) ?_)))))))
 refine Gt (AG rfl ZS .m4 Bp.l0 rfl rfl) (Gt (Ak rfl rfl) (Gm rfl (Bb 26 rfl rfl (fun q=>Aj Wp rfl) (Bb 26 rfl rfl (fun q=>AG (BX rfl q) ZS .m1 Bp.l0 rfl rfl) (Bb 26 rfl rfl (fun q=>Ak (BX rfl q) rfl) (Gt (BI rfl rfl (fun h=>h)) (Gm rfl ?_)))))))
 refine Bb 31 rfl rfl (fun q=>AD rfl) (Bb 31 rfl rfl (fun q=>Ak (BX rfl q) rfl) (Gt (BI rfl rfl (fun h=>h)) (Gm rfl (Bb 35 rfl rfl (fun q=>AD rfl) (Bb 35 rfl rfl (fun q=>Ak (BX rfl q) rfl) (Gt (BI rfl rfl (fun h=>h)) (Gm rfl ?_)))))))
 refine Bb 39 rfl rfl (fun q=>AD rfl) ?_
 refine Lw 39 rfl (fun c1=>?_) (fun c1=>?_)
 ·
  refine Ht (t:=39) rfl (by first | rfl | exact GD rfl c1) rfl dG (.c (BX rfl c1) (.c rfl .n)) (.c .h (.c (.t .h) .n)) (RM y2 y19 y20 2 (by decide) (hA3.told (by decide) (by decide))) (fun v24 B hv=>?_)
  obtain⟨y25,rfl,y26,rfl⟩:=hv
  refine Dd (t:=39) rfl rfl rfl (Av rfl Tryz.underlying52 rfl) ?_
  refine Dd (t:=39) rfl rfl rfl (Cp rfl rfl) ?_
  refine Gt (Cz rfl rfl) (Ga rfl (Gn (.t1 0) (Ac ?_)))
  refine AZ rfl (.tmp rfl .n) ?_
  intro w1 hS;refine⟨?_,hS.Al⟩;have hd:=AH.db
  rw [← hA,Ca _ _ _ (by decide) (by decide)] at hd
  exact congrArg Value.bool (by rw [y26];exact hd)
 refine DH (t:=39) rfl rfl rfl rfl ?_
 refine DH (t:=39) rfl rfl rfl rfl ?_
 refine DH (t:=39) rfl rfl rfl rfl ?_
 refine Gt (CC rfl rfl) (Ga rfl (Gn (.t1 0) (Ac ?_)))
 refine AZ rfl (.tmp rfl .n) ?_
 intro w1 hS;refine⟨?_,hS.Al⟩;have hs:=Qs y19 y20 y21 (show(0:Int)≤2 by decide) (by decide)
 rw [hA,AH.eL] at hs
 have hc:=c1
 rw [hs,y6,AH.dp,y17,y12,y6,AH.eF] at hc
 cases hc
theorem Pd {t0:Nat}(f:Hd)(l:List Bk)(hu:∀ a∈l,a.bytes.length≤140737488351232):Fa Tryz.prog 16 #[f.val, .func (.func 41) #[] #[]] [] (fun w=>eN w (Cj []) f t0 4 (l.flatMap Bk.enc)∧(GV 2 Fy w∧2 ∉ Cj [])∧(GV 0 AI.DP w∧0 ∉ Cj [])∧(G3 7 w∧7 ∉ Cj [])∧(G3 8 w∧8 ∉ Cj [])) (fun v B=>∃(b:Nat) (V:AM) (ls:Vector BK 4) (ev:List Ing.Event),v = .tuple #[.pointer (some ⟨b,0,none⟩), .bool true]∧A7 V ls ev=AH.Nc l∧B = [Ad.box b 101 (AM.enc V),Ad.Da (CL 9 (AM.As V) ls),Ad.own (AM.last V) 56 16 ((ev).flatMap Ing.Event.enc)]):=by
 intro w hS0 hH
 obtain⟨r0,⟨gl0,gm0⟩,⟨gl1,gm1⟩,⟨gl2,gm2⟩,⟨gl3,gm3⟩⟩:=hH
 have hfl:=r0.1.MC Bk.fl (by decide)
 refine Am _ _ Tryz.func16 rfl rfl rfl (hS0) ?_
 refine Gs (Ga rfl (Ga rfl (Gn (.t2 0 1) (CD ?_))))
 refine BD rfl dR .n (fun w hS=>Nr w (gl0.stM gm0 hS) (gl1.stM gm1 hS) (gl2.stM gm2 hS) (gl3.stM gm3 hS)) ?_
 refine Gt (BR rfl) (Gn (.t3 0 1 10) ?_)
 refine DU rfl rfl ?_
 refine Aa ?_
 refine AB (.t2 0 1) ?_
 refine AA (Gs ?_)
 refine Ah rfl bB .n .n (Jv ) (fun v1 B hv=>?_)
 obtain⟨y2,y3,y4,y5,rfl,y6,rfl⟩:=hv
 refine Ga rfl (Gn (.t3 0 1 6) (CD (Ga rfl (AQ (AA (Ag ?_))))))
 refine Bo (.t4 7 0 1 6) ?_
 refine Bc (.t (.t .h)) ?_
 refine Bc (.t (.t .h)) ?_
 refine Bc (.t (.t .h)) ?_
 refine Hj (fun(k:Int) (V1:AM) (ls1:Vector BK 4) (ev1:List Ing.Event)=>0≤k∧k≤150∧k≤(l.length:Int)∧A7 V1 ls1 ev1=(AH.new.run (l.take k.toNat)).1) (fun(k:Int) (V1:AM) (ls1:Vector BK 4) (ev1:List Ing.Event)=>(150 - k).toNat) (fun(k:Int) (V1:AM) (ls1:Vector BK 4) (ev1:List Ing.Event)=> [(7, .int .i64 k)]) (fun(k:Int) (V1:AM) (ls1:Vector BK 4) (ev1:List Ing.Event)=> [Ad.box y2 101 (AM.enc V1),Ad.Da (CL 9 (AM.As V1) ls1),Ad.own (AM.last V1) 56 16 (ev1.flatMap Ing.Event.enc)]) (0) (y3) (y4) (y5) ?_ rfl rfl (fun k V1 ls1 ev1 hI1=>?_)
 · exact⟨by omega,by omega,by omega,y6⟩
 obtain⟨hI11,hI12,hI13,hI14⟩:=hI1
 refine CD (Gm rfl (Gm rfl (Gt (Av rfl Tryz.underlying22 rfl) (Gt (BA rfl rfl) (Gm rfl (Bb 16 rfl rfl (fun q=>AD rfl) (Bb 16 rfl rfl (fun q=>BA (BX rfl q) rfl) ?_)))))))
 refine Gt (BI rfl rfl (fun h=>h)) (Gn (.t5 0 1 6 7 19) ?_)
 refine Gc (fun c1=>?_) (fun c1=>?_)
 ·
  have c1p:=kz c1
  refine Aa ?_
  refine AB (.t4 0 1 6 7) ?_
  refine AA (Aq (Ag (Gs (Gm rfl (Gm rfl (Gm rfl ?_))))))
  refine Gt (Bs cL (by decide) (Kn.YU r0) rfl rfl (by omega) (by omega)) ?_
  refine Gt (OY rfl YC (by decide) Bk.fl (Kn.YU r0) (by omega)) ?_
  refine BJ rfl X1 (.c rfl (.c rfl .n)) (.c .h (.c .h (.c .h .n))) (Hr y2 V1 ls1 ev1 (l.getD k.toNat default) (by rw [hI14];exact AH.Live.run _ AH.Lg) (hu _ (P6 (d:=default) (xs:=l) (i:=k.toNat) (by omega)))) (fun w hS=>⟨gl0.pull gm0 hS (.c .h (.c .h (.c .h .n))),gl1.pull gm1 hS (.c .h (.c .h (.c .h .n))),gl2.pull gm2 hS (.c .h (.c .h (.c .h .n))),gl3.pull gm3 hS (.c .h (.c .h (.c .h .n)))⟩) (fun v8 B hv=>?_)
  obtain⟨y9,y10,y11,rfl,y12,rfl⟩:=hv
  refine BG rfl Kk rfl (fun b1=>?_)
  refine AU (AK (AS.id Bp.fl.len Bp.fl.one) rfl rfl rfl Ki rfl .h) ?_
  refine Gn (.t5 0 1 6 7 8) (Aq ?_)
  refine BE (N:=9) [0,0,0,0,12,28,0,127,255] mix (by kernel_rfl) rfl ?_
  refine Pf 0 rfl (AD rfl) (Pf 1 rfl (AD rfl) (Pf 2 rfl (AD rfl) (Pf 3 rfl (AD rfl) ?_)))
  refine Pf 4 rfl (Bs cL (by decide) (Kn.YU r0) rfl rfl (by omega) (by omega)) ?_
  refine Pf 5 rfl (OY rfl YC (by decide) Bk.fl (Kn.YU r0) (by omega)) ?_
  refine Pf 6 rfl (AY rfl Ii .m0 (AS.id Bp.fl.len Bp.fl.one) rfl) ?_
  refine Af 7 rfl (by kernel_rfl) ?_
  refine DR rfl dI rfl (.c rfl (.c rfl (.c rfl .n))) .n (O0 _ _ _) (fun v13 B hv=>?_)
  obtain⟨rfl,rfl⟩:=hv
  refine Bf rfl ⟨?_,?_⟩
  · exact(Pk (Pk (Pk (Pk (Pk (Pk (Pk Ar)))))))
  refine Pf 8 rfl (BR rfl) ?_
  refine A1 (by kernel_rfl) ?_
  refine AB (.t5 0 1 6 7 36) ?_
  refine AA ?_
  refine DU rfl rfl ?_
  refine Aa ?_
  refine AB (.t4 0 1 6 7) ?_
  refine AV (AA (AJ (Gm rfl ?_)))
  refine Gt (Ax rfl rfl (IntWalk.i64_in _ (by omega))) ?_
  refine Ga rfl ?_
  refine AQ (AB (.t4 0 1 6 7) ?_)
  refine C0 (k+1) _ _ _ ?_ ?_ (.t4 7 0 1 6) (.cons _ (.refl _))
  · exact⟨by omega,by omega,by omega,by rw [AH.XS hI11 (by omega),← hI14];exact y12⟩
  · omega
 have c1p:=kz c1
 refine Be (AW (AW (Ai ?_)))
 refine AB (.t1 6) ?_
 refine AA (Gs (Gm rfl (Ga rfl (Ga rfl (Gn (.t2 4 5) (Ac ?_))))))
 refine AZ rfl (.tmp rfl (.tmp rfl .n)) ?_
 intro w1 hS
 have hS:=(hS.perm (Ay.perm (.c .h (.c .h (.c .h .n))))).A4
 refine⟨_,⟨y2,V1,ls1,ev1,rfl,?ga1,rfl⟩,hS⟩
 case ga1=>exact hI14.trans (congrArg Prod.fst (AH.S3 hI11 hI13 hI12 (by omega)))
theorem JL (b:Nat)(V:AM)(ls:Vector BK 4)(i:Int)(hi:0≤i∧i < 4)(hl:(ls.at i).wait.length≤1000000):Jk Tryz.prog 28 #[.pointer (some ⟨b,0,none⟩), .int .i64 i] [Ad.box b 101 (AM.enc V),Ad.Da (CL 9 (AM.As V) ls)] (fun v B=>∃ h':Hd,v = .agg (Ap.enc ⟨h',(V.As.at i).out.shown,(V.As.at i).out.Bv,(V.As.at i).out.ring,(V.As.at i).out.cut⟩).toArray∧h'.len=(ls.at i).wait.length∧B = [Ad.box b 101 (AM.enc V),Ad.Da (CL 9 (AM.As V) ls),Ad.own h' 9 1 ((ls.at i).wait.flatMap A8)]):=by
 intro w hS0
 refine Am _ _ Tryz.func28 rfl rfl rfl (hS0) ?_
 refine Gs ?_
 refine BG rfl Th rfl (fun b1=>?_)
 refine AQ (AA (CD (Gm rfl (Gt (Ev Tryz.underlying37 rfl) (Gm rfl ?_)))))
 refine Dd (t:=8) rfl rfl rfl (AD rfl) ?_
 refine Dd (t:=8) rfl rfl rfl (BA rfl rfl) ?_
 refine Gt (CC rfl rfl) (Gm rfl (Bg 12 rfl rfl (fun q=>AD rfl) (Bg 12 rfl rfl (fun q=>CK (cF rfl q) rfl) ?_)))
 refine Gt (BU rfl rfl (fun h=>by rw [h];rfl)) ?_
 refine Gn (.t4 0 1 4 15) ?_
 refine DU rfl (by rw [Bool.or_eq_false_iff,decide_eq_false_iff_not,decide_eq_false_iff_not];omega) ?_
 refine Aa ?_
 refine AB (.t3 0 1 4) ?_
 refine AA (Aq ?_)
 refine EN (.c (.t .h) (.c (.t .h) .n)) ?_
 refine FG (k:=i) hi.1 hi.2 (fun sv sl hsv hlv hln=>?_)
 have hl2:=hl
 rw [hlv] at hl2
 refine AJ (Gm rfl (Gm rfl (Gt (BV rfl) (Gt (Aj F3 rfl) ?_))))
 refine Gt (AN PG rfl rfl (by first | omega | exact hi.1 | exact hi.2) (by first | omega | exact hi.1 | exact hi.2)) ?_
 refine Gt (Aj Dy rfl) (Gt (AY rfl Co .m3 ((AS.BB V hi.1 hi.2).comp A3.l4) rfl) ?_)
 refine BG rfl Th rfl (fun b2=>?_)
 refine AU (AK (AS.id Ap.fl.len Ap.fl.one) rfl rfl rfl FH rfl .h) ?_
 refine Gn (.t2 4 5) (Gs (Gt (Aj G4 rfl) (Gt (AG rfl Eh .m0 Ap.l0 rfl rfl) ?_)))
 refine Dg A8 9 1 ?_
 refine Jd (e:=A8) rfl Tryz.underlying52 Ez R3 rfl WW (by decide) rfl rfl (fun w hS=>Src.D8 Tryz.underlying52 ((Kn.own .m3) w hS)) rfl rfl (by omega) (fun _=> .h) (fun h1 h1l=>?_)
 refine Gt (Aj G4 rfl) ?_
 refine AU (AK Ap.l0 rfl rfl rfl MT rfl (.t .h)) ?_
 refine Gn (.t2 4 5) (Gs (Gt (AY rfl Co .m1 (AS.id Ap.fl.len Ap.fl.one) rfl) ?_))
 refine AU (AK (AS.id Ap.fl.len Ap.fl.one) rfl rfl rfl FH rfl (.t (.t (.t (.t (.t (.t (.t .h)))))))) ?_
 refine Gn (.t1 4) (Ac ?_)
 refine AZ rfl (.cell rfl .m7 (.inl ⟨(by rw [Ap.fl.len];exact Co),rfl⟩) .n) ?_
 intro w1 hS
 have hS:=(hS.perm (Ay.perm (.c (.t (.t .h)) (.c (.t (.t .h)) (.c (.t (.t .h)) (.c (.t (.t .h)) (.c (.t (.t .h)) (.c .h .n)))))))).A4
 have e1:V.BB i sv=V:=by rw [← hsv];exact V.Kf hi.1 hi.2
 have e2:ls.put i ⟨sl.queue,sl.wait,sl.told⟩=ls:=by rw [← hlv];exact Vector.MF ls hi.1 hi.2
 have hS:=St.close' (s:=sv) (qs:=sl.queue) (ws:=sl.wait) (ts:=sl.told) hi.1 hi.2 rfl rfl rfl hS
 rw [e1,e2] at hS
 try rw [hsv]
 rw [hlv]
 refine⟨_,⟨_,rfl,?gl,rfl⟩,hS⟩
 case gl=>(try simp only [List.length_append,List.length_nil] at *);omega
theorem JO (b:Nat)(V:AM)(ls:Vector BK 4)(i:Int)(hi:0≤i∧i < 4)(hl:(ls.at i).queue.length≤1000000):Jk Tryz.prog 32 #[.pointer (some ⟨b,0,none⟩), .int .i64 i] [Ad.box b 101 (AM.enc V),Ad.Da (CL 9 (AM.As V) ls)] (fun v B=>∃ h':Hd,v = .agg (A6.enc ⟨(V.As.at i).D4.now,(V.As.at i).D4.Ci,(V.As.at i).D4.ret,h'⟩).toArray∧h'.len=(ls.at i).queue.length∧B = [Ad.box b 101 (AM.enc V),Ad.Da (CL 9 (AM.As V) ls),Ad.own h' 9 1 ((ls.at i).queue.flatMap A8)]):=by
 intro w hS0
 refine Am _ _ Tryz.func32 rfl rfl rfl (hS0) ?_
 refine Gs ?_
 refine BG rfl Yq rfl (fun b1=>?_)
 refine AQ (AA (CD (Gm rfl (Gt (Ev Tryz.underlying37 rfl) (Gm rfl ?_)))))
 refine Dd (t:=8) rfl rfl rfl (AD rfl) ?_
 refine Dd (t:=8) rfl rfl rfl (BA rfl rfl) ?_
 refine Gt (CC rfl rfl) (Gm rfl (Bg 12 rfl rfl (fun q=>AD rfl) (Bg 12 rfl rfl (fun q=>CK (cF rfl q) rfl) ?_)))
 refine Gt (BU rfl rfl (fun h=>by rw [h];rfl)) ?_
 refine Gn (.t4 0 1 4 15) ?_
 refine DU rfl (by rw [Bool.or_eq_false_iff,decide_eq_false_iff_not,decide_eq_false_iff_not];omega) ?_
 refine Aa ?_
 refine AB (.t3 0 1 4) ?_
 refine AA (Aq ?_)
 refine EN (.c (.t .h) (.c (.t .h) .n)) ?_
 refine FG (k:=i) hi.1 hi.2 (fun sv sl hsv hlv hln=>?_)
 have hl2:=hl
 rw [hlv] at hl2
 refine AJ (Gm rfl (Gm rfl (Gt (BV rfl) (Gt (Aj F3 rfl) ?_))))
 refine Gt (AN PG rfl rfl (by first | omega | exact hi.1 | exact hi.2) (by first | omega | exact hi.1 | exact hi.2)) ?_
 refine Gt (Aj LI rfl) (Gt (AY rfl GH .m3 ((AS.BB V hi.1 hi.2).comp A3.l3) rfl) ?_)
 refine BG rfl Yq rfl (fun b2=>?_)
 refine AU (AK (AS.id A6.fl.len A6.fl.one) rfl rfl rfl LM rfl .h) ?_
 refine Gn (.t2 4 5) (Gs (Gt (Aj Ex rfl) (Gt (AG rfl Eh .m0 A6.l3 rfl rfl) ?_)))
 refine Dg A8 9 1 ?_
 refine Jd (e:=A8) rfl Tryz.underlying52 Ez R3 rfl WW (by decide) rfl rfl (fun w hS=>Src.D8 Tryz.underlying52 ((Kn.own .m2) w hS)) rfl rfl (by omega) (fun _=> .h) (fun h1 h1l=>?_)
 refine Gt (Aj Ex rfl) ?_
 refine AU (AK A6.l3 rfl rfl rfl MT rfl (.t .h)) ?_
 refine Gn (.t2 4 5) (Gs (Gt (AY rfl GH .m1 (AS.id A6.fl.len A6.fl.one) rfl) ?_))
 refine AU (AK (AS.id A6.fl.len A6.fl.one) rfl rfl rfl LM rfl (.t (.t (.t (.t (.t (.t (.t .h)))))))) ?_
 refine Gn (.t1 4) (Ac ?_)
 refine AZ rfl (.cell rfl .m7 (.inl ⟨(by rw [A6.fl.len];exact GH),rfl⟩) .n) ?_
 intro w1 hS
 have hS:=(hS.perm (Ay.perm (.c (.t (.t .h)) (.c (.t (.t .h)) (.c (.t (.t .h)) (.c (.t (.t .h)) (.c (.t (.t .h)) (.c .h .n)))))))).A4
 have e1:V.BB i sv=V:=by rw [← hsv];exact V.Kf hi.1 hi.2
 have e2:ls.put i ⟨sl.queue,sl.wait,sl.told⟩=ls:=by rw [← hlv];exact Vector.MF ls hi.1 hi.2
 have hS:=St.close' (s:=sv) (qs:=sl.queue) (ws:=sl.wait) (ts:=sl.told) hi.1 hi.2 rfl rfl rfl hS
 rw [e1,e2] at hS
 try rw [hsv]
 rw [hlv]
 refine⟨_,⟨_,rfl,?gl,rfl⟩,hS⟩
 case gl=>(try simp only [List.length_append,List.length_nil] at *);omega
theorem HW {t0 t1:Nat}(f g:Hd)(xs ys:List Au)(hx:xs.length≤9223372036854775807)(w:World)(r0:Rd w f t0 1 (xs.flatMap A8))(r1:Rd w g t1 1 (ys.flatMap A8)):En Tryz.prog 26 #[f.val,g.val] w fun v w'=>v = .bool (decide (xs=ys))∧B9 w w':=by
 have hf:=r0.MC De (by decide)
 have hg:=r1.MC De (by decide)
 refine Am [] [] Tryz.func26 rfl rfl rfl (St.start w []) ?_
 refine Gs (Ga rfl (Gn (.t2 0 1) (CD (Gm rfl (Gt (Av rfl Tryz.underlying52 rfl) (Gm rfl (Gt (Av rfl Tryz.underlying52 rfl) ?_)))))))
 refine Gt (CN rfl rfl) (Gn (.t3 0 1 10) ?_)
 refine Gc (fun c1=>?_) (fun c1=>?_)
 ·
  have c1p:=kz c1
  refine Gs (Ga rfl (Gn (.t1 4) (Ac (AE ?_))))
  refine AZ rfl (.tmp rfl .n) ?_
  intro w1 hS;refine⟨congrArg Value.bool ?_,hS.Al⟩;have:xs≠ys:=fun e=>by subst e;simp at c1;omega
  simp [this]
 have c1p:=kz c1
 refine Aa ?_
 refine AB (.t2 0 1) ?_
 refine AA (CD (Ga rfl (AQ (AA (Ag ?_)))))
 refine Bo (.t3 5 0 1) ?_
 refine CT (fun(i:Int)=>0≤i∧i≤xs.length∧xs.length=ys.length∧xs.take i.toNat=ys.take i.toNat) (fun(i:Int)=>((xs.length:Int) - i).toNat) (fun(i:Int)=> [(5, .int .i64 i)]) (fun(i:Int)=> []) (0) ?_ rfl rfl (fun i hI1=>?_)
 · exact⟨by omega,by omega,by simp at c1;omega,rfl⟩
 obtain⟨hI11,hI12,hI13,hI14⟩:=hI1
 refine CD (Gm rfl (Gm rfl (Gt (Av rfl Tryz.underlying52 rfl) (Gt (BA rfl rfl) (Gn (.t4 0 1 5 14) ?_)))))
 refine Gc (fun c2=>?_) (fun c2=>?_)
 ·
  have c2p:=kz c2
  refine Aa ?_
  refine AB (.t3 0 1 5) ?_
  refine AA (Aq (Ag (Aq ?_)))
  refine BE (N:=9) [0,0,3,7,0,0,48,112,255] mix (by kernel_rfl) rfl ?_
  refine Pf 0 rfl (AD rfl) (Pf 1 rfl (AD rfl) ?_)
  refine Pf 2 rfl (Bs Io (by decide) (Kn.Hv r0) rfl rfl (by omega) (by omega)) ?_
  refine Pf 3 rfl (DM rfl CM (Kn.Hv r0) (by omega)) ?_
  refine Pf 4 rfl (AD rfl) (Pf 5 rfl (AD rfl) ?_)
  refine Pf 6 rfl (Bs Io (by decide) (Kn.Hv r1) rfl rfl (by omega) (by omega)) ?_
  refine Pf 7 rfl (DM rfl CM (Kn.Hv r1) (by omega)) ?_
  refine Pf 8 rfl (Dt rfl rfl) ?_
  refine A1 (by kernel_rfl) ?_
  refine AB (.t4 0 1 5 25) ?_
  refine AA ?_
  refine Gc (fun c3=>?_) (fun c3=>?_)
  ·
   refine Gs (Ga rfl (Gn (.t1 4) (Ac (AT (AE (AE (AT ?_)))))))
   refine AE ?_
   refine AZ rfl (.tmp rfl .n) ?_
   intro w1 hS;refine⟨congrArg Value.bool ?_,hS.Al⟩;have:=Bi.TI (d:= []) (xs:=xs) (ys:=ys) (i:=i.toNat) (by simpa using c3)
   simp [this]
  have c3p:=kz c3
  refine Aa ?_
  refine AB (.t3 0 1 5) ?_
  refine AV (AA (AJ (Gm rfl ?_)))
  refine Gt (Ax rfl rfl (IntWalk.i64_in _ (by omega))) ?_
  refine Ga rfl ?_
  refine AQ (AB (.t3 0 1 5) ?_)
  refine Bz (i+1) ?_ ?_ (.t3 5 0 1) (.refl _)
  · exact⟨by omega,by omega,hI13,Bi.KT (d:= []) hI11 hI13 (by omega) hI14 (by simpa using c3)⟩
  · omega
 have c2p:=kz c2
 refine Be (AW (AW (Ai ?_)))
 refine AB (.nil _) ?_
 refine AA (Gs (Ga rfl (AQ (AA (Ac ?_)))))
 refine AZ rfl (.tmp rfl .n) ?_
 intro w1 hS;refine⟨congrArg Value.bool ?_,hS.Al⟩;have:=Bi.cE (xs:=xs) (ys:=ys) hI13 hI14 (by omega)
 simp [this]
theorem IJ {t0 t1:Nat}(x y:Ap)(xs ys:List Au)(hx:xs.length≤9223372036854775807)(w:World)(r0:Rd w x.wait t0 1 (xs.flatMap A8))(r1:Rd w y.wait t1 1 (ys.flatMap A8)):En Tryz.prog 39 #[.agg x.enc.toArray, .agg y.enc.toArray] w fun v w'=>v = .bool (decide (xs=ys) && decide (x.shown=y.shown) && (x.Bv == y.Bv) && decide (x.ring=y.ring) && (x.cut == y.cut))∧B9 w w':=by
 refine Am [] [] Tryz.func39 rfl rfl rfl (St.start w []) ?_
 refine Gs ?_
 refine B0 rfl rfl rfl (fun b1=>?_)
 refine B0 rfl rfl rfl (fun b2=>?_)
 refine Ga rfl (Gn (.t2 2 3) (Gs (Gt (Aj G4 rfl) (Gt (AG rfl Eh .m1 Ap.l0 rfl rfl) (Gt (Aj G4 rfl) (Gt (AG rfl Eh .m0 Ap.l0 rfl rfl) ?_))))))
 refine BD rfl ax (.c rfl (.c rfl .n)) (fun w hS=>HW _ _ _ _ (by first | assumption | omega) w ((Kn.Hv r0) w hS) ((Kn.Hv r1) w hS)) ?_
 refine Gm rfl (Bb 10 rfl rfl (fun q=>Aj KK rfl) (Bb 10 rfl rfl (fun q=>AG (BX rfl q) A5 .m1 Ap.l1 rfl rfl) (Bb 10 rfl rfl (fun q=>Aj KK rfl) (Bb 10 rfl rfl (fun q=>AG (BX rfl q) A5 .m0 Ap.l1 rfl rfl) (Bb 10 rfl rfl (fun q=>Ak (BX rfl q) (BX rfl q)) (Gt (BI rfl rfl (fun h=>h)) (Gm rfl ?_)))))))
 refine Bb 17 rfl rfl (fun q=>Aj Mm rfl) (Bb 17 rfl rfl (fun q=>AG (BX rfl q) DO .m1 Ap.l2 rfl rfl) (Bb 17 rfl rfl (fun q=>Aj Mm rfl) (Bb 17 rfl rfl (fun q=>AG (BX rfl q) DO .m0 Ap.l2 rfl rfl) (Bb 17 rfl rfl (fun q=>Ew Tryz.underlying4 (BX rfl q) (BX rfl q)) (Gt (BI rfl rfl (fun h=>h)) (Gm rfl (Bb 24 rfl rfl (fun q=>Aj IU rfl) ?_)))))))
 refine Bb 24 rfl rfl (fun q=>AG (BX rfl q) CM .m1 Ap.l3 rfl rfl) (Bb 24 rfl rfl (fun q=>Aj IU rfl) (Bb 24 rfl rfl (fun q=>AG (BX rfl q) CM .m0 Ap.l3 rfl rfl) (Bb 24 rfl rfl (fun q=>Bu (BX rfl q) (BX rfl q)) (Gt (BI rfl rfl (fun h=>h)) (Gm rfl (Bb 31 rfl rfl (fun q=>Aj JT rfl) (Bb 31 rfl rfl (fun q=>AG (BX rfl q) DO .m1 Ap.l4 rfl rfl) ?_)))))))
 refine Bb 31 rfl rfl (fun q=>Aj JT rfl) (Bb 31 rfl rfl (fun q=>AG (BX rfl q) DO .m0 Ap.l4 rfl rfl) (Bb 31 rfl rfl (fun q=>Ew Tryz.underlying4 (BX rfl q) (BX rfl q)) (Gt (BI rfl rfl (fun h=>h)) (Ga rfl (Gn (.t1 4) (Ac ?_))))))
 refine AZ rfl (.tmp rfl .n) ?_
 intro w1 hS;refine⟨?_,hS.Al⟩;rfl
theorem IL {t0 t1:Nat}(x y:A6)(xs ys:List Au)(hx:xs.length≤9223372036854775807)(w:World)(r0:Rd w x.queue t0 1 (xs.flatMap A8))(r1:Rd w y.queue t1 1 (ys.flatMap A8)):En Tryz.prog 40 #[.agg x.enc.toArray, .agg y.enc.toArray] w fun v w'=>v = .bool (decide (x.now=y.now) && (x.Ci == y.Ci) && (x.ret == y.ret) && decide (xs=ys))∧B9 w w':=by
 refine Am [] [] Tryz.func40 rfl rfl rfl (St.start w []) ?_
 refine Gs ?_
 refine B0 rfl rfl rfl (fun b1=>?_)
 refine B0 rfl rfl rfl (fun b2=>?_)
 refine Ga rfl (Gn (.t2 2 3) (Gs (Gt (Aj IZ rfl) (Gt (AG rfl CM .m1 A6.l0 rfl rfl) (Gt (Aj IZ rfl) (Gt (AG rfl CM .m0 A6.l0 rfl rfl) (Gt (Bu rfl rfl) ?_)))))))
 refine Gm rfl (Bb 10 rfl rfl (fun q=>Aj LY rfl) (Bb 10 rfl rfl (fun q=>AG (BX rfl q) DO .m1 A6.l1 rfl rfl) (Bb 10 rfl rfl (fun q=>Aj LY rfl) (Bb 10 rfl rfl (fun q=>AG (BX rfl q) DO .m0 A6.l1 rfl rfl) (Bb 10 rfl rfl (fun q=>Ew Tryz.underlying4 (BX rfl q) (BX rfl q)) (Gt (BI rfl rfl (fun h=>h)) (Gm rfl ?_)))))))
 refine Bb 17 rfl rfl (fun q=>Aj LZ rfl) (Bb 17 rfl rfl (fun q=>AG (BX rfl q) DO .m1 A6.l2 rfl rfl) (Bb 17 rfl rfl (fun q=>Aj LZ rfl) (Bb 17 rfl rfl (fun q=>AG (BX rfl q) DO .m0 A6.l2 rfl rfl) (Bb 17 rfl rfl (fun q=>Ew Tryz.underlying4 (BX rfl q) (BX rfl q)) (Gt (BI rfl rfl (fun h=>h)) (Gm rfl (Bb 24 rfl rfl (fun q=>Aj Ex rfl) ?_)))))))
 refine Bb 24 rfl rfl (fun q=>AG (BX rfl q) Eh .m1 A6.l3 rfl rfl) (Bb 24 rfl rfl (fun q=>Aj Ex rfl) (Bb 24 rfl rfl (fun q=>AG (BX rfl q) Eh .m0 A6.l3 rfl rfl) ?_))
 refine K5 (t:=24) rfl rfl rfl (fun q=>by have q1:=q;(try simp at q1);exact Dl ax (.c (BX rfl q) (.c (BX rfl q) .n)) (fun w hS=>HW _ _ _ _ (by first | assumption | omega) w ((Kn.Hv r0) w hS) ((Kn.Hv r1) w hS))) ?_
 refine Gt (BI rfl rfl (fun h=>h)) (Ga rfl (Gn (.t1 4) (Ac ?_)))
 refine AZ rfl (.tmp rfl .n) ?_
 intro w1 hS;refine⟨?_,hS.Al⟩;rfl
end Go.Proofs.YtoidpggbbfncpaaGreatDoor

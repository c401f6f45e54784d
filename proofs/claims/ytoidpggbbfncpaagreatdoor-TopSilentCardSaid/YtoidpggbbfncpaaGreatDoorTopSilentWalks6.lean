/- What the functions that the law TopSilent reaches compute: walks, part 6. No condition. -/
import Derived.Test.YtoidpggbbfncpaaGreatDoorCards
import Derived.Test.YtoidpggbbfncpaaGreatDoorTie
import Derived.Deep.DeepHandedRow
import Derived.Test.YtoidpggbbfncpaaGreatDoorRows
import Derived.Test.YtoidpggbbfncpaaGreatDoorTopSilentEc3
import Derived.Test.YtoidpggbbfncpaaGreatDoorTopSilentRa1
import Derived.Test.YtoidpggbbfncpaaGreatDoorTopSilentRb1
import Derived.Test.YtoidpggbbfncpaaGreatDoorTopSilentRc1
import Derived.Test.YtoidpggbbfncpaaGreatDoorTopSilentWalks
import Derived.Test.YtoidpggbbfncpaaGreatDoorTopSilentWalks2
import Derived.Test.YtoidpggbbfncpaaGreatDoorTopSilentWalks3
import Derived.Test.YtoidpggbbfncpaaGreatDoorTopSilentWalks4
import Derived.Test.YtoidpggbbfncpaaGreatDoorTopSilentWalks5
set_option linter.unusedSimpArgs false
set_option linter.unusedVariables false
set_option maxRecDepth 100000
set_option maxHeartbeats 1000000
namespace Go.Proofs.YtoidpggbbfncpaaGreatDoor
open Go Go.Ing Go.RowKit Go.ChangeShapes Go.WideShapes Go.ChangeAt
theorem OA {t0:Nat}(l:BK)(qs:List As)(w:World)(r0:Rd w l.queue t0 1 (qs.flatMap A9)):Ee Tryz.prog 45 #[.agg l.enc.toArray] w fun v w'=>v = .bool (Bj.Bk l qs)∧B9 w w':=by
 have hl:=r0.K5 DZ (by decide)
 refine Ao [] [] Tryz.func45 rfl rfl rfl (St.start w []) ?_
 refine Gs ?_
 refine B4 rfl rfl rfl (fun b1=>?_)
 refine Ga rfl (Gn (.t1 1) (CH (Gt (Aj IW rfl) (Gt (AG rfl CK .m0 BK.l0 rfl rfl) (Gt (BO rfl Tryz.underlying9 rfl) (Gt (Cn rfl rfl) (Gm rfl ?_)))))))
 refine Bf 10 rfl rfl (fun q=>Aj Ew rfl) (Bf 10 rfl rfl (fun q=>AG (cF rfl q) Ej .m0 BK.l3 rfl rfl) (Bf 10 rfl rfl (fun q=>Av rfl Tryz.underlying52 (cF rfl q)) (Bf 10 rfl rfl (fun q=>Cn (cF rfl q) rfl) ?_)))
 refine Gt (BU rfl rfl (fun h=>by rw [h];rfl)) ?_
 refine Gm rfl (Bf 16 rfl rfl (fun q=>Aj LL rfl) (Bf 16 rfl rfl (fun q=>AG (cF rfl q) DM .m0 BK.l1 rfl rfl) (Bf 16 rfl rfl (fun q=>AD (cF rfl q)) ?_)))
 refine C8 (t:=19) rfl rfl rfl (fun qc q=>Aj IW rfl) ?_
 refine C8 (t:=19) rfl rfl rfl (fun qc q=>AG (Bc rfl (by rw [qc,q];rfl)) CK .m0 BK.l0 rfl rfl) ?_
 refine C8 (t:=19) rfl rfl rfl (fun qc q=>BO rfl Tryz.underlying9 (Bc rfl (by rw [qc,q];rfl))) ?_
 refine C8 (t:=19) rfl rfl rfl (fun qc q=>Cn (Bc rfl (by rw [qc,q];rfl)) rfl) ?_
 refine Bf 16 rfl rfl (fun q=>BM (cF rfl q) rfl (fun h=>by rw [q,h];rfl)) ?_
 refine Gt (BU rfl rfl (fun h=>by rw [h];rfl)) ?_
 refine Gm rfl (Bf 26 rfl rfl (fun q=>Aj LO rfl) (Bf 26 rfl rfl (fun q=>AG (cF rfl q) DM .m0 BK.l2 rfl rfl) (Bf 26 rfl rfl (fun q=>AD (cF rfl q)) ?_)))
 refine C8 (t:=29) rfl rfl rfl (fun qc q=>Aj IW rfl) ?_
 refine C8 (t:=29) rfl rfl rfl (fun qc q=>AG (Bc rfl (by rw [qc,q];rfl)) CK .m0 BK.l0 rfl rfl) ?_
 refine C8 (t:=29) rfl rfl rfl (fun qc q=>Dp (Bc rfl (by rw [qc,q];rfl)) rfl) ?_
 refine C8 (t:=29) rfl rfl rfl (fun qc q=>AD (Bc rfl (by rw [qc,q];rfl))) ?_
 refine Ct (t:=33) rfl rfl rfl (fun qc q=>Aj LL rfl) ?_
 refine Ct (t:=33) rfl rfl rfl (fun qc q=>AG (Bc rfl (by rw [qc,q];rfl)) DM .m0 BK.l1 rfl rfl) ?_
 refine C8 (t:=29) rfl rfl rfl (fun qc q=>BU (Bc rfl (by rw [qc,q];rfl)) rfl (fun h=>by rw [qc,q,h];rfl)) ?_
 refine Bf 26 rfl rfl (fun q=>BM (cF rfl q) rfl (fun h=>by rw [q,h];rfl)) ?_
 refine Gt (BU rfl rfl (fun h=>by rw [h];rfl)) ?_
 refine Gn (.t2 1 38) ?_
 refine Gc (fun c1=>?_) (fun c1=>?_)
 ·
  refine Gs (Ga rfl (Gn (.t1 2) (Ae (AE ?_))))
  refine AZ rfl (.tmp rfl .n) ?_
  intro w1 hS;refine⟨congrArg Value.bool ?_,hS.Al⟩;rw [Bj.Bk,show Bj.JU l=true from c1];rfl
 have c1p:=kz c1
 have hq:(l.queue.len:Int)≤6:=by omega
 refine Aa ?_
 refine AB (.t1 1) ?_
 refine AA (Au (Au ?_))
 refine BN (N:=9) [0,1,3,0,8,24,63,127,0] mix (by kernel_rfl) rfl ?_
 refine Pf 0 rfl (Aj Ew rfl) (Pf 1 rfl (AG rfl Ej .m0 BK.l3 rfl rfl) (Pf 3 rfl (Aj IW rfl) (Pf 4 rfl (AG rfl CK .m0 BK.l0 rfl rfl) (Pf 8 rfl (AD rfl) ?_))))
 refine EV 2 5 rfl rfl (by kernel_rfl) ?_ ?_
 ·
  refine BB rfl WU (.c rfl .n) .n (B1 _ _ (by first | assumption | omega)) (fun w hS=>(Kn.HJ r0) w hS) (fun v1 B hv=>?_)
  obtain⟨y2,rfl,y3,rfl⟩:=hv
  refine BH rfl ⟨?_,?_⟩
  · exact(Po rfl (AD rfl) rfl rfl (Po rfl (AG rfl CK .m1 BK.l0 rfl rfl) rfl rfl (Po rfl (Aj IW rfl) rfl rfl (Pk (Pk Ac)))))
  refine Ab 5 rfl (by kernel_rfl) ?_
  refine F3 A9 DZ rfl Tryz.underlying52 Et Sk rfl (by decide) (by decide) rfl rfl (fun b2=>?_)
  refine BH rfl ⟨?_,?_⟩
  · exact(Po rfl (AD rfl) rfl rfl (Pk (Pk (Po rfl (AG rfl Ej .m2 BK.l3 rfl rfl) rfl rfl (Po rfl (Aj Ew rfl) rfl rfl Ac)))))
  refine Ab 6 rfl (by kernel_rfl) ?_
  refine Ce DZ rfl Tryz.underlying52 Et Sk rfl Xh (by decide) (by decide) rfl rfl (fun w hS=>Src.D9 Tryz.underlying52 ((Kn.own .m0) w hS)) (by(try dsimp only);omega) (fun _=>(.t .h)) (fun h5 h5l h5z=>?_)
  refine BH rfl ⟨?_,?_⟩
  · exact(Po rfl (AD rfl) rfl rfl (Pk (Pk (Pk (Pk Ac)))))
  refine Pf 7 rfl (Av rfl Tryz.underlying52 rfl) ?_
  refine Az (by kernel_rfl) ?_
  refine AB (.t3 45 46 47) ?_
  refine AA (Ak ?_)
  refine Bt (.t3 47 45 46) ?_
  refine Ch (fun(k:Int)=>0≤k∧k≤((qs ++ [l.now]).length:Int)∧Bj.Bk l qs=((qs ++ [l.now]).drop k.toNat).all Bj.GM) (fun(k:Int)=>(((qs ++ [l.now]).length:Int) - k).toNat) (fun(k:Int)=> [(47, .int .i64 k)]) (fun(k:Int)=> []) (0) ?_ rfl rfl (fun k hI1=>?_)
  · exact⟨by omega,by omega,by rw [Bj.Bk,show Bj.JU l=false from c1];rfl⟩
  obtain⟨hI11,hI12,hI13⟩:=hI1
  refine Gs (Gt (BC rfl rfl) (AT (AA (Au ?_))))
  refine Gc (fun c2=>?_) (fun c2=>?_)
  ·
   have c2p:=kz c2
   have hk:k < ((qs ++ [l.now]).length:Int):=by simp only [List.length_append,List.length_cons,List.length_nil] at *;omega
   have hk7:((qs ++ [l.now]).length:Int)≤7:=by simp only [List.length_append,List.length_cons,List.length_nil] at *;omega
   refine Aa ?_
   refine AB (.t3 45 46 47) ?_
   refine AA (Au (Ak (Gs ?_)))
   refine Gt (Bs Ir (by decide) (Kn.own .m1) rfl rfl (by omega) (by simp only [List.length_append,List.length_cons,List.length_nil] at *;omega)) ?_
   refine Gt (DO rfl CK (Kn.own .m1) (by omega)) ?_
   refine Ga rfl (Gn (.t4 4 45 46 47) (CH (Gm rfl (Gt (BO rfl Tryz.underlying9 rfl) (Gt (Cn rfl rfl) (Gn (.t5 4 45 46 47 53) ?_))))))
   refine Gc (fun c3=>?_) (fun c3=>?_)
   ·
    refine Gs (Ga rfl (Gn (.t1 2) (Ae (AE (AS (AE (AE ?_)))))))
    refine AS (AE ?_)
    refine AZ rfl (.tmp rfl .n) ?_
    intro w1 hS;refine⟨congrArg Value.bool ?_,hS.Al⟩;rw [hI13,Bj.FN (d:= []) hI11 hk,Bj.GM,c3];rfl
   have c3p:=kz c3
   refine Aa ?_
   refine AB (.t4 4 45 46 47) ?_
   refine AA (Gs (Gm rfl (Gt (BO rfl Tryz.underlying9 rfl) (Gm rfl (Gn (.t6 4 45 46 47 55 56) (Ak ?_))))))
   refine Bt (.t6 56 4 45 46 47 55) ?_
   refine Ch (fun(i:Int)=>0≤i∧i≤(((qs ++ [l.now]).getD k.toNat []).length:Int)∧Bj.GM ((qs ++ [l.now]).getD k.toNat [])=(((qs ++ [l.now]).getD k.toNat []).drop i.toNat).all Bj.F2) (fun(i:Int)=>((((qs ++ [l.now]).getD k.toNat []).length:Int) - i).toNat) (fun(i:Int)=> [(56, .int .i64 i)]) (fun(i:Int)=> []) (0) ?_ rfl rfl (fun i hI2=>?_)
   · exact⟨by omega,by omega,by rw [Bj.GM,c3];rfl⟩
   obtain⟨hI21,hI22,hI23⟩:=hI2
   refine Gs (Gt (BC rfl rfl) (AT (AA (Au ?_))))
   refine Gc (fun c4=>?_) (fun c4=>?_)
   ·
    have c4p:=kz c4
    refine Aa ?_
    refine AB (.t6 4 45 46 47 55 56) ?_
    refine AA (Au (Ak (Gs (Gm rfl (Ga rfl (Gn (.t7 4 5 45 46 47 55 56) (Gs ?_)))))))
    refine Gm rfl (Gm rfl ?_)
    refine Gt (Bp Tryz.underlying9 rfl rfl (by omega) (by omega)) ?_
    refine BE rfl bE (.c rfl .n) (fun w hS=>HB _ w) ?_
    refine Gt (BX rfl) (Gn (.t7 4 45 46 47 55 56 63) ?_)
    refine Gc (fun c5=>?_) (fun c5=>?_)
    ·
     have c5p:=kz c5
     refine Gs (Ga rfl (Gn (.t1 2) (Ae (AS (AE (AE (AS ?_)))))))
     refine AS (AE (AE (AS (AE ?_))))
     refine AZ rfl (.tmp rfl .n) ?_
     intro w1 hS;refine⟨congrArg Value.bool ?_,hS.Al⟩;rw [hI13,Bj.FN (d:= []) hI11 hk,hI23,Bj.FN (d:=0) hI21 (by omega),show Bj.F2 _=false from by simpa using c5];rfl
    have c5p:=kz c5
    refine Aa ?_
    refine AB (.t6 4 45 46 47 55 56) ?_
    refine AW (AA (AK ?_))
    refine Gt (Ay rfl rfl (IntWalk.i64_in _ (by omega))) ?_
    refine Gm rfl ?_
    refine AT (AB (.t6 4 45 46 47 55 56) ?_)
    refine B7 (i+1) ?_ ?_ (.t6 56 4 45 46 47 55) (.refl _)
    · exact⟨by omega,by omega,by rw [hI23,Bj.FN (d:=0) hI21 (by omega),show Bj.F2 _=true from by simpa using c5];rfl⟩
    · omega
   have c4p:=kz c4
   refine Bl (AY (AY (Am ?_)))
   refine AB (.t3 45 46 47) ?_
   refine AW (AA (AK ?_))
   refine Gt (Ay rfl rfl (IntWalk.i64_in _ (by omega))) ?_
   refine Gm rfl ?_
   refine AT (AB (.t3 45 46 47) ?_)
   refine B7 (k+1) ?_ ?_ (.t3 47 45 46) (.refl _)
   · exact⟨by omega,by omega,by rw [hI13,Bj.FN (d:= []) hI11 hk,hI23,show i.toNat=((qs ++ [l.now]).getD k.toNat []).length from by omega,List.drop_length];rfl⟩
   · omega
  have c2p:=kz c2
  have hk:¬ k < ((qs ++ [l.now]).length:Int):=by simp only [List.length_append,List.length_cons,List.length_nil] at *;omega
  refine Bl (AY (AY (Am ?_)))
  refine AB (.nil _) ?_
  refine AA (Gs (Ga rfl (AT (AA (Ae ?_)))))
  refine AZ rfl (.tmp rfl .n) ?_
  intro w1 hS;refine⟨congrArg Value.bool ?_,hS.Al⟩;rw [hI13,show k.toNat=(qs ++ [l.now]).length from by omega,List.drop_length];rfl
 ·
  refine F3 A9 DZ rfl Tryz.underlying52 Et Sk rfl (by decide) (by decide) rfl rfl (fun b3=>?_)
  refine BH rfl ⟨?_,?_⟩
  · exact(Po rfl (AD rfl) rfl rfl (Pk (Pk (Po rfl (AG rfl Ej .m1 BK.l3 rfl rfl) rfl rfl (Po rfl (Aj Ew rfl) rfl rfl Ac)))))
  refine Ab 2 rfl (by kernel_rfl) ?_
  refine BB rfl WU (.c rfl .n) .n (B1 _ _ (by first | assumption | omega)) (fun w hS=>(Kn.HJ r0) w hS) (fun v6 B hv=>?_)
  obtain⟨y7,rfl,y8,rfl⟩:=hv
  refine BH rfl ⟨?_,?_⟩
  · exact(Po rfl (AD rfl) rfl rfl (Po rfl (AG rfl CK .m2 BK.l0 rfl rfl) rfl rfl (Po rfl (Aj IW rfl) rfl rfl (Pk (Pk Ac)))))
  refine Ab 6 rfl (by kernel_rfl) ?_
  refine Ce DZ rfl Tryz.underlying52 Et Sk rfl Xh (by decide) (by decide) rfl rfl (fun w hS=>Src.D9 Tryz.underlying52 ((Kn.own .m1) w hS)) (by(try dsimp only);omega) (fun _=> .h) (fun h10 h10l h10z=>?_)
  refine BH rfl ⟨?_,?_⟩
  · exact(Po rfl (AD rfl) rfl rfl (Pk (Pk (Pk (Pk Ac)))))
  refine Pf 7 rfl (Av rfl Tryz.underlying52 rfl) ?_
  refine Az (by kernel_rfl) ?_
  refine AB (.t3 45 46 47) ?_
  refine AA (Ak ?_)
  refine Bt (.t3 47 45 46) ?_
  refine Ch (fun(k:Int)=>0≤k∧k≤((qs ++ [l.now]).length:Int)∧Bj.Bk l qs=((qs ++ [l.now]).drop k.toNat).all Bj.GM) (fun(k:Int)=>(((qs ++ [l.now]).length:Int) - k).toNat) (fun(k:Int)=> [(47, .int .i64 k)]) (fun(k:Int)=> []) (0) ?_ rfl rfl (fun k hI1=>?_)
  · exact⟨by omega,by omega,by rw [Bj.Bk,show Bj.JU l=false from c1];rfl⟩
  obtain⟨hI11,hI12,hI13⟩:=hI1
  refine Gs (Gt (BC rfl rfl) (AT (AA (Au ?_))))
  refine Gc (fun c6=>?_) (fun c6=>?_)
  ·
   have c6p:=kz c6
   have hk:k < ((qs ++ [l.now]).length:Int):=by simp only [List.length_append,List.length_cons,List.length_nil] at *;omega
   have hk7:((qs ++ [l.now]).length:Int)≤7:=by simp only [List.length_append,List.length_cons,List.length_nil] at *;omega
   refine Aa ?_
   refine AB (.t3 45 46 47) ?_
   refine AA (Au (Ak (Gs ?_)))
   refine Gt (Bs Ir (by decide) (Kn.own .m0) rfl rfl (by omega) (by simp only [List.length_append,List.length_cons,List.length_nil] at *;omega)) ?_
   refine Gt (DO rfl CK (Kn.own .m0) (by omega)) ?_
   refine Ga rfl (Gn (.t4 4 45 46 47) (CH (Gm rfl (Gt (BO rfl Tryz.underlying9 rfl) (Gt (Cn rfl rfl) (Gn (.t5 4 45 46 47 53) ?_))))))
   refine Gc (fun c7=>?_) (fun c7=>?_)
   ·
    refine Gs (Ga rfl (Gn (.t1 2) (Ae (AE (AS (AE (AE ?_)))))))
    refine AS (AE ?_)
    refine AZ rfl (.tmp rfl .n) ?_
    intro w1 hS;refine⟨congrArg Value.bool ?_,hS.Al⟩;rw [hI13,Bj.FN (d:= []) hI11 hk,Bj.GM,c7];rfl
   have c7p:=kz c7
   refine Aa ?_
   refine AB (.t4 4 45 46 47) ?_
   refine AA (Gs (Gm rfl (Gt (BO rfl Tryz.underlying9 rfl) (Gm rfl (Gn (.t6 4 45 46 47 55 56) (Ak ?_))))))
   refine Bt (.t6 56 4 45 46 47 55) ?_
   refine Ch (fun(i:Int)=>0≤i∧i≤(((qs ++ [l.now]).getD k.toNat []).length:Int)∧Bj.GM ((qs ++ [l.now]).getD k.toNat [])=(((qs ++ [l.now]).getD k.toNat []).drop i.toNat).all Bj.F2) (fun(i:Int)=>((((qs ++ [l.now]).getD k.toNat []).length:Int) - i).toNat) (fun(i:Int)=> [(56, .int .i64 i)]) (fun(i:Int)=> []) (0) ?_ rfl rfl (fun i hI2=>?_)
   · exact⟨by omega,by omega,by rw [Bj.GM,c7];rfl⟩
   obtain⟨hI21,hI22,hI23⟩:=hI2
   refine Gs (Gt (BC rfl rfl) (AT (AA (Au ?_))))
   refine Gc (fun c8=>?_) (fun c8=>?_)
   ·
    have c8p:=kz c8
    refine Aa ?_
    refine AB (.t6 4 45 46 47 55 56) ?_
    refine AA (Au (Ak (Gs (Gm rfl (Ga rfl (Gn (.t7 4 5 45 46 47 55 56) (Gs ?_)))))))
    refine Gm rfl (Gm rfl ?_)
    refine Gt (Bp Tryz.underlying9 rfl rfl (by omega) (by omega)) ?_
    refine BE rfl bE (.c rfl .n) (fun w hS=>HB _ w) ?_
    refine Gt (BX rfl) (Gn (.t7 4 45 46 47 55 56 63) ?_)
    refine Gc (fun c9=>?_) (fun c9=>?_)
    ·
     have c9p:=kz c9
     refine Gs (Ga rfl (Gn (.t1 2) (Ae (AS (AE (AE (AS ?_)))))))
     refine AS (AE (AE (AS (AE ?_))))
     refine AZ rfl (.tmp rfl .n) ?_
     intro w1 hS;refine⟨congrArg Value.bool ?_,hS.Al⟩;rw [hI13,Bj.FN (d:= []) hI11 hk,hI23,Bj.FN (d:=0) hI21 (by omega),show Bj.F2 _=false from by simpa using c9];rfl
    have c9p:=kz c9
    refine Aa ?_
    refine AB (.t6 4 45 46 47 55 56) ?_
    refine AW (AA (AK ?_))
    refine Gt (Ay rfl rfl (IntWalk.i64_in _ (by omega))) ?_
    refine Gm rfl ?_
    refine AT (AB (.t6 4 45 46 47 55 56) ?_)
    refine B7 (i+1) ?_ ?_ (.t6 56 4 45 46 47 55) (.refl _)
    · exact⟨by omega,by omega,by rw [hI23,Bj.FN (d:=0) hI21 (by omega),show Bj.F2 _=true from by simpa using c9];rfl⟩
    · omega
   have c8p:=kz c8
   refine Bl (AY (AY (Am ?_)))
   refine AB (.t3 45 46 47) ?_
   refine AW (AA (AK ?_))
   refine Gt (Ay rfl rfl (IntWalk.i64_in _ (by omega))) ?_
   refine Gm rfl ?_
   refine AT (AB (.t3 45 46 47) ?_)
   refine B7 (k+1) ?_ ?_ (.t3 47 45 46) (.refl _)
   · exact⟨by omega,by omega,by rw [hI13,Bj.FN (d:= []) hI11 hk,hI23,show i.toNat=((qs ++ [l.now]).getD k.toNat []).length from by omega,List.drop_length];rfl⟩
   · omega
  have c6p:=kz c6
  have hk:¬ k < ((qs ++ [l.now]).length:Int):=by simp only [List.length_append,List.length_cons,List.length_nil] at *;omega
  refine Bl (AY (AY (Am ?_)))
  refine AB (.nil _) ?_
  refine AA (Gs (Ga rfl (AT (AA (Ae ?_)))))
  refine AZ rfl (.tmp rfl .n) ?_
  intro w1 hS;refine⟨congrArg Value.bool ?_,hS.Al⟩;rw [hI13,show k.toNat=(qs ++ [l.now]).length from by omega,List.drop_length];rfl
theorem OO {t0:Nat}(l:BK)(qs:List As)(u:As)(hu:u.length≤9000000000000000000):Fx Tryz.prog 63 #[.agg l.enc.toArray,BW u] [] (fun w=>Rd w l.queue t0 1 (qs.flatMap A9)) (fun v B=>(Bj.Bk l qs=false∧v = .tuple #[.agg l.enc.toArray, .int .i64 0, .int .i64 2]∧B = [])∨(Bj.Bk l qs=true∧∃ h':Hd,v = .tuple #[.agg (BK.enc ⟨(Bj.feed (Bj.start l qs) u).now,(Bj.feed (Bj.start l qs) u).CL,(Bj.feed (Bj.start l qs) u).ret,h'⟩).toArray, .int .i64 (Bj.feed (Bj.start l qs) u).lost, .int .i64 0]∧h'.len=(Bj.feed (Bj.start l qs) u).queue.length∧B = [Af.own h' 9 1 ((Bj.feed (Bj.start l qs) u).queue.flatMap A9)])):=by
 intro w hS0 hH
 have r0:=hH
 have hl0:=r0.K5 DZ (by decide)
 refine Ao _ _ Tryz.func63 rfl rfl rfl (hS0) ?_
 refine Gs ?_
 refine B4 rfl rfl rfl (fun b1=>?_)
 refine A6 rfl ZX rfl (fun b2=>?_)
 refine Ga rfl (Ga rfl (Gn (.t3 1 2 4) (CH (Gt (AU rfl IH .m1 (AQ.id BK.fl.len BK.fl.one) rfl) ?_))))
 refine BE rfl eK (.c rfl .n) (fun w hS=>OA _ _ w ((Kn.HJ r0) w hS)) ?_
 refine Gt (BX rfl) (Gn (.t4 1 2 4 14) ?_)
 refine Gc (fun c1=>?_) (fun c1=>?_)
 ·
  refine Gs (Gt (AU rfl IH .m1 (AQ.id BK.fl.len BK.fl.one) rfl) ?_)
  refine AO (AJ (AQ.id BK.fl.len BK.fl.one) rfl rfl rfl Mf rfl .h) ?_
  refine Ga rfl (Ga rfl (Gn (.t3 4 5 6) (Ae (AE ?_))))
  refine AZ rfl (.cell rfl .m0 (.inl ⟨(by rw [BK.fl.len];exact IH),rfl⟩) (.tmp rfl (.tmp rfl .n))) ?_
  intro w1 hS
  have hS:=(hS.perm (Ax.perm .n)).A3
  exact⟨_, .inl ⟨by simpa using c1,rfl,rfl⟩,hS⟩
 have c1p:=kz c1
 have hgd:Bj.Bk l qs=true:=by simpa using c1
 have hh:=Bj.Wb hgd
 have hq6:qs.length≤17592186044416:=by omega
 refine Aa ?_
 refine AB (.t3 1 2 4) ?_
 refine AA (Gs (Gt (Aj Ew rfl) (Gt (AG rfl Ej .m1 BK.l3 rfl rfl) ?_)))
 refine BB rfl WU (.c rfl .n) .n (B1 _ _ (by first | assumption | omega)) (fun w hS=>(Kn.HJ r0) w hS) (fun v1 B hv=>?_)
 obtain⟨y2,rfl,y3,rfl⟩:=hv
 refine Gt (Aj Ew rfl) ?_
 refine AO (AJ BK.l3 rfl rfl rfl MY rfl (.t (.t .h))) ?_
 refine Gn (.t3 1 2 4) (Gs (Ga rfl (AT (AA (Gs (Gt (Aj IW rfl) (Gt (AG rfl CK .m2 BK.l0 rfl rfl) ?_)))))))
 refine PE rfl Tryz.underlying9 Tryz.underlying105 Tryz.underlying5 rfl (fun h5 h5l=>?_)
 refine Ga rfl (Gn (.t5 1 2 4 7 8) (CH (Gm rfl (Gt (BO rfl Tryz.underlying9 rfl) (Gm rfl (Gn (.t7 1 2 4 7 8 24 25) (Ak ?_)))))))
 refine Bt (.t7 7 8 25 1 2 4 24) ?_
 refine BZ (.t (.t (.t .h))) ?_
 refine BZ (.t (.t .h)) ?_
 refine BZ (.t (.t .h)) ?_
 refine Su (fun(k:Int) (now:As) (CL:Bool) (ret:Bool) (queue:List As) (lost:Int) (h:Hd) (g:Hd)=>Bj.I (Bj.start l qs) u k ⟨now,CL,ret,queue,lost⟩∧h.len=now.length∧g.len=queue.length) (fun(k:Int) (now:As) (CL:Bool) (ret:Bool) (queue:List As) (lost:Int) (h:Hd) (g:Hd)=>((u.length:Int) - k).toNat) (fun(k:Int) (now:As) (CL:Bool) (ret:Bool) (queue:List As) (lost:Int) (h:Hd) (g:Hd)=> [(7, .int .i64 lost),(8,h.val),(25, .int .i64 k)]) (fun(k:Int) (now:As) (CL:Bool) (ret:Bool) (queue:List As) (lost:Int) (h:Hd) (g:Hd)=> [Af.own h 5 1 (now.flatMap DV),Af.own g 9 1 (queue.flatMap A9),Af.box b1 75 (BK.enc ⟨l.now,CL,ret,g⟩)]) (0) (l.now) (l.CL) (l.ret) (qs) (0) (_) (_) ?_ rfl rfl (fun k now CL ret queue lost h g hI1=>?_)
 · exact⟨Bj.I.start hh.1 (show qs.length≤6 by omega) rfl,by assumption,by assumption⟩
 obtain⟨hI11,hl,hg⟩:=hI1;have hk0:=hI11.k0;have hk1:=hI11.k1;have hn:now.length≤60:=hI11.now;have hq:queue.length≤6:=hI11.queue;have hlo:0≤lost∧lost≤k:=hI11.lost
 refine Gs (Gt (BC rfl rfl) (AT (AA (Au ?_))))
 refine Gc (fun c2=>?_) (fun c2=>?_)
 ·
  have c2p:=kz c2
  refine Aa ?_
  refine AB (.t7 1 2 4 7 8 24 25) ?_
  refine AA (Au (Ak (Gs (Gm rfl (Ga rfl (Gn (.t8 1 2 4 7 8 9 24 25) (Gs ?_)))))))
  refine Gm rfl (Gm rfl ?_)
  refine Gt (Bp Tryz.underlying9 rfl rfl (by omega) (by omega)) ?_
  refine Ga rfl (Gn (.t8 1 2 4 7 8 10 24 25) (Gs (Gt (Aj LO rfl) (Gt (AG rfl DM .m2 BK.l2 rfl rfl) (Ga rfl (Gn (.t9 1 2 4 7 8 10 11 24 25) (Gs ?_)))))))
  refine Gt (Aj LO rfl) ?_
  refine AO (AJ BK.l2 rfl rfl rfl Ks rfl (.t (.t .h))) ?_
  refine Gn (.t9 1 2 4 7 8 10 11 24 25) (Ak (Gs (Gm rfl (Gm rfl (Bg 40 rfl rfl (fun q=>AD rfl) (Bg 40 rfl rfl (fun q=>Ai (Bc rfl q) rfl) (Bg 40 rfl rfl (fun q=>AD (Bc rfl q)) ?_)))))))
  refine Ct (t:=43) rfl rfl rfl (fun qc q=>AD rfl) ?_
  refine Ct (t:=43) rfl rfl rfl (fun qc q=>Ai (Bc rfl (by rw [qc,q];rfl)) rfl) ?_
  refine Bg 40 rfl rfl (fun q=>BU (Bc rfl q) rfl (fun h=>by rw [q,h];rfl)) ?_
  refine Gt (BM rfl rfl (fun h=>h)) (Ga rfl (Gn (.t9 1 2 4 7 8 10 24 25 38) ?_))
  refine Gc (fun c3=>?_) (fun c3=>?_)
  ·
   have c3p:=kz c3
   refine Aa ?_
   refine AB (.t7 1 2 4 7 8 24 25) ?_
   refine AW (AW (AA (AK ?_)))
   refine Gt (Ay rfl rfl (IntWalk.i64_in _ (by omega))) ?_
   refine Gm rfl ?_
   refine AT (AB (.t7 1 2 4 7 8 24 25) ?_)
   refine CX (k+1) _ _ _ _ _ _ _ ?_ ?_ (.t7 7 8 25 1 2 4 24) (.refl _)
   · exact⟨hI11.next (by omega) (by simp only [Bj.step,hl,c1,c2,c3,↓reduceIte,Bool.false_eq_true]),(by(try dsimp only at *)<;>(try simp only [List.length_append,List.length_take,List.length_cons,List.length_nil])<;>omega),(by(try dsimp only at *)<;>(try simp only [List.length_append,List.length_cons,List.length_nil])<;>omega)⟩
   · omega
  have c3p:=kz c3
  refine Gs (Gm rfl (Gt (Ai rfl rfl) (Gm rfl (Bf 51 rfl rfl (fun q=>AD rfl) (Bf 51 rfl rfl (fun q=>Ai (cF rfl q) rfl) ?_)))))
  refine Gt (BU rfl rfl (fun h=>by rw [h];rfl)) ?_
  refine Ga rfl (Gn (.t9 1 2 4 7 8 10 24 25 48) ?_)
  refine Gc (fun c4=>?_) (fun c4=>?_)
  ·
   have c4p:=kz c4
   refine CH (Gt (Aj Ew rfl) (Gt (AG rfl Ej .m2 BK.l3 rfl rfl) (Gt (Av rfl Tryz.underlying52 rfl) (Gt (BC rfl rfl) (Gn (.t9 1 2 4 7 8 10 24 25 58) ?_)))))
   refine Gc (fun c5=>?_) (fun c5=>?_)
   ·
    have c5p:=kz c5
    rw [hg] at c5
    refine AK (Gt (Aj Ew rfl) (Gt (AG rfl Ej .m2 BK.l3 rfl rfl) (Gm rfl (Gt (Kj Tryz.underlying105 Tryz.underlying9 Tryz.underlying5 rfl (Kn.own .m0)) ?_))))
    refine F3 A9 DZ rfl Tryz.underlying52 Et Sk rfl (by decide) (by decide) rfl rfl (fun b3=>?_)
    refine Ce DZ rfl Tryz.underlying52 Et Sk rfl Xh (by decide) (by decide) rfl rfl (fun w hS=>Src.D9 Tryz.underlying52 ((Kn.own .m0) w hS)) (by(try dsimp only);omega) (fun _=>(.t (.t .h))) (fun h6 h6l h6z=>?_)
    refine Gt (Aj Ew rfl) ?_
    refine AO (AJ BK.l3 rfl rfl rfl MY rfl (.t (.t (.t .h)))) ?_
    refine Gn (.t7 1 2 4 7 10 24 25) (AK (Gm rfl (Gt (Ai rfl rfl) (Ga rfl (Gt (Aj LL rfl) ?_)))))
    refine AO (AJ BK.l1 rfl rfl rfl Ks rfl (.t (.t (.t .h)))) ?_
    refine Gt (Aj LO rfl) ?_
    refine AO (AJ BK.l2 rfl rfl rfl Ks rfl (.t (.t (.t .h)))) ?_
    refine AT (AB (.t7 1 2 4 7 8 24 25) ?_)
    refine AW (AW (AA (AK ?_)))
    refine Gt (Ay rfl rfl (IntWalk.i64_in _ (by omega))) ?_
    refine Gm rfl ?_
    refine AT (AB (.t7 1 2 4 7 8 24 25) ?_)
    refine Ux DV 5 1 ?_
    refine Bx (.c .h (.c (.t (.t .h)) (.c (.t (.t .h)) (.c (.t (.t .h)) .n)))) ?_
    refine B3 ?_
    refine CX (k+1) _ _ _ _ _ _ _ ?_ ?_ (.t7 7 8 25 1 2 4 24) (.refl _)
    · exact⟨hI11.next (by omega) (by simp only [Bj.step,hl,c1,c2,c3,c4,c5,↓reduceIte,Bool.false_eq_true]),(by(try dsimp only at *)<;>(try simp only [List.length_append,List.length_take,List.length_cons,List.length_nil])<;>omega),(by(try dsimp only at *)<;>(try simp only [List.length_append,List.length_cons,List.length_nil])<;>omega)⟩
    · omega
   have c5p:=kz c5
   rw [hg] at c5
   refine AK (Gm rfl ?_)
   refine Gt (Ay rfl rfl (IntWalk.i64_in _ (by omega))) ?_
   refine Ga rfl (Gn (.t7 1 2 4 7 10 24 25) (AK (Gm rfl (Gt (Ai rfl rfl) (Ga rfl (Gt (Aj LL rfl) ?_))))))
   refine AO (AJ BK.l1 rfl rfl rfl Ks rfl (.t (.t .h))) ?_
   refine Gt (Aj LO rfl) ?_
   refine AO (AJ BK.l2 rfl rfl rfl Ks rfl (.t (.t .h))) ?_
   refine AT (AB (.t7 1 2 4 7 8 24 25) ?_)
   refine AW (AW (AA (AK ?_)))
   refine Gt (Ay rfl rfl (IntWalk.i64_in _ (by omega))) ?_
   refine Gm rfl ?_
   refine AT (AB (.t7 1 2 4 7 8 24 25) ?_)
   refine Ux DV 5 1 ?_
   refine Bx (.c .h (.c (.t .h) (.c (.t .h) (.c (.t .h) .n)))) ?_
   refine B3 ?_
   refine CX (k+1) _ _ _ _ _ _ _ ?_ ?_ (.t7 7 8 25 1 2 4 24) (.refl _)
   · exact⟨hI11.next (by omega) (by simp only [Bj.step,hl,c1,c2,c3,c4,c5,↓reduceIte,Bool.false_eq_true]),(by(try dsimp only at *)<;>(try simp only [List.length_append,List.length_take,List.length_cons,List.length_nil])<;>omega),(by(try dsimp only at *)<;>(try simp only [List.length_append,List.length_cons,List.length_nil])<;>omega)⟩
   · omega
  have c4p:=kz c4
  refine Gs (Gm rfl (Gt (Ai rfl rfl) (Gm rfl (Bf 75 rfl rfl (fun q=>AD rfl) (Bf 75 rfl rfl (fun q=>Ai (cF rfl q) rfl) ?_)))))
  refine Gt (BU rfl rfl (fun h=>by rw [h];rfl)) ?_
  refine Ga rfl (Gn (.t9 1 2 4 7 8 10 24 25 72) ?_)
  refine Gc (fun c6=>?_) (fun c6=>?_)
  ·
   have c6p:=kz c6
   refine Gs (Gm rfl (Gt (Av rfl Tryz.underlying105 rfl) (Gt (Cn rfl rfl) (Gn (.t8 1 2 4 7 8 24 25 81) ?_))))
   refine Gc (fun c7=>?_) (fun c7=>?_)
   ·
    have c7p:=kz c7
    rw [hl] at c7
    refine AK (Gm rfl (Gm rfl (Gt (Av rfl Tryz.underlying105 rfl) ?_)))
    refine Gt (Fi rfl rfl (IntWalk.i64_in _ (by omega))) ?_
    refine Kg Wv rfl Tryz.underlying105 Vw rfl rfl (by omega) (by omega) (fun _=> .h) ?_
    refine Ga rfl ?_
    refine AT (AB (.t7 1 2 4 7 8 24 25) ?_)
    refine AW (AW (AA (AK ?_)))
    refine Gt (Ay rfl rfl (IntWalk.i64_in _ (by omega))) ?_
    refine Gm rfl ?_
    refine AT (AB (.t7 1 2 4 7 8 24 25) ?_)
    refine CX (k+1) _ _ _ _ _ _ _ ?_ ?_ (.t7 7 8 25 1 2 4 24) (.refl _)
    · exact⟨hI11.next (by omega) (by simp only [Bj.step,hl,c1,c2,c3,c4,c6,c7,↓reduceIte,Bool.false_eq_true]),(by(try dsimp only at *)<;>(try simp only [List.length_append,List.length_take,List.length_cons,List.length_nil])<;>omega),(by(try dsimp only at *)<;>(try simp only [List.length_append,List.length_cons,List.length_nil])<;>omega)⟩
    · omega
   have c7p:=kz c7
   rw [hl] at c7
   refine Aa ?_
   refine AB (.t7 1 2 4 7 8 24 25) ?_
   refine AW (AW (AA (AK ?_)))
   refine Gt (Ay rfl rfl (IntWalk.i64_in _ (by omega))) ?_
   refine Gm rfl ?_
   refine AT (AB (.t7 1 2 4 7 8 24 25) ?_)
   refine CX (k+1) _ _ _ _ _ _ _ ?_ ?_ (.t7 7 8 25 1 2 4 24) (.refl _)
   · exact⟨hI11.next (by omega) (by simp only [Bj.step,hl,c1,c2,c3,c4,c6,c7,↓reduceIte,Bool.false_eq_true]),(by(try dsimp only at *)<;>(try simp only [List.length_append,List.length_take,List.length_cons,List.length_nil])<;>omega),(by(try dsimp only at *)<;>(try simp only [List.length_append,List.length_cons,List.length_nil])<;>omega)⟩
   · omega
  have c6p:=kz c6
  refine Gs (Gm rfl ?_)
  refine BE rfl bE (.c rfl .n) (fun w hS=>HB _ w) ?_
  refine Gt (BX rfl) (Ga rfl (Gn (.t9 1 2 4 7 8 10 24 25 87) ?_))
  refine Gc (fun c8=>?_) (fun c8=>?_)
  ·
   have c8p:=kz c8
   refine Aa ?_
   refine AB (.t7 1 2 4 7 8 24 25) ?_
   refine AW (AW (AA (AK ?_)))
   refine Gt (Ay rfl rfl (IntWalk.i64_in _ (by omega))) ?_
   refine Gm rfl ?_
   refine AT (AB (.t7 1 2 4 7 8 24 25) ?_)
   refine CX (k+1) _ _ _ _ _ _ _ ?_ ?_ (.t7 7 8 25 1 2 4 24) (.refl _)
   · exact⟨hI11.next (by omega) (by simp only [Bj.step,hl,c1,c2,c3,c4,c6,c8,↓reduceIte,Bool.false_eq_true]),(by(try dsimp only at *)<;>(try simp only [List.length_append,List.length_take,List.length_cons,List.length_nil])<;>omega),(by(try dsimp only at *)<;>(try simp only [List.length_append,List.length_cons,List.length_nil])<;>omega)⟩
   · omega
  have c8p:=kz c8
  refine Gs (Gm rfl (Gt (Av rfl Tryz.underlying105 rfl) (Gt (CO rfl rfl) (Ga rfl (Gn (.t9 1 2 4 7 8 10 24 25 91) ?_)))))
  refine Gc (fun c9=>?_) (fun c9=>?_)
  ·
   have c9p:=kz c9
   rw [hl] at c9
   refine AK (Gt (Aj LL rfl) ?_)
   refine AO (AJ BK.l1 rfl rfl rfl Ks rfl (.t (.t .h))) ?_
   refine AT (AB (.t7 1 2 4 7 8 24 25) ?_)
   refine AW (AW (AA (AK ?_)))
   refine Gt (Ay rfl rfl (IntWalk.i64_in _ (by omega))) ?_
   refine Gm rfl ?_
   refine AT (AB (.t7 1 2 4 7 8 24 25) ?_)
   refine CX (k+1) _ _ _ _ _ _ _ ?_ ?_ (.t7 7 8 25 1 2 4 24) (.refl _)
   · exact⟨hI11.next (by omega) (by simp only [Bj.step,hl,c1,c2,c3,c4,c6,c8,c9,↓reduceIte,Bool.false_eq_true]),(by(try dsimp only at *)<;>(try simp only [List.length_append,List.length_take,List.length_cons,List.length_nil])<;>omega),(by(try dsimp only at *)<;>(try simp only [List.length_append,List.length_cons,List.length_nil])<;>omega)⟩
   · omega
  have c9p:=kz c9
  rw [hl] at c9
  refine AK (Gm rfl (Gm rfl ?_))
  refine F3 DV Wv rfl Tryz.underlying105 Vw aN rfl (by decide) (by decide) rfl rfl (fun b4=>?_)
  refine Ce Wv rfl Tryz.underlying105 Vw aN rfl ek (by decide) (by decide) rfl rfl (fun w hS=>Src.D9 Tryz.underlying105 ((Kn.own .m0) w hS)) (by(try dsimp only);omega) (fun _=>(.t .h)) (fun h9 h9l h9z=>?_)
  refine Ga rfl ?_
  refine AT (AB (.t7 1 2 4 7 8 24 25) ?_)
  refine AW (AW (AA (AK ?_)))
  refine Gt (Ay rfl rfl (IntWalk.i64_in _ (by omega))) ?_
  refine Gm rfl ?_
  refine AT (AB (.t7 1 2 4 7 8 24 25) ?_)
  refine CX (k+1) _ _ _ _ _ _ _ ?_ ?_ (.t7 7 8 25 1 2 4 24) (.cons _ (.refl _))
  · exact⟨hI11.next (by omega) (by simp only [Bj.step,hl,c1,c2,c3,c4,c6,c8,c9,↓reduceIte,Bool.false_eq_true]),(by(try dsimp only at *)<;>(try simp only [List.length_append,List.length_take,List.length_cons,List.length_nil])<;>omega),(by(try dsimp only at *)<;>(try simp only [List.length_append,List.length_cons,List.length_nil])<;>omega)⟩
  · omega
 have c2p:=kz c2
 refine Bl (AY (AY (Am ?_)))
 refine AB (.t4 2 4 7 8) ?_
 refine AA (Gs (Gm rfl (Gt (Kj Tryz.underlying105 Tryz.underlying9 Tryz.underlying5 rfl (Kn.own .m0)) (Gt (Aj IW rfl) ?_))))
 refine AO (AJ BK.l0 rfl rfl rfl Et rfl (.t (.t .h))) ?_
 refine Gn (.t3 2 4 7) (Gs (Gt (AU rfl IH .m2 (AQ.id BK.fl.len BK.fl.one) rfl) (Gm rfl ?_)))
 refine AO (AJ (AQ.id BK.fl.len BK.fl.one) rfl rfl rfl Mf rfl (.t (.t (.t .h)))) ?_
 refine Ga rfl (Ga rfl (Gn (.t3 4 5 6) (Ae ?_)))
 refine AZ rfl (.cell rfl .m3 (.inl ⟨(by rw [BK.fl.len];exact IH),rfl⟩) (.tmp rfl (.tmp rfl .n))) ?_
 intro w1 hS
 have hS:=(hS.perm (Ax.perm (.c (.t .h) .n))).A3
 have e:=hI11.done (by omega)
 exact⟨_, .inr ⟨hgd,_,by rw [e];rfl,by rw [e];exact hg,by rw [e]⟩,hS⟩
theorem Na (p:Aw)(n:Int)(w:World):Ee Tryz.prog 66 #[.agg p.enc.toArray, .int .i64 n] w fun v w'=>v = .tuple #[.agg (Aw.enc ⟨p.wait,p.shown,p.Bq,p.ring.drop (max 0 (min n (p.ring.length:Int))).toNat,p.cut⟩).toArray,BW (p.ring.take (max 0 (min n (p.ring.length:Int))).toNat)]∧B9 w w':=by
 refine Ao [] [] Tryz.func66 rfl rfl rfl (St.start w []) ?_
 refine Gs ?_
 refine B4 rfl rfl rfl (fun b1=>?_)
 refine A6 rfl UL rfl (fun b2=>?_)
 refine Ga rfl (Gn (.t3 1 2 4) (Gs (Gm rfl (Gt (Aj Ih rfl) (Gt (AG rfl CK .m1 Aw.l3 rfl rfl) (Gt (BO rfl Tryz.underlying9 rfl) (Gt (Ki rfl rfl) ?_)))))))
 refine Gt (Kh rfl rfl) (Ga rfl (Gn (.t3 1 2 4) (Gs (Gt (Aj Ih rfl) (Gt (AG rfl CK .m1 Aw.l3 rfl rfl) (Gm rfl ?_))))))
 refine Gt (I7 Tryz.underlying9 rfl rfl (by omega) (by omega)) ?_
 refine Ga rfl (Gn (.t4 1 2 4 6) (Gs (Gt (Aj Ih rfl) (Gt (AG rfl CK .m1 Aw.l3 rfl rfl) (Gm rfl ?_)))))
 refine Gt (Gy Tryz.underlying9 rfl rfl (by omega) (by omega)) ?_
 refine Gt (Aj Ih rfl) ?_
 refine AO (AJ Aw.l3 rfl rfl rfl Et rfl (.t .h)) ?_
 refine Gn (.t3 2 4 6) (Gs (Gt (AU rfl Cv .m1 (AQ.id Aw.fl.len Aw.fl.one) rfl) (Gm rfl ?_)))
 refine AO (AJ (AQ.id Aw.fl.len Aw.fl.one) rfl rfl rfl Fb rfl .h) ?_
 refine Ga rfl (Gn (.t2 4 5) (Ae ?_))
 refine AZ rfl (.cell rfl .m0 (.inl ⟨(by rw [Aw.fl.len];exact Cv),rfl⟩) (.tmp rfl .n)) ?_
 intro w1 hS;refine⟨?_,hS.Al⟩;rfl
theorem CN (b:Nat)(V:AL)(ls:Vector BI 4)(ev:List Ing.Event)(a:BF)(hL:AH.Live (A4 V ls ev))(hu:a.bytes.length≤140737488351232):Fx Tryz.prog 38 #[.pointer (some ⟨b,0,none⟩), .agg a.enc.toArray] [Af.box b 101 (AL.enc V),Af.D0 (CJ 9 (AL.Ar V) ls),Af.own (AL.last V) 56 16 ((ev).flatMap Ing.Event.enc)] (fun w=>(GV 2 GO w∧2 ∉ Cp [Af.box b 101 (AL.enc V),Af.D0 (CJ 9 (AL.Ar V) ls),Af.own (AL.last V) 56 16 ((ev).flatMap Ing.Event.enc)])∧(GV 0 AI.DT w∧0 ∉ Cp [Af.box b 101 (AL.enc V),Af.D0 (CJ 9 (AL.Ar V) ls),Af.own (AL.last V) 56 16 ((ev).flatMap Ing.Event.enc)])∧(HI 7 w∧7 ∉ Cp [Af.box b 101 (AL.enc V),Af.D0 (CJ 9 (AL.Ar V) ls),Af.own (AL.last V) 56 16 ((ev).flatMap Ing.Event.enc)])∧(HI 8 w∧8 ∉ Cp [Af.box b 101 (AL.enc V),Af.D0 (CJ 9 (AL.Ar V) ls),Af.own (AL.last V) 56 16 ((ev).flatMap Ing.Event.enc)])) (fun v B=>∃ V' ls' ev',v = .agg (BG.enc (AH.act (A4 V ls ev) a).2).toArray∧A4 V' ls' ev'=(AH.act (A4 V ls ev) a).1∧B = [Af.box b 101 (AL.enc V'),Af.D0 (CJ 9 (AL.Ar V') ls'),Af.own (AL.last V') 56 16 ((ev').flatMap Ing.Event.enc)]):=by
 intro w hS0 hH
 obtain⟨⟨gl0,gm0⟩,⟨gl1,gm1⟩,⟨gl2,gm2⟩,⟨gl3,gm3⟩⟩:=hH
 obtain⟨n,m,hF⟩:=hL.fits
 have hc:0≤V.CT:=hL.CT
 refine Ao _ _ Tryz.func38 rfl rfl rfl (hS0) ?_
 refine Gs ?_
 refine B4 rfl rfl rfl (fun b1=>?_)
 refine A6 rfl FK rfl (fun b2=>?_)
 refine Gn (.t3 0 3 4) (Au (Ak (Gs (Gm rfl (Gt (Es Tryz.underlying37 rfl) (Ga rfl (Gn (.t4 0 3 4 11) ?_)))))))
 refine EK rfl rfl ?_
 refine Gs (Gm rfl (Gt (Ba rfl) (Gt (Aj Qs rfl) (Gt (AG rfl A5 .m2 AL.l2 rfl rfl) (Gt (CO rfl rfl) (Ga rfl (Gn (.t4 0 3 4 15) ?_)))))))
 refine Gc (fun c1=>?_) (fun c1=>?_)
 ·
  refine Gs (Gt (BL NY FK rfl (.cons BG.l0 rfl rfl rfl .nil)) ?_)
  refine AO (AJ (AQ.id BG.fl.len BG.fl.one) rfl rfl rfl ET rfl .h) ?_
  refine Gn (.t1 4) (Ae (AS (AE ?_)))
  refine AZ rfl (.cell rfl .m0 (.inl ⟨(by rw [BG.fl.len];exact IQ),rfl⟩) .n) ?_
  intro w1 hS
  have hS:=(hS.perm (Ax.perm (.c (.t (.t .h)) (.c (.t (.t .h)) (.c (.t (.t .h)) .n))))).A3
  have hq:(AH.act (A4 V ls ev) a)=((A4 V ls ev),⟨4,[]⟩):=BJ c1
  refine⟨_,⟨V,ls,ev,?gv1,?ga1,rfl⟩,hS⟩
  case gv1=>rw [hq];rfl
  case ga1=>rw [hq]
 have c1p:=kz c1
 refine Aa ?_
 refine AB (.t3 0 3 4) ?_
 refine AW (AA (Gs (Gm rfl (Gt (Ba rfl) (Gt (Aj Qs rfl) (Gt (AG rfl A5 .m2 AL.l2 rfl rfl) ?_))))))
 refine Gt (Ay rfl rfl (IntWalk.i64_in _ (by first | omega | exact hi.1 | exact hi.2 | exact hs.1 | exact hs.2))) ?_
 refine Gt (Ba rfl) (Gt (Aj Qs rfl) ?_)
 refine AO (AJ AL.l2 rfl rfl rfl DJ rfl (.t (.t .h))) ?_
 refine Gn (.t3 0 3 4) (Gs (Gm rfl (Gt (Ba rfl) (Gt (Aj Q4 rfl) ?_))))
 refine AO (AJ (Y:=⟨none,0,0⟩) AL.l3 rfl rfl rfl SE rfl (.t (.t .h))) ?_
 refine Gn (.t3 0 3 4) (Au (Au ?_))
 refine FE Ing.Event.enc 56 16 ?_
 refine EL (.c (.t (.t (.t .h))) (.c (.t (.t (.t .h))) (.c .h .n))) ?_
 refine AK (Gm rfl (AT (AA (Ak ?_))))
 refine Bt (.t4 32 0 3 4) ?_
 refine BZ (.t (.t .h)) ?_
 refine BZ (.t (.t .h)) ?_
 refine BZ (.t (.t .h)) ?_
 refine JA (fun(i:Int) (V1:AL) (ls1:Vector BI 4) (ev1:List Ing.Event)=>0≤i∧i≤4∧(A4 V1 ls1 ev1)=AH.Ei ({ (A4 V ls ev) with CT:=((A4 V ls ev)).CT+1,last:= [] }:AH) i.toNat) (fun(i:Int) (V1:AL) (ls1:Vector BI 4) (ev1:List Ing.Event)=>(4 - i).toNat) (fun(i:Int) (V1:AL) (ls1:Vector BI 4) (ev1:List Ing.Event)=> [(32, .int .i64 i)]) (fun(i:Int) (V1:AL) (ls1:Vector BI 4) (ev1:List Ing.Event)=> [Af.box b 101 (AL.enc V1),Af.D0 (CJ 9 (AL.Ar V1) ls1),Af.own (AL.last V1) 56 16 (ev1.flatMap Ing.Event.enc)]) (0) (_) (ls) ([]) ?_ rfl rfl (fun i V1 ls1 ev1 hI1=>?_)
 · exact⟨by omega,by omega,rfl⟩
 obtain⟨hI11,hI12,hI13⟩:=hI1
 refine Gs (Gt (BC rfl rfl) (AT (AA (Au ?_))))
 refine Gc (fun c2=>?_) (fun c2=>?_)
 ·
  have c2p:=kz c2
  have hi:0≤i∧i < 4:=⟨by omega,by omega⟩
  refine Aa ?_
  refine AB (.t4 0 3 4 32) ?_
  refine AA (Au (Ak (Gs (Gm rfl (Ga rfl (Gn (.t5 0 3 4 5 32) ?_))))))
  refine FJ (k:=i) hi.1 hi.2 (fun sv sl hsv hlv hln=>?_)
  refine AK (Gm rfl (Gm rfl (Gt (Ba rfl) (Gt (Aj F4 rfl) ?_))))
  refine Gt (AV Oi rfl rfl (by first | omega | exact hi.1 | exact hi.2 | exact hs.1 | exact hs.2) (by first | omega | exact hi.1 | exact hi.2 | exact hs.1 | exact hs.2)) ?_
  refine Gt (Aj RK rfl) ?_
  refine AO (AJ (Y:=⟨none,0,0⟩) ((AQ.A8 V1 hi.1 hi.2).comp A2.l5) rfl rfl rfl MY rfl (.t (.t (.t .h)))) ?_
  refine AT (AB (.t4 0 3 4 32) ?_)
  refine AW (AA ?_)
  refine FE A9 9 1 ?_
  refine EL (.c (.t .h) (.c (.t .h) (.c .h (.c (.t .h) (.c (.t .h) .n))))) ?_
  refine HP hi.1 hi.2 (by rfl) (by rfl) (by rfl) ?_
  refine AK ?_
  refine Gt (Ay rfl rfl (IntWalk.i64_in _ (by first | omega | exact hi.1 | exact hi.2 | exact hs.1 | exact hs.2))) ?_
  refine Gm rfl ?_
  refine AT (AB (.t4 0 3 4 32) ?_)
  refine Bx (.c .h (.c .h (.c (.t .h) (.c (.t .h) (.c (.t .h) (.c (.t .h) .n)))))) ?_
  refine B3 ?_
  refine DE (i+1) _ _ _ ?_ ?_ (.t4 32 0 3 4) (.refl _)
  · exact⟨by omega,by omega,(Er hi.1 hi.2 hsv hlv (f:=fun x=>{ x with told:= [] }) rfl).trans (by rw [hI13];exact(AH.RN hI11).symm)⟩
  · omega
 have c2p:=kz c2
 obtain rfl:i=4:=by omega
 have hX:(A4 V1 ls1 ev1)=(AH.begun (A4 V ls ev)):=hI13
 have hF0:AH.Fit (A4 V1 ls1 ev1) 0 0:=by rw [hX];exact hF.begun
 refine Bl (AY (AY (Am ?_)))
 refine AB (.t3 0 3 4) ?_
 refine AA (CH (Gt (Aj LV rfl) (Gt (AG rfl A5 .m4 BF.l0 rfl rfl) (Gt (Ai rfl rfl) (Gn (.t4 0 3 4 44) ?_)))))
 refine Gc (fun c3=>?_) (fun c3=>?_)
 ·
  have c3p:=kz c3
  refine Gs (Gm rfl (Gt (Aj Xp rfl) (Gt (AG rfl A5 .m4 BF.l2 rfl rfl) ?_)))
  refine BB rfl eJ (.c rfl (.c rfl .n)) (.c .h (.c .h (.c .h .n))) (Pq _ V1 ls1 ev1 a.n 0 0 hF0 (by omega) (by omega)) (fun w hS=>⟨gl0.pull gm0 hS (.c .h (.c .h (.c .h .n))),gl1.pull gm1 hS (.c .h (.c .h (.c .h .n))),gl2.pull gm2 hS (.c .h (.c .h (.c .h .n))),gl3.pull gm3 hS (.c .h (.c .h (.c .h .n)))⟩) (fun v2 B hv=>?_)
  obtain⟨y3,y4,y5,rfl,y6,rfl⟩:=hv
  refine Gn (.t1 4) (Gs (Gt (BL NY FK rfl .nil) ?_))
  refine AO (AJ (AQ.id BG.fl.len BG.fl.one) rfl rfl rfl ET rfl (.t (.t (.t .h)))) ?_
  refine Gn (.t1 4) (Ae (AE ?_))
  refine AZ rfl (.cell rfl .m3 (.inl ⟨(by rw [BG.fl.len];exact IQ),rfl⟩) .n) ?_
  intro w1 hS
  have hS:=(hS.perm (Ax.perm (.c .h (.c .h (.c .h .n))))).A3
  have hq0:AH.DQ (A4 V1 ls1 ev1) a=_:=(BJ c3)
  have hq:(AH.act (A4 V ls ev) a)=_:=(AH.F5 c1 a).trans ((congrArg (fun X=>AH.DQ X a) hX.symm).trans hq0)
  refine⟨_,⟨y3,y4,y5,?gv2,?ga2,rfl⟩,hS⟩
  case gv2=>rw [hq];rfl
  case ga2=>rw [hq];dsimp only;exact y6
 have c3p:=kz c3
 refine Aa ?_
 refine AB (.t3 0 3 4) ?_
 refine AA (CH (Gt (Aj LV rfl) (Gt (AG rfl A5 .m4 BF.l0 rfl rfl) (Gt (BC rfl rfl) (Gm rfl (Bf 53 rfl rfl (fun q=>Aj LV rfl) (Bf 53 rfl rfl (fun q=>AG (cF rfl q) A5 .m4 BF.l0 rfl rfl) ?_)))))))
 refine Bf 53 rfl rfl (fun q=>Cn (cF rfl q) rfl) ?_
 refine Gt (BU rfl rfl (fun h=>by rw [h];rfl)) ?_
 refine Gn (.t4 0 3 4 57) ?_
 refine Gc (fun c4=>?_) (fun c4=>?_)
 ·
  refine Gs (Gt (BL NY FK rfl (.cons BG.l0 rfl rfl rfl .nil)) ?_)
  refine AO (AJ (AQ.id BG.fl.len BG.fl.one) rfl rfl rfl ET rfl (.t (.t (.t .h)))) ?_
  refine Gn (.t1 4) (Ae (AE ?_))
  refine AZ rfl (.cell rfl .m3 (.inl ⟨(by rw [BG.fl.len];exact IQ),rfl⟩) .n) ?_
  intro w1 hS
  have hS:=(hS.perm (Ax.perm (.c .h (.c .h (.c .h .n))))).A3
  have hq0:AH.DQ (A4 V1 ls1 ev1) a=_:=((AX c3).trans (BJ c4))
  have hq:(AH.act (A4 V ls ev) a)=_:=(AH.F5 c1 a).trans ((congrArg (fun X=>AH.DQ X a) hX.symm).trans hq0)
  refine⟨_,⟨V1,ls1,ev1,?gv3,?ga3,rfl⟩,hS⟩
  case gv3=>rw [hq];rfl
  case ga3=>rw [hq]
 have c4p:=kz c4
 refine Aa ?_
 refine AB (.t3 0 3 4) ?_
 refine AA (CH (Gt (Aj N0 rfl) (Gt (AG rfl A5 .m4 BF.l1 rfl rfl) (Gt (BC rfl rfl) (Gm rfl (Bf 62 rfl rfl (fun q=>Aj N0 rfl) (Bf 62 rfl rfl (fun q=>AG (cF rfl q) A5 .m4 BF.l1 rfl rfl) ?_)))))))
 refine Bf 62 rfl rfl (fun q=>CO (cF rfl q) rfl) ?_
 refine Gt (BU rfl rfl (fun h=>by rw [h];rfl)) ?_
 refine Gn (.t4 0 3 4 66) ?_
 refine Gc (fun c5=>?_) (fun c5=>?_)
 ·
  refine Gs (Gt (BL NY FK rfl (.cons BG.l0 rfl rfl rfl .nil)) ?_)
  refine AO (AJ (AQ.id BG.fl.len BG.fl.one) rfl rfl rfl ET rfl (.t (.t (.t .h)))) ?_
  refine Gn (.t1 4) (Ae (AE ?_))
  refine AZ rfl (.cell rfl .m3 (.inl ⟨(by rw [BG.fl.len];exact IQ),rfl⟩) .n) ?_
  intro w1 hS
  have hS:=(hS.perm (Ax.perm (.c .h (.c .h (.c .h .n))))).A3
  have hq0:AH.DQ (A4 V1 ls1 ev1) a=_:=((AX c3).trans ((AX c4).trans (BJ c5)))
  have hq:(AH.act (A4 V ls ev) a)=_:=(AH.F5 c1 a).trans ((congrArg (fun X=>AH.DQ X a) hX.symm).trans hq0)
  refine⟨_,⟨V1,ls1,ev1,?gv4,?ga4,rfl⟩,hS⟩
  case gv4=>rw [hq];rfl
  case ga4=>rw [hq]
 have c5p:=kz c5
 have hs:0≤a.A8∧a.A8 < 4:=⟨by omega,by omega⟩
 refine Aa ?_
 refine AB (.t3 0 3 4) ?_
 refine AA (Au ?_)
 refine BN (N:=7) [0,0,2,1,9,31,63] mix (by kernel_rfl) rfl ?_
 refine Pf 0 rfl (AD rfl) (Pf 1 rfl (Aj N0 rfl) (Pf 2 rfl (AG rfl A5 .m4 BF.l1 rfl rfl) (Pf 3 rfl (Ba rfl) (Pf 4 rfl (Aj F4 rfl) ?_))))
 refine Pf 5 rfl (AV Oi rfl rfl (by first | omega | exact hi.1 | exact hi.2 | exact hs.1 | exact hs.2) (by first | omega | exact hi.1 | exact hi.2 | exact hs.1 | exact hs.2)) ?_
 refine Pf 6 rfl (A1 rfl) ?_
 refine Az (by kernel_rfl) ?_
 refine AB (.t4 0 3 4 6) ?_
 refine AA (Au (Au ?_))
 refine BN (N:=9) [0,1,3,7,15,0,32,96,255] mix (by kernel_rfl) rfl ?_
 refine Pf 0 rfl (AD rfl) (Pf 1 rfl (Ba rfl) (Pf 2 rfl (Aj JV rfl) ?_))
 refine Pf 3 rfl (AG rfl A5 .m0 ((AL.l1.comp (AQ.ar (n:=4) A2.fl (by first | omega | exact hi | exact hs))).comp A2.l0) rfl rfl) ?_
 refine Pf 4 rfl (Ai rfl rfl) (Pf 5 rfl (Aj LV rfl) (Pf 6 rfl (AG rfl A5 .m4 BF.l0 rfl rfl) (Pf 7 rfl (Ai rfl rfl) (Pf 8 rfl (J7 Tryz.underlying4 rfl rfl) ?_))))
 refine Az (by kernel_rfl) ?_
 refine AB (.t5 0 3 4 6 82) ?_
 refine AA ?_
 refine Gc (fun c6=>?_) (fun c6=>?_)
 ·
  refine Gs (Gt (BL NY FK rfl (.cons BG.l0 rfl rfl rfl .nil)) ?_)
  refine AO (AJ (AQ.id BG.fl.len BG.fl.one) rfl rfl rfl ET rfl (.t (.t (.t .h)))) ?_
  refine Gn (.t1 4) (Ae (AE ?_))
  refine AZ rfl (.cell rfl .m3 (.inl ⟨(by rw [BG.fl.len];exact IQ),rfl⟩) .n) ?_
  intro w1 hS
  have hS:=(hS.perm (Ax.perm (.c .h (.c .h (.c .h .n))))).A3
  have hq0:AH.DQ (A4 V1 ls1 ev1) a=_:=((AX c3).trans ((AX c4).trans ((AX c5).trans (BJ (show(decide ((AH.at_ (A4 V1 ls1 ev1) a.A8).state=0) != decide (a.kind=1))=true by rw [G0 V1 ls1 ev1 hs.1 hs.2];exact c6)))))
  have hq:(AH.act (A4 V ls ev) a)=_:=(AH.F5 c1 a).trans ((congrArg (fun X=>AH.DQ X a) hX.symm).trans hq0)
  refine⟨_,⟨V1,ls1,ev1,?gv5,?ga5,rfl⟩,hS⟩
  case gv5=>rw [hq];rfl
  case ga5=>rw [hq]
 have c6p:=kz c6
 refine Aa ?_
 refine AB (.t4 0 3 4 6) ?_
 refine AA (CH (Gt (Aj LV rfl) (Gt (AG rfl A5 .m4 BF.l0 rfl rfl) (Gn (.t5 0 3 4 6 85) (Ak (Gs (Gt (Ai rfl rfl) ?_)))))))
 refine Ga rfl (Gn (.t6 0 3 4 6 85 86) ?_)
 refine Gc (fun c7=>?_) (fun c7=>?_)
 ·
  have c7p:=kz c7
  refine AK (Gm rfl (Gm rfl ?_))
  refine BB rfl fF (.c rfl (.c rfl .n)) (.c .h (.c .h (.c .h .n))) (RX _ V1 ls1 ev1 a.A8 0 0 hs hF0 (by omega) (by omega)) (fun w hS=>⟨gl0.pull gm0 hS (.c .h (.c .h (.c .h .n))),gl1.pull gm1 hS (.c .h (.c .h (.c .h .n))),gl2.pull gm2 hS (.c .h (.c .h (.c .h .n))),gl3.pull gm3 hS (.c .h (.c .h (.c .h .n)))⟩) (fun v7 B hv=>?_)
  obtain⟨y8,y9,y10,rfl,y11,rfl⟩:=hv
  refine AT (AB (.t1 4) ?_)
  refine AW (AA (Gs (Gt (BL NY FK rfl .nil) ?_)))
  refine AO (AJ (AQ.id BG.fl.len BG.fl.one) rfl rfl rfl ET rfl (.t (.t (.t .h)))) ?_
  refine Gn (.t1 4) (Ae ?_)
  refine AZ rfl (.cell rfl .m3 (.inl ⟨(by rw [BG.fl.len];exact IQ),rfl⟩) .n) ?_
  intro w1 hS
  have hS:=(hS.perm (Ax.perm (.c .h (.c .h (.c .h .n))))).A3
  have hq0:AH.DQ (A4 V1 ls1 ev1) a=_:=((AX c3).trans ((AX c4).trans ((AX c5).trans ((AX (show(decide ((AH.at_ (A4 V1 ls1 ev1) a.A8).state=0) != decide (a.kind=1))=false by rw [G0 V1 ls1 ev1 hs.1 hs.2];exact c6)).trans (BJ c7)))))
  have hq:(AH.act (A4 V ls ev) a)=_:=(AH.F5 c1 a).trans ((congrArg (fun X=>AH.DQ X a) hX.symm).trans hq0)
  refine⟨_,⟨y8,y9,y10,?gv6,?ga6,rfl⟩,hS⟩
  case gv6=>rw [hq];rfl
  case ga6=>rw [hq];dsimp only;exact y11
 have c7p:=kz c7
 refine Gs (Gt (Ai rfl rfl) (Ga rfl (Gn (.t6 0 3 4 6 85 91) ?_)))
 refine Gc (fun c8=>?_) (fun c8=>?_)
 ·
  have c8p:=kz c8
  refine Gs (Ga rfl (Ga rfl (Gn (.t4 0 3 4 6) (Au ?_))))
  refine FJ (k:=a.A8) hs.1 hs.2 (fun sv sl hsv hlv hln=>?_)
  refine BN (N:=18) [0,0,2,6,14,0,32,126,254,510,510,510,510,1023,9215,25599,59391,126975] mix (by kernel_rfl) rfl ?_
  refine Pf 0 rfl (AD rfl) (Pf 1 rfl (AD rfl) (Pf 2 rfl (Ba rfl) (Pf 3 rfl (Aj Lc rfl) (Pf 4 rfl (AU rfl EC .m3 ((AQ.A8 V1 hs.1 hs.2).comp A2.l2) rfl) (Pf 5 rfl (Aj Tp rfl) (Pf 6 rfl (AG rfl CK .m7 BF.l3 rfl rfl) ?_))))))
  refine Bh 7 rfl rfl (by kernel_rfl) (Lv (K3 (EB ei (.c rfl (.c rfl .n)) (fun w hS=>Mw _ _ (by omega) w)))) ?_
  refine Pf 8 rfl (AD rfl) (Pf 9 rfl (AM rfl rfl) (Pf 10 rfl (AM rfl rfl) (Pf 11 rfl (AM rfl rfl) (Pf 12 rfl (AM rfl rfl) (Pf 13 rfl (Ba rfl) (Pf 14 rfl (Aj Lc rfl) ?_))))))
  refine Ab 15 rfl (by kernel_rfl) ?_
  refine AO (AJ ((AQ.A8 V1 hs.1 hs.2).comp A2.l2) rfl rfl rfl Kt rfl (.t (.t (.t .h)))) ?_
  refine A7 rfl ⟨?_,?_⟩
  · exact(Pk (Pk (Po rfl (AM rfl rfl) rfl rfl (Po rfl (AM rfl rfl) rfl rfl (Po rfl (AM rfl rfl) rfl rfl (Pk (Pk (Pk (Pk (Pk (Pk (Pk (Pk (Pk (Pk Ac)))))))))))))))
  refine Pf 16 rfl (A1 rfl) (Pf 17 rfl (A1 rfl) ?_)
  refine Az (by kernel_rfl) ?_
  refine AB (.t5 0 4 6 7 8) ?_
  refine AA (Gs (Gm rfl (Gm rfl (Gt (Ba rfl) (Gt (Aj Dt rfl) (Gt (AU rfl Cv .m3 ((AQ.A8 V1 hs.1 hs.2).comp A2.l4) rfl) (Gm rfl ?_)))))))
  refine BE rfl W5 (.c rfl (.c rfl .n)) (fun w hS=>EW _ _ (by have h:=AR.Vq sv.C0 a.bytes;omega) w) ?_
  refine Gm rfl (Gt (AM rfl rfl) (Gt (AM rfl rfl) (Gt (Ba rfl) (Gt (Aj Dt rfl) ?_))))
  refine AO (AJ ((AQ.A8 V1 hs.1 hs.2).comp A2.l4) rfl rfl rfl Fb rfl (.t (.t (.t .h)))) ?_
  refine Gn (.t4 0 4 6 7) (Gs (Ga rfl (Gn (.t4 0 4 6 7) (CH (Gm rfl (Gm rfl (Gt (Ba rfl) ?_)))))))
  refine Gt (Aj LF rfl) (Gt (AU rfl IH .m3 ((AQ.A8 V1 hs.1 hs.2).comp A2.l3) rfl) (Gm rfl ?_))
  refine BB rfl eS (.c rfl (.c rfl .n)) .n (OO _ _ _ (by have h:=Wo sv.C0 a.bytes;omega)) (fun w hS=>(Kn.own .m0) w hS) (fun v12 B hv=>?_)
  rcases hv with ⟨y13,rfl,rfl⟩ | ⟨y14,y15,rfl,y16,rfl⟩
  ·
   refine Gm rfl (Gt (AM rfl rfl) (Gt (AM rfl rfl) (Gt (AM rfl rfl) (Gt (Ba rfl) (Gt (Aj LF rfl) ?_)))))
   refine AO (AJ ((AQ.A8 V1 hs.1 hs.2).comp A2.l3) rfl rfl rfl Mf rfl (.t (.t (.t .h)))) ?_
   refine Ga rfl (Gn (.t4 0 4 6 9) (Au ?_))
   refine EL (.c .h (.c .h (.c .h (.c .h (.c .h .n))))) ?_
   refine HP hs.1 hs.2 (by rfl) (by rfl) (by rfl) ?_
   refine AK (Gm rfl (Gt (Cn rfl rfl) (Gn (.t4 0 4 6 134) ?_)))
   refine Gc (fun c9=>?_) (fun c9=>?_)
   ·
    have c9p:=kz c9
    refine AK (Gm rfl (Gm rfl ?_))
    refine Ah rfl Te (.c rfl (.c rfl (.c rfl .n))) (.c .h (.c .h (.c .h .n))) (EM _ (AL.A8 V1 a.A8 (heard sv a.bytes)) (ls1.put a.A8 ⟨sl.queue,sl.wait,sl.told⟩) ev1 a.A8 _ hs (Nat.le_trans (Gv (Iy hs.1 hs.2 (FQ (V:=V1) (ls:=ls1) (ev:=ev1) hs.1 hs.2 hsv hlv (Hh (u:=a.bytes) hln.2.1 hln.1 y13)) hF0) a.A8 hs.1 hs.2) (by omega))) (fun v18 B hv=>?_)
    obtain⟨y19,y20,y21,rfl,y22,rfl⟩:=hv
    refine Gn (.t2 0 4) (AK (Gm rfl ?_))
    refine BB rfl SQ (.c rfl .n) (.c .h (.c .h (.c .h .n))) (D2 _ y19 y20 y21 1 0 (by rw [y22];exact(Iy hs.1 hs.2 (FQ (V:=V1) (ls:=ls1) (ev:=ev1) hs.1 hs.2 hsv hlv (Hh (u:=a.bytes) hln.2.1 hln.1 y13)) hF0).tell hs.1 hs.2 (show AH.My.length≤_ by decide)) (by omega) (by omega)) (fun w hS=>⟨gl0.pull gm0 hS (.c .h (.c .h (.c .h .n))),gl1.pull gm1 hS (.c .h (.c .h (.c .h .n))),gl2.pull gm2 hS (.c .h (.c .h (.c .h .n))),gl3.pull gm3 hS (.c .h (.c .h (.c .h .n)))⟩) (fun v23 B hv=>?_)
    obtain⟨y24,y25,y26,rfl,y27,rfl⟩:=hv
    refine AT (AB (.t1 4) ?_)
    refine AW (AA (Gs (Gt (BL NY FK rfl .nil) ?_)))
    refine AO (AJ (AQ.id BG.fl.len BG.fl.one) rfl rfl rfl ET rfl (.t (.t (.t .h)))) ?_
    refine Gn (.t1 4) (Ae ?_)
    refine AZ rfl (.cell rfl .m3 (.inl ⟨(by rw [BG.fl.len];exact IQ),rfl⟩) .n) ?_
    intro w1 hS
    have hS:=(hS.perm (Ax.perm (.c .h (.c .h (.c .h .n))))).A3
    have hq0:AH.DQ (A4 V1 ls1 ev1) a=_:=((AX c3).trans ((AX c4).trans ((AX c5).trans ((AX (show(decide ((AH.at_ (A4 V1 ls1 ev1) a.A8).state=0) != decide (a.kind=1))=false by rw [G0 V1 ls1 ev1 hs.1 hs.2];exact c6)).trans ((AX c7).trans (BJ c8))))))
    have hq:(AH.act (A4 V ls ev) a)=_:=(AH.F5 c1 a).trans ((congrArg (fun X=>AH.DQ X a) hX.symm).trans hq0)
    refine⟨_,⟨y24,y25,y26,?gv7,?ga7,rfl⟩,hS⟩
    case gv7=>rw [hq];rfl
    case ga7=>rw [hq];dsimp only;exact(L3 hs.1 hs.2 (FQ (V:=V1) (ls:=ls1) (ev:=ev1) hs.1 hs.2 hsv hlv (Hh (u:=a.bytes) hln.2.1 hln.1 y13)) (.inl ⟨c9,y22⟩) y27)
   have c9p:=kz c9
   refine Aa ?_
   refine AB (.t2 0 4) ?_
   refine AA (AK (Gm rfl ?_))
   refine BB rfl SQ (.c rfl .n) (.c .h (.c .h (.c .h .n))) (D2 _ (AL.A8 V1 a.A8 (heard sv a.bytes)) (ls1.put a.A8 ⟨sl.queue,sl.wait,sl.told⟩) ev1 0 0 (Iy hs.1 hs.2 (FQ (V:=V1) (ls:=ls1) (ev:=ev1) hs.1 hs.2 hsv hlv (Hh (u:=a.bytes) hln.2.1 hln.1 y13)) hF0) (by omega) (by omega)) (fun w hS=>⟨gl0.pull gm0 hS (.c .h (.c .h (.c .h .n))),gl1.pull gm1 hS (.c .h (.c .h (.c .h .n))),gl2.pull gm2 hS (.c .h (.c .h (.c .h .n))),gl3.pull gm3 hS (.c .h (.c .h (.c .h .n)))⟩) (fun v28 B hv=>?_)
   obtain⟨y29,y30,y31,rfl,y32,rfl⟩:=hv
   refine AT (AB (.t1 4) ?_)
   refine AW (AA (Gs (Gt (BL NY FK rfl .nil) ?_)))
   refine AO (AJ (AQ.id BG.fl.len BG.fl.one) rfl rfl rfl ET rfl (.t (.t (.t .h)))) ?_
   refine Gn (.t1 4) (Ae ?_)
   refine AZ rfl (.cell rfl .m3 (.inl ⟨(by rw [BG.fl.len];exact IQ),rfl⟩) .n) ?_
   intro w1 hS
   have hS:=(hS.perm (Ax.perm (.c .h (.c .h (.c .h .n))))).A3
   have hq0:AH.DQ (A4 V1 ls1 ev1) a=_:=((AX c3).trans ((AX c4).trans ((AX c5).trans ((AX (show(decide ((AH.at_ (A4 V1 ls1 ev1) a.A8).state=0) != decide (a.kind=1))=false by rw [G0 V1 ls1 ev1 hs.1 hs.2];exact c6)).trans ((AX c7).trans (BJ c8))))))
   have hq:(AH.act (A4 V ls ev) a)=_:=(AH.F5 c1 a).trans ((congrArg (fun X=>AH.DQ X a) hX.symm).trans hq0)
   refine⟨_,⟨y29,y30,y31,?gv8,?ga8,rfl⟩,hS⟩
   case gv8=>rw [hq];rfl
   case ga8=>rw [hq];dsimp only;exact(L3 hs.1 hs.2 (FQ (V:=V1) (ls:=ls1) (ev:=ev1) hs.1 hs.2 hsv hlv (Hh (u:=a.bytes) hln.2.1 hln.1 y13)) (.inr ⟨c9,rfl⟩) y32)
  refine Gm rfl (Gt (AM rfl rfl) (Gt (AM rfl rfl) (Gt (AM rfl rfl) (Gt (Ba rfl) (Gt (Aj LF rfl) ?_)))))
  refine AO (AJ ((AQ.A8 V1 hs.1 hs.2).comp A2.l3) rfl rfl rfl Mf rfl (.t (.t (.t (.t .h))))) ?_
  refine Ga rfl (Gn (.t4 0 4 6 9) (Au ?_))
  refine EL (.c .h (.c (.t .h) (.c (.t .h) (.c (.t .h) (.c (.t .h) .n))))) ?_
  refine HP hs.1 hs.2 (by rfl) (by rfl) (by rfl) ?_
  refine AK (Gm rfl (Gt (Cn rfl rfl) (Gn (.t4 0 4 6 134) ?_)))
  refine Gc (fun c10=>?_) (fun c10=>?_)
  ·
   have c10p:=kz c10
   refine AK (Gm rfl (Gm rfl ?_))
   refine Ah rfl Te (.c rfl (.c rfl (.c rfl .n))) (.c .h (.c .h (.c (.t .h) .n))) (EM _ (AL.A8 V1 a.A8 { heard sv a.bytes with Dy:=⟨(Bj.feed (Bj.start sv.Dy sl.queue) (sv.C0.DY a.bytes).2.1).now,(Bj.feed (Bj.start sv.Dy sl.queue) (sv.C0.DY a.bytes).2.1).CL,(Bj.feed (Bj.start sv.Dy sl.queue) (sv.C0.DY a.bytes).2.1).ret,y15⟩ }) (ls1.put a.A8 ⟨(Bj.feed (Bj.start sv.Dy sl.queue) (sv.C0.DY a.bytes).2.1).queue,sl.wait,sl.told⟩) ev1 a.A8 _ hs (Nat.le_trans (Gv (Iy hs.1 hs.2 (FQ (V:=V1) (ls:=ls1) (ev:=ev1) hs.1 hs.2 hsv hlv (JE (u:=a.bytes) hln.2.1 hln.1 y14 y15)) hF0) a.A8 hs.1 hs.2) (by omega))) (fun v33 B hv=>?_)
   obtain⟨y34,y35,y36,rfl,y37,rfl⟩:=hv
   refine Gn (.t2 0 4) (AK (Gm rfl ?_))
   refine BB rfl SQ (.c rfl .n) (.c .h (.c .h (.c .h .n))) (D2 _ y34 y35 y36 1 0 (by rw [y37];exact(Iy hs.1 hs.2 (FQ (V:=V1) (ls:=ls1) (ev:=ev1) hs.1 hs.2 hsv hlv (JE (u:=a.bytes) hln.2.1 hln.1 y14 y15)) hF0).tell hs.1 hs.2 (show AH.My.length≤_ by decide)) (by omega) (by omega)) (fun w hS=>⟨gl0.pull gm0 hS (.c .h (.c .h (.c .h .n))),gl1.pull gm1 hS (.c .h (.c .h (.c .h .n))),gl2.pull gm2 hS (.c .h (.c .h (.c .h .n))),gl3.pull gm3 hS (.c .h (.c .h (.c .h .n)))⟩) (fun v38 B hv=>?_)
   obtain⟨y39,y40,y41,rfl,y42,rfl⟩:=hv
   refine AT (AB (.t1 4) ?_)
   refine AW (AA (Gs (Gt (BL NY FK rfl .nil) ?_)))
   refine AO (AJ (AQ.id BG.fl.len BG.fl.one) rfl rfl rfl ET rfl (.t (.t (.t (.t .h))))) ?_
   refine Gn (.t1 4) (Ae ?_)
   refine AZ rfl (.cell rfl .m4 (.inl ⟨(by rw [BG.fl.len];exact IQ),rfl⟩) .n) ?_
   intro w1 hS
   have hS:=(hS.perm (Ax.perm (.c .h (.c .h (.c .h .n))))).A3
   have hq0:AH.DQ (A4 V1 ls1 ev1) a=_:=((AX c3).trans ((AX c4).trans ((AX c5).trans ((AX (show(decide ((AH.at_ (A4 V1 ls1 ev1) a.A8).state=0) != decide (a.kind=1))=false by rw [G0 V1 ls1 ev1 hs.1 hs.2];exact c6)).trans ((AX c7).trans (BJ c8))))))
   have hq:(AH.act (A4 V ls ev) a)=_:=(AH.F5 c1 a).trans ((congrArg (fun X=>AH.DQ X a) hX.symm).trans hq0)
   refine⟨_,⟨y39,y40,y41,?gv9,?ga9,rfl⟩,hS⟩
   case gv9=>rw [hq];rfl
   case ga9=>rw [hq];dsimp only;exact(L3 hs.1 hs.2 (FQ (V:=V1) (ls:=ls1) (ev:=ev1) hs.1 hs.2 hsv hlv (JE (u:=a.bytes) hln.2.1 hln.1 y14 y15)) (.inl ⟨c10,y37⟩) y42)
  have c10p:=kz c10
  refine Aa ?_
  refine AB (.t2 0 4) ?_
  refine AA (AK (Gm rfl ?_))
  refine BB rfl SQ (.c rfl .n) (.c .h (.c .h (.c (.t .h) .n))) (D2 _ (AL.A8 V1 a.A8 { heard sv a.bytes with Dy:=⟨(Bj.feed (Bj.start sv.Dy sl.queue) (sv.C0.DY a.bytes).2.1).now,(Bj.feed (Bj.start sv.Dy sl.queue) (sv.C0.DY a.bytes).2.1).CL,(Bj.feed (Bj.start sv.Dy sl.queue) (sv.C0.DY a.bytes).2.1).ret,y15⟩ }) (ls1.put a.A8 ⟨(Bj.feed (Bj.start sv.Dy sl.queue) (sv.C0.DY a.bytes).2.1).queue,sl.wait,sl.told⟩) ev1 0 0 (Iy hs.1 hs.2 (FQ (V:=V1) (ls:=ls1) (ev:=ev1) hs.1 hs.2 hsv hlv (JE (u:=a.bytes) hln.2.1 hln.1 y14 y15)) hF0) (by omega) (by omega)) (fun w hS=>⟨gl0.pull gm0 hS (.c .h (.c .h (.c (.t .h) .n))),gl1.pull gm1 hS (.c .h (.c .h (.c (.t .h) .n))),gl2.pull gm2 hS (.c .h (.c .h (.c (.t .h) .n))),gl3.pull gm3 hS (.c .h (.c .h (.c (.t .h) .n)))⟩) (fun v43 B hv=>?_)
  obtain⟨y44,y45,y46,rfl,y47,rfl⟩:=hv
  refine AT (AB (.t1 4) ?_)
  refine AW (AA (Gs (Gt (BL NY FK rfl .nil) ?_)))
  refine AO (AJ (AQ.id BG.fl.len BG.fl.one) rfl rfl rfl ET rfl (.t (.t (.t (.t .h))))) ?_
  refine Gn (.t1 4) (Ae ?_)
  refine AZ rfl (.cell rfl .m4 (.inl ⟨(by rw [BG.fl.len];exact IQ),rfl⟩) .n) ?_
  intro w1 hS
  have hS:=(hS.perm (Ax.perm (.c .h (.c .h (.c .h .n))))).A3
  have hq0:AH.DQ (A4 V1 ls1 ev1) a=_:=((AX c3).trans ((AX c4).trans ((AX c5).trans ((AX (show(decide ((AH.at_ (A4 V1 ls1 ev1) a.A8).state=0) != decide (a.kind=1))=false by rw [G0 V1 ls1 ev1 hs.1 hs.2];exact c6)).trans ((AX c7).trans (BJ c8))))))
  have hq:(AH.act (A4 V ls ev) a)=_:=(AH.F5 c1 a).trans ((congrArg (fun X=>AH.DQ X a) hX.symm).trans hq0)
  refine⟨_,⟨y44,y45,y46,?gv10,?ga10,rfl⟩,hS⟩
  case gv10=>rw [hq];rfl
  case ga10=>rw [hq];dsimp only;exact(L3 hs.1 hs.2 (FQ (V:=V1) (ls:=ls1) (ev:=ev1) hs.1 hs.2 hsv hlv (JE (u:=a.bytes) hln.2.1 hln.1 y14 y15)) (.inr ⟨c10,rfl⟩) y47)
 have c8p:=kz c8
 refine Gs (Gt (Ai rfl rfl) (Ga rfl (Gn (.t6 0 3 4 6 85 140) ?_)))
 refine Gc (fun c11=>?_) (fun c11=>?_)
 ·
  have c11p:=kz c11
  refine Gs (Ga rfl (Gn (.t4 0 3 4 6) (Au ?_)))
  refine FJ (k:=a.A8) hs.1 hs.2 (fun sv sl hsv hlv hln=>?_)
  refine BN (N:=15) [0,0,2,6,14,0,32,126,254,510,510,1023,3071,7167,16383] mix (by kernel_rfl) rfl ?_
  refine Pf 0 rfl (AD rfl) (Pf 1 rfl (AD rfl) (Pf 2 rfl (Ba rfl) (Pf 3 rfl (Aj Dt rfl) (Pf 4 rfl (AU rfl Cv .m3 ((AQ.A8 V1 hs.1 hs.2).comp A2.l4) rfl) (Pf 5 rfl (Aj Xp rfl) (Pf 6 rfl (AG rfl A5 .m7 BF.l2 rfl rfl) ?_))))))
  refine Bh 7 rfl rfl (by kernel_rfl) (Lv (K3 (EB eI (.c rfl (.c rfl .n)) (fun w hS=>Na _ _ w)))) ?_
  refine Pf 8 rfl (AD rfl) (Pf 9 rfl (AM rfl rfl) (Pf 10 rfl (AM rfl rfl) (Pf 11 rfl (Ba rfl) (Pf 12 rfl (Aj Dt rfl) ?_))))
  refine Ab 13 rfl (by kernel_rfl) ?_
  refine AO (AJ ((AQ.A8 V1 hs.1 hs.2).comp A2.l4) rfl rfl rfl Fb rfl (.t (.t (.t .h)))) ?_
  refine A7 rfl ⟨?_,?_⟩
  · exact(Pk (Pk (Po rfl (AM rfl rfl) rfl rfl (Pk (Pk (Pk (Pk (Pk (Pk (Pk (Pk (Pk (Pk Ac)))))))))))))
  refine Pf 14 rfl (A1 rfl) ?_
  refine Az (by kernel_rfl) ?_
  refine AB (.t3 0 4 10) ?_
  refine AA (Au ?_)
  refine EL (.c .h (.c .h (.c .h (.c .h (.c .h .n))))) ?_
  refine HP hs.1 hs.2 (by rfl) (by rfl) (by rfl) ?_
  refine AK (Gm rfl ?_)
  refine BB rfl SQ (.c rfl .n) (.c .h (.c .h (.c .h .n))) (D2 _ (AL.A8 V1 a.A8 { sv with out:=⟨sv.out.wait,sv.out.shown,sv.out.Bq,sv.out.ring.drop (max 0 (min a.n (sv.out.ring.length:Int))).toNat,sv.out.cut⟩ }) (ls1.put a.A8 ⟨sl.queue,sl.wait,sl.told⟩) ev1 0 0 (by rw [(show A4 (AL.A8 V1 a.A8 { sv with out:=⟨sv.out.wait,sv.out.shown,sv.out.Bq,sv.out.ring.drop (max 0 (min a.n (sv.out.ring.length:Int))).toNat,sv.out.cut⟩ }) (ls1.put a.A8 ⟨sl.queue,sl.wait,sl.told⟩) ev1=AH.set (A4 V1 ls1 ev1) a.A8 ((AH.at_ (A4 V1 ls1 ev1) a.A8).GG a.n) from Er hs.1 hs.2 hsv hlv (f:=fun x=>x.GG a.n) rfl)];exact hF0.GG hs.1 hs.2 a.n) (by omega) (by omega)) (fun w hS=>⟨gl0.pull gm0 hS (.c .h (.c .h (.c .h .n))),gl1.pull gm1 hS (.c .h (.c .h (.c .h .n))),gl2.pull gm2 hS (.c .h (.c .h (.c .h .n))),gl3.pull gm3 hS (.c .h (.c .h (.c .h .n)))⟩) (fun v48 B hv=>?_)
  obtain⟨y49,y50,y51,rfl,y52,rfl⟩:=hv
  refine Gn (.t2 4 10) (Gs (Gm rfl (Gt (BL NY FK rfl (.cons BG.l1 rfl rfl rfl .nil)) ?_)))
  refine AO (AJ (AQ.id BG.fl.len BG.fl.one) rfl rfl rfl ET rfl (.t (.t (.t .h)))) ?_
  refine Gn (.t1 4) (Ae (AS (AE ?_)))
  refine AZ rfl (.cell rfl .m3 (.inl ⟨(by rw [BG.fl.len];exact IQ),rfl⟩) .n) ?_
  intro w1 hS
  have hS:=(hS.perm (Ax.perm (.c .h (.c .h (.c .h .n))))).A3
  have hq0:AH.DQ (A4 V1 ls1 ev1) a=_:=((AX c3).trans ((AX c4).trans ((AX c5).trans ((AX (show(decide ((AH.at_ (A4 V1 ls1 ev1) a.A8).state=0) != decide (a.kind=1))=false by rw [G0 V1 ls1 ev1 hs.1 hs.2];exact c6)).trans ((AX c7).trans ((AX c8).trans (BJ c11)))))))
  have hq:(AH.act (A4 V ls ev) a)=_:=(AH.F5 c1 a).trans ((congrArg (fun X=>AH.DQ X a) hX.symm).trans hq0)
  refine⟨_,⟨y49,y50,y51,?gv11,?ga11,rfl⟩,hS⟩
  case gv11=>rw [hq];exact congrArg (fun x=>Value.agg (BG.enc ⟨0,x⟩).toArray) (YT V1 ls1 ev1 hs.1 hs.2 hsv a.n)
  case ga11=>rw [hq];dsimp only;exact y52.trans (congrArg AH.BQ (show A4 (AL.A8 V1 a.A8 { sv with out:=⟨sv.out.wait,sv.out.shown,sv.out.Bq,sv.out.ring.drop (max 0 (min a.n (sv.out.ring.length:Int))).toNat,sv.out.cut⟩ }) (ls1.put a.A8 ⟨sl.queue,sl.wait,sl.told⟩) ev1=AH.set (A4 V1 ls1 ev1) a.A8 ((AH.at_ (A4 V1 ls1 ev1) a.A8).GG a.n) from Er hs.1 hs.2 hsv hlv (f:=fun x=>x.GG a.n) rfl))
 have c11p:=kz c11
 refine Gs (Gt (Ai rfl rfl) (Ga rfl (Gn (.t4 0 4 6 159) ?_)))
 refine HG rfl (decide_eq_true (by omega)) ?_
 refine Gs (Gm rfl (Gm rfl ?_))
 refine BB rfl ay (.c rfl (.c rfl .n)) (.c .h (.c .h (.c .h .n))) (Ii _ V1 ls1 ev1 a.A8 0 0 hs hF0 (by omega) (by omega)) (fun w hS=>⟨gl0.pull gm0 hS (.c .h (.c .h (.c .h .n))),gl1.pull gm1 hS (.c .h (.c .h (.c .h .n))),gl2.pull gm2 hS (.c .h (.c .h (.c .h .n))),gl3.pull gm3 hS (.c .h (.c .h (.c .h .n)))⟩) (fun v53 B hv=>?_)
 obtain⟨y54,y55,y56,rfl,y57,rfl⟩:=hv
 refine Gn (.t2 0 4) (AK (Gm rfl ?_))
 refine BB rfl SQ (.c rfl .n) (.c .h (.c .h (.c .h .n))) (D2 _ y54 y55 y56 11 11 (by rw [y57];exact hF0.leave hs.1 hs.2) (by omega) (by omega)) (fun w hS=>⟨gl0.pull gm0 hS (.c .h (.c .h (.c .h .n))),gl1.pull gm1 hS (.c .h (.c .h (.c .h .n))),gl2.pull gm2 hS (.c .h (.c .h (.c .h .n))),gl3.pull gm3 hS (.c .h (.c .h (.c .h .n)))⟩) (fun v58 B hv=>?_)
 obtain⟨y59,y60,y61,rfl,y62,rfl⟩:=hv
 refine AT (AB (.t1 4) ?_)
 refine AW (AA (Gs (Gt (BL NY FK rfl .nil) ?_)))
 refine AO (AJ (AQ.id BG.fl.len BG.fl.one) rfl rfl rfl ET rfl (.t (.t (.t .h)))) ?_
 refine Gn (.t1 4) (Ae ?_)
 refine AZ rfl (.cell rfl .m3 (.inl ⟨(by rw [BG.fl.len];exact IQ),rfl⟩) .n) ?_
 intro w1 hS
 have hS:=(hS.perm (Ax.perm (.c .h (.c .h (.c .h .n))))).A3
 have hq0:AH.DQ (A4 V1 ls1 ev1) a=_:=((AX c3).trans ((AX c4).trans ((AX c5).trans ((AX (show(decide ((AH.at_ (A4 V1 ls1 ev1) a.A8).state=0) != decide (a.kind=1))=false by rw [G0 V1 ls1 ev1 hs.1 hs.2];exact c6)).trans ((AX c7).trans ((AX c8).trans (AX c11)))))))
 have hq:(AH.act (A4 V ls ev) a)=_:=(AH.F5 c1 a).trans ((congrArg (fun X=>AH.DQ X a) hX.symm).trans hq0)
 refine⟨_,⟨y59,y60,y61,?gv12,?ga12,rfl⟩,hS⟩
 case gv12=>rw [hq];rfl
 case ga12=>rw [hq];dsimp only;exact y62.trans (congrArg AH.BQ y57)
theorem IT (b:Nat)(V:AL)(i:Int)(hi:0≤i∧i < 4):Jp Tryz.prog 21 #[.pointer (some ⟨b,0,none⟩), .int .i64 i] [Af.box b 101 (AL.enc V)] (fun v B=>v = .tuple #[.int .i64 (E4 (V.Ar.at i)).1, .int .i64 (E4 (V.Ar.at i)).2]∧B = [Af.box b 101 (AL.enc V)]):=by
 intro w hS0
 refine Ao _ _ Tryz.func21 rfl rfl rfl (hS0) ?_
 refine Gs (Ga rfl (Ga rfl (Gn (.t2 0 1) (CH (Gm rfl (Gt (Es Tryz.underlying37 rfl) (Gm rfl ?_)))))))
 refine C3 (t:=8) rfl rfl rfl (AD rfl) ?_
 refine C3 (t:=8) rfl rfl rfl (BC rfl rfl) ?_
 refine Gt (C1 rfl rfl) (Gm rfl (Bf 12 rfl rfl (fun q=>AD rfl) (Bf 12 rfl rfl (fun q=>CO (cF rfl q) rfl) ?_)))
 refine Gt (BU rfl rfl (fun h=>by rw [h];rfl)) ?_
 refine Gm rfl (Bf 16 rfl rfl (fun q=>AD rfl) (Bf 16 rfl rfl (fun q=>AD rfl) (Bf 16 rfl rfl (fun q=>Ba (cF rfl q)) (Bf 16 rfl rfl (fun q=>Aj F4 (cF rfl q)) ?_))))
 refine Bf 16 rfl rfl (fun q=>by have q1:=q;(try simp at q1);exact AV Oi (cF rfl q) (cF rfl q) (by first | omega | exact hi.1 | exact hi.2) (by first | omega | exact hi.1 | exact hi.2)) ?_
 refine Bf 16 rfl rfl (fun q=>Aj JV (cF rfl q)) ?_
 refine Bf 16 rfl rfl (fun q=>by have q1:=q;(try simp at q1);exact AG (cF rfl q) A5 .m0 ((AL.l1.comp (AQ.ar (n:=4) A2.fl (by first | omega | exact hi))).comp A2.l0) rfl rfl) ?_
 refine Bf 16 rfl rfl (fun q=>Cb (cF rfl q) rfl) ?_
 refine Gt (BU rfl rfl (fun h=>by rw [h];rfl)) ?_
 refine Gn (.t3 0 1 25) ?_
 refine Gc (fun c1=>?_) (fun c1=>?_)
 ·
  have c1p:=kz c1
  refine CH (Gm rfl (Gt (Es Tryz.underlying37 rfl) (Gm rfl ?_)))
  refine C3 (t:=28) rfl rfl rfl (AD rfl) ?_
  refine C3 (t:=28) rfl rfl rfl (BC rfl rfl) ?_
  refine Gt (C1 rfl rfl) (Gm rfl (Bf 32 rfl rfl (fun q=>AD rfl) (Bf 32 rfl rfl (fun q=>CO (cF rfl q) rfl) ?_)))
  refine Gt (BU rfl rfl (fun h=>by rw [h];rfl)) ?_
  refine Gn (.t3 0 1 35) ?_
  refine EK rfl (by rw [Bool.or_eq_false_iff,decide_eq_false_iff_not,decide_eq_false_iff_not];omega) ?_
  refine Aa ?_
  refine AB (.t2 0 1) ?_
  refine AA (Gs (Gm rfl (Gm rfl (Gt (Ba rfl) (Gt (Aj F4 rfl) ?_)))))
  refine Gt (AV Oi rfl rfl (by first | omega | exact hi.1 | exact hi.2) (by first | omega | exact hi.1 | exact hi.2)) ?_
  refine Gt (Aj JV rfl) ?_
  refine Gt (AG rfl A5 .m0 ((AL.l1.comp (AQ.ar (n:=4) A2.fl (by first | omega | exact hi))).comp A2.l0) rfl rfl) ?_
  refine Ga rfl (Ga rfl (Gn (.t2 4 5) (Ae (AE ?_))))
  refine AZ rfl (.tmp rfl (.tmp rfl .n)) ?_
  intro w1 hS
  have hS:=(hS.perm (Ax.perm (.c .h .n))).A3
  have hq:E4 (V.Ar.at i)=_:=if_neg (by rw [decide_eq_true_eq];rcases c1p with (h | h) | h<;>first | omega | exact h)
  refine⟨_,⟨?gv1,rfl⟩,hS⟩
  case gv1=>rw [hq];rfl
 have c1p:=kz c1
 refine Aa ?_
 refine AB (.t2 0 1) ?_
 refine AA (Au ?_)
 refine BN (N:=9) [0,0,1,5,15,31,63,0,255] mix (by kernel_rfl) rfl ?_
 refine Pf 0 rfl (AD rfl) (Pf 1 rfl (AD rfl) (Pf 2 rfl (Ba rfl) (Pf 3 rfl (Aj F4 rfl) ?_)))
 refine Pf 4 rfl (AV Oi rfl rfl (by first | omega | exact hi.1 | exact hi.2) (by first | omega | exact hi.1 | exact hi.2)) ?_
 refine Pf 5 rfl (Aj IU rfl) ?_
 refine Pf 6 rfl (AG rfl A5 .m0 ((AL.l1.comp (AQ.ar (n:=4) A2.fl (by first | omega | exact hi))).comp A2.l1) rfl rfl) ?_
 refine Pf 7 rfl (A1 rfl) (Pf 8 rfl (A1 rfl) ?_)
 refine Az (by kernel_rfl) ?_
 refine AB (.t2 4 5) ?_
 refine AA (Ae ?_)
 refine AZ rfl (.tmp rfl (.tmp rfl .n)) ?_
 intro w1 hS
 have hS:=(hS.perm (Ax.perm (.c .h .n))).A3
 have hq:E4 (V.Ar.at i)=_:=if_pos (decide_eq_true c1p.2)
 refine⟨_,⟨?gv2,rfl⟩,hS⟩
 case gv2=>rw [hq];rfl
theorem JM (b:Nat)(V:AL)(ls:Vector BI 4)(i:Int)(hi:0≤i∧i < 4)(hl:(ls.at i).told.length≤1000000):Jp Tryz.prog 24 #[.pointer (some ⟨b,0,none⟩), .int .i64 i] [Af.box b 101 (AL.enc V),Af.D0 (CJ 9 (AL.Ar V) ls)] (fun v B=>∃ h':Hd,v=h'.val∧h'.len=(ls.at i).told.length∧B = [Af.box b 101 (AL.enc V),Af.D0 (CJ 9 (AL.Ar V) ls),Af.own h' 9 1 ((ls.at i).told.flatMap A9)]):=by
 intro w hS0
 refine Ao _ _ Tryz.func24 rfl rfl rfl (hS0) ?_
 refine Gs (Ga rfl (Gn (.t2 0 1) (CH (Gm rfl (Gt (Es Tryz.underlying37 rfl) (Gm rfl ?_))))))
 refine C3 (t:=7) rfl rfl rfl (AD rfl) ?_
 refine C3 (t:=7) rfl rfl rfl (BC rfl rfl) ?_
 refine Gt (C1 rfl rfl) (Gm rfl (Bf 11 rfl rfl (fun q=>AD rfl) (Bf 11 rfl rfl (fun q=>CO (cF rfl q) rfl) ?_)))
 refine Gt (BU rfl rfl (fun h=>by rw [h];rfl)) ?_
 refine Gn (.t3 0 1 14) ?_
 refine EK rfl (by rw [Bool.or_eq_false_iff,decide_eq_false_iff_not,decide_eq_false_iff_not];omega) ?_
 refine Aa ?_
 refine AB (.t2 0 1) ?_
 refine AA (Au ?_)
 refine FJ (k:=i) hi.1 hi.2 (fun sv sl hsv hlv hln=>?_)
 have hl2:=hl
 rw [hlv] at hl2
 refine AK (Gm rfl (Gm rfl (Gt (Ba rfl) (Gt (Aj F4 rfl) ?_))))
 refine Gt (AV Oi rfl rfl (by first | omega | exact hi.1 | exact hi.2) (by first | omega | exact hi.1 | exact hi.2)) ?_
 refine Gt (Aj RK rfl) (Gt (AG rfl Ej .m3 ((AQ.A8 V hi.1 hi.2).comp A2.l5) rfl rfl) ?_)
 refine Df A9 9 1 ?_
 refine JH (e:=A9) rfl Tryz.underlying52 Et Sk rfl Xh (by decide) rfl rfl (fun w hS=>Src.D9 Tryz.underlying52 ((Kn.own .m3) w hS)) rfl rfl (by omega) (fun _=> .h) (fun h1 h1l=>?_)
 refine Ga rfl (Gn (.t1 4) (Ae ?_))
 refine AZ rfl (.tmp rfl .n) ?_
 intro w1 hS
 have hS:=(hS.perm (Ax.perm (.c (.t .h) (.c (.t .h) (.c (.t .h) (.c (.t .h) (.c (.t .h) (.c .h .n)))))))).A3
 have e1:V.A8 i sv=V:=by rw [← hsv];exact V.Ke hi.1 hi.2
 have e2:ls.put i ⟨sl.queue,sl.wait,sl.told⟩=ls:=by rw [← hlv];exact Vector.Lo ls hi.1 hi.2
 have hS:=St.close' (s:=sv) (qs:=sl.queue) (ws:=sl.wait) (ts:=sl.told) hi.1 hi.2 rfl rfl rfl hS
 rw [e1,e2] at hS
 try rw [hsv]
 rw [hlv]
 refine⟨_,⟨_,rfl,?gl,rfl⟩,hS⟩
 case gl=>(try simp only [List.length_append,List.length_nil] at *);omega
theorem Nr  (w:World)(gl0:GV 2 GO w)(gl1:GV 0 AI.DT w)(gl2:HI 7 w)(gl3:HI 8 w):Ee Tryz.prog 33 #[] w fun v w'=>v = .bool true∧B9 w w':=by
 refine Ao [] [] Tryz.func33 rfl rfl rfl (St.start w []) ?_
 refine Gs (Ga rfl (Gn (.nil _) (Gs ?_)))
 refine Ah rfl aO .n .n (Hb ) (fun v1 B hv=>?_)
 obtain⟨y2,y3,y4,y5,rfl,y6,rfl⟩:=hv
 refine Ga rfl (Gn (.t1 1) (CH (Gm rfl (Gt (Es Tryz.underlying37 rfl) (Gn (.t2 1 8) ?_)))))
 refine EK rfl rfl ?_
 refine Aa ?_
 refine AB (.t1 1) ?_
 refine AA (Gs (Gm rfl (Gt (BL bb Xk rfl (.cons BF.l0 rfl rfl rfl (.cons BF.l1 rfl rfl rfl .nil))) ?_)))
 refine BB rfl JQ (.c rfl (.c rfl .n)) (.c .h (.c .h (.c .h .n))) (CN y2 y3 y4 y5 AH.QY (by rw [y6];exact AH.fP) (by decide)) (fun w hS=>⟨gl0.pull (by simp) hS (.c .h (.c .h (.c .h .n))),gl1.pull (by simp) hS (.c .h (.c .h (.c .h .n))),gl2.pull (by simp) hS (.c .h (.c .h (.c .h .n))),gl3.pull (by simp) hS (.c .h (.c .h (.c .h .n)))⟩) (fun v8 B hv=>?_)
 obtain⟨y9,y10,y11,rfl,y12,rfl⟩:=hv
 refine A6 rfl FK rfl (fun b1=>?_)
 refine AO (AJ (AQ.id BG.fl.len BG.fl.one) rfl rfl rfl ET rfl .h) ?_
 refine Gn (.t2 1 2) (Gs (Gm rfl (Gt (BL bb Xk rfl (.cons BF.l0 rfl rfl rfl (.cons BF.l1 rfl rfl rfl (.cons BF.l3 rfl rfl rfl .nil)))) ?_)))
 refine BB rfl JQ (.c rfl (.c rfl .n)) (.c (.t .h) (.c (.t .h) (.c (.t .h) .n))) (CN y2 y9 y10 y11 AH.type2 (by rw [y12,y6];exact AH.fT) (by decide)) (fun w hS=>⟨gl0.pull (by simp) hS (.c (.t .h) (.c (.t .h) (.c (.t .h) .n))),gl1.pull (by simp) hS (.c (.t .h) (.c (.t .h) (.c (.t .h) .n))),gl2.pull (by simp) hS (.c (.t .h) (.c (.t .h) (.c (.t .h) .n))),gl3.pull (by simp) hS (.c (.t .h) (.c (.t .h) (.c (.t .h) .n)))⟩) (fun v13 B hv=>?_)
 obtain⟨y14,y15,y16,rfl,y17,rfl⟩:=hv
 refine Gn (.t2 1 2) (Gs (Gm rfl (Gt (BL bb Xk rfl (.cons BF.l0 rfl rfl rfl .nil)) ?_)))
 refine BB rfl JQ (.c rfl (.c rfl .n)) (.c .h (.c .h (.c .h .n))) (CN y2 y14 y15 y16 AH.Td (by rw [y17,y12,y6];exact AH.fU) (by decide)) (fun w hS=>⟨gl0.pull (by simp) hS (.c .h (.c .h (.c .h .n))),gl1.pull (by simp) hS (.c .h (.c .h (.c .h .n))),gl2.pull (by simp) hS (.c .h (.c .h (.c .h .n))),gl3.pull (by simp) hS (.c .h (.c .h (.c .h .n)))⟩) (fun v18 B hv=>?_)
 obtain⟨y19,y20,y21,rfl,y22,rfl⟩:=hv
 refine A6 rfl FK rfl (fun b2=>?_)
 refine AO (AJ (AQ.id BG.fl.len BG.fl.one) rfl rfl rfl ET rfl .h) ?_
 refine Gn (.t3 1 2 3) (Au ?_)
 have hA:A4 y19 y20 y21=AH.dq:=by rw [y22,y17,y12,y6];rfl
 have hA3:(A4 y19 y20 y21).Live:=by rw [hA];exact AH.X2
 refine AK (Gm rfl ?_)
 refine Ah rfl aa (.c rfl (.c rfl .n)) (.c (.t .h) .n) (IT y2 y19 2 (by decide)) (fun v23 B hv=>?_)
 obtain⟨rfl,rfl⟩:=hv
 refine Gm rfl (Gt (AM rfl rfl) (Gt (AM rfl rfl) (Ga rfl (Ga rfl (Gn (.t5 1 2 3 4 5) (Gs (Gt (Aj W1 rfl) ?_)))))))
 refine Gt (AG rfl X1 .m4 BG.l0 rfl rfl) (Gt (Ai rfl rfl) (Gm rfl (Bg 26 rfl rfl (fun q=>Aj W1 rfl) (Bg 26 rfl rfl (fun q=>AG (Bc rfl q) X1 .m1 BG.l0 rfl rfl) (Bg 26 rfl rfl (fun q=>Ai (Bc rfl q) rfl) (Gt (BM rfl rfl (fun h=>h)) (Gm rfl ?_)))))))
 refine Bg 31 rfl rfl (fun q=>AD rfl) (Bg 31 rfl rfl (fun q=>Ai (Bc rfl q) rfl) (Gt (BM rfl rfl (fun h=>h)) (Gm rfl (Bg 35 rfl rfl (fun q=>AD rfl) (Bg 35 rfl rfl (fun q=>Ai (Bc rfl q) rfl) (Gt (BM rfl rfl (fun h=>h)) (Gm rfl ?_)))))))
 refine Bg 39 rfl rfl (fun q=>AD rfl) ?_
 refine Uw 39 rfl (fun c1=>?_) (fun c1=>?_)
 ·
  refine LP (t:=39) rfl (by first | rfl | exact fC rfl c1) rfl bL (.c (Bc rfl c1) (.c rfl .n)) (.c .h (.c (.t .h) .n)) (JM y2 y19 y20 2 (by decide) (hA3.told (by decide) (by decide))) (fun v24 B hv=>?_)
  obtain⟨y25,rfl,y26,rfl⟩:=hv
  refine C3 (t:=39) rfl rfl rfl (Av rfl Tryz.underlying52 rfl) ?_
  refine C3 (t:=39) rfl rfl rfl (Cn rfl rfl) ?_
  refine Gt (De rfl rfl) (Ga rfl (Gn (.t1 0) (Ae ?_)))
  refine AZ rfl (.tmp rfl .n) ?_
  intro w1 hS;refine⟨?_,hS.Al⟩;have hd:=AH.eL
  rw [← hA,CE _ _ _ (by decide) (by decide)] at hd
  exact congrArg Value.bool (by rw [y26];exact hd)
 refine DK (t:=39) rfl rfl rfl rfl ?_
 refine DK (t:=39) rfl rfl rfl rfl ?_
 refine DK (t:=39) rfl rfl rfl rfl ?_
 refine Gt (C1 rfl rfl) (Ga rfl (Gn (.t1 0) (Ae ?_)))
 refine AZ rfl (.tmp rfl .n) ?_
 intro w1 hS;refine⟨?_,hS.Al⟩;have hs:=RU y19 y20 y21 (show(0:Int)≤2 by decide) (by decide)
 rw [hA,AH.eT] at hs
 have hc:=c1
 rw [hs,y6,AH.eW,y17,y12,y6,AH.eu] at hc
 cases hc
theorem Ff {t0 t1:Nat}(f g:Hd)(xs ys:List As)(hx:xs.length≤9223372036854775807)(w:World)(r0:Rd w f t0 1 (xs.flatMap A9))(r1:Rd w g t1 1 (ys.flatMap A9)):Ee Tryz.prog 26 #[f.val,g.val] w fun v w'=>v = .bool (decide (xs=ys))∧B9 w w':=by
 have hf:=r0.K5 DZ (by decide)
 have hg:=r1.K5 DZ (by decide)
 refine Ao [] [] Tryz.func26 rfl rfl rfl (St.start w []) ?_
 refine Gs (Ga rfl (Gn (.t2 0 1) (CH (Gm rfl (Gt (Av rfl Tryz.underlying52 rfl) (Gm rfl (Gt (Av rfl Tryz.underlying52 rfl) ?_)))))))
 refine Gt (Cb rfl rfl) (Gn (.t3 0 1 10) ?_)
 refine Gc (fun c1=>?_) (fun c1=>?_)
 ·
  have c1p:=kz c1
  refine Gs (Ga rfl (Gn (.t1 4) (Ae (AE ?_))))
  refine AZ rfl (.tmp rfl .n) ?_
  intro w1 hS;refine⟨congrArg Value.bool ?_,hS.Al⟩;have:xs≠ys:=fun e=>by subst e;simp at c1;omega
  simp [this]
 have c1p:=kz c1
 refine Aa ?_
 refine AB (.t2 0 1) ?_
 refine AA (CH (Ga rfl (AT (AA (Ak ?_)))))
 refine Bt (.t3 5 0 1) ?_
 refine Ch (fun(i:Int)=>0≤i∧i≤xs.length∧xs.length=ys.length∧xs.take i.toNat=ys.take i.toNat) (fun(i:Int)=>((xs.length:Int) - i).toNat) (fun(i:Int)=> [(5, .int .i64 i)]) (fun(i:Int)=> []) (0) ?_ rfl rfl (fun i hI1=>?_)
 · exact⟨by omega,by omega,by simp at c1;omega,rfl⟩
 obtain⟨hI11,hI12,hI13,hI14⟩:=hI1
 refine CH (Gm rfl (Gm rfl (Gt (Av rfl Tryz.underlying52 rfl) (Gt (BC rfl rfl) (Gn (.t4 0 1 5 14) ?_)))))
 refine Gc (fun c2=>?_) (fun c2=>?_)
 ·
  have c2p:=kz c2
  refine Aa ?_
  refine AB (.t3 0 1 5) ?_
  refine AA (Au (Ak (Au ?_)))
  refine BN (N:=9) [0,0,3,7,0,0,48,112,255] mix (by kernel_rfl) rfl ?_
  refine Pf 0 rfl (AD rfl) (Pf 1 rfl (AD rfl) ?_)
  refine Pf 2 rfl (Bs Ir (by decide) (Kn.HJ r0) rfl rfl (by omega) (by omega)) ?_
  refine Pf 3 rfl (DO rfl CK (Kn.HJ r0) (by omega)) ?_
  refine Pf 4 rfl (AD rfl) (Pf 5 rfl (AD rfl) ?_)
  refine Pf 6 rfl (Bs Ir (by decide) (Kn.HJ r1) rfl rfl (by omega) (by omega)) ?_
  refine Pf 7 rfl (DO rfl CK (Kn.HJ r1) (by omega)) ?_
  refine Pf 8 rfl (Dp rfl rfl) ?_
  refine Az (by kernel_rfl) ?_
  refine AB (.t4 0 1 5 25) ?_
  refine AA ?_
  refine Gc (fun c3=>?_) (fun c3=>?_)
  ·
   refine Gs (Ga rfl (Gn (.t1 4) (Ae (AS (AE (AE (AS ?_)))))))
   refine AE ?_
   refine AZ rfl (.tmp rfl .n) ?_
   intro w1 hS;refine⟨congrArg Value.bool ?_,hS.Al⟩;have:=Bj.UB (d:= []) (xs:=xs) (ys:=ys) (i:=i.toNat) (by simpa using c3)
   simp [this]
  have c3p:=kz c3
  refine Aa ?_
  refine AB (.t3 0 1 5) ?_
  refine AW (AA (AK (Gm rfl ?_)))
  refine Gt (Ay rfl rfl (IntWalk.i64_in _ (by omega))) ?_
  refine Ga rfl ?_
  refine AT (AB (.t3 0 1 5) ?_)
  refine B7 (i+1) ?_ ?_ (.t3 5 0 1) (.refl _)
  · exact⟨by omega,by omega,hI13,Bj.Kc (d:= []) hI11 hI13 (by omega) hI14 (by simpa using c3)⟩
  · omega
 have c2p:=kz c2
 refine Bl (AY (AY (Am ?_)))
 refine AB (.nil _) ?_
 refine AA (Gs (Ga rfl (AT (AA (Ae ?_)))))
 refine AZ rfl (.tmp rfl .n) ?_
 intro w1 hS;refine⟨congrArg Value.bool ?_,hS.Al⟩;have:=Bj.cL (xs:=xs) (ys:=ys) hI13 hI14 (by omega)
 simp [this]
theorem L6 (b:Nat)(V:AL)(ls:Vector BI 4)(i:Int)(hi:0≤i∧i < 4)(hl:(ls.at i).wait.length≤1000000):Jp Tryz.prog 28 #[.pointer (some ⟨b,0,none⟩), .int .i64 i] [Af.box b 101 (AL.enc V),Af.D0 (CJ 9 (AL.Ar V) ls)] (fun v B=>∃ h':Hd,v = .agg (Aw.enc ⟨h',(V.Ar.at i).out.shown,(V.Ar.at i).out.Bq,(V.Ar.at i).out.ring,(V.Ar.at i).out.cut⟩).toArray∧h'.len=(ls.at i).wait.length∧B = [Af.box b 101 (AL.enc V),Af.D0 (CJ 9 (AL.Ar V) ls),Af.own h' 9 1 ((ls.at i).wait.flatMap A9)]):=by
 intro w hS0
 refine Ao _ _ Tryz.func28 rfl rfl rfl (hS0) ?_
 refine Gs ?_
 refine A6 rfl UL rfl (fun b1=>?_)
 refine AT (AA (CH (Gm rfl (Gt (Es Tryz.underlying37 rfl) (Gm rfl ?_)))))
 refine C3 (t:=8) rfl rfl rfl (AD rfl) ?_
 refine C3 (t:=8) rfl rfl rfl (BC rfl rfl) ?_
 refine Gt (C1 rfl rfl) (Gm rfl (Bf 12 rfl rfl (fun q=>AD rfl) (Bf 12 rfl rfl (fun q=>CO (cF rfl q) rfl) ?_)))
 refine Gt (BU rfl rfl (fun h=>by rw [h];rfl)) ?_
 refine Gn (.t4 0 1 4 15) ?_
 refine EK rfl (by rw [Bool.or_eq_false_iff,decide_eq_false_iff_not,decide_eq_false_iff_not];omega) ?_
 refine Aa ?_
 refine AB (.t3 0 1 4) ?_
 refine AA (Au ?_)
 refine EL (.c (.t .h) (.c (.t .h) .n)) ?_
 refine FJ (k:=i) hi.1 hi.2 (fun sv sl hsv hlv hln=>?_)
 have hl2:=hl
 rw [hlv] at hl2
 refine AK (Gm rfl (Gm rfl (Gt (Ba rfl) (Gt (Aj F4 rfl) ?_))))
 refine Gt (AV Oi rfl rfl (by first | omega | exact hi.1 | exact hi.2) (by first | omega | exact hi.1 | exact hi.2)) ?_
 refine Gt (Aj Dt rfl) (Gt (AU rfl Cv .m3 ((AQ.A8 V hi.1 hi.2).comp A2.l4) rfl) ?_)
 refine A6 rfl UL rfl (fun b2=>?_)
 refine AO (AJ (AQ.id Aw.fl.len Aw.fl.one) rfl rfl rfl Fb rfl .h) ?_
 refine Gn (.t2 4 5) (Gs (Gt (Aj HA rfl) (Gt (AG rfl Ej .m0 Aw.l0 rfl rfl) ?_)))
 refine Df A9 9 1 ?_
 refine JH (e:=A9) rfl Tryz.underlying52 Et Sk rfl Xh (by decide) rfl rfl (fun w hS=>Src.D9 Tryz.underlying52 ((Kn.own .m3) w hS)) rfl rfl (by omega) (fun _=> .h) (fun h1 h1l=>?_)
 refine Gt (Aj HA rfl) ?_
 refine AO (AJ Aw.l0 rfl rfl rfl MY rfl (.t .h)) ?_
 refine Gn (.t2 4 5) (Gs (Gt (AU rfl Cv .m1 (AQ.id Aw.fl.len Aw.fl.one) rfl) ?_))
 refine AO (AJ (AQ.id Aw.fl.len Aw.fl.one) rfl rfl rfl Fb rfl (.t (.t (.t (.t (.t (.t (.t .h)))))))) ?_
 refine Gn (.t1 4) (Ae ?_)
 refine AZ rfl (.cell rfl .m7 (.inl ⟨(by rw [Aw.fl.len];exact Cv),rfl⟩) .n) ?_
 intro w1 hS
 have hS:=(hS.perm (Ax.perm (.c (.t (.t .h)) (.c (.t (.t .h)) (.c (.t (.t .h)) (.c (.t (.t .h)) (.c (.t (.t .h)) (.c .h .n)))))))).A3
 have e1:V.A8 i sv=V:=by rw [← hsv];exact V.Ke hi.1 hi.2
 have e2:ls.put i ⟨sl.queue,sl.wait,sl.told⟩=ls:=by rw [← hlv];exact Vector.Lo ls hi.1 hi.2
 have hS:=St.close' (s:=sv) (qs:=sl.queue) (ws:=sl.wait) (ts:=sl.told) hi.1 hi.2 rfl rfl rfl hS
 rw [e1,e2] at hS
 try rw [hsv]
 rw [hlv]
 refine⟨_,⟨_,rfl,?gl,rfl⟩,hS⟩
 case gl=>(try simp only [List.length_append,List.length_nil] at *);omega
theorem L2 {t0 t1:Nat}(x y:Aw)(xs ys:List As)(hx:xs.length≤9223372036854775807)(w:World)(r0:Rd w x.wait t0 1 (xs.flatMap A9))(r1:Rd w y.wait t1 1 (ys.flatMap A9)):Ee Tryz.prog 39 #[.agg x.enc.toArray, .agg y.enc.toArray] w fun v w'=>v = .bool (decide (xs=ys) && decide (x.shown=y.shown) && (x.Bq == y.Bq) && decide (x.ring=y.ring) && (x.cut == y.cut))∧B9 w w':=by
 refine Ao [] [] Tryz.func39 rfl rfl rfl (St.start w []) ?_
 refine Gs ?_
 refine B4 rfl rfl rfl (fun b1=>?_)
 refine B4 rfl rfl rfl (fun b2=>?_)
 refine Ga rfl (Gn (.t2 2 3) (Gs (Gt (Aj HA rfl) (Gt (AG rfl Ej .m1 Aw.l0 rfl rfl) (Gt (Aj HA rfl) (Gt (AG rfl Ej .m0 Aw.l0 rfl rfl) ?_))))))
 refine BE rfl bY (.c rfl (.c rfl .n)) (fun w hS=>Ff _ _ _ _ (by first | assumption | omega) w ((Kn.HJ r0) w hS) ((Kn.HJ r1) w hS)) ?_
 refine Gm rfl (Bg 10 rfl rfl (fun q=>Aj KC rfl) (Bg 10 rfl rfl (fun q=>AG (Bc rfl q) A5 .m1 Aw.l1 rfl rfl) (Bg 10 rfl rfl (fun q=>Aj KC rfl) (Bg 10 rfl rfl (fun q=>AG (Bc rfl q) A5 .m0 Aw.l1 rfl rfl) (Bg 10 rfl rfl (fun q=>Ai (Bc rfl q) (Bc rfl q)) (Gt (BM rfl rfl (fun h=>h)) (Gm rfl ?_)))))))
 refine Bg 17 rfl rfl (fun q=>Aj M1 rfl) (Bg 17 rfl rfl (fun q=>AG (Bc rfl q) DM .m1 Aw.l2 rfl rfl) (Bg 17 rfl rfl (fun q=>Aj M1 rfl) (Bg 17 rfl rfl (fun q=>AG (Bc rfl q) DM .m0 Aw.l2 rfl rfl) (Bg 17 rfl rfl (fun q=>Ex Tryz.underlying4 (Bc rfl q) (Bc rfl q)) (Gt (BM rfl rfl (fun h=>h)) (Gm rfl (Bg 24 rfl rfl (fun q=>Aj Ih rfl) ?_)))))))
 refine Bg 24 rfl rfl (fun q=>AG (Bc rfl q) CK .m1 Aw.l3 rfl rfl) (Bg 24 rfl rfl (fun q=>Aj Ih rfl) (Bg 24 rfl rfl (fun q=>AG (Bc rfl q) CK .m0 Aw.l3 rfl rfl) (Bg 24 rfl rfl (fun q=>Bv (Bc rfl q) (Bc rfl q)) (Gt (BM rfl rfl (fun h=>h)) (Gm rfl (Bg 31 rfl rfl (fun q=>Aj JI rfl) (Bg 31 rfl rfl (fun q=>AG (Bc rfl q) DM .m1 Aw.l4 rfl rfl) ?_)))))))
 refine Bg 31 rfl rfl (fun q=>Aj JI rfl) (Bg 31 rfl rfl (fun q=>AG (Bc rfl q) DM .m0 Aw.l4 rfl rfl) (Bg 31 rfl rfl (fun q=>Ex Tryz.underlying4 (Bc rfl q) (Bc rfl q)) (Gt (BM rfl rfl (fun h=>h)) (Ga rfl (Gn (.t1 4) (Ae ?_))))))
 refine AZ rfl (.tmp rfl .n) ?_
 intro w1 hS;refine⟨?_,hS.Al⟩;rfl
theorem MB (b:Nat)(V:AL)(ls:Vector BI 4)(i:Int)(hi:0≤i∧i < 4)(hl:(ls.at i).queue.length≤1000000):Jp Tryz.prog 32 #[.pointer (some ⟨b,0,none⟩), .int .i64 i] [Af.box b 101 (AL.enc V),Af.D0 (CJ 9 (AL.Ar V) ls)] (fun v B=>∃ h':Hd,v = .agg (BK.enc ⟨(V.Ar.at i).Dy.now,(V.Ar.at i).Dy.CL,(V.Ar.at i).Dy.ret,h'⟩).toArray∧h'.len=(ls.at i).queue.length∧B = [Af.box b 101 (AL.enc V),Af.D0 (CJ 9 (AL.Ar V) ls),Af.own h' 9 1 ((ls.at i).queue.flatMap A9)]):=by
 intro w hS0
 refine Ao _ _ Tryz.func32 rfl rfl rfl (hS0) ?_
 refine Gs ?_
 refine A6 rfl ZX rfl (fun b1=>?_)
 refine AT (AA (CH (Gm rfl (Gt (Es Tryz.underlying37 rfl) (Gm rfl ?_)))))
 refine C3 (t:=8) rfl rfl rfl (AD rfl) ?_
 refine C3 (t:=8) rfl rfl rfl (BC rfl rfl) ?_
 refine Gt (C1 rfl rfl) (Gm rfl (Bf 12 rfl rfl (fun q=>AD rfl) (Bf 12 rfl rfl (fun q=>CO (cF rfl q) rfl) ?_)))
 refine Gt (BU rfl rfl (fun h=>by rw [h];rfl)) ?_
 refine Gn (.t4 0 1 4 15) ?_
 refine EK rfl (by rw [Bool.or_eq_false_iff,decide_eq_false_iff_not,decide_eq_false_iff_not];omega) ?_
 refine Aa ?_
 refine AB (.t3 0 1 4) ?_
 refine AA (Au ?_)
 refine EL (.c (.t .h) (.c (.t .h) .n)) ?_
 refine FJ (k:=i) hi.1 hi.2 (fun sv sl hsv hlv hln=>?_)
 have hl2:=hl
 rw [hlv] at hl2
 refine AK (Gm rfl (Gm rfl (Gt (Ba rfl) (Gt (Aj F4 rfl) ?_))))
 refine Gt (AV Oi rfl rfl (by first | omega | exact hi.1 | exact hi.2) (by first | omega | exact hi.1 | exact hi.2)) ?_
 refine Gt (Aj LF rfl) (Gt (AU rfl IH .m3 ((AQ.A8 V hi.1 hi.2).comp A2.l3) rfl) ?_)
 refine A6 rfl ZX rfl (fun b2=>?_)
 refine AO (AJ (AQ.id BK.fl.len BK.fl.one) rfl rfl rfl Mf rfl .h) ?_
 refine Gn (.t2 4 5) (Gs (Gt (Aj Ew rfl) (Gt (AG rfl Ej .m0 BK.l3 rfl rfl) ?_)))
 refine Df A9 9 1 ?_
 refine JH (e:=A9) rfl Tryz.underlying52 Et Sk rfl Xh (by decide) rfl rfl (fun w hS=>Src.D9 Tryz.underlying52 ((Kn.own .m2) w hS)) rfl rfl (by omega) (fun _=> .h) (fun h1 h1l=>?_)
 refine Gt (Aj Ew rfl) ?_
 refine AO (AJ BK.l3 rfl rfl rfl MY rfl (.t .h)) ?_
 refine Gn (.t2 4 5) (Gs (Gt (AU rfl IH .m1 (AQ.id BK.fl.len BK.fl.one) rfl) ?_))
 refine AO (AJ (AQ.id BK.fl.len BK.fl.one) rfl rfl rfl Mf rfl (.t (.t (.t (.t (.t (.t (.t .h)))))))) ?_
 refine Gn (.t1 4) (Ae ?_)
 refine AZ rfl (.cell rfl .m7 (.inl ⟨(by rw [BK.fl.len];exact IH),rfl⟩) .n) ?_
 intro w1 hS
 have hS:=(hS.perm (Ax.perm (.c (.t (.t .h)) (.c (.t (.t .h)) (.c (.t (.t .h)) (.c (.t (.t .h)) (.c (.t (.t .h)) (.c .h .n)))))))).A3
 have e1:V.A8 i sv=V:=by rw [← hsv];exact V.Ke hi.1 hi.2
 have e2:ls.put i ⟨sl.queue,sl.wait,sl.told⟩=ls:=by rw [← hlv];exact Vector.Lo ls hi.1 hi.2
 have hS:=St.close' (s:=sv) (qs:=sl.queue) (ws:=sl.wait) (ts:=sl.told) hi.1 hi.2 rfl rfl rfl hS
 rw [e1,e2] at hS
 try rw [hsv]
 rw [hlv]
 refine⟨_,⟨_,rfl,?gl,rfl⟩,hS⟩
 case gl=>(try simp only [List.length_append,List.length_nil] at *);omega
theorem MG {t0 t1:Nat}(x y:BK)(xs ys:List As)(hx:xs.length≤9223372036854775807)(w:World)(r0:Rd w x.queue t0 1 (xs.flatMap A9))(r1:Rd w y.queue t1 1 (ys.flatMap A9)):Ee Tryz.prog 40 #[.agg x.enc.toArray, .agg y.enc.toArray] w fun v w'=>v = .bool (decide (x.now=y.now) && (x.CL == y.CL) && (x.ret == y.ret) && decide (xs=ys))∧B9 w w':=by
 refine Ao [] [] Tryz.func40 rfl rfl rfl (St.start w []) ?_
 refine Gs ?_
 refine B4 rfl rfl rfl (fun b1=>?_)
 refine B4 rfl rfl rfl (fun b2=>?_)
 refine Ga rfl (Gn (.t2 2 3) (Gs (Gt (Aj IW rfl) (Gt (AG rfl CK .m1 BK.l0 rfl rfl) (Gt (Aj IW rfl) (Gt (AG rfl CK .m0 BK.l0 rfl rfl) (Gt (Bv rfl rfl) ?_)))))))
 refine Gm rfl (Bg 10 rfl rfl (fun q=>Aj LL rfl) (Bg 10 rfl rfl (fun q=>AG (Bc rfl q) DM .m1 BK.l1 rfl rfl) (Bg 10 rfl rfl (fun q=>Aj LL rfl) (Bg 10 rfl rfl (fun q=>AG (Bc rfl q) DM .m0 BK.l1 rfl rfl) (Bg 10 rfl rfl (fun q=>Ex Tryz.underlying4 (Bc rfl q) (Bc rfl q)) (Gt (BM rfl rfl (fun h=>h)) (Gm rfl ?_)))))))
 refine Bg 17 rfl rfl (fun q=>Aj LO rfl) (Bg 17 rfl rfl (fun q=>AG (Bc rfl q) DM .m1 BK.l2 rfl rfl) (Bg 17 rfl rfl (fun q=>Aj LO rfl) (Bg 17 rfl rfl (fun q=>AG (Bc rfl q) DM .m0 BK.l2 rfl rfl) (Bg 17 rfl rfl (fun q=>Ex Tryz.underlying4 (Bc rfl q) (Bc rfl q)) (Gt (BM rfl rfl (fun h=>h)) (Gm rfl (Bg 24 rfl rfl (fun q=>Aj Ew rfl) ?_)))))))
 refine Bg 24 rfl rfl (fun q=>AG (Bc rfl q) Ej .m1 BK.l3 rfl rfl) (Bg 24 rfl rfl (fun q=>Aj Ew rfl) (Bg 24 rfl rfl (fun q=>AG (Bc rfl q) Ej .m0 BK.l3 rfl rfl) ?_))
 refine LD (t:=24) rfl rfl rfl (fun q=>by have q1:=q;(try simp at q1);exact EB bY (.c (Bc rfl q) (.c (Bc rfl q) .n)) (fun w hS=>Ff _ _ _ _ (by first | assumption | omega) w ((Kn.HJ r0) w hS) ((Kn.HJ r1) w hS))) ?_
 refine Gt (BM rfl rfl (fun h=>h)) (Ga rfl (Gn (.t1 4) (Ae ?_)))
 refine AZ rfl (.tmp rfl .n) ?_
 intro w1 hS;refine⟨?_,hS.Al⟩;rfl
end Go.Proofs.YtoidpggbbfncpaaGreatDoor

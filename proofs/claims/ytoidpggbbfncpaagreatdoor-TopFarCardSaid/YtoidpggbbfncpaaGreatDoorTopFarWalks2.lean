/- What the functions that the law TopFar reaches compute: walks, part 2. No condition. -/
import Derived.Test.YtoidpggbbfncpaaGreatDoorCards
import Derived.Test.YtoidpggbbfncpaaGreatDoorTie
import Derived.Deep.DeepHandedRow
import Derived.Test.YtoidpggbbfncpaaGreatDoorRows
import Derived.Test.YtoidpggbbfncpaaGreatDoorTopFarEc3
import Derived.Test.YtoidpggbbfncpaaGreatDoorTopFarRa1
import Derived.Test.YtoidpggbbfncpaaGreatDoorTopFarRb1
import Derived.Test.YtoidpggbbfncpaaGreatDoorTopFarRc1
import Derived.Test.YtoidpggbbfncpaaGreatDoorTopFarWalks
set_option linter.unusedSimpArgs false
set_option linter.unusedVariables false
set_option maxRecDepth 100000
set_option maxHeartbeats 1000000
namespace Go.Proofs.YtoidpggbbfncpaaGreatDoor
open Go Go.Ing Go.RowKit Go.ChangeShapes Go.WideShapes Go.ChangeAt
theorem LR (b:Nat)(T:AE)(g:Hd)(u:Ap)(f:Hd)(l:List Int)(hg:g.len=T.out.length)(hb:0≤T.b∧T.b < 6)(hf:f.len=l.length)(hl:l.length≤9)(hi:∀ i∈l,0≤i∧i < 9)(hw:T.w.DL)(hu:u.length≤1000)(hn:T.out.length≤100000):JQ Tryz.prog 101 #[.pointer (some ⟨b,0,none⟩),BU u,f.val] [Ab.box b 163 (Ad.enc ⟨T.w,T.b,g⟩),Ab.own g 56 16 (T.out.flatMap Ing.Event.enc),Ab.own f 3 1 (l.flatMap Aq)] (fun v B=>∃ g':Hd,v = .tuple #[]∧g'.len=(T.list u l).out.length∧B = [Ab.box b 163 (Ad.enc ⟨(T.list u l).w,(T.list u l).b,g'⟩),Ab.own g' 56 16 ((T.list u l).out.flatMap Ing.Event.enc),Ab.own f 3 1 (l.flatMap Aq)]):=by
 intro w hS0
 refine Ak _ _ Tryz.func101 rfl rfl rfl (hS0) ?_
 refine CG (Gm rfl (Gt (Ar rfl Tryz.underlying169 rfl) (Gm rfl (AQ (AA (Ae ?_))))))
 refine Bn (.t6 1 10 0 2 8 9) ?_
 refine Gg (fun(k:Int) (x:Ap)=>0≤k∧k≤(l.length:Int)∧AE.H0 T.w u l=AE.H0 T.w x (l.drop k.toNat)∧x.length≤1000+k.toNat * 140737488351300) (fun(k:Int) (x:Ap)=>((l.length:Int) - k).toNat) (fun(k:Int) (x:Ap)=> [(1,BU x),(10, .int .i64 k)]) (fun(k:Int) (x:Ap)=> []) (0) (u) ?_ rfl rfl (fun k x hI1=>?_)
 · exact⟨by omega,by omega,by simp,by simp;omega⟩
 obtain⟨hI11,hI12,hI13,hI14⟩:=hI1
 refine Gs (Gt (A7 rfl rfl) (AQ (AA (Ao ?_))))
 refine Gc (fun c1=>?_) (fun c1=>?_)
 ·
  have c1p:=kz c1
  have hx:=hi _ (Bi.E0 (xs:=l) (i:=k.toNat) (by omega))
  have hnl:=hw.th (l.getD k.toNat 0)
  refine Aa ?_
  refine AB (.t6 0 1 2 8 9 10) ?_
  refine AA (Ao (Ae (Gs ?_)))
  refine Gt (Bp Gd (by decide) (Kn.own .m2) rfl rfl (by omega) (by omega)) ?_
  refine Gt (DI rfl A2 (Kn.own .m2) (by omega)) ?_
  refine Ga rfl (Gn (.t7 0 1 2 7 8 9 10) (Gs (Gm rfl (Gm rfl (Gm rfl (Gt (BV rfl) (Gt (Ai A9 rfl) ?_)))))))
  refine Gt (Ai Cz rfl) ?_
  refine Gt (AR F7 rfl rfl (by(try dsimp only at *);(try simp only [List.length_append,List.length_cons,List.length_nil]);omega) (by(try dsimp only at *);(try simp only [List.length_append,List.length_cons,List.length_nil]);omega)) ?_
  refine Gt (Ai Ml rfl) ?_
  refine Gt (AG rfl CX .m0 (((Ad.l0.comp AH.l1).comp (AU.arr (n:=9) Al.fl (by(try dsimp only at *);(try simp only [List.length_append,List.length_cons,List.length_nil]);omega) (by(try dsimp only at *);(try simp only [List.length_append,List.length_cons,List.length_nil]);omega))).comp Al.l0) rfl rfl) ?_
  refine Gt (CV rfl rfl (by(try dsimp only at *);(try simp only [List.length_append,List.length_cons,List.length_nil]);omega)) ?_
  refine Gt (CV rfl rfl (by(try dsimp only at *);(try simp only [List.length_append,List.length_cons,List.length_nil]);omega)) ?_
  refine Ga rfl (Gn (.t7 0 1 2 7 8 9 10) (Gs (Gm rfl (Gm rfl (Gt (BV rfl) (Gt (Ai A9 rfl) (Gt (Ai Cz rfl) ?_)))))))
  refine Gt (AR F7 rfl rfl (by(try dsimp only at *);(try simp only [List.length_append,List.length_cons,List.length_nil]);omega) (by(try dsimp only at *);(try simp only [List.length_append,List.length_cons,List.length_nil]);omega)) ?_
  refine Gt (Ai GF rfl) ?_
  refine Gt (AG rfl Dn .m0 (((Ad.l0.comp AH.l1).comp (AU.arr (n:=9) Al.fl (by(try dsimp only at *);(try simp only [List.length_append,List.length_cons,List.length_nil]);omega) (by(try dsimp only at *);(try simp only [List.length_append,List.length_cons,List.length_nil]);omega))).comp Al.l4) rfl rfl) ?_
  refine Gn (.t7 0 1 2 8 9 10 32) ?_
  refine Gc (fun c2=>?_) (fun c2=>?_)
  ·
   have c2p:=kz c2
   refine AJ (Gm rfl ?_)
   refine Gt (CV rfl rfl (by(try dsimp only at *);(try simp only [List.length_append,List.length_cons,List.length_nil]);omega)) ?_
   refine Ga rfl ?_
   refine AQ (AB (.t6 0 1 2 8 9 10) ?_)
   refine AV (AA (AJ ?_))
   refine Gt (Av rfl rfl (IntWalk.i64_in _ (by(try dsimp only at *);(try simp only [List.length_append,List.length_cons,List.length_nil]);omega))) ?_
   refine Gm rfl ?_
   refine AQ (AB (.t6 0 1 2 8 9 10) ?_)
   refine DO (k+1) _ ?_ ?_ (.t6 1 10 0 2 8 9) (.refl _)
   · exact⟨by omega,by omega,by rw [hI13,AE.Y9 hI11 (by omega) c2],by simp only [List.length_append,List.length_cons,List.length_nil];omega⟩
   · omega
  have c2p:=kz c2
  refine Aa ?_
  refine AB (.t6 0 1 2 8 9 10) ?_
  refine AV (AA (AJ ?_))
  refine Gt (Av rfl rfl (IntWalk.i64_in _ (by(try dsimp only at *);(try simp only [List.length_append,List.length_cons,List.length_nil]);omega))) ?_
  refine Gm rfl ?_
  refine AQ (AB (.t6 0 1 2 8 9 10) ?_)
  refine DO (k+1) _ ?_ ?_ (.t6 1 10 0 2 8 9) (.refl _)
  · exact⟨by omega,by omega,by rw [hI13,AE.Yc hI11 (by omega) c2],by simp only [List.length_append,List.length_cons,List.length_nil];omega⟩
  · omega
 have c1p:=kz c1
 obtain rfl:k=(l.length:Int):=by omega
 rw [show(l.length:Int).toNat=l.length by omega,List.drop_length] at hI13
 refine Bb (AW (AW (Ag ?_)))
 refine AB (.t3 0 1 2) ?_
 refine AA (CG (Gm rfl (Gt (Ar rfl Tryz.underlying169 rfl) (Gt (Af rfl rfl) (Gn (.t3 0 1 38) ?_)))))
 refine Gc (fun c3=>?_) (fun c3=>?_)
 ·
  have c3p:=kz c3
  rw [hf] at c3
  refine AJ (Gm rfl ?_)
  refine Gt (CV rfl rfl (by(try dsimp only at *);(try simp only [List.length_append,List.length_cons,List.length_nil]);omega)) ?_
  refine Ga rfl (Gn (.t2 0 1) (AJ (Gm rfl (Gm rfl ?_))))
  refine Gt (CV rfl rfl (by(try dsimp only at *);(try simp only [List.length_append,List.length_cons,List.length_nil]);omega)) ?_
  refine Ah rfl ED (.c rfl (.c rfl .n)) (.c .h (.c .h .n)) (Be _ _ _ _ hg hb hn) (fun v1 B hv=>?_)
  obtain⟨y2,rfl,y3,rfl⟩:=hv
  refine AQ ?_
  refine Bk rfl .n ?_
  intro w1 hS
  have hS:=(hS.perm (Ax.perm (.c .h (.c .h (.c .h .n))))).A1
  refine⟨_,⟨?gqTrue,rfl,?hlTrue,?hBTrue⟩,hS⟩
  case hBTrue=>rw [AE.list,show AE.Sd T.w u l=_ from BB c3,hI13];rfl
  case hlTrue=>(try simp only [AE.CI] at *);rw [(AE.HY T u l).2.2];assumption
 have c3p:=kz c3
 rw [hf] at c3
 refine Aa ?_
 refine AB (.t2 0 1) ?_
 refine AA (AJ (Gm rfl (Gm rfl ?_)))
 refine Gt (CV rfl rfl (by(try dsimp only at *);(try simp only [List.length_append,List.length_cons,List.length_nil]);omega)) ?_
 refine Ah rfl ED (.c rfl (.c rfl .n)) (.c .h (.c .h .n)) (Be _ _ _ _ hg hb hn) (fun v4 B hv=>?_)
 obtain⟨y5,rfl,y6,rfl⟩:=hv
 refine AQ ?_
 refine Bk rfl .n ?_
 intro w1 hS
 have hS:=(hS.perm (Ax.perm (.c .h (.c .h (.c .h .n))))).A1
 refine⟨_,⟨?gqFalse,rfl,?hlFalse,?hBFalse⟩,hS⟩
 case hBFalse=>rw [AE.list,show AE.Sd T.w u l=_ from AX c3,hI13];rfl
 case hlFalse=>(try simp only [AE.CI] at *);rw [(AE.HY T u l).2.2];assumption
theorem HK (b:Nat)(T:AE)(g:Hd)(hg:g.len=T.out.length)(hb:0≤T.b∧T.b < 6)(hw:T.w.DL)(hn:T.out.length≤90000):FU Tryz.prog 100 #[.pointer (some ⟨b,0,none⟩)] [Ab.box b 163 (Ad.enc ⟨T.w,T.b,g⟩),Ab.own g 56 16 (T.out.flatMap Ing.Event.enc)] (fun w=>(GV 0 AH.DJ w∧0 ∉ Cg [Ab.box b 163 (Ad.enc ⟨T.w,T.b,g⟩),Ab.own g 56 16 (T.out.flatMap Ing.Event.enc)])) (fun v B=>∃ g':Hd,v = .tuple #[]∧g'.len=(T.look).out.length∧B = [Ab.box b 163 (Ad.enc ⟨(T.look).w,(T.look).b,g'⟩),Ab.own g' 56 16 ((T.look).out.flatMap Ing.Event.enc)]):=by
 intro w hS0 hH
 obtain⟨gl0,gm0⟩:=hH
 refine Ak _ _ Tryz.func100 rfl rfl rfl (hS0) ?_
 refine Ao ?_
 refine BE (N:=12) [0,0,2,6,14,1,33,97,255,511,0,2047] mix (by kernel_rfl) rfl ?_
 refine Pf 0 rfl (AF rfl) (Pf 1 rfl (AF rfl) (Pf 2 rfl (BV rfl) (Pf 3 rfl (Ai CO rfl) (Pf 4 rfl (AG rfl A2 .m0 Ad.l1 rfl rfl) (Pf 5 rfl (BV rfl) (Pf 6 rfl (Ai A9 rfl) (Pf 7 rfl (Ai Bo rfl) ?_)))))))
 refine Pf 8 rfl (AR C8 rfl rfl (by(try dsimp only at *);(try simp only [List.length_append,List.length_cons,List.length_nil]);omega) (by(try dsimp only at *);(try simp only [List.length_append,List.length_cons,List.length_nil]);omega)) ?_
 refine Pf 9 rfl (AZ rfl Fi .m0 ((Ad.l0.comp AH.l2).comp (AU.arr (n:=6) Aj.fl (by(try dsimp only at *);(try simp only [List.length_append,List.length_cons,List.length_nil]);omega) (by(try dsimp only at *);(try simp only [List.length_append,List.length_cons,List.length_nil]);omega))) rfl) ?_
 refine An 10 rfl (by kernel_rfl) ?_
 refine BD rfl Lu rfl (fun b1=>?_)
 refine Bq rfl ⟨?_,?_⟩
 · exact(Po rfl (AZ rfl Fi .m1 ((Ad.l0.comp AH.l2).comp (AU.arr (n:=6) Aj.fl (by(try dsimp only at *);(try simp only [List.length_append,List.length_cons,List.length_nil]);omega) (by(try dsimp only at *);(try simp only [List.length_append,List.length_cons,List.length_nil]);omega))) rfl) rfl rfl (Po rfl (AR C8 rfl rfl (by(try dsimp only at *);(try simp only [List.length_append,List.length_cons,List.length_nil]);omega) (by(try dsimp only at *);(try simp only [List.length_append,List.length_cons,List.length_nil]);omega)) rfl rfl (Po rfl (Ai Bo rfl) rfl rfl (Po rfl (Ai A9 rfl) rfl rfl (Po rfl (BV rfl) rfl rfl (Po rfl (AG rfl A2 .m1 Ad.l1 rfl rfl) rfl rfl (Po rfl (Ai CO rfl) rfl rfl (Po rfl (BV rfl) rfl rfl (Po rfl (AF rfl) rfl rfl (Po rfl (AF rfl) rfl rfl As))))))))))
 refine An 11 rfl (by kernel_rfl) ?_
 refine AT (AK (AU.id Aj.fl.len Aj.fl.one) rfl rfl rfl KX rfl .h) ?_
 refine BN rfl ⟨?_,?_⟩
 · exact(Pk (Pk (Pk (Pk (Pk (Pk (Pk (Pk (Pk (Pk As))))))))))
 refine A4 (by kernel_rfl) ?_
 refine AB (.t2 0 2) ?_
 refine AA (Ao (Ao ?_))
 refine BE (N:=8) [0,1,3,7,0,16,63,127] mix (by kernel_rfl) rfl ?_
 refine Pf 0 rfl (AF rfl) (Pf 1 rfl (BV rfl) (Pf 2 rfl (Ai A9 rfl) (Pf 3 rfl (AZ rfl BW .m1 Ad.l0 rfl) (Pf 4 rfl (Ai C2 rfl) (Pf 5 rfl (AG rfl A2 .m0 Aj.l3 rfl rfl) ?_)))))
 refine BX 6 rfl rfl (by kernel_rfl) (MD (LJ (D9 Uq (.c rfl (.c rfl .n)) (fun w hS=>Ea _ _ w)))) ?_
 refine Pf 7 rfl (BT rfl) ?_
 refine A4 (by kernel_rfl) ?_
 refine AB (.t3 0 2 26) ?_
 refine AA ?_
 refine Gc (fun c1=>?_) (fun c1=>?_)
 ·
  have c1p:=kz c1
  refine Gs (Gm rfl ?_)
  refine Ah rfl ED (.c rfl (.c rfl .n)) (.c (.t .h) (.c (.t .h) .n)) (Be _ _ _ _ (by assumption) (by first | exact hb | (rw [hXb];exact hb)) (by(try simp only [AE.CI,AE.Cf,(AE.HY _ _ _).2.2] at *);(try dsimp only at *);omega)) (fun v1 B hv=>?_)
  obtain⟨y2,rfl,y3,rfl⟩:=hv
  refine Gn (.nil _) (Ac (AD ?_))
  refine AY rfl .n ?_
  intro w1 hS
  have hS:=(hS.perm (Ax.perm (.c .h (.c .h .n)))).A1
  refine⟨_,⟨?gq1,rfl,?hl1,?hB1⟩,hS⟩
  case hB1=>rw [show T.look=_ from BB c1];rfl
  case hl1=>rw [show T.look=_ from BB c1];assumption
 have c1p:=kz c1
 have hr:=AH.TL c1
 have hnr:=hw.ro (T.w.AL.at T.b).room
 refine Aa ?_
 refine AB (.t2 0 2) ?_
 refine AA (Ao ?_)
 refine BE (N:=10) [0,0,2,1,9,25,63,127,0,511] mix (by kernel_rfl) rfl ?_
 refine Pf 0 rfl (AF rfl) (Pf 1 rfl (Ai C2 rfl) (Pf 2 rfl (AG rfl A2 .m0 Aj.l3 rfl rfl) (Pf 3 rfl (BV rfl) (Pf 4 rfl (Ai A9 rfl) (Pf 5 rfl (Ai Gz rfl) ?_)))))
 refine Pf 6 rfl (AR Oj rfl rfl (by(try dsimp only at *);(try simp only [List.length_append,List.length_cons,List.length_nil]);omega) (by(try dsimp only at *);(try simp only [List.length_append,List.length_cons,List.length_nil]);omega)) ?_
 refine Pf 7 rfl (AZ rfl O7 .m1 ((Ad.l0.comp AH.l0).comp (AU.arr (n:=6) Room.fl (by(try dsimp only at *);(try simp only [List.length_append,List.length_cons,List.length_nil]);omega) (by(try dsimp only at *);(try simp only [List.length_append,List.length_cons,List.length_nil]);omega))) rfl) ?_
 refine An 8 rfl (by kernel_rfl) ?_
 refine BD rfl Nt rfl (fun b2=>?_)
 refine Bq rfl ⟨?_,?_⟩
 · exact(Po rfl (AZ rfl O7 .m2 ((Ad.l0.comp AH.l0).comp (AU.arr (n:=6) Room.fl (by(try dsimp only at *);(try simp only [List.length_append,List.length_cons,List.length_nil]);omega) (by(try dsimp only at *);(try simp only [List.length_append,List.length_cons,List.length_nil]);omega))) rfl) rfl rfl (Po rfl (AR Oj rfl rfl (by(try dsimp only at *);(try simp only [List.length_append,List.length_cons,List.length_nil]);omega) (by(try dsimp only at *);(try simp only [List.length_append,List.length_cons,List.length_nil]);omega)) rfl rfl (Po rfl (Ai Gz rfl) rfl rfl (Po rfl (Ai A9 rfl) rfl rfl (Po rfl (BV rfl) rfl rfl (Po rfl (AG rfl A2 .m1 Aj.l3 rfl rfl) rfl rfl (Po rfl (Ai C2 rfl) rfl rfl (Po rfl (AF rfl) rfl rfl As))))))))
 refine An 9 rfl (by kernel_rfl) ?_
 refine AT (AK (AU.id Room.fl.len Room.fl.one) rfl rfl rfl RS rfl .h) ?_
 refine BN rfl ⟨?_,?_⟩
 · exact(Pk (Pk (Pk (Pk (Pk (Pk (Pk (Pk As))))))))
 refine A4 (by kernel_rfl) ?_
 refine AB (.t3 0 2 3) ?_
 refine AA (Gs (Gm rfl (Gt (Ai Zy rfl) (Gt (AG rfl CX .m0 Room.l0 rfl rfl) ?_))))
 refine Gt (CV rfl rfl (by(try dsimp only at *);(try simp only [List.length_append,List.length_cons,List.length_nil]);omega)) ?_
 refine Gt (CV rfl rfl (by(try dsimp only at *);(try simp only [List.length_append,List.length_cons,List.length_nil]);omega)) ?_
 refine Ah rfl ED (.c rfl (.c rfl .n)) (.c (.t (.t .h)) (.c (.t (.t .h)) .n)) (Be _ _ _ _ (by assumption) (by first | exact hb | (rw [hXb];exact hb)) (by(try simp only [AE.CI,AE.Cf,(AE.HY _ _ _).2.2] at *);(try dsimp only at *);omega)) (fun v4 B hv=>?_)
 obtain⟨y5,rfl,y6,rfl⟩:=hv
 refine Gn (.t3 0 2 3) (Gs (Ga rfl (AQ (AA (CG (Gt (Ai Mb rfl) (Gt (AZ rfl Za .m2 Room.l2 rfl) ?_)))))))
 refine Gm rfl (Gn (.t6 0 2 3 4 44 45) (Ae ?_))
 refine Bn (.t6 4 45 0 2 3 44) ?_
 refine Gg (fun(k:Int) (x:Ap)=>0≤k∧k≤6∧x=AE.Ij (T.w.BQ.at T.me.room) k.toNat) (fun(k:Int) (x:Ap)=>(6 - k).toNat) (fun(k:Int) (x:Ap)=> [(4,BU x),(45, .int .i64 k)]) (fun(k:Int) (x:Ap)=> []) (0) (_) ?_ rfl rfl (fun k x hI1=>?_)
 · exact⟨by omega,by omega,rfl⟩
 obtain⟨hI11,hI12,hI13⟩:=hI1
 refine Gs (Gt (A7 rfl rfl) (AQ (AA (Ao ?_))))
 refine Gc (fun c2=>?_) (fun c2=>?_)
 ·
  have c2p:=kz c2
  have hcl:=AH.JD k
  have hwl:=AE.MN (T.w.BQ.at T.me.room) k.toNat
  rw [← hI13] at hwl
  have hst:=AE.TA (r:=T.w.BQ.at T.me.room) hI11
  refine Aa ?_
  refine AB (.t6 0 2 3 4 44 45) ?_
  refine AA (Ao (Ae (Gs (Gm rfl ?_))))
  refine Gt (KK Bu Tryz.underlying23 C6 A2 rfl rfl (by(try dsimp only at *);(try simp only [List.length_append,List.length_cons,List.length_nil]);omega) (by(try dsimp only at *);(try simp only [List.length_append,List.length_cons,List.length_nil]);omega) rfl) ?_
  refine Ga rfl (Ga rfl (Gn (.t8 0 2 3 4 5 6 44 45) (CG (Gm rfl (Gt (Af rfl rfl) (Gn (.t8 0 2 3 4 5 44 45 50) ?_))))))
  refine Gc (fun c3=>?_) (fun c3=>?_)
  ·
   have c3p:=kz c3
   have cp3:decide ((T.w.BQ.at T.me.room).CM.at k=0)=true:=c3
   rw [BB cp3] at hst
   refine Bb (AW (Ag ?_))
   refine AB (.t6 0 2 3 4 44 45) ?_
   refine AA (AJ ?_)
   refine Gt (Av rfl rfl (IntWalk.i64_in _ (by(try dsimp only at *);(try simp only [List.length_append,List.length_cons,List.length_nil]);omega))) ?_
   refine Gm rfl ?_
   refine AQ (AB (.t6 0 2 3 4 44 45) ?_)
   refine DO (k+1) _ ?_ ?_ (.t6 4 45 0 2 3 44) (.refl _)
   · exact⟨by omega,by omega,by rw [hst,← hI13]⟩
   · omega
  have c3p:=kz c3
  have cp3:decide ((T.w.BQ.at T.me.room).CM.at k=0)=false:=c3
  rw [AX cp3] at hst
  refine Aa ?_
  refine AB (.t7 0 2 3 4 5 44 45) ?_
  refine AA (Gs (Gm rfl (Gm rfl ?_)))
  refine BA rfl cD (.c rfl .n) (fun w hS=>H6 _ w (gl0.stM gm0 hS)) ?_
  refine Gt (CV rfl rfl (by(try dsimp only at *);(try simp only [List.length_append,List.length_cons,List.length_nil]);omega)) ?_
  refine Gt (CV rfl rfl (by(try dsimp only at *);(try simp only [List.length_append,List.length_cons,List.length_nil]);omega)) ?_
  refine Ga rfl (Gn (.t7 0 2 3 4 5 44 45) (Gs (Gm rfl (Gt (Ai MT rfl) ?_))))
  refine Gt (AR VU rfl rfl (by(try dsimp only at *);(try simp only [List.length_append,List.length_cons,List.length_nil]);omega) (by(try dsimp only at *);(try simp only [List.length_append,List.length_cons,List.length_nil]);omega)) ?_
  refine Gt (AG rfl Dn .m2 (Room.l3.comp (AU.arr (n:=6) HN (by(try dsimp only at *);(try simp only [List.length_append,List.length_cons,List.length_nil]);omega) (by(try dsimp only at *);(try simp only [List.length_append,List.length_cons,List.length_nil]);omega))) rfl rfl) ?_
  refine Gn (.t7 0 2 3 4 44 45 59) ?_
  refine Gc (fun c4=>?_) (fun c4=>?_)
  ·
   have c4p:=kz c4
   have cp4:(T.w.BQ.at T.me.room).shut.at k=true:=c4
   rw [BB cp4] at hst
   refine AJ (Gm rfl ?_)
   refine Gt (CV rfl rfl (by(try dsimp only at *);(try simp only [List.length_append,List.length_cons,List.length_nil]);omega)) ?_
   refine Ga rfl ?_
   refine AQ (AB (.t6 0 2 3 4 44 45) ?_)
   refine AV (AA (AJ ?_))
   refine Gt (Av rfl rfl (IntWalk.i64_in _ (by(try dsimp only at *);(try simp only [List.length_append,List.length_cons,List.length_nil]);omega))) ?_
   refine Gm rfl ?_
   refine AQ (AB (.t6 0 2 3 4 44 45) ?_)
   refine DO (k+1) _ ?_ ?_ (.t6 4 45 0 2 3 44) (.refl _)
   · exact⟨by omega,by omega,by rw [hst,← hI13]⟩
   · omega
  have c4p:=kz c4
  have cp4:(T.w.BQ.at T.me.room).shut.at k=false:=c4
  rw [AX cp4] at hst
  refine Aa ?_
  refine AB (.t6 0 2 3 4 44 45) ?_
  refine AV (AA (AJ ?_))
  refine Gt (Av rfl rfl (IntWalk.i64_in _ (by(try dsimp only at *);(try simp only [List.length_append,List.length_cons,List.length_nil]);omega))) ?_
  refine Gm rfl ?_
  refine AQ (AB (.t6 0 2 3 4 44 45) ?_)
  refine DO (k+1) _ ?_ ?_ (.t6 4 45 0 2 3 44) (.refl _)
  · exact⟨by omega,by omega,by rw [hst,← hI13]⟩
  · omega
 have c2p:=kz c2
 obtain rfl:k=6:=by omega
 subst hI13
 refine Bb (AW (AW (Ag ?_)))
 refine AB (.t3 0 2 4) ?_
 refine AA (Gs (Gm rfl (Gm rfl ?_)))
 refine Ah rfl ED (.c rfl (.c rfl .n)) (.c .h (.c .h .n)) (Be _ _ _ _ (by assumption) (by first | exact hb | (rw [hXb];exact hb)) (by(try simp only [AE.CI,AE.Cf,(AE.HY _ _ _).2.2] at *);(try dsimp only at *);omega)) (fun v7 B hv=>?_)
 obtain⟨y8,rfl,y9,rfl⟩:=hv
 refine Gn (.t2 0 2) (Ao (Ao ?_))
 refine BE (N:=8) [0,1,3,7,0,16,63,127] mix (by kernel_rfl) rfl ?_
 refine Pf 0 rfl (AF rfl) (Pf 1 rfl (BV rfl) (Pf 2 rfl (Ai A9 rfl) (Pf 3 rfl (AZ rfl BW .m0 Ad.l0 rfl) (Pf 4 rfl (Ai C2 rfl) (Pf 5 rfl (AG rfl A2 .m3 Aj.l3 rfl rfl) ?_)))))
 refine An 6 rfl (by kernel_rfl) ?_
 refine Ah rfl SV (.c rfl (.c rfl (.c rfl .n))) .n (FF _ _ _) (fun v10 B hv=>?_)
 obtain⟨y11,rfl,y12,rfl⟩:=hv
 refine Bq rfl ⟨?_,?_⟩
 · exact(Pk (Pk (Pk (Pk (Pk (Pk As))))))
 refine Pf 7 rfl (A0 rfl) ?_
 refine A4 (by kernel_rfl) ?_
 refine AB (.t2 0 7) ?_
 refine AA (Gs (Gm rfl (Gt (Ar rfl Tryz.underlying169 rfl) (Gt (Cn rfl rfl) (Gn (.t3 0 7 75) ?_)))))
 refine Gc (fun c5=>?_) (fun c5=>?_)
 ·
  have c5p:=kz c5
  rw [y12] at c5
  refine AJ (Gm rfl (Gm rfl ?_))
  refine Ah rfl ZQ (.c rfl (.c rfl (.c rfl .n))) (.c (.t .h) (.c (.t .h) (.c .h .n))) (LR _ T.J6 _ [72,101,114,101,32,105,115] _ (T.w.has 0 T.me.room) (by assumption) hb (by assumption) (AH.II _ _ _) (fun i hi=>AH.Fx hi) hw (by decide) (by rw [(AE.Uc T).2.2];omega)) (fun v14 B hv=>?_)
  obtain⟨y15,rfl,y16,rfl⟩:=hv
  refine Gn (.t1 0) (Gs (Gm rfl (AQ (AA (Ae ?_)))))
  refine Bn (.t2 79 0) ?_
  refine Ba (.t .h) ?_
  refine Ba (.t .h) ?_
  refine Dl (fun(k:Int) (X:AE) (h:Hd)=>0≤k∧k≤6∧X=T.D8.Fb k.toNat∧h.len=X.out.length) (fun(k:Int) (X:AE) (h:Hd)=>(6 - k).toNat) (fun(k:Int) (X:AE) (h:Hd)=> [(79, .int .i64 k)]) (fun(k:Int) (X:AE) (h:Hd)=> [Ab.box b 163 (Ad.enc ⟨X.w,X.b,h⟩),Ab.own h 56 16 (X.out.flatMap Ing.Event.enc)]) (0) (_) (_) ?_ rfl rfl (fun k X h hI2=>?_)
  · exact⟨by omega,by omega,(show T.D8=_ from BB c5).symm,by assumption⟩
  obtain⟨hI21,hI22,hI23,hI24⟩:=hI2
  refine Gs (Gt (A7 rfl rfl) (AQ (AA (Ao ?_))))
  refine Gc (fun c6=>?_) (fun c6=>?_)
  ·
   have c6p:=kz c6
   have hnb:=hw.be k
   have hXl:=AE.KP T.D8 k.toNat
   have hBl:=AE.Q8 T
   rw [← hI23] at hXl
   have hXw:X.w=T.w:=hXl.1.trans hBl.1
   have hXb:X.b=T.b:=hXl.2.1.trans hBl.2.1
   rw [← hXw] at hnb
   refine Aa ?_
   refine AB (.t2 0 79) ?_
   refine AA (Ao (Ae (Gs (Gm rfl (Ga rfl (Gn (.t3 0 8 79) (Ao ?_)))))))
   refine BE (N:=18) [0,0,2,6,14,31,63,127,255,511,1023,127,2175,6271,14463,127,65535,131071] mix (by kernel_rfl) rfl ?_
   refine Pf 0 rfl (AF rfl) (Pf 1 rfl (AF rfl) (Pf 2 rfl (BV rfl) (Pf 3 rfl (Ai CO rfl) (Pf 4 rfl (AG rfl A2 .m0 Ad.l1 rfl rfl) (Pf 5 rfl (Cb rfl rfl) (Pf 6 rfl (AF rfl) (Mk 7 88 rfl rfl rfl (fun q=>AF rfl) ?_)))))))
   refine Mk 8 88 rfl rfl rfl (fun q=>BV (Bc rfl q)) (Mk 9 88 rfl rfl rfl (fun q=>Ai A9 (Bc rfl q)) (Mk 10 88 rfl rfl rfl (fun q=>AZ (Bc rfl q) BW .m0 Ad.l0 rfl) (Mk 11 88 rfl rfl rfl (fun q=>AF rfl) (Mk 12 88 rfl rfl rfl (fun q=>BV (Bc rfl q)) (Mk 13 88 rfl rfl rfl (fun q=>Ai CO (Bc rfl q)) (Mk 14 88 rfl rfl rfl (fun q=>AG (Bc rfl q) A2 .m0 Ad.l1 rfl rfl) (Mk 15 88 rfl rfl rfl (fun q=>AF rfl) ?_)))))))
   refine BX 16 rfl rfl (by kernel_rfl) (Rp (t:=88) rfl rfl (fun q=>LJ (D9 Ot (.c (Bc rfl q) (.c (Bc rfl q) (.c (Bc rfl q) .n))) (fun w hS=>DQ _ _ _ w)))) ?_
   refine Pf 17 rfl (BG rfl rfl (fun h=>h)) ?_
   refine A4 (by kernel_rfl) ?_
   refine AB (.t4 0 8 79 99) ?_
   refine AA ?_
   refine Gc (fun c7=>?_) (fun c7=>?_)
   ·
    have c7p:=kz c7
    have cp7:(!decide (k=T.D8.b) && T.D8.w.Hs T.D8.b k)=true:=by rw [hBl.1,hBl.2.1,← hXw,← hXb];exact c7
    refine AJ (Gm rfl (Gm rfl (Gm rfl (Gt (BV rfl) (Gt (Ai A9 rfl) (Gt (Ai Bo rfl) ?_))))))
    refine Gt (AR C8 rfl rfl (by(try dsimp only at *);(try simp only [List.length_append,List.length_cons,List.length_nil]);omega) (by(try dsimp only at *);(try simp only [List.length_append,List.length_cons,List.length_nil]);omega)) ?_
    refine Gt (Ai K3 rfl) ?_
    refine Gt (AG rfl CX .m0 (((Ad.l0.comp AH.l2).comp (AU.arr (n:=6) Aj.fl (by(try dsimp only at *);(try simp only [List.length_append,List.length_cons,List.length_nil]);omega) (by(try dsimp only at *);(try simp only [List.length_append,List.length_cons,List.length_nil]);omega))).comp Aj.l0) rfl rfl) ?_
    refine Gt (CV rfl rfl (by(try dsimp only at *);(try simp only [List.length_append,List.length_cons,List.length_nil]);omega)) ?_
    refine Ah rfl ED (.c rfl (.c rfl .n)) (.c .h (.c .h .n)) (Be _ _ _ _ (by assumption) (by first | exact hb | (rw [hXb];exact hb)) (by(try simp only [AE.CI,AE.Cf,(AE.HY _ _ _).2.2] at *);(try dsimp only at *);omega)) (fun v17 B hv=>?_)
    obtain⟨y18,rfl,y19,rfl⟩:=hv
    refine AQ (AB (.t2 0 79) ?_)
    refine AV (AA (AJ ?_))
    refine Gt (Av rfl rfl (IntWalk.i64_in _ (by(try dsimp only at *);(try simp only [List.length_append,List.length_cons,List.length_nil]);omega))) ?_
    refine Gm rfl ?_
    refine AQ (AB (.t2 0 79) ?_)
    refine Bt (k+1) _ _ ?_ ?_ (.t2 79 0) (.refl _)
    · exact⟨by omega,by omega,by rw [AE.I6 hI21,BB cp7,← hI23,hBl.1,← hXw],by assumption⟩
    · omega
   have c7p:=kz c7
   have cp7:(!decide (k=T.D8.b) && T.D8.w.Hs T.D8.b k)=false:=by rw [hBl.1,hBl.2.1,← hXw,← hXb];exact c7
   refine Aa ?_
   refine AB (.t2 0 79) ?_
   refine AV (AA (AJ ?_))
   refine Gt (Av rfl rfl (IntWalk.i64_in _ (by(try dsimp only at *);(try simp only [List.length_append,List.length_cons,List.length_nil]);omega))) ?_
   refine Gm rfl ?_
   refine AQ (AB (.t2 0 79) ?_)
   refine Bt (k+1) _ _ ?_ ?_ (.t2 79 0) (.refl _)
   · exact⟨by omega,by omega,by rw [AE.I6 hI21,AX cp7,← hI23],by assumption⟩
   · omega
  have c6p:=kz c6
  obtain rfl:k=6:=by omega
  refine Bb (AW (AW (Ag ?_)))
  refine Bk rfl .n ?_
  intro w1 hS
  have hS:=(hS.perm (Ax.perm (.c .h (.c .h .n)))).A1
  have hq:T.look=X:=(show T.look=_ from AX c1).trans hI23.symm
  refine⟨_,⟨?gqc6,rfl,?hlc6,?hBc6⟩,hS⟩
  case hBc6=>rw [hq]
  case hlc6=>rw [hq];assumption
 have c5p:=kz c5
 rw [y12] at c5
 refine Aa ?_
 refine AB (.t1 0) ?_
 refine AA (Gs (Gm rfl (AQ (AA (Ae ?_)))))
 refine Bn (.t2 79 0) ?_
 refine Ba (.t (.t .h)) ?_
 refine Ba (.t (.t .h)) ?_
 refine Dl (fun(k:Int) (X:AE) (h:Hd)=>0≤k∧k≤6∧X=T.D8.Fb k.toNat∧h.len=X.out.length) (fun(k:Int) (X:AE) (h:Hd)=>(6 - k).toNat) (fun(k:Int) (X:AE) (h:Hd)=> [(79, .int .i64 k)]) (fun(k:Int) (X:AE) (h:Hd)=> [Ab.box b 163 (Ad.enc ⟨X.w,X.b,h⟩),Ab.own h 56 16 (X.out.flatMap Ing.Event.enc)]) (0) (_) (_) ?_ rfl rfl (fun k X h hI2=>?_)
 · exact⟨by omega,by omega,(show T.D8=_ from AX c5).symm,by assumption⟩
 obtain⟨hI21,hI22,hI23,hI24⟩:=hI2
 refine Gs (Gt (A7 rfl rfl) (AQ (AA (Ao ?_))))
 refine Gc (fun c8=>?_) (fun c8=>?_)
 ·
  have c8p:=kz c8
  have hnb:=hw.be k
  have hXl:=AE.KP T.D8 k.toNat
  have hBl:=AE.Q8 T
  rw [← hI23] at hXl
  have hXw:X.w=T.w:=hXl.1.trans hBl.1
  have hXb:X.b=T.b:=hXl.2.1.trans hBl.2.1
  rw [← hXw] at hnb
  refine Aa ?_
  refine AB (.t2 0 79) ?_
  refine AA (Ao (Ae (Gs (Gm rfl (Ga rfl (Gn (.t3 0 8 79) (Ao ?_)))))))
  refine BE (N:=18) [0,0,2,6,14,31,63,127,255,511,1023,127,2175,6271,14463,127,65535,131071] mix (by kernel_rfl) rfl ?_
  refine Pf 0 rfl (AF rfl) (Pf 1 rfl (AF rfl) (Pf 2 rfl (BV rfl) (Pf 3 rfl (Ai CO rfl) (Pf 4 rfl (AG rfl A2 .m0 Ad.l1 rfl rfl) (Pf 5 rfl (Cb rfl rfl) (Pf 6 rfl (AF rfl) (Mk 7 88 rfl rfl rfl (fun q=>AF rfl) ?_)))))))
  refine Mk 8 88 rfl rfl rfl (fun q=>BV (Bc rfl q)) (Mk 9 88 rfl rfl rfl (fun q=>Ai A9 (Bc rfl q)) (Mk 10 88 rfl rfl rfl (fun q=>AZ (Bc rfl q) BW .m0 Ad.l0 rfl) (Mk 11 88 rfl rfl rfl (fun q=>AF rfl) (Mk 12 88 rfl rfl rfl (fun q=>BV (Bc rfl q)) (Mk 13 88 rfl rfl rfl (fun q=>Ai CO (Bc rfl q)) (Mk 14 88 rfl rfl rfl (fun q=>AG (Bc rfl q) A2 .m0 Ad.l1 rfl rfl) (Mk 15 88 rfl rfl rfl (fun q=>AF rfl) ?_)))))))
  refine BX 16 rfl rfl (by kernel_rfl) (Rp (t:=88) rfl rfl (fun q=>LJ (D9 Ot (.c (Bc rfl q) (.c (Bc rfl q) (.c (Bc rfl q) .n))) (fun w hS=>DQ _ _ _ w)))) ?_
  refine Pf 17 rfl (BG rfl rfl (fun h=>h)) ?_
  refine A4 (by kernel_rfl) ?_
  refine AB (.t4 0 8 79 99) ?_
  refine AA ?_
  refine Gc (fun c9=>?_) (fun c9=>?_)
  ·
   have c9p:=kz c9
   have cp7:(!decide (k=T.D8.b) && T.D8.w.Hs T.D8.b k)=true:=by rw [hBl.1,hBl.2.1,← hXw,← hXb];exact c9
   refine AJ (Gm rfl (Gm rfl (Gm rfl (Gt (BV rfl) (Gt (Ai A9 rfl) (Gt (Ai Bo rfl) ?_))))))
   refine Gt (AR C8 rfl rfl (by(try dsimp only at *);(try simp only [List.length_append,List.length_cons,List.length_nil]);omega) (by(try dsimp only at *);(try simp only [List.length_append,List.length_cons,List.length_nil]);omega)) ?_
   refine Gt (Ai K3 rfl) ?_
   refine Gt (AG rfl CX .m0 (((Ad.l0.comp AH.l2).comp (AU.arr (n:=6) Aj.fl (by(try dsimp only at *);(try simp only [List.length_append,List.length_cons,List.length_nil]);omega) (by(try dsimp only at *);(try simp only [List.length_append,List.length_cons,List.length_nil]);omega))).comp Aj.l0) rfl rfl) ?_
   refine Gt (CV rfl rfl (by(try dsimp only at *);(try simp only [List.length_append,List.length_cons,List.length_nil]);omega)) ?_
   refine Ah rfl ED (.c rfl (.c rfl .n)) (.c .h (.c .h .n)) (Be _ _ _ _ (by assumption) (by first | exact hb | (rw [hXb];exact hb)) (by(try simp only [AE.CI,AE.Cf,(AE.HY _ _ _).2.2] at *);(try dsimp only at *);omega)) (fun v20 B hv=>?_)
   obtain⟨y21,rfl,y22,rfl⟩:=hv
   refine AQ (AB (.t2 0 79) ?_)
   refine AV (AA (AJ ?_))
   refine Gt (Av rfl rfl (IntWalk.i64_in _ (by(try dsimp only at *);(try simp only [List.length_append,List.length_cons,List.length_nil]);omega))) ?_
   refine Gm rfl ?_
   refine AQ (AB (.t2 0 79) ?_)
   refine Bt (k+1) _ _ ?_ ?_ (.t2 79 0) (.refl _)
   · exact⟨by omega,by omega,by rw [AE.I6 hI21,BB cp7,← hI23,hBl.1,← hXw],by assumption⟩
   · omega
  have c9p:=kz c9
  have cp7:(!decide (k=T.D8.b) && T.D8.w.Hs T.D8.b k)=false:=by rw [hBl.1,hBl.2.1,← hXw,← hXb];exact c9
  refine Aa ?_
  refine AB (.t2 0 79) ?_
  refine AV (AA (AJ ?_))
  refine Gt (Av rfl rfl (IntWalk.i64_in _ (by(try dsimp only at *);(try simp only [List.length_append,List.length_cons,List.length_nil]);omega))) ?_
  refine Gm rfl ?_
  refine AQ (AB (.t2 0 79) ?_)
  refine Bt (k+1) _ _ ?_ ?_ (.t2 79 0) (.refl _)
  · exact⟨by omega,by omega,by rw [AE.I6 hI21,AX cp7,← hI23],by assumption⟩
  · omega
 have c8p:=kz c8
 obtain rfl:k=6:=by omega
 refine Bb (AW (AW (Ag ?_)))
 refine Bk rfl .n ?_
 intro w1 hS
 have hS:=(hS.perm (Ax.perm (.c .h (.c .h .n)))).A1
 have hq:T.look=X:=(show T.look=_ from AX c1).trans hI23.symm
 refine⟨_,⟨?gqc8,rfl,?hlc8,?hBc8⟩,hS⟩
 case hBc8=>rw [hq]
 case hlc8=>rw [hq];assumption
theorem MU (X:AH)(s:Ap)(hw:X.DL)(hs:s.length≤100000000):FU Tryz.prog 114 #[.agg X.enc.toArray,BU s] [] (fun w=>(GV 0 AH.DJ w∧0 ∉ Cg [])) (fun v B=>∃ h:Hd,v = .tuple #[.agg ((AE.BR X s).1.enc).toArray, .int .i64 (AE.BR X s).2.1,h.val, .int .i64 (AE.BR X s).2.2.2]∧h.len=(AE.BR X s).2.2.1.length∧B = [Ab.own h 56 16 ((AE.BR X s).2.2.1.flatMap Ing.Event.enc)]):=by
 intro w hS0 hH
 obtain⟨gl0,gm0⟩:=hH
 refine Ak _ _ Tryz.func114 rfl rfl rfl (hS0) ?_
 refine Gs ?_
 refine B6 rfl rfl rfl (fun b1=>?_)
 refine BD rfl LU rfl (fun b2=>?_)
 refine Ga rfl (Ga rfl (Ga rfl (Gn (.t3 1 2 4) (CG (Gt (AZ rfl BW .m1 (AU.id AH.fl.len AH.fl.one) rfl) ?_)))))
 refine BA rfl aP (.c rfl .n) (fun w hS=>HV _ w) ?_
 refine Gt (BT rfl) (Gn (.t4 1 2 4 14) ?_)
 refine Gc (fun c1=>?_) (fun c1=>?_)
 ·
  refine Gs (Gt (AZ rfl BW .m1 (AU.id AH.fl.len AH.fl.one) rfl) ?_)
  refine AT (AK (AU.id AH.fl.len AH.fl.one) rfl rfl rfl Dz rfl .h) ?_
  refine Ga rfl (Ga rfl (Ga rfl (Gn (.t4 4 5 6 7) (Ac (AD ?_)))))
  refine AY rfl (.cell rfl .m0 (.inl ⟨(by rw [AH.fl.len];exact BW),rfl⟩) (.tmp rfl (.tmp rfl (.tmp rfl .n)))) ?_
  intro w1 hS
  have hS:=hS.Cs 56 16
  have hS:=(hS.perm (Ax.perm (.c .h .n))).A1
  have hq:AE.BR X s=_:=BB c1
  refine⟨_,⟨⟨none,0,0⟩,?hv,?hl,?hB⟩,hS⟩
  case hv=>rw [hq];rfl
  case hl=>rw [hq];rfl
  case hB=>rw [hq];rfl
 have c1p:=kz c1
 refine Aa ?_
 refine AB (.t3 1 2 4) ?_
 refine AA (CG (Gm rfl ?_))
 refine BA rfl dT (.c rfl .n) (fun w hS=>MH _ (by first | assumption | omega) w) ?_
 refine Gt (BT rfl) (Gn (.t4 1 2 4 18) ?_)
 refine Gc (fun c2=>?_) (fun c2=>?_)
 ·
  refine Gs (Gt (AZ rfl BW .m1 (AU.id AH.fl.len AH.fl.one) rfl) ?_)
  refine AT (AK (AU.id AH.fl.len AH.fl.one) rfl rfl rfl Dz rfl .h) ?_
  refine Ga rfl (Ga rfl (Ga rfl (Gn (.t4 4 5 6 7) (Ac (AD ?_)))))
  refine AY rfl (.cell rfl .m0 (.inl ⟨(by rw [AH.fl.len];exact BW),rfl⟩) (.tmp rfl (.tmp rfl (.tmp rfl .n)))) ?_
  intro w1 hS
  have hS:=hS.Cs 56 16
  have hS:=(hS.perm (Ax.perm (.c .h .n))).A1
  have hq:AE.BR X s=_:=(AX c1).trans (BB c2)
  refine⟨_,⟨⟨none,0,0⟩,?hv,?hl,?hB⟩,hS⟩
  case hv=>rw [hq];rfl
  case hl=>rw [hq];rfl
  case hB=>rw [hq];rfl
 have c2p:=kz c2
 refine Aa ?_
 refine AB (.t3 1 2 4) ?_
 refine AA (CG (Gt (Ai Bo rfl) (Gt (AZ rfl ZY .m1 AH.l2 rfl) (Gm rfl (Gn (.t5 1 2 4 21 22) (Ae ?_))))))
 refine Bn (.t5 22 1 2 4 21) ?_
 refine CY (fun(k:Int)=>0≤k∧k≤6∧B8 6 (fun k=>!AE.IU X s k) 6=B8 6 (fun k=>!AE.IU X s k) (6 - k).toNat) (fun(k:Int)=>(6 - k).toNat) (fun(k:Int)=> [(22, .int .i64 k)]) (fun(k:Int)=> []) (0) ?_ rfl rfl (fun k hI1=>?_)
 · exact⟨by omega,by omega,rfl⟩
 obtain⟨hI11,hI12,hI13⟩:=hI1
 refine Gs (Gt (A7 rfl rfl) (AQ (AA (Ao ?_))))
 refine Gc (fun c3=>?_) (fun c3=>?_)
 ·
  have c3p:=kz c3
  refine Aa ?_
  refine AB (.t5 1 2 4 21 22) ?_
  refine AA (Ao (Ae (Gs ?_)))
  refine Gt (GI Aj.fl Tryz.underlying33 Fi rfl rfl (by first | omega | exact hb.1 | exact hb.2 | (dsimp only;omega)) (by first | omega | exact hb.1 | exact hb.2 | (dsimp only;omega))) ?_
  refine BD rfl Lu rfl (fun b3=>?_)
  refine AT (AK (AU.id Aj.fl.len Aj.fl.one) rfl rfl rfl KX rfl .h) ?_
  refine Gn (.t6 1 2 4 9 21 22) (Gs (Gt (Ai IP rfl) (Gt (AG rfl Dn .m0 Aj.l1 rfl rfl) (Gm rfl (Bf 27 rfl rfl (fun q=>Ai K3 rfl) (Bf 27 rfl rfl (fun q=>AG (Bc rfl q) CX .m0 Aj.l0 rfl rfl) (Bf 27 rfl rfl (fun q=>AF rfl) ?_)))))))
  refine Bf 27 rfl rfl (fun q=>Bw (Bc rfl q) (Bc rfl q)) (Gt (BG rfl rfl (fun h=>h)) (Gn (.t6 1 2 4 21 22 32) ?_))
  refine Gc (fun c4=>?_) (fun c4=>?_)
  ·
   have c4p:=kz c4
   refine Gs (Gt (AZ rfl BW .m2 (AU.id AH.fl.len AH.fl.one) rfl) ?_)
   refine AT (AK (AU.id AH.fl.len AH.fl.one) rfl rfl rfl Dz rfl (.t .h)) ?_
   refine Ga rfl (Ga rfl (Ga rfl (Gn (.t4 4 5 6 7) (Ac (AS (AD (AD ?_)))))))
   refine AS (AD ?_)
   refine AY rfl (.cell rfl .m1 (.inl ⟨(by rw [AH.fl.len];exact BW),rfl⟩) (.tmp rfl (.tmp rfl (.tmp rfl .n)))) ?_
   intro w1 hS
   have hS:=hS.Cs 56 16
   have hS:=(hS.perm (Ax.perm (.c .h .n))).A1
   have ha:(!B8 6 (fun k=>!AE.IU X s k) 6)=true:=by rw [hI13,DZ (fun k=>!AE.IU X s k) (show k < 6 by omega),show AE.IU X s k=true from c4];rfl
   have hq:AE.BR X s=_:=(AX c1).trans ((AX c2).trans (BB ha))
   refine⟨_,⟨⟨none,0,0⟩,?hv,?hl,?hB⟩,hS⟩
   case hv=>rw [hq];rfl
   case hl=>rw [hq];rfl
   case hB=>rw [hq];rfl
  have c4p:=kz c4
  refine Aa ?_
  refine AB (.t5 1 2 4 21 22) ?_
  refine AV (AA (AJ ?_))
  refine Gt (Av rfl rfl (IntWalk.i64_in _ (by first | omega | exact hb.1 | exact hb.2 | (dsimp only;omega)))) ?_
  refine Gm rfl ?_
  refine AQ (AB (.t5 1 2 4 21 22) ?_)
  refine B2 (k+1) ?_ ?_ (.t5 22 1 2 4 21) (.cons _ (.refl _))
  · exact⟨by omega,by omega,by rw [hI13,DZ (fun k=>!AE.IU X s k) (show k < 6 by omega),show AE.IU X s k=false from c4];rfl⟩
  · omega
 have c3p:=kz c3
 have hno:(!B8 6 (fun k=>!AE.IU X s k) 6)=false:=by rw [hI13,show(6 - k).toNat=0 by omega];rfl
 refine Bb (AW (AW (Ag ?_)))
 refine AB (.t3 1 2 4) ?_
 refine AA (CG (Ga rfl (AQ (AA (Ae ?_)))))
 refine Bn (.t4 10 1 2 4) ?_
 refine CY (fun(k:Int)=>2≤k∧k≤6∧AE.CH X 6=AE.CH X (5 - (k - 1)).toNat) (fun(k:Int)=>(6 - k).toNat) (fun(k:Int)=> [(10, .int .i64 k)]) (fun(k:Int)=> []) (2) ?_ rfl rfl (fun k hI2=>?_)
 · exact⟨by omega,by omega,AE.WK X⟩
 obtain⟨hI21,hI22,hI23⟩:=hI2
 refine CG (Gm rfl (Gt (A7 rfl rfl) (Gn (.t5 1 2 4 10 36) ?_)))
 refine Gc (fun c5=>?_) (fun c5=>?_)
 ·
  have c5p:=kz c5
  refine Aa ?_
  refine AB (.t4 1 2 4 10) ?_
  refine AA (Ao (Ae (Gs (Gm rfl (Gt (Ai Bo rfl) ?_)))))
  refine Gt (AR C8 rfl rfl (by first | omega | exact hb.1 | exact hb.2 | (dsimp only;omega)) (by first | omega | exact hb.1 | exact hb.2 | (dsimp only;omega))) ?_
  refine Gt (Ai IP rfl) ?_
  refine Gt (AG rfl Dn .m1 ((AH.l2.comp (AU.ar (n:=6) Aj.fl (by first | omega | exact hb | (dsimp only;omega)))).comp Aj.l1) rfl rfl) ?_
  refine Gt (BT rfl) (Gn (.t5 1 2 4 10 44) ?_)
  refine Gc (fun c6=>?_) (fun c6=>?_)
  ·
   have c6p:=kz c6
   have hF:=AE.QW (s:=s) (by simpa using c1) hw (by omega) (show 0≤k by omega) (show k < 6 by omega)
   have hb:=hF.b
   refine Gs (Gt (AZ rfl BW .m1 (AU.id AH.fl.len AH.fl.one) rfl) (Gm rfl (Gt (BC UR UP rfl (.cons Ad.l0 rfl rfl rfl (.cons Ad.l1 rfl rfl rfl .nil))) ?_)))
   refine B6 rfl rfl rfl (fun b4=>?_)
   refine Ga rfl (Gn (.t4 1 4 10 11) (Gs (Gm rfl (Gm rfl (Gm rfl (Gt (BC Wj Lu rfl (.cons Aj.l0 rfl rfl rfl (.cons Aj.l1 rfl rfl rfl (.cons Aj.l4 rfl rfl rfl .nil)))) (Gt (BV rfl) ?_)))))))
   refine Gt (Ai A9 rfl) (Gt (Ai Bo rfl) ?_)
   refine Gt (AR C8 rfl rfl (by first | omega | exact hb.1 | exact hb.2 | (dsimp only;omega)) (by first | omega | exact hb.1 | exact hb.2 | (dsimp only;omega))) ?_
   refine AT (AK ((Ad.l0.comp AH.l2).comp (AU.ar (n:=6) Aj.fl (by first | omega | exact hb | (dsimp only;omega)))) rfl rfl rfl KX rfl .h) ?_
   refine Gn (.t3 4 10 11) (Gs (Gm rfl ?_))
   refine Dm Ing.Event.enc 56 16 ?_
   refine Ah rfl Uh (.c rfl (.c rfl .n)) (.c (.t .h) (.c .h .n)) (GN _ (⟨X.Cw k (AE.Hx s),k,[]⟩:AE) _ 17 rfl hb (Nat.zero_le _)) (fun v5 B hv=>?_)
   obtain⟨y6,rfl,y7,rfl⟩:=hv
   refine Gn (.t3 4 10 11) (Gs (Gm rfl ?_))
   refine BF rfl U7 (.c rfl .n) (.c .h (.c .h .n)) (HK _ (AE.kind (⟨X.Cw k (AE.Hx s),k,[]⟩:AE) 17) _ y7 hb hF.br (by decide:(0:Nat)+1≤90000)) (fun w hS=>gl0.pull gm0 hS (.c .h (.c .h .n))) (fun v8 B hv=>?_)
   obtain⟨y9,rfl,y10,rfl⟩:=hv
   refine Gn (.t3 4 10 11) (Ao ?_)
   refine BE (N:=13) [0,1,3,7,0,0,32,96,224,15,543,2047,4095] mix (by kernel_rfl) rfl ?_
   refine Pf 0 rfl (AF rfl) (Pf 1 rfl (BV rfl) (Pf 2 rfl (Ai A9 rfl) (Pf 3 rfl (AZ rfl BW .m0 Ad.l0 rfl) (Pf 4 rfl (AF rfl) (Pf 5 rfl (AF rfl) (Pf 6 rfl (BV rfl) (Pf 7 rfl (Ai CJ rfl) ?_)))))))
   refine Pf 8 rfl (AG rfl Di .m0 Ad.l2 rfl rfl) ?_
   refine An 9 rfl (by kernel_rfl) ?_
   refine AT (AK (AU.id AH.fl.len AH.fl.one) rfl rfl rfl Dz rfl (.t (.t .h))) ?_
   refine BN rfl ⟨?_,?_⟩
   · exact(Po rfl (AG rfl Di .m0 Ad.l2 rfl rfl) rfl rfl (Po rfl (Ai CJ rfl) rfl rfl (Po rfl (BV rfl) rfl rfl (Po rfl (AF rfl) rfl rfl (Po rfl (AF rfl) rfl rfl (Pk (Pk (Pk (Pk As)))))))))
   refine Pf 10 rfl (A0 rfl) (Pf 11 rfl (A0 rfl) (Pf 12 rfl (A0 rfl) ?_))
   refine A4 (by kernel_rfl) ?_
   refine AB (.t4 4 5 6 7) ?_
   refine AA (Ac (AS (AD (AD (AS (AD ?_))))))
   refine AY rfl (.cell rfl .m2 (.inl ⟨(by rw [AH.fl.len];exact BW),rfl⟩) (.tmp rfl (.tmp rfl (.tmp rfl .n)))) ?_
   intro w1 hS
   have hS:=(hS.perm (Ax.perm (.c (.t .h) .n))).A1
   have hfr:AE.CH X 6=k:=hI23.trans (AE.WL hI21 (by omega) c6)
   have hf0:decide (AE.CH X 6 < 0)=false:=decide_eq_false (by omega)
   have hq:AE.BR X s=_:=(AX c1).trans ((AX c2).trans ((AX hno).trans (AX hf0)))
   rw [hfr] at hq
   refine⟨_,⟨y9,?hv,?hl,?hB⟩,hS⟩
   case hv=>rw [hq];(try rfl)
   case hl=>rw [hq];exact y10
   case hB=>rw [hq];(try rfl)
  have c6p:=kz c6
  refine Aa ?_
  refine AB (.t4 1 2 4 10) ?_
  refine AV (AA (AJ (Gm rfl ?_)))
  refine Gt (Av rfl rfl (IntWalk.i64_in _ (by first | omega | exact hb.1 | exact hb.2 | (dsimp only;omega)))) ?_
  refine Ga rfl ?_
  refine AQ (AB (.t4 1 2 4 10) ?_)
  refine B2 (k+1) ?_ ?_ (.t4 10 1 2 4) (.refl _)
  · exact⟨by omega,by omega,by rw [hI23,AE.YI hI21 (by omega) c6,show(5 - (k+1 - 1))=5 - k by omega]⟩
  · omega
 have c5p:=kz c5
 obtain rfl:k=6:=by omega
 refine Bb (AW (AW (Ag ?_)))
 refine AB (.t2 2 4) ?_
 refine AA (Gs (Gt (AZ rfl BW .m1 (AU.id AH.fl.len AH.fl.one) rfl) ?_))
 refine AT (AK (AU.id AH.fl.len AH.fl.one) rfl rfl rfl Dz rfl .h) ?_
 refine Ga rfl (Ga rfl (Ga rfl (Gn (.t4 4 5 6 7) (Ac ?_))))
 refine AY rfl (.cell rfl .m0 (.inl ⟨(by rw [AH.fl.len];exact BW),rfl⟩) (.tmp rfl (.tmp rfl (.tmp rfl .n)))) ?_
 intro w1 hS
 have hS:=hS.Cs 56 16
 have hS:=(hS.perm (Ax.perm (.c .h .n))).A1
 have hf0:decide (AE.CH X 6 < 0)=true:=by rw [hI23];rfl
 have hq:AE.BR X s=_:=(AX c1).trans ((AX c2).trans ((AX hno).trans (BB hf0)))
 refine⟨_,⟨⟨none,0,0⟩,?hv,?hl,?hB⟩,hS⟩
 case hv=>rw [hq];rfl
 case hl=>rw [hq];rfl
 case hB=>rw [hq];rfl
theorem NO (z:Int)(w:World):Ed Tryz.prog 49 #[.int .i64 z] w fun v w'=>v = .tuple #[BU (AH.form z).1,BU (AH.form z).2]∧CA w w':=by
 refine Ak [] [] Tryz.func49 rfl rfl rfl (St.start w []) ?_
 refine Gs (Ga rfl (Ga rfl (Gn (.t1 0) (CG (Gm rfl (Gn (.t1 4) (Ae ?_)))))))
 refine Gs (Gt (Af rfl rfl) (Ga rfl (Gn (.t2 4 5) ?_)))
 refine Gc (fun c1=>?_) (fun c1=>?_)
 ·
  refine Gs (Ga rfl (Ga rfl (Gn (.t2 2 3) (Ac (AS (AD ?_))))))
  refine AY rfl (.tmp rfl (.tmp rfl .n)) ?_
  intro w1 hS;refine⟨?_,hS.Am⟩;rw [show AH.form z=_ from(BB c1)];rfl
 refine Gs (Gt (Af rfl rfl) (Ga rfl (Gn (.t2 4 7) ?_)))
 refine Gc (fun c2=>?_) (fun c2=>?_)
 ·
  refine Gs (Ga rfl (Ga rfl (Gn (.t2 2 3) (Ac (AS (AD ?_))))))
  refine AY rfl (.tmp rfl (.tmp rfl .n)) ?_
  intro w1 hS;refine⟨?_,hS.Am⟩;rw [show AH.form z=_ from((AX c1).trans (BB c2))];rfl
 refine Gs (Gt (Af rfl rfl) (Ga rfl (Gn (.t2 4 9) ?_)))
 refine Gc (fun c3=>?_) (fun c3=>?_)
 ·
  refine Gs (Ga rfl (Ga rfl (Gn (.t2 2 3) (Ac (AS (AD ?_))))))
  refine AY rfl (.tmp rfl (.tmp rfl .n)) ?_
  intro w1 hS;refine⟨?_,hS.Am⟩;rw [show AH.form z=_ from((AX c1).trans ((AX c2).trans (BB c3)))];rfl
 refine Gs (Gt (Af rfl rfl) (Ga rfl (Gn (.t2 4 11) ?_)))
 refine Gc (fun c4=>?_) (fun c4=>?_)
 ·
  refine Gs (Ga rfl (Ga rfl (Gn (.t2 2 3) (Ac (AS (AD ?_))))))
  refine AY rfl (.tmp rfl (.tmp rfl .n)) ?_
  intro w1 hS;refine⟨?_,hS.Am⟩;rw [show AH.form z=_ from((AX c1).trans ((AX c2).trans ((AX c3).trans (BB c4))))];rfl
 refine Gs (Gt (Af rfl rfl) (Ga rfl (Gn (.t2 4 13) ?_)))
 refine Gc (fun c5=>?_) (fun c5=>?_)
 ·
  refine Gs (Ga rfl (Ga rfl (Gn (.t2 2 3) (Ac (AS (AD ?_))))))
  refine AY rfl (.tmp rfl (.tmp rfl .n)) ?_
  intro w1 hS;refine⟨?_,hS.Am⟩;rw [show AH.form z=_ from((AX c1).trans ((AX c2).trans ((AX c3).trans ((AX c4).trans (BB c5)))))];rfl
 refine Gs (Gt (Af rfl rfl) (Ga rfl (Gn (.t2 4 15) ?_)))
 refine Gc (fun c6=>?_) (fun c6=>?_)
 ·
  refine Gs (Ga rfl (Ga rfl (Gn (.t2 2 3) (Ac (AS (AD ?_))))))
  refine AY rfl (.tmp rfl (.tmp rfl .n)) ?_
  intro w1 hS;refine⟨?_,hS.Am⟩;rw [show AH.form z=_ from((AX c1).trans ((AX c2).trans ((AX c3).trans ((AX c4).trans ((AX c5).trans (BB c6))))))];rfl
 refine Gs (Gt (Af rfl rfl) (Ga rfl (Gn (.t2 4 17) ?_)))
 refine Gc (fun c7=>?_) (fun c7=>?_)
 ·
  refine Gs (Ga rfl (Ga rfl (Gn (.t2 2 3) (Ac (AS (AD ?_))))))
  refine AY rfl (.tmp rfl (.tmp rfl .n)) ?_
  intro w1 hS;refine⟨?_,hS.Am⟩;rw [show AH.form z=_ from((AX c1).trans ((AX c2).trans ((AX c3).trans ((AX c4).trans ((AX c5).trans ((AX c6).trans (BB c7)))))))];rfl
 refine Gs (Gt (Af rfl rfl) (Ga rfl (Gn (.t2 4 19) ?_)))
 refine Gc (fun c8=>?_) (fun c8=>?_)
 ·
  refine Gs (Ga rfl (Ga rfl (Gn (.t2 2 3) (Ac (AS (AD ?_))))))
  refine AY rfl (.tmp rfl (.tmp rfl .n)) ?_
  intro w1 hS;refine⟨?_,hS.Am⟩;rw [show AH.form z=_ from((AX c1).trans ((AX c2).trans ((AX c3).trans ((AX c4).trans ((AX c5).trans ((AX c6).trans ((AX c7).trans (BB c8))))))))];rfl
 refine Gs (Gt (Af rfl rfl) (Ga rfl (Gn (.t2 4 21) ?_)))
 refine Gc (fun c9=>?_) (fun c9=>?_)
 ·
  refine Gs (Ga rfl (Ga rfl (Gn (.t2 2 3) (Ac (AS (AD ?_))))))
  refine AY rfl (.tmp rfl (.tmp rfl .n)) ?_
  intro w1 hS;refine⟨?_,hS.Am⟩;rw [show AH.form z=_ from((AX c1).trans ((AX c2).trans ((AX c3).trans ((AX c4).trans ((AX c5).trans ((AX c6).trans ((AX c7).trans ((AX c8).trans (BB c9)))))))))];rfl
 refine Gs (Gt (Af rfl rfl) (Ga rfl (Gn (.t2 4 23) ?_)))
 refine Gc (fun c10=>?_) (fun c10=>?_)
 ·
  refine Gs (Ga rfl (Ga rfl (Gn (.t2 2 3) (Ac (AS (AD ?_))))))
  refine AY rfl (.tmp rfl (.tmp rfl .n)) ?_
  intro w1 hS;refine⟨?_,hS.Am⟩;rw [show AH.form z=_ from((AX c1).trans ((AX c2).trans ((AX c3).trans ((AX c4).trans ((AX c5).trans ((AX c6).trans ((AX c7).trans ((AX c8).trans ((AX c9).trans (BB c10))))))))))];rfl
 refine Gs (Gt (Af rfl rfl) (Ga rfl (Gn (.t2 4 25) ?_)))
 refine Gc (fun c11=>?_) (fun c11=>?_)
 ·
  refine Gs (Ga rfl (Ga rfl (Gn (.t2 2 3) (Ac (AS (AD ?_))))))
  refine AY rfl (.tmp rfl (.tmp rfl .n)) ?_
  intro w1 hS;refine⟨?_,hS.Am⟩;rw [show AH.form z=_ from((AX c1).trans ((AX c2).trans ((AX c3).trans ((AX c4).trans ((AX c5).trans ((AX c6).trans ((AX c7).trans ((AX c8).trans ((AX c9).trans ((AX c10).trans (BB c11)))))))))))];rfl
 refine Gs (Gt (Af rfl rfl) (Ga rfl (Gn (.t2 4 27) ?_)))
 refine Gc (fun c12=>?_) (fun c12=>?_)
 ·
  refine Gs (Ga rfl (Ga rfl (Gn (.t2 2 3) (Ac (AS (AD ?_))))))
  refine AY rfl (.tmp rfl (.tmp rfl .n)) ?_
  intro w1 hS;refine⟨?_,hS.Am⟩;rw [show AH.form z=_ from((AX c1).trans ((AX c2).trans ((AX c3).trans ((AX c4).trans ((AX c5).trans ((AX c6).trans ((AX c7).trans ((AX c8).trans ((AX c9).trans ((AX c10).trans ((AX c11).trans (BB c12))))))))))))];rfl
 refine Gs (Gt (Af rfl rfl) (Ga rfl (Gn (.t2 4 29) ?_)))
 refine Gc (fun c13=>?_) (fun c13=>?_)
 ·
  refine Gs (Ga rfl (Ga rfl (Gn (.t2 2 3) (Ac (AS (AD ?_))))))
  refine AY rfl (.tmp rfl (.tmp rfl .n)) ?_
  intro w1 hS;refine⟨?_,hS.Am⟩;rw [show AH.form z=_ from((AX c1).trans ((AX c2).trans ((AX c3).trans ((AX c4).trans ((AX c5).trans ((AX c6).trans ((AX c7).trans ((AX c8).trans ((AX c9).trans ((AX c10).trans ((AX c11).trans ((AX c12).trans (BB c13)))))))))))))];rfl
 refine Gs (Gt (Af rfl rfl) (Ga rfl (Gn (.t2 4 31) ?_)))
 refine Gc (fun c14=>?_) (fun c14=>?_)
 ·
  refine Gs (Ga rfl (Ga rfl (Gn (.t2 2 3) (Ac (AS (AD ?_))))))
  refine AY rfl (.tmp rfl (.tmp rfl .n)) ?_
  intro w1 hS;refine⟨?_,hS.Am⟩;rw [show AH.form z=_ from((AX c1).trans ((AX c2).trans ((AX c3).trans ((AX c4).trans ((AX c5).trans ((AX c6).trans ((AX c7).trans ((AX c8).trans ((AX c9).trans ((AX c10).trans ((AX c11).trans ((AX c12).trans ((AX c13).trans (BB c14))))))))))))))];rfl
 refine Gs (Gt (Af rfl rfl) (Ga rfl (Gn (.t2 4 33) ?_)))
 refine Gc (fun c15=>?_) (fun c15=>?_)
 ·
  refine Gs (Ga rfl (Ga rfl (Gn (.t2 2 3) (Ac (AS (AD ?_))))))
  refine AY rfl (.tmp rfl (.tmp rfl .n)) ?_
  intro w1 hS;refine⟨?_,hS.Am⟩;rw [show AH.form z=_ from((AX c1).trans ((AX c2).trans ((AX c3).trans ((AX c4).trans ((AX c5).trans ((AX c6).trans ((AX c7).trans ((AX c8).trans ((AX c9).trans ((AX c10).trans ((AX c11).trans ((AX c12).trans ((AX c13).trans ((AX c14).trans (BB c15)))))))))))))))];rfl
 refine Gs (Gt (Af rfl rfl) (Ga rfl (Gn (.t2 4 35) ?_)))
 refine Gc (fun c16=>?_) (fun c16=>?_)
 ·
  refine Gs (Ga rfl (Ga rfl (Gn (.t2 2 3) (Ac (AS (AD ?_))))))
  refine AY rfl (.tmp rfl (.tmp rfl .n)) ?_
  intro w1 hS;refine⟨?_,hS.Am⟩;rw [show AH.form z=_ from((AX c1).trans ((AX c2).trans ((AX c3).trans ((AX c4).trans ((AX c5).trans ((AX c6).trans ((AX c7).trans ((AX c8).trans ((AX c9).trans ((AX c10).trans ((AX c11).trans ((AX c12).trans ((AX c13).trans ((AX c14).trans ((AX c15).trans (BB c16))))))))))))))))];rfl
 refine Gs (Gt (Af rfl rfl) (Ga rfl (Gn (.t2 4 37) ?_)))
 refine Gc (fun c17=>?_) (fun c17=>?_)
 ·
  refine Gs (Ga rfl (Ga rfl (Gn (.t2 2 3) (Ac (AS (AD ?_))))))
  refine AY rfl (.tmp rfl (.tmp rfl .n)) ?_
  intro w1 hS;refine⟨?_,hS.Am⟩;rw [show AH.form z=_ from((AX c1).trans ((AX c2).trans ((AX c3).trans ((AX c4).trans ((AX c5).trans ((AX c6).trans ((AX c7).trans ((AX c8).trans ((AX c9).trans ((AX c10).trans ((AX c11).trans ((AX c12).trans ((AX c13).trans ((AX c14).trans ((AX c15).trans ((AX c16).trans (BB c17)))))))))))))))))];rfl
 refine Gs (Gt (Af rfl rfl) (Ga rfl (Gn (.t1 39) ?_)))
 refine Gc (fun c18=>?_) (fun c18=>?_)
 ·
  refine Gs (Ga rfl (Ga rfl (Gn (.t2 2 3) (Ac (AS (AD ?_))))))
  refine AY rfl (.tmp rfl (.tmp rfl .n)) ?_
  intro w1 hS;refine⟨?_,hS.Am⟩;rw [show AH.form z=_ from((AX c1).trans ((AX c2).trans ((AX c3).trans ((AX c4).trans ((AX c5).trans ((AX c6).trans ((AX c7).trans ((AX c8).trans ((AX c9).trans ((AX c10).trans ((AX c11).trans ((AX c12).trans ((AX c13).trans ((AX c14).trans ((AX c15).trans ((AX c16).trans ((AX c17).trans (BB c18))))))))))))))))))];rfl
 refine Aa ?_
 refine AB (.nil _) ?_
 refine AV (AA (Gs (Ga rfl (Ga rfl (AQ (AA (Ac ?_)))))))
 refine AY rfl (.tmp rfl (.tmp rfl .n)) ?_
 intro w1 hS;refine⟨?_,hS.Am⟩;rw [show AH.form z=_ from((AX c1).trans ((AX c2).trans ((AX c3).trans ((AX c4).trans ((AX c5).trans ((AX c6).trans ((AX c7).trans ((AX c8).trans ((AX c9).trans ((AX c10).trans ((AX c11).trans ((AX c12).trans ((AX c13).trans ((AX c14).trans ((AX c15).trans ((AX c16).trans ((AX c17).trans (AX c18))))))))))))))))))];rfl
theorem DB (b:Nat)(p:Option Addr)(h:Hd)(hp:p=none∨p=some ⟨b,0,none⟩):JQ Tryz.prog 71 #[.pointer (some ⟨b,0,none⟩)] [Ab.box b 107 (DY.enc ⟨p,h⟩)] (fun v B=>v = .tuple #[]∧B = [Ab.box b 107 (DY.enc ⟨some ⟨b,0,none⟩,h⟩)]):=by
 intro w hS0
 refine Ak _ _ Tryz.func71 rfl rfl rfl (hS0) ?_
 refine Gs (Gm rfl (Gt (BV rfl) (Gt (Ai RN rfl) (Gt (AG rfl Wy .m0 DY.l0 rfl rfl) (Gt (Ei Tryz.underlying104 rfl) (Gn (.t2 0 6) ?_))))))
 refine Gc (fun c1=>?_) (fun c1=>?_)
 ·
  obtain rfl:p=none:=by simpa using c1
  refine AJ (Gm rfl (Gm rfl ?_))
  refine Gt ((let ⟨_,h,h2⟩:=Tr;Rj Tryz.underlying104 Tryz.underlying152 h h2 rfl .m0 (by rw [DY.fl.len];decide))) ?_
  refine Gt (Sn Tryz.func85 (by kernel_rfl) (by kernel_rfl) (by kernel_rfl) (by kernel_rfl) rfl) ?_
  refine Gt ((let ⟨_,h,_⟩:=Tr;Pa Tryz.underlying152 Tryz.underlying104 h rfl .m0 (by rw [DY.fl.len];kernel_rfl))) ?_
  refine Gt (BV rfl) (Gt (Ai RN rfl) ?_)
  refine AT (AK DY.l0 rfl rfl rfl Zl rfl .h) ?_
  refine AQ ?_
  refine Bk rfl .n ?_
  intro w1 hS
  have hS:=(hS.perm (Ax.perm (.c .h .n))).A1
  exact⟨_,⟨rfl,rfl⟩,hS⟩
 obtain rfl:p=some ⟨b,0,none⟩:=by rcases hp with h | h;(subst h;simp at c1);exact h
 refine Gs (Gm rfl (Gt (BV rfl) (Gt (Ai RN rfl) (Gt (AG rfl Wy .m0 DY.l0 rfl rfl) (Gm rfl (Gt ((let ⟨_,h,_⟩:=Tr;RW Tryz.underlying104 h rfl rfl)) (Gn (.t1 19) ?_)))))))
 refine Dr rfl rfl ?_
 refine Aa ?_
 refine Bk rfl .n ?_
 intro w1 hS
 have hS:=(hS.perm (Ax.perm (.c .h .n))).A1
 exact⟨_,⟨rfl,rfl⟩,hS⟩
theorem Ci (b:Nat)(p:Option Addr)(h:Hd)(s:Ap)(hp:p=none∨p=some ⟨b,0,none⟩)(hz:h.Z)(hl:h.len=s.length)(c:UInt8)(hb:s.length < 140737488355000):JQ Tryz.prog 50 #[.pointer (some ⟨b,0,none⟩), .int .u8 (c.toNat:Int)] [Ab.box b 107 (DY.enc ⟨p,h⟩),Ab.own h 5 1 (s.flatMap DT)] (fun v B=>∃ p' h',v = .nilIface∧(p'=none∨p'=some ⟨b,0,none⟩)∧h'.Z∧h'.len=(s ++ [c]).length∧B = [Ab.box b 107 (DY.enc ⟨p',h'⟩),Ab.own h' 5 1 ((s ++ [c]).flatMap DT)]):=by
 intro w hS0
 refine Ak _ _ Tryz.func50 rfl rfl rfl (hS0) ?_
 refine Gs (Ga rfl (Gn (.t2 0 1) (Gs (Gm rfl ?_))))
 refine Ah rfl aT (.c rfl .n) (.c .h .n) (DB _ _ _ (by first | assumption | omega)) (fun v1 B hv=>?_)
 obtain⟨rfl,rfl⟩:=hv
 refine Gn (.t2 0 1) (Gs (Gm rfl (Gm rfl (Gt (BV rfl) (Gt (Ai Ev rfl) (Gt (AG rfl IM .m0 DY.l1 rfl rfl) (Gm rfl ?_)))))))
 refine S4 rfl Tryz.underlying105 VY aE rfl (by decide) (by decide) rfl rfl rfl (fun b1=>?_)
 refine Nb rfl Tryz.underlying105 VY aE rfl eJ (by decide) (by decide) rfl rfl (fun w hS=>Src.D7 Tryz.underlying105 ((Kn.own .m0) w hS)) (by intro v hv;simp at hv;subst hv;rfl) (by dsimp only;omega) (fun _=>(.t (.t .h))) (fun h2 h2l h2z=>?_)
 have h2z:=h2z hz;dsimp only at h2l
 refine Gt (BV rfl) (Gt (Ai Ev rfl) ?_)
 refine AT (AK DY.l1 rfl rfl rfl Ua rfl (.t .h)) ?_
 refine Gn (.nil _) (Gs (Ga rfl (AQ (AA (Ac ?_)))))
 refine AY rfl (.tmp rfl .n) ?_
 intro w1 hS
 have hS:=(hS.perm (Ax.perm (.c (.t .h) (.c (.t .h) .n)))).A1
 exact⟨_,⟨_,_,rfl, .inr rfl,by assumption,by simp;omega,by rw [List.flatMap_append];rfl⟩,hS⟩
theorem BK (b:Nat)(p:Option Addr)(h:Hd)(s:Ap)(hp:p=none∨p=some ⟨b,0,none⟩)(hz:h.Z)(hl:h.len=s.length)(t:Ap)(hb:s.length+t.length < 140737488355000):JQ Tryz.prog 51 #[.pointer (some ⟨b,0,none⟩),BU t] [Ab.box b 107 (DY.enc ⟨p,h⟩),Ab.own h 5 1 (s.flatMap DT)] (fun v B=>∃ p' h',v = .tuple #[.int .i64 t.length, .nilIface]∧(p'=none∨p'=some ⟨b,0,none⟩)∧h'.Z∧h'.len=(s++t).length∧B = [Ab.box b 107 (DY.enc ⟨p',h'⟩),Ab.own h' 5 1 ((s++t).flatMap DT)]):=by
 intro w hS0
 refine Ak _ _ Tryz.func51 rfl rfl rfl (hS0) ?_
 refine Gs (Ga rfl (Ga rfl (Gn (.t2 0 1) (Gs (Gm rfl ?_)))))
 refine Ah rfl aT (.c rfl .n) (.c .h .n) (DB _ _ _ (by first | assumption | omega)) (fun v1 B hv=>?_)
 obtain⟨rfl,rfl⟩:=hv
 refine Gn (.t2 0 1) (Gs (Gm rfl (Gm rfl (Gt (BV rfl) (Gt (Ai Ev rfl) (Gt (AG rfl IM .m0 DY.l1 rfl rfl) (Gm rfl ?_)))))))
 refine Ce WY rfl Tryz.underlying105 VY aE rfl eJ (by decide) (by decide) rfl rfl (fun _ _=>Src.str Tryz.underlying9) (by dsimp only;omega) (fun _=>(.t .h)) (fun h2 h2l h2z=>?_)
 have h2z:=h2z hz;dsimp only at h2l
 refine Gt (BV rfl) (Gt (Ai Ev rfl) ?_)
 refine AT (AK DY.l1 rfl rfl rfl Ua rfl .h) ?_
 refine Gn (.t1 1) (Gs (Gm rfl (Gt (BI rfl Tryz.underlying9 rfl) (Ga rfl (Ga rfl (Gn (.t2 4 5) (Ac ?_)))))))
 refine AY rfl (.tmp rfl (.tmp rfl .n)) ?_
 intro w1 hS
 have hS:=(hS.perm (Ax.perm (.c .h (.c .h .n)))).A1
 exact⟨_,⟨_,_,rfl, .inr rfl,by assumption,by simp;omega,by rw [List.flatMap_append]⟩,hS⟩
def RX:Go.Shelf.Ren:=⟨fun | 171=>53 | 243=>72 | 246=>86 | 283=>108 | 284=>109 | 285=>110 | 286=>111 | 129=>142 | 317=>141 | 318=>143 | 319=>144 | 320=>145 | 337=>162 | 338=>163 | n=>n,fun | 3=>3 | 9=>9 | 2=>2 | 4=>4 | 171=>172 | 0=>0 | 53=>173 | 37=>105 | 5=>5 | 173=>176 | 212=>205 | 51=>178 | 20=>20 | 213=>206 | 46=>140 | 232=>226 | 233=>227 | n=>n,fun | 17=>2 | 18=>3 | 19=>4 | n=>n⟩
theorem X2:LaysM.n171 Tryz.prog RX where
  mixed:=by kernel_rfl
  f129:=Tryz.func142.trans (congrArg some (by kernel_rfl))
  f171:=Tryz.func53.trans (congrArg some (by kernel_rfl))
  f243:=Tryz.func72.trans (congrArg some (by kernel_rfl))
  f246:=Tryz.func86.trans (congrArg some (by kernel_rfl))
  f283:=Tryz.func108.trans (congrArg some (by kernel_rfl))
  f284:=Tryz.func109.trans (congrArg some (by kernel_rfl))
  f285:=Tryz.func110.trans (congrArg some (by kernel_rfl))
  f286:=Tryz.func111.trans (congrArg some (by kernel_rfl))
  f317:=Tryz.func141.trans (congrArg some (by kernel_rfl))
  f318:=Tryz.func143.trans (congrArg some (by kernel_rfl))
  f319:=Tryz.func144.trans (congrArg some (by kernel_rfl))
  f320:=Tryz.func145.trans (congrArg some (by kernel_rfl))
  f337:=Tryz.func162.trans (congrArg some (by kernel_rfl))
  f338:=Tryz.func163.trans (congrArg some (by kernel_rfl))
  t0:=Tryz.underlying0
  a0:=Tryz.isAgg0
  z0:=Tryz.sizeOf0
  v0:=Tryz.zeroValue0
  t2:=Tryz.underlying2
  a2:=Tryz.isAgg2
  z2:=Tryz.sizeOf2
  v2:=Tryz.zeroValue2
  t3:=Tryz.underlying3
  a3:=Tryz.isAgg3
  z3:=Tryz.sizeOf3
  v3:=Tryz.zeroValue3
  t4:=Tryz.underlying4
  a4:=Tryz.isAgg4
  z4:=Tryz.sizeOf4
  v4:=Tryz.zeroValue4
  t5:=Tryz.underlying5
  a5:=Tryz.isAgg5
  z5:=Tryz.sizeOf5
  v5:=Tryz.zeroValue5
  t9:=Tryz.underlying9
  a9:=Tryz.isAgg9
  z9:=Tryz.sizeOf9
  v9:=Tryz.zeroValue9
  t20:=Tryz.underlying20
  a20:=Tryz.isAgg20
  z20:=Tryz.sizeOf20
  v20:=Tryz.zeroValue20
  t37:=Tryz.underlying105
  a37:=Tryz.isAgg105
  z37:=Tryz.sizeOf105
  v37:=Tryz.zeroValue105
  t46:=Tryz.underlying140
  a46:=Tryz.isAgg140
  z46:=Tryz.sizeOf140
  v46:=Tryz.zeroValue140
  t51:=Tryz.underlying178
  a51:=Tryz.isAgg178
  z51:=Tryz.sizeOf178
  v51:=Tryz.zeroValue178
  t53:=Tryz.underlying173
  a53:=Tryz.isAgg173
  z53:=Tryz.sizeOf173
  v53:=Tryz.zeroValue173
  t171:=Tryz.underlying172
  a171:=Tryz.isAgg172
  z171:=Tryz.sizeOf172
  v171:=Tryz.zeroValue172
  t173:=Tryz.underlying176
  a173:=Tryz.isAgg176
  z173:=Tryz.sizeOf176
  v173:=Tryz.zeroValue176
  t212:=Tryz.underlying205
  a212:=Tryz.isAgg205
  z212:=Tryz.sizeOf205
  v212:=Tryz.zeroValue205
  t213:=Tryz.underlying206
  a213:=Tryz.isAgg206
  z213:=Tryz.sizeOf206
  t232:=Tryz.underlying226
  a232:=Tryz.isAgg226
  z232:=Tryz.sizeOf226
  v232:=Tryz.zeroValue226
  t233:=Tryz.underlying227
  a233:=Tryz.isAgg227
  z233:=Tryz.sizeOf227
  v233:=Tryz.zeroValue227
  g17:=by kernel_rfl
  g18:=by kernel_rfl
  g19:=by kernel_rfl
  i0:=by kernel_rfl
  i2:=by kernel_rfl
  i3:=by kernel_rfl
  i4:=by kernel_rfl
  i5:=by kernel_rfl
  i9:=by kernel_rfl
  i20:=by kernel_rfl
  i37:=by kernel_rfl
  i46:=by kernel_rfl
  i51:=by kernel_rfl
  i53:=by kernel_rfl
  i171:=by kernel_rfl
  i173:=by kernel_rfl
  i212:=by kernel_rfl
  i232:=by kernel_rfl
  i233:=by kernel_rfl
  m17:=by kernel_rfl
  m18:=by kernel_rfl
  m19:=by kernel_rfl
theorem LX (n:Int)(h0:-9223372036854775808≤n)(hy:n≤9223372036854775807)(w:World)(gl0:GV 2 Fp w):Ed Tryz.prog 53 #[.int .i64 n] w fun v w'=>v=BU (Lib.itoa n)∧CA w w':=
  Ed.ZM (Any.strconv_Itoa X2 n h0 hy w (Tt (by kernel_rfl) gl0))
theorem Cy (b:Nat)(p:Option Addr)(h:Hd)(s:Ap)(hz:h.Z)(hl:h.len=s.length)(hb:s.length < 140737488355000):JQ Tryz.prog 54 #[.pointer (some ⟨b,0,none⟩)] [Ab.box b 107 (DY.enc ⟨p,h⟩),Ab.own h 5 1 (s.flatMap DT)] (fun v B=>v=BU s∧B = [Ab.box b 107 (DY.enc ⟨p,h⟩)]):=by
 intro w hS0
 refine Ak _ _ Tryz.func54 rfl rfl rfl (hS0) ?_
 refine Gs (Ga rfl (Gn (.t1 0) (Ao ?_)))
 refine BE (N:=12) [0,1,3,7,15,0,32,96,224,480,1023,2047] mix (by kernel_rfl) rfl ?_
 refine Pf 0 rfl (AF rfl) (Pf 1 rfl (BV rfl) (Pf 2 rfl (Ai Ev rfl) (Pf 3 rfl (AG rfl IM .m0 DY.l1 rfl rfl) ?_)))
 refine Pf 4 rfl (RE rfl (by assumption)) ?_
 refine Pf 5 rfl (AF rfl) (Pf 6 rfl (BV rfl) (Pf 7 rfl (Ai Ev rfl) (Pf 8 rfl (AG rfl IM .m0 DY.l1 rfl rfl) (Pf 9 rfl (Ar rfl Tryz.underlying105 rfl) ?_))))
 refine An 10 rfl (by kernel_rfl) ?_
 refine M9 rfl Tryz.underlying134 ep rfl rfl (by assumption) (by omega) (.t .h) ?_
 refine Bq rfl ⟨?_,?_⟩
 · exact(Pk (Pk (Pk (Pk (Pk (Pk (Pk (Pk (Pk (Pk As))))))))))
 refine Pf 11 rfl (A0 rfl) ?_
 refine A4 (by kernel_rfl) ?_
 refine AB (.t1 2) ?_
 refine AA (Ac ?_)
 refine AY rfl (.tmp rfl .n) ?_
 intro w1 hS
 have hS:=(hS.perm (Ax.perm (.c .h .n))).A1
 exact⟨_,⟨rfl,rfl⟩,hS⟩
theorem NC (e:Ing.Event)(b:Int)(hs:(decide (b < 0) || decide (6≤b) || decide (AH.Ro (e.GZ.at b) 1=0))=false→AH.Small e)(w:World)(gl0:GV 2 Fp w)(gl1:GV 0 AH.DJ w):Ed Tryz.prog 23 #[.agg e.enc.toArray, .int .i64 b] w fun v w'=>v = .tuple #[BU (AH.tell e b).1, .bool (AH.tell e b).2]∧CA w w':=by
 refine Ak [] [] Tryz.func23 rfl rfl rfl (St.start w []) ?_
 refine Gs ?_
 refine B6 rfl rfl rfl (fun b1=>?_)
 refine Ga rfl (Ga rfl (Gn (.t2 1 2) (CG (Gm rfl (Gt (A7 rfl rfl) (Gm rfl (Bg 17 rfl rfl (fun q=>AF rfl) ?_)))))))
 refine Bg 17 rfl rfl (fun q=>CK (cF rfl q) rfl) ?_
 refine Gt (BS rfl rfl (fun h=>by rw [h];rfl)) ?_
 refine Gm rfl (Bg 21 rfl rfl (fun q=>AF rfl) (Bg 21 rfl rfl (fun q=>Ai Lk rfl) ?_))
 refine Bg 21 rfl rfl (fun q=>by have q1:=q;(try simp at q1);exact AR Qw (cF rfl q) (cF rfl q) (by first | omega | (simp only [List.length_cons,List.length_nil];omega)) (by first | omega | (simp only [List.length_cons,List.length_nil];omega))) ?_
 refine Bg 21 rfl rfl (fun q=>by have q1:=q;(try simp at q1);exact AG (cF rfl q) A2 .m0 (Ing.Event.l10.comp (AU.arr (n:=6) Bu (by first | omega | (simp only [List.length_cons,List.length_nil];omega)) (by first | omega | (simp only [List.length_cons,List.length_nil];omega)))) rfl rfl) ?_
 refine Bg 21 rfl rfl (fun q=>Qk (cF rfl q) rfl (show _=AH.Ro _ _ from rfl)) (Bg 21 rfl rfl (fun q=>Af (cF rfl q) rfl) ?_)
 refine Gt (BS rfl rfl (fun h=>by rw [h];rfl)) ?_
 refine Gn (.t3 1 2 28) ?_
 refine Gc (fun c1=>?_) (fun c1=>?_)
 ·
  refine Gs (Ga rfl (Ga rfl (Gn (.t2 4 5) (Ac (AD ?_)))))
  refine AY rfl (.tmp rfl (.tmp rfl .n)) ?_
  intro w1 hS;refine⟨?_,hS.Am⟩;rw [show AH.tell e b=_ from BB c1];rfl
 have c1p:=kz c1
 have hs:=hs c1
 have hr:0≤b∧b < 6:=by simp at c1;omega
 have htl:=AH.Ox e b
 have h1l:=AH.QV hs b
 have h2l:=AH.Ns hs b
 have h3l:=hs.Bs
 have h4l:=hs.text
 have h5l:=AH.JD e.dir
 have h6l:=Lib.itoa_length_le e.n hs.n0 hs.n1
 refine Aa ?_
 refine AB (.t2 1 2) ?_
 refine AA (Gs (Gt (Ai Mf rfl) (Gt (AG rfl A2 .m0 Ing.Event.l0 rfl rfl) ?_)))
 refine BA rfl eL (.c rfl .n) (fun w hS=>NO _ w) ?_
 refine Gm rfl (Gt (AN rfl rfl) (Gt (AN rfl rfl) (Ga rfl (Ga rfl (Gn (.t4 1 2 6 7) (Gs (Gm rfl ?_)))))))
 refine Ga rfl (Gn (.t4 1 2 6 8) (CG (Gm rfl (Gt (Ai Mj rfl) (Gt (AG rfl A2 .m0 Ing.Event.l2 rfl rfl) (Gt (Af rfl rfl) (Gn (.t5 1 2 6 8 39) ?_)))))))
 refine Z0 (BU) (s:=(AH.EH e b)) rfl rfl rfl rfl rfl rfl rfl ?_
 refine AB (.t3 1 2 8) ?_
 refine AA (CG (Gm rfl (Gt (Bw rfl rfl) (Gn (.t4 1 2 8 42) ?_))))
 refine Gc (fun c2=>?_) (fun c2=>?_)
 ·
  refine Gs (Ga rfl (Ga rfl (Gn (.t2 4 5) (Ac (AD ?_)))))
  refine AY rfl (.tmp rfl (.tmp rfl .n)) ?_
  intro w1 hS;refine⟨?_,hS.Am⟩;rw [show AH.tell e b=_ from(AX c1).trans (BB c2)];rfl
 have c2p:=kz c2
 refine Aa ?_
 refine AB (.t3 1 2 8) ?_
 refine AA (Ao ?_)
 refine BE (N:=6) [0,1,0,4,3,31] mix (by kernel_rfl) rfl ?_
 refine Pf 0 rfl (Ai X6 rfl) (Pf 1 rfl (AG rfl CX .m0 Ing.Event.l6 rfl rfl) (Pf 2 rfl (Ai Wd rfl) (Pf 3 rfl (AG rfl CX .m0 Ing.Event.l7 rfl rfl) (Pf 4 rfl (A0 rfl) (Pf 5 rfl (A0 rfl) ?_)))))
 refine A4 (by kernel_rfl) ?_
 refine AB (.t5 1 2 8 9 10) ?_
 refine AA (CG (Gm rfl (Gt (Ai Lk rfl) ?_)))
 refine Gt (AR Qw rfl rfl (by first | omega | (simp only [List.length_cons,List.length_nil];omega)) (by first | omega | (simp only [List.length_cons,List.length_nil];omega))) ?_
 refine Gt (AG rfl A2 .m0 (Ing.Event.l10.comp (AU.arr (n:=6) Bu (by first | omega | (simp only [List.length_cons,List.length_nil];omega)) (by first | omega | (simp only [List.length_cons,List.length_nil];omega)))) rfl rfl) ?_
 refine Gt (Qk rfl rfl (show _=AH.Ro _ _ from rfl)) (Gt (Cb rfl rfl) (Gn (.t6 1 2 8 9 10 52) ?_))
 refine Qc (BU) (s:=(AH.Il e b)) rfl rfl rfl rfl rfl ?_
 refine AB (.t5 1 2 8 9 10) ?_
 refine AA (CG (Gm rfl (Gt (Ai Lk rfl) ?_)))
 refine Gt (AR Qw rfl rfl (by first | omega | (simp only [List.length_cons,List.length_nil];omega)) (by first | omega | (simp only [List.length_cons,List.length_nil];omega))) ?_
 refine Gt (AG rfl A2 .m0 (Ing.Event.l10.comp (AU.arr (n:=6) Bu (by first | omega | (simp only [List.length_cons,List.length_nil];omega)) (by first | omega | (simp only [List.length_cons,List.length_nil];omega)))) rfl rfl) ?_
 refine Gt (Qk rfl rfl (show _=AH.Ro _ _ from rfl)) (Gt (Cb rfl rfl) (Gn (.t6 1 2 8 9 10 58) ?_))
 refine Qc (BU) (s:=AH.Xy e b) rfl rfl rfl rfl rfl ?_
 refine AB (.t5 1 2 8 9 10) ?_
 refine AA (CG (Gm rfl (Gt (Ai Gw rfl) (Gt (AG rfl A2 .m0 Ing.Event.l3 rfl rfl) (Gt (Af rfl rfl) (Gn (.t5 2 8 9 10 62) ?_))))))
 refine Qc (BU) (s:=(AH.F6 e b)) rfl rfl rfl rfl rfl ?_
 refine AB (.t4 2 8 9 10) ?_
 refine AA (Gs ?_)
 refine BD rfl Uu rfl (fun b2=>?_)
 refine Dm DT 5 1 ?_
 refine AQ (AA (CG (Gm rfl (Gt (BI rfl Tryz.underlying9 rfl) (Gm rfl (Gn (.t7 2 8 9 10 11 64 65) (Ae ?_)))))))
 refine Bn (.t7 65 2 8 9 10 11 64) ?_
 refine Ba (.t .h) ?_
 refine Ba (.t .h) ?_
 refine Iu (fun(k:Int) (x:Ap) (p:Option Addr) (h:Hd)=>0≤k∧k≤((AH.EH e b).length:Int)∧x=AH.told e (AH.Il e b) (AH.F6 e b) (AH.EH e b) k.toNat∧(p=none∨p=some ⟨b2,0,none⟩)∧h.Z∧h.len=x.length) (fun(k:Int) (x:Ap) (p:Option Addr) (h:Hd)=>(((AH.EH e b).length:Int) - k).toNat) (fun(k:Int) (x:Ap) (p:Option Addr) (h:Hd)=> [(65, .int .i64 k)]) (fun(k:Int) (x:Ap) (p:Option Addr) (h:Hd)=> [Ab.own h 5 1 (x.flatMap DT),Ab.box b2 107 (DY.enc ⟨p,h⟩)]) (0) ([]) (none) (⟨none,0,0⟩) ?_ rfl rfl (fun k x p h hI1=>?_)
 · exact⟨by omega,by omega,rfl, .inl rfl,Hd.UW,rfl⟩
 obtain⟨hI11,hI12,hI13,hp,hz,hl⟩:=hI1;have hxl:=AH.OI hs h1l h2l (AH.EH e b) k.toNat;rw [← hI13] at hxl;have hxm:k.toNat * 2000000≤60000000:=by omega
 refine Gs (Gt (A7 rfl rfl) (AQ (AA (Ao ?_))))
 refine Gc (fun c3=>?_) (fun c3=>?_)
 ·
  have c3p:=kz c3
  refine Aa ?_
  refine AB (.t7 2 8 9 10 11 64 65) ?_
  refine AA (Ao (Ae (Gs (Gm rfl (Ga rfl (Gn (.t8 2 8 9 10 11 12 64 65) (Gs ?_)))))))
  refine Gm rfl (Gm rfl ?_)
  refine Gt (Bl Tryz.underlying9 rfl rfl (by first | omega | (simp only [List.length_cons,List.length_nil];omega)) (by first | omega | (simp only [List.length_cons,List.length_nil];omega))) ?_
  refine Ga rfl (Gn (.t9 2 8 9 10 11 12 13 64 65) (Gs (Gm rfl (Gt (Af rfl rfl) (Gm rfl (Bg 73 rfl rfl (fun q=>AF rfl) (Bg 73 rfl rfl (fun q=>AF rfl) ?_)))))))
  refine Bg 73 rfl rfl (fun q=>by have q1:=q;(try simp at q1);exact FR (cF rfl q) rfl (IntWalk.i64_in _ (by first | omega | (simp only [List.length_cons,List.length_nil];omega)))) ?_
  refine Bg 73 rfl rfl (fun q=>by have q1:=q;(try simp at q1);exact Bl Tryz.underlying9 (cF rfl q) (cF rfl q) (by first | omega | (simp only [List.length_cons,List.length_nil];omega)) (by first | omega | (simp only [List.length_cons,List.length_nil];omega))) ?_
  refine Bg 73 rfl rfl (fun q=>Af (cF rfl q) rfl) ?_
  refine Gt (BS rfl rfl (fun h=>by rw [h];rfl)) ?_
  refine Gm rfl (Bf 80 rfl rfl (fun q=>AF rfl) ?_)
  refine Bf 80 rfl rfl (fun q=>by have q1:=q;(try simp at q1);exact Av (Bc rfl q) rfl (IntWalk.i64_in _ (by first | omega | (simp only [List.length_cons,List.length_nil];omega)))) ?_
  refine Bf 80 rfl rfl (fun q=>AF rfl) (Bf 80 rfl rfl (fun q=>BI rfl Tryz.underlying9 (Bc rfl q)) (Bf 80 rfl rfl (fun q=>Af (Bc rfl q) (Bc rfl q)) (Bf 80 rfl rfl (fun q=>AF (Bc rfl q)) ?_)))
  refine Cl (t:=86) rfl rfl rfl (fun qc q=>AF rfl) ?_
  refine Cl (t:=86) rfl rfl rfl (fun qc q=>AF rfl) ?_
  refine Cl (t:=86) rfl rfl rfl (fun qc q=>by have q1:=q;have qc1:=qc;(try simp at q1 qc1);exact Av (Bc rfl (by rw [qc,q];rfl)) rfl (IntWalk.i64_in _ (by first | omega | (simp only [List.length_cons,List.length_nil];omega)))) ?_
  refine Cl (t:=86) rfl rfl rfl (fun qc q=>by have q1:=q;have qc1:=qc;(try simp at q1 qc1);exact Bl Tryz.underlying9 (Bc rfl (by rw [qc,q];rfl)) (Bc rfl (by rw [qc,q];rfl)) (by first | omega | (simp only [List.length_cons,List.length_nil];omega)) (by first | omega | (simp only [List.length_cons,List.length_nil];omega))) ?_
  refine Cl (t:=86) rfl rfl rfl (fun qc q=>Af (Bc rfl (by rw [qc,q];rfl)) rfl) ?_
  refine Bf 80 rfl rfl (fun q=>BS (Bc rfl q) rfl (fun h=>by rw [q,h];rfl)) ?_
  refine Bf 80 rfl rfl (fun q=>AF (Bc rfl q)) ?_
  refine Cl (t:=93) rfl rfl rfl (fun qc q=>AF rfl) ?_
  refine Cl (t:=93) rfl rfl rfl (fun qc q=>AF rfl) ?_
  refine Cl (t:=93) rfl rfl rfl (fun qc q=>by have q1:=q;have qc1:=qc;(try simp at q1 qc1);exact Av (Bc rfl (by rw [qc,q];rfl)) rfl (IntWalk.i64_in _ (by first | omega | (simp only [List.length_cons,List.length_nil];omega)))) ?_
  refine Cl (t:=93) rfl rfl rfl (fun qc q=>by have q1:=q;have qc1:=qc;(try simp at q1 qc1);exact Bl Tryz.underlying9 (Bc rfl (by rw [qc,q];rfl)) (Bc rfl (by rw [qc,q];rfl)) (by first | omega | (simp only [List.length_cons,List.length_nil];omega)) (by first | omega | (simp only [List.length_cons,List.length_nil];omega))) ?_
  refine Cl (t:=93) rfl rfl rfl (fun qc q=>Af (Bc rfl (by rw [qc,q];rfl)) rfl) ?_
  refine Bf 80 rfl rfl (fun q=>BS (Bc rfl q) rfl (fun h=>by rw [q,h];rfl)) ?_
  refine Gt (BG rfl rfl (fun h=>h)) (Ga rfl (Gn (.t9 2 8 9 10 11 13 14 64 65) (Ae (Gs (Gm rfl (Gt (BT rfl) (Ga rfl ?_)))))))
  refine Gn (.t9 2 8 9 10 11 13 64 65 103) ?_
  refine Gc (fun c4=>?_) (fun c4=>?_)
  ·
   have c4p:=kz c4
   refine AJ (Gm rfl ?_)
   refine Ah rfl YQ (.c rfl (.c rfl .n)) (.c (.t .h) (.c .h .n)) (Ci _ _ _ _ (by assumption) (by assumption) (by assumption) _ (by omega)) (fun v1 B hv=>?_)
   obtain⟨y2,y3,rfl,y4,y5,y6,rfl⟩:=hv
   refine AQ (AB (.t7 2 8 9 10 11 64 65) ?_)
   refine AV (AV (AA (AJ ?_)))
   refine Gt (Av rfl rfl (IntWalk.i64_in _ (by first | omega | (simp only [List.length_cons,List.length_nil];omega)))) ?_
   refine Gm rfl ?_
   refine AQ (AB (.t7 2 8 9 10 11 64 65) ?_)
   refine CE (.c (.t .h) (.c .h (.c .h .n))) ?_
   refine CZ ?_
   refine DC (k+1) _ _ _ ?_ ?_ (.t7 65 2 8 9 10 11 64) (.refl _)
   · exact⟨by omega,by omega,by rw [AH.FX hI11,← hI13,show AH.piece e (AH.Il e b) (AH.F6 e b) (AH.EH e b) k=_ from(BB c4)],by assumption,by assumption,by assumption⟩
   · omega
  have c4p:=kz c4
  refine Gs (Gm rfl (Gt (Af rfl rfl) (Ga rfl (Gn (.t9 2 8 9 10 11 13 64 65 108) ?_))))
  refine Gc (fun c5=>?_) (fun c5=>?_)
  ·
   have c5p:=kz c5
   refine AJ (Gm rfl ?_)
   refine Ah rfl Pp (.c rfl (.c rfl .n)) (.c (.t .h) (.c .h .n)) (BK _ _ _ _ (by assumption) (by assumption) (by assumption) _ (by omega)) (fun v7 B hv=>?_)
   obtain⟨y8,y9,rfl,y10,y11,y12,rfl⟩:=hv
   refine AQ (AB (.t7 2 8 9 10 11 64 65) ?_)
   refine AV (AV (AA (AJ ?_)))
   refine Gt (Av rfl rfl (IntWalk.i64_in _ (by first | omega | (simp only [List.length_cons,List.length_nil];omega)))) ?_
   refine Gm rfl ?_
   refine AQ (AB (.t7 2 8 9 10 11 64 65) ?_)
   refine CE (.c (.t .h) (.c .h (.c .h .n))) ?_
   refine CZ ?_
   refine DC (k+1) _ _ _ ?_ ?_ (.t7 65 2 8 9 10 11 64) (.refl _)
   · exact⟨by omega,by omega,by rw [AH.FX hI11,← hI13,show AH.piece e (AH.Il e b) (AH.F6 e b) (AH.EH e b) k=_ from((AX c4).trans (BB c5))],by assumption,by assumption,by assumption⟩
   · omega
  have c5p:=kz c5
  refine Gs (Gm rfl (Gt (Af rfl rfl) (Ga rfl (Gn (.t9 2 8 9 10 11 13 64 65 113) ?_))))
  refine Gc (fun c6=>?_) (fun c6=>?_)
  ·
   have c6p:=kz c6
   refine AJ (Gm rfl ?_)
   refine Ah rfl Pp (.c rfl (.c rfl .n)) (.c (.t .h) (.c .h .n)) (BK _ _ _ _ (by assumption) (by assumption) (by assumption) _ (by omega)) (fun v13 B hv=>?_)
   obtain⟨y14,y15,rfl,y16,y17,y18,rfl⟩:=hv
   refine AQ (AB (.t7 2 8 9 10 11 64 65) ?_)
   refine AV (AV (AA (AJ ?_)))
   refine Gt (Av rfl rfl (IntWalk.i64_in _ (by first | omega | (simp only [List.length_cons,List.length_nil];omega)))) ?_
   refine Gm rfl ?_
   refine AQ (AB (.t7 2 8 9 10 11 64 65) ?_)
   refine CE (.c (.t .h) (.c .h (.c .h .n))) ?_
   refine CZ ?_
   refine DC (k+1) _ _ _ ?_ ?_ (.t7 65 2 8 9 10 11 64) (.refl _)
   · exact⟨by omega,by omega,by rw [AH.FX hI11,← hI13,show AH.piece e (AH.Il e b) (AH.F6 e b) (AH.EH e b) k=_ from((AX c4).trans ((AX c5).trans (BB c6)))],by assumption,by assumption,by assumption⟩
   · omega
  have c6p:=kz c6
  refine Gs (Gm rfl (Gt (Af rfl rfl) (Ga rfl (Gn (.t9 2 8 9 10 11 13 64 65 118) ?_))))
  refine Gc (fun c7=>?_) (fun c7=>?_)
  ·
   have c7p:=kz c7
   refine AJ (Gt (Ai aA rfl) (Gt (AG rfl CX .m2 Ing.Event.l8 rfl rfl) ?_))
   refine Ah rfl Pp (.c rfl (.c rfl .n)) (.c (.t .h) (.c .h .n)) (BK _ _ _ _ (by assumption) (by assumption) (by assumption) _ (by omega)) (fun v19 B hv=>?_)
   obtain⟨y20,y21,rfl,y22,y23,y24,rfl⟩:=hv
   refine AQ (AB (.t7 2 8 9 10 11 64 65) ?_)
   refine AV (AV (AA (AJ ?_)))
   refine Gt (Av rfl rfl (IntWalk.i64_in _ (by first | omega | (simp only [List.length_cons,List.length_nil];omega)))) ?_
   refine Gm rfl ?_
   refine AQ (AB (.t7 2 8 9 10 11 64 65) ?_)
   refine CE (.c (.t .h) (.c .h (.c .h .n))) ?_
   refine CZ ?_
   refine DC (k+1) _ _ _ ?_ ?_ (.t7 65 2 8 9 10 11 64) (.refl _)
   · exact⟨by omega,by omega,by rw [AH.FX hI11,← hI13,show AH.piece e (AH.Il e b) (AH.F6 e b) (AH.EH e b) k=_ from((AX c4).trans ((AX c5).trans ((AX c6).trans (BB c7))))],by assumption,by assumption,by assumption⟩
   · omega
  have c7p:=kz c7
  refine Gs (Gm rfl (Gt (Af rfl rfl) (Ga rfl (Gn (.t9 2 8 9 10 11 13 64 65 124) ?_))))
  refine Gc (fun c8=>?_) (fun c8=>?_)
  ·
   have c8p:=kz c8
   refine AJ (Gt (Ai aw rfl) (Gt (AG rfl A2 .m2 Ing.Event.l4 rfl rfl) ?_))
   refine BA rfl cD (.c rfl .n) (fun w hS=>H6 _ w (gl1.st hS)) ?_
   refine Ah rfl Pp (.c rfl (.c rfl .n)) (.c (.t .h) (.c .h .n)) (BK _ _ _ _ (by assumption) (by assumption) (by assumption) _ (by omega)) (fun v25 B hv=>?_)
   obtain⟨y26,y27,rfl,y28,y29,y30,rfl⟩:=hv
   refine AQ (AB (.t7 2 8 9 10 11 64 65) ?_)
   refine AV (AV (AA (AJ ?_)))
   refine Gt (Av rfl rfl (IntWalk.i64_in _ (by first | omega | (simp only [List.length_cons,List.length_nil];omega)))) ?_
   refine Gm rfl ?_
   refine AQ (AB (.t7 2 8 9 10 11 64 65) ?_)
   refine CE (.c (.t .h) (.c .h (.c .h .n))) ?_
   refine CZ ?_
   refine DC (k+1) _ _ _ ?_ ?_ (.t7 65 2 8 9 10 11 64) (.refl _)
   · exact⟨by omega,by omega,by rw [AH.FX hI11,← hI13,show AH.piece e (AH.Il e b) (AH.F6 e b) (AH.EH e b) k=_ from((AX c4).trans ((AX c5).trans ((AX c6).trans ((AX c7).trans (BB c8)))))],by assumption,by assumption,by assumption⟩
   · omega
  have c8p:=kz c8
  refine Gs (Gm rfl (Gt (Af rfl rfl) (Ga rfl (Gn (.t9 2 8 9 10 11 13 64 65 131) ?_))))
  refine Gc (fun c9=>?_) (fun c9=>?_)
  ·
   have c9p:=kz c9
   refine AJ (Gt (Ai Z9 rfl) (Gt (AG rfl CX .m2 Ing.Event.l9 rfl rfl) ?_))
   refine Ah rfl Pp (.c rfl (.c rfl .n)) (.c (.t .h) (.c .h .n)) (BK _ _ _ _ (by assumption) (by assumption) (by assumption) _ (by omega)) (fun v31 B hv=>?_)
   obtain⟨y32,y33,rfl,y34,y35,y36,rfl⟩:=hv
   refine AQ (AB (.t7 2 8 9 10 11 64 65) ?_)
   refine AV (AV (AA (AJ ?_)))
   refine Gt (Av rfl rfl (IntWalk.i64_in _ (by first | omega | (simp only [List.length_cons,List.length_nil];omega)))) ?_
   refine Gm rfl ?_
   refine AQ (AB (.t7 2 8 9 10 11 64 65) ?_)
   refine CE (.c (.t .h) (.c .h (.c .h .n))) ?_
   refine CZ ?_
   refine DC (k+1) _ _ _ ?_ ?_ (.t7 65 2 8 9 10 11 64) (.refl _)
   · exact⟨by omega,by omega,by rw [AH.FX hI11,← hI13,show AH.piece e (AH.Il e b) (AH.F6 e b) (AH.EH e b) k=_ from((AX c4).trans ((AX c5).trans ((AX c6).trans ((AX c7).trans ((AX c8).trans (BB c9))))))],by assumption,by assumption,by assumption⟩
   · omega
  have c9p:=kz c9
  refine Gs (Gm rfl (Gt (Af rfl rfl) (Ga rfl (Gn (.t9 2 8 9 10 11 13 64 65 137) ?_))))
  refine Gc (fun c10=>?_) (fun c10=>?_)
  ·
   have c10p:=kz c10
   refine AJ (Gt (Ai Z8 rfl) (Gt (AG rfl A2 .m2 Ing.Event.l5 rfl rfl) ?_))
   refine BA rfl eB (.c rfl .n) (fun w hS=>LX _ hs.n0 hs.n1 w (gl0.st hS)) ?_
   refine Ah rfl Pp (.c rfl (.c rfl .n)) (.c (.t .h) (.c .h .n)) (BK _ _ _ _ (by assumption) (by assumption) (by assumption) _ (by omega)) (fun v37 B hv=>?_)
   obtain⟨y38,y39,rfl,y40,y41,y42,rfl⟩:=hv
   refine AQ (AB (.t7 2 8 9 10 11 64 65) ?_)
   refine AV (AV (AA (AJ ?_)))
   refine Gt (Av rfl rfl (IntWalk.i64_in _ (by first | omega | (simp only [List.length_cons,List.length_nil];omega)))) ?_
   refine Gm rfl ?_
   refine AQ (AB (.t7 2 8 9 10 11 64 65) ?_)
   refine CE (.c (.t .h) (.c .h (.c .h .n))) ?_
   refine CZ ?_
   refine DC (k+1) _ _ _ ?_ ?_ (.t7 65 2 8 9 10 11 64) (.refl _)
   · exact⟨by omega,by omega,by rw [AH.FX hI11,← hI13,show AH.piece e (AH.Il e b) (AH.F6 e b) (AH.EH e b) k=_ from((AX c4).trans ((AX c5).trans ((AX c6).trans ((AX c7).trans ((AX c8).trans ((AX c9).trans (BB c10)))))))],by assumption,by assumption,by assumption⟩
   · omega
  have c10p:=kz c10
  refine AJ (Gm rfl ?_)
  refine Ah rfl YQ (.c rfl (.c rfl .n)) (.c (.t .h) (.c .h .n)) (Ci _ _ _ _ (by assumption) (by assumption) (by assumption) _ (by omega)) (fun v43 B hv=>?_)
  obtain⟨y44,y45,rfl,y46,y47,y48,rfl⟩:=hv
  refine AQ (AB (.t7 2 8 9 10 11 64 65) ?_)
  refine AV (AV (AA (AJ ?_)))
  refine Gt (Av rfl rfl (IntWalk.i64_in _ (by first | omega | (simp only [List.length_cons,List.length_nil];omega)))) ?_
  refine Gm rfl ?_
  refine AQ (AB (.t7 2 8 9 10 11 64 65) ?_)
  refine CE (.c (.t .h) (.c .h (.c .h .n))) ?_
  refine CZ ?_
  refine DC (k+1) _ _ _ ?_ ?_ (.t7 65 2 8 9 10 11 64) (.refl _)
  · exact⟨by omega,by omega,by rw [AH.FX hI11,← hI13,show AH.piece e (AH.Il e b) (AH.F6 e b) (AH.EH e b) k=_ from((AX c4).trans ((AX c5).trans ((AX c6).trans ((AX c7).trans ((AX c8).trans ((AX c9).trans (AX c10)))))))],by assumption,by assumption,by assumption⟩
  · omega
 have c3p:=kz c3
 obtain rfl:k=((AH.EH e b).length:Int):=by omega
 refine Bb (AW (AW (Ag ?_)))
 refine AB (.t1 11) ?_
 refine AA (Gs ?_)
 refine Ah rfl ZF (.c rfl .n) (.c (.t .h) (.c .h .n)) (Cy _ _ _ _ (by assumption) (by assumption) (by omega)) (fun v49 B hv=>?_)
 obtain⟨rfl,rfl⟩:=hv
 refine Ga rfl (Ga rfl (Gn (.t2 4 5) (Ac ?_)))
 refine AY rfl (.tmp rfl (.tmp rfl .n)) ?_
 intro w1 hS;refine⟨?_,hS.Am⟩;rw [show AH.tell e b=_ from(AX c1).trans (AX c2),hI13];rfl
theorem Gv (p:Az)(w:World):Ed Tryz.prog 44 #[.agg p.enc.toArray] w fun v w'=>v = .bool (Page.Bh p)∧CA w w':=by
 refine Ak [] [] Tryz.func44 rfl rfl rfl (St.start w []) ?_
 refine Gs ?_
 refine B6 rfl rfl rfl (fun b1=>?_)
 refine Ga rfl (Gn (.t1 1) (Gs (Gt (Ai Jp rfl) (Gt (AG rfl F3 .m0 Az.l0 rfl rfl) (Gt (Ar rfl Tryz.underlying52 rfl) (Gt (IG rfl rfl) (Gm rfl ?_)))))))
 refine Bf 7 rfl rfl (fun q=>Ai Jk rfl) (Bf 7 rfl rfl (fun q=>AG (Bc rfl q) CX .m0 Az.l3 rfl rfl) (Bf 7 rfl rfl (fun q=>BI rfl Tryz.underlying9 (Bc rfl q)) (Bf 7 rfl rfl (fun q=>IG (Bc rfl q) rfl) (Gt (BG rfl rfl (fun h=>h)) (Gm rfl (Bf 13 rfl rfl (fun q=>Ai Mi rfl) (Bf 13 rfl rfl (fun q=>AG (Bc rfl q) A2 .m0 Az.l1 rfl rfl) ?_)))))))
 refine Bf 13 rfl rfl (fun q=>CK (Bc rfl q) rfl) (Gt (BG rfl rfl (fun h=>h)) (Gm rfl (Bf 18 rfl rfl (fun q=>Ai Mi rfl) (Bf 18 rfl rfl (fun q=>AG (Bc rfl q) A2 .m0 Az.l1 rfl rfl) (Bf 18 rfl rfl (fun q=>IG (Bc rfl q) rfl) (Gt (BG rfl rfl (fun h=>h)) (Ga rfl ?_)))))))
 refine Gn (.t1 2) (Ac ?_)
 refine AY rfl (.tmp rfl .n) ?_
 intro w1 hS;refine⟨congrArg Value.bool ?_,hS.Am⟩;rfl
theorem NP {t0:Nat}(p:Az)(qs:List Ap)(s:Ap):FU Tryz.prog 82 #[.agg p.enc.toArray,BU s] [] (fun w=>Rd w p.wait t0 1 (qs.flatMap A8)) (fun v B=>(Page.Bh p=false∧v = .tuple #[.agg p.enc.toArray, .int .i64 2]∧B = [])∨(Page.Bh p=true∧p.cut=true∧v = .tuple #[.agg p.enc.toArray, .int .i64 6]∧B = [])∨(Page.Bh p=true∧p.cut=false∧60≤qs.length∧v = .tuple #[.agg (Az.enc ⟨p.wait,p.shown,p.B9,p.ring,true⟩).toArray, .int .i64 0]∧B = [])∨(Page.Bh p=true∧p.cut=false∧qs.length < 60∧∃ h':Hd,v = .tuple #[.agg (Az.enc ⟨h',p.shown,p.B9,p.ring,p.cut⟩).toArray, .int .i64 0]∧h'.len=qs.length+1∧B = [Ab.own h' 9 1 ((qs ++ [s]).flatMap A8)])):=by
 intro w hS0 hH
 have r0:=hH
 have hl:=r0.La DX (by decide)
 refine Ak _ _ Tryz.func82 rfl rfl rfl (hS0) ?_
 refine Gs ?_
 refine B6 rfl rfl rfl (fun b1=>?_)
 refine BD rfl W9 rfl (fun b2=>?_)
 refine Ga rfl (Gn (.t3 1 2 4) (Ao (Ae (Gs (Gt (AZ rfl C5 .m1 (AU.id Az.fl.len Az.fl.one) rfl) ?_)))))
 refine BA rfl av (.c rfl .n) (fun w hS=>Gv _ w) ?_
 refine Gt (BT rfl) (Ga rfl (Gn (.t4 1 2 4 6) ?_))
 refine Gc (fun c1=>?_) (fun c1=>?_)
 ·
  refine Gs (Gt (AZ rfl C5 .m1 (AU.id Az.fl.len Az.fl.one) rfl) ?_)
  refine AT (AK (AU.id Az.fl.len Az.fl.one) rfl rfl rfl Fz rfl .h) ?_
  refine Ga rfl (Gn (.t2 4 5) (Ac (AS (AD ?_))))
  refine AY rfl (.cell rfl .m0 (.inl ⟨(by rw [Az.fl.len];exact C5),rfl⟩) (.tmp rfl .n)) ?_
  intro w1 hS
  have hS:=(hS.perm (Ax.perm .n)).A1
  exact⟨_, .inl ⟨by simpa using c1,rfl,rfl⟩,hS⟩
 have c1p:=kz c1
 have hgd:Page.Bh p=true:=by simpa using c1
 have hg:=(Page.Hl p).1 hgd
 refine Gs (Gt (Ai LD rfl) (Gt (AG rfl Dn .m1 Az.l4 rfl rfl) (Ga rfl (Gn (.t4 1 2 4 11) ?_))))
 refine Gc (fun c2=>?_) (fun c2=>?_)
 ·
  refine Gs (Gt (AZ rfl C5 .m1 (AU.id Az.fl.len Az.fl.one) rfl) ?_)
  refine AT (AK (AU.id Az.fl.len Az.fl.one) rfl rfl rfl Fz rfl .h) ?_
  refine Ga rfl (Gn (.t2 4 5) (Ac (AS (AD ?_))))
  refine AY rfl (.cell rfl .m0 (.inl ⟨(by rw [Az.fl.len];exact C5),rfl⟩) (.tmp rfl .n)) ?_
  intro w1 hS
  have hS:=(hS.perm (Ax.perm .n)).A1
  exact⟨_, .inr (.inl ⟨hgd,c2,rfl,rfl⟩),hS⟩
 have c2p:=kz c2
 refine Gs (Gt (Ai Jp rfl) (Gt (AG rfl F3 .m1 Az.l0 rfl rfl) (Gt (Ar rfl Tryz.underlying52 rfl) (Gt (CK rfl rfl) (Ga rfl (Gn (.t4 1 2 4 15) ?_))))))
 refine Gc (fun c3=>?_) (fun c3=>?_)
 ·
  have c3p:=kz c3
  refine Gs (Gt (Ai LD rfl) ?_)
  refine AT (AK Az.l4 rfl rfl rfl KU rfl (.t .h)) ?_
  refine Gn (.t2 2 4) (Gs (Gt (AZ rfl C5 .m1 (AU.id Az.fl.len Az.fl.one) rfl) ?_))
  refine AT (AK (AU.id Az.fl.len Az.fl.one) rfl rfl rfl Fz rfl .h) ?_
  refine Ga rfl (Gn (.t2 4 5) (Ac (AS (AD ?_))))
  refine AY rfl (.cell rfl .m0 (.inl ⟨(by rw [Az.fl.len];exact C5),rfl⟩) (.tmp rfl .n)) ?_
  intro w1 hS
  have hS:=(hS.perm (Ax.perm .n)).A1
  exact⟨_, .inr (.inr (.inl ⟨hgd,by simpa using c2,by simp at c3;omega,rfl,rfl⟩)),hS⟩
 have c3p:=kz c3
 refine Aa ?_
 refine AB (.t3 1 2 4) ?_
 refine AV (AA (Gs (Gt (Ai Jp rfl) (Gt (AG rfl F3 .m1 Az.l0 rfl rfl) ?_))))
 refine BF rfl WV (.c rfl .n) .n (B0 _ _ (by first | assumption | omega)) (fun w hS=>(Kn.IT r0) w hS) (fun v1 B hv=>?_)
 obtain⟨y2,rfl,y3,rfl⟩:=hv
 refine Gm rfl ?_
 refine Fy A8 DX rfl Tryz.underlying52 E5 Sy rfl (by decide) (by decide) rfl rfl (fun b3=>?_)
 refine Ce DX rfl Tryz.underlying52 E5 Sy rfl YZ (by decide) (by decide) rfl rfl (fun w hS=>Src.D7 Tryz.underlying52 ((Kn.own .m0) w hS)) (by(try dsimp only);omega) (fun _=>(.t .h)) (fun h5 h5l h5z=>?_)
 refine Gt (Ai Jp rfl) ?_
 refine AT (AK Az.l0 rfl rfl rfl OZ rfl (.t (.t (.t .h)))) ?_
 refine Gn (.t2 2 4) (Gs (Gt (AZ rfl C5 .m3 (AU.id Az.fl.len Az.fl.one) rfl) ?_))
 refine AT (AK (AU.id Az.fl.len Az.fl.one) rfl rfl rfl Fz rfl (.t (.t .h))) ?_
 refine Ga rfl (Gn (.t2 4 5) (Ac ?_))
 refine AY rfl (.cell rfl .m2 (.inl ⟨(by rw [Az.fl.len];exact C5),rfl⟩) (.tmp rfl .n)) ?_
 intro w1 hS
 have hS:=(hS.perm (Ax.perm (.c (.t .h) .n))).A1
 exact⟨_, .inr (.inr (.inr ⟨hgd,by simpa using c2,by simp at c3;omega,_,rfl,by(try dsimp only at *);(try simp only [List.length_cons,List.length_nil] at *);omega,rfl⟩)),hS⟩
theorem EL (b:Nat)(V:AM)(ls:Vector BJ 4)(ev:List Ing.Event)(k:Int)(u:Ap)(hk:0≤k∧k < 4)(ht:(ls.at k).told.length≤1000000):JQ Tryz.prog 64 #[.pointer (some ⟨b,0,none⟩), .pointer (some ⟨b,165+k.toNat * 22,none⟩),BU u] [Ab.box b 101 (AM.enc V),Ab.EB (CR 9 (AM.Au V) ls),Ab.own (AM.last V) 56 16 ((ev).flatMap Ing.Event.enc)] (fun v B=>∃ V' ls' ev',v = .tuple #[]∧A5 V' ls' ev'=AI.tell (A5 V ls ev) k u∧B = [Ab.box b 101 (AM.enc V'),Ab.EB (CR 9 (AM.Au V') ls'),Ab.own (AM.last V') 56 16 ((ev').flatMap Ing.Event.enc)]):=by
 intro w hS0
 refine Ak _ _ Tryz.func64 rfl rfl rfl (hS0) ?_
 refine Ft (k:=k) hk.1 hk.2 (fun sv sl hsv hlv hln=>?_)
 refine Ba (.t (.t (.t .h))) ?_
 refine Ba (.t (.t .h)) ?_
 refine Y6 (Lm:= [_,_]) (fun(o:Az) (w0:Hd) (ws:List Ap)=>Cq { sv with out:=o } ⟨sl.queue,ws,sl.told⟩=(Cq sv sl).line u∧o.wait=w0) (fun(o:Az) (w0:Hd) (ws:List Ap)=> []) (fun(o:Az) (w0:Hd) (ws:List Ap)=> [Ab.own w0 9 1 (ws.flatMap A8),Ab.box b 101 (Ji V k { sv with out:=o })]) (.t2 1 2) rfl ?_ (fun o w0 ws hC=>?_)
 ·
  refine AJ (Gm rfl (Gm rfl (Gt (BV rfl) (Gt (Ai D2 rfl) (Gt (AZ rfl C5 .m1 ((AU.BL V hk.1 hk.2).comp A3.l4) rfl) (Gm rfl ?_))))))
  refine BF rfl eM (.c rfl (.c rfl .n)) .n (NP _ _ _) (fun w hS=>(Kn.own .m0) w hS) (fun v1 B hv=>?_)
  rcases hv with ⟨y2,rfl,rfl⟩ | ⟨y3,y4,rfl,rfl⟩ | ⟨y5,y6,y7,rfl,rfl⟩ | ⟨y8,y9,y10,y11,rfl,y12,rfl⟩
  ·
   refine Gm rfl (Gt (AN rfl rfl) (Gt (AN rfl rfl) (Gt (BV rfl) (Gt (Ai D2 rfl) ?_))))
   refine AT (AK ((AU.BL V hk.1 hk.2).comp A3.l4) rfl rfl rfl Fz rfl (.t .h)) ?_
   refine AQ (AB (.t2 1 2) ?_)
   refine NV _ _ _ ?_ (.t2 1 2) (.refl _)
   · exact⟨(XC hln.2.1 y2).symm,rfl⟩
  ·
   refine Gm rfl (Gt (AN rfl rfl) (Gt (AN rfl rfl) (Gt (BV rfl) (Gt (Ai D2 rfl) ?_))))
   refine AT (AK ((AU.BL V hk.1 hk.2).comp A3.l4) rfl rfl rfl Fz rfl (.t .h)) ?_
   refine AQ (AB (.t2 1 2) ?_)
   refine NV _ _ _ ?_ (.t2 1 2) (.refl _)
   · exact⟨(Xk hln.2.1 y3 y4).symm,rfl⟩
  ·
   refine Gm rfl (Gt (AN rfl rfl) (Gt (AN rfl rfl) (Gt (BV rfl) (Gt (Ai D2 rfl) ?_))))
   refine AT (AK ((AU.BL V hk.1 hk.2).comp A3.l4) rfl rfl rfl Fz rfl (.t .h)) ?_
   refine AQ (AB (.t2 1 2) ?_)
   refine NV _ _ _ ?_ (.t2 1 2) (.refl _)
   · exact⟨(WU hln.2.1 y5 y6 y7).symm,rfl⟩
  refine Gm rfl (Gt (AN rfl rfl) (Gt (AN rfl rfl) (Gt (BV rfl) (Gt (Ai D2 rfl) ?_))))
  refine AT (AK ((AU.BL V hk.1 hk.2).comp A3.l4) rfl rfl rfl Fz rfl (.t (.t .h))) ?_
  refine AQ (AB (.t2 1 2) ?_)
  refine CE (.c .h (.c (.t .h) (.c (.t .h) (.c (.t .h) (.c (.t .h) (.c (.t .h) .n)))))) ?_
  refine CZ ?_
  refine NV _ _ _ ?_ (.t2 1 2) (.refl _)
  · exact⟨(Vx hln.2.1 y8 y9 y10 _).symm,rfl⟩
 obtain⟨hE1,hE2⟩:=hC
 have ht2:sl.told.length≤1000000:=by rw [← hlv];exact ht
 refine Gs (Gm rfl (Gt (BV rfl) (Gt (Ai D2 rfl) (Gt (Ai LD rfl) (Gt (AG rfl Dn .m1 (((AU.BL V hk.1 hk.2).comp A3.l4).comp Az.l4) rfl rfl) (Gt (BT rfl) (Gn (.t3 1 2 23) ?_)))))))
 refine Gc (fun c1=>?_) (fun c1=>?_)
 ·
  have c1p:=kz c1
  refine AJ (Gm rfl (Gm rfl (Gt (BV rfl) (Gt (Ai Q5 rfl) (Gt (AG rfl F3 .m1 ((AU.BL V hk.1 hk.2).comp A3.l5) rfl rfl) (Gm rfl ?_))))))
  refine Fy A8 DX rfl Tryz.underlying52 E5 Sy rfl (by decide) (by decide) rfl rfl (fun b1=>?_)
  refine Ce DX rfl Tryz.underlying52 E5 Sy rfl YZ (by decide) (by decide) rfl rfl (fun w hS=>Src.D7 Tryz.underlying52 ((Kn.own .m0) w hS)) (by(try dsimp only);omega) (fun _=>(.t (.t (.t (.t .h))))) (fun h14 h14l h14z=>?_)
  refine Gt (BV rfl) (Gt (Ai Q5 rfl) ?_)
  refine AT (AK ((AU.BL V hk.1 hk.2).comp A3.l5) rfl rfl rfl OZ rfl (.t (.t .h))) ?_
  refine AQ ?_
  refine Bk rfl .n ?_
  intro w1 hS
  have hS:=(hS.perm (Ax.perm (.c (.t (.t (.t .h))) (.c (.t .h) (.c (.t (.t .h)) (.c (.t .h) (.c (.t .h) (.c (.t .h) .n)))))))).A1
  have hS:=hS.close' hk.1 hk.2 (by rfl) (by exact hE2) (by rfl)
  refine⟨_,⟨V.BL k _,ls.put k ⟨_,_,_⟩,ev,rfl,?ga1,rfl⟩,hS⟩
  case ga1=>exact Em hk.1 hk.2 hsv hlv (f:=fun x=>x.tell u) (by show _=((Cq sv sl).line u).note u;rw [← hE1];exact(aI (l:=⟨sl.queue,ws,sl.told⟩) c1 _).symm)
 refine Aa ?_
 refine Bk rfl .n ?_
 intro w1 hS
 have hS:=(hS.perm (Ax.perm (.c (.t (.t .h)) (.c .h (.c (.t .h) (.c .h (.c .h (.c .h .n)))))))).A1
 have hS:=hS.close' hk.1 hk.2 (by rfl) (by exact hE2) (by rfl)
 refine⟨_,⟨V.BL k _,ls.put k ⟨_,_,_⟩,ev,rfl,?ga2,rfl⟩,hS⟩
 case ga2=>exact Em hk.1 hk.2 hsv hlv (f:=fun x=>x.tell u) (by show _=((Cq sv sl).line u).note u;rw [← hE1];exact(aV (l:=⟨sl.queue,ws,sl.told⟩) c1).symm)
theorem Ep (b:Nat)(V:AM)(ls:Vector BJ 4)(ev:List Ing.Event)(f:Hd)(es:List Ing.Event)(n:Nat)(hf:f.len=es.length)(hn:Wc ls n)(hm:n+es.length≤1000000)(hl:ev.length≤1000000)(he:(∀ e∈es,∀ c:Int,(decide (c < 0) || decide (6≤c) || decide (AH.Ro (e.GZ.at c) 1=0))=false→AH.Small e)):FU Tryz.prog 79 #[.pointer (some ⟨b,0,none⟩),f.val] [Ab.box b 101 (AM.enc V),Ab.EB (CR 9 (AM.Au V) ls),Ab.own (AM.last V) 56 16 ((ev).flatMap Ing.Event.enc),Ab.own f 56 16 (es.flatMap Ing.Event.enc)] (fun w=>(GV 2 Fp w∧2 ∉ Cg [Ab.box b 101 (AM.enc V),Ab.EB (CR 9 (AM.Au V) ls),Ab.own (AM.last V) 56 16 ((ev).flatMap Ing.Event.enc),Ab.own f 56 16 (es.flatMap Ing.Event.enc)])∧(GV 0 AH.DJ w∧0 ∉ Cg [Ab.box b 101 (AM.enc V),Ab.EB (CR 9 (AM.Au V) ls),Ab.own (AM.last V) 56 16 ((ev).flatMap Ing.Event.enc),Ab.own f 56 16 (es.flatMap Ing.Event.enc)])) (fun v B=>∃ V' ls' ev',v = .tuple #[]∧A5 V' ls' ev'=AI.Gx (A5 V ls ev) es∧B = [Ab.box b 101 (AM.enc V'),Ab.EB (CR 9 (AM.Au V') ls'),Ab.own (AM.last V') 56 16 ((ev').flatMap Ing.Event.enc),Ab.own f 56 16 (es.flatMap Ing.Event.enc)]):=by
 intro w hS0 hH
 obtain⟨⟨gl0,gm0⟩,⟨gl1,gm1⟩⟩:=hH
 refine Ak _ _ Tryz.func79 rfl rfl rfl (hS0) ?_
 refine Ao ?_
 refine XA (fun w hS=>(Kn.own .m2 w hS).La Ing.Event.fl (by decide)) (fun hLl=>?_)
 refine AJ (Gm rfl (Gm rfl (Gt (BV rfl) (Gt (Ai NR rfl) (Gt (AG rfl Di .m0 AM.l3 rfl rfl) (Gm rfl ?_))))))
 refine Ce Ing.Event.fl rfl Tryz.underlying53 L6 HZ rfl VP (by decide) (by decide) rfl rfl (fun w hS=>Src.D7 Tryz.underlying53 ((Kn.own .m3) w hS)) (by(try dsimp only);omega) (fun _=>(.t (.t .h))) (fun h1 h1l h1z=>?_)
 refine Gt (BV rfl) (Gt (Ai NR rfl) ?_)
 refine AT (AK AM.l3 rfl rfl rfl Ra rfl .h) ?_
 refine Gn (.t2 0 1) (Gs (Gm rfl (Gt (Ar rfl Tryz.underlying53 rfl) (Gm rfl (Gn (.t4 0 19 20 21) (Ae ?_))))))
 refine Bn (.t4 21 0 19 20) ?_
 refine Ba (.t (.t .h)) ?_
 refine Ba (.t (.t .h)) ?_
 refine Ba (.t (.t .h)) ?_
 refine Iu (fun(k:Int) (V1:AM) (ls1:Vector BJ 4) (ev1:List Ing.Event)=>0≤k∧k≤(es.length:Int)∧A5 V1 ls1 ev1=({ (A5 V ls ev) with last:=ev++es }:AI).Hg (es.take k.toNat)∧Wc ls1 (n+k.toNat)) (fun(k:Int) (V1:AM) (ls1:Vector BJ 4) (ev1:List Ing.Event)=>((es.length:Int) - k).toNat) (fun(k:Int) (V1:AM) (ls1:Vector BJ 4) (ev1:List Ing.Event)=> [(21, .int .i64 k)]) (fun(k:Int) (V1:AM) (ls1:Vector BJ 4) (ev1:List Ing.Event)=> [Ab.box b 101 (AM.enc V1),Ab.EB (CR 9 (AM.Au V1) ls1),Ab.own (AM.last V1) 56 16 (ev1.flatMap Ing.Event.enc)]) (0) (_) (_) (_) ?_ rfl rfl (fun k V1 ls1 ev1 hI1=>?_)
 · exact⟨by omega,by omega,rfl,hn⟩
 obtain⟨hI11,hI12,hI13,hI14⟩:=hI1
 refine Gs (Gt (A7 rfl rfl) (AQ (AA (Ao ?_))))
 refine Gc (fun c1=>?_) (fun c1=>?_)
 ·
  have c1p:=kz c1
  refine Aa ?_
  refine AB (.t4 0 19 20 21) ?_
  refine AA (Ao (Ae (Gs ?_)))
  refine Gt (Bp af (by decide) (Kn.own .m3) rfl rfl (by omega) (by omega)) ?_
  refine Gt (Ku rfl L4 (by decide) Ing.Event.fl (Kn.own .m3) (by omega)) ?_
  refine BD rfl HZ rfl (fun b1=>?_)
  refine AT (AK (AU.id Ing.Event.fl.len Ing.Event.fl.one) rfl rfl rfl L6 rfl .h) ?_
  refine Gn (.t5 0 5 19 20 21) (Gs (Gm rfl (AQ (AA (Ae ?_)))))
  refine Bn (.t6 25 0 5 19 20 21) ?_
  refine Ba (.t (.t (.t .h))) ?_
  refine Ba (.t (.t (.t .h))) ?_
  refine Ba (.t (.t (.t .h))) ?_
  refine Iu (fun(i:Int) (V2:AM) (ls2:Vector BJ 4) (ev2:List Ing.Event)=>0≤i∧i≤4∧A5 V2 ls2 ev2=AI.CT (es.getD k.toNat default) (A5 V1 ls1 ev1) i.toNat∧(∀ j:Int,i≤j→j < 4→(ls2.at j).told.length≤n+k.toNat)∧(∀ j:Int,0≤j→j < 4→(ls2.at j).told.length≤n+k.toNat+1)) (fun(i:Int) (V2:AM) (ls2:Vector BJ 4) (ev2:List Ing.Event)=>(4 - i).toNat) (fun(i:Int) (V2:AM) (ls2:Vector BJ 4) (ev2:List Ing.Event)=> [(25, .int .i64 i)]) (fun(i:Int) (V2:AM) (ls2:Vector BJ 4) (ev2:List Ing.Event)=> [Ab.box b 101 (AM.enc V2),Ab.EB (CR 9 (AM.Au V2) ls2),Ab.own (AM.last V2) 56 16 (ev2.flatMap Ing.Event.enc)]) (0) (V1) (ls1) (ev1) ?_ rfl rfl (fun i V2 ls2 ev2 hI2=>?_)
  · exact⟨by omega,by omega,rfl,(fun j j0 j1=>hI14 j j0 j1),(fun j j0 j1=>Nat.le_succ_of_le (hI14 j j0 j1))⟩
  obtain⟨hI21,hI22,hI23,hI24,hI25⟩:=hI2
  refine Gs (Gt (A7 rfl rfl) (AQ (AA (Ao ?_))))
  refine Gc (fun c2=>?_) (fun c2=>?_)
  ·
   have c2p:=kz c2
   refine Aa ?_
   refine AB (.t6 0 5 19 20 21 25) ?_
   refine AA (Ao (Ae (Gs (Gm rfl (Ga rfl (Gn (.t7 0 5 6 19 20 21 25) (Gs ?_)))))))
   refine Gm rfl (Gm rfl (Gt (BV rfl) (Gt (Ai HH rfl) ?_)))
   refine Gt (AR Qu rfl rfl (by omega) (by omega)) ?_
   refine Ga rfl (Gn (.t7 0 5 7 19 20 21 25) (CG (Gm rfl (Gt (BV rfl) (Gt (Ai I4 rfl) ?_)))))
   refine Gt (AG rfl A2 .m0 ((AM.l1.comp (AU.ar (n:=4) A3.fl (by omega))).comp A3.l0) rfl rfl) ?_
   refine Gt (Cb rfl rfl) (Gn (.t8 0 5 7 19 20 21 25 37) ?_)
   refine Gc (fun c3=>?_) (fun c3=>?_)
   ·
    have c3p:=kz c3
    refine Bb (AW (Ag ?_))
    refine AB (.t6 0 5 19 20 21 25) ?_
    refine AA (AJ ?_)
    refine Gt (Av rfl rfl (IntWalk.i64_in _ (by omega))) ?_
    refine Gm rfl ?_
    refine AQ (AB (.t6 0 5 19 20 21 25) ?_)
    refine DC (i+1) _ _ _ ?_ ?_ (.t6 25 0 5 19 20 21) (.refl _)
    · exact⟨by omega,by omega,((Kv hI21 (by omega) hI23).trans (BB c3)).symm,(fun j j0 j1=>hI24 j (by omega) j1),hI25⟩
    · omega
   have c3p:=kz c3
   refine Aa ?_
   refine AB (.t7 0 5 7 19 20 21 25) ?_
   refine AA (Ao ?_)
   refine BE (N:=11) [0,0,2,6,14,31,63,127,127,255,1023] mix (by kernel_rfl) rfl ?_
   refine Pf 0 rfl (AZ rfl L4 .m3 (AU.id Ing.Event.fl.len Ing.Event.fl.one) rfl) (Pf 1 rfl (AF rfl) (Pf 2 rfl (BV rfl) (Pf 3 rfl (Ai IL rfl) ?_)))
   refine Pf 4 rfl (AG rfl A2 .m0 ((AM.l1.comp (AU.ar (n:=4) A3.fl (by omega))).comp A3.l1) rfl rfl) ?_
   refine BX 5 rfl rfl (by kernel_rfl) (MD (LJ (D9 dh (.c rfl (.c rfl .n)) (fun w hS=>NC (es.getD k.toNat default) _ (he _ (MJ (d:=default) (xs:=es) (i:=k.toNat) (by omega)) _) w (gl0.stM gm0 hS) (gl1.stM gm1 hS))))) ?_
   refine Pf 6 rfl (AF rfl) (Pf 7 rfl (AN rfl rfl) (Pf 8 rfl (AN rfl rfl) (Pf 9 rfl (A0 rfl) (Pf 10 rfl (A0 rfl) ?_))))
   refine A4 (by kernel_rfl) ?_
   refine AB (.t9 0 5 7 8 9 19 20 21 25) ?_
   refine AA (Gs (Gm rfl (Gn (.t9 0 5 7 8 19 20 21 25 47) ?_)))
   refine Gc (fun c4=>?_) (fun c4=>?_)
   ·
    have c4p:=kz c4
    refine AJ (Gm rfl (Gm rfl (Gm rfl ?_)))
    refine Ah rfl TV (.c rfl (.c rfl (.c rfl .n))) (.c .h (.c .h (.c .h .n))) (EL _ V2 ls2 _ i _ (by omega) (Nat.le_trans (hI24 i (by omega) (by omega)) (by omega))) (fun v2 B hv=>?_)
    obtain⟨y3,y4,y5,rfl,y6,rfl⟩:=hv
    refine AQ (AB (.t6 0 5 19 20 21 25) ?_)
    refine AV (AA (AJ ?_))
    refine Gt (Av rfl rfl (IntWalk.i64_in _ (by omega))) ?_
    refine Gm rfl ?_
    refine AQ (AB (.t6 0 5 19 20 21 25) ?_)
    refine DC (i+1) _ _ _ ?_ ?_ (.t6 25 0 5 19 20 21) (.refl _)
    · exact⟨by omega,by omega,y6.trans ((Kv hI21 (by omega) hI23).trans ((AX c3).trans (BB c4))).symm,(fun j j0 j1=>by have h:=hI24 j (by omega) j1;rw [(K9 hI21 (by omega) y6 (by omega) j1).2 (by omega)];exact h),(fun j j0 j1=>if c:j=i then(by subst c;have h:=hI24 j (by omega) j1;have h2:=(K9 hI21 (by omega) y6 j0 j1).1;omega) else(by rw [(K9 hI21 (by omega) y6 j0 j1).2 c];exact hI25 j j0 j1))⟩
    · omega
   have c4p:=kz c4
   refine Aa ?_
   refine AB (.t6 0 5 19 20 21 25) ?_
   refine AV (AA (AJ ?_))
   refine Gt (Av rfl rfl (IntWalk.i64_in _ (by omega))) ?_
   refine Gm rfl ?_
   refine AQ (AB (.t6 0 5 19 20 21 25) ?_)
   refine DC (i+1) _ _ _ ?_ ?_ (.t6 25 0 5 19 20 21) (.refl _)
   · exact⟨by omega,by omega,((Kv hI21 (by omega) hI23).trans ((AX c3).trans (AX c4))).symm,(fun j j0 j1=>hI24 j (by omega) j1),hI25⟩
   · omega
  have c2p:=kz c2
  obtain rfl:i=4:=by omega
  refine Bb (AW (AW (Ag ?_)))
  refine AB (.t4 0 19 20 21) ?_
  refine AV (AA (AJ ?_))
  refine Gt (Av rfl rfl (IntWalk.i64_in _ (by omega))) ?_
  refine Gm rfl ?_
  refine AQ (AB (.t4 0 19 20 21) ?_)
  refine CE (.c .h (.c .h (.c .h (.c (.t .h) .n)))) ?_
  refine CZ ?_
  refine DC (k+1) _ _ _ ?_ ?_ (.t4 21 0 19 20) (.refl _)
  · exact⟨by omega,by omega,by rw [Tv hI11 (by omega),← hI13];exact hI23,fun j j0 j1=>by have h:=hI25 j j0 j1;rw [show(k+1).toNat=k.toNat+1 by omega];omega⟩
  · omega
 have c1p:=kz c1
 obtain rfl:k=(es.length:Int):=by omega
 refine Bb (AW (AW (Ag ?_)))
 refine Bk rfl .n ?_
 intro w1 hS
 have hS:=(hS.perm (Ax.perm (.c .h (.c .h (.c .h (.c .h .n)))))).A1
 refine⟨_,⟨V1,ls1,ev1,rfl,?ga,rfl⟩,hS⟩
 case ga=>rw [hI13,show(es.length:Int).toNat=es.length by omega,List.take_length];exact(YH rfl).symm
theorem Qp (b:Nat)(V:AM)(ls:Vector BJ 4)(ev:List Ing.Event)(k:Int)(u:Ap)(n m:Nat)(hk:0≤k∧k < 4)(hF:AI.Fit (A5 V ls ev) n m)(hn:n≤900000)(hm:m≤900000)(hu:u.length≤1000):FU Tryz.prog 93 #[.pointer (some ⟨b,0,none⟩), .pointer (some ⟨b,165+k.toNat * 22,none⟩),BU u] [Ab.box b 101 (AM.enc V),Ab.EB (CR 9 (AM.Au V) ls),Ab.own (AM.last V) 56 16 ((ev).flatMap Ing.Event.enc)] (fun w=>(GV 2 Fp w∧2 ∉ Cg [Ab.box b 101 (AM.enc V),Ab.EB (CR 9 (AM.Au V) ls),Ab.own (AM.last V) 56 16 ((ev).flatMap Ing.Event.enc)])∧(GV 0 AH.DJ w∧0 ∉ Cg [Ab.box b 101 (AM.enc V),Ab.EB (CR 9 (AM.Au V) ls),Ab.own (AM.last V) 56 16 ((ev).flatMap Ing.Event.enc)])) (fun v B=>∃ V' ls' ev',v = .tuple #[]∧A5 V' ls' ev'=AI.named (A5 V ls ev) k u∧B = [Ab.box b 101 (AM.enc V'),Ab.EB (CR 9 (AM.Au V') ls'),Ab.own (AM.last V') 56 16 ((ev').flatMap Ing.Event.enc)]):=by
 intro w hS0 hH
 obtain⟨⟨gl0,gm0⟩,⟨gl1,gm1⟩⟩:=hH
 have hel:=AE.P1 V.w u
 have hes:=AE.JH (s:=u) hF.Ff
 have htn:=GX hF
 refine Ak _ _ Tryz.func93 rfl rfl rfl (hS0) ?_
 refine Gs (Gm rfl (Gt (BV rfl) (Gt (Ai D6 rfl) (Gt (AZ rfl BW .m0 AM.l0 rfl) (Gm rfl ?_)))))
 refine BF rfl cE (.c rfl (.c rfl .n)) .n (MU V.w u hF.Ff.HA (by omega)) (fun w hS=>gl1.pull gm1 hS .n) (fun v1 B hv=>?_)
 obtain⟨y2,rfl,y3,rfl⟩:=hv
 refine Gm rfl (Gt (AN rfl rfl) (Gt (AN rfl rfl) (Gt (AN rfl rfl) (Gt (AN rfl rfl) ?_))))
 refine BD rfl LU rfl (fun b1=>?_)
 refine AT (AK (AU.id AH.fl.len AH.fl.one) rfl rfl rfl Dz rfl .h) ?_
 refine Ga rfl (Ga rfl (Ga rfl (Gn (.t6 0 1 6 7 8 9) (Gs (Gm rfl (Gn (.t6 0 1 6 7 8 21) (Ae ?_)))))))
 refine Gs (Gt (Af rfl rfl) (Ga rfl (Gn (.t7 0 1 6 7 8 21 25) ?_)))
 refine Gc (fun c1=>?_) (fun c1=>?_)
 ·
  have c1p:=kz c1
  refine Gs (Gm rfl (Gt (AZ rfl BW .m0 (AU.id AH.fl.len AH.fl.one) rfl) (Gt (BV rfl) (Gt (Ai D6 rfl) ?_))))
  refine AT (AK AM.l0 rfl rfl rfl Dz rfl (.t (.t .h))) ?_
  refine Gn (.t4 0 1 7 8) (Ao ?_)
  refine Ey (.c (.t (.t .h)) (.c (.t (.t .h)) .n)) ?_
  refine Ft (k:=k) hk.1 hk.2 (fun sv sl hsv hlv hln=>?_)
  refine AJ (Gm rfl (Gm rfl (Gm rfl (Gt (BV rfl) (Gt (Ai I4 rfl) ?_)))))
  refine AT (AK ((AU.BL { V with w:=(AE.BR V.w u).1 } hk.1 hk.2).comp A3.l0) rfl rfl rfl C6 rfl (.t (.t (.t .h)))) ?_
  refine Gt (BV rfl) (Gt (Ai IL rfl) ?_)
  refine AT (AK ((AU.BL { V with w:=(AE.BR V.w u).1 } hk.1 hk.2).comp A3.l1) rfl rfl rfl C6 rfl (.t (.t (.t .h)))) ?_
  refine Gn (.t2 0 8) ?_
  refine Ey (.c .h (.c .h (.c .h (.c .h (.c .h .n))))) ?_
  refine HM hk.1 hk.2 (by rfl) (by rfl) (by rfl) ?_
  refine AJ (Gm rfl (Gm rfl ?_))
  refine BF rfl Vg (.c rfl (.c rfl .n)) (.c .h (.c .h (.c (.t (.t .h)) (.c (.t .h) .n)))) (Ep _ (AM.BL { V with w:=(AE.BR V.w u).1 } k { sv with state:=2,Ay:=(AE.BR V.w u).2.1 }) (ls.put k ⟨sl.queue,sl.wait,sl.told⟩) ev _ (AE.BR V.w u).2.2.1 n (by assumption) (GX (by rw [(show A5 (AM.BL { V with w:=(AE.BR V.w u).1 } k { sv with state:=2,Ay:=(AE.BR V.w u).2.1 }) (ls.put k ⟨sl.queue,sl.wait,sl.told⟩) ev=({ (A5 V ls ev) with w:=(AE.BR V.w u).1 }:AI).set k { AI.at_ (A5 V ls ev) k with state:=2,Ay:=(AE.BR V.w u).2.1 } from Em (V:={ V with w:=(AE.BR V.w u).1 }) hk.1 hk.2 hsv hlv (f:=fun x=>{ x with state:=2,Ay:=(AE.BR V.w u).2.1 }) rfl)];exact hF.enters hk.1 hk.2 (of_decide_eq_true c1))) (by omega) (Nat.le_trans hF.last (by omega)) (fun e he c _=>hes.2 e he)) (fun w hS=>⟨gl0.pull gm0 hS (.c .h (.c .h (.c (.t (.t .h)) (.c (.t .h) .n)))),gl1.pull gm1 hS (.c .h (.c .h (.c (.t (.t .h)) (.c (.t .h) .n))))⟩) (fun v5 B hv=>?_)
  obtain⟨y6,y7,y8,rfl,y9,rfl⟩:=hv
  refine AQ (AB (.nil _) ?_)
  refine AV ?_
  refine Bk rfl .n ?_
  intro w1 hS
  have hS:=(hS.perm (Ax.perm (.c .h (.c .h (.c .h .n))))).A1
  refine⟨_,⟨y6,y7,y8,rfl,?ga1,rfl⟩,hS⟩
  case ga1=>exact Yg c1 (show A5 (AM.BL { V with w:=(AE.BR V.w u).1 } k { sv with state:=2,Ay:=(AE.BR V.w u).2.1 }) (ls.put k ⟨sl.queue,sl.wait,sl.told⟩) ev=({ (A5 V ls ev) with w:=(AE.BR V.w u).1 }:AI).set k { AI.at_ (A5 V ls ev) k with state:=2,Ay:=(AE.BR V.w u).2.1 } from Em (V:={ V with w:=(AE.BR V.w u).1 }) hk.1 hk.2 hsv hlv (f:=fun x=>{ x with state:=2,Ay:=(AE.BR V.w u).2.1 }) rfl) y9
 have c1p:=kz c1
 refine Gs (Gt (Af rfl rfl) (Ga rfl (Gn (.t3 0 1 41) ?_)))
 refine Gc (fun c2=>?_) (fun c2=>?_)
 ·
  have c2p:=kz c2
  refine AJ (Gm rfl (Gm rfl ?_))
  refine Ah rfl TV (.c rfl (.c rfl (.c rfl .n))) (.c (.t (.t .h)) (.c (.t (.t .h)) (.c (.t (.t .h)) .n))) (EL _ V ls ev k _ hk (Nat.le_trans (htn k hk.1 hk.2) (by omega))) (fun v10 B hv=>?_)
  obtain⟨y11,y12,y13,rfl,y14,rfl⟩:=hv
  refine AQ (AB (.nil _) ?_)
  refine AV ?_
  refine Bk rfl .n ?_
  intro w1 hS
  have hS:=(hS.perm (Ax.perm (.c .h (.c .h (.c .h .n))))).A1
  refine⟨_,⟨y11,y12,y13,rfl,?ga2,rfl⟩,hS⟩
  case ga2=>exact ZB c1 c2 y14
 have c2p:=kz c2
 refine AJ (Gm rfl (Gm rfl ?_))
 refine Ah rfl TV (.c rfl (.c rfl (.c rfl .n))) (.c (.t (.t .h)) (.c (.t (.t .h)) (.c (.t (.t .h)) .n))) (EL _ V ls ev k _ hk (Nat.le_trans (htn k hk.1 hk.2) (by omega))) (fun v15 B hv=>?_)
 obtain⟨y16,y17,y18,rfl,y19,rfl⟩:=hv
 refine AQ (AB (.nil _) ?_)
 refine AV ?_
 refine Bk rfl .n ?_
 intro w1 hS
 have hS:=(hS.perm (Ax.perm (.c .h (.c .h (.c .h .n))))).A1
 refine⟨_,⟨y16,y17,y18,rfl,?ga3,rfl⟩,hS⟩
 case ga3=>exact ZA c1 c2 y19
theorem Br (z:Int):JQ Tryz.prog 150 #[.int .i64 z] [] (fun v B=>v = .tuple #[.agg (Order.enc default).toArray, .int .i64 z]∧B = []):=by
 intro w hS0
 refine Ak _ _ Tryz.func150 rfl rfl rfl (hS0) ?_
 refine Gs ?_
 refine BD rfl L5 rfl (fun b1=>?_)
 refine Ga rfl (Gn (.t2 0 2) (Gs (Gt (BC R6 L5 rfl .nil) (Gm rfl ?_))))
 refine AT (AK (AU.id Order.fl.len Order.fl.one) rfl rfl rfl D3 rfl .h) ?_
 refine Ga rfl (Gn (.t2 2 3) (Ac ?_))
 refine AY rfl (.cell rfl .m0 (.inl ⟨(by rw [Order.fl.len];exact CB),rfl⟩) (.tmp rfl .n)) ?_
 intro w1 hS
 have hS:=(hS.perm (Ax.perm .n)).A1
 exact⟨_,⟨rfl,rfl⟩,hS⟩
theorem FG (s:Ap)(c:UInt8)(w:World):Ed Tryz.prog 87 #[BU s, .int .u8 (c.toNat:Int)] w fun v w'=>v = .int .i64 (Lib.indexByte s c)∧CA w w':=by
 refine Ak [] [] Tryz.func87 rfl rfl rfl (St.start w []) ?_
 refine Gs (Ga rfl (Gn (.t2 0 1) (Gs (Gm rfl (Gm rfl ?_)))))
 refine Gt (K1 Tryz.func112 (by kernel_rfl) (by kernel_rfl) (by kernel_rfl) (by kernel_rfl) rfl rfl) ?_
 refine Ga rfl (Gn (.t1 4) (Ac ?_))
 refine AY rfl (.tmp rfl .n) ?_
 intro w1 hS;refine⟨?_,hS.Am⟩;rfl
theorem D4 (s:Ap)(c:UInt8)(w:World):Ed Tryz.prog 76 #[BU s,BU [c]] w fun v w'=>v = .int .i64 (Lib.indexByte s c)∧CA w w':=by
 refine Ak [] [] Tryz.func76 rfl rfl rfl (St.start w []) ?_
 refine Gs (Ga rfl (Gn (.t2 0 1) (Gs (Gm rfl (Gt (BI rfl Tryz.underlying9 rfl) (Ga rfl (Gn (.t3 0 1 5) ?_)))))))
 refine Ao (Ae (Gs (Gm rfl (Gt (Af rfl rfl) (Gm rfl (Bg 19 rfl rfl (fun q=>AF rfl) (Bg 19 rfl rfl (fun q=>AF rfl) ?_)))))))
 refine Bg 19 rfl rfl (fun q=>Bw (cF rfl q) (cF rfl q)) ?_
 refine Gt (BS rfl rfl (fun h=>by rw [h];rfl)) ?_
 refine Ga rfl (Gn (.t4 0 1 5 16) ?_)
 refine Gc (fun c1=>?_) (fun c1=>?_)
 ·
  refine Gs (Ga rfl (Gn (.t1 4) (Ac (AS (AD ?_)))))
  refine AY rfl (.tmp rfl .n) ?_
  intro w1 hS;refine⟨?_,hS.Am⟩;have e : [c]=s:=by simpa using c1
  rw [← e,Page.Vm];rfl
 have c1p:=kz c1
 refine Gs (Gm rfl (Gt (Af rfl rfl) (Ga rfl (Gn (.t4 0 1 5 24) ?_))))
 refine G1 rfl (by simp) ?_
 refine Gs (Gm rfl (Gm rfl ?_))
 refine Gt (Bl Tryz.underlying9 rfl rfl (by decide) (by first | omega | simp)) ?_
 refine BA rfl dj (.c rfl (.c rfl .n)) (fun w hS=>FG _ _ w) ?_
 refine Ga rfl (Gn (.t1 4) (Ac (AS (AD ?_))))
 refine AY rfl (.tmp rfl .n) ?_
 intro w1 hS;refine⟨?_,hS.Am⟩;rfl
theorem FQ (s:Ap)(c:UInt8)(w:World):Ed Tryz.prog 176 #[BU s,BU [c]] w fun v w'=>v = .int .i64 (Lib.indexByte s c)∧CA w w':=by
 refine Ak [] [] Tryz.func176 rfl rfl rfl (St.start w []) ?_
 refine Gs (Ga rfl (Gn (.t2 0 1) (Gs (Gm rfl (Gm rfl ?_)))))
 refine BA rfl bM (.c rfl (.c rfl .n)) (fun w hS=>D4 _ _ w) ?_
 refine Ga rfl (Gn (.t1 4) (Ac ?_))
 refine AY rfl (.tmp rfl .n) ?_
 intro w1 hS;refine⟨?_,hS.Am⟩;rfl
theorem Hc (s:Ap)(c:UInt8)(w:World):Ed Tryz.prog 174 #[BU s,BU [c]] w fun v w'=>v = .int .i64 ((s.count c:Nat):Int)∧CA w w':=by
 refine Ak [] [] Tryz.func174 rfl rfl rfl (St.start w []) ?_
 refine Gs (Ga rfl (Gn (.t2 0 1) (CG (Gm rfl (Gt (BI rfl Tryz.underlying9 rfl) (Gt (Af rfl rfl) (Gn (.t3 0 1 9) ?_)))))))
 refine Dr rfl (by simp) ?_
 refine Aa ?_
 refine AB (.t2 0 1) ?_
 refine AA (CG (Gm rfl (Gt (BI rfl Tryz.underlying9 rfl) (Gt (Af rfl rfl) (Gn (.t3 0 1 15) ?_)))))
 refine G1 rfl (by simp) ?_
 refine Gs (Gm rfl (Gm rfl ?_))
 refine Gt (Bl Tryz.underlying9 rfl rfl (by decide) (by first | omega | simp)) ?_
 refine Gt (N2 Tryz.func185 (by kernel_rfl) (by kernel_rfl) (by kernel_rfl) (by kernel_rfl) rfl rfl) ?_
 refine Ga rfl (Gn (.t1 4) (Ac (AD ?_)))
 refine AY rfl (.tmp rfl .n) ?_
 intro w1 hS;refine⟨?_,hS.Am⟩;rfl
theorem JP (s:Ap)(c:UInt8)(hs:s.length≤10000000):JQ Tryz.prog 179 #[BU s,BU [c], .int .i64 0, .int .i64 (-1)] [] (fun v B=>∃ h':Hd,v=h'.val∧h'.len=(Words.pieces c s).length∧B = [Ab.own h' 9 1 ((Words.pieces c s).flatMap A8)]):=by
 intro w hS0
 have hcl:=List.count_le_length (a:=c) (l:=s)
 have hpl:=Words.FO c s
 refine Ak _ _ Tryz.func179 rfl rfl rfl (hS0) ?_
 refine Gs (Ga rfl (Gn (.t4 0 1 2 3) (CG (Gm rfl (Gt (Af rfl rfl) (Gn (.t5 0 1 2 3 13) ?_))))))
 refine Dr rfl (by simp) ?_
 refine Aa ?_
 refine AB (.t4 0 1 2 3) ?_
 refine AA (CG (Gm rfl (Gt (Bw rfl rfl) (Gn (.t5 0 1 2 3 15) ?_))))
 refine Dr rfl (by simp) ?_
 refine Aa ?_
 refine AB (.t4 0 1 2 3) ?_
 refine AA (CG (Gm rfl (Gt (A7 rfl rfl) (Gn (.t5 0 1 2 3 20) ?_))))
 refine G1 rfl (by simp) ?_
 refine AJ (Gm rfl (Gm rfl ?_))
 refine BA rfl Zq (.c rfl (.c rfl .n)) (fun w hS=>Hc _ c w) ?_
 refine Gt (Av rfl rfl (IntWalk.i64_in _ (by(try simp only [List.length_cons,List.length_nil]);omega))) ?_
 refine Ga rfl (Gn (.t4 0 1 2 3) (Gs (Gm rfl (Gm rfl (Gt (BI rfl Tryz.underlying9 rfl) ?_)))))
 refine Gt (Av rfl rfl (IntWalk.i64_in _ (by(try simp only [List.length_cons,List.length_nil]);omega))) ?_
 refine Gt (MA rfl rfl) (Ga rfl (Gn (.t4 0 1 2 3) (Gs (Gm rfl ?_))))
 refine WA rfl Tryz.underlying52 E5 Sy YZ rfl rfl (by(try simp only [List.length_cons,List.length_nil]);omega) (by(try simp only [List.length_cons,List.length_nil]);omega) (fun b1=>?_)
 refine Ga rfl (Gn (.t5 0 1 2 3 9) (Gs (Gm rfl ?_)))
 refine Gt (FR rfl rfl (IntWalk.i64_in _ (by(try simp only [List.length_cons,List.length_nil]);omega))) ?_
 refine Ga rfl (Gn (.t5 0 1 2 3 9) (Gs (Ga rfl (AQ (AA (Ao (Ae ?_)))))))
 refine Bn (.t6 0 10 1 2 3 9) ?_
 refine Dl (fun(i:Int) (r:Ap) (xs:List Ap)=>Words.OQ c s i r xs) (fun(i:Int) (r:Ap) (xs:List Ap)=>((s.count c:Int) - i).toNat) (fun(i:Int) (r:Ap) (xs:List Ap)=> [(0,BU r),(10, .int .i64 i)]) (fun(i:Int) (r:Ap) (xs:List Ap)=> [Ab.own ⟨some ⟨b1,0,none⟩,(min (((s.count c:Nat):Int)+1) ((s.length:Int)+1)).toNat,(min (((s.count c:Nat):Int)+1) ((s.length:Int)+1)).toNat⟩ 9 1 (xs.flatMap A8)]) (0) (s) (_) ?_ rfl rfl (fun i r xs hI1=>?_)
 · exact Words.OQ.start c s _ (by omega)
 have hI11:=hI1;have hi0:=hI1.i0;have hi1:=hI1.i1;have hrl:=hI1.rl;have hxl:=hI1.len
 refine CG (Gm rfl (Gm rfl (Gt (A7 rfl rfl) (Gn (.t7 0 1 2 3 9 10 36) ?_))))
 refine Gc (fun c1=>?_) (fun c1=>?_)
 ·
  have c1p:=kz c1
  refine Aa ?_
  refine AB (.t6 0 1 2 3 9 10) ?_
  refine AA (Ae (Gs (Gm rfl (Gm rfl ?_))))
  refine BA rfl XX (.c rfl (.c rfl .n)) (fun w hS=>FQ _ c w) ?_
  refine Ga rfl (Gn (.t7 0 1 2 3 9 10 11) (CG (Gm rfl (Gt (A7 rfl rfl) (Gn (.t8 0 1 2 3 9 10 11 41) ?_)))))
  refine Gc (fun c2=>?_) (fun c2=>?_)
  ·
   have c2p:=kz c2
   refine Bb (AW ?_)
   refine Jt rfl ?_
   refine AW (Ag ?_)
   refine AB (.t3 0 9 10) ?_
   refine AA (Gs (Gm rfl (Gm rfl (Gm rfl ?_))))
   refine Gt (Bp JR (by decide) (Kn.own .m0) rfl rfl (by omega) (by(try dsimp only);omega)) ?_
   refine AT (No rfl rfl E5 (by have:=hI11.len;omega) .h) ?_
   refine Gn (.t2 9 10) (Gs (Gm rfl (Gm rfl ?_)))
   refine Gt (Av rfl rfl (IntWalk.i64_in _ (by(try simp only [List.length_cons,List.length_nil]);omega))) ?_
   refine KD DX rfl Tryz.underlying52 E5 rfl rfl (by(try simp only [List.length_cons,List.length_nil]);omega) (by(try simp only [List.length_cons,List.length_nil]);omega) (fun _=> .h) ?_
   refine Ga rfl (Gn (.t1 8) (Ac ?_))
   refine AY rfl (.tmp rfl .n) ?_
   intro w1 hS
   have hS:=(hS.perm (Ax.perm (.c .h .n))).A1
   have hd:=hI11.done (by first | (right;simpa using c2) | (left;omega))
   exact⟨_,⟨_,rfl,by rw [hd.2] at *;(try simp only [Hd.cut] at *);omega,by rw [hd.2]⟩,hS⟩
  have c2p:=kz c2
  obtain⟨hm0,hm1,hnx⟩:=hI11.next rfl (by simpa using c2)
  refine Aa ?_
  refine AB (.t7 0 1 2 3 9 10 11) ?_
  refine AA (Gs (Gm rfl (Gm rfl (Gm rfl (Gm rfl (Gm rfl ?_))))))
  refine Gt (Av rfl rfl (IntWalk.i64_in _ (by(try simp only [List.length_cons,List.length_nil]);omega))) ?_
  refine Gt (Ic Tryz.underlying9 rfl rfl (by(try simp only [List.length_cons,List.length_nil]);omega) (by(try simp only [List.length_cons,List.length_nil]);omega)) ?_
  refine Gt (Bp JR (by decide) (Kn.own .m0) rfl rfl (by omega) (by(try dsimp only);omega)) ?_
  refine AT (No rfl rfl E5 (by have:=hI11.len;omega) .h) ?_
  refine Gn (.t7 0 1 2 3 9 10 11) (Gs (Gm rfl (Gm rfl (Gm rfl (Gt (BI rfl Tryz.underlying9 rfl) ?_)))))
  refine Gt (Av rfl rfl (IntWalk.i64_in _ (by(try simp only [List.length_cons,List.length_nil]);omega))) ?_
  refine Gt (GY Tryz.underlying9 rfl rfl (by(try simp only [List.length_cons,List.length_nil]);omega) (by(try simp only [List.length_cons,List.length_nil]);omega)) ?_
  refine Ga rfl (Gn (.t6 0 1 2 3 9 10) (AJ (Gm rfl ?_)))
  refine Gt (Av rfl rfl (IntWalk.i64_in _ (by(try simp only [List.length_cons,List.length_nil]);omega))) ?_
  refine Ga rfl ?_
  refine AQ (AB (.t6 0 1 2 3 9 10) ?_)
  refine AV ?_
  refine Bt (i+1) _ _ ?_ ?_ (.t6 0 10 1 2 3 9) (.refl _)
  · rw [Int.add_zero]
    exact hnx
  · omega
 have c1p:=kz c1
 refine Bb (AW (AW (Ag ?_)))
 refine AB (.t3 0 9 10) ?_
 refine AA (Gs (Gm rfl (Gm rfl (Gm rfl ?_))))
 refine Gt (Bp JR (by decide) (Kn.own .m0) rfl rfl (by omega) (by(try dsimp only);omega)) ?_
 refine AT (No rfl rfl E5 (by have:=hI11.len;omega) .h) ?_
 refine Gn (.t2 9 10) (Gs (Gm rfl (Gm rfl ?_)))
 refine Gt (Av rfl rfl (IntWalk.i64_in _ (by(try simp only [List.length_cons,List.length_nil]);omega))) ?_
 refine KD DX rfl Tryz.underlying52 E5 rfl rfl (by(try simp only [List.length_cons,List.length_nil]);omega) (by(try simp only [List.length_cons,List.length_nil]);omega) (fun _=> .h) ?_
 refine Ga rfl (Gn (.t1 8) (Ac ?_))
 refine AY rfl (.tmp rfl .n) ?_
 intro w1 hS
 have hS:=(hS.perm (Ax.perm (.c .h .n))).A1
 have hd:=hI11.done (by first | (right;simpa using c1) | (left;omega))
 exact⟨_,⟨_,rfl,by rw [hd.2] at *;(try simp only [Hd.cut] at *);omega,by rw [hd.2]⟩,hS⟩
theorem LI (s:Ap)(c:UInt8)(hs:s.length≤10000000):JQ Tryz.prog 167 #[BU s,BU [c]] [] (fun v B=>∃ h':Hd,v=h'.val∧h'.len=(Words.pieces c s).length∧B = [Ab.own h' 9 1 ((Words.pieces c s).flatMap A8)]):=by
 intro w hS0
 refine Ak _ _ Tryz.func167 rfl rfl rfl (hS0) ?_
 refine Gs (Ga rfl (Gn (.t2 0 1) (Gs (Gm rfl (Gm rfl ?_)))))
 refine Ah rfl cL (.c rfl (.c rfl (.c rfl (.c rfl .n)))) .n (JP _ c hs) (fun v1 B hv=>?_)
 obtain⟨y2,rfl,y3,rfl⟩:=hv
 refine Ga rfl (Gn (.t1 4) (Ac ?_))
 refine AY rfl (.tmp rfl .n) ?_
 intro w1 hS
 have hS:=(hS.perm (Ax.perm (.c .h .n))).A1
 exact⟨_,⟨_,rfl,by assumption,rfl⟩,hS⟩
theorem PH (u:Ap)(hu:u.length≤10000000)(w:World):Ed Tryz.prog 168 #[BU u] w fun v w'=>v=BU (Words.low u)∧CA w w':=by
 refine Ak [] [] Tryz.func168 rfl rfl rfl (St.start w []) ?_
 refine Gs (Ga rfl (Gn (.t1 0) (Gs (Gm rfl ?_))))
 refine Nx rfl Tryz.underlying9 Tryz.underlying105 Tryz.underlying5 rfl (fun h1 h1l=>?_)
 refine Ga rfl (Gn (.t1 3) (CG (Gm rfl (Gt (Ar rfl Tryz.underlying105 rfl) (Gm rfl (AQ (AA ?_)))))))
 refine Ae ?_
 refine Bn (.t4 10 3 8 9) ?_
 refine CY (fun(k:Int)=>0≤k∧k≤u.length) (fun(k:Int)=>((u.length:Int) - k).toNat) (fun(k:Int)=> [(10, .int .i64 k)]) (fun(k:Int)=> [Ab.own h1 5 1 ((Words.Hu u k.toNat).flatMap DT)]) (0) ?_ rfl rfl (fun k hI1=>?_)
 · exact⟨by omega,by omega⟩
 obtain⟨hI11,hI12⟩:=hI1
 refine Gs (Gt (A7 rfl rfl) (AQ (AA (Ao ?_))))
 refine Gc (fun c1=>?_) (fun c1=>?_)
 ·
  have c1p:=kz c1
  have hat:=Words.U4 (w:=u) hI11 (by omega)
  have hc8:=(u.getD k.toNat 0).toNat_lt
  refine Aa ?_
  refine AB (.t4 3 8 9 10) ?_
  refine AA (Ao (Ae (Gs (Gm rfl ?_))))
  refine Gt (Bp Xn (by decide) (Kn.own .m0) rfl rfl (by omega) (by omega)) ?_
  refine Gt (XM rfl dD (Kn.own .m0) (by rw [Words.Oy];omega)) ?_
  refine Ga rfl (Ga rfl (Gn (.t6 3 4 5 8 9 10) (Gs (Gm rfl (Gt (CK rfl rfl) (Gm rfl (Bf 17 rfl rfl (fun q=>AF rfl) ?_)))))))
  refine Bf 17 rfl rfl (fun q=>IG (Bc rfl q) rfl) (Gt (BG rfl rfl (fun h=>h)) (Gn (.t7 3 4 5 8 9 10 20) ?_))
  refine Gc (fun c2=>?_) (fun c2=>?_)
  ·
   have c2p:=kz c2
   rw [hat] at c2
   have hset:=Words.Sa (w:=u) hI11 (by omega)
   rw [← Words.Ys c2] at hset
   refine AJ (Gm rfl (Gm rfl (Gm rfl ?_)))
   refine Gt (Av rfl rfl (IntWalk.u8_in _ (by(try simp only [hat] at c2p ⊢);omega))) ?_
   refine Gt (FR rfl rfl (IntWalk.u8_in _ (by(try simp only [hat] at c2p ⊢);omega))) ?_
   refine Gt (Bp Xn (by decide) (Kn.own .m0) rfl rfl (by omega) (by omega)) ?_
   refine AT (Zx rfl rfl (by simp only [hat] at c2p ⊢;omega) VY (by rw [Words.Oy];omega) .h) ?_
   refine AQ (AB (.t4 3 8 9 10) ?_)
   refine AV (AA (AJ ?_))
   refine Gt (Av rfl rfl (IntWalk.i64_in _ (by(try simp only [hat] at c2p ⊢);omega))) ?_
   refine Gm rfl ?_
   refine AQ (AB (.t4 3 8 9 10) ?_)
   refine B2 (k+1) ?_ ?_ (.t4 10 3 8 9) (by rw [← hset];first | exact(.refl _) | (rw [← hat];exact(.refl _)))
   · exact⟨by omega,by omega⟩
   · omega
  have c2p:=kz c2
  rw [hat] at c2
  have hset:=Words.WH (w:=u) hI11 (by omega) (Words.Yf c2)
  refine Aa ?_
  refine AB (.t4 3 8 9 10) ?_
  refine AV (AA (AJ ?_))
  refine Gt (Av rfl rfl (IntWalk.i64_in _ (by(try simp only [hat] at c2p ⊢);omega))) ?_
  refine Gm rfl ?_
  refine AQ (AB (.t4 3 8 9 10) ?_)
  refine B2 (k+1) ?_ ?_ (.t4 10 3 8 9) (by rw [← hset];first | exact(.refl _) | (rw [← hat];exact(.refl _)))
  · exact⟨by omega,by omega⟩
  · omega
 have c1p:=kz c1
 refine Bb (AW (AW (Ag ?_)))
 refine AB (.t1 3) ?_
 refine AA (Gs (Gm rfl (Gt (KA Tryz.underlying105 Tryz.underlying9 Tryz.underlying5 rfl (Kn.own .m0)) (Ga rfl (Gn (.t1 2) (Ac ?_))))))
 refine AY rfl (.tmp rfl .n) ?_
 intro w1 hS;refine⟨?_,hS.Am⟩;obtain rfl:k=u.length:=by omega
 rw [show(u.length:Int).toNat=u.length by omega,Words.Xh];rfl
theorem MF (s:Ap)(hs:s.length≤4000000):JQ Tryz.prog 151 #[BU s] [] (fun v B=>∃ h':Hd,v=h'.val∧h'.len=(Words.words s).length∧B = [Ab.own h' 9 1 ((Words.words s).flatMap A8)]):=by
 intro w hS0
 have hpl:=Words.FO 32 s
 have hcl:=List.count_le_length (a:=(32:UInt8)) (l:=s)
 refine Ak _ _ Tryz.func151 rfl rfl rfl (hS0) ?_
 refine Gs (Ga rfl (Gn (.t1 0) (Gs (Ga rfl (AQ (AA (CG ?_)))))))
 refine Gm rfl ?_
 refine Ah rfl ba (.c rfl (.c rfl .n)) .n (LI _ 32 (by omega)) (fun v1 B hv=>?_)
 obtain⟨y2,rfl,y3,rfl⟩:=hv
 refine Gt (Ar rfl Tryz.underlying52 rfl) (Gm rfl (Gn (.t4 3 7 8 9) (Ae ?_)))
 refine Bn (.t4 3 9 7 8) ?_
 refine E7 A8 9 1 ?_
 refine Dl (fun(k:Int) (xs:List Ap) (g:Hd)=>0≤k∧k≤((Words.pieces 32 s).length:Int)∧xs=Words.I8 s k.toNat∧g.len=xs.length∧xs.length≤k.toNat) (fun(k:Int) (xs:List Ap) (g:Hd)=>(((Words.pieces 32 s).length:Int) - k).toNat) (fun(k:Int) (xs:List Ap) (g:Hd)=> [(3,g.val),(9, .int .i64 k)]) (fun(k:Int) (xs:List Ap) (g:Hd)=> [Ab.own g 9 1 (xs.flatMap A8)]) (0) ([]) (_) ?_ rfl rfl (fun k xs g hI1=>?_)
 · exact⟨by omega,by omega,rfl,rfl,by simp⟩
 obtain⟨hI11,hI12,hI13,hI14,hI15⟩:=hI1
 refine Gs (Gt (A7 rfl rfl) (AQ (AA (Ao ?_))))
 refine Gc (fun c1=>?_) (fun c1=>?_)
 ·
  have c1p:=kz c1
  refine Aa ?_
  refine AB (.t4 3 7 8 9) ?_
  refine AA (Ao (Ae (Gs ?_)))
  refine Gt (Bp JR (by decide) (Kn.own .m1) rfl rfl (by omega) (by omega)) ?_
  refine Gt (Dj rfl CX (Kn.own .m1) (by omega)) ?_
  refine Ga rfl (Gn (.t5 3 5 7 8 9) (Gs (Gm rfl (Gt (D1 rfl rfl) (Gn (.t6 3 5 7 8 9 14) ?_)))))
  refine Gc (fun c2=>?_) (fun c2=>?_)
  ·
   have c2p:=kz c2
   refine AJ (Gm rfl (Gm rfl ?_))
   refine BA rfl cm (.c rfl .n) (fun w hS=>PH _ (by have:=Words.Vl (c:=32) (s:=s) k.toNat;omega) w) ?_
   refine Fy A8 DX rfl Tryz.underlying52 E5 Sy rfl (by decide) (by decide) rfl rfl (fun b1=>?_)
   refine Ce DX rfl Tryz.underlying52 E5 Sy rfl YZ (by decide) (by decide) rfl rfl (fun w hS=>Src.D7 Tryz.underlying52 ((Kn.own .m0) w hS)) (by(try dsimp only);omega) (fun _=>(.t .h)) (fun h5 h5l h5z=>?_)
   refine Ga rfl ?_
   refine AQ (AB (.t4 3 7 8 9) ?_)
   refine AV (AA (AJ ?_))
   refine Gt (Av rfl rfl (IntWalk.i64_in _ (by omega))) ?_
   refine Gm rfl ?_
   refine AQ (AB (.t4 3 7 8 9) ?_)
   refine Bt (k+1) _ _ ?_ ?_ (.t4 3 9 7 8) (.cons _ (.refl _))
   · exact⟨by omega,by omega,by rw [Words.XB hI11 (by omega) c2,← hI13],(by(try dsimp only at *)<;>(try simp only [List.length_append,List.length_cons,List.length_nil])<;>omega),(by(try simp only [List.length_append,List.length_cons,List.length_nil]);omega)⟩
   · omega
  have c2p:=kz c2
  refine Aa ?_
  refine AB (.t4 3 7 8 9) ?_
  refine AV (AA (AJ ?_))
  refine Gt (Av rfl rfl (IntWalk.i64_in _ (by omega))) ?_
  refine Gm rfl ?_
  refine AQ (AB (.t4 3 7 8 9) ?_)
  refine Bt (k+1) _ _ ?_ ?_ (.t4 3 9 7 8) (.refl _)
  · exact⟨by omega,by omega,by rw [Words.Xl hI11 (by omega) c2,← hI13],(by(try dsimp only at *)<;>(try simp only [List.length_append,List.length_cons,List.length_nil])<;>omega),(by(try simp only [List.length_append,List.length_cons,List.length_nil]);omega)⟩
  · omega
 have c1p:=kz c1
 obtain rfl:k=((Words.pieces 32 s).length:Int):=by omega
 refine Bb (AW (AW (Ag ?_)))
 refine AB (.t1 3) ?_
 refine AA (Gs (Gm rfl (Ga rfl (Gn (.t1 2) (Ac ?_)))))
 refine AY rfl (.tmp rfl .n) ?_
 intro w1 hS
 have hS:=(hS.perm (Ax.perm (.c .h .n))).A1
 exact⟨_,⟨_,rfl,by rw [Words.Nc,← hI13];assumption,by rw [Words.Nc,← hI13]⟩,hS⟩
theorem Db (s p:Ap)(w:World):Ed Tryz.prog 180 #[BU s,BU p] w fun v w'=>v = .bool (decide ((p.length:Int)≤(s.length:Int)) && decide (s.take p.length=p))∧CA w w':=by
 refine Ak [] [] Tryz.func180 rfl rfl rfl (St.start w []) ?_
 refine Gs (Ga rfl (Gn (.t2 0 1) (Gs (Gm rfl (Gt (BI rfl Tryz.underlying9 rfl) (Gm rfl (Gt (BI rfl Tryz.underlying9 rfl) ?_)))))))
 refine Gt (CK rfl rfl) (Gm rfl (Bf 10 rfl rfl (fun q=>AF rfl) (Bf 10 rfl rfl (fun q=>AF rfl) (Bf 10 rfl rfl (fun q=>BI rfl Tryz.underlying9 (Bc rfl q)) ?_))))
 refine Bf 10 rfl rfl (fun q=>by have q1:=q;(try simp at q1);exact Ic Tryz.underlying9 (Bc rfl q) (Bc rfl q) (by omega) (by omega)) ?_
 refine Bf 10 rfl rfl (fun q=>AF rfl) (Bf 10 rfl rfl (fun q=>Bw (Bc rfl q) (Bc rfl q)) (Gt (BG rfl rfl (fun h=>h)) (Ga rfl (Gn (.t1 4) (Ac ?_)))))
 refine AY rfl (.tmp rfl .n) ?_
 intro w1 hS;refine⟨?_,hS.Am⟩;rfl
theorem I0 (s p:Ap)(w:World):Ed Tryz.prog 169 #[BU s,BU p] w fun v w'=>v = .bool (decide ((p.length:Int)≤(s.length:Int)) && decide (s.take p.length=p))∧CA w w':=by
 refine Ak [] [] Tryz.func169 rfl rfl rfl (St.start w []) ?_
 refine Gs (Ga rfl (Gn (.t2 0 1) (Gs (Gm rfl (Gm rfl ?_)))))
 refine BA rfl ZS (.c rfl (.c rfl .n)) (fun w hS=>Db _ _ w) ?_
 refine Ga rfl (Gn (.t1 4) (Ac ?_))
 refine AY rfl (.tmp rfl .n) ?_
 intro w1 hS;refine⟨?_,hS.Am⟩;rfl
theorem JM (u:Ap)(w:World)(gl0:GV 0 AH.DJ w):Ed Tryz.prog 152 #[BU u] w fun v w'=>v = .tuple #[.int .i64 (Words.verb u).1, .int .i64 (Words.verb u).2]∧CA w w':=by
 refine Ak [] [] Tryz.func152 rfl rfl rfl (St.start w []) ?_
 refine Gs (Ga rfl (Ga rfl (Gn (.t1 0) (CG (Gm rfl (Gt (D1 rfl rfl) (Gn (.t2 0 7) ?_)))))))
 refine Gc (fun c1=>?_) (fun c1=>?_)
 ·
  have c1p:=kz c1
  refine Gs (Gt (YG gl0 Words.S3 rfl aN rfl) (Gm rfl (Gn (.t3 0 8 9) (Ae ?_))))
  refine Bn (.t3 9 0 8) ?_
  refine CY (fun(k:Int)=>0≤k∧k≤21∧Words.Jn u 21=Words.Jn u (21 - k).toNat) (fun(k:Int)=>(21 - k).toNat) (fun(k:Int)=> [(9, .int .i64 k)]) (fun(k:Int)=> []) (0) ?_ rfl rfl (fun k hI1=>?_)
  · exact⟨by omega,by omega,rfl⟩
  obtain⟨hI11,hI12,hI13⟩:=hI1
  refine Gs (Gt (A7 rfl rfl) (AQ (AA (Ao ?_))))
  refine Gc (fun c2=>?_) (fun c2=>?_)
  ·
   have c2p:=kz c2
   rw [Words.Te hI11 (by omega)] at hI13
   refine Aa ?_
   refine AB (.t3 0 8 9) ?_
   refine AA (Ao (Ae (Gs (Gm rfl ?_))))
   refine Gt (KK DX Tryz.underlying133 E5 CX rfl rfl (by omega) (by omega) rfl) ?_
   refine Ga rfl (Ga rfl (Gn (.t5 0 4 5 8 9) (Gs (Gm rfl (Gm rfl ?_)))))
   refine BA rfl bk (.c rfl (.c rfl .n)) (fun w hS=>I0 _ _ w) ?_
   refine Gn (.t5 0 4 8 9 15) ?_
   refine Gc (fun c3=>?_) (fun c3=>?_)
   ·
    have cp:Words.pre (AH.Ge.getD k.toNat []) u=true:=c3
    refine Gs (Gm rfl (Ga rfl (Ga rfl (Gn (.t2 2 3) (Ac (AS (AD ?_)))))))
    refine AD (AS (AD ?_))
    refine AY rfl (.tmp rfl (.tmp rfl .n)) ?_
    intro w1 hS;refine⟨?_,hS.Am⟩;rw [show Words.verb u=_ from BB c1,hI13,BB cp];rfl
   have c3p:=kz c3
   have cp:Words.pre (AH.Ge.getD k.toNat []) u=false:=c3
   refine Aa ?_
   refine AB (.t3 0 8 9) ?_
   refine AV (AA (AJ ?_))
   refine Gt (Av rfl rfl (IntWalk.i64_in _ (by omega))) ?_
   refine Gm rfl ?_
   refine AQ (AB (.t3 0 8 9) ?_)
   refine B2 (k+1) ?_ ?_ (.t3 9 0 8) (.refl _)
   · exact⟨by omega,by omega,by rw [hI13,AX cp]⟩
   · omega
  have c2p:=kz c2
  obtain rfl:k=21:=by omega
  refine Bb (AW (AW (Ag ?_)))
  refine AB (.nil _) ?_
  refine AA (Gs (Ga rfl (Ga rfl (AQ (AA (Ac ?_))))))
  refine AY rfl (.tmp rfl (.tmp rfl .n)) ?_
  intro w1 hS;refine⟨?_,hS.Am⟩;rw [show Words.verb u=_ from BB c1,hI13];rfl
 refine Aa ?_
 refine AB (.nil _) ?_
 refine AA (Gs (Ga rfl (Ga rfl (AQ (AA (Ac ?_))))))
 refine AY rfl (.tmp rfl (.tmp rfl .n)) ?_
 intro w1 hS;refine⟨?_,hS.Am⟩;rw [show Words.verb u=_ from AX c1];rfl
theorem JS (s:Ap)(hs:s.length≤10000000)(w:World):Ed Tryz.prog 153 #[BU s,BU [32]] w fun v w'=>v=BU (Words.P7 32 s)∧CA w w':=by
 refine Ak [] [] Tryz.func153 rfl rfl rfl (St.start w []) ?_
 refine Gs (Ga rfl (Gn (.t2 0 1) (CG (Gm rfl (Gt (Bw rfl rfl) (Gm rfl (Bg 9 rfl rfl (fun q=>AF rfl) ?_)))))))
 refine Bg 9 rfl rfl (fun q=>Bw (cF rfl q) rfl) ?_
 refine Gt (BS rfl rfl (fun h=>by rw [h];rfl)) ?_
 refine Gn (.t3 0 1 12) ?_
 refine Gc (fun c1=>?_) (fun c1=>?_)
 ·
  refine Gs (Gm rfl (Ga rfl (Gn (.t1 4) (Ac (AD ?_)))))
  refine AY rfl (.tmp rfl .n) ?_
  intro w1 hS;refine⟨?_,hS.Am⟩;have e:s = []:=by simpa using c1
  subst e;rfl
 have c1p:=kz c1
 refine Aa ?_
 refine AB (.t2 0 1) ?_
 refine AA (CG (Gm rfl (Gt (BI rfl Tryz.underlying9 rfl) (Gt (Af rfl rfl) (Gm rfl (Bf 17 rfl rfl (fun q=>AF rfl) ?_))))))
 refine Bf 17 rfl rfl (fun q=>by have q1:=q;(try simp at q1);exact Bl Tryz.underlying9 (Bc rfl q) rfl (by decide) (by(try simp only [List.length_cons,List.length_nil]);omega)) ?_
 refine Bf 17 rfl rfl (fun q=>A7 (Bc rfl q) rfl) (Gt (BG rfl rfl (fun h=>h)) (Gn (.t3 0 1 21) ?_))
 refine G1 rfl rfl ?_
 refine Gs (Gm rfl (Gm rfl ?_))
 refine Gt (Bl Tryz.underlying9 rfl rfl (by decide) (by(try simp only [List.length_cons,List.length_nil]);omega)) ?_
 refine BA rfl ZR (.c rfl (.c rfl .n)) (fun w hS=>E3 _ 32 hs w) ?_
 refine Ga rfl (Gn (.t1 4) (Ac (AD ?_)))
 refine AY rfl (.tmp rfl .n) ?_
 intro w1 hS;refine⟨?_,hS.Am⟩;rfl
theorem Gl (s:Ap)(c:UInt8)(hs:s.length≤10000000)(w:World):Ed Tryz.prog 59 #[BU s,BU [c]] w fun v w'=>v = .tuple #[BU (Words.cut c s).1,BU (Words.cut c s).2.1, .bool (Words.cut c s).2.2]∧CA w w':=by
 refine Ak [] [] Tryz.func59 rfl rfl rfl (St.start w []) ?_
 refine Gs (Ga rfl (Ga rfl (Ga rfl (Gn (.t2 0 1) (CG (Gm rfl (Gm rfl ?_)))))))
 refine BA rfl bM (.c rfl (.c rfl .n)) (fun w hS=>D4 _ c w) ?_
 refine Ga rfl (Gn (.t3 0 1 7) (Gs (Gm rfl (Gt (CK rfl rfl) (Gn (.t4 0 1 7 12) ?_)))))
 refine Gc (fun c1=>?_) (fun c1=>?_)
 ·
  have c1p:=kz c1
  have hm:=Words.Zw (c:=c) (s:=s) (by simpa using c1)
  refine Ao ?_
  refine BE (N:=12) [0,0,3,0,0,0,32,112,248,7,1023,2047] mix (by kernel_rfl) rfl ?_
  refine Pf 0 rfl (AF rfl) (Pf 1 rfl (AF rfl) (Pf 3 rfl (AF rfl) (Pf 4 rfl (AF rfl) (Pf 5 rfl (AF rfl) (Pf 6 rfl (BI rfl Tryz.underlying9 rfl) ?_)))))
  refine Pf 7 rfl (Av rfl rfl (IntWalk.i64_in _ (by(try simp only [List.length_cons,List.length_nil]);omega))) ?_
  refine Jo 2 8 rfl rfl (by kernel_rfl) ?_ ?_
  ·
   refine Gt (Ic Tryz.underlying9 rfl rfl (by(try simp only [List.length_cons,List.length_nil]);omega) (by(try simp only [List.length_cons,List.length_nil]);omega)) ?_
   refine Bq rfl ⟨?_,?_⟩
   · exact(Po rfl (Av rfl rfl (IntWalk.i64_in _ (by(try simp only [List.length_cons,List.length_nil]);omega))) rfl rfl (Po rfl (BI rfl Tryz.underlying9 rfl) rfl rfl (Po rfl (AF rfl) rfl rfl (Po rfl (AF rfl) rfl rfl (Po rfl (AF rfl) rfl rfl (Pk (Pk As)))))))
   refine Pf 9 rfl (A0 rfl) ?_
   refine An 8 rfl (by kernel_rfl) ?_
   refine Gt (GY Tryz.underlying9 rfl rfl (by(try simp only [List.length_cons,List.length_nil]);omega) (by(try simp only [List.length_cons,List.length_nil]);omega)) ?_
   refine Bq rfl ⟨?_,?_⟩
   · exact(Po rfl (A0 rfl) rfl rfl (Pk (Pk (Pk (Pk (Pk (Po rfl (AF rfl) rfl rfl (Po rfl (AF rfl) rfl rfl As))))))))
   refine Pf 10 rfl (A0 rfl) (Pf 11 rfl (A0 rfl) ?_)
   refine A4 (by kernel_rfl) ?_
   refine AB (.t3 4 5 6) ?_
   refine AA (Ac (AD ?_))
   refine AY rfl (.tmp rfl (.tmp rfl (.tmp rfl .n))) ?_
   intro w1 hS;refine⟨?_,hS.Am⟩;rw [show Words.cut c s=_ from(BB c1)];rfl
  ·
   refine Gt (GY Tryz.underlying9 rfl rfl (by(try simp only [List.length_cons,List.length_nil]);omega) (by(try simp only [List.length_cons,List.length_nil]);omega)) ?_
   refine Bq rfl ⟨?_,?_⟩
   · exact(Pk (Pk (Pk (Pk (Pk (Po rfl (AF rfl) rfl rfl (Po rfl (AF rfl) rfl rfl As)))))))
   refine An 2 rfl (by kernel_rfl) ?_
   refine Gt (Ic Tryz.underlying9 rfl rfl (by(try simp only [List.length_cons,List.length_nil]);omega) (by(try simp only [List.length_cons,List.length_nil]);omega)) ?_
   refine Bq rfl ⟨?_,?_⟩
   · exact(Po rfl (Av rfl rfl (IntWalk.i64_in _ (by(try simp only [List.length_cons,List.length_nil]);omega))) rfl rfl (Po rfl (BI rfl Tryz.underlying9 rfl) rfl rfl (Po rfl (AF rfl) rfl rfl (Po rfl (AF rfl) rfl rfl (Po rfl (AF rfl) rfl rfl (Pk (Pk As)))))))
   refine Pf 9 rfl (A0 rfl) (Pf 10 rfl (A0 rfl) (Pf 11 rfl (A0 rfl) ?_))
   refine A4 (by kernel_rfl) ?_
   refine AB (.t3 4 5 6) ?_
   refine AA (Ac (AD ?_))
   refine AY rfl (.tmp rfl (.tmp rfl (.tmp rfl .n))) ?_
   intro w1 hS;refine⟨?_,hS.Am⟩;rw [show Words.cut c s=_ from(BB c1)];rfl
 refine Aa ?_
 refine AB (.t1 0) ?_
 refine AA (Gs (Gm rfl (Ga rfl (Ga rfl (Ga rfl (Gn (.t3 4 5 6) (Ac ?_)))))))
 refine AY rfl (.tmp rfl (.tmp rfl (.tmp rfl .n))) ?_
 intro w1 hS;refine⟨?_,hS.Am⟩;rw [show Words.cut c s=_ from(AX c1)];rfl
theorem IV (s:Ap)(c:UInt8)(hs:s.length≤10000000)(w:World):Ed Tryz.prog 30 #[BU s,BU [c]] w fun v w'=>v = .tuple #[BU (Words.cut c s).1,BU (Words.cut c s).2.1, .bool (Words.cut c s).2.2]∧CA w w':=by
 refine Ak [] [] Tryz.func30 rfl rfl rfl (St.start w []) ?_
 refine Gs (Ga rfl (Ga rfl (Ga rfl (Gn (.t2 0 1) (Gs (Gm rfl (Gm rfl ?_)))))))
 refine BA rfl dO (.c rfl (.c rfl .n)) (fun w hS=>Gl _ c hs w) ?_
 refine Gt (AN rfl rfl) (Gt (AN rfl rfl) (Gt (AN rfl rfl) (Ga rfl (Ga rfl (Ga rfl (Gn (.t3 4 5 6) (Ac ?_)))))))
 refine AY rfl (.tmp rfl (.tmp rfl (.tmp rfl .n))) ?_
 intro w1 hS;refine⟨?_,hS.Am⟩;rfl
theorem FC (s p:Ap)(w:World):Ed Tryz.prog 181 #[BU s,BU p] w fun v w'=>v = .tuple #[BU (Words.NA s p).1, .bool (Words.NA s p).2]∧CA w w':=by
 refine Ak [] [] Tryz.func181 rfl rfl rfl (St.start w []) ?_
 refine Gs (Ga rfl (Ga rfl (Gn (.t2 0 1) (CG (Gm rfl (Gm rfl ?_))))))
 refine BA rfl ZS (.c rfl (.c rfl .n)) (fun w hS=>Db _ _ w) ?_
 refine Gt (BT rfl) (Gn (.t3 0 1 9) ?_)
 refine Gc (fun c1=>?_) (fun c1=>?_)
 ·
  refine Gs (Gm rfl (Ga rfl (Ga rfl (Gn (.t2 4 5) (Ac (AD ?_))))))
  refine AY rfl (.tmp rfl (.tmp rfl .n)) ?_
  intro w1 hS;refine⟨?_,hS.Am⟩;rw [show Words.NA s p=_ from(BB c1)];rfl
 have c1p:=kz c1
 have hle:p.length≤s.length:=by simp at c1;omega
 refine Aa ?_
 refine AB (.t2 0 1) ?_
 refine AA (Gs (Gm rfl (Gm rfl (Gt (BI rfl Tryz.underlying9 rfl) ?_))))
 refine Gt (GY Tryz.underlying9 rfl rfl (by omega) (by omega)) ?_
 refine Ga rfl (Ga rfl (Gn (.t2 4 5) (Ac ?_)))
 refine AY rfl (.tmp rfl (.tmp rfl .n)) ?_
 intro w1 hS;refine⟨?_,hS.Am⟩;rw [show Words.NA s p=_ from(AX c1)];rfl
theorem JB (s p:Ap)(w:World):Ed Tryz.prog 170 #[BU s,BU p] w fun v w'=>v = .tuple #[BU (Words.NA s p).1, .bool (Words.NA s p).2]∧CA w w':=by
 refine Ak [] [] Tryz.func170 rfl rfl rfl (St.start w []) ?_
 refine Gs (Ga rfl (Ga rfl (Gn (.t2 0 1) (Gs (Gm rfl (Gm rfl ?_))))))
 refine BA rfl bQ (.c rfl (.c rfl .n)) (fun w hS=>FC _ _ w) ?_
 refine Gt (AN rfl rfl) (Gt (AN rfl rfl) (Ga rfl (Ga rfl (Gn (.t2 4 5) (Ac ?_)))))
 refine AY rfl (.tmp rfl (.tmp rfl .n)) ?_
 intro w1 hS;refine⟨?_,hS.Am⟩;rfl
theorem F4 (s:Ap)(c:UInt8)(w:World):Ed Tryz.prog 171 #[BU s,BU [c]] w fun v w'=>v = .bool (decide (0≤Lib.indexByte s c))∧CA w w':=by
 refine Ak [] [] Tryz.func171 rfl rfl rfl (St.start w []) ?_
 refine Gs (Ga rfl (Gn (.t2 0 1) (Gs (Gm rfl (Gm rfl ?_)))))
 refine BA rfl XX (.c rfl (.c rfl .n)) (fun w hS=>FQ _ c w) ?_
 refine Gt (CK rfl rfl) (Ga rfl (Gn (.t1 4) (Ac ?_)))
 refine AY rfl (.tmp rfl .n) ?_
 intro w1 hS;refine⟨?_,hS.Am⟩;rfl
end Go.Proofs.YtoidpggbbfncpaaGreatDoor

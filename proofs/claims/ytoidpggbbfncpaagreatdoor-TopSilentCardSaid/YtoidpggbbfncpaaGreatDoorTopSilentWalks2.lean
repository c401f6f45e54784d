/- What the functions that the law TopSilent reaches compute: walks, part 2. No condition. -/
import Derived.Test.YtoidpggbbfncpaaGreatDoorCards
import Derived.Test.YtoidpggbbfncpaaGreatDoorTie
import Derived.Deep.DeepHandedRow
import Derived.Test.YtoidpggbbfncpaaGreatDoorRows
import Derived.Test.YtoidpggbbfncpaaGreatDoorTopSilentEc3
import Derived.Test.YtoidpggbbfncpaaGreatDoorTopSilentRa1
import Derived.Test.YtoidpggbbfncpaaGreatDoorTopSilentRb1
import Derived.Test.YtoidpggbbfncpaaGreatDoorTopSilentRc1
import Derived.Test.YtoidpggbbfncpaaGreatDoorTopSilentWalks
set_option linter.unusedSimpArgs false
set_option linter.unusedVariables false
set_option maxRecDepth 100000
set_option maxHeartbeats 1000000
namespace Go.Proofs.YtoidpggbbfncpaaGreatDoor
open Go Go.Ing Go.RowKit Go.ChangeShapes Go.WideShapes Go.ChangeAt
theorem HL (b:Nat)(T:AF)(g:Hd)(hg:g.len=T.out.length)(hb:0≤T.b∧T.b < 6)(hw:T.w.DL)(hn:T.out.length≤90000):Fx Tryz.prog 100 #[.pointer (some ⟨b,0,none⟩)] [Af.box b 163 (Ag.enc ⟨T.w,T.b,g⟩),Af.own g 56 16 (T.out.flatMap Ing.Event.enc)] (fun w=>(GV 0 AI.DT w∧0 ∉ Cp [Af.box b 163 (Ag.enc ⟨T.w,T.b,g⟩),Af.own g 56 16 (T.out.flatMap Ing.Event.enc)])) (fun v B=>∃ g':Hd,v = .tuple #[]∧g'.len=(T.look).out.length∧B = [Af.box b 163 (Ag.enc ⟨(T.look).w,(T.look).b,g'⟩),Af.own g' 56 16 ((T.look).out.flatMap Ing.Event.enc)]):=by
 intro w hS0 hH
 obtain⟨gl0,gm0⟩:=hH
 refine Ao _ _ Tryz.func100 rfl rfl rfl (hS0) ?_
 refine Au ?_
 refine BN (N:=12) [0,0,2,6,14,1,33,97,255,511,0,2047] mix (by kernel_rfl) rfl ?_
 refine Pf 0 rfl (AD rfl) (Pf 1 rfl (AD rfl) (Pf 2 rfl (Ba rfl) (Pf 3 rfl (Aj CW rfl) (Pf 4 rfl (AG rfl A5 .m0 Ag.l1 rfl rfl) (Pf 5 rfl (Ba rfl) (Pf 6 rfl (Aj BD rfl) (Pf 7 rfl (Aj Br rfl) ?_)))))))
 refine Pf 8 rfl (AV DB rfl rfl (by(try dsimp only at *);(try simp only [List.length_append,List.length_cons,List.length_nil]);omega) (by(try dsimp only at *);(try simp only [List.length_append,List.length_cons,List.length_nil]);omega)) ?_
 refine Pf 9 rfl (AU rfl GC .m0 ((Ag.l0.comp AI.l2).comp (AQ.arr (n:=6) An.fl (by(try dsimp only at *);(try simp only [List.length_append,List.length_cons,List.length_nil]);omega) (by(try dsimp only at *);(try simp only [List.length_append,List.length_cons,List.length_nil]);omega))) rfl) ?_
 refine Ab 10 rfl (by kernel_rfl) ?_
 refine A6 rfl L0 rfl (fun b1=>?_)
 refine BH rfl ⟨?_,?_⟩
 · exact(Po rfl (AU rfl GC .m1 ((Ag.l0.comp AI.l2).comp (AQ.arr (n:=6) An.fl (by(try dsimp only at *);(try simp only [List.length_append,List.length_cons,List.length_nil]);omega) (by(try dsimp only at *);(try simp only [List.length_append,List.length_cons,List.length_nil]);omega))) rfl) rfl rfl (Po rfl (AV DB rfl rfl (by(try dsimp only at *);(try simp only [List.length_append,List.length_cons,List.length_nil]);omega) (by(try dsimp only at *);(try simp only [List.length_append,List.length_cons,List.length_nil]);omega)) rfl rfl (Po rfl (Aj Br rfl) rfl rfl (Po rfl (Aj BD rfl) rfl rfl (Po rfl (Ba rfl) rfl rfl (Po rfl (AG rfl A5 .m1 Ag.l1 rfl rfl) rfl rfl (Po rfl (Aj CW rfl) rfl rfl (Po rfl (Ba rfl) rfl rfl (Po rfl (AD rfl) rfl rfl (Po rfl (AD rfl) rfl rfl Ac))))))))))
 refine Ab 11 rfl (by kernel_rfl) ?_
 refine AO (AJ (AQ.id An.fl.len An.fl.one) rfl rfl rfl Kr rfl .h) ?_
 refine A7 rfl ⟨?_,?_⟩
 · exact(Pk (Pk (Pk (Pk (Pk (Pk (Pk (Pk (Pk (Pk Ac))))))))))
 refine Az (by kernel_rfl) ?_
 refine AB (.t2 0 2) ?_
 refine AA (Au (Au ?_))
 refine BN (N:=8) [0,1,3,7,0,16,63,127] mix (by kernel_rfl) rfl ?_
 refine Pf 0 rfl (AD rfl) (Pf 1 rfl (Ba rfl) (Pf 2 rfl (Aj BD rfl) (Pf 3 rfl (AU rfl Be .m1 Ag.l0 rfl) (Pf 4 rfl (Aj C9 rfl) (Pf 5 rfl (AG rfl A5 .m0 An.l3 rfl rfl) ?_)))))
 refine Bh 6 rfl rfl (by kernel_rfl) (Lv (K3 (EB Ue (.c rfl (.c rfl .n)) (fun w hS=>El _ _ w)))) ?_
 refine Pf 7 rfl (BX rfl) ?_
 refine Az (by kernel_rfl) ?_
 refine AB (.t3 0 2 26) ?_
 refine AA ?_
 refine Gc (fun c1=>?_) (fun c1=>?_)
 ·
  have c1p:=kz c1
  refine Gs (Gm rfl ?_)
  refine Ah rfl EH (.c rfl (.c rfl .n)) (.c (.t .h) (.c (.t .h) .n)) (Bi _ _ _ _ (by assumption) (by first | exact hb | (rw [hXb];exact hb)) (by(try simp only [AF.CI,AF.Cf,(AF.Hk _ _ _).2.2] at *);(try dsimp only at *);omega)) (fun v1 B hv=>?_)
  obtain⟨y2,rfl,y3,rfl⟩:=hv
  refine Gn (.nil _) (Ae (AE ?_))
  refine AZ rfl .n ?_
  intro w1 hS
  have hS:=(hS.perm (Ax.perm (.c .h (.c .h .n)))).A3
  refine⟨_,⟨?gq1,rfl,?hl1,?hB1⟩,hS⟩
  case hB1=>rw [show T.look=_ from BJ c1];rfl
  case hl1=>rw [show T.look=_ from BJ c1];assumption
 have c1p:=kz c1
 have hr:=AI.UW c1
 have hnr:=hw.ro (T.w.AN.at T.b).room
 refine Aa ?_
 refine AB (.t2 0 2) ?_
 refine AA (Au ?_)
 refine BN (N:=10) [0,0,2,1,9,25,63,127,0,511] mix (by kernel_rfl) rfl ?_
 refine Pf 0 rfl (AD rfl) (Pf 1 rfl (Aj C9 rfl) (Pf 2 rfl (AG rfl A5 .m0 An.l3 rfl rfl) (Pf 3 rfl (Ba rfl) (Pf 4 rfl (Aj BD rfl) (Pf 5 rfl (Aj HE rfl) ?_)))))
 refine Pf 6 rfl (AV OQ rfl rfl (by(try dsimp only at *);(try simp only [List.length_append,List.length_cons,List.length_nil]);omega) (by(try dsimp only at *);(try simp only [List.length_append,List.length_cons,List.length_nil]);omega)) ?_
 refine Pf 7 rfl (AU rfl PO .m1 ((Ag.l0.comp AI.l0).comp (AQ.arr (n:=6) Room.fl (by(try dsimp only at *);(try simp only [List.length_append,List.length_cons,List.length_nil]);omega) (by(try dsimp only at *);(try simp only [List.length_append,List.length_cons,List.length_nil]);omega))) rfl) ?_
 refine Ab 8 rfl (by kernel_rfl) ?_
 refine A6 rfl OX rfl (fun b2=>?_)
 refine BH rfl ⟨?_,?_⟩
 · exact(Po rfl (AU rfl PO .m2 ((Ag.l0.comp AI.l0).comp (AQ.arr (n:=6) Room.fl (by(try dsimp only at *);(try simp only [List.length_append,List.length_cons,List.length_nil]);omega) (by(try dsimp only at *);(try simp only [List.length_append,List.length_cons,List.length_nil]);omega))) rfl) rfl rfl (Po rfl (AV OQ rfl rfl (by(try dsimp only at *);(try simp only [List.length_append,List.length_cons,List.length_nil]);omega) (by(try dsimp only at *);(try simp only [List.length_append,List.length_cons,List.length_nil]);omega)) rfl rfl (Po rfl (Aj HE rfl) rfl rfl (Po rfl (Aj BD rfl) rfl rfl (Po rfl (Ba rfl) rfl rfl (Po rfl (AG rfl A5 .m1 An.l3 rfl rfl) rfl rfl (Po rfl (Aj C9 rfl) rfl rfl (Po rfl (AD rfl) rfl rfl Ac))))))))
 refine Ab 9 rfl (by kernel_rfl) ?_
 refine AO (AJ (AQ.id Room.fl.len Room.fl.one) rfl rfl rfl Q3 rfl .h) ?_
 refine A7 rfl ⟨?_,?_⟩
 · exact(Pk (Pk (Pk (Pk (Pk (Pk (Pk (Pk Ac))))))))
 refine Az (by kernel_rfl) ?_
 refine AB (.t3 0 2 3) ?_
 refine AA (Gs (Gm rfl (Gt (Aj bG rfl) (Gt (AG rfl CK .m0 Room.l0 rfl rfl) ?_))))
 refine Gt (CZ rfl rfl (by(try dsimp only at *);(try simp only [List.length_append,List.length_cons,List.length_nil]);omega)) ?_
 refine Gt (CZ rfl rfl (by(try dsimp only at *);(try simp only [List.length_append,List.length_cons,List.length_nil]);omega)) ?_
 refine Ah rfl EH (.c rfl (.c rfl .n)) (.c (.t (.t .h)) (.c (.t (.t .h)) .n)) (Bi _ _ _ _ (by assumption) (by first | exact hb | (rw [hXb];exact hb)) (by(try simp only [AF.CI,AF.Cf,(AF.Hk _ _ _).2.2] at *);(try dsimp only at *);omega)) (fun v4 B hv=>?_)
 obtain⟨y5,rfl,y6,rfl⟩:=hv
 refine Gn (.t3 0 2 3) (Gs (Ga rfl (AT (AA (CH (Gt (Aj Mm rfl) (Gt (AU rfl Z6 .m2 Room.l2 rfl) ?_)))))))
 refine Gm rfl (Gn (.t6 0 2 3 4 44 45) (Ak ?_))
 refine Bt (.t6 4 45 0 2 3 44) ?_
 refine Ho (fun(k:Int) (x:As)=>0≤k∧k≤6∧x=AF.I9 (T.w.BV.at T.me.room) k.toNat) (fun(k:Int) (x:As)=>(6 - k).toNat) (fun(k:Int) (x:As)=> [(4,BW x),(45, .int .i64 k)]) (fun(k:Int) (x:As)=> []) (0) (_) ?_ rfl rfl (fun k x hI1=>?_)
 · exact⟨by omega,by omega,rfl⟩
 obtain⟨hI11,hI12,hI13⟩:=hI1
 refine Gs (Gt (BC rfl rfl) (AT (AA (Au ?_))))
 refine Gc (fun c2=>?_) (fun c2=>?_)
 ·
  have c2p:=kz c2
  have hcl:=AI.JN k
  have hwl:=AF.Mc (T.w.BV.at T.me.room) k.toNat
  rw [← hI13] at hwl
  have hst:=AF.TR (r:=T.w.BV.at T.me.room) hI11
  refine Aa ?_
  refine AB (.t6 0 2 3 4 44 45) ?_
  refine AA (Au (Ak (Gs (Gm rfl ?_))))
  refine Gt (KY B5 Tryz.underlying23 DJ A5 rfl rfl (by(try dsimp only at *);(try simp only [List.length_append,List.length_cons,List.length_nil]);omega) (by(try dsimp only at *);(try simp only [List.length_append,List.length_cons,List.length_nil]);omega) rfl) ?_
  refine Ga rfl (Ga rfl (Gn (.t8 0 2 3 4 5 6 44 45) (CH (Gm rfl (Gt (Ai rfl rfl) (Gn (.t8 0 2 3 4 5 44 45 50) ?_))))))
  refine Gc (fun c3=>?_) (fun c3=>?_)
  ·
   have c3p:=kz c3
   have cp3:decide ((T.w.BV.at T.me.room).CV.at k=0)=true:=c3
   rw [BJ cp3] at hst
   refine Bl (AY (Am ?_))
   refine AB (.t6 0 2 3 4 44 45) ?_
   refine AA (AK ?_)
   refine Gt (Ay rfl rfl (IntWalk.i64_in _ (by(try dsimp only at *);(try simp only [List.length_append,List.length_cons,List.length_nil]);omega))) ?_
   refine Gm rfl ?_
   refine AT (AB (.t6 0 2 3 4 44 45) ?_)
   refine Dn (k+1) _ ?_ ?_ (.t6 4 45 0 2 3 44) (.refl _)
   · exact⟨by omega,by omega,by rw [hst,← hI13]⟩
   · omega
  have c3p:=kz c3
  have cp3:decide ((T.w.BV.at T.me.room).CV.at k=0)=false:=c3
  rw [AX cp3] at hst
  refine Aa ?_
  refine AB (.t7 0 2 3 4 5 44 45) ?_
  refine AA (Gs (Gm rfl (Gm rfl ?_)))
  refine BE rfl dK (.c rfl .n) (fun w hS=>IP _ w (gl0.stM gm0 hS)) ?_
  refine Gt (CZ rfl rfl (by(try dsimp only at *);(try simp only [List.length_append,List.length_cons,List.length_nil]);omega)) ?_
  refine Gt (CZ rfl rfl (by(try dsimp only at *);(try simp only [List.length_append,List.length_cons,List.length_nil]);omega)) ?_
  refine Ga rfl (Gn (.t7 0 2 3 4 5 44 45) (Gs (Gm rfl (Gt (Aj Ma rfl) ?_))))
  refine Gt (AV WD rfl rfl (by(try dsimp only at *);(try simp only [List.length_append,List.length_cons,List.length_nil]);omega) (by(try dsimp only at *);(try simp only [List.length_append,List.length_cons,List.length_nil]);omega)) ?_
  refine Gt (AG rfl DM .m2 (Room.l3.comp (AQ.arr (n:=6) HX (by(try dsimp only at *);(try simp only [List.length_append,List.length_cons,List.length_nil]);omega) (by(try dsimp only at *);(try simp only [List.length_append,List.length_cons,List.length_nil]);omega))) rfl rfl) ?_
  refine Gn (.t7 0 2 3 4 44 45 59) ?_
  refine Gc (fun c4=>?_) (fun c4=>?_)
  ·
   have c4p:=kz c4
   have cp4:(T.w.BV.at T.me.room).shut.at k=true:=c4
   rw [BJ cp4] at hst
   refine AK (Gm rfl ?_)
   refine Gt (CZ rfl rfl (by(try dsimp only at *);(try simp only [List.length_append,List.length_cons,List.length_nil]);omega)) ?_
   refine Ga rfl ?_
   refine AT (AB (.t6 0 2 3 4 44 45) ?_)
   refine AW (AA (AK ?_))
   refine Gt (Ay rfl rfl (IntWalk.i64_in _ (by(try dsimp only at *);(try simp only [List.length_append,List.length_cons,List.length_nil]);omega))) ?_
   refine Gm rfl ?_
   refine AT (AB (.t6 0 2 3 4 44 45) ?_)
   refine Dn (k+1) _ ?_ ?_ (.t6 4 45 0 2 3 44) (.refl _)
   · exact⟨by omega,by omega,by rw [hst,← hI13]⟩
   · omega
  have c4p:=kz c4
  have cp4:(T.w.BV.at T.me.room).shut.at k=false:=c4
  rw [AX cp4] at hst
  refine Aa ?_
  refine AB (.t6 0 2 3 4 44 45) ?_
  refine AW (AA (AK ?_))
  refine Gt (Ay rfl rfl (IntWalk.i64_in _ (by(try dsimp only at *);(try simp only [List.length_append,List.length_cons,List.length_nil]);omega))) ?_
  refine Gm rfl ?_
  refine AT (AB (.t6 0 2 3 4 44 45) ?_)
  refine Dn (k+1) _ ?_ ?_ (.t6 4 45 0 2 3 44) (.refl _)
  · exact⟨by omega,by omega,by rw [hst,← hI13]⟩
  · omega
 have c2p:=kz c2
 obtain rfl:k=6:=by omega
 subst hI13
 refine Bl (AY (AY (Am ?_)))
 refine AB (.t3 0 2 4) ?_
 refine AA (Gs (Gm rfl (Gm rfl ?_)))
 refine Ah rfl EH (.c rfl (.c rfl .n)) (.c .h (.c .h .n)) (Bi _ _ _ _ (by assumption) (by first | exact hb | (rw [hXb];exact hb)) (by(try simp only [AF.CI,AF.Cf,(AF.Hk _ _ _).2.2] at *);(try dsimp only at *);omega)) (fun v7 B hv=>?_)
 obtain⟨y8,rfl,y9,rfl⟩:=hv
 refine Gn (.t2 0 2) (Au (Au ?_))
 refine BN (N:=8) [0,1,3,7,0,16,63,127] mix (by kernel_rfl) rfl ?_
 refine Pf 0 rfl (AD rfl) (Pf 1 rfl (Ba rfl) (Pf 2 rfl (Aj BD rfl) (Pf 3 rfl (AU rfl Be .m0 Ag.l0 rfl) (Pf 4 rfl (Aj C9 rfl) (Pf 5 rfl (AG rfl A5 .m3 An.l3 rfl rfl) ?_)))))
 refine Ab 6 rfl (by kernel_rfl) ?_
 refine Ah rfl TB (.c rfl (.c rfl (.c rfl .n))) .n (FV _ _ _) (fun v10 B hv=>?_)
 obtain⟨y11,rfl,y12,rfl⟩:=hv
 refine BH rfl ⟨?_,?_⟩
 · exact(Pk (Pk (Pk (Pk (Pk (Pk Ac))))))
 refine Pf 7 rfl (A1 rfl) ?_
 refine Az (by kernel_rfl) ?_
 refine AB (.t2 0 7) ?_
 refine AA (Gs (Gm rfl (Gt (Av rfl Tryz.underlying169 rfl) (Gt (Cn rfl rfl) (Gn (.t3 0 7 75) ?_)))))
 refine Gc (fun c5=>?_) (fun c5=>?_)
 ·
  have c5p:=kz c5
  rw [y12] at c5
  refine AK (Gm rfl (Gm rfl ?_))
  refine Ah rfl aD (.c rfl (.c rfl (.c rfl .n))) (.c (.t .h) (.c (.t .h) (.c .h .n))) (Lt _ T.KH _ [72,101,114,101,32,105,115] _ (T.w.has 0 T.me.room) (by assumption) hb (by assumption) (AI.IX _ _ _) (fun i hi=>AI.GB hi) hw (by decide) (by rw [(AF.U0 T).2.2];omega)) (fun v14 B hv=>?_)
  obtain⟨y15,rfl,y16,rfl⟩:=hv
  refine Gn (.t1 0) (Gs (Gm rfl (AT (AA (Ak ?_)))))
  refine Bt (.t2 79 0) ?_
  refine BZ (.t .h) ?_
  refine BZ (.t .h) ?_
  refine D1 (fun(k:Int) (X:AF) (h:Hd)=>0≤k∧k≤6∧X=T.EF.Fq k.toNat∧h.len=X.out.length) (fun(k:Int) (X:AF) (h:Hd)=>(6 - k).toNat) (fun(k:Int) (X:AF) (h:Hd)=> [(79, .int .i64 k)]) (fun(k:Int) (X:AF) (h:Hd)=> [Af.box b 163 (Ag.enc ⟨X.w,X.b,h⟩),Af.own h 56 16 (X.out.flatMap Ing.Event.enc)]) (0) (_) (_) ?_ rfl rfl (fun k X h hI2=>?_)
  · exact⟨by omega,by omega,(show T.EF=_ from BJ c5).symm,by assumption⟩
  obtain⟨hI21,hI22,hI23,hI24⟩:=hI2
  refine Gs (Gt (BC rfl rfl) (AT (AA (Au ?_))))
  refine Gc (fun c6=>?_) (fun c6=>?_)
  ·
   have c6p:=kz c6
   have hnb:=hw.be k
   have hXl:=AF.Kl T.EF k.toNat
   have hBl:=AF.RV T
   rw [← hI23] at hXl
   have hXw:X.w=T.w:=hXl.1.trans hBl.1
   have hXb:X.b=T.b:=hXl.2.1.trans hBl.2.1
   rw [← hXw] at hnb
   refine Aa ?_
   refine AB (.t2 0 79) ?_
   refine AA (Au (Ak (Gs (Gm rfl (Ga rfl (Gn (.t3 0 8 79) (Au ?_)))))))
   refine BN (N:=18) [0,0,2,6,14,31,63,127,255,511,1023,127,2175,6271,14463,127,65535,131071] mix (by kernel_rfl) rfl ?_
   refine Pf 0 rfl (AD rfl) (Pf 1 rfl (AD rfl) (Pf 2 rfl (Ba rfl) (Pf 3 rfl (Aj CW rfl) (Pf 4 rfl (AG rfl A5 .m0 Ag.l1 rfl rfl) (Pf 5 rfl (Cb rfl rfl) (Pf 6 rfl (AD rfl) (M3 7 88 rfl rfl rfl (fun q=>AD rfl) ?_)))))))
   refine M3 8 88 rfl rfl rfl (fun q=>Ba (Bc rfl q)) (M3 9 88 rfl rfl rfl (fun q=>Aj BD (Bc rfl q)) (M3 10 88 rfl rfl rfl (fun q=>AU (Bc rfl q) Be .m0 Ag.l0 rfl) (M3 11 88 rfl rfl rfl (fun q=>AD rfl) (M3 12 88 rfl rfl rfl (fun q=>Ba (Bc rfl q)) (M3 13 88 rfl rfl rfl (fun q=>Aj CW (Bc rfl q)) (M3 14 88 rfl rfl rfl (fun q=>AG (Bc rfl q) A5 .m0 Ag.l1 rfl rfl) (M3 15 88 rfl rfl rfl (fun q=>AD rfl) ?_)))))))
   refine Bh 16 rfl rfl (by kernel_rfl) (SN (t:=88) rfl rfl (fun q=>K3 (EB O5 (.c (Bc rfl q) (.c (Bc rfl q) (.c (Bc rfl q) .n))) (fun w hS=>DS _ _ _ w)))) ?_
   refine Pf 17 rfl (BM rfl rfl (fun h=>h)) ?_
   refine Az (by kernel_rfl) ?_
   refine AB (.t4 0 8 79 99) ?_
   refine AA ?_
   refine Gc (fun c7=>?_) (fun c7=>?_)
   ·
    have c7p:=kz c7
    have cp7:(!decide (k=T.EF.b) && T.EF.w.I2 T.EF.b k)=true:=by rw [hBl.1,hBl.2.1,← hXw,← hXb];exact c7
    refine AK (Gm rfl (Gm rfl (Gm rfl (Gt (Ba rfl) (Gt (Aj BD rfl) (Gt (Aj Br rfl) ?_))))))
    refine Gt (AV DB rfl rfl (by(try dsimp only at *);(try simp only [List.length_append,List.length_cons,List.length_nil]);omega) (by(try dsimp only at *);(try simp only [List.length_append,List.length_cons,List.length_nil]);omega)) ?_
    refine Gt (Aj LG rfl) ?_
    refine Gt (AG rfl CK .m0 (((Ag.l0.comp AI.l2).comp (AQ.arr (n:=6) An.fl (by(try dsimp only at *);(try simp only [List.length_append,List.length_cons,List.length_nil]);omega) (by(try dsimp only at *);(try simp only [List.length_append,List.length_cons,List.length_nil]);omega))).comp An.l0) rfl rfl) ?_
    refine Gt (CZ rfl rfl (by(try dsimp only at *);(try simp only [List.length_append,List.length_cons,List.length_nil]);omega)) ?_
    refine Ah rfl EH (.c rfl (.c rfl .n)) (.c .h (.c .h .n)) (Bi _ _ _ _ (by assumption) (by first | exact hb | (rw [hXb];exact hb)) (by(try simp only [AF.CI,AF.Cf,(AF.Hk _ _ _).2.2] at *);(try dsimp only at *);omega)) (fun v17 B hv=>?_)
    obtain⟨y18,rfl,y19,rfl⟩:=hv
    refine AT (AB (.t2 0 79) ?_)
    refine AW (AA (AK ?_))
    refine Gt (Ay rfl rfl (IntWalk.i64_in _ (by(try dsimp only at *);(try simp only [List.length_append,List.length_cons,List.length_nil]);omega))) ?_
    refine Gm rfl ?_
    refine AT (AB (.t2 0 79) ?_)
    refine B0 (k+1) _ _ ?_ ?_ (.t2 79 0) (.refl _)
    · exact⟨by omega,by omega,by rw [AF.JZ hI21,BJ cp7,← hI23,hBl.1,← hXw],by assumption⟩
    · omega
   have c7p:=kz c7
   have cp7:(!decide (k=T.EF.b) && T.EF.w.I2 T.EF.b k)=false:=by rw [hBl.1,hBl.2.1,← hXw,← hXb];exact c7
   refine Aa ?_
   refine AB (.t2 0 79) ?_
   refine AW (AA (AK ?_))
   refine Gt (Ay rfl rfl (IntWalk.i64_in _ (by(try dsimp only at *);(try simp only [List.length_append,List.length_cons,List.length_nil]);omega))) ?_
   refine Gm rfl ?_
   refine AT (AB (.t2 0 79) ?_)
   refine B0 (k+1) _ _ ?_ ?_ (.t2 79 0) (.refl _)
   · exact⟨by omega,by omega,by rw [AF.JZ hI21,AX cp7,← hI23],by assumption⟩
   · omega
  have c6p:=kz c6
  obtain rfl:k=6:=by omega
  refine Bl (AY (AY (Am ?_)))
  refine Bo rfl .n ?_
  intro w1 hS
  have hS:=(hS.perm (Ax.perm (.c .h (.c .h .n)))).A3
  have hq:T.look=X:=(show T.look=_ from AX c1).trans hI23.symm
  refine⟨_,⟨?gqc6,rfl,?hlc6,?hBc6⟩,hS⟩
  case hBc6=>rw [hq]
  case hlc6=>rw [hq];assumption
 have c5p:=kz c5
 rw [y12] at c5
 refine Aa ?_
 refine AB (.t1 0) ?_
 refine AA (Gs (Gm rfl (AT (AA (Ak ?_)))))
 refine Bt (.t2 79 0) ?_
 refine BZ (.t (.t .h)) ?_
 refine BZ (.t (.t .h)) ?_
 refine D1 (fun(k:Int) (X:AF) (h:Hd)=>0≤k∧k≤6∧X=T.EF.Fq k.toNat∧h.len=X.out.length) (fun(k:Int) (X:AF) (h:Hd)=>(6 - k).toNat) (fun(k:Int) (X:AF) (h:Hd)=> [(79, .int .i64 k)]) (fun(k:Int) (X:AF) (h:Hd)=> [Af.box b 163 (Ag.enc ⟨X.w,X.b,h⟩),Af.own h 56 16 (X.out.flatMap Ing.Event.enc)]) (0) (_) (_) ?_ rfl rfl (fun k X h hI2=>?_)
 · exact⟨by omega,by omega,(show T.EF=_ from AX c5).symm,by assumption⟩
 obtain⟨hI21,hI22,hI23,hI24⟩:=hI2
 refine Gs (Gt (BC rfl rfl) (AT (AA (Au ?_))))
 refine Gc (fun c8=>?_) (fun c8=>?_)
 ·
  have c8p:=kz c8
  have hnb:=hw.be k
  have hXl:=AF.Kl T.EF k.toNat
  have hBl:=AF.RV T
  rw [← hI23] at hXl
  have hXw:X.w=T.w:=hXl.1.trans hBl.1
  have hXb:X.b=T.b:=hXl.2.1.trans hBl.2.1
  rw [← hXw] at hnb
  refine Aa ?_
  refine AB (.t2 0 79) ?_
  refine AA (Au (Ak (Gs (Gm rfl (Ga rfl (Gn (.t3 0 8 79) (Au ?_)))))))
  refine BN (N:=18) [0,0,2,6,14,31,63,127,255,511,1023,127,2175,6271,14463,127,65535,131071] mix (by kernel_rfl) rfl ?_
  refine Pf 0 rfl (AD rfl) (Pf 1 rfl (AD rfl) (Pf 2 rfl (Ba rfl) (Pf 3 rfl (Aj CW rfl) (Pf 4 rfl (AG rfl A5 .m0 Ag.l1 rfl rfl) (Pf 5 rfl (Cb rfl rfl) (Pf 6 rfl (AD rfl) (M3 7 88 rfl rfl rfl (fun q=>AD rfl) ?_)))))))
  refine M3 8 88 rfl rfl rfl (fun q=>Ba (Bc rfl q)) (M3 9 88 rfl rfl rfl (fun q=>Aj BD (Bc rfl q)) (M3 10 88 rfl rfl rfl (fun q=>AU (Bc rfl q) Be .m0 Ag.l0 rfl) (M3 11 88 rfl rfl rfl (fun q=>AD rfl) (M3 12 88 rfl rfl rfl (fun q=>Ba (Bc rfl q)) (M3 13 88 rfl rfl rfl (fun q=>Aj CW (Bc rfl q)) (M3 14 88 rfl rfl rfl (fun q=>AG (Bc rfl q) A5 .m0 Ag.l1 rfl rfl) (M3 15 88 rfl rfl rfl (fun q=>AD rfl) ?_)))))))
  refine Bh 16 rfl rfl (by kernel_rfl) (SN (t:=88) rfl rfl (fun q=>K3 (EB O5 (.c (Bc rfl q) (.c (Bc rfl q) (.c (Bc rfl q) .n))) (fun w hS=>DS _ _ _ w)))) ?_
  refine Pf 17 rfl (BM rfl rfl (fun h=>h)) ?_
  refine Az (by kernel_rfl) ?_
  refine AB (.t4 0 8 79 99) ?_
  refine AA ?_
  refine Gc (fun c9=>?_) (fun c9=>?_)
  ·
   have c9p:=kz c9
   have cp7:(!decide (k=T.EF.b) && T.EF.w.I2 T.EF.b k)=true:=by rw [hBl.1,hBl.2.1,← hXw,← hXb];exact c9
   refine AK (Gm rfl (Gm rfl (Gm rfl (Gt (Ba rfl) (Gt (Aj BD rfl) (Gt (Aj Br rfl) ?_))))))
   refine Gt (AV DB rfl rfl (by(try dsimp only at *);(try simp only [List.length_append,List.length_cons,List.length_nil]);omega) (by(try dsimp only at *);(try simp only [List.length_append,List.length_cons,List.length_nil]);omega)) ?_
   refine Gt (Aj LG rfl) ?_
   refine Gt (AG rfl CK .m0 (((Ag.l0.comp AI.l2).comp (AQ.arr (n:=6) An.fl (by(try dsimp only at *);(try simp only [List.length_append,List.length_cons,List.length_nil]);omega) (by(try dsimp only at *);(try simp only [List.length_append,List.length_cons,List.length_nil]);omega))).comp An.l0) rfl rfl) ?_
   refine Gt (CZ rfl rfl (by(try dsimp only at *);(try simp only [List.length_append,List.length_cons,List.length_nil]);omega)) ?_
   refine Ah rfl EH (.c rfl (.c rfl .n)) (.c .h (.c .h .n)) (Bi _ _ _ _ (by assumption) (by first | exact hb | (rw [hXb];exact hb)) (by(try simp only [AF.CI,AF.Cf,(AF.Hk _ _ _).2.2] at *);(try dsimp only at *);omega)) (fun v20 B hv=>?_)
   obtain⟨y21,rfl,y22,rfl⟩:=hv
   refine AT (AB (.t2 0 79) ?_)
   refine AW (AA (AK ?_))
   refine Gt (Ay rfl rfl (IntWalk.i64_in _ (by(try dsimp only at *);(try simp only [List.length_append,List.length_cons,List.length_nil]);omega))) ?_
   refine Gm rfl ?_
   refine AT (AB (.t2 0 79) ?_)
   refine B0 (k+1) _ _ ?_ ?_ (.t2 79 0) (.refl _)
   · exact⟨by omega,by omega,by rw [AF.JZ hI21,BJ cp7,← hI23,hBl.1,← hXw],by assumption⟩
   · omega
  have c9p:=kz c9
  have cp7:(!decide (k=T.EF.b) && T.EF.w.I2 T.EF.b k)=false:=by rw [hBl.1,hBl.2.1,← hXw,← hXb];exact c9
  refine Aa ?_
  refine AB (.t2 0 79) ?_
  refine AW (AA (AK ?_))
  refine Gt (Ay rfl rfl (IntWalk.i64_in _ (by(try dsimp only at *);(try simp only [List.length_append,List.length_cons,List.length_nil]);omega))) ?_
  refine Gm rfl ?_
  refine AT (AB (.t2 0 79) ?_)
  refine B0 (k+1) _ _ ?_ ?_ (.t2 79 0) (.refl _)
  · exact⟨by omega,by omega,by rw [AF.JZ hI21,AX cp7,← hI23],by assumption⟩
  · omega
 have c8p:=kz c8
 obtain rfl:k=6:=by omega
 refine Bl (AY (AY (Am ?_)))
 refine Bo rfl .n ?_
 intro w1 hS
 have hS:=(hS.perm (Ax.perm (.c .h (.c .h .n)))).A3
 have hq:T.look=X:=(show T.look=_ from AX c1).trans hI23.symm
 refine⟨_,⟨?gqc8,rfl,?hlc8,?hBc8⟩,hS⟩
 case hBc8=>rw [hq]
 case hlc8=>rw [hq];assumption
theorem Mv (X:AI)(s:As)(hw:X.DL)(hs:s.length≤100000000):Fx Tryz.prog 114 #[.agg X.enc.toArray,BW s] [] (fun w=>(GV 0 AI.DT w∧0 ∉ Cp [])) (fun v B=>∃ h:Hd,v = .tuple #[.agg ((AF.Bb X s).1.enc).toArray, .int .i64 (AF.Bb X s).2.1,h.val, .int .i64 (AF.Bb X s).2.2.2]∧h.len=(AF.Bb X s).2.2.1.length∧B = [Af.own h 56 16 ((AF.Bb X s).2.2.1.flatMap Ing.Event.enc)]):=by
 intro w hS0 hH
 obtain⟨gl0,gm0⟩:=hH
 refine Ao _ _ Tryz.func114 rfl rfl rfl (hS0) ?_
 refine Gs ?_
 refine B4 rfl rfl rfl (fun b1=>?_)
 refine A6 rfl NX rfl (fun b2=>?_)
 refine Ga rfl (Ga rfl (Ga rfl (Gn (.t3 1 2 4) (CH (Gt (AU rfl Be .m1 (AQ.id AI.fl.len AI.fl.one) rfl) ?_)))))
 refine BE rfl bX (.c rfl .n) (fun w hS=>Hs _ w) ?_
 refine Gt (BX rfl) (Gn (.t4 1 2 4 14) ?_)
 refine Gc (fun c1=>?_) (fun c1=>?_)
 ·
  refine Gs (Gt (AU rfl Be .m1 (AQ.id AI.fl.len AI.fl.one) rfl) ?_)
  refine AO (AJ (AQ.id AI.fl.len AI.fl.one) rfl rfl rfl EE rfl .h) ?_
  refine Ga rfl (Ga rfl (Ga rfl (Gn (.t4 4 5 6 7) (Ae (AE ?_)))))
  refine AZ rfl (.cell rfl .m0 (.inl ⟨(by rw [AI.fl.len];exact Be),rfl⟩) (.tmp rfl (.tmp rfl (.tmp rfl .n)))) ?_
  intro w1 hS
  have hS:=hS.Cr 56 16
  have hS:=(hS.perm (Ax.perm (.c .h .n))).A3
  have hq:AF.Bb X s=_:=BJ c1
  refine⟨_,⟨⟨none,0,0⟩,?hv,?hl,?hB⟩,hS⟩
  case hv=>rw [hq];rfl
  case hl=>rw [hq];rfl
  case hB=>rw [hq];rfl
 have c1p:=kz c1
 refine Aa ?_
 refine AB (.t3 1 2 4) ?_
 refine AA (CH (Gm rfl ?_))
 refine BE rfl dz (.c rfl .n) (fun w hS=>Me _ (by first | assumption | omega) w) ?_
 refine Gt (BX rfl) (Gn (.t4 1 2 4 18) ?_)
 refine Gc (fun c2=>?_) (fun c2=>?_)
 ·
  refine Gs (Gt (AU rfl Be .m1 (AQ.id AI.fl.len AI.fl.one) rfl) ?_)
  refine AO (AJ (AQ.id AI.fl.len AI.fl.one) rfl rfl rfl EE rfl .h) ?_
  refine Ga rfl (Ga rfl (Ga rfl (Gn (.t4 4 5 6 7) (Ae (AE ?_)))))
  refine AZ rfl (.cell rfl .m0 (.inl ⟨(by rw [AI.fl.len];exact Be),rfl⟩) (.tmp rfl (.tmp rfl (.tmp rfl .n)))) ?_
  intro w1 hS
  have hS:=hS.Cr 56 16
  have hS:=(hS.perm (Ax.perm (.c .h .n))).A3
  have hq:AF.Bb X s=_:=(AX c1).trans (BJ c2)
  refine⟨_,⟨⟨none,0,0⟩,?hv,?hl,?hB⟩,hS⟩
  case hv=>rw [hq];rfl
  case hl=>rw [hq];rfl
  case hB=>rw [hq];rfl
 have c2p:=kz c2
 refine Aa ?_
 refine AB (.t3 1 2 4) ?_
 refine AA (CH (Gt (Aj Br rfl) (Gt (AU rfl Zw .m1 AI.l2 rfl) (Gm rfl (Gn (.t5 1 2 4 21 22) (Ak ?_))))))
 refine Bt (.t5 22 1 2 4 21) ?_
 refine Ch (fun(k:Int)=>0≤k∧k≤6∧CA 6 (fun k=>!AF.JD X s k) 6=CA 6 (fun k=>!AF.JD X s k) (6 - k).toNat) (fun(k:Int)=>(6 - k).toNat) (fun(k:Int)=> [(22, .int .i64 k)]) (fun(k:Int)=> []) (0) ?_ rfl rfl (fun k hI1=>?_)
 · exact⟨by omega,by omega,rfl⟩
 obtain⟨hI11,hI12,hI13⟩:=hI1
 refine Gs (Gt (BC rfl rfl) (AT (AA (Au ?_))))
 refine Gc (fun c3=>?_) (fun c3=>?_)
 ·
  have c3p:=kz c3
  refine Aa ?_
  refine AB (.t5 1 2 4 21 22) ?_
  refine AA (Au (Ak (Gs ?_)))
  refine Gt (GZ An.fl Tryz.underlying33 GC rfl rfl (by first | omega | exact hb.1 | exact hb.2 | (dsimp only;omega)) (by first | omega | exact hb.1 | exact hb.2 | (dsimp only;omega))) ?_
  refine A6 rfl L0 rfl (fun b3=>?_)
  refine AO (AJ (AQ.id An.fl.len An.fl.one) rfl rfl rfl Kr rfl .h) ?_
  refine Gn (.t6 1 2 4 9 21 22) (Gs (Gt (Aj Ij rfl) (Gt (AG rfl DM .m0 An.l1 rfl rfl) (Gm rfl (Bg 27 rfl rfl (fun q=>Aj LG rfl) (Bg 27 rfl rfl (fun q=>AG (Bc rfl q) CK .m0 An.l0 rfl rfl) (Bg 27 rfl rfl (fun q=>AD rfl) ?_)))))))
  refine Bg 27 rfl rfl (fun q=>Bv (Bc rfl q) (Bc rfl q)) (Gt (BM rfl rfl (fun h=>h)) (Gn (.t6 1 2 4 21 22 32) ?_))
  refine Gc (fun c4=>?_) (fun c4=>?_)
  ·
   have c4p:=kz c4
   refine Gs (Gt (AU rfl Be .m2 (AQ.id AI.fl.len AI.fl.one) rfl) ?_)
   refine AO (AJ (AQ.id AI.fl.len AI.fl.one) rfl rfl rfl EE rfl (.t .h)) ?_
   refine Ga rfl (Ga rfl (Ga rfl (Gn (.t4 4 5 6 7) (Ae (AS (AE (AE ?_)))))))
   refine AS (AE ?_)
   refine AZ rfl (.cell rfl .m1 (.inl ⟨(by rw [AI.fl.len];exact Be),rfl⟩) (.tmp rfl (.tmp rfl (.tmp rfl .n)))) ?_
   intro w1 hS
   have hS:=hS.Cr 56 16
   have hS:=(hS.perm (Ax.perm (.c .h .n))).A3
   have ha:(!CA 6 (fun k=>!AF.JD X s k) 6)=true:=by rw [hI13,Da (fun k=>!AF.JD X s k) (show k < 6 by omega),show AF.JD X s k=true from c4];rfl
   have hq:AF.Bb X s=_:=(AX c1).trans ((AX c2).trans (BJ ha))
   refine⟨_,⟨⟨none,0,0⟩,?hv,?hl,?hB⟩,hS⟩
   case hv=>rw [hq];rfl
   case hl=>rw [hq];rfl
   case hB=>rw [hq];rfl
  have c4p:=kz c4
  refine Aa ?_
  refine AB (.t5 1 2 4 21 22) ?_
  refine AW (AA (AK ?_))
  refine Gt (Ay rfl rfl (IntWalk.i64_in _ (by first | omega | exact hb.1 | exact hb.2 | (dsimp only;omega)))) ?_
  refine Gm rfl ?_
  refine AT (AB (.t5 1 2 4 21 22) ?_)
  refine B7 (k+1) ?_ ?_ (.t5 22 1 2 4 21) (.cons _ (.refl _))
  · exact⟨by omega,by omega,by rw [hI13,Da (fun k=>!AF.JD X s k) (show k < 6 by omega),show AF.JD X s k=false from c4];rfl⟩
  · omega
 have c3p:=kz c3
 have hno:(!CA 6 (fun k=>!AF.JD X s k) 6)=false:=by rw [hI13,show(6 - k).toNat=0 by omega];rfl
 refine Bl (AY (AY (Am ?_)))
 refine AB (.t3 1 2 4) ?_
 refine AA (CH (Ga rfl (AT (AA (Ak ?_)))))
 refine Bt (.t4 10 1 2 4) ?_
 refine Ch (fun(k:Int)=>2≤k∧k≤6∧AF.CQ X 6=AF.CQ X (5 - (k - 1)).toNat) (fun(k:Int)=>(6 - k).toNat) (fun(k:Int)=> [(10, .int .i64 k)]) (fun(k:Int)=> []) (2) ?_ rfl rfl (fun k hI2=>?_)
 · exact⟨by omega,by omega,AF.WW X⟩
 obtain⟨hI21,hI22,hI23⟩:=hI2
 refine CH (Gm rfl (Gt (BC rfl rfl) (Gn (.t5 1 2 4 10 36) ?_)))
 refine Gc (fun c5=>?_) (fun c5=>?_)
 ·
  have c5p:=kz c5
  refine Aa ?_
  refine AB (.t4 1 2 4 10) ?_
  refine AA (Au (Ak (Gs (Gm rfl (Gt (Aj Br rfl) ?_)))))
  refine Gt (AV DB rfl rfl (by first | omega | exact hb.1 | exact hb.2 | (dsimp only;omega)) (by first | omega | exact hb.1 | exact hb.2 | (dsimp only;omega))) ?_
  refine Gt (Aj Ij rfl) ?_
  refine Gt (AG rfl DM .m1 ((AI.l2.comp (AQ.ar (n:=6) An.fl (by first | omega | exact hb | (dsimp only;omega)))).comp An.l1) rfl rfl) ?_
  refine Gt (BX rfl) (Gn (.t5 1 2 4 10 44) ?_)
  refine Gc (fun c6=>?_) (fun c6=>?_)
  ·
   have c6p:=kz c6
   have hF:=AF.P8 (s:=s) (by simpa using c1) hw (by omega) (show 0≤k by omega) (show k < 6 by omega)
   have hb:=hF.b
   refine Gs (Gt (AU rfl Be .m1 (AQ.id AI.fl.len AI.fl.one) rfl) (Gm rfl (Gt (BL VK Uh rfl (.cons Ag.l0 rfl rfl rfl (.cons Ag.l1 rfl rfl rfl .nil))) ?_)))
   refine B4 rfl rfl rfl (fun b4=>?_)
   refine Ga rfl (Gn (.t4 1 4 10 11) (Gs (Gm rfl (Gm rfl (Gm rfl (Gt (BL Yn L0 rfl (.cons An.l0 rfl rfl rfl (.cons An.l1 rfl rfl rfl (.cons An.l4 rfl rfl rfl .nil)))) (Gt (Ba rfl) ?_)))))))
   refine Gt (Aj BD rfl) (Gt (Aj Br rfl) ?_)
   refine Gt (AV DB rfl rfl (by first | omega | exact hb.1 | exact hb.2 | (dsimp only;omega)) (by first | omega | exact hb.1 | exact hb.2 | (dsimp only;omega))) ?_
   refine AO (AJ ((Ag.l0.comp AI.l2).comp (AQ.ar (n:=6) An.fl (by first | omega | exact hb | (dsimp only;omega)))) rfl rfl rfl Kr rfl .h) ?_
   refine Gn (.t3 4 10 11) (Gs (Gm rfl ?_))
   refine Df Ing.Event.enc 56 16 ?_
   refine Ah rfl VH (.c rfl (.c rfl .n)) (.c (.t .h) (.c .h .n)) (Gi _ (⟨X.C7 k (AF.Jy s),k,[]⟩:AF) _ 17 rfl hb (Nat.zero_le _)) (fun v5 B hv=>?_)
   obtain⟨y6,rfl,y7,rfl⟩:=hv
   refine Gn (.t3 4 10 11) (Gs (Gm rfl ?_))
   refine BB rfl VB (.c rfl .n) (.c .h (.c .h .n)) (HL _ (AF.kind (⟨X.C7 k (AF.Jy s),k,[]⟩:AF) 17) _ y7 hb hF.br (by decide:(0:Nat)+1≤90000)) (fun w hS=>gl0.pull gm0 hS (.c .h (.c .h .n))) (fun v8 B hv=>?_)
   obtain⟨y9,rfl,y10,rfl⟩:=hv
   refine Gn (.t3 4 10 11) (Au ?_)
   refine BN (N:=13) [0,1,3,7,0,0,32,96,224,15,543,2047,4095] mix (by kernel_rfl) rfl ?_
   refine Pf 0 rfl (AD rfl) (Pf 1 rfl (Ba rfl) (Pf 2 rfl (Aj BD rfl) (Pf 3 rfl (AU rfl Be .m0 Ag.l0 rfl) (Pf 4 rfl (AD rfl) (Pf 5 rfl (AD rfl) (Pf 6 rfl (Ba rfl) (Pf 7 rfl (Aj CP rfl) ?_)))))))
   refine Pf 8 rfl (AG rfl Ds .m0 Ag.l2 rfl rfl) ?_
   refine Ab 9 rfl (by kernel_rfl) ?_
   refine AO (AJ (AQ.id AI.fl.len AI.fl.one) rfl rfl rfl EE rfl (.t (.t .h))) ?_
   refine A7 rfl ⟨?_,?_⟩
   · exact(Po rfl (AG rfl Ds .m0 Ag.l2 rfl rfl) rfl rfl (Po rfl (Aj CP rfl) rfl rfl (Po rfl (Ba rfl) rfl rfl (Po rfl (AD rfl) rfl rfl (Po rfl (AD rfl) rfl rfl (Pk (Pk (Pk (Pk Ac)))))))))
   refine Pf 10 rfl (A1 rfl) (Pf 11 rfl (A1 rfl) (Pf 12 rfl (A1 rfl) ?_))
   refine Az (by kernel_rfl) ?_
   refine AB (.t4 4 5 6 7) ?_
   refine AA (Ae (AS (AE (AE (AS (AE ?_))))))
   refine AZ rfl (.cell rfl .m2 (.inl ⟨(by rw [AI.fl.len];exact Be),rfl⟩) (.tmp rfl (.tmp rfl (.tmp rfl .n)))) ?_
   intro w1 hS
   have hS:=(hS.perm (Ax.perm (.c (.t .h) .n))).A3
   have hfr:AF.CQ X 6=k:=hI23.trans (AF.Wa hI21 (by omega) c6)
   have hf0:decide (AF.CQ X 6 < 0)=false:=decide_eq_false (by omega)
   have hq:AF.Bb X s=_:=(AX c1).trans ((AX c2).trans ((AX hno).trans (AX hf0)))
   rw [hfr] at hq
   refine⟨_,⟨y9,?hv,?hl,?hB⟩,hS⟩
   case hv=>rw [hq];(try rfl)
   case hl=>rw [hq];exact y10
   case hB=>rw [hq];(try rfl)
  have c6p:=kz c6
  refine Aa ?_
  refine AB (.t4 1 2 4 10) ?_
  refine AW (AA (AK (Gm rfl ?_)))
  refine Gt (Ay rfl rfl (IntWalk.i64_in _ (by first | omega | exact hb.1 | exact hb.2 | (dsimp only;omega)))) ?_
  refine Ga rfl ?_
  refine AT (AB (.t4 1 2 4 10) ?_)
  refine B7 (k+1) ?_ ?_ (.t4 10 1 2 4) (.refl _)
  · exact⟨by omega,by omega,by rw [hI23,AF.Xt hI21 (by omega) c6,show(5 - (k+1 - 1))=5 - k by omega]⟩
  · omega
 have c5p:=kz c5
 obtain rfl:k=6:=by omega
 refine Bl (AY (AY (Am ?_)))
 refine AB (.t2 2 4) ?_
 refine AA (Gs (Gt (AU rfl Be .m1 (AQ.id AI.fl.len AI.fl.one) rfl) ?_))
 refine AO (AJ (AQ.id AI.fl.len AI.fl.one) rfl rfl rfl EE rfl .h) ?_
 refine Ga rfl (Ga rfl (Ga rfl (Gn (.t4 4 5 6 7) (Ae ?_))))
 refine AZ rfl (.cell rfl .m0 (.inl ⟨(by rw [AI.fl.len];exact Be),rfl⟩) (.tmp rfl (.tmp rfl (.tmp rfl .n)))) ?_
 intro w1 hS
 have hS:=hS.Cr 56 16
 have hS:=(hS.perm (Ax.perm (.c .h .n))).A3
 have hf0:decide (AF.CQ X 6 < 0)=true:=by rw [hI23];rfl
 have hq:AF.Bb X s=_:=(AX c1).trans ((AX c2).trans ((AX hno).trans (BJ hf0)))
 refine⟨_,⟨⟨none,0,0⟩,?hv,?hl,?hB⟩,hS⟩
 case hv=>rw [hq];rfl
 case hl=>rw [hq];rfl
 case hB=>rw [hq];rfl
theorem NV (z:Int)(w:World):Ee Tryz.prog 49 #[.int .i64 z] w fun v w'=>v = .tuple #[BW (AI.form z).1,BW (AI.form z).2]∧B9 w w':=by
 refine Ao [] [] Tryz.func49 rfl rfl rfl (St.start w []) ?_
 refine Gs (Ga rfl (Ga rfl (Gn (.t1 0) (CH (Gm rfl (Gn (.t1 4) (Ak ?_)))))))
 refine Gs (Gt (Ai rfl rfl) (Ga rfl (Gn (.t2 4 5) ?_)))
 refine Gc (fun c1=>?_) (fun c1=>?_)
 ·
  refine Gs (Ga rfl (Ga rfl (Gn (.t2 2 3) (Ae (AS (AE ?_))))))
  refine AZ rfl (.tmp rfl (.tmp rfl .n)) ?_
  intro w1 hS;refine⟨?_,hS.Al⟩;rw [show AI.form z=_ from(BJ c1)];rfl
 refine Gs (Gt (Ai rfl rfl) (Ga rfl (Gn (.t2 4 7) ?_)))
 refine Gc (fun c2=>?_) (fun c2=>?_)
 ·
  refine Gs (Ga rfl (Ga rfl (Gn (.t2 2 3) (Ae (AS (AE ?_))))))
  refine AZ rfl (.tmp rfl (.tmp rfl .n)) ?_
  intro w1 hS;refine⟨?_,hS.Al⟩;rw [show AI.form z=_ from((AX c1).trans (BJ c2))];rfl
 refine Gs (Gt (Ai rfl rfl) (Ga rfl (Gn (.t2 4 9) ?_)))
 refine Gc (fun c3=>?_) (fun c3=>?_)
 ·
  refine Gs (Ga rfl (Ga rfl (Gn (.t2 2 3) (Ae (AS (AE ?_))))))
  refine AZ rfl (.tmp rfl (.tmp rfl .n)) ?_
  intro w1 hS;refine⟨?_,hS.Al⟩;rw [show AI.form z=_ from((AX c1).trans ((AX c2).trans (BJ c3)))];rfl
 refine Gs (Gt (Ai rfl rfl) (Ga rfl (Gn (.t2 4 11) ?_)))
 refine Gc (fun c4=>?_) (fun c4=>?_)
 ·
  refine Gs (Ga rfl (Ga rfl (Gn (.t2 2 3) (Ae (AS (AE ?_))))))
  refine AZ rfl (.tmp rfl (.tmp rfl .n)) ?_
  intro w1 hS;refine⟨?_,hS.Al⟩;rw [show AI.form z=_ from((AX c1).trans ((AX c2).trans ((AX c3).trans (BJ c4))))];rfl
 refine Gs (Gt (Ai rfl rfl) (Ga rfl (Gn (.t2 4 13) ?_)))
 refine Gc (fun c5=>?_) (fun c5=>?_)
 ·
  refine Gs (Ga rfl (Ga rfl (Gn (.t2 2 3) (Ae (AS (AE ?_))))))
  refine AZ rfl (.tmp rfl (.tmp rfl .n)) ?_
  intro w1 hS;refine⟨?_,hS.Al⟩;rw [show AI.form z=_ from((AX c1).trans ((AX c2).trans ((AX c3).trans ((AX c4).trans (BJ c5)))))];rfl
 refine Gs (Gt (Ai rfl rfl) (Ga rfl (Gn (.t2 4 15) ?_)))
 refine Gc (fun c6=>?_) (fun c6=>?_)
 ·
  refine Gs (Ga rfl (Ga rfl (Gn (.t2 2 3) (Ae (AS (AE ?_))))))
  refine AZ rfl (.tmp rfl (.tmp rfl .n)) ?_
  intro w1 hS;refine⟨?_,hS.Al⟩;rw [show AI.form z=_ from((AX c1).trans ((AX c2).trans ((AX c3).trans ((AX c4).trans ((AX c5).trans (BJ c6))))))];rfl
 refine Gs (Gt (Ai rfl rfl) (Ga rfl (Gn (.t2 4 17) ?_)))
 refine Gc (fun c7=>?_) (fun c7=>?_)
 ·
  refine Gs (Ga rfl (Ga rfl (Gn (.t2 2 3) (Ae (AS (AE ?_))))))
  refine AZ rfl (.tmp rfl (.tmp rfl .n)) ?_
  intro w1 hS;refine⟨?_,hS.Al⟩;rw [show AI.form z=_ from((AX c1).trans ((AX c2).trans ((AX c3).trans ((AX c4).trans ((AX c5).trans ((AX c6).trans (BJ c7)))))))];rfl
 refine Gs (Gt (Ai rfl rfl) (Ga rfl (Gn (.t2 4 19) ?_)))
 refine Gc (fun c8=>?_) (fun c8=>?_)
 ·
  refine Gs (Ga rfl (Ga rfl (Gn (.t2 2 3) (Ae (AS (AE ?_))))))
  refine AZ rfl (.tmp rfl (.tmp rfl .n)) ?_
  intro w1 hS;refine⟨?_,hS.Al⟩;rw [show AI.form z=_ from((AX c1).trans ((AX c2).trans ((AX c3).trans ((AX c4).trans ((AX c5).trans ((AX c6).trans ((AX c7).trans (BJ c8))))))))];rfl
 refine Gs (Gt (Ai rfl rfl) (Ga rfl (Gn (.t2 4 21) ?_)))
 refine Gc (fun c9=>?_) (fun c9=>?_)
 ·
  refine Gs (Ga rfl (Ga rfl (Gn (.t2 2 3) (Ae (AS (AE ?_))))))
  refine AZ rfl (.tmp rfl (.tmp rfl .n)) ?_
  intro w1 hS;refine⟨?_,hS.Al⟩;rw [show AI.form z=_ from((AX c1).trans ((AX c2).trans ((AX c3).trans ((AX c4).trans ((AX c5).trans ((AX c6).trans ((AX c7).trans ((AX c8).trans (BJ c9)))))))))];rfl
 refine Gs (Gt (Ai rfl rfl) (Ga rfl (Gn (.t2 4 23) ?_)))
 refine Gc (fun c10=>?_) (fun c10=>?_)
 ·
  refine Gs (Ga rfl (Ga rfl (Gn (.t2 2 3) (Ae (AS (AE ?_))))))
  refine AZ rfl (.tmp rfl (.tmp rfl .n)) ?_
  intro w1 hS;refine⟨?_,hS.Al⟩;rw [show AI.form z=_ from((AX c1).trans ((AX c2).trans ((AX c3).trans ((AX c4).trans ((AX c5).trans ((AX c6).trans ((AX c7).trans ((AX c8).trans ((AX c9).trans (BJ c10))))))))))];rfl
 refine Gs (Gt (Ai rfl rfl) (Ga rfl (Gn (.t2 4 25) ?_)))
 refine Gc (fun c11=>?_) (fun c11=>?_)
 ·
  refine Gs (Ga rfl (Ga rfl (Gn (.t2 2 3) (Ae (AS (AE ?_))))))
  refine AZ rfl (.tmp rfl (.tmp rfl .n)) ?_
  intro w1 hS;refine⟨?_,hS.Al⟩;rw [show AI.form z=_ from((AX c1).trans ((AX c2).trans ((AX c3).trans ((AX c4).trans ((AX c5).trans ((AX c6).trans ((AX c7).trans ((AX c8).trans ((AX c9).trans ((AX c10).trans (BJ c11)))))))))))];rfl
 refine Gs (Gt (Ai rfl rfl) (Ga rfl (Gn (.t2 4 27) ?_)))
 refine Gc (fun c12=>?_) (fun c12=>?_)
 ·
  refine Gs (Ga rfl (Ga rfl (Gn (.t2 2 3) (Ae (AS (AE ?_))))))
  refine AZ rfl (.tmp rfl (.tmp rfl .n)) ?_
  intro w1 hS;refine⟨?_,hS.Al⟩;rw [show AI.form z=_ from((AX c1).trans ((AX c2).trans ((AX c3).trans ((AX c4).trans ((AX c5).trans ((AX c6).trans ((AX c7).trans ((AX c8).trans ((AX c9).trans ((AX c10).trans ((AX c11).trans (BJ c12))))))))))))];rfl
 refine Gs (Gt (Ai rfl rfl) (Ga rfl (Gn (.t2 4 29) ?_)))
 refine Gc (fun c13=>?_) (fun c13=>?_)
 ·
  refine Gs (Ga rfl (Ga rfl (Gn (.t2 2 3) (Ae (AS (AE ?_))))))
  refine AZ rfl (.tmp rfl (.tmp rfl .n)) ?_
  intro w1 hS;refine⟨?_,hS.Al⟩;rw [show AI.form z=_ from((AX c1).trans ((AX c2).trans ((AX c3).trans ((AX c4).trans ((AX c5).trans ((AX c6).trans ((AX c7).trans ((AX c8).trans ((AX c9).trans ((AX c10).trans ((AX c11).trans ((AX c12).trans (BJ c13)))))))))))))];rfl
 refine Gs (Gt (Ai rfl rfl) (Ga rfl (Gn (.t2 4 31) ?_)))
 refine Gc (fun c14=>?_) (fun c14=>?_)
 ·
  refine Gs (Ga rfl (Ga rfl (Gn (.t2 2 3) (Ae (AS (AE ?_))))))
  refine AZ rfl (.tmp rfl (.tmp rfl .n)) ?_
  intro w1 hS;refine⟨?_,hS.Al⟩;rw [show AI.form z=_ from((AX c1).trans ((AX c2).trans ((AX c3).trans ((AX c4).trans ((AX c5).trans ((AX c6).trans ((AX c7).trans ((AX c8).trans ((AX c9).trans ((AX c10).trans ((AX c11).trans ((AX c12).trans ((AX c13).trans (BJ c14))))))))))))))];rfl
 refine Gs (Gt (Ai rfl rfl) (Ga rfl (Gn (.t2 4 33) ?_)))
 refine Gc (fun c15=>?_) (fun c15=>?_)
 ·
  refine Gs (Ga rfl (Ga rfl (Gn (.t2 2 3) (Ae (AS (AE ?_))))))
  refine AZ rfl (.tmp rfl (.tmp rfl .n)) ?_
  intro w1 hS;refine⟨?_,hS.Al⟩;rw [show AI.form z=_ from((AX c1).trans ((AX c2).trans ((AX c3).trans ((AX c4).trans ((AX c5).trans ((AX c6).trans ((AX c7).trans ((AX c8).trans ((AX c9).trans ((AX c10).trans ((AX c11).trans ((AX c12).trans ((AX c13).trans ((AX c14).trans (BJ c15)))))))))))))))];rfl
 refine Gs (Gt (Ai rfl rfl) (Ga rfl (Gn (.t2 4 35) ?_)))
 refine Gc (fun c16=>?_) (fun c16=>?_)
 ·
  refine Gs (Ga rfl (Ga rfl (Gn (.t2 2 3) (Ae (AS (AE ?_))))))
  refine AZ rfl (.tmp rfl (.tmp rfl .n)) ?_
  intro w1 hS;refine⟨?_,hS.Al⟩;rw [show AI.form z=_ from((AX c1).trans ((AX c2).trans ((AX c3).trans ((AX c4).trans ((AX c5).trans ((AX c6).trans ((AX c7).trans ((AX c8).trans ((AX c9).trans ((AX c10).trans ((AX c11).trans ((AX c12).trans ((AX c13).trans ((AX c14).trans ((AX c15).trans (BJ c16))))))))))))))))];rfl
 refine Gs (Gt (Ai rfl rfl) (Ga rfl (Gn (.t2 4 37) ?_)))
 refine Gc (fun c17=>?_) (fun c17=>?_)
 ·
  refine Gs (Ga rfl (Ga rfl (Gn (.t2 2 3) (Ae (AS (AE ?_))))))
  refine AZ rfl (.tmp rfl (.tmp rfl .n)) ?_
  intro w1 hS;refine⟨?_,hS.Al⟩;rw [show AI.form z=_ from((AX c1).trans ((AX c2).trans ((AX c3).trans ((AX c4).trans ((AX c5).trans ((AX c6).trans ((AX c7).trans ((AX c8).trans ((AX c9).trans ((AX c10).trans ((AX c11).trans ((AX c12).trans ((AX c13).trans ((AX c14).trans ((AX c15).trans ((AX c16).trans (BJ c17)))))))))))))))))];rfl
 refine Gs (Gt (Ai rfl rfl) (Ga rfl (Gn (.t1 39) ?_)))
 refine Gc (fun c18=>?_) (fun c18=>?_)
 ·
  refine Gs (Ga rfl (Ga rfl (Gn (.t2 2 3) (Ae (AS (AE ?_))))))
  refine AZ rfl (.tmp rfl (.tmp rfl .n)) ?_
  intro w1 hS;refine⟨?_,hS.Al⟩;rw [show AI.form z=_ from((AX c1).trans ((AX c2).trans ((AX c3).trans ((AX c4).trans ((AX c5).trans ((AX c6).trans ((AX c7).trans ((AX c8).trans ((AX c9).trans ((AX c10).trans ((AX c11).trans ((AX c12).trans ((AX c13).trans ((AX c14).trans ((AX c15).trans ((AX c16).trans ((AX c17).trans (BJ c18))))))))))))))))))];rfl
 refine Aa ?_
 refine AB (.nil _) ?_
 refine AW (AA (Gs (Ga rfl (Ga rfl (AT (AA (Ae ?_)))))))
 refine AZ rfl (.tmp rfl (.tmp rfl .n)) ?_
 intro w1 hS;refine⟨?_,hS.Al⟩;rw [show AI.form z=_ from((AX c1).trans ((AX c2).trans ((AX c3).trans ((AX c4).trans ((AX c5).trans ((AX c6).trans ((AX c7).trans ((AX c8).trans ((AX c9).trans ((AX c10).trans ((AX c11).trans ((AX c12).trans ((AX c13).trans ((AX c14).trans ((AX c15).trans ((AX c16).trans ((AX c17).trans (AX c18))))))))))))))))))];rfl
theorem DF (b:Nat)(p:Option Addr)(h:Hd)(hp:p=none∨p=some ⟨b,0,none⟩):Jp Tryz.prog 71 #[.pointer (some ⟨b,0,none⟩)] [Af.box b 107 (Db.enc ⟨p,h⟩)] (fun v B=>v = .tuple #[]∧B = [Af.box b 107 (Db.enc ⟨some ⟨b,0,none⟩,h⟩)]):=by
 intro w hS0
 refine Ao _ _ Tryz.func71 rfl rfl rfl (hS0) ?_
 refine Gs (Gm rfl (Gt (Ba rfl) (Gt (Aj Ra rfl) (Gt (AG rfl YI .m0 Db.l0 rfl rfl) (Gt (Es Tryz.underlying104 rfl) (Gn (.t2 0 6) ?_))))))
 refine Gc (fun c1=>?_) (fun c1=>?_)
 ·
  obtain rfl:p=none:=by simpa using c1
  refine AK (Gm rfl (Gm rfl ?_))
  refine Gt ((let ⟨_,h,h2⟩:=UK;Sb Tryz.underlying104 Tryz.underlying152 h h2 rfl .m0 (by rw [Db.fl.len];decide))) ?_
  refine Gt (SA Tryz.func85 (by kernel_rfl) (by kernel_rfl) (by kernel_rfl) (by kernel_rfl) rfl) ?_
  refine Gt ((let ⟨_,h,_⟩:=UK;Pv Tryz.underlying152 Tryz.underlying104 h rfl .m0 (by rw [Db.fl.len];kernel_rfl))) ?_
  refine Gt (Ba rfl) (Gt (Aj Ra rfl) ?_)
  refine AO (AJ Db.l0 rfl rfl rfl aH rfl .h) ?_
  refine AT ?_
  refine Bo rfl .n ?_
  intro w1 hS
  have hS:=(hS.perm (Ax.perm (.c .h .n))).A3
  exact⟨_,⟨rfl,rfl⟩,hS⟩
 obtain rfl:p=some ⟨b,0,none⟩:=by rcases hp with h | h;(subst h;simp at c1);exact h
 refine Gs (Gm rfl (Gt (Ba rfl) (Gt (Aj Ra rfl) (Gt (AG rfl YI .m0 Db.l0 rfl rfl) (Gm rfl (Gt ((let ⟨_,h,_⟩:=UK;Qx Tryz.underlying104 h rfl rfl)) (Gn (.t1 19) ?_)))))))
 refine EK rfl rfl ?_
 refine Aa ?_
 refine Bo rfl .n ?_
 intro w1 hS
 have hS:=(hS.perm (Ax.perm (.c .h .n))).A3
 exact⟨_,⟨rfl,rfl⟩,hS⟩
theorem Cl (b:Nat)(p:Option Addr)(h:Hd)(s:As)(hp:p=none∨p=some ⟨b,0,none⟩)(hz:h.Z)(hl:h.len=s.length)(c:UInt8)(hb:s.length < 140737488355000):Jp Tryz.prog 50 #[.pointer (some ⟨b,0,none⟩), .int .u8 (c.toNat:Int)] [Af.box b 107 (Db.enc ⟨p,h⟩),Af.own h 5 1 (s.flatMap DV)] (fun v B=>∃ p' h',v = .nilIface∧(p'=none∨p'=some ⟨b,0,none⟩)∧h'.Z∧h'.len=(s ++ [c]).length∧B = [Af.box b 107 (Db.enc ⟨p',h'⟩),Af.own h' 5 1 ((s ++ [c]).flatMap DV)]):=by
 intro w hS0
 refine Ao _ _ Tryz.func50 rfl rfl rfl (hS0) ?_
 refine Gs (Ga rfl (Gn (.t2 0 1) (Gs (Gm rfl ?_))))
 refine Ah rfl ah (.c rfl .n) (.c .h .n) (DF _ _ _ (by first | assumption | omega)) (fun v1 B hv=>?_)
 obtain⟨rfl,rfl⟩:=hv
 refine Gn (.t2 0 1) (Gs (Gm rfl (Gm rfl (Gt (Ba rfl) (Gt (Aj E6 rfl) (Gt (AG rfl Ic .m0 Db.l1 rfl rfl) (Gm rfl ?_)))))))
 refine UG rfl Tryz.underlying105 Vw aN rfl (by decide) (by decide) rfl rfl rfl (fun b1=>?_)
 refine PF rfl Tryz.underlying105 Vw aN rfl ek (by decide) (by decide) rfl rfl (fun w hS=>Src.D9 Tryz.underlying105 ((Kn.own .m0) w hS)) (by intro v hv;simp at hv;subst hv;rfl) (by dsimp only;omega) (fun _=>(.t (.t .h))) (fun h2 h2l h2z=>?_)
 have h2z:=h2z hz;dsimp only at h2l
 refine Gt (Ba rfl) (Gt (Aj E6 rfl) ?_)
 refine AO (AJ Db.l1 rfl rfl rfl Uk rfl (.t .h)) ?_
 refine Gn (.nil _) (Gs (Ga rfl (AT (AA (Ae ?_)))))
 refine AZ rfl (.tmp rfl .n) ?_
 intro w1 hS
 have hS:=(hS.perm (Ax.perm (.c (.t .h) (.c (.t .h) .n)))).A3
 exact⟨_,⟨_,_,rfl, .inr rfl,by assumption,by simp;omega,by rw [List.flatMap_append];rfl⟩,hS⟩
theorem BR (b:Nat)(p:Option Addr)(h:Hd)(s:As)(hp:p=none∨p=some ⟨b,0,none⟩)(hz:h.Z)(hl:h.len=s.length)(t:As)(hb:s.length+t.length < 140737488355000):Jp Tryz.prog 51 #[.pointer (some ⟨b,0,none⟩),BW t] [Af.box b 107 (Db.enc ⟨p,h⟩),Af.own h 5 1 (s.flatMap DV)] (fun v B=>∃ p' h',v = .tuple #[.int .i64 t.length, .nilIface]∧(p'=none∨p'=some ⟨b,0,none⟩)∧h'.Z∧h'.len=(s++t).length∧B = [Af.box b 107 (Db.enc ⟨p',h'⟩),Af.own h' 5 1 ((s++t).flatMap DV)]):=by
 intro w hS0
 refine Ao _ _ Tryz.func51 rfl rfl rfl (hS0) ?_
 refine Gs (Ga rfl (Ga rfl (Gn (.t2 0 1) (Gs (Gm rfl ?_)))))
 refine Ah rfl ah (.c rfl .n) (.c .h .n) (DF _ _ _ (by first | assumption | omega)) (fun v1 B hv=>?_)
 obtain⟨rfl,rfl⟩:=hv
 refine Gn (.t2 0 1) (Gs (Gm rfl (Gm rfl (Gt (Ba rfl) (Gt (Aj E6 rfl) (Gt (AG rfl Ic .m0 Db.l1 rfl rfl) (Gm rfl ?_)))))))
 refine Ce Wv rfl Tryz.underlying105 Vw aN rfl ek (by decide) (by decide) rfl rfl (fun _ _=>Src.str Tryz.underlying9) (by dsimp only;omega) (fun _=>(.t .h)) (fun h2 h2l h2z=>?_)
 have h2z:=h2z hz;dsimp only at h2l
 refine Gt (Ba rfl) (Gt (Aj E6 rfl) ?_)
 refine AO (AJ Db.l1 rfl rfl rfl Uk rfl .h) ?_
 refine Gn (.t1 1) (Gs (Gm rfl (Gt (BO rfl Tryz.underlying9 rfl) (Ga rfl (Ga rfl (Gn (.t2 4 5) (Ae ?_)))))))
 refine AZ rfl (.tmp rfl (.tmp rfl .n)) ?_
 intro w1 hS
 have hS:=(hS.perm (Ax.perm (.c .h (.c .h .n)))).A3
 exact⟨_,⟨_,_,rfl, .inr rfl,by assumption,by simp;omega,by rw [List.flatMap_append]⟩,hS⟩
def RH:Go.Shelf.Ren:=⟨fun | 171=>53 | 243=>72 | 246=>86 | 283=>108 | 284=>109 | 285=>110 | 286=>111 | 129=>142 | 317=>141 | 318=>143 | 319=>144 | 320=>145 | 337=>162 | 338=>163 | n=>n,fun | 3=>3 | 9=>9 | 2=>2 | 4=>4 | 171=>172 | 0=>0 | 53=>173 | 37=>105 | 5=>5 | 173=>176 | 212=>205 | 51=>178 | 20=>20 | 213=>206 | 46=>140 | 232=>226 | 233=>227 | n=>n,fun | 17=>2 | 18=>3 | 19=>4 | n=>n⟩
theorem XS:LaysM.n171 Tryz.prog RH where
  mixed:=by kernel_rfl
  f129:=Tryz.func142.trans (congrArg some (by kernel_rfl))
  f171:=Tryz.func53.trans (congrArg some (by kernel_rfl))
  f243:=Tryz.func72.trans (congrArg some (by kernel_rfl))
  f246:=Tryz.func86.trans (congrArg some (by kernel_rfl))
  f283:=Tryz.func108.trans (congrArg some (by kernel_rfl))
  f284:=Tryz.func109.trans (congrArg some (by kernel_rfl))
  f285:=Tryz.func110.trans (congrArg some (by kernel_rfl))
  f286:=Tryz.func111.trans (congrArg some (by kernel_rfl))
  f317:=Tryz.func141.trans (congrArg some (by kernel_rfl))
  f318:=Tryz.func143.trans (congrArg some (by kernel_rfl))
  f319:=Tryz.func144.trans (congrArg some (by kernel_rfl))
  f320:=Tryz.func145.trans (congrArg some (by kernel_rfl))
  f337:=Tryz.func162.trans (congrArg some (by kernel_rfl))
  f338:=Tryz.func163.trans (congrArg some (by kernel_rfl))
  t0:=Tryz.underlying0
  a0:=Tryz.isAgg0
  z0:=Tryz.sizeOf0
  v0:=Tryz.zeroValue0
  t2:=Tryz.underlying2
  a2:=Tryz.isAgg2
  z2:=Tryz.sizeOf2
  v2:=Tryz.zeroValue2
  t3:=Tryz.underlying3
  a3:=Tryz.isAgg3
  z3:=Tryz.sizeOf3
  v3:=Tryz.zeroValue3
  t4:=Tryz.underlying4
  a4:=Tryz.isAgg4
  z4:=Tryz.sizeOf4
  v4:=Tryz.zeroValue4
  t5:=Tryz.underlying5
  a5:=Tryz.isAgg5
  z5:=Tryz.sizeOf5
  v5:=Tryz.zeroValue5
  t9:=Tryz.underlying9
  a9:=Tryz.isAgg9
  z9:=Tryz.sizeOf9
  v9:=Tryz.zeroValue9
  t20:=Tryz.underlying20
  a20:=Tryz.isAgg20
  z20:=Tryz.sizeOf20
  v20:=Tryz.zeroValue20
  t37:=Tryz.underlying105
  a37:=Tryz.isAgg105
  z37:=Tryz.sizeOf105
  v37:=Tryz.zeroValue105
  t46:=Tryz.underlying140
  a46:=Tryz.isAgg140
  z46:=Tryz.sizeOf140
  v46:=Tryz.zeroValue140
  t51:=Tryz.underlying178
  a51:=Tryz.isAgg178
  z51:=Tryz.sizeOf178
  v51:=Tryz.zeroValue178
  t53:=Tryz.underlying173
  a53:=Tryz.isAgg173
  z53:=Tryz.sizeOf173
  v53:=Tryz.zeroValue173
  t171:=Tryz.underlying172
  a171:=Tryz.isAgg172
  z171:=Tryz.sizeOf172
  v171:=Tryz.zeroValue172
  t173:=Tryz.underlying176
  a173:=Tryz.isAgg176
  z173:=Tryz.sizeOf176
  v173:=Tryz.zeroValue176
  t212:=Tryz.underlying205
  a212:=Tryz.isAgg205
  z212:=Tryz.sizeOf205
  v212:=Tryz.zeroValue205
  t213:=Tryz.underlying206
  a213:=Tryz.isAgg206
  z213:=Tryz.sizeOf206
  t232:=Tryz.underlying226
  a232:=Tryz.isAgg226
  z232:=Tryz.sizeOf226
  v232:=Tryz.zeroValue226
  t233:=Tryz.underlying227
  a233:=Tryz.isAgg227
  z233:=Tryz.sizeOf227
  v233:=Tryz.zeroValue227
  g17:=by kernel_rfl
  g18:=by kernel_rfl
  g19:=by kernel_rfl
  i0:=by kernel_rfl
  i2:=by kernel_rfl
  i3:=by kernel_rfl
  i4:=by kernel_rfl
  i5:=by kernel_rfl
  i9:=by kernel_rfl
  i20:=by kernel_rfl
  i37:=by kernel_rfl
  i46:=by kernel_rfl
  i51:=by kernel_rfl
  i53:=by kernel_rfl
  i171:=by kernel_rfl
  i173:=by kernel_rfl
  i212:=by kernel_rfl
  i232:=by kernel_rfl
  i233:=by kernel_rfl
  m17:=by kernel_rfl
  m18:=by kernel_rfl
  m19:=by kernel_rfl
theorem Lq (n:Int)(h0:-9223372036854775808≤n)(hy:n≤9223372036854775807)(w:World)(gl0:GV 2 GO w):Ee Tryz.prog 53 #[.int .i64 n] w fun v w'=>v=BW (Lib.itoa n)∧B9 w w':=
  Ee.Ze (Any.strconv_Itoa XS n h0 hy w (UQ (by kernel_rfl) gl0))
theorem Cy (b:Nat)(p:Option Addr)(h:Hd)(s:As)(hz:h.Z)(hl:h.len=s.length)(hb:s.length < 140737488355000):Jp Tryz.prog 54 #[.pointer (some ⟨b,0,none⟩)] [Af.box b 107 (Db.enc ⟨p,h⟩),Af.own h 5 1 (s.flatMap DV)] (fun v B=>v=BW s∧B = [Af.box b 107 (Db.enc ⟨p,h⟩)]):=by
 intro w hS0
 refine Ao _ _ Tryz.func54 rfl rfl rfl (hS0) ?_
 refine Gs (Ga rfl (Gn (.t1 0) (Au ?_)))
 refine BN (N:=12) [0,1,3,7,15,0,32,96,224,480,1023,2047] mix (by kernel_rfl) rfl ?_
 refine Pf 0 rfl (AD rfl) (Pf 1 rfl (Ba rfl) (Pf 2 rfl (Aj E6 rfl) (Pf 3 rfl (AG rfl Ic .m0 Db.l1 rfl rfl) ?_)))
 refine Pf 4 rfl (RS rfl (by assumption)) ?_
 refine Pf 5 rfl (AD rfl) (Pf 6 rfl (Ba rfl) (Pf 7 rfl (Aj E6 rfl) (Pf 8 rfl (AG rfl Ic .m0 Db.l1 rfl rfl) (Pf 9 rfl (Av rfl Tryz.underlying105 rfl) ?_))))
 refine Ab 10 rfl (by kernel_rfl) ?_
 refine NR rfl Tryz.underlying134 fa rfl rfl (by assumption) (by omega) (.t .h) ?_
 refine BH rfl ⟨?_,?_⟩
 · exact(Pk (Pk (Pk (Pk (Pk (Pk (Pk (Pk (Pk (Pk Ac))))))))))
 refine Pf 11 rfl (A1 rfl) ?_
 refine Az (by kernel_rfl) ?_
 refine AB (.t1 2) ?_
 refine AA (Ae ?_)
 refine AZ rfl (.tmp rfl .n) ?_
 intro w1 hS
 have hS:=(hS.perm (Ax.perm (.c .h .n))).A3
 exact⟨_,⟨rfl,rfl⟩,hS⟩
theorem Nd (e:Ing.Event)(b:Int)(hs:(decide (b < 0) || decide (6≤b) || decide (AI.Sf (e.Hy.at b) 1=0))=false→AI.Small e)(w:World)(gl0:GV 2 GO w)(gl1:GV 0 AI.DT w):Ee Tryz.prog 23 #[.agg e.enc.toArray, .int .i64 b] w fun v w'=>v = .tuple #[BW (AI.tell e b).1, .bool (AI.tell e b).2]∧B9 w w':=by
 refine Ao [] [] Tryz.func23 rfl rfl rfl (St.start w []) ?_
 refine Gs ?_
 refine B4 rfl rfl rfl (fun b1=>?_)
 refine Ga rfl (Ga rfl (Gn (.t2 1 2) (CH (Gm rfl (Gt (BC rfl rfl) (Gm rfl (Bf 17 rfl rfl (fun q=>AD rfl) ?_)))))))
 refine Bf 17 rfl rfl (fun q=>CO (cF rfl q) rfl) ?_
 refine Gt (BU rfl rfl (fun h=>by rw [h];rfl)) ?_
 refine Gm rfl (Bf 21 rfl rfl (fun q=>AD rfl) (Bf 21 rfl rfl (fun q=>Aj Nh rfl) ?_))
 refine Bf 21 rfl rfl (fun q=>by have q1:=q;(try simp at q1);exact AV Sr (cF rfl q) (cF rfl q) (by first | omega | (simp only [List.length_cons,List.length_nil];omega)) (by first | omega | (simp only [List.length_cons,List.length_nil];omega))) ?_
 refine Bf 21 rfl rfl (fun q=>by have q1:=q;(try simp at q1);exact AG (cF rfl q) A5 .m0 (Ing.Event.l10.comp (AQ.arr (n:=6) B5 (by first | omega | (simp only [List.length_cons,List.length_nil];omega)) (by first | omega | (simp only [List.length_cons,List.length_nil];omega)))) rfl rfl) ?_
 refine Bf 21 rfl rfl (fun q=>Q2 (cF rfl q) rfl (show _=AI.Sf _ _ from rfl)) (Bf 21 rfl rfl (fun q=>Ai (cF rfl q) rfl) ?_)
 refine Gt (BU rfl rfl (fun h=>by rw [h];rfl)) ?_
 refine Gn (.t3 1 2 28) ?_
 refine Gc (fun c1=>?_) (fun c1=>?_)
 ·
  refine Gs (Ga rfl (Ga rfl (Gn (.t2 4 5) (Ae (AE ?_)))))
  refine AZ rfl (.tmp rfl (.tmp rfl .n)) ?_
  intro w1 hS;refine⟨?_,hS.Al⟩;rw [show AI.tell e b=_ from BJ c1];rfl
 have c1p:=kz c1
 have hs:=hs c1
 have hr:0≤b∧b < 6:=by simp at c1;omega
 have htl:=AI.PA e b
 have h1l:=AI.Py hs b
 have h2l:=AI.Od hs b
 have h3l:=hs.Bw
 have h4l:=hs.text
 have h5l:=AI.JN e.dir
 have h6l:=Lib.itoa_length_le e.n hs.n0 hs.n1
 refine Aa ?_
 refine AB (.t2 1 2) ?_
 refine AA (Gs (Gt (Aj Tq rfl) (Gt (AG rfl A5 .m0 Ing.Event.l0 rfl rfl) ?_)))
 refine BE rfl fH (.c rfl .n) (fun w hS=>NV _ w) ?_
 refine Gm rfl (Gt (AM rfl rfl) (Gt (AM rfl rfl) (Ga rfl (Ga rfl (Gn (.t4 1 2 6 7) (Gs (Gm rfl ?_)))))))
 refine Ga rfl (Gn (.t4 1 2 6 8) (CH (Gm rfl (Gt (Aj Qm rfl) (Gt (AG rfl A5 .m0 Ing.Event.l2 rfl rfl) (Gt (Ai rfl rfl) (Gn (.t5 1 2 6 8 39) ?_)))))))
 refine aZ (BW) (s:=(AI.ES e b)) rfl rfl rfl rfl rfl rfl rfl ?_
 refine AB (.t3 1 2 8) ?_
 refine AA (CH (Gm rfl (Gt (Bv rfl rfl) (Gn (.t4 1 2 8 42) ?_))))
 refine Gc (fun c2=>?_) (fun c2=>?_)
 ·
  refine Gs (Ga rfl (Ga rfl (Gn (.t2 4 5) (Ae (AE ?_)))))
  refine AZ rfl (.tmp rfl (.tmp rfl .n)) ?_
  intro w1 hS;refine⟨?_,hS.Al⟩;rw [show AI.tell e b=_ from(AX c1).trans (BJ c2)];rfl
 have c2p:=kz c2
 refine Aa ?_
 refine AB (.t3 1 2 8) ?_
 refine AA (Au ?_)
 refine BN (N:=6) [0,1,0,4,3,31] mix (by kernel_rfl) rfl ?_
 refine Pf 0 rfl (Aj Xm rfl) (Pf 1 rfl (AG rfl CK .m0 Ing.Event.l6 rfl rfl) (Pf 2 rfl (Aj YZ rfl) (Pf 3 rfl (AG rfl CK .m0 Ing.Event.l7 rfl rfl) (Pf 4 rfl (A1 rfl) (Pf 5 rfl (A1 rfl) ?_)))))
 refine Az (by kernel_rfl) ?_
 refine AB (.t5 1 2 8 9 10) ?_
 refine AA (CH (Gm rfl (Gt (Aj Nh rfl) ?_)))
 refine Gt (AV Sr rfl rfl (by first | omega | (simp only [List.length_cons,List.length_nil];omega)) (by first | omega | (simp only [List.length_cons,List.length_nil];omega))) ?_
 refine Gt (AG rfl A5 .m0 (Ing.Event.l10.comp (AQ.arr (n:=6) B5 (by first | omega | (simp only [List.length_cons,List.length_nil];omega)) (by first | omega | (simp only [List.length_cons,List.length_nil];omega)))) rfl rfl) ?_
 refine Gt (Q2 rfl rfl (show _=AI.Sf _ _ from rfl)) (Gt (Cb rfl rfl) (Gn (.t6 1 2 8 9 10 52) ?_))
 refine Q7 (BW) (s:=(AI.Io e b)) rfl rfl rfl rfl rfl ?_
 refine AB (.t5 1 2 8 9 10) ?_
 refine AA (CH (Gm rfl (Gt (Aj Nh rfl) ?_)))
 refine Gt (AV Sr rfl rfl (by first | omega | (simp only [List.length_cons,List.length_nil];omega)) (by first | omega | (simp only [List.length_cons,List.length_nil];omega))) ?_
 refine Gt (AG rfl A5 .m0 (Ing.Event.l10.comp (AQ.arr (n:=6) B5 (by first | omega | (simp only [List.length_cons,List.length_nil];omega)) (by first | omega | (simp only [List.length_cons,List.length_nil];omega)))) rfl rfl) ?_
 refine Gt (Q2 rfl rfl (show _=AI.Sf _ _ from rfl)) (Gt (Cb rfl rfl) (Gn (.t6 1 2 8 9 10 58) ?_))
 refine Q7 (BW) (s:=AI.XN e b) rfl rfl rfl rfl rfl ?_
 refine AB (.t5 1 2 8 9 10) ?_
 refine AA (CH (Gm rfl (Gt (Aj HD rfl) (Gt (AG rfl A5 .m0 Ing.Event.l3 rfl rfl) (Gt (Ai rfl rfl) (Gn (.t5 2 8 9 10 62) ?_))))))
 refine Q7 (BW) (s:=(AI.Gb e b)) rfl rfl rfl rfl rfl ?_
 refine AB (.t4 2 8 9 10) ?_
 refine AA (Gs ?_)
 refine A6 rfl Ui rfl (fun b2=>?_)
 refine Df DV 5 1 ?_
 refine AT (AA (CH (Gm rfl (Gt (BO rfl Tryz.underlying9 rfl) (Gm rfl (Gn (.t7 2 8 9 10 11 64 65) (Ak ?_)))))))
 refine Bt (.t7 65 2 8 9 10 11 64) ?_
 refine BZ (.t .h) ?_
 refine BZ (.t .h) ?_
 refine JA (fun(k:Int) (x:As) (p:Option Addr) (h:Hd)=>0≤k∧k≤((AI.ES e b).length:Int)∧x=AI.told e (AI.Io e b) (AI.Gb e b) (AI.ES e b) k.toNat∧(p=none∨p=some ⟨b2,0,none⟩)∧h.Z∧h.len=x.length) (fun(k:Int) (x:As) (p:Option Addr) (h:Hd)=>(((AI.ES e b).length:Int) - k).toNat) (fun(k:Int) (x:As) (p:Option Addr) (h:Hd)=> [(65, .int .i64 k)]) (fun(k:Int) (x:As) (p:Option Addr) (h:Hd)=> [Af.own h 5 1 (x.flatMap DV),Af.box b2 107 (Db.enc ⟨p,h⟩)]) (0) ([]) (none) (⟨none,0,0⟩) ?_ rfl rfl (fun k x p h hI1=>?_)
 · exact⟨by omega,by omega,rfl, .inl rfl,Hd.VE,rfl⟩
 obtain⟨hI11,hI12,hI13,hp,hz,hl⟩:=hI1;have hxl:=AI.OL hs h1l h2l (AI.ES e b) k.toNat;rw [← hI13] at hxl;have hxm:k.toNat * 2000000≤60000000:=by omega
 refine Gs (Gt (BC rfl rfl) (AT (AA (Au ?_))))
 refine Gc (fun c3=>?_) (fun c3=>?_)
 ·
  have c3p:=kz c3
  refine Aa ?_
  refine AB (.t7 2 8 9 10 11 64 65) ?_
  refine AA (Au (Ak (Gs (Gm rfl (Ga rfl (Gn (.t8 2 8 9 10 11 12 64 65) (Gs ?_)))))))
  refine Gm rfl (Gm rfl ?_)
  refine Gt (Bp Tryz.underlying9 rfl rfl (by first | omega | (simp only [List.length_cons,List.length_nil];omega)) (by first | omega | (simp only [List.length_cons,List.length_nil];omega))) ?_
  refine Ga rfl (Gn (.t9 2 8 9 10 11 12 13 64 65) (Gs (Gm rfl (Gt (Ai rfl rfl) (Gm rfl (Bf 73 rfl rfl (fun q=>AD rfl) (Bf 73 rfl rfl (fun q=>AD rfl) ?_)))))))
  refine Bf 73 rfl rfl (fun q=>by have q1:=q;(try simp at q1);exact Fi (cF rfl q) rfl (IntWalk.i64_in _ (by first | omega | (simp only [List.length_cons,List.length_nil];omega)))) ?_
  refine Bf 73 rfl rfl (fun q=>by have q1:=q;(try simp at q1);exact Bp Tryz.underlying9 (cF rfl q) (cF rfl q) (by first | omega | (simp only [List.length_cons,List.length_nil];omega)) (by first | omega | (simp only [List.length_cons,List.length_nil];omega))) ?_
  refine Bf 73 rfl rfl (fun q=>Ai (cF rfl q) rfl) ?_
  refine Gt (BU rfl rfl (fun h=>by rw [h];rfl)) ?_
  refine Gm rfl (Bg 80 rfl rfl (fun q=>AD rfl) ?_)
  refine Bg 80 rfl rfl (fun q=>by have q1:=q;(try simp at q1);exact Ay (Bc rfl q) rfl (IntWalk.i64_in _ (by first | omega | (simp only [List.length_cons,List.length_nil];omega)))) ?_
  refine Bg 80 rfl rfl (fun q=>AD rfl) (Bg 80 rfl rfl (fun q=>BO rfl Tryz.underlying9 (Bc rfl q)) (Bg 80 rfl rfl (fun q=>Ai (Bc rfl q) (Bc rfl q)) (Bg 80 rfl rfl (fun q=>AD (Bc rfl q)) ?_)))
  refine Ct (t:=86) rfl rfl rfl (fun qc q=>AD rfl) ?_
  refine Ct (t:=86) rfl rfl rfl (fun qc q=>AD rfl) ?_
  refine Ct (t:=86) rfl rfl rfl (fun qc q=>by have q1:=q;have qc1:=qc;(try simp at q1 qc1);exact Ay (Bc rfl (by rw [qc,q];rfl)) rfl (IntWalk.i64_in _ (by first | omega | (simp only [List.length_cons,List.length_nil];omega)))) ?_
  refine Ct (t:=86) rfl rfl rfl (fun qc q=>by have q1:=q;have qc1:=qc;(try simp at q1 qc1);exact Bp Tryz.underlying9 (Bc rfl (by rw [qc,q];rfl)) (Bc rfl (by rw [qc,q];rfl)) (by first | omega | (simp only [List.length_cons,List.length_nil];omega)) (by first | omega | (simp only [List.length_cons,List.length_nil];omega))) ?_
  refine Ct (t:=86) rfl rfl rfl (fun qc q=>Ai (Bc rfl (by rw [qc,q];rfl)) rfl) ?_
  refine Bg 80 rfl rfl (fun q=>BU (Bc rfl q) rfl (fun h=>by rw [q,h];rfl)) ?_
  refine Bg 80 rfl rfl (fun q=>AD (Bc rfl q)) ?_
  refine Ct (t:=93) rfl rfl rfl (fun qc q=>AD rfl) ?_
  refine Ct (t:=93) rfl rfl rfl (fun qc q=>AD rfl) ?_
  refine Ct (t:=93) rfl rfl rfl (fun qc q=>by have q1:=q;have qc1:=qc;(try simp at q1 qc1);exact Ay (Bc rfl (by rw [qc,q];rfl)) rfl (IntWalk.i64_in _ (by first | omega | (simp only [List.length_cons,List.length_nil];omega)))) ?_
  refine Ct (t:=93) rfl rfl rfl (fun qc q=>by have q1:=q;have qc1:=qc;(try simp at q1 qc1);exact Bp Tryz.underlying9 (Bc rfl (by rw [qc,q];rfl)) (Bc rfl (by rw [qc,q];rfl)) (by first | omega | (simp only [List.length_cons,List.length_nil];omega)) (by first | omega | (simp only [List.length_cons,List.length_nil];omega))) ?_
  refine Ct (t:=93) rfl rfl rfl (fun qc q=>Ai (Bc rfl (by rw [qc,q];rfl)) rfl) ?_
  refine Bg 80 rfl rfl (fun q=>BU (Bc rfl q) rfl (fun h=>by rw [q,h];rfl)) ?_
  refine Gt (BM rfl rfl (fun h=>h)) (Ga rfl (Gn (.t9 2 8 9 10 11 13 14 64 65) (Ak (Gs (Gm rfl (Gt (BX rfl) (Ga rfl ?_)))))))
  refine Gn (.t9 2 8 9 10 11 13 64 65 103) ?_
  refine Gc (fun c4=>?_) (fun c4=>?_)
  ·
   have c4p:=kz c4
   refine AK (Gm rfl ?_)
   refine Ah rfl Zt (.c rfl (.c rfl .n)) (.c (.t .h) (.c .h .n)) (Cl _ _ _ _ (by assumption) (by assumption) (by assumption) _ (by omega)) (fun v1 B hv=>?_)
   obtain⟨y2,y3,rfl,y4,y5,y6,rfl⟩:=hv
   refine AT (AB (.t7 2 8 9 10 11 64 65) ?_)
   refine AW (AW (AA (AK ?_)))
   refine Gt (Ay rfl rfl (IntWalk.i64_in _ (by first | omega | (simp only [List.length_cons,List.length_nil];omega)))) ?_
   refine Gm rfl ?_
   refine AT (AB (.t7 2 8 9 10 11 64 65) ?_)
   refine Bx (.c (.t .h) (.c .h (.c .h .n))) ?_
   refine B3 ?_
   refine DE (k+1) _ _ _ ?_ ?_ (.t7 65 2 8 9 10 11 64) (.refl _)
   · exact⟨by omega,by omega,by rw [AI.Fo hI11,← hI13,show AI.piece e (AI.Io e b) (AI.Gb e b) (AI.ES e b) k=_ from(BJ c4)],by assumption,by assumption,by assumption⟩
   · omega
  have c4p:=kz c4
  refine Gs (Gm rfl (Gt (Ai rfl rfl) (Ga rfl (Gn (.t9 2 8 9 10 11 13 64 65 108) ?_))))
  refine Gc (fun c5=>?_) (fun c5=>?_)
  ·
   have c5p:=kz c5
   refine AK (Gm rfl ?_)
   refine Ah rfl Pp (.c rfl (.c rfl .n)) (.c (.t .h) (.c .h .n)) (BR _ _ _ _ (by assumption) (by assumption) (by assumption) _ (by omega)) (fun v7 B hv=>?_)
   obtain⟨y8,y9,rfl,y10,y11,y12,rfl⟩:=hv
   refine AT (AB (.t7 2 8 9 10 11 64 65) ?_)
   refine AW (AW (AA (AK ?_)))
   refine Gt (Ay rfl rfl (IntWalk.i64_in _ (by first | omega | (simp only [List.length_cons,List.length_nil];omega)))) ?_
   refine Gm rfl ?_
   refine AT (AB (.t7 2 8 9 10 11 64 65) ?_)
   refine Bx (.c (.t .h) (.c .h (.c .h .n))) ?_
   refine B3 ?_
   refine DE (k+1) _ _ _ ?_ ?_ (.t7 65 2 8 9 10 11 64) (.refl _)
   · exact⟨by omega,by omega,by rw [AI.Fo hI11,← hI13,show AI.piece e (AI.Io e b) (AI.Gb e b) (AI.ES e b) k=_ from((AX c4).trans (BJ c5))],by assumption,by assumption,by assumption⟩
   · omega
  have c5p:=kz c5
  refine Gs (Gm rfl (Gt (Ai rfl rfl) (Ga rfl (Gn (.t9 2 8 9 10 11 13 64 65 113) ?_))))
  refine Gc (fun c6=>?_) (fun c6=>?_)
  ·
   have c6p:=kz c6
   refine AK (Gm rfl ?_)
   refine Ah rfl Pp (.c rfl (.c rfl .n)) (.c (.t .h) (.c .h .n)) (BR _ _ _ _ (by assumption) (by assumption) (by assumption) _ (by omega)) (fun v13 B hv=>?_)
   obtain⟨y14,y15,rfl,y16,y17,y18,rfl⟩:=hv
   refine AT (AB (.t7 2 8 9 10 11 64 65) ?_)
   refine AW (AW (AA (AK ?_)))
   refine Gt (Ay rfl rfl (IntWalk.i64_in _ (by first | omega | (simp only [List.length_cons,List.length_nil];omega)))) ?_
   refine Gm rfl ?_
   refine AT (AB (.t7 2 8 9 10 11 64 65) ?_)
   refine Bx (.c (.t .h) (.c .h (.c .h .n))) ?_
   refine B3 ?_
   refine DE (k+1) _ _ _ ?_ ?_ (.t7 65 2 8 9 10 11 64) (.refl _)
   · exact⟨by omega,by omega,by rw [AI.Fo hI11,← hI13,show AI.piece e (AI.Io e b) (AI.Gb e b) (AI.ES e b) k=_ from((AX c4).trans ((AX c5).trans (BJ c6)))],by assumption,by assumption,by assumption⟩
   · omega
  have c6p:=kz c6
  refine Gs (Gm rfl (Gt (Ai rfl rfl) (Ga rfl (Gn (.t9 2 8 9 10 11 13 64 65 118) ?_))))
  refine Gc (fun c7=>?_) (fun c7=>?_)
  ·
   have c7p:=kz c7
   refine AK (Gt (Aj bR rfl) (Gt (AG rfl CK .m2 Ing.Event.l8 rfl rfl) ?_))
   refine Ah rfl Pp (.c rfl (.c rfl .n)) (.c (.t .h) (.c .h .n)) (BR _ _ _ _ (by assumption) (by assumption) (by assumption) _ (by omega)) (fun v19 B hv=>?_)
   obtain⟨y20,y21,rfl,y22,y23,y24,rfl⟩:=hv
   refine AT (AB (.t7 2 8 9 10 11 64 65) ?_)
   refine AW (AW (AA (AK ?_)))
   refine Gt (Ay rfl rfl (IntWalk.i64_in _ (by first | omega | (simp only [List.length_cons,List.length_nil];omega)))) ?_
   refine Gm rfl ?_
   refine AT (AB (.t7 2 8 9 10 11 64 65) ?_)
   refine Bx (.c (.t .h) (.c .h (.c .h .n))) ?_
   refine B3 ?_
   refine DE (k+1) _ _ _ ?_ ?_ (.t7 65 2 8 9 10 11 64) (.refl _)
   · exact⟨by omega,by omega,by rw [AI.Fo hI11,← hI13,show AI.piece e (AI.Io e b) (AI.Gb e b) (AI.ES e b) k=_ from((AX c4).trans ((AX c5).trans ((AX c6).trans (BJ c7))))],by assumption,by assumption,by assumption⟩
   · omega
  have c7p:=kz c7
  refine Gs (Gm rfl (Gt (Ai rfl rfl) (Ga rfl (Gn (.t9 2 8 9 10 11 13 64 65 124) ?_))))
  refine Gc (fun c8=>?_) (fun c8=>?_)
  ·
   have c8p:=kz c8
   refine AK (Gt (Aj bJ rfl) (Gt (AG rfl A5 .m2 Ing.Event.l4 rfl rfl) ?_))
   refine BE rfl dK (.c rfl .n) (fun w hS=>IP _ w (gl1.st hS)) ?_
   refine Ah rfl Pp (.c rfl (.c rfl .n)) (.c (.t .h) (.c .h .n)) (BR _ _ _ _ (by assumption) (by assumption) (by assumption) _ (by omega)) (fun v25 B hv=>?_)
   obtain⟨y26,y27,rfl,y28,y29,y30,rfl⟩:=hv
   refine AT (AB (.t7 2 8 9 10 11 64 65) ?_)
   refine AW (AW (AA (AK ?_)))
   refine Gt (Ay rfl rfl (IntWalk.i64_in _ (by first | omega | (simp only [List.length_cons,List.length_nil];omega)))) ?_
   refine Gm rfl ?_
   refine AT (AB (.t7 2 8 9 10 11 64 65) ?_)
   refine Bx (.c (.t .h) (.c .h (.c .h .n))) ?_
   refine B3 ?_
   refine DE (k+1) _ _ _ ?_ ?_ (.t7 65 2 8 9 10 11 64) (.refl _)
   · exact⟨by omega,by omega,by rw [AI.Fo hI11,← hI13,show AI.piece e (AI.Io e b) (AI.Gb e b) (AI.ES e b) k=_ from((AX c4).trans ((AX c5).trans ((AX c6).trans ((AX c7).trans (BJ c8)))))],by assumption,by assumption,by assumption⟩
   · omega
  have c8p:=kz c8
  refine Gs (Gm rfl (Gt (Ai rfl rfl) (Ga rfl (Gn (.t9 2 8 9 10 11 13 64 65 131) ?_))))
  refine Gc (fun c9=>?_) (fun c9=>?_)
  ·
   have c9p:=kz c9
   refine AK (Gt (Aj bC rfl) (Gt (AG rfl CK .m2 Ing.Event.l9 rfl rfl) ?_))
   refine Ah rfl Pp (.c rfl (.c rfl .n)) (.c (.t .h) (.c .h .n)) (BR _ _ _ _ (by assumption) (by assumption) (by assumption) _ (by omega)) (fun v31 B hv=>?_)
   obtain⟨y32,y33,rfl,y34,y35,y36,rfl⟩:=hv
   refine AT (AB (.t7 2 8 9 10 11 64 65) ?_)
   refine AW (AW (AA (AK ?_)))
   refine Gt (Ay rfl rfl (IntWalk.i64_in _ (by first | omega | (simp only [List.length_cons,List.length_nil];omega)))) ?_
   refine Gm rfl ?_
   refine AT (AB (.t7 2 8 9 10 11 64 65) ?_)
   refine Bx (.c (.t .h) (.c .h (.c .h .n))) ?_
   refine B3 ?_
   refine DE (k+1) _ _ _ ?_ ?_ (.t7 65 2 8 9 10 11 64) (.refl _)
   · exact⟨by omega,by omega,by rw [AI.Fo hI11,← hI13,show AI.piece e (AI.Io e b) (AI.Gb e b) (AI.ES e b) k=_ from((AX c4).trans ((AX c5).trans ((AX c6).trans ((AX c7).trans ((AX c8).trans (BJ c9))))))],by assumption,by assumption,by assumption⟩
   · omega
  have c9p:=kz c9
  refine Gs (Gm rfl (Gt (Ai rfl rfl) (Ga rfl (Gn (.t9 2 8 9 10 11 13 64 65 137) ?_))))
  refine Gc (fun c10=>?_) (fun c10=>?_)
  ·
   have c10p:=kz c10
   refine AK (Gt (Aj bB rfl) (Gt (AG rfl A5 .m2 Ing.Event.l5 rfl rfl) ?_))
   refine BE rfl ez (.c rfl .n) (fun w hS=>Lq _ hs.n0 hs.n1 w (gl0.st hS)) ?_
   refine Ah rfl Pp (.c rfl (.c rfl .n)) (.c (.t .h) (.c .h .n)) (BR _ _ _ _ (by assumption) (by assumption) (by assumption) _ (by omega)) (fun v37 B hv=>?_)
   obtain⟨y38,y39,rfl,y40,y41,y42,rfl⟩:=hv
   refine AT (AB (.t7 2 8 9 10 11 64 65) ?_)
   refine AW (AW (AA (AK ?_)))
   refine Gt (Ay rfl rfl (IntWalk.i64_in _ (by first | omega | (simp only [List.length_cons,List.length_nil];omega)))) ?_
   refine Gm rfl ?_
   refine AT (AB (.t7 2 8 9 10 11 64 65) ?_)
   refine Bx (.c (.t .h) (.c .h (.c .h .n))) ?_
   refine B3 ?_
   refine DE (k+1) _ _ _ ?_ ?_ (.t7 65 2 8 9 10 11 64) (.refl _)
   · exact⟨by omega,by omega,by rw [AI.Fo hI11,← hI13,show AI.piece e (AI.Io e b) (AI.Gb e b) (AI.ES e b) k=_ from((AX c4).trans ((AX c5).trans ((AX c6).trans ((AX c7).trans ((AX c8).trans ((AX c9).trans (BJ c10)))))))],by assumption,by assumption,by assumption⟩
   · omega
  have c10p:=kz c10
  refine AK (Gm rfl ?_)
  refine Ah rfl Zt (.c rfl (.c rfl .n)) (.c (.t .h) (.c .h .n)) (Cl _ _ _ _ (by assumption) (by assumption) (by assumption) _ (by omega)) (fun v43 B hv=>?_)
  obtain⟨y44,y45,rfl,y46,y47,y48,rfl⟩:=hv
  refine AT (AB (.t7 2 8 9 10 11 64 65) ?_)
  refine AW (AW (AA (AK ?_)))
  refine Gt (Ay rfl rfl (IntWalk.i64_in _ (by first | omega | (simp only [List.length_cons,List.length_nil];omega)))) ?_
  refine Gm rfl ?_
  refine AT (AB (.t7 2 8 9 10 11 64 65) ?_)
  refine Bx (.c (.t .h) (.c .h (.c .h .n))) ?_
  refine B3 ?_
  refine DE (k+1) _ _ _ ?_ ?_ (.t7 65 2 8 9 10 11 64) (.refl _)
  · exact⟨by omega,by omega,by rw [AI.Fo hI11,← hI13,show AI.piece e (AI.Io e b) (AI.Gb e b) (AI.ES e b) k=_ from((AX c4).trans ((AX c5).trans ((AX c6).trans ((AX c7).trans ((AX c8).trans ((AX c9).trans (AX c10)))))))],by assumption,by assumption,by assumption⟩
  · omega
 have c3p:=kz c3
 obtain rfl:k=((AI.ES e b).length:Int):=by omega
 refine Bl (AY (AY (Am ?_)))
 refine AB (.t1 11) ?_
 refine AA (Gs ?_)
 refine Ah rfl Zg (.c rfl .n) (.c (.t .h) (.c .h .n)) (Cy _ _ _ _ (by assumption) (by assumption) (by omega)) (fun v49 B hv=>?_)
 obtain⟨rfl,rfl⟩:=hv
 refine Ga rfl (Ga rfl (Gn (.t2 4 5) (Ae ?_)))
 refine AZ rfl (.tmp rfl (.tmp rfl .n)) ?_
 intro w1 hS;refine⟨?_,hS.Al⟩;rw [show AI.tell e b=_ from(AX c1).trans (AX c2),hI13];rfl
theorem G9 (p:Aw)(w:World):Ee Tryz.prog 44 #[.agg p.enc.toArray] w fun v w'=>v = .bool (Page.Bk p)∧B9 w w':=by
 refine Ao [] [] Tryz.func44 rfl rfl rfl (St.start w []) ?_
 refine Gs ?_
 refine B4 rfl rfl rfl (fun b1=>?_)
 refine Ga rfl (Gn (.t1 1) (Gs (Gt (Aj HA rfl) (Gt (AG rfl Ej .m0 Aw.l0 rfl rfl) (Gt (Av rfl Tryz.underlying52 rfl) (Gt (Ia rfl rfl) (Gm rfl ?_)))))))
 refine Bg 7 rfl rfl (fun q=>Aj Ih rfl) (Bg 7 rfl rfl (fun q=>AG (Bc rfl q) CK .m0 Aw.l3 rfl rfl) (Bg 7 rfl rfl (fun q=>BO rfl Tryz.underlying9 (Bc rfl q)) (Bg 7 rfl rfl (fun q=>Ia (Bc rfl q) rfl) (Gt (BM rfl rfl (fun h=>h)) (Gm rfl (Bg 13 rfl rfl (fun q=>Aj KC rfl) (Bg 13 rfl rfl (fun q=>AG (Bc rfl q) A5 .m0 Aw.l1 rfl rfl) ?_)))))))
 refine Bg 13 rfl rfl (fun q=>CO (Bc rfl q) rfl) (Gt (BM rfl rfl (fun h=>h)) (Gm rfl (Bg 18 rfl rfl (fun q=>Aj KC rfl) (Bg 18 rfl rfl (fun q=>AG (Bc rfl q) A5 .m0 Aw.l1 rfl rfl) (Bg 18 rfl rfl (fun q=>Ia (Bc rfl q) rfl) (Gt (BM rfl rfl (fun h=>h)) (Ga rfl ?_)))))))
 refine Gn (.t1 2) (Ae ?_)
 refine AZ rfl (.tmp rfl .n) ?_
 intro w1 hS;refine⟨congrArg Value.bool ?_,hS.Al⟩;rfl
theorem NS {t0:Nat}(p:Aw)(qs:List As)(s:As):Fx Tryz.prog 82 #[.agg p.enc.toArray,BW s] [] (fun w=>Rd w p.wait t0 1 (qs.flatMap A9)) (fun v B=>(Page.Bk p=false∧v = .tuple #[.agg p.enc.toArray, .int .i64 2]∧B = [])∨(Page.Bk p=true∧p.cut=true∧v = .tuple #[.agg p.enc.toArray, .int .i64 6]∧B = [])∨(Page.Bk p=true∧p.cut=false∧60≤qs.length∧v = .tuple #[.agg (Aw.enc ⟨p.wait,p.shown,p.Bq,p.ring,true⟩).toArray, .int .i64 0]∧B = [])∨(Page.Bk p=true∧p.cut=false∧qs.length < 60∧∃ h':Hd,v = .tuple #[.agg (Aw.enc ⟨h',p.shown,p.Bq,p.ring,p.cut⟩).toArray, .int .i64 0]∧h'.len=qs.length+1∧B = [Af.own h' 9 1 ((qs ++ [s]).flatMap A9)])):=by
 intro w hS0 hH
 have r0:=hH
 have hl:=r0.K5 DZ (by decide)
 refine Ao _ _ Tryz.func82 rfl rfl rfl (hS0) ?_
 refine Gs ?_
 refine B4 rfl rfl rfl (fun b1=>?_)
 refine A6 rfl UL rfl (fun b2=>?_)
 refine Ga rfl (Gn (.t3 1 2 4) (Au (Ak (Gs (Gt (AU rfl Cv .m1 (AQ.id Aw.fl.len Aw.fl.one) rfl) ?_)))))
 refine BE rfl bZ (.c rfl .n) (fun w hS=>G9 _ w) ?_
 refine Gt (BX rfl) (Ga rfl (Gn (.t4 1 2 4 6) ?_))
 refine Gc (fun c1=>?_) (fun c1=>?_)
 ·
  refine Gs (Gt (AU rfl Cv .m1 (AQ.id Aw.fl.len Aw.fl.one) rfl) ?_)
  refine AO (AJ (AQ.id Aw.fl.len Aw.fl.one) rfl rfl rfl Fb rfl .h) ?_
  refine Ga rfl (Gn (.t2 4 5) (Ae (AS (AE ?_))))
  refine AZ rfl (.cell rfl .m0 (.inl ⟨(by rw [Aw.fl.len];exact Cv),rfl⟩) (.tmp rfl .n)) ?_
  intro w1 hS
  have hS:=(hS.perm (Ax.perm .n)).A3
  exact⟨_, .inl ⟨by simpa using c1,rfl,rfl⟩,hS⟩
 have c1p:=kz c1
 have hgd:Page.Bk p=true:=by simpa using c1
 have hg:=(Page.Hq p).1 hgd
 refine Gs (Gt (Aj JI rfl) (Gt (AG rfl DM .m1 Aw.l4 rfl rfl) (Ga rfl (Gn (.t4 1 2 4 11) ?_))))
 refine Gc (fun c2=>?_) (fun c2=>?_)
 ·
  refine Gs (Gt (AU rfl Cv .m1 (AQ.id Aw.fl.len Aw.fl.one) rfl) ?_)
  refine AO (AJ (AQ.id Aw.fl.len Aw.fl.one) rfl rfl rfl Fb rfl .h) ?_
  refine Ga rfl (Gn (.t2 4 5) (Ae (AS (AE ?_))))
  refine AZ rfl (.cell rfl .m0 (.inl ⟨(by rw [Aw.fl.len];exact Cv),rfl⟩) (.tmp rfl .n)) ?_
  intro w1 hS
  have hS:=(hS.perm (Ax.perm .n)).A3
  exact⟨_, .inr (.inl ⟨hgd,c2,rfl,rfl⟩),hS⟩
 have c2p:=kz c2
 refine Gs (Gt (Aj HA rfl) (Gt (AG rfl Ej .m1 Aw.l0 rfl rfl) (Gt (Av rfl Tryz.underlying52 rfl) (Gt (CO rfl rfl) (Ga rfl (Gn (.t4 1 2 4 15) ?_))))))
 refine Gc (fun c3=>?_) (fun c3=>?_)
 ·
  have c3p:=kz c3
  refine Gs (Gt (Aj JI rfl) ?_)
  refine AO (AJ Aw.l4 rfl rfl rfl Ks rfl (.t .h)) ?_
  refine Gn (.t2 2 4) (Gs (Gt (AU rfl Cv .m1 (AQ.id Aw.fl.len Aw.fl.one) rfl) ?_))
  refine AO (AJ (AQ.id Aw.fl.len Aw.fl.one) rfl rfl rfl Fb rfl .h) ?_
  refine Ga rfl (Gn (.t2 4 5) (Ae (AS (AE ?_))))
  refine AZ rfl (.cell rfl .m0 (.inl ⟨(by rw [Aw.fl.len];exact Cv),rfl⟩) (.tmp rfl .n)) ?_
  intro w1 hS
  have hS:=(hS.perm (Ax.perm .n)).A3
  exact⟨_, .inr (.inr (.inl ⟨hgd,by simpa using c2,by simp at c3;omega,rfl,rfl⟩)),hS⟩
 have c3p:=kz c3
 refine Aa ?_
 refine AB (.t3 1 2 4) ?_
 refine AW (AA (Gs (Gt (Aj HA rfl) (Gt (AG rfl Ej .m1 Aw.l0 rfl rfl) ?_))))
 refine BB rfl WU (.c rfl .n) .n (B1 _ _ (by first | assumption | omega)) (fun w hS=>(Kn.HJ r0) w hS) (fun v1 B hv=>?_)
 obtain⟨y2,rfl,y3,rfl⟩:=hv
 refine Gm rfl ?_
 refine F3 A9 DZ rfl Tryz.underlying52 Et Sk rfl (by decide) (by decide) rfl rfl (fun b3=>?_)
 refine Ce DZ rfl Tryz.underlying52 Et Sk rfl Xh (by decide) (by decide) rfl rfl (fun w hS=>Src.D9 Tryz.underlying52 ((Kn.own .m0) w hS)) (by(try dsimp only);omega) (fun _=>(.t .h)) (fun h5 h5l h5z=>?_)
 refine Gt (Aj HA rfl) ?_
 refine AO (AJ Aw.l0 rfl rfl rfl MY rfl (.t (.t (.t .h)))) ?_
 refine Gn (.t2 2 4) (Gs (Gt (AU rfl Cv .m3 (AQ.id Aw.fl.len Aw.fl.one) rfl) ?_))
 refine AO (AJ (AQ.id Aw.fl.len Aw.fl.one) rfl rfl rfl Fb rfl (.t (.t .h))) ?_
 refine Ga rfl (Gn (.t2 4 5) (Ae ?_))
 refine AZ rfl (.cell rfl .m2 (.inl ⟨(by rw [Aw.fl.len];exact Cv),rfl⟩) (.tmp rfl .n)) ?_
 intro w1 hS
 have hS:=(hS.perm (Ax.perm (.c (.t .h) .n))).A3
 exact⟨_, .inr (.inr (.inr ⟨hgd,by simpa using c2,by simp at c3;omega,_,rfl,by(try dsimp only at *);(try simp only [List.length_cons,List.length_nil] at *);omega,rfl⟩)),hS⟩
theorem EM (b:Nat)(V:AL)(ls:Vector BI 4)(ev:List Ing.Event)(k:Int)(u:As)(hk:0≤k∧k < 4)(ht:(ls.at k).told.length≤1000000):Jp Tryz.prog 64 #[.pointer (some ⟨b,0,none⟩), .pointer (some ⟨b,165+k.toNat * 22,none⟩),BW u] [Af.box b 101 (AL.enc V),Af.D0 (CJ 9 (AL.Ar V) ls),Af.own (AL.last V) 56 16 ((ev).flatMap Ing.Event.enc)] (fun v B=>∃ V' ls' ev',v = .tuple #[]∧A4 V' ls' ev'=AH.tell (A4 V ls ev) k u∧B = [Af.box b 101 (AL.enc V'),Af.D0 (CJ 9 (AL.Ar V') ls'),Af.own (AL.last V') 56 16 ((ev').flatMap Ing.Event.enc)]):=by
 intro w hS0
 refine Ao _ _ Tryz.func64 rfl rfl rfl (hS0) ?_
 refine FJ (k:=k) hk.1 hk.2 (fun sv sl hsv hlv hln=>?_)
 refine BZ (.t (.t (.t .h))) ?_
 refine BZ (.t (.t .h)) ?_
 refine ZU (Lm:= [_,_]) (fun(o:Aw) (w0:Hd) (ws:List As)=>Cq { sv with out:=o } ⟨sl.queue,ws,sl.told⟩=(Cq sv sl).line u∧o.wait=w0) (fun(o:Aw) (w0:Hd) (ws:List As)=> []) (fun(o:Aw) (w0:Hd) (ws:List As)=> [Af.own w0 9 1 (ws.flatMap A9),Af.box b 101 (KA V k { sv with out:=o })]) (.t2 1 2) rfl ?_ (fun o w0 ws hC=>?_)
 ·
  refine AK (Gm rfl (Gm rfl (Gt (Ba rfl) (Gt (Aj Dt rfl) (Gt (AU rfl Cv .m1 ((AQ.A8 V hk.1 hk.2).comp A2.l4) rfl) (Gm rfl ?_))))))
  refine BB rfl eQ (.c rfl (.c rfl .n)) .n (NS _ _ _) (fun w hS=>(Kn.own .m0) w hS) (fun v1 B hv=>?_)
  rcases hv with ⟨y2,rfl,rfl⟩ | ⟨y3,y4,rfl,rfl⟩ | ⟨y5,y6,y7,rfl,rfl⟩ | ⟨y8,y9,y10,y11,rfl,y12,rfl⟩
  ·
   refine Gm rfl (Gt (AM rfl rfl) (Gt (AM rfl rfl) (Gt (Ba rfl) (Gt (Aj Dt rfl) ?_))))
   refine AO (AJ ((AQ.A8 V hk.1 hk.2).comp A2.l4) rfl rfl rfl Fb rfl (.t .h)) ?_
   refine AT (AB (.t2 1 2) ?_)
   refine Ni _ _ _ ?_ (.t2 1 2) (.refl _)
   · exact⟨(Ya hln.2.1 y2).symm,rfl⟩
  ·
   refine Gm rfl (Gt (AM rfl rfl) (Gt (AM rfl rfl) (Gt (Ba rfl) (Gt (Aj Dt rfl) ?_))))
   refine AO (AJ ((AQ.A8 V hk.1 hk.2).comp A2.l4) rfl rfl rfl Fb rfl (.t .h)) ?_
   refine AT (AB (.t2 1 2) ?_)
   refine Ni _ _ _ ?_ (.t2 1 2) (.refl _)
   · exact⟨(W4 hln.2.1 y3 y4).symm,rfl⟩
  ·
   refine Gm rfl (Gt (AM rfl rfl) (Gt (AM rfl rfl) (Gt (Ba rfl) (Gt (Aj Dt rfl) ?_))))
   refine AO (AJ ((AQ.A8 V hk.1 hk.2).comp A2.l4) rfl rfl rfl Fb rfl (.t .h)) ?_
   refine AT (AB (.t2 1 2) ?_)
   refine Ni _ _ _ ?_ (.t2 1 2) (.refl _)
   · exact⟨(Vn hln.2.1 y5 y6 y7).symm,rfl⟩
  refine Gm rfl (Gt (AM rfl rfl) (Gt (AM rfl rfl) (Gt (Ba rfl) (Gt (Aj Dt rfl) ?_))))
  refine AO (AJ ((AQ.A8 V hk.1 hk.2).comp A2.l4) rfl rfl rfl Fb rfl (.t (.t .h))) ?_
  refine AT (AB (.t2 1 2) ?_)
  refine Bx (.c .h (.c (.t .h) (.c (.t .h) (.c (.t .h) (.c (.t .h) (.c (.t .h) .n)))))) ?_
  refine B3 ?_
  refine Ni _ _ _ ?_ (.t2 1 2) (.refl _)
  · exact⟨(Vj hln.2.1 y8 y9 y10 _).symm,rfl⟩
 obtain⟨hE1,hE2⟩:=hC
 have ht2:sl.told.length≤1000000:=by rw [← hlv];exact ht
 refine Gs (Gm rfl (Gt (Ba rfl) (Gt (Aj Dt rfl) (Gt (Aj JI rfl) (Gt (AG rfl DM .m1 (((AQ.A8 V hk.1 hk.2).comp A2.l4).comp Aw.l4) rfl rfl) (Gt (BX rfl) (Gn (.t3 1 2 23) ?_)))))))
 refine Gc (fun c1=>?_) (fun c1=>?_)
 ·
  have c1p:=kz c1
  refine AK (Gm rfl (Gm rfl (Gt (Ba rfl) (Gt (Aj RK rfl) (Gt (AG rfl Ej .m1 ((AQ.A8 V hk.1 hk.2).comp A2.l5) rfl rfl) (Gm rfl ?_))))))
  refine F3 A9 DZ rfl Tryz.underlying52 Et Sk rfl (by decide) (by decide) rfl rfl (fun b1=>?_)
  refine Ce DZ rfl Tryz.underlying52 Et Sk rfl Xh (by decide) (by decide) rfl rfl (fun w hS=>Src.D9 Tryz.underlying52 ((Kn.own .m0) w hS)) (by(try dsimp only);omega) (fun _=>(.t (.t (.t (.t .h))))) (fun h14 h14l h14z=>?_)
  refine Gt (Ba rfl) (Gt (Aj RK rfl) ?_)
  refine AO (AJ ((AQ.A8 V hk.1 hk.2).comp A2.l5) rfl rfl rfl MY rfl (.t (.t .h))) ?_
  refine AT ?_
  refine Bo rfl .n ?_
  intro w1 hS
  have hS:=(hS.perm (Ax.perm (.c (.t (.t (.t .h))) (.c (.t .h) (.c (.t (.t .h)) (.c (.t .h) (.c (.t .h) (.c (.t .h) .n)))))))).A3
  have hS:=hS.close' hk.1 hk.2 (by rfl) (by exact hE2) (by rfl)
  refine⟨_,⟨V.A8 k _,ls.put k ⟨_,_,_⟩,ev,rfl,?ga1,rfl⟩,hS⟩
  case ga1=>exact Er hk.1 hk.2 hsv hlv (f:=fun x=>x.tell u) (by show _=((Cq sv sl).line u).note u;rw [← hE1];exact(bP (l:=⟨sl.queue,ws,sl.told⟩) c1 _).symm)
 refine Aa ?_
 refine Bo rfl .n ?_
 intro w1 hS
 have hS:=(hS.perm (Ax.perm (.c (.t (.t .h)) (.c .h (.c (.t .h) (.c .h (.c .h (.c .h .n)))))))).A3
 have hS:=hS.close' hk.1 hk.2 (by rfl) (by exact hE2) (by rfl)
 refine⟨_,⟨V.A8 k _,ls.put k ⟨_,_,_⟩,ev,rfl,?ga2,rfl⟩,hS⟩
 case ga2=>exact Er hk.1 hk.2 hsv hlv (f:=fun x=>x.tell u) (by show _=((Cq sv sl).line u).note u;rw [← hE1];exact(bF (l:=⟨sl.queue,ws,sl.told⟩) c1).symm)
theorem Ez (b:Nat)(V:AL)(ls:Vector BI 4)(ev:List Ing.Event)(f:Hd)(es:List Ing.Event)(n:Nat)(hf:f.len=es.length)(hn:X9 ls n)(hm:n+es.length≤1000000)(hl:ev.length≤1000000)(he:(∀ e∈es,∀ c:Int,(decide (c < 0) || decide (6≤c) || decide (AI.Sf (e.Hy.at c) 1=0))=false→AI.Small e)):Fx Tryz.prog 79 #[.pointer (some ⟨b,0,none⟩),f.val] [Af.box b 101 (AL.enc V),Af.D0 (CJ 9 (AL.Ar V) ls),Af.own (AL.last V) 56 16 ((ev).flatMap Ing.Event.enc),Af.own f 56 16 (es.flatMap Ing.Event.enc)] (fun w=>(GV 2 GO w∧2 ∉ Cp [Af.box b 101 (AL.enc V),Af.D0 (CJ 9 (AL.Ar V) ls),Af.own (AL.last V) 56 16 ((ev).flatMap Ing.Event.enc),Af.own f 56 16 (es.flatMap Ing.Event.enc)])∧(GV 0 AI.DT w∧0 ∉ Cp [Af.box b 101 (AL.enc V),Af.D0 (CJ 9 (AL.Ar V) ls),Af.own (AL.last V) 56 16 ((ev).flatMap Ing.Event.enc),Af.own f 56 16 (es.flatMap Ing.Event.enc)])) (fun v B=>∃ V' ls' ev',v = .tuple #[]∧A4 V' ls' ev'=AH.GP (A4 V ls ev) es∧B = [Af.box b 101 (AL.enc V'),Af.D0 (CJ 9 (AL.Ar V') ls'),Af.own (AL.last V') 56 16 ((ev').flatMap Ing.Event.enc),Af.own f 56 16 (es.flatMap Ing.Event.enc)]):=by
 intro w hS0 hH
 obtain⟨⟨gl0,gm0⟩,⟨gl1,gm1⟩⟩:=hH
 refine Ao _ _ Tryz.func79 rfl rfl rfl (hS0) ?_
 refine Au ?_
 refine af (fun w hS=>(Kn.own .m2 w hS).K5 Ing.Event.fl (by decide)) (fun hLl=>?_)
 refine AK (Gm rfl (Gm rfl (Gt (Ba rfl) (Gt (Aj Q4 rfl) (Gt (AG rfl Ds .m0 AL.l3 rfl rfl) (Gm rfl ?_))))))
 refine Ce Ing.Event.fl rfl Tryz.underlying53 N7 Iv rfl W2 (by decide) (by decide) rfl rfl (fun w hS=>Src.D9 Tryz.underlying53 ((Kn.own .m3) w hS)) (by(try dsimp only);omega) (fun _=>(.t (.t .h))) (fun h1 h1l h1z=>?_)
 refine Gt (Ba rfl) (Gt (Aj Q4 rfl) ?_)
 refine AO (AJ AL.l3 rfl rfl rfl SE rfl .h) ?_
 refine Gn (.t2 0 1) (Gs (Gm rfl (Gt (Av rfl Tryz.underlying53 rfl) (Gm rfl (Gn (.t4 0 19 20 21) (Ak ?_))))))
 refine Bt (.t4 21 0 19 20) ?_
 refine BZ (.t (.t .h)) ?_
 refine BZ (.t (.t .h)) ?_
 refine BZ (.t (.t .h)) ?_
 refine JA (fun(k:Int) (V1:AL) (ls1:Vector BI 4) (ev1:List Ing.Event)=>0≤k∧k≤(es.length:Int)∧A4 V1 ls1 ev1=({ (A4 V ls ev) with last:=ev++es }:AH).Hj (es.take k.toNat)∧X9 ls1 (n+k.toNat)) (fun(k:Int) (V1:AL) (ls1:Vector BI 4) (ev1:List Ing.Event)=>((es.length:Int) - k).toNat) (fun(k:Int) (V1:AL) (ls1:Vector BI 4) (ev1:List Ing.Event)=> [(21, .int .i64 k)]) (fun(k:Int) (V1:AL) (ls1:Vector BI 4) (ev1:List Ing.Event)=> [Af.box b 101 (AL.enc V1),Af.D0 (CJ 9 (AL.Ar V1) ls1),Af.own (AL.last V1) 56 16 (ev1.flatMap Ing.Event.enc)]) (0) (_) (_) (_) ?_ rfl rfl (fun k V1 ls1 ev1 hI1=>?_)
 · exact⟨by omega,by omega,rfl,hn⟩
 obtain⟨hI11,hI12,hI13,hI14⟩:=hI1
 refine Gs (Gt (BC rfl rfl) (AT (AA (Au ?_))))
 refine Gc (fun c1=>?_) (fun c1=>?_)
 ·
  have c1p:=kz c1
  refine Aa ?_
  refine AB (.t4 0 19 20 21) ?_
  refine AA (Au (Ak (Gs ?_)))
  refine Gt (Bs ed (by decide) (Kn.own .m3) rfl rfl (by omega) (by omega)) ?_
  refine Gt (Qr rfl O1 (by decide) Ing.Event.fl (Kn.own .m3) (by omega)) ?_
  refine A6 rfl Iv rfl (fun b1=>?_)
  refine AO (AJ (AQ.id Ing.Event.fl.len Ing.Event.fl.one) rfl rfl rfl N7 rfl .h) ?_
  refine Gn (.t5 0 5 19 20 21) (Gs (Gm rfl (AT (AA (Ak ?_)))))
  refine Bt (.t6 25 0 5 19 20 21) ?_
  refine BZ (.t (.t (.t .h))) ?_
  refine BZ (.t (.t (.t .h))) ?_
  refine BZ (.t (.t (.t .h))) ?_
  refine JA (fun(i:Int) (V2:AL) (ls2:Vector BI 4) (ev2:List Ing.Event)=>0≤i∧i≤4∧A4 V2 ls2 ev2=AH.CR (es.getD k.toNat default) (A4 V1 ls1 ev1) i.toNat∧(∀ j:Int,i≤j→j < 4→(ls2.at j).told.length≤n+k.toNat)∧(∀ j:Int,0≤j→j < 4→(ls2.at j).told.length≤n+k.toNat+1)) (fun(i:Int) (V2:AL) (ls2:Vector BI 4) (ev2:List Ing.Event)=>(4 - i).toNat) (fun(i:Int) (V2:AL) (ls2:Vector BI 4) (ev2:List Ing.Event)=> [(25, .int .i64 i)]) (fun(i:Int) (V2:AL) (ls2:Vector BI 4) (ev2:List Ing.Event)=> [Af.box b 101 (AL.enc V2),Af.D0 (CJ 9 (AL.Ar V2) ls2),Af.own (AL.last V2) 56 16 (ev2.flatMap Ing.Event.enc)]) (0) (V1) (ls1) (ev1) ?_ rfl rfl (fun i V2 ls2 ev2 hI2=>?_)
  · exact⟨by omega,by omega,rfl,(fun j j0 j1=>hI14 j j0 j1),(fun j j0 j1=>Nat.le_succ_of_le (hI14 j j0 j1))⟩
  obtain⟨hI21,hI22,hI23,hI24,hI25⟩:=hI2
  refine Gs (Gt (BC rfl rfl) (AT (AA (Au ?_))))
  refine Gc (fun c2=>?_) (fun c2=>?_)
  ·
   have c2p:=kz c2
   refine Aa ?_
   refine AB (.t6 0 5 19 20 21 25) ?_
   refine AA (Au (Ak (Gs (Gm rfl (Ga rfl (Gn (.t7 0 5 6 19 20 21 25) (Gs ?_)))))))
   refine Gm rfl (Gm rfl (Gt (Ba rfl) (Gt (Aj F4 rfl) ?_)))
   refine Gt (AV Oi rfl rfl (by omega) (by omega)) ?_
   refine Ga rfl (Gn (.t7 0 5 7 19 20 21 25) (CH (Gm rfl (Gt (Ba rfl) (Gt (Aj JV rfl) ?_)))))
   refine Gt (AG rfl A5 .m0 ((AL.l1.comp (AQ.ar (n:=4) A2.fl (by omega))).comp A2.l0) rfl rfl) ?_
   refine Gt (Cb rfl rfl) (Gn (.t8 0 5 7 19 20 21 25 37) ?_)
   refine Gc (fun c3=>?_) (fun c3=>?_)
   ·
    have c3p:=kz c3
    refine Bl (AY (Am ?_))
    refine AB (.t6 0 5 19 20 21 25) ?_
    refine AA (AK ?_)
    refine Gt (Ay rfl rfl (IntWalk.i64_in _ (by omega))) ?_
    refine Gm rfl ?_
    refine AT (AB (.t6 0 5 19 20 21 25) ?_)
    refine DE (i+1) _ _ _ ?_ ?_ (.t6 25 0 5 19 20 21) (.refl _)
    · exact⟨by omega,by omega,((LB hI21 (by omega) hI23).trans (BJ c3)).symm,(fun j j0 j1=>hI24 j (by omega) j1),hI25⟩
    · omega
   have c3p:=kz c3
   refine Aa ?_
   refine AB (.t7 0 5 7 19 20 21 25) ?_
   refine AA (Au ?_)
   refine BN (N:=11) [0,0,2,6,14,31,63,127,127,255,1023] mix (by kernel_rfl) rfl ?_
   refine Pf 0 rfl (AU rfl O1 .m3 (AQ.id Ing.Event.fl.len Ing.Event.fl.one) rfl) (Pf 1 rfl (AD rfl) (Pf 2 rfl (Ba rfl) (Pf 3 rfl (Aj IU rfl) ?_)))
   refine Pf 4 rfl (AG rfl A5 .m0 ((AL.l1.comp (AQ.ar (n:=4) A2.fl (by omega))).comp A2.l1) rfl rfl) ?_
   refine Bh 5 rfl rfl (by kernel_rfl) (Lv (K3 (EB fA (.c rfl (.c rfl .n)) (fun w hS=>Nd (es.getD k.toNat default) _ (he _ (Fm (d:=default) (xs:=es) (i:=k.toNat) (by omega)) _) w (gl0.stM gm0 hS) (gl1.stM gm1 hS))))) ?_
   refine Pf 6 rfl (AD rfl) (Pf 7 rfl (AM rfl rfl) (Pf 8 rfl (AM rfl rfl) (Pf 9 rfl (A1 rfl) (Pf 10 rfl (A1 rfl) ?_))))
   refine Az (by kernel_rfl) ?_
   refine AB (.t9 0 5 7 8 9 19 20 21 25) ?_
   refine AA (Gs (Gm rfl (Gn (.t9 0 5 7 8 19 20 21 25 47) ?_)))
   refine Gc (fun c4=>?_) (fun c4=>?_)
   ·
    have c4p:=kz c4
    refine AK (Gm rfl (Gm rfl (Gm rfl ?_)))
    refine Ah rfl Te (.c rfl (.c rfl (.c rfl .n))) (.c .h (.c .h (.c .h .n))) (EM _ V2 ls2 _ i _ (by omega) (Nat.le_trans (hI24 i (by omega) (by omega)) (by omega))) (fun v2 B hv=>?_)
    obtain⟨y3,y4,y5,rfl,y6,rfl⟩:=hv
    refine AT (AB (.t6 0 5 19 20 21 25) ?_)
    refine AW (AA (AK ?_))
    refine Gt (Ay rfl rfl (IntWalk.i64_in _ (by omega))) ?_
    refine Gm rfl ?_
    refine AT (AB (.t6 0 5 19 20 21 25) ?_)
    refine DE (i+1) _ _ _ ?_ ?_ (.t6 25 0 5 19 20 21) (.refl _)
    · exact⟨by omega,by omega,y6.trans ((LB hI21 (by omega) hI23).trans ((AX c3).trans (BJ c4))).symm,(fun j j0 j1=>by have h:=hI24 j (by omega) j1;rw [(LU hI21 (by omega) y6 (by omega) j1).2 (by omega)];exact h),(fun j j0 j1=>if c:j=i then(by subst c;have h:=hI24 j (by omega) j1;have h2:=(LU hI21 (by omega) y6 j0 j1).1;omega) else(by rw [(LU hI21 (by omega) y6 j0 j1).2 c];exact hI25 j j0 j1))⟩
    · omega
   have c4p:=kz c4
   refine Aa ?_
   refine AB (.t6 0 5 19 20 21 25) ?_
   refine AW (AA (AK ?_))
   refine Gt (Ay rfl rfl (IntWalk.i64_in _ (by omega))) ?_
   refine Gm rfl ?_
   refine AT (AB (.t6 0 5 19 20 21 25) ?_)
   refine DE (i+1) _ _ _ ?_ ?_ (.t6 25 0 5 19 20 21) (.refl _)
   · exact⟨by omega,by omega,((LB hI21 (by omega) hI23).trans ((AX c3).trans (AX c4))).symm,(fun j j0 j1=>hI24 j (by omega) j1),hI25⟩
   · omega
  have c2p:=kz c2
  obtain rfl:i=4:=by omega
  refine Bl (AY (AY (Am ?_)))
  refine AB (.t4 0 19 20 21) ?_
  refine AW (AA (AK ?_))
  refine Gt (Ay rfl rfl (IntWalk.i64_in _ (by omega))) ?_
  refine Gm rfl ?_
  refine AT (AB (.t4 0 19 20 21) ?_)
  refine Bx (.c .h (.c .h (.c .h (.c (.t .h) .n)))) ?_
  refine B3 ?_
  refine DE (k+1) _ _ _ ?_ ?_ (.t4 21 0 19 20) (.refl _)
  · exact⟨by omega,by omega,by rw [UR hI11 (by omega),← hI13];exact hI23,fun j j0 j1=>by have h:=hI25 j j0 j1;rw [show(k+1).toNat=k.toNat+1 by omega];omega⟩
  · omega
 have c1p:=kz c1
 obtain rfl:k=(es.length:Int):=by omega
 refine Bl (AY (AY (Am ?_)))
 refine Bo rfl .n ?_
 intro w1 hS
 have hS:=(hS.perm (Ax.perm (.c .h (.c .h (.c .h (.c .h .n)))))).A3
 refine⟨_,⟨V1,ls1,ev1,rfl,?ga,rfl⟩,hS⟩
 case ga=>rw [hI13,show(es.length:Int).toNat=es.length by omega,List.take_length];exact(YN rfl).symm
theorem Ql (b:Nat)(V:AL)(ls:Vector BI 4)(ev:List Ing.Event)(k:Int)(u:As)(n m:Nat)(hk:0≤k∧k < 4)(hF:AH.Fit (A4 V ls ev) n m)(hn:n≤900000)(hm:m≤900000)(hu:u.length≤1000):Fx Tryz.prog 93 #[.pointer (some ⟨b,0,none⟩), .pointer (some ⟨b,165+k.toNat * 22,none⟩),BW u] [Af.box b 101 (AL.enc V),Af.D0 (CJ 9 (AL.Ar V) ls),Af.own (AL.last V) 56 16 ((ev).flatMap Ing.Event.enc)] (fun w=>(GV 2 GO w∧2 ∉ Cp [Af.box b 101 (AL.enc V),Af.D0 (CJ 9 (AL.Ar V) ls),Af.own (AL.last V) 56 16 ((ev).flatMap Ing.Event.enc)])∧(GV 0 AI.DT w∧0 ∉ Cp [Af.box b 101 (AL.enc V),Af.D0 (CJ 9 (AL.Ar V) ls),Af.own (AL.last V) 56 16 ((ev).flatMap Ing.Event.enc)])) (fun v B=>∃ V' ls' ev',v = .tuple #[]∧A4 V' ls' ev'=AH.named (A4 V ls ev) k u∧B = [Af.box b 101 (AL.enc V'),Af.D0 (CJ 9 (AL.Ar V') ls'),Af.own (AL.last V') 56 16 ((ev').flatMap Ing.Event.enc)]):=by
 intro w hS0 hH
 obtain⟨⟨gl0,gm0⟩,⟨gl1,gm1⟩⟩:=hH
 have hel:=AF.QL V.w u
 have hes:=AF.Je (s:=u) hF.Fz
 have htn:=Gv hF
 refine Ao _ _ Tryz.func93 rfl rfl rfl (hS0) ?_
 refine Gs (Gm rfl (Gt (Ba rfl) (Gt (Aj EP rfl) (Gt (AU rfl Be .m0 AL.l0 rfl) (Gm rfl ?_)))))
 refine BB rfl cJ (.c rfl (.c rfl .n)) .n (Mv V.w u hF.Fz.IK (by omega)) (fun w hS=>gl1.pull gm1 hS .n) (fun v1 B hv=>?_)
 obtain⟨y2,rfl,y3,rfl⟩:=hv
 refine Gm rfl (Gt (AM rfl rfl) (Gt (AM rfl rfl) (Gt (AM rfl rfl) (Gt (AM rfl rfl) ?_))))
 refine A6 rfl NX rfl (fun b1=>?_)
 refine AO (AJ (AQ.id AI.fl.len AI.fl.one) rfl rfl rfl EE rfl .h) ?_
 refine Ga rfl (Ga rfl (Ga rfl (Gn (.t6 0 1 6 7 8 9) (Gs (Gm rfl (Gn (.t6 0 1 6 7 8 21) (Ak ?_)))))))
 refine Gs (Gt (Ai rfl rfl) (Ga rfl (Gn (.t7 0 1 6 7 8 21 25) ?_)))
 refine Gc (fun c1=>?_) (fun c1=>?_)
 ·
  have c1p:=kz c1
  refine Gs (Gm rfl (Gt (AU rfl Be .m0 (AQ.id AI.fl.len AI.fl.one) rfl) (Gt (Ba rfl) (Gt (Aj EP rfl) ?_))))
  refine AO (AJ AL.l0 rfl rfl rfl EE rfl (.t (.t .h))) ?_
  refine Gn (.t4 0 1 7 8) (Au ?_)
  refine EL (.c (.t (.t .h)) (.c (.t (.t .h)) .n)) ?_
  refine FJ (k:=k) hk.1 hk.2 (fun sv sl hsv hlv hln=>?_)
  refine AK (Gm rfl (Gm rfl (Gm rfl (Gt (Ba rfl) (Gt (Aj JV rfl) ?_)))))
  refine AO (AJ ((AQ.A8 { V with w:=(AF.Bb V.w u).1 } hk.1 hk.2).comp A2.l0) rfl rfl rfl DJ rfl (.t (.t (.t .h)))) ?_
  refine Gt (Ba rfl) (Gt (Aj IU rfl) ?_)
  refine AO (AJ ((AQ.A8 { V with w:=(AF.Bb V.w u).1 } hk.1 hk.2).comp A2.l1) rfl rfl rfl DJ rfl (.t (.t (.t .h)))) ?_
  refine Gn (.t2 0 8) ?_
  refine EL (.c .h (.c .h (.c .h (.c .h (.c .h .n))))) ?_
  refine HP hk.1 hk.2 (by rfl) (by rfl) (by rfl) ?_
  refine AK (Gm rfl (Gm rfl ?_))
  refine BB rfl WM (.c rfl (.c rfl .n)) (.c .h (.c .h (.c (.t (.t .h)) (.c (.t .h) .n)))) (Ez _ (AL.A8 { V with w:=(AF.Bb V.w u).1 } k { sv with state:=2,Aq:=(AF.Bb V.w u).2.1 }) (ls.put k ⟨sl.queue,sl.wait,sl.told⟩) ev _ (AF.Bb V.w u).2.2.1 n (by assumption) (Gv (by rw [(show A4 (AL.A8 { V with w:=(AF.Bb V.w u).1 } k { sv with state:=2,Aq:=(AF.Bb V.w u).2.1 }) (ls.put k ⟨sl.queue,sl.wait,sl.told⟩) ev=({ (A4 V ls ev) with w:=(AF.Bb V.w u).1 }:AH).set k { AH.at_ (A4 V ls ev) k with state:=2,Aq:=(AF.Bb V.w u).2.1 } from Er (V:={ V with w:=(AF.Bb V.w u).1 }) hk.1 hk.2 hsv hlv (f:=fun x=>{ x with state:=2,Aq:=(AF.Bb V.w u).2.1 }) rfl)];exact hF.enters hk.1 hk.2 (of_decide_eq_true c1))) (by omega) (Nat.le_trans hF.last (by omega)) (fun e he c _=>hes.2 e he)) (fun w hS=>⟨gl0.pull gm0 hS (.c .h (.c .h (.c (.t (.t .h)) (.c (.t .h) .n)))),gl1.pull gm1 hS (.c .h (.c .h (.c (.t (.t .h)) (.c (.t .h) .n))))⟩) (fun v5 B hv=>?_)
  obtain⟨y6,y7,y8,rfl,y9,rfl⟩:=hv
  refine AT (AB (.nil _) ?_)
  refine AW ?_
  refine Bo rfl .n ?_
  intro w1 hS
  have hS:=(hS.perm (Ax.perm (.c .h (.c .h (.c .h .n))))).A3
  refine⟨_,⟨y6,y7,y8,rfl,?ga1,rfl⟩,hS⟩
  case ga1=>exact Yv c1 (show A4 (AL.A8 { V with w:=(AF.Bb V.w u).1 } k { sv with state:=2,Aq:=(AF.Bb V.w u).2.1 }) (ls.put k ⟨sl.queue,sl.wait,sl.told⟩) ev=({ (A4 V ls ev) with w:=(AF.Bb V.w u).1 }:AH).set k { AH.at_ (A4 V ls ev) k with state:=2,Aq:=(AF.Bb V.w u).2.1 } from Er (V:={ V with w:=(AF.Bb V.w u).1 }) hk.1 hk.2 hsv hlv (f:=fun x=>{ x with state:=2,Aq:=(AF.Bb V.w u).2.1 }) rfl) y9
 have c1p:=kz c1
 refine Gs (Gt (Ai rfl rfl) (Ga rfl (Gn (.t3 0 1 41) ?_)))
 refine Gc (fun c2=>?_) (fun c2=>?_)
 ·
  have c2p:=kz c2
  refine AK (Gm rfl (Gm rfl ?_))
  refine Ah rfl Te (.c rfl (.c rfl (.c rfl .n))) (.c (.t (.t .h)) (.c (.t (.t .h)) (.c (.t (.t .h)) .n))) (EM _ V ls ev k _ hk (Nat.le_trans (htn k hk.1 hk.2) (by omega))) (fun v10 B hv=>?_)
  obtain⟨y11,y12,y13,rfl,y14,rfl⟩:=hv
  refine AT (AB (.nil _) ?_)
  refine AW ?_
  refine Bo rfl .n ?_
  intro w1 hS
  have hS:=(hS.perm (Ax.perm (.c .h (.c .h (.c .h .n))))).A3
  refine⟨_,⟨y11,y12,y13,rfl,?ga2,rfl⟩,hS⟩
  case ga2=>exact Yu c1 c2 y14
 have c2p:=kz c2
 refine AK (Gm rfl (Gm rfl ?_))
 refine Ah rfl Te (.c rfl (.c rfl (.c rfl .n))) (.c (.t (.t .h)) (.c (.t (.t .h)) (.c (.t (.t .h)) .n))) (EM _ V ls ev k _ hk (Nat.le_trans (htn k hk.1 hk.2) (by omega))) (fun v15 B hv=>?_)
 obtain⟨y16,y17,y18,rfl,y19,rfl⟩:=hv
 refine AT (AB (.nil _) ?_)
 refine AW ?_
 refine Bo rfl .n ?_
 intro w1 hS
 have hS:=(hS.perm (Ax.perm (.c .h (.c .h (.c .h .n))))).A3
 refine⟨_,⟨y16,y17,y18,rfl,?ga3,rfl⟩,hS⟩
 case ga3=>exact ZH c1 c2 y19
theorem Bu (z:Int):Jp Tryz.prog 150 #[.int .i64 z] [] (fun v B=>v = .tuple #[.agg (Order.enc default).toArray, .int .i64 z]∧B = []):=by
 intro w hS0
 refine Ao _ _ Tryz.func150 rfl rfl rfl (hS0) ?_
 refine Gs ?_
 refine A6 rfl Lp rfl (fun b1=>?_)
 refine Ga rfl (Gn (.t2 0 2) (Gs (Gt (BL S3 Lp rfl .nil) (Gm rfl ?_))))
 refine AO (AJ (AQ.id Order.fl.len Order.fl.one) rfl rfl rfl ED rfl .h) ?_
 refine Ga rfl (Gn (.t2 2 3) (Ae ?_))
 refine AZ rfl (.cell rfl .m0 (.inl ⟨(by rw [Order.fl.len];exact CB),rfl⟩) (.tmp rfl .n)) ?_
 intro w1 hS
 have hS:=(hS.perm (Ax.perm .n)).A3
 exact⟨_,⟨rfl,rfl⟩,hS⟩
theorem FO (s:As)(c:UInt8)(w:World):Ee Tryz.prog 87 #[BW s, .int .u8 (c.toNat:Int)] w fun v w'=>v = .int .i64 (Lib.indexByte s c)∧B9 w w':=by
 refine Ao [] [] Tryz.func87 rfl rfl rfl (St.start w []) ?_
 refine Gs (Ga rfl (Gn (.t2 0 1) (Gs (Gm rfl (Gm rfl ?_)))))
 refine Gt (LI Tryz.func112 (by kernel_rfl) (by kernel_rfl) (by kernel_rfl) (by kernel_rfl) rfl rfl) ?_
 refine Ga rfl (Gn (.t1 4) (Ae ?_))
 refine AZ rfl (.tmp rfl .n) ?_
 intro w1 hS;refine⟨?_,hS.Al⟩;rfl
theorem EA (s:As)(c:UInt8)(w:World):Ee Tryz.prog 76 #[BW s,BW [c]] w fun v w'=>v = .int .i64 (Lib.indexByte s c)∧B9 w w':=by
 refine Ao [] [] Tryz.func76 rfl rfl rfl (St.start w []) ?_
 refine Gs (Ga rfl (Gn (.t2 0 1) (Gs (Gm rfl (Gt (BO rfl Tryz.underlying9 rfl) (Ga rfl (Gn (.t3 0 1 5) ?_)))))))
 refine Au (Ak (Gs (Gm rfl (Gt (Ai rfl rfl) (Gm rfl (Bf 19 rfl rfl (fun q=>AD rfl) (Bf 19 rfl rfl (fun q=>AD rfl) ?_)))))))
 refine Bf 19 rfl rfl (fun q=>Bv (cF rfl q) (cF rfl q)) ?_
 refine Gt (BU rfl rfl (fun h=>by rw [h];rfl)) ?_
 refine Ga rfl (Gn (.t4 0 1 5 16) ?_)
 refine Gc (fun c1=>?_) (fun c1=>?_)
 ·
  refine Gs (Ga rfl (Gn (.t1 4) (Ae (AS (AE ?_)))))
  refine AZ rfl (.tmp rfl .n) ?_
  intro w1 hS;refine⟨?_,hS.Al⟩;have e : [c]=s:=by simpa using c1
  rw [← e,Page.We];rfl
 have c1p:=kz c1
 refine Gs (Gm rfl (Gt (Ai rfl rfl) (Ga rfl (Gn (.t4 0 1 5 24) ?_))))
 refine HG rfl (by simp) ?_
 refine Gs (Gm rfl (Gm rfl ?_))
 refine Gt (Bp Tryz.underlying9 rfl rfl (by decide) (by first | omega | simp)) ?_
 refine BE rfl eN (.c rfl (.c rfl .n)) (fun w hS=>FO _ _ w) ?_
 refine Ga rfl (Gn (.t1 4) (Ae (AS (AE ?_))))
 refine AZ rfl (.tmp rfl .n) ?_
 intro w1 hS;refine⟨?_,hS.Al⟩;rfl
theorem Fg (s:As)(c:UInt8)(w:World):Ee Tryz.prog 176 #[BW s,BW [c]] w fun v w'=>v = .int .i64 (Lib.indexByte s c)∧B9 w w':=by
 refine Ao [] [] Tryz.func176 rfl rfl rfl (St.start w []) ?_
 refine Gs (Ga rfl (Gn (.t2 0 1) (Gs (Gm rfl (Gm rfl ?_)))))
 refine BE rfl bz (.c rfl (.c rfl .n)) (fun w hS=>EA _ _ w) ?_
 refine Ga rfl (Gn (.t1 4) (Ae ?_))
 refine AZ rfl (.tmp rfl .n) ?_
 intro w1 hS;refine⟨?_,hS.Al⟩;rfl
theorem Hu (s:As)(c:UInt8)(w:World):Ee Tryz.prog 174 #[BW s,BW [c]] w fun v w'=>v = .int .i64 ((s.count c:Nat):Int)∧B9 w w':=by
 refine Ao [] [] Tryz.func174 rfl rfl rfl (St.start w []) ?_
 refine Gs (Ga rfl (Gn (.t2 0 1) (CH (Gm rfl (Gt (BO rfl Tryz.underlying9 rfl) (Gt (Ai rfl rfl) (Gn (.t3 0 1 9) ?_)))))))
 refine EK rfl (by simp) ?_
 refine Aa ?_
 refine AB (.t2 0 1) ?_
 refine AA (CH (Gm rfl (Gt (BO rfl Tryz.underlying9 rfl) (Gt (Ai rfl rfl) (Gn (.t3 0 1 15) ?_)))))
 refine HG rfl (by simp) ?_
 refine Gs (Gm rfl (Gm rfl ?_))
 refine Gt (Bp Tryz.underlying9 rfl rfl (by decide) (by first | omega | simp)) ?_
 refine Gt (Oj Tryz.func185 (by kernel_rfl) (by kernel_rfl) (by kernel_rfl) (by kernel_rfl) rfl rfl) ?_
 refine Ga rfl (Gn (.t1 4) (Ae (AE ?_)))
 refine AZ rfl (.tmp rfl .n) ?_
 intro w1 hS;refine⟨?_,hS.Al⟩;rfl
theorem Jn (s:As)(c:UInt8)(hs:s.length≤10000000):Jp Tryz.prog 179 #[BW s,BW [c], .int .i64 0, .int .i64 (-1)] [] (fun v B=>∃ h':Hd,v=h'.val∧h'.len=(Words.pieces c s).length∧B = [Af.own h' 9 1 ((Words.pieces c s).flatMap A9)]):=by
 intro w hS0
 have hcl:=List.count_le_length (a:=c) (l:=s)
 have hpl:=Words.Fj c s
 refine Ao _ _ Tryz.func179 rfl rfl rfl (hS0) ?_
 refine Gs (Ga rfl (Gn (.t4 0 1 2 3) (CH (Gm rfl (Gt (Ai rfl rfl) (Gn (.t5 0 1 2 3 13) ?_))))))
 refine EK rfl (by simp) ?_
 refine Aa ?_
 refine AB (.t4 0 1 2 3) ?_
 refine AA (CH (Gm rfl (Gt (Bv rfl rfl) (Gn (.t5 0 1 2 3 15) ?_))))
 refine EK rfl (by simp) ?_
 refine Aa ?_
 refine AB (.t4 0 1 2 3) ?_
 refine AA (CH (Gm rfl (Gt (BC rfl rfl) (Gn (.t5 0 1 2 3 20) ?_))))
 refine HG rfl (by simp) ?_
 refine AK (Gm rfl (Gm rfl ?_))
 refine BE rfl Zy (.c rfl (.c rfl .n)) (fun w hS=>Hu _ c w) ?_
 refine Gt (Ay rfl rfl (IntWalk.i64_in _ (by(try simp only [List.length_cons,List.length_nil]);omega))) ?_
 refine Ga rfl (Gn (.t4 0 1 2 3) (Gs (Gm rfl (Gm rfl (Gt (BO rfl Tryz.underlying9 rfl) ?_)))))
 refine Gt (Ay rfl rfl (IntWalk.i64_in _ (by(try simp only [List.length_cons,List.length_nil]);omega))) ?_
 refine Gt (Ki rfl rfl) (Ga rfl (Gn (.t4 0 1 2 3) (Gs (Gm rfl ?_))))
 refine Wr rfl Tryz.underlying52 Et Sk Xh rfl rfl (by(try simp only [List.length_cons,List.length_nil]);omega) (by(try simp only [List.length_cons,List.length_nil]);omega) (fun b1=>?_)
 refine Ga rfl (Gn (.t5 0 1 2 3 9) (Gs (Gm rfl ?_)))
 refine Gt (Fi rfl rfl (IntWalk.i64_in _ (by(try simp only [List.length_cons,List.length_nil]);omega))) ?_
 refine Ga rfl (Gn (.t5 0 1 2 3 9) (Gs (Ga rfl (AT (AA (Au (Ak ?_)))))))
 refine Bt (.t6 0 10 1 2 3 9) ?_
 refine D1 (fun(i:Int) (r:As) (xs:List As)=>Words.Nx c s i r xs) (fun(i:Int) (r:As) (xs:List As)=>((s.count c:Int) - i).toNat) (fun(i:Int) (r:As) (xs:List As)=> [(0,BW r),(10, .int .i64 i)]) (fun(i:Int) (r:As) (xs:List As)=> [Af.own ⟨some ⟨b1,0,none⟩,(min (((s.count c:Nat):Int)+1) ((s.length:Int)+1)).toNat,(min (((s.count c:Nat):Int)+1) ((s.length:Int)+1)).toNat⟩ 9 1 (xs.flatMap A9)]) (0) (s) (_) ?_ rfl rfl (fun i r xs hI1=>?_)
 · exact Words.Nx.start c s _ (by omega)
 have hI11:=hI1;have hi0:=hI1.i0;have hi1:=hI1.i1;have hrl:=hI1.rl;have hxl:=hI1.len
 refine CH (Gm rfl (Gm rfl (Gt (BC rfl rfl) (Gn (.t7 0 1 2 3 9 10 36) ?_))))
 refine Gc (fun c1=>?_) (fun c1=>?_)
 ·
  have c1p:=kz c1
  refine Aa ?_
  refine AB (.t6 0 1 2 3 9 10) ?_
  refine AA (Ak (Gs (Gm rfl (Gm rfl ?_))))
  refine BE rfl YR (.c rfl (.c rfl .n)) (fun w hS=>Fg _ c w) ?_
  refine Ga rfl (Gn (.t7 0 1 2 3 9 10 11) (CH (Gm rfl (Gt (BC rfl rfl) (Gn (.t8 0 1 2 3 9 10 11 41) ?_)))))
  refine Gc (fun c2=>?_) (fun c2=>?_)
  ·
   have c2p:=kz c2
   refine Bl (AY ?_)
   refine KR rfl ?_
   refine AY (Am ?_)
   refine AB (.t3 0 9 10) ?_
   refine AA (Gs (Gm rfl (Gm rfl (Gm rfl ?_))))
   refine Gt (Bs Ir (by decide) (Kn.own .m0) rfl rfl (by omega) (by(try dsimp only);omega)) ?_
   refine AO (OB rfl rfl Et (by have:=hI11.len;omega) .h) ?_
   refine Gn (.t2 9 10) (Gs (Gm rfl (Gm rfl ?_)))
   refine Gt (Ay rfl rfl (IntWalk.i64_in _ (by(try simp only [List.length_cons,List.length_nil]);omega))) ?_
   refine Kg DZ rfl Tryz.underlying52 Et rfl rfl (by(try simp only [List.length_cons,List.length_nil]);omega) (by(try simp only [List.length_cons,List.length_nil]);omega) (fun _=> .h) ?_
   refine Ga rfl (Gn (.t1 8) (Ae ?_))
   refine AZ rfl (.tmp rfl .n) ?_
   intro w1 hS
   have hS:=(hS.perm (Ax.perm (.c .h .n))).A3
   have hd:=hI11.done (by first | (right;simpa using c2) | (left;omega))
   exact⟨_,⟨_,rfl,by rw [hd.2] at *;(try simp only [Hd.cut] at *);omega,by rw [hd.2]⟩,hS⟩
  have c2p:=kz c2
  obtain⟨hm0,hm1,hnx⟩:=hI11.next rfl (by simpa using c2)
  refine Aa ?_
  refine AB (.t7 0 1 2 3 9 10 11) ?_
  refine AA (Gs (Gm rfl (Gm rfl (Gm rfl (Gm rfl (Gm rfl ?_))))))
  refine Gt (Ay rfl rfl (IntWalk.i64_in _ (by(try simp only [List.length_cons,List.length_nil]);omega))) ?_
  refine Gt (I7 Tryz.underlying9 rfl rfl (by(try simp only [List.length_cons,List.length_nil]);omega) (by(try simp only [List.length_cons,List.length_nil]);omega)) ?_
  refine Gt (Bs Ir (by decide) (Kn.own .m0) rfl rfl (by omega) (by(try dsimp only);omega)) ?_
  refine AO (OB rfl rfl Et (by have:=hI11.len;omega) .h) ?_
  refine Gn (.t7 0 1 2 3 9 10 11) (Gs (Gm rfl (Gm rfl (Gm rfl (Gt (BO rfl Tryz.underlying9 rfl) ?_)))))
  refine Gt (Ay rfl rfl (IntWalk.i64_in _ (by(try simp only [List.length_cons,List.length_nil]);omega))) ?_
  refine Gt (Gy Tryz.underlying9 rfl rfl (by(try simp only [List.length_cons,List.length_nil]);omega) (by(try simp only [List.length_cons,List.length_nil]);omega)) ?_
  refine Ga rfl (Gn (.t6 0 1 2 3 9 10) (AK (Gm rfl ?_)))
  refine Gt (Ay rfl rfl (IntWalk.i64_in _ (by(try simp only [List.length_cons,List.length_nil]);omega))) ?_
  refine Ga rfl ?_
  refine AT (AB (.t6 0 1 2 3 9 10) ?_)
  refine AW ?_
  refine B0 (i+1) _ _ ?_ ?_ (.t6 0 10 1 2 3 9) (.refl _)
  · rw [Int.add_zero]
    exact hnx
  · omega
 have c1p:=kz c1
 refine Bl (AY (AY (Am ?_)))
 refine AB (.t3 0 9 10) ?_
 refine AA (Gs (Gm rfl (Gm rfl (Gm rfl ?_))))
 refine Gt (Bs Ir (by decide) (Kn.own .m0) rfl rfl (by omega) (by(try dsimp only);omega)) ?_
 refine AO (OB rfl rfl Et (by have:=hI11.len;omega) .h) ?_
 refine Gn (.t2 9 10) (Gs (Gm rfl (Gm rfl ?_)))
 refine Gt (Ay rfl rfl (IntWalk.i64_in _ (by(try simp only [List.length_cons,List.length_nil]);omega))) ?_
 refine Kg DZ rfl Tryz.underlying52 Et rfl rfl (by(try simp only [List.length_cons,List.length_nil]);omega) (by(try simp only [List.length_cons,List.length_nil]);omega) (fun _=> .h) ?_
 refine Ga rfl (Gn (.t1 8) (Ae ?_))
 refine AZ rfl (.tmp rfl .n) ?_
 intro w1 hS
 have hS:=(hS.perm (Ax.perm (.c .h .n))).A3
 have hd:=hI11.done (by first | (right;simpa using c1) | (left;omega))
 exact⟨_,⟨_,rfl,by rw [hd.2] at *;(try simp only [Hd.cut] at *);omega,by rw [hd.2]⟩,hS⟩
theorem Lj (s:As)(c:UInt8)(hs:s.length≤10000000):Jp Tryz.prog 167 #[BW s,BW [c]] [] (fun v B=>∃ h':Hd,v=h'.val∧h'.len=(Words.pieces c s).length∧B = [Af.own h' 9 1 ((Words.pieces c s).flatMap A9)]):=by
 intro w hS0
 refine Ao _ _ Tryz.func167 rfl rfl rfl (hS0) ?_
 refine Gs (Ga rfl (Gn (.t2 0 1) (Gs (Gm rfl (Gm rfl ?_)))))
 refine Ah rfl cA (.c rfl (.c rfl (.c rfl (.c rfl .n)))) .n (Jn _ c hs) (fun v1 B hv=>?_)
 obtain⟨y2,rfl,y3,rfl⟩:=hv
 refine Ga rfl (Gn (.t1 4) (Ae ?_))
 refine AZ rfl (.tmp rfl .n) ?_
 intro w1 hS
 have hS:=(hS.perm (Ax.perm (.c .h .n))).A3
 exact⟨_,⟨_,rfl,by assumption,rfl⟩,hS⟩
theorem OW (u:As)(hu:u.length≤10000000)(w:World):Ee Tryz.prog 168 #[BW u] w fun v w'=>v=BW (Words.low u)∧B9 w w':=by
 refine Ao [] [] Tryz.func168 rfl rfl rfl (St.start w []) ?_
 refine Gs (Ga rfl (Gn (.t1 0) (Gs (Gm rfl ?_))))
 refine PE rfl Tryz.underlying9 Tryz.underlying105 Tryz.underlying5 rfl (fun h1 h1l=>?_)
 refine Ga rfl (Gn (.t1 3) (CH (Gm rfl (Gt (Av rfl Tryz.underlying105 rfl) (Gm rfl (AT (AA ?_)))))))
 refine Ak ?_
 refine Bt (.t4 10 3 8 9) ?_
 refine Ch (fun(k:Int)=>0≤k∧k≤u.length) (fun(k:Int)=>((u.length:Int) - k).toNat) (fun(k:Int)=> [(10, .int .i64 k)]) (fun(k:Int)=> [Af.own h1 5 1 ((Words.H4 u k.toNat).flatMap DV)]) (0) ?_ rfl rfl (fun k hI1=>?_)
 · exact⟨by omega,by omega⟩
 obtain⟨hI11,hI12⟩:=hI1
 refine Gs (Gt (BC rfl rfl) (AT (AA (Au ?_))))
 refine Gc (fun c1=>?_) (fun c1=>?_)
 ·
  have c1p:=kz c1
  have hat:=Words.Um (w:=u) hI11 (by omega)
  have hc8:=(u.getD k.toNat 0).toNat_lt
  refine Aa ?_
  refine AB (.t4 3 8 9 10) ?_
  refine AA (Au (Ak (Gs (Gm rfl ?_))))
  refine Gt (Bs Xy (by decide) (Kn.own .m0) rfl rfl (by omega) (by omega)) ?_
  refine Gt (X4 rfl dh (Kn.own .m0) (by rw [Words.PN];omega)) ?_
  refine Ga rfl (Ga rfl (Gn (.t6 3 4 5 8 9 10) (Gs (Gm rfl (Gt (CO rfl rfl) (Gm rfl (Bg 17 rfl rfl (fun q=>AD rfl) ?_)))))))
  refine Bg 17 rfl rfl (fun q=>Ia (Bc rfl q) rfl) (Gt (BM rfl rfl (fun h=>h)) (Gn (.t7 3 4 5 8 9 10 20) ?_))
  refine Gc (fun c2=>?_) (fun c2=>?_)
  ·
   have c2p:=kz c2
   rw [hat] at c2
   have hset:=Words.Sh (w:=u) hI11 (by omega)
   rw [← Words.Y1 c2] at hset
   refine AK (Gm rfl (Gm rfl (Gm rfl ?_)))
   refine Gt (Ay rfl rfl (IntWalk.u8_in _ (by(try simp only [hat] at c2p ⊢);omega))) ?_
   refine Gt (Fi rfl rfl (IntWalk.u8_in _ (by(try simp only [hat] at c2p ⊢);omega))) ?_
   refine Gt (Bs Xy (by decide) (Kn.own .m0) rfl rfl (by omega) (by omega)) ?_
   refine AO (ao rfl rfl (by simp only [hat] at c2p ⊢;omega) Vw (by rw [Words.PN];omega) .h) ?_
   refine AT (AB (.t4 3 8 9 10) ?_)
   refine AW (AA (AK ?_))
   refine Gt (Ay rfl rfl (IntWalk.i64_in _ (by(try simp only [hat] at c2p ⊢);omega))) ?_
   refine Gm rfl ?_
   refine AT (AB (.t4 3 8 9 10) ?_)
   refine B7 (k+1) ?_ ?_ (.t4 10 3 8 9) (by rw [← hset];first | exact(.refl _) | (rw [← hat];exact(.refl _)))
   · exact⟨by omega,by omega⟩
   · omega
  have c2p:=kz c2
  rw [hat] at c2
  have hset:=Words.Wc (w:=u) hI11 (by omega) (Words.Yr c2)
  refine Aa ?_
  refine AB (.t4 3 8 9 10) ?_
  refine AW (AA (AK ?_))
  refine Gt (Ay rfl rfl (IntWalk.i64_in _ (by(try simp only [hat] at c2p ⊢);omega))) ?_
  refine Gm rfl ?_
  refine AT (AB (.t4 3 8 9 10) ?_)
  refine B7 (k+1) ?_ ?_ (.t4 10 3 8 9) (by rw [← hset];first | exact(.refl _) | (rw [← hat];exact(.refl _)))
  · exact⟨by omega,by omega⟩
  · omega
 have c1p:=kz c1
 refine Bl (AY (AY (Am ?_)))
 refine AB (.t1 3) ?_
 refine AA (Gs (Gm rfl (Gt (Kj Tryz.underlying105 Tryz.underlying9 Tryz.underlying5 rfl (Kn.own .m0)) (Ga rfl (Gn (.t1 2) (Ae ?_))))))
 refine AZ rfl (.tmp rfl .n) ?_
 intro w1 hS;refine⟨?_,hS.Al⟩;obtain rfl:k=u.length:=by omega
 rw [show(u.length:Int).toNat=u.length by omega,Words.XL];rfl
theorem MU (s:As)(hs:s.length≤4000000):Jp Tryz.prog 151 #[BW s] [] (fun v B=>∃ h':Hd,v=h'.val∧h'.len=(Words.words s).length∧B = [Af.own h' 9 1 ((Words.words s).flatMap A9)]):=by
 intro w hS0
 have hpl:=Words.Fj 32 s
 have hcl:=List.count_le_length (a:=(32:UInt8)) (l:=s)
 refine Ao _ _ Tryz.func151 rfl rfl rfl (hS0) ?_
 refine Gs (Ga rfl (Gn (.t1 0) (Gs (Ga rfl (AT (AA (CH ?_)))))))
 refine Gm rfl ?_
 refine Ah rfl cf (.c rfl (.c rfl .n)) .n (Lj _ 32 (by omega)) (fun v1 B hv=>?_)
 obtain⟨y2,rfl,y3,rfl⟩:=hv
 refine Gt (Av rfl Tryz.underlying52 rfl) (Gm rfl (Gn (.t4 3 7 8 9) (Ak ?_)))
 refine Bt (.t4 3 9 7 8) ?_
 refine FE A9 9 1 ?_
 refine D1 (fun(k:Int) (xs:List As) (g:Hd)=>0≤k∧k≤((Words.pieces 32 s).length:Int)∧xs=Words.Jh s k.toNat∧g.len=xs.length∧xs.length≤k.toNat) (fun(k:Int) (xs:List As) (g:Hd)=>(((Words.pieces 32 s).length:Int) - k).toNat) (fun(k:Int) (xs:List As) (g:Hd)=> [(3,g.val),(9, .int .i64 k)]) (fun(k:Int) (xs:List As) (g:Hd)=> [Af.own g 9 1 (xs.flatMap A9)]) (0) ([]) (_) ?_ rfl rfl (fun k xs g hI1=>?_)
 · exact⟨by omega,by omega,rfl,rfl,by simp⟩
 obtain⟨hI11,hI12,hI13,hI14,hI15⟩:=hI1
 refine Gs (Gt (BC rfl rfl) (AT (AA (Au ?_))))
 refine Gc (fun c1=>?_) (fun c1=>?_)
 ·
  have c1p:=kz c1
  refine Aa ?_
  refine AB (.t4 3 7 8 9) ?_
  refine AA (Au (Ak (Gs ?_)))
  refine Gt (Bs Ir (by decide) (Kn.own .m1) rfl rfl (by omega) (by omega)) ?_
  refine Gt (DO rfl CK (Kn.own .m1) (by omega)) ?_
  refine Ga rfl (Gn (.t5 3 5 7 8 9) (Gs (Gm rfl (Gt (Dp rfl rfl) (Gn (.t6 3 5 7 8 9 14) ?_)))))
  refine Gc (fun c2=>?_) (fun c2=>?_)
  ·
   have c2p:=kz c2
   refine AK (Gm rfl (Gm rfl ?_))
   refine BE rfl ck (.c rfl .n) (fun w hS=>OW _ (by have:=Words.Wn (c:=32) (s:=s) k.toNat;omega) w) ?_
   refine F3 A9 DZ rfl Tryz.underlying52 Et Sk rfl (by decide) (by decide) rfl rfl (fun b1=>?_)
   refine Ce DZ rfl Tryz.underlying52 Et Sk rfl Xh (by decide) (by decide) rfl rfl (fun w hS=>Src.D9 Tryz.underlying52 ((Kn.own .m0) w hS)) (by(try dsimp only);omega) (fun _=>(.t .h)) (fun h5 h5l h5z=>?_)
   refine Ga rfl ?_
   refine AT (AB (.t4 3 7 8 9) ?_)
   refine AW (AA (AK ?_))
   refine Gt (Ay rfl rfl (IntWalk.i64_in _ (by omega))) ?_
   refine Gm rfl ?_
   refine AT (AB (.t4 3 7 8 9) ?_)
   refine B0 (k+1) _ _ ?_ ?_ (.t4 3 9 7 8) (.cons _ (.refl _))
   · exact⟨by omega,by omega,by rw [Words.XI hI11 (by omega) c2,← hI13],(by(try dsimp only at *)<;>(try simp only [List.length_append,List.length_cons,List.length_nil])<;>omega),(by(try simp only [List.length_append,List.length_cons,List.length_nil]);omega)⟩
   · omega
  have c2p:=kz c2
  refine Aa ?_
  refine AB (.t4 3 7 8 9) ?_
  refine AW (AA (AK ?_))
  refine Gt (Ay rfl rfl (IntWalk.i64_in _ (by omega))) ?_
  refine Gm rfl ?_
  refine AT (AB (.t4 3 7 8 9) ?_)
  refine B0 (k+1) _ _ ?_ ?_ (.t4 3 9 7 8) (.refl _)
  · exact⟨by omega,by omega,by rw [Words.XX hI11 (by omega) c2,← hI13],(by(try dsimp only at *)<;>(try simp only [List.length_append,List.length_cons,List.length_nil])<;>omega),(by(try simp only [List.length_append,List.length_cons,List.length_nil]);omega)⟩
  · omega
 have c1p:=kz c1
 obtain rfl:k=((Words.pieces 32 s).length:Int):=by omega
 refine Bl (AY (AY (Am ?_)))
 refine AB (.t1 3) ?_
 refine AA (Gs (Gm rfl (Ga rfl (Gn (.t1 2) (Ae ?_)))))
 refine AZ rfl (.tmp rfl .n) ?_
 intro w1 hS
 have hS:=(hS.perm (Ax.perm (.c .h .n))).A3
 exact⟨_,⟨_,rfl,by rw [Words.OV,← hI13];assumption,by rw [Words.OV,← hI13]⟩,hS⟩
theorem Dh (s p:As)(w:World):Ee Tryz.prog 180 #[BW s,BW p] w fun v w'=>v = .bool (decide ((p.length:Int)≤(s.length:Int)) && decide (s.take p.length=p))∧B9 w w':=by
 refine Ao [] [] Tryz.func180 rfl rfl rfl (St.start w []) ?_
 refine Gs (Ga rfl (Gn (.t2 0 1) (Gs (Gm rfl (Gt (BO rfl Tryz.underlying9 rfl) (Gm rfl (Gt (BO rfl Tryz.underlying9 rfl) ?_)))))))
 refine Gt (CO rfl rfl) (Gm rfl (Bg 10 rfl rfl (fun q=>AD rfl) (Bg 10 rfl rfl (fun q=>AD rfl) (Bg 10 rfl rfl (fun q=>BO rfl Tryz.underlying9 (Bc rfl q)) ?_))))
 refine Bg 10 rfl rfl (fun q=>by have q1:=q;(try simp at q1);exact I7 Tryz.underlying9 (Bc rfl q) (Bc rfl q) (by omega) (by omega)) ?_
 refine Bg 10 rfl rfl (fun q=>AD rfl) (Bg 10 rfl rfl (fun q=>Bv (Bc rfl q) (Bc rfl q)) (Gt (BM rfl rfl (fun h=>h)) (Ga rfl (Gn (.t1 4) (Ae ?_)))))
 refine AZ rfl (.tmp rfl .n) ?_
 intro w1 hS;refine⟨?_,hS.Al⟩;rfl
theorem JL (s p:As)(w:World):Ee Tryz.prog 169 #[BW s,BW p] w fun v w'=>v = .bool (decide ((p.length:Int)≤(s.length:Int)) && decide (s.take p.length=p))∧B9 w w':=by
 refine Ao [] [] Tryz.func169 rfl rfl rfl (St.start w []) ?_
 refine Gs (Ga rfl (Gn (.t2 0 1) (Gs (Gm rfl (Gm rfl ?_)))))
 refine BE rfl Zx (.c rfl (.c rfl .n)) (fun w hS=>Dh _ _ w) ?_
 refine Ga rfl (Gn (.t1 4) (Ae ?_))
 refine AZ rfl (.tmp rfl .n) ?_
 intro w1 hS;refine⟨?_,hS.Al⟩;rfl
theorem Jk (u:As)(w:World)(gl0:GV 0 AI.DT w):Ee Tryz.prog 152 #[BW u] w fun v w'=>v = .tuple #[.int .i64 (Words.verb u).1, .int .i64 (Words.verb u).2]∧B9 w w':=by
 refine Ao [] [] Tryz.func152 rfl rfl rfl (St.start w []) ?_
 refine Gs (Ga rfl (Ga rfl (Gn (.t1 0) (CH (Gm rfl (Gt (Dp rfl rfl) (Gn (.t2 0 7) ?_)))))))
 refine Gc (fun c1=>?_) (fun c1=>?_)
 ·
  have c1p:=kz c1
  refine Gs (Gt (X5 gl0 Words.Tb rfl ae rfl) (Gm rfl (Gn (.t3 0 8 9) (Ak ?_))))
  refine Bt (.t3 9 0 8) ?_
  refine Ch (fun(k:Int)=>0≤k∧k≤21∧Words.J1 u 21=Words.J1 u (21 - k).toNat) (fun(k:Int)=>(21 - k).toNat) (fun(k:Int)=> [(9, .int .i64 k)]) (fun(k:Int)=> []) (0) ?_ rfl rfl (fun k hI1=>?_)
  · exact⟨by omega,by omega,rfl⟩
  obtain⟨hI11,hI12,hI13⟩:=hI1
  refine Gs (Gt (BC rfl rfl) (AT (AA (Au ?_))))
  refine Gc (fun c2=>?_) (fun c2=>?_)
  ·
   have c2p:=kz c2
   rw [Words.TL hI11 (by omega)] at hI13
   refine Aa ?_
   refine AB (.t3 0 8 9) ?_
   refine AA (Au (Ak (Gs (Gm rfl ?_))))
   refine Gt (KY DZ Tryz.underlying133 Et CK rfl rfl (by omega) (by omega) rfl) ?_
   refine Ga rfl (Ga rfl (Gn (.t5 0 4 5 8 9) (Gs (Gm rfl (Gm rfl ?_)))))
   refine BE rfl bx (.c rfl (.c rfl .n)) (fun w hS=>JL _ _ w) ?_
   refine Gn (.t5 0 4 8 9 15) ?_
   refine Gc (fun c3=>?_) (fun c3=>?_)
   ·
    have cp:Words.pre (AI.G2.getD k.toNat []) u=true:=c3
    refine Gs (Gm rfl (Ga rfl (Ga rfl (Gn (.t2 2 3) (Ae (AS (AE ?_)))))))
    refine AE (AS (AE ?_))
    refine AZ rfl (.tmp rfl (.tmp rfl .n)) ?_
    intro w1 hS;refine⟨?_,hS.Al⟩;rw [show Words.verb u=_ from BJ c1,hI13,BJ cp];rfl
   have c3p:=kz c3
   have cp:Words.pre (AI.G2.getD k.toNat []) u=false:=c3
   refine Aa ?_
   refine AB (.t3 0 8 9) ?_
   refine AW (AA (AK ?_))
   refine Gt (Ay rfl rfl (IntWalk.i64_in _ (by omega))) ?_
   refine Gm rfl ?_
   refine AT (AB (.t3 0 8 9) ?_)
   refine B7 (k+1) ?_ ?_ (.t3 9 0 8) (.refl _)
   · exact⟨by omega,by omega,by rw [hI13,AX cp]⟩
   · omega
  have c2p:=kz c2
  obtain rfl:k=21:=by omega
  refine Bl (AY (AY (Am ?_)))
  refine AB (.nil _) ?_
  refine AA (Gs (Ga rfl (Ga rfl (AT (AA (Ae ?_))))))
  refine AZ rfl (.tmp rfl (.tmp rfl .n)) ?_
  intro w1 hS;refine⟨?_,hS.Al⟩;rw [show Words.verb u=_ from BJ c1,hI13];rfl
 refine Aa ?_
 refine AB (.nil _) ?_
 refine AA (Gs (Ga rfl (Ga rfl (AT (AA (Ae ?_))))))
 refine AZ rfl (.tmp rfl (.tmp rfl .n)) ?_
 intro w1 hS;refine⟨?_,hS.Al⟩;rw [show Words.verb u=_ from AX c1];rfl
theorem Jo (s:As)(hs:s.length≤10000000)(w:World):Ee Tryz.prog 153 #[BW s,BW [32]] w fun v w'=>v=BW (Words.Pe 32 s)∧B9 w w':=by
 refine Ao [] [] Tryz.func153 rfl rfl rfl (St.start w []) ?_
 refine Gs (Ga rfl (Gn (.t2 0 1) (CH (Gm rfl (Gt (Bv rfl rfl) (Gm rfl (Bf 9 rfl rfl (fun q=>AD rfl) ?_)))))))
 refine Bf 9 rfl rfl (fun q=>Bv (cF rfl q) rfl) ?_
 refine Gt (BU rfl rfl (fun h=>by rw [h];rfl)) ?_
 refine Gn (.t3 0 1 12) ?_
 refine Gc (fun c1=>?_) (fun c1=>?_)
 ·
  refine Gs (Gm rfl (Ga rfl (Gn (.t1 4) (Ae (AE ?_)))))
  refine AZ rfl (.tmp rfl .n) ?_
  intro w1 hS;refine⟨?_,hS.Al⟩;have e:s = []:=by simpa using c1
  subst e;rfl
 have c1p:=kz c1
 refine Aa ?_
 refine AB (.t2 0 1) ?_
 refine AA (CH (Gm rfl (Gt (BO rfl Tryz.underlying9 rfl) (Gt (Ai rfl rfl) (Gm rfl (Bg 17 rfl rfl (fun q=>AD rfl) ?_))))))
 refine Bg 17 rfl rfl (fun q=>by have q1:=q;(try simp at q1);exact Bp Tryz.underlying9 (Bc rfl q) rfl (by decide) (by(try simp only [List.length_cons,List.length_nil]);omega)) ?_
 refine Bg 17 rfl rfl (fun q=>BC (Bc rfl q) rfl) (Gt (BM rfl rfl (fun h=>h)) (Gn (.t3 0 1 21) ?_))
 refine HG rfl rfl ?_
 refine Gs (Gm rfl (Gm rfl ?_))
 refine Gt (Bp Tryz.underlying9 rfl rfl (by decide) (by(try simp only [List.length_cons,List.length_nil]);omega)) ?_
 refine BE rfl aA (.c rfl (.c rfl .n)) (fun w hS=>FD _ 32 hs w) ?_
 refine Ga rfl (Gn (.t1 4) (Ae (AE ?_)))
 refine AZ rfl (.tmp rfl .n) ?_
 intro w1 hS;refine⟨?_,hS.Al⟩;rfl
theorem G5 (s:As)(c:UInt8)(hs:s.length≤10000000)(w:World):Ee Tryz.prog 59 #[BW s,BW [c]] w fun v w'=>v = .tuple #[BW (Words.cut c s).1,BW (Words.cut c s).2.1, .bool (Words.cut c s).2.2]∧B9 w w':=by
 refine Ao [] [] Tryz.func59 rfl rfl rfl (St.start w []) ?_
 refine Gs (Ga rfl (Ga rfl (Ga rfl (Gn (.t2 0 1) (CH (Gm rfl (Gm rfl ?_)))))))
 refine BE rfl bz (.c rfl (.c rfl .n)) (fun w hS=>EA _ c w) ?_
 refine Ga rfl (Gn (.t3 0 1 7) (Gs (Gm rfl (Gt (CO rfl rfl) (Gn (.t4 0 1 7 12) ?_)))))
 refine Gc (fun c1=>?_) (fun c1=>?_)
 ·
  have c1p:=kz c1
  have hm:=Words.bO (c:=c) (s:=s) (by simpa using c1)
  refine Au ?_
  refine BN (N:=12) [0,0,3,0,0,0,32,112,248,7,1023,2047] mix (by kernel_rfl) rfl ?_
  refine Pf 0 rfl (AD rfl) (Pf 1 rfl (AD rfl) (Pf 3 rfl (AD rfl) (Pf 4 rfl (AD rfl) (Pf 5 rfl (AD rfl) (Pf 6 rfl (BO rfl Tryz.underlying9 rfl) ?_)))))
  refine Pf 7 rfl (Ay rfl rfl (IntWalk.i64_in _ (by(try simp only [List.length_cons,List.length_nil]);omega))) ?_
  refine EV 2 8 rfl rfl (by kernel_rfl) ?_ ?_
  ·
   refine Gt (I7 Tryz.underlying9 rfl rfl (by(try simp only [List.length_cons,List.length_nil]);omega) (by(try simp only [List.length_cons,List.length_nil]);omega)) ?_
   refine BH rfl ⟨?_,?_⟩
   · exact(Po rfl (Ay rfl rfl (IntWalk.i64_in _ (by(try simp only [List.length_cons,List.length_nil]);omega))) rfl rfl (Po rfl (BO rfl Tryz.underlying9 rfl) rfl rfl (Po rfl (AD rfl) rfl rfl (Po rfl (AD rfl) rfl rfl (Po rfl (AD rfl) rfl rfl (Pk (Pk Ac)))))))
   refine Pf 9 rfl (A1 rfl) ?_
   refine Ab 8 rfl (by kernel_rfl) ?_
   refine Gt (Gy Tryz.underlying9 rfl rfl (by(try simp only [List.length_cons,List.length_nil]);omega) (by(try simp only [List.length_cons,List.length_nil]);omega)) ?_
   refine BH rfl ⟨?_,?_⟩
   · exact(Po rfl (A1 rfl) rfl rfl (Pk (Pk (Pk (Pk (Pk (Po rfl (AD rfl) rfl rfl (Po rfl (AD rfl) rfl rfl Ac))))))))
   refine Pf 10 rfl (A1 rfl) (Pf 11 rfl (A1 rfl) ?_)
   refine Az (by kernel_rfl) ?_
   refine AB (.t3 4 5 6) ?_
   refine AA (Ae (AE ?_))
   refine AZ rfl (.tmp rfl (.tmp rfl (.tmp rfl .n))) ?_
   intro w1 hS;refine⟨?_,hS.Al⟩;rw [show Words.cut c s=_ from(BJ c1)];rfl
  ·
   refine Gt (Gy Tryz.underlying9 rfl rfl (by(try simp only [List.length_cons,List.length_nil]);omega) (by(try simp only [List.length_cons,List.length_nil]);omega)) ?_
   refine BH rfl ⟨?_,?_⟩
   · exact(Pk (Pk (Pk (Pk (Pk (Po rfl (AD rfl) rfl rfl (Po rfl (AD rfl) rfl rfl Ac)))))))
   refine Ab 2 rfl (by kernel_rfl) ?_
   refine Gt (I7 Tryz.underlying9 rfl rfl (by(try simp only [List.length_cons,List.length_nil]);omega) (by(try simp only [List.length_cons,List.length_nil]);omega)) ?_
   refine BH rfl ⟨?_,?_⟩
   · exact(Po rfl (Ay rfl rfl (IntWalk.i64_in _ (by(try simp only [List.length_cons,List.length_nil]);omega))) rfl rfl (Po rfl (BO rfl Tryz.underlying9 rfl) rfl rfl (Po rfl (AD rfl) rfl rfl (Po rfl (AD rfl) rfl rfl (Po rfl (AD rfl) rfl rfl (Pk (Pk Ac)))))))
   refine Pf 9 rfl (A1 rfl) (Pf 10 rfl (A1 rfl) (Pf 11 rfl (A1 rfl) ?_))
   refine Az (by kernel_rfl) ?_
   refine AB (.t3 4 5 6) ?_
   refine AA (Ae (AE ?_))
   refine AZ rfl (.tmp rfl (.tmp rfl (.tmp rfl .n))) ?_
   intro w1 hS;refine⟨?_,hS.Al⟩;rw [show Words.cut c s=_ from(BJ c1)];rfl
 refine Aa ?_
 refine AB (.t1 0) ?_
 refine AA (Gs (Gm rfl (Ga rfl (Ga rfl (Ga rfl (Gn (.t3 4 5 6) (Ae ?_)))))))
 refine AZ rfl (.tmp rfl (.tmp rfl (.tmp rfl .n))) ?_
 intro w1 hS;refine⟨?_,hS.Al⟩;rw [show Words.cut c s=_ from(AX c1)];rfl
theorem JC (s:As)(c:UInt8)(hs:s.length≤10000000)(w:World):Ee Tryz.prog 30 #[BW s,BW [c]] w fun v w'=>v = .tuple #[BW (Words.cut c s).1,BW (Words.cut c s).2.1, .bool (Words.cut c s).2.2]∧B9 w w':=by
 refine Ao [] [] Tryz.func30 rfl rfl rfl (St.start w []) ?_
 refine Gs (Ga rfl (Ga rfl (Ga rfl (Gn (.t2 0 1) (Gs (Gm rfl (Gm rfl ?_)))))))
 refine BE rfl eZ (.c rfl (.c rfl .n)) (fun w hS=>G5 _ c hs w) ?_
 refine Gt (AM rfl rfl) (Gt (AM rfl rfl) (Gt (AM rfl rfl) (Ga rfl (Ga rfl (Ga rfl (Gn (.t3 4 5 6) (Ae ?_)))))))
 refine AZ rfl (.tmp rfl (.tmp rfl (.tmp rfl .n))) ?_
 intro w1 hS;refine⟨?_,hS.Al⟩;rfl
theorem FU (s p:As)(w:World):Ee Tryz.prog 181 #[BW s,BW p] w fun v w'=>v = .tuple #[BW (Words.NO s p).1, .bool (Words.NO s p).2]∧B9 w w':=by
 refine Ao [] [] Tryz.func181 rfl rfl rfl (St.start w []) ?_
 refine Gs (Ga rfl (Ga rfl (Gn (.t2 0 1) (CH (Gm rfl (Gm rfl ?_))))))
 refine BE rfl Zx (.c rfl (.c rfl .n)) (fun w hS=>Dh _ _ w) ?_
 refine Gt (BX rfl) (Gn (.t3 0 1 9) ?_)
 refine Gc (fun c1=>?_) (fun c1=>?_)
 ·
  refine Gs (Gm rfl (Ga rfl (Ga rfl (Gn (.t2 4 5) (Ae (AE ?_))))))
  refine AZ rfl (.tmp rfl (.tmp rfl .n)) ?_
  intro w1 hS;refine⟨?_,hS.Al⟩;rw [show Words.NO s p=_ from(BJ c1)];rfl
 have c1p:=kz c1
 have hle:p.length≤s.length:=by simp at c1;omega
 refine Aa ?_
 refine AB (.t2 0 1) ?_
 refine AA (Gs (Gm rfl (Gm rfl (Gt (BO rfl Tryz.underlying9 rfl) ?_))))
 refine Gt (Gy Tryz.underlying9 rfl rfl (by omega) (by omega)) ?_
 refine Ga rfl (Ga rfl (Gn (.t2 4 5) (Ae ?_)))
 refine AZ rfl (.tmp rfl (.tmp rfl .n)) ?_
 intro w1 hS;refine⟨?_,hS.Al⟩;rw [show Words.NO s p=_ from(AX c1)];rfl
theorem Jb (s p:As)(w:World):Ee Tryz.prog 170 #[BW s,BW p] w fun v w'=>v = .tuple #[BW (Words.NO s p).1, .bool (Words.NO s p).2]∧B9 w w':=by
 refine Ao [] [] Tryz.func170 rfl rfl rfl (St.start w []) ?_
 refine Gs (Ga rfl (Ga rfl (Gn (.t2 0 1) (Gs (Gm rfl (Gm rfl ?_))))))
 refine BE rfl cU (.c rfl (.c rfl .n)) (fun w hS=>FU _ _ w) ?_
 refine Gt (AM rfl rfl) (Gt (AM rfl rfl) (Ga rfl (Ga rfl (Gn (.t2 4 5) (Ae ?_)))))
 refine AZ rfl (.tmp rfl (.tmp rfl .n)) ?_
 intro w1 hS;refine⟨?_,hS.Al⟩;rfl
theorem GK (s:As)(c:UInt8)(w:World):Ee Tryz.prog 171 #[BW s,BW [c]] w fun v w'=>v = .bool (decide (0≤Lib.indexByte s c))∧B9 w w':=by
 refine Ao [] [] Tryz.func171 rfl rfl rfl (St.start w []) ?_
 refine Gs (Ga rfl (Gn (.t2 0 1) (Gs (Gm rfl (Gm rfl ?_)))))
 refine BE rfl YR (.c rfl (.c rfl .n)) (fun w hS=>Fg _ c w) ?_
 refine Gt (CO rfl rfl) (Ga rfl (Gn (.t1 4) (Ae ?_)))
 refine AZ rfl (.tmp rfl .n) ?_
 intro w1 hS;refine⟨?_,hS.Al⟩;rfl
def Qw:Go.Shelf.Ren:=⟨fun | 172=>172 | 244=>182 | 245=>183 | 247=>188 | 279=>189 | 280=>190 | 281=>191 | 282=>192 | 287=>194 | 316=>195 | 171=>53 | 205=>196 | 321=>197 | 322=>198 | 243=>72 | 246=>86 | 283=>108 | 284=>109 | 285=>110 | 286=>111 | 129=>142 | 317=>141 | 318=>143 | 319=>144 | 320=>145 | 337=>162 | 338=>163 | n=>n,fun | 9=>9 | 3=>3 | 75=>109 | 76=>111 | 4=>4 | 5=>5 | 167=>237 | 37=>105 | 0=>0 | 85=>238 | 2=>2 | 168=>240 | 53=>173 | 175=>244 | 46=>140 | 210=>247 | 127=>134 | 145=>252 | 143=>250 | 21=>21 | 171=>172 | 173=>176 | 212=>205 | 51=>178 | 20=>20 | 213=>206 | 232=>226 | 233=>227 | 80=>114 | n=>n,fun | 15=>7 | 16=>8 | 17=>2 | 18=>3 | 19=>4 | n=>n⟩
theorem YM:LaysC.n172 Tryz.prog Qw where
  mixed:=by kernel_rfl
  f129:=Tryz.func142.trans (congrArg some (by kernel_rfl))
  f171:=Tryz.func53.trans (congrArg some (by kernel_rfl))
  f172:=Tryz.func172.trans (congrArg some (by kernel_rfl))
  f205:=Tryz.func196.trans (congrArg some (by kernel_rfl))
  f243:=Tryz.func72.trans (congrArg some (by kernel_rfl))
  f244:=Tryz.func182.trans (congrArg some (by kernel_rfl))
  f245:=Tryz.func183.trans (congrArg some (by kernel_rfl))
  f246:=Tryz.func86.trans (congrArg some (by kernel_rfl))
  f247:=Tryz.func188.trans (congrArg some (by kernel_rfl))
  f279:=Tryz.func189.trans (congrArg some (by kernel_rfl))
  f280:=Tryz.func190.trans (congrArg some (by kernel_rfl))
  f281:=Tryz.func191.trans (congrArg some (by kernel_rfl))
  f282:=Tryz.func192.trans (congrArg some (by kernel_rfl))
  f283:=Tryz.func108.trans (congrArg some (by kernel_rfl))
  f284:=Tryz.func109.trans (congrArg some (by kernel_rfl))
  f285:=Tryz.func110.trans (congrArg some (by kernel_rfl))
  f286:=Tryz.func111.trans (congrArg some (by kernel_rfl))
  f287:=Tryz.func194.trans (congrArg some (by kernel_rfl))
  f316:=Tryz.func195.trans (congrArg some (by kernel_rfl))
  f317:=Tryz.func141.trans (congrArg some (by kernel_rfl))
  f318:=Tryz.func143.trans (congrArg some (by kernel_rfl))
  f319:=Tryz.func144.trans (congrArg some (by kernel_rfl))
  f320:=Tryz.func145.trans (congrArg some (by kernel_rfl))
  f321:=Tryz.func197.trans (congrArg some (by kernel_rfl))
  f322:=Tryz.func198.trans (congrArg some (by kernel_rfl))
  f337:=Tryz.func162.trans (congrArg some (by kernel_rfl))
  f338:=Tryz.func163.trans (congrArg some (by kernel_rfl))
  t0:=Tryz.underlying0
  a0:=Tryz.isAgg0
  z0:=Tryz.sizeOf0
  v0:=Tryz.zeroValue0
  t2:=Tryz.underlying2
  a2:=Tryz.isAgg2
  z2:=Tryz.sizeOf2
  v2:=Tryz.zeroValue2
  t3:=Tryz.underlying3
  a3:=Tryz.isAgg3
  z3:=Tryz.sizeOf3
  v3:=Tryz.zeroValue3
  t4:=Tryz.underlying4
  a4:=Tryz.isAgg4
  z4:=Tryz.sizeOf4
  v4:=Tryz.zeroValue4
  t5:=Tryz.underlying5
  a5:=Tryz.isAgg5
  z5:=Tryz.sizeOf5
  v5:=Tryz.zeroValue5
  t9:=Tryz.underlying9
  a9:=Tryz.isAgg9
  z9:=Tryz.sizeOf9
  v9:=Tryz.zeroValue9
  t20:=Tryz.underlying20
  a20:=Tryz.isAgg20
  z20:=Tryz.sizeOf20
  v20:=Tryz.zeroValue20
  t21:=Tryz.underlying21
  a21:=Tryz.isAgg21
  z21:=Tryz.sizeOf21
  v21:=Tryz.zeroValue21
  t37:=Tryz.underlying105
  a37:=Tryz.isAgg105
  z37:=Tryz.sizeOf105
  v37:=Tryz.zeroValue105
  t46:=Tryz.underlying140
  a46:=Tryz.isAgg140
  z46:=Tryz.sizeOf140
  v46:=Tryz.zeroValue140
  t51:=Tryz.underlying178
  a51:=Tryz.isAgg178
  z51:=Tryz.sizeOf178
  v51:=Tryz.zeroValue178
  t53:=Tryz.underlying173
  a53:=Tryz.isAgg173
  z53:=Tryz.sizeOf173
  v53:=Tryz.zeroValue173
  t75:=Tryz.underlying109
  a75:=Tryz.isAgg109
  z75:=Tryz.sizeOf109
  v75:=Tryz.zeroValue109
  t76:=Tryz.underlying111
  a76:=Tryz.isAgg111
  z76:=Tryz.sizeOf111
  v76:=Tryz.zeroValue111
  t85:=Tryz.underlying238
  a85:=Tryz.isAgg238
  z85:=Tryz.sizeOf238
  v85:=Tryz.zeroValue238
  t127:=Tryz.underlying134
  a127:=Tryz.isAgg134
  z127:=Tryz.sizeOf134
  v127:=Tryz.zeroValue134
  t143:=Tryz.underlying250
  a143:=Tryz.isAgg250
  z143:=Tryz.sizeOf250
  v143:=Tryz.zeroValue250
  t145:=Tryz.underlying252
  a145:=Tryz.isAgg252
  z145:=Tryz.sizeOf252
  v145:=Tryz.zeroValue252
  t167:=Tryz.underlying237
  a167:=Tryz.isAgg237
  z167:=Tryz.sizeOf237
  v167:=Tryz.zeroValue237
  t168:=Tryz.underlying240
  a168:=Tryz.isAgg240
  z168:=Tryz.sizeOf240
  v168:=Tryz.zeroValue240
  t171:=Tryz.underlying172
  a171:=Tryz.isAgg172
  z171:=Tryz.sizeOf172
  v171:=Tryz.zeroValue172
  t173:=Tryz.underlying176
  a173:=Tryz.isAgg176
  z173:=Tryz.sizeOf176
  v173:=Tryz.zeroValue176
  t175:=Tryz.underlying244
  a175:=Tryz.isAgg244
  z175:=Tryz.sizeOf244
  v175:=Tryz.zeroValue244
  t210:=Tryz.underlying247
  a210:=Tryz.isAgg247
  z210:=Tryz.sizeOf247
  v210:=Tryz.zeroValue247
  t212:=Tryz.underlying205
  a212:=Tryz.isAgg205
  z212:=Tryz.sizeOf205
  v212:=Tryz.zeroValue205
  t213:=Tryz.underlying206
  a213:=Tryz.isAgg206
  z213:=Tryz.sizeOf206
  t232:=Tryz.underlying226
  a232:=Tryz.isAgg226
  z232:=Tryz.sizeOf226
  v232:=Tryz.zeroValue226
  t233:=Tryz.underlying227
  a233:=Tryz.isAgg227
  z233:=Tryz.sizeOf227
  v233:=Tryz.zeroValue227
  g15:=by kernel_rfl
  g16:=by kernel_rfl
  g17:=by kernel_rfl
  g18:=by kernel_rfl
  g19:=by kernel_rfl
  t80:=Tryz.underlying114
  a80:=Tryz.isAgg114
  z80:=Tryz.sizeOf114
  v80:=Tryz.zeroValue114
  i0:=by kernel_rfl
  i2:=by kernel_rfl
  i3:=by kernel_rfl
  i4:=by kernel_rfl
  i5:=by kernel_rfl
  i9:=by kernel_rfl
  i20:=by kernel_rfl
  i21:=by kernel_rfl
  i37:=by kernel_rfl
  i46:=by kernel_rfl
  i51:=by kernel_rfl
  i53:=by kernel_rfl
  i75:=by kernel_rfl
  i76:=by kernel_rfl
  i80:=by kernel_rfl
  i85:=by kernel_rfl
  i127:=by kernel_rfl
  i143:=by kernel_rfl
  i145:=by kernel_rfl
  i167:=by kernel_rfl
  i168:=by kernel_rfl
  i171:=by kernel_rfl
  i173:=by kernel_rfl
  i175:=by kernel_rfl
  i210:=by kernel_rfl
  i212:=by kernel_rfl
  i232:=by kernel_rfl
  i233:=by kernel_rfl
  m15:=by kernel_rfl
  m16:=by kernel_rfl
  m17:=by kernel_rfl
  m18:=by kernel_rfl
  m19:=by kernel_rfl
  c0:=by kernel_rfl
  c2:=by kernel_rfl
  c3:=by kernel_rfl
  c4:=by kernel_rfl
  c5:=by kernel_rfl
  c9:=by kernel_rfl
  c20:=by kernel_rfl
  c21:=by kernel_rfl
  c37:=by kernel_rfl
  c46:=by kernel_rfl
  c51:=by kernel_rfl
  c53:=by kernel_rfl
  c75:=by kernel_rfl
  c76:=by kernel_rfl
  c80:=by kernel_rfl
  c85:=by kernel_rfl
  c127:=by kernel_rfl
  c143:=by kernel_rfl
  c145:=by kernel_rfl
  c167:=by kernel_rfl
  c168:=by kernel_rfl
  c171:=by kernel_rfl
  c173:=by kernel_rfl
  c175:=by kernel_rfl
  c210:=by kernel_rfl
  c212:=by kernel_rfl
  c213:=by kernel_rfl
  c232:=by kernel_rfl
  c233:=by kernel_rfl
theorem MO (s:As)(hs:s.length≤10000000):Fx Tryz.prog 172 #[BW s] [] (fun w=>HI 7 w∧HI 8 w) (fun v B=>(∃ k:Int,Lib.atoiAll s = .ok k∧v = .tuple #[.int .i64 k, .nilIface]∧B = [])∨(∃(k:Int) (t:TypeId) (x:Value),(∀ j,Lib.atoiAll s≠ .ok j)∧v = .tuple #[.int .i64 k, .iface t x]∧B = [])):=
  Xd YM s hs (by kernel_rfl) (by kernel_rfl)
end Go.Proofs.YtoidpggbbfncpaaGreatDoor

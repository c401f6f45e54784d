/- What the functions that the law TopAlone reaches compute: walks, part 2. No condition. -/
import Derived.Test.YtoidpggbbfncpaaGreatDoorCards
import Derived.Test.YtoidpggbbfncpaaGreatDoorTie
import Derived.Deep.DeepHandedRow
import Derived.Test.YtoidpggbbfncpaaGreatDoorRows
import Derived.Test.YtoidpggbbfncpaaGreatDoorTopAloneEc3
import Derived.Test.YtoidpggbbfncpaaGreatDoorTopAloneRa1
import Derived.Test.YtoidpggbbfncpaaGreatDoorTopAloneRb1
import Derived.Test.YtoidpggbbfncpaaGreatDoorTopAloneRc1
import Derived.Test.YtoidpggbbfncpaaGreatDoorTopAloneWalks
set_option linter.unusedSimpArgs false
set_option linter.unusedVariables false
set_option maxRecDepth 100000
set_option maxHeartbeats 1000000
namespace Go.Proofs.YtoidpggbbfncpaaGreatDoor
open Go Go.Ing Go.RowKit Go.ChangeShapes Go.WideShapes Go.ChangeAt
theorem HQ (b:Nat)(T:AF)(g:Hd)(hg:g.len=T.out.length)(hb:0≤T.b∧T.b < 6)(hw:T.w.DL)(hn:T.out.length≤90000):Fa Tryz.prog 100 #[.pointer (some ⟨b,0,none⟩)] [Ad.box b 163 (Ae.enc ⟨T.w,T.b,g⟩),Ad.own g 56 16 (T.out.flatMap Ing.Event.enc)] (fun w=>(GV 0 AI.DP w∧0 ∉ Cj [Ad.box b 163 (Ae.enc ⟨T.w,T.b,g⟩),Ad.own g 56 16 (T.out.flatMap Ing.Event.enc)])) (fun v B=>∃ g':Hd,v = .tuple #[]∧g'.len=(T.look).out.length∧B = [Ad.box b 163 (Ae.enc ⟨(T.look).w,(T.look).b,g'⟩),Ad.own g' 56 16 ((T.look).out.flatMap Ing.Event.enc)]):=by
 intro w hS0 hH
 obtain⟨gl0,gm0⟩:=hH
 refine Am _ _ Tryz.func100 rfl rfl rfl (hS0) ?_
 refine Aq ?_
 refine BE (N:=12) [0,0,2,6,14,1,33,97,255,511,0,2047] mix (by kernel_rfl) rfl ?_
 refine Pf 0 rfl (AD rfl) (Pf 1 rfl (AD rfl) (Pf 2 rfl (BV rfl) (Pf 3 rfl (Aj CV rfl) (Pf 4 rfl (AG rfl A5 .m0 Ae.l1 rfl rfl) (Pf 5 rfl (BV rfl) (Pf 6 rfl (Aj BC rfl) (Pf 7 rfl (Aj Br rfl) ?_)))))))
 refine Pf 8 rfl (AN C8 rfl rfl (by(try dsimp only at *);(try simp only [List.length_append,List.length_cons,List.length_nil]);omega) (by(try dsimp only at *);(try simp only [List.length_append,List.length_cons,List.length_nil]);omega)) ?_
 refine Pf 9 rfl (AY rfl F2 .m0 ((Ae.l0.comp AI.l2).comp (AS.arr (n:=6) An.fl (by(try dsimp only at *);(try simp only [List.length_append,List.length_cons,List.length_nil]);omega) (by(try dsimp only at *);(try simp only [List.length_append,List.length_cons,List.length_nil]);omega))) rfl) ?_
 refine Af 10 rfl (by kernel_rfl) ?_
 refine BG rfl L5 rfl (fun b1=>?_)
 refine Bf rfl ⟨?_,?_⟩
 · exact(Po rfl (AY rfl F2 .m1 ((Ae.l0.comp AI.l2).comp (AS.arr (n:=6) An.fl (by(try dsimp only at *);(try simp only [List.length_append,List.length_cons,List.length_nil]);omega) (by(try dsimp only at *);(try simp only [List.length_append,List.length_cons,List.length_nil]);omega))) rfl) rfl rfl (Po rfl (AN C8 rfl rfl (by(try dsimp only at *);(try simp only [List.length_append,List.length_cons,List.length_nil]);omega) (by(try dsimp only at *);(try simp only [List.length_append,List.length_cons,List.length_nil]);omega)) rfl rfl (Po rfl (Aj Br rfl) rfl rfl (Po rfl (Aj BC rfl) rfl rfl (Po rfl (BV rfl) rfl rfl (Po rfl (AG rfl A5 .m1 Ae.l1 rfl rfl) rfl rfl (Po rfl (Aj CV rfl) rfl rfl (Po rfl (BV rfl) rfl rfl (Po rfl (AD rfl) rfl rfl (Po rfl (AD rfl) rfl rfl Ar))))))))))
 refine Af 11 rfl (by kernel_rfl) ?_
 refine AU (AK (AS.id An.fl.len An.fl.one) rfl rfl rfl Ko rfl .h) ?_
 refine BN rfl ⟨?_,?_⟩
 · exact(Pk (Pk (Pk (Pk (Pk (Pk (Pk (Pk (Pk (Pk Ar))))))))))
 refine A1 (by kernel_rfl) ?_
 refine AB (.t2 0 2) ?_
 refine AA (Aq (Aq ?_))
 refine BE (N:=8) [0,1,3,7,0,16,63,127] mix (by kernel_rfl) rfl ?_
 refine Pf 0 rfl (AD rfl) (Pf 1 rfl (BV rfl) (Pf 2 rfl (Aj BC rfl) (Pf 3 rfl (AY rfl Ba .m1 Ae.l0 rfl) (Pf 4 rfl (Aj C6 rfl) (Pf 5 rfl (AG rfl A5 .m0 An.l3 rfl rfl) ?_)))))
 refine Ab 6 rfl rfl (by kernel_rfl) (Ln (JX (Dl UL (.c rfl (.c rfl .n)) (fun w hS=>El _ _ w)))) ?_
 refine Pf 7 rfl (BR rfl) ?_
 refine A1 (by kernel_rfl) ?_
 refine AB (.t3 0 2 26) ?_
 refine AA ?_
 refine Gc (fun c1=>?_) (fun c1=>?_)
 ·
  have c1p:=kz c1
  refine Gs (Gm rfl ?_)
  refine Ah rfl EJ (.c rfl (.c rfl .n)) (.c (.t .h) (.c (.t .h) .n)) (Bh _ _ _ _ (by assumption) (by first | exact hb | (rw [hXb];exact hb)) (by(try simp only [AF.CI,AF.Cg,(AF.Hn _ _ _).2.2] at *);(try dsimp only at *);omega)) (fun v1 B hv=>?_)
  obtain⟨y2,rfl,y3,rfl⟩:=hv
  refine Gn (.nil _) (Ac (AE ?_))
  refine AZ rfl .n ?_
  intro w1 hS
  have hS:=(hS.perm (Ay.perm (.c .h (.c .h .n)))).A4
  refine⟨_,⟨?gq1,rfl,?hl1,?hB1⟩,hS⟩
  case hB1=>rw [show T.look=_ from BF c1];rfl
  case hl1=>rw [show T.look=_ from BF c1];assumption
 have c1p:=kz c1
 have hr:=AI.Tq c1
 have hnr:=hw.ro (T.w.AO.at T.b).room
 refine Aa ?_
 refine AB (.t2 0 2) ?_
 refine AA (Aq ?_)
 refine BE (N:=10) [0,0,2,1,9,25,63,127,0,511] mix (by kernel_rfl) rfl ?_
 refine Pf 0 rfl (AD rfl) (Pf 1 rfl (Aj C6 rfl) (Pf 2 rfl (AG rfl A5 .m0 An.l3 rfl rfl) (Pf 3 rfl (BV rfl) (Pf 4 rfl (Aj BC rfl) (Pf 5 rfl (Aj G7 rfl) ?_)))))
 refine Pf 6 rfl (AN Nw rfl rfl (by(try dsimp only at *);(try simp only [List.length_append,List.length_cons,List.length_nil]);omega) (by(try dsimp only at *);(try simp only [List.length_append,List.length_cons,List.length_nil]);omega)) ?_
 refine Pf 7 rfl (AY rfl OM .m1 ((Ae.l0.comp AI.l0).comp (AS.arr (n:=6) Room.fl (by(try dsimp only at *);(try simp only [List.length_append,List.length_cons,List.length_nil]);omega) (by(try dsimp only at *);(try simp only [List.length_append,List.length_cons,List.length_nil]);omega))) rfl) ?_
 refine Af 8 rfl (by kernel_rfl) ?_
 refine BG rfl N0 rfl (fun b2=>?_)
 refine Bf rfl ⟨?_,?_⟩
 · exact(Po rfl (AY rfl OM .m2 ((Ae.l0.comp AI.l0).comp (AS.arr (n:=6) Room.fl (by(try dsimp only at *);(try simp only [List.length_append,List.length_cons,List.length_nil]);omega) (by(try dsimp only at *);(try simp only [List.length_append,List.length_cons,List.length_nil]);omega))) rfl) rfl rfl (Po rfl (AN Nw rfl rfl (by(try dsimp only at *);(try simp only [List.length_append,List.length_cons,List.length_nil]);omega) (by(try dsimp only at *);(try simp only [List.length_append,List.length_cons,List.length_nil]);omega)) rfl rfl (Po rfl (Aj G7 rfl) rfl rfl (Po rfl (Aj BC rfl) rfl rfl (Po rfl (BV rfl) rfl rfl (Po rfl (AG rfl A5 .m1 An.l3 rfl rfl) rfl rfl (Po rfl (Aj C6 rfl) rfl rfl (Po rfl (AD rfl) rfl rfl Ar))))))))
 refine Af 9 rfl (by kernel_rfl) ?_
 refine AU (AK (AS.id Room.fl.len Room.fl.one) rfl rfl rfl RF rfl .h) ?_
 refine BN rfl ⟨?_,?_⟩
 · exact(Pk (Pk (Pk (Pk (Pk (Pk (Pk (Pk Ar))))))))
 refine A1 (by kernel_rfl) ?_
 refine AB (.t3 0 2 3) ?_
 refine AA (Gs (Gm rfl (Gt (Aj Z1 rfl) (Gt (AG rfl CM .m0 Room.l0 rfl rfl) ?_))))
 refine Gt (CZ rfl rfl (by(try dsimp only at *);(try simp only [List.length_append,List.length_cons,List.length_nil]);omega)) ?_
 refine Gt (CZ rfl rfl (by(try dsimp only at *);(try simp only [List.length_append,List.length_cons,List.length_nil]);omega)) ?_
 refine Ah rfl EJ (.c rfl (.c rfl .n)) (.c (.t (.t .h)) (.c (.t (.t .h)) .n)) (Bh _ _ _ _ (by assumption) (by first | exact hb | (rw [hXb];exact hb)) (by(try simp only [AF.CI,AF.Cg,(AF.Hn _ _ _).2.2] at *);(try dsimp only at *);omega)) (fun v4 B hv=>?_)
 obtain⟨y5,rfl,y6,rfl⟩:=hv
 refine Gn (.t3 0 2 3) (Gs (Ga rfl (AQ (AA (CD (Gt (Aj MZ rfl) (Gt (AY rfl Za .m2 Room.l2 rfl) ?_)))))))
 refine Gm rfl (Gn (.t6 0 2 3 4 44 45) (Ag ?_))
 refine Bo (.t6 4 45 0 2 3 44) ?_
 refine HY (fun(k:Int) (x:Au)=>0≤k∧k≤6∧x=AF.It (T.w.BS.at T.me.room) k.toNat) (fun(k:Int) (x:Au)=>(6 - k).toNat) (fun(k:Int) (x:Au)=> [(4,BT x),(45, .int .i64 k)]) (fun(k:Int) (x:Au)=> []) (0) (_) ?_ rfl rfl (fun k x hI1=>?_)
 · exact⟨by omega,by omega,rfl⟩
 obtain⟨hI11,hI12,hI13⟩:=hI1
 refine Gs (Gt (BA rfl rfl) (AQ (AA (Aq ?_))))
 refine Gc (fun c2=>?_) (fun c2=>?_)
 ·
  have c2p:=kz c2
  have hcl:=AI.JF k
  have hwl:=AF.Mh (T.w.BS.at T.me.room) k.toNat
  rw [← hI13] at hwl
  have hst:=AF.Tl (r:=T.w.BS.at T.me.room) hI11
  refine Aa ?_
  refine AB (.t6 0 2 3 4 44 45) ?_
  refine AA (Aq (Ag (Gs (Gm rfl ?_))))
  refine Gt (Kb B1 Tryz.underlying23 DD A5 rfl rfl (by(try dsimp only at *);(try simp only [List.length_append,List.length_cons,List.length_nil]);omega) (by(try dsimp only at *);(try simp only [List.length_append,List.length_cons,List.length_nil]);omega) rfl) ?_
  refine Ga rfl (Ga rfl (Gn (.t8 0 2 3 4 5 6 44 45) (CD (Gm rfl (Gt (Ak rfl rfl) (Gn (.t8 0 2 3 4 5 44 45 50) ?_))))))
  refine Gc (fun c3=>?_) (fun c3=>?_)
  ·
   have c3p:=kz c3
   have cp3:decide ((T.w.BS.at T.me.room).CR.at k=0)=true:=c3
   rw [BF cp3] at hst
   refine Be (AW (Ai ?_))
   refine AB (.t6 0 2 3 4 44 45) ?_
   refine AA (AJ ?_)
   refine Gt (Ax rfl rfl (IntWalk.i64_in _ (by(try dsimp only at *);(try simp only [List.length_append,List.length_cons,List.length_nil]);omega))) ?_
   refine Gm rfl ?_
   refine AQ (AB (.t6 0 2 3 4 44 45) ?_)
   refine Ds (k+1) _ ?_ ?_ (.t6 4 45 0 2 3 44) (.refl _)
   · exact⟨by omega,by omega,by rw [hst,← hI13]⟩
   · omega
  have c3p:=kz c3
  have cp3:decide ((T.w.BS.at T.me.room).CR.at k=0)=false:=c3
  rw [AX cp3] at hst
  refine Aa ?_
  refine AB (.t7 0 2 3 4 5 44 45) ?_
  refine AA (Gs (Gm rfl (Gm rfl ?_)))
  refine BD rfl bZ (.c rfl .n) (fun w hS=>IF _ w (gl0.stM gm0 hS)) ?_
  refine Gt (CZ rfl rfl (by(try dsimp only at *);(try simp only [List.length_append,List.length_cons,List.length_nil]);omega)) ?_
  refine Gt (CZ rfl rfl (by(try dsimp only at *);(try simp only [List.length_append,List.length_cons,List.length_nil]);omega)) ?_
  refine Ga rfl (Gn (.t7 0 2 3 4 5 44 45) (Gs (Gm rfl (Gt (Aj MR rfl) ?_))))
  refine Gt (AN Vg rfl rfl (by(try dsimp only at *);(try simp only [List.length_append,List.length_cons,List.length_nil]);omega) (by(try dsimp only at *);(try simp only [List.length_append,List.length_cons,List.length_nil]);omega)) ?_
  refine Gt (AG rfl DO .m2 (Room.l3.comp (AS.arr (n:=6) HT (by(try dsimp only at *);(try simp only [List.length_append,List.length_cons,List.length_nil]);omega) (by(try dsimp only at *);(try simp only [List.length_append,List.length_cons,List.length_nil]);omega))) rfl rfl) ?_
  refine Gn (.t7 0 2 3 4 44 45 59) ?_
  refine Gc (fun c4=>?_) (fun c4=>?_)
  ·
   have c4p:=kz c4
   have cp4:(T.w.BS.at T.me.room).shut.at k=true:=c4
   rw [BF cp4] at hst
   refine AJ (Gm rfl ?_)
   refine Gt (CZ rfl rfl (by(try dsimp only at *);(try simp only [List.length_append,List.length_cons,List.length_nil]);omega)) ?_
   refine Ga rfl ?_
   refine AQ (AB (.t6 0 2 3 4 44 45) ?_)
   refine AV (AA (AJ ?_))
   refine Gt (Ax rfl rfl (IntWalk.i64_in _ (by(try dsimp only at *);(try simp only [List.length_append,List.length_cons,List.length_nil]);omega))) ?_
   refine Gm rfl ?_
   refine AQ (AB (.t6 0 2 3 4 44 45) ?_)
   refine Ds (k+1) _ ?_ ?_ (.t6 4 45 0 2 3 44) (.refl _)
   · exact⟨by omega,by omega,by rw [hst,← hI13]⟩
   · omega
  have c4p:=kz c4
  have cp4:(T.w.BS.at T.me.room).shut.at k=false:=c4
  rw [AX cp4] at hst
  refine Aa ?_
  refine AB (.t6 0 2 3 4 44 45) ?_
  refine AV (AA (AJ ?_))
  refine Gt (Ax rfl rfl (IntWalk.i64_in _ (by(try dsimp only at *);(try simp only [List.length_append,List.length_cons,List.length_nil]);omega))) ?_
  refine Gm rfl ?_
  refine AQ (AB (.t6 0 2 3 4 44 45) ?_)
  refine Ds (k+1) _ ?_ ?_ (.t6 4 45 0 2 3 44) (.refl _)
  · exact⟨by omega,by omega,by rw [hst,← hI13]⟩
  · omega
 have c2p:=kz c2
 obtain rfl:k=6:=by omega
 subst hI13
 refine Be (AW (AW (Ai ?_)))
 refine AB (.t3 0 2 4) ?_
 refine AA (Gs (Gm rfl (Gm rfl ?_)))
 refine Ah rfl EJ (.c rfl (.c rfl .n)) (.c .h (.c .h .n)) (Bh _ _ _ _ (by assumption) (by first | exact hb | (rw [hXb];exact hb)) (by(try simp only [AF.CI,AF.Cg,(AF.Hn _ _ _).2.2] at *);(try dsimp only at *);omega)) (fun v7 B hv=>?_)
 obtain⟨y8,rfl,y9,rfl⟩:=hv
 refine Gn (.t2 0 2) (Aq (Aq ?_))
 refine BE (N:=8) [0,1,3,7,0,16,63,127] mix (by kernel_rfl) rfl ?_
 refine Pf 0 rfl (AD rfl) (Pf 1 rfl (BV rfl) (Pf 2 rfl (Aj BC rfl) (Pf 3 rfl (AY rfl Ba .m0 Ae.l0 rfl) (Pf 4 rfl (Aj C6 rfl) (Pf 5 rfl (AG rfl A5 .m3 An.l3 rfl rfl) ?_)))))
 refine Af 6 rfl (by kernel_rfl) ?_
 refine Ah rfl Sr (.c rfl (.c rfl (.c rfl .n))) .n (FK _ _ _) (fun v10 B hv=>?_)
 obtain⟨y11,rfl,y12,rfl⟩:=hv
 refine Bf rfl ⟨?_,?_⟩
 · exact(Pk (Pk (Pk (Pk (Pk (Pk Ar))))))
 refine Pf 7 rfl (A2 rfl) ?_
 refine A1 (by kernel_rfl) ?_
 refine AB (.t2 0 7) ?_
 refine AA (Gs (Gm rfl (Gt (Av rfl Tryz.underlying169 rfl) (Gt (Cp rfl rfl) (Gn (.t3 0 7 75) ?_)))))
 refine Gc (fun c5=>?_) (fun c5=>?_)
 ·
  have c5p:=kz c5
  rw [y12] at c5
  refine AJ (Gm rfl (Gm rfl ?_))
  refine Ah rfl ZZ (.c rfl (.c rfl (.c rfl .n))) (.c (.t .h) (.c (.t .h) (.c .h .n))) (Lr _ T.Jw _ [72,101,114,101,32,105,115] _ (T.w.has 0 T.me.room) (by assumption) hb (by assumption) (AI.Ig _ _ _) (fun i hi=>AI.F9 hi) hw (by decide) (by rw [(AF.UW T).2.2];omega)) (fun v14 B hv=>?_)
  obtain⟨y15,rfl,y16,rfl⟩:=hv
  refine Gn (.t1 0) (Gs (Gm rfl (AQ (AA (Ag ?_)))))
  refine Bo (.t2 79 0) ?_
  refine Bc (.t .h) ?_
  refine Bc (.t .h) ?_
  refine D2 (fun(k:Int) (X:AF) (h:Hd)=>0≤k∧k≤6∧X=T.EG.Fh k.toNat∧h.len=X.out.length) (fun(k:Int) (X:AF) (h:Hd)=>(6 - k).toNat) (fun(k:Int) (X:AF) (h:Hd)=> [(79, .int .i64 k)]) (fun(k:Int) (X:AF) (h:Hd)=> [Ad.box b 163 (Ae.enc ⟨X.w,X.b,h⟩),Ad.own h 56 16 (X.out.flatMap Ing.Event.enc)]) (0) (_) (_) ?_ rfl rfl (fun k X h hI2=>?_)
  · exact⟨by omega,by omega,(show T.EG=_ from BF c5).symm,by assumption⟩
  obtain⟨hI21,hI22,hI23,hI24⟩:=hI2
  refine Gs (Gt (BA rfl rfl) (AQ (AA (Aq ?_))))
  refine Gc (fun c6=>?_) (fun c6=>?_)
  ·
   have c6p:=kz c6
   have hnb:=hw.be k
   have hXl:=AF.Ka T.EG k.toNat
   have hBl:=AF.RI T
   rw [← hI23] at hXl
   have hXw:X.w=T.w:=hXl.1.trans hBl.1
   have hXb:X.b=T.b:=hXl.2.1.trans hBl.2.1
   rw [← hXw] at hnb
   refine Aa ?_
   refine AB (.t2 0 79) ?_
   refine AA (Aq (Ag (Gs (Gm rfl (Ga rfl (Gn (.t3 0 8 79) (Aq ?_)))))))
   refine BE (N:=18) [0,0,2,6,14,31,63,127,255,511,1023,127,2175,6271,14463,127,65535,131071] mix (by kernel_rfl) rfl ?_
   refine Pf 0 rfl (AD rfl) (Pf 1 rfl (AD rfl) (Pf 2 rfl (BV rfl) (Pf 3 rfl (Aj CV rfl) (Pf 4 rfl (AG rfl A5 .m0 Ae.l1 rfl rfl) (Pf 5 rfl (CN rfl rfl) (Pf 6 rfl (AD rfl) (Mo 7 88 rfl rfl rfl (fun q=>AD rfl) ?_)))))))
   refine Mo 8 88 rfl rfl rfl (fun q=>BV (BX rfl q)) (Mo 9 88 rfl rfl rfl (fun q=>Aj BC (BX rfl q)) (Mo 10 88 rfl rfl rfl (fun q=>AY (BX rfl q) Ba .m0 Ae.l0 rfl) (Mo 11 88 rfl rfl rfl (fun q=>AD rfl) (Mo 12 88 rfl rfl rfl (fun q=>BV (BX rfl q)) (Mo 13 88 rfl rfl rfl (fun q=>Aj CV (BX rfl q)) (Mo 14 88 rfl rfl rfl (fun q=>AG (BX rfl q) A5 .m0 Ae.l1 rfl rfl) (Mo 15 88 rfl rfl rfl (fun q=>AD rfl) ?_)))))))
   refine Ab 16 rfl rfl (by kernel_rfl) (Sc (t:=88) rfl rfl (fun q=>JX (Dl Oc (.c (BX rfl q) (.c (BX rfl q) (.c (BX rfl q) .n))) (fun w hS=>DV _ _ _ w)))) ?_
   refine Pf 17 rfl (BI rfl rfl (fun h=>h)) ?_
   refine A1 (by kernel_rfl) ?_
   refine AB (.t4 0 8 79 99) ?_
   refine AA ?_
   refine Gc (fun c7=>?_) (fun c7=>?_)
   ·
    have c7p:=kz c7
    have cp7:(!decide (k=T.EG.b) && T.EG.w.JC T.EG.b k)=true:=by rw [hBl.1,hBl.2.1,← hXw,← hXb];exact c7
    refine AJ (Gm rfl (Gm rfl (Gm rfl (Gt (BV rfl) (Gt (Aj BC rfl) (Gt (Aj Br rfl) ?_))))))
    refine Gt (AN C8 rfl rfl (by(try dsimp only at *);(try simp only [List.length_append,List.length_cons,List.length_nil]);omega) (by(try dsimp only at *);(try simp only [List.length_append,List.length_cons,List.length_nil]);omega)) ?_
    refine Gt (Aj LX rfl) ?_
    refine Gt (AG rfl CM .m0 (((Ae.l0.comp AI.l2).comp (AS.arr (n:=6) An.fl (by(try dsimp only at *);(try simp only [List.length_append,List.length_cons,List.length_nil]);omega) (by(try dsimp only at *);(try simp only [List.length_append,List.length_cons,List.length_nil]);omega))).comp An.l0) rfl rfl) ?_
    refine Gt (CZ rfl rfl (by(try dsimp only at *);(try simp only [List.length_append,List.length_cons,List.length_nil]);omega)) ?_
    refine Ah rfl EJ (.c rfl (.c rfl .n)) (.c .h (.c .h .n)) (Bh _ _ _ _ (by assumption) (by first | exact hb | (rw [hXb];exact hb)) (by(try simp only [AF.CI,AF.Cg,(AF.Hn _ _ _).2.2] at *);(try dsimp only at *);omega)) (fun v17 B hv=>?_)
    obtain⟨y18,rfl,y19,rfl⟩:=hv
    refine AQ (AB (.t2 0 79) ?_)
    refine AV (AA (AJ ?_))
    refine Gt (Ax rfl rfl (IntWalk.i64_in _ (by(try dsimp only at *);(try simp only [List.length_append,List.length_cons,List.length_nil]);omega))) ?_
    refine Gm rfl ?_
    refine AQ (AB (.t2 0 79) ?_)
    refine B3 (k+1) _ _ ?_ ?_ (.t2 79 0) (.refl _)
    · exact⟨by omega,by omega,by rw [AF.Jc hI21,BF cp7,← hI23,hBl.1,← hXw],by assumption⟩
    · omega
   have c7p:=kz c7
   have cp7:(!decide (k=T.EG.b) && T.EG.w.JC T.EG.b k)=false:=by rw [hBl.1,hBl.2.1,← hXw,← hXb];exact c7
   refine Aa ?_
   refine AB (.t2 0 79) ?_
   refine AV (AA (AJ ?_))
   refine Gt (Ax rfl rfl (IntWalk.i64_in _ (by(try dsimp only at *);(try simp only [List.length_append,List.length_cons,List.length_nil]);omega))) ?_
   refine Gm rfl ?_
   refine AQ (AB (.t2 0 79) ?_)
   refine B3 (k+1) _ _ ?_ ?_ (.t2 79 0) (.refl _)
   · exact⟨by omega,by omega,by rw [AF.Jc hI21,AX cp7,← hI23],by assumption⟩
   · omega
  have c6p:=kz c6
  obtain rfl:k=6:=by omega
  refine Be (AW (AW (Ai ?_)))
  refine Bn rfl .n ?_
  intro w1 hS
  have hS:=(hS.perm (Ay.perm (.c .h (.c .h .n)))).A4
  have hq:T.look=X:=(show T.look=_ from AX c1).trans hI23.symm
  refine⟨_,⟨?gqc6,rfl,?hlc6,?hBc6⟩,hS⟩
  case hBc6=>rw [hq]
  case hlc6=>rw [hq];assumption
 have c5p:=kz c5
 rw [y12] at c5
 refine Aa ?_
 refine AB (.t1 0) ?_
 refine AA (Gs (Gm rfl (AQ (AA (Ag ?_)))))
 refine Bo (.t2 79 0) ?_
 refine Bc (.t (.t .h)) ?_
 refine Bc (.t (.t .h)) ?_
 refine D2 (fun(k:Int) (X:AF) (h:Hd)=>0≤k∧k≤6∧X=T.EG.Fh k.toNat∧h.len=X.out.length) (fun(k:Int) (X:AF) (h:Hd)=>(6 - k).toNat) (fun(k:Int) (X:AF) (h:Hd)=> [(79, .int .i64 k)]) (fun(k:Int) (X:AF) (h:Hd)=> [Ad.box b 163 (Ae.enc ⟨X.w,X.b,h⟩),Ad.own h 56 16 (X.out.flatMap Ing.Event.enc)]) (0) (_) (_) ?_ rfl rfl (fun k X h hI2=>?_)
 · exact⟨by omega,by omega,(show T.EG=_ from AX c5).symm,by assumption⟩
 obtain⟨hI21,hI22,hI23,hI24⟩:=hI2
 refine Gs (Gt (BA rfl rfl) (AQ (AA (Aq ?_))))
 refine Gc (fun c8=>?_) (fun c8=>?_)
 ·
  have c8p:=kz c8
  have hnb:=hw.be k
  have hXl:=AF.Ka T.EG k.toNat
  have hBl:=AF.RI T
  rw [← hI23] at hXl
  have hXw:X.w=T.w:=hXl.1.trans hBl.1
  have hXb:X.b=T.b:=hXl.2.1.trans hBl.2.1
  rw [← hXw] at hnb
  refine Aa ?_
  refine AB (.t2 0 79) ?_
  refine AA (Aq (Ag (Gs (Gm rfl (Ga rfl (Gn (.t3 0 8 79) (Aq ?_)))))))
  refine BE (N:=18) [0,0,2,6,14,31,63,127,255,511,1023,127,2175,6271,14463,127,65535,131071] mix (by kernel_rfl) rfl ?_
  refine Pf 0 rfl (AD rfl) (Pf 1 rfl (AD rfl) (Pf 2 rfl (BV rfl) (Pf 3 rfl (Aj CV rfl) (Pf 4 rfl (AG rfl A5 .m0 Ae.l1 rfl rfl) (Pf 5 rfl (CN rfl rfl) (Pf 6 rfl (AD rfl) (Mo 7 88 rfl rfl rfl (fun q=>AD rfl) ?_)))))))
  refine Mo 8 88 rfl rfl rfl (fun q=>BV (BX rfl q)) (Mo 9 88 rfl rfl rfl (fun q=>Aj BC (BX rfl q)) (Mo 10 88 rfl rfl rfl (fun q=>AY (BX rfl q) Ba .m0 Ae.l0 rfl) (Mo 11 88 rfl rfl rfl (fun q=>AD rfl) (Mo 12 88 rfl rfl rfl (fun q=>BV (BX rfl q)) (Mo 13 88 rfl rfl rfl (fun q=>Aj CV (BX rfl q)) (Mo 14 88 rfl rfl rfl (fun q=>AG (BX rfl q) A5 .m0 Ae.l1 rfl rfl) (Mo 15 88 rfl rfl rfl (fun q=>AD rfl) ?_)))))))
  refine Ab 16 rfl rfl (by kernel_rfl) (Sc (t:=88) rfl rfl (fun q=>JX (Dl Oc (.c (BX rfl q) (.c (BX rfl q) (.c (BX rfl q) .n))) (fun w hS=>DV _ _ _ w)))) ?_
  refine Pf 17 rfl (BI rfl rfl (fun h=>h)) ?_
  refine A1 (by kernel_rfl) ?_
  refine AB (.t4 0 8 79 99) ?_
  refine AA ?_
  refine Gc (fun c9=>?_) (fun c9=>?_)
  ·
   have c9p:=kz c9
   have cp7:(!decide (k=T.EG.b) && T.EG.w.JC T.EG.b k)=true:=by rw [hBl.1,hBl.2.1,← hXw,← hXb];exact c9
   refine AJ (Gm rfl (Gm rfl (Gm rfl (Gt (BV rfl) (Gt (Aj BC rfl) (Gt (Aj Br rfl) ?_))))))
   refine Gt (AN C8 rfl rfl (by(try dsimp only at *);(try simp only [List.length_append,List.length_cons,List.length_nil]);omega) (by(try dsimp only at *);(try simp only [List.length_append,List.length_cons,List.length_nil]);omega)) ?_
   refine Gt (Aj LX rfl) ?_
   refine Gt (AG rfl CM .m0 (((Ae.l0.comp AI.l2).comp (AS.arr (n:=6) An.fl (by(try dsimp only at *);(try simp only [List.length_append,List.length_cons,List.length_nil]);omega) (by(try dsimp only at *);(try simp only [List.length_append,List.length_cons,List.length_nil]);omega))).comp An.l0) rfl rfl) ?_
   refine Gt (CZ rfl rfl (by(try dsimp only at *);(try simp only [List.length_append,List.length_cons,List.length_nil]);omega)) ?_
   refine Ah rfl EJ (.c rfl (.c rfl .n)) (.c .h (.c .h .n)) (Bh _ _ _ _ (by assumption) (by first | exact hb | (rw [hXb];exact hb)) (by(try simp only [AF.CI,AF.Cg,(AF.Hn _ _ _).2.2] at *);(try dsimp only at *);omega)) (fun v20 B hv=>?_)
   obtain⟨y21,rfl,y22,rfl⟩:=hv
   refine AQ (AB (.t2 0 79) ?_)
   refine AV (AA (AJ ?_))
   refine Gt (Ax rfl rfl (IntWalk.i64_in _ (by(try dsimp only at *);(try simp only [List.length_append,List.length_cons,List.length_nil]);omega))) ?_
   refine Gm rfl ?_
   refine AQ (AB (.t2 0 79) ?_)
   refine B3 (k+1) _ _ ?_ ?_ (.t2 79 0) (.refl _)
   · exact⟨by omega,by omega,by rw [AF.Jc hI21,BF cp7,← hI23,hBl.1,← hXw],by assumption⟩
   · omega
  have c9p:=kz c9
  have cp7:(!decide (k=T.EG.b) && T.EG.w.JC T.EG.b k)=false:=by rw [hBl.1,hBl.2.1,← hXw,← hXb];exact c9
  refine Aa ?_
  refine AB (.t2 0 79) ?_
  refine AV (AA (AJ ?_))
  refine Gt (Ax rfl rfl (IntWalk.i64_in _ (by(try dsimp only at *);(try simp only [List.length_append,List.length_cons,List.length_nil]);omega))) ?_
  refine Gm rfl ?_
  refine AQ (AB (.t2 0 79) ?_)
  refine B3 (k+1) _ _ ?_ ?_ (.t2 79 0) (.refl _)
  · exact⟨by omega,by omega,by rw [AF.Jc hI21,AX cp7,← hI23],by assumption⟩
  · omega
 have c8p:=kz c8
 obtain rfl:k=6:=by omega
 refine Be (AW (AW (Ai ?_)))
 refine Bn rfl .n ?_
 intro w1 hS
 have hS:=(hS.perm (Ay.perm (.c .h (.c .h .n)))).A4
 have hq:T.look=X:=(show T.look=_ from AX c1).trans hI23.symm
 refine⟨_,⟨?gqc8,rfl,?hlc8,?hBc8⟩,hS⟩
 case hBc8=>rw [hq]
 case hlc8=>rw [hq];assumption
theorem Ml (X:AI)(s:Au)(hw:X.DL)(hs:s.length≤100000000):Fa Tryz.prog 114 #[.agg X.enc.toArray,BT s] [] (fun w=>(GV 0 AI.DP w∧0 ∉ Cj [])) (fun v B=>∃ h:Hd,v = .tuple #[.agg ((AF.BW X s).1.enc).toArray, .int .i64 (AF.BW X s).2.1,h.val, .int .i64 (AF.BW X s).2.2.2]∧h.len=(AF.BW X s).2.2.1.length∧B = [Ad.own h 56 16 ((AF.BW X s).2.2.1.flatMap Ing.Event.enc)]):=by
 intro w hS0 hH
 obtain⟨gl0,gm0⟩:=hH
 refine Am _ _ Tryz.func114 rfl rfl rfl (hS0) ?_
 refine Gs ?_
 refine B0 rfl rfl rfl (fun b1=>?_)
 refine BG rfl NQ rfl (fun b2=>?_)
 refine Ga rfl (Ga rfl (Ga rfl (Gn (.t3 1 2 4) (CD (Gt (AY rfl Ba .m1 (AS.id AI.fl.len AI.fl.one) rfl) ?_)))))
 refine BD rfl Zw (.c rfl .n) (fun w hS=>Ho _ w) ?_
 refine Gt (BR rfl) (Gn (.t4 1 2 4 14) ?_)
 refine Gc (fun c1=>?_) (fun c1=>?_)
 ·
  refine Gs (Gt (AY rfl Ba .m1 (AS.id AI.fl.len AI.fl.one) rfl) ?_)
  refine AU (AK (AS.id AI.fl.len AI.fl.one) rfl rfl rfl EF rfl .h) ?_
  refine Ga rfl (Ga rfl (Ga rfl (Gn (.t4 4 5 6 7) (Ac (AE ?_)))))
  refine AZ rfl (.cell rfl .m0 (.inl ⟨(by rw [AI.fl.len];exact Ba),rfl⟩) (.tmp rfl (.tmp rfl (.tmp rfl .n)))) ?_
  intro w1 hS
  have hS:=hS.Cr 56 16
  have hS:=(hS.perm (Ay.perm (.c .h .n))).A4
  have hq:AF.BW X s=_:=BF c1
  refine⟨_,⟨⟨none,0,0⟩,?hv,?hl,?hB⟩,hS⟩
  case hv=>rw [hq];rfl
  case hl=>rw [hq];rfl
  case hB=>rw [hq];rfl
 have c1p:=kz c1
 refine Aa ?_
 refine AB (.t3 1 2 4) ?_
 refine AA (CD (Gm rfl ?_))
 refine BD rfl dN (.c rfl .n) (fun w hS=>Md _ (by first | assumption | omega) w) ?_
 refine Gt (BR rfl) (Gn (.t4 1 2 4 18) ?_)
 refine Gc (fun c2=>?_) (fun c2=>?_)
 ·
  refine Gs (Gt (AY rfl Ba .m1 (AS.id AI.fl.len AI.fl.one) rfl) ?_)
  refine AU (AK (AS.id AI.fl.len AI.fl.one) rfl rfl rfl EF rfl .h) ?_
  refine Ga rfl (Ga rfl (Ga rfl (Gn (.t4 4 5 6 7) (Ac (AE ?_)))))
  refine AZ rfl (.cell rfl .m0 (.inl ⟨(by rw [AI.fl.len];exact Ba),rfl⟩) (.tmp rfl (.tmp rfl (.tmp rfl .n)))) ?_
  intro w1 hS
  have hS:=hS.Cr 56 16
  have hS:=(hS.perm (Ay.perm (.c .h .n))).A4
  have hq:AF.BW X s=_:=(AX c1).trans (BF c2)
  refine⟨_,⟨⟨none,0,0⟩,?hv,?hl,?hB⟩,hS⟩
  case hv=>rw [hq];rfl
  case hl=>rw [hq];rfl
  case hB=>rw [hq];rfl
 have c2p:=kz c2
 refine Aa ?_
 refine AB (.t3 1 2 4) ?_
 refine AA (CD (Gt (Aj Br rfl) (Gt (AY rfl ZX .m1 AI.l2 rfl) (Gm rfl (Gn (.t5 1 2 4 21 22) (Ag ?_))))))
 refine Bo (.t5 22 1 2 4 21) ?_
 refine CT (fun(k:Int)=>0≤k∧k≤6∧B7 6 (fun k=>!AF.Ij X s k) 6=B7 6 (fun k=>!AF.Ij X s k) (6 - k).toNat) (fun(k:Int)=>(6 - k).toNat) (fun(k:Int)=> [(22, .int .i64 k)]) (fun(k:Int)=> []) (0) ?_ rfl rfl (fun k hI1=>?_)
 · exact⟨by omega,by omega,rfl⟩
 obtain⟨hI11,hI12,hI13⟩:=hI1
 refine Gs (Gt (BA rfl rfl) (AQ (AA (Aq ?_))))
 refine Gc (fun c3=>?_) (fun c3=>?_)
 ·
  have c3p:=kz c3
  refine Aa ?_
  refine AB (.t5 1 2 4 21 22) ?_
  refine AA (Aq (Ag (Gs ?_)))
  refine Gt (GM An.fl Tryz.underlying33 F2 rfl rfl (by first | omega | exact hb.1 | exact hb.2 | (dsimp only;omega)) (by first | omega | exact hb.1 | exact hb.2 | (dsimp only;omega))) ?_
  refine BG rfl L5 rfl (fun b3=>?_)
  refine AU (AK (AS.id An.fl.len An.fl.one) rfl rfl rfl Ko rfl .h) ?_
  refine Gn (.t6 1 2 4 9 21 22) (Gs (Gt (Aj Ie rfl) (Gt (AG rfl DO .m0 An.l1 rfl rfl) (Gm rfl (Bb 27 rfl rfl (fun q=>Aj LX rfl) (Bb 27 rfl rfl (fun q=>AG (BX rfl q) CM .m0 An.l0 rfl rfl) (Bb 27 rfl rfl (fun q=>AD rfl) ?_)))))))
  refine Bb 27 rfl rfl (fun q=>Bu (BX rfl q) (BX rfl q)) (Gt (BI rfl rfl (fun h=>h)) (Gn (.t6 1 2 4 21 22 32) ?_))
  refine Gc (fun c4=>?_) (fun c4=>?_)
  ·
   have c4p:=kz c4
   refine Gs (Gt (AY rfl Ba .m2 (AS.id AI.fl.len AI.fl.one) rfl) ?_)
   refine AU (AK (AS.id AI.fl.len AI.fl.one) rfl rfl rfl EF rfl (.t .h)) ?_
   refine Ga rfl (Ga rfl (Ga rfl (Gn (.t4 4 5 6 7) (Ac (AT (AE (AE ?_)))))))
   refine AT (AE ?_)
   refine AZ rfl (.cell rfl .m1 (.inl ⟨(by rw [AI.fl.len];exact Ba),rfl⟩) (.tmp rfl (.tmp rfl (.tmp rfl .n)))) ?_
   intro w1 hS
   have hS:=hS.Cr 56 16
   have hS:=(hS.perm (Ay.perm (.c .h .n))).A4
   have ha:(!B7 6 (fun k=>!AF.Ij X s k) 6)=true:=by rw [hI13,Di (fun k=>!AF.Ij X s k) (show k < 6 by omega),show AF.Ij X s k=true from c4];rfl
   have hq:AF.BW X s=_:=(AX c1).trans ((AX c2).trans (BF ha))
   refine⟨_,⟨⟨none,0,0⟩,?hv,?hl,?hB⟩,hS⟩
   case hv=>rw [hq];rfl
   case hl=>rw [hq];rfl
   case hB=>rw [hq];rfl
  have c4p:=kz c4
  refine Aa ?_
  refine AB (.t5 1 2 4 21 22) ?_
  refine AV (AA (AJ ?_))
  refine Gt (Ax rfl rfl (IntWalk.i64_in _ (by first | omega | exact hb.1 | exact hb.2 | (dsimp only;omega)))) ?_
  refine Gm rfl ?_
  refine AQ (AB (.t5 1 2 4 21 22) ?_)
  refine Bz (k+1) ?_ ?_ (.t5 22 1 2 4 21) (.cons _ (.refl _))
  · exact⟨by omega,by omega,by rw [hI13,Di (fun k=>!AF.Ij X s k) (show k < 6 by omega),show AF.Ij X s k=false from c4];rfl⟩
  · omega
 have c3p:=kz c3
 have hno:(!B7 6 (fun k=>!AF.Ij X s k) 6)=false:=by rw [hI13,show(6 - k).toNat=0 by omega];rfl
 refine Be (AW (AW (Ai ?_)))
 refine AB (.t3 1 2 4) ?_
 refine AA (CD (Ga rfl (AQ (AA (Ag ?_)))))
 refine Bo (.t4 10 1 2 4) ?_
 refine CT (fun(k:Int)=>2≤k∧k≤6∧AF.CP X 6=AF.CP X (5 - (k - 1)).toNat) (fun(k:Int)=>(6 - k).toNat) (fun(k:Int)=> [(10, .int .i64 k)]) (fun(k:Int)=> []) (2) ?_ rfl rfl (fun k hI2=>?_)
 · exact⟨by omega,by omega,AF.Vm X⟩
 obtain⟨hI21,hI22,hI23⟩:=hI2
 refine CD (Gm rfl (Gt (BA rfl rfl) (Gn (.t5 1 2 4 10 36) ?_)))
 refine Gc (fun c5=>?_) (fun c5=>?_)
 ·
  have c5p:=kz c5
  refine Aa ?_
  refine AB (.t4 1 2 4 10) ?_
  refine AA (Aq (Ag (Gs (Gm rfl (Gt (Aj Br rfl) ?_)))))
  refine Gt (AN C8 rfl rfl (by first | omega | exact hb.1 | exact hb.2 | (dsimp only;omega)) (by first | omega | exact hb.1 | exact hb.2 | (dsimp only;omega))) ?_
  refine Gt (Aj Ie rfl) ?_
  refine Gt (AG rfl DO .m1 ((AI.l2.comp (AS.ar (n:=6) An.fl (by first | omega | exact hb | (dsimp only;omega)))).comp An.l1) rfl rfl) ?_
  refine Gt (BR rfl) (Gn (.t5 1 2 4 10 44) ?_)
  refine Gc (fun c6=>?_) (fun c6=>?_)
  ·
   have c6p:=kz c6
   have hF:=AF.Pw (s:=s) (by simpa using c1) hw (by omega) (show 0≤k by omega) (show k < 6 by omega)
   have hb:=hF.b
   refine Gs (Gt (AY rfl Ba .m1 (AS.id AI.fl.len AI.fl.one) rfl) (Gm rfl (Gt (BH UM US rfl (.cons Ae.l0 rfl rfl rfl (.cons Ae.l1 rfl rfl rfl .nil))) ?_)))
   refine B0 rfl rfl rfl (fun b4=>?_)
   refine Ga rfl (Gn (.t4 1 4 10 11) (Gs (Gm rfl (Gm rfl (Gm rfl (Gt (BH W7 L5 rfl (.cons An.l0 rfl rfl rfl (.cons An.l1 rfl rfl rfl (.cons An.l4 rfl rfl rfl .nil)))) (Gt (BV rfl) ?_)))))))
   refine Gt (Aj BC rfl) (Gt (Aj Br rfl) ?_)
   refine Gt (AN C8 rfl rfl (by first | omega | exact hb.1 | exact hb.2 | (dsimp only;omega)) (by first | omega | exact hb.1 | exact hb.2 | (dsimp only;omega))) ?_
   refine AU (AK ((Ae.l0.comp AI.l2).comp (AS.ar (n:=6) An.fl (by first | omega | exact hb | (dsimp only;omega)))) rfl rfl rfl Ko rfl .h) ?_
   refine Gn (.t3 4 10 11) (Gs (Gm rfl ?_))
   refine Dg Ing.Event.enc 56 16 ?_
   refine Ah rfl Uk (.c rfl (.c rfl .n)) (.c (.t .h) (.c .h .n)) (Ge _ (⟨X.C4 k (AF.J0 s),k,[]⟩:AF) _ 17 rfl hb (Nat.zero_le _)) (fun v5 B hv=>?_)
   obtain⟨y6,rfl,y7,rfl⟩:=hv
   refine Gn (.t3 4 10 11) (Gs (Gm rfl ?_))
   refine BJ rfl Ux (.c rfl .n) (.c .h (.c .h .n)) (HQ _ (AF.kind (⟨X.C4 k (AF.J0 s),k,[]⟩:AF) 17) _ y7 hb hF.br (by decide:(0:Nat)+1≤90000)) (fun w hS=>gl0.pull gm0 hS (.c .h (.c .h .n))) (fun v8 B hv=>?_)
   obtain⟨y9,rfl,y10,rfl⟩:=hv
   refine Gn (.t3 4 10 11) (Aq ?_)
   refine BE (N:=13) [0,1,3,7,0,0,32,96,224,15,543,2047,4095] mix (by kernel_rfl) rfl ?_
   refine Pf 0 rfl (AD rfl) (Pf 1 rfl (BV rfl) (Pf 2 rfl (Aj BC rfl) (Pf 3 rfl (AY rfl Ba .m0 Ae.l0 rfl) (Pf 4 rfl (AD rfl) (Pf 5 rfl (AD rfl) (Pf 6 rfl (BV rfl) (Pf 7 rfl (Aj CO rfl) ?_)))))))
   refine Pf 8 rfl (AG rfl Dw .m0 Ae.l2 rfl rfl) ?_
   refine Af 9 rfl (by kernel_rfl) ?_
   refine AU (AK (AS.id AI.fl.len AI.fl.one) rfl rfl rfl EF rfl (.t (.t .h))) ?_
   refine BN rfl ⟨?_,?_⟩
   · exact(Po rfl (AG rfl Dw .m0 Ae.l2 rfl rfl) rfl rfl (Po rfl (Aj CO rfl) rfl rfl (Po rfl (BV rfl) rfl rfl (Po rfl (AD rfl) rfl rfl (Po rfl (AD rfl) rfl rfl (Pk (Pk (Pk (Pk Ar)))))))))
   refine Pf 10 rfl (A2 rfl) (Pf 11 rfl (A2 rfl) (Pf 12 rfl (A2 rfl) ?_))
   refine A1 (by kernel_rfl) ?_
   refine AB (.t4 4 5 6 7) ?_
   refine AA (Ac (AT (AE (AE (AT (AE ?_))))))
   refine AZ rfl (.cell rfl .m2 (.inl ⟨(by rw [AI.fl.len];exact Ba),rfl⟩) (.tmp rfl (.tmp rfl (.tmp rfl .n)))) ?_
   intro w1 hS
   have hS:=(hS.perm (Ay.perm (.c (.t .h) .n))).A4
   have hfr:AF.CP X 6=k:=hI23.trans (AF.VX hI21 (by omega) c6)
   have hf0:decide (AF.CP X 6 < 0)=false:=decide_eq_false (by omega)
   have hq:AF.BW X s=_:=(AX c1).trans ((AX c2).trans ((AX hno).trans (AX hf0)))
   rw [hfr] at hq
   refine⟨_,⟨y9,?hv,?hl,?hB⟩,hS⟩
   case hv=>rw [hq];(try rfl)
   case hl=>rw [hq];exact y10
   case hB=>rw [hq];(try rfl)
  have c6p:=kz c6
  refine Aa ?_
  refine AB (.t4 1 2 4 10) ?_
  refine AV (AA (AJ (Gm rfl ?_)))
  refine Gt (Ax rfl rfl (IntWalk.i64_in _ (by first | omega | exact hb.1 | exact hb.2 | (dsimp only;omega)))) ?_
  refine Ga rfl ?_
  refine AQ (AB (.t4 1 2 4 10) ?_)
  refine Bz (k+1) ?_ ?_ (.t4 10 1 2 4) (.refl _)
  · exact⟨by omega,by omega,by rw [hI23,AF.Xp hI21 (by omega) c6,show(5 - (k+1 - 1))=5 - k by omega]⟩
  · omega
 have c5p:=kz c5
 obtain rfl:k=6:=by omega
 refine Be (AW (AW (Ai ?_)))
 refine AB (.t2 2 4) ?_
 refine AA (Gs (Gt (AY rfl Ba .m1 (AS.id AI.fl.len AI.fl.one) rfl) ?_))
 refine AU (AK (AS.id AI.fl.len AI.fl.one) rfl rfl rfl EF rfl .h) ?_
 refine Ga rfl (Ga rfl (Ga rfl (Gn (.t4 4 5 6 7) (Ac ?_))))
 refine AZ rfl (.cell rfl .m0 (.inl ⟨(by rw [AI.fl.len];exact Ba),rfl⟩) (.tmp rfl (.tmp rfl (.tmp rfl .n)))) ?_
 intro w1 hS
 have hS:=hS.Cr 56 16
 have hS:=(hS.perm (Ay.perm (.c .h .n))).A4
 have hf0:decide (AF.CP X 6 < 0)=true:=by rw [hI23];rfl
 have hq:AF.BW X s=_:=(AX c1).trans ((AX c2).trans ((AX hno).trans (BF hf0)))
 refine⟨_,⟨⟨none,0,0⟩,?hv,?hl,?hB⟩,hS⟩
 case hv=>rw [hq];rfl
 case hl=>rw [hq];rfl
 case hB=>rw [hq];rfl
theorem NB (z:Int)(w:World):En Tryz.prog 49 #[.int .i64 z] w fun v w'=>v = .tuple #[BT (AI.form z).1,BT (AI.form z).2]∧B9 w w':=by
 refine Am [] [] Tryz.func49 rfl rfl rfl (St.start w []) ?_
 refine Gs (Ga rfl (Ga rfl (Gn (.t1 0) (CD (Gm rfl (Gn (.t1 4) (Ag ?_)))))))
 refine Gs (Gt (Ak rfl rfl) (Ga rfl (Gn (.t2 4 5) ?_)))
 refine Gc (fun c1=>?_) (fun c1=>?_)
 ·
  refine Gs (Ga rfl (Ga rfl (Gn (.t2 2 3) (Ac (AT (AE ?_))))))
  refine AZ rfl (.tmp rfl (.tmp rfl .n)) ?_
  intro w1 hS;refine⟨?_,hS.Al⟩;rw [show AI.form z=_ from(BF c1)];rfl
 refine Gs (Gt (Ak rfl rfl) (Ga rfl (Gn (.t2 4 7) ?_)))
 refine Gc (fun c2=>?_) (fun c2=>?_)
 ·
  refine Gs (Ga rfl (Ga rfl (Gn (.t2 2 3) (Ac (AT (AE ?_))))))
  refine AZ rfl (.tmp rfl (.tmp rfl .n)) ?_
  intro w1 hS;refine⟨?_,hS.Al⟩;rw [show AI.form z=_ from((AX c1).trans (BF c2))];rfl
 refine Gs (Gt (Ak rfl rfl) (Ga rfl (Gn (.t2 4 9) ?_)))
 refine Gc (fun c3=>?_) (fun c3=>?_)
 ·
  refine Gs (Ga rfl (Ga rfl (Gn (.t2 2 3) (Ac (AT (AE ?_))))))
  refine AZ rfl (.tmp rfl (.tmp rfl .n)) ?_
  intro w1 hS;refine⟨?_,hS.Al⟩;rw [show AI.form z=_ from((AX c1).trans ((AX c2).trans (BF c3)))];rfl
 refine Gs (Gt (Ak rfl rfl) (Ga rfl (Gn (.t2 4 11) ?_)))
 refine Gc (fun c4=>?_) (fun c4=>?_)
 ·
  refine Gs (Ga rfl (Ga rfl (Gn (.t2 2 3) (Ac (AT (AE ?_))))))
  refine AZ rfl (.tmp rfl (.tmp rfl .n)) ?_
  intro w1 hS;refine⟨?_,hS.Al⟩;rw [show AI.form z=_ from((AX c1).trans ((AX c2).trans ((AX c3).trans (BF c4))))];rfl
 refine Gs (Gt (Ak rfl rfl) (Ga rfl (Gn (.t2 4 13) ?_)))
 refine Gc (fun c5=>?_) (fun c5=>?_)
 ·
  refine Gs (Ga rfl (Ga rfl (Gn (.t2 2 3) (Ac (AT (AE ?_))))))
  refine AZ rfl (.tmp rfl (.tmp rfl .n)) ?_
  intro w1 hS;refine⟨?_,hS.Al⟩;rw [show AI.form z=_ from((AX c1).trans ((AX c2).trans ((AX c3).trans ((AX c4).trans (BF c5)))))];rfl
 refine Gs (Gt (Ak rfl rfl) (Ga rfl (Gn (.t2 4 15) ?_)))
 refine Gc (fun c6=>?_) (fun c6=>?_)
 ·
  refine Gs (Ga rfl (Ga rfl (Gn (.t2 2 3) (Ac (AT (AE ?_))))))
  refine AZ rfl (.tmp rfl (.tmp rfl .n)) ?_
  intro w1 hS;refine⟨?_,hS.Al⟩;rw [show AI.form z=_ from((AX c1).trans ((AX c2).trans ((AX c3).trans ((AX c4).trans ((AX c5).trans (BF c6))))))];rfl
 refine Gs (Gt (Ak rfl rfl) (Ga rfl (Gn (.t2 4 17) ?_)))
 refine Gc (fun c7=>?_) (fun c7=>?_)
 ·
  refine Gs (Ga rfl (Ga rfl (Gn (.t2 2 3) (Ac (AT (AE ?_))))))
  refine AZ rfl (.tmp rfl (.tmp rfl .n)) ?_
  intro w1 hS;refine⟨?_,hS.Al⟩;rw [show AI.form z=_ from((AX c1).trans ((AX c2).trans ((AX c3).trans ((AX c4).trans ((AX c5).trans ((AX c6).trans (BF c7)))))))];rfl
 refine Gs (Gt (Ak rfl rfl) (Ga rfl (Gn (.t2 4 19) ?_)))
 refine Gc (fun c8=>?_) (fun c8=>?_)
 ·
  refine Gs (Ga rfl (Ga rfl (Gn (.t2 2 3) (Ac (AT (AE ?_))))))
  refine AZ rfl (.tmp rfl (.tmp rfl .n)) ?_
  intro w1 hS;refine⟨?_,hS.Al⟩;rw [show AI.form z=_ from((AX c1).trans ((AX c2).trans ((AX c3).trans ((AX c4).trans ((AX c5).trans ((AX c6).trans ((AX c7).trans (BF c8))))))))];rfl
 refine Gs (Gt (Ak rfl rfl) (Ga rfl (Gn (.t2 4 21) ?_)))
 refine Gc (fun c9=>?_) (fun c9=>?_)
 ·
  refine Gs (Ga rfl (Ga rfl (Gn (.t2 2 3) (Ac (AT (AE ?_))))))
  refine AZ rfl (.tmp rfl (.tmp rfl .n)) ?_
  intro w1 hS;refine⟨?_,hS.Al⟩;rw [show AI.form z=_ from((AX c1).trans ((AX c2).trans ((AX c3).trans ((AX c4).trans ((AX c5).trans ((AX c6).trans ((AX c7).trans ((AX c8).trans (BF c9)))))))))];rfl
 refine Gs (Gt (Ak rfl rfl) (Ga rfl (Gn (.t2 4 23) ?_)))
 refine Gc (fun c10=>?_) (fun c10=>?_)
 ·
  refine Gs (Ga rfl (Ga rfl (Gn (.t2 2 3) (Ac (AT (AE ?_))))))
  refine AZ rfl (.tmp rfl (.tmp rfl .n)) ?_
  intro w1 hS;refine⟨?_,hS.Al⟩;rw [show AI.form z=_ from((AX c1).trans ((AX c2).trans ((AX c3).trans ((AX c4).trans ((AX c5).trans ((AX c6).trans ((AX c7).trans ((AX c8).trans ((AX c9).trans (BF c10))))))))))];rfl
 refine Gs (Gt (Ak rfl rfl) (Ga rfl (Gn (.t2 4 25) ?_)))
 refine Gc (fun c11=>?_) (fun c11=>?_)
 ·
  refine Gs (Ga rfl (Ga rfl (Gn (.t2 2 3) (Ac (AT (AE ?_))))))
  refine AZ rfl (.tmp rfl (.tmp rfl .n)) ?_
  intro w1 hS;refine⟨?_,hS.Al⟩;rw [show AI.form z=_ from((AX c1).trans ((AX c2).trans ((AX c3).trans ((AX c4).trans ((AX c5).trans ((AX c6).trans ((AX c7).trans ((AX c8).trans ((AX c9).trans ((AX c10).trans (BF c11)))))))))))];rfl
 refine Gs (Gt (Ak rfl rfl) (Ga rfl (Gn (.t2 4 27) ?_)))
 refine Gc (fun c12=>?_) (fun c12=>?_)
 ·
  refine Gs (Ga rfl (Ga rfl (Gn (.t2 2 3) (Ac (AT (AE ?_))))))
  refine AZ rfl (.tmp rfl (.tmp rfl .n)) ?_
  intro w1 hS;refine⟨?_,hS.Al⟩;rw [show AI.form z=_ from((AX c1).trans ((AX c2).trans ((AX c3).trans ((AX c4).trans ((AX c5).trans ((AX c6).trans ((AX c7).trans ((AX c8).trans ((AX c9).trans ((AX c10).trans ((AX c11).trans (BF c12))))))))))))];rfl
 refine Gs (Gt (Ak rfl rfl) (Ga rfl (Gn (.t2 4 29) ?_)))
 refine Gc (fun c13=>?_) (fun c13=>?_)
 ·
  refine Gs (Ga rfl (Ga rfl (Gn (.t2 2 3) (Ac (AT (AE ?_))))))
  refine AZ rfl (.tmp rfl (.tmp rfl .n)) ?_
  intro w1 hS;refine⟨?_,hS.Al⟩;rw [show AI.form z=_ from((AX c1).trans ((AX c2).trans ((AX c3).trans ((AX c4).trans ((AX c5).trans ((AX c6).trans ((AX c7).trans ((AX c8).trans ((AX c9).trans ((AX c10).trans ((AX c11).trans ((AX c12).trans (BF c13)))))))))))))];rfl
 refine Gs (Gt (Ak rfl rfl) (Ga rfl (Gn (.t2 4 31) ?_)))
 refine Gc (fun c14=>?_) (fun c14=>?_)
 ·
  refine Gs (Ga rfl (Ga rfl (Gn (.t2 2 3) (Ac (AT (AE ?_))))))
  refine AZ rfl (.tmp rfl (.tmp rfl .n)) ?_
  intro w1 hS;refine⟨?_,hS.Al⟩;rw [show AI.form z=_ from((AX c1).trans ((AX c2).trans ((AX c3).trans ((AX c4).trans ((AX c5).trans ((AX c6).trans ((AX c7).trans ((AX c8).trans ((AX c9).trans ((AX c10).trans ((AX c11).trans ((AX c12).trans ((AX c13).trans (BF c14))))))))))))))];rfl
 refine Gs (Gt (Ak rfl rfl) (Ga rfl (Gn (.t2 4 33) ?_)))
 refine Gc (fun c15=>?_) (fun c15=>?_)
 ·
  refine Gs (Ga rfl (Ga rfl (Gn (.t2 2 3) (Ac (AT (AE ?_))))))
  refine AZ rfl (.tmp rfl (.tmp rfl .n)) ?_
  intro w1 hS;refine⟨?_,hS.Al⟩;rw [show AI.form z=_ from((AX c1).trans ((AX c2).trans ((AX c3).trans ((AX c4).trans ((AX c5).trans ((AX c6).trans ((AX c7).trans ((AX c8).trans ((AX c9).trans ((AX c10).trans ((AX c11).trans ((AX c12).trans ((AX c13).trans ((AX c14).trans (BF c15)))))))))))))))];rfl
 refine Gs (Gt (Ak rfl rfl) (Ga rfl (Gn (.t2 4 35) ?_)))
 refine Gc (fun c16=>?_) (fun c16=>?_)
 ·
  refine Gs (Ga rfl (Ga rfl (Gn (.t2 2 3) (Ac (AT (AE ?_))))))
  refine AZ rfl (.tmp rfl (.tmp rfl .n)) ?_
  intro w1 hS;refine⟨?_,hS.Al⟩;rw [show AI.form z=_ from((AX c1).trans ((AX c2).trans ((AX c3).trans ((AX c4).trans ((AX c5).trans ((AX c6).trans ((AX c7).trans ((AX c8).trans ((AX c9).trans ((AX c10).trans ((AX c11).trans ((AX c12).trans ((AX c13).trans ((AX c14).trans ((AX c15).trans (BF c16))))))))))))))))];rfl
 refine Gs (Gt (Ak rfl rfl) (Ga rfl (Gn (.t2 4 37) ?_)))
 refine Gc (fun c17=>?_) (fun c17=>?_)
 ·
  refine Gs (Ga rfl (Ga rfl (Gn (.t2 2 3) (Ac (AT (AE ?_))))))
  refine AZ rfl (.tmp rfl (.tmp rfl .n)) ?_
  intro w1 hS;refine⟨?_,hS.Al⟩;rw [show AI.form z=_ from((AX c1).trans ((AX c2).trans ((AX c3).trans ((AX c4).trans ((AX c5).trans ((AX c6).trans ((AX c7).trans ((AX c8).trans ((AX c9).trans ((AX c10).trans ((AX c11).trans ((AX c12).trans ((AX c13).trans ((AX c14).trans ((AX c15).trans ((AX c16).trans (BF c17)))))))))))))))))];rfl
 refine Gs (Gt (Ak rfl rfl) (Ga rfl (Gn (.t1 39) ?_)))
 refine Gc (fun c18=>?_) (fun c18=>?_)
 ·
  refine Gs (Ga rfl (Ga rfl (Gn (.t2 2 3) (Ac (AT (AE ?_))))))
  refine AZ rfl (.tmp rfl (.tmp rfl .n)) ?_
  intro w1 hS;refine⟨?_,hS.Al⟩;rw [show AI.form z=_ from((AX c1).trans ((AX c2).trans ((AX c3).trans ((AX c4).trans ((AX c5).trans ((AX c6).trans ((AX c7).trans ((AX c8).trans ((AX c9).trans ((AX c10).trans ((AX c11).trans ((AX c12).trans ((AX c13).trans ((AX c14).trans ((AX c15).trans ((AX c16).trans ((AX c17).trans (BF c18))))))))))))))))))];rfl
 refine Aa ?_
 refine AB (.nil _) ?_
 refine AV (AA (Gs (Ga rfl (Ga rfl (AQ (AA (Ac ?_)))))))
 refine AZ rfl (.tmp rfl (.tmp rfl .n)) ?_
 intro w1 hS;refine⟨?_,hS.Al⟩;rw [show AI.form z=_ from((AX c1).trans ((AX c2).trans ((AX c3).trans ((AX c4).trans ((AX c5).trans ((AX c6).trans ((AX c7).trans ((AX c8).trans ((AX c9).trans ((AX c10).trans ((AX c11).trans ((AX c12).trans ((AX c13).trans ((AX c14).trans ((AX c15).trans ((AX c16).trans ((AX c17).trans (AX c18))))))))))))))))))];rfl
theorem DC (b:Nat)(p:Option Addr)(h:Hd)(hp:p=none∨p=some ⟨b,0,none⟩):Jk Tryz.prog 71 #[.pointer (some ⟨b,0,none⟩)] [Ad.box b 107 (Df.enc ⟨p,h⟩)] (fun v B=>v = .tuple #[]∧B = [Ad.box b 107 (Df.enc ⟨some ⟨b,0,none⟩,h⟩)]):=by
 intro w hS0
 refine Am _ _ Tryz.func71 rfl rfl rfl (hS0) ?_
 refine Gs (Gm rfl (Gt (BV rfl) (Gt (Aj RB rfl) (Gt (AG rfl Wm .m0 Df.l0 rfl rfl) (Gt (Ev Tryz.underlying104 rfl) (Gn (.t2 0 6) ?_))))))
 refine Gc (fun c1=>?_) (fun c1=>?_)
 ·
  obtain rfl:p=none:=by simpa using c1
  refine AJ (Gm rfl (Gm rfl ?_))
  refine Gt ((let ⟨_,h,h2⟩:=Tb;Sa Tryz.underlying104 Tryz.underlying152 h h2 rfl .m0 (by rw [Df.fl.len];decide))) ?_
  refine Gt (Ry Tryz.func85 (by kernel_rfl) (by kernel_rfl) (by kernel_rfl) (by kernel_rfl) rfl) ?_
  refine Gt ((let ⟨_,h,_⟩:=Tb;Pj Tryz.underlying152 Tryz.underlying104 h rfl .m0 (by rw [Df.fl.len];kernel_rfl))) ?_
  refine Gt (BV rfl) (Gt (Aj RB rfl) ?_)
  refine AU (AK Df.l0 rfl rfl rfl Zl rfl .h) ?_
  refine AQ ?_
  refine Bn rfl .n ?_
  intro w1 hS
  have hS:=(hS.perm (Ay.perm (.c .h .n))).A4
  exact⟨_,⟨rfl,rfl⟩,hS⟩
 obtain rfl:p=some ⟨b,0,none⟩:=by rcases hp with h | h;(subst h;simp at c1);exact h
 refine Gs (Gm rfl (Gt (BV rfl) (Gt (Aj RB rfl) (Gt (AG rfl Wm .m0 Df.l0 rfl rfl) (Gm rfl (Gt ((let ⟨_,h,_⟩:=Tb;Qo Tryz.underlying104 h rfl rfl)) (Gn (.t1 19) ?_)))))))
 refine DU rfl rfl ?_
 refine Aa ?_
 refine Bn rfl .n ?_
 intro w1 hS
 have hS:=(hS.perm (Ay.perm (.c .h .n))).A4
 exact⟨_,⟨rfl,rfl⟩,hS⟩
theorem Cl (b:Nat)(p:Option Addr)(h:Hd)(s:Au)(hp:p=none∨p=some ⟨b,0,none⟩)(hz:h.Z)(hl:h.len=s.length)(c:UInt8)(hb:s.length < 140737488355000):Jk Tryz.prog 50 #[.pointer (some ⟨b,0,none⟩), .int .u8 (c.toNat:Int)] [Ad.box b 107 (Df.enc ⟨p,h⟩),Ad.own h 5 1 (s.flatMap Db)] (fun v B=>∃ p' h',v = .nilIface∧(p'=none∨p'=some ⟨b,0,none⟩)∧h'.Z∧h'.len=(s ++ [c]).length∧B = [Ad.box b 107 (Df.enc ⟨p',h'⟩),Ad.own h' 5 1 ((s ++ [c]).flatMap Db)]):=by
 intro w hS0
 refine Am _ _ Tryz.func50 rfl rfl rfl (hS0) ?_
 refine Gs (Ga rfl (Gn (.t2 0 1) (Gs (Gm rfl ?_))))
 refine Ah rfl Z5 (.c rfl .n) (.c .h .n) (DC _ _ _ (by first | assumption | omega)) (fun v1 B hv=>?_)
 obtain⟨rfl,rfl⟩:=hv
 refine Gn (.t2 0 1) (Gs (Gm rfl (Gm rfl (Gt (BV rfl) (Gt (Aj E6 rfl) (Gt (AG rfl IX .m0 Df.l1 rfl rfl) (Gm rfl ?_)))))))
 refine Tk rfl Tryz.underlying105 WB aA rfl (by decide) (by decide) rfl rfl rfl (fun b1=>?_)
 refine OU rfl Tryz.underlying105 WB aA rfl eO (by decide) (by decide) rfl rfl (fun w hS=>Src.D8 Tryz.underlying105 ((Kn.own .m0) w hS)) (by intro v hv;simp at hv;subst hv;rfl) (by dsimp only;omega) (fun _=>(.t (.t .h))) (fun h2 h2l h2z=>?_)
 have h2z:=h2z hz;dsimp only at h2l
 refine Gt (BV rfl) (Gt (Aj E6 rfl) ?_)
 refine AU (AK Df.l1 rfl rfl rfl Ub rfl (.t .h)) ?_
 refine Gn (.nil _) (Gs (Ga rfl (AQ (AA (Ac ?_)))))
 refine AZ rfl (.tmp rfl .n) ?_
 intro w1 hS
 have hS:=(hS.perm (Ay.perm (.c (.t .h) (.c (.t .h) .n)))).A4
 exact⟨_,⟨_,_,rfl, .inr rfl,by assumption,by simp;omega,by rw [List.flatMap_append];rfl⟩,hS⟩
theorem BO (b:Nat)(p:Option Addr)(h:Hd)(s:Au)(hp:p=none∨p=some ⟨b,0,none⟩)(hz:h.Z)(hl:h.len=s.length)(t:Au)(hb:s.length+t.length < 140737488355000):Jk Tryz.prog 51 #[.pointer (some ⟨b,0,none⟩),BT t] [Ad.box b 107 (Df.enc ⟨p,h⟩),Ad.own h 5 1 (s.flatMap Db)] (fun v B=>∃ p' h',v = .tuple #[.int .i64 t.length, .nilIface]∧(p'=none∨p'=some ⟨b,0,none⟩)∧h'.Z∧h'.len=(s++t).length∧B = [Ad.box b 107 (Df.enc ⟨p',h'⟩),Ad.own h' 5 1 ((s++t).flatMap Db)]):=by
 intro w hS0
 refine Am _ _ Tryz.func51 rfl rfl rfl (hS0) ?_
 refine Gs (Ga rfl (Ga rfl (Gn (.t2 0 1) (Gs (Gm rfl ?_)))))
 refine Ah rfl Z5 (.c rfl .n) (.c .h .n) (DC _ _ _ (by first | assumption | omega)) (fun v1 B hv=>?_)
 obtain⟨rfl,rfl⟩:=hv
 refine Gn (.t2 0 1) (Gs (Gm rfl (Gm rfl (Gt (BV rfl) (Gt (Aj E6 rfl) (Gt (AG rfl IX .m0 Df.l1 rfl rfl) (Gm rfl ?_)))))))
 refine Ch WT rfl Tryz.underlying105 WB aA rfl eO (by decide) (by decide) rfl rfl (fun _ _=>Src.str Tryz.underlying9) (by dsimp only;omega) (fun _=>(.t .h)) (fun h2 h2l h2z=>?_)
 have h2z:=h2z hz;dsimp only at h2l
 refine Gt (BV rfl) (Gt (Aj E6 rfl) ?_)
 refine AU (AK Df.l1 rfl rfl rfl Ub rfl .h) ?_
 refine Gn (.t1 1) (Gs (Gm rfl (Gt (BL rfl Tryz.underlying9 rfl) (Ga rfl (Ga rfl (Gn (.t2 4 5) (Ac ?_)))))))
 refine AZ rfl (.tmp rfl (.tmp rfl .n)) ?_
 intro w1 hS
 have hS:=(hS.perm (Ay.perm (.c .h (.c .h .n)))).A4
 exact⟨_,⟨_,_,rfl, .inr rfl,by assumption,by simp;omega,by rw [List.flatMap_append]⟩,hS⟩
def Qw:Go.Shelf.Ren:=⟨fun | 171=>53 | 243=>72 | 246=>86 | 283=>108 | 284=>109 | 285=>110 | 286=>111 | 129=>142 | 317=>141 | 318=>143 | 319=>144 | 320=>145 | 337=>162 | 338=>163 | n=>n,fun | 3=>3 | 9=>9 | 2=>2 | 4=>4 | 171=>172 | 0=>0 | 53=>173 | 37=>105 | 5=>5 | 173=>176 | 212=>205 | 51=>178 | 20=>20 | 213=>206 | 46=>140 | 232=>226 | 233=>227 | n=>n,fun | 17=>2 | 18=>3 | 19=>4 | n=>n⟩
theorem X2:LaysM.n171 Tryz.prog Qw where
  mixed:=by kernel_rfl
  f129:=Tryz.func142.trans (congrArg some (by kernel_rfl))
  f171:=Tryz.func53.trans (congrArg some (by kernel_rfl))
  f243:=Tryz.func72.trans (congrArg some (by kernel_rfl))
  f246:=Tryz.func86.trans (congrArg some (by kernel_rfl))
  f283:=Tryz.func108.trans (congrArg some (by kernel_rfl))
  f284:=Tryz.func109.trans (congrArg some (by kernel_rfl))
  f285:=Tryz.func110.trans (congrArg some (by kernel_rfl))
  f286:=Tryz.func111.trans (congrArg some (by kernel_rfl))
  f317:=Tryz.func141.trans (congrArg some (by kernel_rfl))
  f318:=Tryz.func143.trans (congrArg some (by kernel_rfl))
  f319:=Tryz.func144.trans (congrArg some (by kernel_rfl))
  f320:=Tryz.func145.trans (congrArg some (by kernel_rfl))
  f337:=Tryz.func162.trans (congrArg some (by kernel_rfl))
  f338:=Tryz.func163.trans (congrArg some (by kernel_rfl))
  t0:=Tryz.underlying0
  a0:=Tryz.isAgg0
  z0:=Tryz.sizeOf0
  v0:=Tryz.zeroValue0
  t2:=Tryz.underlying2
  a2:=Tryz.isAgg2
  z2:=Tryz.sizeOf2
  v2:=Tryz.zeroValue2
  t3:=Tryz.underlying3
  a3:=Tryz.isAgg3
  z3:=Tryz.sizeOf3
  v3:=Tryz.zeroValue3
  t4:=Tryz.underlying4
  a4:=Tryz.isAgg4
  z4:=Tryz.sizeOf4
  v4:=Tryz.zeroValue4
  t5:=Tryz.underlying5
  a5:=Tryz.isAgg5
  z5:=Tryz.sizeOf5
  v5:=Tryz.zeroValue5
  t9:=Tryz.underlying9
  a9:=Tryz.isAgg9
  z9:=Tryz.sizeOf9
  v9:=Tryz.zeroValue9
  t20:=Tryz.underlying20
  a20:=Tryz.isAgg20
  z20:=Tryz.sizeOf20
  v20:=Tryz.zeroValue20
  t37:=Tryz.underlying105
  a37:=Tryz.isAgg105
  z37:=Tryz.sizeOf105
  v37:=Tryz.zeroValue105
  t46:=Tryz.underlying140
  a46:=Tryz.isAgg140
  z46:=Tryz.sizeOf140
  v46:=Tryz.zeroValue140
  t51:=Tryz.underlying178
  a51:=Tryz.isAgg178
  z51:=Tryz.sizeOf178
  v51:=Tryz.zeroValue178
  t53:=Tryz.underlying173
  a53:=Tryz.isAgg173
  z53:=Tryz.sizeOf173
  v53:=Tryz.zeroValue173
  t171:=Tryz.underlying172
  a171:=Tryz.isAgg172
  z171:=Tryz.sizeOf172
  v171:=Tryz.zeroValue172
  t173:=Tryz.underlying176
  a173:=Tryz.isAgg176
  z173:=Tryz.sizeOf176
  v173:=Tryz.zeroValue176
  t212:=Tryz.underlying205
  a212:=Tryz.isAgg205
  z212:=Tryz.sizeOf205
  v212:=Tryz.zeroValue205
  t213:=Tryz.underlying206
  a213:=Tryz.isAgg206
  z213:=Tryz.sizeOf206
  t232:=Tryz.underlying226
  a232:=Tryz.isAgg226
  z232:=Tryz.sizeOf226
  v232:=Tryz.zeroValue226
  t233:=Tryz.underlying227
  a233:=Tryz.isAgg227
  z233:=Tryz.sizeOf227
  v233:=Tryz.zeroValue227
  g17:=by kernel_rfl
  g18:=by kernel_rfl
  g19:=by kernel_rfl
  i0:=by kernel_rfl
  i2:=by kernel_rfl
  i3:=by kernel_rfl
  i4:=by kernel_rfl
  i5:=by kernel_rfl
  i9:=by kernel_rfl
  i20:=by kernel_rfl
  i37:=by kernel_rfl
  i46:=by kernel_rfl
  i51:=by kernel_rfl
  i53:=by kernel_rfl
  i171:=by kernel_rfl
  i173:=by kernel_rfl
  i212:=by kernel_rfl
  i232:=by kernel_rfl
  i233:=by kernel_rfl
  m17:=by kernel_rfl
  m18:=by kernel_rfl
  m19:=by kernel_rfl
theorem L4 (n:Int)(h0:-9223372036854775808≤n)(hy:n≤9223372036854775807)(w:World)(gl0:GV 2 Fy w):En Tryz.prog 53 #[.int .i64 n] w fun v w'=>v=BT (Lib.itoa n)∧B9 w w':=
  En.Yg (Any.strconv_Itoa X2 n h0 hy w (Tz (by kernel_rfl) gl0))
theorem Cw (b:Nat)(p:Option Addr)(h:Hd)(s:Au)(hz:h.Z)(hl:h.len=s.length)(hb:s.length < 140737488355000):Jk Tryz.prog 54 #[.pointer (some ⟨b,0,none⟩)] [Ad.box b 107 (Df.enc ⟨p,h⟩),Ad.own h 5 1 (s.flatMap Db)] (fun v B=>v=BT s∧B = [Ad.box b 107 (Df.enc ⟨p,h⟩)]):=by
 intro w hS0
 refine Am _ _ Tryz.func54 rfl rfl rfl (hS0) ?_
 refine Gs (Ga rfl (Gn (.t1 0) (Aq ?_)))
 refine BE (N:=12) [0,1,3,7,15,0,32,96,224,480,1023,2047] mix (by kernel_rfl) rfl ?_
 refine Pf 0 rfl (AD rfl) (Pf 1 rfl (BV rfl) (Pf 2 rfl (Aj E6 rfl) (Pf 3 rfl (AG rfl IX .m0 Df.l1 rfl rfl) ?_)))
 refine Pf 4 rfl (RY rfl (by assumption)) ?_
 refine Pf 5 rfl (AD rfl) (Pf 6 rfl (BV rfl) (Pf 7 rfl (Aj E6 rfl) (Pf 8 rfl (AG rfl IX .m0 Df.l1 rfl rfl) (Pf 9 rfl (Av rfl Tryz.underlying105 rfl) ?_))))
 refine Af 10 rfl (by kernel_rfl) ?_
 refine NL rfl Tryz.underlying134 ed rfl rfl (by assumption) (by omega) (.t .h) ?_
 refine Bf rfl ⟨?_,?_⟩
 · exact(Pk (Pk (Pk (Pk (Pk (Pk (Pk (Pk (Pk (Pk Ar))))))))))
 refine Pf 11 rfl (A2 rfl) ?_
 refine A1 (by kernel_rfl) ?_
 refine AB (.t1 2) ?_
 refine AA (Ac ?_)
 refine AZ rfl (.tmp rfl .n) ?_
 intro w1 hS
 have hS:=(hS.perm (Ay.perm (.c .h .n))).A4
 exact⟨_,⟨rfl,rfl⟩,hS⟩
theorem NA (e:Ing.Event)(b:Int)(hs:(decide (b < 0) || decide (6≤b) || decide (AI.SZ (e.Hw.at b) 1=0))=false→AI.Small e)(w:World)(gl0:GV 2 Fy w)(gl1:GV 0 AI.DP w):En Tryz.prog 23 #[.agg e.enc.toArray, .int .i64 b] w fun v w'=>v = .tuple #[BT (AI.tell e b).1, .bool (AI.tell e b).2]∧B9 w w':=by
 refine Am [] [] Tryz.func23 rfl rfl rfl (St.start w []) ?_
 refine Gs ?_
 refine B0 rfl rfl rfl (fun b1=>?_)
 refine Ga rfl (Ga rfl (Gn (.t2 1 2) (CD (Gm rfl (Gt (BA rfl rfl) (Gm rfl (Bg 17 rfl rfl (fun q=>AD rfl) ?_)))))))
 refine Bg 17 rfl rfl (fun q=>CK (cF rfl q) rfl) ?_
 refine Gt (BU rfl rfl (fun h=>by rw [h];rfl)) ?_
 refine Gm rfl (Bg 21 rfl rfl (fun q=>AD rfl) (Bg 21 rfl rfl (fun q=>Aj NY rfl) ?_))
 refine Bg 21 rfl rfl (fun q=>by have q1:=q;(try simp at q1);exact AN Rh (cF rfl q) (cF rfl q) (by first | omega | (simp only [List.length_cons,List.length_nil];omega)) (by first | omega | (simp only [List.length_cons,List.length_nil];omega))) ?_
 refine Bg 21 rfl rfl (fun q=>by have q1:=q;(try simp at q1);exact AG (cF rfl q) A5 .m0 (Ing.Event.l10.comp (AS.arr (n:=6) B1 (by first | omega | (simp only [List.length_cons,List.length_nil];omega)) (by first | omega | (simp only [List.length_cons,List.length_nil];omega)))) rfl rfl) ?_
 refine Bg 21 rfl rfl (fun q=>Qd (cF rfl q) rfl (show _=AI.SZ _ _ from rfl)) (Bg 21 rfl rfl (fun q=>Ak (cF rfl q) rfl) ?_)
 refine Gt (BU rfl rfl (fun h=>by rw [h];rfl)) ?_
 refine Gn (.t3 1 2 28) ?_
 refine Gc (fun c1=>?_) (fun c1=>?_)
 ·
  refine Gs (Ga rfl (Ga rfl (Gn (.t2 4 5) (Ac (AE ?_)))))
  refine AZ rfl (.tmp rfl (.tmp rfl .n)) ?_
  intro w1 hS;refine⟨?_,hS.Al⟩;rw [show AI.tell e b=_ from BF c1];rfl
 have c1p:=kz c1
 have hs:=hs c1
 have hr:0≤b∧b < 6:=by simp at c1;omega
 have htl:=AI.O8 e b
 have h1l:=AI.P1 hs b
 have h2l:=AI.PI hs b
 have h3l:=hs.Bw
 have h4l:=hs.text
 have h5l:=AI.JF e.dir
 have h6l:=Lib.itoa_length_le e.n hs.n0 hs.n1
 refine Aa ?_
 refine AB (.t2 1 2) ?_
 refine AA (Gs (Gt (Aj S5 rfl) (Gt (AG rfl A5 .m0 Ing.Event.l0 rfl rfl) ?_)))
 refine BD rfl dF (.c rfl .n) (fun w hS=>NB _ w) ?_
 refine Gm rfl (Gt (AL rfl rfl) (Gt (AL rfl rfl) (Ga rfl (Ga rfl (Gn (.t4 1 2 6 7) (Gs (Gm rfl ?_)))))))
 refine Ga rfl (Gn (.t4 1 2 6 8) (CD (Gm rfl (Gt (Aj Qz rfl) (Gt (AG rfl A5 .m0 Ing.Event.l2 rfl rfl) (Gt (Ak rfl rfl) (Gn (.t5 1 2 6 8 39) ?_)))))))
 refine Zp (BT) (s:=(AI.ES e b)) rfl rfl rfl rfl rfl rfl rfl ?_
 refine AB (.t3 1 2 8) ?_
 refine AA (CD (Gm rfl (Gt (Bu rfl rfl) (Gn (.t4 1 2 8 42) ?_))))
 refine Gc (fun c2=>?_) (fun c2=>?_)
 ·
  refine Gs (Ga rfl (Ga rfl (Gn (.t2 4 5) (Ac (AE ?_)))))
  refine AZ rfl (.tmp rfl (.tmp rfl .n)) ?_
  intro w1 hS;refine⟨?_,hS.Al⟩;rw [show AI.tell e b=_ from(AX c1).trans (BF c2)];rfl
 have c2p:=kz c2
 refine Aa ?_
 refine AB (.t3 1 2 8) ?_
 refine AA (Aq ?_)
 refine BE (N:=6) [0,1,0,4,3,31] mix (by kernel_rfl) rfl ?_
 refine Pf 0 rfl (Aj Wo rfl) (Pf 1 rfl (AG rfl CM .m0 Ing.Event.l6 rfl rfl) (Pf 2 rfl (Aj XG rfl) (Pf 3 rfl (AG rfl CM .m0 Ing.Event.l7 rfl rfl) (Pf 4 rfl (A2 rfl) (Pf 5 rfl (A2 rfl) ?_)))))
 refine A1 (by kernel_rfl) ?_
 refine AB (.t5 1 2 8 9 10) ?_
 refine AA (CD (Gm rfl (Gt (Aj NY rfl) ?_)))
 refine Gt (AN Rh rfl rfl (by first | omega | (simp only [List.length_cons,List.length_nil];omega)) (by first | omega | (simp only [List.length_cons,List.length_nil];omega))) ?_
 refine Gt (AG rfl A5 .m0 (Ing.Event.l10.comp (AS.arr (n:=6) B1 (by first | omega | (simp only [List.length_cons,List.length_nil];omega)) (by first | omega | (simp only [List.length_cons,List.length_nil];omega)))) rfl rfl) ?_
 refine Gt (Qd rfl rfl (show _=AI.SZ _ _ from rfl)) (Gt (CN rfl rfl) (Gn (.t6 1 2 8 9 10 52) ?_))
 refine RU (BT) (s:=(AI.I6 e b)) rfl rfl rfl rfl rfl ?_
 refine AB (.t5 1 2 8 9 10) ?_
 refine AA (CD (Gm rfl (Gt (Aj NY rfl) ?_)))
 refine Gt (AN Rh rfl rfl (by first | omega | (simp only [List.length_cons,List.length_nil];omega)) (by first | omega | (simp only [List.length_cons,List.length_nil];omega))) ?_
 refine Gt (AG rfl A5 .m0 (Ing.Event.l10.comp (AS.arr (n:=6) B1 (by first | omega | (simp only [List.length_cons,List.length_nil];omega)) (by first | omega | (simp only [List.length_cons,List.length_nil];omega)))) rfl rfl) ?_
 refine Gt (Qd rfl rfl (show _=AI.SZ _ _ from rfl)) (Gt (CN rfl rfl) (Gn (.t6 1 2 8 9 10 58) ?_))
 refine RU (BT) (s:=AI.Xr e b) rfl rfl rfl rfl rfl ?_
 refine AB (.t5 1 2 8 9 10) ?_
 refine AA (CD (Gm rfl (Gt (Aj G6 rfl) (Gt (AG rfl A5 .m0 Ing.Event.l3 rfl rfl) (Gt (Ak rfl rfl) (Gn (.t5 2 8 9 10 62) ?_))))))
 refine RU (BT) (s:=(AI.GN e b)) rfl rfl rfl rfl rfl ?_
 refine AB (.t4 2 8 9 10) ?_
 refine AA (Gs ?_)
 refine BG rfl Um rfl (fun b2=>?_)
 refine Dg Db 5 1 ?_
 refine AQ (AA (CD (Gm rfl (Gt (BL rfl Tryz.underlying9 rfl) (Gm rfl (Gn (.t7 2 8 9 10 11 64 65) (Ag ?_)))))))
 refine Bo (.t7 65 2 8 9 10 11 64) ?_
 refine Bc (.t .h) ?_
 refine Bc (.t .h) ?_
 refine Hj (fun(k:Int) (x:Au) (p:Option Addr) (h:Hd)=>0≤k∧k≤((AI.ES e b).length:Int)∧x=AI.told e (AI.I6 e b) (AI.GN e b) (AI.ES e b) k.toNat∧(p=none∨p=some ⟨b2,0,none⟩)∧h.Z∧h.len=x.length) (fun(k:Int) (x:Au) (p:Option Addr) (h:Hd)=>(((AI.ES e b).length:Int) - k).toNat) (fun(k:Int) (x:Au) (p:Option Addr) (h:Hd)=> [(65, .int .i64 k)]) (fun(k:Int) (x:Au) (p:Option Addr) (h:Hd)=> [Ad.own h 5 1 (x.flatMap Db),Ad.box b2 107 (Df.enc ⟨p,h⟩)]) (0) ([]) (none) (⟨none,0,0⟩) ?_ rfl rfl (fun k x p h hI1=>?_)
 · exact⟨by omega,by omega,rfl, .inl rfl,Hd.UU,rfl⟩
 obtain⟨hI11,hI12,hI13,hp,hz,hl⟩:=hI1;have hxl:=AI.Ni hs h1l h2l (AI.ES e b) k.toNat;rw [← hI13] at hxl;have hxm:k.toNat * 2000000≤60000000:=by omega
 refine Gs (Gt (BA rfl rfl) (AQ (AA (Aq ?_))))
 refine Gc (fun c3=>?_) (fun c3=>?_)
 ·
  have c3p:=kz c3
  refine Aa ?_
  refine AB (.t7 2 8 9 10 11 64 65) ?_
  refine AA (Aq (Ag (Gs (Gm rfl (Ga rfl (Gn (.t8 2 8 9 10 11 12 64 65) (Gs ?_)))))))
  refine Gm rfl (Gm rfl ?_)
  refine Gt (Bq Tryz.underlying9 rfl rfl (by first | omega | (simp only [List.length_cons,List.length_nil];omega)) (by first | omega | (simp only [List.length_cons,List.length_nil];omega))) ?_
  refine Ga rfl (Gn (.t9 2 8 9 10 11 12 13 64 65) (Gs (Gm rfl (Gt (Ak rfl rfl) (Gm rfl (Bg 73 rfl rfl (fun q=>AD rfl) (Bg 73 rfl rfl (fun q=>AD rfl) ?_)))))))
  refine Bg 73 rfl rfl (fun q=>by have q1:=q;(try simp at q1);exact FX (cF rfl q) rfl (IntWalk.i64_in _ (by first | omega | (simp only [List.length_cons,List.length_nil];omega)))) ?_
  refine Bg 73 rfl rfl (fun q=>by have q1:=q;(try simp at q1);exact Bq Tryz.underlying9 (cF rfl q) (cF rfl q) (by first | omega | (simp only [List.length_cons,List.length_nil];omega)) (by first | omega | (simp only [List.length_cons,List.length_nil];omega))) ?_
  refine Bg 73 rfl rfl (fun q=>Ak (cF rfl q) rfl) ?_
  refine Gt (BU rfl rfl (fun h=>by rw [h];rfl)) ?_
  refine Gm rfl (Bb 80 rfl rfl (fun q=>AD rfl) ?_)
  refine Bb 80 rfl rfl (fun q=>by have q1:=q;(try simp at q1);exact Ax (BX rfl q) rfl (IntWalk.i64_in _ (by first | omega | (simp only [List.length_cons,List.length_nil];omega)))) ?_
  refine Bb 80 rfl rfl (fun q=>AD rfl) (Bb 80 rfl rfl (fun q=>BL rfl Tryz.underlying9 (BX rfl q)) (Bb 80 rfl rfl (fun q=>Ak (BX rfl q) (BX rfl q)) (Bb 80 rfl rfl (fun q=>AD (BX rfl q)) ?_)))
  refine C3 (t:=86) rfl rfl rfl (fun qc q=>AD rfl) ?_
  refine C3 (t:=86) rfl rfl rfl (fun qc q=>AD rfl) ?_
  refine C3 (t:=86) rfl rfl rfl (fun qc q=>by have q1:=q;have qc1:=qc;(try simp at q1 qc1);exact Ax (BX rfl (by rw [qc,q];rfl)) rfl (IntWalk.i64_in _ (by first | omega | (simp only [List.length_cons,List.length_nil];omega)))) ?_
  refine C3 (t:=86) rfl rfl rfl (fun qc q=>by have q1:=q;have qc1:=qc;(try simp at q1 qc1);exact Bq Tryz.underlying9 (BX rfl (by rw [qc,q];rfl)) (BX rfl (by rw [qc,q];rfl)) (by first | omega | (simp only [List.length_cons,List.length_nil];omega)) (by first | omega | (simp only [List.length_cons,List.length_nil];omega))) ?_
  refine C3 (t:=86) rfl rfl rfl (fun qc q=>Ak (BX rfl (by rw [qc,q];rfl)) rfl) ?_
  refine Bb 80 rfl rfl (fun q=>BU (BX rfl q) rfl (fun h=>by rw [q,h];rfl)) ?_
  refine Bb 80 rfl rfl (fun q=>AD (BX rfl q)) ?_
  refine C3 (t:=93) rfl rfl rfl (fun qc q=>AD rfl) ?_
  refine C3 (t:=93) rfl rfl rfl (fun qc q=>AD rfl) ?_
  refine C3 (t:=93) rfl rfl rfl (fun qc q=>by have q1:=q;have qc1:=qc;(try simp at q1 qc1);exact Ax (BX rfl (by rw [qc,q];rfl)) rfl (IntWalk.i64_in _ (by first | omega | (simp only [List.length_cons,List.length_nil];omega)))) ?_
  refine C3 (t:=93) rfl rfl rfl (fun qc q=>by have q1:=q;have qc1:=qc;(try simp at q1 qc1);exact Bq Tryz.underlying9 (BX rfl (by rw [qc,q];rfl)) (BX rfl (by rw [qc,q];rfl)) (by first | omega | (simp only [List.length_cons,List.length_nil];omega)) (by first | omega | (simp only [List.length_cons,List.length_nil];omega))) ?_
  refine C3 (t:=93) rfl rfl rfl (fun qc q=>Ak (BX rfl (by rw [qc,q];rfl)) rfl) ?_
  refine Bb 80 rfl rfl (fun q=>BU (BX rfl q) rfl (fun h=>by rw [q,h];rfl)) ?_
  refine Gt (BI rfl rfl (fun h=>h)) (Ga rfl (Gn (.t9 2 8 9 10 11 13 14 64 65) (Ag (Gs (Gm rfl (Gt (BR rfl) (Ga rfl ?_)))))))
  refine Gn (.t9 2 8 9 10 11 13 64 65 103) ?_
  refine Gc (fun c4=>?_) (fun c4=>?_)
  ·
   have c4p:=kz c4
   refine AJ (Gm rfl ?_)
   refine Ah rfl Yt (.c rfl (.c rfl .n)) (.c (.t .h) (.c .h .n)) (Cl _ _ _ _ (by assumption) (by assumption) (by assumption) _ (by omega)) (fun v1 B hv=>?_)
   obtain⟨y2,y3,rfl,y4,y5,y6,rfl⟩:=hv
   refine AQ (AB (.t7 2 8 9 10 11 64 65) ?_)
   refine AV (AV (AA (AJ ?_)))
   refine Gt (Ax rfl rfl (IntWalk.i64_in _ (by first | omega | (simp only [List.length_cons,List.length_nil];omega)))) ?_
   refine Gm rfl ?_
   refine AQ (AB (.t7 2 8 9 10 11 64 65) ?_)
   refine CJ (.c (.t .h) (.c .h (.c .h .n))) ?_
   refine Cf ?_
   refine C0 (k+1) _ _ _ ?_ ?_ (.t7 65 2 8 9 10 11 64) (.refl _)
   · exact⟨by omega,by omega,by rw [AI.Fo hI11,← hI13,show AI.piece e (AI.I6 e b) (AI.GN e b) (AI.ES e b) k=_ from(BF c4)],by assumption,by assumption,by assumption⟩
   · omega
  have c4p:=kz c4
  refine Gs (Gm rfl (Gt (Ak rfl rfl) (Ga rfl (Gn (.t9 2 8 9 10 11 13 64 65 108) ?_))))
  refine Gc (fun c5=>?_) (fun c5=>?_)
  ·
   have c5p:=kz c5
   refine AJ (Gm rfl ?_)
   refine Ah rfl PY (.c rfl (.c rfl .n)) (.c (.t .h) (.c .h .n)) (BO _ _ _ _ (by assumption) (by assumption) (by assumption) _ (by omega)) (fun v7 B hv=>?_)
   obtain⟨y8,y9,rfl,y10,y11,y12,rfl⟩:=hv
   refine AQ (AB (.t7 2 8 9 10 11 64 65) ?_)
   refine AV (AV (AA (AJ ?_)))
   refine Gt (Ax rfl rfl (IntWalk.i64_in _ (by first | omega | (simp only [List.length_cons,List.length_nil];omega)))) ?_
   refine Gm rfl ?_
   refine AQ (AB (.t7 2 8 9 10 11 64 65) ?_)
   refine CJ (.c (.t .h) (.c .h (.c .h .n))) ?_
   refine Cf ?_
   refine C0 (k+1) _ _ _ ?_ ?_ (.t7 65 2 8 9 10 11 64) (.refl _)
   · exact⟨by omega,by omega,by rw [AI.Fo hI11,← hI13,show AI.piece e (AI.I6 e b) (AI.GN e b) (AI.ES e b) k=_ from((AX c4).trans (BF c5))],by assumption,by assumption,by assumption⟩
   · omega
  have c5p:=kz c5
  refine Gs (Gm rfl (Gt (Ak rfl rfl) (Ga rfl (Gn (.t9 2 8 9 10 11 13 64 65 113) ?_))))
  refine Gc (fun c6=>?_) (fun c6=>?_)
  ·
   have c6p:=kz c6
   refine AJ (Gm rfl ?_)
   refine Ah rfl PY (.c rfl (.c rfl .n)) (.c (.t .h) (.c .h .n)) (BO _ _ _ _ (by assumption) (by assumption) (by assumption) _ (by omega)) (fun v13 B hv=>?_)
   obtain⟨y14,y15,rfl,y16,y17,y18,rfl⟩:=hv
   refine AQ (AB (.t7 2 8 9 10 11 64 65) ?_)
   refine AV (AV (AA (AJ ?_)))
   refine Gt (Ax rfl rfl (IntWalk.i64_in _ (by first | omega | (simp only [List.length_cons,List.length_nil];omega)))) ?_
   refine Gm rfl ?_
   refine AQ (AB (.t7 2 8 9 10 11 64 65) ?_)
   refine CJ (.c (.t .h) (.c .h (.c .h .n))) ?_
   refine Cf ?_
   refine C0 (k+1) _ _ _ ?_ ?_ (.t7 65 2 8 9 10 11 64) (.refl _)
   · exact⟨by omega,by omega,by rw [AI.Fo hI11,← hI13,show AI.piece e (AI.I6 e b) (AI.GN e b) (AI.ES e b) k=_ from((AX c4).trans ((AX c5).trans (BF c6)))],by assumption,by assumption,by assumption⟩
   · omega
  have c6p:=kz c6
  refine Gs (Gm rfl (Gt (Ak rfl rfl) (Ga rfl (Gn (.t9 2 8 9 10 11 13 64 65 118) ?_))))
  refine Gc (fun c7=>?_) (fun c7=>?_)
  ·
   have c7p:=kz c7
   refine AJ (Gt (Aj aS rfl) (Gt (AG rfl CM .m2 Ing.Event.l8 rfl rfl) ?_))
   refine Ah rfl PY (.c rfl (.c rfl .n)) (.c (.t .h) (.c .h .n)) (BO _ _ _ _ (by assumption) (by assumption) (by assumption) _ (by omega)) (fun v19 B hv=>?_)
   obtain⟨y20,y21,rfl,y22,y23,y24,rfl⟩:=hv
   refine AQ (AB (.t7 2 8 9 10 11 64 65) ?_)
   refine AV (AV (AA (AJ ?_)))
   refine Gt (Ax rfl rfl (IntWalk.i64_in _ (by first | omega | (simp only [List.length_cons,List.length_nil];omega)))) ?_
   refine Gm rfl ?_
   refine AQ (AB (.t7 2 8 9 10 11 64 65) ?_)
   refine CJ (.c (.t .h) (.c .h (.c .h .n))) ?_
   refine Cf ?_
   refine C0 (k+1) _ _ _ ?_ ?_ (.t7 65 2 8 9 10 11 64) (.refl _)
   · exact⟨by omega,by omega,by rw [AI.Fo hI11,← hI13,show AI.piece e (AI.I6 e b) (AI.GN e b) (AI.ES e b) k=_ from((AX c4).trans ((AX c5).trans ((AX c6).trans (BF c7))))],by assumption,by assumption,by assumption⟩
   · omega
  have c7p:=kz c7
  refine Gs (Gm rfl (Gt (Ak rfl rfl) (Ga rfl (Gn (.t9 2 8 9 10 11 13 64 65 124) ?_))))
  refine Gc (fun c8=>?_) (fun c8=>?_)
  ·
   have c8p:=kz c8
   refine AJ (Gt (Aj aZ rfl) (Gt (AG rfl A5 .m2 Ing.Event.l4 rfl rfl) ?_))
   refine BD rfl bZ (.c rfl .n) (fun w hS=>IF _ w (gl1.st hS)) ?_
   refine Ah rfl PY (.c rfl (.c rfl .n)) (.c (.t .h) (.c .h .n)) (BO _ _ _ _ (by assumption) (by assumption) (by assumption) _ (by omega)) (fun v25 B hv=>?_)
   obtain⟨y26,y27,rfl,y28,y29,y30,rfl⟩:=hv
   refine AQ (AB (.t7 2 8 9 10 11 64 65) ?_)
   refine AV (AV (AA (AJ ?_)))
   refine Gt (Ax rfl rfl (IntWalk.i64_in _ (by first | omega | (simp only [List.length_cons,List.length_nil];omega)))) ?_
   refine Gm rfl ?_
   refine AQ (AB (.t7 2 8 9 10 11 64 65) ?_)
   refine CJ (.c (.t .h) (.c .h (.c .h .n))) ?_
   refine Cf ?_
   refine C0 (k+1) _ _ _ ?_ ?_ (.t7 65 2 8 9 10 11 64) (.refl _)
   · exact⟨by omega,by omega,by rw [AI.Fo hI11,← hI13,show AI.piece e (AI.I6 e b) (AI.GN e b) (AI.ES e b) k=_ from((AX c4).trans ((AX c5).trans ((AX c6).trans ((AX c7).trans (BF c8)))))],by assumption,by assumption,by assumption⟩
   · omega
  have c8p:=kz c8
  refine Gs (Gm rfl (Gt (Ak rfl rfl) (Ga rfl (Gn (.t9 2 8 9 10 11 13 64 65 131) ?_))))
  refine Gc (fun c9=>?_) (fun c9=>?_)
  ·
   have c9p:=kz c9
   refine AJ (Gt (Aj Zq rfl) (Gt (AG rfl CM .m2 Ing.Event.l9 rfl rfl) ?_))
   refine Ah rfl PY (.c rfl (.c rfl .n)) (.c (.t .h) (.c .h .n)) (BO _ _ _ _ (by assumption) (by assumption) (by assumption) _ (by omega)) (fun v31 B hv=>?_)
   obtain⟨y32,y33,rfl,y34,y35,y36,rfl⟩:=hv
   refine AQ (AB (.t7 2 8 9 10 11 64 65) ?_)
   refine AV (AV (AA (AJ ?_)))
   refine Gt (Ax rfl rfl (IntWalk.i64_in _ (by first | omega | (simp only [List.length_cons,List.length_nil];omega)))) ?_
   refine Gm rfl ?_
   refine AQ (AB (.t7 2 8 9 10 11 64 65) ?_)
   refine CJ (.c (.t .h) (.c .h (.c .h .n))) ?_
   refine Cf ?_
   refine C0 (k+1) _ _ _ ?_ ?_ (.t7 65 2 8 9 10 11 64) (.refl _)
   · exact⟨by omega,by omega,by rw [AI.Fo hI11,← hI13,show AI.piece e (AI.I6 e b) (AI.GN e b) (AI.ES e b) k=_ from((AX c4).trans ((AX c5).trans ((AX c6).trans ((AX c7).trans ((AX c8).trans (BF c9))))))],by assumption,by assumption,by assumption⟩
   · omega
  have c9p:=kz c9
  refine Gs (Gm rfl (Gt (Ak rfl rfl) (Ga rfl (Gn (.t9 2 8 9 10 11 13 64 65 137) ?_))))
  refine Gc (fun c10=>?_) (fun c10=>?_)
  ·
   have c10p:=kz c10
   refine AJ (Gt (Aj Z9 rfl) (Gt (AG rfl A5 .m2 Ing.Event.l5 rfl rfl) ?_))
   refine BD rfl dw (.c rfl .n) (fun w hS=>L4 _ hs.n0 hs.n1 w (gl0.st hS)) ?_
   refine Ah rfl PY (.c rfl (.c rfl .n)) (.c (.t .h) (.c .h .n)) (BO _ _ _ _ (by assumption) (by assumption) (by assumption) _ (by omega)) (fun v37 B hv=>?_)
   obtain⟨y38,y39,rfl,y40,y41,y42,rfl⟩:=hv
   refine AQ (AB (.t7 2 8 9 10 11 64 65) ?_)
   refine AV (AV (AA (AJ ?_)))
   refine Gt (Ax rfl rfl (IntWalk.i64_in _ (by first | omega | (simp only [List.length_cons,List.length_nil];omega)))) ?_
   refine Gm rfl ?_
   refine AQ (AB (.t7 2 8 9 10 11 64 65) ?_)
   refine CJ (.c (.t .h) (.c .h (.c .h .n))) ?_
   refine Cf ?_
   refine C0 (k+1) _ _ _ ?_ ?_ (.t7 65 2 8 9 10 11 64) (.refl _)
   · exact⟨by omega,by omega,by rw [AI.Fo hI11,← hI13,show AI.piece e (AI.I6 e b) (AI.GN e b) (AI.ES e b) k=_ from((AX c4).trans ((AX c5).trans ((AX c6).trans ((AX c7).trans ((AX c8).trans ((AX c9).trans (BF c10)))))))],by assumption,by assumption,by assumption⟩
   · omega
  have c10p:=kz c10
  refine AJ (Gm rfl ?_)
  refine Ah rfl Yt (.c rfl (.c rfl .n)) (.c (.t .h) (.c .h .n)) (Cl _ _ _ _ (by assumption) (by assumption) (by assumption) _ (by omega)) (fun v43 B hv=>?_)
  obtain⟨y44,y45,rfl,y46,y47,y48,rfl⟩:=hv
  refine AQ (AB (.t7 2 8 9 10 11 64 65) ?_)
  refine AV (AV (AA (AJ ?_)))
  refine Gt (Ax rfl rfl (IntWalk.i64_in _ (by first | omega | (simp only [List.length_cons,List.length_nil];omega)))) ?_
  refine Gm rfl ?_
  refine AQ (AB (.t7 2 8 9 10 11 64 65) ?_)
  refine CJ (.c (.t .h) (.c .h (.c .h .n))) ?_
  refine Cf ?_
  refine C0 (k+1) _ _ _ ?_ ?_ (.t7 65 2 8 9 10 11 64) (.refl _)
  · exact⟨by omega,by omega,by rw [AI.Fo hI11,← hI13,show AI.piece e (AI.I6 e b) (AI.GN e b) (AI.ES e b) k=_ from((AX c4).trans ((AX c5).trans ((AX c6).trans ((AX c7).trans ((AX c8).trans ((AX c9).trans (AX c10)))))))],by assumption,by assumption,by assumption⟩
  · omega
 have c3p:=kz c3
 obtain rfl:k=((AI.ES e b).length:Int):=by omega
 refine Be (AW (AW (Ai ?_)))
 refine AB (.t1 11) ?_
 refine AA (Gs ?_)
 refine Ah rfl Yu (.c rfl .n) (.c (.t .h) (.c .h .n)) (Cw _ _ _ _ (by assumption) (by assumption) (by omega)) (fun v49 B hv=>?_)
 obtain⟨rfl,rfl⟩:=hv
 refine Ga rfl (Ga rfl (Gn (.t2 4 5) (Ac ?_)))
 refine AZ rfl (.tmp rfl (.tmp rfl .n)) ?_
 intro w1 hS;refine⟨?_,hS.Al⟩;rw [show AI.tell e b=_ from(AX c1).trans (AX c2),hI13];rfl
theorem G8 (p:Ap)(w:World):En Tryz.prog 44 #[.agg p.enc.toArray] w fun v w'=>v = .bool (Page.Bj p)∧B9 w w':=by
 refine Am [] [] Tryz.func44 rfl rfl rfl (St.start w []) ?_
 refine Gs ?_
 refine B0 rfl rfl rfl (fun b1=>?_)
 refine Ga rfl (Gn (.t1 1) (Gs (Gt (Aj G4 rfl) (Gt (AG rfl Eh .m0 Ap.l0 rfl rfl) (Gt (Av rfl Tryz.underlying52 rfl) (Gt (Ic rfl rfl) (Gm rfl ?_)))))))
 refine Bb 7 rfl rfl (fun q=>Aj IU rfl) (Bb 7 rfl rfl (fun q=>AG (BX rfl q) CM .m0 Ap.l3 rfl rfl) (Bb 7 rfl rfl (fun q=>BL rfl Tryz.underlying9 (BX rfl q)) (Bb 7 rfl rfl (fun q=>Ic (BX rfl q) rfl) (Gt (BI rfl rfl (fun h=>h)) (Gm rfl (Bb 13 rfl rfl (fun q=>Aj KK rfl) (Bb 13 rfl rfl (fun q=>AG (BX rfl q) A5 .m0 Ap.l1 rfl rfl) ?_)))))))
 refine Bb 13 rfl rfl (fun q=>CK (BX rfl q) rfl) (Gt (BI rfl rfl (fun h=>h)) (Gm rfl (Bb 18 rfl rfl (fun q=>Aj KK rfl) (Bb 18 rfl rfl (fun q=>AG (BX rfl q) A5 .m0 Ap.l1 rfl rfl) (Bb 18 rfl rfl (fun q=>Ic (BX rfl q) rfl) (Gt (BI rfl rfl (fun h=>h)) (Ga rfl ?_)))))))
 refine Gn (.t1 2) (Ac ?_)
 refine AZ rfl (.tmp rfl .n) ?_
 intro w1 hS;refine⟨congrArg Value.bool ?_,hS.Al⟩;rfl
theorem NH {t0:Nat}(p:Ap)(qs:List Au)(s:Au):Fa Tryz.prog 82 #[.agg p.enc.toArray,BT s] [] (fun w=>Rd w p.wait t0 1 (qs.flatMap A8)) (fun v B=>(Page.Bj p=false∧v = .tuple #[.agg p.enc.toArray, .int .i64 2]∧B = [])∨(Page.Bj p=true∧p.cut=true∧v = .tuple #[.agg p.enc.toArray, .int .i64 6]∧B = [])∨(Page.Bj p=true∧p.cut=false∧60≤qs.length∧v = .tuple #[.agg (Ap.enc ⟨p.wait,p.shown,p.Bv,p.ring,true⟩).toArray, .int .i64 0]∧B = [])∨(Page.Bj p=true∧p.cut=false∧qs.length < 60∧∃ h':Hd,v = .tuple #[.agg (Ap.enc ⟨h',p.shown,p.Bv,p.ring,p.cut⟩).toArray, .int .i64 0]∧h'.len=qs.length+1∧B = [Ad.own h' 9 1 ((qs ++ [s]).flatMap A8)])):=by
 intro w hS0 hH
 have r0:=hH
 have hl:=r0.MC De (by decide)
 refine Am _ _ Tryz.func82 rfl rfl rfl (hS0) ?_
 refine Gs ?_
 refine B0 rfl rfl rfl (fun b1=>?_)
 refine BG rfl Th rfl (fun b2=>?_)
 refine Ga rfl (Gn (.t3 1 2 4) (Aq (Ag (Gs (Gt (AY rfl Co .m1 (AS.id Ap.fl.len Ap.fl.one) rfl) ?_)))))
 refine BD rfl aP (.c rfl .n) (fun w hS=>G8 _ w) ?_
 refine Gt (BR rfl) (Ga rfl (Gn (.t4 1 2 4 6) ?_))
 refine Gc (fun c1=>?_) (fun c1=>?_)
 ·
  refine Gs (Gt (AY rfl Co .m1 (AS.id Ap.fl.len Ap.fl.one) rfl) ?_)
  refine AU (AK (AS.id Ap.fl.len Ap.fl.one) rfl rfl rfl FH rfl .h) ?_
  refine Ga rfl (Gn (.t2 4 5) (Ac (AT (AE ?_))))
  refine AZ rfl (.cell rfl .m0 (.inl ⟨(by rw [Ap.fl.len];exact Co),rfl⟩) (.tmp rfl .n)) ?_
  intro w1 hS
  have hS:=(hS.perm (Ay.perm .n)).A4
  exact⟨_, .inl ⟨by simpa using c1,rfl,rfl⟩,hS⟩
 have c1p:=kz c1
 have hgd:Page.Bj p=true:=by simpa using c1
 have hg:=(Page.Hl p).1 hgd
 refine Gs (Gt (Aj JT rfl) (Gt (AG rfl DO .m1 Ap.l4 rfl rfl) (Ga rfl (Gn (.t4 1 2 4 11) ?_))))
 refine Gc (fun c2=>?_) (fun c2=>?_)
 ·
  refine Gs (Gt (AY rfl Co .m1 (AS.id Ap.fl.len Ap.fl.one) rfl) ?_)
  refine AU (AK (AS.id Ap.fl.len Ap.fl.one) rfl rfl rfl FH rfl .h) ?_
  refine Ga rfl (Gn (.t2 4 5) (Ac (AT (AE ?_))))
  refine AZ rfl (.cell rfl .m0 (.inl ⟨(by rw [Ap.fl.len];exact Co),rfl⟩) (.tmp rfl .n)) ?_
  intro w1 hS
  have hS:=(hS.perm (Ay.perm .n)).A4
  exact⟨_, .inr (.inl ⟨hgd,c2,rfl,rfl⟩),hS⟩
 have c2p:=kz c2
 refine Gs (Gt (Aj G4 rfl) (Gt (AG rfl Eh .m1 Ap.l0 rfl rfl) (Gt (Av rfl Tryz.underlying52 rfl) (Gt (CK rfl rfl) (Ga rfl (Gn (.t4 1 2 4 15) ?_))))))
 refine Gc (fun c3=>?_) (fun c3=>?_)
 ·
  have c3p:=kz c3
  refine Gs (Gt (Aj JT rfl) ?_)
  refine AU (AK Ap.l4 rfl rfl rfl Km rfl (.t .h)) ?_
  refine Gn (.t2 2 4) (Gs (Gt (AY rfl Co .m1 (AS.id Ap.fl.len Ap.fl.one) rfl) ?_))
  refine AU (AK (AS.id Ap.fl.len Ap.fl.one) rfl rfl rfl FH rfl .h) ?_
  refine Ga rfl (Gn (.t2 4 5) (Ac (AT (AE ?_))))
  refine AZ rfl (.cell rfl .m0 (.inl ⟨(by rw [Ap.fl.len];exact Co),rfl⟩) (.tmp rfl .n)) ?_
  intro w1 hS
  have hS:=(hS.perm (Ay.perm .n)).A4
  exact⟨_, .inr (.inr (.inl ⟨hgd,by simpa using c2,by simp at c3;omega,rfl,rfl⟩)),hS⟩
 have c3p:=kz c3
 refine Aa ?_
 refine AB (.t3 1 2 4) ?_
 refine AV (AA (Gs (Gt (Aj G4 rfl) (Gt (AG rfl Eh .m1 Ap.l0 rfl rfl) ?_))))
 refine BJ rfl WM (.c rfl .n) .n (B2 _ _ (by first | assumption | omega)) (fun w hS=>(Kn.Hv r0) w hS) (fun v1 B hv=>?_)
 obtain⟨y2,rfl,y3,rfl⟩:=hv
 refine Gm rfl ?_
 refine F8 A8 De rfl Tryz.underlying52 Ez R3 rfl (by decide) (by decide) rfl rfl (fun b3=>?_)
 refine Ch De rfl Tryz.underlying52 Ez R3 rfl WW (by decide) (by decide) rfl rfl (fun w hS=>Src.D8 Tryz.underlying52 ((Kn.own .m0) w hS)) (by(try dsimp only);omega) (fun _=>(.t .h)) (fun h5 h5l h5z=>?_)
 refine Gt (Aj G4 rfl) ?_
 refine AU (AK Ap.l0 rfl rfl rfl MT rfl (.t (.t (.t .h)))) ?_
 refine Gn (.t2 2 4) (Gs (Gt (AY rfl Co .m3 (AS.id Ap.fl.len Ap.fl.one) rfl) ?_))
 refine AU (AK (AS.id Ap.fl.len Ap.fl.one) rfl rfl rfl FH rfl (.t (.t .h))) ?_
 refine Ga rfl (Gn (.t2 4 5) (Ac ?_))
 refine AZ rfl (.cell rfl .m2 (.inl ⟨(by rw [Ap.fl.len];exact Co),rfl⟩) (.tmp rfl .n)) ?_
 intro w1 hS
 have hS:=(hS.perm (Ay.perm (.c (.t .h) .n))).A4
 exact⟨_, .inr (.inr (.inr ⟨hgd,by simpa using c2,by simp at c3;omega,_,rfl,by(try dsimp only at *);(try simp only [List.length_cons,List.length_nil] at *);omega,rfl⟩)),hS⟩
theorem EU (b:Nat)(V:AM)(ls:Vector BK 4)(ev:List Ing.Event)(k:Int)(u:Au)(hk:0≤k∧k < 4)(ht:(ls.at k).told.length≤1000000):Jk Tryz.prog 64 #[.pointer (some ⟨b,0,none⟩), .pointer (some ⟨b,165+k.toNat * 22,none⟩),BT u] [Ad.box b 101 (AM.enc V),Ad.Da (CL 9 (AM.As V) ls),Ad.own (AM.last V) 56 16 ((ev).flatMap Ing.Event.enc)] (fun v B=>∃ V' ls' ev',v = .tuple #[]∧A7 V' ls' ev'=AH.tell (A7 V ls ev) k u∧B = [Ad.box b 101 (AM.enc V'),Ad.Da (CL 9 (AM.As V') ls'),Ad.own (AM.last V') 56 16 ((ev').flatMap Ing.Event.enc)]):=by
 intro w hS0
 refine Am _ _ Tryz.func64 rfl rfl rfl (hS0) ?_
 refine FG (k:=k) hk.1 hk.2 (fun sv sl hsv hlv hln=>?_)
 refine Bc (.t (.t (.t .h))) ?_
 refine Bc (.t (.t .h)) ?_
 refine YT (Lm:= [_,_]) (fun(o:Ap) (w0:Hd) (ws:List Au)=>Cq { sv with out:=o } ⟨sl.queue,ws,sl.told⟩=(Cq sv sl).line u∧o.wait=w0) (fun(o:Ap) (w0:Hd) (ws:List Au)=> []) (fun(o:Ap) (w0:Hd) (ws:List Au)=> [Ad.own w0 9 1 (ws.flatMap A8),Ad.box b 101 (J5 V k { sv with out:=o })]) (.t2 1 2) rfl ?_ (fun o w0 ws hC=>?_)
 ·
  refine AJ (Gm rfl (Gm rfl (Gt (BV rfl) (Gt (Aj Dy rfl) (Gt (AY rfl Co .m1 ((AS.BB V hk.1 hk.2).comp A3.l4) rfl) (Gm rfl ?_))))))
  refine BJ rfl eD (.c rfl (.c rfl .n)) .n (NH _ _ _) (fun w hS=>(Kn.own .m0) w hS) (fun v1 B hv=>?_)
  rcases hv with ⟨y2,rfl,rfl⟩ | ⟨y3,y4,rfl,rfl⟩ | ⟨y5,y6,y7,rfl,rfl⟩ | ⟨y8,y9,y10,y11,rfl,y12,rfl⟩
  ·
   refine Gm rfl (Gt (AL rfl rfl) (Gt (AL rfl rfl) (Gt (BV rfl) (Gt (Aj Dy rfl) ?_))))
   refine AU (AK ((AS.BB V hk.1 hk.2).comp A3.l4) rfl rfl rfl FH rfl (.t .h)) ?_
   refine AQ (AB (.t2 1 2) ?_)
   refine NX _ _ _ ?_ (.t2 1 2) (.refl _)
   · exact⟨(Wk hln.2.1 y2).symm,rfl⟩
  ·
   refine Gm rfl (Gt (AL rfl rfl) (Gt (AL rfl rfl) (Gt (BV rfl) (Gt (Aj Dy rfl) ?_))))
   refine AU (AK ((AS.BB V hk.1 hk.2).comp A3.l4) rfl rfl rfl FH rfl (.t .h)) ?_
   refine AQ (AB (.t2 1 2) ?_)
   refine NX _ _ _ ?_ (.t2 1 2) (.refl _)
   · exact⟨(XJ hln.2.1 y3 y4).symm,rfl⟩
  ·
   refine Gm rfl (Gt (AL rfl rfl) (Gt (AL rfl rfl) (Gt (BV rfl) (Gt (Aj Dy rfl) ?_))))
   refine AU (AK ((AS.BB V hk.1 hk.2).comp A3.l4) rfl rfl rfl FH rfl (.t .h)) ?_
   refine AQ (AB (.t2 1 2) ?_)
   refine NX _ _ _ ?_ (.t2 1 2) (.refl _)
   · exact⟨(VU hln.2.1 y5 y6 y7).symm,rfl⟩
  refine Gm rfl (Gt (AL rfl rfl) (Gt (AL rfl rfl) (Gt (BV rfl) (Gt (Aj Dy rfl) ?_))))
  refine AU (AK ((AS.BB V hk.1 hk.2).comp A3.l4) rfl rfl rfl FH rfl (.t (.t .h))) ?_
  refine AQ (AB (.t2 1 2) ?_)
  refine CJ (.c .h (.c (.t .h) (.c (.t .h) (.c (.t .h) (.c (.t .h) (.c (.t .h) .n)))))) ?_
  refine Cf ?_
  refine NX _ _ _ ?_ (.t2 1 2) (.refl _)
  · exact⟨(VR hln.2.1 y8 y9 y10 _).symm,rfl⟩
 obtain⟨hE1,hE2⟩:=hC
 have ht2:sl.told.length≤1000000:=by rw [← hlv];exact ht
 refine Gs (Gm rfl (Gt (BV rfl) (Gt (Aj Dy rfl) (Gt (Aj JT rfl) (Gt (AG rfl DO .m1 (((AS.BB V hk.1 hk.2).comp A3.l4).comp Ap.l4) rfl rfl) (Gt (BR rfl) (Gn (.t3 1 2 23) ?_)))))))
 refine Gc (fun c1=>?_) (fun c1=>?_)
 ·
  have c1p:=kz c1
  refine AJ (Gm rfl (Gm rfl (Gt (BV rfl) (Gt (Aj Qy rfl) (Gt (AG rfl Eh .m1 ((AS.BB V hk.1 hk.2).comp A3.l5) rfl rfl) (Gm rfl ?_))))))
  refine F8 A8 De rfl Tryz.underlying52 Ez R3 rfl (by decide) (by decide) rfl rfl (fun b1=>?_)
  refine Ch De rfl Tryz.underlying52 Ez R3 rfl WW (by decide) (by decide) rfl rfl (fun w hS=>Src.D8 Tryz.underlying52 ((Kn.own .m0) w hS)) (by(try dsimp only);omega) (fun _=>(.t (.t (.t (.t .h))))) (fun h14 h14l h14z=>?_)
  refine Gt (BV rfl) (Gt (Aj Qy rfl) ?_)
  refine AU (AK ((AS.BB V hk.1 hk.2).comp A3.l5) rfl rfl rfl MT rfl (.t (.t .h))) ?_
  refine AQ ?_
  refine Bn rfl .n ?_
  intro w1 hS
  have hS:=(hS.perm (Ay.perm (.c (.t (.t (.t .h))) (.c (.t .h) (.c (.t (.t .h)) (.c (.t .h) (.c (.t .h) (.c (.t .h) .n)))))))).A4
  have hS:=hS.close' hk.1 hk.2 (by rfl) (by exact hE2) (by rfl)
  refine⟨_,⟨V.BB k _,ls.put k ⟨_,_,_⟩,ev,rfl,?ga1,rfl⟩,hS⟩
  case ga1=>exact Es hk.1 hk.2 hsv hlv (f:=fun x=>x.tell u) (by show _=((Cq sv sl).line u).note u;rw [← hE1];exact(ai (l:=⟨sl.queue,ws,sl.told⟩) c1 _).symm)
 refine Aa ?_
 refine Bn rfl .n ?_
 intro w1 hS
 have hS:=(hS.perm (Ay.perm (.c (.t (.t .h)) (.c .h (.c (.t .h) (.c .h (.c .h (.c .h .n)))))))).A4
 have hS:=hS.close' hk.1 hk.2 (by rfl) (by exact hE2) (by rfl)
 refine⟨_,⟨V.BB k _,ls.put k ⟨_,_,_⟩,ev,rfl,?ga2,rfl⟩,hS⟩
 case ga2=>exact Es hk.1 hk.2 hsv hlv (f:=fun x=>x.tell u) (by show _=((Cq sv sl).line u).note u;rw [← hE1];exact(Zx (l:=⟨sl.queue,ws,sl.told⟩) c1).symm)
theorem E4 (b:Nat)(V:AM)(ls:Vector BK 4)(ev:List Ing.Event)(f:Hd)(es:List Ing.Event)(n:Nat)(hf:f.len=es.length)(hn:Xg ls n)(hm:n+es.length≤1000000)(hl:ev.length≤1000000)(he:(∀ e∈es,∀ c:Int,(decide (c < 0) || decide (6≤c) || decide (AI.SZ (e.Hw.at c) 1=0))=false→AI.Small e)):Fa Tryz.prog 79 #[.pointer (some ⟨b,0,none⟩),f.val] [Ad.box b 101 (AM.enc V),Ad.Da (CL 9 (AM.As V) ls),Ad.own (AM.last V) 56 16 ((ev).flatMap Ing.Event.enc),Ad.own f 56 16 (es.flatMap Ing.Event.enc)] (fun w=>(GV 2 Fy w∧2 ∉ Cj [Ad.box b 101 (AM.enc V),Ad.Da (CL 9 (AM.As V) ls),Ad.own (AM.last V) 56 16 ((ev).flatMap Ing.Event.enc),Ad.own f 56 16 (es.flatMap Ing.Event.enc)])∧(GV 0 AI.DP w∧0 ∉ Cj [Ad.box b 101 (AM.enc V),Ad.Da (CL 9 (AM.As V) ls),Ad.own (AM.last V) 56 16 ((ev).flatMap Ing.Event.enc),Ad.own f 56 16 (es.flatMap Ing.Event.enc)])) (fun v B=>∃ V' ls' ev',v = .tuple #[]∧A7 V' ls' ev'=AH.HE (A7 V ls ev) es∧B = [Ad.box b 101 (AM.enc V'),Ad.Da (CL 9 (AM.As V') ls'),Ad.own (AM.last V') 56 16 ((ev').flatMap Ing.Event.enc),Ad.own f 56 16 (es.flatMap Ing.Event.enc)]):=by
 intro w hS0 hH
 obtain⟨⟨gl0,gm0⟩,⟨gl1,gm1⟩⟩:=hH
 refine Am _ _ Tryz.func79 rfl rfl rfl (hS0) ?_
 refine Aq ?_
 refine Zv (fun w hS=>(Kn.own .m2 w hS).MC Ing.Event.fl (by decide)) (fun hLl=>?_)
 refine AJ (Gm rfl (Gm rfl (Gt (BV rfl) (Gt (Aj Q3 rfl) (Gt (AG rfl Dw .m0 AM.l3 rfl rfl) (Gm rfl ?_))))))
 refine Ch Ing.Event.fl rfl Tryz.underlying53 PB JA rfl X7 (by decide) (by decide) rfl rfl (fun w hS=>Src.D8 Tryz.underlying53 ((Kn.own .m3) w hS)) (by(try dsimp only);omega) (fun _=>(.t (.t .h))) (fun h1 h1l h1z=>?_)
 refine Gt (BV rfl) (Gt (Aj Q3 rfl) ?_)
 refine AU (AK AM.l3 rfl rfl rfl R8 rfl .h) ?_
 refine Gn (.t2 0 1) (Gs (Gm rfl (Gt (Av rfl Tryz.underlying53 rfl) (Gm rfl (Gn (.t4 0 19 20 21) (Ag ?_))))))
 refine Bo (.t4 21 0 19 20) ?_
 refine Bc (.t (.t .h)) ?_
 refine Bc (.t (.t .h)) ?_
 refine Bc (.t (.t .h)) ?_
 refine Hj (fun(k:Int) (V1:AM) (ls1:Vector BK 4) (ev1:List Ing.Event)=>0≤k∧k≤(es.length:Int)∧A7 V1 ls1 ev1=({ (A7 V ls ev) with last:=ev++es }:AH).HV (es.take k.toNat)∧Xg ls1 (n+k.toNat)) (fun(k:Int) (V1:AM) (ls1:Vector BK 4) (ev1:List Ing.Event)=>((es.length:Int) - k).toNat) (fun(k:Int) (V1:AM) (ls1:Vector BK 4) (ev1:List Ing.Event)=> [(21, .int .i64 k)]) (fun(k:Int) (V1:AM) (ls1:Vector BK 4) (ev1:List Ing.Event)=> [Ad.box b 101 (AM.enc V1),Ad.Da (CL 9 (AM.As V1) ls1),Ad.own (AM.last V1) 56 16 (ev1.flatMap Ing.Event.enc)]) (0) (_) (_) (_) ?_ rfl rfl (fun k V1 ls1 ev1 hI1=>?_)
 · exact⟨by omega,by omega,rfl,hn⟩
 obtain⟨hI11,hI12,hI13,hI14⟩:=hI1
 refine Gs (Gt (BA rfl rfl) (AQ (AA (Aq ?_))))
 refine Gc (fun c1=>?_) (fun c1=>?_)
 ·
  have c1p:=kz c1
  refine Aa ?_
  refine AB (.t4 0 19 20 21) ?_
  refine AA (Aq (Ag (Gs ?_)))
  refine Gt (Bs eK (by decide) (Kn.own .m3) rfl rfl (by omega) (by omega)) ?_
  refine Gt (OY rfl OB (by decide) Ing.Event.fl (Kn.own .m3) (by omega)) ?_
  refine BG rfl JA rfl (fun b1=>?_)
  refine AU (AK (AS.id Ing.Event.fl.len Ing.Event.fl.one) rfl rfl rfl PB rfl .h) ?_
  refine Gn (.t5 0 5 19 20 21) (Gs (Gm rfl (AQ (AA (Ag ?_)))))
  refine Bo (.t6 25 0 5 19 20 21) ?_
  refine Bc (.t (.t (.t .h))) ?_
  refine Bc (.t (.t (.t .h))) ?_
  refine Bc (.t (.t (.t .h))) ?_
  refine Hj (fun(i:Int) (V2:AM) (ls2:Vector BK 4) (ev2:List Ing.Event)=>0≤i∧i≤4∧A7 V2 ls2 ev2=AH.Cc (es.getD k.toNat default) (A7 V1 ls1 ev1) i.toNat∧(∀ j:Int,i≤j→j < 4→(ls2.at j).told.length≤n+k.toNat)∧(∀ j:Int,0≤j→j < 4→(ls2.at j).told.length≤n+k.toNat+1)) (fun(i:Int) (V2:AM) (ls2:Vector BK 4) (ev2:List Ing.Event)=>(4 - i).toNat) (fun(i:Int) (V2:AM) (ls2:Vector BK 4) (ev2:List Ing.Event)=> [(25, .int .i64 i)]) (fun(i:Int) (V2:AM) (ls2:Vector BK 4) (ev2:List Ing.Event)=> [Ad.box b 101 (AM.enc V2),Ad.Da (CL 9 (AM.As V2) ls2),Ad.own (AM.last V2) 56 16 (ev2.flatMap Ing.Event.enc)]) (0) (V1) (ls1) (ev1) ?_ rfl rfl (fun i V2 ls2 ev2 hI2=>?_)
  · exact⟨by omega,by omega,rfl,(fun j j0 j1=>hI14 j j0 j1),(fun j j0 j1=>Nat.le_succ_of_le (hI14 j j0 j1))⟩
  obtain⟨hI21,hI22,hI23,hI24,hI25⟩:=hI2
  refine Gs (Gt (BA rfl rfl) (AQ (AA (Aq ?_))))
  refine Gc (fun c2=>?_) (fun c2=>?_)
  ·
   have c2p:=kz c2
   refine Aa ?_
   refine AB (.t6 0 5 19 20 21 25) ?_
   refine AA (Aq (Ag (Gs (Gm rfl (Ga rfl (Gn (.t7 0 5 6 19 20 21 25) (Gs ?_)))))))
   refine Gm rfl (Gm rfl (Gt (BV rfl) (Gt (Aj F3 rfl) ?_)))
   refine Gt (AN PG rfl rfl (by omega) (by omega)) ?_
   refine Ga rfl (Gn (.t7 0 5 7 19 20 21 25) (CD (Gm rfl (Gt (BV rfl) (Gt (Aj Ja rfl) ?_)))))
   refine Gt (AG rfl A5 .m0 ((AM.l1.comp (AS.ar (n:=4) A3.fl (by omega))).comp A3.l0) rfl rfl) ?_
   refine Gt (CN rfl rfl) (Gn (.t8 0 5 7 19 20 21 25 37) ?_)
   refine Gc (fun c3=>?_) (fun c3=>?_)
   ·
    have c3p:=kz c3
    refine Be (AW (Ai ?_))
    refine AB (.t6 0 5 19 20 21 25) ?_
    refine AA (AJ ?_)
    refine Gt (Ax rfl rfl (IntWalk.i64_in _ (by omega))) ?_
    refine Gm rfl ?_
    refine AQ (AB (.t6 0 5 19 20 21 25) ?_)
    refine C0 (i+1) _ _ _ ?_ ?_ (.t6 25 0 5 19 20 21) (.refl _)
    · exact⟨by omega,by omega,((K0 hI21 (by omega) hI23).trans (BF c3)).symm,(fun j j0 j1=>hI24 j (by omega) j1),hI25⟩
    · omega
   have c3p:=kz c3
   refine Aa ?_
   refine AB (.t7 0 5 7 19 20 21 25) ?_
   refine AA (Aq ?_)
   refine BE (N:=11) [0,0,2,6,14,31,63,127,127,255,1023] mix (by kernel_rfl) rfl ?_
   refine Pf 0 rfl (AY rfl OB .m3 (AS.id Ing.Event.fl.len Ing.Event.fl.one) rfl) (Pf 1 rfl (AD rfl) (Pf 2 rfl (BV rfl) (Pf 3 rfl (Aj IV rfl) ?_)))
   refine Pf 4 rfl (AG rfl A5 .m0 ((AM.l1.comp (AS.ar (n:=4) A3.fl (by omega))).comp A3.l1) rfl rfl) ?_
   refine Ab 5 rfl rfl (by kernel_rfl) (Ln (JX (Dl dL (.c rfl (.c rfl .n)) (fun w hS=>NA (es.getD k.toNat default) _ (he _ (P6 (d:=default) (xs:=es) (i:=k.toNat) (by omega)) _) w (gl0.stM gm0 hS) (gl1.stM gm1 hS))))) ?_
   refine Pf 6 rfl (AD rfl) (Pf 7 rfl (AL rfl rfl) (Pf 8 rfl (AL rfl rfl) (Pf 9 rfl (A2 rfl) (Pf 10 rfl (A2 rfl) ?_))))
   refine A1 (by kernel_rfl) ?_
   refine AB (.t9 0 5 7 8 9 19 20 21 25) ?_
   refine AA (Gs (Gm rfl (Gn (.t9 0 5 7 8 19 20 21 25 47) ?_)))
   refine Gc (fun c4=>?_) (fun c4=>?_)
   ·
    have c4p:=kz c4
    refine AJ (Gm rfl (Gm rfl (Gm rfl ?_)))
    refine Ah rfl TY (.c rfl (.c rfl (.c rfl .n))) (.c .h (.c .h (.c .h .n))) (EU _ V2 ls2 _ i _ (by omega) (Nat.le_trans (hI24 i (by omega) (by omega)) (by omega))) (fun v2 B hv=>?_)
    obtain⟨y3,y4,y5,rfl,y6,rfl⟩:=hv
    refine AQ (AB (.t6 0 5 19 20 21 25) ?_)
    refine AV (AA (AJ ?_))
    refine Gt (Ax rfl rfl (IntWalk.i64_in _ (by omega))) ?_
    refine Gm rfl ?_
    refine AQ (AB (.t6 0 5 19 20 21 25) ?_)
    refine C0 (i+1) _ _ _ ?_ ?_ (.t6 25 0 5 19 20 21) (.refl _)
    · exact⟨by omega,by omega,y6.trans ((K0 hI21 (by omega) hI23).trans ((AX c3).trans (BF c4))).symm,(fun j j0 j1=>by have h:=hI24 j (by omega) j1;rw [(LL hI21 (by omega) y6 (by omega) j1).2 (by omega)];exact h),(fun j j0 j1=>if c:j=i then(by subst c;have h:=hI24 j (by omega) j1;have h2:=(LL hI21 (by omega) y6 j0 j1).1;omega) else(by rw [(LL hI21 (by omega) y6 j0 j1).2 c];exact hI25 j j0 j1))⟩
    · omega
   have c4p:=kz c4
   refine Aa ?_
   refine AB (.t6 0 5 19 20 21 25) ?_
   refine AV (AA (AJ ?_))
   refine Gt (Ax rfl rfl (IntWalk.i64_in _ (by omega))) ?_
   refine Gm rfl ?_
   refine AQ (AB (.t6 0 5 19 20 21 25) ?_)
   refine C0 (i+1) _ _ _ ?_ ?_ (.t6 25 0 5 19 20 21) (.refl _)
   · exact⟨by omega,by omega,((K0 hI21 (by omega) hI23).trans ((AX c3).trans (AX c4))).symm,(fun j j0 j1=>hI24 j (by omega) j1),hI25⟩
   · omega
  have c2p:=kz c2
  obtain rfl:i=4:=by omega
  refine Be (AW (AW (Ai ?_)))
  refine AB (.t4 0 19 20 21) ?_
  refine AV (AA (AJ ?_))
  refine Gt (Ax rfl rfl (IntWalk.i64_in _ (by omega))) ?_
  refine Gm rfl ?_
  refine AQ (AB (.t4 0 19 20 21) ?_)
  refine CJ (.c .h (.c .h (.c .h (.c (.t .h) .n)))) ?_
  refine Cf ?_
  refine C0 (k+1) _ _ _ ?_ ?_ (.t4 21 0 19 20) (.refl _)
  · exact⟨by omega,by omega,by rw [Tv hI11 (by omega),← hI13];exact hI23,fun j j0 j1=>by have h:=hI25 j j0 j1;rw [show(k+1).toNat=k.toNat+1 by omega];omega⟩
  · omega
 have c1p:=kz c1
 obtain rfl:k=(es.length:Int):=by omega
 refine Be (AW (AW (Ai ?_)))
 refine Bn rfl .n ?_
 intro w1 hS
 have hS:=(hS.perm (Ay.perm (.c .h (.c .h (.c .h (.c .h .n)))))).A4
 refine⟨_,⟨V1,ls1,ev1,rfl,?ga,rfl⟩,hS⟩
 case ga=>rw [hI13,show(es.length:Int).toNat=es.length by omega,List.take_length];exact(XP rfl).symm
theorem RV (b:Nat)(V:AM)(ls:Vector BK 4)(ev:List Ing.Event)(k:Int)(u:Au)(n m:Nat)(hk:0≤k∧k < 4)(hF:AH.Fit (A7 V ls ev) n m)(hn:n≤900000)(hm:m≤900000)(hu:u.length≤1000):Fa Tryz.prog 93 #[.pointer (some ⟨b,0,none⟩), .pointer (some ⟨b,165+k.toNat * 22,none⟩),BT u] [Ad.box b 101 (AM.enc V),Ad.Da (CL 9 (AM.As V) ls),Ad.own (AM.last V) 56 16 ((ev).flatMap Ing.Event.enc)] (fun w=>(GV 2 Fy w∧2 ∉ Cj [Ad.box b 101 (AM.enc V),Ad.Da (CL 9 (AM.As V) ls),Ad.own (AM.last V) 56 16 ((ev).flatMap Ing.Event.enc)])∧(GV 0 AI.DP w∧0 ∉ Cj [Ad.box b 101 (AM.enc V),Ad.Da (CL 9 (AM.As V) ls),Ad.own (AM.last V) 56 16 ((ev).flatMap Ing.Event.enc)])) (fun v B=>∃ V' ls' ev',v = .tuple #[]∧A7 V' ls' ev'=AH.named (A7 V ls ev) k u∧B = [Ad.box b 101 (AM.enc V'),Ad.Da (CL 9 (AM.As V') ls'),Ad.own (AM.last V') 56 16 ((ev').flatMap Ing.Event.enc)]):=by
 intro w hS0 hH
 obtain⟨⟨gl0,gm0⟩,⟨gl1,gm1⟩⟩:=hH
 have hel:=AF.QP V.w u
 have hes:=AF.JM (s:=u) hF.F5
 have htn:=Gx hF
 refine Am _ _ Tryz.func93 rfl rfl rfl (hS0) ?_
 refine Gs (Gm rfl (Gt (BV rfl) (Gt (Aj ET rfl) (Gt (AY rfl Ba .m0 AM.l0 rfl) (Gm rfl ?_)))))
 refine BJ rfl bR (.c rfl (.c rfl .n)) .n (Ml V.w u hF.F5.IP (by omega)) (fun w hS=>gl1.pull gm1 hS .n) (fun v1 B hv=>?_)
 obtain⟨y2,rfl,y3,rfl⟩:=hv
 refine Gm rfl (Gt (AL rfl rfl) (Gt (AL rfl rfl) (Gt (AL rfl rfl) (Gt (AL rfl rfl) ?_))))
 refine BG rfl NQ rfl (fun b1=>?_)
 refine AU (AK (AS.id AI.fl.len AI.fl.one) rfl rfl rfl EF rfl .h) ?_
 refine Ga rfl (Ga rfl (Ga rfl (Gn (.t6 0 1 6 7 8 9) (Gs (Gm rfl (Gn (.t6 0 1 6 7 8 21) (Ag ?_)))))))
 refine Gs (Gt (Ak rfl rfl) (Ga rfl (Gn (.t7 0 1 6 7 8 21 25) ?_)))
 refine Gc (fun c1=>?_) (fun c1=>?_)
 ·
  have c1p:=kz c1
  refine Gs (Gm rfl (Gt (AY rfl Ba .m0 (AS.id AI.fl.len AI.fl.one) rfl) (Gt (BV rfl) (Gt (Aj ET rfl) ?_))))
  refine AU (AK AM.l0 rfl rfl rfl EF rfl (.t (.t .h))) ?_
  refine Gn (.t4 0 1 7 8) (Aq ?_)
  refine EN (.c (.t (.t .h)) (.c (.t (.t .h)) .n)) ?_
  refine FG (k:=k) hk.1 hk.2 (fun sv sl hsv hlv hln=>?_)
  refine AJ (Gm rfl (Gm rfl (Gm rfl (Gt (BV rfl) (Gt (Aj Ja rfl) ?_)))))
  refine AU (AK ((AS.BB { V with w:=(AF.BW V.w u).1 } hk.1 hk.2).comp A3.l0) rfl rfl rfl DD rfl (.t (.t (.t .h)))) ?_
  refine Gt (BV rfl) (Gt (Aj IV rfl) ?_)
  refine AU (AK ((AS.BB { V with w:=(AF.BW V.w u).1 } hk.1 hk.2).comp A3.l1) rfl rfl rfl DD rfl (.t (.t (.t .h)))) ?_
  refine Gn (.t2 0 8) ?_
  refine EN (.c .h (.c .h (.c .h (.c .h (.c .h .n))))) ?_
  refine HH hk.1 hk.2 (by rfl) (by rfl) (by rfl) ?_
  refine AJ (Gm rfl (Gm rfl ?_))
  refine BJ rfl Vj (.c rfl (.c rfl .n)) (.c .h (.c .h (.c (.t (.t .h)) (.c (.t .h) .n)))) (E4 _ (AM.BB { V with w:=(AF.BW V.w u).1 } k { sv with state:=2,A0:=(AF.BW V.w u).2.1 }) (ls.put k ⟨sl.queue,sl.wait,sl.told⟩) ev _ (AF.BW V.w u).2.2.1 n (by assumption) (Gx (by rw [(show A7 (AM.BB { V with w:=(AF.BW V.w u).1 } k { sv with state:=2,A0:=(AF.BW V.w u).2.1 }) (ls.put k ⟨sl.queue,sl.wait,sl.told⟩) ev=({ (A7 V ls ev) with w:=(AF.BW V.w u).1 }:AH).set k { AH.at_ (A7 V ls ev) k with state:=2,A0:=(AF.BW V.w u).2.1 } from Es (V:={ V with w:=(AF.BW V.w u).1 }) hk.1 hk.2 hsv hlv (f:=fun x=>{ x with state:=2,A0:=(AF.BW V.w u).2.1 }) rfl)];exact hF.enters hk.1 hk.2 (of_decide_eq_true c1))) (by omega) (Nat.le_trans hF.last (by omega)) (fun e he c _=>hes.2 e he)) (fun w hS=>⟨gl0.pull gm0 hS (.c .h (.c .h (.c (.t (.t .h)) (.c (.t .h) .n)))),gl1.pull gm1 hS (.c .h (.c .h (.c (.t (.t .h)) (.c (.t .h) .n))))⟩) (fun v5 B hv=>?_)
  obtain⟨y6,y7,y8,rfl,y9,rfl⟩:=hv
  refine AQ (AB (.nil _) ?_)
  refine AV ?_
  refine Bn rfl .n ?_
  intro w1 hS
  have hS:=(hS.perm (Ay.perm (.c .h (.c .h (.c .h .n))))).A4
  refine⟨_,⟨y6,y7,y8,rfl,?ga1,rfl⟩,hS⟩
  case ga1=>exact Y8 c1 (show A7 (AM.BB { V with w:=(AF.BW V.w u).1 } k { sv with state:=2,A0:=(AF.BW V.w u).2.1 }) (ls.put k ⟨sl.queue,sl.wait,sl.told⟩) ev=({ (A7 V ls ev) with w:=(AF.BW V.w u).1 }:AH).set k { AH.at_ (A7 V ls ev) k with state:=2,A0:=(AF.BW V.w u).2.1 } from Es (V:={ V with w:=(AF.BW V.w u).1 }) hk.1 hk.2 hsv hlv (f:=fun x=>{ x with state:=2,A0:=(AF.BW V.w u).2.1 }) rfl) y9
 have c1p:=kz c1
 refine Gs (Gt (Ak rfl rfl) (Ga rfl (Gn (.t3 0 1 41) ?_)))
 refine Gc (fun c2=>?_) (fun c2=>?_)
 ·
  have c2p:=kz c2
  refine AJ (Gm rfl (Gm rfl ?_))
  refine Ah rfl TY (.c rfl (.c rfl (.c rfl .n))) (.c (.t (.t .h)) (.c (.t (.t .h)) (.c (.t (.t .h)) .n))) (EU _ V ls ev k _ hk (Nat.le_trans (htn k hk.1 hk.2) (by omega))) (fun v10 B hv=>?_)
  obtain⟨y11,y12,y13,rfl,y14,rfl⟩:=hv
  refine AQ (AB (.nil _) ?_)
  refine AV ?_
  refine Bn rfl .n ?_
  intro w1 hS
  have hS:=(hS.perm (Ay.perm (.c .h (.c .h (.c .h .n))))).A4
  refine⟨_,⟨y11,y12,y13,rfl,?ga2,rfl⟩,hS⟩
  case ga2=>exact Y9 c1 c2 y14
 have c2p:=kz c2
 refine AJ (Gm rfl (Gm rfl ?_))
 refine Ah rfl TY (.c rfl (.c rfl (.c rfl .n))) (.c (.t (.t .h)) (.c (.t (.t .h)) (.c (.t (.t .h)) .n))) (EU _ V ls ev k _ hk (Nat.le_trans (htn k hk.1 hk.2) (by omega))) (fun v15 B hv=>?_)
 obtain⟨y16,y17,y18,rfl,y19,rfl⟩:=hv
 refine AQ (AB (.nil _) ?_)
 refine AV ?_
 refine Bn rfl .n ?_
 intro w1 hS
 have hS:=(hS.perm (Ay.perm (.c .h (.c .h (.c .h .n))))).A4
 refine⟨_,⟨y16,y17,y18,rfl,?ga3,rfl⟩,hS⟩
 case ga3=>exact Yn c1 c2 y19
theorem Bt (z:Int):Jk Tryz.prog 150 #[.int .i64 z] [] (fun v B=>v = .tuple #[.agg (Order.enc default).toArray, .int .i64 z]∧B = []):=by
 intro w hS0
 refine Am _ _ Tryz.func150 rfl rfl rfl (hS0) ?_
 refine Gs ?_
 refine BG rfl Lo rfl (fun b1=>?_)
 refine Ga rfl (Gn (.t2 0 2) (Gs (Gt (BH Sn Lo rfl .nil) (Gm rfl ?_))))
 refine AU (AK (AS.id Order.fl.len Order.fl.one) rfl rfl rfl ED rfl .h) ?_
 refine Ga rfl (Gn (.t2 2 3) (Ac ?_))
 refine AZ rfl (.cell rfl .m0 (.inl ⟨(by rw [Order.fl.len];exact CB),rfl⟩) (.tmp rfl .n)) ?_
 intro w1 hS
 have hS:=(hS.perm (Ay.perm .n)).A4
 exact⟨_,⟨rfl,rfl⟩,hS⟩
theorem FQ (s:Au)(c:UInt8)(w:World):En Tryz.prog 87 #[BT s, .int .u8 (c.toNat:Int)] w fun v w'=>v = .int .i64 (Lib.indexByte s c)∧B9 w w':=by
 refine Am [] [] Tryz.func87 rfl rfl rfl (St.start w []) ?_
 refine Gs (Ga rfl (Gn (.t2 0 1) (Gs (Gm rfl (Gm rfl ?_)))))
 refine Gt (LP Tryz.func112 (by kernel_rfl) (by kernel_rfl) (by kernel_rfl) (by kernel_rfl) rfl rfl) ?_
 refine Ga rfl (Gn (.t1 4) (Ac ?_))
 refine AZ rfl (.tmp rfl .n) ?_
 intro w1 hS;refine⟨?_,hS.Al⟩;rfl
theorem EB (s:Au)(c:UInt8)(w:World):En Tryz.prog 76 #[BT s,BT [c]] w fun v w'=>v = .int .i64 (Lib.indexByte s c)∧B9 w w':=by
 refine Am [] [] Tryz.func76 rfl rfl rfl (St.start w []) ?_
 refine Gs (Ga rfl (Gn (.t2 0 1) (Gs (Gm rfl (Gt (BL rfl Tryz.underlying9 rfl) (Ga rfl (Gn (.t3 0 1 5) ?_)))))))
 refine Aq (Ag (Gs (Gm rfl (Gt (Ak rfl rfl) (Gm rfl (Bg 19 rfl rfl (fun q=>AD rfl) (Bg 19 rfl rfl (fun q=>AD rfl) ?_)))))))
 refine Bg 19 rfl rfl (fun q=>Bu (cF rfl q) (cF rfl q)) ?_
 refine Gt (BU rfl rfl (fun h=>by rw [h];rfl)) ?_
 refine Ga rfl (Gn (.t4 0 1 5 16) ?_)
 refine Gc (fun c1=>?_) (fun c1=>?_)
 ·
  refine Gs (Ga rfl (Gn (.t1 4) (Ac (AT (AE ?_)))))
  refine AZ rfl (.tmp rfl .n) ?_
  intro w1 hS;refine⟨?_,hS.Al⟩;have e : [c]=s:=by simpa using c1
  rw [← e,Page.V5];rfl
 have c1p:=kz c1
 refine Gs (Gm rfl (Gt (Ak rfl rfl) (Ga rfl (Gn (.t4 0 1 5 24) ?_))))
 refine HF rfl (by simp) ?_
 refine Gs (Gm rfl (Gm rfl ?_))
 refine Gt (Bq Tryz.underlying9 rfl rfl (by decide) (by first | omega | simp)) ?_
 refine BD rfl dn (.c rfl (.c rfl .n)) (fun w hS=>FQ _ _ w) ?_
 refine Ga rfl (Gn (.t1 4) (Ac (AT (AE ?_))))
 refine AZ rfl (.tmp rfl .n) ?_
 intro w1 hS;refine⟨?_,hS.Al⟩;rfl
theorem FY (s:Au)(c:UInt8)(w:World):En Tryz.prog 176 #[BT s,BT [c]] w fun v w'=>v = .int .i64 (Lib.indexByte s c)∧B9 w w':=by
 refine Am [] [] Tryz.func176 rfl rfl rfl (St.start w []) ?_
 refine Gs (Ga rfl (Gn (.t2 0 1) (Gs (Gm rfl (Gm rfl ?_)))))
 refine BD rfl cB (.c rfl (.c rfl .n)) (fun w hS=>EB _ _ w) ?_
 refine Ga rfl (Gn (.t1 4) (Ac ?_))
 refine AZ rfl (.tmp rfl .n) ?_
 intro w1 hS;refine⟨?_,hS.Al⟩;rfl
theorem Hc (s:Au)(c:UInt8)(w:World):En Tryz.prog 174 #[BT s,BT [c]] w fun v w'=>v = .int .i64 ((s.count c:Nat):Int)∧B9 w w':=by
 refine Am [] [] Tryz.func174 rfl rfl rfl (St.start w []) ?_
 refine Gs (Ga rfl (Gn (.t2 0 1) (CD (Gm rfl (Gt (BL rfl Tryz.underlying9 rfl) (Gt (Ak rfl rfl) (Gn (.t3 0 1 9) ?_)))))))
 refine DU rfl (by simp) ?_
 refine Aa ?_
 refine AB (.t2 0 1) ?_
 refine AA (CD (Gm rfl (Gt (BL rfl Tryz.underlying9 rfl) (Gt (Ak rfl rfl) (Gn (.t3 0 1 15) ?_)))))
 refine HF rfl (by simp) ?_
 refine Gs (Gm rfl (Gm rfl ?_))
 refine Gt (Bq Tryz.underlying9 rfl rfl (by decide) (by first | omega | simp)) ?_
 refine Gt (Nd Tryz.func185 (by kernel_rfl) (by kernel_rfl) (by kernel_rfl) (by kernel_rfl) rfl rfl) ?_
 refine Ga rfl (Gn (.t1 4) (Ac (AE ?_)))
 refine AZ rfl (.tmp rfl .n) ?_
 intro w1 hS;refine⟨?_,hS.Al⟩;rfl
theorem Jl (s:Au)(c:UInt8)(hs:s.length≤10000000):Jk Tryz.prog 179 #[BT s,BT [c], .int .i64 0, .int .i64 (-1)] [] (fun v B=>∃ h':Hd,v=h'.val∧h'.len=(Words.pieces c s).length∧B = [Ad.own h' 9 1 ((Words.pieces c s).flatMap A8)]):=by
 intro w hS0
 have hcl:=List.count_le_length (a:=c) (l:=s)
 have hpl:=Words.FZ c s
 refine Am _ _ Tryz.func179 rfl rfl rfl (hS0) ?_
 refine Gs (Ga rfl (Gn (.t4 0 1 2 3) (CD (Gm rfl (Gt (Ak rfl rfl) (Gn (.t5 0 1 2 3 13) ?_))))))
 refine DU rfl (by simp) ?_
 refine Aa ?_
 refine AB (.t4 0 1 2 3) ?_
 refine AA (CD (Gm rfl (Gt (Bu rfl rfl) (Gn (.t5 0 1 2 3 15) ?_))))
 refine DU rfl (by simp) ?_
 refine Aa ?_
 refine AB (.t4 0 1 2 3) ?_
 refine AA (CD (Gm rfl (Gt (BA rfl rfl) (Gn (.t5 0 1 2 3 20) ?_))))
 refine HF rfl (by simp) ?_
 refine AJ (Gm rfl (Gm rfl ?_))
 refine BD rfl Zd (.c rfl (.c rfl .n)) (fun w hS=>Hc _ c w) ?_
 refine Gt (Ax rfl rfl (IntWalk.i64_in _ (by(try simp only [List.length_cons,List.length_nil]);omega))) ?_
 refine Ga rfl (Gn (.t4 0 1 2 3) (Gs (Gm rfl (Gm rfl (Gt (BL rfl Tryz.underlying9 rfl) ?_)))))
 refine Gt (Ax rfl rfl (IntWalk.i64_in _ (by(try simp only [List.length_cons,List.length_nil]);omega))) ?_
 refine Gt (MG rfl rfl) (Ga rfl (Gn (.t4 0 1 2 3) (Gs (Gm rfl ?_))))
 refine Vt rfl Tryz.underlying52 Ez R3 WW rfl rfl (by(try simp only [List.length_cons,List.length_nil]);omega) (by(try simp only [List.length_cons,List.length_nil]);omega) (fun b1=>?_)
 refine Ga rfl (Gn (.t5 0 1 2 3 9) (Gs (Gm rfl ?_)))
 refine Gt (FX rfl rfl (IntWalk.i64_in _ (by(try simp only [List.length_cons,List.length_nil]);omega))) ?_
 refine Ga rfl (Gn (.t5 0 1 2 3 9) (Gs (Ga rfl (AQ (AA (Aq (Ag ?_)))))))
 refine Bo (.t6 0 10 1 2 3 9) ?_
 refine D2 (fun(i:Int) (r:Au) (xs:List Au)=>Words.OW c s i r xs) (fun(i:Int) (r:Au) (xs:List Au)=>((s.count c:Int) - i).toNat) (fun(i:Int) (r:Au) (xs:List Au)=> [(0,BT r),(10, .int .i64 i)]) (fun(i:Int) (r:Au) (xs:List Au)=> [Ad.own ⟨some ⟨b1,0,none⟩,(min (((s.count c:Nat):Int)+1) ((s.length:Int)+1)).toNat,(min (((s.count c:Nat):Int)+1) ((s.length:Int)+1)).toNat⟩ 9 1 (xs.flatMap A8)]) (0) (s) (_) ?_ rfl rfl (fun i r xs hI1=>?_)
 · exact Words.OW.start c s _ (by omega)
 have hI11:=hI1;have hi0:=hI1.i0;have hi1:=hI1.i1;have hrl:=hI1.rl;have hxl:=hI1.len
 refine CD (Gm rfl (Gm rfl (Gt (BA rfl rfl) (Gn (.t7 0 1 2 3 9 10 36) ?_))))
 refine Gc (fun c1=>?_) (fun c1=>?_)
 ·
  have c1p:=kz c1
  refine Aa ?_
  refine AB (.t6 0 1 2 3 9 10) ?_
  refine AA (Ag (Gs (Gm rfl (Gm rfl ?_))))
  refine BD rfl W4 (.c rfl (.c rfl .n)) (fun w hS=>FY _ c w) ?_
  refine Ga rfl (Gn (.t7 0 1 2 3 9 10 11) (CD (Gm rfl (Gt (BA rfl rfl) (Gn (.t8 0 1 2 3 9 10 11 41) ?_)))))
  refine Gc (fun c2=>?_) (fun c2=>?_)
  ·
   have c2p:=kz c2
   refine Be (AW ?_)
   refine KF rfl ?_
   refine AW (Ai ?_)
   refine AB (.t3 0 9 10) ?_
   refine AA (Gs (Gm rfl (Gm rfl (Gm rfl ?_))))
   refine Gt (Bs Io (by decide) (Kn.own .m0) rfl rfl (by omega) (by(try dsimp only);omega)) ?_
   refine AU (OA rfl rfl Ez (by have:=hI11.len;omega) .h) ?_
   refine Gn (.t2 9 10) (Gs (Gm rfl (Gm rfl ?_)))
   refine Gt (Ax rfl rfl (IntWalk.i64_in _ (by(try simp only [List.length_cons,List.length_nil]);omega))) ?_
   refine Ke De rfl Tryz.underlying52 Ez rfl rfl (by(try simp only [List.length_cons,List.length_nil]);omega) (by(try simp only [List.length_cons,List.length_nil]);omega) (fun _=> .h) ?_
   refine Ga rfl (Gn (.t1 8) (Ac ?_))
   refine AZ rfl (.tmp rfl .n) ?_
   intro w1 hS
   have hS:=(hS.perm (Ay.perm (.c .h .n))).A4
   have hd:=hI11.done (by first | (right;simpa using c2) | (left;omega))
   exact⟨_,⟨_,rfl,by rw [hd.2] at *;(try simp only [Hd.cut] at *);omega,by rw [hd.2]⟩,hS⟩
  have c2p:=kz c2
  obtain⟨hm0,hm1,hnx⟩:=hI11.next rfl (by simpa using c2)
  refine Aa ?_
  refine AB (.t7 0 1 2 3 9 10 11) ?_
  refine AA (Gs (Gm rfl (Gm rfl (Gm rfl (Gm rfl (Gm rfl ?_))))))
  refine Gt (Ax rfl rfl (IntWalk.i64_in _ (by(try simp only [List.length_cons,List.length_nil]);omega))) ?_
  refine Gt (Il Tryz.underlying9 rfl rfl (by(try simp only [List.length_cons,List.length_nil]);omega) (by(try simp only [List.length_cons,List.length_nil]);omega)) ?_
  refine Gt (Bs Io (by decide) (Kn.own .m0) rfl rfl (by omega) (by(try dsimp only);omega)) ?_
  refine AU (OA rfl rfl Ez (by have:=hI11.len;omega) .h) ?_
  refine Gn (.t7 0 1 2 3 9 10 11) (Gs (Gm rfl (Gm rfl (Gm rfl (Gt (BL rfl Tryz.underlying9 rfl) ?_)))))
  refine Gt (Ax rfl rfl (IntWalk.i64_in _ (by(try simp only [List.length_cons,List.length_nil]);omega))) ?_
  refine Gt (Gu Tryz.underlying9 rfl rfl (by(try simp only [List.length_cons,List.length_nil]);omega) (by(try simp only [List.length_cons,List.length_nil]);omega)) ?_
  refine Ga rfl (Gn (.t6 0 1 2 3 9 10) (AJ (Gm rfl ?_)))
  refine Gt (Ax rfl rfl (IntWalk.i64_in _ (by(try simp only [List.length_cons,List.length_nil]);omega))) ?_
  refine Ga rfl ?_
  refine AQ (AB (.t6 0 1 2 3 9 10) ?_)
  refine AV ?_
  refine B3 (i+1) _ _ ?_ ?_ (.t6 0 10 1 2 3 9) (.refl _)
  · rw [Int.add_zero]
    exact hnx
  · omega
 have c1p:=kz c1
 refine Be (AW (AW (Ai ?_)))
 refine AB (.t3 0 9 10) ?_
 refine AA (Gs (Gm rfl (Gm rfl (Gm rfl ?_))))
 refine Gt (Bs Io (by decide) (Kn.own .m0) rfl rfl (by omega) (by(try dsimp only);omega)) ?_
 refine AU (OA rfl rfl Ez (by have:=hI11.len;omega) .h) ?_
 refine Gn (.t2 9 10) (Gs (Gm rfl (Gm rfl ?_)))
 refine Gt (Ax rfl rfl (IntWalk.i64_in _ (by(try simp only [List.length_cons,List.length_nil]);omega))) ?_
 refine Ke De rfl Tryz.underlying52 Ez rfl rfl (by(try simp only [List.length_cons,List.length_nil]);omega) (by(try simp only [List.length_cons,List.length_nil]);omega) (fun _=> .h) ?_
 refine Ga rfl (Gn (.t1 8) (Ac ?_))
 refine AZ rfl (.tmp rfl .n) ?_
 intro w1 hS
 have hS:=(hS.perm (Ay.perm (.c .h .n))).A4
 have hd:=hI11.done (by first | (right;simpa using c1) | (left;omega))
 exact⟨_,⟨_,rfl,by rw [hd.2] at *;(try simp only [Hd.cut] at *);omega,by rw [hd.2]⟩,hS⟩
theorem K8 (s:Au)(c:UInt8)(hs:s.length≤10000000):Jk Tryz.prog 167 #[BT s,BT [c]] [] (fun v B=>∃ h':Hd,v=h'.val∧h'.len=(Words.pieces c s).length∧B = [Ad.own h' 9 1 ((Words.pieces c s).flatMap A8)]):=by
 intro w hS0
 refine Am _ _ Tryz.func167 rfl rfl rfl (hS0) ?_
 refine Gs (Ga rfl (Gn (.t2 0 1) (Gs (Gm rfl (Gm rfl ?_)))))
 refine Ah rfl bG (.c rfl (.c rfl (.c rfl (.c rfl .n)))) .n (Jl _ c hs) (fun v1 B hv=>?_)
 obtain⟨y2,rfl,y3,rfl⟩:=hv
 refine Ga rfl (Gn (.t1 4) (Ac ?_))
 refine AZ rfl (.tmp rfl .n) ?_
 intro w1 hS
 have hS:=(hS.perm (Ay.perm (.c .h .n))).A4
 exact⟨_,⟨_,rfl,by assumption,rfl⟩,hS⟩
theorem PD (u:Au)(hu:u.length≤10000000)(w:World):En Tryz.prog 168 #[BT u] w fun v w'=>v=BT (Words.low u)∧B9 w w':=by
 refine Am [] [] Tryz.func168 rfl rfl rfl (St.start w []) ?_
 refine Gs (Ga rfl (Gn (.t1 0) (Gs (Gm rfl ?_))))
 refine O6 rfl Tryz.underlying9 Tryz.underlying105 Tryz.underlying5 rfl (fun h1 h1l=>?_)
 refine Ga rfl (Gn (.t1 3) (CD (Gm rfl (Gt (Av rfl Tryz.underlying105 rfl) (Gm rfl (AQ (AA ?_)))))))
 refine Ag ?_
 refine Bo (.t4 10 3 8 9) ?_
 refine CT (fun(k:Int)=>0≤k∧k≤u.length) (fun(k:Int)=>((u.length:Int) - k).toNat) (fun(k:Int)=> [(10, .int .i64 k)]) (fun(k:Int)=> [Ad.own h1 5 1 ((Words.H0 u k.toNat).flatMap Db)]) (0) ?_ rfl rfl (fun k hI1=>?_)
 · exact⟨by omega,by omega⟩
 obtain⟨hI11,hI12⟩:=hI1
 refine Gs (Gt (BA rfl rfl) (AQ (AA (Aq ?_))))
 refine Gc (fun c1=>?_) (fun c1=>?_)
 ·
  have c1p:=kz c1
  have hat:=Words.UX (w:=u) hI11 (by omega)
  have hc8:=(u.getD k.toNat 0).toNat_lt
  refine Aa ?_
  refine AB (.t4 3 8 9 10) ?_
  refine AA (Aq (Ag (Gs (Gm rfl ?_))))
  refine Gt (Bs XC (by decide) (Kn.own .m0) rfl rfl (by omega) (by omega)) ?_
  refine Gt (Xj rfl bh (Kn.own .m0) (by rw [Words.Ob];omega)) ?_
  refine Ga rfl (Ga rfl (Gn (.t6 3 4 5 8 9 10) (Gs (Gm rfl (Gt (CK rfl rfl) (Gm rfl (Bb 17 rfl rfl (fun q=>AD rfl) ?_)))))))
  refine Bb 17 rfl rfl (fun q=>Ic (BX rfl q) rfl) (Gt (BI rfl rfl (fun h=>h)) (Gn (.t7 3 4 5 8 9 10 20) ?_))
  refine Gc (fun c2=>?_) (fun c2=>?_)
  ·
   have c2p:=kz c2
   rw [hat] at c2
   have hset:=Words.Sp (w:=u) hI11 (by omega)
   rw [← Words.Yv c2] at hset
   refine AJ (Gm rfl (Gm rfl (Gm rfl ?_)))
   refine Gt (Ax rfl rfl (IntWalk.u8_in _ (by(try simp only [hat] at c2p ⊢);omega))) ?_
   refine Gt (FX rfl rfl (IntWalk.u8_in _ (by(try simp only [hat] at c2p ⊢);omega))) ?_
   refine Gt (Bs XC (by decide) (Kn.own .m0) rfl rfl (by omega) (by omega)) ?_
   refine AU (ag rfl rfl (by simp only [hat] at c2p ⊢;omega) WB (by rw [Words.Ob];omega) .h) ?_
   refine AQ (AB (.t4 3 8 9 10) ?_)
   refine AV (AA (AJ ?_))
   refine Gt (Ax rfl rfl (IntWalk.i64_in _ (by(try simp only [hat] at c2p ⊢);omega))) ?_
   refine Gm rfl ?_
   refine AQ (AB (.t4 3 8 9 10) ?_)
   refine Bz (k+1) ?_ ?_ (.t4 10 3 8 9) (by rw [← hset];first | exact(.refl _) | (rw [← hat];exact(.refl _)))
   · exact⟨by omega,by omega⟩
   · omega
  have c2p:=kz c2
  rw [hat] at c2
  have hset:=Words.Vf (w:=u) hI11 (by omega) (Words.Yp c2)
  refine Aa ?_
  refine AB (.t4 3 8 9 10) ?_
  refine AV (AA (AJ ?_))
  refine Gt (Ax rfl rfl (IntWalk.i64_in _ (by(try simp only [hat] at c2p ⊢);omega))) ?_
  refine Gm rfl ?_
  refine AQ (AB (.t4 3 8 9 10) ?_)
  refine Bz (k+1) ?_ ?_ (.t4 10 3 8 9) (by rw [← hset];first | exact(.refl _) | (rw [← hat];exact(.refl _)))
  · exact⟨by omega,by omega⟩
  · omega
 have c1p:=kz c1
 refine Be (AW (AW (Ai ?_)))
 refine AB (.t1 3) ?_
 refine AA (Gs (Gm rfl (Gt (KS Tryz.underlying105 Tryz.underlying9 Tryz.underlying5 rfl (Kn.own .m0)) (Ga rfl (Gn (.t1 2) (Ac ?_))))))
 refine AZ rfl (.tmp rfl .n) ?_
 intro w1 hS;refine⟨?_,hS.Al⟩;obtain rfl:k=u.length:=by omega
 rw [show(u.length:Int).toNat=u.length by omega,Words.Wj];rfl
theorem Mp (s:Au)(hs:s.length≤4000000):Jk Tryz.prog 151 #[BT s] [] (fun v B=>∃ h':Hd,v=h'.val∧h'.len=(Words.words s).length∧B = [Ad.own h' 9 1 ((Words.words s).flatMap A8)]):=by
 intro w hS0
 have hpl:=Words.FZ 32 s
 have hcl:=List.count_le_length (a:=(32:UInt8)) (l:=s)
 refine Am _ _ Tryz.func151 rfl rfl rfl (hS0) ?_
 refine Gs (Ga rfl (Gn (.t1 0) (Gs (Ga rfl (AQ (AA (CD ?_)))))))
 refine Gm rfl ?_
 refine Ah rfl bz (.c rfl (.c rfl .n)) .n (K8 _ 32 (by omega)) (fun v1 B hv=>?_)
 obtain⟨y2,rfl,y3,rfl⟩:=hv
 refine Gt (Av rfl Tryz.underlying52 rfl) (Gm rfl (Gn (.t4 3 7 8 9) (Ag ?_)))
 refine Bo (.t4 3 9 7 8) ?_
 refine FF A8 9 1 ?_
 refine D2 (fun(k:Int) (xs:List Au) (g:Hd)=>0≤k∧k≤((Words.pieces 32 s).length:Int)∧xs=Words.JU s k.toNat∧g.len=xs.length∧xs.length≤k.toNat) (fun(k:Int) (xs:List Au) (g:Hd)=>(((Words.pieces 32 s).length:Int) - k).toNat) (fun(k:Int) (xs:List Au) (g:Hd)=> [(3,g.val),(9, .int .i64 k)]) (fun(k:Int) (xs:List Au) (g:Hd)=> [Ad.own g 9 1 (xs.flatMap A8)]) (0) ([]) (_) ?_ rfl rfl (fun k xs g hI1=>?_)
 · exact⟨by omega,by omega,rfl,rfl,by simp⟩
 obtain⟨hI11,hI12,hI13,hI14,hI15⟩:=hI1
 refine Gs (Gt (BA rfl rfl) (AQ (AA (Aq ?_))))
 refine Gc (fun c1=>?_) (fun c1=>?_)
 ·
  have c1p:=kz c1
  refine Aa ?_
  refine AB (.t4 3 7 8 9) ?_
  refine AA (Aq (Ag (Gs ?_)))
  refine Gt (Bs Io (by decide) (Kn.own .m1) rfl rfl (by omega) (by omega)) ?_
  refine Gt (DM rfl CM (Kn.own .m1) (by omega)) ?_
  refine Ga rfl (Gn (.t5 3 5 7 8 9) (Gs (Gm rfl (Gt (Dt rfl rfl) (Gn (.t6 3 5 7 8 9 14) ?_)))))
  refine Gc (fun c2=>?_) (fun c2=>?_)
  ·
   have c2p:=kz c2
   refine AJ (Gm rfl (Gm rfl ?_))
   refine BD rfl cc (.c rfl .n) (fun w hS=>PD _ (by have:=Words.WE (c:=32) (s:=s) k.toNat;omega) w) ?_
   refine F8 A8 De rfl Tryz.underlying52 Ez R3 rfl (by decide) (by decide) rfl rfl (fun b1=>?_)
   refine Ch De rfl Tryz.underlying52 Ez R3 rfl WW (by decide) (by decide) rfl rfl (fun w hS=>Src.D8 Tryz.underlying52 ((Kn.own .m0) w hS)) (by(try dsimp only);omega) (fun _=>(.t .h)) (fun h5 h5l h5z=>?_)
   refine Ga rfl ?_
   refine AQ (AB (.t4 3 7 8 9) ?_)
   refine AV (AA (AJ ?_))
   refine Gt (Ax rfl rfl (IntWalk.i64_in _ (by omega))) ?_
   refine Gm rfl ?_
   refine AQ (AB (.t4 3 7 8 9) ?_)
   refine B3 (k+1) _ _ ?_ ?_ (.t4 3 9 7 8) (.cons _ (.refl _))
   · exact⟨by omega,by omega,by rw [Words.YP hI11 (by omega) c2,← hI13],(by(try dsimp only at *)<;>(try simp only [List.length_append,List.length_cons,List.length_nil])<;>omega),(by(try simp only [List.length_append,List.length_cons,List.length_nil]);omega)⟩
   · omega
  have c2p:=kz c2
  refine Aa ?_
  refine AB (.t4 3 7 8 9) ?_
  refine AV (AA (AJ ?_))
  refine Gt (Ax rfl rfl (IntWalk.i64_in _ (by omega))) ?_
  refine Gm rfl ?_
  refine AQ (AB (.t4 3 7 8 9) ?_)
  refine B3 (k+1) _ _ ?_ ?_ (.t4 3 9 7 8) (.refl _)
  · exact⟨by omega,by omega,by rw [Words.X0 hI11 (by omega) c2,← hI13],(by(try dsimp only at *)<;>(try simp only [List.length_append,List.length_cons,List.length_nil])<;>omega),(by(try simp only [List.length_append,List.length_cons,List.length_nil]);omega)⟩
  · omega
 have c1p:=kz c1
 obtain rfl:k=((Words.pieces 32 s).length:Int):=by omega
 refine Be (AW (AW (Ai ?_)))
 refine AB (.t1 3) ?_
 refine AA (Gs (Gm rfl (Ga rfl (Gn (.t1 2) (Ac ?_)))))
 refine AZ rfl (.tmp rfl .n) ?_
 intro w1 hS
 have hS:=(hS.perm (Ay.perm (.c .h .n))).A4
 exact⟨_,⟨_,rfl,by rw [Words.Oq,← hI13];assumption,by rw [Words.Oq,← hI13]⟩,hS⟩
theorem Dm (s p:Au)(w:World):En Tryz.prog 180 #[BT s,BT p] w fun v w'=>v = .bool (decide ((p.length:Int)≤(s.length:Int)) && decide (s.take p.length=p))∧B9 w w':=by
 refine Am [] [] Tryz.func180 rfl rfl rfl (St.start w []) ?_
 refine Gs (Ga rfl (Gn (.t2 0 1) (Gs (Gm rfl (Gt (BL rfl Tryz.underlying9 rfl) (Gm rfl (Gt (BL rfl Tryz.underlying9 rfl) ?_)))))))
 refine Gt (CK rfl rfl) (Gm rfl (Bb 10 rfl rfl (fun q=>AD rfl) (Bb 10 rfl rfl (fun q=>AD rfl) (Bb 10 rfl rfl (fun q=>BL rfl Tryz.underlying9 (BX rfl q)) ?_))))
 refine Bb 10 rfl rfl (fun q=>by have q1:=q;(try simp at q1);exact Il Tryz.underlying9 (BX rfl q) (BX rfl q) (by omega) (by omega)) ?_
 refine Bb 10 rfl rfl (fun q=>AD rfl) (Bb 10 rfl rfl (fun q=>Bu (BX rfl q) (BX rfl q)) (Gt (BI rfl rfl (fun h=>h)) (Ga rfl (Gn (.t1 4) (Ac ?_)))))
 refine AZ rfl (.tmp rfl .n) ?_
 intro w1 hS;refine⟨?_,hS.Al⟩;rfl
theorem JE (s p:Au)(w:World):En Tryz.prog 169 #[BT s,BT p] w fun v w'=>v = .bool (decide ((p.length:Int)≤(s.length:Int)) && decide (s.take p.length=p))∧B9 w w':=by
 refine Am [] [] Tryz.func169 rfl rfl rfl (St.start w []) ?_
 refine Gs (Ga rfl (Gn (.t2 0 1) (Gs (Gm rfl (Gm rfl ?_)))))
 refine BD rfl Zf (.c rfl (.c rfl .n)) (fun w hS=>Dm _ _ w) ?_
 refine Ga rfl (Gn (.t1 4) (Ac ?_))
 refine AZ rfl (.tmp rfl .n) ?_
 intro w1 hS;refine⟨?_,hS.Al⟩;rfl
theorem Jh (u:Au)(w:World)(gl0:GV 0 AI.DP w):En Tryz.prog 152 #[BT u] w fun v w'=>v = .tuple #[.int .i64 (Words.verb u).1, .int .i64 (Words.verb u).2]∧B9 w w':=by
 refine Am [] [] Tryz.func152 rfl rfl rfl (St.start w []) ?_
 refine Gs (Ga rfl (Ga rfl (Gn (.t1 0) (CD (Gm rfl (Gt (Dt rfl rfl) (Gn (.t2 0 7) ?_)))))))
 refine Gc (fun c1=>?_) (fun c1=>?_)
 ·
  have c1p:=kz c1
  refine Gs (Gt (Wd gl0 Words.UG rfl aC rfl) (Gm rfl (Gn (.t3 0 8 9) (Ag ?_))))
  refine Bo (.t3 9 0 8) ?_
  refine CT (fun(k:Int)=>0≤k∧k≤21∧Words.KH u 21=Words.KH u (21 - k).toNat) (fun(k:Int)=>(21 - k).toNat) (fun(k:Int)=> [(9, .int .i64 k)]) (fun(k:Int)=> []) (0) ?_ rfl rfl (fun k hI1=>?_)
  · exact⟨by omega,by omega,rfl⟩
  obtain⟨hI11,hI12,hI13⟩:=hI1
  refine Gs (Gt (BA rfl rfl) (AQ (AA (Aq ?_))))
  refine Gc (fun c2=>?_) (fun c2=>?_)
  ·
   have c2p:=kz c2
   rw [Words.TO hI11 (by omega)] at hI13
   refine Aa ?_
   refine AB (.t3 0 8 9) ?_
   refine AA (Aq (Ag (Gs (Gm rfl ?_))))
   refine Gt (Kb De Tryz.underlying133 Ez CM rfl rfl (by omega) (by omega) rfl) ?_
   refine Ga rfl (Ga rfl (Gn (.t5 0 4 5 8 9) (Gs (Gm rfl (Gm rfl ?_)))))
   refine BD rfl bp (.c rfl (.c rfl .n)) (fun w hS=>JE _ _ w) ?_
   refine Gn (.t5 0 4 8 9 15) ?_
   refine Gc (fun c3=>?_) (fun c3=>?_)
   ·
    have cp:Words.pre (AI.G1.getD k.toNat []) u=true:=c3
    refine Gs (Gm rfl (Ga rfl (Ga rfl (Gn (.t2 2 3) (Ac (AT (AE ?_)))))))
    refine AE (AT (AE ?_))
    refine AZ rfl (.tmp rfl (.tmp rfl .n)) ?_
    intro w1 hS;refine⟨?_,hS.Al⟩;rw [show Words.verb u=_ from BF c1,hI13,BF cp];rfl
   have c3p:=kz c3
   have cp:Words.pre (AI.G1.getD k.toNat []) u=false:=c3
   refine Aa ?_
   refine AB (.t3 0 8 9) ?_
   refine AV (AA (AJ ?_))
   refine Gt (Ax rfl rfl (IntWalk.i64_in _ (by omega))) ?_
   refine Gm rfl ?_
   refine AQ (AB (.t3 0 8 9) ?_)
   refine Bz (k+1) ?_ ?_ (.t3 9 0 8) (.refl _)
   · exact⟨by omega,by omega,by rw [hI13,AX cp]⟩
   · omega
  have c2p:=kz c2
  obtain rfl:k=21:=by omega
  refine Be (AW (AW (Ai ?_)))
  refine AB (.nil _) ?_
  refine AA (Gs (Ga rfl (Ga rfl (AQ (AA (Ac ?_))))))
  refine AZ rfl (.tmp rfl (.tmp rfl .n)) ?_
  intro w1 hS;refine⟨?_,hS.Al⟩;rw [show Words.verb u=_ from BF c1,hI13];rfl
 refine Aa ?_
 refine AB (.nil _) ?_
 refine AA (Gs (Ga rfl (Ga rfl (AQ (AA (Ac ?_))))))
 refine AZ rfl (.tmp rfl (.tmp rfl .n)) ?_
 intro w1 hS;refine⟨?_,hS.Al⟩;rw [show Words.verb u=_ from AX c1];rfl
theorem Jj (s:Au)(hs:s.length≤10000000)(w:World):En Tryz.prog 153 #[BT s,BT [32]] w fun v w'=>v=BT (Words.QU 32 s)∧B9 w w':=by
 refine Am [] [] Tryz.func153 rfl rfl rfl (St.start w []) ?_
 refine Gs (Ga rfl (Gn (.t2 0 1) (CD (Gm rfl (Gt (Bu rfl rfl) (Gm rfl (Bg 9 rfl rfl (fun q=>AD rfl) ?_)))))))
 refine Bg 9 rfl rfl (fun q=>Bu (cF rfl q) rfl) ?_
 refine Gt (BU rfl rfl (fun h=>by rw [h];rfl)) ?_
 refine Gn (.t3 0 1 12) ?_
 refine Gc (fun c1=>?_) (fun c1=>?_)
 ·
  refine Gs (Gm rfl (Ga rfl (Gn (.t1 4) (Ac (AE ?_)))))
  refine AZ rfl (.tmp rfl .n) ?_
  intro w1 hS;refine⟨?_,hS.Al⟩;have e:s = []:=by simpa using c1
  subst e;rfl
 have c1p:=kz c1
 refine Aa ?_
 refine AB (.t2 0 1) ?_
 refine AA (CD (Gm rfl (Gt (BL rfl Tryz.underlying9 rfl) (Gt (Ak rfl rfl) (Gm rfl (Bb 17 rfl rfl (fun q=>AD rfl) ?_))))))
 refine Bb 17 rfl rfl (fun q=>by have q1:=q;(try simp at q1);exact Bq Tryz.underlying9 (BX rfl q) rfl (by decide) (by(try simp only [List.length_cons,List.length_nil]);omega)) ?_
 refine Bb 17 rfl rfl (fun q=>BA (BX rfl q) rfl) (Gt (BI rfl rfl (fun h=>h)) (Gn (.t3 0 1 21) ?_))
 refine HF rfl rfl ?_
 refine Gs (Gm rfl (Gm rfl ?_))
 refine Gt (Bq Tryz.underlying9 rfl rfl (by decide) (by(try simp only [List.length_cons,List.length_nil]);omega)) ?_
 refine BD rfl ZU (.c rfl (.c rfl .n)) (fun w hS=>FC _ 32 hs w) ?_
 refine Ga rfl (Gn (.t1 4) (Ac (AE ?_)))
 refine AZ rfl (.tmp rfl .n) ?_
 intro w1 hS;refine⟨?_,hS.Al⟩;rfl
theorem Gv (s:Au)(c:UInt8)(hs:s.length≤10000000)(w:World):En Tryz.prog 59 #[BT s,BT [c]] w fun v w'=>v = .tuple #[BT (Words.cut c s).1,BT (Words.cut c s).2.1, .bool (Words.cut c s).2.2]∧B9 w w':=by
 refine Am [] [] Tryz.func59 rfl rfl rfl (St.start w []) ?_
 refine Gs (Ga rfl (Ga rfl (Ga rfl (Gn (.t2 0 1) (CD (Gm rfl (Gm rfl ?_)))))))
 refine BD rfl cB (.c rfl (.c rfl .n)) (fun w hS=>EB _ c w) ?_
 refine Ga rfl (Gn (.t3 0 1 7) (Gs (Gm rfl (Gt (CK rfl rfl) (Gn (.t4 0 1 7 12) ?_)))))
 refine Gc (fun c1=>?_) (fun c1=>?_)
 ·
  have c1p:=kz c1
  have hm:=Words.aG (c:=c) (s:=s) (by simpa using c1)
  refine Aq ?_
  refine BE (N:=12) [0,0,3,0,0,0,32,112,248,7,1023,2047] mix (by kernel_rfl) rfl ?_
  refine Pf 0 rfl (AD rfl) (Pf 1 rfl (AD rfl) (Pf 3 rfl (AD rfl) (Pf 4 rfl (AD rfl) (Pf 5 rfl (AD rfl) (Pf 6 rfl (BL rfl Tryz.underlying9 rfl) ?_)))))
  refine Pf 7 rfl (Ax rfl rfl (IntWalk.i64_in _ (by(try simp only [List.length_cons,List.length_nil]);omega))) ?_
  refine J9 2 8 rfl rfl (by kernel_rfl) ?_ ?_
  ·
   refine Gt (Il Tryz.underlying9 rfl rfl (by(try simp only [List.length_cons,List.length_nil]);omega) (by(try simp only [List.length_cons,List.length_nil]);omega)) ?_
   refine Bf rfl ⟨?_,?_⟩
   · exact(Po rfl (Ax rfl rfl (IntWalk.i64_in _ (by(try simp only [List.length_cons,List.length_nil]);omega))) rfl rfl (Po rfl (BL rfl Tryz.underlying9 rfl) rfl rfl (Po rfl (AD rfl) rfl rfl (Po rfl (AD rfl) rfl rfl (Po rfl (AD rfl) rfl rfl (Pk (Pk Ar)))))))
   refine Pf 9 rfl (A2 rfl) ?_
   refine Af 8 rfl (by kernel_rfl) ?_
   refine Gt (Gu Tryz.underlying9 rfl rfl (by(try simp only [List.length_cons,List.length_nil]);omega) (by(try simp only [List.length_cons,List.length_nil]);omega)) ?_
   refine Bf rfl ⟨?_,?_⟩
   · exact(Po rfl (A2 rfl) rfl rfl (Pk (Pk (Pk (Pk (Pk (Po rfl (AD rfl) rfl rfl (Po rfl (AD rfl) rfl rfl Ar))))))))
   refine Pf 10 rfl (A2 rfl) (Pf 11 rfl (A2 rfl) ?_)
   refine A1 (by kernel_rfl) ?_
   refine AB (.t3 4 5 6) ?_
   refine AA (Ac (AE ?_))
   refine AZ rfl (.tmp rfl (.tmp rfl (.tmp rfl .n))) ?_
   intro w1 hS;refine⟨?_,hS.Al⟩;rw [show Words.cut c s=_ from(BF c1)];rfl
  ·
   refine Gt (Gu Tryz.underlying9 rfl rfl (by(try simp only [List.length_cons,List.length_nil]);omega) (by(try simp only [List.length_cons,List.length_nil]);omega)) ?_
   refine Bf rfl ⟨?_,?_⟩
   · exact(Pk (Pk (Pk (Pk (Pk (Po rfl (AD rfl) rfl rfl (Po rfl (AD rfl) rfl rfl Ar)))))))
   refine Af 2 rfl (by kernel_rfl) ?_
   refine Gt (Il Tryz.underlying9 rfl rfl (by(try simp only [List.length_cons,List.length_nil]);omega) (by(try simp only [List.length_cons,List.length_nil]);omega)) ?_
   refine Bf rfl ⟨?_,?_⟩
   · exact(Po rfl (Ax rfl rfl (IntWalk.i64_in _ (by(try simp only [List.length_cons,List.length_nil]);omega))) rfl rfl (Po rfl (BL rfl Tryz.underlying9 rfl) rfl rfl (Po rfl (AD rfl) rfl rfl (Po rfl (AD rfl) rfl rfl (Po rfl (AD rfl) rfl rfl (Pk (Pk Ar)))))))
   refine Pf 9 rfl (A2 rfl) (Pf 10 rfl (A2 rfl) (Pf 11 rfl (A2 rfl) ?_))
   refine A1 (by kernel_rfl) ?_
   refine AB (.t3 4 5 6) ?_
   refine AA (Ac (AE ?_))
   refine AZ rfl (.tmp rfl (.tmp rfl (.tmp rfl .n))) ?_
   intro w1 hS;refine⟨?_,hS.Al⟩;rw [show Words.cut c s=_ from(BF c1)];rfl
 refine Aa ?_
 refine AB (.t1 0) ?_
 refine AA (Gs (Gm rfl (Ga rfl (Ga rfl (Ga rfl (Gn (.t3 4 5 6) (Ac ?_)))))))
 refine AZ rfl (.tmp rfl (.tmp rfl (.tmp rfl .n))) ?_
 intro w1 hS;refine⟨?_,hS.Al⟩;rw [show Words.cut c s=_ from(AX c1)];rfl
theorem Iz (s:Au)(c:UInt8)(hs:s.length≤10000000)(w:World):En Tryz.prog 30 #[BT s,BT [c]] w fun v w'=>v = .tuple #[BT (Words.cut c s).1,BT (Words.cut c s).2.1, .bool (Words.cut c s).2.2]∧B9 w w':=by
 refine Am [] [] Tryz.func30 rfl rfl rfl (St.start w []) ?_
 refine Gs (Ga rfl (Ga rfl (Ga rfl (Gn (.t2 0 1) (Gs (Gm rfl (Gm rfl ?_)))))))
 refine BD rfl dt (.c rfl (.c rfl .n)) (fun w hS=>Gv _ c hs w) ?_
 refine Gt (AL rfl rfl) (Gt (AL rfl rfl) (Gt (AL rfl rfl) (Ga rfl (Ga rfl (Ga rfl (Gn (.t3 4 5 6) (Ac ?_)))))))
 refine AZ rfl (.tmp rfl (.tmp rfl (.tmp rfl .n))) ?_
 intro w1 hS;refine⟨?_,hS.Al⟩;rfl
theorem FO (s p:Au)(w:World):En Tryz.prog 181 #[BT s,BT p] w fun v w'=>v = .tuple #[BT (Words.NG s p).1, .bool (Words.NG s p).2]∧B9 w w':=by
 refine Am [] [] Tryz.func181 rfl rfl rfl (St.start w []) ?_
 refine Gs (Ga rfl (Ga rfl (Gn (.t2 0 1) (CD (Gm rfl (Gm rfl ?_))))))
 refine BD rfl Zf (.c rfl (.c rfl .n)) (fun w hS=>Dm _ _ w) ?_
 refine Gt (BR rfl) (Gn (.t3 0 1 9) ?_)
 refine Gc (fun c1=>?_) (fun c1=>?_)
 ·
  refine Gs (Gm rfl (Ga rfl (Ga rfl (Gn (.t2 4 5) (Ac (AE ?_))))))
  refine AZ rfl (.tmp rfl (.tmp rfl .n)) ?_
  intro w1 hS;refine⟨?_,hS.Al⟩;rw [show Words.NG s p=_ from(BF c1)];rfl
 have c1p:=kz c1
 have hle:p.length≤s.length:=by simp at c1;omega
 refine Aa ?_
 refine AB (.t2 0 1) ?_
 refine AA (Gs (Gm rfl (Gm rfl (Gt (BL rfl Tryz.underlying9 rfl) ?_))))
 refine Gt (Gu Tryz.underlying9 rfl rfl (by omega) (by omega)) ?_
 refine Ga rfl (Ga rfl (Gn (.t2 4 5) (Ac ?_)))
 refine AZ rfl (.tmp rfl (.tmp rfl .n)) ?_
 intro w1 hS;refine⟨?_,hS.Al⟩;rw [show Words.NG s p=_ from(AX c1)];rfl
theorem JQ (s p:Au)(w:World):En Tryz.prog 170 #[BT s,BT p] w fun v w'=>v = .tuple #[BT (Words.NG s p).1, .bool (Words.NG s p).2]∧B9 w w':=by
 refine Am [] [] Tryz.func170 rfl rfl rfl (St.start w []) ?_
 refine Gs (Ga rfl (Ga rfl (Gn (.t2 0 1) (Gs (Gm rfl (Gm rfl ?_))))))
 refine BD rfl bC (.c rfl (.c rfl .n)) (fun w hS=>FO _ _ w) ?_
 refine Gt (AL rfl rfl) (Gt (AL rfl rfl) (Ga rfl (Ga rfl (Gn (.t2 4 5) (Ac ?_)))))
 refine AZ rfl (.tmp rfl (.tmp rfl .n)) ?_
 intro w1 hS;refine⟨?_,hS.Al⟩;rfl
theorem GI (s:Au)(c:UInt8)(w:World):En Tryz.prog 171 #[BT s,BT [c]] w fun v w'=>v = .bool (decide (0≤Lib.indexByte s c))∧B9 w w':=by
 refine Am [] [] Tryz.func171 rfl rfl rfl (St.start w []) ?_
 refine Gs (Ga rfl (Gn (.t2 0 1) (Gs (Gm rfl (Gm rfl ?_)))))
 refine BD rfl W4 (.c rfl (.c rfl .n)) (fun w hS=>FY _ c w) ?_
 refine Gt (CK rfl rfl) (Ga rfl (Gn (.t1 4) (Ac ?_)))
 refine AZ rfl (.tmp rfl .n) ?_
 intro w1 hS;refine⟨?_,hS.Al⟩;rfl
def Q7:Go.Shelf.Ren:=⟨fun | 172=>172 | 244=>182 | 245=>183 | 247=>188 | 279=>189 | 280=>190 | 281=>191 | 282=>192 | 287=>194 | 316=>195 | 171=>53 | 205=>196 | 321=>197 | 322=>198 | 243=>72 | 246=>86 | 283=>108 | 284=>109 | 285=>110 | 286=>111 | 129=>142 | 317=>141 | 318=>143 | 319=>144 | 320=>145 | 337=>162 | 338=>163 | n=>n,fun | 9=>9 | 3=>3 | 75=>109 | 76=>111 | 4=>4 | 5=>5 | 167=>237 | 37=>105 | 0=>0 | 85=>238 | 2=>2 | 168=>240 | 53=>173 | 175=>244 | 46=>140 | 210=>247 | 127=>134 | 145=>252 | 143=>250 | 21=>21 | 171=>172 | 173=>176 | 212=>205 | 51=>178 | 20=>20 | 213=>206 | 232=>226 | 233=>227 | 80=>114 | n=>n,fun | 15=>7 | 16=>8 | 17=>2 | 18=>3 | 19=>4 | n=>n⟩
theorem YI:LaysC.n172 Tryz.prog Q7 where
  mixed:=by kernel_rfl
  f129:=Tryz.func142.trans (congrArg some (by kernel_rfl))
  f171:=Tryz.func53.trans (congrArg some (by kernel_rfl))
  f172:=Tryz.func172.trans (congrArg some (by kernel_rfl))
  f205:=Tryz.func196.trans (congrArg some (by kernel_rfl))
  f243:=Tryz.func72.trans (congrArg some (by kernel_rfl))
  f244:=Tryz.func182.trans (congrArg some (by kernel_rfl))
  f245:=Tryz.func183.trans (congrArg some (by kernel_rfl))
  f246:=Tryz.func86.trans (congrArg some (by kernel_rfl))
  f247:=Tryz.func188.trans (congrArg some (by kernel_rfl))
  f279:=Tryz.func189.trans (congrArg some (by kernel_rfl))
  f280:=Tryz.func190.trans (congrArg some (by kernel_rfl))
  f281:=Tryz.func191.trans (congrArg some (by kernel_rfl))
  f282:=Tryz.func192.trans (congrArg some (by kernel_rfl))
  f283:=Tryz.func108.trans (congrArg some (by kernel_rfl))
  f284:=Tryz.func109.trans (congrArg some (by kernel_rfl))
  f285:=Tryz.func110.trans (congrArg some (by kernel_rfl))
  f286:=Tryz.func111.trans (congrArg some (by kernel_rfl))
  f287:=Tryz.func194.trans (congrArg some (by kernel_rfl))
  f316:=Tryz.func195.trans (congrArg some (by kernel_rfl))
  f317:=Tryz.func141.trans (congrArg some (by kernel_rfl))
  f318:=Tryz.func143.trans (congrArg some (by kernel_rfl))
  f319:=Tryz.func144.trans (congrArg some (by kernel_rfl))
  f320:=Tryz.func145.trans (congrArg some (by kernel_rfl))
  f321:=Tryz.func197.trans (congrArg some (by kernel_rfl))
  f322:=Tryz.func198.trans (congrArg some (by kernel_rfl))
  f337:=Tryz.func162.trans (congrArg some (by kernel_rfl))
  f338:=Tryz.func163.trans (congrArg some (by kernel_rfl))
  t0:=Tryz.underlying0
  a0:=Tryz.isAgg0
  z0:=Tryz.sizeOf0
  v0:=Tryz.zeroValue0
  t2:=Tryz.underlying2
  a2:=Tryz.isAgg2
  z2:=Tryz.sizeOf2
  v2:=Tryz.zeroValue2
  t3:=Tryz.underlying3
  a3:=Tryz.isAgg3
  z3:=Tryz.sizeOf3
  v3:=Tryz.zeroValue3
  t4:=Tryz.underlying4
  a4:=Tryz.isAgg4
  z4:=Tryz.sizeOf4
  v4:=Tryz.zeroValue4
  t5:=Tryz.underlying5
  a5:=Tryz.isAgg5
  z5:=Tryz.sizeOf5
  v5:=Tryz.zeroValue5
  t9:=Tryz.underlying9
  a9:=Tryz.isAgg9
  z9:=Tryz.sizeOf9
  v9:=Tryz.zeroValue9
  t20:=Tryz.underlying20
  a20:=Tryz.isAgg20
  z20:=Tryz.sizeOf20
  v20:=Tryz.zeroValue20
  t21:=Tryz.underlying21
  a21:=Tryz.isAgg21
  z21:=Tryz.sizeOf21
  v21:=Tryz.zeroValue21
  t37:=Tryz.underlying105
  a37:=Tryz.isAgg105
  z37:=Tryz.sizeOf105
  v37:=Tryz.zeroValue105
  t46:=Tryz.underlying140
  a46:=Tryz.isAgg140
  z46:=Tryz.sizeOf140
  v46:=Tryz.zeroValue140
  t51:=Tryz.underlying178
  a51:=Tryz.isAgg178
  z51:=Tryz.sizeOf178
  v51:=Tryz.zeroValue178
  t53:=Tryz.underlying173
  a53:=Tryz.isAgg173
  z53:=Tryz.sizeOf173
  v53:=Tryz.zeroValue173
  t75:=Tryz.underlying109
  a75:=Tryz.isAgg109
  z75:=Tryz.sizeOf109
  v75:=Tryz.zeroValue109
  t76:=Tryz.underlying111
  a76:=Tryz.isAgg111
  z76:=Tryz.sizeOf111
  v76:=Tryz.zeroValue111
  t85:=Tryz.underlying238
  a85:=Tryz.isAgg238
  z85:=Tryz.sizeOf238
  v85:=Tryz.zeroValue238
  t127:=Tryz.underlying134
  a127:=Tryz.isAgg134
  z127:=Tryz.sizeOf134
  v127:=Tryz.zeroValue134
  t143:=Tryz.underlying250
  a143:=Tryz.isAgg250
  z143:=Tryz.sizeOf250
  v143:=Tryz.zeroValue250
  t145:=Tryz.underlying252
  a145:=Tryz.isAgg252
  z145:=Tryz.sizeOf252
  v145:=Tryz.zeroValue252
  t167:=Tryz.underlying237
  a167:=Tryz.isAgg237
  z167:=Tryz.sizeOf237
  v167:=Tryz.zeroValue237
  t168:=Tryz.underlying240
  a168:=Tryz.isAgg240
  z168:=Tryz.sizeOf240
  v168:=Tryz.zeroValue240
  t171:=Tryz.underlying172
  a171:=Tryz.isAgg172
  z171:=Tryz.sizeOf172
  v171:=Tryz.zeroValue172
  t173:=Tryz.underlying176
  a173:=Tryz.isAgg176
  z173:=Tryz.sizeOf176
  v173:=Tryz.zeroValue176
  t175:=Tryz.underlying244
  a175:=Tryz.isAgg244
  z175:=Tryz.sizeOf244
  v175:=Tryz.zeroValue244
  t210:=Tryz.underlying247
  a210:=Tryz.isAgg247
  z210:=Tryz.sizeOf247
  v210:=Tryz.zeroValue247
  t212:=Tryz.underlying205
  a212:=Tryz.isAgg205
  z212:=Tryz.sizeOf205
  v212:=Tryz.zeroValue205
  t213:=Tryz.underlying206
  a213:=Tryz.isAgg206
  z213:=Tryz.sizeOf206
  t232:=Tryz.underlying226
  a232:=Tryz.isAgg226
  z232:=Tryz.sizeOf226
  v232:=Tryz.zeroValue226
  t233:=Tryz.underlying227
  a233:=Tryz.isAgg227
  z233:=Tryz.sizeOf227
  v233:=Tryz.zeroValue227
  g15:=by kernel_rfl
  g16:=by kernel_rfl
  g17:=by kernel_rfl
  g18:=by kernel_rfl
  g19:=by kernel_rfl
  t80:=Tryz.underlying114
  a80:=Tryz.isAgg114
  z80:=Tryz.sizeOf114
  v80:=Tryz.zeroValue114
  i0:=by kernel_rfl
  i2:=by kernel_rfl
  i3:=by kernel_rfl
  i4:=by kernel_rfl
  i5:=by kernel_rfl
  i9:=by kernel_rfl
  i20:=by kernel_rfl
  i21:=by kernel_rfl
  i37:=by kernel_rfl
  i46:=by kernel_rfl
  i51:=by kernel_rfl
  i53:=by kernel_rfl
  i75:=by kernel_rfl
  i76:=by kernel_rfl
  i80:=by kernel_rfl
  i85:=by kernel_rfl
  i127:=by kernel_rfl
  i143:=by kernel_rfl
  i145:=by kernel_rfl
  i167:=by kernel_rfl
  i168:=by kernel_rfl
  i171:=by kernel_rfl
  i173:=by kernel_rfl
  i175:=by kernel_rfl
  i210:=by kernel_rfl
  i212:=by kernel_rfl
  i232:=by kernel_rfl
  i233:=by kernel_rfl
  m15:=by kernel_rfl
  m16:=by kernel_rfl
  m17:=by kernel_rfl
  m18:=by kernel_rfl
  m19:=by kernel_rfl
  c0:=by kernel_rfl
  c2:=by kernel_rfl
  c3:=by kernel_rfl
  c4:=by kernel_rfl
  c5:=by kernel_rfl
  c9:=by kernel_rfl
  c20:=by kernel_rfl
  c21:=by kernel_rfl
  c37:=by kernel_rfl
  c46:=by kernel_rfl
  c51:=by kernel_rfl
  c53:=by kernel_rfl
  c75:=by kernel_rfl
  c76:=by kernel_rfl
  c80:=by kernel_rfl
  c85:=by kernel_rfl
  c127:=by kernel_rfl
  c143:=by kernel_rfl
  c145:=by kernel_rfl
  c167:=by kernel_rfl
  c168:=by kernel_rfl
  c171:=by kernel_rfl
  c173:=by kernel_rfl
  c175:=by kernel_rfl
  c210:=by kernel_rfl
  c212:=by kernel_rfl
  c213:=by kernel_rfl
  c232:=by kernel_rfl
  c233:=by kernel_rfl
theorem Li (s:Au)(hs:s.length≤10000000):Fa Tryz.prog 172 #[BT s] [] (fun w=>G3 7 w∧G3 8 w) (fun v B=>(∃ k:Int,Lib.atoiAll s = .ok k∧v = .tuple #[.int .i64 k, .nilIface]∧B = [])∨(∃(k:Int) (t:TypeId) (x:Value),(∀ j,Lib.atoiAll s≠ .ok j)∧v = .tuple #[.int .i64 k, .iface t x]∧B = [])):=
  YJ YI s hs (by kernel_rfl) (by kernel_rfl)
end Go.Proofs.YtoidpggbbfncpaaGreatDoor

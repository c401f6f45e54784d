/- What the functions that the law TopGood reaches compute: walks, part 3. No condition. -/
import Derived.Test.YtoidpggbbfncpaaGreatDoorCards
import Derived.Test.YtoidpggbbfncpaaGreatDoorTie
import Derived.Deep.DeepHandedRow
import Derived.Test.YtoidpggbbfncpaaGreatDoorRows
import Derived.Test.YtoidpggbbfncpaaGreatDoorTopGoodEc3
import Derived.Test.YtoidpggbbfncpaaGreatDoorTopGoodRa1
import Derived.Test.YtoidpggbbfncpaaGreatDoorTopGoodRb1
import Derived.Test.YtoidpggbbfncpaaGreatDoorTopGoodRc1
import Derived.Test.YtoidpggbbfncpaaGreatDoorTopGoodWalks
import Derived.Test.YtoidpggbbfncpaaGreatDoorTopGoodWalks2
set_option linter.unusedSimpArgs false
set_option linter.unusedVariables false
set_option maxRecDepth 100000
set_option maxHeartbeats 1000000
namespace Go.Proofs.YtoidpggbbfncpaaGreatDoor
open Go Go.Ing Go.RowKit Go.ChangeShapes Go.WideShapes Go.ChangeAt
theorem MF (s:Aq)(hs:s.length≤4000000):JO Tryz.prog 151 #[BU s] [] (fun v B=>∃ h':Hd,v=h'.val∧h'.len=(Words.words s).length∧B = [Ac.own h' 9 1 ((Words.words s).flatMap A7)]):=by
 intro w hS0
 have hpl:=Words.FQ 32 s
 have hcl:=List.count_le_length (a:=(32:UInt8)) (l:=s)
 refine Ak _ _ Tryz.func151 rfl rfl rfl (hS0) ?_
 refine Gs (Ga rfl (Gn (.t1 0) (Gs (Ga rfl (AR (AA (CB ?_)))))))
 refine Gm rfl ?_
 refine Ai rfl bp (.c rfl (.c rfl .n)) .n (Ks _ 32 (by omega)) (fun v1 B hv=>?_)
 obtain⟨y2,rfl,y3,rfl⟩:=hv
 refine Gt (Av rfl Tryz.underlying52 rfl) (Gm rfl (Gn (.t4 3 7 8 9) (Ae ?_)))
 refine Bo (.t4 3 9 7 8) ?_
 refine E0 A7 9 1 ?_
 refine Dt (fun(k:Int) (xs:List Aq) (g:Hd)=>0≤k∧k≤((Words.pieces 32 s).length:Int)∧xs=Words.I6 s k.toNat∧g.len=xs.length∧xs.length≤k.toNat) (fun(k:Int) (xs:List Aq) (g:Hd)=>(((Words.pieces 32 s).length:Int) - k).toNat) (fun(k:Int) (xs:List Aq) (g:Hd)=> [(3,g.val),(9, .int .i64 k)]) (fun(k:Int) (xs:List Aq) (g:Hd)=> [Ac.own g 9 1 (xs.flatMap A7)]) (0) ([]) (_) ?_ rfl rfl (fun k xs g hI1=>?_)
 · exact⟨by omega,by omega,rfl,rfl,by simp⟩
 obtain⟨hI11,hI12,hI13,hI14,hI15⟩:=hI1
 refine Gs (Gt (A8 rfl rfl) (AR (AA (Ap ?_))))
 refine Gc (fun c1=>?_) (fun c1=>?_)
 ·
  have c1p:=kz c1
  refine Aa ?_
  refine AB (.t4 3 7 8 9) ?_
  refine AA (Ap (Ae (Gs ?_)))
  refine Gt (Br JU (by decide) (Kn.own .m1) rfl rfl (by omega) (by omega)) ?_
  refine Gt (Dj rfl CP (Kn.own .m1) (by omega)) ?_
  refine Ga rfl (Gn (.t5 3 5 7 8 9) (Gs (Gm rfl (Gt (D1 rfl rfl) (Gn (.t6 3 5 7 8 9 14) ?_)))))
  refine Gc (fun c2=>?_) (fun c2=>?_)
  ·
   have c2p:=kz c2
   refine AJ (Gm rfl (Gm rfl ?_))
   refine BA rfl bm (.c rfl .n) (fun w hS=>OZ _ (by have:=Words.VK (c:=32) (s:=s) k.toNat;omega) w) ?_
   refine Fv A7 DZ rfl Tryz.underlying52 Em RX rfl (by decide) (by decide) rfl rfl (fun b1=>?_)
   refine Cd DZ rfl Tryz.underlying52 Em RX rfl Ws (by decide) (by decide) rfl rfl (fun w hS=>Src.Dz Tryz.underlying52 ((Kn.own .m0) w hS)) (by(try dsimp only);omega) (fun _=>(.t .h)) (fun h5 h5l h5z=>?_)
   refine Ga rfl ?_
   refine AR (AB (.t4 3 7 8 9) ?_)
   refine AV (AA (AJ ?_))
   refine Gt (Aw rfl rfl (IntWalk.i64_in _ (by omega))) ?_
   refine Gm rfl ?_
   refine AR (AB (.t4 3 7 8 9) ?_)
   refine Bw (k+1) _ _ ?_ ?_ (.t4 3 9 7 8) (.cons _ (.refl _))
   · exact⟨by omega,by omega,by rw [Words.Xa hI11 (by omega) c2,← hI13],(by(try dsimp only at *)<;>(try simp only [List.length_append,List.length_cons,List.length_nil])<;>omega),(by(try simp only [List.length_append,List.length_cons,List.length_nil]);omega)⟩
   · omega
  have c2p:=kz c2
  refine Aa ?_
  refine AB (.t4 3 7 8 9) ?_
  refine AV (AA (AJ ?_))
  refine Gt (Aw rfl rfl (IntWalk.i64_in _ (by omega))) ?_
  refine Gm rfl ?_
  refine AR (AB (.t4 3 7 8 9) ?_)
  refine Bw (k+1) _ _ ?_ ?_ (.t4 3 9 7 8) (.refl _)
  · exact⟨by omega,by omega,by rw [Words.Xy hI11 (by omega) c2,← hI13],(by(try dsimp only at *)<;>(try simp only [List.length_append,List.length_cons,List.length_nil])<;>omega),(by(try simp only [List.length_append,List.length_cons,List.length_nil]);omega)⟩
  · omega
 have c1p:=kz c1
 obtain rfl:k=((Words.pieces 32 s).length:Int):=by omega
 refine Ba (AW (AW (Af ?_)))
 refine AB (.t1 3) ?_
 refine AA (Gs (Gm rfl (Ga rfl (Gn (.t1 2) (Ab ?_)))))
 refine AZ rfl (.tmp rfl .n) ?_
 intro w1 hS
 have hS:=(hS.perm (Ax.perm (.c .h .n))).A1
 exact⟨_,⟨_,rfl,by rw [Words.Ov,← hI13];assumption,by rw [Words.Ov,← hI13]⟩,hS⟩
theorem De (s p:Aq)(w:World):Eh Tryz.prog 180 #[BU s,BU p] w fun v w'=>v = .bool (decide ((p.length:Int)≤(s.length:Int)) && decide (s.take p.length=p))∧CA w w':=by
 refine Ak [] [] Tryz.func180 rfl rfl rfl (St.start w []) ?_
 refine Gs (Ga rfl (Gn (.t2 0 1) (Gs (Gm rfl (Gt (BH rfl Tryz.underlying9 rfl) (Gm rfl (Gt (BH rfl Tryz.underlying9 rfl) ?_)))))))
 refine Gt (CI rfl rfl) (Gm rfl (Bl 10 rfl rfl (fun q=>AE rfl) (Bl 10 rfl rfl (fun q=>AE rfl) (Bl 10 rfl rfl (fun q=>BH rfl Tryz.underlying9 (Bf rfl q)) ?_))))
 refine Bl 10 rfl rfl (fun q=>by have q1:=q;(try simp at q1);exact IW Tryz.underlying9 (Bf rfl q) (Bf rfl q) (by omega) (by omega)) ?_
 refine Bl 10 rfl rfl (fun q=>AE rfl) (Bl 10 rfl rfl (fun q=>Bt (Bf rfl q) (Bf rfl q)) (Gt (BJ rfl rfl (fun h=>h)) (Ga rfl (Gn (.t1 4) (Ab ?_)))))
 refine AZ rfl (.tmp rfl .n) ?_
 intro w1 hS;refine⟨?_,hS.Am⟩;rfl
theorem Iz (s p:Aq)(w:World):Eh Tryz.prog 169 #[BU s,BU p] w fun v w'=>v = .bool (decide ((p.length:Int)≤(s.length:Int)) && decide (s.take p.length=p))∧CA w w':=by
 refine Ak [] [] Tryz.func169 rfl rfl rfl (St.start w []) ?_
 refine Gs (Ga rfl (Gn (.t2 0 1) (Gs (Gm rfl (Gm rfl ?_)))))
 refine BA rfl ZQ (.c rfl (.c rfl .n)) (fun w hS=>De _ _ w) ?_
 refine Ga rfl (Gn (.t1 4) (Ab ?_))
 refine AZ rfl (.tmp rfl .n) ?_
 intro w1 hS;refine⟨?_,hS.Am⟩;rfl
theorem JL (u:Aq)(w:World)(gl0:GV 0 AH.DG w):Eh Tryz.prog 152 #[BU u] w fun v w'=>v = .tuple #[.int .i64 (Words.verb u).1, .int .i64 (Words.verb u).2]∧CA w w':=by
 refine Ak [] [] Tryz.func152 rfl rfl rfl (St.start w []) ?_
 refine Gs (Ga rfl (Ga rfl (Gn (.t1 0) (CB (Gm rfl (Gt (D1 rfl rfl) (Gn (.t2 0 7) ?_)))))))
 refine Gc (fun c1=>?_) (fun c1=>?_)
 ·
  have c1p:=kz c1
  refine Gs (Gt (XX gl0 Words.Tk rfl Zj rfl) (Gm rfl (Gn (.t3 0 8 9) (Ae ?_))))
  refine Bo (.t3 9 0 8) ?_
  refine CQ (fun(k:Int)=>0≤k∧k≤21∧Words.J1 u 21=Words.J1 u (21 - k).toNat) (fun(k:Int)=>(21 - k).toNat) (fun(k:Int)=> [(9, .int .i64 k)]) (fun(k:Int)=> []) (0) ?_ rfl rfl (fun k hI1=>?_)
  · exact⟨by omega,by omega,rfl⟩
  obtain⟨hI11,hI12,hI13⟩:=hI1
  refine Gs (Gt (A8 rfl rfl) (AR (AA (Ap ?_))))
  refine Gc (fun c2=>?_) (fun c2=>?_)
  ·
   have c2p:=kz c2
   rw [Words.Sq hI11 (by omega)] at hI13
   refine Aa ?_
   refine AB (.t3 0 8 9) ?_
   refine AA (Ap (Ae (Gs (Gm rfl ?_))))
   refine Gt (KN DZ Tryz.underlying133 Em CP rfl rfl (by omega) (by omega) rfl) ?_
   refine Ga rfl (Ga rfl (Gn (.t5 0 4 5 8 9) (Gs (Gm rfl (Gm rfl ?_)))))
   refine BA rfl bE (.c rfl (.c rfl .n)) (fun w hS=>Iz _ _ w) ?_
   refine Gn (.t5 0 4 8 9 15) ?_
   refine Gc (fun c3=>?_) (fun c3=>?_)
   ·
    have cp:Words.pre (AH.GW.getD k.toNat []) u=true:=c3
    refine Gs (Gm rfl (Ga rfl (Ga rfl (Gn (.t2 2 3) (Ab (AT (AD ?_)))))))
    refine AD (AT (AD ?_))
    refine AZ rfl (.tmp rfl (.tmp rfl .n)) ?_
    intro w1 hS;refine⟨?_,hS.Am⟩;rw [show Words.verb u=_ from BB c1,hI13,BB cp];rfl
   have c3p:=kz c3
   have cp:Words.pre (AH.GW.getD k.toNat []) u=false:=c3
   refine Aa ?_
   refine AB (.t3 0 8 9) ?_
   refine AV (AA (AJ ?_))
   refine Gt (Aw rfl rfl (IntWalk.i64_in _ (by omega))) ?_
   refine Gm rfl ?_
   refine AR (AB (.t3 0 8 9) ?_)
   refine Bx (k+1) ?_ ?_ (.t3 9 0 8) (.refl _)
   · exact⟨by omega,by omega,by rw [hI13,AX cp]⟩
   · omega
  have c2p:=kz c2
  obtain rfl:k=21:=by omega
  refine Ba (AW (AW (Af ?_)))
  refine AB (.nil _) ?_
  refine AA (Gs (Ga rfl (Ga rfl (AR (AA (Ab ?_))))))
  refine AZ rfl (.tmp rfl (.tmp rfl .n)) ?_
  intro w1 hS;refine⟨?_,hS.Am⟩;rw [show Words.verb u=_ from BB c1,hI13];rfl
 refine Aa ?_
 refine AB (.nil _) ?_
 refine AA (Gs (Ga rfl (Ga rfl (AR (AA (Ab ?_))))))
 refine AZ rfl (.tmp rfl (.tmp rfl .n)) ?_
 intro w1 hS;refine⟨?_,hS.Am⟩;rw [show Words.verb u=_ from AX c1];rfl
theorem JS (s:Aq)(hs:s.length≤10000000)(w:World):Eh Tryz.prog 153 #[BU s,BU [32]] w fun v w'=>v=BU (Words.QA 32 s)∧CA w w':=by
 refine Ak [] [] Tryz.func153 rfl rfl rfl (St.start w []) ?_
 refine Gs (Ga rfl (Gn (.t2 0 1) (CB (Gm rfl (Gt (Bt rfl rfl) (Gm rfl (BZ 9 rfl rfl (fun q=>AE rfl) ?_)))))))
 refine BZ 9 rfl rfl (fun q=>Bt (cF rfl q) rfl) ?_
 refine Gt (BS rfl rfl (fun h=>by rw [h];rfl)) ?_
 refine Gn (.t3 0 1 12) ?_
 refine Gc (fun c1=>?_) (fun c1=>?_)
 ·
  refine Gs (Gm rfl (Ga rfl (Gn (.t1 4) (Ab (AD ?_)))))
  refine AZ rfl (.tmp rfl .n) ?_
  intro w1 hS;refine⟨?_,hS.Am⟩;have e:s = []:=by simpa using c1
  subst e;rfl
 have c1p:=kz c1
 refine Aa ?_
 refine AB (.t2 0 1) ?_
 refine AA (CB (Gm rfl (Gt (BH rfl Tryz.underlying9 rfl) (Gt (Aj rfl rfl) (Gm rfl (Bl 17 rfl rfl (fun q=>AE rfl) ?_))))))
 refine Bl 17 rfl rfl (fun q=>by have q1:=q;(try simp at q1);exact Bm Tryz.underlying9 (Bf rfl q) rfl (by decide) (by(try simp only [List.length_cons,List.length_nil]);omega)) ?_
 refine Bl 17 rfl rfl (fun q=>A8 (Bf rfl q) rfl) (Gt (BJ rfl rfl (fun h=>h)) (Gn (.t3 0 1 21) ?_))
 refine G4 rfl rfl ?_
 refine Gs (Gm rfl (Gm rfl ?_))
 refine Gt (Bm Tryz.underlying9 rfl rfl (by decide) (by(try simp only [List.length_cons,List.length_nil]);omega)) ?_
 refine BA rfl ZP (.c rfl (.c rfl .n)) (fun w hS=>Ey _ 32 hs w) ?_
 refine Ga rfl (Gn (.t1 4) (Ab (AD ?_)))
 refine AZ rfl (.tmp rfl .n) ?_
 intro w1 hS;refine⟨?_,hS.Am⟩;rfl
theorem GU (s:Aq)(c:UInt8)(hs:s.length≤10000000)(w:World):Eh Tryz.prog 59 #[BU s,BU [c]] w fun v w'=>v = .tuple #[BU (Words.cut c s).1,BU (Words.cut c s).2.1, .bool (Words.cut c s).2.2]∧CA w w':=by
 refine Ak [] [] Tryz.func59 rfl rfl rfl (St.start w []) ?_
 refine Gs (Ga rfl (Ga rfl (Ga rfl (Gn (.t2 0 1) (CB (Gm rfl (Gm rfl ?_)))))))
 refine BA rfl bC (.c rfl (.c rfl .n)) (fun w hS=>D4 _ c w) ?_
 refine Ga rfl (Gn (.t3 0 1 7) (Gs (Gm rfl (Gt (CI rfl rfl) (Gn (.t4 0 1 7 12) ?_)))))
 refine Gc (fun c1=>?_) (fun c1=>?_)
 ·
  have c1p:=kz c1
  have hm:=Words.Z6 (c:=c) (s:=s) (by simpa using c1)
  refine Ap ?_
  refine BE (N:=12) [0,0,3,0,0,0,32,112,248,7,1023,2047] mix (by kernel_rfl) rfl ?_
  refine Pf 0 rfl (AE rfl) (Pf 1 rfl (AE rfl) (Pf 3 rfl (AE rfl) (Pf 4 rfl (AE rfl) (Pf 5 rfl (AE rfl) (Pf 6 rfl (BH rfl Tryz.underlying9 rfl) ?_)))))
  refine Pf 7 rfl (Aw rfl rfl (IntWalk.i64_in _ (by(try simp only [List.length_cons,List.length_nil]);omega))) ?_
  refine J4 2 8 rfl rfl (by kernel_rfl) ?_ ?_
  ·
   refine Gt (IW Tryz.underlying9 rfl rfl (by(try simp only [List.length_cons,List.length_nil]);omega) (by(try simp only [List.length_cons,List.length_nil]);omega)) ?_
   refine Bp rfl ⟨?_,?_⟩
   · exact(Po rfl (Aw rfl rfl (IntWalk.i64_in _ (by(try simp only [List.length_cons,List.length_nil]);omega))) rfl rfl (Po rfl (BH rfl Tryz.underlying9 rfl) rfl rfl (Po rfl (AE rfl) rfl rfl (Po rfl (AE rfl) rfl rfl (Po rfl (AE rfl) rfl rfl (Pk (Pk Ar)))))))
   refine Pf 9 rfl (A0 rfl) ?_
   refine An 8 rfl (by kernel_rfl) ?_
   refine Gt (Gg Tryz.underlying9 rfl rfl (by(try simp only [List.length_cons,List.length_nil]);omega) (by(try simp only [List.length_cons,List.length_nil]);omega)) ?_
   refine Bp rfl ⟨?_,?_⟩
   · exact(Po rfl (A0 rfl) rfl rfl (Pk (Pk (Pk (Pk (Pk (Po rfl (AE rfl) rfl rfl (Po rfl (AE rfl) rfl rfl Ar))))))))
   refine Pf 10 rfl (A0 rfl) (Pf 11 rfl (A0 rfl) ?_)
   refine A4 (by kernel_rfl) ?_
   refine AB (.t3 4 5 6) ?_
   refine AA (Ab (AD ?_))
   refine AZ rfl (.tmp rfl (.tmp rfl (.tmp rfl .n))) ?_
   intro w1 hS;refine⟨?_,hS.Am⟩;rw [show Words.cut c s=_ from(BB c1)];rfl
  ·
   refine Gt (Gg Tryz.underlying9 rfl rfl (by(try simp only [List.length_cons,List.length_nil]);omega) (by(try simp only [List.length_cons,List.length_nil]);omega)) ?_
   refine Bp rfl ⟨?_,?_⟩
   · exact(Pk (Pk (Pk (Pk (Pk (Po rfl (AE rfl) rfl rfl (Po rfl (AE rfl) rfl rfl Ar)))))))
   refine An 2 rfl (by kernel_rfl) ?_
   refine Gt (IW Tryz.underlying9 rfl rfl (by(try simp only [List.length_cons,List.length_nil]);omega) (by(try simp only [List.length_cons,List.length_nil]);omega)) ?_
   refine Bp rfl ⟨?_,?_⟩
   · exact(Po rfl (Aw rfl rfl (IntWalk.i64_in _ (by(try simp only [List.length_cons,List.length_nil]);omega))) rfl rfl (Po rfl (BH rfl Tryz.underlying9 rfl) rfl rfl (Po rfl (AE rfl) rfl rfl (Po rfl (AE rfl) rfl rfl (Po rfl (AE rfl) rfl rfl (Pk (Pk Ar)))))))
   refine Pf 9 rfl (A0 rfl) (Pf 10 rfl (A0 rfl) (Pf 11 rfl (A0 rfl) ?_))
   refine A4 (by kernel_rfl) ?_
   refine AB (.t3 4 5 6) ?_
   refine AA (Ab (AD ?_))
   refine AZ rfl (.tmp rfl (.tmp rfl (.tmp rfl .n))) ?_
   intro w1 hS;refine⟨?_,hS.Am⟩;rw [show Words.cut c s=_ from(BB c1)];rfl
 refine Aa ?_
 refine AB (.t1 0) ?_
 refine AA (Gs (Gm rfl (Ga rfl (Ga rfl (Ga rfl (Gn (.t3 4 5 6) (Ab ?_)))))))
 refine AZ rfl (.tmp rfl (.tmp rfl (.tmp rfl .n))) ?_
 intro w1 hS;refine⟨?_,hS.Am⟩;rw [show Words.cut c s=_ from(AX c1)];rfl
theorem IV (s:Aq)(c:UInt8)(hs:s.length≤10000000)(w:World):Eh Tryz.prog 30 #[BU s,BU [c]] w fun v w'=>v = .tuple #[BU (Words.cut c s).1,BU (Words.cut c s).2.1, .bool (Words.cut c s).2.2]∧CA w w':=by
 refine Ak [] [] Tryz.func30 rfl rfl rfl (St.start w []) ?_
 refine Gs (Ga rfl (Ga rfl (Ga rfl (Gn (.t2 0 1) (Gs (Gm rfl (Gm rfl ?_)))))))
 refine BA rfl cc (.c rfl (.c rfl .n)) (fun w hS=>GU _ c hs w) ?_
 refine Gt (AN rfl rfl) (Gt (AN rfl rfl) (Gt (AN rfl rfl) (Ga rfl (Ga rfl (Ga rfl (Gn (.t3 4 5 6) (Ab ?_)))))))
 refine AZ rfl (.tmp rfl (.tmp rfl (.tmp rfl .n))) ?_
 intro w1 hS;refine⟨?_,hS.Am⟩;rfl
theorem FB (s p:Aq)(w:World):Eh Tryz.prog 181 #[BU s,BU p] w fun v w'=>v = .tuple #[BU (Words.Mt s p).1, .bool (Words.Mt s p).2]∧CA w w':=by
 refine Ak [] [] Tryz.func181 rfl rfl rfl (St.start w []) ?_
 refine Gs (Ga rfl (Ga rfl (Gn (.t2 0 1) (CB (Gm rfl (Gm rfl ?_))))))
 refine BA rfl ZQ (.c rfl (.c rfl .n)) (fun w hS=>De _ _ w) ?_
 refine Gt (BQ rfl) (Gn (.t3 0 1 9) ?_)
 refine Gc (fun c1=>?_) (fun c1=>?_)
 ·
  refine Gs (Gm rfl (Ga rfl (Ga rfl (Gn (.t2 4 5) (Ab (AD ?_))))))
  refine AZ rfl (.tmp rfl (.tmp rfl .n)) ?_
  intro w1 hS;refine⟨?_,hS.Am⟩;rw [show Words.Mt s p=_ from(BB c1)];rfl
 have c1p:=kz c1
 have hle:p.length≤s.length:=by simp at c1;omega
 refine Aa ?_
 refine AB (.t2 0 1) ?_
 refine AA (Gs (Gm rfl (Gm rfl (Gt (BH rfl Tryz.underlying9 rfl) ?_))))
 refine Gt (Gg Tryz.underlying9 rfl rfl (by omega) (by omega)) ?_
 refine Ga rfl (Ga rfl (Gn (.t2 4 5) (Ab ?_)))
 refine AZ rfl (.tmp rfl (.tmp rfl .n)) ?_
 intro w1 hS;refine⟨?_,hS.Am⟩;rw [show Words.Mt s p=_ from(AX c1)];rfl
theorem I5 (s p:Aq)(w:World):Eh Tryz.prog 170 #[BU s,BU p] w fun v w'=>v = .tuple #[BU (Words.Mt s p).1, .bool (Words.Mt s p).2]∧CA w w':=by
 refine Ak [] [] Tryz.func170 rfl rfl rfl (St.start w []) ?_
 refine Gs (Ga rfl (Ga rfl (Gn (.t2 0 1) (Gs (Gm rfl (Gm rfl ?_))))))
 refine BA rfl bW (.c rfl (.c rfl .n)) (fun w hS=>FB _ _ w) ?_
 refine Gt (AN rfl rfl) (Gt (AN rfl rfl) (Ga rfl (Ga rfl (Gn (.t2 4 5) (Ab ?_)))))
 refine AZ rfl (.tmp rfl (.tmp rfl .n)) ?_
 intro w1 hS;refine⟨?_,hS.Am⟩;rfl
theorem F4 (s:Aq)(c:UInt8)(w:World):Eh Tryz.prog 171 #[BU s,BU [c]] w fun v w'=>v = .bool (decide (0≤Lib.indexByte s c))∧CA w w':=by
 refine Ak [] [] Tryz.func171 rfl rfl rfl (St.start w []) ?_
 refine Gs (Ga rfl (Gn (.t2 0 1) (Gs (Gm rfl (Gm rfl ?_)))))
 refine BA rfl W4 (.c rfl (.c rfl .n)) (fun w hS=>FH _ c w) ?_
 refine Gt (CI rfl rfl) (Ga rfl (Gn (.t1 4) (Ab ?_)))
 refine AZ rfl (.tmp rfl .n) ?_
 intro w1 hS;refine⟨?_,hS.Am⟩;rfl
def RF:Go.Shelf.Ren:=⟨fun | 172=>172 | 244=>182 | 245=>183 | 247=>188 | 279=>189 | 280=>190 | 281=>191 | 282=>192 | 287=>194 | 316=>195 | 171=>53 | 205=>196 | 321=>197 | 322=>198 | 243=>72 | 246=>86 | 283=>108 | 284=>109 | 285=>110 | 286=>111 | 129=>142 | 317=>141 | 318=>143 | 319=>144 | 320=>145 | 337=>162 | 338=>163 | n=>n,fun | 9=>9 | 3=>3 | 75=>109 | 76=>111 | 4=>4 | 5=>5 | 167=>237 | 37=>105 | 0=>0 | 85=>238 | 2=>2 | 168=>240 | 53=>173 | 175=>244 | 46=>140 | 210=>247 | 127=>134 | 145=>252 | 143=>250 | 21=>21 | 171=>172 | 173=>176 | 212=>205 | 51=>178 | 20=>20 | 213=>206 | 232=>226 | 233=>227 | 80=>114 | n=>n,fun | 15=>7 | 16=>8 | 17=>2 | 18=>3 | 19=>4 | n=>n⟩
theorem Xp:LaysC.n172 Tryz.prog RF where
  mixed:=by kernel_rfl
  f129:=Tryz.func142.trans (congrArg some (by kernel_rfl))
  f171:=Tryz.func53.trans (congrArg some (by kernel_rfl))
  f172:=Tryz.func172.trans (congrArg some (by kernel_rfl))
  f205:=Tryz.func196.trans (congrArg some (by kernel_rfl))
  f243:=Tryz.func72.trans (congrArg some (by kernel_rfl))
  f244:=Tryz.func182.trans (congrArg some (by kernel_rfl))
  f245:=Tryz.func183.trans (congrArg some (by kernel_rfl))
  f246:=Tryz.func86.trans (congrArg some (by kernel_rfl))
  f247:=Tryz.func188.trans (congrArg some (by kernel_rfl))
  f279:=Tryz.func189.trans (congrArg some (by kernel_rfl))
  f280:=Tryz.func190.trans (congrArg some (by kernel_rfl))
  f281:=Tryz.func191.trans (congrArg some (by kernel_rfl))
  f282:=Tryz.func192.trans (congrArg some (by kernel_rfl))
  f283:=Tryz.func108.trans (congrArg some (by kernel_rfl))
  f284:=Tryz.func109.trans (congrArg some (by kernel_rfl))
  f285:=Tryz.func110.trans (congrArg some (by kernel_rfl))
  f286:=Tryz.func111.trans (congrArg some (by kernel_rfl))
  f287:=Tryz.func194.trans (congrArg some (by kernel_rfl))
  f316:=Tryz.func195.trans (congrArg some (by kernel_rfl))
  f317:=Tryz.func141.trans (congrArg some (by kernel_rfl))
  f318:=Tryz.func143.trans (congrArg some (by kernel_rfl))
  f319:=Tryz.func144.trans (congrArg some (by kernel_rfl))
  f320:=Tryz.func145.trans (congrArg some (by kernel_rfl))
  f321:=Tryz.func197.trans (congrArg some (by kernel_rfl))
  f322:=Tryz.func198.trans (congrArg some (by kernel_rfl))
  f337:=Tryz.func162.trans (congrArg some (by kernel_rfl))
  f338:=Tryz.func163.trans (congrArg some (by kernel_rfl))
  t0:=Tryz.underlying0
  a0:=Tryz.isAgg0
  z0:=Tryz.sizeOf0
  v0:=Tryz.zeroValue0
  t2:=Tryz.underlying2
  a2:=Tryz.isAgg2
  z2:=Tryz.sizeOf2
  v2:=Tryz.zeroValue2
  t3:=Tryz.underlying3
  a3:=Tryz.isAgg3
  z3:=Tryz.sizeOf3
  v3:=Tryz.zeroValue3
  t4:=Tryz.underlying4
  a4:=Tryz.isAgg4
  z4:=Tryz.sizeOf4
  v4:=Tryz.zeroValue4
  t5:=Tryz.underlying5
  a5:=Tryz.isAgg5
  z5:=Tryz.sizeOf5
  v5:=Tryz.zeroValue5
  t9:=Tryz.underlying9
  a9:=Tryz.isAgg9
  z9:=Tryz.sizeOf9
  v9:=Tryz.zeroValue9
  t20:=Tryz.underlying20
  a20:=Tryz.isAgg20
  z20:=Tryz.sizeOf20
  v20:=Tryz.zeroValue20
  t21:=Tryz.underlying21
  a21:=Tryz.isAgg21
  z21:=Tryz.sizeOf21
  v21:=Tryz.zeroValue21
  t37:=Tryz.underlying105
  a37:=Tryz.isAgg105
  z37:=Tryz.sizeOf105
  v37:=Tryz.zeroValue105
  t46:=Tryz.underlying140
  a46:=Tryz.isAgg140
  z46:=Tryz.sizeOf140
  v46:=Tryz.zeroValue140
  t51:=Tryz.underlying178
  a51:=Tryz.isAgg178
  z51:=Tryz.sizeOf178
  v51:=Tryz.zeroValue178
  t53:=Tryz.underlying173
  a53:=Tryz.isAgg173
  z53:=Tryz.sizeOf173
  v53:=Tryz.zeroValue173
  t75:=Tryz.underlying109
  a75:=Tryz.isAgg109
  z75:=Tryz.sizeOf109
  v75:=Tryz.zeroValue109
  t76:=Tryz.underlying111
  a76:=Tryz.isAgg111
  z76:=Tryz.sizeOf111
  v76:=Tryz.zeroValue111
  t85:=Tryz.underlying238
  a85:=Tryz.isAgg238
  z85:=Tryz.sizeOf238
  v85:=Tryz.zeroValue238
  t127:=Tryz.underlying134
  a127:=Tryz.isAgg134
  z127:=Tryz.sizeOf134
  v127:=Tryz.zeroValue134
  t143:=Tryz.underlying250
  a143:=Tryz.isAgg250
  z143:=Tryz.sizeOf250
  v143:=Tryz.zeroValue250
  t145:=Tryz.underlying252
  a145:=Tryz.isAgg252
  z145:=Tryz.sizeOf252
  v145:=Tryz.zeroValue252
  t167:=Tryz.underlying237
  a167:=Tryz.isAgg237
  z167:=Tryz.sizeOf237
  v167:=Tryz.zeroValue237
  t168:=Tryz.underlying240
  a168:=Tryz.isAgg240
  z168:=Tryz.sizeOf240
  v168:=Tryz.zeroValue240
  t171:=Tryz.underlying172
  a171:=Tryz.isAgg172
  z171:=Tryz.sizeOf172
  v171:=Tryz.zeroValue172
  t173:=Tryz.underlying176
  a173:=Tryz.isAgg176
  z173:=Tryz.sizeOf176
  v173:=Tryz.zeroValue176
  t175:=Tryz.underlying244
  a175:=Tryz.isAgg244
  z175:=Tryz.sizeOf244
  v175:=Tryz.zeroValue244
  t210:=Tryz.underlying247
  a210:=Tryz.isAgg247
  z210:=Tryz.sizeOf247
  v210:=Tryz.zeroValue247
  t212:=Tryz.underlying205
  a212:=Tryz.isAgg205
  z212:=Tryz.sizeOf205
  v212:=Tryz.zeroValue205
  t213:=Tryz.underlying206
  a213:=Tryz.isAgg206
  z213:=Tryz.sizeOf206
  t232:=Tryz.underlying226
  a232:=Tryz.isAgg226
  z232:=Tryz.sizeOf226
  v232:=Tryz.zeroValue226
  t233:=Tryz.underlying227
  a233:=Tryz.isAgg227
  z233:=Tryz.sizeOf227
  v233:=Tryz.zeroValue227
  g15:=by kernel_rfl
  g16:=by kernel_rfl
  g17:=by kernel_rfl
  g18:=by kernel_rfl
  g19:=by kernel_rfl
  t80:=Tryz.underlying114
  a80:=Tryz.isAgg114
  z80:=Tryz.sizeOf114
  v80:=Tryz.zeroValue114
  i0:=by kernel_rfl
  i2:=by kernel_rfl
  i3:=by kernel_rfl
  i4:=by kernel_rfl
  i5:=by kernel_rfl
  i9:=by kernel_rfl
  i20:=by kernel_rfl
  i21:=by kernel_rfl
  i37:=by kernel_rfl
  i46:=by kernel_rfl
  i51:=by kernel_rfl
  i53:=by kernel_rfl
  i75:=by kernel_rfl
  i76:=by kernel_rfl
  i80:=by kernel_rfl
  i85:=by kernel_rfl
  i127:=by kernel_rfl
  i143:=by kernel_rfl
  i145:=by kernel_rfl
  i167:=by kernel_rfl
  i168:=by kernel_rfl
  i171:=by kernel_rfl
  i173:=by kernel_rfl
  i175:=by kernel_rfl
  i210:=by kernel_rfl
  i212:=by kernel_rfl
  i232:=by kernel_rfl
  i233:=by kernel_rfl
  m15:=by kernel_rfl
  m16:=by kernel_rfl
  m17:=by kernel_rfl
  m18:=by kernel_rfl
  m19:=by kernel_rfl
  c0:=by kernel_rfl
  c2:=by kernel_rfl
  c3:=by kernel_rfl
  c4:=by kernel_rfl
  c5:=by kernel_rfl
  c9:=by kernel_rfl
  c20:=by kernel_rfl
  c21:=by kernel_rfl
  c37:=by kernel_rfl
  c46:=by kernel_rfl
  c51:=by kernel_rfl
  c53:=by kernel_rfl
  c75:=by kernel_rfl
  c76:=by kernel_rfl
  c80:=by kernel_rfl
  c85:=by kernel_rfl
  c127:=by kernel_rfl
  c143:=by kernel_rfl
  c145:=by kernel_rfl
  c167:=by kernel_rfl
  c168:=by kernel_rfl
  c171:=by kernel_rfl
  c173:=by kernel_rfl
  c175:=by kernel_rfl
  c210:=by kernel_rfl
  c212:=by kernel_rfl
  c213:=by kernel_rfl
  c232:=by kernel_rfl
  c233:=by kernel_rfl
theorem Lk (s:Aq)(hs:s.length≤10000000):FK Tryz.prog 172 #[BU s] [] (fun w=>Gu 7 w∧Gu 8 w) (fun v B=>(∃ k:Int,Lib.atoiAll s = .ok k∧v = .tuple #[.int .i64 k, .nilIface]∧B = [])∨(∃(k:Int) (t:TypeId) (x:Value),(∀ j,Lib.atoiAll s≠ .ok j)∧v = .tuple #[.int .i64 k, .iface t x]∧B = [])):=
  WJ Xp s hs (by kernel_rfl) (by kernel_rfl)
theorem FG (u:Aq)(hu:u.length≤5000000)(w:World)(gl0:Gu 7 w)(gl1:Gu 8 w):Eh Tryz.prog 154 #[BU u] w fun v w'=>v = .tuple #[.int .i64 (Words.EH u).1,BU (Words.EH u).2.1, .bool (Words.EH u).2.2.1, .int .i64 (Words.EH u).2.2.2]∧CA w w':=by
 have hcut:=Words.NM 46 u
 refine Ak [] [] Tryz.func154 rfl rfl rfl (St.start w []) ?_
 refine Gs (Ga rfl (Ga rfl (Ga rfl (Ga rfl (Gn (.t1 0) (CB (Gm rfl ?_)))))))
 refine Gt (Bt rfl rfl) (Gn (.t2 0 14) ?_)
 refine Gc (fun c1=>?_) (fun c1=>?_)
 ·
  refine Gs (Ga rfl (Ga rfl (Ga rfl (Ga rfl (Gn (.t4 2 3 4 5) (Ab (AD ?_)))))))
  refine AZ rfl (.tmp rfl (.tmp rfl (.tmp rfl (.tmp rfl .n)))) ?_
  intro w1 hS;refine⟨?_,hS.Am⟩;rw [show Words.EH u=_ from(BB c1)];rfl
 have c1p:=kz c1
 refine Aa ?_
 refine AB (.t1 0) ?_
 refine AA (CB (Gm rfl ?_))
 refine BA rfl bS (.c rfl (.c rfl .n)) (fun w hS=>I5 _ _ w) ?_
 refine Gm rfl (Gt (AN rfl rfl) (Gt (AN rfl rfl) (Ga rfl (Ga rfl (Gn (.t3 0 6 7) (Gs (Gm rfl ?_)))))))
 refine Gm rfl (Bl 21 rfl rfl (fun q=>AE rfl) (Bl 21 rfl rfl (fun q=>D1 (Bf rfl q) rfl) (Gt (BJ rfl rfl (fun h=>h)) (Gm rfl (Bl 25 rfl rfl (fun q=>AE rfl) ?_)))))
 refine MP (t:=25) rfl rfl rfl (fun q=>D7 ZN (.c (Bf rfl q) (.c rfl .n)) (fun w hS=>F4 _ 46 w)) ?_
 refine Bl 25 rfl rfl (fun q=>BQ (Bf rfl q)) (Gt (BJ rfl rfl (fun h=>h)) (Gn (.t3 0 6 29) ?_))
 refine Gc (fun c2=>?_) (fun c2=>?_)
 ·
  refine Gs (Gm rfl (Ga rfl (Ga rfl (Ga rfl (Ga rfl (Gn (.t4 2 3 4 5) (Ab ?_)))))))
  refine AD ?_
  refine AZ rfl (.tmp rfl (.tmp rfl (.tmp rfl (.tmp rfl .n)))) ?_
  intro w1 hS;refine⟨?_,hS.Am⟩;rw [show Words.EH u=_ from((AX c1).trans (BB c2))];rfl
 have c2p:=kz c2
 refine Aa ?_
 refine AB (.t1 0) ?_
 refine AA (Gs (Gm rfl ?_))
 refine BA rfl af (.c rfl (.c rfl .n)) (fun w hS=>IV _ 46 (by omega) w) ?_
 refine Gm rfl (Gt (AN rfl rfl) (Gt (AN rfl rfl) (Gt (AN rfl rfl) (Ga rfl (Ga rfl (Ga rfl (Gn (.t4 0 8 9 10) ?_)))))))
 refine CB (Gm rfl (Gt (BQ rfl) (Gn (.t4 0 8 9 38) ?_)))
 refine Gc (fun c3=>?_) (fun c3=>?_)
 ·
  refine CB (Gm rfl (Gt (Bt rfl rfl) (Gn (.t2 0 40) ?_)))
  refine Gc (fun c4=>?_) (fun c4=>?_)
  ·
   refine Gs (Ga rfl (Ga rfl (Ga rfl (Ga rfl (Gn (.t4 2 3 4 5) (Ab (AD ?_)))))))
   refine AD ?_
   refine AZ rfl (.tmp rfl (.tmp rfl (.tmp rfl (.tmp rfl .n)))) ?_
   intro w1 hS;refine⟨?_,hS.Am⟩;rw [show Words.EH u=_ from((AX c1).trans ((AX c2).trans ((BB c3).trans (BB c4))))];rfl
  refine Aa ?_
  refine AB (.t1 0) ?_
  refine AA (Gs (Gm rfl (Ga rfl (Ga rfl (Ga rfl (Ga rfl (Gn (.t4 2 3 4 5) ?_)))))))
  refine Ab (AD ?_)
  refine AZ rfl (.tmp rfl (.tmp rfl (.tmp rfl (.tmp rfl .n)))) ?_
  intro w1 hS;refine⟨?_,hS.Am⟩;rw [show Words.EH u=_ from((AX c1).trans ((AX c2).trans ((BB c3).trans (AX c4))))];rfl
 have c3p:=kz c3
 refine Aa ?_
 refine AB (.t2 8 9) ?_
 refine AA (Gs (Gm rfl ?_))
 refine BF rfl bR (.c rfl .n) .n (Lk _ (by omega)) (fun w hS=>⟨gl0.st hS,gl1.st hS⟩) (fun v1 B hv=>?_)
 rcases hv with ⟨y2,y3,rfl,rfl⟩ | ⟨y4,y5,y6,y7,rfl,rfl⟩
 ·
  refine Gm rfl (Gt (AN rfl rfl) (Gt (AN rfl rfl) (Ga rfl (Ga rfl (Gn (.t4 8 9 11 12) (CB (Gm rfl ?_)))))))
  refine Gt (R9 Tryz.underlying109 rfl) (Gm rfl ?_)
  refine C7 (t:=49) rfl rfl rfl (AE rfl) ?_
  refine C7 (t:=49) rfl rfl rfl (A8 rfl rfl) ?_
  refine Gt (Cm rfl rfl) (Gm rfl (BZ 53 rfl rfl (fun q=>AE rfl) (BZ 53 rfl rfl (fun q=>Ck (cF rfl q) rfl) ?_)))
  refine Gt (BS rfl rfl (fun h=>by rw [h];rfl)) ?_
  refine Gm rfl (BZ 57 rfl rfl (fun q=>AE rfl) ?_)
  refine BZ 57 rfl rfl (fun q=>by have q1:=q;(try simp at q1);exact Bm Tryz.underlying9 (cF rfl q) rfl (by decide) (by first | omega | (have hq:=Words.SF (by assumption);omega))) ?_
  refine BZ 57 rfl rfl (fun q=>A8 (cF rfl q) rfl) ?_
  refine Gt (BS rfl rfl (fun h=>by rw [h];rfl)) ?_
  refine Gm rfl (BZ 62 rfl rfl (fun q=>AE rfl) ?_)
  refine BZ 62 rfl rfl (fun q=>by have q1:=q;(try simp at q1);exact Bm Tryz.underlying9 (cF rfl q) rfl (by decide) (by first | omega | (have hq:=Words.SF (by assumption);omega))) ?_
  refine BZ 62 rfl rfl (fun q=>Ck (cF rfl q) rfl) ?_
  refine Gt (BS rfl rfl (fun h=>by rw [h];rfl)) ?_
  refine Gm rfl (BZ 67 rfl rfl (fun q=>AE rfl) (BZ 67 rfl rfl (fun q=>Bt (cF rfl q) rfl) ?_))
  refine Gt (BS rfl rfl (fun h=>by rw [h];rfl)) ?_
  refine Gm rfl (BZ 71 rfl rfl (fun q=>AE rfl) ?_)
  refine N2 (t:=71) rfl rfl rfl (fun q=>by have q1:=q;(try simp at q1);exact D7 ZN (.c (cF rfl q) (.c rfl .n)) (fun w hS=>F4 _ 46 w)) ?_
  refine Gt (BS rfl rfl (fun h=>by rw [h];rfl)) ?_
  refine Gn (.t3 9 11 74) ?_
  refine Gc (fun c5=>?_) (fun c5=>?_)
  ·
   refine Gs (Ga rfl (Ga rfl (Ga rfl (Ga rfl (Gn (.t4 2 3 4 5) (Ab (AD ?_)))))))
   refine AZ rfl (.tmp rfl (.tmp rfl (.tmp rfl (.tmp rfl .n)))) ?_
   intro w1 hS;refine⟨?_,hS.Am⟩;rw [show Words.EH u=_ from((AX c1).trans ((AX c2).trans (AX c3))),Words.Tu y3,BB c5];rfl
  refine Aa ?_
  refine AB (.t2 9 11) ?_
  refine AA (Gs (Gm rfl (Gm rfl (Ga rfl (Ga rfl (Ga rfl (Ga rfl ?_)))))))
  refine Gn (.t4 2 3 4 5) (Ab ?_)
  refine AZ rfl (.tmp rfl (.tmp rfl (.tmp rfl (.tmp rfl .n)))) ?_
  intro w1 hS;refine⟨?_,hS.Am⟩;rw [show Words.EH u=_ from((AX c1).trans ((AX c2).trans (AX c3))),Words.Tu y3,AX c5];rfl
 refine Gm rfl (Gt (AN rfl rfl) (Gt (AN rfl rfl) (Ga rfl (Ga rfl (Gn (.t4 8 9 11 12) (CB (Gm rfl ?_)))))))
 refine Gt (YP Tryz.underlying109 rfl) (Gm rfl ?_)
 refine DA (t:=49) rfl rfl rfl rfl ?_
 refine DA (t:=49) rfl rfl rfl rfl ?_
 refine Gt (DV rfl rfl) (Gm rfl ?_)
 refine DA (t:=53) rfl rfl rfl rfl ?_
 refine DA (t:=53) rfl rfl rfl rfl ?_
 refine Gt (DV rfl rfl) (Gm rfl ?_)
 refine DA (t:=57) rfl rfl rfl rfl ?_
 refine DA (t:=57) rfl rfl rfl rfl ?_
 refine DA (t:=57) rfl rfl rfl rfl ?_
 refine Gt (DV rfl rfl) (Gm rfl ?_)
 refine DA (t:=62) rfl rfl rfl rfl ?_
 refine DA (t:=62) rfl rfl rfl rfl ?_
 refine DA (t:=62) rfl rfl rfl rfl ?_
 refine Gt (DV rfl rfl) (Gm rfl ?_)
 refine DA (t:=67) rfl rfl rfl rfl ?_
 refine DA (t:=67) rfl rfl rfl rfl ?_
 refine Gt (DV rfl rfl) (Gm rfl ?_)
 refine DA (t:=71) rfl rfl rfl rfl ?_
 refine DA (t:=71) rfl rfl rfl rfl ?_
 refine Gt (DV rfl rfl) (Gn (.t3 9 11 74) ?_)
 refine G4 rfl rfl ?_
 refine Gs (Ga rfl (Ga rfl (Ga rfl (Ga rfl (Gn (.t4 2 3 4 5) (Ab (AD ?_)))))))
 refine AZ rfl (.tmp rfl (.tmp rfl (.tmp rfl (.tmp rfl .n)))) ?_
 intro w1 hS;refine⟨?_,hS.Am⟩;rw [show Words.EH u=_ from((AX c1).trans ((AX c2).trans (AX c3))),Words.Wv y7];rfl
theorem JN (z:Int)(w:World):Eh Tryz.prog 155 #[.int .i64 z] w fun v w'=>v = .bool (Words.many z)∧CA w w':=by
 refine Ak [] [] Tryz.func155 rfl rfl rfl (St.start w []) ?_
 refine Gs (Ga rfl (Gn (.t1 0) (Gs (Gm rfl (Gt (Aj rfl rfl) (Gm rfl (BZ 5 rfl rfl (fun q=>AE rfl) ?_)))))))
 refine BZ 5 rfl rfl (fun q=>Aj (cF rfl q) rfl) ?_
 refine Gt (BS rfl rfl (fun h=>by rw [h];rfl)) ?_
 refine Gm rfl (BZ 9 rfl rfl (fun q=>AE rfl) (BZ 9 rfl rfl (fun q=>Aj (cF rfl q) rfl) ?_))
 refine Gt (BS rfl rfl (fun h=>by rw [h];rfl)) ?_
 refine Ga rfl (Gn (.t1 2) (Ab ?_))
 refine AZ rfl (.tmp rfl .n) ?_
 intro w1 hS;refine⟨?_,hS.Am⟩;rfl
theorem Ik (z:Int)(w:World):Eh Tryz.prog 156 #[.int .i64 z] w fun v w'=>v = .tuple #[BU (Words.ON z).1, .bool (Words.ON z).2]∧CA w w':=by
 refine Ak [] [] Tryz.func156 rfl rfl rfl (St.start w []) ?_
 refine Gs (Ga rfl (Ga rfl (Gn (.t1 0) (CB (Gm rfl (Gn (.t1 4) (Ae ?_)))))))
 refine Gs (Gt (Aj rfl rfl) (Ga rfl (Gn (.t2 4 5) ?_)))
 refine Gc (fun c1=>?_) (fun c1=>?_)
 ·
  refine Gs (Ga rfl (Ga rfl (Gn (.t2 2 3) (Ab (AT (AD ?_))))))
  refine AZ rfl (.tmp rfl (.tmp rfl .n)) ?_
  intro w1 hS;refine⟨?_,hS.Am⟩;rw [show Words.ON z=_ from(BB c1)];rfl
 refine Gs (Gt (Aj rfl rfl) (Ga rfl (Gn (.t2 4 7) ?_)))
 refine Gc (fun c2=>?_) (fun c2=>?_)
 ·
  refine Gs (Ga rfl (Ga rfl (Gn (.t2 2 3) (Ab (AT (AD ?_))))))
  refine AZ rfl (.tmp rfl (.tmp rfl .n)) ?_
  intro w1 hS;refine⟨?_,hS.Am⟩;rw [show Words.ON z=_ from((AX c1).trans (BB c2))];rfl
 refine Gs (Gt (Aj rfl rfl) (Ga rfl (Gn (.t1 9) ?_)))
 refine Gc (fun c3=>?_) (fun c3=>?_)
 ·
  refine Gs (Ga rfl (Ga rfl (Gn (.t2 2 3) (Ab (AT (AD ?_))))))
  refine AZ rfl (.tmp rfl (.tmp rfl .n)) ?_
  intro w1 hS;refine⟨?_,hS.Am⟩;rw [show Words.ON z=_ from((AX c1).trans ((AX c2).trans (BB c3)))];rfl
 refine Aa ?_
 refine AB (.nil _) ?_
 refine AV (AA (Gs (Ga rfl (Ga rfl (AR (AA (Ab ?_)))))))
 refine AZ rfl (.tmp rfl (.tmp rfl .n)) ?_
 intro w1 hS;refine⟨?_,hS.Am⟩;rw [show Words.ON z=_ from((AX c1).trans ((AX c2).trans (AX c3)))];rfl
theorem MC (s:Aq)(hs:s.length≤4000000)(w:World)(gl0:GV 0 AH.DG w)(gl1:Gu 7 w)(gl2:Gu 8 w):Eh Tryz.prog 122 #[BU s] w fun v w'=>v = .tuple #[.agg (Words.parse s).1.enc.toArray, .int .i64 (Words.parse s).2]∧CA w w':=by
 refine Ak [] [] Tryz.func122 rfl rfl rfl (St.start w []) ?_
 refine Gs ?_
 refine BD rfl LP rfl (fun b1=>?_)
 refine Ga rfl (Gn (.t2 0 2) (Gs (Ga rfl (AR (AA (Gs (Gm rfl ?_)))))))
 refine Ai rfl bu (.c rfl .n) .n (MF _ hs) (fun v1 B hv=>?_)
 obtain⟨y2,rfl,y3,rfl⟩:=hv
 refine Ga rfl (Gn (.t4 0 2 4 5) (CB (Gm rfl (Gt (Av rfl Tryz.underlying52 rfl) (Gt (Aj rfl rfl) (Gn (.t5 0 2 4 5 20) ?_))))))
 refine Gc (fun c1=>?_) (fun c1=>?_)
 ·
  have hlen:=y3
  (try simp only [Hd.cut] at c1)
  rw [hlen] at c1
  refine Gs (Gm rfl ?_)
  refine DL rfl Ip rfl (.c rfl .n) .n (Bq _) (fun v5 B hv=>?_)
  obtain⟨rfl,rfl⟩:=hv
  refine Gt (AN rfl rfl) (Gt (AN rfl rfl) ?_)
  refine AS (AK (AU.id Order.fl.len Order.fl.one) rfl rfl rfl D6 rfl (.t .h)) ?_
  refine Ga rfl (Gn (.t2 2 3) (Ab (AD ?_)))
  refine AZ rfl (.cell rfl .m1 (.inl ⟨(by rw [Order.fl.len];exact B8),rfl⟩) (.tmp rfl .n)) ?_
  intro w1 hS;refine⟨?_,hS.Am⟩;rw [show Words.parse s=_ from(BB c1)];rfl
 have c1p:=kz c1
 have hlen:=y3
 (try simp only [Hd.cut] at c1)
 rw [hlen] at c1
 refine Aa ?_
 refine AB (.t4 0 2 4 5) ?_
 refine AA (Gs (Gm rfl ?_))
 refine Gt (Br JU (by decide) (Kn.own .m0) rfl rfl (by omega) (by first | omega | (simp only [Hd.cut] at *;omega) | (simp [Hd.cut] at q ⊢;omega))) ?_
 refine Gt (Dj rfl CP (Kn.own .m0) (by first | omega | (simp only [List.length_drop,Hd.cut] at *;omega) | (simp [Hd.cut] at q ⊢;omega))) ?_
 refine BA rfl ZF (.c rfl .n) (fun w hS=>JL _ w (gl0.st hS)) ?_
 refine Gm rfl (Gt (AN rfl rfl) (Gt (AN rfl rfl) (Ga rfl (Ga rfl (Gn (.t6 0 2 4 5 6 7) (CB (Gm rfl ?_)))))))
 refine Gt (Ce rfl rfl) (Gn (.t7 0 2 4 5 6 7 33) ?_)
 refine Gc (fun c2=>?_) (fun c2=>?_)
 ·
  refine Gs (Gm rfl (Gm rfl ?_))
  refine DL rfl Ip rfl (.c rfl .n) .n (Bq _) (fun v6 B hv=>?_)
  obtain⟨rfl,rfl⟩:=hv
  refine Gt (AN rfl rfl) (Gt (AN rfl rfl) ?_)
  refine AS (AK (AU.id Order.fl.len Order.fl.one) rfl rfl rfl D6 rfl (.t .h)) ?_
  refine Ga rfl (Gn (.t2 2 3) (Ab (AD ?_)))
  refine AZ rfl (.cell rfl .m1 (.inl ⟨(by rw [Order.fl.len];exact B8),rfl⟩) (.tmp rfl .n)) ?_
  intro w1 hS;refine⟨?_,hS.Am⟩;rw [show Words.parse s=_ from((AX c1).trans (BB c2))];rfl
 have c2p:=kz c2
 refine Aa ?_
 refine AB (.t5 0 2 4 5 6) ?_
 refine AA (Gs (Gm rfl (Gt (BC Ro LP rfl (.cons Order.l0 rfl rfl rfl .nil)) ?_)))
 refine BD rfl LP rfl (fun b2=>?_)
 refine AS (AK (AU.id Order.fl.len Order.fl.one) rfl rfl rfl D6 rfl .h) ?_
 refine Gn (.t6 0 2 4 5 6 8) (Gs (Gm rfl ?_))
 refine Gl DZ rfl Tryz.underlying52 Em rfl rfl (by decide) (by first | omega | (simp only [Hd.cut];omega) | (simp only [Hd.cut] at *;omega)) (fun _=>(.t .h)) ?_
 refine Ga rfl (Gn (.t6 0 2 4 5 6 8) (Ap (Ae (Gs (Gm rfl (Gt (Aj rfl rfl) (Ga rfl ?_)))))))
 refine Gn (.t7 0 2 4 5 6 8 43) ?_
 refine Gc (fun c3=>?_) (fun c3=>?_)
 ·
  have c3p:=kz c3
  refine Gs (Gm rfl ?_)
  refine BA rfl bG (.c rfl (.c rfl .n)) (fun w hS=>JS _ (by omega) w) ?_
  refine BA rfl af (.c rfl (.c rfl .n)) (fun w hS=>IV _ 32 (by have:=Words.LQ 32 s;omega) w) ?_
  refine Gm rfl (Gt (AN rfl rfl) (Gt (AN rfl rfl) (Gt (AN rfl rfl) (Ga rfl (Ga rfl (Ga rfl (Gn (.t4 2 4 8 10) ?_)))))))
  refine CB (Gm rfl ?_)
  refine BA rfl cJ (.c rfl (.c rfl .n)) (fun w hS=>H2 _ (by have h1:=Words.LQ 32 s;have h2:=Words.NM 32 (Words.QA 32 s);omega) w) ?_
  refine Gt (Ah Qz rfl) ?_
  refine AS (AK Order.l5 rfl rfl rfl Em rfl .h) ?_
  refine Gn (.t3 2 4 8) (Gs (Gt (Ah Qz rfl) (Gt (AG rfl CP .m0 Order.l5 rfl rfl) (Gt (Bt rfl rfl) (Gn (.t4 2 4 8 58) ?_)))))
  refine Gc (fun c4=>?_) (fun c4=>?_)
  ·
   refine Gs (Gm rfl ?_)
   refine DL rfl Ip rfl (.c rfl .n) .n (Bq _) (fun v7 B hv=>?_)
   obtain⟨rfl,rfl⟩:=hv
   refine Gt (AN rfl rfl) (Gt (AN rfl rfl) ?_)
   refine AS (AK (AU.id Order.fl.len Order.fl.one) rfl rfl rfl D6 rfl (.t (.t .h))) ?_
   refine Ga rfl (Gn (.t2 2 3) (Ab (AD (AT (AD ?_)))))
   refine AZ rfl (.cell rfl .m2 (.inl ⟨(by rw [Order.fl.len];exact B8),rfl⟩) (.tmp rfl .n)) ?_
   intro w1 hS;refine⟨?_,hS.Am⟩;rw [show Words.parse s=_ from((AX c1).trans ((AX c2).trans ((BB c3).trans (BB c4))))];rfl
  refine Aa ?_
  refine AB (.t2 2 8) ?_
  refine AA (Gs (Gt (AY rfl B8 .m0 (AU.id Order.fl.len Order.fl.one) rfl) ?_))
  refine AS (AK (AU.id Order.fl.len Order.fl.one) rfl rfl rfl D6 rfl (.t (.t .h))) ?_
  refine Ga rfl (Gn (.t2 2 3) (Ab (AT (AD ?_))))
  refine AZ rfl (.cell rfl .m2 (.inl ⟨(by rw [Order.fl.len];exact B8),rfl⟩) (.tmp rfl .n)) ?_
  intro w1 hS;refine⟨?_,hS.Am⟩;rw [show Words.parse s=_ from((AX c1).trans ((AX c2).trans ((BB c3).trans (AX c4))))];rfl
 have c3p:=kz c3
 refine Gs (Gm rfl (Gt (IK rfl rfl) (Gm rfl (BZ 67 rfl rfl (fun q=>AE rfl) (BZ 67 rfl rfl (fun q=>CI (cF rfl q) rfl) ?_)))))
 refine Gt (BS rfl rfl (fun h=>by rw [h];rfl)) ?_
 refine Ga rfl (Gn (.t6 2 4 5 6 8 64) ?_)
 refine Gc (fun c5=>?_) (fun c5=>?_)
 ·
  refine CB (Gm rfl (Gt (Av rfl Tryz.underlying52 rfl) (Gt (Ck rfl rfl) (Gn (.t4 2 4 8 73) ?_))))
  refine Gc (fun c6=>?_) (fun c6=>?_)
  ·
   (try simp only [Hd.cut] at c6)
   rw [hlen] at c6
   refine Gs (Gm rfl ?_)
   refine DL rfl Ip rfl (.c rfl .n) .n (Bq _) (fun v8 B hv=>?_)
   obtain⟨rfl,rfl⟩:=hv
   refine Gt (AN rfl rfl) (Gt (AN rfl rfl) ?_)
   refine AS (AK (AU.id Order.fl.len Order.fl.one) rfl rfl rfl D6 rfl (.t (.t .h))) ?_
   refine Ga rfl (Gn (.t2 2 3) (Ab (AD (AT (AD ?_)))))
   refine AZ rfl (.cell rfl .m2 (.inl ⟨(by rw [Order.fl.len];exact B8),rfl⟩) (.tmp rfl .n)) ?_
   intro w1 hS;refine⟨?_,hS.Am⟩;rw [show Words.parse s=_ from((AX c1).trans ((AX c2).trans ((AX c3).trans ((BB c5).trans (BB c6)))))];rfl
  (try simp only [Hd.cut] at c6)
  rw [hlen] at c6
  refine Aa ?_
  refine AB (.t2 2 8) ?_
  refine AA (Gs (Gt (AY rfl B8 .m0 (AU.id Order.fl.len Order.fl.one) rfl) ?_))
  refine AS (AK (AU.id Order.fl.len Order.fl.one) rfl rfl rfl D6 rfl (.t (.t .h))) ?_
  refine Ga rfl (Gn (.t2 2 3) (Ab (AT (AD ?_))))
  refine AZ rfl (.cell rfl .m2 (.inl ⟨(by rw [Order.fl.len];exact B8),rfl⟩) (.tmp rfl .n)) ?_
  intro w1 hS;refine⟨?_,hS.Am⟩;rw [show Words.parse s=_ from((AX c1).trans ((AX c2).trans ((AX c3).trans ((BB c5).trans (AX c6)))))];rfl
 have c5p:=kz c5
 refine Gs (Gm rfl (Gt (Av rfl Tryz.underlying52 rfl) (Gt (Aj rfl rfl) (Ga rfl (Gn (.t6 2 4 5 6 8 79) ?_)))))
 refine Gc (fun c7=>?_) (fun c7=>?_)
 ·
  (try simp only [Hd.cut] at c7)
  rw [hlen] at c7
  refine Gs (Gm rfl ?_)
  refine DL rfl Ip rfl (.c rfl .n) .n (Bq _) (fun v9 B hv=>?_)
  obtain⟨rfl,rfl⟩:=hv
  refine Gt (AN rfl rfl) (Gt (AN rfl rfl) ?_)
  refine AS (AK (AU.id Order.fl.len Order.fl.one) rfl rfl rfl D6 rfl (.t (.t .h))) ?_
  refine Ga rfl (Gn (.t2 2 3) (Ab (AT (AD ?_))))
  refine AZ rfl (.cell rfl .m2 (.inl ⟨(by rw [Order.fl.len];exact B8),rfl⟩) (.tmp rfl .n)) ?_
  intro w1 hS;refine⟨?_,hS.Am⟩;rw [show Words.parse s=_ from((AX c1).trans ((AX c2).trans ((AX c3).trans ((AX c5).trans (BB c7)))))];rfl
 have c7p:=kz c7
 (try simp only [Hd.cut] at c7)
 rw [hlen] at c7
 refine Aa ?_
 refine AB (.t5 2 4 5 6 8) ?_
 refine AV (AA (CB (Gm rfl (Gt (Aj rfl rfl) (Gm rfl (BZ 89 rfl rfl (fun q=>AE rfl) (BZ 89 rfl rfl (fun q=>Aj (cF rfl q) rfl) ?_)))))))
 refine Gt (BS rfl rfl (fun h=>by rw [h];rfl)) ?_
 refine Gn (.t6 2 4 5 6 8 92) ?_
 refine Gc (fun c8=>?_) (fun c8=>?_)
 ·
  have c8p:=kz c8
  refine Gs (Gm rfl ?_)
  refine Gt (Br JU (by decide) (Kn.own .m1) rfl rfl (by omega) (by first | omega | (simp only [Hd.cut] at *;omega) | (simp [Hd.cut] at q ⊢;omega))) ?_
  refine Gt (Dj rfl CP (Kn.own .m1) (by first | omega | (simp only [List.length_drop,Hd.cut] at *;omega) | (simp [Hd.cut] at q ⊢;omega))) ?_
  refine BA rfl ZF (.c rfl .n) (fun w hS=>JL _ w (gl0.st hS)) ?_
  refine Gm rfl (Gt (AN rfl rfl) (Gt (AN rfl rfl) (Ga rfl (Ga rfl (Gn (.t7 2 4 5 6 8 12 13) (Gs (Gm rfl ?_)))))))
  refine Gt (Aj rfl rfl) (Gm rfl (Bl 102 rfl rfl (fun q=>AE rfl) (Bl 102 rfl rfl (fun q=>A8 (Bf rfl q) rfl) (Gt (BJ rfl rfl (fun h=>h)) (Gm rfl (Bl 106 rfl rfl (fun q=>AE rfl) (Bl 106 rfl rfl (fun q=>Av rfl Tryz.underlying52 (Bf rfl q)) ?_)))))))
  refine Bl 106 rfl rfl (fun q=>Aj (Bf rfl q) rfl) (Gt (BJ rfl rfl (fun h=>h)) (Gn (.t7 2 4 5 6 8 12 110) ?_))
  refine Gc (fun c9=>?_) (fun c9=>?_)
  ·
   have c9p:=kz c9
   (try simp only [Hd.cut] at c9)
   rw [hlen] at c9
   have hd:0≤(Words.verb (((Words.words s).drop (1:Int).toNat).getD (0:Int).toNat [])).1∧(Words.verb (((Words.words s).drop (1:Int).toNat).getD (0:Int).toNat [])).1 < 6:=⟨(Words.WM _).1,by have h:=c9;rw [Bool.and_eq_true,Bool.and_eq_true] at h;exact of_decide_eq_true h.1.2⟩
   refine Gs (Gm rfl ?_)
   refine Gt (AQ WX rfl rfl (by first | omega | (simp only [Hd.cut];omega) | (simp only [Hd.cut] at *;omega)) (by first | omega | (simp only [Hd.cut];omega) | (simp only [Hd.cut] at *;omega))) ?_
   refine Gt (Qd gl0 rfl CP (AH.OC hd.1 hd.2)) (Gt (Ah Fm rfl) ?_)
   refine AS (AK Order.l3 rfl rfl rfl Em rfl .h) ?_
   refine Gt (Ah GM rfl) ?_
   refine AS (AK Order.l1 rfl rfl rfl DB rfl .h) ?_
   refine Gn (.t2 2 8) (Gs (Gt (AY rfl B8 .m0 (AU.id Order.fl.len Order.fl.one) rfl) ?_))
   refine AS (AK (AU.id Order.fl.len Order.fl.one) rfl rfl rfl D6 rfl (.t (.t .h))) ?_
   refine Ga rfl (Gn (.t2 2 3) (Ab (AD ?_)))
   refine AZ rfl (.cell rfl .m2 (.inl ⟨(by rw [Order.fl.len];exact B8),rfl⟩) (.tmp rfl .n)) ?_
   intro w1 hS;refine⟨?_,hS.Am⟩;rw [show Words.parse s=_ from((AX c1).trans ((AX c2).trans ((AX c3).trans ((AX c5).trans ((AX c7).trans ((BB c8).trans (BB c9)))))))];rfl
  have c9p:=kz c9
  (try simp only [Hd.cut] at c9)
  rw [hlen] at c9
  refine Aa ?_
  refine AB (.t5 2 4 5 6 8) ?_
  refine AA (CB (Gm rfl ?_))
  refine Gt (Br JU (by decide) (Kn.own .m1) rfl rfl (by omega) (by first | omega | (simp only [Hd.cut] at *;omega) | (simp [Hd.cut] at q ⊢;omega))) ?_
  refine Gt (Dj rfl CP (Kn.own .m1) (by first | omega | (simp only [List.length_drop,Hd.cut] at *;omega) | (simp [Hd.cut] at q ⊢;omega))) ?_
  refine BA rfl UC (.c rfl .n) (fun w hS=>FG _ (by have:=Words.Ma s 0 1;exact Nat.le_trans this (by omega)) w (gl1.st hS) (gl2.st hS)) ?_
  refine Gm rfl (Gt (AN rfl rfl) (Gt (AN rfl rfl) (Gt (AN rfl rfl) (Gt (AN rfl rfl) (Gt (Ah GM rfl) ?_)))))
  refine AS (AK Order.l1 rfl rfl rfl DB rfl .h) ?_
  refine Gt (Ah Fm rfl) ?_
  refine AS (AK Order.l3 rfl rfl rfl Em rfl .h) ?_
  refine Gt (Ah HC rfl) ?_
  refine AS (AK Order.l2 rfl rfl rfl J8 rfl .h) ?_
  refine Ga rfl (Gn (.t6 2 4 5 6 7 8) (Gs (Gm rfl (Gt (Ce rfl rfl) (Gm rfl (BZ 131 rfl rfl (fun q=>Ah HC rfl) (BZ 131 rfl rfl (fun q=>AG (cF rfl q) DN .m0 Order.l2 rfl rfl) ?_)))))))
  refine BZ 131 rfl rfl (fun q=>AE (cF rfl q)) ?_
  refine DP (t:=134) rfl rfl rfl (fun qc q=>AE rfl) ?_
  refine Tv (t:=134) rfl rfl rfl (fun qc q=>by have q1:=q;have qc1:=qc;(try simp at q1 qc1);exact D7 ZI (.c (Bf rfl (by rw [qc,q];rfl)) .n) (fun w hS=>JN _ w)) ?_
  refine DP (t:=134) rfl rfl rfl (fun qc q=>BQ (Bf rfl (by rw [qc,q];rfl))) ?_
  refine BZ 131 rfl rfl (fun q=>BJ (cF rfl q) rfl (fun h=>by rw [q,h];rfl)) ?_
  refine Gt (BS rfl rfl (fun h=>by rw [h];rfl)) ?_
  refine Gn (.t6 2 4 5 6 8 139) ?_
  refine Gc (fun c10=>?_) (fun c10=>?_)
  ·
   refine Gs (Gm rfl ?_)
   refine DL rfl Ip rfl (.c rfl .n) .n (Bq _) (fun v10 B hv=>?_)
   obtain⟨rfl,rfl⟩:=hv
   refine Gt (AN rfl rfl) (Gt (AN rfl rfl) ?_)
   refine AS (AK (AU.id Order.fl.len Order.fl.one) rfl rfl rfl D6 rfl (.t (.t .h))) ?_
   refine Ga rfl (Gn (.t2 2 3) (Ab (AD ?_)))
   refine AZ rfl (.cell rfl .m2 (.inl ⟨(by rw [Order.fl.len];exact B8),rfl⟩) (.tmp rfl .n)) ?_
   intro w1 hS;refine⟨?_,hS.Am⟩;rw [show Words.parse s=_ from((AX c1).trans ((AX c2).trans ((AX c3).trans ((AX c5).trans ((AX c7).trans ((BB c8).trans ((AX c9).trans (BB c10))))))))];rfl
  have c10p:=kz c10
  refine Aa ?_
  refine AB (.t5 2 4 5 6 8) ?_
  refine AA (Gs (Gm rfl ?_))
  refine BA rfl ZM (.c rfl .n) (fun w hS=>Ik _ w) ?_
  refine Gm rfl (Gt (AN rfl rfl) (Gt (AN rfl rfl) (Ga rfl (Ga rfl (Gn (.t6 2 4 5 8 14 15) (Gs (Gm rfl ?_)))))))
  refine Gl DZ rfl Tryz.underlying52 Em rfl rfl (by decide) (by first | omega | (simp only [Hd.cut];omega) | (simp only [Hd.cut] at *;omega)) (fun _=>(.t .h)) ?_
  refine Ga rfl (Gn (.t6 2 4 5 8 14 15) (CB (Gm rfl (Gt (Av rfl Tryz.underlying52 rfl) (Gt (Ck rfl rfl) (Gm rfl (Bl 154 rfl rfl (fun q=>AE rfl) ?_)))))))
  refine Bl 154 rfl rfl (fun q=>D1 (Bf rfl q) rfl) (Gt (BJ rfl rfl (fun h=>h)) (Gm rfl (Bl 158 rfl rfl (fun q=>AE rfl) ?_)))
  refine Bl 158 rfl rfl (fun q=>by have q1:=q;(try simp at q1);exact Br JU (by decide) (Kn.own .m1) (Bf rfl q) rfl (by omega) (by first | omega | (simp only [Hd.cut] at *;omega) | (simp [Hd.cut] at q ⊢;omega))) ?_
  refine Bl 158 rfl rfl (fun q=>by have q1:=q;(try simp at q1);exact Dj (Bf rfl q) CP (Kn.own .m1) (by first | omega | (simp only [List.length_drop,Hd.cut] at *;omega) | (simp [Hd.cut] at q ⊢;omega))) ?_
  refine Bl 158 rfl rfl (fun q=>AE rfl) (Bl 158 rfl rfl (fun q=>Bt (Bf rfl q) (Bf rfl q)) (Gt (BJ rfl rfl (fun h=>h)) (Gn (.t7 2 4 5 8 14 15 164) ?_)))
  refine Gc (fun c11=>?_) (fun c11=>?_)
  ·
   have c11p:=kz c11
   (try simp only [Hd.cut] at c11)
   rw [hlen] at c11
   refine Gs (Gm rfl ?_)
   refine Gl DZ rfl Tryz.underlying52 Em rfl rfl (by decide) (by first | omega | (simp only [Hd.cut];omega) | (simp only [Hd.cut] at *;omega)) (fun _=>(.t .h)) ?_
   refine Ga rfl (Gn (.t6 2 4 5 8 14 15) (Gs (Gm rfl (Gt (Av rfl Tryz.underlying52 rfl) (Gt (Aj rfl rfl) (Gn (.t7 2 4 5 8 14 15 169) ?_))))))
   refine Gc (fun c12=>?_) (fun c12=>?_)
   ·
    (try simp only [Hd.cut] at c12)
    rw [hlen] at c12
    refine Gs (Gm rfl ?_)
    refine DL rfl Ip rfl (.c rfl .n) .n (Bq _) (fun v11 B hv=>?_)
    obtain⟨rfl,rfl⟩:=hv
    refine Gt (AN rfl rfl) (Gt (AN rfl rfl) ?_)
    refine AS (AK (AU.id Order.fl.len Order.fl.one) rfl rfl rfl D6 rfl (.t (.t .h))) ?_
    refine Ga rfl (Gn (.t2 2 3) (Ab (AD ?_)))
    refine AZ rfl (.cell rfl .m2 (.inl ⟨(by rw [Order.fl.len];exact B8),rfl⟩) (.tmp rfl .n)) ?_
    intro w1 hS;refine⟨?_,hS.Am⟩;rw [show Words.parse s=_ from((AX c1).trans ((AX c2).trans ((AX c3).trans ((AX c5).trans ((AX c7).trans ((BB c8).trans ((AX c9).trans ((AX c10).trans ((BB c11).trans (BB c12))))))))))];rfl
   have c12p:=kz c12
   (try simp only [Hd.cut] at c12)
   rw [hlen] at c12
   refine Aa ?_
   refine AB (.t6 2 4 5 8 14 15) ?_
   refine AA (Ap (Ae (Gs (Gm rfl (Gt (Av rfl Tryz.underlying52 rfl) (Gt (Aj rfl rfl) (Gm rfl ?_)))))))
   refine Bl 178 rfl rfl (fun q=>AE rfl) (Bl 178 rfl rfl (fun q=>BQ (Bf rfl q)) (Gt (BJ rfl rfl (fun h=>h)) (Ga rfl (Gn (.t6 2 4 5 8 14 174) ?_))))
   refine Gc (fun c13=>?_) (fun c13=>?_)
   ·
    (try simp only [Hd.cut] at c13)
    rw [hlen] at c13
    refine Gs (Gt (AY rfl B8 .m0 (AU.id Order.fl.len Order.fl.one) rfl) ?_)
    refine AS (AK (AU.id Order.fl.len Order.fl.one) rfl rfl rfl D6 rfl (.t (.t .h))) ?_
    refine Ga rfl (Gn (.t2 2 3) (Ab (AT (AD ?_))))
    refine AZ rfl (.cell rfl .m2 (.inl ⟨(by rw [Order.fl.len];exact B8),rfl⟩) (.tmp rfl .n)) ?_
    intro w1 hS;refine⟨?_,hS.Am⟩;rw [show Words.parse s=_ from((AX c1).trans ((AX c2).trans ((AX c3).trans ((AX c5).trans ((AX c7).trans ((BB c8).trans ((AX c9).trans ((AX c10).trans ((BB c11).trans ((AX c12).trans (BB c13)))))))))))];rfl
   have c13p:=kz c13
   (try simp only [Hd.cut] at c13)
   rw [hlen] at c13
   refine Gs (Gm rfl (Gt (Av rfl Tryz.underlying52 rfl) (Gt (Ce rfl rfl) (Gm rfl (BZ 187 rfl rfl (fun q=>AE rfl) (BZ 187 rfl rfl (fun q=>Bt (cF rfl q) rfl) ?_))))))
   refine Gt (BS rfl rfl (fun h=>by rw [h];rfl)) ?_
   refine Ga rfl (Gn (.t5 2 4 5 8 183) ?_)
   refine Gc (fun c14=>?_) (fun c14=>?_)
   ·
    (try simp only [Hd.cut] at c14)
    rw [hlen] at c14
    refine Gs (Gm rfl ?_)
    refine DL rfl Ip rfl (.c rfl .n) .n (Bq _) (fun v12 B hv=>?_)
    obtain⟨rfl,rfl⟩:=hv
    refine Gt (AN rfl rfl) (Gt (AN rfl rfl) ?_)
    refine AS (AK (AU.id Order.fl.len Order.fl.one) rfl rfl rfl D6 rfl (.t (.t .h))) ?_
    refine Ga rfl (Gn (.t2 2 3) (Ab (AT (AD ?_))))
    refine AZ rfl (.cell rfl .m2 (.inl ⟨(by rw [Order.fl.len];exact B8),rfl⟩) (.tmp rfl .n)) ?_
    intro w1 hS;refine⟨?_,hS.Am⟩;rw [show Words.parse s=_ from((AX c1).trans ((AX c2).trans ((AX c3).trans ((AX c5).trans ((AX c7).trans ((BB c8).trans ((AX c9).trans ((AX c10).trans ((BB c11).trans ((AX c12).trans ((AX c13).trans (BB c14))))))))))))];rfl
   have c14p:=kz c14
   (try simp only [Hd.cut] at c14)
   rw [hlen] at c14
   refine Aa ?_
   refine AB (.t3 2 5 8) ?_
   refine AV (AA (Gs (Gm rfl ?_)))
   refine Gt (Br JU (by decide) (Kn.own .m1) rfl rfl (by omega) (by first | omega | (simp only [Hd.cut] at *;omega) | (simp [Hd.cut] at q ⊢;omega))) ?_
   refine Gt (Dj rfl CP (Kn.own .m1) (by first | omega | (simp only [List.length_drop,Hd.cut] at *;omega) | (simp [Hd.cut] at q ⊢;omega))) ?_
   refine Gt (Ah Hy rfl) ?_
   refine AS (AK Order.l4 rfl rfl rfl Em rfl .h) ?_
   refine Gn (.t2 2 8) (Gs (Gt (AY rfl B8 .m0 (AU.id Order.fl.len Order.fl.one) rfl) ?_))
   refine AS (AK (AU.id Order.fl.len Order.fl.one) rfl rfl rfl D6 rfl (.t (.t .h))) ?_
   refine Ga rfl (Gn (.t2 2 3) (Ab ?_))
   refine AZ rfl (.cell rfl .m2 (.inl ⟨(by rw [Order.fl.len];exact B8),rfl⟩) (.tmp rfl .n)) ?_
   intro w1 hS;refine⟨?_,hS.Am⟩;rw [show Words.parse s=_ from((AX c1).trans ((AX c2).trans ((AX c3).trans ((AX c5).trans ((AX c7).trans ((BB c8).trans ((AX c9).trans ((AX c10).trans ((BB c11).trans ((AX c12).trans ((AX c13).trans (AX c14))))))))))))];rfl
  have c11p:=kz c11
  (try simp only [Hd.cut] at c11)
  rw [hlen] at c11
  refine Aa ?_
  refine AB (.t6 2 4 5 8 14 15) ?_
  refine AA (Ap (Ae (Gs (Gm rfl (Gt (Av rfl Tryz.underlying52 rfl) (Gt (Aj rfl rfl) (Gm rfl ?_)))))))
  refine Bl 178 rfl rfl (fun q=>AE rfl) (Bl 178 rfl rfl (fun q=>BQ (Bf rfl q)) (Gt (BJ rfl rfl (fun h=>h)) (Ga rfl (Gn (.t6 2 4 5 8 14 174) ?_))))
  refine Gc (fun c15=>?_) (fun c15=>?_)
  ·
   (try simp only [Hd.cut] at c15)
   rw [hlen] at c15
   refine Gs (Gt (AY rfl B8 .m0 (AU.id Order.fl.len Order.fl.one) rfl) ?_)
   refine AS (AK (AU.id Order.fl.len Order.fl.one) rfl rfl rfl D6 rfl (.t (.t .h))) ?_
   refine Ga rfl (Gn (.t2 2 3) (Ab (AT (AD ?_))))
   refine AZ rfl (.cell rfl .m2 (.inl ⟨(by rw [Order.fl.len];exact B8),rfl⟩) (.tmp rfl .n)) ?_
   intro w1 hS;refine⟨?_,hS.Am⟩;rw [show Words.parse s=_ from((AX c1).trans ((AX c2).trans ((AX c3).trans ((AX c5).trans ((AX c7).trans ((BB c8).trans ((AX c9).trans ((AX c10).trans ((AX c11).trans (BB c15))))))))))];rfl
  have c15p:=kz c15
  (try simp only [Hd.cut] at c15)
  rw [hlen] at c15
  refine Gs (Gm rfl (Gt (Av rfl Tryz.underlying52 rfl) (Gt (Ce rfl rfl) (Gm rfl (BZ 187 rfl rfl (fun q=>AE rfl) (BZ 187 rfl rfl (fun q=>Bt (cF rfl q) rfl) ?_))))))
  refine Gt (BS rfl rfl (fun h=>by rw [h];rfl)) ?_
  refine Ga rfl (Gn (.t5 2 4 5 8 183) ?_)
  refine Gc (fun c16=>?_) (fun c16=>?_)
  ·
   (try simp only [Hd.cut] at c16)
   rw [hlen] at c16
   refine Gs (Gm rfl ?_)
   refine DL rfl Ip rfl (.c rfl .n) .n (Bq _) (fun v13 B hv=>?_)
   obtain⟨rfl,rfl⟩:=hv
   refine Gt (AN rfl rfl) (Gt (AN rfl rfl) ?_)
   refine AS (AK (AU.id Order.fl.len Order.fl.one) rfl rfl rfl D6 rfl (.t (.t .h))) ?_
   refine Ga rfl (Gn (.t2 2 3) (Ab (AT (AD ?_))))
   refine AZ rfl (.cell rfl .m2 (.inl ⟨(by rw [Order.fl.len];exact B8),rfl⟩) (.tmp rfl .n)) ?_
   intro w1 hS;refine⟨?_,hS.Am⟩;rw [show Words.parse s=_ from((AX c1).trans ((AX c2).trans ((AX c3).trans ((AX c5).trans ((AX c7).trans ((BB c8).trans ((AX c9).trans ((AX c10).trans ((AX c11).trans ((AX c15).trans (BB c16)))))))))))];rfl
  have c16p:=kz c16
  (try simp only [Hd.cut] at c16)
  rw [hlen] at c16
  refine Aa ?_
  refine AB (.t3 2 5 8) ?_
  refine AV (AA (Gs (Gm rfl ?_)))
  refine Gt (Br JU (by decide) (Kn.own .m1) rfl rfl (by omega) (by first | omega | (simp only [Hd.cut] at *;omega) | (simp [Hd.cut] at q ⊢;omega))) ?_
  refine Gt (Dj rfl CP (Kn.own .m1) (by first | omega | (simp only [List.length_drop,Hd.cut] at *;omega) | (simp [Hd.cut] at q ⊢;omega))) ?_
  refine Gt (Ah Hy rfl) ?_
  refine AS (AK Order.l4 rfl rfl rfl Em rfl .h) ?_
  refine Gn (.t2 2 8) (Gs (Gt (AY rfl B8 .m0 (AU.id Order.fl.len Order.fl.one) rfl) ?_))
  refine AS (AK (AU.id Order.fl.len Order.fl.one) rfl rfl rfl D6 rfl (.t (.t .h))) ?_
  refine Ga rfl (Gn (.t2 2 3) (Ab ?_))
  refine AZ rfl (.cell rfl .m2 (.inl ⟨(by rw [Order.fl.len];exact B8),rfl⟩) (.tmp rfl .n)) ?_
  intro w1 hS;refine⟨?_,hS.Am⟩;rw [show Words.parse s=_ from((AX c1).trans ((AX c2).trans ((AX c3).trans ((AX c5).trans ((AX c7).trans ((BB c8).trans ((AX c9).trans ((AX c10).trans ((AX c11).trans ((AX c15).trans (AX c16)))))))))))];rfl
 have c8p:=kz c8
 refine Aa ?_
 refine AB (.t5 2 4 5 6 8) ?_
 refine AA (CB (Gm rfl ?_))
 refine Gt (Br JU (by decide) (Kn.own .m1) rfl rfl (by omega) (by first | omega | (simp only [Hd.cut] at *;omega) | (simp [Hd.cut] at q ⊢;omega))) ?_
 refine Gt (Dj rfl CP (Kn.own .m1) (by first | omega | (simp only [List.length_drop,Hd.cut] at *;omega) | (simp [Hd.cut] at q ⊢;omega))) ?_
 refine BA rfl UC (.c rfl .n) (fun w hS=>FG _ (by have:=Words.Ma s 0 1;exact Nat.le_trans this (by omega)) w (gl1.st hS) (gl2.st hS)) ?_
 refine Gm rfl (Gt (AN rfl rfl) (Gt (AN rfl rfl) (Gt (AN rfl rfl) (Gt (AN rfl rfl) (Gt (Ah GM rfl) ?_)))))
 refine AS (AK Order.l1 rfl rfl rfl DB rfl .h) ?_
 refine Gt (Ah Fm rfl) ?_
 refine AS (AK Order.l3 rfl rfl rfl Em rfl .h) ?_
 refine Gt (Ah HC rfl) ?_
 refine AS (AK Order.l2 rfl rfl rfl J8 rfl .h) ?_
 refine Ga rfl (Gn (.t6 2 4 5 6 7 8) (Gs (Gm rfl (Gt (Ce rfl rfl) (Gm rfl (BZ 131 rfl rfl (fun q=>Ah HC rfl) (BZ 131 rfl rfl (fun q=>AG (cF rfl q) DN .m0 Order.l2 rfl rfl) ?_)))))))
 refine BZ 131 rfl rfl (fun q=>AE (cF rfl q)) ?_
 refine DP (t:=134) rfl rfl rfl (fun qc q=>AE rfl) ?_
 refine Tv (t:=134) rfl rfl rfl (fun qc q=>by have q1:=q;have qc1:=qc;(try simp at q1 qc1);exact D7 ZI (.c (Bf rfl (by rw [qc,q];rfl)) .n) (fun w hS=>JN _ w)) ?_
 refine DP (t:=134) rfl rfl rfl (fun qc q=>BQ (Bf rfl (by rw [qc,q];rfl))) ?_
 refine BZ 131 rfl rfl (fun q=>BJ (cF rfl q) rfl (fun h=>by rw [q,h];rfl)) ?_
 refine Gt (BS rfl rfl (fun h=>by rw [h];rfl)) ?_
 refine Gn (.t6 2 4 5 6 8 139) ?_
 refine Gc (fun c17=>?_) (fun c17=>?_)
 ·
  refine Gs (Gm rfl ?_)
  refine DL rfl Ip rfl (.c rfl .n) .n (Bq _) (fun v14 B hv=>?_)
  obtain⟨rfl,rfl⟩:=hv
  refine Gt (AN rfl rfl) (Gt (AN rfl rfl) ?_)
  refine AS (AK (AU.id Order.fl.len Order.fl.one) rfl rfl rfl D6 rfl (.t (.t .h))) ?_
  refine Ga rfl (Gn (.t2 2 3) (Ab (AD ?_)))
  refine AZ rfl (.cell rfl .m2 (.inl ⟨(by rw [Order.fl.len];exact B8),rfl⟩) (.tmp rfl .n)) ?_
  intro w1 hS;refine⟨?_,hS.Am⟩;rw [show Words.parse s=_ from((AX c1).trans ((AX c2).trans ((AX c3).trans ((AX c5).trans ((AX c7).trans ((AX c8).trans (BB c17)))))))];rfl
 have c17p:=kz c17
 refine Aa ?_
 refine AB (.t5 2 4 5 6 8) ?_
 refine AA (Gs (Gm rfl ?_))
 refine BA rfl ZM (.c rfl .n) (fun w hS=>Ik _ w) ?_
 refine Gm rfl (Gt (AN rfl rfl) (Gt (AN rfl rfl) (Ga rfl (Ga rfl (Gn (.t6 2 4 5 8 14 15) (Gs (Gm rfl ?_)))))))
 refine Gl DZ rfl Tryz.underlying52 Em rfl rfl (by decide) (by first | omega | (simp only [Hd.cut];omega) | (simp only [Hd.cut] at *;omega)) (fun _=>(.t .h)) ?_
 refine Ga rfl (Gn (.t6 2 4 5 8 14 15) (CB (Gm rfl (Gt (Av rfl Tryz.underlying52 rfl) (Gt (Ck rfl rfl) (Gm rfl (Bl 154 rfl rfl (fun q=>AE rfl) ?_)))))))
 refine Bl 154 rfl rfl (fun q=>D1 (Bf rfl q) rfl) (Gt (BJ rfl rfl (fun h=>h)) (Gm rfl (Bl 158 rfl rfl (fun q=>AE rfl) ?_)))
 refine Bl 158 rfl rfl (fun q=>by have q1:=q;(try simp at q1);exact Br JU (by decide) (Kn.own .m1) (Bf rfl q) rfl (by omega) (by first | omega | (simp only [Hd.cut] at *;omega) | (simp [Hd.cut] at q ⊢;omega))) ?_
 refine Bl 158 rfl rfl (fun q=>by have q1:=q;(try simp at q1);exact Dj (Bf rfl q) CP (Kn.own .m1) (by first | omega | (simp only [List.length_drop,Hd.cut] at *;omega) | (simp [Hd.cut] at q ⊢;omega))) ?_
 refine Bl 158 rfl rfl (fun q=>AE rfl) (Bl 158 rfl rfl (fun q=>Bt (Bf rfl q) (Bf rfl q)) (Gt (BJ rfl rfl (fun h=>h)) (Gn (.t7 2 4 5 8 14 15 164) ?_)))
 refine Gc (fun c18=>?_) (fun c18=>?_)
 ·
  have c18p:=kz c18
  (try simp only [Hd.cut] at c18)
  rw [hlen] at c18
  refine Gs (Gm rfl ?_)
  refine Gl DZ rfl Tryz.underlying52 Em rfl rfl (by decide) (by first | omega | (simp only [Hd.cut];omega) | (simp only [Hd.cut] at *;omega)) (fun _=>(.t .h)) ?_
  refine Ga rfl (Gn (.t6 2 4 5 8 14 15) (Gs (Gm rfl (Gt (Av rfl Tryz.underlying52 rfl) (Gt (Aj rfl rfl) (Gn (.t7 2 4 5 8 14 15 169) ?_))))))
  refine Gc (fun c19=>?_) (fun c19=>?_)
  ·
   (try simp only [Hd.cut] at c19)
   rw [hlen] at c19
   refine Gs (Gm rfl ?_)
   refine DL rfl Ip rfl (.c rfl .n) .n (Bq _) (fun v15 B hv=>?_)
   obtain⟨rfl,rfl⟩:=hv
   refine Gt (AN rfl rfl) (Gt (AN rfl rfl) ?_)
   refine AS (AK (AU.id Order.fl.len Order.fl.one) rfl rfl rfl D6 rfl (.t (.t .h))) ?_
   refine Ga rfl (Gn (.t2 2 3) (Ab (AD ?_)))
   refine AZ rfl (.cell rfl .m2 (.inl ⟨(by rw [Order.fl.len];exact B8),rfl⟩) (.tmp rfl .n)) ?_
   intro w1 hS;refine⟨?_,hS.Am⟩;rw [show Words.parse s=_ from((AX c1).trans ((AX c2).trans ((AX c3).trans ((AX c5).trans ((AX c7).trans ((AX c8).trans ((AX c17).trans ((BB c18).trans (BB c19)))))))))];rfl
  have c19p:=kz c19
  (try simp only [Hd.cut] at c19)
  rw [hlen] at c19
  refine Aa ?_
  refine AB (.t6 2 4 5 8 14 15) ?_
  refine AA (Ap (Ae (Gs (Gm rfl (Gt (Av rfl Tryz.underlying52 rfl) (Gt (Aj rfl rfl) (Gm rfl ?_)))))))
  refine Bl 178 rfl rfl (fun q=>AE rfl) (Bl 178 rfl rfl (fun q=>BQ (Bf rfl q)) (Gt (BJ rfl rfl (fun h=>h)) (Ga rfl (Gn (.t6 2 4 5 8 14 174) ?_))))
  refine Gc (fun c20=>?_) (fun c20=>?_)
  ·
   (try simp only [Hd.cut] at c20)
   rw [hlen] at c20
   refine Gs (Gt (AY rfl B8 .m0 (AU.id Order.fl.len Order.fl.one) rfl) ?_)
   refine AS (AK (AU.id Order.fl.len Order.fl.one) rfl rfl rfl D6 rfl (.t (.t .h))) ?_
   refine Ga rfl (Gn (.t2 2 3) (Ab (AT (AD ?_))))
   refine AZ rfl (.cell rfl .m2 (.inl ⟨(by rw [Order.fl.len];exact B8),rfl⟩) (.tmp rfl .n)) ?_
   intro w1 hS;refine⟨?_,hS.Am⟩;rw [show Words.parse s=_ from((AX c1).trans ((AX c2).trans ((AX c3).trans ((AX c5).trans ((AX c7).trans ((AX c8).trans ((AX c17).trans ((BB c18).trans ((AX c19).trans (BB c20))))))))))];rfl
  have c20p:=kz c20
  (try simp only [Hd.cut] at c20)
  rw [hlen] at c20
  refine Gs (Gm rfl (Gt (Av rfl Tryz.underlying52 rfl) (Gt (Ce rfl rfl) (Gm rfl (BZ 187 rfl rfl (fun q=>AE rfl) (BZ 187 rfl rfl (fun q=>Bt (cF rfl q) rfl) ?_))))))
  refine Gt (BS rfl rfl (fun h=>by rw [h];rfl)) ?_
  refine Ga rfl (Gn (.t5 2 4 5 8 183) ?_)
  refine Gc (fun c21=>?_) (fun c21=>?_)
  ·
   (try simp only [Hd.cut] at c21)
   rw [hlen] at c21
   refine Gs (Gm rfl ?_)
   refine DL rfl Ip rfl (.c rfl .n) .n (Bq _) (fun v16 B hv=>?_)
   obtain⟨rfl,rfl⟩:=hv
   refine Gt (AN rfl rfl) (Gt (AN rfl rfl) ?_)
   refine AS (AK (AU.id Order.fl.len Order.fl.one) rfl rfl rfl D6 rfl (.t (.t .h))) ?_
   refine Ga rfl (Gn (.t2 2 3) (Ab (AT (AD ?_))))
   refine AZ rfl (.cell rfl .m2 (.inl ⟨(by rw [Order.fl.len];exact B8),rfl⟩) (.tmp rfl .n)) ?_
   intro w1 hS;refine⟨?_,hS.Am⟩;rw [show Words.parse s=_ from((AX c1).trans ((AX c2).trans ((AX c3).trans ((AX c5).trans ((AX c7).trans ((AX c8).trans ((AX c17).trans ((BB c18).trans ((AX c19).trans ((AX c20).trans (BB c21)))))))))))];rfl
  have c21p:=kz c21
  (try simp only [Hd.cut] at c21)
  rw [hlen] at c21
  refine Aa ?_
  refine AB (.t3 2 5 8) ?_
  refine AV (AA (Gs (Gm rfl ?_)))
  refine Gt (Br JU (by decide) (Kn.own .m1) rfl rfl (by omega) (by first | omega | (simp only [Hd.cut] at *;omega) | (simp [Hd.cut] at q ⊢;omega))) ?_
  refine Gt (Dj rfl CP (Kn.own .m1) (by first | omega | (simp only [List.length_drop,Hd.cut] at *;omega) | (simp [Hd.cut] at q ⊢;omega))) ?_
  refine Gt (Ah Hy rfl) ?_
  refine AS (AK Order.l4 rfl rfl rfl Em rfl .h) ?_
  refine Gn (.t2 2 8) (Gs (Gt (AY rfl B8 .m0 (AU.id Order.fl.len Order.fl.one) rfl) ?_))
  refine AS (AK (AU.id Order.fl.len Order.fl.one) rfl rfl rfl D6 rfl (.t (.t .h))) ?_
  refine Ga rfl (Gn (.t2 2 3) (Ab ?_))
  refine AZ rfl (.cell rfl .m2 (.inl ⟨(by rw [Order.fl.len];exact B8),rfl⟩) (.tmp rfl .n)) ?_
  intro w1 hS;refine⟨?_,hS.Am⟩;rw [show Words.parse s=_ from((AX c1).trans ((AX c2).trans ((AX c3).trans ((AX c5).trans ((AX c7).trans ((AX c8).trans ((AX c17).trans ((BB c18).trans ((AX c19).trans ((AX c20).trans (AX c21)))))))))))];rfl
 have c18p:=kz c18
 (try simp only [Hd.cut] at c18)
 rw [hlen] at c18
 refine Aa ?_
 refine AB (.t6 2 4 5 8 14 15) ?_
 refine AA (Ap (Ae (Gs (Gm rfl (Gt (Av rfl Tryz.underlying52 rfl) (Gt (Aj rfl rfl) (Gm rfl ?_)))))))
 refine Bl 178 rfl rfl (fun q=>AE rfl) (Bl 178 rfl rfl (fun q=>BQ (Bf rfl q)) (Gt (BJ rfl rfl (fun h=>h)) (Ga rfl (Gn (.t6 2 4 5 8 14 174) ?_))))
 refine Gc (fun c22=>?_) (fun c22=>?_)
 ·
  (try simp only [Hd.cut] at c22)
  rw [hlen] at c22
  refine Gs (Gt (AY rfl B8 .m0 (AU.id Order.fl.len Order.fl.one) rfl) ?_)
  refine AS (AK (AU.id Order.fl.len Order.fl.one) rfl rfl rfl D6 rfl (.t (.t .h))) ?_
  refine Ga rfl (Gn (.t2 2 3) (Ab (AT (AD ?_))))
  refine AZ rfl (.cell rfl .m2 (.inl ⟨(by rw [Order.fl.len];exact B8),rfl⟩) (.tmp rfl .n)) ?_
  intro w1 hS;refine⟨?_,hS.Am⟩;rw [show Words.parse s=_ from((AX c1).trans ((AX c2).trans ((AX c3).trans ((AX c5).trans ((AX c7).trans ((AX c8).trans ((AX c17).trans ((AX c18).trans (BB c22)))))))))];rfl
 have c22p:=kz c22
 (try simp only [Hd.cut] at c22)
 rw [hlen] at c22
 refine Gs (Gm rfl (Gt (Av rfl Tryz.underlying52 rfl) (Gt (Ce rfl rfl) (Gm rfl (BZ 187 rfl rfl (fun q=>AE rfl) (BZ 187 rfl rfl (fun q=>Bt (cF rfl q) rfl) ?_))))))
 refine Gt (BS rfl rfl (fun h=>by rw [h];rfl)) ?_
 refine Ga rfl (Gn (.t5 2 4 5 8 183) ?_)
 refine Gc (fun c23=>?_) (fun c23=>?_)
 ·
  (try simp only [Hd.cut] at c23)
  rw [hlen] at c23
  refine Gs (Gm rfl ?_)
  refine DL rfl Ip rfl (.c rfl .n) .n (Bq _) (fun v17 B hv=>?_)
  obtain⟨rfl,rfl⟩:=hv
  refine Gt (AN rfl rfl) (Gt (AN rfl rfl) ?_)
  refine AS (AK (AU.id Order.fl.len Order.fl.one) rfl rfl rfl D6 rfl (.t (.t .h))) ?_
  refine Ga rfl (Gn (.t2 2 3) (Ab (AT (AD ?_))))
  refine AZ rfl (.cell rfl .m2 (.inl ⟨(by rw [Order.fl.len];exact B8),rfl⟩) (.tmp rfl .n)) ?_
  intro w1 hS;refine⟨?_,hS.Am⟩;rw [show Words.parse s=_ from((AX c1).trans ((AX c2).trans ((AX c3).trans ((AX c5).trans ((AX c7).trans ((AX c8).trans ((AX c17).trans ((AX c18).trans ((AX c22).trans (BB c23))))))))))];rfl
 have c23p:=kz c23
 (try simp only [Hd.cut] at c23)
 rw [hlen] at c23
 refine Aa ?_
 refine AB (.t3 2 5 8) ?_
 refine AV (AA (Gs (Gm rfl ?_)))
 refine Gt (Br JU (by decide) (Kn.own .m1) rfl rfl (by omega) (by first | omega | (simp only [Hd.cut] at *;omega) | (simp [Hd.cut] at q ⊢;omega))) ?_
 refine Gt (Dj rfl CP (Kn.own .m1) (by first | omega | (simp only [List.length_drop,Hd.cut] at *;omega) | (simp [Hd.cut] at q ⊢;omega))) ?_
 refine Gt (Ah Hy rfl) ?_
 refine AS (AK Order.l4 rfl rfl rfl Em rfl .h) ?_
 refine Gn (.t2 2 8) (Gs (Gt (AY rfl B8 .m0 (AU.id Order.fl.len Order.fl.one) rfl) ?_))
 refine AS (AK (AU.id Order.fl.len Order.fl.one) rfl rfl rfl D6 rfl (.t (.t .h))) ?_
 refine Ga rfl (Gn (.t2 2 3) (Ab ?_))
 refine AZ rfl (.cell rfl .m2 (.inl ⟨(by rw [Order.fl.len];exact B8),rfl⟩) (.tmp rfl .n)) ?_
 intro w1 hS;refine⟨?_,hS.Am⟩;rw [show Words.parse s=_ from((AX c1).trans ((AX c2).trans ((AX c3).trans ((AX c5).trans ((AX c7).trans ((AX c8).trans ((AX c17).trans ((AX c18).trans ((AX c22).trans (AX c23))))))))))];rfl
theorem HQ (d:Int)(w:World):Eh Tryz.prog 128 #[.int .i64 d] w fun v w'=>v = .int .i64 (AH.opposite d)∧CA w w':=by
 refine Ak [] [] Tryz.func128 rfl rfl rfl (St.start w []) ?_
 refine Gs (Ga rfl (Gn (.t1 0) (Gs (Gm rfl (Gt (L5 rfl rfl) (Gt (Li rfl rfl) ?_))))))
 refine Gt (Aw rfl rfl (IntWalk.i64_in _ (by omega))) ?_
 refine Gt (Sr rfl rfl (by omega)) ?_
 refine Ga rfl (Gn (.t1 2) (Ab ?_))
 refine AZ rfl (.tmp rfl .n) ?_
 intro w1 hS;refine⟨?_,hS.Am⟩;rfl
theorem QZ (b:Nat)(T:AF)(g:Hd)(d:Int)(hg:g.len=T.out.length)(hF:T.Fit)(hd:0≤d∧d < 6)(hn:T.out.length≤80000):FK Tryz.prog 99 #[.pointer (some ⟨b,0,none⟩), .int .i64 d] [Ac.box b 163 (Ad.enc ⟨T.w,T.b,g⟩),Ac.own g 56 16 (T.out.flatMap Ing.Event.enc)] (fun w=>(GV 0 AH.DG w∧0 ∉ Cf [Ac.box b 163 (Ad.enc ⟨T.w,T.b,g⟩),Ac.own g 56 16 (T.out.flatMap Ing.Event.enc)])) (fun v B=>∃ g':Hd,v = .tuple #[]∧g'.len=(T.walk d).out.length∧B = [Ac.box b 163 (Ad.enc ⟨(T.walk d).w,(T.walk d).b,g'⟩),Ac.own g' 56 16 ((T.walk d).out.flatMap Ing.Event.enc)]):=by
 intro w hS0 hH
 obtain⟨gl0,gm0⟩:=hH
 have hb:=hF.b
 have hr:=hF.room
 have hx:=hF.exit hd.1 hd.2
 refine Ak _ _ Tryz.func99 rfl rfl rfl (hS0) ?_
 refine Ap ?_
 refine BE (N:=19) [0,0,0,4,12,28,2,66,194,510,1022,2046,1,4097,12289,32767,65535,0,262143] mix (by kernel_rfl) rfl ?_
 refine Pf 0 rfl (AE rfl) (Pf 1 rfl (AE rfl) (Pf 2 rfl (AE rfl) (Pf 3 rfl (BV rfl) (Pf 4 rfl (Ah CR rfl) (Pf 5 rfl (AG rfl A5 .m0 Ad.l1 rfl rfl) (Pf 6 rfl (BV rfl) (Pf 7 rfl (Ah A9 rfl) ?_)))))))
 refine Pf 8 rfl (Ah Bi rfl) ?_
 refine Pf 9 rfl (AQ Cs rfl rfl (by first | omega | exact hb.1 | exact hb.2 | (dsimp only;omega)) (by first | omega | exact hb.1 | exact hb.2 | (dsimp only;omega))) ?_
 refine Pf 10 rfl (Ah C2 rfl) ?_
 refine Pf 11 rfl (AG rfl A5 .m0 (((Ad.l0.comp AH.l2).comp (AU.ar (n:=6) Ag.fl (by first | omega | exact hb | (dsimp only;omega)))).comp Ag.l3) rfl rfl) ?_
 refine Pf 12 rfl (BV rfl) (Pf 13 rfl (Ah A9 rfl) (Pf 14 rfl (Ah G2 rfl) ?_))
 refine Pf 15 rfl (AQ OO rfl rfl (by first | omega | exact hb.1 | exact hb.2 | (dsimp only;omega)) (by first | omega | exact hb.1 | exact hb.2 | (dsimp only;omega))) ?_
 refine Pf 16 rfl (AY rfl Nu .m0 ((Ad.l0.comp AH.l0).comp (AU.ar (n:=6) Room.fl (by first | omega | exact hb | (dsimp only;omega)))) rfl) ?_
 refine An 17 rfl (by kernel_rfl) ?_
 refine BD rfl Ns rfl (fun b1=>?_)
 refine Bp rfl ⟨?_,?_⟩
 · exact(Po rfl (AY rfl Nu .m1 ((Ad.l0.comp AH.l0).comp (AU.ar (n:=6) Room.fl (by first | omega | exact hb | (dsimp only;omega)))) rfl) rfl rfl (Po rfl (AQ OO rfl rfl (by first | omega | exact hb.1 | exact hb.2 | (dsimp only;omega)) (by first | omega | exact hb.1 | exact hb.2 | (dsimp only;omega))) rfl rfl (Po rfl (Ah G2 rfl) rfl rfl (Po rfl (Ah A9 rfl) rfl rfl (Po rfl (BV rfl) rfl rfl (Po rfl (AG rfl A5 .m1 (((Ad.l0.comp AH.l2).comp (AU.ar (n:=6) Ag.fl (by first | omega | exact hb | (dsimp only;omega)))).comp Ag.l3) rfl rfl) rfl rfl (Po rfl (Ah C2 rfl) rfl rfl (Po rfl (AQ Cs rfl rfl (by first | omega | exact hb.1 | exact hb.2 | (dsimp only;omega)) (by first | omega | exact hb.1 | exact hb.2 | (dsimp only;omega))) rfl rfl (Po rfl (Ah Bi rfl) rfl rfl (Po rfl (Ah A9 rfl) rfl rfl (Po rfl (BV rfl) rfl rfl (Po rfl (AG rfl A5 .m1 Ad.l1 rfl rfl) rfl rfl (Po rfl (Ah CR rfl) rfl rfl (Po rfl (BV rfl) rfl rfl (Po rfl (AE rfl) rfl rfl (Po rfl (AE rfl) rfl rfl (Po rfl (AE rfl) rfl rfl Ar)))))))))))))))))
 refine An 18 rfl (by kernel_rfl) ?_
 refine AS (AK (AU.id Room.fl.len Room.fl.one) rfl rfl rfl Q1 rfl .h) ?_
 refine BO rfl ⟨?_,?_⟩
 · exact(Pk (Pk (Pk (Pk (Pk (Pk (Pk (Pk (Pk (Pk (Pk (Pk (Pk (Pk (Pk (Pk (Pk Ar)))))))))))))))))
 refine A4 (by kernel_rfl) ?_
 refine AB (.t3 0 1 4) ?_
 refine AA (Ae (Gs (Gm rfl (Gt (Ah MQ rfl) ?_))))
 refine Gt (AQ R4 rfl rfl (by first | omega | exact hb.1 | exact hb.2 | (dsimp only;omega)) (by first | omega | exact hb.1 | exact hb.2 | (dsimp only;omega))) ?_
 refine Gt (AG rfl A5 .m0 (Room.l2.comp (AU.ar (n:=6) B2 (by first | omega | exact hb | (dsimp only;omega)))) rfl rfl) ?_
 refine Gt (Aj rfl rfl) (Ga rfl (Gn (.t4 0 1 4 58) ?_))
 refine Gc (fun c1=>?_) (fun c1=>?_)
 ·
  have c1p:=kz c1
  refine AJ (Gm rfl ?_)
  refine Ai rfl EC (.c rfl (.c rfl .n)) (.c (.t .h) (.c (.t .h) .n)) (Bc _ _ _ _ hg hb (by omega)) (fun v1 B hv=>?_)
  obtain⟨y2,rfl,y3,rfl⟩:=hv
  refine AR (AB (.nil _) ?_)
  refine AV ?_
  refine Bk rfl .n ?_
  intro w1 hS
  have hS:=(hS.perm (Ax.perm (.c .h (.c .h .n)))).A1
  have hq:T.walk d=_:=(BB c1)
  refine⟨_,⟨?gq1,rfl,?hl1,?hB1⟩,hS⟩
  case hB1=>rw [hq];(try rfl)
  case hl1=>rw [hq];assumption
 have c1p:=kz c1
 refine Gs (Gm rfl (Gt (Ah MJ rfl) ?_))
 refine Gt (AQ QT rfl rfl (by first | omega | exact hb.1 | exact hb.2 | (dsimp only;omega)) (by first | omega | exact hb.1 | exact hb.2 | (dsimp only;omega))) ?_
 refine Gt (AG rfl DN .m0 (Room.l3.comp (AU.ar (n:=6) Fx (by first | omega | exact hb | (dsimp only;omega)))) rfl rfl) ?_
 refine Ga rfl (Gn (.t4 0 1 4 66) ?_)
 refine Gc (fun c2=>?_) (fun c2=>?_)
 ·
  have c2p:=kz c2
  refine AJ (Gm rfl ?_)
  refine Ai rfl EC (.c rfl (.c rfl .n)) (.c (.t .h) (.c (.t .h) .n)) (Bc _ _ _ _ hg hb (by omega)) (fun v4 B hv=>?_)
  obtain⟨y5,rfl,y6,rfl⟩:=hv
  refine AR (AB (.nil _) ?_)
  refine AV ?_
  refine Bk rfl .n ?_
  intro w1 hS
  have hS:=(hS.perm (Ax.perm (.c .h (.c .h .n)))).A1
  have hq:T.walk d=_:=((AX c1).trans (BB c2))
  refine⟨_,⟨?gq2,rfl,?hl2,?hB2⟩,hS⟩
  case hB2=>rw [hq];(try rfl)
  case hl2=>rw [hq];assumption
 have c2p:=kz c2
 have gm:=AF.Ob (hF.BP { AF.Fy 1 with dir:=d }) (r:=(T.w.BT.at T.me.room).CN.at d - 1) (by have h0:¬ (T.w.BT.at (T.w.AM.at T.b).room).CN.at d=0:=c1p;show 0≤(T.w.BT.at (T.w.AM.at T.b).room).CN.at d - 1∧(T.w.BT.at (T.w.AM.at T.b).room).CN.at d - 1 < 6;omega)
 refine Gs (Gm rfl (Gm rfl (Gt (BC O9 IU rfl (.cons Ing.Event.l0 rfl rfl rfl (.cons Ing.Event.l3 rfl rfl rfl (.cons Ing.Event.l4 rfl rfl rfl .nil)))) ?_)))
 refine Ai rfl Nx (.c rfl (.c rfl .n)) (.c (.t .h) (.c (.t .h) .n)) (CO _ T _ { AF.Fy 1 with dir:=d } hg hb (show(-1:Int) < 6 by decide) (by omega)) (fun v7 B hv=>?_)
 obtain⟨y8,rfl,y9,rfl⟩:=hv
 refine Gn (.t3 0 1 4) (Ap ?_)
 refine BE (N:=16) [0,0,2,6,14,0,0,96,224,480,1,1025,3073,8191,16383,32767] mix (by kernel_rfl) rfl ?_
 refine Pf 0 rfl (AE rfl) (Pf 1 rfl (AE rfl) (Pf 2 rfl (BV rfl) (Pf 3 rfl (Ah CR rfl) (Pf 4 rfl (AG rfl A5 .m0 Ad.l1 rfl rfl) (Pf 5 rfl (AE rfl) (Pf 6 rfl (Ah MQ rfl) ?_))))))
 refine Pf 7 rfl (AQ R4 rfl rfl (by first | omega | exact hb.1 | exact hb.2 | (dsimp only;omega)) (by first | omega | exact hb.1 | exact hb.2 | (dsimp only;omega))) ?_
 refine Pf 8 rfl (AG rfl A5 .m2 (Room.l2.comp (AU.ar (n:=6) B2 (by first | omega | exact hb | (dsimp only;omega)))) rfl rfl) ?_
 refine Pf 9 rfl (FR rfl rfl (IntWalk.i64_in _ (by first | omega | exact hb.1 | exact hb.2 | (dsimp only;omega)))) ?_
 refine Pf 10 rfl (BV rfl) (Pf 11 rfl (Ah A9 rfl) (Pf 12 rfl (Ah Bi rfl) ?_))
 refine Pf 13 rfl (AQ Cs rfl rfl (by first | omega | exact hb.1 | exact hb.2 | (dsimp only;omega)) (by first | omega | exact hb.1 | exact hb.2 | (dsimp only;omega))) ?_
 refine Pf 14 rfl (Ah C2 rfl) ?_
 refine An 15 rfl (by kernel_rfl) ?_
 refine AS (AK (((Ad.l0.comp AH.l2).comp (AU.ar (n:=6) Ag.fl (by first | omega | exact hb | (dsimp only;omega)))).comp Ag.l3) rfl rfl rfl DB rfl .h) ?_
 refine BO rfl ⟨?_,?_⟩
 · exact(Pk (Pk (Pk (Pk (Pk (Pk (Pk (Pk (Pk (Pk (Pk (Pk (Pk (Pk (Pk Ar)))))))))))))))
 refine A4 (by kernel_rfl) ?_
 refine AB (.t2 0 1) ?_
 refine AA (Ap ?_)
 refine BE (N:=11) [0,0,2,6,14,1,33,97,255,511,1023] mix (by kernel_rfl) rfl ?_
 refine Pf 0 rfl (AE rfl) (Pf 1 rfl (AE rfl) (Pf 2 rfl (BV rfl) (Pf 3 rfl (Ah CR rfl) (Pf 4 rfl (AG rfl A5 .m0 Ad.l1 rfl rfl) (Pf 5 rfl (BV rfl) (Pf 6 rfl (Ah A9 rfl) (Pf 7 rfl (Ah Bi rfl) ?_)))))))
 refine Pf 8 rfl (AQ Cs rfl rfl (by first | omega | exact hb.1 | exact hb.2 | (dsimp only;omega)) (by first | omega | exact hb.1 | exact hb.2 | (dsimp only;omega))) ?_
 refine Pf 9 rfl (Ah GD rfl) ?_
 refine An 10 rfl (by kernel_rfl) ?_
 refine AS (AK (((Ad.l0.comp AH.l2).comp (AU.ar (n:=6) Ag.fl (by first | omega | exact hb | (dsimp only;omega)))).comp Ag.l5) rfl rfl rfl DB rfl .h) ?_
 refine BO rfl ⟨?_,?_⟩
 · exact(Pk (Pk (Pk (Pk (Pk (Pk (Pk (Pk (Pk (Pk Ar))))))))))
 refine A4 (by kernel_rfl) ?_
 refine AB (.t2 0 1) ?_
 refine AA (Ap ?_)
 refine GC (fun _=> .h) (congrArg (fun q=>Ad.enc ⟨q,_,_⟩) (AF.Xf (T.BP { AF.Fy 1 with dir:=d }) hb _)) ?_
 refine AJ (Gm rfl (Gm rfl ?_))
 refine BA rfl Y4 (.c rfl .n) (fun w hS=>HQ _ w) ?_
 refine Gt (BC O9 IU rfl (.cons Ing.Event.l0 rfl rfl rfl (.cons Ing.Event.l3 rfl rfl rfl (.cons Ing.Event.l4 rfl rfl rfl .nil)))) ?_
 refine Ai rfl Nx (.c rfl (.c rfl .n)) (.c .h (.c .h .n)) (CO _ (AF.F3 (T.BP { AF.Fy 1 with dir:=d }) ((T.w.BT.at T.me.room).CN.at d - 1)) _ { AF.Fy 2 with dir:=AH.opposite d } (by assumption) hb (show(-1:Int) < 6 by decide) (show(AF.out (T.BP { AF.Fy 1 with dir:=d })).length≤100000 by simp only [AF.Cb];omega)) (fun v10 B hv=>?_)
 obtain⟨y11,rfl,y12,rfl⟩:=hv
 refine Gn (.t1 0) (AJ (Gm rfl ?_))
 refine BF rfl Ub (.c rfl .n) (.c .h (.c .h .n)) (HE _ (AF.BP (AF.F3 (T.BP { AF.Fy 1 with dir:=d }) ((T.w.BT.at T.me.room).CN.at d - 1)) { AF.Fy 2 with dir:=AH.opposite d }) _ (by assumption) hb gm.fit.br (show _≤90000 by simp only [AF.Cb];show(AF.out (T.BP { AF.Fy 1 with dir:=d })).length+1≤90000;simp only [AF.Cb];omega)) (fun w hS=>gl0.pull gm0 hS (.c .h (.c .h .n))) (fun v13 B hv=>?_)
 obtain⟨y14,rfl,y15,rfl⟩:=hv
 refine AR (AB (.nil _) ?_)
 refine AV ?_
 refine Bk rfl .n ?_
 intro w1 hS
 have hS:=(hS.perm (Ax.perm (.c .h (.c .h .n)))).A1
 have hq:T.walk d=_:=((AX c1).trans (AX c2))
 refine⟨_,⟨?gq3,rfl,?hl3,?hB3⟩,hS⟩
 case hB3=>rw [hq];(try rfl)
 case hl3=>rw [hq];assumption
theorem Ht (b:Nat)(T:AF)(g:Hd)(hF:T.Fit):JO Tryz.prog 136 #[.pointer (some ⟨b,0,none⟩)] [Ac.box b 163 (Ad.enc ⟨T.w,T.b,g⟩)] (fun v B=>∃ f:Hd,v=f.val∧f.len=(T.own).length∧B = [Ac.box b 163 (Ad.enc ⟨T.w,T.b,g⟩),Ac.own f 3 1 ((T.own).flatMap Ay)]):=by
 intro w hS0
 have hb:=hF.b
 have hr:=hF.room
 refine Ak _ _ Tryz.func136 rfl rfl rfl (hS0) ?_
 refine Gs (Ga rfl (Gn (.t1 0) (Ap ?_)))
 refine BE (N:=10) [0,1,3,7,0,16,48,112,255,511] mix (by kernel_rfl) rfl ?_
 refine Pf 0 rfl (AE rfl) (Pf 1 rfl (BV rfl) (Pf 2 rfl (Ah A9 rfl) (Pf 3 rfl (AY rfl BW .m0 Ad.l0 rfl) (Pf 4 rfl (AE rfl) (Pf 5 rfl (BV rfl) (Pf 6 rfl (Ah CR rfl) (Pf 7 rfl (AG rfl A5 .m0 Ad.l1 rfl rfl) ?_)))))))
 refine An 8 rfl (by kernel_rfl) ?_
 refine Ai rfl SK (.c rfl (.c rfl (.c rfl .n))) .n (FD _ _ _) (fun v1 B hv=>?_)
 obtain⟨y2,rfl,y3,rfl⟩:=hv
 refine Bp rfl ⟨?_,?_⟩
 · exact(Pk (Pk (Pk (Pk (Pk (Pk (Pk (Pk Ar))))))))
 refine Pf 9 rfl (A0 rfl) ?_
 refine A4 (by kernel_rfl) ?_
 refine AB (.t1 2) ?_
 refine AA (Ab ?_)
 refine AZ rfl (.tmp rfl .n) ?_
 intro w1 hS
 have hS:=(hS.perm (Ax.perm (.c (.t .h) (.c .h .n)))).A1
 exact⟨_,⟨_,rfl,by assumption,rfl⟩,hS⟩
theorem LS (b:Nat)(T:AF)(g:Hd)(hF:T.Fit):JO Tryz.prog 125 #[.pointer (some ⟨b,0,none⟩)] [Ac.box b 163 (Ad.enc ⟨T.w,T.b,g⟩)] (fun v B=>∃ F:AH,F=T.E3.w∧v = .tuple #[]∧B = [Ac.box b 163 (Ad.enc ⟨F,T.b,g⟩)]):=by
 intro w hS0
 have hb:=hF.b
 have hr:=hF.room
 have ho9:=T.KO
 refine Ak _ _ Tryz.func125 rfl rfl rfl (hS0) ?_
 refine CB (Gm rfl ?_)
 refine Ai rfl Ts (.c rfl .n) (.c .h .n) (Ht _ _ _ (by first | assumption | omega)) (fun v1 B hv=>?_)
 obtain⟨y2,rfl,y3,rfl⟩:=hv
 refine Gt (Av rfl Tryz.underlying169 rfl) (Gm rfl (Gn (.t4 0 7 8 9) (Ae ?_)))
 refine Bo (.t4 9 0 7 8) ?_
 refine HZ (fun(k:Int) (X:AF)=>0≤k∧T.Ca T.own=X.Ca (T.own.drop k.toNat)∧X.b=T.b∧k≤(T.own.length:Int)) (fun(k:Int) (X:AF)=>((T.own.length:Int) - k).toNat) (fun(k:Int) (X:AF)=> [(9, .int .i64 k)]) (fun(k:Int) (X:AF)=> [Ac.box b 163 (Ad.enc ⟨X.w,X.b,g⟩)]) (0) (_) ?_ rfl rfl (fun k X hI1=>?_)
 · exact⟨by omega,rfl,rfl,by omega⟩
 obtain⟨hI11,hI12,hI13,hI14⟩:=hI1
 refine Gs (Gt (A8 rfl rfl) (AR (AA (Ap ?_))))
 refine Gc (fun c1=>?_) (fun c1=>?_)
 ·
  have c1p:=kz c1
  have hx:=AF.Ly (Bg.Eo (xs:=T.own) (i:=k.toNat) (by omega))
  refine Aa ?_
  refine AB (.t4 0 7 8 9) ?_
  refine AA (Ap (Ae (Gs ?_)))
  refine Gt (Br GY (by decide) (Kn.own .m1) rfl rfl (by omega) (by omega)) ?_
  refine Gt (DJ rfl A5 (Kn.own .m1) (by omega)) ?_
  refine Ga rfl (Gn (.t5 0 3 7 8 9) (Gs (Gm rfl (Gm rfl (Gt (BV rfl) (Gt (Ah A9 rfl) (Gt (Ah Cw rfl) ?_)))))))
  refine Gt (AQ F9 rfl rfl (by first | omega | (rw [hI13];first | exact hb.1 | exact hb.2) | (dsimp only;omega)) (by first | omega | (rw [hI13];first | exact hb.1 | exact hb.2) | (dsimp only;omega))) ?_
  refine Ga rfl (Gn (.t5 0 4 7 8 9) (CB (Gm rfl (Gt (BV rfl) (Gt (Ah Gz rfl) ?_)))))
  refine Gt (AG rfl A5 .m0 (((Ad.l0.comp AH.l1).comp (AU.arr (n:=9) Al.fl (by first | omega | (rw [hI13];first | exact hb.1 | exact hb.2) | (dsimp only;omega)) (by first | omega | (rw [hI13];first | exact hb.1 | exact hb.2) | (dsimp only;omega)))).comp Al.l1) rfl rfl) ?_
  refine Gt (Aj rfl rfl) (Gn (.t6 0 4 7 8 9 23) ?_)
  refine Gc (fun c2=>?_) (fun c2=>?_)
  ·
   have c2p:=kz c2
   refine AJ (Gm rfl (Gt (BV rfl) (Gt (Ah GI rfl) ?_)))
   refine AS (AK (((Ad.l0.comp AH.l1).comp (AU.arr (n:=9) Al.fl (by first | omega | (rw [hI13];first | exact hb.1 | exact hb.2) | (dsimp only;omega)) (by first | omega | (rw [hI13];first | exact hb.1 | exact hb.2) | (dsimp only;omega)))).comp Al.l4) rfl rfl rfl J8 rfl .h) ?_
   refine Gn (.t5 0 4 7 8 9) ?_
   refine BE (N:=19) [0,0,0,0,8,24,56,4,132,388,1020,2044,4092,8189,16381,32765,65535,131071,262143] mix (by kernel_rfl) rfl ?_
   refine Pf 0 rfl (AE rfl) (Pf 1 rfl (AE rfl) (Pf 2 rfl (AE rfl) (Pf 3 rfl (AE rfl) (Pf 4 rfl (BV rfl) (Pf 5 rfl (Ah CR rfl) (Pf 6 rfl (AG rfl A5 .m0 Ad.l1 rfl rfl) (Pf 7 rfl (BV rfl) ?_)))))))
   refine Pf 8 rfl (Ah A9 rfl) (Pf 9 rfl (Ah Bi rfl) ?_)
   refine Pf 10 rfl (AQ Cs rfl rfl (by first | omega | (rw [hI13];first | exact hb.1 | exact hb.2) | (dsimp only;omega)) (by first | omega | (rw [hI13];first | exact hb.1 | exact hb.2) | (dsimp only;omega))) ?_
   refine Pf 11 rfl (Ah C2 rfl) ?_
   refine Pf 12 rfl (AG rfl A5 .m0 (((Ad.l0.comp AH.l2).comp (AU.arr (n:=6) Ag.fl (by first | omega | (rw [hI13];first | exact hb.1 | exact hb.2) | (dsimp only;omega)) (by first | omega | (rw [hI13];first | exact hb.1 | exact hb.2) | (dsimp only;omega)))).comp Ag.l3) rfl rfl) ?_
   refine Pf 13 rfl (BV rfl) (Pf 14 rfl (Ah FP rfl) ?_)
   refine An 15 rfl (by kernel_rfl) ?_
   refine AS (AK (((Ad.l0.comp AH.l1).comp (AU.arr (n:=9) Al.fl (by first | omega | (rw [hI13];first | exact hb.1 | exact hb.2) | (dsimp only;omega)) (by first | omega | (rw [hI13];first | exact hb.1 | exact hb.2) | (dsimp only;omega)))).comp Al.l2) rfl rfl rfl DB rfl .h) ?_
   refine BO rfl ⟨?_,?_⟩
   · exact(Pk (Pk (Pk (Pk (Pk (Pk (Pk (Pk (Pk (Pk (Pk (Pk (Pk (Po rfl (AE rfl) rfl rfl (Pk Ar)))))))))))))))
   refine Pf 16 rfl (BV rfl) (Pf 17 rfl (Ah DF rfl) ?_)
   refine An 18 rfl (by kernel_rfl) ?_
   refine AS (AK (((Ad.l0.comp AH.l1).comp (AU.arr (n:=9) Al.fl (by first | omega | (rw [hI13];first | exact hb.1 | exact hb.2) | (dsimp only;omega)) (by first | omega | (rw [hI13];first | exact hb.1 | exact hb.2) | (dsimp only;omega)))).comp Al.l3) rfl rfl rfl DB rfl .h) ?_
   refine BO rfl ⟨?_,?_⟩
   · exact(Pk (Pk (Pk (Pk (Pk (Pk (Pk (Pk (Pk (Pk (Pk (Pk (Pk (Pk (Pk (Pk (Pk Ar)))))))))))))))))
   refine A4 (by kernel_rfl) ?_
   refine AB (.t4 0 7 8 9) ?_
   refine AV (AA ?_)
   refine GC (fun _=> .h) (congrArg (fun q=>Ad.enc ⟨q,_,_⟩) (AF.VR X hx.1 hx.2 c2)) ?_
   refine AJ ?_
   refine Gt (Aw rfl rfl (IntWalk.i64_in _ (by first | omega | (rw [hI13];first | exact hb.1 | exact hb.2) | (dsimp only;omega)))) ?_
   refine Gm rfl ?_
   refine AR (AB (.t4 0 7 8 9) ?_)
   refine Dh (k+1) _ ?_ ?_ (.t4 9 0 7 8) (.refl _)
   · exact⟨by omega,by rw [hI12,AF.LN hI11 (by omega)],hI13,by omega⟩
   · omega
  have c2p:=kz c2
  refine Aa ?_
  refine AB (.t5 0 4 7 8 9) ?_
  refine AA ?_
  refine BE (N:=19) [0,0,0,0,8,24,56,4,132,388,1020,2044,4092,8189,16381,32765,65535,131071,262143] mix (by kernel_rfl) rfl ?_
  refine Pf 0 rfl (AE rfl) (Pf 1 rfl (AE rfl) (Pf 2 rfl (AE rfl) (Pf 3 rfl (AE rfl) (Pf 4 rfl (BV rfl) (Pf 5 rfl (Ah CR rfl) (Pf 6 rfl (AG rfl A5 .m0 Ad.l1 rfl rfl) (Pf 7 rfl (BV rfl) ?_)))))))
  refine Pf 8 rfl (Ah A9 rfl) (Pf 9 rfl (Ah Bi rfl) ?_)
  refine Pf 10 rfl (AQ Cs rfl rfl (by first | omega | (rw [hI13];first | exact hb.1 | exact hb.2) | (dsimp only;omega)) (by first | omega | (rw [hI13];first | exact hb.1 | exact hb.2) | (dsimp only;omega))) ?_
  refine Pf 11 rfl (Ah C2 rfl) ?_
  refine Pf 12 rfl (AG rfl A5 .m0 (((Ad.l0.comp AH.l2).comp (AU.arr (n:=6) Ag.fl (by first | omega | (rw [hI13];first | exact hb.1 | exact hb.2) | (dsimp only;omega)) (by first | omega | (rw [hI13];first | exact hb.1 | exact hb.2) | (dsimp only;omega)))).comp Ag.l3) rfl rfl) ?_
  refine Pf 13 rfl (BV rfl) (Pf 14 rfl (Ah FP rfl) ?_)
  refine An 15 rfl (by kernel_rfl) ?_
  refine AS (AK (((Ad.l0.comp AH.l1).comp (AU.arr (n:=9) Al.fl (by first | omega | (rw [hI13];first | exact hb.1 | exact hb.2) | (dsimp only;omega)) (by first | omega | (rw [hI13];first | exact hb.1 | exact hb.2) | (dsimp only;omega)))).comp Al.l2) rfl rfl rfl DB rfl .h) ?_
  refine BO rfl ⟨?_,?_⟩
  · exact(Pk (Pk (Pk (Pk (Pk (Pk (Pk (Pk (Pk (Pk (Pk (Pk (Pk (Po rfl (AE rfl) rfl rfl (Pk Ar)))))))))))))))
  refine Pf 16 rfl (BV rfl) (Pf 17 rfl (Ah DF rfl) ?_)
  refine An 18 rfl (by kernel_rfl) ?_
  refine AS (AK (((Ad.l0.comp AH.l1).comp (AU.arr (n:=9) Al.fl (by first | omega | (rw [hI13];first | exact hb.1 | exact hb.2) | (dsimp only;omega)) (by first | omega | (rw [hI13];first | exact hb.1 | exact hb.2) | (dsimp only;omega)))).comp Al.l3) rfl rfl rfl DB rfl .h) ?_
  refine BO rfl ⟨?_,?_⟩
  · exact(Pk (Pk (Pk (Pk (Pk (Pk (Pk (Pk (Pk (Pk (Pk (Pk (Pk (Pk (Pk (Pk (Pk Ar)))))))))))))))))
  refine A4 (by kernel_rfl) ?_
  refine AB (.t4 0 7 8 9) ?_
  refine AV (AA ?_)
  refine GC (fun _=> .h) (congrArg (fun q=>Ad.enc ⟨q,_,_⟩) (AF.VZ X hx.1 hx.2 c2)) ?_
  refine AJ ?_
  refine Gt (Aw rfl rfl (IntWalk.i64_in _ (by first | omega | (rw [hI13];first | exact hb.1 | exact hb.2) | (dsimp only;omega)))) ?_
  refine Gm rfl ?_
  refine AR (AB (.t4 0 7 8 9) ?_)
  refine Dh (k+1) _ ?_ ?_ (.t4 9 0 7 8) (.refl _)
  · exact⟨by omega,by rw [hI12,AF.LN hI11 (by omega)],hI13,by omega⟩
  · omega
 have c1p:=kz c1
 obtain rfl:k=(T.own.length:Int):=by omega
 rw [AF.Jb] at hI12
 have hY:X=T.Ca T.own:=hI12.symm
 refine Ba (AW (AW (Af ?_)))
 refine AB (.t1 0) ?_
 refine AA (CB (Gm rfl (AR (AA (Ae ?_)))))
 refine Bo (.t2 45 0) ?_
 refine HZ (fun(k:Int) (Y:AF)=>0≤k∧k≤6∧Y=(T.Ca T.own).DT k.toNat∧Y.b=T.b) (fun(k:Int) (Y:AF)=>(6 - k).toNat) (fun(k:Int) (Y:AF)=> [(45, .int .i64 k)]) (fun(k:Int) (Y:AF)=> [Ac.box b 163 (Ad.enc ⟨Y.w,Y.b,g⟩)]) (0) (_) ?_ rfl rfl (fun k Y hI2=>?_)
 · exact⟨by omega,by omega,hY,hI13⟩
 obtain⟨hI21,hI22,hI23,hI24⟩:=hI2
 refine Gs (Gt (A8 rfl rfl) (AR (AA (Ap ?_))))
 refine Gc (fun c3=>?_) (fun c3=>?_)
 ·
  have c3p:=kz c3
  refine Aa ?_
  refine AB (.t2 0 45) ?_
  refine AA (Ap (Ae (Gs (Gm rfl (Ga rfl (Gn (.t3 0 5 45) (Ap ?_)))))))
  refine BE (N:=14) [0,0,1,5,13,31,63,127,0,256,768,1792,3840,8191] mix (by kernel_rfl) rfl ?_
  refine Pf 0 rfl (AE rfl) (Pf 1 rfl (AE rfl) (Pf 2 rfl (BV rfl) (Pf 3 rfl (Ah A9 rfl) (Pf 4 rfl (Ah Bi rfl) ?_))))
  refine Pf 5 rfl (AQ Cs rfl rfl (by first | omega | (rw [hI13];first | exact hb.1 | exact hb.2) | (dsimp only;omega)) (by first | omega | (rw [hI13];first | exact hb.1 | exact hb.2) | (dsimp only;omega))) ?_
  refine Pf 6 rfl (Ah GD rfl) ?_
  refine Pf 7 rfl (AG rfl A5 .m0 (((Ad.l0.comp AH.l2).comp (AU.arr (n:=6) Ag.fl (by first | omega | (rw [hI13];first | exact hb.1 | exact hb.2) | (dsimp only;omega)) (by first | omega | (rw [hI13];first | exact hb.1 | exact hb.2) | (dsimp only;omega)))).comp Ag.l5) rfl rfl) ?_
  refine Pf 8 rfl (AE rfl) (Pf 9 rfl (BV rfl) (Pf 10 rfl (Ah CR rfl) (Pf 11 rfl (AG rfl A5 .m0 Ad.l1 rfl rfl) ?_)))
  refine Pf 12 rfl (Aw rfl rfl (IntWalk.i64_in _ (by first | omega | (rw [hI13];first | exact hb.1 | exact hb.2) | (dsimp only;omega)))) ?_
  refine Pf 13 rfl (Aj rfl rfl) ?_
  refine A4 (by kernel_rfl) ?_
  refine AB (.t4 0 5 45 61) ?_
  refine AA ?_
  refine Gc (fun c4=>?_) (fun c4=>?_)
  ·
   have c4p:=kz c4
   have hcb:decide ((Y.w.AM.at k).Bz=(T.Ca T.own).b+1)=true:=by rw [(AF.Ia T.own T).1,← hI24];exact c4
   refine AJ (Gm rfl (Gm rfl (Gt (BV rfl) (Gt (Ah A9 rfl) (Gt (Ah Bi rfl) ?_)))))
   refine Gt (AQ Cs rfl rfl (by first | omega | (rw [hI13];first | exact hb.1 | exact hb.2) | (dsimp only;omega)) (by first | omega | (rw [hI13];first | exact hb.1 | exact hb.2) | (dsimp only;omega))) ?_
   refine Gt (Ah GD rfl) ?_
   refine AS (AK (((Ad.l0.comp AH.l2).comp (AU.arr (n:=6) Ag.fl (by first | omega | (rw [hI13];first | exact hb.1 | exact hb.2) | (dsimp only;omega)) (by first | omega | (rw [hI13];first | exact hb.1 | exact hb.2) | (dsimp only;omega)))).comp Ag.l5) rfl rfl rfl DB rfl .h) ?_
   refine AR (AB (.t2 0 45) ?_)
   refine AV (AA (AJ ?_))
   refine Gt (Aw rfl rfl (IntWalk.i64_in _ (by first | omega | (rw [hI13];first | exact hb.1 | exact hb.2) | (dsimp only;omega)))) ?_
   refine Gm rfl ?_
   refine AR (AB (.t2 0 45) ?_)
   refine Dh (k+1) (Y.Ch k 0) ?_ ?_ (.t2 45 0) (.refl _)
   · exact⟨by omega,by omega,by rw [AF.OL hI21,← hI23,BB hcb],hI24⟩
   · omega
  have c4p:=kz c4
  have hcb:decide ((Y.w.AM.at k).Bz=(T.Ca T.own).b+1)=false:=by rw [(AF.Ia T.own T).1,← hI24];exact c4
  refine Aa ?_
  refine AB (.t2 0 45) ?_
  refine AV (AA (AJ ?_))
  refine Gt (Aw rfl rfl (IntWalk.i64_in _ (by first | omega | (rw [hI13];first | exact hb.1 | exact hb.2) | (dsimp only;omega)))) ?_
  refine Gm rfl ?_
  refine AR (AB (.t2 0 45) ?_)
  refine Dh (k+1) (Y) ?_ ?_ (.t2 45 0) (.refl _)
  · exact⟨by omega,by omega,by rw [AF.OL hI21,← hI23,AX hcb],hI24⟩
  · omega
 have c3p:=kz c3
 obtain rfl:k=6:=by omega
 refine Ba (AW (AW (Af ?_)))
 refine AB (.t1 0) ?_
 refine AA ?_
 refine BE (N:=11) [0,0,2,6,14,1,33,97,255,511,1023] mix (by kernel_rfl) rfl ?_
 refine Pf 0 rfl (AE rfl) (Pf 1 rfl (AE rfl) (Pf 2 rfl (BV rfl) (Pf 3 rfl (Ah CR rfl) (Pf 4 rfl (AG rfl A5 .m0 Ad.l1 rfl rfl) (Pf 5 rfl (BV rfl) (Pf 6 rfl (Ah A9 rfl) (Pf 7 rfl (Ah Bi rfl) ?_)))))))
 refine Pf 8 rfl (AQ Cs rfl rfl (by first | omega | (rw [hI13];first | exact hb.1 | exact hb.2) | (dsimp only;omega)) (by first | omega | (rw [hI13];first | exact hb.1 | exact hb.2) | (dsimp only;omega))) ?_
 refine Pf 9 rfl (Ah GD rfl) ?_
 refine An 10 rfl (by kernel_rfl) ?_
 refine AS (AK (((Ad.l0.comp AH.l2).comp (AU.arr (n:=6) Ag.fl (by first | omega | (rw [hI13];first | exact hb.1 | exact hb.2) | (dsimp only;omega)) (by first | omega | (rw [hI13];first | exact hb.1 | exact hb.2) | (dsimp only;omega)))).comp Ag.l5) rfl rfl rfl DB rfl .h) ?_
 refine BO rfl ⟨?_,?_⟩
 · exact(Pk (Pk (Pk (Pk (Pk (Pk (Pk (Pk (Pk (Pk Ar))))))))))
 refine A4 (by kernel_rfl) ?_
 refine Bk rfl .n ?_
 intro w1 hS
 have hS:=(hS.perm (Ax.perm (.c .h .n))).A1
 have hq:T.E3=Y.Ch Y.b 0:=by rw [hI24,hI23];unfold AF.E3;rfl
 exact⟨_,⟨_,rfl,rfl,by rw [hq,← hI24];rfl⟩,hS⟩
theorem RB (b:Nat)(T:AF)(g:Hd)(hg:g.len=T.out.length)(hF:T.Fit)(hn:T.out.length≤90000):JO Tryz.prog 103 #[.pointer (some ⟨b,0,none⟩)] [Ac.box b 163 (Ad.enc ⟨T.w,T.b,g⟩),Ac.own g 56 16 (T.out.flatMap Ing.Event.enc)] (fun v B=>∃ g':Hd,v = .tuple #[]∧g'.len=(T.Gk).out.length∧B = [Ac.box b 163 (Ad.enc ⟨(T.Gk).w,(T.Gk).b,g'⟩),Ac.own g' 56 16 ((T.Gk).out.flatMap Ing.Event.enc)]):=by
 intro w hS0
 have hb:=hF.b
 have hr:=hF.room
 refine Ak _ _ Tryz.func103 rfl rfl rfl (hS0) ?_
 refine Gs (Gm rfl ?_)
 refine Ai rfl Ty (.c rfl (.c rfl .n)) (.c .h (.c .h .n)) (GJ _ T _ 18 hg hb (by omega)) (fun v1 B hv=>?_)
 obtain⟨y2,rfl,y3,rfl⟩:=hv
 refine Gn (.t1 0) (Gs (Gm rfl ?_))
 refine Ai rfl ZO (.c rfl .n) (.c .h .n) (LS _ (T.kind 18) _ (hF.Ef rfl rfl)) (fun v4 B hv=>?_)
 obtain⟨y5,y6,rfl,rfl⟩:=hv
 refine Gn (.t1 0) ?_
 refine BE (N:=11) [0,0,2,6,14,0,1,65,193,511,1023] mix (by kernel_rfl) rfl ?_
 refine Pf 0 rfl (AE rfl) (Pf 1 rfl (AE rfl) (Pf 2 rfl (BV rfl) (Pf 3 rfl (Ah CR rfl) (Pf 4 rfl (AG rfl A5 .m0 Ad.l1 rfl rfl) (Pf 5 rfl (BC Wc Lx rfl .nil) (Pf 6 rfl (BV rfl) (Pf 7 rfl (Ah A9 rfl) ?_)))))))
 refine Pf 8 rfl (Ah Bi rfl) ?_
 refine Pf 9 rfl (AQ Cs rfl rfl (by first | exact hb.1 | exact hb.2 | omega | (dsimp only;omega)) (by first | exact hb.1 | exact hb.2 | omega | (dsimp only;omega))) ?_
 refine An 10 rfl (by kernel_rfl) ?_
 refine AS (AK ((Ad.l0.comp AH.l2).comp (AU.arr (n:=6) Ag.fl (by first | exact hb.1 | exact hb.2 | omega | (dsimp only;omega)) (by first | exact hb.1 | exact hb.2 | omega | (dsimp only;omega)))) rfl rfl rfl KX rfl .h) ?_
 refine BO rfl ⟨?_,?_⟩
 · exact(Pk (Pk (Pk (Pk (Pk (Pk (Pk (Pk (Pk (Pk Ar))))))))))
 refine A4 (by kernel_rfl) ?_
 refine Bk rfl .n ?_
 intro w1 hS
 have hS:=(hS.perm (Ax.perm (.c .h (.c .h .n)))).A1
 obtain⟨hf1,hf2,hf3⟩:=T.O8
 refine⟨_,⟨?gq,rfl,?hl,?hB⟩,hS⟩
 case hB=>rw [hf1,hf2,hf3,← y6]
 case hl=>rw [hf2];exact y3
theorem IY (b:Nat)(T:AF)(g:Hd)(u:Aq)(hg:g.len=T.out.length)(hF:T.Fit)(hu:u.length≤5000000)(hn:T.out.length≤99000):FK Tryz.prog 131 #[.pointer (some ⟨b,0,none⟩),BU u] [Ac.box b 163 (Ad.enc ⟨T.w,T.b,g⟩),Ac.own g 56 16 (T.out.flatMap Ing.Event.enc)] (fun w=>(Gu 7 w∧7 ∉ Cf [Ac.box b 163 (Ad.enc ⟨T.w,T.b,g⟩),Ac.own g 56 16 (T.out.flatMap Ing.Event.enc)])∧(Gu 8 w∧8 ∉ Cf [Ac.box b 163 (Ad.enc ⟨T.w,T.b,g⟩),Ac.own g 56 16 (T.out.flatMap Ing.Event.enc)])) (fun v B=>∃ g':Hd,v = .tuple #[.int .i64 (T.A6 u).2.1, .bool (T.A6 u).2.2]∧g'.len=((T.A6 u).1).out.length∧B = [Ac.box b 163 (Ad.enc ⟨((T.A6 u).1).w,((T.A6 u).1).b,g'⟩),Ac.own g' 56 16 (((T.A6 u).1).out.flatMap Ing.Event.enc)]):=by
 intro w hS0 hH
 obtain⟨⟨gl0,gm0⟩,⟨gl1,gm1⟩⟩:=hH
 have hb:=hF.b
 have hr:=hF.room
 refine Ak _ _ Tryz.func131 rfl rfl rfl (hS0) ?_
 refine Gs (Ga rfl (Ga rfl (Gn (.t2 0 1) (Gs (Gm rfl ?_)))))
 refine BA rfl UC (.c rfl .n) (fun w hS=>FG _ (by first | assumption | omega) w (gl0.stM gm0 hS) (gl1.stM gm1 hS)) ?_
 refine Gm rfl (Gt (AN rfl rfl) (Gt (AN rfl rfl) (Gt (AN rfl rfl) (Gt (AN rfl rfl) (Ga rfl (Ga rfl (Ga rfl ?_)))))))
 refine Ga rfl (Gn (.t5 0 6 7 8 9) (CB (Gm rfl (Gt (Aj rfl rfl) (Gm rfl (Bl 20 rfl rfl (fun q=>AE rfl) (Bl 20 rfl rfl (fun q=>BQ (Bf rfl q)) ?_)))))))
 refine Gt (BJ rfl rfl (fun h=>h)) (Gn (.t4 0 6 7 23) ?_)
 refine Gc (fun c1=>?_) (fun c1=>?_)
 ·
  have c1p:=kz c1
  have hnf:=Words.Vo u (of_decide_eq_true (Bool.and_eq_true_iff.1 c1).1)
  refine Gs (Gm rfl (Gn (.t4 0 6 7 24) (Ae ?_)))
  refine Bo (.t4 6 24 0 7) ?_
  refine HZ (fun(k:Int) (n:Int)=>0≤k∧k≤6∧T.IZ (Words.EH u).2.1 6 (Words.EH u).1=T.IZ (Words.EH u).2.1 (6 - k).toNat n∧-k≤n∧n≤99) (fun(k:Int) (n:Int)=>(6 - k).toNat) (fun(k:Int) (n:Int)=> [(6, .int .i64 n),(24, .int .i64 k)]) (fun(k:Int) (n:Int)=> []) (0) (_) ?_ rfl rfl (fun k n hI1=>?_)
  · exact⟨by omega,by omega,rfl,by omega,by omega⟩
  obtain⟨hI11,hI12,hI13,hI14,hI15⟩:=hI1
  refine Gs (Gt (A8 rfl rfl) (AR (AA (Ap ?_))))
  refine Gc (fun c2=>?_) (fun c2=>?_)
  ·
   have c2p:=kz c2
   refine Aa ?_
   refine AB (.t4 0 6 7 24) ?_
   refine AA (Ap (Ae (Gs (Gm rfl (Ga rfl (Gn (.t5 0 6 7 10 24) (Ap ?_)))))))
   refine Ap ?_
   refine BE (N:=31) [0,0,2,6,14,31,63,127,127,255,767,1791,4095,8191,16383,127,65535,131071,262143,524287,1048575,2097151,4194303,524287,8912895,25690111,59244543,524287,268435455,536870911,1073741823] mix (by kernel_rfl) rfl ?_
   refine Pf 0 rfl (AE rfl) (Pf 1 rfl (AE rfl) (Pf 2 rfl (BV rfl) (Pf 3 rfl (Ah CR rfl) (Pf 4 rfl (AG rfl A5 .m0 Ad.l1 rfl rfl) (Pf 5 rfl (Aj rfl rfl) (Pf 6 rfl (AE rfl) (Hf 7 33 rfl rfl rfl (fun q=>AE rfl) ?_)))))))
   refine Hf 8 33 rfl rfl rfl (fun q=>AE rfl) (Hf 9 33 rfl rfl rfl (fun q=>BV (cF rfl q)) (Hf 10 33 rfl rfl rfl (fun q=>Ah A9 (cF rfl q)) (Hf 11 33 rfl rfl rfl (fun q=>Ah Bi (cF rfl q)) ?_)))
   refine BN 12 rfl rfl (by kernel_rfl) (G6 (t:=33) rfl rfl (fun q=>by have q1:=q;(try simp at q1);exact Ge (AQ Cs (cF rfl q) (cF rfl q) (by first | omega | exact hb.1 | exact hb.2 | (dsimp only;omega)) (by first | omega | exact hb.1 | exact hb.2 | (dsimp only;omega))))) ?_
   refine Hf 13 33 rfl rfl rfl (fun q=>Ah IB (cF rfl q)) ?_
   refine BN 14 rfl rfl (by kernel_rfl) (G6 (t:=33) rfl rfl (fun q=>by have q1:=q;(try simp at q1);exact Ge (AG (cF rfl q) CP .m0 (((Ad.l0.comp AH.l2).comp (AU.ar (n:=6) Ag.fl (by first | omega | exact hb | (dsimp only;omega)))).comp Ag.l0) rfl rfl))) ?_
   refine Hf 15 33 rfl rfl rfl (fun q=>AE rfl) (Hf 16 33 rfl rfl rfl (fun q=>D1 (cF rfl q) (cF rfl q)) ?_)
   refine Pf 17 rfl (BS rfl rfl (fun h=>by rw [h];rfl)) ?_
   refine Pf 18 rfl (AE rfl) (Hf 19 45 rfl rfl rfl (fun q=>AE rfl) (Hf 20 45 rfl rfl rfl (fun q=>BV (cF rfl q)) (Hf 21 45 rfl rfl rfl (fun q=>Ah A9 (cF rfl q)) (Hf 22 45 rfl rfl rfl (fun q=>AY (cF rfl q) BW .m0 Ad.l0 rfl) (Hf 23 45 rfl rfl rfl (fun q=>AE rfl) (Hf 24 45 rfl rfl rfl (fun q=>BV (cF rfl q)) (Hf 25 45 rfl rfl rfl (fun q=>Ah CR (cF rfl q)) ?_)))))))
   refine Hf 26 45 rfl rfl rfl (fun q=>AG (cF rfl q) A5 .m0 Ad.l1 rfl rfl) (Hf 27 45 rfl rfl rfl (fun q=>AE rfl) ?_)
   refine BN 28 rfl rfl (by kernel_rfl) (G6 (t:=45) rfl rfl (fun q=>by have q1:=q;(try simp at q1);exact K4 (D7 OD (.c (cF rfl q) (.c (cF rfl q) (.c (cF rfl q) .n))) (fun w hS=>DO _ _ _ w)))) ?_
   refine Hf 29 45 rfl rfl rfl (fun q=>BQ (cF rfl q)) ?_
   refine Pf 30 rfl (BS rfl rfl (fun h=>by rw [h];rfl)) ?_
   refine A4 (by kernel_rfl) ?_
   refine AB (.t6 0 6 7 10 24 57) ?_
   refine AA ?_
   refine Gc (fun c3=>?_) (fun c3=>?_)
   ·
    have c3p:=kz c3
    refine Ba (AW (Af ?_))
    refine AB (.t4 0 6 7 24) ?_
    refine AA (AJ ?_)
    refine Gt (Aw rfl rfl (IntWalk.i64_in _ (by first | omega | exact hb.1 | exact hb.2 | (dsimp only;omega)))) ?_
    refine Gm rfl ?_
    refine AR (AB (.t4 0 6 7 24) ?_)
    refine Dh (k+1) (n) ?_ ?_ (.t4 6 24 0 7) (.refl _)
    · exact⟨by omega,by omega,by rw [hI13,AF.K0 hI11 (by omega),BB c3],by omega,by omega⟩
    · omega
   have c3p:=kz c3
   refine Aa ?_
   refine AB (.t5 0 6 7 10 24) ?_
   refine AA (Gs (Gm rfl ?_))
   refine Gt (FR rfl rfl (IntWalk.i64_in _ (by first | omega | exact hb.1 | exact hb.2 | (dsimp only;omega)))) ?_
   refine Ga rfl (Gn (.t5 0 6 7 10 24) (Gs (Gm rfl (Gt (Aj rfl rfl) (Gn (.t6 0 6 7 10 24 61) ?_)))))
   refine Gc (fun c4=>?_) (fun c4=>?_)
   ·
    have c4p:=kz c4
    refine Gs (Gm rfl (Ga rfl (Ga rfl (Gn (.t2 4 5) (Ab (AT (AD ?_)))))))
    refine AD (AT (AD ?_))
    refine AZ rfl (.tmp rfl (.tmp rfl .n)) ?_
    intro w1 hS
    have hS:=(hS.perm (Ax.perm (.c .h (.c .h .n)))).A1
    have hs:T.IZ (Words.EH u).2.1 6 (Words.EH u).1=some k:=by rw [hI13,AF.K0 hI11 (by omega),AX c3,BB c4]
    have hq:T.A6 u=(T,k,true):=(show T.A6 u=_ from BB c1).trans (by simp only [hs])
    refine⟨_,⟨?gq1,?hv1,?hl1,?hB1⟩,hS⟩
    case hB1=>rw [hq];(try rfl)
    case hv1=>rw [hq];(try rfl)
    case hl1=>rw [hq];assumption
   have c4p:=kz c4
   refine Aa ?_
   refine AB (.t4 0 6 7 24) ?_
   refine AV (AA (AJ ?_))
   refine Gt (Aw rfl rfl (IntWalk.i64_in _ (by first | omega | exact hb.1 | exact hb.2 | (dsimp only;omega)))) ?_
   refine Gm rfl ?_
   refine AR (AB (.t4 0 6 7 24) ?_)
   refine Dh (k+1) (n - 1) ?_ ?_ (.t4 6 24 0 7) (.refl _)
   · exact⟨by omega,by omega,by rw [hI13,AF.K0 hI11 (by omega),AX c3,AX c4],by omega,by omega⟩
   · omega
  have c2p:=kz c2
  obtain rfl:k=6:=by omega
  refine Ba (AW (AW (Af ?_)))
  refine AB (.t1 0) ?_
  refine AA (Gs (Gm rfl ?_))
  refine Ai rfl EC (.c rfl (.c rfl .n)) (.c .h (.c .h .n)) (Bc _ _ _ _ hg hb (by omega)) (fun v1 B hv=>?_)
  obtain⟨y2,rfl,y3,rfl⟩:=hv
  refine Gn (.nil _) (Gs (Ga rfl (Ga rfl (AR (AA (Ab ?_))))))
  refine AZ rfl (.tmp rfl (.tmp rfl .n)) ?_
  intro w1 hS
  have hS:=(hS.perm (Ax.perm (.c .h (.c .h .n)))).A1
  have hs:T.IZ (Words.EH u).2.1 6 (Words.EH u).1=none:=by rw [hI13];rfl
  have hq:T.A6 u=(T.tell AF.Ot,0,false):=(show T.A6 u=_ from BB c1).trans (by simp only [hs])
  refine⟨_,⟨?gq2,?hv2,?hl2,?hB2⟩,hS⟩
  case hB2=>rw [hq];(try rfl)
  case hv2=>rw [hq];(try rfl)
  case hl2=>rw [hq];assumption
 have c1p:=kz c1
 refine Aa ?_
 refine AB (.t1 0) ?_
 refine AA (Gs (Gm rfl ?_))
 refine Ai rfl EC (.c rfl (.c rfl .n)) (.c .h (.c .h .n)) (Bc _ _ _ _ hg hb (by omega)) (fun v4 B hv=>?_)
 obtain⟨y5,rfl,y6,rfl⟩:=hv
 refine Gn (.nil _) (Gs (Ga rfl (Ga rfl (AR (AA (Ab ?_))))))
 refine AZ rfl (.tmp rfl (.tmp rfl .n)) ?_
 intro w1 hS
 have hS:=(hS.perm (Ax.perm (.c .h (.c .h .n)))).A1
 have hq:T.A6 u=(T.tell AF.Ot,0,false):=AX c1
 refine⟨_,⟨?gq3,?hv3,?hl3,?hB3⟩,hS⟩
 case hB3=>rw [hq];(try rfl)
 case hv3=>rw [hq];(try rfl)
 case hl3=>rw [hq];assumption
theorem PH (b:Nat)(T:AF)(g:Hd)(o:Order)(hg:g.len=T.out.length)(hF:T.Fit)(hm:o.name.length≤5000000)(hn:T.out.length≤90000):FK Tryz.prog 104 #[.pointer (some ⟨b,0,none⟩), .agg o.enc.toArray] [Ac.box b 163 (Ad.enc ⟨T.w,T.b,g⟩),Ac.own g 56 16 (T.out.flatMap Ing.Event.enc)] (fun w=>(Gu 7 w∧7 ∉ Cf [Ac.box b 163 (Ad.enc ⟨T.w,T.b,g⟩),Ac.own g 56 16 (T.out.flatMap Ing.Event.enc)])∧(Gu 8 w∧8 ∉ Cf [Ac.box b 163 (Ad.enc ⟨T.w,T.b,g⟩),Ac.own g 56 16 (T.out.flatMap Ing.Event.enc)])) (fun v B=>∃ g':Hd,v = .tuple #[]∧g'.len=(T.Ez o).out.length∧B = [Ac.box b 163 (Ad.enc ⟨(T.Ez o).w,(T.Ez o).b,g'⟩),Ac.own g' 56 16 ((T.Ez o).out.flatMap Ing.Event.enc)]):=by
 intro w hS0 hH
 obtain⟨⟨gl0,gm0⟩,⟨gl1,gm1⟩⟩:=hH
 have hb:=hF.b
 have hr:=hF.room
 have hsr:=T.LW (if (!decide (o.nth=1) || o.Bj)=true then [] else o.name)
 have hsb:0≤(T.A6 (if (!decide (o.nth=1) || o.Bj)=true then [] else o.name)).1.b∧(T.A6 (if (!decide (o.nth=1) || o.Bj)=true then [] else o.name)).1.b < 6:=by rw [(T.Iv _).2];exact hb
 refine Ak _ _ Tryz.func104 rfl rfl rfl (hS0) ?_
 refine Gs ?_
 refine B5 rfl rfl rfl (fun b1=>?_)
 refine Gn (.t2 0 3) (Gs (Gt (Ah Fm rfl) (Gt (AG rfl CP .m0 Order.l3 rfl rfl) (Ga rfl (Gn (.t3 0 3 4) (CB (Gt (Ah GM rfl) ?_)))))))
 refine Gt (AG rfl A5 .m0 Order.l1 rfl rfl) (Gt (Ce rfl rfl) (Gm rfl (BZ 12 rfl rfl (fun q=>Ah HC rfl) (BZ 12 rfl rfl (fun q=>AG (cF rfl q) DN .m0 Order.l2 rfl rfl) ?_))))
 refine Gt (BS rfl rfl (fun h=>by rw [h];rfl)) ?_
 refine Gn (.t3 0 4 15) ?_
 refine QO (BU) (s:=(if (!decide (o.nth=1) || o.Bj)=true then [] else o.name)) rfl rfl rfl rfl rfl ?_
 refine AB (.t2 0 4) ?_
 refine AA (Gs (Gm rfl (Gm rfl ?_)))
 refine BF rfl Y5 (.c rfl (.c rfl .n)) (.c (.t .h) (.c (.t .h) .n)) (IY _ T _ _ hg hF (by split<;>(try simp)<;>omega) (by omega)) (fun w hS=>⟨gl0.pull gm0 hS (.c (.t .h) (.c (.t .h) .n)),gl1.pull gm1 hS (.c (.t .h) (.c (.t .h) .n))⟩) (fun v1 B hv=>?_)
 obtain⟨y2,rfl,y3,rfl⟩:=hv
 refine Gm rfl (Gt (AN rfl rfl) (Gt (AN rfl rfl) (Ga rfl (Ga rfl (Gn (.t3 0 5 6) (CB (Gm rfl ?_)))))))
 refine Gt (BQ rfl) (Gn (.t3 0 5 23) ?_)
 refine Gc (fun c1=>?_) (fun c1=>?_)
 ·
  have c1p:=kz c1
  refine Ab (AD ?_)
  refine AZ rfl .n ?_
  intro w1 hS
  have hS:=(hS.perm (Ax.perm (.c .h (.c .h .n)))).A1
  have hq:T.Ez o=_:=BB c1
  refine⟨_,⟨?gq1,rfl,?hl1,?hB1⟩,hS⟩
  case hB1=>rw [hq];(try rfl)
  case hl1=>rw [hq];assumption
 have c1p:=kz c1
 refine Aa ?_
 refine AB (.t2 0 5) ?_
 refine AA (Ap ?_)
 refine BE (N:=13) [0,0,2,6,14,0,32,1,129,385,1023,2047,4095] mix (by kernel_rfl) rfl ?_
 refine Pf 0 rfl (AE rfl) (Pf 1 rfl (AE rfl) (Pf 2 rfl (BV rfl) (Pf 3 rfl (Ah CR rfl) (Pf 4 rfl (AG rfl A5 .m0 Ad.l1 rfl rfl) (Pf 5 rfl (AE rfl) ?_)))))
 refine Pf 6 rfl (Aw rfl rfl (IntWalk.i64_in _ (by first | omega | exact hsb.1 | exact hsb.2 | (dsimp only;omega)))) ?_
 refine Pf 7 rfl (BV rfl) (Pf 8 rfl (Ah A9 rfl) (Pf 9 rfl (Ah Bi rfl) ?_))
 refine Pf 10 rfl (AQ Cs rfl rfl (by first | omega | exact hsb.1 | exact hsb.2 | (dsimp only;omega)) (by first | omega | exact hsb.1 | exact hsb.2 | (dsimp only;omega))) ?_
 refine Pf 11 rfl (Ah GD rfl) ?_
 refine An 12 rfl (by kernel_rfl) ?_
 refine AS (AK (((Ad.l0.comp AH.l2).comp (AU.ar (n:=6) Ag.fl (by first | omega | exact hsb | (dsimp only;omega)))).comp Ag.l5) rfl rfl rfl DB rfl .h) ?_
 refine BO rfl ⟨?_,?_⟩
 · exact(Pk (Pk (Pk (Pk (Pk (Pk (Pk (Pk (Pk (Pk (Pk (Pk Ar))))))))))))
 refine A4 (by kernel_rfl) ?_
 refine AB (.t2 0 5) ?_
 refine AA (CB (Gm rfl (Gm rfl (Gt (BV rfl) (Gt (Ah A9 rfl) (Gt (Ah Bi rfl) ?_))))))
 refine Gt (AQ Cs rfl rfl (by first | omega | exact hsb.1 | exact hsb.2 | (dsimp only;omega)) (by first | omega | exact hsb.1 | exact hsb.2 | (dsimp only;omega))) ?_
 refine Gt (Ah GD rfl) ?_
 refine Gt (AG rfl A5 .m0 (((Ad.l0.comp AH.l2).comp (AU.ar (n:=6) Ag.fl (by first | omega | exact hsb | (dsimp only;omega)))).comp Ag.l5) rfl rfl) ?_
 refine Gt (Aj rfl rfl) (Gn (.t3 0 5 44) ?_)
 refine Gc (fun c2=>?_) (fun c2=>?_)
 ·
  have c2p:=kz c2
  refine BE (N:=13) [0,0,0,4,12,28,60,1,129,385,1023,2047,4095] mix (by kernel_rfl) rfl ?_
  refine Pf 0 rfl (AE rfl) (Pf 1 rfl (AE rfl) (Pf 2 rfl (AE rfl) (Pf 3 rfl (BV rfl) (Pf 4 rfl (Ah CR rfl) (Pf 5 rfl (AG rfl A5 .m0 Ad.l1 rfl rfl) ?_)))))
  refine Pf 6 rfl (Aw rfl rfl (IntWalk.i64_in _ (by first | omega | exact hsb.1 | exact hsb.2 | (dsimp only;omega)))) ?_
  refine Pf 7 rfl (BV rfl) (Pf 8 rfl (Ah A9 rfl) (Pf 9 rfl (Ah Bi rfl) ?_))
  refine Pf 10 rfl (AQ Cs rfl rfl (by first | omega | exact hsb.1 | exact hsb.2 | (dsimp only;omega)) (by first | omega | exact hsb.1 | exact hsb.2 | (dsimp only;omega))) ?_
  refine Pf 11 rfl (Ah GD rfl) ?_
  refine An 12 rfl (by kernel_rfl) ?_
  refine AS (AK (((Ad.l0.comp AH.l2).comp (AU.ar (n:=6) Ag.fl (by first | omega | exact hsb | (dsimp only;omega)))).comp Ag.l5) rfl rfl rfl DB rfl .h) ?_
  refine BO rfl ⟨?_,?_⟩
  · exact(Pk (Pk (Pk (Pk (Pk (Pk (Pk (Pk (Pk (Pk (Pk (Pk Ar))))))))))))
  refine A4 (by kernel_rfl) ?_
  refine AB (.t1 0) ?_
  refine AA (AJ (Gm rfl ?_))
  refine Ai rfl EC (.c rfl (.c rfl .n)) (.c .h (.c .h .n)) (Bc _ (AF.Ch (AF.Ch (T.A6 (if (!decide (o.nth=1) || o.Bj)=true then [] else o.name)).1 (T.A6 (if (!decide (o.nth=1) || o.Bj)=true then [] else o.name)).1.b ((T.A6 (if (!decide (o.nth=1) || o.Bj)=true then [] else o.name)).2.1+1)) (T.A6 (if (!decide (o.nth=1) || o.Bj)=true then [] else o.name)).2.1 ((T.A6 (if (!decide (o.nth=1) || o.Bj)=true then [] else o.name)).1.b+1)) _ _ (by assumption) hsb (by show(T.A6 (if (!decide (o.nth=1) || o.Bj)=true then [] else o.name)).1.out.length≤100000;have:=T.HB (if (!decide (o.nth=1) || o.Bj)=true then [] else o.name);omega)) (fun v4 B hv=>?_)
  obtain⟨y5,rfl,y6,rfl⟩:=hv
  refine AR ?_
  refine Bk rfl .n ?_
  intro w1 hS
  have hS:=(hS.perm (Ax.perm (.c .h (.c .h .n)))).A1
  have hq:T.Ez o=_:=(show T.Ez o=_ from AX c1).trans (congrArg (fun q=>AF.tell q AF.Qs) (BB c2))
  refine⟨_,⟨?gq2,rfl,?hl2,?hB2⟩,hS⟩
  case hB2=>rw [hq];(try rfl)
  case hl2=>rw [hq];assumption
 have c2p:=kz c2
 refine Aa ?_
 refine AB (.t1 0) ?_
 refine AA (AJ (Gm rfl ?_))
 refine Ai rfl EC (.c rfl (.c rfl .n)) (.c .h (.c .h .n)) (Bc _ (AF.Ch (T.A6 (if (!decide (o.nth=1) || o.Bj)=true then [] else o.name)).1 (T.A6 (if (!decide (o.nth=1) || o.Bj)=true then [] else o.name)).1.b ((T.A6 (if (!decide (o.nth=1) || o.Bj)=true then [] else o.name)).2.1+1)) _ _ (by assumption) hsb (by show(T.A6 (if (!decide (o.nth=1) || o.Bj)=true then [] else o.name)).1.out.length≤100000;have:=T.HB (if (!decide (o.nth=1) || o.Bj)=true then [] else o.name);omega)) (fun v7 B hv=>?_)
 obtain⟨y8,rfl,y9,rfl⟩:=hv
 refine AR ?_
 refine Bk rfl .n ?_
 intro w1 hS
 have hS:=(hS.perm (Ax.perm (.c .h (.c .h .n)))).A1
 have hq:T.Ez o=_:=(show T.Ez o=_ from AX c1).trans (congrArg (fun q=>AF.tell q AF.Qs) (AX c2))
 refine⟨_,⟨?gq3,rfl,?hl3,?hB3⟩,hS⟩
 case hB3=>rw [hq];(try rfl)
 case hl3=>rw [hq];assumption
theorem I9 (b:Nat)(T:AF)(g:Hd)(hF:T.Fit):JO Tryz.prog 132 #[.pointer (some ⟨b,0,none⟩)] [Ac.box b 163 (Ad.enc ⟨T.w,T.b,g⟩)] (fun v B=>∃ f:Hd,v=f.val∧f.len=(T.seen).length∧B = [Ac.box b 163 (Ad.enc ⟨T.w,T.b,g⟩),Ac.own f 3 1 ((T.seen).flatMap Ay)]):=by
 intro w hS0
 have hb:=hF.b
 have hr:=hF.room
 refine Ak _ _ Tryz.func132 rfl rfl rfl (hS0) ?_
 refine Gs (Ga rfl (Gn (.t1 0) (Ap ?_)))
 refine BE (N:=12) [0,0,2,6,14,1,33,97,255,511,1023,2047] mix (by kernel_rfl) rfl ?_
 refine Pf 0 rfl (AE rfl) (Pf 1 rfl (AE rfl) (Pf 2 rfl (BV rfl) (Pf 3 rfl (Ah CR rfl) (Pf 4 rfl (AG rfl A5 .m0 Ad.l1 rfl rfl) (Pf 5 rfl (BV rfl) (Pf 6 rfl (Ah A9 rfl) (Pf 7 rfl (Ah Bi rfl) ?_)))))))
 refine Pf 8 rfl (AQ Cs rfl rfl (by first | omega | exact hb.1 | exact hb.2 | (dsimp only;omega)) (by first | omega | exact hb.1 | exact hb.2 | (dsimp only;omega))) ?_
 refine Pf 9 rfl (Ah C2 rfl) ?_
 refine Pf 10 rfl (AG rfl A5 .m0 (((Ad.l0.comp AH.l2).comp (AU.ar (n:=6) Ag.fl (by first | omega | exact hb | (dsimp only;omega)))).comp Ag.l3) rfl rfl) ?_
 refine Pf 11 rfl (A0 rfl) ?_
 refine A4 (by kernel_rfl) ?_
 refine AB (.t2 0 3) ?_
 refine AA (CB (Gm rfl (Gt (BV rfl) (Gt (Ah A9 rfl) (Gt (AY rfl BW .m0 Ad.l0 rfl) (Gm rfl ?_))))))
 refine BA rfl Uf (.c rfl (.c rfl .n)) (fun w hS=>EZ _ _ w) ?_
 refine Gt (BQ rfl) (Gn (.t3 0 3 21) ?_)
 refine Gc (fun c1=>?_) (fun c1=>?_)
 ·
  refine Gs (Ga rfl (Gn (.t1 2) (Ab (AD ?_))))
  refine AZ rfl (.tmp rfl .n) ?_
  intro w1 hS
  have hS:=hS.Co 3 1
  have hS:=(hS.perm (Ax.perm (.c (.t .h) (.c .h .n)))).A1
  have hq:T.seen=_:=BB c1
  exact⟨_,⟨⟨none,0,0⟩,rfl,by rw [hq];rfl,by rw [hq];rfl⟩,hS⟩
 have c1p:=kz c1
 refine Aa ?_
 refine AB (.t2 0 3) ?_
 refine AA (Gs (Gm rfl (Gt (BV rfl) (Gt (Ah A9 rfl) (Gt (AY rfl BW .m0 Ad.l0 rfl) (Gm rfl ?_))))))
 refine Ai rfl SK (.c rfl (.c rfl (.c rfl .n))) .n (FD _ _ _) (fun v2 B hv=>?_)
 obtain⟨y3,rfl,y4,rfl⟩:=hv
 refine Ga rfl (Gn (.t1 2) (Ab ?_))
 refine AZ rfl (.tmp rfl .n) ?_
 intro w1 hS
 have hS:=(hS.perm (Ax.perm (.c (.t .h) (.c .h .n)))).A1
 have hq:T.seen=_:=(AX c1)
 exact⟨_,⟨_,rfl,by rw [hq];first | rfl | assumption,by rw [hq];rfl⟩,hS⟩
theorem Ex (b:Nat)(T:AF)(g:Hd)(f:Hd)(l:List Int)(z:Int)(u:Aq)(a:Bool)(hF:T.Fit)(hf:f.len=l.length)(hl:l.length≤100)(hi:∀ i∈l,0≤i∧i < 9):JO Tryz.prog 134 #[.pointer (some ⟨b,0,none⟩),f.val, .int .i64 z,BU u, .bool a] [Ac.box b 163 (Ad.enc ⟨T.w,T.b,g⟩),Ac.own f 3 1 (l.flatMap Ay)] (fun v B=>∃ h:Hd,v=h.val∧h.len=(AF.BR T.w l z u a).length∧B = [Ac.box b 163 (Ad.enc ⟨T.w,T.b,g⟩),Ac.own f 3 1 (l.flatMap Ay),Ac.own h 3 1 ((AF.BR T.w l z u a).flatMap Ay)]):=by
 intro w hS0
 have hb:=hF.b
 have hr:=hF.room
 refine Ak _ _ Tryz.func134 rfl rfl rfl (hS0) ?_
 refine Gs (Ga rfl (Gn (.t5 0 1 2 3 4) (Gs (Ga rfl (AR (AA (CB ?_)))))))
 refine Gm rfl (Gt (Av rfl Tryz.underlying169 rfl) (Gm rfl (Gn (.t8 0 2 3 4 11 14 15 16) (Ae ?_))))
 refine Bo (.t8 11 16 0 2 3 4 14 15) ?_
 refine E0 Ay 3 1 ?_
 refine Dt (fun(k:Int) (xs:List Int) (h:Hd)=>0≤k∧k≤(l.length:Int)∧xs=AF.JM T.w u (l.take k.toNat)∧h.len=xs.length∧xs.length≤k.toNat) (fun(k:Int) (xs:List Int) (h:Hd)=>((l.length:Int) - k).toNat) (fun(k:Int) (xs:List Int) (h:Hd)=> [(11,h.val),(16, .int .i64 k)]) (fun(k:Int) (xs:List Int) (h:Hd)=> [Ac.own h 3 1 (xs.flatMap Ay)]) (0) ([]) (_) ?_ rfl rfl (fun k xs h hI1=>?_)
 · exact⟨by omega,by omega,rfl,rfl,by simp⟩
 obtain⟨hI11,hI12,hI13,hI14,hI15⟩:=hI1
 refine Gs (Gt (A8 rfl rfl) (AR (AA (Ap ?_))))
 refine Gc (fun c1=>?_) (fun c1=>?_)
 ·
  have c1p:=kz c1
  have hx:=hi _ (Bg.Eo (xs:=l) (i:=k.toNat) (by omega))
  refine Aa ?_
  refine AB (.t8 0 2 3 4 11 14 15 16) ?_
  refine AA (Ap (Ae (Gs ?_)))
  refine Gt (Br GY (by decide) (Kn.own .m2) rfl rfl (by omega) (by omega)) ?_
  refine Gt (DJ rfl A5 (Kn.own .m2) (by omega)) ?_
  refine Ga rfl (Gn (.t9 0 2 3 4 11 13 14 15 16) (Gs (Gm rfl (Gt (Bt rfl rfl) (Gm rfl (BZ 22 rfl rfl (fun q=>AE rfl) (BZ 22 rfl rfl (fun q=>AE rfl) ?_)))))))
  refine BZ 22 rfl rfl (fun q=>BV (cF rfl q)) (BZ 22 rfl rfl (fun q=>Ah A9 (cF rfl q)) (BZ 22 rfl rfl (fun q=>Ah Cw (cF rfl q)) ?_))
  refine BZ 22 rfl rfl (fun q=>by have q1:=q;(try simp at q1);exact AQ F9 (cF rfl q) (cF rfl q) (by first | omega | exact hb.1 | exact hb.2) (by first | omega | exact hb.1 | exact hb.2)) ?_
  refine BZ 22 rfl rfl (fun q=>Ah Mb (cF rfl q)) ?_
  refine BZ 22 rfl rfl (fun q=>by have q1:=q;(try simp at q1);exact AG (cF rfl q) CP .m1 (((Ad.l0.comp AH.l1).comp (AU.ar (n:=9) Al.fl (by first | omega | exact hb))).comp Al.l0) rfl rfl) ?_
  refine BZ 22 rfl rfl (fun q=>AE rfl) (BZ 22 rfl rfl (fun q=>Bt (cF rfl q) (cF rfl q)) ?_)
  refine Gt (BS rfl rfl (fun h=>by rw [h];rfl)) ?_
  refine Gn (.t10 0 2 3 4 11 13 14 15 16 33) ?_
  refine Gc (fun c2=>?_) (fun c2=>?_)
  ·
   have c2p:=kz c2
   refine AJ (Gm rfl (Gm rfl ?_))
   refine Fv Ay B2 rfl Tryz.underlying169 DB aN rfl (by decide) (by decide) rfl rfl (fun b1=>?_)
   refine Cd B2 rfl Tryz.underlying169 DB aN rfl cT (by decide) (by decide) rfl rfl (fun w hS=>Src.Dz Tryz.underlying169 ((Kn.own .m0) w hS)) (by(try dsimp only);omega) (fun _=>(.t .h)) (fun h1 h1l h1z=>?_)
   refine Ga rfl ?_
   refine AR (AB (.t8 0 2 3 4 11 14 15 16) ?_)
   refine AV (AA (AJ ?_))
   refine Gt (Aw rfl rfl (IntWalk.i64_in _ (by first | omega | exact hb.1 | exact hb.2))) ?_
   refine Gm rfl ?_
   refine AR (AB (.t8 0 2 3 4 11 14 15 16) ?_)
   refine Bw (k+1) _ _ ?_ ?_ (.t8 11 16 0 2 3 4 14 15) (.cons _ (.refl _))
   · exact⟨by omega,by omega,by rw [AF.X5 hI11 (by omega) c2,← hI13],(by(try dsimp only at *)<;>(try simp only [List.length_append,List.length_cons,List.length_nil])<;>omega),(by(try simp only [List.length_append,List.length_cons,List.length_nil]);omega)⟩
   · omega
  have c2p:=kz c2
  refine Aa ?_
  refine AB (.t8 0 2 3 4 11 14 15 16) ?_
  refine AV (AA (AJ ?_))
  refine Gt (Aw rfl rfl (IntWalk.i64_in _ (by first | omega | exact hb.1 | exact hb.2))) ?_
  refine Gm rfl ?_
  refine AR (AB (.t8 0 2 3 4 11 14 15 16) ?_)
  refine Bw (k+1) _ _ ?_ ?_ (.t8 11 16 0 2 3 4 14 15) (.refl _)
  · exact⟨by omega,by omega,by rw [AF.Yh hI11 (by omega) c2,← hI13],(by(try dsimp only at *)<;>(try simp only [List.length_append,List.length_cons,List.length_nil])<;>omega),(by(try simp only [List.length_append,List.length_cons,List.length_nil]);omega)⟩
  · omega
 have c1p:=kz c1
 obtain rfl:k=(l.length:Int):=by omega
 have hx3:=hI13
 rw [show(l.length:Int).toNat=l.length by omega,List.take_length] at hx3
 have hpa:=AF.Vi T.w u l
 rw [← hx3] at hpa
 refine Ba (AW (AW (Af ?_)))
 refine AB (.t3 2 4 11) ?_
 refine AA (CB (Gm rfl (Gn (.t3 2 11 39) ?_)))
 refine Gc (fun c3=>?_) (fun c3=>?_)
 ·
  have c3p:=kz c3
  refine Gs (Gm rfl (Ga rfl (Gn (.t1 10) (Ab (AD ?_)))))
  refine AZ rfl (.tmp rfl .n) ?_
  intro w1 hS
  have hS:=(hS.perm (Ax.perm (.c (.t .h) (.c (.t .h) (.c .h .n))))).A1
  have hq:AF.BR T.w l z u a=_:=(BB c3)
  refine⟨_,⟨_,rfl,?hl1,?hB1⟩,hS⟩
  case hB1=>rw [hq];(try rw [← hx3]);(try rfl)
  case hl1=>rw [hq];first | rfl | (rw [← hx3];first | assumption | (simp only [Hd.cut,List.length_drop,List.length_take];omega))
 have c3p:=kz c3
 refine Aa ?_
 refine AB (.t2 2 11) ?_
 refine AA (CB (Gm rfl (Gt (A8 rfl rfl) (Gm rfl (BZ 43 rfl rfl (fun q=>AE rfl) (BZ 43 rfl rfl (fun q=>AE rfl) (BZ 43 rfl rfl (fun q=>Av rfl Tryz.underlying169 (cF rfl q)) ?_)))))))
 refine BZ 43 rfl rfl (fun q=>Ck (cF rfl q) (cF rfl q)) ?_
 refine Gt (BS rfl rfl (fun h=>by rw [h];rfl)) ?_
 refine Gn (.t3 2 11 48) ?_
 refine Gc (fun c4=>?_) (fun c4=>?_)
 ·
  have c4p:=kz c4
  rw [hI14,hx3] at c4
  refine Gs (Ga rfl (Gn (.t1 10) (Ab (AD ?_))))
  refine AZ rfl (.tmp rfl .n) ?_
  intro w1 hS
  have hS:=hS.Co 3 1
  have hS:=(hS.perm (Ax.perm (.c (.t (.t .h)) (.c (.t (.t .h)) (.c .h .n))))).A1
  have hq:AF.BR T.w l z u a=_:=((AX c3).trans (BB c4))
  refine⟨_,⟨⟨none,0,0⟩,rfl,?hl2,?hB2⟩,hS⟩
  case hB2=>rw [hq];(try rw [← hx3]);(try rfl)
  case hl2=>rw [hq];first | rfl | (rw [← hx3];first | assumption | (simp only [Hd.cut,List.length_drop,List.length_take];omega))
 have c4p:=kz c4
 have c4q:=c4p
 rw [hI14,hx3] at c4
 refine Aa ?_
 refine AB (.t2 2 11) ?_
 refine AA (Gs (Gm rfl (Gm rfl ?_)))
 refine Gt (FR rfl rfl (IntWalk.i64_in _ (by first | omega | exact hb.1 | exact hb.2))) ?_
 refine Gm rfl ?_
 refine TE B2 rfl Tryz.underlying169 DB rfl rfl rfl (by first | omega | exact hb.1 | exact hb.2) (by first | omega | exact hb.1 | exact hb.2) (by first | omega | exact hb.1 | exact hb.2) (fun _=> .h) ?_
 refine Ga rfl (Gn (.t1 10) (Ab ?_))
 refine AZ rfl (.tmp rfl .n) ?_
 intro w1 hS
 have hS:=(hS.perm (Ax.perm (.c (.t .h) (.c (.t .h) (.c .h .n))))).A1
 have hq:AF.BR T.w l z u a=_:=((AX c3).trans (AX c4))
 refine⟨_,⟨_,rfl,?hl3,?hB3⟩,hS⟩
 case hB3=>rw [hq];(try rw [← hx3]);(try rfl)
 case hl3=>rw [hq];first | rfl | (rw [← hx3];first | assumption | (simp only [Hd.cut,List.length_drop,List.length_take];omega))
theorem Rt (b:Nat)(T:AF)(g:Hd)(u:Aq)(hF:T.Fit)(hu:u.length≤5000000):FK Tryz.prog 161 #[.pointer (some ⟨b,0,none⟩),BU u] [Ac.box b 163 (Ad.enc ⟨T.w,T.b,g⟩)] (fun w=>(Gu 7 w∧7 ∉ Cf [Ac.box b 163 (Ad.enc ⟨T.w,T.b,g⟩)])∧(Gu 8 w∧8 ∉ Cf [Ac.box b 163 (Ad.enc ⟨T.w,T.b,g⟩)])) (fun v B=>v = .tuple #[.int .i64 (T.one u).1, .bool (T.one u).2]∧B = [Ac.box b 163 (Ad.enc ⟨T.w,T.b,g⟩)]):=by
 intro w hS0 hH
 obtain⟨⟨gl0,gm0⟩,⟨gl1,gm1⟩⟩:=hH
 have hb:=hF.b
 have hr:=hF.room
 have ho9:=T.KO
 have hs9:=T.Iu
 refine Ak _ _ Tryz.func161 rfl rfl rfl (hS0) ?_
 refine Gs (Ga rfl (Ga rfl (Gn (.t2 0 1) (Gs (Gm rfl ?_)))))
 refine BA rfl UC (.c rfl .n) (fun w hS=>FG _ (by first | assumption | omega) w (gl0.stM gm0 hS) (gl1.stM gm1 hS)) ?_
 refine Gm rfl (Gt (AN rfl rfl) (Gt (AN rfl rfl) (Gt (AN rfl rfl) (Gt (AN rfl rfl) (Ga rfl (Ga rfl (Ga rfl ?_)))))))
 refine Ga rfl (Gn (.t5 0 6 7 8 9) (CB (Gm rfl (Gt (Ce rfl rfl) (Gm rfl (BZ 20 rfl rfl (fun q=>AE rfl) ?_))))))
 refine Gt (BS rfl rfl (fun h=>by rw [h];rfl)) ?_
 refine Gn (.t4 0 6 7 22) ?_
 refine Gc (fun c1=>?_) (fun c1=>?_)
 ·
  refine Gs (Ga rfl (Ga rfl (Gn (.t2 4 5) (Ab (AD ?_)))))
  refine AZ rfl (.tmp rfl (.tmp rfl .n)) ?_
  intro w1 hS
  have hS:=(hS.perm (Ax.perm (.c .h .n))).A1
  have hq:T.one u=_:=(BB c1)
  exact⟨_,⟨by rw [hq];rfl,rfl⟩,hS⟩
 have c1p:=kz c1
 refine Aa ?_
 refine AB (.t3 0 6 7) ?_
 refine AA (Gs (Gm rfl (Gm rfl ?_)))
 refine Ai rfl Ts (.c rfl .n) (.c .h .n) (Ht _ _ _ (by first | assumption | omega)) (fun v1 B hv=>?_)
 obtain⟨y2,rfl,y3,rfl⟩:=hv
 refine Gm rfl ?_
 refine Ai rfl W1 (.c rfl .n) (.c .h .n) (I9 _ _ _ (by first | assumption | omega)) (fun v5 B hv=>?_)
 obtain⟨y6,rfl,y7,rfl⟩:=hv
 refine Cd B2 rfl Tryz.underlying169 DB aN rfl cT (by decide) (by decide) rfl rfl (fun w hS=>Src.Dz Tryz.underlying169 ((Kn.own .m1) w hS)) (by(try dsimp only);omega) (fun _=>(.t (.t .h))) (fun h9 h9l h9z=>?_)
 refine Gm rfl (Gm rfl ?_)
 refine Ai rfl QG (.c rfl (.c rfl (.c rfl (.c rfl (.c rfl .n))))) (.c .h (.c (.t .h) .n)) (Ex _ T _ _ (T.own++T.seen) _ _ _ hF (by rw [List.length_append];omega) (by rw [List.length_append];omega) (fun i hi=>AF.Qy hi)) (fun v10 B hv=>?_)
 obtain⟨y11,rfl,y12,rfl⟩:=hv
 refine Ga rfl (Gn (.t1 10) (CB (Gm rfl (Gt (Av rfl Tryz.underlying169 rfl) (Gt (Aj rfl rfl) (Gn (.t2 10 34) ?_))))))
 refine Gc (fun c2=>?_) (fun c2=>?_)
 ·
  have c2p:=kz c2
  have hpl:=y12
  rw [hpl] at c2 c2p
  refine Gs (Ga rfl (Ga rfl (Gn (.t2 4 5) (Ab (AD ?_)))))
  refine AZ rfl (.tmp rfl (.tmp rfl .n)) ?_
  intro w1 hS
  have hS:=(hS.perm (Ax.perm (.c .h .n))).A1
  have hq:T.one u=_:=((AX c1).trans (BB c2))
  exact⟨_,⟨by rw [hq];rfl,rfl⟩,hS⟩
 have c2p:=kz c2
 have hpl:=y12
 rw [hpl] at c2 c2p
 refine Aa ?_
 refine AB (.t1 10) ?_
 refine AA (Gs (Gm rfl ?_))
 refine Gt (Br GY (by decide) (Kn.own .m2) rfl rfl (by omega) (by omega)) ?_
 refine Gt (DJ rfl A5 (Kn.own .m2) (by omega)) ?_
 refine Ga rfl (Ga rfl (Gn (.t2 4 5) (Ab ?_)))
 refine AZ rfl (.tmp rfl (.tmp rfl .n)) ?_
 intro w1 hS
 have hS:=(hS.perm (Ax.perm (.c .h .n))).A1
 have hq:T.one u=_:=((AX c1).trans (AX c2))
 exact⟨_,⟨by rw [hq];rfl,rfl⟩,hS⟩
theorem Mg (b:Nat)(T:AF)(g:Hd)(u:Aq)(hg:g.len=T.out.length)(hF:T.Fit)(hu:u.length≤5000000)(hn:T.out.length≤99000):FK Tryz.prog 133 #[.pointer (some ⟨b,0,none⟩),BU u] [Ac.box b 163 (Ad.enc ⟨T.w,T.b,g⟩),Ac.own g 56 16 (T.out.flatMap Ing.Event.enc)] (fun w=>(Gu 7 w∧7 ∉ Cf [Ac.box b 163 (Ad.enc ⟨T.w,T.b,g⟩),Ac.own g 56 16 (T.out.flatMap Ing.Event.enc)])∧(Gu 8 w∧8 ∉ Cf [Ac.box b 163 (Ad.enc ⟨T.w,T.b,g⟩),Ac.own g 56 16 (T.out.flatMap Ing.Event.enc)])) (fun v B=>∃ g':Hd,v = .tuple #[.int .i64 (T.box u).2.1, .bool (T.box u).2.2]∧g'.len=((T.box u).1).out.length∧B = [Ac.box b 163 (Ad.enc ⟨((T.box u).1).w,((T.box u).1).b,g'⟩),Ac.own g' 56 16 (((T.box u).1).out.flatMap Ing.Event.enc)]):=by
 intro w hS0 hH
 obtain⟨⟨gl0,gm0⟩,⟨gl1,gm1⟩⟩:=hH
 have hb:=hF.b
 have hr:=hF.room
 have ho:=T.UU u
 refine Ak _ _ Tryz.func133 rfl rfl rfl (hS0) ?_
 refine Gs (Ga rfl (Ga rfl (Gn (.t2 0 1) (Gs (Gm rfl (Gm rfl ?_))))))
 refine BF rfl bg (.c rfl (.c rfl .n)) (.c .h .n) (Rt _ T _ _ hF hu) (fun w hS=>⟨gl0.pull gm0 hS (.c .h .n),gl1.pull gm1 hS (.c .h .n)⟩) (fun v1 B hv=>?_)
 obtain⟨rfl,rfl⟩:=hv
 refine Gm rfl (Gt (AN rfl rfl) (Gt (AN rfl rfl) (Ga rfl (Ga rfl (Gn (.t3 0 6 7) (CB (Gm rfl ?_)))))))
 refine Gt (BQ rfl) (Gm rfl (BZ 16 rfl rfl (fun q=>AE rfl) (BZ 16 rfl rfl (fun q=>AE rfl) (BZ 16 rfl rfl (fun q=>BV (cF rfl q)) (BZ 16 rfl rfl (fun q=>Ah A9 (cF rfl q)) (BZ 16 rfl rfl (fun q=>Ah Cw (cF rfl q)) ?_))))))
 refine BZ 16 rfl rfl (fun q=>by have q1:=q;(try simp at q1);exact AQ F9 (cF rfl q) (cF rfl q) (by first | omega | exact hb.1 | exact hb.2 | (dsimp only;omega)) (by first | omega | exact hb.1 | exact hb.2 | (dsimp only;omega))) ?_
 refine BZ 16 rfl rfl (fun q=>Ah Gz (cF rfl q)) ?_
 refine BZ 16 rfl rfl (fun q=>by have q1:=q;(try simp at q1);exact AG (cF rfl q) A5 .m0 (((Ad.l0.comp AH.l1).comp (AU.ar (n:=9) Al.fl (by first | omega | exact hb | (dsimp only;omega)))).comp Al.l1) rfl rfl) ?_
 refine BZ 16 rfl rfl (fun q=>Ce (cF rfl q) rfl) ?_
 refine Gt (BS rfl rfl (fun h=>by rw [h];rfl)) ?_
 refine Gn (.t3 0 6 26) ?_
 refine Gc (fun c1=>?_) (fun c1=>?_)
 ·
  have c1p:=kz c1
  refine Gs (Gm rfl ?_)
  refine Ai rfl EC (.c rfl (.c rfl .n)) (.c .h (.c .h .n)) (Bc _ _ _ _ hg hb (by omega)) (fun v2 B hv=>?_)
  obtain⟨y3,rfl,y4,rfl⟩:=hv
  refine Gn (.nil _) (Gs (Ga rfl (Ga rfl (AR (AA (Ab (AD ?_)))))))
  refine AZ rfl (.tmp rfl (.tmp rfl .n)) ?_
  intro w1 hS
  have hS:=(hS.perm (Ax.perm (.c .h (.c .h .n)))).A1
  have hq:T.box u=_:=(BB c1)
  refine⟨_,⟨?gq1,?hv1,?hl1,?hB1⟩,hS⟩
  case hB1=>rw [hq];(try rfl)
  case hv1=>rw [hq];(try rfl)
  case hl1=>rw [hq];assumption
 have c1p:=kz c1
 refine Aa ?_
 refine AB (.t2 0 6) ?_
 refine AA (CB (Gm rfl (Gm rfl (Gt (BV rfl) (Gt (Ah A9 rfl) (Gt (Ah Cw rfl) ?_))))))
 refine Gt (AQ F9 rfl rfl (by first | omega | exact hb.1 | exact hb.2 | (dsimp only;omega)) (by first | omega | exact hb.1 | exact hb.2 | (dsimp only;omega))) ?_
 refine Gt (Ah GI rfl) ?_
 refine Gt (AG rfl DN .m0 (((Ad.l0.comp AH.l1).comp (AU.ar (n:=9) Al.fl (by first | omega | exact hb | (dsimp only;omega)))).comp Al.l4) rfl rfl) ?_
 refine Gt (BQ rfl) (Gn (.t3 0 6 37) ?_)
 refine Gc (fun c2=>?_) (fun c2=>?_)
 ·
  have c2p:=kz c2
  refine Gs (Gm rfl ?_)
  refine Ai rfl EC (.c rfl (.c rfl .n)) (.c .h (.c .h .n)) (Bc _ _ _ _ hg hb (by omega)) (fun v5 B hv=>?_)
  obtain⟨y6,rfl,y7,rfl⟩:=hv
  refine Gn (.nil _) (Gs (Ga rfl (Ga rfl (AR (AA (Ab (AD ?_)))))))
  refine AZ rfl (.tmp rfl (.tmp rfl .n)) ?_
  intro w1 hS
  have hS:=(hS.perm (Ax.perm (.c .h (.c .h .n)))).A1
  have hq:T.box u=_:=((AX c1).trans (BB c2))
  refine⟨_,⟨?gq2,?hv2,?hl2,?hB2⟩,hS⟩
  case hB2=>rw [hq];(try rfl)
  case hv2=>rw [hq];(try rfl)
  case hl2=>rw [hq];assumption
 have c2p:=kz c2
 refine Aa ?_
 refine AB (.t1 6) ?_
 refine AA (Gs (Gm rfl (Ga rfl (Ga rfl (Gn (.t2 4 5) (Ab ?_))))))
 refine AZ rfl (.tmp rfl (.tmp rfl .n)) ?_
 intro w1 hS
 have hS:=(hS.perm (Ax.perm (.c .h (.c .h .n)))).A1
 have hq:T.box u=_:=((AX c1).trans (AX c2))
 refine⟨_,⟨?gq3,?hv3,?hl3,?hB3⟩,hS⟩
 case hB3=>rw [hq];(try rfl)
 case hv3=>rw [hq];(try rfl)
 case hl3=>rw [hq];assumption
theorem Dx (b:Nat)(T:AF)(g:Hd)(k i:Int)(hg:g.len=T.out.length)(hb:0≤T.b∧T.b < 6)(hi:0≤i∧i < 9)(hn:T.out.length≤100000):JO Tryz.prog 135 #[.pointer (some ⟨b,0,none⟩), .int .i64 k, .int .i64 i] [Ac.box b 163 (Ad.enc ⟨T.w,T.b,g⟩),Ac.own g 56 16 (T.out.flatMap Ing.Event.enc)] (fun v B=>∃ g':Hd,v = .tuple #[]∧g'.len=(T.Bs k i).out.length∧B = [Ac.box b 163 (Ad.enc ⟨(T.Bs k i).w,(T.Bs k i).b,g'⟩),Ac.own g' 56 16 ((T.Bs k i).out.flatMap Ing.Event.enc)]):=by
 intro w hS0
 refine Ak _ _ Tryz.func135 rfl rfl rfl (hS0) ?_
 refine AJ (Gm rfl (Gm rfl (Gm rfl (Gm rfl (Gt (BV rfl) (Gt (Ah A9 rfl) (Gt (Ah Cw rfl) ?_)))))))
 refine Gt (AQ F9 rfl rfl (by(try dsimp only at *);omega) (by(try dsimp only at *);omega)) ?_
 refine Gt (Ah Mb rfl) ?_
 refine Gt (AG rfl CP .m0 (((Ad.l0.comp AH.l1).comp (AU.arr (n:=9) Al.fl (by(try dsimp only at *);omega) (by(try dsimp only at *);omega))).comp Al.l0) rfl rfl) ?_
 refine Gt (BC O9 IU rfl (.cons Ing.Event.l0 rfl rfl rfl (.cons Ing.Event.l3 rfl rfl rfl (.cons Ing.Event.l8 rfl rfl rfl .nil)))) ?_
 refine Ai rfl Nx (.c rfl (.c rfl .n)) (.c .h (.c .h .n)) (CO _ _ _ { AF.Fy k with Bs:=(T.w.AO.at i).name } hg hb (show(-1:Int) < 6 by decide) hn) (fun v1 B hv=>?_)
 obtain⟨y2,rfl,y3,rfl⟩:=hv
 refine AR ?_
 refine Bk rfl .n ?_
 intro w1 hS
 have hS:=(hS.perm (Ax.perm (.c .h (.c .h .n)))).A1
 exact⟨_,⟨_,rfl,by assumption,rfl⟩,hS⟩
end Go.Proofs.YtoidpggbbfncpaaGreatDoor

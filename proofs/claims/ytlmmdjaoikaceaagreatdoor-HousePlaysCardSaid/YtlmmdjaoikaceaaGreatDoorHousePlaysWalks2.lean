/- What the functions that the law HousePlays reaches compute: walks, part 2. No condition. -/
import Derived.Test.YtlmmdjaoikaceaaGreatDoorCards
import Derived.Test.YtlmmdjaoikaceaaGreatDoorTie
import Derived.Deep.DeepHandedRow
import Derived.Test.YtlmmdjaoikaceaaGreatDoorRows
import Derived.Test.YtlmmdjaoikaceaaGreatDoorHousePlaysEc3
import Derived.Test.YtlmmdjaoikaceaaGreatDoorHousePlaysRa1
import Derived.Test.YtlmmdjaoikaceaaGreatDoorHousePlaysRb1
import Derived.Test.YtlmmdjaoikaceaaGreatDoorHousePlaysRc1
import Derived.Test.YtlmmdjaoikaceaaGreatDoorHousePlaysRd1
import Derived.Test.YtlmmdjaoikaceaaGreatDoorHousePlaysWalks
set_option linter.unusedSimpArgs false
set_option linter.unusedVariables false
set_option maxRecDepth 100000
set_option maxHeartbeats 4000000
namespace Go.Proofs.YtlmmdjaoikaceaaGreatDoor
open Go Go.Ing Go.RowKit Go.ChangeShapes Go.WideShapes Go.ChangeAt
theorem Mj (b:Nat)(T:AA)(g:Hd)(u:AL)(f:Hd)(l:List Int)(hg:g.len=T.out.length)(hb:0≤T.b∧T.b < 6)(hf:f.len=l.length)(hl:l.length≤9)(hi:∀ i∈l,0≤i∧i < 9)(hw:T.w.Cs)(hu:u.length≤1000)(hn:T.out.length≤100000):Fu Tryz.prog 124 #[.pointer (some ⟨b,0,none⟩),Ag u,f.val] [AJ.box b 175 (Ab.enc ⟨T.w,T.b,g⟩),AJ.own g 100 16 (T.out.flatMap Ing.Event.enc),AJ.own f 3 1 (l.flatMap AT)] (fun v B=>∃ g':Hd,v = .tuple #[]∧g'.len=(T.list u l).out.length∧B = [AJ.box b 175 (Ab.enc ⟨(T.list u l).w,(T.list u l).b,g'⟩),AJ.own g' 100 16 ((T.list u l).out.flatMap Ing.Event.enc),AJ.own f 3 1 (l.flatMap AT)]):=by
 intro w hS0
 refine AR _ _ Tryz.func124 J J J (hS0) ?_
 refine W ?_
 refine Af (.t6 1 10 0 2 8 9) ?_
 refine CZ (fun(k:Int) (x:AL)=>0≤k∧k≤(l.length:Int)∧AA.CX T.w u l=AA.CX T.w x (l.drop k.toNat)∧x.length≤1000+k.toNat * 140737488351300) (fun(k:Int) (x:AL)=>((l.length:Int) - k).toNat) (fun(k:Int) (x:AL)=> [(1,Ag x),(10, .int .i64 k)]) (fun(k:Int) (x:AL)=> []) (0) (u) ?_ J J (fun k x hI1=>?_)
 · exact⟨by omega,by omega,by simp,by simp;omega⟩
 obtain⟨hI11,hI12,hI13,hI14⟩:=hI1
 refine W ?_
 refine⟨fun c1 c1p=>?_,fun c1 c1p=>?_⟩
 ·
  have hx:=hi _ (Aa.CT (xs:=l) (i:=k.toNat) (by omega))
  have hnl:=hw.th (l.getD k.toNat 0)
  refine W ?_
  refine⟨fun c2 c2p=>?_,fun c2 c2p=>?_⟩
  ·
   refine W ?_
   refine BC (k+1) _ ?_ ?_ (.t6 1 10 0 2 8 9) (.refl _)
   · exact⟨by omega,by omega,by rw [hI13,AA.Wz hI11 (by omega) c2],by simp only [List.length_append,List.length_cons,List.length_nil];omega⟩
   · omega
  refine W ?_
  refine BC (k+1) _ ?_ ?_ (.t6 1 10 0 2 8 9) (.refl _)
  · exact⟨by omega,by omega,by rw [hI13,AA.Wy hI11 (by omega) c2],by simp only [List.length_append,List.length_cons,List.length_nil];omega⟩
  · omega
 obtain rfl:k=(l.length:Int):=by omega
 rw [show(l.length:Int).toNat=l.length by omega,List.drop_length] at hI13
 refine W ?_
 refine⟨fun c3 c3p=>?_,fun c3 c3p=>?_⟩
 ·
  rw [hf] at c3
  refine W ?_
  refine Cl (.c .h (.c .h .n)) (A8 _ _ _ _ hg hb hn) (fun v1 B hv=>?_)
  obtain⟨y2,rfl,y3,rfl⟩:=hv
  refine W ?_
  intro w1 hS
  have hS:=(hS.perm (AK.perm (.c .h (.c .h (.c .h .n))))).AM
  refine⟨_,⟨?gqTrue,J,?g9lTrue,?g9BTrue⟩,hS⟩
  case g9BTrue=>rw [AA.list,show AA.RH T.w u l=_ from AN c3,hI13];rfl
  case g9lTrue=>(try simp only [AA.BQ] at *);rw [(AA.Jb T u l).2.2];assumption
 rw [hf] at c3
 refine W ?_
 refine Cl (.c .h (.c .h .n)) (A8 _ _ _ _ hg hb hn) (fun v4 B hv=>?_)
 obtain⟨y5,rfl,y6,rfl⟩:=hv
 refine W ?_
 intro w1 hS
 have hS:=(hS.perm (AK.perm (.c .h (.c .h (.c .h .n))))).AM
 refine⟨_,⟨?gqFalse,J,?g9lFalse,?g9BFalse⟩,hS⟩
 case g9BFalse=>rw [AA.list,show AA.RH T.w u l=_ from AB c3,hI13];rfl
 case g9lFalse=>(try simp only [AA.BQ] at *);rw [(AA.Jb T u l).2.2];assumption
theorem HN (b:Nat)(T:AA)(g:Hd)(hg:g.len=T.out.length)(hb:0≤T.b∧T.b < 6)(hw:T.w.Cs)(hn:T.out.length≤90000):Cz Tryz.prog 123 #[.pointer (some ⟨b,0,none⟩)] [AJ.box b 175 (Ab.enc ⟨T.w,T.b,g⟩),AJ.own g 100 16 (T.out.flatMap Ing.Event.enc)] (fun w=>(GV 1 AD.Be w∧1 ∉ BV [AJ.box b 175 (Ab.enc ⟨T.w,T.b,g⟩),AJ.own g 100 16 (T.out.flatMap Ing.Event.enc)])) (fun v B=>∃ g':Hd,v = .tuple #[]∧g'.len=(T.look).out.length∧B = [AJ.box b 175 (Ab.enc ⟨(T.look).w,(T.look).b,g'⟩),AJ.own g' 100 16 ((T.look).out.flatMap Ing.Event.enc)]):=by
 intro w hS0 hH
 obtain⟨gl0,gm0⟩:=hH
 refine AR _ _ Tryz.func123 J J J (hS0) ?_
 refine W ?_
 intro b1
 refine⟨fun c1 c1p=>?_,fun c1 c1p=>?_⟩
 ·
  refine W ?_
  refine Cl (.c (.t .h) (.c (.t .h) .n)) (A8 _ _ _ _ (by assumption) (by first | exact hb | (rw [hXb];exact hb)) (by(try simp only [AA.BQ,AA.BG,(AA.Jb _ _ _).2.2] at *);(try dsimp only at *);omega)) (fun v1 B hv=>?_)
  obtain⟨y2,rfl,y3,rfl⟩:=hv
  refine W ?_
  intro w1 hS
  have hS:=(hS.perm (AK.perm (.c .h (.c .h .n)))).AM
  refine⟨_,⟨?gq1,J,?g9l1,?g9B1⟩,hS⟩
  case g9B1=>rw [show T.look=_ from AN c1];rfl
  case g9l1=>rw [show T.look=_ from AN c1];assumption
 have hr:=AD.Va c1
 have hnr:=hw.ro (T.w.AF.at T.b).room
 refine W ?_
 intro b2
 refine Cl (.c (.t (.t .h)) (.c (.t (.t .h)) .n)) (A8 _ _ _ _ (by assumption) (by first | exact hb | (rw [hXb];exact hb)) (by(try simp only [AA.BQ,AA.BG,(AA.Jb _ _ _).2.2] at *);(try dsimp only at *);omega)) (fun v4 B hv=>?_)
 obtain⟨y5,rfl,y6,rfl⟩:=hv
 refine W ?_
 refine Af (.t6 4 45 0 2 3 44) ?_
 refine CZ (fun(k:Int) (x:AL)=>0≤k∧k≤6∧x=AA.Gv (T.w.Ad.at T.me.room) k.toNat) (fun(k:Int) (x:AL)=>(6 - k).toNat) (fun(k:Int) (x:AL)=> [(4,Ag x),(45, .int .i64 k)]) (fun(k:Int) (x:AL)=> []) (0) (_) ?_ J J (fun k x hI1=>?_)
 · exact⟨by omega,by omega,rfl⟩
 obtain⟨hI11,hI12,hI13⟩:=hI1
 refine W ?_
 refine⟨fun c2 c2p=>?_,fun c2 c2p=>?_⟩
 ·
  have hcl:=AD.FB k
  have hwl:=AA.GH (T.w.Ad.at T.me.room) k.toNat
  rw [← hI13] at hwl
  have hst:=AA.L6 (r:=T.w.Ad.at T.me.room) hI11
  refine W ?_
  refine⟨fun c3 c3p=>?_,fun c3 c3p=>?_⟩
  ·
   have cp3:decide ((T.w.Ad.at T.me.room).BH.at k=0)=true:=c3
   rw [AN cp3] at hst
   refine W ?_
   refine BC (k+1) _ ?_ ?_ (.t6 4 45 0 2 3 44) (.refl _)
   · exact⟨by omega,by omega,by rw [hst,← hI13]⟩
   · omega
  have cp3:decide ((T.w.Ad.at T.me.room).BH.at k=0)=false:=c3
  rw [AB cp3] at hst
  refine W ?_
  refine⟨fun c4 c4p=>?_,fun c4 c4p=>?_⟩
  ·
   have cp4:(T.w.Ad.at T.me.room).shut.at k=true:=c4
   rw [AN cp4] at hst
   refine W ?_
   refine BC (k+1) _ ?_ ?_ (.t6 4 45 0 2 3 44) (.refl _)
   · exact⟨by omega,by omega,by rw [hst,← hI13]⟩
   · omega
  have cp4:(T.w.Ad.at T.me.room).shut.at k=false:=c4
  rw [AB cp4] at hst
  refine W ?_
  refine BC (k+1) _ ?_ ?_ (.t6 4 45 0 2 3 44) (.refl _)
  · exact⟨by omega,by omega,by rw [hst,← hI13]⟩
  · omega
 obtain rfl:k=6:=by omega
 subst hI13
 refine W ?_
 refine Cl (.c .h (.c .h .n)) (A8 _ _ _ _ (by assumption) (by first | exact hb | (rw [hXb];exact hb)) (by(try simp only [AA.BQ,AA.BG,(AA.Jb _ _ _).2.2] at *);(try dsimp only at *);omega)) (fun v7 B hv=>?_)
 obtain⟨y8,rfl,y9,rfl⟩:=hv
 refine W ?_
 refine Cl .n (E0 _ _ _) (fun v10 B hv=>?_)
 obtain⟨y11,rfl,y12,rfl⟩:=hv
 refine W ?_
 refine⟨fun c5 c5p=>?_,fun c5 c5p=>?_⟩
 ·
  rw [y12] at c5
  refine W ?_
  refine Cl (.c (.t .h) (.c (.t .h) (.c .h .n))) (Mj _ T.D6 _ [72,101,114,101,32,105,115] _ (T.w.has 0 T.me.room) (by assumption) hb (by assumption) (AD.F7 _ _ _) (fun i hi=>AD.E4 hi) hw (by decide) (by rw [(AA.OQ T).2.2];omega)) (fun v14 B hv=>?_)
  obtain⟨y15,rfl,y16,rfl⟩:=hv
  refine W ?_
  refine Af (.t2 79 0) ?_
  refine AY (.t .h) ?_
  refine AY (.t .h) ?_
  refine Bo (fun(k:Int) (X:AA) (h:Hd)=>0≤k∧k≤6∧X=T.BU.D5 k.toNat∧h.len=X.out.length) (fun(k:Int) (X:AA) (h:Hd)=>(6 - k).toNat) (fun(k:Int) (X:AA) (h:Hd)=> [(79, .int .i64 k)]) (fun(k:Int) (X:AA) (h:Hd)=> [AJ.box b 175 (Ab.enc ⟨X.w,X.b,h⟩),AJ.own h 100 16 (X.out.flatMap Ing.Event.enc)]) (0) (_) (_) ?_ J J (fun k X h hI2=>?_)
  · exact⟨by omega,by omega,(show T.BU=_ from AN c5).symm,by assumption⟩
  obtain⟨hI21,hI22,hI23,hI24⟩:=hI2
  refine W ?_
  refine⟨fun c6 c6p=>?_,fun c6 c6p=>?_⟩
  ·
   have hnb:=hw.be k
   have hXl:=AA.HJ T.BU k.toNat
   have hBl:=AA.Jc T
   rw [← hI23] at hXl
   have hXw:X.w=T.w:=hXl.1.trans hBl.1
   have hXb:X.b=T.b:=hXl.2.1.trans hBl.2.1
   rw [← hXw] at hnb
   refine W ?_
   refine⟨fun c7 c7p=>?_,fun c7 c7p=>?_⟩
   ·
    have cp7:(!decide (k=T.BU.b) && T.BU.w.EI T.BU.b k)=true:=by rw [hBl.1,hBl.2.1,← hXw,← hXb];exact c7
    refine W ?_
    refine Cl (.c .h (.c .h .n)) (A8 _ _ _ _ (by assumption) (by first | exact hb | (rw [hXb];exact hb)) (by(try simp only [AA.BQ,AA.BG,(AA.Jb _ _ _).2.2] at *);(try dsimp only at *);omega)) (fun v17 B hv=>?_)
    obtain⟨y18,rfl,y19,rfl⟩:=hv
    refine W ?_
    refine Ap (k+1) _ _ ?_ ?_ (.t2 79 0) (.refl _)
    · exact⟨by omega,by omega,by rw [AA.Cv hI21,AN cp7,← hI23,hBl.1,← hXw],by assumption⟩
    · omega
   have cp7:(!decide (k=T.BU.b) && T.BU.w.EI T.BU.b k)=false:=by rw [hBl.1,hBl.2.1,← hXw,← hXb];exact c7
   refine W ?_
   refine Ap (k+1) _ _ ?_ ?_ (.t2 79 0) (.refl _)
   · exact⟨by omega,by omega,by rw [AA.Cv hI21,AB cp7,← hI23],by assumption⟩
   · omega
  obtain rfl:k=6:=by omega
  refine W ?_
  intro w1 hS
  have hS:=(hS.perm (AK.perm (.c .h (.c .h .n)))).AM
  have hq:T.look=X:=(show T.look=_ from AB c1).trans hI23.symm
  refine⟨_,⟨?gqc6,J,?g9lc6,?g9Bc6⟩,hS⟩
  case g9Bc6=>rw [hq]
  case g9lc6=>rw [hq];assumption
 rw [y12] at c5
 refine W ?_
 refine Af (.t2 79 0) ?_
 refine AY (.t (.t .h)) ?_
 refine AY (.t (.t .h)) ?_
 refine Bo (fun(k:Int) (X:AA) (h:Hd)=>0≤k∧k≤6∧X=T.BU.D5 k.toNat∧h.len=X.out.length) (fun(k:Int) (X:AA) (h:Hd)=>(6 - k).toNat) (fun(k:Int) (X:AA) (h:Hd)=> [(79, .int .i64 k)]) (fun(k:Int) (X:AA) (h:Hd)=> [AJ.box b 175 (Ab.enc ⟨X.w,X.b,h⟩),AJ.own h 100 16 (X.out.flatMap Ing.Event.enc)]) (0) (_) (_) ?_ J J (fun k X h hI2=>?_)
 · exact⟨by omega,by omega,(show T.BU=_ from AB c5).symm,by assumption⟩
 obtain⟨hI21,hI22,hI23,hI24⟩:=hI2
 refine W ?_
 refine⟨fun c8 c8p=>?_,fun c8 c8p=>?_⟩
 ·
  have hnb:=hw.be k
  have hXl:=AA.HJ T.BU k.toNat
  have hBl:=AA.Jc T
  rw [← hI23] at hXl
  have hXw:X.w=T.w:=hXl.1.trans hBl.1
  have hXb:X.b=T.b:=hXl.2.1.trans hBl.2.1
  rw [← hXw] at hnb
  refine W ?_
  refine⟨fun c9 c9p=>?_,fun c9 c9p=>?_⟩
  ·
   have cp7:(!decide (k=T.BU.b) && T.BU.w.EI T.BU.b k)=true:=by rw [hBl.1,hBl.2.1,← hXw,← hXb];exact c9
   refine W ?_
   refine Cl (.c .h (.c .h .n)) (A8 _ _ _ _ (by assumption) (by first | exact hb | (rw [hXb];exact hb)) (by(try simp only [AA.BQ,AA.BG,(AA.Jb _ _ _).2.2] at *);(try dsimp only at *);omega)) (fun v20 B hv=>?_)
   obtain⟨y21,rfl,y22,rfl⟩:=hv
   refine W ?_
   refine Ap (k+1) _ _ ?_ ?_ (.t2 79 0) (.refl _)
   · exact⟨by omega,by omega,by rw [AA.Cv hI21,AN cp7,← hI23,hBl.1,← hXw],by assumption⟩
   · omega
  have cp7:(!decide (k=T.BU.b) && T.BU.w.EI T.BU.b k)=false:=by rw [hBl.1,hBl.2.1,← hXw,← hXb];exact c9
  refine W ?_
  refine Ap (k+1) _ _ ?_ ?_ (.t2 79 0) (.refl _)
  · exact⟨by omega,by omega,by rw [AA.Cv hI21,AB cp7,← hI23],by assumption⟩
  · omega
 obtain rfl:k=6:=by omega
 refine W ?_
 intro w1 hS
 have hS:=(hS.perm (AK.perm (.c .h (.c .h .n)))).AM
 have hq:T.look=X:=(show T.look=_ from AB c1).trans hI23.symm
 refine⟨_,⟨?gqc8,J,?g9lc8,?g9Bc8⟩,hS⟩
 case g9Bc8=>rw [hq]
 case g9lc8=>rw [hq];assumption
theorem NS (X:AD)(s:AL)(hw:X.Cs)(hs:s.length≤140737488351232):Cz Tryz.prog 142 #[.agg X.enc.toArray,Ag s] [] (fun w=>(GV 1 AD.Be w∧1 ∉ BV [])) (fun v B=>∃ h:Hd,v = .tuple #[.agg ((AA.Ao X s).1.enc).toArray, .int .i64 (AA.Ao X s).2.1,h.val, .int .i64 (AA.Ao X s).2.2.2]∧h.len=(AA.Ao X s).2.2.1.length∧B = [AJ.own h 100 16 ((AA.Ao X s).2.2.1.flatMap Ing.Event.enc)]):=by
 intro w hS0 hH
 obtain⟨gl0,gm0⟩:=hH
 refine AR _ _ Tryz.func142 J J J (hS0) ?_
 refine W ?_
 intro b1 b2
 refine⟨fun c1 c1p=>?_,fun c1 c1p=>?_⟩
 ·
  refine W ?_
  intro w1 hS
  have hS:=hS.BT 100 16
  have hS:=(hS.perm (AK.perm (.c .h .n))).AM
  have hq:AA.Ao X s=_:=AN c1
  refine⟨_,⟨⟨none,0,0⟩,?g9v,?g9l,?g9B⟩,hS⟩
  case g9v=>rw [hq];rfl
  case g9l=>rw [hq];rfl
  case g9B=>rw [hq];rfl
 refine W ?_
 refine⟨fun c2 c2p=>?_,fun c2 c2p=>?_⟩
 ·
  refine W ?_
  intro w1 hS
  have hS:=hS.BT 100 16
  have hS:=(hS.perm (AK.perm (.c .h .n))).AM
  have hq:AA.Ao X s=_:=(AB c1).trans (AN c2)
  refine⟨_,⟨⟨none,0,0⟩,?g9v,?g9l,?g9B⟩,hS⟩
  case g9v=>rw [hq];rfl
  case g9l=>rw [hq];rfl
  case g9B=>rw [hq];rfl
 refine W ?_
 refine Af (.t5 22 1 2 4 21) ?_
 refine A7 (fun(k:Int)=>0≤k∧k≤6∧A4 6 (fun k=>!AA.IM X s k) 6=A4 6 (fun k=>!AA.IM X s k) (6 - k).toNat) (fun(k:Int)=>(6 - k).toNat) (fun(k:Int)=> [(22, .int .i64 k)]) (fun(k:Int)=> []) (0) ?_ J J (fun k hI1=>?_)
 · exact⟨by omega,by omega,rfl⟩
 obtain⟨hI11,hI12,hI13⟩:=hI1
 refine W ?_
 refine⟨fun c3 c3p=>?_,fun c3 c3p=>?_⟩
 ·
  refine W ?_
  intro b3
  refine⟨fun c4 c4p=>?_,fun c4 c4p=>?_⟩
  ·
   refine W ?_
   intro w1 hS
   have hS:=hS.BT 100 16
   have hS:=(hS.perm (AK.perm (.c .h .n))).AM
   have ha:(!A4 6 (fun k=>!AA.IM X s k) 6)=true:=by rw [hI13,Bh (fun k=>!AA.IM X s k) (show k < 6 by omega),show AA.IM X s k=true from c4];rfl
   have hq:AA.Ao X s=_:=(AB c1).trans ((AB c2).trans (AN ha))
   refine⟨_,⟨⟨none,0,0⟩,?g9v,?g9l,?g9B⟩,hS⟩
   case g9v=>rw [hq];rfl
   case g9l=>rw [hq];rfl
   case g9B=>rw [hq];rfl
  refine W ?_
  refine Aw (k+1) ?_ ?_ (.t5 22 1 2 4 21) (.cons _ (.refl _))
  · exact⟨by omega,by omega,by rw [hI13,Bh (fun k=>!AA.IM X s k) (show k < 6 by omega),show AA.IM X s k=false from c4];rfl⟩
  · omega
 have hno:(!A4 6 (fun k=>!AA.IM X s k) 6)=false:=by rw [hI13,show(6 - k).toNat=0 by omega];rfl
 refine W ?_
 refine Af (.t4 10 1 2 4) ?_
 refine A7 (fun(k:Int)=>2≤k∧k≤6∧AA.Ci X 6=AA.Ci X (5 - (k - 1)).toNat) (fun(k:Int)=>(6 - k).toNat) (fun(k:Int)=> [(10, .int .i64 k)]) (fun(k:Int)=> []) (2) ?_ J J (fun k hI2=>?_)
 · exact⟨by omega,by omega,AA.Xj X⟩
 obtain⟨hI21,hI22,hI23⟩:=hI2
 refine W ?_
 refine⟨fun c5 c5p=>?_,fun c5 c5p=>?_⟩
 ·
  refine W ?_
  refine⟨fun c6 c6p=>?_,fun c6 c6p=>?_⟩
  ·
   have hF:=AA.Q3 (s:=s) (by simpa using c1) hw (by omega) (show 0≤k by omega) (show k < 6 by omega)
   have hb:=hF.b
   refine W ?_
   intro b4
   refine Cn Ing.Event.enc 100 16 ?_
   refine W ?_
   refine Cl (.c (.t .h) (.c .h .n)) (GS _ (⟨X.Bb k (AA.KQ s),k,[]⟩:AA) _ 17 J hb (Nat.zero_le _)) (fun v5 B hv=>?_)
   obtain⟨y6,rfl,y7,rfl⟩:=hv
   refine W ?_
   refine Cm (.c .h (.c .h .n)) (HN _ (AA.kind (⟨X.Bb k (AA.KQ s),k,[]⟩:AA) 17) _ y7 hb hF.br (by decide:(0:Nat)+1≤90000)) (fun v8 B hv=>?_)
   obtain⟨y9,rfl,y10,rfl⟩:=hv
   refine W ?_
   intro w1 hS
   have hS:=(hS.perm (AK.perm (.c (.t .h) .n))).AM
   have hfr:AA.Ci X 6=k:=hI23.trans (AA.Xi hI21 (by omega) c6)
   have hf0:decide (AA.Ci X 6 < 0)=false:=decide_eq_false (by omega)
   have hq:AA.Ao X s=_:=(AB c1).trans ((AB c2).trans ((AB hno).trans (AB hf0)))
   rw [hfr] at hq
   refine⟨_,⟨y9,?g9v,?g9l,?g9B⟩,hS⟩
   case g9v=>rw [hq];(try rfl)
   case g9l=>rw [hq];exact y10
   case g9B=>rw [hq];(try rfl)
  refine W ?_
  refine Aw (k+1) ?_ ?_ (.t4 10 1 2 4) (.refl _)
  · exact⟨by omega,by omega,by rw [hI23,AA.Zr hI21 (by omega) c6,show(5 - (k+1 - 1))=5 - k by omega]⟩
  · omega
 obtain rfl:k=6:=by omega
 refine W ?_
 intro w1 hS
 have hS:=hS.BT 100 16
 have hS:=(hS.perm (AK.perm (.c .h .n))).AM
 have hf0:decide (AA.Ci X 6 < 0)=true:=by rw [hI23];rfl
 have hq:AA.Ao X s=_:=(AB c1).trans ((AB c2).trans ((AB hno).trans (AN hf0)))
 refine⟨_,⟨⟨none,0,0⟩,?g9v,?g9l,?g9B⟩,hS⟩
 case g9v=>rw [hq];rfl
 case g9l=>rw [hq];rfl
 case g9B=>rw [hq];rfl
theorem J0 (z:Int)(w:World):Ch Tryz.prog 155 #[.int .i64 z] w fun v w'=>v = .tuple #[Ag (AD.form z).1,Ag (AD.form z).2]∧BF w w':=by
 refine Rb Tryz.func155 ?_
 refine W ?_
 refine⟨fun c1 c1p=>?_,fun c1 c1p=>?_⟩
 ·
  refine W ?_
  rw [show AD.form z=_ from(AN c1)];rfl
 refine W ?_
 refine⟨fun c2 c2p=>?_,fun c2 c2p=>?_⟩
 ·
  refine W ?_
  rw [show AD.form z=_ from((AB c1).trans (AN c2))];rfl
 refine W ?_
 refine⟨fun c3 c3p=>?_,fun c3 c3p=>?_⟩
 ·
  refine W ?_
  rw [show AD.form z=_ from((AB c1).trans ((AB c2).trans (AN c3)))];rfl
 refine W ?_
 refine⟨fun c4 c4p=>?_,fun c4 c4p=>?_⟩
 ·
  refine W ?_
  rw [show AD.form z=_ from((AB c1).trans ((AB c2).trans ((AB c3).trans (AN c4))))];rfl
 refine W ?_
 refine⟨fun c5 c5p=>?_,fun c5 c5p=>?_⟩
 ·
  refine W ?_
  rw [show AD.form z=_ from((AB c1).trans ((AB c2).trans ((AB c3).trans ((AB c4).trans (AN c5)))))];rfl
 refine W ?_
 refine⟨fun c6 c6p=>?_,fun c6 c6p=>?_⟩
 ·
  refine W ?_
  rw [show AD.form z=_ from((AB c1).trans ((AB c2).trans ((AB c3).trans ((AB c4).trans ((AB c5).trans (AN c6))))))];rfl
 refine W ?_
 refine⟨fun c7 c7p=>?_,fun c7 c7p=>?_⟩
 ·
  refine W ?_
  rw [show AD.form z=_ from((AB c1).trans ((AB c2).trans ((AB c3).trans ((AB c4).trans ((AB c5).trans ((AB c6).trans (AN c7)))))))];rfl
 refine W ?_
 refine⟨fun c8 c8p=>?_,fun c8 c8p=>?_⟩
 ·
  refine W ?_
  rw [show AD.form z=_ from((AB c1).trans ((AB c2).trans ((AB c3).trans ((AB c4).trans ((AB c5).trans ((AB c6).trans ((AB c7).trans (AN c8))))))))];rfl
 refine W ?_
 refine⟨fun c9 c9p=>?_,fun c9 c9p=>?_⟩
 ·
  refine W ?_
  rw [show AD.form z=_ from((AB c1).trans ((AB c2).trans ((AB c3).trans ((AB c4).trans ((AB c5).trans ((AB c6).trans ((AB c7).trans ((AB c8).trans (AN c9)))))))))];rfl
 refine W ?_
 refine⟨fun c10 c10p=>?_,fun c10 c10p=>?_⟩
 ·
  refine W ?_
  rw [show AD.form z=_ from((AB c1).trans ((AB c2).trans ((AB c3).trans ((AB c4).trans ((AB c5).trans ((AB c6).trans ((AB c7).trans ((AB c8).trans ((AB c9).trans (AN c10))))))))))];rfl
 refine W ?_
 refine⟨fun c11 c11p=>?_,fun c11 c11p=>?_⟩
 ·
  refine W ?_
  rw [show AD.form z=_ from((AB c1).trans ((AB c2).trans ((AB c3).trans ((AB c4).trans ((AB c5).trans ((AB c6).trans ((AB c7).trans ((AB c8).trans ((AB c9).trans ((AB c10).trans (AN c11)))))))))))];rfl
 refine W ?_
 refine⟨fun c12 c12p=>?_,fun c12 c12p=>?_⟩
 ·
  refine W ?_
  rw [show AD.form z=_ from((AB c1).trans ((AB c2).trans ((AB c3).trans ((AB c4).trans ((AB c5).trans ((AB c6).trans ((AB c7).trans ((AB c8).trans ((AB c9).trans ((AB c10).trans ((AB c11).trans (AN c12))))))))))))];rfl
 refine W ?_
 refine⟨fun c13 c13p=>?_,fun c13 c13p=>?_⟩
 ·
  refine W ?_
  rw [show AD.form z=_ from((AB c1).trans ((AB c2).trans ((AB c3).trans ((AB c4).trans ((AB c5).trans ((AB c6).trans ((AB c7).trans ((AB c8).trans ((AB c9).trans ((AB c10).trans ((AB c11).trans ((AB c12).trans (AN c13)))))))))))))];rfl
 refine W ?_
 refine⟨fun c14 c14p=>?_,fun c14 c14p=>?_⟩
 ·
  refine W ?_
  rw [show AD.form z=_ from((AB c1).trans ((AB c2).trans ((AB c3).trans ((AB c4).trans ((AB c5).trans ((AB c6).trans ((AB c7).trans ((AB c8).trans ((AB c9).trans ((AB c10).trans ((AB c11).trans ((AB c12).trans ((AB c13).trans (AN c14))))))))))))))];rfl
 refine W ?_
 refine⟨fun c15 c15p=>?_,fun c15 c15p=>?_⟩
 ·
  refine W ?_
  rw [show AD.form z=_ from((AB c1).trans ((AB c2).trans ((AB c3).trans ((AB c4).trans ((AB c5).trans ((AB c6).trans ((AB c7).trans ((AB c8).trans ((AB c9).trans ((AB c10).trans ((AB c11).trans ((AB c12).trans ((AB c13).trans ((AB c14).trans (AN c15)))))))))))))))];rfl
 refine W ?_
 refine⟨fun c16 c16p=>?_,fun c16 c16p=>?_⟩
 ·
  refine W ?_
  rw [show AD.form z=_ from((AB c1).trans ((AB c2).trans ((AB c3).trans ((AB c4).trans ((AB c5).trans ((AB c6).trans ((AB c7).trans ((AB c8).trans ((AB c9).trans ((AB c10).trans ((AB c11).trans ((AB c12).trans ((AB c13).trans ((AB c14).trans ((AB c15).trans (AN c16))))))))))))))))];rfl
 refine W ?_
 refine⟨fun c17 c17p=>?_,fun c17 c17p=>?_⟩
 ·
  refine W ?_
  rw [show AD.form z=_ from((AB c1).trans ((AB c2).trans ((AB c3).trans ((AB c4).trans ((AB c5).trans ((AB c6).trans ((AB c7).trans ((AB c8).trans ((AB c9).trans ((AB c10).trans ((AB c11).trans ((AB c12).trans ((AB c13).trans ((AB c14).trans ((AB c15).trans ((AB c16).trans (AN c17)))))))))))))))))];rfl
 refine W ?_
 refine⟨fun c18 c18p=>?_,fun c18 c18p=>?_⟩
 ·
  refine W ?_
  rw [show AD.form z=_ from((AB c1).trans ((AB c2).trans ((AB c3).trans ((AB c4).trans ((AB c5).trans ((AB c6).trans ((AB c7).trans ((AB c8).trans ((AB c9).trans ((AB c10).trans ((AB c11).trans ((AB c12).trans ((AB c13).trans ((AB c14).trans ((AB c15).trans ((AB c16).trans ((AB c17).trans (AN c18))))))))))))))))))];rfl
 refine W ?_
 rw [show AD.form z=_ from((AB c1).trans ((AB c2).trans ((AB c3).trans ((AB c4).trans ((AB c5).trans ((AB c6).trans ((AB c7).trans ((AB c8).trans ((AB c9).trans ((AB c10).trans ((AB c11).trans ((AB c12).trans ((AB c13).trans ((AB c14).trans ((AB c15).trans ((AB c16).trans ((AB c17).trans (AB c18))))))))))))))))))];rfl
instance:DI Tryz.prog 155 (type_of% @J0):=⟨@J0⟩
theorem Cf (b:Nat)(p:Option Addr)(h:Hd)(hp:p=none∨p=some ⟨b,0,none⟩):Fu Tryz.prog 119 #[.pointer (some ⟨b,0,none⟩)] [AJ.box b 136 (D1.enc ⟨p,h⟩)] (fun v B=>v = .tuple #[]∧B = [AJ.box b 136 (D1.enc ⟨some ⟨b,0,none⟩,h⟩)]):=by
 intro w hS0
 refine AR _ _ Tryz.func119 J J J (hS0) ?_
 refine W ?_
 refine⟨fun c1 c1p=>?_,fun c1 c1p=>?_⟩
 ·
  obtain rfl:p=none:=by simpa using c1
  refine W ?_
  refine Gt ((let ⟨_,h,h2⟩:=Vr;TJ Tryz.underlying134 Tryz.underlying205 h h2 rfl .m0 (by rw [D1.fl.len];decide))) ?_
  refine Gt (TH Tryz.func157 (by kernel_rfl) (by kernel_rfl) (by kernel_rfl) (by kernel_rfl) J) ?_
  refine Gt ((let ⟨_,h,_⟩:=Vr;QX Tryz.underlying205 Tryz.underlying134 h rfl .m0 (by rw [D1.fl.len];kernel_rfl))) ?_
  refine W ?_
  intro w1 hS
  have hS:=(hS.perm (AK.perm (.c .h .n))).AM
  exact⟨_,⟨J,J⟩,hS⟩
 obtain rfl:p=some ⟨b,0,none⟩:=by rcases hp with h | h;(subst h;simp at c1);exact h
 refine W ?_
 refine Gt ((let ⟨_,h,_⟩:=Vr;Rw Tryz.underlying134 h rfl rfl)) ?_
 refine W ?_
 intro w1 hS
 have hS:=(hS.perm (AK.perm (.c .h .n))).AM
 exact⟨_,⟨J,J⟩,hS⟩
theorem B7 (b:Nat)(p:Option Addr)(h:Hd)(s:AL)(hp:p=none∨p=some ⟨b,0,none⟩)(hz:h.Z)(hl:h.len=s.length)(c:UInt8)(hb:s.length < 140737488355000):Fu Tryz.prog 70 #[.pointer (some ⟨b,0,none⟩), .int .u8 (c.toNat:Int)] [AJ.box b 136 (D1.enc ⟨p,h⟩),AJ.own h 5 1 (s.flatMap CE)] (fun v B=>∃ p' h',v = .nilIface∧(p'=none∨p'=some ⟨b,0,none⟩)∧h'.Z∧h'.len=(s ++ [c]).length∧B = [AJ.box b 136 (D1.enc ⟨p',h'⟩),AJ.own h' 5 1 ((s ++ [c]).flatMap CE)]):=by
 intro w hS0
 refine AR _ _ Tryz.func70 J J J (hS0) ?_
 refine W ?_
 refine Cl (.c .h .n) (Cf _ _ _ (by first | assumption | omega)) (fun v1 B hv=>?_)
 obtain⟨rfl,rfl⟩:=hv
 refine W ?_
 refine M0 J Tryz.underlying122 Qk VD J (by decide) (by decide) J J J (fun b1=>?_)
 refine Oc J Tryz.underlying122 Qk VD J fx (by decide) (by decide) J J (fun w hS=>Src.FG Tryz.underlying122 ((Kn.own .m0) w hS)) (by intro v hv;simp at hv;subst hv;rfl) (by dsimp only;omega) (fun _=>(.t (.t .h))) (fun h2 h2l h2z=>?_)
 have h2z:=h2z hz;dsimp only at h2l
 refine W ?_
 intro w1 hS
 have hS:=(hS.perm (AK.perm (.c (.t .h) (.c (.t .h) .n)))).AM
 exact⟨_,⟨_,_,J, .inr J,by assumption,by simp;omega,by rw [List.flatMap_append];rfl⟩,hS⟩
theorem Av (b:Nat)(p:Option Addr)(h:Hd)(s:AL)(hp:p=none∨p=some ⟨b,0,none⟩)(hz:h.Z)(hl:h.len=s.length)(t:AL)(hb:s.length+t.length < 140737488355000):Fu Tryz.prog 71 #[.pointer (some ⟨b,0,none⟩),Ag t] [AJ.box b 136 (D1.enc ⟨p,h⟩),AJ.own h 5 1 (s.flatMap CE)] (fun v B=>∃ p' h',v = .tuple #[.int .i64 t.length, .nilIface]∧(p'=none∨p'=some ⟨b,0,none⟩)∧h'.Z∧h'.len=(s++t).length∧B = [AJ.box b 136 (D1.enc ⟨p',h'⟩),AJ.own h' 5 1 ((s++t).flatMap CE)]):=by
 intro w hS0
 refine AR _ _ Tryz.func71 J J J (hS0) ?_
 refine W ?_
 refine Cl (.c .h .n) (Cf _ _ _ (by first | assumption | omega)) (fun v1 B hv=>?_)
 obtain⟨rfl,rfl⟩:=hv
 refine W ?_
 intro h2 h2l h2z
 have h2z:=h2z hz;dsimp only at h2l
 refine W ?_
 intro w1 hS
 have hS:=(hS.perm (AK.perm (.c .h (.c .h .n)))).AM
 exact⟨_,⟨_,_,J, .inr J,by assumption,by simp;omega,by rw [List.flatMap_append]⟩,hS⟩
def Sb:Go.Shelf.Ren:=⟨fun | 171=>102 | 243=>141 | 246=>175 | 283=>199 | 284=>200 | 285=>201 | 286=>202 | 129=>218 | 317=>217 | 318=>219 | 319=>220 | 320=>221 | 337=>231 | 338=>232 | n=>n,fun | 3=>3 | 9=>9 | 2=>2 | 4=>4 | 171=>225 | 0=>0 | 53=>226 | 37=>122 | 5=>5 | 173=>229 | 212=>235 | 51=>236 | 20=>20 | 213=>237 | 46=>184 | 232=>255 | 233=>256 | n=>n,fun | 17=>3 | 18=>6 | 19=>7 | n=>n⟩
theorem Zz:LaysM.n171 Tryz.prog Sb where
  mixed:=by kernel_rfl
  f129:=Tryz.func218.trans (congrArg some (by kernel_rfl))
  f171:=Tryz.func102.trans (congrArg some (by kernel_rfl))
  f243:=Tryz.func141.trans (congrArg some (by kernel_rfl))
  f246:=Tryz.func175.trans (congrArg some (by kernel_rfl))
  f283:=Tryz.func199.trans (congrArg some (by kernel_rfl))
  f284:=Tryz.func200.trans (congrArg some (by kernel_rfl))
  f285:=Tryz.func201.trans (congrArg some (by kernel_rfl))
  f286:=Tryz.func202.trans (congrArg some (by kernel_rfl))
  f317:=Tryz.func217.trans (congrArg some (by kernel_rfl))
  f318:=Tryz.func219.trans (congrArg some (by kernel_rfl))
  f319:=Tryz.func220.trans (congrArg some (by kernel_rfl))
  f320:=Tryz.func221.trans (congrArg some (by kernel_rfl))
  f337:=Tryz.func231.trans (congrArg some (by kernel_rfl))
  f338:=Tryz.func232.trans (congrArg some (by kernel_rfl))
  t0:=Tryz.underlying0
  a0:=Tryz.isAgg0
  z0:=Tryz.sizeOf0
  v0:=Tryz.zeroValue0
  t2:=Tryz.underlying2
  a2:=Tryz.isAgg2
  z2:=Tryz.sizeOf2
  v2:=Tryz.zeroValue2
  t3:=Tryz.underlying3
  a3:=Tryz.isAgg3
  z3:=Tryz.sizeOf3
  v3:=Tryz.zeroValue3
  t4:=Tryz.underlying4
  a4:=Tryz.isAgg4
  z4:=Tryz.sizeOf4
  v4:=Tryz.zeroValue4
  t5:=Tryz.underlying5
  a5:=Tryz.isAgg5
  z5:=Tryz.sizeOf5
  v5:=Tryz.zeroValue5
  t9:=Tryz.underlying9
  a9:=Tryz.isAgg9
  z9:=Tryz.sizeOf9
  v9:=Tryz.zeroValue9
  t20:=Tryz.underlying20
  a20:=Tryz.isAgg20
  z20:=Tryz.sizeOf20
  v20:=Tryz.zeroValue20
  t37:=Tryz.underlying122
  a37:=Tryz.isAgg122
  z37:=Tryz.sizeOf122
  v37:=Tryz.zeroValue122
  t46:=Tryz.underlying184
  a46:=Tryz.isAgg184
  z46:=Tryz.sizeOf184
  v46:=Tryz.zeroValue184
  t51:=Tryz.underlying236
  a51:=Tryz.isAgg236
  z51:=Tryz.sizeOf236
  v51:=Tryz.zeroValue236
  t53:=Tryz.underlying226
  a53:=Tryz.isAgg226
  z53:=Tryz.sizeOf226
  v53:=Tryz.zeroValue226
  t171:=Tryz.underlying225
  a171:=Tryz.isAgg225
  z171:=Tryz.sizeOf225
  v171:=Tryz.zeroValue225
  t173:=Tryz.underlying229
  a173:=Tryz.isAgg229
  z173:=Tryz.sizeOf229
  v173:=Tryz.zeroValue229
  t212:=Tryz.underlying235
  a212:=Tryz.isAgg235
  z212:=Tryz.sizeOf235
  v212:=Tryz.zeroValue235
  t213:=Tryz.underlying237
  a213:=Tryz.isAgg237
  z213:=Tryz.sizeOf237
  t232:=Tryz.underlying255
  a232:=Tryz.isAgg255
  z232:=Tryz.sizeOf255
  v232:=Tryz.zeroValue255
  t233:=Tryz.underlying256
  a233:=Tryz.isAgg256
  z233:=Tryz.sizeOf256
  v233:=Tryz.zeroValue256
  g17:=by kernel_rfl
  g18:=by kernel_rfl
  g19:=by kernel_rfl
  i0:=by kernel_rfl
  i2:=by kernel_rfl
  i3:=by kernel_rfl
  i4:=by kernel_rfl
  i5:=by kernel_rfl
  i9:=by kernel_rfl
  i20:=by kernel_rfl
  i37:=by kernel_rfl
  i46:=by kernel_rfl
  i51:=by kernel_rfl
  i53:=by kernel_rfl
  i171:=by kernel_rfl
  i173:=by kernel_rfl
  i212:=by kernel_rfl
  i232:=by kernel_rfl
  i233:=by kernel_rfl
  m17:=by kernel_rfl
  m18:=by kernel_rfl
  m19:=by kernel_rfl
theorem Fj (n:Int)(h0:-9223372036854775808≤n)(hy:n≤9223372036854775807)(w:World)(gl0:GV 3 EH w):Ch Tryz.prog 102 #[.int .i64 n] w fun v w'=>v=Ag (Lib.itoa n)∧BF w w':=
  Ch.dL (Any.strconv_Itoa Zz n h0 hy w (Vl (by kernel_rfl) gl0))
theorem CP (b:Nat)(p:Option Addr)(h:Hd)(s:AL)(hz:h.Z)(hl:h.len=s.length)(hb:s.length < 140737488355000):Fu Tryz.prog 75 #[.pointer (some ⟨b,0,none⟩)] [AJ.box b 136 (D1.enc ⟨p,h⟩),AJ.own h 5 1 (s.flatMap CE)] (fun v B=>v=Ag s∧B = [AJ.box b 136 (D1.enc ⟨p,h⟩)]):=by
 intro w hS0
 refine AR _ _ Tryz.func75 J J J (hS0) ?_
 refine W ?_
 refine N1 J Tryz.underlying185 lC J J (by assumption) (by omega) (.t .h) ?_
 refine W ?_
 intro w1 hS
 have hS:=(hS.perm (AK.perm (.c .h .n))).AM
 exact⟨_,⟨J,J⟩,hS⟩
theorem G7 (e:Ing.Event)(b:Int)(hs:(decide (b < 0) || decide (6≤b) || decide (AD.MF (e.Gz.at b) 1=0))=false→AD.Small e)(w:World)(gl0:GV 3 EH w)(gl1:GV 1 AD.Be w):Ch Tryz.prog 116 #[.agg e.enc.toArray, .int .i64 b] w fun v w'=>v = .tuple #[Ag (AD.tell e b).1, .bool (AD.tell e b).2]∧BF w w':=by
 refine Rb Tryz.func116 ?_
 refine W ?_
 intro b1
 refine kq 21 J J (fun q=>Kl (cF J q) J (show _=AD.MF _ _ from rfl)) ?_
 refine W ?_
 refine⟨fun c1 c1p=>?_,fun c1 c1p=>?_⟩
 ·
  refine W ?_
  rw [show AD.tell e b=_ from AN c1];rfl
 have hs:=hs c1
 have hr:0≤b∧b < 6:=by simp at c1;omega
 have htl:=AD.QD e b
 have h1l:=AD.Rj hs b
 have h2l:=AD.L7 hs b
 have h3l:=hs.AQ
 have h4l:=hs.text
 have h5l:=AD.FB e.dir
 have h6l:=Lib.itoa_length_le e.n hs.n0 hs.n1
 refine Wv ?_
 refine eT (Ag) (s:=(AD.Dj e b)) J J J J J J J ?_
 refine W ?_
 refine⟨fun c2 c2p=>?_,fun c2 c2p=>?_⟩
 ·
  refine W ?_
  rw [show AD.tell e b=_ from(AB c1).trans (AN c2)];rfl
 refine W ?_
 refine Gt (Kl J J (show _=AD.MF _ _ from rfl)) ?_
 refine Wv ?_
 refine F2 (Ag) (s:=(AD.Ay e b)) J J J J J ?_
 refine W ?_
 refine Gt (Kl J J (show _=AD.MF _ _ from rfl)) ?_
 refine Wv ?_
 refine F2 (Ag) (s:=AD.VB e b) J J J J J ?_
 refine Wv ?_
 refine F2 (Ag) (s:=(AD.Ah e b)) J J J J J ?_
 refine W ?_
 intro b2
 refine Af (.t7 65 2 8 9 10 11 64) ?_
 refine AY (.t .h) ?_
 refine AY (.t .h) ?_
 refine D2 (fun(k:Int) (x:AL) (p:Option Addr) (h:Hd)=>0≤k∧k≤((AD.Dj e b).length:Int)∧x=AD.told e (AD.Ay e b) (AD.Ah e b) (AD.Dj e b) k.toNat∧(p=none∨p=some ⟨b2,0,none⟩)∧h.Z∧h.len=x.length) (fun(k:Int) (x:AL) (p:Option Addr) (h:Hd)=>(((AD.Dj e b).length:Int) - k).toNat) (fun(k:Int) (x:AL) (p:Option Addr) (h:Hd)=> [(65, .int .i64 k)]) (fun(k:Int) (x:AL) (p:Option Addr) (h:Hd)=> [AJ.own h 5 1 (x.flatMap CE),AJ.box b2 136 (D1.enc ⟨p,h⟩)]) (0) ([]) (none) (⟨none,0,0⟩) ?_ J J (fun k x p h hI1=>?_)
 · exact⟨by omega,by omega,rfl, .inl rfl,Hd.We,rfl⟩
 obtain⟨hI11,hI12,hI13,hp,hz,hl⟩:=hI1;have hxl:=AD.QH hs h1l h2l (AD.Dj e b) k.toNat;rw [← hI13] at hxl;have hxm:k.toNat * 2000000≤60000000:=by omega
 refine W ?_
 refine⟨fun c3 c3p=>?_,fun c3 c3p=>?_⟩
 ·
  refine W ?_
  refine⟨fun c4 c4p=>?_,fun c4 c4p=>?_⟩
  ·
   refine W ?_
   refine Cl (.c (.t .h) (.c .h .n)) (B7 _ _ _ _ (by assumption) (by assumption) (by assumption) _ (by omega)) (fun v1 B hv=>?_)
   obtain⟨y2,y3,rfl,y4,y5,y6,rfl⟩:=hv
   refine W ?_
   refine Ar (.c (.t .h) (.c .h (.c .h .n))) ?_
   refine Az ?_
   refine BR (k+1) _ _ _ ?_ ?_ (.t7 65 2 8 9 10 11 64) (.refl _)
   · exact⟨by omega,by omega,by rw [AD.FQ hI11,← hI13,show AD.piece e (AD.Ay e b) (AD.Ah e b) (AD.Dj e b) k=_ from(AN c4)],by assumption,by assumption,by assumption⟩
   · omega
  refine W ?_
  refine⟨fun c5 c5p=>?_,fun c5 c5p=>?_⟩
  ·
   refine W ?_
   refine Cl (.c (.t .h) (.c .h .n)) (Av _ _ _ _ (by assumption) (by assumption) (by assumption) _ (by omega)) (fun v7 B hv=>?_)
   obtain⟨y8,y9,rfl,y10,y11,y12,rfl⟩:=hv
   refine W ?_
   refine Ar (.c (.t .h) (.c .h (.c .h .n))) ?_
   refine Az ?_
   refine BR (k+1) _ _ _ ?_ ?_ (.t7 65 2 8 9 10 11 64) (.refl _)
   · exact⟨by omega,by omega,by rw [AD.FQ hI11,← hI13,show AD.piece e (AD.Ay e b) (AD.Ah e b) (AD.Dj e b) k=_ from((AB c4).trans (AN c5))],by assumption,by assumption,by assumption⟩
   · omega
  refine W ?_
  refine⟨fun c6 c6p=>?_,fun c6 c6p=>?_⟩
  ·
   refine W ?_
   refine Cl (.c (.t .h) (.c .h .n)) (Av _ _ _ _ (by assumption) (by assumption) (by assumption) _ (by omega)) (fun v13 B hv=>?_)
   obtain⟨y14,y15,rfl,y16,y17,y18,rfl⟩:=hv
   refine W ?_
   refine Ar (.c (.t .h) (.c .h (.c .h .n))) ?_
   refine Az ?_
   refine BR (k+1) _ _ _ ?_ ?_ (.t7 65 2 8 9 10 11 64) (.refl _)
   · exact⟨by omega,by omega,by rw [AD.FQ hI11,← hI13,show AD.piece e (AD.Ay e b) (AD.Ah e b) (AD.Dj e b) k=_ from((AB c4).trans ((AB c5).trans (AN c6)))],by assumption,by assumption,by assumption⟩
   · omega
  refine W ?_
  refine⟨fun c7 c7p=>?_,fun c7 c7p=>?_⟩
  ·
   refine W ?_
   refine Cl (.c (.t .h) (.c .h .n)) (Av _ _ _ _ (by assumption) (by assumption) (by assumption) _ (by omega)) (fun v19 B hv=>?_)
   obtain⟨y20,y21,rfl,y22,y23,y24,rfl⟩:=hv
   refine W ?_
   refine Ar (.c (.t .h) (.c .h (.c .h .n))) ?_
   refine Az ?_
   refine BR (k+1) _ _ _ ?_ ?_ (.t7 65 2 8 9 10 11 64) (.refl _)
   · exact⟨by omega,by omega,by rw [AD.FQ hI11,← hI13,show AD.piece e (AD.Ay e b) (AD.Ah e b) (AD.Dj e b) k=_ from((AB c4).trans ((AB c5).trans ((AB c6).trans (AN c7))))],by assumption,by assumption,by assumption⟩
   · omega
  refine W ?_
  refine⟨fun c8 c8p=>?_,fun c8 c8p=>?_⟩
  ·
   refine W ?_
   refine Cl (.c (.t .h) (.c .h .n)) (Av _ _ _ _ (by assumption) (by assumption) (by assumption) _ (by omega)) (fun v25 B hv=>?_)
   obtain⟨y26,y27,rfl,y28,y29,y30,rfl⟩:=hv
   refine W ?_
   refine Ar (.c (.t .h) (.c .h (.c .h .n))) ?_
   refine Az ?_
   refine BR (k+1) _ _ _ ?_ ?_ (.t7 65 2 8 9 10 11 64) (.refl _)
   · exact⟨by omega,by omega,by rw [AD.FQ hI11,← hI13,show AD.piece e (AD.Ay e b) (AD.Ah e b) (AD.Dj e b) k=_ from((AB c4).trans ((AB c5).trans ((AB c6).trans ((AB c7).trans (AN c8)))))],by assumption,by assumption,by assumption⟩
   · omega
  refine W ?_
  refine⟨fun c9 c9p=>?_,fun c9 c9p=>?_⟩
  ·
   refine W ?_
   refine Cl (.c (.t .h) (.c .h .n)) (Av _ _ _ _ (by assumption) (by assumption) (by assumption) _ (by omega)) (fun v31 B hv=>?_)
   obtain⟨y32,y33,rfl,y34,y35,y36,rfl⟩:=hv
   refine W ?_
   refine Ar (.c (.t .h) (.c .h (.c .h .n))) ?_
   refine Az ?_
   refine BR (k+1) _ _ _ ?_ ?_ (.t7 65 2 8 9 10 11 64) (.refl _)
   · exact⟨by omega,by omega,by rw [AD.FQ hI11,← hI13,show AD.piece e (AD.Ay e b) (AD.Ah e b) (AD.Dj e b) k=_ from((AB c4).trans ((AB c5).trans ((AB c6).trans ((AB c7).trans ((AB c8).trans (AN c9))))))],by assumption,by assumption,by assumption⟩
   · omega
  refine W ?_
  refine⟨fun c10 c10p=>?_,fun c10 c10p=>?_⟩
  ·
   refine W ?_
   refine Cp (fun w hS=>Fj _ hs.n0 hs.n1 w (gl0.st hS)) ?_
   refine W ?_
   refine Cl (.c (.t .h) (.c .h .n)) (Av _ _ _ _ (by assumption) (by assumption) (by assumption) _ (by omega)) (fun v37 B hv=>?_)
   obtain⟨y38,y39,rfl,y40,y41,y42,rfl⟩:=hv
   refine W ?_
   refine Ar (.c (.t .h) (.c .h (.c .h .n))) ?_
   refine Az ?_
   refine BR (k+1) _ _ _ ?_ ?_ (.t7 65 2 8 9 10 11 64) (.refl _)
   · exact⟨by omega,by omega,by rw [AD.FQ hI11,← hI13,show AD.piece e (AD.Ay e b) (AD.Ah e b) (AD.Dj e b) k=_ from((AB c4).trans ((AB c5).trans ((AB c6).trans ((AB c7).trans ((AB c8).trans ((AB c9).trans (AN c10)))))))],by assumption,by assumption,by assumption⟩
   · omega
  refine W ?_
  refine Cl (.c (.t .h) (.c .h .n)) (B7 _ _ _ _ (by assumption) (by assumption) (by assumption) _ (by omega)) (fun v43 B hv=>?_)
  obtain⟨y44,y45,rfl,y46,y47,y48,rfl⟩:=hv
  refine W ?_
  refine Ar (.c (.t .h) (.c .h (.c .h .n))) ?_
  refine Az ?_
  refine BR (k+1) _ _ _ ?_ ?_ (.t7 65 2 8 9 10 11 64) (.refl _)
  · exact⟨by omega,by omega,by rw [AD.FQ hI11,← hI13,show AD.piece e (AD.Ay e b) (AD.Ah e b) (AD.Dj e b) k=_ from((AB c4).trans ((AB c5).trans ((AB c6).trans ((AB c7).trans ((AB c8).trans ((AB c9).trans (AB c10)))))))],by assumption,by assumption,by assumption⟩
  · omega
 obtain rfl:k=((AD.Dj e b).length:Int):=by omega
 refine W ?_
 refine Cl (.c (.t .h) (.c .h .n)) (CP _ _ _ _ (by assumption) (by assumption) (by omega)) (fun v49 B hv=>?_)
 obtain⟨rfl,rfl⟩:=hv
 refine W ?_
 rw [show AD.tell e b=_ from(AB c1).trans (AB c2),hI13];rfl
instance:DI Tryz.prog 116 (type_of% @G7):=⟨@G7⟩
theorem Js (p:A9)(w:World):Ch Tryz.prog 76 #[.agg p.enc.toArray] w fun v w'=>v = .bool (Page.A5 p)∧BF w w':=by
 refine Rb Tryz.func76 ?_
 refine W ?_
 intro b1
 refine congrArg Value.bool ?_;rfl
instance:DI Tryz.prog 76 (type_of% @Js):=⟨@Js⟩
theorem OA {t0:Nat}(p:A9)(qs:List AL)(s:AL):Cz Tryz.prog 80 #[.agg p.enc.toArray,Ag s] [] (fun w=>Rd w p.wait t0 1 (qs.flatMap AX)) (fun v B=>(Page.A5 p=false∧v = .tuple #[.agg p.enc.toArray, .int .i64 2]∧B = [])∨(Page.A5 p=true∧p.cut=true∧v = .tuple #[.agg p.enc.toArray, .int .i64 6]∧B = [])∨(Page.A5 p=true∧p.cut=false∧60≤qs.length∧v = .tuple #[.agg (A9.enc ⟨p.wait,p.shown,p.BL,p.ring,true⟩).toArray, .int .i64 0]∧B = [])∨(Page.A5 p=true∧p.cut=false∧qs.length < 60∧∃ h':Hd,v = .tuple #[.agg (A9.enc ⟨h',p.shown,p.BL,p.ring,p.cut⟩).toArray, .int .i64 0]∧h'.len=qs.length+1∧B = [AJ.own h' 9 1 ((qs ++ [s]).flatMap AX)])):=by
 intro w hS0 hH
 have r0:=hH
 have hl:=r0.Gh Cr (by decide)
 refine AR _ _ Tryz.func80 J J J (hS0) ?_
 refine W ?_
 intro b1 b2
 refine⟨fun c1 c1p=>?_,fun c1 c1p=>?_⟩
 ·
  refine W ?_
  intro w1 hS
  have hS:=(hS.perm (AK.perm .n)).AM
  exact⟨_, .inl ⟨by simpa using c1,rfl,rfl⟩,hS⟩
 have hgd:Page.A5 p=true:=by simpa using c1
 have hg:=(Page.EU p).1 hgd
 refine W ?_
 refine⟨fun c2 c2p=>?_,fun c2 c2p=>?_⟩
 ·
  refine W ?_
  intro w1 hS
  have hS:=(hS.perm (AK.perm .n)).AM
  exact⟨_, .inr (.inl ⟨hgd,c2,J,J⟩),hS⟩
 refine W ?_
 refine⟨fun c3 c3p=>?_,fun c3 c3p=>?_⟩
 ·
  refine W ?_
  intro w1 hS
  have hS:=(hS.perm (AK.perm .n)).AM
  exact⟨_, .inr (.inr (.inl ⟨hgd,by simpa using c2,by simp at c3;omega,rfl,rfl⟩)),hS⟩
 refine W ?_
 refine Cm .n (BS _ _ (by first | assumption | omega)) (fun v1 B hv=>?_) (fun _=>(fun w hS=>(Kn.Il r0) w hS))
 obtain⟨y2,rfl,y3,rfl⟩:=hv
 refine W ?_
 intro b3 h5 h5l h5z
 intro w1 hS
 have hS:=(hS.perm (AK.perm (.c (.t .h) .n))).AM
 exact⟨_, .inr (.inr (.inr ⟨hgd,by simpa using c2,by simp at c3;omega,_,rfl,by(try dsimp only at *);(try simp only [List.length_cons,List.length_nil] at *);omega,rfl⟩)),hS⟩
theorem Eg (b:Nat)(V:AE)(ls:Vector Ae 4)(ev:List Ing.Event)(k:Int)(u:AL)(hk:0≤k∧k < 4)(ht:(ls.at k).told.length≤1000000):Fu Tryz.prog 39 #[.pointer (some ⟨b,0,none⟩), .pointer (some ⟨b,165+k.toNat * 22,none⟩),Ag u] [AJ.box b 95 (AE.enc V),AJ.CI (BB 9 (AE.AP V) ls),AJ.own (AE.last V) 100 16 ((ev).flatMap Ing.Event.enc)] (fun v B=>∃ V' ls' ev',v = .tuple #[]∧AO V' ls' ev'=AG.tell (AO V ls ev) k u∧B = [AJ.box b 95 (AE.enc V'),AJ.CI (BB 9 (AE.AP V') ls'),AJ.own (AE.last V') 100 16 ((ev').flatMap Ing.Event.enc)]):=by
 intro w hS0
 refine AR _ _ Tryz.func39 J J J (hS0) ?_
 refine Ws 100002 ?_
 refine Cj (k:=k) hk.1 hk.2 (fun sv sl hsv hlv hln=>?_)
 refine AY (.t (.t (.t .h))) ?_
 refine AY (.t (.t .h)) ?_
 refine OF (Lm:= [_,_]) (fun(o:A9) (w0:Hd) (ws:List AL)=>Bz { sv with out:=o } ⟨sl.queue,ws,sl.told⟩=(Bz sv sl).line u∧o.wait=w0) (fun(o:A9) (w0:Hd) (ws:List AL)=> []) (fun(o:A9) (w0:Hd) (ws:List AL)=> [AJ.own w0 9 1 (ws.flatMap AX),AJ.box b 95 (Fw V k { sv with out:=o })]) (.t2 1 2) J ?_ (fun o w0 ws hC=>?_)
 ·
  refine W ?_
  refine Cm .n (OA _ _ _) (fun v1 B hv=>?_) (fun _=>(fun w hS=>(Kn.own .m0) w hS))
  rcases hv with ⟨y2,rfl,rfl⟩ | ⟨y3,y4,rfl,rfl⟩ | ⟨y5,y6,y7,rfl,rfl⟩ | ⟨y8,y9,y10,y11,rfl,y12,rfl⟩
  ·
   refine W ?_
   refine E3 _ _ _ ?_ (.t2 1 2) (.refl _)
   · exact⟨(UK hln.2.1 y2).symm,J⟩
  ·
   refine W ?_
   refine E3 _ _ _ ?_ (.t2 1 2) (.refl _)
   · exact⟨(UL hln.2.1 y3 y4).symm,J⟩
  ·
   refine W ?_
   refine E3 _ _ _ ?_ (.t2 1 2) (.refl _)
   · exact⟨(RD hln.2.1 y5 y6 y7).symm,J⟩
  refine W ?_
  refine Ar (.c .h (.c (.t .h) (.c (.t .h) (.c (.t .h) (.c (.t .h) (.c (.t .h) .n)))))) ?_
  refine Az ?_
  refine E3 _ _ _ ?_ (.t2 1 2) (.refl _)
  · exact⟨(RE hln.2.1 y8 y9 y10 _).symm,J⟩
 obtain⟨hE1,hE2⟩:=hC
 have ht2:sl.told.length≤1000000:=by rw [← hlv];exact ht
 refine W ?_
 refine⟨fun c1 c1p=>?_,fun c1 c1p=>?_⟩
 ·
  refine W ?_
  intro b1 h14 h14l h14z
  intro w1 hS
  have hS:=(hS.perm (AK.perm (.c (.t (.t (.t .h))) (.c (.t .h) (.c (.t (.t .h)) (.c (.t .h) (.c (.t .h) (.c (.t .h) .n)))))))).AM
  have hS:=hS.close' hk.1 hk.2 (by rfl) (by exact hE2) (by rfl)
  refine⟨_,⟨V.AZ k _,ls.put k ⟨_,_,_⟩,ev,J,?ga1,J⟩,hS⟩
  case ga1=>exact B4 hk.1 hk.2 hsv hlv (f:=fun x=>x.tell u) (by show _=((Bz sv sl).line u).note u;rw [← hE1];exact(aI (l:=⟨sl.queue,ws,sl.told⟩) c1 _).symm)
 refine W ?_
 intro w1 hS
 have hS:=(hS.perm (AK.perm (.c (.t (.t .h)) (.c .h (.c (.t .h) (.c .h (.c .h (.c .h .n)))))))).AM
 have hS:=hS.close' hk.1 hk.2 (by rfl) (by exact hE2) (by rfl)
 refine⟨_,⟨V.AZ k _,ls.put k ⟨_,_,_⟩,ev,J,?ga2,J⟩,hS⟩
 case ga2=>exact B4 hk.1 hk.2 hsv hlv (f:=fun x=>x.tell u) (by show _=((Bz sv sl).line u).note u;rw [← hE1];exact(aH (l:=⟨sl.queue,ws,sl.told⟩) c1).symm)
theorem Ef (b:Nat)(V:AE)(ls:Vector Ae 4)(ev:List Ing.Event)(f:Hd)(es:List Ing.Event)(n:Nat)(hf:f.len=es.length)(hn:TO ls n)(hm:n+es.length≤1000000)(hl:ev.length≤1000000)(he:(∀ e∈es,∀ c:Int,(decide (c < 0) || decide (6≤c) || decide (AD.MF (e.Gz.at c) 1=0))=false→AD.Small e)):Cz Tryz.prog 66 #[.pointer (some ⟨b,0,none⟩),f.val] [AJ.box b 95 (AE.enc V),AJ.CI (BB 9 (AE.AP V) ls),AJ.own (AE.last V) 100 16 ((ev).flatMap Ing.Event.enc),AJ.own f 100 16 (es.flatMap Ing.Event.enc)] (fun w=>(GV 3 EH w∧3 ∉ BV [AJ.box b 95 (AE.enc V),AJ.CI (BB 9 (AE.AP V) ls),AJ.own (AE.last V) 100 16 ((ev).flatMap Ing.Event.enc),AJ.own f 100 16 (es.flatMap Ing.Event.enc)])∧(GV 1 AD.Be w∧1 ∉ BV [AJ.box b 95 (AE.enc V),AJ.CI (BB 9 (AE.AP V) ls),AJ.own (AE.last V) 100 16 ((ev).flatMap Ing.Event.enc),AJ.own f 100 16 (es.flatMap Ing.Event.enc)])) (fun v B=>∃ V' ls' ev',v = .tuple #[]∧AO V' ls' ev'=AG.Ft (AO V ls ev) es∧B = [AJ.box b 95 (AE.enc V'),AJ.CI (BB 9 (AE.AP V') ls'),AJ.own (AE.last V') 100 16 ((ev').flatMap Ing.Event.enc),AJ.own f 100 16 (es.flatMap Ing.Event.enc)]):=by
 intro w hS0 hH
 obtain⟨⟨gl0,gm0⟩,⟨gl1,gm1⟩⟩:=hH
 refine AR _ _ Tryz.func66 J J J (hS0) ?_
 refine Ws 0 ?_
 refine VG (fun w hS=>(Kn.own .m2 w hS).Gh Ing.Event.fl (by decide)) (fun hLl=>?_)
 refine W ?_
 intro h1 h1l h1z
 refine Af (.t4 21 0 19 20) ?_
 refine AY (.t (.t .h)) ?_
 refine AY (.t (.t .h)) ?_
 refine AY (.t (.t .h)) ?_
 refine D2 (fun(k:Int) (V1:AE) (ls1:Vector Ae 4) (ev1:List Ing.Event)=>0≤k∧k≤(es.length:Int)∧AO V1 ls1 ev1=({ (AO V ls ev) with last:=ev++es }:AG).Ix (es.take k.toNat)∧TO ls1 (n+k.toNat)) (fun(k:Int) (V1:AE) (ls1:Vector Ae 4) (ev1:List Ing.Event)=>((es.length:Int) - k).toNat) (fun(k:Int) (V1:AE) (ls1:Vector Ae 4) (ev1:List Ing.Event)=> [(21, .int .i64 k)]) (fun(k:Int) (V1:AE) (ls1:Vector Ae 4) (ev1:List Ing.Event)=> [AJ.box b 95 (AE.enc V1),AJ.CI (BB 9 (AE.AP V1) ls1),AJ.own (AE.last V1) 100 16 (ev1.flatMap Ing.Event.enc)]) (0) (_) (_) (_) ?_ J J (fun k V1 ls1 ev1 hI1=>?_)
 · exact⟨by omega,by omega,rfl,hn⟩
 obtain⟨hI11,hI12,hI13,hI14⟩:=hI1
 refine W ?_
 refine⟨fun c1 c1p=>?_,fun c1 c1p=>?_⟩
 ·
  refine W ?_
  intro b1
  refine Af (.t6 25 0 5 19 20 21) ?_
  refine AY (.t (.t (.t .h))) ?_
  refine AY (.t (.t (.t .h))) ?_
  refine AY (.t (.t (.t .h))) ?_
  refine D2 (fun(i:Int) (V2:AE) (ls2:Vector Ae 4) (ev2:List Ing.Event)=>0≤i∧i≤4∧AO V2 ls2 ev2=AG.CB (es.getD k.toNat default) (AO V1 ls1 ev1) i.toNat∧(∀ j:Int,i≤j→j < 4→(ls2.at j).told.length≤n+k.toNat)∧(∀ j:Int,0≤j→j < 4→(ls2.at j).told.length≤n+k.toNat+1)) (fun(i:Int) (V2:AE) (ls2:Vector Ae 4) (ev2:List Ing.Event)=>(4 - i).toNat) (fun(i:Int) (V2:AE) (ls2:Vector Ae 4) (ev2:List Ing.Event)=> [(25, .int .i64 i)]) (fun(i:Int) (V2:AE) (ls2:Vector Ae 4) (ev2:List Ing.Event)=> [AJ.box b 95 (AE.enc V2),AJ.CI (BB 9 (AE.AP V2) ls2),AJ.own (AE.last V2) 100 16 (ev2.flatMap Ing.Event.enc)]) (0) (V1) (ls1) (ev1) ?_ J J (fun i V2 ls2 ev2 hI2=>?_)
  · exact⟨by omega,by omega,rfl,(fun j j0 j1=>hI14 j j0 j1),(fun j j0 j1=>Nat.le_succ_of_le (hI14 j j0 j1))⟩
  obtain⟨hI21,hI22,hI23,hI24,hI25⟩:=hI2
  refine W ?_
  refine⟨fun c2 c2p=>?_,fun c2 c2p=>?_⟩
  ·
   refine W ?_
   refine⟨fun c3 c3p=>?_,fun c3 c3p=>?_⟩
   ·
    refine W ?_
    refine BR (i+1) _ _ _ ?_ ?_ (.t6 25 0 5 19 20 21) (.refl _)
    · exact⟨by omega,by omega,((F8 hI21 (by omega) hI23).trans (AN c3)).symm,(fun j j0 j1=>hI24 j (by omega) j1),hI25⟩
    · omega
   refine W ?_
   refine Cp (fun w hS=>G7 (es.getD k.toNat default) _ (he _ (Ks (d:=default) (xs:=es) (i:=k.toNat) (by omega)) _) w (gl0.stM gm0 hS) (gl1.stM gm1 hS)) ?_
   refine W ?_
   refine⟨fun c4 c4p=>?_,fun c4 c4p=>?_⟩
   ·
    refine W ?_
    refine Cl (.c .h (.c .h (.c .h .n))) (Eg _ V2 ls2 _ i _ (by omega) (Nat.le_trans (hI24 i (by omega) (by omega)) (by omega))) (fun v2 B hv=>?_)
    obtain⟨y3,y4,y5,rfl,y6,rfl⟩:=hv
    refine W ?_
    refine BR (i+1) _ _ _ ?_ ?_ (.t6 25 0 5 19 20 21) (.refl _)
    · exact⟨by omega,by omega,y6.trans ((F8 hI21 (by omega) hI23).trans ((AB c3).trans (AN c4))).symm,(fun j j0 j1=>by have h:=hI24 j (by omega) j1;rw [(GF hI21 (by omega) y6 (by omega) j1).2 (by omega)];exact h),(fun j j0 j1=>if c:j=i then(by subst c;have h:=hI24 j (by omega) j1;have h2:=(GF hI21 (by omega) y6 j0 j1).1;omega) else(by rw [(GF hI21 (by omega) y6 j0 j1).2 c];exact hI25 j j0 j1))⟩
    · omega
   refine W ?_
   refine BR (i+1) _ _ _ ?_ ?_ (.t6 25 0 5 19 20 21) (.refl _)
   · exact⟨by omega,by omega,((F8 hI21 (by omega) hI23).trans ((AB c3).trans (AB c4))).symm,(fun j j0 j1=>hI24 j (by omega) j1),hI25⟩
   · omega
  obtain rfl:i=4:=by omega
  refine W ?_
  refine Ar (.c .h (.c .h (.c .h (.c (.t .h) .n)))) ?_
  refine Az ?_
  refine BR (k+1) _ _ _ ?_ ?_ (.t4 21 0 19 20) (.refl _)
  · exact⟨by omega,by omega,by rw [PT hI11 (by omega),← hI13];exact hI23,fun j j0 j1=>by have h:=hI25 j j0 j1;rw [show(k+1).toNat=k.toNat+1 by omega];omega⟩
  · omega
 obtain rfl:k=(es.length:Int):=by omega
 refine W ?_
 intro w1 hS
 have hS:=(hS.perm (AK.perm (.c .h (.c .h (.c .h (.c .h .n)))))).AM
 refine⟨_,⟨V1,ls1,ev1,J,?ga,J⟩,hS⟩
 case ga=>rw [hI13,show(es.length:Int).toNat=es.length by omega,List.take_length];exact(Tz rfl).symm
theorem SX (b:Nat)(V:AE)(ls:Vector Ae 4)(ev:List Ing.Event)(k:Int)(u:AL)(n m:Nat)(hk:0≤k∧k < 4)(hF:AG.Fit (AO V ls ev) n m)(hn:n≤900000)(hm:m≤900000)(hu:u.length≤1000):Cz Tryz.prog 110 #[.pointer (some ⟨b,0,none⟩), .pointer (some ⟨b,165+k.toNat * 22,none⟩),Ag u] [AJ.box b 95 (AE.enc V),AJ.CI (BB 9 (AE.AP V) ls),AJ.own (AE.last V) 100 16 ((ev).flatMap Ing.Event.enc)] (fun w=>(GV 3 EH w∧3 ∉ BV [AJ.box b 95 (AE.enc V),AJ.CI (BB 9 (AE.AP V) ls),AJ.own (AE.last V) 100 16 ((ev).flatMap Ing.Event.enc)])∧(GV 1 AD.Be w∧1 ∉ BV [AJ.box b 95 (AE.enc V),AJ.CI (BB 9 (AE.AP V) ls),AJ.own (AE.last V) 100 16 ((ev).flatMap Ing.Event.enc)])) (fun v B=>∃ V' ls' ev',v = .tuple #[]∧AO V' ls' ev'=AG.named (AO V ls ev) k u∧B = [AJ.box b 95 (AE.enc V'),AJ.CI (BB 9 (AE.AP V') ls'),AJ.own (AE.last V') 100 16 ((ev').flatMap Ing.Event.enc)]):=by
 intro w hS0 hH
 obtain⟨⟨gl0,gm0⟩,⟨gl1,gm1⟩⟩:=hH
 have hel:=AA.M9 V.w u
 have hes:=AA.JW (s:=u) hF.Fp
 have htn:=Cx hF
 refine AR _ _ Tryz.func110 J J J (hS0) ?_
 refine W ?_
 refine Cm .n (NS V.w u hF.Fp.Gb (by omega)) (fun v1 B hv=>?_)
 obtain⟨y2,rfl,y3,rfl⟩:=hv
 refine W ?_
 intro b1
 refine⟨fun c1 c1p=>?_,fun c1 c1p=>?_⟩
 ·
  refine Ws 5 ?_
  refine By (.c (.t (.t .h)) (.c (.t (.t .h)) .n)) ?_
  refine Cj (k:=k) hk.1 hk.2 (fun sv sl hsv hlv hln=>?_)
  refine Ws 6 ?_
  refine By (.c .h (.c .h (.c .h (.c .h (.c .h .n))))) ?_
  refine Ct hk.1 hk.2 (by rfl) (by rfl) (by rfl) ?_
  refine W ?_
  refine Cm (.c .h (.c .h (.c (.t (.t .h)) (.c (.t .h) .n)))) (Ef _ (AE.AZ { V with w:=(AA.Ao V.w u).1 } k { sv with state:=2,AV:=(AA.Ao V.w u).2.1 }) (ls.put k ⟨sl.queue,sl.wait,sl.told⟩) ev _ (AA.Ao V.w u).2.2.1 n (by assumption) (Cx (by rw [(show AO (AE.AZ { V with w:=(AA.Ao V.w u).1 } k { sv with state:=2,AV:=(AA.Ao V.w u).2.1 }) (ls.put k ⟨sl.queue,sl.wait,sl.told⟩) ev=({ (AO V ls ev) with w:=(AA.Ao V.w u).1 }:AG).set k { AG.at_ (AO V ls ev) k with state:=2,AV:=(AA.Ao V.w u).2.1 } from B4 (V:={ V with w:=(AA.Ao V.w u).1 }) hk.1 hk.2 hsv hlv (f:=fun x=>{ x with state:=2,AV:=(AA.Ao V.w u).2.1 }) rfl)];exact hF.enters hk.1 hk.2 (of_decide_eq_true c1))) (by omega) (Nat.le_trans hF.last (by omega)) (fun e he c _=>hes.2 e he)) (fun v5 B hv=>?_)
  obtain⟨y6,y7,y8,rfl,y9,rfl⟩:=hv
  refine W ?_
  intro w1 hS
  have hS:=(hS.perm (AK.perm (.c .h (.c .h (.c .h .n))))).AM
  refine⟨_,⟨y6,y7,y8,J,?ga1,J⟩,hS⟩
  case ga1=>exact Si c1 (show AO (AE.AZ { V with w:=(AA.Ao V.w u).1 } k { sv with state:=2,AV:=(AA.Ao V.w u).2.1 }) (ls.put k ⟨sl.queue,sl.wait,sl.told⟩) ev=({ (AO V ls ev) with w:=(AA.Ao V.w u).1 }:AG).set k { AG.at_ (AO V ls ev) k with state:=2,AV:=(AA.Ao V.w u).2.1 } from B4 (V:={ V with w:=(AA.Ao V.w u).1 }) hk.1 hk.2 hsv hlv (f:=fun x=>{ x with state:=2,AV:=(AA.Ao V.w u).2.1 }) rfl) y9
 refine W ?_
 refine⟨fun c2 c2p=>?_,fun c2 c2p=>?_⟩
 ·
  refine W ?_
  refine Cl (.c (.t (.t .h)) (.c (.t (.t .h)) (.c (.t (.t .h)) .n))) (Eg _ V ls ev k _ hk (Nat.le_trans (htn k hk.1 hk.2) (by omega))) (fun v10 B hv=>?_)
  obtain⟨y11,y12,y13,rfl,y14,rfl⟩:=hv
  refine W ?_
  intro w1 hS
  have hS:=(hS.perm (AK.perm (.c .h (.c .h (.c .h .n))))).AM
  refine⟨_,⟨y11,y12,y13,J,?ga2,J⟩,hS⟩
  case ga2=>exact Sh c1 c2 y14
 refine W ?_
 refine Cl (.c (.t (.t .h)) (.c (.t (.t .h)) (.c (.t (.t .h)) .n))) (Eg _ V ls ev k _ hk (Nat.le_trans (htn k hk.1 hk.2) (by omega))) (fun v15 B hv=>?_)
 obtain⟨y16,y17,y18,rfl,y19,rfl⟩:=hv
 refine W ?_
 intro w1 hS
 have hS:=(hS.perm (AK.perm (.c .h (.c .h (.c .h .n))))).AM
 refine⟨_,⟨y16,y17,y18,J,?ga3,J⟩,hS⟩
 case ga3=>exact Sg c1 c2 y19
theorem BK (z:Int):Fu Tryz.prog 181 #[.int .i64 z] [] (fun v B=>v = .tuple #[.agg (Order.enc default).toArray, .int .i64 z]∧B = []):=by
 intro w hS0
 refine AR _ _ Tryz.func181 J J J (hS0) ?_
 refine W ?_
 intro b1
 intro w1 hS
 have hS:=(hS.perm (AK.perm .n)).AM
 exact⟨_,⟨J,J⟩,hS⟩
theorem C5 (s:AL)(c:UInt8)(w:World):Ch Tryz.prog 173 #[Ag s, .int .u8 (c.toNat:Int)] w fun v w'=>v = .int .i64 (Lib.indexByte s c)∧BF w w':=by
 refine Rb Tryz.func173 ?_
 refine W ?_
 refine Gt (LV Tryz.func195 (by kernel_rfl) (by kernel_rfl) (by kernel_rfl) (by kernel_rfl) J J) ?_
 refine W ?_
 rfl
instance:DI Tryz.prog 173 (type_of% @C5):=⟨@C5⟩
theorem DZ (s:AL)(c:UInt8)(w:World):Ch Tryz.prog 216 #[Ag s,Ag [c]] w fun v w'=>v = .int .i64 (Lib.indexByte s c)∧BF w w':=by
 refine Rb Tryz.func216 ?_
 refine W ?_
 refine⟨fun c1 c1p=>?_,fun c1 c1p=>?_⟩
 ·
  refine W ?_
  have e : [c]=s:=by simpa using c1
  rw [← e,Page.index_one];rfl
 refine W ?_
 rfl
instance:DI Tryz.prog 216 (type_of% @DZ):=⟨@DZ⟩
theorem Hn (s:AL)(c:UInt8)(w:World):Ch Tryz.prog 198 #[Ag s,Ag [c]] w fun v w'=>v = .int .i64 (Lib.indexByte s c)∧BF w w':=by
 refine Rb Tryz.func198 ?_
 refine W ?_
 rfl
instance:DI Tryz.prog 198 (type_of% @Hn):=⟨@Hn⟩
theorem Hm (s:AL)(c:UInt8)(w:World):Ch Tryz.prog 197 #[Ag s,Ag [c]] w fun v w'=>v = .int .i64 ((s.count c:Nat):Int)∧BF w w':=by
 refine Rb Tryz.func197 ?_
 refine W ?_
 refine Gt (On Tryz.func215 (by kernel_rfl) (by kernel_rfl) (by kernel_rfl) (by kernel_rfl) J J) ?_
 refine W ?_
 rfl
instance:DI Tryz.prog 197 (type_of% @Hm):=⟨@Hm⟩
theorem J7 (s:AL)(c:UInt8)(hs:s.length≤10000000):Fu Tryz.prog 174 #[Ag s,Ag [c], .int .i64 0, .int .i64 (-1)] [] (fun v B=>∃ h':Hd,v=h'.val∧h'.len=(Words.pieces c s).length∧B = [AJ.own h' 9 1 ((Words.pieces c s).flatMap AX)]):=by
 intro w hS0
 have hcl:=List.count_le_length (a:=c) (l:=s)
 have hpl:=Words.DV c s
 refine AR _ _ Tryz.func174 J J J (hS0) ?_
 refine W ?_
 refine XN J Tryz.underlying56 OZ bd dm J J (by(try simp only [List.length_cons,List.length_nil]);omega) (by(try simp only [List.length_cons,List.length_nil]);omega) (fun b1=>?_)
 refine W ?_
 refine Af (.t6 0 10 1 2 3 9) ?_
 refine Bo (fun(i:Int) (r:AL) (xs:List AL)=>Words.Oy c s i r xs) (fun(i:Int) (r:AL) (xs:List AL)=>((s.count c:Int) - i).toNat) (fun(i:Int) (r:AL) (xs:List AL)=> [(0,Ag r),(10, .int .i64 i)]) (fun(i:Int) (r:AL) (xs:List AL)=> [AJ.own ⟨some ⟨b1,0,none⟩,(min (((s.count c:Nat):Int)+1) ((s.length:Int)+1)).toNat,(min (((s.count c:Nat):Int)+1) ((s.length:Int)+1)).toNat⟩ 9 1 (xs.flatMap AX)]) (0) (s) (_) ?_ J J (fun i r xs hI1=>?_)
 · exact Words.Oy.start c s _ (by omega)
 have hI11:=hI1;have hi0:=hI1.i0;have hi1:=hI1.i1;have hrl:=hI1.rl;have hxl:=hI1.len
 refine W ?_
 refine⟨fun c1 c1p=>?_,fun c1 c1p=>?_⟩
 ·
  refine W ?_
  refine⟨fun c2 c2p=>?_,fun c2 c2p=>?_⟩
  ·
   refine W ?_
   refine EJ (Ou J J OZ (by have:=hI11.len;omega) .h) ?_
   refine W ?_
   intro w1 hS
   have hS:=(hS.perm (AK.perm (.c .h .n))).AM
   have hd:=hI11.done (by first | (right;simpa using c2) | (left;omega))
   exact⟨_,⟨_,J,by rw [hd.2] at *;(try simp only [Hd.cut] at *);omega,by rw [hd.2]⟩,hS⟩
  obtain⟨hm0,hm1,hnx⟩:=hI11.next rfl (by simpa using c2)
  refine W ?_
  refine EJ (Ou J J OZ (by have:=hI11.len;omega) .h) ?_
  refine W ?_
  refine Ap (i+1) _ _ ?_ ?_ (.t6 0 10 1 2 3 9) (.refl _)
  · rw [Int.add_zero]
    exact hnx
  · omega
 refine W ?_
 refine EJ (Ou J J OZ (by have:=hI11.len;omega) .h) ?_
 refine W ?_
 intro w1 hS
 have hS:=(hS.perm (AK.perm (.c .h .n))).AM
 have hd:=hI11.done (by first | (right;simpa using c1) | (left;omega))
 exact⟨_,⟨_,J,by rw [hd.2] at *;(try simp only [Hd.cut] at *);omega,by rw [hd.2]⟩,hS⟩
theorem Ho (s:AL)(c:UInt8)(hs:s.length≤10000000):Fu Tryz.prog 132 #[Ag s,Ag [c]] [] (fun v B=>∃ h':Hd,v=h'.val∧h'.len=(Words.pieces c s).length∧B = [AJ.own h' 9 1 ((Words.pieces c s).flatMap AX)]):=by
 intro w hS0
 refine AR _ _ Tryz.func132 J J J (hS0) ?_
 refine W ?_
 refine Cl .n (J7 _ c hs) (fun v1 B hv=>?_)
 obtain⟨y2,rfl,y3,rfl⟩:=hv
 refine W ?_
 intro w1 hS
 have hS:=(hS.perm (AK.perm (.c .h .n))).AM
 exact⟨_,⟨_,J,by assumption,rfl⟩,hS⟩
theorem Ke (u:AL)(hu:u.length≤10000000)(w:World):Ch Tryz.prog 206 #[Ag u] w fun v w'=>v=Ag (Words.low u)∧BF w w':=by
 refine Rb Tryz.func206 ?_
 refine W ?_
 refine GY J Tryz.underlying9 Tryz.underlying122 Tryz.underlying5 J (fun h1 h1l=>?_)
 refine W ?_
 refine Af (.t4 10 3 8 9) ?_
 refine A7 (fun(k:Int)=>0≤k∧k≤u.length) (fun(k:Int)=>((u.length:Int) - k).toNat) (fun(k:Int)=> [(10, .int .i64 k)]) (fun(k:Int)=> [AJ.own h1 5 1 ((Words.G3 u k.toNat).flatMap CE)]) (0) ?_ J J (fun k hI1=>?_)
 · exact⟨by omega,by omega⟩
 obtain⟨hI11,hI12⟩:=hI1
 refine W ?_
 refine⟨fun c1 c1p=>?_,fun c1 c1p=>?_⟩
 ·
  have hat:=Words.W1 (w:=u) hI11 (by omega)
  have hc8:=(u.getD k.toNat 0).toNat_lt
  have hlk:=Words.Ps u k.toNat
  refine W ?_
  refine⟨fun c2 c2p=>?_,fun c2 c2p=>?_⟩
  ·
   rw [hat] at c2
   have hset:=Words.UP (w:=u) hI11 (by omega)
   rw [← Words.dC c2] at hset
   refine W ?_
   refine EJ (fB J J (by simp only [hat] at c2p ⊢;omega) Qk (by rw [Words.Ps];omega) .h) ?_
   refine W ?_
   refine Aw (k+1) ?_ ?_ (.t4 10 3 8 9) (by rw [← hset];first | exact(.refl _) | (rw [← hat];exact(.refl _)))
   · exact⟨by omega,by omega⟩
   · omega
  rw [hat] at c2
  have hset:=Words.X1 (w:=u) hI11 (by omega) (Words.dB c2)
  refine W ?_
  refine Aw (k+1) ?_ ?_ (.t4 10 3 8 9) (by rw [← hset];first | exact(.refl _) | (rw [← hat];exact(.refl _)))
  · exact⟨by omega,by omega⟩
  · omega
 refine W ?_
 obtain rfl:k=u.length:=by omega
 rw [show(u.length:Int).toNat=u.length by omega,Words.aB];rfl
instance:DI Tryz.prog 206 (type_of% @Ke):=⟨@Ke⟩
end Go.Proofs.YtlmmdjaoikaceaaGreatDoor

/- What the functions that the law TopTranscript reaches compute: walks, part 3. No condition. -/
import Derived.Test.YtoidpggbbfncpaaGreatDoorCards
import Derived.Test.YtoidpggbbfncpaaGreatDoorTie
import Derived.Deep.DeepHandedRow
import Derived.Test.YtoidpggbbfncpaaGreatDoorRows
import Derived.Test.YtoidpggbbfncpaaGreatDoorTopTranscriptEc3
import Derived.Test.YtoidpggbbfncpaaGreatDoorTopTranscriptRa1
import Derived.Test.YtoidpggbbfncpaaGreatDoorTopTranscriptRb1
import Derived.Test.YtoidpggbbfncpaaGreatDoorTopTranscriptRc1
import Derived.Test.YtoidpggbbfncpaaGreatDoorTopTranscriptWalks
import Derived.Test.YtoidpggbbfncpaaGreatDoorTopTranscriptWalks2
set_option linter.unusedSimpArgs false
set_option linter.unusedVariables false
set_option maxRecDepth 100000
set_option maxHeartbeats 1000000
namespace Go.Proofs.YtoidpggbbfncpaaGreatDoor
open Go Go.Ing Go.RowKit Go.ChangeShapes Go.WideShapes Go.ChangeAt
theorem OL (e:Ing.Event)(b:Int)(hs:(decide (b < 0) || decide (6≤b) || decide (AH.Pb (e.H0.at b) 1=0))=false→AH.Small e)(w:World)(gl0:GV 2 GJ w)(gl1:GV 0 AH.DU w):Ev Tryz.prog 23 #[.agg e.enc.toArray, .int .i64 b] w fun v w'=>v = .tuple #[BW (AH.tell e b).1, .bool (AH.tell e b).2]∧CH w w':=by
 refine Ap [] [] Tryz.func23 J J J (St.start w []) ?_
 refine Gs ?_
 refine CB J J J (fun b1=>?_)
 refine Ga J (Ga J (Gn (.t2 1 2) (CL (Gm J (Gt (BA J J) (Gm J (Bj 17 J J (fun q=>AF J) ?_)))))))
 refine Bj 17 J J (fun q=>CZ (cF J q) J) ?_
 refine Gt (Ba J J (fun h=>by rw [h];rfl)) ?_
 refine Gm J (Bj 21 J J (fun q=>AF J) (Bj 21 J J (fun q=>Al Oa J) ?_))
 refine Bj 21 J J (fun q=>by have q1:=q;(try simp at q1);exact AQ Tx (cF rfl q) (cF rfl q) (by first | omega | (simp only [List.length_cons,List.length_nil];omega)) (by first | omega | (simp only [List.length_cons,List.length_nil];omega))) ?_
 refine Bj 21 J J (fun q=>by have q1:=q;(try simp at q1);exact AI (cF rfl q) A8 .m0 (Ing.Event.l10.comp (AU.arr (n:=6) B9 (by first | omega | (simp only [List.length_cons,List.length_nil];omega)) (by first | omega | (simp only [List.length_cons,List.length_nil];omega)))) rfl rfl) ?_
 refine Bj 21 J J (fun q=>SH (cF J q) J (show _=AH.Pb _ _ from rfl)) (Bj 21 rfl rfl (fun q=>Ai (cF rfl q) rfl) ?_)
 refine Gt (Ba J J (fun h=>by rw [h];rfl)) ?_
 refine Gn (.t3 1 2 28) ?_
 refine Gc (fun c1=>?_) (fun c1=>?_)
 ·
  refine Gs (Ga J (Ga J (Gn (.t2 4 5) (Ac (AD ?_)))))
  refine AY J (.tmp J (.tmp J .n)) ?_
  intro w1 hS;refine⟨?_,hS.Ao⟩;rw [show AH.tell e b=_ from BG c1];rfl
 have c1p:=kz c1
 have hs:=hs c1
 have hr:0≤b∧b < 6:=by simp at c1;omega
 have htl:=AH.PN e b
 have h1l:=AH.RD hs b
 have h2l:=AH.Pn hs b
 have h3l:=hs.BM
 have h4l:=hs.text
 have h5l:=AH.Jn e.dir
 have h6l:=Lib.itoa_length_le e.n hs.n0 hs.n1
 refine Aa ?_
 refine AB (.t2 1 2) ?_
 refine AA (Gs (Gt (Al Vi J) (Gt (AI J A8 .m0 Ing.Event.l0 J J) ?_)))
 refine BC J jW (.c J .n) (fun w hS=>ON _ w) ?_
 refine Gm J (Gt (AM J J) (Gt (AM J J) (Ga J (Ga J (Gn (.t4 1 2 6 7) (Gs (Gm J ?_)))))))
 refine Ga J (Gn (.t4 1 2 6 8) (CL (Gm J (Gt (Al SY J) (Gt (AI J A8 .m0 Ing.Event.l2 J J) (Gt (Ai J J) (Gn (.t5 1 2 6 8 39) ?_)))))))
 refine eE (BW) (s:=(AH.EN e b)) J J J J J J J ?_
 refine AB (.t3 1 2 8) ?_
 refine AA (CL (Gm J (Gt (B4 J J) (Gn (.t4 1 2 8 42) ?_))))
 refine Gc (fun c2=>?_) (fun c2=>?_)
 ·
  refine Gs (Ga J (Ga J (Gn (.t2 4 5) (Ac (AD ?_)))))
  refine AY J (.tmp J (.tmp J .n)) ?_
  intro w1 hS;refine⟨?_,hS.Ao⟩;rw [show AH.tell e b=_ from(AX c1).trans (BG c2)];rfl
 have c2p:=kz c2
 refine Aa ?_
 refine AB (.t3 1 2 8) ?_
 refine AA (Aq ?_)
 refine BE (N:=6) [0,1,0,4,3,31] mix (by kernel_rfl) J ?_
 refine Pf 0 J (Al ZE J) (Pf 1 J (AI J CO .m0 Ing.Event.l6 J J) (Pf 2 J (Al ah J) (Pf 3 J (AI J CO .m0 Ing.Event.l7 J J) (Pf 4 J (A0 J) (Pf 5 J (A0 J) ?_)))))
 refine A2 (by kernel_rfl) ?_
 refine AB (.t5 1 2 8 9 10) ?_
 refine AA (CL (Gm J (Gt (Al Oa J) ?_)))
 refine Gt (AQ Tx J J (by first | omega | (simp only [List.length_cons,List.length_nil];omega)) (by first | omega | (simp only [List.length_cons,List.length_nil];omega))) ?_
 refine Gt (AI J A8 .m0 (Ing.Event.l10.comp (AU.arr (n:=6) B9 (by first | omega | (simp only [List.length_cons,List.length_nil];omega)) (by first | omega | (simp only [List.length_cons,List.length_nil];omega)))) J J) ?_
 refine Gt (SH J J (show _=AH.Pb _ _ from rfl)) (Gt (Cm rfl rfl) (Gn (.t6 1 2 8 9 10 52) ?_))
 refine R7 (BW) (s:=(AH.II e b)) J J J J J ?_
 refine AB (.t5 1 2 8 9 10) ?_
 refine AA (CL (Gm J (Gt (Al Oa J) ?_)))
 refine Gt (AQ Tx J J (by first | omega | (simp only [List.length_cons,List.length_nil];omega)) (by first | omega | (simp only [List.length_cons,List.length_nil];omega))) ?_
 refine Gt (AI J A8 .m0 (Ing.Event.l10.comp (AU.arr (n:=6) B9 (by first | omega | (simp only [List.length_cons,List.length_nil];omega)) (by first | omega | (simp only [List.length_cons,List.length_nil];omega)))) J J) ?_
 refine Gt (SH J J (show _=AH.Pb _ _ from rfl)) (Gt (Cm rfl rfl) (Gn (.t6 1 2 8 9 10 58) ?_))
 refine R7 (BW) (s:=AH.WV e b) J J J J J ?_
 refine AB (.t5 1 2 8 9 10) ?_
 refine AA (CL (Gm J (Gt (Al HV J) (Gt (AI J A8 .m0 Ing.Event.l3 J J) (Gt (Ai J J) (Gn (.t5 2 8 9 10 62) ?_))))))
 refine R7 (BW) (s:=(AH.Fk e b)) J J J J J ?_
 refine AB (.t4 2 8 9 10) ?_
 refine AA (Gs ?_)
 refine BJ J WI J (fun b2=>?_)
 refine Dy Di 5 1 ?_
 refine AR (AA (CL (Gm J (Gt (BN J Tryz.underlying9 J) (Gm J (Gn (.t7 2 8 9 10 11 64 65) (Ag ?_)))))))
 refine Bw (.t7 65 2 8 9 10 11 64) ?_
 refine Be (.t .h) ?_
 refine Be (.t .h) ?_
 refine IM (fun(k:Int) (x:Ad) (p:Option Addr) (h:Hd)=>0≤k∧k≤((AH.EN e b).length:Int)∧x=AH.told e (AH.II e b) (AH.Fk e b) (AH.EN e b) k.toNat∧(p=none∨p=some ⟨b2,0,none⟩)∧h.Z∧h.len=x.length) (fun(k:Int) (x:Ad) (p:Option Addr) (h:Hd)=>(((AH.EN e b).length:Int) - k).toNat) (fun(k:Int) (x:Ad) (p:Option Addr) (h:Hd)=> [(65, .int .i64 k)]) (fun(k:Int) (x:Ad) (p:Option Addr) (h:Hd)=> [Ab.own h 5 1 (x.flatMap Di),Ab.box b2 107 (Dk.enc ⟨p,h⟩)]) (0) ([]) (none) (⟨none,0,0⟩) ?_ J J (fun k x p h hI1=>?_)
 · exact⟨by omega,by omega,rfl, .inl rfl,Hd.Wo,rfl⟩
 obtain⟨hI11,hI12,hI13,hp,hz,hl⟩:=hI1;have hxl:=AH.PI hs h1l h2l (AH.EN e b) k.toNat;rw [← hI13] at hxl;have hxm:k.toNat * 2000000≤60000000:=by omega
 refine Gs (Gt (BA J J) (AR (AA (Aq ?_))))
 refine Gc (fun c3=>?_) (fun c3=>?_)
 ·
  have c3p:=kz c3
  refine Aa ?_
  refine AB (.t7 2 8 9 10 11 64 65) ?_
  refine AA (Aq (Ag (Gs (Gm J (Ga J (Gn (.t8 2 8 9 10 11 12 64 65) (Gs ?_)))))))
  refine Gm J (Gm J ?_)
  refine Gt (Bt Tryz.underlying9 J J (by first | omega | (simp only [List.length_cons,List.length_nil];omega)) (by first | omega | (simp only [List.length_cons,List.length_nil];omega))) ?_
  refine Ga J (Gn (.t9 2 8 9 10 11 12 13 64 65) (Gs (Gm J (Gt (Ai J J) (Gm J (Bj 73 J J (fun q=>AF J) (Bj 73 J J (fun q=>AF J) ?_)))))))
  refine Bj 73 J J (fun q=>by have q1:=q;(try simp at q1);exact FT (cF rfl q) rfl (IntWalk.i64_in _ (by first | omega | (simp only [List.length_cons,List.length_nil];omega)))) ?_
  refine Bj 73 J J (fun q=>by have q1:=q;(try simp at q1);exact Bt Tryz.underlying9 (cF rfl q) (cF rfl q) (by first | omega | (simp only [List.length_cons,List.length_nil];omega)) (by first | omega | (simp only [List.length_cons,List.length_nil];omega))) ?_
  refine Bj 73 J J (fun q=>Ai (cF J q) J) ?_
  refine Gt (Ba J J (fun h=>by rw [h];rfl)) ?_
  refine Gm J (Bp 80 J J (fun q=>AF J) ?_)
  refine Bp 80 J J (fun q=>by have q1:=q;(try simp at q1);exact Ay (Bo rfl q) rfl (IntWalk.i64_in _ (by first | omega | (simp only [List.length_cons,List.length_nil];omega)))) ?_
  refine Bp 80 J J (fun q=>AF J) (Bp 80 J J (fun q=>BN J Tryz.underlying9 (Bo J q)) (Bp 80 J J (fun q=>Ai (Bo J q) (Bo J q)) (Bp 80 J J (fun q=>AF (Bo J q)) ?_)))
  refine DF (t:=86) J J J (fun qc q=>AF J) ?_
  refine DF (t:=86) J J J (fun qc q=>AF J) ?_
  refine DF (t:=86) J J J (fun qc q=>by have q1:=q;have qc1:=qc;(try simp at q1 qc1);exact Ay (Bo rfl (by rw [qc,q];rfl)) rfl (IntWalk.i64_in _ (by first | omega | (simp only [List.length_cons,List.length_nil];omega)))) ?_
  refine DF (t:=86) J J J (fun qc q=>by have q1:=q;have qc1:=qc;(try simp at q1 qc1);exact Bt Tryz.underlying9 (Bo rfl (by rw [qc,q];rfl)) (Bo rfl (by rw [qc,q];rfl)) (by first | omega | (simp only [List.length_cons,List.length_nil];omega)) (by first | omega | (simp only [List.length_cons,List.length_nil];omega))) ?_
  refine DF (t:=86) J J J (fun qc q=>Ai (Bo J (by rw [qc,q];rfl)) J) ?_
  refine Bp 80 J J (fun q=>Ba (Bo J q) J (fun h=>by rw [q,h];rfl)) ?_
  refine Bp 80 J J (fun q=>AF (Bo J q)) ?_
  refine DF (t:=93) J J J (fun qc q=>AF J) ?_
  refine DF (t:=93) J J J (fun qc q=>AF J) ?_
  refine DF (t:=93) J J J (fun qc q=>by have q1:=q;have qc1:=qc;(try simp at q1 qc1);exact Ay (Bo rfl (by rw [qc,q];rfl)) rfl (IntWalk.i64_in _ (by first | omega | (simp only [List.length_cons,List.length_nil];omega)))) ?_
  refine DF (t:=93) J J J (fun qc q=>by have q1:=q;have qc1:=qc;(try simp at q1 qc1);exact Bt Tryz.underlying9 (Bo rfl (by rw [qc,q];rfl)) (Bo rfl (by rw [qc,q];rfl)) (by first | omega | (simp only [List.length_cons,List.length_nil];omega)) (by first | omega | (simp only [List.length_cons,List.length_nil];omega))) ?_
  refine DF (t:=93) J J J (fun qc q=>Ai (Bo J (by rw [qc,q];rfl)) J) ?_
  refine Bp 80 J J (fun q=>Ba (Bo J q) J (fun h=>by rw [q,h];rfl)) ?_
  refine Gt (BQ J J (fun h=>h)) (Ga J (Gn (.t9 2 8 9 10 11 13 14 64 65) (Ag (Gs (Gm J (Gt (BZ J) (Ga J ?_)))))))
  refine Gn (.t9 2 8 9 10 11 13 64 65 103) ?_
  refine Gc (fun c4=>?_) (fun c4=>?_)
  ·
   have c4p:=kz c4
   refine AJ (Gm J ?_)
   refine Ak J bV (.c J (.c J .n)) (.c (.t .h) (.c .h .n)) (Co _ _ _ _ (by assumption) (by assumption) (by assumption) _ (by omega)) (fun v1 B hv=>?_)
   obtain⟨y2,y3,rfl,y4,y5,y6,rfl⟩:=hv
   refine AR (AB (.t7 2 8 9 10 11 64 65) ?_)
   refine AV (AV (AA (AJ ?_)))
   refine Gt (Ay J J (IntWalk.i64_in _ (by first | omega | (simp only [List.length_cons,List.length_nil];omega)))) ?_
   refine Gm J ?_
   refine AR (AB (.t7 2 8 9 10 11 64 65) ?_)
   refine CK (.c (.t .h) (.c .h (.c .h .n))) ?_
   refine Cl ?_
   refine C3 (k+1) _ _ _ ?_ ?_ (.t7 65 2 8 9 10 11 64) (.refl _)
   · exact⟨by omega,by omega,by rw [AH.Fx hI11,← hI13,show AH.piece e (AH.II e b) (AH.Fk e b) (AH.EN e b) k=_ from(BG c4)],by assumption,by assumption,by assumption⟩
   · omega
  have c4p:=kz c4
  refine Gs (Gm J (Gt (Ai J J) (Ga J (Gn (.t9 2 8 9 10 11 13 64 65 108) ?_))))
  refine Gc (fun c5=>?_) (fun c5=>?_)
  ·
   have c5p:=kz c5
   refine AJ (Gm J ?_)
   refine Ak J Qs (.c J (.c J .n)) (.c (.t .h) (.c .h .n)) (BS _ _ _ _ (by assumption) (by assumption) (by assumption) _ (by omega)) (fun v7 B hv=>?_)
   obtain⟨y8,y9,rfl,y10,y11,y12,rfl⟩:=hv
   refine AR (AB (.t7 2 8 9 10 11 64 65) ?_)
   refine AV (AV (AA (AJ ?_)))
   refine Gt (Ay J J (IntWalk.i64_in _ (by first | omega | (simp only [List.length_cons,List.length_nil];omega)))) ?_
   refine Gm J ?_
   refine AR (AB (.t7 2 8 9 10 11 64 65) ?_)
   refine CK (.c (.t .h) (.c .h (.c .h .n))) ?_
   refine Cl ?_
   refine C3 (k+1) _ _ _ ?_ ?_ (.t7 65 2 8 9 10 11 64) (.refl _)
   · exact⟨by omega,by omega,by rw [AH.Fx hI11,← hI13,show AH.piece e (AH.II e b) (AH.Fk e b) (AH.EN e b) k=_ from((AX c4).trans (BG c5))],by assumption,by assumption,by assumption⟩
   · omega
  have c5p:=kz c5
  refine Gs (Gm J (Gt (Ai J J) (Ga J (Gn (.t9 2 8 9 10 11 13 64 65 113) ?_))))
  refine Gc (fun c6=>?_) (fun c6=>?_)
  ·
   have c6p:=kz c6
   refine AJ (Gm J ?_)
   refine Ak J Qs (.c J (.c J .n)) (.c (.t .h) (.c .h .n)) (BS _ _ _ _ (by assumption) (by assumption) (by assumption) _ (by omega)) (fun v13 B hv=>?_)
   obtain⟨y14,y15,rfl,y16,y17,y18,rfl⟩:=hv
   refine AR (AB (.t7 2 8 9 10 11 64 65) ?_)
   refine AV (AV (AA (AJ ?_)))
   refine Gt (Ay J J (IntWalk.i64_in _ (by first | omega | (simp only [List.length_cons,List.length_nil];omega)))) ?_
   refine Gm J ?_
   refine AR (AB (.t7 2 8 9 10 11 64 65) ?_)
   refine CK (.c (.t .h) (.c .h (.c .h .n))) ?_
   refine Cl ?_
   refine C3 (k+1) _ _ _ ?_ ?_ (.t7 65 2 8 9 10 11 64) (.refl _)
   · exact⟨by omega,by omega,by rw [AH.Fx hI11,← hI13,show AH.piece e (AH.II e b) (AH.Fk e b) (AH.EN e b) k=_ from((AX c4).trans ((AX c5).trans (BG c6)))],by assumption,by assumption,by assumption⟩
   · omega
  have c6p:=kz c6
  refine Gs (Gm J (Gt (Ai J J) (Ga J (Gn (.t9 2 8 9 10 11 13 64 65 118) ?_))))
  refine Gc (fun c7=>?_) (fun c7=>?_)
  ·
   have c7p:=kz c7
   refine AJ (Gt (Al fF J) (Gt (AI J CO .m2 Ing.Event.l8 J J) ?_))
   refine Ak J Qs (.c J (.c J .n)) (.c (.t .h) (.c .h .n)) (BS _ _ _ _ (by assumption) (by assumption) (by assumption) _ (by omega)) (fun v19 B hv=>?_)
   obtain⟨y20,y21,rfl,y22,y23,y24,rfl⟩:=hv
   refine AR (AB (.t7 2 8 9 10 11 64 65) ?_)
   refine AV (AV (AA (AJ ?_)))
   refine Gt (Ay J J (IntWalk.i64_in _ (by first | omega | (simp only [List.length_cons,List.length_nil];omega)))) ?_
   refine Gm J ?_
   refine AR (AB (.t7 2 8 9 10 11 64 65) ?_)
   refine CK (.c (.t .h) (.c .h (.c .h .n))) ?_
   refine Cl ?_
   refine C3 (k+1) _ _ _ ?_ ?_ (.t7 65 2 8 9 10 11 64) (.refl _)
   · exact⟨by omega,by omega,by rw [AH.Fx hI11,← hI13,show AH.piece e (AH.II e b) (AH.Fk e b) (AH.EN e b) k=_ from((AX c4).trans ((AX c5).trans ((AX c6).trans (BG c7))))],by assumption,by assumption,by assumption⟩
   · omega
  have c7p:=kz c7
  refine Gs (Gm J (Gt (Ai J J) (Ga J (Gn (.t9 2 8 9 10 11 13 64 65 124) ?_))))
  refine Gc (fun c8=>?_) (fun c8=>?_)
  ·
   have c8p:=kz c8
   refine AJ (Gt (Al dy J) (Gt (AI J A8 .m2 Ing.Event.l4 J J) ?_))
   refine BC J gy (.c J .n) (fun w hS=>Io _ w (gl1.st hS)) ?_
   refine Ak J Qs (.c J (.c J .n)) (.c (.t .h) (.c .h .n)) (BS _ _ _ _ (by assumption) (by assumption) (by assumption) _ (by omega)) (fun v25 B hv=>?_)
   obtain⟨y26,y27,rfl,y28,y29,y30,rfl⟩:=hv
   refine AR (AB (.t7 2 8 9 10 11 64 65) ?_)
   refine AV (AV (AA (AJ ?_)))
   refine Gt (Ay J J (IntWalk.i64_in _ (by first | omega | (simp only [List.length_cons,List.length_nil];omega)))) ?_
   refine Gm J ?_
   refine AR (AB (.t7 2 8 9 10 11 64 65) ?_)
   refine CK (.c (.t .h) (.c .h (.c .h .n))) ?_
   refine Cl ?_
   refine C3 (k+1) _ _ _ ?_ ?_ (.t7 65 2 8 9 10 11 64) (.refl _)
   · exact⟨by omega,by omega,by rw [AH.Fx hI11,← hI13,show AH.piece e (AH.II e b) (AH.Fk e b) (AH.EN e b) k=_ from((AX c4).trans ((AX c5).trans ((AX c6).trans ((AX c7).trans (BG c8)))))],by assumption,by assumption,by assumption⟩
   · omega
  have c8p:=kz c8
  refine Gs (Gm J (Gt (Ai J J) (Ga J (Gn (.t9 2 8 9 10 11 13 64 65 131) ?_))))
  refine Gc (fun c9=>?_) (fun c9=>?_)
  ·
   have c9p:=kz c9
   refine AJ (Gt (Al eY J) (Gt (AI J CO .m2 Ing.Event.l9 J J) ?_))
   refine Ak J Qs (.c J (.c J .n)) (.c (.t .h) (.c .h .n)) (BS _ _ _ _ (by assumption) (by assumption) (by assumption) _ (by omega)) (fun v31 B hv=>?_)
   obtain⟨y32,y33,rfl,y34,y35,y36,rfl⟩:=hv
   refine AR (AB (.t7 2 8 9 10 11 64 65) ?_)
   refine AV (AV (AA (AJ ?_)))
   refine Gt (Ay J J (IntWalk.i64_in _ (by first | omega | (simp only [List.length_cons,List.length_nil];omega)))) ?_
   refine Gm J ?_
   refine AR (AB (.t7 2 8 9 10 11 64 65) ?_)
   refine CK (.c (.t .h) (.c .h (.c .h .n))) ?_
   refine Cl ?_
   refine C3 (k+1) _ _ _ ?_ ?_ (.t7 65 2 8 9 10 11 64) (.refl _)
   · exact⟨by omega,by omega,by rw [AH.Fx hI11,← hI13,show AH.piece e (AH.II e b) (AH.Fk e b) (AH.EN e b) k=_ from((AX c4).trans ((AX c5).trans ((AX c6).trans ((AX c7).trans ((AX c8).trans (BG c9))))))],by assumption,by assumption,by assumption⟩
   · omega
  have c9p:=kz c9
  refine Gs (Gm J (Gt (Ai J J) (Ga J (Gn (.t9 2 8 9 10 11 13 64 65 137) ?_))))
  refine Gc (fun c10=>?_) (fun c10=>?_)
  ·
   have c10p:=kz c10
   refine AJ (Gt (Al ew J) (Gt (AI J A8 .m2 Ing.Event.l5 J J) ?_))
   refine BC J jd (.c J .n) (fun w hS=>MP _ hs.n0 hs.n1 w (gl0.st hS)) ?_
   refine Ak J Qs (.c J (.c J .n)) (.c (.t .h) (.c .h .n)) (BS _ _ _ _ (by assumption) (by assumption) (by assumption) _ (by omega)) (fun v37 B hv=>?_)
   obtain⟨y38,y39,rfl,y40,y41,y42,rfl⟩:=hv
   refine AR (AB (.t7 2 8 9 10 11 64 65) ?_)
   refine AV (AV (AA (AJ ?_)))
   refine Gt (Ay J J (IntWalk.i64_in _ (by first | omega | (simp only [List.length_cons,List.length_nil];omega)))) ?_
   refine Gm J ?_
   refine AR (AB (.t7 2 8 9 10 11 64 65) ?_)
   refine CK (.c (.t .h) (.c .h (.c .h .n))) ?_
   refine Cl ?_
   refine C3 (k+1) _ _ _ ?_ ?_ (.t7 65 2 8 9 10 11 64) (.refl _)
   · exact⟨by omega,by omega,by rw [AH.Fx hI11,← hI13,show AH.piece e (AH.II e b) (AH.Fk e b) (AH.EN e b) k=_ from((AX c4).trans ((AX c5).trans ((AX c6).trans ((AX c7).trans ((AX c8).trans ((AX c9).trans (BG c10)))))))],by assumption,by assumption,by assumption⟩
   · omega
  have c10p:=kz c10
  refine AJ (Gm J ?_)
  refine Ak J bV (.c J (.c J .n)) (.c (.t .h) (.c .h .n)) (Co _ _ _ _ (by assumption) (by assumption) (by assumption) _ (by omega)) (fun v43 B hv=>?_)
  obtain⟨y44,y45,rfl,y46,y47,y48,rfl⟩:=hv
  refine AR (AB (.t7 2 8 9 10 11 64 65) ?_)
  refine AV (AV (AA (AJ ?_)))
  refine Gt (Ay J J (IntWalk.i64_in _ (by first | omega | (simp only [List.length_cons,List.length_nil];omega)))) ?_
  refine Gm J ?_
  refine AR (AB (.t7 2 8 9 10 11 64 65) ?_)
  refine CK (.c (.t .h) (.c .h (.c .h .n))) ?_
  refine Cl ?_
  refine C3 (k+1) _ _ _ ?_ ?_ (.t7 65 2 8 9 10 11 64) (.refl _)
  · exact⟨by omega,by omega,by rw [AH.Fx hI11,← hI13,show AH.piece e (AH.II e b) (AH.Fk e b) (AH.EN e b) k=_ from((AX c4).trans ((AX c5).trans ((AX c6).trans ((AX c7).trans ((AX c8).trans ((AX c9).trans (AX c10)))))))],by assumption,by assumption,by assumption⟩
  · omega
 have c3p:=kz c3
 obtain rfl:k=((AH.EN e b).length:Int):=by omega
 refine Bg (AW (AW (Ah ?_)))
 refine AB (.t1 11) ?_
 refine AA (Gs ?_)
 refine Ak J ch (.c J .n) (.c (.t .h) (.c .h .n)) (C5 _ _ _ _ (by assumption) (by assumption) (by omega)) (fun v49 B hv=>?_)
 obtain⟨rfl,rfl⟩:=hv
 refine Ga J (Ga J (Gn (.t2 4 5) (Ac ?_)))
 refine AY J (.tmp J (.tmp J .n)) ?_
 intro w1 hS;refine⟨?_,hS.Ao⟩;rw [show AH.tell e b=_ from(AX c1).trans (AX c2),hI13];rfl
theorem HZ (p:Av)(w:World):Ev Tryz.prog 44 #[.agg p.enc.toArray] w fun v w'=>v = .bool (Page.Bk p)∧CH w w':=by
 refine Ap [] [] Tryz.func44 J J J (St.start w []) ?_
 refine Gs ?_
 refine CB J J J (fun b1=>?_)
 refine Ga J (Gn (.t1 1) (Gs (Gt (Al HS J) (Gt (AI J EU .m0 Av.l0 J J) (Gt (Au J Tryz.underlying52 J) (Gt (I3 J J) (Gm J ?_)))))))
 refine Bp 7 J J (fun q=>Al I2 J) (Bp 7 J J (fun q=>AI (Bo J q) CO .m0 Av.l3 J J) (Bp 7 J J (fun q=>BN J Tryz.underlying9 (Bo J q)) (Bp 7 J J (fun q=>I3 (Bo J q) J) (Gt (BQ J J (fun h=>h)) (Gm J (Bp 13 J J (fun q=>Al Nd J) (Bp 13 J J (fun q=>AI (Bo J q) A8 .m0 Av.l1 J J) ?_)))))))
 refine Bp 13 J J (fun q=>CZ (Bo J q) J) (Gt (BQ J J (fun h=>h)) (Gm J (Bp 18 J J (fun q=>Al Nd J) (Bp 18 J J (fun q=>AI (Bo J q) A8 .m0 Av.l1 J J) (Bp 18 J J (fun q=>I3 (Bo J q) J) (Gt (BQ J J (fun h=>h)) (Ga J ?_)))))))
 refine Gn (.t1 2) (Ac ?_)
 refine AY J (.tmp J .n) ?_
 intro w1 hS;refine⟨congrArg Value.bool ?_,hS.Ao⟩;rfl
theorem OC {t0:Nat}(p:Av)(qs:List Ad)(s:Ad):FO Tryz.prog 82 #[.agg p.enc.toArray,BW s] [] (fun w=>Rd w p.wait t0 1 (qs.flatMap A6)) (fun v B=>(Page.Bk p=false∧v = .tuple #[.agg p.enc.toArray, .int .i64 2]∧B = [])∨(Page.Bk p=true∧p.cut=true∧v = .tuple #[.agg p.enc.toArray, .int .i64 6]∧B = [])∨(Page.Bk p=true∧p.cut=false∧60≤qs.length∧v = .tuple #[.agg (Av.enc ⟨p.wait,p.shown,p.B5,p.ring,true⟩).toArray, .int .i64 0]∧B = [])∨(Page.Bk p=true∧p.cut=false∧qs.length < 60∧∃ h':Hd,v = .tuple #[.agg (Av.enc ⟨h',p.shown,p.B5,p.ring,p.cut⟩).toArray, .int .i64 0]∧h'.len=qs.length+1∧B = [Ab.own h' 9 1 ((qs ++ [s]).flatMap A6)])):=by
 intro w hS0 hH
 have r0:=hH
 have hl:=r0.Lz C7 (by decide)
 refine Ap _ _ Tryz.func82 J J J (hS0) ?_
 refine Gs ?_
 refine CB J J J (fun b1=>?_)
 refine BJ J Tv J (fun b2=>?_)
 refine Ga J (Gn (.t3 1 2 4) (Aq (Ag (Gs (Gt (AZ J C4 .m1 (AU.id Av.fl.len Av.fl.one) J) ?_)))))
 refine BC J eD (.c J .n) (fun w hS=>HZ _ w) ?_
 refine Gt (BZ J) (Ga J (Gn (.t4 1 2 4 6) ?_))
 refine Gc (fun c1=>?_) (fun c1=>?_)
 ·
  refine Gs (Gt (AZ J C4 .m1 (AU.id Av.fl.len Av.fl.one) J) ?_)
  refine AT (AL (AU.id Av.fl.len Av.fl.one) J J J Fb J .h) ?_
  refine Ga J (Gn (.t2 4 5) (Ac (AS (AD ?_))))
  refine AY J (.cell J .m0 (.inl ⟨(by rw [Av.fl.len];exact C4),J⟩) (.tmp J .n)) ?_
  intro w1 hS
  have hS:=(hS.perm (Ax.perm .n)).A5
  exact⟨_, .inl ⟨by simpa using c1,rfl,rfl⟩,hS⟩
 have c1p:=kz c1
 have hgd:Page.Bk p=true:=by simpa using c1
 have hg:=(Page.H8 p).1 hgd
 refine Gs (Gt (Al L9 J) (Gt (AI J D3 .m1 Av.l4 J J) (Ga J (Gn (.t4 1 2 4 11) ?_))))
 refine Gc (fun c2=>?_) (fun c2=>?_)
 ·
  refine Gs (Gt (AZ J C4 .m1 (AU.id Av.fl.len Av.fl.one) J) ?_)
  refine AT (AL (AU.id Av.fl.len Av.fl.one) J J J Fb J .h) ?_
  refine Ga J (Gn (.t2 4 5) (Ac (AS (AD ?_))))
  refine AY J (.cell J .m0 (.inl ⟨(by rw [Av.fl.len];exact C4),J⟩) (.tmp J .n)) ?_
  intro w1 hS
  have hS:=(hS.perm (Ax.perm .n)).A5
  exact⟨_, .inr (.inl ⟨hgd,c2,J,J⟩),hS⟩
 have c2p:=kz c2
 refine Gs (Gt (Al HS J) (Gt (AI J EU .m1 Av.l0 J J) (Gt (Au J Tryz.underlying52 J) (Gt (CZ J J) (Ga J (Gn (.t4 1 2 4 15) ?_))))))
 refine Gc (fun c3=>?_) (fun c3=>?_)
 ·
  have c3p:=kz c3
  refine Gs (Gt (Al L9 J) ?_)
  refine AT (AL Av.l4 J J J LG J (.t .h)) ?_
  refine Gn (.t2 2 4) (Gs (Gt (AZ J C4 .m1 (AU.id Av.fl.len Av.fl.one) J) ?_))
  refine AT (AL (AU.id Av.fl.len Av.fl.one) J J J Fb J .h) ?_
  refine Ga J (Gn (.t2 4 5) (Ac (AS (AD ?_))))
  refine AY J (.cell J .m0 (.inl ⟨(by rw [Av.fl.len];exact C4),J⟩) (.tmp J .n)) ?_
  intro w1 hS
  have hS:=(hS.perm (Ax.perm .n)).A5
  exact⟨_, .inr (.inr (.inl ⟨hgd,by simpa using c2,by simp at c3;omega,rfl,rfl⟩)),hS⟩
 have c3p:=kz c3
 refine Aa ?_
 refine AB (.t3 1 2 4) ?_
 refine AV (AA (Gs (Gt (Al HS J) (Gt (AI J EU .m1 Av.l0 J J) ?_))))
 refine BL J X1 (.c J .n) .n (B6 _ _ (by first | assumption | omega)) (fun w hS=>(Kn.I7 r0) w hS) (fun v1 B hv=>?_)
 obtain⟨y2,rfl,y3,rfl⟩:=hv
 refine Gm J ?_
 refine Fe A6 C7 J Tryz.underlying52 Ed SJ J (by decide) (by decide) J J (fun b3=>?_)
 refine CW C7 J Tryz.underlying52 Ed SJ J Yf (by decide) (by decide) J J (fun w hS=>Src.D4 Tryz.underlying52 ((Kn.own .m0) w hS)) (by(try dsimp only);omega) (fun _=>(.t .h)) (fun h5 h5l h5z=>?_)
 refine Gt (Al HS J) ?_
 refine AT (AL Av.l0 J J J MA J (.t (.t (.t .h)))) ?_
 refine Gn (.t2 2 4) (Gs (Gt (AZ J C4 .m3 (AU.id Av.fl.len Av.fl.one) J) ?_))
 refine AT (AL (AU.id Av.fl.len Av.fl.one) J J J Fb J (.t (.t .h))) ?_
 refine Ga J (Gn (.t2 4 5) (Ac ?_))
 refine AY J (.cell J .m2 (.inl ⟨(by rw [Av.fl.len];exact C4),J⟩) (.tmp J .n)) ?_
 intro w1 hS
 have hS:=(hS.perm (Ax.perm (.c (.t .h) .n))).A5
 exact⟨_, .inr (.inr (.inr ⟨hgd,by simpa using c2,by simp at c3;omega,_,rfl,by(try dsimp only at *);(try simp only [List.length_cons,List.length_nil] at *);omega,rfl⟩)),hS⟩
theorem EZ (b:Nat)(V:AN)(ls:Vector BD 4)(ev:List Ing.Event)(k:Int)(u:Ad)(hk:0≤k∧k < 4)(ht:(ls.at k).told.length≤1000000):KN Tryz.prog 64 #[.pointer (some ⟨b,0,none⟩), .pointer (some ⟨b,165+k.toNat * 22,none⟩),BW u] [Ab.box b 101 (AN.enc V),Ab.DP (CQ 9 (AN.Ar V) ls),Ab.own (AN.last V) 56 16 ((ev).flatMap Ing.Event.enc)] (fun v B=>∃ V' ls' ev',v = .tuple #[]∧A7 V' ls' ev'=AG.tell (A7 V ls ev) k u∧B = [Ab.box b 101 (AN.enc V'),Ab.DP (CQ 9 (AN.Ar V') ls'),Ab.own (AN.last V') 56 16 ((ev').flatMap Ing.Event.enc)]):=by
 intro w hS0
 refine Ap _ _ Tryz.func64 J J J (hS0) ?_
 refine Fj (k:=k) hk.1 hk.2 (fun sv sl hsv hlv hln=>?_)
 refine Be (.t (.t (.t .h))) ?_
 refine Be (.t (.t .h)) ?_
 refine cY (Lm:= [_,_]) (fun(o:Av) (w0:Hd) (ws:List Ad)=>Cw { sv with out:=o } ⟨sl.queue,ws,sl.told⟩=(Cw sv sl).line u∧o.wait=w0) (fun(o:Av) (w0:Hd) (ws:List Ad)=> []) (fun(o:Av) (w0:Hd) (ws:List Ad)=> [Ab.own w0 9 1 (ws.flatMap A6),Ab.box b 101 (Ka V k { sv with out:=o })]) (.t2 1 2) J ?_ (fun o w0 ws hC=>?_)
 ·
  refine AJ (Gm J (Gm J (Gt (Bb J) (Gt (Al D2 J) (Gt (AZ J C4 .m1 ((AU.A3 V hk.1 hk.2).comp A4.l4) J) (Gm J ?_))))))
  refine BL J ir (.c J (.c J .n)) .n (OC _ _ _) (fun w hS=>(Kn.own .m0) w hS) (fun v1 B hv=>?_)
  rcases hv with ⟨y2,rfl,rfl⟩ | ⟨y3,y4,rfl,rfl⟩ | ⟨y5,y6,y7,rfl,rfl⟩ | ⟨y8,y9,y10,y11,rfl,y12,rfl⟩
  ·
   refine Gm J (Gt (AM J J) (Gt (AM J J) (Gt (Bb J) (Gt (Al D2 J) ?_))))
   refine AT (AL ((AU.A3 V hk.1 hk.2).comp A4.l4) J J J Fb J (.t .h)) ?_
   refine AR (AB (.t2 1 2) ?_)
   refine OP _ _ _ ?_ (.t2 1 2) (.refl _)
   · exact⟨(Zt hln.2.1 y2).symm,J⟩
  ·
   refine Gm J (Gt (AM J J) (Gt (AM J J) (Gt (Bb J) (Gt (Al D2 J) ?_))))
   refine AT (AL ((AU.A3 V hk.1 hk.2).comp A4.l4) J J J Fb J (.t .h)) ?_
   refine AR (AB (.t2 1 2) ?_)
   refine OP _ _ _ ?_ (.t2 1 2) (.refl _)
   · exact⟨(Zj hln.2.1 y3 y4).symm,J⟩
  ·
   refine Gm J (Gt (AM J J) (Gt (AM J J) (Gt (Bb J) (Gt (Al D2 J) ?_))))
   refine AT (AL ((AU.A3 V hk.1 hk.2).comp A4.l4) J J J Fb J (.t .h)) ?_
   refine AR (AB (.t2 1 2) ?_)
   refine OP _ _ _ ?_ (.t2 1 2) (.refl _)
   · exact⟨(YX hln.2.1 y5 y6 y7).symm,J⟩
  refine Gm J (Gt (AM J J) (Gt (AM J J) (Gt (Bb J) (Gt (Al D2 J) ?_))))
  refine AT (AL ((AU.A3 V hk.1 hk.2).comp A4.l4) J J J Fb J (.t (.t .h))) ?_
  refine AR (AB (.t2 1 2) ?_)
  refine CK (.c .h (.c (.t .h) (.c (.t .h) (.c (.t .h) (.c (.t .h) (.c (.t .h) .n)))))) ?_
  refine Cl ?_
  refine OP _ _ _ ?_ (.t2 1 2) (.refl _)
  · exact⟨(Xl hln.2.1 y8 y9 y10 _).symm,J⟩
 obtain⟨hE1,hE2⟩:=hC
 have ht2:sl.told.length≤1000000:=by rw [← hlv];exact ht
 refine Gs (Gm J (Gt (Bb J) (Gt (Al D2 J) (Gt (Al L9 J) (Gt (AI J D3 .m1 (((AU.A3 V hk.1 hk.2).comp A4.l4).comp Av.l4) J J) (Gt (BZ J) (Gn (.t3 1 2 23) ?_)))))))
 refine Gc (fun c1=>?_) (fun c1=>?_)
 ·
  have c1p:=kz c1
  refine AJ (Gm J (Gm J (Gt (Bb J) (Gt (Al So J) (Gt (AI J EU .m1 ((AU.A3 V hk.1 hk.2).comp A4.l5) J J) (Gm J ?_))))))
  refine Fe A6 C7 J Tryz.underlying52 Ed SJ J (by decide) (by decide) J J (fun b1=>?_)
  refine CW C7 J Tryz.underlying52 Ed SJ J Yf (by decide) (by decide) J J (fun w hS=>Src.D4 Tryz.underlying52 ((Kn.own .m0) w hS)) (by(try dsimp only);omega) (fun _=>(.t (.t (.t (.t .h))))) (fun h14 h14l h14z=>?_)
  refine Gt (Bb J) (Gt (Al So J) ?_)
  refine AT (AL ((AU.A3 V hk.1 hk.2).comp A4.l5) J J J MA J (.t (.t .h))) ?_
  refine AR ?_
  refine Bs J .n ?_
  intro w1 hS
  have hS:=(hS.perm (Ax.perm (.c (.t (.t (.t .h))) (.c (.t .h) (.c (.t (.t .h)) (.c (.t .h) (.c (.t .h) (.c (.t .h) .n)))))))).A5
  have hS:=hS.close' hk.1 hk.2 (by rfl) (by exact hE2) (by rfl)
  refine⟨_,⟨V.A3 k _,ls.put k ⟨_,_,_⟩,ev,J,?ga1,J⟩,hS⟩
  case ga1=>exact E3 hk.1 hk.2 hsv hlv (f:=fun x=>x.tell u) (by show _=((Cw sv sl).line u).note u;rw [← hE1];exact(dj (l:=⟨sl.queue,ws,sl.told⟩) c1 _).symm)
 refine Aa ?_
 refine Bs J .n ?_
 intro w1 hS
 have hS:=(hS.perm (Ax.perm (.c (.t (.t .h)) (.c .h (.c (.t .h) (.c .h (.c .h (.c .h .n)))))))).A5
 have hS:=hS.close' hk.1 hk.2 (by rfl) (by exact hE2) (by rfl)
 refine⟨_,⟨V.A3 k _,ls.put k ⟨_,_,_⟩,ev,J,?ga2,J⟩,hS⟩
 case ga2=>exact E3 hk.1 hk.2 hsv hlv (f:=fun x=>x.tell u) (by show _=((Cw sv sl).line u).note u;rw [← hE1];exact(fE (l:=⟨sl.queue,ws,sl.told⟩) c1).symm)
theorem FJ (b:Nat)(V:AN)(ls:Vector BD 4)(ev:List Ing.Event)(f:Hd)(es:List Ing.Event)(n:Nat)(hf:f.len=es.length)(hn:Yn ls n)(hm:n+es.length≤1000000)(hl:ev.length≤1000000)(he:(∀ e∈es,∀ c:Int,(decide (c < 0) || decide (6≤c) || decide (AH.Pb (e.H0.at c) 1=0))=false→AH.Small e)):FO Tryz.prog 79 #[.pointer (some ⟨b,0,none⟩),f.val] [Ab.box b 101 (AN.enc V),Ab.DP (CQ 9 (AN.Ar V) ls),Ab.own (AN.last V) 56 16 ((ev).flatMap Ing.Event.enc),Ab.own f 56 16 (es.flatMap Ing.Event.enc)] (fun w=>(GV 2 GJ w∧2 ∉ Ch [Ab.box b 101 (AN.enc V),Ab.DP (CQ 9 (AN.Ar V) ls),Ab.own (AN.last V) 56 16 ((ev).flatMap Ing.Event.enc),Ab.own f 56 16 (es.flatMap Ing.Event.enc)])∧(GV 0 AH.DU w∧0 ∉ Ch [Ab.box b 101 (AN.enc V),Ab.DP (CQ 9 (AN.Ar V) ls),Ab.own (AN.last V) 56 16 ((ev).flatMap Ing.Event.enc),Ab.own f 56 16 (es.flatMap Ing.Event.enc)])) (fun v B=>∃ V' ls' ev',v = .tuple #[]∧A7 V' ls' ev'=AG.HQ (A7 V ls ev) es∧B = [Ab.box b 101 (AN.enc V'),Ab.DP (CQ 9 (AN.Ar V') ls'),Ab.own (AN.last V') 56 16 ((ev').flatMap Ing.Event.enc),Ab.own f 56 16 (es.flatMap Ing.Event.enc)]):=by
 intro w hS0 hH
 obtain⟨⟨gl0,gm0⟩,⟨gl1,gm1⟩⟩:=hH
 refine Ap _ _ Tryz.func79 J J J (hS0) ?_
 refine Aq ?_
 refine Uo (fun w hS=>(Kn.own .m2 w hS).Lz Ing.Event.fl (by decide)) (fun hLl=>?_)
 refine AJ (Gm J (Gm J (Gt (Bb J) (Gt (Al Rp J) (Gt (AI J D1 .m0 AN.l3 J J) (Gm J ?_))))))
 refine CW Ing.Event.fl J Tryz.underlying53 QN JE J bF (by decide) (by decide) J J (fun w hS=>Src.D4 Tryz.underlying53 ((Kn.own .m3) w hS)) (by(try dsimp only);omega) (fun _=>(.t (.t .h))) (fun h1 h1l h1z=>?_)
 refine Gt (Bb J) (Gt (Al Rp J) ?_)
 refine AT (AL AN.l3 J J J Tj J .h) ?_
 refine Gn (.t2 0 1) (Gs (Gm J (Gt (Au J Tryz.underlying53 J) (Gm J (Gn (.t4 0 19 20 21) (Ag ?_))))))
 refine Bw (.t4 21 0 19 20) ?_
 refine Be (.t (.t .h)) ?_
 refine Be (.t (.t .h)) ?_
 refine Be (.t (.t .h)) ?_
 refine IM (fun(k:Int) (V1:AN) (ls1:Vector BD 4) (ev1:List Ing.Event)=>0≤k∧k≤(es.length:Int)∧A7 V1 ls1 ev1=({ (A7 V ls ev) with last:=ev++es }:AG).Hy (es.take k.toNat)∧Yn ls1 (n+k.toNat)) (fun(k:Int) (V1:AN) (ls1:Vector BD 4) (ev1:List Ing.Event)=>((es.length:Int) - k).toNat) (fun(k:Int) (V1:AN) (ls1:Vector BD 4) (ev1:List Ing.Event)=> [(21, .int .i64 k)]) (fun(k:Int) (V1:AN) (ls1:Vector BD 4) (ev1:List Ing.Event)=> [Ab.box b 101 (AN.enc V1),Ab.DP (CQ 9 (AN.Ar V1) ls1),Ab.own (AN.last V1) 56 16 (ev1.flatMap Ing.Event.enc)]) (0) (_) (_) (_) ?_ J J (fun k V1 ls1 ev1 hI1=>?_)
 · exact⟨by omega,by omega,rfl,hn⟩
 obtain⟨hI11,hI12,hI13,hI14⟩:=hI1
 refine Gs (Gt (BA J J) (AR (AA (Aq ?_))))
 refine Gc (fun c1=>?_) (fun c1=>?_)
 ·
  have c1p:=kz c1
  refine Aa ?_
  refine AB (.t4 0 19 20 21) ?_
  refine AA (Aq (Ag (Gs ?_)))
  refine Gt (Bz ji (by decide) (Kn.own .m3) J J (by omega) (by omega)) ?_
  refine Gt (QU J PR (by decide) Ing.Event.fl (Kn.own .m3) (by omega)) ?_
  refine BJ J JE J (fun b1=>?_)
  refine AT (AL (AU.id Ing.Event.fl.len Ing.Event.fl.one) J J J QN J .h) ?_
  refine Gn (.t5 0 5 19 20 21) (Gs (Gm J (AR (AA (Ag ?_)))))
  refine Bw (.t6 25 0 5 19 20 21) ?_
  refine Be (.t (.t (.t .h))) ?_
  refine Be (.t (.t (.t .h))) ?_
  refine Be (.t (.t (.t .h))) ?_
  refine IM (fun(i:Int) (V2:AN) (ls2:Vector BD 4) (ev2:List Ing.Event)=>0≤i∧i≤4∧A7 V2 ls2 ev2=AG.CS (es.getD k.toNat default) (A7 V1 ls1 ev1) i.toNat∧(∀ j:Int,i≤j→j < 4→(ls2.at j).told.length≤n+k.toNat)∧(∀ j:Int,0≤j→j < 4→(ls2.at j).told.length≤n+k.toNat+1)) (fun(i:Int) (V2:AN) (ls2:Vector BD 4) (ev2:List Ing.Event)=>(4 - i).toNat) (fun(i:Int) (V2:AN) (ls2:Vector BD 4) (ev2:List Ing.Event)=> [(25, .int .i64 i)]) (fun(i:Int) (V2:AN) (ls2:Vector BD 4) (ev2:List Ing.Event)=> [Ab.box b 101 (AN.enc V2),Ab.DP (CQ 9 (AN.Ar V2) ls2),Ab.own (AN.last V2) 56 16 (ev2.flatMap Ing.Event.enc)]) (0) (V1) (ls1) (ev1) ?_ J J (fun i V2 ls2 ev2 hI2=>?_)
  · exact⟨by omega,by omega,rfl,(fun j j0 j1=>hI14 j j0 j1),(fun j j0 j1=>Nat.le_succ_of_le (hI14 j j0 j1))⟩
  obtain⟨hI21,hI22,hI23,hI24,hI25⟩:=hI2
  refine Gs (Gt (BA J J) (AR (AA (Aq ?_))))
  refine Gc (fun c2=>?_) (fun c2=>?_)
  ·
   have c2p:=kz c2
   refine Aa ?_
   refine AB (.t6 0 5 19 20 21 25) ?_
   refine AA (Aq (Ag (Gs (Gm J (Ga J (Gn (.t7 0 5 6 19 20 21 25) (Gs ?_)))))))
   refine Gm J (Gm J (Gt (Bb J) (Gt (Al Gz J) ?_)))
   refine Gt (AQ Qm J J (by omega) (by omega)) ?_
   refine Ga J (Gn (.t7 0 5 7 19 20 21 25) (CL (Gm J (Gt (Bb J) (Gt (Al Jx J) ?_)))))
   refine Gt (AI J A8 .m0 ((AN.l1.comp (AU.ar (n:=4) A4.fl (by omega))).comp A4.l0) J J) ?_
   refine Gt (Cm J J) (Gn (.t8 0 5 7 19 20 21 25 37) ?_)
   refine Gc (fun c3=>?_) (fun c3=>?_)
   ·
    have c3p:=kz c3
    refine Bg (AW (Ah ?_))
    refine AB (.t6 0 5 19 20 21 25) ?_
    refine AA (AJ ?_)
    refine Gt (Ay J J (IntWalk.i64_in _ (by omega))) ?_
    refine Gm J ?_
    refine AR (AB (.t6 0 5 19 20 21 25) ?_)
    refine C3 (i+1) _ _ _ ?_ ?_ (.t6 25 0 5 19 20 21) (.refl _)
    · exact⟨by omega,by omega,((L2 hI21 (by omega) hI23).trans (BG c3)).symm,(fun j j0 j1=>hI24 j (by omega) j1),hI25⟩
    · omega
   have c3p:=kz c3
   refine Aa ?_
   refine AB (.t7 0 5 7 19 20 21 25) ?_
   refine AA (Aq ?_)
   refine BE (N:=11) [0,0,2,6,14,31,63,127,127,255,1023] mix (by kernel_rfl) J ?_
   refine Pf 0 J (AZ J PR .m3 (AU.id Ing.Event.fl.len Ing.Event.fl.one) J) (Pf 1 J (AF J) (Pf 2 J (Bb J) (Pf 3 J (Al I9 J) ?_)))
   refine Pf 4 J (AI J A8 .m0 ((AN.l1.comp (AU.ar (n:=4) A4.fl (by omega))).comp A4.l1) J J) ?_
   refine BI 5 J J (by kernel_rfl) (LI (J4 (D0 jV (.c J (.c J .n)) (fun w hS=>OL (es.getD k.toNat default) _ (he _ (RT (d:=default) (xs:=es) (i:=k.toNat) (by omega)) _) w (gl0.stM gm0 hS) (gl1.stM gm1 hS))))) ?_
   refine Pf 6 J (AF J) (Pf 7 J (AM J J) (Pf 8 J (AM J J) (Pf 9 J (A0 J) (Pf 10 J (A0 J) ?_))))
   refine A2 (by kernel_rfl) ?_
   refine AB (.t9 0 5 7 8 9 19 20 21 25) ?_
   refine AA (Gs (Gm J (Gn (.t9 0 5 7 8 19 20 21 25 47) ?_)))
   refine Gc (fun c4=>?_) (fun c4=>?_)
   ·
    have c4p:=kz c4
    refine AJ (Gm J (Gm J (Gm J ?_)))
    refine Ak J VN (.c J (.c J (.c J .n))) (.c .h (.c .h (.c .h .n))) (EZ _ V2 ls2 _ i _ (by omega) (Nat.le_trans (hI24 i (by omega) (by omega)) (by omega))) (fun v2 B hv=>?_)
    obtain⟨y3,y4,y5,rfl,y6,rfl⟩:=hv
    refine AR (AB (.t6 0 5 19 20 21 25) ?_)
    refine AV (AA (AJ ?_))
    refine Gt (Ay J J (IntWalk.i64_in _ (by omega))) ?_
    refine Gm J ?_
    refine AR (AB (.t6 0 5 19 20 21 25) ?_)
    refine C3 (i+1) _ _ _ ?_ ?_ (.t6 25 0 5 19 20 21) (.refl _)
    · exact⟨by omega,by omega,y6.trans ((L2 hI21 (by omega) hI23).trans ((AX c3).trans (BG c4))).symm,(fun j j0 j1=>by have h:=hI24 j (by omega) j1;rw [(Lj hI21 (by omega) y6 (by omega) j1).2 (by omega)];exact h),(fun j j0 j1=>if c:j=i then(by subst c;have h:=hI24 j (by omega) j1;have h2:=(Lj hI21 (by omega) y6 j0 j1).1;omega) else(by rw [(Lj hI21 (by omega) y6 j0 j1).2 c];exact hI25 j j0 j1))⟩
    · omega
   have c4p:=kz c4
   refine Aa ?_
   refine AB (.t6 0 5 19 20 21 25) ?_
   refine AV (AA (AJ ?_))
   refine Gt (Ay J J (IntWalk.i64_in _ (by omega))) ?_
   refine Gm J ?_
   refine AR (AB (.t6 0 5 19 20 21 25) ?_)
   refine C3 (i+1) _ _ _ ?_ ?_ (.t6 25 0 5 19 20 21) (.refl _)
   · exact⟨by omega,by omega,((L2 hI21 (by omega) hI23).trans ((AX c3).trans (AX c4))).symm,(fun j j0 j1=>hI24 j (by omega) j1),hI25⟩
   · omega
  have c2p:=kz c2
  obtain rfl:i=4:=by omega
  refine Bg (AW (AW (Ah ?_)))
  refine AB (.t4 0 19 20 21) ?_
  refine AV (AA (AJ ?_))
  refine Gt (Ay J J (IntWalk.i64_in _ (by omega))) ?_
  refine Gm J ?_
  refine AR (AB (.t4 0 19 20 21) ?_)
  refine CK (.c .h (.c .h (.c .h (.c (.t .h) .n)))) ?_
  refine Cl ?_
  refine C3 (k+1) _ _ _ ?_ ?_ (.t4 21 0 19 20) (.refl _)
  · exact⟨by omega,by omega,by rw [VD hI11 (by omega),← hI13];exact hI23,fun j j0 j1=>by have h:=hI25 j j0 j1;rw [show(k+1).toNat=k.toNat+1 by omega];omega⟩
  · omega
 have c1p:=kz c1
 obtain rfl:k=(es.length:Int):=by omega
 refine Bg (AW (AW (Ah ?_)))
 refine Bs J .n ?_
 intro w1 hS
 have hS:=(hS.perm (Ax.perm (.c .h (.c .h (.c .h (.c .h .n)))))).A5
 refine⟨_,⟨V1,ls1,ev1,J,?ga,J⟩,hS⟩
 case ga=>rw [hI13,show(es.length:Int).toNat=es.length by omega,List.take_length];exact(aW rfl).symm
theorem R0 (b:Nat)(V:AN)(ls:Vector BD 4)(ev:List Ing.Event)(k:Int)(u:Ad)(n m:Nat)(hk:0≤k∧k < 4)(hF:AG.Fit (A7 V ls ev) n m)(hn:n≤900000)(hm:m≤900000)(hu:u.length≤1000):FO Tryz.prog 93 #[.pointer (some ⟨b,0,none⟩), .pointer (some ⟨b,165+k.toNat * 22,none⟩),BW u] [Ab.box b 101 (AN.enc V),Ab.DP (CQ 9 (AN.Ar V) ls),Ab.own (AN.last V) 56 16 ((ev).flatMap Ing.Event.enc)] (fun w=>(GV 2 GJ w∧2 ∉ Ch [Ab.box b 101 (AN.enc V),Ab.DP (CQ 9 (AN.Ar V) ls),Ab.own (AN.last V) 56 16 ((ev).flatMap Ing.Event.enc)])∧(GV 0 AH.DU w∧0 ∉ Ch [Ab.box b 101 (AN.enc V),Ab.DP (CQ 9 (AN.Ar V) ls),Ab.own (AN.last V) 56 16 ((ev).flatMap Ing.Event.enc)])) (fun v B=>∃ V' ls' ev',v = .tuple #[]∧A7 V' ls' ev'=AG.named (A7 V ls ev) k u∧B = [Ab.box b 101 (AN.enc V'),Ab.DP (CQ 9 (AN.Ar V') ls'),Ab.own (AN.last V') 56 16 ((ev').flatMap Ing.Event.enc)]):=by
 intro w hS0 hH
 obtain⟨⟨gl0,gm0⟩,⟨gl1,gm1⟩⟩:=hH
 have hel:=AE.RQ V.w u
 have hes:=AE.Jh (s:=u) hF.F8
 have htn:=HM hF
 refine Ap _ _ Tryz.func93 J J J (hS0) ?_
 refine Gs (Gm J (Gt (Bb J) (Gt (Al Ea J) (Gt (AZ J Bf .m0 AN.l0 J) (Gm J ?_)))))
 refine BL J iN (.c J (.c J .n)) .n (NG V.w u hF.F8.Hb (by omega)) (fun w hS=>gl1.pull gm1 hS .n) (fun v1 B hv=>?_)
 obtain⟨y2,rfl,y3,rfl⟩:=hv
 refine Gm J (Gt (AM J J) (Gt (AM J J) (Gt (AM J J) (Gt (AM J J) ?_))))
 refine BJ J N8 J (fun b1=>?_)
 refine AT (AL (AU.id AH.fl.len AH.fl.one) J J J EP J .h) ?_
 refine Ga J (Ga J (Ga J (Gn (.t6 0 1 6 7 8 9) (Gs (Gm J (Gn (.t6 0 1 6 7 8 21) (Ag ?_)))))))
 refine Gs (Gt (Ai J J) (Ga J (Gn (.t7 0 1 6 7 8 21 25) ?_)))
 refine Gc (fun c1=>?_) (fun c1=>?_)
 ·
  have c1p:=kz c1
  refine Gs (Gm J (Gt (AZ J Bf .m0 (AU.id AH.fl.len AH.fl.one) J) (Gt (Bb J) (Gt (Al Ea J) ?_))))
  refine AT (AL AN.l0 J J J EP J (.t (.t .h))) ?_
  refine Gn (.t4 0 1 7 8) (Aq ?_)
  refine Ep (.c (.t (.t .h)) (.c (.t (.t .h)) .n)) ?_
  refine Fj (k:=k) hk.1 hk.2 (fun sv sl hsv hlv hln=>?_)
  refine AJ (Gm J (Gm J (Gm J (Gt (Bb J) (Gt (Al Jx J) ?_)))))
  refine AT (AL ((AU.A3 { V with w:=(AE.Bc V.w u).1 } hk.1 hk.2).comp A4.l0) J J J DO J (.t (.t (.t .h)))) ?_
  refine Gt (Bb J) (Gt (Al I9 J) ?_)
  refine AT (AL ((AU.A3 { V with w:=(AE.Bc V.w u).1 } hk.1 hk.2).comp A4.l1) J J J DO J (.t (.t (.t .h)))) ?_
  refine Gn (.t2 0 8) ?_
  refine Ep (.c .h (.c .h (.c .h (.c .h (.c .h .n))))) ?_
  refine Hp hk.1 hk.2 (by rfl) (by rfl) (by rfl) ?_
  refine AJ (Gm J (Gm J ?_))
  refine BL J XX (.c J (.c J .n)) (.c .h (.c .h (.c (.t (.t .h)) (.c (.t .h) .n)))) (FJ _ (AN.A3 { V with w:=(AE.Bc V.w u).1 } k { sv with state:=2,Aw:=(AE.Bc V.w u).2.1 }) (ls.put k ⟨sl.queue,sl.wait,sl.told⟩) ev _ (AE.Bc V.w u).2.2.1 n (by assumption) (HM (by rw [(show A7 (AN.A3 { V with w:=(AE.Bc V.w u).1 } k { sv with state:=2,Aw:=(AE.Bc V.w u).2.1 }) (ls.put k ⟨sl.queue,sl.wait,sl.told⟩) ev=({ (A7 V ls ev) with w:=(AE.Bc V.w u).1 }:AG).set k { AG.at_ (A7 V ls ev) k with state:=2,Aw:=(AE.Bc V.w u).2.1 } from E3 (V:={ V with w:=(AE.Bc V.w u).1 }) hk.1 hk.2 hsv hlv (f:=fun x=>{ x with state:=2,Aw:=(AE.Bc V.w u).2.1 }) rfl)];exact hF.enters hk.1 hk.2 (of_decide_eq_true c1))) (by omega) (Nat.le_trans hF.last (by omega)) (fun e he c _=>hes.2 e he)) (fun w hS=>⟨gl0.pull gm0 hS (.c .h (.c .h (.c (.t (.t .h)) (.c (.t .h) .n)))),gl1.pull gm1 hS (.c .h (.c .h (.c (.t (.t .h)) (.c (.t .h) .n))))⟩) (fun v5 B hv=>?_)
  obtain⟨y6,y7,y8,rfl,y9,rfl⟩:=hv
  refine AR (AB (.nil _) ?_)
  refine AV ?_
  refine Bs J .n ?_
  intro w1 hS
  have hS:=(hS.perm (Ax.perm (.c .h (.c .h (.c .h .n))))).A5
  refine⟨_,⟨y6,y7,y8,J,?ga1,J⟩,hS⟩
  case ga1=>exact ca c1 (show A7 (AN.A3 { V with w:=(AE.Bc V.w u).1 } k { sv with state:=2,Aw:=(AE.Bc V.w u).2.1 }) (ls.put k ⟨sl.queue,sl.wait,sl.told⟩) ev=({ (A7 V ls ev) with w:=(AE.Bc V.w u).1 }:AG).set k { AG.at_ (A7 V ls ev) k with state:=2,Aw:=(AE.Bc V.w u).2.1 } from E3 (V:={ V with w:=(AE.Bc V.w u).1 }) hk.1 hk.2 hsv hlv (f:=fun x=>{ x with state:=2,Aw:=(AE.Bc V.w u).2.1 }) rfl) y9
 have c1p:=kz c1
 refine Gs (Gt (Ai J J) (Ga J (Gn (.t3 0 1 41) ?_)))
 refine Gc (fun c2=>?_) (fun c2=>?_)
 ·
  have c2p:=kz c2
  refine AJ (Gm J (Gm J ?_))
  refine Ak J VN (.c J (.c J (.c J .n))) (.c (.t (.t .h)) (.c (.t (.t .h)) (.c (.t (.t .h)) .n))) (EZ _ V ls ev k _ hk (Nat.le_trans (htn k hk.1 hk.2) (by omega))) (fun v10 B hv=>?_)
  obtain⟨y11,y12,y13,rfl,y14,rfl⟩:=hv
  refine AR (AB (.nil _) ?_)
  refine AV ?_
  refine Bs J .n ?_
  intro w1 hS
  have hS:=(hS.perm (Ax.perm (.c .h (.c .h (.c .h .n))))).A5
  refine⟨_,⟨y11,y12,y13,J,?ga2,J⟩,hS⟩
  case ga2=>exact ck c1 c2 y14
 have c2p:=kz c2
 refine AJ (Gm J (Gm J ?_))
 refine Ak J VN (.c J (.c J (.c J .n))) (.c (.t (.t .h)) (.c (.t (.t .h)) (.c (.t (.t .h)) .n))) (EZ _ V ls ev k _ hk (Nat.le_trans (htn k hk.1 hk.2) (by omega))) (fun v15 B hv=>?_)
 obtain⟨y16,y17,y18,rfl,y19,rfl⟩:=hv
 refine AR (AB (.nil _) ?_)
 refine AV ?_
 refine Bs J .n ?_
 intro w1 hS
 have hS:=(hS.perm (Ax.perm (.c .h (.c .h (.c .h .n))))).A5
 refine⟨_,⟨y16,y17,y18,J,?ga3,J⟩,hS⟩
 case ga3=>exact bO c1 c2 y19
theorem B0 (z:Int):KN Tryz.prog 150 #[.int .i64 z] [] (fun v B=>v = .tuple #[.agg (Order.enc default).toArray, .int .i64 z]∧B = []):=by
 intro w hS0
 refine Ap _ _ Tryz.func150 J J J (hS0) ?_
 refine Gs ?_
 refine BJ J Mm J (fun b1=>?_)
 refine Ga J (Gn (.t2 0 2) (Gs (Gt (BF Td Mm J .nil) (Gm J ?_))))
 refine AT (AL (AU.id Order.fl.len Order.fl.one) J J J EK J .h) ?_
 refine Ga J (Gn (.t2 2 3) (Ac ?_))
 refine AY J (.cell J .m0 (.inl ⟨(by rw [Order.fl.len];exact CI),J⟩) (.tmp J .n)) ?_
 intro w1 hS
 have hS:=(hS.perm (Ax.perm .n)).A5
 exact⟨_,⟨J,J⟩,hS⟩
theorem Fo (s:Ad)(c:UInt8)(w:World):Ev Tryz.prog 176 #[BW s,BW [c]] w fun v w'=>v = .int .i64 (Lib.indexByte s c)∧CH w w':=by
 refine Ap [] [] Tryz.func176 J J J (St.start w []) ?_
 refine Gs (Ga J (Gn (.t2 0 1) (Gs (Gm J (Gm J ?_)))))
 refine BC J gH (.c J (.c J .n)) (fun w hS=>EH _ _ w) ?_
 refine Ga J (Gn (.t1 4) (Ac ?_))
 refine AY J (.tmp J .n) ?_
 intro w1 hS;refine⟨?_,hS.Ao⟩;rfl
theorem Hx (s:Ad)(c:UInt8)(w:World):Ev Tryz.prog 174 #[BW s,BW [c]] w fun v w'=>v = .int .i64 ((s.count c:Nat):Int)∧CH w w':=by
 refine Ap [] [] Tryz.func174 J J J (St.start w []) ?_
 refine Gs (Ga J (Gn (.t2 0 1) (CL (Gm J (Gt (BN J Tryz.underlying9 J) (Gt (Ai J J) (Gn (.t3 0 1 9) ?_)))))))
 refine D9 J (by simp) ?_
 refine Aa ?_
 refine AB (.t2 0 1) ?_
 refine AA (CL (Gm J (Gt (BN J Tryz.underlying9 J) (Gt (Ai J J) (Gn (.t3 0 1 15) ?_)))))
 refine HW J (by simp) ?_
 refine Gs (Gm J (Gm J ?_))
 refine Gt (Bt Tryz.underlying9 J J (by decide) (by first | omega | simp)) ?_
 refine Gt (Oc Tryz.func185 (by kernel_rfl) (by kernel_rfl) (by kernel_rfl) (by kernel_rfl) J J) ?_
 refine Ga J (Gn (.t1 4) (Ac (AD ?_)))
 refine AY J (.tmp J .n) ?_
 intro w1 hS;refine⟨?_,hS.Ao⟩;rfl
theorem J9 (s:Ad)(c:UInt8)(hs:s.length≤10000000):KN Tryz.prog 179 #[BW s,BW [c], .int .i64 0, .int .i64 (-1)] [] (fun v B=>∃ h':Hd,v=h'.val∧h'.len=(Words.pieces c s).length∧B = [Ab.own h' 9 1 ((Words.pieces c s).flatMap A6)]):=by
 intro w hS0
 have hcl:=List.count_le_length (a:=c) (l:=s)
 have hpl:=Words.Fp c s
 refine Ap _ _ Tryz.func179 J J J (hS0) ?_
 refine Gs (Ga J (Gn (.t4 0 1 2 3) (CL (Gm J (Gt (Ai J J) (Gn (.t5 0 1 2 3 13) ?_))))))
 refine D9 J (by simp) ?_
 refine Aa ?_
 refine AB (.t4 0 1 2 3) ?_
 refine AA (CL (Gm J (Gt (B4 J J) (Gn (.t5 0 1 2 3 15) ?_))))
 refine D9 J (by simp) ?_
 refine Aa ?_
 refine AB (.t4 0 1 2 3) ?_
 refine AA (CL (Gm J (Gt (BA J J) (Gn (.t5 0 1 2 3 20) ?_))))
 refine HW J (by simp) ?_
 refine AJ (Gm J (Gm J ?_))
 refine BC J dC (.c J (.c J .n)) (fun w hS=>Hx _ c w) ?_
 refine Gt (Ay J J (IntWalk.i64_in _ (by(try simp only [List.length_cons,List.length_nil]);omega))) ?_
 refine Ga J (Gn (.t4 0 1 2 3) (Gs (Gm J (Gm J (Gt (BN J Tryz.underlying9 J) ?_)))))
 refine Gt (Ay J J (IntWalk.i64_in _ (by(try simp only [List.length_cons,List.length_nil]);omega))) ?_
 refine Gt (Mt J J) (Ga J (Gn (.t4 0 1 2 3) (Gs (Gm J ?_))))
 refine XM J Tryz.underlying52 Ed SJ Yf J J (by(try simp only [List.length_cons,List.length_nil]);omega) (by(try simp only [List.length_cons,List.length_nil]);omega) (fun b1=>?_)
 refine Ga J (Gn (.t5 0 1 2 3 9) (Gs (Gm J ?_)))
 refine Gt (FT J J (IntWalk.i64_in _ (by(try simp only [List.length_cons,List.length_nil]);omega))) ?_
 refine Ga J (Gn (.t5 0 1 2 3 9) (Gs (Ga J (AR (AA (Aq (Ag ?_)))))))
 refine Bw (.t6 0 10 1 2 3 9) ?_
 refine Dx (fun(i:Int) (r:Ad) (xs:List Ad)=>Words.PD c s i r xs) (fun(i:Int) (r:Ad) (xs:List Ad)=>((s.count c:Int) - i).toNat) (fun(i:Int) (r:Ad) (xs:List Ad)=> [(0,BW r),(10, .int .i64 i)]) (fun(i:Int) (r:Ad) (xs:List Ad)=> [Ab.own ⟨some ⟨b1,0,none⟩,(min (((s.count c:Nat):Int)+1) ((s.length:Int)+1)).toNat,(min (((s.count c:Nat):Int)+1) ((s.length:Int)+1)).toNat⟩ 9 1 (xs.flatMap A6)]) (0) (s) (_) ?_ J J (fun i r xs hI1=>?_)
 · exact Words.PD.start c s _ (by omega)
 have hI11:=hI1;have hi0:=hI1.i0;have hi1:=hI1.i1;have hrl:=hI1.rl;have hxl:=hI1.len
 refine CL (Gm J (Gm J (Gt (BA J J) (Gn (.t7 0 1 2 3 9 10 36) ?_))))
 refine Gc (fun c1=>?_) (fun c1=>?_)
 ·
  have c1p:=kz c1
  refine Aa ?_
  refine AB (.t6 0 1 2 3 9 10) ?_
  refine AA (Ag (Gs (Gm J (Gm J ?_))))
  refine BC J Y7 (.c J (.c J .n)) (fun w hS=>Fo _ c w) ?_
  refine Ga J (Gn (.t7 0 1 2 3 9 10 11) (CL (Gm J (Gt (BA J J) (Gn (.t8 0 1 2 3 9 10 11 41) ?_)))))
  refine Gc (fun c2=>?_) (fun c2=>?_)
  ·
   have c2p:=kz c2
   refine Bg (AW ?_)
   refine KC J ?_
   refine AW (Ah ?_)
   refine AB (.t3 0 9 10) ?_
   refine AA (Gs (Gm J (Gm J (Gm J ?_))))
   refine Gt (Bz JO (by decide) (Kn.own .m0) J J (by omega) (by(try dsimp only);omega)) ?_
   refine AT (Pd J J Ed (by have:=hI11.len;omega) .h) ?_
   refine Gn (.t2 9 10) (Gs (Gm J (Gm J ?_)))
   refine Gt (Ay J J (IntWalk.i64_in _ (by(try simp only [List.length_cons,List.length_nil]);omega))) ?_
   refine LA C7 J Tryz.underlying52 Ed J J (by(try simp only [List.length_cons,List.length_nil]);omega) (by(try simp only [List.length_cons,List.length_nil]);omega) (fun _=> .h) ?_
   refine Ga J (Gn (.t1 8) (Ac ?_))
   refine AY J (.tmp J .n) ?_
   intro w1 hS
   have hS:=(hS.perm (Ax.perm (.c .h .n))).A5
   have hd:=hI11.done (by first | (right;simpa using c2) | (left;omega))
   exact⟨_,⟨_,J,by rw [hd.2] at *;(try simp only [Hd.cut] at *);omega,by rw [hd.2]⟩,hS⟩
  have c2p:=kz c2
  obtain⟨hm0,hm1,hnx⟩:=hI11.next rfl (by simpa using c2)
  refine Aa ?_
  refine AB (.t7 0 1 2 3 9 10 11) ?_
  refine AA (Gs (Gm J (Gm J (Gm J (Gm J (Gm J ?_))))))
  refine Gt (Ay J J (IntWalk.i64_in _ (by(try simp only [List.length_cons,List.length_nil]);omega))) ?_
  refine Gt (JG Tryz.underlying9 J J (by(try simp only [List.length_cons,List.length_nil]);omega) (by(try simp only [List.length_cons,List.length_nil]);omega)) ?_
  refine Gt (Bz JO (by decide) (Kn.own .m0) J J (by omega) (by(try dsimp only);omega)) ?_
  refine AT (Pd J J Ed (by have:=hI11.len;omega) .h) ?_
  refine Gn (.t7 0 1 2 3 9 10 11) (Gs (Gm J (Gm J (Gm J (Gt (BN J Tryz.underlying9 J) ?_)))))
  refine Gt (Ay J J (IntWalk.i64_in _ (by(try simp only [List.length_cons,List.length_nil]);omega))) ?_
  refine Gt (HA Tryz.underlying9 J J (by(try simp only [List.length_cons,List.length_nil]);omega) (by(try simp only [List.length_cons,List.length_nil]);omega)) ?_
  refine Ga J (Gn (.t6 0 1 2 3 9 10) (AJ (Gm J ?_)))
  refine Gt (Ay J J (IntWalk.i64_in _ (by(try simp only [List.length_cons,List.length_nil]);omega))) ?_
  refine Ga J ?_
  refine AR (AB (.t6 0 1 2 3 9 10) ?_)
  refine AV ?_
  refine B2 (i+1) _ _ ?_ ?_ (.t6 0 10 1 2 3 9) (.refl _)
  · rw [Int.add_zero]
    exact hnx
  · omega
 have c1p:=kz c1
 refine Bg (AW (AW (Ah ?_)))
 refine AB (.t3 0 9 10) ?_
 refine AA (Gs (Gm J (Gm J (Gm J ?_))))
 refine Gt (Bz JO (by decide) (Kn.own .m0) J J (by omega) (by(try dsimp only);omega)) ?_
 refine AT (Pd J J Ed (by have:=hI11.len;omega) .h) ?_
 refine Gn (.t2 9 10) (Gs (Gm J (Gm J ?_)))
 refine Gt (Ay J J (IntWalk.i64_in _ (by(try simp only [List.length_cons,List.length_nil]);omega))) ?_
 refine LA C7 J Tryz.underlying52 Ed J J (by(try simp only [List.length_cons,List.length_nil]);omega) (by(try simp only [List.length_cons,List.length_nil]);omega) (fun _=> .h) ?_
 refine Ga J (Gn (.t1 8) (Ac ?_))
 refine AY J (.tmp J .n) ?_
 intro w1 hS
 have hS:=(hS.perm (Ax.perm (.c .h .n))).A5
 have hd:=hI11.done (by first | (right;simpa using c1) | (left;omega))
 exact⟨_,⟨_,J,by rw [hd.2] at *;(try simp only [Hd.cut] at *);omega,by rw [hd.2]⟩,hS⟩
theorem L7 (s:Ad)(c:UInt8)(hs:s.length≤10000000):KN Tryz.prog 167 #[BW s,BW [c]] [] (fun v B=>∃ h':Hd,v=h'.val∧h'.len=(Words.pieces c s).length∧B = [Ab.own h' 9 1 ((Words.pieces c s).flatMap A6)]):=by
 intro w hS0
 refine Ap _ _ Tryz.func167 J J J (hS0) ?_
 refine Gs (Ga J (Gn (.t2 0 1) (Gs (Gm J (Gm J ?_)))))
 refine Ak J gk (.c J (.c J (.c J (.c J .n)))) .n (J9 _ c hs) (fun v1 B hv=>?_)
 obtain⟨y2,rfl,y3,rfl⟩:=hv
 refine Ga J (Gn (.t1 4) (Ac ?_))
 refine AY J (.tmp J .n) ?_
 intro w1 hS
 have hS:=(hS.perm (Ax.perm (.c .h .n))).A5
 exact⟨_,⟨_,J,by assumption,rfl⟩,hS⟩
theorem P8 (u:Ad)(hu:u.length≤10000000)(w:World):Ev Tryz.prog 168 #[BW u] w fun v w'=>v=BW (Words.low u)∧CH w w':=by
 refine Ap [] [] Tryz.func168 J J J (St.start w []) ?_
 refine Gs (Ga J (Gn (.t1 0) (Gs (Gm J ?_))))
 refine O7 J Tryz.underlying9 Tryz.underlying105 Tryz.underlying5 J (fun h1 h1l=>?_)
 refine Ga J (Gn (.t1 3) (CL (Gm J (Gt (Au J Tryz.underlying105 J) (Gm J (AR (AA ?_)))))))
 refine Ag ?_
 refine Bw (.t4 10 3 8 9) ?_
 refine Ck (fun(k:Int)=>0≤k∧k≤u.length) (fun(k:Int)=>((u.length:Int) - k).toNat) (fun(k:Int)=> [(10, .int .i64 k)]) (fun(k:Int)=> [Ab.own h1 5 1 ((Words.Hu u k.toNat).flatMap Di)]) (0) ?_ J J (fun k hI1=>?_)
 · exact⟨by omega,by omega⟩
 obtain⟨hI11,hI12⟩:=hI1
 refine Gs (Gt (BA J J) (AR (AA (Aq ?_))))
 refine Gc (fun c1=>?_) (fun c1=>?_)
 ·
  have c1p:=kz c1
  have hat:=Words.W1 (w:=u) hI11 (by omega)
  have hc8:=(u.getD k.toNat 0).toNat_lt
  refine Aa ?_
  refine AB (.t4 3 8 9 10) ?_
  refine AA (Aq (Ag (Gs (Gm J ?_))))
  refine Gt (Bz ZC (by decide) (Kn.own .m0) J J (by omega) (by omega)) ?_
  refine Gt (ZX J gM (Kn.own .m0) (by rw [Words.Ou];omega)) ?_
  refine Ga J (Ga J (Gn (.t6 3 4 5 8 9 10) (Gs (Gm J (Gt (CZ J J) (Gm J (Bp 17 J J (fun q=>AF J) ?_)))))))
  refine Bp 17 J J (fun q=>I3 (Bo J q) J) (Gt (BQ J J (fun h=>h)) (Gn (.t7 3 4 5 8 9 10 20) ?_))
  refine Gc (fun c2=>?_) (fun c2=>?_)
  ·
   have c2p:=kz c2
   rw [hat] at c2
   have hset:=Words.UN (w:=u) hI11 (by omega)
   rw [← Words.cq c2] at hset
   refine AJ (Gm J (Gm J (Gm J ?_)))
   refine Gt (Ay J J (IntWalk.u8_in _ (by(try simp only [hat] at c2p ⊢);omega))) ?_
   refine Gt (FT J J (IntWalk.u8_in _ (by(try simp only [hat] at c2p ⊢);omega))) ?_
   refine Gt (Bz ZC (by decide) (Kn.own .m0) J J (by omega) (by omega)) ?_
   refine AT (ez J J (by simp only [hat] at c2p ⊢;omega) XG (by rw [Words.Ou];omega) .h) ?_
   refine AR (AB (.t4 3 8 9 10) ?_)
   refine AV (AA (AJ ?_))
   refine Gt (Ay J J (IntWalk.i64_in _ (by(try simp only [hat] at c2p ⊢);omega))) ?_
   refine Gm J ?_
   refine AR (AB (.t4 3 8 9 10) ?_)
   refine CC (k+1) ?_ ?_ (.t4 10 3 8 9) (by rw [← hset];first | exact(.refl _) | (rw [← hat];exact(.refl _)))
   · exact⟨by omega,by omega⟩
   · omega
  have c2p:=kz c2
  rw [hat] at c2
  have hset:=Words.YZ (w:=u) hI11 (by omega) (Words.cy c2)
  refine Aa ?_
  refine AB (.t4 3 8 9 10) ?_
  refine AV (AA (AJ ?_))
  refine Gt (Ay J J (IntWalk.i64_in _ (by(try simp only [hat] at c2p ⊢);omega))) ?_
  refine Gm J ?_
  refine AR (AB (.t4 3 8 9 10) ?_)
  refine CC (k+1) ?_ ?_ (.t4 10 3 8 9) (by rw [← hset];first | exact(.refl _) | (rw [← hat];exact(.refl _)))
  · exact⟨by omega,by omega⟩
  · omega
 have c1p:=kz c1
 refine Bg (AW (AW (Ah ?_)))
 refine AB (.t1 3) ?_
 refine AA (Gs (Gm J (Gt (Kv Tryz.underlying105 Tryz.underlying9 Tryz.underlying5 J (Kn.own .m0)) (Ga J (Gn (.t1 2) (Ac ?_))))))
 refine AY J (.tmp J .n) ?_
 intro w1 hS;refine⟨?_,hS.Ao⟩;obtain rfl:k=u.length:=by omega
 rw [show(u.length:Int).toNat=u.length by omega,Words.ZD];rfl
theorem NY (s:Ad)(hs:s.length≤4000000):KN Tryz.prog 151 #[BW s] [] (fun v B=>∃ h':Hd,v=h'.val∧h'.len=(Words.words s).length∧B = [Ab.own h' 9 1 ((Words.words s).flatMap A6)]):=by
 intro w hS0
 have hpl:=Words.Fp 32 s
 have hcl:=List.count_le_length (a:=(32:UInt8)) (l:=s)
 refine Ap _ _ Tryz.func151 J J J (hS0) ?_
 refine Gs (Ga J (Gn (.t1 0) (Gs (Ga J (AR (AA (CL ?_)))))))
 refine Gm J ?_
 refine Ak J iQ (.c J (.c J .n)) .n (L7 _ 32 (by omega)) (fun v1 B hv=>?_)
 obtain⟨y2,rfl,y3,rfl⟩:=hv
 refine Gt (Au J Tryz.underlying52 J) (Gm J (Gn (.t4 3 7 8 9) (Ag ?_)))
 refine Bw (.t4 3 9 7 8) ?_
 refine E2 A6 9 1 ?_
 refine Dx (fun(k:Int) (xs:List Ad) (g:Hd)=>0≤k∧k≤((Words.pieces 32 s).length:Int)∧xs=Words.Jv s k.toNat∧g.len=xs.length∧xs.length≤k.toNat) (fun(k:Int) (xs:List Ad) (g:Hd)=>(((Words.pieces 32 s).length:Int) - k).toNat) (fun(k:Int) (xs:List Ad) (g:Hd)=> [(3,g.val),(9, .int .i64 k)]) (fun(k:Int) (xs:List Ad) (g:Hd)=> [Ab.own g 9 1 (xs.flatMap A6)]) (0) ([]) (_) ?_ J J (fun k xs g hI1=>?_)
 · exact⟨by omega,by omega,rfl,rfl,by simp⟩
 obtain⟨hI11,hI12,hI13,hI14,hI15⟩:=hI1
 refine Gs (Gt (BA J J) (AR (AA (Aq ?_))))
 refine Gc (fun c1=>?_) (fun c1=>?_)
 ·
  have c1p:=kz c1
  refine Aa ?_
  refine AB (.t4 3 7 8 9) ?_
  refine AA (Aq (Ag (Gs ?_)))
  refine Gt (Bz JO (by decide) (Kn.own .m1) J J (by omega) (by omega)) ?_
  refine Gt (DY J CO (Kn.own .m1) (by omega)) ?_
  refine Ga J (Gn (.t5 3 5 7 8 9) (Gs (Gm J (Gt (DK J J) (Gn (.t6 3 5 7 8 9 14) ?_)))))
  refine Gc (fun c2=>?_) (fun c2=>?_)
  ·
   have c2p:=kz c2
   refine AJ (Gm J (Gm J ?_))
   refine BC J gP (.c J .n) (fun w hS=>P8 _ (by have:=Words.XU (c:=32) (s:=s) k.toNat;omega) w) ?_
   refine Fe A6 C7 J Tryz.underlying52 Ed SJ J (by decide) (by decide) J J (fun b1=>?_)
   refine CW C7 J Tryz.underlying52 Ed SJ J Yf (by decide) (by decide) J J (fun w hS=>Src.D4 Tryz.underlying52 ((Kn.own .m0) w hS)) (by(try dsimp only);omega) (fun _=>(.t .h)) (fun h5 h5l h5z=>?_)
   refine Ga J ?_
   refine AR (AB (.t4 3 7 8 9) ?_)
   refine AV (AA (AJ ?_))
   refine Gt (Ay J J (IntWalk.i64_in _ (by omega))) ?_
   refine Gm J ?_
   refine AR (AB (.t4 3 7 8 9) ?_)
   refine B2 (k+1) _ _ ?_ ?_ (.t4 3 9 7 8) (.cons _ (.refl _))
   · exact⟨by omega,by omega,by rw [Words.Zg hI11 (by omega) c2,← hI13],(by(try dsimp only at *)<;>(try simp only [List.length_append,List.length_cons,List.length_nil])<;>omega),(by(try simp only [List.length_append,List.length_cons,List.length_nil]);omega)⟩
   · omega
  have c2p:=kz c2
  refine Aa ?_
  refine AB (.t4 3 7 8 9) ?_
  refine AV (AA (AJ ?_))
  refine Gt (Ay J J (IntWalk.i64_in _ (by omega))) ?_
  refine Gm J ?_
  refine AR (AB (.t4 3 7 8 9) ?_)
  refine B2 (k+1) _ _ ?_ ?_ (.t4 3 9 7 8) (.refl _)
  · exact⟨by omega,by omega,by rw [Words.aH hI11 (by omega) c2,← hI13],(by(try dsimp only at *)<;>(try simp only [List.length_append,List.length_cons,List.length_nil])<;>omega),(by(try simp only [List.length_append,List.length_cons,List.length_nil]);omega)⟩
  · omega
 have c1p:=kz c1
 obtain rfl:k=((Words.pieces 32 s).length:Int):=by omega
 refine Bg (AW (AW (Ah ?_)))
 refine AB (.t1 3) ?_
 refine AA (Gs (Gm J (Ga J (Gn (.t1 2) (Ac ?_)))))
 refine AY J (.tmp J .n) ?_
 intro w1 hS
 have hS:=(hS.perm (Ax.perm (.c .h .n))).A5
 exact⟨_,⟨_,J,by rw [Words.QP,← hI13];assumption,by rw [Words.QP,← hI13]⟩,hS⟩
theorem Dr (s p:Ad)(w:World):Ev Tryz.prog 180 #[BW s,BW p] w fun v w'=>v = .bool (decide ((p.length:Int)≤(s.length:Int)) && decide (s.take p.length=p))∧CH w w':=by
 refine Ap [] [] Tryz.func180 J J J (St.start w []) ?_
 refine Gs (Ga J (Gn (.t2 0 1) (Gs (Gm J (Gt (BN J Tryz.underlying9 J) (Gm J (Gt (BN J Tryz.underlying9 J) ?_)))))))
 refine Gt (CZ J J) (Gm J (Bp 10 J J (fun q=>AF J) (Bp 10 J J (fun q=>AF J) (Bp 10 J J (fun q=>BN J Tryz.underlying9 (Bo J q)) ?_))))
 refine Bp 10 J J (fun q=>by have q1:=q;(try simp at q1);exact JG Tryz.underlying9 (Bo rfl q) (Bo rfl q) (by omega) (by omega)) ?_
 refine Bp 10 J J (fun q=>AF J) (Bp 10 J J (fun q=>B4 (Bo J q) (Bo J q)) (Gt (BQ J J (fun h=>h)) (Ga J (Gn (.t1 4) (Ac ?_)))))
 refine AY J (.tmp J .n) ?_
 intro w1 hS;refine⟨?_,hS.Ao⟩;rfl
theorem Jl (s p:Ad)(w:World):Ev Tryz.prog 169 #[BW s,BW p] w fun v w'=>v = .bool (decide ((p.length:Int)≤(s.length:Int)) && decide (s.take p.length=p))∧CH w w':=by
 refine Ap [] [] Tryz.func169 J J J (St.start w []) ?_
 refine Gs (Ga J (Gn (.t2 0 1) (Gs (Gm J (Gm J ?_)))))
 refine BC J dL (.c J (.c J .n)) (fun w hS=>Dr _ _ w) ?_
 refine Ga J (Gn (.t1 4) (Ac ?_))
 refine AY J (.tmp J .n) ?_
 intro w1 hS;refine⟨?_,hS.Ao⟩;rfl
theorem J0 (u:Ad)(w:World)(gl0:GV 0 AH.DU w):Ev Tryz.prog 152 #[BW u] w fun v w'=>v = .tuple #[.int .i64 (Words.verb u).1, .int .i64 (Words.verb u).2]∧CH w w':=by
 refine Ap [] [] Tryz.func152 J J J (St.start w []) ?_
 refine Gs (Ga J (Ga J (Gn (.t1 0) (CL (Gm J (Gt (DK J J) (Gn (.t2 0 7) ?_)))))))
 refine Gc (fun c1=>?_) (fun c1=>?_)
 ·
  have c1p:=kz c1
  refine Gs (Gt (aC gl0 Words.Vk J dv J) (Gm J (Gn (.t3 0 8 9) (Ag ?_))))
  refine Bw (.t3 9 0 8) ?_
  refine Ck (fun(k:Int)=>0≤k∧k≤21∧Words.Km u 21=Words.Km u (21 - k).toNat) (fun(k:Int)=>(21 - k).toNat) (fun(k:Int)=> [(9, .int .i64 k)]) (fun(k:Int)=> []) (0) ?_ J J (fun k hI1=>?_)
  · exact⟨by omega,by omega,rfl⟩
  obtain⟨hI11,hI12,hI13⟩:=hI1
  refine Gs (Gt (BA J J) (AR (AA (Aq ?_))))
  refine Gc (fun c2=>?_) (fun c2=>?_)
  ·
   have c2p:=kz c2
   rw [Words.Vj hI11 (by omega)] at hI13
   refine Aa ?_
   refine AB (.t3 0 8 9) ?_
   refine AA (Aq (Ag (Gs (Gm J ?_))))
   refine Gt (K9 C7 Tryz.underlying133 Ed CO J J (by omega) (by omega) J) ?_
   refine Ga J (Ga J (Gn (.t5 0 4 5 8 9) (Gs (Gm J (Gm J ?_)))))
   refine BC J fu (.c J (.c J .n)) (fun w hS=>Jl _ _ w) ?_
   refine Gn (.t5 0 4 8 9 15) ?_
   refine Gc (fun c3=>?_) (fun c3=>?_)
   ·
    have cp:Words.pre (AH.HF.getD k.toNat []) u=true:=c3
    refine Gs (Gm J (Ga J (Ga J (Gn (.t2 2 3) (Ac (AS (AD ?_)))))))
    refine AD (AS (AD ?_))
    refine AY J (.tmp J (.tmp J .n)) ?_
    intro w1 hS;refine⟨?_,hS.Ao⟩;rw [show Words.verb u=_ from BG c1,hI13,BG cp];rfl
   have c3p:=kz c3
   have cp:Words.pre (AH.HF.getD k.toNat []) u=false:=c3
   refine Aa ?_
   refine AB (.t3 0 8 9) ?_
   refine AV (AA (AJ ?_))
   refine Gt (Ay J J (IntWalk.i64_in _ (by omega))) ?_
   refine Gm J ?_
   refine AR (AB (.t3 0 8 9) ?_)
   refine CC (k+1) ?_ ?_ (.t3 9 0 8) (.refl _)
   · exact⟨by omega,by omega,by rw [hI13,AX cp]⟩
   · omega
  have c2p:=kz c2
  obtain rfl:k=21:=by omega
  refine Bg (AW (AW (Ah ?_)))
  refine AB (.nil _) ?_
  refine AA (Gs (Ga J (Ga J (AR (AA (Ac ?_))))))
  refine AY J (.tmp J (.tmp J .n)) ?_
  intro w1 hS;refine⟨?_,hS.Ao⟩;rw [show Words.verb u=_ from BG c1,hI13];rfl
 refine Aa ?_
 refine AB (.nil _) ?_
 refine AA (Gs (Ga J (Ga J (AR (AA (Ac ?_))))))
 refine AY J (.tmp J (.tmp J .n)) ?_
 intro w1 hS;refine⟨?_,hS.Ao⟩;rw [show Words.verb u=_ from AX c1];rfl
theorem J3 (s:Ad)(hs:s.length≤10000000)(w:World):Ev Tryz.prog 153 #[BW s,BW [32]] w fun v w'=>v=BW (Words.Qj 32 s)∧CH w w':=by
 refine Ap [] [] Tryz.func153 J J J (St.start w []) ?_
 refine Gs (Ga J (Gn (.t2 0 1) (CL (Gm J (Gt (B4 J J) (Gm J (Bj 9 J J (fun q=>AF J) ?_)))))))
 refine Bj 9 J J (fun q=>B4 (cF J q) J) ?_
 refine Gt (Ba J J (fun h=>by rw [h];rfl)) ?_
 refine Gn (.t3 0 1 12) ?_
 refine Gc (fun c1=>?_) (fun c1=>?_)
 ·
  refine Gs (Gm J (Ga J (Gn (.t1 4) (Ac (AD ?_)))))
  refine AY J (.tmp J .n) ?_
  intro w1 hS;refine⟨?_,hS.Ao⟩;have e:s = []:=by simpa using c1
  subst e;rfl
 have c1p:=kz c1
 refine Aa ?_
 refine AB (.t2 0 1) ?_
 refine AA (CL (Gm J (Gt (BN J Tryz.underlying9 J) (Gt (Ai J J) (Gm J (Bp 17 J J (fun q=>AF J) ?_))))))
 refine Bp 17 J J (fun q=>by have q1:=q;(try simp at q1);exact Bt Tryz.underlying9 (Bo rfl q) rfl (by decide) (by(try simp only [List.length_cons,List.length_nil]);omega)) ?_
 refine Bp 17 J J (fun q=>BA (Bo J q) J) (Gt (BQ J J (fun h=>h)) (Gn (.t3 0 1 21) ?_))
 refine HW J J ?_
 refine Gs (Gm J (Gm J ?_))
 refine Gt (Bt Tryz.underlying9 J J (by decide) (by(try simp only [List.length_cons,List.length_nil]);omega)) ?_
 refine BC J dA (.c J (.c J .n)) (fun w hS=>FM _ 32 hs w) ?_
 refine Ga J (Gn (.t1 4) (Ac (AD ?_)))
 refine AY J (.tmp J .n) ?_
 intro w1 hS;refine⟨?_,hS.Ao⟩;rfl
theorem FW (s p:Ad)(w:World):Ev Tryz.prog 181 #[BW s,BW p] w fun v w'=>v = .tuple #[BW (Words.OO s p).1, .bool (Words.OO s p).2]∧CH w w':=by
 refine Ap [] [] Tryz.func181 J J J (St.start w []) ?_
 refine Gs (Ga J (Ga J (Gn (.t2 0 1) (CL (Gm J (Gm J ?_))))))
 refine BC J dL (.c J (.c J .n)) (fun w hS=>Dr _ _ w) ?_
 refine Gt (BZ J) (Gn (.t3 0 1 9) ?_)
 refine Gc (fun c1=>?_) (fun c1=>?_)
 ·
  refine Gs (Gm J (Ga J (Ga J (Gn (.t2 4 5) (Ac (AD ?_))))))
  refine AY J (.tmp J (.tmp J .n)) ?_
  intro w1 hS;refine⟨?_,hS.Ao⟩;rw [show Words.OO s p=_ from(BG c1)];rfl
 have c1p:=kz c1
 have hle:p.length≤s.length:=by simp at c1;omega
 refine Aa ?_
 refine AB (.t2 0 1) ?_
 refine AA (Gs (Gm J (Gm J (Gt (BN J Tryz.underlying9 J) ?_))))
 refine Gt (HA Tryz.underlying9 J J (by omega) (by omega)) ?_
 refine Ga J (Ga J (Gn (.t2 4 5) (Ac ?_)))
 refine AY J (.tmp J (.tmp J .n)) ?_
 intro w1 hS;refine⟨?_,hS.Ao⟩;rw [show Words.OO s p=_ from(AX c1)];rfl
theorem Jm (s p:Ad)(w:World):Ev Tryz.prog 170 #[BW s,BW p] w fun v w'=>v = .tuple #[BW (Words.OO s p).1, .bool (Words.OO s p).2]∧CH w w':=by
 refine Ap [] [] Tryz.func170 J J J (St.start w []) ?_
 refine Gs (Ga J (Ga J (Gn (.t2 0 1) (Gs (Gm J (Gm J ?_))))))
 refine BC J iO (.c J (.c J .n)) (fun w hS=>FW _ _ w) ?_
 refine Gt (AM J J) (Gt (AM J J) (Ga J (Ga J (Gn (.t2 4 5) (Ac ?_)))))
 refine AY J (.tmp J (.tmp J .n)) ?_
 intro w1 hS;refine⟨?_,hS.Ao⟩;rfl
theorem Gd (s:Ad)(c:UInt8)(w:World):Ev Tryz.prog 171 #[BW s,BW [c]] w fun v w'=>v = .bool (decide (0≤Lib.indexByte s c))∧CH w w':=by
 refine Ap [] [] Tryz.func171 J J J (St.start w []) ?_
 refine Gs (Ga J (Gn (.t2 0 1) (Gs (Gm J (Gm J ?_)))))
 refine BC J Y7 (.c J (.c J .n)) (fun w hS=>Fo _ c w) ?_
 refine Gt (CZ J J) (Ga J (Gn (.t1 4) (Ac ?_)))
 refine AY J (.tmp J .n) ?_
 intro w1 hS;refine⟨?_,hS.Ao⟩;rfl
def SU:Go.Shelf.Ren:=⟨fun | 172=>172 | 244=>182 | 245=>183 | 247=>188 | 279=>189 | 280=>190 | 281=>191 | 282=>192 | 287=>194 | 316=>195 | 171=>53 | 205=>196 | 321=>197 | 322=>198 | 243=>72 | 246=>86 | 283=>108 | 284=>109 | 285=>110 | 286=>111 | 129=>142 | 317=>141 | 318=>143 | 319=>144 | 320=>145 | 337=>162 | 338=>163 | n=>n,fun | 9=>9 | 3=>3 | 75=>109 | 76=>111 | 4=>4 | 5=>5 | 167=>237 | 37=>105 | 0=>0 | 85=>238 | 2=>2 | 168=>240 | 53=>173 | 175=>244 | 46=>140 | 210=>247 | 127=>134 | 145=>252 | 143=>250 | 21=>21 | 171=>172 | 173=>176 | 212=>205 | 51=>178 | 20=>20 | 213=>206 | 232=>226 | 233=>227 | 80=>114 | n=>n,fun | 15=>7 | 16=>8 | 17=>2 | 18=>3 | 19=>4 | n=>n⟩
theorem ay:LaysC.n172 Tryz.prog SU where
  mixed:=by kernel_rfl
  f129:=Tryz.func142.trans (congrArg some (by kernel_rfl))
  f171:=Tryz.func53.trans (congrArg some (by kernel_rfl))
  f172:=Tryz.func172.trans (congrArg some (by kernel_rfl))
  f205:=Tryz.func196.trans (congrArg some (by kernel_rfl))
  f243:=Tryz.func72.trans (congrArg some (by kernel_rfl))
  f244:=Tryz.func182.trans (congrArg some (by kernel_rfl))
  f245:=Tryz.func183.trans (congrArg some (by kernel_rfl))
  f246:=Tryz.func86.trans (congrArg some (by kernel_rfl))
  f247:=Tryz.func188.trans (congrArg some (by kernel_rfl))
  f279:=Tryz.func189.trans (congrArg some (by kernel_rfl))
  f280:=Tryz.func190.trans (congrArg some (by kernel_rfl))
  f281:=Tryz.func191.trans (congrArg some (by kernel_rfl))
  f282:=Tryz.func192.trans (congrArg some (by kernel_rfl))
  f283:=Tryz.func108.trans (congrArg some (by kernel_rfl))
  f284:=Tryz.func109.trans (congrArg some (by kernel_rfl))
  f285:=Tryz.func110.trans (congrArg some (by kernel_rfl))
  f286:=Tryz.func111.trans (congrArg some (by kernel_rfl))
  f287:=Tryz.func194.trans (congrArg some (by kernel_rfl))
  f316:=Tryz.func195.trans (congrArg some (by kernel_rfl))
  f317:=Tryz.func141.trans (congrArg some (by kernel_rfl))
  f318:=Tryz.func143.trans (congrArg some (by kernel_rfl))
  f319:=Tryz.func144.trans (congrArg some (by kernel_rfl))
  f320:=Tryz.func145.trans (congrArg some (by kernel_rfl))
  f321:=Tryz.func197.trans (congrArg some (by kernel_rfl))
  f322:=Tryz.func198.trans (congrArg some (by kernel_rfl))
  f337:=Tryz.func162.trans (congrArg some (by kernel_rfl))
  f338:=Tryz.func163.trans (congrArg some (by kernel_rfl))
  t0:=Tryz.underlying0
  a0:=Tryz.isAgg0
  z0:=Tryz.sizeOf0
  v0:=Tryz.zeroValue0
  t2:=Tryz.underlying2
  a2:=Tryz.isAgg2
  z2:=Tryz.sizeOf2
  v2:=Tryz.zeroValue2
  t3:=Tryz.underlying3
  a3:=Tryz.isAgg3
  z3:=Tryz.sizeOf3
  v3:=Tryz.zeroValue3
  t4:=Tryz.underlying4
  a4:=Tryz.isAgg4
  z4:=Tryz.sizeOf4
  v4:=Tryz.zeroValue4
  t5:=Tryz.underlying5
  a5:=Tryz.isAgg5
  z5:=Tryz.sizeOf5
  v5:=Tryz.zeroValue5
  t9:=Tryz.underlying9
  a9:=Tryz.isAgg9
  z9:=Tryz.sizeOf9
  v9:=Tryz.zeroValue9
  t20:=Tryz.underlying20
  a20:=Tryz.isAgg20
  z20:=Tryz.sizeOf20
  v20:=Tryz.zeroValue20
  t21:=Tryz.underlying21
  a21:=Tryz.isAgg21
  z21:=Tryz.sizeOf21
  v21:=Tryz.zeroValue21
  t37:=Tryz.underlying105
  a37:=Tryz.isAgg105
  z37:=Tryz.sizeOf105
  v37:=Tryz.zeroValue105
  t46:=Tryz.underlying140
  a46:=Tryz.isAgg140
  z46:=Tryz.sizeOf140
  v46:=Tryz.zeroValue140
  t51:=Tryz.underlying178
  a51:=Tryz.isAgg178
  z51:=Tryz.sizeOf178
  v51:=Tryz.zeroValue178
  t53:=Tryz.underlying173
  a53:=Tryz.isAgg173
  z53:=Tryz.sizeOf173
  v53:=Tryz.zeroValue173
  t75:=Tryz.underlying109
  a75:=Tryz.isAgg109
  z75:=Tryz.sizeOf109
  v75:=Tryz.zeroValue109
  t76:=Tryz.underlying111
  a76:=Tryz.isAgg111
  z76:=Tryz.sizeOf111
  v76:=Tryz.zeroValue111
  t85:=Tryz.underlying238
  a85:=Tryz.isAgg238
  z85:=Tryz.sizeOf238
  v85:=Tryz.zeroValue238
  t127:=Tryz.underlying134
  a127:=Tryz.isAgg134
  z127:=Tryz.sizeOf134
  v127:=Tryz.zeroValue134
  t143:=Tryz.underlying250
  a143:=Tryz.isAgg250
  z143:=Tryz.sizeOf250
  v143:=Tryz.zeroValue250
  t145:=Tryz.underlying252
  a145:=Tryz.isAgg252
  z145:=Tryz.sizeOf252
  v145:=Tryz.zeroValue252
  t167:=Tryz.underlying237
  a167:=Tryz.isAgg237
  z167:=Tryz.sizeOf237
  v167:=Tryz.zeroValue237
  t168:=Tryz.underlying240
  a168:=Tryz.isAgg240
  z168:=Tryz.sizeOf240
  v168:=Tryz.zeroValue240
  t171:=Tryz.underlying172
  a171:=Tryz.isAgg172
  z171:=Tryz.sizeOf172
  v171:=Tryz.zeroValue172
  t173:=Tryz.underlying176
  a173:=Tryz.isAgg176
  z173:=Tryz.sizeOf176
  v173:=Tryz.zeroValue176
  t175:=Tryz.underlying244
  a175:=Tryz.isAgg244
  z175:=Tryz.sizeOf244
  v175:=Tryz.zeroValue244
  t210:=Tryz.underlying247
  a210:=Tryz.isAgg247
  z210:=Tryz.sizeOf247
  v210:=Tryz.zeroValue247
  t212:=Tryz.underlying205
  a212:=Tryz.isAgg205
  z212:=Tryz.sizeOf205
  v212:=Tryz.zeroValue205
  t213:=Tryz.underlying206
  a213:=Tryz.isAgg206
  z213:=Tryz.sizeOf206
  t232:=Tryz.underlying226
  a232:=Tryz.isAgg226
  z232:=Tryz.sizeOf226
  v232:=Tryz.zeroValue226
  t233:=Tryz.underlying227
  a233:=Tryz.isAgg227
  z233:=Tryz.sizeOf227
  v233:=Tryz.zeroValue227
  g15:=by kernel_rfl
  g16:=by kernel_rfl
  g17:=by kernel_rfl
  g18:=by kernel_rfl
  g19:=by kernel_rfl
  t80:=Tryz.underlying114
  a80:=Tryz.isAgg114
  z80:=Tryz.sizeOf114
  v80:=Tryz.zeroValue114
  i0:=by kernel_rfl
  i2:=by kernel_rfl
  i3:=by kernel_rfl
  i4:=by kernel_rfl
  i5:=by kernel_rfl
  i9:=by kernel_rfl
  i20:=by kernel_rfl
  i21:=by kernel_rfl
  i37:=by kernel_rfl
  i46:=by kernel_rfl
  i51:=by kernel_rfl
  i53:=by kernel_rfl
  i75:=by kernel_rfl
  i76:=by kernel_rfl
  i80:=by kernel_rfl
  i85:=by kernel_rfl
  i127:=by kernel_rfl
  i143:=by kernel_rfl
  i145:=by kernel_rfl
  i167:=by kernel_rfl
  i168:=by kernel_rfl
  i171:=by kernel_rfl
  i173:=by kernel_rfl
  i175:=by kernel_rfl
  i210:=by kernel_rfl
  i212:=by kernel_rfl
  i232:=by kernel_rfl
  i233:=by kernel_rfl
  m15:=by kernel_rfl
  m16:=by kernel_rfl
  m17:=by kernel_rfl
  m18:=by kernel_rfl
  m19:=by kernel_rfl
  c0:=by kernel_rfl
  c2:=by kernel_rfl
  c3:=by kernel_rfl
  c4:=by kernel_rfl
  c5:=by kernel_rfl
  c9:=by kernel_rfl
  c20:=by kernel_rfl
  c21:=by kernel_rfl
  c37:=by kernel_rfl
  c46:=by kernel_rfl
  c51:=by kernel_rfl
  c53:=by kernel_rfl
  c75:=by kernel_rfl
  c76:=by kernel_rfl
  c80:=by kernel_rfl
  c85:=by kernel_rfl
  c127:=by kernel_rfl
  c143:=by kernel_rfl
  c145:=by kernel_rfl
  c167:=by kernel_rfl
  c168:=by kernel_rfl
  c171:=by kernel_rfl
  c173:=by kernel_rfl
  c175:=by kernel_rfl
  c210:=by kernel_rfl
  c212:=by kernel_rfl
  c213:=by kernel_rfl
  c232:=by kernel_rfl
  c233:=by kernel_rfl
theorem Mx (s:Ad)(hs:s.length≤10000000):FO Tryz.prog 172 #[BW s] [] (fun w=>HP 7 w∧HP 8 w) (fun v B=>(∃ k:Int,Lib.atoiAll s = .ok k∧v = .tuple #[.int .i64 k, .nilIface]∧B = [])∨(∃(k:Int) (t:TypeId) (x:Value),(∀ j,Lib.atoiAll s≠ .ok j)∧v = .tuple #[.int .i64 k, .iface t x]∧B = [])):=
  ax ay s hs (by kernel_rfl) (by kernel_rfl)
theorem Fg (u:Ad)(hu:u.length≤5000000)(w:World)(gl0:HP 7 w)(gl1:HP 8 w):Ev Tryz.prog 154 #[BW u] w fun v w'=>v = .tuple #[.int .i64 (Words.Ee u).1,BW (Words.Ee u).2.1, .bool (Words.Ee u).2.2.1, .int .i64 (Words.Ee u).2.2.2]∧CH w w':=by
 have hcut:=Words.OU 46 u
 refine Ap [] [] Tryz.func154 J J J (St.start w []) ?_
 refine Gs (Ga J (Ga J (Ga J (Ga J (Gn (.t1 0) (CL (Gm J ?_)))))))
 refine Gt (B4 J J) (Gn (.t2 0 14) ?_)
 refine Gc (fun c1=>?_) (fun c1=>?_)
 ·
  refine Gs (Ga J (Ga J (Ga J (Ga J (Gn (.t4 2 3 4 5) (Ac (AD ?_)))))))
  refine AY J (.tmp J (.tmp J (.tmp J (.tmp J .n)))) ?_
  intro w1 hS;refine⟨?_,hS.Ao⟩;rw [show Words.Ee u=_ from(BG c1)];rfl
 have c1p:=kz c1
 refine Aa ?_
 refine AB (.t1 0) ?_
 refine AA (CL (Gm J ?_))
 refine BC J gT (.c J (.c J .n)) (fun w hS=>Jm _ _ w) ?_
 refine Gm J (Gt (AM J J) (Gt (AM J J) (Ga J (Ga J (Gn (.t3 0 6 7) (Gs (Gm J ?_)))))))
 refine Gm J (Bp 21 J J (fun q=>AF J) (Bp 21 J J (fun q=>DK (Bo J q) J) (Gt (BQ J J (fun h=>h)) (Gm J (Bp 25 J J (fun q=>AF J) ?_)))))
 refine NS (t:=25) J J J (fun q=>D0 dI (.c (Bo J q) (.c J .n)) (fun w hS=>Gd _ 46 w)) ?_
 refine Bp 25 J J (fun q=>BZ (Bo J q)) (Gt (BQ J J (fun h=>h)) (Gn (.t3 0 6 29) ?_))
 refine Gc (fun c2=>?_) (fun c2=>?_)
 ·
  refine Gs (Gm J (Ga J (Ga J (Ga J (Ga J (Gn (.t4 2 3 4 5) (Ac ?_)))))))
  refine AD ?_
  refine AY J (.tmp J (.tmp J (.tmp J (.tmp J .n)))) ?_
  intro w1 hS;refine⟨?_,hS.Ao⟩;rw [show Words.Ee u=_ from((AX c1).trans (BG c2))];rfl
 have c2p:=kz c2
 refine Aa ?_
 refine AB (.t1 0) ?_
 refine AA (Gs (Gm J ?_))
 refine BC J eK (.c J (.c J .n)) (fun w hS=>JL _ 46 (by omega) w) ?_
 refine Gm J (Gt (AM J J) (Gt (AM J J) (Gt (AM J J) (Ga J (Ga J (Ga J (Gn (.t4 0 8 9 10) ?_)))))))
 refine CL (Gm J (Gt (BZ J) (Gn (.t4 0 8 9 38) ?_)))
 refine Gc (fun c3=>?_) (fun c3=>?_)
 ·
  refine CL (Gm J (Gt (B4 J J) (Gn (.t2 0 40) ?_)))
  refine Gc (fun c4=>?_) (fun c4=>?_)
  ·
   refine Gs (Ga J (Ga J (Ga J (Ga J (Gn (.t4 2 3 4 5) (Ac (AD ?_)))))))
   refine AD ?_
   refine AY J (.tmp J (.tmp J (.tmp J (.tmp J .n)))) ?_
   intro w1 hS;refine⟨?_,hS.Ao⟩;rw [show Words.Ee u=_ from((AX c1).trans ((AX c2).trans ((BG c3).trans (BG c4))))];rfl
  refine Aa ?_
  refine AB (.t1 0) ?_
  refine AA (Gs (Gm J (Ga J (Ga J (Ga J (Ga J (Gn (.t4 2 3 4 5) ?_)))))))
  refine Ac (AD ?_)
  refine AY J (.tmp J (.tmp J (.tmp J (.tmp J .n)))) ?_
  intro w1 hS;refine⟨?_,hS.Ao⟩;rw [show Words.Ee u=_ from((AX c1).trans ((AX c2).trans ((BG c3).trans (AX c4))))];rfl
 have c3p:=kz c3
 refine Aa ?_
 refine AB (.t2 8 9) ?_
 refine AA (Gs (Gm J ?_))
 refine BL J fh (.c J .n) .n (Mx _ (by omega)) (fun w hS=>⟨gl0.st hS,gl1.st hS⟩) (fun v1 B hv=>?_)
 rcases hv with ⟨y2,y3,rfl,rfl⟩ | ⟨y4,y5,y6,y7,rfl,rfl⟩
 ·
  refine Gm J (Gt (AM J J) (Gt (AM J J) (Ga J (Ga J (Gn (.t4 8 9 11 12) (CL (Gm J ?_)))))))
  refine Gt (UL Tryz.underlying109 J) (Gm J ?_)
  refine D7 (t:=49) J J J (AF J) ?_
  refine D7 (t:=49) J J J (BA J J) ?_
  refine Gt (C8 J J) (Gm J (Bj 53 J J (fun q=>AF J) (Bj 53 J J (fun q=>Cs (cF J q) J) ?_)))
  refine Gt (Ba J J (fun h=>by rw [h];rfl)) ?_
  refine Gm J (Bj 57 J J (fun q=>AF J) ?_)
  refine Bj 57 J J (fun q=>by have q1:=q;(try simp at q1);exact Bt Tryz.underlying9 (cF rfl q) rfl (by decide) (by first | omega | (have hq:=Words.TT (by assumption);omega))) ?_
  refine Bj 57 J J (fun q=>BA (cF J q) J) ?_
  refine Gt (Ba J J (fun h=>by rw [h];rfl)) ?_
  refine Gm J (Bj 62 J J (fun q=>AF J) ?_)
  refine Bj 62 J J (fun q=>by have q1:=q;(try simp at q1);exact Bt Tryz.underlying9 (cF rfl q) rfl (by decide) (by first | omega | (have hq:=Words.TT (by assumption);omega))) ?_
  refine Bj 62 J J (fun q=>Cs (cF J q) J) ?_
  refine Gt (Ba J J (fun h=>by rw [h];rfl)) ?_
  refine Gm J (Bj 67 J J (fun q=>AF J) (Bj 67 J J (fun q=>B4 (cF J q) J) ?_))
  refine Gt (Ba J J (fun h=>by rw [h];rfl)) ?_
  refine Gm J (Bj 71 J J (fun q=>AF J) ?_)
  refine SC (t:=71) J J J (fun q=>by have q1:=q;(try simp at q1);exact D0 dI (.c (cF rfl q) (.c rfl .n)) (fun w hS=>Gd _ 46 w)) ?_
  refine Gt (Ba J J (fun h=>by rw [h];rfl)) ?_
  refine Gn (.t3 9 11 74) ?_
  refine Gc (fun c5=>?_) (fun c5=>?_)
  ·
   refine Gs (Ga J (Ga J (Ga J (Ga J (Gn (.t4 2 3 4 5) (Ac (AD ?_)))))))
   refine AY J (.tmp J (.tmp J (.tmp J (.tmp J .n)))) ?_
   intro w1 hS;refine⟨?_,hS.Ao⟩;rw [show Words.Ee u=_ from((AX c1).trans ((AX c2).trans (AX c3))),Words.Wr y3,BG c5];rfl
  refine Aa ?_
  refine AB (.t2 9 11) ?_
  refine AA (Gs (Gm J (Gm J (Ga J (Ga J (Ga J (Ga J ?_)))))))
  refine Gn (.t4 2 3 4 5) (Ac ?_)
  refine AY J (.tmp J (.tmp J (.tmp J (.tmp J .n)))) ?_
  intro w1 hS;refine⟨?_,hS.Ao⟩;rw [show Words.Ee u=_ from((AX c1).trans ((AX c2).trans (AX c3))),Words.Wr y3,AX c5];rfl
 refine Gm J (Gt (AM J J) (Gt (AM J J) (Ga J (Ga J (Gn (.t4 8 9 11 12) (CL (Gm J ?_)))))))
 refine Gt (cL Tryz.underlying109 J) (Gm J ?_)
 refine DS (t:=49) J J J J ?_
 refine DS (t:=49) J J J J ?_
 refine Gt (Dm J J) (Gm J ?_)
 refine DS (t:=53) J J J J ?_
 refine DS (t:=53) J J J J ?_
 refine Gt (Dm J J) (Gm J ?_)
 refine DS (t:=57) J J J J ?_
 refine DS (t:=57) J J J J ?_
 refine DS (t:=57) J J J J ?_
 refine Gt (Dm J J) (Gm J ?_)
 refine DS (t:=62) J J J J ?_
 refine DS (t:=62) J J J J ?_
 refine DS (t:=62) J J J J ?_
 refine Gt (Dm J J) (Gm J ?_)
 refine DS (t:=67) J J J J ?_
 refine DS (t:=67) J J J J ?_
 refine Gt (Dm J J) (Gm J ?_)
 refine DS (t:=71) J J J J ?_
 refine DS (t:=71) J J J J ?_
 refine Gt (Dm J J) (Gn (.t3 9 11 74) ?_)
 refine HW J J ?_
 refine Gs (Ga J (Ga J (Ga J (Ga J (Gn (.t4 2 3 4 5) (Ac (AD ?_)))))))
 refine AY J (.tmp J (.tmp J (.tmp J (.tmp J .n)))) ?_
 intro w1 hS;refine⟨?_,hS.Ao⟩;rw [show Words.Ee u=_ from((AX c1).trans ((AX c2).trans (AX c3))),Words.aI y7];rfl
theorem J2 (z:Int)(w:World):Ev Tryz.prog 155 #[.int .i64 z] w fun v w'=>v = .bool (Words.many z)∧CH w w':=by
 refine Ap [] [] Tryz.func155 J J J (St.start w []) ?_
 refine Gs (Ga J (Gn (.t1 0) (Gs (Gm J (Gt (Ai J J) (Gm J (Bj 5 J J (fun q=>AF J) ?_)))))))
 refine Bj 5 J J (fun q=>Ai (cF J q) J) ?_
 refine Gt (Ba J J (fun h=>by rw [h];rfl)) ?_
 refine Gm J (Bj 9 J J (fun q=>AF J) (Bj 9 J J (fun q=>Ai (cF J q) J) ?_))
 refine Gt (Ba J J (fun h=>by rw [h];rfl)) ?_
 refine Ga J (Gn (.t1 2) (Ac ?_))
 refine AY J (.tmp J .n) ?_
 intro w1 hS;refine⟨?_,hS.Ao⟩;rfl
theorem JP (z:Int)(w:World):Ev Tryz.prog 156 #[.int .i64 z] w fun v w'=>v = .tuple #[BW (Words.Pu z).1, .bool (Words.Pu z).2]∧CH w w':=by
 refine Ap [] [] Tryz.func156 J J J (St.start w []) ?_
 refine Gs (Ga J (Ga J (Gn (.t1 0) (CL (Gm J (Gn (.t1 4) (Ag ?_)))))))
 refine Gs (Gt (Ai J J) (Ga J (Gn (.t2 4 5) ?_)))
 refine Gc (fun c1=>?_) (fun c1=>?_)
 ·
  refine Gs (Ga J (Ga J (Gn (.t2 2 3) (Ac (AS (AD ?_))))))
  refine AY J (.tmp J (.tmp J .n)) ?_
  intro w1 hS;refine⟨?_,hS.Ao⟩;rw [show Words.Pu z=_ from(BG c1)];rfl
 refine Gs (Gt (Ai J J) (Ga J (Gn (.t2 4 7) ?_)))
 refine Gc (fun c2=>?_) (fun c2=>?_)
 ·
  refine Gs (Ga J (Ga J (Gn (.t2 2 3) (Ac (AS (AD ?_))))))
  refine AY J (.tmp J (.tmp J .n)) ?_
  intro w1 hS;refine⟨?_,hS.Ao⟩;rw [show Words.Pu z=_ from((AX c1).trans (BG c2))];rfl
 refine Gs (Gt (Ai J J) (Ga J (Gn (.t1 9) ?_)))
 refine Gc (fun c3=>?_) (fun c3=>?_)
 ·
  refine Gs (Ga J (Ga J (Gn (.t2 2 3) (Ac (AS (AD ?_))))))
  refine AY J (.tmp J (.tmp J .n)) ?_
  intro w1 hS;refine⟨?_,hS.Ao⟩;rw [show Words.Pu z=_ from((AX c1).trans ((AX c2).trans (BG c3)))];rfl
 refine Aa ?_
 refine AB (.nil _) ?_
 refine AV (AA (Gs (Ga J (Ga J (AR (AA (Ac ?_)))))))
 refine AY J (.tmp J (.tmp J .n)) ?_
 intro w1 hS;refine⟨?_,hS.Ao⟩;rw [show Words.Pu z=_ from((AX c1).trans ((AX c2).trans (AX c3)))];rfl
theorem M6 (s:Ad)(hs:s.length≤4000000)(w:World)(gl0:GV 0 AH.DU w)(gl1:HP 7 w)(gl2:HP 8 w):Ev Tryz.prog 122 #[BW s] w fun v w'=>v = .tuple #[.agg (Words.parse s).1.enc.toArray, .int .i64 (Words.parse s).2]∧CH w w':=by
 refine Ap [] [] Tryz.func122 J J J (St.start w []) ?_
 refine Gs ?_
 refine BJ J Mm J (fun b1=>?_)
 refine Ga J (Gn (.t2 0 2) (Gs (Ga J (AR (AA (Gs (Gm J ?_)))))))
 refine Ak J fy (.c J .n) .n (NY _ hs) (fun v1 B hv=>?_)
 obtain⟨y2,rfl,y3,rfl⟩:=hv
 refine Ga J (Gn (.t4 0 2 4 5) (CL (Gm J (Gt (Au J Tryz.underlying52 J) (Gt (Ai J J) (Gn (.t5 0 2 4 5 20) ?_))))))
 refine Gc (fun c1=>?_) (fun c1=>?_)
 ·
  have hlen:=y3
  (try simp only [Hd.cut] at c1)
  rw [hlen] at c1
  refine Gs (Gm J ?_)
  refine Du J JQ J (.c J .n) .n (B0 _) (fun v5 B hv=>?_)
  obtain⟨rfl,rfl⟩:=hv
  refine Gt (AM J J) (Gt (AM J J) ?_)
  refine AT (AL (AU.id Order.fl.len Order.fl.one) J J J EK J (.t .h)) ?_
  refine Ga J (Gn (.t2 2 3) (Ac (AD ?_)))
  refine AY J (.cell J .m1 (.inl ⟨(by rw [Order.fl.len];exact CI),J⟩) (.tmp J .n)) ?_
  intro w1 hS;refine⟨?_,hS.Ao⟩;rw [show Words.parse s=_ from(BG c1)];rfl
 have c1p:=kz c1
 have hlen:=y3
 (try simp only [Hd.cut] at c1)
 rw [hlen] at c1
 refine Aa ?_
 refine AB (.t4 0 2 4 5) ?_
 refine AA (Gs (Gm J ?_))
 refine Gt (Bz JO (by decide) (Kn.own .m0) J J (by omega) (by first | omega | (simp only [Hd.cut] at *;omega) | (simp [Hd.cut] at q ⊢;omega))) ?_
 refine Gt (DY J CO (Kn.own .m0) (by first | omega | (simp only [List.length_drop,Hd.cut] at *;omega) | (simp [Hd.cut] at q ⊢;omega))) ?_
 refine BC J dB (.c J .n) (fun w hS=>J0 _ w (gl0.st hS)) ?_
 refine Gm J (Gt (AM J J) (Gt (AM J J) (Ga J (Ga J (Gn (.t6 0 2 4 5 6 7) (CL (Gm J ?_)))))))
 refine Gt (Cm J J) (Gn (.t7 0 2 4 5 6 7 33) ?_)
 refine Gc (fun c2=>?_) (fun c2=>?_)
 ·
  refine Gs (Gm J (Gm J ?_))
  refine Du J JQ J (.c J .n) .n (B0 _) (fun v6 B hv=>?_)
  obtain⟨rfl,rfl⟩:=hv
  refine Gt (AM J J) (Gt (AM J J) ?_)
  refine AT (AL (AU.id Order.fl.len Order.fl.one) J J J EK J (.t .h)) ?_
  refine Ga J (Gn (.t2 2 3) (Ac (AD ?_)))
  refine AY J (.cell J .m1 (.inl ⟨(by rw [Order.fl.len];exact CI),J⟩) (.tmp J .n)) ?_
  intro w1 hS;refine⟨?_,hS.Ao⟩;rw [show Words.parse s=_ from((AX c1).trans (BG c2))];rfl
 have c2p:=kz c2
 refine Aa ?_
 refine AB (.t5 0 2 4 5 6) ?_
 refine AA (Gs (Gm J (Gt (BF Td Mm J (.cons Order.l0 J J J .nil)) ?_)))
 refine BJ J Mm J (fun b2=>?_)
 refine AT (AL (AU.id Order.fl.len Order.fl.one) J J J EK J .h) ?_
 refine Gn (.t6 0 2 4 5 6 8) (Gs (Gm J ?_))
 refine HH C7 J Tryz.underlying52 Ed J J (by decide) (by first | omega | (simp only [Hd.cut];omega) | (simp only [Hd.cut] at *;omega)) (fun _=>(.t .h)) ?_
 refine Ga J (Gn (.t6 0 2 4 5 6 8) (Aq (Ag (Gs (Gm J (Gt (Ai J J) (Ga J ?_)))))))
 refine Gn (.t7 0 2 4 5 6 8 43) ?_
 refine Gc (fun c3=>?_) (fun c3=>?_)
 ·
  have c3p:=kz c3
  refine Gs (Gm J ?_)
  refine BC J fT (.c J (.c J .n)) (fun w hS=>J3 _ (by omega) w) ?_
  refine BC J eK (.c J (.c J .n)) (fun w hS=>JL _ 32 (by have:=Words.MV 32 s;omega) w) ?_
  refine Gm J (Gt (AM J J) (Gt (AM J J) (Gt (AM J J) (Ga J (Ga J (Ga J (Gn (.t4 2 4 8 10) ?_)))))))
  refine CL (Gm J ?_)
  refine BC J gp (.c J (.c J .n)) (fun w hS=>Ig _ (by have h1:=Words.MV 32 s;have h2:=Words.OU 32 (Words.Qj 32 s);omega) w) ?_
  refine Gt (Al Sm J) ?_
  refine AT (AL Order.l5 J J J Ed J .h) ?_
  refine Gn (.t3 2 4 8) (Gs (Gt (Al Sm J) (Gt (AI J CO .m0 Order.l5 J J) (Gt (B4 J J) (Gn (.t4 2 4 8 58) ?_)))))
  refine Gc (fun c4=>?_) (fun c4=>?_)
  ·
   refine Gs (Gm J ?_)
   refine Du J JQ J (.c J .n) .n (B0 _) (fun v7 B hv=>?_)
   obtain⟨rfl,rfl⟩:=hv
   refine Gt (AM J J) (Gt (AM J J) ?_)
   refine AT (AL (AU.id Order.fl.len Order.fl.one) J J J EK J (.t (.t .h))) ?_
   refine Ga J (Gn (.t2 2 3) (Ac (AD (AS (AD ?_)))))
   refine AY J (.cell J .m2 (.inl ⟨(by rw [Order.fl.len];exact CI),J⟩) (.tmp J .n)) ?_
   intro w1 hS;refine⟨?_,hS.Ao⟩;rw [show Words.parse s=_ from((AX c1).trans ((AX c2).trans ((BG c3).trans (BG c4))))];rfl
  refine Aa ?_
  refine AB (.t2 2 8) ?_
  refine AA (Gs (Gt (AZ J CI .m0 (AU.id Order.fl.len Order.fl.one) J) ?_))
  refine AT (AL (AU.id Order.fl.len Order.fl.one) J J J EK J (.t (.t .h))) ?_
  refine Ga J (Gn (.t2 2 3) (Ac (AS (AD ?_))))
  refine AY J (.cell J .m2 (.inl ⟨(by rw [Order.fl.len];exact CI),J⟩) (.tmp J .n)) ?_
  intro w1 hS;refine⟨?_,hS.Ao⟩;rw [show Words.parse s=_ from((AX c1).trans ((AX c2).trans ((BG c3).trans (AX c4))))];rfl
 have c3p:=kz c3
 refine Gs (Gm J (Gt (I3 J J) (Gm J (Bj 67 J J (fun q=>AF J) (Bj 67 J J (fun q=>CZ (cF J q) J) ?_)))))
 refine Gt (Ba J J (fun h=>by rw [h];rfl)) ?_
 refine Ga J (Gn (.t6 2 4 5 6 8 64) ?_)
 refine Gc (fun c5=>?_) (fun c5=>?_)
 ·
  refine CL (Gm J (Gt (Au J Tryz.underlying52 J) (Gt (Cs J J) (Gn (.t4 2 4 8 73) ?_))))
  refine Gc (fun c6=>?_) (fun c6=>?_)
  ·
   (try simp only [Hd.cut] at c6)
   rw [hlen] at c6
   refine Gs (Gm J ?_)
   refine Du J JQ J (.c J .n) .n (B0 _) (fun v8 B hv=>?_)
   obtain⟨rfl,rfl⟩:=hv
   refine Gt (AM J J) (Gt (AM J J) ?_)
   refine AT (AL (AU.id Order.fl.len Order.fl.one) J J J EK J (.t (.t .h))) ?_
   refine Ga J (Gn (.t2 2 3) (Ac (AD (AS (AD ?_)))))
   refine AY J (.cell J .m2 (.inl ⟨(by rw [Order.fl.len];exact CI),J⟩) (.tmp J .n)) ?_
   intro w1 hS;refine⟨?_,hS.Ao⟩;rw [show Words.parse s=_ from((AX c1).trans ((AX c2).trans ((AX c3).trans ((BG c5).trans (BG c6)))))];rfl
  (try simp only [Hd.cut] at c6)
  rw [hlen] at c6
  refine Aa ?_
  refine AB (.t2 2 8) ?_
  refine AA (Gs (Gt (AZ J CI .m0 (AU.id Order.fl.len Order.fl.one) J) ?_))
  refine AT (AL (AU.id Order.fl.len Order.fl.one) J J J EK J (.t (.t .h))) ?_
  refine Ga J (Gn (.t2 2 3) (Ac (AS (AD ?_))))
  refine AY J (.cell J .m2 (.inl ⟨(by rw [Order.fl.len];exact CI),J⟩) (.tmp J .n)) ?_
  intro w1 hS;refine⟨?_,hS.Ao⟩;rw [show Words.parse s=_ from((AX c1).trans ((AX c2).trans ((AX c3).trans ((BG c5).trans (AX c6)))))];rfl
 have c5p:=kz c5
 refine Gs (Gm J (Gt (Au J Tryz.underlying52 J) (Gt (Ai J J) (Ga J (Gn (.t6 2 4 5 6 8 79) ?_)))))
 refine Gc (fun c7=>?_) (fun c7=>?_)
 ·
  (try simp only [Hd.cut] at c7)
  rw [hlen] at c7
  refine Gs (Gm J ?_)
  refine Du J JQ J (.c J .n) .n (B0 _) (fun v9 B hv=>?_)
  obtain⟨rfl,rfl⟩:=hv
  refine Gt (AM J J) (Gt (AM J J) ?_)
  refine AT (AL (AU.id Order.fl.len Order.fl.one) J J J EK J (.t (.t .h))) ?_
  refine Ga J (Gn (.t2 2 3) (Ac (AS (AD ?_))))
  refine AY J (.cell J .m2 (.inl ⟨(by rw [Order.fl.len];exact CI),J⟩) (.tmp J .n)) ?_
  intro w1 hS;refine⟨?_,hS.Ao⟩;rw [show Words.parse s=_ from((AX c1).trans ((AX c2).trans ((AX c3).trans ((AX c5).trans (BG c7)))))];rfl
 have c7p:=kz c7
 (try simp only [Hd.cut] at c7)
 rw [hlen] at c7
 refine Aa ?_
 refine AB (.t5 2 4 5 6 8) ?_
 refine AV (AA (CL (Gm J (Gt (Ai J J) (Gm J (Bj 89 J J (fun q=>AF J) (Bj 89 J J (fun q=>Ai (cF J q) J) ?_)))))))
 refine Gt (Ba J J (fun h=>by rw [h];rfl)) ?_
 refine Gn (.t6 2 4 5 6 8 92) ?_
 refine Gc (fun c8=>?_) (fun c8=>?_)
 ·
  have c8p:=kz c8
  refine Gs (Gm J ?_)
  refine Gt (Bz JO (by decide) (Kn.own .m1) J J (by omega) (by first | omega | (simp only [Hd.cut] at *;omega) | (simp [Hd.cut] at q ⊢;omega))) ?_
  refine Gt (DY J CO (Kn.own .m1) (by first | omega | (simp only [List.length_drop,Hd.cut] at *;omega) | (simp [Hd.cut] at q ⊢;omega))) ?_
  refine BC J dB (.c J .n) (fun w hS=>J0 _ w (gl0.st hS)) ?_
  refine Gm J (Gt (AM J J) (Gt (AM J J) (Ga J (Ga J (Gn (.t7 2 4 5 6 8 12 13) (Gs (Gm J ?_)))))))
  refine Gt (Ai J J) (Gm J (Bp 102 J J (fun q=>AF J) (Bp 102 J J (fun q=>BA (Bo J q) J) (Gt (BQ J J (fun h=>h)) (Gm J (Bp 106 J J (fun q=>AF J) (Bp 106 J J (fun q=>Au J Tryz.underlying52 (Bo J q)) ?_)))))))
  refine Bp 106 J J (fun q=>Ai (Bo J q) J) (Gt (BQ J J (fun h=>h)) (Gn (.t7 2 4 5 6 8 12 110) ?_))
  refine Gc (fun c9=>?_) (fun c9=>?_)
  ·
   have c9p:=kz c9
   (try simp only [Hd.cut] at c9)
   rw [hlen] at c9
   have hd:0≤(Words.verb (((Words.words s).drop (1:Int).toNat).getD (0:Int).toNat [])).1∧(Words.verb (((Words.words s).drop (1:Int).toNat).getD (0:Int).toNat [])).1 < 6:=⟨(Words.Yh _).1,by have h:=c9;rw [Bool.and_eq_true,Bool.and_eq_true] at h;exact of_decide_eq_true h.1.2⟩
   refine Gs (Gm J ?_)
   refine Gt (AQ bI J J (by first | omega | (simp only [Hd.cut];omega) | (simp only [Hd.cut] at *;omega)) (by first | omega | (simp only [Hd.cut];omega) | (simp only [Hd.cut] at *;omega))) ?_
   refine Gt (Rk gl0 J CO (AH.PG hd.1 hd.2)) (Gt (Al GR J) ?_)
   refine AT (AL Order.l3 J J J Ed J .h) ?_
   refine Gt (Al G2 J) ?_
   refine AT (AL Order.l1 J J J DO J .h) ?_
   refine Gn (.t2 2 8) (Gs (Gt (AZ J CI .m0 (AU.id Order.fl.len Order.fl.one) J) ?_))
   refine AT (AL (AU.id Order.fl.len Order.fl.one) J J J EK J (.t (.t .h))) ?_
   refine Ga J (Gn (.t2 2 3) (Ac (AD ?_)))
   refine AY J (.cell J .m2 (.inl ⟨(by rw [Order.fl.len];exact CI),J⟩) (.tmp J .n)) ?_
   intro w1 hS;refine⟨?_,hS.Ao⟩;rw [show Words.parse s=_ from((AX c1).trans ((AX c2).trans ((AX c3).trans ((AX c5).trans ((AX c7).trans ((BG c8).trans (BG c9)))))))];rfl
  have c9p:=kz c9
  (try simp only [Hd.cut] at c9)
  rw [hlen] at c9
  refine Aa ?_
  refine AB (.t5 2 4 5 6 8) ?_
  refine AA (CL (Gm J ?_))
  refine Gt (Bz JO (by decide) (Kn.own .m1) J J (by omega) (by first | omega | (simp only [Hd.cut] at *;omega) | (simp [Hd.cut] at q ⊢;omega))) ?_
  refine Gt (DY J CO (Kn.own .m1) (by first | omega | (simp only [List.length_drop,Hd.cut] at *;omega) | (simp [Hd.cut] at q ⊢;omega))) ?_
  refine BC J Wu (.c J .n) (fun w hS=>Fg _ (by have:=Words.NR s 0 1;exact Nat.le_trans this (by omega)) w (gl1.st hS) (gl2.st hS)) ?_
  refine Gm J (Gt (AM J J) (Gt (AM J J) (Gt (AM J J) (Gt (AM J J) (Gt (Al G2 J) ?_)))))
  refine AT (AL Order.l1 J J J DO J .h) ?_
  refine Gt (Al GR J) ?_
  refine AT (AL Order.l3 J J J Ed J .h) ?_
  refine Gt (Al Hn J) ?_
  refine AT (AL Order.l2 J J J LG J .h) ?_
  refine Ga J (Gn (.t6 2 4 5 6 7 8) (Gs (Gm J (Gt (Cm J J) (Gm J (Bj 131 J J (fun q=>Al Hn J) (Bj 131 J J (fun q=>AI (cF J q) D3 .m0 Order.l2 J J) ?_)))))))
  refine Bj 131 J J (fun q=>AF (cF J q)) ?_
  refine Db (t:=134) J J J (fun qc q=>AF J) ?_
  refine Ww (t:=134) J J J (fun qc q=>by have q1:=q;have qc1:=qc;(try simp at q1 qc1);exact D0 dW (.c (Bo rfl (by rw [qc,q];rfl)) .n) (fun w hS=>J2 _ w)) ?_
  refine Db (t:=134) J J J (fun qc q=>BZ (Bo J (by rw [qc,q];rfl))) ?_
  refine Bj 131 J J (fun q=>BQ (cF J q) J (fun h=>by rw [q,h];rfl)) ?_
  refine Gt (Ba J J (fun h=>by rw [h];rfl)) ?_
  refine Gn (.t6 2 4 5 6 8 139) ?_
  refine Gc (fun c10=>?_) (fun c10=>?_)
  ·
   refine Gs (Gm J ?_)
   refine Du J JQ J (.c J .n) .n (B0 _) (fun v10 B hv=>?_)
   obtain⟨rfl,rfl⟩:=hv
   refine Gt (AM J J) (Gt (AM J J) ?_)
   refine AT (AL (AU.id Order.fl.len Order.fl.one) J J J EK J (.t (.t .h))) ?_
   refine Ga J (Gn (.t2 2 3) (Ac (AD ?_)))
   refine AY J (.cell J .m2 (.inl ⟨(by rw [Order.fl.len];exact CI),J⟩) (.tmp J .n)) ?_
   intro w1 hS;refine⟨?_,hS.Ao⟩;rw [show Words.parse s=_ from((AX c1).trans ((AX c2).trans ((AX c3).trans ((AX c5).trans ((AX c7).trans ((BG c8).trans ((AX c9).trans (BG c10))))))))];rfl
  have c10p:=kz c10
  refine Aa ?_
  refine AB (.t5 2 4 5 6 8) ?_
  refine AA (Gs (Gm J ?_))
  refine BC J dX (.c J .n) (fun w hS=>JP _ w) ?_
  refine Gm J (Gt (AM J J) (Gt (AM J J) (Ga J (Ga J (Gn (.t6 2 4 5 8 14 15) (Gs (Gm J ?_)))))))
  refine HH C7 J Tryz.underlying52 Ed J J (by decide) (by first | omega | (simp only [Hd.cut];omega) | (simp only [Hd.cut] at *;omega)) (fun _=>(.t .h)) ?_
  refine Ga J (Gn (.t6 2 4 5 8 14 15) (CL (Gm J (Gt (Au J Tryz.underlying52 J) (Gt (Cs J J) (Gm J (Bp 154 J J (fun q=>AF J) ?_)))))))
  refine Bp 154 J J (fun q=>DK (Bo J q) J) (Gt (BQ J J (fun h=>h)) (Gm J (Bp 158 J J (fun q=>AF J) ?_)))
  refine Bp 158 J J (fun q=>by have q1:=q;(try simp at q1);exact Bz JO (by decide) (Kn.own .m1) (Bo rfl q) rfl (by omega) (by first | omega | (simp only [Hd.cut] at *;omega) | (simp [Hd.cut] at q ⊢;omega))) ?_
  refine Bp 158 J J (fun q=>by have q1:=q;(try simp at q1);exact DY (Bo rfl q) CO (Kn.own .m1) (by first | omega | (simp only [List.length_drop,Hd.cut] at *;omega) | (simp [Hd.cut] at q ⊢;omega))) ?_
  refine Bp 158 J J (fun q=>AF J) (Bp 158 J J (fun q=>B4 (Bo J q) (Bo J q)) (Gt (BQ J J (fun h=>h)) (Gn (.t7 2 4 5 8 14 15 164) ?_)))
  refine Gc (fun c11=>?_) (fun c11=>?_)
  ·
   have c11p:=kz c11
   (try simp only [Hd.cut] at c11)
   rw [hlen] at c11
   refine Gs (Gm J ?_)
   refine HH C7 J Tryz.underlying52 Ed J J (by decide) (by first | omega | (simp only [Hd.cut];omega) | (simp only [Hd.cut] at *;omega)) (fun _=>(.t .h)) ?_
   refine Ga J (Gn (.t6 2 4 5 8 14 15) (Gs (Gm J (Gt (Au J Tryz.underlying52 J) (Gt (Ai J J) (Gn (.t7 2 4 5 8 14 15 169) ?_))))))
   refine Gc (fun c12=>?_) (fun c12=>?_)
   ·
    (try simp only [Hd.cut] at c12)
    rw [hlen] at c12
    refine Gs (Gm J ?_)
    refine Du J JQ J (.c J .n) .n (B0 _) (fun v11 B hv=>?_)
    obtain⟨rfl,rfl⟩:=hv
    refine Gt (AM J J) (Gt (AM J J) ?_)
    refine AT (AL (AU.id Order.fl.len Order.fl.one) J J J EK J (.t (.t .h))) ?_
    refine Ga J (Gn (.t2 2 3) (Ac (AD ?_)))
    refine AY J (.cell J .m2 (.inl ⟨(by rw [Order.fl.len];exact CI),J⟩) (.tmp J .n)) ?_
    intro w1 hS;refine⟨?_,hS.Ao⟩;rw [show Words.parse s=_ from((AX c1).trans ((AX c2).trans ((AX c3).trans ((AX c5).trans ((AX c7).trans ((BG c8).trans ((AX c9).trans ((AX c10).trans ((BG c11).trans (BG c12))))))))))];rfl
   have c12p:=kz c12
   (try simp only [Hd.cut] at c12)
   rw [hlen] at c12
   refine Aa ?_
   refine AB (.t6 2 4 5 8 14 15) ?_
   refine AA (Aq (Ag (Gs (Gm J (Gt (Au J Tryz.underlying52 J) (Gt (Ai J J) (Gm J ?_)))))))
   refine Bp 178 J J (fun q=>AF J) (Bp 178 J J (fun q=>BZ (Bo J q)) (Gt (BQ J J (fun h=>h)) (Ga J (Gn (.t6 2 4 5 8 14 174) ?_))))
   refine Gc (fun c13=>?_) (fun c13=>?_)
   ·
    (try simp only [Hd.cut] at c13)
    rw [hlen] at c13
    refine Gs (Gt (AZ J CI .m0 (AU.id Order.fl.len Order.fl.one) J) ?_)
    refine AT (AL (AU.id Order.fl.len Order.fl.one) J J J EK J (.t (.t .h))) ?_
    refine Ga J (Gn (.t2 2 3) (Ac (AS (AD ?_))))
    refine AY J (.cell J .m2 (.inl ⟨(by rw [Order.fl.len];exact CI),J⟩) (.tmp J .n)) ?_
    intro w1 hS;refine⟨?_,hS.Ao⟩;rw [show Words.parse s=_ from((AX c1).trans ((AX c2).trans ((AX c3).trans ((AX c5).trans ((AX c7).trans ((BG c8).trans ((AX c9).trans ((AX c10).trans ((BG c11).trans ((AX c12).trans (BG c13)))))))))))];rfl
   have c13p:=kz c13
   (try simp only [Hd.cut] at c13)
   rw [hlen] at c13
   refine Gs (Gm J (Gt (Au J Tryz.underlying52 J) (Gt (Cm J J) (Gm J (Bj 187 J J (fun q=>AF J) (Bj 187 J J (fun q=>B4 (cF J q) J) ?_))))))
   refine Gt (Ba J J (fun h=>by rw [h];rfl)) ?_
   refine Ga J (Gn (.t5 2 4 5 8 183) ?_)
   refine Gc (fun c14=>?_) (fun c14=>?_)
   ·
    (try simp only [Hd.cut] at c14)
    rw [hlen] at c14
    refine Gs (Gm J ?_)
    refine Du J JQ J (.c J .n) .n (B0 _) (fun v12 B hv=>?_)
    obtain⟨rfl,rfl⟩:=hv
    refine Gt (AM J J) (Gt (AM J J) ?_)
    refine AT (AL (AU.id Order.fl.len Order.fl.one) J J J EK J (.t (.t .h))) ?_
    refine Ga J (Gn (.t2 2 3) (Ac (AS (AD ?_))))
    refine AY J (.cell J .m2 (.inl ⟨(by rw [Order.fl.len];exact CI),J⟩) (.tmp J .n)) ?_
    intro w1 hS;refine⟨?_,hS.Ao⟩;rw [show Words.parse s=_ from((AX c1).trans ((AX c2).trans ((AX c3).trans ((AX c5).trans ((AX c7).trans ((BG c8).trans ((AX c9).trans ((AX c10).trans ((BG c11).trans ((AX c12).trans ((AX c13).trans (BG c14))))))))))))];rfl
   have c14p:=kz c14
   (try simp only [Hd.cut] at c14)
   rw [hlen] at c14
   refine Aa ?_
   refine AB (.t3 2 5 8) ?_
   refine AV (AA (Gs (Gm J ?_)))
   refine Gt (Bz JO (by decide) (Kn.own .m1) J J (by omega) (by first | omega | (simp only [Hd.cut] at *;omega) | (simp [Hd.cut] at q ⊢;omega))) ?_
   refine Gt (DY J CO (Kn.own .m1) (by first | omega | (simp only [List.length_drop,Hd.cut] at *;omega) | (simp [Hd.cut] at q ⊢;omega))) ?_
   refine Gt (Al Im J) ?_
   refine AT (AL Order.l4 J J J Ed J .h) ?_
   refine Gn (.t2 2 8) (Gs (Gt (AZ J CI .m0 (AU.id Order.fl.len Order.fl.one) J) ?_))
   refine AT (AL (AU.id Order.fl.len Order.fl.one) J J J EK J (.t (.t .h))) ?_
   refine Ga J (Gn (.t2 2 3) (Ac ?_))
   refine AY J (.cell J .m2 (.inl ⟨(by rw [Order.fl.len];exact CI),J⟩) (.tmp J .n)) ?_
   intro w1 hS;refine⟨?_,hS.Ao⟩;rw [show Words.parse s=_ from((AX c1).trans ((AX c2).trans ((AX c3).trans ((AX c5).trans ((AX c7).trans ((BG c8).trans ((AX c9).trans ((AX c10).trans ((BG c11).trans ((AX c12).trans ((AX c13).trans (AX c14))))))))))))];rfl
  have c11p:=kz c11
  (try simp only [Hd.cut] at c11)
  rw [hlen] at c11
  refine Aa ?_
  refine AB (.t6 2 4 5 8 14 15) ?_
  refine AA (Aq (Ag (Gs (Gm J (Gt (Au J Tryz.underlying52 J) (Gt (Ai J J) (Gm J ?_)))))))
  refine Bp 178 J J (fun q=>AF J) (Bp 178 J J (fun q=>BZ (Bo J q)) (Gt (BQ J J (fun h=>h)) (Ga J (Gn (.t6 2 4 5 8 14 174) ?_))))
  refine Gc (fun c15=>?_) (fun c15=>?_)
  ·
   (try simp only [Hd.cut] at c15)
   rw [hlen] at c15
   refine Gs (Gt (AZ J CI .m0 (AU.id Order.fl.len Order.fl.one) J) ?_)
   refine AT (AL (AU.id Order.fl.len Order.fl.one) J J J EK J (.t (.t .h))) ?_
   refine Ga J (Gn (.t2 2 3) (Ac (AS (AD ?_))))
   refine AY J (.cell J .m2 (.inl ⟨(by rw [Order.fl.len];exact CI),J⟩) (.tmp J .n)) ?_
   intro w1 hS;refine⟨?_,hS.Ao⟩;rw [show Words.parse s=_ from((AX c1).trans ((AX c2).trans ((AX c3).trans ((AX c5).trans ((AX c7).trans ((BG c8).trans ((AX c9).trans ((AX c10).trans ((AX c11).trans (BG c15))))))))))];rfl
  have c15p:=kz c15
  (try simp only [Hd.cut] at c15)
  rw [hlen] at c15
  refine Gs (Gm J (Gt (Au J Tryz.underlying52 J) (Gt (Cm J J) (Gm J (Bj 187 J J (fun q=>AF J) (Bj 187 J J (fun q=>B4 (cF J q) J) ?_))))))
  refine Gt (Ba J J (fun h=>by rw [h];rfl)) ?_
  refine Ga J (Gn (.t5 2 4 5 8 183) ?_)
  refine Gc (fun c16=>?_) (fun c16=>?_)
  ·
   (try simp only [Hd.cut] at c16)
   rw [hlen] at c16
   refine Gs (Gm J ?_)
   refine Du J JQ J (.c J .n) .n (B0 _) (fun v13 B hv=>?_)
   obtain⟨rfl,rfl⟩:=hv
   refine Gt (AM J J) (Gt (AM J J) ?_)
   refine AT (AL (AU.id Order.fl.len Order.fl.one) J J J EK J (.t (.t .h))) ?_
   refine Ga J (Gn (.t2 2 3) (Ac (AS (AD ?_))))
   refine AY J (.cell J .m2 (.inl ⟨(by rw [Order.fl.len];exact CI),J⟩) (.tmp J .n)) ?_
   intro w1 hS;refine⟨?_,hS.Ao⟩;rw [show Words.parse s=_ from((AX c1).trans ((AX c2).trans ((AX c3).trans ((AX c5).trans ((AX c7).trans ((BG c8).trans ((AX c9).trans ((AX c10).trans ((AX c11).trans ((AX c15).trans (BG c16)))))))))))];rfl
  have c16p:=kz c16
  (try simp only [Hd.cut] at c16)
  rw [hlen] at c16
  refine Aa ?_
  refine AB (.t3 2 5 8) ?_
  refine AV (AA (Gs (Gm J ?_)))
  refine Gt (Bz JO (by decide) (Kn.own .m1) J J (by omega) (by first | omega | (simp only [Hd.cut] at *;omega) | (simp [Hd.cut] at q ⊢;omega))) ?_
  refine Gt (DY J CO (Kn.own .m1) (by first | omega | (simp only [List.length_drop,Hd.cut] at *;omega) | (simp [Hd.cut] at q ⊢;omega))) ?_
  refine Gt (Al Im J) ?_
  refine AT (AL Order.l4 J J J Ed J .h) ?_
  refine Gn (.t2 2 8) (Gs (Gt (AZ J CI .m0 (AU.id Order.fl.len Order.fl.one) J) ?_))
  refine AT (AL (AU.id Order.fl.len Order.fl.one) J J J EK J (.t (.t .h))) ?_
  refine Ga J (Gn (.t2 2 3) (Ac ?_))
  refine AY J (.cell J .m2 (.inl ⟨(by rw [Order.fl.len];exact CI),J⟩) (.tmp J .n)) ?_
  intro w1 hS;refine⟨?_,hS.Ao⟩;rw [show Words.parse s=_ from((AX c1).trans ((AX c2).trans ((AX c3).trans ((AX c5).trans ((AX c7).trans ((BG c8).trans ((AX c9).trans ((AX c10).trans ((AX c11).trans ((AX c15).trans (AX c16)))))))))))];rfl
 have c8p:=kz c8
 refine Aa ?_
 refine AB (.t5 2 4 5 6 8) ?_
 refine AA (CL (Gm J ?_))
 refine Gt (Bz JO (by decide) (Kn.own .m1) J J (by omega) (by first | omega | (simp only [Hd.cut] at *;omega) | (simp [Hd.cut] at q ⊢;omega))) ?_
 refine Gt (DY J CO (Kn.own .m1) (by first | omega | (simp only [List.length_drop,Hd.cut] at *;omega) | (simp [Hd.cut] at q ⊢;omega))) ?_
 refine BC J Wu (.c J .n) (fun w hS=>Fg _ (by have:=Words.NR s 0 1;exact Nat.le_trans this (by omega)) w (gl1.st hS) (gl2.st hS)) ?_
 refine Gm J (Gt (AM J J) (Gt (AM J J) (Gt (AM J J) (Gt (AM J J) (Gt (Al G2 J) ?_)))))
 refine AT (AL Order.l1 J J J DO J .h) ?_
 refine Gt (Al GR J) ?_
 refine AT (AL Order.l3 J J J Ed J .h) ?_
 refine Gt (Al Hn J) ?_
 refine AT (AL Order.l2 J J J LG J .h) ?_
 refine Ga J (Gn (.t6 2 4 5 6 7 8) (Gs (Gm J (Gt (Cm J J) (Gm J (Bj 131 J J (fun q=>Al Hn J) (Bj 131 J J (fun q=>AI (cF J q) D3 .m0 Order.l2 J J) ?_)))))))
 refine Bj 131 J J (fun q=>AF (cF J q)) ?_
 refine Db (t:=134) J J J (fun qc q=>AF J) ?_
 refine Ww (t:=134) J J J (fun qc q=>by have q1:=q;have qc1:=qc;(try simp at q1 qc1);exact D0 dW (.c (Bo rfl (by rw [qc,q];rfl)) .n) (fun w hS=>J2 _ w)) ?_
 refine Db (t:=134) J J J (fun qc q=>BZ (Bo J (by rw [qc,q];rfl))) ?_
 refine Bj 131 J J (fun q=>BQ (cF J q) J (fun h=>by rw [q,h];rfl)) ?_
 refine Gt (Ba J J (fun h=>by rw [h];rfl)) ?_
 refine Gn (.t6 2 4 5 6 8 139) ?_
 refine Gc (fun c17=>?_) (fun c17=>?_)
 ·
  refine Gs (Gm J ?_)
  refine Du J JQ J (.c J .n) .n (B0 _) (fun v14 B hv=>?_)
  obtain⟨rfl,rfl⟩:=hv
  refine Gt (AM J J) (Gt (AM J J) ?_)
  refine AT (AL (AU.id Order.fl.len Order.fl.one) J J J EK J (.t (.t .h))) ?_
  refine Ga J (Gn (.t2 2 3) (Ac (AD ?_)))
  refine AY J (.cell J .m2 (.inl ⟨(by rw [Order.fl.len];exact CI),J⟩) (.tmp J .n)) ?_
  intro w1 hS;refine⟨?_,hS.Ao⟩;rw [show Words.parse s=_ from((AX c1).trans ((AX c2).trans ((AX c3).trans ((AX c5).trans ((AX c7).trans ((AX c8).trans (BG c17)))))))];rfl
 have c17p:=kz c17
 refine Aa ?_
 refine AB (.t5 2 4 5 6 8) ?_
 refine AA (Gs (Gm J ?_))
 refine BC J dX (.c J .n) (fun w hS=>JP _ w) ?_
 refine Gm J (Gt (AM J J) (Gt (AM J J) (Ga J (Ga J (Gn (.t6 2 4 5 8 14 15) (Gs (Gm J ?_)))))))
 refine HH C7 J Tryz.underlying52 Ed J J (by decide) (by first | omega | (simp only [Hd.cut];omega) | (simp only [Hd.cut] at *;omega)) (fun _=>(.t .h)) ?_
 refine Ga J (Gn (.t6 2 4 5 8 14 15) (CL (Gm J (Gt (Au J Tryz.underlying52 J) (Gt (Cs J J) (Gm J (Bp 154 J J (fun q=>AF J) ?_)))))))
 refine Bp 154 J J (fun q=>DK (Bo J q) J) (Gt (BQ J J (fun h=>h)) (Gm J (Bp 158 J J (fun q=>AF J) ?_)))
 refine Bp 158 J J (fun q=>by have q1:=q;(try simp at q1);exact Bz JO (by decide) (Kn.own .m1) (Bo rfl q) rfl (by omega) (by first | omega | (simp only [Hd.cut] at *;omega) | (simp [Hd.cut] at q ⊢;omega))) ?_
 refine Bp 158 J J (fun q=>by have q1:=q;(try simp at q1);exact DY (Bo rfl q) CO (Kn.own .m1) (by first | omega | (simp only [List.length_drop,Hd.cut] at *;omega) | (simp [Hd.cut] at q ⊢;omega))) ?_
 refine Bp 158 J J (fun q=>AF J) (Bp 158 J J (fun q=>B4 (Bo J q) (Bo J q)) (Gt (BQ J J (fun h=>h)) (Gn (.t7 2 4 5 8 14 15 164) ?_)))
 refine Gc (fun c18=>?_) (fun c18=>?_)
 ·
  have c18p:=kz c18
  (try simp only [Hd.cut] at c18)
  rw [hlen] at c18
  refine Gs (Gm J ?_)
  refine HH C7 J Tryz.underlying52 Ed J J (by decide) (by first | omega | (simp only [Hd.cut];omega) | (simp only [Hd.cut] at *;omega)) (fun _=>(.t .h)) ?_
  refine Ga J (Gn (.t6 2 4 5 8 14 15) (Gs (Gm J (Gt (Au J Tryz.underlying52 J) (Gt (Ai J J) (Gn (.t7 2 4 5 8 14 15 169) ?_))))))
  refine Gc (fun c19=>?_) (fun c19=>?_)
  ·
   (try simp only [Hd.cut] at c19)
   rw [hlen] at c19
   refine Gs (Gm J ?_)
   refine Du J JQ J (.c J .n) .n (B0 _) (fun v15 B hv=>?_)
   obtain⟨rfl,rfl⟩:=hv
   refine Gt (AM J J) (Gt (AM J J) ?_)
   refine AT (AL (AU.id Order.fl.len Order.fl.one) J J J EK J (.t (.t .h))) ?_
   refine Ga J (Gn (.t2 2 3) (Ac (AD ?_)))
   refine AY J (.cell J .m2 (.inl ⟨(by rw [Order.fl.len];exact CI),J⟩) (.tmp J .n)) ?_
   intro w1 hS;refine⟨?_,hS.Ao⟩;rw [show Words.parse s=_ from((AX c1).trans ((AX c2).trans ((AX c3).trans ((AX c5).trans ((AX c7).trans ((AX c8).trans ((AX c17).trans ((BG c18).trans (BG c19)))))))))];rfl
  have c19p:=kz c19
  (try simp only [Hd.cut] at c19)
  rw [hlen] at c19
  refine Aa ?_
  refine AB (.t6 2 4 5 8 14 15) ?_
  refine AA (Aq (Ag (Gs (Gm J (Gt (Au J Tryz.underlying52 J) (Gt (Ai J J) (Gm J ?_)))))))
  refine Bp 178 J J (fun q=>AF J) (Bp 178 J J (fun q=>BZ (Bo J q)) (Gt (BQ J J (fun h=>h)) (Ga J (Gn (.t6 2 4 5 8 14 174) ?_))))
  refine Gc (fun c20=>?_) (fun c20=>?_)
  ·
   (try simp only [Hd.cut] at c20)
   rw [hlen] at c20
   refine Gs (Gt (AZ J CI .m0 (AU.id Order.fl.len Order.fl.one) J) ?_)
   refine AT (AL (AU.id Order.fl.len Order.fl.one) J J J EK J (.t (.t .h))) ?_
   refine Ga J (Gn (.t2 2 3) (Ac (AS (AD ?_))))
   refine AY J (.cell J .m2 (.inl ⟨(by rw [Order.fl.len];exact CI),J⟩) (.tmp J .n)) ?_
   intro w1 hS;refine⟨?_,hS.Ao⟩;rw [show Words.parse s=_ from((AX c1).trans ((AX c2).trans ((AX c3).trans ((AX c5).trans ((AX c7).trans ((AX c8).trans ((AX c17).trans ((BG c18).trans ((AX c19).trans (BG c20))))))))))];rfl
  have c20p:=kz c20
  (try simp only [Hd.cut] at c20)
  rw [hlen] at c20
  refine Gs (Gm J (Gt (Au J Tryz.underlying52 J) (Gt (Cm J J) (Gm J (Bj 187 J J (fun q=>AF J) (Bj 187 J J (fun q=>B4 (cF J q) J) ?_))))))
  refine Gt (Ba J J (fun h=>by rw [h];rfl)) ?_
  refine Ga J (Gn (.t5 2 4 5 8 183) ?_)
  refine Gc (fun c21=>?_) (fun c21=>?_)
  ·
   (try simp only [Hd.cut] at c21)
   rw [hlen] at c21
   refine Gs (Gm J ?_)
   refine Du J JQ J (.c J .n) .n (B0 _) (fun v16 B hv=>?_)
   obtain⟨rfl,rfl⟩:=hv
   refine Gt (AM J J) (Gt (AM J J) ?_)
   refine AT (AL (AU.id Order.fl.len Order.fl.one) J J J EK J (.t (.t .h))) ?_
   refine Ga J (Gn (.t2 2 3) (Ac (AS (AD ?_))))
   refine AY J (.cell J .m2 (.inl ⟨(by rw [Order.fl.len];exact CI),J⟩) (.tmp J .n)) ?_
   intro w1 hS;refine⟨?_,hS.Ao⟩;rw [show Words.parse s=_ from((AX c1).trans ((AX c2).trans ((AX c3).trans ((AX c5).trans ((AX c7).trans ((AX c8).trans ((AX c17).trans ((BG c18).trans ((AX c19).trans ((AX c20).trans (BG c21)))))))))))];rfl
  have c21p:=kz c21
  (try simp only [Hd.cut] at c21)
  rw [hlen] at c21
  refine Aa ?_
  refine AB (.t3 2 5 8) ?_
  refine AV (AA (Gs (Gm J ?_)))
  refine Gt (Bz JO (by decide) (Kn.own .m1) J J (by omega) (by first | omega | (simp only [Hd.cut] at *;omega) | (simp [Hd.cut] at q ⊢;omega))) ?_
  refine Gt (DY J CO (Kn.own .m1) (by first | omega | (simp only [List.length_drop,Hd.cut] at *;omega) | (simp [Hd.cut] at q ⊢;omega))) ?_
  refine Gt (Al Im J) ?_
  refine AT (AL Order.l4 J J J Ed J .h) ?_
  refine Gn (.t2 2 8) (Gs (Gt (AZ J CI .m0 (AU.id Order.fl.len Order.fl.one) J) ?_))
  refine AT (AL (AU.id Order.fl.len Order.fl.one) J J J EK J (.t (.t .h))) ?_
  refine Ga J (Gn (.t2 2 3) (Ac ?_))
  refine AY J (.cell J .m2 (.inl ⟨(by rw [Order.fl.len];exact CI),J⟩) (.tmp J .n)) ?_
  intro w1 hS;refine⟨?_,hS.Ao⟩;rw [show Words.parse s=_ from((AX c1).trans ((AX c2).trans ((AX c3).trans ((AX c5).trans ((AX c7).trans ((AX c8).trans ((AX c17).trans ((BG c18).trans ((AX c19).trans ((AX c20).trans (AX c21)))))))))))];rfl
 have c18p:=kz c18
 (try simp only [Hd.cut] at c18)
 rw [hlen] at c18
 refine Aa ?_
 refine AB (.t6 2 4 5 8 14 15) ?_
 refine AA (Aq (Ag (Gs (Gm J (Gt (Au J Tryz.underlying52 J) (Gt (Ai J J) (Gm J ?_)))))))
 refine Bp 178 J J (fun q=>AF J) (Bp 178 J J (fun q=>BZ (Bo J q)) (Gt (BQ J J (fun h=>h)) (Ga J (Gn (.t6 2 4 5 8 14 174) ?_))))
 refine Gc (fun c22=>?_) (fun c22=>?_)
 ·
  (try simp only [Hd.cut] at c22)
  rw [hlen] at c22
  refine Gs (Gt (AZ J CI .m0 (AU.id Order.fl.len Order.fl.one) J) ?_)
  refine AT (AL (AU.id Order.fl.len Order.fl.one) J J J EK J (.t (.t .h))) ?_
  refine Ga J (Gn (.t2 2 3) (Ac (AS (AD ?_))))
  refine AY J (.cell J .m2 (.inl ⟨(by rw [Order.fl.len];exact CI),J⟩) (.tmp J .n)) ?_
  intro w1 hS;refine⟨?_,hS.Ao⟩;rw [show Words.parse s=_ from((AX c1).trans ((AX c2).trans ((AX c3).trans ((AX c5).trans ((AX c7).trans ((AX c8).trans ((AX c17).trans ((AX c18).trans (BG c22)))))))))];rfl
 have c22p:=kz c22
 (try simp only [Hd.cut] at c22)
 rw [hlen] at c22
 refine Gs (Gm J (Gt (Au J Tryz.underlying52 J) (Gt (Cm J J) (Gm J (Bj 187 J J (fun q=>AF J) (Bj 187 J J (fun q=>B4 (cF J q) J) ?_))))))
 refine Gt (Ba J J (fun h=>by rw [h];rfl)) ?_
 refine Ga J (Gn (.t5 2 4 5 8 183) ?_)
 refine Gc (fun c23=>?_) (fun c23=>?_)
 ·
  (try simp only [Hd.cut] at c23)
  rw [hlen] at c23
  refine Gs (Gm J ?_)
  refine Du J JQ J (.c J .n) .n (B0 _) (fun v17 B hv=>?_)
  obtain⟨rfl,rfl⟩:=hv
  refine Gt (AM J J) (Gt (AM J J) ?_)
  refine AT (AL (AU.id Order.fl.len Order.fl.one) J J J EK J (.t (.t .h))) ?_
  refine Ga J (Gn (.t2 2 3) (Ac (AS (AD ?_))))
  refine AY J (.cell J .m2 (.inl ⟨(by rw [Order.fl.len];exact CI),J⟩) (.tmp J .n)) ?_
  intro w1 hS;refine⟨?_,hS.Ao⟩;rw [show Words.parse s=_ from((AX c1).trans ((AX c2).trans ((AX c3).trans ((AX c5).trans ((AX c7).trans ((AX c8).trans ((AX c17).trans ((AX c18).trans ((AX c22).trans (BG c23))))))))))];rfl
 have c23p:=kz c23
 (try simp only [Hd.cut] at c23)
 rw [hlen] at c23
 refine Aa ?_
 refine AB (.t3 2 5 8) ?_
 refine AV (AA (Gs (Gm J ?_)))
 refine Gt (Bz JO (by decide) (Kn.own .m1) J J (by omega) (by first | omega | (simp only [Hd.cut] at *;omega) | (simp [Hd.cut] at q ⊢;omega))) ?_
 refine Gt (DY J CO (Kn.own .m1) (by first | omega | (simp only [List.length_drop,Hd.cut] at *;omega) | (simp [Hd.cut] at q ⊢;omega))) ?_
 refine Gt (Al Im J) ?_
 refine AT (AL Order.l4 J J J Ed J .h) ?_
 refine Gn (.t2 2 8) (Gs (Gt (AZ J CI .m0 (AU.id Order.fl.len Order.fl.one) J) ?_))
 refine AT (AL (AU.id Order.fl.len Order.fl.one) J J J EK J (.t (.t .h))) ?_
 refine Ga J (Gn (.t2 2 3) (Ac ?_))
 refine AY J (.cell J .m2 (.inl ⟨(by rw [Order.fl.len];exact CI),J⟩) (.tmp J .n)) ?_
 intro w1 hS;refine⟨?_,hS.Ao⟩;rw [show Words.parse s=_ from((AX c1).trans ((AX c2).trans ((AX c3).trans ((AX c5).trans ((AX c7).trans ((AX c8).trans ((AX c17).trans ((AX c18).trans ((AX c22).trans (AX c23))))))))))];rfl
theorem IL (d:Int)(w:World):Ev Tryz.prog 128 #[.int .i64 d] w fun v w'=>v = .int .i64 (AH.opposite d)∧CH w w':=by
 refine Ap [] [] Tryz.func128 J J J (St.start w []) ?_
 refine Gs (Ga J (Gn (.t1 0) (Gs (Gm J (Gt (Mt J J) (Gt (Mq J J) ?_))))))
 refine Gt (Ay J J (IntWalk.i64_in _ (by omega))) ?_
 refine Gt (VO J J (by omega)) ?_
 refine Ga J (Gn (.t1 2) (Ac ?_))
 refine AY J (.tmp J .n) ?_
 intro w1 hS;refine⟨?_,hS.Ao⟩;rfl
theorem Sr (b:Nat)(T:AE)(g:Hd)(d:Int)(hg:g.len=T.out.length)(hF:T.Fit)(hd:0≤d∧d < 6)(hn:T.out.length≤80000):FO Tryz.prog 99 #[.pointer (some ⟨b,0,none⟩), .int .i64 d] [Ab.box b 163 (Af.enc ⟨T.w,T.b,g⟩),Ab.own g 56 16 (T.out.flatMap Ing.Event.enc)] (fun w=>(GV 0 AH.DU w∧0 ∉ Ch [Ab.box b 163 (Af.enc ⟨T.w,T.b,g⟩),Ab.own g 56 16 (T.out.flatMap Ing.Event.enc)])) (fun v B=>∃ g':Hd,v = .tuple #[]∧g'.len=(T.walk d).out.length∧B = [Ab.box b 163 (Af.enc ⟨(T.walk d).w,(T.walk d).b,g'⟩),Ab.own g' 56 16 ((T.walk d).out.flatMap Ing.Event.enc)]):=by
 intro w hS0 hH
 obtain⟨gl0,gm0⟩:=hH
 have hb:=hF.b
 have hr:=hF.room
 have hx:=hF.exit hd.1 hd.2
 refine Ap _ _ Tryz.func99 J J J (hS0) ?_
 refine Aq ?_
 refine BE (N:=19) [0,0,0,4,12,28,2,66,194,510,1022,2046,1,4097,12289,32767,65535,0,262143] mix (by kernel_rfl) J ?_
 refine Pf 0 J (AF J) (Pf 1 J (AF J) (Pf 2 J (AF J) (Pf 3 J (Bb J) (Pf 4 J (Al Cb J) (Pf 5 J (AI J A8 .m0 Af.l1 J J) (Pf 6 J (Bb J) (Pf 7 J (Al BB J) ?_)))))))
 refine Pf 8 J (Al Bx J) ?_
 refine Pf 9 J (AQ DI J J (by first | omega | exact hb.1 | exact hb.2 | (dsimp only;omega)) (by first | omega | exact hb.1 | exact hb.2 | (dsimp only;omega))) ?_
 refine Pf 10 J (Al DE J) ?_
 refine Pf 11 J (AI J A8 .m0 (((Af.l0.comp AH.l2).comp (AU.ar (n:=6) Am.fl (by first | omega | exact hb | (dsimp only;omega)))).comp Am.l3) J J) ?_
 refine Pf 12 J (Bb J) (Pf 13 J (Al BB J) (Pf 14 J (Al HU J) ?_))
 refine Pf 15 J (AQ Om J J (by first | omega | exact hb.1 | exact hb.2 | (dsimp only;omega)) (by first | omega | exact hb.1 | exact hb.2 | (dsimp only;omega))) ?_
 refine Pf 16 J (AZ J PY .m0 ((Af.l0.comp AH.l0).comp (AU.ar (n:=6) Room.fl (by first | omega | exact hb | (dsimp only;omega)))) J) ?_
 refine Aj 17 J (by kernel_rfl) ?_
 refine BJ J QE J (fun b1=>?_)
 refine Bu J ⟨?_,?_⟩
 · exact(Po J (AZ J PY .m1 ((Af.l0.comp AH.l0).comp (AU.ar (n:=6) Room.fl (by first | omega | exact hb | (dsimp only;omega)))) J) J J (Po J (AQ Om J J (by first | omega | exact hb.1 | exact hb.2 | (dsimp only;omega)) (by first | omega | exact hb.1 | exact hb.2 | (dsimp only;omega))) J J (Po J (Al HU J) J J (Po J (Al BB J) J J (Po J (Bb J) J J (Po J (AI J A8 .m1 (((Af.l0.comp AH.l2).comp (AU.ar (n:=6) Am.fl (by first | omega | exact hb | (dsimp only;omega)))).comp Am.l3) J J) J J (Po J (Al DE J) J J (Po J (AQ DI J J (by first | omega | exact hb.1 | exact hb.2 | (dsimp only;omega)) (by first | omega | exact hb.1 | exact hb.2 | (dsimp only;omega))) J J (Po J (Al Bx J) J J (Po J (Al BB J) J J (Po J (Bb J) J J (Po J (AI J A8 .m1 Af.l1 J J) J J (Po J (Al Cb J) J J (Po J (Bb J) J J (Po J (AF J) J J (Po J (AF J) J J (Po J (AF J) J J As)))))))))))))))))
 refine Aj 18 J (by kernel_rfl) ?_
 refine AT (AL (AU.id Room.fl.len Room.fl.one) J J J Sq J .h) ?_
 refine BO J ⟨?_,?_⟩
 · exact(Pk (Pk (Pk (Pk (Pk (Pk (Pk (Pk (Pk (Pk (Pk (Pk (Pk (Pk (Pk (Pk (Pk As)))))))))))))))))
 refine A2 (by kernel_rfl) ?_
 refine AB (.t3 0 1 4) ?_
 refine AA (Ag (Gs (Gm J (Gt (Al NV J) ?_))))
 refine Gt (AQ Tx J J (by first | omega | exact hb.1 | exact hb.2 | (dsimp only;omega)) (by first | omega | exact hb.1 | exact hb.2 | (dsimp only;omega))) ?_
 refine Gt (AI J A8 .m0 (Room.l2.comp (AU.ar (n:=6) B9 (by first | omega | exact hb | (dsimp only;omega)))) J J) ?_
 refine Gt (Ai J J) (Ga J (Gn (.t4 0 1 4 58) ?_))
 refine Gc (fun c1=>?_) (fun c1=>?_)
 ·
  have c1p:=kz c1
  refine AJ (Gm J ?_)
  refine Ak J EV (.c J (.c J .n)) (.c (.t .h) (.c (.t .h) .n)) (Bi _ _ _ _ hg hb (by omega)) (fun v1 B hv=>?_)
  obtain⟨y2,rfl,y3,rfl⟩:=hv
  refine AR (AB (.nil _) ?_)
  refine AV ?_
  refine Bs J .n ?_
  intro w1 hS
  have hS:=(hS.perm (Ax.perm (.c .h (.c .h .n)))).A5
  have hq:T.walk d=_:=(BG c1)
  refine⟨_,⟨?gq1,J,?hl1,?hB1⟩,hS⟩
  case hB1=>rw [hq];(try rfl)
  case hl1=>rw [hq];assumption
 have c1p:=kz c1
 refine Gs (Gm J (Gt (Al M7 J) ?_))
 refine Gt (AQ XH J J (by first | omega | exact hb.1 | exact hb.2 | (dsimp only;omega)) (by first | omega | exact hb.1 | exact hb.2 | (dsimp only;omega))) ?_
 refine Gt (AI J D3 .m0 (Room.l3.comp (AU.ar (n:=6) Hs (by first | omega | exact hb | (dsimp only;omega)))) J J) ?_
 refine Ga J (Gn (.t4 0 1 4 66) ?_)
 refine Gc (fun c2=>?_) (fun c2=>?_)
 ·
  have c2p:=kz c2
  refine AJ (Gm J ?_)
  refine Ak J EV (.c J (.c J .n)) (.c (.t .h) (.c (.t .h) .n)) (Bi _ _ _ _ hg hb (by omega)) (fun v4 B hv=>?_)
  obtain⟨y5,rfl,y6,rfl⟩:=hv
  refine AR (AB (.nil _) ?_)
  refine AV ?_
  refine Bs J .n ?_
  intro w1 hS
  have hS:=(hS.perm (Ax.perm (.c .h (.c .h .n)))).A5
  have hq:T.walk d=_:=((AX c1).trans (BG c2))
  refine⟨_,⟨?gq2,J,?hl2,?hB2⟩,hS⟩
  case hB2=>rw [hq];(try rfl)
  case hl2=>rw [hq];assumption
 have c2p:=kz c2
 have gm:=AE.P1 (hF.BV { AE.GF 1 with dir:=d }) (r:=(T.w.BT.at T.me.room).Ca.at d - 1) (by have h0:¬ (T.w.BT.at (T.w.AO.at T.b).room).Ca.at d=0:=c1p;show 0≤(T.w.BT.at (T.w.AO.at T.b).room).Ca.at d - 1∧(T.w.BT.at (T.w.AO.at T.b).room).Ca.at d - 1 < 6;omega)
 refine Gs (Gm J (Gm J (Gt (BF QW JE J (.cons Ing.Event.l0 J J J (.cons Ing.Event.l3 J J J (.cons Ing.Event.l4 J J J .nil)))) ?_)))
 refine Ak J Pw (.c J (.c J .n)) (.c (.t .h) (.c (.t .h) .n)) (CY _ T _ { AE.GF 1 with dir:=d } hg hb (show(-1:Int) < 6 by decide) (by omega)) (fun v7 B hv=>?_)
 obtain⟨y8,rfl,y9,rfl⟩:=hv
 refine Gn (.t3 0 1 4) (Aq ?_)
 refine BE (N:=16) [0,0,2,6,14,0,0,96,224,480,1,1025,3073,8191,16383,32767] mix (by kernel_rfl) J ?_
 refine Pf 0 J (AF J) (Pf 1 J (AF J) (Pf 2 J (Bb J) (Pf 3 J (Al Cb J) (Pf 4 J (AI J A8 .m0 Af.l1 J J) (Pf 5 J (AF J) (Pf 6 J (Al NV J) ?_))))))
 refine Pf 7 J (AQ Tx J J (by first | omega | exact hb.1 | exact hb.2 | (dsimp only;omega)) (by first | omega | exact hb.1 | exact hb.2 | (dsimp only;omega))) ?_
 refine Pf 8 J (AI J A8 .m2 (Room.l2.comp (AU.ar (n:=6) B9 (by first | omega | exact hb | (dsimp only;omega)))) J J) ?_
 refine Pf 9 J (FT J J (IntWalk.i64_in _ (by first | omega | exact hb.1 | exact hb.2 | (dsimp only;omega)))) ?_
 refine Pf 10 J (Bb J) (Pf 11 J (Al BB J) (Pf 12 J (Al Bx J) ?_))
 refine Pf 13 J (AQ DI J J (by first | omega | exact hb.1 | exact hb.2 | (dsimp only;omega)) (by first | omega | exact hb.1 | exact hb.2 | (dsimp only;omega))) ?_
 refine Pf 14 J (Al DE J) ?_
 refine Aj 15 J (by kernel_rfl) ?_
 refine AT (AL (((Af.l0.comp AH.l2).comp (AU.ar (n:=6) Am.fl (by first | omega | exact hb | (dsimp only;omega)))).comp Am.l3) J J J DO J .h) ?_
 refine BO J ⟨?_,?_⟩
 · exact(Pk (Pk (Pk (Pk (Pk (Pk (Pk (Pk (Pk (Pk (Pk (Pk (Pk (Pk (Pk As)))))))))))))))
 refine A2 (by kernel_rfl) ?_
 refine AB (.t2 0 1) ?_
 refine AA (Aq ?_)
 refine BE (N:=11) [0,0,2,6,14,1,33,97,255,511,1023] mix (by kernel_rfl) J ?_
 refine Pf 0 J (AF J) (Pf 1 J (AF J) (Pf 2 J (Bb J) (Pf 3 J (Al Cb J) (Pf 4 J (AI J A8 .m0 Af.l1 J J) (Pf 5 J (Bb J) (Pf 6 J (Al BB J) (Pf 7 J (Al Bx J) ?_)))))))
 refine Pf 8 J (AQ DI J J (by first | omega | exact hb.1 | exact hb.2 | (dsimp only;omega)) (by first | omega | exact hb.1 | exact hb.2 | (dsimp only;omega))) ?_
 refine Pf 9 J (Al Gf J) ?_
 refine Aj 10 J (by kernel_rfl) ?_
 refine AT (AL (((Af.l0.comp AH.l2).comp (AU.ar (n:=6) Am.fl (by first | omega | exact hb | (dsimp only;omega)))).comp Am.l5) J J J DO J .h) ?_
 refine BO J ⟨?_,?_⟩
 · exact(Pk (Pk (Pk (Pk (Pk (Pk (Pk (Pk (Pk (Pk As))))))))))
 refine A2 (by kernel_rfl) ?_
 refine AB (.t2 0 1) ?_
 refine AA (Aq ?_)
 refine Gw (fun _=> .h) (congrArg (fun q=>Af.enc ⟨q,_,_⟩) (AE.aU (T.BV { AE.GF 1 with dir:=d }) hb _)) ?_
 refine AJ (Gm J (Gm J ?_))
 refine BC J dK (.c J .n) (fun w hS=>IL _ w) ?_
 refine Gt (BF QW JE J (.cons Ing.Event.l0 J J J (.cons Ing.Event.l3 J J J (.cons Ing.Event.l4 J J J .nil)))) ?_
 refine Ak J Pw (.c J (.c J .n)) (.c .h (.c .h .n)) (CY _ (AE.Fw (T.BV { AE.GF 1 with dir:=d }) ((T.w.BT.at T.me.room).Ca.at d - 1)) _ { AE.GF 2 with dir:=AH.opposite d } (by assumption) hb (show(-1:Int) < 6 by decide) (show(AE.out (T.BV { AE.GF 1 with dir:=d })).length≤100000 by simp only [AE.Cn];omega)) (fun v10 B hv=>?_)
 obtain⟨y11,rfl,y12,rfl⟩:=hv
 refine Gn (.t1 0) (AJ (Gm J ?_))
 refine BL J WB (.c J .n) (.c .h (.c .h .n)) (Hh _ (AE.BV (AE.Fw (T.BV { AE.GF 1 with dir:=d }) ((T.w.BT.at T.me.room).Ca.at d - 1)) { AE.GF 2 with dir:=AH.opposite d }) _ (by assumption) hb gm.fit.br (show _≤90000 by simp only [AE.Cn];show(AE.out (T.BV { AE.GF 1 with dir:=d })).length+1≤90000;simp only [AE.Cn];omega)) (fun w hS=>gl0.pull gm0 hS (.c .h (.c .h .n))) (fun v13 B hv=>?_)
 obtain⟨y14,rfl,y15,rfl⟩:=hv
 refine AR (AB (.nil _) ?_)
 refine AV ?_
 refine Bs J .n ?_
 intro w1 hS
 have hS:=(hS.perm (Ax.perm (.c .h (.c .h .n)))).A5
 have hq:T.walk d=_:=((AX c1).trans (AX c2))
 refine⟨_,⟨?gq3,J,?hl3,?hB3⟩,hS⟩
 case hB3=>rw [hq];(try rfl)
 case hl3=>rw [hq];assumption
theorem Ib (b:Nat)(T:AE)(g:Hd)(hF:T.Fit):KN Tryz.prog 136 #[.pointer (some ⟨b,0,none⟩)] [Ab.box b 163 (Af.enc ⟨T.w,T.b,g⟩)] (fun v B=>∃ f:Hd,v=f.val∧f.len=(T.own).length∧B = [Ab.box b 163 (Af.enc ⟨T.w,T.b,g⟩),Ab.own f 3 1 ((T.own).flatMap Az)]):=by
 intro w hS0
 have hb:=hF.b
 have hr:=hF.room
 refine Ap _ _ Tryz.func136 J J J (hS0) ?_
 refine Gs (Ga J (Gn (.t1 0) (Aq ?_)))
 refine BE (N:=10) [0,1,3,7,0,16,48,112,255,511] mix (by kernel_rfl) J ?_
 refine Pf 0 J (AF J) (Pf 1 J (Bb J) (Pf 2 J (Al BB J) (Pf 3 J (AZ J Bf .m0 Af.l0 J) (Pf 4 J (AF J) (Pf 5 J (Bb J) (Pf 6 J (Al Cb J) (Pf 7 J (AI J A8 .m0 Af.l1 J J) ?_)))))))
 refine Aj 8 J (by kernel_rfl) ?_
 refine Ak J TX (.c J (.c J (.c J .n))) .n (FU _ _ _) (fun v1 B hv=>?_)
 obtain⟨y2,rfl,y3,rfl⟩:=hv
 refine Bu J ⟨?_,?_⟩
 · exact(Pk (Pk (Pk (Pk (Pk (Pk (Pk (Pk As))))))))
 refine Pf 9 J (A0 J) ?_
 refine A2 (by kernel_rfl) ?_
 refine AB (.t1 2) ?_
 refine AA (Ac ?_)
 refine AY J (.tmp J .n) ?_
 intro w1 hS
 have hS:=(hS.perm (Ax.perm (.c (.t .h) (.c .h .n)))).A5
 exact⟨_,⟨_,J,by assumption,rfl⟩,hS⟩
end Go.Proofs.YtoidpggbbfncpaaGreatDoor

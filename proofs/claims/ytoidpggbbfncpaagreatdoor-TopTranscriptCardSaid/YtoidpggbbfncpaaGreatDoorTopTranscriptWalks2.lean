/- What the functions that the law TopTranscript reaches compute: walks, part 2. No condition. -/
import Derived.Test.YtoidpggbbfncpaaGreatDoorCards
import Derived.Test.YtoidpggbbfncpaaGreatDoorTie
import Derived.Deep.DeepHandedRow
import Derived.Test.YtoidpggbbfncpaaGreatDoorRows
import Derived.Test.YtoidpggbbfncpaaGreatDoorTopTranscriptEc3
import Derived.Test.YtoidpggbbfncpaaGreatDoorTopTranscriptRa1
import Derived.Test.YtoidpggbbfncpaaGreatDoorTopTranscriptRb1
import Derived.Test.YtoidpggbbfncpaaGreatDoorTopTranscriptRc1
import Derived.Test.YtoidpggbbfncpaaGreatDoorTopTranscriptWalks
set_option linter.unusedSimpArgs false
set_option linter.unusedVariables false
set_option maxRecDepth 100000
set_option maxHeartbeats 1000000
namespace Go.Proofs.YtoidpggbbfncpaaGreatDoor
open Go Go.Ing Go.RowKit Go.ChangeShapes Go.WideShapes Go.ChangeAt
theorem LF (X:AH)(i:Int)(h0:0≤i)(h9:i < 9)(w:World):Ev Tryz.prog 68 #[.agg X.enc.toArray, .int .i64 i] w fun v w'=>v = .bool (X.Cp i)∧CH w w':=by
 refine Ap [] [] Tryz.func68 J J J (St.start w []) ?_
 refine Gs ?_
 refine CB J J J (fun b1=>?_)
 refine Ga J (Gn (.t2 1 2) (Gs (Gm J (Gt (Al C6 J) ?_))))
 refine Gt (AQ Gq J J (by omega) (by omega)) ?_
 refine Gt (AZ J Nl .m0 (AH.l1.comp (AU.ar (n:=9) An.fl (by omega))) J) ?_
 refine BJ J LJ J (fun b2=>?_)
 refine AT (AL (AU.id An.fl.len An.fl.one) J J J OE J .h) ?_
 refine Gn (.t2 2 5) (CL (Gt (Al HR J) (Gt (AI J A8 .m0 An.l1 J J) (Gt (BA J J) (Gm J (Bj 15 J J (fun q=>Al HR J) (Bj 15 J J (fun q=>AI (cF J q) A8 .m0 An.l1 J J) ?_)))))))
 refine Bj 15 J J (fun q=>Cs (cF J q) J) ?_
 refine Gt (Ba J J (fun h=>by rw [h];rfl)) ?_
 refine Gm J (Bj 20 J J (fun q=>Al HR J) (Bj 20 J J (fun q=>AI (cF J q) A8 .m0 An.l1 J J) (Bj 20 J J (fun q=>Ai (cF J q) J) (Bj 20 J J (fun q=>AF (cF J q)) ?_))))
 refine Db (t:=24) J J J (fun qc q=>Al Gi J) ?_
 refine Db (t:=24) J J J (fun qc q=>AI (Bo J (by rw [qc,q];rfl)) D3 .m0 An.l4 J J) ?_
 refine Bj 20 J J (fun q=>BQ (cF J q) J (fun h=>by rw [q,h];rfl)) ?_
 refine Gt (Ba J J (fun h=>by rw [h];rfl)) ?_
 refine Gm J (Bj 29 J J (fun q=>Al DX J) (Bj 29 J J (fun q=>AI (cF J q) A8 .m0 An.l3 J J) (Bj 29 J J (fun q=>BA (cF J q) J) ?_)))
 refine Gt (Ba J J (fun h=>by rw [h];rfl)) ?_
 refine Gn (.t3 2 5 33) ?_
 refine Gc (fun c1=>?_) (fun c1=>?_)
 ·
  refine Gs (Ga J (Gn (.t1 4) (Ac (AD ?_))))
  refine AY J (.tmp J .n) ?_
  intro w1 hS;refine⟨congrArg Value.bool ?_,hS.Ao⟩;simp only [AH.Cp,c1,↓reduceIte,Bool.false_eq_true]
 have c1p:=kz c1
 refine Aa ?_
 refine AB (.t2 2 5) ?_
 refine AA (Gs (Gt (Al HR J) (Gt (AI J A8 .m0 An.l1 J J) (Gt (Ai J J) (Gm J (Bp 37 J J (fun q=>Al Gi J) (Bp 37 J J (fun q=>AI (Bo J q) D3 .m0 An.l4 J J) ?_)))))))
 refine Gt (BQ J J (fun h=>h)) (Ga J (Gn (.t3 2 5 6) (CL (Gt (Al Fm J) (Gt (AI J A8 .m0 An.l2 J J) (Gn (.t4 2 5 6 42) (Ag ?_)))))))
 refine Gs (Gt (Ai J J) (Ga J (Gn (.t5 2 5 6 42 43) ?_)))
 refine Gc (fun c2=>?_) (fun c2=>?_)
 ·
  refine Gs (Gt (Al DX J) (Gt (AI J A8 .m0 An.l3 J J) (Gt (BA J J) (Gm J (Bp 48 J J (fun q=>AF J) (Bp 48 J J (fun q=>BZ (Bo J q)) (Gt (BQ J J (fun h=>h)) ?_)))))))
  refine Ga J (Gn (.t1 4) (Ac (AS (AD ?_))))
  refine AY J (.tmp J .n) ?_
  intro w1 hS;refine⟨congrArg Value.bool ?_,hS.Ao⟩;simp only [AH.Cp,c1,c2,↓reduceIte,Bool.false_eq_true]
 have c2p:=kz c2
 refine Gs (Gt (Ai J J) (Ga J (Gn (.t5 2 5 6 42 52) ?_)))
 refine Gc (fun c3=>?_) (fun c3=>?_)
 ·
  have c3p:=kz c3
  refine Gs (Gt (Al DX J) (Gt (AI J A8 .m0 An.l3 J J) (Gt (BA J J) (Gm J (Bp 57 J J (fun q=>Al DX J) (Bp 57 J J (fun q=>AI (Bo J q) A8 .m0 An.l3 J J) (Bp 57 J J (fun q=>Al Bx J) ?_)))))))
  refine Bp 57 J J (fun q=>by have q1:=q;(try simp at q1);exact AQ DI (Bo rfl q) (Bo rfl q) (by omega) (by omega)) ?_
  refine Bp 57 J J (fun q=>Al JA (Bo J q)) ?_
  refine Bp 57 J J (fun q=>by have q1:=q;(try simp at q1);exact AI (Bo rfl q) D3 .m1 ((AH.l2.comp (AU.ar (n:=6) Am.fl (by omega))).comp Am.l1) rfl rfl) ?_
  refine Gt (BQ J J (fun h=>h)) (Ga J (Gn (.t1 4) (Ac (AS (AD ?_)))))
  refine AY J (.tmp J .n) ?_
  intro w1 hS;refine⟨congrArg Value.bool ?_,hS.Ao⟩;simp only [AH.Cp,c1,c2,c3,↓reduceIte,Bool.false_eq_true]
 have c3p:=kz c3
 refine Gs (Gt (Ai J J) (Ga J (Gn (.t4 2 5 6 65) ?_)))
 refine Gc (fun c4=>?_) (fun c4=>?_)
 ·
  have c4p:=kz c4
  refine CL (Gt (Al DX J) (Gt (AI J A8 .m0 An.l3 J J) (Gt (CZ J J) (Gm J (Bj 70 J J (fun q=>Al DX J) (Bj 70 J J (fun q=>AI (cF J q) A8 .m0 An.l3 J J) (Bj 70 J J (fun q=>Al C6 J) ?_)))))))
  refine Bj 70 J J (fun q=>by have q1:=q;(try simp at q1);exact AQ Gq (cF rfl q) (cF rfl q) (by omega) (by omega)) ?_
  refine Bj 70 J J (fun q=>Al HR (cF J q)) ?_
  refine Bj 70 J J (fun q=>by have q1:=q;(try simp at q1);exact AI (cF rfl q) A8 .m1 ((AH.l1.comp (AU.ar (n:=9) An.fl (by omega))).comp An.l1) rfl rfl) ?_
  refine Bj 70 J J (fun q=>Cm (cF J q) J) ?_
  refine Gt (Ba J J (fun h=>by rw [h];rfl)) ?_
  refine Gm J (Bj 79 J J (fun q=>AF J) ?_)
  refine Gt (Ba J J (fun h=>by rw [h];rfl)) ?_
  refine Gn (.t3 2 5 81) ?_
  refine Gc (fun c5=>?_) (fun c5=>?_)
  ·
   refine Gs (Ga J (Gn (.t1 4) (Ac (AD (AS (AD ?_))))))
   refine AY J (.tmp J .n) ?_
   intro w1 hS;refine⟨congrArg Value.bool ?_,hS.Ao⟩;simp only [AH.Cp,c1,c2,c3,c4,c5,↓reduceIte,Bool.false_eq_true]
  have c5p:=kz c5
  refine Aa ?_
  refine AB (.t2 2 5) ?_
  refine AA (Gs (Gm J (AR (AA (Ag ?_)))))
  refine Bw (.t3 82 2 5) ?_
  refine Hw (fun(k:Int) (t:An)=>0≤k∧k≤10∧X.Cp i=X.KA (10 - k).toNat t) (fun(k:Int) (t:An)=>(10 - k).toNat) (fun(k:Int) (t:An)=> [(82, .int .i64 k)]) (fun(k:Int) (t:An)=> [Ab.box b2 29 (An.enc t)]) (0) (X.AP.at i) ?_ J J (fun k t hI1=>?_)
  · refine⟨Int.le_refl _,by omega,?_⟩;simp only [AH.Cp,c1,c2,c3,c4,c5,↓reduceIte,Bool.false_eq_true];rfl
  obtain⟨hI11,hI12,hI13⟩:=hI1
  refine Gs (Gt (BA J J) (AR (AA (Aq ?_))))
  refine Gc (fun c6=>?_) (fun c6=>?_)
  ·
   have c6p:=kz c6
   rw [show(10 - k).toNat=(10 - (k+1)).toNat+1 from by omega,AH.KA,show decide ((10 - (k+1)).toNat=0)=decide (k=9) from decide_eq_decide.2 ⟨by omega,by omega⟩] at hI13
   refine Aa ?_
   refine AB (.t3 2 5 82) ?_
   refine AA (Aq (Ag (Gs (Gm J (Ga J (Gn (.t4 2 5 7 82) (CL ?_)))))))
   refine Gt (Al Fm J) (Gt (AI J A8 .m0 An.l2 J J) (Gt (Cm J J) (Gn (.t5 2 5 7 82 87) ?_)))
   refine Gc (fun c7=>?_) (fun c7=>?_)
   ·
    refine Gs (Ga J (Gn (.t1 4) (Ac (AD (AS (AD (AD ?_)))))))
    refine AS (AS (AD ?_))
    refine AY J (.tmp J .n) ?_
    intro w1 hS;refine⟨congrArg Value.bool ?_,hS.Ao⟩;rw [hI13];simp only [c1,c2,c3,c4,c5,c6,c7,↓reduceIte,Bool.false_eq_true]
   have c7p:=kz c7
   refine Aa ?_
   refine AB (.t4 2 5 7 82) ?_
   refine AA (CL (Gm J (Gt (Ai J J) (Gm J (Bj 90 J J (fun q=>Al DX J) (Bj 90 J J (fun q=>AI (cF J q) A8 .m0 An.l3 J J) (Bj 90 J J (fun q=>BA (cF J q) J) ?_)))))))
   refine Gt (Ba J J (fun h=>by rw [h];rfl)) ?_
   refine Gm J (Bj 95 J J (fun q=>Al DX J) (Bj 95 J J (fun q=>AI (cF J q) A8 .m0 An.l3 J J) (Bj 95 J J (fun q=>CZ (cF J q) J) ?_)))
   refine Gt (Ba J J (fun h=>by rw [h];rfl)) ?_
   refine Gn (.t4 2 5 82 99) ?_
   refine Gc (fun c8=>?_) (fun c8=>?_)
   ·
    refine Gs (Ga J (Gn (.t1 4) (Ac (AD (AS (AD (AD ?_)))))))
    refine AS (AS (AD ?_))
    refine AY J (.tmp J .n) ?_
    intro w1 hS;refine⟨congrArg Value.bool ?_,hS.Ao⟩;rw [hI13];simp only [c1,c2,c3,c4,c5,c6,c7,c8,↓reduceIte,Bool.false_eq_true]
   have c8p:=kz c8
   refine Aa ?_
   refine AB (.t3 2 5 82) ?_
   refine AA (AJ (Gt (Al DX J) (Gt (AI J A8 .m0 An.l3 J J) (Gt (Al C6 J) ?_))))
   refine Gt (AQ Gq J J (by omega) (by omega)) ?_
   refine Gt (AZ J Nl .m1 (AH.l1.comp (AU.ar (n:=9) An.fl (by omega))) J) ?_
   refine AT (AL (AU.id An.fl.len An.fl.one) J J J OE J .h) ?_
   refine AR (AB (.t3 2 5 82) ?_)
   refine AV (AA (AJ ?_))
   refine Gt (Ay J J (IntWalk.i64_in _ (by omega))) ?_
   refine Gm J ?_
   refine AR (AB (.t3 2 5 82) ?_)
   refine Dt (k+1) (X.AP.at t.at_) ?_ ?_ (.t3 82 2 5) (.refl _)
   · exact⟨by omega,by omega,by rw [hI13];simp only [c1,c2,c3,c4,c5,c6,c7,c8,↓reduceIte,Bool.false_eq_true]⟩
   · omega
  have c6p:=kz c6
  obtain rfl:k=10:=by omega
  refine Bg (AW (AW (Ah ?_)))
  refine AB (.nil _) ?_
  refine AV (AA (Gs (Ga J (AR (AA (Ac ?_))))))
  refine AY J (.tmp J .n) ?_
  intro w1 hS;refine⟨congrArg Value.bool ?_,hS.Ao⟩;rw [hI13];rfl
 refine Aa ?_
 refine AB (.nil _) ?_
 refine AV (AA (Gs (Ga J (AR (AA (Ac ?_))))))
 refine AY J (.tmp J .n) ?_
 intro w1 hS;refine⟨congrArg Value.bool ?_,hS.Ao⟩;simp only [AH.Cp,c1,c2,c3,c4,↓reduceIte,Bool.false_eq_true]
theorem H6 (X:AH)(w:World):Ev Tryz.prog 43 #[.agg X.enc.toArray] w fun v w'=>v = .bool X.Bk∧CH w w':=by
 refine Ap [] [] Tryz.func43 J J J (St.start w []) ?_
 refine Gs ?_
 refine CB J J J (fun b1=>?_)
 refine Ga J (Gn (.t1 1) (CL (Gt (Al HU J) (Gt (AZ J iK .m0 AH.l0 J) (Gm J (Gn (.t3 1 11 12) (Ag ?_)))))))
 refine Bw (.t3 12 1 11) ?_
 refine Ck (fun(k:Int)=>0≤k∧k≤6∧X.Bk=(CD 6 X.Mf (6 - k).toNat && (CD 6 (fun k=>!AH.Dw (X.AO.at k)) 6 && CD 9 X.Cp 9))) (fun(k:Int)=>(6 - k).toNat) (fun(k:Int)=> [(12, .int .i64 k)]) (fun(k:Int)=> []) (0) ?_ J J (fun k hI1=>?_)
 · exact⟨Int.le_refl _,by omega,rfl⟩
 obtain⟨hI11,hI12,hI13⟩:=hI1
 refine Gs (Gt (BA J J) (AR (AA (Aq ?_))))
 refine Gc (fun c1=>?_) (fun c1=>?_)
 ·
  have c1p:=kz c1
  rw [Dn _ (by omega)] at hI13
  refine Aa ?_
  refine AB (.t3 1 11 12) ?_
  refine AA (Aq (Ag (Gs ?_)))
  refine Gt (Gg Room.fl Tryz.underlying27 PY J J (by omega) (by omega)) ?_
  refine BJ J QE J (fun b2=>?_)
  refine AT (AL (AU.id Room.fl.len Room.fl.one) J J J Sq J .h) ?_
  refine Gn (.t4 1 4 11 12) (Gs (Gt (Al NV J) (Gt (AZ J dS .m0 Room.l2 J) (Gm J (Gn (.t6 1 4 11 12 16 17) (Ag ?_))))))
  refine Bw (.t6 17 1 4 11 12 16) ?_
  refine Ck (fun(d:Int)=>0≤d∧d≤6∧X.Mf k=CD 6 (fun d=>!AH.Ia (X.BT.at k) d) (6 - d).toNat) (fun(d:Int)=>(6 - d).toNat) (fun(d:Int)=> [(17, .int .i64 d)]) (fun(d:Int)=> []) (0) ?_ J J (fun d hI2=>?_)
  · exact⟨Int.le_refl _,by omega,rfl⟩
  obtain⟨hI21,hI22,hI23⟩:=hI2
  refine Gs (Gt (BA J J) (AR (AA (Aq ?_))))
  refine Gc (fun c2=>?_) (fun c2=>?_)
  ·
   have c2p:=kz c2
   rw [Dn _ (by omega)] at hI23
   refine Aa ?_
   refine AB (.t6 1 4 11 12 16 17) ?_
   refine AA (Aq (Ag (Gs (Gm J ?_))))
   refine Gt (K9 B9 Tryz.underlying23 DO A8 J J (by omega) (by omega) J) ?_
   refine Ga J (Ga J (Gn (.t8 1 4 5 6 11 12 16 17) (Gs (Gm J (Gt (BA J J) (Gm J (Bj 23 J J (fun q=>AF J) ?_)))))))
   refine Bj 23 J J (fun q=>Cs (cF J q) J) ?_
   refine Gt (Ba J J (fun h=>by rw [h];rfl)) ?_
   refine Gm J (Bj 27 J J (fun q=>AF J) (Bj 27 J J (fun q=>Ai (cF J q) J) (Bj 27 J J (fun q=>AF (cF J q)) ?_)))
   refine Db (t:=30) J J J (fun qc q=>AF J) ?_
   refine Db (t:=30) J J J (fun qc q=>Al M7 J) ?_
   refine Db (t:=30) J J J (fun qc q=>by have q1:=q;have qc1:=qc;(try simp at q1 qc1);exact AQ XH (Bo rfl (by rw [qc,q];rfl)) (Bo rfl (by rw [qc,q];rfl)) (by omega) (by omega)) ?_
   refine Db (t:=30) J J J (fun qc q=>by have q1:=q;have qc1:=qc;(try simp at q1 qc1);exact AI (Bo rfl (by rw [qc,q];rfl)) D3 .m0 (Room.l3.comp (AU.ar (n:=6) Hs (by omega))) rfl rfl) ?_
   refine Bj 27 J J (fun q=>BQ (cF J q) J (fun h=>by rw [q,h];rfl)) ?_
   refine Gt (Ba J J (fun h=>by rw [h];rfl)) ?_
   refine Gn (.t7 1 4 11 12 16 17 36) ?_
   refine Gc (fun c3=>?_) (fun c3=>?_)
   ·
    refine Gs (Ga J (Gn (.t1 2) (Ac (AS (AD (AD (AS ?_)))))))
    refine AS (AD (AD (AS (AD ?_))))
    refine AY J (.tmp J .n) ?_
    intro w1 hS;refine⟨congrArg Value.bool ?_,hS.Ao⟩;rw [hI13,hI23,AH.Ia,c3];rfl
   have c3p:=kz c3
   refine Aa ?_
   refine AB (.t6 1 4 11 12 16 17) ?_
   refine AV (AA (AJ ?_))
   refine Gt (Ay J J (IntWalk.i64_in _ (by omega))) ?_
   refine Gm J ?_
   refine AR (AB (.t6 1 4 11 12 16 17) ?_)
   refine CC (d+1) ?_ ?_ (.t6 17 1 4 11 12 16) (.refl _)
   · exact⟨by omega,by omega,by rw [hI23,AH.Ia,c3];rfl⟩
   · omega
  have c2p:=kz c2
  obtain rfl:d=6:=by omega
  refine Bg (AW (AW (Ah ?_)))
  refine AB (.t3 1 11 12) ?_
  refine AV (AA (AJ ?_))
  refine Gt (Ay J J (IntWalk.i64_in _ (by omega))) ?_
  refine Gm J ?_
  refine AR (AB (.t3 1 11 12) ?_)
  refine CC (k+1) ?_ ?_ (.t3 12 1 11) (.cons _ (.refl _))
  · exact⟨by omega,by omega,by rw [hI13,hI23];rfl⟩
  · omega
 have c1p:=kz c1
 obtain rfl:k=6:=by omega
 refine Bg (AW (AW (Ah ?_)))
 refine AB (.t1 1) ?_
 refine AA (CL (Gt (Al Bx J) (Gt (AZ J da .m0 AH.l2 J) (Gm J (Gn (.t3 1 40 41) (Ag ?_))))))
 refine Bw (.t3 41 1 40) ?_
 refine Ck (fun(b:Int)=>0≤b∧b≤6∧X.Bk=(CD 6 (fun k=>!AH.Dw (X.AO.at k)) (6 - b).toNat && CD 9 X.Cp 9)) (fun(b:Int)=>(6 - b).toNat) (fun(b:Int)=> [(41, .int .i64 b)]) (fun(b:Int)=> []) (0) ?_ J J (fun b hI3=>?_)
 · exact⟨Int.le_refl _,by omega,hI13⟩
 obtain⟨hI31,hI32,hI33⟩:=hI3
 refine Gs (Gt (BA J J) (AR (AA (Aq ?_))))
 refine Gc (fun c4=>?_) (fun c4=>?_)
 ·
  have c4p:=kz c4
  rw [Dn _ (by omega)] at hI33
  refine Aa ?_
  refine AB (.t3 1 40 41) ?_
  refine AA (Aq (Ag (Gs ?_)))
  refine Gt (Gg Am.fl Tryz.underlying33 GM J J (by omega) (by omega)) ?_
  refine BJ J MX J (fun b3=>?_)
  refine AT (AL (AU.id Am.fl.len Am.fl.one) J J J LH J .h) ?_
  refine Gn (.t4 1 8 40 41) (Gs (Gt (Al DE J) (Gt (AI J A8 .m0 Am.l3 J J) (Gt (BA J J) (Gm J (Bj 47 J J (fun q=>Al DE J) (Bj 47 J J (fun q=>AI (cF J q) A8 .m0 Am.l3 J J) ?_)))))))
  refine Bj 47 J J (fun q=>CZ (cF J q) J) ?_
  refine Gt (Ba J J (fun h=>by rw [h];rfl)) ?_
  refine Gm J (Bj 52 J J (fun q=>Al Kl J) (Bj 52 J J (fun q=>AI (cF J q) A8 .m0 Am.l4 J J) (Bj 52 J J (fun q=>BA (cF J q) J) ?_)))
  refine Gt (Ba J J (fun h=>by rw [h];rfl)) ?_
  refine Gm J (Bj 57 J J (fun q=>Al Kl J) (Bj 57 J J (fun q=>AI (cF J q) A8 .m0 Am.l4 J J) (Bj 57 J J (fun q=>Cs (cF J q) J) ?_)))
  refine Gt (Ba J J (fun h=>by rw [h];rfl)) ?_
  refine Gm J (Bj 62 J J (fun q=>Al Gf J) (Bj 62 J J (fun q=>AI (cF J q) A8 .m0 Am.l5 J J) (Bj 62 J J (fun q=>BA (cF J q) J) ?_)))
  refine Gt (Ba J J (fun h=>by rw [h];rfl)) ?_
  refine Gm J (Bj 67 J J (fun q=>Al Gf J) (Bj 67 J J (fun q=>AI (cF J q) A8 .m0 Am.l5 J J) (Bj 67 J J (fun q=>Cs (cF J q) J) ?_)))
  refine Gt (Ba J J (fun h=>by rw [h];rfl)) ?_
  refine Gm J (Bj 72 J J (fun q=>Al JA J) (Bj 72 J J (fun q=>AI (cF J q) D3 .m0 Am.l1 J J) (Bj 72 J J (fun q=>BZ (cF J q)) (Bj 72 J J (fun q=>AF (cF J q)) ?_))))
  refine Db (t:=76) J J J (fun qc q=>Al Gf J) ?_
  refine Db (t:=76) J J J (fun qc q=>AI (Bo J (by rw [qc,q];rfl)) A8 .m0 Am.l5 J J) ?_
  refine Db (t:=76) J J J (fun qc q=>Cm (Bo J (by rw [qc,q];rfl)) J) ?_
  refine Bj 72 J J (fun q=>BQ (cF J q) J (fun h=>by rw [q,h];rfl)) ?_
  refine Gt (Ba J J (fun h=>by rw [h];rfl)) ?_
  refine Gm J (Bj 82 J J (fun q=>Al JA J) (Bj 82 J J (fun q=>AI (cF J q) D3 .m0 Am.l1 J J) (Bj 82 J J (fun q=>Al Kl J) (Bj 82 J J (fun q=>AI (cF J q) A8 .m0 Am.l4 J J) (Bj 82 J J (fun q=>Cs (cF J q) J) (Bj 82 J J (fun q=>KV Tryz.underlying4 (cF J q) (cF J q)) ?_))))))
  refine Gt (Ba J J (fun h=>by rw [h];rfl)) ?_
  refine Gn (.t4 1 40 41 89) ?_
  refine Gc (fun c5=>?_) (fun c5=>?_)
  ·
   refine Gs (Ga J (Gn (.t1 2) (Ac (AS (AD (AD (AS ?_)))))))
   refine AD ?_
   refine AY J (.tmp J .n) ?_
   intro w1 hS;refine⟨congrArg Value.bool ?_,hS.Ao⟩;rw [hI33,AH.Dw,c5];rfl
  have c5p:=kz c5
  refine Aa ?_
  refine AB (.t3 1 40 41) ?_
  refine AV (AA (AJ ?_))
  refine Gt (Ay J J (IntWalk.i64_in _ (by omega))) ?_
  refine Gm J ?_
  refine AR (AB (.t3 1 40 41) ?_)
  refine CC (b+1) ?_ ?_ (.t3 41 1 40) (.cons _ (.refl _))
  · exact⟨by omega,by omega,by rw [hI33,AH.Dw,c5];rfl⟩
  · omega
 have c4p:=kz c4
 obtain rfl:b=6:=by omega
 refine Bg (AW (AW (Ah ?_)))
 refine AB (.t1 1) ?_
 refine AA (CL (Gm J (AR (AA (Ag ?_)))))
 refine Bw (.t2 91 1) ?_
 refine Ck (fun(t:Int)=>0≤t∧t≤9∧X.Bk=CD 9 X.Cp (9 - t).toNat) (fun(t:Int)=>(9 - t).toNat) (fun(t:Int)=> [(91, .int .i64 t)]) (fun(t:Int)=> []) (0) ?_ J J (fun t hI4=>?_)
 · exact⟨Int.le_refl _,by omega,hI33⟩
 obtain⟨hI41,hI42,hI43⟩:=hI4
 refine Gs (Gt (BA J J) (AR (AA (Aq ?_))))
 refine Gc (fun c6=>?_) (fun c6=>?_)
 ·
  have c6p:=kz c6
  rw [Dn _ (by omega)] at hI43
  refine Aa ?_
  refine AB (.t2 1 91) ?_
  refine AA (Aq (Ag (Gs (Gm J (Ga J (Gn (.t3 1 9 91) (Gs ?_)))))))
  refine Gt (AZ J Bf .m0 (AU.id AH.fl.len AH.fl.one) J) (Gm J ?_)
  refine BC J jb (.c J (.c J .n)) (fun w hS=>LF X _ (by omega) (by omega) w) ?_
  refine Gt (BZ J) (Gn (.t3 1 91 97) ?_)
  refine Gc (fun c7=>?_) (fun c7=>?_)
  ·
   refine Gs (Ga J (Gn (.t1 2) (Ac (AS (AD (AD (AS ?_)))))))
   refine AD ?_
   refine AY J (.tmp J .n) ?_
   intro w1 hS;refine⟨congrArg Value.bool ?_,hS.Ao⟩;rw [hI43,show X.Cp t=false by simpa using c7];rfl
  have c7p:=kz c7
  refine Aa ?_
  refine AB (.t2 1 91) ?_
  refine AV (AA (AJ ?_))
  refine Gt (Ay J J (IntWalk.i64_in _ (by omega))) ?_
  refine Gm J ?_
  refine AR (AB (.t2 1 91) ?_)
  refine CC (t+1) ?_ ?_ (.t2 91 1) (.refl _)
  · exact⟨by omega,by omega,by rw [hI43,show X.Cp t=true by simpa using c7];rfl⟩
  · omega
 have c6p:=kz c6
 obtain rfl:t=9:=by omega
 refine Bg (AW (AW (Ah ?_)))
 refine AB (.nil _) ?_
 refine AA (Gs (Ga J (AR (AA (Ac ?_)))))
 refine AY J (.tmp J .n) ?_
 intro w1 hS;refine⟨congrArg Value.bool ?_,hS.Ao⟩;rw [hI43];rfl
theorem NT (s:Ad)(hs:s.length≤100000000)(w:World):Ev Tryz.prog 46 #[BW s] w fun v w'=>v = .bool (AE.Eu s)∧CH w w':=by
 refine Ap [] [] Tryz.func46 J J J (St.start w []) ?_
 refine Gs (Ga J (Gn (.t1 0) (CL (Gm J (Gt (BN J Tryz.underlying9 J) (Gm J (Gn (.t3 0 5 6) ?_)))))))
 refine Ag ?_
 refine Bw (.t3 6 0 5) ?_
 refine Ck (fun(k:Int)=>0≤k∧k≤(s.length:Int)∧AE.Hu s 0=AE.Hu s k.toNat) (fun(k:Int)=>((s.length:Int) - k).toNat) (fun(k:Int)=> [(6, .int .i64 k)]) (fun(k:Int)=> []) (0) ?_ J J (fun k hI1=>?_)
 · exact⟨by omega,by omega,rfl⟩
 obtain⟨hI11,hI12,hI13⟩:=hI1
 refine Gs (Gt (BA J J) (AR (AA (Aq ?_))))
 refine Gc (fun c1=>?_) (fun c1=>?_)
 ·
  have c1p:=kz c1
  have hst:=AE.W8 (s:=s) hI11 (by omega)
  refine Aa ?_
  refine AB (.t3 0 5 6) ?_
  refine AA (Aq (Ag (Gs (Gm J (Ga J (Gn (.t4 0 3 5 6) (Gs ?_)))))))
  refine Gm J (Gm J ?_)
  refine Gt (Bt Tryz.underlying9 J J (by omega) (by omega)) ?_
  refine Gt (BA J J) (Gm J (Bj 13 J J (fun q=>AF J) (Bj 13 J J (fun q=>AF J) ?_)))
  refine Bj 13 J J (fun q=>by have q1:=q;(try simp at q1);exact Bt Tryz.underlying9 (cF rfl q) (cF rfl q) (by omega) (by omega)) ?_
  refine Bj 13 J J (fun q=>Cs (cF J q) J) ?_
  refine Gt (Ba J J (fun h=>by rw [h];rfl)) ?_
  refine Gn (.t4 0 5 6 18) ?_
  refine Gc (fun c2=>?_) (fun c2=>?_)
  ·
   rw [show AE.low (s.getD k.toNat 0)=true from c2] at hst
   refine Gs (Ga J (Gn (.t1 2) (Ac (AS (AD (AD (AS ?_)))))))
   refine AD ?_
   refine AY J (.tmp J .n) ?_
   intro w1 hS;refine⟨?_,hS.Ao⟩;exact congrArg Value.bool (by rw [AE.Eu,hI13,hst];rfl)
  have c2p:=kz c2
  rw [show AE.low (s.getD k.toNat 0)=false from c2] at hst
  refine Aa ?_
  refine AB (.t3 0 5 6) ?_
  refine AV (AA (AJ ?_))
  refine Gt (Ay J J (IntWalk.i64_in _ (by omega))) ?_
  refine Gm J ?_
  refine AR (AB (.t3 0 5 6) ?_)
  refine CC (k+1) ?_ ?_ (.t3 6 0 5) (.refl _)
  · exact⟨by omega,by omega,by rw [hI13,hst];rfl⟩
  · omega
 have c1p:=kz c1
 obtain rfl:k=(s.length:Int):=by omega
 rw [AE.Y2] at hI13
 refine Bg (AW (AW (Ah ?_)))
 refine AB (.t1 0) ?_
 refine AA (Gs (Gm J (Gt (BN J Tryz.underlying9 J) (Gt (CZ J J) (Gm J (Bp 23 J J (fun q=>AF J) (Bp 23 J J (fun q=>BN J Tryz.underlying9 (Bo J q)) ?_)))))))
 refine Bp 23 J J (fun q=>I3 (Bo J q) J) (Gt (BQ J J (fun h=>h)) (Gm J (Bp 28 J J (fun q=>AF J) (Bp 28 J J (fun q=>DK (Bo J q) J) (Gt (BQ J J (fun h=>h)) (Gm J (Bp 32 J J (fun q=>AF J) ?_)))))))
 refine Bp 32 J J (fun q=>DK (Bo J q) J) (Gt (BQ J J (fun h=>h)) (Ga J (Gn (.t1 2) (Ac ?_))))
 refine AY J (.tmp J .n) ?_
 intro w1 hS;refine⟨?_,hS.Ao⟩;exact congrArg Value.bool (by rw [AE.Eu,hI13];simp only [Bool.true_and];rfl)
theorem Gl (X:AH)(b:Int)(w:World):Ev Tryz.prog 159 #[.agg X.enc.toArray, .int .i64 b] w fun v w'=>v = .bool (X.Aw b)∧CH w w':=by
 refine Ap [] [] Tryz.func159 J J J (St.start w []) ?_
 refine Gs ?_
 refine CB J J J (fun b1=>?_)
 refine Ga J (Gn (.t2 1 2) (Gs (Gm J (Gt (CZ J J) (Gm J (Bp 7 J J (fun q=>AF J) (Bp 7 J J (fun q=>BA (Bo J q) J) ?_)))))))
 refine Gt (BQ J J (fun h=>h)) (Gm J (Bp 11 J J (fun q=>AF J) (Bp 11 J J (fun q=>Al Bx J) ?_)))
 refine Bp 11 J J (fun q=>by have q1:=q;(try simp at q1);exact AQ DI (Bo rfl q) (Bo rfl q) (by omega) (by omega)) ?_
 refine Bp 11 J J (fun q=>Al JA (Bo J q)) ?_
 refine Bp 11 J J (fun q=>by have q1:=q;(try simp at q1);exact AI (Bo rfl q) D3 .m0 ((AH.l2.comp (AU.ar (n:=6) Am.fl (by omega))).comp Am.l1) rfl rfl) ?_
 refine Gt (BQ J J (fun h=>h)) (Ga J (Gn (.t1 4) (Ac ?_)))
 refine AY J (.tmp J .n) ?_
 intro w1 hS;refine⟨?_,hS.Ao⟩;rfl
theorem Qd (X:AH)(i:Int)(w:World):Ev Tryz.prog 19 #[.agg X.enc.toArray, .int .i64 i] w fun v w'=>v = .tuple #[.int .i64 (X.room i).1, .bool (X.room i).2]∧CH w w':=by
 refine Ap [] [] Tryz.func19 J J J (St.start w []) ?_
 refine Gs ?_
 refine CB J J J (fun b1=>?_)
 refine Ga J (Ga J (Gn (.t2 1 2) (Gs (Ga J (AR (AA (CL ?_)))))))
 refine Gm J (AR (AA (Ag ?_)))
 refine Bw (.t4 1 6 8 2) ?_
 refine Dx (fun(k:Int) (j:Int) (o:Bool)=>0≤k∧k≤10∧X.room i=X.Ko (10 - k).toNat j o) (fun(k:Int) (j:Int) (o:Bool)=>(10 - k).toNat) (fun(k:Int) (j:Int) (o:Bool)=> [(1, .int .i64 j),(6, .bool o),(8, .int .i64 k)]) (fun(k:Int) (j:Int) (o:Bool)=> []) (0) (i) (true) ?_ J J (fun k j o hI1=>?_)
 · exact⟨Int.le_refl _,by omega,rfl⟩
 obtain⟨hI11,hI12,hI13⟩:=hI1
 refine Gs (Gt (BA J J) (AR (AA (Aq ?_))))
 refine Gc (fun c1=>?_) (fun c1=>?_)
 ·
  have c1p:=kz c1
  rw [show(10 - k).toNat=(10 - (k+1)).toNat+1 from by omega,AH.Ko] at hI13
  refine Aa ?_
  refine AB (.t4 1 2 6 8) ?_
  refine AA (Aq (Ag (CL (Gm J (Gt (BA J J) (Gm J (Bj 12 J J (fun q=>AF J) ?_)))))))
  refine Bj 12 J J (fun q=>CZ (cF J q) J) ?_
  refine Gt (Ba J J (fun h=>by rw [h];rfl)) ?_
  refine Gn (.t5 1 2 6 8 15) ?_
  refine Gc (fun c2=>?_) (fun c2=>?_)
  ·
   refine Gs (Ga J (Ga J (Gn (.t2 4 5) (Ac (AD (AS (AD ?_)))))))
   refine AD (AS (AD ?_))
   refine AY J (.tmp J (.tmp J .n)) ?_
   intro w1 hS;refine⟨?_,hS.Ao⟩;rw [hI13];simp only [c1,c2,↓reduceIte,Bool.false_eq_true];rfl
  have c2p:=kz c2
  refine Aa ?_
  refine AB (.t4 1 2 6 8) ?_
  refine AA (Gs (Gm J (Gt (Al C6 J) ?_)))
  refine Gt (AQ Gq J J (by omega) (by omega)) ?_
  refine Gt (AZ J Nl .m0 (AH.l1.comp (AU.ar (n:=9) An.fl (by omega))) J) ?_
  refine BJ J LJ J (fun b2=>?_)
  refine AT (AL (AU.id An.fl.len An.fl.one) J J J OE J .h) ?_
  refine Gn (.t4 2 6 7 8) (CL (Gt (Al Fm J) (Gt (AI J A8 .m0 An.l2 J J) (Gn (.t5 2 6 7 8 21) (Ag (Gs (Gt (Ai J J) ?_)))))))
  refine Ga J (Gn (.t6 2 6 7 8 21 22) ?_)
  refine Gc (fun c3=>?_) (fun c3=>?_)
  ·
   refine Gs (Gt (Al DX J) (Gt (AI J A8 .m0 An.l3 J J) (Gm J (Ga J (Ga J (Gn (.t2 4 5) (Ac ?_)))))))
   refine AS (AD (AS (AD (AD (AS (AD ?_))))))
   refine AY J (.tmp J (.tmp J .n)) ?_
   intro w1 hS;refine⟨?_,hS.Ao⟩;rw [hI13];simp only [c1,c2,c3,↓reduceIte,Bool.false_eq_true];rfl
  have c3p:=kz c3
  refine Gs (Gt (Ai J J) (Ga J (Gn (.t6 2 6 7 8 21 27) ?_)))
  refine Gc (fun c4=>?_) (fun c4=>?_)
  ·
   have c4p:=kz c4
   refine CL (Gt (Al DX J) (Gt (AI J A8 .m0 An.l3 J J) (Gt (BA J J) (Gm J (Bj 32 J J (fun q=>Al DX J) (Bj 32 J J (fun q=>AI (cF J q) A8 .m0 An.l3 J J) (Bj 32 J J (fun q=>CZ (cF J q) J) ?_)))))))
   refine Gt (Ba J J (fun h=>by rw [h];rfl)) ?_
   refine Gn (.t4 2 6 7 36) ?_
   refine Gc (fun c5=>?_) (fun c5=>?_)
   ·
    refine Gs (Ga J (Ga J (Gn (.t2 4 5) (Ac (AD (AS (AD ?_)))))))
    refine AS (AD (AD (AS (AD ?_))))
    refine AY J (.tmp J (.tmp J .n)) ?_
    intro w1 hS;refine⟨?_,hS.Ao⟩;rw [hI13];simp only [c1,c2,c3,c4,c5,↓reduceIte,Bool.false_eq_true];rfl
   have c5p:=kz c5
   refine Aa ?_
   refine AB (.t3 2 6 7) ?_
   refine AA (Gs (Gt (Al DX J) (Gt (AI J A8 .m0 An.l3 J J) (Gt (Al Bx J) ?_))))
   refine Gt (AQ DI J J (by omega) (by omega)) ?_
   refine Gt (Al DE J) ?_
   refine Gt (AI J A8 .m1 ((AH.l2.comp (AU.ar (n:=6) Am.fl (by omega))).comp Am.l3) J J) ?_
   refine Gm J (Ga J (Ga J (Gn (.t2 4 5) (Ac (AS (AD (AS ?_)))))))
   refine AD (AD (AS (AD ?_)))
   refine AY J (.tmp J (.tmp J .n)) ?_
   intro w1 hS;refine⟨?_,hS.Ao⟩;rw [hI13];simp only [c1,c2,c3,c4,c5,↓reduceIte,Bool.false_eq_true];rfl
  have c4p:=kz c4
  refine Gs (Gt (Ai J J) (Ga J (Gn (.t5 2 6 7 8 44) ?_)))
  refine Gc (fun c6=>?_) (fun c6=>?_)
  ·
   have c6p:=kz c6
   refine Aa ?_
   refine AB (.t4 2 6 7 8) ?_
   refine AV (AA (Gs (Gt (Al DX J) (Gt (AI J A8 .m0 An.l3 J J) (Ga J (Gn (.t4 1 2 6 8) (Gs ?_)))))))
   refine Gm J (Gt (CZ J J) (Gm J (Bp 50 J J (fun q=>AF J) (Bp 50 J J (fun q=>BA (Bo J q) J) (Gt (BQ J J (fun h=>h)) (Gm J (Bp 54 J J (fun q=>AF J) ?_)))))))
   refine Bp 54 J J (fun q=>Al C6 J) ?_
   refine Bp 54 J J (fun q=>by have q1:=q;(try simp at q1);exact AQ Gq (Bo rfl q) (Bo rfl q) (by omega) (by omega)) ?_
   refine Bp 54 J J (fun q=>Al Gi (Bo J q)) ?_
   refine Bp 54 J J (fun q=>by have q1:=q;(try simp at q1);exact AI (Bo rfl q) D3 .m1 ((AH.l1.comp (AU.ar (n:=9) An.fl (by omega))).comp An.l4) rfl rfl) ?_
   refine Bp 54 J J (fun q=>BZ (Bo J q)) (Gt (BQ J J (fun h=>h)) (Gn (.t5 1 2 6 8 61) ?_))
   refine Gc (fun c7=>?_) (fun c7=>?_)
   ·
    have c7p:=kz c7
    refine AJ (Ga J ?_)
    refine AR (AB (.t4 1 2 6 8) ?_)
    refine AV (AA (AJ ?_))
    refine Gt (Ay J J (IntWalk.i64_in _ (by omega))) ?_
    refine Gm J ?_
    refine AR (AB (.t4 1 2 6 8) ?_)
    refine B2 (k+1) ((X.AP.at j).at_) (false) ?_ ?_ (.t4 1 6 8 2) (.cons _ (.refl _))
    · exact⟨by omega,by omega,by rw [hI13];simp only [c1,c2,c3,c4,c6,c7,↓reduceIte,Bool.false_eq_true]⟩
    · omega
   have c7p:=kz c7
   refine Aa ?_
   refine AB (.t4 1 2 6 8) ?_
   refine AV (AA (AJ ?_))
   refine Gt (Ay J J (IntWalk.i64_in _ (by omega))) ?_
   refine Gm J ?_
   refine AR (AB (.t4 1 2 6 8) ?_)
   refine B2 (k+1) ((X.AP.at j).at_) (o) ?_ ?_ (.t4 1 6 8 2) (.cons _ (.refl _))
   · exact⟨by omega,by omega,by rw [hI13];simp only [c1,c2,c3,c4,c6,c7,↓reduceIte,Bool.false_eq_true]⟩
   · omega
  refine Gs (Ga J (Ga J (Gn (.t2 4 5) (Ac (AS (AD (AS ?_)))))))
  refine AD (AD (AS (AD ?_)))
  refine AY J (.tmp J (.tmp J .n)) ?_
  intro w1 hS;refine⟨?_,hS.Ao⟩;rw [hI13];simp only [c1,c2,c3,c4,c6,↓reduceIte,Bool.false_eq_true];rfl
 have c1p:=kz c1
 obtain rfl:k=10:=by omega
 refine Bg (AW (AW (Ah ?_)))
 refine AB (.nil _) ?_
 refine AA (Gs (Ga J (Ga J (AR (AA (Ac ?_))))))
 refine AY J (.tmp J (.tmp J .n)) ?_
 intro w1 hS;refine⟨?_,hS.Ao⟩;rw [hI13];rfl
theorem Et (X:AH)(r:Int)(w:World):Ev Tryz.prog 129 #[.agg X.enc.toArray, .int .i64 r] w fun v w'=>v = .bool (X.IF r)∧CH w w':=by
 refine Ap [] [] Tryz.func129 J J J (St.start w []) ?_
 refine Gs ?_
 refine CB J J J (fun b1=>?_)
 refine Ga J (Gn (.t2 1 2) (CL (Gm J (Gt (BA J J) (Gm J (Bj 11 J J (fun q=>AF J) (Bj 11 J J (fun q=>CZ (cF J q) J) ?_)))))))
 refine Gt (Ba J J (fun h=>by rw [h];rfl)) ?_
 refine Gn (.t3 1 2 14) ?_
 refine Gc (fun c1=>?_) (fun c1=>?_)
 ·
  refine Gs (Ga J (Gn (.t1 4) (Ac (AD ?_))))
  refine AY J (.tmp J .n) ?_
  intro w1 hS;refine⟨congrArg Value.bool ?_,hS.Ao⟩;rw [show X.IF r=_ from BG c1]
 have c1p:=kz c1
 have hr:0≤r∧r < 6:=by simp at c1;omega
 refine Aa ?_
 refine AB (.t2 1 2) ?_
 refine AA (CL (Gm J (Gt (Al HU J) ?_)))
 refine Gt (AQ Om J J (by omega) (by omega)) ?_
 refine Gt (Al ef J) ?_
 refine Gt (AI J D3 .m0 ((AH.l0.comp (AU.ar (n:=6) Room.fl (by omega))).comp Room.l1) J J) ?_
 refine Gt (BZ J) (Gn (.t3 1 2 20) ?_)
 refine Gc (fun c2=>?_) (fun c2=>?_)
 ·
  refine Gs (Ga J (Gn (.t1 4) (Ac (AD ?_))))
  refine AY J (.tmp J .n) ?_
  intro w1 hS;refine⟨congrArg Value.bool ?_,hS.Ao⟩;rw [show X.IF r=_ from(AX c1).trans (BG c2)]
 have c2p:=kz c2
 refine Aa ?_
 refine AB (.t2 1 2) ?_
 refine AA (CL (Gt (Al C6 J) (Gt (AZ J Zd .m0 AH.l1 J) (Gm J (Gn (.t4 1 2 22 23) (Ag ?_))))))
 refine Bw (.t4 23 1 2 22) ?_
 refine Ck (fun(k:Int)=>0≤k∧k≤9∧CD 9 (fun i=>!X.lit r i) 9=CD 9 (fun i=>!X.lit r i) (9 - k).toNat) (fun(k:Int)=>(9 - k).toNat) (fun(k:Int)=> [(23, .int .i64 k)]) (fun(k:Int)=> []) (0) ?_ J J (fun k hI1=>?_)
 · exact⟨by omega,by omega,rfl⟩
 obtain⟨hI11,hI12,hI13⟩:=hI1
 refine Gs (Gt (BA J J) (AR (AA (Aq ?_))))
 refine Gc (fun c3=>?_) (fun c3=>?_)
 ·
  have c3p:=kz c3
  rw [Dn _ (by omega)] at hI13
  refine Aa ?_
  refine AB (.t4 1 2 22 23) ?_
  refine AA (Aq (Ag (Gs (Gm J ?_))))
  refine Gt (Gg An.fl Tryz.underlying30 Nl J J (by omega) (by omega)) ?_
  refine BJ J LJ J (fun b2=>?_)
  refine Ga J ?_
  refine AT (AL (AU.id An.fl.len An.fl.one) J J J OE J .h) ?_
  refine Gn (.t6 1 2 5 6 22 23) (CL (Gt (Al HR J) (Gt (AI J A8 .m0 An.l1 J J) (Gt (Cm J J) (Gm J (Bj 30 J J (fun q=>Al Gi J) (Bj 30 J J (fun q=>AI (cF J q) D3 .m0 An.l4 J J) ?_)))))))
  refine Bj 30 J J (fun q=>BZ (cF J q)) ?_
  refine Gt (Ba J J (fun h=>by rw [h];rfl)) ?_
  refine Gn (.t6 1 2 5 22 23 34) ?_
  refine Gc (fun c4=>?_) (fun c4=>?_)
  ·
   have c4p:=kz c4
   refine Bg (AW (Ah ?_))
   refine AB (.t4 1 2 22 23) ?_
   refine AA (AJ ?_)
   refine Gt (Ay J J (IntWalk.i64_in _ (by omega))) ?_
   refine Gm J ?_
   refine AR (AB (.t4 1 2 22 23) ?_)
   refine CC (k+1) ?_ ?_ (.t4 23 1 2 22) (.cons _ (.refl _))
   · exact⟨by omega,by omega,by rw [hI13,show X.lit r k=false from by rw [AH.lit,c4];first | rfl | exact Bool.and_false _];rfl⟩
   · omega
  have c4p:=kz c4
  refine Aa ?_
  refine AB (.t5 1 2 5 22 23) ?_
  refine AA (Gs (Gt (AZ J Bf .m1 (AU.id AH.fl.len AH.fl.one) J) (Gm J ?_)))
  refine BC J iq (.c J (.c J .n)) (fun w hS=>Qd _ _ w) ?_
  refine Gm J (Gt (AM J J) (Gt (AM J J) (Ga J (Ga J (Gn (.t6 1 2 7 8 22 23) (Gs (Gm J ?_)))))))
  refine Gm J (Gt (Ai J J) (Gm J (Bp 44 J J (fun q=>AF J) (Gt (BQ J J (fun h=>h)) (Gn (.t5 1 2 22 23 46) ?_)))))
  refine Gc (fun c5=>?_) (fun c5=>?_)
  ·
   refine Gs (Ga J (Gn (.t1 4) (Ac (AS (AD (AD (AS ?_)))))))
   refine AD ?_
   refine AY J (.tmp J .n) ?_
   intro w1 hS;refine⟨congrArg Value.bool ?_,hS.Ao⟩;rw [show X.IF r=_ from(AX c1).trans (AX c2),hI13,show X.lit r k=true from by rw [AH.lit,c4,c5];rfl];rfl
  have c5p:=kz c5
  refine Aa ?_
  refine AB (.t4 1 2 22 23) ?_
  refine AV (AA (AJ ?_))
  refine Gt (Ay J J (IntWalk.i64_in _ (by omega))) ?_
  refine Gm J ?_
  refine AR (AB (.t4 1 2 22 23) ?_)
  refine CC (k+1) ?_ ?_ (.t4 23 1 2 22) (.cons _ (.refl _))
  · exact⟨by omega,by omega,by rw [hI13,show X.lit r k=false from by rw [AH.lit,c5];first | rfl | exact Bool.and_false _];rfl⟩
  · omega
 have c3p:=kz c3
 obtain rfl:k=9:=by omega
 refine Bg (AW (AW (Ah ?_)))
 refine AB (.nil _) ?_
 refine AA (Gs (Ga J (AR (AA (Ac ?_)))))
 refine AY J (.tmp J .n) ?_
 intro w1 hS;refine⟨congrArg Value.bool ?_,hS.Ao⟩;rw [show X.IF r=_ from(AX c1).trans (AX c2),hI13];rfl
theorem IX (X:AH)(b:Int)(w:World):Ev Tryz.prog 160 #[.agg X.enc.toArray, .int .i64 b] w fun v w'=>v = .bool (X.hidden b)∧CH w w':=by
 refine Ap [] [] Tryz.func160 J J J (St.start w []) ?_
 refine Gs ?_
 refine CB J J J (fun b1=>?_)
 refine Ga J (Gn (.t2 1 2) (CL (Gt (Al C6 J) (Gt (AZ J Zd .m0 AH.l1 J) (Gm J (Gn (.t3 1 8 9) (Ag ?_)))))))
 refine Bw (.t3 9 1 8) ?_
 refine Ck (fun(k:Int)=>0≤k∧k≤9∧CD 9 (fun i=>!X.MZ b i) 9=CD 9 (fun i=>!X.MZ b i) (9 - k).toNat) (fun(k:Int)=>(9 - k).toNat) (fun(k:Int)=> [(9, .int .i64 k)]) (fun(k:Int)=> []) (0) ?_ J J (fun k hI1=>?_)
 · exact⟨by omega,by omega,rfl⟩
 obtain⟨hI11,hI12,hI13⟩:=hI1
 refine Gs (Gt (BA J J) (AR (AA (Aq ?_))))
 refine Gc (fun c1=>?_) (fun c1=>?_)
 ·
  have c1p:=kz c1
  rw [Dn _ (by omega)] at hI13
  refine Aa ?_
  refine AB (.t3 1 8 9) ?_
  refine AA (Aq (Ag (Gs ?_)))
  refine Gt (Gg An.fl Tryz.underlying30 Nl J J (by omega) (by omega)) ?_
  refine BJ J LJ J (fun b2=>?_)
  refine AT (AL (AU.id An.fl.len An.fl.one) J J J OE J .h) ?_
  refine Gn (.t4 1 6 8 9) (Gs (Gt (Al HR J) (Gt (AI J A8 .m0 An.l1 J J) (Gt (Ai J J) (Gm J (Bp 15 J J (fun q=>Al Gi J) (Bp 15 J J (fun q=>AI (Bo J q) D3 .m0 An.l4 J J) ?_)))))))
  refine Gt (BQ J J (fun h=>h)) (Gm J (Bp 19 J J (fun q=>Al Fm J) (Bp 19 J J (fun q=>AI (Bo J q) A8 .m0 An.l2 J J) (Bp 19 J J (fun q=>Ai (Bo J q) J) (Gt (BQ J J (fun h=>h)) (Gm J (Bp 24 J J (fun q=>Al DX J) ?_)))))))
  refine Bp 24 J J (fun q=>AI (Bo J q) A8 .m0 An.l3 J J) (Bp 24 J J (fun q=>AF J) (Bp 24 J J (fun q=>Ai (Bo J q) (Bo J q)) (Gt (BQ J J (fun h=>h)) (Gn (.t4 1 8 9 29) ?_))))
  refine Gc (fun c2=>?_) (fun c2=>?_)
  ·
   refine Gs (Ga J (Gn (.t1 4) (Ac (AS (AD (AD (AS ?_)))))))
   refine AD ?_
   refine AY J (.tmp J .n) ?_
   intro w1 hS;refine⟨congrArg Value.bool ?_,hS.Ao⟩;rw [AH.hidden,hI13,show X.MZ b k=true from c2];rfl
  have c2p:=kz c2
  refine Aa ?_
  refine AB (.t3 1 8 9) ?_
  refine AV (AA (AJ ?_))
  refine Gt (Ay J J (IntWalk.i64_in _ (by omega))) ?_
  refine Gm J ?_
  refine AR (AB (.t3 1 8 9) ?_)
  refine CC (k+1) ?_ ?_ (.t3 9 1 8) (.cons _ (.refl _))
  · exact⟨by omega,by omega,by rw [hI13,show X.MZ b k=false from c2];rfl⟩
  · omega
 have c1p:=kz c1
 obtain rfl:k=9:=by omega
 refine Bg (AW (AW (Ah ?_)))
 refine AB (.nil _) ?_
 refine AA (Gs (Ga J (AR (AA (Ac ?_)))))
 refine AY J (.tmp J .n) ?_
 intro w1 hS;refine⟨congrArg Value.bool ?_,hS.Ao⟩;rw [AH.hidden,hI13];rfl
theorem Dd (X:AH)(a b:Int)(w:World):Ev Tryz.prog 130 #[.agg X.enc.toArray, .int .i64 a, .int .i64 b] w fun v w'=>v = .bool (X.JW a b)∧CH w w':=by
 refine Ap [] [] Tryz.func130 J J J (St.start w []) ?_
 refine Gs ?_
 refine CB J J J (fun b1=>?_)
 refine Ga J (Gn (.t3 1 2 3) (CL (Gt (AZ J Bf .m0 (AU.id AH.fl.len AH.fl.one) J) (Gm J ?_))))
 refine BC J Zb (.c J (.c J .n)) (fun w hS=>Gl _ _ w) ?_
 refine Gt (BZ J) (Gm J (Bj 13 J J (fun q=>AZ J Bf .m0 (AU.id AH.fl.len AH.fl.one) J) (Bj 13 J J (fun q=>AF J) ?_)))
 refine SC (t:=13) J J J (fun q=>by have q1:=q;(try simp at q1);exact D0 Zb (.c (cF rfl q) (.c (cF rfl q) .n)) (fun w hS=>Gl _ _ w)) ?_
 refine Bj 13 J J (fun q=>BZ (cF J q)) ?_
 refine Gt (Ba J J (fun h=>by rw [h];rfl)) ?_
 refine Gn (.t4 1 2 3 18) ?_
 refine Gc (fun c1=>?_) (fun c1=>?_)
 ·
  refine Gs (Ga J (Gn (.t1 6) (Ac (AD ?_))))
  refine AY J (.tmp J .n) ?_
  intro w1 hS;refine⟨congrArg Value.bool ?_,hS.Ao⟩;rw [show X.JW a b=_ from(BG c1)]
 have c1p:=kz c1
 have hr:(0≤a∧a < 6)∧0≤b∧b < 6:=by simp at c1;have h1:=AH.Ht c1.1;have h2:=AH.Ht c1.2;omega
 refine Aa ?_
 refine AB (.t3 1 2 3) ?_
 refine AA (CL (Gm J (Gm J (Gt (Ai J J) (Gn (.t4 1 2 3 21) ?_)))))
 refine Gc (fun c2=>?_) (fun c2=>?_)
 ·
  refine Gs (Ga J (Gn (.t1 6) (Ac (AD ?_))))
  refine AY J (.tmp J .n) ?_
  intro w1 hS;refine⟨congrArg Value.bool ?_,hS.Ao⟩;rw [show X.JW a b=_ from((AX c1).trans (BG c2))]
 have c2p:=kz c2
 refine Aa ?_
 refine AB (.t3 1 2 3) ?_
 refine AA (Aq ?_)
 refine BE (N:=12) [0,0,3,7,0,0,48,112,0,0,783,2047] mix (by kernel_rfl) J ?_
 refine Pf 0 J (AF J) (Pf 1 J (Al Bx J) ?_)
 refine Pf 2 J (AQ DI J J (by omega) (by omega)) ?_
 refine Pf 3 J (AZ J GM .m0 (AH.l2.comp (AU.ar (n:=6) Am.fl (by omega))) J) ?_
 refine Pf 4 J (AF J) (Pf 5 J (Al Bx J) ?_)
 refine Pf 6 J (AQ DI J J (by omega) (by omega)) ?_
 refine Pf 7 J (AZ J GM .m0 (AH.l2.comp (AU.ar (n:=6) Am.fl (by omega))) J) ?_
 refine KU 8 9 J J (by kernel_rfl) ?_ ?_
 ·
  refine BJ J MX J (fun b2=>?_)
  refine Bu J ⟨?_,?_⟩
  · exact(Po J (AZ J GM .m1 (AH.l2.comp (AU.ar (n:=6) Am.fl (by omega))) J) J J (Po J (AQ DI J J (by omega) (by omega)) J J (Po J (Al Bx J) J J (Po J (AF J) J J (Po J (AZ J GM .m1 (AH.l2.comp (AU.ar (n:=6) Am.fl (by omega))) J) J J (Po J (AQ DI J J (by omega) (by omega)) J J (Po J (Al Bx J) J J (Po J (AF J) J J As))))))))
  refine Aj 9 J (by kernel_rfl) ?_
  refine BJ J MX J (fun b3=>?_)
  refine Bu J ⟨?_,?_⟩
  · exact(Po J (AZ J GM .m2 (AH.l2.comp (AU.ar (n:=6) Am.fl (by omega))) J) J J (Po J (AQ DI J J (by omega) (by omega)) J J (Po J (Al Bx J) J J (Po J (AF J) J J (Po J (AZ J GM .m2 (AH.l2.comp (AU.ar (n:=6) Am.fl (by omega))) J) J J (Po J (AQ DI J J (by omega) (by omega)) J J (Po J (Al Bx J) J J (Po J (AF J) J J As))))))))
  refine Aj 10 J (by kernel_rfl) ?_
  refine AT (AL (AU.id Am.fl.len Am.fl.one) J J J LH J (.t .h)) ?_
  refine BO J ⟨?_,?_⟩
  · exact(Po J (AZ J GM .m2 (AH.l2.comp (AU.ar (n:=6) Am.fl (by omega))) J) J J (Po J (AQ DI J J (by omega) (by omega)) J J (Po J (Al Bx J) J J (Po J (AF J) J J (Pk (Pk (Pk (Pk As))))))))
  refine Aj 11 J (by kernel_rfl) ?_
  refine AT (AL (AU.id Am.fl.len Am.fl.one) J J J LH J .h) ?_
  refine BO J ⟨?_,?_⟩
  · exact(Pk (Pk (Pk (Pk (Pk (Pk (Pk (Pk As))))))))
  refine A2 (by kernel_rfl) ?_
  refine AB (.t4 2 3 7 8) ?_
  refine AA (Gs (Gt (Al DE J) (Gt (AI J A8 .m1 Am.l3 J J) (Gt (Al DE J) (Gt (AI J A8 .m0 Am.l3 J J) (Gt (Ai J J) (Gm J ?_)))))))
  refine Bp 35 J J (fun q=>AZ J Bf .m2 (AU.id AH.fl.len AH.fl.one) J) (Bp 35 J J (fun q=>Al DE J) (Bp 35 J J (fun q=>AI (Bo J q) A8 .m1 Am.l3 J J) ?_))
  refine NS (t:=35) J J J (fun q=>D0 We (.c (Bo J q) (.c (Bo J q) .n)) (fun w hS=>Et _ _ w)) ?_
  refine Gt (BQ J J (fun h=>h)) (Gm J (Bp 41 J J (fun q=>Al Z7 J) (Bp 41 J J (fun q=>AI (Bo J q) D3 .m1 Am.l2 J J) (Bp 41 J J (fun q=>AF (Bo J q)) ?_))))
  refine DF (t:=44) J J J (fun qc q=>AZ J Bf .m2 (AU.id AH.fl.len AH.fl.one) J) ?_
  refine DF (t:=44) J J J (fun qc q=>AF J) ?_
  refine Wc (t:=44) J J J (fun qc q=>by have q1:=q;have qc1:=qc;(try simp at q1 qc1);exact D0 dQ (.c (Bo rfl (by rw [qc,q];rfl)) (.c (Bo rfl (by rw [qc,q];rfl)) .n)) (fun w hS=>IX _ _ w)) ?_
  refine DF (t:=44) J J J (fun qc q=>BZ (Bo J (by rw [qc,q];rfl))) ?_
  refine Bp 41 J J (fun q=>Ba (Bo J q) J (fun h=>by rw [q,h];rfl)) ?_
  refine Gt (BQ J J (fun h=>h)) (Ga J (Gn (.t1 6) (Ac ?_)))
  refine AY J (.tmp J .n) ?_
  intro w1 hS;refine⟨congrArg Value.bool ?_,hS.Ao⟩;rw [show X.JW a b=_ from((AX c1).trans (AX c2))]
 ·
  refine BJ J MX J (fun b4=>?_)
  refine Bu J ⟨?_,?_⟩
  · exact(Po J (AZ J GM .m1 (AH.l2.comp (AU.ar (n:=6) Am.fl (by omega))) J) J J (Po J (AQ DI J J (by omega) (by omega)) J J (Po J (Al Bx J) J J (Po J (AF J) J J (Po J (AZ J GM .m1 (AH.l2.comp (AU.ar (n:=6) Am.fl (by omega))) J) J J (Po J (AQ DI J J (by omega) (by omega)) J J (Po J (Al Bx J) J J (Po J (AF J) J J As))))))))
  refine Aj 8 J (by kernel_rfl) ?_
  refine BJ J MX J (fun b5=>?_)
  refine Bu J ⟨?_,?_⟩
  · exact(Po J (AZ J GM .m2 (AH.l2.comp (AU.ar (n:=6) Am.fl (by omega))) J) J J (Po J (AQ DI J J (by omega) (by omega)) J J (Po J (Al Bx J) J J (Po J (AF J) J J (Po J (AZ J GM .m2 (AH.l2.comp (AU.ar (n:=6) Am.fl (by omega))) J) J J (Po J (AQ DI J J (by omega) (by omega)) J J (Po J (Al Bx J) J J (Po J (AF J) J J As))))))))
  refine Aj 10 J (by kernel_rfl) ?_
  refine AT (AL (AU.id Am.fl.len Am.fl.one) J J J LH J .h) ?_
  refine BO J ⟨?_,?_⟩
  · exact(Po J (AZ J GM .m2 (AH.l2.comp (AU.ar (n:=6) Am.fl (by omega))) J) J J (Po J (AQ DI J J (by omega) (by omega)) J J (Po J (Al Bx J) J J (Po J (AF J) J J (Pk (Pk (Pk (Pk As))))))))
  refine Aj 11 J (by kernel_rfl) ?_
  refine AT (AL (AU.id Am.fl.len Am.fl.one) J J J LH J (.t .h)) ?_
  refine BO J ⟨?_,?_⟩
  · exact(Pk (Pk (Pk (Pk (Pk (Pk (Pk (Pk As))))))))
  refine A2 (by kernel_rfl) ?_
  refine AB (.t4 2 3 7 8) ?_
  refine AA (Gs (Gt (Al DE J) (Gt (AI J A8 .m0 Am.l3 J J) (Gt (Al DE J) (Gt (AI J A8 .m1 Am.l3 J J) (Gt (Ai J J) (Gm J ?_)))))))
  refine Bp 35 J J (fun q=>AZ J Bf .m2 (AU.id AH.fl.len AH.fl.one) J) (Bp 35 J J (fun q=>Al DE J) (Bp 35 J J (fun q=>AI (Bo J q) A8 .m0 Am.l3 J J) ?_))
  refine NS (t:=35) J J J (fun q=>D0 We (.c (Bo J q) (.c (Bo J q) .n)) (fun w hS=>Et _ _ w)) ?_
  refine Gt (BQ J J (fun h=>h)) (Gm J (Bp 41 J J (fun q=>Al Z7 J) (Bp 41 J J (fun q=>AI (Bo J q) D3 .m0 Am.l2 J J) (Bp 41 J J (fun q=>AF (Bo J q)) ?_))))
  refine DF (t:=44) J J J (fun qc q=>AZ J Bf .m2 (AU.id AH.fl.len AH.fl.one) J) ?_
  refine DF (t:=44) J J J (fun qc q=>AF J) ?_
  refine Wc (t:=44) J J J (fun qc q=>by have q1:=q;have qc1:=qc;(try simp at q1 qc1);exact D0 dQ (.c (Bo rfl (by rw [qc,q];rfl)) (.c (Bo rfl (by rw [qc,q];rfl)) .n)) (fun w hS=>IX _ _ w)) ?_
  refine DF (t:=44) J J J (fun qc q=>BZ (Bo J (by rw [qc,q];rfl))) ?_
  refine Bp 41 J J (fun q=>Ba (Bo J q) J (fun h=>by rw [q,h];rfl)) ?_
  refine Gt (BQ J J (fun h=>h)) (Ga J (Gn (.t1 6) (Ac ?_)))
  refine AY J (.tmp J .n) ?_
  intro w1 hS;refine⟨congrArg Value.bool ?_,hS.Ao⟩;rw [show X.JW a b=_ from((AX c1).trans (AX c2))]
theorem OJ (k:Int)(w:World):Ev Tryz.prog 173 #[.int .i64 k] w fun v w'=>v = .bool (AH.gg k)∧CH w w':=by
 refine Ap [] [] Tryz.func173 J J J (St.start w []) ?_
 refine Gs (Ga J (Gn (.t1 0) (Gs (Gm J (Gt (Ai J J) (Gm J (Bj 5 J J (fun q=>AF J) ?_)))))))
 refine Bj 5 J J (fun q=>Ai (cF J q) J) ?_
 refine Gt (Ba J J (fun h=>by rw [h];rfl)) ?_
 refine Gm J (Bj 9 J J (fun q=>AF J) (Bj 9 J J (fun q=>Ai (cF J q) J) ?_))
 refine Gt (Ba J J (fun h=>by rw [h];rfl)) ?_
 refine Ga J (Gn (.t1 2) (Ac ?_))
 refine AY J (.tmp J .n) ?_
 intro w1 hS;refine⟨?_,hS.Ao⟩;rfl
theorem KM (X:AH)(b:Int)(e:Ing.Event)(w:World):Ev Tryz.prog 157 #[.agg X.enc.toArray, .int .i64 b, .agg e.enc.toArray] w fun v w'=>v = .int .i64 (X.D5 b e)∧CH w w':=by
 refine Ap [] [] Tryz.func157 J J J (St.start w []) ?_
 refine Gs ?_
 refine CB J J J (fun b1=>?_)
 refine CB J J J (fun b2=>?_)
 refine Ga J (Gn (.t3 1 3 5) (Aq (Ag (Gs (Gt (AZ J Bf .m1 (AU.id AH.fl.len AH.fl.one) J) (Gm J ?_))))))
 refine BC J Zb (.c J (.c J .n)) (fun w hS=>Gl _ _ w) ?_
 refine Gt (BZ J) (Ga J (Gn (.t4 1 3 5 8) ?_))
 refine Gc (fun c1=>?_) (fun c1=>?_)
 ·
  refine Gs (Ga J (Gn (.t1 6) (Ac (AS (AD ?_)))))
  refine AY J (.tmp J .n) ?_
  intro w1 hS;refine⟨?_,hS.Ao⟩;rw [show X.D5 b e=_ from(BG c1)];rfl
 have c1p:=kz c1
 have hr:0≤b∧b < 6:=by simp at c1;have h1:=AH.Ht c1;omega
 refine Gs (Gm J (Gt (Al SY J) (Gt (AI J A8 .m0 Ing.Event.l2 J J) (Gt (Ai J J) (Ga J (Gn (.t4 1 3 5 13) ?_))))))
 refine Gc (fun c2=>?_) (fun c2=>?_)
 ·
  refine CL (Gt (Al HV J) (Gt (AI J A8 .m0 Ing.Event.l3 J J) (Gt (BA J J) (Gm J (Bj 21 J J (fun q=>Al HV J) (Bj 21 J J (fun q=>AI (cF J q) A8 .m0 Ing.Event.l3 J J) (Bj 21 J J (fun q=>CZ (cF J q) J) ?_)))))))
  refine Gt (Ba J J (fun h=>by rw [h];rfl)) ?_
  refine Gm J (Bj 26 J J (fun q=>AZ J Bf .m1 (AU.id AH.fl.len AH.fl.one) J) (Bj 26 J J (fun q=>AF J) (Bj 26 J J (fun q=>Al HV J) (Bj 26 J J (fun q=>AI (cF J q) A8 .m0 Ing.Event.l3 J J) ?_))))
  refine SC (t:=26) J J J (fun q=>by have q1:=q;(try simp at q1);exact D0 QV (.c (cF rfl q) (.c (cF rfl q) (.c (cF rfl q) .n))) (fun w hS=>Dd _ _ _ w)) ?_
  refine Gt (Ba J J (fun h=>by rw [h];rfl)) ?_
  refine Gn (.t1 32) ?_
  refine Gc (fun c3=>?_) (fun c3=>?_)
  ·
   refine Gs (Ga J (Gn (.t1 6) (Ac (AD (AS (AD ?_))))))
   refine AY J (.tmp J .n) ?_
   intro w1 hS;refine⟨?_,hS.Ao⟩;rw [show X.D5 b e=_ from((AX c1).trans ((BG c2).trans (BG c3)))];rfl
  refine Aa ?_
  refine AB (.nil _) ?_
  refine AA (Gs (Ga J (AR (AA (Ac (AS (AD ?_)))))))
  refine AY J (.tmp J .n) ?_
  intro w1 hS;refine⟨?_,hS.Ao⟩;rw [show X.D5 b e=_ from((AX c1).trans ((BG c2).trans (AX c3)))];rfl
 have c2p:=kz c2
 refine Aq ?_
 refine BE (N:=14) [0,1,3,7,15,15,63,127,255,15,527,2047,4095,8191] mix (by kernel_rfl) J ?_
 refine Pf 0 J (Al Vi J) (Pf 1 J (AI J A8 .m0 Ing.Event.l0 J J) (Pf 2 J (Ai J J) (Pf 3 J (AF J) (IN 4 37 J J J (fun q=>AF J) (IN 5 37 J J J (fun q=>Al Bx J) ?_)))))
 refine BI 6 J J (by kernel_rfl) (Hf (t:=37) J J (fun q=>by have q1:=q;(try simp at q1);exact F6 (AQ DI (cF rfl q) (cF rfl q) (by omega) (by omega)))) ?_
 refine IN 7 37 J J J (fun q=>Al DE (cF J q)) ?_
 refine BI 8 J J (by kernel_rfl) (Hf (t:=37) J J (fun q=>by have q1:=q;(try simp at q1);exact F6 (AI (cF rfl q) A8 .m1 ((AH.l2.comp (AU.ar (n:=6) Am.fl (by omega))).comp Am.l3) rfl rfl))) ?_
 refine IN 9 37 J J J (fun q=>Al aZ J) (IN 10 37 J J J (fun q=>AI (cF J q) A8 .m0 Ing.Event.l1 J J) (IN 11 37 J J J (fun q=>Cm (cF J q) (cF J q)) ?_))
 refine Pf 12 J (Ba J J (fun h=>by rw [h];rfl)) ?_
 refine Pf 13 J (A0 J) ?_
 refine A2 (by kernel_rfl) ?_
 refine AB (.t4 1 3 5 33) ?_
 refine AA ?_
 refine Gc (fun c4=>?_) (fun c4=>?_)
 ·
  refine Gs (Ga J (Gn (.t1 6) (Ac (AS (AD ?_)))))
  refine AY J (.tmp J .n) ?_
  intro w1 hS;refine⟨?_,hS.Ao⟩;rw [show X.D5 b e=_ from((AX c1).trans ((AX c2).trans (BG c4)))];rfl
 have c4p:=kz c4
 refine Aa ?_
 refine AB (.t3 1 3 5) ?_
 refine AV (AA (Gs (Ga J (AR (AA (CL (Gt (AZ J Bf .m1 (AU.id AH.fl.len AH.fl.one) J) ?_)))))))
 refine Gm J (Gt (Al SY J) (Gt (AI J A8 .m0 Ing.Event.l2 J J) ?_))
 refine BC J QV (.c J (.c J (.c J .n))) (fun w hS=>Dd _ _ _ w) ?_
 refine Gt (BZ J) (Gn (.t5 1 3 5 7 52) ?_)
 refine Gc (fun c5=>?_) (fun c5=>?_)
 ·
  have c5p:=kz c5
  refine CL (Gt (Al Vi J) (Gt (AI J A8 .m0 Ing.Event.l0 J J) ?_))
  refine BC J gB (.c J .n) (fun w hS=>OJ _ w) ?_
  refine Gt (BZ J) (Gn (.t5 1 3 5 7 56) ?_)
  refine Gc (fun c6=>?_) (fun c6=>?_)
  ·
   refine Gs (Ga J (Gn (.t1 6) (Ac (AD (AD ?_)))))
   refine AY J (.tmp J .n) ?_
   intro w1 hS;refine⟨?_,hS.Ao⟩;rw [show X.D5 b e=_ from((AX c1).trans ((AX c2).trans ((AX c4).trans ((BG c5).trans (BG c6)))))];rfl
  have c6p:=kz c6
  refine Aa ?_
  refine AB (.t4 1 3 5 7) ?_
  refine AA (AJ (Gm J ?_))
  refine Gt (Ay J J (IntWalk.i64_in _ (by omega))) ?_
  refine Ga J (Gn (.t4 1 3 5 7) (CL (Gt (Al HV J) (Gt (AI J A8 .m0 Ing.Event.l3 J J) (Gt (CZ J J) (Gm J (Bp 62 J J (fun q=>Al HV J) ?_)))))))
  refine Bp 62 J J (fun q=>AI (Bo J q) A8 .m0 Ing.Event.l3 J J) (Bp 62 J J (fun q=>BA (Bo J q) J) (Gt (BQ J J (fun h=>h)) (Gm J (Bp 67 J J (fun q=>AZ J Bf .m1 (AU.id AH.fl.len AH.fl.one) J) (Bp 67 J J (fun q=>AF J) (Bp 67 J J (fun q=>Al HV J) (Bp 67 J J (fun q=>AI (Bo J q) A8 .m0 Ing.Event.l3 J J) ?_)))))))
  refine NS (t:=67) J J J (fun q=>D0 QV (.c (Bo J q) (.c (Bo J q) (.c (Bo J q) .n))) (fun w hS=>Dd _ _ _ w)) ?_
  refine Bp 67 J J (fun q=>BZ (Bo J q)) (Gt (BQ J J (fun h=>h)) (Gn (.t2 7 74) ?_))
  refine Gc (fun c7=>?_) (fun c7=>?_)
  ·
   have c7p:=kz c7
   refine AJ (Gm J ?_)
   refine Gt (Ay J J (IntWalk.i64_in _ (by omega))) ?_
   refine Ga J (Gn (.t1 7) (Gs (Gm J (Ga J (Gn (.t1 6) (Ac ?_))))))
   refine AY J (.tmp J .n) ?_
   intro w1 hS;refine⟨?_,hS.Ao⟩;rw [show X.D5 b e=_ from((AX c1).trans ((AX c2).trans ((AX c4).trans ((BG c5).trans ((AX c6).trans (BG c7))))))];rfl
  refine Aa ?_
  refine AB (.t1 7) ?_
  refine AA (Gs (Gm J (Ga J (Gn (.t1 6) (Ac ?_)))))
  refine AY J (.tmp J .n) ?_
  intro w1 hS;refine⟨?_,hS.Ao⟩;rw [show X.D5 b e=_ from((AX c1).trans ((AX c2).trans ((AX c4).trans ((BG c5).trans ((AX c6).trans (AX c7))))))];rfl
 have c5p:=kz c5
 refine Aa ?_
 refine AB (.t4 1 3 5 7) ?_
 refine AA (CL (Gt (Al HV J) (Gt (AI J A8 .m0 Ing.Event.l3 J J) (Gt (CZ J J) (Gm J (Bp 62 J J (fun q=>Al HV J) (Bp 62 J J (fun q=>AI (Bo J q) A8 .m0 Ing.Event.l3 J J) ?_)))))))
 refine Bp 62 J J (fun q=>BA (Bo J q) J) (Gt (BQ J J (fun h=>h)) (Gm J (Bp 67 J J (fun q=>AZ J Bf .m1 (AU.id AH.fl.len AH.fl.one) J) (Bp 67 J J (fun q=>AF J) (Bp 67 J J (fun q=>Al HV J) (Bp 67 J J (fun q=>AI (Bo J q) A8 .m0 Ing.Event.l3 J J) ?_))))))
 refine NS (t:=67) J J J (fun q=>D0 QV (.c (Bo J q) (.c (Bo J q) (.c (Bo J q) .n))) (fun w hS=>Dd _ _ _ w)) ?_
 refine Bp 67 J J (fun q=>BZ (Bo J q)) (Gt (BQ J J (fun h=>h)) (Gn (.t2 7 74) ?_))
 refine Gc (fun c8=>?_) (fun c8=>?_)
 ·
  have c8p:=kz c8
  refine AJ (Gm J ?_)
  refine Gt (Ay J J (IntWalk.i64_in _ (by omega))) ?_
  refine Ga J (Gn (.t1 7) (Gs (Gm J (Ga J (Gn (.t1 6) (Ac ?_))))))
  refine AY J (.tmp J .n) ?_
  intro w1 hS;refine⟨?_,hS.Ao⟩;rw [show X.D5 b e=_ from((AX c1).trans ((AX c2).trans ((AX c4).trans ((AX c5).trans (BG c8)))))];rfl
 refine Aa ?_
 refine AB (.t1 7) ?_
 refine AA (Gs (Gm J (Ga J (Gn (.t1 6) (Ac ?_)))))
 refine AY J (.tmp J .n) ?_
 intro w1 hS;refine⟨?_,hS.Ao⟩;rw [show X.D5 b e=_ from((AX c1).trans ((AX c2).trans ((AX c4).trans ((AX c5).trans (AX c8)))))];rfl
theorem Kc (X:AH)(e:Ing.Event)(w:World):Ev Tryz.prog 123 #[.agg X.enc.toArray, .agg e.enc.toArray] w fun v w'=>v = .agg (X.Gj e 6).enc.toArray∧CH w w':=by
 refine Ap [] [] Tryz.func123 J J J (St.start w []) ?_
 refine Gs ?_
 refine CB J J J (fun b1=>?_)
 refine CB J J J (fun b2=>?_)
 refine BJ J JE J (fun b3=>?_)
 refine Gn (.t3 2 3 4) (CL (Gm J (AR (AA (Ag ?_)))))
 refine Bw (.t4 6 2 3 4) ?_
 refine Be (.t .h) ?_
 refine Ck (fun(k:Int)=>0≤k∧k≤6) (fun(k:Int)=>(6 - k).toNat) (fun(k:Int)=> [(6, .int .i64 k)]) (fun(k:Int)=> [Ab.box b2 56 (Ing.Event.enc (X.Gj e k.toNat))]) (0) ?_ J J (fun k hI1=>?_)
 · exact⟨Int.le_refl _,by omega⟩
 obtain⟨hI11,hI12⟩:=hI1
 refine Gs (Gt (BA J J) (AR (AA (Aq ?_))))
 refine Gc (fun c1=>?_) (fun c1=>?_)
 ·
  have c1p:=kz c1
  refine Aa ?_
  refine AB (.t4 2 3 4 6) ?_
  refine AA (Aq (Ag (Gs (Gm J (Ga J (Gn (.t5 2 3 4 5 6) (AJ ?_)))))))
  refine Gm J (Gt (AZ J Bf .m2 (AU.id AH.fl.len AH.fl.one) J) (Gm J (Gt (AZ J PR .m0 (AU.id Ing.Event.fl.len Ing.Event.fl.one) J) ?_)))
  refine BC J fZ (.c J (.c J (.c J .n))) (fun w hS=>KM _ _ _ w) ?_
  refine Gt (Al Oa J) ?_
  refine Gt (AQ Tx J J (by omega) (by omega)) ?_
  refine AT (AL (Ing.Event.l10.comp (AU.ar (n:=6) B9 (by omega))) J J J DO J .h) ?_
  refine AR (AB (.t4 2 3 4 6) ?_)
  refine AV (AA (AJ ?_))
  refine Gt (Ay J J (IntWalk.i64_in _ (by omega))) ?_
  refine Gm J ?_
  refine AR (AB (.t4 2 3 4 6) ?_)
  refine CC (k+1) ?_ ?_ (.t4 6 2 3 4) (by rw [AH.Xp (by omega)];exact(.refl _))
  · exact⟨by omega,by omega⟩
  · omega
 have c1p:=kz c1
 obtain rfl:k=6:=by omega
 refine Bg (AW (AW (Ah ?_)))
 refine AB (.t2 3 4) ?_
 refine AA (Gs (Gt (AZ J PR .m0 (AU.id Ing.Event.fl.len Ing.Event.fl.one) J) ?_))
 refine AT (AL (AU.id Ing.Event.fl.len Ing.Event.fl.one) J J J QN J (.t .h)) ?_
 refine Gn (.t1 4) (Ac ?_)
 refine AY J (.cell J .m1 (.inl ⟨(by rw [Ing.Event.fl.len];exact PR),J⟩) .n) ?_
 intro w1 hS;refine⟨?_,hS.Ao⟩;rfl
theorem CY (b:Nat)(T:AE)(g:Hd)(e:Ing.Event)(hg:g.len=T.out.length)(hb:0≤T.b∧T.b < 6)(ho:e.other < 6)(hn:T.out.length≤100000):KN Tryz.prog 96 #[.pointer (some ⟨b,0,none⟩), .agg e.enc.toArray] [Ab.box b 163 (Af.enc ⟨T.w,T.b,g⟩),Ab.own g 56 16 (T.out.flatMap Ing.Event.enc)] (fun v B=>∃ g':Hd,v = .tuple #[]∧g'.len=(T.BV e).out.length∧B = [Ab.box b 163 (Af.enc ⟨(T.BV e).w,(T.BV e).b,g'⟩),Ab.own g' 56 16 ((T.BV e).out.flatMap Ing.Event.enc)]):=by
 intro w hS0
 refine Ap _ _ Tryz.func96 J J J (hS0) ?_
 refine Gs ?_
 refine CB J J J (fun b1=>?_)
 refine Gn (.t2 0 3) (Aq ?_)
 refine BE (N:=12) [0,0,2,6,14,1,33,97,255,511,0,2047] mix (by kernel_rfl) J ?_
 refine Pf 0 J (AF J) (Pf 1 J (AF J) (Pf 2 J (Bb J) (Pf 3 J (Al Cb J) (Pf 4 J (AI J A8 .m1 Af.l1 J J) (Pf 5 J (Bb J) (Pf 6 J (Al BB J) (Pf 7 J (Al Bx J) ?_)))))))
 refine Pf 8 J (AQ DI J J (by(try dsimp only at *);omega) (by(try dsimp only at *);omega)) ?_
 refine Pf 9 J (AZ J GM .m1 ((Af.l0.comp AH.l2).comp (AU.arr (n:=6) Am.fl (by(try dsimp only at *);omega) (by(try dsimp only at *);omega))) J) ?_
 refine Aj 10 J (by kernel_rfl) ?_
 refine BJ J MX J (fun b2=>?_)
 refine Bu J ⟨?_,?_⟩
 · exact(Po J (AZ J GM .m2 ((Af.l0.comp AH.l2).comp (AU.arr (n:=6) Am.fl (by(try dsimp only at *);omega) (by(try dsimp only at *);omega))) J) J J (Po J (AQ DI J J (by(try dsimp only at *);omega) (by(try dsimp only at *);omega)) J J (Po J (Al Bx J) J J (Po J (Al BB J) J J (Po J (Bb J) J J (Po J (AI J A8 .m2 Af.l1 J J) J J (Po J (Al Cb J) J J (Po J (Bb J) J J (Po J (AF J) J J (Po J (AF J) J J As))))))))))
 refine Aj 11 J (by kernel_rfl) ?_
 refine AT (AL (AU.id Am.fl.len Am.fl.one) J J J LH J .h) ?_
 refine BO J ⟨?_,?_⟩
 · exact(Pk (Pk (Pk (Pk (Pk (Pk (Pk (Pk (Pk (Pk As))))))))))
 refine A2 (by kernel_rfl) ?_
 refine AB (.t3 0 3 4) ?_
 refine AA (Aq ?_)
 refine BE (N:=14) [0,1,3,7,0,16,0,64,15,271,831,1855,4095,8191] mix (by kernel_rfl) J ?_
 refine Pf 0 J (AF J) (Pf 1 J (Bb J) (Pf 2 J (Al Cb J) (Pf 3 J (AI J A8 .m2 Af.l1 J J) (Pf 4 J (Al Li J) (Pf 5 J (AI J CO .m0 Am.l0 J J) (Pf 6 J (Al DE J) (Pf 7 J (AI J A8 .m0 Am.l3 J J) ?_)))))))
 refine Pf 8 J (Al SY J) ?_
 refine Aj 9 J (by kernel_rfl) ?_
 refine AT (AL Ing.Event.l2 J J J DO J (.t .h)) ?_
 refine BO J ⟨?_,?_⟩
 · exact(Pk (Po J (AI J A8 .m0 Am.l3 J J) J J (Po J (Al DE J) J J (Po J (AI J CO .m0 Am.l0 J J) J J (Po J (Al Li J) J J (Pk (Pk (Pk (Pk As)))))))))
 refine Pf 10 J (Al ZE J) ?_
 refine Aj 11 J (by kernel_rfl) ?_
 refine AT (AL Ing.Event.l6 J J J Ed J (.t .h)) ?_
 refine BO J ⟨?_,?_⟩
 · exact(Pk (Pk (Po J (AI J A8 .m0 Am.l3 J J) J J (Po J (Al DE J) J J (Pk (Pk (Pk (Pk (Pk (Pk As))))))))))
 refine Pf 12 J (Al aZ J) ?_
 refine Aj 13 J (by kernel_rfl) ?_
 refine AT (AL Ing.Event.l1 J J J DO J (.t .h)) ?_
 refine BO J ⟨?_,?_⟩
 · exact(Pk (Pk (Pk (Pk (Pk (Pk (Pk (Pk (Pk (Pk (Pk As)))))))))))
 refine A2 (by kernel_rfl) ?_
 refine AB (.t2 0 3) ?_
 refine AA (CL (Gt (Al HV J) (Gt (AI J A8 .m1 Ing.Event.l3 J J) (Gt (CZ J J) (Gn (.t3 0 3 28) ?_)))))
 refine Gc (fun c1=>?_) (fun c1=>?_)
 ·
  have c1p:=kz c1
  refine BE (N:=11) [0,0,2,1,9,25,63,127,255,511,1023] mix (by kernel_rfl) J ?_
  refine Pf 0 J (AF J) (Pf 1 J (Al HV J) (Pf 2 J (AI J A8 .m1 Ing.Event.l3 J J) (Pf 3 J (Bb J) (Pf 4 J (Al BB J) (Pf 5 J (Al Bx J) ?_)))))
  refine Pf 6 J (AQ DI J J (by(try dsimp only at *);omega) (by(try dsimp only at *);omega)) ?_
  refine Pf 7 J (Al Li J) ?_
  refine Pf 8 J (AI J CO .m2 (((Af.l0.comp AH.l2).comp (AU.arr (n:=6) Am.fl (by(try dsimp only at *);omega) (by(try dsimp only at *);omega))).comp Am.l0) J J) ?_
  refine Pf 9 J (Al ah J) ?_
  refine Aj 10 J (by kernel_rfl) ?_
  refine AT (AL Ing.Event.l7 J J J Ed J (.t .h)) ?_
  refine BO J ⟨?_,?_⟩
  · exact(Pk (Pk (Pk (Pk (Pk (Pk (Pk (Pk (Pk (Pk As))))))))))
  refine A2 (by kernel_rfl) ?_
  refine AB (.t2 0 3) ?_
  refine AA ?_
  refine BE (N:=16) [0,0,2,6,14,0,32,96,224,0,992,2016,4094,8191,16383,32767] mix (by kernel_rfl) J ?_
  refine Pf 0 J (AF J) (Pf 1 J (AF J) (Pf 2 J (Bb J) (Pf 3 J (Al CT J) (Pf 4 J (AI J D1 .m2 Af.l2 J J) (Pf 5 J (AF J) (Pf 6 J (Bb J) (Pf 7 J (Al BB J) ?_)))))))
  refine Pf 8 J (AZ J Bf .m2 Af.l0 J) (Pf 9 J (AZ J PR .m1 (AU.id Ing.Event.fl.len Ing.Event.fl.one) J) ?_)
  refine BI 10 J J (by kernel_rfl) (LI (J4 (D0 dU (.c J (.c J .n)) (fun w hS=>Kc _ _ w)))) ?_
  refine Aj 11 J (by kernel_rfl) ?_
  refine Fe Ing.Event.enc Ing.Event.fl J Tryz.underlying53 QN JE J (by decide) (by decide) J J (fun b3=>?_)
  refine Bu J ⟨?_,?_⟩
  · exact(Pk (Pk (Pk (Pk (Pk (Pk (Po J (AI J D1 .m3 Af.l2 J J) J J (Po J (Al CT J) J J (Po J (Bb J) J J (Po J (AF J) J J (Po J (AF J) J J As)))))))))))
  refine Aj 12 J (by kernel_rfl) ?_
  refine CW Ing.Event.fl J Tryz.underlying53 QN JE J bF (by decide) (by decide) J J (fun w hS=>Src.D4 Tryz.underlying53 ((Kn.own .m0) w hS)) (by(try dsimp only);omega) (fun _=>(.t (.t (.t (.t .h))))) (fun h1 h1l h1z=>?_)
  refine Bu J ⟨?_,?_⟩
  · exact(Pk (Pk (Pk (Pk (Pk (Pk (Pk (Pk (Pk (Pk (Po J (AF J) J J As)))))))))))
  refine Pf 13 J (Bb J) (Pf 14 J (Al CT J) ?_)
  refine Aj 15 J (by kernel_rfl) ?_
  refine AT (AL Af.l2 J J J Tj J (.t (.t (.t .h)))) ?_
  refine BO J ⟨?_,?_⟩
  · exact(Pk (Pk (Pk (Pk (Pk (Pk (Pk (Pk (Pk (Pk (Pk (Pk (Pk As)))))))))))))
  refine A2 (by kernel_rfl) ?_
  refine Bs J .n ?_
  intro w1 hS
  have hS:=(hS.perm (Ax.perm (.c (.t (.t (.t .h))) (.c (.t (.t (.t .h))) .n)))).A5
  refine⟨_,⟨?gqTrue,J,?hlTrue,?hBTrue⟩,hS⟩
  case hBTrue=>rw [AE.BV,show T.Cf e=_ from BG c1];rfl
  case hlTrue=>simp only [AE.Cn];(try dsimp only at *);omega
 have c1p:=kz c1
 refine Aa ?_
 refine AB (.t2 0 3) ?_
 refine AA ?_
 refine BE (N:=16) [0,0,2,6,14,0,32,96,224,0,992,2016,4094,8191,16383,32767] mix (by kernel_rfl) J ?_
 refine Pf 0 J (AF J) (Pf 1 J (AF J) (Pf 2 J (Bb J) (Pf 3 J (Al CT J) (Pf 4 J (AI J D1 .m2 Af.l2 J J) (Pf 5 J (AF J) (Pf 6 J (Bb J) (Pf 7 J (Al BB J) ?_)))))))
 refine Pf 8 J (AZ J Bf .m2 Af.l0 J) (Pf 9 J (AZ J PR .m1 (AU.id Ing.Event.fl.len Ing.Event.fl.one) J) ?_)
 refine BI 10 J J (by kernel_rfl) (LI (J4 (D0 dU (.c J (.c J .n)) (fun w hS=>Kc _ _ w)))) ?_
 refine Aj 11 J (by kernel_rfl) ?_
 refine Fe Ing.Event.enc Ing.Event.fl J Tryz.underlying53 QN JE J (by decide) (by decide) J J (fun b4=>?_)
 refine Bu J ⟨?_,?_⟩
 · exact(Pk (Pk (Pk (Pk (Pk (Pk (Po J (AI J D1 .m3 Af.l2 J J) J J (Po J (Al CT J) J J (Po J (Bb J) J J (Po J (AF J) J J (Po J (AF J) J J As)))))))))))
 refine Aj 12 J (by kernel_rfl) ?_
 refine CW Ing.Event.fl J Tryz.underlying53 QN JE J bF (by decide) (by decide) J J (fun w hS=>Src.D4 Tryz.underlying53 ((Kn.own .m0) w hS)) (by(try dsimp only);omega) (fun _=>(.t (.t (.t (.t .h))))) (fun h2 h2l h2z=>?_)
 refine Bu J ⟨?_,?_⟩
 · exact(Pk (Pk (Pk (Pk (Pk (Pk (Pk (Pk (Pk (Pk (Po J (AF J) J J As)))))))))))
 refine Pf 13 J (Bb J) (Pf 14 J (Al CT J) ?_)
 refine Aj 15 J (by kernel_rfl) ?_
 refine AT (AL Af.l2 J J J Tj J (.t (.t (.t .h)))) ?_
 refine BO J ⟨?_,?_⟩
 · exact(Pk (Pk (Pk (Pk (Pk (Pk (Pk (Pk (Pk (Pk (Pk (Pk (Pk As)))))))))))))
 refine A2 (by kernel_rfl) ?_
 refine Bs J .n ?_
 intro w1 hS
 have hS:=(hS.perm (Ax.perm (.c (.t (.t (.t .h))) (.c (.t (.t (.t .h))) .n)))).A5
 refine⟨_,⟨?gqFalse,J,?hlFalse,?hBFalse⟩,hS⟩
 case hBFalse=>rw [AE.BV,show T.Cf e=_ from AX c1];rfl
 case hlFalse=>simp only [AE.Cn];(try dsimp only at *);omega
theorem G4 (b:Nat)(T:AE)(g:Hd)(k:Int)(hg:g.len=T.out.length)(hb:0≤T.b∧T.b < 6)(hn:T.out.length≤100000):KN Tryz.prog 124 #[.pointer (some ⟨b,0,none⟩), .int .i64 k] [Ab.box b 163 (Af.enc ⟨T.w,T.b,g⟩),Ab.own g 56 16 (T.out.flatMap Ing.Event.enc)] (fun v B=>∃ g':Hd,v = .tuple #[]∧g'.len=(T.kind k).out.length∧B = [Ab.box b 163 (Af.enc ⟨(T.kind k).w,(T.kind k).b,g'⟩),Ab.own g' 56 16 ((T.kind k).out.flatMap Ing.Event.enc)]):=by
 intro w hS0
 refine Ap _ _ Tryz.func124 J J J (hS0) ?_
 refine AJ (Gm J (Gm J (Gt (BF QW JE J (.cons Ing.Event.l0 J J J (.cons Ing.Event.l3 J J J .nil))) ?_)))
 refine Ak J Pw (.c J (.c J .n)) (.c .h (.c .h .n)) (CY _ _ _ (AE.GF k) hg hb (show(-1:Int) < 6 by decide) hn) (fun v1 B hv=>?_)
 obtain⟨y2,rfl,y3,rfl⟩:=hv
 refine AR ?_
 refine Bs J .n ?_
 intro w1 hS
 have hS:=(hS.perm (Ax.perm (.c .h (.c .h .n)))).A5
 exact⟨_,⟨_,J,by assumption,rfl⟩,hS⟩
theorem Bi (b:Nat)(T:AE)(g:Hd)(u:Ad)(hg:g.len=T.out.length)(hb:0≤T.b∧T.b < 6)(hn:T.out.length≤100000):KN Tryz.prog 127 #[.pointer (some ⟨b,0,none⟩),BW u] [Ab.box b 163 (Af.enc ⟨T.w,T.b,g⟩),Ab.own g 56 16 (T.out.flatMap Ing.Event.enc)] (fun v B=>∃ g':Hd,v = .tuple #[]∧g'.len=(T.tell u).out.length∧B = [Ab.box b 163 (Af.enc ⟨(T.tell u).w,(T.tell u).b,g'⟩),Ab.own g' 56 16 ((T.tell u).out.flatMap Ing.Event.enc)]):=by
 intro w hS0
 refine Ap _ _ Tryz.func127 J J J (hS0) ?_
 refine AJ (Gm J (Gm J (Gt (BF QW JE J (.cons Ing.Event.l0 J J J (.cons Ing.Event.l3 J J J (.cons Ing.Event.l9 J J J .nil)))) ?_)))
 refine Ak J Pw (.c J (.c J .n)) (.c .h (.c .h .n)) (CY _ _ _ { AE.GF 16 with text:=u } hg hb (show(-1:Int) < 6 by decide) hn) (fun v1 B hv=>?_)
 obtain⟨y2,rfl,y3,rfl⟩:=hv
 refine AR ?_
 refine Bs J .n ?_
 intro w1 hS
 have hS:=(hS.perm (Ax.perm (.c .h (.c .h .n)))).A5
 exact⟨_,⟨_,J,by assumption,rfl⟩,hS⟩
theorem Io (d:Int)(w:World)(gl0:GV 0 AH.DU w):Ev Tryz.prog 52 #[.int .i64 d] w fun v w'=>v=BW (AH.called d)∧CH w w':=by
 refine Ap [] [] Tryz.func52 J J J (St.start w []) ?_
 refine Gs (Ga J (Gn (.t1 0) (CL (Gm J (Gt (BA J J) (Gm J (Bj 5 J J (fun q=>AF J) ?_)))))))
 refine Bj 5 J J (fun q=>CZ (cF J q) J) ?_
 refine Gt (Ba J J (fun h=>by rw [h];rfl)) ?_
 refine Gn (.t2 0 8) ?_
 refine Gc (fun c1=>?_) (fun c1=>?_)
 ·
  refine Gs (Ga J (Gn (.t1 2) (Ac (AD ?_))))
  refine AY J (.tmp J .n) ?_
  intro w1 hS;refine⟨?_,hS.Ao⟩;rw [show AH.called d=_ from BG c1];rfl
 have c1p:=kz c1
 have hr:0≤d∧d < 6:=by simp at c1;omega
 refine Aa ?_
 refine AB (.t1 0) ?_
 refine AA (Gs (Gm J ?_))
 refine Gt (AQ bI J J (by omega) (by omega)) ?_
 refine Gt (Rk gl0 J CO (AH.PG hr.1 hr.2)) (Ga J (Gn (.t1 2) (Ac ?_)))
 refine AY J (.tmp J .n) ?_
 intro w1 hS;refine⟨?_,hS.Ao⟩;rw [show AH.called d=_ from AX c1];rfl
theorem FU (X:AH)(Cg at_:Int):KN Tryz.prog 102 #[.agg X.enc.toArray, .int .i64 Cg, .int .i64 at_] [] (fun v B=>∃ h':Hd,v=h'.val∧h'.len=(X.has Cg at_).length∧B = [Ab.own h' 3 1 ((X.has Cg at_).flatMap Az)]):=by
 intro w hS0
 refine Ap _ _ Tryz.func102 J J J (hS0) ?_
 refine Gs ?_
 refine CB J J J (fun b1=>?_)
 refine Ga J (Gn (.t3 1 2 3) (Gs (Ga J (AR (AA (CL (Gt (Al C6 J) ?_)))))))
 refine Gt (AZ J Zd .m0 AH.l1 J) (Gm J (Gn (.t5 1 2 7 11 12) (Ag ?_)))
 refine Bw (.t5 7 12 1 2 11) ?_
 refine E2 Az 3 1 ?_
 refine Dx (fun(k:Int) (xs:List Int) (g:Hd)=>0≤k∧k≤9∧xs=X.Qi Cg at_ k.toNat∧g.len=xs.length) (fun(k:Int) (xs:List Int) (g:Hd)=>(9 - k).toNat) (fun(k:Int) (xs:List Int) (g:Hd)=> [(7,g.val),(12, .int .i64 k)]) (fun(k:Int) (xs:List Int) (g:Hd)=> [Ab.own g 3 1 (xs.flatMap Az)]) (0) ([]) (_) ?_ J J (fun k xs g hI1=>?_)
 · exact⟨by omega,by omega,rfl,rfl⟩
 obtain⟨hI11,hI12,hI13,hI14⟩:=hI1
 refine Gs (Gt (BA J J) (AR (AA (Aq ?_))))
 refine Gc (fun c1=>?_) (fun c1=>?_)
 ·
  have c1p:=kz c1
  have hxl:=AH.Te X Cg at_ k.toNat
  rw [← hI13] at hxl
  refine Aa ?_
  refine AB (.t5 1 2 7 11 12) ?_
  refine AA (Aq (Ag (Gs (Gm J ?_))))
  refine Gt (Gg An.fl Tryz.underlying30 Nl J J (by omega) (by omega)) ?_
  refine BJ J LJ J (fun b2=>?_)
  refine Ga J ?_
  refine AT (AL (AU.id An.fl.len An.fl.one) J J J OE J .h) ?_
  refine Gn (.t7 1 2 7 8 9 11 12) (Gs (Gt (Al Fm J) (Gt (AI J A8 .m0 An.l2 J J) (Gm J (Gt (Ai J J) (Gm J (Bp 20 J J (fun q=>Al DX J) ?_)))))))
  refine Bp 20 J J (fun q=>AI (Bo J q) A8 .m0 An.l3 J J) (Bp 20 J J (fun q=>AF J) (Bp 20 J J (fun q=>Ai (Bo J q) (Bo J q)) (Gt (BQ J J (fun h=>h)) (Gn (.t7 1 2 7 8 11 12 25) ?_))))
  refine Gc (fun c2=>?_) (fun c2=>?_)
  ·
   have c2p:=kz c2
   refine AJ (Gm J (Gm J ?_))
   refine Fe Az B9 J Tryz.underlying169 DO fJ J (by decide) (by decide) J J (fun b3=>?_)
   refine CW B9 J Tryz.underlying169 DO fJ J iZ (by decide) (by decide) J J (fun w hS=>Src.D4 Tryz.underlying169 ((Kn.own .m0) w hS)) (by(try dsimp only);omega) (fun _=>(.t (.t .h))) (fun h1 h1l h1z=>?_)
   refine Ga J ?_
   refine AR (AB (.t5 1 2 7 11 12) ?_)
   refine AV (AA (AJ ?_))
   refine Gt (Ay J J (IntWalk.i64_in _ (by omega))) ?_
   refine Gm J ?_
   refine AR (AB (.t5 1 2 7 11 12) ?_)
   refine B2 (k+1) _ _ ?_ ?_ (.t5 7 12 1 2 11) (.cons _ (.cons _ (.refl _)))
   · exact⟨by omega,by omega,by rw [AH.eH hI11 c2,← hI13],(by(try dsimp only at *)<;>(try simp only [List.length_append,List.length_cons,List.length_nil])<;>omega)⟩
   · omega
  have c2p:=kz c2
  refine Aa ?_
  refine AB (.t5 1 2 7 11 12) ?_
  refine AV (AA (AJ ?_))
  refine Gt (Ay J J (IntWalk.i64_in _ (by omega))) ?_
  refine Gm J ?_
  refine AR (AB (.t5 1 2 7 11 12) ?_)
  refine B2 (k+1) _ _ ?_ ?_ (.t5 7 12 1 2 11) (.cons _ (.refl _))
  · exact⟨by omega,by omega,by rw [AH.dw hI11 c2,← hI13],(by(try dsimp only at *)<;>(try simp only [List.length_append,List.length_cons,List.length_nil])<;>omega)⟩
  · omega
 have c1p:=kz c1
 obtain rfl:k=9:=by omega
 refine Bg (AW (AW (Ah ?_)))
 refine AB (.t1 7) ?_
 refine AA (Gs (Gm J (Ga J (Gn (.t1 6) (Ac ?_)))))
 refine AY J (.tmp J .n) ?_
 intro w1 hS
 have hS:=(hS.perm (Ax.perm (.c .h .n))).A5
 exact⟨_,⟨_,J,by rw [AH.VB,← hI13];assumption,by rw [AH.VB,← hI13]⟩,hS⟩
theorem MR (b:Nat)(T:AE)(g:Hd)(u:Ad)(f:Hd)(l:List Int)(hg:g.len=T.out.length)(hb:0≤T.b∧T.b < 6)(hf:f.len=l.length)(hl:l.length≤9)(hi:∀ i∈l,0≤i∧i < 9)(hw:T.w.DV)(hu:u.length≤1000)(hn:T.out.length≤100000):KN Tryz.prog 101 #[.pointer (some ⟨b,0,none⟩),BW u,f.val] [Ab.box b 163 (Af.enc ⟨T.w,T.b,g⟩),Ab.own g 56 16 (T.out.flatMap Ing.Event.enc),Ab.own f 3 1 (l.flatMap Az)] (fun v B=>∃ g':Hd,v = .tuple #[]∧g'.len=(T.list u l).out.length∧B = [Ab.box b 163 (Af.enc ⟨(T.list u l).w,(T.list u l).b,g'⟩),Ab.own g' 56 16 ((T.list u l).out.flatMap Ing.Event.enc),Ab.own f 3 1 (l.flatMap Az)]):=by
 intro w hS0
 refine Ap _ _ Tryz.func101 J J J (hS0) ?_
 refine CL (Gm J (Gt (Au J Tryz.underlying169 J) (Gm J (AR (AA (Ag ?_))))))
 refine Bw (.t6 1 10 0 2 8 9) ?_
 refine Hw (fun(k:Int) (x:Ad)=>0≤k∧k≤(l.length:Int)∧AE.Ge T.w u l=AE.Ge T.w x (l.drop k.toNat)∧x.length≤1000+k.toNat * 140737488351300) (fun(k:Int) (x:Ad)=>((l.length:Int) - k).toNat) (fun(k:Int) (x:Ad)=> [(1,BW x),(10, .int .i64 k)]) (fun(k:Int) (x:Ad)=> []) (0) (u) ?_ J J (fun k x hI1=>?_)
 · exact⟨by omega,by omega,by simp,by simp;omega⟩
 obtain⟨hI11,hI12,hI13,hI14⟩:=hI1
 refine Gs (Gt (BA J J) (AR (AA (Aq ?_))))
 refine Gc (fun c1=>?_) (fun c1=>?_)
 ·
  have c1p:=kz c1
  have hx:=hi _ (Bh.FC (xs:=l) (i:=k.toNat) (by omega))
  have hnl:=hw.th (l.getD k.toNat 0)
  refine Aa ?_
  refine AB (.t6 0 1 2 8 9 10) ?_
  refine AA (Aq (Ag (Gs ?_)))
  refine Gt (Bz HL (by decide) (Kn.own .m2) J J (by omega) (by omega)) ?_
  refine Gt (DT J A8 (Kn.own .m2) (by omega)) ?_
  refine Ga J (Gn (.t7 0 1 2 7 8 9 10) (Gs (Gm J (Gm J (Gm J (Gt (Bb J) (Gt (Al BB J) ?_)))))))
  refine Gt (Al C6 J) ?_
  refine Gt (AQ Gq J J (by(try dsimp only at *);(try simp only [List.length_append,List.length_cons,List.length_nil]);omega) (by(try dsimp only at *);(try simp only [List.length_append,List.length_cons,List.length_nil]);omega)) ?_
  refine Gt (Al NC J) ?_
  refine Gt (AI J CO .m0 (((Af.l0.comp AH.l1).comp (AU.arr (n:=9) An.fl (by(try dsimp only at *);(try simp only [List.length_append,List.length_cons,List.length_nil]);omega) (by(try dsimp only at *);(try simp only [List.length_append,List.length_cons,List.length_nil]);omega))).comp An.l0) J J) ?_
  refine Gt (CJ J J (by(try dsimp only at *);(try simp only [List.length_append,List.length_cons,List.length_nil]);omega)) ?_
  refine Gt (CJ J J (by(try dsimp only at *);(try simp only [List.length_append,List.length_cons,List.length_nil]);omega)) ?_
  refine Ga J (Gn (.t7 0 1 2 7 8 9 10) (Gs (Gm J (Gm J (Gt (Bb J) (Gt (Al BB J) (Gt (Al C6 J) ?_)))))))
  refine Gt (AQ Gq J J (by(try dsimp only at *);(try simp only [List.length_append,List.length_cons,List.length_nil]);omega) (by(try dsimp only at *);(try simp only [List.length_append,List.length_cons,List.length_nil]);omega)) ?_
  refine Gt (Al Gi J) ?_
  refine Gt (AI J D3 .m0 (((Af.l0.comp AH.l1).comp (AU.arr (n:=9) An.fl (by(try dsimp only at *);(try simp only [List.length_append,List.length_cons,List.length_nil]);omega) (by(try dsimp only at *);(try simp only [List.length_append,List.length_cons,List.length_nil]);omega))).comp An.l4) J J) ?_
  refine Gn (.t7 0 1 2 8 9 10 32) ?_
  refine Gc (fun c2=>?_) (fun c2=>?_)
  ·
   have c2p:=kz c2
   refine AJ (Gm J ?_)
   refine Gt (CJ J J (by(try dsimp only at *);(try simp only [List.length_append,List.length_cons,List.length_nil]);omega)) ?_
   refine Ga J ?_
   refine AR (AB (.t6 0 1 2 8 9 10) ?_)
   refine AV (AA (AJ ?_))
   refine Gt (Ay J J (IntWalk.i64_in _ (by(try dsimp only at *);(try simp only [List.length_append,List.length_cons,List.length_nil]);omega))) ?_
   refine Gm J ?_
   refine AR (AB (.t6 0 1 2 8 9 10) ?_)
   refine Dt (k+1) _ ?_ ?_ (.t6 1 10 0 2 8 9) (.refl _)
   · exact⟨by omega,by omega,by rw [hI13,AE.cV hI11 (by omega) c2],by simp only [List.length_append,List.length_cons,List.length_nil];omega⟩
   · omega
  have c2p:=kz c2
  refine Aa ?_
  refine AB (.t6 0 1 2 8 9 10) ?_
  refine AV (AA (AJ ?_))
  refine Gt (Ay J J (IntWalk.i64_in _ (by(try dsimp only at *);(try simp only [List.length_append,List.length_cons,List.length_nil]);omega))) ?_
  refine Gm J ?_
  refine AR (AB (.t6 0 1 2 8 9 10) ?_)
  refine Dt (k+1) _ ?_ ?_ (.t6 1 10 0 2 8 9) (.refl _)
  · exact⟨by omega,by omega,by rw [hI13,AE.cu hI11 (by omega) c2],by simp only [List.length_append,List.length_cons,List.length_nil];omega⟩
  · omega
 have c1p:=kz c1
 obtain rfl:k=(l.length:Int):=by omega
 rw [show(l.length:Int).toNat=l.length by omega,List.drop_length] at hI13
 refine Bg (AW (AW (Ah ?_)))
 refine AB (.t3 0 1 2) ?_
 refine AA (CL (Gm J (Gt (Au J Tryz.underlying169 J) (Gt (Ai J J) (Gn (.t3 0 1 38) ?_)))))
 refine Gc (fun c3=>?_) (fun c3=>?_)
 ·
  have c3p:=kz c3
  rw [hf] at c3
  refine AJ (Gm J ?_)
  refine Gt (CJ J J (by(try dsimp only at *);(try simp only [List.length_append,List.length_cons,List.length_nil]);omega)) ?_
  refine Ga J (Gn (.t2 0 1) (AJ (Gm J (Gm J ?_))))
  refine Gt (CJ J J (by(try dsimp only at *);(try simp only [List.length_append,List.length_cons,List.length_nil]);omega)) ?_
  refine Ak J EV (.c J (.c J .n)) (.c .h (.c .h .n)) (Bi _ _ _ _ hg hb hn) (fun v1 B hv=>?_)
  obtain⟨y2,rfl,y3,rfl⟩:=hv
  refine AR ?_
  refine Bs J .n ?_
  intro w1 hS
  have hS:=(hS.perm (Ax.perm (.c .h (.c .h (.c .h .n))))).A5
  refine⟨_,⟨?gqTrue,J,?hlTrue,?hBTrue⟩,hS⟩
  case hBTrue=>rw [AE.list,show AE.MS T.w u l=_ from BG c3,hI13];rfl
  case hlTrue=>(try simp only [AE.CM] at *);rw [(AE.H2 T u l).2.2];assumption
 have c3p:=kz c3
 rw [hf] at c3
 refine Aa ?_
 refine AB (.t2 0 1) ?_
 refine AA (AJ (Gm J (Gm J ?_)))
 refine Gt (CJ J J (by(try dsimp only at *);(try simp only [List.length_append,List.length_cons,List.length_nil]);omega)) ?_
 refine Ak J EV (.c J (.c J .n)) (.c .h (.c .h .n)) (Bi _ _ _ _ hg hb hn) (fun v4 B hv=>?_)
 obtain⟨y5,rfl,y6,rfl⟩:=hv
 refine AR ?_
 refine Bs J .n ?_
 intro w1 hS
 have hS:=(hS.perm (Ax.perm (.c .h (.c .h (.c .h .n))))).A5
 refine⟨_,⟨?gqFalse,J,?hlFalse,?hBFalse⟩,hS⟩
 case hBFalse=>rw [AE.list,show AE.MS T.w u l=_ from AX c3,hI13];rfl
 case hlFalse=>(try simp only [AE.CM] at *);rw [(AE.H2 T u l).2.2];assumption
theorem Hh (b:Nat)(T:AE)(g:Hd)(hg:g.len=T.out.length)(hb:0≤T.b∧T.b < 6)(hw:T.w.DV)(hn:T.out.length≤90000):FO Tryz.prog 100 #[.pointer (some ⟨b,0,none⟩)] [Ab.box b 163 (Af.enc ⟨T.w,T.b,g⟩),Ab.own g 56 16 (T.out.flatMap Ing.Event.enc)] (fun w=>(GV 0 AH.DU w∧0 ∉ Ch [Ab.box b 163 (Af.enc ⟨T.w,T.b,g⟩),Ab.own g 56 16 (T.out.flatMap Ing.Event.enc)])) (fun v B=>∃ g':Hd,v = .tuple #[]∧g'.len=(T.look).out.length∧B = [Ab.box b 163 (Af.enc ⟨(T.look).w,(T.look).b,g'⟩),Ab.own g' 56 16 ((T.look).out.flatMap Ing.Event.enc)]):=by
 intro w hS0 hH
 obtain⟨gl0,gm0⟩:=hH
 refine Ap _ _ Tryz.func100 J J J (hS0) ?_
 refine Aq ?_
 refine BE (N:=12) [0,0,2,6,14,1,33,97,255,511,0,2047] mix (by kernel_rfl) J ?_
 refine Pf 0 J (AF J) (Pf 1 J (AF J) (Pf 2 J (Bb J) (Pf 3 J (Al Cb J) (Pf 4 J (AI J A8 .m0 Af.l1 J J) (Pf 5 J (Bb J) (Pf 6 J (Al BB J) (Pf 7 J (Al Bx J) ?_)))))))
 refine Pf 8 J (AQ DI J J (by(try dsimp only at *);(try simp only [List.length_append,List.length_cons,List.length_nil]);omega) (by(try dsimp only at *);(try simp only [List.length_append,List.length_cons,List.length_nil]);omega)) ?_
 refine Pf 9 J (AZ J GM .m0 ((Af.l0.comp AH.l2).comp (AU.arr (n:=6) Am.fl (by(try dsimp only at *);(try simp only [List.length_append,List.length_cons,List.length_nil]);omega) (by(try dsimp only at *);(try simp only [List.length_append,List.length_cons,List.length_nil]);omega))) J) ?_
 refine Aj 10 J (by kernel_rfl) ?_
 refine BJ J MX J (fun b1=>?_)
 refine Bu J ⟨?_,?_⟩
 · exact(Po J (AZ J GM .m1 ((Af.l0.comp AH.l2).comp (AU.arr (n:=6) Am.fl (by(try dsimp only at *);(try simp only [List.length_append,List.length_cons,List.length_nil]);omega) (by(try dsimp only at *);(try simp only [List.length_append,List.length_cons,List.length_nil]);omega))) J) J J (Po J (AQ DI J J (by(try dsimp only at *);(try simp only [List.length_append,List.length_cons,List.length_nil]);omega) (by(try dsimp only at *);(try simp only [List.length_append,List.length_cons,List.length_nil]);omega)) J J (Po J (Al Bx J) J J (Po J (Al BB J) J J (Po J (Bb J) J J (Po J (AI J A8 .m1 Af.l1 J J) J J (Po J (Al Cb J) J J (Po J (Bb J) J J (Po J (AF J) J J (Po J (AF J) J J As))))))))))
 refine Aj 11 J (by kernel_rfl) ?_
 refine AT (AL (AU.id Am.fl.len Am.fl.one) J J J LH J .h) ?_
 refine BO J ⟨?_,?_⟩
 · exact(Pk (Pk (Pk (Pk (Pk (Pk (Pk (Pk (Pk (Pk As))))))))))
 refine A2 (by kernel_rfl) ?_
 refine AB (.t2 0 2) ?_
 refine AA (Aq (Aq ?_))
 refine BE (N:=8) [0,1,3,7,0,16,63,127] mix (by kernel_rfl) J ?_
 refine Pf 0 J (AF J) (Pf 1 J (Bb J) (Pf 2 J (Al BB J) (Pf 3 J (AZ J Bf .m1 Af.l0 J) (Pf 4 J (Al DE J) (Pf 5 J (AI J A8 .m0 Am.l3 J J) ?_)))))
 refine BI 6 J J (by kernel_rfl) (LI (J4 (D0 We (.c J (.c J .n)) (fun w hS=>Et _ _ w)))) ?_
 refine Pf 7 J (BZ J) ?_
 refine A2 (by kernel_rfl) ?_
 refine AB (.t3 0 2 26) ?_
 refine AA ?_
 refine Gc (fun c1=>?_) (fun c1=>?_)
 ·
  have c1p:=kz c1
  refine Gs (Gm J ?_)
  refine Ak J EV (.c J (.c J .n)) (.c (.t .h) (.c (.t .h) .n)) (Bi _ _ _ _ (by assumption) (by first | exact hb | (rw [hXb];exact hb)) (by(try simp only [AE.CM,AE.Cn,(AE.H2 _ _ _).2.2] at *);(try dsimp only at *);omega)) (fun v1 B hv=>?_)
  obtain⟨y2,rfl,y3,rfl⟩:=hv
  refine Gn (.nil _) (Ac (AD ?_))
  refine AY J .n ?_
  intro w1 hS
  have hS:=(hS.perm (Ax.perm (.c .h (.c .h .n)))).A5
  refine⟨_,⟨?gq1,J,?hl1,?hB1⟩,hS⟩
  case hB1=>rw [show T.look=_ from BG c1];rfl
  case hl1=>rw [show T.look=_ from BG c1];assumption
 have c1p:=kz c1
 have hr:=AH.Uz c1
 have hnr:=hw.ro (T.w.AO.at T.b).room
 refine Aa ?_
 refine AB (.t2 0 2) ?_
 refine AA (Aq ?_)
 refine BE (N:=10) [0,0,2,1,9,25,63,127,0,511] mix (by kernel_rfl) J ?_
 refine Pf 0 J (AF J) (Pf 1 J (Al DE J) (Pf 2 J (AI J A8 .m0 Am.l3 J J) (Pf 3 J (Bb J) (Pf 4 J (Al BB J) (Pf 5 J (Al HU J) ?_)))))
 refine Pf 6 J (AQ Om J J (by(try dsimp only at *);(try simp only [List.length_append,List.length_cons,List.length_nil]);omega) (by(try dsimp only at *);(try simp only [List.length_append,List.length_cons,List.length_nil]);omega)) ?_
 refine Pf 7 J (AZ J PY .m1 ((Af.l0.comp AH.l0).comp (AU.arr (n:=6) Room.fl (by(try dsimp only at *);(try simp only [List.length_append,List.length_cons,List.length_nil]);omega) (by(try dsimp only at *);(try simp only [List.length_append,List.length_cons,List.length_nil]);omega))) J) ?_
 refine Aj 8 J (by kernel_rfl) ?_
 refine BJ J QE J (fun b2=>?_)
 refine Bu J ⟨?_,?_⟩
 · exact(Po J (AZ J PY .m2 ((Af.l0.comp AH.l0).comp (AU.arr (n:=6) Room.fl (by(try dsimp only at *);(try simp only [List.length_append,List.length_cons,List.length_nil]);omega) (by(try dsimp only at *);(try simp only [List.length_append,List.length_cons,List.length_nil]);omega))) J) J J (Po J (AQ Om J J (by(try dsimp only at *);(try simp only [List.length_append,List.length_cons,List.length_nil]);omega) (by(try dsimp only at *);(try simp only [List.length_append,List.length_cons,List.length_nil]);omega)) J J (Po J (Al HU J) J J (Po J (Al BB J) J J (Po J (Bb J) J J (Po J (AI J A8 .m1 Am.l3 J J) J J (Po J (Al DE J) J J (Po J (AF J) J J As))))))))
 refine Aj 9 J (by kernel_rfl) ?_
 refine AT (AL (AU.id Room.fl.len Room.fl.one) J J J Sq J .h) ?_
 refine BO J ⟨?_,?_⟩
 · exact(Pk (Pk (Pk (Pk (Pk (Pk (Pk (Pk As))))))))
 refine A2 (by kernel_rfl) ?_
 refine AB (.t3 0 2 3) ?_
 refine AA (Gs (Gm J (Gt (Al eA J) (Gt (AI J CO .m0 Room.l0 J J) ?_))))
 refine Gt (CJ J J (by(try dsimp only at *);(try simp only [List.length_append,List.length_cons,List.length_nil]);omega)) ?_
 refine Gt (CJ J J (by(try dsimp only at *);(try simp only [List.length_append,List.length_cons,List.length_nil]);omega)) ?_
 refine Ak J EV (.c J (.c J .n)) (.c (.t (.t .h)) (.c (.t (.t .h)) .n)) (Bi _ _ _ _ (by assumption) (by first | exact hb | (rw [hXb];exact hb)) (by(try simp only [AE.CM,AE.Cn,(AE.H2 _ _ _).2.2] at *);(try dsimp only at *);omega)) (fun v4 B hv=>?_)
 obtain⟨y5,rfl,y6,rfl⟩:=hv
 refine Gn (.t3 0 2 3) (Gs (Ga J (AR (AA (CL (Gt (Al NV J) (Gt (AZ J dS .m2 Room.l2 J) ?_)))))))
 refine Gm J (Gn (.t6 0 2 3 4 44 45) (Ag ?_))
 refine Bw (.t6 4 45 0 2 3 44) ?_
 refine Hw (fun(k:Int) (x:Ad)=>0≤k∧k≤6∧x=AE.G8 (T.w.BT.at T.me.room) k.toNat) (fun(k:Int) (x:Ad)=>(6 - k).toNat) (fun(k:Int) (x:Ad)=> [(4,BW x),(45, .int .i64 k)]) (fun(k:Int) (x:Ad)=> []) (0) (_) ?_ J J (fun k x hI1=>?_)
 · exact⟨by omega,by omega,rfl⟩
 obtain⟨hI11,hI12,hI13⟩:=hI1
 refine Gs (Gt (BA J J) (AR (AA (Aq ?_))))
 refine Gc (fun c2=>?_) (fun c2=>?_)
 ·
  have c2p:=kz c2
  have hcl:=AH.Jn k
  have hwl:=AE.NM (T.w.BT.at T.me.room) k.toNat
  rw [← hI13] at hwl
  have hst:=AE.U1 (r:=T.w.BT.at T.me.room) hI11
  refine Aa ?_
  refine AB (.t6 0 2 3 4 44 45) ?_
  refine AA (Aq (Ag (Gs (Gm J ?_))))
  refine Gt (K9 B9 Tryz.underlying23 DO A8 J J (by(try dsimp only at *);(try simp only [List.length_append,List.length_cons,List.length_nil]);omega) (by(try dsimp only at *);(try simp only [List.length_append,List.length_cons,List.length_nil]);omega) J) ?_
  refine Ga J (Ga J (Gn (.t8 0 2 3 4 5 6 44 45) (CL (Gm J (Gt (Ai J J) (Gn (.t8 0 2 3 4 5 44 45 50) ?_))))))
  refine Gc (fun c3=>?_) (fun c3=>?_)
  ·
   have c3p:=kz c3
   have cp3:decide ((T.w.BT.at T.me.room).Ca.at k=0)=true:=c3
   rw [BG cp3] at hst
   refine Bg (AW (Ah ?_))
   refine AB (.t6 0 2 3 4 44 45) ?_
   refine AA (AJ ?_)
   refine Gt (Ay J J (IntWalk.i64_in _ (by(try dsimp only at *);(try simp only [List.length_append,List.length_cons,List.length_nil]);omega))) ?_
   refine Gm J ?_
   refine AR (AB (.t6 0 2 3 4 44 45) ?_)
   refine Dt (k+1) _ ?_ ?_ (.t6 4 45 0 2 3 44) (.refl _)
   · exact⟨by omega,by omega,by rw [hst,← hI13]⟩
   · omega
  have c3p:=kz c3
  have cp3:decide ((T.w.BT.at T.me.room).Ca.at k=0)=false:=c3
  rw [AX cp3] at hst
  refine Aa ?_
  refine AB (.t7 0 2 3 4 5 44 45) ?_
  refine AA (Gs (Gm J (Gm J ?_)))
  refine BC J gy (.c J .n) (fun w hS=>Io _ w (gl0.stM gm0 hS)) ?_
  refine Gt (CJ J J (by(try dsimp only at *);(try simp only [List.length_append,List.length_cons,List.length_nil]);omega)) ?_
  refine Gt (CJ J J (by(try dsimp only at *);(try simp only [List.length_append,List.length_cons,List.length_nil]);omega)) ?_
  refine Ga J (Gn (.t7 0 2 3 4 5 44 45) (Gs (Gm J (Gt (Al M7 J) ?_))))
  refine Gt (AQ XH J J (by(try dsimp only at *);(try simp only [List.length_append,List.length_cons,List.length_nil]);omega) (by(try dsimp only at *);(try simp only [List.length_append,List.length_cons,List.length_nil]);omega)) ?_
  refine Gt (AI J D3 .m2 (Room.l3.comp (AU.arr (n:=6) Hs (by(try dsimp only at *);(try simp only [List.length_append,List.length_cons,List.length_nil]);omega) (by(try dsimp only at *);(try simp only [List.length_append,List.length_cons,List.length_nil]);omega))) J J) ?_
  refine Gn (.t7 0 2 3 4 44 45 59) ?_
  refine Gc (fun c4=>?_) (fun c4=>?_)
  ·
   have c4p:=kz c4
   have cp4:(T.w.BT.at T.me.room).shut.at k=true:=c4
   rw [BG cp4] at hst
   refine AJ (Gm J ?_)
   refine Gt (CJ J J (by(try dsimp only at *);(try simp only [List.length_append,List.length_cons,List.length_nil]);omega)) ?_
   refine Ga J ?_
   refine AR (AB (.t6 0 2 3 4 44 45) ?_)
   refine AV (AA (AJ ?_))
   refine Gt (Ay J J (IntWalk.i64_in _ (by(try dsimp only at *);(try simp only [List.length_append,List.length_cons,List.length_nil]);omega))) ?_
   refine Gm J ?_
   refine AR (AB (.t6 0 2 3 4 44 45) ?_)
   refine Dt (k+1) _ ?_ ?_ (.t6 4 45 0 2 3 44) (.refl _)
   · exact⟨by omega,by omega,by rw [hst,← hI13]⟩
   · omega
  have c4p:=kz c4
  have cp4:(T.w.BT.at T.me.room).shut.at k=false:=c4
  rw [AX cp4] at hst
  refine Aa ?_
  refine AB (.t6 0 2 3 4 44 45) ?_
  refine AV (AA (AJ ?_))
  refine Gt (Ay J J (IntWalk.i64_in _ (by(try dsimp only at *);(try simp only [List.length_append,List.length_cons,List.length_nil]);omega))) ?_
  refine Gm J ?_
  refine AR (AB (.t6 0 2 3 4 44 45) ?_)
  refine Dt (k+1) _ ?_ ?_ (.t6 4 45 0 2 3 44) (.refl _)
  · exact⟨by omega,by omega,by rw [hst,← hI13]⟩
  · omega
 have c2p:=kz c2
 obtain rfl:k=6:=by omega
 subst hI13
 refine Bg (AW (AW (Ah ?_)))
 refine AB (.t3 0 2 4) ?_
 refine AA (Gs (Gm J (Gm J ?_)))
 refine Ak J EV (.c J (.c J .n)) (.c .h (.c .h .n)) (Bi _ _ _ _ (by assumption) (by first | exact hb | (rw [hXb];exact hb)) (by(try simp only [AE.CM,AE.Cn,(AE.H2 _ _ _).2.2] at *);(try dsimp only at *);omega)) (fun v7 B hv=>?_)
 obtain⟨y8,rfl,y9,rfl⟩:=hv
 refine Gn (.t2 0 2) (Aq (Aq ?_))
 refine BE (N:=8) [0,1,3,7,0,16,63,127] mix (by kernel_rfl) J ?_
 refine Pf 0 J (AF J) (Pf 1 J (Bb J) (Pf 2 J (Al BB J) (Pf 3 J (AZ J Bf .m0 Af.l0 J) (Pf 4 J (Al DE J) (Pf 5 J (AI J A8 .m3 Am.l3 J J) ?_)))))
 refine Aj 6 J (by kernel_rfl) ?_
 refine Ak J TX (.c J (.c J (.c J .n))) .n (FU _ _ _) (fun v10 B hv=>?_)
 obtain⟨y11,rfl,y12,rfl⟩:=hv
 refine Bu J ⟨?_,?_⟩
 · exact(Pk (Pk (Pk (Pk (Pk (Pk As))))))
 refine Pf 7 J (A0 J) ?_
 refine A2 (by kernel_rfl) ?_
 refine AB (.t2 0 7) ?_
 refine AA (Gs (Gm J (Gt (Au J Tryz.underlying169 J) (Gt (Cs J J) (Gn (.t3 0 7 75) ?_)))))
 refine Gc (fun c5=>?_) (fun c5=>?_)
 ·
  have c5p:=kz c5
  rw [y12] at c5
  refine AJ (Gm J (Gm J ?_))
  refine Ak J dN (.c J (.c J (.c J .n))) (.c (.t .h) (.c (.t .h) (.c .h .n))) (MR _ T.KG _ [72,101,114,101,32,105,115] _ (T.w.has 0 T.me.room) (by assumption) hb (by assumption) (AH.Iw _ _ _) (fun i hi=>AH.GD hi) hw (by decide) (by rw [(AE.V9 T).2.2];omega)) (fun v14 B hv=>?_)
  obtain⟨y15,rfl,y16,rfl⟩:=hv
  refine Gn (.t1 0) (Gs (Gm J (AR (AA (Ag ?_)))))
  refine Bw (.t2 79 0) ?_
  refine Be (.t .h) ?_
  refine Be (.t .h) ?_
  refine Dx (fun(k:Int) (X:AE) (h:Hd)=>0≤k∧k≤6∧X=T.ES.F0 k.toNat∧h.len=X.out.length) (fun(k:Int) (X:AE) (h:Hd)=>(6 - k).toNat) (fun(k:Int) (X:AE) (h:Hd)=> [(79, .int .i64 k)]) (fun(k:Int) (X:AE) (h:Hd)=> [Ab.box b 163 (Af.enc ⟨X.w,X.b,h⟩),Ab.own h 56 16 (X.out.flatMap Ing.Event.enc)]) (0) (_) (_) ?_ J J (fun k X h hI2=>?_)
  · exact⟨by omega,by omega,(show T.ES=_ from BG c5).symm,by assumption⟩
  obtain⟨hI21,hI22,hI23,hI24⟩:=hI2
  refine Gs (Gt (BA J J) (AR (AA (Aq ?_))))
  refine Gc (fun c6=>?_) (fun c6=>?_)
  ·
   have c6p:=kz c6
   have hnb:=hw.be k
   have hXl:=AE.K5 T.ES k.toNat
   have hBl:=AE.R8 T
   rw [← hI23] at hXl
   have hXw:X.w=T.w:=hXl.1.trans hBl.1
   have hXb:X.b=T.b:=hXl.2.1.trans hBl.2.1
   rw [← hXw] at hnb
   refine Aa ?_
   refine AB (.t2 0 79) ?_
   refine AA (Aq (Ag (Gs (Gm J (Ga J (Gn (.t3 0 8 79) (Aq ?_)))))))
   refine BE (N:=18) [0,0,2,6,14,31,63,127,255,511,1023,127,2175,6271,14463,127,65535,131071] mix (by kernel_rfl) J ?_
   refine Pf 0 J (AF J) (Pf 1 J (AF J) (Pf 2 J (Bb J) (Pf 3 J (Al Cb J) (Pf 4 J (AI J A8 .m0 Af.l1 J J) (Pf 5 J (Cm J J) (Pf 6 J (AF J) (NX 7 88 J J J (fun q=>AF J) ?_)))))))
   refine NX 8 88 J J J (fun q=>Bb (Bo J q)) (NX 9 88 J J J (fun q=>Al BB (Bo J q)) (NX 10 88 J J J (fun q=>AZ (Bo J q) Bf .m0 Af.l0 J) (NX 11 88 J J J (fun q=>AF J) (NX 12 88 J J J (fun q=>Bb (Bo J q)) (NX 13 88 J J J (fun q=>Al Cb (Bo J q)) (NX 14 88 J J J (fun q=>AI (Bo J q) A8 .m0 Af.l1 J J) (NX 15 88 J J J (fun q=>AF J) ?_)))))))
   refine BI 16 J J (by kernel_rfl) (UC (t:=88) J J (fun q=>J4 (D0 QV (.c (Bo J q) (.c (Bo J q) (.c (Bo J q) .n))) (fun w hS=>Dd _ _ _ w)))) ?_
   refine Pf 17 J (BQ J J (fun h=>h)) ?_
   refine A2 (by kernel_rfl) ?_
   refine AB (.t4 0 8 79 99) ?_
   refine AA ?_
   refine Gc (fun c7=>?_) (fun c7=>?_)
   ·
    have c7p:=kz c7
    have cp7:(!decide (k=T.ES.b) && T.ES.w.JW T.ES.b k)=true:=by rw [hBl.1,hBl.2.1,← hXw,← hXb];exact c7
    refine AJ (Gm J (Gm J (Gm J (Gt (Bb J) (Gt (Al BB J) (Gt (Al Bx J) ?_))))))
    refine Gt (AQ DI J J (by(try dsimp only at *);(try simp only [List.length_append,List.length_cons,List.length_nil]);omega) (by(try dsimp only at *);(try simp only [List.length_append,List.length_cons,List.length_nil]);omega)) ?_
    refine Gt (Al Li J) ?_
    refine Gt (AI J CO .m0 (((Af.l0.comp AH.l2).comp (AU.arr (n:=6) Am.fl (by(try dsimp only at *);(try simp only [List.length_append,List.length_cons,List.length_nil]);omega) (by(try dsimp only at *);(try simp only [List.length_append,List.length_cons,List.length_nil]);omega))).comp Am.l0) J J) ?_
    refine Gt (CJ J J (by(try dsimp only at *);(try simp only [List.length_append,List.length_cons,List.length_nil]);omega)) ?_
    refine Ak J EV (.c J (.c J .n)) (.c .h (.c .h .n)) (Bi _ _ _ _ (by assumption) (by first | exact hb | (rw [hXb];exact hb)) (by(try simp only [AE.CM,AE.Cn,(AE.H2 _ _ _).2.2] at *);(try dsimp only at *);omega)) (fun v17 B hv=>?_)
    obtain⟨y18,rfl,y19,rfl⟩:=hv
    refine AR (AB (.t2 0 79) ?_)
    refine AV (AA (AJ ?_))
    refine Gt (Ay J J (IntWalk.i64_in _ (by(try dsimp only at *);(try simp only [List.length_append,List.length_cons,List.length_nil]);omega))) ?_
    refine Gm J ?_
    refine AR (AB (.t2 0 79) ?_)
    refine B2 (k+1) _ _ ?_ ?_ (.t2 79 0) (.refl _)
    · exact⟨by omega,by omega,by rw [AE.Jp hI21,BG cp7,← hI23,hBl.1,← hXw],by assumption⟩
    · omega
   have c7p:=kz c7
   have cp7:(!decide (k=T.ES.b) && T.ES.w.JW T.ES.b k)=false:=by rw [hBl.1,hBl.2.1,← hXw,← hXb];exact c7
   refine Aa ?_
   refine AB (.t2 0 79) ?_
   refine AV (AA (AJ ?_))
   refine Gt (Ay J J (IntWalk.i64_in _ (by(try dsimp only at *);(try simp only [List.length_append,List.length_cons,List.length_nil]);omega))) ?_
   refine Gm J ?_
   refine AR (AB (.t2 0 79) ?_)
   refine B2 (k+1) _ _ ?_ ?_ (.t2 79 0) (.refl _)
   · exact⟨by omega,by omega,by rw [AE.Jp hI21,AX cp7,← hI23],by assumption⟩
   · omega
  have c6p:=kz c6
  obtain rfl:k=6:=by omega
  refine Bg (AW (AW (Ah ?_)))
  refine Bs J .n ?_
  intro w1 hS
  have hS:=(hS.perm (Ax.perm (.c .h (.c .h .n)))).A5
  have hq:T.look=X:=(show T.look=_ from AX c1).trans hI23.symm
  refine⟨_,⟨?gqc6,J,?hlc6,?hBc6⟩,hS⟩
  case hBc6=>rw [hq]
  case hlc6=>rw [hq];assumption
 have c5p:=kz c5
 rw [y12] at c5
 refine Aa ?_
 refine AB (.t1 0) ?_
 refine AA (Gs (Gm J (AR (AA (Ag ?_)))))
 refine Bw (.t2 79 0) ?_
 refine Be (.t (.t .h)) ?_
 refine Be (.t (.t .h)) ?_
 refine Dx (fun(k:Int) (X:AE) (h:Hd)=>0≤k∧k≤6∧X=T.ES.F0 k.toNat∧h.len=X.out.length) (fun(k:Int) (X:AE) (h:Hd)=>(6 - k).toNat) (fun(k:Int) (X:AE) (h:Hd)=> [(79, .int .i64 k)]) (fun(k:Int) (X:AE) (h:Hd)=> [Ab.box b 163 (Af.enc ⟨X.w,X.b,h⟩),Ab.own h 56 16 (X.out.flatMap Ing.Event.enc)]) (0) (_) (_) ?_ J J (fun k X h hI2=>?_)
 · exact⟨by omega,by omega,(show T.ES=_ from AX c5).symm,by assumption⟩
 obtain⟨hI21,hI22,hI23,hI24⟩:=hI2
 refine Gs (Gt (BA J J) (AR (AA (Aq ?_))))
 refine Gc (fun c8=>?_) (fun c8=>?_)
 ·
  have c8p:=kz c8
  have hnb:=hw.be k
  have hXl:=AE.K5 T.ES k.toNat
  have hBl:=AE.R8 T
  rw [← hI23] at hXl
  have hXw:X.w=T.w:=hXl.1.trans hBl.1
  have hXb:X.b=T.b:=hXl.2.1.trans hBl.2.1
  rw [← hXw] at hnb
  refine Aa ?_
  refine AB (.t2 0 79) ?_
  refine AA (Aq (Ag (Gs (Gm J (Ga J (Gn (.t3 0 8 79) (Aq ?_)))))))
  refine BE (N:=18) [0,0,2,6,14,31,63,127,255,511,1023,127,2175,6271,14463,127,65535,131071] mix (by kernel_rfl) J ?_
  refine Pf 0 J (AF J) (Pf 1 J (AF J) (Pf 2 J (Bb J) (Pf 3 J (Al Cb J) (Pf 4 J (AI J A8 .m0 Af.l1 J J) (Pf 5 J (Cm J J) (Pf 6 J (AF J) (NX 7 88 J J J (fun q=>AF J) ?_)))))))
  refine NX 8 88 J J J (fun q=>Bb (Bo J q)) (NX 9 88 J J J (fun q=>Al BB (Bo J q)) (NX 10 88 J J J (fun q=>AZ (Bo J q) Bf .m0 Af.l0 J) (NX 11 88 J J J (fun q=>AF J) (NX 12 88 J J J (fun q=>Bb (Bo J q)) (NX 13 88 J J J (fun q=>Al Cb (Bo J q)) (NX 14 88 J J J (fun q=>AI (Bo J q) A8 .m0 Af.l1 J J) (NX 15 88 J J J (fun q=>AF J) ?_)))))))
  refine BI 16 J J (by kernel_rfl) (UC (t:=88) J J (fun q=>J4 (D0 QV (.c (Bo J q) (.c (Bo J q) (.c (Bo J q) .n))) (fun w hS=>Dd _ _ _ w)))) ?_
  refine Pf 17 J (BQ J J (fun h=>h)) ?_
  refine A2 (by kernel_rfl) ?_
  refine AB (.t4 0 8 79 99) ?_
  refine AA ?_
  refine Gc (fun c9=>?_) (fun c9=>?_)
  ·
   have c9p:=kz c9
   have cp7:(!decide (k=T.ES.b) && T.ES.w.JW T.ES.b k)=true:=by rw [hBl.1,hBl.2.1,← hXw,← hXb];exact c9
   refine AJ (Gm J (Gm J (Gm J (Gt (Bb J) (Gt (Al BB J) (Gt (Al Bx J) ?_))))))
   refine Gt (AQ DI J J (by(try dsimp only at *);(try simp only [List.length_append,List.length_cons,List.length_nil]);omega) (by(try dsimp only at *);(try simp only [List.length_append,List.length_cons,List.length_nil]);omega)) ?_
   refine Gt (Al Li J) ?_
   refine Gt (AI J CO .m0 (((Af.l0.comp AH.l2).comp (AU.arr (n:=6) Am.fl (by(try dsimp only at *);(try simp only [List.length_append,List.length_cons,List.length_nil]);omega) (by(try dsimp only at *);(try simp only [List.length_append,List.length_cons,List.length_nil]);omega))).comp Am.l0) J J) ?_
   refine Gt (CJ J J (by(try dsimp only at *);(try simp only [List.length_append,List.length_cons,List.length_nil]);omega)) ?_
   refine Ak J EV (.c J (.c J .n)) (.c .h (.c .h .n)) (Bi _ _ _ _ (by assumption) (by first | exact hb | (rw [hXb];exact hb)) (by(try simp only [AE.CM,AE.Cn,(AE.H2 _ _ _).2.2] at *);(try dsimp only at *);omega)) (fun v20 B hv=>?_)
   obtain⟨y21,rfl,y22,rfl⟩:=hv
   refine AR (AB (.t2 0 79) ?_)
   refine AV (AA (AJ ?_))
   refine Gt (Ay J J (IntWalk.i64_in _ (by(try dsimp only at *);(try simp only [List.length_append,List.length_cons,List.length_nil]);omega))) ?_
   refine Gm J ?_
   refine AR (AB (.t2 0 79) ?_)
   refine B2 (k+1) _ _ ?_ ?_ (.t2 79 0) (.refl _)
   · exact⟨by omega,by omega,by rw [AE.Jp hI21,BG cp7,← hI23,hBl.1,← hXw],by assumption⟩
   · omega
  have c9p:=kz c9
  have cp7:(!decide (k=T.ES.b) && T.ES.w.JW T.ES.b k)=false:=by rw [hBl.1,hBl.2.1,← hXw,← hXb];exact c9
  refine Aa ?_
  refine AB (.t2 0 79) ?_
  refine AV (AA (AJ ?_))
  refine Gt (Ay J J (IntWalk.i64_in _ (by(try dsimp only at *);(try simp only [List.length_append,List.length_cons,List.length_nil]);omega))) ?_
  refine Gm J ?_
  refine AR (AB (.t2 0 79) ?_)
  refine B2 (k+1) _ _ ?_ ?_ (.t2 79 0) (.refl _)
  · exact⟨by omega,by omega,by rw [AE.Jp hI21,AX cp7,← hI23],by assumption⟩
  · omega
 have c8p:=kz c8
 obtain rfl:k=6:=by omega
 refine Bg (AW (AW (Ah ?_)))
 refine Bs J .n ?_
 intro w1 hS
 have hS:=(hS.perm (Ax.perm (.c .h (.c .h .n)))).A5
 have hq:T.look=X:=(show T.look=_ from AX c1).trans hI23.symm
 refine⟨_,⟨?gqc8,J,?hlc8,?hBc8⟩,hS⟩
 case hBc8=>rw [hq]
 case hlc8=>rw [hq];assumption
theorem NG (X:AH)(s:Ad)(hw:X.DV)(hs:s.length≤100000000):FO Tryz.prog 114 #[.agg X.enc.toArray,BW s] [] (fun w=>(GV 0 AH.DU w∧0 ∉ Ch [])) (fun v B=>∃ h:Hd,v = .tuple #[.agg ((AE.Bc X s).1.enc).toArray, .int .i64 (AE.Bc X s).2.1,h.val, .int .i64 (AE.Bc X s).2.2.2]∧h.len=(AE.Bc X s).2.2.1.length∧B = [Ab.own h 56 16 ((AE.Bc X s).2.2.1.flatMap Ing.Event.enc)]):=by
 intro w hS0 hH
 obtain⟨gl0,gm0⟩:=hH
 refine Ap _ _ Tryz.func114 J J J (hS0) ?_
 refine Gs ?_
 refine CB J J J (fun b1=>?_)
 refine BJ J N8 J (fun b2=>?_)
 refine Ga J (Ga J (Ga J (Gn (.t3 1 2 4) (CL (Gt (AZ J Bf .m1 (AU.id AH.fl.len AH.fl.one) J) ?_)))))
 refine BC J dh (.c J .n) (fun w hS=>H6 _ w) ?_
 refine Gt (BZ J) (Gn (.t4 1 2 4 14) ?_)
 refine Gc (fun c1=>?_) (fun c1=>?_)
 ·
  refine Gs (Gt (AZ J Bf .m1 (AU.id AH.fl.len AH.fl.one) J) ?_)
  refine AT (AL (AU.id AH.fl.len AH.fl.one) J J J EP J .h) ?_
  refine Ga J (Ga J (Ga J (Gn (.t4 4 5 6 7) (Ac (AD ?_)))))
  refine AY J (.cell J .m0 (.inl ⟨(by rw [AH.fl.len];exact Bf),J⟩) (.tmp J (.tmp J (.tmp J .n)))) ?_
  intro w1 hS
  have hS:=hS.Cx 56 16
  have hS:=(hS.perm (Ax.perm (.c .h .n))).A5
  have hq:AE.Bc X s=_:=BG c1
  refine⟨_,⟨⟨none,0,0⟩,?hv,?hl,?hB⟩,hS⟩
  case hv=>rw [hq];rfl
  case hl=>rw [hq];rfl
  case hB=>rw [hq];rfl
 have c1p:=kz c1
 refine Aa ?_
 refine AB (.t3 1 2 4) ?_
 refine AA (CL (Gm J ?_))
 refine BC J ix (.c J .n) (fun w hS=>NT _ (by first | assumption | omega) w) ?_
 refine Gt (BZ J) (Gn (.t4 1 2 4 18) ?_)
 refine Gc (fun c2=>?_) (fun c2=>?_)
 ·
  refine Gs (Gt (AZ J Bf .m1 (AU.id AH.fl.len AH.fl.one) J) ?_)
  refine AT (AL (AU.id AH.fl.len AH.fl.one) J J J EP J .h) ?_
  refine Ga J (Ga J (Ga J (Gn (.t4 4 5 6 7) (Ac (AD ?_)))))
  refine AY J (.cell J .m0 (.inl ⟨(by rw [AH.fl.len];exact Bf),J⟩) (.tmp J (.tmp J (.tmp J .n)))) ?_
  intro w1 hS
  have hS:=hS.Cx 56 16
  have hS:=(hS.perm (Ax.perm (.c .h .n))).A5
  have hq:AE.Bc X s=_:=(AX c1).trans (BG c2)
  refine⟨_,⟨⟨none,0,0⟩,?hv,?hl,?hB⟩,hS⟩
  case hv=>rw [hq];rfl
  case hl=>rw [hq];rfl
  case hB=>rw [hq];rfl
 have c2p:=kz c2
 refine Aa ?_
 refine AB (.t3 1 2 4) ?_
 refine AA (CL (Gt (Al Bx J) (Gt (AZ J da .m1 AH.l2 J) (Gm J (Gn (.t5 1 2 4 21 22) (Ag ?_))))))
 refine Bw (.t5 22 1 2 4 21) ?_
 refine Ck (fun(k:Int)=>0≤k∧k≤6∧CD 6 (fun k=>!AE.JH X s k) 6=CD 6 (fun k=>!AE.JH X s k) (6 - k).toNat) (fun(k:Int)=>(6 - k).toNat) (fun(k:Int)=> [(22, .int .i64 k)]) (fun(k:Int)=> []) (0) ?_ J J (fun k hI1=>?_)
 · exact⟨by omega,by omega,rfl⟩
 obtain⟨hI11,hI12,hI13⟩:=hI1
 refine Gs (Gt (BA J J) (AR (AA (Aq ?_))))
 refine Gc (fun c3=>?_) (fun c3=>?_)
 ·
  have c3p:=kz c3
  refine Aa ?_
  refine AB (.t5 1 2 4 21 22) ?_
  refine AA (Aq (Ag (Gs ?_)))
  refine Gt (Gg Am.fl Tryz.underlying33 GM J J (by first | omega | exact hb.1 | exact hb.2 | (dsimp only;omega)) (by first | omega | exact hb.1 | exact hb.2 | (dsimp only;omega))) ?_
  refine BJ J MX J (fun b3=>?_)
  refine AT (AL (AU.id Am.fl.len Am.fl.one) J J J LH J .h) ?_
  refine Gn (.t6 1 2 4 9 21 22) (Gs (Gt (Al JA J) (Gt (AI J D3 .m0 Am.l1 J J) (Gm J (Bp 27 J J (fun q=>Al Li J) (Bp 27 J J (fun q=>AI (Bo J q) CO .m0 Am.l0 J J) (Bp 27 J J (fun q=>AF J) ?_)))))))
  refine Bp 27 J J (fun q=>B4 (Bo J q) (Bo J q)) (Gt (BQ J J (fun h=>h)) (Gn (.t6 1 2 4 21 22 32) ?_))
  refine Gc (fun c4=>?_) (fun c4=>?_)
  ·
   have c4p:=kz c4
   refine Gs (Gt (AZ J Bf .m2 (AU.id AH.fl.len AH.fl.one) J) ?_)
   refine AT (AL (AU.id AH.fl.len AH.fl.one) J J J EP J (.t .h)) ?_
   refine Ga J (Ga J (Ga J (Gn (.t4 4 5 6 7) (Ac (AS (AD (AD ?_)))))))
   refine AS (AD ?_)
   refine AY J (.cell J .m1 (.inl ⟨(by rw [AH.fl.len];exact Bf),J⟩) (.tmp J (.tmp J (.tmp J .n)))) ?_
   intro w1 hS
   have hS:=hS.Cx 56 16
   have hS:=(hS.perm (Ax.perm (.c .h .n))).A5
   have ha:(!CD 6 (fun k=>!AE.JH X s k) 6)=true:=by rw [hI13,Dn (fun k=>!AE.JH X s k) (show k < 6 by omega),show AE.JH X s k=true from c4];rfl
   have hq:AE.Bc X s=_:=(AX c1).trans ((AX c2).trans (BG ha))
   refine⟨_,⟨⟨none,0,0⟩,?hv,?hl,?hB⟩,hS⟩
   case hv=>rw [hq];rfl
   case hl=>rw [hq];rfl
   case hB=>rw [hq];rfl
  have c4p:=kz c4
  refine Aa ?_
  refine AB (.t5 1 2 4 21 22) ?_
  refine AV (AA (AJ ?_))
  refine Gt (Ay J J (IntWalk.i64_in _ (by first | omega | exact hb.1 | exact hb.2 | (dsimp only;omega)))) ?_
  refine Gm J ?_
  refine AR (AB (.t5 1 2 4 21 22) ?_)
  refine CC (k+1) ?_ ?_ (.t5 22 1 2 4 21) (.cons _ (.refl _))
  · exact⟨by omega,by omega,by rw [hI13,Dn (fun k=>!AE.JH X s k) (show k < 6 by omega),show AE.JH X s k=false from c4];rfl⟩
  · omega
 have c3p:=kz c3
 have hno:(!CD 6 (fun k=>!AE.JH X s k) 6)=false:=by rw [hI13,show(6 - k).toNat=0 by omega];rfl
 refine Bg (AW (AW (Ah ?_)))
 refine AB (.t3 1 2 4) ?_
 refine AA (CL (Ga J (AR (AA (Ag ?_)))))
 refine Bw (.t4 10 1 2 4) ?_
 refine Ck (fun(k:Int)=>2≤k∧k≤6∧AE.CP X 6=AE.CP X (5 - (k - 1)).toNat) (fun(k:Int)=>(6 - k).toNat) (fun(k:Int)=> [(10, .int .i64 k)]) (fun(k:Int)=> []) (2) ?_ J J (fun k hI2=>?_)
 · exact⟨by omega,by omega,AE.YS X⟩
 obtain⟨hI21,hI22,hI23⟩:=hI2
 refine CL (Gm J (Gt (BA J J) (Gn (.t5 1 2 4 10 36) ?_)))
 refine Gc (fun c5=>?_) (fun c5=>?_)
 ·
  have c5p:=kz c5
  refine Aa ?_
  refine AB (.t4 1 2 4 10) ?_
  refine AA (Aq (Ag (Gs (Gm J (Gt (Al Bx J) ?_)))))
  refine Gt (AQ DI J J (by first | omega | exact hb.1 | exact hb.2 | (dsimp only;omega)) (by first | omega | exact hb.1 | exact hb.2 | (dsimp only;omega))) ?_
  refine Gt (Al JA J) ?_
  refine Gt (AI J D3 .m1 ((AH.l2.comp (AU.ar (n:=6) Am.fl (by first | omega | exact hb | (dsimp only;omega)))).comp Am.l1) J J) ?_
  refine Gt (BZ J) (Gn (.t5 1 2 4 10 44) ?_)
  refine Gc (fun c6=>?_) (fun c6=>?_)
  ·
   have c6p:=kz c6
   have hF:=AE.Q1 (s:=s) (by simpa using c1) hw (by omega) (show 0≤k by omega) (show k < 6 by omega)
   have hb:=hF.b
   refine Gs (Gt (AZ J Bf .m1 (AU.id AH.fl.len AH.fl.one) J) (Gm J (Gt (BF Wk Wd J (.cons Af.l0 J J J (.cons Af.l1 J J J .nil))) ?_)))
   refine CB J J J (fun b4=>?_)
   refine Ga J (Gn (.t4 1 4 10 11) (Gs (Gm J (Gm J (Gm J (Gt (BF Yk MX J (.cons Am.l0 J J J (.cons Am.l1 J J J (.cons Am.l4 J J J .nil)))) (Gt (Bb J) ?_)))))))
   refine Gt (Al BB J) (Gt (Al Bx J) ?_)
   refine Gt (AQ DI J J (by first | omega | exact hb.1 | exact hb.2 | (dsimp only;omega)) (by first | omega | exact hb.1 | exact hb.2 | (dsimp only;omega))) ?_
   refine AT (AL ((Af.l0.comp AH.l2).comp (AU.ar (n:=6) Am.fl (by first | omega | exact hb | (dsimp only;omega)))) J J J LH J .h) ?_
   refine Gn (.t3 4 10 11) (Gs (Gm J ?_))
   refine Dy Ing.Event.enc 56 16 ?_
   refine Ak J Wv (.c J (.c J .n)) (.c (.t .h) (.c .h .n)) (G4 _ (⟨X.C1 k (AE.I5 s),k,[]⟩:AE) _ 17 J hb (Nat.zero_le _)) (fun v5 B hv=>?_)
   obtain⟨y6,rfl,y7,rfl⟩:=hv
   refine Gn (.t3 4 10 11) (Gs (Gm J ?_))
   refine BL J WB (.c J .n) (.c .h (.c .h .n)) (Hh _ (AE.kind (⟨X.C1 k (AE.I5 s),k,[]⟩:AE) 17) _ y7 hb hF.br (by decide:(0:Nat)+1≤90000)) (fun w hS=>gl0.pull gm0 hS (.c .h (.c .h .n))) (fun v8 B hv=>?_)
   obtain⟨y9,rfl,y10,rfl⟩:=hv
   refine Gn (.t3 4 10 11) (Aq ?_)
   refine BE (N:=13) [0,1,3,7,0,0,32,96,224,15,543,2047,4095] mix (by kernel_rfl) J ?_
   refine Pf 0 J (AF J) (Pf 1 J (Bb J) (Pf 2 J (Al BB J) (Pf 3 J (AZ J Bf .m0 Af.l0 J) (Pf 4 J (AF J) (Pf 5 J (AF J) (Pf 6 J (Bb J) (Pf 7 J (Al CT J) ?_)))))))
   refine Pf 8 J (AI J D1 .m0 Af.l2 J J) ?_
   refine Aj 9 J (by kernel_rfl) ?_
   refine AT (AL (AU.id AH.fl.len AH.fl.one) J J J EP J (.t (.t .h))) ?_
   refine BO J ⟨?_,?_⟩
   · exact(Po J (AI J D1 .m0 Af.l2 J J) J J (Po J (Al CT J) J J (Po J (Bb J) J J (Po J (AF J) J J (Po J (AF J) J J (Pk (Pk (Pk (Pk As)))))))))
   refine Pf 10 J (A0 J) (Pf 11 J (A0 J) (Pf 12 J (A0 J) ?_))
   refine A2 (by kernel_rfl) ?_
   refine AB (.t4 4 5 6 7) ?_
   refine AA (Ac (AS (AD (AD (AS (AD ?_))))))
   refine AY J (.cell J .m2 (.inl ⟨(by rw [AH.fl.len];exact Bf),J⟩) (.tmp J (.tmp J (.tmp J .n)))) ?_
   intro w1 hS
   have hS:=(hS.perm (Ax.perm (.c (.t .h) .n))).A5
   have hfr:AE.CP X 6=k:=hI23.trans (AE.XS hI21 (by omega) c6)
   have hf0:decide (AE.CP X 6 < 0)=false:=decide_eq_false (by omega)
   have hq:AE.Bc X s=_:=(AX c1).trans ((AX c2).trans ((AX hno).trans (AX hf0)))
   rw [hfr] at hq
   refine⟨_,⟨y9,?hv,?hl,?hB⟩,hS⟩
   case hv=>rw [hq];(try rfl)
   case hl=>rw [hq];exact y10
   case hB=>rw [hq];(try rfl)
  have c6p:=kz c6
  refine Aa ?_
  refine AB (.t4 1 2 4 10) ?_
  refine AV (AA (AJ (Gm J ?_)))
  refine Gt (Ay J J (IntWalk.i64_in _ (by first | omega | exact hb.1 | exact hb.2 | (dsimp only;omega)))) ?_
  refine Ga J ?_
  refine AR (AB (.t4 1 2 4 10) ?_)
  refine CC (k+1) ?_ ?_ (.t4 10 1 2 4) (.refl _)
  · exact⟨by omega,by omega,by rw [hI23,AE.aq hI21 (by omega) c6,show(5 - (k+1 - 1))=5 - k by omega]⟩
  · omega
 have c5p:=kz c5
 obtain rfl:k=6:=by omega
 refine Bg (AW (AW (Ah ?_)))
 refine AB (.t2 2 4) ?_
 refine AA (Gs (Gt (AZ J Bf .m1 (AU.id AH.fl.len AH.fl.one) J) ?_))
 refine AT (AL (AU.id AH.fl.len AH.fl.one) J J J EP J .h) ?_
 refine Ga J (Ga J (Ga J (Gn (.t4 4 5 6 7) (Ac ?_))))
 refine AY J (.cell J .m0 (.inl ⟨(by rw [AH.fl.len];exact Bf),J⟩) (.tmp J (.tmp J (.tmp J .n)))) ?_
 intro w1 hS
 have hS:=hS.Cx 56 16
 have hS:=(hS.perm (Ax.perm (.c .h .n))).A5
 have hf0:decide (AE.CP X 6 < 0)=true:=by rw [hI23];rfl
 have hq:AE.Bc X s=_:=(AX c1).trans ((AX c2).trans ((AX hno).trans (BG hf0)))
 refine⟨_,⟨⟨none,0,0⟩,?hv,?hl,?hB⟩,hS⟩
 case hv=>rw [hq];rfl
 case hl=>rw [hq];rfl
 case hB=>rw [hq];rfl
theorem ON (z:Int)(w:World):Ev Tryz.prog 49 #[.int .i64 z] w fun v w'=>v = .tuple #[BW (AH.form z).1,BW (AH.form z).2]∧CH w w':=by
 refine Ap [] [] Tryz.func49 J J J (St.start w []) ?_
 refine Gs (Ga J (Ga J (Gn (.t1 0) (CL (Gm J (Gn (.t1 4) (Ag ?_)))))))
 refine Gs (Gt (Ai J J) (Ga J (Gn (.t2 4 5) ?_)))
 refine Gc (fun c1=>?_) (fun c1=>?_)
 ·
  refine Gs (Ga J (Ga J (Gn (.t2 2 3) (Ac (AS (AD ?_))))))
  refine AY J (.tmp J (.tmp J .n)) ?_
  intro w1 hS;refine⟨?_,hS.Ao⟩;rw [show AH.form z=_ from(BG c1)];rfl
 refine Gs (Gt (Ai J J) (Ga J (Gn (.t2 4 7) ?_)))
 refine Gc (fun c2=>?_) (fun c2=>?_)
 ·
  refine Gs (Ga J (Ga J (Gn (.t2 2 3) (Ac (AS (AD ?_))))))
  refine AY J (.tmp J (.tmp J .n)) ?_
  intro w1 hS;refine⟨?_,hS.Ao⟩;rw [show AH.form z=_ from((AX c1).trans (BG c2))];rfl
 refine Gs (Gt (Ai J J) (Ga J (Gn (.t2 4 9) ?_)))
 refine Gc (fun c3=>?_) (fun c3=>?_)
 ·
  refine Gs (Ga J (Ga J (Gn (.t2 2 3) (Ac (AS (AD ?_))))))
  refine AY J (.tmp J (.tmp J .n)) ?_
  intro w1 hS;refine⟨?_,hS.Ao⟩;rw [show AH.form z=_ from((AX c1).trans ((AX c2).trans (BG c3)))];rfl
 refine Gs (Gt (Ai J J) (Ga J (Gn (.t2 4 11) ?_)))
 refine Gc (fun c4=>?_) (fun c4=>?_)
 ·
  refine Gs (Ga J (Ga J (Gn (.t2 2 3) (Ac (AS (AD ?_))))))
  refine AY J (.tmp J (.tmp J .n)) ?_
  intro w1 hS;refine⟨?_,hS.Ao⟩;rw [show AH.form z=_ from((AX c1).trans ((AX c2).trans ((AX c3).trans (BG c4))))];rfl
 refine Gs (Gt (Ai J J) (Ga J (Gn (.t2 4 13) ?_)))
 refine Gc (fun c5=>?_) (fun c5=>?_)
 ·
  refine Gs (Ga J (Ga J (Gn (.t2 2 3) (Ac (AS (AD ?_))))))
  refine AY J (.tmp J (.tmp J .n)) ?_
  intro w1 hS;refine⟨?_,hS.Ao⟩;rw [show AH.form z=_ from((AX c1).trans ((AX c2).trans ((AX c3).trans ((AX c4).trans (BG c5)))))];rfl
 refine Gs (Gt (Ai J J) (Ga J (Gn (.t2 4 15) ?_)))
 refine Gc (fun c6=>?_) (fun c6=>?_)
 ·
  refine Gs (Ga J (Ga J (Gn (.t2 2 3) (Ac (AS (AD ?_))))))
  refine AY J (.tmp J (.tmp J .n)) ?_
  intro w1 hS;refine⟨?_,hS.Ao⟩;rw [show AH.form z=_ from((AX c1).trans ((AX c2).trans ((AX c3).trans ((AX c4).trans ((AX c5).trans (BG c6))))))];rfl
 refine Gs (Gt (Ai J J) (Ga J (Gn (.t2 4 17) ?_)))
 refine Gc (fun c7=>?_) (fun c7=>?_)
 ·
  refine Gs (Ga J (Ga J (Gn (.t2 2 3) (Ac (AS (AD ?_))))))
  refine AY J (.tmp J (.tmp J .n)) ?_
  intro w1 hS;refine⟨?_,hS.Ao⟩;rw [show AH.form z=_ from((AX c1).trans ((AX c2).trans ((AX c3).trans ((AX c4).trans ((AX c5).trans ((AX c6).trans (BG c7)))))))];rfl
 refine Gs (Gt (Ai J J) (Ga J (Gn (.t2 4 19) ?_)))
 refine Gc (fun c8=>?_) (fun c8=>?_)
 ·
  refine Gs (Ga J (Ga J (Gn (.t2 2 3) (Ac (AS (AD ?_))))))
  refine AY J (.tmp J (.tmp J .n)) ?_
  intro w1 hS;refine⟨?_,hS.Ao⟩;rw [show AH.form z=_ from((AX c1).trans ((AX c2).trans ((AX c3).trans ((AX c4).trans ((AX c5).trans ((AX c6).trans ((AX c7).trans (BG c8))))))))];rfl
 refine Gs (Gt (Ai J J) (Ga J (Gn (.t2 4 21) ?_)))
 refine Gc (fun c9=>?_) (fun c9=>?_)
 ·
  refine Gs (Ga J (Ga J (Gn (.t2 2 3) (Ac (AS (AD ?_))))))
  refine AY J (.tmp J (.tmp J .n)) ?_
  intro w1 hS;refine⟨?_,hS.Ao⟩;rw [show AH.form z=_ from((AX c1).trans ((AX c2).trans ((AX c3).trans ((AX c4).trans ((AX c5).trans ((AX c6).trans ((AX c7).trans ((AX c8).trans (BG c9)))))))))];rfl
 refine Gs (Gt (Ai J J) (Ga J (Gn (.t2 4 23) ?_)))
 refine Gc (fun c10=>?_) (fun c10=>?_)
 ·
  refine Gs (Ga J (Ga J (Gn (.t2 2 3) (Ac (AS (AD ?_))))))
  refine AY J (.tmp J (.tmp J .n)) ?_
  intro w1 hS;refine⟨?_,hS.Ao⟩;rw [show AH.form z=_ from((AX c1).trans ((AX c2).trans ((AX c3).trans ((AX c4).trans ((AX c5).trans ((AX c6).trans ((AX c7).trans ((AX c8).trans ((AX c9).trans (BG c10))))))))))];rfl
 refine Gs (Gt (Ai J J) (Ga J (Gn (.t2 4 25) ?_)))
 refine Gc (fun c11=>?_) (fun c11=>?_)
 ·
  refine Gs (Ga J (Ga J (Gn (.t2 2 3) (Ac (AS (AD ?_))))))
  refine AY J (.tmp J (.tmp J .n)) ?_
  intro w1 hS;refine⟨?_,hS.Ao⟩;rw [show AH.form z=_ from((AX c1).trans ((AX c2).trans ((AX c3).trans ((AX c4).trans ((AX c5).trans ((AX c6).trans ((AX c7).trans ((AX c8).trans ((AX c9).trans ((AX c10).trans (BG c11)))))))))))];rfl
 refine Gs (Gt (Ai J J) (Ga J (Gn (.t2 4 27) ?_)))
 refine Gc (fun c12=>?_) (fun c12=>?_)
 ·
  refine Gs (Ga J (Ga J (Gn (.t2 2 3) (Ac (AS (AD ?_))))))
  refine AY J (.tmp J (.tmp J .n)) ?_
  intro w1 hS;refine⟨?_,hS.Ao⟩;rw [show AH.form z=_ from((AX c1).trans ((AX c2).trans ((AX c3).trans ((AX c4).trans ((AX c5).trans ((AX c6).trans ((AX c7).trans ((AX c8).trans ((AX c9).trans ((AX c10).trans ((AX c11).trans (BG c12))))))))))))];rfl
 refine Gs (Gt (Ai J J) (Ga J (Gn (.t2 4 29) ?_)))
 refine Gc (fun c13=>?_) (fun c13=>?_)
 ·
  refine Gs (Ga J (Ga J (Gn (.t2 2 3) (Ac (AS (AD ?_))))))
  refine AY J (.tmp J (.tmp J .n)) ?_
  intro w1 hS;refine⟨?_,hS.Ao⟩;rw [show AH.form z=_ from((AX c1).trans ((AX c2).trans ((AX c3).trans ((AX c4).trans ((AX c5).trans ((AX c6).trans ((AX c7).trans ((AX c8).trans ((AX c9).trans ((AX c10).trans ((AX c11).trans ((AX c12).trans (BG c13)))))))))))))];rfl
 refine Gs (Gt (Ai J J) (Ga J (Gn (.t2 4 31) ?_)))
 refine Gc (fun c14=>?_) (fun c14=>?_)
 ·
  refine Gs (Ga J (Ga J (Gn (.t2 2 3) (Ac (AS (AD ?_))))))
  refine AY J (.tmp J (.tmp J .n)) ?_
  intro w1 hS;refine⟨?_,hS.Ao⟩;rw [show AH.form z=_ from((AX c1).trans ((AX c2).trans ((AX c3).trans ((AX c4).trans ((AX c5).trans ((AX c6).trans ((AX c7).trans ((AX c8).trans ((AX c9).trans ((AX c10).trans ((AX c11).trans ((AX c12).trans ((AX c13).trans (BG c14))))))))))))))];rfl
 refine Gs (Gt (Ai J J) (Ga J (Gn (.t2 4 33) ?_)))
 refine Gc (fun c15=>?_) (fun c15=>?_)
 ·
  refine Gs (Ga J (Ga J (Gn (.t2 2 3) (Ac (AS (AD ?_))))))
  refine AY J (.tmp J (.tmp J .n)) ?_
  intro w1 hS;refine⟨?_,hS.Ao⟩;rw [show AH.form z=_ from((AX c1).trans ((AX c2).trans ((AX c3).trans ((AX c4).trans ((AX c5).trans ((AX c6).trans ((AX c7).trans ((AX c8).trans ((AX c9).trans ((AX c10).trans ((AX c11).trans ((AX c12).trans ((AX c13).trans ((AX c14).trans (BG c15)))))))))))))))];rfl
 refine Gs (Gt (Ai J J) (Ga J (Gn (.t2 4 35) ?_)))
 refine Gc (fun c16=>?_) (fun c16=>?_)
 ·
  refine Gs (Ga J (Ga J (Gn (.t2 2 3) (Ac (AS (AD ?_))))))
  refine AY J (.tmp J (.tmp J .n)) ?_
  intro w1 hS;refine⟨?_,hS.Ao⟩;rw [show AH.form z=_ from((AX c1).trans ((AX c2).trans ((AX c3).trans ((AX c4).trans ((AX c5).trans ((AX c6).trans ((AX c7).trans ((AX c8).trans ((AX c9).trans ((AX c10).trans ((AX c11).trans ((AX c12).trans ((AX c13).trans ((AX c14).trans ((AX c15).trans (BG c16))))))))))))))))];rfl
 refine Gs (Gt (Ai J J) (Ga J (Gn (.t2 4 37) ?_)))
 refine Gc (fun c17=>?_) (fun c17=>?_)
 ·
  refine Gs (Ga J (Ga J (Gn (.t2 2 3) (Ac (AS (AD ?_))))))
  refine AY J (.tmp J (.tmp J .n)) ?_
  intro w1 hS;refine⟨?_,hS.Ao⟩;rw [show AH.form z=_ from((AX c1).trans ((AX c2).trans ((AX c3).trans ((AX c4).trans ((AX c5).trans ((AX c6).trans ((AX c7).trans ((AX c8).trans ((AX c9).trans ((AX c10).trans ((AX c11).trans ((AX c12).trans ((AX c13).trans ((AX c14).trans ((AX c15).trans ((AX c16).trans (BG c17)))))))))))))))))];rfl
 refine Gs (Gt (Ai J J) (Ga J (Gn (.t1 39) ?_)))
 refine Gc (fun c18=>?_) (fun c18=>?_)
 ·
  refine Gs (Ga J (Ga J (Gn (.t2 2 3) (Ac (AS (AD ?_))))))
  refine AY J (.tmp J (.tmp J .n)) ?_
  intro w1 hS;refine⟨?_,hS.Ao⟩;rw [show AH.form z=_ from((AX c1).trans ((AX c2).trans ((AX c3).trans ((AX c4).trans ((AX c5).trans ((AX c6).trans ((AX c7).trans ((AX c8).trans ((AX c9).trans ((AX c10).trans ((AX c11).trans ((AX c12).trans ((AX c13).trans ((AX c14).trans ((AX c15).trans ((AX c16).trans ((AX c17).trans (BG c18))))))))))))))))))];rfl
 refine Aa ?_
 refine AB (.nil _) ?_
 refine AV (AA (Gs (Ga J (Ga J (AR (AA (Ac ?_)))))))
 refine AY J (.tmp J (.tmp J .n)) ?_
 intro w1 hS;refine⟨?_,hS.Ao⟩;rw [show AH.form z=_ from((AX c1).trans ((AX c2).trans ((AX c3).trans ((AX c4).trans ((AX c5).trans ((AX c6).trans ((AX c7).trans ((AX c8).trans ((AX c9).trans ((AX c10).trans ((AX c11).trans ((AX c12).trans ((AX c13).trans ((AX c14).trans ((AX c15).trans ((AX c16).trans ((AX c17).trans (AX c18))))))))))))))))))];rfl
def Rq:Go.Shelf.Ren:=⟨fun | 171=>53 | 243=>72 | 246=>86 | 283=>108 | 284=>109 | 285=>110 | 286=>111 | 129=>142 | 317=>141 | 318=>143 | 319=>144 | 320=>145 | 337=>162 | 338=>163 | n=>n,fun | 3=>3 | 9=>9 | 2=>2 | 4=>4 | 171=>172 | 0=>0 | 53=>173 | 37=>105 | 5=>5 | 173=>176 | 212=>205 | 51=>178 | 20=>20 | 213=>206 | 46=>140 | 232=>226 | 233=>227 | n=>n,fun | 17=>2 | 18=>3 | 19=>4 | n=>n⟩
theorem Z3:LaysM.n171 Tryz.prog Rq where
  mixed:=by kernel_rfl
  f129:=Tryz.func142.trans (congrArg some (by kernel_rfl))
  f171:=Tryz.func53.trans (congrArg some (by kernel_rfl))
  f243:=Tryz.func72.trans (congrArg some (by kernel_rfl))
  f246:=Tryz.func86.trans (congrArg some (by kernel_rfl))
  f283:=Tryz.func108.trans (congrArg some (by kernel_rfl))
  f284:=Tryz.func109.trans (congrArg some (by kernel_rfl))
  f285:=Tryz.func110.trans (congrArg some (by kernel_rfl))
  f286:=Tryz.func111.trans (congrArg some (by kernel_rfl))
  f317:=Tryz.func141.trans (congrArg some (by kernel_rfl))
  f318:=Tryz.func143.trans (congrArg some (by kernel_rfl))
  f319:=Tryz.func144.trans (congrArg some (by kernel_rfl))
  f320:=Tryz.func145.trans (congrArg some (by kernel_rfl))
  f337:=Tryz.func162.trans (congrArg some (by kernel_rfl))
  f338:=Tryz.func163.trans (congrArg some (by kernel_rfl))
  t0:=Tryz.underlying0
  a0:=Tryz.isAgg0
  z0:=Tryz.sizeOf0
  v0:=Tryz.zeroValue0
  t2:=Tryz.underlying2
  a2:=Tryz.isAgg2
  z2:=Tryz.sizeOf2
  v2:=Tryz.zeroValue2
  t3:=Tryz.underlying3
  a3:=Tryz.isAgg3
  z3:=Tryz.sizeOf3
  v3:=Tryz.zeroValue3
  t4:=Tryz.underlying4
  a4:=Tryz.isAgg4
  z4:=Tryz.sizeOf4
  v4:=Tryz.zeroValue4
  t5:=Tryz.underlying5
  a5:=Tryz.isAgg5
  z5:=Tryz.sizeOf5
  v5:=Tryz.zeroValue5
  t9:=Tryz.underlying9
  a9:=Tryz.isAgg9
  z9:=Tryz.sizeOf9
  v9:=Tryz.zeroValue9
  t20:=Tryz.underlying20
  a20:=Tryz.isAgg20
  z20:=Tryz.sizeOf20
  v20:=Tryz.zeroValue20
  t37:=Tryz.underlying105
  a37:=Tryz.isAgg105
  z37:=Tryz.sizeOf105
  v37:=Tryz.zeroValue105
  t46:=Tryz.underlying140
  a46:=Tryz.isAgg140
  z46:=Tryz.sizeOf140
  v46:=Tryz.zeroValue140
  t51:=Tryz.underlying178
  a51:=Tryz.isAgg178
  z51:=Tryz.sizeOf178
  v51:=Tryz.zeroValue178
  t53:=Tryz.underlying173
  a53:=Tryz.isAgg173
  z53:=Tryz.sizeOf173
  v53:=Tryz.zeroValue173
  t171:=Tryz.underlying172
  a171:=Tryz.isAgg172
  z171:=Tryz.sizeOf172
  v171:=Tryz.zeroValue172
  t173:=Tryz.underlying176
  a173:=Tryz.isAgg176
  z173:=Tryz.sizeOf176
  v173:=Tryz.zeroValue176
  t212:=Tryz.underlying205
  a212:=Tryz.isAgg205
  z212:=Tryz.sizeOf205
  v212:=Tryz.zeroValue205
  t213:=Tryz.underlying206
  a213:=Tryz.isAgg206
  z213:=Tryz.sizeOf206
  t232:=Tryz.underlying226
  a232:=Tryz.isAgg226
  z232:=Tryz.sizeOf226
  v232:=Tryz.zeroValue226
  t233:=Tryz.underlying227
  a233:=Tryz.isAgg227
  z233:=Tryz.sizeOf227
  v233:=Tryz.zeroValue227
  g17:=by kernel_rfl
  g18:=by kernel_rfl
  g19:=by kernel_rfl
  i0:=by kernel_rfl
  i2:=by kernel_rfl
  i3:=by kernel_rfl
  i4:=by kernel_rfl
  i5:=by kernel_rfl
  i9:=by kernel_rfl
  i20:=by kernel_rfl
  i37:=by kernel_rfl
  i46:=by kernel_rfl
  i51:=by kernel_rfl
  i53:=by kernel_rfl
  i171:=by kernel_rfl
  i173:=by kernel_rfl
  i212:=by kernel_rfl
  i232:=by kernel_rfl
  i233:=by kernel_rfl
  m17:=by kernel_rfl
  m18:=by kernel_rfl
  m19:=by kernel_rfl
theorem MP (n:Int)(h0:-9223372036854775808≤n)(hy:n≤9223372036854775807)(w:World)(gl0:GV 2 GJ w):Ev Tryz.prog 53 #[.int .i64 n] w fun v w'=>v=BW (Lib.itoa n)∧CH w w':=
  Ev.bZ (Any.strconv_Itoa Z3 n h0 hy w (VV (by kernel_rfl) gl0))
end Go.Proofs.YtoidpggbbfncpaaGreatDoor

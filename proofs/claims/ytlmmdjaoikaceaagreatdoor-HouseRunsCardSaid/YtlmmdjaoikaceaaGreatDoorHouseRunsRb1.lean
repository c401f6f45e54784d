/- What the functions that the law of this seat reaches compute, and the plain laws of it. No condition. -/
import Derived.Test.YtlmmdjaoikaceaaGreatDoorHouseRunsEc3
import Derived.Test.YtlmmdjaoikaceaaGreatDoorHouseRunsRa1
set_option linter.unusedSimpArgs false
set_option linter.unusedVariables false
/- What is escaped is text again. -/
namespace Go.Ing
open Go
namespace AI
end AI
end Go.Ing
/- The document's codec, byte by byte. -/
namespace Go.Ing
open Go
namespace AI
def FU (opt:Int):Int:=if opt=1 then 0 else if opt=3 then 1 else if opt=31 then 2 else 0
def known (opt:Int):Bool:=decide (opt=1) || decide (opt=3) || decide (opt=31)
theorem jS (opt:Int):Value.tuple #[(P2 [(1, .int .i64 0),(3, .int .i64 1),(31, .int .i64 2)] opt).getD (.int .i64 0), .bool (P2 [(1, .int .i64 0),(3, .int .i64 1),(31, .int .i64 2)] opt).isSome] = .tuple #[.int .i64 (FU opt), .bool (known opt)]:=by
 unfold FU known P2
 by_cases h1:opt=1
 ·subst h1;rfl
 ·by_cases h3:opt=3
  ·subst h3;rfl
  ·by_cases h31:opt=31
   ·subst h31;rfl
   ·have e1:(opt == 1)=false:=by simpa using h1
    have e3:(opt == 3)=false:=by simpa using h3
    have e31:(opt == 31)=false:=by simpa using h31
    simp [List.find?,e1,e3,e31,h1,h3,h31]
theorem Zi (opt:Int):0≤FU opt∧FU opt < 3:=by
 unfold FU
 constructor<;>(repeat' split)<;>decide
def asked (t:AI)(verb opt:Int):AI × AL:=
 if (decide (verb=253) && !(known opt && !decide (opt=31)))=true then(t,bytesOf [255,252,opt])
 else if (decide (verb=251) && !(known opt && !decide (opt=1)))=true then(t,bytesOf [255,254,opt])
 else if decide (verb=253)=true then(if decide (t.us.at (FU opt)=0)=true then({ t with us:=t.us.put (FU opt) 1 },bytesOf [255,251,opt]) else({ t with us:=t.us.put (FU opt) 1 },[]))
 else if decide (verb=251)=true then(if decide (t.Dl.at (FU opt)=0)=true then({ t with Dl:=t.Dl.put (FU opt) 1 },bytesOf [255,253,opt]) else({ t with Dl:=t.Dl.put (FU opt) 1 },[]))
 else if (decide (verb=254) && (known opt && !decide (opt=31)))=true then(if decide (t.us.at (FU opt)=1)=true then({ t with us:=t.us.put (FU opt) 0 },bytesOf [255,252,opt]) else({ t with us:=t.us.put (FU opt) 0 },[]))
 else if (decide (verb=252) && (known opt && !decide (opt=1)))=true then(if decide (t.Dl.at (FU opt)=1)=true then({ t with Dl:=t.Dl.put (FU opt) 0 },bytesOf [255,254,opt]) else({ t with Dl:=t.Dl.put (FU opt) 0 },[]))
 else(t,[])
theorem Ep (v o:Int):bytesOf [255,v,o]=YI v o:=rfl
theorem S2 (t:AI):asked t 251 1=t.Aj 251 1:=by
 simp [asked,Aj,known,FU,place,Ff,DP,D7,QD,Ep]<;>(try (split<;>simp_all))
theorem S3 (t:AI):asked t 251 3=t.Aj 251 3:=by
 simp [asked,Aj,known,FU,place,Ff,DP,D7,QD,Ep]<;>(try (split<;>simp_all))
theorem Rc (t:AI):asked t 251 31=t.Aj 251 31:=by
 simp [asked,Aj,known,FU,place,Ff,DP,D7,QD,Ep]<;>(try (split<;>simp_all))
theorem Re (t:AI)(o:Int)(h1:o≠1)(h3:o≠3)(h31:o≠31):asked t 251 o=t.Aj 251 o:=by
 simp [asked,Aj,known,place,h1,h3,h31,Ep]
theorem S4 (t:AI):asked t 252 1=t.Aj 252 1:=by
 simp [asked,Aj,known,FU,place,Ff,DP,D7,QD,Ep]<;>(try (split<;>simp_all))
theorem S5 (t:AI):asked t 252 3=t.Aj 252 3:=by
 simp [asked,Aj,known,FU,place,Ff,DP,D7,QD,Ep]<;>(try (split<;>simp_all))
theorem Rf (t:AI):asked t 252 31=t.Aj 252 31:=by
 simp [asked,Aj,known,FU,place,Ff,DP,D7,QD,Ep]<;>(try (split<;>simp_all))
theorem Rg (t:AI)(o:Int)(h1:o≠1)(h3:o≠3)(h31:o≠31):asked t 252 o=t.Aj 252 o:=by
 simp [asked,Aj,known,place,h1,h3,h31,Ep]
theorem S6 (t:AI):asked t 253 1=t.Aj 253 1:=by
 simp [asked,Aj,known,FU,place,Ff,DP,D7,QD,Ep]<;>(try (split<;>simp_all))
theorem S7 (t:AI):asked t 253 3=t.Aj 253 3:=by
 simp [asked,Aj,known,FU,place,Ff,DP,D7,QD,Ep]<;>(try (split<;>simp_all))
theorem Rh (t:AI):asked t 253 31=t.Aj 253 31:=by
 simp [asked,Aj,known,FU,place,Ff,DP,D7,QD,Ep]<;>(try (split<;>simp_all))
theorem Ri (t:AI)(o:Int)(h1:o≠1)(h3:o≠3)(h31:o≠31):asked t 253 o=t.Aj 253 o:=by
 simp [asked,Aj,known,place,h1,h3,h31,Ep]
theorem S8 (t:AI):asked t 254 1=t.Aj 254 1:=by
 simp [asked,Aj,known,FU,place,Ff,DP,D7,QD,Ep]<;>(try (split<;>simp_all))
theorem S9 (t:AI):asked t 254 3=t.Aj 254 3:=by
 simp [asked,Aj,known,FU,place,Ff,DP,D7,QD,Ep]<;>(try (split<;>simp_all))
theorem Rj (t:AI):asked t 254 31=t.Aj 254 31:=by
 simp [asked,Aj,known,FU,place,Ff,DP,D7,QD,Ep]<;>(try (split<;>simp_all))
theorem Rk (t:AI)(o:Int)(h1:o≠1)(h3:o≠3)(h31:o≠31):asked t 254 o=t.Aj 254 o:=by
 simp [asked,Aj,known,place,h1,h3,h31,Ep]
theorem ZF (t:AI){verb:Int}(opt:Int)(hv:251≤verb∧verb≤254):asked t verb opt=t.Aj verb opt:=by
 have hc:verb=251∨verb=252∨verb=253∨verb=254:=by omega
 by_cases h1:opt=1
 ·subst h1
  rcases hc with rfl | rfl | rfl | rfl
  ·exact S2 t
  ·exact S4 t
  ·exact S6 t
  ·exact S8 t
 ·by_cases h3:opt=3
  ·subst h3
   rcases hc with rfl | rfl | rfl | rfl
   ·exact S3 t
   ·exact S5 t
   ·exact S7 t
   ·exact S9 t
  ·by_cases h31:opt=31
   ·subst h31
    rcases hc with rfl | rfl | rfl | rfl
    ·exact Rc t
    ·exact Rf t
    ·exact Rh t
    ·exact Rj t
   ·rcases hc with rfl | rfl | rfl | rfl
    ·exact Re t opt h1 h3 h31
    ·exact Rg t opt h1 h3 h31
    ·exact Ri t opt h1 h3 h31
    ·exact Rk t opt h1 h3 h31
def bJ (t:AI)(b:UInt8):Int:=t.at_ * 256+min (b.toNat:Int) 256
def EO (t:AI)(b:UInt8):AI × AL × AL:=
  if decide (bJ t b=255)=true then({ t with at_:=1 },[],[])
  else if decide (bJ t b=511)=true then({ t with at_:=0 },[255],[])
  else if decide (bJ t b=506)=true then({ t with at_:=3 },[],[])
  else if decide (bJ t b=507)=true then({ t with at_:=2,verb:=(b.toNat:Int) },[],[])
  else if decide (bJ t b=508)=true then({ t with at_:=2,verb:=(b.toNat:Int) },[],[])
  else if decide (bJ t b=509)=true then({ t with at_:=2,verb:=(b.toNat:Int) },[],[])
  else if decide (bJ t b=510)=true then({ t with at_:=2,verb:=(b.toNat:Int) },[],[])
  else if decide (bJ t b=1023)=true then({ t with at_:=4 },[],[])
  else if decide (bJ t b=1279)=true then({ t.collect b with at_:=3 },[],[])
  else if decide (t.at_=0)=true then(t,[b],[])
  else if decide (t.at_=1)=true then({ t with at_:=0 },[],[])
  else if decide (t.at_=2)=true then({ (t.asked t.verb (b.toNat:Int)).1 with at_:=0,verb:=0 },[],(t.asked t.verb (b.toNat:Int)).2)
  else if decide (t.at_=3)=true then(t.collect b,[],[])
  else if decide (t.at_=4)=true then
    (if (decide ((b.toNat:Int)=240) && decide ((t.sub.length:Int)=5) && decide (LM t.sub 0=31) && decide (t.Dl.at 2=1))=true then({ t with Bw:=min (256 * LM t.sub 3+LM t.sub 4) 200,at_:=0,sub:= [] },[],[])
     else({ t with at_:=0,sub:= [] },[],[]))
  else(t,[],[])
structure RL (t:AI):Prop where
 a0:0≤t.at_
 a1:t.at_≤4
 v:t.at_=2→251≤t.verb∧t.verb≤254
theorem an {t:AI}(h:RL t)(b:UInt8):EO t b=t.step b:=by
 obtain⟨h0,h1,hv⟩:=h
 have hb:=b.toNat_lt
 have hc:t.at_=0∨t.at_=1∨t.at_=2∨t.at_=3∨t.at_=4:=by omega
 have hz:bJ t b=t.at_ * 256+(b.toNat:Int):=by unfold bJ;omega
 have b255:(b.toNat:Int)=255→b=255:=fun e=>UInt8.toNat_inj.1 (by show _=255;omega)
 unfold EO step
 rw [hz]
 rcases hc with ha | ha | ha | ha | ha
 ·rw [ha]
  by_cases e:(b.toNat:Int)=255
  ·simp [e]
  ·have n1:¬ (0 * 256+(b.toNat:Int)=255):=by omega
   have n2:¬ (0 * 256+(b.toNat:Int)=511):=by omega
   have n3:¬ (0 * 256+(b.toNat:Int)=506):=by omega
   have n4:¬ (0 * 256+(b.toNat:Int)=507):=by omega
   have n5:¬ (0 * 256+(b.toNat:Int)=508):=by omega
   have n6:¬ (0 * 256+(b.toNat:Int)=509):=by omega
   have n7:¬ (0 * 256+(b.toNat:Int)=510):=by omega
   have n8:¬ (0 * 256+(b.toNat:Int)=1023):=by omega
   have n9:¬ (0 * 256+(b.toNat:Int)=1279):=by omega
   simp only [n1,n2,n3,n4,n5,n6,n7,n8,n9,e,decide_false,decide_true,if_true,if_false,Bool.false_eq_true]
 ·rw [ha]
  have n1:¬ (1 * 256+(b.toNat:Int)=255):=by omega
  have n8:¬ (1 * 256+(b.toNat:Int)=1023):=by omega
  have n9:¬ (1 * 256+(b.toNat:Int)=1279):=by omega
  have p2:(1 * 256+(b.toNat:Int)=511)=((b.toNat:Int)=255):=propext ⟨fun e=>by omega,fun e=>by omega⟩
  have p3:(1 * 256+(b.toNat:Int)=506)=((b.toNat:Int)=250):=propext ⟨fun e=>by omega,fun e=>by omega⟩
  have p4:(1 * 256+(b.toNat:Int)=507)=((b.toNat:Int)=251):=propext ⟨fun e=>by omega,fun e=>by omega⟩
  have p5:(1 * 256+(b.toNat:Int)=508)=((b.toNat:Int)=252):=propext ⟨fun e=>by omega,fun e=>by omega⟩
  have p6:(1 * 256+(b.toNat:Int)=509)=((b.toNat:Int)=253):=propext ⟨fun e=>by omega,fun e=>by omega⟩
  have p7:(1 * 256+(b.toNat:Int)=510)=((b.toNat:Int)=254):=propext ⟨fun e=>by omega,fun e=>by omega⟩
  have d10:¬ (1:Int)=0:=by decide
  simp only [n1,n8,n9,p2,p3,p4,p5,p6,p7,d10,decide_false,decide_true,if_true,if_false,Bool.false_eq_true]
  by_cases e:(b.toNat:Int)=255
  ·simp [e,b255 e]
  ·by_cases e2:(b.toNat:Int)=250
   ·simp [e2]
   ·by_cases e3:251≤(b.toNat:Int)
    ·have e4:(b.toNat:Int)=251∨(b.toNat:Int)=252∨(b.toNat:Int)=253∨(b.toNat:Int)=254:=by omega
     rcases e4 with e4 | e4 | e4 | e4<;>simp [e4]
    ·have q1:¬ (b.toNat:Int)=251:=by omega
     have q2:¬ (b.toNat:Int)=252:=by omega
     have q3:¬ (b.toNat:Int)=253:=by omega
     have q4:¬ (b.toNat:Int)=254:=by omega
     simp only [e,e2,e3,q1,q2,q3,q4,decide_false,if_false,Bool.false_eq_true]
 ·rw [ZF t (b.toNat:Int) (hv ha),ha]
  have n1:¬ (2 * 256+(b.toNat:Int)=255):=by omega
  have n2:¬ (2 * 256+(b.toNat:Int)=511):=by omega
  have n3:¬ (2 * 256+(b.toNat:Int)=506):=by omega
  have n4:¬ (2 * 256+(b.toNat:Int)=507):=by omega
  have n5:¬ (2 * 256+(b.toNat:Int)=508):=by omega
  have n6:¬ (2 * 256+(b.toNat:Int)=509):=by omega
  have n7:¬ (2 * 256+(b.toNat:Int)=510):=by omega
  have n8:¬ (2 * 256+(b.toNat:Int)=1023):=by omega
  have n9:¬ (2 * 256+(b.toNat:Int)=1279):=by omega
  have d0:¬ (2:Int)=0:=by decide
  have d1:¬ (2:Int)=1:=by decide
  simp only [n1,n2,n3,n4,n5,n6,n7,n8,n9,d0,d1,decide_false,decide_true,if_true,if_false,Bool.false_eq_true]
 ·rw [ha]
  have n1:¬ (3 * 256+(b.toNat:Int)=255):=by omega
  have n2:¬ (3 * 256+(b.toNat:Int)=511):=by omega
  have n3:¬ (3 * 256+(b.toNat:Int)=506):=by omega
  have n4:¬ (3 * 256+(b.toNat:Int)=507):=by omega
  have n5:¬ (3 * 256+(b.toNat:Int)=508):=by omega
  have n6:¬ (3 * 256+(b.toNat:Int)=509):=by omega
  have n7:¬ (3 * 256+(b.toNat:Int)=510):=by omega
  have p8:(3 * 256+(b.toNat:Int)=1023)=((b.toNat:Int)=255):=propext ⟨fun e=>by omega,fun e=>by omega⟩
  have n9:¬ (3 * 256+(b.toNat:Int)=1279):=by omega
  have d0:¬ (3:Int)=0:=by decide
  have d1:¬ (3:Int)=1:=by decide
  have d2:¬ (3:Int)=2:=by decide
  simp only [n1,n2,n3,n4,n5,n6,n7,p8,n9,d0,d1,d2,decide_false,decide_true,if_true,if_false,Bool.false_eq_true]
 ·have n1:¬ (4 * 256+(b.toNat:Int)=255):=by omega
  have n2:¬ (4 * 256+(b.toNat:Int)=511):=by omega
  have n3:¬ (4 * 256+(b.toNat:Int)=506):=by omega
  have n4:¬ (4 * 256+(b.toNat:Int)=507):=by omega
  have n5:¬ (4 * 256+(b.toNat:Int)=508):=by omega
  have n6:¬ (4 * 256+(b.toNat:Int)=509):=by omega
  have n7:¬ (4 * 256+(b.toNat:Int)=510):=by omega
  have n8:¬ (4 * 256+(b.toNat:Int)=1023):=by omega
  have p9:(4 * 256+(b.toNat:Int)=1279)=((b.toNat:Int)=255):=propext ⟨fun e=>by omega,fun e=>by omega⟩
  have d0:¬ (4:Int)=0:=by decide
  have d1:¬ (4:Int)=1:=by decide
  have d2:¬ (4:Int)=2:=by decide
  have d3:¬ (4:Int)=3:=by decide
  simp only [ha,n1,n2,n3,n4,n5,n6,n7,n8,p9,d0,d1,d2,d3,decide_false,decide_true,if_true,if_false,Bool.false_eq_true]
  by_cases e:(b.toNat:Int)=255
  ·simp only [e,decide_true,if_true]
   unfold collect
   dsimp only
   split<;>rfl
  ·by_cases e2:(b.toNat:Int)=240
   ·have e255:decide ((b.toNat:Int)=255)=false:=decide_eq_false e
    have e240:decide ((b.toNat:Int)=240)=true:=decide_eq_true e2
    simp only [e255,e240,if_false,if_true,Bool.false_eq_true,Bool.true_and]
    unfold measure
    rw [Int.mul_comm 256 (LM t.sub 3)]
    split<;>rfl
   ·simp only [e,e2,decide_false,Bool.false_and,if_false,Bool.false_eq_true]
theorem OB {t:AI}(h:RL t)(b:UInt8):RL (t.step b).1:=by
 obtain⟨h0,h1,hv⟩:=h
 have hb:=b.toNat_lt
 have hn:(t.Aj t.verb (b.toNat:Int)).1.at_=t.at_:=by
  unfold Aj;dsimp only
  repeat' split
  all_goals rfl
 have hcl:∀ x:AI,(x.collect b).at_=x.at_:=fun x=>by unfold collect;split<;>rfl
 unfold step;dsimp only
 repeat' split
 all_goals try simp only [decide_eq_true_eq] at *
 all_goals refine⟨?_,?_,fun e=>?_⟩
 all_goals try simp only [hcl] at *
 all_goals first | omega | skip
theorem cQ {t:AI}(h:t.A3=true):RL t:=by
 simp only [A3,NN,Bool.and_eq_true,decide_eq_true_eq,Bool.or_eq_true,beq_iff_eq] at h
 obtain⟨_,_,h⟩:=h
 refine⟨by omega,by omega,fun e=>?_⟩
 have h5:=h.1.1.1.1.1.2
 have h6:=h.1.1.1.1.2
 rw [e] at h5
 simp at h5
 rcases h6 with h6 | h6
 ·exact absurd h6 h5
 ·exact h6
theorem FL.dY {X t t':AI}{u x y x' y':AL}{k:Int}(h:FL X u k t x y)(ho:RL t)(hk:k < u.length)(ht:t'=(t.EO (u.getD k.toNat 0)).1)(hx:x'=x++(t.EO (u.getD k.toNat 0)).2.1)(hy:y'=y++(t.EO (u.getD k.toNat 0)).2.2):FL X u (k+1) t' x' y'∧RL t':=by
 rw [an ho] at ht hx hy
 exact⟨h.next hk ht hx hy,by rw [ht];exact OB ho _⟩
theorem FL.G1 {X t t':AI}{u x y x' y':AL}{k:Int}{h' g':Hd}(h:FL X u k t x y)(ho:RL t)(hk:k < u.length)(ht:t'=(t.EO (u.getD k.toNat 0)).1)(hx:x'=x++(t.EO (u.getD k.toNat 0)).2.1)(hy:y'=y++(t.EO (u.getD k.toNat 0)).2.2)(hl:h'.len=x'.length)(hg:g'.len=y'.length) :
  FL X u (k+1) t' x' y'∧RL t'∧h'.len=x'.length∧g'.len=y'.length:=⟨(h.dY ho hk ht hx hy).1,(h.dY ho hk ht hx hy).2,hl,hg⟩
theorem Mj (t:AI)(v o:Int):(t.asked v o).2.length≤3:=by
 unfold asked
 repeat' split
 all_goals simp [bytesOf]
end AI
end Go.Ing
/- What people type: plain functions, and what is known of pieces. -/
namespace Go.Ing
open Go
namespace Words
theorem Dh (c:UInt8):∀ s:AL,(Lib.indexByte s c=-1∧c ∉ s)∨∃ i:Nat,Lib.indexByte s c=i∧i < s.length∧c ∉ s.take i∧s.drop i=c :: s.drop (i+1)
 | []=> .inl ⟨rfl,by simp⟩
 | b :: r=>by
  by_cases h:b=c
  ·subst h
   exact .inr ⟨0,by simp [Lib.indexByte],by simp,by simp,by simp⟩
  ·have hb:(b == c)=false:=by simpa using h
   rcases Dh c r with ⟨h1,h2⟩ | ⟨i,h1,h2,h3,h4⟩
   ·exact .inl ⟨by simp [Lib.indexByte,hb,h1],by simp [Ne.symm h,h2]⟩
   ·refine .inr ⟨i+1,?_,by simp;omega,?_,by simpa using h4⟩
    ·have:((i:Int) == -1)=false:=by simp
     simp [Lib.indexByte,hb,h1,this]
    ·simp [Ne.symm h,h3]
def pieces (c:UInt8):AL→List AL
 | []=> [[]]
 | x :: r=>if x=c then [] :: pieces c r else(x :: (pieces c r).headD []) :: (pieces c r).tail
theorem Kr (c:UInt8)(s:AL):pieces c s≠ []:=by
 cases s with
 | nil=>simp [pieces]
 | cons x r=>unfold pieces;split<;>simp
theorem GD {c:UInt8}:∀ {s:AL},c ∉ s→pieces c s = [s]
 | [],_=>rfl
 | x :: r,h=>by
  simp only [List.mem_cons,not_or] at h
  rw [pieces,if_neg (Ne.symm h.1),GD h.2];rfl
theorem FY {c:UInt8}(r:AL):∀ {a:AL},c ∉ a→pieces c (a++c :: r)=a :: pieces c r
 | [],_=>by simp [pieces]
 | x :: a,h=>by
  simp only [List.mem_cons,not_or] at h
  rw [List.cons_append,pieces,if_neg (Ne.symm h.1),FY r h.2];rfl
theorem DT (c:UInt8):∀ s:AL,(pieces c s).length=s.count c+1
 | []=>rfl
 | x :: r=>by
  unfold pieces
  have ih:=DT c r
  have hne:=Kr c r
  split
  ·rename_i h;simp [h,ih]
  ·rename_i h
   have:(x == c)=false:=by simpa using h
   rw [List.count_cons,this]
   obtain⟨p,q,hp⟩:=List.exists_cons_of_ne_nil hne
   rw [hp] at ih ⊢
   simpa using ih
theorem Vk {c:UInt8}{s:AL}{i:Nat}(h3:c ∉ s.take i)(h4:s.drop i=c :: s.drop (i+1)):pieces c s=s.take i :: pieces c (s.drop (i+1)):=by
 conv=>lhs;rw [← List.take_append_drop i s,h4]
 exact FY _ h3
/-! #### small letters -/
def Tp (c:UInt8):UInt8:=if (decide (65≤(c.toNat:Int)) && decide ((c.toNat:Int)≤90))=true then u8 ((c.toNat:Int)+97 - 65) else c
def low (w:AL):AL:=w.map Tp
def words (s:AL):List AL:=((pieces 32 s).filter fun w=>!decide (w = [])).map low
theorem cg {c:UInt8}(h:(decide (65≤(c.toNat:Int)) && decide ((c.toNat:Int)≤90))=true):u8 ((c.toNat:Int)+97 - 65)=Tp c:=(if_pos h).symm
theorem cc {c:UInt8}(h:(decide (65≤(c.toNat:Int)) && decide ((c.toNat:Int)≤90))=false):Tp c=c:=if_neg (by rw [h];decide)
def Gj (w:AL)(k:Nat):AL:=(w.take k).map Tp++w.drop k
theorem PH (w:AL)(k:Nat):(Gj w k).length=w.length:=by simp [Gj];omega
theorem Wf {w:AL}{k:Int}(h0:0≤k)(h1:k < w.length):(Gj w k.toNat).getD k.toNat 0=w.getD k.toNat 0:=by
 have hk:k.toNat < w.length:=by omega
 unfold Gj
 rw [List.getD_eq_getElem?_getD,List.getElem?_append_right (by simp;omega)]
 simp [List.getD_eq_getElem?_getD,Nat.min_eq_left (Nat.le_of_lt hk)]
theorem Zy (w:AL):Gj w w.length=low w:=by simp [Gj,low]
theorem Tr {w:AL}{k:Int}(h0:0≤k)(h1:k < w.length):(Gj w k.toNat).set k.toNat (Tp (w.getD k.toNat 0))=Gj w (k+1).toNat:=by
 obtain⟨n,rfl⟩:=Int.eq_ofNat_of_zero_le h0
 have hn:n < w.length:=by omega
 rw [show((n:Int)).toNat=n by omega,show((n:Int)+1).toNat=n+1 by omega]
 unfold Gj
 rw [List.drop_eq_getElem_cons hn,List.set_append_right _ _ (by simp;omega)]
 simp only [List.length_map,List.length_take,Nat.min_eq_left (Nat.le_of_lt hn),Nat.sub_self,List.set_cons_zero]
 rw [List.take_add_one,List.map_append,List.append_assoc]
 simp [List.getD_eq_getElem?_getD,hn]
theorem Xl {w:AL}{k:Int}(h0:0≤k)(h1:k < w.length)(h:Tp (w.getD k.toNat 0)=w.getD k.toNat 0):Gj w k.toNat=Gj w (k+1).toNat:=by
 rw [← Tr h0 h1,h]
 have hk:k.toNat < (Gj w k.toNat).length:=by rw [PH];omega
 have e:=Wf h0 h1
 rw [← e,List.getD_eq_getElem?_getD,List.getElem?_eq_getElem hk]
 simp
structure OT (c:UInt8)(s:AL)(i:Int)(r:AL)(xs:List AL):Prop where
 i0:0≤i
 i1:i≤s.count c
 len:xs.length=s.count c+1
 eq:pieces c s=xs.take i.toNat++pieces c r
 rl:r.length≤s.length
theorem OT.start (c:UInt8)(s:AL)(n:Nat)(hn:n=s.count c+1):OT c s 0 s (List.replicate n []):=
 ⟨Int.le_refl _,by omega,by simp [hn],by simp,Nat.le_refl _⟩
theorem OT.left {c:UInt8}{s:AL}{i:Int}{r:AL}{xs:List AL}(h:OT c s i r xs):(r.count c:Int)=s.count c - i:=by
 have:=congrArg List.length h.eq
 rw [List.length_append,DT,DT,List.length_take,h.len] at this
 have h1:=h.i0;have h2:=h.i1
 omega
theorem OT.next {c:UInt8}{s:AL}{i:Int}{r:AL}{xs:List AL}(h:OT c s i r xs){m:Int}(hm:Lib.indexByte r c=m)(h0:¬ m < 0):0≤m∧m < r.length∧OT c s (i+1) (r.drop (m+1).toNat) (xs.set i.toNat (r.take m.toNat)):=by
 have hi:=h.i0
 rcases Dh c r with ⟨e,_⟩ | ⟨j,e,h1,h2,h3⟩
 ·omega
 ·obtain rfl:m=j:=by omega
  have hl:=h.left
  have hp:=Vk h2 h3
  have hc:(pieces c r).length=(pieces c (r.drop (j+1))).length+1:=by rw [hp];simp
  rw [DT,DT] at hc
  have hx:=h.len
  refine⟨by omega,by omega,by omega,by omega,by simp [hx],?_,by simp;have:=h.rl;omega⟩
  rw [h.eq,hp,show(i+1).toNat=i.toNat+1 by omega,show((j:Int)+1).toNat=j+1 by omega,show((j:Int)).toNat=j by omega,List.take_add_one,List.getElem?_set_self (by omega),List.take_set_of_le (by omega)]
  simp
theorem OT.done {c:UInt8}{s:AL}{i:Int}{r:AL}{xs:List AL}(h:OT c s i r xs)(he:¬ i < (s.count c:Int)∨Lib.indexByte r c < 0):i=s.count c∧(xs.set i.toNat r).take (i+1).toNat=pieces c s:=by
 have hi:=h.i0;have hi1:=h.i1;have hl:=h.left;have hx:=h.len
 have hc:c ∉ r:=by
  rcases he with he | he
  ·intro hm;have:=List.count_pos_iff.2 hm;omega
  ·rcases Dh c r with ⟨_,h2⟩ | ⟨j,e,_⟩
   ·exact h2
   ·omega
 have h0:r.count c=0:=List.count_eq_zero.2 hc
 refine⟨by omega,?_⟩
 rw [h.eq,GD hc,show(i+1).toNat=i.toNat+1 by omega,List.take_add_one,List.getElem?_set_self (by omega),List.take_set_of_le (by omega)]
 rfl
theorem IX {c:UInt8}:∀ {s:AL} {p:AL},p∈pieces c s→p.length≤s.length
 | [],p,h=>by simp [pieces] at h;simp [h]
 | x :: r,p,h=>by
  unfold pieces at h
  obtain⟨q,t,hq⟩:=List.exists_cons_of_ne_nil (Kr c r)
  have ih:=@IX c r
  rw [hq] at h ih
  split at h
  ·rcases List.mem_cons.1 h with h | h
   ·simp [h]
   ·have:=ih h;simp;omega
  ·simp only [List.headD_cons,List.tail_cons] at h
   rcases List.mem_cons.1 h with h | h
   ·have:=ih (p:=q) (by simp);rw [h];simp;omega
   ·have:=ih (p:=p) (by simp [h]);simp;omega
theorem Qy {c:UInt8}{s:AL}(i:Nat):((pieces c s).getD i []).length≤s.length:=by
 rw [List.getD_eq_getElem?_getD]
 cases h:(pieces c s)[i]? with
 | none=>simp
 | some p=>exact IX (List.mem_of_getElem? h)
def Je (s:AL)(k:Nat):List AL:=(((pieces 32 s).take k).filter fun w=>!decide (w = [])).map low
theorem Pz (s:AL):words s=Je s ((pieces 32 s).length:Int).toNat:=by
 rw [Je,show((pieces 32 s).length:Int).toNat=(pieces 32 s).length by omega,List.take_length];rfl
theorem ND {α:Type}{xs:List α}{d:α}{k:Int}(h0:0≤k)(h1:k < xs.length):xs.take (k+1).toNat=xs.take k.toNat ++ [xs.getD k.toNat d]:=by
 have hk:k.toNat < xs.length:=by omega
 rw [show(k+1).toNat=k.toNat+1 by omega,List.take_add_one,List.getD_eq_getElem?_getD,List.getElem?_eq_getElem hk]
 rfl
theorem bG {s:AL}{k:Int}(h0:0≤k)(h1:k < (pieces 32 s).length)(h:(!decide ((pieces 32 s).getD k.toNat [] = []))=true):Je s (k+1).toNat=Je s k.toNat ++ [low ((pieces 32 s).getD k.toNat [])]:=by
 unfold Je
 rw [ND (d:= []) h0 h1,List.filter_append,List.map_append]
 congr 1
 rw [List.filter_cons_of_pos (p:=fun w:AL=>!decide (w = [])) h];rfl
theorem bF {s:AL}{k:Int}(h0:0≤k)(h1:k < (pieces 32 s).length)(h:(!decide ((pieces 32 s).getD k.toNat [] = []))=false):Je s (k+1).toNat=Je s k.toNat:=by
 unfold Je
 rw [ND (d:= []) h0 h1,List.filter_append,List.map_append,List.filter_cons_of_neg (p:=fun w:AL=>!decide (w = [])) (by rw [h];decide)]
 simp
/-! #### verbs -/
def pre (s p:AL):Bool:=decide ((p.length:Int)≤(s.length:Int)) && decide (s.take p.length=p)
def I5 (w:AL):Nat→Int × Int
 | 0=>(0,3)
 | n+1=>if pre (AD.DE.getD (20 - n) []) w=true then(((20 - n:Nat):Int),0) else I5 w n
def verb (w:AL):Int × Int:=if (!decide (w = []))=true then I5 w 21 else(0,3)
theorem WB {w:AL}{k:Int}(h0:0≤k)(h1:k < 21):I5 w (21 - k).toNat=if pre (AD.DE.getD k.toNat []) w=true then(k,0) else I5 w (21 - (k+1)).toNat:=by
 rw [show(21 - k).toNat=(21 - (k+1)).toNat+1 by omega,I5,show 20 - (21 - (k+1)).toNat=k.toNat by omega,show((k.toNat:Nat):Int)=k by omega]
def fJ:Vector AL 21:=⟨AD.DE.toArray,rfl⟩
theorem Py:BT Ac fJ=AD.Bf:=by kernel_rfl
/-! #### cutting and trimming -/
def GP (s p:AL):AL × Bool:=if (!pre s p)=true then(s,false) else(s.drop p.length,true)
def cut (c:UInt8)(s:AL):AL × AL × Bool:=if decide (0≤Lib.indexByte s c)=true then(s.take (Lib.indexByte s c).toNat,s.drop (Lib.indexByte s c+1).toNat,true) else(s,[],false)
theorem ew {c:UInt8}{s:AL}(h:0≤Lib.indexByte s c):Lib.indexByte s c < s.length:=by
 rcases Dh c s with ⟨e,_⟩ | ⟨i,e,h1,_⟩<;>omega
theorem Ny (c:UInt8)(s:AL):(cut c s).1.length≤s.length∧(cut c s).2.1.length≤s.length:=by
 unfold cut;split<;>simp;omega
def DG (c:UInt8)(s:AL):AL:=s.dropWhile (·== c)
def Dy (c:UInt8)(s:AL):AL:=(s.reverse.dropWhile (·== c)).reverse
theorem W2 {x c:UInt8}(h:(x.toNat:Int)=(c.toNat:Int)):x=c:=UInt8.toNat_inj.1 (by omega)
theorem Wz {c:UInt8}{r:AL}(h:(decide ((0:Int) < (r.length:Int)) && decide (((r.getD (0:Int).toNat 0).toNat:Int)=(c.toNat:Int)))=true):DG c r=DG c (r.drop 1):=by
 cases r with
 | nil=>simp at h
 | cons x r=>
  simp only [Bool.and_eq_true,decide_eq_true_eq] at h
  have:x=c:=W2 h.2
  subst this
  simp [DG]
theorem Wy {c:UInt8}{r:AL}(h:(decide ((0:Int) < (r.length:Int)) && decide (((r.getD (0:Int).toNat 0).toNat:Int)=(c.toNat:Int)))=false):DG c r=r:=by
 cases r with
 | nil=>rfl
 | cons x r=>
  have hx:(x == c)=false:=by
   rw [Bool.eq_false_iff]
   intro e
   have:x=c:=by simpa using e
   subst this
   simp at h
  simp [DG,hx]
theorem ax {c:UInt8}{r:AL}(h:(decide ((0:Int) < (r.length:Int)) && decide (((r.getD ((r.length:Int) - 1).toNat 0).toNat:Int)=(c.toNat:Int)))=true):Dy c r=Dy c (r.take ((r.length:Int) - 1).toNat):=by
 simp only [Bool.and_eq_true,decide_eq_true_eq] at h
 have hne:r≠ []:=by rintro rfl;simp at h
 obtain⟨q,x,rfl⟩:∃ q x,r=q ++ [x]:=⟨r.dropLast,r.getLast hne,(List.dropLast_concat_getLast hne).symm⟩
 have e:(((q ++ [x]).length:Int) - 1).toNat=q.length:=by simp
 rw [e] at h ⊢
 have:x=c:=W2 (by simpa [List.getD_eq_getElem?_getD] using h.2)
 subst this
 simp [Dy]
theorem aw {c:UInt8}{r:AL}(h:(decide ((0:Int) < (r.length:Int)) && decide (((r.getD ((r.length:Int) - 1).toNat 0).toNat:Int)=(c.toNat:Int)))=false):Dy c r=r:=by
 by_cases hne:r = []
 ·subst hne;rfl
 ·obtain⟨q,x,rfl⟩:∃ q x,r=q ++ [x]:=⟨r.dropLast,r.getLast hne,(List.dropLast_concat_getLast hne).symm⟩
  have e:(((q ++ [x]).length:Int) - 1).toNat=q.length:=by simp
  rw [e] at h
  have hx:(x == c)=false:=by
   rw [Bool.eq_false_iff]
   intro e
   have:x=c:=by simpa using e
   subst this
   simp [List.getD_eq_getElem?_getD] at h
  simp [Dy,hx]
theorem Ma (c:UInt8)(s:AL):(DG c s).length≤s.length:=(List.dropWhile_sublist _).length_le
theorem OC (c:UInt8)(s:AL):(Dy c s).length≤s.length:=by
 have:=(List.dropWhile_sublist (l:=s.reverse) (·== c)).length_le
 simpa [Dy] using this
/-! #### the rest of an order -/
def many (z:Int):Bool:=decide (z=7) || decide (z=8) || decide (z=9)
def Ds (z:Int):AL × Bool:=if decide (z=7)=true then([102,114,111,109],false) else if decide (z=9)=true then([105,110],true) else if decide (z=10)=true then([116,111],true) else([],false)
def Mm (s:AL):Nat→Int × Bool
 | 0=>(0,false)
 | n+1=>if decide (AD.DE.getD (5 - n) []=s)=true then(((5 - n:Nat):Int),true) else Mm s n
def dir (s:AL):Int × Bool:=Mm s 6
theorem Qa {s:AL}{k:Int}(h0:0≤k)(h1:k < 6):Mm s (6 - k).toNat=if decide (AD.DE.getD k.toNat []=s)=true then(k,true) else Mm s (6 - (k+1)).toNat:=by
 rw [show(6 - k).toNat=(6 - (k+1)).toNat+1 by omega,Mm,show 5 - (6 - (k+1)).toNat=k.toNat by omega,show((k.toNat:Nat):Int)=k by omega]
/-! #### nouns -/
def K0 (k rest:AL):Int × AL × Bool × Int:=
 match Lib.atoiAll k with
 | .ok n=>if (decide (n < 1) || decide (99 < n) || decide (((k.getD (0:Int).toNat 0).toNat:Int) < 49) || decide (57 < ((k.getD (0:Int).toNat 0).toNat:Int)) || decide (rest = []) || decide (0≤Lib.indexByte rest 46))=true then(0,[],false,1) else(n,rest,false,0)
 | _=>(0,[],false,1)
theorem Wh {k rest:AL}{n:Int}(h:Lib.atoiAll k = .ok n):K0 k rest=if (decide (n < 1) || decide (99 < n) || decide (((k.getD (0:Int).toNat 0).toNat:Int) < 49) || decide (57 < ((k.getD (0:Int).toNat 0).toNat:Int)) || decide (rest = []) || decide (0≤Lib.indexByte rest 46))=true then(0,[],false,1) else(n,rest,false,0):=by
 unfold K0;rw [h]
theorem Z6 {k rest:AL}(h:∀ j,Lib.atoiAll k≠ .ok j):K0 k rest=(0,[],false,1):=by
 unfold K0
 split
 ·rename_i n e;exact absurd e (h n)
 ·rfl
theorem ZH {k:AL}{n:Int}(h:Lib.atoiAll k = .ok n):0 < k.length:=by
 cases k with
 | nil=>simp [Lib.atoiAll] at h
 | cons x r=>simp
def Br (u:AL):Int × AL × Bool × Int:=
 if decide (u = [97,108,108])=true then(1,[],true,0)
 else if ((GP u [97,108,108,46]).2 && !decide ((GP u [97,108,108,46]).1 = []) && !decide (0≤Lib.indexByte (GP u [97,108,108,46]).1 46))=true then(1,(GP u [97,108,108,46]).1,true,0)
 else if (!(cut 46 u).2.2)=true then(if decide (u = [])=true then(0,[],false,1) else(1,u,false,0))
 else K0 (cut 46 u).1 (cut 46 u).2.1
/-! #### orders -/
theorem RE (u:AL):∀ n,n≤21→0≤(I5 u n).1∧(I5 u n).1≤20
 | 0,_=>by simp [I5]
 | n+1,h=>by
  unfold I5
  split
  ·simp only;omega
  ·exact RE u n (by omega)
theorem Pw (u:AL):0≤(verb u).1∧(verb u).1≤20:=by
 unfold verb;split
 ·exact RE u 21 (Nat.le_refl _)
 ·simp
def said (s:AL):AL:=DG 32 (Dy 32 (cut 32 (DG 32 s)).2.1)
def o0 (v:Int):Order:={ (default:Order) with verb:=v }
def KJ (o:Order)(j:AL × Bool)(W:List AL)(m:Nat):Order × Int:=
 if (decide ((m:Int)=0) && !j.2)=true then(o,0)
 else if (!decide ((m:Int)=1) || decide (j.1 = []))=true then(default,1)
 else({ o with second:=W.getD 0 [] },0)
def Lj (o:Order)(j:AL × Bool)(W:List AL)(m:Nat):Order × Int:=
 if (decide (0 < (m:Int)) && !decide (j.1 = []) && decide (W.getD 0 []=j.1))=true then(if decide (((m - 1:Nat):Int)=0)=true then(default,1) else KJ o j (W.drop 1) (m - 1))
 else KJ o j W m
def KK (v:Int)(W:List AL)(m:Nat):Order × Int:=
 if (!decide ((Br (W.getD 0 [])).2.2.2=0) || ((Br (W.getD 0 [])).2.2.1 && !many v))=true then(default,1)
 else Lj ⟨v,(Br (W.getD 0 [])).1,(Br (W.getD 0 [])).2.2.1,(Br (W.getD 0 [])).2.1,[],[]⟩ (Ds v) (W.drop 1) (m - 1)
def PQ (s:AL)(v:Int)(W:List AL)(m:Nat):Order × Int:=
 if decide (v=11)=true then(if decide (said s = [])=true then(default,1) else(⟨v,0,false,[],[],said s⟩,0))
 else if (decide (v≤6) || decide (19≤v))=true then(if decide (0 < (m:Int))=true then(default,1) else(o0 v,0))
 else if decide ((m:Int)=0)=true then(default,1)
 else if (decide (v=12) || decide (v=13))=true then
  (if (decide ((verb (W.getD 0 [])).2=0) && decide ((verb (W.getD 0 [])).1 < 6) && decide ((m:Int)=1))=true then(⟨v,1,false,AD.DE.getD (verb (W.getD 0 [])).1.toNat [],[],[]⟩,0) else KK v W m)
 else KK v W m
def parse (s:AL):Order × Int:=
 if decide (((words s).length:Int)=0)=true then(default,1)
 else if (!decide ((verb ((words s).getD 0 [])).2=0))=true then(default,(verb ((words s).getD 0 [])).2)
 else PQ s (verb ((words s).getD 0 [])).1 ((words s).drop 1) ((words s).length - 1)
theorem SC (w:AL):(low w).length=w.length:=by simp [low]
theorem Ut (s:AL)(i:Nat):((words s).getD i []).length≤s.length:=by
 rw [List.getD_eq_getElem?_getD]
 cases h:(words s)[i]? with
 | none=>simp
 | some p=>
  have hm:=List.mem_of_getElem? h
  unfold words at hm
  obtain⟨q,hq,rfl⟩:=List.mem_map.1 hm
  rw [Option.getD_some,SC]
  exact IX (List.mem_filter.1 hq).1
theorem Ky (s:AL)(i j:Nat):(((words s).drop j).getD i []).length≤s.length:=by
 rw [List.getD_eq_getElem?_getD,List.getElem?_drop,← List.getD_eq_getElem?_getD];exact Ut s _
end Words
end Go.Ing
/- What people type: plain laws. -/
namespace Go.Ing
open Go
namespace Words
/-! #### a shorter beginning -/
theorem dB {s p:AL}:pre s p=true↔p.length≤s.length∧s.take p.length=p:=by
 simp [pre]
/-! #### what is parsed is good -/
theorem bI {s:AL}{i:Nat}(h:i < (words s).length):(words s).getD i []≠ []:=by
 have hm:(words s)[i]∈words s:=List.getElem_mem h
 rw [List.getD_eq_getElem?_getD,List.getElem?_eq_getElem h,Option.getD_some]
 unfold words at hm
 obtain⟨q,hq,e⟩:=List.mem_map.1 hm
 intro e2
 have e3:low q = []:=e.trans e2
 have:=(List.mem_filter.1 hq).2
 have h0:q = []:=by
  have:=congrArg List.length e3
  rw [SC] at this
  exact List.length_eq_zero_iff.1 this
 simp [h0] at this
structure Yq (o:Order):Prop where
 v0:0≤o.verb
 v1:o.verb≤20
 n0:0≤o.nth
 n1:o.nth≤99
 al:o.Am=true→o.verb=7∨o.verb=8∨o.verb=9
 tx:o.text≠ []↔o.verb=11
 s1:o.second = []∨o.verb=7∨o.verb=9∨o.verb=10
 s2:o.second≠ []∨(o.verb≠9∧o.verb≠10)
structure dP (o:Order):Prop where
 v0:0≤o.verb
 v1:o.verb≤20
 n0:0≤o.nth
 n1:o.nth≤99
 al:o.Am=true→o.verb=7∨o.verb=8∨o.verb=9
 tx:o.text = []
 nv:o.verb≠11
 se:o.second = []
def RN (r:Order × Int):Prop:=(r.2=0→Yq r.1)∧(r.2≠0→r.1=default)
theorem RN.bad (e:Int)(he:e≠0):RN (default,e):=⟨fun h=>absurd h he,fun _=>rfl⟩
theorem RN.ok {o:Order}(h:Yq o):RN (o,0):=⟨fun _=>h,fun h=>absurd rfl h⟩
theorem Td (v:Int):(Ds v).1 = []∧(Ds v).2=false∧v≠9∧v≠10∨(Ds v).1≠ []∧((v=7∧(Ds v).2=false)∨(v=9∧(Ds v).2=true)∨(v=10∧(Ds v).2=true)):=by
 unfold Ds
 by_cases h7:v=7
 ·subst h7;right;decide
 ·by_cases h9:v=9
  ·subst h9;right;decide
  ·by_cases h10:v=10
   ·subst h10;right;decide
   ·left;simp [h7,h9,h10]
theorem dV {o:Order}(h:dP o){W:List AL}{m:Nat}(hm:m≠0→W.getD 0 []≠ []):RN (KJ o (Ds o.verb) W m):=by
 unfold KJ
 have hj:=Td o.verb
 split
 ·rename_i c
  simp only [Bool.and_eq_true,decide_eq_true_eq,Bool.not_eq_true'] at c
  refine .ok ⟨h.v0,h.v1,h.n0,h.n1,h.al,by simp [h.tx,h.nv], .inl h.se, .inr ?_⟩
  rcases hj with ⟨_,_,a,b⟩ | ⟨_,⟨a,_⟩ | ⟨_,a⟩ | ⟨_,a⟩⟩
  ·exact⟨a,b⟩
  ·omega
  ·rw [c.2] at a;cases a
  ·rw [c.2] at a;cases a
 ·split
  ·exact .bad 1 (by decide)
  ·rename_i c
   simp only [Bool.or_eq_true,Bool.not_eq_true',decide_eq_false_iff_not,decide_eq_true_eq,not_or,Decidable.not_not] at c
   have hs:W.getD 0 []≠ []:=hm (by omega)
   refine .ok ⟨h.v0,h.v1,h.n0,h.n1,h.al,by simp [h.tx,h.nv], .inr ?_, .inl hs⟩
   rcases hj with ⟨a,_⟩ | ⟨_,⟨a,_⟩ | ⟨a,_⟩ | ⟨a,_⟩⟩
   ·exact absurd a c.2
   ·exact .inl a
   ·exact .inr (.inl a)
   ·exact .inr (.inr a)
theorem iD {o:Order}(h:dP o){W:List AL}{m:Nat}(hl:m=W.length)(hm:∀ i,i < W.length→W.getD i []≠ []):RN (Lj o (Ds o.verb) W m):=by
 unfold Lj
 split
 ·split
  ·exact .bad 1 (by decide)
  ·refine dV h fun h0=>?_
   have:=hm 1 (by omega)
   rwa [List.getD_eq_getElem?_getD,List.getElem?_drop,← List.getD_eq_getElem?_getD]
 ·exact dV h fun h0=>hm 0 (by omega)
theorem Xr (k r:AL):(K0 k r).2.2.2=0→0≤(K0 k r).1∧(K0 k r).1≤99:=by
 unfold K0
 split
 ·split
  ·intro h;simp at h
  ·rename_i c
   intro _
   simp only [Bool.or_eq_true,decide_eq_true_eq,not_or] at c
   show 0≤_∧_≤99
   exact⟨by simp only;omega,by simp only;omega⟩
 ·intro h;simp at h
theorem Is (u:AL):(Br u).2.2.2=0→0≤(Br u).1∧(Br u).1≤99:=by
 unfold Br
 split
 ·intro _;simp
 ·split
  ·intro _;simp
  ·split
   ·split
    ·intro h;simp at h
    ·intro _;simp
   ·exact Xr _ _
theorem dW {v:Int}(h0:0≤v)(h1:v≤20)(hv:v≠11){W:List AL}{m:Nat}(hl:m=W.length)(hm:∀ i,i < W.length→W.getD i []≠ []):RN (KK v W m):=by
 unfold KK
 split
 ·exact .bad 1 (by decide)
 ·rename_i c
  simp only [Bool.or_eq_true,Bool.and_eq_true,Bool.not_eq_true',decide_eq_false_iff_not,not_or,not_and,Decidable.not_not,Bool.not_eq_false] at c
  have hn:=Is _ c.1
  refine iD (o:=⟨v,_,_,_,[],[]⟩) ⟨h0,h1,hn.1,hn.2,fun ha=>?_,rfl,hv,rfl⟩ (by simp [hl]) fun i hi=>?_
  ·have:=c.2 ha
   unfold many at this
   simp only [Bool.or_eq_true,decide_eq_true_eq] at this
   rcases this with (a | a) | a
   ·exact .inl a
   ·exact .inr (.inl a)
   ·exact .inr (.inr a)
  ·rw [List.getD_eq_getElem?_getD,List.getElem?_drop,← List.getD_eq_getElem?_getD]
   exact hm _ (by simp at hi;omega)
theorem iE {s:AL}{v:Int}(h0:0≤v)(h1:v≤20){W:List AL}{m:Nat}(hl:m=W.length)(hm:∀ i,i < W.length→W.getD i []≠ []):RN (PQ s v W m):=by
 unfold PQ
 split
 ·rename_i c
  have hv:v=11:=by simpa using c
  split
  ·exact .bad 1 (by decide)
  ·rename_i c2
   have hs:said s≠ []:=by simpa using c2
   refine .ok ⟨h0,h1,by simp,by simp,by simp,by simp [hs,hv], .inl rfl, .inr (by simp only;omega)⟩
 ·rename_i c
  have hv:v≠11:=by simpa using c
  split
  ·rename_i c2
   have hv2:v≤6∨19≤v:=by simpa using c2
   split
   ·exact .bad 1 (by decide)
   ·exact .ok (show Yq (⟨v,0,false,[],[],[]⟩:Order) from⟨h0,h1,by simp,by simp,by simp,by simp [hv], .inl rfl, .inr (by simp only;omega)⟩)
  ·split
   ·exact .bad 1 (by decide)
   ·split
    ·split
     ·rename_i c4 _
      have hv4:v=12∨v=13:=by simpa using c4
      refine .ok ⟨h0,h1,by simp,by simp,by simp,by simp [hv], .inl rfl, .inr (by simp only;omega)⟩
     ·exact dW h0 h1 hv hl hm
    ·exact dW h0 h1 hv hl hm
theorem Vj (s:AL):RN (parse s):=by
 unfold parse
 split
 ·exact .bad 1 (by decide)
 ·split
  ·rename_i c;exact .bad _ (by simpa using c)
  ·have hv:=Pw ((words s).getD 0 [])
   refine iE hv.1 hv.2 (by simp) fun i hi=>?_
   rw [List.getD_eq_getElem?_getD,List.getElem?_drop,← List.getD_eq_getElem?_getD]
   exact bI (by simp at hi;omega)
/-! #### spaces ahead and behind -/
def Bn:AL→AL
 | []=> []
 | x :: r=>if x=32 then r else Bn r
theorem OV:∀ {u:AL},(32:UInt8) ∉ u→Bn u = []
 | [],_=>rfl
 | x :: r,h=>by
  simp only [List.mem_cons,not_or] at h
  rw [Bn,if_neg (Ne.symm h.1),OV h.2]
theorem QS (r:AL):∀ {a:AL},(32:UInt8) ∉ a→Bn (a++32 :: r)=r
 | [],_=>by simp [Bn]
 | x :: a,h=>by
  simp only [List.mem_cons,not_or] at h
  rw [List.cons_append,Bn,if_neg (Ne.symm h.1),QS r h.2]
theorem cH (u:AL):(cut 32 u).2.1=Bn u:=by
 rcases Dh 32 u with ⟨e,h⟩ | ⟨i,e,h1,h2,h3⟩
 ·rw [OV h,cut,if_neg (by simp [e])]
 ·rw [cut,if_pos (by simp [e]),e]
  conv=>rhs;rw [← List.take_append_drop i u,h3]
  rw [QS _ h2]
  rw [show((i:Int)+1).toNat=i+1 by omega]
end Words
end Go.Ing
/- Verbs and nouns as the document has them. -/
namespace Go.Ing
open Go
namespace Words
def Hj (u:AL):Nat→Int × Int
 | 0=>(0,3)
 | n+1=>if (!decide (u = []) && decide ((u.length:Int)≤((AD.DE.getD (20 - n) []).length:Int)) && decide ((AD.DE.getD (20 - n) []).take u.length=u))=true then(((20 - n:Nat):Int),0) else Hj u n
theorem Un {w:AL}{k:Int}(h0:0≤k)(h1:k < 21):Hj w (21 - k).toNat=if (!decide (w = []) && decide ((w.length:Int)≤((AD.DE.getD k.toNat []).length:Int)) && decide ((AD.DE.getD k.toNat []).take w.length=w))=true then(k,0) else Hj w (21 - (k+1)).toNat:=by
 rw [show(21 - k).toNat=(21 - (k+1)).toNat+1 by omega,Hj,show 20 - (21 - (k+1)).toNat=k.toNat by omega,show((k.toNat:Nat):Int)=k by omega]
theorem RF (u:AL)(h:u≠ []):∀ n,Hj u n=I5 u n
 | 0=>rfl
 | n+1=>by
  have e:(!decide (u = []))=true:=by simp [h]
  rw [Hj,I5,RF u h n,e,Bool.true_and]
  rfl
theorem Pv:∀ n,Hj [] n=(0,3)
 | 0=>rfl
 | n+1=>by rw [Hj,Pv n];rfl
theorem Uo (u:AL):Hj u 21=verb u:=by
 by_cases h:u = []
 ·subst h;rw [Pv];rfl
 ·rw [RF u h,verb,if_pos (by simp [h])]
/-! #### nouns -/
def FP (i:Int)(c:Int):Bool:=decide (c < 48) || decide (57 < c) || (decide (i=0) && decide (c=48)) || decide (1 < i)
def Gh (k:AL):Nat→Int→Option Int
 | 0,n=>some n
 | r+1,n=>if FP ((k.length - (r+1):Nat):Int) ((k.getD (k.length - (r+1)) 0).toNat:Int)=true then none else Gh k r (10 * n+(((k.getD (k.length - (r+1)) 0).toNat:Int) - 48))
theorem XK {k:AL}{i n:Int}(h0:0≤i)(h1:i < k.length):Gh k ((k.length:Int) - i).toNat n=if FP i ((k.getD i.toNat 0).toNat:Int)=true then none else Gh k ((k.length:Int) - (i+1)).toNat (10 * n+(((k.getD i.toNat 0).toNat:Int) - 48)):=by
 rw [show((k.length:Int) - i).toNat=((k.length:Int) - (i+1)).toNat+1 by omega,Gh,show k.length - (((k.length:Int) - (i+1)).toNat+1)=i.toNat by omega,show((i.toNat:Nat):Int)=i by omega]
def MF (k rest:AL):Int × AL × Bool × Int:=
 match Gh k k.length 0 with
 | none=>(0,[],false,1)
 | some n=>if decide (n=0)=true then(0,[],false,1) else(n,rest,false,0)
def K8 (u:AL):Int × AL × Bool × Int:=
 if decide (u = [97,108,108])=true then(1,[],true,0)
 else if (decide (((pieces 46 u).length:Int)=1) && !decide (u = []))=true then(1,u,false,0)
 else if (!decide (((pieces 46 u).length:Int)=2) || decide ((pieces 46 u).getD 1 [] = []))=true then(0,[],false,1)
 else if decide ((pieces 46 u).getD 0 [] = [97,108,108])=true then(1,(pieces 46 u).getD 1 [],true,0)
 else MF ((pieces 46 u).getD 0 []) ((pieces 46 u).getD 1 [])
theorem JT {k r:AL}(h:Gh k k.length 0=none):MF k r=(0,[],false,1):=by unfold MF;rw [h]
theorem JU {k r:AL}{n:Int}(h:Gh k k.length 0=some n):MF k r=if decide (n=0)=true then(0,[],false,1) else(n,r,false,0):=by unfold MF;rw [h]
def QC (k r:AL):Int × AL × Bool × Int:=
 match Lib.atoiAll k with
 | .ok n=>if (decide (n < 1) || decide (99 < n) || decide (((k.getD (0:Int).toNat 0).toNat:Int) < 49) || decide (57 < ((k.getD (0:Int).toNat 0).toNat:Int)))=true then(0,[],false,1) else(n,r,false,0)
 | _=>(0,[],false,1)
theorem Xs {k r:AL}(h1:r≠ [])(h2:(46:UInt8) ∉ r):K0 k r=QC k r:=by
 have e1:decide (r = [])=false:=decide_eq_false h1
 have e2:decide (0≤Lib.indexByte r 46)=false:=by
  rcases Dh 46 r with ⟨e,_⟩ | ⟨i,_,hi,_,h4⟩
  ·rw [e];rfl
  ·exfalso
   have:(46:UInt8)∈r.drop i:=by rw [h4];simp
   exact h2 (List.mem_of_mem_drop this)
 cases h:Lib.atoiAll k
 ·unfold K0 QC;rw [h];simp only [e1,e2,Bool.or_false]
 ·unfold K0 QC;rw [h]
 ·unfold K0 QC;rw [h]
theorem Xt {k r:AL}(h:r = []∨(46:UInt8)∈r):K0 k r=(0,[],false,1):=by
 have e:(decide (r = []) || decide (0≤Lib.indexByte r 46))=true:=by
  rcases h with h | h
  ·simp [h]
  ·rcases Dh 46 r with ⟨_,h2⟩ | ⟨i,e,_⟩
   ·exact absurd h h2
   ·rw [e];simp
 unfold K0
 split
 ·rw [Bool.or_assoc _ (decide (r = [])),e,Bool.or_true];rfl
 ·rfl
theorem W3:∀(l:List UInt8) (acc u:Nat),Lib.parseUint10 acc l = .ok u→acc≤u
 | [],acc,u,h=>by simp only [Lib.parseUint10] at h;injection h with h;omega
 | c :: r,acc,u,h=>by
  simp only [Lib.parseUint10] at h
  split at h
  ·split at h
   ·cases h
   ·split at h
    ·cases h
    ·have:=W3 r _ u h;omega
  ·cases h
theorem YU {acc u:Nat}{c:UInt8}{r:List UInt8}(h:Lib.parseUint10 acc (c :: r) = .ok u):acc * 10≤u:=by
 simp only [Lib.parseUint10] at h
 split at h
 ·split at h
  ·cases h
  ·split at h
   ·cases h
   ·have:=W3 r _ u h;omega
 ·cases h
theorem ZR {c:UInt8}(h0:48≤c.toNat)(h1:c.toNat≤57):(((c.toNat - 48:Nat)):Int)=(c.toNat:Int) - 48:=by omega
theorem cu (k r:AL):QC k r=MF k r:=by
 cases k with
 | nil=>rfl
 | cons c t=>
  have hd:Gh (c :: t) (c :: t).length 0=if FP 0 (c.toNat:Int)=true then none else Gh (c :: t) t.length (10 * 0+((c.toNat:Int) - 48)):=by
   show Gh (c :: t) (t.length+1) 0=_
   rw [Gh,show(c :: t).length - (t.length+1)=0 by simp]
   rfl
  by_cases hc:49≤c.toNat∧c.toNat≤57
  ·have hb:FP 0 (c.toNat:Int)=false:=by unfold FP;simp;omega
   rw [hb] at hd
   simp only [Bool.false_eq_true,if_false] at hd
   have hsg:¬ (c.toNat=43∨c.toNat=45):=by omega
   have hn45:¬ c.toNat=45:=by omega
   have hat:Lib.atoiAll (c :: t)=match Lib.parseUint10 (c.toNat - 48) t with
     | .ok u=>if 9223372036854775808≤u then .range else .ok (u:Int)
     | .range=> .range
     | _=>Lib.atoiAll []:=by
    have e:(if c.toNat=43∨c.toNat=45 then t else c :: t)=c :: t:=if_neg hsg
    have hm:Lib.parseMag (c :: t)=Lib.parseUint10 (c.toNat - 48) t:=by
     unfold Lib.parseMag
     rw [if_neg (by simp),Lib.parseUint10,if_pos (by omega),if_neg (by omega),if_neg (by omega),show 0 * 10+(c.toNat - 48)=c.toNat - 48 by omega]
    unfold Lib.atoiAll
    simp only [e]
    rw [hm]
    cases Lib.parseUint10 (c.toNat - 48) t<;>simp [hn45,Lib.atoiAll]
   cases t with
   | nil=>
    rw [Lib.parseUint10] at hat
    simp only at hat
    rw [if_neg (by omega)] at hat
    have hdf:Gh [c] [c].length 0=some ((c.toNat:Int) - 48):=by rw [hd];simp [Gh]
    rw [JU hdf]
    unfold QC
    rw [hat,ZR (by omega) (by omega)]
    simp only
    have e0:(([c]:AL).getD (0:Int).toNat 0)=c:=rfl
    rw [e0,if_neg (by first | (simp;done) | (simp;omega)),if_neg (by first | (simp;done) | (simp;omega))]
   | cons d t=>
    have hd1:Gh (c :: d :: t) (d :: t).length (10 * 0+((c.toNat:Int) - 48))=if FP 1 (d.toNat:Int)=true then none else Gh (c :: d :: t) t.length (10 * (10 * 0+((c.toNat:Int) - 48))+((d.toNat:Int) - 48)):=by
     show Gh (c :: d :: t) (t.length+1) _=_
     rw [Gh,show(c :: d :: t).length - (t.length+1)=1 by first | (simp;done) | (simp;omega)]
     rfl
    rw [hd1] at hd
    by_cases hdd:48≤d.toNat∧d.toNat≤57
    ·have hb1:FP 1 (d.toNat:Int)=false:=by unfold FP;simp;omega
     rw [hb1] at hd
     simp only [Bool.false_eq_true,if_false] at hd
     rw [Lib.parseUint10,if_pos hdd,if_neg (by omega),if_neg (by omega)] at hat
     cases t with
     | nil=>
      rw [Lib.parseUint10] at hat
      simp only at hat
      rw [if_neg (by omega)] at hat
      have hdf:Gh [c,d] [c,d].length 0=some (10 * ((c.toNat:Int) - 48)+((d.toNat:Int) - 48)):=by rw [hd];simp [Gh]
      rw [JU hdf]
      unfold QC
      rw [hat]
      simp only
      have e0:(([c,d]:AL).getD (0:Int).toNat 0)=c:=rfl
      have e1:((((c.toNat - 48) * 10+(d.toNat - 48):Nat)):Int)=10 * ((c.toNat:Int) - 48)+((d.toNat:Int) - 48):=by omega
      rw [e0,e1,if_neg (by first | (simp;done) | (simp;omega)),if_neg (by first | (simp;done) | (simp;omega))]
     | cons e t=>
      have hd2:Gh (c :: d :: e :: t) (e :: t).length (10 * (10 * 0+((c.toNat:Int) - 48))+((d.toNat:Int) - 48))=none:=by
       show Gh (c :: d :: e :: t) (t.length+1) _=_
       rw [Gh,show(c :: d :: e :: t).length - (t.length+1)=2 by first | (simp;done) | (simp;omega),if_pos]
       unfold FP;simp
      rw [hd2] at hd
      rw [JT hd]
      unfold QC
      split
      ·rename_i n hn
       rw [if_pos]
       have hbig:99 < n:=by
        cases hq:Lib.parseUint10 ((c.toNat - 48) * 10+(d.toNat - 48)) (e :: t)
        ·rename_i u
         rw [hq] at hat
         simp only at hat
         have:=YU hq
         split at hat
         ·rw [hat] at hn;cases hn
         ·rw [hat] at hn;injection hn with hn;omega
        ·rw [hq] at hat;rw [hat] at hn;cases hn
        ·rw [hq] at hat;rw [hat] at hn;cases hn
       simp [hbig]
      ·rfl
    ·have hb1:FP 1 (d.toNat:Int)=true:=by
      unfold FP;simp;omega
     rw [hb1] at hd
     simp only [if_true] at hd
     rw [JT hd]
     rw [Lib.parseUint10,if_neg hdd] at hat
     unfold QC
     rw [hat]
     rfl
  ·have hb:FP 0 (c.toNat:Int)=true:=by unfold FP;simp;omega
   rw [hb] at hd
   simp only [if_true] at hd
   rw [JT hd]
   unfold QC
   split
   ·rw [if_pos]
    have e0:((c :: t:AL).getD (0:Int).toNat 0)=c:=rfl
    rw [e0]
    simp;omega
   ·rfl
theorem eW {u:AL}(h:(GP u [97,108,108,46]).2=true):∃ r,u = [97,108,108]++46 :: r∧(GP u [97,108,108,46]).1=r:=by
 unfold GP at h ⊢
 split at h
 ·cases h
 ·rename_i hp
  rw [if_neg hp]
  have hp':pre u [97,108,108,46]=true:=by simpa using hp
  obtain⟨_,h2⟩:=dB.1 hp'
  refine⟨u.drop 4,?_,rfl⟩
  conv=>lhs;rw [← List.take_append_drop 4 u]
  rw [show u.take 4 = [97,108,108,46] from h2]
  rfl
theorem ZN (r:AL):GP ([97,108,108]++46 :: r) [97,108,108,46]=(r,true):=by
 unfold GP
 rw [if_neg]
 ·rfl
 ·simp [pre];omega
theorem Lq {a b r t:AL}(ha:(46:UInt8) ∉ a)(hb:(46:UInt8) ∉ b)(h:a++46 :: r=b++46 :: t):a=b∧r=t:=by
 have h1:=FY (c:=46) r ha
 rw [h,FY t hb] at h1
 have h2:b=a:=(List.cons.inj h1).1
 subst h2
 exact⟨rfl,by simpa using h⟩
theorem HU (u:AL):K8 u=Br u:=by
 by_cases hu:(46:UInt8)∈u
 ·obtain⟨a,r,rfl,ha⟩:∃ a r,u=a++46 :: r∧(46:UInt8) ∉ a:=by
   rcases Dh 46 u with ⟨_,h⟩ | ⟨i,_,_,h2,h3⟩
   ·exact absurd hu h
   ·exact⟨u.take i,u.drop (i+1),by rw [← h3,List.take_append_drop],h2⟩
  have hp:=FY (c:=46) r ha
  have hne:¬ decide (a++46 :: r = [97,108,108])=true:=by
   intro e
   have e':a++46 :: r = [97,108,108]:=of_decide_eq_true e
   have:(46:UInt8)∈([97,108,108]:AL):=by rw [← e'];simp
   revert this;decide
  have hcut:cut 46 (a++46 :: r)=(a,r,true):=by
   rcases Dh 46 (a++46 :: r) with ⟨_,h⟩ | ⟨i,e,h1,h2,h3⟩
   ·exact absurd hu h
   ·have hs:(a++46 :: r).take i++46 :: (a++46 :: r).drop (i+1)=a++46 :: r:=by rw [← h3,List.take_append_drop]
    obtain⟨q1,q2⟩:=Lq h2 ha hs
    unfold cut
    rw [if_pos (by simp [e]),e,show((i:Int)).toNat=i by omega,show((i:Int)+1).toNat=i+1 by omega,q1,q2]
  have hl:(pieces 46 r).length≠0:=by have:=DT 46 r;omega
  unfold K8 Br
  rw [if_neg hne,if_neg hne,hp,hcut]
  have e1:¬ ((decide (((a :: pieces 46 r).length:Int)=1) && !decide (a++46 :: r = []))=true):=by simp;omega
  rw [if_neg e1]
  have g1:(a :: pieces 46 r).getD 1 []=(pieces 46 r).getD 0 []:=rfl
  have g0:(a :: pieces 46 r).getD 0 []=a:=rfl
  rw [g1,g0]
  have hno:¬ ((!(a,r,true).2.2)=true):=by simp
  by_cases hr:r = []∨(46:UInt8)∈r
  ·-- poor
   have e2:(!decide (((a :: pieces 46 r).length:Int)=2) || decide ((pieces 46 r).getD 0 [] = []))=true:=by
    rcases hr with rfl | hr
    ·rfl
    ·have hc:=List.count_pos_iff.2 hr
     have:=DT 46 r
     simp;omega
   rw [if_pos e2]
   have e3:¬ (((GP (a++46 :: r) [97,108,108,46]).2 && !decide ((GP (a++46 :: r) [97,108,108,46]).1 = []) && !decide (0≤Lib.indexByte (GP (a++46 :: r) [97,108,108,46]).1 46))=true):=by
    intro e
    rw [Bool.and_eq_true,Bool.and_eq_true] at e
    obtain⟨⟨e4,e5⟩,e6⟩:=e
    obtain⟨t,h1,h2⟩:=eW e4
    obtain⟨rfl,rfl⟩:=Lq ha (by decide) h1
    rw [h2] at e5 e6
    rcases hr with rfl | hr
    ·simp at e5
    ·rcases Dh 46 r with ⟨_,h⟩ | ⟨i,e,_⟩
     ·exact h hr
     ·rw [e] at e6;simp at e6
   rw [if_neg e3,if_neg hno]
   exact(Xt hr).symm
  ·-- A3
   have hr1:r≠ []:=fun h=>hr (.inl h)
   have hr2:(46:UInt8) ∉ r:=fun h=>hr (.inr h)
   rw [GD hr2]
   have g2:([r]:List AL).getD 0 []=r:=rfl
   rw [g2]
   have e2:¬ ((!decide (((a :: [r]:List AL).length:Int)=2) || decide (r = []))=true):=by simp [hr1]
   rw [if_neg e2]
   by_cases haa:a = [97,108,108]
   ·subst haa
    rw [if_pos (by simp),ZN]
    have e4:((r,true).2 && !decide ((r,true).1 = []) && !decide (0≤Lib.indexByte (r,true).1 46))=true:=by
     rcases Dh 46 r with ⟨e,_⟩ | ⟨i,_,_,_,h3⟩
     ·simp [hr1,e]
     ·exfalso
      have:(46:UInt8)∈r.drop i:=by rw [h3];simp
      exact hr2 (List.mem_of_mem_drop this)
    rw [if_pos e4]
   ·rw [if_neg (by simpa using haa)]
    have e3:¬ (((GP (a++46 :: r) [97,108,108,46]).2 && !decide ((GP (a++46 :: r) [97,108,108,46]).1 = []) && !decide (0≤Lib.indexByte (GP (a++46 :: r) [97,108,108,46]).1 46))=true):=by
     intro e
     rw [Bool.and_eq_true,Bool.and_eq_true] at e
     obtain⟨t,h1,_⟩:=eW e.1.1
     exact haa (Lq ha (by decide) h1).1
    rw [if_neg e3,if_neg hno]
    exact((Xs hr1 hr2).trans (cu a r)).symm
 ·have hp:=GD hu
  have hcut:cut 46 u=(u,[],false):=by
   rcases Dh 46 u with ⟨e,_⟩ | ⟨i,_,_,_,h3⟩
   ·unfold cut;rw [if_neg (by simp [e])]
   ·exfalso
    have:(46:UInt8)∈u.drop i:=by rw [h3];simp
    exact hu (List.mem_of_mem_drop this)
  unfold K8 Br
  split
  ·rfl
  ·rw [hp,hcut]
   have e3:¬ (((GP u [97,108,108,46]).2 && !decide ((GP u [97,108,108,46]).1 = []) && !decide (0≤Lib.indexByte (GP u [97,108,108,46]).1 46))=true):=by
    intro e
    rw [Bool.and_eq_true,Bool.and_eq_true] at e
    obtain⟨t,h1,_⟩:=eW e.1.1
    exact hu (by rw [h1];simp)
   by_cases h0:u = []
   ·subst h0;rfl
   ·rw [if_pos (by simp [h0]),if_neg e3,if_pos (show(!(u,([]:AL),false).2.2)=true from rfl),if_neg (by simp [h0])]
end Words
end Go.Ing
/- Orders as the document has them. -/
namespace Go.Ing
open Go
namespace Words
def Ni:AL:= [65,66,67,68,69,70,71,72,73,74,75,76,77,78,79,80,81,82,83,84,85,86,87,88,89,90]
def Nl (c:UInt8):UInt8:=if decide (0≤Lib.indexByte Ni c)=true then u8 (97+Lib.indexByte Ni c) else c
theorem Zz:∀ n:Fin 256,Nl (UInt8.ofNat n.val)=Tp (UInt8.ofNat n.val):=by decide +kernel
theorem ch (c:UInt8):Nl c=Tp c:=by
 have h:=Zz ⟨c.toNat,c.toNat_lt⟩
 simpa using h
theorem GM (c:UInt8):Lib.indexByte Ni c < 26:=by
 rcases Dh c Ni with ⟨e,_⟩ | ⟨i,e,h,_⟩
 ·omega
 ·have:Ni.length=26:=rfl
  omega
theorem Ts {c:UInt8}(h:decide (0≤Lib.indexByte Ni c)=true) : [Value.int .u8 (97+Lib.indexByte Ni c)] = [Nl c].flatMap CH:=by
 have h0:0≤Lib.indexByte Ni c:=of_decide_eq_true h
 have h1:=GM c
 rw [show Nl c=_ from if_pos h]
 simp [CH,Pt (n:=97+Lib.indexByte Ni c) (by omega) (by omega)]
theorem Wg {c:UInt8}(h:decide (0≤Lib.indexByte Ni c)=false) : [Value.int .u8 (c.toNat:Int)] = [Nl c].flatMap CH:=by
 rw [show Nl c=_ from if_neg (by rw [h];decide)];rfl
def LD (x:List AL × AL)(c:UInt8):List AL × AL:=if c=32 then(if x.2 = [] then x.1 else x.1 ++ [x.2],[]) else(x.1,x.2 ++ [Nl c])
def fN (s:AL):List AL × AL:=s.foldl LD ([],[])
theorem bH (s:AL):words s=((pieces 32 s).map low).filter fun w=>!decide (w = []):=by
 unfold words
 rw [List.filter_map]
 congr 1
 apply List.filter_congr
 intro x _
 have:(low x = [])↔(x = []):=by
  rw [← List.length_eq_zero_iff,SC,List.length_eq_zero_iff]
 simp [this]
theorem fM:∀(s:AL) (l:List AL) (now p:AL) (q:List AL),pieces 32 s=p :: q→((s ++ [32]).foldl LD (l,now)).1=l++((now++low p) :: q.map low).filter fun w=>!decide (w = [])
 | [],l,now,p,q,h=>by
  simp only [pieces,List.cons.injEq] at h
  obtain⟨rfl,rfl⟩:=h
  by_cases e:now = []<;>simp [LD,e,low]
 | x :: r,l,now,p,q,h=>by
  obtain⟨a,b,hr⟩:=List.exists_cons_of_ne_nil (Kr 32 r)
  rw [pieces] at h
  by_cases hx:x=32
  ·rw [if_pos hx,hr,List.cons.injEq] at h
   obtain⟨rfl,rfl⟩:=h
   subst hx
   rw [List.cons_append,List.foldl_cons,show LD (l,now) 32=(if now = [] then l else l ++ [now],[]) from if_pos rfl,fM r _ _ a b hr]
   by_cases e:now = []<;>simp [e,low]
  ·rw [if_neg hx,hr,List.cons.injEq] at h
   obtain⟨rfl,rfl⟩:=h
   rw [List.cons_append,List.foldl_cons,show LD (l,now) x=(l,now ++ [Nl x]) from if_neg hx,fM r _ _ a b hr,ch]
   simp [low]
theorem YW (s:AL):(fN (s ++ [32])).1=words s:=by
 obtain⟨p,q,h⟩:=List.exists_cons_of_ne_nil (Kr 32 s)
 unfold fN
 rw [fM s [] [] p q h,bH,h]
 simp
theorem Md {t:AL}{k:Int}(h0:0≤k)(h1:k < t.length):fN (t.take (k+1).toNat)=LD (fN (t.take k.toNat)) (t.getD k.toNat 0):=by
 unfold fN
 rw [ND (d:=0) h0 h1,List.foldl_append]
 rfl
theorem QW {c:UInt8}(h:decide ((c.toNat:Int)=32)=true):c=32:=W2 (c:=32) (of_decide_eq_true h)
theorem jq {c:UInt8}(h:decide ((c.toNat:Int)=32)=false):c≠32:=fun e=>by subst e;revert h;decide
/-! #### what is said -/
def dn (s:AL):AL:=s.dropWhile fun c=>!(c == 32)
theorem jN {r:AL}(h:(decide ((0:Int) < (r.length:Int)) && !decide (((r.getD (0:Int).toNat 0).toNat:Int)=32))=true):dn r=dn (r.drop 1):=by
 cases r with
 | nil=>simp at h
 | cons x r=>
  have hx:(x == 32)=false:=by
   rw [Bool.eq_false_iff]
   intro e
   have e':x=32:=by simpa using e
   subst e'
   revert h
   simp
  simp [dn,hx]
theorem jM {r:AL}(h:(decide ((0:Int) < (r.length:Int)) && !decide (((r.getD (0:Int).toNat 0).toNat:Int)=32))=false):dn r=r:=by
 cases r with
 | nil=>rfl
 | cons x r=>
  have hx:x=32:=by
   refine W2 (c:=32) ?_
   have h2:decide ((0:Int) < ((x :: r:AL).length:Int))=true:=decide_eq_true (by simp)
   rw [h2,Bool.true_and] at h
   simpa using h
  subst hx
  simp [dn]
theorem ZS:∀ u:AL,DG 32 (dn u)=DG 32 (Bn u)
 | []=>rfl
 | x :: r=>by
  by_cases hx:x=32
  ·subst hx;simp [dn,Bn,DG]
  ·have hb:(x == 32)=false:=by simpa using hx
   have e:dn (x :: r)=dn r:=by simp [dn,hb]
   rw [e,Bn,if_neg hx,ZS r]
theorem Ul (c:UInt8)(r:AL):Dy 32 (c :: r)=if Dy 32 r = [] then(if c=32 then [] else [c]) else c :: Dy 32 r:=by
  unfold Dy
  rw [List.reverse_cons,List.dropWhile_append]
  by_cases h:r.reverse.dropWhile (· == 32) = []
  · rw [h]
    by_cases hc:c=32
    · simp [hc]
    · have hb:(c == 32)=false:=by simpa using hc
      simp [hc,hb]
  · have h2:(r.reverse.dropWhile (· == 32)).isEmpty=false:=by simpa using h
    rw [h2]
    simp [h]
theorem Mb:∀ x:AL,Dy 32 (DG 32 x)=DG 32 (Dy 32 x)
 | []=>rfl
 | c :: r=>by
  by_cases hc:c=32
  ·subst hc
   have e1:DG 32 (32 :: r)=DG 32 r:=by simp [DG]
   rw [e1,Mb r,Ul]
   split
   ·rename_i h;rw [h,if_pos rfl]
   ·simp [DG]
  ·have hb:(c == 32)=false:=by simpa using hc
   have e1:∀ t,DG 32 (c :: t)=c :: t:=fun t=>by simp [DG,hb]
   rw [e1,Ul]
   split
   ·(try rw [if_neg hc]);exact(e1 _).symm
   ·exact(e1 _).symm
def NW (s:AL):AL:=Dy 32 (DG 32 (dn (DG 32 s)))
theorem aF (s:AL):NW s=said s:=by
 unfold NW said
 rw [Mb,← Mb,ZS,cH,Mb]
/-! #### orders -/
theorem Xa (v:Int):(P2 [(7,Ae [102,114,111,109]),(9,Ae [105,110]),(10,Ae [116,111])] v).getD (Ae [])=Ae (Ds v).1:=by
 unfold Ds
 by_cases h7:v=7
 ·subst h7;rfl
 ·by_cases h9:v=9
  ·subst h9;rfl
  ·by_cases h10:v=10
   ·subst h10;rfl
   ·have b7:(v == 7)=false:=by simpa using h7
    have b9:(v == 9)=false:=by simpa using h9
    have b10:(v == 10)=false:=by simpa using h10
    simp [P2,h7,h9,h10,b7,b9,b10]
def N5 (o:Order)(v:Int)(W:List AL)(m:Nat):Order × Int:=
 if (decide ((m:Int)=0) && !decide (v=9) && !decide (v=10))=true then(o,0)
 else if (!decide ((m:Int)=1) || decide ((Ds v).1 = []))=true then(default,1)
 else({ o with second:=W.getD 0 [] },0)
def N6 (o:Order)(v:Int)(W:List AL)(m:Nat):Order × Int:=
 if (!decide ((Ds v).1 = []) && decide (0 < (m:Int)) && decide (W.getD 0 []=(Ds v).1))=true then(if decide (((m - 1:Nat):Int)=0)=true then(default,1) else N5 o v (W.drop 1) (m - 1))
 else N5 o v W m
def alone (v:Int):Bool:=decide (v < 7) || decide (18 < v)
def ET (s:AL):Order × Int:=
 if decide (((words s).length:Int)=0)=true then(default,1)
 else if (!decide ((verb ((words s).getD 0 [])).2=0))=true then(default,(verb ((words s).getD 0 [])).2)
 else if decide ((verb ((words s).getD 0 [])).1=11)=true then(if decide (NW s = [])=true then(default,1) else(⟨(verb ((words s).getD 0 [])).1,0,false,[],[],NW s⟩,0))
 else if (alone (verb ((words s).getD 0 [])).1 != decide (((words s).length:Int)=1))=true then(default,1)
 else if alone (verb ((words s).getD 0 [])).1=true then(o0 (verb ((words s).getD 0 [])).1,0)
 else if ((decide ((verb ((words s).getD 0 [])).1=12) || decide ((verb ((words s).getD 0 [])).1=13)) && decide (((words s).length:Int)=2) && decide ((verb ((words s).getD 1 [])).2=0) && decide ((verb ((words s).getD 1 [])).1 < 6))=true then
  (⟨(verb ((words s).getD 0 [])).1,1,false,AD.DE.getD (verb ((words s).getD 1 [])).1.toNat [],[],[]⟩,0)
 else if (!decide ((Br ((words s).getD 1 [])).2.2.2=0) || ((Br ((words s).getD 1 [])).2.2.1 && !decide ((verb ((words s).getD 0 [])).1=7) && !decide ((verb ((words s).getD 0 [])).1=8) && !decide ((verb ((words s).getD 0 [])).1=9)))=true then(default,1)
 else N6 ⟨(verb ((words s).getD 0 [])).1,(Br ((words s).getD 1 [])).1,(Br ((words s).getD 1 [])).2.2.1,(Br ((words s).getD 1 [])).2.1,[],[]⟩ (verb ((words s).getD 0 [])).1 ((words s).drop 2) ((words s).length - 2)
theorem Xb (v:Int):(Ds v).2=(decide (v=9) || decide (v=10)):=by
 unfold Ds
 by_cases h7:v=7
 ·subst h7;rfl
 ·by_cases h9:v=9
  ·subst h9;rfl
  ·by_cases h10:v=10
   ·subst h10;rfl
   ·simp [h7,h9,h10]
theorem PO (o:Order)(v:Int)(W:List AL)(m:Nat):N5 o v W m=KJ o (Ds v) W m:=by
 unfold N5 KJ
 rw [Xb,Bool.and_assoc,show(!decide (v=9) && !decide (v=10))=!(decide (v=9) || decide (v=10)) by simp]
theorem Vi (o:Order)(v:Int)(W:List AL)(m:Nat):N6 o v W m=Lj o (Ds v) W m:=by
 unfold N6 Lj
 rw [PO,PO,Bool.and_comm (!decide ((Ds v).1 = []))]
theorem Cc (s:AL):ET s=parse s:=by
 unfold ET parse
 split
 ·rfl
 ·rename_i c1
  have hl:(words s).length≠0:=by simpa using c1
  split
  ·rfl
  ·generalize (verb ((words s).getD 0 [])).1=v
   unfold PQ
   rw [aF]
   split
   ·rfl
   ·rename_i c3
    have hg:((words s).drop 1).getD 0 []=(words s).getD 1 []:=by
     rw [List.getD_eq_getElem?_getD,List.getElem?_drop,← List.getD_eq_getElem?_getD]
    have hal:alone v=(decide (v≤6) || decide (19≤v)):=by
     unfold alone
     rw [show decide (v < 7)=decide (v≤6) from decide_eq_decide.2 ⟨fun _=>by omega,fun _=>by omega⟩,show decide (18 < v)=decide (19≤v) from decide_eq_decide.2 ⟨fun _=>by omega,fun _=>by omega⟩]
    rw [hal,hg]
    cases ha:(decide (v≤6) || decide (19≤v)) with
    | true=>
     by_cases h1:(words s).length=1
     ·simp [h1]
     ·have q0:decide (((words s).length:Int)=1)=false:=decide_eq_false (by omega)
      have q1:decide (0 < (((words s).length - 1:Nat):Int))=true:=decide_eq_true (by omega)
      rw [q0,q1]
      rfl
    | false=>
     by_cases h1:(words s).length=1
     ·simp [h1]
     ·have h2:¬ (words s).length - 1=0:=by omega
      have e0:decide (((words s).length:Int)=1)=false:=decide_eq_false (by omega)
      have e00:¬ decide ((((words s).length - 1:Nat):Int)=0)=true:=by simp;omega
      rw [e0]
      simp only [bne_self_eq_false,Bool.false_eq_true,if_false]
      rw [if_neg e00]
      have hN:(if (!decide ((Br ((words s).getD 1 [])).2.2.2=0) || ((Br ((words s).getD 1 [])).2.2.1 && !decide (v=7) && !decide (v=8) && !decide (v=9)))=true then((default:Order),(1:Int))
        else N6 ⟨v,(Br ((words s).getD 1 [])).1,(Br ((words s).getD 1 [])).2.2.1,(Br ((words s).getD 1 [])).2.1,[],[]⟩ v ((words s).drop 2) ((words s).length - 2))=KK v ((words s).drop 1) ((words s).length - 1):=by
       unfold KK
       rw [hg,Vi,List.drop_drop,show(words s).length - 1 - 1=(words s).length - 2 by omega]
       have e:((Br ((words s).getD 1 [])).2.2.1 && !decide (v=7) && !decide (v=8) && !decide (v=9))=((Br ((words s).getD 1 [])).2.2.1 && !many v):=by
        unfold many
        cases decide (v=7)<;>cases decide (v=8)<;>cases decide (v=9)<;>simp
       rw [e]
      rw [hN]
      by_cases hd:(decide (v=12) || decide (v=13))=true
      ·rw [if_pos hd,hd,Bool.true_and]
       have e2:decide (((words s).length:Int)=2)=decide ((((words s).length - 1:Nat):Int)=1):=decide_eq_decide.2 ⟨fun _=>by omega,fun _=>by omega⟩
       rw [e2]
       have e3:(decide ((((words s).length - 1:Nat):Int)=1) && decide ((verb ((words s).getD 1 [])).2=0) && decide ((verb ((words s).getD 1 [])).1 < 6))=(decide ((verb ((words s).getD 1 [])).2=0) && decide ((verb ((words s).getD 1 [])).1 < 6) && decide ((((words s).length - 1:Nat):Int)=1)):=by
        cases decide ((((words s).length - 1:Nat):Int)=1)<;>simp
       rw [e3]
      ·rw [if_neg hd]
       have hd':(decide (v=12) || decide (v=13))=false:=by simpa using hd
       rw [hd']
       simp
theorem fG {v:Int}{n:Nat}(h1:((decide (v < 7) || decide (18 < v)) != decide ((n:Int)=1))=false)(h2:(decide (v < 7) || decide (18 < v))=false)(h0:¬ n=0):2≤n:=by
 rw [h2] at h1
 have:decide ((n:Int)=1)=false:=by simpa using h1
 have:=of_decide_eq_false this
 omega
end Words
end Go.Ing
/- The program's data, in Lean, and their parts. -/
namespace Go.Ing
open Go
structure AZ where
 w:AD
 b:Int
 out:Hd
instance:Inhabited AZ:=⟨⟨default,0,⟨none,0,0⟩⟩⟩
def AZ.enc (x:AZ):List Value:=AD.enc x.w++AT x.b++EF x.out
instance AZ.fl:Flat AZ.enc 167:=⟨fun x=>by simp [AZ.enc,AD.fl.len,P1.len,Bo.len],fun x v hv=>by
 simp only [AZ.enc,List.mem_append] at hv
 rcases hv with (h | h) | h
 ·exact AD.fl.one _ v h
 ·exact Bo.one _ v h
 ·exact P1.one _ v h⟩
instance AZ.l0:Ab AZ.enc (AD.enc) 0 165 (fun x=>x.w) (fun x y=>{ x with w:=y }):=
 Ab.EP AD.fl (fun _=> []) (fun x=>AT x.b++EF x.out) (fun _=>rfl) (fun x=>by simp [AZ.enc]) (fun x y=>by simp [AZ.enc])
instance AZ.l1:Ab AZ.enc (AT) 165 1 (fun x=>x.b) (fun x y=>{ x with b:=y }):=
 Ab.EP Bo (fun x=>AD.enc x.w) (fun x=>EF x.out) (fun x=>by simp [AD.fl.len]) (fun x=>by simp [AZ.enc]) (fun x y=>by simp [AZ.enc])
instance AZ.l2:Ab AZ.enc (EF) 166 1 (fun x=>x.out) (fun x y=>{ x with out:=y }):=
 Ab.EP P1 (fun x=>AD.enc x.w++AT x.b) (fun _=> []) (fun x=>by simp [AD.fl.len,Bo.len]) (fun x=>by simp [AZ.enc]) (fun x y=>by simp [AZ.enc])
end Go.Ing
/- What comes of what beings do: plain functions. -/
namespace Go.Ing
open Go
structure AA where
 w:AD
 b:Int
 out:List Event
namespace AA
def Dn (k:Int):Event:=⟨k,0,0,-1,0,0,[],[],[],[],default⟩
def me (T:AA):BC:=T.w.AF.at T.b
def Za (T:AA)(e:Event):Event:={ e with Ak:=T.b,CT:=T.me.name,room:=T.me.room }
def DR (T:AA)(e:Event):Event:=if decide (0≤e.other)=true then { T.Za e with D8:=(T.w.AF.at e.other).name } else T.Za e
def Al (T:AA)(e:Event):AA:={ T with out:=T.out ++ [T.w.GK (T.DR e) 6] }
def kind (T:AA)(k:Int):AA:=T.Al (Dn k)
def AP (T:AA)(k i:Int):AA:=T.Al { Dn k with AP:=(T.w.AH.at i).name }
def tell (T:AA)(s:AL):AA:=T.Al { Dn 16 with text:=s }
@[simp] theorem fT (T:AA) (e:Event):(T.Al e).w=T.w:=rfl
@[simp] theorem fS (T:AA) (e:Event):(T.Al e).b=T.b:=rfl
@[simp] theorem BE (T:AA) (e:Event):(T.Al e).out.length=T.out.length+1:=by simp [Al]
@[simp] theorem jY (T:AA) (s:AL):(T.tell s).w=T.w:=rfl
@[simp] theorem jX (T:AA) (s:AL):(T.tell s).b=T.b:=rfl
@[simp] theorem BQ (T:AA) (s:AL):(T.tell s).out.length=T.out.length+1:=by simp [tell]
/-! #### lists -/
def CY (w:AD):AL→List Int→AL
 | s,[]=>s
 | s,i :: r=>CY w (if (w.AH.at i).on=true then s ++ [32]++(w.AH.at i).name ++ [42] else s ++ [32]++(w.AH.at i).name) r
def Qs (w:AD)(s:AL)(l:List Int):AL:=if decide ((l.length:Int)=0)=true then CY w s l ++ [32,110,111,116,104,105,110,103] else CY w s l
def list (T:AA)(s:AL)(l:List Int):AA:=T.tell (Qs T.w s l ++ [46])
/-! #### what is about -/
def Gd (r:Room):Nat→AL
 | 0=> [87,97,121,115,58]
 | d+1=>if decide (r.BH.at (d:Int)=0)=true then Gd r d else if r.shut.at (d:Int)=true then Gd r d++([32]++AD.called d) ++ [42] else Gd r d++([32]++AD.called d)
def D5 (T:AA):Nat→AA
 | 0=>T
 | k+1=>if (!decide ((k:Int)=T.b) && T.w.EI T.b k)=true then(D5 T k).tell ((T.w.AF.at k).name ++ [32,105,115,32,104,101,114,101,46]) else D5 T k
def J5:AL:= [73,116,32,105,115,32,100,97,114,107,46]
def D6 (T:AA):AA:=
 ((T.tell ([84,104,101,32]++(T.w.Ad.at T.me.room).name ++ [46])).tell (Gd (T.w.Ad.at T.me.room) 6))
def BU (T:AA):AA:=if decide (0 < ((T.w.has 0 T.me.room).length:Int))=true then T.D6.list [72,101,114,101,32,105,115] (T.w.has 0 T.me.room) else T.D6
def look (T:AA):AA:=if (!T.w.EE T.me.room)=true then T.tell J5 else D5 T.BU 6
def ZM:AL:= [89,111,117,32,99,97,110,110,111,116,32,103,111,32,116,104,101,114,101,46]
def R6:AL:= [73,116,32,105,115,32,115,104,117,116,46]
def HT (T:AA)(r:Int):AA:={ T with w:={ T.w with AF:=T.w.AF.put T.b { T.me with room:=r,A1:=0 } } }
def walk (T:AA)(d:Int):AA:=
 if decide ((T.w.Ad.at T.me.room).BH.at d=0)=true then T.tell ZM
 else if (T.w.Ad.at T.me.room).shut.at d=true then T.tell R6
 else(((T.Al { Dn 1 with dir:=d }).HT ((T.w.Ad.at T.me.room).BH.at d - 1)).Al { Dn 2 with dir:=AD.opposite d }).look
/-! #### things that are meant -/
def HV (w:AD)(name:AL)(l:List Int):List Int:=l.filter fun i=>decide (name = []) || decide ((w.AH.at i).name=name)
def AR (w:AD)(l:List Int)(nth:Int)(name:AL)(all:Bool):List Int:=
 if all=true then HV w name l
 else if (decide (nth < 1) || decide (((HV w name l).length:Int) < nth))=true then []
 else((HV w name l).take nth.toNat).drop (nth - 1).toNat
def seen (T:AA):List Int:=if (!T.w.EE T.me.room)=true then [] else T.w.has 0 T.me.room
def own (T:AA):List Int:=T.w.has 1 T.b
def one (T:AA)(u:AL):Int × Bool:=
 if (!decide ((Words.Br u).2.2.2=0) || (Words.Br u).2.2.1)=true then(0,false)
 else if decide (((AR T.w (T.own++T.seen) (Words.Br u).1 (Words.Br u).2.1 false).length:Int)=0)=true then(0,false)
 else((AR T.w (T.own++T.seen) (Words.Br u).1 (Words.Br u).2.1 false).getD 0 0,true)
def HB:AL:= [84,104,101,114,101,32,105,115,32,110,111,32,115,117,99,104,32,116,104,105,110,103,46]
def SG:AL:= [89,111,117,32,104,97,118,101,32,110,111,32,115,117,99,104,32,116,104,105,110,103,46]
def KI:AL:= [84,104,101,114,101,32,105,115,32,110,111,98,111,100,121,32,111,102,32,116,104,97,116,32,110,97,109,101,46]
def fK:AL:= [89,111,117,32,119,101,97,114,32,105,116,46]
def Z2:AL:= [84,104,97,116,32,99,97,110,110,111,116,32,98,101,46]
def Zh:AL:= [73,116,32,105,115,32,115,111,46]
def IL:AL:= [89,111,117,32,102,105,103,104,116,46]
def box (T:AA)(u:AL):AA × Int × Bool:=
 if (!(T.one u).2 || !decide ((T.w.AH.at (T.one u).1).kind=3))=true then(T.tell HB,0,false)
 else if (!(T.w.AH.at (T.one u).1).on)=true then(T.tell R6,0,false)
 else(T,(T.one u).1,true)
def Ci (T:AA)(i:Int)(t:A9):AA:={ T with w:={ T.w with AH:=T.w.AH.put i t } }
def place (T:AA)(i BZ at_:Int):AA:=T.Ci i { T.w.AH.at i with BZ:=BZ,at_:=at_ }
def CL (T:AA):List Int→AA
 | []=>T
 | i :: r=>CL ((T.place i 1 T.b).AP 3 i) r
def Ot (T:AA)(l:List Int)(o:Order):AA:=CL (if decide (((AR T.w l o.nth o.name o.Am).length:Int)=0)=true then T.tell HB else T) (AR T.w l o.nth o.name o.Am)
def get (T:AA)(o:Order):AA:=
 if (!decide (o.second = []))=true then
  (if (!(T.box o.second).2.2)=true then(T.box o.second).1 else(T.box o.second).1.Ot ((T.box o.second).1.w.has 2 (T.box o.second).2.1) o)
 else T.Ot T.seen o
def Fk (T:AA)(name:AL):Nat→Int→Option Int
 | 0,_=>none
 | r+1,n=>if (decide (((6 - (r+1):Nat):Int)=T.b) || !decide ((T.w.AF.at ((6 - (r+1):Nat):Int)).name=name) || !T.w.EI T.b ((6 - (r+1):Nat):Int))=true then Fk T name r n else if decide (n - 1=0)=true then some ((6 - (r+1):Nat):Int) else Fk T name r (n - 1)
def AS (T:AA)(u:AL):AA × Int × Bool:=
  if (decide ((Words.Br u).2.2.2=0) && !(Words.Br u).2.2.1)=true then
    (match Fk T (Words.Br u).2.1 6 (Words.Br u).1 with
     | some k=>(T,k,true)
     | none=>(T.tell KI,0,false))
  else(T.tell KI,0,false)
def Bh (T:AA)(v to i:Int):AA:=
 if (decide ((T.w.AH.at i).kind=2) && (T.w.AH.at i).on)=true then T.tell fK
 else if decide (v=8)=true then(T.place i 0 T.me.room).AP 4 i
 else if decide (v=10)=true then(T.place i 1 to).Al { Dn 6 with other:=to,AP:=(T.w.AH.at i).name }
 else if T.w.O6 to i=true then T.tell Z2
 else(T.place i 2 to).Al { Dn 5 with AP:=(T.w.AH.at i).name,text:=(T.w.AH.at to).name }
def FV (T:AA)(v to:Int):List Int→AA
 | []=>T
 | i :: r=>FV (T.Bh v to i) v to r
def Xh (T:AA)(to:Int)(o:Order):AA:=FV (if decide (((AR T.w T.own o.nth o.name o.Am).length:Int)=0)=true then T.tell SG else T) o.verb to (AR T.w T.own o.nth o.name o.Am)
def B0 (T:AA)(o:Order):AA × Int × Bool:=if decide (o.verb=9)=true then T.box o.second else if decide (o.verb=10)=true then T.AS o.second else(T,0,true)
def EM (T:AA)(o:Order):AA:=if (!(T.B0 o).2.2)=true then(T.B0 o).1 else(T.B0 o).1.Xh (T.B0 o).2.1 o
def BV (T:AA)(b f:Int):AA:={ T with w:={ T.w with AF:=T.w.AF.put b { T.w.AF.at b with A1:=f } } }
def FR (T:AA)(o:Order):AA:=
 if (!(T.AS (if (!decide (o.nth=1) || o.Am)=true then [] else o.name)).2.2)=true then(T.AS (if (!decide (o.nth=1) || o.Am)=true then [] else o.name)).1
 else
  let k:=(T.AS (if (!decide (o.nth=1) || o.Am)=true then [] else o.name)).2.1
  let T1:=(T.AS (if (!decide (o.nth=1) || o.Am)=true then [] else o.name)).1.BV (T.AS (if (!decide (o.nth=1) || o.Am)=true then [] else o.name)).1.b (k+1)
  (if decide ((T1.w.AF.at k).A1=0)=true then T1.BV k ((T.AS (if (!decide (o.nth=1) || o.Am)=true then [] else o.name)).1.b+1) else T1).tell IL
/-! #### what is set -/
def before (T:AA)(first:Bool)(i:Int)(on:Bool)(ev:Int):AA:=
 if first=true then(T.Ci i { T.w.AH.at i with on:=on }).AP ev i
 else(T.AP ev i).Ci i { T.w.AH.at i with on:=on }
def By (T:AA)(r d:Int)(v:Bool):AA:={ T with w:={ T.w with Ad:=T.w.Ad.put r { T.w.Ad.at r with shut:=(T.w.Ad.at r).shut.put d v } } }
def Jg:AL:= [100,111,111,114]
def Hk (T:AA)(d:Int)(on:Bool)(ev:Int):AA:=
 if decide ((T.w.Ad.at T.me.room).BH.at d - 1 < 0)=true then T.tell HB
 else if ((T.w.Ad.at T.me.room).shut.at d != on)=true then T.tell Zh
 else
  let to:=(T.w.Ad.at T.me.room).BH.at d - 1
  let T1:=T.By T.me.room d (!on)
  (if decide ((T1.w.Ad.at to).BH.at (AD.opposite d)=T.me.room+1)=true then T1.By to (AD.opposite d) (!on) else T1).Al { Dn ev with AP:=Jg }
def CG (v:Int):Bool:=decide (v=12) || decide (v=14) || decide (v=16)
def setKind (v:Int):Int:=if (decide (v=14) || decide (v=15))=true then 1 else if (decide (v=16) || decide (v=17))=true then 2 else 3
def Q5 (v:Int):Int:=v - 4
def B9 (T:AA)(o:Order):List Int:=AR T.w (if decide (setKind o.verb=3)=true then T.own++T.seen else T.own) (max o.nth 1) o.name false
def set (T:AA)(o:Order):AA:=
 if ((Words.dir o.name).2 && decide (setKind o.verb=3))=true then T.Hk (Words.dir o.name).1 (CG o.verb) (Q5 o.verb)
 else if (decide (((T.B9 o).length:Int)=0) || !decide ((T.w.AH.at ((T.B9 o).getD 0 0)).kind=setKind o.verb))=true then T.tell HB
 else if ((T.w.AH.at ((T.B9 o).getD 0 0)).on == CG o.verb)=true then T.tell Zh
 else if CG o.verb=true then T.before (!decide (setKind o.verb=2)) ((T.B9 o).getD 0 0) (CG o.verb) (Q5 o.verb)
 else T.before (decide (setKind o.verb=2)) ((T.B9 o).getD 0 0) (CG o.verb) (Q5 o.verb)
/-! #### who is gone -/
def Cz (T:AA)(i:Int):AA:=T.Ci i { T.w.AH.at i with on:=if decide ((T.w.AH.at i).kind=2)=true then false else(T.w.AH.at i).on,BZ:=0,at_:=T.me.room }
def BM (T:AA):List Int→AA
 | []=>T
 | i :: r=>BM (T.Cz i) r
def CS (T:AA):Nat→AA
 | 0=>T
 | k+1=>if decide (((CS T k).w.AF.at (k:Int)).A1=T.b+1)=true then(CS T k).BV k 0 else CS T k
def EG (T:AA):AA:=(CS (T.BM T.own) 6).BV T.b 0
def Cy (T:AA)(b:Int)(x:BC):AA:={ T with w:={ T.w with AF:=T.w.AF.put b x } }
def J6 (T:AA):AA:=(T.kind 18).EG.Cy T.b default
/-! #### what a being does -/
def act (T:AA)(o:Order):AA:=
 if decide (o.verb < 6)=true then T.walk o.verb
 else if decide (o.verb=6)=true then T.look
 else if decide (o.verb=19)=true then T.list [89,111,117,32,104,97,118,101] (T.w.has 1 T.b)
 else if decide (o.verb=11)=true then T.Al { Dn 7 with text:=o.text }
 else if decide (o.verb=20)=true then T.J6
 else if decide (o.verb=18)=true then T.FR o
 else if decide (o.verb=7)=true then T.get o
 else if (decide (o.verb=8) || decide (o.verb=9) || decide (o.verb=10))=true then T.EM o
 else T.set o
def Dk (X:AD)(b:Int)(o:Order):AD × List Event × Int:=
 if (!X.A3)=true then(X,[],2)
 else if (decide (b < 0) || decide (6≤b) || !(X.AF.at b).here)=true then(X,[],3)
 else if (decide (o.verb < 0) || decide (20 < o.verb))=true then(X,[],5)
 else((AA.act ⟨X,b,[]⟩ o).w,(AA.act ⟨X,b,[]⟩ o).out,0)
end AA
end Go.Ing
/- Engine: the program's own variables, beside what is handed on. -/
namespace Go.Ing
open Go
section
variable {w0 w:World} {M:List Nat} {L A K:List AJ} {g:Nat} {vs:List Value}
theorem GV.lt (h:GV g vs w):g < w.heap.size:=by
 obtain⟨t,fz,e⟩:=h
 rcases Nat.lt_or_ge g w.heap.size with h' | h'
 ·exact h'
 ·rw [Array.getElem?_eq_none h'] at e;cases e
theorem GV.stM (h:GV g vs w0)(hM:g ∉ M)(hS:St w0 M w L):GV g vs w:=by
 have hg:=h.lt
 obtain⟨t,fz,e⟩:=h
 exact⟨t,fz,(hS.IW g hg hM).trans e⟩
theorem PJ (hg:g < w0.heap.size)(hM:g ∉ M)(hS:St w0 M w L)(hp:AK L A K):g ∉ BP A:=by
 intro hf
 obtain⟨r,hr,hb⟩:=List.mem_flatMap.1 hf
 have hm:r∈L:=hp.perm.symm.subset (List.mem_append_left _ hr)
 exact hM ((hS.Bp r hm g hb).2 hg)
theorem GV.pull (h:GV g vs w0)(hM:g ∉ M)(hS:St w0 M w L)(hp:AK L A K):GV g vs w∧g ∉ BP A:=⟨h.stM hM hS,PJ h.lt hM hS hp⟩
theorem Ea.stM (h:Ea g w0)(hM:g ∉ M)(hS:St w0 M w L):Ea g w:=by
 obtain⟨tp,p,h⟩:=h;exact⟨tp,p,h.stM hM hS⟩
theorem Ea.pull (h:Ea g w0)(hM:g ∉ M)(hS:St w0 M w L)(hp:AK L A K):Ea g w∧g ∉ BP A:=by
 obtain⟨tp,p,h⟩:=h;exact⟨⟨tp,p,h.stM hM hS⟩,PJ h.lt hM hS hp⟩
end
section
variable {P:Program} {n:Nat} {w0:World} {M:List Nat} {Q:Exit→Go.Act→World→Prop} {F F':List (Nat × Value)} {L L':List AJ} {ops:Array Oper} {rest:List Oper}
theorem Uz {α:Type}{e:α→List Value}{d T U E sz:Nat}{x y z:Operand}{pos:String}{Bn:Array Edge}{h:Hd}{xs:List α}{kd kz:IntKind}{i j:Int}{Lf:AJ→List AJ}(fe:Flat e sz)(hd:Nat.blt d n=true)(hT:P.underlying T=some (.slice E))(hs:Sz P E sz)(hx:ev F x=some h.val)(hy:ev F y=some (.int kd i))(hz:ev F z=some (.int kz j))(h0:0≤i)(h1:i≤j)(h2:j≤(h.len:Int))(hU:∀ r,Ig L (AJ.own h E sz (xs.flatMap e)) r (Lf r))
  (k:GL P n w0 M ops Q rest ((d,(h.cut i.toNat j.toNat sz).val) :: F) (Lf (AJ.own (h.cut i.toNat j.toNat sz) E sz (((xs.take j.toNat).drop i.toNat).flatMap e)))):GL P n w0 M ops Q (⟨some d, .slice T x (some y) (some z) none,U,pos,Bn,none⟩ :: rest) F L:=by
 refine E3 (R:=fun v L'=>v=(h.cut i.toNat j.toNat sz).val∧L'=Lf (AJ.own (h.cut i.toNat j.toNat sz) E sz (((xs.take j.toNat).drop i.toNat).flatMap e))) hd ?_ (fun v L' ⟨e1,e2⟩=>by subst e1;subst e2;exact k)
 intro a w hF hS
 have hok:=hS.ok _ (hU ⟨[],fun _=>True,fun _ _ _ _=>trivial⟩).mem
 have hr:Rd w h E sz (xs.flatMap e):=Kn.own (M:=M) (hU ⟨[],fun _=>True,fun _ _ _ _=>trivial⟩).mem w hS
 have hcap:h.len≤h.cap:=by
  rcases hok with ⟨rfl,_⟩ | ⟨b,o,C,fz,e1,e2,e3,e4,e5,e6,_⟩
  ·exact Nat.le_refl _
  ·exact e6
 have hil:i.toNat≤j.toNat:=by omega
 have hjl:j.toNat≤h.len:=by omega
 have hlc:h.len * sz≤h.cap * sz:=Nat.mul_le_mul_right sz hcap
 have hjc:j.toNat * sz≤h.len * sz:=Nat.mul_le_mul_right sz hjl
 have hll:i.toNat * sz≤j.toNat * sz:=Nat.mul_le_mul_right sz hil
 have hcs:((xs.flatMap e).take (j.toNat * sz)).drop (i.toNat * sz)=((xs.take j.toNat).drop i.toNat).flatMap e:=L6 fe xs
 have hlen:(((xs.take j.toNat).drop i.toNat).flatMap e).length=j.toNat * sz - i.toNat * sz:=by
  rw [← hcs,List.length_drop,List.length_take,← hr.1,Nat.min_eq_left hjc]
 refine⟨_,_,w,⟨rfl,rfl⟩,?_,?_⟩
 ·have hs':=hs w
  have hjcap:j≤(h.cap:Int):=by omega
  simp only [execOp,hF.ev hx,Option.map_some,Option.map_none,hF.ev hy,hF.ev hz,Hd.val,Instr.sliceAt,Instr.slice,underlying]
  simp [hT,Instr.sliceBounds,Instr.sliceBound,asIntOf,h1,h0,hs',Hd.cut,hjcap,show 0≤j by omega,show i≤max j 0 by omega]
 ·refine hS.Dz (hU _) rfl rfl rfl (Nat.le_refl _) (fun _ _ _=>rfl) ?_ ?_
  ·rcases hok with ⟨rfl,hn⟩ | ⟨b,o,C,fz,e1,e2,e3,e4,e5,e6,e7,e8⟩
   ·have hj0:j.toNat=0:=by simp at hjl;omega
    have hi0:i.toNat=0:=by omega
    refine .inl ⟨by simp [Hd.cut,hj0,hi0],?_⟩
    rw [List.eq_nil_of_length_eq_zero (l:=((xs.take j.toNat).drop i.toNat).flatMap e) (by rw [hlen,hj0];simp)]
   ·by_cases hci:h.cap=i.toNat
    ·have hji:j.toNat=i.toNat:=by omega
     refine .inr ⟨b,o,C,fz,by simp only [Hd.cut];rw [if_pos hci];exact e1,e2,e3,e4,?_,?_,?_,?_⟩
     ·simp only [Hd.cut];rw [hci,Nat.sub_self,Nat.zero_mul];omega
     ·simp only [Hd.cut];omega
     ·simp only [Hd.cut];rw [hlen,Nat.sub_mul]
     ·have hl0:(((xs.take j.toNat).drop i.toNat).flatMap e).length=0:=by rw [hlen,hji];omega
      rw [List.eq_nil_of_length_eq_zero hl0];simp
    ·refine .inr ⟨b,o+i.toNat * sz,C,fz,by simp only [Hd.cut];rw [if_neg hci,e1];simp [ED],e2,e3,fun j hj h=>e4 j (by omega) h,?_,?_,?_,?_⟩
     ·simp only [Hd.cut];rw [Nat.sub_mul];omega
     ·simp only [Hd.cut];omega
     ·simp only [Hd.cut];rw [hlen,Nat.sub_mul]
     ·have hX:xs.flatMap e=(C.drop o).take (h.len * sz):=by rw [hr.1];exact e8.symm
      have hY:((xs.take j.toNat).drop i.toNat).flatMap e=((C.drop o).take (j.toNat * sz)).drop (i.toNat * sz):=by rw [← hcs,hX,List.take_take,Nat.min_eq_left hjc]
      rw [hlen,hY,List.drop_take,List.drop_drop]
  ·intro b hb
   have hb':b∈(AJ.own h E sz (xs.flatMap e)).Bp:=by
    revert hb
    simp only [AJ.own,Hd.cut]
    cases ha:h.a with
    | none=>by_cases hc:h.cap=i.toNat<;>simp [hc]
    | some a=>
     by_cases hc:h.cap=i.toNat
     ·simp [hc]
     ·simp only [hc,if_false,Option.map_some]
      unfold Addr.add
      split<;>simp
   exact⟨(hS.Bp _ (hU ⟨[],fun _=>True,fun _ _ _ _=>trivial⟩).mem b hb').1, .inl hb'⟩
theorem Ig.iI {L L':List AJ}{r r':AJ}(h:Ig L r r' L')(e:r=r'):L'=L:=by
 induction h with
 | head=>subst e;rfl
 | tail _ ih=>rw [ih e]
theorem CZ {cd:Code}{b T:Nat}{c c':List Value}{Lf:AJ→List AJ}(hU:∀ r,Ig L (AJ.box b T c) r (Lf r))(e:c=c')(k:G P n w0 M cd Q F (Lf (AJ.box b T c'))):G P n w0 M cd Q F L:=by
 subst e
 rwa [(hU (AJ.box b T c)).iI rfl] at k
theorem Yl {Pr:Prop}{cd:Code}(hp:∀ w,St w0 M w L→Pr)(k:Pr→G P n w0 M cd Q F L):G P n w0 M cd Q F L:=fun a w hF hS=>k (hp w hS) a w hF hS
theorem Sm {T U g o:Nat}{x:Operand}{v:Value}{vs:List Value}(hg:GV g vs w0)(hM:g ∉ M)(hx:ev F x=some (.pointer (some ⟨g,o,none⟩)))(hT:S0 P T)(hv:vs[o]?=some v):PS P n w0 M (.load T x) U F L v L:=by
 intro a w hF hS
 obtain⟨t,fz,e⟩:=hg.stM hM hS
 have hc:w.cell? ⟨g,o,none⟩=some v:=(F8 e).trans hv
 exact⟨w,by simp [execOp,hF.ev hx,Instr.loadAt,Instr.sureAddr,loadVar,hT w,hc],rfl,rfl⟩
theorem eC {α β:Type}[Inhabited α]{ea:α→List Value}{eb:β→List Value}{sz p q:Nat}{g:α→β}{s:α→β→α}{T U E i:Nat}{h:Hd}{x:Operand}{xs:List α}{v:Value}
  (hx:ev F x=some (h.ptr i sz p)) (hT:S0 P T) (fe:Flat ea sz) (hl:Ab ea eb p q g s) (hk:Kn w0 M L h E sz (xs.flatMap ea)) (hi:i < xs.length) (hv:eb (g (xs.getD i default)) = [v]):PS P n w0 M (.load T x) U F L v L:=by
 have e:xs.getD i default=xs[i]:=by simp [List.getD,hi]
 rw [e] at hv
 exact RV hx hT fe hl hk hi hv
end
section
variable {p:Prop} [Decidable p] {a b:Bool} {m n:Int}
theorem kJ:((!a)=false)=(a=true):=Bool.not_eq_false' a
theorem kK:((a || b)=true)=(a=true∨b=true):=Bool.or_eq_true a b
theorem jn:((a && b)=true)=(a=true∧b=true):=Bool.and_eq_true a b
theorem jR:((a || b)=false)=(a=false∧b=false):=propext Bool.or_eq_false_iff
theorem kI:((a && b)=false)=(a=false∨b=false):=propext Bool.and_eq_false_iff
end
end Go.Ing
/- What comes of what beings do: plain laws. -/
namespace Go.Ing
open Go
structure AD.Co (w:AD):Prop where
 th:∀ i,(w.AH.at i).name.length≤140737488351232
 be:∀ i,(w.AF.at i).name.length≤140737488351232
 ro:∀ i,(w.Ad.at i).name.length≤140737488351232
namespace AA
theorem MA {l:List Int}{k:Int}(h0:0≤k)(h1:k < l.length):l.drop k.toNat=l.getD k.toNat 0 :: l.drop (k+1).toNat:=by
 have hk:k.toNat < l.length:=by omega
 rw [List.drop_eq_getElem_cons hk,show(k+1).toNat=k.toNat+1 by omega,List.getD_eq_getElem?_getD,List.getElem?_eq_getElem hk]
 rfl
theorem Wd {w:AD}{s:AL}{l:List Int}{k:Int}(h0:0≤k)(h1:k < l.length)(h:(w.AH.at (l.getD k.toNat 0)).on=true):CY w s (l.drop k.toNat)=CY w (s++([32]++(w.AH.at (l.getD k.toNat 0)).name) ++ [42]) (l.drop (k+1).toNat):=by
 rw [MA h0 h1,CY,if_pos h];simp
theorem Wc {w:AD}{s:AL}{l:List Int}{k:Int}(h0:0≤k)(h1:k < l.length)(h:(w.AH.at (l.getD k.toNat 0)).on=false):CY w s (l.drop k.toNat)=CY w (s++([32]++(w.AH.at (l.getD k.toNat 0)).name)) (l.drop (k+1).toNat):=by
 rw [MA h0 h1,CY,if_neg (by rw [h];decide)];simp
theorem Lt {r:Room}{k:Int}(h:0≤k):Gd r (k+1).toNat=if decide (r.BH.at k=0)=true then Gd r k.toNat else if r.shut.at k=true then Gd r k.toNat++([32]++AD.called k) ++ [42] else Gd r k.toNat++([32]++AD.called k):=by
 obtain⟨m,rfl⟩:=Int.eq_ofNat_of_zero_le h
 rfl
theorem F5 (r:Room):∀ k:Nat,(Gd r k).length≤5+k * 22
 | 0=>by simp [Gd]
 | k+1=>by
  have ih:=F5 r k
  have hc:=AD.E6 (k:Int)
  unfold Gd
  repeat' split
  all_goals (try simp only [List.length_append,List.length_cons,List.length_nil])
  all_goals omega
theorem HA (T:AA):∀ k:Nat,(T.D5 k).w=T.w∧(T.D5 k).b=T.b∧(T.D5 k).out.length≤T.out.length+k
 | 0=>⟨rfl,rfl,by simp [D5]⟩
 | k+1=>by
  obtain⟨h1,h2,h3⟩:=HA T k
  unfold D5
  split
  ·exact⟨by simpa using h1,by simpa using h2,by rw [BQ];omega⟩
  ·exact⟨h1,h2,by omega⟩
theorem Cu {T:AA}{k:Int}(h:0≤k):T.D5 (k+1).toNat=if (!decide (k=T.b) && T.w.EI T.b k)=true then(T.D5 k.toNat).tell ((T.w.AF.at k).name ++ [32,105,115,32,104,101,114,101,46]) else T.D5 k.toNat:=by
 obtain⟨m,rfl⟩:=Int.eq_ofNat_of_zero_le h
 rfl
@[simp] theorem JR (T:AA) (s:AL) (l:List Int):(T.list s l).w=T.w∧(T.list s l).b=T.b∧(T.list s l).out.length=T.out.length+1:=⟨rfl,rfl,by simp [list]⟩
theorem N3 (T:AA):T.D6.w=T.w∧T.D6.b=T.b∧T.D6.out.length=T.out.length+2:=⟨rfl,rfl,by simp [D6]⟩
theorem JS (T:AA):T.BU.w=T.w∧T.BU.b=T.b∧T.BU.out.length≤T.out.length+3:=by
 have h:=T.N3
 unfold BU
 split
 ·have h2:=T.D6.JR [72,101,114,101,32,105,115] (T.w.has 0 T.me.room)
  exact⟨h2.1.trans h.1,h2.2.1.trans h.2.1,by omega⟩
 ·exact⟨h.1,h.2.1,by omega⟩
theorem M3 (T:AA):T.look.w=T.w∧T.look.b=T.b∧T.look.out.length≤T.out.length+9:=by
 unfold look
 split
 ·exact⟨rfl,rfl,by rw [BQ];omega⟩
 ·have h:=T.JS
  have h2:=T.BU.HA 6
  exact⟨h2.1.trans h.1,h2.2.1.trans h.2.1,by omega⟩
end AA
theorem Aa.CU {xs:List Int}{i:Nat}(h:i < xs.length):xs.getD i 0∈xs:=by
 rw [List.getD_eq_getElem?_getD,List.getElem?_eq_getElem h]
 exact List.getElem_mem h
theorem AD.VJ {w:AD}{r:Int}(h:(!w.EE r)=false):0≤r∧r < 6:=by
 unfold AD.EE at h
 split at h
 ·simp at h
 ·rename_i c;simp at c;omega
theorem AD.E0 {w:AD}{BZ at_ i:Int}(h:i∈w.has BZ at_):0≤i∧i < 9:=by
 unfold AD.has at h
 have:=(List.mem_filter.1 h).1
 obtain⟨n,hn,rfl⟩:=List.mem_map.1 this
 have:=List.mem_range.1 hn
 exact⟨by simp,by show((n:Nat):Int) < 9;omega⟩
theorem AD.Fw (w:AD)(BZ at_:Int):(w.has BZ at_).length≤9:=by
 rw [AD.Ow];exact AD.Ov w BZ at_ _
end Go.Ing
/- What beings do keeps the land good: plain laws. -/
namespace Go.Ing
open Go
theorem Vector.EV {α:Type}[Inhabited α]{n:Nat}(v:Vector α n)(k:Int)(x y:α):(v.put k x).put k y=v.put k y:=by
 unfold Vector.put
 apply Vector.ext
 intro i hi
 simp only [Vector.getElem_setIfInBounds]
 split<;>rfl
theorem Vector.Bk {α:Type}[Inhabited α]{n:Nat}{v:Vector α n}{k:Int}{x:α}(h0:0≤k)(h1:k < n):(v.put k x).at k=x:=by rw [IK v k k x h0 h1 h0,if_pos rfl]
theorem Vector.EK {α:Type}[Inhabited α]{n:Nat}{v:Vector α n}{k i:Int}{x:α}(h0:0≤k)(h1:k < n)(hi:0≤i)(hn:i≠k):(v.put k x).at i=v.at i:=by rw [IK v k i x h0 h1 hi,if_neg hn]
namespace AD
variable {X Y:AD}
theorem Out.path:∀ {m:Nat} {i:Int},0≤i→i < 9→Out X m i→∃ s:List Int,NQ s+s.length=9∧s.length=m+1∧∀ j∈s,∃ k,k≤m∧Out X k j
 | 0,i,h0,h9,h=>⟨[] ++ [i],by have:=Fy (s:= []) (i:=i) (by simp) h0 h9;simp only [List.length_append,List.length_cons,List.length_nil];have:NQ []=9:=rfl;omega,rfl,fun j hj=>by
   have:j=i:=by simpa using hj
   subst this;exact⟨0,Nat.le_refl _,h⟩⟩
 | m+1,i,h0,h9,h=>by
  obtain⟨s,h1,h2,h3⟩:=Out.path h.2.1 h.2.2.1 h.2.2.2
  have hn:i ∉ s:=fun hm=>by
   obtain⟨k,hk,ho⟩:=h3 i hm
   have:=h.uniq ho
   omega
  have hl:=Fy hn h0 h9
  refine⟨s ++ [i],by simp only [List.length_append,List.length_cons,List.length_nil];omega,by simp only [List.length_append,List.length_cons,List.length_nil];omega,fun j hj=>?_⟩
  rcases List.mem_append.1 hj with hj | hj
  ·obtain⟨k,hk,ho⟩:=h3 j hj
   exact⟨k,by omega,ho⟩
  ·have:j=i:=by simpa using hj
   subst this;exact⟨m+1,Nat.le_refl _,h⟩
theorem Out.kM {m:Nat}{i:Int}(h0:0≤i)(h9:i < 9)(h:Out X m i):m≤8:=by
 obtain⟨s,h1,h2,_⟩:=h.path h0 h9
 omega
theorem L5:∀ {m n:Nat} {i:Int},Out X m i→m < n→X.Hr n (X.AH.at i)=true
 | _,0,_,_,h=>absurd h (Nat.not_lt_zero _)
 | 0,n+1,i,h,_=>by
  unfold Hr
  rw [if_pos (by simpa using (show(X.AH.at i).BZ≠2 from h))]
 | m+1,n+1,i,h,hl=>by
  unfold Hr
  rw [if_neg (by simp [h.1]),if_neg (by have:=h.2.1;have:=h.2.2.1;simp;omega)]
  exact L5 h.2.2.2 (by omega)
structure OU (X:AD)(i:Int):Prop where
 k0:0≤(X.AH.at i).kind
 k3:(X.AH.at i).kind≤3
 plain:(X.AH.at i).kind=0→(X.AH.at i).on=false
 a0:0≤(X.AH.at i).at_
 BZ:((X.AH.at i).BZ=0∧(X.AH.at i).at_ < 6∧¬ ((X.AH.at i).kind=2∧(X.AH.at i).on=true)) ∨
  ((X.AH.at i).BZ=1∧(X.AH.at i).at_ < 6∧(X.AF.at (X.AH.at i).at_).here=true) ∨
  ((X.AH.at i).BZ=2∧(X.AH.at i).at_ < 9∧(X.AH.at (X.AH.at i).at_).kind=3∧¬ ((X.AH.at i).kind=2∧(X.AH.at i).on=true))
theorem RZ.p {i:Int}(h:RZ X i):OU X i:=⟨h.k0,h.k3,h.plain,h.a0,by
 rcases h.BZ with h | h | ⟨h1,h2,h3,h4,_⟩
 ·exact .inl h
 ·exact .inr (.inl h)
 ·exact .inr (.inr ⟨h1,h2,h3,h4⟩)⟩
theorem Ry {i:Int}(h:OU X i)(h0:0≤i)(h9:i < 9){m:Nat}(ho:Out X m i):X.Bs i=true:=by
 have hc:=L5 ho (show m < 10 by have:=ho.kM h0 h9;omega)
 have:=h.k0;have:=h.k3;have:=h.a0
 unfold Bs
 rw [if_neg (by
  simp only [Bool.or_eq_true,Bool.and_eq_true,decide_eq_true_eq]
  rintro (((h1 | h1) | ⟨h1,h2⟩) | h1)
  ·omega
  ·omega
  ·rw [h.plain h1] at h2;cases h2
  ·omega)]
 rcases h.BZ with ⟨w,a,b⟩ | ⟨w,a,b⟩ | ⟨w,a,k,b⟩
 ·rw [if_pos (by simp [w])]
  simp only [Bool.and_eq_true,decide_eq_true_eq,Bool.not_eq_true']
  refine⟨a,?_⟩
  cases hh:(decide ((X.AH.at i).kind=2) && (X.AH.at i).on) with
  | false=>rfl
  | true=>rw [Bool.and_eq_true] at hh;exact absurd ⟨of_decide_eq_true hh.1,hh.2⟩ b
 ·rw [if_neg (by simp [w]),if_pos (by simp [w])]
  simp [a,b]
 ·rw [if_neg (by simp [w]),if_neg (by simp [w]),if_pos (by simp [w]),if_neg (by
   simp only [Bool.or_eq_true,Bool.and_eq_true,decide_eq_true_eq,Bool.not_eq_true',decide_eq_false_iff_not]
   rintro ((h1 | h1) | ⟨h1,h2⟩)
   ·omega
   ·exact h1 k
   ·exact b ⟨h1,h2⟩)]
  exact hc
theorem R0 (hr:∀ r d,0≤r→r < 6→0≤d→d < 6→F7 (X.Ad.at r) d=false)(hb:∀ b,0≤b→b < 6→Cb (X.AF.at b)=false)(ht:∀ i,0≤i→i < 9→OU X i∧∃ m,Out X m i):X.A3=true:=by
 unfold A3
 rw [Bool.and_eq_true,Bool.and_eq_true]
 refine⟨(CD 6).2 fun r h0 h1=>?_,(CD 6).2 fun b h0 h1=>?_,(CD 9).2 fun i h0 h1=>?_⟩
 ·exact(CD 6).2 fun d d0 d1=>by rw [hr r d (by omega) h1 (by omega) d1];rfl
 ·rw [hb b (by omega) h1];rfl
 ·obtain⟨hp,m,ho⟩:=ht i (by omega) h1
  exact Ry hp (by omega) h1 ho
theorem Out.same (h:∀ i,0≤i→i < 9→(Y.AH.at i).BZ=(X.AH.at i).BZ∧(Y.AH.at i).at_=(X.AH.at i).at_):∀ {m:Nat} {i:Int},0≤i→i < 9→Out X m i→Out Y m i
 | 0,i,h0,h9,ho=>by show(Y.AH.at i).BZ≠2;rw [(h i h0 h9).1];exact ho
 | m+1,i,h0,h9,ho=>by
  refine⟨(h i h0 h9).1.trans ho.1,?_⟩
  rw [(h i h0 h9).2]
  exact⟨ho.2.1,ho.2.2.1,Out.same h ho.2.1 ho.2.2.1 ho.2.2.2⟩
theorem Out.other {k:Int}(h:∀ i,0≤i→i < 9→i≠k→Y.AH.at i=X.AH.at i)(hk:∃ m,Out Y m k):∀ {m:Nat} {i:Int},0≤i→i < 9→Out X m i→∃ m',Out Y m' i
 | 0,i,h0,h9,ho=>by
  by_cases e:i=k
  ·subst e;exact hk
  ·exact⟨0,by show(Y.AH.at i).BZ≠2;rw [h i h0 h9 e];exact ho⟩
 | m+1,i,h0,h9,ho=>by
  by_cases e:i=k
  ·subst e;exact hk
  ·obtain⟨m',h'⟩:=Out.other h hk ho.2.1 ho.2.2.1 ho.2.2.2
   exact⟨m'+1,by rw [Out,h i h0 h9 e];exact⟨ho.1,ho.2.1,ho.2.2.1,h'⟩⟩
theorem Out.gp {k:Int}(h:∀ i,0≤i→i < 9→i≠k→Y.AH.at i=X.AH.at i):∀ {m n:Nat} {i:Int},0≤i→i < 9→Out X m i→m < n→X.inside k n i=false→Out Y m i
 | 0,0,_,_,_,_,hl,_=>absurd hl (Nat.not_lt_zero _)
 | _+1,0,_,_,_,_,hl,_=>absurd hl (Nat.not_lt_zero _)
 | 0,n+1,i,h0,h9,ho,hl,hi=>by
  have e:i≠k:=fun e=>by unfold inside at hi;rw [if_pos (by simp [e])] at hi;cases hi
  show(Y.AH.at i).BZ≠2;rw [h i h0 h9 e];exact ho
 | m+1,n+1,i,h0,h9,ho,hl,hi=>by
  have e:i≠k:=fun e=>by unfold inside at hi;rw [if_pos (by simp [e])] at hi;cases hi
  unfold inside at hi
  rw [if_neg (by simp [e]),if_neg (by simp [ho.1];omega)] at hi
  rw [Out,h i h0 h9 e]
  exact⟨ho.1,ho.2.1,ho.2.2.1,Out.gp h ho.2.1 ho.2.2.1 ho.2.2.2 (by omega) hi⟩
end AD
end Go.Ing
/- What beings do keeps the land good: the parts of a turn. -/
namespace Go.Ing
open Go
theorem Vector.QU {α:Type}[Inhabited α]{n:Nat}(v:Vector α n)(k i:Int)(x:α):(v.put k x).at i=x∨(v.put k x).at i=v.at i:=by
 unfold Vector.put Vector.at
 rw [List.getD_eq_getElem?_getD,List.getD_eq_getElem?_getD]
 simp only [Vector.toList_setIfInBounds]
 rw [List.getElem?_set]
 split
 ·split
  ·exact .inl rfl
  ·rename_i h1 h2
   exact .inr (by rw [← h1,List.getElem?_eq_none (by omega)])
 ·exact .inr rfl
namespace AD
variable {X:AD}
def It (X:AD)(i:Int)(t:A9):AD:={ X with AH:=X.AH.put i t }
def Bc (X:AD)(b:Int)(x:BC):AD:={ X with AF:=X.AF.put b x }
def PW (X:AD)(r d:Int)(v:Bool):AD:={ X with Ad:=X.Ad.put r { X.Ad.at r with shut:=(X.Ad.at r).shut.put d v } }
theorem IQ (hg:X.A3=true){i:Int}(h0:0≤i)(h9:i < 9):OU X i:=(MZ (JQ hg h0 h9)).p
theorem Mr (hg:X.A3=true){i:Int}(h0:0≤i)(h9:i < 9):∃ m,Out X m i:=by
 obtain⟨m,_,h⟩:=Ou hg h0 h9;exact⟨m,h⟩
theorem N7 {i j:Int}(h0:0≤i)(h9:i < 9)(j0:0≤j)(hn:j≠i)(t:A9):(X.It i t).AH.at j=X.AH.at j:=Vector.EK h0 h9 j0 hn
theorem Hw {i:Int}(h0:0≤i)(h9:i < 9)(t:A9):(X.It i t).AH.at i=t:=Vector.Bk h0 h9
theorem Hv {i j:Int}(h0:0≤i)(h9:i < 6)(j0:0≤j)(hn:j≠i)(t:BC):(X.Bc i t).AF.at j=X.AF.at j:=Vector.EK h0 h9 j0 hn
theorem Dx {i:Int}(h0:0≤i)(h9:i < 6)(t:BC):(X.Bc i t).AF.at i=t:=Vector.Bk h0 h9
theorem Mt (hg:X.A3=true){i:Int}(h0:0≤i)(h9:i < 9){t:A9}(hk:t.kind=(X.AH.at i).kind)(hp:OU (X.It i t) i)(ho:∃ m,Out (X.It i t) m i):(X.It i t).A3=true:=by
 have hs:∀ j,0≤j→j < 9→j≠i→(X.It i t).AH.at j=X.AH.at j:=fun j j0 _ hn=>N7 h0 h9 j0 hn t
 refine R0 (fun r d r0 r6 d0 d6=>Kj hg r0 r6 d0 d6) (fun b b0 b6=>E8 hg b0 b6) fun j j0 j9=>?_
 obtain⟨m,hm⟩:=Mr hg j0 j9
 refine⟨?_,Out.other hs ho j0 j9 hm⟩
 by_cases e:j=i
 ·subst e;exact hp
 ·have q:=IQ hg j0 j9
  have hkk:∀ a,0≤a→a < 9→((X.It i t).AH.at a).kind=(X.AH.at a).kind:=fun a a0 a9=>by
   by_cases ea:a=i
   ·subst ea;rw [Hw h0 h9,hk]
   ·rw [hs a a0 a9 ea]
  have ej:=hs j j0 j9 e
  refine⟨by rw [ej];exact q.k0,by rw [ej];exact q.k3,by rw [ej];exact q.plain,by rw [ej];exact q.a0,?_⟩
  rw [ej]
  rcases q.BZ with h | h | ⟨h1,h2,h3,h4⟩
  ·exact .inl h
  ·exact .inr (.inl h)
  ·exact .inr (.inr ⟨h1,h2,by rw [hkk _ q.a0 h2];exact h3,h4⟩)
theorem Kk (hg:X.A3=true){b:Int}(h0:0≤b)(h6:b < 6){x:BC}(hx:Cb x=false)(hh:∀ i,0≤i→i < 9→(X.AH.at i).BZ=1→(X.AH.at i).at_=b→x.here=true):(X.Bc b x).A3=true:=by
 refine R0 (fun r d r0 r6 d0 d6=>Kj hg r0 r6 d0 d6) (fun c c0 c6=>?_) fun j j0 j9=>?_
 ·by_cases e:c=b
  ·subst e;rw [Dx h0 h6];exact hx
  ·rw [Hv h0 h6 c0 e];exact E8 hg c0 c6
 ·obtain⟨m,hm⟩:=Mr hg j0 j9
  refine⟨?_,m,Out.same (X:=X) (Y:=X.Bc b x) (fun _ _ _=>⟨rfl,rfl⟩) j0 j9 hm⟩
  have q:=IQ hg j0 j9
  refine⟨q.k0,q.k3,q.plain,q.a0,?_⟩
  rcases q.BZ with h | ⟨h1,h2,h3⟩ | h
  ·exact .inl h
  ·refine .inr (.inl ⟨h1,h2,?_⟩)
   show((X.Bc b x).AF.at (X.AH.at j).at_).here=true
   by_cases e:(X.AH.at j).at_=b
   ·rw [e,Dx h0 h6];exact hh j j0 j9 h1 e
   ·rw [Hv h0 h6 q.a0 e];exact h3
  ·exact .inr (.inr h)
theorem XW (hg:X.A3=true){r d:Int}(h0:0≤r)(h6:r < 6)(d0:0≤d)(d6:d < 6){v:Bool}(hv:v=true→(X.Ad.at r).BH.at d≠0):(X.PW r d v).A3=true:=by
 refine R0 (fun c e c0 c6 e0 e6=>?_) (fun b b0 b6=>E8 hg b0 b6) fun j j0 j9=>?_
 ·have q:=Kj hg c0 c6 e0 e6
  by_cases ec:c=r
  ·subst ec
   have er:(X.PW c d v).Ad.at c={ X.Ad.at c with shut:=(X.Ad.at c).shut.put d v }:=Vector.Bk h0 h6
   rw [er]
   unfold F7 at q ⊢
   show(decide ((X.Ad.at c).BH.at e < 0) || decide (6 < (X.Ad.at c).BH.at e) || (decide ((X.Ad.at c).BH.at e=0) && ((X.Ad.at c).shut.put d v).at e))=false
   rw [IK _ _ _ _ d0 d6 e0]
   split
   ·rename_i ee
    subst ee
    cases v with
    | false=>
     simp only [Bool.and_false,Bool.or_false]
     rw [Bool.or_eq_false_iff] at q
     exact q.1
    | true=>simpa [hv rfl] using (Bool.or_eq_false_iff.1 q).1
   ·exact q
  ·rw [show(X.PW r d v).Ad.at c=X.Ad.at c from Vector.EK h0 h6 c0 ec];exact q
 ·obtain⟨m,hm⟩:=Mr hg j0 j9
  have q:=IQ hg j0 j9
  exact⟨⟨q.k0,q.k3,q.plain,q.a0,q.BZ⟩,m,Out.same (X:=X) (Y:=X.PW r d v) (fun _ _ _=>⟨rfl,rfl⟩) j0 j9 hm⟩
/-! #### what is done to a thing -/
section
variable {i:Int} (hg:X.A3=true) (h0:0≤i) (h9:i < 9)
include hg h0 h9
theorem NO {v:Bool}{a:Int}(ha:0≤a∧a < 6)(hv:(X.AH.at i).kind=0→v=false)(hc:¬ ((X.AH.at i).kind=2∧v=true)):(X.It i { X.AH.at i with on:=v,BZ:=0,at_:=a }).A3=true:=by
 have q:=IQ hg h0 h9
 refine Mt hg h0 h9 (by rfl) ?_ ⟨0,by show((X.It i _).AH.at i).BZ≠2;rw [Hw h0 h9];intro hc;cases hc⟩
 refine⟨?_,?_,?_,?_,?_⟩<;>rw [Hw h0 h9]
 ·exact q.k0
 ·exact q.k3
 ·exact hv
 ·exact ha.1
 ·exact .inl ⟨rfl,ha.2,hc⟩
theorem TV {a:Int}(ha:0≤a∧a < 6)(hh:(X.AF.at a).here=true):(X.It i { X.AH.at i with BZ:=1,at_:=a }).A3=true:=by
 have q:=IQ hg h0 h9
 refine Mt hg h0 h9 (by rfl) ?_ ⟨0,by show((X.It i _).AH.at i).BZ≠2;rw [Hw h0 h9];intro hc;cases hc⟩
 refine⟨?_,?_,?_,?_,?_⟩<;>rw [Hw h0 h9]
 ·exact q.k0
 ·exact q.k3
 ·exact q.plain
 ·exact ha.1
 ·exact .inr (.inl ⟨rfl,ha.2,hh⟩)
theorem TW {a:Int}(ha:0≤a∧a < 9)(hk:(X.AH.at a).kind=3)(hc:¬ ((X.AH.at i).kind=2∧(X.AH.at i).on=true))(hi:X.O6 a i=false):(X.It i { X.AH.at i with BZ:=2,at_:=a }).A3=true:=by
 have q:=IQ hg h0 h9
 have hs:∀ j,0≤j→j < 9→j≠i→(X.It i { X.AH.at i with BZ:=2,at_:=a }).AH.at j=X.AH.at j:=fun j j0 _ hn=>N7 h0 h9 j0 hn _
 have hai:a≠i:=fun e=>by subst e;rw [XZ] at hi;cases hi
 obtain⟨m,hm10,hm⟩:=Ou hg ha.1 ha.2
 have hm':=Out.gp hs ha.1 ha.2 hm hm10 hi
 refine Mt hg h0 h9 (by rfl) ?_ ⟨m+1,by rw [Out,Hw h0 h9];exact⟨rfl,ha.1,ha.2,hm'⟩⟩
 refine⟨?_,?_,?_,?_,?_⟩<;>rw [Hw h0 h9]
 ·exact q.k0
 ·exact q.k3
 ·exact q.plain
 ·exact ha.1
 ·refine .inr (.inr ⟨rfl,ha.2,?_,hc⟩)
  show((X.It i _).AH.at a).kind=3
  rw [hs a ha.1 ha.2 hai];exact hk
end
end AD
end Go.Ing
/- What beings do keeps the land good: a turn. -/
namespace Go.Ing
open Go
namespace AD
end AD
namespace AA
structure Fit (T:AA):Prop where
 b:0≤T.b∧T.b < 6
 br:T.w.Co
 gd:T.w.A3=true
 here:(T.w.AF.at T.b).here=true
structure Step (b:Int)(X Y:AD):Prop where
 th:∀ i,0≤i→i < 9→(Y.AH.at i).name=(X.AH.at i).name∧(Y.AH.at i).kind=(X.AH.at i).kind
 own:∀ i,0≤i→i < 9→(X.AH.at i).BZ=1→(X.AH.at i).at_≠b→Y.AH.at i=X.AH.at i
 be:∀ c,0≤c→c < 6→c≠b→{ Y.AF.at c with A1:=0 }={ X.AF.at c with A1:=0 }
 ro:∀ r,0≤r→r < 6→(Y.Ad.at r).name=(X.Ad.at r).name∧(Y.Ad.at r).J5=(X.Ad.at r).J5∧(Y.Ad.at r).BH=(X.Ad.at r).BH
theorem Step.refl (b:Int)(X:AD):Step b X X:=⟨fun _ _ _=>⟨rfl,rfl⟩,fun _ _ _ _ _=>rfl,fun _ _ _ _=>rfl,fun _ _ _=>⟨rfl,rfl,rfl⟩⟩
theorem Step.trans {b:Int}{X Y Z:AD}(h:Step b X Y)(k:Step b Y Z):Step b X Z:=
  ⟨fun i h0 h9=>⟨(k.th i h0 h9).1.trans (h.th i h0 h9).1,(k.th i h0 h9).2.trans (h.th i h0 h9).2⟩,
   fun i h0 h9 h1 h2=>by
    have e:=h.own i h0 h9 h1 h2
    exact(k.own i h0 h9 (by rw [e];exact h1) (by rw [e];exact h2)).trans e,
   fun c h0 h6 hn=>(k.be c h0 h6 hn).trans (h.be c h0 h6 hn),
   fun r h0 h6=>⟨(k.ro r h0 h6).1.trans (h.ro r h0 h6).1,(k.ro r h0 h6).2.1.trans (h.ro r h0 h6).2.1,(k.ro r h0 h6).2.2.trans (h.ro r h0 h6).2.2⟩⟩
theorem Fit.FW {T T':AA}(h:T.Fit)(hw:T'.w=T.w)(hb:T'.b=T.b):T'.Fit:=⟨by rw [hb];exact h.b,by rw [hw];exact h.br,by rw [hw];exact h.gd,by rw [hw,hb];exact h.here⟩
theorem Fit.Al {T:AA}(h:T.Fit)(e:Event):(T.Al e).Fit:=h.FW rfl rfl
theorem Fit.tell {T:AA}(h:T.Fit)(s:AL):(T.tell s).Fit:=h.FW rfl rfl
theorem Fit.room {T:AA}(h:T.Fit):0≤(T.w.AF.at T.b).room∧(T.w.AF.at T.b).room < 6:=by
 have:=AD.E8 h.gd h.b.1 h.b.2
 simp only [AD.Cb,Bool.or_eq_false_iff,decide_eq_false_iff_not] at this
 omega
theorem Fit.exit {T:AA}(h:T.Fit){d:Int}(d0:0≤d)(d6:d < 6):0≤(T.w.Ad.at (T.w.AF.at T.b).room).BH.at d∧(T.w.Ad.at (T.w.AF.at T.b).room).BH.at d≤6:=by
 have:=AD.Kj h.gd h.room.1 h.room.2 d0 d6
 simp only [AD.F7,Bool.or_eq_false_iff,decide_eq_false_iff_not] at this
 omega
theorem VH {X:AD}(h:X.Co){i:Int}{t:A9}(ht:t.name.length≤140737488351232):(X.It i t).Co:=⟨fun j=>by
 rcases Vector.QU X.AH i j t with e | e
 ·show((X.AH.put i t).at j).name.length≤_;rw [e];exact ht
 ·show((X.AH.put i t).at j).name.length≤_;rw [e];exact h.th j,h.be,h.ro⟩
theorem ER {X:AD}(h:X.Co){i:Int}{t:BC}(ht:t.name.length≤140737488351232):(X.Bc i t).Co:=⟨h.th,fun j=>by
 rcases Vector.QU X.AF i j t with e | e
 ·show((X.AF.put i t).at j).name.length≤_;rw [e];exact ht
 ·show((X.AF.put i t).at j).name.length≤_;rw [e];exact h.be j,h.ro⟩
theorem VG {X:AD}(h:X.Co){r d:Int}{v:Bool}:(X.PW r d v).Co:=⟨h.th,h.be,fun j=>by
 rcases Vector.QU X.Ad r j { X.Ad.at r with shut:=(X.Ad.at r).shut.put d v } with e | e
 ·show((X.Ad.put r _).at j).name.length≤_;rw [e];exact h.ro r
 ·show((X.Ad.put r _).at j).name.length≤_;rw [e];exact h.ro j⟩
theorem YP {b:Int}{X:AD}{i:Int}(h0:0≤i)(h9:i < 9){t:A9}(hn:t.name=(X.AH.at i).name)(hk:t.kind=(X.AH.at i).kind)(ho:(X.AH.at i).BZ=1→(X.AH.at i).at_=b):Step b X (X.It i t):=
  ⟨fun j j0 _=>by
    by_cases e:j=i
    · subst e;rw [AD.Hw h0 h9];exact⟨hn,hk⟩
    · rw [AD.N7 h0 h9 j0 e];exact⟨rfl,rfl⟩,
   fun j j0 _ h1 h2=>by
    by_cases e:j=i
    · subst e;exact absurd (ho h1) h2
    · rw [AD.N7 h0 h9 j0 e],
   fun _ _ _ _=>rfl,fun _ _ _=>⟨rfl,rfl,rfl⟩⟩
theorem RA {b:Int}{X:AD}{i:Int}(h0:0≤i)(h6:i < 6){t:BC}(hn:i≠b→{ t with A1:=0 }={ X.AF.at i with A1:=0 }):Step b X (X.Bc i t):=
 ⟨fun _ _ _=>⟨rfl,rfl⟩,fun _ _ _ _ _=>rfl,fun c c0 _ hc=>by
  by_cases e:c=i
  ·subst e;rw [AD.Dx h0 h6];exact hn hc
  ·rw [AD.Hv h0 h6 c0 e],fun _ _ _=>⟨rfl,rfl,rfl⟩⟩
theorem YO {b:Int}{X:AD}{r d:Int}(h0:0≤r)(h6:r < 6){v:Bool}:Step b X (X.PW r d v):=
 ⟨fun _ _ _=>⟨rfl,rfl⟩,fun _ _ _ _ _=>rfl,fun _ _ _ _=>rfl,fun j j0 _=>by
  by_cases e:j=r
  ·subst e
   rw [show(X.PW j d v).Ad.at j={ X.Ad.at j with shut:=(X.Ad.at j).shut.put d v } from Vector.Bk h0 h6]
   exact⟨rfl,rfl,rfl⟩
  ·rw [show(X.PW r d v).Ad.at j=X.Ad.at j from Vector.EK h0 h6 j0 e]
   exact⟨rfl,rfl,rfl⟩⟩
structure Es (T T':AA):Prop where
 b:T'.b=T.b
 fit:T'.Fit
 st:Step T.b T.w T'.w
theorem Es.trans {T T' T'':AA}(h:Es T T')(k:Es T' T''):Es T T'':=⟨k.b.trans h.b,k.fit,h.st.trans (by have:=k.st;rwa [h.b] at this)⟩
theorem Fit.goes {T:AA}(h:T.Fit):Es T T:=⟨rfl,h, .refl _ _⟩
theorem Es.FW {T T' T'':AA}(h:Es T T')(hw:T''.w=T'.w)(hb:T''.b=T'.b):Es T T'':=⟨hb.trans h.b,h.fit.FW hw hb,by rw [hw];exact h.st⟩
theorem Lc {T:AA}(h:T.Fit){r:Int}(hr:0≤r∧r < 6):Es T (T.HT r):=by
 have hg:=AD.E8 h.gd h.b.1 h.b.2
 have hme:((T.HT r).w.AF.at T.b)={ T.me with room:=r,A1:=0 }:=Vector.Bk h.b.1 h.b.2
 refine⟨rfl,⟨h.b,ER h.br (h.br.be T.b),AD.Kk h.gd h.b.1 h.b.2 ?_ fun _ _ _ _ _=>h.here,?_⟩,RA h.b.1 h.b.2 fun hn=>absurd rfl hn⟩
 ·unfold AD.Cb at hg ⊢
  show(decide (r < 0) || decide (6≤r) || decide ((T.w.AF.at T.b).AW < 0) || decide (10 < (T.w.AF.at T.b).AW) || decide ((0:Int) < 0) || decide (6 < (0:Int)) || (!(T.w.AF.at T.b).here && !decide ((0:Int)=0)) || (T.w.AF.at T.b).here != decide (0 < (T.w.AF.at T.b).AW))=false
  simp only [Bool.or_eq_false_iff,decide_eq_false_iff_not] at hg ⊢
  refine⟨⟨⟨⟨⟨⟨⟨by omega,by omega⟩,hg.1.1.1.1.1.2⟩,hg.1.1.1.1.2⟩,by decide⟩,by decide⟩,by simp⟩,hg.2⟩
 ·show((T.HT r).w.AF.at T.b).here=true
  rw [hme];exact h.here
end AA
end Go.Ing
/- What beings do keeps the land good: each order. -/
namespace Go.Ing
open Go
namespace AD
variable {X:AD}
theorem VX {BZ at_ i:Int}(h:i∈X.has BZ at_):(X.AH.at i).BZ=BZ∧(X.AH.at i).at_=at_:=by
 have:=(List.mem_filter.1 h).2
 rw [Bool.and_eq_true] at this
 exact⟨of_decide_eq_true this.1,of_decide_eq_true this.2⟩
theorem XX (BZ at_:Int):(X.has BZ at_).Nodup:=by
 unfold has
 exact List.Pairwise.filter _ (by decide)
end AD
namespace AA
/-! #### which things are meant -/
theorem C7 (w:AD)(l:List Int)(nth:Int)(name:AL)(all:Bool):(AR w l nth name all).Sublist l:=by
 unfold AR
 split
 ·exact List.filter_sublist
 ·split
  ·exact List.nil_sublist _
  ·exact((List.drop_sublist _ _).trans (List.take_sublist _ _)).trans List.filter_sublist
theorem CO {w:AD}{l:List Int}{nth:Int}{name:AL}{all:Bool}{i:Int}(h:i∈AR w l nth name all):i∈l:=(C7 w l nth name all).mem h
def Mh (X:AD)(b i:Int):Prop:=0≤i∧i < 9∧((X.AH.at i).BZ=1→(X.AH.at i).at_=b)
def jF (X:AD)(b i:Int):Prop:=0≤i∧i < 9∧(X.AH.at i).BZ=1∧(X.AH.at i).at_=b
theorem jF.Nn {X:AD}{b i:Int}(h:jF X b i):Mh X b i:=⟨h.1,h.2.1,fun _=>h.2.2.2⟩
theorem Hu {T:AA}{i:Int}(h:i∈T.own):jF T.w T.b i:=⟨(AD.E0 h).1,(AD.E0 h).2,(AD.VX h).1,(AD.VX h).2⟩
theorem KP {T:AA}{i:Int}(h:i∈T.seen):0≤i∧i < 9∧(T.w.AH.at i).BZ=0:=by
 unfold seen at h
 split at h
 ·cases h
 ·exact⟨(AD.E0 h).1,(AD.E0 h).2,(AD.VX h).1⟩
theorem YK {T:AA}{i:Int}(h:i∈T.seen):Mh T.w T.b i:=by
 obtain⟨h0,h9,e⟩:=KP h
 exact⟨h0,h9,fun e1=>by omega⟩
theorem Oq {l:List Int}(h:(decide ((l.length:Int)=0))=false):l.getD 0 0∈l:=by
 have h':(l.length:Int)≠0:=of_decide_eq_false h
 exact Aa.CU (by omega)
theorem PN {T:AA}{u:AL}(h:(T.one u).2=true):Mh T.w T.b (T.one u).1:=by
 unfold one at h ⊢
 split at h
 ·cases h
 ·rename_i h1
  rw [if_neg h1]
  split at h
  ·cases h
  ·rename_i h2
   rw [if_neg h2]
   have hm:=CO (Oq (Bool.not_eq_true _ ▸ h2))
   rcases List.mem_append.1 hm with hm | hm
   ·exact(Hu hm).Nn
   ·exact YK hm
/-! #### a box, somebody -/
theorem J3 (T:AA)(u:AL):(T.box u).1.w=T.w∧(T.box u).1.b=T.b:=by
 unfold box
 split
 ·exact⟨rfl,rfl⟩
 ·split<;>exact⟨rfl,rfl⟩
theorem eY {T:AA}{u:AL}(h:(T.box u).2.2=true):0≤(T.box u).2.1∧(T.box u).2.1 < 9∧(T.w.AH.at (T.box u).2.1).kind=3∧(T.box u).1=T:=by
 unfold box at h ⊢
 split at h
 ·cases h
 ·rename_i h1
  rw [if_neg h1]
  split at h
  ·cases h
  ·rename_i h2
   rw [if_neg h2]
   simp only [Bool.or_eq_true,Bool.not_eq_true',decide_eq_false_iff_not,not_or,Bool.not_eq_false,Decidable.not_not] at h1
   have hm:=PN h1.1
   exact⟨hm.1,hm.2.1,h1.2,rfl⟩
theorem MX {T:AA}{name:AL}{k:Int}:∀ {r:Nat} {n:Int},r≤6→T.Fk name r n=some k→0≤k∧k < 6∧k≠T.b∧T.w.EI T.b k=true
 | 0,_,_,h=>by cases h
 | r+1,n,hr,h=>by
  unfold Fk at h
  split at h
  ·exact MX (by omega) h
  ·rename_i h1
   split at h
   ·cases h
    simp only [Bool.or_eq_true,decide_eq_true_eq,Bool.not_eq_true',not_or,Bool.not_eq_false] at h1
    exact⟨by omega,by omega,h1.1.1,h1.2⟩
   ·exact MX (by omega) h
theorem He (T:AA)(u:AL):(T.AS u).1.w=T.w∧(T.AS u).1.b=T.b:=by
 unfold AS
 split
 ·split<;>exact⟨rfl,rfl⟩
 ·exact⟨rfl,rfl⟩
theorem UZ {T:AA}{u:AL}(h:(T.AS u).2.2=true):0≤(T.AS u).2.1∧(T.AS u).2.1 < 6∧(T.AS u).2.1≠T.b∧T.w.EI T.b (T.AS u).2.1=true:=by
 unfold AS at h ⊢
 split at h
 ·rename_i h1
  rw [if_pos h1]
  split at h
  ·rename_i k hk
   exact MX (Nat.le_refl _) hk
  ·cases h
 ·cases h
/-! #### taking and letting go -/
theorem GH {T:AA}(h:T.Fit){i:Int}(hm:Mh T.w T.b i){t:A9}(hn:t.name=(T.w.AH.at i).name)(hk:t.kind=(T.w.AH.at i).kind)(hg:(T.w.It i t).A3=true):Es T (T.Ci i t):=
 ⟨rfl,⟨h.b,VH h.br (by rw [hn];exact h.br.th i),hg,h.here⟩,YP hm.1 hm.2.1 hn hk hm.2.2⟩
theorem Tw {T:AA}(h:T.Fit){i:Int}(hm:Mh T.w T.b i)(hc:¬ ((T.w.AH.at i).kind=2∧(T.w.AH.at i).on=true)):Es T (T.place i 0 T.me.room):=
 GH h hm rfl rfl (by
  have:=AD.NO h.gd hm.1 hm.2.1 (v:=(T.w.AH.at i).on) h.room (AD.IQ h.gd hm.1 hm.2.1).plain hc
  exact this)
theorem Tx {T:AA}(h:T.Fit){i a:Int}(hm:Mh T.w T.b i)(ha:0≤a∧a < 6)(hh:(T.w.AF.at a).here=true):Es T (T.place i 1 a):=
 GH h hm rfl rfl (AD.TV h.gd hm.1 hm.2.1 ha hh)
theorem Ty {T:AA}(h:T.Fit){i a:Int}(hm:Mh T.w T.b i)(ha:0≤a∧a < 9)(hk:(T.w.AH.at a).kind=3)(hc:¬ ((T.w.AH.at i).kind=2∧(T.w.AH.at i).on=true))(hi:T.w.O6 a i=false):Es T (T.place i 2 a):=
 GH h hm rfl rfl (AD.TW h.gd hm.1 hm.2.1 ha hk hc hi)
theorem JX {T:AA}{i j BZ at_:Int}(h0:0≤i)(h9:i < 9)(j0:0≤j):(T.place i BZ at_).w.AH.at j=if j=i then { T.w.AH.at i with BZ:=BZ,at_:=at_ } else T.w.AH.at j:=IK _ _ _ _ h0 h9 j0
def Nh (T:AA)(v to:Int):Prop:=(v=8)∨(v=10∧0≤to∧to < 6∧(T.w.AF.at to).here=true)∨(v≠8∧v≠10∧0≤to∧to < 9∧(T.w.AH.at to).kind=3)
theorem Nh.next {T T':AA}{v to:Int}(h:Nh T v to)(hb:T'.w.AF=T.w.AF)(hk:∀ i,0≤i→i < 9→(T'.w.AH.at i).kind=(T.w.AH.at i).kind):Nh T' v to:=by
 rcases h with h | ⟨h1,h2,h3,h4⟩ | ⟨h1,h2,h3,h4,h5⟩
 ·exact .inl h
 ·exact .inr (.inl ⟨h1,h2,h3,by rw [hb];exact h4⟩)
 ·exact .inr (.inr ⟨h1,h2,h3,h4,by rw [hk _ h3 h4];exact h5⟩)
theorem Tj {T:AA}(h:T.Fit){v to i:Int}(hm:Mh T.w T.b i)(ht:Nh T v to):Es T (T.Bh v to i)∧(T.Bh v to i).w.AF=T.w.AF∧∀ j,0≤j→j≠i→(T.Bh v to i).w.AH.at j=T.w.AH.at j:=by
 have hpl:∀ BZ at_,(T.place i BZ at_).w.AF=T.w.AF∧∀ j,0≤j→j≠i→(T.place i BZ at_).w.AH.at j=T.w.AH.at j:=fun BZ at_=>⟨rfl,fun j j0 hn=>by rw [JX hm.1 hm.2.1 j0,if_neg hn]⟩
 unfold Bh
 split
 ·exact⟨h.goes.FW rfl rfl,rfl,fun _ _ _=>rfl⟩
 ·rename_i h1
  have hc:¬ ((T.w.AH.at i).kind=2∧(T.w.AH.at i).on=true):=fun e=>h1 (by rw [Bool.and_eq_true];exact⟨decide_eq_true e.1,e.2⟩)
  split
  ·exact⟨(Tw h hm hc).FW rfl rfl,hpl 0 T.me.room⟩
  ·rename_i h2
   split
   ·rename_i h3
    rcases ht with e | ⟨_,a0,a6,hh⟩ | ⟨_,e,_⟩
    ·exact absurd (decide_eq_true e) h2
    ·exact⟨(Tx h hm ⟨a0,a6⟩ hh).FW rfl rfl,hpl 1 to⟩
    ·exact absurd (of_decide_eq_true h3) e
   ·rename_i h3
    split
    ·exact⟨h.goes.FW rfl rfl,rfl,fun _ _ _=>rfl⟩
    ·rename_i h4
     rcases ht with e | ⟨e,_⟩ | ⟨_,_,a0,a9,hk⟩
     ·exact absurd (decide_eq_true e) h2
     ·exact absurd (decide_eq_true e) h3
     ·exact⟨(Ty h hm ⟨a0,a9⟩ hk hc (by simpa using h4)).FW rfl rfl,hpl 2 to⟩
theorem NR {v to:Int}:∀ {l:List Int} {T:AA},T.Fit→l.Nodup→(∀ i∈l,Mh T.w T.b i)→Nh T v to→Es T (T.FV v to l)
 | [],T,h,_,_,_=>h.goes
 | i :: r,T,h,hd,hm,ht=>by
  have hi:=hm i (List.mem_cons_self ..)
  obtain⟨g,gb,gt⟩:=Tj h hi ht
  have hd':=List.nodup_cons.1 hd
  refine g.trans (NR g.fit hd'.2 (fun j hj=>?_) (ht.next gb fun j j0 j9=>(g.st.th j j0 j9).2))
  have hj':=hm j (List.mem_cons_of_mem _ hj)
  have hne:j≠i:=fun e=>hd'.1 (e ▸ hj)
  rw [Mh,gt j hj'.1 hne,g.b]
  exact hj'
end AA
end Go.Ing
/- What walks through a turn need. -/
namespace Go.Ing
open Go
theorem NC {α:Type}{l:List α}{k:Int}{d:α}(h0:0≤k)(h1:k < l.length):l.take (k+1).toNat=l.take k.toNat ++ [l.getD k.toNat d]:=by
 obtain⟨m,rfl⟩:=Int.eq_ofNat_of_zero_le h0
 have hm:m < l.length:=by omega
 rw [show((m:Int)+1).toNat=m+1 by omega,show((m:Int)).toNat=m by omega,List.take_add_one,List.getElem?_eq_getElem hm,List.getD_eq_getElem?_getD,List.getElem?_eq_getElem hm]
 rfl
theorem AD.SJ (d:Int):0≤AD.opposite d∧AD.opposite d < 6:=by
 unfold AD.opposite
 have h:=Int.tmod_nonneg (a:=max 0 (min d 5)+3) 6 (by omega)
 have h2:=Int.tmod_lt_of_pos (max 0 (min d 5)+3) (show(0:Int) < 6 by decide)
 exact⟨h,h2⟩
theorem Words.TH {s:AL}:∀ {n:Nat},n≤6→(Words.Mm s n).2=true→0≤(Words.Mm s n).1∧(Words.Mm s n).1 < 6
 | 0,_,h=>by cases h
 | n+1,hn,h=>by
  unfold Words.Mm at h ⊢
  split
  ·rename_i c
   show 0≤((5 - n:Nat):Int)∧((5 - n:Nat):Int) < 6
   omega
  ·rename_i c
   rw [if_neg c] at h
   exact Words.TH (by omega) h
theorem Words.WS {s:AL}(h:(Words.dir s).2=true):0≤(Words.dir s).1∧(Words.dir s).1 < 6:=Words.TH (Nat.le_refl _) h
namespace AA
theorem dA {w:AD}{u:AL}{l:List Int}{k:Int}(h0:0≤k)(h1:k < l.length)(c:(decide (u = []) || decide ((w.AH.at (l.getD k.toNat 0)).name=u))=true):HV w u (l.take (k+1).toNat)=HV w u (l.take k.toNat) ++ [l.getD k.toNat 0]:=by
 rw [NC (d:=0) h0 h1,HV,List.filter_append,List.filter_cons,if_pos c];rfl
theorem cz {w:AD}{u:AL}{l:List Int}{k:Int}(h0:0≤k)(h1:k < l.length)(c:(decide (u = []) || decide ((w.AH.at (l.getD k.toNat 0)).name=u))=false):HV w u (l.take (k+1).toNat)=HV w u (l.take k.toNat):=by
 rw [NC (d:=0) h0 h1,HV,List.filter_append,List.filter_cons,if_neg (by rw [c];decide)];simp [HV]
theorem Qx (w:AD)(u:AL)(l:List Int):(HV w u l).length≤l.length:=List.length_filter_le _ _
theorem FX (T:AA):T.own.length≤9:=AD.Fw _ _ _
theorem DB (T:AA):T.seen.length≤9:=by
 unfold seen;split
 ·simp
 ·exact AD.Fw _ _ _
theorem JK {T:AA}{i:Int}(h:i∈T.own++T.seen):0≤i∧i < 9:=by
 rcases List.mem_append.1 h with h | h
 ·exact⟨(Hu h).1,(Hu h).2.1⟩
 ·exact⟨(KP h).1,(KP h).2.1⟩
theorem GC {T:AA}{i:Int}(h:i∈T.own):0≤i∧i < 9:=⟨(Hu h).1,(Hu h).2.1⟩
theorem GZ {T:AA}{i:Int}(h:i∈T.seen):0≤i∧i < 9:=⟨(KP h).1,(KP h).2.1⟩
theorem Wj (T:AA)(u:AL):0≤(T.one u).1∧(T.one u).1 < 9:=by
 by_cases h:(T.one u).2=true
 ·exact⟨(PN h).1,(PN h).2.1⟩
 ·unfold one at h ⊢
  split
  ·exact⟨Int.le_refl _,by decide⟩
  ·rename_i h1
   rw [if_neg h1] at h
   split
   ·exact⟨Int.le_refl _,by decide⟩
   ·rename_i h2
    rw [if_neg h2] at h
    exact absurd rfl h
theorem WN (T:AA)(u:AL):0≤(T.box u).2.1∧(T.box u).2.1 < 9:=by
 have h:=T.Wj u
 unfold box
 split
 ·exact⟨Int.le_refl _,show(0:Int) < 9 by decide⟩
 ·split
  ·exact⟨Int.le_refl _,show(0:Int) < 9 by decide⟩
  ·exact h
theorem EL (T:AA)(u:AL):(T.box u).1.out.length≤T.out.length+1:=by
 unfold box
 split
 ·simp
 ·split<;>simp
theorem HF (T:AA)(u:AL):0≤(T.AS u).2.1∧(T.AS u).2.1 < 6:=by
 unfold AS
 split
 ·split
  ·rename_i k hk
   have:=MX (Nat.le_refl _) hk
   exact⟨this.1,this.2.1⟩
  ·exact⟨Int.le_refl _,show(0:Int) < 6 by decide⟩
 ·exact⟨Int.le_refl _,show(0:Int) < 6 by decide⟩
theorem Ej (T:AA)(u:AL):(T.AS u).1.out.length≤T.out.length+1:=by
 unfold AS
 split
 ·split<;>simp
 ·simp
theorem PI (T:AA)(hb:0≤T.b∧T.b < 6)(r:Int):({ T.w with AF:=(T.w.AF.put T.b { T.w.AF.at T.b with room:=r }).put T.b { (T.w.AF.put T.b { T.w.AF.at T.b with room:=r }).at T.b with A1:=0 } }:AD)=(T.HT r).w:=by
 rw [Vector.Bk hb.1 hb.2,Vector.EV];rfl
theorem DK (T:AA){i:Int}(h0:0≤i)(h9:i < 9)(wh a:Int):({ T.w with AH:=(T.w.AH.put i { T.w.AH.at i with BZ:=wh }).put i { (T.w.AH.put i { T.w.AH.at i with BZ:=wh }).at i with at_:=a } }:AD)=(T.place i wh a).w:=by
 rw [Vector.Bk h0 h9,Vector.EV];rfl
theorem C9 {T:AA}{i:Int}(h0:0≤i)(h9:i < 9)(wh a:Int):((T.place i wh a).w.AH.at i).name=(T.w.AH.at i).name:=by
 rw [JX h0 h9 h0,if_pos rfl]
theorem Ch {T:AA}{i j:Int}(h0:0≤i)(h9:i < 9)(j0:0≤j)(wh a:Int):((T.place i wh a).w.AH.at j).name=(T.w.AH.at j).name:=by
 rw [JX h0 h9 j0]
 split
 ·rename_i e;subst e;rfl
 ·rfl
theorem XM (T:AA){i:Int}(h0:0≤i)(h9:i < 9)(c:decide ((T.w.AH.at i).kind=2)=true):({ T.w with AH:=(((T.w.AH.put i { T.w.AH.at i with on:=false }).put i { (T.w.AH.put i { T.w.AH.at i with on:=false }).at i with BZ:=0 }).put i { ((T.w.AH.put i { T.w.AH.at i with on:=false }).put i { (T.w.AH.put i { T.w.AH.at i with on:=false }).at i with BZ:=0 }).at i with at_:=(T.w.AF.at T.b).room }) }:AD)=(T.Cz i).w:=by
 rw [Vector.Bk h0 h9,Vector.EV,Vector.Bk h0 h9,Vector.EV]
 unfold Cz
 rw [if_pos c];rfl
theorem XL (T:AA){i:Int}(h0:0≤i)(h9:i < 9)(c:decide ((T.w.AH.at i).kind=2)=false):({ T.w with AH:=(T.w.AH.put i { T.w.AH.at i with BZ:=0 }).put i { (T.w.AH.put i { T.w.AH.at i with BZ:=0 }).at i with at_:=(T.w.AF.at T.b).room } }:AD)=(T.Cz i).w:=by
 rw [Vector.Bk h0 h9,Vector.EV]
 unfold Cz
 rw [if_neg (by rw [c];decide)];rfl
theorem DO {X:AA}{l:List Int}{k:Int}(h0:0≤k)(h1:k < l.length):X.CL (l.drop k.toNat)=((X.place (l.getD k.toNat 0) 1 X.b).AP 3 (l.getD k.toNat 0)).CL (l.drop (k+1).toNat):=by
 rw [MA h0 h1];rfl
theorem L9 {X:AA}{l:List Int}{k:Int}(h0:0≤k)(h1:k < l.length):X.BM (l.drop k.toNat)=(X.Cz (l.getD k.toNat 0)).BM (l.drop (k+1).toNat):=by
 rw [MA h0 h1];rfl
theorem Eu {α:Type}{l:List α}:l.drop (l.length:Int).toNat = []:=by rw [show(l.length:Int).toNat=l.length by omega,List.drop_length]
theorem JL {T:AA}{k:Int}(h:0≤k):T.CS (k+1).toNat=if decide (((T.CS k.toNat).w.AF.at k).A1=T.b+1)=true then(T.CS k.toNat).BV k 0 else T.CS k.toNat:=by
 obtain⟨m,rfl⟩:=Int.eq_ofNat_of_zero_le h
 rfl
theorem L3 (T:AA):∀ k:Nat,(T.CS k).b=T.b∧(T.CS k).out=T.out
 | 0=>⟨rfl,rfl⟩
 | k+1=>by
  unfold CS;split
  ·exact L3 T k
  ·exact L3 T k
theorem Dg:∀(l:List Int) (T:AA),(T.BM l).b=T.b∧(T.BM l).out=T.out
 | [],T=>⟨rfl,rfl⟩
 | i :: r,T=>by rw [BM];exact Dg r _
theorem F2 {T:AA}{name:AL}{k n:Int}(h0:0≤k)(h6:k < 6):T.Fk name (6 - k).toNat n=if (decide (k=T.b) || !decide ((T.w.AF.at k).name=name) || !T.w.EI T.b k)=true then T.Fk name (6 - (k+1)).toNat n else if decide (n - 1=0)=true then some k else T.Fk name (6 - (k+1)).toNat (n - 1):=by
 obtain⟨m,rfl⟩:=Int.eq_ofNat_of_zero_le h0
 have e:(6 - (m:Int)).toNat=(6 - ((m:Int)+1)).toNat+1:=by omega
 rw [e,Fk,show(((6 - ((6 - ((m:Int)+1)).toNat+1):Nat)):Int)=(m:Int) by omega]
@[simp] theorem FH (T:AA) (k i:Int):(T.AP k i).out.length=T.out.length+1:=by simp [AP]
@[simp] theorem HO (T:AA) (k:Int):(T.kind k).out.length=T.out.length+1:=by simp [kind]
theorem UT (T:AA)(b f:Int):(T.BV b f).b=T.b∧(T.BV b f).out=T.out:=⟨rfl,rfl⟩
theorem VR (T:AA):T.EG.b=T.b∧T.EG.out=T.out:=by
 unfold EG
 rw [(UT _ _ _).1,(UT _ _ _).2]
 have h1:=AA.Dg T.own T
 have h2:=AA.L3 (T.BM T.own) 6
 exact⟨h2.1.trans h1.1,h2.2.trans h1.2⟩
theorem DC (T:AA)(b:Int)(x:BC):(T.Cy b x).b=T.b∧(T.Cy b x).out=T.out∧(T.Cy b x).w={ T.w with AF:=T.w.AF.put b x }:=⟨rfl,rfl,rfl⟩
theorem VQ (T:AA):T.J6.b=(T.kind 18).b∧T.J6.out=(T.kind 18).out∧T.J6.w={ (T.kind 18).EG.w with AF:=(T.kind 18).EG.w.AF.put (T.kind 18).b default }:=by
 unfold J6
 rw [(DC _ _ _).1,(DC _ _ _).2.1,(DC _ _ _).2.2]
 exact⟨(VR _).1,(VR _).2,rfl⟩
theorem J8 {l:List Int}(h:∀ i∈l,0≤i∧i < 9):0≤l.getD (0:Int).toNat 0∧l.getD (0:Int).toNat 0 < 9:=by
 cases l with
 | nil=>exact⟨Int.le_refl _,show(0:Int) < 9 by decide⟩
 | cons x r=>exact h x (List.mem_cons_self ..)
theorem PD (T:AA)(v to i:Int):(T.Bh v to i).out.length≤T.out.length+1:=by
 unfold Bh
 split
 ·simp
 ·split
  ·rw [FH];exact Nat.le_refl _
  ·split
   ·rw [BE];exact Nat.le_refl _
   ·split
    ·simp
    ·rw [BE];exact Nat.le_refl _
theorem Zs (T:AA)(v to i:Int):(T.Bh v to i).b=T.b:=by
 unfold Bh
 split
 ·rfl
 ·split
  ·rfl
  ·split
   ·rfl
   ·split<;>rfl
theorem My (T:AA)(o:Order):(T.B0 o).1.out.length≤T.out.length+1:=by
 unfold B0
 split
 ·exact T.EL _
 ·split
  ·exact T.Ej _
  ·exact Nat.le_succ _
theorem Q8 {X:AD}{b:Int}(hw:X.Co)(c1:(!X.A3)=false)(c2:(decide (b < 0) || decide (6≤b) || !(X.AF.at b).here)=false):Fit ⟨X,b,[]⟩:=by
 simp only [Bool.or_eq_false_iff,decide_eq_false_iff_not,Bool.not_eq_false'] at c1 c2
 exact⟨⟨by show 0≤b;omega,by show b < 6;omega⟩,hw,c1,c2.2⟩
end AA
end Go.Ing
/- Engine: texts deep within what came in, as parts of its reading. -/
namespace Go.Ing
open Go
section
open Go.RowKit Go.ChangeShapes Go.WideShapes Go.ChangeAt
variable {H:Type} {enc:TypeId × Value→H} {P:Program} {w:World}
end
end Go.Ing
/- Laws of what beings do: doors; that rules answer at all. -/
namespace Go.Ing
open Go
theorem Vector.OW {α:Type}[Inhabited α]{n:Nat}(v:Vector α n)(i:Int):v.at i=default∨∃ j:Int,0≤j∧j < n∧v.at i=v.at j:=by
 by_cases h:i.toNat < n
 ·exact .inr ⟨(i.toNat:Int),by omega,by omega,by unfold Vector.at;rw [show((i.toNat:Nat):Int).toNat=i.toNat by omega]⟩
 ·refine .inl ?_
  unfold Vector.at
  rw [List.getD_eq_getElem?_getD,List.getElem?_eq_none (by simp;omega)]
  rfl
namespace AA
theorem gj {T:AA}{o:Order}(hv:o.verb=7):T.act o=T.get o:=by
 unfold act
 rw [hv]
 rfl
end AA
end Go.Ing
/- What beings do keeps the land good: all orders. -/
namespace Go.Ing
open Go
namespace AA
theorem NX {T:AA}(h:T.Fit){c f:Int}(c0:0≤c)(c6:c < 6)(f0:0≤f)(f6:f≤6)(hh:f≠0→(T.w.AF.at c).here=true):Es T (T.BV c f):=by
 have hg:=AD.E8 h.gd c0 c6
 have hb:∀ a,0≤a→((T.BV c f).w.AF.at a).here=(T.w.AF.at a).here:=fun a a0=>by
  show((T.w.AF.put c { T.w.AF.at c with A1:=f }).at a).here=_
  rw [IK _ _ _ _ c0 c6 a0]
  split
  ·rename_i e;subst e;rfl
  ·rfl
 refine⟨rfl,⟨h.b,ER h.br (h.br.be c),AD.Kk h.gd c0 c6 ?_ fun i i0 i9 hw ha=>?_,(hb T.b h.b.1).trans h.here⟩,RA c0 c6 fun _=>rfl⟩
 ·unfold AD.Cb at hg ⊢
  simp only [Bool.or_eq_false_iff,decide_eq_false_iff_not,Bool.and_eq_false_iff,Bool.not_eq_false'] at hg ⊢
  obtain⟨⟨⟨⟨⟨⟨⟨q1,q2⟩,q3⟩,q4⟩,q5⟩,q6⟩,q7⟩,q8⟩:=hg
  refine⟨⟨⟨⟨⟨⟨⟨q1,q2⟩,q3⟩,q4⟩,by omega⟩,by omega⟩,?_⟩,q8⟩
  by_cases e:f=0
  ·exact .inr (by simp [e])
  ·exact .inl (hh e)
 ·show(T.w.AF.at c).here=true
  have:=AD.IQ h.gd i0 i9
  rcases this.BZ with ⟨a,_⟩ | ⟨_,_,a⟩ | ⟨a,_⟩
  ·omega
  ·rw [ha] at a;exact a
  ·omega
theorem SU {T:AA}(h:T.Fit){r d:Int}{v:Bool}(r0:0≤r)(r6:r < 6)(d0:0≤d)(d6:d < 6)(hv:v=true→(T.w.Ad.at r).BH.at d≠0):Es T (T.By r d v):=
 ⟨rfl,⟨h.b,VG h.br,AD.XW h.gd r0 r6 d0 d6 hv,h.here⟩,YO r0 r6⟩
theorem HM {T:AA}{i j:Int}(h0:0≤i)(h9:i < 9)(j0:0≤j):(T.Cz i).w.AH.at j=if j=i then { T.w.AH.at i with on:=if decide ((T.w.AH.at i).kind=2)=true then false else(T.w.AH.at i).on,BZ:=0,at_:=T.me.room } else T.w.AH.at j:=IK _ _ _ _ h0 h9 j0
theorem Rt {T:AA}(h:T.Fit){i:Int}(hm:Mh T.w T.b i):Es T (T.Cz i):=
 GH h hm rfl rfl (AD.NO h.gd hm.1 hm.2.1 h.room (fun e=>by rw [if_neg (by rw [e];decide)];exact(AD.IQ h.gd hm.1 hm.2.1).plain e) (fun⟨e1,e2⟩=>by rw [if_pos (decide_eq_true e1)] at e2;cases e2))
theorem G8:∀ {l:List Int} {T:AA},T.Fit→(∀ i∈l,Mh T.w T.b i)→Es T (T.BM l)∧∀ j,0≤j→j < 9→(((T.BM l).w.AH.at j).BZ=0∨(j ∉ l∧(T.BM l).w.AH.at j=T.w.AH.at j))
 | [],T,h,_=>⟨h.goes,fun j _ _=> .inr ⟨by simp,rfl⟩⟩
 | i :: r,T,h,hm=>by
  have hi:=hm i (List.mem_cons_self ..)
  have g1:=Rt h hi
  obtain⟨g2,k2⟩:=G8 (l:=r) g1.fit fun j hj=>by
   have hj':=hm j (List.mem_cons_of_mem _ hj)
   refine⟨hj'.1,hj'.2.1,?_⟩
   rw [HM hi.1 hi.2.1 hj'.1]
   split
   ·intro e;cases e
   ·exact hj'.2.2
  refine⟨g1.trans g2,fun j j0 j9=>?_⟩
  rcases k2 j j0 j9 with e | ⟨e1,e2⟩
  ·exact .inl e
  ·have hd:=HM (T:=T) hi.1 hi.2.1 j0
   by_cases hji:j=i
   ·rw [if_pos hji] at hd
    exact .inl (by rw [show(T.BM (i :: r)).w.AH.at j=_ from e2,hd])
   ·rw [if_neg hji] at hd
    exact .inr ⟨by simp [hji,e1],e2.trans hd⟩
theorem LN {T:AA}(h:T.Fit):∀ {k:Nat},k≤6→Es T (T.CS k)∧(T.CS k).w.AH=T.w.AH
 | 0,_=>⟨h.goes,rfl⟩
 | k+1,hk=>by
  obtain⟨g,e⟩:=LN (k:=k) h (by omega)
  unfold CS
  split
  ·exact⟨g.trans (NX g.fit (by omega) (by omega) (Int.le_refl _) (by decide) fun e=>absurd rfl e),e⟩
  ·exact⟨g,e⟩
theorem JO (T:AA):T.EG=((T.BM T.own).CS 6).BV T.b 0:=by unfold EG;rfl
theorem cL {T:AA}(h:T.Fit):Es T T.EG:=by
 have g1:=(G8 h (l:=T.own) fun i hi=>(Hu hi).Nn).1
 have g2:=(LN g1.fit (k:=6) (Nat.le_refl _)).1
 have g3:=g1.trans g2
 have g4:=NX g3.fit (c:=T.b) (f:=0) h.b.1 h.b.2 (Int.le_refl _) (by decide) (fun e=>(e rfl).elim)
 rw [JO]
 exact g3.trans g4
theorem QG (T:AA)(b f:Int):(T.BV b f).w.AH=T.w.AH:=rfl
theorem TJ {T:AA}(h:T.Fit){j:Int}(j0:0≤j)(j9:j < 9):¬ ((T.EG.w.AH.at j).BZ=1∧(T.EG.w.AH.at j).at_=T.b):=by
 obtain⟨g1,k1⟩:=G8 h (l:=T.own) fun i hi=>(Hu hi).Nn
 have k2:=(LN g1.fit (k:=6) (Nat.le_refl _)).2
 rw [JO,QG,k2]
 rcases k1 j j0 j9 with e | ⟨e1,e2⟩
 ·rw [e];exact fun h=>by cases h.1
 ·rw [e2]
  intro⟨a,b⟩
  refine e1 ?_
  unfold own AD.has
  exact List.mem_filter.2 ⟨List.mem_map.2 ⟨j.toNat,List.mem_range.2 (by omega),by show((j.toNat:Nat):Int)=j;omega⟩,by rw [a,b];simp⟩
theorem XP {T:AA}(h:T.Fit):Es T T.EG∧∀ j,0≤j→j < 9→¬ ((T.EG.w.AH.at j).BZ=1∧(T.EG.w.AH.at j).at_=T.b):=⟨cL h,fun _ j0 j9=>TJ h j0 j9⟩
end AA
end Go.Ing

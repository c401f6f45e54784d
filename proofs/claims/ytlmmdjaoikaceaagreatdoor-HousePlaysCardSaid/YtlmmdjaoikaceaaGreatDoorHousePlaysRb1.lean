/- What the functions that the law of this seat reaches compute, and the plain laws of it. No condition. -/
import Derived.Test.YtlmmdjaoikaceaaGreatDoorHousePlaysEc3
import Derived.Test.YtlmmdjaoikaceaaGreatDoorHousePlaysRa1
set_option linter.unusedSimpArgs false
set_option linter.unusedVariables false
/- What is escaped is text again. -/
namespace Go.Ing
open Go
namespace AI
end AI
end Go.Ing
/- The document's codec, byte by byte. -/
namespace Go.Ing
open Go
namespace AI
def Fa (opt:Int):Int:=if opt=1 then 0 else if opt=3 then 1 else if opt=31 then 2 else 0
def known (opt:Int):Bool:=decide (opt=1) || decide (opt=3) || decide (opt=31)
theorem kB (opt:Int):Value.tuple #[(QU [(1, .int .i64 0),(3, .int .i64 1),(31, .int .i64 2)] opt).getD (.int .i64 0), .bool (QU [(1, .int .i64 0),(3, .int .i64 1),(31, .int .i64 2)] opt).isSome] = .tuple #[.int .i64 (Fa opt), .bool (known opt)]:=by
 unfold Fa known QU
 by_cases h1:opt=1
 ·subst h1;rfl
 ·by_cases h3:opt=3
  ·subst h3;rfl
  ·by_cases h31:opt=31
   ·subst h31;rfl
   ·have e1:(opt == 1)=false:=by simpa using h1
    have e3:(opt == 3)=false:=by simpa using h3
    have e31:(opt == 31)=false:=by simpa using h31
    simp [List.find?,e1,e3,e31,h1,h3,h31]
theorem Zv (opt:Int):0≤Fa opt∧Fa opt < 3:=by
 unfold Fa
 constructor<;>(repeat' split)<;>decide
def asked (t:AI)(verb opt:Int):AI × AL:=
 if (decide (verb=253) && !(known opt && !decide (opt=31)))=true then(t,bytesOf [255,252,opt])
 else if (decide (verb=251) && !(known opt && !decide (opt=1)))=true then(t,bytesOf [255,254,opt])
 else if decide (verb=253)=true then(if decide (t.us.at (Fa opt)=0)=true then({ t with us:=t.us.put (Fa opt) 1 },bytesOf [255,251,opt]) else({ t with us:=t.us.put (Fa opt) 1 },[]))
 else if decide (verb=251)=true then(if decide (t.Dl.at (Fa opt)=0)=true then({ t with Dl:=t.Dl.put (Fa opt) 1 },bytesOf [255,253,opt]) else({ t with Dl:=t.Dl.put (Fa opt) 1 },[]))
 else if (decide (verb=254) && (known opt && !decide (opt=31)))=true then(if decide (t.us.at (Fa opt)=1)=true then({ t with us:=t.us.put (Fa opt) 0 },bytesOf [255,252,opt]) else({ t with us:=t.us.put (Fa opt) 0 },[]))
 else if (decide (verb=252) && (known opt && !decide (opt=1)))=true then(if decide (t.Dl.at (Fa opt)=1)=true then({ t with Dl:=t.Dl.put (Fa opt) 0 },bytesOf [255,254,opt]) else({ t with Dl:=t.Dl.put (Fa opt) 0 },[]))
 else(t,[])
theorem Eu (v o:Int):bytesOf [255,v,o]=YY v o:=rfl
theorem TQ (t:AI):asked t 251 1=t.Aj 251 1:=by
 simp [asked,Aj,known,Fa,place,Fo,DR,EP,RM,Eu]<;>(try (split<;>simp_all))
theorem TR (t:AI):asked t 251 3=t.Aj 251 3:=by
 simp [asked,Aj,known,Fa,place,Fo,DR,EP,RM,Eu]<;>(try (split<;>simp_all))
theorem R1 (t:AI):asked t 251 31=t.Aj 251 31:=by
 simp [asked,Aj,known,Fa,place,Fo,DR,EP,RM,Eu]<;>(try (split<;>simp_all))
theorem R2 (t:AI)(o:Int)(h1:o≠1)(h3:o≠3)(h31:o≠31):asked t 251 o=t.Aj 251 o:=by
 simp [asked,Aj,known,place,h1,h3,h31,Eu]
theorem TT (t:AI):asked t 252 1=t.Aj 252 1:=by
 simp [asked,Aj,known,Fa,place,Fo,DR,EP,RM,Eu]<;>(try (split<;>simp_all))
theorem TU (t:AI):asked t 252 3=t.Aj 252 3:=by
 simp [asked,Aj,known,Fa,place,Fo,DR,EP,RM,Eu]<;>(try (split<;>simp_all))
theorem R3 (t:AI):asked t 252 31=t.Aj 252 31:=by
 simp [asked,Aj,known,Fa,place,Fo,DR,EP,RM,Eu]<;>(try (split<;>simp_all))
theorem R4 (t:AI)(o:Int)(h1:o≠1)(h3:o≠3)(h31:o≠31):asked t 252 o=t.Aj 252 o:=by
 simp [asked,Aj,known,place,h1,h3,h31,Eu]
theorem TV (t:AI):asked t 253 1=t.Aj 253 1:=by
 simp [asked,Aj,known,Fa,place,Fo,DR,EP,RM,Eu]<;>(try (split<;>simp_all))
theorem TW (t:AI):asked t 253 3=t.Aj 253 3:=by
 simp [asked,Aj,known,Fa,place,Fo,DR,EP,RM,Eu]<;>(try (split<;>simp_all))
theorem R5 (t:AI):asked t 253 31=t.Aj 253 31:=by
 simp [asked,Aj,known,Fa,place,Fo,DR,EP,RM,Eu]<;>(try (split<;>simp_all))
theorem R6 (t:AI)(o:Int)(h1:o≠1)(h3:o≠3)(h31:o≠31):asked t 253 o=t.Aj 253 o:=by
 simp [asked,Aj,known,place,h1,h3,h31,Eu]
theorem TX (t:AI):asked t 254 1=t.Aj 254 1:=by
 simp [asked,Aj,known,Fa,place,Fo,DR,EP,RM,Eu]<;>(try (split<;>simp_all))
theorem TY (t:AI):asked t 254 3=t.Aj 254 3:=by
 simp [asked,Aj,known,Fa,place,Fo,DR,EP,RM,Eu]<;>(try (split<;>simp_all))
theorem R7 (t:AI):asked t 254 31=t.Aj 254 31:=by
 simp [asked,Aj,known,Fa,place,Fo,DR,EP,RM,Eu]<;>(try (split<;>simp_all))
theorem R8 (t:AI)(o:Int)(h1:o≠1)(h3:o≠3)(h31:o≠31):asked t 254 o=t.Aj 254 o:=by
 simp [asked,Aj,known,place,h1,h3,h31,Eu]
theorem ZS (t:AI){verb:Int}(opt:Int)(hv:251≤verb∧verb≤254):asked t verb opt=t.Aj verb opt:=by
 have hc:verb=251∨verb=252∨verb=253∨verb=254:=by omega
 by_cases h1:opt=1
 ·subst h1
  rcases hc with rfl | rfl | rfl | rfl
  ·exact TQ t
  ·exact TT t
  ·exact TV t
  ·exact TX t
 ·by_cases h3:opt=3
  ·subst h3
   rcases hc with rfl | rfl | rfl | rfl
   ·exact TR t
   ·exact TU t
   ·exact TW t
   ·exact TY t
  ·by_cases h31:opt=31
   ·subst h31
    rcases hc with rfl | rfl | rfl | rfl
    ·exact R1 t
    ·exact R3 t
    ·exact R5 t
    ·exact R7 t
   ·rcases hc with rfl | rfl | rfl | rfl
    ·exact R2 t opt h1 h3 h31
    ·exact R4 t opt h1 h3 h31
    ·exact R6 t opt h1 h3 h31
    ·exact R8 t opt h1 h3 h31
def bY (t:AI)(b:UInt8):Int:=t.at_ * 256+min (b.toNat:Int) 256
def EO (t:AI)(b:UInt8):AI × AL × AL:=
  if decide (bY t b=255)=true then({ t with at_:=1 },[],[])
  else if decide (bY t b=511)=true then({ t with at_:=0 },[255],[])
  else if decide (bY t b=506)=true then({ t with at_:=3 },[],[])
  else if decide (bY t b=507)=true then({ t with at_:=2,verb:=(b.toNat:Int) },[],[])
  else if decide (bY t b=508)=true then({ t with at_:=2,verb:=(b.toNat:Int) },[],[])
  else if decide (bY t b=509)=true then({ t with at_:=2,verb:=(b.toNat:Int) },[],[])
  else if decide (bY t b=510)=true then({ t with at_:=2,verb:=(b.toNat:Int) },[],[])
  else if decide (bY t b=1023)=true then({ t with at_:=4 },[],[])
  else if decide (bY t b=1279)=true then({ t.collect b with at_:=3 },[],[])
  else if decide (t.at_=0)=true then(t,[b],[])
  else if decide (t.at_=1)=true then({ t with at_:=0 },[],[])
  else if decide (t.at_=2)=true then({ (t.asked t.verb (b.toNat:Int)).1 with at_:=0,verb:=0 },[],(t.asked t.verb (b.toNat:Int)).2)
  else if decide (t.at_=3)=true then(t.collect b,[],[])
  else if decide (t.at_=4)=true then
    (if (decide ((b.toNat:Int)=240) && decide ((t.sub.length:Int)=5) && decide (Lb t.sub 0=31) && decide (t.Dl.at 2=1))=true then({ t with Bw:=min (256 * Lb t.sub 3+Lb t.sub 4) 200,at_:=0,sub:= [] },[],[])
     else({ t with at_:=0,sub:= [] },[],[]))
  else(t,[],[])
structure Rk (t:AI):Prop where
 a0:0≤t.at_
 a1:t.at_≤4
 v:t.at_=2→251≤t.verb∧t.verb≤254
theorem bG {t:AI}(h:Rk t)(b:UInt8):EO t b=t.step b:=by
 obtain⟨h0,h1,hv⟩:=h
 have hb:=b.toNat_lt
 have hc:t.at_=0∨t.at_=1∨t.at_=2∨t.at_=3∨t.at_=4:=by omega
 have hz:bY t b=t.at_ * 256+(b.toNat:Int):=by unfold bY;omega
 have b255:(b.toNat:Int)=255→b=255:=fun e=>UInt8.toNat_inj.1 (by show _=255;omega)
 unfold EO step
 rw [hz]
 rcases hc with ha | ha | ha | ha | ha
 ·rw [ha]
  by_cases e:(b.toNat:Int)=255
  ·simp [e]
  ·have n1:¬ (0 * 256+(b.toNat:Int)=255):=by omega
   have n2:¬ (0 * 256+(b.toNat:Int)=511):=by omega
   have n3:¬ (0 * 256+(b.toNat:Int)=506):=by omega
   have n4:¬ (0 * 256+(b.toNat:Int)=507):=by omega
   have n5:¬ (0 * 256+(b.toNat:Int)=508):=by omega
   have n6:¬ (0 * 256+(b.toNat:Int)=509):=by omega
   have n7:¬ (0 * 256+(b.toNat:Int)=510):=by omega
   have n8:¬ (0 * 256+(b.toNat:Int)=1023):=by omega
   have n9:¬ (0 * 256+(b.toNat:Int)=1279):=by omega
   simp only [n1,n2,n3,n4,n5,n6,n7,n8,n9,e,decide_false,decide_true,if_true,if_false,Bool.false_eq_true]
 ·rw [ha]
  have n1:¬ (1 * 256+(b.toNat:Int)=255):=by omega
  have n8:¬ (1 * 256+(b.toNat:Int)=1023):=by omega
  have n9:¬ (1 * 256+(b.toNat:Int)=1279):=by omega
  have p2:(1 * 256+(b.toNat:Int)=511)=((b.toNat:Int)=255):=propext ⟨fun e=>by omega,fun e=>by omega⟩
  have p3:(1 * 256+(b.toNat:Int)=506)=((b.toNat:Int)=250):=propext ⟨fun e=>by omega,fun e=>by omega⟩
  have p4:(1 * 256+(b.toNat:Int)=507)=((b.toNat:Int)=251):=propext ⟨fun e=>by omega,fun e=>by omega⟩
  have p5:(1 * 256+(b.toNat:Int)=508)=((b.toNat:Int)=252):=propext ⟨fun e=>by omega,fun e=>by omega⟩
  have p6:(1 * 256+(b.toNat:Int)=509)=((b.toNat:Int)=253):=propext ⟨fun e=>by omega,fun e=>by omega⟩
  have p7:(1 * 256+(b.toNat:Int)=510)=((b.toNat:Int)=254):=propext ⟨fun e=>by omega,fun e=>by omega⟩
  have d10:¬ (1:Int)=0:=by decide
  simp only [n1,n8,n9,p2,p3,p4,p5,p6,p7,d10,decide_false,decide_true,if_true,if_false,Bool.false_eq_true]
  by_cases e:(b.toNat:Int)=255
  ·simp [e,b255 e]
  ·by_cases e2:(b.toNat:Int)=250
   ·simp [e2]
   ·by_cases e3:251≤(b.toNat:Int)
    ·have e4:(b.toNat:Int)=251∨(b.toNat:Int)=252∨(b.toNat:Int)=253∨(b.toNat:Int)=254:=by omega
     rcases e4 with e4 | e4 | e4 | e4<;>simp [e4]
    ·have q1:¬ (b.toNat:Int)=251:=by omega
     have q2:¬ (b.toNat:Int)=252:=by omega
     have q3:¬ (b.toNat:Int)=253:=by omega
     have q4:¬ (b.toNat:Int)=254:=by omega
     simp only [e,e2,e3,q1,q2,q3,q4,decide_false,if_false,Bool.false_eq_true]
 ·rw [ZS t (b.toNat:Int) (hv ha),ha]
  have n1:¬ (2 * 256+(b.toNat:Int)=255):=by omega
  have n2:¬ (2 * 256+(b.toNat:Int)=511):=by omega
  have n3:¬ (2 * 256+(b.toNat:Int)=506):=by omega
  have n4:¬ (2 * 256+(b.toNat:Int)=507):=by omega
  have n5:¬ (2 * 256+(b.toNat:Int)=508):=by omega
  have n6:¬ (2 * 256+(b.toNat:Int)=509):=by omega
  have n7:¬ (2 * 256+(b.toNat:Int)=510):=by omega
  have n8:¬ (2 * 256+(b.toNat:Int)=1023):=by omega
  have n9:¬ (2 * 256+(b.toNat:Int)=1279):=by omega
  have d0:¬ (2:Int)=0:=by decide
  have d1:¬ (2:Int)=1:=by decide
  simp only [n1,n2,n3,n4,n5,n6,n7,n8,n9,d0,d1,decide_false,decide_true,if_true,if_false,Bool.false_eq_true]
 ·rw [ha]
  have n1:¬ (3 * 256+(b.toNat:Int)=255):=by omega
  have n2:¬ (3 * 256+(b.toNat:Int)=511):=by omega
  have n3:¬ (3 * 256+(b.toNat:Int)=506):=by omega
  have n4:¬ (3 * 256+(b.toNat:Int)=507):=by omega
  have n5:¬ (3 * 256+(b.toNat:Int)=508):=by omega
  have n6:¬ (3 * 256+(b.toNat:Int)=509):=by omega
  have n7:¬ (3 * 256+(b.toNat:Int)=510):=by omega
  have p8:(3 * 256+(b.toNat:Int)=1023)=((b.toNat:Int)=255):=propext ⟨fun e=>by omega,fun e=>by omega⟩
  have n9:¬ (3 * 256+(b.toNat:Int)=1279):=by omega
  have d0:¬ (3:Int)=0:=by decide
  have d1:¬ (3:Int)=1:=by decide
  have d2:¬ (3:Int)=2:=by decide
  simp only [n1,n2,n3,n4,n5,n6,n7,p8,n9,d0,d1,d2,decide_false,decide_true,if_true,if_false,Bool.false_eq_true]
 ·have n1:¬ (4 * 256+(b.toNat:Int)=255):=by omega
  have n2:¬ (4 * 256+(b.toNat:Int)=511):=by omega
  have n3:¬ (4 * 256+(b.toNat:Int)=506):=by omega
  have n4:¬ (4 * 256+(b.toNat:Int)=507):=by omega
  have n5:¬ (4 * 256+(b.toNat:Int)=508):=by omega
  have n6:¬ (4 * 256+(b.toNat:Int)=509):=by omega
  have n7:¬ (4 * 256+(b.toNat:Int)=510):=by omega
  have n8:¬ (4 * 256+(b.toNat:Int)=1023):=by omega
  have p9:(4 * 256+(b.toNat:Int)=1279)=((b.toNat:Int)=255):=propext ⟨fun e=>by omega,fun e=>by omega⟩
  have d0:¬ (4:Int)=0:=by decide
  have d1:¬ (4:Int)=1:=by decide
  have d2:¬ (4:Int)=2:=by decide
  have d3:¬ (4:Int)=3:=by decide
  simp only [ha,n1,n2,n3,n4,n5,n6,n7,n8,p9,d0,d1,d2,d3,decide_false,decide_true,if_true,if_false,Bool.false_eq_true]
  by_cases e:(b.toNat:Int)=255
  ·simp only [e,decide_true,if_true]
   unfold collect
   dsimp only
   split<;>rfl
  ·by_cases e2:(b.toNat:Int)=240
   ·have e255:decide ((b.toNat:Int)=255)=false:=decide_eq_false e
    have e240:decide ((b.toNat:Int)=240)=true:=decide_eq_true e2
    simp only [e255,e240,if_false,if_true,Bool.false_eq_true,Bool.true_and]
    unfold measure
    rw [Int.mul_comm 256 (Lb t.sub 3)]
    split<;>rfl
   ·simp only [e,e2,decide_false,Bool.false_and,if_false,Bool.false_eq_true]
theorem OY {t:AI}(h:Rk t)(b:UInt8):Rk (t.step b).1:=by
 obtain⟨h0,h1,hv⟩:=h
 have hb:=b.toNat_lt
 have hn:(t.Aj t.verb (b.toNat:Int)).1.at_=t.at_:=by
  unfold Aj;dsimp only
  repeat' split
  all_goals rfl
 have hcl:∀ x:AI,(x.collect b).at_=x.at_:=fun x=>by unfold collect;split<;>rfl
 unfold step;dsimp only
 repeat' split
 all_goals try simp only [decide_eq_true_eq] at *
 all_goals refine⟨?_,?_,fun e=>?_⟩
 all_goals try simp only [hcl] at *
 all_goals first | omega | skip
theorem cm {t:AI}(h:t.A5=true):Rk t:=by
 simp only [A5,Ni,Bool.and_eq_true,decide_eq_true_eq,Bool.or_eq_true,beq_iff_eq] at h
 obtain⟨_,_,h⟩:=h
 refine⟨by omega,by omega,fun e=>?_⟩
 have h5:=h.1.1.1.1.1.2
 have h6:=h.1.1.1.1.2
 rw [e] at h5
 simp at h5
 rcases h6 with h6 | h6
 ·exact absurd h6 h5
 ·exact h6
theorem FR.dy {X t t':AI}{u x y x' y':AL}{k:Int}(h:FR X u k t x y)(ho:Rk t)(hk:k < u.length)(ht:t'=(t.EO (u.getD k.toNat 0)).1)(hx:x'=x++(t.EO (u.getD k.toNat 0)).2.1)(hy:y'=y++(t.EO (u.getD k.toNat 0)).2.2):FR X u (k+1) t' x' y'∧Rk t':=by
 rw [bG ho] at ht hx hy
 exact⟨h.next hk ht hx hy,by rw [ht];exact OY ho _⟩
theorem FR.HB {X t t':AI}{u x y x' y':AL}{k:Int}{h' g':Hd}(h:FR X u k t x y)(ho:Rk t)(hk:k < u.length)(ht:t'=(t.EO (u.getD k.toNat 0)).1)(hx:x'=x++(t.EO (u.getD k.toNat 0)).2.1)(hy:y'=y++(t.EO (u.getD k.toNat 0)).2.2)(hl:h'.len=x'.length)(hg:g'.len=y'.length) :
  FR X u (k+1) t' x' y'∧Rk t'∧h'.len=x'.length∧g'.len=y'.length:=⟨(h.dy ho hk ht hx hy).1,(h.dy ho hk ht hx hy).2,hl,hg⟩
theorem M5 (t:AI)(v o:Int):(t.asked v o).2.length≤3:=by
 unfold asked
 repeat' split
 all_goals simp [bytesOf]
end AI
end Go.Ing
/- What people type: plain functions, and what is known of pieces. -/
namespace Go.Ing
open Go
namespace Words
theorem Dh (c:UInt8):∀ s:AL,(Lib.indexByte s c=-1∧c ∉ s)∨∃ i:Nat,Lib.indexByte s c=i∧i < s.length∧c ∉ s.take i∧s.drop i=c :: s.drop (i+1)
 | []=> .inl ⟨rfl,by simp⟩
 | b :: r=>by
  by_cases h:b=c
  ·subst h
   exact .inr ⟨0,by simp [Lib.indexByte],by simp,by simp,by simp⟩
  ·have hb:(b == c)=false:=by simpa using h
   rcases Dh c r with ⟨h1,h2⟩ | ⟨i,h1,h2,h3,h4⟩
   ·exact .inl ⟨by simp [Lib.indexByte,hb,h1],by simp [Ne.symm h,h2]⟩
   ·refine .inr ⟨i+1,?_,by simp;omega,?_,by simpa using h4⟩
    ·have:((i:Int) == -1)=false:=by simp
     simp [Lib.indexByte,hb,h1,this]
    ·simp [Ne.symm h,h3]
def pieces (c:UInt8):AL→List AL
 | []=> [[]]
 | x :: r=>if x=c then [] :: pieces c r else(x :: (pieces c r).headD []) :: (pieces c r).tail
theorem K4 (c:UInt8)(s:AL):pieces c s≠ []:=by
 cases s with
 | nil=>simp [pieces]
 | cons x r=>unfold pieces;split<;>simp
theorem GR {c:UInt8}:∀ {s:AL},c ∉ s→pieces c s = [s]
 | [],_=>rfl
 | x :: r,h=>by
  simp only [List.mem_cons,not_or] at h
  rw [pieces,if_neg (Ne.symm h.1),GR h.2];rfl
theorem Ff {c:UInt8}(r:AL):∀ {a:AL},c ∉ a→pieces c (a++c :: r)=a :: pieces c r
 | [],_=>by simp [pieces]
 | x :: a,h=>by
  simp only [List.mem_cons,not_or] at h
  rw [List.cons_append,pieces,if_neg (Ne.symm h.1),Ff r h.2];rfl
theorem DV (c:UInt8):∀ s:AL,(pieces c s).length=s.count c+1
 | []=>rfl
 | x :: r=>by
  unfold pieces
  have ih:=DV c r
  have hne:=K4 c r
  split
  ·rename_i h;simp [h,ih]
  ·rename_i h
   have:(x == c)=false:=by simpa using h
   rw [List.count_cons,this]
   obtain⟨p,q,hp⟩:=List.exists_cons_of_ne_nil hne
   rw [hp] at ih ⊢
   simpa using ih
theorem V5 {c:UInt8}{s:AL}{i:Nat}(h3:c ∉ s.take i)(h4:s.drop i=c :: s.drop (i+1)):pieces c s=s.take i :: pieces c (s.drop (i+1)):=by
 conv=>lhs;rw [← List.take_append_drop i s,h4]
 exact Ff _ h3
/-! #### small letters -/
def UN (c:UInt8):UInt8:=if (decide (65≤(c.toNat:Int)) && decide ((c.toNat:Int)≤90))=true then u8 ((c.toNat:Int)+97 - 65) else c
def low (w:AL):AL:=w.map UN
def words (s:AL):List AL:=((pieces 32 s).filter fun w=>!decide (w = [])).map low
theorem dC {c:UInt8}(h:(decide (65≤(c.toNat:Int)) && decide ((c.toNat:Int)≤90))=true):u8 ((c.toNat:Int)+97 - 65)=UN c:=(if_pos h).symm
theorem dB {c:UInt8}(h:(decide (65≤(c.toNat:Int)) && decide ((c.toNat:Int)≤90))=false):UN c=c:=if_neg (by rw [h];decide)
def G3 (w:AL)(k:Nat):AL:=(w.take k).map UN++w.drop k
theorem Ps (w:AL)(k:Nat):(G3 w k).length=w.length:=by simp [G3];omega
theorem W1 {w:AL}{k:Int}(h0:0≤k)(h1:k < w.length):(G3 w k.toNat).getD k.toNat 0=w.getD k.toNat 0:=by
 have hk:k.toNat < w.length:=by omega
 unfold G3
 rw [List.getD_eq_getElem?_getD,List.getElem?_append_right (by simp;omega)]
 simp [List.getD_eq_getElem?_getD,Nat.min_eq_left (Nat.le_of_lt hk)]
theorem aB (w:AL):G3 w w.length=low w:=by simp [G3,low]
theorem UP {w:AL}{k:Int}(h0:0≤k)(h1:k < w.length):(G3 w k.toNat).set k.toNat (UN (w.getD k.toNat 0))=G3 w (k+1).toNat:=by
 obtain⟨n,rfl⟩:=Int.eq_ofNat_of_zero_le h0
 have hn:n < w.length:=by omega
 rw [show((n:Int)).toNat=n by omega,show((n:Int)+1).toNat=n+1 by omega]
 unfold G3
 rw [List.drop_eq_getElem_cons hn,List.set_append_right _ _ (by simp;omega)]
 simp only [List.length_map,List.length_take,Nat.min_eq_left (Nat.le_of_lt hn),Nat.sub_self,List.set_cons_zero]
 rw [List.take_add_one,List.map_append,List.append_assoc]
 simp [List.getD_eq_getElem?_getD,hn]
theorem X1 {w:AL}{k:Int}(h0:0≤k)(h1:k < w.length)(h:UN (w.getD k.toNat 0)=w.getD k.toNat 0):G3 w k.toNat=G3 w (k+1).toNat:=by
 rw [← UP h0 h1,h]
 have hk:k.toNat < (G3 w k.toNat).length:=by rw [Ps];omega
 have e:=W1 h0 h1
 rw [← e,List.getD_eq_getElem?_getD,List.getElem?_eq_getElem hk]
 simp
structure Oy (c:UInt8)(s:AL)(i:Int)(r:AL)(xs:List AL):Prop where
 i0:0≤i
 i1:i≤s.count c
 len:xs.length=s.count c+1
 eq:pieces c s=xs.take i.toNat++pieces c r
 rl:r.length≤s.length
theorem Oy.start (c:UInt8)(s:AL)(n:Nat)(hn:n=s.count c+1):Oy c s 0 s (List.replicate n []):=
 ⟨Int.le_refl _,by omega,by simp [hn],by simp,Nat.le_refl _⟩
theorem Oy.left {c:UInt8}{s:AL}{i:Int}{r:AL}{xs:List AL}(h:Oy c s i r xs):(r.count c:Int)=s.count c - i:=by
 have:=congrArg List.length h.eq
 rw [List.length_append,DV,DV,List.length_take,h.len] at this
 have h1:=h.i0;have h2:=h.i1
 omega
theorem Oy.next {c:UInt8}{s:AL}{i:Int}{r:AL}{xs:List AL}(h:Oy c s i r xs){m:Int}(hm:Lib.indexByte r c=m)(h0:¬ m < 0):0≤m∧m < r.length∧Oy c s (i+1) (r.drop (m+1).toNat) (xs.set i.toNat (r.take m.toNat)):=by
 have hi:=h.i0
 rcases Dh c r with ⟨e,_⟩ | ⟨j,e,h1,h2,h3⟩
 ·omega
 ·obtain rfl:m=j:=by omega
  have hl:=h.left
  have hp:=V5 h2 h3
  have hc:(pieces c r).length=(pieces c (r.drop (j+1))).length+1:=by rw [hp];simp
  rw [DV,DV] at hc
  have hx:=h.len
  refine⟨by omega,by omega,by omega,by omega,by simp [hx],?_,by simp;have:=h.rl;omega⟩
  rw [h.eq,hp,show(i+1).toNat=i.toNat+1 by omega,show((j:Int)+1).toNat=j+1 by omega,show((j:Int)).toNat=j by omega,List.take_add_one,List.getElem?_set_self (by omega),List.take_set_of_le (by omega)]
  simp
theorem Oy.done {c:UInt8}{s:AL}{i:Int}{r:AL}{xs:List AL}(h:Oy c s i r xs)(he:¬ i < (s.count c:Int)∨Lib.indexByte r c < 0):i=s.count c∧(xs.set i.toNat r).take (i+1).toNat=pieces c s:=by
 have hi:=h.i0;have hi1:=h.i1;have hl:=h.left;have hx:=h.len
 have hc:c ∉ r:=by
  rcases he with he | he
  ·intro hm;have:=List.count_pos_iff.2 hm;omega
  ·rcases Dh c r with ⟨_,h2⟩ | ⟨j,e,_⟩
   ·exact h2
   ·omega
 have h0:r.count c=0:=List.count_eq_zero.2 hc
 refine⟨by omega,?_⟩
 rw [h.eq,GR hc,show(i+1).toNat=i.toNat+1 by omega,List.take_add_one,List.getElem?_set_self (by omega),List.take_set_of_le (by omega)]
 rfl
theorem Ih {c:UInt8}:∀ {s:AL} {p:AL},p∈pieces c s→p.length≤s.length
 | [],p,h=>by simp [pieces] at h;simp [h]
 | x :: r,p,h=>by
  unfold pieces at h
  obtain⟨q,t,hq⟩:=List.exists_cons_of_ne_nil (K4 c r)
  have ih:=@Ih c r
  rw [hq] at h ih
  split at h
  ·rcases List.mem_cons.1 h with h | h
   ·simp [h]
   ·have:=ih h;simp;omega
  ·simp only [List.headD_cons,List.tail_cons] at h
   rcases List.mem_cons.1 h with h | h
   ·have:=ih (p:=q) (by simp);rw [h];simp;omega
   ·have:=ih (p:=p) (by simp [h]);simp;omega
theorem RP {c:UInt8}{s:AL}(i:Nat):((pieces c s).getD i []).length≤s.length:=by
 rw [List.getD_eq_getElem?_getD]
 cases h:(pieces c s)[i]? with
 | none=>simp
 | some p=>exact Ih (List.mem_of_getElem? h)
def Jo (s:AL)(k:Nat):List AL:=(((pieces 32 s).take k).filter fun w=>!decide (w = [])).map low
theorem QQ (s:AL):words s=Jo s ((pieces 32 s).length:Int).toNat:=by
 rw [Jo,show((pieces 32 s).length:Int).toNat=(pieces 32 s).length by omega,List.take_length];rfl
theorem NW {α:Type}{xs:List α}{d:α}{k:Int}(h0:0≤k)(h1:k < xs.length):xs.take (k+1).toNat=xs.take k.toNat ++ [xs.getD k.toNat d]:=by
 have hk:k.toNat < xs.length:=by omega
 rw [show(k+1).toNat=k.toNat+1 by omega,List.take_add_one,List.getD_eq_getElem?_getD,List.getElem?_eq_getElem hk]
 rfl
theorem bV {s:AL}{k:Int}(h0:0≤k)(h1:k < (pieces 32 s).length)(h:(!decide ((pieces 32 s).getD k.toNat [] = []))=true):Jo s (k+1).toNat=Jo s k.toNat ++ [low ((pieces 32 s).getD k.toNat [])]:=by
 unfold Jo
 rw [NW (d:= []) h0 h1,List.filter_append,List.map_append]
 congr 1
 rw [List.filter_cons_of_pos (p:=fun w:AL=>!decide (w = [])) h];rfl
theorem bU {s:AL}{k:Int}(h0:0≤k)(h1:k < (pieces 32 s).length)(h:(!decide ((pieces 32 s).getD k.toNat [] = []))=false):Jo s (k+1).toNat=Jo s k.toNat:=by
 unfold Jo
 rw [NW (d:= []) h0 h1,List.filter_append,List.map_append,List.filter_cons_of_neg (p:=fun w:AL=>!decide (w = [])) (by rw [h];decide)]
 simp
/-! #### verbs -/
def pre (s p:AL):Bool:=decide ((p.length:Int)≤(s.length:Int)) && decide (s.take p.length=p)
def JF (w:AL):Nat→Int × Int
 | 0=>(0,3)
 | n+1=>if pre (AD.DF.getD (20 - n) []) w=true then(((20 - n:Nat):Int),0) else JF w n
def verb (w:AL):Int × Int:=if (!decide (w = []))=true then JF w 21 else(0,3)
theorem WW {w:AL}{k:Int}(h0:0≤k)(h1:k < 21):JF w (21 - k).toNat=if pre (AD.DF.getD k.toNat []) w=true then(k,0) else JF w (21 - (k+1)).toNat:=by
 rw [show(21 - k).toNat=(21 - (k+1)).toNat+1 by omega,JF,show 20 - (21 - (k+1)).toNat=k.toNat by omega,show((k.toNat:Nat):Int)=k by omega]
def fm:Vector AL 21:=⟨AD.DF.toArray,rfl⟩
theorem QP:BO AX fm=AD.Be:=by kernel_rfl
/-! #### cutting and trimming -/
def Gd (s p:AL):AL × Bool:=if (!pre s p)=true then(s,false) else(s.drop p.length,true)
def cut (c:UInt8)(s:AL):AL × AL × Bool:=if decide (0≤Lib.indexByte s c)=true then(s.take (Lib.indexByte s c).toNat,s.drop (Lib.indexByte s c+1).toNat,true) else(s,[],false)
theorem fW {c:UInt8}{s:AL}(h:0≤Lib.indexByte s c):Lib.indexByte s c < s.length:=by
 rcases Dh c s with ⟨e,_⟩ | ⟨i,e,h1,_⟩<;>omega
theorem OL (c:UInt8)(s:AL):(cut c s).1.length≤s.length∧(cut c s).2.1.length≤s.length:=by
 unfold cut;split<;>simp;omega
def DH (c:UInt8)(s:AL):AL:=s.dropWhile (·== c)
def Dx (c:UInt8)(s:AL):AL:=(s.reverse.dropWhile (·== c)).reverse
theorem XI {x c:UInt8}(h:(x.toNat:Int)=(c.toNat:Int)):x=c:=UInt8.toNat_inj.1 (by omega)
theorem XF {c:UInt8}{r:AL}(h:(decide ((0:Int) < (r.length:Int)) && decide (((r.getD (0:Int).toNat 0).toNat:Int)=(c.toNat:Int)))=true):DH c r=DH c (r.drop 1):=by
 cases r with
 | nil=>simp at h
 | cons x r=>
  simp only [Bool.and_eq_true,decide_eq_true_eq] at h
  have:x=c:=XI h.2
  subst this
  simp [DH]
theorem XE {c:UInt8}{r:AL}(h:(decide ((0:Int) < (r.length:Int)) && decide (((r.getD (0:Int).toNat 0).toNat:Int)=(c.toNat:Int)))=false):DH c r=r:=by
 cases r with
 | nil=>rfl
 | cons x r=>
  have hx:(x == c)=false:=by
   rw [Bool.eq_false_iff]
   intro e
   have:x=c:=by simpa using e
   subst this
   simp at h
  simp [DH,hx]
theorem bM {c:UInt8}{r:AL}(h:(decide ((0:Int) < (r.length:Int)) && decide (((r.getD ((r.length:Int) - 1).toNat 0).toNat:Int)=(c.toNat:Int)))=true):Dx c r=Dx c (r.take ((r.length:Int) - 1).toNat):=by
 simp only [Bool.and_eq_true,decide_eq_true_eq] at h
 have hne:r≠ []:=by rintro rfl;simp at h
 obtain⟨q,x,rfl⟩:∃ q x,r=q ++ [x]:=⟨r.dropLast,r.getLast hne,(List.dropLast_concat_getLast hne).symm⟩
 have e:(((q ++ [x]).length:Int) - 1).toNat=q.length:=by simp
 rw [e] at h ⊢
 have:x=c:=XI (by simpa [List.getD_eq_getElem?_getD] using h.2)
 subst this
 simp [Dx]
theorem bL {c:UInt8}{r:AL}(h:(decide ((0:Int) < (r.length:Int)) && decide (((r.getD ((r.length:Int) - 1).toNat 0).toNat:Int)=(c.toNat:Int)))=false):Dx c r=r:=by
 by_cases hne:r = []
 ·subst hne;rfl
 ·obtain⟨q,x,rfl⟩:∃ q x,r=q ++ [x]:=⟨r.dropLast,r.getLast hne,(List.dropLast_concat_getLast hne).symm⟩
  have e:(((q ++ [x]).length:Int) - 1).toNat=q.length:=by simp
  rw [e] at h
  have hx:(x == c)=false:=by
   rw [Bool.eq_false_iff]
   intro e
   have:x=c:=by simpa using e
   subst this
   simp [List.getD_eq_getElem?_getD] at h
  simp [Dx,hx]
theorem Mr (c:UInt8)(s:AL):(DH c s).length≤s.length:=(List.dropWhile_sublist _).length_le
theorem Oa (c:UInt8)(s:AL):(Dx c s).length≤s.length:=by
 have:=(List.dropWhile_sublist (l:=s.reverse) (·== c)).length_le
 simpa [Dx] using this
/-! #### the rest of an order -/
def many (z:Int):Bool:=decide (z=7) || decide (z=8) || decide (z=9)
def Ds (z:Int):AL × Bool:=if decide (z=7)=true then([102,114,111,109],false) else if decide (z=9)=true then([105,110],true) else if decide (z=10)=true then([116,111],true) else([],false)
def M8 (s:AL):Nat→Int × Bool
 | 0=>(0,false)
 | n+1=>if decide (AD.DF.getD (5 - n) []=s)=true then(((5 - n:Nat):Int),true) else M8 s n
def dir (s:AL):Int × Bool:=M8 s 6
theorem Q0 {s:AL}{k:Int}(h0:0≤k)(h1:k < 6):M8 s (6 - k).toNat=if decide (AD.DF.getD k.toNat []=s)=true then(k,true) else M8 s (6 - (k+1)).toNat:=by
 rw [show(6 - k).toNat=(6 - (k+1)).toNat+1 by omega,M8,show 5 - (6 - (k+1)).toNat=k.toNat by omega,show((k.toNat:Nat):Int)=k by omega]
/-! #### nouns -/
def LB (k rest:AL):Int × AL × Bool × Int:=
 match Lib.atoiAll k with
 | .ok n=>if (decide (n < 1) || decide (99 < n) || decide (((k.getD (0:Int).toNat 0).toNat:Int) < 49) || decide (57 < ((k.getD (0:Int).toNat 0).toNat:Int)) || decide (rest = []) || decide (0≤Lib.indexByte rest 46))=true then(0,[],false,1) else(n,rest,false,0)
 | _=>(0,[],false,1)
theorem W3 {k rest:AL}{n:Int}(h:Lib.atoiAll k = .ok n):LB k rest=if (decide (n < 1) || decide (99 < n) || decide (((k.getD (0:Int).toNat 0).toNat:Int) < 49) || decide (57 < ((k.getD (0:Int).toNat 0).toNat:Int)) || decide (rest = []) || decide (0≤Lib.indexByte rest 46))=true then(0,[],false,1) else(n,rest,false,0):=by
 unfold LB;rw [h]
theorem aK {k rest:AL}(h:∀ j,Lib.atoiAll k≠ .ok j):LB k rest=(0,[],false,1):=by
 unfold LB
 split
 ·rename_i n e;exact absurd e (h n)
 ·rfl
theorem ZU {k:AL}{n:Int}(h:Lib.atoiAll k = .ok n):0 < k.length:=by
 cases k with
 | nil=>simp [Lib.atoiAll] at h
 | cons x r=>simp
def Bq (u:AL):Int × AL × Bool × Int:=
 if decide (u = [97,108,108])=true then(1,[],true,0)
 else if ((Gd u [97,108,108,46]).2 && !decide ((Gd u [97,108,108,46]).1 = []) && !decide (0≤Lib.indexByte (Gd u [97,108,108,46]).1 46))=true then(1,(Gd u [97,108,108,46]).1,true,0)
 else if (!(cut 46 u).2.2)=true then(if decide (u = [])=true then(0,[],false,1) else(1,u,false,0))
 else LB (cut 46 u).1 (cut 46 u).2.1
/-! #### orders -/
theorem Rf (u:AL):∀ n,n≤21→0≤(JF u n).1∧(JF u n).1≤20
 | 0,_=>by simp [JF]
 | n+1,h=>by
  unfold JF
  split
  ·simp only;omega
  ·exact Rf u n (by omega)
theorem QO (u:AL):0≤(verb u).1∧(verb u).1≤20:=by
 unfold verb;split
 ·exact Rf u 21 (Nat.le_refl _)
 ·simp
def said (s:AL):AL:=DH 32 (Dx 32 (cut 32 (DH 32 s)).2.1)
def o0 (v:Int):Order:={ (default:Order) with verb:=v }
def KS (o:Order)(j:AL × Bool)(W:List AL)(m:Nat):Order × Int:=
 if (decide ((m:Int)=0) && !j.2)=true then(o,0)
 else if (!decide ((m:Int)=1) || decide (j.1 = []))=true then(default,1)
 else({ o with second:=W.getD 0 [] },0)
def Lz (o:Order)(j:AL × Bool)(W:List AL)(m:Nat):Order × Int:=
 if (decide (0 < (m:Int)) && !decide (j.1 = []) && decide (W.getD 0 []=j.1))=true then(if decide (((m - 1:Nat):Int)=0)=true then(default,1) else KS o j (W.drop 1) (m - 1))
 else KS o j W m
def KT (v:Int)(W:List AL)(m:Nat):Order × Int:=
 if (!decide ((Bq (W.getD 0 [])).2.2.2=0) || ((Bq (W.getD 0 [])).2.2.1 && !many v))=true then(default,1)
 else Lz ⟨v,(Bq (W.getD 0 [])).1,(Bq (W.getD 0 [])).2.2.1,(Bq (W.getD 0 [])).2.1,[],[]⟩ (Ds v) (W.drop 1) (m - 1)
def P1 (s:AL)(v:Int)(W:List AL)(m:Nat):Order × Int:=
 if decide (v=11)=true then(if decide (said s = [])=true then(default,1) else(⟨v,0,false,[],[],said s⟩,0))
 else if (decide (v≤6) || decide (19≤v))=true then(if decide (0 < (m:Int))=true then(default,1) else(o0 v,0))
 else if decide ((m:Int)=0)=true then(default,1)
 else if (decide (v=12) || decide (v=13))=true then
  (if (decide ((verb (W.getD 0 [])).2=0) && decide ((verb (W.getD 0 [])).1 < 6) && decide ((m:Int)=1))=true then(⟨v,1,false,AD.DF.getD (verb (W.getD 0 [])).1.toNat [],[],[]⟩,0) else KT v W m)
 else KT v W m
def parse (s:AL):Order × Int:=
 if decide (((words s).length:Int)=0)=true then(default,1)
 else if (!decide ((verb ((words s).getD 0 [])).2=0))=true then(default,(verb ((words s).getD 0 [])).2)
 else P1 s (verb ((words s).getD 0 [])).1 ((words s).drop 1) ((words s).length - 1)
theorem Sf (w:AL):(low w).length=w.length:=by simp [low]
theorem VC (s:AL)(i:Nat):((words s).getD i []).length≤s.length:=by
 rw [List.getD_eq_getElem?_getD]
 cases h:(words s)[i]? with
 | none=>simp
 | some p=>
  have hm:=List.mem_of_getElem? h
  unfold words at hm
  obtain⟨q,hq,rfl⟩:=List.mem_map.1 hm
  rw [Option.getD_some,Sf]
  exact Ih (List.mem_filter.1 hq).1
theorem K9 (s:AL)(i j:Nat):(((words s).drop j).getD i []).length≤s.length:=by
 rw [List.getD_eq_getElem?_getD,List.getElem?_drop,← List.getD_eq_getElem?_getD];exact VC s _
end Words
end Go.Ing
/- What people type: plain laws. -/
namespace Go.Ing
open Go
namespace Words
/-! #### a shorter beginning -/
theorem dQ {s p:AL}:pre s p=true↔p.length≤s.length∧s.take p.length=p:=by
 simp [pre]
/-! #### what is parsed is good -/
theorem bX {s:AL}{i:Nat}(h:i < (words s).length):(words s).getD i []≠ []:=by
 have hm:(words s)[i]∈words s:=List.getElem_mem h
 rw [List.getD_eq_getElem?_getD,List.getElem?_eq_getElem h,Option.getD_some]
 unfold words at hm
 obtain⟨q,hq,e⟩:=List.mem_map.1 hm
 intro e2
 have e3:low q = []:=e.trans e2
 have:=(List.mem_filter.1 hq).2
 have h0:q = []:=by
  have:=congrArg List.length e3
  rw [Sf] at this
  exact List.length_eq_zero_iff.1 this
 simp [h0] at this
structure Y6 (o:Order):Prop where
 v0:0≤o.verb
 v1:o.verb≤20
 n0:0≤o.nth
 n1:o.nth≤99
 al:o.An=true→o.verb=7∨o.verb=8∨o.verb=9
 tx:o.text≠ []↔o.verb=11
 s1:o.second = []∨o.verb=7∨o.verb=9∨o.verb=10
 s2:o.second≠ []∨(o.verb≠9∧o.verb≠10)
structure dh (o:Order):Prop where
 v0:0≤o.verb
 v1:o.verb≤20
 n0:0≤o.nth
 n1:o.nth≤99
 al:o.An=true→o.verb=7∨o.verb=8∨o.verb=9
 tx:o.text = []
 nv:o.verb≠11
 se:o.second = []
def Rm (r:Order × Int):Prop:=(r.2=0→Y6 r.1)∧(r.2≠0→r.1=default)
theorem Rm.bad (e:Int)(he:e≠0):Rm (default,e):=⟨fun h=>absurd h he,fun _=>rfl⟩
theorem Rm.ok {o:Order}(h:Y6 o):Rm (o,0):=⟨fun _=>h,fun h=>absurd rfl h⟩
theorem UC (v:Int):(Ds v).1 = []∧(Ds v).2=false∧v≠9∧v≠10∨(Ds v).1≠ []∧((v=7∧(Ds v).2=false)∨(v=9∧(Ds v).2=true)∨(v=10∧(Ds v).2=true)):=by
 unfold Ds
 by_cases h7:v=7
 ·subst h7;right;decide
 ·by_cases h9:v=9
  ·subst h9;right;decide
  ·by_cases h10:v=10
   ·subst h10;right;decide
   ·left;simp [h7,h9,h10]
theorem du {o:Order}(h:dh o){W:List AL}{m:Nat}(hm:m≠0→W.getD 0 []≠ []):Rm (KS o (Ds o.verb) W m):=by
 unfold KS
 have hj:=UC o.verb
 split
 ·rename_i c
  simp only [Bool.and_eq_true,decide_eq_true_eq,Bool.not_eq_true'] at c
  refine .ok ⟨h.v0,h.v1,h.n0,h.n1,h.al,by simp [h.tx,h.nv], .inl h.se, .inr ?_⟩
  rcases hj with ⟨_,_,a,b⟩ | ⟨_,⟨a,_⟩ | ⟨_,a⟩ | ⟨_,a⟩⟩
  ·exact⟨a,b⟩
  ·omega
  ·rw [c.2] at a;cases a
  ·rw [c.2] at a;cases a
 ·split
  ·exact .bad 1 (by decide)
  ·rename_i c
   simp only [Bool.or_eq_true,Bool.not_eq_true',decide_eq_false_iff_not,decide_eq_true_eq,not_or,Decidable.not_not] at c
   have hs:W.getD 0 []≠ []:=hm (by omega)
   refine .ok ⟨h.v0,h.v1,h.n0,h.n1,h.al,by simp [h.tx,h.nv], .inr ?_, .inl hs⟩
   rcases hj with ⟨a,_⟩ | ⟨_,⟨a,_⟩ | ⟨a,_⟩ | ⟨a,_⟩⟩
   ·exact absurd a c.2
   ·exact .inl a
   ·exact .inr (.inl a)
   ·exact .inr (.inr a)
theorem ib {o:Order}(h:dh o){W:List AL}{m:Nat}(hl:m=W.length)(hm:∀ i,i < W.length→W.getD i []≠ []):Rm (Lz o (Ds o.verb) W m):=by
 unfold Lz
 split
 ·split
  ·exact .bad 1 (by decide)
  ·refine du h fun h0=>?_
   have:=hm 1 (by omega)
   rwa [List.getD_eq_getElem?_getD,List.getElem?_drop,← List.getD_eq_getElem?_getD]
 ·exact du h fun h0=>hm 0 (by omega)
theorem X7 (k r:AL):(LB k r).2.2.2=0→0≤(LB k r).1∧(LB k r).1≤99:=by
 unfold LB
 split
 ·split
  ·intro h;simp at h
  ·rename_i c
   intro _
   simp only [Bool.or_eq_true,decide_eq_true_eq,not_or] at c
   show 0≤_∧_≤99
   exact⟨by simp only;omega,by simp only;omega⟩
 ·intro h;simp at h
theorem I1 (u:AL):(Bq u).2.2.2=0→0≤(Bq u).1∧(Bq u).1≤99:=by
 unfold Bq
 split
 ·intro _;simp
 ·split
  ·intro _;simp
  ·split
   ·split
    ·intro h;simp at h
    ·intro _;simp
   ·exact X7 _ _
theorem dv {v:Int}(h0:0≤v)(h1:v≤20)(hv:v≠11){W:List AL}{m:Nat}(hl:m=W.length)(hm:∀ i,i < W.length→W.getD i []≠ []):Rm (KT v W m):=by
 unfold KT
 split
 ·exact .bad 1 (by decide)
 ·rename_i c
  simp only [Bool.or_eq_true,Bool.and_eq_true,Bool.not_eq_true',decide_eq_false_iff_not,not_or,not_and,Decidable.not_not,Bool.not_eq_false] at c
  have hn:=I1 _ c.1
  refine ib (o:=⟨v,_,_,_,[],[]⟩) ⟨h0,h1,hn.1,hn.2,fun ha=>?_,rfl,hv,rfl⟩ (by simp [hl]) fun i hi=>?_
  ·have:=c.2 ha
   unfold many at this
   simp only [Bool.or_eq_true,decide_eq_true_eq] at this
   rcases this with (a | a) | a
   ·exact .inl a
   ·exact .inr (.inl a)
   ·exact .inr (.inr a)
  ·rw [List.getD_eq_getElem?_getD,List.getElem?_drop,← List.getD_eq_getElem?_getD]
   exact hm _ (by simp at hi;omega)
theorem ic {s:AL}{v:Int}(h0:0≤v)(h1:v≤20){W:List AL}{m:Nat}(hl:m=W.length)(hm:∀ i,i < W.length→W.getD i []≠ []):Rm (P1 s v W m):=by
 unfold P1
 split
 ·rename_i c
  have hv:v=11:=by simpa using c
  split
  ·exact .bad 1 (by decide)
  ·rename_i c2
   have hs:said s≠ []:=by simpa using c2
   refine .ok ⟨h0,h1,by simp,by simp,by simp,by simp [hs,hv], .inl rfl, .inr (by simp only;omega)⟩
 ·rename_i c
  have hv:v≠11:=by simpa using c
  split
  ·rename_i c2
   have hv2:v≤6∨19≤v:=by simpa using c2
   split
   ·exact .bad 1 (by decide)
   ·exact .ok (show Y6 (⟨v,0,false,[],[],[]⟩:Order) from⟨h0,h1,by simp,by simp,by simp,by simp [hv], .inl rfl, .inr (by simp only;omega)⟩)
  ·split
   ·exact .bad 1 (by decide)
   ·split
    ·split
     ·rename_i c4 _
      have hv4:v=12∨v=13:=by simpa using c4
      refine .ok ⟨h0,h1,by simp,by simp,by simp,by simp [hv], .inl rfl, .inr (by simp only;omega)⟩
     ·exact dv h0 h1 hv hl hm
    ·exact dv h0 h1 hv hl hm
theorem V0 (s:AL):Rm (parse s):=by
 unfold parse
 split
 ·exact .bad 1 (by decide)
 ·split
  ·rename_i c;exact .bad _ (by simpa using c)
  ·have hv:=QO ((words s).getD 0 [])
   refine ic hv.1 hv.2 (by simp) fun i hi=>?_
   rw [List.getD_eq_getElem?_getD,List.getElem?_drop,← List.getD_eq_getElem?_getD]
   exact bX (by simp at hi;omega)
/-! #### spaces ahead and behind -/
def Bl:AL→AL
 | []=> []
 | x :: r=>if x=32 then r else Bl r
theorem O0:∀ {u:AL},(32:UInt8) ∉ u→Bl u = []
 | [],_=>rfl
 | x :: r,h=>by
  simp only [List.mem_cons,not_or] at h
  rw [Bl,if_neg (Ne.symm h.1),O0 h.2]
theorem Qs (r:AL):∀ {a:AL},(32:UInt8) ∉ a→Bl (a++32 :: r)=r
 | [],_=>by simp [Bl]
 | x :: a,h=>by
  simp only [List.mem_cons,not_or] at h
  rw [List.cons_append,Bl,if_neg (Ne.symm h.1),Qs r h.2]
theorem cW (u:AL):(cut 32 u).2.1=Bl u:=by
 rcases Dh 32 u with ⟨e,h⟩ | ⟨i,e,h1,h2,h3⟩
 ·rw [O0 h,cut,if_neg (by simp [e])]
 ·rw [cut,if_pos (by simp [e]),e]
  conv=>rhs;rw [← List.take_append_drop i u,h3]
  rw [Qs _ h2]
  rw [show((i:Int)+1).toNat=i+1 by omega]
end Words
end Go.Ing
/- Verbs and nouns as the document has them. -/
namespace Go.Ing
open Go
namespace Words
def Hq (u:AL):Nat→Int × Int
 | 0=>(0,3)
 | n+1=>if (!decide (u = []) && decide ((u.length:Int)≤((AD.DF.getD (20 - n) []).length:Int)) && decide ((AD.DF.getD (20 - n) []).take u.length=u))=true then(((20 - n:Nat):Int),0) else Hq u n
theorem U6 {w:AL}{k:Int}(h0:0≤k)(h1:k < 21):Hq w (21 - k).toNat=if (!decide (w = []) && decide ((w.length:Int)≤((AD.DF.getD k.toNat []).length:Int)) && decide ((AD.DF.getD k.toNat []).take w.length=w))=true then(k,0) else Hq w (21 - (k+1)).toNat:=by
 rw [show(21 - k).toNat=(21 - (k+1)).toNat+1 by omega,Hq,show 20 - (21 - (k+1)).toNat=k.toNat by omega,show((k.toNat:Nat):Int)=k by omega]
theorem Rg (u:AL)(h:u≠ []):∀ n,Hq u n=JF u n
 | 0=>rfl
 | n+1=>by
  have e:(!decide (u = []))=true:=by simp [h]
  rw [Hq,JF,Rg u h n,e,Bool.true_and]
  rfl
theorem QN:∀ n,Hq [] n=(0,3)
 | 0=>rfl
 | n+1=>by rw [Hq,QN n];rfl
theorem U7 (u:AL):Hq u 21=verb u:=by
 by_cases h:u = []
 ·subst h;rw [QN];rfl
 ·rw [Rg u h,verb,if_pos (by simp [h])]
/-! #### nouns -/
def FW (i:Int)(c:Int):Bool:=decide (c < 48) || decide (57 < c) || (decide (i=0) && decide (c=48)) || decide (1 < i)
def G1 (k:AL):Nat→Int→Option Int
 | 0,n=>some n
 | r+1,n=>if FW ((k.length - (r+1):Nat):Int) ((k.getD (k.length - (r+1)) 0).toNat:Int)=true then none else G1 k r (10 * n+(((k.getD (k.length - (r+1)) 0).toNat:Int) - 48))
theorem XZ {k:AL}{i n:Int}(h0:0≤i)(h1:i < k.length):G1 k ((k.length:Int) - i).toNat n=if FW i ((k.getD i.toNat 0).toNat:Int)=true then none else G1 k ((k.length:Int) - (i+1)).toNat (10 * n+(((k.getD i.toNat 0).toNat:Int) - 48)):=by
 rw [show((k.length:Int) - i).toNat=((k.length:Int) - (i+1)).toNat+1 by omega,G1,show k.length - (((k.length:Int) - (i+1)).toNat+1)=i.toNat by omega,show((i.toNat:Nat):Int)=i by omega]
def MU (k rest:AL):Int × AL × Bool × Int:=
 match G1 k k.length 0 with
 | none=>(0,[],false,1)
 | some n=>if decide (n=0)=true then(0,[],false,1) else(n,rest,false,0)
def LM (u:AL):Int × AL × Bool × Int:=
 if decide (u = [97,108,108])=true then(1,[],true,0)
 else if (decide (((pieces 46 u).length:Int)=1) && !decide (u = []))=true then(1,u,false,0)
 else if (!decide (((pieces 46 u).length:Int)=2) || decide ((pieces 46 u).getD 1 [] = []))=true then(0,[],false,1)
 else if decide ((pieces 46 u).getD 0 [] = [97,108,108])=true then(1,(pieces 46 u).getD 1 [],true,0)
 else MU ((pieces 46 u).getD 0 []) ((pieces 46 u).getD 1 [])
theorem Jd {k r:AL}(h:G1 k k.length 0=none):MU k r=(0,[],false,1):=by unfold MU;rw [h]
theorem Je {k r:AL}{n:Int}(h:G1 k k.length 0=some n):MU k r=if decide (n=0)=true then(0,[],false,1) else(n,r,false,0):=by unfold MU;rw [h]
def Qf (k r:AL):Int × AL × Bool × Int:=
 match Lib.atoiAll k with
 | .ok n=>if (decide (n < 1) || decide (99 < n) || decide (((k.getD (0:Int).toNat 0).toNat:Int) < 49) || decide (57 < ((k.getD (0:Int).toNat 0).toNat:Int)))=true then(0,[],false,1) else(n,r,false,0)
 | _=>(0,[],false,1)
theorem X8 {k r:AL}(h1:r≠ [])(h2:(46:UInt8) ∉ r):LB k r=Qf k r:=by
 have e1:decide (r = [])=false:=decide_eq_false h1
 have e2:decide (0≤Lib.indexByte r 46)=false:=by
  rcases Dh 46 r with ⟨e,_⟩ | ⟨i,_,hi,_,h4⟩
  ·rw [e];rfl
  ·exfalso
   have:(46:UInt8)∈r.drop i:=by rw [h4];simp
   exact h2 (List.mem_of_mem_drop this)
 cases h:Lib.atoiAll k
 ·unfold LB Qf;rw [h];simp only [e1,e2,Bool.or_false]
 ·unfold LB Qf;rw [h]
 ·unfold LB Qf;rw [h]
theorem X9 {k r:AL}(h:r = []∨(46:UInt8)∈r):LB k r=(0,[],false,1):=by
 have e:(decide (r = []) || decide (0≤Lib.indexByte r 46))=true:=by
  rcases h with h | h
  ·simp [h]
  ·rcases Dh 46 r with ⟨_,h2⟩ | ⟨i,e,_⟩
   ·exact absurd h h2
   ·rw [e];simp
 unfold LB
 split
 ·rw [Bool.or_assoc _ (decide (r = [])),e,Bool.or_true];rfl
 ·rfl
theorem XJ:∀(l:List UInt8) (acc u:Nat),Lib.parseUint10 acc l = .ok u→acc≤u
 | [],acc,u,h=>by simp only [Lib.parseUint10] at h;injection h with h;omega
 | c :: r,acc,u,h=>by
  simp only [Lib.parseUint10] at h
  split at h
  ·split at h
   ·cases h
   ·split at h
    ·cases h
    ·have:=XJ r _ u h;omega
  ·cases h
theorem Yk {acc u:Nat}{c:UInt8}{r:List UInt8}(h:Lib.parseUint10 acc (c :: r) = .ok u):acc * 10≤u:=by
 simp only [Lib.parseUint10] at h
 split at h
 ·split at h
  ·cases h
  ·split at h
   ·cases h
   ·have:=XJ r _ u h;omega
 ·cases h
theorem Zf {c:UInt8}(h0:48≤c.toNat)(h1:c.toNat≤57):(((c.toNat - 48:Nat)):Int)=(c.toNat:Int) - 48:=by omega
theorem dK (k r:AL):Qf k r=MU k r:=by
 cases k with
 | nil=>rfl
 | cons c t=>
  have hd:G1 (c :: t) (c :: t).length 0=if FW 0 (c.toNat:Int)=true then none else G1 (c :: t) t.length (10 * 0+((c.toNat:Int) - 48)):=by
   show G1 (c :: t) (t.length+1) 0=_
   rw [G1,show(c :: t).length - (t.length+1)=0 by simp]
   rfl
  by_cases hc:49≤c.toNat∧c.toNat≤57
  ·have hb:FW 0 (c.toNat:Int)=false:=by unfold FW;simp;omega
   rw [hb] at hd
   simp only [Bool.false_eq_true,if_false] at hd
   have hsg:¬ (c.toNat=43∨c.toNat=45):=by omega
   have hn45:¬ c.toNat=45:=by omega
   have hat:Lib.atoiAll (c :: t)=match Lib.parseUint10 (c.toNat - 48) t with
     | .ok u=>if 9223372036854775808≤u then .range else .ok (u:Int)
     | .range=> .range
     | _=>Lib.atoiAll []:=by
    have e:(if c.toNat=43∨c.toNat=45 then t else c :: t)=c :: t:=if_neg hsg
    have hm:Lib.parseMag (c :: t)=Lib.parseUint10 (c.toNat - 48) t:=by
     unfold Lib.parseMag
     rw [if_neg (by simp),Lib.parseUint10,if_pos (by omega),if_neg (by omega),if_neg (by omega),show 0 * 10+(c.toNat - 48)=c.toNat - 48 by omega]
    unfold Lib.atoiAll
    simp only [e]
    rw [hm]
    cases Lib.parseUint10 (c.toNat - 48) t<;>simp [hn45,Lib.atoiAll]
   cases t with
   | nil=>
    rw [Lib.parseUint10] at hat
    simp only at hat
    rw [if_neg (by omega)] at hat
    have hdf:G1 [c] [c].length 0=some ((c.toNat:Int) - 48):=by rw [hd];simp [G1]
    rw [Je hdf]
    unfold Qf
    rw [hat,Zf (by omega) (by omega)]
    simp only
    have e0:(([c]:AL).getD (0:Int).toNat 0)=c:=rfl
    rw [e0,if_neg (by first | (simp;done) | (simp;omega)),if_neg (by first | (simp;done) | (simp;omega))]
   | cons d t=>
    have hd1:G1 (c :: d :: t) (d :: t).length (10 * 0+((c.toNat:Int) - 48))=if FW 1 (d.toNat:Int)=true then none else G1 (c :: d :: t) t.length (10 * (10 * 0+((c.toNat:Int) - 48))+((d.toNat:Int) - 48)):=by
     show G1 (c :: d :: t) (t.length+1) _=_
     rw [G1,show(c :: d :: t).length - (t.length+1)=1 by first | (simp;done) | (simp;omega)]
     rfl
    rw [hd1] at hd
    by_cases hdd:48≤d.toNat∧d.toNat≤57
    ·have hb1:FW 1 (d.toNat:Int)=false:=by unfold FW;simp;omega
     rw [hb1] at hd
     simp only [Bool.false_eq_true,if_false] at hd
     rw [Lib.parseUint10,if_pos hdd,if_neg (by omega),if_neg (by omega)] at hat
     cases t with
     | nil=>
      rw [Lib.parseUint10] at hat
      simp only at hat
      rw [if_neg (by omega)] at hat
      have hdf:G1 [c,d] [c,d].length 0=some (10 * ((c.toNat:Int) - 48)+((d.toNat:Int) - 48)):=by rw [hd];simp [G1]
      rw [Je hdf]
      unfold Qf
      rw [hat]
      simp only
      have e0:(([c,d]:AL).getD (0:Int).toNat 0)=c:=rfl
      have e1:((((c.toNat - 48) * 10+(d.toNat - 48):Nat)):Int)=10 * ((c.toNat:Int) - 48)+((d.toNat:Int) - 48):=by omega
      rw [e0,e1,if_neg (by first | (simp;done) | (simp;omega)),if_neg (by first | (simp;done) | (simp;omega))]
     | cons e t=>
      have hd2:G1 (c :: d :: e :: t) (e :: t).length (10 * (10 * 0+((c.toNat:Int) - 48))+((d.toNat:Int) - 48))=none:=by
       show G1 (c :: d :: e :: t) (t.length+1) _=_
       rw [G1,show(c :: d :: e :: t).length - (t.length+1)=2 by first | (simp;done) | (simp;omega),if_pos]
       unfold FW;simp
      rw [hd2] at hd
      rw [Jd hd]
      unfold Qf
      split
      ·rename_i n hn
       rw [if_pos]
       have hbig:99 < n:=by
        cases hq:Lib.parseUint10 ((c.toNat - 48) * 10+(d.toNat - 48)) (e :: t)
        ·rename_i u
         rw [hq] at hat
         simp only at hat
         have:=Yk hq
         split at hat
         ·rw [hat] at hn;cases hn
         ·rw [hat] at hn;injection hn with hn;omega
        ·rw [hq] at hat;rw [hat] at hn;cases hn
        ·rw [hq] at hat;rw [hat] at hn;cases hn
       simp [hbig]
      ·rfl
    ·have hb1:FW 1 (d.toNat:Int)=true:=by
      unfold FW;simp;omega
     rw [hb1] at hd
     simp only [if_true] at hd
     rw [Jd hd]
     rw [Lib.parseUint10,if_neg hdd] at hat
     unfold Qf
     rw [hat]
     rfl
  ·have hb:FW 0 (c.toNat:Int)=true:=by unfold FW;simp;omega
   rw [hb] at hd
   simp only [if_true] at hd
   rw [Jd hd]
   unfold Qf
   split
   ·rw [if_pos]
    have e0:((c :: t:AL).getD (0:Int).toNat 0)=c:=rfl
    rw [e0]
    simp;omega
   ·rfl
theorem fI {u:AL}(h:(Gd u [97,108,108,46]).2=true):∃ r,u = [97,108,108]++46 :: r∧(Gd u [97,108,108,46]).1=r:=by
 unfold Gd at h ⊢
 split at h
 ·cases h
 ·rename_i hp
  rw [if_neg hp]
  have hp':pre u [97,108,108,46]=true:=by simpa using hp
  obtain⟨_,h2⟩:=dQ.1 hp'
  refine⟨u.drop 4,?_,rfl⟩
  conv=>lhs;rw [← List.take_append_drop 4 u]
  rw [show u.take 4 = [97,108,108,46] from h2]
  rfl
theorem Zb (r:AL):Gd ([97,108,108]++46 :: r) [97,108,108,46]=(r,true):=by
 unfold Gd
 rw [if_neg]
 ·rfl
 ·simp [pre];omega
theorem L4 {a b r t:AL}(ha:(46:UInt8) ∉ a)(hb:(46:UInt8) ∉ b)(h:a++46 :: r=b++46 :: t):a=b∧r=t:=by
 have h1:=Ff (c:=46) r ha
 rw [h,Ff t hb] at h1
 have h2:b=a:=(List.cons.inj h1).1
 subst h2
 exact⟨rfl,by simpa using h⟩
theorem Hb (u:AL):LM u=Bq u:=by
 by_cases hu:(46:UInt8)∈u
 ·obtain⟨a,r,rfl,ha⟩:∃ a r,u=a++46 :: r∧(46:UInt8) ∉ a:=by
   rcases Dh 46 u with ⟨_,h⟩ | ⟨i,_,_,h2,h3⟩
   ·exact absurd hu h
   ·exact⟨u.take i,u.drop (i+1),by rw [← h3,List.take_append_drop],h2⟩
  have hp:=Ff (c:=46) r ha
  have hne:¬ decide (a++46 :: r = [97,108,108])=true:=by
   intro e
   have e':a++46 :: r = [97,108,108]:=of_decide_eq_true e
   have:(46:UInt8)∈([97,108,108]:AL):=by rw [← e'];simp
   revert this;decide
  have hcut:cut 46 (a++46 :: r)=(a,r,true):=by
   rcases Dh 46 (a++46 :: r) with ⟨_,h⟩ | ⟨i,e,h1,h2,h3⟩
   ·exact absurd hu h
   ·have hs:(a++46 :: r).take i++46 :: (a++46 :: r).drop (i+1)=a++46 :: r:=by rw [← h3,List.take_append_drop]
    obtain⟨q1,q2⟩:=L4 h2 ha hs
    unfold cut
    rw [if_pos (by simp [e]),e,show((i:Int)).toNat=i by omega,show((i:Int)+1).toNat=i+1 by omega,q1,q2]
  have hl:(pieces 46 r).length≠0:=by have:=DV 46 r;omega
  unfold LM Bq
  rw [if_neg hne,if_neg hne,hp,hcut]
  have e1:¬ ((decide (((a :: pieces 46 r).length:Int)=1) && !decide (a++46 :: r = []))=true):=by simp;omega
  rw [if_neg e1]
  have g1:(a :: pieces 46 r).getD 1 []=(pieces 46 r).getD 0 []:=rfl
  have g0:(a :: pieces 46 r).getD 0 []=a:=rfl
  rw [g1,g0]
  have hno:¬ ((!(a,r,true).2.2)=true):=by simp
  by_cases hr:r = []∨(46:UInt8)∈r
  ·-- poor
   have e2:(!decide (((a :: pieces 46 r).length:Int)=2) || decide ((pieces 46 r).getD 0 [] = []))=true:=by
    rcases hr with rfl | hr
    ·rfl
    ·have hc:=List.count_pos_iff.2 hr
     have:=DV 46 r
     simp;omega
   rw [if_pos e2]
   have e3:¬ (((Gd (a++46 :: r) [97,108,108,46]).2 && !decide ((Gd (a++46 :: r) [97,108,108,46]).1 = []) && !decide (0≤Lib.indexByte (Gd (a++46 :: r) [97,108,108,46]).1 46))=true):=by
    intro e
    rw [Bool.and_eq_true,Bool.and_eq_true] at e
    obtain⟨⟨e4,e5⟩,e6⟩:=e
    obtain⟨t,h1,h2⟩:=fI e4
    obtain⟨rfl,rfl⟩:=L4 ha (by decide) h1
    rw [h2] at e5 e6
    rcases hr with rfl | hr
    ·simp at e5
    ·rcases Dh 46 r with ⟨_,h⟩ | ⟨i,e,_⟩
     ·exact h hr
     ·rw [e] at e6;simp at e6
   rw [if_neg e3,if_neg hno]
   exact(X9 hr).symm
  ·-- A5
   have hr1:r≠ []:=fun h=>hr (.inl h)
   have hr2:(46:UInt8) ∉ r:=fun h=>hr (.inr h)
   rw [GR hr2]
   have g2:([r]:List AL).getD 0 []=r:=rfl
   rw [g2]
   have e2:¬ ((!decide (((a :: [r]:List AL).length:Int)=2) || decide (r = []))=true):=by simp [hr1]
   rw [if_neg e2]
   by_cases haa:a = [97,108,108]
   ·subst haa
    rw [if_pos (by simp),Zb]
    have e4:((r,true).2 && !decide ((r,true).1 = []) && !decide (0≤Lib.indexByte (r,true).1 46))=true:=by
     rcases Dh 46 r with ⟨e,_⟩ | ⟨i,_,_,_,h3⟩
     ·simp [hr1,e]
     ·exfalso
      have:(46:UInt8)∈r.drop i:=by rw [h3];simp
      exact hr2 (List.mem_of_mem_drop this)
    rw [if_pos e4]
   ·rw [if_neg (by simpa using haa)]
    have e3:¬ (((Gd (a++46 :: r) [97,108,108,46]).2 && !decide ((Gd (a++46 :: r) [97,108,108,46]).1 = []) && !decide (0≤Lib.indexByte (Gd (a++46 :: r) [97,108,108,46]).1 46))=true):=by
     intro e
     rw [Bool.and_eq_true,Bool.and_eq_true] at e
     obtain⟨t,h1,_⟩:=fI e.1.1
     exact haa (L4 ha (by decide) h1).1
    rw [if_neg e3,if_neg hno]
    exact((X8 hr1 hr2).trans (dK a r)).symm
 ·have hp:=GR hu
  have hcut:cut 46 u=(u,[],false):=by
   rcases Dh 46 u with ⟨e,_⟩ | ⟨i,_,_,_,h3⟩
   ·unfold cut;rw [if_neg (by simp [e])]
   ·exfalso
    have:(46:UInt8)∈u.drop i:=by rw [h3];simp
    exact hu (List.mem_of_mem_drop this)
  unfold LM Bq
  split
  ·rfl
  ·rw [hp,hcut]
   have e3:¬ (((Gd u [97,108,108,46]).2 && !decide ((Gd u [97,108,108,46]).1 = []) && !decide (0≤Lib.indexByte (Gd u [97,108,108,46]).1 46))=true):=by
    intro e
    rw [Bool.and_eq_true,Bool.and_eq_true] at e
    obtain⟨t,h1,_⟩:=fI e.1.1
    exact hu (by rw [h1];simp)
   by_cases h0:u = []
   ·subst h0;rfl
   ·rw [if_pos (by simp [h0]),if_neg e3,if_pos (show(!(u,([]:AL),false).2.2)=true from rfl),if_neg (by simp [h0])]
end Words
end Go.Ing
/- Orders as the document has them. -/
namespace Go.Ing
open Go
namespace Words
def N3:AL:= [65,66,67,68,69,70,71,72,73,74,75,76,77,78,79,80,81,82,83,84,85,86,87,88,89,90]
def N7 (c:UInt8):UInt8:=if decide (0≤Lib.indexByte N3 c)=true then u8 (97+Lib.indexByte N3 c) else c
theorem aC:∀ n:Fin 256,N7 (UInt8.ofNat n.val)=UN (UInt8.ofNat n.val):=by decide +kernel
theorem dD (c:UInt8):N7 c=UN c:=by
 have h:=aC ⟨c.toNat,c.toNat_lt⟩
 simpa using h
theorem Ga (c:UInt8):Lib.indexByte N3 c < 26:=by
 rcases Dh c N3 with ⟨e,_⟩ | ⟨i,e,h,_⟩
 ·omega
 ·have:N3.length=26:=rfl
  omega
theorem UQ {c:UInt8}(h:decide (0≤Lib.indexByte N3 c)=true) : [Value.int .u8 (97+Lib.indexByte N3 c)] = [N7 c].flatMap CE:=by
 have h0:0≤Lib.indexByte N3 c:=of_decide_eq_true h
 have h1:=Ga c
 rw [show N7 c=_ from if_pos h]
 simp [CE,QL (n:=97+Lib.indexByte N3 c) (by omega) (by omega)]
theorem W2 {c:UInt8}(h:decide (0≤Lib.indexByte N3 c)=false) : [Value.int .u8 (c.toNat:Int)] = [N7 c].flatMap CE:=by
 rw [show N7 c=_ from if_neg (by rw [h];decide)];rfl
def LS (x:List AL × AL)(c:UInt8):List AL × AL:=if c=32 then(if x.2 = [] then x.1 else x.1 ++ [x.2],[]) else(x.1,x.2 ++ [N7 c])
def ft (s:AL):List AL × AL:=s.foldl LS ([],[])
theorem bW (s:AL):words s=((pieces 32 s).map low).filter fun w=>!decide (w = []):=by
 unfold words
 rw [List.filter_map]
 congr 1
 apply List.filter_congr
 intro x _
 have:(low x = [])↔(x = []):=by
  rw [← List.length_eq_zero_iff,Sf,List.length_eq_zero_iff]
 simp [this]
theorem fq:∀(s:AL) (l:List AL) (now p:AL) (q:List AL),pieces 32 s=p :: q→((s ++ [32]).foldl LS (l,now)).1=l++((now++low p) :: q.map low).filter fun w=>!decide (w = [])
 | [],l,now,p,q,h=>by
  simp only [pieces,List.cons.injEq] at h
  obtain⟨rfl,rfl⟩:=h
  by_cases e:now = []<;>simp [LS,e,low]
 | x :: r,l,now,p,q,h=>by
  obtain⟨a,b,hr⟩:=List.exists_cons_of_ne_nil (K4 32 r)
  rw [pieces] at h
  by_cases hx:x=32
  ·rw [if_pos hx,hr,List.cons.injEq] at h
   obtain⟨rfl,rfl⟩:=h
   subst hx
   rw [List.cons_append,List.foldl_cons,show LS (l,now) 32=(if now = [] then l else l ++ [now],[]) from if_pos rfl,fq r _ _ a b hr]
   by_cases e:now = []<;>simp [e,low]
  ·rw [if_neg hx,hr,List.cons.injEq] at h
   obtain⟨rfl,rfl⟩:=h
   rw [List.cons_append,List.foldl_cons,show LS (l,now) x=(l,now ++ [N7 x]) from if_neg hx,fq r _ _ a b hr,dD]
   simp [low]
theorem Ym (s:AL):(ft (s ++ [32])).1=words s:=by
 obtain⟨p,q,h⟩:=List.exists_cons_of_ne_nil (K4 32 s)
 unfold ft
 rw [fq s [] [] p q h,bW,h]
 simp
theorem Mv {t:AL}{k:Int}(h0:0≤k)(h1:k < t.length):ft (t.take (k+1).toNat)=LS (ft (t.take k.toNat)) (t.getD k.toNat 0):=by
 unfold ft
 rw [NW (d:=0) h0 h1,List.foldl_append]
 rfl
theorem Qw {c:UInt8}(h:decide ((c.toNat:Int)=32)=true):c=32:=XI (c:=32) (of_decide_eq_true h)
theorem ke {c:UInt8}(h:decide ((c.toNat:Int)=32)=false):c≠32:=fun e=>by subst e;revert h;decide
/-! #### what is said -/
def dn (s:AL):AL:=s.dropWhile fun c=>!(c == 32)
theorem jy {r:AL}(h:(decide ((0:Int) < (r.length:Int)) && !decide (((r.getD (0:Int).toNat 0).toNat:Int)=32))=true):dn r=dn (r.drop 1):=by
 cases r with
 | nil=>simp at h
 | cons x r=>
  have hx:(x == 32)=false:=by
   rw [Bool.eq_false_iff]
   intro e
   have e':x=32:=by simpa using e
   subst e'
   revert h
   simp
  simp [dn,hx]
theorem jx {r:AL}(h:(decide ((0:Int) < (r.length:Int)) && !decide (((r.getD (0:Int).toNat 0).toNat:Int)=32))=false):dn r=r:=by
 cases r with
 | nil=>rfl
 | cons x r=>
  have hx:x=32:=by
   refine XI (c:=32) ?_
   have h2:decide ((0:Int) < ((x :: r:AL).length:Int))=true:=decide_eq_true (by simp)
   rw [h2,Bool.true_and] at h
   simpa using h
  subst hx
  simp [dn]
theorem Zg:∀ u:AL,DH 32 (dn u)=DH 32 (Bl u)
 | []=>rfl
 | x :: r=>by
  by_cases hx:x=32
  ·subst hx;simp [dn,Bl,DH]
  ·have hb:(x == 32)=false:=by simpa using hx
   have e:dn (x :: r)=dn r:=by simp [dn,hb]
   rw [e,Bl,if_neg hx,Zg r]
theorem U4 (c:UInt8)(r:AL):Dx 32 (c :: r)=if Dx 32 r = [] then(if c=32 then [] else [c]) else c :: Dx 32 r:=by
  unfold Dx
  rw [List.reverse_cons,List.dropWhile_append]
  by_cases h:r.reverse.dropWhile (· == 32) = []
  · rw [h]
    by_cases hc:c=32
    · simp [hc]
    · have hb:(c == 32)=false:=by simpa using hc
      simp [hc,hb]
  · have h2:(r.reverse.dropWhile (· == 32)).isEmpty=false:=by simpa using h
    rw [h2]
    simp [h]
theorem Mt:∀ x:AL,Dx 32 (DH 32 x)=DH 32 (Dx 32 x)
 | []=>rfl
 | c :: r=>by
  by_cases hc:c=32
  ·subst hc
   have e1:DH 32 (32 :: r)=DH 32 r:=by simp [DH]
   rw [e1,Mt r,U4]
   split
   ·rename_i h;rw [h,if_pos rfl]
   ·simp [DH]
  ·have hb:(c == 32)=false:=by simpa using hc
   have e1:∀ t,DH 32 (c :: t)=c :: t:=fun t=>by simp [DH,hb]
   rw [e1,U4]
   split
   ·(try rw [if_neg hc]);exact(e1 _).symm
   ·exact(e1 _).symm
def Ns (s:AL):AL:=Dx 32 (DH 32 (dn (DH 32 s)))
theorem aT (s:AL):Ns s=said s:=by
 unfold Ns said
 rw [Mt,← Mt,Zg,cW,Mt]
/-! #### orders -/
theorem Xq (v:Int):(QU [(7,Ag [102,114,111,109]),(9,Ag [105,110]),(10,Ag [116,111])] v).getD (Ag [])=Ag (Ds v).1:=by
 unfold Ds
 by_cases h7:v=7
 ·subst h7;rfl
 ·by_cases h9:v=9
  ·subst h9;rfl
  ·by_cases h10:v=10
   ·subst h10;rfl
   ·have b7:(v == 7)=false:=by simpa using h7
    have b9:(v == 9)=false:=by simpa using h9
    have b10:(v == 10)=false:=by simpa using h10
    simp [QU,h7,h9,h10,b7,b9,b10]
def OS (o:Order)(v:Int)(W:List AL)(m:Nat):Order × Int:=
 if (decide ((m:Int)=0) && !decide (v=9) && !decide (v=10))=true then(o,0)
 else if (!decide ((m:Int)=1) || decide ((Ds v).1 = []))=true then(default,1)
 else({ o with second:=W.getD 0 [] },0)
def OT (o:Order)(v:Int)(W:List AL)(m:Nat):Order × Int:=
 if (!decide ((Ds v).1 = []) && decide (0 < (m:Int)) && decide (W.getD 0 []=(Ds v).1))=true then(if decide (((m - 1:Nat):Int)=0)=true then(default,1) else OS o v (W.drop 1) (m - 1))
 else OS o v W m
def alone (v:Int):Bool:=decide (v < 7) || decide (18 < v)
def EV (s:AL):Order × Int:=
 if decide (((words s).length:Int)=0)=true then(default,1)
 else if (!decide ((verb ((words s).getD 0 [])).2=0))=true then(default,(verb ((words s).getD 0 [])).2)
 else if decide ((verb ((words s).getD 0 [])).1=11)=true then(if decide (Ns s = [])=true then(default,1) else(⟨(verb ((words s).getD 0 [])).1,0,false,[],[],Ns s⟩,0))
 else if (alone (verb ((words s).getD 0 [])).1 != decide (((words s).length:Int)=1))=true then(default,1)
 else if alone (verb ((words s).getD 0 [])).1=true then(o0 (verb ((words s).getD 0 [])).1,0)
 else if ((decide ((verb ((words s).getD 0 [])).1=12) || decide ((verb ((words s).getD 0 [])).1=13)) && decide (((words s).length:Int)=2) && decide ((verb ((words s).getD 1 [])).2=0) && decide ((verb ((words s).getD 1 [])).1 < 6))=true then
  (⟨(verb ((words s).getD 0 [])).1,1,false,AD.DF.getD (verb ((words s).getD 1 [])).1.toNat [],[],[]⟩,0)
 else if (!decide ((Bq ((words s).getD 1 [])).2.2.2=0) || ((Bq ((words s).getD 1 [])).2.2.1 && !decide ((verb ((words s).getD 0 [])).1=7) && !decide ((verb ((words s).getD 0 [])).1=8) && !decide ((verb ((words s).getD 0 [])).1=9)))=true then(default,1)
 else OT ⟨(verb ((words s).getD 0 [])).1,(Bq ((words s).getD 1 [])).1,(Bq ((words s).getD 1 [])).2.2.1,(Bq ((words s).getD 1 [])).2.1,[],[]⟩ (verb ((words s).getD 0 [])).1 ((words s).drop 2) ((words s).length - 2)
theorem Xr (v:Int):(Ds v).2=(decide (v=9) || decide (v=10)):=by
 unfold Ds
 by_cases h7:v=7
 ·subst h7;rfl
 ·by_cases h9:v=9
  ·subst h9;rfl
  ·by_cases h10:v=10
   ·subst h10;rfl
   ·simp [h7,h9,h10]
theorem P0 (o:Order)(v:Int)(W:List AL)(m:Nat):OS o v W m=KS o (Ds v) W m:=by
 unfold OS KS
 rw [Xr,Bool.and_assoc,show(!decide (v=9) && !decide (v=10))=!(decide (v=9) || decide (v=10)) by simp]
theorem Vz (o:Order)(v:Int)(W:List AL)(m:Nat):OT o v W m=Lz o (Ds v) W m:=by
 unfold OT Lz
 rw [P0,P0,Bool.and_comm (!decide ((Ds v).1 = []))]
theorem Cb (s:AL):EV s=parse s:=by
 unfold EV parse
 split
 ·rfl
 ·rename_i c1
  have hl:(words s).length≠0:=by simpa using c1
  split
  ·rfl
  ·generalize (verb ((words s).getD 0 [])).1=v
   unfold P1
   rw [aT]
   split
   ·rfl
   ·rename_i c3
    have hg:((words s).drop 1).getD 0 []=(words s).getD 1 []:=by
     rw [List.getD_eq_getElem?_getD,List.getElem?_drop,← List.getD_eq_getElem?_getD]
    have hal:alone v=(decide (v≤6) || decide (19≤v)):=by
     unfold alone
     rw [show decide (v < 7)=decide (v≤6) from decide_eq_decide.2 ⟨fun _=>by omega,fun _=>by omega⟩,show decide (18 < v)=decide (19≤v) from decide_eq_decide.2 ⟨fun _=>by omega,fun _=>by omega⟩]
    rw [hal,hg]
    cases ha:(decide (v≤6) || decide (19≤v)) with
    | true=>
     by_cases h1:(words s).length=1
     ·simp [h1]
     ·have q0:decide (((words s).length:Int)=1)=false:=decide_eq_false (by omega)
      have q1:decide (0 < (((words s).length - 1:Nat):Int))=true:=decide_eq_true (by omega)
      rw [q0,q1]
      rfl
    | false=>
     by_cases h1:(words s).length=1
     ·simp [h1]
     ·have h2:¬ (words s).length - 1=0:=by omega
      have e0:decide (((words s).length:Int)=1)=false:=decide_eq_false (by omega)
      have e00:¬ decide ((((words s).length - 1:Nat):Int)=0)=true:=by simp;omega
      rw [e0]
      simp only [bne_self_eq_false,Bool.false_eq_true,if_false]
      rw [if_neg e00]
      have hN:(if (!decide ((Bq ((words s).getD 1 [])).2.2.2=0) || ((Bq ((words s).getD 1 [])).2.2.1 && !decide (v=7) && !decide (v=8) && !decide (v=9)))=true then((default:Order),(1:Int))
        else OT ⟨v,(Bq ((words s).getD 1 [])).1,(Bq ((words s).getD 1 [])).2.2.1,(Bq ((words s).getD 1 [])).2.1,[],[]⟩ v ((words s).drop 2) ((words s).length - 2))=KT v ((words s).drop 1) ((words s).length - 1):=by
       unfold KT
       rw [hg,Vz,List.drop_drop,show(words s).length - 1 - 1=(words s).length - 2 by omega]
       have e:((Bq ((words s).getD 1 [])).2.2.1 && !decide (v=7) && !decide (v=8) && !decide (v=9))=((Bq ((words s).getD 1 [])).2.2.1 && !many v):=by
        unfold many
        cases decide (v=7)<;>cases decide (v=8)<;>cases decide (v=9)<;>simp
       rw [e]
      rw [hN]
      by_cases hd:(decide (v=12) || decide (v=13))=true
      ·rw [if_pos hd,hd,Bool.true_and]
       have e2:decide (((words s).length:Int)=2)=decide ((((words s).length - 1:Nat):Int)=1):=decide_eq_decide.2 ⟨fun _=>by omega,fun _=>by omega⟩
       rw [e2]
       have e3:(decide ((((words s).length - 1:Nat):Int)=1) && decide ((verb ((words s).getD 1 [])).2=0) && decide ((verb ((words s).getD 1 [])).1 < 6))=(decide ((verb ((words s).getD 1 [])).2=0) && decide ((verb ((words s).getD 1 [])).1 < 6) && decide ((((words s).length - 1:Nat):Int)=1)):=by
        cases decide ((((words s).length - 1:Nat):Int)=1)<;>simp
       rw [e3]
      ·rw [if_neg hd]
       have hd':(decide (v=12) || decide (v=13))=false:=by simpa using hd
       rw [hd']
       simp
theorem fi {v:Int}{n:Nat}(h1:((decide (v < 7) || decide (18 < v)) != decide ((n:Int)=1))=false)(h2:(decide (v < 7) || decide (18 < v))=false)(h0:¬ n=0):2≤n:=by
 rw [h2] at h1
 have:decide ((n:Int)=1)=false:=by simpa using h1
 have:=of_decide_eq_false this
 omega
end Words
end Go.Ing
/- The program's data, in Lean, and their parts. -/
namespace Go.Ing
open Go
structure Ab where
 w:AD
 b:Int
 out:Hd
instance:Inhabited Ab:=⟨⟨default,0,⟨none,0,0⟩⟩⟩
def Ab.enc (x:Ab):List Value:=AD.enc x.w++AT x.b++EE x.out
instance Ab.fl:Flat Ab.enc 167:=⟨fun x=>by simp [Ab.enc,AD.fl.len,QT.len,Bm.len],fun x v hv=>by
 simp only [Ab.enc,List.mem_append] at hv
 rcases hv with (h | h) | h
 ·exact AD.fl.one _ v h
 ·exact Bm.one _ v h
 ·exact QT.one _ v h⟩
instance Ab.l0:Ac Ab.enc (AD.enc) 0 165 (fun x=>x.w) (fun x y=>{ x with w:=y }):=
 Ac.ER AD.fl (fun _=> []) (fun x=>AT x.b++EE x.out) (fun _=>rfl) (fun x=>by simp [Ab.enc]) (fun x y=>by simp [Ab.enc])
instance Ab.l1:Ac Ab.enc (AT) 165 1 (fun x=>x.b) (fun x y=>{ x with b:=y }):=
 Ac.ER Bm (fun x=>AD.enc x.w) (fun x=>EE x.out) (fun x=>by simp [AD.fl.len]) (fun x=>by simp [Ab.enc]) (fun x y=>by simp [Ab.enc])
instance Ab.l2:Ac Ab.enc (EE) 166 1 (fun x=>x.out) (fun x y=>{ x with out:=y }):=
 Ac.ER QT (fun x=>AD.enc x.w++AT x.b) (fun _=> []) (fun x=>by simp [AD.fl.len,Bm.len]) (fun x=>by simp [Ab.enc]) (fun x y=>by simp [Ab.enc])
end Go.Ing
/- What comes of what beings do: plain functions. -/
namespace Go.Ing
open Go
structure AA where
 w:AD
 b:Int
 out:List Event
namespace AA
def Dn (k:Int):Event:=⟨k,0,0,-1,0,0,[],[],[],[],default⟩
def me (T:AA):A6:=T.w.AF.at T.b
def Zn (T:AA)(e:Event):Event:={ e with Al:=T.b,CS:=T.me.name,room:=T.me.room }
def DT (T:AA)(e:Event):Event:=if decide (0≤e.other)=true then { T.Zn e with D7:=(T.w.AF.at e.other).name } else T.Zn e
def Am (T:AA)(e:Event):AA:={ T with out:=T.out ++ [T.w.GZ (T.DT e) 6] }
def kind (T:AA)(k:Int):AA:=T.Am (Dn k)
def AQ (T:AA)(k i:Int):AA:=T.Am { Dn k with AQ:=(T.w.AH.at i).name }
def tell (T:AA)(s:AL):AA:=T.Am { Dn 16 with text:=s }
@[simp] theorem gA (T:AA) (e:Event):(T.Am e).w=T.w:=rfl
@[simp] theorem fy (T:AA) (e:Event):(T.Am e).b=T.b:=rfl
@[simp] theorem BG (T:AA) (e:Event):(T.Am e).out.length=T.out.length+1:=by simp [Am]
@[simp] theorem kL (T:AA) (s:AL):(T.tell s).w=T.w:=rfl
@[simp] theorem kK (T:AA) (s:AL):(T.tell s).b=T.b:=rfl
@[simp] theorem BQ (T:AA) (s:AL):(T.tell s).out.length=T.out.length+1:=by simp [tell]
/-! #### lists -/
def CX (w:AD):AL→List Int→AL
 | s,[]=>s
 | s,i :: r=>CX w (if (w.AH.at i).on=true then s ++ [32]++(w.AH.at i).name ++ [42] else s ++ [32]++(w.AH.at i).name) r
def RH (w:AD)(s:AL)(l:List Int):AL:=if decide ((l.length:Int)=0)=true then CX w s l ++ [32,110,111,116,104,105,110,103] else CX w s l
def list (T:AA)(s:AL)(l:List Int):AA:=T.tell (RH T.w s l ++ [46])
/-! #### what is about -/
def Gv (r:Room):Nat→AL
 | 0=> [87,97,121,115,58]
 | d+1=>if decide (r.BH.at (d:Int)=0)=true then Gv r d else if r.shut.at (d:Int)=true then Gv r d++([32]++AD.called d) ++ [42] else Gv r d++([32]++AD.called d)
def D5 (T:AA):Nat→AA
 | 0=>T
 | k+1=>if (!decide ((k:Int)=T.b) && T.w.EI T.b k)=true then(D5 T k).tell ((T.w.AF.at k).name ++ [32,105,115,32,104,101,114,101,46]) else D5 T k
def KF:AL:= [73,116,32,105,115,32,100,97,114,107,46]
def D6 (T:AA):AA:=
 ((T.tell ([84,104,101,32]++(T.w.Ad.at T.me.room).name ++ [46])).tell (Gv (T.w.Ad.at T.me.room) 6))
def BU (T:AA):AA:=if decide (0 < ((T.w.has 0 T.me.room).length:Int))=true then T.D6.list [72,101,114,101,32,105,115] (T.w.has 0 T.me.room) else T.D6
def look (T:AA):AA:=if (!T.w.ED T.me.room)=true then T.tell KF else D5 T.BU 6
def Za:AL:= [89,111,117,32,99,97,110,110,111,116,32,103,111,32,116,104,101,114,101,46]
def SZ:AL:= [73,116,32,105,115,32,115,104,117,116,46]
def Ha (T:AA)(r:Int):AA:={ T with w:={ T.w with AF:=T.w.AF.put T.b { T.me with room:=r,A2:=0 } } }
def walk (T:AA)(d:Int):AA:=
 if decide ((T.w.Ad.at T.me.room).BH.at d=0)=true then T.tell Za
 else if (T.w.Ad.at T.me.room).shut.at d=true then T.tell SZ
 else(((T.Am { Dn 1 with dir:=d }).Ha ((T.w.Ad.at T.me.room).BH.at d - 1)).Am { Dn 2 with dir:=AD.opposite d }).look
/-! #### things that are meant -/
def Hc (w:AD)(name:AL)(l:List Int):List Int:=l.filter fun i=>decide (name = []) || decide ((w.AH.at i).name=name)
def AS (w:AD)(l:List Int)(nth:Int)(name:AL)(all:Bool):List Int:=
 if all=true then Hc w name l
 else if (decide (nth < 1) || decide (((Hc w name l).length:Int) < nth))=true then []
 else((Hc w name l).take nth.toNat).drop (nth - 1).toNat
def seen (T:AA):List Int:=if (!T.w.ED T.me.room)=true then [] else T.w.has 0 T.me.room
def own (T:AA):List Int:=T.w.has 1 T.b
def one (T:AA)(u:AL):Int × Bool:=
 if (!decide ((Words.Bq u).2.2.2=0) || (Words.Bq u).2.2.1)=true then(0,false)
 else if decide (((AS T.w (T.own++T.seen) (Words.Bq u).1 (Words.Bq u).2.1 false).length:Int)=0)=true then(0,false)
 else((AS T.w (T.own++T.seen) (Words.Bq u).1 (Words.Bq u).2.1 false).getD 0 0,true)
def HK:AL:= [84,104,101,114,101,32,105,115,32,110,111,32,115,117,99,104,32,116,104,105,110,103,46]
def Sj:AL:= [89,111,117,32,104,97,118,101,32,110,111,32,115,117,99,104,32,116,104,105,110,103,46]
def KR:AL:= [84,104,101,114,101,32,105,115,32,110,111,98,111,100,121,32,111,102,32,116,104,97,116,32,110,97,109,101,46]
def fo:AL:= [89,111,117,32,119,101,97,114,32,105,116,46]
def aG:AL:= [84,104,97,116,32,99,97,110,110,111,116,32,98,101,46]
def Zu:AL:= [73,116,32,105,115,32,115,111,46]
def IX:AL:= [89,111,117,32,102,105,103,104,116,46]
def box (T:AA)(u:AL):AA × Int × Bool:=
 if (!(T.one u).2 || !decide ((T.w.AH.at (T.one u).1).kind=3))=true then(T.tell HK,0,false)
 else if (!(T.w.AH.at (T.one u).1).on)=true then(T.tell SZ,0,false)
 else(T,(T.one u).1,true)
def Co (T:AA)(i:Int)(t:A3):AA:={ T with w:={ T.w with AH:=T.w.AH.put i t } }
def place (T:AA)(i BZ at_:Int):AA:=T.Co i { T.w.AH.at i with BZ:=BZ,at_:=at_ }
def CL (T:AA):List Int→AA
 | []=>T
 | i :: r=>CL ((T.place i 1 T.b).AQ 3 i) r
def PJ (T:AA)(l:List Int)(o:Order):AA:=CL (if decide (((AS T.w l o.nth o.name o.An).length:Int)=0)=true then T.tell HK else T) (AS T.w l o.nth o.name o.An)
def get (T:AA)(o:Order):AA:=
 if (!decide (o.second = []))=true then
  (if (!(T.box o.second).2.2)=true then(T.box o.second).1 else(T.box o.second).1.PJ ((T.box o.second).1.w.has 2 (T.box o.second).2.1) o)
 else T.PJ T.seen o
def Fx (T:AA)(name:AL):Nat→Int→Option Int
 | 0,_=>none
 | r+1,n=>if (decide (((6 - (r+1):Nat):Int)=T.b) || !decide ((T.w.AF.at ((6 - (r+1):Nat):Int)).name=name) || !T.w.EI T.b ((6 - (r+1):Nat):Int))=true then Fx T name r n else if decide (n - 1=0)=true then some ((6 - (r+1):Nat):Int) else Fx T name r (n - 1)
def AU (T:AA)(u:AL):AA × Int × Bool:=
  if (decide ((Words.Bq u).2.2.2=0) && !(Words.Bq u).2.2.1)=true then
    (match Fx T (Words.Bq u).2.1 6 (Words.Bq u).1 with
     | some k=>(T,k,true)
     | none=>(T.tell KR,0,false))
  else(T.tell KR,0,false)
def Bf (T:AA)(v to i:Int):AA:=
 if (decide ((T.w.AH.at i).kind=2) && (T.w.AH.at i).on)=true then T.tell fo
 else if decide (v=8)=true then(T.place i 0 T.me.room).AQ 4 i
 else if decide (v=10)=true then(T.place i 1 to).Am { Dn 6 with other:=to,AQ:=(T.w.AH.at i).name }
 else if T.w.Pb to i=true then T.tell aG
 else(T.place i 2 to).Am { Dn 5 with AQ:=(T.w.AH.at i).name,text:=(T.w.AH.at to).name }
def Fb (T:AA)(v to:Int):List Int→AA
 | []=>T
 | i :: r=>Fb (T.Bf v to i) v to r
def Xx (T:AA)(to:Int)(o:Order):AA:=Fb (if decide (((AS T.w T.own o.nth o.name o.An).length:Int)=0)=true then T.tell Sj else T) o.verb to (AS T.w T.own o.nth o.name o.An)
def B3 (T:AA)(o:Order):AA × Int × Bool:=if decide (o.verb=9)=true then T.box o.second else if decide (o.verb=10)=true then T.AU o.second else(T,0,true)
def EM (T:AA)(o:Order):AA:=if (!(T.B3 o).2.2)=true then(T.B3 o).1 else(T.B3 o).1.Xx (T.B3 o).2.1 o
def BW (T:AA)(b f:Int):AA:={ T with w:={ T.w with AF:=T.w.AF.put b { T.w.AF.at b with A2:=f } } }
def FY (T:AA)(o:Order):AA:=
 if (!(T.AU (if (!decide (o.nth=1) || o.An)=true then [] else o.name)).2.2)=true then(T.AU (if (!decide (o.nth=1) || o.An)=true then [] else o.name)).1
 else
  let k:=(T.AU (if (!decide (o.nth=1) || o.An)=true then [] else o.name)).2.1
  let T1:=(T.AU (if (!decide (o.nth=1) || o.An)=true then [] else o.name)).1.BW (T.AU (if (!decide (o.nth=1) || o.An)=true then [] else o.name)).1.b (k+1)
  (if decide ((T1.w.AF.at k).A2=0)=true then T1.BW k ((T.AU (if (!decide (o.nth=1) || o.An)=true then [] else o.name)).1.b+1) else T1).tell IX
/-! #### what is set -/
def before (T:AA)(first:Bool)(i:Int)(on:Bool)(ev:Int):AA:=
 if first=true then(T.Co i { T.w.AH.at i with on:=on }).AQ ev i
 else(T.AQ ev i).Co i { T.w.AH.at i with on:=on }
def B0 (T:AA)(r d:Int)(v:Bool):AA:={ T with w:={ T.w with Ad:=T.w.Ad.put r { T.w.Ad.at r with shut:=(T.w.Ad.at r).shut.put d v } } }
def Jp:AL:= [100,111,111,114]
def Hr (T:AA)(d:Int)(on:Bool)(ev:Int):AA:=
 if decide ((T.w.Ad.at T.me.room).BH.at d - 1 < 0)=true then T.tell HK
 else if ((T.w.Ad.at T.me.room).shut.at d != on)=true then T.tell Zu
 else
  let to:=(T.w.Ad.at T.me.room).BH.at d - 1
  let T1:=T.B0 T.me.room d (!on)
  (if decide ((T1.w.Ad.at to).BH.at (AD.opposite d)=T.me.room+1)=true then T1.B0 to (AD.opposite d) (!on) else T1).Am { Dn ev with AQ:=Jp }
def CC (v:Int):Bool:=decide (v=12) || decide (v=14) || decide (v=16)
def setKind (v:Int):Int:=if (decide (v=14) || decide (v=15))=true then 1 else if (decide (v=16) || decide (v=17))=true then 2 else 3
def RV (v:Int):Int:=v - 4
def B8 (T:AA)(o:Order):List Int:=AS T.w (if decide (setKind o.verb=3)=true then T.own++T.seen else T.own) (max o.nth 1) o.name false
def set (T:AA)(o:Order):AA:=
 if ((Words.dir o.name).2 && decide (setKind o.verb=3))=true then T.Hr (Words.dir o.name).1 (CC o.verb) (RV o.verb)
 else if (decide (((T.B8 o).length:Int)=0) || !decide ((T.w.AH.at ((T.B8 o).getD 0 0)).kind=setKind o.verb))=true then T.tell HK
 else if ((T.w.AH.at ((T.B8 o).getD 0 0)).on == CC o.verb)=true then T.tell Zu
 else if CC o.verb=true then T.before (!decide (setKind o.verb=2)) ((T.B8 o).getD 0 0) (CC o.verb) (RV o.verb)
 else T.before (decide (setKind o.verb=2)) ((T.B8 o).getD 0 0) (CC o.verb) (RV o.verb)
/-! #### who is gone -/
def C0 (T:AA)(i:Int):AA:=T.Co i { T.w.AH.at i with on:=if decide ((T.w.AH.at i).kind=2)=true then false else(T.w.AH.at i).on,BZ:=0,at_:=T.me.room }
def BP (T:AA):List Int→AA
 | []=>T
 | i :: r=>BP (T.C0 i) r
def CR (T:AA):Nat→AA
 | 0=>T
 | k+1=>if decide (((CR T k).w.AF.at (k:Int)).A2=T.b+1)=true then(CR T k).BW k 0 else CR T k
def EF (T:AA):AA:=(CR (T.BP T.own) 6).BW T.b 0
def Cy (T:AA)(b:Int)(x:A6):AA:={ T with w:={ T.w with AF:=T.w.AF.put b x } }
def KG (T:AA):AA:=(T.kind 18).EF.Cy T.b default
/-! #### what a being does -/
def act (T:AA)(o:Order):AA:=
 if decide (o.verb < 6)=true then T.walk o.verb
 else if decide (o.verb=6)=true then T.look
 else if decide (o.verb=19)=true then T.list [89,111,117,32,104,97,118,101] (T.w.has 1 T.b)
 else if decide (o.verb=11)=true then T.Am { Dn 7 with text:=o.text }
 else if decide (o.verb=20)=true then T.KG
 else if decide (o.verb=18)=true then T.FY o
 else if decide (o.verb=7)=true then T.get o
 else if (decide (o.verb=8) || decide (o.verb=9) || decide (o.verb=10))=true then T.EM o
 else T.set o
def Dk (X:AD)(b:Int)(o:Order):AD × List Event × Int:=
 if (!X.A5)=true then(X,[],2)
 else if (decide (b < 0) || decide (6≤b) || !(X.AF.at b).here)=true then(X,[],3)
 else if (decide (o.verb < 0) || decide (20 < o.verb))=true then(X,[],5)
 else((AA.act ⟨X,b,[]⟩ o).w,(AA.act ⟨X,b,[]⟩ o).out,0)
end AA
end Go.Ing
/- Engine: the program's own variables, beside what is handed on. -/
namespace Go.Ing
open Go
section
variable {w0 w:World} {M:List Nat} {L A K:List AJ} {g:Nat} {vs:List Value}
theorem GV.lt (h:GV g vs w):g < w.heap.size:=by
 obtain⟨t,fz,e⟩:=h
 rcases Nat.lt_or_ge g w.heap.size with h' | h'
 ·exact h'
 ·rw [Array.getElem?_eq_none h'] at e;cases e
theorem GV.stM (h:GV g vs w0)(hM:g ∉ M)(hS:St w0 M w L):GV g vs w:=by
 have hg:=h.lt
 obtain⟨t,fz,e⟩:=h
 exact⟨t,fz,(hS.Il g hg hM).trans e⟩
theorem Pv (hg:g < w0.heap.size)(hM:g ∉ M)(hS:St w0 M w L)(hp:AK L A K):g ∉ BV A:=by
 intro hf
 obtain⟨r,hr,hb⟩:=List.mem_flatMap.1 hf
 have hm:r∈L:=hp.perm.symm.subset (List.mem_append_left _ hr)
 exact hM ((hS.Bn r hm g hb).2 hg)
theorem GV.pull (h:GV g vs w0)(hM:g ∉ M)(hS:St w0 M w L)(hp:AK L A K):GV g vs w∧g ∉ BV A:=⟨h.stM hM hS,Pv h.lt hM hS hp⟩
theorem Eo.stM (h:Eo g w0)(hM:g ∉ M)(hS:St w0 M w L):Eo g w:=by
 obtain⟨tp,p,h⟩:=h;exact⟨tp,p,h.stM hM hS⟩
theorem Eo.pull (h:Eo g w0)(hM:g ∉ M)(hS:St w0 M w L)(hp:AK L A K):Eo g w∧g ∉ BV A:=by
 obtain⟨tp,p,h⟩:=h;exact⟨⟨tp,p,h.stM hM hS⟩,Pv h.lt hM hS hp⟩
end
section
variable {P:Program} {n:Nat} {w0:World} {M:List Nat} {Q:Exit→Go.Act→World→Prop} {F F':List (Nat × Value)} {L L':List AJ} {ops:Array Oper} {rest:List Oper}
theorem VF {α:Type}{e:α→List Value}{d T U E sz:Nat}{x y z:Operand}{pos:String}{Bl:Array Edge}{h:Hd}{xs:List α}{kd kz:IntKind}{i j:Int}{Lf:AJ→List AJ}(fe:Flat e sz)(hd:Nat.blt d n=true)(hT:P.underlying T=some (.slice E))(hs:Sz P E sz)(hx:ev F x=some h.val)(hy:ev F y=some (.int kd i))(hz:ev F z=some (.int kz j))(h0:0≤i)(h1:i≤j)(h2:j≤(h.len:Int))(hU:∀ r,Ip L (AJ.own h E sz (xs.flatMap e)) r (Lf r))
  (k:GL P n w0 M ops Q rest ((d,(h.cut i.toNat j.toNat sz).val) :: F) (Lf (AJ.own (h.cut i.toNat j.toNat sz) E sz (((xs.take j.toNat).drop i.toNat).flatMap e)))):GL P n w0 M ops Q (⟨some d, .slice T x (some y) (some z) none,U,pos,Bl,none⟩ :: rest) F L:=by
 refine E7 (R:=fun v L'=>v=(h.cut i.toNat j.toNat sz).val∧L'=Lf (AJ.own (h.cut i.toNat j.toNat sz) E sz (((xs.take j.toNat).drop i.toNat).flatMap e))) hd ?_ (fun v L' ⟨e1,e2⟩=>by subst e1;subst e2;exact k)
 intro a w hF hS
 have hok:=hS.ok _ (hU ⟨[],fun _=>True,fun _ _ _ _=>trivial⟩).mem
 have hr:Rd w h E sz (xs.flatMap e):=Kn.own (M:=M) (hU ⟨[],fun _=>True,fun _ _ _ _=>trivial⟩).mem w hS
 have hcap:h.len≤h.cap:=by
  rcases hok with ⟨rfl,_⟩ | ⟨b,o,C,fz,e1,e2,e3,e4,e5,e6,_⟩
  ·exact Nat.le_refl _
  ·exact e6
 have hil:i.toNat≤j.toNat:=by omega
 have hjl:j.toNat≤h.len:=by omega
 have hlc:h.len * sz≤h.cap * sz:=Nat.mul_le_mul_right sz hcap
 have hjc:j.toNat * sz≤h.len * sz:=Nat.mul_le_mul_right sz hjl
 have hll:i.toNat * sz≤j.toNat * sz:=Nat.mul_le_mul_right sz hil
 have hcs:((xs.flatMap e).take (j.toNat * sz)).drop (i.toNat * sz)=((xs.take j.toNat).drop i.toNat).flatMap e:=MK fe xs
 have hlen:(((xs.take j.toNat).drop i.toNat).flatMap e).length=j.toNat * sz - i.toNat * sz:=by
  rw [← hcs,List.length_drop,List.length_take,← hr.1,Nat.min_eq_left hjc]
 refine⟨_,_,w,⟨rfl,rfl⟩,?_,?_⟩
 ·have hs':=hs w
  have hjcap:j≤(h.cap:Int):=by omega
  simp only [execOp,hF.ev hx,Option.map_some,Option.map_none,hF.ev hy,hF.ev hz,Hd.val,Instr.sliceAt,Instr.slice,underlying]
  simp [hT,Instr.sliceBounds,Instr.sliceBound,asIntOf,h1,h0,hs',Hd.cut,hjcap,show 0≤j by omega,show i≤max j 0 by omega]
 ·refine hS.Dy (hU _) rfl rfl rfl (Nat.le_refl _) (fun _ _ _=>rfl) ?_ ?_
  ·rcases hok with ⟨rfl,hn⟩ | ⟨b,o,C,fz,e1,e2,e3,e4,e5,e6,e7,e8⟩
   ·have hj0:j.toNat=0:=by simp at hjl;omega
    have hi0:i.toNat=0:=by omega
    refine .inl ⟨by simp [Hd.cut,hj0,hi0],?_⟩
    rw [List.eq_nil_of_length_eq_zero (l:=((xs.take j.toNat).drop i.toNat).flatMap e) (by rw [hlen,hj0];simp)]
   ·by_cases hci:h.cap=i.toNat
    ·have hji:j.toNat=i.toNat:=by omega
     refine .inr ⟨b,o,C,fz,by simp only [Hd.cut];rw [if_pos hci];exact e1,e2,e3,e4,?_,?_,?_,?_⟩
     ·simp only [Hd.cut];rw [hci,Nat.sub_self,Nat.zero_mul];omega
     ·simp only [Hd.cut];omega
     ·simp only [Hd.cut];rw [hlen,Nat.sub_mul]
     ·have hl0:(((xs.take j.toNat).drop i.toNat).flatMap e).length=0:=by rw [hlen,hji];omega
      rw [List.eq_nil_of_length_eq_zero hl0];simp
    ·refine .inr ⟨b,o+i.toNat * sz,C,fz,by simp only [Hd.cut];rw [if_neg hci,e1];simp [EC],e2,e3,fun j hj h=>e4 j (by omega) h,?_,?_,?_,?_⟩
     ·simp only [Hd.cut];rw [Nat.sub_mul];omega
     ·simp only [Hd.cut];omega
     ·simp only [Hd.cut];rw [hlen,Nat.sub_mul]
     ·have hX:xs.flatMap e=(C.drop o).take (h.len * sz):=by rw [hr.1];exact e8.symm
      have hY:((xs.take j.toNat).drop i.toNat).flatMap e=((C.drop o).take (j.toNat * sz)).drop (i.toNat * sz):=by rw [← hcs,hX,List.take_take,Nat.min_eq_left hjc]
      rw [hlen,hY,List.drop_take,List.drop_drop]
  ·intro b hb
   have hb':b∈(AJ.own h E sz (xs.flatMap e)).Bn:=by
    revert hb
    simp only [AJ.own,Hd.cut]
    cases ha:h.a with
    | none=>by_cases hc:h.cap=i.toNat<;>simp [hc]
    | some a=>
     by_cases hc:h.cap=i.toNat
     ·simp [hc]
     ·simp only [hc,if_false,Option.map_some]
      unfold Addr.add
      split<;>simp
   exact⟨(hS.Bn _ (hU ⟨[],fun _=>True,fun _ _ _ _=>trivial⟩).mem b hb').1, .inl hb'⟩
theorem Ip.ik {L L':List AJ}{r r':AJ}(h:Ip L r r' L')(e:r=r'):L'=L:=by
 induction h with
 | head=>subst e;rfl
 | tail _ ih=>rw [ih e]
theorem CY {cd:Code}{b T:Nat}{c c':List Value}{Lf:AJ→List AJ}(hU:∀ r,Ip L (AJ.box b T c) r (Lf r))(e:c=c')(k:G P n w0 M cd Q F (Lf (AJ.box b T c'))):G P n w0 M cd Q F L:=by
 subst e
 rwa [(hU (AJ.box b T c)).ik rfl] at k
theorem VG {Pr:Prop}{cd:Code}(hp:∀ w,St w0 M w L→Pr)(k:Pr→G P n w0 M cd Q F L):G P n w0 M cd Q F L:=fun a w hF hS=>k (hp w hS) a w hF hS
theorem TD {T U g o:Nat}{x:Operand}{v:Value}{vs:List Value}(hg:GV g vs w0)(hM:g ∉ M)(hx:ev F x=some (.pointer (some ⟨g,o,none⟩)))(hT:R0 P T)(hv:vs[o]?=some v):PS P n w0 M (.load T x) U F L v L:=by
 intro a w hF hS
 obtain⟨t,fz,e⟩:=hg.stM hM hS
 have hc:w.cell? ⟨g,o,none⟩=some v:=(GK e).trans hv
 exact⟨w,by simp [execOp,hF.ev hx,Instr.loadAt,Instr.sureAddr,loadVar,hT w,hc],rfl,rfl⟩
theorem ed {α β:Type}[Inhabited α]{ea:α→List Value}{eb:β→List Value}{sz p q:Nat}{g:α→β}{s:α→β→α}{T U E i:Nat}{h:Hd}{x:Operand}{xs:List α}{v:Value}
  (hx:ev F x=some (h.ptr i sz p)) (hT:R0 P T) (fe:Flat ea sz) (hl:Ac ea eb p q g s) (hk:Kn w0 M L h E sz (xs.flatMap ea)) (hi:i < xs.length) (hv:eb (g (xs.getD i default)) = [v]):PS P n w0 M (.load T x) U F L v L:=by
 have e:xs.getD i default=xs[i]:=by simp [List.getD,hi]
 rw [e] at hv
 exact Rv hx hT fe hl hk hi hv
end
section
variable {p:Prop} [Decidable p] {a b:Bool} {m n:Int}
theorem lK:((!a)=false)=(a=true):=Bool.not_eq_false' a
theorem lL:((a || b)=true)=(a=true∨b=true):=Bool.or_eq_true a b
theorem kZ:((a && b)=true)=(a=true∧b=true):=Bool.and_eq_true a b
theorem kA:((a || b)=false)=(a=false∧b=false):=propext Bool.or_eq_false_iff
theorem lJ:((a && b)=false)=(a=false∨b=false):=propext Bool.and_eq_false_iff
end
end Go.Ing
/- What comes of what beings do: plain laws. -/
namespace Go.Ing
open Go
structure AD.Cs (w:AD):Prop where
 th:∀ i,(w.AH.at i).name.length≤140737488351232
 be:∀ i,(w.AF.at i).name.length≤140737488351232
 ro:∀ i,(w.Ad.at i).name.length≤140737488351232
namespace AA
theorem MO {l:List Int}{k:Int}(h0:0≤k)(h1:k < l.length):l.drop k.toNat=l.getD k.toNat 0 :: l.drop (k+1).toNat:=by
 have hk:k.toNat < l.length:=by omega
 rw [List.drop_eq_getElem_cons hk,show(k+1).toNat=k.toNat+1 by omega,List.getD_eq_getElem?_getD,List.getElem?_eq_getElem hk]
 rfl
theorem Wz {w:AD}{s:AL}{l:List Int}{k:Int}(h0:0≤k)(h1:k < l.length)(h:(w.AH.at (l.getD k.toNat 0)).on=true):CX w s (l.drop k.toNat)=CX w (s++([32]++(w.AH.at (l.getD k.toNat 0)).name) ++ [42]) (l.drop (k+1).toNat):=by
 rw [MO h0 h1,CX,if_pos h];simp
theorem Wy {w:AD}{s:AL}{l:List Int}{k:Int}(h0:0≤k)(h1:k < l.length)(h:(w.AH.at (l.getD k.toNat 0)).on=false):CX w s (l.drop k.toNat)=CX w (s++([32]++(w.AH.at (l.getD k.toNat 0)).name)) (l.drop (k+1).toNat):=by
 rw [MO h0 h1,CX,if_neg (by rw [h];decide)];simp
theorem L6 {r:Room}{k:Int}(h:0≤k):Gv r (k+1).toNat=if decide (r.BH.at k=0)=true then Gv r k.toNat else if r.shut.at k=true then Gv r k.toNat++([32]++AD.called k) ++ [42] else Gv r k.toNat++([32]++AD.called k):=by
 obtain⟨m,rfl⟩:=Int.eq_ofNat_of_zero_le h
 rfl
theorem GH (r:Room):∀ k:Nat,(Gv r k).length≤5+k * 22
 | 0=>by simp [Gv]
 | k+1=>by
  have ih:=GH r k
  have hc:=AD.FB (k:Int)
  unfold Gv
  repeat' split
  all_goals (try simp only [List.length_append,List.length_cons,List.length_nil])
  all_goals omega
theorem HJ (T:AA):∀ k:Nat,(T.D5 k).w=T.w∧(T.D5 k).b=T.b∧(T.D5 k).out.length≤T.out.length+k
 | 0=>⟨rfl,rfl,by simp [D5]⟩
 | k+1=>by
  obtain⟨h1,h2,h3⟩:=HJ T k
  unfold D5
  split
  ·exact⟨by simpa using h1,by simpa using h2,by rw [BQ];omega⟩
  ·exact⟨h1,h2,by omega⟩
theorem Cv {T:AA}{k:Int}(h:0≤k):T.D5 (k+1).toNat=if (!decide (k=T.b) && T.w.EI T.b k)=true then(T.D5 k.toNat).tell ((T.w.AF.at k).name ++ [32,105,115,32,104,101,114,101,46]) else T.D5 k.toNat:=by
 obtain⟨m,rfl⟩:=Int.eq_ofNat_of_zero_le h
 rfl
@[simp] theorem Jb (T:AA) (s:AL) (l:List Int):(T.list s l).w=T.w∧(T.list s l).b=T.b∧(T.list s l).out.length=T.out.length+1:=⟨rfl,rfl,by simp [list]⟩
theorem OQ (T:AA):T.D6.w=T.w∧T.D6.b=T.b∧T.D6.out.length=T.out.length+2:=⟨rfl,rfl,by simp [D6]⟩
theorem Jc (T:AA):T.BU.w=T.w∧T.BU.b=T.b∧T.BU.out.length≤T.out.length+3:=by
 have h:=T.OQ
 unfold BU
 split
 ·have h2:=T.D6.Jb [72,101,114,101,32,105,115] (T.w.has 0 T.me.room)
  exact⟨h2.1.trans h.1,h2.2.1.trans h.2.1,by omega⟩
 ·exact⟨h.1,h.2.1,by omega⟩
theorem NN (T:AA):T.look.w=T.w∧T.look.b=T.b∧T.look.out.length≤T.out.length+9:=by
 unfold look
 split
 ·exact⟨rfl,rfl,by rw [BQ];omega⟩
 ·have h:=T.Jc
  have h2:=T.BU.HJ 6
  exact⟨h2.1.trans h.1,h2.2.1.trans h.2.1,by omega⟩
end AA
theorem Aa.CT {xs:List Int}{i:Nat}(h:i < xs.length):xs.getD i 0∈xs:=by
 rw [List.getD_eq_getElem?_getD,List.getElem?_eq_getElem h]
 exact List.getElem_mem h
theorem AD.Va {w:AD}{r:Int}(h:(!w.ED r)=false):0≤r∧r < 6:=by
 unfold AD.ED at h
 split at h
 ·simp at h
 ·rename_i c;simp at c;omega
theorem AD.E4 {w:AD}{BZ at_ i:Int}(h:i∈w.has BZ at_):0≤i∧i < 9:=by
 unfold AD.has at h
 have:=(List.mem_filter.1 h).1
 obtain⟨n,hn,rfl⟩:=List.mem_map.1 this
 have:=List.mem_range.1 hn
 exact⟨by simp,by show((n:Nat):Int) < 9;omega⟩
theorem AD.F7 (w:AD)(BZ at_:Int):(w.has BZ at_).length≤9:=by
 rw [AD.PN];exact AD.PM w BZ at_ _
end Go.Ing
/- What beings do keeps the land good: plain laws. -/
namespace Go.Ing
open Go
theorem Vector.EY {α:Type}[Inhabited α]{n:Nat}(v:Vector α n)(k:Int)(x y:α):(v.put k x).put k y=v.put k y:=by
 unfold Vector.put
 apply Vector.ext
 intro i hi
 simp only [Vector.getElem_setIfInBounds]
 split<;>rfl
theorem Vector.Bi {α:Type}[Inhabited α]{n:Nat}{v:Vector α n}{k:Int}{x:α}(h0:0≤k)(h1:k < n):(v.put k x).at k=x:=by rw [IW v k k x h0 h1 h0,if_pos rfl]
theorem Vector.EK {α:Type}[Inhabited α]{n:Nat}{v:Vector α n}{k i:Int}{x:α}(h0:0≤k)(h1:k < n)(hi:0≤i)(hn:i≠k):(v.put k x).at i=v.at i:=by rw [IW v k i x h0 h1 hi,if_neg hn]
namespace AD
variable {X Y:AD}
theorem Out.path:∀ {m:Nat} {i:Int},0≤i→i < 9→Out X m i→∃ s:List Int,Nl s+s.length=9∧s.length=m+1∧∀ j∈s,∃ k,k≤m∧Out X k j
 | 0,i,h0,h9,h=>⟨[] ++ [i],by have:=F9 (s:= []) (i:=i) (by simp) h0 h9;simp only [List.length_append,List.length_cons,List.length_nil];have:Nl []=9:=rfl;omega,rfl,fun j hj=>by
   have:j=i:=by simpa using hj
   subst this;exact⟨0,Nat.le_refl _,h⟩⟩
 | m+1,i,h0,h9,h=>by
  obtain⟨s,h1,h2,h3⟩:=Out.path h.2.1 h.2.2.1 h.2.2.2
  have hn:i ∉ s:=fun hm=>by
   obtain⟨k,hk,ho⟩:=h3 i hm
   have:=h.uniq ho
   omega
  have hl:=F9 hn h0 h9
  refine⟨s ++ [i],by simp only [List.length_append,List.length_cons,List.length_nil];omega,by simp only [List.length_append,List.length_cons,List.length_nil];omega,fun j hj=>?_⟩
  rcases List.mem_append.1 hj with hj | hj
  ·obtain⟨k,hk,ho⟩:=h3 j hj
   exact⟨k,by omega,ho⟩
  ·have:j=i:=by simpa using hj
   subst this;exact⟨m+1,Nat.le_refl _,h⟩
theorem Out.lN {m:Nat}{i:Int}(h0:0≤i)(h9:i < 9)(h:Out X m i):m≤8:=by
 obtain⟨s,h1,h2,_⟩:=h.path h0 h9
 omega
theorem MJ:∀ {m n:Nat} {i:Int},Out X m i→m < n→X.Hz n (X.AH.at i)=true
 | _,0,_,_,h=>absurd h (Nat.not_lt_zero _)
 | 0,n+1,i,h,_=>by
  unfold Hz
  rw [if_pos (by simpa using (show(X.AH.at i).BZ≠2 from h))]
 | m+1,n+1,i,h,hl=>by
  unfold Hz
  rw [if_neg (by simp [h.1]),if_neg (by have:=h.2.1;have:=h.2.2.1;simp;omega)]
  exact MJ h.2.2.2 (by omega)
structure Oz (X:AD)(i:Int):Prop where
 k0:0≤(X.AH.at i).kind
 k3:(X.AH.at i).kind≤3
 plain:(X.AH.at i).kind=0→(X.AH.at i).on=false
 a0:0≤(X.AH.at i).at_
 BZ:((X.AH.at i).BZ=0∧(X.AH.at i).at_ < 6∧¬ ((X.AH.at i).kind=2∧(X.AH.at i).on=true)) ∨
  ((X.AH.at i).BZ=1∧(X.AH.at i).at_ < 6∧(X.AF.at (X.AH.at i).at_).here=true) ∨
  ((X.AH.at i).BZ=2∧(X.AH.at i).at_ < 9∧(X.AH.at (X.AH.at i).at_).kind=3∧¬ ((X.AH.at i).kind=2∧(X.AH.at i).on=true))
theorem Rz.p {i:Int}(h:Rz X i):Oz X i:=⟨h.k0,h.k3,h.plain,h.a0,by
 rcases h.BZ with h | h | ⟨h1,h2,h3,h4,_⟩
 ·exact .inl h
 ·exact .inr (.inl h)
 ·exact .inr (.inr ⟨h1,h2,h3,h4⟩)⟩
theorem SL {i:Int}(h:Oz X i)(h0:0≤i)(h9:i < 9){m:Nat}(ho:Out X m i):X.Bs i=true:=by
 have hc:=MJ ho (show m < 10 by have:=ho.lN h0 h9;omega)
 have:=h.k0;have:=h.k3;have:=h.a0
 unfold Bs
 rw [if_neg (by
  simp only [Bool.or_eq_true,Bool.and_eq_true,decide_eq_true_eq]
  rintro (((h1 | h1) | ⟨h1,h2⟩) | h1)
  ·omega
  ·omega
  ·rw [h.plain h1] at h2;cases h2
  ·omega)]
 rcases h.BZ with ⟨w,a,b⟩ | ⟨w,a,b⟩ | ⟨w,a,k,b⟩
 ·rw [if_pos (by simp [w])]
  simp only [Bool.and_eq_true,decide_eq_true_eq,Bool.not_eq_true']
  refine⟨a,?_⟩
  cases hh:(decide ((X.AH.at i).kind=2) && (X.AH.at i).on) with
  | false=>rfl
  | true=>rw [Bool.and_eq_true] at hh;exact absurd ⟨of_decide_eq_true hh.1,hh.2⟩ b
 ·rw [if_neg (by simp [w]),if_pos (by simp [w])]
  simp [a,b]
 ·rw [if_neg (by simp [w]),if_neg (by simp [w]),if_pos (by simp [w]),if_neg (by
   simp only [Bool.or_eq_true,Bool.and_eq_true,decide_eq_true_eq,Bool.not_eq_true',decide_eq_false_iff_not]
   rintro ((h1 | h1) | ⟨h1,h2⟩)
   ·omega
   ·exact h1 k
   ·exact b ⟨h1,h2⟩)]
  exact hc
theorem SN (hr:∀ r d,0≤r→r < 6→0≤d→d < 6→GJ (X.Ad.at r) d=false)(hb:∀ b,0≤b→b < 6→Ca (X.AF.at b)=false)(ht:∀ i,0≤i→i < 9→Oz X i∧∃ m,Out X m i):X.A5=true:=by
 unfold A5
 rw [Bool.and_eq_true,Bool.and_eq_true]
 refine⟨(CA 6).2 fun r h0 h1=>?_,(CA 6).2 fun b h0 h1=>?_,(CA 9).2 fun i h0 h1=>?_⟩
 ·exact(CA 6).2 fun d d0 d1=>by rw [hr r d (by omega) h1 (by omega) d1];rfl
 ·rw [hb b (by omega) h1];rfl
 ·obtain⟨hp,m,ho⟩:=ht i (by omega) h1
  exact SL hp (by omega) h1 ho
theorem Out.same (h:∀ i,0≤i→i < 9→(Y.AH.at i).BZ=(X.AH.at i).BZ∧(Y.AH.at i).at_=(X.AH.at i).at_):∀ {m:Nat} {i:Int},0≤i→i < 9→Out X m i→Out Y m i
 | 0,i,h0,h9,ho=>by show(Y.AH.at i).BZ≠2;rw [(h i h0 h9).1];exact ho
 | m+1,i,h0,h9,ho=>by
  refine⟨(h i h0 h9).1.trans ho.1,?_⟩
  rw [(h i h0 h9).2]
  exact⟨ho.2.1,ho.2.2.1,Out.same h ho.2.1 ho.2.2.1 ho.2.2.2⟩
theorem Out.other {k:Int}(h:∀ i,0≤i→i < 9→i≠k→Y.AH.at i=X.AH.at i)(hk:∃ m,Out Y m k):∀ {m:Nat} {i:Int},0≤i→i < 9→Out X m i→∃ m',Out Y m' i
 | 0,i,h0,h9,ho=>by
  by_cases e:i=k
  ·subst e;exact hk
  ·exact⟨0,by show(Y.AH.at i).BZ≠2;rw [h i h0 h9 e];exact ho⟩
 | m+1,i,h0,h9,ho=>by
  by_cases e:i=k
  ·subst e;exact hk
  ·obtain⟨m',h'⟩:=Out.other h hk ho.2.1 ho.2.2.1 ho.2.2.2
   exact⟨m'+1,by rw [Out,h i h0 h9 e];exact⟨ho.1,ho.2.1,ho.2.2.1,h'⟩⟩
theorem Out.iO {k:Int}(h:∀ i,0≤i→i < 9→i≠k→Y.AH.at i=X.AH.at i):∀ {m n:Nat} {i:Int},0≤i→i < 9→Out X m i→m < n→X.inside k n i=false→Out Y m i
 | 0,0,_,_,_,_,hl,_=>absurd hl (Nat.not_lt_zero _)
 | _+1,0,_,_,_,_,hl,_=>absurd hl (Nat.not_lt_zero _)
 | 0,n+1,i,h0,h9,ho,hl,hi=>by
  have e:i≠k:=fun e=>by unfold inside at hi;rw [if_pos (by simp [e])] at hi;cases hi
  show(Y.AH.at i).BZ≠2;rw [h i h0 h9 e];exact ho
 | m+1,n+1,i,h0,h9,ho,hl,hi=>by
  have e:i≠k:=fun e=>by unfold inside at hi;rw [if_pos (by simp [e])] at hi;cases hi
  unfold inside at hi
  rw [if_neg (by simp [e]),if_neg (by simp [ho.1];omega)] at hi
  rw [Out,h i h0 h9 e]
  exact⟨ho.1,ho.2.1,ho.2.2.1,Out.iO h ho.2.1 ho.2.2.1 ho.2.2.2 (by omega) hi⟩
end AD
end Go.Ing
/- What beings do keeps the land good: the parts of a turn. -/
namespace Go.Ing
open Go
theorem Vector.Qu {α:Type}[Inhabited α]{n:Nat}(v:Vector α n)(k i:Int)(x:α):(v.put k x).at i=x∨(v.put k x).at i=v.at i:=by
 unfold Vector.put Vector.at
 rw [List.getD_eq_getElem?_getD,List.getD_eq_getElem?_getD]
 simp only [Vector.toList_setIfInBounds]
 rw [List.getElem?_set]
 split
 ·split
  ·exact .inl rfl
  ·rename_i h1 h2
   exact .inr (by rw [← h1,List.getElem?_eq_none (by omega)])
 ·exact .inr rfl
namespace AD
variable {X:AD}
def I2 (X:AD)(i:Int)(t:A3):AD:={ X with AH:=X.AH.put i t }
def Bb (X:AD)(b:Int)(x:A6):AD:={ X with AF:=X.AF.put b x }
def P5 (X:AD)(r d:Int)(v:Bool):AD:={ X with Ad:=X.Ad.put r { X.Ad.at r with shut:=(X.Ad.at r).shut.put d v } }
theorem Ib (hg:X.A5=true){i:Int}(h0:0≤i)(h9:i < 9):Oz X i:=(Mq (JZ hg h0 h9)).p
theorem ND (hg:X.A5=true){i:Int}(h0:0≤i)(h9:i < 9):∃ m,Out X m i:=by
 obtain⟨m,_,h⟩:=PL hg h0 h9;exact⟨m,h⟩
theorem OU {i j:Int}(h0:0≤i)(h9:i < 9)(j0:0≤j)(hn:j≠i)(t:A3):(X.I2 i t).AH.at j=X.AH.at j:=Vector.EK h0 h9 j0 hn
theorem H5 {i:Int}(h0:0≤i)(h9:i < 9)(t:A3):(X.I2 i t).AH.at i=t:=Vector.Bi h0 h9
theorem H4 {i j:Int}(h0:0≤i)(h9:i < 6)(j0:0≤j)(hn:j≠i)(t:A6):(X.Bb i t).AF.at j=X.AF.at j:=Vector.EK h0 h9 j0 hn
theorem Dw {i:Int}(h0:0≤i)(h9:i < 6)(t:A6):(X.Bb i t).AF.at i=t:=Vector.Bi h0 h9
theorem NF (hg:X.A5=true){i:Int}(h0:0≤i)(h9:i < 9){t:A3}(hk:t.kind=(X.AH.at i).kind)(hp:Oz (X.I2 i t) i)(ho:∃ m,Out (X.I2 i t) m i):(X.I2 i t).A5=true:=by
 have hs:∀ j,0≤j→j < 9→j≠i→(X.I2 i t).AH.at j=X.AH.at j:=fun j j0 _ hn=>OU h0 h9 j0 hn t
 refine SN (fun r d r0 r6 d0 d6=>Ku hg r0 r6 d0 d6) (fun b b0 b6=>FD hg b0 b6) fun j j0 j9=>?_
 obtain⟨m,hm⟩:=ND hg j0 j9
 refine⟨?_,Out.other hs ho j0 j9 hm⟩
 by_cases e:j=i
 ·subst e;exact hp
 ·have q:=Ib hg j0 j9
  have hkk:∀ a,0≤a→a < 9→((X.I2 i t).AH.at a).kind=(X.AH.at a).kind:=fun a a0 a9=>by
   by_cases ea:a=i
   ·subst ea;rw [H5 h0 h9,hk]
   ·rw [hs a a0 a9 ea]
  have ej:=hs j j0 j9 e
  refine⟨by rw [ej];exact q.k0,by rw [ej];exact q.k3,by rw [ej];exact q.plain,by rw [ej];exact q.a0,?_⟩
  rw [ej]
  rcases q.BZ with h | h | ⟨h1,h2,h3,h4⟩
  ·exact .inl h
  ·exact .inr (.inl h)
  ·exact .inr (.inr ⟨h1,h2,by rw [hkk _ q.a0 h2];exact h3,h4⟩)
theorem Kv (hg:X.A5=true){b:Int}(h0:0≤b)(h6:b < 6){x:A6}(hx:Ca x=false)(hh:∀ i,0≤i→i < 9→(X.AH.at i).BZ=1→(X.AH.at i).at_=b→x.here=true):(X.Bb b x).A5=true:=by
 refine SN (fun r d r0 r6 d0 d6=>Ku hg r0 r6 d0 d6) (fun c c0 c6=>?_) fun j j0 j9=>?_
 ·by_cases e:c=b
  ·subst e;rw [Dw h0 h6];exact hx
  ·rw [H4 h0 h6 c0 e];exact FD hg c0 c6
 ·obtain⟨m,hm⟩:=ND hg j0 j9
  refine⟨?_,m,Out.same (X:=X) (Y:=X.Bb b x) (fun _ _ _=>⟨rfl,rfl⟩) j0 j9 hm⟩
  have q:=Ib hg j0 j9
  refine⟨q.k0,q.k3,q.plain,q.a0,?_⟩
  rcases q.BZ with h | ⟨h1,h2,h3⟩ | h
  ·exact .inl h
  ·refine .inr (.inl ⟨h1,h2,?_⟩)
   show((X.Bb b x).AF.at (X.AH.at j).at_).here=true
   by_cases e:(X.AH.at j).at_=b
   ·rw [e,Dw h0 h6];exact hh j j0 j9 h1 e
   ·rw [H4 h0 h6 q.a0 e];exact h3
  ·exact .inr (.inr h)
theorem Xm (hg:X.A5=true){r d:Int}(h0:0≤r)(h6:r < 6)(d0:0≤d)(d6:d < 6){v:Bool}(hv:v=true→(X.Ad.at r).BH.at d≠0):(X.P5 r d v).A5=true:=by
 refine SN (fun c e c0 c6 e0 e6=>?_) (fun b b0 b6=>FD hg b0 b6) fun j j0 j9=>?_
 ·have q:=Ku hg c0 c6 e0 e6
  by_cases ec:c=r
  ·subst ec
   have er:(X.P5 c d v).Ad.at c={ X.Ad.at c with shut:=(X.Ad.at c).shut.put d v }:=Vector.Bi h0 h6
   rw [er]
   unfold GJ at q ⊢
   show(decide ((X.Ad.at c).BH.at e < 0) || decide (6 < (X.Ad.at c).BH.at e) || (decide ((X.Ad.at c).BH.at e=0) && ((X.Ad.at c).shut.put d v).at e))=false
   rw [IW _ _ _ _ d0 d6 e0]
   split
   ·rename_i ee
    subst ee
    cases v with
    | false=>
     simp only [Bool.and_false,Bool.or_false]
     rw [Bool.or_eq_false_iff] at q
     exact q.1
    | true=>simpa [hv rfl] using (Bool.or_eq_false_iff.1 q).1
   ·exact q
  ·rw [show(X.P5 r d v).Ad.at c=X.Ad.at c from Vector.EK h0 h6 c0 ec];exact q
 ·obtain⟨m,hm⟩:=ND hg j0 j9
  have q:=Ib hg j0 j9
  exact⟨⟨q.k0,q.k3,q.plain,q.a0,q.BZ⟩,m,Out.same (X:=X) (Y:=X.P5 r d v) (fun _ _ _=>⟨rfl,rfl⟩) j0 j9 hm⟩
/-! #### what is done to a thing -/
section
variable {i:Int} (hg:X.A5=true) (h0:0≤i) (h9:i < 9)
include hg h0 h9
theorem Nj {v:Bool}{a:Int}(ha:0≤a∧a < 6)(hv:(X.AH.at i).kind=0→v=false)(hc:¬ ((X.AH.at i).kind=2∧v=true)):(X.I2 i { X.AH.at i with on:=v,BZ:=0,at_:=a }).A5=true:=by
 have q:=Ib hg h0 h9
 refine NF hg h0 h9 (by rfl) ?_ ⟨0,by show((X.I2 i _).AH.at i).BZ≠2;rw [H5 h0 h9];intro hc;cases hc⟩
 refine⟨?_,?_,?_,?_,?_⟩<;>rw [H5 h0 h9]
 ·exact q.k0
 ·exact q.k3
 ·exact hv
 ·exact ha.1
 ·exact .inl ⟨rfl,ha.2,hc⟩
theorem Tv {a:Int}(ha:0≤a∧a < 6)(hh:(X.AF.at a).here=true):(X.I2 i { X.AH.at i with BZ:=1,at_:=a }).A5=true:=by
 have q:=Ib hg h0 h9
 refine NF hg h0 h9 (by rfl) ?_ ⟨0,by show((X.I2 i _).AH.at i).BZ≠2;rw [H5 h0 h9];intro hc;cases hc⟩
 refine⟨?_,?_,?_,?_,?_⟩<;>rw [H5 h0 h9]
 ·exact q.k0
 ·exact q.k3
 ·exact q.plain
 ·exact ha.1
 ·exact .inr (.inl ⟨rfl,ha.2,hh⟩)
theorem Tw {a:Int}(ha:0≤a∧a < 9)(hk:(X.AH.at a).kind=3)(hc:¬ ((X.AH.at i).kind=2∧(X.AH.at i).on=true))(hi:X.Pb a i=false):(X.I2 i { X.AH.at i with BZ:=2,at_:=a }).A5=true:=by
 have q:=Ib hg h0 h9
 have hs:∀ j,0≤j→j < 9→j≠i→(X.I2 i { X.AH.at i with BZ:=2,at_:=a }).AH.at j=X.AH.at j:=fun j j0 _ hn=>OU h0 h9 j0 hn _
 have hai:a≠i:=fun e=>by subst e;rw [Xp] at hi;cases hi
 obtain⟨m,hm10,hm⟩:=PL hg ha.1 ha.2
 have hm':=Out.iO hs ha.1 ha.2 hm hm10 hi
 refine NF hg h0 h9 (by rfl) ?_ ⟨m+1,by rw [Out,H5 h0 h9];exact⟨rfl,ha.1,ha.2,hm'⟩⟩
 refine⟨?_,?_,?_,?_,?_⟩<;>rw [H5 h0 h9]
 ·exact q.k0
 ·exact q.k3
 ·exact q.plain
 ·exact ha.1
 ·refine .inr (.inr ⟨rfl,ha.2,?_,hc⟩)
  show((X.I2 i _).AH.at a).kind=3
  rw [hs a ha.1 ha.2 hai];exact hk
end
end AD
end Go.Ing
/- What beings do keeps the land good: a turn. -/
namespace Go.Ing
open Go
namespace AD
end AD
namespace AA
structure Fit (T:AA):Prop where
 b:0≤T.b∧T.b < 6
 br:T.w.Cs
 gd:T.w.A5=true
 here:(T.w.AF.at T.b).here=true
structure Step (b:Int)(X Y:AD):Prop where
 th:∀ i,0≤i→i < 9→(Y.AH.at i).name=(X.AH.at i).name∧(Y.AH.at i).kind=(X.AH.at i).kind
 own:∀ i,0≤i→i < 9→(X.AH.at i).BZ=1→(X.AH.at i).at_≠b→Y.AH.at i=X.AH.at i
 be:∀ c,0≤c→c < 6→c≠b→{ Y.AF.at c with A2:=0 }={ X.AF.at c with A2:=0 }
 ro:∀ r,0≤r→r < 6→(Y.Ad.at r).name=(X.Ad.at r).name∧(Y.Ad.at r).KF=(X.Ad.at r).KF∧(Y.Ad.at r).BH=(X.Ad.at r).BH
theorem Step.refl (b:Int)(X:AD):Step b X X:=⟨fun _ _ _=>⟨rfl,rfl⟩,fun _ _ _ _ _=>rfl,fun _ _ _ _=>rfl,fun _ _ _=>⟨rfl,rfl,rfl⟩⟩
theorem Step.trans {b:Int}{X Y Z:AD}(h:Step b X Y)(k:Step b Y Z):Step b X Z:=
  ⟨fun i h0 h9=>⟨(k.th i h0 h9).1.trans (h.th i h0 h9).1,(k.th i h0 h9).2.trans (h.th i h0 h9).2⟩,
   fun i h0 h9 h1 h2=>by
    have e:=h.own i h0 h9 h1 h2
    exact(k.own i h0 h9 (by rw [e];exact h1) (by rw [e];exact h2)).trans e,
   fun c h0 h6 hn=>(k.be c h0 h6 hn).trans (h.be c h0 h6 hn),
   fun r h0 h6=>⟨(k.ro r h0 h6).1.trans (h.ro r h0 h6).1,(k.ro r h0 h6).2.1.trans (h.ro r h0 h6).2.1,(k.ro r h0 h6).2.2.trans (h.ro r h0 h6).2.2⟩⟩
theorem Fit.Fc {T T':AA}(h:T.Fit)(hw:T'.w=T.w)(hb:T'.b=T.b):T'.Fit:=⟨by rw [hb];exact h.b,by rw [hw];exact h.br,by rw [hw];exact h.gd,by rw [hw,hb];exact h.here⟩
theorem Fit.Am {T:AA}(h:T.Fit)(e:Event):(T.Am e).Fit:=h.Fc rfl rfl
theorem Fit.tell {T:AA}(h:T.Fit)(s:AL):(T.tell s).Fit:=h.Fc rfl rfl
theorem Fit.room {T:AA}(h:T.Fit):0≤(T.w.AF.at T.b).room∧(T.w.AF.at T.b).room < 6:=by
 have:=AD.FD h.gd h.b.1 h.b.2
 simp only [AD.Ca,Bool.or_eq_false_iff,decide_eq_false_iff_not] at this
 omega
theorem Fit.exit {T:AA}(h:T.Fit){d:Int}(d0:0≤d)(d6:d < 6):0≤(T.w.Ad.at (T.w.AF.at T.b).room).BH.at d∧(T.w.Ad.at (T.w.AF.at T.b).room).BH.at d≤6:=by
 have:=AD.Ku h.gd h.room.1 h.room.2 d0 d6
 simp only [AD.GJ,Bool.or_eq_false_iff,decide_eq_false_iff_not] at this
 omega
theorem VY {X:AD}(h:X.Cs){i:Int}{t:A3}(ht:t.name.length≤140737488351232):(X.I2 i t).Cs:=⟨fun j=>by
 rcases Vector.Qu X.AH i j t with e | e
 ·show((X.AH.put i t).at j).name.length≤_;rw [e];exact ht
 ·show((X.AH.put i t).at j).name.length≤_;rw [e];exact h.th j,h.be,h.ro⟩
theorem ET {X:AD}(h:X.Cs){i:Int}{t:A6}(ht:t.name.length≤140737488351232):(X.Bb i t).Cs:=⟨h.th,fun j=>by
 rcases Vector.Qu X.AF i j t with e | e
 ·show((X.AF.put i t).at j).name.length≤_;rw [e];exact ht
 ·show((X.AF.put i t).at j).name.length≤_;rw [e];exact h.be j,h.ro⟩
theorem VX {X:AD}(h:X.Cs){r d:Int}{v:Bool}:(X.P5 r d v).Cs:=⟨h.th,h.be,fun j=>by
 rcases Vector.Qu X.Ad r j { X.Ad.at r with shut:=(X.Ad.at r).shut.put d v } with e | e
 ·show((X.Ad.put r _).at j).name.length≤_;rw [e];exact h.ro r
 ·show((X.Ad.put r _).at j).name.length≤_;rw [e];exact h.ro j⟩
theorem Yf {b:Int}{X:AD}{i:Int}(h0:0≤i)(h9:i < 9){t:A3}(hn:t.name=(X.AH.at i).name)(hk:t.kind=(X.AH.at i).kind)(ho:(X.AH.at i).BZ=1→(X.AH.at i).at_=b):Step b X (X.I2 i t):=
  ⟨fun j j0 _=>by
    by_cases e:j=i
    · subst e;rw [AD.H5 h0 h9];exact⟨hn,hk⟩
    · rw [AD.OU h0 h9 j0 e];exact⟨rfl,rfl⟩,
   fun j j0 _ h1 h2=>by
    by_cases e:j=i
    · subst e;exact absurd (ho h1) h2
    · rw [AD.OU h0 h9 j0 e],
   fun _ _ _ _=>rfl,fun _ _ _=>⟨rfl,rfl,rfl⟩⟩
theorem RZ {b:Int}{X:AD}{i:Int}(h0:0≤i)(h6:i < 6){t:A6}(hn:i≠b→{ t with A2:=0 }={ X.AF.at i with A2:=0 }):Step b X (X.Bb i t):=
 ⟨fun _ _ _=>⟨rfl,rfl⟩,fun _ _ _ _ _=>rfl,fun c c0 _ hc=>by
  by_cases e:c=i
  ·subst e;rw [AD.Dw h0 h6];exact hn hc
  ·rw [AD.H4 h0 h6 c0 e],fun _ _ _=>⟨rfl,rfl,rfl⟩⟩
theorem Ye {b:Int}{X:AD}{r d:Int}(h0:0≤r)(h6:r < 6){v:Bool}:Step b X (X.P5 r d v):=
 ⟨fun _ _ _=>⟨rfl,rfl⟩,fun _ _ _ _ _=>rfl,fun _ _ _ _=>rfl,fun j j0 _=>by
  by_cases e:j=r
  ·subst e
   rw [show(X.P5 j d v).Ad.at j={ X.Ad.at j with shut:=(X.Ad.at j).shut.put d v } from Vector.Bi h0 h6]
   exact⟨rfl,rfl,rfl⟩
  ·rw [show(X.P5 r d v).Ad.at j=X.Ad.at j from Vector.EK h0 h6 j0 e]
   exact⟨rfl,rfl,rfl⟩⟩
structure Ew (T T':AA):Prop where
 b:T'.b=T.b
 fit:T'.Fit
 st:Step T.b T.w T'.w
theorem Ew.trans {T T' T'':AA}(h:Ew T T')(k:Ew T' T''):Ew T T'':=⟨k.b.trans h.b,k.fit,h.st.trans (by have:=k.st;rwa [h.b] at this)⟩
theorem Fit.goes {T:AA}(h:T.Fit):Ew T T:=⟨rfl,h, .refl _ _⟩
theorem Ew.Fc {T T' T'':AA}(h:Ew T T')(hw:T''.w=T'.w)(hb:T''.b=T'.b):Ew T T'':=⟨hb.trans h.b,h.fit.Fc hw hb,by rw [hw];exact h.st⟩
theorem Lt {T:AA}(h:T.Fit){r:Int}(hr:0≤r∧r < 6):Ew T (T.Ha r):=by
 have hg:=AD.FD h.gd h.b.1 h.b.2
 have hme:((T.Ha r).w.AF.at T.b)={ T.me with room:=r,A2:=0 }:=Vector.Bi h.b.1 h.b.2
 refine⟨rfl,⟨h.b,ET h.br (h.br.be T.b),AD.Kv h.gd h.b.1 h.b.2 ?_ fun _ _ _ _ _=>h.here,?_⟩,RZ h.b.1 h.b.2 fun hn=>absurd rfl hn⟩
 ·unfold AD.Ca at hg ⊢
  show(decide (r < 0) || decide (6≤r) || decide ((T.w.AF.at T.b).AW < 0) || decide (10 < (T.w.AF.at T.b).AW) || decide ((0:Int) < 0) || decide (6 < (0:Int)) || (!(T.w.AF.at T.b).here && !decide ((0:Int)=0)) || (T.w.AF.at T.b).here != decide (0 < (T.w.AF.at T.b).AW))=false
  simp only [Bool.or_eq_false_iff,decide_eq_false_iff_not] at hg ⊢
  refine⟨⟨⟨⟨⟨⟨⟨by omega,by omega⟩,hg.1.1.1.1.1.2⟩,hg.1.1.1.1.2⟩,by decide⟩,by decide⟩,by simp⟩,hg.2⟩
 ·show((T.Ha r).w.AF.at T.b).here=true
  rw [hme];exact h.here
end AA
end Go.Ing
/- What beings do keeps the land good: each order. -/
namespace Go.Ing
open Go
namespace AD
variable {X:AD}
theorem Vo {BZ at_ i:Int}(h:i∈X.has BZ at_):(X.AH.at i).BZ=BZ∧(X.AH.at i).at_=at_:=by
 have:=(List.mem_filter.1 h).2
 rw [Bool.and_eq_true] at this
 exact⟨of_decide_eq_true this.1,of_decide_eq_true this.2⟩
theorem Xn (BZ at_:Int):(X.has BZ at_).Nodup:=by
 unfold has
 exact List.Pairwise.filter _ (by decide)
end AD
namespace AA
/-! #### which things are meant -/
theorem C9 (w:AD)(l:List Int)(nth:Int)(name:AL)(all:Bool):(AS w l nth name all).Sublist l:=by
 unfold AS
 split
 ·exact List.filter_sublist
 ·split
  ·exact List.nil_sublist _
  ·exact((List.drop_sublist _ _).trans (List.take_sublist _ _)).trans List.filter_sublist
theorem CO {w:AD}{l:List Int}{nth:Int}{name:AL}{all:Bool}{i:Int}(h:i∈AS w l nth name all):i∈l:=(C9 w l nth name all).mem h
def M1 (X:AD)(b i:Int):Prop:=0≤i∧i < 9∧((X.AH.at i).BZ=1→(X.AH.at i).at_=b)
def jq (X:AD)(b i:Int):Prop:=0≤i∧i < 9∧(X.AH.at i).BZ=1∧(X.AH.at i).at_=b
theorem jq.N8 {X:AD}{b i:Int}(h:jq X b i):M1 X b i:=⟨h.1,h.2.1,fun _=>h.2.2.2⟩
theorem H3 {T:AA}{i:Int}(h:i∈T.own):jq T.w T.b i:=⟨(AD.E4 h).1,(AD.E4 h).2,(AD.Vo h).1,(AD.Vo h).2⟩
theorem KY {T:AA}{i:Int}(h:i∈T.seen):0≤i∧i < 9∧(T.w.AH.at i).BZ=0:=by
 unfold seen at h
 split at h
 ·cases h
 ·exact⟨(AD.E4 h).1,(AD.E4 h).2,(AD.Vo h).1⟩
theorem YZ {T:AA}{i:Int}(h:i∈T.seen):M1 T.w T.b i:=by
 obtain⟨h0,h9,e⟩:=KY h
 exact⟨h0,h9,fun e1=>by omega⟩
theorem PI {l:List Int}(h:(decide ((l.length:Int)=0))=false):l.getD 0 0∈l:=by
 have h':(l.length:Int)≠0:=of_decide_eq_false h
 exact Aa.CT (by omega)
theorem Pz {T:AA}{u:AL}(h:(T.one u).2=true):M1 T.w T.b (T.one u).1:=by
 unfold one at h ⊢
 split at h
 ·cases h
 ·rename_i h1
  rw [if_neg h1]
  split at h
  ·cases h
  ·rename_i h2
   rw [if_neg h2]
   have hm:=CO (PI (Bool.not_eq_true _ ▸ h2))
   rcases List.mem_append.1 hm with hm | hm
   ·exact(H3 hm).N8
   ·exact YZ hm
/-! #### a box, somebody -/
theorem KD (T:AA)(u:AL):(T.box u).1.w=T.w∧(T.box u).1.b=T.b:=by
 unfold box
 split
 ·exact⟨rfl,rfl⟩
 ·split<;>exact⟨rfl,rfl⟩
theorem fL {T:AA}{u:AL}(h:(T.box u).2.2=true):0≤(T.box u).2.1∧(T.box u).2.1 < 9∧(T.w.AH.at (T.box u).2.1).kind=3∧(T.box u).1=T:=by
 unfold box at h ⊢
 split at h
 ·cases h
 ·rename_i h1
  rw [if_neg h1]
  split at h
  ·cases h
  ·rename_i h2
   rw [if_neg h2]
   simp only [Bool.or_eq_true,Bool.not_eq_true',decide_eq_false_iff_not,not_or,Bool.not_eq_false,Decidable.not_not] at h1
   have hm:=Pz h1.1
   exact⟨hm.1,hm.2.1,h1.2,rfl⟩
theorem Mo {T:AA}{name:AL}{k:Int}:∀ {r:Nat} {n:Int},r≤6→T.Fx name r n=some k→0≤k∧k < 6∧k≠T.b∧T.w.EI T.b k=true
 | 0,_,_,h=>by cases h
 | r+1,n,hr,h=>by
  unfold Fx at h
  split at h
  ·exact Mo (by omega) h
  ·rename_i h1
   split at h
   ·cases h
    simp only [Bool.or_eq_true,decide_eq_true_eq,Bool.not_eq_true',not_or,Bool.not_eq_false] at h1
    exact⟨by omega,by omega,h1.1.1,h1.2⟩
   ·exact Mo (by omega) h
theorem Hl (T:AA)(u:AL):(T.AU u).1.w=T.w∧(T.AU u).1.b=T.b:=by
 unfold AU
 split
 ·split<;>exact⟨rfl,rfl⟩
 ·exact⟨rfl,rfl⟩
theorem Uq {T:AA}{u:AL}(h:(T.AU u).2.2=true):0≤(T.AU u).2.1∧(T.AU u).2.1 < 6∧(T.AU u).2.1≠T.b∧T.w.EI T.b (T.AU u).2.1=true:=by
 unfold AU at h ⊢
 split at h
 ·rename_i h1
  rw [if_pos h1]
  split at h
  ·rename_i k hk
   exact Mo (Nat.le_refl _) hk
  ·cases h
 ·cases h
/-! #### taking and letting go -/
theorem GW {T:AA}(h:T.Fit){i:Int}(hm:M1 T.w T.b i){t:A3}(hn:t.name=(T.w.AH.at i).name)(hk:t.kind=(T.w.AH.at i).kind)(hg:(T.w.I2 i t).A5=true):Ew T (T.Co i t):=
 ⟨rfl,⟨h.b,VY h.br (by rw [hn];exact h.br.th i),hg,h.here⟩,Yf hm.1 hm.2.1 hn hk hm.2.2⟩
theorem UT {T:AA}(h:T.Fit){i:Int}(hm:M1 T.w T.b i)(hc:¬ ((T.w.AH.at i).kind=2∧(T.w.AH.at i).on=true)):Ew T (T.place i 0 T.me.room):=
 GW h hm rfl rfl (by
  have:=AD.Nj h.gd hm.1 hm.2.1 (v:=(T.w.AH.at i).on) h.room (AD.Ib h.gd hm.1 hm.2.1).plain hc
  exact this)
theorem UU {T:AA}(h:T.Fit){i a:Int}(hm:M1 T.w T.b i)(ha:0≤a∧a < 6)(hh:(T.w.AF.at a).here=true):Ew T (T.place i 1 a):=
 GW h hm rfl rfl (AD.Tv h.gd hm.1 hm.2.1 ha hh)
theorem UW {T:AA}(h:T.Fit){i a:Int}(hm:M1 T.w T.b i)(ha:0≤a∧a < 9)(hk:(T.w.AH.at a).kind=3)(hc:¬ ((T.w.AH.at i).kind=2∧(T.w.AH.at i).on=true))(hi:T.w.Pb a i=false):Ew T (T.place i 2 a):=
 GW h hm rfl rfl (AD.Tw h.gd hm.1 hm.2.1 ha hk hc hi)
theorem Jh {T:AA}{i j BZ at_:Int}(h0:0≤i)(h9:i < 9)(j0:0≤j):(T.place i BZ at_).w.AH.at j=if j=i then { T.w.AH.at i with BZ:=BZ,at_:=at_ } else T.w.AH.at j:=IW _ _ _ _ h0 h9 j0
def N2 (T:AA)(v to:Int):Prop:=(v=8)∨(v=10∧0≤to∧to < 6∧(T.w.AF.at to).here=true)∨(v≠8∧v≠10∧0≤to∧to < 9∧(T.w.AH.at to).kind=3)
theorem N2.next {T T':AA}{v to:Int}(h:N2 T v to)(hb:T'.w.AF=T.w.AF)(hk:∀ i,0≤i→i < 9→(T'.w.AH.at i).kind=(T.w.AH.at i).kind):N2 T' v to:=by
 rcases h with h | ⟨h1,h2,h3,h4⟩ | ⟨h1,h2,h3,h4,h5⟩
 ·exact .inl h
 ·exact .inr (.inl ⟨h1,h2,h3,by rw [hb];exact h4⟩)
 ·exact .inr (.inr ⟨h1,h2,h3,h4,by rw [hk _ h3 h4];exact h5⟩)
theorem UH {T:AA}(h:T.Fit){v to i:Int}(hm:M1 T.w T.b i)(ht:N2 T v to):Ew T (T.Bf v to i)∧(T.Bf v to i).w.AF=T.w.AF∧∀ j,0≤j→j≠i→(T.Bf v to i).w.AH.at j=T.w.AH.at j:=by
 have hpl:∀ BZ at_,(T.place i BZ at_).w.AF=T.w.AF∧∀ j,0≤j→j≠i→(T.place i BZ at_).w.AH.at j=T.w.AH.at j:=fun BZ at_=>⟨rfl,fun j j0 hn=>by rw [Jh hm.1 hm.2.1 j0,if_neg hn]⟩
 unfold Bf
 split
 ·exact⟨h.goes.Fc rfl rfl,rfl,fun _ _ _=>rfl⟩
 ·rename_i h1
  have hc:¬ ((T.w.AH.at i).kind=2∧(T.w.AH.at i).on=true):=fun e=>h1 (by rw [Bool.and_eq_true];exact⟨decide_eq_true e.1,e.2⟩)
  split
  ·exact⟨(UT h hm hc).Fc rfl rfl,hpl 0 T.me.room⟩
  ·rename_i h2
   split
   ·rename_i h3
    rcases ht with e | ⟨_,a0,a6,hh⟩ | ⟨_,e,_⟩
    ·exact absurd (decide_eq_true e) h2
    ·exact⟨(UU h hm ⟨a0,a6⟩ hh).Fc rfl rfl,hpl 1 to⟩
    ·exact absurd (of_decide_eq_true h3) e
   ·rename_i h3
    split
    ·exact⟨h.goes.Fc rfl rfl,rfl,fun _ _ _=>rfl⟩
    ·rename_i h4
     rcases ht with e | ⟨e,_⟩ | ⟨_,_,a0,a9,hk⟩
     ·exact absurd (decide_eq_true e) h2
     ·exact absurd (decide_eq_true e) h3
     ·exact⟨(UW h hm ⟨a0,a9⟩ hk hc (by simpa using h4)).Fc rfl rfl,hpl 2 to⟩
theorem Nn {v to:Int}:∀ {l:List Int} {T:AA},T.Fit→l.Nodup→(∀ i∈l,M1 T.w T.b i)→N2 T v to→Ew T (T.Fb v to l)
 | [],T,h,_,_,_=>h.goes
 | i :: r,T,h,hd,hm,ht=>by
  have hi:=hm i (List.mem_cons_self ..)
  obtain⟨g,gb,gt⟩:=UH h hi ht
  have hd':=List.nodup_cons.1 hd
  refine g.trans (Nn g.fit hd'.2 (fun j hj=>?_) (ht.next gb fun j j0 j9=>(g.st.th j j0 j9).2))
  have hj':=hm j (List.mem_cons_of_mem _ hj)
  have hne:j≠i:=fun e=>hd'.1 (e ▸ hj)
  rw [M1,gt j hj'.1 hne,g.b]
  exact hj'
end AA
end Go.Ing
/- What walks through a turn need. -/
namespace Go.Ing
open Go
theorem JC {α:Type}{l:List α}{k:Int}{d:α}(h0:0≤k)(h1:k < l.length):l.take (k+1).toNat=l.take k.toNat ++ [l.getD k.toNat d]:=by
 obtain⟨m,rfl⟩:=Int.eq_ofNat_of_zero_le h0
 have hm:m < l.length:=by omega
 rw [show((m:Int)+1).toNat=m+1 by omega,show((m:Int)).toNat=m by omega,List.take_add_one,List.getElem?_eq_getElem hm,List.getD_eq_getElem?_getD,List.getElem?_eq_getElem hm]
 rfl
theorem AD.Sm (d:Int):0≤AD.opposite d∧AD.opposite d < 6:=by
 unfold AD.opposite
 have h:=Int.tmod_nonneg (a:=max 0 (min d 5)+3) 6 (by omega)
 have h2:=Int.tmod_lt_of_pos (max 0 (min d 5)+3) (show(0:Int) < 6 by decide)
 exact⟨h,h2⟩
theorem Words.Ti {s:AL}:∀ {n:Nat},n≤6→(Words.M8 s n).2=true→0≤(Words.M8 s n).1∧(Words.M8 s n).1 < 6
 | 0,_,h=>by cases h
 | n+1,hn,h=>by
  unfold Words.M8 at h ⊢
  split
  ·rename_i c
   show 0≤((5 - n:Nat):Int)∧((5 - n:Nat):Int) < 6
   omega
  ·rename_i c
   rw [if_neg c] at h
   exact Words.Ti (by omega) h
theorem Words.Wl {s:AL}(h:(Words.dir s).2=true):0≤(Words.dir s).1∧(Words.dir s).1 < 6:=Words.Ti (Nat.le_refl _) h
namespace AA
theorem dP {w:AD}{u:AL}{l:List Int}{k:Int}(h0:0≤k)(h1:k < l.length)(c:(decide (u = []) || decide ((w.AH.at (l.getD k.toNat 0)).name=u))=true):Hc w u (l.take (k+1).toNat)=Hc w u (l.take k.toNat) ++ [l.getD k.toNat 0]:=by
 rw [JC (d:=0) h0 h1,Hc,List.filter_append,List.filter_cons,if_pos c];rfl
theorem dO {w:AD}{u:AL}{l:List Int}{k:Int}(h0:0≤k)(h1:k < l.length)(c:(decide (u = []) || decide ((w.AH.at (l.getD k.toNat 0)).name=u))=false):Hc w u (l.take (k+1).toNat)=Hc w u (l.take k.toNat):=by
 rw [JC (d:=0) h0 h1,Hc,List.filter_append,List.filter_cons,if_neg (by rw [c];decide)];simp [Hc]
theorem RO (w:AD)(u:AL)(l:List Int):(Hc w u l).length≤l.length:=List.length_filter_le _ _
theorem Fe (T:AA):T.own.length≤9:=AD.F7 _ _ _
theorem DC (T:AA):T.seen.length≤9:=by
 unfold seen;split
 ·simp
 ·exact AD.F7 _ _ _
theorem JT {T:AA}{i:Int}(h:i∈T.own++T.seen):0≤i∧i < 9:=by
 rcases List.mem_append.1 h with h | h
 ·exact⟨(H3 h).1,(H3 h).2.1⟩
 ·exact⟨(KY h).1,(KY h).2.1⟩
theorem GP {T:AA}{i:Int}(h:i∈T.own):0≤i∧i < 9:=⟨(H3 h).1,(H3 h).2.1⟩
theorem Gp {T:AA}{i:Int}(h:i∈T.seen):0≤i∧i < 9:=⟨(KY h).1,(KY h).2.1⟩
theorem W5 (T:AA)(u:AL):0≤(T.one u).1∧(T.one u).1 < 9:=by
 by_cases h:(T.one u).2=true
 ·exact⟨(Pz h).1,(Pz h).2.1⟩
 ·unfold one at h ⊢
  split
  ·exact⟨Int.le_refl _,by decide⟩
  ·rename_i h1
   rw [if_neg h1] at h
   split
   ·exact⟨Int.le_refl _,by decide⟩
   ·rename_i h2
    rw [if_neg h2] at h
    exact absurd rfl h
theorem Wh (T:AA)(u:AL):0≤(T.box u).2.1∧(T.box u).2.1 < 9:=by
 have h:=T.W5 u
 unfold box
 split
 ·exact⟨Int.le_refl _,show(0:Int) < 9 by decide⟩
 ·split
  ·exact⟨Int.le_refl _,show(0:Int) < 9 by decide⟩
  ·exact h
theorem EL (T:AA)(u:AL):(T.box u).1.out.length≤T.out.length+1:=by
 unfold box
 split
 ·simp
 ·split<;>simp
theorem HO (T:AA)(u:AL):0≤(T.AU u).2.1∧(T.AU u).2.1 < 6:=by
 unfold AU
 split
 ·split
  ·rename_i k hk
   have:=Mo (Nat.le_refl _) hk
   exact⟨this.1,this.2.1⟩
  ·exact⟨Int.le_refl _,show(0:Int) < 6 by decide⟩
 ·exact⟨Int.le_refl _,show(0:Int) < 6 by decide⟩
theorem El (T:AA)(u:AL):(T.AU u).1.out.length≤T.out.length+1:=by
 unfold AU
 split
 ·split<;>simp
 ·simp
theorem Pt (T:AA)(hb:0≤T.b∧T.b < 6)(r:Int):({ T.w with AF:=(T.w.AF.put T.b { T.w.AF.at T.b with room:=r }).put T.b { (T.w.AF.put T.b { T.w.AF.at T.b with room:=r }).at T.b with A2:=0 } }:AD)=(T.Ha r).w:=by
 rw [Vector.Bi hb.1 hb.2,Vector.EY];rfl
theorem DM (T:AA){i:Int}(h0:0≤i)(h9:i < 9)(wh a:Int):({ T.w with AH:=(T.w.AH.put i { T.w.AH.at i with BZ:=wh }).put i { (T.w.AH.put i { T.w.AH.at i with BZ:=wh }).at i with at_:=a } }:AD)=(T.place i wh a).w:=by
 rw [Vector.Bi h0 h9,Vector.EY];rfl
theorem DA {T:AA}{i:Int}(h0:0≤i)(h9:i < 9)(wh a:Int):((T.place i wh a).w.AH.at i).name=(T.w.AH.at i).name:=by
 rw [Jh h0 h9 h0,if_pos rfl]
theorem Ck {T:AA}{i j:Int}(h0:0≤i)(h9:i < 9)(j0:0≤j)(wh a:Int):((T.place i wh a).w.AH.at j).name=(T.w.AH.at j).name:=by
 rw [Jh h0 h9 j0]
 split
 ·rename_i e;subst e;rfl
 ·rfl
theorem Xb (T:AA){i:Int}(h0:0≤i)(h9:i < 9)(c:decide ((T.w.AH.at i).kind=2)=true):({ T.w with AH:=(((T.w.AH.put i { T.w.AH.at i with on:=false }).put i { (T.w.AH.put i { T.w.AH.at i with on:=false }).at i with BZ:=0 }).put i { ((T.w.AH.put i { T.w.AH.at i with on:=false }).put i { (T.w.AH.put i { T.w.AH.at i with on:=false }).at i with BZ:=0 }).at i with at_:=(T.w.AF.at T.b).room }) }:AD)=(T.C0 i).w:=by
 rw [Vector.Bi h0 h9,Vector.EY,Vector.Bi h0 h9,Vector.EY]
 unfold C0
 rw [if_pos c];rfl
theorem Xa (T:AA){i:Int}(h0:0≤i)(h9:i < 9)(c:decide ((T.w.AH.at i).kind=2)=false):({ T.w with AH:=(T.w.AH.put i { T.w.AH.at i with BZ:=0 }).put i { (T.w.AH.put i { T.w.AH.at i with BZ:=0 }).at i with at_:=(T.w.AF.at T.b).room } }:AD)=(T.C0 i).w:=by
 rw [Vector.Bi h0 h9,Vector.EY]
 unfold C0
 rw [if_neg (by rw [c];decide)];rfl
theorem DQ {X:AA}{l:List Int}{k:Int}(h0:0≤k)(h1:k < l.length):X.CL (l.drop k.toNat)=((X.place (l.getD k.toNat 0) 1 X.b).AQ 3 (l.getD k.toNat 0)).CL (l.drop (k+1).toNat):=by
 rw [MO h0 h1];rfl
theorem MN {X:AA}{l:List Int}{k:Int}(h0:0≤k)(h1:k < l.length):X.BP (l.drop k.toNat)=(X.C0 (l.getD k.toNat 0)).BP (l.drop (k+1).toNat):=by
 rw [MO h0 h1];rfl
theorem Ez {α:Type}{l:List α}:l.drop (l.length:Int).toNat = []:=by rw [show(l.length:Int).toNat=l.length by omega,List.drop_length]
theorem JU {T:AA}{k:Int}(h:0≤k):T.CR (k+1).toNat=if decide (((T.CR k.toNat).w.AF.at k).A2=T.b+1)=true then(T.CR k.toNat).BW k 0 else T.CR k.toNat:=by
 obtain⟨m,rfl⟩:=Int.eq_ofNat_of_zero_le h
 rfl
theorem MH (T:AA):∀ k:Nat,(T.CR k).b=T.b∧(T.CR k).out=T.out
 | 0=>⟨rfl,rfl⟩
 | k+1=>by
  unfold CR;split
  ·exact MH T k
  ·exact MH T k
theorem Dg:∀(l:List Int) (T:AA),(T.BP l).b=T.b∧(T.BP l).out=T.out
 | [],T=>⟨rfl,rfl⟩
 | i :: r,T=>by rw [BP];exact Dg r _
theorem GD {T:AA}{name:AL}{k n:Int}(h0:0≤k)(h6:k < 6):T.Fx name (6 - k).toNat n=if (decide (k=T.b) || !decide ((T.w.AF.at k).name=name) || !T.w.EI T.b k)=true then T.Fx name (6 - (k+1)).toNat n else if decide (n - 1=0)=true then some k else T.Fx name (6 - (k+1)).toNat (n - 1):=by
 obtain⟨m,rfl⟩:=Int.eq_ofNat_of_zero_le h0
 have e:(6 - (m:Int)).toNat=(6 - ((m:Int)+1)).toNat+1:=by omega
 rw [e,Fx,show(((6 - ((6 - ((m:Int)+1)).toNat+1):Nat)):Int)=(m:Int) by omega]
@[simp] theorem FP (T:AA) (k i:Int):(T.AQ k i).out.length=T.out.length+1:=by simp [AQ]
@[simp] theorem HW (T:AA) (k:Int):(T.kind k).out.length=T.out.length+1:=by simp [kind]
theorem Ul (T:AA)(b f:Int):(T.BW b f).b=T.b∧(T.BW b f).out=T.out:=⟨rfl,rfl⟩
theorem Vi (T:AA):T.EF.b=T.b∧T.EF.out=T.out:=by
 unfold EF
 rw [(Ul _ _ _).1,(Ul _ _ _).2]
 have h1:=AA.Dg T.own T
 have h2:=AA.MH (T.BP T.own) 6
 exact⟨h2.1.trans h1.1,h2.2.trans h1.2⟩
theorem DD (T:AA)(b:Int)(x:A6):(T.Cy b x).b=T.b∧(T.Cy b x).out=T.out∧(T.Cy b x).w={ T.w with AF:=T.w.AF.put b x }:=⟨rfl,rfl,rfl⟩
theorem Vh (T:AA):T.KG.b=(T.kind 18).b∧T.KG.out=(T.kind 18).out∧T.KG.w={ (T.kind 18).EF.w with AF:=(T.kind 18).EF.w.AF.put (T.kind 18).b default }:=by
 unfold KG
 rw [(DD _ _ _).1,(DD _ _ _).2.1,(DD _ _ _).2.2]
 exact⟨(Vi _).1,(Vi _).2,rfl⟩
theorem KI {l:List Int}(h:∀ i∈l,0≤i∧i < 9):0≤l.getD (0:Int).toNat 0∧l.getD (0:Int).toNat 0 < 9:=by
 cases l with
 | nil=>exact⟨Int.le_refl _,show(0:Int) < 9 by decide⟩
 | cons x r=>exact h x (List.mem_cons_self ..)
theorem Pm (T:AA)(v to i:Int):(T.Bf v to i).out.length≤T.out.length+1:=by
 unfold Bf
 split
 ·simp
 ·split
  ·rw [FP];exact Nat.le_refl _
  ·split
   ·rw [BG];exact Nat.le_refl _
   ·split
    ·simp
    ·rw [BG];exact Nat.le_refl _
theorem Z5 (T:AA)(v to i:Int):(T.Bf v to i).b=T.b:=by
 unfold Bf
 split
 ·rfl
 ·split
  ·rfl
  ·split
   ·rfl
   ·split<;>rfl
theorem NJ (T:AA)(o:Order):(T.B3 o).1.out.length≤T.out.length+1:=by
 unfold B3
 split
 ·exact T.EL _
 ·split
  ·exact T.El _
  ·exact Nat.le_succ _
theorem RX {X:AD}{b:Int}(hw:X.Cs)(c1:(!X.A5)=false)(c2:(decide (b < 0) || decide (6≤b) || !(X.AF.at b).here)=false):Fit ⟨X,b,[]⟩:=by
 simp only [Bool.or_eq_false_iff,decide_eq_false_iff_not,Bool.not_eq_false'] at c1 c2
 exact⟨⟨by show 0≤b;omega,by show b < 6;omega⟩,hw,c1,c2.2⟩
end AA
end Go.Ing
/- Engine: texts deep within what came in, as parts of its reading. -/
namespace Go.Ing
open Go
section
open Go.RowKit Go.ChangeShapes Go.WideShapes Go.ChangeAt
variable {H:Type} {enc:TypeId × Value→H} {P:Program} {w:World}
end
end Go.Ing
/- Laws of what beings do: doors; that rules answer at all. -/
namespace Go.Ing
open Go
theorem Vector.O1 {α:Type}[Inhabited α]{n:Nat}(v:Vector α n)(i:Int):v.at i=default∨∃ j:Int,0≤j∧j < n∧v.at i=v.at j:=by
 by_cases h:i.toNat < n
 ·exact .inr ⟨(i.toNat:Int),by omega,by omega,by unfold Vector.at;rw [show((i.toNat:Nat):Int).toNat=i.toNat by omega]⟩
 ·refine .inl ?_
  unfold Vector.at
  rw [List.getD_eq_getElem?_getD,List.getElem?_eq_none (by simp;omega)]
  rfl
namespace AA
theorem iL {T:AA}{o:Order}(hv:o.verb=7):T.act o=T.get o:=by
 unfold act
 rw [hv]
 rfl
end AA
end Go.Ing
/- What beings do keeps the land good: all orders. -/
namespace Go.Ing
open Go
namespace AA
theorem Nt {T:AA}(h:T.Fit){c f:Int}(c0:0≤c)(c6:c < 6)(f0:0≤f)(f6:f≤6)(hh:f≠0→(T.w.AF.at c).here=true):Ew T (T.BW c f):=by
 have hg:=AD.FD h.gd c0 c6
 have hb:∀ a,0≤a→((T.BW c f).w.AF.at a).here=(T.w.AF.at a).here:=fun a a0=>by
  show((T.w.AF.put c { T.w.AF.at c with A2:=f }).at a).here=_
  rw [IW _ _ _ _ c0 c6 a0]
  split
  ·rename_i e;subst e;rfl
  ·rfl
 refine⟨rfl,⟨h.b,ET h.br (h.br.be c),AD.Kv h.gd c0 c6 ?_ fun i i0 i9 hw ha=>?_,(hb T.b h.b.1).trans h.here⟩,RZ c0 c6 fun _=>rfl⟩
 ·unfold AD.Ca at hg ⊢
  simp only [Bool.or_eq_false_iff,decide_eq_false_iff_not,Bool.and_eq_false_iff,Bool.not_eq_false'] at hg ⊢
  obtain⟨⟨⟨⟨⟨⟨⟨q1,q2⟩,q3⟩,q4⟩,q5⟩,q6⟩,q7⟩,q8⟩:=hg
  refine⟨⟨⟨⟨⟨⟨⟨q1,q2⟩,q3⟩,q4⟩,by omega⟩,by omega⟩,?_⟩,q8⟩
  by_cases e:f=0
  ·exact .inr (by simp [e])
  ·exact .inl (hh e)
 ·show(T.w.AF.at c).here=true
  have:=AD.Ib h.gd i0 i9
  rcases this.BZ with ⟨a,_⟩ | ⟨_,_,a⟩ | ⟨a,_⟩
  ·omega
  ·rw [ha] at a;exact a
  ·omega
theorem Sw {T:AA}(h:T.Fit){r d:Int}{v:Bool}(r0:0≤r)(r6:r < 6)(d0:0≤d)(d6:d < 6)(hv:v=true→(T.w.Ad.at r).BH.at d≠0):Ew T (T.B0 r d v):=
 ⟨rfl,⟨h.b,VX h.br,AD.Xm h.gd r0 r6 d0 d6 hv,h.here⟩,Ye r0 r6⟩
theorem HU {T:AA}{i j:Int}(h0:0≤i)(h9:i < 9)(j0:0≤j):(T.C0 i).w.AH.at j=if j=i then { T.w.AH.at i with on:=if decide ((T.w.AH.at i).kind=2)=true then false else(T.w.AH.at i).on,BZ:=0,at_:=T.me.room } else T.w.AH.at j:=IW _ _ _ _ h0 h9 j0
theorem SG {T:AA}(h:T.Fit){i:Int}(hm:M1 T.w T.b i):Ew T (T.C0 i):=
 GW h hm rfl rfl (AD.Nj h.gd hm.1 hm.2.1 h.room (fun e=>by rw [if_neg (by rw [e];decide)];exact(AD.Ib h.gd hm.1 hm.2.1).plain e) (fun⟨e1,e2⟩=>by rw [if_pos (decide_eq_true e1)] at e2;cases e2))
theorem HH:∀ {l:List Int} {T:AA},T.Fit→(∀ i∈l,M1 T.w T.b i)→Ew T (T.BP l)∧∀ j,0≤j→j < 9→(((T.BP l).w.AH.at j).BZ=0∨(j ∉ l∧(T.BP l).w.AH.at j=T.w.AH.at j))
 | [],T,h,_=>⟨h.goes,fun j _ _=> .inr ⟨by simp,rfl⟩⟩
 | i :: r,T,h,hm=>by
  have hi:=hm i (List.mem_cons_self ..)
  have g1:=SG h hi
  obtain⟨g2,k2⟩:=HH (l:=r) g1.fit fun j hj=>by
   have hj':=hm j (List.mem_cons_of_mem _ hj)
   refine⟨hj'.1,hj'.2.1,?_⟩
   rw [HU hi.1 hi.2.1 hj'.1]
   split
   ·intro e;cases e
   ·exact hj'.2.2
  refine⟨g1.trans g2,fun j j0 j9=>?_⟩
  rcases k2 j j0 j9 with e | ⟨e1,e2⟩
  ·exact .inl e
  ·have hd:=HU (T:=T) hi.1 hi.2.1 j0
   by_cases hji:j=i
   ·rw [if_pos hji] at hd
    exact .inl (by rw [show(T.BP (i :: r)).w.AH.at j=_ from e2,hd])
   ·rw [if_neg hji] at hd
    exact .inr ⟨by simp [hji,e1],e2.trans hd⟩
theorem Lc {T:AA}(h:T.Fit):∀ {k:Nat},k≤6→Ew T (T.CR k)∧(T.CR k).w.AH=T.w.AH
 | 0,_=>⟨h.goes,rfl⟩
 | k+1,hk=>by
  obtain⟨g,e⟩:=Lc (k:=k) h (by omega)
  unfold CR
  split
  ·exact⟨g.trans (Nt g.fit (by omega) (by omega) (Int.le_refl _) (by decide) fun e=>absurd rfl e),e⟩
  ·exact⟨g,e⟩
theorem JX (T:AA):T.EF=((T.BP T.own).CR 6).BW T.b 0:=by unfold EF;rfl
theorem cc {T:AA}(h:T.Fit):Ew T T.EF:=by
 have g1:=(HH h (l:=T.own) fun i hi=>(H3 hi).N8).1
 have g2:=(Lc g1.fit (k:=6) (Nat.le_refl _)).1
 have g3:=g1.trans g2
 have g4:=Nt g3.fit (c:=T.b) (f:=0) h.b.1 h.b.2 (Int.le_refl _) (by decide) (fun e=>(e rfl).elim)
 rw [JX]
 exact g3.trans g4
theorem Qi (T:AA)(b f:Int):(T.BW b f).w.AH=T.w.AH:=rfl
theorem Tk {T:AA}(h:T.Fit){j:Int}(j0:0≤j)(j9:j < 9):¬ ((T.EF.w.AH.at j).BZ=1∧(T.EF.w.AH.at j).at_=T.b):=by
 obtain⟨g1,k1⟩:=HH h (l:=T.own) fun i hi=>(H3 hi).N8
 have k2:=(Lc g1.fit (k:=6) (Nat.le_refl _)).2
 rw [JX,Qi,k2]
 rcases k1 j j0 j9 with e | ⟨e1,e2⟩
 ·rw [e];exact fun h=>by cases h.1
 ·rw [e2]
  intro⟨a,b⟩
  refine e1 ?_
  unfold own AD.has
  exact List.mem_filter.2 ⟨List.mem_map.2 ⟨j.toNat,List.mem_range.2 (by omega),by show((j.toNat:Nat):Int)=j;omega⟩,by rw [a,b];simp⟩
theorem Xf {T:AA}(h:T.Fit):Ew T T.EF∧∀ j,0≤j→j < 9→¬ ((T.EF.w.AH.at j).BZ=1∧(T.EF.w.AH.at j).at_=T.b):=⟨cc h,fun _ j0 j9=>Tk h j0 j9⟩
end AA
end Go.Ing

/- What the functions that the law of this seat reaches compute, and the plain laws of it. No condition. -/
import Derived.Test.YtoidpggbbfncpaaGreatDoorTopFarEc3
import Derived.Test.YtoidpggbbfncpaaGreatDoorTopFarRa1
set_option linter.unusedSimpArgs false
set_option linter.unusedVariables false
/- What people type: plain functions, and what is known of pieces. -/
namespace Go.Ing
open Go
namespace Words
theorem LP (c:UInt8):∀ s:Ap,(Lib.indexByte s c=-1∧c ∉ s)∨∃ i:Nat,Lib.indexByte s c=i∧i < s.length∧c ∉ s.take i∧s.drop i=c :: s.drop (i+1)
 | []=> .inl ⟨rfl,by simp⟩
 | b :: r=>by
  by_cases h:b=c
  ·subst h
   exact .inr ⟨0,by simp [Lib.indexByte],by simp,by simp,by simp⟩
  ·have hb:(b == c)=false:=by simpa using h
   rcases LP c r with ⟨h1,h2⟩ | ⟨i,h1,h2,h3,h4⟩
   ·exact .inl ⟨by simp [Lib.indexByte,hb,h1],by simp [Ne.symm h,h2]⟩
   ·refine .inr ⟨i+1,?_,by simp;omega,?_,by simpa using h4⟩
    ·have:((i:Int) == -1)=false:=by simp
     simp [Lib.indexByte,hb,h1,this]
    ·simp [Ne.symm h,h3]
def pieces (c:UInt8):Ap→List Ap
 | []=> [[]]
 | x :: r=>if x=c then [] :: pieces c r else(x :: (pieces c r).headD []) :: (pieces c r).tail
theorem QM (c:UInt8)(s:Ap):pieces c s≠ []:=by
 cases s with
 | nil=>simp [pieces]
 | cons x r=>unfold pieces;split<;>simp
theorem Ki {c:UInt8}:∀ {s:Ap},c ∉ s→pieces c s = [s]
 | [],_=>rfl
 | x :: r,h=>by
  simp only [List.mem_cons,not_or] at h
  rw [pieces,if_neg (Ne.symm h.1),Ki h.2];rfl
theorem Le {c:UInt8}(r:Ap):∀ {a:Ap},c ∉ a→pieces c (a++c :: r)=a :: pieces c r
 | [],_=>by simp [pieces]
 | x :: a,h=>by
  simp only [List.mem_cons,not_or] at h
  rw [List.cons_append,pieces,if_neg (Ne.symm h.1),Le r h.2];rfl
theorem FO (c:UInt8):∀ s:Ap,(pieces c s).length=s.count c+1
 | []=>rfl
 | x :: r=>by
  unfold pieces
  have ih:=FO c r
  have hne:=QM c r
  split
  ·rename_i h;simp [h,ih]
  ·rename_i h
   have:(x == c)=false:=by simpa using h
   rw [List.count_cons,this]
   obtain⟨p,q,hp⟩:=List.exists_cons_of_ne_nil hne
   rw [hp] at ih ⊢
   simpa using ih
theorem UB {c:UInt8}{s:Ap}{i:Nat}(h3:c ∉ s.take i)(h4:s.drop i=c :: s.drop (i+1)):pieces c s=s.take i :: pieces c (s.drop (i+1)):=by
 conv=>lhs;rw [← List.take_append_drop i s,h4]
 exact Le _ h3
/-! #### small letters -/
def Vo (c:UInt8):UInt8:=if (decide (65≤(c.toNat:Int)) && decide ((c.toNat:Int)≤90))=true then u8 ((c.toNat:Int)+97 - 65) else c
def low (w:Ap):Ap:=w.map Vo
def words (s:Ap):List Ap:=((pieces 32 s).filter fun w=>!decide (w = [])).map low
theorem Ys {c:UInt8}(h:(decide (65≤(c.toNat:Int)) && decide ((c.toNat:Int)≤90))=true):u8 ((c.toNat:Int)+97 - 65)=Vo c:=(if_pos h).symm
theorem Yf {c:UInt8}(h:(decide (65≤(c.toNat:Int)) && decide ((c.toNat:Int)≤90))=false):Vo c=c:=if_neg (by rw [h];decide)
def Hu (w:Ap)(k:Nat):Ap:=(w.take k).map Vo++w.drop k
theorem Oy (w:Ap)(k:Nat):(Hu w k).length=w.length:=by simp [Hu];omega
theorem U4 {w:Ap}{k:Int}(h0:0≤k)(h1:k < w.length):(Hu w k.toNat).getD k.toNat 0=w.getD k.toNat 0:=by
 have hk:k.toNat < w.length:=by omega
 unfold Hu
 rw [List.getD_eq_getElem?_getD,List.getElem?_append_right (by simp;omega)]
 simp [List.getD_eq_getElem?_getD,Nat.min_eq_left (Nat.le_of_lt hk)]
theorem Xh (w:Ap):Hu w w.length=low w:=by simp [Hu,low]
theorem Sa {w:Ap}{k:Int}(h0:0≤k)(h1:k < w.length):(Hu w k.toNat).set k.toNat (Vo (w.getD k.toNat 0))=Hu w (k+1).toNat:=by
 obtain⟨n,rfl⟩:=Int.eq_ofNat_of_zero_le h0
 have hn:n < w.length:=by omega
 rw [show((n:Int)).toNat=n by omega,show((n:Int)+1).toNat=n+1 by omega]
 unfold Hu
 rw [List.drop_eq_getElem_cons hn,List.set_append_right _ _ (by simp;omega)]
 simp only [List.length_map,List.length_take,Nat.min_eq_left (Nat.le_of_lt hn),Nat.sub_self,List.set_cons_zero]
 rw [List.take_add_one,List.map_append,List.append_assoc]
 simp [List.getD_eq_getElem?_getD,hn]
theorem WH {w:Ap}{k:Int}(h0:0≤k)(h1:k < w.length)(h:Vo (w.getD k.toNat 0)=w.getD k.toNat 0):Hu w k.toNat=Hu w (k+1).toNat:=by
 rw [← Sa h0 h1,h]
 have hk:k.toNat < (Hu w k.toNat).length:=by rw [Oy];omega
 have e:=U4 h0 h1
 rw [← e,List.getD_eq_getElem?_getD,List.getElem?_eq_getElem hk]
 simp
structure OQ (c:UInt8)(s:Ap)(i:Int)(r:Ap)(xs:List Ap):Prop where
 i0:0≤i
 i1:i≤s.count c
 len:xs.length=s.count c+1
 eq:pieces c s=xs.take i.toNat++pieces c r
 rl:r.length≤s.length
theorem OQ.start (c:UInt8)(s:Ap)(n:Nat)(hn:n=s.count c+1):OQ c s 0 s (List.replicate n []):=
 ⟨Int.le_refl _,by omega,by simp [hn],by simp,Nat.le_refl _⟩
theorem OQ.left {c:UInt8}{s:Ap}{i:Int}{r:Ap}{xs:List Ap}(h:OQ c s i r xs):(r.count c:Int)=s.count c - i:=by
 have:=congrArg List.length h.eq
 rw [List.length_append,FO,FO,List.length_take,h.len] at this
 have h1:=h.i0;have h2:=h.i1
 omega
theorem OQ.next {c:UInt8}{s:Ap}{i:Int}{r:Ap}{xs:List Ap}(h:OQ c s i r xs){m:Int}(hm:Lib.indexByte r c=m)(h0:¬ m < 0):0≤m∧m < r.length∧OQ c s (i+1) (r.drop (m+1).toNat) (xs.set i.toNat (r.take m.toNat)):=by
 have hi:=h.i0
 rcases LP c r with ⟨e,_⟩ | ⟨j,e,h1,h2,h3⟩
 ·omega
 ·obtain rfl:m=j:=by omega
  have hl:=h.left
  have hp:=UB h2 h3
  have hc:(pieces c r).length=(pieces c (r.drop (j+1))).length+1:=by rw [hp];simp
  rw [FO,FO] at hc
  have hx:=h.len
  refine⟨by omega,by omega,by omega,by omega,by simp [hx],?_,by simp;have:=h.rl;omega⟩
  rw [h.eq,hp,show(i+1).toNat=i.toNat+1 by omega,show((j:Int)+1).toNat=j+1 by omega,show((j:Int)).toNat=j by omega,List.take_add_one,List.getElem?_set_self (by omega),List.take_set_of_le (by omega)]
  simp
theorem OQ.done {c:UInt8}{s:Ap}{i:Int}{r:Ap}{xs:List Ap}(h:OQ c s i r xs)(he:¬ i < (s.count c:Int)∨Lib.indexByte r c < 0):i=s.count c∧(xs.set i.toNat r).take (i+1).toNat=pieces c s:=by
 have hi:=h.i0;have hi1:=h.i1;have hl:=h.left;have hx:=h.len
 have hc:c ∉ r:=by
  rcases he with he | he
  ·intro hm;have:=List.count_pos_iff.2 hm;omega
  ·rcases LP c r with ⟨_,h2⟩ | ⟨j,e,_⟩
   ·exact h2
   ·omega
 have h0:r.count c=0:=List.count_eq_zero.2 hc
 refine⟨by omega,?_⟩
 rw [h.eq,Ki hc,show(i+1).toNat=i.toNat+1 by omega,List.take_add_one,List.getElem?_set_self (by omega),List.take_set_of_le (by omega)]
 rfl
theorem IJ {c:UInt8}:∀ {s:Ap} {p:Ap},p∈pieces c s→p.length≤s.length
 | [],p,h=>by simp [pieces] at h;simp [h]
 | x :: r,p,h=>by
  unfold pieces at h
  obtain⟨q,t,hq⟩:=List.exists_cons_of_ne_nil (QM c r)
  have ih:=@IJ c r
  rw [hq] at h ih
  split at h
  ·rcases List.mem_cons.1 h with h | h
   ·simp [h]
   ·have:=ih h;simp;omega
  ·simp only [List.headD_cons,List.tail_cons] at h
   rcases List.mem_cons.1 h with h | h
   ·have:=ih (p:=q) (by simp);rw [h];simp;omega
   ·have:=ih (p:=p) (by simp [h]);simp;omega
theorem Vl {c:UInt8}{s:Ap}(i:Nat):((pieces c s).getD i []).length≤s.length:=by
 rw [List.getD_eq_getElem?_getD]
 cases h:(pieces c s)[i]? with
 | none=>simp
 | some p=>exact IJ (List.mem_of_getElem? h)
def I8 (s:Ap)(k:Nat):List Ap:=(((pieces 32 s).take k).filter fun w=>!decide (w = [])).map low
theorem Nc (s:Ap):words s=I8 s ((pieces 32 s).length:Int).toNat:=by
 rw [I8,show((pieces 32 s).length:Int).toNat=(pieces 32 s).length by omega,List.take_length];rfl
theorem QD {α:Type}{xs:List α}{d:α}{k:Int}(h0:0≤k)(h1:k < xs.length):xs.take (k+1).toNat=xs.take k.toNat ++ [xs.getD k.toNat d]:=by
 have hk:k.toNat < xs.length:=by omega
 rw [show(k+1).toNat=k.toNat+1 by omega,List.take_add_one,List.getD_eq_getElem?_getD,List.getElem?_eq_getElem hk]
 rfl
theorem XB {s:Ap}{k:Int}(h0:0≤k)(h1:k < (pieces 32 s).length)(h:(!decide ((pieces 32 s).getD k.toNat [] = []))=true):I8 s (k+1).toNat=I8 s k.toNat ++ [low ((pieces 32 s).getD k.toNat [])]:=by
 unfold I8
 rw [QD (d:= []) h0 h1,List.filter_append,List.map_append]
 congr 1
 rw [List.filter_cons_of_pos (p:=fun w:Ap=>!decide (w = [])) h];rfl
theorem Xl {s:Ap}{k:Int}(h0:0≤k)(h1:k < (pieces 32 s).length)(h:(!decide ((pieces 32 s).getD k.toNat [] = []))=false):I8 s (k+1).toNat=I8 s k.toNat:=by
 unfold I8
 rw [QD (d:= []) h0 h1,List.filter_append,List.map_append,List.filter_cons_of_neg (p:=fun w:Ap=>!decide (w = [])) (by rw [h];decide)]
 simp
/-! #### verbs -/
def pre (s p:Ap):Bool:=decide ((p.length:Int)≤(s.length:Int)) && decide (s.take p.length=p)
def Jn (w:Ap):Nat→Int × Int
 | 0=>(0,3)
 | n+1=>if pre (AH.Ge.getD (20 - n) []) w=true then(((20 - n:Nat):Int),0) else Jn w n
def verb (w:Ap):Int × Int:=if (!decide (w = []))=true then Jn w 21 else(0,3)
theorem Te {w:Ap}{k:Int}(h0:0≤k)(h1:k < 21):Jn w (21 - k).toNat=if pre (AH.Ge.getD k.toNat []) w=true then(k,0) else Jn w (21 - (k+1)).toNat:=by
 rw [show(21 - k).toNat=(21 - (k+1)).toNat+1 by omega,Jn,show 20 - (21 - (k+1)).toNat=k.toNat by omega,show((k.toNat:Nat):Int)=k by omega]
def Z7:Vector Ap 21:=⟨AH.Ge.toArray,rfl⟩
theorem S3:Bx A8 Z7=AH.DJ:=by kernel_rfl
/-! #### cutting and trimming -/
def NA (s p:Ap):Ap × Bool:=if (!pre s p)=true then(s,false) else(s.drop p.length,true)
def cut (c:UInt8)(s:Ap):Ap × Ap × Bool:=if decide (0≤Lib.indexByte s c)=true then(s.take (Lib.indexByte s c).toNat,s.drop (Lib.indexByte s c+1).toNat,true) else(s,[],false)
theorem Zw {c:UInt8}{s:Ap}(h:0≤Lib.indexByte s c):Lib.indexByte s c < s.length:=by
 rcases LP c s with ⟨e,_⟩ | ⟨i,e,h1,_⟩<;>omega
theorem NX (c:UInt8)(s:Ap):(cut c s).1.length≤s.length∧(cut c s).2.1.length≤s.length:=by
 unfold cut;split<;>simp;omega
def P7 (c:UInt8)(s:Ap):Ap:=s.dropWhile (·== c)
def Sv (c:UInt8)(s:Ap):Ap:=(s.reverse.dropWhile (·== c)).reverse
theorem ZZ {x c:UInt8}(h:(x.toNat:Int)=(c.toNat:Int)):x=c:=UInt8.toNat_inj.1 (by omega)
theorem cB {c:UInt8}{r:Ap}(h:(decide ((0:Int) < (r.length:Int)) && decide (((r.getD (0:Int).toNat 0).toNat:Int)=(c.toNat:Int)))=true):P7 c r=P7 c (r.drop 1):=by
 cases r with
 | nil=>simp at h
 | cons x r=>
  simp only [Bool.and_eq_true,decide_eq_true_eq] at h
  have:x=c:=ZZ h.2
  subst this
  simp [P7]
theorem dA {c:UInt8}{r:Ap}(h:(decide ((0:Int) < (r.length:Int)) && decide (((r.getD (0:Int).toNat 0).toNat:Int)=(c.toNat:Int)))=false):P7 c r=r:=by
 cases r with
 | nil=>rfl
 | cons x r=>
  have hx:(x == c)=false:=by
   rw [Bool.eq_false_iff]
   intro e
   have:x=c:=by simpa using e
   subst this
   simp at h
  simp [P7,hx]
theorem cg {c:UInt8}{r:Ap}(h:(decide ((0:Int) < (r.length:Int)) && decide (((r.getD ((r.length:Int) - 1).toNat 0).toNat:Int)=(c.toNat:Int)))=true):Sv c r=Sv c (r.take ((r.length:Int) - 1).toNat):=by
 simp only [Bool.and_eq_true,decide_eq_true_eq] at h
 have hne:r≠ []:=by rintro rfl;simp at h
 obtain⟨q,x,rfl⟩:∃ q x,r=q ++ [x]:=⟨r.dropLast,r.getLast hne,(List.dropLast_concat_getLast hne).symm⟩
 have e:(((q ++ [x]).length:Int) - 1).toNat=q.length:=by simp
 rw [e] at h ⊢
 have:x=c:=ZZ (by simpa [List.getD_eq_getElem?_getD] using h.2)
 subst this
 simp [Sv]
theorem bY {c:UInt8}{r:Ap}(h:(decide ((0:Int) < (r.length:Int)) && decide (((r.getD ((r.length:Int) - 1).toNat 0).toNat:Int)=(c.toNat:Int)))=false):Sv c r=r:=by
 by_cases hne:r = []
 ·subst hne;rfl
 ·obtain⟨q,x,rfl⟩:∃ q x,r=q ++ [x]:=⟨r.dropLast,r.getLast hne,(List.dropLast_concat_getLast hne).symm⟩
  have e:(((q ++ [x]).length:Int) - 1).toNat=q.length:=by simp
  rw [e] at h
  have hx:(x == c)=false:=by
   rw [Bool.eq_false_iff]
   intro e
   have:x=c:=by simpa using e
   subst this
   simp [List.getD_eq_getElem?_getD] at h
  simp [Sv,hx]
theorem L3 (c:UInt8)(s:Ap):(P7 c s).length≤s.length:=(List.dropWhile_sublist _).length_le
theorem Qj (c:UInt8)(s:Ap):(Sv c s).length≤s.length:=by
 have:=(List.dropWhile_sublist (l:=s.reverse) (·== c)).length_le
 simpa [Sv] using this
/-! #### the rest of an order -/
def many (z:Int):Bool:=decide (z=7) || decide (z=8) || decide (z=9)
def N3 (z:Int):Ap × Bool:=if decide (z=7)=true then([102,114,111,109],false) else if decide (z=9)=true then([105,110],true) else if decide (z=10)=true then([116,111],true) else([],false)
def OT (s:Ap):Nat→Int × Bool
 | 0=>(0,false)
 | n+1=>if decide (AH.Ge.getD (5 - n) []=s)=true then(((5 - n:Nat):Int),true) else OT s n
def dir (s:Ap):Int × Bool:=OT s 6
theorem VF {s:Ap}{k:Int}(h0:0≤k)(h1:k < 6):OT s (6 - k).toNat=if decide (AH.Ge.getD k.toNat []=s)=true then(k,true) else OT s (6 - (k+1)).toNat:=by
 rw [show(6 - k).toNat=(6 - (k+1)).toNat+1 by omega,OT,show 5 - (6 - (k+1)).toNat=k.toNat by omega,show((k.toNat:Nat):Int)=k by omega]
/-! #### nouns -/
def Pc (k rest:Ap):Int × Ap × Bool × Int:=
 match Lib.atoiAll k with
 | .ok n=>if (decide (n < 1) || decide (99 < n) || decide (((k.getD (0:Int).toNat 0).toNat:Int) < 49) || decide (57 < ((k.getD (0:Int).toNat 0).toNat:Int)) || decide (rest = []) || decide (0≤Lib.indexByte rest 46))=true then(0,[],false,1) else(n,rest,false,0)
 | _=>(0,[],false,1)
theorem Ui {k rest:Ap}{n:Int}(h:Lib.atoiAll k = .ok n):Pc k rest=if (decide (n < 1) || decide (99 < n) || decide (((k.getD (0:Int).toNat 0).toNat:Int) < 49) || decide (57 < ((k.getD (0:Int).toNat 0).toNat:Int)) || decide (rest = []) || decide (0≤Lib.indexByte rest 46))=true then(0,[],false,1) else(n,rest,false,0):=by
 unfold Pc;rw [h]
theorem Wr {k rest:Ap}(h:∀ j,Lib.atoiAll k≠ .ok j):Pc k rest=(0,[],false,1):=by
 unfold Pc
 split
 ·rename_i n e;exact absurd e (h n)
 ·rfl
theorem SJ {k:Ap}{n:Int}(h:Lib.atoiAll k = .ok n):0 < k.length:=by
 cases k with
 | nil=>simp [Lib.atoiAll] at h
 | cons x r=>simp
def EM (u:Ap):Int × Ap × Bool × Int:=
 if decide (u = [97,108,108])=true then(1,[],true,0)
 else if ((NA u [97,108,108,46]).2 && !decide ((NA u [97,108,108,46]).1 = []) && !decide (0≤Lib.indexByte (NA u [97,108,108,46]).1 46))=true then(1,(NA u [97,108,108,46]).1,true,0)
 else if (!(cut 46 u).2.2)=true then(if decide (u = [])=true then(0,[],false,1) else(1,u,false,0))
 else Pc (cut 46 u).1 (cut 46 u).2.1
/-! #### orders -/
theorem Px (u:Ap):∀ n,n≤21→0≤(Jn u n).1∧(Jn u n).1≤20
 | 0,_=>by simp [Jn]
 | n+1,h=>by
  unfold Jn
  split
  ·simp only;omega
  ·exact Px u n (by omega)
theorem XS (u:Ap):0≤(verb u).1∧(verb u).1≤20:=by
 unfold verb;split
 ·exact Px u 21 (Nat.le_refl _)
 ·simp
def said (s:Ap):Ap:=P7 32 (Sv 32 (cut 32 (P7 32 s)).2.1)
def o0 (v:Int):Order:={ (default:Order) with verb:=v }
def Q1 (o:Order)(j:Ap × Bool)(W:List Ap)(m:Nat):Order × Int:=
 if (decide ((m:Int)=0) && !j.2)=true then(o,0)
 else if (!decide ((m:Int)=1) || decide (j.1 = []))=true then(default,1)
 else({ o with second:=W.getD 0 [] },0)
def S2 (o:Order)(j:Ap × Bool)(W:List Ap)(m:Nat):Order × Int:=
 if (decide (0 < (m:Int)) && !decide (j.1 = []) && decide (W.getD 0 []=j.1))=true then(if decide (((m - 1:Nat):Int)=0)=true then(default,1) else Q1 o j (W.drop 1) (m - 1))
 else Q1 o j W m
def Qr (v:Int)(W:List Ap)(m:Nat):Order × Int:=
 if (!decide ((EM (W.getD 0 [])).2.2.2=0) || ((EM (W.getD 0 [])).2.2.1 && !many v))=true then(default,1)
 else S2 ⟨v,(EM (W.getD 0 [])).1,(EM (W.getD 0 [])).2.2.1,(EM (W.getD 0 [])).2.1,[],[]⟩ (N3 v) (W.drop 1) (m - 1)
def XD (s:Ap)(v:Int)(W:List Ap)(m:Nat):Order × Int:=
 if decide (v=11)=true then(if decide (said s = [])=true then(default,1) else(⟨v,0,false,[],[],said s⟩,0))
 else if (decide (v≤6) || decide (19≤v))=true then(if decide (0 < (m:Int))=true then(default,1) else(o0 v,0))
 else if decide ((m:Int)=0)=true then(default,1)
 else if (decide (v=12) || decide (v=13))=true then
  (if (decide ((verb (W.getD 0 [])).2=0) && decide ((verb (W.getD 0 [])).1 < 6) && decide ((m:Int)=1))=true then(⟨v,1,false,AH.Ge.getD (verb (W.getD 0 [])).1.toNat [],[],[]⟩,0) else Qr v W m)
 else Qr v W m
def parse (s:Ap):Order × Int:=
 if decide (((words s).length:Int)=0)=true then(default,1)
 else if (!decide ((verb ((words s).getD 0 [])).2=0))=true then(default,(verb ((words s).getD 0 [])).2)
 else XD s (verb ((words s).getD 0 [])).1 ((words s).drop 1) ((words s).length - 1)
theorem Yo (w:Ap):(low w).length=w.length:=by simp [low]
theorem W3 (s:Ap)(i:Nat):((words s).getD i []).length≤s.length:=by
 rw [List.getD_eq_getElem?_getD]
 cases h:(words s)[i]? with
 | none=>simp
 | some p=>
  have hm:=List.mem_of_getElem? h
  unfold words at hm
  obtain⟨q,hq,rfl⟩:=List.mem_map.1 hm
  rw [Option.getD_some,Yo]
  exact IJ (List.mem_filter.1 hq).1
theorem Mo (s:Ap)(i j:Nat):(((words s).drop j).getD i []).length≤s.length:=by
 rw [List.getD_eq_getElem?_getD,List.getElem?_drop,← List.getD_eq_getElem?_getD];exact W3 s _
end Words
end Go.Ing
/- What people type: plain laws. -/
namespace Go.Ing
open Go
namespace Words
/-! #### a shorter beginning -/
/-! #### what is parsed is good -/
structure Zd (o:Order):Prop where
 v0:0≤o.verb
 v1:o.verb≤20
 n0:0≤o.nth
 n1:o.nth≤99
 al:o.Bj=true→o.verb=7∨o.verb=8∨o.verb=9
 tx:o.text≠ []↔o.verb=11
 s1:o.second = []∨o.verb=7∨o.verb=9∨o.verb=10
 s2:o.second≠ []∨(o.verb≠9∧o.verb≠10)
def Ip (r:Order × Int):Prop:=(r.2=0→Zd r.1)∧(r.2≠0→r.1=default)
theorem Ip.bad (e:Int)(he:e≠0):Ip (default,e):=⟨fun h=>absurd h he,fun _=>rfl⟩
theorem Ip.ok {o:Order}(h:Zd o):Ip (o,0):=⟨fun _=>h,fun h=>absurd rfl h⟩
theorem Vk (k r:Ap):(Pc k r).2.2.2=0→0≤(Pc k r).1∧(Pc k r).1≤99:=by
 unfold Pc
 split
 ·split
  ·intro h;simp at h
  ·rename_i c
   intro _
   simp only [Bool.or_eq_true,decide_eq_true_eq,not_or] at c
   show 0≤_∧_≤99
   exact⟨by simp only;omega,by simp only;omega⟩
 ·intro h;simp at h
theorem Vi (u:Ap):(EM u).2.2.2=0→0≤(EM u).1∧(EM u).1≤99:=by
 unfold EM
 split
 ·intro _;simp
 ·split
  ·intro _;simp
  ·split
   ·split
    ·intro h;simp at h
    ·intro _;simp
   ·exact Vk _ _
/-! #### spaces ahead and behind -/
def Cp:Ap→Ap
 | []=> []
 | x :: r=>if x=32 then r else Cp r
end Words
end Go.Ing
/- Verbs and nouns as the document has them. -/
namespace Go.Ing
open Go
namespace Words
/-! #### nouns -/
end Words
end Go.Ing
/- Orders as the document has them. -/
namespace Go.Ing
open Go
namespace Words
/-! #### what is said -/
/-! #### orders -/
def alone (v:Int):Bool:=decide (v < 7) || decide (18 < v)
end Words
end Go.Ing
/- The program's data, in Lean, and their parts. -/
namespace Go.Ing
open Go
structure Ad where
 w:AH
 b:Int
 out:Hd
instance:Inhabited Ad:=⟨⟨default,0,⟨none,0,0⟩⟩⟩
def Ad.enc (x:Ad):List Value:=AH.enc x.w++Aq x.b++Ef x.out
theorem Ad.fl:Flat Ad.enc 167:=⟨fun x=>by simp [Ad.enc,AH.fl.len,PQ.len,Bu.len],fun x v hv=>by
 simp only [Ad.enc,List.mem_append] at hv
 rcases hv with (h | h) | h
 ·exact AH.fl.one _ v h
 ·exact Bu.one _ v h
 ·exact PQ.one _ v h⟩
theorem Ad.l0:AU Ad.enc (AH.enc) 0 165 (fun x=>x.w) (fun x y=>{ x with w:=y }):=
 AU.Eg AH.fl (fun _=> []) (fun x=>Aq x.b++Ef x.out) (fun _=>rfl) (fun x=>by simp [Ad.enc]) (fun x y=>by simp [Ad.enc])
theorem Ad.l1:AU Ad.enc (Aq) 165 1 (fun x=>x.b) (fun x y=>{ x with b:=y }):=
 AU.Eg Bu (fun x=>AH.enc x.w) (fun x=>Ef x.out) (fun x=>by simp [AH.fl.len]) (fun x=>by simp [Ad.enc]) (fun x y=>by simp [Ad.enc])
theorem Ad.l2:AU Ad.enc (Ef) 166 1 (fun x=>x.out) (fun x y=>{ x with out:=y }):=
 AU.Eg PQ (fun x=>AH.enc x.w++Aq x.b) (fun _=> []) (fun x=>by simp [AH.fl.len,Bu.len]) (fun x=>by simp [Ad.enc]) (fun x y=>by simp [Ad.enc])
end Go.Ing
/- What comes of what beings do: plain functions. -/
namespace Go.Ing
open Go
structure AE where
 w:AH
 b:Int
 out:List Event
namespace AE
def F0 (k:Int):Event:=⟨k,0,0,-1,0,0,[],[],[],[],default⟩
def me (T:AE):Aj:=T.w.AL.at T.b
def XZ (T:AE)(e:Event):Event:={ e with CU:=T.b,Hq:=T.me.name,room:=T.me.room }
def Dh (T:AE)(e:Event):Event:=if decide (0≤e.other)=true then { T.XZ e with EO:=(T.w.AL.at e.other).name } else T.XZ e
def BO (T:AE)(e:Event):AE:={ T with out:=T.out ++ [T.w.G0 (T.Dh e) 6] }
def kind (T:AE)(k:Int):AE:=T.BO (F0 k)
def Bs (T:AE)(k i:Int):AE:=T.BO { F0 k with Bs:=(T.w.AO.at i).name }
def tell (T:AE)(s:Ap):AE:=T.BO { F0 16 with text:=s }
@[simp] theorem bB (T:AE) (e:Event):(T.BO e).w=T.w:=rfl
@[simp] theorem bD (T:AE) (e:Event):(T.BO e).b=T.b:=rfl
@[simp] theorem Cf (T:AE) (e:Event):(T.BO e).out.length=T.out.length+1:=by simp [BO]
@[simp] theorem dN (T:AE) (s:Ap):(T.tell s).w=T.w:=rfl
@[simp] theorem dw (T:AE) (s:Ap):(T.tell s).b=T.b:=rfl
@[simp] theorem CI (T:AE) (s:Ap):(T.tell s).out.length=T.out.length+1:=by simp [tell]
/-! #### lists -/
def H0 (w:AH):Ap→List Int→Ap
 | s,[]=>s
 | s,i :: r=>H0 w (if (w.AO.at i).on=true then s ++ [32]++(w.AO.at i).name ++ [42] else s ++ [32]++(w.AO.at i).name) r
def Sd (w:AH)(s:Ap)(l:List Int):Ap:=if decide ((l.length:Int)=0)=true then H0 w s l ++ [32,110,111,116,104,105,110,103] else H0 w s l
def list (T:AE)(s:Ap)(l:List Int):AE:=T.tell (Sd T.w s l ++ [46])
/-! #### what is about -/
def Ij (r:Room):Nat→Ap
 | 0=> [87,97,121,115,58]
 | d+1=>if decide (r.CM.at (d:Int)=0)=true then Ij r d else if r.shut.at (d:Int)=true then Ij r d++([32]++AH.called d) ++ [42] else Ij r d++([32]++AH.called d)
def Fb (T:AE):Nat→AE
 | 0=>T
 | k+1=>if (!decide ((k:Int)=T.b) && T.w.Hs T.b k)=true then(Fb T k).tell ((T.w.AL.at k).name ++ [32,105,115,32,104,101,114,101,46]) else Fb T k
def Mn:Ap:= [73,116,32,105,115,32,100,97,114,107,46]
def J6 (T:AE):AE:=
 ((T.tell ([84,104,101,32]++(T.w.BQ.at T.me.room).name ++ [46])).tell (Ij (T.w.BQ.at T.me.room) 6))
def D8 (T:AE):AE:=if decide (0 < ((T.w.has 0 T.me.room).length:Int))=true then T.J6.list [72,101,114,101,32,105,115] (T.w.has 0 T.me.room) else T.J6
def look (T:AE):AE:=if (!T.w.HS T.me.room)=true then T.tell Mn else Fb T.D8 6
def XL:Ap:= [89,111,117,32,99,97,110,110,111,116,32,103,111,32,116,104,101,114,101,46]
def Ti:Ap:= [73,116,32,105,115,32,115,104,117,116,46]
def Fw (T:AE)(r:Int):AE:={ T with w:={ T.w with AL:=T.w.AL.put T.b { T.me with room:=r,B1:=0 } } }
def walk (T:AE)(d:Int):AE:=
 if decide ((T.w.BQ.at T.me.room).CM.at d=0)=true then T.tell XL
 else if (T.w.BQ.at T.me.room).shut.at d=true then T.tell Ti
 else(((T.BO { F0 1 with dir:=d }).Fw ((T.w.BQ.at T.me.room).CM.at d - 1)).BO { F0 2 with dir:=AH.opposite d }).look
/-! #### things that are meant -/
def JL (w:AH)(name:Ap)(l:List Int):List Int:=l.filter fun i=>decide (name = []) || decide ((w.AO.at i).name=name)
def BP (w:AH)(l:List Int)(nth:Int)(name:Ap)(all:Bool):List Int:=
 if all=true then JL w name l
 else if (decide (nth < 1) || decide (((JL w name l).length:Int) < nth))=true then []
 else((JL w name l).take nth.toNat).drop (nth - 1).toNat
def seen (T:AE):List Int:=if (!T.w.HS T.me.room)=true then [] else T.w.has 0 T.me.room
def own (T:AE):List Int:=T.w.has 1 T.b
def one (T:AE)(u:Ap):Int × Bool:=
 if (!decide ((Words.EM u).2.2.2=0) || (Words.EM u).2.2.1)=true then(0,false)
 else if decide (((BP T.w (T.own++T.seen) (Words.EM u).1 (Words.EM u).2.1 false).length:Int)=0)=true then(0,false)
 else((BP T.w (T.own++T.seen) (Words.EM u).1 (Words.EM u).2.1 false).getD 0 0,true)
def KR:Ap:= [84,104,101,114,101,32,105,115,32,110,111,32,115,117,99,104,32,116,104,105,110,103,46]
def O8:Ap:= [89,111,117,32,104,97,118,101,32,110,111,32,115,117,99,104,32,116,104,105,110,103,46]
def O5:Ap:= [84,104,101,114,101,32,105,115,32,110,111,98,111,100,121,32,111,102,32,116,104,97,116,32,110,97,109,101,46]
def cP:Ap:= [89,111,117,32,119,101,97,114,32,105,116,46]
def Zf:Ap:= [84,104,97,116,32,99,97,110,110,111,116,32,98,101,46]
def Z5:Ap:= [73,116,32,105,115,32,115,111,46]
def RD:Ap:= [89,111,117,32,102,105,103,104,116,46]
def box (T:AE)(u:Ap):AE × Int × Bool:=
 if (!(T.one u).2 || !decide ((T.w.AO.at (T.one u).1).kind=3))=true then(T.tell KR,0,false)
 else if (!(T.w.AO.at (T.one u).1).on)=true then(T.tell Ti,0,false)
 else(T,(T.one u).1,true)
def DA (T:AE)(i:Int)(t:Al):AE:={ T with w:={ T.w with AO:=T.w.AO.put i t } }
def place (T:AE)(i Ca at_:Int):AE:=T.DA i { T.w.AO.at i with Ca:=Ca,at_:=at_ }
def DG (T:AE):List Int→AE
 | []=>T
 | i :: r=>DG ((T.place i 1 T.b).Bs 3 i) r
def KW (T:AE)(l:List Int)(o:Order):AE:=DG (if decide (((BP T.w l o.nth o.name o.Bj).length:Int)=0)=true then T.tell KR else T) (BP T.w l o.nth o.name o.Bj)
def get (T:AE)(o:Order):AE:=
 if (!decide (o.second = []))=true then
  (if (!(T.box o.second).2.2)=true then(T.box o.second).1 else(T.box o.second).1.KW ((T.box o.second).1.w.has 2 (T.box o.second).2.1) o)
 else T.KW T.seen o
def IX (T:AE)(name:Ap):Nat→Int→Option Int
 | 0,_=>none
 | r+1,n=>if (decide (((6 - (r+1):Nat):Int)=T.b) || !decide ((T.w.AL.at ((6 - (r+1):Nat):Int)).name=name) || !T.w.Hs T.b ((6 - (r+1):Nat):Int))=true then IX T name r n else if decide (n - 1=0)=true then some ((6 - (r+1):Nat):Int) else IX T name r (n - 1)
def A6 (T:AE)(u:Ap):AE × Int × Bool:=
  if (decide ((Words.EM u).2.2.2=0) && !(Words.EM u).2.2.1)=true then
    (match IX T (Words.EM u).2.1 6 (Words.EM u).1 with
     | some k=>(T,k,true)
     | none=>(T.tell O5,0,false))
  else(T.tell O5,0,false)
def Cu (T:AE)(v to i:Int):AE:=
 if (decide ((T.w.AO.at i).kind=2) && (T.w.AO.at i).on)=true then T.tell cP
 else if decide (v=8)=true then(T.place i 0 T.me.room).Bs 4 i
 else if decide (v=10)=true then(T.place i 1 to).BO { F0 6 with other:=to,Bs:=(T.w.AO.at i).name }
 else if T.w.Tn to i=true then T.tell Zf
 else(T.place i 2 to).BO { F0 5 with Bs:=(T.w.AO.at i).name,text:=(T.w.AO.at to).name }
def Ek (T:AE)(v to:Int):List Int→AE
 | []=>T
 | i :: r=>Ek (T.Cu v to i) v to r
def Rx (T:AE)(to:Int)(o:Order):AE:=Ek (if decide (((BP T.w T.own o.nth o.name o.Bj).length:Int)=0)=true then T.tell O8 else T) o.verb to (BP T.w T.own o.nth o.name o.Bj)
def Cv (T:AE)(o:Order):AE × Int × Bool:=if decide (o.verb=9)=true then T.box o.second else if decide (o.verb=10)=true then T.A6 o.second else(T,0,true)
def FD (T:AE)(o:Order):AE:=if (!(T.Cv o).2.2)=true then(T.Cv o).1 else(T.Cv o).1.Rx (T.Cv o).2.1 o
def Ck (T:AE)(b f:Int):AE:={ T with w:={ T.w with AL:=T.w.AL.put b { T.w.AL.at b with B1:=f } } }
def E6 (T:AE)(o:Order):AE:=
 if (!(T.A6 (if (!decide (o.nth=1) || o.Bj)=true then [] else o.name)).2.2)=true then(T.A6 (if (!decide (o.nth=1) || o.Bj)=true then [] else o.name)).1
 else
  let k:=(T.A6 (if (!decide (o.nth=1) || o.Bj)=true then [] else o.name)).2.1
  let T1:=(T.A6 (if (!decide (o.nth=1) || o.Bj)=true then [] else o.name)).1.Ck (T.A6 (if (!decide (o.nth=1) || o.Bj)=true then [] else o.name)).1.b (k+1)
  (if decide ((T1.w.AL.at k).B1=0)=true then T1.Ck k ((T.A6 (if (!decide (o.nth=1) || o.Bj)=true then [] else o.name)).1.b+1) else T1).tell RD
/-! #### what is set -/
def before (T:AE)(first:Bool)(i:Int)(on:Bool)(ev:Int):AE:=
 if first=true then(T.DA i { T.w.AO.at i with on:=on }).Bs ev i
 else(T.Bs ev i).DA i { T.w.AO.at i with on:=on }
def C9 (T:AE)(r d:Int)(v:Bool):AE:={ T with w:={ T.w with BQ:=T.w.BQ.put r { T.w.BQ.at r with shut:=(T.w.BQ.at r).shut.put d v } } }
def P9:Ap:= [100,111,111,114]
def Gy (T:AE)(d:Int)(on:Bool)(ev:Int):AE:=
 if decide ((T.w.BQ.at T.me.room).CM.at d - 1 < 0)=true then T.tell KR
 else if ((T.w.BQ.at T.me.room).shut.at d != on)=true then T.tell Z5
 else
  let to:=(T.w.BQ.at T.me.room).CM.at d - 1
  let T1:=T.C9 T.me.room d (!on)
  (if decide ((T1.w.BQ.at to).CM.at (AH.opposite d)=T.me.room+1)=true then T1.C9 to (AH.opposite d) (!on) else T1).BO { F0 ev with Bs:=P9 }
def Hm (v:Int):Bool:=decide (v=12) || decide (v=14) || decide (v=16)
def setKind (v:Int):Int:=if (decide (v=14) || decide (v=15))=true then 1 else if (decide (v=16) || decide (v=17))=true then 2 else 3
def PO (v:Int):Int:=v - 4
def ES (T:AE)(o:Order):List Int:=BP T.w (if decide (setKind o.verb=3)=true then T.own++T.seen else T.own) (max o.nth 1) o.name false
def set (T:AE)(o:Order):AE:=
 if ((Words.dir o.name).2 && decide (setKind o.verb=3))=true then T.Gy (Words.dir o.name).1 (Hm o.verb) (PO o.verb)
 else if (decide (((T.ES o).length:Int)=0) || !decide ((T.w.AO.at ((T.ES o).getD 0 0)).kind=setKind o.verb))=true then T.tell KR
 else if ((T.w.AO.at ((T.ES o).getD 0 0)).on == Hm o.verb)=true then T.tell Z5
 else if Hm o.verb=true then T.before (!decide (setKind o.verb=2)) ((T.ES o).getD 0 0) (Hm o.verb) (PO o.verb)
 else T.before (decide (setKind o.verb=2)) ((T.ES o).getD 0 0) (Hm o.verb) (PO o.verb)
/-! #### who is gone -/
def Et (T:AE)(i:Int):AE:=T.DA i { T.w.AO.at i with on:=if decide ((T.w.AO.at i).kind=2)=true then false else(T.w.AO.at i).on,Ca:=0,at_:=T.me.room }
def Cd (T:AE):List Int→AE
 | []=>T
 | i :: r=>Cd (T.Et i) r
def DU (T:AE):Nat→AE
 | 0=>T
 | k+1=>if decide (((DU T k).w.AL.at (k:Int)).B1=T.b+1)=true then(DU T k).Ck k 0 else DU T k
def FB (T:AE):AE:=(DU (T.Cd T.own) 6).Ck T.b 0
def DV (T:AE)(b:Int)(x:Aj):AE:={ T with w:={ T.w with AL:=T.w.AL.put b x } }
def GH (T:AE):AE:=(T.kind 18).FB.DV T.b default
/-! #### what a being does -/
def act (T:AE)(o:Order):AE:=
 if decide (o.verb < 6)=true then T.walk o.verb
 else if decide (o.verb=6)=true then T.look
 else if decide (o.verb=19)=true then T.list [89,111,117,32,104,97,118,101] (T.w.has 1 T.b)
 else if decide (o.verb=11)=true then T.BO { F0 7 with text:=o.text }
 else if decide (o.verb=20)=true then T.GH
 else if decide (o.verb=18)=true then T.E6 o
 else if decide (o.verb=7)=true then T.get o
 else if (decide (o.verb=8) || decide (o.verb=9) || decide (o.verb=10))=true then T.FD o
 else T.set o
def EC (X:AH)(b:Int)(o:Order):AH × List Event × Int:=
 if (!X.Bh)=true then(X,[],2)
 else if (decide (b < 0) || decide (6≤b) || !(X.AL.at b).here)=true then(X,[],3)
 else if (decide (o.verb < 0) || decide (20 < o.verb))=true then(X,[],5)
 else((AE.act ⟨X,b,[]⟩ o).w,(AE.act ⟨X,b,[]⟩ o).out,0)
end AE
end Go.Ing
/- Engine: the program's own variables, beside what is handed on. -/
namespace Go.Ing
open Go
section
variable {w0 w:World} {M:List Nat} {L A K:List Ab} {g:Nat} {vs:List Value}
theorem GV.lt (h:GV g vs w):g < w.heap.size:=by
 obtain⟨t,fz,e⟩:=h
 rcases Nat.lt_or_ge g w.heap.size with h' | h'
 ·exact h'
 ·rw [Array.getElem?_eq_none h'] at e;cases e
theorem GV.stM (h:GV g vs w0)(hM:g ∉ M)(hS:St w0 M w L):GV g vs w:=by
 have hg:=h.lt
 obtain⟨t,fz,e⟩:=h
 exact⟨t,fz,(hS.IT g hg hM).trans e⟩
theorem OL (hg:g < w0.heap.size)(hM:g ∉ M)(hS:St w0 M w L)(hp:Ax L A K):g ∉ Cg A:=by
 intro hf
 obtain⟨r,hr,hb⟩:=List.mem_flatMap.1 hf
 have hm:r∈L:=hp.perm.symm.subset (List.mem_append_left _ hr)
 exact hM ((hS.CP r hm g hb).2 hg)
theorem GV.pull (h:GV g vs w0)(hM:g ∉ M)(hS:St w0 M w L)(hp:Ax L A K):GV g vs w∧g ∉ Cg A:=⟨h.stM hM hS,OL h.lt hM hS hp⟩
theorem Gu.stM (h:Gu g w0)(hM:g ∉ M)(hS:St w0 M w L):Gu g w:=by
 obtain⟨tp,p,h⟩:=h;exact⟨tp,p,h.stM hM hS⟩
theorem Gu.pull (h:Gu g w0)(hM:g ∉ M)(hS:St w0 M w L)(hp:Ax L A K):Gu g w∧g ∉ Cg A:=by
 obtain⟨tp,p,h⟩:=h;exact⟨⟨tp,p,h.stM hM hS⟩,OL h.lt hM hS hp⟩
end
section
variable {P:Program} {n:Nat} {w0:World} {M:List Nat} {Q:Exit→Go.Act→World→Prop} {F F':List (Nat × Value)} {L L':List Ab} {ops:Array Oper} {rest:List Oper}
theorem TT {α:Type}{e:α→List Value}{d T U E sz:Nat}{x y z:Operand}{pos:String}{Cp:Array Edge}{h:Hd}{xs:List α}{kd kz:IntKind}{i j:Int}{Lf:Ab→List Ab}(fe:Flat e sz)(hd:Nat.blt d n=true)(hT:P.underlying T=some (.slice E))(hs:Sz P E sz)(hx:ev F x=some h.val)(hy:ev F y=some (.int kd i))(hz:ev F z=some (.int kz j))(h0:0≤i)(h1:i≤j)(h2:j≤(h.len:Int))(hU:∀ r,Kt L (Ab.own h E sz (xs.flatMap e)) r (Lf r))
  (k:GL P n w0 M ops Q rest ((d,(h.cut i.toNat j.toNat sz).val) :: F) (Lf (Ab.own (h.cut i.toNat j.toNat sz) E sz (((xs.take j.toNat).drop i.toNat).flatMap e)))):GL P n w0 M ops Q (⟨some d, .slice T x (some y) (some z) none,U,pos,Cp,none⟩ :: rest) F L:=by
 refine Fh (R:=fun v L'=>v=(h.cut i.toNat j.toNat sz).val∧L'=Lf (Ab.own (h.cut i.toNat j.toNat sz) E sz (((xs.take j.toNat).drop i.toNat).flatMap e))) hd ?_ (fun v L' ⟨e1,e2⟩=>by subst e1;subst e2;exact k)
 intro a w hF hS
 have hok:=hS.ok _ (hU ⟨[],fun _=>True,fun _ _ _ _=>trivial⟩).mem
 have hr:Rd w h E sz (xs.flatMap e):=Kn.own (M:=M) (hU ⟨[],fun _=>True,fun _ _ _ _=>trivial⟩).mem w hS
 have hcap:h.len≤h.cap:=by
  rcases hok with ⟨rfl,_⟩ | ⟨b,o,C,fz,e1,e2,e3,e4,e5,e6,_⟩
  ·exact Nat.le_refl _
  ·exact e6
 have hil:i.toNat≤j.toNat:=by omega
 have hjl:j.toNat≤h.len:=by omega
 have hlc:h.len * sz≤h.cap * sz:=Nat.mul_le_mul_right sz hcap
 have hjc:j.toNat * sz≤h.len * sz:=Nat.mul_le_mul_right sz hjl
 have hll:i.toNat * sz≤j.toNat * sz:=Nat.mul_le_mul_right sz hil
 have hcs:((xs.flatMap e).take (j.toNat * sz)).drop (i.toNat * sz)=((xs.take j.toNat).drop i.toNat).flatMap e:=Ly fe xs
 have hlen:(((xs.take j.toNat).drop i.toNat).flatMap e).length=j.toNat * sz - i.toNat * sz:=by
  rw [← hcs,List.length_drop,List.length_take,← hr.1,Nat.min_eq_left hjc]
 refine⟨_,_,w,⟨rfl,rfl⟩,?_,?_⟩
 ·have hs':=hs w
  have hjcap:j≤(h.cap:Int):=by omega
  simp only [execOp,hF.ev hx,Option.map_some,Option.map_none,hF.ev hy,hF.ev hz,Hd.val,Instr.sliceAt,Instr.slice,underlying]
  simp [hT,Instr.sliceBounds,Instr.sliceBound,asIntOf,h1,h0,hs',Hd.cut,hjcap,show 0≤j by omega,show i≤max j 0 by omega]
 ·refine hS.EN (hU _) rfl rfl rfl (Nat.le_refl _) (fun _ _ _=>rfl) ?_ ?_
  ·rcases hok with ⟨rfl,hn⟩ | ⟨b,o,C,fz,e1,e2,e3,e4,e5,e6,e7,e8⟩
   ·have hj0:j.toNat=0:=by simp at hjl;omega
    have hi0:i.toNat=0:=by omega
    refine .inl ⟨by simp [Hd.cut,hj0,hi0],?_⟩
    rw [List.eq_nil_of_length_eq_zero (l:=((xs.take j.toNat).drop i.toNat).flatMap e) (by rw [hlen,hj0];simp)]
   ·by_cases hci:h.cap=i.toNat
    ·have hji:j.toNat=i.toNat:=by omega
     refine .inr ⟨b,o,C,fz,by simp only [Hd.cut];rw [if_pos hci];exact e1,e2,e3,e4,?_,?_,?_,?_⟩
     ·simp only [Hd.cut];rw [hci,Nat.sub_self,Nat.zero_mul];omega
     ·simp only [Hd.cut];omega
     ·simp only [Hd.cut];rw [hlen,Nat.sub_mul]
     ·have hl0:(((xs.take j.toNat).drop i.toNat).flatMap e).length=0:=by rw [hlen,hji];omega
      rw [List.eq_nil_of_length_eq_zero hl0];simp
    ·refine .inr ⟨b,o+i.toNat * sz,C,fz,by simp only [Hd.cut];rw [if_neg hci,e1];simp [EY],e2,e3,fun j hj h=>e4 j (by omega) h,?_,?_,?_,?_⟩
     ·simp only [Hd.cut];rw [Nat.sub_mul];omega
     ·simp only [Hd.cut];omega
     ·simp only [Hd.cut];rw [hlen,Nat.sub_mul]
     ·have hX:xs.flatMap e=(C.drop o).take (h.len * sz):=by rw [hr.1];exact e8.symm
      have hY:((xs.take j.toNat).drop i.toNat).flatMap e=((C.drop o).take (j.toNat * sz)).drop (i.toNat * sz):=by rw [← hcs,hX,List.take_take,Nat.min_eq_left hjc]
      rw [hlen,hY,List.drop_take,List.drop_drop]
  ·intro b hb
   have hb':b∈(Ab.own h E sz (xs.flatMap e)).CP:=by
    revert hb
    simp only [Ab.own,Hd.cut]
    cases ha:h.a with
    | none=>by_cases hc:h.cap=i.toNat<;>simp [hc]
    | some a=>
     by_cases hc:h.cap=i.toNat
     ·simp [hc]
     ·simp only [hc,if_false,Option.map_some]
      unfold Addr.add
      split<;>simp
   exact⟨(hS.CP _ (hU ⟨[],fun _=>True,fun _ _ _ _=>trivial⟩).mem b hb').1, .inl hb'⟩
theorem Kt.bZ {L L':List Ab}{r r':Ab}(h:Kt L r r' L')(e:r=r'):L'=L:=by
 induction h with
 | head=>subst e;rfl
 | tail _ ih=>rw [ih e]
theorem F9 {cd:Code}{b T:Nat}{c c':List Value}{Lf:Ab→List Ab}(hU:∀ r,Kt L (Ab.box b T c) r (Lf r))(e:c=c')(k:G P n w0 M cd Q F (Lf (Ab.box b T c'))):G P n w0 M cd Q F L:=by
 subst e
 rwa [(hU (Ab.box b T c)).bZ rfl] at k
theorem XA {Pr:Prop}{cd:Code}(hp:∀ w,St w0 M w L→Pr)(k:Pr→G P n w0 M cd Q F L):G P n w0 M cd Q F L:=fun a w hF hS=>k (hp w hS) a w hF hS
end
section
variable {p:Prop} [Decidable p] {a b:Bool} {m n:Int}
theorem eu:((a || b)=true)=(a=true∨b=true):=Bool.or_eq_true a b
theorem eh:((a && b)=true)=(a=true∧b=true):=Bool.and_eq_true a b
theorem ek:((a || b)=false)=(a=false∧b=false):=propext Bool.or_eq_false_iff
theorem ey:((a && b)=false)=(a=false∨b=false):=propext Bool.and_eq_false_iff
end
end Go.Ing
/- What comes of what beings do: plain laws. -/
namespace Go.Ing
open Go
structure AH.DL (w:AH):Prop where
 th:∀ i,(w.AO.at i).name.length≤140737488351232
 be:∀ i,(w.AL.at i).name.length≤140737488351232
 ro:∀ i,(w.BQ.at i).name.length≤140737488351232
namespace AE
theorem NW {l:List Int}{k:Int}(h0:0≤k)(h1:k < l.length):l.drop k.toNat=l.getD k.toNat 0 :: l.drop (k+1).toNat:=by
 have hk:k.toNat < l.length:=by omega
 rw [List.drop_eq_getElem_cons hk,show(k+1).toNat=k.toNat+1 by omega,List.getD_eq_getElem?_getD,List.getElem?_eq_getElem hk]
 rfl
theorem Y9 {w:AH}{s:Ap}{l:List Int}{k:Int}(h0:0≤k)(h1:k < l.length)(h:(w.AO.at (l.getD k.toNat 0)).on=true):H0 w s (l.drop k.toNat)=H0 w (s++([32]++(w.AO.at (l.getD k.toNat 0)).name) ++ [42]) (l.drop (k+1).toNat):=by
 rw [NW h0 h1,H0,if_pos h];simp
theorem Yc {w:AH}{s:Ap}{l:List Int}{k:Int}(h0:0≤k)(h1:k < l.length)(h:(w.AO.at (l.getD k.toNat 0)).on=false):H0 w s (l.drop k.toNat)=H0 w (s++([32]++(w.AO.at (l.getD k.toNat 0)).name)) (l.drop (k+1).toNat):=by
 rw [NW h0 h1,H0,if_neg (by rw [h];decide)];simp
theorem TA {r:Room}{k:Int}(h:0≤k):Ij r (k+1).toNat=if decide (r.CM.at k=0)=true then Ij r k.toNat else if r.shut.at k=true then Ij r k.toNat++([32]++AH.called k) ++ [42] else Ij r k.toNat++([32]++AH.called k):=by
 obtain⟨m,rfl⟩:=Int.eq_ofNat_of_zero_le h
 rfl
theorem MN (r:Room):∀ k:Nat,(Ij r k).length≤5+k * 22
 | 0=>by simp [Ij]
 | k+1=>by
  have ih:=MN r k
  have hc:=AH.JD (k:Int)
  unfold Ij
  repeat' split
  all_goals (try simp only [List.length_append,List.length_cons,List.length_nil])
  all_goals omega
theorem KP (T:AE):∀ k:Nat,(T.Fb k).w=T.w∧(T.Fb k).b=T.b∧(T.Fb k).out.length≤T.out.length+k
 | 0=>⟨rfl,rfl,by simp [Fb]⟩
 | k+1=>by
  obtain⟨h1,h2,h3⟩:=KP T k
  unfold Fb
  split
  ·exact⟨by simpa using h1,by simpa using h2,by rw [CI];omega⟩
  ·exact⟨h1,h2,by omega⟩
theorem I6 {T:AE}{k:Int}(h:0≤k):T.Fb (k+1).toNat=if (!decide (k=T.b) && T.w.Hs T.b k)=true then(T.Fb k.toNat).tell ((T.w.AL.at k).name ++ [32,105,115,32,104,101,114,101,46]) else T.Fb k.toNat:=by
 obtain⟨m,rfl⟩:=Int.eq_ofNat_of_zero_le h
 rfl
@[simp] theorem HY (T:AE) (s:Ap) (l:List Int):(T.list s l).w=T.w∧(T.list s l).b=T.b∧(T.list s l).out.length=T.out.length+1:=⟨rfl,rfl,by simp [list]⟩
theorem Uc (T:AE):T.J6.w=T.w∧T.J6.b=T.b∧T.J6.out.length=T.out.length+2:=⟨rfl,rfl,by simp [J6]⟩
theorem Q8 (T:AE):T.D8.w=T.w∧T.D8.b=T.b∧T.D8.out.length≤T.out.length+3:=by
 have h:=T.Uc
 unfold D8
 split
 ·have h2:=T.J6.HY [72,101,114,101,32,105,115] (T.w.has 0 T.me.room)
  exact⟨h2.1.trans h.1,h2.2.1.trans h.2.1,by omega⟩
 ·exact⟨h.1,h.2.1,by omega⟩
theorem Jw (T:AE):T.look.w=T.w∧T.look.b=T.b∧T.look.out.length≤T.out.length+9:=by
 unfold look
 split
 ·exact⟨rfl,rfl,by rw [CI];omega⟩
 ·have h:=T.Q8
  have h2:=T.D8.KP 6
  exact⟨h2.1.trans h.1,h2.2.1.trans h.2.1,by omega⟩
end AE
theorem Bi.E0 {xs:List Int}{i:Nat}(h:i < xs.length):xs.getD i 0∈xs:=by
 rw [List.getD_eq_getElem?_getD,List.getElem?_eq_getElem h]
 exact List.getElem_mem h
theorem AH.TL {w:AH}{r:Int}(h:(!w.HS r)=false):0≤r∧r < 6:=by
 unfold AH.HS at h
 split at h
 ·simp at h
 ·rename_i c;simp at c;omega
theorem AH.Fx {w:AH}{Ca at_ i:Int}(h:i∈w.has Ca at_):0≤i∧i < 9:=by
 unfold AH.has at h
 have:=(List.mem_filter.1 h).1
 obtain⟨n,hn,rfl⟩:=List.mem_map.1 this
 have:=List.mem_range.1 hn
 exact⟨by simp,by show((n:Nat):Int) < 9;omega⟩
theorem AH.II (w:AH)(Ca at_:Int):(w.has Ca at_).length≤9:=by
 rw [AH.Tz];exact AH.R2 w Ca at_ _
end Go.Ing
/- What beings do keeps the land good: plain laws. -/
namespace Go.Ing
open Go
theorem Vector.Ej {α:Type}[Inhabited α]{n:Nat}(v:Vector α n)(k:Int)(x y:α):(v.put k x).put k y=v.put k y:=by
 unfold Vector.put
 apply Vector.ext
 intro i hi
 simp only [Vector.getElem_setIfInBounds]
 split<;>rfl
theorem Vector.CD {α:Type}[Inhabited α]{n:Nat}{v:Vector α n}{k:Int}{x:α}(h0:0≤k)(h1:k < n):(v.put k x).at k=x:=by rw [HX v k k x h0 h1 h0,if_pos rfl]
theorem Vector.EI {α:Type}[Inhabited α]{n:Nat}{v:Vector α n}{k i:Int}{x:α}(h0:0≤k)(h1:k < n)(hi:0≤i)(hn:i≠k):(v.put k x).at i=v.at i:=by rw [HX v k i x h0 h1 hi,if_neg hn]
namespace AH
variable {X Y:AH}
theorem Out.path:∀ {m:Nat} {i:Int},0≤i→i < 9→Out X m i→∃ s:List Int,Rn s+s.length=9∧s.length=m+1∧∀ j∈s,∃ k,k≤m∧Out X k j
 | 0,i,h0,h9,h=>⟨[] ++ [i],by have:=Ow (s:= []) (i:=i) (by simp) h0 h9;simp only [List.length_append,List.length_cons,List.length_nil];have:Rn []=9:=rfl;omega,rfl,fun j hj=>by
   have:j=i:=by simpa using hj
   subst this;exact⟨0,Nat.le_refl _,h⟩⟩
 | m+1,i,h0,h9,h=>by
  obtain⟨s,h1,h2,h3⟩:=Out.path h.2.1 h.2.2.1 h.2.2.2
  have hn:i ∉ s:=fun hm=>by
   obtain⟨k,hk,ho⟩:=h3 i hm
   have:=h.uniq ho
   omega
  have hl:=Ow hn h0 h9
  refine⟨s ++ [i],by simp only [List.length_append,List.length_cons,List.length_nil];omega,by simp only [List.length_append,List.length_cons,List.length_nil];omega,fun j hj=>?_⟩
  rcases List.mem_append.1 hj with hj | hj
  ·obtain⟨k,hk,ho⟩:=h3 j hj
   exact⟨k,by omega,ho⟩
  ·have:j=i:=by simpa using hj
   subst this;exact⟨m+1,Nat.le_refl _,h⟩
theorem Out.ez {m:Nat}{i:Int}(h0:0≤i)(h9:i < 9)(h:Out X m i):m≤8:=by
 obtain⟨s,h1,h2,_⟩:=h.path h0 h9
 omega
theorem LS:∀ {m n:Nat} {i:Int},Out X m i→m < n→X.Jd n (X.AO.at i)=true
 | _,0,_,_,h=>absurd h (Nat.not_lt_zero _)
 | 0,n+1,i,h,_=>by
  unfold Jd
  rw [if_pos (by simpa using (show(X.AO.at i).Ca≠2 from h))]
 | m+1,n+1,i,h,hl=>by
  unfold Jd
  rw [if_neg (by simp [h.1]),if_neg (by have:=h.2.1;have:=h.2.2.1;simp;omega)]
  exact LS h.2.2.2 (by omega)
structure Nr (X:AH)(i:Int):Prop where
 k0:0≤(X.AO.at i).kind
 k3:(X.AO.at i).kind≤3
 plain:(X.AO.at i).kind=0→(X.AO.at i).on=false
 a0:0≤(X.AO.at i).at_
 Ca:((X.AO.at i).Ca=0∧(X.AO.at i).at_ < 6∧¬ ((X.AO.at i).kind=2∧(X.AO.at i).on=true)) ∨
  ((X.AO.at i).Ca=1∧(X.AO.at i).at_ < 6∧(X.AL.at (X.AO.at i).at_).here=true) ∨
  ((X.AO.at i).Ca=2∧(X.AO.at i).at_ < 9∧(X.AO.at (X.AO.at i).at_).kind=3∧¬ ((X.AO.at i).kind=2∧(X.AO.at i).on=true))
theorem Qm.p {i:Int}(h:Qm X i):Nr X i:=⟨h.k0,h.k3,h.plain,h.a0,by
 rcases h.Ca with h | h | ⟨h1,h2,h3,h4,_⟩
 ·exact .inl h
 ·exact .inr (.inl h)
 ·exact .inr (.inr ⟨h1,h2,h3,h4⟩)⟩
theorem RU {i:Int}(h:Nr X i)(h0:0≤i)(h9:i < 9){m:Nat}(ho:Out X m i):X.Cj i=true:=by
 have hc:=LS ho (show m < 10 by have:=ho.ez h0 h9;omega)
 have:=h.k0;have:=h.k3;have:=h.a0
 unfold Cj
 rw [if_neg (by
  simp only [Bool.or_eq_true,Bool.and_eq_true,decide_eq_true_eq]
  rintro (((h1 | h1) | ⟨h1,h2⟩) | h1)
  ·omega
  ·omega
  ·rw [h.plain h1] at h2;cases h2
  ·omega)]
 rcases h.Ca with ⟨w,a,b⟩ | ⟨w,a,b⟩ | ⟨w,a,k,b⟩
 ·rw [if_pos (by simp [w])]
  simp only [Bool.and_eq_true,decide_eq_true_eq,Bool.not_eq_true']
  refine⟨a,?_⟩
  cases hh:(decide ((X.AO.at i).kind=2) && (X.AO.at i).on) with
  | false=>rfl
  | true=>rw [Bool.and_eq_true] at hh;exact absurd ⟨of_decide_eq_true hh.1,hh.2⟩ b
 ·rw [if_neg (by simp [w]),if_pos (by simp [w])]
  simp [a,b]
 ·rw [if_neg (by simp [w]),if_neg (by simp [w]),if_pos (by simp [w]),if_neg (by
   simp only [Bool.or_eq_true,Bool.and_eq_true,decide_eq_true_eq,Bool.not_eq_true',decide_eq_false_iff_not]
   rintro ((h1 | h1) | ⟨h1,h2⟩)
   ·omega
   ·exact h1 k
   ·exact b ⟨h1,h2⟩)]
  exact hc
theorem Q6 (hr:∀ r d,0≤r→r < 6→0≤d→d < 6→ID (X.BQ.at r) d=false)(hb:∀ b,0≤b→b < 6→Dk (X.AL.at b)=false)(ht:∀ i,0≤i→i < 9→Nr X i∧∃ m,Out X m i):X.Bh=true:=by
 unfold Bh
 rw [Bool.and_eq_true,Bool.and_eq_true]
 refine⟨(De 6).2 fun r h0 h1=>?_,(De 6).2 fun b h0 h1=>?_,(De 9).2 fun i h0 h1=>?_⟩
 ·exact(De 6).2 fun d d0 d1=>by rw [hr r d (by omega) h1 (by omega) d1];rfl
 ·rw [hb b (by omega) h1];rfl
 ·obtain⟨hp,m,ho⟩:=ht i (by omega) h1
  exact RU hp (by omega) h1 ho
theorem Out.same (h:∀ i,0≤i→i < 9→(Y.AO.at i).Ca=(X.AO.at i).Ca∧(Y.AO.at i).at_=(X.AO.at i).at_):∀ {m:Nat} {i:Int},0≤i→i < 9→Out X m i→Out Y m i
 | 0,i,h0,h9,ho=>by show(Y.AO.at i).Ca≠2;rw [(h i h0 h9).1];exact ho
 | m+1,i,h0,h9,ho=>by
  refine⟨(h i h0 h9).1.trans ho.1,?_⟩
  rw [(h i h0 h9).2]
  exact⟨ho.2.1,ho.2.2.1,Out.same h ho.2.1 ho.2.2.1 ho.2.2.2⟩
theorem Out.other {k:Int}(h:∀ i,0≤i→i < 9→i≠k→Y.AO.at i=X.AO.at i)(hk:∃ m,Out Y m k):∀ {m:Nat} {i:Int},0≤i→i < 9→Out X m i→∃ m',Out Y m' i
 | 0,i,h0,h9,ho=>by
  by_cases e:i=k
  ·subst e;exact hk
  ·exact⟨0,by show(Y.AO.at i).Ca≠2;rw [h i h0 h9 e];exact ho⟩
 | m+1,i,h0,h9,ho=>by
  by_cases e:i=k
  ·subst e;exact hk
  ·obtain⟨m',h'⟩:=Out.other h hk ho.2.1 ho.2.2.1 ho.2.2.2
   exact⟨m'+1,by rw [Out,h i h0 h9 e];exact⟨ho.1,ho.2.1,ho.2.2.1,h'⟩⟩
theorem Out.bX {k:Int}(h:∀ i,0≤i→i < 9→i≠k→Y.AO.at i=X.AO.at i):∀ {m n:Nat} {i:Int},0≤i→i < 9→Out X m i→m < n→X.inside k n i=false→Out Y m i
 | 0,0,_,_,_,_,hl,_=>absurd hl (Nat.not_lt_zero _)
 | _+1,0,_,_,_,_,hl,_=>absurd hl (Nat.not_lt_zero _)
 | 0,n+1,i,h0,h9,ho,hl,hi=>by
  have e:i≠k:=fun e=>by unfold inside at hi;rw [if_pos (by simp [e])] at hi;cases hi
  show(Y.AO.at i).Ca≠2;rw [h i h0 h9 e];exact ho
 | m+1,n+1,i,h0,h9,ho,hl,hi=>by
  have e:i≠k:=fun e=>by unfold inside at hi;rw [if_pos (by simp [e])] at hi;cases hi
  unfold inside at hi
  rw [if_neg (by simp [e]),if_neg (by simp [ho.1];omega)] at hi
  rw [Out,h i h0 h9 e]
  exact⟨ho.1,ho.2.1,ho.2.2.1,Out.bX h ho.2.1 ho.2.2.1 ho.2.2.2 (by omega) hi⟩
end AH
end Go.Ing
/- What beings do keeps the land good: the parts of a turn. -/
namespace Go.Ing
open Go
theorem Vector.Ni {α:Type}[Inhabited α]{n:Nat}(v:Vector α n)(k i:Int)(x:α):(v.put k x).at i=x∨(v.put k x).at i=v.at i:=by
 unfold Vector.put Vector.at
 rw [List.getD_eq_getElem?_getD,List.getD_eq_getElem?_getD]
 simp only [Vector.toList_setIfInBounds]
 rw [List.getElem?_set]
 split
 ·split
  ·exact .inl rfl
  ·rename_i h1 h2
   exact .inr (by rw [← h1,List.getElem?_eq_none (by omega)])
 ·exact .inr rfl
namespace AH
variable {X:AH}
def Gp (X:AH)(i:Int)(t:Al):AH:={ X with AO:=X.AO.put i t }
def Cw (X:AH)(b:Int)(x:Aj):AH:={ X with AL:=X.AL.put b x }
def NB (X:AH)(r d:Int)(v:Bool):AH:={ X with BQ:=X.BQ.put r { X.BQ.at r with shut:=(X.BQ.at r).shut.put d v } }
theorem HU (hg:X.Bh=true){i:Int}(h0:0≤i)(h9:i < 9):Nr X i:=(SY (OA hg h0 h9)).p
theorem KN (hg:X.Bh=true){i:Int}(h0:0≤i)(h9:i < 9):∃ m,Out X m i:=by
 obtain⟨m,_,h⟩:=Rc hg h0 h9;exact⟨m,h⟩
theorem KL {i j:Int}(h0:0≤i)(h9:i < 9)(j0:0≤j)(hn:j≠i)(t:Al):(X.Gp i t).AO.at j=X.AO.at j:=Vector.EI h0 h9 j0 hn
theorem Fk {i:Int}(h0:0≤i)(h9:i < 9)(t:Al):(X.Gp i t).AO.at i=t:=Vector.CD h0 h9
theorem Ew {i j:Int}(h0:0≤i)(h9:i < 6)(j0:0≤j)(hn:j≠i)(t:Aj):(X.Cw i t).AL.at j=X.AL.at j:=Vector.EI h0 h9 j0 hn
theorem EK {i:Int}(h0:0≤i)(h9:i < 6)(t:Aj):(X.Cw i t).AL.at i=t:=Vector.CD h0 h9
theorem KM (hg:X.Bh=true){i:Int}(h0:0≤i)(h9:i < 9){t:Al}(hk:t.kind=(X.AO.at i).kind)(hp:Nr (X.Gp i t) i)(ho:∃ m,Out (X.Gp i t) m i):(X.Gp i t).Bh=true:=by
 have hs:∀ j,0≤j→j < 9→j≠i→(X.Gp i t).AO.at j=X.AO.at j:=fun j j0 _ hn=>KL h0 h9 j0 hn t
 refine Q6 (fun r d r0 r6 d0 d6=>KH hg r0 r6 d0 d6) (fun b b0 b6=>FT hg b0 b6) fun j j0 j9=>?_
 obtain⟨m,hm⟩:=KN hg j0 j9
 refine⟨?_,Out.other hs ho j0 j9 hm⟩
 by_cases e:j=i
 ·subst e;exact hp
 ·have q:=HU hg j0 j9
  have hkk:∀ a,0≤a→a < 9→((X.Gp i t).AO.at a).kind=(X.AO.at a).kind:=fun a a0 a9=>by
   by_cases ea:a=i
   ·subst ea;rw [Fk h0 h9,hk]
   ·rw [hs a a0 a9 ea]
  have ej:=hs j j0 j9 e
  refine⟨by rw [ej];exact q.k0,by rw [ej];exact q.k3,by rw [ej];exact q.plain,by rw [ej];exact q.a0,?_⟩
  rw [ej]
  rcases q.Ca with h | h | ⟨h1,h2,h3,h4⟩
  ·exact .inl h
  ·exact .inr (.inl h)
  ·exact .inr (.inr ⟨h1,h2,by rw [hkk _ q.a0 h2];exact h3,h4⟩)
theorem Iw (hg:X.Bh=true){b:Int}(h0:0≤b)(h6:b < 6){x:Aj}(hx:Dk x=false)(hh:∀ i,0≤i→i < 9→(X.AO.at i).Ca=1→(X.AO.at i).at_=b→x.here=true):(X.Cw b x).Bh=true:=by
 refine Q6 (fun r d r0 r6 d0 d6=>KH hg r0 r6 d0 d6) (fun c c0 c6=>?_) fun j j0 j9=>?_
 ·by_cases e:c=b
  ·subst e;rw [EK h0 h6];exact hx
  ·rw [Ew h0 h6 c0 e];exact FT hg c0 c6
 ·obtain⟨m,hm⟩:=KN hg j0 j9
  refine⟨?_,m,Out.same (X:=X) (Y:=X.Cw b x) (fun _ _ _=>⟨rfl,rfl⟩) j0 j9 hm⟩
  have q:=HU hg j0 j9
  refine⟨q.k0,q.k3,q.plain,q.a0,?_⟩
  rcases q.Ca with h | ⟨h1,h2,h3⟩ | h
  ·exact .inl h
  ·refine .inr (.inl ⟨h1,h2,?_⟩)
   show((X.Cw b x).AL.at (X.AO.at j).at_).here=true
   by_cases e:(X.AO.at j).at_=b
   ·rw [e,EK h0 h6];exact hh j j0 j9 h1 e
   ·rw [Ew h0 h6 q.a0 e];exact h3
  ·exact .inr (.inr h)
theorem VW (hg:X.Bh=true){r d:Int}(h0:0≤r)(h6:r < 6)(d0:0≤d)(d6:d < 6){v:Bool}(hv:v=true→(X.BQ.at r).CM.at d≠0):(X.NB r d v).Bh=true:=by
 refine Q6 (fun c e c0 c6 e0 e6=>?_) (fun b b0 b6=>FT hg b0 b6) fun j j0 j9=>?_
 ·have q:=KH hg c0 c6 e0 e6
  by_cases ec:c=r
  ·subst ec
   have er:(X.NB c d v).BQ.at c={ X.BQ.at c with shut:=(X.BQ.at c).shut.put d v }:=Vector.CD h0 h6
   rw [er]
   unfold ID at q ⊢
   show(decide ((X.BQ.at c).CM.at e < 0) || decide (6 < (X.BQ.at c).CM.at e) || (decide ((X.BQ.at c).CM.at e=0) && ((X.BQ.at c).shut.put d v).at e))=false
   rw [HX _ _ _ _ d0 d6 e0]
   split
   ·rename_i ee
    subst ee
    cases v with
    | false=>
     simp only [Bool.and_false,Bool.or_false]
     rw [Bool.or_eq_false_iff] at q
     exact q.1
    | true=>simpa [hv rfl] using (Bool.or_eq_false_iff.1 q).1
   ·exact q
  ·rw [show(X.NB r d v).BQ.at c=X.BQ.at c from Vector.EI h0 h6 c0 ec];exact q
 ·obtain⟨m,hm⟩:=KN hg j0 j9
  have q:=HU hg j0 j9
  exact⟨⟨q.k0,q.k3,q.plain,q.a0,q.Ca⟩,m,Out.same (X:=X) (Y:=X.NB r d v) (fun _ _ _=>⟨rfl,rfl⟩) j0 j9 hm⟩
/-! #### what is done to a thing -/
section
variable {i:Int} (hg:X.Bh=true) (h0:0≤i) (h9:i < 9)
include hg h0 h9
theorem Uy {v:Bool}(h1:(X.AO.at i).kind≠0)(h2:(X.AO.at i).kind=2→(X.AO.at i).Ca=1):(X.Gp i { X.AO.at i with on:=v }).Bh=true:=by
 have q:=HU hg h0 h9
 obtain⟨m,hm⟩:=KN hg h0 h9
 have hs:∀ j,0≤j→j < 9→((X.Gp i { X.AO.at i with on:=v }).AO.at j).Ca=(X.AO.at j).Ca∧((X.Gp i { X.AO.at i with on:=v }).AO.at j).at_=(X.AO.at j).at_:=fun j j0 _=>by
  by_cases e:j=i
  ·subst e;rw [Fk h0 h9];exact⟨rfl,rfl⟩
  ·rw [KL h0 h9 j0 e];exact⟨rfl,rfl⟩
 have hkk:∀ a,0≤a→((X.Gp i { X.AO.at i with on:=v }).AO.at a).kind=(X.AO.at a).kind:=fun a a0=>by
  by_cases ea:a=i
  ·subst ea;rw [Fk h0 h9]
  ·rw [KL h0 h9 a0 ea]
 refine KM hg h0 h9 (by rfl) ?_ ⟨m,Out.same hs h0 h9 hm⟩
 refine⟨?_,?_,?_,?_,?_⟩<;>rw [Fk h0 h9]
 ·exact q.k0
 ·exact q.k3
 ·exact fun e=>absurd e h1
 ·exact q.a0
 ·rcases q.Ca with ⟨a,b,c⟩ | h | ⟨a,b,c,d⟩
  ·exact .inl ⟨a,b,fun⟨e,_⟩=>by have:=h2 e;omega⟩
  ·exact .inr (.inl h)
  ·refine .inr (.inr ⟨a,b,?_,fun⟨e,_⟩=>by have:=h2 e;omega⟩)
   show((X.Gp i { X.AO.at i with on:=v }).AO.at (X.AO.at i).at_).kind=3
   rw [hkk _ q.a0];exact c
theorem M4 {v:Bool}{a:Int}(ha:0≤a∧a < 6)(hv:(X.AO.at i).kind=0→v=false)(hc:¬ ((X.AO.at i).kind=2∧v=true)):(X.Gp i { X.AO.at i with on:=v,Ca:=0,at_:=a }).Bh=true:=by
 have q:=HU hg h0 h9
 refine KM hg h0 h9 (by rfl) ?_ ⟨0,by show((X.Gp i _).AO.at i).Ca≠2;rw [Fk h0 h9];intro hc;cases hc⟩
 refine⟨?_,?_,?_,?_,?_⟩<;>rw [Fk h0 h9]
 ·exact q.k0
 ·exact q.k3
 ·exact hv
 ·exact ha.1
 ·exact .inl ⟨rfl,ha.2,hc⟩
theorem Sw {a:Int}(ha:0≤a∧a < 6)(hh:(X.AL.at a).here=true):(X.Gp i { X.AO.at i with Ca:=1,at_:=a }).Bh=true:=by
 have q:=HU hg h0 h9
 refine KM hg h0 h9 (by rfl) ?_ ⟨0,by show((X.Gp i _).AO.at i).Ca≠2;rw [Fk h0 h9];intro hc;cases hc⟩
 refine⟨?_,?_,?_,?_,?_⟩<;>rw [Fk h0 h9]
 ·exact q.k0
 ·exact q.k3
 ·exact q.plain
 ·exact ha.1
 ·exact .inr (.inl ⟨rfl,ha.2,hh⟩)
theorem SR {a:Int}(ha:0≤a∧a < 9)(hk:(X.AO.at a).kind=3)(hc:¬ ((X.AO.at i).kind=2∧(X.AO.at i).on=true))(hi:X.Tn a i=false):(X.Gp i { X.AO.at i with Ca:=2,at_:=a }).Bh=true:=by
 have q:=HU hg h0 h9
 have hs:∀ j,0≤j→j < 9→j≠i→(X.Gp i { X.AO.at i with Ca:=2,at_:=a }).AO.at j=X.AO.at j:=fun j j0 _ hn=>KL h0 h9 j0 hn _
 have hai:a≠i:=fun e=>by subst e;rw [Ve] at hi;cases hi
 obtain⟨m,hm10,hm⟩:=Rc hg ha.1 ha.2
 have hm':=Out.bX hs ha.1 ha.2 hm hm10 hi
 refine KM hg h0 h9 (by rfl) ?_ ⟨m+1,by rw [Out,Fk h0 h9];exact⟨rfl,ha.1,ha.2,hm'⟩⟩
 refine⟨?_,?_,?_,?_,?_⟩<;>rw [Fk h0 h9]
 ·exact q.k0
 ·exact q.k3
 ·exact q.plain
 ·exact ha.1
 ·refine .inr (.inr ⟨rfl,ha.2,?_,hc⟩)
  show((X.Gp i _).AO.at a).kind=3
  rw [hs a ha.1 ha.2 hai];exact hk
end
end AH
end Go.Ing
/- What beings do keeps the land good: a turn. -/
namespace Go.Ing
open Go
namespace AH
end AH
namespace AE
structure Fit (T:AE):Prop where
 b:0≤T.b∧T.b < 6
 br:T.w.DL
 gd:T.w.Bh=true
 here:(T.w.AL.at T.b).here=true
structure Step (b:Int)(X Y:AH):Prop where
 th:∀ i,0≤i→i < 9→(Y.AO.at i).name=(X.AO.at i).name∧(Y.AO.at i).kind=(X.AO.at i).kind
 own:∀ i,0≤i→i < 9→(X.AO.at i).Ca=1→(X.AO.at i).at_≠b→Y.AO.at i=X.AO.at i
 be:∀ c,0≤c→c < 6→c≠b→{ Y.AL.at c with B1:=0 }={ X.AL.at c with B1:=0 }
 ro:∀ r,0≤r→r < 6→(Y.BQ.at r).name=(X.BQ.at r).name∧(Y.BQ.at r).Mn=(X.BQ.at r).Mn∧(Y.BQ.at r).CM=(X.BQ.at r).CM
theorem Step.refl (b:Int)(X:AH):Step b X X:=⟨fun _ _ _=>⟨rfl,rfl⟩,fun _ _ _ _ _=>rfl,fun _ _ _ _=>rfl,fun _ _ _=>⟨rfl,rfl,rfl⟩⟩
theorem Step.trans {b:Int}{X Y Z:AH}(h:Step b X Y)(k:Step b Y Z):Step b X Z:=
  ⟨fun i h0 h9=>⟨(k.th i h0 h9).1.trans (h.th i h0 h9).1,(k.th i h0 h9).2.trans (h.th i h0 h9).2⟩,
   fun i h0 h9 h1 h2=>by
    have e:=h.own i h0 h9 h1 h2
    exact(k.own i h0 h9 (by rw [e];exact h1) (by rw [e];exact h2)).trans e,
   fun c h0 h6 hn=>(k.be c h0 h6 hn).trans (h.be c h0 h6 hn),
   fun r h0 h6=>⟨(k.ro r h0 h6).1.trans (h.ro r h0 h6).1,(k.ro r h0 h6).2.1.trans (h.ro r h0 h6).2.1,(k.ro r h0 h6).2.2.trans (h.ro r h0 h6).2.2⟩⟩
theorem Fit.Ee {T T':AE}(h:T.Fit)(hw:T'.w=T.w)(hb:T'.b=T.b):T'.Fit:=⟨by rw [hb];exact h.b,by rw [hw];exact h.br,by rw [hw];exact h.gd,by rw [hw,hb];exact h.here⟩
theorem Fit.BO {T:AE}(h:T.Fit)(e:Event):(T.BO e).Fit:=h.Ee rfl rfl
theorem Fit.tell {T:AE}(h:T.Fit)(s:Ap):(T.tell s).Fit:=h.Ee rfl rfl
theorem Fit.room {T:AE}(h:T.Fit):0≤(T.w.AL.at T.b).room∧(T.w.AL.at T.b).room < 6:=by
 have:=AH.FT h.gd h.b.1 h.b.2
 simp only [AH.Dk,Bool.or_eq_false_iff,decide_eq_false_iff_not] at this
 omega
theorem Fit.exit {T:AE}(h:T.Fit){d:Int}(d0:0≤d)(d6:d < 6):0≤(T.w.BQ.at (T.w.AL.at T.b).room).CM.at d∧(T.w.BQ.at (T.w.AL.at T.b).room).CM.at d≤6:=by
 have:=AH.KH h.gd h.room.1 h.room.2 d0 d6
 simp only [AH.ID,Bool.or_eq_false_iff,decide_eq_false_iff_not] at this
 omega
theorem TO {X:AH}(h:X.DL){i:Int}{t:Al}(ht:t.name.length≤140737488351232):(X.Gp i t).DL:=⟨fun j=>by
 rcases Vector.Ni X.AO i j t with e | e
 ·show((X.AO.put i t).at j).name.length≤_;rw [e];exact ht
 ·show((X.AO.put i t).at j).name.length≤_;rw [e];exact h.th j,h.be,h.ro⟩
theorem Eh {X:AH}(h:X.DL){i:Int}{t:Aj}(ht:t.name.length≤140737488351232):(X.Cw i t).DL:=⟨h.th,fun j=>by
 rcases Vector.Ni X.AL i j t with e | e
 ·show((X.AL.put i t).at j).name.length≤_;rw [e];exact ht
 ·show((X.AL.put i t).at j).name.length≤_;rw [e];exact h.be j,h.ro⟩
theorem TR {X:AH}(h:X.DL){r d:Int}{v:Bool}:(X.NB r d v).DL:=⟨h.th,h.be,fun j=>by
 rcases Vector.Ni X.BQ r j { X.BQ.at r with shut:=(X.BQ.at r).shut.put d v } with e | e
 ·show((X.BQ.put r _).at j).name.length≤_;rw [e];exact h.ro r
 ·show((X.BQ.put r _).at j).name.length≤_;rw [e];exact h.ro j⟩
theorem V8 {b:Int}{X:AH}{i:Int}(h0:0≤i)(h9:i < 9){t:Al}(hn:t.name=(X.AO.at i).name)(hk:t.kind=(X.AO.at i).kind)(ho:(X.AO.at i).Ca=1→(X.AO.at i).at_=b):Step b X (X.Gp i t):=
  ⟨fun j j0 _=>by
    by_cases e:j=i
    · subst e;rw [AH.Fk h0 h9];exact⟨hn,hk⟩
    · rw [AH.KL h0 h9 j0 e];exact⟨rfl,rfl⟩,
   fun j j0 _ h1 h2=>by
    by_cases e:j=i
    · subst e;exact absurd (ho h1) h2
    · rw [AH.KL h0 h9 j0 e],
   fun _ _ _ _=>rfl,fun _ _ _=>⟨rfl,rfl,rfl⟩⟩
theorem MK {b:Int}{X:AH}{i:Int}(h0:0≤i)(h6:i < 6){t:Aj}(hn:i≠b→{ t with B1:=0 }={ X.AL.at i with B1:=0 }):Step b X (X.Cw i t):=
 ⟨fun _ _ _=>⟨rfl,rfl⟩,fun _ _ _ _ _=>rfl,fun c c0 _ hc=>by
  by_cases e:c=i
  ·subst e;rw [AH.EK h0 h6];exact hn hc
  ·rw [AH.Ew h0 h6 c0 e],fun _ _ _=>⟨rfl,rfl,rfl⟩⟩
theorem V5 {b:Int}{X:AH}{r d:Int}(h0:0≤r)(h6:r < 6){v:Bool}:Step b X (X.NB r d v):=
 ⟨fun _ _ _=>⟨rfl,rfl⟩,fun _ _ _ _ _=>rfl,fun _ _ _ _=>rfl,fun j j0 _=>by
  by_cases e:j=r
  ·subst e
   rw [show(X.NB j d v).BQ.at j={ X.BQ.at j with shut:=(X.BQ.at j).shut.put d v } from Vector.CD h0 h6]
   exact⟨rfl,rfl,rfl⟩
  ·rw [show(X.NB r d v).BQ.at j=X.BQ.at j from Vector.EI h0 h6 j0 e]
   exact⟨rfl,rfl,rfl⟩⟩
structure DH (T T':AE):Prop where
 b:T'.b=T.b
 fit:T'.Fit
 st:Step T.b T.w T'.w
theorem DH.trans {T T' T'':AE}(h:DH T T')(k:DH T' T''):DH T T'':=⟨k.b.trans h.b,k.fit,h.st.trans (by have:=k.st;rwa [h.b] at this)⟩
theorem Fit.goes {T:AE}(h:T.Fit):DH T T:=⟨rfl,h, .refl _ _⟩
theorem DH.Ee {T T' T'':AE}(h:DH T T')(hw:T''.w=T'.w)(hb:T''.b=T'.b):DH T T'':=⟨hb.trans h.b,h.fit.Ee hw hb,by rw [hw];exact h.st⟩
theorem ON {T:AE}(h:T.Fit){r:Int}(hr:0≤r∧r < 6):DH T (T.Fw r):=by
 have hg:=AH.FT h.gd h.b.1 h.b.2
 have hme:((T.Fw r).w.AL.at T.b)={ T.me with room:=r,B1:=0 }:=Vector.CD h.b.1 h.b.2
 refine⟨rfl,⟨h.b,Eh h.br (h.br.be T.b),AH.Iw h.gd h.b.1 h.b.2 ?_ fun _ _ _ _ _=>h.here,?_⟩,MK h.b.1 h.b.2 fun hn=>absurd rfl hn⟩
 ·unfold AH.Dk at hg ⊢
  show(decide (r < 0) || decide (6≤r) || decide ((T.w.AL.at T.b).BH < 0) || decide (10 < (T.w.AL.at T.b).BH) || decide ((0:Int) < 0) || decide (6 < (0:Int)) || (!(T.w.AL.at T.b).here && !decide ((0:Int)=0)) || (T.w.AL.at T.b).here != decide (0 < (T.w.AL.at T.b).BH))=false
  simp only [Bool.or_eq_false_iff,decide_eq_false_iff_not] at hg ⊢
  refine⟨⟨⟨⟨⟨⟨⟨by omega,by omega⟩,hg.1.1.1.1.1.2⟩,hg.1.1.1.1.2⟩,by decide⟩,by decide⟩,by simp⟩,hg.2⟩
 ·show((T.Fw r).w.AL.at T.b).here=true
  rw [hme];exact h.here
theorem P6 {T:AE}(h:T.Fit):DH T T.look:=h.goes.Ee T.Jw.1 T.Jw.2.1
theorem VS {T:AE}(h:T.Fit){d:Int}(d0:0≤d)(d6:d < 6):DH T (T.walk d):=by
 unfold walk
 split
 ·exact h.goes.Ee rfl rfl
 ·split
  ·exact h.goes.Ee rfl rfl
  ·rename_i h1 _
   have hx:=h.exit d0 d6
   have h1':(T.w.BQ.at (T.w.AL.at T.b).room).CM.at d≠0:=fun e=>h1 (decide_eq_true e)
   have g1:DH T (T.BO { F0 1 with dir:=d }):=h.goes.Ee rfl rfl
   have g2:=g1.trans (ON g1.fit (r:=(T.w.BQ.at T.me.room).CM.at d - 1) (by show 0≤(T.w.BQ.at (T.w.AL.at T.b).room).CM.at d - 1∧(T.w.BQ.at (T.w.AL.at T.b).room).CM.at d - 1 < 6;omega))
   have g3:=g2.Ee (T'':=((T.BO { F0 1 with dir:=d }).Fw ((T.w.BQ.at T.me.room).CM.at d - 1)).BO { F0 2 with dir:=AH.opposite d }) rfl rfl
   exact g3.trans (P6 g3.fit)
end AE
end Go.Ing
/- What beings do keeps the land good: each order. -/
namespace Go.Ing
open Go
namespace AH
variable {X:AH}
theorem Qz {Ca at_ i:Int}(h:i∈X.has Ca at_):(X.AO.at i).Ca=Ca∧(X.AO.at i).at_=at_:=by
 have:=(List.mem_filter.1 h).2
 rw [Bool.and_eq_true] at this
 exact⟨of_decide_eq_true this.1,of_decide_eq_true this.2⟩
theorem QT (Ca at_:Int):(X.has Ca at_).Nodup:=by
 unfold has
 exact List.Pairwise.filter _ (by decide)
end AH
namespace AE
/-! #### which things are meant -/
theorem EU (w:AH)(l:List Int)(nth:Int)(name:Ap)(all:Bool):(BP w l nth name all).Sublist l:=by
 unfold BP
 split
 ·exact List.filter_sublist
 ·split
  ·exact List.nil_sublist _
  ·exact((List.drop_sublist _ _).trans (List.take_sublist _ _)).trans List.filter_sublist
theorem Dp {w:AH}{l:List Int}{nth:Int}{name:Ap}{all:Bool}{i:Int}(h:i∈BP w l nth name all):i∈l:=(EU w l nth name all).mem h
def IY (X:AH)(b i:Int):Prop:=0≤i∧i < 9∧((X.AO.at i).Ca=1→(X.AO.at i).at_=b)
def df (X:AH)(b i:Int):Prop:=0≤i∧i < 9∧(X.AO.at i).Ca=1∧(X.AO.at i).at_=b
theorem df.Tw {X:AH}{b i:Int}(h:df X b i):IY X b i:=⟨h.1,h.2.1,fun _=>h.2.2.2⟩
theorem FL {T:AE}{i:Int}(h:i∈T.own):df T.w T.b i:=⟨(AH.Fx h).1,(AH.Fx h).2,(AH.Qz h).1,(AH.Qz h).2⟩
theorem Wf {X:AH}{b Ca at_ i:Int}(hw:Ca≠1)(h:i∈X.has Ca at_):IY X b i:=⟨(AH.Fx h).1,(AH.Fx h).2,fun e=>absurd ((AH.Qz h).1.symm.trans e) hw⟩
theorem Jm {T:AE}{i:Int}(h:i∈T.seen):0≤i∧i < 9∧(T.w.AO.at i).Ca=0:=by
 unfold seen at h
 split at h
 ·cases h
 ·exact⟨(AH.Fx h).1,(AH.Fx h).2,(AH.Qz h).1⟩
theorem ML {T:AE}{i:Int}(h:i∈T.seen):IY T.w T.b i:=by
 obtain⟨h0,h9,e⟩:=Jm h
 exact⟨h0,h9,fun e1=>by omega⟩
theorem OK {l:List Int}(h:(decide ((l.length:Int)=0))=false):l.getD 0 0∈l:=by
 have h':(l.length:Int)≠0:=of_decide_eq_false h
 exact Bi.E0 (by omega)
theorem Nu {T:AE}{u:Ap}(h:(T.one u).2=true):IY T.w T.b (T.one u).1:=by
 unfold one at h ⊢
 split at h
 ·cases h
 ·rename_i h1
  rw [if_neg h1]
  split at h
  ·cases h
  ·rename_i h2
   rw [if_neg h2]
   have hm:=Dp (OK (Bool.not_eq_true _ ▸ h2))
   rcases List.mem_append.1 hm with hm | hm
   ·exact(FL hm).Tw
   ·exact ML hm
/-! #### a box, somebody -/
theorem JY (T:AE)(u:Ap):(T.box u).1.w=T.w∧(T.box u).1.b=T.b:=by
 unfold box
 split
 ·exact⟨rfl,rfl⟩
 ·split<;>exact⟨rfl,rfl⟩
theorem XH {T:AE}{u:Ap}(h:(T.box u).2.2=true):0≤(T.box u).2.1∧(T.box u).2.1 < 9∧(T.w.AO.at (T.box u).2.1).kind=3∧(T.box u).1=T:=by
 unfold box at h ⊢
 split at h
 ·cases h
 ·rename_i h1
  rw [if_neg h1]
  split at h
  ·cases h
  ·rename_i h2
   rw [if_neg h2]
   simp only [Bool.or_eq_true,Bool.not_eq_true',decide_eq_false_iff_not,not_or,Bool.not_eq_false,Decidable.not_not] at h1
   have hm:=Nu h1.1
   exact⟨hm.1,hm.2.1,h1.2,rfl⟩
theorem LW {T:AE}{name:Ap}{k:Int}:∀ {r:Nat} {n:Int},r≤6→T.IX name r n=some k→0≤k∧k < 6∧k≠T.b∧T.w.Hs T.b k=true
 | 0,_,_,h=>by cases h
 | r+1,n,hr,h=>by
  unfold IX at h
  split at h
  ·exact LW (by omega) h
  ·rename_i h1
   split at h
   ·cases h
    simp only [Bool.or_eq_true,decide_eq_true_eq,Bool.not_eq_true',not_or,Bool.not_eq_false] at h1
    exact⟨by omega,by omega,h1.1.1,h1.2⟩
   ·exact LW (by omega) h
theorem JC (T:AE)(u:Ap):(T.A6 u).1.w=T.w∧(T.A6 u).1.b=T.b:=by
 unfold A6
 split
 ·split<;>exact⟨rfl,rfl⟩
 ·exact⟨rfl,rfl⟩
theorem Ju {T:AE}{u:Ap}(h:(T.A6 u).2.2=true):0≤(T.A6 u).2.1∧(T.A6 u).2.1 < 6∧(T.A6 u).2.1≠T.b∧T.w.Hs T.b (T.A6 u).2.1=true:=by
 unfold A6 at h ⊢
 split at h
 ·rename_i h1
  rw [if_pos h1]
  split at h
  ·rename_i k hk
   exact LW (Nat.le_refl _) hk
  ·cases h
 ·cases h
/-! #### taking and letting go -/
theorem EV {T:AE}(h:T.Fit){i:Int}(hm:IY T.w T.b i){t:Al}(hn:t.name=(T.w.AO.at i).name)(hk:t.kind=(T.w.AO.at i).kind)(hg:(T.w.Gp i t).Bh=true):DH T (T.DA i t):=
 ⟨rfl,⟨h.b,TO h.br (by rw [hn];exact h.br.th i),hg,h.here⟩,V8 hm.1 hm.2.1 hn hk hm.2.2⟩
theorem Sq {T:AE}(h:T.Fit){i:Int}(hm:IY T.w T.b i)(hc:¬ ((T.w.AO.at i).kind=2∧(T.w.AO.at i).on=true)):DH T (T.place i 0 T.me.room):=
 EV h hm rfl rfl (by
  have:=AH.M4 h.gd hm.1 hm.2.1 (v:=(T.w.AO.at i).on) h.room (AH.HU h.gd hm.1 hm.2.1).plain hc
  exact this)
theorem Mv {T:AE}(h:T.Fit){i a:Int}(hm:IY T.w T.b i)(ha:0≤a∧a < 6)(hh:(T.w.AL.at a).here=true):DH T (T.place i 1 a):=
 EV h hm rfl rfl (AH.Sw h.gd hm.1 hm.2.1 ha hh)
theorem Rr {T:AE}(h:T.Fit){i a:Int}(hm:IY T.w T.b i)(ha:0≤a∧a < 9)(hk:(T.w.AO.at a).kind=3)(hc:¬ ((T.w.AO.at i).kind=2∧(T.w.AO.at i).on=true))(hi:T.w.Tn a i=false):DH T (T.place i 2 a):=
 EV h hm rfl rfl (AH.SR h.gd hm.1 hm.2.1 ha hk hc hi)
theorem HB {T:AE}{i j Ca at_:Int}(h0:0≤i)(h9:i < 9)(j0:0≤j):(T.place i Ca at_).w.AO.at j=if j=i then { T.w.AO.at i with Ca:=Ca,at_:=at_ } else T.w.AO.at j:=HX _ _ _ _ h0 h9 j0
theorem JJ:∀ {l:List Int} {T:AE},T.Fit→(∀ i∈l,IY T.w T.b i)→DH T (T.DG l)
 | [],T,h,_=>h.goes
 | i :: r,T,h,hm=>by
  have hi:=hm i (List.mem_cons_self ..)
  have g1:=Mv h hi h.b h.here
  have g2:DH T ((T.place i 1 T.b).Bs 3 i):=g1.Ee rfl rfl
  refine g2.trans (JJ g2.fit fun j hj=>?_)
  have hj':=hm j (List.mem_cons_of_mem _ hj)
  refine⟨hj'.1,hj'.2.1,?_⟩
  show((T.place i 1 T.b).w.AO.at j).Ca=1→((T.place i 1 T.b).w.AO.at j).at_=T.b
  rw [HB hi.1 hi.2.1 hj'.1]
  split
  ·exact fun _=>rfl
  ·exact hj'.2.2
theorem P5 {T:AE}(h:T.Fit){l:List Int}(hl:∀ i∈l,IY T.w T.b i)(o:Order):DH T (T.KW l o):=by
 unfold KW
 have hp:∀ i∈BP T.w l o.nth o.name o.Bj,IY T.w T.b i:=fun i hi=>hl i (Dp hi)
 split
 ·have g:DH T (T.tell KR):=h.goes.Ee rfl rfl
  exact g.trans (JJ g.fit hp)
 ·exact JJ h hp
theorem X5 {T:AE}(h:T.Fit)(o:Order):DH T (T.get o):=by
 unfold get
 have g:DH T (T.box o.second).1:=h.goes.Ee (T.JY o.second).1 (T.JY o.second).2
 split
 ·split
  ·exact g
  ·refine g.trans (P5 g.fit (fun i hi=>?_) o)
   rw [(T.JY o.second).1,(T.JY o.second).2] at *
   exact Wf (by decide) hi
 ·exact P5 h (fun i hi=>ML hi) o
def NI (T:AE)(v to:Int):Prop:=(v=8)∨(v=10∧0≤to∧to < 6∧(T.w.AL.at to).here=true)∨(v≠8∧v≠10∧0≤to∧to < 9∧(T.w.AO.at to).kind=3)
theorem NI.next {T T':AE}{v to:Int}(h:NI T v to)(hb:T'.w.AL=T.w.AL)(hk:∀ i,0≤i→i < 9→(T'.w.AO.at i).kind=(T.w.AO.at i).kind):NI T' v to:=by
 rcases h with h | ⟨h1,h2,h3,h4⟩ | ⟨h1,h2,h3,h4,h5⟩
 ·exact .inl h
 ·exact .inr (.inl ⟨h1,h2,h3,by rw [hb];exact h4⟩)
 ·exact .inr (.inr ⟨h1,h2,h3,h4,by rw [hk _ h3 h4];exact h5⟩)
theorem SD {T:AE}(h:T.Fit){v to i:Int}(hm:IY T.w T.b i)(ht:NI T v to):DH T (T.Cu v to i)∧(T.Cu v to i).w.AL=T.w.AL∧∀ j,0≤j→j≠i→(T.Cu v to i).w.AO.at j=T.w.AO.at j:=by
 have hpl:∀ Ca at_,(T.place i Ca at_).w.AL=T.w.AL∧∀ j,0≤j→j≠i→(T.place i Ca at_).w.AO.at j=T.w.AO.at j:=fun Ca at_=>⟨rfl,fun j j0 hn=>by rw [HB hm.1 hm.2.1 j0,if_neg hn]⟩
 unfold Cu
 split
 ·exact⟨h.goes.Ee rfl rfl,rfl,fun _ _ _=>rfl⟩
 ·rename_i h1
  have hc:¬ ((T.w.AO.at i).kind=2∧(T.w.AO.at i).on=true):=fun e=>h1 (by rw [Bool.and_eq_true];exact⟨decide_eq_true e.1,e.2⟩)
  split
  ·exact⟨(Sq h hm hc).Ee rfl rfl,hpl 0 T.me.room⟩
  ·rename_i h2
   split
   ·rename_i h3
    rcases ht with e | ⟨_,a0,a6,hh⟩ | ⟨_,e,_⟩
    ·exact absurd (decide_eq_true e) h2
    ·exact⟨(Mv h hm ⟨a0,a6⟩ hh).Ee rfl rfl,hpl 1 to⟩
    ·exact absurd (of_decide_eq_true h3) e
   ·rename_i h3
    split
    ·exact⟨h.goes.Ee rfl rfl,rfl,fun _ _ _=>rfl⟩
    ·rename_i h4
     rcases ht with e | ⟨e,_⟩ | ⟨_,_,a0,a9,hk⟩
     ·exact absurd (decide_eq_true e) h2
     ·exact absurd (decide_eq_true e) h3
     ·exact⟨(Rr h hm ⟨a0,a9⟩ hk hc (by simpa using h4)).Ee rfl rfl,hpl 2 to⟩
theorem Jl {v to:Int}:∀ {l:List Int} {T:AE},T.Fit→l.Nodup→(∀ i∈l,IY T.w T.b i)→NI T v to→DH T (T.Ek v to l)
 | [],T,h,_,_,_=>h.goes
 | i :: r,T,h,hd,hm,ht=>by
  have hi:=hm i (List.mem_cons_self ..)
  obtain⟨g,gb,gt⟩:=SD h hi ht
  have hd':=List.nodup_cons.1 hd
  refine g.trans (Jl g.fit hd'.2 (fun j hj=>?_) (ht.next gb fun j j0 j9=>(g.st.th j j0 j9).2))
  have hj':=hm j (List.mem_cons_of_mem _ hj)
  have hne:j≠i:=fun e=>hd'.1 (e ▸ hj)
  rw [IY,gt j hj'.1 hne,g.b]
  exact hj'
theorem WS {T:AE}(h:T.Fit){to:Int}{o:Order}(ht:NI T o.verb to):DH T (T.Rx to o):=by
 unfold Rx
 have hp:∀ i∈BP T.w T.own o.nth o.name o.Bj,IY T.w T.b i:=fun i hi=>(FL (Dp hi)).Tw
 have hd:(BP T.w T.own o.nth o.name o.Bj).Nodup:=List.Nodup.sublist (EU ..) (AH.QT ..)
 split
 ·have g:DH T (T.tell O8):=h.goes.Ee rfl rfl
  exact g.trans (Jl g.fit hd hp (ht.next rfl fun _ _ _=>rfl))
 ·exact Jl h hd hp ht
theorem Ty {T:AE}(h:T.Fit){o:Order}(hv:o.verb=8∨o.verb=9∨o.verb=10):DH T (T.FD o):=by
 have hw:(T.Cv o).1.w=T.w∧(T.Cv o).1.b=T.b:=by
  unfold Cv
  split
  ·exact T.JY o.second
  ·split
   ·exact T.JC o.second
   ·exact⟨rfl,rfl⟩
 have g:DH T (T.Cv o).1:=h.goes.Ee hw.1 hw.2
 unfold FD
 split
 ·exact g
 ·rename_i h1
  refine g.trans (WS g.fit ?_)
  have h1':(T.Cv o).2.2=true:=by simpa using h1
  unfold NI
  rw [hw.1]
  unfold Cv at h1' ⊢
  split at h1'
  ·rename_i h2
   rw [if_pos h2]
   obtain⟨a0,a9,hk,_⟩:=XH h1'
   have:=of_decide_eq_true h2
   exact .inr (.inr ⟨by omega,by omega,a0,a9,hk⟩)
  ·rename_i h2
   rw [if_neg h2]
   split at h1'
   ·rename_i h3
    rw [if_pos h3]
    obtain⟨a0,a6,_,hs⟩:=Ju h1'
    exact .inr (.inl ⟨of_decide_eq_true h3,a0,a6,(AH.HO (AH.Km hs).2.1).2.2⟩)
   ·rename_i h3
    rw [if_neg h3]
    refine .inl ?_
    rcases hv with e | e | e
    ·exact e
    ·exact absurd (decide_eq_true e) h2
    ·exact absurd (decide_eq_true e) h3
end AE
end Go.Ing
/- What walks through a turn need. -/
namespace Go.Ing
open Go
theorem MI {α:Type}{l:List α}{k:Int}{d:α}(h0:0≤k)(h1:k < l.length):l.take (k+1).toNat=l.take k.toNat ++ [l.getD k.toNat d]:=by
 obtain⟨m,rfl⟩:=Int.eq_ofNat_of_zero_le h0
 have hm:m < l.length:=by omega
 rw [show((m:Int)+1).toNat=m+1 by omega,show((m:Int)).toNat=m by omega,List.take_add_one,List.getElem?_eq_getElem hm,List.getD_eq_getElem?_getD,List.getElem?_eq_getElem hm]
 rfl
theorem AH.L9 (d:Int):0≤AH.opposite d∧AH.opposite d < 6:=by
 unfold AH.opposite
 have h:=Int.tmod_nonneg (a:=max 0 (min d 5)+3) 6 (by omega)
 have h2:=Int.tmod_lt_of_pos (max 0 (min d 5)+3) (show(0:Int) < 6 by decide)
 exact⟨h,h2⟩
theorem Words.R3 {s:Ap}:∀ {n:Nat},n≤6→(Words.OT s n).2=true→0≤(Words.OT s n).1∧(Words.OT s n).1 < 6
 | 0,_,h=>by cases h
 | n+1,hn,h=>by
  unfold Words.OT at h ⊢
  split
  ·rename_i c
   show 0≤((5 - n:Nat):Int)∧((5 - n:Nat):Int) < 6
   omega
  ·rename_i c
   rw [if_neg c] at h
   exact Words.R3 (by omega) h
theorem Words.Uk {s:Ap}(h:(Words.dir s).2=true):0≤(Words.dir s).1∧(Words.dir s).1 < 6:=Words.R3 (Nat.le_refl _) h
namespace AE
theorem ZD {w:AH}{u:Ap}{l:List Int}{k:Int}(h0:0≤k)(h1:k < l.length)(c:(decide (u = []) || decide ((w.AO.at (l.getD k.toNat 0)).name=u))=true):JL w u (l.take (k+1).toNat)=JL w u (l.take k.toNat) ++ [l.getD k.toNat 0]:=by
 rw [MI (d:=0) h0 h1,JL,List.filter_append,List.filter_cons,if_pos c];rfl
theorem Yl {w:AH}{u:Ap}{l:List Int}{k:Int}(h0:0≤k)(h1:k < l.length)(c:(decide (u = []) || decide ((w.AO.at (l.getD k.toNat 0)).name=u))=false):JL w u (l.take (k+1).toNat)=JL w u (l.take k.toNat):=by
 rw [MI (d:=0) h0 h1,JL,List.filter_append,List.filter_cons,if_neg (by rw [c];decide)];simp [JL]
theorem VR (w:AH)(u:Ap)(l:List Int):(JL w u l).length≤l.length:=List.length_filter_le _ _
theorem KG (T:AE):T.own.length≤9:=AH.II _ _ _
theorem Ii (T:AE):T.seen.length≤9:=by
 unfold seen;split
 ·simp
 ·exact AH.II _ _ _
theorem Q3 {T:AE}{i:Int}(h:i∈T.own++T.seen):0≤i∧i < 9:=by
 rcases List.mem_append.1 h with h | h
 ·exact⟨(FL h).1,(FL h).2.1⟩
 ·exact⟨(Jm h).1,(Jm h).2.1⟩
theorem ME {T:AE}{i:Int}(h:i∈T.own):0≤i∧i < 9:=⟨(FL h).1,(FL h).2.1⟩
theorem O4 {T:AE}{i:Int}(h:i∈T.seen):0≤i∧i < 9:=⟨(Jm h).1,(Jm h).2.1⟩
theorem Ul (T:AE)(u:Ap):0≤(T.one u).1∧(T.one u).1 < 9:=by
 by_cases h:(T.one u).2=true
 ·exact⟨(Nu h).1,(Nu h).2.1⟩
 ·unfold one at h ⊢
  split
  ·exact⟨Int.le_refl _,by decide⟩
  ·rename_i h1
   rw [if_neg h1] at h
   split
   ·exact⟨Int.le_refl _,by decide⟩
   ·rename_i h2
    rw [if_neg h2] at h
    exact absurd rfl h
theorem Y4 (T:AE)(u:Ap):0≤(T.box u).2.1∧(T.box u).2.1 < 9:=by
 have h:=T.Ul u
 unfold box
 split
 ·exact⟨Int.le_refl _,show(0:Int) < 9 by decide⟩
 ·split
  ·exact⟨Int.le_refl _,show(0:Int) < 9 by decide⟩
  ·exact h
theorem H9 (T:AE)(u:Ap):(T.box u).1.out.length≤T.out.length+1:=by
 unfold box
 split
 ·simp
 ·split<;>simp
theorem Lw (T:AE)(u:Ap):0≤(T.A6 u).2.1∧(T.A6 u).2.1 < 6:=by
 unfold A6
 split
 ·split
  ·rename_i k hk
   have:=LW (Nat.le_refl _) hk
   exact⟨this.1,this.2.1⟩
  ·exact⟨Int.le_refl _,show(0:Int) < 6 by decide⟩
 ·exact⟨Int.le_refl _,show(0:Int) < 6 by decide⟩
theorem HJ (T:AE)(u:Ap):(T.A6 u).1.out.length≤T.out.length+1:=by
 unfold A6
 split
 ·split<;>simp
 ·simp
theorem Xr (T:AE)(hb:0≤T.b∧T.b < 6)(r:Int):({ T.w with AL:=(T.w.AL.put T.b { T.w.AL.at T.b with room:=r }).put T.b { (T.w.AL.put T.b { T.w.AL.at T.b with room:=r }).at T.b with B1:=0 } }:AH)=(T.Fw r).w:=by
 rw [Vector.CD hb.1 hb.2,Vector.Ej];rfl
theorem Hi (T:AE){i:Int}(h0:0≤i)(h9:i < 9)(wh a:Int):({ T.w with AO:=(T.w.AO.put i { T.w.AO.at i with Ca:=wh }).put i { (T.w.AO.put i { T.w.AO.at i with Ca:=wh }).at i with at_:=a } }:AH)=(T.place i wh a).w:=by
 rw [Vector.CD h0 h9,Vector.Ej];rfl
theorem Dx {T:AE}{i:Int}(h0:0≤i)(h9:i < 9)(wh a:Int):((T.place i wh a).w.AO.at i).name=(T.w.AO.at i).name:=by
 rw [HB h0 h9 h0,if_pos rfl]
theorem Dd {T:AE}{i j:Int}(h0:0≤i)(h9:i < 9)(j0:0≤j)(wh a:Int):((T.place i wh a).w.AO.at j).name=(T.w.AO.at j).name:=by
 rw [HB h0 h9 j0]
 split
 ·rename_i e;subst e;rfl
 ·rfl
theorem WD (T:AE){i:Int}(h0:0≤i)(h9:i < 9)(c:decide ((T.w.AO.at i).kind=2)=true):({ T.w with AO:=(((T.w.AO.put i { T.w.AO.at i with on:=false }).put i { (T.w.AO.put i { T.w.AO.at i with on:=false }).at i with Ca:=0 }).put i { ((T.w.AO.put i { T.w.AO.at i with on:=false }).put i { (T.w.AO.put i { T.w.AO.at i with on:=false }).at i with Ca:=0 }).at i with at_:=(T.w.AL.at T.b).room }) }:AH)=(T.Et i).w:=by
 rw [Vector.CD h0 h9,Vector.Ej,Vector.CD h0 h9,Vector.Ej]
 unfold Et
 rw [if_pos c];rfl
theorem VV (T:AE){i:Int}(h0:0≤i)(h9:i < 9)(c:decide ((T.w.AO.at i).kind=2)=false):({ T.w with AO:=(T.w.AO.put i { T.w.AO.at i with Ca:=0 }).put i { (T.w.AO.put i { T.w.AO.at i with Ca:=0 }).at i with at_:=(T.w.AL.at T.b).room } }:AH)=(T.Et i).w:=by
 rw [Vector.CD h0 h9,Vector.Ej]
 unfold Et
 rw [if_neg (by rw [c];decide)];rfl
theorem HE {X:AE}{l:List Int}{k:Int}(h0:0≤k)(h1:k < l.length):X.DG (l.drop k.toNat)=((X.place (l.getD k.toNat 0) 1 X.b).Bs 3 (l.getD k.toNat 0)).DG (l.drop (k+1).toNat):=by
 rw [NW h0 h1];rfl
theorem Li {X:AE}{l:List Int}{k:Int}(h0:0≤k)(h1:k < l.length):X.Cd (l.drop k.toNat)=(X.Et (l.getD k.toNat 0)).Cd (l.drop (k+1).toNat):=by
 rw [NW h0 h1];rfl
theorem Jy {α:Type}{l:List α}:l.drop (l.length:Int).toNat = []:=by rw [show(l.length:Int).toNat=l.length by omega,List.drop_length]
theorem Np {T:AE}{k:Int}(h:0≤k):T.DU (k+1).toNat=if decide (((T.DU k.toNat).w.AL.at k).B1=T.b+1)=true then(T.DU k.toNat).Ck k 0 else T.DU k.toNat:=by
 obtain⟨m,rfl⟩:=Int.eq_ofNat_of_zero_le h
 rfl
theorem RO (T:AE):∀ k:Nat,(T.DU k).b=T.b∧(T.DU k).out=T.out
 | 0=>⟨rfl,rfl⟩
 | k+1=>by
  unfold DU;split
  ·exact RO T k
  ·exact RO T k
theorem Ix:∀(l:List Int) (T:AE),(T.Cd l).b=T.b∧(T.Cd l).out=T.out
 | [],T=>⟨rfl,rfl⟩
 | i :: r,T=>by rw [Cd];exact Ix r _
theorem LG {T:AE}{name:Ap}{k n:Int}(h0:0≤k)(h6:k < 6):T.IX name (6 - k).toNat n=if (decide (k=T.b) || !decide ((T.w.AL.at k).name=name) || !T.w.Hs T.b k)=true then T.IX name (6 - (k+1)).toNat n else if decide (n - 1=0)=true then some k else T.IX name (6 - (k+1)).toNat (n - 1):=by
 obtain⟨m,rfl⟩:=Int.eq_ofNat_of_zero_le h0
 have e:(6 - (m:Int)).toNat=(6 - ((m:Int)+1)).toNat+1:=by omega
 rw [e,IX,show(((6 - ((6 - ((m:Int)+1)).toNat+1):Nat)):Int)=(m:Int) by omega]
@[simp] theorem Fc (T:AE) (k i:Int):(T.Bs k i).out.length=T.out.length+1:=by simp [Bs]
@[simp] theorem L0 (T:AE) (k:Int):(T.kind k).out.length=T.out.length+1:=by simp [kind]
theorem Rm (T:AE)(b f:Int):(T.Ck b f).b=T.b∧(T.Ck b f).out=T.out:=⟨rfl,rfl⟩
theorem Qa (T:AE):T.FB.b=T.b∧T.FB.out=T.out:=by
 unfold FB
 rw [(Rm _ _ _).1,(Rm _ _ _).2]
 have h1:=AE.Ix T.own T
 have h2:=AE.RO (T.Cd T.own) 6
 exact⟨h2.1.trans h1.1,h2.2.trans h1.2⟩
theorem DD (T:AE)(b:Int)(x:Aj):(T.DV b x).b=T.b∧(T.DV b x).out=T.out∧(T.DV b x).w={ T.w with AL:=T.w.AL.put b x }:=⟨rfl,rfl,rfl⟩
theorem Ob (T:AE):T.GH.b=(T.kind 18).b∧T.GH.out=(T.kind 18).out∧T.GH.w={ (T.kind 18).FB.w with AL:=(T.kind 18).FB.w.AL.put (T.kind 18).b default }:=by
 unfold GH
 rw [(DD _ _ _).1,(DD _ _ _).2.1,(DD _ _ _).2.2]
 exact⟨(Qa _).1,(Qa _).2,rfl⟩
theorem SP {l:List Int}(h:∀ i∈l,0≤i∧i < 9):0≤l.getD (0:Int).toNat 0∧l.getD (0:Int).toNat 0 < 9:=by
 cases l with
 | nil=>exact⟨Int.le_refl _,show(0:Int) < 9 by decide⟩
 | cons x r=>exact h x (List.mem_cons_self ..)
theorem Ov (T:AE)(v to i:Int):(T.Cu v to i).out.length≤T.out.length+1:=by
 unfold Cu
 split
 ·simp
 ·split
  ·rw [Fc];exact Nat.le_refl _
  ·split
   ·rw [Cf];exact Nat.le_refl _
   ·split
    ·simp
    ·rw [Cf];exact Nat.le_refl _
theorem Xj (T:AE)(v to i:Int):(T.Cu v to i).b=T.b:=by
 unfold Cu
 split
 ·rfl
 ·split
  ·rfl
  ·split
   ·rfl
   ·split<;>rfl
theorem P0 (T:AE)(o:Order):(T.Cv o).1.out.length≤T.out.length+1:=by
 unfold Cv
 split
 ·exact T.H9 _
 ·split
  ·exact T.HJ _
  ·exact Nat.le_succ _
theorem WJ {X:AH}{b:Int}(hw:X.DL)(c1:(!X.Bh)=false)(c2:(decide (b < 0) || decide (6≤b) || !(X.AL.at b).here)=false):Fit ⟨X,b,[]⟩:=by
 simp only [Bool.or_eq_false_iff,decide_eq_false_iff_not,Bool.not_eq_false'] at c1 c2
 exact⟨⟨by show 0≤b;omega,by show b < 6;omega⟩,hw,c1,c2.2⟩
end AE
end Go.Ing
/- Engine: texts deep within what came in, as parts of its reading. -/
namespace Go.Ing
open Go
section
open Go.RowKit Go.ChangeShapes Go.WideShapes Go.ChangeAt
variable {H:Type} {enc:TypeId × Value→H} {P:Program} {w:World}
end
end Go.Ing
/- Laws of what beings do: doors; that rules answer at all. -/
namespace Go.Ing
open Go
theorem Vector.N7 {α:Type}[Inhabited α]{n:Nat}(v:Vector α n)(i:Int):v.at i=default∨∃ j:Int,0≤j∧j < n∧v.at i=v.at j:=by
 by_cases h:i.toNat < n
 ·exact .inr ⟨(i.toNat:Int),by omega,by omega,by unfold Vector.at;rw [show((i.toNat:Nat):Int).toNat=i.toNat by omega]⟩
 ·refine .inl ?_
  unfold Vector.at
  rw [List.getD_eq_getElem?_getD,List.getElem?_eq_none (by simp;omega)]
  rfl
namespace AE
structure Wx (X:AH)(b:Int)(o:Order):Prop where
 gd:X.Bh=true
 br:0≤b∧b < 6
 here:(X.AL.at b).here=true
 v:0≤o.verb∧o.verb≤20
 w:(EC X b o).1=(AE.act ⟨X,b,[]⟩ o).w
 out:(EC X b o).2.1=(AE.act ⟨X,b,[]⟩ o).out
theorem bP {X:AH}{b:Int}{o:Order}(h:(EC X b o).2.2=0):Wx X b o:=by
 unfold EC at h
 split at h
 ·cases h
 ·rename_i h1
  split at h
  ·cases h
  ·rename_i h2
   split at h
   ·cases h
   ·rename_i h3
    have h2':=h2
    have h3':=h3
    have hd:EC X b o=((AE.act ⟨X,b,[]⟩ o).w,(AE.act ⟨X,b,[]⟩ o).out,0):=(if_neg h1).trans ((if_neg h2).trans (if_neg h3))
    simp only [Bool.or_eq_true,decide_eq_true_eq,Bool.not_eq_true',not_or,Bool.not_eq_false] at h1 h2' h3'
    exact⟨h1,⟨by omega,by omega⟩,h2'.2,⟨by omega,by omega⟩,by rw [hd],by rw [hd]⟩
theorem Wx.fit {X:AH}{b:Int}{o:Order}(h:Wx X b o)(hw:X.DL):Fit ⟨X,b,[]⟩:=⟨h.br,hw,h.gd,h.here⟩
end AE
end Go.Ing
/- What beings do keeps the land good: all orders. -/
namespace Go.Ing
open Go
namespace AE
theorem IB {T:AE}(h:T.Fit){c f:Int}(c0:0≤c)(c6:c < 6)(f0:0≤f)(f6:f≤6)(hh:f≠0→(T.w.AL.at c).here=true):DH T (T.Ck c f):=by
 have hg:=AH.FT h.gd c0 c6
 have hb:∀ a,0≤a→((T.Ck c f).w.AL.at a).here=(T.w.AL.at a).here:=fun a a0=>by
  show((T.w.AL.put c { T.w.AL.at c with B1:=f }).at a).here=_
  rw [HX _ _ _ _ c0 c6 a0]
  split
  ·rename_i e;subst e;rfl
  ·rfl
 refine⟨rfl,⟨h.b,Eh h.br (h.br.be c),AH.Iw h.gd c0 c6 ?_ fun i i0 i9 hw ha=>?_,(hb T.b h.b.1).trans h.here⟩,MK c0 c6 fun _=>rfl⟩
 ·unfold AH.Dk at hg ⊢
  simp only [Bool.or_eq_false_iff,decide_eq_false_iff_not,Bool.and_eq_false_iff,Bool.not_eq_false'] at hg ⊢
  obtain⟨⟨⟨⟨⟨⟨⟨q1,q2⟩,q3⟩,q4⟩,q5⟩,q6⟩,q7⟩,q8⟩:=hg
  refine⟨⟨⟨⟨⟨⟨⟨q1,q2⟩,q3⟩,q4⟩,by omega⟩,by omega⟩,?_⟩,q8⟩
  by_cases e:f=0
  ·exact .inr (by simp [e])
  ·exact .inl (hh e)
 ·show(T.w.AL.at c).here=true
  have:=AH.HU h.gd i0 i9
  rcases this.Ca with ⟨a,_⟩ | ⟨_,_,a⟩ | ⟨a,_⟩
  ·omega
  ·rw [ha] at a;exact a
  ·omega
theorem Tf {T:AE}(h:T.Fit)(o:Order):DH T (T.E6 o):=by
 unfold E6
 generalize (if (!decide (o.nth=1) || o.Bj)=true then [] else o.name)=nm
 have hw:=T.JC nm
 have g:DH T (T.A6 nm).1:=h.goes.Ee hw.1 hw.2
 split
 ·exact g
 ·rename_i h1
  have hs:=Ju (T:=T) (u:=nm) (by simpa using h1)
  have hk:(T.w.AL.at (T.A6 nm).2.1).here=true:=(AH.HO (AH.Km hs.2.2.2).2.1).2.2
  have hgb:=g.fit.b
  have g1:=g.trans (IB g.fit (c:=(T.A6 nm).1.b) (f:=(T.A6 nm).2.1+1) g.fit.b.1 g.fit.b.2 (by omega) (by omega) fun _=>g.fit.here)
  have key:DH T (if decide ((((T.A6 nm).1.Ck (T.A6 nm).1.b ((T.A6 nm).2.1+1)).w.AL.at (T.A6 nm).2.1).B1=0)=true then((T.A6 nm).1.Ck (T.A6 nm).1.b ((T.A6 nm).2.1+1)).Ck (T.A6 nm).2.1 ((T.A6 nm).1.b+1) else(T.A6 nm).1.Ck (T.A6 nm).1.b ((T.A6 nm).2.1+1)):=by
   split
   ·refine g1.trans (IB g1.fit hs.1 hs.2.1 (by omega) (by omega) fun _=>?_)
    show(((T.A6 nm).1.w.AL.put (T.A6 nm).1.b _).at _).here=true
    rw [HX _ _ _ _ g.fit.b.1 g.fit.b.2 hs.1,if_neg (by rw [hw.2];exact hs.2.2.1),hw.1]
    exact hk
   ·exact g1
  exact key.Ee rfl rfl
theorem Mt {T:AE}(h:T.Fit){first:Bool}{i:Int}{v:Bool}{ev:Int}(hm:IY T.w T.b i)(h1:(T.w.AO.at i).kind≠0)(h2:(T.w.AO.at i).kind=2→(T.w.AO.at i).Ca=1):DH T (T.before first i v ev):=by
 unfold before
 split
 ·have g:=EV h hm (t:={ T.w.AO.at i with on:=v }) rfl rfl (AH.Uy h.gd hm.1 hm.2.1 h1 h2)
  exact g.Ee rfl rfl
 ·have g:DH T (T.Bs ev i):=h.goes.Ee rfl rfl
  exact g.trans (EV g.fit hm rfl rfl (AH.Uy h.gd hm.1 hm.2.1 h1 h2))
theorem L2 {T:AE}(h:T.Fit){r d:Int}{v:Bool}(r0:0≤r)(r6:r < 6)(d0:0≤d)(d6:d < 6)(hv:v=true→(T.w.BQ.at r).CM.at d≠0):DH T (T.C9 r d v):=
 ⟨rfl,⟨h.b,TR h.br,AH.VW h.gd r0 r6 d0 d6 hv,h.here⟩,V5 r0 r6⟩
theorem V0 {T:AE}(h:T.Fit){d:Int}{on:Bool}{ev:Int}(d0:0≤d)(d6:d < 6):DH T (T.Gy d on ev):=by
 have hx:=h.exit d0 d6
 have hr:=h.room
 unfold Gy
 split
 ·exact h.goes.Ee rfl rfl
 ·rename_i h1
  split
  ·exact h.goes.Ee rfl rfl
  ·have h1':¬ (T.w.BQ.at (T.w.AL.at T.b).room).CM.at d - 1 < 0:=fun e=>h1 (decide_eq_true e)
   have g1:=L2 h (v:=!on) hr.1 hr.2 d0 d6 fun _=>by omega
   have ho:=AH.L9 d
   have key:DH T (if decide (((T.C9 T.me.room d (!on)).w.BQ.at ((T.w.BQ.at T.me.room).CM.at d - 1)).CM.at (AH.opposite d)=T.me.room+1)=true then(T.C9 T.me.room d (!on)).C9 ((T.w.BQ.at T.me.room).CM.at d - 1) (AH.opposite d) (!on) else T.C9 T.me.room d (!on)):=by
    split
    ·rename_i h3
     refine g1.trans (L2 g1.fit (v:=!on) (r:=(T.w.BQ.at (T.w.AL.at T.b).room).CM.at d - 1) (d:=AH.opposite d) (by omega) (by omega) ho.1 ho.2 fun _=>?_)
     have h3':=of_decide_eq_true h3
     intro e
     have h3'':((T.C9 T.me.room d (!on)).w.BQ.at ((T.w.BQ.at (T.w.AL.at T.b).room).CM.at d - 1)).CM.at (AH.opposite d)=(T.w.AL.at T.b).room+1:=h3'
     have e':((T.C9 T.me.room d (!on)).w.BQ.at ((T.w.BQ.at (T.w.AL.at T.b).room).CM.at d - 1)).CM.at (AH.opposite d)=0:=e
     omega
    ·exact g1
   exact key.Ee rfl rfl
theorem R7 {v:Int}:setKind v=1∨setKind v=2∨setKind v=3:=by
 unfold setKind
 split
 ·exact .inl rfl
 ·split
  ·exact .inr (.inl rfl)
  ·exact .inr (.inr rfl)
theorem W2 {T:AE}(h:T.Fit)(o:Order):DH T (T.set o):=by
 unfold set
 split
 ·rename_i h1
  have:=Words.Uk (Bool.and_eq_true_iff.1 h1).1
  exact V0 h this.1 this.2
 ·split
  ·exact h.goes.Ee rfl rfl
  ·rename_i h2
   split
   ·exact h.goes.Ee rfl rfl
   ·simp only [Bool.or_eq_true,decide_eq_true_eq,Bool.not_eq_true',decide_eq_false_iff_not,not_or,Decidable.not_not] at h2
    have hm:(T.ES o).getD 0 0∈T.ES o:=OK (decide_eq_false h2.1)
    have hm2:=Dp hm
    have hk:=R7 (v:=o.verb)
    have hmine:IY T.w T.b ((T.ES o).getD 0 0)∧(setKind o.verb=2→(T.w.AO.at ((T.ES o).getD 0 0)).Ca=1):=by
     split at hm2
     ·rename_i h3
      have h3':=of_decide_eq_true h3
      rcases List.mem_append.1 hm2 with hq | hq
      ·exact⟨(FL hq).Tw,fun e=>by omega⟩
      ·exact⟨ML hq,fun e=>by omega⟩
     ·exact⟨(FL hm2).Tw,fun _=>(FL hm2).2.2.1⟩
    have hk0:(T.w.AO.at ((T.ES o).getD 0 0)).kind≠0:=by rw [h2.2];omega
    have hk2:(T.w.AO.at ((T.ES o).getD 0 0)).kind=2→(T.w.AO.at ((T.ES o).getD 0 0)).Ca=1:=fun e=>hmine.2 (by rw [← h2.2];exact e)
    split
    ·exact Mt h hmine.1 hk0 hk2
    ·exact Mt h hmine.1 hk0 hk2
theorem J1 {T:AE}{i j:Int}(h0:0≤i)(h9:i < 9)(j0:0≤j):(T.Et i).w.AO.at j=if j=i then { T.w.AO.at i with on:=if decide ((T.w.AO.at i).kind=2)=true then false else(T.w.AO.at i).on,Ca:=0,at_:=T.me.room } else T.w.AO.at j:=HX _ _ _ _ h0 h9 j0
theorem Qs {T:AE}(h:T.Fit){i:Int}(hm:IY T.w T.b i):DH T (T.Et i):=
 EV h hm rfl rfl (AH.M4 h.gd hm.1 hm.2.1 h.room (fun e=>by rw [if_neg (by rw [e];decide)];exact(AH.HU h.gd hm.1 hm.2.1).plain e) (fun⟨e1,e2⟩=>by rw [if_pos (decide_eq_true e1)] at e2;cases e2))
theorem JF:∀ {l:List Int} {T:AE},T.Fit→(∀ i∈l,IY T.w T.b i)→DH T (T.Cd l)∧∀ j,0≤j→j < 9→(((T.Cd l).w.AO.at j).Ca=0∨(j ∉ l∧(T.Cd l).w.AO.at j=T.w.AO.at j))
 | [],T,h,_=>⟨h.goes,fun j _ _=> .inr ⟨by simp,rfl⟩⟩
 | i :: r,T,h,hm=>by
  have hi:=hm i (List.mem_cons_self ..)
  have g1:=Qs h hi
  obtain⟨g2,k2⟩:=JF (l:=r) g1.fit fun j hj=>by
   have hj':=hm j (List.mem_cons_of_mem _ hj)
   refine⟨hj'.1,hj'.2.1,?_⟩
   rw [J1 hi.1 hi.2.1 hj'.1]
   split
   ·intro e;cases e
   ·exact hj'.2.2
  refine⟨g1.trans g2,fun j j0 j9=>?_⟩
  rcases k2 j j0 j9 with e | ⟨e1,e2⟩
  ·exact .inl e
  ·have hd:=J1 (T:=T) hi.1 hi.2.1 j0
   by_cases hji:j=i
   ·rw [if_pos hji] at hd
    exact .inl (by rw [show(T.Cd (i :: r)).w.AO.at j=_ from e2,hd])
   ·rw [if_neg hji] at hd
    exact .inr ⟨by simp [hji,e1],e2.trans hd⟩
theorem LF {T:AE}(h:T.Fit):∀ {k:Nat},k≤6→DH T (T.DU k)∧(T.DU k).w.AO=T.w.AO
 | 0,_=>⟨h.goes,rfl⟩
 | k+1,hk=>by
  obtain⟨g,e⟩:=LF (k:=k) h (by omega)
  unfold DU
  split
  ·exact⟨g.trans (IB g.fit (by omega) (by omega) (Int.le_refl _) (by decide) fun e=>absurd rfl e),e⟩
  ·exact⟨g,e⟩
theorem Lx (T:AE):T.FB=((T.Cd T.own).DU 6).Ck T.b 0:=by unfold FB;rfl
theorem ZG {T:AE}(h:T.Fit):DH T T.FB:=by
 have g1:=(JF h (l:=T.own) fun i hi=>(FL hi).Tw).1
 have g2:=(LF g1.fit (k:=6) (Nat.le_refl _)).1
 have g3:=g1.trans g2
 have g4:=IB g3.fit (c:=T.b) (f:=0) h.b.1 h.b.2 (Int.le_refl _) (by decide) (fun e=>(e rfl).elim)
 rw [Lx]
 exact g3.trans g4
theorem PV (T:AE)(b f:Int):(T.Ck b f).w.AO=T.w.AO:=rfl
theorem Sc {T:AE}(h:T.Fit){j:Int}(j0:0≤j)(j9:j < 9):¬ ((T.FB.w.AO.at j).Ca=1∧(T.FB.w.AO.at j).at_=T.b):=by
 obtain⟨g1,k1⟩:=JF h (l:=T.own) fun i hi=>(FL hi).Tw
 have k2:=(LF g1.fit (k:=6) (Nat.le_refl _)).2
 rw [Lx,PV,k2]
 rcases k1 j j0 j9 with e | ⟨e1,e2⟩
 ·rw [e];exact fun h=>by cases h.1
 ·rw [e2]
  intro⟨a,b⟩
  refine e1 ?_
  unfold own AH.has
  exact List.mem_filter.2 ⟨List.mem_map.2 ⟨j.toNat,List.mem_range.2 (by omega),by show((j.toNat:Nat):Int)=j;omega⟩,by rw [a,b];simp⟩
theorem QL {T:AE}(h:T.Fit):DH T T.FB∧∀ j,0≤j→j < 9→¬ ((T.FB.w.AO.at j).Ca=1∧(T.FB.w.AO.at j).at_=T.b):=⟨ZG h,fun _ j0 j9=>Sc h j0 j9⟩
theorem S5 {T:AE}(h:T.Fit):T.GH.w.Bh=true∧Step T.b T.w T.GH.w:=by
 have g1:DH T (T.kind 18):=h.goes.Ee rfl rfl
 obtain⟨g2,k⟩:=QL g1.fit
 have g:=g1.trans g2
 rw [(T.Ob).2.2]
 exact⟨AH.Iw (X:=(T.kind 18).FB.w) g.fit.gd h.b.1 h.b.2 (by decide) fun i i0 i9 e1 e2=>absurd ⟨e1,e2⟩ (k i i0 i9),g.st.trans (MK h.b.1 h.b.2 fun e=>absurd rfl e)⟩
theorem VT {T:AE}(h:T.Fit)(o:Order)(h0:0≤o.verb)(h1:o.verb≤20):(T.act o).w.Bh=true∧Step T.b T.w (T.act o).w:=by
 have k:∀ {T':AE},DH T T'→T'.w.Bh=true∧Step T.b T.w T'.w:=fun g=>⟨g.fit.gd,g.st⟩
 unfold act
 split
 ·rename_i c;exact k (VS h h0 (of_decide_eq_true c))
 ·split
  ·exact k (P6 h)
  ·split
   ·exact k (h.goes.Ee (T.HY _ _).1 (T.HY _ _).2.1)
   ·split
    ·exact k (h.goes.Ee rfl rfl)
    ·split
     ·exact S5 h
     ·split
      ·exact k (Tf h o)
      ·split
       ·exact k (X5 h o)
       ·split
        ·rename_i c
         simp only [Bool.or_eq_true,decide_eq_true_eq] at c
         exact k (Ty h (by omega))
        ·exact k (W2 h o)
theorem keeps {X:AH}{b:Int}{o:Order}(hw:X.DL)(h:(EC X b o).2.2=0):(EC X b o).1.Bh=true∧Step b X (EC X b o).1:=by
 have k:=bP h
 rw [k.w]
 exact VT (k.fit hw) o k.v.1 k.v.2
end AE
end Go.Ing

/- What the functions that the law of this seat reaches compute, and the plain laws of it. No condition. -/
import Derived.Test.YtoidpggbbfncpaaGreatDoorTopHeardEc3
import Derived.Test.YtoidpggbbfncpaaGreatDoorTopHeardRa1
set_option linter.unusedSimpArgs false
set_option linter.unusedVariables false
/- What people type: plain functions, and what is known of pieces. -/
namespace Go.Ing
open Go
namespace Words
theorem LV (c:UInt8):∀ s:Ao,(Lib.indexByte s c=-1∧c ∉ s)∨∃ i:Nat,Lib.indexByte s c=i∧i < s.length∧c ∉ s.take i∧s.drop i=c :: s.drop (i+1)
 | []=> .inl ⟨rfl,by simp⟩
 | b :: r=>by
  by_cases h:b=c
  ·subst h
   exact .inr ⟨0,by simp [Lib.indexByte],by simp,by simp,by simp⟩
  ·have hb:(b == c)=false:=by simpa using h
   rcases LV c r with ⟨h1,h2⟩ | ⟨i,h1,h2,h3,h4⟩
   ·exact .inl ⟨by simp [Lib.indexByte,hb,h1],by simp [Ne.symm h,h2]⟩
   ·refine .inr ⟨i+1,?_,by simp;omega,?_,by simpa using h4⟩
    ·have:((i:Int) == -1)=false:=by simp
     simp [Lib.indexByte,hb,h1,this]
    ·simp [Ne.symm h,h3]
def pieces (c:UInt8):Ao→List Ao
 | []=> [[]]
 | x :: r=>if x=c then [] :: pieces c r else(x :: (pieces c r).headD []) :: (pieces c r).tail
theorem QM (c:UInt8)(s:Ao):pieces c s≠ []:=by
 cases s with
 | nil=>simp [pieces]
 | cons x r=>unfold pieces;split<;>simp
theorem Ko {c:UInt8}:∀ {s:Ao},c ∉ s→pieces c s = [s]
 | [],_=>rfl
 | x :: r,h=>by
  simp only [List.mem_cons,not_or] at h
  rw [pieces,if_neg (Ne.symm h.1),Ko h.2];rfl
theorem Lo {c:UInt8}(r:Ao):∀ {a:Ao},c ∉ a→pieces c (a++c :: r)=a :: pieces c r
 | [],_=>by simp [pieces]
 | x :: a,h=>by
  simp only [List.mem_cons,not_or] at h
  rw [List.cons_append,pieces,if_neg (Ne.symm h.1),Lo r h.2];rfl
theorem FT (c:UInt8):∀ s:Ao,(pieces c s).length=s.count c+1
 | []=>rfl
 | x :: r=>by
  unfold pieces
  have ih:=FT c r
  have hne:=QM c r
  split
  ·rename_i h;simp [h,ih]
  ·rename_i h
   have:(x == c)=false:=by simpa using h
   rw [List.count_cons,this]
   obtain⟨p,q,hp⟩:=List.exists_cons_of_ne_nil hne
   rw [hp] at ih ⊢
   simpa using ih
theorem UG {c:UInt8}{s:Ao}{i:Nat}(h3:c ∉ s.take i)(h4:s.drop i=c :: s.drop (i+1)):pieces c s=s.take i :: pieces c (s.drop (i+1)):=by
 conv=>lhs;rw [← List.take_append_drop i s,h4]
 exact Lo _ h3
/-! #### small letters -/
def Vh (c:UInt8):UInt8:=if (decide (65≤(c.toNat:Int)) && decide ((c.toNat:Int)≤90))=true then u8 ((c.toNat:Int)+97 - 65) else c
def low (w:Ao):Ao:=w.map Vh
def words (s:Ao):List Ao:=((pieces 32 s).filter fun w=>!decide (w = [])).map low
theorem aB {c:UInt8}(h:(decide (65≤(c.toNat:Int)) && decide ((c.toNat:Int)≤90))=true):u8 ((c.toNat:Int)+97 - 65)=Vh c:=(if_pos h).symm
theorem aJ {c:UInt8}(h:(decide (65≤(c.toNat:Int)) && decide ((c.toNat:Int)≤90))=false):Vh c=c:=if_neg (by rw [h];decide)
def Hv (w:Ao)(k:Nat):Ao:=(w.take k).map Vh++w.drop k
theorem OF (w:Ao)(k:Nat):(Hv w k).length=w.length:=by simp [Hv];omega
theorem Uu {w:Ao}{k:Int}(h0:0≤k)(h1:k < w.length):(Hv w k.toNat).getD k.toNat 0=w.getD k.toNat 0:=by
 have hk:k.toNat < w.length:=by omega
 unfold Hv
 rw [List.getD_eq_getElem?_getD,List.getElem?_append_right (by simp;omega)]
 simp [List.getD_eq_getElem?_getD,Nat.min_eq_left (Nat.le_of_lt hk)]
theorem ZE (w:Ao):Hv w w.length=low w:=by simp [Hv,low]
theorem S3 {w:Ao}{k:Int}(h0:0≤k)(h1:k < w.length):(Hv w k.toNat).set k.toNat (Vh (w.getD k.toNat 0))=Hv w (k+1).toNat:=by
 obtain⟨n,rfl⟩:=Int.eq_ofNat_of_zero_le h0
 have hn:n < w.length:=by omega
 rw [show((n:Int)).toNat=n by omega,show((n:Int)+1).toNat=n+1 by omega]
 unfold Hv
 rw [List.drop_eq_getElem_cons hn,List.set_append_right _ _ (by simp;omega)]
 simp only [List.length_map,List.length_take,Nat.min_eq_left (Nat.le_of_lt hn),Nat.sub_self,List.set_cons_zero]
 rw [List.take_add_one,List.map_append,List.append_assoc]
 simp [List.getD_eq_getElem?_getD,hn]
theorem Wh {w:Ao}{k:Int}(h0:0≤k)(h1:k < w.length)(h:Vh (w.getD k.toNat 0)=w.getD k.toNat 0):Hv w k.toNat=Hv w (k+1).toNat:=by
 rw [← S3 h0 h1,h]
 have hk:k.toNat < (Hv w k.toNat).length:=by rw [OF];omega
 have e:=Uu h0 h1
 rw [← e,List.getD_eq_getElem?_getD,List.getElem?_eq_getElem hk]
 simp
structure PD (c:UInt8)(s:Ao)(i:Int)(r:Ao)(xs:List Ao):Prop where
 i0:0≤i
 i1:i≤s.count c
 len:xs.length=s.count c+1
 eq:pieces c s=xs.take i.toNat++pieces c r
 rl:r.length≤s.length
theorem PD.start (c:UInt8)(s:Ao)(n:Nat)(hn:n=s.count c+1):PD c s 0 s (List.replicate n []):=
 ⟨Int.le_refl _,by omega,by simp [hn],by simp,Nat.le_refl _⟩
theorem PD.left {c:UInt8}{s:Ao}{i:Int}{r:Ao}{xs:List Ao}(h:PD c s i r xs):(r.count c:Int)=s.count c - i:=by
 have:=congrArg List.length h.eq
 rw [List.length_append,FT,FT,List.length_take,h.len] at this
 have h1:=h.i0;have h2:=h.i1
 omega
theorem PD.next {c:UInt8}{s:Ao}{i:Int}{r:Ao}{xs:List Ao}(h:PD c s i r xs){m:Int}(hm:Lib.indexByte r c=m)(h0:¬ m < 0):0≤m∧m < r.length∧PD c s (i+1) (r.drop (m+1).toNat) (xs.set i.toNat (r.take m.toNat)):=by
 have hi:=h.i0
 rcases LV c r with ⟨e,_⟩ | ⟨j,e,h1,h2,h3⟩
 ·omega
 ·obtain rfl:m=j:=by omega
  have hl:=h.left
  have hp:=UG h2 h3
  have hc:(pieces c r).length=(pieces c (r.drop (j+1))).length+1:=by rw [hp];simp
  rw [FT,FT] at hc
  have hx:=h.len
  refine⟨by omega,by omega,by omega,by omega,by simp [hx],?_,by simp;have:=h.rl;omega⟩
  rw [h.eq,hp,show(i+1).toNat=i.toNat+1 by omega,show((j:Int)+1).toNat=j+1 by omega,show((j:Int)).toNat=j by omega,List.take_add_one,List.getElem?_set_self (by omega),List.take_set_of_le (by omega)]
  simp
theorem PD.done {c:UInt8}{s:Ao}{i:Int}{r:Ao}{xs:List Ao}(h:PD c s i r xs)(he:¬ i < (s.count c:Int)∨Lib.indexByte r c < 0):i=s.count c∧(xs.set i.toNat r).take (i+1).toNat=pieces c s:=by
 have hi:=h.i0;have hi1:=h.i1;have hl:=h.left;have hx:=h.len
 have hc:c ∉ r:=by
  rcases he with he | he
  ·intro hm;have:=List.count_pos_iff.2 hm;omega
  ·rcases LV c r with ⟨_,h2⟩ | ⟨j,e,_⟩
   ·exact h2
   ·omega
 have h0:r.count c=0:=List.count_eq_zero.2 hc
 refine⟨by omega,?_⟩
 rw [h.eq,Ko hc,show(i+1).toNat=i.toNat+1 by omega,List.take_add_one,List.getElem?_set_self (by omega),List.take_set_of_le (by omega)]
 rfl
theorem IU {c:UInt8}:∀ {s:Ao} {p:Ao},p∈pieces c s→p.length≤s.length
 | [],p,h=>by simp [pieces] at h;simp [h]
 | x :: r,p,h=>by
  unfold pieces at h
  obtain⟨q,t,hq⟩:=List.exists_cons_of_ne_nil (QM c r)
  have ih:=@IU c r
  rw [hq] at h ih
  split at h
  ·rcases List.mem_cons.1 h with h | h
   ·simp [h]
   ·have:=ih h;simp;omega
  ·simp only [List.headD_cons,List.tail_cons] at h
   rcases List.mem_cons.1 h with h | h
   ·have:=ih (p:=q) (by simp);rw [h];simp;omega
   ·have:=ih (p:=p) (by simp [h]);simp;omega
theorem Vv {c:UInt8}{s:Ao}(i:Nat):((pieces c s).getD i []).length≤s.length:=by
 rw [List.getD_eq_getElem?_getD]
 cases h:(pieces c s)[i]? with
 | none=>simp
 | some p=>exact IU (List.mem_of_getElem? h)
def JB (s:Ao)(k:Nat):List Ao:=(((pieces 32 s).take k).filter fun w=>!decide (w = [])).map low
theorem Nl (s:Ao):words s=JB s ((pieces 32 s).length:Int).toNat:=by
 rw [JB,show((pieces 32 s).length:Int).toNat=(pieces 32 s).length by omega,List.take_length];rfl
theorem Qe {α:Type}{xs:List α}{d:α}{k:Int}(h0:0≤k)(h1:k < xs.length):xs.take (k+1).toNat=xs.take k.toNat ++ [xs.getD k.toNat d]:=by
 have hk:k.toNat < xs.length:=by omega
 rw [show(k+1).toNat=k.toNat+1 by omega,List.take_add_one,List.getD_eq_getElem?_getD,List.getElem?_eq_getElem hk]
 rfl
theorem X4 {s:Ao}{k:Int}(h0:0≤k)(h1:k < (pieces 32 s).length)(h:(!decide ((pieces 32 s).getD k.toNat [] = []))=true):JB s (k+1).toNat=JB s k.toNat ++ [low ((pieces 32 s).getD k.toNat [])]:=by
 unfold JB
 rw [Qe (d:= []) h0 h1,List.filter_append,List.map_append]
 congr 1
 rw [List.filter_cons_of_pos (p:=fun w:Ao=>!decide (w = [])) h];rfl
theorem YB {s:Ao}{k:Int}(h0:0≤k)(h1:k < (pieces 32 s).length)(h:(!decide ((pieces 32 s).getD k.toNat [] = []))=false):JB s (k+1).toNat=JB s k.toNat:=by
 unfold JB
 rw [Qe (d:= []) h0 h1,List.filter_append,List.map_append,List.filter_cons_of_neg (p:=fun w:Ao=>!decide (w = [])) (by rw [h];decide)]
 simp
/-! #### verbs -/
def pre (s p:Ao):Bool:=decide ((p.length:Int)≤(s.length:Int)) && decide (s.take p.length=p)
def J4 (w:Ao):Nat→Int × Int
 | 0=>(0,3)
 | n+1=>if pre (AG.Gj.getD (20 - n) []) w=true then(((20 - n:Nat):Int),0) else J4 w n
def verb (w:Ao):Int × Int:=if (!decide (w = []))=true then J4 w 21 else(0,3)
theorem Tb {w:Ao}{k:Int}(h0:0≤k)(h1:k < 21):J4 w (21 - k).toNat=if pre (AG.Gj.getD k.toNat []) w=true then(k,0) else J4 w (21 - (k+1)).toNat:=by
 rw [show(21 - k).toNat=(21 - (k+1)).toNat+1 by omega,J4,show 20 - (21 - (k+1)).toNat=k.toNat by omega,show((k.toNat:Nat):Int)=k by omega]
def bo:Vector Ao 21:=⟨AG.Gj.toArray,rfl⟩
theorem Ty:B3 A7 bo=AG.DE:=by kernel_rfl
/-! #### cutting and trimming -/
def NY (s p:Ao):Ao × Bool:=if (!pre s p)=true then(s,false) else(s.drop p.length,true)
def cut (c:UInt8)(s:Ao):Ao × Ao × Bool:=if decide (0≤Lib.indexByte s c)=true then(s.take (Lib.indexByte s c).toNat,s.drop (Lib.indexByte s c+1).toNat,true) else(s,[],false)
theorem cR {c:UInt8}{s:Ao}(h:0≤Lib.indexByte s c):Lib.indexByte s c < s.length:=by
 rcases LV c s with ⟨e,_⟩ | ⟨i,e,h1,_⟩<;>omega
theorem Nd (c:UInt8)(s:Ao):(cut c s).1.length≤s.length∧(cut c s).2.1.length≤s.length:=by
 unfold cut;split<;>simp;omega
def QZ (c:UInt8)(s:Ao):Ao:=s.dropWhile (·== c)
def R9 (c:UInt8)(s:Ao):Ao:=(s.reverse.dropWhile (·== c)).reverse
theorem ah {x c:UInt8}(h:(x.toNat:Int)=(c.toNat:Int)):x=c:=UInt8.toNat_inj.1 (by omega)
theorem eI {c:UInt8}{r:Ao}(h:(decide ((0:Int) < (r.length:Int)) && decide (((r.getD (0:Int).toNat 0).toNat:Int)=(c.toNat:Int)))=true):QZ c r=QZ c (r.drop 1):=by
 cases r with
 | nil=>simp at h
 | cons x r=>
  simp only [Bool.and_eq_true,decide_eq_true_eq] at h
  have:x=c:=ah h.2
  subst this
  simp [QZ]
theorem de {c:UInt8}{r:Ao}(h:(decide ((0:Int) < (r.length:Int)) && decide (((r.getD (0:Int).toNat 0).toNat:Int)=(c.toNat:Int)))=false):QZ c r=r:=by
 cases r with
 | nil=>rfl
 | cons x r=>
  have hx:(x == c)=false:=by
   rw [Bool.eq_false_iff]
   intro e
   have:x=c:=by simpa using e
   subst this
   simp at h
  simp [QZ,hx]
theorem eQ {c:UInt8}{r:Ao}(h:(decide ((0:Int) < (r.length:Int)) && decide (((r.getD ((r.length:Int) - 1).toNat 0).toNat:Int)=(c.toNat:Int)))=true):R9 c r=R9 c (r.take ((r.length:Int) - 1).toNat):=by
 simp only [Bool.and_eq_true,decide_eq_true_eq] at h
 have hne:r≠ []:=by rintro rfl;simp at h
 obtain⟨q,x,rfl⟩:∃ q x,r=q ++ [x]:=⟨r.dropLast,r.getLast hne,(List.dropLast_concat_getLast hne).symm⟩
 have e:(((q ++ [x]).length:Int) - 1).toNat=q.length:=by simp
 rw [e] at h ⊢
 have:x=c:=ah (by simpa [List.getD_eq_getElem?_getD] using h.2)
 subst this
 simp [R9]
theorem dO {c:UInt8}{r:Ao}(h:(decide ((0:Int) < (r.length:Int)) && decide (((r.getD ((r.length:Int) - 1).toNat 0).toNat:Int)=(c.toNat:Int)))=false):R9 c r=r:=by
 by_cases hne:r = []
 ·subst hne;rfl
 ·obtain⟨q,x,rfl⟩:∃ q x,r=q ++ [x]:=⟨r.dropLast,r.getLast hne,(List.dropLast_concat_getLast hne).symm⟩
  have e:(((q ++ [x]).length:Int) - 1).toNat=q.length:=by simp
  rw [e] at h
  have hx:(x == c)=false:=by
   rw [Bool.eq_false_iff]
   intro e
   have:x=c:=by simpa using e
   subst this
   simp [List.getD_eq_getElem?_getD] at h
  simp [R9,hx]
theorem Lh (c:UInt8)(s:Ao):(QZ c s).length≤s.length:=(List.dropWhile_sublist _).length_le
theorem Rc (c:UInt8)(s:Ao):(R9 c s).length≤s.length:=by
 have:=(List.dropWhile_sublist (l:=s.reverse) (·== c)).length_le
 simpa [R9] using this
/-! #### the rest of an order -/
def many (z:Int):Bool:=decide (z=7) || decide (z=8) || decide (z=9)
def PT (z:Int):Ao × Bool:=if decide (z=7)=true then([102,114,111,109],false) else if decide (z=9)=true then([105,110],true) else if decide (z=10)=true then([116,111],true) else([],false)
def N3 (s:Ao):Nat→Int × Bool
 | 0=>(0,false)
 | n+1=>if decide (AG.Gj.getD (5 - n) []=s)=true then(((5 - n:Nat):Int),true) else N3 s n
def dir (s:Ao):Int × Bool:=N3 s 6
theorem Ws {s:Ao}{k:Int}(h0:0≤k)(h1:k < 6):N3 s (6 - k).toNat=if decide (AG.Gj.getD k.toNat []=s)=true then(k,true) else N3 s (6 - (k+1)).toNat:=by
 rw [show(6 - k).toNat=(6 - (k+1)).toNat+1 by omega,N3,show 5 - (6 - (k+1)).toNat=k.toNat by omega,show((k.toNat:Nat):Int)=k by omega]
/-! #### nouns -/
def Pw (k rest:Ao):Int × Ao × Bool × Int:=
 match Lib.atoiAll k with
 | .ok n=>if (decide (n < 1) || decide (99 < n) || decide (((k.getD (0:Int).toNat 0).toNat:Int) < 49) || decide (57 < ((k.getD (0:Int).toNat 0).toNat:Int)) || decide (rest = []) || decide (0≤Lib.indexByte rest 46))=true then(0,[],false,1) else(n,rest,false,0)
 | _=>(0,[],false,1)
theorem Uy {k rest:Ao}{n:Int}(h:Lib.atoiAll k = .ok n):Pw k rest=if (decide (n < 1) || decide (99 < n) || decide (((k.getD (0:Int).toNat 0).toNat:Int) < 49) || decide (57 < ((k.getD (0:Int).toNat 0).toNat:Int)) || decide (rest = []) || decide (0≤Lib.indexByte rest 46))=true then(0,[],false,1) else(n,rest,false,0):=by
 unfold Pw;rw [h]
theorem Xf {k rest:Ao}(h:∀ j,Lib.atoiAll k≠ .ok j):Pw k rest=(0,[],false,1):=by
 unfold Pw
 split
 ·rename_i n e;exact absurd e (h n)
 ·rfl
theorem Sw {k:Ao}{n:Int}(h:Lib.atoiAll k = .ok n):0 < k.length:=by
 cases k with
 | nil=>simp [Lib.atoiAll] at h
 | cons x r=>simp
def EM (u:Ao):Int × Ao × Bool × Int:=
 if decide (u = [97,108,108])=true then(1,[],true,0)
 else if ((NY u [97,108,108,46]).2 && !decide ((NY u [97,108,108,46]).1 = []) && !decide (0≤Lib.indexByte (NY u [97,108,108,46]).1 46))=true then(1,(NY u [97,108,108,46]).1,true,0)
 else if (!(cut 46 u).2.2)=true then(if decide (u = [])=true then(0,[],false,1) else(1,u,false,0))
 else Pw (cut 46 u).1 (cut 46 u).2.1
/-! #### orders -/
theorem QD (u:Ao):∀ n,n≤21→0≤(J4 u n).1∧(J4 u n).1≤20
 | 0,_=>by simp [J4]
 | n+1,h=>by
  unfold J4
  split
  ·simp only;omega
  ·exact QD u n (by omega)
theorem YJ (u:Ao):0≤(verb u).1∧(verb u).1≤20:=by
 unfold verb;split
 ·exact QD u 21 (Nat.le_refl _)
 ·simp
def said (s:Ao):Ao:=QZ 32 (R9 32 (cut 32 (QZ 32 s)).2.1)
def o0 (v:Int):Order:={ (default:Order) with verb:=v }
def Q6 (o:Order)(j:Ao × Bool)(W:List Ao)(m:Nat):Order × Int:=
 if (decide ((m:Int)=0) && !j.2)=true then(o,0)
 else if (!decide ((m:Int)=1) || decide (j.1 = []))=true then(default,1)
 else({ o with second:=W.getD 0 [] },0)
def TP (o:Order)(j:Ao × Bool)(W:List Ao)(m:Nat):Order × Int:=
 if (decide (0 < (m:Int)) && !decide (j.1 = []) && decide (W.getD 0 []=j.1))=true then(if decide (((m - 1:Nat):Int)=0)=true then(default,1) else Q6 o j (W.drop 1) (m - 1))
 else Q6 o j W m
def Q2 (v:Int)(W:List Ao)(m:Nat):Order × Int:=
 if (!decide ((EM (W.getD 0 [])).2.2.2=0) || ((EM (W.getD 0 [])).2.2.1 && !many v))=true then(default,1)
 else TP ⟨v,(EM (W.getD 0 [])).1,(EM (W.getD 0 [])).2.2.1,(EM (W.getD 0 [])).2.1,[],[]⟩ (PT v) (W.drop 1) (m - 1)
def X3 (s:Ao)(v:Int)(W:List Ao)(m:Nat):Order × Int:=
 if decide (v=11)=true then(if decide (said s = [])=true then(default,1) else(⟨v,0,false,[],[],said s⟩,0))
 else if (decide (v≤6) || decide (19≤v))=true then(if decide (0 < (m:Int))=true then(default,1) else(o0 v,0))
 else if decide ((m:Int)=0)=true then(default,1)
 else if (decide (v=12) || decide (v=13))=true then
  (if (decide ((verb (W.getD 0 [])).2=0) && decide ((verb (W.getD 0 [])).1 < 6) && decide ((m:Int)=1))=true then(⟨v,1,false,AG.Gj.getD (verb (W.getD 0 [])).1.toNat [],[],[]⟩,0) else Q2 v W m)
 else Q2 v W m
def parse (s:Ao):Order × Int:=
 if decide (((words s).length:Int)=0)=true then(default,1)
 else if (!decide ((verb ((words s).getD 0 [])).2=0))=true then(default,(verb ((words s).getD 0 [])).2)
 else X3 s (verb ((words s).getD 0 [])).1 ((words s).drop 1) ((words s).length - 1)
theorem Zz (w:Ao):(low w).length=w.length:=by simp [low]
theorem YZ (s:Ao)(i:Nat):((words s).getD i []).length≤s.length:=by
 rw [List.getD_eq_getElem?_getD]
 cases h:(words s)[i]? with
 | none=>simp
 | some p=>
  have hm:=List.mem_of_getElem? h
  unfold words at hm
  obtain⟨q,hq,rfl⟩:=List.mem_map.1 hm
  rw [Option.getD_some,Zz]
  exact IU (List.mem_filter.1 hq).1
theorem Mf (s:Ao)(i j:Nat):(((words s).drop j).getD i []).length≤s.length:=by
 rw [List.getD_eq_getElem?_getD,List.getElem?_drop,← List.getD_eq_getElem?_getD];exact YZ s _
end Words
end Go.Ing
/- What people type: plain laws. -/
namespace Go.Ing
open Go
namespace Words
/-! #### a shorter beginning -/
/-! #### what is parsed is good -/
structure au (o:Order):Prop where
 v0:0≤o.verb
 v1:o.verb≤20
 n0:0≤o.nth
 n1:o.nth≤99
 al:o.Bm=true→o.verb=7∨o.verb=8∨o.verb=9
 tx:o.text≠ []↔o.verb=11
 s1:o.second = []∨o.verb=7∨o.verb=9∨o.verb=10
 s2:o.second≠ []∨(o.verb≠9∧o.verb≠10)
def Iw (r:Order × Int):Prop:=(r.2=0→au r.1)∧(r.2≠0→r.1=default)
theorem Iw.bad (e:Int)(he:e≠0):Iw (default,e):=⟨fun h=>absurd h he,fun _=>rfl⟩
theorem Iw.ok {o:Order}(h:au o):Iw (o,0):=⟨fun _=>h,fun h=>absurd rfl h⟩
theorem WJ (k r:Ao):(Pw k r).2.2.2=0→0≤(Pw k r).1∧(Pw k r).1≤99:=by
 unfold Pw
 split
 ·split
  ·intro h;simp at h
  ·rename_i c
   intro _
   simp only [Bool.or_eq_true,decide_eq_true_eq,not_or] at c
   show 0≤_∧_≤99
   exact⟨by simp only;omega,by simp only;omega⟩
 ·intro h;simp at h
theorem VW (u:Ao):(EM u).2.2.2=0→0≤(EM u).1∧(EM u).1≤99:=by
 unfold EM
 split
 ·intro _;simp
 ·split
  ·intro _;simp
  ·split
   ·split
    ·intro h;simp at h
    ·intro _;simp
   ·exact WJ _ _
/-! #### spaces ahead and behind -/
def Cq:Ao→Ao
 | []=> []
 | x :: r=>if x=32 then r else Cq r
end Words
end Go.Ing
/- Verbs and nouns as the document has them. -/
namespace Go.Ing
open Go
namespace Words
/-! #### nouns -/
end Words
end Go.Ing
/- Orders as the document has them. -/
namespace Go.Ing
open Go
namespace Words
/-! #### what is said -/
/-! #### orders -/
def alone (v:Int):Bool:=decide (v < 7) || decide (18 < v)
end Words
end Go.Ing
/- The program's data, in Lean, and their parts. -/
namespace Go.Ing
open Go
structure Ad where
 w:AG
 b:Int
 out:Hd
instance:Inhabited Ad:=⟨⟨default,0,⟨none,0,0⟩⟩⟩
def Ad.enc (x:Ad):List Value:=AG.enc x.w++Aw x.b++Ek x.out
theorem Ad.fl:Flat Ad.enc 167:=⟨fun x=>by simp [Ad.enc,AG.fl.len,Ph.len,B1.len],fun x v hv=>by
 simp only [Ad.enc,List.mem_append] at hv
 rcases hv with (h | h) | h
 ·exact AG.fl.one _ v h
 ·exact B1.one _ v h
 ·exact Ph.one _ v h⟩
theorem Ad.l0:AU Ad.enc (AG.enc) 0 165 (fun x=>x.w) (fun x y=>{ x with w:=y }):=
 AU.El AG.fl (fun _=> []) (fun x=>Aw x.b++Ek x.out) (fun _=>rfl) (fun x=>by simp [Ad.enc]) (fun x y=>by simp [Ad.enc])
theorem Ad.l1:AU Ad.enc (Aw) 165 1 (fun x=>x.b) (fun x y=>{ x with b:=y }):=
 AU.El B1 (fun x=>AG.enc x.w) (fun x=>Ek x.out) (fun x=>by simp [AG.fl.len]) (fun x=>by simp [Ad.enc]) (fun x y=>by simp [Ad.enc])
theorem Ad.l2:AU Ad.enc (Ek) 166 1 (fun x=>x.out) (fun x y=>{ x with out:=y }):=
 AU.El Ph (fun x=>AG.enc x.w++Aw x.b) (fun _=> []) (fun x=>by simp [AG.fl.len,B1.len]) (fun x=>by simp [Ad.enc]) (fun x y=>by simp [Ad.enc])
end Go.Ing
/- What comes of what beings do: plain functions. -/
namespace Go.Ing
open Go
structure AE where
 w:AG
 b:Int
 out:List Event
namespace AE
def F2 (k:Int):Event:=⟨k,0,0,-1,0,0,[],[],[],[],default⟩
def me (T:AE):Aj:=T.w.AN.at T.b
def Xm (T:AE)(e:Event):Event:={ e with DK:=T.b,Hb:=T.me.name,room:=T.me.room }
def Da (T:AE)(e:Event):Event:=if decide (0≤e.other)=true then { T.Xm e with EV:=(T.w.AN.at e.other).name } else T.Xm e
def BP (T:AE)(e:Event):AE:={ T with out:=T.out ++ [T.w.Hz (T.Da e) 6] }
def kind (T:AE)(k:Int):AE:=T.BP (F2 k)
def BJ (T:AE)(k i:Int):AE:=T.BP { F2 k with BJ:=(T.w.AO.at i).name }
def tell (T:AE)(s:Ao):AE:=T.BP { F2 16 with text:=s }
@[simp] theorem cX (T:AE) (e:Event):(T.BP e).w=T.w:=rfl
@[simp] theorem cW (T:AE) (e:Event):(T.BP e).b=T.b:=rfl
@[simp] theorem Cg (T:AE) (e:Event):(T.BP e).out.length=T.out.length+1:=by simp [BP]
@[simp] theorem ff (T:AE) (s:Ao):(T.tell s).w=T.w:=rfl
@[simp] theorem fT (T:AE) (s:Ao):(T.tell s).b=T.b:=rfl
@[simp] theorem CG (T:AE) (s:Ao):(T.tell s).out.length=T.out.length+1:=by simp [tell]
/-! #### lists -/
def HB (w:AG):Ao→List Int→Ao
 | s,[]=>s
 | s,i :: r=>HB w (if (w.AO.at i).on=true then s ++ [32]++(w.AO.at i).name ++ [42] else s ++ [32]++(w.AO.at i).name) r
def ND (w:AG)(s:Ao)(l:List Int):Ao:=if decide ((l.length:Int)=0)=true then HB w s l ++ [32,110,111,116,104,105,110,103] else HB w s l
def list (T:AE)(s:Ao)(l:List Int):AE:=T.tell (ND T.w s l ++ [46])
/-! #### what is about -/
def Hf (r:Room):Nat→Ao
 | 0=> [87,97,121,115,58]
 | d+1=>if decide (r.CP.at (d:Int)=0)=true then Hf r d else if r.shut.at (d:Int)=true then Hf r d++([32]++AG.called d) ++ [42] else Hf r d++([32]++AG.called d)
def Fe (T:AE):Nat→AE
 | 0=>T
 | k+1=>if (!decide ((k:Int)=T.b) && T.w.I5 T.b k)=true then(Fe T k).tell ((T.w.AN.at k).name ++ [32,105,115,32,104,101,114,101,46]) else Fe T k
def Lw:Ao:= [73,116,32,105,115,32,100,97,114,107,46]
def Jv (T:AE):AE:=
 ((T.tell ([84,104,101,32]++(T.w.BS.at T.me.room).name ++ [46])).tell (Hf (T.w.BS.at T.me.room) 6))
def EE (T:AE):AE:=if decide (0 < ((T.w.has 0 T.me.room).length:Int))=true then T.Jv.list [72,101,114,101,32,105,115] (T.w.has 0 T.me.room) else T.Jv
def look (T:AE):AE:=if (!T.w.Hr T.me.room)=true then T.tell Lw else Fe T.EE 6
def UC:Ao:= [89,111,117,32,99,97,110,110,111,116,32,103,111,32,116,104,101,114,101,46]
def Q8:Ao:= [73,116,32,105,115,32,115,104,117,116,46]
def Fu (T:AE)(r:Int):AE:={ T with w:={ T.w with AN:=T.w.AN.put T.b { T.me with room:=r,B2:=0 } } }
def walk (T:AE)(d:Int):AE:=
 if decide ((T.w.BS.at T.me.room).CP.at d=0)=true then T.tell UC
 else if (T.w.BS.at T.me.room).shut.at d=true then T.tell Q8
 else(((T.BP { F2 1 with dir:=d }).Fu ((T.w.BS.at T.me.room).CP.at d - 1)).BP { F2 2 with dir:=AG.opposite d }).look
/-! #### things that are meant -/
def JY (w:AG)(name:Ao)(l:List Int):List Int:=l.filter fun i=>decide (name = []) || decide ((w.AO.at i).name=name)
def BQ (w:AG)(l:List Int)(nth:Int)(name:Ao)(all:Bool):List Int:=
 if all=true then JY w name l
 else if (decide (nth < 1) || decide (((JY w name l).length:Int) < nth))=true then []
 else((JY w name l).take nth.toNat).drop (nth - 1).toNat
def seen (T:AE):List Int:=if (!T.w.Hr T.me.room)=true then [] else T.w.has 0 T.me.room
def own (T:AE):List Int:=T.w.has 1 T.b
def one (T:AE)(u:Ao):Int × Bool:=
 if (!decide ((Words.EM u).2.2.2=0) || (Words.EM u).2.2.1)=true then(0,false)
 else if decide (((BQ T.w (T.own++T.seen) (Words.EM u).1 (Words.EM u).2.1 false).length:Int)=0)=true then(0,false)
 else((BQ T.w (T.own++T.seen) (Words.EM u).1 (Words.EM u).2.1 false).getD 0 0,true)
def JI:Ao:= [84,104,101,114,101,32,105,115,32,110,111,32,115,117,99,104,32,116,104,105,110,103,46]
def Mi:Ao:= [89,111,117,32,104,97,118,101,32,110,111,32,115,117,99,104,32,116,104,105,110,103,46]
def Mb:Ao:= [84,104,101,114,101,32,105,115,32,110,111,98,111,100,121,32,111,102,32,116,104,97,116,32,110,97,109,101,46]
def bM:Ao:= [89,111,117,32,119,101,97,114,32,105,116,46]
def Yb:Ao:= [84,104,97,116,32,99,97,110,110,111,116,32,98,101,46]
def Zk:Ao:= [73,116,32,105,115,32,115,111,46]
def PG:Ao:= [89,111,117,32,102,105,103,104,116,46]
def box (T:AE)(u:Ao):AE × Int × Bool:=
 if (!(T.one u).2 || !decide ((T.w.AO.at (T.one u).1).kind=3))=true then(T.tell JI,0,false)
 else if (!(T.w.AO.at (T.one u).1).on)=true then(T.tell Q8,0,false)
 else(T,(T.one u).1,true)
def DA (T:AE)(i:Int)(t:Am):AE:={ T with w:={ T.w with AO:=T.w.AO.put i t } }
def place (T:AE)(i CZ at_:Int):AE:=T.DA i { T.w.AO.at i with CZ:=CZ,at_:=at_ }
def DG (T:AE):List Int→AE
 | []=>T
 | i :: r=>DG ((T.place i 1 T.b).BJ 3 i) r
def Kg (T:AE)(l:List Int)(o:Order):AE:=DG (if decide (((BQ T.w l o.nth o.name o.Bm).length:Int)=0)=true then T.tell JI else T) (BQ T.w l o.nth o.name o.Bm)
def get (T:AE)(o:Order):AE:=
 if (!decide (o.second = []))=true then
  (if (!(T.box o.second).2.2)=true then(T.box o.second).1 else(T.box o.second).1.Kg ((T.box o.second).1.w.has 2 (T.box o.second).2.1) o)
 else T.Kg T.seen o
def Ir (T:AE)(name:Ao):Nat→Int→Option Int
 | 0,_=>none
 | r+1,n=>if (decide (((6 - (r+1):Nat):Int)=T.b) || !decide ((T.w.AN.at ((6 - (r+1):Nat):Int)).name=name) || !T.w.I5 T.b ((6 - (r+1):Nat):Int))=true then Ir T name r n else if decide (n - 1=0)=true then some ((6 - (r+1):Nat):Int) else Ir T name r (n - 1)
def A6 (T:AE)(u:Ao):AE × Int × Bool:=
  if (decide ((Words.EM u).2.2.2=0) && !(Words.EM u).2.2.1)=true then
    (match Ir T (Words.EM u).2.1 6 (Words.EM u).1 with
     | some k=>(T,k,true)
     | none=>(T.tell Mb,0,false))
  else(T.tell Mb,0,false)
def Cs (T:AE)(v to i:Int):AE:=
 if (decide ((T.w.AO.at i).kind=2) && (T.w.AO.at i).on)=true then T.tell bM
 else if decide (v=8)=true then(T.place i 0 T.me.room).BJ 4 i
 else if decide (v=10)=true then(T.place i 1 to).BP { F2 6 with other:=to,BJ:=(T.w.AO.at i).name }
 else if T.w.TQ to i=true then T.tell Yb
 else(T.place i 2 to).BP { F2 5 with BJ:=(T.w.AO.at i).name,text:=(T.w.AO.at to).name }
def Es (T:AE)(v to:Int):List Int→AE
 | []=>T
 | i :: r=>Es (T.Cs v to i) v to r
def Sa (T:AE)(to:Int)(o:Order):AE:=Es (if decide (((BQ T.w T.own o.nth o.name o.Bm).length:Int)=0)=true then T.tell Mi else T) o.verb to (BQ T.w T.own o.nth o.name o.Bm)
def Cu (T:AE)(o:Order):AE × Int × Bool:=if decide (o.verb=9)=true then T.box o.second else if decide (o.verb=10)=true then T.A6 o.second else(T,0,true)
def FH (T:AE)(o:Order):AE:=if (!(T.Cu o).2.2)=true then(T.Cu o).1 else(T.Cu o).1.Sa (T.Cu o).2.1 o
def Cj (T:AE)(b f:Int):AE:={ T with w:={ T.w with AN:=T.w.AN.put b { T.w.AN.at b with B2:=f } } }
def E7 (T:AE)(o:Order):AE:=
 if (!(T.A6 (if (!decide (o.nth=1) || o.Bm)=true then [] else o.name)).2.2)=true then(T.A6 (if (!decide (o.nth=1) || o.Bm)=true then [] else o.name)).1
 else
  let k:=(T.A6 (if (!decide (o.nth=1) || o.Bm)=true then [] else o.name)).2.1
  let T1:=(T.A6 (if (!decide (o.nth=1) || o.Bm)=true then [] else o.name)).1.Cj (T.A6 (if (!decide (o.nth=1) || o.Bm)=true then [] else o.name)).1.b (k+1)
  (if decide ((T1.w.AN.at k).B2=0)=true then T1.Cj k ((T.A6 (if (!decide (o.nth=1) || o.Bm)=true then [] else o.name)).1.b+1) else T1).tell PG
/-! #### what is set -/
def before (T:AE)(first:Bool)(i:Int)(on:Bool)(ev:Int):AE:=
 if first=true then(T.DA i { T.w.AO.at i with on:=on }).BJ ev i
 else(T.BJ ev i).DA i { T.w.AO.at i with on:=on }
def C7 (T:AE)(r d:Int)(v:Bool):AE:={ T with w:={ T.w with BS:=T.w.BS.put r { T.w.BS.at r with shut:=(T.w.BS.at r).shut.put d v } } }
def QS:Ao:= [100,111,111,114]
def Gi (T:AE)(d:Int)(on:Bool)(ev:Int):AE:=
 if decide ((T.w.BS.at T.me.room).CP.at d - 1 < 0)=true then T.tell JI
 else if ((T.w.BS.at T.me.room).shut.at d != on)=true then T.tell Zk
 else
  let to:=(T.w.BS.at T.me.room).CP.at d - 1
  let T1:=T.C7 T.me.room d (!on)
  (if decide ((T1.w.BS.at to).CP.at (AG.opposite d)=T.me.room+1)=true then T1.C7 to (AG.opposite d) (!on) else T1).BP { F2 ev with BJ:=QS }
def Ho (v:Int):Bool:=decide (v=12) || decide (v=14) || decide (v=16)
def setKind (v:Int):Int:=if (decide (v=14) || decide (v=15))=true then 1 else if (decide (v=16) || decide (v=17))=true then 2 else 3
def Og (v:Int):Int:=v - 4
def ET (T:AE)(o:Order):List Int:=BQ T.w (if decide (setKind o.verb=3)=true then T.own++T.seen else T.own) (max o.nth 1) o.name false
def set (T:AE)(o:Order):AE:=
 if ((Words.dir o.name).2 && decide (setKind o.verb=3))=true then T.Gi (Words.dir o.name).1 (Ho o.verb) (Og o.verb)
 else if (decide (((T.ET o).length:Int)=0) || !decide ((T.w.AO.at ((T.ET o).getD 0 0)).kind=setKind o.verb))=true then T.tell JI
 else if ((T.w.AO.at ((T.ET o).getD 0 0)).on == Ho o.verb)=true then T.tell Zk
 else if Ho o.verb=true then T.before (!decide (setKind o.verb=2)) ((T.ET o).getD 0 0) (Ho o.verb) (Og o.verb)
 else T.before (decide (setKind o.verb=2)) ((T.ET o).getD 0 0) (Ho o.verb) (Og o.verb)
/-! #### who is gone -/
def E3 (T:AE)(i:Int):AE:=T.DA i { T.w.AO.at i with on:=if decide ((T.w.AO.at i).kind=2)=true then false else(T.w.AO.at i).on,CZ:=0,at_:=T.me.room }
def Cd (T:AE):List Int→AE
 | []=>T
 | i :: r=>Cd (T.E3 i) r
def DY (T:AE):Nat→AE
 | 0=>T
 | k+1=>if decide (((DY T k).w.AN.at (k:Int)).B2=T.b+1)=true then(DY T k).Cj k 0 else DY T k
def FD (T:AE):AE:=(DY (T.Cd T.own) 6).Cj T.b 0
def DW (T:AE)(b:Int)(x:Aj):AE:={ T with w:={ T.w with AN:=T.w.AN.put b x } }
def GG (T:AE):AE:=(T.kind 18).FD.DW T.b default
/-! #### what a being does -/
def act (T:AE)(o:Order):AE:=
 if decide (o.verb < 6)=true then T.walk o.verb
 else if decide (o.verb=6)=true then T.look
 else if decide (o.verb=19)=true then T.list [89,111,117,32,104,97,118,101] (T.w.has 1 T.b)
 else if decide (o.verb=11)=true then T.BP { F2 7 with text:=o.text }
 else if decide (o.verb=20)=true then T.GG
 else if decide (o.verb=18)=true then T.E7 o
 else if decide (o.verb=7)=true then T.get o
 else if (decide (o.verb=8) || decide (o.verb=9) || decide (o.verb=10))=true then T.FH o
 else T.set o
def EF (X:AG)(b:Int)(o:Order):AG × List Event × Int:=
 if (!X.Bh)=true then(X,[],2)
 else if (decide (b < 0) || decide (6≤b) || !(X.AN.at b).here)=true then(X,[],3)
 else if (decide (o.verb < 0) || decide (20 < o.verb))=true then(X,[],5)
 else((AE.act ⟨X,b,[]⟩ o).w,(AE.act ⟨X,b,[]⟩ o).out,0)
end AE
end Go.Ing
/- Engine: the program's own variables, beside what is handed on. -/
namespace Go.Ing
open Go
section
variable {w0 w:World} {M:List Nat} {L A K:List Ac} {g:Nat} {vs:List Value}
theorem GV.lt (h:GV g vs w):g < w.heap.size:=by
 obtain⟨t,fz,e⟩:=h
 rcases Nat.lt_or_ge g w.heap.size with h' | h'
 ·exact h'
 ·rw [Array.getElem?_eq_none h'] at e;cases e
theorem GV.stM (h:GV g vs w0)(hM:g ∉ M)(hS:St w0 M w L):GV g vs w:=by
 have hg:=h.lt
 obtain⟨t,fz,e⟩:=h
 exact⟨t,fz,(hS.IX g hg hM).trans e⟩
theorem Ot (hg:g < w0.heap.size)(hM:g ∉ M)(hS:St w0 M w L)(hp:Ay L A K):g ∉ Cc A:=by
 intro hf
 obtain⟨r,hr,hb⟩:=List.mem_flatMap.1 hf
 have hm:r∈L:=hp.perm.symm.subset (List.mem_append_left _ hr)
 exact hM ((hS.CT r hm g hb).2 hg)
theorem GV.pull (h:GV g vs w0)(hM:g ∉ M)(hS:St w0 M w L)(hp:Ay L A K):GV g vs w∧g ∉ Cc A:=⟨h.stM hM hS,Ot h.lt hM hS hp⟩
theorem G0.stM (h:G0 g w0)(hM:g ∉ M)(hS:St w0 M w L):G0 g w:=by
 obtain⟨tp,p,h⟩:=h;exact⟨tp,p,h.stM hM hS⟩
theorem G0.pull (h:G0 g w0)(hM:g ∉ M)(hS:St w0 M w L)(hp:Ay L A K):G0 g w∧g ∉ Cc A:=by
 obtain⟨tp,p,h⟩:=h;exact⟨⟨tp,p,h.stM hM hS⟩,Ot h.lt hM hS hp⟩
end
section
variable {P:Program} {n:Nat} {w0:World} {M:List Nat} {Q:Exit→Go.Act→World→Prop} {F F':List (Nat × Value)} {L L':List Ac} {ops:Array Oper} {rest:List Oper}
theorem Te {α:Type}{e:α→List Value}{d T U E sz:Nat}{x y z:Operand}{pos:String}{Cq:Array Edge}{h:Hd}{xs:List α}{kd kz:IntKind}{i j:Int}{Lf:Ac→List Ac}(fe:Flat e sz)(hd:Nat.blt d n=true)(hT:P.underlying T=some (.slice E))(hs:Sz P E sz)(hx:ev F x=some h.val)(hy:ev F y=some (.int kd i))(hz:ev F z=some (.int kz j))(h0:0≤i)(h1:i≤j)(h2:j≤(h.len:Int))(hU:∀ r,LN L (Ac.own h E sz (xs.flatMap e)) r (Lf r))
  (k:GL P n w0 M ops Q rest ((d,(h.cut i.toNat j.toNat sz).val) :: F) (Lf (Ac.own (h.cut i.toNat j.toNat sz) E sz (((xs.take j.toNat).drop i.toNat).flatMap e)))):GL P n w0 M ops Q (⟨some d, .slice T x (some y) (some z) none,U,pos,Cq,none⟩ :: rest) F L:=by
 refine F3 (R:=fun v L'=>v=(h.cut i.toNat j.toNat sz).val∧L'=Lf (Ac.own (h.cut i.toNat j.toNat sz) E sz (((xs.take j.toNat).drop i.toNat).flatMap e))) hd ?_ (fun v L' ⟨e1,e2⟩=>by subst e1;subst e2;exact k)
 intro a w hF hS
 have hok:=hS.ok _ (hU ⟨[],fun _=>True,fun _ _ _ _=>trivial⟩).mem
 have hr:Rd w h E sz (xs.flatMap e):=Kn.own (M:=M) (hU ⟨[],fun _=>True,fun _ _ _ _=>trivial⟩).mem w hS
 have hcap:h.len≤h.cap:=by
  rcases hok with ⟨rfl,_⟩ | ⟨b,o,C,fz,e1,e2,e3,e4,e5,e6,_⟩
  ·exact Nat.le_refl _
  ·exact e6
 have hil:i.toNat≤j.toNat:=by omega
 have hjl:j.toNat≤h.len:=by omega
 have hlc:h.len * sz≤h.cap * sz:=Nat.mul_le_mul_right sz hcap
 have hjc:j.toNat * sz≤h.len * sz:=Nat.mul_le_mul_right sz hjl
 have hll:i.toNat * sz≤j.toNat * sz:=Nat.mul_le_mul_right sz hil
 have hcs:((xs.flatMap e).take (j.toNat * sz)).drop (i.toNat * sz)=((xs.take j.toNat).drop i.toNat).flatMap e:=Lk fe xs
 have hlen:(((xs.take j.toNat).drop i.toNat).flatMap e).length=j.toNat * sz - i.toNat * sz:=by
  rw [← hcs,List.length_drop,List.length_take,← hr.1,Nat.min_eq_left hjc]
 refine⟨_,_,w,⟨rfl,rfl⟩,?_,?_⟩
 ·have hs':=hs w
  have hjcap:j≤(h.cap:Int):=by omega
  simp only [execOp,hF.ev hx,Option.map_some,Option.map_none,hF.ev hy,hF.ev hz,Hd.val,Instr.sliceAt,Instr.slice,underlying]
  simp [hT,Instr.sliceBounds,Instr.sliceBound,asIntOf,h1,h0,hs',Hd.cut,hjcap,show 0≤j by omega,show i≤max j 0 by omega]
 ·refine hS.EW (hU _) rfl rfl rfl (Nat.le_refl _) (fun _ _ _=>rfl) ?_ ?_
  ·rcases hok with ⟨rfl,hn⟩ | ⟨b,o,C,fz,e1,e2,e3,e4,e5,e6,e7,e8⟩
   ·have hj0:j.toNat=0:=by simp at hjl;omega
    have hi0:i.toNat=0:=by omega
    refine .inl ⟨by simp [Hd.cut,hj0,hi0],?_⟩
    rw [List.eq_nil_of_length_eq_zero (l:=((xs.take j.toNat).drop i.toNat).flatMap e) (by rw [hlen,hj0];simp)]
   ·by_cases hci:h.cap=i.toNat
    ·have hji:j.toNat=i.toNat:=by omega
     refine .inr ⟨b,o,C,fz,by simp only [Hd.cut];rw [if_pos hci];exact e1,e2,e3,e4,?_,?_,?_,?_⟩
     ·simp only [Hd.cut];rw [hci,Nat.sub_self,Nat.zero_mul];omega
     ·simp only [Hd.cut];omega
     ·simp only [Hd.cut];rw [hlen,Nat.sub_mul]
     ·have hl0:(((xs.take j.toNat).drop i.toNat).flatMap e).length=0:=by rw [hlen,hji];omega
      rw [List.eq_nil_of_length_eq_zero hl0];simp
    ·refine .inr ⟨b,o+i.toNat * sz,C,fz,by simp only [Hd.cut];rw [if_neg hci,e1];simp [Ec],e2,e3,fun j hj h=>e4 j (by omega) h,?_,?_,?_,?_⟩
     ·simp only [Hd.cut];rw [Nat.sub_mul];omega
     ·simp only [Hd.cut];omega
     ·simp only [Hd.cut];rw [hlen,Nat.sub_mul]
     ·have hX:xs.flatMap e=(C.drop o).take (h.len * sz):=by rw [hr.1];exact e8.symm
      have hY:((xs.take j.toNat).drop i.toNat).flatMap e=((C.drop o).take (j.toNat * sz)).drop (i.toNat * sz):=by rw [← hcs,hX,List.take_take,Nat.min_eq_left hjc]
      rw [hlen,hY,List.drop_take,List.drop_drop]
  ·intro b hb
   have hb':b∈(Ac.own h E sz (xs.flatMap e)).CT:=by
    revert hb
    simp only [Ac.own,Hd.cut]
    cases ha:h.a with
    | none=>by_cases hc:h.cap=i.toNat<;>simp [hc]
    | some a=>
     by_cases hc:h.cap=i.toNat
     ·simp [hc]
     ·simp only [hc,if_false,Option.map_some]
      unfold Addr.add
      split<;>simp
   exact⟨(hS.CT _ (hU ⟨[],fun _=>True,fun _ _ _ _=>trivial⟩).mem b hb').1, .inl hb'⟩
theorem LN.dy {L L':List Ac}{r r':Ac}(h:LN L r r' L')(e:r=r'):L'=L:=by
 induction h with
 | head=>subst e;rfl
 | tail _ ih=>rw [ih e]
theorem GF {cd:Code}{b T:Nat}{c c':List Value}{Lf:Ac→List Ac}(hU:∀ r,LN L (Ac.box b T c) r (Lf r))(e:c=c')(k:G P n w0 M cd Q F (Lf (Ac.box b T c'))):G P n w0 M cd Q F L:=by
 subst e
 rwa [(hU (Ac.box b T c)).dy rfl] at k
theorem Xa {Pr:Prop}{cd:Code}(hp:∀ w,St w0 M w L→Pr)(k:Pr→G P n w0 M cd Q F L):G P n w0 M cd Q F L:=fun a w hF hS=>k (hp w hS) a w hF hS
end
section
variable {p:Prop} [Decidable p] {a b:Bool} {m n:Int}
theorem gL:((a || b)=true)=(a=true∨b=true):=Bool.or_eq_true a b
theorem gH:((a && b)=true)=(a=true∧b=true):=Bool.and_eq_true a b
theorem gK:((a || b)=false)=(a=false∧b=false):=propext Bool.or_eq_false_iff
theorem gT:((a && b)=false)=(a=false∨b=false):=propext Bool.and_eq_false_iff
end
end Go.Ing
/- What comes of what beings do: plain laws. -/
namespace Go.Ing
open Go
structure AG.DL (w:AG):Prop where
 th:∀ i,(w.AO.at i).name.length≤140737488351232
 be:∀ i,(w.AN.at i).name.length≤140737488351232
 ro:∀ i,(w.BS.at i).name.length≤140737488351232
namespace AE
theorem Nc {l:List Int}{k:Int}(h0:0≤k)(h1:k < l.length):l.drop k.toNat=l.getD k.toNat 0 :: l.drop (k+1).toNat:=by
 have hk:k.toNat < l.length:=by omega
 rw [List.drop_eq_getElem_cons hk,show(k+1).toNat=k.toNat+1 by omega,List.getD_eq_getElem?_getD,List.getElem?_eq_getElem hk]
 rfl
theorem Zs {w:AG}{s:Ao}{l:List Int}{k:Int}(h0:0≤k)(h1:k < l.length)(h:(w.AO.at (l.getD k.toNat 0)).on=true):HB w s (l.drop k.toNat)=HB w (s++([32]++(w.AO.at (l.getD k.toNat 0)).name) ++ [42]) (l.drop (k+1).toNat):=by
 rw [Nc h0 h1,HB,if_pos h];simp
theorem aI {w:AG}{s:Ao}{l:List Int}{k:Int}(h0:0≤k)(h1:k < l.length)(h:(w.AO.at (l.getD k.toNat 0)).on=false):HB w s (l.drop k.toNat)=HB w (s++([32]++(w.AO.at (l.getD k.toNat 0)).name)) (l.drop (k+1).toNat):=by
 rw [Nc h0 h1,HB,if_neg (by rw [h];decide)];simp
theorem Td {r:Room}{k:Int}(h:0≤k):Hf r (k+1).toNat=if decide (r.CP.at k=0)=true then Hf r k.toNat else if r.shut.at k=true then Hf r k.toNat++([32]++AG.called k) ++ [42] else Hf r k.toNat++([32]++AG.called k):=by
 obtain⟨m,rfl⟩:=Int.eq_ofNat_of_zero_le h
 rfl
theorem MU (r:Room):∀ k:Nat,(Hf r k).length≤5+k * 22
 | 0=>by simp [Hf]
 | k+1=>by
  have ih:=MU r k
  have hc:=AG.JL (k:Int)
  unfold Hf
  repeat' split
  all_goals (try simp only [List.length_append,List.length_cons,List.length_nil])
  all_goals omega
theorem KS (T:AE):∀ k:Nat,(T.Fe k).w=T.w∧(T.Fe k).b=T.b∧(T.Fe k).out.length≤T.out.length+k
 | 0=>⟨rfl,rfl,by simp [Fe]⟩
 | k+1=>by
  obtain⟨h1,h2,h3⟩:=KS T k
  unfold Fe
  split
  ·exact⟨by simpa using h1,by simpa using h2,by rw [CG];omega⟩
  ·exact⟨h1,h2,by omega⟩
theorem JJ {T:AE}{k:Int}(h:0≤k):T.Fe (k+1).toNat=if (!decide (k=T.b) && T.w.I5 T.b k)=true then(T.Fe k.toNat).tell ((T.w.AN.at k).name ++ [32,105,115,32,104,101,114,101,46]) else T.Fe k.toNat:=by
 obtain⟨m,rfl⟩:=Int.eq_ofNat_of_zero_le h
 rfl
@[simp] theorem Hq (T:AE) (s:Ao) (l:List Int):(T.list s l).w=T.w∧(T.list s l).b=T.b∧(T.list s l).out.length=T.out.length+1:=⟨rfl,rfl,by simp [list]⟩
theorem UX (T:AE):T.Jv.w=T.w∧T.Jv.b=T.b∧T.Jv.out.length=T.out.length+2:=⟨rfl,rfl,by simp [Jv]⟩
theorem RR (T:AE):T.EE.w=T.w∧T.EE.b=T.b∧T.EE.out.length≤T.out.length+3:=by
 have h:=T.UX
 unfold EE
 split
 ·have h2:=T.Jv.Hq [72,101,114,101,32,105,115] (T.w.has 0 T.me.room)
  exact⟨h2.1.trans h.1,h2.2.1.trans h.2.1,by omega⟩
 ·exact⟨h.1,h.2.1,by omega⟩
theorem KF (T:AE):T.look.w=T.w∧T.look.b=T.b∧T.look.out.length≤T.out.length+9:=by
 unfold look
 split
 ·exact⟨rfl,rfl,by rw [CG];omega⟩
 ·have h:=T.RR
  have h2:=T.EE.KS 6
  exact⟨h2.1.trans h.1,h2.2.1.trans h.2.1,by omega⟩
end AE
theorem Bg.Ez {xs:List Int}{i:Nat}(h:i < xs.length):xs.getD i 0∈xs:=by
 rw [List.getD_eq_getElem?_getD,List.getElem?_eq_getElem h]
 exact List.getElem_mem h
theorem AG.US {w:AG}{r:Int}(h:(!w.Hr r)=false):0≤r∧r < 6:=by
 unfold AG.Hr at h
 split at h
 ·simp at h
 ·rename_i c;simp at c;omega
theorem AG.Fp {w:AG}{CZ at_ i:Int}(h:i∈w.has CZ at_):0≤i∧i < 9:=by
 unfold AG.has at h
 have:=(List.mem_filter.1 h).1
 obtain⟨n,hn,rfl⟩:=List.mem_map.1 this
 have:=List.mem_range.1 hn
 exact⟨by simp,by show((n:Nat):Int) < 9;omega⟩
theorem AG.IN (w:AG)(CZ at_:Int):(w.has CZ at_).length≤9:=by
 rw [AG.UQ];exact AG.SM w CZ at_ _
end Go.Ing
/- What beings do keeps the land good: plain laws. -/
namespace Go.Ing
open Go
theorem Vector.Ep {α:Type}[Inhabited α]{n:Nat}(v:Vector α n)(k:Int)(x y:α):(v.put k x).put k y=v.put k y:=by
 unfold Vector.put
 apply Vector.ext
 intro i hi
 simp only [Vector.getElem_setIfInBounds]
 split<;>rfl
theorem Vector.CE {α:Type}[Inhabited α]{n:Nat}{v:Vector α n}{k:Int}{x:α}(h0:0≤k)(h1:k < n):(v.put k x).at k=x:=by rw [IY v k k x h0 h1 h0,if_pos rfl]
theorem Vector.Ee {α:Type}[Inhabited α]{n:Nat}{v:Vector α n}{k i:Int}{x:α}(h0:0≤k)(h1:k < n)(hi:0≤i)(hn:i≠k):(v.put k x).at i=v.at i:=by rw [IY v k i x h0 h1 hi,if_neg hn]
namespace AG
variable {X Y:AG}
theorem Out.path:∀ {m:Nat} {i:Int},0≤i→i < 9→Out X m i→∃ s:List Int,Sq s+s.length=9∧s.length=m+1∧∀ j∈s,∃ k,k≤m∧Out X k j
 | 0,i,h0,h9,h=>⟨[] ++ [i],by have:=Pd (s:= []) (i:=i) (by simp) h0 h9;simp only [List.length_append,List.length_cons,List.length_nil];have:Sq []=9:=rfl;omega,rfl,fun j hj=>by
   have:j=i:=by simpa using hj
   subst this;exact⟨0,Nat.le_refl _,h⟩⟩
 | m+1,i,h0,h9,h=>by
  obtain⟨s,h1,h2,h3⟩:=Out.path h.2.1 h.2.2.1 h.2.2.2
  have hn:i ∉ s:=fun hm=>by
   obtain⟨k,hk,ho⟩:=h3 i hm
   have:=h.uniq ho
   omega
  have hl:=Pd hn h0 h9
  refine⟨s ++ [i],by simp only [List.length_append,List.length_cons,List.length_nil];omega,by simp only [List.length_append,List.length_cons,List.length_nil];omega,fun j hj=>?_⟩
  rcases List.mem_append.1 hj with hj | hj
  ·obtain⟨k,hk,ho⟩:=h3 j hj
   exact⟨k,by omega,ho⟩
  ·have:j=i:=by simpa using hj
   subst this;exact⟨m+1,Nat.le_refl _,h⟩
theorem Out.gQ {m:Nat}{i:Int}(h0:0≤i)(h9:i < 9)(h:Out X m i):m≤8:=by
 obtain⟨s,h1,h2,_⟩:=h.path h0 h9
 omega
theorem Lz:∀ {m n:Nat} {i:Int},Out X m i→m < n→X.KA n (X.AO.at i)=true
 | _,0,_,_,h=>absurd h (Nat.not_lt_zero _)
 | 0,n+1,i,h,_=>by
  unfold KA
  rw [if_pos (by simpa using (show(X.AO.at i).CZ≠2 from h))]
 | m+1,n+1,i,h,hl=>by
  unfold KA
  rw [if_neg (by simp [h.1]),if_neg (by have:=h.2.1;have:=h.2.2.1;simp;omega)]
  exact Lz h.2.2.2 (by omega)
structure Np (X:AG)(i:Int):Prop where
 k0:0≤(X.AO.at i).kind
 k3:(X.AO.at i).kind≤3
 plain:(X.AO.at i).kind=0→(X.AO.at i).on=false
 a0:0≤(X.AO.at i).at_
 CZ:((X.AO.at i).CZ=0∧(X.AO.at i).at_ < 6∧¬ ((X.AO.at i).kind=2∧(X.AO.at i).on=true)) ∨
  ((X.AO.at i).CZ=1∧(X.AO.at i).at_ < 6∧(X.AN.at (X.AO.at i).at_).here=true) ∨
  ((X.AO.at i).CZ=2∧(X.AO.at i).at_ < 9∧(X.AO.at (X.AO.at i).at_).kind=3∧¬ ((X.AO.at i).kind=2∧(X.AO.at i).on=true))
theorem RD.p {i:Int}(h:RD X i):Np X i:=⟨h.k0,h.k3,h.plain,h.a0,by
 rcases h.CZ with h | h | ⟨h1,h2,h3,h4,_⟩
 ·exact .inl h
 ·exact .inr (.inl h)
 ·exact .inr (.inr ⟨h1,h2,h3,h4⟩)⟩
theorem Qz {i:Int}(h:Np X i)(h0:0≤i)(h9:i < 9){m:Nat}(ho:Out X m i):X.Cm i=true:=by
 have hc:=Lz ho (show m < 10 by have:=ho.gQ h0 h9;omega)
 have:=h.k0;have:=h.k3;have:=h.a0
 unfold Cm
 rw [if_neg (by
  simp only [Bool.or_eq_true,Bool.and_eq_true,decide_eq_true_eq]
  rintro (((h1 | h1) | ⟨h1,h2⟩) | h1)
  ·omega
  ·omega
  ·rw [h.plain h1] at h2;cases h2
  ·omega)]
 rcases h.CZ with ⟨w,a,b⟩ | ⟨w,a,b⟩ | ⟨w,a,k,b⟩
 ·rw [if_pos (by simp [w])]
  simp only [Bool.and_eq_true,decide_eq_true_eq,Bool.not_eq_true']
  refine⟨a,?_⟩
  cases hh:(decide ((X.AO.at i).kind=2) && (X.AO.at i).on) with
  | false=>rfl
  | true=>rw [Bool.and_eq_true] at hh;exact absurd ⟨of_decide_eq_true hh.1,hh.2⟩ b
 ·rw [if_neg (by simp [w]),if_pos (by simp [w])]
  simp [a,b]
 ·rw [if_neg (by simp [w]),if_neg (by simp [w]),if_pos (by simp [w]),if_neg (by
   simp only [Bool.or_eq_true,Bool.and_eq_true,decide_eq_true_eq,Bool.not_eq_true',decide_eq_false_iff_not]
   rintro ((h1 | h1) | ⟨h1,h2⟩)
   ·omega
   ·exact h1 k
   ·exact b ⟨h1,h2⟩)]
  exact hc
theorem Q5 (hr:∀ r d,0≤r→r < 6→0≤d→d < 6→H6 (X.BS.at r) d=false)(hb:∀ b,0≤b→b < 6→Dm (X.AN.at b)=false)(ht:∀ i,0≤i→i < 9→Np X i∧∃ m,Out X m i):X.Bh=true:=by
 unfold Bh
 rw [Bool.and_eq_true,Bool.and_eq_true]
 refine⟨(Dg 6).2 fun r h0 h1=>?_,(Dg 6).2 fun b h0 h1=>?_,(Dg 9).2 fun i h0 h1=>?_⟩
 ·exact(Dg 6).2 fun d d0 d1=>by rw [hr r d (by omega) h1 (by omega) d1];rfl
 ·rw [hb b (by omega) h1];rfl
 ·obtain⟨hp,m,ho⟩:=ht i (by omega) h1
  exact Qz hp (by omega) h1 ho
theorem Out.same (h:∀ i,0≤i→i < 9→(Y.AO.at i).CZ=(X.AO.at i).CZ∧(Y.AO.at i).at_=(X.AO.at i).at_):∀ {m:Nat} {i:Int},0≤i→i < 9→Out X m i→Out Y m i
 | 0,i,h0,h9,ho=>by show(Y.AO.at i).CZ≠2;rw [(h i h0 h9).1];exact ho
 | m+1,i,h0,h9,ho=>by
  refine⟨(h i h0 h9).1.trans ho.1,?_⟩
  rw [(h i h0 h9).2]
  exact⟨ho.2.1,ho.2.2.1,Out.same h ho.2.1 ho.2.2.1 ho.2.2.2⟩
theorem Out.other {k:Int}(h:∀ i,0≤i→i < 9→i≠k→Y.AO.at i=X.AO.at i)(hk:∃ m,Out Y m k):∀ {m:Nat} {i:Int},0≤i→i < 9→Out X m i→∃ m',Out Y m' i
 | 0,i,h0,h9,ho=>by
  by_cases e:i=k
  ·subst e;exact hk
  ·exact⟨0,by show(Y.AO.at i).CZ≠2;rw [h i h0 h9 e];exact ho⟩
 | m+1,i,h0,h9,ho=>by
  by_cases e:i=k
  ·subst e;exact hk
  ·obtain⟨m',h'⟩:=Out.other h hk ho.2.1 ho.2.2.1 ho.2.2.2
   exact⟨m'+1,by rw [Out,h i h0 h9 e];exact⟨ho.1,ho.2.1,ho.2.2.1,h'⟩⟩
theorem Out.eA {k:Int}(h:∀ i,0≤i→i < 9→i≠k→Y.AO.at i=X.AO.at i):∀ {m n:Nat} {i:Int},0≤i→i < 9→Out X m i→m < n→X.inside k n i=false→Out Y m i
 | 0,0,_,_,_,_,hl,_=>absurd hl (Nat.not_lt_zero _)
 | _+1,0,_,_,_,_,hl,_=>absurd hl (Nat.not_lt_zero _)
 | 0,n+1,i,h0,h9,ho,hl,hi=>by
  have e:i≠k:=fun e=>by unfold inside at hi;rw [if_pos (by simp [e])] at hi;cases hi
  show(Y.AO.at i).CZ≠2;rw [h i h0 h9 e];exact ho
 | m+1,n+1,i,h0,h9,ho,hl,hi=>by
  have e:i≠k:=fun e=>by unfold inside at hi;rw [if_pos (by simp [e])] at hi;cases hi
  unfold inside at hi
  rw [if_neg (by simp [e]),if_neg (by simp [ho.1];omega)] at hi
  rw [Out,h i h0 h9 e]
  exact⟨ho.1,ho.2.1,ho.2.2.1,Out.eA h ho.2.1 ho.2.2.1 ho.2.2.2 (by omega) hi⟩
end AG
end Go.Ing
/- What beings do keeps the land good: the parts of a turn. -/
namespace Go.Ing
open Go
theorem Vector.P1 {α:Type}[Inhabited α]{n:Nat}(v:Vector α n)(k i:Int)(x:α):(v.put k x).at i=x∨(v.put k x).at i=v.at i:=by
 unfold Vector.put Vector.at
 rw [List.getD_eq_getElem?_getD,List.getD_eq_getElem?_getD]
 simp only [Vector.toList_setIfInBounds]
 rw [List.getElem?_set]
 split
 ·split
  ·exact .inl rfl
  ·rename_i h1 h2
   exact .inr (by rw [← h1,List.getElem?_eq_none (by omega)])
 ·exact .inr rfl
namespace AG
variable {X:AG}
def Gw (X:AG)(i:Int)(t:Am):AG:={ X with AO:=X.AO.put i t }
def Cw (X:AG)(b:Int)(x:Aj):AG:={ X with AN:=X.AN.put b x }
def NH (X:AG)(r d:Int)(v:Bool):AG:={ X with BS:=X.BS.put r { X.BS.at r with shut:=(X.BS.at r).shut.put d v } }
theorem Hh (hg:X.Bh=true){i:Int}(h0:0≤i)(h9:i < 9):Np X i:=(Rr (Oa hg h0 h9)).p
theorem KW (hg:X.Bh=true){i:Int}(h0:0≤i)(h9:i < 9):∃ m,Out X m i:=by
 obtain⟨m,_,h⟩:=S8 hg h0 h9;exact⟨m,h⟩
theorem KJ {i j:Int}(h0:0≤i)(h9:i < 9)(j0:0≤j)(hn:j≠i)(t:Am):(X.Gw i t).AO.at j=X.AO.at j:=Vector.Ee h0 h9 j0 hn
theorem Fo {i:Int}(h0:0≤i)(h9:i < 9)(t:Am):(X.Gw i t).AO.at i=t:=Vector.CE h0 h9
theorem GS {i j:Int}(h0:0≤i)(h9:i < 6)(j0:0≤j)(hn:j≠i)(t:Aj):(X.Cw i t).AN.at j=X.AN.at j:=Vector.Ee h0 h9 j0 hn
theorem EK {i:Int}(h0:0≤i)(h9:i < 6)(t:Aj):(X.Cw i t).AN.at i=t:=Vector.CE h0 h9
theorem KI (hg:X.Bh=true){i:Int}(h0:0≤i)(h9:i < 9){t:Am}(hk:t.kind=(X.AO.at i).kind)(hp:Np (X.Gw i t) i)(ho:∃ m,Out (X.Gw i t) m i):(X.Gw i t).Bh=true:=by
 have hs:∀ j,0≤j→j < 9→j≠i→(X.Gw i t).AO.at j=X.AO.at j:=fun j j0 _ hn=>KJ h0 h9 j0 hn t
 refine Q5 (fun r d r0 r6 d0 d6=>KM hg r0 r6 d0 d6) (fun b b0 b6=>FW hg b0 b6) fun j j0 j9=>?_
 obtain⟨m,hm⟩:=KW hg j0 j9
 refine⟨?_,Out.other hs ho j0 j9 hm⟩
 by_cases e:j=i
 ·subst e;exact hp
 ·have q:=Hh hg j0 j9
  have hkk:∀ a,0≤a→a < 9→((X.Gw i t).AO.at a).kind=(X.AO.at a).kind:=fun a a0 a9=>by
   by_cases ea:a=i
   ·subst ea;rw [Fo h0 h9,hk]
   ·rw [hs a a0 a9 ea]
  have ej:=hs j j0 j9 e
  refine⟨by rw [ej];exact q.k0,by rw [ej];exact q.k3,by rw [ej];exact q.plain,by rw [ej];exact q.a0,?_⟩
  rw [ej]
  rcases q.CZ with h | h | ⟨h1,h2,h3,h4⟩
  ·exact .inl h
  ·exact .inr (.inl h)
  ·exact .inr (.inr ⟨h1,h2,by rw [hkk _ q.a0 h2];exact h3,h4⟩)
theorem I0 (hg:X.Bh=true){b:Int}(h0:0≤b)(h6:b < 6){x:Aj}(hx:Dm x=false)(hh:∀ i,0≤i→i < 9→(X.AO.at i).CZ=1→(X.AO.at i).at_=b→x.here=true):(X.Cw b x).Bh=true:=by
 refine Q5 (fun r d r0 r6 d0 d6=>KM hg r0 r6 d0 d6) (fun c c0 c6=>?_) fun j j0 j9=>?_
 ·by_cases e:c=b
  ·subst e;rw [EK h0 h6];exact hx
  ·rw [GS h0 h6 c0 e];exact FW hg c0 c6
 ·obtain⟨m,hm⟩:=KW hg j0 j9
  refine⟨?_,m,Out.same (X:=X) (Y:=X.Cw b x) (fun _ _ _=>⟨rfl,rfl⟩) j0 j9 hm⟩
  have q:=Hh hg j0 j9
  refine⟨q.k0,q.k3,q.plain,q.a0,?_⟩
  rcases q.CZ with h | ⟨h1,h2,h3⟩ | h
  ·exact .inl h
  ·refine .inr (.inl ⟨h1,h2,?_⟩)
   show((X.Cw b x).AN.at (X.AO.at j).at_).here=true
   by_cases e:(X.AO.at j).at_=b
   ·rw [e,EK h0 h6];exact hh j j0 j9 h1 e
   ·rw [GS h0 h6 q.a0 e];exact h3
  ·exact .inr (.inr h)
theorem W2 (hg:X.Bh=true){r d:Int}(h0:0≤r)(h6:r < 6)(d0:0≤d)(d6:d < 6){v:Bool}(hv:v=true→(X.BS.at r).CP.at d≠0):(X.NH r d v).Bh=true:=by
 refine Q5 (fun c e c0 c6 e0 e6=>?_) (fun b b0 b6=>FW hg b0 b6) fun j j0 j9=>?_
 ·have q:=KM hg c0 c6 e0 e6
  by_cases ec:c=r
  ·subst ec
   have er:(X.NH c d v).BS.at c={ X.BS.at c with shut:=(X.BS.at c).shut.put d v }:=Vector.CE h0 h6
   rw [er]
   unfold H6 at q ⊢
   show(decide ((X.BS.at c).CP.at e < 0) || decide (6 < (X.BS.at c).CP.at e) || (decide ((X.BS.at c).CP.at e=0) && ((X.BS.at c).shut.put d v).at e))=false
   rw [IY _ _ _ _ d0 d6 e0]
   split
   ·rename_i ee
    subst ee
    cases v with
    | false=>
     simp only [Bool.and_false,Bool.or_false]
     rw [Bool.or_eq_false_iff] at q
     exact q.1
    | true=>simpa [hv rfl] using (Bool.or_eq_false_iff.1 q).1
   ·exact q
  ·rw [show(X.NH r d v).BS.at c=X.BS.at c from Vector.Ee h0 h6 c0 ec];exact q
 ·obtain⟨m,hm⟩:=KW hg j0 j9
  have q:=Hh hg j0 j9
  exact⟨⟨q.k0,q.k3,q.plain,q.a0,q.CZ⟩,m,Out.same (X:=X) (Y:=X.NH r d v) (fun _ _ _=>⟨rfl,rfl⟩) j0 j9 hm⟩
/-! #### what is done to a thing -/
section
variable {i:Int} (hg:X.Bh=true) (h0:0≤i) (h9:i < 9)
include hg h0 h9
theorem Ua {v:Bool}(h1:(X.AO.at i).kind≠0)(h2:(X.AO.at i).kind=2→(X.AO.at i).CZ=1):(X.Gw i { X.AO.at i with on:=v }).Bh=true:=by
 have q:=Hh hg h0 h9
 obtain⟨m,hm⟩:=KW hg h0 h9
 have hs:∀ j,0≤j→j < 9→((X.Gw i { X.AO.at i with on:=v }).AO.at j).CZ=(X.AO.at j).CZ∧((X.Gw i { X.AO.at i with on:=v }).AO.at j).at_=(X.AO.at j).at_:=fun j j0 _=>by
  by_cases e:j=i
  ·subst e;rw [Fo h0 h9];exact⟨rfl,rfl⟩
  ·rw [KJ h0 h9 j0 e];exact⟨rfl,rfl⟩
 have hkk:∀ a,0≤a→((X.Gw i { X.AO.at i with on:=v }).AO.at a).kind=(X.AO.at a).kind:=fun a a0=>by
  by_cases ea:a=i
  ·subst ea;rw [Fo h0 h9]
  ·rw [KJ h0 h9 a0 ea]
 refine KI hg h0 h9 (by rfl) ?_ ⟨m,Out.same hs h0 h9 hm⟩
 refine⟨?_,?_,?_,?_,?_⟩<;>rw [Fo h0 h9]
 ·exact q.k0
 ·exact q.k3
 ·exact fun e=>absurd e h1
 ·exact q.a0
 ·rcases q.CZ with ⟨a,b,c⟩ | h | ⟨a,b,c,d⟩
  ·exact .inl ⟨a,b,fun⟨e,_⟩=>by have:=h2 e;omega⟩
  ·exact .inr (.inl h)
  ·refine .inr (.inr ⟨a,b,?_,fun⟨e,_⟩=>by have:=h2 e;omega⟩)
   show((X.Gw i { X.AO.at i with on:=v }).AO.at (X.AO.at i).at_).kind=3
   rw [hkk _ q.a0];exact c
theorem M0 {v:Bool}{a:Int}(ha:0≤a∧a < 6)(hv:(X.AO.at i).kind=0→v=false)(hc:¬ ((X.AO.at i).kind=2∧v=true)):(X.Gw i { X.AO.at i with on:=v,CZ:=0,at_:=a }).Bh=true:=by
 have q:=Hh hg h0 h9
 refine KI hg h0 h9 (by rfl) ?_ ⟨0,by show((X.Gw i _).AO.at i).CZ≠2;rw [Fo h0 h9];intro hc;cases hc⟩
 refine⟨?_,?_,?_,?_,?_⟩<;>rw [Fo h0 h9]
 ·exact q.k0
 ·exact q.k3
 ·exact hv
 ·exact ha.1
 ·exact .inl ⟨rfl,ha.2,hc⟩
theorem Sm {a:Int}(ha:0≤a∧a < 6)(hh:(X.AN.at a).here=true):(X.Gw i { X.AO.at i with CZ:=1,at_:=a }).Bh=true:=by
 have q:=Hh hg h0 h9
 refine KI hg h0 h9 (by rfl) ?_ ⟨0,by show((X.Gw i _).AO.at i).CZ≠2;rw [Fo h0 h9];intro hc;cases hc⟩
 refine⟨?_,?_,?_,?_,?_⟩<;>rw [Fo h0 h9]
 ·exact q.k0
 ·exact q.k3
 ·exact q.plain
 ·exact ha.1
 ·exact .inr (.inl ⟨rfl,ha.2,hh⟩)
theorem Ry {a:Int}(ha:0≤a∧a < 9)(hk:(X.AO.at a).kind=3)(hc:¬ ((X.AO.at i).kind=2∧(X.AO.at i).on=true))(hi:X.TQ a i=false):(X.Gw i { X.AO.at i with CZ:=2,at_:=a }).Bh=true:=by
 have q:=Hh hg h0 h9
 have hs:∀ j,0≤j→j < 9→j≠i→(X.Gw i { X.AO.at i with CZ:=2,at_:=a }).AO.at j=X.AO.at j:=fun j j0 _ hn=>KJ h0 h9 j0 hn _
 have hai:a≠i:=fun e=>by subst e;rw [Vs] at hi;cases hi
 obtain⟨m,hm10,hm⟩:=S8 hg ha.1 ha.2
 have hm':=Out.eA hs ha.1 ha.2 hm hm10 hi
 refine KI hg h0 h9 (by rfl) ?_ ⟨m+1,by rw [Out,Fo h0 h9];exact⟨rfl,ha.1,ha.2,hm'⟩⟩
 refine⟨?_,?_,?_,?_,?_⟩<;>rw [Fo h0 h9]
 ·exact q.k0
 ·exact q.k3
 ·exact q.plain
 ·exact ha.1
 ·refine .inr (.inr ⟨rfl,ha.2,?_,hc⟩)
  show((X.Gw i _).AO.at a).kind=3
  rw [hs a ha.1 ha.2 hai];exact hk
end
end AG
end Go.Ing
/- What beings do keeps the land good: a turn. -/
namespace Go.Ing
open Go
namespace AG
end AG
namespace AE
structure Fit (T:AE):Prop where
 b:0≤T.b∧T.b < 6
 br:T.w.DL
 gd:T.w.Bh=true
 here:(T.w.AN.at T.b).here=true
structure Step (b:Int)(X Y:AG):Prop where
 th:∀ i,0≤i→i < 9→(Y.AO.at i).name=(X.AO.at i).name∧(Y.AO.at i).kind=(X.AO.at i).kind
 own:∀ i,0≤i→i < 9→(X.AO.at i).CZ=1→(X.AO.at i).at_≠b→Y.AO.at i=X.AO.at i
 be:∀ c,0≤c→c < 6→c≠b→{ Y.AN.at c with B2:=0 }={ X.AN.at c with B2:=0 }
 ro:∀ r,0≤r→r < 6→(Y.BS.at r).name=(X.BS.at r).name∧(Y.BS.at r).Lw=(X.BS.at r).Lw∧(Y.BS.at r).CP=(X.BS.at r).CP
theorem Step.refl (b:Int)(X:AG):Step b X X:=⟨fun _ _ _=>⟨rfl,rfl⟩,fun _ _ _ _ _=>rfl,fun _ _ _ _=>rfl,fun _ _ _=>⟨rfl,rfl,rfl⟩⟩
theorem Step.trans {b:Int}{X Y Z:AG}(h:Step b X Y)(k:Step b Y Z):Step b X Z:=
  ⟨fun i h0 h9=>⟨(k.th i h0 h9).1.trans (h.th i h0 h9).1,(k.th i h0 h9).2.trans (h.th i h0 h9).2⟩,
   fun i h0 h9 h1 h2=>by
    have e:=h.own i h0 h9 h1 h2
    exact(k.own i h0 h9 (by rw [e];exact h1) (by rw [e];exact h2)).trans e,
   fun c h0 h6 hn=>(k.be c h0 h6 hn).trans (h.be c h0 h6 hn),
   fun r h0 h6=>⟨(k.ro r h0 h6).1.trans (h.ro r h0 h6).1,(k.ro r h0 h6).2.1.trans (h.ro r h0 h6).2.1,(k.ro r h0 h6).2.2.trans (h.ro r h0 h6).2.2⟩⟩
theorem Fit.Ei {T T':AE}(h:T.Fit)(hw:T'.w=T.w)(hb:T'.b=T.b):T'.Fit:=⟨by rw [hb];exact h.b,by rw [hw];exact h.br,by rw [hw];exact h.gd,by rw [hw,hb];exact h.here⟩
theorem Fit.BP {T:AE}(h:T.Fit)(e:Event):(T.BP e).Fit:=h.Ei rfl rfl
theorem Fit.tell {T:AE}(h:T.Fit)(s:Ao):(T.tell s).Fit:=h.Ei rfl rfl
theorem Fit.room {T:AE}(h:T.Fit):0≤(T.w.AN.at T.b).room∧(T.w.AN.at T.b).room < 6:=by
 have:=AG.FW h.gd h.b.1 h.b.2
 simp only [AG.Dm,Bool.or_eq_false_iff,decide_eq_false_iff_not] at this
 omega
theorem Fit.exit {T:AE}(h:T.Fit){d:Int}(d0:0≤d)(d6:d < 6):0≤(T.w.BS.at (T.w.AN.at T.b).room).CP.at d∧(T.w.BS.at (T.w.AN.at T.b).room).CP.at d≤6:=by
 have:=AG.KM h.gd h.room.1 h.room.2 d0 d6
 simp only [AG.H6,Bool.or_eq_false_iff,decide_eq_false_iff_not] at this
 omega
theorem TT {X:AG}(h:X.DL){i:Int}{t:Am}(ht:t.name.length≤140737488351232):(X.Gw i t).DL:=⟨fun j=>by
 rcases Vector.P1 X.AO i j t with e | e
 ·show((X.AO.put i t).at j).name.length≤_;rw [e];exact ht
 ·show((X.AO.put i t).at j).name.length≤_;rw [e];exact h.th j,h.be,h.ro⟩
theorem Eo {X:AG}(h:X.DL){i:Int}{t:Aj}(ht:t.name.length≤140737488351232):(X.Cw i t).DL:=⟨h.th,fun j=>by
 rcases Vector.P1 X.AN i j t with e | e
 ·show((X.AN.put i t).at j).name.length≤_;rw [e];exact ht
 ·show((X.AN.put i t).at j).name.length≤_;rw [e];exact h.be j,h.ro⟩
theorem UN {X:AG}(h:X.DL){r d:Int}{v:Bool}:(X.NH r d v).DL:=⟨h.th,h.be,fun j=>by
 rcases Vector.P1 X.BS r j { X.BS.at r with shut:=(X.BS.at r).shut.put d v } with e | e
 ·show((X.BS.put r _).at j).name.length≤_;rw [e];exact h.ro r
 ·show((X.BS.put r _).at j).name.length≤_;rw [e];exact h.ro j⟩
theorem VQ {b:Int}{X:AG}{i:Int}(h0:0≤i)(h9:i < 9){t:Am}(hn:t.name=(X.AO.at i).name)(hk:t.kind=(X.AO.at i).kind)(ho:(X.AO.at i).CZ=1→(X.AO.at i).at_=b):Step b X (X.Gw i t):=
  ⟨fun j j0 _=>by
    by_cases e:j=i
    · subst e;rw [AG.Fo h0 h9];exact⟨hn,hk⟩
    · rw [AG.KJ h0 h9 j0 e];exact⟨rfl,rfl⟩,
   fun j j0 _ h1 h2=>by
    by_cases e:j=i
    · subst e;exact absurd (ho h1) h2
    · rw [AG.KJ h0 h9 j0 e],
   fun _ _ _ _=>rfl,fun _ _ _=>⟨rfl,rfl,rfl⟩⟩
theorem MS {b:Int}{X:AG}{i:Int}(h0:0≤i)(h6:i < 6){t:Aj}(hn:i≠b→{ t with B2:=0 }={ X.AN.at i with B2:=0 }):Step b X (X.Cw i t):=
 ⟨fun _ _ _=>⟨rfl,rfl⟩,fun _ _ _ _ _=>rfl,fun c c0 _ hc=>by
  by_cases e:c=i
  ·subst e;rw [AG.EK h0 h6];exact hn hc
  ·rw [AG.GS h0 h6 c0 e],fun _ _ _=>⟨rfl,rfl,rfl⟩⟩
theorem Vo {b:Int}{X:AG}{r d:Int}(h0:0≤r)(h6:r < 6){v:Bool}:Step b X (X.NH r d v):=
 ⟨fun _ _ _=>⟨rfl,rfl⟩,fun _ _ _ _ _=>rfl,fun _ _ _ _=>rfl,fun j j0 _=>by
  by_cases e:j=r
  ·subst e
   rw [show(X.NH j d v).BS.at j={ X.BS.at j with shut:=(X.BS.at j).shut.put d v } from Vector.CE h0 h6]
   exact⟨rfl,rfl,rfl⟩
  ·rw [show(X.NH r d v).BS.at j=X.BS.at j from Vector.Ee h0 h6 j0 e]
   exact⟨rfl,rfl,rfl⟩⟩
structure DJ (T T':AE):Prop where
 b:T'.b=T.b
 fit:T'.Fit
 st:Step T.b T.w T'.w
theorem DJ.trans {T T' T'':AE}(h:DJ T T')(k:DJ T' T''):DJ T T'':=⟨k.b.trans h.b,k.fit,h.st.trans (by have:=k.st;rwa [h.b] at this)⟩
theorem Fit.goes {T:AE}(h:T.Fit):DJ T T:=⟨rfl,h, .refl _ _⟩
theorem DJ.Ei {T T' T'':AE}(h:DJ T T')(hw:T''.w=T'.w)(hb:T''.b=T'.b):DJ T T'':=⟨hb.trans h.b,h.fit.Ei hw hb,by rw [hw];exact h.st⟩
theorem OU {T:AE}(h:T.Fit){r:Int}(hr:0≤r∧r < 6):DJ T (T.Fu r):=by
 have hg:=AG.FW h.gd h.b.1 h.b.2
 have hme:((T.Fu r).w.AN.at T.b)={ T.me with room:=r,B2:=0 }:=Vector.CE h.b.1 h.b.2
 refine⟨rfl,⟨h.b,Eo h.br (h.br.be T.b),AG.I0 h.gd h.b.1 h.b.2 ?_ fun _ _ _ _ _=>h.here,?_⟩,MS h.b.1 h.b.2 fun hn=>absurd rfl hn⟩
 ·unfold AG.Dm at hg ⊢
  show(decide (r < 0) || decide (6≤r) || decide ((T.w.AN.at T.b).BI < 0) || decide (10 < (T.w.AN.at T.b).BI) || decide ((0:Int) < 0) || decide (6 < (0:Int)) || (!(T.w.AN.at T.b).here && !decide ((0:Int)=0)) || (T.w.AN.at T.b).here != decide (0 < (T.w.AN.at T.b).BI))=false
  simp only [Bool.or_eq_false_iff,decide_eq_false_iff_not] at hg ⊢
  refine⟨⟨⟨⟨⟨⟨⟨by omega,by omega⟩,hg.1.1.1.1.1.2⟩,hg.1.1.1.1.2⟩,by decide⟩,by decide⟩,by simp⟩,hg.2⟩
 ·show((T.Fu r).w.AN.at T.b).here=true
  rw [hme];exact h.here
theorem QU {T:AE}(h:T.Fit):DJ T T.look:=h.goes.Ei T.KF.1 T.KF.2.1
theorem Vi {T:AE}(h:T.Fit){d:Int}(d0:0≤d)(d6:d < 6):DJ T (T.walk d):=by
 unfold walk
 split
 ·exact h.goes.Ei rfl rfl
 ·split
  ·exact h.goes.Ei rfl rfl
  ·rename_i h1 _
   have hx:=h.exit d0 d6
   have h1':(T.w.BS.at (T.w.AN.at T.b).room).CP.at d≠0:=fun e=>h1 (decide_eq_true e)
   have g1:DJ T (T.BP { F2 1 with dir:=d }):=h.goes.Ei rfl rfl
   have g2:=g1.trans (OU g1.fit (r:=(T.w.BS.at T.me.room).CP.at d - 1) (by show 0≤(T.w.BS.at (T.w.AN.at T.b).room).CP.at d - 1∧(T.w.BS.at (T.w.AN.at T.b).room).CP.at d - 1 < 6;omega))
   have g3:=g2.Ei (T'':=((T.BP { F2 1 with dir:=d }).Fu ((T.w.BS.at T.me.room).CP.at d - 1)).BP { F2 2 with dir:=AG.opposite d }) rfl rfl
   exact g3.trans (QU g3.fit)
end AE
end Go.Ing
/- What beings do keeps the land good: each order. -/
namespace Go.Ing
open Go
namespace AG
variable {X:AG}
theorem RT {CZ at_ i:Int}(h:i∈X.has CZ at_):(X.AO.at i).CZ=CZ∧(X.AO.at i).at_=at_:=by
 have:=(List.mem_filter.1 h).2
 rw [Bool.and_eq_true] at this
 exact⟨of_decide_eq_true this.1,of_decide_eq_true this.2⟩
theorem QW (CZ at_:Int):(X.has CZ at_).Nodup:=by
 unfold has
 exact List.Pairwise.filter _ (by decide)
end AG
namespace AE
/-! #### which things are meant -/
theorem Ea (w:AG)(l:List Int)(nth:Int)(name:Ao)(all:Bool):(BQ w l nth name all).Sublist l:=by
 unfold BQ
 split
 ·exact List.filter_sublist
 ·split
  ·exact List.nil_sublist _
  ·exact((List.drop_sublist _ _).trans (List.take_sublist _ _)).trans List.filter_sublist
theorem Dt {w:AG}{l:List Int}{nth:Int}{name:Ao}{all:Bool}{i:Int}(h:i∈BQ w l nth name all):i∈l:=(Ea w l nth name all).mem h
def Iy (X:AG)(b i:Int):Prop:=0≤i∧i < 9∧((X.AO.at i).CZ=1→(X.AO.at i).at_=b)
def eo (X:AG)(b i:Int):Prop:=0≤i∧i < 9∧(X.AO.at i).CZ=1∧(X.AO.at i).at_=b
theorem eo.Qq {X:AG}{b i:Int}(h:eo X b i):Iy X b i:=⟨h.1,h.2.1,fun _=>h.2.2.2⟩
theorem FO {T:AE}{i:Int}(h:i∈T.own):eo T.w T.b i:=⟨(AG.Fp h).1,(AG.Fp h).2,(AG.RT h).1,(AG.RT h).2⟩
theorem Yk {X:AG}{b CZ at_ i:Int}(hw:CZ≠1)(h:i∈X.has CZ at_):Iy X b i:=⟨(AG.Fp h).1,(AG.Fp h).2,fun e=>absurd ((AG.RT h).1.symm.trans e) hw⟩
theorem Je {T:AE}{i:Int}(h:i∈T.seen):0≤i∧i < 9∧(T.w.AO.at i).CZ=0:=by
 unfold seen at h
 split at h
 ·cases h
 ·exact⟨(AG.Fp h).1,(AG.Fp h).2,(AG.RT h).1⟩
theorem Mc {T:AE}{i:Int}(h:i∈T.seen):Iy T.w T.b i:=by
 obtain⟨h0,h9,e⟩:=Je h
 exact⟨h0,h9,fun e1=>by omega⟩
theorem O2 {l:List Int}(h:(decide ((l.length:Int)=0))=false):l.getD 0 0∈l:=by
 have h':(l.length:Int)≠0:=of_decide_eq_false h
 exact Bg.Ez (by omega)
theorem Oi {T:AE}{u:Ao}(h:(T.one u).2=true):Iy T.w T.b (T.one u).1:=by
 unfold one at h ⊢
 split at h
 ·cases h
 ·rename_i h1
  rw [if_neg h1]
  split at h
  ·cases h
  ·rename_i h2
   rw [if_neg h2]
   have hm:=Dt (O2 (Bool.not_eq_true _ ▸ h2))
   rcases List.mem_append.1 hm with hm | hm
   ·exact(FO hm).Qq
   ·exact Mc hm
/-! #### a box, somebody -/
theorem KC (T:AE)(u:Ao):(T.box u).1.w=T.w∧(T.box u).1.b=T.b:=by
 unfold box
 split
 ·exact⟨rfl,rfl⟩
 ·split<;>exact⟨rfl,rfl⟩
theorem YE {T:AE}{u:Ao}(h:(T.box u).2.2=true):0≤(T.box u).2.1∧(T.box u).2.1 < 9∧(T.w.AO.at (T.box u).2.1).kind=3∧(T.box u).1=T:=by
 unfold box at h ⊢
 split at h
 ·cases h
 ·rename_i h1
  rw [if_neg h1]
  split at h
  ·cases h
  ·rename_i h2
   rw [if_neg h2]
   simp only [Bool.or_eq_true,Bool.not_eq_true',decide_eq_false_iff_not,not_or,Bool.not_eq_false,Decidable.not_not] at h1
   have hm:=Oi h1.1
   exact⟨hm.1,hm.2.1,h1.2,rfl⟩
theorem MG {T:AE}{name:Ao}{k:Int}:∀ {r:Nat} {n:Int},r≤6→T.Ir name r n=some k→0≤k∧k < 6∧k≠T.b∧T.w.I5 T.b k=true
 | 0,_,_,h=>by cases h
 | r+1,n,hr,h=>by
  unfold Ir at h
  split at h
  ·exact MG (by omega) h
  ·rename_i h1
   split at h
   ·cases h
    simp only [Bool.or_eq_true,decide_eq_true_eq,Bool.not_eq_true',not_or,Bool.not_eq_false] at h1
    exact⟨by omega,by omega,h1.1.1,h1.2⟩
   ·exact MG (by omega) h
theorem JA (T:AE)(u:Ao):(T.A6 u).1.w=T.w∧(T.A6 u).1.b=T.b:=by
 unfold A6
 split
 ·split<;>exact⟨rfl,rfl⟩
 ·exact⟨rfl,rfl⟩
theorem J5 {T:AE}{u:Ao}(h:(T.A6 u).2.2=true):0≤(T.A6 u).2.1∧(T.A6 u).2.1 < 6∧(T.A6 u).2.1≠T.b∧T.w.I5 T.b (T.A6 u).2.1=true:=by
 unfold A6 at h ⊢
 split at h
 ·rename_i h1
  rw [if_pos h1]
  split at h
  ·rename_i k hk
   exact MG (Nat.le_refl _) hk
  ·cases h
 ·cases h
/-! #### taking and letting go -/
theorem EZ {T:AE}(h:T.Fit){i:Int}(hm:Iy T.w T.b i){t:Am}(hn:t.name=(T.w.AO.at i).name)(hk:t.kind=(T.w.AO.at i).kind)(hg:(T.w.Gw i t).Bh=true):DJ T (T.DA i t):=
 ⟨rfl,⟨h.b,TT h.br (by rw [hn];exact h.br.th i),hg,h.here⟩,VQ hm.1 hm.2.1 hn hk hm.2.2⟩
theorem Rv {T:AE}(h:T.Fit){i:Int}(hm:Iy T.w T.b i)(hc:¬ ((T.w.AO.at i).kind=2∧(T.w.AO.at i).on=true)):DJ T (T.place i 0 T.me.room):=
 EZ h hm rfl rfl (by
  have:=AG.M0 h.gd hm.1 hm.2.1 (v:=(T.w.AO.at i).on) h.room (AG.Hh h.gd hm.1 hm.2.1).plain hc
  exact this)
theorem M8 {T:AE}(h:T.Fit){i a:Int}(hm:Iy T.w T.b i)(ha:0≤a∧a < 6)(hh:(T.w.AN.at a).here=true):DJ T (T.place i 1 a):=
 EZ h hm rfl rfl (AG.Sm h.gd hm.1 hm.2.1 ha hh)
theorem R0 {T:AE}(h:T.Fit){i a:Int}(hm:Iy T.w T.b i)(ha:0≤a∧a < 9)(hk:(T.w.AO.at a).kind=3)(hc:¬ ((T.w.AO.at i).kind=2∧(T.w.AO.at i).on=true))(hi:T.w.TQ a i=false):DJ T (T.place i 2 a):=
 EZ h hm rfl rfl (AG.Ry h.gd hm.1 hm.2.1 ha hk hc hi)
theorem HF {T:AE}{i j CZ at_:Int}(h0:0≤i)(h9:i < 9)(j0:0≤j):(T.place i CZ at_).w.AO.at j=if j=i then { T.w.AO.at i with CZ:=CZ,at_:=at_ } else T.w.AO.at j:=IY _ _ _ _ h0 h9 j0
theorem JH:∀ {l:List Int} {T:AE},T.Fit→(∀ i∈l,Iy T.w T.b i)→DJ T (T.DG l)
 | [],T,h,_=>h.goes
 | i :: r,T,h,hm=>by
  have hi:=hm i (List.mem_cons_self ..)
  have g1:=M8 h hi h.b h.here
  have g2:DJ T ((T.place i 1 T.b).BJ 3 i):=g1.Ei rfl rfl
  refine g2.trans (JH g2.fit fun j hj=>?_)
  have hj':=hm j (List.mem_cons_of_mem _ hj)
  refine⟨hj'.1,hj'.2.1,?_⟩
  show((T.place i 1 T.b).w.AO.at j).CZ=1→((T.place i 1 T.b).w.AO.at j).at_=T.b
  rw [HF hi.1 hi.2.1 hj'.1]
  split
  ·exact fun _=>rfl
  ·exact hj'.2.2
theorem QP {T:AE}(h:T.Fit){l:List Int}(hl:∀ i∈l,Iy T.w T.b i)(o:Order):DJ T (T.Kg l o):=by
 unfold Kg
 have hp:∀ i∈BQ T.w l o.nth o.name o.Bm,Iy T.w T.b i:=fun i hi=>hl i (Dt hi)
 split
 ·have g:DJ T (T.tell JI):=h.goes.Ei rfl rfl
  exact g.trans (JH g.fit hp)
 ·exact JH h hp
theorem XZ {T:AE}(h:T.Fit)(o:Order):DJ T (T.get o):=by
 unfold get
 have g:DJ T (T.box o.second).1:=h.goes.Ei (T.KC o.second).1 (T.KC o.second).2
 split
 ·split
  ·exact g
  ·refine g.trans (QP g.fit (fun i hi=>?_) o)
   rw [(T.KC o.second).1,(T.KC o.second).2] at *
   exact Yk (by decide) hi
 ·exact QP h (fun i hi=>Mc hi) o
def NJ (T:AE)(v to:Int):Prop:=(v=8)∨(v=10∧0≤to∧to < 6∧(T.w.AN.at to).here=true)∨(v≠8∧v≠10∧0≤to∧to < 9∧(T.w.AO.at to).kind=3)
theorem NJ.next {T T':AE}{v to:Int}(h:NJ T v to)(hb:T'.w.AN=T.w.AN)(hk:∀ i,0≤i→i < 9→(T'.w.AO.at i).kind=(T.w.AO.at i).kind):NJ T' v to:=by
 rcases h with h | ⟨h1,h2,h3,h4⟩ | ⟨h1,h2,h3,h4,h5⟩
 ·exact .inl h
 ·exact .inr (.inl ⟨h1,h2,h3,by rw [hb];exact h4⟩)
 ·exact .inr (.inr ⟨h1,h2,h3,h4,by rw [hk _ h3 h4];exact h5⟩)
theorem Se {T:AE}(h:T.Fit){v to i:Int}(hm:Iy T.w T.b i)(ht:NJ T v to):DJ T (T.Cs v to i)∧(T.Cs v to i).w.AN=T.w.AN∧∀ j,0≤j→j≠i→(T.Cs v to i).w.AO.at j=T.w.AO.at j:=by
 have hpl:∀ CZ at_,(T.place i CZ at_).w.AN=T.w.AN∧∀ j,0≤j→j≠i→(T.place i CZ at_).w.AO.at j=T.w.AO.at j:=fun CZ at_=>⟨rfl,fun j j0 hn=>by rw [HF hm.1 hm.2.1 j0,if_neg hn]⟩
 unfold Cs
 split
 ·exact⟨h.goes.Ei rfl rfl,rfl,fun _ _ _=>rfl⟩
 ·rename_i h1
  have hc:¬ ((T.w.AO.at i).kind=2∧(T.w.AO.at i).on=true):=fun e=>h1 (by rw [Bool.and_eq_true];exact⟨decide_eq_true e.1,e.2⟩)
  split
  ·exact⟨(Rv h hm hc).Ei rfl rfl,hpl 0 T.me.room⟩
  ·rename_i h2
   split
   ·rename_i h3
    rcases ht with e | ⟨_,a0,a6,hh⟩ | ⟨_,e,_⟩
    ·exact absurd (decide_eq_true e) h2
    ·exact⟨(M8 h hm ⟨a0,a6⟩ hh).Ei rfl rfl,hpl 1 to⟩
    ·exact absurd (of_decide_eq_true h3) e
   ·rename_i h3
    split
    ·exact⟨h.goes.Ei rfl rfl,rfl,fun _ _ _=>rfl⟩
    ·rename_i h4
     rcases ht with e | ⟨e,_⟩ | ⟨_,_,a0,a9,hk⟩
     ·exact absurd (decide_eq_true e) h2
     ·exact absurd (decide_eq_true e) h3
     ·exact⟨(R0 h hm ⟨a0,a9⟩ hk hc (by simpa using h4)).Ei rfl rfl,hpl 2 to⟩
theorem Jn {v to:Int}:∀ {l:List Int} {T:AE},T.Fit→l.Nodup→(∀ i∈l,Iy T.w T.b i)→NJ T v to→DJ T (T.Es v to l)
 | [],T,h,_,_,_=>h.goes
 | i :: r,T,h,hd,hm,ht=>by
  have hi:=hm i (List.mem_cons_self ..)
  obtain⟨g,gb,gt⟩:=Se h hi ht
  have hd':=List.nodup_cons.1 hd
  refine g.trans (Jn g.fit hd'.2 (fun j hj=>?_) (ht.next gb fun j j0 j9=>(g.st.th j j0 j9).2))
  have hj':=hm j (List.mem_cons_of_mem _ hj)
  have hne:j≠i:=fun e=>hd'.1 (e ▸ hj)
  rw [Iy,gt j hj'.1 hne,g.b]
  exact hj'
theorem WU {T:AE}(h:T.Fit){to:Int}{o:Order}(ht:NJ T o.verb to):DJ T (T.Sa to o):=by
 unfold Sa
 have hp:∀ i∈BQ T.w T.own o.nth o.name o.Bm,Iy T.w T.b i:=fun i hi=>(FO (Dt hi)).Qq
 have hd:(BQ T.w T.own o.nth o.name o.Bm).Nodup:=List.Nodup.sublist (Ea ..) (AG.QW ..)
 split
 ·have g:DJ T (T.tell Mi):=h.goes.Ei rfl rfl
  exact g.trans (Jn g.fit hd hp (ht.next rfl fun _ _ _=>rfl))
 ·exact Jn h hd hp ht
theorem UO {T:AE}(h:T.Fit){o:Order}(hv:o.verb=8∨o.verb=9∨o.verb=10):DJ T (T.FH o):=by
 have hw:(T.Cu o).1.w=T.w∧(T.Cu o).1.b=T.b:=by
  unfold Cu
  split
  ·exact T.KC o.second
  ·split
   ·exact T.JA o.second
   ·exact⟨rfl,rfl⟩
 have g:DJ T (T.Cu o).1:=h.goes.Ei hw.1 hw.2
 unfold FH
 split
 ·exact g
 ·rename_i h1
  refine g.trans (WU g.fit ?_)
  have h1':(T.Cu o).2.2=true:=by simpa using h1
  unfold NJ
  rw [hw.1]
  unfold Cu at h1' ⊢
  split at h1'
  ·rename_i h2
   rw [if_pos h2]
   obtain⟨a0,a9,hk,_⟩:=YE h1'
   have:=of_decide_eq_true h2
   exact .inr (.inr ⟨by omega,by omega,a0,a9,hk⟩)
  ·rename_i h2
   rw [if_neg h2]
   split at h1'
   ·rename_i h3
    rw [if_pos h3]
    obtain⟨a0,a6,_,hs⟩:=J5 h1'
    exact .inr (.inl ⟨of_decide_eq_true h3,a0,a6,(AG.HP (AG.K5 hs).2.1).2.2⟩)
   ·rename_i h3
    rw [if_neg h3]
    refine .inl ?_
    rcases hv with e | e | e
    ·exact e
    ·exact absurd (decide_eq_true e) h2
    ·exact absurd (decide_eq_true e) h3
end AE
end Go.Ing
/- What walks through a turn need. -/
namespace Go.Ing
open Go
theorem KT {α:Type}{l:List α}{k:Int}{d:α}(h0:0≤k)(h1:k < l.length):l.take (k+1).toNat=l.take k.toNat ++ [l.getD k.toNat d]:=by
 obtain⟨m,rfl⟩:=Int.eq_ofNat_of_zero_le h0
 have hm:m < l.length:=by omega
 rw [show((m:Int)+1).toNat=m+1 by omega,show((m:Int)).toNat=m by omega,List.take_add_one,List.getElem?_eq_getElem hm,List.getD_eq_getElem?_getD,List.getElem?_eq_getElem hm]
 rfl
theorem AG.Ly (d:Int):0≤AG.opposite d∧AG.opposite d < 6:=by
 unfold AG.opposite
 have h:=Int.tmod_nonneg (a:=max 0 (min d 5)+3) 6 (by omega)
 have h2:=Int.tmod_lt_of_pos (max 0 (min d 5)+3) (show(0:Int) < 6 by decide)
 exact⟨h,h2⟩
theorem Words.Rz {s:Ao}:∀ {n:Nat},n≤6→(Words.N3 s n).2=true→0≤(Words.N3 s n).1∧(Words.N3 s n).1 < 6
 | 0,_,h=>by cases h
 | n+1,hn,h=>by
  unfold Words.N3 at h ⊢
  split
  ·rename_i c
   show 0≤((5 - n:Nat):Int)∧((5 - n:Nat):Int) < 6
   omega
  ·rename_i c
   rw [if_neg c] at h
   exact Words.Rz (by omega) h
theorem Words.Uz {s:Ao}(h:(Words.dir s).2=true):0≤(Words.dir s).1∧(Words.dir s).1 < 6:=Words.Rz (Nat.le_refl _) h
namespace AE
theorem aK {w:AG}{u:Ao}{l:List Int}{k:Int}(h0:0≤k)(h1:k < l.length)(c:(decide (u = []) || decide ((w.AO.at (l.getD k.toNat 0)).name=u))=true):JY w u (l.take (k+1).toNat)=JY w u (l.take k.toNat) ++ [l.getD k.toNat 0]:=by
 rw [KT (d:=0) h0 h1,JY,List.filter_append,List.filter_cons,if_pos c];rfl
theorem Zh {w:AG}{u:Ao}{l:List Int}{k:Int}(h0:0≤k)(h1:k < l.length)(c:(decide (u = []) || decide ((w.AO.at (l.getD k.toNat 0)).name=u))=false):JY w u (l.take (k+1).toNat)=JY w u (l.take k.toNat):=by
 rw [KT (d:=0) h0 h1,JY,List.filter_append,List.filter_cons,if_neg (by rw [c];decide)];simp [JY]
theorem WX (w:AG)(u:Ao)(l:List Int):(JY w u l).length≤l.length:=List.length_filter_le _ _
theorem KR (T:AE):T.own.length≤9:=AG.IN _ _ _
theorem Im (T:AE):T.seen.length≤9:=by
 unfold seen;split
 ·simp
 ·exact AG.IN _ _ _
theorem RL {T:AE}{i:Int}(h:i∈T.own++T.seen):0≤i∧i < 9:=by
 rcases List.mem_append.1 h with h | h
 ·exact⟨(FO h).1,(FO h).2.1⟩
 ·exact⟨(Je h).1,(Je h).2.1⟩
theorem Lj {T:AE}{i:Int}(h:i∈T.own):0≤i∧i < 9:=⟨(FO h).1,(FO h).2.1⟩
theorem OH {T:AE}{i:Int}(h:i∈T.seen):0≤i∧i < 9:=⟨(Je h).1,(Je h).2.1⟩
theorem VE (T:AE)(u:Ao):0≤(T.one u).1∧(T.one u).1 < 9:=by
 by_cases h:(T.one u).2=true
 ·exact⟨(Oi h).1,(Oi h).2.1⟩
 ·unfold one at h ⊢
  split
  ·exact⟨Int.le_refl _,by decide⟩
  ·rename_i h1
   rw [if_neg h1] at h
   split
   ·exact⟨Int.le_refl _,by decide⟩
   ·rename_i h2
    rw [if_neg h2] at h
    exact absurd rfl h
theorem Zo (T:AE)(u:Ao):0≤(T.box u).2.1∧(T.box u).2.1 < 9:=by
 have h:=T.VE u
 unfold box
 split
 ·exact⟨Int.le_refl _,show(0:Int) < 9 by decide⟩
 ·split
  ·exact⟨Int.le_refl _,show(0:Int) < 9 by decide⟩
  ·exact h
theorem IE (T:AE)(u:Ao):(T.box u).1.out.length≤T.out.length+1:=by
 unfold box
 split
 ·simp
 ·split<;>simp
theorem La (T:AE)(u:Ao):0≤(T.A6 u).2.1∧(T.A6 u).2.1 < 6:=by
 unfold A6
 split
 ·split
  ·rename_i k hk
   have:=MG (Nat.le_refl _) hk
   exact⟨this.1,this.2.1⟩
  ·exact⟨Int.le_refl _,show(0:Int) < 6 by decide⟩
 ·exact⟨Int.le_refl _,show(0:Int) < 6 by decide⟩
theorem HO (T:AE)(u:Ao):(T.A6 u).1.out.length≤T.out.length+1:=by
 unfold A6
 split
 ·split<;>simp
 ·simp
theorem Yt (T:AE)(hb:0≤T.b∧T.b < 6)(r:Int):({ T.w with AN:=(T.w.AN.put T.b { T.w.AN.at T.b with room:=r }).put T.b { (T.w.AN.put T.b { T.w.AN.at T.b with room:=r }).at T.b with B2:=0 } }:AG)=(T.Fu r).w:=by
 rw [Vector.CE hb.1 hb.2,Vector.Ep];rfl
theorem He (T:AE){i:Int}(h0:0≤i)(h9:i < 9)(wh a:Int):({ T.w with AO:=(T.w.AO.put i { T.w.AO.at i with CZ:=wh }).put i { (T.w.AO.put i { T.w.AO.at i with CZ:=wh }).at i with at_:=a } }:AG)=(T.place i wh a).w:=by
 rw [Vector.CE h0 h9,Vector.Ep];rfl
theorem D5 {T:AE}{i:Int}(h0:0≤i)(h9:i < 9)(wh a:Int):((T.place i wh a).w.AO.at i).name=(T.w.AO.at i).name:=by
 rw [HF h0 h9 h0,if_pos rfl]
theorem Dh {T:AE}{i j:Int}(h0:0≤i)(h9:i < 9)(j0:0≤j)(wh a:Int):((T.place i wh a).w.AO.at j).name=(T.w.AO.at j).name:=by
 rw [HF h0 h9 j0]
 split
 ·rename_i e;subst e;rfl
 ·rfl
theorem Vn (T:AE){i:Int}(h0:0≤i)(h9:i < 9)(c:decide ((T.w.AO.at i).kind=2)=true):({ T.w with AO:=(((T.w.AO.put i { T.w.AO.at i with on:=false }).put i { (T.w.AO.put i { T.w.AO.at i with on:=false }).at i with CZ:=0 }).put i { ((T.w.AO.put i { T.w.AO.at i with on:=false }).put i { (T.w.AO.put i { T.w.AO.at i with on:=false }).at i with CZ:=0 }).at i with at_:=(T.w.AN.at T.b).room }) }:AG)=(T.E3 i).w:=by
 rw [Vector.CE h0 h9,Vector.Ep,Vector.CE h0 h9,Vector.Ep]
 unfold E3
 rw [if_pos c];rfl
theorem VS (T:AE){i:Int}(h0:0≤i)(h9:i < 9)(c:decide ((T.w.AO.at i).kind=2)=false):({ T.w with AO:=(T.w.AO.put i { T.w.AO.at i with CZ:=0 }).put i { (T.w.AO.put i { T.w.AO.at i with CZ:=0 }).at i with at_:=(T.w.AN.at T.b).room } }:AG)=(T.E3 i).w:=by
 rw [Vector.CE h0 h9,Vector.Ep]
 unfold E3
 rw [if_neg (by rw [c];decide)];rfl
theorem HK {X:AE}{l:List Int}{k:Int}(h0:0≤k)(h1:k < l.length):X.DG (l.drop k.toNat)=((X.place (l.getD k.toNat 0) 1 X.b).BJ 3 (l.getD k.toNat 0)).DG (l.drop (k+1).toNat):=by
 rw [Nc h0 h1];rfl
theorem MH {X:AE}{l:List Int}{k:Int}(h0:0≤k)(h1:k < l.length):X.Cd (l.drop k.toNat)=(X.E3 (l.getD k.toNat 0)).Cd (l.drop (k+1).toNat):=by
 rw [Nc h0 h1];rfl
theorem J0 {α:Type}{l:List α}:l.drop (l.length:Int).toNat = []:=by rw [show(l.length:Int).toNat=l.length by omega,List.drop_length]
theorem PO {T:AE}{k:Int}(h:0≤k):T.DY (k+1).toNat=if decide (((T.DY k.toNat).w.AN.at k).B2=T.b+1)=true then(T.DY k.toNat).Cj k 0 else T.DY k.toNat:=by
 obtain⟨m,rfl⟩:=Int.eq_ofNat_of_zero_le h
 rfl
theorem Qs (T:AE):∀ k:Nat,(T.DY k).b=T.b∧(T.DY k).out=T.out
 | 0=>⟨rfl,rfl⟩
 | k+1=>by
  unfold DY;split
  ·exact Qs T k
  ·exact Qs T k
theorem I6:∀(l:List Int) (T:AE),(T.Cd l).b=T.b∧(T.Cd l).out=T.out
 | [],T=>⟨rfl,rfl⟩
 | i :: r,T=>by rw [Cd];exact I6 r _
theorem LC {T:AE}{name:Ao}{k n:Int}(h0:0≤k)(h6:k < 6):T.Ir name (6 - k).toNat n=if (decide (k=T.b) || !decide ((T.w.AN.at k).name=name) || !T.w.I5 T.b k)=true then T.Ir name (6 - (k+1)).toNat n else if decide (n - 1=0)=true then some k else T.Ir name (6 - (k+1)).toNat (n - 1):=by
 obtain⟨m,rfl⟩:=Int.eq_ofNat_of_zero_le h0
 have e:(6 - (m:Int)).toNat=(6 - ((m:Int)+1)).toNat+1:=by omega
 rw [e,Ir,show(((6 - ((6 - ((m:Int)+1)).toNat+1):Nat)):Int)=(m:Int) by omega]
@[simp] theorem Fg (T:AE) (k i:Int):(T.BJ k i).out.length=T.out.length+1:=by simp [BJ]
@[simp] theorem LY (T:AE) (k:Int):(T.kind k).out.length=T.out.length+1:=by simp [kind]
theorem Ru (T:AE)(b f:Int):(T.Cj b f).b=T.b∧(T.Cj b f).out=T.out:=⟨rfl,rfl⟩
theorem RN (T:AE):T.FD.b=T.b∧T.FD.out=T.out:=by
 unfold FD
 rw [(Ru _ _ _).1,(Ru _ _ _).2]
 have h1:=AE.I6 T.own T
 have h2:=AE.Qs (T.Cd T.own) 6
 exact⟨h2.1.trans h1.1,h2.2.trans h1.2⟩
theorem DD (T:AE)(b:Int)(x:Aj):(T.DW b x).b=T.b∧(T.DW b x).out=T.out∧(T.DW b x).w={ T.w with AN:=T.w.AN.put b x }:=⟨rfl,rfl,rfl⟩
theorem O4 (T:AE):T.GG.b=(T.kind 18).b∧T.GG.out=(T.kind 18).out∧T.GG.w={ (T.kind 18).FD.w with AN:=(T.kind 18).FD.w.AN.put (T.kind 18).b default }:=by
 unfold GG
 rw [(DD _ _ _).1,(DD _ _ _).2.1,(DD _ _ _).2.2]
 exact⟨(RN _).1,(RN _).2,rfl⟩
theorem Sl {l:List Int}(h:∀ i∈l,0≤i∧i < 9):0≤l.getD (0:Int).toNat 0∧l.getD (0:Int).toNat 0 < 9:=by
 cases l with
 | nil=>exact⟨Int.le_refl _,show(0:Int) < 9 by decide⟩
 | cons x r=>exact h x (List.mem_cons_self ..)
theorem PW (T:AE)(v to i:Int):(T.Cs v to i).out.length≤T.out.length+1:=by
 unfold Cs
 split
 ·simp
 ·split
  ·rw [Fg];exact Nat.le_refl _
  ·split
   ·rw [Cg];exact Nat.le_refl _
   ·split
    ·simp
    ·rw [Cg];exact Nat.le_refl _
theorem X1 (T:AE)(v to i:Int):(T.Cs v to i).b=T.b:=by
 unfold Cs
 split
 ·rfl
 ·split
  ·rfl
  ·split
   ·rfl
   ·split<;>rfl
theorem P2 (T:AE)(o:Order):(T.Cu o).1.out.length≤T.out.length+1:=by
 unfold Cu
 split
 ·exact T.IE _
 ·split
  ·exact T.HO _
  ·exact Nat.le_succ _
theorem WD {X:AG}{b:Int}(hw:X.DL)(c1:(!X.Bh)=false)(c2:(decide (b < 0) || decide (6≤b) || !(X.AN.at b).here)=false):Fit ⟨X,b,[]⟩:=by
 simp only [Bool.or_eq_false_iff,decide_eq_false_iff_not,Bool.not_eq_false'] at c1 c2
 exact⟨⟨by show 0≤b;omega,by show b < 6;omega⟩,hw,c1,c2.2⟩
end AE
end Go.Ing
/- Engine: texts deep within what came in, as parts of its reading. -/
namespace Go.Ing
open Go
section
open Go.RowKit Go.ChangeShapes Go.WideShapes Go.ChangeAt
variable {H:Type} {enc:TypeId × Value→H} {P:Program} {w:World}
end
end Go.Ing
/- Laws of what beings do: doors; that rules answer at all. -/
namespace Go.Ing
open Go
theorem Vector.Nu {α:Type}[Inhabited α]{n:Nat}(v:Vector α n)(i:Int):v.at i=default∨∃ j:Int,0≤j∧j < n∧v.at i=v.at j:=by
 by_cases h:i.toNat < n
 ·exact .inr ⟨(i.toNat:Int),by omega,by omega,by unfold Vector.at;rw [show((i.toNat:Nat):Int).toNat=i.toNat by omega]⟩
 ·refine .inl ?_
  unfold Vector.at
  rw [List.getD_eq_getElem?_getD,List.getElem?_eq_none (by simp;omega)]
  rfl
namespace AE
structure Yi (X:AG)(b:Int)(o:Order):Prop where
 gd:X.Bh=true
 br:0≤b∧b < 6
 here:(X.AN.at b).here=true
 v:0≤o.verb∧o.verb≤20
 w:(EF X b o).1=(AE.act ⟨X,b,[]⟩ o).w
 out:(EF X b o).2.1=(AE.act ⟨X,b,[]⟩ o).out
theorem dv {X:AG}{b:Int}{o:Order}(h:(EF X b o).2.2=0):Yi X b o:=by
 unfold EF at h
 split at h
 ·cases h
 ·rename_i h1
  split at h
  ·cases h
  ·rename_i h2
   split at h
   ·cases h
   ·rename_i h3
    have h2':=h2
    have h3':=h3
    have hd:EF X b o=((AE.act ⟨X,b,[]⟩ o).w,(AE.act ⟨X,b,[]⟩ o).out,0):=(if_neg h1).trans ((if_neg h2).trans (if_neg h3))
    simp only [Bool.or_eq_true,decide_eq_true_eq,Bool.not_eq_true',not_or,Bool.not_eq_false] at h1 h2' h3'
    exact⟨h1,⟨by omega,by omega⟩,h2'.2,⟨by omega,by omega⟩,by rw [hd],by rw [hd]⟩
theorem Yi.fit {X:AG}{b:Int}{o:Order}(h:Yi X b o)(hw:X.DL):Fit ⟨X,b,[]⟩:=⟨h.br,hw,h.gd,h.here⟩
end AE
end Go.Ing
/- What beings do keeps the land good: all orders. -/
namespace Go.Ing
open Go
namespace AE
theorem H7 {T:AE}(h:T.Fit){c f:Int}(c0:0≤c)(c6:c < 6)(f0:0≤f)(f6:f≤6)(hh:f≠0→(T.w.AN.at c).here=true):DJ T (T.Cj c f):=by
 have hg:=AG.FW h.gd c0 c6
 have hb:∀ a,0≤a→((T.Cj c f).w.AN.at a).here=(T.w.AN.at a).here:=fun a a0=>by
  show((T.w.AN.put c { T.w.AN.at c with B2:=f }).at a).here=_
  rw [IY _ _ _ _ c0 c6 a0]
  split
  ·rename_i e;subst e;rfl
  ·rfl
 refine⟨rfl,⟨h.b,Eo h.br (h.br.be c),AG.I0 h.gd c0 c6 ?_ fun i i0 i9 hw ha=>?_,(hb T.b h.b.1).trans h.here⟩,MS c0 c6 fun _=>rfl⟩
 ·unfold AG.Dm at hg ⊢
  simp only [Bool.or_eq_false_iff,decide_eq_false_iff_not,Bool.and_eq_false_iff,Bool.not_eq_false'] at hg ⊢
  obtain⟨⟨⟨⟨⟨⟨⟨q1,q2⟩,q3⟩,q4⟩,q5⟩,q6⟩,q7⟩,q8⟩:=hg
  refine⟨⟨⟨⟨⟨⟨⟨q1,q2⟩,q3⟩,q4⟩,by omega⟩,by omega⟩,?_⟩,q8⟩
  by_cases e:f=0
  ·exact .inr (by simp [e])
  ·exact .inl (hh e)
 ·show(T.w.AN.at c).here=true
  have:=AG.Hh h.gd i0 i9
  rcases this.CZ with ⟨a,_⟩ | ⟨_,_,a⟩ | ⟨a,_⟩
  ·omega
  ·rw [ha] at a;exact a
  ·omega
theorem To {T:AE}(h:T.Fit)(o:Order):DJ T (T.E7 o):=by
 unfold E7
 generalize (if (!decide (o.nth=1) || o.Bm)=true then [] else o.name)=nm
 have hw:=T.JA nm
 have g:DJ T (T.A6 nm).1:=h.goes.Ei hw.1 hw.2
 split
 ·exact g
 ·rename_i h1
  have hs:=J5 (T:=T) (u:=nm) (by simpa using h1)
  have hk:(T.w.AN.at (T.A6 nm).2.1).here=true:=(AG.HP (AG.K5 hs.2.2.2).2.1).2.2
  have hgb:=g.fit.b
  have g1:=g.trans (H7 g.fit (c:=(T.A6 nm).1.b) (f:=(T.A6 nm).2.1+1) g.fit.b.1 g.fit.b.2 (by omega) (by omega) fun _=>g.fit.here)
  have key:DJ T (if decide ((((T.A6 nm).1.Cj (T.A6 nm).1.b ((T.A6 nm).2.1+1)).w.AN.at (T.A6 nm).2.1).B2=0)=true then((T.A6 nm).1.Cj (T.A6 nm).1.b ((T.A6 nm).2.1+1)).Cj (T.A6 nm).2.1 ((T.A6 nm).1.b+1) else(T.A6 nm).1.Cj (T.A6 nm).1.b ((T.A6 nm).2.1+1)):=by
   split
   ·refine g1.trans (H7 g1.fit hs.1 hs.2.1 (by omega) (by omega) fun _=>?_)
    show(((T.A6 nm).1.w.AN.put (T.A6 nm).1.b _).at _).here=true
    rw [IY _ _ _ _ g.fit.b.1 g.fit.b.2 hs.1,if_neg (by rw [hw.2];exact hs.2.2.1),hw.1]
    exact hk
   ·exact g1
  exact key.Ei rfl rfl
theorem M4 {T:AE}(h:T.Fit){first:Bool}{i:Int}{v:Bool}{ev:Int}(hm:Iy T.w T.b i)(h1:(T.w.AO.at i).kind≠0)(h2:(T.w.AO.at i).kind=2→(T.w.AO.at i).CZ=1):DJ T (T.before first i v ev):=by
 unfold before
 split
 ·have g:=EZ h hm (t:={ T.w.AO.at i with on:=v }) rfl rfl (AG.Ua h.gd hm.1 hm.2.1 h1 h2)
  exact g.Ei rfl rfl
 ·have g:DJ T (T.BJ ev i):=h.goes.Ei rfl rfl
  exact g.trans (EZ g.fit hm rfl rfl (AG.Ua h.gd hm.1 hm.2.1 h1 h2))
theorem LZ {T:AE}(h:T.Fit){r d:Int}{v:Bool}(r0:0≤r)(r6:r < 6)(d0:0≤d)(d6:d < 6)(hv:v=true→(T.w.BS.at r).CP.at d≠0):DJ T (T.C7 r d v):=
 ⟨rfl,⟨h.b,UN h.br,AG.W2 h.gd r0 r6 d0 d6 hv,h.here⟩,Vo r0 r6⟩
theorem V8 {T:AE}(h:T.Fit){d:Int}{on:Bool}{ev:Int}(d0:0≤d)(d6:d < 6):DJ T (T.Gi d on ev):=by
 have hx:=h.exit d0 d6
 have hr:=h.room
 unfold Gi
 split
 ·exact h.goes.Ei rfl rfl
 ·rename_i h1
  split
  ·exact h.goes.Ei rfl rfl
  ·have h1':¬ (T.w.BS.at (T.w.AN.at T.b).room).CP.at d - 1 < 0:=fun e=>h1 (decide_eq_true e)
   have g1:=LZ h (v:=!on) hr.1 hr.2 d0 d6 fun _=>by omega
   have ho:=AG.Ly d
   have key:DJ T (if decide (((T.C7 T.me.room d (!on)).w.BS.at ((T.w.BS.at T.me.room).CP.at d - 1)).CP.at (AG.opposite d)=T.me.room+1)=true then(T.C7 T.me.room d (!on)).C7 ((T.w.BS.at T.me.room).CP.at d - 1) (AG.opposite d) (!on) else T.C7 T.me.room d (!on)):=by
    split
    ·rename_i h3
     refine g1.trans (LZ g1.fit (v:=!on) (r:=(T.w.BS.at (T.w.AN.at T.b).room).CP.at d - 1) (d:=AG.opposite d) (by omega) (by omega) ho.1 ho.2 fun _=>?_)
     have h3':=of_decide_eq_true h3
     intro e
     have h3'':((T.C7 T.me.room d (!on)).w.BS.at ((T.w.BS.at (T.w.AN.at T.b).room).CP.at d - 1)).CP.at (AG.opposite d)=(T.w.AN.at T.b).room+1:=h3'
     have e':((T.C7 T.me.room d (!on)).w.BS.at ((T.w.BS.at (T.w.AN.at T.b).room).CP.at d - 1)).CP.at (AG.opposite d)=0:=e
     omega
    ·exact g1
   exact key.Ei rfl rfl
theorem SY {v:Int}:setKind v=1∨setKind v=2∨setKind v=3:=by
 unfold setKind
 split
 ·exact .inl rfl
 ·split
  ·exact .inr (.inl rfl)
  ·exact .inr (.inr rfl)
theorem Y6 {T:AE}(h:T.Fit)(o:Order):DJ T (T.set o):=by
 unfold set
 split
 ·rename_i h1
  have:=Words.Uz (Bool.and_eq_true_iff.1 h1).1
  exact V8 h this.1 this.2
 ·split
  ·exact h.goes.Ei rfl rfl
  ·rename_i h2
   split
   ·exact h.goes.Ei rfl rfl
   ·simp only [Bool.or_eq_true,decide_eq_true_eq,Bool.not_eq_true',decide_eq_false_iff_not,not_or,Decidable.not_not] at h2
    have hm:(T.ET o).getD 0 0∈T.ET o:=O2 (decide_eq_false h2.1)
    have hm2:=Dt hm
    have hk:=SY (v:=o.verb)
    have hmine:Iy T.w T.b ((T.ET o).getD 0 0)∧(setKind o.verb=2→(T.w.AO.at ((T.ET o).getD 0 0)).CZ=1):=by
     split at hm2
     ·rename_i h3
      have h3':=of_decide_eq_true h3
      rcases List.mem_append.1 hm2 with hq | hq
      ·exact⟨(FO hq).Qq,fun e=>by omega⟩
      ·exact⟨Mc hq,fun e=>by omega⟩
     ·exact⟨(FO hm2).Qq,fun _=>(FO hm2).2.2.1⟩
    have hk0:(T.w.AO.at ((T.ET o).getD 0 0)).kind≠0:=by rw [h2.2];omega
    have hk2:(T.w.AO.at ((T.ET o).getD 0 0)).kind=2→(T.w.AO.at ((T.ET o).getD 0 0)).CZ=1:=fun e=>hmine.2 (by rw [← h2.2];exact e)
    split
    ·exact M4 h hmine.1 hk0 hk2
    ·exact M4 h hmine.1 hk0 hk2
theorem Jw {T:AE}{i j:Int}(h0:0≤i)(h9:i < 9)(j0:0≤j):(T.E3 i).w.AO.at j=if j=i then { T.w.AO.at i with on:=if decide ((T.w.AO.at i).kind=2)=true then false else(T.w.AO.at i).on,CZ:=0,at_:=T.me.room } else T.w.AO.at j:=IY _ _ _ _ h0 h9 j0
theorem RY {T:AE}(h:T.Fit){i:Int}(hm:Iy T.w T.b i):DJ T (T.E3 i):=
 EZ h hm rfl rfl (AG.M0 h.gd hm.1 hm.2.1 h.room (fun e=>by rw [if_neg (by rw [e];decide)];exact(AG.Hh h.gd hm.1 hm.2.1).plain e) (fun⟨e1,e2⟩=>by rw [if_pos (decide_eq_true e1)] at e2;cases e2))
theorem JS:∀ {l:List Int} {T:AE},T.Fit→(∀ i∈l,Iy T.w T.b i)→DJ T (T.Cd l)∧∀ j,0≤j→j < 9→(((T.Cd l).w.AO.at j).CZ=0∨(j ∉ l∧(T.Cd l).w.AO.at j=T.w.AO.at j))
 | [],T,h,_=>⟨h.goes,fun j _ _=> .inr ⟨by simp,rfl⟩⟩
 | i :: r,T,h,hm=>by
  have hi:=hm i (List.mem_cons_self ..)
  have g1:=RY h hi
  obtain⟨g2,k2⟩:=JS (l:=r) g1.fit fun j hj=>by
   have hj':=hm j (List.mem_cons_of_mem _ hj)
   refine⟨hj'.1,hj'.2.1,?_⟩
   rw [Jw hi.1 hi.2.1 hj'.1]
   split
   ·intro e;cases e
   ·exact hj'.2.2
  refine⟨g1.trans g2,fun j j0 j9=>?_⟩
  rcases k2 j j0 j9 with e | ⟨e1,e2⟩
  ·exact .inl e
  ·have hd:=Jw (T:=T) hi.1 hi.2.1 j0
   by_cases hji:j=i
   ·rw [if_pos hji] at hd
    exact .inl (by rw [show(T.Cd (i :: r)).w.AO.at j=_ from e2,hd])
   ·rw [if_neg hji] at hd
    exact .inr ⟨by simp [hji,e1],e2.trans hd⟩
theorem Ky {T:AE}(h:T.Fit):∀ {k:Nat},k≤6→DJ T (T.DY k)∧(T.DY k).w.AO=T.w.AO
 | 0,_=>⟨h.goes,rfl⟩
 | k+1,hk=>by
  obtain⟨g,e⟩:=Ky (k:=k) h (by omega)
  unfold DY
  split
  ·exact⟨g.trans (H7 g.fit (by omega) (by omega) (Int.le_refl _) (by decide) fun e=>absurd rfl e),e⟩
  ·exact⟨g,e⟩
theorem Li (T:AE):T.FD=((T.Cd T.own).DY 6).Cj T.b 0:=by unfold FD;rfl
theorem Zp {T:AE}(h:T.Fit):DJ T T.FD:=by
 have g1:=(JS h (l:=T.own) fun i hi=>(FO hi).Qq).1
 have g2:=(Ky g1.fit (k:=6) (Nat.le_refl _)).1
 have g3:=g1.trans g2
 have g4:=H7 g3.fit (c:=T.b) (f:=0) h.b.1 h.b.2 (Int.le_refl _) (by decide) (fun e=>(e rfl).elim)
 rw [Li]
 exact g3.trans g4
theorem Pu (T:AE)(b f:Int):(T.Cj b f).w.AO=T.w.AO:=rfl
theorem Sb {T:AE}(h:T.Fit){j:Int}(j0:0≤j)(j9:j < 9):¬ ((T.FD.w.AO.at j).CZ=1∧(T.FD.w.AO.at j).at_=T.b):=by
 obtain⟨g1,k1⟩:=JS h (l:=T.own) fun i hi=>(FO hi).Qq
 have k2:=(Ky g1.fit (k:=6) (Nat.le_refl _)).2
 rw [Li,Pu,k2]
 rcases k1 j j0 j9 with e | ⟨e1,e2⟩
 ·rw [e];exact fun h=>by cases h.1
 ·rw [e2]
  intro⟨a,b⟩
  refine e1 ?_
  unfold own AG.has
  exact List.mem_filter.2 ⟨List.mem_map.2 ⟨j.toNat,List.mem_range.2 (by omega),by show((j.toNat:Nat):Int)=j;omega⟩,by rw [a,b];simp⟩
theorem Qi {T:AE}(h:T.Fit):DJ T T.FD∧∀ j,0≤j→j < 9→¬ ((T.FD.w.AO.at j).CZ=1∧(T.FD.w.AO.at j).at_=T.b):=⟨Zp h,fun _ j0 j9=>Sb h j0 j9⟩
theorem Tq {T:AE}(h:T.Fit):T.GG.w.Bh=true∧Step T.b T.w T.GG.w:=by
 have g1:DJ T (T.kind 18):=h.goes.Ei rfl rfl
 obtain⟨g2,k⟩:=Qi g1.fit
 have g:=g1.trans g2
 rw [(T.O4).2.2]
 exact⟨AG.I0 (X:=(T.kind 18).FD.w) g.fit.gd h.b.1 h.b.2 (by decide) fun i i0 i9 e1 e2=>absurd ⟨e1,e2⟩ (k i i0 i9),g.st.trans (MS h.b.1 h.b.2 fun e=>absurd rfl e)⟩
theorem WN {T:AE}(h:T.Fit)(o:Order)(h0:0≤o.verb)(h1:o.verb≤20):(T.act o).w.Bh=true∧Step T.b T.w (T.act o).w:=by
 have k:∀ {T':AE},DJ T T'→T'.w.Bh=true∧Step T.b T.w T'.w:=fun g=>⟨g.fit.gd,g.st⟩
 unfold act
 split
 ·rename_i c;exact k (Vi h h0 (of_decide_eq_true c))
 ·split
  ·exact k (QU h)
  ·split
   ·exact k (h.goes.Ei (T.Hq _ _).1 (T.Hq _ _).2.1)
   ·split
    ·exact k (h.goes.Ei rfl rfl)
    ·split
     ·exact Tq h
     ·split
      ·exact k (To h o)
      ·split
       ·exact k (XZ h o)
       ·split
        ·rename_i c
         simp only [Bool.or_eq_true,decide_eq_true_eq] at c
         exact k (UO h (by omega))
        ·exact k (Y6 h o)
theorem keeps {X:AG}{b:Int}{o:Order}(hw:X.DL)(h:(EF X b o).2.2=0):(EF X b o).1.Bh=true∧Step b X (EF X b o).1:=by
 have k:=dv h
 rw [k.w]
 exact WN (k.fit hw) o k.v.1 k.v.2
end AE
end Go.Ing

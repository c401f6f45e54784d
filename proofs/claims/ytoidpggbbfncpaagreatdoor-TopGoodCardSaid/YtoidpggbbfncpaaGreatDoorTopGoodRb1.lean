/- What the functions that the law of this seat reaches compute, and the plain laws of it. No condition. -/
import Derived.Test.YtoidpggbbfncpaaGreatDoorTopGoodEc3
import Derived.Test.YtoidpggbbfncpaaGreatDoorTopGoodRa1
set_option linter.unusedSimpArgs false
set_option linter.unusedVariables false
/- What people type: plain functions, and what is known of pieces. -/
namespace Go.Ing
open Go
namespace Words
theorem Ln (c:UInt8):∀ s:Aq,(Lib.indexByte s c=-1∧c ∉ s)∨∃ i:Nat,Lib.indexByte s c=i∧i < s.length∧c ∉ s.take i∧s.drop i=c :: s.drop (i+1)
 | []=> .inl ⟨rfl,by simp⟩
 | b :: r=>by
  by_cases h:b=c
  ·subst h
   exact .inr ⟨0,by simp [Lib.indexByte],by simp,by simp,by simp⟩
  ·have hb:(b == c)=false:=by simpa using h
   rcases Ln c r with ⟨h1,h2⟩ | ⟨i,h1,h2,h3,h4⟩
   ·exact .inl ⟨by simp [Lib.indexByte,hb,h1],by simp [Ne.symm h,h2]⟩
   ·refine .inr ⟨i+1,?_,by simp;omega,?_,by simpa using h4⟩
    ·have:((i:Int) == -1)=false:=by simp
     simp [Lib.indexByte,hb,h1,this]
    ·simp [Ne.symm h,h3]
def pieces (c:UInt8):Aq→List Aq
 | []=> [[]]
 | x :: r=>if x=c then [] :: pieces c r else(x :: (pieces c r).headD []) :: (pieces c r).tail
theorem P7 (c:UInt8)(s:Aq):pieces c s≠ []:=by
 cases s with
 | nil=>simp [pieces]
 | cons x r=>unfold pieces;split<;>simp
theorem Kd {c:UInt8}:∀ {s:Aq},c ∉ s→pieces c s = [s]
 | [],_=>rfl
 | x :: r,h=>by
  simp only [List.mem_cons,not_or] at h
  rw [pieces,if_neg (Ne.symm h.1),Kd h.2];rfl
theorem LX {c:UInt8}(r:Aq):∀ {a:Aq},c ∉ a→pieces c (a++c :: r)=a :: pieces c r
 | [],_=>by simp [pieces]
 | x :: a,h=>by
  simp only [List.mem_cons,not_or] at h
  rw [List.cons_append,pieces,if_neg (Ne.symm h.1),LX r h.2];rfl
theorem FQ (c:UInt8):∀ s:Aq,(pieces c s).length=s.count c+1
 | []=>rfl
 | x :: r=>by
  unfold pieces
  have ih:=FQ c r
  have hne:=P7 c r
  split
  ·rename_i h;simp [h,ih]
  ·rename_i h
   have:(x == c)=false:=by simpa using h
   rw [List.count_cons,this]
   obtain⟨p,q,hp⟩:=List.exists_cons_of_ne_nil hne
   rw [hp] at ih ⊢
   simpa using ih
theorem Ss {c:UInt8}{s:Aq}{i:Nat}(h3:c ∉ s.take i)(h4:s.drop i=c :: s.drop (i+1)):pieces c s=s.take i :: pieces c (s.drop (i+1)):=by
 conv=>lhs;rw [← List.take_append_drop i s,h4]
 exact LX _ h3
/-! #### small letters -/
def VV (c:UInt8):UInt8:=if (decide (65≤(c.toNat:Int)) && decide ((c.toNat:Int)≤90))=true then u8 ((c.toNat:Int)+97 - 65) else c
def low (w:Aq):Aq:=w.map VV
def words (s:Aq):List Aq:=((pieces 32 s).filter fun w=>!decide (w = [])).map low
theorem Ys {c:UInt8}(h:(decide (65≤(c.toNat:Int)) && decide ((c.toNat:Int)≤90))=true):u8 ((c.toNat:Int)+97 - 65)=VV c:=(if_pos h).symm
theorem Yd {c:UInt8}(h:(decide (65≤(c.toNat:Int)) && decide ((c.toNat:Int)≤90))=false):VV c=c:=if_neg (by rw [h];decide)
def Hg (w:Aq)(k:Nat):Aq:=(w.take k).map VV++w.drop k
theorem Nq (w:Aq)(k:Nat):(Hg w k).length=w.length:=by simp [Hg];omega
theorem UK {w:Aq}{k:Int}(h0:0≤k)(h1:k < w.length):(Hg w k.toNat).getD k.toNat 0=w.getD k.toNat 0:=by
 have hk:k.toNat < w.length:=by omega
 unfold Hg
 rw [List.getD_eq_getElem?_getD,List.getElem?_append_right (by simp;omega)]
 simp [List.getD_eq_getElem?_getD,Nat.min_eq_left (Nat.le_of_lt hk)]
theorem Xc (w:Aq):Hg w w.length=low w:=by simp [Hg,low]
theorem Rn {w:Aq}{k:Int}(h0:0≤k)(h1:k < w.length):(Hg w k.toNat).set k.toNat (VV (w.getD k.toNat 0))=Hg w (k+1).toNat:=by
 obtain⟨n,rfl⟩:=Int.eq_ofNat_of_zero_le h0
 have hn:n < w.length:=by omega
 rw [show((n:Int)).toNat=n by omega,show((n:Int)+1).toNat=n+1 by omega]
 unfold Hg
 rw [List.drop_eq_getElem_cons hn,List.set_append_right _ _ (by simp;omega)]
 simp only [List.length_map,List.length_take,Nat.min_eq_left (Nat.le_of_lt hn),Nat.sub_self,List.set_cons_zero]
 rw [List.take_add_one,List.map_append,List.append_assoc]
 simp [List.getD_eq_getElem?_getD,hn]
theorem VI {w:Aq}{k:Int}(h0:0≤k)(h1:k < w.length)(h:VV (w.getD k.toNat 0)=w.getD k.toNat 0):Hg w k.toNat=Hg w (k+1).toNat:=by
 rw [← Rn h0 h1,h]
 have hk:k.toNat < (Hg w k.toNat).length:=by rw [Nq];omega
 have e:=UK h0 h1
 rw [← e,List.getD_eq_getElem?_getD,List.getElem?_eq_getElem hk]
 simp
structure Oe (c:UInt8)(s:Aq)(i:Int)(r:Aq)(xs:List Aq):Prop where
 i0:0≤i
 i1:i≤s.count c
 len:xs.length=s.count c+1
 eq:pieces c s=xs.take i.toNat++pieces c r
 rl:r.length≤s.length
theorem Oe.start (c:UInt8)(s:Aq)(n:Nat)(hn:n=s.count c+1):Oe c s 0 s (List.replicate n []):=
 ⟨Int.le_refl _,by omega,by simp [hn],by simp,Nat.le_refl _⟩
theorem Oe.left {c:UInt8}{s:Aq}{i:Int}{r:Aq}{xs:List Aq}(h:Oe c s i r xs):(r.count c:Int)=s.count c - i:=by
 have:=congrArg List.length h.eq
 rw [List.length_append,FQ,FQ,List.length_take,h.len] at this
 have h1:=h.i0;have h2:=h.i1
 omega
theorem Oe.next {c:UInt8}{s:Aq}{i:Int}{r:Aq}{xs:List Aq}(h:Oe c s i r xs){m:Int}(hm:Lib.indexByte r c=m)(h0:¬ m < 0):0≤m∧m < r.length∧Oe c s (i+1) (r.drop (m+1).toNat) (xs.set i.toNat (r.take m.toNat)):=by
 have hi:=h.i0
 rcases Ln c r with ⟨e,_⟩ | ⟨j,e,h1,h2,h3⟩
 ·omega
 ·obtain rfl:m=j:=by omega
  have hl:=h.left
  have hp:=Ss h2 h3
  have hc:(pieces c r).length=(pieces c (r.drop (j+1))).length+1:=by rw [hp];simp
  rw [FQ,FQ] at hc
  have hx:=h.len
  refine⟨by omega,by omega,by omega,by omega,by simp [hx],?_,by simp;have:=h.rl;omega⟩
  rw [h.eq,hp,show(i+1).toNat=i.toNat+1 by omega,show((j:Int)+1).toNat=j+1 by omega,show((j:Int)).toNat=j by omega,List.take_add_one,List.getElem?_set_self (by omega),List.take_set_of_le (by omega)]
  simp
theorem Oe.done {c:UInt8}{s:Aq}{i:Int}{r:Aq}{xs:List Aq}(h:Oe c s i r xs)(he:¬ i < (s.count c:Int)∨Lib.indexByte r c < 0):i=s.count c∧(xs.set i.toNat r).take (i+1).toNat=pieces c s:=by
 have hi:=h.i0;have hi1:=h.i1;have hl:=h.left;have hx:=h.len
 have hc:c ∉ r:=by
  rcases he with he | he
  ·intro hm;have:=List.count_pos_iff.2 hm;omega
  ·rcases Ln c r with ⟨_,h2⟩ | ⟨j,e,_⟩
   ·exact h2
   ·omega
 have h0:r.count c=0:=List.count_eq_zero.2 hc
 refine⟨by omega,?_⟩
 rw [h.eq,Kd hc,show(i+1).toNat=i.toNat+1 by omega,List.take_add_one,List.getElem?_set_self (by omega),List.take_set_of_le (by omega)]
 rfl
theorem IE {c:UInt8}:∀ {s:Aq} {p:Aq},p∈pieces c s→p.length≤s.length
 | [],p,h=>by simp [pieces] at h;simp [h]
 | x :: r,p,h=>by
  unfold pieces at h
  obtain⟨q,t,hq⟩:=List.exists_cons_of_ne_nil (P7 c r)
  have ih:=@IE c r
  rw [hq] at h ih
  split at h
  ·rcases List.mem_cons.1 h with h | h
   ·simp [h]
   ·have:=ih h;simp;omega
  ·simp only [List.headD_cons,List.tail_cons] at h
   rcases List.mem_cons.1 h with h | h
   ·have:=ih (p:=q) (by simp);rw [h];simp;omega
   ·have:=ih (p:=p) (by simp [h]);simp;omega
theorem VK {c:UInt8}{s:Aq}(i:Nat):((pieces c s).getD i []).length≤s.length:=by
 rw [List.getD_eq_getElem?_getD]
 cases h:(pieces c s)[i]? with
 | none=>simp
 | some p=>exact IE (List.mem_of_getElem? h)
def I6 (s:Aq)(k:Nat):List Aq:=(((pieces 32 s).take k).filter fun w=>!decide (w = [])).map low
theorem Ov (s:Aq):words s=I6 s ((pieces 32 s).length:Int).toNat:=by
 rw [I6,show((pieces 32 s).length:Int).toNat=(pieces 32 s).length by omega,List.take_length];rfl
theorem P5 {α:Type}{xs:List α}{d:α}{k:Int}(h0:0≤k)(h1:k < xs.length):xs.take (k+1).toNat=xs.take k.toNat ++ [xs.getD k.toNat d]:=by
 have hk:k.toNat < xs.length:=by omega
 rw [show(k+1).toNat=k.toNat+1 by omega,List.take_add_one,List.getD_eq_getElem?_getD,List.getElem?_eq_getElem hk]
 rfl
theorem Xa {s:Aq}{k:Int}(h0:0≤k)(h1:k < (pieces 32 s).length)(h:(!decide ((pieces 32 s).getD k.toNat [] = []))=true):I6 s (k+1).toNat=I6 s k.toNat ++ [low ((pieces 32 s).getD k.toNat [])]:=by
 unfold I6
 rw [P5 (d:= []) h0 h1,List.filter_append,List.map_append]
 congr 1
 rw [List.filter_cons_of_pos (p:=fun w:Aq=>!decide (w = [])) h];rfl
theorem Xy {s:Aq}{k:Int}(h0:0≤k)(h1:k < (pieces 32 s).length)(h:(!decide ((pieces 32 s).getD k.toNat [] = []))=false):I6 s (k+1).toNat=I6 s k.toNat:=by
 unfold I6
 rw [P5 (d:= []) h0 h1,List.filter_append,List.map_append,List.filter_cons_of_neg (p:=fun w:Aq=>!decide (w = [])) (by rw [h];decide)]
 simp
/-! #### verbs -/
def pre (s p:Aq):Bool:=decide ((p.length:Int)≤(s.length:Int)) && decide (s.take p.length=p)
def J1 (w:Aq):Nat→Int × Int
 | 0=>(0,3)
 | n+1=>if pre (AH.GW.getD (20 - n) []) w=true then(((20 - n:Nat):Int),0) else J1 w n
def verb (w:Aq):Int × Int:=if (!decide (w = []))=true then J1 w 21 else(0,3)
theorem Sq {w:Aq}{k:Int}(h0:0≤k)(h1:k < 21):J1 w (21 - k).toNat=if pre (AH.GW.getD k.toNat []) w=true then(k,0) else J1 w (21 - (k+1)).toNat:=by
 rw [show(21 - k).toNat=(21 - (k+1)).toNat+1 by omega,J1,show 20 - (21 - (k+1)).toNat=k.toNat by omega,show((k.toNat:Nat):Int)=k by omega]
def Zb:Vector Aq 21:=⟨AH.GW.toArray,rfl⟩
theorem Tk:CH A7 Zb=AH.DG:=by kernel_rfl
/-! #### cutting and trimming -/
def Mt (s p:Aq):Aq × Bool:=if (!pre s p)=true then(s,false) else(s.drop p.length,true)
def cut (c:UInt8)(s:Aq):Aq × Aq × Bool:=if decide (0≤Lib.indexByte s c)=true then(s.take (Lib.indexByte s c).toNat,s.drop (Lib.indexByte s c+1).toNat,true) else(s,[],false)
theorem Z6 {c:UInt8}{s:Aq}(h:0≤Lib.indexByte s c):Lib.indexByte s c < s.length:=by
 rcases Ln c s with ⟨e,_⟩ | ⟨i,e,h1,_⟩<;>omega
theorem NM (c:UInt8)(s:Aq):(cut c s).1.length≤s.length∧(cut c s).2.1.length≤s.length:=by
 unfold cut;split<;>simp;omega
def QA (c:UInt8)(s:Aq):Aq:=s.dropWhile (·== c)
def Rq (c:UInt8)(s:Aq):Aq:=(s.reverse.dropWhile (·== c)).reverse
theorem ZK {x c:UInt8}(h:(x.toNat:Int)=(c.toNat:Int)):x=c:=UInt8.toNat_inj.1 (by omega)
theorem bJ {c:UInt8}{r:Aq}(h:(decide ((0:Int) < (r.length:Int)) && decide (((r.getD (0:Int).toNat 0).toNat:Int)=(c.toNat:Int)))=true):QA c r=QA c (r.drop 1):=by
 cases r with
 | nil=>simp at h
 | cons x r=>
  simp only [Bool.and_eq_true,decide_eq_true_eq] at h
  have:x=c:=ZK h.2
  subst this
  simp [QA]
theorem cA {c:UInt8}{r:Aq}(h:(decide ((0:Int) < (r.length:Int)) && decide (((r.getD (0:Int).toNat 0).toNat:Int)=(c.toNat:Int)))=false):QA c r=r:=by
 cases r with
 | nil=>rfl
 | cons x r=>
  have hx:(x == c)=false:=by
   rw [Bool.eq_false_iff]
   intro e
   have:x=c:=by simpa using e
   subst this
   simp at h
  simp [QA,hx]
theorem bP {c:UInt8}{r:Aq}(h:(decide ((0:Int) < (r.length:Int)) && decide (((r.getD ((r.length:Int) - 1).toNat 0).toNat:Int)=(c.toNat:Int)))=true):Rq c r=Rq c (r.take ((r.length:Int) - 1).toNat):=by
 simp only [Bool.and_eq_true,decide_eq_true_eq] at h
 have hne:r≠ []:=by rintro rfl;simp at h
 obtain⟨q,x,rfl⟩:∃ q x,r=q ++ [x]:=⟨r.dropLast,r.getLast hne,(List.dropLast_concat_getLast hne).symm⟩
 have e:(((q ++ [x]).length:Int) - 1).toNat=q.length:=by simp
 rw [e] at h ⊢
 have:x=c:=ZK (by simpa [List.getD_eq_getElem?_getD] using h.2)
 subst this
 simp [Rq]
theorem aQ {c:UInt8}{r:Aq}(h:(decide ((0:Int) < (r.length:Int)) && decide (((r.getD ((r.length:Int) - 1).toNat 0).toNat:Int)=(c.toNat:Int)))=false):Rq c r=r:=by
 by_cases hne:r = []
 ·subst hne;rfl
 ·obtain⟨q,x,rfl⟩:∃ q x,r=q ++ [x]:=⟨r.dropLast,r.getLast hne,(List.dropLast_concat_getLast hne).symm⟩
  have e:(((q ++ [x]).length:Int) - 1).toNat=q.length:=by simp
  rw [e] at h
  have hx:(x == c)=false:=by
   rw [Bool.eq_false_iff]
   intro e
   have:x=c:=by simpa using e
   subst this
   simp [List.getD_eq_getElem?_getD] at h
  simp [Rq,hx]
theorem LQ (c:UInt8)(s:Aq):(QA c s).length≤s.length:=(List.dropWhile_sublist _).length_le
theorem QR (c:UInt8)(s:Aq):(Rq c s).length≤s.length:=by
 have:=(List.dropWhile_sublist (l:=s.reverse) (·== c)).length_le
 simpa [Rq] using this
/-! #### the rest of an order -/
def many (z:Int):Bool:=decide (z=7) || decide (z=8) || decide (z=9)
def ON (z:Int):Aq × Bool:=if decide (z=7)=true then([102,114,111,109],false) else if decide (z=9)=true then([105,110],true) else if decide (z=10)=true then([116,111],true) else([],false)
def OV (s:Aq):Nat→Int × Bool
 | 0=>(0,false)
 | n+1=>if decide (AH.GW.getD (5 - n) []=s)=true then(((5 - n:Nat):Int),true) else OV s n
def dir (s:Aq):Int × Bool:=OV s 6
theorem Uz {s:Aq}{k:Int}(h0:0≤k)(h1:k < 6):OV s (6 - k).toNat=if decide (AH.GW.getD k.toNat []=s)=true then(k,true) else OV s (6 - (k+1)).toNat:=by
 rw [show(6 - k).toNat=(6 - (k+1)).toNat+1 by omega,OV,show 5 - (6 - (k+1)).toNat=k.toNat by omega,show((k.toNat:Nat):Int)=k by omega]
/-! #### nouns -/
def PI (k rest:Aq):Int × Aq × Bool × Int:=
 match Lib.atoiAll k with
 | .ok n=>if (decide (n < 1) || decide (99 < n) || decide (((k.getD (0:Int).toNat 0).toNat:Int) < 49) || decide (57 < ((k.getD (0:Int).toNat 0).toNat:Int)) || decide (rest = []) || decide (0≤Lib.indexByte rest 46))=true then(0,[],false,1) else(n,rest,false,0)
 | _=>(0,[],false,1)
theorem Tu {k rest:Aq}{n:Int}(h:Lib.atoiAll k = .ok n):PI k rest=if (decide (n < 1) || decide (99 < n) || decide (((k.getD (0:Int).toNat 0).toNat:Int) < 49) || decide (57 < ((k.getD (0:Int).toNat 0).toNat:Int)) || decide (rest = []) || decide (0≤Lib.indexByte rest 46))=true then(0,[],false,1) else(n,rest,false,0):=by
 unfold PI;rw [h]
theorem Wv {k rest:Aq}(h:∀ j,Lib.atoiAll k≠ .ok j):PI k rest=(0,[],false,1):=by
 unfold PI
 split
 ·rename_i n e;exact absurd e (h n)
 ·rfl
theorem SF {k:Aq}{n:Int}(h:Lib.atoiAll k = .ok n):0 < k.length:=by
 cases k with
 | nil=>simp [Lib.atoiAll] at h
 | cons x r=>simp
def EH (u:Aq):Int × Aq × Bool × Int:=
 if decide (u = [97,108,108])=true then(1,[],true,0)
 else if ((Mt u [97,108,108,46]).2 && !decide ((Mt u [97,108,108,46]).1 = []) && !decide (0≤Lib.indexByte (Mt u [97,108,108,46]).1 46))=true then(1,(Mt u [97,108,108,46]).1,true,0)
 else if (!(cut 46 u).2.2)=true then(if decide (u = [])=true then(0,[],false,1) else(1,u,false,0))
 else PI (cut 46 u).1 (cut 46 u).2.1
/-! #### orders -/
theorem P0 (u:Aq):∀ n,n≤21→0≤(J1 u n).1∧(J1 u n).1≤20
 | 0,_=>by simp [J1]
 | n+1,h=>by
  unfold J1
  split
  ·simp only;omega
  ·exact P0 u n (by omega)
theorem WM (u:Aq):0≤(verb u).1∧(verb u).1≤20:=by
 unfold verb;split
 ·exact P0 u 21 (Nat.le_refl _)
 ·simp
def said (s:Aq):Aq:=QA 32 (Rq 32 (cut 32 (QA 32 s)).2.1)
def o0 (v:Int):Order:={ (default:Order) with verb:=v }
def Qx (o:Order)(j:Aq × Bool)(W:List Aq)(m:Nat):Order × Int:=
 if (decide ((m:Int)=0) && !j.2)=true then(o,0)
 else if (!decide ((m:Int)=1) || decide (j.1 = []))=true then(default,1)
 else({ o with second:=W.getD 0 [] },0)
def Sh (o:Order)(j:Aq × Bool)(W:List Aq)(m:Nat):Order × Int:=
 if (decide (0 < (m:Int)) && !decide (j.1 = []) && decide (W.getD 0 []=j.1))=true then(if decide (((m - 1:Nat):Int)=0)=true then(default,1) else Qx o j (W.drop 1) (m - 1))
 else Qx o j W m
def RC (v:Int)(W:List Aq)(m:Nat):Order × Int:=
 if (!decide ((EH (W.getD 0 [])).2.2.2=0) || ((EH (W.getD 0 [])).2.2.1 && !many v))=true then(default,1)
 else Sh ⟨v,(EH (W.getD 0 [])).1,(EH (W.getD 0 [])).2.2.1,(EH (W.getD 0 [])).2.1,[],[]⟩ (ON v) (W.drop 1) (m - 1)
def Xe (s:Aq)(v:Int)(W:List Aq)(m:Nat):Order × Int:=
 if decide (v=11)=true then(if decide (said s = [])=true then(default,1) else(⟨v,0,false,[],[],said s⟩,0))
 else if (decide (v≤6) || decide (19≤v))=true then(if decide (0 < (m:Int))=true then(default,1) else(o0 v,0))
 else if decide ((m:Int)=0)=true then(default,1)
 else if (decide (v=12) || decide (v=13))=true then
  (if (decide ((verb (W.getD 0 [])).2=0) && decide ((verb (W.getD 0 [])).1 < 6) && decide ((m:Int)=1))=true then(⟨v,1,false,AH.GW.getD (verb (W.getD 0 [])).1.toNat [],[],[]⟩,0) else RC v W m)
 else RC v W m
def parse (s:Aq):Order × Int:=
 if decide (((words s).length:Int)=0)=true then(default,1)
 else if (!decide ((verb ((words s).getD 0 [])).2=0))=true then(default,(verb ((words s).getD 0 [])).2)
 else Xe s (verb ((words s).getD 0 [])).1 ((words s).drop 1) ((words s).length - 1)
theorem Ym (w:Aq):(low w).length=w.length:=by simp [low]
theorem Xt (s:Aq)(i:Nat):((words s).getD i []).length≤s.length:=by
 rw [List.getD_eq_getElem?_getD]
 cases h:(words s)[i]? with
 | none=>simp
 | some p=>
  have hm:=List.mem_of_getElem? h
  unfold words at hm
  obtain⟨q,hq,rfl⟩:=List.mem_map.1 hm
  rw [Option.getD_some,Ym]
  exact IE (List.mem_filter.1 hq).1
theorem Ma (s:Aq)(i j:Nat):(((words s).drop j).getD i []).length≤s.length:=by
 rw [List.getD_eq_getElem?_getD,List.getElem?_drop,← List.getD_eq_getElem?_getD];exact Xt s _
end Words
end Go.Ing
/- What people type: plain laws. -/
namespace Go.Ing
open Go
namespace Words
/-! #### a shorter beginning -/
/-! #### what is parsed is good -/
structure Y1 (o:Order):Prop where
 v0:0≤o.verb
 v1:o.verb≤20
 n0:0≤o.nth
 n1:o.nth≤99
 al:o.Bj=true→o.verb=7∨o.verb=8∨o.verb=9
 tx:o.text≠ []↔o.verb=11
 s1:o.second = []∨o.verb=7∨o.verb=9∨o.verb=10
 s2:o.second≠ []∨(o.verb≠9∧o.verb≠10)
def IH (r:Order × Int):Prop:=(r.2=0→Y1 r.1)∧(r.2≠0→r.1=default)
theorem IH.bad (e:Int)(he:e≠0):IH (default,e):=⟨fun h=>absurd h he,fun _=>rfl⟩
theorem IH.ok {o:Order}(h:Y1 o):IH (o,0):=⟨fun _=>h,fun h=>absurd rfl h⟩
theorem Vn (k r:Aq):(PI k r).2.2.2=0→0≤(PI k r).1∧(PI k r).1≤99:=by
 unfold PI
 split
 ·split
  ·intro h;simp at h
  ·rename_i c
   intro _
   simp only [Bool.or_eq_true,decide_eq_true_eq,not_or] at c
   show 0≤_∧_≤99
   exact⟨by simp only;omega,by simp only;omega⟩
 ·intro h;simp at h
theorem Vo (u:Aq):(EH u).2.2.2=0→0≤(EH u).1∧(EH u).1≤99:=by
 unfold EH
 split
 ·intro _;simp
 ·split
  ·intro _;simp
  ·split
   ·split
    ·intro h;simp at h
    ·intro _;simp
   ·exact Vn _ _
/-! #### spaces ahead and behind -/
def Cn:Aq→Aq
 | []=> []
 | x :: r=>if x=32 then r else Cn r
end Words
end Go.Ing
/- Verbs and nouns as the document has them. -/
namespace Go.Ing
open Go
namespace Words
/-! #### nouns -/
end Words
end Go.Ing
/- Orders as the document has them. -/
namespace Go.Ing
open Go
namespace Words
/-! #### what is said -/
/-! #### orders -/
def alone (v:Int):Bool:=decide (v < 7) || decide (18 < v)
end Words
end Go.Ing
/- The program's data, in Lean, and their parts. -/
namespace Go.Ing
open Go
structure Ad where
 w:AH
 b:Int
 out:Hd
instance:Inhabited Ad:=⟨⟨default,0,⟨none,0,0⟩⟩⟩
def Ad.enc (x:Ad):List Value:=AH.enc x.w++Ay x.b++Ee x.out
theorem Ad.fl:Flat Ad.enc 167:=⟨fun x=>by simp [Ad.enc,AH.fl.len,PE.len,B2.len],fun x v hv=>by
 simp only [Ad.enc,List.mem_append] at hv
 rcases hv with (h | h) | h
 ·exact AH.fl.one _ v h
 ·exact B2.one _ v h
 ·exact PE.one _ v h⟩
theorem Ad.l0:AU Ad.enc (AH.enc) 0 165 (fun x=>x.w) (fun x y=>{ x with w:=y }):=
 AU.Eg AH.fl (fun _=> []) (fun x=>Ay x.b++Ee x.out) (fun _=>rfl) (fun x=>by simp [Ad.enc]) (fun x y=>by simp [Ad.enc])
theorem Ad.l1:AU Ad.enc (Ay) 165 1 (fun x=>x.b) (fun x y=>{ x with b:=y }):=
 AU.Eg B2 (fun x=>AH.enc x.w) (fun x=>Ee x.out) (fun x=>by simp [AH.fl.len]) (fun x=>by simp [Ad.enc]) (fun x y=>by simp [Ad.enc])
theorem Ad.l2:AU Ad.enc (Ee) 166 1 (fun x=>x.out) (fun x y=>{ x with out:=y }):=
 AU.Eg PE (fun x=>AH.enc x.w++Ay x.b) (fun _=> []) (fun x=>by simp [AH.fl.len,B2.len]) (fun x=>by simp [Ad.enc]) (fun x y=>by simp [Ad.enc])
end Go.Ing
/- What comes of what beings do: plain functions. -/
namespace Go.Ing
open Go
structure AF where
 w:AH
 b:Int
 out:List Event
namespace AF
def Fy (k:Int):Event:=⟨k,0,0,-1,0,0,[],[],[],[],default⟩
def me (T:AF):Ag:=T.w.AM.at T.b
def XF (T:AF)(e:Event):Event:={ e with Db:=T.b,Hm:=T.me.name,room:=T.me.room }
def Dm (T:AF)(e:Event):Event:=if decide (0≤e.other)=true then { T.XF e with EP:=(T.w.AM.at e.other).name } else T.XF e
def BP (T:AF)(e:Event):AF:={ T with out:=T.out ++ [T.w.Hj (T.Dm e) 6] }
def kind (T:AF)(k:Int):AF:=T.BP (Fy k)
def Bs (T:AF)(k i:Int):AF:=T.BP { Fy k with Bs:=(T.w.AO.at i).name }
def tell (T:AF)(s:Aq):AF:=T.BP { Fy 16 with text:=s }
@[simp] theorem aM (T:AF) (e:Event):(T.BP e).w=T.w:=rfl
@[simp] theorem aP (T:AF) (e:Event):(T.BP e).b=T.b:=rfl
@[simp] theorem Cb (T:AF) (e:Event):(T.BP e).out.length=T.out.length+1:=by simp [BP]
@[simp] theorem da (T:AF) (s:Aq):(T.tell s).w=T.w:=rfl
@[simp] theorem ck (T:AF) (s:Aq):(T.tell s).b=T.b:=rfl
@[simp] theorem CE (T:AF) (s:Aq):(T.tell s).out.length=T.out.length+1:=by simp [tell]
/-! #### lists -/
def Hq (w:AH):Aq→List Int→Aq
 | s,[]=>s
 | s,i :: r=>Hq w (if (w.AO.at i).on=true then s ++ [32]++(w.AO.at i).name ++ [42] else s ++ [32]++(w.AO.at i).name) r
def Ru (w:AH)(s:Aq)(l:List Int):Aq:=if decide ((l.length:Int)=0)=true then Hq w s l ++ [32,110,111,116,104,105,110,103] else Hq w s l
def list (T:AF)(s:Aq)(l:List Int):AF:=T.tell (Ru T.w s l ++ [46])
/-! #### what is about -/
def Io (r:Room):Nat→Aq
 | 0=> [87,97,121,115,58]
 | d+1=>if decide (r.CN.at (d:Int)=0)=true then Io r d else if r.shut.at (d:Int)=true then Io r d++([32]++AH.called d) ++ [42] else Io r d++([32]++AH.called d)
def Fa (T:AF):Nat→AF
 | 0=>T
 | k+1=>if (!decide ((k:Int)=T.b) && T.w.Ij T.b k)=true then(Fa T k).tell ((T.w.AM.at k).name ++ [32,105,115,32,104,101,114,101,46]) else Fa T k
def MM:Aq:= [73,116,32,105,115,32,100,97,114,107,46]
def Je (T:AF):AF:=
 ((T.tell ([84,104,101,32]++(T.w.BT.at T.me.room).name ++ [46])).tell (Io (T.w.BT.at T.me.room) 6))
def D9 (T:AF):AF:=if decide (0 < ((T.w.has 0 T.me.room).length:Int))=true then T.Je.list [72,101,114,101,32,105,115] (T.w.has 0 T.me.room) else T.Je
def look (T:AF):AF:=if (!T.w.HY T.me.room)=true then T.tell MM else Fa T.D9 6
def WW:Aq:= [89,111,117,32,99,97,110,110,111,116,32,103,111,32,116,104,101,114,101,46]
def Tb:Aq:= [73,116,32,105,115,32,115,104,117,116,46]
def F3 (T:AF)(r:Int):AF:={ T with w:={ T.w with AM:=T.w.AM.put T.b { T.me with room:=r,Bz:=0 } } }
def walk (T:AF)(d:Int):AF:=
 if decide ((T.w.BT.at T.me.room).CN.at d=0)=true then T.tell WW
 else if (T.w.BT.at T.me.room).shut.at d=true then T.tell Tb
 else(((T.BP { Fy 1 with dir:=d }).F3 ((T.w.BT.at T.me.room).CN.at d - 1)).BP { Fy 2 with dir:=AH.opposite d }).look
/-! #### things that are meant -/
def JM (w:AH)(name:Aq)(l:List Int):List Int:=l.filter fun i=>decide (name = []) || decide ((w.AO.at i).name=name)
def BR (w:AH)(l:List Int)(nth:Int)(name:Aq)(all:Bool):List Int:=
 if all=true then JM w name l
 else if (decide (nth < 1) || decide (((JM w name l).length:Int) < nth))=true then []
 else((JM w name l).take nth.toNat).drop (nth - 1).toNat
def seen (T:AF):List Int:=if (!T.w.HY T.me.room)=true then [] else T.w.has 0 T.me.room
def own (T:AF):List Int:=T.w.has 1 T.b
def one (T:AF)(u:Aq):Int × Bool:=
 if (!decide ((Words.EH u).2.2.2=0) || (Words.EH u).2.2.1)=true then(0,false)
 else if decide (((BR T.w (T.own++T.seen) (Words.EH u).1 (Words.EH u).2.1 false).length:Int)=0)=true then(0,false)
 else((BR T.w (T.own++T.seen) (Words.EH u).1 (Words.EH u).2.1 false).getD 0 0,true)
def KJ:Aq:= [84,104,101,114,101,32,105,115,32,110,111,32,115,117,99,104,32,116,104,105,110,103,46]
def Oc:Aq:= [89,111,117,32,104,97,118,101,32,110,111,32,115,117,99,104,32,116,104,105,110,103,46]
def Ot:Aq:= [84,104,101,114,101,32,105,115,32,110,111,98,111,100,121,32,111,102,32,116,104,97,116,32,110,97,109,101,46]
def bF:Aq:= [89,111,117,32,119,101,97,114,32,105,116,46]
def ZE:Aq:= [84,104,97,116,32,99,97,110,110,111,116,32,98,101,46]
def Z0:Aq:= [73,116,32,105,115,32,115,111,46]
def Qs:Aq:= [89,111,117,32,102,105,103,104,116,46]
def box (T:AF)(u:Aq):AF × Int × Bool:=
 if (!(T.one u).2 || !decide ((T.w.AO.at (T.one u).1).kind=3))=true then(T.tell KJ,0,false)
 else if (!(T.w.AO.at (T.one u).1).on)=true then(T.tell Tb,0,false)
 else(T,(T.one u).1,true)
def C6 (T:AF)(i:Int)(t:Al):AF:={ T with w:={ T.w with AO:=T.w.AO.put i t } }
def place (T:AF)(i CY at_:Int):AF:=T.C6 i { T.w.AO.at i with CY:=CY,at_:=at_ }
def DE (T:AF):List Int→AF
 | []=>T
 | i :: r=>DE ((T.place i 1 T.b).Bs 3 i) r
def Kb (T:AF)(l:List Int)(o:Order):AF:=DE (if decide (((BR T.w l o.nth o.name o.Bj).length:Int)=0)=true then T.tell KJ else T) (BR T.w l o.nth o.name o.Bj)
def get (T:AF)(o:Order):AF:=
 if (!decide (o.second = []))=true then
  (if (!(T.box o.second).2.2)=true then(T.box o.second).1 else(T.box o.second).1.Kb ((T.box o.second).1.w.has 2 (T.box o.second).2.1) o)
 else T.Kb T.seen o
def IZ (T:AF)(name:Aq):Nat→Int→Option Int
 | 0,_=>none
 | r+1,n=>if (decide (((6 - (r+1):Nat):Int)=T.b) || !decide ((T.w.AM.at ((6 - (r+1):Nat):Int)).name=name) || !T.w.Ij T.b ((6 - (r+1):Nat):Int))=true then IZ T name r n else if decide (n - 1=0)=true then some ((6 - (r+1):Nat):Int) else IZ T name r (n - 1)
def A6 (T:AF)(u:Aq):AF × Int × Bool:=
  if (decide ((Words.EH u).2.2.2=0) && !(Words.EH u).2.2.1)=true then
    (match IZ T (Words.EH u).2.1 6 (Words.EH u).1 with
     | some k=>(T,k,true)
     | none=>(T.tell Ot,0,false))
  else(T.tell Ot,0,false)
def Cp (T:AF)(v to i:Int):AF:=
 if (decide ((T.w.AO.at i).kind=2) && (T.w.AO.at i).on)=true then T.tell bF
 else if decide (v=8)=true then(T.place i 0 T.me.room).Bs 4 i
 else if decide (v=10)=true then(T.place i 1 to).BP { Fy 6 with other:=to,Bs:=(T.w.AO.at i).name }
 else if T.w.Tp to i=true then T.tell ZE
 else(T.place i 2 to).BP { Fy 5 with Bs:=(T.w.AO.at i).name,text:=(T.w.AO.at to).name }
def Ei (T:AF)(v to:Int):List Int→AF
 | []=>T
 | i :: r=>Ei (T.Cp v to i) v to r
def Rj (T:AF)(to:Int)(o:Order):AF:=Ei (if decide (((BR T.w T.own o.nth o.name o.Bj).length:Int)=0)=true then T.tell Oc else T) o.verb to (BR T.w T.own o.nth o.name o.Bj)
def Cu (T:AF)(o:Order):AF × Int × Bool:=if decide (o.verb=9)=true then T.box o.second else if decide (o.verb=10)=true then T.A6 o.second else(T,0,true)
def E7 (T:AF)(o:Order):AF:=if (!(T.Cu o).2.2)=true then(T.Cu o).1 else(T.Cu o).1.Rj (T.Cu o).2.1 o
def Ch (T:AF)(b f:Int):AF:={ T with w:={ T.w with AM:=T.w.AM.put b { T.w.AM.at b with Bz:=f } } }
def Ez (T:AF)(o:Order):AF:=
 if (!(T.A6 (if (!decide (o.nth=1) || o.Bj)=true then [] else o.name)).2.2)=true then(T.A6 (if (!decide (o.nth=1) || o.Bj)=true then [] else o.name)).1
 else
  let k:=(T.A6 (if (!decide (o.nth=1) || o.Bj)=true then [] else o.name)).2.1
  let T1:=(T.A6 (if (!decide (o.nth=1) || o.Bj)=true then [] else o.name)).1.Ch (T.A6 (if (!decide (o.nth=1) || o.Bj)=true then [] else o.name)).1.b (k+1)
  (if decide ((T1.w.AM.at k).Bz=0)=true then T1.Ch k ((T.A6 (if (!decide (o.nth=1) || o.Bj)=true then [] else o.name)).1.b+1) else T1).tell Qs
/-! #### what is set -/
def before (T:AF)(first:Bool)(i:Int)(on:Bool)(ev:Int):AF:=
 if first=true then(T.C6 i { T.w.AO.at i with on:=on }).Bs ev i
 else(T.Bs ev i).C6 i { T.w.AO.at i with on:=on }
def C5 (T:AF)(r d:Int)(v:Bool):AF:={ T with w:={ T.w with BT:=T.w.BT.put r { T.w.BT.at r with shut:=(T.w.BT.at r).shut.put d v } } }
def PY:Aq:= [100,111,111,114]
def G0 (T:AF)(d:Int)(on:Bool)(ev:Int):AF:=
 if decide ((T.w.BT.at T.me.room).CN.at d - 1 < 0)=true then T.tell KJ
 else if ((T.w.BT.at T.me.room).shut.at d != on)=true then T.tell Z0
 else
  let to:=(T.w.BT.at T.me.room).CN.at d - 1
  let T1:=T.C5 T.me.room d (!on)
  (if decide ((T1.w.BT.at to).CN.at (AH.opposite d)=T.me.room+1)=true then T1.C5 to (AH.opposite d) (!on) else T1).BP { Fy ev with Bs:=PY }
def HX (v:Int):Bool:=decide (v=12) || decide (v=14) || decide (v=16)
def setKind (v:Int):Int:=if (decide (v=14) || decide (v=15))=true then 1 else if (decide (v=16) || decide (v=17))=true then 2 else 3
def NQ (v:Int):Int:=v - 4
def EO (T:AF)(o:Order):List Int:=BR T.w (if decide (setKind o.verb=3)=true then T.own++T.seen else T.own) (max o.nth 1) o.name false
def set (T:AF)(o:Order):AF:=
 if ((Words.dir o.name).2 && decide (setKind o.verb=3))=true then T.G0 (Words.dir o.name).1 (HX o.verb) (NQ o.verb)
 else if (decide (((T.EO o).length:Int)=0) || !decide ((T.w.AO.at ((T.EO o).getD 0 0)).kind=setKind o.verb))=true then T.tell KJ
 else if ((T.w.AO.at ((T.EO o).getD 0 0)).on == HX o.verb)=true then T.tell Z0
 else if HX o.verb=true then T.before (!decide (setKind o.verb=2)) ((T.EO o).getD 0 0) (HX o.verb) (NQ o.verb)
 else T.before (decide (setKind o.verb=2)) ((T.EO o).getD 0 0) (HX o.verb) (NQ o.verb)
/-! #### who is gone -/
def Er (T:AF)(i:Int):AF:=T.C6 i { T.w.AO.at i with on:=if decide ((T.w.AO.at i).kind=2)=true then false else(T.w.AO.at i).on,CY:=0,at_:=T.me.room }
def Ca (T:AF):List Int→AF
 | []=>T
 | i :: r=>Ca (T.Er i) r
def DT (T:AF):Nat→AF
 | 0=>T
 | k+1=>if decide (((DT T k).w.AM.at (k:Int)).Bz=T.b+1)=true then(DT T k).Ch k 0 else DT T k
def E3 (T:AF):AF:=(DT (T.Ca T.own) 6).Ch T.b 0
def DS (T:AF)(b:Int)(x:Ag):AF:={ T with w:={ T.w with AM:=T.w.AM.put b x } }
def Gk (T:AF):AF:=(T.kind 18).E3.DS T.b default
/-! #### what a being does -/
def act (T:AF)(o:Order):AF:=
 if decide (o.verb < 6)=true then T.walk o.verb
 else if decide (o.verb=6)=true then T.look
 else if decide (o.verb=19)=true then T.list [89,111,117,32,104,97,118,101] (T.w.has 1 T.b)
 else if decide (o.verb=11)=true then T.BP { Fy 7 with text:=o.text }
 else if decide (o.verb=20)=true then T.Gk
 else if decide (o.verb=18)=true then T.Ez o
 else if decide (o.verb=7)=true then T.get o
 else if (decide (o.verb=8) || decide (o.verb=9) || decide (o.verb=10))=true then T.E7 o
 else T.set o
def EA (X:AH)(b:Int)(o:Order):AH × List Event × Int:=
 if (!X.Bb)=true then(X,[],2)
 else if (decide (b < 0) || decide (6≤b) || !(X.AM.at b).here)=true then(X,[],3)
 else if (decide (o.verb < 0) || decide (20 < o.verb))=true then(X,[],5)
 else((AF.act ⟨X,b,[]⟩ o).w,(AF.act ⟨X,b,[]⟩ o).out,0)
end AF
end Go.Ing
/- Engine: the program's own variables, beside what is handed on. -/
namespace Go.Ing
open Go
section
variable {w0 w:World} {M:List Nat} {L A K:List Ac} {g:Nat} {vs:List Value}
theorem GV.lt (h:GV g vs w):g < w.heap.size:=by
 obtain⟨t,fz,e⟩:=h
 rcases Nat.lt_or_ge g w.heap.size with h' | h'
 ·exact h'
 ·rw [Array.getElem?_eq_none h'] at e;cases e
theorem GV.stM (h:GV g vs w0)(hM:g ∉ M)(hS:St w0 M w L):GV g vs w:=by
 have hg:=h.lt
 obtain⟨t,fz,e⟩:=h
 exact⟨t,fz,(hS.I0 g hg hM).trans e⟩
theorem OM (hg:g < w0.heap.size)(hM:g ∉ M)(hS:St w0 M w L)(hp:Ax L A K):g ∉ Cf A:=by
 intro hf
 obtain⟨r,hr,hb⟩:=List.mem_flatMap.1 hf
 have hm:r∈L:=hp.perm.symm.subset (List.mem_append_left _ hr)
 exact hM ((hS.CT r hm g hb).2 hg)
theorem GV.pull (h:GV g vs w0)(hM:g ∉ M)(hS:St w0 M w L)(hp:Ax L A K):GV g vs w∧g ∉ Cf A:=⟨h.stM hM hS,OM h.lt hM hS hp⟩
theorem Gu.stM (h:Gu g w0)(hM:g ∉ M)(hS:St w0 M w L):Gu g w:=by
 obtain⟨tp,p,h⟩:=h;exact⟨tp,p,h.stM hM hS⟩
theorem Gu.pull (h:Gu g w0)(hM:g ∉ M)(hS:St w0 M w L)(hp:Ax L A K):Gu g w∧g ∉ Cf A:=by
 obtain⟨tp,p,h⟩:=h;exact⟨⟨tp,p,h.stM hM hS⟩,OM h.lt hM hS hp⟩
end
section
variable {P:Program} {n:Nat} {w0:World} {M:List Nat} {Q:Exit→Go.Act→World→Prop} {F F':List (Nat × Value)} {L L':List Ac} {ops:Array Oper} {rest:List Oper}
theorem TE {α:Type}{e:α→List Value}{d T U E sz:Nat}{x y z:Operand}{pos:String}{Cn:Array Edge}{h:Hd}{xs:List α}{kd kz:IntKind}{i j:Int}{Lf:Ac→List Ac}(fe:Flat e sz)(hd:Nat.blt d n=true)(hT:P.underlying T=some (.slice E))(hs:Sz P E sz)(hx:ev F x=some h.val)(hy:ev F y=some (.int kd i))(hz:ev F z=some (.int kz j))(h0:0≤i)(h1:i≤j)(h2:j≤(h.len:Int))(hU:∀ r,K6 L (Ac.own h E sz (xs.flatMap e)) r (Lf r))
  (k:GL P n w0 M ops Q rest ((d,(h.cut i.toNat j.toNat sz).val) :: F) (Lf (Ac.own (h.cut i.toNat j.toNat sz) E sz (((xs.take j.toNat).drop i.toNat).flatMap e)))):GL P n w0 M ops Q (⟨some d, .slice T x (some y) (some z) none,U,pos,Cn,none⟩ :: rest) F L:=by
 refine Fj (R:=fun v L'=>v=(h.cut i.toNat j.toNat sz).val∧L'=Lf (Ac.own (h.cut i.toNat j.toNat sz) E sz (((xs.take j.toNat).drop i.toNat).flatMap e))) hd ?_ (fun v L' ⟨e1,e2⟩=>by subst e1;subst e2;exact k)
 intro a w hF hS
 have hok:=hS.ok _ (hU ⟨[],fun _=>True,fun _ _ _ _=>trivial⟩).mem
 have hr:Rd w h E sz (xs.flatMap e):=Kn.own (M:=M) (hU ⟨[],fun _=>True,fun _ _ _ _=>trivial⟩).mem w hS
 have hcap:h.len≤h.cap:=by
  rcases hok with ⟨rfl,_⟩ | ⟨b,o,C,fz,e1,e2,e3,e4,e5,e6,_⟩
  ·exact Nat.le_refl _
  ·exact e6
 have hil:i.toNat≤j.toNat:=by omega
 have hjl:j.toNat≤h.len:=by omega
 have hlc:h.len * sz≤h.cap * sz:=Nat.mul_le_mul_right sz hcap
 have hjc:j.toNat * sz≤h.len * sz:=Nat.mul_le_mul_right sz hjl
 have hll:i.toNat * sz≤j.toNat * sz:=Nat.mul_le_mul_right sz hil
 have hcs:((xs.flatMap e).take (j.toNat * sz)).drop (i.toNat * sz)=((xs.take j.toNat).drop i.toNat).flatMap e:=Lo fe xs
 have hlen:(((xs.take j.toNat).drop i.toNat).flatMap e).length=j.toNat * sz - i.toNat * sz:=by
  rw [← hcs,List.length_drop,List.length_take,← hr.1,Nat.min_eq_left hjc]
 refine⟨_,_,w,⟨rfl,rfl⟩,?_,?_⟩
 ·have hs':=hs w
  have hjcap:j≤(h.cap:Int):=by omega
  simp only [execOp,hF.ev hx,Option.map_some,Option.map_none,hF.ev hy,hF.ev hz,Hd.val,Instr.sliceAt,Instr.slice,underlying]
  simp [hT,Instr.sliceBounds,Instr.sliceBound,asIntOf,h1,h0,hs',Hd.cut,hjcap,show 0≤j by omega,show i≤max j 0 by omega]
 ·refine hS.EN (hU _) rfl rfl rfl (Nat.le_refl _) (fun _ _ _=>rfl) ?_ ?_
  ·rcases hok with ⟨rfl,hn⟩ | ⟨b,o,C,fz,e1,e2,e3,e4,e5,e6,e7,e8⟩
   ·have hj0:j.toNat=0:=by simp at hjl;omega
    have hi0:i.toNat=0:=by omega
    refine .inl ⟨by simp [Hd.cut,hj0,hi0],?_⟩
    rw [List.eq_nil_of_length_eq_zero (l:=((xs.take j.toNat).drop i.toNat).flatMap e) (by rw [hlen,hj0];simp)]
   ·by_cases hci:h.cap=i.toNat
    ·have hji:j.toNat=i.toNat:=by omega
     refine .inr ⟨b,o,C,fz,by simp only [Hd.cut];rw [if_pos hci];exact e1,e2,e3,e4,?_,?_,?_,?_⟩
     ·simp only [Hd.cut];rw [hci,Nat.sub_self,Nat.zero_mul];omega
     ·simp only [Hd.cut];omega
     ·simp only [Hd.cut];rw [hlen,Nat.sub_mul]
     ·have hl0:(((xs.take j.toNat).drop i.toNat).flatMap e).length=0:=by rw [hlen,hji];omega
      rw [List.eq_nil_of_length_eq_zero hl0];simp
    ·refine .inr ⟨b,o+i.toNat * sz,C,fz,by simp only [Hd.cut];rw [if_neg hci,e1];simp [EY],e2,e3,fun j hj h=>e4 j (by omega) h,?_,?_,?_,?_⟩
     ·simp only [Hd.cut];rw [Nat.sub_mul];omega
     ·simp only [Hd.cut];omega
     ·simp only [Hd.cut];rw [hlen,Nat.sub_mul]
     ·have hX:xs.flatMap e=(C.drop o).take (h.len * sz):=by rw [hr.1];exact e8.symm
      have hY:((xs.take j.toNat).drop i.toNat).flatMap e=((C.drop o).take (j.toNat * sz)).drop (i.toNat * sz):=by rw [← hcs,hX,List.take_take,Nat.min_eq_left hjc]
      rw [hlen,hY,List.drop_take,List.drop_drop]
  ·intro b hb
   have hb':b∈(Ac.own h E sz (xs.flatMap e)).CT:=by
    revert hb
    simp only [Ac.own,Hd.cut]
    cases ha:h.a with
    | none=>by_cases hc:h.cap=i.toNat<;>simp [hc]
    | some a=>
     by_cases hc:h.cap=i.toNat
     ·simp [hc]
     ·simp only [hc,if_false,Option.map_some]
      unfold Addr.add
      split<;>simp
   exact⟨(hS.CT _ (hU ⟨[],fun _=>True,fun _ _ _ _=>trivial⟩).mem b hb').1, .inl hb'⟩
theorem K6.aq {L L':List Ac}{r r':Ac}(h:K6 L r r' L')(e:r=r'):L'=L:=by
 induction h with
 | head=>subst e;rfl
 | tail _ ih=>rw [ih e]
theorem GC {cd:Code}{b T:Nat}{c c':List Value}{Lf:Ac→List Ac}(hU:∀ r,K6 L (Ac.box b T c) r (Lf r))(e:c=c')(k:G P n w0 M cd Q F (Lf (Ac.box b T c'))):G P n w0 M cd Q F L:=by
 subst e
 rwa [(hU (Ac.box b T c)).aq rfl] at k
theorem Z1 {Pr:Prop}{cd:Code}(hp:∀ w,St w0 M w L→Pr)(k:Pr→G P n w0 M cd Q F L):G P n w0 M cd Q F L:=fun a w hF hS=>k (hp w hS) a w hF hS
end
section
variable {p:Prop} [Decidable p] {a b:Bool} {m n:Int}
theorem eC:((a || b)=true)=(a=true∨b=true):=Bool.or_eq_true a b
theorem dx:((a && b)=true)=(a=true∧b=true):=Bool.and_eq_true a b
theorem du:((a || b)=false)=(a=false∧b=false):=propext Bool.or_eq_false_iff
theorem eF:((a && b)=false)=(a=false∨b=false):=propext Bool.and_eq_false_iff
end
end Go.Ing
/- What comes of what beings do: plain laws. -/
namespace Go.Ing
open Go
structure AH.DH (w:AH):Prop where
 th:∀ i,(w.AO.at i).name.length≤140737488351232
 be:∀ i,(w.AM.at i).name.length≤140737488351232
 ro:∀ i,(w.BT.at i).name.length≤140737488351232
namespace AF
theorem NC {l:List Int}{k:Int}(h0:0≤k)(h1:k < l.length):l.drop k.toNat=l.getD k.toNat 0 :: l.drop (k+1).toNat:=by
 have hk:k.toNat < l.length:=by omega
 rw [List.drop_eq_getElem_cons hk,show(k+1).toNat=k.toNat+1 by omega,List.getD_eq_getElem?_getD,List.getElem?_eq_getElem hk]
 rfl
theorem YL {w:AH}{s:Aq}{l:List Int}{k:Int}(h0:0≤k)(h1:k < l.length)(h:(w.AO.at (l.getD k.toNat 0)).on=true):Hq w s (l.drop k.toNat)=Hq w (s++([32]++(w.AO.at (l.getD k.toNat 0)).name) ++ [42]) (l.drop (k+1).toNat):=by
 rw [NC h0 h1,Hq,if_pos h];simp
theorem X8 {w:AH}{s:Aq}{l:List Int}{k:Int}(h0:0≤k)(h1:k < l.length)(h:(w.AO.at (l.getD k.toNat 0)).on=false):Hq w s (l.drop k.toNat)=Hq w (s++([32]++(w.AO.at (l.getD k.toNat 0)).name)) (l.drop (k+1).toNat):=by
 rw [NC h0 h1,Hq,if_neg (by rw [h];decide)];simp
theorem Sw {r:Room}{k:Int}(h:0≤k):Io r (k+1).toNat=if decide (r.CN.at k=0)=true then Io r k.toNat else if r.shut.at k=true then Io r k.toNat++([32]++AH.called k) ++ [42] else Io r k.toNat++([32]++AH.called k):=by
 obtain⟨m,rfl⟩:=Int.eq_ofNat_of_zero_le h
 rfl
theorem L8 (r:Room):∀ k:Nat,(Io r k).length≤5+k * 22
 | 0=>by simp [Io]
 | k+1=>by
  have ih:=L8 r k
  have hc:=AH.I2 (k:Int)
  unfold Io
  repeat' split
  all_goals (try simp only [List.length_append,List.length_cons,List.length_nil])
  all_goals omega
theorem KD (T:AF):∀ k:Nat,(T.Fa k).w=T.w∧(T.Fa k).b=T.b∧(T.Fa k).out.length≤T.out.length+k
 | 0=>⟨rfl,rfl,by simp [Fa]⟩
 | k+1=>by
  obtain⟨h1,h2,h3⟩:=KD T k
  unfold Fa
  split
  ·exact⟨by simpa using h1,by simpa using h2,by rw [CE];omega⟩
  ·exact⟨h1,h2,by omega⟩
theorem I4 {T:AF}{k:Int}(h:0≤k):T.Fa (k+1).toNat=if (!decide (k=T.b) && T.w.Ij T.b k)=true then(T.Fa k.toNat).tell ((T.w.AM.at k).name ++ [32,105,115,32,104,101,114,101,46]) else T.Fa k.toNat:=by
 obtain⟨m,rfl⟩:=Int.eq_ofNat_of_zero_le h
 rfl
@[simp] theorem HM (T:AF) (s:Aq) (l:List Int):(T.list s l).w=T.w∧(T.list s l).b=T.b∧(T.list s l).out.length=T.out.length+1:=⟨rfl,rfl,by simp [list]⟩
theorem Tr (T:AF):T.Je.w=T.w∧T.Je.b=T.b∧T.Je.out.length=T.out.length+2:=⟨rfl,rfl,by simp [Je]⟩
theorem Qj (T:AF):T.D9.w=T.w∧T.D9.b=T.b∧T.D9.out.length≤T.out.length+3:=by
 have h:=T.Tr
 unfold D9
 split
 ·have h2:=T.Je.HM [72,101,114,101,32,105,115] (T.w.has 0 T.me.room)
  exact⟨h2.1.trans h.1,h2.2.1.trans h.2.1,by omega⟩
 ·exact⟨h.1,h.2.1,by omega⟩
theorem Jh (T:AF):T.look.w=T.w∧T.look.b=T.b∧T.look.out.length≤T.out.length+9:=by
 unfold look
 split
 ·exact⟨rfl,rfl,by rw [CE];omega⟩
 ·have h:=T.Qj
  have h2:=T.D9.KD 6
  exact⟨h2.1.trans h.1,h2.2.1.trans h.2.1,by omega⟩
end AF
theorem Bg.Eo {xs:List Int}{i:Nat}(h:i < xs.length):xs.getD i 0∈xs:=by
 rw [List.getD_eq_getElem?_getD,List.getElem?_eq_getElem h]
 exact List.getElem_mem h
theorem AH.TP {w:AH}{r:Int}(h:(!w.HY r)=false):0≤r∧r < 6:=by
 unfold AH.HY at h
 split at h
 ·simp at h
 ·rename_i c;simp at c;omega
theorem AH.Fi {w:AH}{CY at_ i:Int}(h:i∈w.has CY at_):0≤i∧i < 9:=by
 unfold AH.has at h
 have:=(List.mem_filter.1 h).1
 obtain⟨n,hn,rfl⟩:=List.mem_map.1 this
 have:=List.mem_range.1 hn
 exact⟨by simp,by show((n:Nat):Int) < 9;omega⟩
theorem AH.H7 (w:AH)(CY at_:Int):(w.has CY at_).length≤9:=by
 rw [AH.TK];exact AH.Rm w CY at_ _
end Go.Ing
/- What beings do keeps the land good: plain laws. -/
namespace Go.Ing
open Go
theorem Vector.Ej {α:Type}[Inhabited α]{n:Nat}(v:Vector α n)(k:Int)(x y:α):(v.put k x).put k y=v.put k y:=by
 unfold Vector.put
 apply Vector.ext
 intro i hi
 simp only [Vector.getElem_setIfInBounds]
 split<;>rfl
theorem Vector.CD {α:Type}[Inhabited α]{n:Nat}{v:Vector α n}{k:Int}{x:α}(h0:0≤k)(h1:k < n):(v.put k x).at k=x:=by rw [IL v k k x h0 h1 h0,if_pos rfl]
theorem Vector.Ed {α:Type}[Inhabited α]{n:Nat}{v:Vector α n}{k i:Int}{x:α}(h0:0≤k)(h1:k < n)(hi:0≤i)(hn:i≠k):(v.put k x).at i=v.at i:=by rw [IL v k i x h0 h1 hi,if_neg hn]
namespace AH
variable {X Y:AH}
theorem Out.path:∀ {m:Nat} {i:Int},0≤i→i < 9→Out X m i→∃ s:List Int,RY s+s.length=9∧s.length=m+1∧∀ j∈s,∃ k,k≤m∧Out X k j
 | 0,i,h0,h9,h=>⟨[] ++ [i],by have:=NP (s:= []) (i:=i) (by simp) h0 h9;simp only [List.length_append,List.length_cons,List.length_nil];have:RY []=9:=rfl;omega,rfl,fun j hj=>by
   have:j=i:=by simpa using hj
   subst this;exact⟨0,Nat.le_refl _,h⟩⟩
 | m+1,i,h0,h9,h=>by
  obtain⟨s,h1,h2,h3⟩:=Out.path h.2.1 h.2.2.1 h.2.2.2
  have hn:i ∉ s:=fun hm=>by
   obtain⟨k,hk,ho⟩:=h3 i hm
   have:=h.uniq ho
   omega
  have hl:=NP hn h0 h9
  refine⟨s ++ [i],by simp only [List.length_append,List.length_cons,List.length_nil];omega,by simp only [List.length_append,List.length_cons,List.length_nil];omega,fun j hj=>?_⟩
  rcases List.mem_append.1 hj with hj | hj
  ·obtain⟨k,hk,ho⟩:=h3 j hj
   exact⟨k,by omega,ho⟩
  ·have:j=i:=by simpa using hj
   subst this;exact⟨m+1,Nat.le_refl _,h⟩
theorem Out.eA {m:Nat}{i:Int}(h0:0≤i)(h9:i < 9)(h:Out X m i):m≤8:=by
 obtain⟨s,h1,h2,_⟩:=h.path h0 h9
 omega
theorem Lw:∀ {m n:Nat} {i:Int},Out X m i→m < n→X.J0 n (X.AO.at i)=true
 | _,0,_,_,h=>absurd h (Nat.not_lt_zero _)
 | 0,n+1,i,h,_=>by
  unfold J0
  rw [if_pos (by simpa using (show(X.AO.at i).CY≠2 from h))]
 | m+1,n+1,i,h,hl=>by
  unfold J0
  rw [if_neg (by simp [h.1]),if_neg (by have:=h.2.1;have:=h.2.2.1;simp;omega)]
  exact Lw h.2.2.2 (by omega)
structure N5 (X:AH)(i:Int):Prop where
 k0:0≤(X.AO.at i).kind
 k3:(X.AO.at i).kind≤3
 plain:(X.AO.at i).kind=0→(X.AO.at i).on=false
 a0:0≤(X.AO.at i).at_
 CY:((X.AO.at i).CY=0∧(X.AO.at i).at_ < 6∧¬ ((X.AO.at i).kind=2∧(X.AO.at i).on=true)) ∨
  ((X.AO.at i).CY=1∧(X.AO.at i).at_ < 6∧(X.AM.at (X.AO.at i).at_).here=true) ∨
  ((X.AO.at i).CY=2∧(X.AO.at i).at_ < 9∧(X.AO.at (X.AO.at i).at_).kind=3∧¬ ((X.AO.at i).kind=2∧(X.AO.at i).on=true))
theorem QW.p {i:Int}(h:QW X i):N5 X i:=⟨h.k0,h.k3,h.plain,h.a0,by
 rcases h.CY with h | h | ⟨h1,h2,h3,h4,_⟩
 ·exact .inl h
 ·exact .inr (.inl h)
 ·exact .inr (.inr ⟨h1,h2,h3,h4⟩)⟩
theorem RH {i:Int}(h:N5 X i)(h0:0≤i)(h9:i < 9){m:Nat}(ho:Out X m i):X.Ci i=true:=by
 have hc:=Lw ho (show m < 10 by have:=ho.eA h0 h9;omega)
 have:=h.k0;have:=h.k3;have:=h.a0
 unfold Ci
 rw [if_neg (by
  simp only [Bool.or_eq_true,Bool.and_eq_true,decide_eq_true_eq]
  rintro (((h1 | h1) | ⟨h1,h2⟩) | h1)
  ·omega
  ·omega
  ·rw [h.plain h1] at h2;cases h2
  ·omega)]
 rcases h.CY with ⟨w,a,b⟩ | ⟨w,a,b⟩ | ⟨w,a,k,b⟩
 ·rw [if_pos (by simp [w])]
  simp only [Bool.and_eq_true,decide_eq_true_eq,Bool.not_eq_true']
  refine⟨a,?_⟩
  cases hh:(decide ((X.AO.at i).kind=2) && (X.AO.at i).on) with
  | false=>rfl
  | true=>rw [Bool.and_eq_true] at hh;exact absurd ⟨of_decide_eq_true hh.1,hh.2⟩ b
 ·rw [if_neg (by simp [w]),if_pos (by simp [w])]
  simp [a,b]
 ·rw [if_neg (by simp [w]),if_neg (by simp [w]),if_pos (by simp [w]),if_neg (by
   simp only [Bool.or_eq_true,Bool.and_eq_true,decide_eq_true_eq,Bool.not_eq_true',decide_eq_false_iff_not]
   rintro ((h1 | h1) | ⟨h1,h2⟩)
   ·omega
   ·exact h1 k
   ·exact b ⟨h1,h2⟩)]
  exact hc
theorem Q5 (hr:∀ r d,0≤r→r < 6→0≤d→d < 6→H0 (X.BT.at r) d=false)(hb:∀ b,0≤b→b < 6→Dk (X.AM.at b)=false)(ht:∀ i,0≤i→i < 9→N5 X i∧∃ m,Out X m i):X.Bb=true:=by
 unfold Bb
 rw [Bool.and_eq_true,Bool.and_eq_true]
 refine⟨(Da 6).2 fun r h0 h1=>?_,(Da 6).2 fun b h0 h1=>?_,(Da 9).2 fun i h0 h1=>?_⟩
 ·exact(Da 6).2 fun d d0 d1=>by rw [hr r d (by omega) h1 (by omega) d1];rfl
 ·rw [hb b (by omega) h1];rfl
 ·obtain⟨hp,m,ho⟩:=ht i (by omega) h1
  exact RH hp (by omega) h1 ho
theorem Out.same (h:∀ i,0≤i→i < 9→(Y.AO.at i).CY=(X.AO.at i).CY∧(Y.AO.at i).at_=(X.AO.at i).at_):∀ {m:Nat} {i:Int},0≤i→i < 9→Out X m i→Out Y m i
 | 0,i,h0,h9,ho=>by show(Y.AO.at i).CY≠2;rw [(h i h0 h9).1];exact ho
 | m+1,i,h0,h9,ho=>by
  refine⟨(h i h0 h9).1.trans ho.1,?_⟩
  rw [(h i h0 h9).2]
  exact⟨ho.2.1,ho.2.2.1,Out.same h ho.2.1 ho.2.2.1 ho.2.2.2⟩
theorem Out.other {k:Int}(h:∀ i,0≤i→i < 9→i≠k→Y.AO.at i=X.AO.at i)(hk:∃ m,Out Y m k):∀ {m:Nat} {i:Int},0≤i→i < 9→Out X m i→∃ m',Out Y m' i
 | 0,i,h0,h9,ho=>by
  by_cases e:i=k
  ·subst e;exact hk
  ·exact⟨0,by show(Y.AO.at i).CY≠2;rw [h i h0 h9 e];exact ho⟩
 | m+1,i,h0,h9,ho=>by
  by_cases e:i=k
  ·subst e;exact hk
  ·obtain⟨m',h'⟩:=Out.other h hk ho.2.1 ho.2.2.1 ho.2.2.2
   exact⟨m'+1,by rw [Out,h i h0 h9 e];exact⟨ho.1,ho.2.1,ho.2.2.1,h'⟩⟩
theorem Out.bq {k:Int}(h:∀ i,0≤i→i < 9→i≠k→Y.AO.at i=X.AO.at i):∀ {m n:Nat} {i:Int},0≤i→i < 9→Out X m i→m < n→X.inside k n i=false→Out Y m i
 | 0,0,_,_,_,_,hl,_=>absurd hl (Nat.not_lt_zero _)
 | _+1,0,_,_,_,_,hl,_=>absurd hl (Nat.not_lt_zero _)
 | 0,n+1,i,h0,h9,ho,hl,hi=>by
  have e:i≠k:=fun e=>by unfold inside at hi;rw [if_pos (by simp [e])] at hi;cases hi
  show(Y.AO.at i).CY≠2;rw [h i h0 h9 e];exact ho
 | m+1,n+1,i,h0,h9,ho,hl,hi=>by
  have e:i≠k:=fun e=>by unfold inside at hi;rw [if_pos (by simp [e])] at hi;cases hi
  unfold inside at hi
  rw [if_neg (by simp [e]),if_neg (by simp [ho.1];omega)] at hi
  rw [Out,h i h0 h9 e]
  exact⟨ho.1,ho.2.1,ho.2.2.1,Out.bq h ho.2.1 ho.2.2.1 ho.2.2.2 (by omega) hi⟩
end AH
end Go.Ing
/- What beings do keeps the land good: the parts of a turn. -/
namespace Go.Ing
open Go
theorem Vector.Pm {α:Type}[Inhabited α]{n:Nat}(v:Vector α n)(k i:Int)(x:α):(v.put k x).at i=x∨(v.put k x).at i=v.at i:=by
 unfold Vector.put Vector.at
 rw [List.getD_eq_getElem?_getD,List.getD_eq_getElem?_getD]
 simp only [Vector.toList_setIfInBounds]
 rw [List.getElem?_set]
 split
 ·split
  ·exact .inl rfl
  ·rename_i h1 h2
   exact .inr (by rw [← h1,List.getElem?_eq_none (by omega)])
 ·exact .inr rfl
namespace AH
variable {X:AH}
def Gr (X:AH)(i:Int)(t:Al):AH:={ X with AO:=X.AO.put i t }
def C4 (X:AH)(b:Int)(x:Ag):AH:={ X with AM:=X.AM.put b x }
def NB (X:AH)(r d:Int)(v:Bool):AH:={ X with BT:=X.BT.put r { X.BT.at r with shut:=(X.BT.at r).shut.put d v } }
theorem HU (hg:X.Bb=true){i:Int}(h0:0≤i)(h9:i < 9):N5 X i:=(RR (Np hg h0 h9)).p
theorem KE (hg:X.Bb=true){i:Int}(h0:0≤i)(h9:i < 9):∃ m,Out X m i:=by
 obtain⟨m,_,h⟩:=Rv hg h0 h9;exact⟨m,h⟩
theorem KT {i j:Int}(h0:0≤i)(h9:i < 9)(j0:0≤j)(hn:j≠i)(t:Al):(X.Gr i t).AO.at j=X.AO.at j:=Vector.Ed h0 h9 j0 hn
theorem Fp {i:Int}(h0:0≤i)(h9:i < 9)(t:Al):(X.Gr i t).AO.at i=t:=Vector.CD h0 h9
theorem GS {i j:Int}(h0:0≤i)(h9:i < 6)(j0:0≤j)(hn:j≠i)(t:Ag):(X.C4 i t).AM.at j=X.AM.at j:=Vector.Ed h0 h9 j0 hn
theorem EL {i:Int}(h0:0≤i)(h9:i < 6)(t:Ag):(X.C4 i t).AM.at i=t:=Vector.CD h0 h9
theorem KG (hg:X.Bb=true){i:Int}(h0:0≤i)(h9:i < 9){t:Al}(hk:t.kind=(X.AO.at i).kind)(hp:N5 (X.Gr i t) i)(ho:∃ m,Out (X.Gr i t) m i):(X.Gr i t).Bb=true:=by
 have hs:∀ j,0≤j→j < 9→j≠i→(X.Gr i t).AO.at j=X.AO.at j:=fun j j0 _ hn=>KT h0 h9 j0 hn t
 refine Q5 (fun r d r0 r6 d0 d6=>KC hg r0 r6 d0 d6) (fun b b0 b6=>FL hg b0 b6) fun j j0 j9=>?_
 obtain⟨m,hm⟩:=KE hg j0 j9
 refine⟨?_,Out.other hs ho j0 j9 hm⟩
 by_cases e:j=i
 ·subst e;exact hp
 ·have q:=HU hg j0 j9
  have hkk:∀ a,0≤a→a < 9→((X.Gr i t).AO.at a).kind=(X.AO.at a).kind:=fun a a0 a9=>by
   by_cases ea:a=i
   ·subst ea;rw [Fp h0 h9,hk]
   ·rw [hs a a0 a9 ea]
  have ej:=hs j j0 j9 e
  refine⟨by rw [ej];exact q.k0,by rw [ej];exact q.k3,by rw [ej];exact q.plain,by rw [ej];exact q.a0,?_⟩
  rw [ej]
  rcases q.CY with h | h | ⟨h1,h2,h3,h4⟩
  ·exact .inl h
  ·exact .inr (.inl h)
  ·exact .inr (.inr ⟨h1,h2,by rw [hkk _ q.a0 h2];exact h3,h4⟩)
theorem Ih (hg:X.Bb=true){b:Int}(h0:0≤b)(h6:b < 6){x:Ag}(hx:Dk x=false)(hh:∀ i,0≤i→i < 9→(X.AO.at i).CY=1→(X.AO.at i).at_=b→x.here=true):(X.C4 b x).Bb=true:=by
 refine Q5 (fun r d r0 r6 d0 d6=>KC hg r0 r6 d0 d6) (fun c c0 c6=>?_) fun j j0 j9=>?_
 ·by_cases e:c=b
  ·subst e;rw [EL h0 h6];exact hx
  ·rw [GS h0 h6 c0 e];exact FL hg c0 c6
 ·obtain⟨m,hm⟩:=KE hg j0 j9
  refine⟨?_,m,Out.same (X:=X) (Y:=X.C4 b x) (fun _ _ _=>⟨rfl,rfl⟩) j0 j9 hm⟩
  have q:=HU hg j0 j9
  refine⟨q.k0,q.k3,q.plain,q.a0,?_⟩
  rcases q.CY with h | ⟨h1,h2,h3⟩ | h
  ·exact .inl h
  ·refine .inr (.inl ⟨h1,h2,?_⟩)
   show((X.C4 b x).AM.at (X.AO.at j).at_).here=true
   by_cases e:(X.AO.at j).at_=b
   ·rw [e,EL h0 h6];exact hh j j0 j9 h1 e
   ·rw [GS h0 h6 q.a0 e];exact h3
  ·exact .inr (.inr h)
theorem V6 (hg:X.Bb=true){r d:Int}(h0:0≤r)(h6:r < 6)(d0:0≤d)(d6:d < 6){v:Bool}(hv:v=true→(X.BT.at r).CN.at d≠0):(X.NB r d v).Bb=true:=by
 refine Q5 (fun c e c0 c6 e0 e6=>?_) (fun b b0 b6=>FL hg b0 b6) fun j j0 j9=>?_
 ·have q:=KC hg c0 c6 e0 e6
  by_cases ec:c=r
  ·subst ec
   have er:(X.NB c d v).BT.at c={ X.BT.at c with shut:=(X.BT.at c).shut.put d v }:=Vector.CD h0 h6
   rw [er]
   unfold H0 at q ⊢
   show(decide ((X.BT.at c).CN.at e < 0) || decide (6 < (X.BT.at c).CN.at e) || (decide ((X.BT.at c).CN.at e=0) && ((X.BT.at c).shut.put d v).at e))=false
   rw [IL _ _ _ _ d0 d6 e0]
   split
   ·rename_i ee
    subst ee
    cases v with
    | false=>
     simp only [Bool.and_false,Bool.or_false]
     rw [Bool.or_eq_false_iff] at q
     exact q.1
    | true=>simpa [hv rfl] using (Bool.or_eq_false_iff.1 q).1
   ·exact q
  ·rw [show(X.NB r d v).BT.at c=X.BT.at c from Vector.Ed h0 h6 c0 ec];exact q
 ·obtain⟨m,hm⟩:=KE hg j0 j9
  have q:=HU hg j0 j9
  exact⟨⟨q.k0,q.k3,q.plain,q.a0,q.CY⟩,m,Out.same (X:=X) (Y:=X.NB r d v) (fun _ _ _=>⟨rfl,rfl⟩) j0 j9 hm⟩
/-! #### what is done to a thing -/
section
variable {i:Int} (hg:X.Bb=true) (h0:0≤i) (h9:i < 9)
include hg h0 h9
theorem UH {v:Bool}(h1:(X.AO.at i).kind≠0)(h2:(X.AO.at i).kind=2→(X.AO.at i).CY=1):(X.Gr i { X.AO.at i with on:=v }).Bb=true:=by
 have q:=HU hg h0 h9
 obtain⟨m,hm⟩:=KE hg h0 h9
 have hs:∀ j,0≤j→j < 9→((X.Gr i { X.AO.at i with on:=v }).AO.at j).CY=(X.AO.at j).CY∧((X.Gr i { X.AO.at i with on:=v }).AO.at j).at_=(X.AO.at j).at_:=fun j j0 _=>by
  by_cases e:j=i
  ·subst e;rw [Fp h0 h9];exact⟨rfl,rfl⟩
  ·rw [KT h0 h9 j0 e];exact⟨rfl,rfl⟩
 have hkk:∀ a,0≤a→((X.Gr i { X.AO.at i with on:=v }).AO.at a).kind=(X.AO.at a).kind:=fun a a0=>by
  by_cases ea:a=i
  ·subst ea;rw [Fp h0 h9]
  ·rw [KT h0 h9 a0 ea]
 refine KG hg h0 h9 (by rfl) ?_ ⟨m,Out.same hs h0 h9 hm⟩
 refine⟨?_,?_,?_,?_,?_⟩<;>rw [Fp h0 h9]
 ·exact q.k0
 ·exact q.k3
 ·exact fun e=>absurd e h1
 ·exact q.a0
 ·rcases q.CY with ⟨a,b,c⟩ | h | ⟨a,b,c,d⟩
  ·exact .inl ⟨a,b,fun⟨e,_⟩=>by have:=h2 e;omega⟩
  ·exact .inr (.inl h)
  ·refine .inr (.inr ⟨a,b,?_,fun⟨e,_⟩=>by have:=h2 e;omega⟩)
   show((X.Gr i { X.AO.at i with on:=v }).AO.at (X.AO.at i).at_).kind=3
   rw [hkk _ q.a0];exact c
theorem Mo {v:Bool}{a:Int}(ha:0≤a∧a < 6)(hv:(X.AO.at i).kind=0→v=false)(hc:¬ ((X.AO.at i).kind=2∧v=true)):(X.Gr i { X.AO.at i with on:=v,CY:=0,at_:=a }).Bb=true:=by
 have q:=HU hg h0 h9
 refine KG hg h0 h9 (by rfl) ?_ ⟨0,by show((X.Gr i _).AO.at i).CY≠2;rw [Fp h0 h9];intro hc;cases hc⟩
 refine⟨?_,?_,?_,?_,?_⟩<;>rw [Fp h0 h9]
 ·exact q.k0
 ·exact q.k3
 ·exact hv
 ·exact ha.1
 ·exact .inl ⟨rfl,ha.2,hc⟩
theorem Ri {a:Int}(ha:0≤a∧a < 6)(hh:(X.AM.at a).here=true):(X.Gr i { X.AO.at i with CY:=1,at_:=a }).Bb=true:=by
 have q:=HU hg h0 h9
 refine KG hg h0 h9 (by rfl) ?_ ⟨0,by show((X.Gr i _).AO.at i).CY≠2;rw [Fp h0 h9];intro hc;cases hc⟩
 refine⟨?_,?_,?_,?_,?_⟩<;>rw [Fp h0 h9]
 ·exact q.k0
 ·exact q.k3
 ·exact q.plain
 ·exact ha.1
 ·exact .inr (.inl ⟨rfl,ha.2,hh⟩)
theorem Rk {a:Int}(ha:0≤a∧a < 9)(hk:(X.AO.at a).kind=3)(hc:¬ ((X.AO.at i).kind=2∧(X.AO.at i).on=true))(hi:X.Tp a i=false):(X.Gr i { X.AO.at i with CY:=2,at_:=a }).Bb=true:=by
 have q:=HU hg h0 h9
 have hs:∀ j,0≤j→j < 9→j≠i→(X.Gr i { X.AO.at i with CY:=2,at_:=a }).AO.at j=X.AO.at j:=fun j j0 _ hn=>KT h0 h9 j0 hn _
 have hai:a≠i:=fun e=>by subst e;rw [Vg] at hi;cases hi
 obtain⟨m,hm10,hm⟩:=Rv hg ha.1 ha.2
 have hm':=Out.bq hs ha.1 ha.2 hm hm10 hi
 refine KG hg h0 h9 (by rfl) ?_ ⟨m+1,by rw [Out,Fp h0 h9];exact⟨rfl,ha.1,ha.2,hm'⟩⟩
 refine⟨?_,?_,?_,?_,?_⟩<;>rw [Fp h0 h9]
 ·exact q.k0
 ·exact q.k3
 ·exact q.plain
 ·exact ha.1
 ·refine .inr (.inr ⟨rfl,ha.2,?_,hc⟩)
  show((X.Gr i _).AO.at a).kind=3
  rw [hs a ha.1 ha.2 hai];exact hk
end
end AH
end Go.Ing
/- What beings do keeps the land good: a turn. -/
namespace Go.Ing
open Go
namespace AH
end AH
namespace AF
structure Fit (T:AF):Prop where
 b:0≤T.b∧T.b < 6
 br:T.w.DH
 gd:T.w.Bb=true
 here:(T.w.AM.at T.b).here=true
structure Step (b:Int)(X Y:AH):Prop where
 th:∀ i,0≤i→i < 9→(Y.AO.at i).name=(X.AO.at i).name∧(Y.AO.at i).kind=(X.AO.at i).kind
 own:∀ i,0≤i→i < 9→(X.AO.at i).CY=1→(X.AO.at i).at_≠b→Y.AO.at i=X.AO.at i
 be:∀ c,0≤c→c < 6→c≠b→{ Y.AM.at c with Bz:=0 }={ X.AM.at c with Bz:=0 }
 ro:∀ r,0≤r→r < 6→(Y.BT.at r).name=(X.BT.at r).name∧(Y.BT.at r).MM=(X.BT.at r).MM∧(Y.BT.at r).CN=(X.BT.at r).CN
theorem Step.refl (b:Int)(X:AH):Step b X X:=⟨fun _ _ _=>⟨rfl,rfl⟩,fun _ _ _ _ _=>rfl,fun _ _ _ _=>rfl,fun _ _ _=>⟨rfl,rfl,rfl⟩⟩
theorem Step.trans {b:Int}{X Y Z:AH}(h:Step b X Y)(k:Step b Y Z):Step b X Z:=
  ⟨fun i h0 h9=>⟨(k.th i h0 h9).1.trans (h.th i h0 h9).1,(k.th i h0 h9).2.trans (h.th i h0 h9).2⟩,
   fun i h0 h9 h1 h2=>by
    have e:=h.own i h0 h9 h1 h2
    exact(k.own i h0 h9 (by rw [e];exact h1) (by rw [e];exact h2)).trans e,
   fun c h0 h6 hn=>(k.be c h0 h6 hn).trans (h.be c h0 h6 hn),
   fun r h0 h6=>⟨(k.ro r h0 h6).1.trans (h.ro r h0 h6).1,(k.ro r h0 h6).2.1.trans (h.ro r h0 h6).2.1,(k.ro r h0 h6).2.2.trans (h.ro r h0 h6).2.2⟩⟩
theorem Fit.Ef {T T':AF}(h:T.Fit)(hw:T'.w=T.w)(hb:T'.b=T.b):T'.Fit:=⟨by rw [hb];exact h.b,by rw [hw];exact h.br,by rw [hw];exact h.gd,by rw [hw,hb];exact h.here⟩
theorem Fit.BP {T:AF}(h:T.Fit)(e:Event):(T.BP e).Fit:=h.Ef rfl rfl
theorem Fit.tell {T:AF}(h:T.Fit)(s:Aq):(T.tell s).Fit:=h.Ef rfl rfl
theorem Fit.room {T:AF}(h:T.Fit):0≤(T.w.AM.at T.b).room∧(T.w.AM.at T.b).room < 6:=by
 have:=AH.FL h.gd h.b.1 h.b.2
 simp only [AH.Dk,Bool.or_eq_false_iff,decide_eq_false_iff_not] at this
 omega
theorem Fit.exit {T:AF}(h:T.Fit){d:Int}(d0:0≤d)(d6:d < 6):0≤(T.w.BT.at (T.w.AM.at T.b).room).CN.at d∧(T.w.BT.at (T.w.AM.at T.b).room).CN.at d≤6:=by
 have:=AH.KC h.gd h.room.1 h.room.2 d0 d6
 simp only [AH.H0,Bool.or_eq_false_iff,decide_eq_false_iff_not] at this
 omega
theorem Tj {X:AH}(h:X.DH){i:Int}{t:Al}(ht:t.name.length≤140737488351232):(X.Gr i t).DH:=⟨fun j=>by
 rcases Vector.Pm X.AO i j t with e | e
 ·show((X.AO.put i t).at j).name.length≤_;rw [e];exact ht
 ·show((X.AO.put i t).at j).name.length≤_;rw [e];exact h.th j,h.be,h.ro⟩
theorem El {X:AH}(h:X.DH){i:Int}{t:Ag}(ht:t.name.length≤140737488351232):(X.C4 i t).DH:=⟨h.th,fun j=>by
 rcases Vector.Pm X.AM i j t with e | e
 ·show((X.AM.put i t).at j).name.length≤_;rw [e];exact ht
 ·show((X.AM.put i t).at j).name.length≤_;rw [e];exact h.be j,h.ro⟩
theorem Tn {X:AH}(h:X.DH){r d:Int}{v:Bool}:(X.NB r d v).DH:=⟨h.th,h.be,fun j=>by
 rcases Vector.Pm X.BT r j { X.BT.at r with shut:=(X.BT.at r).shut.put d v } with e | e
 ·show((X.BT.put r _).at j).name.length≤_;rw [e];exact h.ro r
 ·show((X.BT.put r _).at j).name.length≤_;rw [e];exact h.ro j⟩
theorem Uy {b:Int}{X:AH}{i:Int}(h0:0≤i)(h9:i < 9){t:Al}(hn:t.name=(X.AO.at i).name)(hk:t.kind=(X.AO.at i).kind)(ho:(X.AO.at i).CY=1→(X.AO.at i).at_=b):Step b X (X.Gr i t):=
  ⟨fun j j0 _=>by
    by_cases e:j=i
    · subst e;rw [AH.Fp h0 h9];exact⟨hn,hk⟩
    · rw [AH.KT h0 h9 j0 e];exact⟨rfl,rfl⟩,
   fun j j0 _ h1 h2=>by
    by_cases e:j=i
    · subst e;exact absurd (ho h1) h2
    · rw [AH.KT h0 h9 j0 e],
   fun _ _ _ _=>rfl,fun _ _ _=>⟨rfl,rfl,rfl⟩⟩
theorem MB {b:Int}{X:AH}{i:Int}(h0:0≤i)(h6:i < 6){t:Ag}(hn:i≠b→{ t with Bz:=0 }={ X.AM.at i with Bz:=0 }):Step b X (X.C4 i t):=
 ⟨fun _ _ _=>⟨rfl,rfl⟩,fun _ _ _ _ _=>rfl,fun c c0 _ hc=>by
  by_cases e:c=i
  ·subst e;rw [AH.EL h0 h6];exact hn hc
  ·rw [AH.GS h0 h6 c0 e],fun _ _ _=>⟨rfl,rfl,rfl⟩⟩
theorem Ve {b:Int}{X:AH}{r d:Int}(h0:0≤r)(h6:r < 6){v:Bool}:Step b X (X.NB r d v):=
 ⟨fun _ _ _=>⟨rfl,rfl⟩,fun _ _ _ _ _=>rfl,fun _ _ _ _=>rfl,fun j j0 _=>by
  by_cases e:j=r
  ·subst e
   rw [show(X.NB j d v).BT.at j={ X.BT.at j with shut:=(X.BT.at j).shut.put d v } from Vector.CD h0 h6]
   exact⟨rfl,rfl,rfl⟩
  ·rw [show(X.NB r d v).BT.at j=X.BT.at j from Vector.Ed h0 h6 j0 e]
   exact⟨rfl,rfl,rfl⟩⟩
structure DI (T T':AF):Prop where
 b:T'.b=T.b
 fit:T'.Fit
 st:Step T.b T.w T'.w
theorem DI.trans {T T' T'':AF}(h:DI T T')(k:DI T' T''):DI T T'':=⟨k.b.trans h.b,k.fit,h.st.trans (by have:=k.st;rwa [h.b] at this)⟩
theorem Fit.goes {T:AF}(h:T.Fit):DI T T:=⟨rfl,h, .refl _ _⟩
theorem DI.Ef {T T' T'':AF}(h:DI T T')(hw:T''.w=T'.w)(hb:T''.b=T'.b):DI T T'':=⟨hb.trans h.b,h.fit.Ef hw hb,by rw [hw];exact h.st⟩
theorem Ob {T:AF}(h:T.Fit){r:Int}(hr:0≤r∧r < 6):DI T (T.F3 r):=by
 have hg:=AH.FL h.gd h.b.1 h.b.2
 have hme:((T.F3 r).w.AM.at T.b)={ T.me with room:=r,Bz:=0 }:=Vector.CD h.b.1 h.b.2
 refine⟨rfl,⟨h.b,El h.br (h.br.be T.b),AH.Ih h.gd h.b.1 h.b.2 ?_ fun _ _ _ _ _=>h.here,?_⟩,MB h.b.1 h.b.2 fun hn=>absurd rfl hn⟩
 ·unfold AH.Dk at hg ⊢
  show(decide (r < 0) || decide (6≤r) || decide ((T.w.AM.at T.b).BK < 0) || decide (10 < (T.w.AM.at T.b).BK) || decide ((0:Int) < 0) || decide (6 < (0:Int)) || (!(T.w.AM.at T.b).here && !decide ((0:Int)=0)) || (T.w.AM.at T.b).here != decide (0 < (T.w.AM.at T.b).BK))=false
  simp only [Bool.or_eq_false_iff,decide_eq_false_iff_not] at hg ⊢
  refine⟨⟨⟨⟨⟨⟨⟨by omega,by omega⟩,hg.1.1.1.1.1.2⟩,hg.1.1.1.1.2⟩,by decide⟩,by decide⟩,by simp⟩,hg.2⟩
 ·show((T.F3 r).w.AM.at T.b).here=true
  rw [hme];exact h.here
theorem Pn {T:AF}(h:T.Fit):DI T T.look:=h.goes.Ef T.Jh.1 T.Jh.2.1
theorem Up {T:AF}(h:T.Fit){d:Int}(d0:0≤d)(d6:d < 6):DI T (T.walk d):=by
 unfold walk
 split
 ·exact h.goes.Ef rfl rfl
 ·split
  ·exact h.goes.Ef rfl rfl
  ·rename_i h1 _
   have hx:=h.exit d0 d6
   have h1':(T.w.BT.at (T.w.AM.at T.b).room).CN.at d≠0:=fun e=>h1 (decide_eq_true e)
   have g1:DI T (T.BP { Fy 1 with dir:=d }):=h.goes.Ef rfl rfl
   have g2:=g1.trans (Ob g1.fit (r:=(T.w.BT.at T.me.room).CN.at d - 1) (by show 0≤(T.w.BT.at (T.w.AM.at T.b).room).CN.at d - 1∧(T.w.BT.at (T.w.AM.at T.b).room).CN.at d - 1 < 6;omega))
   have g3:=g2.Ef (T'':=((T.BP { Fy 1 with dir:=d }).F3 ((T.w.BT.at T.me.room).CN.at d - 1)).BP { Fy 2 with dir:=AH.opposite d }) rfl rfl
   exact g3.trans (Pn g3.fit)
end AF
end Go.Ing
/- What beings do keeps the land good: each order. -/
namespace Go.Ing
open Go
namespace AH
variable {X:AH}
theorem RK {CY at_ i:Int}(h:i∈X.has CY at_):(X.AO.at i).CY=CY∧(X.AO.at i).at_=at_:=by
 have:=(List.mem_filter.1 h).2
 rw [Bool.and_eq_true] at this
 exact⟨of_decide_eq_true this.1,of_decide_eq_true this.2⟩
theorem P4 (CY at_:Int):(X.has CY at_).Nodup:=by
 unfold has
 exact List.Pairwise.filter _ (by decide)
end AH
namespace AF
/-! #### which things are meant -/
theorem EW (w:AH)(l:List Int)(nth:Int)(name:Aq)(all:Bool):(BR w l nth name all).Sublist l:=by
 unfold BR
 split
 ·exact List.filter_sublist
 ·split
  ·exact List.nil_sublist _
  ·exact((List.drop_sublist _ _).trans (List.take_sublist _ _)).trans List.filter_sublist
theorem Dp {w:AH}{l:List Int}{nth:Int}{name:Aq}{all:Bool}{i:Int}(h:i∈BR w l nth name all):i∈l:=(EW w l nth name all).mem h
def Ii (X:AH)(b i:Int):Prop:=0≤i∧i < 9∧((X.AO.at i).CY=1→(X.AO.at i).at_=b)
def cb (X:AH)(b i:Int):Prop:=0≤i∧i < 9∧(X.AO.at i).CY=1∧(X.AO.at i).at_=b
theorem cb.Sy {X:AH}{b i:Int}(h:cb X b i):Ii X b i:=⟨h.1,h.2.1,fun _=>h.2.2.2⟩
theorem FE {T:AF}{i:Int}(h:i∈T.own):cb T.w T.b i:=⟨(AH.Fi h).1,(AH.Fi h).2,(AH.RK h).1,(AH.RK h).2⟩
theorem WE {X:AH}{b CY at_ i:Int}(hw:CY≠1)(h:i∈X.has CY at_):Ii X b i:=⟨(AH.Fi h).1,(AH.Fi h).2,fun e=>absurd ((AH.RK h).1.symm.trans e) hw⟩
theorem J3 {T:AF}{i:Int}(h:i∈T.seen):0≤i∧i < 9∧(T.w.AO.at i).CY=0:=by
 unfold seen at h
 split at h
 ·cases h
 ·exact⟨(AH.Fi h).1,(AH.Fi h).2,(AH.RK h).1⟩
theorem MG {T:AF}{i:Int}(h:i∈T.seen):Ii T.w T.b i:=by
 obtain⟨h0,h9,e⟩:=J3 h
 exact⟨h0,h9,fun e1=>by omega⟩
theorem NO {l:List Int}(h:(decide ((l.length:Int)=0))=false):l.getD 0 0∈l:=by
 have h':(l.length:Int)≠0:=of_decide_eq_false h
 exact Bg.Eo (by omega)
theorem O0 {T:AF}{u:Aq}(h:(T.one u).2=true):Ii T.w T.b (T.one u).1:=by
 unfold one at h ⊢
 split at h
 ·cases h
 ·rename_i h1
  rw [if_neg h1]
  split at h
  ·cases h
  ·rename_i h2
   rw [if_neg h2]
   have hm:=Dp (NO (Bool.not_eq_true _ ▸ h2))
   rcases List.mem_append.1 hm with hm | hm
   ·exact(FE hm).Sy
   ·exact MG hm
/-! #### a box, somebody -/
theorem Ji (T:AF)(u:Aq):(T.box u).1.w=T.w∧(T.box u).1.b=T.b:=by
 unfold box
 split
 ·exact⟨rfl,rfl⟩
 ·split<;>exact⟨rfl,rfl⟩
theorem W3 {T:AF}{u:Aq}(h:(T.box u).2.2=true):0≤(T.box u).2.1∧(T.box u).2.1 < 9∧(T.w.AO.at (T.box u).2.1).kind=3∧(T.box u).1=T:=by
 unfold box at h ⊢
 split at h
 ·cases h
 ·rename_i h1
  rw [if_neg h1]
  split at h
  ·cases h
  ·rename_i h2
   rw [if_neg h2]
   simp only [Bool.or_eq_true,Bool.not_eq_true',decide_eq_false_iff_not,not_or,Bool.not_eq_false,Decidable.not_not] at h1
   have hm:=O0 h1.1
   exact⟨hm.1,hm.2.1,h1.2,rfl⟩
theorem L4 {T:AF}{name:Aq}{k:Int}:∀ {r:Nat} {n:Int},r≤6→T.IZ name r n=some k→0≤k∧k < 6∧k≠T.b∧T.w.Ij T.b k=true
 | 0,_,_,h=>by cases h
 | r+1,n,hr,h=>by
  unfold IZ at h
  split at h
  ·exact L4 (by omega) h
  ·rename_i h1
   split at h
   ·cases h
    simp only [Bool.or_eq_true,decide_eq_true_eq,Bool.not_eq_true',not_or,Bool.not_eq_false] at h1
    exact⟨by omega,by omega,h1.1.1,h1.2⟩
   ·exact L4 (by omega) h
theorem Iv (T:AF)(u:Aq):(T.A6 u).1.w=T.w∧(T.A6 u).1.b=T.b:=by
 unfold A6
 split
 ·split<;>exact⟨rfl,rfl⟩
 ·exact⟨rfl,rfl⟩
theorem JX {T:AF}{u:Aq}(h:(T.A6 u).2.2=true):0≤(T.A6 u).2.1∧(T.A6 u).2.1 < 6∧(T.A6 u).2.1≠T.b∧T.w.Ij T.b (T.A6 u).2.1=true:=by
 unfold A6 at h ⊢
 split at h
 ·rename_i h1
  rw [if_pos h1]
  split at h
  ·rename_i k hk
   exact L4 (Nat.le_refl _) hk
  ·cases h
 ·cases h
/-! #### taking and letting go -/
theorem ET {T:AF}(h:T.Fit){i:Int}(hm:Ii T.w T.b i){t:Al}(hn:t.name=(T.w.AO.at i).name)(hk:t.kind=(T.w.AO.at i).kind)(hg:(T.w.Gr i t).Bb=true):DI T (T.C6 i t):=
 ⟨rfl,⟨h.b,Tj h.br (by rw [hn];exact h.br.th i),hg,h.here⟩,Uy hm.1 hm.2.1 hn hk hm.2.2⟩
theorem Sb {T:AF}(h:T.Fit){i:Int}(hm:Ii T.w T.b i)(hc:¬ ((T.w.AO.at i).kind=2∧(T.w.AO.at i).on=true)):DI T (T.place i 0 T.me.room):=
 ET h hm rfl rfl (by
  have:=AH.Mo h.gd hm.1 hm.2.1 (v:=(T.w.AO.at i).on) h.room (AH.HU h.gd hm.1 hm.2.1).plain hc
  exact this)
theorem Md {T:AF}(h:T.Fit){i a:Int}(hm:Ii T.w T.b i)(ha:0≤a∧a < 6)(hh:(T.w.AM.at a).here=true):DI T (T.place i 1 a):=
 ET h hm rfl rfl (AH.Ri h.gd hm.1 hm.2.1 ha hh)
theorem Rl {T:AF}(h:T.Fit){i a:Int}(hm:Ii T.w T.b i)(ha:0≤a∧a < 9)(hk:(T.w.AO.at a).kind=3)(hc:¬ ((T.w.AO.at i).kind=2∧(T.w.AO.at i).on=true))(hi:T.w.Tp a i=false):DI T (T.place i 2 a):=
 ET h hm rfl rfl (AH.Rk h.gd hm.1 hm.2.1 ha hk hc hi)
theorem HD {T:AF}{i j CY at_:Int}(h0:0≤i)(h9:i < 9)(j0:0≤j):(T.place i CY at_).w.AO.at j=if j=i then { T.w.AO.at i with CY:=CY,at_:=at_ } else T.w.AO.at j:=IL _ _ _ _ h0 h9 j0
theorem JA:∀ {l:List Int} {T:AF},T.Fit→(∀ i∈l,Ii T.w T.b i)→DI T (T.DE l)
 | [],T,h,_=>h.goes
 | i :: r,T,h,hm=>by
  have hi:=hm i (List.mem_cons_self ..)
  have g1:=Md h hi h.b h.here
  have g2:DI T ((T.place i 1 T.b).Bs 3 i):=g1.Ef rfl rfl
  refine g2.trans (JA g2.fit fun j hj=>?_)
  have hj':=hm j (List.mem_cons_of_mem _ hj)
  refine⟨hj'.1,hj'.2.1,?_⟩
  show((T.place i 1 T.b).w.AO.at j).CY=1→((T.place i 1 T.b).w.AO.at j).at_=T.b
  rw [HD hi.1 hi.2.1 hj'.1]
  split
  ·exact fun _=>rfl
  ·exact hj'.2.2
theorem Pd {T:AF}(h:T.Fit){l:List Int}(hl:∀ i∈l,Ii T.w T.b i)(o:Order):DI T (T.Kb l o):=by
 unfold Kb
 have hp:∀ i∈BR T.w l o.nth o.name o.Bj,Ii T.w T.b i:=fun i hi=>hl i (Dp hi)
 split
 ·have g:DI T (T.tell KJ):=h.goes.Ef rfl rfl
  exact g.trans (JA g.fit hp)
 ·exact JA h hp
theorem Xb {T:AF}(h:T.Fit)(o:Order):DI T (T.get o):=by
 unfold get
 have g:DI T (T.box o.second).1:=h.goes.Ef (T.Ji o.second).1 (T.Ji o.second).2
 split
 ·split
  ·exact g
  ·refine g.trans (Pd g.fit (fun i hi=>?_) o)
   rw [(T.Ji o.second).1,(T.Ji o.second).2] at *
   exact WE (by decide) hi
 ·exact Pd h (fun i hi=>MG hi) o
def M7 (T:AF)(v to:Int):Prop:=(v=8)∨(v=10∧0≤to∧to < 6∧(T.w.AM.at to).here=true)∨(v≠8∧v≠10∧0≤to∧to < 9∧(T.w.AO.at to).kind=3)
theorem M7.next {T T':AF}{v to:Int}(h:M7 T v to)(hb:T'.w.AM=T.w.AM)(hk:∀ i,0≤i→i < 9→(T'.w.AO.at i).kind=(T.w.AO.at i).kind):M7 T' v to:=by
 rcases h with h | ⟨h1,h2,h3,h4⟩ | ⟨h1,h2,h3,h4,h5⟩
 ·exact .inl h
 ·exact .inr (.inl ⟨h1,h2,h3,by rw [hb];exact h4⟩)
 ·exact .inr (.inr ⟨h1,h2,h3,h4,by rw [hk _ h3 h4];exact h5⟩)
theorem SR {T:AF}(h:T.Fit){v to i:Int}(hm:Ii T.w T.b i)(ht:M7 T v to):DI T (T.Cp v to i)∧(T.Cp v to i).w.AM=T.w.AM∧∀ j,0≤j→j≠i→(T.Cp v to i).w.AO.at j=T.w.AO.at j:=by
 have hpl:∀ CY at_,(T.place i CY at_).w.AM=T.w.AM∧∀ j,0≤j→j≠i→(T.place i CY at_).w.AO.at j=T.w.AO.at j:=fun CY at_=>⟨rfl,fun j j0 hn=>by rw [HD hm.1 hm.2.1 j0,if_neg hn]⟩
 unfold Cp
 split
 ·exact⟨h.goes.Ef rfl rfl,rfl,fun _ _ _=>rfl⟩
 ·rename_i h1
  have hc:¬ ((T.w.AO.at i).kind=2∧(T.w.AO.at i).on=true):=fun e=>h1 (by rw [Bool.and_eq_true];exact⟨decide_eq_true e.1,e.2⟩)
  split
  ·exact⟨(Sb h hm hc).Ef rfl rfl,hpl 0 T.me.room⟩
  ·rename_i h2
   split
   ·rename_i h3
    rcases ht with e | ⟨_,a0,a6,hh⟩ | ⟨_,e,_⟩
    ·exact absurd (decide_eq_true e) h2
    ·exact⟨(Md h hm ⟨a0,a6⟩ hh).Ef rfl rfl,hpl 1 to⟩
    ·exact absurd (of_decide_eq_true h3) e
   ·rename_i h3
    split
    ·exact⟨h.goes.Ef rfl rfl,rfl,fun _ _ _=>rfl⟩
    ·rename_i h4
     rcases ht with e | ⟨e,_⟩ | ⟨_,_,a0,a9,hk⟩
     ·exact absurd (decide_eq_true e) h2
     ·exact absurd (decide_eq_true e) h3
     ·exact⟨(Rl h hm ⟨a0,a9⟩ hk hc (by simpa using h4)).Ef rfl rfl,hpl 2 to⟩
theorem Jc {v to:Int}:∀ {l:List Int} {T:AF},T.Fit→l.Nodup→(∀ i∈l,Ii T.w T.b i)→M7 T v to→DI T (T.Ei v to l)
 | [],T,h,_,_,_=>h.goes
 | i :: r,T,h,hd,hm,ht=>by
  have hi:=hm i (List.mem_cons_self ..)
  obtain⟨g,gb,gt⟩:=SR h hi ht
  have hd':=List.nodup_cons.1 hd
  refine g.trans (Jc g.fit hd'.2 (fun j hj=>?_) (ht.next gb fun j j0 j9=>(g.st.th j j0 j9).2))
  have hj':=hm j (List.mem_cons_of_mem _ hj)
  have hne:j≠i:=fun e=>hd'.1 (e ▸ hj)
  rw [Ii,gt j hj'.1 hne,g.b]
  exact hj'
theorem VB {T:AF}(h:T.Fit){to:Int}{o:Order}(ht:M7 T o.verb to):DI T (T.Rj to o):=by
 unfold Rj
 have hp:∀ i∈BR T.w T.own o.nth o.name o.Bj,Ii T.w T.b i:=fun i hi=>(FE (Dp hi)).Sy
 have hd:(BR T.w T.own o.nth o.name o.Bj).Nodup:=List.Nodup.sublist (EW ..) (AH.P4 ..)
 split
 ·have g:DI T (T.tell Oc):=h.goes.Ef rfl rfl
  exact g.trans (Jc g.fit hd hp (ht.next rfl fun _ _ _=>rfl))
 ·exact Jc h hd hp ht
theorem TQ {T:AF}(h:T.Fit){o:Order}(hv:o.verb=8∨o.verb=9∨o.verb=10):DI T (T.E7 o):=by
 have hw:(T.Cu o).1.w=T.w∧(T.Cu o).1.b=T.b:=by
  unfold Cu
  split
  ·exact T.Ji o.second
  ·split
   ·exact T.Iv o.second
   ·exact⟨rfl,rfl⟩
 have g:DI T (T.Cu o).1:=h.goes.Ef hw.1 hw.2
 unfold E7
 split
 ·exact g
 ·rename_i h1
  refine g.trans (VB g.fit ?_)
  have h1':(T.Cu o).2.2=true:=by simpa using h1
  unfold M7
  rw [hw.1]
  unfold Cu at h1' ⊢
  split at h1'
  ·rename_i h2
   rw [if_pos h2]
   obtain⟨a0,a9,hk,_⟩:=W3 h1'
   have:=of_decide_eq_true h2
   exact .inr (.inr ⟨by omega,by omega,a0,a9,hk⟩)
  ·rename_i h2
   rw [if_neg h2]
   split at h1'
   ·rename_i h3
    rw [if_pos h3]
    obtain⟨a0,a6,_,hs⟩:=JX h1'
    exact .inr (.inl ⟨of_decide_eq_true h3,a0,a6,(AH.HI (AH.K5 hs).2.1).2.2⟩)
   ·rename_i h3
    rw [if_neg h3]
    refine .inl ?_
    rcases hv with e | e | e
    ·exact e
    ·exact absurd (decide_eq_true e) h2
    ·exact absurd (decide_eq_true e) h3
end AF
end Go.Ing
/- What walks through a turn need. -/
namespace Go.Ing
open Go
theorem MI {α:Type}{l:List α}{k:Int}{d:α}(h0:0≤k)(h1:k < l.length):l.take (k+1).toNat=l.take k.toNat ++ [l.getD k.toNat d]:=by
 obtain⟨m,rfl⟩:=Int.eq_ofNat_of_zero_le h0
 have hm:m < l.length:=by omega
 rw [show((m:Int)+1).toNat=m+1 by omega,show((m:Int)).toNat=m by omega,List.take_add_one,List.getElem?_eq_getElem hm,List.getD_eq_getElem?_getD,List.getElem?_eq_getElem hm]
 rfl
theorem AH.Ld (d:Int):0≤AH.opposite d∧AH.opposite d < 6:=by
 unfold AH.opposite
 have h:=Int.tmod_nonneg (a:=max 0 (min d 5)+3) 6 (by omega)
 have h2:=Int.tmod_lt_of_pos (max 0 (min d 5)+3) (show(0:Int) < 6 by decide)
 exact⟨h,h2⟩
theorem Words.SZ {s:Aq}:∀ {n:Nat},n≤6→(Words.OV s n).2=true→0≤(Words.OV s n).1∧(Words.OV s n).1 < 6
 | 0,_,h=>by cases h
 | n+1,hn,h=>by
  unfold Words.OV at h ⊢
  split
  ·rename_i c
   show 0≤((5 - n:Nat):Int)∧((5 - n:Nat):Int) < 6
   omega
  ·rename_i c
   rw [if_neg c] at h
   exact Words.SZ (by omega) h
theorem Words.UJ {s:Aq}(h:(Words.dir s).2=true):0≤(Words.dir s).1∧(Words.dir s).1 < 6:=Words.SZ (Nat.le_refl _) h
namespace AF
theorem X5 {w:AH}{u:Aq}{l:List Int}{k:Int}(h0:0≤k)(h1:k < l.length)(c:(decide (u = []) || decide ((w.AO.at (l.getD k.toNat 0)).name=u))=true):JM w u (l.take (k+1).toNat)=JM w u (l.take k.toNat) ++ [l.getD k.toNat 0]:=by
 rw [MI (d:=0) h0 h1,JM,List.filter_append,List.filter_cons,if_pos c];rfl
theorem Yh {w:AH}{u:Aq}{l:List Int}{k:Int}(h0:0≤k)(h1:k < l.length)(c:(decide (u = []) || decide ((w.AO.at (l.getD k.toNat 0)).name=u))=false):JM w u (l.take (k+1).toNat)=JM w u (l.take k.toNat):=by
 rw [MI (d:=0) h0 h1,JM,List.filter_append,List.filter_cons,if_neg (by rw [c];decide)];simp [JM]
theorem Vi (w:AH)(u:Aq)(l:List Int):(JM w u l).length≤l.length:=List.length_filter_le _ _
theorem KO (T:AF):T.own.length≤9:=AH.H7 _ _ _
theorem Iu (T:AF):T.seen.length≤9:=by
 unfold seen;split
 ·simp
 ·exact AH.H7 _ _ _
theorem Qy {T:AF}{i:Int}(h:i∈T.own++T.seen):0≤i∧i < 9:=by
 rcases List.mem_append.1 h with h | h
 ·exact⟨(FE h).1,(FE h).2.1⟩
 ·exact⟨(J3 h).1,(J3 h).2.1⟩
theorem Ly {T:AF}{i:Int}(h:i∈T.own):0≤i∧i < 9:=⟨(FE h).1,(FE h).2.1⟩
theorem NR {T:AF}{i:Int}(h:i∈T.seen):0≤i∧i < 9:=⟨(J3 h).1,(J3 h).2.1⟩
theorem UU (T:AF)(u:Aq):0≤(T.one u).1∧(T.one u).1 < 9:=by
 by_cases h:(T.one u).2=true
 ·exact⟨(O0 h).1,(O0 h).2.1⟩
 ·unfold one at h ⊢
  split
  ·exact⟨Int.le_refl _,by decide⟩
  ·rename_i h1
   rw [if_neg h1] at h
   split
   ·exact⟨Int.le_refl _,by decide⟩
   ·rename_i h2
    rw [if_neg h2] at h
    exact absurd rfl h
theorem Yk (T:AF)(u:Aq):0≤(T.box u).2.1∧(T.box u).2.1 < 9:=by
 have h:=T.UU u
 unfold box
 split
 ·exact⟨Int.le_refl _,show(0:Int) < 9 by decide⟩
 ·split
  ·exact⟨Int.le_refl _,show(0:Int) < 9 by decide⟩
  ·exact h
theorem Ho (T:AF)(u:Aq):(T.box u).1.out.length≤T.out.length+1:=by
 unfold box
 split
 ·simp
 ·split<;>simp
theorem LW (T:AF)(u:Aq):0≤(T.A6 u).2.1∧(T.A6 u).2.1 < 6:=by
 unfold A6
 split
 ·split
  ·rename_i k hk
   have:=L4 (Nat.le_refl _) hk
   exact⟨this.1,this.2.1⟩
  ·exact⟨Int.le_refl _,show(0:Int) < 6 by decide⟩
 ·exact⟨Int.le_refl _,show(0:Int) < 6 by decide⟩
theorem HB (T:AF)(u:Aq):(T.A6 u).1.out.length≤T.out.length+1:=by
 unfold A6
 split
 ·split<;>simp
 ·simp
theorem Xf (T:AF)(hb:0≤T.b∧T.b < 6)(r:Int):({ T.w with AM:=(T.w.AM.put T.b { T.w.AM.at T.b with room:=r }).put T.b { (T.w.AM.put T.b { T.w.AM.at T.b with room:=r }).at T.b with Bz:=0 } }:AH)=(T.F3 r).w:=by
 rw [Vector.CD hb.1 hb.2,Vector.Ej];rfl
theorem HK (T:AF){i:Int}(h0:0≤i)(h9:i < 9)(wh a:Int):({ T.w with AO:=(T.w.AO.put i { T.w.AO.at i with CY:=wh }).put i { (T.w.AO.put i { T.w.AO.at i with CY:=wh }).at i with at_:=a } }:AH)=(T.place i wh a).w:=by
 rw [Vector.CD h0 h9,Vector.Ej];rfl
theorem D0 {T:AF}{i:Int}(h0:0≤i)(h9:i < 9)(wh a:Int):((T.place i wh a).w.AO.at i).name=(T.w.AO.at i).name:=by
 rw [HD h0 h9 h0,if_pos rfl]
theorem Dd {T:AF}{i j:Int}(h0:0≤i)(h9:i < 9)(j0:0≤j)(wh a:Int):((T.place i wh a).w.AO.at j).name=(T.w.AO.at j).name:=by
 rw [HD h0 h9 j0]
 split
 ·rename_i e;subst e;rfl
 ·rfl
theorem VR (T:AF){i:Int}(h0:0≤i)(h9:i < 9)(c:decide ((T.w.AO.at i).kind=2)=true):({ T.w with AO:=(((T.w.AO.put i { T.w.AO.at i with on:=false }).put i { (T.w.AO.put i { T.w.AO.at i with on:=false }).at i with CY:=0 }).put i { ((T.w.AO.put i { T.w.AO.at i with on:=false }).put i { (T.w.AO.put i { T.w.AO.at i with on:=false }).at i with CY:=0 }).at i with at_:=(T.w.AM.at T.b).room }) }:AH)=(T.Er i).w:=by
 rw [Vector.CD h0 h9,Vector.Ej,Vector.CD h0 h9,Vector.Ej]
 unfold Er
 rw [if_pos c];rfl
theorem VZ (T:AF){i:Int}(h0:0≤i)(h9:i < 9)(c:decide ((T.w.AO.at i).kind=2)=false):({ T.w with AO:=(T.w.AO.put i { T.w.AO.at i with CY:=0 }).put i { (T.w.AO.put i { T.w.AO.at i with CY:=0 }).at i with at_:=(T.w.AM.at T.b).room } }:AH)=(T.Er i).w:=by
 rw [Vector.CD h0 h9,Vector.Ej]
 unfold Er
 rw [if_neg (by rw [c];decide)];rfl
theorem G9 {X:AF}{l:List Int}{k:Int}(h0:0≤k)(h1:k < l.length):X.DE (l.drop k.toNat)=((X.place (l.getD k.toNat 0) 1 X.b).Bs 3 (l.getD k.toNat 0)).DE (l.drop (k+1).toNat):=by
 rw [NC h0 h1];rfl
theorem LN {X:AF}{l:List Int}{k:Int}(h0:0≤k)(h1:k < l.length):X.Ca (l.drop k.toNat)=(X.Er (l.getD k.toNat 0)).Ca (l.drop (k+1).toNat):=by
 rw [NC h0 h1];rfl
theorem Jb {α:Type}{l:List α}:l.drop (l.length:Int).toNat = []:=by rw [show(l.length:Int).toNat=l.length by omega,List.drop_length]
theorem OL {T:AF}{k:Int}(h:0≤k):T.DT (k+1).toNat=if decide (((T.DT k.toNat).w.AM.at k).Bz=T.b+1)=true then(T.DT k.toNat).Ch k 0 else T.DT k.toNat:=by
 obtain⟨m,rfl⟩:=Int.eq_ofNat_of_zero_le h
 rfl
theorem QM (T:AF):∀ k:Nat,(T.DT k).b=T.b∧(T.DT k).out=T.out
 | 0=>⟨rfl,rfl⟩
 | k+1=>by
  unfold DT;split
  ·exact QM T k
  ·exact QM T k
theorem Ia:∀(l:List Int) (T:AF),(T.Ca l).b=T.b∧(T.Ca l).out=T.out
 | [],T=>⟨rfl,rfl⟩
 | i :: r,T=>by rw [Ca];exact Ia r _
theorem K0 {T:AF}{name:Aq}{k n:Int}(h0:0≤k)(h6:k < 6):T.IZ name (6 - k).toNat n=if (decide (k=T.b) || !decide ((T.w.AM.at k).name=name) || !T.w.Ij T.b k)=true then T.IZ name (6 - (k+1)).toNat n else if decide (n - 1=0)=true then some k else T.IZ name (6 - (k+1)).toNat (n - 1):=by
 obtain⟨m,rfl⟩:=Int.eq_ofNat_of_zero_le h0
 have e:(6 - (m:Int)).toNat=(6 - ((m:Int)+1)).toNat+1:=by omega
 rw [e,IZ,show(((6 - ((6 - ((m:Int)+1)).toNat+1):Nat)):Int)=(m:Int) by omega]
@[simp] theorem FT (T:AF) (k i:Int):(T.Bs k i).out.length=T.out.length+1:=by simp [Bs]
@[simp] theorem Lc (T:AF) (k:Int):(T.kind k).out.length=T.out.length+1:=by simp [kind]
theorem SE (T:AF)(b f:Int):(T.Ch b f).b=T.b∧(T.Ch b f).out=T.out:=⟨rfl,rfl⟩
theorem RE (T:AF):T.E3.b=T.b∧T.E3.out=T.out:=by
 unfold E3
 rw [(SE _ _ _).1,(SE _ _ _).2]
 have h1:=AF.Ia T.own T
 have h2:=AF.QM (T.Ca T.own) 6
 exact⟨h2.1.trans h1.1,h2.2.trans h1.2⟩
theorem C8 (T:AF)(b:Int)(x:Ag):(T.DS b x).b=T.b∧(T.DS b x).out=T.out∧(T.DS b x).w={ T.w with AM:=T.w.AM.put b x }:=⟨rfl,rfl,rfl⟩
theorem O8 (T:AF):T.Gk.b=(T.kind 18).b∧T.Gk.out=(T.kind 18).out∧T.Gk.w={ (T.kind 18).E3.w with AM:=(T.kind 18).E3.w.AM.put (T.kind 18).b default }:=by
 unfold Gk
 rw [(C8 _ _ _).1,(C8 _ _ _).2.1,(C8 _ _ _).2.2]
 exact⟨(RE _).1,(RE _).2,rfl⟩
theorem SI {l:List Int}(h:∀ i∈l,0≤i∧i < 9):0≤l.getD (0:Int).toNat 0∧l.getD (0:Int).toNat 0 < 9:=by
 cases l with
 | nil=>exact⟨Int.le_refl _,show(0:Int) < 9 by decide⟩
 | cons x r=>exact h x (List.mem_cons_self ..)
theorem OE (T:AF)(v to i:Int):(T.Cp v to i).out.length≤T.out.length+1:=by
 unfold Cp
 split
 ·simp
 ·split
  ·rw [FT];exact Nat.le_refl _
  ·split
   ·rw [Cb];exact Nat.le_refl _
   ·split
    ·simp
    ·rw [Cb];exact Nat.le_refl _
theorem XN (T:AF)(v to i:Int):(T.Cp v to i).b=T.b:=by
 unfold Cp
 split
 ·rfl
 ·split
  ·rfl
  ·split
   ·rfl
   ·split<;>rfl
theorem QC (T:AF)(o:Order):(T.Cu o).1.out.length≤T.out.length+1:=by
 unfold Cu
 split
 ·exact T.Ho _
 ·split
  ·exact T.HB _
  ·exact Nat.le_succ _
theorem VA {X:AH}{b:Int}(hw:X.DH)(c1:(!X.Bb)=false)(c2:(decide (b < 0) || decide (6≤b) || !(X.AM.at b).here)=false):Fit ⟨X,b,[]⟩:=by
 simp only [Bool.or_eq_false_iff,decide_eq_false_iff_not,Bool.not_eq_false'] at c1 c2
 exact⟨⟨by show 0≤b;omega,by show b < 6;omega⟩,hw,c1,c2.2⟩
end AF
end Go.Ing
/- Engine: texts deep within what came in, as parts of its reading. -/
namespace Go.Ing
open Go
section
open Go.RowKit Go.ChangeShapes Go.WideShapes Go.ChangeAt
variable {H:Type} {enc:TypeId × Value→H} {P:Program} {w:World}
end
end Go.Ing
/- Laws of what beings do: doors; that rules answer at all. -/
namespace Go.Ing
open Go
theorem Vector.OB {α:Type}[Inhabited α]{n:Nat}(v:Vector α n)(i:Int):v.at i=default∨∃ j:Int,0≤j∧j < n∧v.at i=v.at j:=by
 by_cases h:i.toNat < n
 ·exact .inr ⟨(i.toNat:Int),by omega,by omega,by unfold Vector.at;rw [show((i.toNat:Nat):Int).toNat=i.toNat by omega]⟩
 ·refine .inl ?_
  unfold Vector.at
  rw [List.getD_eq_getElem?_getD,List.getElem?_eq_none (by simp;omega)]
  rfl
namespace AF
structure XL (X:AH)(b:Int)(o:Order):Prop where
 gd:X.Bb=true
 br:0≤b∧b < 6
 here:(X.AM.at b).here=true
 v:0≤o.verb∧o.verb≤20
 w:(EA X b o).1=(AF.act ⟨X,b,[]⟩ o).w
 out:(EA X b o).2.1=(AF.act ⟨X,b,[]⟩ o).out
theorem bl {X:AH}{b:Int}{o:Order}(h:(EA X b o).2.2=0):XL X b o:=by
 unfold EA at h
 split at h
 ·cases h
 ·rename_i h1
  split at h
  ·cases h
  ·rename_i h2
   split at h
   ·cases h
   ·rename_i h3
    have h2':=h2
    have h3':=h3
    have hd:EA X b o=((AF.act ⟨X,b,[]⟩ o).w,(AF.act ⟨X,b,[]⟩ o).out,0):=(if_neg h1).trans ((if_neg h2).trans (if_neg h3))
    simp only [Bool.or_eq_true,decide_eq_true_eq,Bool.not_eq_true',not_or,Bool.not_eq_false] at h1 h2' h3'
    exact⟨h1,⟨by omega,by omega⟩,h2'.2,⟨by omega,by omega⟩,by rw [hd],by rw [hd]⟩
theorem XL.fit {X:AH}{b:Int}{o:Order}(h:XL X b o)(hw:X.DH):Fit ⟨X,b,[]⟩:=⟨h.br,hw,h.gd,h.here⟩
end AF
end Go.Ing
/- What beings do keeps the land good: all orders. -/
namespace Go.Ing
open Go
namespace AF
theorem H4 {T:AF}(h:T.Fit){c f:Int}(c0:0≤c)(c6:c < 6)(f0:0≤f)(f6:f≤6)(hh:f≠0→(T.w.AM.at c).here=true):DI T (T.Ch c f):=by
 have hg:=AH.FL h.gd c0 c6
 have hb:∀ a,0≤a→((T.Ch c f).w.AM.at a).here=(T.w.AM.at a).here:=fun a a0=>by
  show((T.w.AM.put c { T.w.AM.at c with Bz:=f }).at a).here=_
  rw [IL _ _ _ _ c0 c6 a0]
  split
  ·rename_i e;subst e;rfl
  ·rfl
 refine⟨rfl,⟨h.b,El h.br (h.br.be c),AH.Ih h.gd c0 c6 ?_ fun i i0 i9 hw ha=>?_,(hb T.b h.b.1).trans h.here⟩,MB c0 c6 fun _=>rfl⟩
 ·unfold AH.Dk at hg ⊢
  simp only [Bool.or_eq_false_iff,decide_eq_false_iff_not,Bool.and_eq_false_iff,Bool.not_eq_false'] at hg ⊢
  obtain⟨⟨⟨⟨⟨⟨⟨q1,q2⟩,q3⟩,q4⟩,q5⟩,q6⟩,q7⟩,q8⟩:=hg
  refine⟨⟨⟨⟨⟨⟨⟨q1,q2⟩,q3⟩,q4⟩,by omega⟩,by omega⟩,?_⟩,q8⟩
  by_cases e:f=0
  ·exact .inr (by simp [e])
  ·exact .inl (hh e)
 ·show(T.w.AM.at c).here=true
  have:=AH.HU h.gd i0 i9
  rcases this.CY with ⟨a,_⟩ | ⟨_,_,a⟩ | ⟨a,_⟩
  ·omega
  ·rw [ha] at a;exact a
  ·omega
theorem TV {T:AF}(h:T.Fit)(o:Order):DI T (T.Ez o):=by
 unfold Ez
 generalize (if (!decide (o.nth=1) || o.Bj)=true then [] else o.name)=nm
 have hw:=T.Iv nm
 have g:DI T (T.A6 nm).1:=h.goes.Ef hw.1 hw.2
 split
 ·exact g
 ·rename_i h1
  have hs:=JX (T:=T) (u:=nm) (by simpa using h1)
  have hk:(T.w.AM.at (T.A6 nm).2.1).here=true:=(AH.HI (AH.K5 hs.2.2.2).2.1).2.2
  have hgb:=g.fit.b
  have g1:=g.trans (H4 g.fit (c:=(T.A6 nm).1.b) (f:=(T.A6 nm).2.1+1) g.fit.b.1 g.fit.b.2 (by omega) (by omega) fun _=>g.fit.here)
  have key:DI T (if decide ((((T.A6 nm).1.Ch (T.A6 nm).1.b ((T.A6 nm).2.1+1)).w.AM.at (T.A6 nm).2.1).Bz=0)=true then((T.A6 nm).1.Ch (T.A6 nm).1.b ((T.A6 nm).2.1+1)).Ch (T.A6 nm).2.1 ((T.A6 nm).1.b+1) else(T.A6 nm).1.Ch (T.A6 nm).1.b ((T.A6 nm).2.1+1)):=by
   split
   ·refine g1.trans (H4 g1.fit hs.1 hs.2.1 (by omega) (by omega) fun _=>?_)
    show(((T.A6 nm).1.w.AM.put (T.A6 nm).1.b _).at _).here=true
    rw [IL _ _ _ _ g.fit.b.1 g.fit.b.2 hs.1,if_neg (by rw [hw.2];exact hs.2.2.1),hw.1]
    exact hk
   ·exact g1
  exact key.Ef rfl rfl
theorem Ml {T:AF}(h:T.Fit){first:Bool}{i:Int}{v:Bool}{ev:Int}(hm:Ii T.w T.b i)(h1:(T.w.AO.at i).kind≠0)(h2:(T.w.AO.at i).kind=2→(T.w.AO.at i).CY=1):DI T (T.before first i v ev):=by
 unfold before
 split
 ·have g:=ET h hm (t:={ T.w.AO.at i with on:=v }) rfl rfl (AH.UH h.gd hm.1 hm.2.1 h1 h2)
  exact g.Ef rfl rfl
 ·have g:DI T (T.Bs ev i):=h.goes.Ef rfl rfl
  exact g.trans (ET g.fit hm rfl rfl (AH.UH h.gd hm.1 hm.2.1 h1 h2))
theorem Lh {T:AF}(h:T.Fit){r d:Int}{v:Bool}(r0:0≤r)(r6:r < 6)(d0:0≤d)(d6:d < 6)(hv:v=true→(T.w.BT.at r).CN.at d≠0):DI T (T.C5 r d v):=
 ⟨rfl,⟨h.b,Tn h.br,AH.V6 h.gd r0 r6 d0 d6 hv,h.here⟩,Ve r0 r6⟩
theorem VC {T:AF}(h:T.Fit){d:Int}{on:Bool}{ev:Int}(d0:0≤d)(d6:d < 6):DI T (T.G0 d on ev):=by
 have hx:=h.exit d0 d6
 have hr:=h.room
 unfold G0
 split
 ·exact h.goes.Ef rfl rfl
 ·rename_i h1
  split
  ·exact h.goes.Ef rfl rfl
  ·have h1':¬ (T.w.BT.at (T.w.AM.at T.b).room).CN.at d - 1 < 0:=fun e=>h1 (decide_eq_true e)
   have g1:=Lh h (v:=!on) hr.1 hr.2 d0 d6 fun _=>by omega
   have ho:=AH.Ld d
   have key:DI T (if decide (((T.C5 T.me.room d (!on)).w.BT.at ((T.w.BT.at T.me.room).CN.at d - 1)).CN.at (AH.opposite d)=T.me.room+1)=true then(T.C5 T.me.room d (!on)).C5 ((T.w.BT.at T.me.room).CN.at d - 1) (AH.opposite d) (!on) else T.C5 T.me.room d (!on)):=by
    split
    ·rename_i h3
     refine g1.trans (Lh g1.fit (v:=!on) (r:=(T.w.BT.at (T.w.AM.at T.b).room).CN.at d - 1) (d:=AH.opposite d) (by omega) (by omega) ho.1 ho.2 fun _=>?_)
     have h3':=of_decide_eq_true h3
     intro e
     have h3'':((T.C5 T.me.room d (!on)).w.BT.at ((T.w.BT.at (T.w.AM.at T.b).room).CN.at d - 1)).CN.at (AH.opposite d)=(T.w.AM.at T.b).room+1:=h3'
     have e':((T.C5 T.me.room d (!on)).w.BT.at ((T.w.BT.at (T.w.AM.at T.b).room).CN.at d - 1)).CN.at (AH.opposite d)=0:=e
     omega
    ·exact g1
   exact key.Ef rfl rfl
theorem RZ {v:Int}:setKind v=1∨setKind v=2∨setKind v=3:=by
 unfold setKind
 split
 ·exact .inl rfl
 ·split
  ·exact .inr (.inl rfl)
  ·exact .inr (.inr rfl)
theorem Wu {T:AF}(h:T.Fit)(o:Order):DI T (T.set o):=by
 unfold set
 split
 ·rename_i h1
  have:=Words.UJ (Bool.and_eq_true_iff.1 h1).1
  exact VC h this.1 this.2
 ·split
  ·exact h.goes.Ef rfl rfl
  ·rename_i h2
   split
   ·exact h.goes.Ef rfl rfl
   ·simp only [Bool.or_eq_true,decide_eq_true_eq,Bool.not_eq_true',decide_eq_false_iff_not,not_or,Decidable.not_not] at h2
    have hm:(T.EO o).getD 0 0∈T.EO o:=NO (decide_eq_false h2.1)
    have hm2:=Dp hm
    have hk:=RZ (v:=o.verb)
    have hmine:Ii T.w T.b ((T.EO o).getD 0 0)∧(setKind o.verb=2→(T.w.AO.at ((T.EO o).getD 0 0)).CY=1):=by
     split at hm2
     ·rename_i h3
      have h3':=of_decide_eq_true h3
      rcases List.mem_append.1 hm2 with hq | hq
      ·exact⟨(FE hq).Sy,fun e=>by omega⟩
      ·exact⟨MG hq,fun e=>by omega⟩
     ·exact⟨(FE hm2).Sy,fun _=>(FE hm2).2.2.1⟩
    have hk0:(T.w.AO.at ((T.EO o).getD 0 0)).kind≠0:=by rw [h2.2];omega
    have hk2:(T.w.AO.at ((T.EO o).getD 0 0)).kind=2→(T.w.AO.at ((T.EO o).getD 0 0)).CY=1:=fun e=>hmine.2 (by rw [← h2.2];exact e)
    split
    ·exact Ml h hmine.1 hk0 hk2
    ·exact Ml h hmine.1 hk0 hk2
theorem Jx {T:AF}{i j:Int}(h0:0≤i)(h9:i < 9)(j0:0≤j):(T.Er i).w.AO.at j=if j=i then { T.w.AO.at i with on:=if decide ((T.w.AO.at i).kind=2)=true then false else(T.w.AO.at i).on,CY:=0,at_:=T.me.room } else T.w.AO.at j:=IL _ _ _ _ h0 h9 j0
theorem Q6 {T:AF}(h:T.Fit){i:Int}(hm:Ii T.w T.b i):DI T (T.Er i):=
 ET h hm rfl rfl (AH.Mo h.gd hm.1 hm.2.1 h.room (fun e=>by rw [if_neg (by rw [e];decide)];exact(AH.HU h.gd hm.1 hm.2.1).plain e) (fun⟨e1,e2⟩=>by rw [if_pos (decide_eq_true e1)] at e2;cases e2))
theorem JF:∀ {l:List Int} {T:AF},T.Fit→(∀ i∈l,Ii T.w T.b i)→DI T (T.Ca l)∧∀ j,0≤j→j < 9→(((T.Ca l).w.AO.at j).CY=0∨(j ∉ l∧(T.Ca l).w.AO.at j=T.w.AO.at j))
 | [],T,h,_=>⟨h.goes,fun j _ _=> .inr ⟨by simp,rfl⟩⟩
 | i :: r,T,h,hm=>by
  have hi:=hm i (List.mem_cons_self ..)
  have g1:=Q6 h hi
  obtain⟨g2,k2⟩:=JF (l:=r) g1.fit fun j hj=>by
   have hj':=hm j (List.mem_cons_of_mem _ hj)
   refine⟨hj'.1,hj'.2.1,?_⟩
   rw [Jx hi.1 hi.2.1 hj'.1]
   split
   ·intro e;cases e
   ·exact hj'.2.2
  refine⟨g1.trans g2,fun j j0 j9=>?_⟩
  rcases k2 j j0 j9 with e | ⟨e1,e2⟩
  ·exact .inl e
  ·have hd:=Jx (T:=T) hi.1 hi.2.1 j0
   by_cases hji:j=i
   ·rw [if_pos hji] at hd
    exact .inl (by rw [show(T.Ca (i :: r)).w.AO.at j=_ from e2,hd])
   ·rw [if_neg hji] at hd
    exact .inr ⟨by simp [hji,e1],e2.trans hd⟩
theorem Kz {T:AF}(h:T.Fit):∀ {k:Nat},k≤6→DI T (T.DT k)∧(T.DT k).w.AO=T.w.AO
 | 0,_=>⟨h.goes,rfl⟩
 | k+1,hk=>by
  obtain⟨g,e⟩:=Kz (k:=k) h (by omega)
  unfold DT
  split
  ·exact⟨g.trans (H4 g.fit (by omega) (by omega) (Int.le_refl _) (by decide) fun e=>absurd rfl e),e⟩
  ·exact⟨g,e⟩
theorem LZ (T:AF):T.E3=((T.Ca T.own).DT 6).Ch T.b 0:=by unfold E3;rfl
theorem X4 {T:AF}(h:T.Fit):DI T T.E3:=by
 have g1:=(JF h (l:=T.own) fun i hi=>(FE hi).Sy).1
 have g2:=(Kz g1.fit (k:=6) (Nat.le_refl _)).1
 have g3:=g1.trans g2
 have g4:=H4 g3.fit (c:=T.b) (f:=0) h.b.1 h.b.2 (Int.le_refl _) (by decide) (fun e=>(e rfl).elim)
 rw [LZ]
 exact g3.trans g4
theorem PN (T:AF)(b f:Int):(T.Ch b f).w.AO=T.w.AO:=rfl
theorem RV {T:AF}(h:T.Fit){j:Int}(j0:0≤j)(j9:j < 9):¬ ((T.E3.w.AO.at j).CY=1∧(T.E3.w.AO.at j).at_=T.b):=by
 obtain⟨g1,k1⟩:=JF h (l:=T.own) fun i hi=>(FE hi).Sy
 have k2:=(Kz g1.fit (k:=6) (Nat.le_refl _)).2
 rw [LZ,PN,k2]
 rcases k1 j j0 j9 with e | ⟨e1,e2⟩
 ·rw [e];exact fun h=>by cases h.1
 ·rw [e2]
  intro⟨a,b⟩
  refine e1 ?_
  unfold own AH.has
  exact List.mem_filter.2 ⟨List.mem_map.2 ⟨j.toNat,List.mem_range.2 (by omega),by show((j.toNat:Nat):Int)=j;omega⟩,by rw [a,b];simp⟩
theorem QB {T:AF}(h:T.Fit):DI T T.E3∧∀ j,0≤j→j < 9→¬ ((T.E3.w.AO.at j).CY=1∧(T.E3.w.AO.at j).at_=T.b):=⟨X4 h,fun _ j0 j9=>RV h j0 j9⟩
theorem Tm {T:AF}(h:T.Fit):T.Gk.w.Bb=true∧Step T.b T.w T.Gk.w:=by
 have g1:DI T (T.kind 18):=h.goes.Ef rfl rfl
 obtain⟨g2,k⟩:=QB g1.fit
 have g:=g1.trans g2
 rw [(T.O8).2.2]
 exact⟨AH.Ih (X:=(T.kind 18).E3.w) g.fit.gd h.b.1 h.b.2 (by decide) fun i i0 i9 e1 e2=>absurd ⟨e1,e2⟩ (k i i0 i9),g.st.trans (MB h.b.1 h.b.2 fun e=>absurd rfl e)⟩
theorem Vj {T:AF}(h:T.Fit)(o:Order)(h0:0≤o.verb)(h1:o.verb≤20):(T.act o).w.Bb=true∧Step T.b T.w (T.act o).w:=by
 have k:∀ {T':AF},DI T T'→T'.w.Bb=true∧Step T.b T.w T'.w:=fun g=>⟨g.fit.gd,g.st⟩
 unfold act
 split
 ·rename_i c;exact k (Up h h0 (of_decide_eq_true c))
 ·split
  ·exact k (Pn h)
  ·split
   ·exact k (h.goes.Ef (T.HM _ _).1 (T.HM _ _).2.1)
   ·split
    ·exact k (h.goes.Ef rfl rfl)
    ·split
     ·exact Tm h
     ·split
      ·exact k (TV h o)
      ·split
       ·exact k (Xb h o)
       ·split
        ·rename_i c
         simp only [Bool.or_eq_true,decide_eq_true_eq] at c
         exact k (TQ h (by omega))
        ·exact k (Wu h o)
theorem keeps {X:AH}{b:Int}{o:Order}(hw:X.DH)(h:(EA X b o).2.2=0):(EA X b o).1.Bb=true∧Step b X (EA X b o).1:=by
 have k:=bl h
 rw [k.w]
 exact Vj (k.fit hw) o k.v.1 k.v.2
end AF
end Go.Ing

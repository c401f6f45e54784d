/- What the functions that the law of this seat reaches compute, and the plain laws of it. No condition. -/
import Derived.Test.YtoidpggbbfncpaaGreatDoorTopAloneEc3
import Derived.Test.YtoidpggbbfncpaaGreatDoorTopAloneRa1
set_option linter.unusedSimpArgs false
set_option linter.unusedVariables false
/- What people type: plain functions, and what is known of pieces. -/
namespace Go.Ing
open Go
namespace Words
theorem Lx (c:UInt8):∀ s:Au,(Lib.indexByte s c=-1∧c ∉ s)∨∃ i:Nat,Lib.indexByte s c=i∧i < s.length∧c ∉ s.take i∧s.drop i=c :: s.drop (i+1)
 | []=> .inl ⟨rfl,by simp⟩
 | b :: r=>by
  by_cases h:b=c
  ·subst h
   exact .inr ⟨0,by simp [Lib.indexByte],by simp,by simp,by simp⟩
  ·have hb:(b == c)=false:=by simpa using h
   rcases Lx c r with ⟨h1,h2⟩ | ⟨i,h1,h2,h3,h4⟩
   ·exact .inl ⟨by simp [Lib.indexByte,hb,h1],by simp [Ne.symm h,h2]⟩
   ·refine .inr ⟨i+1,?_,by simp;omega,?_,by simpa using h4⟩
    ·have:((i:Int) == -1)=false:=by simp
     simp [Lib.indexByte,hb,h1,this]
    ·simp [Ne.symm h,h3]
def pieces (c:UInt8):Au→List Au
 | []=> [[]]
 | x :: r=>if x=c then [] :: pieces c r else(x :: (pieces c r).headD []) :: (pieces c r).tail
theorem P0 (c:UInt8)(s:Au):pieces c s≠ []:=by
 cases s with
 | nil=>simp [pieces]
 | cons x r=>unfold pieces;split<;>simp
theorem Ku {c:UInt8}:∀ {s:Au},c ∉ s→pieces c s = [s]
 | [],_=>rfl
 | x :: r,h=>by
  simp only [List.mem_cons,not_or] at h
  rw [pieces,if_neg (Ne.symm h.1),Ku h.2];rfl
theorem Lk {c:UInt8}(r:Au):∀ {a:Au},c ∉ a→pieces c (a++c :: r)=a :: pieces c r
 | [],_=>by simp [pieces]
 | x :: a,h=>by
  simp only [List.mem_cons,not_or] at h
  rw [List.cons_append,pieces,if_neg (Ne.symm h.1),Lk r h.2];rfl
theorem FZ (c:UInt8):∀ s:Au,(pieces c s).length=s.count c+1
 | []=>rfl
 | x :: r=>by
  unfold pieces
  have ih:=FZ c r
  have hne:=P0 c r
  split
  ·rename_i h;simp [h,ih]
  ·rename_i h
   have:(x == c)=false:=by simpa using h
   rw [List.count_cons,this]
   obtain⟨p,q,hp⟩:=List.exists_cons_of_ne_nil hne
   rw [hp] at ih ⊢
   simpa using ih
theorem S0 {c:UInt8}{s:Au}{i:Nat}(h3:c ∉ s.take i)(h4:s.drop i=c :: s.drop (i+1)):pieces c s=s.take i :: pieces c (s.drop (i+1)):=by
 conv=>lhs;rw [← List.take_append_drop i s,h4]
 exact Lk _ h3
/-! #### small letters -/
def Va (c:UInt8):UInt8:=if (decide (65≤(c.toNat:Int)) && decide ((c.toNat:Int)≤90))=true then u8 ((c.toNat:Int)+97 - 65) else c
def low (w:Au):Au:=w.map Va
def words (s:Au):List Au:=((pieces 32 s).filter fun w=>!decide (w = [])).map low
theorem Yv {c:UInt8}(h:(decide (65≤(c.toNat:Int)) && decide ((c.toNat:Int)≤90))=true):u8 ((c.toNat:Int)+97 - 65)=Va c:=(if_pos h).symm
theorem Yp {c:UInt8}(h:(decide (65≤(c.toNat:Int)) && decide ((c.toNat:Int)≤90))=false):Va c=c:=if_neg (by rw [h];decide)
def H0 (w:Au)(k:Nat):Au:=(w.take k).map Va++w.drop k
theorem Ob (w:Au)(k:Nat):(H0 w k).length=w.length:=by simp [H0];omega
theorem UX {w:Au}{k:Int}(h0:0≤k)(h1:k < w.length):(H0 w k.toNat).getD k.toNat 0=w.getD k.toNat 0:=by
 have hk:k.toNat < w.length:=by omega
 unfold H0
 rw [List.getD_eq_getElem?_getD,List.getElem?_append_right (by simp;omega)]
 simp [List.getD_eq_getElem?_getD,Nat.min_eq_left (Nat.le_of_lt hk)]
theorem Wj (w:Au):H0 w w.length=low w:=by simp [H0,low]
theorem Sp {w:Au}{k:Int}(h0:0≤k)(h1:k < w.length):(H0 w k.toNat).set k.toNat (Va (w.getD k.toNat 0))=H0 w (k+1).toNat:=by
 obtain⟨n,rfl⟩:=Int.eq_ofNat_of_zero_le h0
 have hn:n < w.length:=by omega
 rw [show((n:Int)).toNat=n by omega,show((n:Int)+1).toNat=n+1 by omega]
 unfold H0
 rw [List.drop_eq_getElem_cons hn,List.set_append_right _ _ (by simp;omega)]
 simp only [List.length_map,List.length_take,Nat.min_eq_left (Nat.le_of_lt hn),Nat.sub_self,List.set_cons_zero]
 rw [List.take_add_one,List.map_append,List.append_assoc]
 simp [List.getD_eq_getElem?_getD,hn]
theorem Vf {w:Au}{k:Int}(h0:0≤k)(h1:k < w.length)(h:Va (w.getD k.toNat 0)=w.getD k.toNat 0):H0 w k.toNat=H0 w (k+1).toNat:=by
 rw [← Sp h0 h1,h]
 have hk:k.toNat < (H0 w k.toNat).length:=by rw [Ob];omega
 have e:=UX h0 h1
 rw [← e,List.getD_eq_getElem?_getD,List.getElem?_eq_getElem hk]
 simp
structure OW (c:UInt8)(s:Au)(i:Int)(r:Au)(xs:List Au):Prop where
 i0:0≤i
 i1:i≤s.count c
 len:xs.length=s.count c+1
 eq:pieces c s=xs.take i.toNat++pieces c r
 rl:r.length≤s.length
theorem OW.start (c:UInt8)(s:Au)(n:Nat)(hn:n=s.count c+1):OW c s 0 s (List.replicate n []):=
 ⟨Int.le_refl _,by omega,by simp [hn],by simp,Nat.le_refl _⟩
theorem OW.left {c:UInt8}{s:Au}{i:Int}{r:Au}{xs:List Au}(h:OW c s i r xs):(r.count c:Int)=s.count c - i:=by
 have:=congrArg List.length h.eq
 rw [List.length_append,FZ,FZ,List.length_take,h.len] at this
 have h1:=h.i0;have h2:=h.i1
 omega
theorem OW.next {c:UInt8}{s:Au}{i:Int}{r:Au}{xs:List Au}(h:OW c s i r xs){m:Int}(hm:Lib.indexByte r c=m)(h0:¬ m < 0):0≤m∧m < r.length∧OW c s (i+1) (r.drop (m+1).toNat) (xs.set i.toNat (r.take m.toNat)):=by
 have hi:=h.i0
 rcases Lx c r with ⟨e,_⟩ | ⟨j,e,h1,h2,h3⟩
 ·omega
 ·obtain rfl:m=j:=by omega
  have hl:=h.left
  have hp:=S0 h2 h3
  have hc:(pieces c r).length=(pieces c (r.drop (j+1))).length+1:=by rw [hp];simp
  rw [FZ,FZ] at hc
  have hx:=h.len
  refine⟨by omega,by omega,by omega,by omega,by simp [hx],?_,by simp;have:=h.rl;omega⟩
  rw [h.eq,hp,show(i+1).toNat=i.toNat+1 by omega,show((j:Int)+1).toNat=j+1 by omega,show((j:Int)).toNat=j by omega,List.take_add_one,List.getElem?_set_self (by omega),List.take_set_of_le (by omega)]
  simp
theorem OW.done {c:UInt8}{s:Au}{i:Int}{r:Au}{xs:List Au}(h:OW c s i r xs)(he:¬ i < (s.count c:Int)∨Lib.indexByte r c < 0):i=s.count c∧(xs.set i.toNat r).take (i+1).toNat=pieces c s:=by
 have hi:=h.i0;have hi1:=h.i1;have hl:=h.left;have hx:=h.len
 have hc:c ∉ r:=by
  rcases he with he | he
  ·intro hm;have:=List.count_pos_iff.2 hm;omega
  ·rcases Lx c r with ⟨_,h2⟩ | ⟨j,e,_⟩
   ·exact h2
   ·omega
 have h0:r.count c=0:=List.count_eq_zero.2 hc
 refine⟨by omega,?_⟩
 rw [h.eq,Ku hc,show(i+1).toNat=i.toNat+1 by omega,List.take_add_one,List.getElem?_set_self (by omega),List.take_set_of_le (by omega)]
 rfl
theorem Ib {c:UInt8}:∀ {s:Au} {p:Au},p∈pieces c s→p.length≤s.length
 | [],p,h=>by simp [pieces] at h;simp [h]
 | x :: r,p,h=>by
  unfold pieces at h
  obtain⟨q,t,hq⟩:=List.exists_cons_of_ne_nil (P0 c r)
  have ih:=@Ib c r
  rw [hq] at h ih
  split at h
  ·rcases List.mem_cons.1 h with h | h
   ·simp [h]
   ·have:=ih h;simp;omega
  ·simp only [List.headD_cons,List.tail_cons] at h
   rcases List.mem_cons.1 h with h | h
   ·have:=ih (p:=q) (by simp);rw [h];simp;omega
   ·have:=ih (p:=p) (by simp [h]);simp;omega
theorem WE {c:UInt8}{s:Au}(i:Nat):((pieces c s).getD i []).length≤s.length:=by
 rw [List.getD_eq_getElem?_getD]
 cases h:(pieces c s)[i]? with
 | none=>simp
 | some p=>exact Ib (List.mem_of_getElem? h)
def JU (s:Au)(k:Nat):List Au:=(((pieces 32 s).take k).filter fun w=>!decide (w = [])).map low
theorem Oq (s:Au):words s=JU s ((pieces 32 s).length:Int).toNat:=by
 rw [JU,show((pieces 32 s).length:Int).toNat=(pieces 32 s).length by omega,List.take_length];rfl
theorem QM {α:Type}{xs:List α}{d:α}{k:Int}(h0:0≤k)(h1:k < xs.length):xs.take (k+1).toNat=xs.take k.toNat ++ [xs.getD k.toNat d]:=by
 have hk:k.toNat < xs.length:=by omega
 rw [show(k+1).toNat=k.toNat+1 by omega,List.take_add_one,List.getD_eq_getElem?_getD,List.getElem?_eq_getElem hk]
 rfl
theorem YP {s:Au}{k:Int}(h0:0≤k)(h1:k < (pieces 32 s).length)(h:(!decide ((pieces 32 s).getD k.toNat [] = []))=true):JU s (k+1).toNat=JU s k.toNat ++ [low ((pieces 32 s).getD k.toNat [])]:=by
 unfold JU
 rw [QM (d:= []) h0 h1,List.filter_append,List.map_append]
 congr 1
 rw [List.filter_cons_of_pos (p:=fun w:Au=>!decide (w = [])) h];rfl
theorem X0 {s:Au}{k:Int}(h0:0≤k)(h1:k < (pieces 32 s).length)(h:(!decide ((pieces 32 s).getD k.toNat [] = []))=false):JU s (k+1).toNat=JU s k.toNat:=by
 unfold JU
 rw [QM (d:= []) h0 h1,List.filter_append,List.map_append,List.filter_cons_of_neg (p:=fun w:Au=>!decide (w = [])) (by rw [h];decide)]
 simp
/-! #### verbs -/
def pre (s p:Au):Bool:=decide ((p.length:Int)≤(s.length:Int)) && decide (s.take p.length=p)
def KH (w:Au):Nat→Int × Int
 | 0=>(0,3)
 | n+1=>if pre (AI.G1.getD (20 - n) []) w=true then(((20 - n:Nat):Int),0) else KH w n
def verb (w:Au):Int × Int:=if (!decide (w = []))=true then KH w 21 else(0,3)
theorem TO {w:Au}{k:Int}(h0:0≤k)(h1:k < 21):KH w (21 - k).toNat=if pre (AI.G1.getD k.toNat []) w=true then(k,0) else KH w (21 - (k+1)).toNat:=by
 rw [show(21 - k).toNat=(21 - (k+1)).toNat+1 by omega,KH,show 20 - (21 - (k+1)).toNat=k.toNat by omega,show((k.toNat:Nat):Int)=k by omega]
def Z2:Vector Au 21:=⟨AI.G1.toArray,rfl⟩
theorem UG:CA A8 Z2=AI.DP:=by kernel_rfl
/-! #### cutting and trimming -/
def NG (s p:Au):Au × Bool:=if (!pre s p)=true then(s,false) else(s.drop p.length,true)
def cut (c:UInt8)(s:Au):Au × Au × Bool:=if decide (0≤Lib.indexByte s c)=true then(s.take (Lib.indexByte s c).toNat,s.drop (Lib.indexByte s c+1).toNat,true) else(s,[],false)
theorem aG {c:UInt8}{s:Au}(h:0≤Lib.indexByte s c):Lib.indexByte s c < s.length:=by
 rcases Lx c s with ⟨e,_⟩ | ⟨i,e,h1,_⟩<;>omega
theorem NV (c:UInt8)(s:Au):(cut c s).1.length≤s.length∧(cut c s).2.1.length≤s.length:=by
 unfold cut;split<;>simp;omega
def QU (c:UInt8)(s:Au):Au:=s.dropWhile (·== c)
def Sb (c:UInt8)(s:Au):Au:=(s.reverse.dropWhile (·== c)).reverse
theorem ZQ {x c:UInt8}(h:(x.toNat:Int)=(c.toNat:Int)):x=c:=UInt8.toNat_inj.1 (by omega)
theorem bT {c:UInt8}{r:Au}(h:(decide ((0:Int) < (r.length:Int)) && decide (((r.getD (0:Int).toNat 0).toNat:Int)=(c.toNat:Int)))=true):QU c r=QU c (r.drop 1):=by
 cases r with
 | nil=>simp at h
 | cons x r=>
  simp only [Bool.and_eq_true,decide_eq_true_eq] at h
  have:x=c:=ZQ h.2
  subst this
  simp [QU]
theorem cS {c:UInt8}{r:Au}(h:(decide ((0:Int) < (r.length:Int)) && decide (((r.getD (0:Int).toNat 0).toNat:Int)=(c.toNat:Int)))=false):QU c r=r:=by
 cases r with
 | nil=>rfl
 | cons x r=>
  have hx:(x == c)=false:=by
   rw [Bool.eq_false_iff]
   intro e
   have:x=c:=by simpa using e
   subst this
   simp at h
  simp [QU,hx]
theorem cg {c:UInt8}{r:Au}(h:(decide ((0:Int) < (r.length:Int)) && decide (((r.getD ((r.length:Int) - 1).toNat 0).toNat:Int)=(c.toNat:Int)))=true):Sb c r=Sb c (r.take ((r.length:Int) - 1).toNat):=by
 simp only [Bool.and_eq_true,decide_eq_true_eq] at h
 have hne:r≠ []:=by rintro rfl;simp at h
 obtain⟨q,x,rfl⟩:∃ q x,r=q ++ [x]:=⟨r.dropLast,r.getLast hne,(List.dropLast_concat_getLast hne).symm⟩
 have e:(((q ++ [x]).length:Int) - 1).toNat=q.length:=by simp
 rw [e] at h ⊢
 have:x=c:=ZQ (by simpa [List.getD_eq_getElem?_getD] using h.2)
 subst this
 simp [Sb]
theorem cD {c:UInt8}{r:Au}(h:(decide ((0:Int) < (r.length:Int)) && decide (((r.getD ((r.length:Int) - 1).toNat 0).toNat:Int)=(c.toNat:Int)))=false):Sb c r=r:=by
 by_cases hne:r = []
 ·subst hne;rfl
 ·obtain⟨q,x,rfl⟩:∃ q x,r=q ++ [x]:=⟨r.dropLast,r.getLast hne,(List.dropLast_concat_getLast hne).symm⟩
  have e:(((q ++ [x]).length:Int) - 1).toNat=q.length:=by simp
  rw [e] at h
  have hx:(x == c)=false:=by
   rw [Bool.eq_false_iff]
   intro e
   have:x=c:=by simpa using e
   subst this
   simp [List.getD_eq_getElem?_getD] at h
  simp [Sb,hx]
theorem Lv (c:UInt8)(s:Au):(QU c s).length≤s.length:=(List.dropWhile_sublist _).length_le
theorem RP (c:UInt8)(s:Au):(Sb c s).length≤s.length:=by
 have:=(List.dropWhile_sublist (l:=s.reverse) (·== c)).length_le
 simpa [Sb] using this
/-! #### the rest of an order -/
def many (z:Int):Bool:=decide (z=7) || decide (z=8) || decide (z=9)
def Nl (z:Int):Au × Bool:=if decide (z=7)=true then([102,114,111,109],false) else if decide (z=9)=true then([105,110],true) else if decide (z=10)=true then([116,111],true) else([],false)
def OS (s:Au):Nat→Int × Bool
 | 0=>(0,false)
 | n+1=>if decide (AI.G1.getD (5 - n) []=s)=true then(((5 - n:Nat):Int),true) else OS s n
def dir (s:Au):Int × Bool:=OS s 6
theorem VH {s:Au}{k:Int}(h0:0≤k)(h1:k < 6):OS s (6 - k).toNat=if decide (AI.G1.getD k.toNat []=s)=true then(k,true) else OS s (6 - (k+1)).toNat:=by
 rw [show(6 - k).toNat=(6 - (k+1)).toNat+1 by omega,OS,show 5 - (6 - (k+1)).toNat=k.toNat by omega,show((k.toNat:Nat):Int)=k by omega]
/-! #### nouns -/
def Pm (k rest:Au):Int × Au × Bool × Int:=
 match Lib.atoiAll k with
 | .ok n=>if (decide (n < 1) || decide (99 < n) || decide (((k.getD (0:Int).toNat 0).toNat:Int) < 49) || decide (57 < ((k.getD (0:Int).toNat 0).toNat:Int)) || decide (rest = []) || decide (0≤Lib.indexByte rest 46))=true then(0,[],false,1) else(n,rest,false,0)
 | _=>(0,[],false,1)
theorem Ug {k rest:Au}{n:Int}(h:Lib.atoiAll k = .ok n):Pm k rest=if (decide (n < 1) || decide (99 < n) || decide (((k.getD (0:Int).toNat 0).toNat:Int) < 49) || decide (57 < ((k.getD (0:Int).toNat 0).toNat:Int)) || decide (rest = []) || decide (0≤Lib.indexByte rest 46))=true then(0,[],false,1) else(n,rest,false,0):=by
 unfold Pm;rw [h]
theorem XF {k rest:Au}(h:∀ j,Lib.atoiAll k≠ .ok j):Pm k rest=(0,[],false,1):=by
 unfold Pm
 split
 ·rename_i n e;exact absurd e (h n)
 ·rfl
theorem Rb {k:Au}{n:Int}(h:Lib.atoiAll k = .ok n):0 < k.length:=by
 cases k with
 | nil=>simp [Lib.atoiAll] at h
 | cons x r=>simp
def ER (u:Au):Int × Au × Bool × Int:=
 if decide (u = [97,108,108])=true then(1,[],true,0)
 else if ((NG u [97,108,108,46]).2 && !decide ((NG u [97,108,108,46]).1 = []) && !decide (0≤Lib.indexByte (NG u [97,108,108,46]).1 46))=true then(1,(NG u [97,108,108,46]).1,true,0)
 else if (!(cut 46 u).2.2)=true then(if decide (u = [])=true then(0,[],false,1) else(1,u,false,0))
 else Pm (cut 46 u).1 (cut 46 u).2.1
/-! #### orders -/
theorem P5 (u:Au):∀ n,n≤21→0≤(KH u n).1∧(KH u n).1≤20
 | 0,_=>by simp [KH]
 | n+1,h=>by
  unfold KH
  split
  ·simp only;omega
  ·exact P5 u n (by omega)
theorem Wh (u:Au):0≤(verb u).1∧(verb u).1≤20:=by
 unfold verb;split
 ·exact P5 u 21 (Nat.le_refl _)
 ·simp
def said (s:Au):Au:=QU 32 (Sb 32 (cut 32 (QU 32 s)).2.1)
def o0 (v:Int):Order:={ (default:Order) with verb:=v }
def Qc (o:Order)(j:Au × Bool)(W:List Au)(m:Nat):Order × Int:=
 if (decide ((m:Int)=0) && !j.2)=true then(o,0)
 else if (!decide ((m:Int)=1) || decide (j.1 = []))=true then(default,1)
 else({ o with second:=W.getD 0 [] },0)
def TU (o:Order)(j:Au × Bool)(W:List Au)(m:Nat):Order × Int:=
 if (decide (0 < (m:Int)) && !decide (j.1 = []) && decide (W.getD 0 []=j.1))=true then(if decide (((m - 1:Nat):Int)=0)=true then(default,1) else Qc o j (W.drop 1) (m - 1))
 else Qc o j W m
def RE (v:Int)(W:List Au)(m:Nat):Order × Int:=
 if (!decide ((ER (W.getD 0 [])).2.2.2=0) || ((ER (W.getD 0 [])).2.2.1 && !many v))=true then(default,1)
 else TU ⟨v,(ER (W.getD 0 [])).1,(ER (W.getD 0 [])).2.2.1,(ER (W.getD 0 [])).2.1,[],[]⟩ (Nl v) (W.drop 1) (m - 1)
def Wr (s:Au)(v:Int)(W:List Au)(m:Nat):Order × Int:=
 if decide (v=11)=true then(if decide (said s = [])=true then(default,1) else(⟨v,0,false,[],[],said s⟩,0))
 else if (decide (v≤6) || decide (19≤v))=true then(if decide (0 < (m:Int))=true then(default,1) else(o0 v,0))
 else if decide ((m:Int)=0)=true then(default,1)
 else if (decide (v=12) || decide (v=13))=true then
  (if (decide ((verb (W.getD 0 [])).2=0) && decide ((verb (W.getD 0 [])).1 < 6) && decide ((m:Int)=1))=true then(⟨v,1,false,AI.G1.getD (verb (W.getD 0 [])).1.toNat [],[],[]⟩,0) else RE v W m)
 else RE v W m
def parse (s:Au):Order × Int:=
 if decide (((words s).length:Int)=0)=true then(default,1)
 else if (!decide ((verb ((words s).getD 0 [])).2=0))=true then(default,(verb ((words s).getD 0 [])).2)
 else Wr s (verb ((words s).getD 0 [])).1 ((words s).drop 1) ((words s).length - 1)
theorem Yx (w:Au):(low w).length=w.length:=by simp [low]
theorem YA (s:Au)(i:Nat):((words s).getD i []).length≤s.length:=by
 rw [List.getD_eq_getElem?_getD]
 cases h:(words s)[i]? with
 | none=>simp
 | some p=>
  have hm:=List.mem_of_getElem? h
  unfold words at hm
  obtain⟨q,hq,rfl⟩:=List.mem_map.1 hm
  rw [Option.getD_some,Yx]
  exact Ib (List.mem_filter.1 hq).1
theorem MV (s:Au)(i j:Nat):(((words s).drop j).getD i []).length≤s.length:=by
 rw [List.getD_eq_getElem?_getD,List.getElem?_drop,← List.getD_eq_getElem?_getD];exact YA s _
end Words
end Go.Ing
/- What people type: plain laws. -/
namespace Go.Ing
open Go
namespace Words
/-! #### a shorter beginning -/
/-! #### what is parsed is good -/
structure ZO (o:Order):Prop where
 v0:0≤o.verb
 v1:o.verb≤20
 n0:0≤o.nth
 n1:o.nth≤99
 al:o.Bm=true→o.verb=7∨o.verb=8∨o.verb=9
 tx:o.text≠ []↔o.verb=11
 s1:o.second = []∨o.verb=7∨o.verb=9∨o.verb=10
 s2:o.second≠ []∨(o.verb≠9∧o.verb≠10)
def JB (r:Order × Int):Prop:=(r.2=0→ZO r.1)∧(r.2≠0→r.1=default)
theorem JB.bad (e:Int)(he:e≠0):JB (default,e):=⟨fun h=>absurd h he,fun _=>rfl⟩
theorem JB.ok {o:Order}(h:ZO o):JB (o,0):=⟨fun _=>h,fun h=>absurd rfl h⟩
theorem V8 (k r:Au):(Pm k r).2.2.2=0→0≤(Pm k r).1∧(Pm k r).1≤99:=by
 unfold Pm
 split
 ·split
  ·intro h;simp at h
  ·rename_i c
   intro _
   simp only [Bool.or_eq_true,decide_eq_true_eq,not_or] at c
   show 0≤_∧_≤99
   exact⟨by simp only;omega,by simp only;omega⟩
 ·intro h;simp at h
theorem VN (u:Au):(ER u).2.2.2=0→0≤(ER u).1∧(ER u).1≤99:=by
 unfold ER
 split
 ·intro _;simp
 ·split
  ·intro _;simp
  ·split
   ·split
    ·intro h;simp at h
    ·intro _;simp
   ·exact V8 _ _
/-! #### spaces ahead and behind -/
def Cn:Au→Au
 | []=> []
 | x :: r=>if x=32 then r else Cn r
end Words
end Go.Ing
/- Verbs and nouns as the document has them. -/
namespace Go.Ing
open Go
namespace Words
/-! #### nouns -/
end Words
end Go.Ing
/- Orders as the document has them. -/
namespace Go.Ing
open Go
namespace Words
/-! #### what is said -/
/-! #### orders -/
def alone (v:Int):Bool:=decide (v < 7) || decide (18 < v)
end Words
end Go.Ing
/- The program's data, in Lean, and their parts. -/
namespace Go.Ing
open Go
structure Ae where
 w:AI
 b:Int
 out:Hd
instance:Inhabited Ae:=⟨⟨default,0,⟨none,0,0⟩⟩⟩
def Ae.enc (x:Ae):List Value:=AI.enc x.w++Az x.b++Eo x.out
theorem Ae.fl:Flat Ae.enc 167:=⟨fun x=>by simp [Ae.enc,AI.fl.len,PR.len,B1.len],fun x v hv=>by
 simp only [Ae.enc,List.mem_append] at hv
 rcases hv with (h | h) | h
 ·exact AI.fl.one _ v h
 ·exact B1.one _ v h
 ·exact PR.one _ v h⟩
theorem Ae.l0:AS Ae.enc (AI.enc) 0 165 (fun x=>x.w) (fun x y=>{ x with w:=y }):=
 AS.Er AI.fl (fun _=> []) (fun x=>Az x.b++Eo x.out) (fun _=>rfl) (fun x=>by simp [Ae.enc]) (fun x y=>by simp [Ae.enc])
theorem Ae.l1:AS Ae.enc (Az) 165 1 (fun x=>x.b) (fun x y=>{ x with b:=y }):=
 AS.Er B1 (fun x=>AI.enc x.w) (fun x=>Eo x.out) (fun x=>by simp [AI.fl.len]) (fun x=>by simp [Ae.enc]) (fun x y=>by simp [Ae.enc])
theorem Ae.l2:AS Ae.enc (Eo) 166 1 (fun x=>x.out) (fun x y=>{ x with out:=y }):=
 AS.Er PR (fun x=>AI.enc x.w++Az x.b) (fun _=> []) (fun x=>by simp [AI.fl.len,B1.len]) (fun x=>by simp [Ae.enc]) (fun x y=>by simp [Ae.enc])
end Go.Ing
/- What comes of what beings do: plain functions. -/
namespace Go.Ing
open Go
structure AF where
 w:AI
 b:Int
 out:List Event
namespace AF
def Fw (k:Int):Event:=⟨k,0,0,-1,0,0,[],[],[],[],default⟩
def me (T:AF):An:=T.w.AO.at T.b
def Xz (T:AF)(e:Event):Event:={ e with Dj:=T.b,Hx:=T.me.name,room:=T.me.room }
def Dx (T:AF)(e:Event):Event:=if decide (0≤e.other)=true then { T.Xz e with Eb:=(T.w.AO.at e.other).name } else T.Xz e
def BP (T:AF)(e:Event):AF:={ T with out:=T.out ++ [T.w.H5 (T.Dx e) 6] }
def kind (T:AF)(k:Int):AF:=T.BP (Fw k)
def Bw (T:AF)(k i:Int):AF:=T.BP { Fw k with Bw:=(T.w.AP.at i).name }
def tell (T:AF)(s:Au):AF:=T.BP { Fw 16 with text:=s }
@[simp] theorem aq (T:AF) (e:Event):(T.BP e).w=T.w:=rfl
@[simp] theorem an (T:AF) (e:Event):(T.BP e).b=T.b:=rfl
@[simp] theorem Cg (T:AF) (e:Event):(T.BP e).out.length=T.out.length+1:=by simp [BP]
@[simp] theorem eA (T:AF) (s:Au):(T.tell s).w=T.w:=rfl
@[simp] theorem eC (T:AF) (s:Au):(T.tell s).b=T.b:=rfl
@[simp] theorem CI (T:AF) (s:Au):(T.tell s).out.length=T.out.length+1:=by simp [tell]
/-! #### lists -/
def IG (w:AI):Au→List Int→Au
 | s,[]=>s
 | s,i :: r=>IG w (if (w.AP.at i).on=true then s ++ [32]++(w.AP.at i).name ++ [42] else s ++ [32]++(w.AP.at i).name) r
def SW (w:AI)(s:Au)(l:List Int):Au:=if decide ((l.length:Int)=0)=true then IG w s l ++ [32,110,111,116,104,105,110,103] else IG w s l
def list (T:AF)(s:Au)(l:List Int):AF:=T.tell (SW T.w s l ++ [46])
/-! #### what is about -/
def It (r:Room):Nat→Au
 | 0=> [87,97,121,115,58]
 | d+1=>if decide (r.CR.at (d:Int)=0)=true then It r d else if r.shut.at (d:Int)=true then It r d++([32]++AI.called d) ++ [42] else It r d++([32]++AI.called d)
def Fh (T:AF):Nat→AF
 | 0=>T
 | k+1=>if (!decide ((k:Int)=T.b) && T.w.JC T.b k)=true then(Fh T k).tell ((T.w.AO.at k).name ++ [32,105,115,32,104,101,114,101,46]) else Fh T k
def Mc:Au:= [73,116,32,105,115,32,100,97,114,107,46]
def Jw (T:AF):AF:=
 ((T.tell ([84,104,101,32]++(T.w.BS.at T.me.room).name ++ [46])).tell (It (T.w.BS.at T.me.room) 6))
def EG (T:AF):AF:=if decide (0 < ((T.w.has 0 T.me.room).length:Int))=true then T.Jw.list [72,101,114,101,32,105,115] (T.w.has 0 T.me.room) else T.Jw
def look (T:AF):AF:=if (!T.w.Hf T.me.room)=true then T.tell Mc else Fh T.EG 6
def Xm:Au:= [89,111,117,32,99,97,110,110,111,116,32,103,111,32,116,104,101,114,101,46]
def Tc:Au:= [73,116,32,105,115,32,115,104,117,116,46]
def GF (T:AF)(r:Int):AF:={ T with w:={ T.w with AO:=T.w.AO.put T.b { T.me with room:=r,B4:=0 } } }
def walk (T:AF)(d:Int):AF:=
 if decide ((T.w.BS.at T.me.room).CR.at d=0)=true then T.tell Xm
 else if (T.w.BS.at T.me.room).shut.at d=true then T.tell Tc
 else(((T.BP { Fw 1 with dir:=d }).GF ((T.w.BS.at T.me.room).CR.at d - 1)).BP { Fw 2 with dir:=AI.opposite d }).look
/-! #### things that are meant -/
def Jg (w:AI)(name:Au)(l:List Int):List Int:=l.filter fun i=>decide (name = []) || decide ((w.AP.at i).name=name)
def BQ (w:AI)(l:List Int)(nth:Int)(name:Au)(all:Bool):List Int:=
 if all=true then Jg w name l
 else if (decide (nth < 1) || decide (((Jg w name l).length:Int) < nth))=true then []
 else((Jg w name l).take nth.toNat).drop (nth - 1).toNat
def seen (T:AF):List Int:=if (!T.w.Hf T.me.room)=true then [] else T.w.has 0 T.me.room
def own (T:AF):List Int:=T.w.has 1 T.b
def one (T:AF)(u:Au):Int × Bool:=
 if (!decide ((Words.ER u).2.2.2=0) || (Words.ER u).2.2.1)=true then(0,false)
 else if decide (((BQ T.w (T.own++T.seen) (Words.ER u).1 (Words.ER u).2.1 false).length:Int)=0)=true then(0,false)
 else((BQ T.w (T.own++T.seen) (Words.ER u).1 (Words.ER u).2.1 false).getD 0 0,true)
def KU:Au:= [84,104,101,114,101,32,105,115,32,110,111,32,115,117,99,104,32,116,104,105,110,103,46]
def Nt:Au:= [89,111,117,32,104,97,118,101,32,110,111,32,115,117,99,104,32,116,104,105,110,103,46]
def Oh:Au:= [84,104,101,114,101,32,105,115,32,110,111,98,111,100,121,32,111,102,32,116,104,97,116,32,110,97,109,101,46]
def bK:Au:= [89,111,117,32,119,101,97,114,32,105,116,46]
def ZY:Au:= [84,104,97,116,32,99,97,110,110,111,116,32,98,101,46]
def aI:Au:= [73,116,32,105,115,32,115,111,46]
def RS:Au:= [89,111,117,32,102,105,103,104,116,46]
def box (T:AF)(u:Au):AF × Int × Bool:=
 if (!(T.one u).2 || !decide ((T.w.AP.at (T.one u).1).kind=3))=true then(T.tell KU,0,false)
 else if (!(T.w.AP.at (T.one u).1).on)=true then(T.tell Tc,0,false)
 else(T,(T.one u).1,true)
def C9 (T:AF)(i:Int)(t:Ao):AF:={ T with w:={ T.w with AP:=T.w.AP.put i t } }
def place (T:AF)(i Cb at_:Int):AF:=T.C9 i { T.w.AP.at i with Cb:=Cb,at_:=at_ }
def DF (T:AF):List Int→AF
 | []=>T
 | i :: r=>DF ((T.place i 1 T.b).Bw 3 i) r
def Kh (T:AF)(l:List Int)(o:Order):AF:=DF (if decide (((BQ T.w l o.nth o.name o.Bm).length:Int)=0)=true then T.tell KU else T) (BQ T.w l o.nth o.name o.Bm)
def get (T:AF)(o:Order):AF:=
 if (!decide (o.second = []))=true then
  (if (!(T.box o.second).2.2)=true then(T.box o.second).1 else(T.box o.second).1.Kh ((T.box o.second).1.w.has 2 (T.box o.second).2.1) o)
 else T.Kh T.seen o
def Ix (T:AF)(name:Au):Nat→Int→Option Int
 | 0,_=>none
 | r+1,n=>if (decide (((6 - (r+1):Nat):Int)=T.b) || !decide ((T.w.AO.at ((6 - (r+1):Nat):Int)).name=name) || !T.w.JC T.b ((6 - (r+1):Nat):Int))=true then Ix T name r n else if decide (n - 1=0)=true then some ((6 - (r+1):Nat):Int) else Ix T name r (n - 1)
def A9 (T:AF)(u:Au):AF × Int × Bool:=
  if (decide ((Words.ER u).2.2.2=0) && !(Words.ER u).2.2.1)=true then
    (match Ix T (Words.ER u).2.1 6 (Words.ER u).1 with
     | some k=>(T,k,true)
     | none=>(T.tell Oh,0,false))
  else(T.tell Oh,0,false)
def Cs (T:AF)(v to i:Int):AF:=
 if (decide ((T.w.AP.at i).kind=2) && (T.w.AP.at i).on)=true then T.tell bK
 else if decide (v=8)=true then(T.place i 0 T.me.room).Bw 4 i
 else if decide (v=10)=true then(T.place i 1 to).BP { Fw 6 with other:=to,Bw:=(T.w.AP.at i).name }
 else if T.w.Tt to i=true then T.tell ZY
 else(T.place i 2 to).BP { Fw 5 with Bw:=(T.w.AP.at i).name,text:=(T.w.AP.at to).name }
def Eu (T:AF)(v to:Int):List Int→AF
 | []=>T
 | i :: r=>Eu (T.Cs v to i) v to r
def SI (T:AF)(to:Int)(o:Order):AF:=Eu (if decide (((BQ T.w T.own o.nth o.name o.Bm).length:Int)=0)=true then T.tell Nt else T) o.verb to (BQ T.w T.own o.nth o.name o.Bm)
def Cv (T:AF)(o:Order):AF × Int × Bool:=if decide (o.verb=9)=true then T.box o.second else if decide (o.verb=10)=true then T.A9 o.second else(T,0,true)
def FP (T:AF)(o:Order):AF:=if (!(T.Cv o).2.2)=true then(T.Cv o).1 else(T.Cv o).1.SI (T.Cv o).2.1 o
def Ck (T:AF)(b f:Int):AF:={ T with w:={ T.w with AO:=T.w.AO.put b { T.w.AO.at b with B4:=f } } }
def FB (T:AF)(o:Order):AF:=
 if (!(T.A9 (if (!decide (o.nth=1) || o.Bm)=true then [] else o.name)).2.2)=true then(T.A9 (if (!decide (o.nth=1) || o.Bm)=true then [] else o.name)).1
 else
  let k:=(T.A9 (if (!decide (o.nth=1) || o.Bm)=true then [] else o.name)).2.1
  let T1:=(T.A9 (if (!decide (o.nth=1) || o.Bm)=true then [] else o.name)).1.Ck (T.A9 (if (!decide (o.nth=1) || o.Bm)=true then [] else o.name)).1.b (k+1)
  (if decide ((T1.w.AO.at k).B4=0)=true then T1.Ck k ((T.A9 (if (!decide (o.nth=1) || o.Bm)=true then [] else o.name)).1.b+1) else T1).tell RS
/-! #### what is set -/
def before (T:AF)(first:Bool)(i:Int)(on:Bool)(ev:Int):AF:=
 if first=true then(T.C9 i { T.w.AP.at i with on:=on }).Bw ev i
 else(T.Bw ev i).C9 i { T.w.AP.at i with on:=on }
def C7 (T:AF)(r d:Int)(v:Bool):AF:={ T with w:={ T.w with BS:=T.w.BS.put r { T.w.BS.at r with shut:=(T.w.BS.at r).shut.put d v } } }
def P4:Au:= [100,111,111,114]
def HB (T:AF)(d:Int)(on:Bool)(ev:Int):AF:=
 if decide ((T.w.BS.at T.me.room).CR.at d - 1 < 0)=true then T.tell KU
 else if ((T.w.BS.at T.me.room).shut.at d != on)=true then T.tell aI
 else
  let to:=(T.w.BS.at T.me.room).CR.at d - 1
  let T1:=T.C7 T.me.room d (!on)
  (if decide ((T1.w.BS.at to).CR.at (AI.opposite d)=T.me.room+1)=true then T1.C7 to (AI.opposite d) (!on) else T1).BP { Fw ev with Bw:=P4 }
def Hu (v:Int):Bool:=decide (v=12) || decide (v=14) || decide (v=16)
def setKind (v:Int):Int:=if (decide (v=14) || decide (v=15))=true then 1 else if (decide (v=16) || decide (v=17))=true then 2 else 3
def Nj (v:Int):Int:=v - 4
def EY (T:AF)(o:Order):List Int:=BQ T.w (if decide (setKind o.verb=3)=true then T.own++T.seen else T.own) (max o.nth 1) o.name false
def set (T:AF)(o:Order):AF:=
 if ((Words.dir o.name).2 && decide (setKind o.verb=3))=true then T.HB (Words.dir o.name).1 (Hu o.verb) (Nj o.verb)
 else if (decide (((T.EY o).length:Int)=0) || !decide ((T.w.AP.at ((T.EY o).getD 0 0)).kind=setKind o.verb))=true then T.tell KU
 else if ((T.w.AP.at ((T.EY o).getD 0 0)).on == Hu o.verb)=true then T.tell aI
 else if Hu o.verb=true then T.before (!decide (setKind o.verb=2)) ((T.EY o).getD 0 0) (Hu o.verb) (Nj o.verb)
 else T.before (decide (setKind o.verb=2)) ((T.EY o).getD 0 0) (Hu o.verb) (Nj o.verb)
/-! #### who is gone -/
def E0 (T:AF)(i:Int):AF:=T.C9 i { T.w.AP.at i with on:=if decide ((T.w.AP.at i).kind=2)=true then false else(T.w.AP.at i).on,Cb:=0,at_:=T.me.room }
def Ce (T:AF):List Int→AF
 | []=>T
 | i :: r=>Ce (T.E0 i) r
def DZ (T:AF):Nat→AF
 | 0=>T
 | k+1=>if decide (((DZ T k).w.AO.at (k:Int)).B4=T.b+1)=true then(DZ T k).Ck k 0 else DZ T k
def FJ (T:AF):AF:=(DZ (T.Ce T.own) 6).Ck T.b 0
def DY (T:AF)(b:Int)(x:An):AF:={ T with w:={ T.w with AO:=T.w.AO.put b x } }
def Gq (T:AF):AF:=(T.kind 18).FJ.DY T.b default
/-! #### what a being does -/
def act (T:AF)(o:Order):AF:=
 if decide (o.verb < 6)=true then T.walk o.verb
 else if decide (o.verb=6)=true then T.look
 else if decide (o.verb=19)=true then T.list [89,111,117,32,104,97,118,101] (T.w.has 1 T.b)
 else if decide (o.verb=11)=true then T.BP { Fw 7 with text:=o.text }
 else if decide (o.verb=20)=true then T.Gq
 else if decide (o.verb=18)=true then T.FB o
 else if decide (o.verb=7)=true then T.get o
 else if (decide (o.verb=8) || decide (o.verb=9) || decide (o.verb=10))=true then T.FP o
 else T.set o
def EH (X:AI)(b:Int)(o:Order):AI × List Event × Int:=
 if (!X.Bj)=true then(X,[],2)
 else if (decide (b < 0) || decide (6≤b) || !(X.AO.at b).here)=true then(X,[],3)
 else if (decide (o.verb < 0) || decide (20 < o.verb))=true then(X,[],5)
 else((AF.act ⟨X,b,[]⟩ o).w,(AF.act ⟨X,b,[]⟩ o).out,0)
end AF
end Go.Ing
/- Engine: the program's own variables, beside what is handed on. -/
namespace Go.Ing
open Go
section
variable {w0 w:World} {M:List Nat} {L A K:List Ad} {g:Nat} {vs:List Value}
theorem GV.lt (h:GV g vs w):g < w.heap.size:=by
 obtain⟨t,fz,e⟩:=h
 rcases Nat.lt_or_ge g w.heap.size with h' | h'
 ·exact h'
 ·rw [Array.getElem?_eq_none h'] at e;cases e
theorem GV.stM (h:GV g vs w0)(hM:g ∉ M)(hS:St w0 M w L):GV g vs w:=by
 have hg:=h.lt
 obtain⟨t,fz,e⟩:=h
 exact⟨t,fz,(hS.Hv g hg hM).trans e⟩
theorem PM (hg:g < w0.heap.size)(hM:g ∉ M)(hS:St w0 M w L)(hp:Ay L A K):g ∉ Cj A:=by
 intro hf
 obtain⟨r,hr,hb⟩:=List.mem_flatMap.1 hf
 have hm:r∈L:=hp.perm.symm.subset (List.mem_append_left _ hr)
 exact hM ((hS.CX r hm g hb).2 hg)
theorem GV.pull (h:GV g vs w0)(hM:g ∉ M)(hS:St w0 M w L)(hp:Ay L A K):GV g vs w∧g ∉ Cj A:=⟨h.stM hM hS,PM h.lt hM hS hp⟩
theorem G3.stM (h:G3 g w0)(hM:g ∉ M)(hS:St w0 M w L):G3 g w:=by
 obtain⟨tp,p,h⟩:=h;exact⟨tp,p,h.stM hM hS⟩
theorem G3.pull (h:G3 g w0)(hM:g ∉ M)(hS:St w0 M w L)(hp:Ay L A K):G3 g w∧g ∉ Cj A:=by
 obtain⟨tp,p,h⟩:=h;exact⟨⟨tp,p,h.stM hM hS⟩,PM h.lt hM hS hp⟩
end
section
variable {P:Program} {n:Nat} {w0:World} {M:List Nat} {Q:Exit→Go.Act→World→Prop} {F F':List (Nat × Value)} {L L':List Ad} {ops:Array Oper} {rest:List Oper}
theorem S9 {α:Type}{e:α→List Value}{d T U E sz:Nat}{x y z:Operand}{pos:String}{Cn:Array Edge}{h:Hd}{xs:List α}{kd kz:IntKind}{i j:Int}{Lf:Ad→List Ad}(fe:Flat e sz)(hd:Nat.blt d n=true)(hT:P.underlying T=some (.slice E))(hs:Sz P E sz)(hx:ev F x=some h.val)(hy:ev F y=some (.int kd i))(hz:ev F z=some (.int kz j))(h0:0≤i)(h1:i≤j)(h2:j≤(h.len:Int))(hU:∀ r,LG L (Ad.own h E sz (xs.flatMap e)) r (Lf r))
  (k:GL P n w0 M ops Q rest ((d,(h.cut i.toNat j.toNat sz).val) :: F) (Lf (Ad.own (h.cut i.toNat j.toNat sz) E sz (((xs.take j.toNat).drop i.toNat).flatMap e)))):GL P n w0 M ops Q (⟨some d, .slice T x (some y) (some z) none,U,pos,Cn,none⟩ :: rest) F L:=by
 refine F6 (R:=fun v L'=>v=(h.cut i.toNat j.toNat sz).val∧L'=Lf (Ad.own (h.cut i.toNat j.toNat sz) E sz (((xs.take j.toNat).drop i.toNat).flatMap e))) hd ?_ (fun v L' ⟨e1,e2⟩=>by subst e1;subst e2;exact k)
 intro a w hF hS
 have hok:=hS.ok _ (hU ⟨[],fun _=>True,fun _ _ _ _=>trivial⟩).mem
 have hr:Rd w h E sz (xs.flatMap e):=Kn.own (M:=M) (hU ⟨[],fun _=>True,fun _ _ _ _=>trivial⟩).mem w hS
 have hcap:h.len≤h.cap:=by
  rcases hok with ⟨rfl,_⟩ | ⟨b,o,C,fz,e1,e2,e3,e4,e5,e6,_⟩
  ·exact Nat.le_refl _
  ·exact e6
 have hil:i.toNat≤j.toNat:=by omega
 have hjl:j.toNat≤h.len:=by omega
 have hlc:h.len * sz≤h.cap * sz:=Nat.mul_le_mul_right sz hcap
 have hjc:j.toNat * sz≤h.len * sz:=Nat.mul_le_mul_right sz hjl
 have hll:i.toNat * sz≤j.toNat * sz:=Nat.mul_le_mul_right sz hil
 have hcs:((xs.flatMap e).take (j.toNat * sz)).drop (i.toNat * sz)=((xs.take j.toNat).drop i.toNat).flatMap e:=Lq fe xs
 have hlen:(((xs.take j.toNat).drop i.toNat).flatMap e).length=j.toNat * sz - i.toNat * sz:=by
  rw [← hcs,List.length_drop,List.length_take,← hr.1,Nat.min_eq_left hjc]
 refine⟨_,_,w,⟨rfl,rfl⟩,?_,?_⟩
 ·have hs':=hs w
  have hjcap:j≤(h.cap:Int):=by omega
  simp only [execOp,hF.ev hx,Option.map_some,Option.map_none,hF.ev hy,hF.ev hz,Hd.val,Instr.sliceAt,Instr.slice,underlying]
  simp [hT,Instr.sliceBounds,Instr.sliceBound,asIntOf,h1,h0,hs',Hd.cut,hjcap,show 0≤j by omega,show i≤max j 0 by omega]
 ·refine hS.Ea (hU _) rfl rfl rfl (Nat.le_refl _) (fun _ _ _=>rfl) ?_ ?_
  ·rcases hok with ⟨rfl,hn⟩ | ⟨b,o,C,fz,e1,e2,e3,e4,e5,e6,e7,e8⟩
   ·have hj0:j.toNat=0:=by simp at hjl;omega
    have hi0:i.toNat=0:=by omega
    refine .inl ⟨by simp [Hd.cut,hj0,hi0],?_⟩
    rw [List.eq_nil_of_length_eq_zero (l:=((xs.take j.toNat).drop i.toNat).flatMap e) (by rw [hlen,hj0];simp)]
   ·by_cases hci:h.cap=i.toNat
    ·have hji:j.toNat=i.toNat:=by omega
     refine .inr ⟨b,o,C,fz,by simp only [Hd.cut];rw [if_pos hci];exact e1,e2,e3,e4,?_,?_,?_,?_⟩
     ·simp only [Hd.cut];rw [hci,Nat.sub_self,Nat.zero_mul];omega
     ·simp only [Hd.cut];omega
     ·simp only [Hd.cut];rw [hlen,Nat.sub_mul]
     ·have hl0:(((xs.take j.toNat).drop i.toNat).flatMap e).length=0:=by rw [hlen,hji];omega
      rw [List.eq_nil_of_length_eq_zero hl0];simp
    ·refine .inr ⟨b,o+i.toNat * sz,C,fz,by simp only [Hd.cut];rw [if_neg hci,e1];simp [Eg],e2,e3,fun j hj h=>e4 j (by omega) h,?_,?_,?_,?_⟩
     ·simp only [Hd.cut];rw [Nat.sub_mul];omega
     ·simp only [Hd.cut];omega
     ·simp only [Hd.cut];rw [hlen,Nat.sub_mul]
     ·have hX:xs.flatMap e=(C.drop o).take (h.len * sz):=by rw [hr.1];exact e8.symm
      have hY:((xs.take j.toNat).drop i.toNat).flatMap e=((C.drop o).take (j.toNat * sz)).drop (i.toNat * sz):=by rw [← hcs,hX,List.take_take,Nat.min_eq_left hjc]
      rw [hlen,hY,List.drop_take,List.drop_drop]
  ·intro b hb
   have hb':b∈(Ad.own h E sz (xs.flatMap e)).CX:=by
    revert hb
    simp only [Ad.own,Hd.cut]
    cases ha:h.a with
    | none=>by_cases hc:h.cap=i.toNat<;>simp [hc]
    | some a=>
     by_cases hc:h.cap=i.toNat
     ·simp [hc]
     ·simp only [hc,if_false,Option.map_some]
      unfold Addr.add
      split<;>simp
   exact⟨(hS.CX _ (hU ⟨[],fun _=>True,fun _ _ _ _=>trivial⟩).mem b hb').1, .inl hb'⟩
theorem LG.bw {L L':List Ad}{r r':Ad}(h:LG L r r' L')(e:r=r'):L'=L:=by
 induction h with
 | head=>subst e;rfl
 | tail _ ih=>rw [ih e]
theorem GK {cd:Code}{b T:Nat}{c c':List Value}{Lf:Ad→List Ad}(hU:∀ r,LG L (Ad.box b T c) r (Lf r))(e:c=c')(k:G P n w0 M cd Q F (Lf (Ad.box b T c'))):G P n w0 M cd Q F L:=by
 subst e
 rwa [(hU (Ad.box b T c)).bw rfl] at k
theorem Zv {Pr:Prop}{cd:Code}(hp:∀ w,St w0 M w L→Pr)(k:Pr→G P n w0 M cd Q F L):G P n w0 M cd Q F L:=fun a w hF hS=>k (hp w hS) a w hF hS
end
section
variable {p:Prop} [Decidable p] {a b:Bool} {m n:Int}
theorem eZ:((a || b)=true)=(a=true∨b=true):=Bool.or_eq_true a b
theorem eY:((a && b)=true)=(a=true∧b=true):=Bool.and_eq_true a b
theorem eS:((a || b)=false)=(a=false∧b=false):=propext Bool.or_eq_false_iff
theorem eg:((a && b)=false)=(a=false∨b=false):=propext Bool.and_eq_false_iff
end
end Go.Ing
/- What comes of what beings do: plain laws. -/
namespace Go.Ing
open Go
structure AI.DL (w:AI):Prop where
 th:∀ i,(w.AP.at i).name.length≤140737488351232
 be:∀ i,(w.AO.at i).name.length≤140737488351232
 ro:∀ i,(w.BS.at i).name.length≤140737488351232
namespace AF
theorem NU {l:List Int}{k:Int}(h0:0≤k)(h1:k < l.length):l.drop k.toNat=l.getD k.toNat 0 :: l.drop (k+1).toNat:=by
 have hk:k.toNat < l.length:=by omega
 rw [List.drop_eq_getElem_cons hk,show(k+1).toNat=k.toNat+1 by omega,List.getD_eq_getElem?_getD,List.getElem?_eq_getElem hk]
 rfl
theorem YY {w:AI}{s:Au}{l:List Int}{k:Int}(h0:0≤k)(h1:k < l.length)(h:(w.AP.at (l.getD k.toNat 0)).on=true):IG w s (l.drop k.toNat)=IG w (s++([32]++(w.AP.at (l.getD k.toNat 0)).name) ++ [42]) (l.drop (k+1).toNat):=by
 rw [NU h0 h1,IG,if_pos h];simp
theorem Yj {w:AI}{s:Au}{l:List Int}{k:Int}(h0:0≤k)(h1:k < l.length)(h:(w.AP.at (l.getD k.toNat 0)).on=false):IG w s (l.drop k.toNat)=IG w (s++([32]++(w.AP.at (l.getD k.toNat 0)).name)) (l.drop (k+1).toNat):=by
 rw [NU h0 h1,IG,if_neg (by rw [h];decide)];simp
theorem Tl {r:Room}{k:Int}(h:0≤k):It r (k+1).toNat=if decide (r.CR.at k=0)=true then It r k.toNat else if r.shut.at k=true then It r k.toNat++([32]++AI.called k) ++ [42] else It r k.toNat++([32]++AI.called k):=by
 obtain⟨m,rfl⟩:=Int.eq_ofNat_of_zero_le h
 rfl
theorem Mh (r:Room):∀ k:Nat,(It r k).length≤5+k * 22
 | 0=>by simp [It]
 | k+1=>by
  have ih:=Mh r k
  have hc:=AI.JF (k:Int)
  unfold It
  repeat' split
  all_goals (try simp only [List.length_append,List.length_cons,List.length_nil])
  all_goals omega
theorem Ka (T:AF):∀ k:Nat,(T.Fh k).w=T.w∧(T.Fh k).b=T.b∧(T.Fh k).out.length≤T.out.length+k
 | 0=>⟨rfl,rfl,by simp [Fh]⟩
 | k+1=>by
  obtain⟨h1,h2,h3⟩:=Ka T k
  unfold Fh
  split
  ·exact⟨by simpa using h1,by simpa using h2,by rw [CI];omega⟩
  ·exact⟨h1,h2,by omega⟩
theorem Jc {T:AF}{k:Int}(h:0≤k):T.Fh (k+1).toNat=if (!decide (k=T.b) && T.w.JC T.b k)=true then(T.Fh k.toNat).tell ((T.w.AO.at k).name ++ [32,105,115,32,104,101,114,101,46]) else T.Fh k.toNat:=by
 obtain⟨m,rfl⟩:=Int.eq_ofNat_of_zero_le h
 rfl
@[simp] theorem Hn (T:AF) (s:Au) (l:List Int):(T.list s l).w=T.w∧(T.list s l).b=T.b∧(T.list s l).out.length=T.out.length+1:=⟨rfl,rfl,by simp [list]⟩
theorem UW (T:AF):T.Jw.w=T.w∧T.Jw.b=T.b∧T.Jw.out.length=T.out.length+2:=⟨rfl,rfl,by simp [Jw]⟩
theorem RI (T:AF):T.EG.w=T.w∧T.EG.b=T.b∧T.EG.out.length≤T.out.length+3:=by
 have h:=T.UW
 unfold EG
 split
 ·have h2:=T.Jw.Hn [72,101,114,101,32,105,115] (T.w.has 0 T.me.room)
  exact⟨h2.1.trans h.1,h2.2.1.trans h.2.1,by omega⟩
 ·exact⟨h.1,h.2.1,by omega⟩
theorem KD (T:AF):T.look.w=T.w∧T.look.b=T.b∧T.look.out.length≤T.out.length+9:=by
 unfold look
 split
 ·exact⟨rfl,rfl,by rw [CI];omega⟩
 ·have h:=T.RI
  have h2:=T.EG.Ka 6
  exact⟨h2.1.trans h.1,h2.2.1.trans h.2.1,by omega⟩
end AF
theorem Bi.E3 {xs:List Int}{i:Nat}(h:i < xs.length):xs.getD i 0∈xs:=by
 rw [List.getD_eq_getElem?_getD,List.getElem?_eq_getElem h]
 exact List.getElem_mem h
theorem AI.Tq {w:AI}{r:Int}(h:(!w.Hf r)=false):0≤r∧r < 6:=by
 unfold AI.Hf at h
 split at h
 ·simp at h
 ·rename_i c;simp at c;omega
theorem AI.F9 {w:AI}{Cb at_ i:Int}(h:i∈w.has Cb at_):0≤i∧i < 9:=by
 unfold AI.has at h
 have:=(List.mem_filter.1 h).1
 obtain⟨n,hn,rfl⟩:=List.mem_map.1 this
 have:=List.mem_range.1 hn
 exact⟨by simp,by show((n:Nat):Int) < 9;omega⟩
theorem AI.Ig (w:AI)(Cb at_:Int):(w.has Cb at_).length≤9:=by
 rw [AI.Td];exact AI.Sf w Cb at_ _
end Go.Ing
/- What beings do keeps the land good: plain laws. -/
namespace Go.Ing
open Go
theorem Vector.EE {α:Type}[Inhabited α]{n:Nat}(v:Vector α n)(k:Int)(x y:α):(v.put k x).put k y=v.put k y:=by
 unfold Vector.put
 apply Vector.ext
 intro i hi
 simp only [Vector.getElem_setIfInBounds]
 split<;>rfl
theorem Vector.CG {α:Type}[Inhabited α]{n:Nat}{v:Vector α n}{k:Int}{x:α}(h0:0≤k)(h1:k < n):(v.put k x).at k=x:=by rw [HC v k k x h0 h1 h0,if_pos rfl]
theorem Vector.Ei {α:Type}[Inhabited α]{n:Nat}{v:Vector α n}{k i:Int}{x:α}(h0:0≤k)(h1:k < n)(hi:0≤i)(hn:i≠k):(v.put k x).at i=v.at i:=by rw [HC v k i x h0 h1 hi,if_neg hn]
namespace AI
variable {X Y:AI}
theorem Out.path:∀ {m:Nat} {i:Int},0≤i→i < 9→Out X m i→∃ s:List Int,Ru s+s.length=9∧s.length=m+1∧∀ j∈s,∃ k,k≤m∧Out X k j
 | 0,i,h0,h9,h=>⟨[] ++ [i],by have:=PL (s:= []) (i:=i) (by simp) h0 h9;simp only [List.length_append,List.length_cons,List.length_nil];have:Ru []=9:=rfl;omega,rfl,fun j hj=>by
   have:j=i:=by simpa using hj
   subst this;exact⟨0,Nat.le_refl _,h⟩⟩
 | m+1,i,h0,h9,h=>by
  obtain⟨s,h1,h2,h3⟩:=Out.path h.2.1 h.2.2.1 h.2.2.2
  have hn:i ∉ s:=fun hm=>by
   obtain⟨k,hk,ho⟩:=h3 i hm
   have:=h.uniq ho
   omega
  have hl:=PL hn h0 h9
  refine⟨s ++ [i],by simp only [List.length_append,List.length_cons,List.length_nil];omega,by simp only [List.length_append,List.length_cons,List.length_nil];omega,fun j hj=>?_⟩
  rcases List.mem_append.1 hj with hj | hj
  ·obtain⟨k,hk,ho⟩:=h3 j hj
   exact⟨k,by omega,ho⟩
  ·have:j=i:=by simpa using hj
   subst this;exact⟨m+1,Nat.le_refl _,h⟩
theorem Out.ek {m:Nat}{i:Int}(h0:0≤i)(h9:i < 9)(h:Out X m i):m≤8:=by
 obtain⟨s,h1,h2,_⟩:=h.path h0 h9
 omega
theorem Lt:∀ {m n:Nat} {i:Int},Out X m i→m < n→X.KC n (X.AP.at i)=true
 | _,0,_,_,h=>absurd h (Nat.not_lt_zero _)
 | 0,n+1,i,h,_=>by
  unfold KC
  rw [if_pos (by simpa using (show(X.AP.at i).Cb≠2 from h))]
 | m+1,n+1,i,h,hl=>by
  unfold KC
  rw [if_neg (by simp [h.1]),if_neg (by have:=h.2.1;have:=h.2.2.1;simp;omega)]
  exact Lt h.2.2.2 (by omega)
structure Om (X:AI)(i:Int):Prop where
 k0:0≤(X.AP.at i).kind
 k3:(X.AP.at i).kind≤3
 plain:(X.AP.at i).kind=0→(X.AP.at i).on=false
 a0:0≤(X.AP.at i).at_
 Cb:((X.AP.at i).Cb=0∧(X.AP.at i).at_ < 6∧¬ ((X.AP.at i).kind=2∧(X.AP.at i).on=true)) ∨
  ((X.AP.at i).Cb=1∧(X.AP.at i).at_ < 6∧(X.AO.at (X.AP.at i).at_).here=true) ∨
  ((X.AP.at i).Cb=2∧(X.AP.at i).at_ < 9∧(X.AP.at (X.AP.at i).at_).kind=3∧¬ ((X.AP.at i).kind=2∧(X.AP.at i).on=true))
theorem Qf.p {i:Int}(h:Qf X i):Om X i:=⟨h.k0,h.k3,h.plain,h.a0,by
 rcases h.Cb with h | h | ⟨h1,h2,h3,h4,_⟩
 ·exact .inl h
 ·exact .inr (.inl h)
 ·exact .inr (.inr ⟨h1,h2,h3,h4⟩)⟩
theorem Q1 {i:Int}(h:Om X i)(h0:0≤i)(h9:i < 9){m:Nat}(ho:Out X m i):X.Cm i=true:=by
 have hc:=Lt ho (show m < 10 by have:=ho.ek h0 h9;omega)
 have:=h.k0;have:=h.k3;have:=h.a0
 unfold Cm
 rw [if_neg (by
  simp only [Bool.or_eq_true,Bool.and_eq_true,decide_eq_true_eq]
  rintro (((h1 | h1) | ⟨h1,h2⟩) | h1)
  ·omega
  ·omega
  ·rw [h.plain h1] at h2;cases h2
  ·omega)]
 rcases h.Cb with ⟨w,a,b⟩ | ⟨w,a,b⟩ | ⟨w,a,k,b⟩
 ·rw [if_pos (by simp [w])]
  simp only [Bool.and_eq_true,decide_eq_true_eq,Bool.not_eq_true']
  refine⟨a,?_⟩
  cases hh:(decide ((X.AP.at i).kind=2) && (X.AP.at i).on) with
  | false=>rfl
  | true=>rw [Bool.and_eq_true] at hh;exact absurd ⟨of_decide_eq_true hh.1,hh.2⟩ b
 ·rw [if_neg (by simp [w]),if_pos (by simp [w])]
  simp [a,b]
 ·rw [if_neg (by simp [w]),if_neg (by simp [w]),if_pos (by simp [w]),if_neg (by
   simp only [Bool.or_eq_true,Bool.and_eq_true,decide_eq_true_eq,Bool.not_eq_true',decide_eq_false_iff_not]
   rintro ((h1 | h1) | ⟨h1,h2⟩)
   ·omega
   ·exact h1 k
   ·exact b ⟨h1,h2⟩)]
  exact hc
theorem RR (hr:∀ r d,0≤r→r < 6→0≤d→d < 6→H7 (X.BS.at r) d=false)(hb:∀ b,0≤b→b < 6→Du (X.AO.at b)=false)(ht:∀ i,0≤i→i < 9→Om X i∧∃ m,Out X m i):X.Bj=true:=by
 unfold Bj
 rw [Bool.and_eq_true,Bool.and_eq_true]
 refine⟨(Dp 6).2 fun r h0 h1=>?_,(Dp 6).2 fun b h0 h1=>?_,(Dp 9).2 fun i h0 h1=>?_⟩
 ·exact(Dp 6).2 fun d d0 d1=>by rw [hr r d (by omega) h1 (by omega) d1];rfl
 ·rw [hb b (by omega) h1];rfl
 ·obtain⟨hp,m,ho⟩:=ht i (by omega) h1
  exact Q1 hp (by omega) h1 ho
theorem Out.same (h:∀ i,0≤i→i < 9→(Y.AP.at i).Cb=(X.AP.at i).Cb∧(Y.AP.at i).at_=(X.AP.at i).at_):∀ {m:Nat} {i:Int},0≤i→i < 9→Out X m i→Out Y m i
 | 0,i,h0,h9,ho=>by show(Y.AP.at i).Cb≠2;rw [(h i h0 h9).1];exact ho
 | m+1,i,h0,h9,ho=>by
  refine⟨(h i h0 h9).1.trans ho.1,?_⟩
  rw [(h i h0 h9).2]
  exact⟨ho.2.1,ho.2.2.1,Out.same h ho.2.1 ho.2.2.1 ho.2.2.2⟩
theorem Out.other {k:Int}(h:∀ i,0≤i→i < 9→i≠k→Y.AP.at i=X.AP.at i)(hk:∃ m,Out Y m k):∀ {m:Nat} {i:Int},0≤i→i < 9→Out X m i→∃ m',Out Y m' i
 | 0,i,h0,h9,ho=>by
  by_cases e:i=k
  ·subst e;exact hk
  ·exact⟨0,by show(Y.AP.at i).Cb≠2;rw [h i h0 h9 e];exact ho⟩
 | m+1,i,h0,h9,ho=>by
  by_cases e:i=k
  ·subst e;exact hk
  ·obtain⟨m',h'⟩:=Out.other h hk ho.2.1 ho.2.2.1 ho.2.2.2
   exact⟨m'+1,by rw [Out,h i h0 h9 e];exact⟨ho.1,ho.2.1,ho.2.2.1,h'⟩⟩
theorem Out.cG {k:Int}(h:∀ i,0≤i→i < 9→i≠k→Y.AP.at i=X.AP.at i):∀ {m n:Nat} {i:Int},0≤i→i < 9→Out X m i→m < n→X.inside k n i=false→Out Y m i
 | 0,0,_,_,_,_,hl,_=>absurd hl (Nat.not_lt_zero _)
 | _+1,0,_,_,_,_,hl,_=>absurd hl (Nat.not_lt_zero _)
 | 0,n+1,i,h0,h9,ho,hl,hi=>by
  have e:i≠k:=fun e=>by unfold inside at hi;rw [if_pos (by simp [e])] at hi;cases hi
  show(Y.AP.at i).Cb≠2;rw [h i h0 h9 e];exact ho
 | m+1,n+1,i,h0,h9,ho,hl,hi=>by
  have e:i≠k:=fun e=>by unfold inside at hi;rw [if_pos (by simp [e])] at hi;cases hi
  unfold inside at hi
  rw [if_neg (by simp [e]),if_neg (by simp [ho.1];omega)] at hi
  rw [Out,h i h0 h9 e]
  exact⟨ho.1,ho.2.1,ho.2.2.1,Out.cG h ho.2.1 ho.2.2.1 ho.2.2.2 (by omega) hi⟩
end AI
end Go.Ing
/- What beings do keeps the land good: the parts of a turn. -/
namespace Go.Ing
open Go
theorem Vector.QB {α:Type}[Inhabited α]{n:Nat}(v:Vector α n)(k i:Int)(x:α):(v.put k x).at i=x∨(v.put k x).at i=v.at i:=by
 unfold Vector.put Vector.at
 rw [List.getD_eq_getElem?_getD,List.getD_eq_getElem?_getD]
 simp only [Vector.toList_setIfInBounds]
 rw [List.getElem?_set]
 split
 ·split
  ·exact .inl rfl
  ·rename_i h1 h2
   exact .inr (by rw [← h1,List.getElem?_eq_none (by omega)])
 ·exact .inr rfl
namespace AI
variable {X:AI}
def Gr (X:AI)(i:Int)(t:Ao):AI:={ X with AP:=X.AP.put i t }
def C4 (X:AI)(b:Int)(x:An):AI:={ X with AO:=X.AO.put b x }
def ND (X:AI)(r d:Int)(v:Bool):AI:={ X with BS:=X.BS.put r { X.BS.at r with shut:=(X.BS.at r).shut.put d v } }
theorem Hm (hg:X.Bj=true){i:Int}(h0:0≤i)(h9:i < 9):Om X i:=(SX (PO hg h0 h9)).p
theorem KR (hg:X.Bj=true){i:Int}(h0:0≤i)(h9:i < 9):∃ m,Out X m i:=by
 obtain⟨m,_,h⟩:=SS hg h0 h9;exact⟨m,h⟩
theorem KP {i j:Int}(h0:0≤i)(h9:i < 9)(j0:0≤j)(hn:j≠i)(t:Ao):(X.Gr i t).AP.at j=X.AP.at j:=Vector.Ei h0 h9 j0 hn
theorem F1 {i:Int}(h0:0≤i)(h9:i < 9)(t:Ao):(X.Gr i t).AP.at i=t:=Vector.CG h0 h9
theorem Gh {i j:Int}(h0:0≤i)(h9:i < 6)(j0:0≤j)(hn:j≠i)(t:An):(X.C4 i t).AO.at j=X.AO.at j:=Vector.Ei h0 h9 j0 hn
theorem EO {i:Int}(h0:0≤i)(h9:i < 6)(t:An):(X.C4 i t).AO.at i=t:=Vector.CG h0 h9
theorem KY (hg:X.Bj=true){i:Int}(h0:0≤i)(h9:i < 9){t:Ao}(hk:t.kind=(X.AP.at i).kind)(hp:Om (X.Gr i t) i)(ho:∃ m,Out (X.Gr i t) m i):(X.Gr i t).Bj=true:=by
 have hs:∀ j,0≤j→j < 9→j≠i→(X.Gr i t).AP.at j=X.AP.at j:=fun j j0 _ hn=>KP h0 h9 j0 hn t
 refine RR (fun r d r0 r6 d0 d6=>KX hg r0 r6 d0 d6) (fun b b0 b6=>Fc hg b0 b6) fun j j0 j9=>?_
 obtain⟨m,hm⟩:=KR hg j0 j9
 refine⟨?_,Out.other hs ho j0 j9 hm⟩
 by_cases e:j=i
 ·subst e;exact hp
 ·have q:=Hm hg j0 j9
  have hkk:∀ a,0≤a→a < 9→((X.Gr i t).AP.at a).kind=(X.AP.at a).kind:=fun a a0 a9=>by
   by_cases ea:a=i
   ·subst ea;rw [F1 h0 h9,hk]
   ·rw [hs a a0 a9 ea]
  have ej:=hs j j0 j9 e
  refine⟨by rw [ej];exact q.k0,by rw [ej];exact q.k3,by rw [ej];exact q.plain,by rw [ej];exact q.a0,?_⟩
  rw [ej]
  rcases q.Cb with h | h | ⟨h1,h2,h3,h4⟩
  ·exact .inl h
  ·exact .inr (.inl h)
  ·exact .inr (.inr ⟨h1,h2,by rw [hkk _ q.a0 h2];exact h3,h4⟩)
theorem Iw (hg:X.Bj=true){b:Int}(h0:0≤b)(h6:b < 6){x:An}(hx:Du x=false)(hh:∀ i,0≤i→i < 9→(X.AP.at i).Cb=1→(X.AP.at i).at_=b→x.here=true):(X.C4 b x).Bj=true:=by
 refine RR (fun r d r0 r6 d0 d6=>KX hg r0 r6 d0 d6) (fun c c0 c6=>?_) fun j j0 j9=>?_
 ·by_cases e:c=b
  ·subst e;rw [EO h0 h6];exact hx
  ·rw [Gh h0 h6 c0 e];exact Fc hg c0 c6
 ·obtain⟨m,hm⟩:=KR hg j0 j9
  refine⟨?_,m,Out.same (X:=X) (Y:=X.C4 b x) (fun _ _ _=>⟨rfl,rfl⟩) j0 j9 hm⟩
  have q:=Hm hg j0 j9
  refine⟨q.k0,q.k3,q.plain,q.a0,?_⟩
  rcases q.Cb with h | ⟨h1,h2,h3⟩ | h
  ·exact .inl h
  ·refine .inr (.inl ⟨h1,h2,?_⟩)
   show((X.C4 b x).AO.at (X.AP.at j).at_).here=true
   by_cases e:(X.AP.at j).at_=b
   ·rw [e,EO h0 h6];exact hh j j0 j9 h1 e
   ·rw [Gh h0 h6 q.a0 e];exact h3
  ·exact .inr (.inr h)
theorem WJ (hg:X.Bj=true){r d:Int}(h0:0≤r)(h6:r < 6)(d0:0≤d)(d6:d < 6){v:Bool}(hv:v=true→(X.BS.at r).CR.at d≠0):(X.ND r d v).Bj=true:=by
 refine RR (fun c e c0 c6 e0 e6=>?_) (fun b b0 b6=>Fc hg b0 b6) fun j j0 j9=>?_
 ·have q:=KX hg c0 c6 e0 e6
  by_cases ec:c=r
  ·subst ec
   have er:(X.ND c d v).BS.at c={ X.BS.at c with shut:=(X.BS.at c).shut.put d v }:=Vector.CG h0 h6
   rw [er]
   unfold H7 at q ⊢
   show(decide ((X.BS.at c).CR.at e < 0) || decide (6 < (X.BS.at c).CR.at e) || (decide ((X.BS.at c).CR.at e=0) && ((X.BS.at c).shut.put d v).at e))=false
   rw [HC _ _ _ _ d0 d6 e0]
   split
   ·rename_i ee
    subst ee
    cases v with
    | false=>
     simp only [Bool.and_false,Bool.or_false]
     rw [Bool.or_eq_false_iff] at q
     exact q.1
    | true=>simpa [hv rfl] using (Bool.or_eq_false_iff.1 q).1
   ·exact q
  ·rw [show(X.ND r d v).BS.at c=X.BS.at c from Vector.Ei h0 h6 c0 ec];exact q
 ·obtain⟨m,hm⟩:=KR hg j0 j9
  have q:=Hm hg j0 j9
  exact⟨⟨q.k0,q.k3,q.plain,q.a0,q.Cb⟩,m,Out.same (X:=X) (Y:=X.ND r d v) (fun _ _ _=>⟨rfl,rfl⟩) j0 j9 hm⟩
/-! #### what is done to a thing -/
section
variable {i:Int} (hg:X.Bj=true) (h0:0≤i) (h9:i < 9)
include hg h0 h9
theorem Uz {v:Bool}(h1:(X.AP.at i).kind≠0)(h2:(X.AP.at i).kind=2→(X.AP.at i).Cb=1):(X.Gr i { X.AP.at i with on:=v }).Bj=true:=by
 have q:=Hm hg h0 h9
 obtain⟨m,hm⟩:=KR hg h0 h9
 have hs:∀ j,0≤j→j < 9→((X.Gr i { X.AP.at i with on:=v }).AP.at j).Cb=(X.AP.at j).Cb∧((X.Gr i { X.AP.at i with on:=v }).AP.at j).at_=(X.AP.at j).at_:=fun j j0 _=>by
  by_cases e:j=i
  ·subst e;rw [F1 h0 h9];exact⟨rfl,rfl⟩
  ·rw [KP h0 h9 j0 e];exact⟨rfl,rfl⟩
 have hkk:∀ a,0≤a→((X.Gr i { X.AP.at i with on:=v }).AP.at a).kind=(X.AP.at a).kind:=fun a a0=>by
  by_cases ea:a=i
  ·subst ea;rw [F1 h0 h9]
  ·rw [KP h0 h9 a0 ea]
 refine KY hg h0 h9 (by rfl) ?_ ⟨m,Out.same hs h0 h9 hm⟩
 refine⟨?_,?_,?_,?_,?_⟩<;>rw [F1 h0 h9]
 ·exact q.k0
 ·exact q.k3
 ·exact fun e=>absurd e h1
 ·exact q.a0
 ·rcases q.Cb with ⟨a,b,c⟩ | h | ⟨a,b,c,d⟩
  ·exact .inl ⟨a,b,fun⟨e,_⟩=>by have:=h2 e;omega⟩
  ·exact .inr (.inl h)
  ·refine .inr (.inr ⟨a,b,?_,fun⟨e,_⟩=>by have:=h2 e;omega⟩)
   show((X.Gr i { X.AP.at i with on:=v }).AP.at (X.AP.at i).at_).kind=3
   rw [hkk _ q.a0];exact c
theorem M1 {v:Bool}{a:Int}(ha:0≤a∧a < 6)(hv:(X.AP.at i).kind=0→v=false)(hc:¬ ((X.AP.at i).kind=2∧v=true)):(X.Gr i { X.AP.at i with on:=v,Cb:=0,at_:=a }).Bj=true:=by
 have q:=Hm hg h0 h9
 refine KY hg h0 h9 (by rfl) ?_ ⟨0,by show((X.Gr i _).AP.at i).Cb≠2;rw [F1 h0 h9];intro hc;cases hc⟩
 refine⟨?_,?_,?_,?_,?_⟩<;>rw [F1 h0 h9]
 ·exact q.k0
 ·exact q.k3
 ·exact hv
 ·exact ha.1
 ·exact .inl ⟨rfl,ha.2,hc⟩
theorem Rn {a:Int}(ha:0≤a∧a < 6)(hh:(X.AO.at a).here=true):(X.Gr i { X.AP.at i with Cb:=1,at_:=a }).Bj=true:=by
 have q:=Hm hg h0 h9
 refine KY hg h0 h9 (by rfl) ?_ ⟨0,by show((X.Gr i _).AP.at i).Cb≠2;rw [F1 h0 h9];intro hc;cases hc⟩
 refine⟨?_,?_,?_,?_,?_⟩<;>rw [F1 h0 h9]
 ·exact q.k0
 ·exact q.k3
 ·exact q.plain
 ·exact ha.1
 ·exact .inr (.inl ⟨rfl,ha.2,hh⟩)
theorem SD {a:Int}(ha:0≤a∧a < 9)(hk:(X.AP.at a).kind=3)(hc:¬ ((X.AP.at i).kind=2∧(X.AP.at i).on=true))(hi:X.Tt a i=false):(X.Gr i { X.AP.at i with Cb:=2,at_:=a }).Bj=true:=by
 have q:=Hm hg h0 h9
 have hs:∀ j,0≤j→j < 9→j≠i→(X.Gr i { X.AP.at i with Cb:=2,at_:=a }).AP.at j=X.AP.at j:=fun j j0 _ hn=>KP h0 h9 j0 hn _
 have hai:a≠i:=fun e=>by subst e;rw [WC] at hi;cases hi
 obtain⟨m,hm10,hm⟩:=SS hg ha.1 ha.2
 have hm':=Out.cG hs ha.1 ha.2 hm hm10 hi
 refine KY hg h0 h9 (by rfl) ?_ ⟨m+1,by rw [Out,F1 h0 h9];exact⟨rfl,ha.1,ha.2,hm'⟩⟩
 refine⟨?_,?_,?_,?_,?_⟩<;>rw [F1 h0 h9]
 ·exact q.k0
 ·exact q.k3
 ·exact q.plain
 ·exact ha.1
 ·refine .inr (.inr ⟨rfl,ha.2,?_,hc⟩)
  show((X.Gr i _).AP.at a).kind=3
  rw [hs a ha.1 ha.2 hai];exact hk
end
end AI
end Go.Ing
/- What beings do keeps the land good: a turn. -/
namespace Go.Ing
open Go
namespace AI
end AI
namespace AF
structure Fit (T:AF):Prop where
 b:0≤T.b∧T.b < 6
 br:T.w.DL
 gd:T.w.Bj=true
 here:(T.w.AO.at T.b).here=true
structure Step (b:Int)(X Y:AI):Prop where
 th:∀ i,0≤i→i < 9→(Y.AP.at i).name=(X.AP.at i).name∧(Y.AP.at i).kind=(X.AP.at i).kind
 own:∀ i,0≤i→i < 9→(X.AP.at i).Cb=1→(X.AP.at i).at_≠b→Y.AP.at i=X.AP.at i
 be:∀ c,0≤c→c < 6→c≠b→{ Y.AO.at c with B4:=0 }={ X.AO.at c with B4:=0 }
 ro:∀ r,0≤r→r < 6→(Y.BS.at r).name=(X.BS.at r).name∧(Y.BS.at r).Mc=(X.BS.at r).Mc∧(Y.BS.at r).CR=(X.BS.at r).CR
theorem Step.refl (b:Int)(X:AI):Step b X X:=⟨fun _ _ _=>⟨rfl,rfl⟩,fun _ _ _ _ _=>rfl,fun _ _ _ _=>rfl,fun _ _ _=>⟨rfl,rfl,rfl⟩⟩
theorem Step.trans {b:Int}{X Y Z:AI}(h:Step b X Y)(k:Step b Y Z):Step b X Z:=
  ⟨fun i h0 h9=>⟨(k.th i h0 h9).1.trans (h.th i h0 h9).1,(k.th i h0 h9).2.trans (h.th i h0 h9).2⟩,
   fun i h0 h9 h1 h2=>by
    have e:=h.own i h0 h9 h1 h2
    exact(k.own i h0 h9 (by rw [e];exact h1) (by rw [e];exact h2)).trans e,
   fun c h0 h6 hn=>(k.be c h0 h6 hn).trans (h.be c h0 h6 hn),
   fun r h0 h6=>⟨(k.ro r h0 h6).1.trans (h.ro r h0 h6).1,(k.ro r h0 h6).2.1.trans (h.ro r h0 h6).2.1,(k.ro r h0 h6).2.2.trans (h.ro r h0 h6).2.2⟩⟩
theorem Fit.Ep {T T':AF}(h:T.Fit)(hw:T'.w=T.w)(hb:T'.b=T.b):T'.Fit:=⟨by rw [hb];exact h.b,by rw [hw];exact h.br,by rw [hw];exact h.gd,by rw [hw,hb];exact h.here⟩
theorem Fit.BP {T:AF}(h:T.Fit)(e:Event):(T.BP e).Fit:=h.Ep rfl rfl
theorem Fit.tell {T:AF}(h:T.Fit)(s:Au):(T.tell s).Fit:=h.Ep rfl rfl
theorem Fit.room {T:AF}(h:T.Fit):0≤(T.w.AO.at T.b).room∧(T.w.AO.at T.b).room < 6:=by
 have:=AI.Fc h.gd h.b.1 h.b.2
 simp only [AI.Du,Bool.or_eq_false_iff,decide_eq_false_iff_not] at this
 omega
theorem Fit.exit {T:AF}(h:T.Fit){d:Int}(d0:0≤d)(d6:d < 6):0≤(T.w.BS.at (T.w.AO.at T.b).room).CR.at d∧(T.w.BS.at (T.w.AO.at T.b).room).CR.at d≤6:=by
 have:=AI.KX h.gd h.room.1 h.room.2 d0 d6
 simp only [AI.H7,Bool.or_eq_false_iff,decide_eq_false_iff_not] at this
 omega
theorem Tf {X:AI}(h:X.DL){i:Int}{t:Ao}(ht:t.name.length≤140737488351232):(X.Gr i t).DL:=⟨fun j=>by
 rcases Vector.QB X.AP i j t with e | e
 ·show((X.AP.put i t).at j).name.length≤_;rw [e];exact ht
 ·show((X.AP.put i t).at j).name.length≤_;rw [e];exact h.th j,h.be,h.ro⟩
theorem Ey {X:AI}(h:X.DL){i:Int}{t:An}(ht:t.name.length≤140737488351232):(X.C4 i t).DL:=⟨h.th,fun j=>by
 rcases Vector.QB X.AO i j t with e | e
 ·show((X.AO.put i t).at j).name.length≤_;rw [e];exact ht
 ·show((X.AO.put i t).at j).name.length≤_;rw [e];exact h.be j,h.ro⟩
theorem TT {X:AI}(h:X.DL){r d:Int}{v:Bool}:(X.ND r d v).DL:=⟨h.th,h.be,fun j=>by
 rcases Vector.QB X.BS r j { X.BS.at r with shut:=(X.BS.at r).shut.put d v } with e | e
 ·show((X.BS.put r _).at j).name.length≤_;rw [e];exact h.ro r
 ·show((X.BS.put r _).at j).name.length≤_;rw [e];exact h.ro j⟩
theorem VW {b:Int}{X:AI}{i:Int}(h0:0≤i)(h9:i < 9){t:Ao}(hn:t.name=(X.AP.at i).name)(hk:t.kind=(X.AP.at i).kind)(ho:(X.AP.at i).Cb=1→(X.AP.at i).at_=b):Step b X (X.Gr i t):=
  ⟨fun j j0 _=>by
    by_cases e:j=i
    · subst e;rw [AI.F1 h0 h9];exact⟨hn,hk⟩
    · rw [AI.KP h0 h9 j0 e];exact⟨rfl,rfl⟩,
   fun j j0 _ h1 h2=>by
    by_cases e:j=i
    · subst e;exact absurd (ho h1) h2
    · rw [AI.KP h0 h9 j0 e],
   fun _ _ _ _=>rfl,fun _ _ _=>⟨rfl,rfl,rfl⟩⟩
theorem Mk {b:Int}{X:AI}{i:Int}(h0:0≤i)(h6:i < 6){t:An}(hn:i≠b→{ t with B4:=0 }={ X.AO.at i with B4:=0 }):Step b X (X.C4 i t):=
 ⟨fun _ _ _=>⟨rfl,rfl⟩,fun _ _ _ _ _=>rfl,fun c c0 _ hc=>by
  by_cases e:c=i
  ·subst e;rw [AI.EO h0 h6];exact hn hc
  ·rw [AI.Gh h0 h6 c0 e],fun _ _ _=>⟨rfl,rfl,rfl⟩⟩
theorem VO {b:Int}{X:AI}{r d:Int}(h0:0≤r)(h6:r < 6){v:Bool}:Step b X (X.ND r d v):=
 ⟨fun _ _ _=>⟨rfl,rfl⟩,fun _ _ _ _ _=>rfl,fun _ _ _ _=>rfl,fun j j0 _=>by
  by_cases e:j=r
  ·subst e
   rw [show(X.ND j d v).BS.at j={ X.BS.at j with shut:=(X.BS.at j).shut.put d v } from Vector.CG h0 h6]
   exact⟨rfl,rfl,rfl⟩
  ·rw [show(X.ND r d v).BS.at j=X.BS.at j from Vector.Ei h0 h6 j0 e]
   exact⟨rfl,rfl,rfl⟩⟩
structure DJ (T T':AF):Prop where
 b:T'.b=T.b
 fit:T'.Fit
 st:Step T.b T.w T'.w
theorem DJ.trans {T T' T'':AF}(h:DJ T T')(k:DJ T' T''):DJ T T'':=⟨k.b.trans h.b,k.fit,h.st.trans (by have:=k.st;rwa [h.b] at this)⟩
theorem Fit.goes {T:AF}(h:T.Fit):DJ T T:=⟨rfl,h, .refl _ _⟩
theorem DJ.Ep {T T' T'':AF}(h:DJ T T')(hw:T''.w=T'.w)(hb:T''.b=T'.b):DJ T T'':=⟨hb.trans h.b,h.fit.Ep hw hb,by rw [hw];exact h.st⟩
theorem N2 {T:AF}(h:T.Fit){r:Int}(hr:0≤r∧r < 6):DJ T (T.GF r):=by
 have hg:=AI.Fc h.gd h.b.1 h.b.2
 have hme:((T.GF r).w.AO.at T.b)={ T.me with room:=r,B4:=0 }:=Vector.CG h.b.1 h.b.2
 refine⟨rfl,⟨h.b,Ey h.br (h.br.be T.b),AI.Iw h.gd h.b.1 h.b.2 ?_ fun _ _ _ _ _=>h.here,?_⟩,Mk h.b.1 h.b.2 fun hn=>absurd rfl hn⟩
 ·unfold AI.Du at hg ⊢
  show(decide (r < 0) || decide (6≤r) || decide ((T.w.AO.at T.b).BM < 0) || decide (10 < (T.w.AO.at T.b).BM) || decide ((0:Int) < 0) || decide (6 < (0:Int)) || (!(T.w.AO.at T.b).here && !decide ((0:Int)=0)) || (T.w.AO.at T.b).here != decide (0 < (T.w.AO.at T.b).BM))=false
  simp only [Bool.or_eq_false_iff,decide_eq_false_iff_not] at hg ⊢
  refine⟨⟨⟨⟨⟨⟨⟨by omega,by omega⟩,hg.1.1.1.1.1.2⟩,hg.1.1.1.1.2⟩,by decide⟩,by decide⟩,by simp⟩,hg.2⟩
 ·show((T.GF r).w.AO.at T.b).here=true
  rw [hme];exact h.here
theorem Pu {T:AF}(h:T.Fit):DJ T T.look:=h.goes.Ep T.KD.1 T.KD.2.1
theorem VZ {T:AF}(h:T.Fit){d:Int}(d0:0≤d)(d6:d < 6):DJ T (T.walk d):=by
 unfold walk
 split
 ·exact h.goes.Ep rfl rfl
 ·split
  ·exact h.goes.Ep rfl rfl
  ·rename_i h1 _
   have hx:=h.exit d0 d6
   have h1':(T.w.BS.at (T.w.AO.at T.b).room).CR.at d≠0:=fun e=>h1 (decide_eq_true e)
   have g1:DJ T (T.BP { Fw 1 with dir:=d }):=h.goes.Ep rfl rfl
   have g2:=g1.trans (N2 g1.fit (r:=(T.w.BS.at T.me.room).CR.at d - 1) (by show 0≤(T.w.BS.at (T.w.AO.at T.b).room).CR.at d - 1∧(T.w.BS.at (T.w.AO.at T.b).room).CR.at d - 1 < 6;omega))
   have g3:=g2.Ep (T'':=((T.BP { Fw 1 with dir:=d }).GF ((T.w.BS.at T.me.room).CR.at d - 1)).BP { Fw 2 with dir:=AI.opposite d }) rfl rfl
   exact g3.trans (Pu g3.fit)
end AF
end Go.Ing
/- What beings do keeps the land good: each order. -/
namespace Go.Ing
open Go
namespace AI
variable {X:AI}
theorem Q0 {Cb at_ i:Int}(h:i∈X.has Cb at_):(X.AP.at i).Cb=Cb∧(X.AP.at i).at_=at_:=by
 have:=(List.mem_filter.1 h).2
 rw [Bool.and_eq_true] at this
 exact⟨of_decide_eq_true this.1,of_decide_eq_true this.2⟩
theorem QL (Cb at_:Int):(X.has Cb at_).Nodup:=by
 unfold has
 exact List.Pairwise.filter _ (by decide)
end AI
namespace AF
/-! #### which things are meant -/
theorem Ee (w:AI)(l:List Int)(nth:Int)(name:Au)(all:Bool):(BQ w l nth name all).Sublist l:=by
 unfold BQ
 split
 ·exact List.filter_sublist
 ·split
  ·exact List.nil_sublist _
  ·exact((List.drop_sublist _ _).trans (List.take_sublist _ _)).trans List.filter_sublist
theorem D0 {w:AI}{l:List Int}{nth:Int}{name:Au}{all:Bool}{i:Int}(h:i∈BQ w l nth name all):i∈l:=(Ee w l nth name all).mem h
def Iv (X:AI)(b i:Int):Prop:=0≤i∧i < 9∧((X.AP.at i).Cb=1→(X.AP.at i).at_=b)
def dM (X:AI)(b i:Int):Prop:=0≤i∧i < 9∧(X.AP.at i).Cb=1∧(X.AP.at i).at_=b
theorem dM.S4 {X:AI}{b i:Int}(h:dM X b i):Iv X b i:=⟨h.1,h.2.1,fun _=>h.2.2.2⟩
theorem FU {T:AF}{i:Int}(h:i∈T.own):dM T.w T.b i:=⟨(AI.F9 h).1,(AI.F9 h).2,(AI.Q0 h).1,(AI.Q0 h).2⟩
theorem Xy {X:AI}{b Cb at_ i:Int}(hw:Cb≠1)(h:i∈X.has Cb at_):Iv X b i:=⟨(AI.F9 h).1,(AI.F9 h).2,fun e=>absurd ((AI.Q0 h).1.symm.trans e) hw⟩
theorem KA {T:AF}{i:Int}(h:i∈T.seen):0≤i∧i < 9∧(T.w.AP.at i).Cb=0:=by
 unfold seen at h
 split at h
 ·cases h
 ·exact⟨(AI.F9 h).1,(AI.F9 h).2,(AI.Q0 h).1⟩
theorem Ma {T:AF}{i:Int}(h:i∈T.seen):Iv T.w T.b i:=by
 obtain⟨h0,h9,e⟩:=KA h
 exact⟨h0,h9,fun e1=>by omega⟩
theorem OF {l:List Int}(h:(decide ((l.length:Int)=0))=false):l.getD 0 0∈l:=by
 have h':(l.length:Int)≠0:=of_decide_eq_false h
 exact Bi.E3 (by omega)
theorem OE {T:AF}{u:Au}(h:(T.one u).2=true):Iv T.w T.b (T.one u).1:=by
 unfold one at h ⊢
 split at h
 ·cases h
 ·rename_i h1
  rw [if_neg h1]
  split at h
  ·cases h
  ·rename_i h2
   rw [if_neg h2]
   have hm:=D0 (OF (Bool.not_eq_true _ ▸ h2))
   rcases List.mem_append.1 hm with hm | hm
   ·exact(FU hm).S4
   ·exact Ma hm
/-! #### a box, somebody -/
theorem J6 (T:AF)(u:Au):(T.box u).1.w=T.w∧(T.box u).1.b=T.b:=by
 unfold box
 split
 ·exact⟨rfl,rfl⟩
 ·split<;>exact⟨rfl,rfl⟩
theorem XO {T:AF}{u:Au}(h:(T.box u).2.2=true):0≤(T.box u).2.1∧(T.box u).2.1 < 9∧(T.w.AP.at (T.box u).2.1).kind=3∧(T.box u).1=T:=by
 unfold box at h ⊢
 split at h
 ·cases h
 ·rename_i h1
  rw [if_neg h1]
  split at h
  ·cases h
  ·rename_i h2
   rw [if_neg h2]
   simp only [Bool.or_eq_true,Bool.not_eq_true',decide_eq_false_iff_not,not_or,Bool.not_eq_false,Decidable.not_not] at h1
   have hm:=OE h1.1
   exact⟨hm.1,hm.2.1,h1.2,rfl⟩
theorem MI {T:AF}{name:Au}{k:Int}:∀ {r:Nat} {n:Int},r≤6→T.Ix name r n=some k→0≤k∧k < 6∧k≠T.b∧T.w.JC T.b k=true
 | 0,_,_,h=>by cases h
 | r+1,n,hr,h=>by
  unfold Ix at h
  split at h
  ·exact MI (by omega) h
  ·rename_i h1
   split at h
   ·cases h
    simp only [Bool.or_eq_true,decide_eq_true_eq,Bool.not_eq_true',not_or,Bool.not_eq_false] at h1
    exact⟨by omega,by omega,h1.1.1,h1.2⟩
   ·exact MI (by omega) h
theorem JP (T:AF)(u:Au):(T.A9 u).1.w=T.w∧(T.A9 u).1.b=T.b:=by
 unfold A9
 split
 ·split<;>exact⟨rfl,rfl⟩
 ·exact⟨rfl,rfl⟩
theorem J2 {T:AF}{u:Au}(h:(T.A9 u).2.2=true):0≤(T.A9 u).2.1∧(T.A9 u).2.1 < 6∧(T.A9 u).2.1≠T.b∧T.w.JC T.b (T.A9 u).2.1=true:=by
 unfold A9 at h ⊢
 split at h
 ·rename_i h1
  rw [if_pos h1]
  split at h
  ·rename_i k hk
   exact MI (Nat.le_refl _) hk
  ·cases h
 ·cases h
/-! #### taking and letting go -/
theorem Ec {T:AF}(h:T.Fit){i:Int}(hm:Iv T.w T.b i){t:Ao}(hn:t.name=(T.w.AP.at i).name)(hk:t.kind=(T.w.AP.at i).kind)(hg:(T.w.Gr i t).Bj=true):DJ T (T.C9 i t):=
 ⟨rfl,⟨h.b,Tf h.br (by rw [hn];exact h.br.th i),hg,h.here⟩,VW hm.1 hm.2.1 hn hk hm.2.2⟩
theorem Rp {T:AF}(h:T.Fit){i:Int}(hm:Iv T.w T.b i)(hc:¬ ((T.w.AP.at i).kind=2∧(T.w.AP.at i).on=true)):DJ T (T.place i 0 T.me.room):=
 Ec h hm rfl rfl (by
  have:=AI.M1 h.gd hm.1 hm.2.1 (v:=(T.w.AP.at i).on) h.room (AI.Hm h.gd hm.1 hm.2.1).plain hc
  exact this)
theorem M9 {T:AF}(h:T.Fit){i a:Int}(hm:Iv T.w T.b i)(ha:0≤a∧a < 6)(hh:(T.w.AO.at a).here=true):DJ T (T.place i 1 a):=
 Ec h hm rfl rfl (AI.Rn h.gd hm.1 hm.2.1 ha hh)
theorem Sq {T:AF}(h:T.Fit){i a:Int}(hm:Iv T.w T.b i)(ha:0≤a∧a < 9)(hk:(T.w.AP.at a).kind=3)(hc:¬ ((T.w.AP.at i).kind=2∧(T.w.AP.at i).on=true))(hi:T.w.Tt a i=false):DJ T (T.place i 2 a):=
 Ec h hm rfl rfl (AI.SD h.gd hm.1 hm.2.1 ha hk hc hi)
theorem HM {T:AF}{i j Cb at_:Int}(h0:0≤i)(h9:i < 9)(j0:0≤j):(T.place i Cb at_).w.AP.at j=if j=i then { T.w.AP.at i with Cb:=Cb,at_:=at_ } else T.w.AP.at j:=HC _ _ _ _ h0 h9 j0
theorem JK:∀ {l:List Int} {T:AF},T.Fit→(∀ i∈l,Iv T.w T.b i)→DJ T (T.DF l)
 | [],T,h,_=>h.goes
 | i :: r,T,h,hm=>by
  have hi:=hm i (List.mem_cons_self ..)
  have g1:=M9 h hi h.b h.here
  have g2:DJ T ((T.place i 1 T.b).Bw 3 i):=g1.Ep rfl rfl
  refine g2.trans (JK g2.fit fun j hj=>?_)
  have hj':=hm j (List.mem_cons_of_mem _ hj)
  refine⟨hj'.1,hj'.2.1,?_⟩
  show((T.place i 1 T.b).w.AP.at j).Cb=1→((T.place i 1 T.b).w.AP.at j).at_=T.b
  rw [HM hi.1 hi.2.1 hj'.1]
  split
  ·exact fun _=>rfl
  ·exact hj'.2.2
theorem Ps {T:AF}(h:T.Fit){l:List Int}(hl:∀ i∈l,Iv T.w T.b i)(o:Order):DJ T (T.Kh l o):=by
 unfold Kh
 have hp:∀ i∈BQ T.w l o.nth o.name o.Bm,Iv T.w T.b i:=fun i hi=>hl i (D0 hi)
 split
 ·have g:DJ T (T.tell KU):=h.goes.Ep rfl rfl
  exact g.trans (JK g.fit hp)
 ·exact JK h hp
theorem Xf {T:AF}(h:T.Fit)(o:Order):DJ T (T.get o):=by
 unfold get
 have g:DJ T (T.box o.second).1:=h.goes.Ep (T.J6 o.second).1 (T.J6 o.second).2
 split
 ·split
  ·exact g
  ·refine g.trans (Ps g.fit (fun i hi=>?_) o)
   rw [(T.J6 o.second).1,(T.J6 o.second).2] at *
   exact Xy (by decide) hi
 ·exact Ps h (fun i hi=>Ma hi) o
def NJ (T:AF)(v to:Int):Prop:=(v=8)∨(v=10∧0≤to∧to < 6∧(T.w.AO.at to).here=true)∨(v≠8∧v≠10∧0≤to∧to < 9∧(T.w.AP.at to).kind=3)
theorem NJ.next {T T':AF}{v to:Int}(h:NJ T v to)(hb:T'.w.AO=T.w.AO)(hk:∀ i,0≤i→i < 9→(T'.w.AP.at i).kind=(T.w.AP.at i).kind):NJ T' v to:=by
 rcases h with h | ⟨h1,h2,h3,h4⟩ | ⟨h1,h2,h3,h4,h5⟩
 ·exact .inl h
 ·exact .inr (.inl ⟨h1,h2,h3,by rw [hb];exact h4⟩)
 ·exact .inr (.inr ⟨h1,h2,h3,h4,by rw [hk _ h3 h4];exact h5⟩)
theorem SY {T:AF}(h:T.Fit){v to i:Int}(hm:Iv T.w T.b i)(ht:NJ T v to):DJ T (T.Cs v to i)∧(T.Cs v to i).w.AO=T.w.AO∧∀ j,0≤j→j≠i→(T.Cs v to i).w.AP.at j=T.w.AP.at j:=by
 have hpl:∀ Cb at_,(T.place i Cb at_).w.AO=T.w.AO∧∀ j,0≤j→j≠i→(T.place i Cb at_).w.AP.at j=T.w.AP.at j:=fun Cb at_=>⟨rfl,fun j j0 hn=>by rw [HM hm.1 hm.2.1 j0,if_neg hn]⟩
 unfold Cs
 split
 ·exact⟨h.goes.Ep rfl rfl,rfl,fun _ _ _=>rfl⟩
 ·rename_i h1
  have hc:¬ ((T.w.AP.at i).kind=2∧(T.w.AP.at i).on=true):=fun e=>h1 (by rw [Bool.and_eq_true];exact⟨decide_eq_true e.1,e.2⟩)
  split
  ·exact⟨(Rp h hm hc).Ep rfl rfl,hpl 0 T.me.room⟩
  ·rename_i h2
   split
   ·rename_i h3
    rcases ht with e | ⟨_,a0,a6,hh⟩ | ⟨_,e,_⟩
    ·exact absurd (decide_eq_true e) h2
    ·exact⟨(M9 h hm ⟨a0,a6⟩ hh).Ep rfl rfl,hpl 1 to⟩
    ·exact absurd (of_decide_eq_true h3) e
   ·rename_i h3
    split
    ·exact⟨h.goes.Ep rfl rfl,rfl,fun _ _ _=>rfl⟩
    ·rename_i h4
     rcases ht with e | ⟨e,_⟩ | ⟨_,_,a0,a9,hk⟩
     ·exact absurd (decide_eq_true e) h2
     ·exact absurd (decide_eq_true e) h3
     ·exact⟨(Sq h hm ⟨a0,a9⟩ hk hc (by simpa using h4)).Ep rfl rfl,hpl 2 to⟩
theorem Jp {v to:Int}:∀ {l:List Int} {T:AF},T.Fit→l.Nodup→(∀ i∈l,Iv T.w T.b i)→NJ T v to→DJ T (T.Eu v to l)
 | [],T,h,_,_,_=>h.goes
 | i :: r,T,h,hd,hm,ht=>by
  have hi:=hm i (List.mem_cons_self ..)
  obtain⟨g,gb,gt⟩:=SY h hi ht
  have hd':=List.nodup_cons.1 hd
  refine g.trans (Jp g.fit hd'.2 (fun j hj=>?_) (ht.next gb fun j j0 j9=>(g.st.th j j0 j9).2))
  have hj':=hm j (List.mem_cons_of_mem _ hj)
  have hne:j≠i:=fun e=>hd'.1 (e ▸ hj)
  rw [Iv,gt j hj'.1 hne,g.b]
  exact hj'
theorem WL {T:AF}(h:T.Fit){to:Int}{o:Order}(ht:NJ T o.verb to):DJ T (T.SI to o):=by
 unfold SI
 have hp:∀ i∈BQ T.w T.own o.nth o.name o.Bm,Iv T.w T.b i:=fun i hi=>(FU (D0 hi)).S4
 have hd:(BQ T.w T.own o.nth o.name o.Bm).Nodup:=List.Nodup.sublist (Ee ..) (AI.QL ..)
 split
 ·have g:DJ T (T.tell Nt):=h.goes.Ep rfl rfl
  exact g.trans (Jp g.fit hd hp (ht.next rfl fun _ _ _=>rfl))
 ·exact Jp h hd hp ht
theorem Ty {T:AF}(h:T.Fit){o:Order}(hv:o.verb=8∨o.verb=9∨o.verb=10):DJ T (T.FP o):=by
 have hw:(T.Cv o).1.w=T.w∧(T.Cv o).1.b=T.b:=by
  unfold Cv
  split
  ·exact T.J6 o.second
  ·split
   ·exact T.JP o.second
   ·exact⟨rfl,rfl⟩
 have g:DJ T (T.Cv o).1:=h.goes.Ep hw.1 hw.2
 unfold FP
 split
 ·exact g
 ·rename_i h1
  refine g.trans (WL g.fit ?_)
  have h1':(T.Cv o).2.2=true:=by simpa using h1
  unfold NJ
  rw [hw.1]
  unfold Cv at h1' ⊢
  split at h1'
  ·rename_i h2
   rw [if_pos h2]
   obtain⟨a0,a9,hk,_⟩:=XO h1'
   have:=of_decide_eq_true h2
   exact .inr (.inr ⟨by omega,by omega,a0,a9,hk⟩)
  ·rename_i h2
   rw [if_neg h2]
   split at h1'
   ·rename_i h3
    rw [if_pos h3]
    obtain⟨a0,a6,_,hs⟩:=J2 h1'
    exact .inr (.inl ⟨of_decide_eq_true h3,a0,a6,(AI.HR (AI.LC hs).2.1).2.2⟩)
   ·rename_i h3
    rw [if_neg h3]
    refine .inl ?_
    rcases hv with e | e | e
    ·exact e
    ·exact absurd (decide_eq_true e) h2
    ·exact absurd (decide_eq_true e) h3
end AF
end Go.Ing
/- What walks through a turn need. -/
namespace Go.Ing
open Go
theorem KT {α:Type}{l:List α}{k:Int}{d:α}(h0:0≤k)(h1:k < l.length):l.take (k+1).toNat=l.take k.toNat ++ [l.getD k.toNat d]:=by
 obtain⟨m,rfl⟩:=Int.eq_ofNat_of_zero_le h0
 have hm:m < l.length:=by omega
 rw [show((m:Int)+1).toNat=m+1 by omega,show((m:Int)).toNat=m by omega,List.take_add_one,List.getElem?_eq_getElem hm,List.getD_eq_getElem?_getD,List.getElem?_eq_getElem hm]
 rfl
theorem AI.MD (d:Int):0≤AI.opposite d∧AI.opposite d < 6:=by
 unfold AI.opposite
 have h:=Int.tmod_nonneg (a:=max 0 (min d 5)+3) 6 (by omega)
 have h2:=Int.tmod_lt_of_pos (max 0 (min d 5)+3) (show(0:Int) < 6 by decide)
 exact⟨h,h2⟩
theorem Words.SO {s:Au}:∀ {n:Nat},n≤6→(Words.OS s n).2=true→0≤(Words.OS s n).1∧(Words.OS s n).1 < 6
 | 0,_,h=>by cases h
 | n+1,hn,h=>by
  unfold Words.OS at h ⊢
  split
  ·rename_i c
   show 0≤((5 - n:Nat):Int)∧((5 - n:Nat):Int) < 6
   omega
  ·rename_i c
   rw [if_neg c] at h
   exact Words.SO (by omega) h
theorem Words.U3 {s:Au}(h:(Words.dir s).2=true):0≤(Words.dir s).1∧(Words.dir s).1 < 6:=Words.SO (Nat.le_refl _) h
namespace AF
theorem YR {w:AI}{u:Au}{l:List Int}{k:Int}(h0:0≤k)(h1:k < l.length)(c:(decide (u = []) || decide ((w.AP.at (l.getD k.toNat 0)).name=u))=true):Jg w u (l.take (k+1).toNat)=Jg w u (l.take k.toNat) ++ [l.getD k.toNat 0]:=by
 rw [KT (d:=0) h0 h1,Jg,List.filter_append,List.filter_cons,if_pos c];rfl
theorem Y1 {w:AI}{u:Au}{l:List Int}{k:Int}(h0:0≤k)(h1:k < l.length)(c:(decide (u = []) || decide ((w.AP.at (l.getD k.toNat 0)).name=u))=false):Jg w u (l.take (k+1).toNat)=Jg w u (l.take k.toNat):=by
 rw [KT (d:=0) h0 h1,Jg,List.filter_append,List.filter_cons,if_neg (by rw [c];decide)];simp [Jg]
theorem Vx (w:AI)(u:Au)(l:List Int):(Jg w u l).length≤l.length:=List.length_filter_le _ _
theorem KQ (T:AF):T.own.length≤9:=AI.Ig _ _ _
theorem I2 (T:AF):T.seen.length≤9:=by
 unfold seen;split
 ·simp
 ·exact AI.Ig _ _ _
theorem RX {T:AF}{i:Int}(h:i∈T.own++T.seen):0≤i∧i < 9:=by
 rcases List.mem_append.1 h with h | h
 ·exact⟨(FU h).1,(FU h).2.1⟩
 ·exact⟨(KA h).1,(KA h).2.1⟩
theorem Lz {T:AF}{i:Int}(h:i∈T.own):0≤i∧i < 9:=⟨(FU h).1,(FU h).2.1⟩
theorem Ox {T:AF}{i:Int}(h:i∈T.seen):0≤i∧i < 9:=⟨(KA h).1,(KA h).2.1⟩
theorem UR (T:AF)(u:Au):0≤(T.one u).1∧(T.one u).1 < 9:=by
 by_cases h:(T.one u).2=true
 ·exact⟨(OE h).1,(OE h).2.1⟩
 ·unfold one at h ⊢
  split
  ·exact⟨Int.le_refl _,by decide⟩
  ·rename_i h1
   rw [if_neg h1] at h
   split
   ·exact⟨Int.le_refl _,by decide⟩
   ·rename_i h2
    rw [if_neg h2] at h
    exact absurd rfl h
theorem Yo (T:AF)(u:Au):0≤(T.box u).2.1∧(T.box u).2.1 < 9:=by
 have h:=T.UR u
 unfold box
 split
 ·exact⟨Int.le_refl _,show(0:Int) < 9 by decide⟩
 ·split
  ·exact⟨Int.le_refl _,show(0:Int) < 9 by decide⟩
  ·exact h
theorem H8 (T:AF)(u:Au):(T.box u).1.out.length≤T.out.length+1:=by
 unfold box
 split
 ·simp
 ·split<;>simp
theorem Lh (T:AF)(u:Au):0≤(T.A9 u).2.1∧(T.A9 u).2.1 < 6:=by
 unfold A9
 split
 ·split
  ·rename_i k hk
   have:=MI (Nat.le_refl _) hk
   exact⟨this.1,this.2.1⟩
  ·exact⟨Int.le_refl _,show(0:Int) < 6 by decide⟩
 ·exact⟨Int.le_refl _,show(0:Int) < 6 by decide⟩
theorem HI (T:AF)(u:Au):(T.A9 u).1.out.length≤T.out.length+1:=by
 unfold A9
 split
 ·split<;>simp
 ·simp
theorem Wy (T:AF)(hb:0≤T.b∧T.b < 6)(r:Int):({ T.w with AO:=(T.w.AO.put T.b { T.w.AO.at T.b with room:=r }).put T.b { (T.w.AO.put T.b { T.w.AO.at T.b with room:=r }).at T.b with B4:=0 } }:AI)=(T.GF r).w:=by
 rw [Vector.CG hb.1 hb.2,Vector.EE];rfl
theorem Hs (T:AF){i:Int}(h0:0≤i)(h9:i < 9)(wh a:Int):({ T.w with AP:=(T.w.AP.put i { T.w.AP.at i with Cb:=wh }).put i { (T.w.AP.put i { T.w.AP.at i with Cb:=wh }).at i with at_:=a } }:AI)=(T.place i wh a).w:=by
 rw [Vector.CG h0 h9,Vector.EE];rfl
theorem EA {T:AF}{i:Int}(h0:0≤i)(h9:i < 9)(wh a:Int):((T.place i wh a).w.AP.at i).name=(T.w.AP.at i).name:=by
 rw [HM h0 h9 h0,if_pos rfl]
theorem Dn {T:AF}{i j:Int}(h0:0≤i)(h9:i < 9)(j0:0≤j)(wh a:Int):((T.place i wh a).w.AP.at j).name=(T.w.AP.at j).name:=by
 rw [HM h0 h9 j0]
 split
 ·rename_i e;subst e;rfl
 ·rfl
theorem V9 (T:AF){i:Int}(h0:0≤i)(h9:i < 9)(c:decide ((T.w.AP.at i).kind=2)=true):({ T.w with AP:=(((T.w.AP.put i { T.w.AP.at i with on:=false }).put i { (T.w.AP.put i { T.w.AP.at i with on:=false }).at i with Cb:=0 }).put i { ((T.w.AP.put i { T.w.AP.at i with on:=false }).put i { (T.w.AP.put i { T.w.AP.at i with on:=false }).at i with Cb:=0 }).at i with at_:=(T.w.AO.at T.b).room }) }:AI)=(T.E0 i).w:=by
 rw [Vector.CG h0 h9,Vector.EE,Vector.CG h0 h9,Vector.EE]
 unfold E0
 rw [if_pos c];rfl
theorem VL (T:AF){i:Int}(h0:0≤i)(h9:i < 9)(c:decide ((T.w.AP.at i).kind=2)=false):({ T.w with AP:=(T.w.AP.put i { T.w.AP.at i with Cb:=0 }).put i { (T.w.AP.put i { T.w.AP.at i with Cb:=0 }).at i with at_:=(T.w.AO.at T.b).room } }:AI)=(T.E0 i).w:=by
 rw [Vector.CG h0 h9,Vector.EE]
 unfold E0
 rw [if_neg (by rw [c];decide)];rfl
theorem HO {X:AF}{l:List Int}{k:Int}(h0:0≤k)(h1:k < l.length):X.DF (l.drop k.toNat)=((X.place (l.getD k.toNat 0) 1 X.b).Bw 3 (l.getD k.toNat 0)).DF (l.drop (k+1).toNat):=by
 rw [NU h0 h1];rfl
theorem L7 {X:AF}{l:List Int}{k:Int}(h0:0≤k)(h1:k < l.length):X.Ce (l.drop k.toNat)=(X.E0 (l.getD k.toNat 0)).Ce (l.drop (k+1).toNat):=by
 rw [NU h0 h1];rfl
theorem Ju {α:Type}{l:List α}:l.drop (l.length:Int).toNat = []:=by rw [show(l.length:Int).toNat=l.length by omega,List.drop_length]
theorem Ou {T:AF}{k:Int}(h:0≤k):T.DZ (k+1).toNat=if decide (((T.DZ k.toNat).w.AO.at k).B4=T.b+1)=true then(T.DZ k.toNat).Ck k 0 else T.DZ k.toNat:=by
 obtain⟨m,rfl⟩:=Int.eq_ofNat_of_zero_le h
 rfl
theorem RW (T:AF):∀ k:Nat,(T.DZ k).b=T.b∧(T.DZ k).out=T.out
 | 0=>⟨rfl,rfl⟩
 | k+1=>by
  unfold DZ;split
  ·exact RW T k
  ·exact RW T k
theorem I0:∀(l:List Int) (T:AF),(T.Ce l).b=T.b∧(T.Ce l).out=T.out
 | [],T=>⟨rfl,rfl⟩
 | i :: r,T=>by rw [Ce];exact I0 r _
theorem K2 {T:AF}{name:Au}{k n:Int}(h0:0≤k)(h6:k < 6):T.Ix name (6 - k).toNat n=if (decide (k=T.b) || !decide ((T.w.AO.at k).name=name) || !T.w.JC T.b k)=true then T.Ix name (6 - (k+1)).toNat n else if decide (n - 1=0)=true then some k else T.Ix name (6 - (k+1)).toNat (n - 1):=by
 obtain⟨m,rfl⟩:=Int.eq_ofNat_of_zero_le h0
 have e:(6 - (m:Int)).toNat=(6 - ((m:Int)+1)).toNat+1:=by omega
 rw [e,Ix,show(((6 - ((6 - ((m:Int)+1)).toNat+1):Nat)):Int)=(m:Int) by omega]
@[simp] theorem Fl (T:AF) (k i:Int):(T.Bw k i).out.length=T.out.length+1:=by simp [Bw]
@[simp] theorem MB (T:AF) (k:Int):(T.kind k).out.length=T.out.length+1:=by simp [kind]
theorem Sh (T:AF)(b f:Int):(T.Ck b f).b=T.b∧(T.Ck b f).out=T.out:=⟨rfl,rfl⟩
theorem Qe (T:AF):T.FJ.b=T.b∧T.FJ.out=T.out:=by
 unfold FJ
 rw [(Sh _ _ _).1,(Sh _ _ _).2]
 have h1:=AF.I0 T.own T
 have h2:=AF.RW (T.Ce T.own) 6
 exact⟨h2.1.trans h1.1,h2.2.trans h1.2⟩
theorem DB (T:AF)(b:Int)(x:An):(T.DY b x).b=T.b∧(T.DY b x).out=T.out∧(T.DY b x).w={ T.w with AO:=T.w.AO.put b x }:=⟨rfl,rfl,rfl⟩
theorem Oz (T:AF):T.Gq.b=(T.kind 18).b∧T.Gq.out=(T.kind 18).out∧T.Gq.w={ (T.kind 18).FJ.w with AO:=(T.kind 18).FJ.w.AO.put (T.kind 18).b default }:=by
 unfold Gq
 rw [(DB _ _ _).1,(DB _ _ _).2.1,(DB _ _ _).2.2]
 exact⟨(Qe _).1,(Qe _).2,rfl⟩
theorem Sk {l:List Int}(h:∀ i∈l,0≤i∧i < 9):0≤l.getD (0:Int).toNat 0∧l.getD (0:Int).toNat 0 < 9:=by
 cases l with
 | nil=>exact⟨Int.le_refl _,show(0:Int) < 9 by decide⟩
 | cons x r=>exact h x (List.mem_cons_self ..)
theorem Nx (T:AF)(v to i:Int):(T.Cs v to i).out.length≤T.out.length+1:=by
 unfold Cs
 split
 ·simp
 ·split
  ·rw [Fl];exact Nat.le_refl _
  ·split
   ·rw [Cg];exact Nat.le_refl _
   ·split
    ·simp
    ·rw [Cg];exact Nat.le_refl _
theorem XL (T:AF)(v to i:Int):(T.Cs v to i).b=T.b:=by
 unfold Cs
 split
 ·rfl
 ·split
  ·rfl
  ·split
   ·rfl
   ·split<;>rfl
theorem QC (T:AF)(o:Order):(T.Cv o).1.out.length≤T.out.length+1:=by
 unfold Cv
 split
 ·exact T.H8 _
 ·split
  ·exact T.HI _
  ·exact Nat.le_succ _
theorem Vy {X:AI}{b:Int}(hw:X.DL)(c1:(!X.Bj)=false)(c2:(decide (b < 0) || decide (6≤b) || !(X.AO.at b).here)=false):Fit ⟨X,b,[]⟩:=by
 simp only [Bool.or_eq_false_iff,decide_eq_false_iff_not,Bool.not_eq_false'] at c1 c2
 exact⟨⟨by show 0≤b;omega,by show b < 6;omega⟩,hw,c1,c2.2⟩
end AF
end Go.Ing
/- Engine: texts deep within what came in, as parts of its reading. -/
namespace Go.Ing
open Go
section
open Go.RowKit Go.ChangeShapes Go.WideShapes Go.ChangeAt
variable {H:Type} {enc:TypeId × Value→H} {P:Program} {w:World}
end
end Go.Ing
/- Laws of what beings do: doors; that rules answer at all. -/
namespace Go.Ing
open Go
theorem Vector.N7 {α:Type}[Inhabited α]{n:Nat}(v:Vector α n)(i:Int):v.at i=default∨∃ j:Int,0≤j∧j < n∧v.at i=v.at j:=by
 by_cases h:i.toNat < n
 ·exact .inr ⟨(i.toNat:Int),by omega,by omega,by unfold Vector.at;rw [show((i.toNat:Nat):Int).toNat=i.toNat by omega]⟩
 ·refine .inl ?_
  unfold Vector.at
  rw [List.getD_eq_getElem?_getD,List.getElem?_eq_none (by simp;omega)]
  rfl
namespace AF
structure W6 (X:AI)(b:Int)(o:Order):Prop where
 gd:X.Bj=true
 br:0≤b∧b < 6
 here:(X.AO.at b).here=true
 v:0≤o.verb∧o.verb≤20
 w:(EH X b o).1=(AF.act ⟨X,b,[]⟩ o).w
 out:(EH X b o).2.1=(AF.act ⟨X,b,[]⟩ o).out
theorem bu {X:AI}{b:Int}{o:Order}(h:(EH X b o).2.2=0):W6 X b o:=by
 unfold EH at h
 split at h
 ·cases h
 ·rename_i h1
  split at h
  ·cases h
  ·rename_i h2
   split at h
   ·cases h
   ·rename_i h3
    have h2':=h2
    have h3':=h3
    have hd:EH X b o=((AF.act ⟨X,b,[]⟩ o).w,(AF.act ⟨X,b,[]⟩ o).out,0):=(if_neg h1).trans ((if_neg h2).trans (if_neg h3))
    simp only [Bool.or_eq_true,decide_eq_true_eq,Bool.not_eq_true',not_or,Bool.not_eq_false] at h1 h2' h3'
    exact⟨h1,⟨by omega,by omega⟩,h2'.2,⟨by omega,by omega⟩,by rw [hd],by rw [hd]⟩
theorem W6.fit {X:AI}{b:Int}{o:Order}(h:W6 X b o)(hw:X.DL):Fit ⟨X,b,[]⟩:=⟨h.br,hw,h.gd,h.here⟩
end AF
end Go.Ing
/- What beings do keeps the land good: all orders. -/
namespace Go.Ing
open Go
namespace AF
theorem II {T:AF}(h:T.Fit){c f:Int}(c0:0≤c)(c6:c < 6)(f0:0≤f)(f6:f≤6)(hh:f≠0→(T.w.AO.at c).here=true):DJ T (T.Ck c f):=by
 have hg:=AI.Fc h.gd c0 c6
 have hb:∀ a,0≤a→((T.Ck c f).w.AO.at a).here=(T.w.AO.at a).here:=fun a a0=>by
  show((T.w.AO.put c { T.w.AO.at c with B4:=f }).at a).here=_
  rw [HC _ _ _ _ c0 c6 a0]
  split
  ·rename_i e;subst e;rfl
  ·rfl
 refine⟨rfl,⟨h.b,Ey h.br (h.br.be c),AI.Iw h.gd c0 c6 ?_ fun i i0 i9 hw ha=>?_,(hb T.b h.b.1).trans h.here⟩,Mk c0 c6 fun _=>rfl⟩
 ·unfold AI.Du at hg ⊢
  simp only [Bool.or_eq_false_iff,decide_eq_false_iff_not,Bool.and_eq_false_iff,Bool.not_eq_false'] at hg ⊢
  obtain⟨⟨⟨⟨⟨⟨⟨q1,q2⟩,q3⟩,q4⟩,q5⟩,q6⟩,q7⟩,q8⟩:=hg
  refine⟨⟨⟨⟨⟨⟨⟨q1,q2⟩,q3⟩,q4⟩,by omega⟩,by omega⟩,?_⟩,q8⟩
  by_cases e:f=0
  ·exact .inr (by simp [e])
  ·exact .inl (hh e)
 ·show(T.w.AO.at c).here=true
  have:=AI.Hm h.gd i0 i9
  rcases this.Cb with ⟨a,_⟩ | ⟨_,_,a⟩ | ⟨a,_⟩
  ·omega
  ·rw [ha] at a;exact a
  ·omega
theorem TK {T:AF}(h:T.Fit)(o:Order):DJ T (T.FB o):=by
 unfold FB
 generalize (if (!decide (o.nth=1) || o.Bm)=true then [] else o.name)=nm
 have hw:=T.JP nm
 have g:DJ T (T.A9 nm).1:=h.goes.Ep hw.1 hw.2
 split
 ·exact g
 ·rename_i h1
  have hs:=J2 (T:=T) (u:=nm) (by simpa using h1)
  have hk:(T.w.AO.at (T.A9 nm).2.1).here=true:=(AI.HR (AI.LC hs.2.2.2).2.1).2.2
  have hgb:=g.fit.b
  have g1:=g.trans (II g.fit (c:=(T.A9 nm).1.b) (f:=(T.A9 nm).2.1+1) g.fit.b.1 g.fit.b.2 (by omega) (by omega) fun _=>g.fit.here)
  have key:DJ T (if decide ((((T.A9 nm).1.Ck (T.A9 nm).1.b ((T.A9 nm).2.1+1)).w.AO.at (T.A9 nm).2.1).B4=0)=true then((T.A9 nm).1.Ck (T.A9 nm).1.b ((T.A9 nm).2.1+1)).Ck (T.A9 nm).2.1 ((T.A9 nm).1.b+1) else(T.A9 nm).1.Ck (T.A9 nm).1.b ((T.A9 nm).2.1+1)):=by
   split
   ·refine g1.trans (II g1.fit hs.1 hs.2.1 (by omega) (by omega) fun _=>?_)
    show(((T.A9 nm).1.w.AO.put (T.A9 nm).1.b _).at _).here=true
    rw [HC _ _ _ _ g.fit.b.1 g.fit.b.2 hs.1,if_neg (by rw [hw.2];exact hs.2.2.1),hw.1]
    exact hk
   ·exact g1
  exact key.Ep rfl rfl
theorem M5 {T:AF}(h:T.Fit){first:Bool}{i:Int}{v:Bool}{ev:Int}(hm:Iv T.w T.b i)(h1:(T.w.AP.at i).kind≠0)(h2:(T.w.AP.at i).kind=2→(T.w.AP.at i).Cb=1):DJ T (T.before first i v ev):=by
 unfold before
 split
 ·have g:=Ec h hm (t:={ T.w.AP.at i with on:=v }) rfl rfl (AI.Uz h.gd hm.1 hm.2.1 h1 h2)
  exact g.Ep rfl rfl
 ·have g:DJ T (T.Bw ev i):=h.goes.Ep rfl rfl
  exact g.trans (Ec g.fit hm rfl rfl (AI.Uz h.gd hm.1 hm.2.1 h1 h2))
theorem Lp {T:AF}(h:T.Fit){r d:Int}{v:Bool}(r0:0≤r)(r6:r < 6)(d0:0≤d)(d6:d < 6)(hv:v=true→(T.w.BS.at r).CR.at d≠0):DJ T (T.C7 r d v):=
 ⟨rfl,⟨h.b,TT h.br,AI.WJ h.gd r0 r6 d0 d6 hv,h.here⟩,VO r0 r6⟩
theorem Vq {T:AF}(h:T.Fit){d:Int}{on:Bool}{ev:Int}(d0:0≤d)(d6:d < 6):DJ T (T.HB d on ev):=by
 have hx:=h.exit d0 d6
 have hr:=h.room
 unfold HB
 split
 ·exact h.goes.Ep rfl rfl
 ·rename_i h1
  split
  ·exact h.goes.Ep rfl rfl
  ·have h1':¬ (T.w.BS.at (T.w.AO.at T.b).room).CR.at d - 1 < 0:=fun e=>h1 (decide_eq_true e)
   have g1:=Lp h (v:=!on) hr.1 hr.2 d0 d6 fun _=>by omega
   have ho:=AI.MD d
   have key:DJ T (if decide (((T.C7 T.me.room d (!on)).w.BS.at ((T.w.BS.at T.me.room).CR.at d - 1)).CR.at (AI.opposite d)=T.me.room+1)=true then(T.C7 T.me.room d (!on)).C7 ((T.w.BS.at T.me.room).CR.at d - 1) (AI.opposite d) (!on) else T.C7 T.me.room d (!on)):=by
    split
    ·rename_i h3
     refine g1.trans (Lp g1.fit (v:=!on) (r:=(T.w.BS.at (T.w.AO.at T.b).room).CR.at d - 1) (d:=AI.opposite d) (by omega) (by omega) ho.1 ho.2 fun _=>?_)
     have h3':=of_decide_eq_true h3
     intro e
     have h3'':((T.C7 T.me.room d (!on)).w.BS.at ((T.w.BS.at (T.w.AO.at T.b).room).CR.at d - 1)).CR.at (AI.opposite d)=(T.w.AO.at T.b).room+1:=h3'
     have e':((T.C7 T.me.room d (!on)).w.BS.at ((T.w.BS.at (T.w.AO.at T.b).room).CR.at d - 1)).CR.at (AI.opposite d)=0:=e
     omega
    ·exact g1
   exact key.Ep rfl rfl
theorem SN {v:Int}:setKind v=1∨setKind v=2∨setKind v=3:=by
 unfold setKind
 split
 ·exact .inl rfl
 ·split
  ·exact .inr (.inl rfl)
  ·exact .inr (.inr rfl)
theorem Wc {T:AF}(h:T.Fit)(o:Order):DJ T (T.set o):=by
 unfold set
 split
 ·rename_i h1
  have:=Words.U3 (Bool.and_eq_true_iff.1 h1).1
  exact Vq h this.1 this.2
 ·split
  ·exact h.goes.Ep rfl rfl
  ·rename_i h2
   split
   ·exact h.goes.Ep rfl rfl
   ·simp only [Bool.or_eq_true,decide_eq_true_eq,Bool.not_eq_true',decide_eq_false_iff_not,not_or,Decidable.not_not] at h2
    have hm:(T.EY o).getD 0 0∈T.EY o:=OF (decide_eq_false h2.1)
    have hm2:=D0 hm
    have hk:=SN (v:=o.verb)
    have hmine:Iv T.w T.b ((T.EY o).getD 0 0)∧(setKind o.verb=2→(T.w.AP.at ((T.EY o).getD 0 0)).Cb=1):=by
     split at hm2
     ·rename_i h3
      have h3':=of_decide_eq_true h3
      rcases List.mem_append.1 hm2 with hq | hq
      ·exact⟨(FU hq).S4,fun e=>by omega⟩
      ·exact⟨Ma hq,fun e=>by omega⟩
     ·exact⟨(FU hm2).S4,fun _=>(FU hm2).2.2.1⟩
    have hk0:(T.w.AP.at ((T.EY o).getD 0 0)).kind≠0:=by rw [h2.2];omega
    have hk2:(T.w.AP.at ((T.EY o).getD 0 0)).kind=2→(T.w.AP.at ((T.EY o).getD 0 0)).Cb=1:=fun e=>hmine.2 (by rw [← h2.2];exact e)
    split
    ·exact M5 h hmine.1 hk0 hk2
    ·exact M5 h hmine.1 hk0 hk2
theorem J7 {T:AF}{i j:Int}(h0:0≤i)(h9:i < 9)(j0:0≤j):(T.E0 i).w.AP.at j=if j=i then { T.w.AP.at i with on:=if decide ((T.w.AP.at i).kind=2)=true then false else(T.w.AP.at i).on,Cb:=0,at_:=T.me.room } else T.w.AP.at j:=HC _ _ _ _ h0 h9 j0
theorem Qh {T:AF}(h:T.Fit){i:Int}(hm:Iv T.w T.b i):DJ T (T.E0 i):=
 Ec h hm rfl rfl (AI.M1 h.gd hm.1 hm.2.1 h.room (fun e=>by rw [if_neg (by rw [e];decide)];exact(AI.Hm h.gd hm.1 hm.2.1).plain e) (fun⟨e1,e2⟩=>by rw [if_pos (decide_eq_true e1)] at e2;cases e2))
theorem JR:∀ {l:List Int} {T:AF},T.Fit→(∀ i∈l,Iv T.w T.b i)→DJ T (T.Ce l)∧∀ j,0≤j→j < 9→(((T.Ce l).w.AP.at j).Cb=0∨(j ∉ l∧(T.Ce l).w.AP.at j=T.w.AP.at j))
 | [],T,h,_=>⟨h.goes,fun j _ _=> .inr ⟨by simp,rfl⟩⟩
 | i :: r,T,h,hm=>by
  have hi:=hm i (List.mem_cons_self ..)
  have g1:=Qh h hi
  obtain⟨g2,k2⟩:=JR (l:=r) g1.fit fun j hj=>by
   have hj':=hm j (List.mem_cons_of_mem _ hj)
   refine⟨hj'.1,hj'.2.1,?_⟩
   rw [J7 hi.1 hi.2.1 hj'.1]
   split
   ·intro e;cases e
   ·exact hj'.2.2
  refine⟨g1.trans g2,fun j j0 j9=>?_⟩
  rcases k2 j j0 j9 with e | ⟨e1,e2⟩
  ·exact .inl e
  ·have hd:=J7 (T:=T) hi.1 hi.2.1 j0
   by_cases hji:j=i
   ·rw [if_pos hji] at hd
    exact .inl (by rw [show(T.Ce (i :: r)).w.AP.at j=_ from e2,hd])
   ·rw [if_neg hji] at hd
    exact .inr ⟨by simp [hji,e1],e2.trans hd⟩
theorem LO {T:AF}(h:T.Fit):∀ {k:Nat},k≤6→DJ T (T.DZ k)∧(T.DZ k).w.AP=T.w.AP
 | 0,_=>⟨h.goes,rfl⟩
 | k+1,hk=>by
  obtain⟨g,e⟩:=LO (k:=k) h (by omega)
  unfold DZ
  split
  ·exact⟨g.trans (II g.fit (by omega) (by omega) (Int.le_refl _) (by decide) fun e=>absurd rfl e),e⟩
  ·exact⟨g,e⟩
theorem Lj (T:AF):T.FJ=((T.Ce T.own).DZ 6).Ck T.b 0:=by unfold FJ;rfl
theorem Yc {T:AF}(h:T.Fit):DJ T T.FJ:=by
 have g1:=(JR h (l:=T.own) fun i hi=>(FU hi).S4).1
 have g2:=(LO g1.fit (k:=6) (Nat.le_refl _)).1
 have g3:=g1.trans g2
 have g4:=II g3.fit (c:=T.b) (f:=0) h.b.1 h.b.2 (Int.le_refl _) (by decide) (fun e=>(e rfl).elim)
 rw [Lj]
 exact g3.trans g4
theorem Pe (T:AF)(b f:Int):(T.Ck b f).w.AP=T.w.AP:=rfl
theorem Ss {T:AF}(h:T.Fit){j:Int}(j0:0≤j)(j9:j < 9):¬ ((T.FJ.w.AP.at j).Cb=1∧(T.FJ.w.AP.at j).at_=T.b):=by
 obtain⟨g1,k1⟩:=JR h (l:=T.own) fun i hi=>(FU hi).S4
 have k2:=(LO g1.fit (k:=6) (Nat.le_refl _)).2
 rw [Lj,Pe,k2]
 rcases k1 j j0 j9 with e | ⟨e1,e2⟩
 ·rw [e];exact fun h=>by cases h.1
 ·rw [e2]
  intro⟨a,b⟩
  refine e1 ?_
  unfold own AI.has
  exact List.mem_filter.2 ⟨List.mem_map.2 ⟨j.toNat,List.mem_range.2 (by omega),by show((j.toNat:Nat):Int)=j;omega⟩,by rw [a,b];simp⟩
theorem P2 {T:AF}(h:T.Fit):DJ T T.FJ∧∀ j,0≤j→j < 9→¬ ((T.FJ.w.AP.at j).Cb=1∧(T.FJ.w.AP.at j).at_=T.b):=⟨Yc h,fun _ j0 j9=>Ss h j0 j9⟩
theorem TP {T:AF}(h:T.Fit):T.Gq.w.Bj=true∧Step T.b T.w T.Gq.w:=by
 have g1:DJ T (T.kind 18):=h.goes.Ep rfl rfl
 obtain⟨g2,k⟩:=P2 g1.fit
 have g:=g1.trans g2
 rw [(T.Oz).2.2]
 exact⟨AI.Iw (X:=(T.kind 18).FJ.w) g.fit.gd h.b.1 h.b.2 (by decide) fun i i0 i9 e1 e2=>absurd ⟨e1,e2⟩ (k i i0 i9),g.st.trans (Mk h.b.1 h.b.2 fun e=>absurd rfl e)⟩
theorem V7 {T:AF}(h:T.Fit)(o:Order)(h0:0≤o.verb)(h1:o.verb≤20):(T.act o).w.Bj=true∧Step T.b T.w (T.act o).w:=by
 have k:∀ {T':AF},DJ T T'→T'.w.Bj=true∧Step T.b T.w T'.w:=fun g=>⟨g.fit.gd,g.st⟩
 unfold act
 split
 ·rename_i c;exact k (VZ h h0 (of_decide_eq_true c))
 ·split
  ·exact k (Pu h)
  ·split
   ·exact k (h.goes.Ep (T.Hn _ _).1 (T.Hn _ _).2.1)
   ·split
    ·exact k (h.goes.Ep rfl rfl)
    ·split
     ·exact TP h
     ·split
      ·exact k (TK h o)
      ·split
       ·exact k (Xf h o)
       ·split
        ·rename_i c
         simp only [Bool.or_eq_true,decide_eq_true_eq] at c
         exact k (Ty h (by omega))
        ·exact k (Wc h o)
theorem keeps {X:AI}{b:Int}{o:Order}(hw:X.DL)(h:(EH X b o).2.2=0):(EH X b o).1.Bj=true∧Step b X (EH X b o).1:=by
 have k:=bu h
 rw [k.w]
 exact V7 (k.fit hw) o k.v.1 k.v.2
end AF
end Go.Ing

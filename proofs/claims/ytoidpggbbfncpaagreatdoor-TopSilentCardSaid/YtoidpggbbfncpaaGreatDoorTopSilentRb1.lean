/- What the functions that the law of this seat reaches compute, and the plain laws of it. No condition. -/
import Derived.Test.YtoidpggbbfncpaaGreatDoorTopSilentEc3
import Derived.Test.YtoidpggbbfncpaaGreatDoorTopSilentRa1
set_option linter.unusedSimpArgs false
set_option linter.unusedVariables false
/- What people type: plain functions, and what is known of pieces. -/
namespace Go.Ing
open Go
namespace Words
theorem Lz (c:UInt8):∀ s:As,(Lib.indexByte s c=-1∧c ∉ s)∨∃ i:Nat,Lib.indexByte s c=i∧i < s.length∧c ∉ s.take i∧s.drop i=c :: s.drop (i+1)
 | []=> .inl ⟨rfl,by simp⟩
 | b :: r=>by
  by_cases h:b=c
  ·subst h
   exact .inr ⟨0,by simp [Lib.indexByte],by simp,by simp,by simp⟩
  ·have hb:(b == c)=false:=by simpa using h
   rcases Lz c r with ⟨h1,h2⟩ | ⟨i,h1,h2,h3,h4⟩
   ·exact .inl ⟨by simp [Lib.indexByte,hb,h1],by simp [Ne.symm h,h2]⟩
   ·refine .inr ⟨i+1,?_,by simp;omega,?_,by simpa using h4⟩
    ·have:((i:Int) == -1)=false:=by simp
     simp [Lib.indexByte,hb,h1,this]
    ·simp [Ne.symm h,h3]
def pieces (c:UInt8):As→List As
 | []=> [[]]
 | x :: r=>if x=c then [] :: pieces c r else(x :: (pieces c r).headD []) :: (pieces c r).tail
theorem Qe (c:UInt8)(s:As):pieces c s≠ []:=by
 cases s with
 | nil=>simp [pieces]
 | cons x r=>unfold pieces;split<;>simp
theorem K1 {c:UInt8}:∀ {s:As},c ∉ s→pieces c s = [s]
 | [],_=>rfl
 | x :: r,h=>by
  simp only [List.mem_cons,not_or] at h
  rw [pieces,if_neg (Ne.symm h.1),K1 h.2];rfl
theorem MD {c:UInt8}(r:As):∀ {a:As},c ∉ a→pieces c (a++c :: r)=a :: pieces c r
 | [],_=>by simp [pieces]
 | x :: a,h=>by
  simp only [List.mem_cons,not_or] at h
  rw [List.cons_append,pieces,if_neg (Ne.symm h.1),MD r h.2];rfl
theorem Fj (c:UInt8):∀ s:As,(pieces c s).length=s.count c+1
 | []=>rfl
 | x :: r=>by
  unfold pieces
  have ih:=Fj c r
  have hne:=Qe c r
  split
  ·rename_i h;simp [h,ih]
  ·rename_i h
   have:(x == c)=false:=by simpa using h
   rw [List.count_cons,this]
   obtain⟨p,q,hp⟩:=List.exists_cons_of_ne_nil hne
   rw [hp] at ih ⊢
   simpa using ih
theorem Tx {c:UInt8}{s:As}{i:Nat}(h3:c ∉ s.take i)(h4:s.drop i=c :: s.drop (i+1)):pieces c s=s.take i :: pieces c (s.drop (i+1)):=by
 conv=>lhs;rw [← List.take_append_drop i s,h4]
 exact MD _ h3
/-! #### small letters -/
def Wh (c:UInt8):UInt8:=if (decide (65≤(c.toNat:Int)) && decide ((c.toNat:Int)≤90))=true then u8 ((c.toNat:Int)+97 - 65) else c
def low (w:As):As:=w.map Wh
def words (s:As):List As:=((pieces 32 s).filter fun w=>!decide (w = [])).map low
theorem Y1 {c:UInt8}(h:(decide (65≤(c.toNat:Int)) && decide ((c.toNat:Int)≤90))=true):u8 ((c.toNat:Int)+97 - 65)=Wh c:=(if_pos h).symm
theorem Yr {c:UInt8}(h:(decide (65≤(c.toNat:Int)) && decide ((c.toNat:Int)≤90))=false):Wh c=c:=if_neg (by rw [h];decide)
def H4 (w:As)(k:Nat):As:=(w.take k).map Wh++w.drop k
theorem PN (w:As)(k:Nat):(H4 w k).length=w.length:=by simp [H4];omega
theorem Um {w:As}{k:Int}(h0:0≤k)(h1:k < w.length):(H4 w k.toNat).getD k.toNat 0=w.getD k.toNat 0:=by
 have hk:k.toNat < w.length:=by omega
 unfold H4
 rw [List.getD_eq_getElem?_getD,List.getElem?_append_right (by simp;omega)]
 simp [List.getD_eq_getElem?_getD,Nat.min_eq_left (Nat.le_of_lt hk)]
theorem XL (w:As):H4 w w.length=low w:=by simp [H4,low]
theorem Sh {w:As}{k:Int}(h0:0≤k)(h1:k < w.length):(H4 w k.toNat).set k.toNat (Wh (w.getD k.toNat 0))=H4 w (k+1).toNat:=by
 obtain⟨n,rfl⟩:=Int.eq_ofNat_of_zero_le h0
 have hn:n < w.length:=by omega
 rw [show((n:Int)).toNat=n by omega,show((n:Int)+1).toNat=n+1 by omega]
 unfold H4
 rw [List.drop_eq_getElem_cons hn,List.set_append_right _ _ (by simp;omega)]
 simp only [List.length_map,List.length_take,Nat.min_eq_left (Nat.le_of_lt hn),Nat.sub_self,List.set_cons_zero]
 rw [List.take_add_one,List.map_append,List.append_assoc]
 simp [List.getD_eq_getElem?_getD,hn]
theorem Wc {w:As}{k:Int}(h0:0≤k)(h1:k < w.length)(h:Wh (w.getD k.toNat 0)=w.getD k.toNat 0):H4 w k.toNat=H4 w (k+1).toNat:=by
 rw [← Sh h0 h1,h]
 have hk:k.toNat < (H4 w k.toNat).length:=by rw [PN];omega
 have e:=Um h0 h1
 rw [← e,List.getD_eq_getElem?_getD,List.getElem?_eq_getElem hk]
 simp
structure Nx (c:UInt8)(s:As)(i:Int)(r:As)(xs:List As):Prop where
 i0:0≤i
 i1:i≤s.count c
 len:xs.length=s.count c+1
 eq:pieces c s=xs.take i.toNat++pieces c r
 rl:r.length≤s.length
theorem Nx.start (c:UInt8)(s:As)(n:Nat)(hn:n=s.count c+1):Nx c s 0 s (List.replicate n []):=
 ⟨Int.le_refl _,by omega,by simp [hn],by simp,Nat.le_refl _⟩
theorem Nx.left {c:UInt8}{s:As}{i:Int}{r:As}{xs:List As}(h:Nx c s i r xs):(r.count c:Int)=s.count c - i:=by
 have:=congrArg List.length h.eq
 rw [List.length_append,Fj,Fj,List.length_take,h.len] at this
 have h1:=h.i0;have h2:=h.i1
 omega
theorem Nx.next {c:UInt8}{s:As}{i:Int}{r:As}{xs:List As}(h:Nx c s i r xs){m:Int}(hm:Lib.indexByte r c=m)(h0:¬ m < 0):0≤m∧m < r.length∧Nx c s (i+1) (r.drop (m+1).toNat) (xs.set i.toNat (r.take m.toNat)):=by
 have hi:=h.i0
 rcases Lz c r with ⟨e,_⟩ | ⟨j,e,h1,h2,h3⟩
 ·omega
 ·obtain rfl:m=j:=by omega
  have hl:=h.left
  have hp:=Tx h2 h3
  have hc:(pieces c r).length=(pieces c (r.drop (j+1))).length+1:=by rw [hp];simp
  rw [Fj,Fj] at hc
  have hx:=h.len
  refine⟨by omega,by omega,by omega,by omega,by simp [hx],?_,by simp;have:=h.rl;omega⟩
  rw [h.eq,hp,show(i+1).toNat=i.toNat+1 by omega,show((j:Int)+1).toNat=j+1 by omega,show((j:Int)).toNat=j by omega,List.take_add_one,List.getElem?_set_self (by omega),List.take_set_of_le (by omega)]
  simp
theorem Nx.done {c:UInt8}{s:As}{i:Int}{r:As}{xs:List As}(h:Nx c s i r xs)(he:¬ i < (s.count c:Int)∨Lib.indexByte r c < 0):i=s.count c∧(xs.set i.toNat r).take (i+1).toNat=pieces c s:=by
 have hi:=h.i0;have hi1:=h.i1;have hl:=h.left;have hx:=h.len
 have hc:c ∉ r:=by
  rcases he with he | he
  ·intro hm;have:=List.count_pos_iff.2 hm;omega
  ·rcases Lz c r with ⟨_,h2⟩ | ⟨j,e,_⟩
   ·exact h2
   ·omega
 have h0:r.count c=0:=List.count_eq_zero.2 hc
 refine⟨by omega,?_⟩
 rw [h.eq,K1 hc,show(i+1).toNat=i.toNat+1 by omega,List.take_add_one,List.getElem?_set_self (by omega),List.take_set_of_le (by omega)]
 rfl
theorem Ib {c:UInt8}:∀ {s:As} {p:As},p∈pieces c s→p.length≤s.length
 | [],p,h=>by simp [pieces] at h;simp [h]
 | x :: r,p,h=>by
  unfold pieces at h
  obtain⟨q,t,hq⟩:=List.exists_cons_of_ne_nil (Qe c r)
  have ih:=@Ib c r
  rw [hq] at h ih
  split at h
  ·rcases List.mem_cons.1 h with h | h
   ·simp [h]
   ·have:=ih h;simp;omega
  ·simp only [List.headD_cons,List.tail_cons] at h
   rcases List.mem_cons.1 h with h | h
   ·have:=ih (p:=q) (by simp);rw [h];simp;omega
   ·have:=ih (p:=p) (by simp [h]);simp;omega
theorem Wn {c:UInt8}{s:As}(i:Nat):((pieces c s).getD i []).length≤s.length:=by
 rw [List.getD_eq_getElem?_getD]
 cases h:(pieces c s)[i]? with
 | none=>simp
 | some p=>exact Ib (List.mem_of_getElem? h)
def Jh (s:As)(k:Nat):List As:=(((pieces 32 s).take k).filter fun w=>!decide (w = [])).map low
theorem OV (s:As):words s=Jh s ((pieces 32 s).length:Int).toNat:=by
 rw [Jh,show((pieces 32 s).length:Int).toNat=(pieces 32 s).length by omega,List.take_length];rfl
theorem QE {α:Type}{xs:List α}{d:α}{k:Int}(h0:0≤k)(h1:k < xs.length):xs.take (k+1).toNat=xs.take k.toNat ++ [xs.getD k.toNat d]:=by
 have hk:k.toNat < xs.length:=by omega
 rw [show(k+1).toNat=k.toNat+1 by omega,List.take_add_one,List.getD_eq_getElem?_getD,List.getElem?_eq_getElem hk]
 rfl
theorem XI {s:As}{k:Int}(h0:0≤k)(h1:k < (pieces 32 s).length)(h:(!decide ((pieces 32 s).getD k.toNat [] = []))=true):Jh s (k+1).toNat=Jh s k.toNat ++ [low ((pieces 32 s).getD k.toNat [])]:=by
 unfold Jh
 rw [QE (d:= []) h0 h1,List.filter_append,List.map_append]
 congr 1
 rw [List.filter_cons_of_pos (p:=fun w:As=>!decide (w = [])) h];rfl
theorem XX {s:As}{k:Int}(h0:0≤k)(h1:k < (pieces 32 s).length)(h:(!decide ((pieces 32 s).getD k.toNat [] = []))=false):Jh s (k+1).toNat=Jh s k.toNat:=by
 unfold Jh
 rw [QE (d:= []) h0 h1,List.filter_append,List.map_append,List.filter_cons_of_neg (p:=fun w:As=>!decide (w = [])) (by rw [h];decide)]
 simp
/-! #### verbs -/
def pre (s p:As):Bool:=decide ((p.length:Int)≤(s.length:Int)) && decide (s.take p.length=p)
def J1 (w:As):Nat→Int × Int
 | 0=>(0,3)
 | n+1=>if pre (AI.G2.getD (20 - n) []) w=true then(((20 - n:Nat):Int),0) else J1 w n
def verb (w:As):Int × Int:=if (!decide (w = []))=true then J1 w 21 else(0,3)
theorem TL {w:As}{k:Int}(h0:0≤k)(h1:k < 21):J1 w (21 - k).toNat=if pre (AI.G2.getD k.toNat []) w=true then(k,0) else J1 w (21 - (k+1)).toNat:=by
 rw [show(21 - k).toNat=(21 - (k+1)).toNat+1 by omega,J1,show 20 - (21 - (k+1)).toNat=k.toNat by omega,show((k.toNat:Nat):Int)=k by omega]
def au:Vector As 21:=⟨AI.G2.toArray,rfl⟩
theorem Tb:CM A9 au=AI.DT:=by kernel_rfl
/-! #### cutting and trimming -/
def NO (s p:As):As × Bool:=if (!pre s p)=true then(s,false) else(s.drop p.length,true)
def cut (c:UInt8)(s:As):As × As × Bool:=if decide (0≤Lib.indexByte s c)=true then(s.take (Lib.indexByte s c).toNat,s.drop (Lib.indexByte s c+1).toNat,true) else(s,[],false)
theorem bO {c:UInt8}{s:As}(h:0≤Lib.indexByte s c):Lib.indexByte s c < s.length:=by
 rcases Lz c s with ⟨e,_⟩ | ⟨i,e,h1,_⟩<;>omega
theorem Nf (c:UInt8)(s:As):(cut c s).1.length≤s.length∧(cut c s).2.1.length≤s.length:=by
 unfold cut;split<;>simp;omega
def Pe (c:UInt8)(s:As):As:=s.dropWhile (·== c)
def Rn (c:UInt8)(s:As):As:=(s.reverse.dropWhile (·== c)).reverse
theorem aI {x c:UInt8}(h:(x.toNat:Int)=(c.toNat:Int)):x=c:=UInt8.toNat_inj.1 (by omega)
theorem dT {c:UInt8}{r:As}(h:(decide ((0:Int) < (r.length:Int)) && decide (((r.getD (0:Int).toNat 0).toNat:Int)=(c.toNat:Int)))=true):Pe c r=Pe c (r.drop 1):=by
 cases r with
 | nil=>simp at h
 | cons x r=>
  simp only [Bool.and_eq_true,decide_eq_true_eq] at h
  have:x=c:=aI h.2
  subst this
  simp [Pe]
theorem db {c:UInt8}{r:As}(h:(decide ((0:Int) < (r.length:Int)) && decide (((r.getD (0:Int).toNat 0).toNat:Int)=(c.toNat:Int)))=false):Pe c r=r:=by
 cases r with
 | nil=>rfl
 | cons x r=>
  have hx:(x == c)=false:=by
   rw [Bool.eq_false_iff]
   intro e
   have:x=c:=by simpa using e
   subst this
   simp at h
  simp [Pe,hx]
theorem cD {c:UInt8}{r:As}(h:(decide ((0:Int) < (r.length:Int)) && decide (((r.getD ((r.length:Int) - 1).toNat 0).toNat:Int)=(c.toNat:Int)))=true):Rn c r=Rn c (r.take ((r.length:Int) - 1).toNat):=by
 simp only [Bool.and_eq_true,decide_eq_true_eq] at h
 have hne:r≠ []:=by rintro rfl;simp at h
 obtain⟨q,x,rfl⟩:∃ q x,r=q ++ [x]:=⟨r.dropLast,r.getLast hne,(List.dropLast_concat_getLast hne).symm⟩
 have e:(((q ++ [x]).length:Int) - 1).toNat=q.length:=by simp
 rw [e] at h ⊢
 have:x=c:=aI (by simpa [List.getD_eq_getElem?_getD] using h.2)
 subst this
 simp [Rn]
theorem cB {c:UInt8}{r:As}(h:(decide ((0:Int) < (r.length:Int)) && decide (((r.getD ((r.length:Int) - 1).toNat 0).toNat:Int)=(c.toNat:Int)))=false):Rn c r=r:=by
 by_cases hne:r = []
 ·subst hne;rfl
 ·obtain⟨q,x,rfl⟩:∃ q x,r=q ++ [x]:=⟨r.dropLast,r.getLast hne,(List.dropLast_concat_getLast hne).symm⟩
  have e:(((q ++ [x]).length:Int) - 1).toNat=q.length:=by simp
  rw [e] at h
  have hx:(x == c)=false:=by
   rw [Bool.eq_false_iff]
   intro e
   have:x=c:=by simpa using e
   subst this
   simp [List.getD_eq_getElem?_getD] at h
  simp [Rn,hx]
theorem Lw (c:UInt8)(s:As):(Pe c s).length≤s.length:=(List.dropWhile_sublist _).length_le
theorem RJ (c:UInt8)(s:As):(Rn c s).length≤s.length:=by
 have:=(List.dropWhile_sublist (l:=s.reverse) (·== c)).length_le
 simpa [Rn] using this
/-! #### the rest of an order -/
def many (z:Int):Bool:=decide (z=7) || decide (z=8) || decide (z=9)
def OZ (z:Int):As × Bool:=if decide (z=7)=true then([102,114,111,109],false) else if decide (z=9)=true then([105,110],true) else if decide (z=10)=true then([116,111],true) else([],false)
def Ov (s:As):Nat→Int × Bool
 | 0=>(0,false)
 | n+1=>if decide (AI.G2.getD (5 - n) []=s)=true then(((5 - n:Nat):Int),true) else Ov s n
def dir (s:As):Int × Bool:=Ov s 6
theorem Wt {s:As}{k:Int}(h0:0≤k)(h1:k < 6):Ov s (6 - k).toNat=if decide (AI.G2.getD k.toNat []=s)=true then(k,true) else Ov s (6 - (k+1)).toNat:=by
 rw [show(6 - k).toNat=(6 - (k+1)).toNat+1 by omega,Ov,show 5 - (6 - (k+1)).toNat=k.toNat by omega,show((k.toNat:Nat):Int)=k by omega]
/-! #### nouns -/
def Pj (k rest:As):Int × As × Bool × Int:=
 match Lib.atoiAll k with
 | .ok n=>if (decide (n < 1) || decide (99 < n) || decide (((k.getD (0:Int).toNat 0).toNat:Int) < 49) || decide (57 < ((k.getD (0:Int).toNat 0).toNat:Int)) || decide (rest = []) || decide (0≤Lib.indexByte rest 46))=true then(0,[],false,1) else(n,rest,false,0)
 | _=>(0,[],false,1)
theorem U5 {k rest:As}{n:Int}(h:Lib.atoiAll k = .ok n):Pj k rest=if (decide (n < 1) || decide (99 < n) || decide (((k.getD (0:Int).toNat 0).toNat:Int) < 49) || decide (57 < ((k.getD (0:Int).toNat 0).toNat:Int)) || decide (rest = []) || decide (0≤Lib.indexByte rest 46))=true then(0,[],false,1) else(n,rest,false,0):=by
 unfold Pj;rw [h]
theorem W3 {k rest:As}(h:∀ j,Lib.atoiAll k≠ .ok j):Pj k rest=(0,[],false,1):=by
 unfold Pj
 split
 ·rename_i n e;exact absurd e (h n)
 ·rfl
theorem Si {k:As}{n:Int}(h:Lib.atoiAll k = .ok n):0 < k.length:=by
 cases k with
 | nil=>simp [Lib.atoiAll] at h
 | cons x r=>simp
def ER (u:As):Int × As × Bool × Int:=
 if decide (u = [97,108,108])=true then(1,[],true,0)
 else if ((NO u [97,108,108,46]).2 && !decide ((NO u [97,108,108,46]).1 = []) && !decide (0≤Lib.indexByte (NO u [97,108,108,46]).1 46))=true then(1,(NO u [97,108,108,46]).1,true,0)
 else if (!(cut 46 u).2.2)=true then(if decide (u = [])=true then(0,[],false,1) else(1,u,false,0))
 else Pj (cut 46 u).1 (cut 46 u).2.1
/-! #### orders -/
theorem QA (u:As):∀ n,n≤21→0≤(J1 u n).1∧(J1 u n).1≤20
 | 0,_=>by simp [J1]
 | n+1,h=>by
  unfold J1
  split
  ·simp only;omega
  ·exact QA u n (by omega)
theorem Xc (u:As):0≤(verb u).1∧(verb u).1≤20:=by
 unfold verb;split
 ·exact QA u 21 (Nat.le_refl _)
 ·simp
def said (s:As):As:=Pe 32 (Rn 32 (cut 32 (Pe 32 s)).2.1)
def o0 (v:Int):Order:={ (default:Order) with verb:=v }
def Qz (o:Order)(j:As × Bool)(W:List As)(m:Nat):Order × Int:=
 if (decide ((m:Int)=0) && !j.2)=true then(o,0)
 else if (!decide ((m:Int)=1) || decide (j.1 = []))=true then(default,1)
 else({ o with second:=W.getD 0 [] },0)
def UU (o:Order)(j:As × Bool)(W:List As)(m:Nat):Order × Int:=
 if (decide (0 < (m:Int)) && !decide (j.1 = []) && decide (W.getD 0 []=j.1))=true then(if decide (((m - 1:Nat):Int)=0)=true then(default,1) else Qz o j (W.drop 1) (m - 1))
 else Qz o j W m
def Rm (v:Int)(W:List As)(m:Nat):Order × Int:=
 if (!decide ((ER (W.getD 0 [])).2.2.2=0) || ((ER (W.getD 0 [])).2.2.1 && !many v))=true then(default,1)
 else UU ⟨v,(ER (W.getD 0 [])).1,(ER (W.getD 0 [])).2.2.1,(ER (W.getD 0 [])).2.1,[],[]⟩ (OZ v) (W.drop 1) (m - 1)
def XM (s:As)(v:Int)(W:List As)(m:Nat):Order × Int:=
 if decide (v=11)=true then(if decide (said s = [])=true then(default,1) else(⟨v,0,false,[],[],said s⟩,0))
 else if (decide (v≤6) || decide (19≤v))=true then(if decide (0 < (m:Int))=true then(default,1) else(o0 v,0))
 else if decide ((m:Int)=0)=true then(default,1)
 else if (decide (v=12) || decide (v=13))=true then
  (if (decide ((verb (W.getD 0 [])).2=0) && decide ((verb (W.getD 0 [])).1 < 6) && decide ((m:Int)=1))=true then(⟨v,1,false,AI.G2.getD (verb (W.getD 0 [])).1.toNat [],[],[]⟩,0) else Rm v W m)
 else Rm v W m
def parse (s:As):Order × Int:=
 if decide (((words s).length:Int)=0)=true then(default,1)
 else if (!decide ((verb ((words s).getD 0 [])).2=0))=true then(default,(verb ((words s).getD 0 [])).2)
 else XM s (verb ((words s).getD 0 [])).1 ((words s).drop 1) ((words s).length - 1)
theorem Zl (w:As):(low w).length=w.length:=by simp [low]
theorem XP (s:As)(i:Nat):((words s).getD i []).length≤s.length:=by
 rw [List.getD_eq_getElem?_getD]
 cases h:(words s)[i]? with
 | none=>simp
 | some p=>
  have hm:=List.mem_of_getElem? h
  unfold words at hm
  obtain⟨q,hq,rfl⟩:=List.mem_map.1 hm
  rw [Option.getD_some,Zl]
  exact Ib (List.mem_filter.1 hq).1
theorem MZ (s:As)(i j:Nat):(((words s).drop j).getD i []).length≤s.length:=by
 rw [List.getD_eq_getElem?_getD,List.getElem?_drop,← List.getD_eq_getElem?_getD];exact XP s _
end Words
end Go.Ing
/- What people type: plain laws. -/
namespace Go.Ing
open Go
namespace Words
/-! #### a shorter beginning -/
/-! #### what is parsed is good -/
structure Z3 (o:Order):Prop where
 v0:0≤o.verb
 v1:o.verb≤20
 n0:0≤o.nth
 n1:o.nth≤99
 al:o.Bn=true→o.verb=7∨o.verb=8∨o.verb=9
 tx:o.text≠ []↔o.verb=11
 s1:o.second = []∨o.verb=7∨o.verb=9∨o.verb=10
 s2:o.second≠ []∨(o.verb≠9∧o.verb≠10)
def Iq (r:Order × Int):Prop:=(r.2=0→Z3 r.1)∧(r.2≠0→r.1=default)
theorem Iq.bad (e:Int)(he:e≠0):Iq (default,e):=⟨fun h=>absurd h he,fun _=>rfl⟩
theorem Iq.ok {o:Order}(h:Z3 o):Iq (o,0):=⟨fun _=>h,fun h=>absurd rfl h⟩
theorem Vc (k r:As):(Pj k r).2.2.2=0→0≤(Pj k r).1∧(Pj k r).1≤99:=by
 unfold Pj
 split
 ·split
  ·intro h;simp at h
  ·rename_i c
   intro _
   simp only [Bool.or_eq_true,decide_eq_true_eq,not_or] at c
   show 0≤_∧_≤99
   exact⟨by simp only;omega,by simp only;omega⟩
 ·intro h;simp at h
theorem WC (u:As):(ER u).2.2.2=0→0≤(ER u).1∧(ER u).1≤99:=by
 unfold ER
 split
 ·intro _;simp
 ·split
  ·intro _;simp
  ·split
   ·split
    ·intro h;simp at h
    ·intro _;simp
   ·exact Vc _ _
/-! #### spaces ahead and behind -/
def Cs:As→As
 | []=> []
 | x :: r=>if x=32 then r else Cs r
end Words
end Go.Ing
/- Verbs and nouns as the document has them. -/
namespace Go.Ing
open Go
namespace Words
/-! #### nouns -/
end Words
end Go.Ing
/- Orders as the document has them. -/
namespace Go.Ing
open Go
namespace Words
/-! #### what is said -/
/-! #### orders -/
def alone (v:Int):Bool:=decide (v < 7) || decide (18 < v)
end Words
end Go.Ing
/- The program's data, in Lean, and their parts. -/
namespace Go.Ing
open Go
structure Ag where
 w:AI
 b:Int
 out:Hd
instance:Inhabited Ag:=⟨⟨default,0,⟨none,0,0⟩⟩⟩
def Ag.enc (x:Ag):List Value:=AI.enc x.w++A0 x.b++En x.out
theorem Ag.fl:Flat Ag.enc 167:=⟨fun x=>by simp [Ag.enc,AI.fl.len,Pb.len,B5.len],fun x v hv=>by
 simp only [Ag.enc,List.mem_append] at hv
 rcases hv with (h | h) | h
 ·exact AI.fl.one _ v h
 ·exact B5.one _ v h
 ·exact Pb.one _ v h⟩
theorem Ag.l0:AQ Ag.enc (AI.enc) 0 165 (fun x=>x.w) (fun x y=>{ x with w:=y }):=
 AQ.Eo AI.fl (fun _=> []) (fun x=>A0 x.b++En x.out) (fun _=>rfl) (fun x=>by simp [Ag.enc]) (fun x y=>by simp [Ag.enc])
theorem Ag.l1:AQ Ag.enc (A0) 165 1 (fun x=>x.b) (fun x y=>{ x with b:=y }):=
 AQ.Eo B5 (fun x=>AI.enc x.w) (fun x=>En x.out) (fun x=>by simp [AI.fl.len]) (fun x=>by simp [Ag.enc]) (fun x y=>by simp [Ag.enc])
theorem Ag.l2:AQ Ag.enc (En) 166 1 (fun x=>x.out) (fun x y=>{ x with out:=y }):=
 AQ.Eo Pb (fun x=>AI.enc x.w++A0 x.b) (fun _=> []) (fun x=>by simp [AI.fl.len,B5.len]) (fun x=>by simp [Ag.enc]) (fun x y=>by simp [Ag.enc])
end Go.Ing
/- What comes of what beings do: plain functions. -/
namespace Go.Ing
open Go
structure AF where
 w:AI
 b:Int
 out:List Event
namespace AF
def F8 (k:Int):Event:=⟨k,0,0,-1,0,0,[],[],[],[],default⟩
def me (T:AF):An:=T.w.AN.at T.b
def XY (T:AF)(e:Event):Event:={ e with Dj:=T.b,HZ:=T.me.name,room:=T.me.room }
def Du (T:AF)(e:Event):Event:=if decide (0≤e.other)=true then { T.XY e with Ea:=(T.w.AN.at e.other).name } else T.XY e
def BS (T:AF)(e:Event):AF:={ T with out:=T.out ++ [T.w.H2 (T.Du e) 6] }
def kind (T:AF)(k:Int):AF:=T.BS (F8 k)
def Bw (T:AF)(k i:Int):AF:=T.BS { F8 k with Bw:=(T.w.AP.at i).name }
def tell (T:AF)(s:As):AF:=T.BS { F8 16 with text:=s }
@[simp] theorem bh (T:AF) (e:Event):(T.BS e).w=T.w:=rfl
@[simp] theorem bj (T:AF) (e:Event):(T.BS e).b=T.b:=rfl
@[simp] theorem Cf (T:AF) (e:Event):(T.BS e).out.length=T.out.length+1:=by simp [BS]
@[simp] theorem eB (T:AF) (s:As):(T.tell s).w=T.w:=rfl
@[simp] theorem ew (T:AF) (s:As):(T.tell s).b=T.b:=rfl
@[simp] theorem CI (T:AF) (s:As):(T.tell s).out.length=T.out.length+1:=by simp [tell]
/-! #### lists -/
def IN (w:AI):As→List Int→As
 | s,[]=>s
 | s,i :: r=>IN w (if (w.AP.at i).on=true then s ++ [32]++(w.AP.at i).name ++ [42] else s ++ [32]++(w.AP.at i).name) r
def SR (w:AI)(s:As)(l:List Int):As:=if decide ((l.length:Int)=0)=true then IN w s l ++ [32,110,111,116,104,105,110,103] else IN w s l
def list (T:AF)(s:As)(l:List Int):AF:=T.tell (SR T.w s l ++ [46])
/-! #### what is about -/
def I9 (r:Room):Nat→As
 | 0=> [87,97,121,115,58]
 | d+1=>if decide (r.CV.at (d:Int)=0)=true then I9 r d else if r.shut.at (d:Int)=true then I9 r d++([32]++AI.called d) ++ [42] else I9 r d++([32]++AI.called d)
def Fq (T:AF):Nat→AF
 | 0=>T
 | k+1=>if (!decide ((k:Int)=T.b) && T.w.I2 T.b k)=true then(Fq T k).tell ((T.w.AN.at k).name ++ [32,105,115,32,104,101,114,101,46]) else Fq T k
def Mt:As:= [73,116,32,105,115,32,100,97,114,107,46]
def KH (T:AF):AF:=
 ((T.tell ([84,104,101,32]++(T.w.BV.at T.me.room).name ++ [46])).tell (I9 (T.w.BV.at T.me.room) 6))
def EF (T:AF):AF:=if decide (0 < ((T.w.has 0 T.me.room).length:Int))=true then T.KH.list [72,101,114,101,32,105,115] (T.w.has 0 T.me.room) else T.KH
def look (T:AF):AF:=if (!T.w.Hf T.me.room)=true then T.tell Mt else Fq T.EF 6
def XW:As:= [89,111,117,32,99,97,110,110,111,116,32,103,111,32,116,104,101,114,101,46]
def UX:As:= [73,116,32,105,115,32,115,104,117,116,46]
def GN (T:AF)(r:Int):AF:={ T with w:={ T.w with AN:=T.w.AN.put T.b { T.me with room:=r,B2:=0 } } }
def walk (T:AF)(d:Int):AF:=
 if decide ((T.w.BV.at T.me.room).CV.at d=0)=true then T.tell XW
 else if (T.w.BV.at T.me.room).shut.at d=true then T.tell UX
 else(((T.BS { F8 1 with dir:=d }).GN ((T.w.BV.at T.me.room).CV.at d - 1)).BS { F8 2 with dir:=AI.opposite d }).look
/-! #### things that are meant -/
def Ji (w:AI)(name:As)(l:List Int):List Int:=l.filter fun i=>decide (name = []) || decide ((w.AP.at i).name=name)
def BT (w:AI)(l:List Int)(nth:Int)(name:As)(all:Bool):List Int:=
 if all=true then Ji w name l
 else if (decide (nth < 1) || decide (((Ji w name l).length:Int) < nth))=true then []
 else((Ji w name l).take nth.toNat).drop (nth - 1).toNat
def seen (T:AF):List Int:=if (!T.w.Hf T.me.room)=true then [] else T.w.has 0 T.me.room
def own (T:AF):List Int:=T.w.has 1 T.b
def one (T:AF)(u:As):Int × Bool:=
 if (!decide ((Words.ER u).2.2.2=0) || (Words.ER u).2.2.1)=true then(0,false)
 else if decide (((BT T.w (T.own++T.seen) (Words.ER u).1 (Words.ER u).2.1 false).length:Int)=0)=true then(0,false)
 else((BT T.w (T.own++T.seen) (Words.ER u).1 (Words.ER u).2.1 false).getD 0 0,true)
def Km:As:= [84,104,101,114,101,32,105,115,32,110,111,32,115,117,99,104,32,116,104,105,110,103,46]
def PD:As:= [89,111,117,32,104,97,118,101,32,110,111,32,115,117,99,104,32,116,104,105,110,103,46]
def Oh:As:= [84,104,101,114,101,32,105,115,32,110,111,98,111,100,121,32,111,102,32,116,104,97,116,32,110,97,109,101,46]
def dm:As:= [89,111,117,32,119,101,97,114,32,105,116,46]
def Z2:As:= [84,104,97,116,32,99,97,110,110,111,116,32,98,101,46]
def aV:As:= [73,116,32,105,115,32,115,111,46]
def Q0:As:= [89,111,117,32,102,105,103,104,116,46]
def box (T:AF)(u:As):AF × Int × Bool:=
 if (!(T.one u).2 || !decide ((T.w.AP.at (T.one u).1).kind=3))=true then(T.tell Km,0,false)
 else if (!(T.w.AP.at (T.one u).1).on)=true then(T.tell UX,0,false)
 else(T,(T.one u).1,true)
def DC (T:AF)(i:Int)(t:Ap):AF:={ T with w:={ T.w with AP:=T.w.AP.put i t } }
def place (T:AF)(i Ca at_:Int):AF:=T.DC i { T.w.AP.at i with Ca:=Ca,at_:=at_ }
def DI (T:AF):List Int→AF
 | []=>T
 | i :: r=>DI ((T.place i 1 T.b).Bw 3 i) r
def Ku (T:AF)(l:List Int)(o:Order):AF:=DI (if decide (((BT T.w l o.nth o.name o.Bn).length:Int)=0)=true then T.tell Km else T) (BT T.w l o.nth o.name o.Bn)
def get (T:AF)(o:Order):AF:=
 if (!decide (o.second = []))=true then
  (if (!(T.box o.second).2.2)=true then(T.box o.second).1 else(T.box o.second).1.Ku ((T.box o.second).1.w.has 2 (T.box o.second).2.1) o)
 else T.Ku T.seen o
def Il (T:AF)(name:As):Nat→Int→Option Int
 | 0,_=>none
 | r+1,n=>if (decide (((6 - (r+1):Nat):Int)=T.b) || !decide ((T.w.AN.at ((6 - (r+1):Nat):Int)).name=name) || !T.w.I2 T.b ((6 - (r+1):Nat):Int))=true then Il T name r n else if decide (n - 1=0)=true then some ((6 - (r+1):Nat):Int) else Il T name r (n - 1)
def BA (T:AF)(u:As):AF × Int × Bool:=
  if (decide ((Words.ER u).2.2.2=0) && !(Words.ER u).2.2.1)=true then
    (match Il T (Words.ER u).2.1 6 (Words.ER u).1 with
     | some k=>(T,k,true)
     | none=>(T.tell Oh,0,false))
  else(T.tell Oh,0,false)
def Cu (T:AF)(v to i:Int):AF:=
 if (decide ((T.w.AP.at i).kind=2) && (T.w.AP.at i).on)=true then T.tell dm
 else if decide (v=8)=true then(T.place i 0 T.me.room).Bw 4 i
 else if decide (v=10)=true then(T.place i 1 to).BS { F8 6 with other:=to,Bw:=(T.w.AP.at i).name }
 else if T.w.Tt to i=true then T.tell Z2
 else(T.place i 2 to).BS { F8 5 with Bw:=(T.w.AP.at i).name,text:=(T.w.AP.at to).name }
def Eu (T:AF)(v to:Int):List Int→AF
 | []=>T
 | i :: r=>Eu (T.Cu v to i) v to r
def SG (T:AF)(to:Int)(o:Order):AF:=Eu (if decide (((BT T.w T.own o.nth o.name o.Bn).length:Int)=0)=true then T.tell PD else T) o.verb to (BT T.w T.own o.nth o.name o.Bn)
def Cx (T:AF)(o:Order):AF × Int × Bool:=if decide (o.verb=9)=true then T.box o.second else if decide (o.verb=10)=true then T.BA o.second else(T,0,true)
def FM (T:AF)(o:Order):AF:=if (!(T.Cx o).2.2)=true then(T.Cx o).1 else(T.Cx o).1.SG (T.Cx o).2.1 o
def Cj (T:AF)(b f:Int):AF:={ T with w:={ T.w with AN:=T.w.AN.put b { T.w.AN.at b with B2:=f } } }
def FC (T:AF)(o:Order):AF:=
 if (!(T.BA (if (!decide (o.nth=1) || o.Bn)=true then [] else o.name)).2.2)=true then(T.BA (if (!decide (o.nth=1) || o.Bn)=true then [] else o.name)).1
 else
  let k:=(T.BA (if (!decide (o.nth=1) || o.Bn)=true then [] else o.name)).2.1
  let T1:=(T.BA (if (!decide (o.nth=1) || o.Bn)=true then [] else o.name)).1.Cj (T.BA (if (!decide (o.nth=1) || o.Bn)=true then [] else o.name)).1.b (k+1)
  (if decide ((T1.w.AN.at k).B2=0)=true then T1.Cj k ((T.BA (if (!decide (o.nth=1) || o.Bn)=true then [] else o.name)).1.b+1) else T1).tell Q0
/-! #### what is set -/
def before (T:AF)(first:Bool)(i:Int)(on:Bool)(ev:Int):AF:=
 if first=true then(T.DC i { T.w.AP.at i with on:=on }).Bw ev i
 else(T.Bw ev i).DC i { T.w.AP.at i with on:=on }
def DA (T:AF)(r d:Int)(v:Bool):AF:={ T with w:={ T.w with BV:=T.w.BV.put r { T.w.BV.at r with shut:=(T.w.BV.at r).shut.put d v } } }
def QB:As:= [100,111,111,114]
def G7 (T:AF)(d:Int)(on:Bool)(ev:Int):AF:=
 if decide ((T.w.BV.at T.me.room).CV.at d - 1 < 0)=true then T.tell Km
 else if ((T.w.BV.at T.me.room).shut.at d != on)=true then T.tell aV
 else
  let to:=(T.w.BV.at T.me.room).CV.at d - 1
  let T1:=T.DA T.me.room d (!on)
  (if decide ((T1.w.BV.at to).CV.at (AI.opposite d)=T.me.room+1)=true then T1.DA to (AI.opposite d) (!on) else T1).BS { F8 ev with Bw:=QB }
def Hc (v:Int):Bool:=decide (v=12) || decide (v=14) || decide (v=16)
def setKind (v:Int):Int:=if (decide (v=14) || decide (v=15))=true then 1 else if (decide (v=16) || decide (v=17))=true then 2 else 3
def O6 (v:Int):Int:=v - 4
def EZ (T:AF)(o:Order):List Int:=BT T.w (if decide (setKind o.verb=3)=true then T.own++T.seen else T.own) (max o.nth 1) o.name false
def set (T:AF)(o:Order):AF:=
 if ((Words.dir o.name).2 && decide (setKind o.verb=3))=true then T.G7 (Words.dir o.name).1 (Hc o.verb) (O6 o.verb)
 else if (decide (((T.EZ o).length:Int)=0) || !decide ((T.w.AP.at ((T.EZ o).getD 0 0)).kind=setKind o.verb))=true then T.tell Km
 else if ((T.w.AP.at ((T.EZ o).getD 0 0)).on == Hc o.verb)=true then T.tell aV
 else if Hc o.verb=true then T.before (!decide (setKind o.verb=2)) ((T.EZ o).getD 0 0) (Hc o.verb) (O6 o.verb)
 else T.before (decide (setKind o.verb=2)) ((T.EZ o).getD 0 0) (Hc o.verb) (O6 o.verb)
/-! #### who is gone -/
def E8 (T:AF)(i:Int):AF:=T.DC i { T.w.AP.at i with on:=if decide ((T.w.AP.at i).kind=2)=true then false else(T.w.AP.at i).on,Ca:=0,at_:=T.me.room }
def Cd (T:AF):List Int→AF
 | []=>T
 | i :: r=>Cd (T.E8 i) r
def DW (T:AF):Nat→AF
 | 0=>T
 | k+1=>if decide (((DW T k).w.AN.at (k:Int)).B2=T.b+1)=true then(DW T k).Cj k 0 else DW T k
def FH (T:AF):AF:=(DW (T.Cd T.own) 6).Cj T.b 0
def DX (T:AF)(b:Int)(x:An):AF:={ T with w:={ T.w with AN:=T.w.AN.put b x } }
def G3 (T:AF):AF:=(T.kind 18).FH.DX T.b default
/-! #### what a being does -/
def act (T:AF)(o:Order):AF:=
 if decide (o.verb < 6)=true then T.walk o.verb
 else if decide (o.verb=6)=true then T.look
 else if decide (o.verb=19)=true then T.list [89,111,117,32,104,97,118,101] (T.w.has 1 T.b)
 else if decide (o.verb=11)=true then T.BS { F8 7 with text:=o.text }
 else if decide (o.verb=20)=true then T.G3
 else if decide (o.verb=18)=true then T.FC o
 else if decide (o.verb=7)=true then T.get o
 else if (decide (o.verb=8) || decide (o.verb=9) || decide (o.verb=10))=true then T.FM o
 else T.set o
def Dr (X:AI)(b:Int)(o:Order):AI × List Event × Int:=
 if (!X.Bk)=true then(X,[],2)
 else if (decide (b < 0) || decide (6≤b) || !(X.AN.at b).here)=true then(X,[],3)
 else if (decide (o.verb < 0) || decide (20 < o.verb))=true then(X,[],5)
 else((AF.act ⟨X,b,[]⟩ o).w,(AF.act ⟨X,b,[]⟩ o).out,0)
end AF
end Go.Ing
/- Engine: the program's own variables, beside what is handed on. -/
namespace Go.Ing
open Go
section
variable {w0 w:World} {M:List Nat} {L A K:List Af} {g:Nat} {vs:List Value}
theorem GV.lt (h:GV g vs w):g < w.heap.size:=by
 obtain⟨t,fz,e⟩:=h
 rcases Nat.lt_or_ge g w.heap.size with h' | h'
 ·exact h'
 ·rw [Array.getElem?_eq_none h'] at e;cases e
theorem GV.stM (h:GV g vs w0)(hM:g ∉ M)(hS:St w0 M w L):GV g vs w:=by
 have hg:=h.lt
 obtain⟨t,fz,e⟩:=h
 exact⟨t,fz,(hS.HJ g hg hM).trans e⟩
theorem Oc (hg:g < w0.heap.size)(hM:g ∉ M)(hS:St w0 M w L)(hp:Ax L A K):g ∉ Cp A:=by
 intro hf
 obtain⟨r,hr,hb⟩:=List.mem_flatMap.1 hf
 have hm:r∈L:=hp.perm.symm.subset (List.mem_append_left _ hr)
 exact hM ((hS.CY r hm g hb).2 hg)
theorem GV.pull (h:GV g vs w0)(hM:g ∉ M)(hS:St w0 M w L)(hp:Ax L A K):GV g vs w∧g ∉ Cp A:=⟨h.stM hM hS,Oc h.lt hM hS hp⟩
theorem HI.stM (h:HI g w0)(hM:g ∉ M)(hS:St w0 M w L):HI g w:=by
 obtain⟨tp,p,h⟩:=h;exact⟨tp,p,h.stM hM hS⟩
theorem HI.pull (h:HI g w0)(hM:g ∉ M)(hS:St w0 M w L)(hp:Ax L A K):HI g w∧g ∉ Cp A:=by
 obtain⟨tp,p,h⟩:=h;exact⟨⟨tp,p,h.stM hM hS⟩,Oc h.lt hM hS hp⟩
end
section
variable {P:Program} {n:Nat} {w0:World} {M:List Nat} {Q:Exit→Go.Act→World→Prop} {F F':List (Nat × Value)} {L L':List Af} {ops:Array Oper} {rest:List Oper}
theorem Ty {α:Type}{e:α→List Value}{d T U E sz:Nat}{x y z:Operand}{pos:String}{Cs:Array Edge}{h:Hd}{xs:List α}{kd kz:IntKind}{i j:Int}{Lf:Af→List Af}(fe:Flat e sz)(hd:Nat.blt d n=true)(hT:P.underlying T=some (.slice E))(hs:Sz P E sz)(hx:ev F x=some h.val)(hy:ev F y=some (.int kd i))(hz:ev F z=some (.int kz j))(h0:0≤i)(h1:i≤j)(h2:j≤(h.len:Int))(hU:∀ r,LZ L (Af.own h E sz (xs.flatMap e)) r (Lf r))
  (k:GL P n w0 M ops Q rest ((d,(h.cut i.toNat j.toNat sz).val) :: F) (Lf (Af.own (h.cut i.toNat j.toNat sz) E sz (((xs.take j.toNat).drop i.toNat).flatMap e)))):GL P n w0 M ops Q (⟨some d, .slice T x (some y) (some z) none,U,pos,Cs,none⟩ :: rest) F L:=by
 refine F9 (R:=fun v L'=>v=(h.cut i.toNat j.toNat sz).val∧L'=Lf (Af.own (h.cut i.toNat j.toNat sz) E sz (((xs.take j.toNat).drop i.toNat).flatMap e))) hd ?_ (fun v L' ⟨e1,e2⟩=>by subst e1;subst e2;exact k)
 intro a w hF hS
 have hok:=hS.ok _ (hU ⟨[],fun _=>True,fun _ _ _ _=>trivial⟩).mem
 have hr:Rd w h E sz (xs.flatMap e):=Kn.own (M:=M) (hU ⟨[],fun _=>True,fun _ _ _ _=>trivial⟩).mem w hS
 have hcap:h.len≤h.cap:=by
  rcases hok with ⟨rfl,_⟩ | ⟨b,o,C,fz,e1,e2,e3,e4,e5,e6,_⟩
  ·exact Nat.le_refl _
  ·exact e6
 have hil:i.toNat≤j.toNat:=by omega
 have hjl:j.toNat≤h.len:=by omega
 have hlc:h.len * sz≤h.cap * sz:=Nat.mul_le_mul_right sz hcap
 have hjc:j.toNat * sz≤h.len * sz:=Nat.mul_le_mul_right sz hjl
 have hll:i.toNat * sz≤j.toNat * sz:=Nat.mul_le_mul_right sz hil
 have hcs:((xs.flatMap e).take (j.toNat * sz)).drop (i.toNat * sz)=((xs.take j.toNat).drop i.toNat).flatMap e:=Lx fe xs
 have hlen:(((xs.take j.toNat).drop i.toNat).flatMap e).length=j.toNat * sz - i.toNat * sz:=by
  rw [← hcs,List.length_drop,List.length_take,← hr.1,Nat.min_eq_left hjc]
 refine⟨_,_,w,⟨rfl,rfl⟩,?_,?_⟩
 ·have hs':=hs w
  have hjcap:j≤(h.cap:Int):=by omega
  simp only [execOp,hF.ev hx,Option.map_some,Option.map_none,hF.ev hy,hF.ev hz,Hd.val,Instr.sliceAt,Instr.slice,underlying]
  simp [hT,Instr.sliceBounds,Instr.sliceBound,asIntOf,h1,h0,hs',Hd.cut,hjcap,show 0≤j by omega,show i≤max j 0 by omega]
 ·refine hS.D5 (hU _) rfl rfl rfl (Nat.le_refl _) (fun _ _ _=>rfl) ?_ ?_
  ·rcases hok with ⟨rfl,hn⟩ | ⟨b,o,C,fz,e1,e2,e3,e4,e5,e6,e7,e8⟩
   ·have hj0:j.toNat=0:=by simp at hjl;omega
    have hi0:i.toNat=0:=by omega
    refine .inl ⟨by simp [Hd.cut,hj0,hi0],?_⟩
    rw [List.eq_nil_of_length_eq_zero (l:=((xs.take j.toNat).drop i.toNat).flatMap e) (by rw [hlen,hj0];simp)]
   ·by_cases hci:h.cap=i.toNat
    ·have hji:j.toNat=i.toNat:=by omega
     refine .inr ⟨b,o,C,fz,by simp only [Hd.cut];rw [if_pos hci];exact e1,e2,e3,e4,?_,?_,?_,?_⟩
     ·simp only [Hd.cut];rw [hci,Nat.sub_self,Nat.zero_mul];omega
     ·simp only [Hd.cut];omega
     ·simp only [Hd.cut];rw [hlen,Nat.sub_mul]
     ·have hl0:(((xs.take j.toNat).drop i.toNat).flatMap e).length=0:=by rw [hlen,hji];omega
      rw [List.eq_nil_of_length_eq_zero hl0];simp
    ·refine .inr ⟨b,o+i.toNat * sz,C,fz,by simp only [Hd.cut];rw [if_neg hci,e1];simp [Eg],e2,e3,fun j hj h=>e4 j (by omega) h,?_,?_,?_,?_⟩
     ·simp only [Hd.cut];rw [Nat.sub_mul];omega
     ·simp only [Hd.cut];omega
     ·simp only [Hd.cut];rw [hlen,Nat.sub_mul]
     ·have hX:xs.flatMap e=(C.drop o).take (h.len * sz):=by rw [hr.1];exact e8.symm
      have hY:((xs.take j.toNat).drop i.toNat).flatMap e=((C.drop o).take (j.toNat * sz)).drop (i.toNat * sz):=by rw [← hcs,hX,List.take_take,Nat.min_eq_left hjc]
      rw [hlen,hY,List.drop_take,List.drop_drop]
  ·intro b hb
   have hb':b∈(Af.own h E sz (xs.flatMap e)).CY:=by
    revert hb
    simp only [Af.own,Hd.cut]
    cases ha:h.a with
    | none=>by_cases hc:h.cap=i.toNat<;>simp [hc]
    | some a=>
     by_cases hc:h.cap=i.toNat
     ·simp [hc]
     ·simp only [hc,if_false,Option.map_some]
      unfold Addr.add
      split<;>simp
   exact⟨(hS.CY _ (hU ⟨[],fun _=>True,fun _ _ _ _=>trivial⟩).mem b hb').1, .inl hb'⟩
theorem LZ.cm {L L':List Af}{r r':Af}(h:LZ L r r' L')(e:r=r'):L'=L:=by
 induction h with
 | head=>subst e;rfl
 | tail _ ih=>rw [ih e]
theorem GR {cd:Code}{b T:Nat}{c c':List Value}{Lf:Af→List Af}(hU:∀ r,LZ L (Af.box b T c) r (Lf r))(e:c=c')(k:G P n w0 M cd Q F (Lf (Af.box b T c'))):G P n w0 M cd Q F L:=by
 subst e
 rwa [(hU (Af.box b T c)).cm rfl] at k
theorem af {Pr:Prop}{cd:Code}(hp:∀ w,St w0 M w L→Pr)(k:Pr→G P n w0 M cd Q F L):G P n w0 M cd Q F L:=fun a w hF hS=>k (hp w hS) a w hF hS
theorem ab {α β:Type}[Inhabited α]{ea:α→List Value}{eb:β→List Value}{sz p q:Nat}{g:α→β}{s:α→β→α}{T U E i:Nat}{h:Hd}{x:Operand}{xs:List α}{v:Value}
  (hx:ev F x=some (h.ptr i sz p)) (hT:P2 P T) (fe:Flat ea sz) (hl:AQ ea eb p q g s) (hk:Kn w0 M L h E sz (xs.flatMap ea)) (hi:i < xs.length) (hv:eb (g (xs.getD i default)) = [v]):PS P n w0 M (.load T x) U F L v L:=by
 have e:xs.getD i default=xs[i]:=by simp [List.getD,hi]
 rw [e] at hv
 exact RT hx hT fe hl hk hi hv
end
section
variable {p:Prop} [Decidable p] {a b:Bool} {m n:Int}
theorem ff:((a || b)=true)=(a=true∨b=true):=Bool.or_eq_true a b
theorem fM:((a && b)=true)=(a=true∧b=true):=Bool.and_eq_true a b
theorem fV:((a || b)=false)=(a=false∧b=false):=propext Bool.or_eq_false_iff
theorem fj:((a && b)=false)=(a=false∨b=false):=propext Bool.and_eq_false_iff
end
end Go.Ing
/- What comes of what beings do: plain laws. -/
namespace Go.Ing
open Go
structure AI.DL (w:AI):Prop where
 th:∀ i,(w.AP.at i).name.length≤140737488351232
 be:∀ i,(w.AN.at i).name.length≤140737488351232
 ro:∀ i,(w.BV.at i).name.length≤140737488351232
namespace AF
theorem Nl {l:List Int}{k:Int}(h0:0≤k)(h1:k < l.length):l.drop k.toNat=l.getD k.toNat 0 :: l.drop (k+1).toNat:=by
 have hk:k.toNat < l.length:=by omega
 rw [List.drop_eq_getElem_cons hk,show(k+1).toNat=k.toNat+1 by omega,List.getD_eq_getElem?_getD,List.getElem?_eq_getElem hk]
 rfl
theorem Zm {w:AI}{s:As}{l:List Int}{k:Int}(h0:0≤k)(h1:k < l.length)(h:(w.AP.at (l.getD k.toNat 0)).on=true):IN w s (l.drop k.toNat)=IN w (s++([32]++(w.AP.at (l.getD k.toNat 0)).name) ++ [42]) (l.drop (k+1).toNat):=by
 rw [Nl h0 h1,IN,if_pos h];simp
theorem Zk {w:AI}{s:As}{l:List Int}{k:Int}(h0:0≤k)(h1:k < l.length)(h:(w.AP.at (l.getD k.toNat 0)).on=false):IN w s (l.drop k.toNat)=IN w (s++([32]++(w.AP.at (l.getD k.toNat 0)).name)) (l.drop (k+1).toNat):=by
 rw [Nl h0 h1,IN,if_neg (by rw [h];decide)];simp
theorem TR {r:Room}{k:Int}(h:0≤k):I9 r (k+1).toNat=if decide (r.CV.at k=0)=true then I9 r k.toNat else if r.shut.at k=true then I9 r k.toNat++([32]++AI.called k) ++ [42] else I9 r k.toNat++([32]++AI.called k):=by
 obtain⟨m,rfl⟩:=Int.eq_ofNat_of_zero_le h
 rfl
theorem Mc (r:Room):∀ k:Nat,(I9 r k).length≤5+k * 22
 | 0=>by simp [I9]
 | k+1=>by
  have ih:=Mc r k
  have hc:=AI.JN (k:Int)
  unfold I9
  repeat' split
  all_goals (try simp only [List.length_append,List.length_cons,List.length_nil])
  all_goals omega
theorem Kl (T:AF):∀ k:Nat,(T.Fq k).w=T.w∧(T.Fq k).b=T.b∧(T.Fq k).out.length≤T.out.length+k
 | 0=>⟨rfl,rfl,by simp [Fq]⟩
 | k+1=>by
  obtain⟨h1,h2,h3⟩:=Kl T k
  unfold Fq
  split
  ·exact⟨by simpa using h1,by simpa using h2,by rw [CI];omega⟩
  ·exact⟨h1,h2,by omega⟩
theorem JZ {T:AF}{k:Int}(h:0≤k):T.Fq (k+1).toNat=if (!decide (k=T.b) && T.w.I2 T.b k)=true then(T.Fq k.toNat).tell ((T.w.AN.at k).name ++ [32,105,115,32,104,101,114,101,46]) else T.Fq k.toNat:=by
 obtain⟨m,rfl⟩:=Int.eq_ofNat_of_zero_le h
 rfl
@[simp] theorem Hk (T:AF) (s:As) (l:List Int):(T.list s l).w=T.w∧(T.list s l).b=T.b∧(T.list s l).out.length=T.out.length+1:=⟨rfl,rfl,by simp [list]⟩
theorem U0 (T:AF):T.KH.w=T.w∧T.KH.b=T.b∧T.KH.out.length=T.out.length+2:=⟨rfl,rfl,by simp [KH]⟩
theorem RV (T:AF):T.EF.w=T.w∧T.EF.b=T.b∧T.EF.out.length≤T.out.length+3:=by
 have h:=T.U0
 unfold EF
 split
 ·have h2:=T.KH.Hk [72,101,114,101,32,105,115] (T.w.has 0 T.me.room)
  exact⟨h2.1.trans h.1,h2.2.1.trans h.2.1,by omega⟩
 ·exact⟨h.1,h.2.1,by omega⟩
theorem Jz (T:AF):T.look.w=T.w∧T.look.b=T.b∧T.look.out.length≤T.out.length+9:=by
 unfold look
 split
 ·exact⟨rfl,rfl,by rw [CI];omega⟩
 ·have h:=T.RV
  have h2:=T.EF.Kl 6
  exact⟨h2.1.trans h.1,h2.2.1.trans h.2.1,by omega⟩
end AF
theorem Bj.E5 {xs:List Int}{i:Nat}(h:i < xs.length):xs.getD i 0∈xs:=by
 rw [List.getD_eq_getElem?_getD,List.getElem?_eq_getElem h]
 exact List.getElem_mem h
theorem AI.UW {w:AI}{r:Int}(h:(!w.Hf r)=false):0≤r∧r < 6:=by
 unfold AI.Hf at h
 split at h
 ·simp at h
 ·rename_i c;simp at c;omega
theorem AI.GB {w:AI}{Ca at_ i:Int}(h:i∈w.has Ca at_):0≤i∧i < 9:=by
 unfold AI.has at h
 have:=(List.mem_filter.1 h).1
 obtain⟨n,hn,rfl⟩:=List.mem_map.1 this
 have:=List.mem_range.1 hn
 exact⟨by simp,by show((n:Nat):Int) < 9;omega⟩
theorem AI.IX (w:AI)(Ca at_:Int):(w.has Ca at_).length≤9:=by
 rw [AI.Ts];exact AI.Sl w Ca at_ _
end Go.Ing
/- What beings do keeps the land good: plain laws. -/
namespace Go.Ing
open Go
theorem Vector.Ep {α:Type}[Inhabited α]{n:Nat}(v:Vector α n)(k:Int)(x y:α):(v.put k x).put k y=v.put k y:=by
 unfold Vector.put
 apply Vector.ext
 intro i hi
 simp only [Vector.getElem_setIfInBounds]
 split<;>rfl
theorem Vector.CG {α:Type}[Inhabited α]{n:Nat}{v:Vector α n}{k:Int}{x:α}(h0:0≤k)(h1:k < n):(v.put k x).at k=x:=by rw [JT v k k x h0 h1 h0,if_pos rfl]
theorem Vector.Eh {α:Type}[Inhabited α]{n:Nat}{v:Vector α n}{k i:Int}{x:α}(h0:0≤k)(h1:k < n)(hi:0≤i)(hn:i≠k):(v.put k x).at i=v.at i:=by rw [JT v k i x h0 h1 hi,if_neg hn]
namespace AI
variable {X Y:AI}
theorem Out.path:∀ {m:Nat} {i:Int},0≤i→i < 9→Out X m i→∃ s:List Int,S5 s+s.length=9∧s.length=m+1∧∀ j∈s,∃ k,k≤m∧Out X k j
 | 0,i,h0,h9,h=>⟨[] ++ [i],by have:=PG (s:= []) (i:=i) (by simp) h0 h9;simp only [List.length_append,List.length_cons,List.length_nil];have:S5 []=9:=rfl;omega,rfl,fun j hj=>by
   have:j=i:=by simpa using hj
   subst this;exact⟨0,Nat.le_refl _,h⟩⟩
 | m+1,i,h0,h9,h=>by
  obtain⟨s,h1,h2,h3⟩:=Out.path h.2.1 h.2.2.1 h.2.2.2
  have hn:i ∉ s:=fun hm=>by
   obtain⟨k,hk,ho⟩:=h3 i hm
   have:=h.uniq ho
   omega
  have hl:=PG hn h0 h9
  refine⟨s ++ [i],by simp only [List.length_append,List.length_cons,List.length_nil];omega,by simp only [List.length_append,List.length_cons,List.length_nil];omega,fun j hj=>?_⟩
  rcases List.mem_append.1 hj with hj | hj
  ·obtain⟨k,hk,ho⟩:=h3 j hj
   exact⟨k,by omega,ho⟩
  ·have:j=i:=by simpa using hj
   subst this;exact⟨m+1,Nat.le_refl _,h⟩
theorem Out.fZ {m:Nat}{i:Int}(h0:0≤i)(h9:i < 9)(h:Out X m i):m≤8:=by
 obtain⟨s,h1,h2,_⟩:=h.path h0 h9
 omega
theorem L5:∀ {m n:Nat} {i:Int},Out X m i→m < n→X.J6 n (X.AP.at i)=true
 | _,0,_,_,h=>absurd h (Nat.not_lt_zero _)
 | 0,n+1,i,h,_=>by
  unfold J6
  rw [if_pos (by simpa using (show(X.AP.at i).Ca≠2 from h))]
 | m+1,n+1,i,h,hl=>by
  unfold J6
  rw [if_neg (by simp [h.1]),if_neg (by have:=h.2.1;have:=h.2.2.1;simp;omega)]
  exact L5 h.2.2.2 (by omega)
structure PH (X:AI)(i:Int):Prop where
 k0:0≤(X.AP.at i).kind
 k3:(X.AP.at i).kind≤3
 plain:(X.AP.at i).kind=0→(X.AP.at i).on=false
 a0:0≤(X.AP.at i).at_
 Ca:((X.AP.at i).Ca=0∧(X.AP.at i).at_ < 6∧¬ ((X.AP.at i).kind=2∧(X.AP.at i).on=true)) ∨
  ((X.AP.at i).Ca=1∧(X.AP.at i).at_ < 6∧(X.AN.at (X.AP.at i).at_).here=true) ∨
  ((X.AP.at i).Ca=2∧(X.AP.at i).at_ < 9∧(X.AP.at (X.AP.at i).at_).kind=3∧¬ ((X.AP.at i).kind=2∧(X.AP.at i).on=true))
theorem Rf.p {i:Int}(h:Rf X i):PH X i:=⟨h.k0,h.k3,h.plain,h.a0,by
 rcases h.Ca with h | h | ⟨h1,h2,h3,h4,_⟩
 ·exact .inl h
 ·exact .inr (.inl h)
 ·exact .inr (.inr ⟨h1,h2,h3,h4⟩)⟩
theorem RM {i:Int}(h:PH X i)(h0:0≤i)(h9:i < 9){m:Nat}(ho:Out X m i):X.Ck i=true:=by
 have hc:=L5 ho (show m < 10 by have:=ho.fZ h0 h9;omega)
 have:=h.k0;have:=h.k3;have:=h.a0
 unfold Ck
 rw [if_neg (by
  simp only [Bool.or_eq_true,Bool.and_eq_true,decide_eq_true_eq]
  rintro (((h1 | h1) | ⟨h1,h2⟩) | h1)
  ·omega
  ·omega
  ·rw [h.plain h1] at h2;cases h2
  ·omega)]
 rcases h.Ca with ⟨w,a,b⟩ | ⟨w,a,b⟩ | ⟨w,a,k,b⟩
 ·rw [if_pos (by simp [w])]
  simp only [Bool.and_eq_true,decide_eq_true_eq,Bool.not_eq_true']
  refine⟨a,?_⟩
  cases hh:(decide ((X.AP.at i).kind=2) && (X.AP.at i).on) with
  | false=>rfl
  | true=>rw [Bool.and_eq_true] at hh;exact absurd ⟨of_decide_eq_true hh.1,hh.2⟩ b
 ·rw [if_neg (by simp [w]),if_pos (by simp [w])]
  simp [a,b]
 ·rw [if_neg (by simp [w]),if_neg (by simp [w]),if_pos (by simp [w]),if_neg (by
   simp only [Bool.or_eq_true,Bool.and_eq_true,decide_eq_true_eq,Bool.not_eq_true',decide_eq_false_iff_not]
   rintro ((h1 | h1) | ⟨h1,h2⟩)
   ·omega
   ·exact h1 k
   ·exact b ⟨h1,h2⟩)]
  exact hc
theorem RL (hr:∀ r d,0≤r→r < 6→0≤d→d < 6→IC (X.BV.at r) d=false)(hb:∀ b,0≤b→b < 6→Dq (X.AN.at b)=false)(ht:∀ i,0≤i→i < 9→PH X i∧∃ m,Out X m i):X.Bk=true:=by
 unfold Bk
 rw [Bool.and_eq_true,Bool.and_eq_true]
 refine⟨(Dk 6).2 fun r h0 h1=>?_,(Dk 6).2 fun b h0 h1=>?_,(Dk 9).2 fun i h0 h1=>?_⟩
 ·exact(Dk 6).2 fun d d0 d1=>by rw [hr r d (by omega) h1 (by omega) d1];rfl
 ·rw [hb b (by omega) h1];rfl
 ·obtain⟨hp,m,ho⟩:=ht i (by omega) h1
  exact RM hp (by omega) h1 ho
theorem Out.same (h:∀ i,0≤i→i < 9→(Y.AP.at i).Ca=(X.AP.at i).Ca∧(Y.AP.at i).at_=(X.AP.at i).at_):∀ {m:Nat} {i:Int},0≤i→i < 9→Out X m i→Out Y m i
 | 0,i,h0,h9,ho=>by show(Y.AP.at i).Ca≠2;rw [(h i h0 h9).1];exact ho
 | m+1,i,h0,h9,ho=>by
  refine⟨(h i h0 h9).1.trans ho.1,?_⟩
  rw [(h i h0 h9).2]
  exact⟨ho.2.1,ho.2.2.1,Out.same h ho.2.1 ho.2.2.1 ho.2.2.2⟩
theorem Out.other {k:Int}(h:∀ i,0≤i→i < 9→i≠k→Y.AP.at i=X.AP.at i)(hk:∃ m,Out Y m k):∀ {m:Nat} {i:Int},0≤i→i < 9→Out X m i→∃ m',Out Y m' i
 | 0,i,h0,h9,ho=>by
  by_cases e:i=k
  ·subst e;exact hk
  ·exact⟨0,by show(Y.AP.at i).Ca≠2;rw [h i h0 h9 e];exact ho⟩
 | m+1,i,h0,h9,ho=>by
  by_cases e:i=k
  ·subst e;exact hk
  ·obtain⟨m',h'⟩:=Out.other h hk ho.2.1 ho.2.2.1 ho.2.2.2
   exact⟨m'+1,by rw [Out,h i h0 h9 e];exact⟨ho.1,ho.2.1,ho.2.2.1,h'⟩⟩
theorem Out.dN {k:Int}(h:∀ i,0≤i→i < 9→i≠k→Y.AP.at i=X.AP.at i):∀ {m n:Nat} {i:Int},0≤i→i < 9→Out X m i→m < n→X.inside k n i=false→Out Y m i
 | 0,0,_,_,_,_,hl,_=>absurd hl (Nat.not_lt_zero _)
 | _+1,0,_,_,_,_,hl,_=>absurd hl (Nat.not_lt_zero _)
 | 0,n+1,i,h0,h9,ho,hl,hi=>by
  have e:i≠k:=fun e=>by unfold inside at hi;rw [if_pos (by simp [e])] at hi;cases hi
  show(Y.AP.at i).Ca≠2;rw [h i h0 h9 e];exact ho
 | m+1,n+1,i,h0,h9,ho,hl,hi=>by
  have e:i≠k:=fun e=>by unfold inside at hi;rw [if_pos (by simp [e])] at hi;cases hi
  unfold inside at hi
  rw [if_neg (by simp [e]),if_neg (by simp [ho.1];omega)] at hi
  rw [Out,h i h0 h9 e]
  exact⟨ho.1,ho.2.1,ho.2.2.1,Out.dN h ho.2.1 ho.2.2.1 ho.2.2.2 (by omega) hi⟩
end AI
end Go.Ing
/- What beings do keeps the land good: the parts of a turn. -/
namespace Go.Ing
open Go
theorem Vector.QD {α:Type}[Inhabited α]{n:Nat}(v:Vector α n)(k i:Int)(x:α):(v.put k x).at i=x∨(v.put k x).at i=v.at i:=by
 unfold Vector.put Vector.at
 rw [List.getD_eq_getElem?_getD,List.getD_eq_getElem?_getD]
 simp only [Vector.toList_setIfInBounds]
 rw [List.getElem?_set]
 split
 ·split
  ·exact .inl rfl
  ·rename_i h1 h2
   exact .inr (by rw [← h1,List.getElem?_eq_none (by omega)])
 ·exact .inr rfl
namespace AI
variable {X:AI}
def Gz (X:AI)(i:Int)(t:Ap):AI:={ X with AP:=X.AP.put i t }
def C7 (X:AI)(b:Int)(x:An):AI:={ X with AN:=X.AN.put b x }
def NW (X:AI)(r d:Int)(v:Bool):AI:={ X with BV:=X.BV.put r { X.BV.at r with shut:=(X.BV.at r).shut.put d v } }
theorem Hw (hg:X.Bk=true){i:Int}(h0:0≤i)(h9:i < 9):PH X i:=(Sj (Ol hg h0 h9)).p
theorem KV (hg:X.Bk=true){i:Int}(h0:0≤i)(h9:i < 9):∃ m,Out X m i:=by
 obtain⟨m,_,h⟩:=SY hg h0 h9;exact⟨m,h⟩
theorem KX {i j:Int}(h0:0≤i)(h9:i < 9)(j0:0≤j)(hn:j≠i)(t:Ap):(X.Gz i t).AP.at j=X.AP.at j:=Vector.Eh h0 h9 j0 hn
theorem Fy {i:Int}(h0:0≤i)(h9:i < 9)(t:Ap):(X.Gz i t).AP.at i=t:=Vector.CG h0 h9
theorem Gp {i j:Int}(h0:0≤i)(h9:i < 6)(j0:0≤j)(hn:j≠i)(t:An):(X.C7 i t).AN.at j=X.AN.at j:=Vector.Eh h0 h9 j0 hn
theorem EO {i:Int}(h0:0≤i)(h9:i < 6)(t:An):(X.C7 i t).AN.at i=t:=Vector.CG h0 h9
theorem Kb (hg:X.Bk=true){i:Int}(h0:0≤i)(h9:i < 9){t:Ap}(hk:t.kind=(X.AP.at i).kind)(hp:PH (X.Gz i t) i)(ho:∃ m,Out (X.Gz i t) m i):(X.Gz i t).Bk=true:=by
 have hs:∀ j,0≤j→j < 9→j≠i→(X.Gz i t).AP.at j=X.AP.at j:=fun j j0 _ hn=>KX h0 h9 j0 hn t
 refine RL (fun r d r0 r6 d0 d6=>KU hg r0 r6 d0 d6) (fun b b0 b6=>Fa hg b0 b6) fun j j0 j9=>?_
 obtain⟨m,hm⟩:=KV hg j0 j9
 refine⟨?_,Out.other hs ho j0 j9 hm⟩
 by_cases e:j=i
 ·subst e;exact hp
 ·have q:=Hw hg j0 j9
  have hkk:∀ a,0≤a→a < 9→((X.Gz i t).AP.at a).kind=(X.AP.at a).kind:=fun a a0 a9=>by
   by_cases ea:a=i
   ·subst ea;rw [Fy h0 h9,hk]
   ·rw [hs a a0 a9 ea]
  have ej:=hs j j0 j9 e
  refine⟨by rw [ej];exact q.k0,by rw [ej];exact q.k3,by rw [ej];exact q.plain,by rw [ej];exact q.a0,?_⟩
  rw [ej]
  rcases q.Ca with h | h | ⟨h1,h2,h3,h4⟩
  ·exact .inl h
  ·exact .inr (.inl h)
  ·exact .inr (.inr ⟨h1,h2,by rw [hkk _ q.a0 h2];exact h3,h4⟩)
theorem Iz (hg:X.Bk=true){b:Int}(h0:0≤b)(h6:b < 6){x:An}(hx:Dq x=false)(hh:∀ i,0≤i→i < 9→(X.AP.at i).Ca=1→(X.AP.at i).at_=b→x.here=true):(X.C7 b x).Bk=true:=by
 refine RL (fun r d r0 r6 d0 d6=>KU hg r0 r6 d0 d6) (fun c c0 c6=>?_) fun j j0 j9=>?_
 ·by_cases e:c=b
  ·subst e;rw [EO h0 h6];exact hx
  ·rw [Gp h0 h6 c0 e];exact Fa hg c0 c6
 ·obtain⟨m,hm⟩:=KV hg j0 j9
  refine⟨?_,m,Out.same (X:=X) (Y:=X.C7 b x) (fun _ _ _=>⟨rfl,rfl⟩) j0 j9 hm⟩
  have q:=Hw hg j0 j9
  refine⟨q.k0,q.k3,q.plain,q.a0,?_⟩
  rcases q.Ca with h | ⟨h1,h2,h3⟩ | h
  ·exact .inl h
  ·refine .inr (.inl ⟨h1,h2,?_⟩)
   show((X.C7 b x).AN.at (X.AP.at j).at_).here=true
   by_cases e:(X.AP.at j).at_=b
   ·rw [e,EO h0 h6];exact hh j j0 j9 h1 e
   ·rw [Gp h0 h6 q.a0 e];exact h3
  ·exact .inr (.inr h)
theorem Vl (hg:X.Bk=true){r d:Int}(h0:0≤r)(h6:r < 6)(d0:0≤d)(d6:d < 6){v:Bool}(hv:v=true→(X.BV.at r).CV.at d≠0):(X.NW r d v).Bk=true:=by
 refine RL (fun c e c0 c6 e0 e6=>?_) (fun b b0 b6=>Fa hg b0 b6) fun j j0 j9=>?_
 ·have q:=KU hg c0 c6 e0 e6
  by_cases ec:c=r
  ·subst ec
   have er:(X.NW c d v).BV.at c={ X.BV.at c with shut:=(X.BV.at c).shut.put d v }:=Vector.CG h0 h6
   rw [er]
   unfold IC at q ⊢
   show(decide ((X.BV.at c).CV.at e < 0) || decide (6 < (X.BV.at c).CV.at e) || (decide ((X.BV.at c).CV.at e=0) && ((X.BV.at c).shut.put d v).at e))=false
   rw [JT _ _ _ _ d0 d6 e0]
   split
   ·rename_i ee
    subst ee
    cases v with
    | false=>
     simp only [Bool.and_false,Bool.or_false]
     rw [Bool.or_eq_false_iff] at q
     exact q.1
    | true=>simpa [hv rfl] using (Bool.or_eq_false_iff.1 q).1
   ·exact q
  ·rw [show(X.NW r d v).BV.at c=X.BV.at c from Vector.Eh h0 h6 c0 ec];exact q
 ·obtain⟨m,hm⟩:=KV hg j0 j9
  have q:=Hw hg j0 j9
  exact⟨⟨q.k0,q.k3,q.plain,q.a0,q.Ca⟩,m,Out.same (X:=X) (Y:=X.NW r d v) (fun _ _ _=>⟨rfl,rfl⟩) j0 j9 hm⟩
/-! #### what is done to a thing -/
section
variable {i:Int} (hg:X.Bk=true) (h0:0≤i) (h9:i < 9)
include hg h0 h9
theorem VN {v:Bool}(h1:(X.AP.at i).kind≠0)(h2:(X.AP.at i).kind=2→(X.AP.at i).Ca=1):(X.Gz i { X.AP.at i with on:=v }).Bk=true:=by
 have q:=Hw hg h0 h9
 obtain⟨m,hm⟩:=KV hg h0 h9
 have hs:∀ j,0≤j→j < 9→((X.Gz i { X.AP.at i with on:=v }).AP.at j).Ca=(X.AP.at j).Ca∧((X.Gz i { X.AP.at i with on:=v }).AP.at j).at_=(X.AP.at j).at_:=fun j j0 _=>by
  by_cases e:j=i
  ·subst e;rw [Fy h0 h9];exact⟨rfl,rfl⟩
  ·rw [KX h0 h9 j0 e];exact⟨rfl,rfl⟩
 have hkk:∀ a,0≤a→((X.Gz i { X.AP.at i with on:=v }).AP.at a).kind=(X.AP.at a).kind:=fun a a0=>by
  by_cases ea:a=i
  ·subst ea;rw [Fy h0 h9]
  ·rw [KX h0 h9 a0 ea]
 refine Kb hg h0 h9 (by rfl) ?_ ⟨m,Out.same hs h0 h9 hm⟩
 refine⟨?_,?_,?_,?_,?_⟩<;>rw [Fy h0 h9]
 ·exact q.k0
 ·exact q.k3
 ·exact fun e=>absurd e h1
 ·exact q.a0
 ·rcases q.Ca with ⟨a,b,c⟩ | h | ⟨a,b,c,d⟩
  ·exact .inl ⟨a,b,fun⟨e,_⟩=>by have:=h2 e;omega⟩
  ·exact .inr (.inl h)
  ·refine .inr (.inr ⟨a,b,?_,fun⟨e,_⟩=>by have:=h2 e;omega⟩)
   show((X.Gz i { X.AP.at i with on:=v }).AP.at (X.AP.at i).at_).kind=3
   rw [hkk _ q.a0];exact c
theorem NC {v:Bool}{a:Int}(ha:0≤a∧a < 6)(hv:(X.AP.at i).kind=0→v=false)(hc:¬ ((X.AP.at i).kind=2∧v=true)):(X.Gz i { X.AP.at i with on:=v,Ca:=0,at_:=a }).Bk=true:=by
 have q:=Hw hg h0 h9
 refine Kb hg h0 h9 (by rfl) ?_ ⟨0,by show((X.Gz i _).AP.at i).Ca≠2;rw [Fy h0 h9];intro hc;cases hc⟩
 refine⟨?_,?_,?_,?_,?_⟩<;>rw [Fy h0 h9]
 ·exact q.k0
 ·exact q.k3
 ·exact hv
 ·exact ha.1
 ·exact .inl ⟨rfl,ha.2,hc⟩
theorem Sd {a:Int}(ha:0≤a∧a < 6)(hh:(X.AN.at a).here=true):(X.Gz i { X.AP.at i with Ca:=1,at_:=a }).Bk=true:=by
 have q:=Hw hg h0 h9
 refine Kb hg h0 h9 (by rfl) ?_ ⟨0,by show((X.Gz i _).AP.at i).Ca≠2;rw [Fy h0 h9];intro hc;cases hc⟩
 refine⟨?_,?_,?_,?_,?_⟩<;>rw [Fy h0 h9]
 ·exact q.k0
 ·exact q.k3
 ·exact q.plain
 ·exact ha.1
 ·exact .inr (.inl ⟨rfl,ha.2,hh⟩)
theorem TC {a:Int}(ha:0≤a∧a < 9)(hk:(X.AP.at a).kind=3)(hc:¬ ((X.AP.at i).kind=2∧(X.AP.at i).on=true))(hi:X.Tt a i=false):(X.Gz i { X.AP.at i with Ca:=2,at_:=a }).Bk=true:=by
 have q:=Hw hg h0 h9
 have hs:∀ j,0≤j→j < 9→j≠i→(X.Gz i { X.AP.at i with Ca:=2,at_:=a }).AP.at j=X.AP.at j:=fun j j0 _ hn=>KX h0 h9 j0 hn _
 have hai:a≠i:=fun e=>by subst e;rw [Wi] at hi;cases hi
 obtain⟨m,hm10,hm⟩:=SY hg ha.1 ha.2
 have hm':=Out.dN hs ha.1 ha.2 hm hm10 hi
 refine Kb hg h0 h9 (by rfl) ?_ ⟨m+1,by rw [Out,Fy h0 h9];exact⟨rfl,ha.1,ha.2,hm'⟩⟩
 refine⟨?_,?_,?_,?_,?_⟩<;>rw [Fy h0 h9]
 ·exact q.k0
 ·exact q.k3
 ·exact q.plain
 ·exact ha.1
 ·refine .inr (.inr ⟨rfl,ha.2,?_,hc⟩)
  show((X.Gz i _).AP.at a).kind=3
  rw [hs a ha.1 ha.2 hai];exact hk
end
end AI
end Go.Ing
/- What beings do keeps the land good: a turn. -/
namespace Go.Ing
open Go
namespace AI
end AI
namespace AF
structure Fit (T:AF):Prop where
 b:0≤T.b∧T.b < 6
 br:T.w.DL
 gd:T.w.Bk=true
 here:(T.w.AN.at T.b).here=true
structure Step (b:Int)(X Y:AI):Prop where
 th:∀ i,0≤i→i < 9→(Y.AP.at i).name=(X.AP.at i).name∧(Y.AP.at i).kind=(X.AP.at i).kind
 own:∀ i,0≤i→i < 9→(X.AP.at i).Ca=1→(X.AP.at i).at_≠b→Y.AP.at i=X.AP.at i
 be:∀ c,0≤c→c < 6→c≠b→{ Y.AN.at c with B2:=0 }={ X.AN.at c with B2:=0 }
 ro:∀ r,0≤r→r < 6→(Y.BV.at r).name=(X.BV.at r).name∧(Y.BV.at r).Mt=(X.BV.at r).Mt∧(Y.BV.at r).CV=(X.BV.at r).CV
theorem Step.refl (b:Int)(X:AI):Step b X X:=⟨fun _ _ _=>⟨rfl,rfl⟩,fun _ _ _ _ _=>rfl,fun _ _ _ _=>rfl,fun _ _ _=>⟨rfl,rfl,rfl⟩⟩
theorem Step.trans {b:Int}{X Y Z:AI}(h:Step b X Y)(k:Step b Y Z):Step b X Z:=
  ⟨fun i h0 h9=>⟨(k.th i h0 h9).1.trans (h.th i h0 h9).1,(k.th i h0 h9).2.trans (h.th i h0 h9).2⟩,
   fun i h0 h9 h1 h2=>by
    have e:=h.own i h0 h9 h1 h2
    exact(k.own i h0 h9 (by rw [e];exact h1) (by rw [e];exact h2)).trans e,
   fun c h0 h6 hn=>(k.be c h0 h6 hn).trans (h.be c h0 h6 hn),
   fun r h0 h6=>⟨(k.ro r h0 h6).1.trans (h.ro r h0 h6).1,(k.ro r h0 h6).2.1.trans (h.ro r h0 h6).2.1,(k.ro r h0 h6).2.2.trans (h.ro r h0 h6).2.2⟩⟩
theorem Fit.Em {T T':AF}(h:T.Fit)(hw:T'.w=T.w)(hb:T'.b=T.b):T'.Fit:=⟨by rw [hb];exact h.b,by rw [hw];exact h.br,by rw [hw];exact h.gd,by rw [hw,hb];exact h.here⟩
theorem Fit.BS {T:AF}(h:T.Fit)(e:Event):(T.BS e).Fit:=h.Em rfl rfl
theorem Fit.tell {T:AF}(h:T.Fit)(s:As):(T.tell s).Fit:=h.Em rfl rfl
theorem Fit.room {T:AF}(h:T.Fit):0≤(T.w.AN.at T.b).room∧(T.w.AN.at T.b).room < 6:=by
 have:=AI.Fa h.gd h.b.1 h.b.2
 simp only [AI.Dq,Bool.or_eq_false_iff,decide_eq_false_iff_not] at this
 omega
theorem Fit.exit {T:AF}(h:T.Fit){d:Int}(d0:0≤d)(d6:d < 6):0≤(T.w.BV.at (T.w.AN.at T.b).room).CV.at d∧(T.w.BV.at (T.w.AN.at T.b).room).CV.at d≤6:=by
 have:=AI.KU h.gd h.room.1 h.room.2 d0 d6
 simp only [AI.IC,Bool.or_eq_false_iff,decide_eq_false_iff_not] at this
 omega
theorem TM {X:AI}(h:X.DL){i:Int}{t:Ap}(ht:t.name.length≤140737488351232):(X.Gz i t).DL:=⟨fun j=>by
 rcases Vector.QD X.AP i j t with e | e
 ·show((X.AP.put i t).at j).name.length≤_;rw [e];exact ht
 ·show((X.AP.put i t).at j).name.length≤_;rw [e];exact h.th j,h.be,h.ro⟩
theorem Ev {X:AI}(h:X.DL){i:Int}{t:An}(ht:t.name.length≤140737488351232):(X.C7 i t).DL:=⟨h.th,fun j=>by
 rcases Vector.QD X.AN i j t with e | e
 ·show((X.AN.put i t).at j).name.length≤_;rw [e];exact ht
 ·show((X.AN.put i t).at j).name.length≤_;rw [e];exact h.be j,h.ro⟩
theorem Tw {X:AI}(h:X.DL){r d:Int}{v:Bool}:(X.NW r d v).DL:=⟨h.th,h.be,fun j=>by
 rcases Vector.QD X.BV r j { X.BV.at r with shut:=(X.BV.at r).shut.put d v } with e | e
 ·show((X.BV.put r _).at j).name.length≤_;rw [e];exact h.ro r
 ·show((X.BV.put r _).at j).name.length≤_;rw [e];exact h.ro j⟩
theorem WK {b:Int}{X:AI}{i:Int}(h0:0≤i)(h9:i < 9){t:Ap}(hn:t.name=(X.AP.at i).name)(hk:t.kind=(X.AP.at i).kind)(ho:(X.AP.at i).Ca=1→(X.AP.at i).at_=b):Step b X (X.Gz i t):=
  ⟨fun j j0 _=>by
    by_cases e:j=i
    · subst e;rw [AI.Fy h0 h9];exact⟨hn,hk⟩
    · rw [AI.KX h0 h9 j0 e];exact⟨rfl,rfl⟩,
   fun j j0 _ h1 h2=>by
    by_cases e:j=i
    · subst e;exact absurd (ho h1) h2
    · rw [AI.KX h0 h9 j0 e],
   fun _ _ _ _=>rfl,fun _ _ _=>⟨rfl,rfl,rfl⟩⟩
theorem Mx {b:Int}{X:AI}{i:Int}(h0:0≤i)(h6:i < 6){t:An}(hn:i≠b→{ t with B2:=0 }={ X.AN.at i with B2:=0 }):Step b X (X.C7 i t):=
 ⟨fun _ _ _=>⟨rfl,rfl⟩,fun _ _ _ _ _=>rfl,fun c c0 _ hc=>by
  by_cases e:c=i
  ·subst e;rw [AI.EO h0 h6];exact hn hc
  ·rw [AI.Gp h0 h6 c0 e],fun _ _ _=>⟨rfl,rfl,rfl⟩⟩
theorem WH {b:Int}{X:AI}{r d:Int}(h0:0≤r)(h6:r < 6){v:Bool}:Step b X (X.NW r d v):=
 ⟨fun _ _ _=>⟨rfl,rfl⟩,fun _ _ _ _ _=>rfl,fun _ _ _ _=>rfl,fun j j0 _=>by
  by_cases e:j=r
  ·subst e
   rw [show(X.NW j d v).BV.at j={ X.BV.at j with shut:=(X.BV.at j).shut.put d v } from Vector.CG h0 h6]
   exact⟨rfl,rfl,rfl⟩
  ·rw [show(X.NW r d v).BV.at j=X.BV.at j from Vector.Eh h0 h6 j0 e]
   exact⟨rfl,rfl,rfl⟩⟩
structure DH (T T':AF):Prop where
 b:T'.b=T.b
 fit:T'.Fit
 st:Step T.b T.w T'.w
theorem DH.trans {T T' T'':AF}(h:DH T T')(k:DH T' T''):DH T T'':=⟨k.b.trans h.b,k.fit,h.st.trans (by have:=k.st;rwa [h.b] at this)⟩
theorem Fit.goes {T:AF}(h:T.Fit):DH T T:=⟨rfl,h, .refl _ _⟩
theorem DH.Em {T T' T'':AF}(h:DH T T')(hw:T''.w=T'.w)(hb:T''.b=T'.b):DH T T'':=⟨hb.trans h.b,h.fit.Em hw hb,by rw [hw];exact h.st⟩
theorem OY {T:AF}(h:T.Fit){r:Int}(hr:0≤r∧r < 6):DH T (T.GN r):=by
 have hg:=AI.Fa h.gd h.b.1 h.b.2
 have hme:((T.GN r).w.AN.at T.b)={ T.me with room:=r,B2:=0 }:=Vector.CG h.b.1 h.b.2
 refine⟨rfl,⟨h.b,Ev h.br (h.br.be T.b),AI.Iz h.gd h.b.1 h.b.2 ?_ fun _ _ _ _ _=>h.here,?_⟩,Mx h.b.1 h.b.2 fun hn=>absurd rfl hn⟩
 ·unfold AI.Dq at hg ⊢
  show(decide (r < 0) || decide (6≤r) || decide ((T.w.AN.at T.b).BP < 0) || decide (10 < (T.w.AN.at T.b).BP) || decide ((0:Int) < 0) || decide (6 < (0:Int)) || (!(T.w.AN.at T.b).here && !decide ((0:Int)=0)) || (T.w.AN.at T.b).here != decide (0 < (T.w.AN.at T.b).BP))=false
  simp only [Bool.or_eq_false_iff,decide_eq_false_iff_not] at hg ⊢
  refine⟨⟨⟨⟨⟨⟨⟨by omega,by omega⟩,hg.1.1.1.1.1.2⟩,hg.1.1.1.1.2⟩,by decide⟩,by decide⟩,by simp⟩,hg.2⟩
 ·show((T.GN r).w.AN.at T.b).here=true
  rw [hme];exact h.here
theorem Qf {T:AF}(h:T.Fit):DH T T.look:=h.goes.Em T.Jz.1 T.Jz.2.1
theorem Vd {T:AF}(h:T.Fit){d:Int}(d0:0≤d)(d6:d < 6):DH T (T.walk d):=by
 unfold walk
 split
 ·exact h.goes.Em rfl rfl
 ·split
  ·exact h.goes.Em rfl rfl
  ·rename_i h1 _
   have hx:=h.exit d0 d6
   have h1':(T.w.BV.at (T.w.AN.at T.b).room).CV.at d≠0:=fun e=>h1 (decide_eq_true e)
   have g1:DH T (T.BS { F8 1 with dir:=d }):=h.goes.Em rfl rfl
   have g2:=g1.trans (OY g1.fit (r:=(T.w.BV.at T.me.room).CV.at d - 1) (by show 0≤(T.w.BV.at (T.w.AN.at T.b).room).CV.at d - 1∧(T.w.BV.at (T.w.AN.at T.b).room).CV.at d - 1 < 6;omega))
   have g3:=g2.Em (T'':=((T.BS { F8 1 with dir:=d }).GN ((T.w.BV.at T.me.room).CV.at d - 1)).BS { F8 2 with dir:=AI.opposite d }) rfl rfl
   exact g3.trans (Qf g3.fit)
end AF
end Go.Ing
/- What beings do keeps the land good: each order. -/
namespace Go.Ing
open Go
namespace AI
variable {X:AI}
theorem Qo {Ca at_ i:Int}(h:i∈X.has Ca at_):(X.AP.at i).Ca=Ca∧(X.AP.at i).at_=at_:=by
 have:=(List.mem_filter.1 h).2
 rw [Bool.and_eq_true] at this
 exact⟨of_decide_eq_true this.1,of_decide_eq_true this.2⟩
theorem P4 (Ca at_:Int):(X.has Ca at_).Nodup:=by
 unfold has
 exact List.Pairwise.filter _ (by decide)
end AI
namespace AF
/-! #### which things are meant -/
theorem Ed (w:AI)(l:List Int)(nth:Int)(name:As)(all:Bool):(BT w l nth name all).Sublist l:=by
 unfold BT
 split
 ·exact List.filter_sublist
 ·split
  ·exact List.nil_sublist _
  ·exact((List.drop_sublist _ _).trans (List.take_sublist _ _)).trans List.filter_sublist
theorem Dw {w:AI}{l:List Int}{nth:Int}{name:As}{all:Bool}{i:Int}(h:i∈BT w l nth name all):i∈l:=(Ed w l nth name all).mem h
def I6 (X:AI)(b i:Int):Prop:=0≤i∧i < 9∧((X.AP.at i).Ca=1→(X.AP.at i).at_=b)
def ey (X:AI)(b i:Int):Prop:=0≤i∧i < 9∧(X.AP.at i).Ca=1∧(X.AP.at i).at_=b
theorem ey.UN {X:AI}{b i:Int}(h:ey X b i):I6 X b i:=⟨h.1,h.2.1,fun _=>h.2.2.2⟩
theorem FY {T:AF}{i:Int}(h:i∈T.own):ey T.w T.b i:=⟨(AI.GB h).1,(AI.GB h).2,(AI.Qo h).1,(AI.Qo h).2⟩
theorem Xq {X:AI}{b Ca at_ i:Int}(hw:Ca≠1)(h:i∈X.has Ca at_):I6 X b i:=⟨(AI.GB h).1,(AI.GB h).2,fun e=>absurd ((AI.Qo h).1.symm.trans e) hw⟩
theorem KE {T:AF}{i:Int}(h:i∈T.seen):0≤i∧i < 9∧(T.w.AP.at i).Ca=0:=by
 unfold seen at h
 split at h
 ·cases h
 ·exact⟨(AI.GB h).1,(AI.GB h).2,(AI.Qo h).1⟩
theorem Mp {T:AF}{i:Int}(h:i∈T.seen):I6 T.w T.b i:=by
 obtain⟨h0,h9,e⟩:=KE h
 exact⟨h0,h9,fun e1=>by omega⟩
theorem PQ {l:List Int}(h:(decide ((l.length:Int)=0))=false):l.getD 0 0∈l:=by
 have h':(l.length:Int)≠0:=of_decide_eq_false h
 exact Bj.E5 (by omega)
theorem Ob {T:AF}{u:As}(h:(T.one u).2=true):I6 T.w T.b (T.one u).1:=by
 unfold one at h ⊢
 split at h
 ·cases h
 ·rename_i h1
  rw [if_neg h1]
  split at h
  ·cases h
  ·rename_i h2
   rw [if_neg h2]
   have hm:=Dw (PQ (Bool.not_eq_true _ ▸ h2))
   rcases List.mem_append.1 hm with hm | hm
   ·exact(FY hm).UN
   ·exact Mp hm
/-! #### a box, somebody -/
theorem J9 (T:AF)(u:As):(T.box u).1.w=T.w∧(T.box u).1.b=T.b:=by
 unfold box
 split
 ·exact⟨rfl,rfl⟩
 ·split<;>exact⟨rfl,rfl⟩
theorem Yf {T:AF}{u:As}(h:(T.box u).2.2=true):0≤(T.box u).2.1∧(T.box u).2.1 < 9∧(T.w.AP.at (T.box u).2.1).kind=3∧(T.box u).1=T:=by
 unfold box at h ⊢
 split at h
 ·cases h
 ·rename_i h1
  rw [if_neg h1]
  split at h
  ·cases h
  ·rename_i h2
   rw [if_neg h2]
   simp only [Bool.or_eq_true,Bool.not_eq_true',decide_eq_false_iff_not,not_or,Bool.not_eq_false,Decidable.not_not] at h1
   have hm:=Ob h1.1
   exact⟨hm.1,hm.2.1,h1.2,rfl⟩
theorem L7 {T:AF}{name:As}{k:Int}:∀ {r:Nat} {n:Int},r≤6→T.Il name r n=some k→0≤k∧k < 6∧k≠T.b∧T.w.I2 T.b k=true
 | 0,_,_,h=>by cases h
 | r+1,n,hr,h=>by
  unfold Il at h
  split at h
  ·exact L7 (by omega) h
  ·rename_i h1
   split at h
   ·cases h
    simp only [Bool.or_eq_true,decide_eq_true_eq,Bool.not_eq_true',not_or,Bool.not_eq_false] at h1
    exact⟨by omega,by omega,h1.1.1,h1.2⟩
   ·exact L7 (by omega) h
theorem JX (T:AF)(u:As):(T.BA u).1.w=T.w∧(T.BA u).1.b=T.b:=by
 unfold BA
 split
 ·split<;>exact⟨rfl,rfl⟩
 ·exact⟨rfl,rfl⟩
theorem KK {T:AF}{u:As}(h:(T.BA u).2.2=true):0≤(T.BA u).2.1∧(T.BA u).2.1 < 6∧(T.BA u).2.1≠T.b∧T.w.I2 T.b (T.BA u).2.1=true:=by
 unfold BA at h ⊢
 split at h
 ·rename_i h1
  rw [if_pos h1]
  split at h
  ·rename_i k hk
   exact L7 (Nat.le_refl _) hk
  ·cases h
 ·cases h
/-! #### taking and letting go -/
theorem Eb {T:AF}(h:T.Fit){i:Int}(hm:I6 T.w T.b i){t:Ap}(hn:t.name=(T.w.AP.at i).name)(hk:t.kind=(T.w.AP.at i).kind)(hg:(T.w.Gz i t).Bk=true):DH T (T.DC i t):=
 ⟨rfl,⟨h.b,TM h.br (by rw [hn];exact h.br.th i),hg,h.here⟩,WK hm.1 hm.2.1 hn hk hm.2.2⟩
theorem Sv {T:AF}(h:T.Fit){i:Int}(hm:I6 T.w T.b i)(hc:¬ ((T.w.AP.at i).kind=2∧(T.w.AP.at i).on=true)):DH T (T.place i 0 T.me.room):=
 Eb h hm rfl rfl (by
  have:=AI.NC h.gd hm.1 hm.2.1 (v:=(T.w.AP.at i).on) h.room (AI.Hw h.gd hm.1 hm.2.1).plain hc
  exact this)
theorem M7 {T:AF}(h:T.Fit){i a:Int}(hm:I6 T.w T.b i)(ha:0≤a∧a < 6)(hh:(T.w.AN.at a).here=true):DH T (T.place i 1 a):=
 Eb h hm rfl rfl (AI.Sd h.gd hm.1 hm.2.1 ha hh)
theorem Ry {T:AF}(h:T.Fit){i a:Int}(hm:I6 T.w T.b i)(ha:0≤a∧a < 9)(hk:(T.w.AP.at a).kind=3)(hc:¬ ((T.w.AP.at i).kind=2∧(T.w.AP.at i).on=true))(hi:T.w.Tt a i=false):DH T (T.place i 2 a):=
 Eb h hm rfl rfl (AI.TC h.gd hm.1 hm.2.1 ha hk hc hi)
theorem HM {T:AF}{i j Ca at_:Int}(h0:0≤i)(h9:i < 9)(j0:0≤j):(T.place i Ca at_).w.AP.at j=if j=i then { T.w.AP.at i with Ca:=Ca,at_:=at_ } else T.w.AP.at j:=JT _ _ _ _ h0 h9 j0
theorem Jg:∀ {l:List Int} {T:AF},T.Fit→(∀ i∈l,I6 T.w T.b i)→DH T (T.DI l)
 | [],T,h,_=>h.goes
 | i :: r,T,h,hm=>by
  have hi:=hm i (List.mem_cons_self ..)
  have g1:=M7 h hi h.b h.here
  have g2:DH T ((T.place i 1 T.b).Bw 3 i):=g1.Em rfl rfl
  refine g2.trans (Jg g2.fit fun j hj=>?_)
  have hj':=hm j (List.mem_cons_of_mem _ hj)
  refine⟨hj'.1,hj'.2.1,?_⟩
  show((T.place i 1 T.b).w.AP.at j).Ca=1→((T.place i 1 T.b).w.AP.at j).at_=T.b
  rw [HM hi.1 hi.2.1 hj'.1]
  split
  ·exact fun _=>rfl
  ·exact hj'.2.2
theorem QI {T:AF}(h:T.Fit){l:List Int}(hl:∀ i∈l,I6 T.w T.b i)(o:Order):DH T (T.Ku l o):=by
 unfold Ku
 have hp:∀ i∈BT T.w l o.nth o.name o.Bn,I6 T.w T.b i:=fun i hi=>hl i (Dw hi)
 split
 ·have g:DH T (T.tell Km):=h.goes.Em rfl rfl
  exact g.trans (Jg g.fit hp)
 ·exact Jg h hp
theorem W0 {T:AF}(h:T.Fit)(o:Order):DH T (T.get o):=by
 unfold get
 have g:DH T (T.box o.second).1:=h.goes.Em (T.J9 o.second).1 (T.J9 o.second).2
 split
 ·split
  ·exact g
  ·refine g.trans (QI g.fit (fun i hi=>?_) o)
   rw [(T.J9 o.second).1,(T.J9 o.second).2] at *
   exact Xq (by decide) hi
 ·exact QI h (fun i hi=>Mp hi) o
def NN (T:AF)(v to:Int):Prop:=(v=8)∨(v=10∧0≤to∧to < 6∧(T.w.AN.at to).here=true)∨(v≠8∧v≠10∧0≤to∧to < 9∧(T.w.AP.at to).kind=3)
theorem NN.next {T T':AF}{v to:Int}(h:NN T v to)(hb:T'.w.AN=T.w.AN)(hk:∀ i,0≤i→i < 9→(T'.w.AP.at i).kind=(T.w.AP.at i).kind):NN T' v to:=by
 rcases h with h | ⟨h1,h2,h3,h4⟩ | ⟨h1,h2,h3,h4,h5⟩
 ·exact .inl h
 ·exact .inr (.inl ⟨h1,h2,h3,by rw [hb];exact h4⟩)
 ·exact .inr (.inr ⟨h1,h2,h3,h4,by rw [hk _ h3 h4];exact h5⟩)
theorem Sp {T:AF}(h:T.Fit){v to i:Int}(hm:I6 T.w T.b i)(ht:NN T v to):DH T (T.Cu v to i)∧(T.Cu v to i).w.AN=T.w.AN∧∀ j,0≤j→j≠i→(T.Cu v to i).w.AP.at j=T.w.AP.at j:=by
 have hpl:∀ Ca at_,(T.place i Ca at_).w.AN=T.w.AN∧∀ j,0≤j→j≠i→(T.place i Ca at_).w.AP.at j=T.w.AP.at j:=fun Ca at_=>⟨rfl,fun j j0 hn=>by rw [HM hm.1 hm.2.1 j0,if_neg hn]⟩
 unfold Cu
 split
 ·exact⟨h.goes.Em rfl rfl,rfl,fun _ _ _=>rfl⟩
 ·rename_i h1
  have hc:¬ ((T.w.AP.at i).kind=2∧(T.w.AP.at i).on=true):=fun e=>h1 (by rw [Bool.and_eq_true];exact⟨decide_eq_true e.1,e.2⟩)
  split
  ·exact⟨(Sv h hm hc).Em rfl rfl,hpl 0 T.me.room⟩
  ·rename_i h2
   split
   ·rename_i h3
    rcases ht with e | ⟨_,a0,a6,hh⟩ | ⟨_,e,_⟩
    ·exact absurd (decide_eq_true e) h2
    ·exact⟨(M7 h hm ⟨a0,a6⟩ hh).Em rfl rfl,hpl 1 to⟩
    ·exact absurd (of_decide_eq_true h3) e
   ·rename_i h3
    split
    ·exact⟨h.goes.Em rfl rfl,rfl,fun _ _ _=>rfl⟩
    ·rename_i h4
     rcases ht with e | ⟨e,_⟩ | ⟨_,_,a0,a9,hk⟩
     ·exact absurd (decide_eq_true e) h2
     ·exact absurd (decide_eq_true e) h3
     ·exact⟨(Ry h hm ⟨a0,a9⟩ hk hc (by simpa using h4)).Em rfl rfl,hpl 2 to⟩
theorem Jv {v to:Int}:∀ {l:List Int} {T:AF},T.Fit→l.Nodup→(∀ i∈l,I6 T.w T.b i)→NN T v to→DH T (T.Eu v to l)
 | [],T,h,_,_,_=>h.goes
 | i :: r,T,h,hd,hm,ht=>by
  have hi:=hm i (List.mem_cons_self ..)
  obtain⟨g,gb,gt⟩:=Sp h hi ht
  have hd':=List.nodup_cons.1 hd
  refine g.trans (Jv g.fit hd'.2 (fun j hj=>?_) (ht.next gb fun j j0 j9=>(g.st.th j j0 j9).2))
  have hj':=hm j (List.mem_cons_of_mem _ hj)
  have hne:j≠i:=fun e=>hd'.1 (e ▸ hj)
  rw [I6,gt j hj'.1 hne,g.b]
  exact hj'
theorem WT {T:AF}(h:T.Fit){to:Int}{o:Order}(ht:NN T o.verb to):DH T (T.SG to o):=by
 unfold SG
 have hp:∀ i∈BT T.w T.own o.nth o.name o.Bn,I6 T.w T.b i:=fun i hi=>(FY (Dw hi)).UN
 have hd:(BT T.w T.own o.nth o.name o.Bn).Nodup:=List.Nodup.sublist (Ed ..) (AI.P4 ..)
 split
 ·have g:DH T (T.tell PD):=h.goes.Em rfl rfl
  exact g.trans (Jv g.fit hd hp (ht.next rfl fun _ _ _=>rfl))
 ·exact Jv h hd hp ht
theorem UA {T:AF}(h:T.Fit){o:Order}(hv:o.verb=8∨o.verb=9∨o.verb=10):DH T (T.FM o):=by
 have hw:(T.Cx o).1.w=T.w∧(T.Cx o).1.b=T.b:=by
  unfold Cx
  split
  ·exact T.J9 o.second
  ·split
   ·exact T.JX o.second
   ·exact⟨rfl,rfl⟩
 have g:DH T (T.Cx o).1:=h.goes.Em hw.1 hw.2
 unfold FM
 split
 ·exact g
 ·rename_i h1
  refine g.trans (WT g.fit ?_)
  have h1':(T.Cx o).2.2=true:=by simpa using h1
  unfold NN
  rw [hw.1]
  unfold Cx at h1' ⊢
  split at h1'
  ·rename_i h2
   rw [if_pos h2]
   obtain⟨a0,a9,hk,_⟩:=Yf h1'
   have:=of_decide_eq_true h2
   exact .inr (.inr ⟨by omega,by omega,a0,a9,hk⟩)
  ·rename_i h2
   rw [if_neg h2]
   split at h1'
   ·rename_i h3
    rw [if_pos h3]
    obtain⟨a0,a6,_,hs⟩:=KK h1'
    exact .inr (.inl ⟨of_decide_eq_true h3,a0,a6,(AI.HV (AI.LM hs).2.1).2.2⟩)
   ·rename_i h3
    rw [if_neg h3]
    refine .inl ?_
    rcases hv with e | e | e
    ·exact e
    ·exact absurd (decide_eq_true e) h2
    ·exact absurd (decide_eq_true e) h3
end AF
end Go.Ing
/- What walks through a turn need. -/
namespace Go.Ing
open Go
theorem Kc {α:Type}{l:List α}{k:Int}{d:α}(h0:0≤k)(h1:k < l.length):l.take (k+1).toNat=l.take k.toNat ++ [l.getD k.toNat d]:=by
 obtain⟨m,rfl⟩:=Int.eq_ofNat_of_zero_le h0
 have hm:m < l.length:=by omega
 rw [show((m:Int)+1).toNat=m+1 by omega,show((m:Int)).toNat=m by omega,List.take_add_one,List.getElem?_eq_getElem hm,List.getD_eq_getElem?_getD,List.getElem?_eq_getElem hm]
 rfl
theorem AI.MJ (d:Int):0≤AI.opposite d∧AI.opposite d < 6:=by
 unfold AI.opposite
 have h:=Int.tmod_nonneg (a:=max 0 (min d 5)+3) 6 (by omega)
 have h2:=Int.tmod_lt_of_pos (max 0 (min d 5)+3) (show(0:Int) < 6 by decide)
 exact⟨h,h2⟩
theorem Words.R8 {s:As}:∀ {n:Nat},n≤6→(Words.Ov s n).2=true→0≤(Words.Ov s n).1∧(Words.Ov s n).1 < 6
 | 0,_,h=>by cases h
 | n+1,hn,h=>by
  unfold Words.Ov at h ⊢
  split
  ·rename_i c
   show 0≤((5 - n:Nat):Int)∧((5 - n:Nat):Int) < 6
   omega
  ·rename_i c
   rw [if_neg c] at h
   exact Words.R8 (by omega) h
theorem Words.VJ {s:As}(h:(Words.dir s).2=true):0≤(Words.dir s).1∧(Words.dir s).1 < 6:=Words.R8 (Nat.le_refl _) h
namespace AF
theorem ZA {w:AI}{u:As}{l:List Int}{k:Int}(h0:0≤k)(h1:k < l.length)(c:(decide (u = []) || decide ((w.AP.at (l.getD k.toNat 0)).name=u))=true):Ji w u (l.take (k+1).toNat)=Ji w u (l.take k.toNat) ++ [l.getD k.toNat 0]:=by
 rw [Kc (d:=0) h0 h1,Ji,List.filter_append,List.filter_cons,if_pos c];rfl
theorem Yw {w:AI}{u:As}{l:List Int}{k:Int}(h0:0≤k)(h1:k < l.length)(c:(decide (u = []) || decide ((w.AP.at (l.getD k.toNat 0)).name=u))=false):Ji w u (l.take (k+1).toNat)=Ji w u (l.take k.toNat):=by
 rw [Kc (d:=0) h0 h1,Ji,List.filter_append,List.filter_cons,if_neg (by rw [c];decide)];simp [Ji]
theorem Vs (w:AI)(u:As)(l:List Int):(Ji w u l).length≤l.length:=List.length_filter_le _ _
theorem KW (T:AF):T.own.length≤9:=AI.IX _ _ _
theorem Ix (T:AF):T.seen.length≤9:=by
 unfold seen;split
 ·simp
 ·exact AI.IX _ _ _
theorem Qu {T:AF}{i:Int}(h:i∈T.own++T.seen):0≤i∧i < 9:=by
 rcases List.mem_append.1 h with h | h
 ·exact⟨(FY h).1,(FY h).2.1⟩
 ·exact⟨(KE h).1,(KE h).2.1⟩
theorem MC {T:AF}{i:Int}(h:i∈T.own):0≤i∧i < 9:=⟨(FY h).1,(FY h).2.1⟩
theorem OF {T:AF}{i:Int}(h:i∈T.seen):0≤i∧i < 9:=⟨(KE h).1,(KE h).2.1⟩
theorem Ua (T:AF)(u:As):0≤(T.one u).1∧(T.one u).1 < 9:=by
 by_cases h:(T.one u).2=true
 ·exact⟨(Ob h).1,(Ob h).2.1⟩
 ·unfold one at h ⊢
  split
  ·exact⟨Int.le_refl _,by decide⟩
  ·rename_i h1
   rw [if_neg h1] at h
   split
   ·exact⟨Int.le_refl _,by decide⟩
   ·rename_i h2
    rw [if_neg h2] at h
    exact absurd rfl h
theorem ZO (T:AF)(u:As):0≤(T.box u).2.1∧(T.box u).2.1 < 9:=by
 have h:=T.Ua u
 unfold box
 split
 ·exact⟨Int.le_refl _,show(0:Int) < 9 by decide⟩
 ·split
  ·exact⟨Int.le_refl _,show(0:Int) < 9 by decide⟩
  ·exact h
theorem IF (T:AF)(u:As):(T.box u).1.out.length≤T.out.length+1:=by
 unfold box
 split
 ·simp
 ·split<;>simp
theorem L4 (T:AF)(u:As):0≤(T.BA u).2.1∧(T.BA u).2.1 < 6:=by
 unfold BA
 split
 ·split
  ·rename_i k hk
   have:=L7 (Nat.le_refl _) hk
   exact⟨this.1,this.2.1⟩
  ·exact⟨Int.le_refl _,show(0:Int) < 6 by decide⟩
 ·exact⟨Int.le_refl _,show(0:Int) < 6 by decide⟩
theorem HT (T:AF)(u:As):(T.BA u).1.out.length≤T.out.length+1:=by
 unfold BA
 split
 ·split<;>simp
 ·simp
theorem Xr (T:AF)(hb:0≤T.b∧T.b < 6)(r:Int):({ T.w with AN:=(T.w.AN.put T.b { T.w.AN.at T.b with room:=r }).put T.b { (T.w.AN.put T.b { T.w.AN.at T.b with room:=r }).at T.b with B2:=0 } }:AI)=(T.GN r).w:=by
 rw [Vector.CG hb.1 hb.2,Vector.Ep];rfl
theorem Hp (T:AF){i:Int}(h0:0≤i)(h9:i < 9)(wh a:Int):({ T.w with AP:=(T.w.AP.put i { T.w.AP.at i with Ca:=wh }).put i { (T.w.AP.put i { T.w.AP.at i with Ca:=wh }).at i with at_:=a } }:AI)=(T.place i wh a).w:=by
 rw [Vector.CG h0 h9,Vector.Ep];rfl
theorem D6 {T:AF}{i:Int}(h0:0≤i)(h9:i < 9)(wh a:Int):((T.place i wh a).w.AP.at i).name=(T.w.AP.at i).name:=by
 rw [HM h0 h9 h0,if_pos rfl]
theorem Di {T:AF}{i j:Int}(h0:0≤i)(h9:i < 9)(j0:0≤j)(wh a:Int):((T.place i wh a).w.AP.at j).name=(T.w.AP.at j).name:=by
 rw [HM h0 h9 j0]
 split
 ·rename_i e;subst e;rfl
 ·rfl
theorem Vx (T:AF){i:Int}(h0:0≤i)(h9:i < 9)(c:decide ((T.w.AP.at i).kind=2)=true):({ T.w with AP:=(((T.w.AP.put i { T.w.AP.at i with on:=false }).put i { (T.w.AP.put i { T.w.AP.at i with on:=false }).at i with Ca:=0 }).put i { ((T.w.AP.put i { T.w.AP.at i with on:=false }).put i { (T.w.AP.put i { T.w.AP.at i with on:=false }).at i with Ca:=0 }).at i with at_:=(T.w.AN.at T.b).room }) }:AI)=(T.E8 i).w:=by
 rw [Vector.CG h0 h9,Vector.Ep,Vector.CG h0 h9,Vector.Ep]
 unfold E8
 rw [if_pos c];rfl
theorem WX (T:AF){i:Int}(h0:0≤i)(h9:i < 9)(c:decide ((T.w.AP.at i).kind=2)=false):({ T.w with AP:=(T.w.AP.put i { T.w.AP.at i with Ca:=0 }).put i { (T.w.AP.put i { T.w.AP.at i with Ca:=0 }).at i with at_:=(T.w.AN.at T.b).room } }:AI)=(T.E8 i).w:=by
 rw [Vector.CG h0 h9,Vector.Ep]
 unfold E8
 rw [if_neg (by rw [c];decide)];rfl
theorem HU {X:AF}{l:List Int}{k:Int}(h0:0≤k)(h1:k < l.length):X.DI (l.drop k.toNat)=((X.place (l.getD k.toNat 0) 1 X.b).Bw 3 (l.getD k.toNat 0)).DI (l.drop (k+1).toNat):=by
 rw [Nl h0 h1];rfl
theorem MQ {X:AF}{l:List Int}{k:Int}(h0:0≤k)(h1:k < l.length):X.Cd (l.drop k.toNat)=(X.E8 (l.getD k.toNat 0)).Cd (l.drop (k+1).toNat):=by
 rw [Nl h0 h1];rfl
theorem J3 {α:Type}{l:List α}:l.drop (l.length:Int).toNat = []:=by rw [show(l.length:Int).toNat=l.length by omega,List.drop_length]
theorem Oz {T:AF}{k:Int}(h:0≤k):T.DW (k+1).toNat=if decide (((T.DW k.toNat).w.AN.at k).B2=T.b+1)=true then(T.DW k.toNat).Cj k 0 else T.DW k.toNat:=by
 obtain⟨m,rfl⟩:=Int.eq_ofNat_of_zero_le h
 rfl
theorem RY (T:AF):∀ k:Nat,(T.DW k).b=T.b∧(T.DW k).out=T.out
 | 0=>⟨rfl,rfl⟩
 | k+1=>by
  unfold DW;split
  ·exact RY T k
  ·exact RY T k
theorem Im:∀(l:List Int) (T:AF),(T.Cd l).b=T.b∧(T.Cd l).out=T.out
 | [],T=>⟨rfl,rfl⟩
 | i :: r,T=>by rw [Cd];exact Im r _
theorem LA {T:AF}{name:As}{k n:Int}(h0:0≤k)(h6:k < 6):T.Il name (6 - k).toNat n=if (decide (k=T.b) || !decide ((T.w.AN.at k).name=name) || !T.w.I2 T.b k)=true then T.Il name (6 - (k+1)).toNat n else if decide (n - 1=0)=true then some k else T.Il name (6 - (k+1)).toNat (n - 1):=by
 obtain⟨m,rfl⟩:=Int.eq_ofNat_of_zero_le h0
 have e:(6 - (m:Int)).toNat=(6 - ((m:Int)+1)).toNat+1:=by omega
 rw [e,Il,show(((6 - ((6 - ((m:Int)+1)).toNat+1):Nat)):Int)=(m:Int) by omega]
@[simp] theorem Fk (T:AF) (k i:Int):(T.Bw k i).out.length=T.out.length+1:=by simp [Bw]
@[simp] theorem MS (T:AF) (k:Int):(T.kind k).out.length=T.out.length+1:=by simp [kind]
theorem R4 (T:AF)(b f:Int):(T.Cj b f).b=T.b∧(T.Cj b f).out=T.out:=⟨rfl,rfl⟩
theorem Rg (T:AF):T.FH.b=T.b∧T.FH.out=T.out:=by
 unfold FH
 rw [(R4 _ _ _).1,(R4 _ _ _).2]
 have h1:=AF.Im T.own T
 have h2:=AF.RY (T.Cd T.own) 6
 exact⟨h2.1.trans h1.1,h2.2.trans h1.2⟩
theorem DD (T:AF)(b:Int)(x:An):(T.DX b x).b=T.b∧(T.DX b x).out=T.out∧(T.DX b x).w={ T.w with AN:=T.w.AN.put b x }:=⟨rfl,rfl,rfl⟩
theorem PW (T:AF):T.G3.b=(T.kind 18).b∧T.G3.out=(T.kind 18).out∧T.G3.w={ (T.kind 18).FH.w with AN:=(T.kind 18).FH.w.AN.put (T.kind 18).b default }:=by
 unfold G3
 rw [(DD _ _ _).1,(DD _ _ _).2.1,(DD _ _ _).2.2]
 exact⟨(Rg _).1,(Rg _).2,rfl⟩
theorem SJ {l:List Int}(h:∀ i∈l,0≤i∧i < 9):0≤l.getD (0:Int).toNat 0∧l.getD (0:Int).toNat 0 < 9:=by
 cases l with
 | nil=>exact⟨Int.le_refl _,show(0:Int) < 9 by decide⟩
 | cons x r=>exact h x (List.mem_cons_self ..)
theorem O3 (T:AF)(v to i:Int):(T.Cu v to i).out.length≤T.out.length+1:=by
 unfold Cu
 split
 ·simp
 ·split
  ·rw [Fk];exact Nat.le_refl _
  ·split
   ·rw [Cf];exact Nat.le_refl _
   ·split
    ·simp
    ·rw [Cf];exact Nat.le_refl _
theorem YS (T:AF)(v to i:Int):(T.Cu v to i).b=T.b:=by
 unfold Cu
 split
 ·rfl
 ·split
  ·rfl
  ·split
   ·rfl
   ·split<;>rfl
theorem QP (T:AF)(o:Order):(T.Cx o).1.out.length≤T.out.length+1:=by
 unfold Cx
 split
 ·exact T.IF _
 ·split
  ·exact T.HT _
  ·exact Nat.le_succ _
theorem Wg {X:AI}{b:Int}(hw:X.DL)(c1:(!X.Bk)=false)(c2:(decide (b < 0) || decide (6≤b) || !(X.AN.at b).here)=false):Fit ⟨X,b,[]⟩:=by
 simp only [Bool.or_eq_false_iff,decide_eq_false_iff_not,Bool.not_eq_false'] at c1 c2
 exact⟨⟨by show 0≤b;omega,by show b < 6;omega⟩,hw,c1,c2.2⟩
end AF
end Go.Ing
/- Engine: texts deep within what came in, as parts of its reading. -/
namespace Go.Ing
open Go
section
open Go.RowKit Go.ChangeShapes Go.WideShapes Go.ChangeAt
variable {H:Type} {enc:TypeId × Value→H} {P:Program} {w:World}
end
end Go.Ing
/- Laws of what beings do: doors; that rules answer at all. -/
namespace Go.Ing
open Go
theorem Vector.OS {α:Type}[Inhabited α]{n:Nat}(v:Vector α n)(i:Int):v.at i=default∨∃ j:Int,0≤j∧j < n∧v.at i=v.at j:=by
 by_cases h:i.toNat < n
 ·exact .inr ⟨(i.toNat:Int),by omega,by omega,by unfold Vector.at;rw [show((i.toNat:Nat):Int).toNat=i.toNat by omega]⟩
 ·refine .inl ?_
  unfold Vector.at
  rw [List.getD_eq_getElem?_getD,List.getElem?_eq_none (by simp;omega)]
  rfl
namespace AF
structure W8 (X:AI)(b:Int)(o:Order):Prop where
 gd:X.Bk=true
 br:0≤b∧b < 6
 here:(X.AN.at b).here=true
 v:0≤o.verb∧o.verb≤20
 w:(Dr X b o).1=(AF.act ⟨X,b,[]⟩ o).w
 out:(Dr X b o).2.1=(AF.act ⟨X,b,[]⟩ o).out
theorem cM {X:AI}{b:Int}{o:Order}(h:(Dr X b o).2.2=0):W8 X b o:=by
 unfold Dr at h
 split at h
 ·cases h
 ·rename_i h1
  split at h
  ·cases h
  ·rename_i h2
   split at h
   ·cases h
   ·rename_i h3
    have h2':=h2
    have h3':=h3
    have hd:Dr X b o=((AF.act ⟨X,b,[]⟩ o).w,(AF.act ⟨X,b,[]⟩ o).out,0):=(if_neg h1).trans ((if_neg h2).trans (if_neg h3))
    simp only [Bool.or_eq_true,decide_eq_true_eq,Bool.not_eq_true',not_or,Bool.not_eq_false] at h1 h2' h3'
    exact⟨h1,⟨by omega,by omega⟩,h2'.2,⟨by omega,by omega⟩,by rw [hd],by rw [hd]⟩
theorem W8.fit {X:AI}{b:Int}{o:Order}(h:W8 X b o)(hw:X.DL):Fit ⟨X,b,[]⟩:=⟨h.br,hw,h.gd,h.here⟩
end AF
end Go.Ing
/- What beings do keeps the land good: all orders. -/
namespace Go.Ing
open Go
namespace AF
theorem H8 {T:AF}(h:T.Fit){c f:Int}(c0:0≤c)(c6:c < 6)(f0:0≤f)(f6:f≤6)(hh:f≠0→(T.w.AN.at c).here=true):DH T (T.Cj c f):=by
 have hg:=AI.Fa h.gd c0 c6
 have hb:∀ a,0≤a→((T.Cj c f).w.AN.at a).here=(T.w.AN.at a).here:=fun a a0=>by
  show((T.w.AN.put c { T.w.AN.at c with B2:=f }).at a).here=_
  rw [JT _ _ _ _ c0 c6 a0]
  split
  ·rename_i e;subst e;rfl
  ·rfl
 refine⟨rfl,⟨h.b,Ev h.br (h.br.be c),AI.Iz h.gd c0 c6 ?_ fun i i0 i9 hw ha=>?_,(hb T.b h.b.1).trans h.here⟩,Mx c0 c6 fun _=>rfl⟩
 ·unfold AI.Dq at hg ⊢
  simp only [Bool.or_eq_false_iff,decide_eq_false_iff_not,Bool.and_eq_false_iff,Bool.not_eq_false'] at hg ⊢
  obtain⟨⟨⟨⟨⟨⟨⟨q1,q2⟩,q3⟩,q4⟩,q5⟩,q6⟩,q7⟩,q8⟩:=hg
  refine⟨⟨⟨⟨⟨⟨⟨q1,q2⟩,q3⟩,q4⟩,by omega⟩,by omega⟩,?_⟩,q8⟩
  by_cases e:f=0
  ·exact .inr (by simp [e])
  ·exact .inl (hh e)
 ·show(T.w.AN.at c).here=true
  have:=AI.Hw h.gd i0 i9
  rcases this.Ca with ⟨a,_⟩ | ⟨_,_,a⟩ | ⟨a,_⟩
  ·omega
  ·rw [ha] at a;exact a
  ·omega
theorem Th {T:AF}(h:T.Fit)(o:Order):DH T (T.FC o):=by
 unfold FC
 generalize (if (!decide (o.nth=1) || o.Bn)=true then [] else o.name)=nm
 have hw:=T.JX nm
 have g:DH T (T.BA nm).1:=h.goes.Em hw.1 hw.2
 split
 ·exact g
 ·rename_i h1
  have hs:=KK (T:=T) (u:=nm) (by simpa using h1)
  have hk:(T.w.AN.at (T.BA nm).2.1).here=true:=(AI.HV (AI.LM hs.2.2.2).2.1).2.2
  have hgb:=g.fit.b
  have g1:=g.trans (H8 g.fit (c:=(T.BA nm).1.b) (f:=(T.BA nm).2.1+1) g.fit.b.1 g.fit.b.2 (by omega) (by omega) fun _=>g.fit.here)
  have key:DH T (if decide ((((T.BA nm).1.Cj (T.BA nm).1.b ((T.BA nm).2.1+1)).w.AN.at (T.BA nm).2.1).B2=0)=true then((T.BA nm).1.Cj (T.BA nm).1.b ((T.BA nm).2.1+1)).Cj (T.BA nm).2.1 ((T.BA nm).1.b+1) else(T.BA nm).1.Cj (T.BA nm).1.b ((T.BA nm).2.1+1)):=by
   split
   ·refine g1.trans (H8 g1.fit hs.1 hs.2.1 (by omega) (by omega) fun _=>?_)
    show(((T.BA nm).1.w.AN.put (T.BA nm).1.b _).at _).here=true
    rw [JT _ _ _ _ g.fit.b.1 g.fit.b.2 hs.1,if_neg (by rw [hw.2];exact hs.2.2.1),hw.1]
    exact hk
   ·exact g1
  exact key.Em rfl rfl
theorem M8 {T:AF}(h:T.Fit){first:Bool}{i:Int}{v:Bool}{ev:Int}(hm:I6 T.w T.b i)(h1:(T.w.AP.at i).kind≠0)(h2:(T.w.AP.at i).kind=2→(T.w.AP.at i).Ca=1):DH T (T.before first i v ev):=by
 unfold before
 split
 ·have g:=Eb h hm (t:={ T.w.AP.at i with on:=v }) rfl rfl (AI.VN h.gd hm.1 hm.2.1 h1 h2)
  exact g.Em rfl rfl
 ·have g:DH T (T.Bw ev i):=h.goes.Em rfl rfl
  exact g.trans (Eb g.fit hm rfl rfl (AI.VN h.gd hm.1 hm.2.1 h1 h2))
theorem L1 {T:AF}(h:T.Fit){r d:Int}{v:Bool}(r0:0≤r)(r6:r < 6)(d0:0≤d)(d6:d < 6)(hv:v=true→(T.w.BV.at r).CV.at d≠0):DH T (T.DA r d v):=
 ⟨rfl,⟨h.b,Tw h.br,AI.Vl h.gd r0 r6 d0 d6 hv,h.here⟩,WH r0 r6⟩
theorem Ws {T:AF}(h:T.Fit){d:Int}{on:Bool}{ev:Int}(d0:0≤d)(d6:d < 6):DH T (T.G7 d on ev):=by
 have hx:=h.exit d0 d6
 have hr:=h.room
 unfold G7
 split
 ·exact h.goes.Em rfl rfl
 ·rename_i h1
  split
  ·exact h.goes.Em rfl rfl
  ·have h1':¬ (T.w.BV.at (T.w.AN.at T.b).room).CV.at d - 1 < 0:=fun e=>h1 (decide_eq_true e)
   have g1:=L1 h (v:=!on) hr.1 hr.2 d0 d6 fun _=>by omega
   have ho:=AI.MJ d
   have key:DH T (if decide (((T.DA T.me.room d (!on)).w.BV.at ((T.w.BV.at T.me.room).CV.at d - 1)).CV.at (AI.opposite d)=T.me.room+1)=true then(T.DA T.me.room d (!on)).DA ((T.w.BV.at T.me.room).CV.at d - 1) (AI.opposite d) (!on) else T.DA T.me.room d (!on)):=by
    split
    ·rename_i h3
     refine g1.trans (L1 g1.fit (v:=!on) (r:=(T.w.BV.at (T.w.AN.at T.b).room).CV.at d - 1) (d:=AI.opposite d) (by omega) (by omega) ho.1 ho.2 fun _=>?_)
     have h3':=of_decide_eq_true h3
     intro e
     have h3'':((T.DA T.me.room d (!on)).w.BV.at ((T.w.BV.at (T.w.AN.at T.b).room).CV.at d - 1)).CV.at (AI.opposite d)=(T.w.AN.at T.b).room+1:=h3'
     have e':((T.DA T.me.room d (!on)).w.BV.at ((T.w.BV.at (T.w.AN.at T.b).room).CV.at d - 1)).CV.at (AI.opposite d)=0:=e
     omega
    ·exact g1
   exact key.Em rfl rfl
theorem Se {v:Int}:setKind v=1∨setKind v=2∨setKind v=3:=by
 unfold setKind
 split
 ·exact .inl rfl
 ·split
  ·exact .inr (.inl rfl)
  ·exact .inr (.inr rfl)
theorem YX {T:AF}(h:T.Fit)(o:Order):DH T (T.set o):=by
 unfold set
 split
 ·rename_i h1
  have:=Words.VJ (Bool.and_eq_true_iff.1 h1).1
  exact Ws h this.1 this.2
 ·split
  ·exact h.goes.Em rfl rfl
  ·rename_i h2
   split
   ·exact h.goes.Em rfl rfl
   ·simp only [Bool.or_eq_true,decide_eq_true_eq,Bool.not_eq_true',decide_eq_false_iff_not,not_or,Decidable.not_not] at h2
    have hm:(T.EZ o).getD 0 0∈T.EZ o:=PQ (decide_eq_false h2.1)
    have hm2:=Dw hm
    have hk:=Se (v:=o.verb)
    have hmine:I6 T.w T.b ((T.EZ o).getD 0 0)∧(setKind o.verb=2→(T.w.AP.at ((T.EZ o).getD 0 0)).Ca=1):=by
     split at hm2
     ·rename_i h3
      have h3':=of_decide_eq_true h3
      rcases List.mem_append.1 hm2 with hq | hq
      ·exact⟨(FY hq).UN,fun e=>by omega⟩
      ·exact⟨Mp hq,fun e=>by omega⟩
     ·exact⟨(FY hm2).UN,fun _=>(FY hm2).2.2.1⟩
    have hk0:(T.w.AP.at ((T.EZ o).getD 0 0)).kind≠0:=by rw [h2.2];omega
    have hk2:(T.w.AP.at ((T.EZ o).getD 0 0)).kind=2→(T.w.AP.at ((T.EZ o).getD 0 0)).Ca=1:=fun e=>hmine.2 (by rw [← h2.2];exact e)
    split
    ·exact M8 h hmine.1 hk0 hk2
    ·exact M8 h hmine.1 hk0 hk2
theorem J8 {T:AF}{i j:Int}(h0:0≤i)(h9:i < 9)(j0:0≤j):(T.E8 i).w.AP.at j=if j=i then { T.w.AP.at i with on:=if decide ((T.w.AP.at i).kind=2)=true then false else(T.w.AP.at i).on,Ca:=0,at_:=T.me.room } else T.w.AP.at j:=JT _ _ _ _ h0 h9 j0
theorem RZ {T:AF}(h:T.Fit){i:Int}(hm:I6 T.w T.b i):DH T (T.E8 i):=
 Eb h hm rfl rfl (AI.NC h.gd hm.1 hm.2.1 h.room (fun e=>by rw [if_neg (by rw [e];decide)];exact(AI.Hw h.gd hm.1 hm.2.1).plain e) (fun⟨e1,e2⟩=>by rw [if_pos (decide_eq_true e1)] at e2;cases e2))
theorem Jd:∀ {l:List Int} {T:AF},T.Fit→(∀ i∈l,I6 T.w T.b i)→DH T (T.Cd l)∧∀ j,0≤j→j < 9→(((T.Cd l).w.AP.at j).Ca=0∨(j ∉ l∧(T.Cd l).w.AP.at j=T.w.AP.at j))
 | [],T,h,_=>⟨h.goes,fun j _ _=> .inr ⟨by simp,rfl⟩⟩
 | i :: r,T,h,hm=>by
  have hi:=hm i (List.mem_cons_self ..)
  have g1:=RZ h hi
  obtain⟨g2,k2⟩:=Jd (l:=r) g1.fit fun j hj=>by
   have hj':=hm j (List.mem_cons_of_mem _ hj)
   refine⟨hj'.1,hj'.2.1,?_⟩
   rw [J8 hi.1 hi.2.1 hj'.1]
   split
   ·intro e;cases e
   ·exact hj'.2.2
  refine⟨g1.trans g2,fun j j0 j9=>?_⟩
  rcases k2 j j0 j9 with e | ⟨e1,e2⟩
  ·exact .inl e
  ·have hd:=J8 (T:=T) hi.1 hi.2.1 j0
   by_cases hji:j=i
   ·rw [if_pos hji] at hd
    exact .inl (by rw [show(T.Cd (i :: r)).w.AP.at j=_ from e2,hd])
   ·rw [if_neg hji] at hd
    exact .inr ⟨by simp [hji,e1],e2.trans hd⟩
theorem LX {T:AF}(h:T.Fit):∀ {k:Nat},k≤6→DH T (T.DW k)∧(T.DW k).w.AP=T.w.AP
 | 0,_=>⟨h.goes,rfl⟩
 | k+1,hk=>by
  obtain⟨g,e⟩:=LX (k:=k) h (by omega)
  unfold DW
  split
  ·exact⟨g.trans (H8 g.fit (by omega) (by omega) (Int.le_refl _) (by decide) fun e=>absurd rfl e),e⟩
  ·exact⟨g,e⟩
theorem Ln (T:AF):T.FH=((T.Cd T.own).DW 6).Cj T.b 0:=by unfold FH;rfl
theorem Yp {T:AF}(h:T.Fit):DH T T.FH:=by
 have g1:=(Jd h (l:=T.own) fun i hi=>(FY hi).UN).1
 have g2:=(LX g1.fit (k:=6) (Nat.le_refl _)).1
 have g3:=g1.trans g2
 have g4:=H8 g3.fit (c:=T.b) (f:=0) h.b.1 h.b.2 (Int.le_refl _) (by decide) (fun e=>(e rfl).elim)
 rw [Ln]
 exact g3.trans g4
theorem Pu (T:AF)(b f:Int):(T.Cj b f).w.AP=T.w.AP:=rfl
theorem SP {T:AF}(h:T.Fit){j:Int}(j0:0≤j)(j9:j < 9):¬ ((T.FH.w.AP.at j).Ca=1∧(T.FH.w.AP.at j).at_=T.b):=by
 obtain⟨g1,k1⟩:=Jd h (l:=T.own) fun i hi=>(FY hi).UN
 have k2:=(LX g1.fit (k:=6) (Nat.le_refl _)).2
 rw [Ln,Pu,k2]
 rcases k1 j j0 j9 with e | ⟨e1,e2⟩
 ·rw [e];exact fun h=>by cases h.1
 ·rw [e2]
  intro⟨a,b⟩
  refine e1 ?_
  unfold own AI.has
  exact List.mem_filter.2 ⟨List.mem_map.2 ⟨j.toNat,List.mem_range.2 (by omega),by show((j.toNat:Nat):Int)=j;omega⟩,by rw [a,b];simp⟩
theorem QU {T:AF}(h:T.Fit):DH T T.FH∧∀ j,0≤j→j < 9→¬ ((T.FH.w.AP.at j).Ca=1∧(T.FH.w.AP.at j).at_=T.b):=⟨Yp h,fun _ j0 j9=>SP h j0 j9⟩
theorem TN {T:AF}(h:T.Fit):T.G3.w.Bk=true∧Step T.b T.w T.G3.w:=by
 have g1:DH T (T.kind 18):=h.goes.Em rfl rfl
 obtain⟨g2,k⟩:=QU g1.fit
 have g:=g1.trans g2
 rw [(T.PW).2.2]
 exact⟨AI.Iz (X:=(T.kind 18).FH.w) g.fit.gd h.b.1 h.b.2 (by decide) fun i i0 i9 e1 e2=>absurd ⟨e1,e2⟩ (k i i0 i9),g.st.trans (Mx h.b.1 h.b.2 fun e=>absurd rfl e)⟩
theorem Vt {T:AF}(h:T.Fit)(o:Order)(h0:0≤o.verb)(h1:o.verb≤20):(T.act o).w.Bk=true∧Step T.b T.w (T.act o).w:=by
 have k:∀ {T':AF},DH T T'→T'.w.Bk=true∧Step T.b T.w T'.w:=fun g=>⟨g.fit.gd,g.st⟩
 unfold act
 split
 ·rename_i c;exact k (Vd h h0 (of_decide_eq_true c))
 ·split
  ·exact k (Qf h)
  ·split
   ·exact k (h.goes.Em (T.Hk _ _).1 (T.Hk _ _).2.1)
   ·split
    ·exact k (h.goes.Em rfl rfl)
    ·split
     ·exact TN h
     ·split
      ·exact k (Th h o)
      ·split
       ·exact k (W0 h o)
       ·split
        ·rename_i c
         simp only [Bool.or_eq_true,decide_eq_true_eq] at c
         exact k (UA h (by omega))
        ·exact k (YX h o)
theorem keeps {X:AI}{b:Int}{o:Order}(hw:X.DL)(h:(Dr X b o).2.2=0):(Dr X b o).1.Bk=true∧Step b X (Dr X b o).1:=by
 have k:=cM h
 rw [k.w]
 exact Vt (k.fit hw) o k.v.1 k.v.2
end AF
end Go.Ing

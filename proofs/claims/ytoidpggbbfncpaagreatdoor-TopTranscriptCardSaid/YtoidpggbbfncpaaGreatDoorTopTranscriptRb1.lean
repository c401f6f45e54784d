/- What the functions that the law of this seat reaches compute, and the plain laws of it. No condition. -/
import Derived.Test.YtoidpggbbfncpaaGreatDoorTopTranscriptEc3
import Derived.Test.YtoidpggbbfncpaaGreatDoorTopTranscriptRa1
set_option linter.unusedSimpArgs false
set_option linter.unusedVariables false
/- What people type: plain functions, and what is known of pieces. -/
namespace Go.Ing
open Go
namespace Words
theorem Mn (c:UInt8):∀ s:Ad,(Lib.indexByte s c=-1∧c ∉ s)∨∃ i:Nat,Lib.indexByte s c=i∧i < s.length∧c ∉ s.take i∧s.drop i=c :: s.drop (i+1)
 | []=> .inl ⟨rfl,by simp⟩
 | b :: r=>by
  by_cases h:b=c
  ·subst h
   exact .inr ⟨0,by simp [Lib.indexByte],by simp,by simp,by simp⟩
  ·have hb:(b == c)=false:=by simpa using h
   rcases Mn c r with ⟨h1,h2⟩ | ⟨i,h1,h2,h3,h4⟩
   ·exact .inl ⟨by simp [Lib.indexByte,hb,h1],by simp [Ne.symm h,h2]⟩
   ·refine .inr ⟨i+1,?_,by simp;omega,?_,by simpa using h4⟩
    ·have:((i:Int) == -1)=false:=by simp
     simp [Lib.indexByte,hb,h1,this]
    ·simp [Ne.symm h,h3]
def pieces (c:UInt8):Ad→List Ad
 | []=> [[]]
 | x :: r=>if x=c then [] :: pieces c r else(x :: (pieces c r).headD []) :: (pieces c r).tail
theorem RL (c:UInt8)(s:Ad):pieces c s≠ []:=by
 cases s with
 | nil=>simp [pieces]
 | cons x r=>unfold pieces;split<;>simp
theorem LR {c:UInt8}:∀ {s:Ad},c ∉ s→pieces c s = [s]
 | [],_=>rfl
 | x :: r,h=>by
  simp only [List.mem_cons,not_or] at h
  rw [pieces,if_neg (Ne.symm h.1),LR h.2];rfl
theorem MO {c:UInt8}(r:Ad):∀ {a:Ad},c ∉ a→pieces c (a++c :: r)=a :: pieces c r
 | [],_=>by simp [pieces]
 | x :: a,h=>by
  simp only [List.mem_cons,not_or] at h
  rw [List.cons_append,pieces,if_neg (Ne.symm h.1),MO r h.2];rfl
theorem Fp (c:UInt8):∀ s:Ad,(pieces c s).length=s.count c+1
 | []=>rfl
 | x :: r=>by
  unfold pieces
  have ih:=Fp c r
  have hne:=RL c r
  split
  ·rename_i h;simp [h,ih]
  ·rename_i h
   have:(x == c)=false:=by simpa using h
   rw [List.count_cons,this]
   obtain⟨p,q,hp⟩:=List.exists_cons_of_ne_nil hne
   rw [hp] at ih ⊢
   simpa using ih
theorem U9 {c:UInt8}{s:Ad}{i:Nat}(h3:c ∉ s.take i)(h4:s.drop i=c :: s.drop (i+1)):pieces c s=s.take i :: pieces c (s.drop (i+1)):=by
 conv=>lhs;rw [← List.take_append_drop i s,h4]
 exact MO _ h3
/-! #### small letters -/
def YL (c:UInt8):UInt8:=if (decide (65≤(c.toNat:Int)) && decide ((c.toNat:Int)≤90))=true then u8 ((c.toNat:Int)+97 - 65) else c
def low (w:Ad):Ad:=w.map YL
def words (s:Ad):List Ad:=((pieces 32 s).filter fun w=>!decide (w = [])).map low
theorem cq {c:UInt8}(h:(decide (65≤(c.toNat:Int)) && decide ((c.toNat:Int)≤90))=true):u8 ((c.toNat:Int)+97 - 65)=YL c:=(if_pos h).symm
theorem cy {c:UInt8}(h:(decide (65≤(c.toNat:Int)) && decide ((c.toNat:Int)≤90))=false):YL c=c:=if_neg (by rw [h];decide)
def Hu (w:Ad)(k:Nat):Ad:=(w.take k).map YL++w.drop k
theorem Ou (w:Ad)(k:Nat):(Hu w k).length=w.length:=by simp [Hu];omega
theorem W1 {w:Ad}{k:Int}(h0:0≤k)(h1:k < w.length):(Hu w k.toNat).getD k.toNat 0=w.getD k.toNat 0:=by
 have hk:k.toNat < w.length:=by omega
 unfold Hu
 rw [List.getD_eq_getElem?_getD,List.getElem?_append_right (by simp;omega)]
 simp [List.getD_eq_getElem?_getD,Nat.min_eq_left (Nat.le_of_lt hk)]
theorem ZD (w:Ad):Hu w w.length=low w:=by simp [Hu,low]
theorem UN {w:Ad}{k:Int}(h0:0≤k)(h1:k < w.length):(Hu w k.toNat).set k.toNat (YL (w.getD k.toNat 0))=Hu w (k+1).toNat:=by
 obtain⟨n,rfl⟩:=Int.eq_ofNat_of_zero_le h0
 have hn:n < w.length:=by omega
 rw [show((n:Int)).toNat=n by omega,show((n:Int)+1).toNat=n+1 by omega]
 unfold Hu
 rw [List.drop_eq_getElem_cons hn,List.set_append_right _ _ (by simp;omega)]
 simp only [List.length_map,List.length_take,Nat.min_eq_left (Nat.le_of_lt hn),Nat.sub_self,List.set_cons_zero]
 rw [List.take_add_one,List.map_append,List.append_assoc]
 simp [List.getD_eq_getElem?_getD,hn]
theorem YZ {w:Ad}{k:Int}(h0:0≤k)(h1:k < w.length)(h:YL (w.getD k.toNat 0)=w.getD k.toNat 0):Hu w k.toNat=Hu w (k+1).toNat:=by
 rw [← UN h0 h1,h]
 have hk:k.toNat < (Hu w k.toNat).length:=by rw [Ou];omega
 have e:=W1 h0 h1
 rw [← e,List.getD_eq_getElem?_getD,List.getElem?_eq_getElem hk]
 simp
structure PD (c:UInt8)(s:Ad)(i:Int)(r:Ad)(xs:List Ad):Prop where
 i0:0≤i
 i1:i≤s.count c
 len:xs.length=s.count c+1
 eq:pieces c s=xs.take i.toNat++pieces c r
 rl:r.length≤s.length
theorem PD.start (c:UInt8)(s:Ad)(n:Nat)(hn:n=s.count c+1):PD c s 0 s (List.replicate n []):=
 ⟨Int.le_refl _,by omega,by simp [hn],by simp,Nat.le_refl _⟩
theorem PD.left {c:UInt8}{s:Ad}{i:Int}{r:Ad}{xs:List Ad}(h:PD c s i r xs):(r.count c:Int)=s.count c - i:=by
 have:=congrArg List.length h.eq
 rw [List.length_append,Fp,Fp,List.length_take,h.len] at this
 have h1:=h.i0;have h2:=h.i1
 omega
theorem PD.next {c:UInt8}{s:Ad}{i:Int}{r:Ad}{xs:List Ad}(h:PD c s i r xs){m:Int}(hm:Lib.indexByte r c=m)(h0:¬ m < 0):0≤m∧m < r.length∧PD c s (i+1) (r.drop (m+1).toNat) (xs.set i.toNat (r.take m.toNat)):=by
 have hi:=h.i0
 rcases Mn c r with ⟨e,_⟩ | ⟨j,e,h1,h2,h3⟩
 ·omega
 ·obtain rfl:m=j:=by omega
  have hl:=h.left
  have hp:=U9 h2 h3
  have hc:(pieces c r).length=(pieces c (r.drop (j+1))).length+1:=by rw [hp];simp
  rw [Fp,Fp] at hc
  have hx:=h.len
  refine⟨by omega,by omega,by omega,by omega,by simp [hx],?_,by simp;have:=h.rl;omega⟩
  rw [h.eq,hp,show(i+1).toNat=i.toNat+1 by omega,show((j:Int)+1).toNat=j+1 by omega,show((j:Int)).toNat=j by omega,List.take_add_one,List.getElem?_set_self (by omega),List.take_set_of_le (by omega)]
  simp
theorem PD.done {c:UInt8}{s:Ad}{i:Int}{r:Ad}{xs:List Ad}(h:PD c s i r xs)(he:¬ i < (s.count c:Int)∨Lib.indexByte r c < 0):i=s.count c∧(xs.set i.toNat r).take (i+1).toNat=pieces c s:=by
 have hi:=h.i0;have hi1:=h.i1;have hl:=h.left;have hx:=h.len
 have hc:c ∉ r:=by
  rcases he with he | he
  ·intro hm;have:=List.count_pos_iff.2 hm;omega
  ·rcases Mn c r with ⟨_,h2⟩ | ⟨j,e,_⟩
   ·exact h2
   ·omega
 have h0:r.count c=0:=List.count_eq_zero.2 hc
 refine⟨by omega,?_⟩
 rw [h.eq,LR hc,show(i+1).toNat=i.toNat+1 by omega,List.take_add_one,List.getElem?_set_self (by omega),List.take_set_of_le (by omega)]
 rfl
theorem Iv {c:UInt8}:∀ {s:Ad} {p:Ad},p∈pieces c s→p.length≤s.length
 | [],p,h=>by simp [pieces] at h;simp [h]
 | x :: r,p,h=>by
  unfold pieces at h
  obtain⟨q,t,hq⟩:=List.exists_cons_of_ne_nil (RL c r)
  have ih:=@Iv c r
  rw [hq] at h ih
  split at h
  ·rcases List.mem_cons.1 h with h | h
   ·simp [h]
   ·have:=ih h;simp;omega
  ·simp only [List.headD_cons,List.tail_cons] at h
   rcases List.mem_cons.1 h with h | h
   ·have:=ih (p:=q) (by simp);rw [h];simp;omega
   ·have:=ih (p:=p) (by simp [h]);simp;omega
theorem XU {c:UInt8}{s:Ad}(i:Nat):((pieces c s).getD i []).length≤s.length:=by
 rw [List.getD_eq_getElem?_getD]
 cases h:(pieces c s)[i]? with
 | none=>simp
 | some p=>exact Iv (List.mem_of_getElem? h)
def Jv (s:Ad)(k:Nat):List Ad:=(((pieces 32 s).take k).filter fun w=>!decide (w = [])).map low
theorem QP (s:Ad):words s=Jv s ((pieces 32 s).length:Int).toNat:=by
 rw [Jv,show((pieces 32 s).length:Int).toNat=(pieces 32 s).length by omega,List.take_length];rfl
theorem RC {α:Type}{xs:List α}{d:α}{k:Int}(h0:0≤k)(h1:k < xs.length):xs.take (k+1).toNat=xs.take k.toNat ++ [xs.getD k.toNat d]:=by
 have hk:k.toNat < xs.length:=by omega
 rw [show(k+1).toNat=k.toNat+1 by omega,List.take_add_one,List.getD_eq_getElem?_getD,List.getElem?_eq_getElem hk]
 rfl
theorem Zg {s:Ad}{k:Int}(h0:0≤k)(h1:k < (pieces 32 s).length)(h:(!decide ((pieces 32 s).getD k.toNat [] = []))=true):Jv s (k+1).toNat=Jv s k.toNat ++ [low ((pieces 32 s).getD k.toNat [])]:=by
 unfold Jv
 rw [RC (d:= []) h0 h1,List.filter_append,List.map_append]
 congr 1
 rw [List.filter_cons_of_pos (p:=fun w:Ad=>!decide (w = [])) h];rfl
theorem aH {s:Ad}{k:Int}(h0:0≤k)(h1:k < (pieces 32 s).length)(h:(!decide ((pieces 32 s).getD k.toNat [] = []))=false):Jv s (k+1).toNat=Jv s k.toNat:=by
 unfold Jv
 rw [RC (d:= []) h0 h1,List.filter_append,List.map_append,List.filter_cons_of_neg (p:=fun w:Ad=>!decide (w = [])) (by rw [h];decide)]
 simp
/-! #### verbs -/
def pre (s p:Ad):Bool:=decide ((p.length:Int)≤(s.length:Int)) && decide (s.take p.length=p)
def Km (w:Ad):Nat→Int × Int
 | 0=>(0,3)
 | n+1=>if pre (AH.HF.getD (20 - n) []) w=true then(((20 - n:Nat):Int),0) else Km w n
def verb (w:Ad):Int × Int:=if (!decide (w = []))=true then Km w 21 else(0,3)
theorem Vj {w:Ad}{k:Int}(h0:0≤k)(h1:k < 21):Km w (21 - k).toNat=if pre (AH.HF.getD k.toNat []) w=true then(k,0) else Km w (21 - (k+1)).toNat:=by
 rw [show(21 - k).toNat=(21 - (k+1)).toNat+1 by omega,Km,show 20 - (21 - (k+1)).toNat=k.toNat by omega,show((k.toNat:Nat):Int)=k by omega]
def eI:Vector Ad 21:=⟨AH.HF.toArray,rfl⟩
theorem Vk:B1 A6 eI=AH.DU:=by kernel_rfl
/-! #### cutting and trimming -/
def OO (s p:Ad):Ad × Bool:=if (!pre s p)=true then(s,false) else(s.drop p.length,true)
def cut (c:UInt8)(s:Ad):Ad × Ad × Bool:=if decide (0≤Lib.indexByte s c)=true then(s.take (Lib.indexByte s c).toNat,s.drop (Lib.indexByte s c+1).toNat,true) else(s,[],false)
theorem dx {c:UInt8}{s:Ad}(h:0≤Lib.indexByte s c):Lib.indexByte s c < s.length:=by
 rcases Mn c s with ⟨e,_⟩ | ⟨i,e,h1,_⟩<;>omega
theorem OU (c:UInt8)(s:Ad):(cut c s).1.length≤s.length∧(cut c s).2.1.length≤s.length:=by
 unfold cut;split<;>simp;omega
def Qj (c:UInt8)(s:Ad):Ad:=s.dropWhile (·== c)
def SA (c:UInt8)(s:Ad):Ad:=(s.reverse.dropWhile (·== c)).reverse
theorem dR {x c:UInt8}(h:(x.toNat:Int)=(c.toNat:Int)):x=c:=UInt8.toNat_inj.1 (by omega)
theorem fw {c:UInt8}{r:Ad}(h:(decide ((0:Int) < (r.length:Int)) && decide (((r.getD (0:Int).toNat 0).toNat:Int)=(c.toNat:Int)))=true):Qj c r=Qj c (r.drop 1):=by
 cases r with
 | nil=>simp at h
 | cons x r=>
  simp only [Bool.and_eq_true,decide_eq_true_eq] at h
  have:x=c:=dR h.2
  subst this
  simp [Qj]
theorem fS {c:UInt8}{r:Ad}(h:(decide ((0:Int) < (r.length:Int)) && decide (((r.getD (0:Int).toNat 0).toNat:Int)=(c.toNat:Int)))=false):Qj c r=r:=by
 cases r with
 | nil=>rfl
 | cons x r=>
  have hx:(x == c)=false:=by
   rw [Bool.eq_false_iff]
   intro e
   have:x=c:=by simpa using e
   subst this
   simp at h
  simp [Qj,hx]
theorem gi {c:UInt8}{r:Ad}(h:(decide ((0:Int) < (r.length:Int)) && decide (((r.getD ((r.length:Int) - 1).toNat 0).toNat:Int)=(c.toNat:Int)))=true):SA c r=SA c (r.take ((r.length:Int) - 1).toNat):=by
 simp only [Bool.and_eq_true,decide_eq_true_eq] at h
 have hne:r≠ []:=by rintro rfl;simp at h
 obtain⟨q,x,rfl⟩:∃ q x,r=q ++ [x]:=⟨r.dropLast,r.getLast hne,(List.dropLast_concat_getLast hne).symm⟩
 have e:(((q ++ [x]).length:Int) - 1).toNat=q.length:=by simp
 rw [e] at h ⊢
 have:x=c:=dR (by simpa [List.getD_eq_getElem?_getD] using h.2)
 subst this
 simp [SA]
theorem gY {c:UInt8}{r:Ad}(h:(decide ((0:Int) < (r.length:Int)) && decide (((r.getD ((r.length:Int) - 1).toNat 0).toNat:Int)=(c.toNat:Int)))=false):SA c r=r:=by
 by_cases hne:r = []
 ·subst hne;rfl
 ·obtain⟨q,x,rfl⟩:∃ q x,r=q ++ [x]:=⟨r.dropLast,r.getLast hne,(List.dropLast_concat_getLast hne).symm⟩
  have e:(((q ++ [x]).length:Int) - 1).toNat=q.length:=by simp
  rw [e] at h
  have hx:(x == c)=false:=by
   rw [Bool.eq_false_iff]
   intro e
   have:x=c:=by simpa using e
   subst this
   simp [List.getD_eq_getElem?_getD] at h
  simp [SA,hx]
theorem MV (c:UInt8)(s:Ad):(Qj c s).length≤s.length:=(List.dropWhile_sublist _).length_le
theorem Rw (c:UInt8)(s:Ad):(SA c s).length≤s.length:=by
 have:=(List.dropWhile_sublist (l:=s.reverse) (·== c)).length_le
 simpa [SA] using this
/-! #### the rest of an order -/
def many (z:Int):Bool:=decide (z=7) || decide (z=8) || decide (z=9)
def Pu (z:Int):Ad × Bool:=if decide (z=7)=true then([102,114,111,109],false) else if decide (z=9)=true then([105,110],true) else if decide (z=10)=true then([116,111],true) else([],false)
def QM (s:Ad):Nat→Int × Bool
 | 0=>(0,false)
 | n+1=>if decide (AH.HF.getD (5 - n) []=s)=true then(((5 - n:Nat):Int),true) else QM s n
def dir (s:Ad):Int × Bool:=QM s 6
theorem X4 {s:Ad}{k:Int}(h0:0≤k)(h1:k < 6):QM s (6 - k).toNat=if decide (AH.HF.getD k.toNat []=s)=true then(k,true) else QM s (6 - (k+1)).toNat:=by
 rw [show(6 - k).toNat=(6 - (k+1)).toNat+1 by omega,QM,show 5 - (6 - (k+1)).toNat=k.toNat by omega,show((k.toNat:Nat):Int)=k by omega]
/-! #### nouns -/
def Qn (k rest:Ad):Int × Ad × Bool × Int:=
 match Lib.atoiAll k with
 | .ok n=>if (decide (n < 1) || decide (99 < n) || decide (((k.getD (0:Int).toNat 0).toNat:Int) < 49) || decide (57 < ((k.getD (0:Int).toNat 0).toNat:Int)) || decide (rest = []) || decide (0≤Lib.indexByte rest 46))=true then(0,[],false,1) else(n,rest,false,0)
 | _=>(0,[],false,1)
theorem Wr {k rest:Ad}{n:Int}(h:Lib.atoiAll k = .ok n):Qn k rest=if (decide (n < 1) || decide (99 < n) || decide (((k.getD (0:Int).toNat 0).toNat:Int) < 49) || decide (57 < ((k.getD (0:Int).toNat 0).toNat:Int)) || decide (rest = []) || decide (0≤Lib.indexByte rest 46))=true then(0,[],false,1) else(n,rest,false,0):=by
 unfold Qn;rw [h]
theorem aI {k rest:Ad}(h:∀ j,Lib.atoiAll k≠ .ok j):Qn k rest=(0,[],false,1):=by
 unfold Qn
 split
 ·rename_i n e;exact absurd e (h n)
 ·rfl
theorem TT {k:Ad}{n:Int}(h:Lib.atoiAll k = .ok n):0 < k.length:=by
 cases k with
 | nil=>simp [Lib.atoiAll] at h
 | cons x r=>simp
def Ee (u:Ad):Int × Ad × Bool × Int:=
 if decide (u = [97,108,108])=true then(1,[],true,0)
 else if ((OO u [97,108,108,46]).2 && !decide ((OO u [97,108,108,46]).1 = []) && !decide (0≤Lib.indexByte (OO u [97,108,108,46]).1 46))=true then(1,(OO u [97,108,108,46]).1,true,0)
 else if (!(cut 46 u).2.2)=true then(if decide (u = [])=true then(0,[],false,1) else(1,u,false,0))
 else Qn (cut 46 u).1 (cut 46 u).2.1
/-! #### orders -/
theorem Q3 (u:Ad):∀ n,n≤21→0≤(Km u n).1∧(Km u n).1≤20
 | 0,_=>by simp [Km]
 | n+1,h=>by
  unfold Km
  split
  ·simp only;omega
  ·exact Q3 u n (by omega)
theorem Yh (u:Ad):0≤(verb u).1∧(verb u).1≤20:=by
 unfold verb;split
 ·exact Q3 u 21 (Nat.le_refl _)
 ·simp
def said (s:Ad):Ad:=Qj 32 (SA 32 (cut 32 (Qj 32 s)).2.1)
def o0 (v:Int):Order:={ (default:Order) with verb:=v }
def Nk (o:Order)(j:Ad × Bool)(W:List Ad)(m:Nat):Order × Int:=
 if (decide ((m:Int)=0) && !j.2)=true then(o,0)
 else if (!decide ((m:Int)=1) || decide (j.1 = []))=true then(default,1)
 else({ o with second:=W.getD 0 [] },0)
def P5 (o:Order)(j:Ad × Bool)(W:List Ad)(m:Nat):Order × Int:=
 if (decide (0 < (m:Int)) && !decide (j.1 = []) && decide (W.getD 0 []=j.1))=true then(if decide (((m - 1:Nat):Int)=0)=true then(default,1) else Nk o j (W.drop 1) (m - 1))
 else Nk o j W m
def Nc (v:Int)(W:List Ad)(m:Nat):Order × Int:=
 if (!decide ((Ee (W.getD 0 [])).2.2.2=0) || ((Ee (W.getD 0 [])).2.2.1 && !many v))=true then(default,1)
 else P5 ⟨v,(Ee (W.getD 0 [])).1,(Ee (W.getD 0 [])).2.2.1,(Ee (W.getD 0 [])).2.1,[],[]⟩ (Pu v) (W.drop 1) (m - 1)
def VG (s:Ad)(v:Int)(W:List Ad)(m:Nat):Order × Int:=
 if decide (v=11)=true then(if decide (said s = [])=true then(default,1) else(⟨v,0,false,[],[],said s⟩,0))
 else if (decide (v≤6) || decide (19≤v))=true then(if decide (0 < (m:Int))=true then(default,1) else(o0 v,0))
 else if decide ((m:Int)=0)=true then(default,1)
 else if (decide (v=12) || decide (v=13))=true then
  (if (decide ((verb (W.getD 0 [])).2=0) && decide ((verb (W.getD 0 [])).1 < 6) && decide ((m:Int)=1))=true then(⟨v,1,false,AH.HF.getD (verb (W.getD 0 [])).1.toNat [],[],[]⟩,0) else Nc v W m)
 else Nc v W m
def parse (s:Ad):Order × Int:=
 if decide (((words s).length:Int)=0)=true then(default,1)
 else if (!decide ((verb ((words s).getD 0 [])).2=0))=true then(default,(verb ((words s).getD 0 [])).2)
 else VG s (verb ((words s).getD 0 [])).1 ((words s).drop 1) ((words s).length - 1)
theorem bc (w:Ad):(low w).length=w.length:=by simp [low]
theorem ao (s:Ad)(i:Nat):((words s).getD i []).length≤s.length:=by
 rw [List.getD_eq_getElem?_getD]
 cases h:(words s)[i]? with
 | none=>simp
 | some p=>
  have hm:=List.mem_of_getElem? h
  unfold words at hm
  obtain⟨q,hq,rfl⟩:=List.mem_map.1 hm
  rw [Option.getD_some,bc]
  exact Iv (List.mem_filter.1 hq).1
theorem NR (s:Ad)(i j:Nat):(((words s).drop j).getD i []).length≤s.length:=by
 rw [List.getD_eq_getElem?_getD,List.getElem?_drop,← List.getD_eq_getElem?_getD];exact ao s _
end Words
end Go.Ing
/- What people type: plain laws. -/
namespace Go.Ing
open Go
namespace Words
/-! #### a shorter beginning -/
/-! #### what is parsed is good -/
structure dH (o:Order):Prop where
 v0:0≤o.verb
 v1:o.verb≤20
 n0:0≤o.nth
 n1:o.nth≤99
 al:o.Bq=true→o.verb=7∨o.verb=8∨o.verb=9
 tx:o.text≠ []↔o.verb=11
 s1:o.second = []∨o.verb=7∨o.verb=9∨o.verb=10
 s2:o.second≠ []∨(o.verb≠9∧o.verb≠10)
def Hz (r:Order × Int):Prop:=(r.2=0→dH r.1)∧(r.2≠0→r.1=default)
theorem Hz.bad (e:Int)(he:e≠0):Hz (default,e):=⟨fun h=>absurd h he,fun _=>rfl⟩
theorem Hz.ok {o:Order}(h:dH o):Hz (o,0):=⟨fun _=>h,fun h=>absurd rfl h⟩
theorem YY (k r:Ad):(Qn k r).2.2.2=0→0≤(Qn k r).1∧(Qn k r).1≤99:=by
 unfold Qn
 split
 ·split
  ·intro h;simp at h
  ·rename_i c
   intro _
   simp only [Bool.or_eq_true,decide_eq_true_eq,not_or] at c
   show 0≤_∧_≤99
   exact⟨by simp only;omega,by simp only;omega⟩
 ·intro h;simp at h
theorem Xa (u:Ad):(Ee u).2.2.2=0→0≤(Ee u).1∧(Ee u).1≤99:=by
 unfold Ee
 split
 ·intro _;simp
 ·split
  ·intro _;simp
  ·split
   ·split
    ·intro h;simp at h
    ·intro _;simp
   ·exact YY _ _
/-! #### spaces ahead and behind -/
def Cu:Ad→Ad
 | []=> []
 | x :: r=>if x=32 then r else Cu r
end Words
end Go.Ing
/- Verbs and nouns as the document has them. -/
namespace Go.Ing
open Go
namespace Words
/-! #### nouns -/
end Words
end Go.Ing
/- Orders as the document has them. -/
namespace Go.Ing
open Go
namespace Words
/-! #### what is said -/
/-! #### orders -/
def alone (v:Int):Bool:=decide (v < 7) || decide (18 < v)
end Words
end Go.Ing
/- The program's data, in Lean, and their parts. -/
namespace Go.Ing
open Go
structure Af where
 w:AH
 b:Int
 out:Hd
instance:Inhabited Af:=⟨⟨default,0,⟨none,0,0⟩⟩⟩
def Af.enc (x:Af):List Value:=AH.enc x.w++Az x.b++Dh x.out
theorem Af.fl:Flat Af.enc 167:=⟨fun x=>by simp [Af.enc,AH.fl.len,Ix.len,B9.len],fun x v hv=>by
 simp only [Af.enc,List.mem_append] at hv
 rcases hv with (h | h) | h
 ·exact AH.fl.one _ v h
 ·exact B9.one _ v h
 ·exact Ix.one _ v h⟩
theorem Af.l0:AU Af.enc (AH.enc) 0 165 (fun x=>x.w) (fun x y=>{ x with w:=y }):=
 AU.Ey AH.fl (fun _=> []) (fun x=>Az x.b++Dh x.out) (fun _=>rfl) (fun x=>by simp [Af.enc]) (fun x y=>by simp [Af.enc])
theorem Af.l1:AU Af.enc (Az) 165 1 (fun x=>x.b) (fun x y=>{ x with b:=y }):=
 AU.Ey B9 (fun x=>AH.enc x.w) (fun x=>Dh x.out) (fun x=>by simp [AH.fl.len]) (fun x=>by simp [Af.enc]) (fun x y=>by simp [Af.enc])
theorem Af.l2:AU Af.enc (Dh) 166 1 (fun x=>x.out) (fun x y=>{ x with out:=y }):=
 AU.Ey Ix (fun x=>AH.enc x.w++Az x.b) (fun _=> []) (fun x=>by simp [AH.fl.len,B9.len]) (fun x=>by simp [Af.enc]) (fun x y=>by simp [Af.enc])
end Go.Ing
/- What comes of what beings do: plain functions. -/
namespace Go.Ing
open Go
structure AE where
 w:AH
 b:Int
 out:List Event
namespace AE
def GF (k:Int):Event:=⟨k,0,0,-1,0,0,[],[],[],[],default⟩
def me (T:AE):Am:=T.w.AO.at T.b
def ZG (T:AE)(e:Event):Event:={ e with DW:=T.b,G9:=T.me.name,room:=T.me.room }
def Cf (T:AE)(e:Event):Event:=if decide (0≤e.other)=true then { T.ZG e with ED:=(T.w.AO.at e.other).name } else T.ZG e
def BV (T:AE)(e:Event):AE:={ T with out:=T.out ++ [T.w.Gj (T.Cf e) 6] }
def kind (T:AE)(k:Int):AE:=T.BV (GF k)
def BM (T:AE)(k i:Int):AE:=T.BV { GF k with BM:=(T.w.AP.at i).name }
def tell (T:AE)(s:Ad):AE:=T.BV { GF 16 with text:=s }
@[simp] theorem fG (T:AE) (e:Event):(T.BV e).w=T.w:=rfl
@[simp] theorem fI (T:AE) (e:Event):(T.BV e).b=T.b:=rfl
@[simp] theorem Cn (T:AE) (e:Event):(T.BV e).out.length=T.out.length+1:=by simp [BV]
@[simp] theorem il (T:AE) (s:Ad):(T.tell s).w=T.w:=rfl
@[simp] theorem jX (T:AE) (s:Ad):(T.tell s).b=T.b:=rfl
@[simp] theorem CM (T:AE) (s:Ad):(T.tell s).out.length=T.out.length+1:=by simp [tell]
/-! #### lists -/
def Ge (w:AH):Ad→List Int→Ad
 | s,[]=>s
 | s,i :: r=>Ge w (if (w.AP.at i).on=true then s ++ [32]++(w.AP.at i).name ++ [42] else s ++ [32]++(w.AP.at i).name) r
def MS (w:AH)(s:Ad)(l:List Int):Ad:=if decide ((l.length:Int)=0)=true then Ge w s l ++ [32,110,111,116,104,105,110,103] else Ge w s l
def list (T:AE)(s:Ad)(l:List Int):AE:=T.tell (MS T.w s l ++ [46])
/-! #### what is about -/
def G8 (r:Room):Nat→Ad
 | 0=> [87,97,121,115,58]
 | d+1=>if decide (r.Ca.at (d:Int)=0)=true then G8 r d else if r.shut.at (d:Int)=true then G8 r d++([32]++AH.called d) ++ [42] else G8 r d++([32]++AH.called d)
def F0 (T:AE):Nat→AE
 | 0=>T
 | k+1=>if (!decide ((k:Int)=T.b) && T.w.JW T.b k)=true then(F0 T k).tell ((T.w.AO.at k).name ++ [32,105,115,32,104,101,114,101,46]) else F0 T k
def Le:Ad:= [73,116,32,105,115,32,100,97,114,107,46]
def KG (T:AE):AE:=
 ((T.tell ([84,104,101,32]++(T.w.BT.at T.me.room).name ++ [46])).tell (G8 (T.w.BT.at T.me.room) 6))
def ES (T:AE):AE:=if decide (0 < ((T.w.has 0 T.me.room).length:Int))=true then T.KG.list [72,101,114,101,32,105,115] (T.w.has 0 T.me.room) else T.KG
def look (T:AE):AE:=if (!T.w.IF T.me.room)=true then T.tell Le else F0 T.ES 6
def SP:Ad:= [89,111,117,32,99,97,110,110,111,116,32,103,111,32,116,104,101,114,101,46]
def QS:Ad:= [73,116,32,105,115,32,115,104,117,116,46]
def Fw (T:AE)(r:Int):AE:={ T with w:={ T.w with AO:=T.w.AO.put T.b { T.me with room:=r,B7:=0 } } }
def walk (T:AE)(d:Int):AE:=
 if decide ((T.w.BT.at T.me.room).Ca.at d=0)=true then T.tell SP
 else if (T.w.BT.at T.me.room).shut.at d=true then T.tell QS
 else(((T.BV { GF 1 with dir:=d }).Fw ((T.w.BT.at T.me.room).Ca.at d - 1)).BV { GF 2 with dir:=AH.opposite d }).look
/-! #### things that are meant -/
def J1 (w:AH)(name:Ad)(l:List Int):List Int:=l.filter fun i=>decide (name = []) || decide ((w.AP.at i).name=name)
def BX (w:AH)(l:List Int)(nth:Int)(name:Ad)(all:Bool):List Int:=
 if all=true then J1 w name l
 else if (decide (nth < 1) || decide (((J1 w name l).length:Int) < nth))=true then []
 else((J1 w name l).take nth.toNat).drop (nth - 1).toNat
def seen (T:AE):List Int:=if (!T.w.IF T.me.room)=true then [] else T.w.has 0 T.me.room
def own (T:AE):List Int:=T.w.has 1 T.b
def one (T:AE)(u:Ad):Int × Bool:=
 if (!decide ((Words.Ee u).2.2.2=0) || (Words.Ee u).2.2.1)=true then(0,false)
 else if decide (((BX T.w (T.own++T.seen) (Words.Ee u).1 (Words.Ee u).2.1 false).length:Int)=0)=true then(0,false)
 else((BX T.w (T.own++T.seen) (Words.Ee u).1 (Words.Ee u).2.1 false).getD 0 0,true)
def It:Ad:= [84,104,101,114,101,32,105,115,32,110,111,32,115,117,99,104,32,116,104,105,110,103,46]
def MI:Ad:= [89,111,117,32,104,97,118,101,32,110,111,32,115,117,99,104,32,116,104,105,110,103,46]
def Lg:Ad:= [84,104,101,114,101,32,105,115,32,110,111,98,111,100,121,32,111,102,32,116,104,97,116,32,110,97,109,101,46]
def cN:Ad:= [89,111,117,32,119,101,97,114,32,105,116,46]
def WM:Ad:= [84,104,97,116,32,99,97,110,110,111,116,32,98,101,46]
def Z9:Ad:= [73,116,32,105,115,32,115,111,46]
def NF:Ad:= [89,111,117,32,102,105,103,104,116,46]
def box (T:AE)(u:Ad):AE × Int × Bool:=
 if (!(T.one u).2 || !decide ((T.w.AP.at (T.one u).1).kind=3))=true then(T.tell It,0,false)
 else if (!(T.w.AP.at (T.one u).1).on)=true then(T.tell QS,0,false)
 else(T,(T.one u).1,true)
def DH (T:AE)(i:Int)(t:An):AE:={ T with w:={ T.w with AP:=T.w.AP.put i t } }
def place (T:AE)(i Cg at_:Int):AE:=T.DH i { T.w.AP.at i with Cg:=Cg,at_:=at_ }
def DR (T:AE):List Int→AE
 | []=>T
 | i :: r=>DR ((T.place i 1 T.b).BM 3 i) r
def LM (T:AE)(l:List Int)(o:Order):AE:=DR (if decide (((BX T.w l o.nth o.name o.Bq).length:Int)=0)=true then T.tell It else T) (BX T.w l o.nth o.name o.Bq)
def get (T:AE)(o:Order):AE:=
 if (!decide (o.second = []))=true then
  (if (!(T.box o.second).2.2)=true then(T.box o.second).1 else(T.box o.second).1.LM ((T.box o.second).1.w.has 2 (T.box o.second).2.1) o)
 else T.LM T.seen o
def JZ (T:AE)(name:Ad):Nat→Int→Option Int
 | 0,_=>none
 | r+1,n=>if (decide (((6 - (r+1):Nat):Int)=T.b) || !decide ((T.w.AO.at ((6 - (r+1):Nat):Int)).name=name) || !T.w.JW T.b ((6 - (r+1):Nat):Int))=true then JZ T name r n else if decide (n - 1=0)=true then some ((6 - (r+1):Nat):Int) else JZ T name r (n - 1)
def A9 (T:AE)(u:Ad):AE × Int × Bool:=
  if (decide ((Words.Ee u).2.2.2=0) && !(Words.Ee u).2.2.1)=true then
    (match JZ T (Words.Ee u).2.1 6 (Words.Ee u).1 with
     | some k=>(T,k,true)
     | none=>(T.tell Lg,0,false))
  else(T.tell Lg,0,false)
def Cz (T:AE)(v to i:Int):AE:=
 if (decide ((T.w.AP.at i).kind=2) && (T.w.AP.at i).on)=true then T.tell cN
 else if decide (v=8)=true then(T.place i 0 T.me.room).BM 4 i
 else if decide (v=10)=true then(T.place i 1 to).BV { GF 6 with other:=to,BM:=(T.w.AP.at i).name }
 else if T.w.Vt to i=true then T.tell WM
 else(T.place i 2 to).BV { GF 5 with BM:=(T.w.AP.at i).name,text:=(T.w.AP.at to).name }
def Ez (T:AE)(v to:Int):List Int→AE
 | []=>T
 | i :: r=>Ez (T.Cz v to i) v to r
def TB (T:AE)(to:Int)(o:Order):AE:=Ez (if decide (((BX T.w T.own o.nth o.name o.Bq).length:Int)=0)=true then T.tell MI else T) o.verb to (BX T.w T.own o.nth o.name o.Bq)
def C0 (T:AE)(o:Order):AE × Int × Bool:=if decide (o.verb=9)=true then T.box o.second else if decide (o.verb=10)=true then T.A9 o.second else(T,0,true)
def FV (T:AE)(o:Order):AE:=if (!(T.C0 o).2.2)=true then(T.C0 o).1 else(T.C0 o).1.TB (T.C0 o).2.1 o
def Cq (T:AE)(b f:Int):AE:={ T with w:={ T.w with AO:=T.w.AO.put b { T.w.AO.at b with B7:=f } } }
def FK (T:AE)(o:Order):AE:=
 if (!(T.A9 (if (!decide (o.nth=1) || o.Bq)=true then [] else o.name)).2.2)=true then(T.A9 (if (!decide (o.nth=1) || o.Bq)=true then [] else o.name)).1
 else
  let k:=(T.A9 (if (!decide (o.nth=1) || o.Bq)=true then [] else o.name)).2.1
  let T1:=(T.A9 (if (!decide (o.nth=1) || o.Bq)=true then [] else o.name)).1.Cq (T.A9 (if (!decide (o.nth=1) || o.Bq)=true then [] else o.name)).1.b (k+1)
  (if decide ((T1.w.AO.at k).B7=0)=true then T1.Cq k ((T.A9 (if (!decide (o.nth=1) || o.Bq)=true then [] else o.name)).1.b+1) else T1).tell NF
/-! #### what is set -/
def before (T:AE)(first:Bool)(i:Int)(on:Bool)(ev:Int):AE:=
 if first=true then(T.DH i { T.w.AP.at i with on:=on }).BM ev i
 else(T.BM ev i).DH i { T.w.AP.at i with on:=on }
def DG (T:AE)(r d:Int)(v:Bool):AE:={ T with w:={ T.w with BT:=T.w.BT.put r { T.w.BT.at r with shut:=(T.w.BT.at r).shut.put d v } } }
def P7:Ad:= [100,111,111,114]
def Gv (T:AE)(d:Int)(on:Bool)(ev:Int):AE:=
 if decide ((T.w.BT.at T.me.room).Ca.at d - 1 < 0)=true then T.tell It
 else if ((T.w.BT.at T.me.room).shut.at d != on)=true then T.tell Z9
 else
  let to:=(T.w.BT.at T.me.room).Ca.at d - 1
  let T1:=T.DG T.me.room d (!on)
  (if decide ((T1.w.BT.at to).Ca.at (AH.opposite d)=T.me.room+1)=true then T1.DG to (AH.opposite d) (!on) else T1).BV { GF ev with BM:=P7 }
def IK (v:Int):Bool:=decide (v=12) || decide (v=14) || decide (v=16)
def setKind (v:Int):Int:=if (decide (v=14) || decide (v=15))=true then 1 else if (decide (v=16) || decide (v=17))=true then 2 else 3
def QB (v:Int):Int:=v - 4
def Eg (T:AE)(o:Order):List Int:=BX T.w (if decide (setKind o.verb=3)=true then T.own++T.seen else T.own) (max o.nth 1) o.name false
def set (T:AE)(o:Order):AE:=
 if ((Words.dir o.name).2 && decide (setKind o.verb=3))=true then T.Gv (Words.dir o.name).1 (IK o.verb) (QB o.verb)
 else if (decide (((T.Eg o).length:Int)=0) || !decide ((T.w.AP.at ((T.Eg o).getD 0 0)).kind=setKind o.verb))=true then T.tell It
 else if ((T.w.AP.at ((T.Eg o).getD 0 0)).on == IK o.verb)=true then T.tell Z9
 else if IK o.verb=true then T.before (!decide (setKind o.verb=2)) ((T.Eg o).getD 0 0) (IK o.verb) (QB o.verb)
 else T.before (decide (setKind o.verb=2)) ((T.Eg o).getD 0 0) (IK o.verb) (QB o.verb)
/-! #### who is gone -/
def FH (T:AE)(i:Int):AE:=T.DH i { T.w.AP.at i with on:=if decide ((T.w.AP.at i).kind=2)=true then false else(T.w.AP.at i).on,Cg:=0,at_:=T.me.room }
def Cj (T:AE):List Int→AE
 | []=>T
 | i :: r=>Cj (T.FH i) r
def Dj (T:AE):Nat→AE
 | 0=>T
 | k+1=>if decide (((Dj T k).w.AO.at (k:Int)).B7=T.b+1)=true then(Dj T k).Cq k 0 else Dj T k
def FQ (T:AE):AE:=(Dj (T.Cj T.own) 6).Cq T.b 0
def Dg (T:AE)(b:Int)(x:Am):AE:={ T with w:={ T.w with AO:=T.w.AO.put b x } }
def GY (T:AE):AE:=(T.kind 18).FQ.Dg T.b default
/-! #### what a being does -/
def act (T:AE)(o:Order):AE:=
 if decide (o.verb < 6)=true then T.walk o.verb
 else if decide (o.verb=6)=true then T.look
 else if decide (o.verb=19)=true then T.list [89,111,117,32,104,97,118,101] (T.w.has 1 T.b)
 else if decide (o.verb=11)=true then T.BV { GF 7 with text:=o.text }
 else if decide (o.verb=20)=true then T.GY
 else if decide (o.verb=18)=true then T.FK o
 else if decide (o.verb=7)=true then T.get o
 else if (decide (o.verb=8) || decide (o.verb=9) || decide (o.verb=10))=true then T.FV o
 else T.set o
def EJ (X:AH)(b:Int)(o:Order):AH × List Event × Int:=
 if (!X.Bk)=true then(X,[],2)
 else if (decide (b < 0) || decide (6≤b) || !(X.AO.at b).here)=true then(X,[],3)
 else if (decide (o.verb < 0) || decide (20 < o.verb))=true then(X,[],5)
 else((AE.act ⟨X,b,[]⟩ o).w,(AE.act ⟨X,b,[]⟩ o).out,0)
end AE
end Go.Ing
/- Engine: the program's own variables, beside what is handed on. -/
namespace Go.Ing
open Go
section
variable {w0 w:World} {M:List Nat} {L A K:List Ab} {g:Nat} {vs:List Value}
theorem GV.lt (h:GV g vs w):g < w.heap.size:=by
 obtain⟨t,fz,e⟩:=h
 rcases Nat.lt_or_ge g w.heap.size with h' | h'
 ·exact h'
 ·rw [Array.getElem?_eq_none h'] at e;cases e
theorem GV.stM (h:GV g vs w0)(hM:g ∉ M)(hS:St w0 M w L):GV g vs w:=by
 have hg:=h.lt
 obtain⟨t,fz,e⟩:=h
 exact⟨t,fz,(hS.I7 g hg hM).trans e⟩
theorem Mb (hg:g < w0.heap.size)(hM:g ∉ M)(hS:St w0 M w L)(hp:Ax L A K):g ∉ Ch A:=by
 intro hf
 obtain⟨r,hr,hb⟩:=List.mem_flatMap.1 hf
 have hm:r∈L:=hp.perm.symm.subset (List.mem_append_left _ hr)
 exact hM ((hS.Cc r hm g hb).2 hg)
theorem GV.pull (h:GV g vs w0)(hM:g ∉ M)(hS:St w0 M w L)(hp:Ax L A K):GV g vs w∧g ∉ Ch A:=⟨h.stM hM hS,Mb h.lt hM hS hp⟩
theorem HP.stM (h:HP g w0)(hM:g ∉ M)(hS:St w0 M w L):HP g w:=by
 obtain⟨tp,p,h⟩:=h;exact⟨tp,p,h.stM hM hS⟩
theorem HP.pull (h:HP g w0)(hM:g ∉ M)(hS:St w0 M w L)(hp:Ax L A K):HP g w∧g ∉ Ch A:=by
 obtain⟨tp,p,h⟩:=h;exact⟨⟨tp,p,h.stM hM hS⟩,Mb h.lt hM hS hp⟩
end
section
variable {P:Program} {n:Nat} {w0:World} {M:List Nat} {Q:Exit→Go.Act→World→Prop} {F F':List (Nat × Value)} {L L':List Ab} {ops:Array Oper} {rest:List Oper}
theorem Uq {α:Type}{e:α→List Value}{d T U E sz:Nat}{x y z:Operand}{pos:String}{Cu:Array Edge}{h:Hd}{xs:List α}{kd kz:IntKind}{i j:Int}{Lf:Ab→List Ab}(fe:Flat e sz)(hd:Nat.blt d n=true)(hT:P.underlying T=some (.slice E))(hs:Sz P E sz)(hx:ev F x=some h.val)(hy:ev F y=some (.int kd i))(hz:ev F z=some (.int kz j))(h0:0≤i)(h1:i≤j)(h2:j≤(h.len:Int))(hU:∀ r,Lc L (Ab.own h E sz (xs.flatMap e)) r (Lf r))
  (k:GL P n w0 M ops Q rest ((d,(h.cut i.toNat j.toNat sz).val) :: F) (Lf (Ab.own (h.cut i.toNat j.toNat sz) E sz (((xs.take j.toNat).drop i.toNat).flatMap e)))):GL P n w0 M ops Q (⟨some d, .slice T x (some y) (some z) none,U,pos,Cu,none⟩ :: rest) F L:=by
 refine GU (R:=fun v L'=>v=(h.cut i.toNat j.toNat sz).val∧L'=Lf (Ab.own (h.cut i.toNat j.toNat sz) E sz (((xs.take j.toNat).drop i.toNat).flatMap e))) hd ?_ (fun v L' ⟨e1,e2⟩=>by subst e1;subst e2;exact k)
 intro a w hF hS
 have hok:=hS.ok _ (hU ⟨[],fun _=>True,fun _ _ _ _=>trivial⟩).mem
 have hr:Rd w h E sz (xs.flatMap e):=Kn.own (M:=M) (hU ⟨[],fun _=>True,fun _ _ _ _=>trivial⟩).mem w hS
 have hcap:h.len≤h.cap:=by
  rcases hok with ⟨rfl,_⟩ | ⟨b,o,C,fz,e1,e2,e3,e4,e5,e6,_⟩
  ·exact Nat.le_refl _
  ·exact e6
 have hil:i.toNat≤j.toNat:=by omega
 have hjl:j.toNat≤h.len:=by omega
 have hlc:h.len * sz≤h.cap * sz:=Nat.mul_le_mul_right sz hcap
 have hjc:j.toNat * sz≤h.len * sz:=Nat.mul_le_mul_right sz hjl
 have hll:i.toNat * sz≤j.toNat * sz:=Nat.mul_le_mul_right sz hil
 have hcs:((xs.flatMap e).take (j.toNat * sz)).drop (i.toNat * sz)=((xs.take j.toNat).drop i.toNat).flatMap e:=MQ fe xs
 have hlen:(((xs.take j.toNat).drop i.toNat).flatMap e).length=j.toNat * sz - i.toNat * sz:=by
  rw [← hcs,List.length_drop,List.length_take,← hr.1,Nat.min_eq_left hjc]
 refine⟨_,_,w,⟨rfl,rfl⟩,?_,?_⟩
 ·have hs':=hs w
  have hjcap:j≤(h.cap:Int):=by omega
  simp only [execOp,hF.ev hx,Option.map_some,Option.map_none,hF.ev hy,hF.ev hz,Hd.val,Instr.sliceAt,Instr.slice,underlying]
  simp [hT,Instr.sliceBounds,Instr.sliceBound,asIntOf,h1,h0,hs',Hd.cut,hjcap,show 0≤j by omega,show i≤max j 0 by omega]
 ·refine hS.Dz (hU _) rfl rfl rfl (Nat.le_refl _) (fun _ _ _=>rfl) ?_ ?_
  ·rcases hok with ⟨rfl,hn⟩ | ⟨b,o,C,fz,e1,e2,e3,e4,e5,e6,e7,e8⟩
   ·have hj0:j.toNat=0:=by simp at hjl;omega
    have hi0:i.toNat=0:=by omega
    refine .inl ⟨by simp [Hd.cut,hj0,hi0],?_⟩
    rw [List.eq_nil_of_length_eq_zero (l:=((xs.take j.toNat).drop i.toNat).flatMap e) (by rw [hlen,hj0];simp)]
   ·by_cases hci:h.cap=i.toNat
    ·have hji:j.toNat=i.toNat:=by omega
     refine .inr ⟨b,o,C,fz,by simp only [Hd.cut];rw [if_pos hci];exact e1,e2,e3,e4,?_,?_,?_,?_⟩
     ·simp only [Hd.cut];rw [hci,Nat.sub_self,Nat.zero_mul];omega
     ·simp only [Hd.cut];omega
     ·simp only [Hd.cut];rw [hlen,Nat.sub_mul]
     ·have hl0:(((xs.take j.toNat).drop i.toNat).flatMap e).length=0:=by rw [hlen,hji];omega
      rw [List.eq_nil_of_length_eq_zero hl0];simp
    ·refine .inr ⟨b,o+i.toNat * sz,C,fz,by simp only [Hd.cut];rw [if_neg hci,e1];simp [Eo],e2,e3,fun j hj h=>e4 j (by omega) h,?_,?_,?_,?_⟩
     ·simp only [Hd.cut];rw [Nat.sub_mul];omega
     ·simp only [Hd.cut];omega
     ·simp only [Hd.cut];rw [hlen,Nat.sub_mul]
     ·have hX:xs.flatMap e=(C.drop o).take (h.len * sz):=by rw [hr.1];exact e8.symm
      have hY:((xs.take j.toNat).drop i.toNat).flatMap e=((C.drop o).take (j.toNat * sz)).drop (i.toNat * sz):=by rw [← hcs,hX,List.take_take,Nat.min_eq_left hjc]
      rw [hlen,hY,List.drop_take,List.drop_drop]
  ·intro b hb
   have hb':b∈(Ab.own h E sz (xs.flatMap e)).Cc:=by
    revert hb
    simp only [Ab.own,Hd.cut]
    cases ha:h.a with
    | none=>by_cases hc:h.cap=i.toNat<;>simp [hc]
    | some a=>
     by_cases hc:h.cap=i.toNat
     ·simp [hc]
     ·simp only [hc,if_false,Option.map_some]
      unfold Addr.add
      split<;>simp
   exact⟨(hS.Cc _ (hU ⟨[],fun _=>True,fun _ _ _ _=>trivial⟩).mem b hb').1, .inl hb'⟩
theorem Lc.gD {L L':List Ab}{r r':Ab}(h:Lc L r r' L')(e:r=r'):L'=L:=by
 induction h with
 | head=>subst e;rfl
 | tail _ ih=>rw [ih e]
theorem Gw {cd:Code}{b T:Nat}{c c':List Value}{Lf:Ab→List Ab}(hU:∀ r,Lc L (Ab.box b T c) r (Lf r))(e:c=c')(k:G P n w0 M cd Q F (Lf (Ab.box b T c'))):G P n w0 M cd Q F L:=by
 subst e
 rwa [(hU (Ab.box b T c)).gD rfl] at k
theorem Uo {Pr:Prop}{cd:Code}(hp:∀ w,St w0 M w L→Pr)(k:Pr→G P n w0 M cd Q F L):G P n w0 M cd Q F L:=fun a w hF hS=>k (hp w hS) a w hF hS
end
section
variable {p:Prop} [Decidable p] {a b:Bool} {m n:Int}
theorem jz:((a || b)=true)=(a=true∨b=true):=Bool.or_eq_true a b
theorem jw:((a && b)=true)=(a=true∧b=true):=Bool.and_eq_true a b
theorem js:((a || b)=false)=(a=false∧b=false):=propext Bool.or_eq_false_iff
theorem j5:((a && b)=false)=(a=false∨b=false):=propext Bool.and_eq_false_iff
end
end Go.Ing
/- What comes of what beings do: plain laws. -/
namespace Go.Ing
open Go
structure AH.DV (w:AH):Prop where
 th:∀ i,(w.AP.at i).name.length≤140737488351232
 be:∀ i,(w.AO.at i).name.length≤140737488351232
 ro:∀ i,(w.BT.at i).name.length≤140737488351232
namespace AE
theorem OT {l:List Int}{k:Int}(h0:0≤k)(h1:k < l.length):l.drop k.toNat=l.getD k.toNat 0 :: l.drop (k+1).toNat:=by
 have hk:k.toNat < l.length:=by omega
 rw [List.drop_eq_getElem_cons hk,show(k+1).toNat=k.toNat+1 by omega,List.getD_eq_getElem?_getD,List.getElem?_eq_getElem hk]
 rfl
theorem cV {w:AH}{s:Ad}{l:List Int}{k:Int}(h0:0≤k)(h1:k < l.length)(h:(w.AP.at (l.getD k.toNat 0)).on=true):Ge w s (l.drop k.toNat)=Ge w (s++([32]++(w.AP.at (l.getD k.toNat 0)).name) ++ [42]) (l.drop (k+1).toNat):=by
 rw [OT h0 h1,Ge,if_pos h];simp
theorem cu {w:AH}{s:Ad}{l:List Int}{k:Int}(h0:0≤k)(h1:k < l.length)(h:(w.AP.at (l.getD k.toNat 0)).on=false):Ge w s (l.drop k.toNat)=Ge w (s++([32]++(w.AP.at (l.getD k.toNat 0)).name)) (l.drop (k+1).toNat):=by
 rw [OT h0 h1,Ge,if_neg (by rw [h];decide)];simp
theorem U1 {r:Room}{k:Int}(h:0≤k):G8 r (k+1).toNat=if decide (r.Ca.at k=0)=true then G8 r k.toNat else if r.shut.at k=true then G8 r k.toNat++([32]++AH.called k) ++ [42] else G8 r k.toNat++([32]++AH.called k):=by
 obtain⟨m,rfl⟩:=Int.eq_ofNat_of_zero_le h
 rfl
theorem NM (r:Room):∀ k:Nat,(G8 r k).length≤5+k * 22
 | 0=>by simp [G8]
 | k+1=>by
  have ih:=NM r k
  have hc:=AH.Jn (k:Int)
  unfold G8
  repeat' split
  all_goals (try simp only [List.length_append,List.length_cons,List.length_nil])
  all_goals omega
theorem K5 (T:AE):∀ k:Nat,(T.F0 k).w=T.w∧(T.F0 k).b=T.b∧(T.F0 k).out.length≤T.out.length+k
 | 0=>⟨rfl,rfl,by simp [F0]⟩
 | k+1=>by
  obtain⟨h1,h2,h3⟩:=K5 T k
  unfold F0
  split
  ·exact⟨by simpa using h1,by simpa using h2,by rw [CM];omega⟩
  ·exact⟨h1,h2,by omega⟩
theorem Jp {T:AE}{k:Int}(h:0≤k):T.F0 (k+1).toNat=if (!decide (k=T.b) && T.w.JW T.b k)=true then(T.F0 k.toNat).tell ((T.w.AO.at k).name ++ [32,105,115,32,104,101,114,101,46]) else T.F0 k.toNat:=by
 obtain⟨m,rfl⟩:=Int.eq_ofNat_of_zero_le h
 rfl
@[simp] theorem H2 (T:AE) (s:Ad) (l:List Int):(T.list s l).w=T.w∧(T.list s l).b=T.b∧(T.list s l).out.length=T.out.length+1:=⟨rfl,rfl,by simp [list]⟩
theorem V9 (T:AE):T.KG.w=T.w∧T.KG.b=T.b∧T.KG.out.length=T.out.length+2:=⟨rfl,rfl,by simp [KG]⟩
theorem R8 (T:AE):T.ES.w=T.w∧T.ES.b=T.b∧T.ES.out.length≤T.out.length+3:=by
 have h:=T.V9
 unfold ES
 split
 ·have h2:=T.KG.H2 [72,101,114,101,32,105,115] (T.w.has 0 T.me.room)
  exact⟨h2.1.trans h.1,h2.2.1.trans h.2.1,by omega⟩
 ·exact⟨h.1,h.2.1,by omega⟩
theorem KR (T:AE):T.look.w=T.w∧T.look.b=T.b∧T.look.out.length≤T.out.length+9:=by
 unfold look
 split
 ·exact⟨rfl,rfl,by rw [CM];omega⟩
 ·have h:=T.R8
  have h2:=T.ES.K5 6
  exact⟨h2.1.trans h.1,h2.2.1.trans h.2.1,by omega⟩
end AE
theorem Bh.FC {xs:List Int}{i:Nat}(h:i < xs.length):xs.getD i 0∈xs:=by
 rw [List.getD_eq_getElem?_getD,List.getElem?_eq_getElem h]
 exact List.getElem_mem h
theorem AH.Uz {w:AH}{r:Int}(h:(!w.IF r)=false):0≤r∧r < 6:=by
 unfold AH.IF at h
 split at h
 ·simp at h
 ·rename_i c;simp at c;omega
theorem AH.GD {w:AH}{Cg at_ i:Int}(h:i∈w.has Cg at_):0≤i∧i < 9:=by
 unfold AH.has at h
 have:=(List.mem_filter.1 h).1
 obtain⟨n,hn,rfl⟩:=List.mem_map.1 this
 have:=List.mem_range.1 hn
 exact⟨by simp,by show((n:Nat):Int) < 9;omega⟩
theorem AH.Iw (w:AH)(Cg at_:Int):(w.has Cg at_).length≤9:=by
 rw [AH.VB];exact AH.Te w Cg at_ _
end Go.Ing
/- What beings do keeps the land good: plain laws. -/
namespace Go.Ing
open Go
theorem Vector.EO {α:Type}[Inhabited α]{n:Nat}(v:Vector α n)(k:Int)(x y:α):(v.put k x).put k y=v.put k y:=by
 unfold Vector.put
 apply Vector.ext
 intro i hi
 simp only [Vector.getElem_setIfInBounds]
 split<;>rfl
theorem Vector.CA {α:Type}[Inhabited α]{n:Nat}{v:Vector α n}{k:Int}{x:α}(h0:0≤k)(h1:k < n):(v.put k x).at k=x:=by rw [H3 v k k x h0 h1 h0,if_pos rfl]
theorem Vector.EM {α:Type}[Inhabited α]{n:Nat}{v:Vector α n}{k i:Int}{x:α}(h0:0≤k)(h1:k < n)(hi:0≤i)(hn:i≠k):(v.put k x).at i=v.at i:=by rw [H3 v k i x h0 h1 hi,if_neg hn]
namespace AH
variable {X Y:AH}
theorem Out.path:∀ {m:Nat} {i:Int},0≤i→i < 9→Out X m i→∃ s:List Int,Th s+s.length=9∧s.length=m+1∧∀ j∈s,∃ k,k≤m∧Out X k j
 | 0,i,h0,h9,h=>⟨[] ++ [i],by have:=O3 (s:= []) (i:=i) (by simp) h0 h9;simp only [List.length_append,List.length_cons,List.length_nil];have:Th []=9:=rfl;omega,rfl,fun j hj=>by
   have:j=i:=by simpa using hj
   subst this;exact⟨0,Nat.le_refl _,h⟩⟩
 | m+1,i,h0,h9,h=>by
  obtain⟨s,h1,h2,h3⟩:=Out.path h.2.1 h.2.2.1 h.2.2.2
  have hn:i ∉ s:=fun hm=>by
   obtain⟨k,hk,ho⟩:=h3 i hm
   have:=h.uniq ho
   omega
  have hl:=O3 hn h0 h9
  refine⟨s ++ [i],by simp only [List.length_append,List.length_cons,List.length_nil];omega,by simp only [List.length_append,List.length_cons,List.length_nil];omega,fun j hj=>?_⟩
  rcases List.mem_append.1 hj with hj | hj
  ·obtain⟨k,hk,ho⟩:=h3 j hj
   exact⟨k,by omega,ho⟩
  ·have:j=i:=by simpa using hj
   subst this;exact⟨m+1,Nat.le_refl _,h⟩
theorem Out.j6 {m:Nat}{i:Int}(h0:0≤i)(h9:i < 9)(h:Out X m i):m≤8:=by
 obtain⟨s,h1,h2,_⟩:=h.path h0 h9
 omega
theorem MU:∀ {m n:Nat} {i:Int},Out X m i→m < n→X.KA n (X.AP.at i)=true
 | _,0,_,_,h=>absurd h (Nat.not_lt_zero _)
 | 0,n+1,i,h,_=>by
  unfold KA
  rw [if_pos (by simpa using (show(X.AP.at i).Cg≠2 from h))]
 | m+1,n+1,i,h,hl=>by
  unfold KA
  rw [if_neg (by simp [h.1]),if_neg (by have:=h.2.1;have:=h.2.2.1;simp;omega)]
  exact MU h.2.2.2 (by omega)
structure Pl (X:AH)(i:Int):Prop where
 k0:0≤(X.AP.at i).kind
 k3:(X.AP.at i).kind≤3
 plain:(X.AP.at i).kind=0→(X.AP.at i).on=false
 a0:0≤(X.AP.at i).at_
 Cg:((X.AP.at i).Cg=0∧(X.AP.at i).at_ < 6∧¬ ((X.AP.at i).kind=2∧(X.AP.at i).on=true)) ∨
  ((X.AP.at i).Cg=1∧(X.AP.at i).at_ < 6∧(X.AO.at (X.AP.at i).at_).here=true) ∨
  ((X.AP.at i).Cg=2∧(X.AP.at i).at_ < 9∧(X.AP.at (X.AP.at i).at_).kind=3∧¬ ((X.AP.at i).kind=2∧(X.AP.at i).on=true))
theorem SQ.p {i:Int}(h:SQ X i):Pl X i:=⟨h.k0,h.k3,h.plain,h.a0,by
 rcases h.Cg with h | h | ⟨h1,h2,h3,h4,_⟩
 ·exact .inl h
 ·exact .inr (.inl h)
 ·exact .inr (.inr ⟨h1,h2,h3,h4⟩)⟩
theorem Sk {i:Int}(h:Pl X i)(h0:0≤i)(h9:i < 9){m:Nat}(ho:Out X m i):X.Cp i=true:=by
 have hc:=MU ho (show m < 10 by have:=ho.j6 h0 h9;omega)
 have:=h.k0;have:=h.k3;have:=h.a0
 unfold Cp
 rw [if_neg (by
  simp only [Bool.or_eq_true,Bool.and_eq_true,decide_eq_true_eq]
  rintro (((h1 | h1) | ⟨h1,h2⟩) | h1)
  ·omega
  ·omega
  ·rw [h.plain h1] at h2;cases h2
  ·omega)]
 rcases h.Cg with ⟨w,a,b⟩ | ⟨w,a,b⟩ | ⟨w,a,k,b⟩
 ·rw [if_pos (by simp [w])]
  simp only [Bool.and_eq_true,decide_eq_true_eq,Bool.not_eq_true']
  refine⟨a,?_⟩
  cases hh:(decide ((X.AP.at i).kind=2) && (X.AP.at i).on) with
  | false=>rfl
  | true=>rw [Bool.and_eq_true] at hh;exact absurd ⟨of_decide_eq_true hh.1,hh.2⟩ b
 ·rw [if_neg (by simp [w]),if_pos (by simp [w])]
  simp [a,b]
 ·rw [if_neg (by simp [w]),if_neg (by simp [w]),if_pos (by simp [w]),if_neg (by
   simp only [Bool.or_eq_true,Bool.and_eq_true,decide_eq_true_eq,Bool.not_eq_true',decide_eq_false_iff_not]
   rintro ((h1 | h1) | ⟨h1,h2⟩)
   ·omega
   ·exact h1 k
   ·exact b ⟨h1,h2⟩)]
  exact hc
theorem Sl (hr:∀ r d,0≤r→r < 6→0≤d→d < 6→Ia (X.BT.at r) d=false)(hb:∀ b,0≤b→b < 6→Dw (X.AO.at b)=false)(ht:∀ i,0≤i→i < 9→Pl X i∧∃ m,Out X m i):X.Bk=true:=by
 unfold Bk
 rw [Bool.and_eq_true,Bool.and_eq_true]
 refine⟨(Dq 6).2 fun r h0 h1=>?_,(Dq 6).2 fun b h0 h1=>?_,(Dq 9).2 fun i h0 h1=>?_⟩
 ·exact(Dq 6).2 fun d d0 d1=>by rw [hr r d (by omega) h1 (by omega) d1];rfl
 ·rw [hb b (by omega) h1];rfl
 ·obtain⟨hp,m,ho⟩:=ht i (by omega) h1
  exact Sk hp (by omega) h1 ho
theorem Out.same (h:∀ i,0≤i→i < 9→(Y.AP.at i).Cg=(X.AP.at i).Cg∧(Y.AP.at i).at_=(X.AP.at i).at_):∀ {m:Nat} {i:Int},0≤i→i < 9→Out X m i→Out Y m i
 | 0,i,h0,h9,ho=>by show(Y.AP.at i).Cg≠2;rw [(h i h0 h9).1];exact ho
 | m+1,i,h0,h9,ho=>by
  refine⟨(h i h0 h9).1.trans ho.1,?_⟩
  rw [(h i h0 h9).2]
  exact⟨ho.2.1,ho.2.2.1,Out.same h ho.2.1 ho.2.2.1 ho.2.2.2⟩
theorem Out.other {k:Int}(h:∀ i,0≤i→i < 9→i≠k→Y.AP.at i=X.AP.at i)(hk:∃ m,Out Y m k):∀ {m:Nat} {i:Int},0≤i→i < 9→Out X m i→∃ m',Out Y m' i
 | 0,i,h0,h9,ho=>by
  by_cases e:i=k
  ·subst e;exact hk
  ·exact⟨0,by show(Y.AP.at i).Cg≠2;rw [h i h0 h9 e];exact ho⟩
 | m+1,i,h0,h9,ho=>by
  by_cases e:i=k
  ·subst e;exact hk
  ·obtain⟨m',h'⟩:=Out.other h hk ho.2.1 ho.2.2.1 ho.2.2.2
   exact⟨m'+1,by rw [Out,h i h0 h9 e];exact⟨ho.1,ho.2.1,ho.2.2.1,h'⟩⟩
theorem Out.gW {k:Int}(h:∀ i,0≤i→i < 9→i≠k→Y.AP.at i=X.AP.at i):∀ {m n:Nat} {i:Int},0≤i→i < 9→Out X m i→m < n→X.inside k n i=false→Out Y m i
 | 0,0,_,_,_,_,hl,_=>absurd hl (Nat.not_lt_zero _)
 | _+1,0,_,_,_,_,hl,_=>absurd hl (Nat.not_lt_zero _)
 | 0,n+1,i,h0,h9,ho,hl,hi=>by
  have e:i≠k:=fun e=>by unfold inside at hi;rw [if_pos (by simp [e])] at hi;cases hi
  show(Y.AP.at i).Cg≠2;rw [h i h0 h9 e];exact ho
 | m+1,n+1,i,h0,h9,ho,hl,hi=>by
  have e:i≠k:=fun e=>by unfold inside at hi;rw [if_pos (by simp [e])] at hi;cases hi
  unfold inside at hi
  rw [if_neg (by simp [e]),if_neg (by simp [ho.1];omega)] at hi
  rw [Out,h i h0 h9 e]
  exact⟨ho.1,ho.2.1,ho.2.2.1,Out.gW h ho.2.1 ho.2.2.1 ho.2.2.2 (by omega) hi⟩
end AH
end Go.Ing
/- What beings do keeps the land good: the parts of a turn. -/
namespace Go.Ing
open Go
theorem Vector.N2 {α:Type}[Inhabited α]{n:Nat}(v:Vector α n)(k i:Int)(x:α):(v.put k x).at i=x∨(v.put k x).at i=v.at i:=by
 unfold Vector.put Vector.at
 rw [List.getD_eq_getElem?_getD,List.getD_eq_getElem?_getD]
 simp only [Vector.toList_setIfInBounds]
 rw [List.getElem?_set]
 split
 ·split
  ·exact .inl rfl
  ·rename_i h1 h2
   exact .inr (by rw [← h1,List.getElem?_eq_none (by omega)])
 ·exact .inr rfl
namespace AH
variable {X:AH}
def Gr (X:AH)(i:Int)(t:An):AH:={ X with AP:=X.AP.put i t }
def C1 (X:AH)(b:Int)(x:Am):AH:={ X with AO:=X.AO.put b x }
def Mw (X:AH)(r d:Int)(v:Bool):AH:={ X with BT:=X.BT.put r { X.BT.at r with shut:=(X.BT.at r).shut.put d v } }
theorem IE (hg:X.Bk=true){i:Int}(h0:0≤i)(h9:i < 9):Pl X i:=(TJ (P4 hg h0 h9)).p
theorem Ky (hg:X.Bk=true){i:Int}(h0:0≤i)(h9:i < 9):∃ m,Out X m i:=by
 obtain⟨m,_,h⟩:=UE hg h0 h9;exact⟨m,h⟩
theorem K4 {i j:Int}(h0:0≤i)(h9:i < 9)(j0:0≤j)(hn:j≠i)(t:An):(X.Gr i t).AP.at j=X.AP.at j:=Vector.EM h0 h9 j0 hn
theorem GB {i:Int}(h0:0≤i)(h9:i < 9)(t:An):(X.Gr i t).AP.at i=t:=Vector.CA h0 h9
theorem G5 {i j:Int}(h0:0≤i)(h9:i < 6)(j0:0≤j)(hn:j≠i)(t:Am):(X.C1 i t).AO.at j=X.AO.at j:=Vector.EM h0 h9 j0 hn
theorem Ec {i:Int}(h0:0≤i)(h9:i < 6)(t:Am):(X.C1 i t).AO.at i=t:=Vector.CA h0 h9
theorem Kx (hg:X.Bk=true){i:Int}(h0:0≤i)(h9:i < 9){t:An}(hk:t.kind=(X.AP.at i).kind)(hp:Pl (X.Gr i t) i)(ho:∃ m,Out (X.Gr i t) m i):(X.Gr i t).Bk=true:=by
 have hs:∀ j,0≤j→j < 9→j≠i→(X.Gr i t).AP.at j=X.AP.at j:=fun j j0 _ hn=>K4 h0 h9 j0 hn t
 refine Sl (fun r d r0 r6 d0 d6=>K1 hg r0 r6 d0 d6) (fun b b0 b6=>Fq hg b0 b6) fun j j0 j9=>?_
 obtain⟨m,hm⟩:=Ky hg j0 j9
 refine⟨?_,Out.other hs ho j0 j9 hm⟩
 by_cases e:j=i
 ·subst e;exact hp
 ·have q:=IE hg j0 j9
  have hkk:∀ a,0≤a→a < 9→((X.Gr i t).AP.at a).kind=(X.AP.at a).kind:=fun a a0 a9=>by
   by_cases ea:a=i
   ·subst ea;rw [GB h0 h9,hk]
   ·rw [hs a a0 a9 ea]
  have ej:=hs j j0 j9 e
  refine⟨by rw [ej];exact q.k0,by rw [ej];exact q.k3,by rw [ej];exact q.plain,by rw [ej];exact q.a0,?_⟩
  rw [ej]
  rcases q.Cg with h | h | ⟨h1,h2,h3,h4⟩
  ·exact .inl h
  ·exact .inr (.inl h)
  ·exact .inr (.inr ⟨h1,h2,by rw [hkk _ q.a0 h2];exact h3,h4⟩)
theorem JB (hg:X.Bk=true){b:Int}(h0:0≤b)(h6:b < 6){x:Am}(hx:Dw x=false)(hh:∀ i,0≤i→i < 9→(X.AP.at i).Cg=1→(X.AP.at i).at_=b→x.here=true):(X.C1 b x).Bk=true:=by
 refine Sl (fun r d r0 r6 d0 d6=>K1 hg r0 r6 d0 d6) (fun c c0 c6=>?_) fun j j0 j9=>?_
 ·by_cases e:c=b
  ·subst e;rw [Ec h0 h6];exact hx
  ·rw [G5 h0 h6 c0 e];exact Fq hg c0 c6
 ·obtain⟨m,hm⟩:=Ky hg j0 j9
  refine⟨?_,m,Out.same (X:=X) (Y:=X.C1 b x) (fun _ _ _=>⟨rfl,rfl⟩) j0 j9 hm⟩
  have q:=IE hg j0 j9
  refine⟨q.k0,q.k3,q.plain,q.a0,?_⟩
  rcases q.Cg with h | ⟨h1,h2,h3⟩ | h
  ·exact .inl h
  ·refine .inr (.inl ⟨h1,h2,?_⟩)
   show((X.C1 b x).AO.at (X.AP.at j).at_).here=true
   by_cases e:(X.AP.at j).at_=b
   ·rw [e,Ec h0 h6];exact hh j j0 j9 h1 e
   ·rw [G5 h0 h6 q.a0 e];exact h3
  ·exact .inr (.inr h)
theorem XJ (hg:X.Bk=true){r d:Int}(h0:0≤r)(h6:r < 6)(d0:0≤d)(d6:d < 6){v:Bool}(hv:v=true→(X.BT.at r).Ca.at d≠0):(X.Mw r d v).Bk=true:=by
 refine Sl (fun c e c0 c6 e0 e6=>?_) (fun b b0 b6=>Fq hg b0 b6) fun j j0 j9=>?_
 ·have q:=K1 hg c0 c6 e0 e6
  by_cases ec:c=r
  ·subst ec
   have er:(X.Mw c d v).BT.at c={ X.BT.at c with shut:=(X.BT.at c).shut.put d v }:=Vector.CA h0 h6
   rw [er]
   unfold Ia at q ⊢
   show(decide ((X.BT.at c).Ca.at e < 0) || decide (6 < (X.BT.at c).Ca.at e) || (decide ((X.BT.at c).Ca.at e=0) && ((X.BT.at c).shut.put d v).at e))=false
   rw [H3 _ _ _ _ d0 d6 e0]
   split
   ·rename_i ee
    subst ee
    cases v with
    | false=>
     simp only [Bool.and_false,Bool.or_false]
     rw [Bool.or_eq_false_iff] at q
     exact q.1
    | true=>simpa [hv rfl] using (Bool.or_eq_false_iff.1 q).1
   ·exact q
  ·rw [show(X.Mw r d v).BT.at c=X.BT.at c from Vector.EM h0 h6 c0 ec];exact q
 ·obtain⟨m,hm⟩:=Ky hg j0 j9
  have q:=IE hg j0 j9
  exact⟨⟨q.k0,q.k3,q.plain,q.a0,q.Cg⟩,m,Out.same (X:=X) (Y:=X.Mw r d v) (fun _ _ _=>⟨rfl,rfl⟩) j0 j9 hm⟩
/-! #### what is done to a thing -/
section
variable {i:Int} (hg:X.Bk=true) (h0:0≤i) (h9:i < 9)
include hg h0 h9
theorem WO {v:Bool}(h1:(X.AP.at i).kind≠0)(h2:(X.AP.at i).kind=2→(X.AP.at i).Cg=1):(X.Gr i { X.AP.at i with on:=v }).Bk=true:=by
 have q:=IE hg h0 h9
 obtain⟨m,hm⟩:=Ky hg h0 h9
 have hs:∀ j,0≤j→j < 9→((X.Gr i { X.AP.at i with on:=v }).AP.at j).Cg=(X.AP.at j).Cg∧((X.Gr i { X.AP.at i with on:=v }).AP.at j).at_=(X.AP.at j).at_:=fun j j0 _=>by
  by_cases e:j=i
  ·subst e;rw [GB h0 h9];exact⟨rfl,rfl⟩
  ·rw [K4 h0 h9 j0 e];exact⟨rfl,rfl⟩
 have hkk:∀ a,0≤a→((X.Gr i { X.AP.at i with on:=v }).AP.at a).kind=(X.AP.at a).kind:=fun a a0=>by
  by_cases ea:a=i
  ·subst ea;rw [GB h0 h9]
  ·rw [K4 h0 h9 a0 ea]
 refine Kx hg h0 h9 (by rfl) ?_ ⟨m,Out.same hs h0 h9 hm⟩
 refine⟨?_,?_,?_,?_,?_⟩<;>rw [GB h0 h9]
 ·exact q.k0
 ·exact q.k3
 ·exact fun e=>absurd e h1
 ·exact q.a0
 ·rcases q.Cg with ⟨a,b,c⟩ | h | ⟨a,b,c,d⟩
  ·exact .inl ⟨a,b,fun⟨e,_⟩=>by have:=h2 e;omega⟩
  ·exact .inr (.inl h)
  ·refine .inr (.inr ⟨a,b,?_,fun⟨e,_⟩=>by have:=h2 e;omega⟩)
   show((X.Gr i { X.AP.at i with on:=v }).AP.at (X.AP.at i).at_).kind=3
   rw [hkk _ q.a0];exact c
theorem Nu {v:Bool}{a:Int}(ha:0≤a∧a < 6)(hv:(X.AP.at i).kind=0→v=false)(hc:¬ ((X.AP.at i).kind=2∧v=true)):(X.Gr i { X.AP.at i with on:=v,Cg:=0,at_:=a }).Bk=true:=by
 have q:=IE hg h0 h9
 refine Kx hg h0 h9 (by rfl) ?_ ⟨0,by show((X.Gr i _).AP.at i).Cg≠2;rw [GB h0 h9];intro hc;cases hc⟩
 refine⟨?_,?_,?_,?_,?_⟩<;>rw [GB h0 h9]
 ·exact q.k0
 ·exact q.k3
 ·exact hv
 ·exact ha.1
 ·exact .inl ⟨rfl,ha.2,hc⟩
theorem UI {a:Int}(ha:0≤a∧a < 6)(hh:(X.AO.at a).here=true):(X.Gr i { X.AP.at i with Cg:=1,at_:=a }).Bk=true:=by
 have q:=IE hg h0 h9
 refine Kx hg h0 h9 (by rfl) ?_ ⟨0,by show((X.Gr i _).AP.at i).Cg≠2;rw [GB h0 h9];intro hc;cases hc⟩
 refine⟨?_,?_,?_,?_,?_⟩<;>rw [GB h0 h9]
 ·exact q.k0
 ·exact q.k3
 ·exact q.plain
 ·exact ha.1
 ·exact .inr (.inl ⟨rfl,ha.2,hh⟩)
theorem Ty {a:Int}(ha:0≤a∧a < 9)(hk:(X.AP.at a).kind=3)(hc:¬ ((X.AP.at i).kind=2∧(X.AP.at i).on=true))(hi:X.Vt a i=false):(X.Gr i { X.AP.at i with Cg:=2,at_:=a }).Bk=true:=by
 have q:=IE hg h0 h9
 have hs:∀ j,0≤j→j < 9→j≠i→(X.Gr i { X.AP.at i with Cg:=2,at_:=a }).AP.at j=X.AP.at j:=fun j j0 _ hn=>K4 h0 h9 j0 hn _
 have hai:a≠i:=fun e=>by subst e;rw [XV] at hi;cases hi
 obtain⟨m,hm10,hm⟩:=UE hg ha.1 ha.2
 have hm':=Out.gW hs ha.1 ha.2 hm hm10 hi
 refine Kx hg h0 h9 (by rfl) ?_ ⟨m+1,by rw [Out,GB h0 h9];exact⟨rfl,ha.1,ha.2,hm'⟩⟩
 refine⟨?_,?_,?_,?_,?_⟩<;>rw [GB h0 h9]
 ·exact q.k0
 ·exact q.k3
 ·exact q.plain
 ·exact ha.1
 ·refine .inr (.inr ⟨rfl,ha.2,?_,hc⟩)
  show((X.Gr i _).AP.at a).kind=3
  rw [hs a ha.1 ha.2 hai];exact hk
end
end AH
end Go.Ing
/- What beings do keeps the land good: a turn. -/
namespace Go.Ing
open Go
namespace AH
end AH
namespace AE
structure Fit (T:AE):Prop where
 b:0≤T.b∧T.b < 6
 br:T.w.DV
 gd:T.w.Bk=true
 here:(T.w.AO.at T.b).here=true
structure Step (b:Int)(X Y:AH):Prop where
 th:∀ i,0≤i→i < 9→(Y.AP.at i).name=(X.AP.at i).name∧(Y.AP.at i).kind=(X.AP.at i).kind
 own:∀ i,0≤i→i < 9→(X.AP.at i).Cg=1→(X.AP.at i).at_≠b→Y.AP.at i=X.AP.at i
 be:∀ c,0≤c→c < 6→c≠b→{ Y.AO.at c with B7:=0 }={ X.AO.at c with B7:=0 }
 ro:∀ r,0≤r→r < 6→(Y.BT.at r).name=(X.BT.at r).name∧(Y.BT.at r).Le=(X.BT.at r).Le∧(Y.BT.at r).Ca=(X.BT.at r).Ca
theorem Step.refl (b:Int)(X:AH):Step b X X:=⟨fun _ _ _=>⟨rfl,rfl⟩,fun _ _ _ _ _=>rfl,fun _ _ _ _=>rfl,fun _ _ _=>⟨rfl,rfl,rfl⟩⟩
theorem Step.trans {b:Int}{X Y Z:AH}(h:Step b X Y)(k:Step b Y Z):Step b X Z:=
  ⟨fun i h0 h9=>⟨(k.th i h0 h9).1.trans (h.th i h0 h9).1,(k.th i h0 h9).2.trans (h.th i h0 h9).2⟩,
   fun i h0 h9 h1 h2=>by
    have e:=h.own i h0 h9 h1 h2
    exact(k.own i h0 h9 (by rw [e];exact h1) (by rw [e];exact h2)).trans e,
   fun c h0 h6 hn=>(k.be c h0 h6 hn).trans (h.be c h0 h6 hn),
   fun r h0 h6=>⟨(k.ro r h0 h6).1.trans (h.ro r h0 h6).1,(k.ro r h0 h6).2.1.trans (h.ro r h0 h6).2.1,(k.ro r h0 h6).2.2.trans (h.ro r h0 h6).2.2⟩⟩
theorem Fit.Ew {T T':AE}(h:T.Fit)(hw:T'.w=T.w)(hb:T'.b=T.b):T'.Fit:=⟨by rw [hb];exact h.b,by rw [hw];exact h.br,by rw [hw];exact h.gd,by rw [hw,hb];exact h.here⟩
theorem Fit.BV {T:AE}(h:T.Fit)(e:Event):(T.BV e).Fit:=h.Ew rfl rfl
theorem Fit.tell {T:AE}(h:T.Fit)(s:Ad):(T.tell s).Fit:=h.Ew rfl rfl
theorem Fit.room {T:AE}(h:T.Fit):0≤(T.w.AO.at T.b).room∧(T.w.AO.at T.b).room < 6:=by
 have:=AH.Fq h.gd h.b.1 h.b.2
 simp only [AH.Dw,Bool.or_eq_false_iff,decide_eq_false_iff_not] at this
 omega
theorem Fit.exit {T:AE}(h:T.Fit){d:Int}(d0:0≤d)(d6:d < 6):0≤(T.w.BT.at (T.w.AO.at T.b).room).Ca.at d∧(T.w.BT.at (T.w.AO.at T.b).room).Ca.at d≤6:=by
 have:=AH.K1 h.gd h.room.1 h.room.2 d0 d6
 simp only [AH.Ia,Bool.or_eq_false_iff,decide_eq_false_iff_not] at this
 omega
theorem VM {X:AH}(h:X.DV){i:Int}{t:An}(ht:t.name.length≤140737488351232):(X.Gr i t).DV:=⟨fun j=>by
 rcases Vector.N2 X.AP i j t with e | e
 ·show((X.AP.put i t).at j).name.length≤_;rw [e];exact ht
 ·show((X.AP.put i t).at j).name.length≤_;rw [e];exact h.th j,h.be,h.ro⟩
theorem E0 {X:AH}(h:X.DV){i:Int}{t:Am}(ht:t.name.length≤140737488351232):(X.C1 i t).DV:=⟨h.th,fun j=>by
 rcases Vector.N2 X.AO i j t with e | e
 ·show((X.AO.put i t).at j).name.length≤_;rw [e];exact ht
 ·show((X.AO.put i t).at j).name.length≤_;rw [e];exact h.be j,h.ro⟩
theorem Uj {X:AH}(h:X.DV){r d:Int}{v:Bool}:(X.Mw r d v).DV:=⟨h.th,h.be,fun j=>by
 rcases Vector.N2 X.BT r j { X.BT.at r with shut:=(X.BT.at r).shut.put d v } with e | e
 ·show((X.BT.put r _).at j).name.length≤_;rw [e];exact h.ro r
 ·show((X.BT.put r _).at j).name.length≤_;rw [e];exact h.ro j⟩
theorem XL {b:Int}{X:AH}{i:Int}(h0:0≤i)(h9:i < 9){t:An}(hn:t.name=(X.AP.at i).name)(hk:t.kind=(X.AP.at i).kind)(ho:(X.AP.at i).Cg=1→(X.AP.at i).at_=b):Step b X (X.Gr i t):=
  ⟨fun j j0 _=>by
    by_cases e:j=i
    · subst e;rw [AH.GB h0 h9];exact⟨hn,hk⟩
    · rw [AH.K4 h0 h9 j0 e];exact⟨rfl,rfl⟩,
   fun j j0 _ h1 h2=>by
    by_cases e:j=i
    · subst e;exact absurd (ho h1) h2
    · rw [AH.K4 h0 h9 j0 e],
   fun _ _ _ _=>rfl,fun _ _ _=>⟨rfl,rfl,rfl⟩⟩
theorem NI {b:Int}{X:AH}{i:Int}(h0:0≤i)(h6:i < 6){t:Am}(hn:i≠b→{ t with B7:=0 }={ X.AO.at i with B7:=0 }):Step b X (X.C1 i t):=
 ⟨fun _ _ _=>⟨rfl,rfl⟩,fun _ _ _ _ _=>rfl,fun c c0 _ hc=>by
  by_cases e:c=i
  ·subst e;rw [AH.Ec h0 h6];exact hn hc
  ·rw [AH.G5 h0 h6 c0 e],fun _ _ _=>⟨rfl,rfl,rfl⟩⟩
theorem X6 {b:Int}{X:AH}{r d:Int}(h0:0≤r)(h6:r < 6){v:Bool}:Step b X (X.Mw r d v):=
 ⟨fun _ _ _=>⟨rfl,rfl⟩,fun _ _ _ _ _=>rfl,fun _ _ _ _=>rfl,fun j j0 _=>by
  by_cases e:j=r
  ·subst e
   rw [show(X.Mw j d v).BT.at j={ X.BT.at j with shut:=(X.BT.at j).shut.put d v } from Vector.CA h0 h6]
   exact⟨rfl,rfl,rfl⟩
  ·rw [show(X.Mw r d v).BT.at j=X.BT.at j from Vector.EM h0 h6 j0 e]
   exact⟨rfl,rfl,rfl⟩⟩
structure DN (T T':AE):Prop where
 b:T'.b=T.b
 fit:T'.Fit
 st:Step T.b T.w T'.w
theorem DN.trans {T T' T'':AE}(h:DN T T')(k:DN T' T''):DN T T'':=⟨k.b.trans h.b,k.fit,h.st.trans (by have:=k.st;rwa [h.b] at this)⟩
theorem Fit.goes {T:AE}(h:T.Fit):DN T T:=⟨rfl,h, .refl _ _⟩
theorem DN.Ew {T T' T'':AE}(h:DN T T')(hw:T''.w=T'.w)(hb:T''.b=T'.b):DN T T'':=⟨hb.trans h.b,h.fit.Ew hw hb,by rw [hw];exact h.st⟩
theorem P1 {T:AE}(h:T.Fit){r:Int}(hr:0≤r∧r < 6):DN T (T.Fw r):=by
 have hg:=AH.Fq h.gd h.b.1 h.b.2
 have hme:((T.Fw r).w.AO.at T.b)={ T.me with room:=r,B7:=0 }:=Vector.CA h.b.1 h.b.2
 refine⟨rfl,⟨h.b,E0 h.br (h.br.be T.b),AH.JB h.gd h.b.1 h.b.2 ?_ fun _ _ _ _ _=>h.here,?_⟩,NI h.b.1 h.b.2 fun hn=>absurd rfl hn⟩
 ·unfold AH.Dw at hg ⊢
  show(decide (r < 0) || decide (6≤r) || decide ((T.w.AO.at T.b).BP < 0) || decide (10 < (T.w.AO.at T.b).BP) || decide ((0:Int) < 0) || decide (6 < (0:Int)) || (!(T.w.AO.at T.b).here && !decide ((0:Int)=0)) || (T.w.AO.at T.b).here != decide (0 < (T.w.AO.at T.b).BP))=false
  simp only [Bool.or_eq_false_iff,decide_eq_false_iff_not] at hg ⊢
  refine⟨⟨⟨⟨⟨⟨⟨by omega,by omega⟩,hg.1.1.1.1.1.2⟩,hg.1.1.1.1.2⟩,by decide⟩,by decide⟩,by simp⟩,hg.2⟩
 ·show((T.Fw r).w.AO.at T.b).here=true
  rw [hme];exact h.here
theorem Q4 {T:AE}(h:T.Fit):DN T T.look:=h.goes.Ew T.KR.1 T.KR.2.1
theorem Xg {T:AE}(h:T.Fit){d:Int}(d0:0≤d)(d6:d < 6):DN T (T.walk d):=by
 unfold walk
 split
 ·exact h.goes.Ew rfl rfl
 ·split
  ·exact h.goes.Ew rfl rfl
  ·rename_i h1 _
   have hx:=h.exit d0 d6
   have h1':(T.w.BT.at (T.w.AO.at T.b).room).Ca.at d≠0:=fun e=>h1 (decide_eq_true e)
   have g1:DN T (T.BV { GF 1 with dir:=d }):=h.goes.Ew rfl rfl
   have g2:=g1.trans (P1 g1.fit (r:=(T.w.BT.at T.me.room).Ca.at d - 1) (by show 0≤(T.w.BT.at (T.w.AO.at T.b).room).Ca.at d - 1∧(T.w.BT.at (T.w.AO.at T.b).room).Ca.at d - 1 < 6;omega))
   have g3:=g2.Ew (T'':=((T.BV { GF 1 with dir:=d }).Fw ((T.w.BT.at T.me.room).Ca.at d - 1)).BV { GF 2 with dir:=AH.opposite d }) rfl rfl
   exact g3.trans (Q4 g3.fit)
end AE
end Go.Ing
/- What beings do keeps the land good: each order. -/
namespace Go.Ing
open Go
namespace AH
variable {X:AH}
theorem SG {Cg at_ i:Int}(h:i∈X.has Cg at_):(X.AP.at i).Cg=Cg∧(X.AP.at i).at_=at_:=by
 have:=(List.mem_filter.1 h).2
 rw [Bool.and_eq_true] at this
 exact⟨of_decide_eq_true this.1,of_decide_eq_true this.2⟩
theorem RP (Cg at_:Int):(X.has Cg at_).Nodup:=by
 unfold has
 exact List.Pairwise.filter _ (by decide)
end AH
namespace AE
/-! #### which things are meant -/
theorem El (w:AH)(l:List Int)(nth:Int)(name:Ad)(all:Bool):(BX w l nth name all).Sublist l:=by
 unfold BX
 split
 ·exact List.filter_sublist
 ·split
  ·exact List.nil_sublist _
  ·exact((List.drop_sublist _ _).trans (List.take_sublist _ _)).trans List.filter_sublist
theorem D6 {w:AH}{l:List Int}{nth:Int}{name:Ad}{all:Bool}{i:Int}(h:i∈BX w l nth name all):i∈l:=(El w l nth name all).mem h
def JK (X:AH)(b i:Int):Prop:=0≤i∧i < 9∧((X.AP.at i).Cg=1→(X.AP.at i).at_=b)
def jA (X:AH)(b i:Int):Prop:=0≤i∧i < 9∧(X.AP.at i).Cg=1∧(X.AP.at i).at_=b
theorem jA.R3 {X:AH}{b i:Int}(h:jA X b i):JK X b i:=⟨h.1,h.2.1,fun _=>h.2.2.2⟩
theorem Ff {T:AE}{i:Int}(h:i∈T.own):jA T.w T.b i:=⟨(AH.GD h).1,(AH.GD h).2,(AH.SG h).1,(AH.SG h).2⟩
theorem ZW {X:AH}{b Cg at_ i:Int}(hw:Cg≠1)(h:i∈X.has Cg at_):JK X b i:=⟨(AH.GD h).1,(AH.GD h).2,fun e=>absurd ((AH.SG h).1.symm.trans e) hw⟩
theorem KD {T:AE}{i:Int}(h:i∈T.seen):0≤i∧i < 9∧(T.w.AP.at i).Cg=0:=by
 unfold seen at h
 split at h
 ·cases h
 ·exact⟨(AH.GD h).1,(AH.GD h).2,(AH.SG h).1⟩
theorem NQ {T:AE}{i:Int}(h:i∈T.seen):JK T.w T.b i:=by
 obtain⟨h0,h9,e⟩:=KD h
 exact⟨h0,h9,fun e1=>by omega⟩
theorem QH {l:List Int}(h:(decide ((l.length:Int)=0))=false):l.getD 0 0∈l:=by
 have h':(l.length:Int)≠0:=of_decide_eq_false h
 exact Bh.FC (by omega)
theorem Oo {T:AE}{u:Ad}(h:(T.one u).2=true):JK T.w T.b (T.one u).1:=by
 unfold one at h ⊢
 split at h
 ·cases h
 ·rename_i h1
  rw [if_neg h1]
  split at h
  ·cases h
  ·rename_i h2
   rw [if_neg h2]
   have hm:=D6 (QH (Bool.not_eq_true _ ▸ h2))
   rcases List.mem_append.1 hm with hm | hm
   ·exact(Ff hm).R3
   ·exact NQ hm
/-! #### a box, somebody -/
theorem KQ (T:AE)(u:Ad):(T.box u).1.w=T.w∧(T.box u).1.b=T.b:=by
 unfold box
 split
 ·exact⟨rfl,rfl⟩
 ·split<;>exact⟨rfl,rfl⟩
theorem ZB {T:AE}{u:Ad}(h:(T.box u).2.2=true):0≤(T.box u).2.1∧(T.box u).2.1 < 9∧(T.w.AP.at (T.box u).2.1).kind=3∧(T.box u).1=T:=by
 unfold box at h ⊢
 split at h
 ·cases h
 ·rename_i h1
  rw [if_neg h1]
  split at h
  ·cases h
  ·rename_i h2
   rw [if_neg h2]
   simp only [Bool.or_eq_true,Bool.not_eq_true',decide_eq_false_iff_not,not_or,Bool.not_eq_false,Decidable.not_not] at h1
   have hm:=Oo h1.1
   exact⟨hm.1,hm.2.1,h1.2,rfl⟩
theorem Mz {T:AE}{name:Ad}{k:Int}:∀ {r:Nat} {n:Int},r≤6→T.JZ name r n=some k→0≤k∧k < 6∧k≠T.b∧T.w.JW T.b k=true
 | 0,_,_,h=>by cases h
 | r+1,n,hr,h=>by
  unfold JZ at h
  split at h
  ·exact Mz (by omega) h
  ·rename_i h1
   split at h
   ·cases h
    simp only [Bool.or_eq_true,decide_eq_true_eq,Bool.not_eq_true',not_or,Bool.not_eq_false] at h1
    exact⟨by omega,by omega,h1.1.1,h1.2⟩
   ·exact Mz (by omega) h
theorem Jy (T:AE)(u:Ad):(T.A9 u).1.w=T.w∧(T.A9 u).1.b=T.b:=by
 unfold A9
 split
 ·split<;>exact⟨rfl,rfl⟩
 ·exact⟨rfl,rfl⟩
theorem Kk {T:AE}{u:Ad}(h:(T.A9 u).2.2=true):0≤(T.A9 u).2.1∧(T.A9 u).2.1 < 6∧(T.A9 u).2.1≠T.b∧T.w.JW T.b (T.A9 u).2.1=true:=by
 unfold A9 at h ⊢
 split at h
 ·rename_i h1
  rw [if_pos h1]
  split at h
  ·rename_i k hk
   exact Mz (Nat.le_refl _) hk
  ·cases h
 ·cases h
/-! #### taking and letting go -/
theorem En {T:AE}(h:T.Fit){i:Int}(hm:JK T.w T.b i){t:An}(hn:t.name=(T.w.AP.at i).name)(hk:t.kind=(T.w.AP.at i).kind)(hg:(T.w.Gr i t).Bk=true):DN T (T.DH i t):=
 ⟨rfl,⟨h.b,VM h.br (by rw [hn];exact h.br.th i),hg,h.here⟩,XL hm.1 hm.2.1 hn hk hm.2.2⟩
theorem UG {T:AE}(h:T.Fit){i:Int}(hm:JK T.w T.b i)(hc:¬ ((T.w.AP.at i).kind=2∧(T.w.AP.at i).on=true)):DN T (T.place i 0 T.me.room):=
 En h hm rfl rfl (by
  have:=AH.Nu h.gd hm.1 hm.2.1 (v:=(T.w.AP.at i).on) h.room (AH.IE h.gd hm.1 hm.2.1).plain hc
  exact this)
theorem N7 {T:AE}(h:T.Fit){i a:Int}(hm:JK T.w T.b i)(ha:0≤a∧a < 6)(hh:(T.w.AO.at a).here=true):DN T (T.place i 1 a):=
 En h hm rfl rfl (AH.UI h.gd hm.1 hm.2.1 ha hh)
theorem Tr {T:AE}(h:T.Fit){i a:Int}(hm:JK T.w T.b i)(ha:0≤a∧a < 9)(hk:(T.w.AP.at a).kind=3)(hc:¬ ((T.w.AP.at i).kind=2∧(T.w.AP.at i).on=true))(hi:T.w.Vt a i=false):DN T (T.place i 2 a):=
 En h hm rfl rfl (AH.Ty h.gd hm.1 hm.2.1 ha hk hc hi)
theorem Hl {T:AE}{i j Cg at_:Int}(h0:0≤i)(h9:i < 9)(j0:0≤j):(T.place i Cg at_).w.AP.at j=if j=i then { T.w.AP.at i with Cg:=Cg,at_:=at_ } else T.w.AP.at j:=H3 _ _ _ _ h0 h9 j0
theorem Jj:∀ {l:List Int} {T:AE},T.Fit→(∀ i∈l,JK T.w T.b i)→DN T (T.DR l)
 | [],T,h,_=>h.goes
 | i :: r,T,h,hm=>by
  have hi:=hm i (List.mem_cons_self ..)
  have g1:=N7 h hi h.b h.here
  have g2:DN T ((T.place i 1 T.b).BM 3 i):=g1.Ew rfl rfl
  refine g2.trans (Jj g2.fit fun j hj=>?_)
  have hj':=hm j (List.mem_cons_of_mem _ hj)
  refine⟨hj'.1,hj'.2.1,?_⟩
  show((T.place i 1 T.b).w.AP.at j).Cg=1→((T.place i 1 T.b).w.AP.at j).at_=T.b
  rw [Hl hi.1 hi.2.1 hj'.1]
  split
  ·exact fun _=>rfl
  ·exact hj'.2.2
theorem Q7 {T:AE}(h:T.Fit){l:List Int}(hl:∀ i∈l,JK T.w T.b i)(o:Order):DN T (T.LM l o):=by
 unfold LM
 have hp:∀ i∈BX T.w l o.nth o.name o.Bq,JK T.w T.b i:=fun i hi=>hl i (D6 hi)
 split
 ·have g:DN T (T.tell It):=h.goes.Ew rfl rfl
  exact g.trans (Jj g.fit hp)
 ·exact Jj h hp
theorem ZT {T:AE}(h:T.Fit)(o:Order):DN T (T.get o):=by
 unfold get
 have g:DN T (T.box o.second).1:=h.goes.Ew (T.KQ o.second).1 (T.KQ o.second).2
 split
 ·split
  ·exact g
  ·refine g.trans (Q7 g.fit (fun i hi=>?_) o)
   rw [(T.KQ o.second).1,(T.KQ o.second).2] at *
   exact ZW (by decide) hi
 ·exact Q7 h (fun i hi=>NQ hi) o
def OH (T:AE)(v to:Int):Prop:=(v=8)∨(v=10∧0≤to∧to < 6∧(T.w.AO.at to).here=true)∨(v≠8∧v≠10∧0≤to∧to < 9∧(T.w.AP.at to).kind=3)
theorem OH.next {T T':AE}{v to:Int}(h:OH T v to)(hb:T'.w.AO=T.w.AO)(hk:∀ i,0≤i→i < 9→(T'.w.AP.at i).kind=(T.w.AP.at i).kind):OH T' v to:=by
 rcases h with h | ⟨h1,h2,h3,h4⟩ | ⟨h1,h2,h3,h4,h5⟩
 ·exact .inl h
 ·exact .inr (.inl ⟨h1,h2,h3,by rw [hb];exact h4⟩)
 ·exact .inr (.inr ⟨h1,h2,h3,h4,by rw [hk _ h3 h4];exact h5⟩)
theorem US {T:AE}(h:T.Fit){v to i:Int}(hm:JK T.w T.b i)(ht:OH T v to):DN T (T.Cz v to i)∧(T.Cz v to i).w.AO=T.w.AO∧∀ j,0≤j→j≠i→(T.Cz v to i).w.AP.at j=T.w.AP.at j:=by
 have hpl:∀ Cg at_,(T.place i Cg at_).w.AO=T.w.AO∧∀ j,0≤j→j≠i→(T.place i Cg at_).w.AP.at j=T.w.AP.at j:=fun Cg at_=>⟨rfl,fun j j0 hn=>by rw [Hl hm.1 hm.2.1 j0,if_neg hn]⟩
 unfold Cz
 split
 ·exact⟨h.goes.Ew rfl rfl,rfl,fun _ _ _=>rfl⟩
 ·rename_i h1
  have hc:¬ ((T.w.AP.at i).kind=2∧(T.w.AP.at i).on=true):=fun e=>h1 (by rw [Bool.and_eq_true];exact⟨decide_eq_true e.1,e.2⟩)
  split
  ·exact⟨(UG h hm hc).Ew rfl rfl,hpl 0 T.me.room⟩
  ·rename_i h2
   split
   ·rename_i h3
    rcases ht with e | ⟨_,a0,a6,hh⟩ | ⟨_,e,_⟩
    ·exact absurd (decide_eq_true e) h2
    ·exact⟨(N7 h hm ⟨a0,a6⟩ hh).Ew rfl rfl,hpl 1 to⟩
    ·exact absurd (of_decide_eq_true h3) e
   ·rename_i h3
    split
    ·exact⟨h.goes.Ew rfl rfl,rfl,fun _ _ _=>rfl⟩
    ·rename_i h4
     rcases ht with e | ⟨e,_⟩ | ⟨_,_,a0,a9,hk⟩
     ·exact absurd (decide_eq_true e) h2
     ·exact absurd (decide_eq_true e) h3
     ·exact⟨(Tr h hm ⟨a0,a9⟩ hk hc (by simpa using h4)).Ew rfl rfl,hpl 2 to⟩
theorem KZ {v to:Int}:∀ {l:List Int} {T:AE},T.Fit→l.Nodup→(∀ i∈l,JK T.w T.b i)→OH T v to→DN T (T.Ez v to l)
 | [],T,h,_,_,_=>h.goes
 | i :: r,T,h,hd,hm,ht=>by
  have hi:=hm i (List.mem_cons_self ..)
  obtain⟨g,gb,gt⟩:=US h hi ht
  have hd':=List.nodup_cons.1 hd
  refine g.trans (KZ g.fit hd'.2 (fun j hj=>?_) (ht.next gb fun j j0 j9=>(g.st.th j j0 j9).2))
  have hj':=hm j (List.mem_cons_of_mem _ hj)
  have hne:j≠i:=fun e=>hd'.1 (e ▸ hj)
  rw [JK,gt j hj'.1 hne,g.b]
  exact hj'
theorem XZ {T:AE}(h:T.Fit){to:Int}{o:Order}(ht:OH T o.verb to):DN T (T.TB to o):=by
 unfold TB
 have hp:∀ i∈BX T.w T.own o.nth o.name o.Bq,JK T.w T.b i:=fun i hi=>(Ff (D6 hi)).R3
 have hd:(BX T.w T.own o.nth o.name o.Bq).Nodup:=List.Nodup.sublist (El ..) (AH.RP ..)
 split
 ·have g:DN T (T.tell MI):=h.goes.Ew rfl rfl
  exact g.trans (KZ g.fit hd hp (ht.next rfl fun _ _ _=>rfl))
 ·exact KZ h hd hp ht
theorem VI {T:AE}(h:T.Fit){o:Order}(hv:o.verb=8∨o.verb=9∨o.verb=10):DN T (T.FV o):=by
 have hw:(T.C0 o).1.w=T.w∧(T.C0 o).1.b=T.b:=by
  unfold C0
  split
  ·exact T.KQ o.second
  ·split
   ·exact T.Jy o.second
   ·exact⟨rfl,rfl⟩
 have g:DN T (T.C0 o).1:=h.goes.Ew hw.1 hw.2
 unfold FV
 split
 ·exact g
 ·rename_i h1
  refine g.trans (XZ g.fit ?_)
  have h1':(T.C0 o).2.2=true:=by simpa using h1
  unfold OH
  rw [hw.1]
  unfold C0 at h1' ⊢
  split at h1'
  ·rename_i h2
   rw [if_pos h2]
   obtain⟨a0,a9,hk,_⟩:=ZB h1'
   have:=of_decide_eq_true h2
   exact .inr (.inr ⟨by omega,by omega,a0,a9,hk⟩)
  ·rename_i h2
   rw [if_neg h2]
   split at h1'
   ·rename_i h3
    rw [if_pos h3]
    obtain⟨a0,a6,_,hs⟩:=Kk h1'
    exact .inr (.inl ⟨of_decide_eq_true h3,a0,a6,(AH.Ht (AH.Ly hs).2.1).2.2⟩)
   ·rename_i h3
    rw [if_neg h3]
    refine .inl ?_
    rcases hv with e | e | e
    ·exact e
    ·exact absurd (decide_eq_true e) h2
    ·exact absurd (decide_eq_true e) h3
end AE
end Go.Ing
/- What walks through a turn need. -/
namespace Go.Ing
open Go
theorem K8 {α:Type}{l:List α}{k:Int}{d:α}(h0:0≤k)(h1:k < l.length):l.take (k+1).toNat=l.take k.toNat ++ [l.getD k.toNat d]:=by
 obtain⟨m,rfl⟩:=Int.eq_ofNat_of_zero_le h0
 have hm:m < l.length:=by omega
 rw [show((m:Int)+1).toNat=m+1 by omega,show((m:Int)).toNat=m by omega,List.take_add_one,List.getElem?_eq_getElem hm,List.getD_eq_getElem?_getD,List.getElem?_eq_getElem hm]
 rfl
theorem AH.Mh (d:Int):0≤AH.opposite d∧AH.opposite d < 6:=by
 unfold AH.opposite
 have h:=Int.tmod_nonneg (a:=max 0 (min d 5)+3) 6 (by omega)
 have h2:=Int.tmod_lt_of_pos (max 0 (min d 5)+3) (show(0:Int) < 6 by decide)
 exact⟨h,h2⟩
theorem Words.Tl {s:Ad}:∀ {n:Nat},n≤6→(Words.QM s n).2=true→0≤(Words.QM s n).1∧(Words.QM s n).1 < 6
 | 0,_,h=>by cases h
 | n+1,hn,h=>by
  unfold Words.QM at h ⊢
  split
  ·rename_i c
   show 0≤((5 - n:Nat):Int)∧((5 - n:Nat):Int) < 6
   omega
  ·rename_i c
   rw [if_neg c] at h
   exact Words.Tl (by omega) h
theorem Words.WA {s:Ad}(h:(Words.dir s).2=true):0≤(Words.dir s).1∧(Words.dir s).1 < 6:=Words.Tl (Nat.le_refl _) h
namespace AE
theorem cn {w:AH}{u:Ad}{l:List Int}{k:Int}(h0:0≤k)(h1:k < l.length)(c:(decide (u = []) || decide ((w.AP.at (l.getD k.toNat 0)).name=u))=true):J1 w u (l.take (k+1).toNat)=J1 w u (l.take k.toNat) ++ [l.getD k.toNat 0]:=by
 rw [K8 (d:=0) h0 h1,J1,List.filter_append,List.filter_cons,if_pos c];rfl
theorem bl {w:AH}{u:Ad}{l:List Int}{k:Int}(h0:0≤k)(h1:k < l.length)(c:(decide (u = []) || decide ((w.AP.at (l.getD k.toNat 0)).name=u))=false):J1 w u (l.take (k+1).toNat)=J1 w u (l.take k.toNat):=by
 rw [K8 (d:=0) h0 h1,J1,List.filter_append,List.filter_cons,if_neg (by rw [c];decide)];simp [J1]
theorem XD (w:AH)(u:Ad)(l:List Int):(J1 w u l).length≤l.length:=List.length_filter_le _ _
theorem K6 (T:AE):T.own.length≤9:=AH.Iw _ _ _
theorem JS (T:AE):T.seen.length≤9:=by
 unfold seen;split
 ·simp
 ·exact AH.Iw _ _ _
theorem R9 {T:AE}{i:Int}(h:i∈T.own++T.seen):0≤i∧i < 9:=by
 rcases List.mem_append.1 h with h | h
 ·exact⟨(Ff h).1,(Ff h).2.1⟩
 ·exact⟨(KD h).1,(KD h).2.1⟩
theorem Ml {T:AE}{i:Int}(h:i∈T.own):0≤i∧i < 9:=⟨(Ff h).1,(Ff h).2.1⟩
theorem QL {T:AE}{i:Int}(h:i∈T.seen):0≤i∧i < 9:=⟨(KD h).1,(KD h).2.1⟩
theorem WK (T:AE)(u:Ad):0≤(T.one u).1∧(T.one u).1 < 9:=by
 by_cases h:(T.one u).2=true
 ·exact⟨(Oo h).1,(Oo h).2.1⟩
 ·unfold one at h ⊢
  split
  ·exact⟨Int.le_refl _,by decide⟩
  ·rename_i h1
   rw [if_neg h1] at h
   split
   ·exact⟨Int.le_refl _,by decide⟩
   ·rename_i h2
    rw [if_neg h2] at h
    exact absurd rfl h
theorem bm (T:AE)(u:Ad):0≤(T.box u).2.1∧(T.box u).2.1 < 9:=by
 have h:=T.WK u
 unfold box
 split
 ·exact⟨Int.le_refl _,show(0:Int) < 9 by decide⟩
 ·split
  ·exact⟨Int.le_refl _,show(0:Int) < 9 by decide⟩
  ·exact h
theorem Iq (T:AE)(u:Ad):(T.box u).1.out.length≤T.out.length+1:=by
 unfold box
 split
 ·simp
 ·split<;>simp
theorem My (T:AE)(u:Ad):0≤(T.A9 u).2.1∧(T.A9 u).2.1 < 6:=by
 unfold A9
 split
 ·split
  ·rename_i k hk
   have:=Mz (Nat.le_refl _) hk
   exact⟨this.1,this.2.1⟩
  ·exact⟨Int.le_refl _,show(0:Int) < 6 by decide⟩
 ·exact⟨Int.le_refl _,show(0:Int) < 6 by decide⟩
theorem Hj (T:AE)(u:Ad):(T.A9 u).1.out.length≤T.out.length+1:=by
 unfold A9
 split
 ·split<;>simp
 ·simp
theorem aU (T:AE)(hb:0≤T.b∧T.b < 6)(r:Int):({ T.w with AO:=(T.w.AO.put T.b { T.w.AO.at T.b with room:=r }).put T.b { (T.w.AO.put T.b { T.w.AO.at T.b with room:=r }).at T.b with B7:=0 } }:AH)=(T.Fw r).w:=by
 rw [Vector.CA hb.1 hb.2,Vector.EO];rfl
theorem IJ (T:AE){i:Int}(h0:0≤i)(h9:i < 9)(wh a:Int):({ T.w with AP:=(T.w.AP.put i { T.w.AP.at i with Cg:=wh }).put i { (T.w.AP.put i { T.w.AP.at i with Cg:=wh }).at i with at_:=a } }:AH)=(T.place i wh a).w:=by
 rw [Vector.CA h0 h9,Vector.EO];rfl
theorem EG {T:AE}{i:Int}(h0:0≤i)(h9:i < 9)(wh a:Int):((T.place i wh a).w.AP.at i).name=(T.w.AP.at i).name:=by
 rw [Hl h0 h9 h0,if_pos rfl]
theorem Ds {T:AE}{i j:Int}(h0:0≤i)(h9:i < 9)(j0:0≤j)(wh a:Int):((T.place i wh a).w.AP.at j).name=(T.w.AP.at j).name:=by
 rw [Hl h0 h9 j0]
 split
 ·rename_i e;subst e;rfl
 ·rfl
theorem Xk (T:AE){i:Int}(h0:0≤i)(h9:i < 9)(c:decide ((T.w.AP.at i).kind=2)=true):({ T.w with AP:=(((T.w.AP.put i { T.w.AP.at i with on:=false }).put i { (T.w.AP.put i { T.w.AP.at i with on:=false }).at i with Cg:=0 }).put i { ((T.w.AP.put i { T.w.AP.at i with on:=false }).put i { (T.w.AP.put i { T.w.AP.at i with on:=false }).at i with Cg:=0 }).at i with at_:=(T.w.AO.at T.b).room }) }:AH)=(T.FH i).w:=by
 rw [Vector.CA h0 h9,Vector.EO,Vector.CA h0 h9,Vector.EO]
 unfold FH
 rw [if_pos c];rfl
theorem XR (T:AE){i:Int}(h0:0≤i)(h9:i < 9)(c:decide ((T.w.AP.at i).kind=2)=false):({ T.w with AP:=(T.w.AP.put i { T.w.AP.at i with Cg:=0 }).put i { (T.w.AP.put i { T.w.AP.at i with Cg:=0 }).at i with at_:=(T.w.AO.at T.b).room } }:AH)=(T.FH i).w:=by
 rw [Vector.CA h0 h9,Vector.EO]
 unfold FH
 rw [if_neg (by rw [c];decide)];rfl
theorem Ho {X:AE}{l:List Int}{k:Int}(h0:0≤k)(h1:k < l.length):X.DR (l.drop k.toNat)=((X.place (l.getD k.toNat 0) 1 X.b).BM 3 (l.getD k.toNat 0)).DR (l.drop (k+1).toNat):=by
 rw [OT h0 h1];rfl
theorem Mj {X:AE}{l:List Int}{k:Int}(h0:0≤k)(h1:k < l.length):X.Cj (l.drop k.toNat)=(X.FH (l.getD k.toNat 0)).Cj (l.drop (k+1).toNat):=by
 rw [OT h0 h1];rfl
theorem KX {α:Type}{l:List α}:l.drop (l.length:Int).toNat = []:=by rw [show(l.length:Int).toNat=l.length by omega,List.drop_length]
theorem QI {T:AE}{k:Int}(h:0≤k):T.Dj (k+1).toNat=if decide (((T.Dj k.toNat).w.AO.at k).B7=T.b+1)=true then(T.Dj k.toNat).Cq k 0 else T.Dj k.toNat:=by
 obtain⟨m,rfl⟩:=Int.eq_ofNat_of_zero_le h
 rfl
theorem Sf (T:AE):∀ k:Nat,(T.Dj k).b=T.b∧(T.Dj k).out=T.out
 | 0=>⟨rfl,rfl⟩
 | k+1=>by
  unfold Dj;split
  ·exact Sf T k
  ·exact Sf T k
theorem JT:∀(l:List Int) (T:AE),(T.Cj l).b=T.b∧(T.Cj l).out=T.out
 | [],T=>⟨rfl,rfl⟩
 | i :: r,T=>by rw [Cj];exact JT r _
theorem Ln {T:AE}{name:Ad}{k n:Int}(h0:0≤k)(h6:k < 6):T.JZ name (6 - k).toNat n=if (decide (k=T.b) || !decide ((T.w.AO.at k).name=name) || !T.w.JW T.b k)=true then T.JZ name (6 - (k+1)).toNat n else if decide (n - 1=0)=true then some k else T.JZ name (6 - (k+1)).toNat (n - 1):=by
 obtain⟨m,rfl⟩:=Int.eq_ofNat_of_zero_le h0
 have e:(6 - (m:Int)).toNat=(6 - ((m:Int)+1)).toNat+1:=by omega
 rw [e,JZ,show(((6 - ((6 - ((m:Int)+1)).toNat+1):Nat)):Int)=(m:Int) by omega]
@[simp] theorem F2 (T:AE) (k i:Int):(T.BM k i).out.length=T.out.length+1:=by simp [BM]
@[simp] theorem Mv (T:AE) (k:Int):(T.kind k).out.length=T.out.length+1:=by simp [kind]
theorem Su (T:AE)(b f:Int):(T.Cq b f).b=T.b∧(T.Cq b f).out=T.out:=⟨rfl,rfl⟩
theorem Rt (T:AE):T.FQ.b=T.b∧T.FQ.out=T.out:=by
 unfold FQ
 rw [(Su _ _ _).1,(Su _ _ _).2]
 have h1:=AE.JT T.own T
 have h2:=AE.Sf (T.Cj T.own) 6
 exact⟨h2.1.trans h1.1,h2.2.trans h1.2⟩
theorem DL (T:AE)(b:Int)(x:Am):(T.Dg b x).b=T.b∧(T.Dg b x).out=T.out∧(T.Dg b x).w={ T.w with AO:=T.w.AO.put b x }:=⟨rfl,rfl,rfl⟩
theorem PV (T:AE):T.GY.b=(T.kind 18).b∧T.GY.out=(T.kind 18).out∧T.GY.w={ (T.kind 18).FQ.w with AO:=(T.kind 18).FQ.w.AO.put (T.kind 18).b default }:=by
 unfold GY
 rw [(DL _ _ _).1,(DL _ _ _).2.1,(DL _ _ _).2.2]
 exact⟨(Rt _).1,(Rt _).2,rfl⟩
theorem Sx {l:List Int}(h:∀ i∈l,0≤i∧i < 9):0≤l.getD (0:Int).toNat 0∧l.getD (0:Int).toNat 0 < 9:=by
 cases l with
 | nil=>exact⟨Int.le_refl _,show(0:Int) < 9 by decide⟩
 | cons x r=>exact h x (List.mem_cons_self ..)
theorem PL (T:AE)(v to i:Int):(T.Cz v to i).out.length≤T.out.length+1:=by
 unfold Cz
 split
 ·simp
 ·split
  ·rw [F2];exact Nat.le_refl _
  ·split
   ·rw [Cn];exact Nat.le_refl _
   ·split
    ·simp
    ·rw [Cn];exact Nat.le_refl _
theorem aX (T:AE)(v to i:Int):(T.Cz v to i).b=T.b:=by
 unfold Cz
 split
 ·rfl
 ·split
  ·rfl
  ·split
   ·rfl
   ·split<;>rfl
theorem RG (T:AE)(o:Order):(T.C0 o).1.out.length≤T.out.length+1:=by
 unfold C0
 split
 ·exact T.Iq _
 ·split
  ·exact T.Hj _
  ·exact Nat.le_succ _
theorem W6 {X:AH}{b:Int}(hw:X.DV)(c1:(!X.Bk)=false)(c2:(decide (b < 0) || decide (6≤b) || !(X.AO.at b).here)=false):Fit ⟨X,b,[]⟩:=by
 simp only [Bool.or_eq_false_iff,decide_eq_false_iff_not,Bool.not_eq_false'] at c1 c2
 exact⟨⟨by show 0≤b;omega,by show b < 6;omega⟩,hw,c1,c2.2⟩
end AE
end Go.Ing
/- Engine: texts deep within what came in, as parts of its reading. -/
namespace Go.Ing
open Go
section
open Go.RowKit Go.ChangeShapes Go.WideShapes Go.ChangeAt
variable {H:Type} {enc:TypeId × Value→H} {P:Program} {w:World}
end
end Go.Ing
/- Laws of what beings do: doors; that rules answer at all. -/
namespace Go.Ing
open Go
theorem Vector.JR {α:Type}[Inhabited α]{n:Nat}(v:Vector α n)(i:Int):v.at i=default∨∃ j:Int,0≤j∧j < n∧v.at i=v.at j:=by
 by_cases h:i.toNat < n
 ·exact .inr ⟨(i.toNat:Int),by omega,by omega,by unfold Vector.at;rw [show((i.toNat:Nat):Int).toNat=i.toNat by omega]⟩
 ·refine .inl ?_
  unfold Vector.at
  rw [List.getD_eq_getElem?_getD,List.getElem?_eq_none (by simp;omega)]
  rfl
namespace AE
structure Y3 (X:AH)(b:Int)(o:Order):Prop where
 gd:X.Bk=true
 br:0≤b∧b < 6
 here:(X.AO.at b).here=true
 v:0≤o.verb∧o.verb≤20
 w:(EJ X b o).1=(AE.act ⟨X,b,[]⟩ o).w
 out:(EJ X b o).2.1=(AE.act ⟨X,b,[]⟩ o).out
theorem fL {X:AH}{b:Int}{o:Order}(h:(EJ X b o).2.2=0):Y3 X b o:=by
 unfold EJ at h
 split at h
 ·cases h
 ·rename_i h1
  split at h
  ·cases h
  ·rename_i h2
   split at h
   ·cases h
   ·rename_i h3
    have h2':=h2
    have h3':=h3
    have hd:EJ X b o=((AE.act ⟨X,b,[]⟩ o).w,(AE.act ⟨X,b,[]⟩ o).out,0):=(if_neg h1).trans ((if_neg h2).trans (if_neg h3))
    simp only [Bool.or_eq_true,decide_eq_true_eq,Bool.not_eq_true',not_or,Bool.not_eq_false] at h1 h2' h3'
    exact⟨h1,⟨by omega,by omega⟩,h2'.2,⟨by omega,by omega⟩,by rw [hd],by rw [hd]⟩
theorem Y3.fit {X:AH}{b:Int}{o:Order}(h:Y3 X b o)(hw:X.DV):Fit ⟨X,b,[]⟩:=⟨h.br,hw,h.gd,h.here⟩
end AE
end Go.Ing
/- What beings do keeps the land good: all orders. -/
namespace Go.Ing
open Go
namespace AE
theorem Ih {T:AE}(h:T.Fit){c f:Int}(c0:0≤c)(c6:c < 6)(f0:0≤f)(f6:f≤6)(hh:f≠0→(T.w.AO.at c).here=true):DN T (T.Cq c f):=by
 have hg:=AH.Fq h.gd c0 c6
 have hb:∀ a,0≤a→((T.Cq c f).w.AO.at a).here=(T.w.AO.at a).here:=fun a a0=>by
  show((T.w.AO.put c { T.w.AO.at c with B7:=f }).at a).here=_
  rw [H3 _ _ _ _ c0 c6 a0]
  split
  ·rename_i e;subst e;rfl
  ·rfl
 refine⟨rfl,⟨h.b,E0 h.br (h.br.be c),AH.JB h.gd c0 c6 ?_ fun i i0 i9 hw ha=>?_,(hb T.b h.b.1).trans h.here⟩,NI c0 c6 fun _=>rfl⟩
 ·unfold AH.Dw at hg ⊢
  simp only [Bool.or_eq_false_iff,decide_eq_false_iff_not,Bool.and_eq_false_iff,Bool.not_eq_false'] at hg ⊢
  obtain⟨⟨⟨⟨⟨⟨⟨q1,q2⟩,q3⟩,q4⟩,q5⟩,q6⟩,q7⟩,q8⟩:=hg
  refine⟨⟨⟨⟨⟨⟨⟨q1,q2⟩,q3⟩,q4⟩,by omega⟩,by omega⟩,?_⟩,q8⟩
  by_cases e:f=0
  ·exact .inr (by simp [e])
  ·exact .inl (hh e)
 ·show(T.w.AO.at c).here=true
  have:=AH.IE h.gd i0 i9
  rcases this.Cg with ⟨a,_⟩ | ⟨_,_,a⟩ | ⟨a,_⟩
  ·omega
  ·rw [ha] at a;exact a
  ·omega
theorem Vo {T:AE}(h:T.Fit)(o:Order):DN T (T.FK o):=by
 unfold FK
 generalize (if (!decide (o.nth=1) || o.Bq)=true then [] else o.name)=nm
 have hw:=T.Jy nm
 have g:DN T (T.A9 nm).1:=h.goes.Ew hw.1 hw.2
 split
 ·exact g
 ·rename_i h1
  have hs:=Kk (T:=T) (u:=nm) (by simpa using h1)
  have hk:(T.w.AO.at (T.A9 nm).2.1).here=true:=(AH.Ht (AH.Ly hs.2.2.2).2.1).2.2
  have hgb:=g.fit.b
  have g1:=g.trans (Ih g.fit (c:=(T.A9 nm).1.b) (f:=(T.A9 nm).2.1+1) g.fit.b.1 g.fit.b.2 (by omega) (by omega) fun _=>g.fit.here)
  have key:DN T (if decide ((((T.A9 nm).1.Cq (T.A9 nm).1.b ((T.A9 nm).2.1+1)).w.AO.at (T.A9 nm).2.1).B7=0)=true then((T.A9 nm).1.Cq (T.A9 nm).1.b ((T.A9 nm).2.1+1)).Cq (T.A9 nm).2.1 ((T.A9 nm).1.b+1) else(T.A9 nm).1.Cq (T.A9 nm).1.b ((T.A9 nm).2.1+1)):=by
   split
   ·refine g1.trans (Ih g1.fit hs.1 hs.2.1 (by omega) (by omega) fun _=>?_)
    show(((T.A9 nm).1.w.AO.put (T.A9 nm).1.b _).at _).here=true
    rw [H3 _ _ _ _ g.fit.b.1 g.fit.b.2 hs.1,if_neg (by rw [hw.2];exact hs.2.2.1),hw.1]
    exact hk
   ·exact g1
  exact key.Ew rfl rfl
theorem Ny {T:AE}(h:T.Fit){first:Bool}{i:Int}{v:Bool}{ev:Int}(hm:JK T.w T.b i)(h1:(T.w.AP.at i).kind≠0)(h2:(T.w.AP.at i).kind=2→(T.w.AP.at i).Cg=1):DN T (T.before first i v ev):=by
 unfold before
 split
 ·have g:=En h hm (t:={ T.w.AP.at i with on:=v }) rfl rfl (AH.WO h.gd hm.1 hm.2.1 h1 h2)
  exact g.Ew rfl rfl
 ·have g:DN T (T.BM ev i):=h.goes.Ew rfl rfl
  exact g.trans (En g.fit hm rfl rfl (AH.WO h.gd hm.1 hm.2.1 h1 h2))
theorem Md {T:AE}(h:T.Fit){r d:Int}{v:Bool}(r0:0≤r)(r6:r < 6)(d0:0≤d)(d6:d < 6)(hv:v=true→(T.w.BT.at r).Ca.at d≠0):DN T (T.DG r d v):=
 ⟨rfl,⟨h.b,Uj h.br,AH.XJ h.gd r0 r6 d0 d6 hv,h.here⟩,X6 r0 r6⟩
theorem X0 {T:AE}(h:T.Fit){d:Int}{on:Bool}{ev:Int}(d0:0≤d)(d6:d < 6):DN T (T.Gv d on ev):=by
 have hx:=h.exit d0 d6
 have hr:=h.room
 unfold Gv
 split
 ·exact h.goes.Ew rfl rfl
 ·rename_i h1
  split
  ·exact h.goes.Ew rfl rfl
  ·have h1':¬ (T.w.BT.at (T.w.AO.at T.b).room).Ca.at d - 1 < 0:=fun e=>h1 (decide_eq_true e)
   have g1:=Md h (v:=!on) hr.1 hr.2 d0 d6 fun _=>by omega
   have ho:=AH.Mh d
   have key:DN T (if decide (((T.DG T.me.room d (!on)).w.BT.at ((T.w.BT.at T.me.room).Ca.at d - 1)).Ca.at (AH.opposite d)=T.me.room+1)=true then(T.DG T.me.room d (!on)).DG ((T.w.BT.at T.me.room).Ca.at d - 1) (AH.opposite d) (!on) else T.DG T.me.room d (!on)):=by
    split
    ·rename_i h3
     refine g1.trans (Md g1.fit (v:=!on) (r:=(T.w.BT.at (T.w.AO.at T.b).room).Ca.at d - 1) (d:=AH.opposite d) (by omega) (by omega) ho.1 ho.2 fun _=>?_)
     have h3':=of_decide_eq_true h3
     intro e
     have h3'':((T.DG T.me.room d (!on)).w.BT.at ((T.w.BT.at (T.w.AO.at T.b).room).Ca.at d - 1)).Ca.at (AH.opposite d)=(T.w.AO.at T.b).room+1:=h3'
     have e':((T.DG T.me.room d (!on)).w.BT.at ((T.w.BT.at (T.w.AO.at T.b).room).Ca.at d - 1)).Ca.at (AH.opposite d)=0:=e
     omega
    ·exact g1
   exact key.Ew rfl rfl
theorem Uc {v:Int}:setKind v=1∨setKind v=2∨setKind v=3:=by
 unfold setKind
 split
 ·exact .inl rfl
 ·split
  ·exact .inr (.inl rfl)
  ·exact .inr (.inr rfl)
theorem Zx {T:AE}(h:T.Fit)(o:Order):DN T (T.set o):=by
 unfold set
 split
 ·rename_i h1
  have:=Words.WA (Bool.and_eq_true_iff.1 h1).1
  exact X0 h this.1 this.2
 ·split
  ·exact h.goes.Ew rfl rfl
  ·rename_i h2
   split
   ·exact h.goes.Ew rfl rfl
   ·simp only [Bool.or_eq_true,decide_eq_true_eq,Bool.not_eq_true',decide_eq_false_iff_not,not_or,Decidable.not_not] at h2
    have hm:(T.Eg o).getD 0 0∈T.Eg o:=QH (decide_eq_false h2.1)
    have hm2:=D6 hm
    have hk:=Uc (v:=o.verb)
    have hmine:JK T.w T.b ((T.Eg o).getD 0 0)∧(setKind o.verb=2→(T.w.AP.at ((T.Eg o).getD 0 0)).Cg=1):=by
     split at hm2
     ·rename_i h3
      have h3':=of_decide_eq_true h3
      rcases List.mem_append.1 hm2 with hq | hq
      ·exact⟨(Ff hq).R3,fun e=>by omega⟩
      ·exact⟨NQ hq,fun e=>by omega⟩
     ·exact⟨(Ff hm2).R3,fun _=>(Ff hm2).2.2.1⟩
    have hk0:(T.w.AP.at ((T.Eg o).getD 0 0)).kind≠0:=by rw [h2.2];omega
    have hk2:(T.w.AP.at ((T.Eg o).getD 0 0)).kind=2→(T.w.AP.at ((T.Eg o).getD 0 0)).Cg=1:=fun e=>hmine.2 (by rw [← h2.2];exact e)
    split
    ·exact Ny h hmine.1 hk0 hk2
    ·exact Ny h hmine.1 hk0 hk2
theorem Ke {T:AE}{i j:Int}(h0:0≤i)(h9:i < 9)(j0:0≤j):(T.FH i).w.AP.at j=if j=i then { T.w.AP.at i with on:=if decide ((T.w.AP.at i).kind=2)=true then false else(T.w.AP.at i).on,Cg:=0,at_:=T.me.room } else T.w.AP.at j:=H3 _ _ _ _ h0 h9 j0
theorem SI {T:AE}(h:T.Fit){i:Int}(hm:JK T.w T.b i):DN T (T.FH i):=
 En h hm rfl rfl (AH.Nu h.gd hm.1 hm.2.1 h.room (fun e=>by rw [if_neg (by rw [e];decide)];exact(AH.IE h.gd hm.1 hm.2.1).plain e) (fun⟨e1,e2⟩=>by rw [if_pos (decide_eq_true e1)] at e2;cases e2))
theorem Jw:∀ {l:List Int} {T:AE},T.Fit→(∀ i∈l,JK T.w T.b i)→DN T (T.Cj l)∧∀ j,0≤j→j < 9→(((T.Cj l).w.AP.at j).Cg=0∨(j ∉ l∧(T.Cj l).w.AP.at j=T.w.AP.at j))
 | [],T,h,_=>⟨h.goes,fun j _ _=> .inr ⟨by simp,rfl⟩⟩
 | i :: r,T,h,hm=>by
  have hi:=hm i (List.mem_cons_self ..)
  have g1:=SI h hi
  obtain⟨g2,k2⟩:=Jw (l:=r) g1.fit fun j hj=>by
   have hj':=hm j (List.mem_cons_of_mem _ hj)
   refine⟨hj'.1,hj'.2.1,?_⟩
   rw [Ke hi.1 hi.2.1 hj'.1]
   split
   ·intro e;cases e
   ·exact hj'.2.2
  refine⟨g1.trans g2,fun j j0 j9=>?_⟩
  rcases k2 j j0 j9 with e | ⟨e1,e2⟩
  ·exact .inl e
  ·have hd:=Ke (T:=T) hi.1 hi.2.1 j0
   by_cases hji:j=i
   ·rw [if_pos hji] at hd
    exact .inl (by rw [show(T.Cj (i :: r)).w.AP.at j=_ from e2,hd])
   ·rw [if_neg hji] at hd
    exact .inr ⟨by simp [hji,e1],e2.trans hd⟩
theorem L1 {T:AE}(h:T.Fit):∀ {k:Nat},k≤6→DN T (T.Dj k)∧(T.Dj k).w.AP=T.w.AP
 | 0,_=>⟨h.goes,rfl⟩
 | k+1,hk=>by
  obtain⟨g,e⟩:=L1 (k:=k) h (by omega)
  unfold Dj
  split
  ·exact⟨g.trans (Ih g.fit (by omega) (by omega) (Int.le_refl _) (by decide) fun e=>absurd rfl e),e⟩
  ·exact⟨g,e⟩
theorem Mo (T:AE):T.FQ=((T.Cj T.own).Dj 6).Cq T.b 0:=by unfold FQ;rfl
theorem cx {T:AE}(h:T.Fit):DN T T.FQ:=by
 have g1:=(Jw h (l:=T.own) fun i hi=>(Ff hi).R3).1
 have g2:=(L1 g1.fit (k:=6) (Nat.le_refl _)).1
 have g3:=g1.trans g2
 have g4:=Ih g3.fit (c:=T.b) (f:=0) h.b.1 h.b.2 (Int.le_refl _) (by decide) (fun e=>(e rfl).elim)
 rw [Mo]
 exact g3.trans g4
theorem Qh (T:AE)(b f:Int):(T.Cq b f).w.AP=T.w.AP:=rfl
theorem S9 {T:AE}(h:T.Fit){j:Int}(j0:0≤j)(j9:j < 9):¬ ((T.FQ.w.AP.at j).Cg=1∧(T.FQ.w.AP.at j).at_=T.b):=by
 obtain⟨g1,k1⟩:=Jw h (l:=T.own) fun i hi=>(Ff hi).R3
 have k2:=(L1 g1.fit (k:=6) (Nat.le_refl _)).2
 rw [Mo,Qh,k2]
 rcases k1 j j0 j9 with e | ⟨e1,e2⟩
 ·rw [e];exact fun h=>by cases h.1
 ·rw [e2]
  intro⟨a,b⟩
  refine e1 ?_
  unfold own AH.has
  exact List.mem_filter.2 ⟨List.mem_map.2 ⟨j.toNat,List.mem_range.2 (by omega),by show((j.toNat:Nat):Int)=j;omega⟩,by rw [a,b];simp⟩
theorem Q9 {T:AE}(h:T.Fit):DN T T.FQ∧∀ j,0≤j→j < 9→¬ ((T.FQ.w.AP.at j).Cg=1∧(T.FQ.w.AP.at j).at_=T.b):=⟨cx h,fun _ j0 j9=>S9 h j0 j9⟩
theorem Vm {T:AE}(h:T.Fit):T.GY.w.Bk=true∧Step T.b T.w T.GY.w:=by
 have g1:DN T (T.kind 18):=h.goes.Ew rfl rfl
 obtain⟨g2,k⟩:=Q9 g1.fit
 have g:=g1.trans g2
 rw [(T.PV).2.2]
 exact⟨AH.JB (X:=(T.kind 18).FQ.w) g.fit.gd h.b.1 h.b.2 (by decide) fun i i0 i9 e1 e2=>absurd ⟨e1,e2⟩ (k i i0 i9),g.st.trans (NI h.b.1 h.b.2 fun e=>absurd rfl e)⟩
theorem XI {T:AE}(h:T.Fit)(o:Order)(h0:0≤o.verb)(h1:o.verb≤20):(T.act o).w.Bk=true∧Step T.b T.w (T.act o).w:=by
 have k:∀ {T':AE},DN T T'→T'.w.Bk=true∧Step T.b T.w T'.w:=fun g=>⟨g.fit.gd,g.st⟩
 unfold act
 split
 ·rename_i c;exact k (Xg h h0 (of_decide_eq_true c))
 ·split
  ·exact k (Q4 h)
  ·split
   ·exact k (h.goes.Ew (T.H2 _ _).1 (T.H2 _ _).2.1)
   ·split
    ·exact k (h.goes.Ew rfl rfl)
    ·split
     ·exact Vm h
     ·split
      ·exact k (Vo h o)
      ·split
       ·exact k (ZT h o)
       ·split
        ·rename_i c
         simp only [Bool.or_eq_true,decide_eq_true_eq] at c
         exact k (VI h (by omega))
        ·exact k (Zx h o)
theorem keeps {X:AH}{b:Int}{o:Order}(hw:X.DV)(h:(EJ X b o).2.2=0):(EJ X b o).1.Bk=true∧Step b X (EJ X b o).1:=by
 have k:=fL h
 rw [k.w]
 exact XI (k.fit hw) o k.v.1 k.v.2
end AE
end Go.Ing

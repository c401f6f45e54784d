/- The engine: rules by which a walk over a function of the model goes operation by operation; data in cells; from a contract of a law to its row. No condition. -/
import Derived.Test.YtoidpggbbfncpaaGreatDoorTopTranscriptEb1
import Derived.ChangeKeysEq
import Derived.Laws.Cover3
import Derived.ChangeMaps5
import Derived.SizedLaws
import Derived.JoinedCond
set_option linter.unusedSimpArgs false
set_option linter.unusedVariables false
/- Engine, part 12: regions that draw their order, with effects amid what floats. -/
namespace Go.Ing
open Go
def QK (K:Go.Act→World→Prop)(Q:Exit→Go.Act→World→Prop):Exit→Go.Act→World→Prop
 | .normal,a,w=>K a w
 | e,a,w=>Q e a w
theorem V7 {K:Go.Act→World→Prop}{Q:Exit→Go.Act→World→Prop}(h:LetsOut (QK K Q)):LetsOut Q:=by
 obtain⟨a,w,h⟩:=h;exact⟨a,w,h⟩
theorem Oper.gO {P:Program}{o:Oper}{a:Go.Act}{w:World}{K:Go.Act→World→Prop}{Q:Exit→Go.Act→World→Prop}(hd:a.defers = [])(hK:∀ a w,K a w→a.defers = [])
  (h:o.wp P a w K (QK K Q)):o.wp P a w (fun a' w'=>K a' w'∧∃ v,a'=a.put o.dst v) Q:=by
 unfold Oper.wp at *
 generalize (execOp a.eval o).run P w=r at *
 cases r with
 | ok n w'=>
  cases n with
  | value v=>exact⟨h,v,rfl⟩
  | skip=>exact⟨h,undef,rfl⟩
  | defer d=>
   have:=hK _ _ h
   cases hdst:o.dst<;>simp [Act.put,hdst] at this
  | enter f args=>exact Calls.mono h (fun e w'' he=>match e,he with
    | .returned v,he=>⟨he,v,rfl⟩
    | .panicked c,he=>he
    | .outgrown,he=>V7 he)
  | row row args=>exact Rows.mono h fun v w'' he=>⟨he,v,rfl⟩
  | _=>exact h
 | halt x w'=>cases x<;>exact h

def M4:Nat→List Oper→Bool
 | _,[]=>true
 | i,o :: l=>o.after.toList.all (fun e=>!Region.binds .any e || Nat.blt e.on i) && M4 (i+1) l
theorem TL:∀(l:List Oper) (i j:Nat) (o:Oper),M4 i l=true→l[j]?=some o→∀ e∈o.after.toList,Region.binds .any e=true→e.on < i+j
 | [],_,_,_,_,h=>by simp at h
 | p :: l,i,0,o,hb,h=>by
  simp at h;subst h
  simp only [M4,Bool.and_eq_true,List.all_eq_true] at hb
  intro e he hbe
  have:=hb.1 e he
  rw [hbe] at this
  simpa [Nat.blt_eq] using this
 | p :: l,i,j+1,o,hb,h=>by
  simp only [M4,Bool.and_eq_true] at hb
  intro e he hbe
  have:=TL l (i+1) j o hb.2 (by simpa using h) e he hbe
  omega
def gR (l:List Oper)(Rs:List Nat):Bool:=(List.range l.length).all fun i=>(List.range i).all fun j=>!((Rs.getD i 0).testBit j) || (match l[i]? with | none=>false | some o=>o.after.toList.any fun e=>Region.binds .any e && Nat.blt e.on i && (Nat.beq e.on j || (Nat.blt j e.on && (Rs.getD e.on 0).testBit j)))
def Zc (n:Nat)(_F:List (Nat × Value))(l:List Oper):Bool:=l.all fun o=>match o.dst with | some d=>Nat.blt d n | none=>true
def U6 (F:List (Nat × Value))(d:Nat)(v:Value):Prop:=lk d F=none∨lk d F=some v
def reaches (Rs:List Nat)(x j:Nat):Bool:=Nat.blt j x && (Rs.getD x 0).testBit j
theorem TG {l:List Oper}{Rs:List Nat}{listed:Array Bool}(hr:gR l Rs=true)(hdc:Rx l listed):∀(k x j:Nat) (o:Oper),x≤k→l[x]?=some o→(∀ e∈o.after.toList,Region.binds .any e=true→listed.getD e.on false=true)→reaches Rs x j=true→listed.getD j false=true:=by
 intro k
 induction k with
 | zero=>
  intro x j o hx ho ha h
  simp [reaches,Nat.blt_eq] at h;omega
 | succ k ih=>
  intro x j o hx ho ha h
  simp only [reaches,Bool.and_eq_true,Nat.blt_eq] at h
  have hxl:x < l.length:=by
   rcases Nat.lt_or_ge x l.length with h' | h'
   ·exact h'
   ·rw [List.getElem?_eq_none h'] at ho;cases ho
  have h1:=List.all_eq_true.1 hr x (List.mem_range.2 hxl)
  have h2:=List.all_eq_true.1 h1 j (List.mem_range.2 h.1)
  rw [h.2,ho] at h2
  simp only [Bool.not_true,Bool.false_or,List.any_eq_true,Bool.and_eq_true,Bool.or_eq_true,Nat.blt_eq] at h2
  obtain⟨e,he,⟨hb,hlt⟩,h3⟩:=h2
  have hl:=ha e he hb
  rcases h3 with h3 | ⟨h3,h4⟩
  ·rw [← Nat.eq_of_beq_eq_true h3];exact hl
  ·have hel:e.on < l.length:=by omega
   have ho':l[e.on]?=some l[e.on]:=List.getElem?_eq_getElem hel
   exact ih e.on j _ (by omega) ho' (hdc _ _ ho' hl) (by simp only [reaches,Bool.and_eq_true,Nat.blt_eq];exact⟨h3,h4⟩)

def Ng (i:Nat)(d:Option Nat)(v:Value)(D:List (Nat × (Nat × Value))):List (Nat × (Nat × Value)):=match d with | some d=>(i,(d,v)) :: D | none=>D

section
variable (P:Program) (n:Nat) (w0:World) (M:List Nat) (Q:Exit→Go.Act→World→Prop) (l:List Oper) (Rs:List Nat) (F:List (Nat × Value))
def J8 (b:Nat)(D:List (Nat × (Nat × Value)))(L:List Ab):List Nat→Prop
 | []=>True
 | j :: A=>(reaches Rs b j=true∨∃ o d v,l[j]?=some o∧OI j D=some (d,v)∧J6 P n w0 M Q l.toArray F L o D v)∧J8 b D L A
def PK (o:Oper)(X:Value→List Ab→Prop)(a:Go.Act)(w:World):Prop:=
 ∃ v L',(∀ d,o.dst=some d→a.tmps[d]?=some v)∧a.defers = []∧a.tmps.size=n∧St w0 M w L'∧X v L'
def eU (V:List Nat)(bs:List Nat):Bool:=(List.range l.length).all fun x=>V.elem x || bs.elem x || bs.any fun b=>reaches Rs x b
def Js:Nat→(V A:List Nat)→(D:List (Nat × (Nat × Value)))→(L:List Ab)→Prop
 | 0,V,_,D,L=>((List.range l.length).all fun x=>V.elem x)=true∧GQ n w0 M Q .normal (QC D++F) L
 | k+1,V,A,D,L=>
  (∃ i o d v,l[i]?=some o∧o.dst=some d∧V.elem i=false∧(o.after.toList.all fun e=>!Region.binds .any e || V.elem e.on)=true∧J6 P n w0 M Q l.toArray F L o D v∧U6 F d v∧Js k (i :: V) (i :: A) ((i,(d,v)) :: D) L)
  ∨ (∃ b:Nat,∃ bs:List Nat,eU l Rs V (b :: bs)=true∧∀ x∈b :: bs,∃ o,l[x]?=some o∧V.elem x=false∧(∀ d,o.dst=some d→lk d F=none) ∧
    GL P n w0 M l.toArray (QK (PK n w0 M o fun v L'=>J8 P n w0 M Q l Rs F x (Ng x o.dst v D) L' A∧Js k (x :: V) A (Ng x o.dst v D) L') Q) [o] (Ex D o.after.toList++F) L)
end
structure Qb (P:Program)(n:Nat)(w0:World)(M:List Nat)(Q:Exit→Go.Act→World→Prop)(l:List Oper)(F:List (Nat × Value))(V A:List Nat)(D:List (Nat × (Nat × Value)))(L:List Ab)(listed:Array Bool)(a:Go.Act)(w:World):Prop where
 size:listed.size=l.length
 closed:Rx l listed
 fr:Fr n a F
 st:St w0 M w L
 has:∀ j,listed.getD j false=true→j∈V∧∀ d v,OI j D=some (d,v)→a.tmps[d]?=some v
 HY:∀ j,j∈V→listed.getD j false=false→j∈A∧∃ o d v,l[j]?=some o∧o.dst=some d∧OI j D=some (d,v)∧J6 P n w0 M Q l.toArray F L o D v∧U6 F d v
 dO:∀ x∈D,x.1∈V∧OI x.1 D=some x.2∧∃ o:Oper,l[x.1]?=some o∧o.dst=some x.2.1
 Wj:∀ j∈V,∀ o,l[j]?=some o→∀ e∈o.after.toList,Region.binds .any e=true→e.on∈V
theorem Q0 {x:Nat}{V:List Nat}:V.elem x=true↔x∈V:=by simp
theorem Lp {x:Nat}{V:List Nat}(h:V.elem x=false):x ∉ V:=by simpa using h
theorem QR {n:Nat}{a:Go.Act}{F:List (Nat × Value)}{D:List (Nat × (Nat × Value))}{es:List Edge}(hF:Fr n a F)(h:∀ e∈es,Region.binds .any e=true→∀ d v,OI e.on D=some (d,v)→a.tmps[d]?=some v):Fr n a (Ex D es++F):=by
 refine⟨hF.size,hF.defers,fun k v hk=>?_⟩
 rcases NB _ _ hk with h1 | h1
 ·obtain⟨e,he,hb,hl⟩:=MT _ h1
  exact h e he hb k v hl
 ·exact hF.get k v h1
section
variable {P:Program} {n:Nat} {w0:World} {M:List Nat} {Q:Exit→Go.Act→World→Prop} {l:List Oper} {Rs:List Nat} {F:List (Nat × Value)}
theorem Wt {j i:Nat}{d:Option Nat}{v:Value}{D:List (Nat × (Nat × Value))}(h:j≠i):OI j (Ng i d v D)=OI j D:=by
 cases d with
 | none=>rfl
 | some d=>exact Hv h _ _
theorem KL {listed:Array Bool}{x j:Nat}(hx:x < listed.size):(listed.setIfInBounds x true).getD j false=if x=j then true else listed.getD j false:=by
 rw [Array.getD_eq_getD_getElem?,Array.getElem?_setIfInBounds]
 by_cases e:x=j
 ·subst e;simp [hx]
 ·rw [if_neg e,if_neg e,Array.getD_eq_getD_getElem?]
theorem J8.at {b:Nat}{D:List (Nat × (Nat × Value))}{L:List Ab}:∀ {A:List Nat},J8 P n w0 M Q l Rs F b D L A→∀ j∈A,reaches Rs b j=true∨∃ o d v,l[j]?=some o∧OI j D=some (d,v)∧J6 P n w0 M Q l.toArray F L o D v
 | [],_,j,hj=>by simp at hj
 | x :: A,h,j,hj=>by
  rcases List.mem_cons.1 hj with rfl | hj
  ·exact h.1
  ·exact J8.at h.2 j hj
theorem O8 {listed:Array Bool}(hs:listed.size=l.length)(hdc:Rx l listed){x:Nat}{o:Oper}(hox:l[x]?=some o)(h3:∀ e∈o.after.toList,Region.binds .any e=true→listed.getD e.on false=true)(hxl:x < l.length):Rx l (listed.setIfInBounds x true):=by
 intro y p hp hy e he hbe
 rw [KL (by omega)] at hy ⊢
 by_cases e2:x=e.on
 ·rw [if_pos e2]
 ·rw [if_neg e2]
  by_cases e1:x=y
  ·subst e1;rw [hox] at hp;cases hp;exact h3 e he hbe
  ·rw [if_neg e1] at hy;exact hdc y p hp hy e he hbe
theorem NU {i:Nat}{x:Nat × Value}{D:List (Nat × (Nat × Value))}:∀ es:List Edge,(∀ e∈es,Region.binds .any e=true→e.on≠i)→Ex ((i,x) :: D) es=Ex D es
 | [],_=>rfl
 | e :: es,h=>by
  simp only [Ex]
  rw [NU es fun e he=>h e (by simp [he])]
  cases hb:Region.binds .any e with
  | false=>rfl
  | true=>rw [Hv (h e (by simp) hb)]
theorem Qb.float {V A:List Nat}{D:List (Nat × (Nat × Value))}{L:List Ab}{listed:Array Bool}{a:Go.Act}{w:World}(hb:M4 0 l=true)(hI:Qb P n w0 M Q l F V A D L listed a w){i d:Nat}{o:Oper}{v:Value}(ho:l[i]?=some o)(hd:o.dst=some d)(hV:V.elem i=false)
  (he:(o.after.toList.all fun e=>!Region.binds .any e || V.elem e.on)=true) (hok:J6 P n w0 M Q l.toArray F L o D v) (hlk:U6 F d v):Qb P n w0 M Q l F (i :: V) (i :: A) ((i,(d,v)) :: D) L listed a w:=by
 have hiV:=Lp hV
 have hne:∀ j∈V,j≠i:=fun j hj e=>hiV (e ▸ hj)
 have heV:∀ e∈o.after.toList,Region.binds .any e=true→e.on∈V:=fun e he' hb'=>by
  have:=List.all_eq_true.1 he e he'
  rw [hb'] at this
  simpa using this
 refine⟨hI.size,hI.closed,hI.fr,hI.st,fun j hj=>?_,fun j hj hl=>?_,fun x hx=>?_,fun j hj o' ho' e he' hb'=>?_⟩
 ·obtain⟨h1,h2⟩:=hI.has j hj
  refine⟨by simp [h1],fun d' v' h=>h2 d' v' ?_⟩
  rwa [Hv (hne j h1)] at h
 ·rcases List.mem_cons.1 hj with rfl | hj
  ·refine⟨by simp,o,d,v,ho,hd,MN _ _ _,?_,hlk⟩
   unfold J6 at hok ⊢
   rw [NU _ fun e he hbe=>hne _ (heV e he hbe)]
   exact hok
  ·obtain⟨h1,o',d',v',h2,h3,h4,h5,h6⟩:=hI.HY j hj hl
   refine⟨by simp [h1],o',d',v',h2,h3,by rw [Hv (hne j hj)];exact h4,?_,h6⟩
   unfold J6 at h5 ⊢
   rw [NU _ fun e he hb=>hne _ (hI.Wj j hj o' h2 e he hb)]
   exact h5
 ·rcases List.mem_cons.1 hx with rfl | hx
  ·exact⟨by simp,MN _ _ _,o,ho,hd⟩
  ·obtain⟨h1,h2,h3⟩:=hI.dO x hx
   exact⟨by simp [h1],by rw [Hv (hne _ h1)];exact h2,h3⟩
 ·rcases List.mem_cons.1 hj with rfl | hj
  ·rw [ho] at ho';cases ho';simp [heV e he' hb']
  ·simp [hI.Wj j hj o' ho' e he' hb']
theorem Qb.RR {V A:List Nat}{D:List (Nat × (Nat × Value))}{L:List Ab}{listed:Array Bool}{a:Go.Act}{w:World}(hdst:Zc n F l=true)(hu:G6 l=true)(hI:Qb P n w0 M Q l F V A D L listed a w)
  {x:Nat} {o:Oper} (hox:l[x]?=some o) (h2:listed[x]?=some false) (h3:∀ e∈o.after.toList,Region.binds .any e=true→listed.getD e.on false=true) (hxl:x < l.length) (hxV:x∈V)
  (K:Go.Act→World→Prop) (hK:∀ a' w',Qb P n w0 M Q l F V A D L (listed.setIfInBounds x true) a' w'→K a' w'):wpOp P l.toArray Q x K a w:=by
 have hlx:listed.getD x false=false:=by rw [Array.getD_eq_getD_getElem?,h2];rfl
 obtain⟨_,o',d,v,ho',hd,hlk,hok,hlo⟩:=hI.HY x hxV hlx
 rw [hox] at ho';cases ho'
 have hdb:d < n:=by
  have:=List.all_eq_true.1 hdst o (List.mem_of_getElem? hox)
  rw [hd] at this
  simpa [Nat.blt_eq] using this
 have hfr:Fr n a (Ex D o.after.toList++F):=QR hI.fr fun e he hb d v h=>(hI.has e.on (h3 e he hb)).2 d v h
 have hput:∀ w' v',St w0 M w' L→v'=v→Qb P n w0 M Q l F V A D L (listed.setIfInBounds x true) (a.put o.dst v') w':=by
  intro w' v' hS' hv
  subst hv
  rw [hd]
  refine⟨by simpa using hI.size,O8 hI.size hI.closed hox h3 hxl,⟨by simp [Act.put,hI.fr.size],hI.fr.defers,fun k u hk=>?_⟩,hS',fun j hj=>?_,fun j hj hl=>?_,hI.dO,hI.Wj⟩
  ·by_cases hkd:k=d
   ·subst hkd
    rcases hlo with hlo | hlo
    ·rw [hlo] at hk;cases hk
    ·rw [hlo] at hk;cases hk
     simp [Act.put,hI.fr.size,hdb]
   ·simp only [Act.put]
    rw [Array.getElem?_setIfInBounds_ne (fun h=>hkd h.symm)]
    exact hI.fr.get k u hk
  ·rw [KL (by rw [hI.size];exact hxl)] at hj
   by_cases e:x=j
   ·subst e
    refine⟨hxV,fun d' u h=>?_⟩
    rw [hlk] at h;cases h
    simp [Act.put,hI.fr.size,hdb]
   ·rw [if_neg e] at hj
    obtain⟨h4,h5⟩:=hI.has j hj
    refine⟨h4,fun d' u h=>?_⟩
    have hne:d≠d':=fun e'=>by
     obtain⟨_,_,p,hp,hpd⟩:=hI.dO _ (OR _ h)
     exact e (MD l x j o p d hu hox hp hd (by rw [hpd,e']))
    simp only [Act.put]
    rw [Array.getElem?_setIfInBounds_ne hne]
    exact h5 d' u h
  ·rw [KL (by rw [hI.size];exact hxl)] at hl
   by_cases e:x=j
   ·rw [if_pos e] at hl;cases hl
   ·rw [if_neg e] at hl;exact hI.HY j hj hl
 unfold wpOp
 rw [List.getElem?_toArray,hox]
 have:=hok a w K hfr hI.st fun w' hS'=>hK _ _ (hput w' v hS' rfl)
 show if Region.wanted o (yielded l.toArray a.tmps)=true then _ else _
 by_cases hw:Region.wanted o (yielded l.toArray a.tmps)=true
 ·rw [if_pos hw] at this ⊢;exact .inl this
 ·rw [if_neg hw] at this ⊢;exact this
theorem Qb.Xt {V A:List Nat}{D:List (Nat × (Nat × Value))}{L:List Ab}{listed:Array Bool}{a:Go.Act}{w:World}(hr:gR l Rs=true)(hb:M4 0 l=true)(hdst:Zc n F l=true)(hu:G6 l=true)(hI:Qb P n w0 M Q l F V A D L listed a w)
  {x:Nat} {o:Oper} (hox:l[x]?=some o) (h3:∀ e∈o.after.toList,Region.binds .any e=true→listed.getD e.on false=true) (hxl:x < l.length) (hxV:x ∉ V) (hnone:∀ d,o.dst=some d→lk d F=none) {X:Value→List Ab→Prop}
  (hp:GL P n w0 M l.toArray (QK (PK n w0 M o X) Q) [o] (Ex D o.after.toList++F) L) (hX:∀ v L',X v L'→J8 P n w0 M Q l Rs F x (Ng x o.dst v D) L' A)
  (K:Go.Act→World→Prop) (hK:∀ a' w' v L',X v L'→Qb P n w0 M Q l F (x :: V) A (Ng x o.dst v D) L' (listed.setIfInBounds x true) a' w'→K a' w'):wpOp P l.toArray Q x K a w:=by
 have hdb:∀ d,o.dst=some d→d < n∧lk d F=none:=fun d hd=>by
  have:=List.all_eq_true.1 hdst o (List.mem_of_getElem? hox)
  rw [hd] at this
  exact⟨by simpa [Nat.blt_eq] using this,hnone d hd⟩
 have hfr:Fr n a (Ex D o.after.toList++F):=QR hI.fr fun e he hb d v h=>(hI.has e.on (h3 e he hb)).2 d v h
 have hne:∀ j∈V,j≠x:=fun j hj e=>hxV (e ▸ hj)
 have hput:∀ a' w',PK n w0 M o X a' w'→(∃ v,a'=a.put o.dst v)→K a' w':=by
  intro a' w' ⟨v,L',h1,h2,h3',h4,h5⟩ ⟨u,hu'⟩
  refine hK a' w' v L' h5 ?_
  have hkeep:∀ k,o.dst≠some k→a'.tmps[k]?=a.tmps[k]?:=fun k hk=>by
   rw [hu']
   cases hd:o.dst with
   | none=>rfl
   | some d=>
    simp only [Act.put]
    rw [Array.getElem?_setIfInBounds_ne]
    intro e;subst e;exact hk hd
  refine⟨by simpa using hI.size,O8 hI.size hI.closed hox h3 hxl,⟨h3',h2,fun k u hk=>?_⟩,h4,fun j hj=>?_,fun j hj hl=>?_,fun y hy=>?_,fun j hj p hp' e he hbe=>?_⟩
  ·rw [hkeep k fun e=>by rw [(hdb k e).2] at hk;cases hk]
   exact hI.fr.get k u hk
  ·rw [KL (by rw [hI.size];exact hxl)] at hj
   by_cases e:x=j
   ·subst e
    refine⟨by simp,fun d' u h=>?_⟩
    cases hd:o.dst with
    | none=>
     rw [hd] at h
     obtain⟨h6,_⟩:=hI.dO _ (OR _ h)
     exact absurd h6 hxV
    | some d=>
     rw [hd] at h
     rw [show Ng x (some d) v D=(x,(d,v)) :: D from rfl,MN] at h
     cases h
     exact h1 _ hd
   ·rw [if_neg e] at hj
    obtain⟨h6,h7⟩:=hI.has j hj
    refine⟨by simp [h6],fun d' u h=>?_⟩
    rw [Wt (hne j h6)] at h
    rw [hkeep d' fun hd=>?_]
    ·exact h7 d' u h
    ·obtain⟨_,_,p,hp',hpd⟩:=hI.dO _ (OR _ h)
     exact e (MD l x j o p d' hu hox hp' hd hpd)
  ·rw [KL (by rw [hI.size];exact hxl)] at hl
   by_cases e:x=j
   ·rw [if_pos e] at hl;cases hl
   ·rw [if_neg e] at hl
    have hjV:j∈V:=by
     rcases List.mem_cons.1 hj with h | h
     ·exact absurd h.symm e
     ·exact h
    obtain⟨h6,o',d',v',h7,h8,h9,h10,h11⟩:=hI.HY j hjV hl
    refine⟨h6,?_⟩
    rcases (hX v L' h5).at j h6 with h | ⟨o2,d2,v2,g1,g2,g3⟩
    ·have:=TG hr hI.closed _ x j o (Nat.le_refl _) hox h3 h
     rw [hl] at this;cases this
    ·rw [h7] at g1;cases g1
     have hg2:=g2
     rw [Wt (hne j hjV),h9] at g2
     cases g2
     exact⟨o',d',v',h7,h8,hg2,g3,h11⟩
  ·cases hd:o.dst with
   | none=>rw [hd] at hy;obtain⟨h6,h7,h8⟩:=hI.dO y hy;exact⟨by simp [h6],h7,h8⟩
   | some d=>
    rw [hd] at hy
    rcases List.mem_cons.1 hy with rfl | hy
    ·exact⟨by simp,MN _ _ _,o,hox,hd⟩
    ·obtain⟨h6,h7,h8⟩:=hI.dO y hy
     exact⟨by simp [h6],by rw [show Ng x (some d) v D=(x,(d,v)) :: D from rfl,Hv (hne _ h6)];exact h7,h8⟩
  ·rcases List.mem_cons.1 hj with rfl | hj
   ·rw [hox] at hp';cases hp'
    exact List.mem_cons_of_mem _ (hI.has _ (h3 e he hbe)).1
   ·exact List.mem_cons_of_mem _ (hI.Wj j hj p hp' e he hbe)
 have hgl:=hp a w hfr hI.st
 unfold wpOp
 rw [List.getElem?_toArray,hox]
 show if Region.wanted o (yielded l.toArray a.tmps)=true then _ else _
 unfold wpList at hgl
 have hPKd:∀ a w,PK n w0 M o X a w→a.defers = []:=fun a w ⟨_,_,_,h,_⟩=>h
 by_cases hw:Region.wanted o (yielded l.toArray a.tmps)=true
 ·rw [if_pos hw] at hgl ⊢
  rcases hgl with hgl | ⟨h1,h2⟩
  ·exact .inl (Oper.wp_mono (fun a' w' h=>hput a' w' h.1 h.2) (Oper.gO hI.fr.defers hPKd hgl))
  ·exact .inr ⟨h1,V7 h2⟩
 ·rw [if_neg hw] at hgl ⊢
  exact hput _ _ hgl ⟨_,rfl⟩
theorem Uy (hb:M4 0 l=true)(hr:gR l Rs=true)(hdst:Zc n F l=true)(hu:G6 l=true) :
  ∀(m k:Nat) (V A:List Nat) (D:List (Nat × (Nat × Value))) (L:List Ab) (listed:Array Bool) (a:Go.Act) (w:World),listed.toList.count false=m→Js P n w0 M Q l Rs F k V A D L→Qb P n w0 M Q l F V A D L listed a w→wpAny P .any l.toArray Q m listed a w:=by
 have hlt:∀(x:Nat) (o:Oper),l[x]?=some o→x < l.length:=fun x o ho=>by
  rcases Nat.lt_or_ge x l.length with h | h
  ·exact h
  ·rw [List.getElem?_eq_none h] at ho;cases ho
 intro m
 induction m with
 | zero=>
  intro k
  induction k with
  | zero=>
   intro V A D L listed a w hcnt hp hI
   have hall:∀ j,j < l.length→listed.getD j false=true:=fun j hj=>by
    have hj':j < listed.size:=by rw [hI.size];exact hj
    have h1:listed[j]?=some listed[j]:=Array.getElem?_eq_getElem hj'
    rw [Array.getD_eq_getD_getElem?,h1]
    cases hv:listed[j] with
    | true=>rfl
    | false=>
     have:=List.count_eq_zero.1 hcnt
     exact absurd (by rw [← hv];exact Array.getElem_mem_toList hj') this
   refine⟨?_,hp.2 a w ⟨hI.fr.size,hI.fr.defers,fun k v hk=>?_⟩ hI.st⟩
   ·refine List.eq_nil_iff_forall_not_mem.2 fun x hx=>?_
    obtain⟨o,ho,h2,_⟩:=(K7 hI.size).1 hx
    have:=hall x (hlt x o ho)
    rw [Array.getD_eq_getD_getElem?,h2] at this
    cases this
   ·rcases NB _ _ hk with h | h
    ·have:∃ j,(j,(k,v))∈D:=by
      clear hk hI hp
      induction D with
      | nil=>simp [QC] at h
      | cons x D ih=>
       simp only [QC,List.mem_cons] at h
       rcases h with h | h
       ·obtain⟨j,y⟩:=x;simp only at h;exact⟨j,by rw [h];simp⟩
       ·obtain⟨j,hj⟩:=ih h;exact⟨j,by simp [hj]⟩
     obtain⟨j,hj⟩:=this
     obtain⟨h1,h2,o,h3,_⟩:=hI.dO _ hj
     exact(hI.has j (hall j (hlt j o h3))).2 k v h2
    ·exact hI.fr.get k v h
  | succ k ih=>
   intro V A D L listed a w hcnt hp hI
   rcases hp with ⟨i,o,d,v,ho,hd,hV,he,hok,hlo,hp⟩ | ⟨b,bs,hch,hx⟩
   ·exact ih (i :: V) (i :: A) _ L listed a w hcnt hp (hI.float hb ho hd hV he hok hlo)
   ·exfalso
    obtain⟨o,ho,hV,_⟩:=hx b (by simp)
    have hbl:b < listed.size:=by rw [hI.size];exact hlt b o ho
    have h1:listed[b]?=some listed[b]:=Array.getElem?_eq_getElem hbl
    have h2:listed.getD b false=true:=by
     rw [Array.getD_eq_getD_getElem?,h1]
     cases hv:listed[b] with
     | true=>rfl
     | false=>
      have:=List.count_eq_zero.1 hcnt
      exact absurd (by rw [← hv];exact Array.getElem_mem_toList hbl) this
    exact Lp hV (hI.has b h2).1
 | succ m ihm=>
  intro k
  have next:∀ {listed:Array Bool} {x:Nat},listed.toList.count false=m+1→listed[x]?=some false→(listed.setIfInBounds x true).toList.count false=m:=fun {listed x} hcnt h2=>by
   have:=count_set (l:=listed.toList) x (by simpa using h2)
   rw [Array.toList_setIfInBounds]
   omega
  have some_ready:∀ {listed:Array Bool},listed.size=l.length→listed.toList.count false=m+1→Region.ready .any l.toArray listed≠ []:=fun {listed} hs hcnt=>by
   have hex:∃ j,j < listed.size∧listed[j]?=some false:=by
    have:false∈listed.toList:=by
     apply Classical.byContradiction
     intro h
     rw [List.count_eq_zero.2 h] at hcnt;omega
    obtain⟨j,hj,e⟩:=List.getElem_of_mem this
    exact⟨j,by simpa using hj,by rw [← e];simp at hj ⊢⟩
   have hmin:∀ b,∀ j,j≤b→j < listed.size→listed[j]?=some false→∃ j,j < listed.size∧listed[j]?=some false∧∀ i,i < j→listed.getD i false=true:=by
    intro b
    induction b with
    | zero=>intro j hj h1 h2;exact⟨j,h1,h2,fun i hi=>by omega⟩
    | succ b ihb=>
     intro j hj h1 h2
     by_cases hx:∀ i,i < j→listed.getD i false=true
     ·exact⟨j,h1,h2,hx⟩
     ·obtain⟨i,hi⟩:∃ i,i < j∧¬ listed.getD i false=true:=by
       apply Classical.byContradiction
       intro hn
       exact hx fun i hi=>Classical.byContradiction fun h=>hn ⟨i,hi,h⟩
      have hi':i < listed.size:=by omega
      refine ihb i (by omega) hi' ?_
      have h3:=hi.2
      rw [Array.getD_eq_getD_getElem?,Array.getElem?_eq_getElem hi'] at h3
      rw [Array.getElem?_eq_getElem hi']
      cases hv:listed[i] with
      | false=>rfl
      | true=>rw [hv] at h3;simp at h3
   obtain⟨j0,h1,h2⟩:=hex
   obtain⟨j,h1,h2,h3⟩:=hmin j0 j0 (Nat.le_refl _) h1 h2
   intro hn
   have hjl:j < l.length:=by omega
   have:j∈Region.ready .any l.toArray listed:=(K7 hs).2 ⟨l[j],List.getElem?_eq_getElem hjl,h2,fun e he hbe=>h3 e.on (by have:=TL l 0 j _ hb (List.getElem?_eq_getElem hjl) e he hbe;omega)⟩
   rw [hn] at this
   cases this
  induction k with
  | zero=>
   intro V A D L listed a w hcnt hp hI
   refine⟨fun e=>absurd e (some_ready hI.size hcnt),fun x hx=>?_⟩
   obtain⟨o,hox,h2,h3⟩:=(K7 hI.size).1 hx
   have hxl:=hlt x o hox
   have hxV:x∈V:=by simpa using List.all_eq_true.1 hp.1 x (List.mem_range.2 hxl)
   exact hI.RR hdst hu hox h2 h3 hxl hxV _ fun a' w' hI'=>ihm 0 V A D L _ a' w' (next hcnt h2) hp hI'
  | succ k ih=>
   intro V A D L listed a w hcnt hp hI
   have hp0:=hp
   rcases hp with ⟨i,o,d,v,ho,hd,hV,he,hok,hlo,hp⟩ | ⟨b,bs,hch,hbs⟩
   ·exact ih (i :: V) (i :: A) _ L listed a w hcnt hp (hI.float hb ho hd hV he hok hlo)
   ·refine⟨fun e=>absurd e (some_ready hI.size hcnt),fun x hx=>?_⟩
    obtain⟨o,hox,h2,h3⟩:=(K7 hI.size).1 hx
    have hxl:=hlt x o hox
    by_cases hxV:x∈V
    ·exact hI.RR hdst hu hox h2 h3 hxl hxV _ fun a' w' hI'=>ihm (k+1) V A D L _ a' w' (next hcnt h2) hp0 hI'
    ·have hxb:x∈b :: bs:=by
      have:=List.all_eq_true.1 hch x (List.mem_range.2 hxl)
      simp only [Bool.or_eq_true,List.any_eq_true] at this
      rcases this with (h | h) | ⟨c,hc,h⟩
      ·exact absurd (Q0.1 h) hxV
      ·exact Q0.1 h
      ·exfalso
       obtain⟨oc,hoc,hVc,_⟩:=hbs c hc
       have:=TG hr hI.closed _ x c o (Nat.le_refl _) hox h3 h
       exact Lp hVc (hI.has c this).1
     obtain⟨o',ho',_,hnone,hgl⟩:=hbs x hxb
     rw [hox] at ho';cases ho'
     exact hI.Xt hr hb hdst hu hox h3 hxl hxV hnone hgl (fun v L' h=>h.1) _ fun a' w' v L' hX hI'=>ihm k _ A _ L' _ a' w' (next hcnt h2) hX.2 hI'

theorem eC {id:Nat}{L:List Ab}(Rs:List Nat)(hmix:P.follows .mixedOrders=true)(hchk:(M4 0 l && gR l Rs && Zc n F l && G6 l)=true)
  (h:Js P n w0 M Q l Rs F l.length [] [] [] L):G P n w0 M (.region id l.toArray true) Q F L:=by
 simp only [Bool.and_eq_true] at hchk
 obtain⟨⟨⟨hb,hr⟩,hdst⟩,hu⟩:=hchk
 intro a w hF hS
 refine wp_region_any hmix ?_
 refine Uy hb hr hdst hu _ l.length [] [] [] L _ a _ ?_ h ⟨by simp,fun x o _ hx=>?_,hF,hS.drew _,fun j hj=>?_,fun j hj=>by simp at hj,fun x hx=>by simp at hx,fun j hj=>by simp at hj⟩
 ·simp
 ·rw [Array.getD_eq_getD_getElem?,Array.getElem?_replicate] at hx;split at hx<;>simp at hx
 ·rw [Array.getD_eq_getD_getElem?,Array.getElem?_replicate] at hj;split at hj<;>simp at hj

theorem BE {id N:Nat}{L:List Ab}(Rs:List Nat)(hmix:P.follows .mixedOrders=true)(hchk:(M4 0 l && gR l Rs && Zc n F l && G6 l)=true)(hN:l.length=N)
  (h:Js P n w0 M Q l Rs F N [] [] [] L):G P n w0 M (.region id l.toArray true) Q F L:=eC Rs hmix hchk (hN ▸ h)
/-! #### steps of a plan -/
section
variable {k i d:Nat} {V A:List Nat} {D:List (Nat × (Nat × Value))} {L:List Ab} {op:Op} {T:TypeId} {pos:String} {Cu:Array Edge} {v:Value} {j t:Nat} {c y b:Bool}
theorem A2 (hV:((List.range l.length).all fun x=>V.elem x)=true)(h:GQ n w0 M Q .normal (QC D++F) L):Js P n w0 M Q l Rs F 0 V A D L:=⟨hV,h⟩
def bE (l:List Oper)(V:List Nat)(i:Nat)(Cu:List Edge):Bool:=!(V.elem i) && Cu.all fun e=>!Region.binds .any e || V.elem e.on
theorem BI (i:Nat){o:Oper}{d:Nat}{v:Value}(ho:l[i]?=some o)(hd:o.dst=some d)(hc:bE l V i o.after.toList=true)(hok:J6 P n w0 M Q l.toArray F L o D v)(h:Js P n w0 M Q l Rs F k (i :: V) (i :: A) ((i,(d,v)) :: D) L)(hlk:U6 F d v:=by first | exact .inl rfl | exact .inr rfl):Js P n w0 M Q l Rs F (k+1) V A D L:=by
 simp only [bE,Bool.and_eq_true,Bool.not_eq_true'] at hc
 exact .inl ⟨i,o,d,v,ho,hd,hc.1,hc.2,hok,hlk,h⟩
def Y6 (d:Option Nat)(F:List (Nat × Value)):Bool:=match d with | some d=>(lk d F).isNone | none=>true
theorem SL {o:Oper}(h:Y6 o.dst F=true):∀ d,o.dst=some d→lk d F=none:=fun d hd=>by
 rw [hd] at h
 simpa [Y6] using h
theorem Aj (b:Nat){o:Oper}(ho:l[b]?=some o)(hc:(!(V.elem b) && eU l Rs V [b])=true)
  (h:GL P n w0 M l.toArray (QK (PK n w0 M o fun v L'=>J8 P n w0 M Q l Rs F b (Ng b o.dst v D) L' A∧Js P n w0 M Q l Rs F k (b :: V) A (Ng b o.dst v D) L') Q) [o] (Ex D o.after.toList++F) L) (hn:Y6 o.dst F=true:=by rfl):Js P n w0 M Q l Rs F (k+1) V A D L:=by
 simp only [Bool.and_eq_true,Bool.not_eq_true'] at hc
 exact .inr ⟨b,[],hc.2,fun x hx=>by simp at hx;subst hx;exact⟨o,ho,hc.1,SL hn,h⟩⟩
theorem KU (b b2:Nat){o o2:Oper}(ho:l[b]?=some o)(ho2:l[b2]?=some o2)(hc:(!(V.elem b) && !(V.elem b2) && eU l Rs V [b,b2])=true)
  (h:GL P n w0 M l.toArray (QK (PK n w0 M o fun v L'=>J8 P n w0 M Q l Rs F b (Ng b o.dst v D) L' A∧Js P n w0 M Q l Rs F k (b :: V) A (Ng b o.dst v D) L') Q) [o] (Ex D o.after.toList++F) L)
  (h2:GL P n w0 M l.toArray (QK (PK n w0 M o2 fun v L'=>J8 P n w0 M Q l Rs F b2 (Ng b2 o2.dst v D) L' A∧Js P n w0 M Q l Rs F k (b2 :: V) A (Ng b2 o2.dst v D) L') Q) [o2] (Ex D o2.after.toList++F) L) (hn:Y6 o.dst F=true:=by rfl) (hn2:Y6 o2.dst F=true:=by rfl):Js P n w0 M Q l Rs F (k+1) V A D L:=by
 simp only [Bool.and_eq_true,Bool.not_eq_true'] at hc
 refine .inr ⟨b,[b2],hc.2,fun x hx=>?_⟩
 simp at hx
 rcases hx with rfl | rfl
 ·exact⟨o,ho,hc.1.1,SL hn,h⟩
 ·exact⟨o2,ho2,hc.1.2,SL hn2,h2⟩
theorem As:J8 P n w0 M Q l Rs F i D L []:=trivial
theorem YF (hr:reaches Rs i j=true)(h:J8 P n w0 M Q l Rs F i D L A):J8 P n w0 M Q l Rs F i D L (j :: A):=⟨.inl hr,h⟩
theorem S4 {o:Oper}{d:Nat}{v v':Value}(ho:l[j]?=some o)(hok:J6 P n w0 M Q l.toArray F L o D v')(hl:OI j D=some (d,v))(e:v'=v)(h:J8 P n w0 M Q l Rs F i D L A):J8 P n w0 M Q l Rs F i D L (j :: A):=⟨.inr ⟨o,d,v,ho,hl,e ▸ hok⟩,h⟩
theorem Bu {o:Oper}{X:Value→List Ab→Prop}{ops:Array Oper}{d:Nat}{v:Value}{F':List (Nat × Value)}{L':List Ab}(hd:o.dst=some d)(h:X v L'):GL P n w0 M ops (QK (PK n w0 M o X) Q) [] ((d,v) :: F') L':=by
 intro a w hF hS
 exact⟨v,L',fun d' hd'=>(by rw [hd] at hd';cases hd';exact hF.get d v (by simp [lk])),hF.defers,hF.size,hS,h⟩
theorem BO {o:Oper}{X:Value→List Ab→Prop}{ops:Array Oper}{F':List (Nat × Value)}{L':List Ab}(hd:o.dst=none)(h:X undef L'):GL P n w0 M ops (QK (PK n w0 M o X) Q) [] F' L':=by
 intro a w hF hS
 exact⟨undef,L',fun d' hd'=>(by rw [hd] at hd';cases hd'),hF.defers,hF.size,hS,h⟩
theorem LI (h:EX P n w0 M op T (Ex D Cu.toList++F) L v):J6 P n w0 M Q l.toArray F L ⟨some d,op,T,pos,Cu,none⟩ D v:=
 fun a w K hF hS hK=>by simp only [Region.wanted,if_true];exact h a w K Q _ _ _ _ hF hS hK
theorem gL (hw:∀ a,Fr n a (Ex D Cu.toList++F)→∀ b,Region.wanted ⟨some d,op,T,pos,Cu,some (j,b)⟩ (yielded l.toArray a.tmps)=(match b with | true=>c && y | false=>c && !y)){b:Bool}
  (h:c=true→y=b→EX P n w0 M op T (Ex D Cu.toList++F) L v):J6 P n w0 M Q l.toArray F L ⟨some d,op,T,pos,Cu,some (j,b)⟩ D (cv (match b with | true=>c && y | false=>c && !y) v):=fun a w K hF hS hK=>by
 rw [hw a hF b]
 cases c<;>cases y<;>cases b<;>simp [cv] at hK ⊢<;>first | exact h rfl rfl a w K Q _ _ _ _ hF hS hK | exact hK w hS
theorem TV {F:List (Nat × Value)}{ops:Array Oper}{a:Go.Act}{d:Nat}{op:Op}{T:TypeId}{pos:String}{Cu:Array Edge}{j t:Nat}{y:Bool}(hF:Fr n a F)(hj:(ops[j]?).bind (·.dst)=some t)(hb:lk t F=some (.bool y))(b:Bool):Region.wanted ⟨some d,op,T,pos,Cu,some (j,b)⟩ (yielded ops a.tmps)=(match b with | true=>true && y | false=>true && !y):=by
 simp only [Region.wanted,Fi hF hj hb];cases y<;>cases b<;>rfl
theorem UC (hj:(l.toArray[j]?).bind (·.dst)=some t)(hb:lk t (Ex D Cu.toList++F)=some (.bool y))(h:y=true→EX P n w0 M op T (Ex D Cu.toList++F) L v):J6 P n w0 M Q l.toArray F L ⟨some d,op,T,pos,Cu,some (j,true)⟩ D (cv y v):=by
 have:=gL (P:=P) (w0:=w0) (M:=M) (Q:=Q) (L:=L) (T:=T) (d:=d) (pos:=pos) (op:=op) (v:=v) (c:=true) (y:=y) (b:=true) (fun _ hF b=>TV hF hj hb b) (fun _=>h)
 simpa using this
theorem Hf (hj:(l.toArray[j]?).bind (·.dst)=some t)(hb:lk t (Ex D Cu.toList++F)=some (.bool y))(h:y=false→EX P n w0 M op T (Ex D Cu.toList++F) L v):J6 P n w0 M Q l.toArray F L ⟨some d,op,T,pos,Cu,some (j,false)⟩ D (cv (!y) v):=by
 have:=gL (P:=P) (w0:=w0) (M:=M) (Q:=Q) (L:=L) (T:=T) (d:=d) (pos:=pos) (op:=op) (v:=v) (c:=true) (y:=y) (b:=false) (fun _ hF b=>TV hF hj hb b) (fun _=>h)
 simpa using this
theorem KK (hj:(l.toArray[j]?).bind (·.dst)=some t)(hb:lk t (Ex D Cu.toList++F)=some (.bool b))(h:EX P n w0 M op T (Ex D Cu.toList++F) L v):J6 P n w0 M Q l.toArray F L ⟨some d,op,T,pos,Cu,some (j,b)⟩ D v:=fun a w K hF hS hK=>by
 rw [show Region.wanted ⟨some d,op,T,pos,Cu,some (j,b)⟩ (yielded l.toArray a.tmps)=true by simp [Region.wanted,Fi hF hj hb],if_pos rfl]
 exact h a w K Q _ _ _ _ hF hS hK
end
end
end Go.Ing
/- Engine, part 13: structs held against one another; parts of strings and slices; bits. -/
namespace Go.Ing
open Go
theorem BG {α:Type}{c:Bool}{a b:α}(h:c=true):(if c=true then a else b)=a:=if_pos h
theorem AX {α:Type}{c:Bool}{a b:α}(h:c=false):(if c=true then a else b)=b:=if_neg (by rw [h];decide)
theorem V5 {F:List (Nat × Value)}{t:Nat}{e b:Bool}(h:lk t F=some (.bool e))(hc:e=b):lk t F=some (.bool b):=hc ▸ h
section
variable {P:Program} {n:Nat} {w0:World} {M:List Nat} {Q:Exit→Go.Act→World→Prop} {F F':List (Nat × Value)} {L L':List Ab} {ops:Array Oper} {rest:List Oper}
/-! #### bits -/
theorem dr {U V T:TypeId}{x y:Operand}{k k':IntKind}{a b c:Int}(hx:ev F x=some (.int k a))(hy:ev F y=some (.int k' b))(h0:0≤b)(hc:k.wrap (a * 2 ^ min b.toNat k.bits)=c):PS P n w0 M (.binOp .shl U x y V) T F L (.int k c) L:=CR fun e w hF=>by
 have hn:¬ b < 0:=by omega
 simp [execOp,hF.ev hx,hF.ev hy,eqGuard,binOp,Op.shift,hn,hc]
theorem dk {U V T:TypeId}{x y:Operand}{k:IntKind}{a b c:Int}(hx:ev F x=some (.int k a))(hy:ev F y=some (.int k b))(hc:k.wrap ((BitVec.ofInt k.bits a ||| BitVec.ofInt k.bits b).toNat:Int)=c):PS P n w0 M (.binOp .or U x y V) T F L (.int k c) L:=CR fun e w hF=>by
 simp [execOp,hF.ev hx,hF.ev hy,eqGuard,binOp,Op.intBits,-BitVec.toNat_or,-BitVec.toNat_and,hc]
theorem SH {U V T:TypeId}{x y:Operand}{k:IntKind}{a b c:Int}(hx:ev F x=some (.int k a))(hy:ev F y=some (.int k b))(hc:k.wrap ((BitVec.ofInt k.bits a &&& BitVec.ofInt k.bits b).toNat:Int)=c):PS P n w0 M (.binOp .and U x y V) T F L (.int k c) L:=CR fun e w hF=>by
 simp [execOp,hF.ev hx,hF.ev hy,eqGuard,binOp,Op.intBits,-BitVec.toNat_or,-BitVec.toNat_and,hc]
theorem aB {a b:Nat}(ha:a < 256)(hb:b < 256):IntKind.i64.wrap ((BitVec.ofInt 64 ((a:Int) * 256) ||| BitVec.ofInt 64 (b:Int)).toNat:Int)=(a:Int) * 256+b:=by
 have e:(BitVec.ofInt 64 ((a:Int) * 256) ||| BitVec.ofInt 64 (b:Int)).toNat=a * 256+b:=by
  rw [BitVec.toNat_or,show((a:Int) * 256)=((a * 256:Nat):Int) by simp,BitVec.ofInt_natCast,BitVec.ofInt_natCast,BitVec.toNat_ofNat,BitVec.toNat_ofNat,Nat.mod_eq_of_lt (by omega),Nat.mod_eq_of_lt (by omega)]
  have:=Nat.shiftLeft_add_eq_or_of_lt (i:=8) (b:=b) (by omega) a
  rw [Nat.shiftLeft_eq] at this
  exact this.symm
 rw [e]
 exact IntWalk.i64_in _ (by omega)
theorem Vl {U V T:TypeId}{x:Operand}{c:UInt8}(hu:P.underlying V=some (.int .i64))(hU:P.underlying U=some (.int .u8))(hx:ev F x=some (.int .u8 (c.toNat:Int))):PS P n w0 M (.convert U V x) T F L (.int .i64 (c.toNat:Int)) L:=
 Oz hu hU hx (IntWalk.i64_in _ (by have:=c.toNat_lt;omega))
theorem cf {U V T:TypeId}{x y:Operand}{k':IntKind}{c:UInt8}(hx:ev F x=some (.int .i64 (c.toNat:Int)))(hy:ev F y=some (.int k' 8)):PS P n w0 M (.binOp .shl U x y V) T F L (.int .i64 ((c.toNat:Int) * 256)) L:=
 dr hx hy (by decide) (IntWalk.i64_in ((c.toNat:Int) * 256) (by have:=c.toNat_lt;omega))
theorem eN {U V T:TypeId}{x y:Operand}{c d:UInt8}(hx:ev F x=some (.int .i64 ((c.toNat:Int) * 256)))(hy:ev F y=some (.int .i64 (d.toNat:Int))):PS P n w0 M (.binOp .or U x y V) T F L (.int .i64 ((c.toNat:Int) * 256+(d.toNat:Int))) L:=
 dk hx hy (aB c.toNat_lt d.toNat_lt)

/-! #### parts of strings and slices -/
theorem extract_mk (s:Ad)(l h:Nat):(ByteArray.mk s.toArray).extract l h=ByteArray.mk ((s.take h).drop l).toArray:=by
 apply ByteArray.ext
 rw [ByteArray.data_extract]
 apply Array.ext'
 simp [List.extract_eq_take_drop,List.drop_take]
theorem cK {T U:TypeId}{x y z:Operand}{s:Ad}{k k':IntKind}{a b:Int}(hu:P.underlying T=some .string)(hx:ev F x=some (BW s))(hy:ev F y=some (.int k a))(hz:ev F z=some (.int k' b))(h0:0≤a)(h1:a≤b)(h2:b≤s.length):PS P n w0 M (.slice T x (some y) (some z) none) U F L (BW ((s.take b.toNat).drop a.toNat)) L:=CR fun e w hF=>by
 have hb:0≤b:=by omega
 have hab:a≤(b.toNat:Int):=by omega
 have hb':b≤((ByteArray.mk s.toArray).size:Int):=h2
 simp only [execOp,hF.ev hx,Option.map_some,Option.map_none,hF.ev hy,hF.ev hz,Instr.sliceAt,Instr.slice,underlying]
 simp [hu,Instr.sliceBounds,Instr.sliceBound,asIntOf,hb,hb',h0,hab,extract_mk]
 intro h;omega
theorem HA {T U:TypeId}{x y:Operand}{s:Ad}{k:IntKind}{a:Int}(hu:P.underlying T=some .string)(hx:ev F x=some (BW s))(hy:ev F y=some (.int k a))(h0:0≤a)(h1:a≤s.length):PS P n w0 M (.slice T x (some y) none none) U F L (BW (s.drop a.toNat)) L:=CR fun e w hF=>by
 have hb':a≤((ByteArray.mk s.toArray).size:Int):=h1
 simp only [execOp,hF.ev hx,Option.map_some,Option.map_none,hF.ev hy,Instr.sliceAt,Instr.slice,underlying]
 simp [hu,Instr.sliceBounds,Instr.sliceBound,asIntOf,hb',h0,extract_mk,List.drop_take]
 congr 2
 rw [MW,← List.drop_take]
 simp
theorem JG {T U:TypeId}{x z:Operand}{s:Ad}{k:IntKind}{b:Int}(hu:P.underlying T=some .string)(hx:ev F x=some (BW s))(hz:ev F z=some (.int k b))(h0:0≤b)(h1:b≤s.length):PS P n w0 M (.slice T x none (some z) none) U F L (BW (s.take b.toNat)) L:=CR fun e w hF=>by
 have hb':b≤((ByteArray.mk s.toArray).size:Int):=h1
 simp only [execOp,hF.ev hx,Option.map_some,Option.map_none,hF.ev hz,Instr.sliceAt,Instr.slice,underlying]
 simp [hu,Instr.sliceBounds,Instr.sliceBound,asIntOf,hb',h0,extract_mk]
def Hd.cut (h:Hd)(l r sz:Nat):Hd:=⟨if h.cap=l then h.a else h.a.map (·.add (l * sz)),r - l,h.cap - l⟩
theorem Rd.cut {w:World}{h:Hd}{T sz:Nat}{cs:List Value}(hr:Rd w h T sz cs){l r:Nat}(h1:l≤r)(h2:r≤h.len)(h3:h.len≤h.cap):Rd w (h.cut l r sz) T sz ((cs.take (r * sz)).drop (l * sz)):=by
 have hlen:((cs.take (r * sz)).drop (l * sz)).length=(r - l) * sz:=by
  rw [List.length_drop,List.length_take,Nat.min_eq_left (by rw [← hr.1];exact Nat.mul_le_mul_right sz h2),Nat.sub_mul]
 refine⟨by simp only [Hd.cut];exact hlen.symm,fun hne=>?_⟩
 have hpos:0 < (r - l) * sz:=by
  rw [← hlen];exact List.length_pos_iff.2 hne
 have hrl:0 < r - l:=Nat.pos_of_mul_pos_right hpos
 have hcs:cs≠ []:=fun e=>by subst e;simp at hne
 obtain⟨b,o,C,fz,e1,e2,e3,e4,e5⟩:=hr.2 hcs
 have hm1:r * sz≤h.len * sz:=Nat.mul_le_mul_right sz h2
 have hm2:l * sz≤r * sz:=Nat.mul_le_mul_right sz h1
 rw [hr.1] at hm1
 refine⟨b,o+l * sz,C,fz,?_,e2,e3,?_,?_⟩
 ·simp only [Hd.cut]
  rw [if_neg (by omega),e1]
  simp [Eo]
 ·rw [hlen,Nat.sub_mul];omega
 ·rw [hlen,← e5,Nat.sub_mul,List.take_take,Nat.min_eq_left hm1,List.drop_take,List.drop_drop]
theorem MQ {α:Type}{e:α→List Value}{sz:Nat}(fe:Flat e sz)(xs:List α){l r:Nat}:((xs.flatMap e).take (r * sz)).drop (l * sz)=((xs.take r).drop l).flatMap e:=by
 have ht:∀(xs:List α) (r:Nat),(xs.flatMap e).take (r * sz)=(xs.take r).flatMap e:=by
  intro xs
  induction xs with
  | nil=>simp
  | cons x xs ih=>
   intro r
   cases r with
   | zero=>simp
   | succ r=>rw [List.flatMap_cons,List.take_succ_cons,List.flatMap_cons,List.take_append,fe.len,Nat.add_mul,Nat.one_mul,Nat.add_sub_cancel,ih,List.take_of_length_le (by rw [fe.len];omega)]
 have hd:∀(xs:List α) (l:Nat),(xs.flatMap e).drop (l * sz)=(xs.drop l).flatMap e:=by
  intro xs
  induction xs with
  | nil=>simp
  | cons x xs ih=>
   intro l
   cases l with
   | zero=>simp
   | succ l=>rw [List.flatMap_cons,List.drop_succ_cons,← ih,List.drop_append,fe.len,Nat.add_mul,Nat.one_mul,Nat.add_sub_cancel,List.drop_eq_nil_of_le (by rw [fe.len];omega),List.nil_append]
 rw [ht,hd]
theorem PW {T U E sz:TypeId}{x y:Operand}{h:Hd}{k:IntKind}{a:Int}(hu:P.underlying T=some (.slice E))(hs:Sz P E sz)(hx:ev F x=some h.val)(hy:ev F y=some (.int k a))(h0:0≤a)(h1:a≤(h.len:Int)):PS P n w0 M (.slice T x (some y) none none) U F L (h.cut a.toNat h.len sz).val L:=CR fun e w hF=>by
 have hs':=hs w
 simp only [execOp,hF.ev hx,Option.map_some,Option.map_none,hF.ev hy,Hd.val,Instr.sliceAt,Instr.slice,underlying]
 simp [hu,Instr.sliceBounds,Instr.sliceBound,asIntOf,h1,h0,hs',Hd.cut]
def Uh (w0:World)(M:List Nat)(L:List Ab)(h:Hd):Prop:=∀ w,St w0 M w L→h.len≤h.cap
theorem Uh.of {h:Hd}(hc:h.len≤h.cap):Uh w0 M L h:=fun _ _=>hc
theorem Uh.own {h:Hd}{T sz:Nat}{cs:List Value}(hm:Ab.own h T sz cs∈L):Uh w0 M L h:=fun w hS=>by
 rcases hS.ok _ hm with ⟨rfl,_⟩ | ⟨b,o,C,fz,h1,h2,h3,h4,h5,h6,_⟩
 ·exact Nat.le_refl _
 ·exact h6
theorem Kn.cut {α:Type}{e:α→List Value}{T sz:Nat}{h:Hd}{xs:List α}(fe:Flat e sz)(hk:Kn w0 M L h T sz (xs.flatMap e)){l r:Nat}(h1:l≤r)(h2:r≤h.len)(h3:Uh w0 M L h):Kn w0 M L (h.cut l r sz) T sz (((xs.take r).drop l).flatMap e):=fun w hS=>by
 rw [← MQ fe];exact(hk w hS).cut h1 h2 (h3 w hS)
theorem VA {U V T E:TypeId}{x:Operand}{h:Hd}(hu:P.underlying U=some (.slice E))(hx:ev F x=some h.val):PS P n w0 M (.binOp .eql U x (.const (.slice none 0 0)) V) T F L (.bool h.a.isNone) L:=CR fun e w hF=>by
 have h1:=run_equalIn_slice_nil (P:=P) w 9999 U E h.a h.len h.cap hu
 have h3:ev F (.const (.slice none 0 0))=some (.slice none 0 0):=rfl
 have h2:(binOp .eql U h.val (.slice none 0 0)).run P w = .ok (.bool h.a.isNone) w:=by
  simp only [binOp,Hd.val]
  simp [Op.equal,Op.maxDepth,h1]
 simp [execOp,hF.ev hx,hF.ev h3,eqGuard,Hd.val] at h2 ⊢
 rw [h2];rfl

/-! #### pieces -/
theorem Xv {l:List Oper}(T sz:Nat)(h:GL P n w0 M ops Q l F (Ab.own ⟨none,0,0⟩ T sz [] :: L)):GL P n w0 M ops Q l F L:=fun a w hF hS=>h a w hF (hS.Cx T sz)
theorem Y8 {c:Code}(T sz:Nat)(h:G P n w0 M c Q F (Ab.own ⟨none,0,0⟩ T sz [] :: L)):G P n w0 M c Q F L:=fun a w hF hS=>h a w hF (hS.Cx T sz)
theorem CK {e:Exit}{A K:List Ab}(hp:Ax L A K)(h:GQ n w0 M Q e F (A++K)):GQ n w0 M Q e F L:=fun a w hF hS=>h a w hF (hS.perm hp.perm)
theorem Ep {c:Code}{A K:List Ab}(hp:Ax L A K)(h:G P n w0 M c Q F (A++K)):G P n w0 M c Q F L:=fun a w hF hS=>h a w hF (hS.perm hp.perm)
theorem Cl {e:Exit}{A K:List Ab}(h:GQ n w0 M Q e F A):GQ n w0 M Q e F (A++K):=fun a w hF hS=>h a w hF hS.A5
theorem Hd.Wo:Hd.Z ⟨none,0,0⟩:=⟨fun _ h=>(by cases h),fun h=>absurd rfl h⟩
theorem ZX {T U E i:Nat}{h:Hd}{x:Operand}{xs:Ad}(hx:ev F x=some (h.ptr i 1 0))(hT:Ss P T)(hk:Kn w0 M L h E 1 (xs.flatMap Di))(hi:i < xs.length):PS P n w0 M (.load T x) U F L (.int .u8 ((xs.getD i 0).toNat:Int)) L:=by
 have e:xs.getD i 0=xs[i]:=by simp [List.getD,hi]
 rw [e]
 exact Vv hx hT Ye (AU.id Ye.len Ye.one) hk hi rfl

/-! #### calls that read what they are handed -/
def FO (P:Program)(f:FuncId)(args:Array Value)(A:List Ab)(H:World→Prop)(Post:Value→List Ab→Prop):Prop:=
 ∀ w,St w (Ch A) w A→H w→Ev P f args w fun v w'=>∃ B,Post v B∧St w (Ch A) w' B
theorem BL {d:Nat}{f:FuncId}{args:List Operand}{ts:Array TypeId}{T:TypeId}{pos:String}{Cu:Array Edge}{vs:List Value}{H:World→Prop}{Post:Value→List Ab→Prop}{A K:List Ab}(hd:Nat.blt d n=true)(hc:CF P f)(ha:OY F args vs)(hL:Ax L A K)
  (h:FO P f vs.toArray A H Post) (hH:∀ w,St w0 M w L→H w)
  (k:∀ v B,Post v B→GL P n w0 M ops Q rest ((d,v) :: F) (B++K)):GL P n w0 M ops Q (⟨some d, .call ⟨.value (.func f),args.toArray,ts⟩,T,pos,Cu,none⟩ :: rest) F L:=
 SS hd hc ha (fun w hS=>h w (hS.perm hL.perm).focus (hH w hS)) fun w v w' hS ⟨B,hP,hB⟩=>⟨B++K,(hS.perm hL.perm).frame hB,k v B hP⟩
theorem Rd.Lz {w:World}{h:Hd}{T sz:Nat}{α:Type}{e:α→List Value}{xs:List α}(fe:Flat e sz)(hsz:0 < sz)(hr:Rd w h T sz (xs.flatMap e)):h.len=xs.length:=by
 have h1:=hr.1
 rw [DD fe.len] at h1
 exact Nat.eq_of_mul_eq_mul_right hsz h1

/-! #### slices of the call's own, by what they mean -/
theorem Ra {α:Type}{e:α→List Value}{sz:Nat}(fe:Flat e sz)(xs:List α)(r:Nat):(xs.flatMap e).take (r * sz)=(xs.take r).flatMap e:=by
 have:=MQ fe xs (l:=0) (r:=r)
 simpa using this
theorem LA {α:Type}{e:α→List Value}{d T U E sz:Nat}{x y:Operand}{pos:String}{Cu:Array Edge}{h:Hd}{xs:List α}{kd:IntKind}{i:Int}{Lf:Ab→List Ab}(fe:Flat e sz)(hd:Nat.blt d n=true)(hT:P.underlying T=some (.slice E))(hs:Sz P E sz)(hx:ev F x=some h.val)(hy:ev F y=some (.int kd i))(h0:0≤i)(h1:i≤(h.len:Int))(hU:∀ r,Lc L (Ab.own h E sz (xs.flatMap e)) r (Lf r))
  (k:GL P n w0 M ops Q rest ((d,Hd.val ⟨h.a,i.toNat,h.cap⟩) :: F) (Lf (Ab.own ⟨h.a,i.toNat,h.cap⟩ E sz ((xs.take i.toNat).flatMap e)))):GL P n w0 M ops Q (⟨some d, .slice T x none (some y) none,U,pos,Cu,none⟩ :: rest) F L:=
 Yv hd hT hs hx hy h0 h1 hU (by rw [Ra fe];exact k)
theorem CW {α:Type}{e:α→List Value}{d T U U2 E sz H0 gl:Nat}{x y:Operand}{pos:String}{Cu:Array Edge}{h:Hd}{xs zs:List α}{z yv:Value}{Lf:Ab→List Ab}(fe:Flat e sz)(hd:Nat.blt d n=true)(hu:P.underlying U=some (.slice E))(hs:Sz P E sz)(hz:ZV P E z)(hzs:z.cells.size=sz)(hby:BY P E H0)(hb0:0 < H0)(hsz:0 < sz)
  (hx:ev F x=some h.val) (hy:ev F y=some yv) (hk:∀ w,St w0 M w L→Src P w U2 sz yv gl (zs.flatMap e)) (hbd:(2 * (h.len+gl)+192) * H0≤281474976710656) (hU:∀ r,Lc L (Ab.own h E sz (xs.flatMap e)) r (Lf r))
  (k:∀ h':Hd,h'.len=h.len+gl→(h.Z→h'.Z)→GL P n w0 M ops Q rest ((d,h'.val) :: F) (Lf (Ab.own h' E sz ((xs++zs).flatMap e)))):GL P n w0 M ops Q (⟨some d, .call ⟨.builtin .append,#[x,y],#[U,U2]⟩,T,pos,Cu,none⟩ :: rest) F L:=
 O9 hd hu hs hz hzs hby hb0 hsz hx hy hk fe.dt hbd hU (fun h' a b=>by rw [← List.flatMap_append];exact k h' a b)
theorem Fe {α:Type}(e:α→List Value){a:α}{d T U E sz:Nat}{x:Operand}{pos:String}{Cu:Array Edge}{v z:Value}(fe:Flat e sz)(hd:Nat.blt d n=true)(hu:P.underlying T=some (.slice E))(hs:Sz P E sz)(hz:ZV P E z)(hzs:z.cells.size=sz)(hsz:0 < sz)(hbig:sz≤16777216)(hx:ev F x=some v)(hv:v.cells=(e a).toArray)
  (k:∀ b,GL P n w0 M ops Q rest ((d,Hd.val ⟨some ⟨b,0,none⟩,1,1⟩) :: F) (Ab.own ⟨some ⟨b,0,none⟩,1,1⟩ E sz ([a].flatMap e) :: L)):GL P n w0 M ops Q (⟨some d, .buildSlice T 1 #[(0,x)],U,pos,Cu,none⟩ :: rest) F L:=
 Vf hd hu hs hz hzs hsz hbig hx hv (fe.len a) (fun b=>by
  have:=k b
  rwa [show [a].flatMap e=e a by simp] at this)
theorem cU {α:Type}(e:α→List Value){d T U E sz:Nat}{pos:String}{Cu:Array Edge}(hd:Nat.blt d n=true)(hu:P.underlying T=some (.slice E))(hs:Sz P E sz)
  (k:∀ b,GL P n w0 M ops Q rest ((d,Hd.val ⟨some ⟨b,0,none⟩,0,0⟩) :: F) (Ab.own ⟨some ⟨b,0,none⟩,0,0⟩ E sz (([]:List α).flatMap e) :: L)):GL P n w0 M ops Q (⟨some d, .buildSlice T 0 #[],U,pos,Cu,none⟩ :: rest) F L:=by
 refine GU (R:=fun v L'=>∃ b,v=Hd.val ⟨some ⟨b,0,none⟩,0,0⟩∧L'=Ab.own ⟨some ⟨b,0,none⟩,0,0⟩ E sz (([]:List α).flatMap e) :: L) hd ?_ (fun v L' ⟨b,e1,e2⟩=>by subst e1;subst e2;exact k b)
 intro a w hF hS
 have hw1:=hS.alloc E []
 have hS':St w0 M (w.alloc (.cells (List.toArray []) E)) (Ab.own ⟨some ⟨w.heap.size,0,none⟩,0,0⟩ E sz (([]:List α).flatMap e) :: L):=by
  refine hw1.Dz (.head) rfl rfl rfl (Nat.le_refl _) (fun _ _ _=>rfl) ?_ (fun b hb=>?_)
  ·exact .inr ⟨w.heap.size,0,[],(0,0),rfl,by simp,hw1.ok _ (List.mem_cons_self ..),fun _ _ h=>by simp at h,by simp,Nat.le_refl _,by simp,by simp⟩
  ·simp [Ab.own] at hb
   subst hb
   exact⟨by simp, .inl (by simp [Ab.box])⟩
 refine⟨_,_,w.alloc (.cells (List.toArray []) E),⟨w.heap.size,rfl,rfl⟩,?_,hS'⟩
 simp only [execOp,Instr.buildSlice,underlying,Sem.run_bind,run_program,hu,Result.andThen_ok,Sem.run_pure,hs w]
 simp [Instr.fill,newRow,Hd.val]
 congr 2
 apply Array.ext';simp
theorem Dy {α:Type}{l:List Oper}(e:α→List Value)(T sz:Nat)(h:GL P n w0 M ops Q l F (Ab.own ⟨none,0,0⟩ T sz (([]:List α).flatMap e) :: L)):GL P n w0 M ops Q l F L:=Xv T sz h
theorem E2 {α:Type}{c:Code}(e:α→List Value)(T sz:Nat)(h:G P n w0 M c Q F (Ab.own ⟨none,0,0⟩ T sz (([]:List α).flatMap e) :: L)):G P n w0 M c Q F L:=Y8 T sz h
theorem SB {α:Type}{x:Exit}(e:α→List Value)(T sz:Nat)(h:GQ n w0 M Q x F (Ab.own ⟨none,0,0⟩ T sz (([]:List α).flatMap e) :: L)):GQ n w0 M Q x F L:=fun a w hF hS=>h a w hF (hS.Cx T sz)
end
end Go.Ing
/- Engine: loops and ways that meet, over a state of several parts. -/
namespace Go.Ing
open Go
section
variable {P:Program} {n:Nat} {w0:World} {M:List Nat} {Q:Exit→Go.Act→World→Prop} {F:List (Nat × Value)} {L:List Ab}
def fU (n:Nat)(w0:World)(M:List Nat){α0:Type}(I:α0→Prop)(μ:α0→Nat)(Fs:α0→List (Nat × Value))(Ls:α0→List Ab)(U:List (Nat × Value))(K:List Ab)(m:Nat)(a:Go.Act)(w:World):Prop:=bM (σ:=α0) n w0 M (fun z=>I z) (fun z=>μ z) (fun z=>Fs z++U) (fun z=>Ls z++K) m a w
theorem Ck {α0:Type}{c:Code}{U:List (Nat × Value)}{K:List Ab}(I:α0→Prop)(μ:α0→Nat)(Ms:α0→List (Nat × Value))(Ls:α0→List Ab)(a0:α0)(h0:I a0)(hF0:F=Ms a0++U)(hL0:L=Ls a0++K)
  (round:∀(a0:α0),I a0→G P n w0 M c (Exit.then (fU n w0 M I μ Ms Ls U K (μ a0)) Q) (Ms a0++U) (Ls a0++K)):G P n w0 M (.loop c) Q F L:=
 KO (σ:=α0) (fun z=>I z) (fun z=>μ z) (fun z=>Ms z++U) (fun z=>Ls z++K) a0 h0 (by rw [hF0];exact Sub.refl _) (by rw [hL0];exact List.Sublist.refl _) (fun z h=>round z h)
theorem CC {α0:Type}{I:α0→Prop}{μ:α0→Nat}{Ms:α0→List (Nat × Value)}{Ls:α0→List Ab}{U:List (Nat × Value)}{K:List Ab}{m:Nat}(a0:α0)(hI:I a0)(hm:μ a0 < m)(hF:Sub F (Ms a0++U))(hL:(Ls a0++K).Sublist L):GQ n w0 M (Exit.then (fU n w0 M I μ Ms Ls U K m) Q) .normal F L:=
 Ip (σ:=α0) a0 hI hm hF hL
def jv (n:Nat)(w0:World)(M:List Nat){α0:Type}(I:α0→Prop)(Fs:α0→List (Nat × Value))(Ls:α0→List Ab)(U:List (Nat × Value))(K:List Ab)(a:Go.Act)(w:World):Prop:=At (σ:=α0) n w0 M (fun z=>I z) (fun z=>Fs z++U) (fun z=>Ls z++K) a w
theorem bR {α0:Type}{x y:Code}{U:List (Nat × Value)}{Lm K:List Ab}(I:α0→Prop)(Ms:α0→List (Nat × Value))(Ls:α0→List Ab)(_hU:Sub F U)(_hK:L=Lm++K)
  (hx:G P n w0 M x (Exit.then (jv n w0 M I Ms Ls U K) Q) F L) (hy:∀(a0:α0),I a0→G P n w0 M y Q (Ms a0++U) (Ls a0++K)):G P n w0 M (.seq x y) Q F L:=
 Wh (σ:=α0) (fun z=>I z) (fun z=>Ms z++U) (fun z=>Ls z++K) hx (fun z h=>hy z h)
theorem V0 {α0:Type}{I:α0→Prop}{Ms:α0→List (Nat × Value)}{Ls:α0→List Ab}{U:List (Nat × Value)}{K:List Ab}(a0:α0)(hI:I a0)(hF:Sub F (Ms a0++U))(hL:(Ls a0++K).Sublist L):GQ n w0 M (Exit.then (jv n w0 M I Ms Ls U K) Q) .normal F L:=
 WD (σ:=α0) a0 hI hF hL
def fx (n:Nat)(w0:World)(M:List Nat){α0 α1:Type}(I:α0→α1→Prop)(μ:α0→α1→Nat)(Fs:α0→α1→List (Nat × Value))(Ls:α0→α1→List Ab)(U:List (Nat × Value))(K:List Ab)(m:Nat)(a:Go.Act)(w:World):Prop:=bM (σ:=α0 × α1) n w0 M (fun z=>I z.1 z.2) (fun z=>μ z.1 z.2) (fun z=>Fs z.1 z.2++U) (fun z=>Ls z.1 z.2++K) m a w
theorem Hw {α0 α1:Type}{c:Code}{U:List (Nat × Value)}{K:List Ab}(I:α0→α1→Prop)(μ:α0→α1→Nat)(Ms:α0→α1→List (Nat × Value))(Ls:α0→α1→List Ab)(a0:α0)(a1:α1)(h0:I a0 a1)(hF0:F=Ms a0 a1++U)(hL0:L=Ls a0 a1++K)
  (round:∀(a0:α0) (a1:α1),I a0 a1→G P n w0 M c (Exit.then (fx n w0 M I μ Ms Ls U K (μ a0 a1)) Q) (Ms a0 a1++U) (Ls a0 a1++K)):G P n w0 M (.loop c) Q F L:=
 KO (σ:=α0 × α1) (fun z=>I z.1 z.2) (fun z=>μ z.1 z.2) (fun z=>Ms z.1 z.2++U) (fun z=>Ls z.1 z.2++K) (a0,a1) h0 (by rw [hF0];exact Sub.refl _) (by rw [hL0];exact List.Sublist.refl _) (fun z h=>round z.1 z.2 h)
theorem Dt {α0 α1:Type}{I:α0→α1→Prop}{μ:α0→α1→Nat}{Ms:α0→α1→List (Nat × Value)}{Ls:α0→α1→List Ab}{U:List (Nat × Value)}{K:List Ab}{m:Nat}(a0:α0)(a1:α1)(hI:I a0 a1)(hm:μ a0 a1 < m)(hF:Sub F (Ms a0 a1++U))(hL:(Ls a0 a1++K).Sublist L):GQ n w0 M (Exit.then (fx n w0 M I μ Ms Ls U K m) Q) .normal F L:=
 Ip (σ:=α0 × α1) (a0,a1) hI hm hF hL
def jt (n:Nat)(w0:World)(M:List Nat){α0 α1:Type}(I:α0→α1→Prop)(Fs:α0→α1→List (Nat × Value))(Ls:α0→α1→List Ab)(U:List (Nat × Value))(K:List Ab)(a:Go.Act)(w:World):Prop:=At (σ:=α0 × α1) n w0 M (fun z=>I z.1 z.2) (fun z=>Fs z.1 z.2++U) (fun z=>Ls z.1 z.2++K) a w
theorem SK {α0 α1:Type}{x y:Code}{U:List (Nat × Value)}{Lm K:List Ab}(I:α0→α1→Prop)(Ms:α0→α1→List (Nat × Value))(Ls:α0→α1→List Ab)(_hU:Sub F U)(_hK:L=Lm++K)
  (hx:G P n w0 M x (Exit.then (jt n w0 M I Ms Ls U K) Q) F L) (hy:∀(a0:α0) (a1:α1),I a0 a1→G P n w0 M y Q (Ms a0 a1++U) (Ls a0 a1++K)):G P n w0 M (.seq x y) Q F L:=
 Wh (σ:=α0 × α1) (fun z=>I z.1 z.2) (fun z=>Ms z.1 z.2++U) (fun z=>Ls z.1 z.2++K) hx (fun z h=>hy z.1 z.2 h)
theorem Er {α0 α1:Type}{I:α0→α1→Prop}{Ms:α0→α1→List (Nat × Value)}{Ls:α0→α1→List Ab}{U:List (Nat × Value)}{K:List Ab}(a0:α0)(a1:α1)(hI:I a0 a1)(hF:Sub F (Ms a0 a1++U))(hL:(Ls a0 a1++K).Sublist L):GQ n w0 M (Exit.then (jt n w0 M I Ms Ls U K) Q) .normal F L:=
 WD (σ:=α0 × α1) (a0,a1) hI hF hL
def ft (n:Nat)(w0:World)(M:List Nat){α0 α1 α2:Type}(I:α0→α1→α2→Prop)(μ:α0→α1→α2→Nat)(Fs:α0→α1→α2→List (Nat × Value))(Ls:α0→α1→α2→List Ab)(U:List (Nat × Value))(K:List Ab)(m:Nat)(a:Go.Act)(w:World):Prop:=bM (σ:=α0 × α1 × α2) n w0 M (fun z=>I z.1 z.2.1 z.2.2) (fun z=>μ z.1 z.2.1 z.2.2) (fun z=>Fs z.1 z.2.1 z.2.2++U) (fun z=>Ls z.1 z.2.1 z.2.2++K) m a w
theorem Dx {α0 α1 α2:Type}{c:Code}{U:List (Nat × Value)}{K:List Ab}(I:α0→α1→α2→Prop)(μ:α0→α1→α2→Nat)(Ms:α0→α1→α2→List (Nat × Value))(Ls:α0→α1→α2→List Ab)(a0:α0)(a1:α1)(a2:α2)(h0:I a0 a1 a2)(hF0:F=Ms a0 a1 a2++U)(hL0:L=Ls a0 a1 a2++K)
  (round:∀(a0:α0) (a1:α1) (a2:α2),I a0 a1 a2→G P n w0 M c (Exit.then (ft n w0 M I μ Ms Ls U K (μ a0 a1 a2)) Q) (Ms a0 a1 a2++U) (Ls a0 a1 a2++K)):G P n w0 M (.loop c) Q F L:=
 KO (σ:=α0 × α1 × α2) (fun z=>I z.1 z.2.1 z.2.2) (fun z=>μ z.1 z.2.1 z.2.2) (fun z=>Ms z.1 z.2.1 z.2.2++U) (fun z=>Ls z.1 z.2.1 z.2.2++K) (a0,a1,a2) h0 (by rw [hF0];exact Sub.refl _) (by rw [hL0];exact List.Sublist.refl _) (fun z h=>round z.1 z.2.1 z.2.2 h)
theorem B2 {α0 α1 α2:Type}{I:α0→α1→α2→Prop}{μ:α0→α1→α2→Nat}{Ms:α0→α1→α2→List (Nat × Value)}{Ls:α0→α1→α2→List Ab}{U:List (Nat × Value)}{K:List Ab}{m:Nat}(a0:α0)(a1:α1)(a2:α2)(hI:I a0 a1 a2)(hm:μ a0 a1 a2 < m)(hF:Sub F (Ms a0 a1 a2++U))(hL:(Ls a0 a1 a2++K).Sublist L):GQ n w0 M (Exit.then (ft n w0 M I μ Ms Ls U K m) Q) .normal F L:=
 Ip (σ:=α0 × α1 × α2) (a0,a1,a2) hI hm hF hL
def ju (n:Nat)(w0:World)(M:List Nat){α0 α1 α2:Type}(I:α0→α1→α2→Prop)(Fs:α0→α1→α2→List (Nat × Value))(Ls:α0→α1→α2→List Ab)(U:List (Nat × Value))(K:List Ab)(a:Go.Act)(w:World):Prop:=At (σ:=α0 × α1 × α2) n w0 M (fun z=>I z.1 z.2.1 z.2.2) (fun z=>Fs z.1 z.2.1 z.2.2++U) (fun z=>Ls z.1 z.2.1 z.2.2++K) a w
theorem cY {α0 α1 α2:Type}{x y:Code}{U:List (Nat × Value)}{Lm K:List Ab}(I:α0→α1→α2→Prop)(Ms:α0→α1→α2→List (Nat × Value))(Ls:α0→α1→α2→List Ab)(_hU:Sub F U)(_hK:L=Lm++K)
  (hx:G P n w0 M x (Exit.then (ju n w0 M I Ms Ls U K) Q) F L) (hy:∀(a0:α0) (a1:α1) (a2:α2),I a0 a1 a2→G P n w0 M y Q (Ms a0 a1 a2++U) (Ls a0 a1 a2++K)):G P n w0 M (.seq x y) Q F L:=
 Wh (σ:=α0 × α1 × α2) (fun z=>I z.1 z.2.1 z.2.2) (fun z=>Ms z.1 z.2.1 z.2.2++U) (fun z=>Ls z.1 z.2.1 z.2.2++K) hx (fun z h=>hy z.1 z.2.1 z.2.2 h)
theorem OP {α0 α1 α2:Type}{I:α0→α1→α2→Prop}{Ms:α0→α1→α2→List (Nat × Value)}{Ls:α0→α1→α2→List Ab}{U:List (Nat × Value)}{K:List Ab}(a0:α0)(a1:α1)(a2:α2)(hI:I a0 a1 a2)(hF:Sub F (Ms a0 a1 a2++U))(hL:(Ls a0 a1 a2++K).Sublist L):GQ n w0 M (Exit.then (ju n w0 M I Ms Ls U K) Q) .normal F L:=
 WD (σ:=α0 × α1 × α2) (a0,a1,a2) hI hF hL
def fo (n:Nat)(w0:World)(M:List Nat){α0 α1 α2 α3:Type}(I:α0→α1→α2→α3→Prop)(μ:α0→α1→α2→α3→Nat)(Fs:α0→α1→α2→α3→List (Nat × Value))(Ls:α0→α1→α2→α3→List Ab)(U:List (Nat × Value))(K:List Ab)(m:Nat)(a:Go.Act)(w:World):Prop:=bM (σ:=α0 × α1 × α2 × α3) n w0 M (fun z=>I z.1 z.2.1 z.2.2.1 z.2.2.2) (fun z=>μ z.1 z.2.1 z.2.2.1 z.2.2.2) (fun z=>Fs z.1 z.2.1 z.2.2.1 z.2.2.2++U) (fun z=>Ls z.1 z.2.1 z.2.2.1 z.2.2.2++K) m a w
theorem IM {α0 α1 α2 α3:Type}{c:Code}{U:List (Nat × Value)}{K:List Ab}(I:α0→α1→α2→α3→Prop)(μ:α0→α1→α2→α3→Nat)(Ms:α0→α1→α2→α3→List (Nat × Value))(Ls:α0→α1→α2→α3→List Ab)(a0:α0)(a1:α1)(a2:α2)(a3:α3)(h0:I a0 a1 a2 a3)(hF0:F=Ms a0 a1 a2 a3++U)(hL0:L=Ls a0 a1 a2 a3++K)
  (round:∀(a0:α0) (a1:α1) (a2:α2) (a3:α3),I a0 a1 a2 a3→G P n w0 M c (Exit.then (fo n w0 M I μ Ms Ls U K (μ a0 a1 a2 a3)) Q) (Ms a0 a1 a2 a3++U) (Ls a0 a1 a2 a3++K)):G P n w0 M (.loop c) Q F L:=
 KO (σ:=α0 × α1 × α2 × α3) (fun z=>I z.1 z.2.1 z.2.2.1 z.2.2.2) (fun z=>μ z.1 z.2.1 z.2.2.1 z.2.2.2) (fun z=>Ms z.1 z.2.1 z.2.2.1 z.2.2.2++U) (fun z=>Ls z.1 z.2.1 z.2.2.1 z.2.2.2++K) (a0,a1,a2,a3) h0 (by rw [hF0];exact Sub.refl _) (by rw [hL0];exact List.Sublist.refl _) (fun z h=>round z.1 z.2.1 z.2.2.1 z.2.2.2 h)
theorem C3 {α0 α1 α2 α3:Type}{I:α0→α1→α2→α3→Prop}{μ:α0→α1→α2→α3→Nat}{Ms:α0→α1→α2→α3→List (Nat × Value)}{Ls:α0→α1→α2→α3→List Ab}{U:List (Nat × Value)}{K:List Ab}{m:Nat}(a0:α0)(a1:α1)(a2:α2)(a3:α3)(hI:I a0 a1 a2 a3)(hm:μ a0 a1 a2 a3 < m)(hF:Sub F (Ms a0 a1 a2 a3++U))(hL:(Ls a0 a1 a2 a3++K).Sublist L):GQ n w0 M (Exit.then (fo n w0 M I μ Ms Ls U K m) Q) .normal F L:=
 Ip (σ:=α0 × α1 × α2 × α3) (a0,a1,a2,a3) hI hm hF hL
def jr (n:Nat)(w0:World)(M:List Nat){α0 α1 α2 α3:Type}(I:α0→α1→α2→α3→Prop)(Fs:α0→α1→α2→α3→List (Nat × Value))(Ls:α0→α1→α2→α3→List Ab)(U:List (Nat × Value))(K:List Ab)(a:Go.Act)(w:World):Prop:=At (σ:=α0 × α1 × α2 × α3) n w0 M (fun z=>I z.1 z.2.1 z.2.2.1 z.2.2.2) (fun z=>Fs z.1 z.2.1 z.2.2.1 z.2.2.2++U) (fun z=>Ls z.1 z.2.1 z.2.2.1 z.2.2.2++K) a w
theorem bw {α0 α1 α2 α3:Type}{x y:Code}{U:List (Nat × Value)}{Lm K:List Ab}(I:α0→α1→α2→α3→Prop)(Ms:α0→α1→α2→α3→List (Nat × Value))(Ls:α0→α1→α2→α3→List Ab)(_hU:Sub F U)(_hK:L=Lm++K)
  (hx:G P n w0 M x (Exit.then (jr n w0 M I Ms Ls U K) Q) F L) (hy:∀(a0:α0) (a1:α1) (a2:α2) (a3:α3),I a0 a1 a2 a3→G P n w0 M y Q (Ms a0 a1 a2 a3++U) (Ls a0 a1 a2 a3++K)):G P n w0 M (.seq x y) Q F L:=
 Wh (σ:=α0 × α1 × α2 × α3) (fun z=>I z.1 z.2.1 z.2.2.1 z.2.2.2) (fun z=>Ms z.1 z.2.1 z.2.2.1 z.2.2.2++U) (fun z=>Ls z.1 z.2.1 z.2.2.1 z.2.2.2++K) hx (fun z h=>hy z.1 z.2.1 z.2.2.1 z.2.2.2 h)
theorem Rj {α0 α1 α2 α3:Type}{I:α0→α1→α2→α3→Prop}{Ms:α0→α1→α2→α3→List (Nat × Value)}{Ls:α0→α1→α2→α3→List Ab}{U:List (Nat × Value)}{K:List Ab}(a0:α0)(a1:α1)(a2:α2)(a3:α3)(hI:I a0 a1 a2 a3)(hF:Sub F (Ms a0 a1 a2 a3++U))(hL:(Ls a0 a1 a2 a3++K).Sublist L):GQ n w0 M (Exit.then (jr n w0 M I Ms Ls U K) Q) .normal F L:=
 WD (σ:=α0 × α1 × α2 × α3) (a0,a1,a2,a3) hI hF hL
def fk (n:Nat)(w0:World)(M:List Nat){α0 α1 α2 α3 α4:Type}(I:α0→α1→α2→α3→α4→Prop)(μ:α0→α1→α2→α3→α4→Nat)(Fs:α0→α1→α2→α3→α4→List (Nat × Value))(Ls:α0→α1→α2→α3→α4→List Ab)(U:List (Nat × Value))(K:List Ab)(m:Nat)(a:Go.Act)(w:World):Prop:=bM (σ:=α0 × α1 × α2 × α3 × α4) n w0 M (fun z=>I z.1 z.2.1 z.2.2.1 z.2.2.2.1 z.2.2.2.2) (fun z=>μ z.1 z.2.1 z.2.2.1 z.2.2.2.1 z.2.2.2.2) (fun z=>Fs z.1 z.2.1 z.2.2.1 z.2.2.2.1 z.2.2.2.2++U) (fun z=>Ls z.1 z.2.1 z.2.2.1 z.2.2.2.1 z.2.2.2.2++K) m a w
theorem UD {α0 α1 α2 α3 α4:Type}{c:Code}{U:List (Nat × Value)}{K:List Ab}(I:α0→α1→α2→α3→α4→Prop)(μ:α0→α1→α2→α3→α4→Nat)(Ms:α0→α1→α2→α3→α4→List (Nat × Value))(Ls:α0→α1→α2→α3→α4→List Ab)(a0:α0)(a1:α1)(a2:α2)(a3:α3)(a4:α4)(h0:I a0 a1 a2 a3 a4)(hF0:F=Ms a0 a1 a2 a3 a4++U)(hL0:L=Ls a0 a1 a2 a3 a4++K)
  (round:∀(a0:α0) (a1:α1) (a2:α2) (a3:α3) (a4:α4),I a0 a1 a2 a3 a4→G P n w0 M c (Exit.then (fk n w0 M I μ Ms Ls U K (μ a0 a1 a2 a3 a4)) Q) (Ms a0 a1 a2 a3 a4++U) (Ls a0 a1 a2 a3 a4++K)):G P n w0 M (.loop c) Q F L:=
 KO (σ:=α0 × α1 × α2 × α3 × α4) (fun z=>I z.1 z.2.1 z.2.2.1 z.2.2.2.1 z.2.2.2.2) (fun z=>μ z.1 z.2.1 z.2.2.1 z.2.2.2.1 z.2.2.2.2) (fun z=>Ms z.1 z.2.1 z.2.2.1 z.2.2.2.1 z.2.2.2.2++U) (fun z=>Ls z.1 z.2.1 z.2.2.1 z.2.2.2.1 z.2.2.2.2++K) (a0,a1,a2,a3,a4) h0 (by rw [hF0];exact Sub.refl _) (by rw [hL0];exact List.Sublist.refl _) (fun z h=>round z.1 z.2.1 z.2.2.1 z.2.2.2.1 z.2.2.2.2 h)
theorem LD {α0 α1 α2 α3 α4:Type}{I:α0→α1→α2→α3→α4→Prop}{μ:α0→α1→α2→α3→α4→Nat}{Ms:α0→α1→α2→α3→α4→List (Nat × Value)}{Ls:α0→α1→α2→α3→α4→List Ab}{U:List (Nat × Value)}{K:List Ab}{m:Nat}(a0:α0)(a1:α1)(a2:α2)(a3:α3)(a4:α4)(hI:I a0 a1 a2 a3 a4)(hm:μ a0 a1 a2 a3 a4 < m)(hF:Sub F (Ms a0 a1 a2 a3 a4++U))(hL:(Ls a0 a1 a2 a3 a4++K).Sublist L):GQ n w0 M (Exit.then (fk n w0 M I μ Ms Ls U K m) Q) .normal F L:=
 Ip (σ:=α0 × α1 × α2 × α3 × α4) (a0,a1,a2,a3,a4) hI hm hF hL
def gE (n:Nat)(w0:World)(M:List Nat){α0 α1 α2 α3 α4 α5 α6:Type}(I:α0→α1→α2→α3→α4→α5→α6→Prop)(μ:α0→α1→α2→α3→α4→α5→α6→Nat)(Fs:α0→α1→α2→α3→α4→α5→α6→List (Nat × Value))(Ls:α0→α1→α2→α3→α4→α5→α6→List Ab)(U:List (Nat × Value))(K:List Ab)(m:Nat)(a:Go.Act)(w:World):Prop:=bM (σ:=α0 × α1 × α2 × α3 × α4 × α5 × α6) n w0 M (fun z=>I z.1 z.2.1 z.2.2.1 z.2.2.2.1 z.2.2.2.2.1 z.2.2.2.2.2.1 z.2.2.2.2.2.2) (fun z=>μ z.1 z.2.1 z.2.2.1 z.2.2.2.1 z.2.2.2.2.1 z.2.2.2.2.2.1 z.2.2.2.2.2.2) (fun z=>Fs z.1 z.2.1 z.2.2.1 z.2.2.2.1 z.2.2.2.2.1 z.2.2.2.2.2.1 z.2.2.2.2.2.2++U) (fun z=>Ls z.1 z.2.1 z.2.2.1 z.2.2.2.1 z.2.2.2.2.1 z.2.2.2.2.2.1 z.2.2.2.2.2.2++K) m a w
theorem Yu {α0 α1 α2 α3 α4 α5 α6:Type}{c:Code}{U:List (Nat × Value)}{K:List Ab}(I:α0→α1→α2→α3→α4→α5→α6→Prop)(μ:α0→α1→α2→α3→α4→α5→α6→Nat)(Ms:α0→α1→α2→α3→α4→α5→α6→List (Nat × Value))(Ls:α0→α1→α2→α3→α4→α5→α6→List Ab)(a0:α0)(a1:α1)(a2:α2)(a3:α3)(a4:α4)(a5:α5)(a6:α6)(h0:I a0 a1 a2 a3 a4 a5 a6)(hF0:F=Ms a0 a1 a2 a3 a4 a5 a6++U)(hL0:L=Ls a0 a1 a2 a3 a4 a5 a6++K)
  (round:∀(a0:α0) (a1:α1) (a2:α2) (a3:α3) (a4:α4) (a5:α5) (a6:α6),I a0 a1 a2 a3 a4 a5 a6→G P n w0 M c (Exit.then (gE n w0 M I μ Ms Ls U K (μ a0 a1 a2 a3 a4 a5 a6)) Q) (Ms a0 a1 a2 a3 a4 a5 a6++U) (Ls a0 a1 a2 a3 a4 a5 a6++K)):G P n w0 M (.loop c) Q F L:=
 KO (σ:=α0 × α1 × α2 × α3 × α4 × α5 × α6) (fun z=>I z.1 z.2.1 z.2.2.1 z.2.2.2.1 z.2.2.2.2.1 z.2.2.2.2.2.1 z.2.2.2.2.2.2) (fun z=>μ z.1 z.2.1 z.2.2.1 z.2.2.2.1 z.2.2.2.2.1 z.2.2.2.2.2.1 z.2.2.2.2.2.2) (fun z=>Ms z.1 z.2.1 z.2.2.1 z.2.2.2.1 z.2.2.2.2.1 z.2.2.2.2.2.1 z.2.2.2.2.2.2++U) (fun z=>Ls z.1 z.2.1 z.2.2.1 z.2.2.2.1 z.2.2.2.2.1 z.2.2.2.2.2.1 z.2.2.2.2.2.2++K) (a0,a1,a2,a3,a4,a5,a6) h0 (by rw [hF0];exact Sub.refl _) (by rw [hL0];exact List.Sublist.refl _) (fun z h=>round z.1 z.2.1 z.2.2.1 z.2.2.2.1 z.2.2.2.2.1 z.2.2.2.2.2.1 z.2.2.2.2.2.2 h)
theorem YH {α0 α1 α2 α3 α4 α5 α6:Type}{I:α0→α1→α2→α3→α4→α5→α6→Prop}{μ:α0→α1→α2→α3→α4→α5→α6→Nat}{Ms:α0→α1→α2→α3→α4→α5→α6→List (Nat × Value)}{Ls:α0→α1→α2→α3→α4→α5→α6→List Ab}{U:List (Nat × Value)}{K:List Ab}{m:Nat}(a0:α0)(a1:α1)(a2:α2)(a3:α3)(a4:α4)(a5:α5)(a6:α6)(hI:I a0 a1 a2 a3 a4 a5 a6)(hm:μ a0 a1 a2 a3 a4 a5 a6 < m)(hF:Sub F (Ms a0 a1 a2 a3 a4 a5 a6++U))(hL:(Ls a0 a1 a2 a3 a4 a5 a6++K).Sublist L):GQ n w0 M (Exit.then (gE n w0 M I μ Ms Ls U K m) Q) .normal F L:=
 Ip (σ:=α0 × α1 × α2 × α3 × α4 × α5 × α6) (a0,a1,a2,a3,a4,a5,a6) hI hm hF hL
def gz (n:Nat)(w0:World)(M:List Nat){α0 α1 α2 α3 α4 α5 α6 α7:Type}(I:α0→α1→α2→α3→α4→α5→α6→α7→Prop)(μ:α0→α1→α2→α3→α4→α5→α6→α7→Nat)(Fs:α0→α1→α2→α3→α4→α5→α6→α7→List (Nat × Value))(Ls:α0→α1→α2→α3→α4→α5→α6→α7→List Ab)(U:List (Nat × Value))(K:List Ab)(m:Nat)(a:Go.Act)(w:World):Prop:=bM (σ:=α0 × α1 × α2 × α3 × α4 × α5 × α6 × α7) n w0 M (fun z=>I z.1 z.2.1 z.2.2.1 z.2.2.2.1 z.2.2.2.2.1 z.2.2.2.2.2.1 z.2.2.2.2.2.2.1 z.2.2.2.2.2.2.2) (fun z=>μ z.1 z.2.1 z.2.2.1 z.2.2.2.1 z.2.2.2.2.1 z.2.2.2.2.2.1 z.2.2.2.2.2.2.1 z.2.2.2.2.2.2.2) (fun z=>Fs z.1 z.2.1 z.2.2.1 z.2.2.2.1 z.2.2.2.2.1 z.2.2.2.2.2.1 z.2.2.2.2.2.2.1 z.2.2.2.2.2.2.2++U) (fun z=>Ls z.1 z.2.1 z.2.2.1 z.2.2.2.1 z.2.2.2.2.1 z.2.2.2.2.2.1 z.2.2.2.2.2.2.1 z.2.2.2.2.2.2.2++K) m a w
theorem UU {α0 α1 α2 α3 α4 α5 α6 α7:Type}{c:Code}{U:List (Nat × Value)}{K:List Ab}(I:α0→α1→α2→α3→α4→α5→α6→α7→Prop)(μ:α0→α1→α2→α3→α4→α5→α6→α7→Nat)(Ms:α0→α1→α2→α3→α4→α5→α6→α7→List (Nat × Value))(Ls:α0→α1→α2→α3→α4→α5→α6→α7→List Ab)(a0:α0)(a1:α1)(a2:α2)(a3:α3)(a4:α4)(a5:α5)(a6:α6)(a7:α7)(h0:I a0 a1 a2 a3 a4 a5 a6 a7)(hF0:F=Ms a0 a1 a2 a3 a4 a5 a6 a7++U)(hL0:L=Ls a0 a1 a2 a3 a4 a5 a6 a7++K)
  (round:∀(a0:α0) (a1:α1) (a2:α2) (a3:α3) (a4:α4) (a5:α5) (a6:α6) (a7:α7),I a0 a1 a2 a3 a4 a5 a6 a7→G P n w0 M c (Exit.then (gz n w0 M I μ Ms Ls U K (μ a0 a1 a2 a3 a4 a5 a6 a7)) Q) (Ms a0 a1 a2 a3 a4 a5 a6 a7++U) (Ls a0 a1 a2 a3 a4 a5 a6 a7++K)):G P n w0 M (.loop c) Q F L:=
 KO (σ:=α0 × α1 × α2 × α3 × α4 × α5 × α6 × α7) (fun z=>I z.1 z.2.1 z.2.2.1 z.2.2.2.1 z.2.2.2.2.1 z.2.2.2.2.2.1 z.2.2.2.2.2.2.1 z.2.2.2.2.2.2.2) (fun z=>μ z.1 z.2.1 z.2.2.1 z.2.2.2.1 z.2.2.2.2.1 z.2.2.2.2.2.1 z.2.2.2.2.2.2.1 z.2.2.2.2.2.2.2) (fun z=>Ms z.1 z.2.1 z.2.2.1 z.2.2.2.1 z.2.2.2.2.1 z.2.2.2.2.2.1 z.2.2.2.2.2.2.1 z.2.2.2.2.2.2.2++U) (fun z=>Ls z.1 z.2.1 z.2.2.1 z.2.2.2.1 z.2.2.2.2.1 z.2.2.2.2.2.1 z.2.2.2.2.2.2.1 z.2.2.2.2.2.2.2++K) (a0,a1,a2,a3,a4,a5,a6,a7) h0 (by rw [hF0];exact Sub.refl _) (by rw [hL0];exact List.Sublist.refl _) (fun z h=>round z.1 z.2.1 z.2.2.1 z.2.2.2.1 z.2.2.2.2.1 z.2.2.2.2.2.1 z.2.2.2.2.2.2.1 z.2.2.2.2.2.2.2 h)
theorem Ce {α0 α1 α2 α3 α4 α5 α6 α7:Type}{I:α0→α1→α2→α3→α4→α5→α6→α7→Prop}{μ:α0→α1→α2→α3→α4→α5→α6→α7→Nat}{Ms:α0→α1→α2→α3→α4→α5→α6→α7→List (Nat × Value)}{Ls:α0→α1→α2→α3→α4→α5→α6→α7→List Ab}{U:List (Nat × Value)}{K:List Ab}{m:Nat}(a0:α0)(a1:α1)(a2:α2)(a3:α3)(a4:α4)(a5:α5)(a6:α6)(a7:α7)(hI:I a0 a1 a2 a3 a4 a5 a6 a7)(hm:μ a0 a1 a2 a3 a4 a5 a6 a7 < m)(hF:Sub F (Ms a0 a1 a2 a3 a4 a5 a6 a7++U))(hL:(Ls a0 a1 a2 a3 a4 a5 a6 a7++K).Sublist L):GQ n w0 M (Exit.then (gz n w0 M I μ Ms Ls U K m) Q) .normal F L:=
 Ip (σ:=α0 × α1 × α2 × α3 × α4 × α5 × α6 × α7) (a0,a1,a2,a3,a4,a5,a6,a7) hI hm hF hL
def gn (n:Nat)(w0:World)(M:List Nat){α0 α1 α2 α3 α4 α5 α6 α7 α8:Type}(I:α0→α1→α2→α3→α4→α5→α6→α7→α8→Prop)(μ:α0→α1→α2→α3→α4→α5→α6→α7→α8→Nat)(Fs:α0→α1→α2→α3→α4→α5→α6→α7→α8→List (Nat × Value))(Ls:α0→α1→α2→α3→α4→α5→α6→α7→α8→List Ab)(U:List (Nat × Value))(K:List Ab)(m:Nat)(a:Go.Act)(w:World):Prop:=bM (σ:=α0 × α1 × α2 × α3 × α4 × α5 × α6 × α7 × α8) n w0 M (fun z=>I z.1 z.2.1 z.2.2.1 z.2.2.2.1 z.2.2.2.2.1 z.2.2.2.2.2.1 z.2.2.2.2.2.2.1 z.2.2.2.2.2.2.2.1 z.2.2.2.2.2.2.2.2) (fun z=>μ z.1 z.2.1 z.2.2.1 z.2.2.2.1 z.2.2.2.2.1 z.2.2.2.2.2.1 z.2.2.2.2.2.2.1 z.2.2.2.2.2.2.2.1 z.2.2.2.2.2.2.2.2) (fun z=>Fs z.1 z.2.1 z.2.2.1 z.2.2.2.1 z.2.2.2.2.1 z.2.2.2.2.2.1 z.2.2.2.2.2.2.1 z.2.2.2.2.2.2.2.1 z.2.2.2.2.2.2.2.2++U) (fun z=>Ls z.1 z.2.1 z.2.2.1 z.2.2.2.1 z.2.2.2.2.1 z.2.2.2.2.2.1 z.2.2.2.2.2.2.1 z.2.2.2.2.2.2.2.1 z.2.2.2.2.2.2.2.2++K) m a w
theorem Yl {α0 α1 α2 α3 α4 α5 α6 α7 α8:Type}{c:Code}{U:List (Nat × Value)}{K:List Ab}(I:α0→α1→α2→α3→α4→α5→α6→α7→α8→Prop)(μ:α0→α1→α2→α3→α4→α5→α6→α7→α8→Nat)(Ms:α0→α1→α2→α3→α4→α5→α6→α7→α8→List (Nat × Value))(Ls:α0→α1→α2→α3→α4→α5→α6→α7→α8→List Ab)(a0:α0)(a1:α1)(a2:α2)(a3:α3)(a4:α4)(a5:α5)(a6:α6)(a7:α7)(a8:α8)(h0:I a0 a1 a2 a3 a4 a5 a6 a7 a8)(hF0:F=Ms a0 a1 a2 a3 a4 a5 a6 a7 a8++U)(hL0:L=Ls a0 a1 a2 a3 a4 a5 a6 a7 a8++K)
  (round:∀(a0:α0) (a1:α1) (a2:α2) (a3:α3) (a4:α4) (a5:α5) (a6:α6) (a7:α7) (a8:α8),I a0 a1 a2 a3 a4 a5 a6 a7 a8→G P n w0 M c (Exit.then (gn n w0 M I μ Ms Ls U K (μ a0 a1 a2 a3 a4 a5 a6 a7 a8)) Q) (Ms a0 a1 a2 a3 a4 a5 a6 a7 a8++U) (Ls a0 a1 a2 a3 a4 a5 a6 a7 a8++K)):G P n w0 M (.loop c) Q F L:=
 KO (σ:=α0 × α1 × α2 × α3 × α4 × α5 × α6 × α7 × α8) (fun z=>I z.1 z.2.1 z.2.2.1 z.2.2.2.1 z.2.2.2.2.1 z.2.2.2.2.2.1 z.2.2.2.2.2.2.1 z.2.2.2.2.2.2.2.1 z.2.2.2.2.2.2.2.2) (fun z=>μ z.1 z.2.1 z.2.2.1 z.2.2.2.1 z.2.2.2.2.1 z.2.2.2.2.2.1 z.2.2.2.2.2.2.1 z.2.2.2.2.2.2.2.1 z.2.2.2.2.2.2.2.2) (fun z=>Ms z.1 z.2.1 z.2.2.1 z.2.2.2.1 z.2.2.2.2.1 z.2.2.2.2.2.1 z.2.2.2.2.2.2.1 z.2.2.2.2.2.2.2.1 z.2.2.2.2.2.2.2.2++U) (fun z=>Ls z.1 z.2.1 z.2.2.1 z.2.2.2.1 z.2.2.2.2.1 z.2.2.2.2.2.1 z.2.2.2.2.2.2.1 z.2.2.2.2.2.2.2.1 z.2.2.2.2.2.2.2.2++K) (a0,a1,a2,a3,a4,a5,a6,a7,a8) h0 (by rw [hF0];exact Sub.refl _) (by rw [hL0];exact List.Sublist.refl _) (fun z h=>round z.1 z.2.1 z.2.2.1 z.2.2.2.1 z.2.2.2.2.1 z.2.2.2.2.2.1 z.2.2.2.2.2.2.1 z.2.2.2.2.2.2.2.1 z.2.2.2.2.2.2.2.2 h)
theorem XF {α0 α1 α2 α3 α4 α5 α6 α7 α8:Type}{I:α0→α1→α2→α3→α4→α5→α6→α7→α8→Prop}{μ:α0→α1→α2→α3→α4→α5→α6→α7→α8→Nat}{Ms:α0→α1→α2→α3→α4→α5→α6→α7→α8→List (Nat × Value)}{Ls:α0→α1→α2→α3→α4→α5→α6→α7→α8→List Ab}{U:List (Nat × Value)}{K:List Ab}{m:Nat}(a0:α0)(a1:α1)(a2:α2)(a3:α3)(a4:α4)(a5:α5)(a6:α6)(a7:α7)(a8:α8)(hI:I a0 a1 a2 a3 a4 a5 a6 a7 a8)(hm:μ a0 a1 a2 a3 a4 a5 a6 a7 a8 < m)(hF:Sub F (Ms a0 a1 a2 a3 a4 a5 a6 a7 a8++U))(hL:(Ls a0 a1 a2 a3 a4 a5 a6 a7 a8++K).Sublist L):GQ n w0 M (Exit.then (gn n w0 M I μ Ms Ls U K m) Q) .normal F L:=
 Ip (σ:=α0 × α1 × α2 × α3 × α4 × α5 × α6 × α7 × α8) (a0,a1,a2,a3,a4,a5,a6,a7,a8) hI hm hF hL
end
end Go.Ing
/- Engine: slices and strings that come in. -/
namespace Go.Ing
open Go Go.RowKit Go.ChangeShapes Go.WideShapes Go.ChangeAt
def iI (w:World)(sz:Nat){β:Type}(e:β→List Value)(wf:β→Prop)(h:Hd):Prop:=∃(T:Nat) (xs:List β),Rd w h T sz (xs.flatMap e)∧h.len=xs.length∧h.len≤h.cap∧h.cap≤9223372036854775807∧∀ x∈xs,wf x
section
variable {H:Type} {enc:TypeId × Value→H} {P:Program} {w:World}
theorem ZJ {α:Type}{e:α→List Value}{wf:α→Prop}{t E sz:Nat}(hu:P.underlying t=some (.slice E))(hE:P.cellsOf E=sz)(hsz:0 < sz)(fe:Flat e sz)(hd:Dc H enc P w e wf E):Dc H enc P w Dh (iI w sz e wf) t:=by
 intro fuel cs d ps h
 rcases DataW.trod_slice hu h with ⟨rfl,_⟩ | ⟨a,len,cap,elems,rest,n,_,rfl,_,_,hl,hm,hlen,hel,_⟩
 ·exact⟨⟨none,0,0⟩,rfl,0,[],Rd.nil w 0 sz,rfl,Nat.le_refl _,by simp,fun x hx=>by simp at hx⟩
 refine⟨⟨some a,len,cap⟩,rfl,?_⟩
 rw [hE] at hel
 have hx:∀ i,i < len→∃ x,w.cells? 0 (a.add (i * sz)) sz=some (e x)∧wf x:=fun i hi=>by
  have h1:=hel i hi
  rw [List.getElem?_eq_getElem (by omega),Option.bind_eq_some_iff] at h1
  obtain⟨c,h2,h3⟩:=h1
  obtain⟨x,rfl,hw⟩:=hd _ _ _ _ h3
  exact⟨x,h2,hw⟩
 have key:∀ k,k≤len→∃ xs:List α,xs.length=k∧(∀ i (hi:i < xs.length),w.cells? 0 (a.add (i * sz)) sz=some (e xs[i]))∧∀ x∈xs,wf x:=by
  intro k
  induction k with
  | zero=>intro _;exact⟨[],rfl,fun i hi=>by simp at hi,fun x hx=>by simp at hx⟩
  | succ k ih=>
   intro hk
   obtain⟨xs,h1,h2,h3⟩:=ih (by omega)
   obtain⟨x,h4,h5⟩:=hx k (by omega)
   refine⟨xs ++ [x],by simp [h1],fun i hi=>?_,fun y hy=>?_⟩
   ·by_cases hik:i < xs.length
    ·rw [List.getElem_append_left hik];exact h2 i hik
    ·have:i=xs.length:=by simp at hi;omega
     subst this
     rw [List.getElem_append_right (Nat.le_refl _)]
     simp only [Nat.sub_self,List.getElem_cons_zero]
     rw [h1];exact h4
   ·rcases List.mem_append.1 hy with hy | hy
    ·exact h3 y hy
    ·simp at hy;subst hy;exact h5
 obtain⟨xs,h1,h2,h3⟩:=key len (Nat.le_refl _)
 have hfl:(xs.flatMap e).length=len * sz:=by rw [DD fe.len,h1]
 have hcell:∀ j,j < len * sz→w.cell? (a.add j)=(xs.flatMap e)[j]?:=fun j hj=>by
  have hi:j / sz < xs.length:=by rw [h1];exact(Nat.div_lt_iff_lt_mul hsz).2 hj
  have hr:j % sz < sz:=Nat.mod_lt _ hsz
  have h4:=(World.cells?_some (h2 (j / sz) hi)).2.2 (j % sz) hr
  have h5:=P2 fe xs (j / sz) hi
  have hdm:j / sz * sz+j % sz=j:=by rw [Nat.mul_comm];exact Nat.div_add_mod j sz
  have h6:(xs.flatMap e)[j]?=(e xs[j / sz])[j % sz]?:=by
   rw [← h5,List.getElem?_take,if_pos hr,List.getElem?_drop,hdm]
  rw [h6,← h4]
  congr 1
  unfold Addr.add
  by_cases z1:j / sz * sz=0
  ·rw [if_pos z1,show j=j % sz by omega]
   simp
  ·rw [if_neg z1,if_neg (by omega:¬ j=0)]
   by_cases z2:j % sz=0
   ·rw [if_pos z2];congr 1;omega
   ·rw [if_neg z2];congr 1;simp only [];omega
 by_cases hz:len=0
 ·subst hz
  have:xs = []:=List.length_eq_zero_iff.1 h1
  subst this
  exact⟨0,[],⟨by simp,fun h=>absurd rfl h⟩,rfl,hl,hm,fun x hx=>by simp at hx⟩
 ·have hpos:0 < len * sz:=Nat.mul_pos (by omega) hsz
  have h0:=hcell 0 hpos
  rw [List.getElem?_eq_getElem (by omega)] at h0
  have ha0:a.add 0=a:=rfl
  rw [ha0] at h0
  unfold World.cell? at h0
  cases hb:w.heap[a.block]? with
  | none=>rw [hb] at h0;simp at h0
  | some ob=>
   rw [hb] at h0
   cases ob with
   | cells C T fz=>
    simp only at h0
    cases hs:a.spot with
    | some s=>rw [hs] at h0;simp at h0
    | none=>
     obtain⟨blk,off,spt⟩:=a
     simp only at hs hb
     subst hs
     have hc:∀ j,j < len * sz→C.toList[off+j]?=(xs.flatMap e)[j]?:=fun j hj=>by
      have:=hcell j hj
      rw [Eo] at this
      unfold World.cell? at this
      simp only [hb] at this
      rw [← this];simp
     have hbd:off+len * sz≤C.toList.length:=by
      have:=hc (len * sz - 1) (by omega)
      rw [List.getElem?_eq_getElem (by omega:len * sz - 1 < (xs.flatMap e).length)] at this
      rcases Nat.lt_or_ge (off+(len * sz - 1)) C.toList.length with h | h
      ·omega
      ·rw [List.getElem?_eq_none h] at this;cases this
     refine⟨T,xs,⟨by rw [hfl],fun _=>⟨blk,off,C.toList,fz,rfl,?_,by rw [hb],by rw [hfl];exact hbd,?_⟩⟩,h1.symm,hl,hm,h3⟩
     ·rcases Nat.lt_or_ge blk w.heap.size with h | h
      ·exact h
      ·rw [Array.getElem?_eq_none h] at hb;cases hb
     ·apply List.ext_getElem?
      intro j
      rw [List.getElem?_take,hfl]
      by_cases hj:j < len * sz
      ·rw [if_pos hj,List.getElem?_drop,hc j hj]
      ·rw [if_neg hj,List.getElem?_eq_none (by omega)]
   | _=>simp at h0
theorem cm {α:Type}{e:α→List Value}{wf:α→Prop}{base t E sz:Nat}{v:Value}{d:DataW H}{p:List MemPlace}(hu:P.underlying t=some (.slice E))(hval:Value.okWide P w .any base t v)(hE:P.cellsOf E=sz)(hsz:0 < sz)(fe:Flat e sz)(hd:Dc H enc P w e wf E)
  (h:DataW.Trod enc P w 0 (fun _=>true) true t v d p):∃ x:Hd,v=x.val∧iI w sz e wf x:=by
 obtain⟨fuel,hf⟩:=h
 obtain⟨x,hx,hw⟩:=ZJ hu hE hsz fe hd _ _ _ _ hf
 refine⟨x,?_,hw⟩
 have hv:∀ cs,v≠ .agg cs:=fun cs e=>by
  subst e
  unfold Value.okWide at hval
  rw [hu] at hval
  simp [Cell.okWide,Cell.ok,hu] at hval
 cases v with
 | agg cs=>exact absurd rfl (hv cs)
 | _=>simp [Value.cells,Dh] at hx;exact hx
end
theorem Src.D4 {P:Program}{w:World}{U E T sz:Nat}{g:Hd}{ys:List Value}(hu:P.underlying U=some (.slice E))(hg:Rd w g T sz ys):Src P w U sz g.val g.len ys:=
 ⟨.inl ⟨_,hu⟩,fun _=>rfl,fun _ hk=>G7 (hg.J7 hk),hg.1⟩
end Go.Ing

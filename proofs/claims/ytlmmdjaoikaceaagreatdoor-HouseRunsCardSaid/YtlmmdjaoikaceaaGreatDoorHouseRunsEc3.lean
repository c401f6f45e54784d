/- The engine: rules by which a walk over a function of the model goes operation by operation; data in cells; from a contract of a law to its row. No condition. -/
import Derived.Test.YtlmmdjaoikaceaaGreatDoorHouseRunsEb1
import Derived.ChangeKeysEq
import Derived.Laws.Cover3
import Derived.ChangeMaps5
import Derived.SizedLaws
import Derived.JoinedCond
set_option linter.unusedSimpArgs false
set_option linter.unusedVariables false
/- Engine, part 12: regions that draw their order, with effects amid what floats. -/
namespace Go.Ing
open Go
def QK (K:Go.Act→World→Prop)(Q:Exit→Go.Act→World→Prop):Exit→Go.Act→World→Prop
 | .normal,a,w=>K a w
 | e,a,w=>Q e a w
theorem WJ {K:Go.Act→World→Prop}{Q:Exit→Go.Act→World→Prop}(h:LetsOut (QK K Q)):LetsOut Q:=by
 obtain⟨a,w,h⟩:=h;exact⟨a,w,h⟩
theorem Oper.iN {P:Program}{o:Oper}{a:Go.Act}{w:World}{K:Go.Act→World→Prop}{Q:Exit→Go.Act→World→Prop}(hd:a.defers = [])(hK:∀ a w,K a w→a.defers = [])
  (h:o.wp P a w K (QK K Q)):o.wp P a w (fun a' w'=>K a' w'∧∃ v,a'=a.put o.dst v) Q:=by
 unfold Oper.wp at *
 generalize (execOp a.eval o).run P w=r at *
 cases r with
 | ok n w'=>
  cases n with
  | value v=>exact⟨h,v,rfl⟩
  | skip=>exact⟨h,undef,rfl⟩
  | defer d=>
   have:=hK _ _ h
   cases hdst:o.dst<;>simp [Act.put,hdst] at this
  | enter f args=>exact Calls.mono h (fun e w'' he=>match e,he with
    | .returned v,he=>⟨he,v,rfl⟩
    | .panicked c,he=>he
    | .outgrown,he=>WJ he)
  | row row args=>exact Rows.mono h fun v w'' he=>⟨he,v,rfl⟩
  | _=>exact h
 | halt x w'=>cases x<;>exact h

def J2:Nat→List Oper→Bool
 | _,[]=>true
 | i,o :: l=>o.after.toList.all (fun e=>!Region.binds .any e || Nat.blt e.on i) && J2 (i+1) l
theorem TA:∀(l:List Oper) (i j:Nat) (o:Oper),J2 i l=true→l[j]?=some o→∀ e∈o.after.toList,Region.binds .any e=true→e.on < i+j
 | [],_,_,_,_,h=>by simp at h
 | p :: l,i,0,o,hb,h=>by
  simp at h;subst h
  simp only [J2,Bool.and_eq_true,List.all_eq_true] at hb
  intro e he hbe
  have:=hb.1 e he
  rw [hbe] at this
  simpa [Nat.blt_eq] using this
 | p :: l,i,j+1,o,hb,h=>by
  simp only [J2,Bool.and_eq_true] at hb
  intro e he hbe
  have:=TA l (i+1) j o hb.2 (by simpa using h) e he hbe
  omega
def fB (l:List Oper)(Rs:List Nat):Bool:=(List.range l.length).all fun i=>(List.range i).all fun j=>!((Rs.getD i 0).testBit j) || (match l[i]? with | none=>false | some o=>o.after.toList.any fun e=>Region.binds .any e && Nat.blt e.on i && (Nat.beq e.on j || (Nat.blt j e.on && (Rs.getD e.on 0).testBit j)))
def VN (n:Nat)(_F:List (Nat × Value))(l:List Oper):Bool:=l.all fun o=>match o.dst with | some d=>Nat.blt d n | none=>true
def Xk (F:List (Nat × Value))(d:Nat)(v:Value):Prop:=lk d F=none∨lk d F=some v
def reaches (Rs:List Nat)(x j:Nat):Bool:=Nat.blt j x && (Rs.getD x 0).testBit j
theorem Tz {l:List Oper}{Rs:List Nat}{listed:Array Bool}(hr:fB l Rs=true)(hdc:RM l listed):∀(k x j:Nat) (o:Oper),x≤k→l[x]?=some o→(∀ e∈o.after.toList,Region.binds .any e=true→listed.getD e.on false=true)→reaches Rs x j=true→listed.getD j false=true:=by
 intro k
 induction k with
 | zero=>
  intro x j o hx ho ha h
  simp [reaches,Nat.blt_eq] at h;omega
 | succ k ih=>
  intro x j o hx ho ha h
  simp only [reaches,Bool.and_eq_true,Nat.blt_eq] at h
  have hxl:x < l.length:=by
   rcases Nat.lt_or_ge x l.length with h' | h'
   ·exact h'
   ·rw [List.getElem?_eq_none h'] at ho;cases ho
  have h1:=List.all_eq_true.1 hr x (List.mem_range.2 hxl)
  have h2:=List.all_eq_true.1 h1 j (List.mem_range.2 h.1)
  rw [h.2,ho] at h2
  simp only [Bool.not_true,Bool.false_or,List.any_eq_true,Bool.and_eq_true,Bool.or_eq_true,Nat.blt_eq] at h2
  obtain⟨e,he,⟨hb,hlt⟩,h3⟩:=h2
  have hl:=ha e he hb
  rcases h3 with h3 | ⟨h3,h4⟩
  ·rw [← Nat.eq_of_beq_eq_true h3];exact hl
  ·have hel:e.on < l.length:=by omega
   have ho':l[e.on]?=some l[e.on]:=List.getElem?_eq_getElem hel
   exact ih e.on j _ (by omega) ho' (hdc _ _ ho' hl) (by simp only [reaches,Bool.and_eq_true,Nat.blt_eq];exact⟨h3,h4⟩)

def J1 (i:Nat)(d:Option Nat)(v:Value)(D:List (Nat × (Nat × Value))):List (Nat × (Nat × Value)):=match d with | some d=>(i,(d,v)) :: D | none=>D

section
variable (P:Program) (n:Nat) (w0:World) (M:List Nat) (Q:Exit→Go.Act→World→Prop) (l:List Oper) (Rs:List Nat) (F:List (Nat × Value))
def HK (b:Nat)(D:List (Nat × (Nat × Value)))(L:List AJ):List Nat→Prop
 | []=>True
 | j :: A=>(reaches Rs b j=true∨∃ o d v,l[j]?=some o∧NT j D=some (d,v)∧E4 P n w0 M Q l.toArray F L o D v)∧HK b D L A
def PK (o:Oper)(X:Value→List AJ→Prop)(a:Go.Act)(w:World):Prop:=
 ∃ v L',(∀ d,o.dst=some d→a.tmps[d]?=some v)∧a.defers = []∧a.tmps.size=n∧St w0 M w L'∧X v L'
def cG (V:List Nat)(bs:List Nat):Bool:=(List.range l.length).all fun x=>V.elem x || bs.elem x || bs.any fun b=>reaches Rs x b
def IJ:Nat→(V A:List Nat)→(D:List (Nat × (Nat × Value)))→(L:List AJ)→Prop
 | 0,V,_,D,L=>((List.range l.length).all fun x=>V.elem x)=true∧GQ n w0 M Q .normal (Gi D++F) L
 | k+1,V,A,D,L=>
  (∃ i o d v,l[i]?=some o∧o.dst=some d∧V.elem i=false∧(o.after.toList.all fun e=>!Region.binds .any e || V.elem e.on)=true∧E4 P n w0 M Q l.toArray F L o D v∧Xk F d v∧IJ k (i :: V) (i :: A) ((i,(d,v)) :: D) L)
  ∨ (∃ b:Nat,∃ bs:List Nat,cG l Rs V (b :: bs)=true∧∀ x∈b :: bs,∃ o,l[x]?=some o∧V.elem x=false∧(∀ d,o.dst=some d→lk d F=none) ∧
    GL P n w0 M l.toArray (QK (PK n w0 M o fun v L'=>HK P n w0 M Q l Rs F x (J1 x o.dst v D) L' A∧IJ k (x :: V) A (J1 x o.dst v D) L') Q) [o] (DQ D o.after.toList++F) L)
end
structure OK (P:Program)(n:Nat)(w0:World)(M:List Nat)(Q:Exit→Go.Act→World→Prop)(l:List Oper)(F:List (Nat × Value))(V A:List Nat)(D:List (Nat × (Nat × Value)))(L:List AJ)(listed:Array Bool)(a:Go.Act)(w:World):Prop where
 size:listed.size=l.length
 closed:RM l listed
 fr:Fr n a F
 st:St w0 M w L
 has:∀ j,listed.getD j false=true→j∈V∧∀ d v,NT j D=some (d,v)→a.tmps[d]?=some v
 Gp:∀ j,j∈V→listed.getD j false=false→j∈A∧∃ o d v,l[j]?=some o∧o.dst=some d∧NT j D=some (d,v)∧E4 P n w0 M Q l.toArray F L o D v∧Xk F d v
 dT:∀ x∈D,x.1∈V∧NT x.1 D=some x.2∧∃ o:Oper,l[x.1]?=some o∧o.dst=some x.2.1
 WT:∀ j∈V,∀ o,l[j]?=some o→∀ e∈o.after.toList,Region.binds .any e=true→e.on∈V
theorem Qc {x:Nat}{V:List Nat}:V.elem x=true↔x∈V:=by simp
theorem LQ {x:Nat}{V:List Nat}(h:V.elem x=false):x ∉ V:=by simpa using h
theorem Oc {n:Nat}{a:Go.Act}{F:List (Nat × Value)}{D:List (Nat × (Nat × Value))}{es:List Edge}(hF:Fr n a F)(h:∀ e∈es,Region.binds .any e=true→∀ d v,NT e.on D=some (d,v)→a.tmps[d]?=some v):Fr n a (DQ D es++F):=by
 refine⟨hF.size,hF.defers,fun k v hk=>?_⟩
 rcases M1 _ _ hk with h1 | h1
 ·obtain⟨e,he,hb,hl⟩:=L7 _ h1
  exact h e he hb k v hl
 ·exact hF.get k v h1
section
variable {P:Program} {n:Nat} {w0:World} {M:List Nat} {Q:Exit→Go.Act→World→Prop} {l:List Oper} {Rs:List Nat} {F:List (Nat × Value)}
theorem We {j i:Nat}{d:Option Nat}{v:Value}{D:List (Nat × (Nat × Value))}(h:j≠i):NT j (J1 i d v D)=NT j D:=by
 cases d with
 | none=>rfl
 | some d=>exact HR h _ _
theorem J9 {listed:Array Bool}{x j:Nat}(hx:x < listed.size):(listed.setIfInBounds x true).getD j false=if x=j then true else listed.getD j false:=by
 rw [Array.getD_eq_getD_getElem?,Array.getElem?_setIfInBounds]
 by_cases e:x=j
 ·subst e;simp [hx]
 ·rw [if_neg e,if_neg e,Array.getD_eq_getD_getElem?]
theorem HK.at {b:Nat}{D:List (Nat × (Nat × Value))}{L:List AJ}:∀ {A:List Nat},HK P n w0 M Q l Rs F b D L A→∀ j∈A,reaches Rs b j=true∨∃ o d v,l[j]?=some o∧NT j D=some (d,v)∧E4 P n w0 M Q l.toArray F L o D v
 | [],_,j,hj=>by simp at hj
 | x :: A,h,j,hj=>by
  rcases List.mem_cons.1 hj with rfl | hj
  ·exact h.1
  ·exact HK.at h.2 j hj
theorem Oa {listed:Array Bool}(hs:listed.size=l.length)(hdc:RM l listed){x:Nat}{o:Oper}(hox:l[x]?=some o)(h3:∀ e∈o.after.toList,Region.binds .any e=true→listed.getD e.on false=true)(hxl:x < l.length):RM l (listed.setIfInBounds x true):=by
 intro y p hp hy e he hbe
 rw [J9 (by omega)] at hy ⊢
 by_cases e2:x=e.on
 ·rw [if_pos e2]
 ·rw [if_neg e2]
  by_cases e1:x=y
  ·subst e1;rw [hox] at hp;cases hp;exact h3 e he hbe
  ·rw [if_neg e1] at hy;exact hdc y p hp hy e he hbe
theorem Mk {i:Nat}{x:Nat × Value}{D:List (Nat × (Nat × Value))}:∀ es:List Edge,(∀ e∈es,Region.binds .any e=true→e.on≠i)→DQ ((i,x) :: D) es=DQ D es
 | [],_=>rfl
 | e :: es,h=>by
  simp only [DQ]
  rw [Mk es fun e he=>h e (by simp [he])]
  cases hb:Region.binds .any e with
  | false=>rfl
  | true=>rw [HR (h e (by simp) hb)]
theorem OK.float {V A:List Nat}{D:List (Nat × (Nat × Value))}{L:List AJ}{listed:Array Bool}{a:Go.Act}{w:World}(hb:J2 0 l=true)(hI:OK P n w0 M Q l F V A D L listed a w){i d:Nat}{o:Oper}{v:Value}(ho:l[i]?=some o)(hd:o.dst=some d)(hV:V.elem i=false)
  (he:(o.after.toList.all fun e=>!Region.binds .any e || V.elem e.on)=true) (hok:E4 P n w0 M Q l.toArray F L o D v) (hlk:Xk F d v):OK P n w0 M Q l F (i :: V) (i :: A) ((i,(d,v)) :: D) L listed a w:=by
 have hiV:=LQ hV
 have hne:∀ j∈V,j≠i:=fun j hj e=>hiV (e ▸ hj)
 have heV:∀ e∈o.after.toList,Region.binds .any e=true→e.on∈V:=fun e he' hb'=>by
  have:=List.all_eq_true.1 he e he'
  rw [hb'] at this
  simpa using this
 refine⟨hI.size,hI.closed,hI.fr,hI.st,fun j hj=>?_,fun j hj hl=>?_,fun x hx=>?_,fun j hj o' ho' e he' hb'=>?_⟩
 ·obtain⟨h1,h2⟩:=hI.has j hj
  refine⟨by simp [h1],fun d' v' h=>h2 d' v' ?_⟩
  rwa [HR (hne j h1)] at h
 ·rcases List.mem_cons.1 hj with rfl | hj
  ·refine⟨by simp,o,d,v,ho,hd,MD _ _ _,?_,hlk⟩
   unfold E4 at hok ⊢
   rw [Mk _ fun e he hbe=>hne _ (heV e he hbe)]
   exact hok
  ·obtain⟨h1,o',d',v',h2,h3,h4,h5,h6⟩:=hI.Gp j hj hl
   refine⟨by simp [h1],o',d',v',h2,h3,by rw [HR (hne j hj)];exact h4,?_,h6⟩
   unfold E4 at h5 ⊢
   rw [Mk _ fun e he hb=>hne _ (hI.WT j hj o' h2 e he hb)]
   exact h5
 ·rcases List.mem_cons.1 hx with rfl | hx
  ·exact⟨by simp,MD _ _ _,o,ho,hd⟩
  ·obtain⟨h1,h2,h3⟩:=hI.dT x hx
   exact⟨by simp [h1],by rw [HR (hne _ h1)];exact h2,h3⟩
 ·rcases List.mem_cons.1 hj with rfl | hj
  ·rw [ho] at ho';cases ho';simp [heV e he' hb']
  ·simp [hI.WT j hj o' ho' e he' hb']
theorem OK.Q1 {V A:List Nat}{D:List (Nat × (Nat × Value))}{L:List AJ}{listed:Array Bool}{a:Go.Act}{w:World}(hdst:VN n F l=true)(hu:E2 l=true)(hI:OK P n w0 M Q l F V A D L listed a w)
  {x:Nat} {o:Oper} (hox:l[x]?=some o) (h2:listed[x]?=some false) (h3:∀ e∈o.after.toList,Region.binds .any e=true→listed.getD e.on false=true) (hxl:x < l.length) (hxV:x∈V)
  (K:Go.Act→World→Prop) (hK:∀ a' w',OK P n w0 M Q l F V A D L (listed.setIfInBounds x true) a' w'→K a' w'):wpOp P l.toArray Q x K a w:=by
 have hlx:listed.getD x false=false:=by rw [Array.getD_eq_getD_getElem?,h2];rfl
 obtain⟨_,o',d,v,ho',hd,hlk,hok,hlo⟩:=hI.Gp x hxV hlx
 rw [hox] at ho';cases ho'
 have hdb:d < n:=by
  have:=List.all_eq_true.1 hdst o (List.mem_of_getElem? hox)
  rw [hd] at this
  simpa [Nat.blt_eq] using this
 have hfr:Fr n a (DQ D o.after.toList++F):=Oc hI.fr fun e he hb d v h=>(hI.has e.on (h3 e he hb)).2 d v h
 have hput:∀ w' v',St w0 M w' L→v'=v→OK P n w0 M Q l F V A D L (listed.setIfInBounds x true) (a.put o.dst v') w':=by
  intro w' v' hS' hv
  subst hv
  rw [hd]
  refine⟨by simpa using hI.size,Oa hI.size hI.closed hox h3 hxl,⟨by simp [Act.put,hI.fr.size],hI.fr.defers,fun k u hk=>?_⟩,hS',fun j hj=>?_,fun j hj hl=>?_,hI.dT,hI.WT⟩
  ·by_cases hkd:k=d
   ·subst hkd
    rcases hlo with hlo | hlo
    ·rw [hlo] at hk;cases hk
    ·rw [hlo] at hk;cases hk
     simp [Act.put,hI.fr.size,hdb]
   ·simp only [Act.put]
    rw [Array.getElem?_setIfInBounds_ne (fun h=>hkd h.symm)]
    exact hI.fr.get k u hk
  ·rw [J9 (by rw [hI.size];exact hxl)] at hj
   by_cases e:x=j
   ·subst e
    refine⟨hxV,fun d' u h=>?_⟩
    rw [hlk] at h;cases h
    simp [Act.put,hI.fr.size,hdb]
   ·rw [if_neg e] at hj
    obtain⟨h4,h5⟩:=hI.has j hj
    refine⟨h4,fun d' u h=>?_⟩
    have hne:d≠d':=fun e'=>by
     obtain⟨_,_,p,hp,hpd⟩:=hI.dT _ (N2 _ h)
     exact e (Lr l x j o p d hu hox hp hd (by rw [hpd,e']))
    simp only [Act.put]
    rw [Array.getElem?_setIfInBounds_ne hne]
    exact h5 d' u h
  ·rw [J9 (by rw [hI.size];exact hxl)] at hl
   by_cases e:x=j
   ·rw [if_pos e] at hl;cases hl
   ·rw [if_neg e] at hl;exact hI.Gp j hj hl
 unfold wpOp
 rw [List.getElem?_toArray,hox]
 have:=hok a w K hfr hI.st fun w' hS'=>hK _ _ (hput w' v hS' rfl)
 show if Region.wanted o (yielded l.toArray a.tmps)=true then _ else _
 by_cases hw:Region.wanted o (yielded l.toArray a.tmps)=true
 ·rw [if_pos hw] at this ⊢;exact .inl this
 ·rw [if_neg hw] at this ⊢;exact this
theorem OK.Xz {V A:List Nat}{D:List (Nat × (Nat × Value))}{L:List AJ}{listed:Array Bool}{a:Go.Act}{w:World}(hr:fB l Rs=true)(hb:J2 0 l=true)(hdst:VN n F l=true)(hu:E2 l=true)(hI:OK P n w0 M Q l F V A D L listed a w)
  {x:Nat} {o:Oper} (hox:l[x]?=some o) (h3:∀ e∈o.after.toList,Region.binds .any e=true→listed.getD e.on false=true) (hxl:x < l.length) (hxV:x ∉ V) (hnone:∀ d,o.dst=some d→lk d F=none) {X:Value→List AJ→Prop}
  (hp:GL P n w0 M l.toArray (QK (PK n w0 M o X) Q) [o] (DQ D o.after.toList++F) L) (hX:∀ v L',X v L'→HK P n w0 M Q l Rs F x (J1 x o.dst v D) L' A)
  (K:Go.Act→World→Prop) (hK:∀ a' w' v L',X v L'→OK P n w0 M Q l F (x :: V) A (J1 x o.dst v D) L' (listed.setIfInBounds x true) a' w'→K a' w'):wpOp P l.toArray Q x K a w:=by
 have hdb:∀ d,o.dst=some d→d < n∧lk d F=none:=fun d hd=>by
  have:=List.all_eq_true.1 hdst o (List.mem_of_getElem? hox)
  rw [hd] at this
  exact⟨by simpa [Nat.blt_eq] using this,hnone d hd⟩
 have hfr:Fr n a (DQ D o.after.toList++F):=Oc hI.fr fun e he hb d v h=>(hI.has e.on (h3 e he hb)).2 d v h
 have hne:∀ j∈V,j≠x:=fun j hj e=>hxV (e ▸ hj)
 have hput:∀ a' w',PK n w0 M o X a' w'→(∃ v,a'=a.put o.dst v)→K a' w':=by
  intro a' w' ⟨v,L',h1,h2,h3',h4,h5⟩ ⟨u,hu'⟩
  refine hK a' w' v L' h5 ?_
  have hkeep:∀ k,o.dst≠some k→a'.tmps[k]?=a.tmps[k]?:=fun k hk=>by
   rw [hu']
   cases hd:o.dst with
   | none=>rfl
   | some d=>
    simp only [Act.put]
    rw [Array.getElem?_setIfInBounds_ne]
    intro e;subst e;exact hk hd
  refine⟨by simpa using hI.size,Oa hI.size hI.closed hox h3 hxl,⟨h3',h2,fun k u hk=>?_⟩,h4,fun j hj=>?_,fun j hj hl=>?_,fun y hy=>?_,fun j hj p hp' e he hbe=>?_⟩
  ·rw [hkeep k fun e=>by rw [(hdb k e).2] at hk;cases hk]
   exact hI.fr.get k u hk
  ·rw [J9 (by rw [hI.size];exact hxl)] at hj
   by_cases e:x=j
   ·subst e
    refine⟨by simp,fun d' u h=>?_⟩
    cases hd:o.dst with
    | none=>
     rw [hd] at h
     obtain⟨h6,_⟩:=hI.dT _ (N2 _ h)
     exact absurd h6 hxV
    | some d=>
     rw [hd] at h
     rw [show J1 x (some d) v D=(x,(d,v)) :: D from rfl,MD] at h
     cases h
     exact h1 _ hd
   ·rw [if_neg e] at hj
    obtain⟨h6,h7⟩:=hI.has j hj
    refine⟨by simp [h6],fun d' u h=>?_⟩
    rw [We (hne j h6)] at h
    rw [hkeep d' fun hd=>?_]
    ·exact h7 d' u h
    ·obtain⟨_,_,p,hp',hpd⟩:=hI.dT _ (N2 _ h)
     exact e (Lr l x j o p d' hu hox hp' hd hpd)
  ·rw [J9 (by rw [hI.size];exact hxl)] at hl
   by_cases e:x=j
   ·rw [if_pos e] at hl;cases hl
   ·rw [if_neg e] at hl
    have hjV:j∈V:=by
     rcases List.mem_cons.1 hj with h | h
     ·exact absurd h.symm e
     ·exact h
    obtain⟨h6,o',d',v',h7,h8,h9,h10,h11⟩:=hI.Gp j hjV hl
    refine⟨h6,?_⟩
    rcases (hX v L' h5).at j h6 with h | ⟨o2,d2,v2,g1,g2,g3⟩
    ·have:=Tz hr hI.closed _ x j o (Nat.le_refl _) hox h3 h
     rw [hl] at this;cases this
    ·rw [h7] at g1;cases g1
     have hg2:=g2
     rw [We (hne j hjV),h9] at g2
     cases g2
     exact⟨o',d',v',h7,h8,hg2,g3,h11⟩
  ·cases hd:o.dst with
   | none=>rw [hd] at hy;obtain⟨h6,h7,h8⟩:=hI.dT y hy;exact⟨by simp [h6],h7,h8⟩
   | some d=>
    rw [hd] at hy
    rcases List.mem_cons.1 hy with rfl | hy
    ·exact⟨by simp,MD _ _ _,o,hox,hd⟩
    ·obtain⟨h6,h7,h8⟩:=hI.dT y hy
     exact⟨by simp [h6],by rw [show J1 x (some d) v D=(x,(d,v)) :: D from rfl,HR (hne _ h6)];exact h7,h8⟩
  ·rcases List.mem_cons.1 hj with rfl | hj
   ·rw [hox] at hp';cases hp'
    exact List.mem_cons_of_mem _ (hI.has _ (h3 e he hbe)).1
   ·exact List.mem_cons_of_mem _ (hI.WT j hj p hp' e he hbe)
 have hgl:=hp a w hfr hI.st
 unfold wpOp
 rw [List.getElem?_toArray,hox]
 show if Region.wanted o (yielded l.toArray a.tmps)=true then _ else _
 unfold wpList at hgl
 have hPKd:∀ a w,PK n w0 M o X a w→a.defers = []:=fun a w ⟨_,_,_,h,_⟩=>h
 by_cases hw:Region.wanted o (yielded l.toArray a.tmps)=true
 ·rw [if_pos hw] at hgl ⊢
  rcases hgl with hgl | ⟨h1,h2⟩
  ·exact .inl (Oper.wp_mono (fun a' w' h=>hput a' w' h.1 h.2) (Oper.iN hI.fr.defers hPKd hgl))
  ·exact .inr ⟨h1,WJ h2⟩
 ·rw [if_neg hw] at hgl ⊢
  exact hput _ _ hgl ⟨_,rfl⟩
theorem Vl (hb:J2 0 l=true)(hr:fB l Rs=true)(hdst:VN n F l=true)(hu:E2 l=true) :
  ∀(m k:Nat) (V A:List Nat) (D:List (Nat × (Nat × Value))) (L:List AJ) (listed:Array Bool) (a:Go.Act) (w:World),listed.toList.count false=m→IJ P n w0 M Q l Rs F k V A D L→OK P n w0 M Q l F V A D L listed a w→wpAny P .any l.toArray Q m listed a w:=by
 have hlt:∀(x:Nat) (o:Oper),l[x]?=some o→x < l.length:=fun x o ho=>by
  rcases Nat.lt_or_ge x l.length with h | h
  ·exact h
  ·rw [List.getElem?_eq_none h] at ho;cases ho
 intro m
 induction m with
 | zero=>
  intro k
  induction k with
  | zero=>
   intro V A D L listed a w hcnt hp hI
   have hall:∀ j,j < l.length→listed.getD j false=true:=fun j hj=>by
    have hj':j < listed.size:=by rw [hI.size];exact hj
    have h1:listed[j]?=some listed[j]:=Array.getElem?_eq_getElem hj'
    rw [Array.getD_eq_getD_getElem?,h1]
    cases hv:listed[j] with
    | true=>rfl
    | false=>
     have:=List.count_eq_zero.1 hcnt
     exact absurd (by rw [← hv];exact Array.getElem_mem_toList hj') this
   refine⟨?_,hp.2 a w ⟨hI.fr.size,hI.fr.defers,fun k v hk=>?_⟩ hI.st⟩
   ·refine List.eq_nil_iff_forall_not_mem.2 fun x hx=>?_
    obtain⟨o,ho,h2,_⟩:=(Ku hI.size).1 hx
    have:=hall x (hlt x o ho)
    rw [Array.getD_eq_getD_getElem?,h2] at this
    cases this
   ·rcases M1 _ _ hk with h | h
    ·have:∃ j,(j,(k,v))∈D:=by
      clear hk hI hp
      induction D with
      | nil=>simp [Gi] at h
      | cons x D ih=>
       simp only [Gi,List.mem_cons] at h
       rcases h with h | h
       ·obtain⟨j,y⟩:=x;simp only at h;exact⟨j,by rw [h];simp⟩
       ·obtain⟨j,hj⟩:=ih h;exact⟨j,by simp [hj]⟩
     obtain⟨j,hj⟩:=this
     obtain⟨h1,h2,o,h3,_⟩:=hI.dT _ hj
     exact(hI.has j (hall j (hlt j o h3))).2 k v h2
    ·exact hI.fr.get k v h
  | succ k ih=>
   intro V A D L listed a w hcnt hp hI
   rcases hp with ⟨i,o,d,v,ho,hd,hV,he,hok,hlo,hp⟩ | ⟨b,bs,hch,hx⟩
   ·exact ih (i :: V) (i :: A) _ L listed a w hcnt hp (hI.float hb ho hd hV he hok hlo)
   ·exfalso
    obtain⟨o,ho,hV,_⟩:=hx b (by simp)
    have hbl:b < listed.size:=by rw [hI.size];exact hlt b o ho
    have h1:listed[b]?=some listed[b]:=Array.getElem?_eq_getElem hbl
    have h2:listed.getD b false=true:=by
     rw [Array.getD_eq_getD_getElem?,h1]
     cases hv:listed[b] with
     | true=>rfl
     | false=>
      have:=List.count_eq_zero.1 hcnt
      exact absurd (by rw [← hv];exact Array.getElem_mem_toList hbl) this
    exact LQ hV (hI.has b h2).1
 | succ m ihm=>
  intro k
  have next:∀ {listed:Array Bool} {x:Nat},listed.toList.count false=m+1→listed[x]?=some false→(listed.setIfInBounds x true).toList.count false=m:=fun {listed x} hcnt h2=>by
   have:=count_set (l:=listed.toList) x (by simpa using h2)
   rw [Array.toList_setIfInBounds]
   omega
  have some_ready:∀ {listed:Array Bool},listed.size=l.length→listed.toList.count false=m+1→Region.ready .any l.toArray listed≠ []:=fun {listed} hs hcnt=>by
   have hex:∃ j,j < listed.size∧listed[j]?=some false:=by
    have:false∈listed.toList:=by
     apply Classical.byContradiction
     intro h
     rw [List.count_eq_zero.2 h] at hcnt;omega
    obtain⟨j,hj,e⟩:=List.getElem_of_mem this
    exact⟨j,by simpa using hj,by rw [← e];simp at hj ⊢⟩
   have hmin:∀ b,∀ j,j≤b→j < listed.size→listed[j]?=some false→∃ j,j < listed.size∧listed[j]?=some false∧∀ i,i < j→listed.getD i false=true:=by
    intro b
    induction b with
    | zero=>intro j hj h1 h2;exact⟨j,h1,h2,fun i hi=>by omega⟩
    | succ b ihb=>
     intro j hj h1 h2
     by_cases hx:∀ i,i < j→listed.getD i false=true
     ·exact⟨j,h1,h2,hx⟩
     ·obtain⟨i,hi⟩:∃ i,i < j∧¬ listed.getD i false=true:=by
       apply Classical.byContradiction
       intro hn
       exact hx fun i hi=>Classical.byContradiction fun h=>hn ⟨i,hi,h⟩
      have hi':i < listed.size:=by omega
      refine ihb i (by omega) hi' ?_
      have h3:=hi.2
      rw [Array.getD_eq_getD_getElem?,Array.getElem?_eq_getElem hi'] at h3
      rw [Array.getElem?_eq_getElem hi']
      cases hv:listed[i] with
      | false=>rfl
      | true=>rw [hv] at h3;simp at h3
   obtain⟨j0,h1,h2⟩:=hex
   obtain⟨j,h1,h2,h3⟩:=hmin j0 j0 (Nat.le_refl _) h1 h2
   intro hn
   have hjl:j < l.length:=by omega
   have:j∈Region.ready .any l.toArray listed:=(Ku hs).2 ⟨l[j],List.getElem?_eq_getElem hjl,h2,fun e he hbe=>h3 e.on (by have:=TA l 0 j _ hb (List.getElem?_eq_getElem hjl) e he hbe;omega)⟩
   rw [hn] at this
   cases this
  induction k with
  | zero=>
   intro V A D L listed a w hcnt hp hI
   refine⟨fun e=>absurd e (some_ready hI.size hcnt),fun x hx=>?_⟩
   obtain⟨o,hox,h2,h3⟩:=(Ku hI.size).1 hx
   have hxl:=hlt x o hox
   have hxV:x∈V:=by simpa using List.all_eq_true.1 hp.1 x (List.mem_range.2 hxl)
   exact hI.Q1 hdst hu hox h2 h3 hxl hxV _ fun a' w' hI'=>ihm 0 V A D L _ a' w' (next hcnt h2) hp hI'
  | succ k ih=>
   intro V A D L listed a w hcnt hp hI
   have hp0:=hp
   rcases hp with ⟨i,o,d,v,ho,hd,hV,he,hok,hlo,hp⟩ | ⟨b,bs,hch,hbs⟩
   ·exact ih (i :: V) (i :: A) _ L listed a w hcnt hp (hI.float hb ho hd hV he hok hlo)
   ·refine⟨fun e=>absurd e (some_ready hI.size hcnt),fun x hx=>?_⟩
    obtain⟨o,hox,h2,h3⟩:=(Ku hI.size).1 hx
    have hxl:=hlt x o hox
    by_cases hxV:x∈V
    ·exact hI.Q1 hdst hu hox h2 h3 hxl hxV _ fun a' w' hI'=>ihm (k+1) V A D L _ a' w' (next hcnt h2) hp0 hI'
    ·have hxb:x∈b :: bs:=by
      have:=List.all_eq_true.1 hch x (List.mem_range.2 hxl)
      simp only [Bool.or_eq_true,List.any_eq_true] at this
      rcases this with (h | h) | ⟨c,hc,h⟩
      ·exact absurd (Qc.1 h) hxV
      ·exact Qc.1 h
      ·exfalso
       obtain⟨oc,hoc,hVc,_⟩:=hbs c hc
       have:=Tz hr hI.closed _ x c o (Nat.le_refl _) hox h3 h
       exact LQ hVc (hI.has c this).1
     obtain⟨o',ho',_,hnone,hgl⟩:=hbs x hxb
     rw [hox] at ho';cases ho'
     exact hI.Xz hr hb hdst hu hox h3 hxl hxV hnone hgl (fun v L' h=>h.1) _ fun a' w' v L' hX hI'=>ihm k _ A _ L' _ a' w' (next hcnt h2) hX.2 hI'

theorem dr {id:Nat}{L:List AJ}(Rs:List Nat)(hmix:P.follows .mixedOrders=true)(hchk:(J2 0 l && fB l Rs && VN n F l && E2 l)=true)
  (h:IJ P n w0 M Q l Rs F l.length [] [] [] L):G P n w0 M (.region id l.toArray true) Q F L:=by
 simp only [Bool.and_eq_true] at hchk
 obtain⟨⟨⟨hb,hr⟩,hdst⟩,hu⟩:=hchk
 intro a w hF hS
 refine wp_region_any hmix ?_
 refine Vl hb hr hdst hu _ l.length [] [] [] L _ a _ ?_ h ⟨by simp,fun x o _ hx=>?_,hF,hS.drew _,fun j hj=>?_,fun j hj=>by simp at hj,fun x hx=>by simp at hx,fun j hj=>by simp at hj⟩
 ·simp
 ·rw [Array.getD_eq_getD_getElem?,Array.getElem?_replicate] at hx;split at hx<;>simp at hx
 ·rw [Array.getD_eq_getD_getElem?,Array.getElem?_replicate] at hj;split at hj<;>simp at hj

theorem WI {id N:Nat}{L:List AJ}(Rs:List Nat)(hmix:P.follows .mixedOrders=true)(hchk:(J2 0 l && fB l Rs && VN n F l && E2 l)=true)(hN:l.length=N)
  (h:IJ P n w0 M Q l Rs F N [] [] [] L):G P n w0 M (.region id l.toArray true) Q F L:=dr Rs hmix hchk (hN ▸ h)
/-! #### steps of a plan -/
section
variable {k i d:Nat} {V A:List Nat} {D:List (Nat × (Nat × Value))} {L:List AJ} {op:Op} {T:TypeId} {pos:String} {Bn:Array Edge} {v:Value} {j t:Nat} {c y b:Bool}
theorem Sw (hV:((List.range l.length).all fun x=>V.elem x)=true)(h:GQ n w0 M Q .normal (Gi D++F) L):IJ P n w0 M Q l Rs F 0 V A D L:=⟨hV,h⟩
def cM (l:List Oper)(V:List Nat)(i:Nat)(Bn:List Edge):Bool:=!(V.elem i) && Bn.all fun e=>!Region.binds .any e || V.elem e.on
theorem OR (i:Nat){o:Oper}{d:Nat}{v:Value}(ho:l[i]?=some o)(hd:o.dst=some d)(hc:cM l V i o.after.toList=true)(hok:E4 P n w0 M Q l.toArray F L o D v)(h:IJ P n w0 M Q l Rs F k (i :: V) (i :: A) ((i,(d,v)) :: D) L)(hlk:Xk F d v:=by first | exact .inl rfl | exact .inr rfl):IJ P n w0 M Q l Rs F (k+1) V A D L:=by
 simp only [cM,Bool.and_eq_true,Bool.not_eq_true'] at hc
 exact .inl ⟨i,o,d,v,ho,hd,hc.1,hc.2,hok,hlk,h⟩
def XO (d:Option Nat)(F:List (Nat × Value)):Bool:=match d with | some d=>(lk d F).isNone | none=>true
theorem Ru {o:Oper}(h:XO o.dst F=true):∀ d,o.dst=some d→lk d F=none:=fun d hd=>by
 rw [hd] at h
 simpa [XO] using h
theorem LI (b:Nat){o:Oper}(ho:l[b]?=some o)(hc:(!(V.elem b) && cG l Rs V [b])=true)
  (h:GL P n w0 M l.toArray (QK (PK n w0 M o fun v L'=>HK P n w0 M Q l Rs F b (J1 b o.dst v D) L' A∧IJ P n w0 M Q l Rs F k (b :: V) A (J1 b o.dst v D) L') Q) [o] (DQ D o.after.toList++F) L) (hn:XO o.dst F=true:=by rfl):IJ P n w0 M Q l Rs F (k+1) V A D L:=by
 simp only [Bool.and_eq_true,Bool.not_eq_true'] at hc
 exact .inr ⟨b,[],hc.2,fun x hx=>by simp at hx;subst hx;exact⟨o,ho,hc.1,Ru hn,h⟩⟩
theorem Et (b b2:Nat){o o2:Oper}(ho:l[b]?=some o)(ho2:l[b2]?=some o2)(hc:(!(V.elem b) && !(V.elem b2) && cG l Rs V [b,b2])=true)
  (h:GL P n w0 M l.toArray (QK (PK n w0 M o fun v L'=>HK P n w0 M Q l Rs F b (J1 b o.dst v D) L' A∧IJ P n w0 M Q l Rs F k (b :: V) A (J1 b o.dst v D) L') Q) [o] (DQ D o.after.toList++F) L)
  (h2:GL P n w0 M l.toArray (QK (PK n w0 M o2 fun v L'=>HK P n w0 M Q l Rs F b2 (J1 b2 o2.dst v D) L' A∧IJ P n w0 M Q l Rs F k (b2 :: V) A (J1 b2 o2.dst v D) L') Q) [o2] (DQ D o2.after.toList++F) L) (hn:XO o.dst F=true:=by rfl) (hn2:XO o2.dst F=true:=by rfl):IJ P n w0 M Q l Rs F (k+1) V A D L:=by
 simp only [Bool.and_eq_true,Bool.not_eq_true'] at hc
 refine .inr ⟨b,[b2],hc.2,fun x hx=>?_⟩
 simp at hx
 rcases hx with rfl | rfl
 ·exact⟨o,ho,hc.1.1,Ru hn,h⟩
 ·exact⟨o2,ho2,hc.1.2,Ru hn2,h2⟩
theorem OQ:HK P n w0 M Q l Rs F i D L []:=trivial
theorem QR (hr:reaches Rs i j=true)(h:HK P n w0 M Q l Rs F i D L A):HK P n w0 M Q l Rs F i D L (j :: A):=⟨.inl hr,h⟩
theorem Sv {o:Oper}{d:Nat}{v v':Value}(ho:l[j]?=some o)(hok:E4 P n w0 M Q l.toArray F L o D v')(hl:NT j D=some (d,v))(e:v'=v)(h:HK P n w0 M Q l Rs F i D L A):HK P n w0 M Q l Rs F i D L (j :: A):=⟨.inr ⟨o,d,v,ho,hl,e ▸ hok⟩,h⟩
theorem RO {o:Oper}{X:Value→List AJ→Prop}{ops:Array Oper}{d:Nat}{v:Value}{F':List (Nat × Value)}{L':List AJ}(hd:o.dst=some d)(h:X v L'):GL P n w0 M ops (QK (PK n w0 M o X) Q) [] ((d,v) :: F') L':=by
 intro a w hF hS
 exact⟨v,L',fun d' hd'=>(by rw [hd] at hd';cases hd';exact hF.get d v (by simp [lk])),hF.defers,hF.size,hS,h⟩
theorem Yf {o:Oper}{X:Value→List AJ→Prop}{ops:Array Oper}{F':List (Nat × Value)}{L':List AJ}(hd:o.dst=none)(h:X undef L'):GL P n w0 M ops (QK (PK n w0 M o X) Q) [] F' L':=by
 intro a w hF hS
 exact⟨undef,L',fun d' hd'=>(by rw [hd] at hd';cases hd'),hF.defers,hF.size,hS,h⟩
theorem bf (h:EX P n w0 M op T (DQ D Bn.toList++F) L v):E4 P n w0 M Q l.toArray F L ⟨some d,op,T,pos,Bn,none⟩ D v:=
 fun a w K hF hS hK=>by simp only [Region.wanted,if_true];exact h a w K Q _ _ _ _ hF hS hK
theorem bd (hw:∀ a,Fr n a (DQ D Bn.toList++F)→∀ b,Region.wanted ⟨some d,op,T,pos,Bn,some (j,b)⟩ (yielded l.toArray a.tmps)=(match b with | true=>c && y | false=>c && !y)){b:Bool}
  (h:c=true→y=b→EX P n w0 M op T (DQ D Bn.toList++F) L v):E4 P n w0 M Q l.toArray F L ⟨some d,op,T,pos,Bn,some (j,b)⟩ D (cv (match b with | true=>c && y | false=>c && !y) v):=fun a w K hF hS hK=>by
 rw [hw a hF b]
 cases c<;>cases y<;>cases b<;>simp [cv] at hK ⊢<;>first | exact h rfl rfl a w K Q _ _ _ _ hF hS hK | exact hK w hS
theorem Ur {F:List (Nat × Value)}{ops:Array Oper}{a:Go.Act}{d:Nat}{op:Op}{T:TypeId}{pos:String}{Bn:Array Edge}{j t:Nat}{y:Bool}(hF:Fr n a F)(hj:(ops[j]?).bind (·.dst)=some t)(hb:lk t F=some (.bool y))(b:Bool):Region.wanted ⟨some d,op,T,pos,Bn,some (j,b)⟩ (yielded ops a.tmps)=(match b with | true=>true && y | false=>true && !y):=by
 simp only [Region.wanted,D1 hF hj hb];cases y<;>cases b<;>rfl
theorem dR (hj:(l.toArray[j]?).bind (·.dst)=some t)(hb:lk t (DQ D Bn.toList++F)=some (.bool y))(h:y=true→EX P n w0 M op T (DQ D Bn.toList++F) L v):E4 P n w0 M Q l.toArray F L ⟨some d,op,T,pos,Bn,some (j,true)⟩ D (cv y v):=by
 have:=bd (P:=P) (w0:=w0) (M:=M) (Q:=Q) (L:=L) (T:=T) (d:=d) (pos:=pos) (op:=op) (v:=v) (c:=true) (y:=y) (b:=true) (fun _ hF b=>Ur hF hj hb b) (fun _=>h)
 simpa using this
theorem dQ (hj:(l.toArray[j]?).bind (·.dst)=some t)(hb:lk t (DQ D Bn.toList++F)=some (.bool y))(h:y=false→EX P n w0 M op T (DQ D Bn.toList++F) L v):E4 P n w0 M Q l.toArray F L ⟨some d,op,T,pos,Bn,some (j,false)⟩ D (cv (!y) v):=by
 have:=bd (P:=P) (w0:=w0) (M:=M) (Q:=Q) (L:=L) (T:=T) (d:=d) (pos:=pos) (op:=op) (v:=v) (c:=true) (y:=y) (b:=false) (fun _ hF b=>Ur hF hj hb b) (fun _=>h)
 simpa using this
theorem Yu (hj:(l.toArray[j]?).bind (·.dst)=some t)(hb:lk t (DQ D Bn.toList++F)=some (cv c (.bool y)))(h:c=true→y=true→EX P n w0 M op T (DQ D Bn.toList++F) L v):E4 P n w0 M Q l.toArray F L ⟨some d,op,T,pos,Bn,some (j,true)⟩ D (cv (c && y) v):=
 bd (b:=true) (fun _ hF b=>RG hF hj hb b) h
theorem Yt (hj:(l.toArray[j]?).bind (·.dst)=some t)(hb:lk t (DQ D Bn.toList++F)=some (cv c (.bool y)))(h:c=true→y=false→EX P n w0 M op T (DQ D Bn.toList++F) L v):E4 P n w0 M Q l.toArray F L ⟨some d,op,T,pos,Bn,some (j,false)⟩ D (cv (c && !y) v):=
 bd (b:=false) (fun _ hF b=>RG hF hj hb b) h
theorem gY (hj:(l.toArray[j]?).bind (·.dst)=some t)(hb:lk t (DQ D Bn.toList++F)=some (.bool b))(h:EX P n w0 M op T (DQ D Bn.toList++F) L v):E4 P n w0 M Q l.toArray F L ⟨some d,op,T,pos,Bn,some (j,b)⟩ D v:=fun a w K hF hS hK=>by
 rw [show Region.wanted ⟨some d,op,T,pos,Bn,some (j,b)⟩ (yielded l.toArray a.tmps)=true by simp [Region.wanted,D1 hF hj hb],if_pos rfl]
 exact h a w K Q _ _ _ _ hF hS hK
theorem Yv (hj:(l.toArray[j]?).bind (·.dst)=some t)(hb:lk t (DQ D Bn.toList++F)=some (.bool c))(hc:(c == b)=false):E4 P n w0 M Q l.toArray F L ⟨some d,op,T,pos,Bn,some (j,b)⟩ D undef:=fun a w K hF hS hK=>by
 rw [show Region.wanted ⟨some d,op,T,pos,Bn,some (j,b)⟩ (yielded l.toArray a.tmps)=false by simp [Region.wanted,D1 hF hj hb];simpa using hc,if_neg (by simp)]
 exact hK w hS
theorem Sj (hj:(l.toArray[j]?).bind (·.dst)=some t)(hb:lk t (DQ D Bn.toList++F)=some undef):E4 P n w0 M Q l.toArray F L ⟨some d,op,T,pos,Bn,some (j,b)⟩ D undef:=fun a w K hF hS hK=>by
 have hy:yielded l.toArray a.tmps j=none:=by
  unfold yielded
  rw [hj]
  simp [hF.get t _ hb]
  rfl
 rw [show Region.wanted ⟨some d,op,T,pos,Bn,some (j,b)⟩ (yielded l.toArray a.tmps)=false by simp [Region.wanted,hy],if_neg (by simp)]
 exact hK w hS
end
end
end Go.Ing
/- Engine, part 13: structs held against one another; parts of strings and slices; bits. -/
namespace Go.Ing
open Go
theorem gy {α:Type}[DecidableEq α][BEq α][LawfulBEq α](x y:α):(x == y)=decide (x=y):=by
 by_cases h:x=y<;>simp [h]
theorem AN {α:Type}{c:Bool}{a b:α}(h:c=true):(if c=true then a else b)=a:=if_pos h
theorem AB {α:Type}{c:Bool}{a b:α}(h:c=false):(if c=true then a else b)=b:=if_neg (by rw [h];decide)
def W6 (P:Program)(k T:Nat){α:Type}[DecidableEq α](val:α→Value):Prop:=∀ d x y w,(Op.equalIn (d+k) T (val x) (val y)).run P w = .ok (decide (x=y)) w
theorem W6.up {P:Program}{k k' T:Nat}{α:Type}[DecidableEq α]{val:α→Value}(h:W6 P k T val)(hk:k≤k'):W6 P k' T val:=fun d x y w=>by
 have:=h (d+(k' - k)) x y w
 rwa [show d+(k' - k)+k=d+k' by omega] at this
theorem bQ {P:Program}{T:Nat}{k:IntKind}(hu:P.underlying T=some (.int k)):W6 P 1 T (fun n:Int=> .int k n):=fun d x y w=>by
 rw [run_equalIn_int w d T k k x y hu,gy]
theorem bR {P:Program}{T:Nat}(hu:P.underlying T=some .string):W6 P 1 T (fun s:AL=>Ae s):=fun d x y w=>by
 rw [run_equalIn_string w d T _ _ hu,ByteArray.toList_mk,ByteArray.toList_mk,gy]
def Y9 (P:Program)(T sz:Nat){β:Type}(eb:β→List Value)(val:β→Value):Prop:=(bL P T sz∧∀ y,val y = .agg (eb y).toArray)∨(S0 P T∧sz=1∧∀ y,eb y = [val y])
theorem Qw {P:Program}{α β:Type}{ea:α→List Value}{eb:β→List Value}{o sz T:Nat}{g:α→β}{s:α→β→α}{val:β→Value}(hT:Y9 P T sz eb val)(hl:Ab ea eb o sz g s)(x:α)(w:World):(part T (ea x).toArray o).run P w = .ok (val (g x)) w:=by
 have hg:=hl.get x
 have hb:=hl.YX x
 rcases hT with ⟨hT,hv⟩ | ⟨hT,hs,hv⟩
 ·have h1:=hT.1 w
  have h2:=hT.2 w
  have hx2:(ea x).toArray.extract o (o+sz)=(eb (g x)).toArray:=by
   rw [← hg];apply Array.ext';simp [List.extract_eq_take_drop]
  simp [part,h1,h2,hv]
  exact hg
 ·have h1:=hT w
  subst hs
  rw [hv,List.drop_eq_getElem_cons (by omega),List.take_succ_cons,List.take_zero] at hg
  have hc:(ea x)[o]?=some (val (g x)):=by
   rw [List.getElem?_eq_getElem (by omega),List.head_eq_of_cons_eq hg]
  simp [part,h1,hc]
inductive W5 (P:Program)(k:Nat){α:Type}(ea:α→List Value):List Field→(α→α→Bool)→Prop where
 | nil:W5 P k ea [] (fun _ _=>true)
 | cons {f : Field} {fs : List Field} {r : α → α → Bool} {β : Type} [DecidableEq β] {eb : β → List Value} {val : β → Value} {k' o sz : Nat} {g : α → β} {s : α → β → α} (hn : f.name ≠ "_") (ho : f.offset = o) (hT : Y9 P f.type sz eb val) (hl : Ab ea eb o sz g s) (he : W6 P k' f.type val) (hk : k' ≤ k) (h : W5 P k ea fs r) :
   W5 P k ea (f :: fs) (fun x y=>decide (g x=g y) && r x y)
theorem W5.run {P:Program}{k:Nat}{α:Type}{ea:α→List Value}{fs:List Field}{r:α→α→Bool}(h:W5 P k ea fs r)(d:Nat)(x y:α)(w:World):(Op.eqFields (d+k) (ea x).toArray (ea y).toArray fs).run P w = .ok (r x y) w:=by
 induction h with
 | nil=>rfl
 | cons hn ho hT hl he hk _ ih=>
  rename_i f fs r β _ eb val k' o sz g s _
  have h1:=Qw hT hl x w
  have h2:=Qw hT hl y w
  have h3:=(he.up hk) d (g x) (g y) w
  rw [← ho] at h1 h2
  simp only [Op.eqFields,ne_eq,hn,not_false_iff,if_true,Sem.run_bind,h1,h2,h3,Result.andThen_ok]
  cases hd:decide (g x=g y) with
  | true=>simpa using ih
  | false=>rfl
theorem Uy {P:Program}{k T:Nat}{α:Type}[DecidableEq α]{ea:α→List Value}{fs:Array Field}{r:α→α→Bool}(hu:P.underlying T=some (.struct fs))(hp:P.stoodInHeld T=false)(h:W5 P k ea fs.toList r)(hr:∀ x y,r x y=decide (x=y)):W6 P (k+1) T (fun x:α=> .agg (ea x).toArray):=fun d x y w=>by
 have hf:P.fieldsOf T=fs:=by simp [Program.fieldsOf,hu]
 rw [show d+(k+1)=(d+k)+1 from rfl,run_equalIn_struct w (d+k) T _ _ (by rw [hf];exact hu) hp,hf,h.run,hr]
section
variable {P:Program} {n:Nat} {w0:World} {M:List Nat} {Q:Exit→Go.Act→World→Prop} {F F':List (Nat × Value)} {L L':List AJ} {ops:Array Oper} {rest:List Oper}
theorem U4 {α:Type}[DecidableEq α]{ea:α→List Value}{k T U V:Nat}{x y:Operand}{X Y:α}(he:W6 P k T (fun x:α=> .agg (ea x).toArray))(hk:k≤10000)(hg:P.eqGuardType P.depth T=false)(hx:ev F x=some (.agg (ea X).toArray))(hy:ev F y=some (.agg (ea Y).toArray)):PS P n w0 M (.binOp .eql T x y V) U F L (.bool (decide (X=Y))) L:=Bl fun a w hF=>by
 have h1:=run_eqGuard_agg w .eql T x y (ea X).toArray (ea Y).toArray hg
 have h2:=run_eql_struct (P:=P) w T (ea X).toArray (ea Y).toArray
 rw [show(10000:Nat)=(10000 - k)+k by omega,he] at h2
 simp [execOp,hF.ev hx,hF.ev hy,h1,h2]
theorem VB {α:Type}[DecidableEq α]{ea:α→List Value}{k T U V:Nat}{x y:Operand}{X Y:α}(he:W6 P k T (fun x:α=> .agg (ea x).toArray))(hk:k≤10000)(hg:P.eqGuardType P.depth T=false)(hx:ev F x=some (.agg (ea X).toArray))(hy:ev F y=some (.agg (ea Y).toArray)):PS P n w0 M (.binOp .neq T x y V) U F L (.bool (!decide (X=Y))) L:=Bl fun a w hF=>by
 have h1:=run_eqGuard_agg w .neq T x y (ea X).toArray (ea Y).toArray hg
 have h2:=run_neq_struct (P:=P) w T (ea X).toArray (ea Y).toArray
 rw [show(10000:Nat)=(10000 - k)+k by omega,he] at h2
 simp [execOp,hF.ev hx,hF.ev hy,h1,h2]

/-! #### bits -/
theorem eN {U V T:TypeId}{x y:Operand}{k k':IntKind}{a b c:Int}(hx:ev F x=some (.int k a))(hy:ev F y=some (.int k' b))(h0:0≤b)(hc:k.wrap (a * 2 ^ min b.toNat k.bits)=c):PS P n w0 M (.binOp .shl U x y V) T F L (.int k c) L:=Bl fun e w hF=>by
 have hn:¬ b < 0:=by omega
 simp [execOp,hF.ev hx,hF.ev hy,eqGuard,binOp,Op.shift,hn,hc]
theorem eK {U V T:TypeId}{x y:Operand}{k:IntKind}{a b c:Int}(hx:ev F x=some (.int k a))(hy:ev F y=some (.int k b))(hc:k.wrap ((BitVec.ofInt k.bits a ||| BitVec.ofInt k.bits b).toNat:Int)=c):PS P n w0 M (.binOp .or U x y V) T F L (.int k c) L:=Bl fun e w hF=>by
 simp [execOp,hF.ev hx,hF.ev hy,eqGuard,binOp,Op.intBits,-BitVec.toNat_or,-BitVec.toNat_and,hc]
theorem Kb {U V T:TypeId}{x y:Operand}{k:IntKind}{a b c:Int}(hx:ev F x=some (.int k a))(hy:ev F y=some (.int k b))(hc:k.wrap ((BitVec.ofInt k.bits a &&& BitVec.ofInt k.bits b).toNat:Int)=c):PS P n w0 M (.binOp .and U x y V) T F L (.int k c) L:=Bl fun e w hF=>by
 simp [execOp,hF.ev hx,hF.ev hy,eqGuard,binOp,Op.intBits,-BitVec.toNat_or,-BitVec.toNat_and,hc]
theorem Z9 {a b:Nat}(ha:a < 256)(hb:b < 256):IntKind.i64.wrap ((BitVec.ofInt 64 ((a:Int) * 256) ||| BitVec.ofInt 64 (b:Int)).toNat:Int)=(a:Int) * 256+b:=by
 have e:(BitVec.ofInt 64 ((a:Int) * 256) ||| BitVec.ofInt 64 (b:Int)).toNat=a * 256+b:=by
  rw [BitVec.toNat_or,show((a:Int) * 256)=((a * 256:Nat):Int) by simp,BitVec.ofInt_natCast,BitVec.ofInt_natCast,BitVec.toNat_ofNat,BitVec.toNat_ofNat,Nat.mod_eq_of_lt (by omega),Nat.mod_eq_of_lt (by omega)]
  have:=Nat.shiftLeft_add_eq_or_of_lt (i:=8) (b:=b) (by omega) a
  rw [Nat.shiftLeft_eq] at this
  exact this.symm
 rw [e]
 exact IntWalk.i64_in _ (by omega)
theorem eO {U V T:TypeId}{x:Operand}{c:UInt8}(hu:P.underlying V=some (.int .i64))(hU:P.underlying U=some (.int .u8))(hx:ev F x=some (.int .u8 (c.toNat:Int))):PS P n w0 M (.convert U V x) T F L (.int .i64 (c.toNat:Int)) L:=
 Sr hu hU hx (IntWalk.i64_in _ (by have:=c.toNat_lt;omega))
theorem bn {U V T:TypeId}{x y:Operand}{k':IntKind}{c:UInt8}(hx:ev F x=some (.int .i64 (c.toNat:Int)))(hy:ev F y=some (.int k' 8)):PS P n w0 M (.binOp .shl U x y V) T F L (.int .i64 ((c.toNat:Int) * 256)) L:=
 eN hx hy (by decide) (IntWalk.i64_in ((c.toNat:Int) * 256) (by have:=c.toNat_lt;omega))
theorem eJ {U V T:TypeId}{x y:Operand}{c d:UInt8}(hx:ev F x=some (.int .i64 ((c.toNat:Int) * 256)))(hy:ev F y=some (.int .i64 (d.toNat:Int))):PS P n w0 M (.binOp .or U x y V) T F L (.int .i64 ((c.toNat:Int) * 256+(d.toNat:Int))) L:=
 eK hx hy (Z9 c.toNat_lt d.toNat_lt)

/-! #### parts of strings and slices -/
theorem extract_mk (s:AL)(l h:Nat):(ByteArray.mk s.toArray).extract l h=ByteArray.mk ((s.take h).drop l).toArray:=by
 apply ByteArray.ext
 rw [ByteArray.data_extract]
 apply Array.ext'
 simp [List.extract_eq_take_drop,List.drop_take]
theorem bo {T U:TypeId}{x y z:Operand}{s:AL}{k k':IntKind}{a b:Int}(hu:P.underlying T=some .string)(hx:ev F x=some (Ae s))(hy:ev F y=some (.int k a))(hz:ev F z=some (.int k' b))(h0:0≤a)(h1:a≤b)(h2:b≤s.length):PS P n w0 M (.slice T x (some y) (some z) none) U F L (Ae ((s.take b.toNat).drop a.toNat)) L:=Bl fun e w hF=>by
 have hb:0≤b:=by omega
 have hab:a≤(b.toNat:Int):=by omega
 have hb':b≤((ByteArray.mk s.toArray).size:Int):=h2
 simp only [execOp,hF.ev hx,Option.map_some,Option.map_none,hF.ev hy,hF.ev hz,Instr.sliceAt,Instr.slice,underlying]
 simp [hu,Instr.sliceBounds,Instr.sliceBound,asIntOf,hb,hb',h0,hab,extract_mk]
 intro h;omega
theorem Y6 {T U:TypeId}{x y:Operand}{s:AL}{k:IntKind}{a:Int}(hu:P.underlying T=some .string)(hx:ev F x=some (Ae s))(hy:ev F y=some (.int k a))(h0:0≤a)(h1:a≤s.length):PS P n w0 M (.slice T x (some y) none none) U F L (Ae (s.drop a.toNat)) L:=Bl fun e w hF=>by
 have hb':a≤((ByteArray.mk s.toArray).size:Int):=h1
 simp only [execOp,hF.ev hx,Option.map_some,Option.map_none,hF.ev hy,Instr.sliceAt,Instr.slice,underlying]
 simp [hu,Instr.sliceBounds,Instr.sliceBound,asIntOf,hb',h0,extract_mk,List.drop_take]
 congr 2
 rw [MW,← List.drop_take]
 simp
theorem Y5 {T U:TypeId}{x z:Operand}{s:AL}{k:IntKind}{b:Int}(hu:P.underlying T=some .string)(hx:ev F x=some (Ae s))(hz:ev F z=some (.int k b))(h0:0≤b)(h1:b≤s.length):PS P n w0 M (.slice T x none (some z) none) U F L (Ae (s.take b.toNat)) L:=Bl fun e w hF=>by
 have hb':b≤((ByteArray.mk s.toArray).size:Int):=h1
 simp only [execOp,hF.ev hx,Option.map_some,Option.map_none,hF.ev hz,Instr.sliceAt,Instr.slice,underlying]
 simp [hu,Instr.sliceBounds,Instr.sliceBound,asIntOf,hb',h0,extract_mk]
def Hd.cut (h:Hd)(l r sz:Nat):Hd:=⟨if h.cap=l then h.a else h.a.map (·.add (l * sz)),r - l,h.cap - l⟩
theorem Rd.cut {w:World}{h:Hd}{T sz:Nat}{cs:List Value}(hr:Rd w h T sz cs){l r:Nat}(h1:l≤r)(h2:r≤h.len)(h3:h.len≤h.cap):Rd w (h.cut l r sz) T sz ((cs.take (r * sz)).drop (l * sz)):=by
 have hlen:((cs.take (r * sz)).drop (l * sz)).length=(r - l) * sz:=by
  rw [List.length_drop,List.length_take,Nat.min_eq_left (by rw [← hr.1];exact Nat.mul_le_mul_right sz h2),Nat.sub_mul]
 refine⟨by simp only [Hd.cut];exact hlen.symm,fun hne=>?_⟩
 have hpos:0 < (r - l) * sz:=by
  rw [← hlen];exact List.length_pos_iff.2 hne
 have hrl:0 < r - l:=Nat.pos_of_mul_pos_right hpos
 have hcs:cs≠ []:=fun e=>by subst e;simp at hne
 obtain⟨b,o,C,fz,e1,e2,e3,e4,e5⟩:=hr.2 hcs
 have hm1:r * sz≤h.len * sz:=Nat.mul_le_mul_right sz h2
 have hm2:l * sz≤r * sz:=Nat.mul_le_mul_right sz h1
 rw [hr.1] at hm1
 refine⟨b,o+l * sz,C,fz,?_,e2,e3,?_,?_⟩
 ·simp only [Hd.cut]
  rw [if_neg (by omega),e1]
  simp [ED]
 ·rw [hlen,Nat.sub_mul];omega
 ·rw [hlen,← e5,Nat.sub_mul,List.take_take,Nat.min_eq_left hm1,List.drop_take,List.drop_drop]
theorem L6 {α:Type}{e:α→List Value}{sz:Nat}(fe:Flat e sz)(xs:List α){l r:Nat}:((xs.flatMap e).take (r * sz)).drop (l * sz)=((xs.take r).drop l).flatMap e:=by
 have ht:∀(xs:List α) (r:Nat),(xs.flatMap e).take (r * sz)=(xs.take r).flatMap e:=by
  intro xs
  induction xs with
  | nil=>simp
  | cons x xs ih=>
   intro r
   cases r with
   | zero=>simp
   | succ r=>rw [List.flatMap_cons,List.take_succ_cons,List.flatMap_cons,List.take_append,fe.len,Nat.add_mul,Nat.one_mul,Nat.add_sub_cancel,ih,List.take_of_length_le (by rw [fe.len];omega)]
 have hd:∀(xs:List α) (l:Nat),(xs.flatMap e).drop (l * sz)=(xs.drop l).flatMap e:=by
  intro xs
  induction xs with
  | nil=>simp
  | cons x xs ih=>
   intro l
   cases l with
   | zero=>simp
   | succ l=>rw [List.flatMap_cons,List.drop_succ_cons,← ih,List.drop_append,fe.len,Nat.add_mul,Nat.one_mul,Nat.add_sub_cancel,List.drop_eq_nil_of_le (by rw [fe.len];omega),List.nil_append]
 rw [ht,hd]
theorem OO {T U E sz:TypeId}{x y:Operand}{h:Hd}{k:IntKind}{a:Int}(hu:P.underlying T=some (.slice E))(hs:Sz P E sz)(hx:ev F x=some h.val)(hy:ev F y=some (.int k a))(h0:0≤a)(h1:a≤(h.len:Int)):PS P n w0 M (.slice T x (some y) none none) U F L (h.cut a.toNat h.len sz).val L:=Bl fun e w hF=>by
 have hs':=hs w
 simp only [execOp,hF.ev hx,Option.map_some,Option.map_none,hF.ev hy,Hd.val,Instr.sliceAt,Instr.slice,underlying]
 simp [hu,Instr.sliceBounds,Instr.sliceBound,asIntOf,h1,h0,hs',Hd.cut]
def U1 (w0:World)(M:List Nat)(L:List AJ)(h:Hd):Prop:=∀ w,St w0 M w L→h.len≤h.cap
theorem U1.of {h:Hd}(hc:h.len≤h.cap):U1 w0 M L h:=fun _ _=>hc
theorem U1.own {h:Hd}{T sz:Nat}{cs:List Value}(hm:AJ.own h T sz cs∈L):U1 w0 M L h:=fun w hS=>by
 rcases hS.ok _ hm with ⟨rfl,_⟩ | ⟨b,o,C,fz,h1,h2,h3,h4,h5,h6,_⟩
 ·exact Nat.le_refl _
 ·exact h6
theorem Kn.cut {α:Type}{e:α→List Value}{T sz:Nat}{h:Hd}{xs:List α}(fe:Flat e sz)(hk:Kn w0 M L h T sz (xs.flatMap e)){l r:Nat}(h1:l≤r)(h2:r≤h.len)(h3:U1 w0 M L h):Kn w0 M L (h.cut l r sz) T sz (((xs.take r).drop l).flatMap e):=fun w hS=>by
 rw [← L6 fe];exact(hk w hS).cut h1 h2 (h3 w hS)
theorem U6 {U V T E:TypeId}{x:Operand}{h:Hd}(hu:P.underlying U=some (.slice E))(hx:ev F x=some h.val):PS P n w0 M (.binOp .eql U x (.const (.slice none 0 0)) V) T F L (.bool h.a.isNone) L:=Bl fun e w hF=>by
 have h1:=run_equalIn_slice_nil (P:=P) w 9999 U E h.a h.len h.cap hu
 have h3:ev F (.const (.slice none 0 0))=some (.slice none 0 0):=rfl
 have h2:(binOp .eql U h.val (.slice none 0 0)).run P w = .ok (.bool h.a.isNone) w:=by
  simp only [binOp,Hd.val]
  simp [Op.equal,Op.maxDepth,h1]
 simp [execOp,hF.ev hx,hF.ev h3,eqGuard,Hd.val] at h2 ⊢
 rw [h2];rfl

/-! #### pieces -/
theorem W9 {l:List Oper}(T sz:Nat)(h:GL P n w0 M ops Q l F (AJ.own ⟨none,0,0⟩ T sz [] :: L)):GL P n w0 M ops Q l F L:=fun a w hF hS=>h a w hF (hS.BX T sz)
theorem Yo {c:Code}(T sz:Nat)(h:G P n w0 M c Q F (AJ.own ⟨none,0,0⟩ T sz [] :: L)):G P n w0 M c Q F L:=fun a w hF hS=>h a w hF (hS.BX T sz)
theorem As {e:Exit}{A K:List AJ}(hp:AK L A K)(h:GQ n w0 M Q e F (A++K)):GQ n w0 M Q e F L:=fun a w hF hS=>h a w hF (hS.perm hp.perm)
theorem B6 {c:Code}{A K:List AJ}(hp:AK L A K)(h:G P n w0 M c Q F (A++K)):G P n w0 M c Q F L:=fun a w hF hS=>h a w hF (hS.perm hp.perm)
theorem Ax {e:Exit}{A K:List AJ}(h:GQ n w0 M Q e F A):GQ n w0 M Q e F (A++K):=fun a w hF hS=>h a w hF hS.AM
theorem Hd.WK:Hd.Z ⟨none,0,0⟩:=⟨fun _ h=>(by cases h),fun h=>absurd rfl h⟩
theorem eE {T U E i:Nat}{h:Hd}{x:Operand}{xs:AL}(hx:ev F x=some (h.ptr i 1 0))(hT:S0 P T)(hk:Kn w0 M L h E 1 (xs.flatMap CH))(hi:i < xs.length):PS P n w0 M (.load T x) U F L (.int .u8 ((xs.getD i 0).toNat:Int)) L:=by
 have e:xs.getD i 0=xs[i]:=by simp [List.getD,hi]
 rw [e]
 exact RV hx hT Rv (Ab.id Rv.len Rv.one) hk hi rfl

/-! #### calls that read what they are handed -/
def Cw (P:Program)(f:FuncId)(args:Array Value)(A:List AJ)(H:World→Prop)(Post:Value→List AJ→Prop):Prop:=
 ∀ w,St w (BP A) w A→H w→Ck P f args w fun v w'=>∃ B,Post v B∧St w (BP A) w' B
theorem Rd.HQ {w:World}{h:Hd}{T sz:Nat}{α:Type}{e:α→List Value}{xs:List α}(fe:Flat e sz)(hsz:0 < sz)(hr:Rd w h T sz (xs.flatMap e)):h.len=xs.length:=by
 have h1:=hr.1
 rw [CX fe.len] at h1
 exact Nat.eq_of_mul_eq_mul_right hsz h1

/-! #### slices of the call's own, by what they mean -/
theorem Qf {α:Type}{e:α→List Value}{sz:Nat}(fe:Flat e sz)(xs:List α)(r:Nat):(xs.flatMap e).take (r * sz)=(xs.take r).flatMap e:=by
 have:=L6 fe xs (l:=0) (r:=r)
 simpa using this
theorem QP {α:Type}{e:α→List Value}{d T U E sz:Nat}{x y:Operand}{pos:String}{Bn:Array Edge}{h:Hd}{xs:List α}{kd:IntKind}{i:Int}{Lf:AJ→List AJ}(fe:Flat e sz)(hd:Nat.blt d n=true)(hT:P.underlying T=some (.slice E))(hs:Sz P E sz)(hx:ev F x=some h.val)(hy:ev F y=some (.int kd i))(h0:0≤i)(h1:i≤(h.len:Int))(hU:∀ r,Ig L (AJ.own h E sz (xs.flatMap e)) r (Lf r))
  (k:GL P n w0 M ops Q rest ((d,Hd.val ⟨h.a,i.toNat,h.cap⟩) :: F) (Lf (AJ.own ⟨h.a,i.toNat,h.cap⟩ E sz ((xs.take i.toNat).flatMap e)))):GL P n w0 M ops Q (⟨some d, .slice T x none (some y) none,U,pos,Bn,none⟩ :: rest) F L:=
 Yc hd hT hs hx hy h0 h1 hU (by rw [Qf fe];exact k)
theorem Fo {α:Type}{e:α→List Value}{d T U U2 E sz Gf gl:Nat}{x y:Operand}{pos:String}{Bn:Array Edge}{h:Hd}{xs zs:List α}{z yv:Value}{Lf:AJ→List AJ}(fe:Flat e sz)(hd:Nat.blt d n=true)(hu:P.underlying U=some (.slice E))(hs:Sz P E sz)(hz:ZV P E z)(hzs:z.cells.size=sz)(hby:BY P E Gf)(hb0:0 < Gf)(hsz:0 < sz)
  (hx:ev F x=some h.val) (hy:ev F y=some yv) (hk:∀ w,St w0 M w L→Src P w U2 sz yv gl (zs.flatMap e)) (hbd:(2 * (h.len+gl)+192) * Gf≤281474976710656) (hU:∀ r,Ig L (AJ.own h E sz (xs.flatMap e)) r (Lf r))
  (k:∀ h':Hd,h'.len=h.len+gl→(h.Z→h'.Z)→GL P n w0 M ops Q rest ((d,h'.val) :: F) (Lf (AJ.own h' E sz ((xs++zs).flatMap e)))):GL P n w0 M ops Q (⟨some d, .call ⟨.builtin .append,#[x,y],#[U,U2]⟩,T,pos,Bn,none⟩ :: rest) F L:=
 OE hd hu hs hz hzs hby hb0 hsz hx hy hk fe.eV hbd hU (fun h' a b=>by rw [← List.flatMap_append];exact k h' a b)
theorem KX {α:Type}(e:α→List Value){a:α}{d T U E sz:Nat}{x:Operand}{pos:String}{Bn:Array Edge}{v z:Value}(fe:Flat e sz)(hd:Nat.blt d n=true)(hu:P.underlying T=some (.slice E))(hs:Sz P E sz)(hz:ZV P E z)(hzs:z.cells.size=sz)(hsz:0 < sz)(hbig:sz≤16777216)(hx:ev F x=some v)(hv:v.cells=(e a).toArray)
  (k:∀ b,GL P n w0 M ops Q rest ((d,Hd.val ⟨some ⟨b,0,none⟩,1,1⟩) :: F) (AJ.own ⟨some ⟨b,0,none⟩,1,1⟩ E sz ([a].flatMap e) :: L)):GL P n w0 M ops Q (⟨some d, .buildSlice T 1 #[(0,x)],U,pos,Bn,none⟩ :: rest) F L:=
 Mg hd hu hs hz hzs hsz hbig hx hv (fe.len a) (fun b=>by
  have:=k b
  rwa [show [a].flatMap e=e a by simp] at this)
theorem bS {α:Type}(e:α→List Value){d T U E sz:Nat}{pos:String}{Bn:Array Edge}(hd:Nat.blt d n=true)(hu:P.underlying T=some (.slice E))(hs:Sz P E sz)
  (k:∀ b,GL P n w0 M ops Q rest ((d,Hd.val ⟨some ⟨b,0,none⟩,0,0⟩) :: F) (AJ.own ⟨some ⟨b,0,none⟩,0,0⟩ E sz (([]:List α).flatMap e) :: L)):GL P n w0 M ops Q (⟨some d, .buildSlice T 0 #[],U,pos,Bn,none⟩ :: rest) F L:=by
 refine E3 (R:=fun v L'=>∃ b,v=Hd.val ⟨some ⟨b,0,none⟩,0,0⟩∧L'=AJ.own ⟨some ⟨b,0,none⟩,0,0⟩ E sz (([]:List α).flatMap e) :: L) hd ?_ (fun v L' ⟨b,e1,e2⟩=>by subst e1;subst e2;exact k b)
 intro a w hF hS
 have hw1:=hS.alloc E []
 have hS':St w0 M (w.alloc (.cells (List.toArray []) E)) (AJ.own ⟨some ⟨w.heap.size,0,none⟩,0,0⟩ E sz (([]:List α).flatMap e) :: L):=by
  refine hw1.Dz (.head) rfl rfl rfl (Nat.le_refl _) (fun _ _ _=>rfl) ?_ (fun b hb=>?_)
  ·exact .inr ⟨w.heap.size,0,[],(0,0),rfl,by simp,hw1.ok _ (List.mem_cons_self ..),fun _ _ h=>by simp at h,by simp,Nat.le_refl _,by simp,by simp⟩
  ·simp [AJ.own] at hb
   subst hb
   exact⟨by simp, .inl (by simp [AJ.box])⟩
 refine⟨_,_,w.alloc (.cells (List.toArray []) E),⟨w.heap.size,rfl,rfl⟩,?_,hS'⟩
 simp only [execOp,Instr.buildSlice,underlying,Sem.run_bind,run_program,hu,Result.andThen_ok,Sem.run_pure,hs w]
 simp [Instr.fill,newRow,Hd.val]
 congr 2
 apply Array.ext';simp
theorem Lw {α:Type}{l:List Oper}(e:α→List Value)(T sz:Nat)(h:GL P n w0 M ops Q l F (AJ.own ⟨none,0,0⟩ T sz (([]:List α).flatMap e) :: L)):GL P n w0 M ops Q l F L:=W9 T sz h
theorem CA {α:Type}{c:Code}(e:α→List Value)(T sz:Nat)(h:G P n w0 M c Q F (AJ.own ⟨none,0,0⟩ T sz (([]:List α).flatMap e) :: L)):G P n w0 M c Q F L:=Yo T sz h
theorem WE {α:Type}{x:Exit}(e:α→List Value)(T sz:Nat)(h:GQ n w0 M Q x F (AJ.own ⟨none,0,0⟩ T sz (([]:List α).flatMap e) :: L)):GQ n w0 M Q x F L:=fun a w hF hS=>h a w hF (hS.BX T sz)
end
end Go.Ing
/- Engine: loops and ways that meet, over a state of several parts. -/
namespace Go.Ing
open Go
section
variable {P:Program} {n:Nat} {w0:World} {M:List Nat} {Q:Exit→Go.Act→World→Prop} {F:List (Nat × Value)} {L:List AJ}
def gP (n:Nat)(w0:World)(M:List Nat){α0:Type}(I:α0→Prop)(μ:α0→Nat)(Fs:α0→List (Nat × Value))(Ls:α0→List AJ)(U:List (Nat × Value))(K:List AJ)(m:Nat)(a:Go.Act)(w:World):Prop:=Ys (σ:=α0) n w0 M (fun z=>I z) (fun z=>μ z) (fun z=>Fs z++U) (fun z=>Ls z++K) m a w
theorem A8 {α0:Type}{c:Code}{U:List (Nat × Value)}{K:List AJ}(I:α0→Prop)(μ:α0→Nat)(Ms:α0→List (Nat × Value))(Ls:α0→List AJ)(a0:α0)(h0:I a0)(hF0:F=Ms a0++U)(hL0:L=Ls a0++K)
  (round:∀(a0:α0),I a0→G P n w0 M c (Exit.then (gP n w0 M I μ Ms Ls U K (μ a0)) Q) (Ms a0++U) (Ls a0++K)):G P n w0 M (.loop c) Q F L:=
 JD (σ:=α0) (fun z=>I z) (fun z=>μ z) (fun z=>Ms z++U) (fun z=>Ls z++K) a0 h0 (by rw [hF0];exact Sub.refl _) (by rw [hL0];exact List.Sublist.refl _) (fun z h=>round z h)
theorem Az {α0:Type}{I:α0→Prop}{μ:α0→Nat}{Ms:α0→List (Nat × Value)}{Ls:α0→List AJ}{U:List (Nat × Value)}{K:List AJ}{m:Nat}(a0:α0)(hI:I a0)(hm:μ a0 < m)(hF:Sub F (Ms a0++U))(hL:(Ls a0++K).Sublist L):GQ n w0 M (Exit.then (gP n w0 M I μ Ms Ls U K m) Q) .normal F L:=
 G7 (σ:=α0) a0 hI hm hF hL
def jd (n:Nat)(w0:World)(M:List Nat){α0:Type}(I:α0→Prop)(Fs:α0→List (Nat × Value))(Ls:α0→List AJ)(U:List (Nat × Value))(K:List AJ)(a:Go.Act)(w:World):Prop:=At (σ:=α0) n w0 M (fun z=>I z) (fun z=>Fs z++U) (fun z=>Ls z++K) a w
theorem WH {α0:Type}{x y:Code}{U:List (Nat × Value)}{Lm K:List AJ}(I:α0→Prop)(Ms:α0→List (Nat × Value))(Ls:α0→List AJ)(_hU:Sub F U)(_hK:L=Lm++K)
  (hx:G P n w0 M x (Exit.then (jd n w0 M I Ms Ls U K) Q) F L) (hy:∀(a0:α0),I a0→G P n w0 M y Q (Ms a0++U) (Ls a0++K)):G P n w0 M (.seq x y) Q F L:=
 WG (σ:=α0) (fun z=>I z) (fun z=>Ms z++U) (fun z=>Ls z++K) hx (fun z h=>hy z h)
theorem G6 {α0:Type}{I:α0→Prop}{Ms:α0→List (Nat × Value)}{Ls:α0→List AJ}{U:List (Nat × Value)}{K:List AJ}(a0:α0)(hI:I a0)(hF:Sub F (Ms a0++U))(hL:(Ls a0++K).Sublist L):GQ n w0 M (Exit.then (jd n w0 M I Ms Ls U K) Q) .normal F L:=
 WD (σ:=α0) a0 hI hF hL
def gQ (n:Nat)(w0:World)(M:List Nat){α0 α1:Type}(I:α0→α1→Prop)(μ:α0→α1→Nat)(Fs:α0→α1→List (Nat × Value))(Ls:α0→α1→List AJ)(U:List (Nat × Value))(K:List AJ)(m:Nat)(a:Go.Act)(w:World):Prop:=Ys (σ:=α0 × α1) n w0 M (fun z=>I z.1 z.2) (fun z=>μ z.1 z.2) (fun z=>Fs z.1 z.2++U) (fun z=>Ls z.1 z.2++K) m a w
theorem Ca {α0 α1:Type}{c:Code}{U:List (Nat × Value)}{K:List AJ}(I:α0→α1→Prop)(μ:α0→α1→Nat)(Ms:α0→α1→List (Nat × Value))(Ls:α0→α1→List AJ)(a0:α0)(a1:α1)(h0:I a0 a1)(hF0:F=Ms a0 a1++U)(hL0:L=Ls a0 a1++K)
  (round:∀(a0:α0) (a1:α1),I a0 a1→G P n w0 M c (Exit.then (gQ n w0 M I μ Ms Ls U K (μ a0 a1)) Q) (Ms a0 a1++U) (Ls a0 a1++K)):G P n w0 M (.loop c) Q F L:=
 JD (σ:=α0 × α1) (fun z=>I z.1 z.2) (fun z=>μ z.1 z.2) (fun z=>Ms z.1 z.2++U) (fun z=>Ls z.1 z.2++K) (a0,a1) h0 (by rw [hF0];exact Sub.refl _) (by rw [hL0];exact List.Sublist.refl _) (fun z h=>round z.1 z.2 h)
theorem BA {α0 α1:Type}{I:α0→α1→Prop}{μ:α0→α1→Nat}{Ms:α0→α1→List (Nat × Value)}{Ls:α0→α1→List AJ}{U:List (Nat × Value)}{K:List AJ}{m:Nat}(a0:α0)(a1:α1)(hI:I a0 a1)(hm:μ a0 a1 < m)(hF:Sub F (Ms a0 a1++U))(hL:(Ls a0 a1++K).Sublist L):GQ n w0 M (Exit.then (gQ n w0 M I μ Ms Ls U K m) Q) .normal F L:=
 G7 (σ:=α0 × α1) (a0,a1) hI hm hF hL
def je (n:Nat)(w0:World)(M:List Nat){α0 α1:Type}(I:α0→α1→Prop)(Fs:α0→α1→List (Nat × Value))(Ls:α0→α1→List AJ)(U:List (Nat × Value))(K:List AJ)(a:Go.Act)(w:World):Prop:=At (σ:=α0 × α1) n w0 M (fun z=>I z.1 z.2) (fun z=>Fs z.1 z.2++U) (fun z=>Ls z.1 z.2++K) a w
theorem Ka {α0 α1:Type}{x y:Code}{U:List (Nat × Value)}{Lm K:List AJ}(I:α0→α1→Prop)(Ms:α0→α1→List (Nat × Value))(Ls:α0→α1→List AJ)(_hU:Sub F U)(_hK:L=Lm++K)
  (hx:G P n w0 M x (Exit.then (je n w0 M I Ms Ls U K) Q) F L) (hy:∀(a0:α0) (a1:α1),I a0 a1→G P n w0 M y Q (Ms a0 a1++U) (Ls a0 a1++K)):G P n w0 M (.seq x y) Q F L:=
 WG (σ:=α0 × α1) (fun z=>I z.1 z.2) (fun z=>Ms z.1 z.2++U) (fun z=>Ls z.1 z.2++K) hx (fun z h=>hy z.1 z.2 h)
theorem Bx {α0 α1:Type}{I:α0→α1→Prop}{Ms:α0→α1→List (Nat × Value)}{Ls:α0→α1→List AJ}{U:List (Nat × Value)}{K:List AJ}(a0:α0)(a1:α1)(hI:I a0 a1)(hF:Sub F (Ms a0 a1++U))(hL:(Ls a0 a1++K).Sublist L):GQ n w0 M (Exit.then (je n w0 M I Ms Ls U K) Q) .normal F L:=
 WD (σ:=α0 × α1) (a0,a1) hI hF hL
def gR (n:Nat)(w0:World)(M:List Nat){α0 α1 α2:Type}(I:α0→α1→α2→Prop)(μ:α0→α1→α2→Nat)(Fs:α0→α1→α2→List (Nat × Value))(Ls:α0→α1→α2→List AJ)(U:List (Nat × Value))(K:List AJ)(m:Nat)(a:Go.Act)(w:World):Prop:=Ys (σ:=α0 × α1 × α2) n w0 M (fun z=>I z.1 z.2.1 z.2.2) (fun z=>μ z.1 z.2.1 z.2.2) (fun z=>Fs z.1 z.2.1 z.2.2++U) (fun z=>Ls z.1 z.2.1 z.2.2++K) m a w
theorem Bq {α0 α1 α2:Type}{c:Code}{U:List (Nat × Value)}{K:List AJ}(I:α0→α1→α2→Prop)(μ:α0→α1→α2→Nat)(Ms:α0→α1→α2→List (Nat × Value))(Ls:α0→α1→α2→List AJ)(a0:α0)(a1:α1)(a2:α2)(h0:I a0 a1 a2)(hF0:F=Ms a0 a1 a2++U)(hL0:L=Ls a0 a1 a2++K)
  (round:∀(a0:α0) (a1:α1) (a2:α2),I a0 a1 a2→G P n w0 M c (Exit.then (gR n w0 M I μ Ms Ls U K (μ a0 a1 a2)) Q) (Ms a0 a1 a2++U) (Ls a0 a1 a2++K)):G P n w0 M (.loop c) Q F L:=
 JD (σ:=α0 × α1 × α2) (fun z=>I z.1 z.2.1 z.2.2) (fun z=>μ z.1 z.2.1 z.2.2) (fun z=>Ms z.1 z.2.1 z.2.2++U) (fun z=>Ls z.1 z.2.1 z.2.2++K) (a0,a1,a2) h0 (by rw [hF0];exact Sub.refl _) (by rw [hL0];exact List.Sublist.refl _) (fun z h=>round z.1 z.2.1 z.2.2 h)
theorem Ap {α0 α1 α2:Type}{I:α0→α1→α2→Prop}{μ:α0→α1→α2→Nat}{Ms:α0→α1→α2→List (Nat × Value)}{Ls:α0→α1→α2→List AJ}{U:List (Nat × Value)}{K:List AJ}{m:Nat}(a0:α0)(a1:α1)(a2:α2)(hI:I a0 a1 a2)(hm:μ a0 a1 a2 < m)(hF:Sub F (Ms a0 a1 a2++U))(hL:(Ls a0 a1 a2++K).Sublist L):GQ n w0 M (Exit.then (gR n w0 M I μ Ms Ls U K m) Q) .normal F L:=
 G7 (σ:=α0 × α1 × α2) (a0,a1,a2) hI hm hF hL
def jf (n:Nat)(w0:World)(M:List Nat){α0 α1 α2:Type}(I:α0→α1→α2→Prop)(Fs:α0→α1→α2→List (Nat × Value))(Ls:α0→α1→α2→List AJ)(U:List (Nat × Value))(K:List AJ)(a:Go.Act)(w:World):Prop:=At (σ:=α0 × α1 × α2) n w0 M (fun z=>I z.1 z.2.1 z.2.2) (fun z=>Fs z.1 z.2.1 z.2.2++U) (fun z=>Ls z.1 z.2.1 z.2.2++K) a w
theorem Ns {α0 α1 α2:Type}{x y:Code}{U:List (Nat × Value)}{Lm K:List AJ}(I:α0→α1→α2→Prop)(Ms:α0→α1→α2→List (Nat × Value))(Ls:α0→α1→α2→List AJ)(_hU:Sub F U)(_hK:L=Lm++K)
  (hx:G P n w0 M x (Exit.then (jf n w0 M I Ms Ls U K) Q) F L) (hy:∀(a0:α0) (a1:α1) (a2:α2),I a0 a1 a2→G P n w0 M y Q (Ms a0 a1 a2++U) (Ls a0 a1 a2++K)):G P n w0 M (.seq x y) Q F L:=
 WG (σ:=α0 × α1 × α2) (fun z=>I z.1 z.2.1 z.2.2) (fun z=>Ms z.1 z.2.1 z.2.2++U) (fun z=>Ls z.1 z.2.1 z.2.2++K) hx (fun z h=>hy z.1 z.2.1 z.2.2 h)
theorem Ez {α0 α1 α2:Type}{I:α0→α1→α2→Prop}{Ms:α0→α1→α2→List (Nat × Value)}{Ls:α0→α1→α2→List AJ}{U:List (Nat × Value)}{K:List AJ}(a0:α0)(a1:α1)(a2:α2)(hI:I a0 a1 a2)(hF:Sub F (Ms a0 a1 a2++U))(hL:(Ls a0 a1 a2++K).Sublist L):GQ n w0 M (Exit.then (jf n w0 M I Ms Ls U K) Q) .normal F L:=
 WD (σ:=α0 × α1 × α2) (a0,a1,a2) hI hF hL
def gS (n:Nat)(w0:World)(M:List Nat){α0 α1 α2 α3:Type}(I:α0→α1→α2→α3→Prop)(μ:α0→α1→α2→α3→Nat)(Fs:α0→α1→α2→α3→List (Nat × Value))(Ls:α0→α1→α2→α3→List AJ)(U:List (Nat × Value))(K:List AJ)(m:Nat)(a:Go.Act)(w:World):Prop:=Ys (σ:=α0 × α1 × α2 × α3) n w0 M (fun z=>I z.1 z.2.1 z.2.2.1 z.2.2.2) (fun z=>μ z.1 z.2.1 z.2.2.1 z.2.2.2) (fun z=>Fs z.1 z.2.1 z.2.2.1 z.2.2.2++U) (fun z=>Ls z.1 z.2.1 z.2.2.1 z.2.2.2++K) m a w
theorem Dd {α0 α1 α2 α3:Type}{c:Code}{U:List (Nat × Value)}{K:List AJ}(I:α0→α1→α2→α3→Prop)(μ:α0→α1→α2→α3→Nat)(Ms:α0→α1→α2→α3→List (Nat × Value))(Ls:α0→α1→α2→α3→List AJ)(a0:α0)(a1:α1)(a2:α2)(a3:α3)(h0:I a0 a1 a2 a3)(hF0:F=Ms a0 a1 a2 a3++U)(hL0:L=Ls a0 a1 a2 a3++K)
  (round:∀(a0:α0) (a1:α1) (a2:α2) (a3:α3),I a0 a1 a2 a3→G P n w0 M c (Exit.then (gS n w0 M I μ Ms Ls U K (μ a0 a1 a2 a3)) Q) (Ms a0 a1 a2 a3++U) (Ls a0 a1 a2 a3++K)):G P n w0 M (.loop c) Q F L:=
 JD (σ:=α0 × α1 × α2 × α3) (fun z=>I z.1 z.2.1 z.2.2.1 z.2.2.2) (fun z=>μ z.1 z.2.1 z.2.2.1 z.2.2.2) (fun z=>Ms z.1 z.2.1 z.2.2.1 z.2.2.2++U) (fun z=>Ls z.1 z.2.1 z.2.2.1 z.2.2.2++K) (a0,a1,a2,a3) h0 (by rw [hF0];exact Sub.refl _) (by rw [hL0];exact List.Sublist.refl _) (fun z h=>round z.1 z.2.1 z.2.2.1 z.2.2.2 h)
theorem BL {α0 α1 α2 α3:Type}{I:α0→α1→α2→α3→Prop}{μ:α0→α1→α2→α3→Nat}{Ms:α0→α1→α2→α3→List (Nat × Value)}{Ls:α0→α1→α2→α3→List AJ}{U:List (Nat × Value)}{K:List AJ}{m:Nat}(a0:α0)(a1:α1)(a2:α2)(a3:α3)(hI:I a0 a1 a2 a3)(hm:μ a0 a1 a2 a3 < m)(hF:Sub F (Ms a0 a1 a2 a3++U))(hL:(Ls a0 a1 a2 a3++K).Sublist L):GQ n w0 M (Exit.then (gS n w0 M I μ Ms Ls U K m) Q) .normal F L:=
 G7 (σ:=α0 × α1 × α2 × α3) (a0,a1,a2,a3) hI hm hF hL
def jg (n:Nat)(w0:World)(M:List Nat){α0 α1 α2 α3:Type}(I:α0→α1→α2→α3→Prop)(Fs:α0→α1→α2→α3→List (Nat × Value))(Ls:α0→α1→α2→α3→List AJ)(U:List (Nat × Value))(K:List AJ)(a:Go.Act)(w:World):Prop:=At (σ:=α0 × α1 × α2 × α3) n w0 M (fun z=>I z.1 z.2.1 z.2.2.1 z.2.2.2) (fun z=>Fs z.1 z.2.1 z.2.2.1 z.2.2.2++U) (fun z=>Ls z.1 z.2.1 z.2.2.1 z.2.2.2++K) a w
theorem bX {α0 α1 α2 α3:Type}{x y:Code}{U:List (Nat × Value)}{Lm K:List AJ}(I:α0→α1→α2→α3→Prop)(Ms:α0→α1→α2→α3→List (Nat × Value))(Ls:α0→α1→α2→α3→List AJ)(_hU:Sub F U)(_hK:L=Lm++K)
  (hx:G P n w0 M x (Exit.then (jg n w0 M I Ms Ls U K) Q) F L) (hy:∀(a0:α0) (a1:α1) (a2:α2) (a3:α3),I a0 a1 a2 a3→G P n w0 M y Q (Ms a0 a1 a2 a3++U) (Ls a0 a1 a2 a3++K)):G P n w0 M (.seq x y) Q F L:=
 WG (σ:=α0 × α1 × α2 × α3) (fun z=>I z.1 z.2.1 z.2.2.1 z.2.2.2) (fun z=>Ms z.1 z.2.1 z.2.2.1 z.2.2.2++U) (fun z=>Ls z.1 z.2.1 z.2.2.1 z.2.2.2++K) hx (fun z h=>hy z.1 z.2.1 z.2.2.1 z.2.2.2 h)
theorem RP {α0 α1 α2 α3:Type}{I:α0→α1→α2→α3→Prop}{Ms:α0→α1→α2→α3→List (Nat × Value)}{Ls:α0→α1→α2→α3→List AJ}{U:List (Nat × Value)}{K:List AJ}(a0:α0)(a1:α1)(a2:α2)(a3:α3)(hI:I a0 a1 a2 a3)(hF:Sub F (Ms a0 a1 a2 a3++U))(hL:(Ls a0 a1 a2 a3++K).Sublist L):GQ n w0 M (Exit.then (jg n w0 M I Ms Ls U K) Q) .normal F L:=
 WD (σ:=α0 × α1 × α2 × α3) (a0,a1,a2,a3) hI hF hL
def gT (n:Nat)(w0:World)(M:List Nat){α0 α1 α2 α3 α4:Type}(I:α0→α1→α2→α3→α4→Prop)(μ:α0→α1→α2→α3→α4→Nat)(Fs:α0→α1→α2→α3→α4→List (Nat × Value))(Ls:α0→α1→α2→α3→α4→List AJ)(U:List (Nat × Value))(K:List AJ)(m:Nat)(a:Go.Act)(w:World):Prop:=Ys (σ:=α0 × α1 × α2 × α3 × α4) n w0 M (fun z=>I z.1 z.2.1 z.2.2.1 z.2.2.2.1 z.2.2.2.2) (fun z=>μ z.1 z.2.1 z.2.2.1 z.2.2.2.1 z.2.2.2.2) (fun z=>Fs z.1 z.2.1 z.2.2.1 z.2.2.2.1 z.2.2.2.2++U) (fun z=>Ls z.1 z.2.1 z.2.2.1 z.2.2.2.1 z.2.2.2.2++K) m a w
theorem Ic {α0 α1 α2 α3 α4:Type}{c:Code}{U:List (Nat × Value)}{K:List AJ}(I:α0→α1→α2→α3→α4→Prop)(μ:α0→α1→α2→α3→α4→Nat)(Ms:α0→α1→α2→α3→α4→List (Nat × Value))(Ls:α0→α1→α2→α3→α4→List AJ)(a0:α0)(a1:α1)(a2:α2)(a3:α3)(a4:α4)(h0:I a0 a1 a2 a3 a4)(hF0:F=Ms a0 a1 a2 a3 a4++U)(hL0:L=Ls a0 a1 a2 a3 a4++K)
  (round:∀(a0:α0) (a1:α1) (a2:α2) (a3:α3) (a4:α4),I a0 a1 a2 a3 a4→G P n w0 M c (Exit.then (gT n w0 M I μ Ms Ls U K (μ a0 a1 a2 a3 a4)) Q) (Ms a0 a1 a2 a3 a4++U) (Ls a0 a1 a2 a3 a4++K)):G P n w0 M (.loop c) Q F L:=
 JD (σ:=α0 × α1 × α2 × α3 × α4) (fun z=>I z.1 z.2.1 z.2.2.1 z.2.2.2.1 z.2.2.2.2) (fun z=>μ z.1 z.2.1 z.2.2.1 z.2.2.2.1 z.2.2.2.2) (fun z=>Ms z.1 z.2.1 z.2.2.1 z.2.2.2.1 z.2.2.2.2++U) (fun z=>Ls z.1 z.2.1 z.2.2.1 z.2.2.2.1 z.2.2.2.2++K) (a0,a1,a2,a3,a4) h0 (by rw [hF0];exact Sub.refl _) (by rw [hL0];exact List.Sublist.refl _) (fun z h=>round z.1 z.2.1 z.2.2.1 z.2.2.2.1 z.2.2.2.2 h)
theorem Cq {α0 α1 α2 α3 α4:Type}{I:α0→α1→α2→α3→α4→Prop}{μ:α0→α1→α2→α3→α4→Nat}{Ms:α0→α1→α2→α3→α4→List (Nat × Value)}{Ls:α0→α1→α2→α3→α4→List AJ}{U:List (Nat × Value)}{K:List AJ}{m:Nat}(a0:α0)(a1:α1)(a2:α2)(a3:α3)(a4:α4)(hI:I a0 a1 a2 a3 a4)(hm:μ a0 a1 a2 a3 a4 < m)(hF:Sub F (Ms a0 a1 a2 a3 a4++U))(hL:(Ls a0 a1 a2 a3 a4++K).Sublist L):GQ n w0 M (Exit.then (gT n w0 M I μ Ms Ls U K m) Q) .normal F L:=
 G7 (σ:=α0 × α1 × α2 × α3 × α4) (a0,a1,a2,a3,a4) hI hm hF hL
def gU (n:Nat)(w0:World)(M:List Nat){α0 α1 α2 α3 α4 α5:Type}(I:α0→α1→α2→α3→α4→α5→Prop)(μ:α0→α1→α2→α3→α4→α5→Nat)(Fs:α0→α1→α2→α3→α4→α5→List (Nat × Value))(Ls:α0→α1→α2→α3→α4→α5→List AJ)(U:List (Nat × Value))(K:List AJ)(m:Nat)(a:Go.Act)(w:World):Prop:=Ys (σ:=α0 × α1 × α2 × α3 × α4 × α5) n w0 M (fun z=>I z.1 z.2.1 z.2.2.1 z.2.2.2.1 z.2.2.2.2.1 z.2.2.2.2.2) (fun z=>μ z.1 z.2.1 z.2.2.1 z.2.2.2.1 z.2.2.2.2.1 z.2.2.2.2.2) (fun z=>Fs z.1 z.2.1 z.2.2.1 z.2.2.2.1 z.2.2.2.2.1 z.2.2.2.2.2++U) (fun z=>Ls z.1 z.2.1 z.2.2.1 z.2.2.2.1 z.2.2.2.2.1 z.2.2.2.2.2++K) m a w
theorem Sh {α0 α1 α2 α3 α4 α5:Type}{c:Code}{U:List (Nat × Value)}{K:List AJ}(I:α0→α1→α2→α3→α4→α5→Prop)(μ:α0→α1→α2→α3→α4→α5→Nat)(Ms:α0→α1→α2→α3→α4→α5→List (Nat × Value))(Ls:α0→α1→α2→α3→α4→α5→List AJ)(a0:α0)(a1:α1)(a2:α2)(a3:α3)(a4:α4)(a5:α5)(h0:I a0 a1 a2 a3 a4 a5)(hF0:F=Ms a0 a1 a2 a3 a4 a5++U)(hL0:L=Ls a0 a1 a2 a3 a4 a5++K)
  (round:∀(a0:α0) (a1:α1) (a2:α2) (a3:α3) (a4:α4) (a5:α5),I a0 a1 a2 a3 a4 a5→G P n w0 M c (Exit.then (gU n w0 M I μ Ms Ls U K (μ a0 a1 a2 a3 a4 a5)) Q) (Ms a0 a1 a2 a3 a4 a5++U) (Ls a0 a1 a2 a3 a4 a5++K)):G P n w0 M (.loop c) Q F L:=
 JD (σ:=α0 × α1 × α2 × α3 × α4 × α5) (fun z=>I z.1 z.2.1 z.2.2.1 z.2.2.2.1 z.2.2.2.2.1 z.2.2.2.2.2) (fun z=>μ z.1 z.2.1 z.2.2.1 z.2.2.2.1 z.2.2.2.2.1 z.2.2.2.2.2) (fun z=>Ms z.1 z.2.1 z.2.2.1 z.2.2.2.1 z.2.2.2.2.1 z.2.2.2.2.2++U) (fun z=>Ls z.1 z.2.1 z.2.2.1 z.2.2.2.1 z.2.2.2.2.1 z.2.2.2.2.2++K) (a0,a1,a2,a3,a4,a5) h0 (by rw [hF0];exact Sub.refl _) (by rw [hL0];exact List.Sublist.refl _) (fun z h=>round z.1 z.2.1 z.2.2.1 z.2.2.2.1 z.2.2.2.2.1 z.2.2.2.2.2 h)
theorem CN {α0 α1 α2 α3 α4 α5:Type}{I:α0→α1→α2→α3→α4→α5→Prop}{μ:α0→α1→α2→α3→α4→α5→Nat}{Ms:α0→α1→α2→α3→α4→α5→List (Nat × Value)}{Ls:α0→α1→α2→α3→α4→α5→List AJ}{U:List (Nat × Value)}{K:List AJ}{m:Nat}(a0:α0)(a1:α1)(a2:α2)(a3:α3)(a4:α4)(a5:α5)(hI:I a0 a1 a2 a3 a4 a5)(hm:μ a0 a1 a2 a3 a4 a5 < m)(hF:Sub F (Ms a0 a1 a2 a3 a4 a5++U))(hL:(Ls a0 a1 a2 a3 a4 a5++K).Sublist L):GQ n w0 M (Exit.then (gU n w0 M I μ Ms Ls U K m) Q) .normal F L:=
 G7 (σ:=α0 × α1 × α2 × α3 × α4 × α5) (a0,a1,a2,a3,a4,a5) hI hm hF hL
def gV (n:Nat)(w0:World)(M:List Nat){α0 α1 α2 α3 α4 α5 α6:Type}(I:α0→α1→α2→α3→α4→α5→α6→Prop)(μ:α0→α1→α2→α3→α4→α5→α6→Nat)(Fs:α0→α1→α2→α3→α4→α5→α6→List (Nat × Value))(Ls:α0→α1→α2→α3→α4→α5→α6→List AJ)(U:List (Nat × Value))(K:List AJ)(m:Nat)(a:Go.Act)(w:World):Prop:=Ys (σ:=α0 × α1 × α2 × α3 × α4 × α5 × α6) n w0 M (fun z=>I z.1 z.2.1 z.2.2.1 z.2.2.2.1 z.2.2.2.2.1 z.2.2.2.2.2.1 z.2.2.2.2.2.2) (fun z=>μ z.1 z.2.1 z.2.2.1 z.2.2.2.1 z.2.2.2.2.1 z.2.2.2.2.2.1 z.2.2.2.2.2.2) (fun z=>Fs z.1 z.2.1 z.2.2.1 z.2.2.2.1 z.2.2.2.2.1 z.2.2.2.2.2.1 z.2.2.2.2.2.2++U) (fun z=>Ls z.1 z.2.1 z.2.2.1 z.2.2.2.1 z.2.2.2.2.1 z.2.2.2.2.2.1 z.2.2.2.2.2.2++K) m a w
theorem Ym {α0 α1 α2 α3 α4 α5 α6:Type}{c:Code}{U:List (Nat × Value)}{K:List AJ}(I:α0→α1→α2→α3→α4→α5→α6→Prop)(μ:α0→α1→α2→α3→α4→α5→α6→Nat)(Ms:α0→α1→α2→α3→α4→α5→α6→List (Nat × Value))(Ls:α0→α1→α2→α3→α4→α5→α6→List AJ)(a0:α0)(a1:α1)(a2:α2)(a3:α3)(a4:α4)(a5:α5)(a6:α6)(h0:I a0 a1 a2 a3 a4 a5 a6)(hF0:F=Ms a0 a1 a2 a3 a4 a5 a6++U)(hL0:L=Ls a0 a1 a2 a3 a4 a5 a6++K)
  (round:∀(a0:α0) (a1:α1) (a2:α2) (a3:α3) (a4:α4) (a5:α5) (a6:α6),I a0 a1 a2 a3 a4 a5 a6→G P n w0 M c (Exit.then (gV n w0 M I μ Ms Ls U K (μ a0 a1 a2 a3 a4 a5 a6)) Q) (Ms a0 a1 a2 a3 a4 a5 a6++U) (Ls a0 a1 a2 a3 a4 a5 a6++K)):G P n w0 M (.loop c) Q F L:=
 JD (σ:=α0 × α1 × α2 × α3 × α4 × α5 × α6) (fun z=>I z.1 z.2.1 z.2.2.1 z.2.2.2.1 z.2.2.2.2.1 z.2.2.2.2.2.1 z.2.2.2.2.2.2) (fun z=>μ z.1 z.2.1 z.2.2.1 z.2.2.2.1 z.2.2.2.2.1 z.2.2.2.2.2.1 z.2.2.2.2.2.2) (fun z=>Ms z.1 z.2.1 z.2.2.1 z.2.2.2.1 z.2.2.2.2.1 z.2.2.2.2.2.1 z.2.2.2.2.2.2++U) (fun z=>Ls z.1 z.2.1 z.2.2.1 z.2.2.2.1 z.2.2.2.2.1 z.2.2.2.2.2.1 z.2.2.2.2.2.2++K) (a0,a1,a2,a3,a4,a5,a6) h0 (by rw [hF0];exact Sub.refl _) (by rw [hL0];exact List.Sublist.refl _) (fun z h=>round z.1 z.2.1 z.2.2.1 z.2.2.2.1 z.2.2.2.2.1 z.2.2.2.2.2.1 z.2.2.2.2.2.2 h)
theorem C6 {α0 α1 α2 α3 α4 α5 α6:Type}{I:α0→α1→α2→α3→α4→α5→α6→Prop}{μ:α0→α1→α2→α3→α4→α5→α6→Nat}{Ms:α0→α1→α2→α3→α4→α5→α6→List (Nat × Value)}{Ls:α0→α1→α2→α3→α4→α5→α6→List AJ}{U:List (Nat × Value)}{K:List AJ}{m:Nat}(a0:α0)(a1:α1)(a2:α2)(a3:α3)(a4:α4)(a5:α5)(a6:α6)(hI:I a0 a1 a2 a3 a4 a5 a6)(hm:μ a0 a1 a2 a3 a4 a5 a6 < m)(hF:Sub F (Ms a0 a1 a2 a3 a4 a5 a6++U))(hL:(Ls a0 a1 a2 a3 a4 a5 a6++K).Sublist L):GQ n w0 M (Exit.then (gV n w0 M I μ Ms Ls U K m) Q) .normal F L:=
 G7 (σ:=α0 × α1 × α2 × α3 × α4 × α5 × α6) (a0,a1,a2,a3,a4,a5,a6) hI hm hF hL
def gW (n:Nat)(w0:World)(M:List Nat){α0 α1 α2 α3 α4 α5 α6 α7:Type}(I:α0→α1→α2→α3→α4→α5→α6→α7→Prop)(μ:α0→α1→α2→α3→α4→α5→α6→α7→Nat)(Fs:α0→α1→α2→α3→α4→α5→α6→α7→List (Nat × Value))(Ls:α0→α1→α2→α3→α4→α5→α6→α7→List AJ)(U:List (Nat × Value))(K:List AJ)(m:Nat)(a:Go.Act)(w:World):Prop:=Ys (σ:=α0 × α1 × α2 × α3 × α4 × α5 × α6 × α7) n w0 M (fun z=>I z.1 z.2.1 z.2.2.1 z.2.2.2.1 z.2.2.2.2.1 z.2.2.2.2.2.1 z.2.2.2.2.2.2.1 z.2.2.2.2.2.2.2) (fun z=>μ z.1 z.2.1 z.2.2.1 z.2.2.2.1 z.2.2.2.2.1 z.2.2.2.2.2.1 z.2.2.2.2.2.2.1 z.2.2.2.2.2.2.2) (fun z=>Fs z.1 z.2.1 z.2.2.1 z.2.2.2.1 z.2.2.2.2.1 z.2.2.2.2.2.1 z.2.2.2.2.2.2.1 z.2.2.2.2.2.2.2++U) (fun z=>Ls z.1 z.2.1 z.2.2.1 z.2.2.2.1 z.2.2.2.2.1 z.2.2.2.2.2.1 z.2.2.2.2.2.2.1 z.2.2.2.2.2.2.2++K) m a w
theorem Si {α0 α1 α2 α3 α4 α5 α6 α7:Type}{c:Code}{U:List (Nat × Value)}{K:List AJ}(I:α0→α1→α2→α3→α4→α5→α6→α7→Prop)(μ:α0→α1→α2→α3→α4→α5→α6→α7→Nat)(Ms:α0→α1→α2→α3→α4→α5→α6→α7→List (Nat × Value))(Ls:α0→α1→α2→α3→α4→α5→α6→α7→List AJ)(a0:α0)(a1:α1)(a2:α2)(a3:α3)(a4:α4)(a5:α5)(a6:α6)(a7:α7)(h0:I a0 a1 a2 a3 a4 a5 a6 a7)(hF0:F=Ms a0 a1 a2 a3 a4 a5 a6 a7++U)(hL0:L=Ls a0 a1 a2 a3 a4 a5 a6 a7++K)
  (round:∀(a0:α0) (a1:α1) (a2:α2) (a3:α3) (a4:α4) (a5:α5) (a6:α6) (a7:α7),I a0 a1 a2 a3 a4 a5 a6 a7→G P n w0 M c (Exit.then (gW n w0 M I μ Ms Ls U K (μ a0 a1 a2 a3 a4 a5 a6 a7)) Q) (Ms a0 a1 a2 a3 a4 a5 a6 a7++U) (Ls a0 a1 a2 a3 a4 a5 a6 a7++K)):G P n w0 M (.loop c) Q F L:=
 JD (σ:=α0 × α1 × α2 × α3 × α4 × α5 × α6 × α7) (fun z=>I z.1 z.2.1 z.2.2.1 z.2.2.2.1 z.2.2.2.2.1 z.2.2.2.2.2.1 z.2.2.2.2.2.2.1 z.2.2.2.2.2.2.2) (fun z=>μ z.1 z.2.1 z.2.2.1 z.2.2.2.1 z.2.2.2.2.1 z.2.2.2.2.2.1 z.2.2.2.2.2.2.1 z.2.2.2.2.2.2.2) (fun z=>Ms z.1 z.2.1 z.2.2.1 z.2.2.2.1 z.2.2.2.2.1 z.2.2.2.2.2.1 z.2.2.2.2.2.2.1 z.2.2.2.2.2.2.2++U) (fun z=>Ls z.1 z.2.1 z.2.2.1 z.2.2.2.1 z.2.2.2.2.1 z.2.2.2.2.2.1 z.2.2.2.2.2.2.1 z.2.2.2.2.2.2.2++K) (a0,a1,a2,a3,a4,a5,a6,a7) h0 (by rw [hF0];exact Sub.refl _) (by rw [hL0];exact List.Sublist.refl _) (fun z h=>round z.1 z.2.1 z.2.2.1 z.2.2.2.1 z.2.2.2.2.1 z.2.2.2.2.2.1 z.2.2.2.2.2.2.1 z.2.2.2.2.2.2.2 h)
theorem Bu {α0 α1 α2 α3 α4 α5 α6 α7:Type}{I:α0→α1→α2→α3→α4→α5→α6→α7→Prop}{μ:α0→α1→α2→α3→α4→α5→α6→α7→Nat}{Ms:α0→α1→α2→α3→α4→α5→α6→α7→List (Nat × Value)}{Ls:α0→α1→α2→α3→α4→α5→α6→α7→List AJ}{U:List (Nat × Value)}{K:List AJ}{m:Nat}(a0:α0)(a1:α1)(a2:α2)(a3:α3)(a4:α4)(a5:α5)(a6:α6)(a7:α7)(hI:I a0 a1 a2 a3 a4 a5 a6 a7)(hm:μ a0 a1 a2 a3 a4 a5 a6 a7 < m)(hF:Sub F (Ms a0 a1 a2 a3 a4 a5 a6 a7++U))(hL:(Ls a0 a1 a2 a3 a4 a5 a6 a7++K).Sublist L):GQ n w0 M (Exit.then (gW n w0 M I μ Ms Ls U K m) Q) .normal F L:=
 G7 (σ:=α0 × α1 × α2 × α3 × α4 × α5 × α6 × α7) (a0,a1,a2,a3,a4,a5,a6,a7) hI hm hF hL
def gX (n:Nat)(w0:World)(M:List Nat){α0 α1 α2 α3 α4 α5 α6 α7 α8:Type}(I:α0→α1→α2→α3→α4→α5→α6→α7→α8→Prop)(μ:α0→α1→α2→α3→α4→α5→α6→α7→α8→Nat)(Fs:α0→α1→α2→α3→α4→α5→α6→α7→α8→List (Nat × Value))(Ls:α0→α1→α2→α3→α4→α5→α6→α7→α8→List AJ)(U:List (Nat × Value))(K:List AJ)(m:Nat)(a:Go.Act)(w:World):Prop:=Ys (σ:=α0 × α1 × α2 × α3 × α4 × α5 × α6 × α7 × α8) n w0 M (fun z=>I z.1 z.2.1 z.2.2.1 z.2.2.2.1 z.2.2.2.2.1 z.2.2.2.2.2.1 z.2.2.2.2.2.2.1 z.2.2.2.2.2.2.2.1 z.2.2.2.2.2.2.2.2) (fun z=>μ z.1 z.2.1 z.2.2.1 z.2.2.2.1 z.2.2.2.2.1 z.2.2.2.2.2.1 z.2.2.2.2.2.2.1 z.2.2.2.2.2.2.2.1 z.2.2.2.2.2.2.2.2) (fun z=>Fs z.1 z.2.1 z.2.2.1 z.2.2.2.1 z.2.2.2.2.1 z.2.2.2.2.2.1 z.2.2.2.2.2.2.1 z.2.2.2.2.2.2.2.1 z.2.2.2.2.2.2.2.2++U) (fun z=>Ls z.1 z.2.1 z.2.2.1 z.2.2.2.1 z.2.2.2.2.1 z.2.2.2.2.2.1 z.2.2.2.2.2.2.1 z.2.2.2.2.2.2.2.1 z.2.2.2.2.2.2.2.2++K) m a w
theorem Yn {α0 α1 α2 α3 α4 α5 α6 α7 α8:Type}{c:Code}{U:List (Nat × Value)}{K:List AJ}(I:α0→α1→α2→α3→α4→α5→α6→α7→α8→Prop)(μ:α0→α1→α2→α3→α4→α5→α6→α7→α8→Nat)(Ms:α0→α1→α2→α3→α4→α5→α6→α7→α8→List (Nat × Value))(Ls:α0→α1→α2→α3→α4→α5→α6→α7→α8→List AJ)(a0:α0)(a1:α1)(a2:α2)(a3:α3)(a4:α4)(a5:α5)(a6:α6)(a7:α7)(a8:α8)(h0:I a0 a1 a2 a3 a4 a5 a6 a7 a8)(hF0:F=Ms a0 a1 a2 a3 a4 a5 a6 a7 a8++U)(hL0:L=Ls a0 a1 a2 a3 a4 a5 a6 a7 a8++K)
  (round:∀(a0:α0) (a1:α1) (a2:α2) (a3:α3) (a4:α4) (a5:α5) (a6:α6) (a7:α7) (a8:α8),I a0 a1 a2 a3 a4 a5 a6 a7 a8→G P n w0 M c (Exit.then (gX n w0 M I μ Ms Ls U K (μ a0 a1 a2 a3 a4 a5 a6 a7 a8)) Q) (Ms a0 a1 a2 a3 a4 a5 a6 a7 a8++U) (Ls a0 a1 a2 a3 a4 a5 a6 a7 a8++K)):G P n w0 M (.loop c) Q F L:=
 JD (σ:=α0 × α1 × α2 × α3 × α4 × α5 × α6 × α7 × α8) (fun z=>I z.1 z.2.1 z.2.2.1 z.2.2.2.1 z.2.2.2.2.1 z.2.2.2.2.2.1 z.2.2.2.2.2.2.1 z.2.2.2.2.2.2.2.1 z.2.2.2.2.2.2.2.2) (fun z=>μ z.1 z.2.1 z.2.2.1 z.2.2.2.1 z.2.2.2.2.1 z.2.2.2.2.2.1 z.2.2.2.2.2.2.1 z.2.2.2.2.2.2.2.1 z.2.2.2.2.2.2.2.2) (fun z=>Ms z.1 z.2.1 z.2.2.1 z.2.2.2.1 z.2.2.2.2.1 z.2.2.2.2.2.1 z.2.2.2.2.2.2.1 z.2.2.2.2.2.2.2.1 z.2.2.2.2.2.2.2.2++U) (fun z=>Ls z.1 z.2.1 z.2.2.1 z.2.2.2.1 z.2.2.2.2.1 z.2.2.2.2.2.1 z.2.2.2.2.2.2.1 z.2.2.2.2.2.2.2.1 z.2.2.2.2.2.2.2.2++K) (a0,a1,a2,a3,a4,a5,a6,a7,a8) h0 (by rw [hF0];exact Sub.refl _) (by rw [hL0];exact List.Sublist.refl _) (fun z h=>round z.1 z.2.1 z.2.2.1 z.2.2.2.1 z.2.2.2.2.1 z.2.2.2.2.2.1 z.2.2.2.2.2.2.1 z.2.2.2.2.2.2.2.1 z.2.2.2.2.2.2.2.2 h)
theorem XA {α0 α1 α2 α3 α4 α5 α6 α7 α8:Type}{I:α0→α1→α2→α3→α4→α5→α6→α7→α8→Prop}{μ:α0→α1→α2→α3→α4→α5→α6→α7→α8→Nat}{Ms:α0→α1→α2→α3→α4→α5→α6→α7→α8→List (Nat × Value)}{Ls:α0→α1→α2→α3→α4→α5→α6→α7→α8→List AJ}{U:List (Nat × Value)}{K:List AJ}{m:Nat}(a0:α0)(a1:α1)(a2:α2)(a3:α3)(a4:α4)(a5:α5)(a6:α6)(a7:α7)(a8:α8)(hI:I a0 a1 a2 a3 a4 a5 a6 a7 a8)(hm:μ a0 a1 a2 a3 a4 a5 a6 a7 a8 < m)(hF:Sub F (Ms a0 a1 a2 a3 a4 a5 a6 a7 a8++U))(hL:(Ls a0 a1 a2 a3 a4 a5 a6 a7 a8++K).Sublist L):GQ n w0 M (Exit.then (gX n w0 M I μ Ms Ls U K m) Q) .normal F L:=
 G7 (σ:=α0 × α1 × α2 × α3 × α4 × α5 × α6 × α7 × α8) (a0,a1,a2,a3,a4,a5,a6,a7,a8) hI hm hF hL
end
end Go.Ing
/- Engine: slices and strings that come in. -/
namespace Go.Ing
open Go Go.RowKit Go.ChangeShapes Go.WideShapes Go.ChangeAt
def iM (w:World)(sz:Nat){β:Type}(e:β→List Value)(wf:β→Prop)(h:Hd):Prop:=∃(T:Nat) (xs:List β),Rd w h T sz (xs.flatMap e)∧h.len=xs.length∧h.len≤h.cap∧h.cap≤9223372036854775807∧∀ x∈xs,wf x
section
variable {H:Type} {enc:TypeId × Value→H} {P:Program} {w:World}
theorem Yb {α:Type}{e:α→List Value}{wf:α→Prop}{t E sz:Nat}(hu:P.underlying t=some (.slice E))(hE:P.cellsOf E=sz)(hsz:0 < sz)(fe:Flat e sz)(hd:Dc H enc P w e wf E):Dc H enc P w EF (iM w sz e wf) t:=by
 intro fuel cs d ps h
 rcases DataW.trod_slice hu h with ⟨rfl,_⟩ | ⟨a,len,cap,elems,rest,n,_,rfl,_,_,hl,hm,hlen,hel,_⟩
 ·exact⟨⟨none,0,0⟩,rfl,0,[],Rd.nil w 0 sz,rfl,Nat.le_refl _,by simp,fun x hx=>by simp at hx⟩
 refine⟨⟨some a,len,cap⟩,rfl,?_⟩
 rw [hE] at hel
 have hx:∀ i,i < len→∃ x,w.cells? 0 (a.add (i * sz)) sz=some (e x)∧wf x:=fun i hi=>by
  have h1:=hel i hi
  rw [List.getElem?_eq_getElem (by omega),Option.bind_eq_some_iff] at h1
  obtain⟨c,h2,h3⟩:=h1
  obtain⟨x,rfl,hw⟩:=hd _ _ _ _ h3
  exact⟨x,h2,hw⟩
 have key:∀ k,k≤len→∃ xs:List α,xs.length=k∧(∀ i (hi:i < xs.length),w.cells? 0 (a.add (i * sz)) sz=some (e xs[i]))∧∀ x∈xs,wf x:=by
  intro k
  induction k with
  | zero=>intro _;exact⟨[],rfl,fun i hi=>by simp at hi,fun x hx=>by simp at hx⟩
  | succ k ih=>
   intro hk
   obtain⟨xs,h1,h2,h3⟩:=ih (by omega)
   obtain⟨x,h4,h5⟩:=hx k (by omega)
   refine⟨xs ++ [x],by simp [h1],fun i hi=>?_,fun y hy=>?_⟩
   ·by_cases hik:i < xs.length
    ·rw [List.getElem_append_left hik];exact h2 i hik
    ·have:i=xs.length:=by simp at hi;omega
     subst this
     rw [List.getElem_append_right (Nat.le_refl _)]
     simp only [Nat.sub_self,List.getElem_cons_zero]
     rw [h1];exact h4
   ·rcases List.mem_append.1 hy with hy | hy
    ·exact h3 y hy
    ·simp at hy;subst hy;exact h5
 obtain⟨xs,h1,h2,h3⟩:=key len (Nat.le_refl _)
 have hfl:(xs.flatMap e).length=len * sz:=by rw [CX fe.len,h1]
 have hcell:∀ j,j < len * sz→w.cell? (a.add j)=(xs.flatMap e)[j]?:=fun j hj=>by
  have hi:j / sz < xs.length:=by rw [h1];exact(Nat.div_lt_iff_lt_mul hsz).2 hj
  have hr:j % sz < sz:=Nat.mod_lt _ hsz
  have h4:=(World.cells?_some (h2 (j / sz) hi)).2.2 (j % sz) hr
  have h5:=Og fe xs (j / sz) hi
  have hdm:j / sz * sz+j % sz=j:=by rw [Nat.mul_comm];exact Nat.div_add_mod j sz
  have h6:(xs.flatMap e)[j]?=(e xs[j / sz])[j % sz]?:=by
   rw [← h5,List.getElem?_take,if_pos hr,List.getElem?_drop,hdm]
  rw [h6,← h4]
  congr 1
  unfold Addr.add
  by_cases z1:j / sz * sz=0
  ·rw [if_pos z1,show j=j % sz by omega]
   simp
  ·rw [if_neg z1,if_neg (by omega:¬ j=0)]
   by_cases z2:j % sz=0
   ·rw [if_pos z2];congr 1;omega
   ·rw [if_neg z2];congr 1;simp only [];omega
 by_cases hz:len=0
 ·subst hz
  have:xs = []:=List.length_eq_zero_iff.1 h1
  subst this
  exact⟨0,[],⟨by simp,fun h=>absurd rfl h⟩,rfl,hl,hm,fun x hx=>by simp at hx⟩
 ·have hpos:0 < len * sz:=Nat.mul_pos (by omega) hsz
  have h0:=hcell 0 hpos
  rw [List.getElem?_eq_getElem (by omega)] at h0
  have ha0:a.add 0=a:=rfl
  rw [ha0] at h0
  unfold World.cell? at h0
  cases hb:w.heap[a.block]? with
  | none=>rw [hb] at h0;simp at h0
  | some ob=>
   rw [hb] at h0
   cases ob with
   | cells C T fz=>
    simp only at h0
    cases hs:a.spot with
    | some s=>rw [hs] at h0;simp at h0
    | none=>
     obtain⟨blk,off,spt⟩:=a
     simp only at hs hb
     subst hs
     have hc:∀ j,j < len * sz→C.toList[off+j]?=(xs.flatMap e)[j]?:=fun j hj=>by
      have:=hcell j hj
      rw [ED] at this
      unfold World.cell? at this
      simp only [hb] at this
      rw [← this];simp
     have hbd:off+len * sz≤C.toList.length:=by
      have:=hc (len * sz - 1) (by omega)
      rw [List.getElem?_eq_getElem (by omega:len * sz - 1 < (xs.flatMap e).length)] at this
      rcases Nat.lt_or_ge (off+(len * sz - 1)) C.toList.length with h | h
      ·omega
      ·rw [List.getElem?_eq_none h] at this;cases this
     refine⟨T,xs,⟨by rw [hfl],fun _=>⟨blk,off,C.toList,fz,rfl,?_,by rw [hb],by rw [hfl];exact hbd,?_⟩⟩,h1.symm,hl,hm,h3⟩
     ·rcases Nat.lt_or_ge blk w.heap.size with h | h
      ·exact h
      ·rw [Array.getElem?_eq_none h] at hb;cases hb
     ·apply List.ext_getElem?
      intro j
      rw [List.getElem?_take,hfl]
      by_cases hj:j < len * sz
      ·rw [if_pos hj,List.getElem?_drop,hc j hj]
      ·rw [if_neg hj,List.getElem?_eq_none (by omega)]
   | _=>simp at h0
theorem cx {α:Type}{e:α→List Value}{wf:α→Prop}{base t E sz:Nat}{v:Value}{d:DataW H}{p:List MemPlace}(hu:P.underlying t=some (.slice E))(hval:Value.okWide P w .any base t v)(hE:P.cellsOf E=sz)(hsz:0 < sz)(fe:Flat e sz)(hd:Dc H enc P w e wf E)
  (h:DataW.Trod enc P w 0 (fun _=>true) true t v d p):∃ x:Hd,v=x.val∧iM w sz e wf x:=by
 obtain⟨fuel,hf⟩:=h
 obtain⟨x,hx,hw⟩:=Yb hu hE hsz fe hd _ _ _ _ hf
 refine⟨x,?_,hw⟩
 have hv:∀ cs,v≠ .agg cs:=fun cs e=>by
  subst e
  unfold Value.okWide at hval
  rw [hu] at hval
  simp [Cell.okWide,Cell.ok,hu] at hval
 cases v with
 | agg cs=>exact absurd rfl (hv cs)
 | _=>simp [Value.cells,EF] at hx;exact hx
end
theorem Src.Gu {P:Program}{w:World}{U E T sz:Nat}{g:Hd}{ys:List Value}(hu:P.underlying U=some (.slice E))(hg:Rd w g T sz ys):Src P w U sz g.val g.len ys:=
 ⟨.inl ⟨_,hu⟩,fun _=>rfl,fun _ hk=>F9 (hg.LX hk),hg.1⟩
end Go.Ing

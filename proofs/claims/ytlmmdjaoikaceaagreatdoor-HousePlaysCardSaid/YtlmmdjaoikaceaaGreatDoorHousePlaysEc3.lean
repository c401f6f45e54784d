/- The engine: rules by which a walk over a function of the model goes operation by operation; data in cells; from a contract of a law to its row. No condition. -/
import Derived.Test.YtlmmdjaoikaceaaGreatDoorHousePlaysEb1
import Derived.ChangeKeysEq
import Derived.Laws.Cover3
import Derived.ChangeMaps5
import Derived.SizedLaws
import Derived.JoinedCond
set_option linter.unusedSimpArgs false
set_option linter.unusedVariables false
/- Engine, part 12: regions that draw their order, with effects amid what floats. -/
namespace Go.Ing
open Go
def QK (K:Go.Act→World→Prop)(Q:Exit→Go.Act→World→Prop):Exit→Go.Act→World→Prop
 | .normal,a,w=>K a w
 | e,a,w=>Q e a w
theorem Wd {K:Go.Act→World→Prop}{Q:Exit→Go.Act→World→Prop}(h:LetsOut (QK K Q)):LetsOut Q:=by
 obtain⟨a,w,h⟩:=h;exact⟨a,w,h⟩
theorem Oper.jG {P:Program}{o:Oper}{a:Go.Act}{w:World}{K:Go.Act→World→Prop}{Q:Exit→Go.Act→World→Prop}(hd:a.defers = [])(hK:∀ a w,K a w→a.defers = [])
  (h:o.wp P a w K (QK K Q)):o.wp P a w (fun a' w'=>K a' w'∧∃ v,a'=a.put o.dst v) Q:=by
 unfold Oper.wp at *
 generalize (execOp a.eval o).run P w=r at *
 cases r with
 | ok n w'=>
  cases n with
  | value v=>exact⟨h,v,rfl⟩
  | skip=>exact⟨h,undef,rfl⟩
  | defer d=>
   have:=hK _ _ h
   cases hdst:o.dst<;>simp [Act.put,hdst] at this
  | enter f args=>exact Calls.mono h (fun e w'' he=>match e,he with
    | .returned v,he=>⟨he,v,rfl⟩
    | .panicked c,he=>he
    | .outgrown,he=>Wd he)
  | row row args=>exact Rows.mono h fun v w'' he=>⟨he,v,rfl⟩
  | _=>exact h
 | halt x w'=>cases x<;>exact h

def KC:Nat→List Oper→Bool
 | _,[]=>true
 | i,o :: l=>o.after.toList.all (fun e=>!Region.binds .any e || Nat.blt e.on i) && KC (i+1) l
theorem TZ:∀(l:List Oper) (i j:Nat) (o:Oper),KC i l=true→l[j]?=some o→∀ e∈o.after.toList,Region.binds .any e=true→e.on < i+j
 | [],_,_,_,_,h=>by simp at h
 | p :: l,i,0,o,hb,h=>by
  simp at h;subst h
  simp only [KC,Bool.and_eq_true,List.all_eq_true] at hb
  intro e he hbe
  have:=hb.1 e he
  rw [hbe] at this
  simpa [Nat.blt_eq] using this
 | p :: l,i,j+1,o,hb,h=>by
  simp only [KC,Bool.and_eq_true] at hb
  intro e he hbe
  have:=TZ l (i+1) j o hb.2 (by simpa using h) e he hbe
  omega
def fc (l:List Oper)(Rs:List Nat):Bool:=(List.range l.length).all fun i=>(List.range i).all fun j=>!((Rs.getD i 0).testBit j) || (match l[i]? with | none=>false | some o=>o.after.toList.any fun e=>Region.binds .any e && Nat.blt e.on i && (Nat.beq e.on j || (Nat.blt j e.on && (Rs.getD e.on 0).testBit j)))
def Ve (n:Nat)(_F:List (Nat × Value))(l:List Oper):Bool:=l.all fun o=>match o.dst with | some d=>Nat.blt d n | none=>true
def X0 (F:List (Nat × Value))(d:Nat)(v:Value):Prop:=lk d F=none∨lk d F=some v
def reaches (Rs:List Nat)(x j:Nat):Bool:=Nat.blt j x && (Rs.getD x 0).testBit j
theorem UX {l:List Oper}{Rs:List Nat}{listed:Array Bool}(hr:fc l Rs=true)(hdc:Rl l listed):∀(k x j:Nat) (o:Oper),x≤k→l[x]?=some o→(∀ e∈o.after.toList,Region.binds .any e=true→listed.getD e.on false=true)→reaches Rs x j=true→listed.getD j false=true:=by
 intro k
 induction k with
 | zero=>
  intro x j o hx ho ha h
  simp [reaches,Nat.blt_eq] at h;omega
 | succ k ih=>
  intro x j o hx ho ha h
  simp only [reaches,Bool.and_eq_true,Nat.blt_eq] at h
  have hxl:x < l.length:=by
   rcases Nat.lt_or_ge x l.length with h' | h'
   ·exact h'
   ·rw [List.getElem?_eq_none h'] at ho;cases ho
  have h1:=List.all_eq_true.1 hr x (List.mem_range.2 hxl)
  have h2:=List.all_eq_true.1 h1 j (List.mem_range.2 h.1)
  rw [h.2,ho] at h2
  simp only [Bool.not_true,Bool.false_or,List.any_eq_true,Bool.and_eq_true,Bool.or_eq_true,Nat.blt_eq] at h2
  obtain⟨e,he,⟨hb,hlt⟩,h3⟩:=h2
  have hl:=ha e he hb
  rcases h3 with h3 | ⟨h3,h4⟩
  ·rw [← Nat.eq_of_beq_eq_true h3];exact hl
  ·have hel:e.on < l.length:=by omega
   have ho':l[e.on]?=some l[e.on]:=List.getElem?_eq_getElem hel
   exact ih e.on j _ (by omega) ho' (hdc _ _ ho' hl) (by simp only [reaches,Bool.and_eq_true,Nat.blt_eq];exact⟨h3,h4⟩)

def KB (i:Nat)(d:Option Nat)(v:Value)(D:List (Nat × (Nat × Value))):List (Nat × (Nat × Value)):=match d with | some d=>(i,(d,v)) :: D | none=>D

section
variable (P:Program) (n:Nat) (w0:World) (M:List Nat) (Q:Exit→Go.Act→World→Prop) (l:List Oper) (Rs:List Nat) (F:List (Nat × Value))
def HS (b:Nat)(D:List (Nat × (Nat × Value)))(L:List AJ):List Nat→Prop
 | []=>True
 | j :: A=>(reaches Rs b j=true∨∃ o d v,l[j]?=some o∧Np j D=some (d,v)∧E8 P n w0 M Q l.toArray F L o D v)∧HS b D L A
def PK (o:Oper)(X:Value→List AJ→Prop)(a:Go.Act)(w:World):Prop:=
 ∃ v L',(∀ d,o.dst=some d→a.tmps[d]?=some v)∧a.defers = []∧a.tmps.size=n∧St w0 M w L'∧X v L'
def cV (V:List Nat)(bs:List Nat):Bool:=(List.range l.length).all fun x=>V.elem x || bs.elem x || bs.any fun b=>reaches Rs x b
def IU:Nat→(V A:List Nat)→(D:List (Nat × (Nat × Value)))→(L:List AJ)→Prop
 | 0,V,_,D,L=>((List.range l.length).all fun x=>V.elem x)=true∧GQ n w0 M Q .normal (G2 D++F) L
 | k+1,V,A,D,L=>
  (∃ i o d v,l[i]?=some o∧o.dst=some d∧V.elem i=false∧(o.after.toList.all fun e=>!Region.binds .any e || V.elem e.on)=true∧E8 P n w0 M Q l.toArray F L o D v∧X0 F d v∧IU k (i :: V) (i :: A) ((i,(d,v)) :: D) L)
  ∨ (∃ b:Nat,∃ bs:List Nat,cV l Rs V (b :: bs)=true∧∀ x∈b :: bs,∃ o,l[x]?=some o∧V.elem x=false∧(∀ d,o.dst=some d→lk d F=none) ∧
    GL P n w0 M l.toArray (QK (PK n w0 M o fun v L'=>HS P n w0 M Q l Rs F x (KB x o.dst v D) L' A∧IU k (x :: V) A (KB x o.dst v D) L') Q) [o] (DS D o.after.toList++F) L)
end
structure Ol (P:Program)(n:Nat)(w0:World)(M:List Nat)(Q:Exit→Go.Act→World→Prop)(l:List Oper)(F:List (Nat × Value))(V A:List Nat)(D:List (Nat × (Nat × Value)))(L:List AJ)(listed:Array Bool)(a:Go.Act)(w:World):Prop where
 size:listed.size=l.length
 closed:Rl l listed
 fr:Fr n a F
 st:St w0 M w L
 has:∀ j,listed.getD j false=true→j∈V∧∀ d v,Np j D=some (d,v)→a.tmps[d]?=some v
 G5:∀ j,j∈V→listed.getD j false=false→j∈A∧∃ o d v,l[j]?=some o∧o.dst=some d∧Np j D=some (d,v)∧E8 P n w0 M Q l.toArray F L o D v∧X0 F d v
 dq:∀ x∈D,x.1∈V∧Np x.1 D=some x.2∧∃ o:Oper,l[x.1]?=some o∧o.dst=some x.2.1
 Wm:∀ j∈V,∀ o,l[j]?=some o→∀ e∈o.after.toList,Region.binds .any e=true→e.on∈V
theorem Q2 {x:Nat}{V:List Nat}:V.elem x=true↔x∈V:=by simp
theorem Le {x:Nat}{V:List Nat}(h:V.elem x=false):x ∉ V:=by simpa using h
theorem O7 {n:Nat}{a:Go.Act}{F:List (Nat × Value)}{D:List (Nat × (Nat × Value))}{es:List Edge}(hF:Fr n a F)(h:∀ e∈es,Region.binds .any e=true→∀ d v,Np e.on D=some (d,v)→a.tmps[d]?=some v):Fr n a (DS D es++F):=by
 refine⟨hF.size,hF.defers,fun k v hk=>?_⟩
 rcases NM _ _ hk with h1 | h1
 ·obtain⟨e,he,hb,hl⟩:=ML _ h1
  exact h e he hb k v hl
 ·exact hF.get k v h1
section
variable {P:Program} {n:Nat} {w0:World} {M:List Nat} {Q:Exit→Go.Act→World→Prop} {l:List Oper} {Rs:List Nat} {F:List (Nat × Value)}
theorem W0 {j i:Nat}{d:Option Nat}{v:Value}{D:List (Nat × (Nat × Value))}(h:j≠i):Np j (KB i d v D)=Np j D:=by
 cases d with
 | none=>rfl
 | some d=>exact HY h _ _
theorem KJ {listed:Array Bool}{x j:Nat}(hx:x < listed.size):(listed.setIfInBounds x true).getD j false=if x=j then true else listed.getD j false:=by
 rw [Array.getD_eq_getD_getElem?,Array.getElem?_setIfInBounds]
 by_cases e:x=j
 ·subst e;simp [hx]
 ·rw [if_neg e,if_neg e,Array.getD_eq_getD_getElem?]
theorem HS.at {b:Nat}{D:List (Nat × (Nat × Value))}{L:List AJ}:∀ {A:List Nat},HS P n w0 M Q l Rs F b D L A→∀ j∈A,reaches Rs b j=true∨∃ o d v,l[j]?=some o∧Np j D=some (d,v)∧E8 P n w0 M Q l.toArray F L o D v
 | [],_,j,hj=>by simp at hj
 | x :: A,h,j,hj=>by
  rcases List.mem_cons.1 hj with rfl | hj
  ·exact h.1
  ·exact HS.at h.2 j hj
theorem O5 {listed:Array Bool}(hs:listed.size=l.length)(hdc:Rl l listed){x:Nat}{o:Oper}(hox:l[x]?=some o)(h3:∀ e∈o.after.toList,Region.binds .any e=true→listed.getD e.on false=true)(hxl:x < l.length):Rl l (listed.setIfInBounds x true):=by
 intro y p hp hy e he hbe
 rw [KJ (by omega)] at hy ⊢
 by_cases e2:x=e.on
 ·rw [if_pos e2]
 ·rw [if_neg e2]
  by_cases e1:x=y
  ·subst e1;rw [hox] at hp;cases hp;exact h3 e he hbe
  ·rw [if_neg e1] at hy;exact hdc y p hp hy e he hbe
theorem M6 {i:Nat}{x:Nat × Value}{D:List (Nat × (Nat × Value))}:∀ es:List Edge,(∀ e∈es,Region.binds .any e=true→e.on≠i)→DS ((i,x) :: D) es=DS D es
 | [],_=>rfl
 | e :: es,h=>by
  simp only [DS]
  rw [M6 es fun e he=>h e (by simp [he])]
  cases hb:Region.binds .any e with
  | false=>rfl
  | true=>rw [HY (h e (by simp) hb)]
theorem Ol.float {V A:List Nat}{D:List (Nat × (Nat × Value))}{L:List AJ}{listed:Array Bool}{a:Go.Act}{w:World}(hb:KC 0 l=true)(hI:Ol P n w0 M Q l F V A D L listed a w){i d:Nat}{o:Oper}{v:Value}(ho:l[i]?=some o)(hd:o.dst=some d)(hV:V.elem i=false)
  (he:(o.after.toList.all fun e=>!Region.binds .any e || V.elem e.on)=true) (hok:E8 P n w0 M Q l.toArray F L o D v) (hlk:X0 F d v):Ol P n w0 M Q l F (i :: V) (i :: A) ((i,(d,v)) :: D) L listed a w:=by
 have hiV:=Le hV
 have hne:∀ j∈V,j≠i:=fun j hj e=>hiV (e ▸ hj)
 have heV:∀ e∈o.after.toList,Region.binds .any e=true→e.on∈V:=fun e he' hb'=>by
  have:=List.all_eq_true.1 he e he'
  rw [hb'] at this
  simpa using this
 refine⟨hI.size,hI.closed,hI.fr,hI.st,fun j hj=>?_,fun j hj hl=>?_,fun x hx=>?_,fun j hj o' ho' e he' hb'=>?_⟩
 ·obtain⟨h1,h2⟩:=hI.has j hj
  refine⟨by simp [h1],fun d' v' h=>h2 d' v' ?_⟩
  rwa [HY (hne j h1)] at h
 ·rcases List.mem_cons.1 hj with rfl | hj
  ·refine⟨by simp,o,d,v,ho,hd,MS _ _ _,?_,hlk⟩
   unfold E8 at hok ⊢
   rw [M6 _ fun e he hbe=>hne _ (heV e he hbe)]
   exact hok
  ·obtain⟨h1,o',d',v',h2,h3,h4,h5,h6⟩:=hI.G5 j hj hl
   refine⟨by simp [h1],o',d',v',h2,h3,by rw [HY (hne j hj)];exact h4,?_,h6⟩
   unfold E8 at h5 ⊢
   rw [M6 _ fun e he hb=>hne _ (hI.Wm j hj o' h2 e he hb)]
   exact h5
 ·rcases List.mem_cons.1 hx with rfl | hx
  ·exact⟨by simp,MS _ _ _,o,ho,hd⟩
  ·obtain⟨h1,h2,h3⟩:=hI.dq x hx
   exact⟨by simp [h1],by rw [HY (hne _ h1)];exact h2,h3⟩
 ·rcases List.mem_cons.1 hj with rfl | hj
  ·rw [ho] at ho';cases ho';simp [heV e he' hb']
  ·simp [hI.Wm j hj o' ho' e he' hb']
theorem Ol.RS {V A:List Nat}{D:List (Nat × (Nat × Value))}{L:List AJ}{listed:Array Bool}{a:Go.Act}{w:World}(hdst:Ve n F l=true)(hu:E6 l=true)(hI:Ol P n w0 M Q l F V A D L listed a w)
  {x:Nat} {o:Oper} (hox:l[x]?=some o) (h2:listed[x]?=some false) (h3:∀ e∈o.after.toList,Region.binds .any e=true→listed.getD e.on false=true) (hxl:x < l.length) (hxV:x∈V)
  (K:Go.Act→World→Prop) (hK:∀ a' w',Ol P n w0 M Q l F V A D L (listed.setIfInBounds x true) a' w'→K a' w'):wpOp P l.toArray Q x K a w:=by
 have hlx:listed.getD x false=false:=by rw [Array.getD_eq_getD_getElem?,h2];rfl
 obtain⟨_,o',d,v,ho',hd,hlk,hok,hlo⟩:=hI.G5 x hxV hlx
 rw [hox] at ho';cases ho'
 have hdb:d < n:=by
  have:=List.all_eq_true.1 hdst o (List.mem_of_getElem? hox)
  rw [hd] at this
  simpa [Nat.blt_eq] using this
 have hfr:Fr n a (DS D o.after.toList++F):=O7 hI.fr fun e he hb d v h=>(hI.has e.on (h3 e he hb)).2 d v h
 have hput:∀ w' v',St w0 M w' L→v'=v→Ol P n w0 M Q l F V A D L (listed.setIfInBounds x true) (a.put o.dst v') w':=by
  intro w' v' hS' hv
  subst hv
  rw [hd]
  refine⟨by simpa using hI.size,O5 hI.size hI.closed hox h3 hxl,⟨by simp [Act.put,hI.fr.size],hI.fr.defers,fun k u hk=>?_⟩,hS',fun j hj=>?_,fun j hj hl=>?_,hI.dq,hI.Wm⟩
  ·by_cases hkd:k=d
   ·subst hkd
    rcases hlo with hlo | hlo
    ·rw [hlo] at hk;cases hk
    ·rw [hlo] at hk;cases hk
     simp [Act.put,hI.fr.size,hdb]
   ·simp only [Act.put]
    rw [Array.getElem?_setIfInBounds_ne (fun h=>hkd h.symm)]
    exact hI.fr.get k u hk
  ·rw [KJ (by rw [hI.size];exact hxl)] at hj
   by_cases e:x=j
   ·subst e
    refine⟨hxV,fun d' u h=>?_⟩
    rw [hlk] at h;cases h
    simp [Act.put,hI.fr.size,hdb]
   ·rw [if_neg e] at hj
    obtain⟨h4,h5⟩:=hI.has j hj
    refine⟨h4,fun d' u h=>?_⟩
    have hne:d≠d':=fun e'=>by
     obtain⟨_,_,p,hp,hpd⟩:=hI.dq _ (OP _ h)
     exact e (L5 l x j o p d hu hox hp hd (by rw [hpd,e']))
    simp only [Act.put]
    rw [Array.getElem?_setIfInBounds_ne hne]
    exact h5 d' u h
  ·rw [KJ (by rw [hI.size];exact hxl)] at hl
   by_cases e:x=j
   ·rw [if_pos e] at hl;cases hl
   ·rw [if_neg e] at hl;exact hI.G5 j hj hl
 unfold wpOp
 rw [List.getElem?_toArray,hox]
 have:=hok a w K hfr hI.st fun w' hS'=>hK _ _ (hput w' v hS' rfl)
 show if Region.wanted o (yielded l.toArray a.tmps)=true then _ else _
 by_cases hw:Region.wanted o (yielded l.toArray a.tmps)=true
 ·rw [if_pos hw] at this ⊢;exact .inl this
 ·rw [if_neg hw] at this ⊢;exact this
theorem Ol.YF {V A:List Nat}{D:List (Nat × (Nat × Value))}{L:List AJ}{listed:Array Bool}{a:Go.Act}{w:World}(hr:fc l Rs=true)(hb:KC 0 l=true)(hdst:Ve n F l=true)(hu:E6 l=true)(hI:Ol P n w0 M Q l F V A D L listed a w)
  {x:Nat} {o:Oper} (hox:l[x]?=some o) (h3:∀ e∈o.after.toList,Region.binds .any e=true→listed.getD e.on false=true) (hxl:x < l.length) (hxV:x ∉ V) (hnone:∀ d,o.dst=some d→lk d F=none) {X:Value→List AJ→Prop}
  (hp:GL P n w0 M l.toArray (QK (PK n w0 M o X) Q) [o] (DS D o.after.toList++F) L) (hX:∀ v L',X v L'→HS P n w0 M Q l Rs F x (KB x o.dst v D) L' A)
  (K:Go.Act→World→Prop) (hK:∀ a' w' v L',X v L'→Ol P n w0 M Q l F (x :: V) A (KB x o.dst v D) L' (listed.setIfInBounds x true) a' w'→K a' w'):wpOp P l.toArray Q x K a w:=by
 have hdb:∀ d,o.dst=some d→d < n∧lk d F=none:=fun d hd=>by
  have:=List.all_eq_true.1 hdst o (List.mem_of_getElem? hox)
  rw [hd] at this
  exact⟨by simpa [Nat.blt_eq] using this,hnone d hd⟩
 have hfr:Fr n a (DS D o.after.toList++F):=O7 hI.fr fun e he hb d v h=>(hI.has e.on (h3 e he hb)).2 d v h
 have hne:∀ j∈V,j≠x:=fun j hj e=>hxV (e ▸ hj)
 have hput:∀ a' w',PK n w0 M o X a' w'→(∃ v,a'=a.put o.dst v)→K a' w':=by
  intro a' w' ⟨v,L',h1,h2,h3',h4,h5⟩ ⟨u,hu'⟩
  refine hK a' w' v L' h5 ?_
  have hkeep:∀ k,o.dst≠some k→a'.tmps[k]?=a.tmps[k]?:=fun k hk=>by
   rw [hu']
   cases hd:o.dst with
   | none=>rfl
   | some d=>
    simp only [Act.put]
    rw [Array.getElem?_setIfInBounds_ne]
    intro e;subst e;exact hk hd
  refine⟨by simpa using hI.size,O5 hI.size hI.closed hox h3 hxl,⟨h3',h2,fun k u hk=>?_⟩,h4,fun j hj=>?_,fun j hj hl=>?_,fun y hy=>?_,fun j hj p hp' e he hbe=>?_⟩
  ·rw [hkeep k fun e=>by rw [(hdb k e).2] at hk;cases hk]
   exact hI.fr.get k u hk
  ·rw [KJ (by rw [hI.size];exact hxl)] at hj
   by_cases e:x=j
   ·subst e
    refine⟨by simp,fun d' u h=>?_⟩
    cases hd:o.dst with
    | none=>
     rw [hd] at h
     obtain⟨h6,_⟩:=hI.dq _ (OP _ h)
     exact absurd h6 hxV
    | some d=>
     rw [hd] at h
     rw [show KB x (some d) v D=(x,(d,v)) :: D from rfl,MS] at h
     cases h
     exact h1 _ hd
   ·rw [if_neg e] at hj
    obtain⟨h6,h7⟩:=hI.has j hj
    refine⟨by simp [h6],fun d' u h=>?_⟩
    rw [W0 (hne j h6)] at h
    rw [hkeep d' fun hd=>?_]
    ·exact h7 d' u h
    ·obtain⟨_,_,p,hp',hpd⟩:=hI.dq _ (OP _ h)
     exact e (L5 l x j o p d' hu hox hp' hd hpd)
  ·rw [KJ (by rw [hI.size];exact hxl)] at hl
   by_cases e:x=j
   ·rw [if_pos e] at hl;cases hl
   ·rw [if_neg e] at hl
    have hjV:j∈V:=by
     rcases List.mem_cons.1 hj with h | h
     ·exact absurd h.symm e
     ·exact h
    obtain⟨h6,o',d',v',h7,h8,h9,h10,h11⟩:=hI.G5 j hjV hl
    refine⟨h6,?_⟩
    rcases (hX v L' h5).at j h6 with h | ⟨o2,d2,v2,g1,g2,g3⟩
    ·have:=UX hr hI.closed _ x j o (Nat.le_refl _) hox h3 h
     rw [hl] at this;cases this
    ·rw [h7] at g1;cases g1
     have hg2:=g2
     rw [W0 (hne j hjV),h9] at g2
     cases g2
     exact⟨o',d',v',h7,h8,hg2,g3,h11⟩
  ·cases hd:o.dst with
   | none=>rw [hd] at hy;obtain⟨h6,h7,h8⟩:=hI.dq y hy;exact⟨by simp [h6],h7,h8⟩
   | some d=>
    rw [hd] at hy
    rcases List.mem_cons.1 hy with rfl | hy
    ·exact⟨by simp,MS _ _ _,o,hox,hd⟩
    ·obtain⟨h6,h7,h8⟩:=hI.dq y hy
     exact⟨by simp [h6],by rw [show KB x (some d) v D=(x,(d,v)) :: D from rfl,HY (hne _ h6)];exact h7,h8⟩
  ·rcases List.mem_cons.1 hj with rfl | hj
   ·rw [hox] at hp';cases hp'
    exact List.mem_cons_of_mem _ (hI.has _ (h3 e he hbe)).1
   ·exact List.mem_cons_of_mem _ (hI.Wm j hj p hp' e he hbe)
 have hgl:=hp a w hfr hI.st
 unfold wpOp
 rw [List.getElem?_toArray,hox]
 show if Region.wanted o (yielded l.toArray a.tmps)=true then _ else _
 unfold wpList at hgl
 have hPKd:∀ a w,PK n w0 M o X a w→a.defers = []:=fun a w ⟨_,_,_,h,_⟩=>h
 by_cases hw:Region.wanted o (yielded l.toArray a.tmps)=true
 ·rw [if_pos hw] at hgl ⊢
  rcases hgl with hgl | ⟨h1,h2⟩
  ·exact .inl (Oper.wp_mono (fun a' w' h=>hput a' w' h.1 h.2) (Oper.jG hI.fr.defers hPKd hgl))
  ·exact .inr ⟨h1,Wd h2⟩
 ·rw [if_neg hw] at hgl ⊢
  exact hput _ _ hgl ⟨_,rfl⟩
theorem V6 (hb:KC 0 l=true)(hr:fc l Rs=true)(hdst:Ve n F l=true)(hu:E6 l=true) :
  ∀(m k:Nat) (V A:List Nat) (D:List (Nat × (Nat × Value))) (L:List AJ) (listed:Array Bool) (a:Go.Act) (w:World),listed.toList.count false=m→IU P n w0 M Q l Rs F k V A D L→Ol P n w0 M Q l F V A D L listed a w→wpAny P .any l.toArray Q m listed a w:=by
 have hlt:∀(x:Nat) (o:Oper),l[x]?=some o→x < l.length:=fun x o ho=>by
  rcases Nat.lt_or_ge x l.length with h | h
  ·exact h
  ·rw [List.getElem?_eq_none h] at ho;cases ho
 intro m
 induction m with
 | zero=>
  intro k
  induction k with
  | zero=>
   intro V A D L listed a w hcnt hp hI
   have hall:∀ j,j < l.length→listed.getD j false=true:=fun j hj=>by
    have hj':j < listed.size:=by rw [hI.size];exact hj
    have h1:listed[j]?=some listed[j]:=Array.getElem?_eq_getElem hj'
    rw [Array.getD_eq_getD_getElem?,h1]
    cases hv:listed[j] with
    | true=>rfl
    | false=>
     have:=List.count_eq_zero.1 hcnt
     exact absurd (by rw [← hv];exact Array.getElem_mem_toList hj') this
   refine⟨?_,hp.2 a w ⟨hI.fr.size,hI.fr.defers,fun k v hk=>?_⟩ hI.st⟩
   ·refine List.eq_nil_iff_forall_not_mem.2 fun x hx=>?_
    obtain⟨o,ho,h2,_⟩:=(K5 hI.size).1 hx
    have:=hall x (hlt x o ho)
    rw [Array.getD_eq_getD_getElem?,h2] at this
    cases this
   ·rcases NM _ _ hk with h | h
    ·have:∃ j,(j,(k,v))∈D:=by
      clear hk hI hp
      induction D with
      | nil=>simp [G2] at h
      | cons x D ih=>
       simp only [G2,List.mem_cons] at h
       rcases h with h | h
       ·obtain⟨j,y⟩:=x;simp only at h;exact⟨j,by rw [h];simp⟩
       ·obtain⟨j,hj⟩:=ih h;exact⟨j,by simp [hj]⟩
     obtain⟨j,hj⟩:=this
     obtain⟨h1,h2,o,h3,_⟩:=hI.dq _ hj
     exact(hI.has j (hall j (hlt j o h3))).2 k v h2
    ·exact hI.fr.get k v h
  | succ k ih=>
   intro V A D L listed a w hcnt hp hI
   rcases hp with ⟨i,o,d,v,ho,hd,hV,he,hok,hlo,hp⟩ | ⟨b,bs,hch,hx⟩
   ·exact ih (i :: V) (i :: A) _ L listed a w hcnt hp (hI.float hb ho hd hV he hok hlo)
   ·exfalso
    obtain⟨o,ho,hV,_⟩:=hx b (by simp)
    have hbl:b < listed.size:=by rw [hI.size];exact hlt b o ho
    have h1:listed[b]?=some listed[b]:=Array.getElem?_eq_getElem hbl
    have h2:listed.getD b false=true:=by
     rw [Array.getD_eq_getD_getElem?,h1]
     cases hv:listed[b] with
     | true=>rfl
     | false=>
      have:=List.count_eq_zero.1 hcnt
      exact absurd (by rw [← hv];exact Array.getElem_mem_toList hbl) this
    exact Le hV (hI.has b h2).1
 | succ m ihm=>
  intro k
  have next:∀ {listed:Array Bool} {x:Nat},listed.toList.count false=m+1→listed[x]?=some false→(listed.setIfInBounds x true).toList.count false=m:=fun {listed x} hcnt h2=>by
   have:=count_set (l:=listed.toList) x (by simpa using h2)
   rw [Array.toList_setIfInBounds]
   omega
  have some_ready:∀ {listed:Array Bool},listed.size=l.length→listed.toList.count false=m+1→Region.ready .any l.toArray listed≠ []:=fun {listed} hs hcnt=>by
   have hex:∃ j,j < listed.size∧listed[j]?=some false:=by
    have:false∈listed.toList:=by
     apply Classical.byContradiction
     intro h
     rw [List.count_eq_zero.2 h] at hcnt;omega
    obtain⟨j,hj,e⟩:=List.getElem_of_mem this
    exact⟨j,by simpa using hj,by rw [← e];simp at hj ⊢⟩
   have hmin:∀ b,∀ j,j≤b→j < listed.size→listed[j]?=some false→∃ j,j < listed.size∧listed[j]?=some false∧∀ i,i < j→listed.getD i false=true:=by
    intro b
    induction b with
    | zero=>intro j hj h1 h2;exact⟨j,h1,h2,fun i hi=>by omega⟩
    | succ b ihb=>
     intro j hj h1 h2
     by_cases hx:∀ i,i < j→listed.getD i false=true
     ·exact⟨j,h1,h2,hx⟩
     ·obtain⟨i,hi⟩:∃ i,i < j∧¬ listed.getD i false=true:=by
       apply Classical.byContradiction
       intro hn
       exact hx fun i hi=>Classical.byContradiction fun h=>hn ⟨i,hi,h⟩
      have hi':i < listed.size:=by omega
      refine ihb i (by omega) hi' ?_
      have h3:=hi.2
      rw [Array.getD_eq_getD_getElem?,Array.getElem?_eq_getElem hi'] at h3
      rw [Array.getElem?_eq_getElem hi']
      cases hv:listed[i] with
      | false=>rfl
      | true=>rw [hv] at h3;simp at h3
   obtain⟨j0,h1,h2⟩:=hex
   obtain⟨j,h1,h2,h3⟩:=hmin j0 j0 (Nat.le_refl _) h1 h2
   intro hn
   have hjl:j < l.length:=by omega
   have:j∈Region.ready .any l.toArray listed:=(K5 hs).2 ⟨l[j],List.getElem?_eq_getElem hjl,h2,fun e he hbe=>h3 e.on (by have:=TZ l 0 j _ hb (List.getElem?_eq_getElem hjl) e he hbe;omega)⟩
   rw [hn] at this
   cases this
  induction k with
  | zero=>
   intro V A D L listed a w hcnt hp hI
   refine⟨fun e=>absurd e (some_ready hI.size hcnt),fun x hx=>?_⟩
   obtain⟨o,hox,h2,h3⟩:=(K5 hI.size).1 hx
   have hxl:=hlt x o hox
   have hxV:x∈V:=by simpa using List.all_eq_true.1 hp.1 x (List.mem_range.2 hxl)
   exact hI.RS hdst hu hox h2 h3 hxl hxV _ fun a' w' hI'=>ihm 0 V A D L _ a' w' (next hcnt h2) hp hI'
  | succ k ih=>
   intro V A D L listed a w hcnt hp hI
   have hp0:=hp
   rcases hp with ⟨i,o,d,v,ho,hd,hV,he,hok,hlo,hp⟩ | ⟨b,bs,hch,hbs⟩
   ·exact ih (i :: V) (i :: A) _ L listed a w hcnt hp (hI.float hb ho hd hV he hok hlo)
   ·refine⟨fun e=>absurd e (some_ready hI.size hcnt),fun x hx=>?_⟩
    obtain⟨o,hox,h2,h3⟩:=(K5 hI.size).1 hx
    have hxl:=hlt x o hox
    by_cases hxV:x∈V
    ·exact hI.RS hdst hu hox h2 h3 hxl hxV _ fun a' w' hI'=>ihm (k+1) V A D L _ a' w' (next hcnt h2) hp0 hI'
    ·have hxb:x∈b :: bs:=by
      have:=List.all_eq_true.1 hch x (List.mem_range.2 hxl)
      simp only [Bool.or_eq_true,List.any_eq_true] at this
      rcases this with (h | h) | ⟨c,hc,h⟩
      ·exact absurd (Q2.1 h) hxV
      ·exact Q2.1 h
      ·exfalso
       obtain⟨oc,hoc,hVc,_⟩:=hbs c hc
       have:=UX hr hI.closed _ x c o (Nat.le_refl _) hox h3 h
       exact Le hVc (hI.has c this).1
     obtain⟨o',ho',_,hnone,hgl⟩:=hbs x hxb
     rw [hox] at ho';cases ho'
     exact hI.YF hr hb hdst hu hox h3 hxl hxV hnone hgl (fun v L' h=>h.1) _ fun a' w' v L' hX hI'=>ihm k _ A _ L' _ a' w' (next hcnt h2) hX.2 hI'

theorem eQ {id:Nat}{L:List AJ}(Rs:List Nat)(hmix:P.follows .mixedOrders=true)(hchk:(KC 0 l && fc l Rs && Ve n F l && E6 l)=true)
  (h:IU P n w0 M Q l Rs F l.length [] [] [] L):G P n w0 M (.region id l.toArray true) Q F L:=by
 simp only [Bool.and_eq_true] at hchk
 obtain⟨⟨⟨hb,hr⟩,hdst⟩,hu⟩:=hchk
 intro a w hF hS
 refine wp_region_any hmix ?_
 refine V6 hb hr hdst hu _ l.length [] [] [] L _ a _ ?_ h ⟨by simp,fun x o _ hx=>?_,hF,hS.drew _,fun j hj=>?_,fun j hj=>by simp at hj,fun x hx=>by simp at hx,fun j hj=>by simp at hj⟩
 ·simp
 ·rw [Array.getD_eq_getD_getElem?,Array.getElem?_replicate] at hx;split at hx<;>simp at hx
 ·rw [Array.getD_eq_getD_getElem?,Array.getElem?_replicate] at hj;split at hj<;>simp at hj

theorem Wc {id N:Nat}{L:List AJ}(Rs:List Nat)(hmix:P.follows .mixedOrders=true)(hchk:(KC 0 l && fc l Rs && Ve n F l && E6 l)=true)(hN:l.length=N)
  (h:IU P n w0 M Q l Rs F N [] [] [] L):G P n w0 M (.region id l.toArray true) Q F L:=eQ Rs hmix hchk (hN ▸ h)
/-! #### steps of a plan -/
section
variable {k i d:Nat} {V A:List Nat} {D:List (Nat × (Nat × Value))} {L:List AJ} {op:Op} {T:TypeId} {pos:String} {Bl:Array Edge} {v:Value} {j t:Nat} {c y b:Bool}
theorem TM (hV:((List.range l.length).all fun x=>V.elem x)=true)(h:GQ n w0 M Q .normal (G2 D++F) L):IU P n w0 M Q l Rs F 0 V A D L:=⟨hV,h⟩
def cg (l:List Oper)(V:List Nat)(i:Nat)(Bl:List Edge):Bool:=!(V.elem i) && Bl.all fun e=>!Region.binds .any e || V.elem e.on
theorem Ow (i:Nat){o:Oper}{d:Nat}{v:Value}(ho:l[i]?=some o)(hd:o.dst=some d)(hc:cg l V i o.after.toList=true)(hok:E8 P n w0 M Q l.toArray F L o D v)(h:IU P n w0 M Q l Rs F k (i :: V) (i :: A) ((i,(d,v)) :: D) L)(hlk:X0 F d v:=by first | exact .inl rfl | exact .inr rfl):IU P n w0 M Q l Rs F (k+1) V A D L:=by
 simp only [cg,Bool.and_eq_true,Bool.not_eq_true'] at hc
 exact .inl ⟨i,o,d,v,ho,hd,hc.1,hc.2,hok,hlk,h⟩
def Xd (d:Option Nat)(F:List (Nat × Value)):Bool:=match d with | some d=>(lk d F).isNone | none=>true
theorem SH {o:Oper}(h:Xd o.dst F=true):∀ d,o.dst=some d→lk d F=none:=fun d hd=>by
 rw [hd] at h
 simpa [Xd] using h
theorem LX (b:Nat){o:Oper}(ho:l[b]?=some o)(hc:(!(V.elem b) && cV l Rs V [b])=true)
  (h:GL P n w0 M l.toArray (QK (PK n w0 M o fun v L'=>HS P n w0 M Q l Rs F b (KB b o.dst v D) L' A∧IU P n w0 M Q l Rs F k (b :: V) A (KB b o.dst v D) L') Q) [o] (DS D o.after.toList++F) L) (hn:Xd o.dst F=true:=by rfl):IU P n w0 M Q l Rs F (k+1) V A D L:=by
 simp only [Bool.and_eq_true,Bool.not_eq_true'] at hc
 exact .inr ⟨b,[],hc.2,fun x hx=>by simp at hx;subst hx;exact⟨o,ho,hc.1,SH hn,h⟩⟩
theorem Ey (b b2:Nat){o o2:Oper}(ho:l[b]?=some o)(ho2:l[b2]?=some o2)(hc:(!(V.elem b) && !(V.elem b2) && cV l Rs V [b,b2])=true)
  (h:GL P n w0 M l.toArray (QK (PK n w0 M o fun v L'=>HS P n w0 M Q l Rs F b (KB b o.dst v D) L' A∧IU P n w0 M Q l Rs F k (b :: V) A (KB b o.dst v D) L') Q) [o] (DS D o.after.toList++F) L)
  (h2:GL P n w0 M l.toArray (QK (PK n w0 M o2 fun v L'=>HS P n w0 M Q l Rs F b2 (KB b2 o2.dst v D) L' A∧IU P n w0 M Q l Rs F k (b2 :: V) A (KB b2 o2.dst v D) L') Q) [o2] (DS D o2.after.toList++F) L) (hn:Xd o.dst F=true:=by rfl) (hn2:Xd o2.dst F=true:=by rfl):IU P n w0 M Q l Rs F (k+1) V A D L:=by
 simp only [Bool.and_eq_true,Bool.not_eq_true'] at hc
 refine .inr ⟨b,[b2],hc.2,fun x hx=>?_⟩
 simp at hx
 rcases hx with rfl | rfl
 ·exact⟨o,ho,hc.1.1,SH hn,h⟩
 ·exact⟨o2,ho2,hc.1.2,SH hn2,h2⟩
theorem Ov:HS P n w0 M Q l Rs F i D L []:=trivial
theorem Qr (hr:reaches Rs i j=true)(h:HS P n w0 M Q l Rs F i D L A):HS P n w0 M Q l Rs F i D L (j :: A):=⟨.inl hr,h⟩
theorem TL {o:Oper}{d:Nat}{v v':Value}(ho:l[j]?=some o)(hok:E8 P n w0 M Q l.toArray F L o D v')(hl:Np j D=some (d,v))(e:v'=v)(h:HS P n w0 M Q l Rs F i D L A):HS P n w0 M Q l Rs F i D L (j :: A):=⟨.inr ⟨o,d,v,ho,hl,e ▸ hok⟩,h⟩
theorem Rn {o:Oper}{X:Value→List AJ→Prop}{ops:Array Oper}{d:Nat}{v:Value}{F':List (Nat × Value)}{L':List AJ}(hd:o.dst=some d)(h:X v L'):GL P n w0 M ops (QK (PK n w0 M o X) Q) [] ((d,v) :: F') L':=by
 intro a w hF hS
 exact⟨v,L',fun d' hd'=>(by rw [hd] at hd';cases hd';exact hF.get d v (by simp [lk])),hF.defers,hF.size,hS,h⟩
theorem Yw {o:Oper}{X:Value→List AJ→Prop}{ops:Array Oper}{F':List (Nat × Value)}{L':List AJ}(hd:o.dst=none)(h:X undef L'):GL P n w0 M ops (QK (PK n w0 M o X) Q) [] F' L':=by
 intro a w hF hS
 exact⟨undef,L',fun d' hd'=>(by rw [hd] at hd';cases hd'),hF.defers,hF.size,hS,h⟩
theorem bz (h:EX P n w0 M op T (DS D Bl.toList++F) L v):E8 P n w0 M Q l.toArray F L ⟨some d,op,T,pos,Bl,none⟩ D v:=
 fun a w K hF hS hK=>by simp only [Region.wanted,if_true];exact h a w K Q _ _ _ _ hF hS hK
theorem bw (hw:∀ a,Fr n a (DS D Bl.toList++F)→∀ b,Region.wanted ⟨some d,op,T,pos,Bl,some (j,b)⟩ (yielded l.toArray a.tmps)=(match b with | true=>c && y | false=>c && !y)){b:Bool}
  (h:c=true→y=b→EX P n w0 M op T (DS D Bl.toList++F) L v):E8 P n w0 M Q l.toArray F L ⟨some d,op,T,pos,Bl,some (j,b)⟩ D (cv (match b with | true=>c && y | false=>c && !y) v):=fun a w K hF hS hK=>by
 rw [hw a hF b]
 cases c<;>cases y<;>cases b<;>simp [cv] at hK ⊢<;>first | exact h rfl rfl a w K Q _ _ _ _ hF hS hK | exact hK w hS
theorem VA {F:List (Nat × Value)}{ops:Array Oper}{a:Go.Act}{d:Nat}{op:Op}{T:TypeId}{pos:String}{Bl:Array Edge}{j t:Nat}{y:Bool}(hF:Fr n a F)(hj:(ops[j]?).bind (·.dst)=some t)(hb:lk t F=some (.bool y))(b:Bool):Region.wanted ⟨some d,op,T,pos,Bl,some (j,b)⟩ (yielded ops a.tmps)=(match b with | true=>true && y | false=>true && !y):=by
 simp only [Region.wanted,D0 hF hj hb];cases y<;>cases b<;>rfl
theorem dk (hj:(l.toArray[j]?).bind (·.dst)=some t)(hb:lk t (DS D Bl.toList++F)=some (.bool y))(h:y=true→EX P n w0 M op T (DS D Bl.toList++F) L v):E8 P n w0 M Q l.toArray F L ⟨some d,op,T,pos,Bl,some (j,true)⟩ D (cv y v):=by
 have:=bw (P:=P) (w0:=w0) (M:=M) (Q:=Q) (L:=L) (T:=T) (d:=d) (pos:=pos) (op:=op) (v:=v) (c:=true) (y:=y) (b:=true) (fun _ hF b=>VA hF hj hb b) (fun _=>h)
 simpa using this
theorem dj (hj:(l.toArray[j]?).bind (·.dst)=some t)(hb:lk t (DS D Bl.toList++F)=some (.bool y))(h:y=false→EX P n w0 M op T (DS D Bl.toList++F) L v):E8 P n w0 M Q l.toArray F L ⟨some d,op,T,pos,Bl,some (j,false)⟩ D (cv (!y) v):=by
 have:=bw (P:=P) (w0:=w0) (M:=M) (Q:=Q) (L:=L) (T:=T) (d:=d) (pos:=pos) (op:=op) (v:=v) (c:=true) (y:=y) (b:=false) (fun _ hF b=>VA hF hj hb b) (fun _=>h)
 simpa using this
theorem ZA (hj:(l.toArray[j]?).bind (·.dst)=some t)(hb:lk t (DS D Bl.toList++F)=some (cv c (.bool y)))(h:c=true→y=true→EX P n w0 M op T (DS D Bl.toList++F) L v):E8 P n w0 M Q l.toArray F L ⟨some d,op,T,pos,Bl,some (j,true)⟩ D (cv (c && y) v):=
 bw (b:=true) (fun _ hF b=>Rh hF hj hb b) h
theorem Y9 (hj:(l.toArray[j]?).bind (·.dst)=some t)(hb:lk t (DS D Bl.toList++F)=some (cv c (.bool y)))(h:c=true→y=false→EX P n w0 M op T (DS D Bl.toList++F) L v):E8 P n w0 M Q l.toArray F L ⟨some d,op,T,pos,Bl,some (j,false)⟩ D (cv (c && !y) v):=
 bw (b:=false) (fun _ hF b=>Rh hF hj hb b) h
theorem iG (hj:(l.toArray[j]?).bind (·.dst)=some t)(hb:lk t (DS D Bl.toList++F)=some (.bool b))(h:EX P n w0 M op T (DS D Bl.toList++F) L v):E8 P n w0 M Q l.toArray F L ⟨some d,op,T,pos,Bl,some (j,b)⟩ D v:=fun a w K hF hS hK=>by
 rw [show Region.wanted ⟨some d,op,T,pos,Bl,some (j,b)⟩ (yielded l.toArray a.tmps)=true by simp [Region.wanted,D0 hF hj hb],if_pos rfl]
 exact h a w K Q _ _ _ _ hF hS hK
theorem ZB (hj:(l.toArray[j]?).bind (·.dst)=some t)(hb:lk t (DS D Bl.toList++F)=some (.bool c))(hc:(c == b)=false):E8 P n w0 M Q l.toArray F L ⟨some d,op,T,pos,Bl,some (j,b)⟩ D undef:=fun a w K hF hS hK=>by
 rw [show Region.wanted ⟨some d,op,T,pos,Bl,some (j,b)⟩ (yielded l.toArray a.tmps)=false by simp [Region.wanted,D0 hF hj hb];simpa using hc,if_neg (by simp)]
 exact hK w hS
theorem TA (hj:(l.toArray[j]?).bind (·.dst)=some t)(hb:lk t (DS D Bl.toList++F)=some undef):E8 P n w0 M Q l.toArray F L ⟨some d,op,T,pos,Bl,some (j,b)⟩ D undef:=fun a w K hF hS hK=>by
 have hy:yielded l.toArray a.tmps j=none:=by
  unfold yielded
  rw [hj]
  simp [hF.get t _ hb]
  rfl
 rw [show Region.wanted ⟨some d,op,T,pos,Bl,some (j,b)⟩ (yielded l.toArray a.tmps)=false by simp [Region.wanted,hy],if_neg (by simp)]
 exact hK w hS
end
end
end Go.Ing
/- Engine, part 13: structs held against one another; parts of strings and slices; bits. -/
namespace Go.Ing
open Go
theorem fK {α:Type}[DecidableEq α][BEq α][LawfulBEq α](x y:α):(x == y)=decide (x=y):=by
 by_cases h:x=y<;>simp [h]
theorem AN {α:Type}{c:Bool}{a b:α}(h:c=true):(if c=true then a else b)=a:=if_pos h
theorem AB {α:Type}{c:Bool}{a b:α}(h:c=false):(if c=true then a else b)=b:=if_neg (by rw [h];decide)
def Mw (P:Program)(k T:Nat){α:Type}[DecidableEq α](val:α→Value):Prop:=∀ d x y w,(Op.equalIn (d+k) T (val x) (val y)).run P w = .ok (decide (x=y)) w
theorem Mw.up {P:Program}{k k' T:Nat}{α:Type}[DecidableEq α]{val:α→Value}(h:Mw P k T val)(hk:k≤k'):Mw P k' T val:=fun d x y w=>by
 have:=h (d+(k' - k)) x y w
 rwa [show d+(k' - k)+k=d+k' by omega] at this
theorem WY {P:Program}{T:Nat}{k:IntKind}(hu:P.underlying T=some (.int k)):Mw P 1 T (fun n:Int=> .int k n):=fun d x y w=>by
 rw [run_equalIn_int w d T k k x y hu,fK]
theorem Ys {P:Program}{T:Nat}(hu:P.underlying T=some .bool):Mw P 1 T (fun b:Bool=> .bool b):=fun d x y w=>by
 rw [run_equalIn_bool w d T x y hu,fK]
theorem bh {P:Program}{T:Nat}(hu:P.underlying T=some .string):Mw P 1 T (fun s:AL=>Ag s):=fun d x y w=>by
 rw [run_equalIn_string w d T _ _ hu,ByteArray.toList_mk,ByteArray.toList_mk,fK]
def VT (P:Program)(T sz:Nat){β:Type}(eb:β→List Value)(val:β→Value):Prop:=(S3 P T sz∧∀ y,val y = .agg (eb y).toArray)∨(R0 P T∧sz=1∧∀ y,eb y = [val y])
theorem K3 {P:Program}{α β:Type}{ea:α→List Value}{eb:β→List Value}{o sz T:Nat}{g:α→β}{s:α→β→α}{val:β→Value}(hT:VT P T sz eb val)(hl:Ac ea eb o sz g s)(x:α)(w:World):(part T (ea x).toArray o).run P w = .ok (val (g x)) w:=by
 have hg:=hl.get x
 have hb:=hl.Yn x
 rcases hT with ⟨hT,hv⟩ | ⟨hT,hs,hv⟩
 ·have h1:=hT.1 w
  have h2:=hT.2 w
  have hx2:(ea x).toArray.extract o (o+sz)=(eb (g x)).toArray:=by
   rw [← hg];apply Array.ext';simp [List.extract_eq_take_drop]
  simp [part,h1,h2,hv]
  exact hg
 ·have h1:=hT w
  subst hs
  rw [hv,List.drop_eq_getElem_cons (by omega),List.take_succ_cons,List.take_zero] at hg
  have hc:(ea x)[o]?=some (val (g x)):=by
   rw [List.getElem?_eq_getElem (by omega),List.head_eq_of_cons_eq hg]
  simp [part,h1,hc]
inductive XL (P:Program)(k:Nat){α:Type}(ea:α→List Value):List Field→(α→α→Bool)→Prop where
 | nil:XL P k ea [] (fun _ _=>true)
 | cons {f : Field} {fs : List Field} {r : α → α → Bool} {β : Type} [DecidableEq β] {eb : β → List Value} {val : β → Value} {k' o sz : Nat} {g : α → β} {s : α → β → α} (hn : f.name ≠ "_") (ho : f.offset = o) (hT : VT P f.type sz eb val) (hl : Ac ea eb o sz g s) (he : Mw P k' f.type val) (hk : k' ≤ k) (h : XL P k ea fs r) :
   XL P k ea (f :: fs) (fun x y=>decide (g x=g y) && r x y)
theorem XL.run {P:Program}{k:Nat}{α:Type}{ea:α→List Value}{fs:List Field}{r:α→α→Bool}(h:XL P k ea fs r)(d:Nat)(x y:α)(w:World):(Op.eqFields (d+k) (ea x).toArray (ea y).toArray fs).run P w = .ok (r x y) w:=by
 induction h with
 | nil=>rfl
 | cons hn ho hT hl he hk _ ih=>
  rename_i f fs r β _ eb val k' o sz g s _
  have h1:=K3 hT hl x w
  have h2:=K3 hT hl y w
  have h3:=(he.up hk) d (g x) (g y) w
  rw [← ho] at h1 h2
  simp only [Op.eqFields,ne_eq,hn,not_false_iff,if_true,Sem.run_bind,h1,h2,h3,Result.andThen_ok]
  cases hd:decide (g x=g y) with
  | true=>simpa using ih
  | false=>rfl
theorem F0 {P:Program}{k T:Nat}{α:Type}[DecidableEq α]{ea:α→List Value}{fs:Array Field}{r:α→α→Bool}(hu:P.underlying T=some (.struct fs))(hp:P.stoodInHeld T=false)(h:XL P k ea fs.toList r)(hr:∀ x y,r x y=decide (x=y)):Mw P (k+1) T (fun x:α=> .agg (ea x).toArray):=fun d x y w=>by
 have hf:P.fieldsOf T=fs:=by simp [Program.fieldsOf,hu]
 rw [show d+(k+1)=(d+k)+1 from rfl,run_equalIn_struct w (d+k) T _ _ (by rw [hf];exact hu) hp,hf,h.run,hr]
theorem Nf {P:Program}{d E c:Nat}{xs ys:Array Value}{q:Nat→Bool}{n:Nat}{w:World}(h:∀ i,i < n→(do
   let a ← part E xs (i * c)
   let b ← part E ys (i * c)
   Op.equalIn d E a b:Sem Bool).run P w = .ok (q i) w):∀(l:List Nat),(∀ i∈l,i < n)→(Op.eqItems d E c xs ys l).run P w = .ok (l.all q) w
 | [],_=>rfl
 | i :: l,hl=>by
  have h1:=h i (hl i (by simp))
  have h2:=Nf h l fun j hj=>hl j (by simp [hj])
  simp only [Op.eqItems,List.all_cons]
  simp only [Sem.run_bind] at h1 ⊢
  revert h1
  generalize (part E xs (i * c)).run P w=r1
  cases r1 with
  | halt x w1=>intro h1;simp [Result.andThen] at h1
  | ok a w1=>
   simp only [Result.andThen_ok]
   generalize (part E ys (i * c)).run P w1=r2
   cases r2 with
   | halt x w1=>intro h1;simp [Result.andThen] at h1
   | ok b w2=>
    simp only [Result.andThen_ok]
    intro h1
    rw [h1]
    simp only [Result.andThen_ok]
    cases q i with
    | true=>simpa using h2
    | false=>rfl
theorem WV {α:Type}[DecidableEq α][Inhabited α]{n:Nat}(x y:Vector α n):((List.range n).all fun i=>decide (x.at (i:Int)=y.at (i:Int)))=decide (x=y):=by
 rw [Bool.eq_iff_iff,List.all_eq_true,decide_eq_true_iff]
 constructor
 ·intro h
  apply Vector.ext
  intro i hi
  have:=h i (List.mem_range.2 hi)
  simpa [Vector.at,List.getD,hi] using this
 ·rintro rfl i _
  simp
theorem L9 {P:Program}{k T n E sz:Nat}{α:Type}[DecidableEq α][Inhabited α]{e:α→List Value}{val:α→Value}(fe:Flat e sz)(hu:P.underlying T=some (.array n E))(hi:(P.info? E).isSome=true)(hs:P.cellsOf E=sz)(hT:VT P E sz e val)(he:Mw P k E val):Mw P (k+1) T (fun v:Vector α n=> .agg (BO e v).toArray):=fun d x y w=>by
 obtain⟨i,hi⟩:=Option.isSome_iff_exists.1 hi
 rw [show d+(k+1)=(d+k)+1 from rfl,run_equalIn_array w (d+k) _ _ hu hi,hs,← WV]
 refine Nf (n:=n) (fun i hi=>?_) _ fun i hi=>List.mem_range.1 hi
 have hl:=Ac.arr (n:=n) fe (i:=(i:Int)) (by omega) (by omega)
 have h1:=K3 hT hl x w
 have h2:=K3 hT hl y w
 rw [Int.toNat_natCast] at h1 h2
 simp only [Sem.run_bind,h1,h2,Result.andThen_ok]
 exact he d _ _ w
section
variable {P:Program} {n:Nat} {w0:World} {M:List Nat} {Q:Exit→Go.Act→World→Prop} {F F':List (Nat × Value)} {L L':List AJ} {ops:Array Oper} {rest:List Oper}
theorem VK {α:Type}[DecidableEq α]{ea:α→List Value}{k T U V:Nat}{x y:Operand}{X Y:α}(he:Mw P k T (fun x:α=> .agg (ea x).toArray))(hk:k≤10000)(hg:P.eqGuardType P.depth T=false)(hx:ev F x=some (.agg (ea X).toArray))(hy:ev F y=some (.agg (ea Y).toArray)):PS P n w0 M (.binOp .eql T x y V) U F L (.bool (decide (X=Y))) L:=Bj fun a w hF=>by
 have h1:=run_eqGuard_agg w .eql T x y (ea X).toArray (ea Y).toArray hg
 have h2:=run_eql_struct (P:=P) w T (ea X).toArray (ea Y).toArray
 rw [show(10000:Nat)=(10000 - k)+k by omega,he] at h2
 simp [execOp,hF.ev hx,hF.ev hy,h1,h2]
theorem VR {α:Type}[DecidableEq α]{ea:α→List Value}{k T U V:Nat}{x y:Operand}{X Y:α}(he:Mw P k T (fun x:α=> .agg (ea x).toArray))(hk:k≤10000)(hg:P.eqGuardType P.depth T=false)(hx:ev F x=some (.agg (ea X).toArray))(hy:ev F y=some (.agg (ea Y).toArray)):PS P n w0 M (.binOp .neq T x y V) U F L (.bool (!decide (X=Y))) L:=Bj fun a w hF=>by
 have h1:=run_eqGuard_agg w .neq T x y (ea X).toArray (ea Y).toArray hg
 have h2:=run_neq_struct (P:=P) w T (ea X).toArray (ea Y).toArray
 rw [show(10000:Nat)=(10000 - k)+k by omega,he] at h2
 simp [execOp,hF.ev hx,hF.ev hy,h1,h2]

/-! #### bits -/
theorem ez {U V T:TypeId}{x y:Operand}{k k':IntKind}{a b c:Int}(hx:ev F x=some (.int k a))(hy:ev F y=some (.int k' b))(h0:0≤b)(hc:k.wrap (a * 2 ^ min b.toNat k.bits)=c):PS P n w0 M (.binOp .shl U x y V) T F L (.int k c) L:=Bj fun e w hF=>by
 have hn:¬ b < 0:=by omega
 simp [execOp,hF.ev hx,hF.ev hy,eqGuard,binOp,Op.shift,hn,hc]
theorem eu {U V T:TypeId}{x y:Operand}{k:IntKind}{a b c:Int}(hx:ev F x=some (.int k a))(hy:ev F y=some (.int k b))(hc:k.wrap ((BitVec.ofInt k.bits a ||| BitVec.ofInt k.bits b).toNat:Int)=c):PS P n w0 M (.binOp .or U x y V) T F L (.int k c) L:=Bj fun e w hF=>by
 simp [execOp,hF.ev hx,hF.ev hy,eqGuard,binOp,Op.intBits,-BitVec.toNat_or,-BitVec.toNat_and,hc]
theorem Kl {U V T:TypeId}{x y:Operand}{k:IntKind}{a b c:Int}(hx:ev F x=some (.int k a))(hy:ev F y=some (.int k b))(hc:k.wrap ((BitVec.ofInt k.bits a &&& BitVec.ofInt k.bits b).toNat:Int)=c):PS P n w0 M (.binOp .and U x y V) T F L (.int k c) L:=Bj fun e w hF=>by
 simp [execOp,hF.ev hx,hF.ev hy,eqGuard,binOp,Op.intBits,-BitVec.toNat_or,-BitVec.toNat_and,hc]
theorem aN {a b:Nat}(ha:a < 256)(hb:b < 256):IntKind.i64.wrap ((BitVec.ofInt 64 ((a:Int) * 256) ||| BitVec.ofInt 64 (b:Int)).toNat:Int)=(a:Int) * 256+b:=by
 have e:(BitVec.ofInt 64 ((a:Int) * 256) ||| BitVec.ofInt 64 (b:Int)).toNat=a * 256+b:=by
  rw [BitVec.toNat_or,show((a:Int) * 256)=((a * 256:Nat):Int) by simp,BitVec.ofInt_natCast,BitVec.ofInt_natCast,BitVec.toNat_ofNat,BitVec.toNat_ofNat,Nat.mod_eq_of_lt (by omega),Nat.mod_eq_of_lt (by omega)]
  have:=Nat.shiftLeft_add_eq_or_of_lt (i:=8) (b:=b) (by omega) a
  rw [Nat.shiftLeft_eq] at this
  exact this.symm
 rw [e]
 exact IntWalk.i64_in _ (by omega)
theorem fA {U V T:TypeId}{x:Operand}{c:UInt8}(hu:P.underlying V=some (.int .i64))(hU:P.underlying U=some (.int .u8))(hx:ev F x=some (.int .u8 (c.toNat:Int))):PS P n w0 M (.convert U V x) T F L (.int .i64 (c.toNat:Int)) L:=
 TI hu hU hx (IntWalk.i64_in _ (by have:=c.toNat_lt;omega))
theorem cH {U V T:TypeId}{x y:Operand}{k':IntKind}{c:UInt8}(hx:ev F x=some (.int .i64 (c.toNat:Int)))(hy:ev F y=some (.int k' 8)):PS P n w0 M (.binOp .shl U x y V) T F L (.int .i64 ((c.toNat:Int) * 256)) L:=
 ez hx hy (by decide) (IntWalk.i64_in ((c.toNat:Int) * 256) (by have:=c.toNat_lt;omega))
theorem eo {U V T:TypeId}{x y:Operand}{c d:UInt8}(hx:ev F x=some (.int .i64 ((c.toNat:Int) * 256)))(hy:ev F y=some (.int .i64 (d.toNat:Int))):PS P n w0 M (.binOp .or U x y V) T F L (.int .i64 ((c.toNat:Int) * 256+(d.toNat:Int))) L:=
 eu hx hy (aN c.toNat_lt d.toNat_lt)

/-! #### parts of strings and slices -/
theorem extract_mk (s:AL)(l h:Nat):(ByteArray.mk s.toArray).extract l h=ByteArray.mk ((s.take h).drop l).toArray:=by
 apply ByteArray.ext
 rw [ByteArray.data_extract]
 apply Array.ext'
 simp [List.extract_eq_take_drop,List.drop_take]
theorem cI {T U:TypeId}{x y z:Operand}{s:AL}{k k':IntKind}{a b:Int}(hu:P.underlying T=some .string)(hx:ev F x=some (Ag s))(hy:ev F y=some (.int k a))(hz:ev F z=some (.int k' b))(h0:0≤a)(h1:a≤b)(h2:b≤s.length):PS P n w0 M (.slice T x (some y) (some z) none) U F L (Ag ((s.take b.toNat).drop a.toNat)) L:=Bj fun e w hF=>by
 have hb:0≤b:=by omega
 have hab:a≤(b.toNat:Int):=by omega
 have hb':b≤((ByteArray.mk s.toArray).size:Int):=h2
 simp only [execOp,hF.ev hx,Option.map_some,Option.map_none,hF.ev hy,hF.ev hz,Instr.sliceAt,Instr.slice,underlying]
 simp [hu,Instr.sliceBounds,Instr.sliceBound,asIntOf,hb,hb',h0,hab,extract_mk]
 intro h;omega
theorem ZM {T U:TypeId}{x y:Operand}{s:AL}{k:IntKind}{a:Int}(hu:P.underlying T=some .string)(hx:ev F x=some (Ag s))(hy:ev F y=some (.int k a))(h0:0≤a)(h1:a≤s.length):PS P n w0 M (.slice T x (some y) none none) U F L (Ag (s.drop a.toNat)) L:=Bj fun e w hF=>by
 have hb':a≤((ByteArray.mk s.toArray).size:Int):=h1
 simp only [execOp,hF.ev hx,Option.map_some,Option.map_none,hF.ev hy,Instr.sliceAt,Instr.slice,underlying]
 simp [hu,Instr.sliceBounds,Instr.sliceBound,asIntOf,hb',h0,extract_mk,List.drop_take]
 congr 2
 rw [Mn,← List.drop_take]
 simp
theorem ZL {T U:TypeId}{x z:Operand}{s:AL}{k:IntKind}{b:Int}(hu:P.underlying T=some .string)(hx:ev F x=some (Ag s))(hz:ev F z=some (.int k b))(h0:0≤b)(h1:b≤s.length):PS P n w0 M (.slice T x none (some z) none) U F L (Ag (s.take b.toNat)) L:=Bj fun e w hF=>by
 have hb':b≤((ByteArray.mk s.toArray).size:Int):=h1
 simp only [execOp,hF.ev hx,Option.map_some,Option.map_none,hF.ev hz,Instr.sliceAt,Instr.slice,underlying]
 simp [hu,Instr.sliceBounds,Instr.sliceBound,asIntOf,hb',h0,extract_mk]
def Hd.cut (h:Hd)(l r sz:Nat):Hd:=⟨if h.cap=l then h.a else h.a.map (·.add (l * sz)),r - l,h.cap - l⟩
theorem Rd.cut {w:World}{h:Hd}{T sz:Nat}{cs:List Value}(hr:Rd w h T sz cs){l r:Nat}(h1:l≤r)(h2:r≤h.len)(h3:h.len≤h.cap):Rd w (h.cut l r sz) T sz ((cs.take (r * sz)).drop (l * sz)):=by
 have hlen:((cs.take (r * sz)).drop (l * sz)).length=(r - l) * sz:=by
  rw [List.length_drop,List.length_take,Nat.min_eq_left (by rw [← hr.1];exact Nat.mul_le_mul_right sz h2),Nat.sub_mul]
 refine⟨by simp only [Hd.cut];exact hlen.symm,fun hne=>?_⟩
 have hpos:0 < (r - l) * sz:=by
  rw [← hlen];exact List.length_pos_iff.2 hne
 have hrl:0 < r - l:=Nat.pos_of_mul_pos_right hpos
 have hcs:cs≠ []:=fun e=>by subst e;simp at hne
 obtain⟨b,o,C,fz,e1,e2,e3,e4,e5⟩:=hr.2 hcs
 have hm1:r * sz≤h.len * sz:=Nat.mul_le_mul_right sz h2
 have hm2:l * sz≤r * sz:=Nat.mul_le_mul_right sz h1
 rw [hr.1] at hm1
 refine⟨b,o+l * sz,C,fz,?_,e2,e3,?_,?_⟩
 ·simp only [Hd.cut]
  rw [if_neg (by omega),e1]
  simp [EC]
 ·rw [hlen,Nat.sub_mul];omega
 ·rw [hlen,← e5,Nat.sub_mul,List.take_take,Nat.min_eq_left hm1,List.drop_take,List.drop_drop]
theorem MK {α:Type}{e:α→List Value}{sz:Nat}(fe:Flat e sz)(xs:List α){l r:Nat}:((xs.flatMap e).take (r * sz)).drop (l * sz)=((xs.take r).drop l).flatMap e:=by
 have ht:∀(xs:List α) (r:Nat),(xs.flatMap e).take (r * sz)=(xs.take r).flatMap e:=by
  intro xs
  induction xs with
  | nil=>simp
  | cons x xs ih=>
   intro r
   cases r with
   | zero=>simp
   | succ r=>rw [List.flatMap_cons,List.take_succ_cons,List.flatMap_cons,List.take_append,fe.len,Nat.add_mul,Nat.one_mul,Nat.add_sub_cancel,ih,List.take_of_length_le (by rw [fe.len];omega)]
 have hd:∀(xs:List α) (l:Nat),(xs.flatMap e).drop (l * sz)=(xs.drop l).flatMap e:=by
  intro xs
  induction xs with
  | nil=>simp
  | cons x xs ih=>
   intro l
   cases l with
   | zero=>simp
   | succ l=>rw [List.flatMap_cons,List.drop_succ_cons,← ih,List.drop_append,fe.len,Nat.add_mul,Nat.one_mul,Nat.add_sub_cancel,List.drop_eq_nil_of_le (by rw [fe.len];omega),List.nil_append]
 rw [ht,hd]
theorem Ot {T U E sz:TypeId}{x y:Operand}{h:Hd}{k:IntKind}{a:Int}(hu:P.underlying T=some (.slice E))(hs:Sz P E sz)(hx:ev F x=some h.val)(hy:ev F y=some (.int k a))(h0:0≤a)(h1:a≤(h.len:Int)):PS P n w0 M (.slice T x (some y) none none) U F L (h.cut a.toNat h.len sz).val L:=Bj fun e w hF=>by
 have hs':=hs w
 simp only [execOp,hF.ev hx,Option.map_some,Option.map_none,hF.ev hy,Hd.val,Instr.sliceAt,Instr.slice,underlying]
 simp [hu,Instr.sliceBounds,Instr.sliceBound,asIntOf,h1,h0,hs',Hd.cut]
def VI (w0:World)(M:List Nat)(L:List AJ)(h:Hd):Prop:=∀ w,St w0 M w L→h.len≤h.cap
theorem VI.of {h:Hd}(hc:h.len≤h.cap):VI w0 M L h:=fun _ _=>hc
theorem VI.own {h:Hd}{T sz:Nat}{cs:List Value}(hm:AJ.own h T sz cs∈L):VI w0 M L h:=fun w hS=>by
 rcases hS.ok _ hm with ⟨rfl,_⟩ | ⟨b,o,C,fz,h1,h2,h3,h4,h5,h6,_⟩
 ·exact Nat.le_refl _
 ·exact h6
theorem Kn.cut {α:Type}{e:α→List Value}{T sz:Nat}{h:Hd}{xs:List α}(fe:Flat e sz)(hk:Kn w0 M L h T sz (xs.flatMap e)){l r:Nat}(h1:l≤r)(h2:r≤h.len)(h3:VI w0 M L h):Kn w0 M L (h.cut l r sz) T sz (((xs.take r).drop l).flatMap e):=fun w hS=>by
 rw [← MK fe];exact(hk w hS).cut h1 h2 (h3 w hS)
theorem VM {U V T E:TypeId}{x:Operand}{h:Hd}(hu:P.underlying U=some (.slice E))(hx:ev F x=some h.val):PS P n w0 M (.binOp .eql U x (.const (.slice none 0 0)) V) T F L (.bool h.a.isNone) L:=Bj fun e w hF=>by
 have h1:=run_equalIn_slice_nil (P:=P) w 9999 U E h.a h.len h.cap hu
 have h3:ev F (.const (.slice none 0 0))=some (.slice none 0 0):=rfl
 have h2:(binOp .eql U h.val (.slice none 0 0)).run P w = .ok (.bool h.a.isNone) w:=by
  simp only [binOp,Hd.val]
  simp [Op.equal,Op.maxDepth,h1]
 simp [execOp,hF.ev hx,hF.ev h3,eqGuard,Hd.val] at h2 ⊢
 rw [h2];rfl

/-! #### pieces -/
theorem XO {l:List Oper}(T sz:Nat)(h:GL P n w0 M ops Q l F (AJ.own ⟨none,0,0⟩ T sz [] :: L)):GL P n w0 M ops Q l F L:=fun a w hF hS=>h a w hF (hS.BT T sz)
theorem Y4 {c:Code}(T sz:Nat)(h:G P n w0 M c Q F (AJ.own ⟨none,0,0⟩ T sz [] :: L)):G P n w0 M c Q F L:=fun a w hF hS=>h a w hF (hS.BT T sz)
theorem Ar {e:Exit}{A K:List AJ}(hp:AK L A K)(h:GQ n w0 M Q e F (A++K)):GQ n w0 M Q e F L:=fun a w hF hS=>h a w hF (hS.perm hp.perm)
theorem By {c:Code}{A K:List AJ}(hp:AK L A K)(h:G P n w0 M c Q F (A++K)):G P n w0 M c Q F L:=fun a w hF hS=>h a w hF (hS.perm hp.perm)
theorem Az {e:Exit}{A K:List AJ}(h:GQ n w0 M Q e F A):GQ n w0 M Q e F (A++K):=fun a w hF hS=>h a w hF hS.AM
theorem Hd.We:Hd.Z ⟨none,0,0⟩:=⟨fun _ h=>(by cases h),fun h=>absurd rfl h⟩
theorem eg {T U E i:Nat}{h:Hd}{x:Operand}{xs:AL}(hx:ev F x=some (h.ptr i 1 0))(hT:R0 P T)(hk:Kn w0 M L h E 1 (xs.flatMap CE))(hi:i < xs.length):PS P n w0 M (.load T x) U F L (.int .u8 ((xs.getD i 0).toNat:Int)) L:=by
 have e:xs.getD i 0=xs[i]:=by simp [List.getD,hi]
 rw [e]
 exact Rv hx hT SI (Ac.id SI.len SI.one) hk hi rfl

/-! #### calls that read what they are handed -/
def Cz (P:Program)(f:FuncId)(args:Array Value)(A:List AJ)(H:World→Prop)(Post:Value→List AJ→Prop):Prop:=
 ∀ w,St w (BV A) w A→H w→Ch P f args w fun v w'=>∃ B,Post v B∧St w (BV A) w' B
theorem Rd.Gh {w:World}{h:Hd}{T sz:Nat}{α:Type}{e:α→List Value}{xs:List α}(fe:Flat e sz)(hsz:0 < sz)(hr:Rd w h T sz (xs.flatMap e)):h.len=xs.length:=by
 have h1:=hr.1
 rw [CW fe.len] at h1
 exact Nat.eq_of_mul_eq_mul_right hsz h1

/-! #### slices of the call's own, by what they mean -/
theorem Q5 {α:Type}{e:α→List Value}{sz:Nat}(fe:Flat e sz)(xs:List α)(r:Nat):(xs.flatMap e).take (r * sz)=(xs.take r).flatMap e:=by
 have:=MK fe xs (l:=0) (r:=r)
 simpa using this
theorem Qp {α:Type}{e:α→List Value}{d T U E sz:Nat}{x y:Operand}{pos:String}{Bl:Array Edge}{h:Hd}{xs:List α}{kd:IntKind}{i:Int}{Lf:AJ→List AJ}(fe:Flat e sz)(hd:Nat.blt d n=true)(hT:P.underlying T=some (.slice E))(hs:Sz P E sz)(hx:ev F x=some h.val)(hy:ev F y=some (.int kd i))(h0:0≤i)(h1:i≤(h.len:Int))(hU:∀ r,Ip L (AJ.own h E sz (xs.flatMap e)) r (Lf r))
  (k:GL P n w0 M ops Q rest ((d,Hd.val ⟨h.a,i.toNat,h.cap⟩) :: F) (Lf (AJ.own ⟨h.a,i.toNat,h.cap⟩ E sz ((xs.take i.toNat).flatMap e)))):GL P n w0 M ops Q (⟨some d, .slice T x none (some y) none,U,pos,Bl,none⟩ :: rest) F L:=
 Yt hd hT hs hx hy h0 h1 hU (by rw [Q5 fe];exact k)
theorem F1 {α:Type}{e:α→List Value}{d T U U2 E sz Gz gl:Nat}{x y:Operand}{pos:String}{Bl:Array Edge}{h:Hd}{xs zs:List α}{z yv:Value}{Lf:AJ→List AJ}(fe:Flat e sz)(hd:Nat.blt d n=true)(hu:P.underlying U=some (.slice E))(hs:Sz P E sz)(hz:ZV P E z)(hzs:z.cells.size=sz)(hby:BY P E Gz)(hb0:0 < Gz)(hsz:0 < sz)
  (hx:ev F x=some h.val) (hy:ev F y=some yv) (hk:∀ w,St w0 M w L→Src P w U2 sz yv gl (zs.flatMap e)) (hbd:(2 * (h.len+gl)+192) * Gz≤281474976710656) (hU:∀ r,Ip L (AJ.own h E sz (xs.flatMap e)) r (Lf r))
  (k:∀ h':Hd,h'.len=h.len+gl→(h.Z→h'.Z)→GL P n w0 M ops Q rest ((d,h'.val) :: F) (Lf (AJ.own h' E sz ((xs++zs).flatMap e)))):GL P n w0 M ops Q (⟨some d, .call ⟨.builtin .append,#[x,y],#[U,U2]⟩,T,pos,Bl,none⟩ :: rest) F L:=
 Oc hd hu hs hz hzs hby hb0 hsz hx hy hk fe.fH hbd hU (fun h' a b=>by rw [← List.flatMap_append];exact k h' a b)
theorem Kh {α:Type}(e:α→List Value){a:α}{d T U E sz:Nat}{x:Operand}{pos:String}{Bl:Array Edge}{v z:Value}(fe:Flat e sz)(hd:Nat.blt d n=true)(hu:P.underlying T=some (.slice E))(hs:Sz P E sz)(hz:ZV P E z)(hzs:z.cells.size=sz)(hsz:0 < sz)(hbig:sz≤16777216)(hx:ev F x=some v)(hv:v.cells=(e a).toArray)
  (k:∀ b,GL P n w0 M ops Q rest ((d,Hd.val ⟨some ⟨b,0,none⟩,1,1⟩) :: F) (AJ.own ⟨some ⟨b,0,none⟩,1,1⟩ E sz ([a].flatMap e) :: L)):GL P n w0 M ops Q (⟨some d, .buildSlice T 1 #[(0,x)],U,pos,Bl,none⟩ :: rest) F L:=
 M0 hd hu hs hz hzs hsz hbig hx hv (fe.len a) (fun b=>by
  have:=k b
  rwa [show [a].flatMap e=e a by simp] at this)
theorem bj {α:Type}(e:α→List Value){d T U E sz:Nat}{pos:String}{Bl:Array Edge}(hd:Nat.blt d n=true)(hu:P.underlying T=some (.slice E))(hs:Sz P E sz)
  (k:∀ b,GL P n w0 M ops Q rest ((d,Hd.val ⟨some ⟨b,0,none⟩,0,0⟩) :: F) (AJ.own ⟨some ⟨b,0,none⟩,0,0⟩ E sz (([]:List α).flatMap e) :: L)):GL P n w0 M ops Q (⟨some d, .buildSlice T 0 #[],U,pos,Bl,none⟩ :: rest) F L:=by
 refine E7 (R:=fun v L'=>∃ b,v=Hd.val ⟨some ⟨b,0,none⟩,0,0⟩∧L'=AJ.own ⟨some ⟨b,0,none⟩,0,0⟩ E sz (([]:List α).flatMap e) :: L) hd ?_ (fun v L' ⟨b,e1,e2⟩=>by subst e1;subst e2;exact k b)
 intro a w hF hS
 have hw1:=hS.alloc E []
 have hS':St w0 M (w.alloc (.cells (List.toArray []) E)) (AJ.own ⟨some ⟨w.heap.size,0,none⟩,0,0⟩ E sz (([]:List α).flatMap e) :: L):=by
  refine hw1.Dy (.head) rfl rfl rfl (Nat.le_refl _) (fun _ _ _=>rfl) ?_ (fun b hb=>?_)
  ·exact .inr ⟨w.heap.size,0,[],(0,0),rfl,by simp,hw1.ok _ (List.mem_cons_self ..),fun _ _ h=>by simp at h,by simp,Nat.le_refl _,by simp,by simp⟩
  ·simp [AJ.own] at hb
   subst hb
   exact⟨by simp, .inl (by simp [AJ.box])⟩
 refine⟨_,_,w.alloc (.cells (List.toArray []) E),⟨w.heap.size,rfl,rfl⟩,?_,hS'⟩
 simp only [execOp,Instr.buildSlice,underlying,Sem.run_bind,run_program,hu,Result.andThen_ok,Sem.run_pure,hs w]
 simp [Instr.fill,newRow,Hd.val]
 congr 2
 apply Array.ext';simp
theorem Hx {α:Type}{l:List Oper}(e:α→List Value)(T sz:Nat)(h:GL P n w0 M ops Q l F (AJ.own ⟨none,0,0⟩ T sz (([]:List α).flatMap e) :: L)):GL P n w0 M ops Q l F L:=XO T sz h
theorem CG {α:Type}{c:Code}(e:α→List Value)(T sz:Nat)(h:G P n w0 M c Q F (AJ.own ⟨none,0,0⟩ T sz (([]:List α).flatMap e) :: L)):G P n w0 M c Q F L:=Y4 T sz h
theorem Wa {α:Type}{x:Exit}(e:α→List Value)(T sz:Nat)(h:GQ n w0 M Q x F (AJ.own ⟨none,0,0⟩ T sz (([]:List α).flatMap e) :: L)):GQ n w0 M Q x F L:=fun a w hF hS=>h a w hF (hS.BT T sz)
end
end Go.Ing
/- Engine: loops and ways that meet, over a state of several parts. -/
namespace Go.Ing
open Go
section
variable {P:Program} {n:Nat} {w0:World} {M:List Nat} {Q:Exit→Go.Act→World→Prop} {F:List (Nat × Value)} {L:List AJ}
def gx (n:Nat)(w0:World)(M:List Nat){α0:Type}(I:α0→Prop)(μ:α0→Nat)(Fs:α0→List (Nat × Value))(Ls:α0→List AJ)(U:List (Nat × Value))(K:List AJ)(m:Nat)(a:Go.Act)(w:World):Prop:=Y8 (σ:=α0) n w0 M (fun z=>I z) (fun z=>μ z) (fun z=>Fs z++U) (fun z=>Ls z++K) m a w
theorem A7 {α0:Type}{c:Code}{U:List (Nat × Value)}{K:List AJ}(I:α0→Prop)(μ:α0→Nat)(Ms:α0→List (Nat × Value))(Ls:α0→List AJ)(a0:α0)(h0:I a0)(hF0:F=Ms a0++U)(hL0:L=Ls a0++K)
  (round:∀(a0:α0),I a0→G P n w0 M c (Exit.then (gx n w0 M I μ Ms Ls U K (μ a0)) Q) (Ms a0++U) (Ls a0++K)):G P n w0 M (.loop c) Q F L:=
 JM (σ:=α0) (fun z=>I z) (fun z=>μ z) (fun z=>Ms z++U) (fun z=>Ls z++K) a0 h0 (by rw [hF0];exact Sub.refl _) (by rw [hL0];exact List.Sublist.refl _) (fun z h=>round z h)
theorem Aw {α0:Type}{I:α0→Prop}{μ:α0→Nat}{Ms:α0→List (Nat × Value)}{Ls:α0→List AJ}{U:List (Nat × Value)}{K:List AJ}{m:Nat}(a0:α0)(hI:I a0)(hm:μ a0 < m)(hF:Sub F (Ms a0++U))(hL:(Ls a0++K).Sublist L):GQ n w0 M (Exit.then (gx n w0 M I μ Ms Ls U K m) Q) .normal F L:=
 HG (σ:=α0) a0 hI hm hF hL
def kP (n:Nat)(w0:World)(M:List Nat){α0:Type}(I:α0→Prop)(Fs:α0→List (Nat × Value))(Ls:α0→List AJ)(U:List (Nat × Value))(K:List AJ)(a:Go.Act)(w:World):Prop:=At (σ:=α0) n w0 M (fun z=>I z) (fun z=>Fs z++U) (fun z=>Ls z++K) a w
theorem OE {α0:Type}{x y:Code}{U:List (Nat × Value)}{Lm K:List AJ}(I:α0→Prop)(Ms:α0→List (Nat × Value))(Ls:α0→List AJ)(_hU:Sub F U)(_hK:L=Lm++K)
  (hx:G P n w0 M x (Exit.then (kP n w0 M I Ms Ls U K) Q) F L) (hy:∀(a0:α0),I a0→G P n w0 M y Q (Ms a0++U) (Ls a0++K)):G P n w0 M (.seq x y) Q F L:=
 Wb (σ:=α0) (fun z=>I z) (fun z=>Ms z++U) (fun z=>Ls z++K) hx (fun z h=>hy z h)
theorem Ec {α0:Type}{I:α0→Prop}{Ms:α0→List (Nat × Value)}{Ls:α0→List AJ}{U:List (Nat × Value)}{K:List AJ}(a0:α0)(hI:I a0)(hF:Sub F (Ms a0++U))(hL:(Ls a0++K).Sublist L):GQ n w0 M (Exit.then (kP n w0 M I Ms Ls U K) Q) .normal F L:=
 WZ (σ:=α0) a0 hI hF hL
def gy (n:Nat)(w0:World)(M:List Nat){α0 α1:Type}(I:α0→α1→Prop)(μ:α0→α1→Nat)(Fs:α0→α1→List (Nat × Value))(Ls:α0→α1→List AJ)(U:List (Nat × Value))(K:List AJ)(m:Nat)(a:Go.Act)(w:World):Prop:=Y8 (σ:=α0 × α1) n w0 M (fun z=>I z.1 z.2) (fun z=>μ z.1 z.2) (fun z=>Fs z.1 z.2++U) (fun z=>Ls z.1 z.2++K) m a w
theorem CZ {α0 α1:Type}{c:Code}{U:List (Nat × Value)}{K:List AJ}(I:α0→α1→Prop)(μ:α0→α1→Nat)(Ms:α0→α1→List (Nat × Value))(Ls:α0→α1→List AJ)(a0:α0)(a1:α1)(h0:I a0 a1)(hF0:F=Ms a0 a1++U)(hL0:L=Ls a0 a1++K)
  (round:∀(a0:α0) (a1:α1),I a0 a1→G P n w0 M c (Exit.then (gy n w0 M I μ Ms Ls U K (μ a0 a1)) Q) (Ms a0 a1++U) (Ls a0 a1++K)):G P n w0 M (.loop c) Q F L:=
 JM (σ:=α0 × α1) (fun z=>I z.1 z.2) (fun z=>μ z.1 z.2) (fun z=>Ms z.1 z.2++U) (fun z=>Ls z.1 z.2++K) (a0,a1) h0 (by rw [hF0];exact Sub.refl _) (by rw [hL0];exact List.Sublist.refl _) (fun z h=>round z.1 z.2 h)
theorem BC {α0 α1:Type}{I:α0→α1→Prop}{μ:α0→α1→Nat}{Ms:α0→α1→List (Nat × Value)}{Ls:α0→α1→List AJ}{U:List (Nat × Value)}{K:List AJ}{m:Nat}(a0:α0)(a1:α1)(hI:I a0 a1)(hm:μ a0 a1 < m)(hF:Sub F (Ms a0 a1++U))(hL:(Ls a0 a1++K).Sublist L):GQ n w0 M (Exit.then (gy n w0 M I μ Ms Ls U K m) Q) .normal F L:=
 HG (σ:=α0 × α1) (a0,a1) hI hm hF hL
def kQ (n:Nat)(w0:World)(M:List Nat){α0 α1:Type}(I:α0→α1→Prop)(Fs:α0→α1→List (Nat × Value))(Ls:α0→α1→List AJ)(U:List (Nat × Value))(K:List AJ)(a:Go.Act)(w:World):Prop:=At (σ:=α0 × α1) n w0 M (fun z=>I z.1 z.2) (fun z=>Fs z.1 z.2++U) (fun z=>Ls z.1 z.2++K) a w
theorem Kk {α0 α1:Type}{x y:Code}{U:List (Nat × Value)}{Lm K:List AJ}(I:α0→α1→Prop)(Ms:α0→α1→List (Nat × Value))(Ls:α0→α1→List AJ)(_hU:Sub F U)(_hK:L=Lm++K)
  (hx:G P n w0 M x (Exit.then (kQ n w0 M I Ms Ls U K) Q) F L) (hy:∀(a0:α0) (a1:α1),I a0 a1→G P n w0 M y Q (Ms a0 a1++U) (Ls a0 a1++K)):G P n w0 M (.seq x y) Q F L:=
 Wb (σ:=α0 × α1) (fun z=>I z.1 z.2) (fun z=>Ms z.1 z.2++U) (fun z=>Ls z.1 z.2++K) hx (fun z h=>hy z.1 z.2 h)
theorem Bx {α0 α1:Type}{I:α0→α1→Prop}{Ms:α0→α1→List (Nat × Value)}{Ls:α0→α1→List AJ}{U:List (Nat × Value)}{K:List AJ}(a0:α0)(a1:α1)(hI:I a0 a1)(hF:Sub F (Ms a0 a1++U))(hL:(Ls a0 a1++K).Sublist L):GQ n w0 M (Exit.then (kQ n w0 M I Ms Ls U K) Q) .normal F L:=
 WZ (σ:=α0 × α1) (a0,a1) hI hF hL
def gz (n:Nat)(w0:World)(M:List Nat){α0 α1 α2:Type}(I:α0→α1→α2→Prop)(μ:α0→α1→α2→Nat)(Fs:α0→α1→α2→List (Nat × Value))(Ls:α0→α1→α2→List AJ)(U:List (Nat × Value))(K:List AJ)(m:Nat)(a:Go.Act)(w:World):Prop:=Y8 (σ:=α0 × α1 × α2) n w0 M (fun z=>I z.1 z.2.1 z.2.2) (fun z=>μ z.1 z.2.1 z.2.2) (fun z=>Fs z.1 z.2.1 z.2.2++U) (fun z=>Ls z.1 z.2.1 z.2.2++K) m a w
theorem Bo {α0 α1 α2:Type}{c:Code}{U:List (Nat × Value)}{K:List AJ}(I:α0→α1→α2→Prop)(μ:α0→α1→α2→Nat)(Ms:α0→α1→α2→List (Nat × Value))(Ls:α0→α1→α2→List AJ)(a0:α0)(a1:α1)(a2:α2)(h0:I a0 a1 a2)(hF0:F=Ms a0 a1 a2++U)(hL0:L=Ls a0 a1 a2++K)
  (round:∀(a0:α0) (a1:α1) (a2:α2),I a0 a1 a2→G P n w0 M c (Exit.then (gz n w0 M I μ Ms Ls U K (μ a0 a1 a2)) Q) (Ms a0 a1 a2++U) (Ls a0 a1 a2++K)):G P n w0 M (.loop c) Q F L:=
 JM (σ:=α0 × α1 × α2) (fun z=>I z.1 z.2.1 z.2.2) (fun z=>μ z.1 z.2.1 z.2.2) (fun z=>Ms z.1 z.2.1 z.2.2++U) (fun z=>Ls z.1 z.2.1 z.2.2++K) (a0,a1,a2) h0 (by rw [hF0];exact Sub.refl _) (by rw [hL0];exact List.Sublist.refl _) (fun z h=>round z.1 z.2.1 z.2.2 h)
theorem Ap {α0 α1 α2:Type}{I:α0→α1→α2→Prop}{μ:α0→α1→α2→Nat}{Ms:α0→α1→α2→List (Nat × Value)}{Ls:α0→α1→α2→List AJ}{U:List (Nat × Value)}{K:List AJ}{m:Nat}(a0:α0)(a1:α1)(a2:α2)(hI:I a0 a1 a2)(hm:μ a0 a1 a2 < m)(hF:Sub F (Ms a0 a1 a2++U))(hL:(Ls a0 a1 a2++K).Sublist L):GQ n w0 M (Exit.then (gz n w0 M I μ Ms Ls U K m) Q) .normal F L:=
 HG (σ:=α0 × α1 × α2) (a0,a1,a2) hI hm hF hL
def kR (n:Nat)(w0:World)(M:List Nat){α0 α1 α2:Type}(I:α0→α1→α2→Prop)(Fs:α0→α1→α2→List (Nat × Value))(Ls:α0→α1→α2→List AJ)(U:List (Nat × Value))(K:List AJ)(a:Go.Act)(w:World):Prop:=At (σ:=α0 × α1 × α2) n w0 M (fun z=>I z.1 z.2.1 z.2.2) (fun z=>Fs z.1 z.2.1 z.2.2++U) (fun z=>Ls z.1 z.2.1 z.2.2++K) a w
theorem OF {α0 α1 α2:Type}{x y:Code}{U:List (Nat × Value)}{Lm K:List AJ}(I:α0→α1→α2→Prop)(Ms:α0→α1→α2→List (Nat × Value))(Ls:α0→α1→α2→List AJ)(_hU:Sub F U)(_hK:L=Lm++K)
  (hx:G P n w0 M x (Exit.then (kR n w0 M I Ms Ls U K) Q) F L) (hy:∀(a0:α0) (a1:α1) (a2:α2),I a0 a1 a2→G P n w0 M y Q (Ms a0 a1 a2++U) (Ls a0 a1 a2++K)):G P n w0 M (.seq x y) Q F L:=
 Wb (σ:=α0 × α1 × α2) (fun z=>I z.1 z.2.1 z.2.2) (fun z=>Ms z.1 z.2.1 z.2.2++U) (fun z=>Ls z.1 z.2.1 z.2.2++K) hx (fun z h=>hy z.1 z.2.1 z.2.2 h)
theorem E3 {α0 α1 α2:Type}{I:α0→α1→α2→Prop}{Ms:α0→α1→α2→List (Nat × Value)}{Ls:α0→α1→α2→List AJ}{U:List (Nat × Value)}{K:List AJ}(a0:α0)(a1:α1)(a2:α2)(hI:I a0 a1 a2)(hF:Sub F (Ms a0 a1 a2++U))(hL:(Ls a0 a1 a2++K).Sublist L):GQ n w0 M (Exit.then (kR n w0 M I Ms Ls U K) Q) .normal F L:=
 WZ (σ:=α0 × α1 × α2) (a0,a1,a2) hI hF hL
def iA (n:Nat)(w0:World)(M:List Nat){α0 α1 α2 α3:Type}(I:α0→α1→α2→α3→Prop)(μ:α0→α1→α2→α3→Nat)(Fs:α0→α1→α2→α3→List (Nat × Value))(Ls:α0→α1→α2→α3→List AJ)(U:List (Nat × Value))(K:List AJ)(m:Nat)(a:Go.Act)(w:World):Prop:=Y8 (σ:=α0 × α1 × α2 × α3) n w0 M (fun z=>I z.1 z.2.1 z.2.2.1 z.2.2.2) (fun z=>μ z.1 z.2.1 z.2.2.1 z.2.2.2) (fun z=>Fs z.1 z.2.1 z.2.2.1 z.2.2.2++U) (fun z=>Ls z.1 z.2.1 z.2.2.1 z.2.2.2++K) m a w
theorem D2 {α0 α1 α2 α3:Type}{c:Code}{U:List (Nat × Value)}{K:List AJ}(I:α0→α1→α2→α3→Prop)(μ:α0→α1→α2→α3→Nat)(Ms:α0→α1→α2→α3→List (Nat × Value))(Ls:α0→α1→α2→α3→List AJ)(a0:α0)(a1:α1)(a2:α2)(a3:α3)(h0:I a0 a1 a2 a3)(hF0:F=Ms a0 a1 a2 a3++U)(hL0:L=Ls a0 a1 a2 a3++K)
  (round:∀(a0:α0) (a1:α1) (a2:α2) (a3:α3),I a0 a1 a2 a3→G P n w0 M c (Exit.then (iA n w0 M I μ Ms Ls U K (μ a0 a1 a2 a3)) Q) (Ms a0 a1 a2 a3++U) (Ls a0 a1 a2 a3++K)):G P n w0 M (.loop c) Q F L:=
 JM (σ:=α0 × α1 × α2 × α3) (fun z=>I z.1 z.2.1 z.2.2.1 z.2.2.2) (fun z=>μ z.1 z.2.1 z.2.2.1 z.2.2.2) (fun z=>Ms z.1 z.2.1 z.2.2.1 z.2.2.2++U) (fun z=>Ls z.1 z.2.1 z.2.2.1 z.2.2.2++K) (a0,a1,a2,a3) h0 (by rw [hF0];exact Sub.refl _) (by rw [hL0];exact List.Sublist.refl _) (fun z h=>round z.1 z.2.1 z.2.2.1 z.2.2.2 h)
theorem BR {α0 α1 α2 α3:Type}{I:α0→α1→α2→α3→Prop}{μ:α0→α1→α2→α3→Nat}{Ms:α0→α1→α2→α3→List (Nat × Value)}{Ls:α0→α1→α2→α3→List AJ}{U:List (Nat × Value)}{K:List AJ}{m:Nat}(a0:α0)(a1:α1)(a2:α2)(a3:α3)(hI:I a0 a1 a2 a3)(hm:μ a0 a1 a2 a3 < m)(hF:Sub F (Ms a0 a1 a2 a3++U))(hL:(Ls a0 a1 a2 a3++K).Sublist L):GQ n w0 M (Exit.then (iA n w0 M I μ Ms Ls U K m) Q) .normal F L:=
 HG (σ:=α0 × α1 × α2 × α3) (a0,a1,a2,a3) hI hm hF hL
def kS (n:Nat)(w0:World)(M:List Nat){α0 α1 α2 α3:Type}(I:α0→α1→α2→α3→Prop)(Fs:α0→α1→α2→α3→List (Nat × Value))(Ls:α0→α1→α2→α3→List AJ)(U:List (Nat × Value))(K:List AJ)(a:Go.Act)(w:World):Prop:=At (σ:=α0 × α1 × α2 × α3) n w0 M (fun z=>I z.1 z.2.1 z.2.2.1 z.2.2.2) (fun z=>Fs z.1 z.2.1 z.2.2.1 z.2.2.2++U) (fun z=>Ls z.1 z.2.1 z.2.2.1 z.2.2.2++K) a w
theorem bo {α0 α1 α2 α3:Type}{x y:Code}{U:List (Nat × Value)}{Lm K:List AJ}(I:α0→α1→α2→α3→Prop)(Ms:α0→α1→α2→α3→List (Nat × Value))(Ls:α0→α1→α2→α3→List AJ)(_hU:Sub F U)(_hK:L=Lm++K)
  (hx:G P n w0 M x (Exit.then (kS n w0 M I Ms Ls U K) Q) F L) (hy:∀(a0:α0) (a1:α1) (a2:α2) (a3:α3),I a0 a1 a2 a3→G P n w0 M y Q (Ms a0 a1 a2 a3++U) (Ls a0 a1 a2 a3++K)):G P n w0 M (.seq x y) Q F L:=
 Wb (σ:=α0 × α1 × α2 × α3) (fun z=>I z.1 z.2.1 z.2.2.1 z.2.2.2) (fun z=>Ms z.1 z.2.1 z.2.2.1 z.2.2.2++U) (fun z=>Ls z.1 z.2.1 z.2.2.1 z.2.2.2++K) hx (fun z h=>hy z.1 z.2.1 z.2.2.1 z.2.2.2 h)
theorem Ro {α0 α1 α2 α3:Type}{I:α0→α1→α2→α3→Prop}{Ms:α0→α1→α2→α3→List (Nat × Value)}{Ls:α0→α1→α2→α3→List AJ}{U:List (Nat × Value)}{K:List AJ}(a0:α0)(a1:α1)(a2:α2)(a3:α3)(hI:I a0 a1 a2 a3)(hF:Sub F (Ms a0 a1 a2 a3++U))(hL:(Ls a0 a1 a2 a3++K).Sublist L):GQ n w0 M (Exit.then (kS n w0 M I Ms Ls U K) Q) .normal F L:=
 WZ (σ:=α0 × α1 × α2 × α3) (a0,a1,a2,a3) hI hF hL
def iB (n:Nat)(w0:World)(M:List Nat){α0 α1 α2 α3 α4:Type}(I:α0→α1→α2→α3→α4→Prop)(μ:α0→α1→α2→α3→α4→Nat)(Fs:α0→α1→α2→α3→α4→List (Nat × Value))(Ls:α0→α1→α2→α3→α4→List AJ)(U:List (Nat × Value))(K:List AJ)(m:Nat)(a:Go.Act)(w:World):Prop:=Y8 (σ:=α0 × α1 × α2 × α3 × α4) n w0 M (fun z=>I z.1 z.2.1 z.2.2.1 z.2.2.2.1 z.2.2.2.2) (fun z=>μ z.1 z.2.1 z.2.2.1 z.2.2.2.1 z.2.2.2.2) (fun z=>Fs z.1 z.2.1 z.2.2.1 z.2.2.2.1 z.2.2.2.2++U) (fun z=>Ls z.1 z.2.1 z.2.2.1 z.2.2.2.1 z.2.2.2.2++K) m a w
theorem J9 {α0 α1 α2 α3 α4:Type}{c:Code}{U:List (Nat × Value)}{K:List AJ}(I:α0→α1→α2→α3→α4→Prop)(μ:α0→α1→α2→α3→α4→Nat)(Ms:α0→α1→α2→α3→α4→List (Nat × Value))(Ls:α0→α1→α2→α3→α4→List AJ)(a0:α0)(a1:α1)(a2:α2)(a3:α3)(a4:α4)(h0:I a0 a1 a2 a3 a4)(hF0:F=Ms a0 a1 a2 a3 a4++U)(hL0:L=Ls a0 a1 a2 a3 a4++K)
  (round:∀(a0:α0) (a1:α1) (a2:α2) (a3:α3) (a4:α4),I a0 a1 a2 a3 a4→G P n w0 M c (Exit.then (iB n w0 M I μ Ms Ls U K (μ a0 a1 a2 a3 a4)) Q) (Ms a0 a1 a2 a3 a4++U) (Ls a0 a1 a2 a3 a4++K)):G P n w0 M (.loop c) Q F L:=
 JM (σ:=α0 × α1 × α2 × α3 × α4) (fun z=>I z.1 z.2.1 z.2.2.1 z.2.2.2.1 z.2.2.2.2) (fun z=>μ z.1 z.2.1 z.2.2.1 z.2.2.2.1 z.2.2.2.2) (fun z=>Ms z.1 z.2.1 z.2.2.1 z.2.2.2.1 z.2.2.2.2++U) (fun z=>Ls z.1 z.2.1 z.2.2.1 z.2.2.2.1 z.2.2.2.2++K) (a0,a1,a2,a3,a4) h0 (by rw [hF0];exact Sub.refl _) (by rw [hL0];exact List.Sublist.refl _) (fun z h=>round z.1 z.2.1 z.2.2.1 z.2.2.2.1 z.2.2.2.2 h)
theorem C7 {α0 α1 α2 α3 α4:Type}{I:α0→α1→α2→α3→α4→Prop}{μ:α0→α1→α2→α3→α4→Nat}{Ms:α0→α1→α2→α3→α4→List (Nat × Value)}{Ls:α0→α1→α2→α3→α4→List AJ}{U:List (Nat × Value)}{K:List AJ}{m:Nat}(a0:α0)(a1:α1)(a2:α2)(a3:α3)(a4:α4)(hI:I a0 a1 a2 a3 a4)(hm:μ a0 a1 a2 a3 a4 < m)(hF:Sub F (Ms a0 a1 a2 a3 a4++U))(hL:(Ls a0 a1 a2 a3 a4++K).Sublist L):GQ n w0 M (Exit.then (iB n w0 M I μ Ms Ls U K m) Q) .normal F L:=
 HG (σ:=α0 × α1 × α2 × α3 × α4) (a0,a1,a2,a3,a4) hI hm hF hL
def iC (n:Nat)(w0:World)(M:List Nat){α0 α1 α2 α3 α4 α5:Type}(I:α0→α1→α2→α3→α4→α5→Prop)(μ:α0→α1→α2→α3→α4→α5→Nat)(Fs:α0→α1→α2→α3→α4→α5→List (Nat × Value))(Ls:α0→α1→α2→α3→α4→α5→List AJ)(U:List (Nat × Value))(K:List AJ)(m:Nat)(a:Go.Act)(w:World):Prop:=Y8 (σ:=α0 × α1 × α2 × α3 × α4 × α5) n w0 M (fun z=>I z.1 z.2.1 z.2.2.1 z.2.2.2.1 z.2.2.2.2.1 z.2.2.2.2.2) (fun z=>μ z.1 z.2.1 z.2.2.1 z.2.2.2.1 z.2.2.2.2.1 z.2.2.2.2.2) (fun z=>Fs z.1 z.2.1 z.2.2.1 z.2.2.2.1 z.2.2.2.2.1 z.2.2.2.2.2++U) (fun z=>Ls z.1 z.2.1 z.2.2.1 z.2.2.2.1 z.2.2.2.2.1 z.2.2.2.2.2++K) m a w
theorem S9 {α0 α1 α2 α3 α4 α5:Type}{c:Code}{U:List (Nat × Value)}{K:List AJ}(I:α0→α1→α2→α3→α4→α5→Prop)(μ:α0→α1→α2→α3→α4→α5→Nat)(Ms:α0→α1→α2→α3→α4→α5→List (Nat × Value))(Ls:α0→α1→α2→α3→α4→α5→List AJ)(a0:α0)(a1:α1)(a2:α2)(a3:α3)(a4:α4)(a5:α5)(h0:I a0 a1 a2 a3 a4 a5)(hF0:F=Ms a0 a1 a2 a3 a4 a5++U)(hL0:L=Ls a0 a1 a2 a3 a4 a5++K)
  (round:∀(a0:α0) (a1:α1) (a2:α2) (a3:α3) (a4:α4) (a5:α5),I a0 a1 a2 a3 a4 a5→G P n w0 M c (Exit.then (iC n w0 M I μ Ms Ls U K (μ a0 a1 a2 a3 a4 a5)) Q) (Ms a0 a1 a2 a3 a4 a5++U) (Ls a0 a1 a2 a3 a4 a5++K)):G P n w0 M (.loop c) Q F L:=
 JM (σ:=α0 × α1 × α2 × α3 × α4 × α5) (fun z=>I z.1 z.2.1 z.2.2.1 z.2.2.2.1 z.2.2.2.2.1 z.2.2.2.2.2) (fun z=>μ z.1 z.2.1 z.2.2.1 z.2.2.2.1 z.2.2.2.2.1 z.2.2.2.2.2) (fun z=>Ms z.1 z.2.1 z.2.2.1 z.2.2.2.1 z.2.2.2.2.1 z.2.2.2.2.2++U) (fun z=>Ls z.1 z.2.1 z.2.2.1 z.2.2.2.1 z.2.2.2.2.1 z.2.2.2.2.2++K) (a0,a1,a2,a3,a4,a5) h0 (by rw [hF0];exact Sub.refl _) (by rw [hL0];exact List.Sublist.refl _) (fun z h=>round z.1 z.2.1 z.2.2.1 z.2.2.2.1 z.2.2.2.2.1 z.2.2.2.2.2 h)
theorem CN {α0 α1 α2 α3 α4 α5:Type}{I:α0→α1→α2→α3→α4→α5→Prop}{μ:α0→α1→α2→α3→α4→α5→Nat}{Ms:α0→α1→α2→α3→α4→α5→List (Nat × Value)}{Ls:α0→α1→α2→α3→α4→α5→List AJ}{U:List (Nat × Value)}{K:List AJ}{m:Nat}(a0:α0)(a1:α1)(a2:α2)(a3:α3)(a4:α4)(a5:α5)(hI:I a0 a1 a2 a3 a4 a5)(hm:μ a0 a1 a2 a3 a4 a5 < m)(hF:Sub F (Ms a0 a1 a2 a3 a4 a5++U))(hL:(Ls a0 a1 a2 a3 a4 a5++K).Sublist L):GQ n w0 M (Exit.then (iC n w0 M I μ Ms Ls U K m) Q) .normal F L:=
 HG (σ:=α0 × α1 × α2 × α3 × α4 × α5) (a0,a1,a2,a3,a4,a5) hI hm hF hL
def iD (n:Nat)(w0:World)(M:List Nat){α0 α1 α2 α3 α4 α5 α6:Type}(I:α0→α1→α2→α3→α4→α5→α6→Prop)(μ:α0→α1→α2→α3→α4→α5→α6→Nat)(Fs:α0→α1→α2→α3→α4→α5→α6→List (Nat × Value))(Ls:α0→α1→α2→α3→α4→α5→α6→List AJ)(U:List (Nat × Value))(K:List AJ)(m:Nat)(a:Go.Act)(w:World):Prop:=Y8 (σ:=α0 × α1 × α2 × α3 × α4 × α5 × α6) n w0 M (fun z=>I z.1 z.2.1 z.2.2.1 z.2.2.2.1 z.2.2.2.2.1 z.2.2.2.2.2.1 z.2.2.2.2.2.2) (fun z=>μ z.1 z.2.1 z.2.2.1 z.2.2.2.1 z.2.2.2.2.1 z.2.2.2.2.2.1 z.2.2.2.2.2.2) (fun z=>Fs z.1 z.2.1 z.2.2.1 z.2.2.2.1 z.2.2.2.2.1 z.2.2.2.2.2.1 z.2.2.2.2.2.2++U) (fun z=>Ls z.1 z.2.1 z.2.2.1 z.2.2.2.1 z.2.2.2.2.1 z.2.2.2.2.2.1 z.2.2.2.2.2.2++K) m a w
theorem Y2 {α0 α1 α2 α3 α4 α5 α6:Type}{c:Code}{U:List (Nat × Value)}{K:List AJ}(I:α0→α1→α2→α3→α4→α5→α6→Prop)(μ:α0→α1→α2→α3→α4→α5→α6→Nat)(Ms:α0→α1→α2→α3→α4→α5→α6→List (Nat × Value))(Ls:α0→α1→α2→α3→α4→α5→α6→List AJ)(a0:α0)(a1:α1)(a2:α2)(a3:α3)(a4:α4)(a5:α5)(a6:α6)(h0:I a0 a1 a2 a3 a4 a5 a6)(hF0:F=Ms a0 a1 a2 a3 a4 a5 a6++U)(hL0:L=Ls a0 a1 a2 a3 a4 a5 a6++K)
  (round:∀(a0:α0) (a1:α1) (a2:α2) (a3:α3) (a4:α4) (a5:α5) (a6:α6),I a0 a1 a2 a3 a4 a5 a6→G P n w0 M c (Exit.then (iD n w0 M I μ Ms Ls U K (μ a0 a1 a2 a3 a4 a5 a6)) Q) (Ms a0 a1 a2 a3 a4 a5 a6++U) (Ls a0 a1 a2 a3 a4 a5 a6++K)):G P n w0 M (.loop c) Q F L:=
 JM (σ:=α0 × α1 × α2 × α3 × α4 × α5 × α6) (fun z=>I z.1 z.2.1 z.2.2.1 z.2.2.2.1 z.2.2.2.2.1 z.2.2.2.2.2.1 z.2.2.2.2.2.2) (fun z=>μ z.1 z.2.1 z.2.2.1 z.2.2.2.1 z.2.2.2.2.1 z.2.2.2.2.2.1 z.2.2.2.2.2.2) (fun z=>Ms z.1 z.2.1 z.2.2.1 z.2.2.2.1 z.2.2.2.2.1 z.2.2.2.2.2.1 z.2.2.2.2.2.2++U) (fun z=>Ls z.1 z.2.1 z.2.2.1 z.2.2.2.1 z.2.2.2.2.1 z.2.2.2.2.2.1 z.2.2.2.2.2.2++K) (a0,a1,a2,a3,a4,a5,a6) h0 (by rw [hF0];exact Sub.refl _) (by rw [hL0];exact List.Sublist.refl _) (fun z h=>round z.1 z.2.1 z.2.2.1 z.2.2.2.1 z.2.2.2.2.1 z.2.2.2.2.2.1 z.2.2.2.2.2.2 h)
theorem C8 {α0 α1 α2 α3 α4 α5 α6:Type}{I:α0→α1→α2→α3→α4→α5→α6→Prop}{μ:α0→α1→α2→α3→α4→α5→α6→Nat}{Ms:α0→α1→α2→α3→α4→α5→α6→List (Nat × Value)}{Ls:α0→α1→α2→α3→α4→α5→α6→List AJ}{U:List (Nat × Value)}{K:List AJ}{m:Nat}(a0:α0)(a1:α1)(a2:α2)(a3:α3)(a4:α4)(a5:α5)(a6:α6)(hI:I a0 a1 a2 a3 a4 a5 a6)(hm:μ a0 a1 a2 a3 a4 a5 a6 < m)(hF:Sub F (Ms a0 a1 a2 a3 a4 a5 a6++U))(hL:(Ls a0 a1 a2 a3 a4 a5 a6++K).Sublist L):GQ n w0 M (Exit.then (iD n w0 M I μ Ms Ls U K m) Q) .normal F L:=
 HG (σ:=α0 × α1 × α2 × α3 × α4 × α5 × α6) (a0,a1,a2,a3,a4,a5,a6) hI hm hF hL
def iE (n:Nat)(w0:World)(M:List Nat){α0 α1 α2 α3 α4 α5 α6 α7:Type}(I:α0→α1→α2→α3→α4→α5→α6→α7→Prop)(μ:α0→α1→α2→α3→α4→α5→α6→α7→Nat)(Fs:α0→α1→α2→α3→α4→α5→α6→α7→List (Nat × Value))(Ls:α0→α1→α2→α3→α4→α5→α6→α7→List AJ)(U:List (Nat × Value))(K:List AJ)(m:Nat)(a:Go.Act)(w:World):Prop:=Y8 (σ:=α0 × α1 × α2 × α3 × α4 × α5 × α6 × α7) n w0 M (fun z=>I z.1 z.2.1 z.2.2.1 z.2.2.2.1 z.2.2.2.2.1 z.2.2.2.2.2.1 z.2.2.2.2.2.2.1 z.2.2.2.2.2.2.2) (fun z=>μ z.1 z.2.1 z.2.2.1 z.2.2.2.1 z.2.2.2.2.1 z.2.2.2.2.2.1 z.2.2.2.2.2.2.1 z.2.2.2.2.2.2.2) (fun z=>Fs z.1 z.2.1 z.2.2.1 z.2.2.2.1 z.2.2.2.2.1 z.2.2.2.2.2.1 z.2.2.2.2.2.2.1 z.2.2.2.2.2.2.2++U) (fun z=>Ls z.1 z.2.1 z.2.2.1 z.2.2.2.1 z.2.2.2.2.1 z.2.2.2.2.2.1 z.2.2.2.2.2.2.1 z.2.2.2.2.2.2.2++K) m a w
theorem Oh {α0 α1 α2 α3 α4 α5 α6 α7:Type}{c:Code}{U:List (Nat × Value)}{K:List AJ}(I:α0→α1→α2→α3→α4→α5→α6→α7→Prop)(μ:α0→α1→α2→α3→α4→α5→α6→α7→Nat)(Ms:α0→α1→α2→α3→α4→α5→α6→α7→List (Nat × Value))(Ls:α0→α1→α2→α3→α4→α5→α6→α7→List AJ)(a0:α0)(a1:α1)(a2:α2)(a3:α3)(a4:α4)(a5:α5)(a6:α6)(a7:α7)(h0:I a0 a1 a2 a3 a4 a5 a6 a7)(hF0:F=Ms a0 a1 a2 a3 a4 a5 a6 a7++U)(hL0:L=Ls a0 a1 a2 a3 a4 a5 a6 a7++K)
  (round:∀(a0:α0) (a1:α1) (a2:α2) (a3:α3) (a4:α4) (a5:α5) (a6:α6) (a7:α7),I a0 a1 a2 a3 a4 a5 a6 a7→G P n w0 M c (Exit.then (iE n w0 M I μ Ms Ls U K (μ a0 a1 a2 a3 a4 a5 a6 a7)) Q) (Ms a0 a1 a2 a3 a4 a5 a6 a7++U) (Ls a0 a1 a2 a3 a4 a5 a6 a7++K)):G P n w0 M (.loop c) Q F L:=
 JM (σ:=α0 × α1 × α2 × α3 × α4 × α5 × α6 × α7) (fun z=>I z.1 z.2.1 z.2.2.1 z.2.2.2.1 z.2.2.2.2.1 z.2.2.2.2.2.1 z.2.2.2.2.2.2.1 z.2.2.2.2.2.2.2) (fun z=>μ z.1 z.2.1 z.2.2.1 z.2.2.2.1 z.2.2.2.2.1 z.2.2.2.2.2.1 z.2.2.2.2.2.2.1 z.2.2.2.2.2.2.2) (fun z=>Ms z.1 z.2.1 z.2.2.1 z.2.2.2.1 z.2.2.2.2.1 z.2.2.2.2.2.1 z.2.2.2.2.2.2.1 z.2.2.2.2.2.2.2++U) (fun z=>Ls z.1 z.2.1 z.2.2.1 z.2.2.2.1 z.2.2.2.2.1 z.2.2.2.2.2.1 z.2.2.2.2.2.2.1 z.2.2.2.2.2.2.2++K) (a0,a1,a2,a3,a4,a5,a6,a7) h0 (by rw [hF0];exact Sub.refl _) (by rw [hL0];exact List.Sublist.refl _) (fun z h=>round z.1 z.2.1 z.2.2.1 z.2.2.2.1 z.2.2.2.2.1 z.2.2.2.2.2.1 z.2.2.2.2.2.2.1 z.2.2.2.2.2.2.2 h)
theorem Br {α0 α1 α2 α3 α4 α5 α6 α7:Type}{I:α0→α1→α2→α3→α4→α5→α6→α7→Prop}{μ:α0→α1→α2→α3→α4→α5→α6→α7→Nat}{Ms:α0→α1→α2→α3→α4→α5→α6→α7→List (Nat × Value)}{Ls:α0→α1→α2→α3→α4→α5→α6→α7→List AJ}{U:List (Nat × Value)}{K:List AJ}{m:Nat}(a0:α0)(a1:α1)(a2:α2)(a3:α3)(a4:α4)(a5:α5)(a6:α6)(a7:α7)(hI:I a0 a1 a2 a3 a4 a5 a6 a7)(hm:μ a0 a1 a2 a3 a4 a5 a6 a7 < m)(hF:Sub F (Ms a0 a1 a2 a3 a4 a5 a6 a7++U))(hL:(Ls a0 a1 a2 a3 a4 a5 a6 a7++K).Sublist L):GQ n w0 M (Exit.then (iE n w0 M I μ Ms Ls U K m) Q) .normal F L:=
 HG (σ:=α0 × α1 × α2 × α3 × α4 × α5 × α6 × α7) (a0,a1,a2,a3,a4,a5,a6,a7) hI hm hF hL
def iF (n:Nat)(w0:World)(M:List Nat){α0 α1 α2 α3 α4 α5 α6 α7 α8:Type}(I:α0→α1→α2→α3→α4→α5→α6→α7→α8→Prop)(μ:α0→α1→α2→α3→α4→α5→α6→α7→α8→Nat)(Fs:α0→α1→α2→α3→α4→α5→α6→α7→α8→List (Nat × Value))(Ls:α0→α1→α2→α3→α4→α5→α6→α7→α8→List AJ)(U:List (Nat × Value))(K:List AJ)(m:Nat)(a:Go.Act)(w:World):Prop:=Y8 (σ:=α0 × α1 × α2 × α3 × α4 × α5 × α6 × α7 × α8) n w0 M (fun z=>I z.1 z.2.1 z.2.2.1 z.2.2.2.1 z.2.2.2.2.1 z.2.2.2.2.2.1 z.2.2.2.2.2.2.1 z.2.2.2.2.2.2.2.1 z.2.2.2.2.2.2.2.2) (fun z=>μ z.1 z.2.1 z.2.2.1 z.2.2.2.1 z.2.2.2.2.1 z.2.2.2.2.2.1 z.2.2.2.2.2.2.1 z.2.2.2.2.2.2.2.1 z.2.2.2.2.2.2.2.2) (fun z=>Fs z.1 z.2.1 z.2.2.1 z.2.2.2.1 z.2.2.2.2.1 z.2.2.2.2.2.1 z.2.2.2.2.2.2.1 z.2.2.2.2.2.2.2.1 z.2.2.2.2.2.2.2.2++U) (fun z=>Ls z.1 z.2.1 z.2.2.1 z.2.2.2.1 z.2.2.2.2.1 z.2.2.2.2.2.1 z.2.2.2.2.2.2.1 z.2.2.2.2.2.2.2.1 z.2.2.2.2.2.2.2.2++K) m a w
theorem Y3 {α0 α1 α2 α3 α4 α5 α6 α7 α8:Type}{c:Code}{U:List (Nat × Value)}{K:List AJ}(I:α0→α1→α2→α3→α4→α5→α6→α7→α8→Prop)(μ:α0→α1→α2→α3→α4→α5→α6→α7→α8→Nat)(Ms:α0→α1→α2→α3→α4→α5→α6→α7→α8→List (Nat × Value))(Ls:α0→α1→α2→α3→α4→α5→α6→α7→α8→List AJ)(a0:α0)(a1:α1)(a2:α2)(a3:α3)(a4:α4)(a5:α5)(a6:α6)(a7:α7)(a8:α8)(h0:I a0 a1 a2 a3 a4 a5 a6 a7 a8)(hF0:F=Ms a0 a1 a2 a3 a4 a5 a6 a7 a8++U)(hL0:L=Ls a0 a1 a2 a3 a4 a5 a6 a7 a8++K)
  (round:∀(a0:α0) (a1:α1) (a2:α2) (a3:α3) (a4:α4) (a5:α5) (a6:α6) (a7:α7) (a8:α8),I a0 a1 a2 a3 a4 a5 a6 a7 a8→G P n w0 M c (Exit.then (iF n w0 M I μ Ms Ls U K (μ a0 a1 a2 a3 a4 a5 a6 a7 a8)) Q) (Ms a0 a1 a2 a3 a4 a5 a6 a7 a8++U) (Ls a0 a1 a2 a3 a4 a5 a6 a7 a8++K)):G P n w0 M (.loop c) Q F L:=
 JM (σ:=α0 × α1 × α2 × α3 × α4 × α5 × α6 × α7 × α8) (fun z=>I z.1 z.2.1 z.2.2.1 z.2.2.2.1 z.2.2.2.2.1 z.2.2.2.2.2.1 z.2.2.2.2.2.2.1 z.2.2.2.2.2.2.2.1 z.2.2.2.2.2.2.2.2) (fun z=>μ z.1 z.2.1 z.2.2.1 z.2.2.2.1 z.2.2.2.2.1 z.2.2.2.2.2.1 z.2.2.2.2.2.2.1 z.2.2.2.2.2.2.2.1 z.2.2.2.2.2.2.2.2) (fun z=>Ms z.1 z.2.1 z.2.2.1 z.2.2.2.1 z.2.2.2.2.1 z.2.2.2.2.2.1 z.2.2.2.2.2.2.1 z.2.2.2.2.2.2.2.1 z.2.2.2.2.2.2.2.2++U) (fun z=>Ls z.1 z.2.1 z.2.2.1 z.2.2.2.1 z.2.2.2.2.1 z.2.2.2.2.2.1 z.2.2.2.2.2.2.1 z.2.2.2.2.2.2.2.1 z.2.2.2.2.2.2.2.2++K) (a0,a1,a2,a3,a4,a5,a6,a7,a8) h0 (by rw [hF0];exact Sub.refl _) (by rw [hL0];exact List.Sublist.refl _) (fun z h=>round z.1 z.2.1 z.2.2.1 z.2.2.2.1 z.2.2.2.2.1 z.2.2.2.2.2.1 z.2.2.2.2.2.2.1 z.2.2.2.2.2.2.2.1 z.2.2.2.2.2.2.2.2 h)
theorem XP {α0 α1 α2 α3 α4 α5 α6 α7 α8:Type}{I:α0→α1→α2→α3→α4→α5→α6→α7→α8→Prop}{μ:α0→α1→α2→α3→α4→α5→α6→α7→α8→Nat}{Ms:α0→α1→α2→α3→α4→α5→α6→α7→α8→List (Nat × Value)}{Ls:α0→α1→α2→α3→α4→α5→α6→α7→α8→List AJ}{U:List (Nat × Value)}{K:List AJ}{m:Nat}(a0:α0)(a1:α1)(a2:α2)(a3:α3)(a4:α4)(a5:α5)(a6:α6)(a7:α7)(a8:α8)(hI:I a0 a1 a2 a3 a4 a5 a6 a7 a8)(hm:μ a0 a1 a2 a3 a4 a5 a6 a7 a8 < m)(hF:Sub F (Ms a0 a1 a2 a3 a4 a5 a6 a7 a8++U))(hL:(Ls a0 a1 a2 a3 a4 a5 a6 a7 a8++K).Sublist L):GQ n w0 M (Exit.then (iF n w0 M I μ Ms Ls U K m) Q) .normal F L:=
 HG (σ:=α0 × α1 × α2 × α3 × α4 × α5 × α6 × α7 × α8) (a0,a1,a2,a3,a4,a5,a6,a7,a8) hI hm hF hL
end
end Go.Ing
/- Engine: slices and strings that come in. -/
namespace Go.Ing
open Go Go.RowKit Go.ChangeShapes Go.WideShapes Go.ChangeAt
def jF (w:World)(sz:Nat){β:Type}(e:β→List Value)(wf:β→Prop)(h:Hd):Prop:=∃(T:Nat) (xs:List β),Rd w h T sz (xs.flatMap e)∧h.len=xs.length∧h.len≤h.cap∧h.cap≤9223372036854775807∧∀ x∈xs,wf x
section
variable {H:Type} {enc:TypeId × Value→H} {P:Program} {w:World}
theorem Yr {α:Type}{e:α→List Value}{wf:α→Prop}{t E sz:Nat}(hu:P.underlying t=some (.slice E))(hE:P.cellsOf E=sz)(hsz:0 < sz)(fe:Flat e sz)(hd:Dc H enc P w e wf E):Dc H enc P w EE (jF w sz e wf) t:=by
 intro fuel cs d ps h
 rcases DataW.trod_slice hu h with ⟨rfl,_⟩ | ⟨a,len,cap,elems,rest,n,_,rfl,_,_,hl,hm,hlen,hel,_⟩
 ·exact⟨⟨none,0,0⟩,rfl,0,[],Rd.nil w 0 sz,rfl,Nat.le_refl _,by simp,fun x hx=>by simp at hx⟩
 refine⟨⟨some a,len,cap⟩,rfl,?_⟩
 rw [hE] at hel
 have hx:∀ i,i < len→∃ x,w.cells? 0 (a.add (i * sz)) sz=some (e x)∧wf x:=fun i hi=>by
  have h1:=hel i hi
  rw [List.getElem?_eq_getElem (by omega),Option.bind_eq_some_iff] at h1
  obtain⟨c,h2,h3⟩:=h1
  obtain⟨x,rfl,hw⟩:=hd _ _ _ _ h3
  exact⟨x,h2,hw⟩
 have key:∀ k,k≤len→∃ xs:List α,xs.length=k∧(∀ i (hi:i < xs.length),w.cells? 0 (a.add (i * sz)) sz=some (e xs[i]))∧∀ x∈xs,wf x:=by
  intro k
  induction k with
  | zero=>intro _;exact⟨[],rfl,fun i hi=>by simp at hi,fun x hx=>by simp at hx⟩
  | succ k ih=>
   intro hk
   obtain⟨xs,h1,h2,h3⟩:=ih (by omega)
   obtain⟨x,h4,h5⟩:=hx k (by omega)
   refine⟨xs ++ [x],by simp [h1],fun i hi=>?_,fun y hy=>?_⟩
   ·by_cases hik:i < xs.length
    ·rw [List.getElem_append_left hik];exact h2 i hik
    ·have:i=xs.length:=by simp at hi;omega
     subst this
     rw [List.getElem_append_right (Nat.le_refl _)]
     simp only [Nat.sub_self,List.getElem_cons_zero]
     rw [h1];exact h4
   ·rcases List.mem_append.1 hy with hy | hy
    ·exact h3 y hy
    ·simp at hy;subst hy;exact h5
 obtain⟨xs,h1,h2,h3⟩:=key len (Nat.le_refl _)
 have hfl:(xs.flatMap e).length=len * sz:=by rw [CW fe.len,h1]
 have hcell:∀ j,j < len * sz→w.cell? (a.add j)=(xs.flatMap e)[j]?:=fun j hj=>by
  have hi:j / sz < xs.length:=by rw [h1];exact(Nat.div_lt_iff_lt_mul hsz).2 hj
  have hr:j % sz < sz:=Nat.mod_lt _ hsz
  have h4:=(World.cells?_some (h2 (j / sz) hi)).2.2 (j % sz) hr
  have h5:=PB fe xs (j / sz) hi
  have hdm:j / sz * sz+j % sz=j:=by rw [Nat.mul_comm];exact Nat.div_add_mod j sz
  have h6:(xs.flatMap e)[j]?=(e xs[j / sz])[j % sz]?:=by
   rw [← h5,List.getElem?_take,if_pos hr,List.getElem?_drop,hdm]
  rw [h6,← h4]
  congr 1
  unfold Addr.add
  by_cases z1:j / sz * sz=0
  ·rw [if_pos z1,show j=j % sz by omega]
   simp
  ·rw [if_neg z1,if_neg (by omega:¬ j=0)]
   by_cases z2:j % sz=0
   ·rw [if_pos z2];congr 1;omega
   ·rw [if_neg z2];congr 1;simp only [];omega
 by_cases hz:len=0
 ·subst hz
  have:xs = []:=List.length_eq_zero_iff.1 h1
  subst this
  exact⟨0,[],⟨by simp,fun h=>absurd rfl h⟩,rfl,hl,hm,fun x hx=>by simp at hx⟩
 ·have hpos:0 < len * sz:=Nat.mul_pos (by omega) hsz
  have h0:=hcell 0 hpos
  rw [List.getElem?_eq_getElem (by omega)] at h0
  have ha0:a.add 0=a:=rfl
  rw [ha0] at h0
  unfold World.cell? at h0
  cases hb:w.heap[a.block]? with
  | none=>rw [hb] at h0;simp at h0
  | some ob=>
   rw [hb] at h0
   cases ob with
   | cells C T fz=>
    simp only at h0
    cases hs:a.spot with
    | some s=>rw [hs] at h0;simp at h0
    | none=>
     obtain⟨blk,off,spt⟩:=a
     simp only at hs hb
     subst hs
     have hc:∀ j,j < len * sz→C.toList[off+j]?=(xs.flatMap e)[j]?:=fun j hj=>by
      have:=hcell j hj
      rw [EC] at this
      unfold World.cell? at this
      simp only [hb] at this
      rw [← this];simp
     have hbd:off+len * sz≤C.toList.length:=by
      have:=hc (len * sz - 1) (by omega)
      rw [List.getElem?_eq_getElem (by omega:len * sz - 1 < (xs.flatMap e).length)] at this
      rcases Nat.lt_or_ge (off+(len * sz - 1)) C.toList.length with h | h
      ·omega
      ·rw [List.getElem?_eq_none h] at this;cases this
     refine⟨T,xs,⟨by rw [hfl],fun _=>⟨blk,off,C.toList,fz,rfl,?_,by rw [hb],by rw [hfl];exact hbd,?_⟩⟩,h1.symm,hl,hm,h3⟩
     ·rcases Nat.lt_or_ge blk w.heap.size with h | h
      ·exact h
      ·rw [Array.getElem?_eq_none h] at hb;cases hb
     ·apply List.ext_getElem?
      intro j
      rw [List.getElem?_take,hfl]
      by_cases hj:j < len * sz
      ·rw [if_pos hj,List.getElem?_drop,hc j hj]
      ·rw [if_neg hj,List.getElem?_eq_none (by omega)]
   | _=>simp at h0
theorem dM {α:Type}{e:α→List Value}{wf:α→Prop}{base t E sz:Nat}{v:Value}{d:DataW H}{p:List MemPlace}(hu:P.underlying t=some (.slice E))(hval:Value.okWide P w .any base t v)(hE:P.cellsOf E=sz)(hsz:0 < sz)(fe:Flat e sz)(hd:Dc H enc P w e wf E)
  (h:DataW.Trod enc P w 0 (fun _=>true) true t v d p):∃ x:Hd,v=x.val∧jF w sz e wf x:=by
 obtain⟨fuel,hf⟩:=h
 obtain⟨x,hx,hw⟩:=Yr hu hE hsz fe hd _ _ _ _ hf
 refine⟨x,?_,hw⟩
 have hv:∀ cs,v≠ .agg cs:=fun cs e=>by
  subst e
  unfold Value.okWide at hval
  rw [hu] at hval
  simp [Cell.okWide,Cell.ok,hu] at hval
 cases v with
 | agg cs=>exact absurd rfl (hv cs)
 | _=>simp [Value.cells,EE] at hx;exact hx
end
theorem Src.FG {P:Program}{w:World}{U E T sz:Nat}{g:Hd}{ys:List Value}(hu:P.underlying U=some (.slice E))(hg:Rd w g T sz ys):Src P w U sz g.val g.len ys:=
 ⟨.inl ⟨_,hu⟩,fun _=>rfl,fun _ hk=>GM (hg.Ll hk),hg.1⟩
end Go.Ing

/- What the functions that the law of this seat reaches compute, and the plain laws of it. No condition. -/
import Derived.Test.YtlmmdjaoikaceaaGreatDoorHouseRunsEc3
import Derived.Test.YtlmmdjaoikaceaaGreatDoorHouseRunsRa1
import Derived.Test.YtlmmdjaoikaceaaGreatDoorHouseRunsRb1
import Derived.Test.YtlmmdjaoikaceaaGreatDoorHouseRunsRc1
set_option linter.unusedSimpArgs false
set_option linter.unusedVariables false
/- Engine: runs of steps by one rule, with what is known of the program as instances. -/
namespace Go.Ing
open Go
class Fh (P:Program) (T:Nat) (d:outParam TypeDesc):Prop where
 h:P.underlying T=some d
class Oi (P:Program) (T:Nat):Prop where
 h:S0 P T∧Sz P T 1
class Me (P:Program) (T:Nat) (sz:outParam Nat):Prop where
 h:bL P T sz
class ZB (P:Program) (T:Nat) (sz:outParam Nat):Prop where
 h:Sz P T sz
class P0 (P:Program) (T:Nat) (l:outParam (List (Nat × Nat))):Prop where
 fa:∀ f off z,l[f]?=some (off,z)→FA P T f off
 pl:ZA P T l
class Kz (P:Program) (T:Nat) (v:outParam Value):Prop where
 h:ZV P T v
class dM (P:Program) (T:Nat) (b:outParam Nat):Prop where
 h:BY P T b
class BN (P:Program) (f:Nat):Prop where
 h:CF P f
class jE (P:Program):Prop where
 h:P.follows .mixedOrders=true
class jC (P:Program) {α:outParam Type} (T:Nat) (d:outParam (DecidableEq α)) (ea:outParam (α→List Value)) (k:outParam Nat):Prop where
 h:W6 P k T (fun x:α=> .agg (ea x).toArray)
class bK (P:Program) {α:outParam Type} (E:Nat) (e:outParam (α→List Value)) (sz:outParam Nat):Prop where
 f:Flat e sz
class dN (P:Program) {α:outParam Type} (E:Nat) (e:outParam (α→List Value)) (sz:outParam Nat):Prop where
 f:Flat e sz
class jh (P:Program) (T:Nat) (E:outParam Nat):Prop
class DY (P:Program) (f:Nat) (S:outParam Prop):Prop where
 h:S
section
variable {P:Program} {T sz:Nat}
instance [i:Oi P T]:ZB P T 1:=⟨i.h.2⟩
instance [i:Me P T sz]:ZB P T sz:=⟨i.h.2⟩
theorem oi (h:((P.underlying T).any fun d=>match d with | .struct _ | .array _ _=>false | _=>true)=true:=by kernel_rfl)(hz:(P.info? T).map (·.size)=some 1:=by kernel_rfl):Oi P T:=by
 cases hu:P.underlying T with
 | none=>rw [hu] at h;cases h
 | some d=>rw [hu] at h;exact⟨Ra hu (by cases d<;>first | rfl | cases h),Jf hz⟩
theorem P3 (h:((P.underlying T).any fun d=>match d with | .struct _ | .array _ _=>true | _=>false)=true:=by kernel_rfl)(hz:(P.info? T).map (·.size)=some sz:=by kernel_rfl):Me P T sz:=by
 cases hu:P.underlying T with
 | none=>rw [hu] at h;cases h
 | some d=>rw [hu] at h;exact⟨ZC hu (by cases d<;>first | rfl | cases h) (Jf hz)⟩
theorem Nc {v:Value}(h:(P.info? T).map (·.zero)=some (some v):=by kernel_rfl):Kz P T v:=⟨NI h⟩
theorem fR {b:Nat}(h:(P.info? T).map (·.bytes)=some b:=by kernel_rfl):dM P T b:=⟨WC h⟩
def bM (P:Program)(fs:List Field)(l:List (Nat × Nat)):Bool:=match fs,l with
 | [],[]=>true
 | f :: fs,(o,z) :: l=>Nat.beq f.offset o && !Nat.beq z 0 && (match P.info? f.type with | some i=>Nat.beq i.size z | none=>false) && bM P fs l
 | _,_=>false
theorem ai {fs:List Field}{l:List (Nat × Nat)}(h:bM P fs l=true):∀ k o z:Nat,l[k]?=some (o,z)→∃ f:Field,fs[k]?=some f∧f.offset=o∧z≠0∧(P.info? f.type).map (·.size)=some z:=by
 induction fs generalizing l with
 | nil=>cases l with | nil=>intro k o z hk;simp at hk | cons=>simp [bM] at h
 | cons f fs ih=>
  cases l with
  | nil=>simp [bM] at h
  | cons x l=>
   obtain⟨o',z'⟩:=x
   simp only [bM,Bool.and_eq_true,Bool.not_eq_true'] at h
   intro k o z hk
   cases k with
   | zero=>
    simp at hk
    obtain⟨rfl,rfl⟩:=hk
    refine⟨f,rfl,Nat.eq_of_beq_eq_true h.1.1.1,fun e=>by subst e;exact absurd h.1.1.2 (by decide),?_⟩
    cases hi:P.info? f.type with
    | none=>rw [hi] at h;cases h.1.2
    | some i=>rw [hi] at h;simpa using Nat.eq_of_beq_eq_true h.1.2
   | succ k=>exact ih h.2 k o z (by simpa using hk)
theorem dH {fs:List Field}{l:List (Nat × Nat)}(h:bM P fs l=true)(w:World):(fs.mapM fun(f:Field)=>(do pure (f.offset,← sizeOf f.type):Sem (Nat × Nat))).run P w = .ok l w:=by
 induction fs generalizing l with
 | nil=>cases l with | nil=>rfl | cons=>simp [bM] at h
 | cons f fs ih=>
  cases l with
  | nil=>simp [bM] at h
  | cons x l=>
   obtain⟨o',z'⟩:=x
   have h0:=ai h 0 o' z' rfl
   simp only [bM,Bool.and_eq_true] at h
   obtain⟨g,hg,e1,_,e2⟩:=h0
   simp at hg
   subst hg
   have hz:=Jf e2 w
   have hi:=ih h.2
   simp at hi
   simp [List.mapM_cons,hz,hi,e1]
theorem Sb {fs:Array Field}{l:List (Nat × Nat)}(u:P.underlying T=some (.struct fs))(h:bM P fs.toList l=true:=by kernel_rfl):P0 P T l:=⟨fun f off z hf=>by
 obtain⟨g,h1,h2,h3,h4⟩:=ai h f off z hf
 obtain⟨z,rfl⟩:=Nat.exists_eq_succ_of_ne_zero h3
 exact dO u (E:=g.type) (by rw [← Array.getElem?_toList,h1,← h2];rfl) (Jf h4),⟨fs,u,fun w=>by
 have e:=dH h w
 rw [Array.mapM_eq_mapM_toList]
 simp at e ⊢
 rw [e]
 rfl⟩⟩
end
/-! ### places -/
def oa (o k:Nat):Nat:=o+k
def ix (i:Int)(sz:Nat):Nat:=i.toNat * sz
class LP {α:Type} {β:outParam Type} (ea:α→List Value) (off:Nat) (eb:outParam (β→List Value)) (sz:outParam Nat) (g:outParam (α→β)) (s:outParam (α→β→α)) (q:outParam Prop):Prop where
 h:q→Ab ea eb off sz g s
section
variable {α β γ:Type} {ea:α→List Value} {eb:β→List Value} {ec:γ→List Value} {o k sz1 sz2 sz n:Nat} {g1:α→β} {s1:α→β→α} {g2:β→γ} {s2:β→γ→β} {q:Prop} {i:Int}
instance [fe:Flat ea sz]:Flat (BT (n:=n) ea) (n * sz):=IM fe
instance LPi [fe:Flat ea sz]:LP ea 0 ea sz (fun x=>x) (fun _ y=>y) ((0:Nat)≤0):=⟨fun _=>Ab.id fe.len fe.one⟩
instance LPf [a:LP ea o eb sz1 g1 s1 q][b:Ab eb ec k sz2 g2 s2]:LP ea (oa o k) ec sz2 (fun x=>g2 (g1 x)) (fun x y=>s1 x (s2 (g1 x) y)) q:=⟨fun h=>(a.h h).comp b⟩
instance LPa [Inhabited γ]{g1:α→Vector γ n}{s1:α→Vector γ n→α}[a:LP ea o (BT (n:=n) ec) sz1 g1 s1 q][fe:Flat ec sz]:LP ea (oa o (ix i sz)) ec sz (fun x=>(g1 x).at i) (fun x y=>s1 x ((g1 x).put i y)) (q∧0≤i∧i < (n:Int)):=⟨fun h=>(a.h h.1).comp (Ab.arr fe h.2.1 h.2.2)⟩
instance (priority:=low) LPb [b:Ab ea eb o sz g1 s1]:LP ea o eb sz g1 s1 ((0:Nat)≤0):=⟨fun _=>b⟩
instance LPt {V:AE}{j:Int}:LP (Fj V j) (165+j.toNat * 22) A4.enc 22 (fun s=>s) (fun _ y=>y) (0≤j∧j < 4):=⟨fun h=>Ab.AY V h.1 h.2⟩
instance LPu {j:Int}:LP AE.enc (165+j.toNat * 22) A4.enc 22 (fun x=>x.AQ.at j) (fun x y=>{ x with AQ:=x.AQ.put j y }) (0≤j∧j < 4):=⟨fun h=>AE.l1.comp (Ab.arr A4.fl h.1 h.2)⟩
instance LPs {V:AE}{j:Int}:LP (Fj V j) (oa (oa 0 165) (ix j 22)) A4.enc 22 (fun s=>s) (fun _ y=>y) (0≤j∧j < 4):=⟨fun h=>by have:=Ab.AY V h.1 h.2;simpa [oa,ix] using this⟩
end
section
variable {P:Program} {n:Nat} {w0:World} {M:List Nat} {F:List (Nat × Value)} {L L':List AJ} {T U V b o off f z:Nat} {x y:Operand} {v:Value} {h:Hd}
theorem ia {l:List (Nat × Nat)}[i:P0 P T l](hx:ev F x=some (.pointer (some ⟨b,o,none⟩)))(hl:l[f]?=some (off,z)):PS P n w0 M (.fieldAddr T x f) U F L (.pointer (some ⟨b,oa o off,none⟩)) L:=JF (i.fa _ _ _ hl) hx
theorem ib {l:List (Nat × Nat)}{j sz p:Nat}[i:P0 P T l](hx:ev F x=some v)(hv:v=h.ptr j sz p)(hl:l[f]?=some (off,z)):PS P n w0 M (.fieldAddr T x f) U F L (h.ptr j sz (oa p off)) L:=bg (i.fa _ _ _ hl) (hv ▸ hx)
theorem ie {len E sz:Nat}{k:IntKind}{i:Int}[u:Fh P T (.array len E)][s:ZB P E sz](hx:ev F x=some (.pointer (some ⟨b,o,none⟩)))(hy:ev F y=some (.int k i))(h:0≤i∧i < (len:Int)):PS P n w0 M (.indexAddr T x y) U F L (.pointer (some ⟨b,oa o (ix i sz),none⟩)) L:=RT (gF u.h s.h) hx hy h.1 h.2
theorem ig {E E' sz:Nat}{cs:List Value}{k:IntKind}{i:Int}[u:Fh P T (.slice E)][s:ZB P E sz](hx:ev F x=some v)(hv:v=h.val)(hk:Kn w0 M L h E' sz cs)(hz:0 < sz)(hy:ev F y=some (.int k i))(hi:0≤i∧i < (h.len:Int)):PS P n w0 M (.indexAddr T x y) U F L (h.ptr i.toNat sz 0) L:=bh (gG u.h s.h) hz hk (hv ▸ hx) hy hi.1 hi.2
section
variable {α β:Type} {ea:α→List Value} {eb:β→List Value} {sz:Nat} {g:α→β} {s:α→β→α} {q:Prop} {X:α}
theorem fj [i:Oi P T](hx:ev F x=some (.pointer (some ⟨b,0,none⟩)))(hL:AJ.box b V [v]∈L):PS P n w0 M (.load T x) U F L v L:=Y1 hx i.h.1 hL
theorem ij [i:Oi P T](hx:ev F x=some (.pointer (some ⟨b,off,none⟩)))(hL:AJ.box b V (ea X)∈L)(hl:LP ea off eb sz g s q)(hq:q)(hv:eb (g X) = [v]):PS P n w0 M (.load T x) U F L v L:=Lz hx i.h.1 hL (hl.h hq) rfl hv
theorem fk {sz':Nat}[i:Me P T sz'](hx:ev F x=some (.pointer (some ⟨b,off,none⟩)))(hL:AJ.box b V (ea X)∈L)(hl:LP ea off eb sz g s q)(hq:q)(hz:sz=sz'):PS P n w0 M (.load T x) U F L (.agg (eb (g X)).toArray) L:=Y2 hx i.h (sz:=sz') (by exact hL) (hz ▸ hl.h hq) rfl
theorem ft {sz':Nat}{Y:β}[i:ZB P T sz'](hx:ev F x=some (.pointer (some ⟨b,off,none⟩)))(hy:ev F y=some v)(hL:AJ.box b V (ea X)∈L)(hl:LP ea off eb sz g s q)(hq:q)(hv:v.cells=(eb Y).toArray)(hz:sz=sz')(hU:Ig L (AJ.box b V (ea X)) (AJ.box b V (ea (s X Y))) L'):PU P n w0 M (.store T x y) U F L L':=Su (hl.h hq) hx hy hv (hz ▸ i.h) rfl hU
theorem fu {v':Value}[i:ZB P T 1](hx:ev F x=some (.pointer (some ⟨b,0,none⟩)))(hy:ev F y=some v')(hv:v'.cells = [v'].toArray)(h1:v'.oneCell'=true)(hU:Ig L (AJ.box b V [v]) (AJ.box b V [v']) L'):PU P n w0 M (.store T x y) U F L L':=XD hx hy hv h1 i.h hU
variable {i E:Nat}
theorem iq {xs:List AL}[t:Oi P T](hx:ev F x=some v)(hp:v=h.ptr i 1 0)(hk:Kn w0 M L h E 1 (xs.flatMap Ac))(hi:i < xs.length):PS P n w0 M (.load T x) U F L (Ae (xs.getD i [])) L:=Y0 (hp ▸ hx) t.h.1 hk hi
theorem im {xs:List Int}[t:Oi P T](hx:ev F x=some v)(hp:v=h.ptr i 1 0)(hk:Kn w0 M L h E 1 (xs.flatMap AT))(hi:i < xs.length):PS P n w0 M (.load T x) U F L (.int .i64 (xs.getD i 0)) L:=Yz (hp ▸ hx) t.h.1 hk hi
theorem ir {xs:AL}[t:Oi P T](hx:ev F x=some v)(hp:v=h.ptr i 1 0)(hk:Kn w0 M L h E 1 (xs.flatMap CH))(hi:i < xs.length):PS P n w0 M (.load T x) U F L (.int .u8 ((xs.getD i 0).toNat:Int)) L:=eE (hp ▸ hx) t.h.1 hk hi
theorem il {xs:List α}[t:Me P T sz](hx:ev F x=some v)(hp:v=h.ptr i sz 0)(hk:Kn w0 M L h E sz (xs.flatMap ea))(ih:Inhabited α)(fe:Flat ea sz)(hz:0 < sz)(hi:i < xs.length):PS P n w0 M (.load T x) U F L (.agg (ea (xs.getD i default)).toArray) L:=eD (hp ▸ hx) t.h hz fe hk hi
theorem ik {xs:List α}{p z:Nat}{v':Value}[t:Oi P T](hx:ev F x=some v')(hp:v'=h.ptr i sz p)(hk:Kn w0 M L h E sz (xs.flatMap ea))(ih:Inhabited α)(fe:Flat ea sz)(hl:LP ea p eb z g s q)(hq:q)(hi:i < xs.length)(hv:eb (g (xs.getD i default)) = [v]):PS P n w0 M (.load T x) U F L v L:=eC (hp ▸ hx) t.h.1 fe (hl.h hq) hk hi hv
end
theorem bP {s:AL}[u:Fh P U .string](hx:ev F x=some (Ae s)):PS P n w0 M (.call ⟨.builtin .len,#[x],#[U]⟩) T F L (.int .i64 s.length) L:=U9 rfl u.h hx
theorem fY {E:Nat}{p:Option Addr}[u:Fh P U (.pointer E)](hx:ev F x=some (.pointer p)):PS P n w0 M (.binOp .eql U x (.const (.pointer none)) V) T F L (.bool p.isNone) L:=OM u.h hx
theorem fZ {E:Nat}{a:Addr}[u:Fh P U (.pointer E)](hx:ev F x=some (.pointer (some a))):PS P n w0 M (.binOp .eql U x (.const (.pointer none)) V) T F L (.bool false) L:=OM u.h hx
end

section
variable {P:Program} {n:Nat} {w0:World} {M:List Nat} {Q:Exit→Go.Act→World→Prop} {F:List (Nat × Value)} {L L':List AJ} {ops:Array Oper} {rest:List Oper}
def CK (P:Program)(w0:World)(M:List Nat)(f:FuncId)(vs:List Value)(L:List AJ)(k:Value→List AJ→Prop):Prop:=∀ w,St w0 M w L→Ck P f vs.toArray w fun v w'=>∃ L',k v L'∧St w0 M w' L'
variable {k:Value→List AJ→Prop} {vs:List Value} {f:FuncId} {R:Value→World→Prop}
theorem gA {d:Nat}{args:List Operand}{ts:Array TypeId}{T:TypeId}{pos:String}{Bn:Array Edge}[c:BN P f](hd:Nat.blt d n=true)(ha:Nr F args vs)(h:CK P w0 M f vs L fun v L'=>GL P n w0 M ops Q rest ((d,v) :: F) L'):GL P n w0 M ops Q (⟨some d, .call ⟨.value (.func f),args.toArray,ts⟩,T,pos,Bn,none⟩ :: rest) F L:=
 bT hd c.h ha h fun _ _ _ _ ⟨L',hk,hS⟩=>⟨L',hS,hk⟩
theorem Cp {v:Value}(h:∀ w,St w0 M w L→Ck P f vs.toArray w fun v' w'=>v'=v∧BG w w')(hk:k v L):CK P w0 M f vs L k:=fun w hS=>(h w hS).mono fun _ _ ⟨e,hw⟩=>⟨L,e ▸ hk,hS.LX hw⟩
theorem jZ {S:Prop}{a:Array Value}{w:World}[i:DY P f S](h:S→Ck P f a w R):Ck P f a w R:=h i.h
theorem iU {d T U:Nat}{pos:String}{Bn:Array Edge}{v:Value}{cs:List Value}[z:Kz P T v](hd:Nat.blt d n=true)(hv:v.cells=cs.toArray)
  (k:∀ b,GL P n w0 M ops Q rest ((d, .pointer (some ⟨b,0,none⟩)) :: F) (AJ.box b T cs :: L)):GL P n w0 M ops Q (⟨some d, .alloc T,U,pos,Bn,none⟩ :: rest) F L:=Se hd z.h hv k
theorem ic {d:Nat}{op:Op}{T:TypeId}{pos:String}{Bn:Array Edge}{v:Value}{j t:Nat}{b c:Bool}(hj:(ops[j]?).bind (·.dst)=some t)(hb:lk t F=some (.bool c))(hc:c=b)(hd:Nat.blt d n=true)(h:PS P n w0 M op T F L v L')
  (k:GL P n w0 M ops Q rest ((d,v) :: F) L'):GL P n w0 M ops Q (⟨some d,op,T,pos,Bn,some (j,b)⟩ :: rest) F L:=OF hj (hc ▸ hb) hd h k
theorem ff {d:Nat}{op:Op}{T:TypeId}{pos:String}{Bn:Array Edge}{j t:Nat}{c:Bool}(hj:(ops[j]?).bind (·.dst)=some t)(hb:lk t F=some (.bool c))(hc:c=false)(hd:Nat.blt d n=true)
  (k:GL P n w0 M ops Q rest ((d,undef) :: F) L):GL P n w0 M ops Q (⟨some d,op,T,pos,Bn,some (j,true)⟩ :: rest) F L:=KY hj hb (by rw [hc];rfl) hd k
theorem fc {d:Nat}{op:Op}{T:TypeId}{pos:String}{Bn:Array Edge}{j t:Nat}{c:Bool}(hj:(ops[j]?).bind (·.dst)=some t)(hb:lk t F=some (.bool c))(hc:c=true)(hd:Nat.blt d n=true)
  (k:GL P n w0 M ops Q rest ((d,undef) :: F) L):GL P n w0 M ops Q (⟨some d,op,T,pos,Bn,some (j,false)⟩ :: rest) F L:=KY hj hb (by rw [hc];rfl) hd k
theorem fU {d T U E:Nat}{pos:String}{Bn:Array Edge}{v:Value}{cs:List Value}[jh P T E][z:Kz P T v](hd:Nat.blt d n=true)(hv:v.cells=cs.toArray)
  (k:∀ b,GL P n w0 M ops Q rest ((d, .pointer (some ⟨b,0,none⟩)) :: F) (AJ.own ⟨none,0,0⟩ E 1 (([]:AL).flatMap CH) :: AJ.box b T cs :: L)):GL P n w0 M ops Q (⟨some d, .alloc T,U,pos,Bn,none⟩ :: rest) F L:=Se hd z.h hv fun b=>Lw CH E 1 (k b)
theorem Gx {fn:Func}{rs:List ResultVar}(hr:fn.results=rs.toArray)(h:Rs P F L rs vs)(hR:∀ w,St w0 M w L→R (Uv vs) w):GQ n w0 M (bodyPost P fn fun e w'=>∃ v,e = .returned v∧R v w') .ret F L:=dp hr h hR
theorem Gy {fn:Func}{rs:List ResultVar}(hr:fn.results=rs.toArray)(h:Rs P F L rs vs)(hR:∀ w,St w0 M w L→R (Uv vs) w):GQ n w0 M (bodyPost P fn fun e w'=>∃ v,e = .returned v∧R v w') .normal F L:=Yj hr h hR
theorem Kt {b:Bool}{p q X Y:Prop}(hb:b=true)(h:X):(b=true→p→X)∧(b=false→q→Y):=⟨fun _ _=>h,fun e=>absurd (hb.symm.trans e) (by decide)⟩
theorem Kf {b:Bool}{p q X Y:Prop}(hb:b=false)(h:Y):(b=true→p→X)∧(b=false→q→Y):=⟨fun e=>absurd (hb.symm.trans e) (by decide),fun _ _=>h⟩
theorem Lp {v v':Value}(h:v=v'):∀ w,St w0 [] w L→v=v'∧BG w0 w:=fun _ hS=>⟨h,hS.au⟩
theorem Rb {fn:Func}{c:Code}{args:List Value}{w:World}(hf:P.funcs[f]?=some fn)(h:G P n w [] c (bodyPost P fn fun e w'=>∃ v,e = .returned v∧R v w') (entry 0 args) [])(hb:fn.body=some c:=by rfl)(hn:fn.ntmps=n:=by rfl)(hl:Nat.ble args.length n=true:=by rfl):Ck P f args.toArray w R:=AU [] [] hf hb hn hl (St.start w []) h
theorem Rs.ca {α:Type}{ea:α→List Value}{t:Tmp}{T V b sz:Nat}{X:α}{rs:List ResultVar}[i:Me P T sz](h:lk t F=some (.pointer (some ⟨b,0,none⟩)))(hL:AJ.box b V (ea X)∈L)(fe:Flat ea sz)(hs:Rs P F L rs vs):Rs P F L (.cell t T :: rs) (.agg (ea X).toArray :: vs):= .cell h hL (.inl ⟨by rw [fe.len];exact i.h,rfl⟩) hs
theorem Rs.cs {t:Tmp}{T V b:Nat}{v:Value}{rs:List ResultVar}[i:Oi P T](h:lk t F=some (.pointer (some ⟨b,0,none⟩)))(hL:AJ.box b V [v]∈L)(hs:Rs P F L rs vs):Rs P F L (.cell t T :: rs) (v :: vs):= .cell h hL (.inr ⟨i.h.1,rfl⟩) hs
theorem dj {d:Nat}{args:List Operand}{ts:Array TypeId}{T:TypeId}{pos:String}{Bn:Array Edge}{j t:Nat}{b c:Bool}[cf:BN P f](hj:(ops[j]?).bind (·.dst)=some t)(hb:lk t F=some (.bool c))(hc:c=b)(hd:Nat.blt d n=true)(ha:Nr F args vs)(h:CK P w0 M f vs L fun v L'=>GL P n w0 M ops Q rest ((d,v) :: F) L'):GL P n w0 M ops Q (⟨some d, .call ⟨.value (.func f),args.toArray,ts⟩,T,pos,Bn,some (j,b)⟩ :: rest) F L:=by
 intro a w hF hS
 refine wpList_step fun K' hK=>?_
 rw [if_pos (by simp [Region.wanted,D1 hF hj (hc ▸ hb)])]
 unfold Oper.wp
 rw [Pc cf.h hF ha]
 show Calls _ _ _ _ _
 refine Calls.mono (h w hS) fun e w' he=>?_
 obtain⟨v,rfl,L',hk,hS'⟩:=he
 exact hK _ _ (hk _ _ (hF.put (by simpa [Nat.blt_eq] using hd) v) hS')
theorem dh {d t:Nat}{caps:List Value}{args:List Operand}{ts:Array TypeId}{T:TypeId}{pos:String}{Bn:Array Edge}(hd:Nat.blt d n=true)(hf:lk t F=some (.func (.func f) #[] caps.toArray))(c:BN P f)(ha:Nr F args vs)(h:CK P w0 M f (vs++caps) L fun v L'=>GL P n w0 M ops Q rest ((d,v) :: F) L'):GL P n w0 M ops Q (⟨some d, .call ⟨.value (.tmp t),args.toArray,ts⟩,T,pos,Bn,none⟩ :: rest) F L:=by
 intro a w hF hS
 refine wpList_plain rfl fun K' hK=>?_
 unfold Oper.wp
 rw [Xy c.h hF hf ha]
 show Calls _ _ _ _ _
 refine Calls.mono (h w hS) fun e w' he=>?_
 obtain⟨v,rfl,L',hk,hS'⟩:=he
 exact hK _ _ (hk _ _ (hF.put (by simpa [Nat.blt_eq] using hd) v) hS')
variable {A K:List AJ} {Post:Value→List AJ→Prop} {H:World→Prop}
theorem Cl (hp:AK L A K)(h:Gv P f vs.toArray A Post)(k':∀ v B,Post v B→k v (B++K)):CK P w0 M f vs L k:=fun w hS=>(h w (hS.perm hp.perm).focus).mono fun v w' ⟨B,hP,hB⟩=>⟨B++K,k' v B hP,(hS.perm hp.perm).frame hB⟩
theorem Cm (hp:AK L A K)(h:Cw P f vs.toArray A H Post)(k':∀ v B,Post v B→k v (B++K))(hH:AK L A K→∀ w,St w0 M w L→H w:=by intro hp w hS;repeat' (first | exact GV.pull (by assumption) (by assumption) hS hp | exact Ea.pull (by assumption) (by assumption) hS hp | exact Ea.st (by assumption) hS | exact Ea.stM (by assumption) (by assumption) hS | exact GV.st (by assumption) hS | exact GV.stM (by assumption) (by assumption) hS | exact(Kx:Kn _ _ _ _ _ _ _) w hS | apply And.intro)):CK P w0 M f vs L k:=fun w hS=>(h w (hS.perm hp.perm).focus (hH hp w hS)).mono fun v w' ⟨B,hP,hB⟩=>⟨B++K,k' v B hP,(hS.perm hp.perm).frame hB⟩
theorem Cn {α:Type}(e:α→List Value)(T sz:Nat)(h:CK P w0 M f vs (AJ.own ⟨none,0,0⟩ T sz (([]:List α).flatMap e) :: L) k):CK P w0 M f vs L k:=fun w hS=>h w (hS.BX T sz)
section
variable {T U V E E':Nat} {x y z:Operand} {v:Value} {h:Hd} {k1 k2:IntKind}
theorem fi {i:Int}{s:AL}[u:Fh P U .string](hx:ev F x=some (Ae s))(hy:ev F y=some (.int k1 i))(hi:0≤i∧i < s.length):PS P n w0 M (.index U x y) T F L (.int .u8 (s.getD i.toNat 0).toNat) L:=RU u.h hx hy hi.1 hi.2
theorem fg {α:Type}{e:α→List Value}{len sz:Nat}{X:Vector α len}{i:Int}[u:Fh P T (.array len E)][s:ZB P E sz][o:Oi P E](hx:ev F x=some (.agg (BT e X).toArray))(hy:ev F y=some (.int k1 i))(ih:Inhabited α)(fe:Flat e sz)(hi:0≤i∧i < (len:Int))(hv:e (X.at i) = [v]):PS P n w0 M (.index T x y) U F L v L:=XC fe u.h s.h o.h.1 hx hy hi.1 hi.2 hv
theorem fh {α:Type}{e:α→List Value}{len sz:Nat}{X:Vector α len}{i:Int}[u:Fh P T (.array len E)][o:Me P E sz](hx:ev F x=some (.agg (BT e X).toArray))(hy:ev F y=some (.int k1 i))(ih:Inhabited α)(fe:Flat e sz)(hi:0≤i∧i < (len:Int)):PS P n w0 M (.index T x y) U F L (.agg (e (X.at i)).toArray) L:=U8 fe u.h o.h hx hy hi.1 hi.2
theorem jB {s:AL}{a b:Int}[u:Fh P T .string](hx:ev F x=some (Ae s))(hy:ev F y=some (.int k1 a))(hz:ev F z=some (.int k2 b))(h0:0≤a∧a≤b)(h2:b≤s.length):PS P n w0 M (.slice T x (some y) (some z) none) U F L (Ae ((s.take b.toNat).drop a.toNat)) L:=bo u.h hx hy hz h0.1 h0.2 h2
theorem jA {s:AL}{a:Int}[u:Fh P T .string](hx:ev F x=some (Ae s))(hy:ev F y=some (.int k1 a))(h0:0≤a∧a≤s.length):PS P n w0 M (.slice T x (some y) none none) U F L (Ae (s.drop a.toNat)) L:=Y6 u.h hx hy h0.1 h0.2
theorem iz {s:AL}{b:Int}[u:Fh P T .string](hx:ev F x=some (Ae s))(hz:ev F z=some (.int k1 b))(h0:0≤b∧b≤s.length):PS P n w0 M (.slice T x none (some z) none) U F L (Ae (s.take b.toNat)) L:=Y5 u.h hx hz h0.1 h0.2
theorem fx {c:UInt8}[u:Fh P V (.int .i64)][t:Fh P U (.int .u8)](hx:ev F x=some (.int .u8 (c.toNat:Int))):PS P n w0 M (.convert U V x) T F L (.int .i64 (c.toNat:Int)) L:=eO u.h t.h hx
theorem iw {h:Hd}{s:AL}{E:Nat}{v:Value}[u:Fh P U (.slice E)][t:Fh P V .string][e:Fh P E (.int .u8)](hx:ev F x=some v)(hv:v=h.val)(hk:Kn w0 M L h E 1 (s.flatMap CH)):PS P n w0 M (.convert U V x) T F L (Ae s) L:=QQ u.h t.h e.h (hv ▸ hx) hk
theorem fw {a c:Int}{k k':IntKind}[u:Fh P V (.int k')][t:Fh P U (.int k)](hx:ev F x=some (.int k a))(hc:k'.wrap a=c):PS P n w0 M (.convert U V x) T F L (.int k' c) L:=Sr u.h t.h hx hc
theorem fm {p:Option Addr}{l c:Nat}[u:Fh P U (.slice E)](hx:ev F x=some (.slice p l c)):PS P n w0 M (.call ⟨.builtin .len,#[x],#[U]⟩) T F L (.int .i64 l) L:=JG rfl u.h hx
theorem fV {p:Option Addr}{l c:Nat}[u:Fh P U (.slice E)](hx:ev F x=some (.slice p l c)):PS P n w0 M (.call ⟨.builtin .cap,#[x],#[U]⟩) T F L (.int .i64 c) L:=Ly rfl u.h hx
theorem fW {p q:Bool}[u:Fh P U .bool](hx:ev F x=some (.bool p))(hy:ev F y=some (.bool q)):PS P n w0 M (.binOp .eql U x y V) T F L (.bool (p == q)) L:=Sk u.h hx hy
theorem fo {p q:Bool}[u:Fh P U .bool](hx:ev F x=some (.bool p))(hy:ev F y=some (.bool q)):PS P n w0 M (.binOp .neq U x y V) T F L (.bool (p != q)) L:=So u.h hx hy
theorem fX {α:Type}{d:DecidableEq α}{ea:α→List Value}{k:Nat}{X Y:α}[e:jC P T d ea k](hk:k≤10000)(hg:P.eqGuardType P.depth T=false)(hx:ev F x=some (.agg (ea X).toArray))(hy:ev F y=some (.agg (ea Y).toArray)):PS P n w0 M (.binOp .eql T x y V) U F L (.bool (decide (X=Y))) L:=U4 e.h hk hg hx hy
theorem fp {α:Type}{d:DecidableEq α}{ea:α→List Value}{k:Nat}{X Y:α}[e:jC P T d ea k](hk:k≤10000)(hg:P.eqGuardType P.depth T=false)(hx:ev F x=some (.agg (ea X).toArray))(hy:ev F y=some (.agg (ea Y).toArray)):PS P n w0 M (.binOp .neq T x y V) U F L (.bool (!decide (X=Y))) L:=VB e.h hk hg hx hy
theorem iy {ts:Array TypeId}(hx:ev F x=some v)(hv:v=h.val)(hz:h.Z):PS P n w0 M (.call ⟨.builtin .unsafeSliceData,#[x],ts⟩) T F L h.base L:=RX (hv ▸ hx) hz
theorem iv {d:Bool}(hc:ev F z=some (.bool d))(hd:d=true)(hx:ev F x=some v):PS P n w0 M (.pick z x y) T F L v L:=JI (hd ▸ hc) hx
theorem iu {d:Bool}(hc:ev F z=some (.bool d))(hd:d=false)(hx:ev F y=some v):PS P n w0 M (.pick z x y) T F L v L:=II (hd ▸ hc) hx
theorem iX {l:List (Nat × Nat)}{parts:List (Nat × Operand)}{zv:Value}{cs cs':List Value}[s:P0 P T l][zz:Kz P T zv](hzc:zv.cells=cs.toArray)(h:Bd F (fun i=>l[i]?) parts cs cs'):PS P n w0 M (.build T parts.toArray) U F L (.agg cs'.toArray) L:=Yx s.pl zz.h hzc h
theorem iW {len sz:Nat}{parts:List (Nat × Operand)}{zv:Value}{cs cs':List Value}[u:Fh P T (.array len E)][s:ZB P E sz][zz:Kz P T zv](hzc:zv.cells=cs.toArray)(h:Bd F (fun i=>some (i * sz,sz)) parts cs cs'):PS P n w0 M (.build T parts.toArray) U F L (.agg cs'.toArray) L:=XB u.h s.h zz.h hzc h
section
variable {α β:Type} {ea:α→List Value} {eb:β→List Value} {o sz i:Nat} {g:α→β} {s:α→β→α} {X:α} {Y:β} {rest:List (Nat × Operand)} {cs':List Value}
theorem jw {l:List (Nat × Nat)}(hx:ev F x=some v)(hp:l[i]?=some (o,sz))(hl:Ab ea eb o sz g s)(hv:v.cells=(eb Y).toArray)(h:Bd F (fun i=>l[i]?) rest (ea (s X Y)) cs'):Bd F (fun i=>l[i]?) ((i,x) :: rest) (ea X) cs':= .cons hl hx hv hp h
theorem jv [Inhabited α]{n:Nat}{X:Vector α n}{Y:α}[fe:Flat ea sz](hx:ev F x=some v)(hi:i < n)(hv:v.cells=(ea Y).toArray)(h:Bd F (fun i=>some (i * sz,sz)) rest (BT ea (X.put (i:Int) Y)) cs'):Bd F (fun i=>some (i * sz,sz)) ((i,x) :: rest) (BT ea X) cs':= .cons (Ab.arr fe (i:=(i:Int)) (by omega) (by omega)) hx hv (by simp) h
end
section
variable {α:Type} {e:α→List Value} {d sz:Nat} {pos:String} {Bn:Array Edge} {zv:Value}
theorem iY {a:α}[u:Fh P T (.slice E)][l:dN P E e sz][s:ZB P E sz][zz:Kz P E zv](hd:Nat.blt d n=true)(hzs:zv.cells.size=sz)(hsz:0 < sz)(hbig:sz≤16777216)(hx:ev F x=some v)(hv:v.cells=(e a).toArray)
  (k:∀ b,GL P n w0 M ops Q rest ((d,Hd.val ⟨some ⟨b,0,none⟩,1,1⟩) :: F) (AJ.own ⟨some ⟨b,0,none⟩,1,1⟩ E sz ([a].flatMap e) :: L)):GL P n w0 M ops Q (⟨some d, .buildSlice T 1 #[(0,x)],U,pos,Bn,none⟩ :: rest) F L:=KX e l.f hd u.h s.h zz.h hzs hsz hbig hx hv k
theorem iV {Gf gl:Nat}{xs zs:List α}{yv:Value}{Lf:AJ→List AJ}[u:Fh P U (.slice E)][l:bK P E e sz][s:ZB P E sz][zz:Kz P E zv][bb:dM P E Gf](hd:Nat.blt d n=true)(hzs:zv.cells.size=sz)(hb0:0 < Gf)(hsz:0 < sz)(hx:ev F x=some v)(hv:v=h.val)(hy:ev F y=some yv)(hU:∀ r,Ig L (AJ.own h E sz (xs.flatMap e)) r (Lf r))(hk:∀ w,St w0 M w L→Src P w V sz yv gl (zs.flatMap e))(hbd:(2 * (h.len+gl)+192) * Gf≤281474976710656)
  (k:∀ h':Hd,h'.len=h.len+gl→(h.Z→h'.Z)→GL P n w0 M ops Q rest ((d,h'.val) :: F) (Lf (AJ.own h' E sz ((xs++zs).flatMap e)))):GL P n w0 M ops Q (⟨some d, .call ⟨.builtin .append,#[x,y],#[U,V]⟩,T,pos,Bn,none⟩ :: rest) F L:=Fo l.f hd u.h s.h zz.h hzs bb.h hb0 hsz (hv ▸ hx) hy hk hbd hU k
theorem iZ {xs:List α}{kd:IntKind}{i:Int}{Lf:AJ→List AJ}[u:Fh P T (.slice E)][l:bK P E e sz][s:ZB P E sz](hd:Nat.blt d n=true)(hx:ev F x=some v)(hv:v=h.val)(hy:ev F y=some (.int kd i))(hi:0≤i∧i≤(h.len:Int))(hU:∀ r,Ig L (AJ.own h E sz (xs.flatMap e)) r (Lf r))
  (k:GL P n w0 M ops Q rest ((d,Hd.val ⟨h.a,i.toNat,h.cap⟩) :: F) (Lf (AJ.own ⟨h.a,i.toNat,h.cap⟩ E sz ((xs.take i.toNat).flatMap e)))):GL P n w0 M ops Q (⟨some d, .slice T x none (some y) none,U,pos,Bn,none⟩ :: rest) F L:=QP l.f hd u.h s.h (hv ▸ hx) hy hi.1 hi.2 hU k
end
end
end
/-! ### drawn regions -/
class Ln {α:Type} (l:List α) (N:outParam Nat):Prop where
 h:l.length=N
instance {α:Type}:Ln ([]:List α) 0:=⟨rfl⟩
instance {α:Type}{a:α}{l:List α}{N:Nat}[i:Ln l N]:Ln (a :: l) (N+1):=⟨by simp [i.h]⟩
def iP:List Oper→List Nat→List Nat
 | [],_=> []
 | o :: l,R=>
  let R':=match o.op with | .move (.tmp k)=>k :: R | _=>R
  match o.dst with
  | some d=>if R.elem d then iP l R' else d :: iP l R'
  | none=>iP l R'
def OJ (ds:List Nat)(F F':List (Nat × Value)):Prop:=Sub F F'∧∀ k,ds.elem k=true→lk k F'=none
section
variable {ds:List Nat} {d k i n:Nat} {v:Value} {x:Nat × Value} {F F' G:List (Nat × Value)} {D:List (Nat × (Nat × Value))} {vs:List Value}
theorem Yr:OJ ds [] []:=⟨.nil _,fun _ _=>rfl⟩
theorem bc (e:ds.elem k=false)(h:OJ ds F F'):OJ ds ((k,v) :: F) ((k,v) :: F'):=by
 refine⟨fun j u hj=>?_,fun j hj=>?_⟩
 ·unfold lk at hj ⊢
  by_cases q:Nat.beq j k=true
  ·rw [q] at hj ⊢;exact hj
  ·rw [Bool.eq_false_iff.2 q] at hj ⊢;exact h.1 j u hj
 ·unfold lk
  have q:Nat.beq j k=false:=Bool.eq_false_iff.2 fun q=>by rw [Nat.eq_of_beq_eq_true q] at hj;rw [hj] at e;cases e
  rw [q];exact h.2 j hj
theorem ba (e:ds.elem k=true)(h:OJ ds F F'):OJ ds ((k,v) :: F) F':=by
 refine⟨fun j u hj=>?_,h.2⟩
 unfold lk
 by_cases q:Nat.beq j k=true
 ·rw [Nat.eq_of_beq_eq_true q,h.2 k e] at hj;cases hj
 ·rw [Bool.eq_false_iff.2 q];exact h.1 j u hj
theorem dx (h:OJ ds (x :: (F++G)) F'):OJ ds ((x :: F)++G) F':=h
theorem bZ (h:OJ ds G F'):OJ ds ([]++G) F':=h
theorem gM (h:OJ ds ((d,v) :: (Gi D++G)) F'):OJ ds (Gi ((i,(d,v)) :: D)++G) F':=h
theorem gO (h:OJ ds ((d,v) :: (Gi D++G)) F'):OJ ds (Gi (J1 i (some d) v D)++G) F':=h
theorem gN (h:OJ ds (Gi D++G) F'):OJ ds (Gi (J1 i none v D)++G) F':=h
theorem gL (h:OJ ds G F'):OJ ds (Gi []++G) F':=h
theorem gK (h:OJ ds ((n,v) :: entry (n+1) vs) F'):OJ ds (entry n (v :: vs)) F':=h
theorem gJ:OJ ds (entry n []) []:=Yr
theorem j3 (h:OJ ds F F':=by repeat (first | exact Yr | ((with_reducible apply bc);exact rfl) | ((with_reducible apply ba);exact rfl) | (with_reducible apply dx) | (with_reducible apply bZ) | (with_reducible apply gM) | (with_reducible apply gL) | apply gO | apply gN | (with_reducible apply gK) | (with_reducible exact gJ))):OJ ds F F':=h
end
def kB:Op→Bool
 | .move _ | .assign _ | .pick _ _ _ | .build _ _ | .load _ _ | .nilCheck _ | .binOp _ _ _ _ _ | .unOp _ _ _ | .makeFunc _ _ _ | .fieldAddr _ _ _ | .field _ _ _ | .indexAddr _ _ _ | .index _ _ _ | .lookup _ _ _ _ | .extract _ _=>false
 | _=>true
def dC (l:List Oper):List Nat:=l.foldl (fun R o=>R ++ [o.after.toList.foldl (fun m e=>if Region.binds .any e then m ||| (1 <<< e.on) ||| R.getD e.on 0 else m) 0]) []
section
variable {P:Program} {n:Nat} {w0:World} {M:List Nat} {Q:Exit→Go.Act→World→Prop} {l:List Oper} {Rs:List Nat} {F:List (Nat × Value)} {L:List AJ} {V A:List Nat} {D:List (Nat × (Nat × Value))} {k d j t:Nat} {v v':Value} {o:Oper} {op:Op} {T:TypeId} {pos:String} {Bn:Array Edge} {b c:Bool}
theorem Pl {id N:Nat}[m:jE P][i:Ln l N](hchk:(J2 0 l && fB l (dC l) && VN n F l && E2 l)=true)(h:IJ P n w0 M Q l (dC l) F N [] [] [] L):G P n w0 M (.region id l.toArray true) Q F L:=WI _ m.h hchk i.h h
theorem JA (b:Nat)(ho:l[b]?=some o)(_he:kB o.op=true)(hc:(!(V.elem b) && cG l Rs V [b])=true)(hn:XO o.dst F=true)
  (h:GL P n w0 M l.toArray (QK (PK n w0 M o fun v L'=>HK P n w0 M Q l Rs F b (J1 b o.dst v D) L' A∧IJ P n w0 M Q l Rs F k (b :: V) A (J1 b o.dst v D) L') Q) [o] (DQ D o.after.toList++F) L):IJ P n w0 M Q l Rs F (k+1) V A D L:=LI b ho hc h hn
theorem I9 (i:Nat)(ho:l[i]?=some o)(hd:o.dst=some d)(hc:cM l V i o.after.toList=true)(hok:E4 P n w0 M Q l.toArray F L o D v)(hlk:Xk F d v)(h:IJ P n w0 M Q l Rs F k (i :: V) (i :: A) ((i,(d,v)) :: D) L):IJ P n w0 M Q l Rs F (k+1) V A D L:=OR i ho hd hc hok h hlk
theorem j7 {i:Nat}(ho:l[j]?=some o)(hl:NT j D=some (d,v))(hok:E4 P n w0 M Q l.toArray F L o D v')(e:v'=v)(h:HK P n w0 M Q l Rs F i D L A):HK P n w0 M Q l Rs F i D L (j :: A):=Sv ho hok hl e h
theorem fq (hj:(l.toArray[j]?).bind (·.dst)=some t)(hb:lk t (DQ D Bn.toList++F)=some (.bool c))(hc:c=b)(h:EX P n w0 M op T (DQ D Bn.toList++F) L v):E4 P n w0 M Q l.toArray F L ⟨some d,op,T,pos,Bn,some (j,b)⟩ D v:=gY hj (hc ▸ hb) h
theorem YZ (hj:(l.toArray[j]?).bind (·.dst)=some t)(hb:lk t (DQ D Bn.toList++F)=some (.bool c))(hc:c=false):E4 P n w0 M Q l.toArray F L ⟨some d,op,T,pos,Bn,some (j,true)⟩ D undef:=Yv hj hb (by rw [hc];rfl)
theorem YY (hj:(l.toArray[j]?).bind (·.dst)=some t)(hb:lk t (DQ D Bn.toList++F)=some (.bool c))(hc:c=true):E4 P n w0 M Q l.toArray F L ⟨some d,op,T,pos,Bn,some (j,false)⟩ D undef:=Yv hj hb (by rw [hc];rfl)
end
theorem Om {p:Prop}(h:p:=by first | exact Nat.le_refl 0 | omega | assumption | exact⟨Nat.le_refl 0,by assumption⟩ | exact⟨⟨Nat.le_refl 0,by assumption⟩,by assumption⟩ | exact⟨⟨Nat.le_refl 0,by omega⟩,by assumption⟩ | exact⟨⟨Nat.le_refl 0,by assumption⟩,by omega⟩ | (dsimp only;omega) | (simp only [Aa.E5,List.length_append,List.length_cons,List.length_nil];omega) | ((try dsimp only at *);(try simp only [List.length_append,List.length_cons,List.length_nil,List.length_take,List.length_drop,Hd.cut] at *);omega) | (simp<;>omega)):p:=h
theorem jy {F:List (Nat × Value)}{x:Operand}{u v:Value}(h:ev F x=some u)(k:u=v):ev F x=some v:=k ▸ h
theorem kD {c:Bool}{w v:Value}(h:c=true)(e:w=v):cv c w=v:=by rw [h];exact e
theorem kC {c:Bool}{w v:Value}(h:c=false)(e:w=v):cv (!c) w=v:=by rw [h];exact e
theorem Ex {F:List (Nat × Value)}{x:Operand}{v:Value}(h:ev F x=some v:=by apply jy;exact rfl;first | ((with_reducible apply kC);assumption;exact rfl) | ((with_reducible apply kD);(first | assumption | (rw [q];rfl) | (rw [qc,q];rfl) | exact qc | exact jI qc);exact rfl) | exact rfl):ev F x=some v:=h
theorem Mx {r:AJ}{L:List AJ}(h:r∈L:=by first | ((repeat (first | (with_reducible exact List.mem_cons_self ..) | (with_reducible apply List.mem_cons_of_mem)));done) | exact .head _ | exact .tail _ (.head _) | exact .tail _ (.tail _ (.head _)) | exact .tail _ (.tail _ (.tail _ (.head _))) | exact .tail _ (.tail _ (.tail _ (.tail _ (.head _)))) | exact .tail _ (.tail _ (.tail _ (.tail _ (.tail _ (.head _))))) | exact .tail _ (.tail _ (.tail _ (.tail _ (.tail _ (.tail _ (.head _)))))) | exact .tail _ (.tail _ (.tail _ (.tail _ (.tail _ (.tail _ (.tail _ (.head _))))))) | exact .tail _ (.tail _ (.tail _ (.tail _ (.tail _ (.tail _ (.tail _ (.tail _ (.head _)))))))) | exact .tail _ (.tail _ (.tail _ (.tail _ (.tail _ (.tail _ (.tail _ (.tail _ (.tail _ (.head _))))))))) | exact .tail _ (.tail _ (.tail _ (.tail _ (.tail _ (.tail _ (.tail _ (.tail _ (.tail _ (.tail _ (.head _)))))))))) | exact .tail _ (.tail _ (.tail _ (.tail _ (.tail _ (.tail _ (.tail _ (.tail _ (.tail _ (.tail _ (.tail _ (.head _))))))))))) | exact .tail _ (.tail _ (.tail _ (.tail _ (.tail _ (.tail _ (.tail _ (.tail _ (.tail _ (.tail _ (.tail _ (.tail _ (.head _)))))))))))) | exact .tail _ (.tail _ (.tail _ (.tail _ (.tail _ (.tail _ (.tail _ (.tail _ (.tail _ (.tail _ (.tail _ (.tail _ (.tail _ (.head _)))))))))))))):r∈L:=h
theorem Ux {r r':AJ}{L L':List AJ}(h:Ig L r r' L':=by first | ((repeat (first | (with_reducible exact Ig.head) | (with_reducible apply Ig.tail)));done) | exact .head | exact .tail (.head) | exact .tail (.tail (.head)) | exact .tail (.tail (.tail (.head))) | exact .tail (.tail (.tail (.tail (.head)))) | exact .tail (.tail (.tail (.tail (.tail (.head))))) | exact .tail (.tail (.tail (.tail (.tail (.tail (.head)))))) | exact .tail (.tail (.tail (.tail (.tail (.tail (.tail (.head))))))) | exact .tail (.tail (.tail (.tail (.tail (.tail (.tail (.tail (.head)))))))) | exact .tail (.tail (.tail (.tail (.tail (.tail (.tail (.tail (.tail (.head))))))))) | exact .tail (.tail (.tail (.tail (.tail (.tail (.tail (.tail (.tail (.tail (.head)))))))))) | exact .tail (.tail (.tail (.tail (.tail (.tail (.tail (.tail (.tail (.tail (.tail (.head))))))))))) | exact .tail (.tail (.tail (.tail (.tail (.tail (.tail (.tail (.tail (.tail (.tail (.tail (.head)))))))))))) | exact .tail (.tail (.tail (.tail (.tail (.tail (.tail (.tail (.tail (.tail (.tail (.tail (.tail (.head)))))))))))))):Ig L r r' L':=h
theorem Kx {w0:World}{M:List Nat}{L:List AJ}{h:Hd}{T sz:Nat}{cs:List Value}(k:Kn w0 M L h T sz cs:=by first | exact Kn.own Mx | exact Kn.IW (by assumption) | exact(fun w _=>Rd.nil w _ _) | exact gI (by assumption) (Kn.IW (by assumption)) (Kn.own Mx)):Kn w0 M L h T sz cs:=k
theorem QL {F:List (Nat × Value)}{xs:List Operand}{vs:List Value}(h:Nr F xs vs:=by repeat (first | exact .nil | (apply Nr.cons;exact Ex))):Nr F xs vs:=h
theorem jx {F:List (Nat × Value)}{l:List (Nat × Nat)}{ps:List (Nat × Operand)}{cs cs':List Value}(h:Bd F (fun i=>l[i]?) ps cs cs':=by repeat (first | exact .nil | (apply jw;exact Ex;exact rfl;exact inferInstance;(first | exact rfl | exact(rfl:(Value.slice none 0 0).cells=(EF ⟨none,0,0⟩).toArray))))):Bd F (fun i=>l[i]?) ps cs cs':=h
theorem ju {F:List (Nat × Value)}{sz:Nat}{ps:List (Nat × Operand)}{cs cs':List Value}(h:Bd F (fun i=>some (i * sz,sz)) ps cs cs':=by repeat (first | exact .nil | (apply jv;exact Ex;exact Om;exact rfl))):Bd F (fun i=>some (i * sz,sz)) ps cs cs':=h
section
variable {P:Program} {n:Nat} {w0:World} {M:List Nat} {Q:Exit→Go.Act→World→Prop} {F:List (Nat × Value)} {L L':List AJ}
theorem Px {op:Op}{T:TypeId}{v:Value}(h:PS P n w0 M op T F L v L':=by first
 | ((with_reducible apply JH);exact Ex)
 | ((with_reducible apply Kc);exact Ex)
 | ((with_reducible apply ib);exact Ex;(with_reducible exact rfl);exact rfl)
 | ((with_reducible apply ia);exact Ex;exact rfl)
 | ((with_reducible apply fj);exact Ex;exact Mx)
 | ((with_reducible apply ij);exact Ex;exact Mx;exact inferInstance;exact Om;exact rfl)
 | ((with_reducible apply fk);exact Ex;exact Mx;exact inferInstance;exact Om;exact rfl)
 | ((with_reducible apply iq);exact Ex;(with_reducible exact rfl);exact Kx;exact Om)
 | ((with_reducible apply im);exact Ex;(with_reducible exact rfl);exact Kx;exact Om)
 | ((with_reducible apply ir);exact Ex;(with_reducible exact rfl);exact Kx;exact Om)
 | ((with_reducible apply ik);exact Ex;(with_reducible exact rfl);exact Kx;(case ih=>exact inferInstance);exact inferInstance;exact inferInstance;exact Om;exact Om;exact rfl)
 | ((with_reducible apply il);exact Ex;(with_reducible exact rfl);exact Kx;(case ih=>exact inferInstance);exact inferInstance;exact Om;exact Om)
 | ((with_reducible apply ie);exact Ex;exact Ex;exact Om)
 | ((with_reducible apply ig);exact Ex;(with_reducible exact rfl);exact Kx;exact Om;exact Ex;exact Om)
 | ((with_reducible apply dz);exact Ex;exact Ex)
 | ((with_reducible apply eG);exact Ex;exact Ex)
 | ((with_reducible apply eH);exact Ex;exact Ex)
 | ((with_reducible apply eB);exact Ex;exact Ex)
 | ((with_reducible apply eA);exact Ex;exact Ex)
 | ((with_reducible apply eF);exact Ex;exact Ex)
 | ((with_reducible apply U5);exact Ex;exact Ex)
 | ((with_reducible apply VC);exact Ex;exact Ex)
 | ((with_reducible apply NH);exact Ex)
 | ((with_reducible apply eI);exact Ex)
 | ((with_reducible apply U7);exact Ex;exact rfl)
 | ((with_reducible apply gZ);exact Ex;exact rfl;(intro h;first | exact h | (rw [h];rfl) | (rw [q,h];rfl) | (rw [qc,q,h];rfl)))
 | ((with_reducible apply dy);exact Ex;exact rfl;(intro h;first | exact h | (rw [h];rfl) | (rw [q,h];rfl) | (rw [qc,q,h];rfl)))
 | ((with_reducible apply Yw);exact Ex;exact Ex;(first | exact IntWalk.i64_in _ Om | exact IntWalk.u8_in _ Om))
 | ((with_reducible apply Y4);exact Ex;exact Ex;(first | exact IntWalk.i64_in _ Om | exact IntWalk.u8_in _ Om))
 | ((with_reducible apply Y3);exact Ex;exact Ex;(first | exact IntWalk.i64_in _ Om | exact IntWalk.u8_in _ Om))
 | ((with_reducible apply bP);exact Ex)
 | ((with_reducible apply fm);exact Ex)
 | ((with_reducible apply fV);exact Ex)
 | ((with_reducible apply fZ);exact Ex)
 | ((with_reducible apply fY);exact Ex)
 | ((with_reducible apply fi);exact Ex;exact Ex;exact Om)
 | ((with_reducible apply fg);exact Ex;exact Ex;(case ih=>exact inferInstance);exact inferInstance;exact Om;exact rfl)
 | ((with_reducible apply fh);exact Ex;exact Ex;(case ih=>exact inferInstance);exact inferInstance;exact Om)
 | ((with_reducible apply jB);exact Ex;exact Ex;exact Ex;exact Om;exact Om)
 | ((with_reducible apply jA);exact Ex;exact Ex;exact Om)
 | ((with_reducible apply iz);exact Ex;exact Ex;exact Om)
 | ((with_reducible apply iw);exact Ex;(with_reducible exact rfl);exact Kx)
 | ((with_reducible apply fx);exact Ex)
 | ((with_reducible apply fw);exact Ex;(first | exact IntWalk.i64_in _ Om | exact IntWalk.u8_in _ Om))
 | ((with_reducible apply iy);exact Ex;(with_reducible exact rfl);assumption)
 | ((with_reducible apply iv);exact Ex;(first | (with_reducible exact rfl) | assumption | decide | (simp only [List.length_cons,List.length_nil]<;>rfl));exact Ex)
 | ((with_reducible apply iu);exact Ex;(first | (with_reducible exact rfl) | assumption | decide | (simp only [List.length_cons,List.length_nil]<;>rfl));exact Ex)
 | ((with_reducible apply fX);exact Om;decide +kernel;exact Ex;exact Ex)
 | ((with_reducible apply fp);exact Om;decide +kernel;exact Ex;exact Ex)
 | ((with_reducible apply fW);exact Ex;exact Ex)
 | ((with_reducible apply fo);exact Ex;exact Ex)
 | ((with_reducible apply bk);exact Ex;exact Ex)
 | ((with_reducible apply bl);exact Ex;exact Ex)
 | ((with_reducible apply eM);exact Ex;exact Ex;exact Om)
 | ((with_reducible apply LF);exact Ex;exact Ex;exact Om)
 | ((with_reducible apply bn);exact Ex;exact Ex)
 | ((with_reducible apply eJ);exact Ex;exact Ex)
 | ((with_reducible apply iX);exact rfl;exact jx)
 | ((with_reducible apply iW);exact rfl;exact ju)
 | ((with_reducible apply Sn);exact QL)):PS P n w0 M op T F L v L':=h
theorem j5 {op:Op}{T:TypeId}(h:PU P n w0 M op T F L L':=by first
 | ((with_reducible apply fu);exact Ex;exact Ex;exact rfl;exact rfl;exact Ux)
 | ((with_reducible apply ft);exact Ex;exact Ex;exact Mx;exact inferInstance;exact Om;exact rfl;exact rfl;exact Ux)
 | ((with_reducible apply ft (Y:=(⟨none,0,0⟩:Hd)));exact Ex;exact Ex;exact Mx;exact inferInstance;exact Om;exact rfl;exact rfl;exact Ux)):PU P n w0 M op T F L L':=h
theorem jj {rs:List ResultVar}{vs:List Value}(h:Rs P F L rs vs:=by(repeat (first | exact Rs.nil | (apply Rs.tmp;exact rfl) | (apply Rs.cs;exact rfl;exact Mx) | (apply Rs.ca;exact rfl;exact Mx;exact inferInstance)))):Rs P F L rs vs:=h
theorem Sx {f:FuncId}{vs:List Value}{R:World→Value→World→Prop}(h:∀ w,St w0 M w L→Ck P f vs.toArray w (R w):=by(intro w hS;apply jZ;intro hs;apply hs<;>first | exact Om | exact(Kx:Kn _ _ _ _ _ _ _) w hS | exact GV.st (by assumption) hS | exact GV.stM (by assumption) (by assumption) hS | exact Ea.st (by assumption) hS | exact Ea.stM (by assumption) (by assumption) hS)):∀ w,St w0 M w L→Ck P f vs.toArray w (R w):=h
variable {l:List Oper} {Rs V A:List Nat} {D:List (Nat × (Nat × Value))} {o:Oper} {v:Value} {i:Nat}
theorem j4 (h:E4 P n w0 M Q l.toArray F L o D v:=by first
 | ((with_reducible apply bf);(first | (apply Lv;exact Px) | (apply Nf;apply Gw;exact BN.h;exact QL;exact Sx)))
 | ((with_reducible apply fq);exact rfl;exact rfl;(first | (with_reducible exact rfl) | decide);(first | (apply Lv;exact Px) | (apply Nf;apply Gw;exact BN.h;exact QL;exact Sx)))
 | ((with_reducible apply YZ);exact rfl;exact rfl;(first | (with_reducible exact rfl) | decide))
 | ((with_reducible apply YY);exact rfl;exact rfl;(first | (with_reducible exact rfl) | decide))
 | ((with_reducible apply dR);exact rfl;exact rfl;(intro q;have q1:=kz q;(first | (apply Lv;exact Px) | (apply Nf;apply Gw;exact BN.h;exact QL;exact Sx))))
 | ((with_reducible apply dQ);exact rfl;exact rfl;(intro q;have q1:=kz q;(first | (apply Lv;exact Px) | (apply Nf;apply Gw;exact BN.h;exact QL;exact Sx))))
 | ((with_reducible apply Yu);exact rfl;exact rfl;(intro qc q;have q1:=kz q;have q2:=kz qc;(first | (apply Lv;exact Px) | (apply Nf;apply Gw;exact BN.h;exact QL;exact Sx))))
 | ((with_reducible apply Yt);exact rfl;exact rfl;(intro qc q;have q1:=kz q;have q2:=kz qc;(first | (apply Lv;exact Px) | (apply Nf;apply Gw;exact BN.h;exact QL;exact Sx))))
 | ((with_reducible apply Sj);exact rfl;exact rfl)):E4 P n w0 M Q l.toArray F L o D v:=h
theorem Ie (h:E4 P n w0 M Q l.toArray F L o D v:=by first
 | ((with_reducible apply bf);(first | (apply Lv;exact Px) | (apply Nf;apply Gw;exact BN.h;exact QL;exact Sx)))
 | ((with_reducible apply fq);exact rfl;exact rfl;(first | (with_reducible exact rfl) | assumption | decide);(first | (apply Lv;exact Px) | (apply Nf;apply Gw;exact BN.h;exact QL;exact Sx)))
 | ((with_reducible apply YZ);exact rfl;exact rfl;(first | (with_reducible exact rfl) | assumption | decide))
 | ((with_reducible apply YY);exact rfl;exact rfl;(first | (with_reducible exact rfl) | assumption | decide))
 | ((with_reducible apply dR);exact rfl;exact rfl;(intro q;have q1:=kz q;(first | (apply Lv;exact Px) | (apply Nf;apply Gw;exact BN.h;exact QL;exact Sx))))
 | ((with_reducible apply dQ);exact rfl;exact rfl;(intro q;have q1:=kz q;(first | (apply Lv;exact Px) | (apply Nf;apply Gw;exact BN.h;exact QL;exact Sx))))
 | ((with_reducible apply Yu);exact rfl;exact rfl;(intro qc q;have q1:=kz q;have q2:=kz qc;(first | (apply Lv;exact Px) | (apply Nf;apply Gw;exact BN.h;exact QL;exact Sx))))
 | ((with_reducible apply Yt);exact rfl;exact rfl;(intro qc q;have q1:=kz q;have q2:=kz qc;(first | (apply Lv;exact Px) | (apply Nf;apply Gw;exact BN.h;exact QL;exact Sx))))
 | ((with_reducible apply Sj);exact rfl;exact rfl)):E4 P n w0 M Q l.toArray F L o D v:=h
theorem ji (h:HK P n w0 M Q l Rs F i D L A:=by repeat (first | exact OQ | ((with_reducible apply QR);decide +kernel) | ((with_reducible apply j7);exact rfl;exact rfl;first | (exact j4;exact rfl) | (exact Ie;exact rfl)))):HK P n w0 M Q l Rs F i D L A:=h
end
structure Wr (r:Nat)(fl:Bool)(A:Prop):Prop where
 x:A
section
variable {P:Program} {n:Nat} {w0:World} {M:List Nat} {Q:Exit→Go.Act→World→Prop} {F:List (Nat × Value)} {L:List AJ} {l:List Oper} {id r:Nat} {fl:Bool} {A:Prop}
def en:Code→Nat
 | .region id _ _=>id
 | .seq a b=>match en a with | 0=>en b | k=>k
 | .cond _ a b=>match en a with | 0=>en b | k=>k
 | .block _ a=>en a
 | .loop a=>en a
 | _=>0
def kL:Code→Nat
 | .seq _ _=>1
 | .region _ _ _=>2
 | .cond _ _ _=>3
 | .block _ _=>4
 | .loop _=>5
 | _=>6
theorem du {x y:Code}(_a:Wr r fl A)(_h:(Nat.blt 100000 r && Nat.beq r (100000+10 * en x+kL x))=false)(h:G P n w0 M x (Exit.then (y.wp P Q) Q) F L):G P n w0 M (.seq x y) Q F L:=Yp h
theorem dt (_a:Wr r fl A)(_h:Nat.beq r id=false)(h:GL P n w0 M l.toArray Q l F L):G P n w0 M (.region id l.toArray false) Q F L:=J0 h
theorem j6 {N:Nat}(_a:Wr r fl A)(_h:Nat.beq r id=false){F':List (Nat × Value)}[m:jE P][i:Ln l N](hE:OJ (iP l []) F F')(hchk:(J2 0 l && fB l (dC l) && VN n F' l && E2 l)=true)(h:IJ P n w0 M Q l (dC l) F' N [] [] [] L):G P n w0 M (.region id l.toArray true) Q F L:=Ag hE.1 (Pl hchk h)
theorem Gk {c:Operand}{x y:Code}{b:Bool}{p q:Prop}(_a:Wr r true A)(hc:ev F c=some (.bool b))(i:Nz (b=true) p)(j:Nz (b=false) q)(h:(b=true→p→G P n w0 M x Q F L)∧(b=false→q→G P n w0 M y Q F L)):G P n w0 M (.cond c x y) Q F L:=OI hc (fun e=>h.1 e (i.h e)) (fun e=>h.2 e (j.h e))
end
theorem jH {r:Nat}{fl:Bool}{A B:Prop}(h:Wr r fl A→B:=by
 intro a
 repeat (first
  | ((with_reducible apply KZ);exact rfl;exact Px)
  | ((with_reducible apply RO);exact rfl;apply And.intro;exact ji)
  | ((with_reducible apply Yf);exact rfl;apply And.intro;exact ji)
  | ((with_reducible apply du);exact a;exact rfl)
  | ((with_reducible apply dt);exact a;exact rfl)
  | ((with_reducible apply j6);exact a;exact rfl;exact j3;kernel_rfl)
  | ((with_reducible apply Sw);exact rfl)
  | (first
   | ((with_reducible apply I9 0);exact rfl;exact rfl;exact rfl;exact Ie;(first | exact .inl rfl | exact .inr rfl))
   | ((with_reducible apply I9 1);exact rfl;exact rfl;exact rfl;exact Ie;(first | exact .inl rfl | exact .inr rfl))
   | ((with_reducible apply I9 2);exact rfl;exact rfl;exact rfl;exact Ie;(first | exact .inl rfl | exact .inr rfl))
   | ((with_reducible apply I9 3);exact rfl;exact rfl;exact rfl;exact Ie;(first | exact .inl rfl | exact .inr rfl))
   | ((with_reducible apply I9 4);exact rfl;exact rfl;exact rfl;exact Ie;(first | exact .inl rfl | exact .inr rfl))
   | ((with_reducible apply I9 5);exact rfl;exact rfl;exact rfl;exact Ie;(first | exact .inl rfl | exact .inr rfl))
   | ((with_reducible apply I9 6);exact rfl;exact rfl;exact rfl;exact Ie;(first | exact .inl rfl | exact .inr rfl))
   | ((with_reducible apply I9 7);exact rfl;exact rfl;exact rfl;exact Ie;(first | exact .inl rfl | exact .inr rfl))
   | ((with_reducible apply I9 8);exact rfl;exact rfl;exact rfl;exact Ie;(first | exact .inl rfl | exact .inr rfl))
   | ((with_reducible apply I9 9);exact rfl;exact rfl;exact rfl;exact Ie;(first | exact .inl rfl | exact .inr rfl))
   | ((with_reducible apply I9 10);exact rfl;exact rfl;exact rfl;exact Ie;(first | exact .inl rfl | exact .inr rfl))
   | ((with_reducible apply I9 11);exact rfl;exact rfl;exact rfl;exact Ie;(first | exact .inl rfl | exact .inr rfl))
   | ((with_reducible apply I9 12);exact rfl;exact rfl;exact rfl;exact Ie;(first | exact .inl rfl | exact .inr rfl))
   | ((with_reducible apply I9 13);exact rfl;exact rfl;exact rfl;exact Ie;(first | exact .inl rfl | exact .inr rfl))
   | ((with_reducible apply I9 14);exact rfl;exact rfl;exact rfl;exact Ie;(first | exact .inl rfl | exact .inr rfl))
   | ((with_reducible apply I9 15);exact rfl;exact rfl;exact rfl;exact Ie;(first | exact .inl rfl | exact .inr rfl))
   | ((with_reducible apply I9 16);exact rfl;exact rfl;exact rfl;exact Ie;(first | exact .inl rfl | exact .inr rfl))
   | ((with_reducible apply I9 17);exact rfl;exact rfl;exact rfl;exact Ie;(first | exact .inl rfl | exact .inr rfl))
   | ((with_reducible apply I9 18);exact rfl;exact rfl;exact rfl;exact Ie;(first | exact .inl rfl | exact .inr rfl))
   | ((with_reducible apply I9 19);exact rfl;exact rfl;exact rfl;exact Ie;(first | exact .inl rfl | exact .inr rfl))
   | ((with_reducible apply I9 20);exact rfl;exact rfl;exact rfl;exact Ie;(first | exact .inl rfl | exact .inr rfl))
   | ((with_reducible apply I9 21);exact rfl;exact rfl;exact rfl;exact Ie;(first | exact .inl rfl | exact .inr rfl))
   | ((with_reducible apply I9 22);exact rfl;exact rfl;exact rfl;exact Ie;(first | exact .inl rfl | exact .inr rfl))
   | ((with_reducible apply I9 23);exact rfl;exact rfl;exact rfl;exact Ie;(first | exact .inl rfl | exact .inr rfl))
   | ((with_reducible apply I9 24);exact rfl;exact rfl;exact rfl;exact Ie;(first | exact .inl rfl | exact .inr rfl))
   | ((with_reducible apply I9 25);exact rfl;exact rfl;exact rfl;exact Ie;(first | exact .inl rfl | exact .inr rfl))
   | ((with_reducible apply I9 26);exact rfl;exact rfl;exact rfl;exact Ie;(first | exact .inl rfl | exact .inr rfl))
   | ((with_reducible apply I9 27);exact rfl;exact rfl;exact rfl;exact Ie;(first | exact .inl rfl | exact .inr rfl))
   | ((with_reducible apply I9 28);exact rfl;exact rfl;exact rfl;exact Ie;(first | exact .inl rfl | exact .inr rfl))
   | ((with_reducible apply I9 29);exact rfl;exact rfl;exact rfl;exact Ie;(first | exact .inl rfl | exact .inr rfl))
   | ((with_reducible apply I9 30);exact rfl;exact rfl;exact rfl;exact Ie;(first | exact .inl rfl | exact .inr rfl))
   | ((with_reducible apply I9 31);exact rfl;exact rfl;exact rfl;exact Ie;(first | exact .inl rfl | exact .inr rfl))
   | ((with_reducible apply I9 32);exact rfl;exact rfl;exact rfl;exact Ie;(first | exact .inl rfl | exact .inr rfl))
   | ((with_reducible apply I9 33);exact rfl;exact rfl;exact rfl;exact Ie;(first | exact .inl rfl | exact .inr rfl))
   | ((with_reducible apply I9 34);exact rfl;exact rfl;exact rfl;exact Ie;(first | exact .inl rfl | exact .inr rfl))
   | ((with_reducible apply I9 35);exact rfl;exact rfl;exact rfl;exact Ie;(first | exact .inl rfl | exact .inr rfl))
   | ((with_reducible apply I9 36);exact rfl;exact rfl;exact rfl;exact Ie;(first | exact .inl rfl | exact .inr rfl))
   | ((with_reducible apply I9 37);exact rfl;exact rfl;exact rfl;exact Ie;(first | exact .inl rfl | exact .inr rfl))
   | ((with_reducible apply I9 38);exact rfl;exact rfl;exact rfl;exact Ie;(first | exact .inl rfl | exact .inr rfl))
   | ((with_reducible apply I9 39);exact rfl;exact rfl;exact rfl;exact Ie;(first | exact .inl rfl | exact .inr rfl)))
  | (first
   | ((with_reducible apply JA 0);exact rfl;exact rfl;decide +kernel;exact rfl)
   | ((with_reducible apply JA 1);exact rfl;exact rfl;decide +kernel;exact rfl)
   | ((with_reducible apply JA 2);exact rfl;exact rfl;decide +kernel;exact rfl)
   | ((with_reducible apply JA 3);exact rfl;exact rfl;decide +kernel;exact rfl)
   | ((with_reducible apply JA 4);exact rfl;exact rfl;decide +kernel;exact rfl)
   | ((with_reducible apply JA 5);exact rfl;exact rfl;decide +kernel;exact rfl)
   | ((with_reducible apply JA 6);exact rfl;exact rfl;decide +kernel;exact rfl)
   | ((with_reducible apply JA 7);exact rfl;exact rfl;decide +kernel;exact rfl)
   | ((with_reducible apply JA 8);exact rfl;exact rfl;decide +kernel;exact rfl)
   | ((with_reducible apply JA 9);exact rfl;exact rfl;decide +kernel;exact rfl)
   | ((with_reducible apply JA 10);exact rfl;exact rfl;decide +kernel;exact rfl)
   | ((with_reducible apply JA 11);exact rfl;exact rfl;decide +kernel;exact rfl)
   | ((with_reducible apply JA 12);exact rfl;exact rfl;decide +kernel;exact rfl)
   | ((with_reducible apply JA 13);exact rfl;exact rfl;decide +kernel;exact rfl)
   | ((with_reducible apply JA 14);exact rfl;exact rfl;decide +kernel;exact rfl)
   | ((with_reducible apply JA 15);exact rfl;exact rfl;decide +kernel;exact rfl)
   | ((with_reducible apply JA 16);exact rfl;exact rfl;decide +kernel;exact rfl)
   | ((with_reducible apply JA 17);exact rfl;exact rfl;decide +kernel;exact rfl)
   | ((with_reducible apply JA 18);exact rfl;exact rfl;decide +kernel;exact rfl)
   | ((with_reducible apply JA 19);exact rfl;exact rfl;decide +kernel;exact rfl)
   | ((with_reducible apply JA 20);exact rfl;exact rfl;decide +kernel;exact rfl)
   | ((with_reducible apply JA 21);exact rfl;exact rfl;decide +kernel;exact rfl)
   | ((with_reducible apply JA 22);exact rfl;exact rfl;decide +kernel;exact rfl)
   | ((with_reducible apply JA 23);exact rfl;exact rfl;decide +kernel;exact rfl)
   | ((with_reducible apply JA 24);exact rfl;exact rfl;decide +kernel;exact rfl)
   | ((with_reducible apply JA 25);exact rfl;exact rfl;decide +kernel;exact rfl)
   | ((with_reducible apply JA 26);exact rfl;exact rfl;decide +kernel;exact rfl)
   | ((with_reducible apply JA 27);exact rfl;exact rfl;decide +kernel;exact rfl)
   | ((with_reducible apply JA 28);exact rfl;exact rfl;decide +kernel;exact rfl)
   | ((with_reducible apply JA 29);exact rfl;exact rfl;decide +kernel;exact rfl)
   | ((with_reducible apply JA 30);exact rfl;exact rfl;decide +kernel;exact rfl)
   | ((with_reducible apply JA 31);exact rfl;exact rfl;decide +kernel;exact rfl)
   | ((with_reducible apply JA 32);exact rfl;exact rfl;decide +kernel;exact rfl)
   | ((with_reducible apply JA 33);exact rfl;exact rfl;decide +kernel;exact rfl)
   | ((with_reducible apply JA 34);exact rfl;exact rfl;decide +kernel;exact rfl)
   | ((with_reducible apply JA 35);exact rfl;exact rfl;decide +kernel;exact rfl)
   | ((with_reducible apply JA 36);exact rfl;exact rfl;decide +kernel;exact rfl)
   | ((with_reducible apply JA 37);exact rfl;exact rfl;decide +kernel;exact rfl)
   | ((with_reducible apply JA 38);exact rfl;exact rfl;decide +kernel;exact rfl)
   | ((with_reducible apply JA 39);exact rfl;exact rfl;decide +kernel;exact rfl))
  | ((with_reducible apply EJ);exact j5)
  | (with_reducible refine RR ?_)
  | (with_reducible refine Yi ?_)
  | (with_reducible refine U0 ?_)
  | (with_reducible refine bW ?_)
  | (with_reducible refine dq ?_)
  | (with_reducible refine RS ?_)
  | (with_reducible refine P4 ?_)
  | (with_reducible refine gE ?_)
  | (with_reducible refine Sg ?_)
  | (with_reducible refine RQ ?_)
  | ((with_reducible apply OH);exact rfl)
  | ((with_reducible apply df);exact rfl;exact Ex;exact rfl;intro v_)
  | ((with_reducible apply fU);exact rfl;exact rfl;intro v_)
  | ((with_reducible apply iU);exact rfl;exact rfl;intro v_)
  | (with_reducible refine OG ?_)
  | ((with_reducible apply ic);exact rfl;exact rfl;(first | (with_reducible exact rfl) | assumption | decide);exact rfl;exact Px)
  | ((with_reducible apply ff);exact rfl;exact rfl;(first | (with_reducible exact rfl) | assumption | decide);exact rfl)
  | ((with_reducible apply fc);exact rfl;exact rfl;(first | (with_reducible exact rfl) | assumption | decide);exact rfl)
  | ((with_reducible apply Ye);exact rfl;exact rfl;exact rfl;(intro q;have q1:=kz q;exact Px))
  | ((with_reducible apply Yd);exact rfl;exact rfl;exact rfl;(intro q;have q1:=kz q;exact Px))
  | ((with_reducible apply dm);exact rfl;exact rfl;exact rfl;(intro qc q;have q1:=kz q;have q2:=kz qc;exact Px))
  | ((with_reducible apply dk);exact rfl;exact rfl;exact rfl;(intro qc q;have q1:=kz q;have q2:=kz qc;exact Px))
  | ((with_reducible apply Yh);exact rfl;exact rfl;exact rfl;(intro q;have q1:=kz q;apply Gw;exact BN.h;exact QL;exact Sx))
  | ((with_reducible apply Yg);exact rfl;exact rfl;exact rfl;(intro q;have q1:=kz q;apply Gw;exact BN.h;exact QL;exact Sx))
  | ((with_reducible apply bV);exact rfl;exact rfl;exact rfl;(intro qc q;have q1:=kz q;have q2:=kz qc;apply Gw;exact BN.h;exact QL;exact Sx))
  | ((with_reducible apply bU);exact rfl;exact rfl;exact rfl;(intro qc q;have q1:=kz q;have q2:=kz qc;apply Gw;exact BN.h;exact QL;exact Sx))
  | ((with_reducible apply gA);exact rfl;exact QL)
  | ((with_reducible apply dh);exact rfl;exact rfl;exact BN.mk BN.h;exact QL)
  | ((with_reducible apply dj);exact rfl;exact rfl;(first | (with_reducible exact rfl) | assumption);exact rfl;exact QL)
  | ((with_reducible apply iY);exact rfl;exact rfl;exact Om;exact Om;exact Ex;exact rfl;intro v_)
  | ((with_reducible apply iV);exact rfl;exact rfl;exact Om;exact Om;exact Ex;(with_reducible exact rfl);exact Ex;(intro r;exact Ux);(first | exact(fun _ _=>Src.str Fh.h) | exact(fun w hS=>Src.Gu Fh.h ((Kx:Kn _ _ _ _ _ _ _) w hS)));exact Om;intro v_ v_ v_)
  | ((with_reducible apply iZ);exact rfl;exact Ex;(with_reducible exact rfl);exact Ex;exact Om;(intro r;exact Ux))
  | ((with_reducible apply Cp);exact Sx)
  | ((with_reducible apply dw);exact rfl;(first | (with_reducible exact rfl) | assumption | decide | (simp only [List.length_cons,List.length_nil]<;>rfl) | (simp<;>fail)))
  | ((with_reducible apply bY);exact rfl;(first | (with_reducible exact rfl) | assumption | decide | (simp only [List.length_cons,List.length_nil]<;>rfl) | (simp<;>fail)))
  | ((with_reducible apply Gx);exact rfl;exact jj)
  | ((with_reducible apply Gy);exact rfl;exact jj))
 try (first | ((with_reducible apply Gk);exact a;exact rfl;exact inferInstance;exact inferInstance) | (with_reducible apply Lp))
 repeat (revert v_)
 exact a.x):Wr r fl A→B:=h
theorem W {A B:Prop}(a:A)(h:Wr 99999 true A→B:=by exact jH):B:=h ⟨a⟩
theorem Wv {A B:Prop}(a:A)(h:Wr 99999 false A→B:=by exact jH):B:=h ⟨a⟩
theorem Ws (r:Nat){A B:Prop}(a:A)(h:Wr r true A→B:=by exact jH):B:=h ⟨a⟩
end Go.Ing

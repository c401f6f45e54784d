/- What the functions that the law of this seat reaches compute, and the plain laws of it. No condition. -/
import Derived.Test.YtlmmdjaoikaceaaGreatDoorHousePlaysEc3
import Derived.Test.YtlmmdjaoikaceaaGreatDoorHousePlaysRa1
import Derived.Test.YtlmmdjaoikaceaaGreatDoorHousePlaysRb1
import Derived.Test.YtlmmdjaoikaceaaGreatDoorHousePlaysRc1
set_option linter.unusedSimpArgs false
set_option linter.unusedVariables false
/- Engine: runs of steps by one rule, with what is known of the program as instances. -/
namespace Go.Ing
open Go
class Fq (P:Program) (T:Nat) (d:outParam TypeDesc):Prop where
 h:P.underlying T=some d
class Oi (P:Program) (T:Nat):Prop where
 h:R0 P T∧Sz P T 1
class My (P:Program) (T:Nat) (sz:outParam Nat):Prop where
 h:S3 P T sz
class ZQ (P:Program) (T:Nat) (sz:outParam Nat):Prop where
 h:Sz P T sz
class QS (P:Program) (T:Nat) (l:outParam (List (Nat × Nat))):Prop where
 fa:∀ f off z,l[f]?=some (off,z)→FA P T f off
 pl:ZP P T l
class LH (P:Program) (T:Nat) (v:outParam Value):Prop where
 h:ZV P T v
class fu (P:Program) (T:Nat) (b:outParam Nat):Prop where
 h:BY P T b
class BM (P:Program) (f:Nat):Prop where
 h:CF P f
class jo (P:Program):Prop where
 h:P.follows .mixedOrders=true
class de (P:Program) {α:outParam Type} (T:Nat) (d:outParam (DecidableEq α)) (ea:outParam (α→List Value)) (k:outParam Nat):Prop where
 h:Mw P k T (fun x:α=> .agg (ea x).toArray)
class bg (P:Program) {α:outParam Type} (E:Nat) (e:outParam (α→List Value)) (sz:outParam Nat):Prop where
 f:Flat e sz
class eI (P:Program) {α:outParam Type} (E:Nat) (e:outParam (α→List Value)) (sz:outParam Nat):Prop where
 f:Flat e sz
class kT (P:Program) (T:Nat) (E:outParam Nat):Prop
class DI (P:Program) (f:Nat) (S:outParam Prop):Prop where
 h:S
section
variable {P:Program} {T sz:Nat}
instance [i:Oi P T]:ZQ P T 1:=⟨i.h.2⟩
instance [i:My P T sz]:ZQ P T sz:=⟨i.h.2⟩
theorem oi (h:((P.underlying T).any fun d=>match d with | .struct _ | .array _ _=>false | _=>true)=true:=by kernel_rfl)(hz:(P.info? T).map (·.size)=some 1:=by kernel_rfl):Oi P T:=by
 cases hu:P.underlying T with
 | none=>rw [hu] at h;cases h
 | some d=>rw [hu] at h;exact⟨M3 hu (by cases d<;>first | rfl | cases h),Fv hz⟩
theorem QV (h:((P.underlying T).any fun d=>match d with | .struct _ | .array _ _=>true | _=>false)=true:=by kernel_rfl)(hz:(P.info? T).map (·.size)=some sz:=by kernel_rfl):My P T sz:=by
 cases hu:P.underlying T with
 | none=>rw [hu] at h;cases h
 | some d=>rw [hu] at h;exact⟨IV hu (by cases d<;>first | rfl | cases h) (Fv hz)⟩
theorem OC {v:Value}(h:(P.info? T).map (·.zero)=some (some v):=by kernel_rfl):LH P T v:=⟨Nb h⟩
theorem jJ {b:Nat}(h:(P.info? T).map (·.bytes)=some b:=by kernel_rfl):fu P T b:=⟨WX h⟩
def bZ (P:Program)(fs:List Field)(l:List (Nat × Nat)):Bool:=match fs,l with
 | [],[]=>true
 | f :: fs,(o,z) :: l=>Nat.beq f.offset o && !Nat.beq z 0 && (match P.info? f.type with | some i=>Nat.beq i.size z | none=>false) && bZ P fs l
 | _,_=>false
theorem bE {fs:List Field}{l:List (Nat × Nat)}(h:bZ P fs l=true):∀ k o z:Nat,l[k]?=some (o,z)→∃ f:Field,fs[k]?=some f∧f.offset=o∧z≠0∧(P.info? f.type).map (·.size)=some z:=by
 induction fs generalizing l with
 | nil=>cases l with | nil=>intro k o z hk;simp at hk | cons=>simp [bZ] at h
 | cons f fs ih=>
  cases l with
  | nil=>simp [bZ] at h
  | cons x l=>
   obtain⟨o',z'⟩:=x
   simp only [bZ,Bool.and_eq_true,Bool.not_eq_true'] at h
   intro k o z hk
   cases k with
   | zero=>
    simp at hk
    obtain⟨rfl,rfl⟩:=hk
    refine⟨f,rfl,Nat.eq_of_beq_eq_true h.1.1.1,fun e=>by subst e;exact absurd h.1.1.2 (by decide),?_⟩
    cases hi:P.info? f.type with
    | none=>rw [hi] at h;cases h.1.2
    | some i=>rw [hi] at h;simpa using Nat.eq_of_beq_eq_true h.1.2
   | succ k=>exact ih h.2 k o z (by simpa using hk)
theorem dX {fs:List Field}{l:List (Nat × Nat)}(h:bZ P fs l=true)(w:World):(fs.mapM fun(f:Field)=>(do pure (f.offset,← sizeOf f.type):Sem (Nat × Nat))).run P w = .ok l w:=by
 induction fs generalizing l with
 | nil=>cases l with | nil=>rfl | cons=>simp [bZ] at h
 | cons f fs ih=>
  cases l with
  | nil=>simp [bZ] at h
  | cons x l=>
   obtain⟨o',z'⟩:=x
   have h0:=bE h 0 o' z' rfl
   simp only [bZ,Bool.and_eq_true] at h
   obtain⟨g,hg,e1,_,e2⟩:=h0
   simp at hg
   subst hg
   have hz:=Fv e2 w
   have hi:=ih h.2
   simp at hi
   simp [List.mapM_cons,hz,hi,e1]
theorem S4 {fs:Array Field}{l:List (Nat × Nat)}(u:P.underlying T=some (.struct fs))(h:bZ P fs.toList l=true:=by kernel_rfl):QS P T l:=⟨fun f off z hf=>by
 obtain⟨g,h1,h2,h3,h4⟩:=bE h f off z hf
 obtain⟨z,rfl⟩:=Nat.exists_eq_succ_of_ne_zero h3
 exact df u (E:=g.type) (by rw [← Array.getElem?_toList,h1,← h2];rfl) (Fv h4),⟨fs,u,fun w=>by
 have e:=dX h w
 rw [Array.mapM_eq_mapM_toList]
 simp at e ⊢
 rw [e]
 rfl⟩⟩
end
/-! ### places -/
def oa (o k:Nat):Nat:=o+k
def ix (i:Int)(sz:Nat):Nat:=i.toNat * sz
class LP {α:Type} {β:outParam Type} (ea:α→List Value) (off:Nat) (eb:outParam (β→List Value)) (sz:outParam Nat) (g:outParam (α→β)) (s:outParam (α→β→α)) (q:outParam Prop):Prop where
 h:q→Ac ea eb off sz g s
section
variable {α β γ:Type} {ea:α→List Value} {eb:β→List Value} {ec:γ→List Value} {o k sz1 sz2 sz n:Nat} {g1:α→β} {s1:α→β→α} {g2:β→γ} {s2:β→γ→β} {q:Prop} {i:Int}
instance [fe:Flat ea sz]:Flat (BO (n:=n) ea) (n * sz):=IY fe
instance LPi [fe:Flat ea sz]:LP ea 0 ea sz (fun x=>x) (fun _ y=>y) ((0:Nat)≤0):=⟨fun _=>Ac.id fe.len fe.one⟩
instance LPf [a:LP ea o eb sz1 g1 s1 q][b:Ac eb ec k sz2 g2 s2]:LP ea (oa o k) ec sz2 (fun x=>g2 (g1 x)) (fun x y=>s1 x (s2 (g1 x) y)) q:=⟨fun h=>(a.h h).comp b⟩
instance LPa [Inhabited γ]{g1:α→Vector γ n}{s1:α→Vector γ n→α}[a:LP ea o (BO (n:=n) ec) sz1 g1 s1 q][fe:Flat ec sz]:LP ea (oa o (ix i sz)) ec sz (fun x=>(g1 x).at i) (fun x y=>s1 x ((g1 x).put i y)) (q∧0≤i∧i < (n:Int)):=⟨fun h=>(a.h h.1).comp (Ac.arr fe h.2.1 h.2.2)⟩
instance (priority:=low) LPb [b:Ac ea eb o sz g1 s1]:LP ea o eb sz g1 s1 ((0:Nat)≤0):=⟨fun _=>b⟩
instance LPt {V:AE}{j:Int}:LP (Fw V j) (165+j.toNat * 22) A0.enc 22 (fun s=>s) (fun _ y=>y) (0≤j∧j < 4):=⟨fun h=>Ac.AZ V h.1 h.2⟩
instance LPu {j:Int}:LP AE.enc (165+j.toNat * 22) A0.enc 22 (fun x=>x.AP.at j) (fun x y=>{ x with AP:=x.AP.put j y }) (0≤j∧j < 4):=⟨fun h=>AE.l1.comp (Ac.arr A0.fl h.1 h.2)⟩
instance LPs {V:AE}{j:Int}:LP (Fw V j) (oa (oa 0 165) (ix j 22)) A0.enc 22 (fun s=>s) (fun _ y=>y) (0≤j∧j < 4):=⟨fun h=>by have:=Ac.AZ V h.1 h.2;simpa [oa,ix] using this⟩
end
section
variable {P:Program} {n:Nat} {w0:World} {M:List Nat} {F:List (Nat × Value)} {L L':List AJ} {T U V b o off f z:Nat} {x y:Operand} {v:Value} {h:Hd}
theorem jV {l:List (Nat × Nat)}[i:QS P T l](hx:ev F x=some (.pointer (some ⟨b,o,none⟩)))(hl:l[f]?=some (off,z)):PS P n w0 M (.fieldAddr T x f) U F L (.pointer (some ⟨b,oa o off,none⟩)) L:=JO (i.fa _ _ _ hl) hx
theorem jW {l:List (Nat × Nat)}{j sz p:Nat}[i:QS P T l](hx:ev F x=some v)(hv:v=h.ptr j sz p)(hl:l[f]?=some (off,z)):PS P n w0 M (.fieldAddr T x f) U F L (h.ptr j sz (oa p off)) L:=cA (i.fa _ _ _ hl) (hv ▸ hx)
theorem jY {len E sz:Nat}{k:IntKind}{i:Int}[u:Fq P T (.array len E)][s:ZQ P E sz](hx:ev F x=some (.pointer (some ⟨b,o,none⟩)))(hy:ev F y=some (.int k i))(h:0≤i∧i < (len:Int)):PS P n w0 M (.indexAddr T x y) U F L (.pointer (some ⟨b,oa o (ix i sz),none⟩)) L:=Rt (gf u.h s.h) hx hy h.1 h.2
theorem jZ {E E' sz:Nat}{cs:List Value}{k:IntKind}{i:Int}[u:Fq P T (.slice E)][s:ZQ P E sz](hx:ev F x=some v)(hv:v=h.val)(hk:Kn w0 M L h E' sz cs)(hz:0 < sz)(hy:ev F y=some (.int k i))(hi:0≤i∧i < (h.len:Int)):PS P n w0 M (.indexAddr T x y) U F L (h.ptr i.toNat sz 0) L:=cB (gg u.h s.h) hz hk (hv ▸ hx) hy hi.1 hi.2
section
variable {α β:Type} {ea:α→List Value} {eb:β→List Value} {sz:Nat} {g:α→β} {s:α→β→α} {q:Prop} {X:α}
theorem gM [i:Oi P T](hx:ev F x=some (.pointer (some ⟨b,0,none⟩)))(hL:AJ.box b V [v]∈L):PS P n w0 M (.load T x) U F L v L:=ZH hx i.h.1 hL
theorem ja [i:Oi P T](hx:ev F x=some (.pointer (some ⟨b,off,none⟩)))(hL:AJ.box b V (ea X)∈L)(hl:LP ea off eb sz g s q)(hq:q)(hv:eb (g X) = [v]):PS P n w0 M (.load T x) U F L v L:=MD hx i.h.1 hL (hl.h hq) rfl hv
theorem gN {sz':Nat}[i:My P T sz'](hx:ev F x=some (.pointer (some ⟨b,off,none⟩)))(hL:AJ.box b V (ea X)∈L)(hl:LP ea off eb sz g s q)(hq:q)(hz:sz=sz'):PS P n w0 M (.load T x) U F L (.agg (eb (g X)).toArray) L:=ZI hx i.h (sz:=sz') (by exact hL) (hz ▸ hl.h hq) rfl
theorem gS {sz':Nat}{Y:β}[i:ZQ P T sz'](hx:ev F x=some (.pointer (some ⟨b,off,none⟩)))(hy:ev F y=some v)(hL:AJ.box b V (ea X)∈L)(hl:LP ea off eb sz g s q)(hq:q)(hv:v.cells=(eb Y).toArray)(hz:sz=sz')(hU:Ip L (AJ.box b V (ea X)) (AJ.box b V (ea (s X Y))) L'):PU P n w0 M (.store T x y) U F L L':=TK (hl.h hq) hx hy hv (hz ▸ i.h) rfl hU
theorem gT {v':Value}[i:ZQ P T 1](hx:ev F x=some (.pointer (some ⟨b,0,none⟩)))(hy:ev F y=some v')(hv:v'.cells = [v'].toArray)(h1:v'.oneCell'=true)(hU:Ip L (AJ.box b V [v]) (AJ.box b V [v']) L'):PU P n w0 M (.store T x y) U F L L':=XS hx hy hv h1 i.h hU
variable {i E:Nat}
theorem je {xs:List AL}[t:Oi P T](hx:ev F x=some v)(hp:v=h.ptr i 1 0)(hk:Kn w0 M L h E 1 (xs.flatMap AX))(hi:i < xs.length):PS P n w0 M (.load T x) U F L (Ag (xs.getD i [])) L:=ZG (hp ▸ hx) t.h.1 hk hi
theorem jd {xs:List Int}[t:Oi P T](hx:ev F x=some v)(hp:v=h.ptr i 1 0)(hk:Kn w0 M L h E 1 (xs.flatMap AT))(hi:i < xs.length):PS P n w0 M (.load T x) U F L (.int .i64 (xs.getD i 0)) L:=ZF (hp ▸ hx) t.h.1 hk hi
theorem jf {xs:AL}[t:Oi P T](hx:ev F x=some v)(hp:v=h.ptr i 1 0)(hk:Kn w0 M L h E 1 (xs.flatMap CE))(hi:i < xs.length):PS P n w0 M (.load T x) U F L (.int .u8 ((xs.getD i 0).toNat:Int)) L:=eg (hp ▸ hx) t.h.1 hk hi
theorem jc {xs:List α}[t:My P T sz](hx:ev F x=some v)(hp:v=h.ptr i sz 0)(hk:Kn w0 M L h E sz (xs.flatMap ea))(ih:Inhabited α)(fe:Flat ea sz)(hz:0 < sz)(hi:i < xs.length):PS P n w0 M (.load T x) U F L (.agg (ea (xs.getD i default)).toArray) L:=ef (hp ▸ hx) t.h hz fe hk hi
theorem jb {xs:List α}{p z:Nat}{v':Value}[t:Oi P T](hx:ev F x=some v')(hp:v'=h.ptr i sz p)(hk:Kn w0 M L h E sz (xs.flatMap ea))(ih:Inhabited α)(fe:Flat ea sz)(hl:LP ea p eb z g s q)(hq:q)(hi:i < xs.length)(hv:eb (g (xs.getD i default)) = [v]):PS P n w0 M (.load T x) U F L v L:=ed (hp ▸ hx) t.h.1 fe (hl.h hq) hk hi hv
end
theorem bf {s:AL}[u:Fq P U .string](hx:ev F x=some (Ag s)):PS P n w0 M (.call ⟨.builtin .len,#[x],#[U]⟩) T F L (.int .i64 s.length) L:=VP rfl u.h hx
theorem gF {E:Nat}{p:Option Addr}[u:Fq P U (.pointer E)](hx:ev F x=some (.pointer p)):PS P n w0 M (.binOp .eql U x (.const (.pointer none)) V) T F L (.bool p.isNone) L:=Oo u.h hx
theorem gG {E:Nat}{a:Addr}[u:Fq P U (.pointer E)](hx:ev F x=some (.pointer (some a))):PS P n w0 M (.binOp .eql U x (.const (.pointer none)) V) T F L (.bool false) L:=Oo u.h hx
end

section
variable {P:Program} {n:Nat} {w0:World} {M:List Nat} {Q:Exit→Go.Act→World→Prop} {F:List (Nat × Value)} {L L':List AJ} {ops:Array Oper} {rest:List Oper}
def CK (P:Program)(w0:World)(M:List Nat)(f:FuncId)(vs:List Value)(L:List AJ)(k:Value→List AJ→Prop):Prop:=∀ w,St w0 M w L→Ch P f vs.toArray w fun v w'=>∃ L',k v L'∧St w0 M w' L'
variable {k:Value→List AJ→Prop} {vs:List Value} {f:FuncId} {R:Value→World→Prop}
theorem gX {d:Nat}{args:List Operand}{ts:Array TypeId}{T:TypeId}{pos:String}{Bl:Array Edge}[c:BM P f](hd:Nat.blt d n=true)(ha:OD F args vs)(h:CK P w0 M f vs L fun v L'=>GL P n w0 M ops Q rest ((d,v) :: F) L'):GL P n w0 M ops Q (⟨some d, .call ⟨.value (.func f),args.toArray,ts⟩,T,pos,Bl,none⟩ :: rest) F L:=
 bk hd c.h ha h fun _ _ _ _ ⟨L',hk,hS⟩=>⟨L',hS,hk⟩
theorem Cp {v:Value}(h:∀ w,St w0 M w L→Ch P f vs.toArray w fun v' w'=>v'=v∧BF w w')(hk:k v L):CK P w0 M f vs L k:=fun w hS=>(h w hS).mono fun _ _ ⟨e,hw⟩=>⟨L,e ▸ hk,hS.Ll hw⟩
theorem kM {S:Prop}{a:Array Value}{w:World}[i:DI P f S](h:S→Ch P f a w R):Ch P f a w R:=h i.h
theorem jP {d T U:Nat}{pos:String}{Bl:Array Edge}{v:Value}{cs:List Value}[z:LH P T v](hd:Nat.blt d n=true)(hv:v.cells=cs.toArray)
  (k:∀ b,GL P n w0 M ops Q rest ((d, .pointer (some ⟨b,0,none⟩)) :: F) (AJ.box b T cs :: L)):GL P n w0 M ops Q (⟨some d, .alloc T,U,pos,Bl,none⟩ :: rest) F L:=S6 hd z.h hv k
theorem jX {d:Nat}{op:Op}{T:TypeId}{pos:String}{Bl:Array Edge}{v:Value}{j t:Nat}{b c:Bool}(hj:(ops[j]?).bind (·.dst)=some t)(hb:lk t F=some (.bool c))(hc:c=b)(hd:Nat.blt d n=true)(h:PS P n w0 M op T F L v L')
  (k:GL P n w0 M ops Q rest ((d,v) :: F) L'):GL P n w0 M ops Q (⟨some d,op,T,pos,Bl,some (j,b)⟩ :: rest) F L:=Od hj (hc ▸ hb) hd h k
theorem gI {d:Nat}{op:Op}{T:TypeId}{pos:String}{Bl:Array Edge}{j t:Nat}{c:Bool}(hj:(ops[j]?).bind (·.dst)=some t)(hb:lk t F=some (.bool c))(hc:c=false)(hd:Nat.blt d n=true)
  (k:GL P n w0 M ops Q rest ((d,undef) :: F) L):GL P n w0 M ops Q (⟨some d,op,T,pos,Bl,some (j,true)⟩ :: rest) F L:=Ki hj hb (by rw [hc];rfl) hd k
theorem gH {d:Nat}{op:Op}{T:TypeId}{pos:String}{Bl:Array Edge}{j t:Nat}{c:Bool}(hj:(ops[j]?).bind (·.dst)=some t)(hb:lk t F=some (.bool c))(hc:c=true)(hd:Nat.blt d n=true)
  (k:GL P n w0 M ops Q rest ((d,undef) :: F) L):GL P n w0 M ops Q (⟨some d,op,T,pos,Bl,some (j,false)⟩ :: rest) F L:=Ki hj hb (by rw [hc];rfl) hd k
theorem gB {d T U E:Nat}{pos:String}{Bl:Array Edge}{v:Value}{cs:List Value}[kT P T E][z:LH P T v](hd:Nat.blt d n=true)(hv:v.cells=cs.toArray)
  (k:∀ b,GL P n w0 M ops Q rest ((d, .pointer (some ⟨b,0,none⟩)) :: F) (AJ.own ⟨none,0,0⟩ E 1 (([]:AL).flatMap CE) :: AJ.box b T cs :: L)):GL P n w0 M ops Q (⟨some d, .alloc T,U,pos,Bl,none⟩ :: rest) F L:=S6 hd z.h hv fun b=>Hx CE E 1 (k b)
theorem Gx {fn:Func}{rs:List ResultVar}(hr:fn.results=rs.toArray)(h:Rs P F L rs vs)(hR:∀ w,St w0 M w L→R (WQ vs) w):GQ n w0 M (bodyPost P fn fun e w'=>∃ v,e = .returned v∧R v w') .ret F L:=eO hr h hR
theorem Gy {fn:Func}{rs:List ResultVar}(hr:fn.results=rs.toArray)(h:Rs P F L rs vs)(hR:∀ w,St w0 M w L→R (WQ vs) w):GQ n w0 M (bodyPost P fn fun e w'=>∃ v,e = .returned v∧R v w') .normal F L:=Y0 hr h hR
theorem Kt {b:Bool}{p q X Y:Prop}(hb:b=true)(h:X):(b=true→p→X)∧(b=false→q→Y):=⟨fun _ _=>h,fun e=>absurd (hb.symm.trans e) (by decide)⟩
theorem Kf {b:Bool}{p q X Y:Prop}(hb:b=false)(h:Y):(b=true→p→X)∧(b=false→q→Y):=⟨fun e=>absurd (hb.symm.trans e) (by decide),fun _ _=>h⟩
theorem Lp {v v':Value}(h:v=v'):∀ w,St w0 [] w L→v=v'∧BF w0 w:=fun _ hS=>⟨h,hS.bJ⟩
theorem Rb {fn:Func}{c:Code}{args:List Value}{w:World}(hf:P.funcs[f]?=some fn)(h:G P n w [] c (bodyPost P fn fun e w'=>∃ v,e = .returned v∧R v w') (entry 0 args) [])(hb:fn.body=some c:=by rfl)(hn:fn.ntmps=n:=by rfl)(hl:Nat.ble args.length n=true:=by rfl):Ch P f args.toArray w R:=AR [] [] hf hb hn hl (St.start w []) h
theorem Rs.ca {α:Type}{ea:α→List Value}{t:Tmp}{T V b sz:Nat}{X:α}{rs:List ResultVar}[i:My P T sz](h:lk t F=some (.pointer (some ⟨b,0,none⟩)))(hL:AJ.box b V (ea X)∈L)(fe:Flat ea sz)(hs:Rs P F L rs vs):Rs P F L (.cell t T :: rs) (.agg (ea X).toArray :: vs):= .cell h hL (.inl ⟨by rw [fe.len];exact i.h,rfl⟩) hs
theorem Rs.cs {t:Tmp}{T V b:Nat}{v:Value}{rs:List ResultVar}[i:Oi P T](h:lk t F=some (.pointer (some ⟨b,0,none⟩)))(hL:AJ.box b V [v]∈L)(hs:Rs P F L rs vs):Rs P F L (.cell t T :: rs) (v :: vs):= .cell h hL (.inr ⟨i.h.1,rfl⟩) hs
theorem eL {d:Nat}{args:List Operand}{ts:Array TypeId}{T:TypeId}{pos:String}{Bl:Array Edge}{j t:Nat}{b c:Bool}[cf:BM P f](hj:(ops[j]?).bind (·.dst)=some t)(hb:lk t F=some (.bool c))(hc:c=b)(hd:Nat.blt d n=true)(ha:OD F args vs)(h:CK P w0 M f vs L fun v L'=>GL P n w0 M ops Q rest ((d,v) :: F) L'):GL P n w0 M ops Q (⟨some d, .call ⟨.value (.func f),args.toArray,ts⟩,T,pos,Bl,some (j,b)⟩ :: rest) F L:=by
 intro a w hF hS
 refine wpList_step fun K' hK=>?_
 rw [if_pos (by simp [Region.wanted,D0 hF hj (hc ▸ hb)])]
 unfold Oper.wp
 rw [QA cf.h hF ha]
 show Calls _ _ _ _ _
 refine Calls.mono (h w hS) fun e w' he=>?_
 obtain⟨v,rfl,L',hk,hS'⟩:=he
 exact hK _ _ (hk _ _ (hF.put (by simpa [Nat.blt_eq] using hd) v) hS')
theorem eK {d t:Nat}{caps:List Value}{args:List Operand}{ts:Array TypeId}{T:TypeId}{pos:String}{Bl:Array Edge}(hd:Nat.blt d n=true)(hf:lk t F=some (.func (.func f) #[] caps.toArray))(c:BM P f)(ha:OD F args vs)(h:CK P w0 M f (vs++caps) L fun v L'=>GL P n w0 M ops Q rest ((d,v) :: F) L'):GL P n w0 M ops Q (⟨some d, .call ⟨.value (.tmp t),args.toArray,ts⟩,T,pos,Bl,none⟩ :: rest) F L:=by
 intro a w hF hS
 refine wpList_plain rfl fun K' hK=>?_
 unfold Oper.wp
 rw [YE c.h hF hf ha]
 show Calls _ _ _ _ _
 refine Calls.mono (h w hS) fun e w' he=>?_
 obtain⟨v,rfl,L',hk,hS'⟩:=he
 exact hK _ _ (hk _ _ (hF.put (by simpa [Nat.blt_eq] using hd) v) hS')
variable {A K:List AJ} {Post:Value→List AJ→Prop} {H:World→Prop}
theorem Cl (hp:AK L A K)(h:Fu P f vs.toArray A Post)(k':∀ v B,Post v B→k v (B++K)):CK P w0 M f vs L k:=fun w hS=>(h w (hS.perm hp.perm).focus).mono fun v w' ⟨B,hP,hB⟩=>⟨B++K,k' v B hP,(hS.perm hp.perm).frame hB⟩
theorem Cm (hp:AK L A K)(h:Cz P f vs.toArray A H Post)(k':∀ v B,Post v B→k v (B++K))(hH:AK L A K→∀ w,St w0 M w L→H w:=by intro hp w hS;repeat' (first | exact GV.pull (by assumption) (by assumption) hS hp | exact Eo.pull (by assumption) (by assumption) hS hp | exact Eo.st (by assumption) hS | exact Eo.stM (by assumption) (by assumption) hS | exact GV.st (by assumption) hS | exact GV.stM (by assumption) (by assumption) hS | exact(Kx:Kn _ _ _ _ _ _ _) w hS | apply And.intro)):CK P w0 M f vs L k:=fun w hS=>(h w (hS.perm hp.perm).focus (hH hp w hS)).mono fun v w' ⟨B,hP,hB⟩=>⟨B++K,k' v B hP,(hS.perm hp.perm).frame hB⟩
theorem Cn {α:Type}(e:α→List Value)(T sz:Nat)(h:CK P w0 M f vs (AJ.own ⟨none,0,0⟩ T sz (([]:List α).flatMap e) :: L) k):CK P w0 M f vs L k:=fun w hS=>h w (hS.BT T sz)
section
variable {T U V E E':Nat} {x y z:Operand} {v:Value} {h:Hd} {k1 k2:IntKind}
theorem gL {i:Int}{s:AL}[u:Fq P U .string](hx:ev F x=some (Ag s))(hy:ev F y=some (.int k1 i))(hi:0≤i∧i < s.length):PS P n w0 M (.index U x y) T F L (.int .u8 (s.getD i.toNat 0).toNat) L:=Ru u.h hx hy hi.1 hi.2
theorem gJ {α:Type}{e:α→List Value}{len sz:Nat}{X:Vector α len}{i:Int}[u:Fq P T (.array len E)][s:ZQ P E sz][o:Oi P E](hx:ev F x=some (.agg (BO e X).toArray))(hy:ev F y=some (.int k1 i))(ih:Inhabited α)(fe:Flat e sz)(hi:0≤i∧i < (len:Int))(hv:e (X.at i) = [v]):PS P n w0 M (.index T x y) U F L v L:=XR fe u.h s.h o.h.1 hx hy hi.1 hi.2 hv
theorem gK {α:Type}{e:α→List Value}{len sz:Nat}{X:Vector α len}{i:Int}[u:Fq P T (.array len E)][o:My P E sz](hx:ev F x=some (.agg (BO e X).toArray))(hy:ev F y=some (.int k1 i))(ih:Inhabited α)(fe:Flat e sz)(hi:0≤i∧i < (len:Int)):PS P n w0 M (.index T x y) U F L (.agg (e (X.at i)).toArray) L:=VO fe u.h o.h hx hy hi.1 hi.2
theorem jm {s:AL}{a b:Int}[u:Fq P T .string](hx:ev F x=some (Ag s))(hy:ev F y=some (.int k1 a))(hz:ev F z=some (.int k2 b))(h0:0≤a∧a≤b)(h2:b≤s.length):PS P n w0 M (.slice T x (some y) (some z) none) U F L (Ag ((s.take b.toNat).drop a.toNat)) L:=cI u.h hx hy hz h0.1 h0.2 h2
theorem jl {s:AL}{a:Int}[u:Fq P T .string](hx:ev F x=some (Ag s))(hy:ev F y=some (.int k1 a))(h0:0≤a∧a≤s.length):PS P n w0 M (.slice T x (some y) none none) U F L (Ag (s.drop a.toNat)) L:=ZM u.h hx hy h0.1 h0.2
theorem jk {s:AL}{b:Int}[u:Fq P T .string](hx:ev F x=some (Ag s))(hz:ev F z=some (.int k1 b))(h0:0≤b∧b≤s.length):PS P n w0 M (.slice T x none (some z) none) U F L (Ag (s.take b.toNat)) L:=ZL u.h hx hz h0.1 h0.2
theorem gV {c:UInt8}[u:Fq P V (.int .i64)][t:Fq P U (.int .u8)](hx:ev F x=some (.int .u8 (c.toNat:Int))):PS P n w0 M (.convert U V x) T F L (.int .i64 (c.toNat:Int)) L:=fA u.h t.h hx
theorem ji {h:Hd}{s:AL}{E:Nat}{v:Value}[u:Fq P U (.slice E)][t:Fq P V .string][e:Fq P E (.int .u8)](hx:ev F x=some v)(hv:v=h.val)(hk:Kn w0 M L h E 1 (s.flatMap CE)):PS P n w0 M (.convert U V x) T F L (Ag s) L:=Qq u.h t.h e.h (hv ▸ hx) hk
theorem gU {a c:Int}{k k':IntKind}[u:Fq P V (.int k')][t:Fq P U (.int k)](hx:ev F x=some (.int k a))(hc:k'.wrap a=c):PS P n w0 M (.convert U V x) T F L (.int k' c) L:=TI u.h t.h hx hc
theorem gO {p:Option Addr}{l c:Nat}[u:Fq P U (.slice E)](hx:ev F x=some (.slice p l c)):PS P n w0 M (.call ⟨.builtin .len,#[x],#[U]⟩) T F L (.int .i64 l) L:=JP rfl u.h hx
theorem gC {p:Option Addr}{l c:Nat}[u:Fq P U (.slice E)](hx:ev F x=some (.slice p l c)):PS P n w0 M (.call ⟨.builtin .cap,#[x],#[U]⟩) T F L (.int .i64 c) L:=MC rfl u.h hx
theorem gD {p q:Bool}[u:Fq P U .bool](hx:ev F x=some (.bool p))(hy:ev F y=some (.bool q)):PS P n w0 M (.binOp .eql U x y V) T F L (.bool (p == q)) L:=TB u.h hx hy
theorem gP {p q:Bool}[u:Fq P U .bool](hx:ev F x=some (.bool p))(hy:ev F y=some (.bool q)):PS P n w0 M (.binOp .neq U x y V) T F L (.bool (p != q)) L:=TF u.h hx hy
theorem gE {α:Type}{d:DecidableEq α}{ea:α→List Value}{k:Nat}{X Y:α}[e:de P T d ea k](hk:k≤10000)(hg:P.eqGuardType P.depth T=false)(hx:ev F x=some (.agg (ea X).toArray))(hy:ev F y=some (.agg (ea Y).toArray)):PS P n w0 M (.binOp .eql T x y V) U F L (.bool (decide (X=Y))) L:=VK e.h hk hg hx hy
theorem gQ {α:Type}{d:DecidableEq α}{ea:α→List Value}{k:Nat}{X Y:α}[e:de P T d ea k](hk:k≤10000)(hg:P.eqGuardType P.depth T=false)(hx:ev F x=some (.agg (ea X).toArray))(hy:ev F y=some (.agg (ea Y).toArray)):PS P n w0 M (.binOp .neq T x y V) U F L (.bool (!decide (X=Y))) L:=VR e.h hk hg hx hy
theorem jj {ts:Array TypeId}(hx:ev F x=some v)(hv:v=h.val)(hz:h.Z):PS P n w0 M (.call ⟨.builtin .unsafeSliceData,#[x],ts⟩) T F L h.base L:=Rx (hv ▸ hx) hz
theorem jh {d:Bool}(hc:ev F z=some (.bool d))(hd:d=true)(hx:ev F x=some v):PS P n w0 M (.pick z x y) T F L v L:=JR (hd ▸ hc) hx
theorem jg {d:Bool}(hc:ev F z=some (.bool d))(hd:d=false)(hx:ev F y=some v):PS P n w0 M (.pick z x y) T F L v L:=IT (hd ▸ hc) hx
theorem jS {l:List (Nat × Nat)}{parts:List (Nat × Operand)}{zv:Value}{cs cs':List Value}[s:QS P T l][zz:LH P T zv](hzc:zv.cells=cs.toArray)(h:Bd F (fun i=>l[i]?) parts cs cs'):PS P n w0 M (.build T parts.toArray) U F L (.agg cs'.toArray) L:=ZD s.pl zz.h hzc h
theorem jR {len sz:Nat}{parts:List (Nat × Operand)}{zv:Value}{cs cs':List Value}[u:Fq P T (.array len E)][s:ZQ P E sz][zz:LH P T zv](hzc:zv.cells=cs.toArray)(h:Bd F (fun i=>some (i * sz,sz)) parts cs cs'):PS P n w0 M (.build T parts.toArray) U F L (.agg cs'.toArray) L:=XQ u.h s.h zz.h hzc h
section
variable {α β:Type} {ea:α→List Value} {eb:β→List Value} {o sz i:Nat} {g:α→β} {s:α→β→α} {X:α} {Y:β} {rest:List (Nat × Operand)} {cs':List Value}
theorem km {l:List (Nat × Nat)}(hx:ev F x=some v)(hp:l[i]?=some (o,sz))(hl:Ac ea eb o sz g s)(hv:v.cells=(eb Y).toArray)(h:Bd F (fun i=>l[i]?) rest (ea (s X Y)) cs'):Bd F (fun i=>l[i]?) ((i,x) :: rest) (ea X) cs':= .cons hl hx hv hp h
theorem kl [Inhabited α]{n:Nat}{X:Vector α n}{Y:α}[fe:Flat ea sz](hx:ev F x=some v)(hi:i < n)(hv:v.cells=(ea Y).toArray)(h:Bd F (fun i=>some (i * sz,sz)) rest (BO ea (X.put (i:Int) Y)) cs'):Bd F (fun i=>some (i * sz,sz)) ((i,x) :: rest) (BO ea X) cs':= .cons (Ac.arr fe (i:=(i:Int)) (by omega) (by omega)) hx hv (by simp) h
end
section
variable {α:Type} {e:α→List Value} {d sz:Nat} {pos:String} {Bl:Array Edge} {zv:Value}
theorem jT {a:α}[u:Fq P T (.slice E)][l:eI P E e sz][s:ZQ P E sz][zz:LH P E zv](hd:Nat.blt d n=true)(hzs:zv.cells.size=sz)(hsz:0 < sz)(hbig:sz≤16777216)(hx:ev F x=some v)(hv:v.cells=(e a).toArray)
  (k:∀ b,GL P n w0 M ops Q rest ((d,Hd.val ⟨some ⟨b,0,none⟩,1,1⟩) :: F) (AJ.own ⟨some ⟨b,0,none⟩,1,1⟩ E sz ([a].flatMap e) :: L)):GL P n w0 M ops Q (⟨some d, .buildSlice T 1 #[(0,x)],U,pos,Bl,none⟩ :: rest) F L:=Kh e l.f hd u.h s.h zz.h hzs hsz hbig hx hv k
theorem jQ {Gz gl:Nat}{xs zs:List α}{yv:Value}{Lf:AJ→List AJ}[u:Fq P U (.slice E)][l:bg P E e sz][s:ZQ P E sz][zz:LH P E zv][bb:fu P E Gz](hd:Nat.blt d n=true)(hzs:zv.cells.size=sz)(hb0:0 < Gz)(hsz:0 < sz)(hx:ev F x=some v)(hv:v=h.val)(hy:ev F y=some yv)(hU:∀ r,Ip L (AJ.own h E sz (xs.flatMap e)) r (Lf r))(hk:∀ w,St w0 M w L→Src P w V sz yv gl (zs.flatMap e))(hbd:(2 * (h.len+gl)+192) * Gz≤281474976710656)
  (k:∀ h':Hd,h'.len=h.len+gl→(h.Z→h'.Z)→GL P n w0 M ops Q rest ((d,h'.val) :: F) (Lf (AJ.own h' E sz ((xs++zs).flatMap e)))):GL P n w0 M ops Q (⟨some d, .call ⟨.builtin .append,#[x,y],#[U,V]⟩,T,pos,Bl,none⟩ :: rest) F L:=F1 l.f hd u.h s.h zz.h hzs bb.h hb0 hsz (hv ▸ hx) hy hk hbd hU k
theorem jU {xs:List α}{kd:IntKind}{i:Int}{Lf:AJ→List AJ}[u:Fq P T (.slice E)][l:bg P E e sz][s:ZQ P E sz](hd:Nat.blt d n=true)(hx:ev F x=some v)(hv:v=h.val)(hy:ev F y=some (.int kd i))(hi:0≤i∧i≤(h.len:Int))(hU:∀ r,Ip L (AJ.own h E sz (xs.flatMap e)) r (Lf r))
  (k:GL P n w0 M ops Q rest ((d,Hd.val ⟨h.a,i.toNat,h.cap⟩) :: F) (Lf (AJ.own ⟨h.a,i.toNat,h.cap⟩ E sz ((xs.take i.toNat).flatMap e)))):GL P n w0 M ops Q (⟨some d, .slice T x none (some y) none,U,pos,Bl,none⟩ :: rest) F L:=Qp l.f hd u.h s.h (hv ▸ hx) hy hi.1 hi.2 hU k
end
end
end
/-! ### drawn regions -/
class Ln {α:Type} (l:List α) (N:outParam Nat):Prop where
 h:l.length=N
instance {α:Type}:Ln ([]:List α) 0:=⟨rfl⟩
instance {α:Type}{a:α}{l:List α}{N:Nat}[i:Ln l N]:Ln (a :: l) (N+1):=⟨by simp [i.h]⟩
def jK:List Oper→List Nat→List Nat
 | [],_=> []
 | o :: l,R=>
  let R':=match o.op with | .move (.tmp k)=>k :: R | _=>R
  match o.dst with
  | some d=>if R.elem d then jK l R' else d :: jK l R'
  | none=>jK l R'
def Oj (ds:List Nat)(F F':List (Nat × Value)):Prop:=Sub F F'∧∀ k,ds.elem k=true→lk k F'=none
section
variable {ds:List Nat} {d k i n:Nat} {v:Value} {x:Nat × Value} {F F' G:List (Nat × Value)} {D:List (Nat × (Nat × Value))} {vs:List Value}
theorem Y7:Oj ds [] []:=⟨.nil _,fun _ _=>rfl⟩
theorem bu (e:ds.elem k=false)(h:Oj ds F F'):Oj ds ((k,v) :: F) ((k,v) :: F'):=by
 refine⟨fun j u hj=>?_,fun j hj=>?_⟩
 ·unfold lk at hj ⊢
  by_cases q:Nat.beq j k=true
  ·rw [q] at hj ⊢;exact hj
  ·rw [Bool.eq_false_iff.2 q] at hj ⊢;exact h.1 j u hj
 ·unfold lk
  have q:Nat.beq j k=false:=Bool.eq_false_iff.2 fun q=>by rw [Nat.eq_of_beq_eq_true q] at hj;rw [hj] at e;cases e
  rw [q];exact h.2 j hj
theorem bt (e:ds.elem k=true)(h:Oj ds F F'):Oj ds ((k,v) :: F) F':=by
 refine⟨fun j u hj=>?_,h.2⟩
 unfold lk
 by_cases q:Nat.beq j k=true
 ·rw [Nat.eq_of_beq_eq_true q,h.2 k e] at hj;cases hj
 ·rw [Bool.eq_false_iff.2 q];exact h.1 j u hj
theorem eV (h:Oj ds (x :: (F++G)) F'):Oj ds ((x :: F)++G) F':=h
theorem bq (h:Oj ds G F'):Oj ds ([]++G) F':=h
theorem gu (h:Oj ds ((d,v) :: (G2 D++G)) F'):Oj ds (G2 ((i,(d,v)) :: D)++G) F':=h
theorem gw (h:Oj ds ((d,v) :: (G2 D++G)) F'):Oj ds (G2 (KB i (some d) v D)++G) F':=h
theorem gv (h:Oj ds (G2 D++G) F'):Oj ds (G2 (KB i none v D)++G) F':=h
theorem gp (h:Oj ds G F'):Oj ds (G2 []++G) F':=h
theorem gn (h:Oj ds ((n,v) :: entry (n+1) vs) F'):Oj ds (entry n (v :: vs)) F':=h
theorem gk:Oj ds (entry n []) []:=Y7
theorem ks (h:Oj ds F F':=by repeat (first | exact Y7 | ((with_reducible apply bu);exact rfl) | ((with_reducible apply bt);exact rfl) | (with_reducible apply eV) | (with_reducible apply bq) | (with_reducible apply gu) | (with_reducible apply gp) | apply gw | apply gv | (with_reducible apply gn) | (with_reducible exact gk))):Oj ds F F':=h
end
def lD:Op→Bool
 | .move _ | .assign _ | .pick _ _ _ | .build _ _ | .load _ _ | .nilCheck _ | .binOp _ _ _ _ _ | .unOp _ _ _ | .makeFunc _ _ _ | .fieldAddr _ _ _ | .field _ _ _ | .indexAddr _ _ _ | .index _ _ _ | .lookup _ _ _ _ | .extract _ _=>false
 | _=>true
def dR (l:List Oper):List Nat:=l.foldl (fun R o=>R ++ [o.after.toList.foldl (fun m e=>if Region.binds .any e then m ||| (1 <<< e.on) ||| R.getD e.on 0 else m) 0]) []
section
variable {P:Program} {n:Nat} {w0:World} {M:List Nat} {Q:Exit→Go.Act→World→Prop} {l:List Oper} {Rs:List Nat} {F:List (Nat × Value)} {L:List AJ} {V A:List Nat} {D:List (Nat × (Nat × Value))} {k d j t:Nat} {v v':Value} {o:Oper} {op:Op} {T:TypeId} {pos:String} {Bl:Array Edge} {b c:Bool}
theorem Pl {id N:Nat}[m:jo P][i:Ln l N](hchk:(KC 0 l && fc l (dR l) && Ve n F l && E6 l)=true)(h:IU P n w0 M Q l (dR l) F N [] [] [] L):G P n w0 M (.region id l.toArray true) Q F L:=Wc _ m.h hchk i.h h
theorem JK (b:Nat)(ho:l[b]?=some o)(_he:lD o.op=true)(hc:(!(V.elem b) && cV l Rs V [b])=true)(hn:Xd o.dst F=true)
  (h:GL P n w0 M l.toArray (QK (PK n w0 M o fun v L'=>HS P n w0 M Q l Rs F b (KB b o.dst v D) L' A∧IU P n w0 M Q l Rs F k (b :: V) A (KB b o.dst v D) L') Q) [o] (DS D o.after.toList++F) L):IU P n w0 M Q l Rs F (k+1) V A D L:=LX b ho hc h hn
theorem JJ (i:Nat)(ho:l[i]?=some o)(hd:o.dst=some d)(hc:cg l V i o.after.toList=true)(hok:E8 P n w0 M Q l.toArray F L o D v)(hlk:X0 F d v)(h:IU P n w0 M Q l Rs F k (i :: V) (i :: A) ((i,(d,v)) :: D) L):IU P n w0 M Q l Rs F (k+1) V A D L:=Ow i ho hd hc hok h hlk
theorem lA {i:Nat}(ho:l[j]?=some o)(hl:Np j D=some (d,v))(hok:E8 P n w0 M Q l.toArray F L o D v')(e:v'=v)(h:HS P n w0 M Q l Rs F i D L A):HS P n w0 M Q l Rs F i D L (j :: A):=TL ho hok hl e h
theorem gR (hj:(l.toArray[j]?).bind (·.dst)=some t)(hb:lk t (DS D Bl.toList++F)=some (.bool c))(hc:c=b)(h:EX P n w0 M op T (DS D Bl.toList++F) L v):E8 P n w0 M Q l.toArray F L ⟨some d,op,T,pos,Bl,some (j,b)⟩ D v:=iG hj (hc ▸ hb) h
theorem Yp (hj:(l.toArray[j]?).bind (·.dst)=some t)(hb:lk t (DS D Bl.toList++F)=some (.bool c))(hc:c=false):E8 P n w0 M Q l.toArray F L ⟨some d,op,T,pos,Bl,some (j,true)⟩ D undef:=ZB hj hb (by rw [hc];rfl)
theorem Yo (hj:(l.toArray[j]?).bind (·.dst)=some t)(hb:lk t (DS D Bl.toList++F)=some (.bool c))(hc:c=true):E8 P n w0 M Q l.toArray F L ⟨some d,op,T,pos,Bl,some (j,false)⟩ D undef:=ZB hj hb (by rw [hc];rfl)
end
theorem Om {p:Prop}(h:p:=by first | exact Nat.le_refl 0 | omega | assumption | exact⟨Nat.le_refl 0,by assumption⟩ | exact⟨⟨Nat.le_refl 0,by assumption⟩,by assumption⟩ | exact⟨⟨Nat.le_refl 0,by omega⟩,by assumption⟩ | exact⟨⟨Nat.le_refl 0,by assumption⟩,by omega⟩ | (dsimp only;omega) | (simp only [Aa.E9,List.length_append,List.length_cons,List.length_nil];omega) | ((try dsimp only at *);(try simp only [List.length_append,List.length_cons,List.length_nil,List.length_take,List.length_drop,Hd.cut] at *);omega) | (simp<;>omega)):p:=h
theorem kp {F:List (Nat × Value)}{x:Operand}{u v:Value}(h:ev F x=some u)(k:u=v):ev F x=some v:=k ▸ h
theorem lF {c:Bool}{w v:Value}(h:c=true)(e:w=v):cv c w=v:=by rw [h];exact e
theorem lE {c:Bool}{w v:Value}(h:c=false)(e:w=v):cv (!c) w=v:=by rw [h];exact e
theorem Ex {F:List (Nat × Value)}{x:Operand}{v:Value}(h:ev F x=some v:=by apply kp;exact rfl;first | ((with_reducible apply lE);assumption;exact rfl) | ((with_reducible apply lF);(first | assumption | (rw [q];rfl) | (rw [qc,q];rfl) | exact qc | exact ju qc);exact rfl) | exact rfl):ev F x=some v:=h
theorem Mx {r:AJ}{L:List AJ}(h:r∈L:=by first | ((repeat (first | (with_reducible exact List.mem_cons_self ..) | (with_reducible apply List.mem_cons_of_mem)));done) | exact .head _ | exact .tail _ (.head _) | exact .tail _ (.tail _ (.head _)) | exact .tail _ (.tail _ (.tail _ (.head _))) | exact .tail _ (.tail _ (.tail _ (.tail _ (.head _)))) | exact .tail _ (.tail _ (.tail _ (.tail _ (.tail _ (.head _))))) | exact .tail _ (.tail _ (.tail _ (.tail _ (.tail _ (.tail _ (.head _)))))) | exact .tail _ (.tail _ (.tail _ (.tail _ (.tail _ (.tail _ (.tail _ (.head _))))))) | exact .tail _ (.tail _ (.tail _ (.tail _ (.tail _ (.tail _ (.tail _ (.tail _ (.head _)))))))) | exact .tail _ (.tail _ (.tail _ (.tail _ (.tail _ (.tail _ (.tail _ (.tail _ (.tail _ (.head _))))))))) | exact .tail _ (.tail _ (.tail _ (.tail _ (.tail _ (.tail _ (.tail _ (.tail _ (.tail _ (.tail _ (.head _)))))))))) | exact .tail _ (.tail _ (.tail _ (.tail _ (.tail _ (.tail _ (.tail _ (.tail _ (.tail _ (.tail _ (.tail _ (.head _))))))))))) | exact .tail _ (.tail _ (.tail _ (.tail _ (.tail _ (.tail _ (.tail _ (.tail _ (.tail _ (.tail _ (.tail _ (.tail _ (.head _)))))))))))) | exact .tail _ (.tail _ (.tail _ (.tail _ (.tail _ (.tail _ (.tail _ (.tail _ (.tail _ (.tail _ (.tail _ (.tail _ (.tail _ (.head _)))))))))))))):r∈L:=h
theorem Ux {r r':AJ}{L L':List AJ}(h:Ip L r r' L':=by first | ((repeat (first | (with_reducible exact Ip.head) | (with_reducible apply Ip.tail)));done) | exact .head | exact .tail (.head) | exact .tail (.tail (.head)) | exact .tail (.tail (.tail (.head))) | exact .tail (.tail (.tail (.tail (.head)))) | exact .tail (.tail (.tail (.tail (.tail (.head))))) | exact .tail (.tail (.tail (.tail (.tail (.tail (.head)))))) | exact .tail (.tail (.tail (.tail (.tail (.tail (.tail (.head))))))) | exact .tail (.tail (.tail (.tail (.tail (.tail (.tail (.tail (.head)))))))) | exact .tail (.tail (.tail (.tail (.tail (.tail (.tail (.tail (.tail (.head))))))))) | exact .tail (.tail (.tail (.tail (.tail (.tail (.tail (.tail (.tail (.tail (.head)))))))))) | exact .tail (.tail (.tail (.tail (.tail (.tail (.tail (.tail (.tail (.tail (.tail (.head))))))))))) | exact .tail (.tail (.tail (.tail (.tail (.tail (.tail (.tail (.tail (.tail (.tail (.tail (.head)))))))))))) | exact .tail (.tail (.tail (.tail (.tail (.tail (.tail (.tail (.tail (.tail (.tail (.tail (.tail (.head)))))))))))))):Ip L r r' L':=h
theorem Kx {w0:World}{M:List Nat}{L:List AJ}{h:Hd}{T sz:Nat}{cs:List Value}(k:Kn w0 M L h T sz cs:=by first | exact Kn.own Mx | exact Kn.Il (by assumption) | exact(fun w _=>Rd.nil w _ _) | exact gj (by assumption) (Kn.Il (by assumption)) (Kn.own Mx)):Kn w0 M L h T sz cs:=k
theorem Ql {F:List (Nat × Value)}{xs:List Operand}{vs:List Value}(h:OD F xs vs:=by repeat (first | exact .nil | (apply OD.cons;exact Ex))):OD F xs vs:=h
theorem kn {F:List (Nat × Value)}{l:List (Nat × Nat)}{ps:List (Nat × Operand)}{cs cs':List Value}(h:Bd F (fun i=>l[i]?) ps cs cs':=by repeat (first | exact .nil | (apply km;exact Ex;exact rfl;exact inferInstance;(first | exact rfl | exact(rfl:(Value.slice none 0 0).cells=(EE ⟨none,0,0⟩).toArray))))):Bd F (fun i=>l[i]?) ps cs cs':=h
theorem kk {F:List (Nat × Value)}{sz:Nat}{ps:List (Nat × Operand)}{cs cs':List Value}(h:Bd F (fun i=>some (i * sz,sz)) ps cs cs':=by repeat (first | exact .nil | (apply kl;exact Ex;exact Om;exact rfl))):Bd F (fun i=>some (i * sz,sz)) ps cs cs':=h
section
variable {P:Program} {n:Nat} {w0:World} {M:List Nat} {Q:Exit→Go.Act→World→Prop} {F:List (Nat × Value)} {L L':List AJ}
theorem Px {op:Op}{T:TypeId}{v:Value}(h:PS P n w0 M op T F L v L':=by first
 | ((with_reducible apply JQ);exact Ex)
 | ((with_reducible apply Km);exact Ex)
 | ((with_reducible apply jW);exact Ex;(with_reducible exact rfl);exact rfl)
 | ((with_reducible apply jV);exact Ex;exact rfl)
 | ((with_reducible apply gM);exact Ex;exact Mx)
 | ((with_reducible apply ja);exact Ex;exact Mx;exact inferInstance;exact Om;exact rfl)
 | ((with_reducible apply gN);exact Ex;exact Mx;exact inferInstance;exact Om;exact rfl)
 | ((with_reducible apply je);exact Ex;(with_reducible exact rfl);exact Kx;exact Om)
 | ((with_reducible apply jd);exact Ex;(with_reducible exact rfl);exact Kx;exact Om)
 | ((with_reducible apply jf);exact Ex;(with_reducible exact rfl);exact Kx;exact Om)
 | ((with_reducible apply jb);exact Ex;(with_reducible exact rfl);exact Kx;(case ih=>exact inferInstance);exact inferInstance;exact inferInstance;exact Om;exact Om;exact rfl)
 | ((with_reducible apply jc);exact Ex;(with_reducible exact rfl);exact Kx;(case ih=>exact inferInstance);exact inferInstance;exact Om;exact Om)
 | ((with_reducible apply jY);exact Ex;exact Ex;exact Om)
 | ((with_reducible apply jZ);exact Ex;(with_reducible exact rfl);exact Kx;exact Om;exact Ex;exact Om)
 | ((with_reducible apply eX);exact Ex;exact Ex)
 | ((with_reducible apply ei);exact Ex;exact Ex)
 | ((with_reducible apply ek);exact Ex;exact Ex)
 | ((with_reducible apply eZ);exact Ex;exact Ex)
 | ((with_reducible apply eY);exact Ex;exact Ex)
 | ((with_reducible apply eh);exact Ex;exact Ex)
 | ((with_reducible apply VL);exact Ex;exact Ex)
 | ((with_reducible apply VS);exact Ex;exact Ex)
 | ((with_reducible apply Na);exact Ex)
 | ((with_reducible apply en);exact Ex)
 | ((with_reducible apply VN);exact Ex;exact rfl)
 | ((with_reducible apply iH);exact Ex;exact rfl;(intro h;first | exact h | (rw [h];rfl) | (rw [q,h];rfl) | (rw [qc,q,h];rfl)))
 | ((with_reducible apply eW);exact Ex;exact rfl;(intro h;first | exact h | (rw [h];rfl) | (rw [q,h];rfl) | (rw [qc,q,h];rfl)))
 | ((with_reducible apply ZC);exact Ex;exact Ex;(first | exact IntWalk.i64_in _ Om | exact IntWalk.u8_in _ Om))
 | ((with_reducible apply ZK);exact Ex;exact Ex;(first | exact IntWalk.i64_in _ Om | exact IntWalk.u8_in _ Om))
 | ((with_reducible apply ZJ);exact Ex;exact Ex;(first | exact IntWalk.i64_in _ Om | exact IntWalk.u8_in _ Om))
 | ((with_reducible apply bf);exact Ex)
 | ((with_reducible apply gO);exact Ex)
 | ((with_reducible apply gC);exact Ex)
 | ((with_reducible apply gG);exact Ex)
 | ((with_reducible apply gF);exact Ex)
 | ((with_reducible apply gL);exact Ex;exact Ex;exact Om)
 | ((with_reducible apply gJ);exact Ex;exact Ex;(case ih=>exact inferInstance);exact inferInstance;exact Om;exact rfl)
 | ((with_reducible apply gK);exact Ex;exact Ex;(case ih=>exact inferInstance);exact inferInstance;exact Om)
 | ((with_reducible apply jm);exact Ex;exact Ex;exact Ex;exact Om;exact Om)
 | ((with_reducible apply jl);exact Ex;exact Ex;exact Om)
 | ((with_reducible apply jk);exact Ex;exact Ex;exact Om)
 | ((with_reducible apply ji);exact Ex;(with_reducible exact rfl);exact Kx)
 | ((with_reducible apply gV);exact Ex)
 | ((with_reducible apply gU);exact Ex;(first | exact IntWalk.i64_in _ Om | exact IntWalk.u8_in _ Om))
 | ((with_reducible apply jj);exact Ex;(with_reducible exact rfl);assumption)
 | ((with_reducible apply jh);exact Ex;(first | (with_reducible exact rfl) | assumption | decide | (simp only [List.length_cons,List.length_nil]<;>rfl));exact Ex)
 | ((with_reducible apply jg);exact Ex;(first | (with_reducible exact rfl) | assumption | decide | (simp only [List.length_cons,List.length_nil]<;>rfl));exact Ex)
 | ((with_reducible apply gE);exact Om;decide +kernel;exact Ex;exact Ex)
 | ((with_reducible apply gQ);exact Om;decide +kernel;exact Ex;exact Ex)
 | ((with_reducible apply gD);exact Ex;exact Ex)
 | ((with_reducible apply gP);exact Ex;exact Ex)
 | ((with_reducible apply cD);exact Ex;exact Ex)
 | ((with_reducible apply cE);exact Ex;exact Ex)
 | ((with_reducible apply ey);exact Ex;exact Ex;exact Om)
 | ((with_reducible apply LU);exact Ex;exact Ex;exact Om)
 | ((with_reducible apply cH);exact Ex;exact Ex)
 | ((with_reducible apply eo);exact Ex;exact Ex)
 | ((with_reducible apply jS);exact rfl;exact kn)
 | ((with_reducible apply jR);exact rfl;exact kk)
 | ((with_reducible apply TE);exact Ql)):PS P n w0 M op T F L v L':=h
theorem kx {op:Op}{T:TypeId}(h:PU P n w0 M op T F L L':=by first
 | ((with_reducible apply gT);exact Ex;exact Ex;exact rfl;exact rfl;exact Ux)
 | ((with_reducible apply gS);exact Ex;exact Ex;exact Mx;exact inferInstance;exact Om;exact rfl;exact rfl;exact Ux)
 | ((with_reducible apply gS (Y:=(⟨none,0,0⟩:Hd)));exact Ex;exact Ex;exact Mx;exact inferInstance;exact Om;exact rfl;exact rfl;exact Ux)):PU P n w0 M op T F L L':=h
theorem kV {rs:List ResultVar}{vs:List Value}(h:Rs P F L rs vs:=by(repeat (first | exact Rs.nil | (apply Rs.tmp;exact rfl) | (apply Rs.cs;exact rfl;exact Mx) | (apply Rs.ca;exact rfl;exact Mx;exact inferInstance)))):Rs P F L rs vs:=h
theorem TN {f:FuncId}{vs:List Value}{R:World→Value→World→Prop}(h:∀ w,St w0 M w L→Ch P f vs.toArray w (R w):=by(intro w hS;apply kM;intro hs;apply hs<;>first | exact Om | exact(Kx:Kn _ _ _ _ _ _ _) w hS | exact GV.st (by assumption) hS | exact GV.stM (by assumption) (by assumption) hS | exact Eo.st (by assumption) hS | exact Eo.stM (by assumption) (by assumption) hS)):∀ w,St w0 M w L→Ch P f vs.toArray w (R w):=h
variable {l:List Oper} {Rs V A:List Nat} {D:List (Nat × (Nat × Value))} {o:Oper} {v:Value} {i:Nat}
theorem ku (h:E8 P n w0 M Q l.toArray F L o D v:=by first
 | ((with_reducible apply bz);(first | (apply L8;exact Px) | (apply N0;apply G8;exact BM.h;exact Ql;exact TN)))
 | ((with_reducible apply gR);exact rfl;exact rfl;(first | (with_reducible exact rfl) | decide);(first | (apply L8;exact Px) | (apply N0;apply G8;exact BM.h;exact Ql;exact TN)))
 | ((with_reducible apply Yp);exact rfl;exact rfl;(first | (with_reducible exact rfl) | decide))
 | ((with_reducible apply Yo);exact rfl;exact rfl;(first | (with_reducible exact rfl) | decide))
 | ((with_reducible apply dk);exact rfl;exact rfl;(intro q;have q1:=kz q;(first | (apply L8;exact Px) | (apply N0;apply G8;exact BM.h;exact Ql;exact TN))))
 | ((with_reducible apply dj);exact rfl;exact rfl;(intro q;have q1:=kz q;(first | (apply L8;exact Px) | (apply N0;apply G8;exact BM.h;exact Ql;exact TN))))
 | ((with_reducible apply ZA);exact rfl;exact rfl;(intro qc q;have q1:=kz q;have q2:=kz qc;(first | (apply L8;exact Px) | (apply N0;apply G8;exact BM.h;exact Ql;exact TN))))
 | ((with_reducible apply Y9);exact rfl;exact rfl;(intro qc q;have q1:=kz q;have q2:=kz qc;(first | (apply L8;exact Px) | (apply N0;apply G8;exact BM.h;exact Ql;exact TN))))
 | ((with_reducible apply TA);exact rfl;exact rfl)):E8 P n w0 M Q l.toArray F L o D v:=h
theorem Io (h:E8 P n w0 M Q l.toArray F L o D v:=by first
 | ((with_reducible apply bz);(first | (apply L8;exact Px) | (apply N0;apply G8;exact BM.h;exact Ql;exact TN)))
 | ((with_reducible apply gR);exact rfl;exact rfl;(first | (with_reducible exact rfl) | assumption | decide);(first | (apply L8;exact Px) | (apply N0;apply G8;exact BM.h;exact Ql;exact TN)))
 | ((with_reducible apply Yp);exact rfl;exact rfl;(first | (with_reducible exact rfl) | assumption | decide))
 | ((with_reducible apply Yo);exact rfl;exact rfl;(first | (with_reducible exact rfl) | assumption | decide))
 | ((with_reducible apply dk);exact rfl;exact rfl;(intro q;have q1:=kz q;(first | (apply L8;exact Px) | (apply N0;apply G8;exact BM.h;exact Ql;exact TN))))
 | ((with_reducible apply dj);exact rfl;exact rfl;(intro q;have q1:=kz q;(first | (apply L8;exact Px) | (apply N0;apply G8;exact BM.h;exact Ql;exact TN))))
 | ((with_reducible apply ZA);exact rfl;exact rfl;(intro qc q;have q1:=kz q;have q2:=kz qc;(first | (apply L8;exact Px) | (apply N0;apply G8;exact BM.h;exact Ql;exact TN))))
 | ((with_reducible apply Y9);exact rfl;exact rfl;(intro qc q;have q1:=kz q;have q2:=kz qc;(first | (apply L8;exact Px) | (apply N0;apply G8;exact BM.h;exact Ql;exact TN))))
 | ((with_reducible apply TA);exact rfl;exact rfl)):E8 P n w0 M Q l.toArray F L o D v:=h
theorem kU (h:HS P n w0 M Q l Rs F i D L A:=by repeat (first | exact Ov | ((with_reducible apply Qr);decide +kernel) | ((with_reducible apply lA);exact rfl;exact rfl;first | (exact ku;exact rfl) | (exact Io;exact rfl)))):HS P n w0 M Q l Rs F i D L A:=h
end
structure Wr (r:Nat)(fl:Bool)(A:Prop):Prop where
 x:A
section
variable {P:Program} {n:Nat} {w0:World} {M:List Nat} {Q:Exit→Go.Act→World→Prop} {F:List (Nat × Value)} {L:List AJ} {l:List Oper} {id r:Nat} {fl:Bool} {A:Prop}
def fT:Code→Nat
 | .region id _ _=>id
 | .seq a b=>match fT a with | 0=>fT b | k=>k
 | .cond _ a b=>match fT a with | 0=>fT b | k=>k
 | .block _ a=>fT a
 | .loop a=>fT a
 | _=>0
def lM:Code→Nat
 | .seq _ _=>1
 | .region _ _ _=>2
 | .cond _ _ _=>3
 | .block _ _=>4
 | .loop _=>5
 | _=>6
theorem eS {x y:Code}(_a:Wr r fl A)(_h:(Nat.blt 100000 r && Nat.beq r (100000+10 * fT x+lM x))=false)(h:G P n w0 M x (Exit.then (y.wp P Q) Q) F L):G P n w0 M (.seq x y) Q F L:=Y5 h
theorem eR (_a:Wr r fl A)(_h:Nat.beq r id=false)(h:GL P n w0 M l.toArray Q l F L):G P n w0 M (.region id l.toArray false) Q F L:=KA h
theorem ky {N:Nat}(_a:Wr r fl A)(_h:Nat.beq r id=false){F':List (Nat × Value)}[m:jo P][i:Ln l N](hE:Oj (jK l []) F F')(hchk:(KC 0 l && fc l (dR l) && Ve n F' l && E6 l)=true)(h:IU P n w0 M Q l (dR l) F' N [] [] [] L):G P n w0 M (.region id l.toArray true) Q F L:=Af hE.1 (Pl hchk h)
theorem Gk {c:Operand}{x y:Code}{b:Bool}{p q:Prop}(_a:Wr r true A)(hc:ev F c=some (.bool b))(i:Nz (b=true) p)(j:Nz (b=false) q)(h:(b=true→p→G P n w0 M x Q F L)∧(b=false→q→G P n w0 M y Q F L)):G P n w0 M (.cond c x y) Q F L:=Og hc (fun e=>h.1 e (i.h e)) (fun e=>h.2 e (j.h e))
end
theorem jt {r:Nat}{fl:Bool}{A B:Prop}(h:Wr r fl A→B:=by
 intro a
 repeat (first
  | ((with_reducible apply Kj);exact rfl;exact Px)
  | ((with_reducible apply Rn);exact rfl;apply And.intro;exact kU)
  | ((with_reducible apply Yw);exact rfl;apply And.intro;exact kU)
  | ((with_reducible apply eS);exact a;exact rfl)
  | ((with_reducible apply eR);exact a;exact rfl)
  | ((with_reducible apply ky);exact a;exact rfl;exact ks;kernel_rfl)
  | ((with_reducible apply TM);exact rfl)
  | (first
   | ((with_reducible apply JJ 0);exact rfl;exact rfl;exact rfl;exact Io;(first | exact .inl rfl | exact .inr rfl))
   | ((with_reducible apply JJ 1);exact rfl;exact rfl;exact rfl;exact Io;(first | exact .inl rfl | exact .inr rfl))
   | ((with_reducible apply JJ 2);exact rfl;exact rfl;exact rfl;exact Io;(first | exact .inl rfl | exact .inr rfl))
   | ((with_reducible apply JJ 3);exact rfl;exact rfl;exact rfl;exact Io;(first | exact .inl rfl | exact .inr rfl))
   | ((with_reducible apply JJ 4);exact rfl;exact rfl;exact rfl;exact Io;(first | exact .inl rfl | exact .inr rfl))
   | ((with_reducible apply JJ 5);exact rfl;exact rfl;exact rfl;exact Io;(first | exact .inl rfl | exact .inr rfl))
   | ((with_reducible apply JJ 6);exact rfl;exact rfl;exact rfl;exact Io;(first | exact .inl rfl | exact .inr rfl))
   | ((with_reducible apply JJ 7);exact rfl;exact rfl;exact rfl;exact Io;(first | exact .inl rfl | exact .inr rfl))
   | ((with_reducible apply JJ 8);exact rfl;exact rfl;exact rfl;exact Io;(first | exact .inl rfl | exact .inr rfl))
   | ((with_reducible apply JJ 9);exact rfl;exact rfl;exact rfl;exact Io;(first | exact .inl rfl | exact .inr rfl))
   | ((with_reducible apply JJ 10);exact rfl;exact rfl;exact rfl;exact Io;(first | exact .inl rfl | exact .inr rfl))
   | ((with_reducible apply JJ 11);exact rfl;exact rfl;exact rfl;exact Io;(first | exact .inl rfl | exact .inr rfl))
   | ((with_reducible apply JJ 12);exact rfl;exact rfl;exact rfl;exact Io;(first | exact .inl rfl | exact .inr rfl))
   | ((with_reducible apply JJ 13);exact rfl;exact rfl;exact rfl;exact Io;(first | exact .inl rfl | exact .inr rfl))
   | ((with_reducible apply JJ 14);exact rfl;exact rfl;exact rfl;exact Io;(first | exact .inl rfl | exact .inr rfl))
   | ((with_reducible apply JJ 15);exact rfl;exact rfl;exact rfl;exact Io;(first | exact .inl rfl | exact .inr rfl))
   | ((with_reducible apply JJ 16);exact rfl;exact rfl;exact rfl;exact Io;(first | exact .inl rfl | exact .inr rfl))
   | ((with_reducible apply JJ 17);exact rfl;exact rfl;exact rfl;exact Io;(first | exact .inl rfl | exact .inr rfl))
   | ((with_reducible apply JJ 18);exact rfl;exact rfl;exact rfl;exact Io;(first | exact .inl rfl | exact .inr rfl))
   | ((with_reducible apply JJ 19);exact rfl;exact rfl;exact rfl;exact Io;(first | exact .inl rfl | exact .inr rfl))
   | ((with_reducible apply JJ 20);exact rfl;exact rfl;exact rfl;exact Io;(first | exact .inl rfl | exact .inr rfl))
   | ((with_reducible apply JJ 21);exact rfl;exact rfl;exact rfl;exact Io;(first | exact .inl rfl | exact .inr rfl))
   | ((with_reducible apply JJ 22);exact rfl;exact rfl;exact rfl;exact Io;(first | exact .inl rfl | exact .inr rfl))
   | ((with_reducible apply JJ 23);exact rfl;exact rfl;exact rfl;exact Io;(first | exact .inl rfl | exact .inr rfl))
   | ((with_reducible apply JJ 24);exact rfl;exact rfl;exact rfl;exact Io;(first | exact .inl rfl | exact .inr rfl))
   | ((with_reducible apply JJ 25);exact rfl;exact rfl;exact rfl;exact Io;(first | exact .inl rfl | exact .inr rfl))
   | ((with_reducible apply JJ 26);exact rfl;exact rfl;exact rfl;exact Io;(first | exact .inl rfl | exact .inr rfl))
   | ((with_reducible apply JJ 27);exact rfl;exact rfl;exact rfl;exact Io;(first | exact .inl rfl | exact .inr rfl))
   | ((with_reducible apply JJ 28);exact rfl;exact rfl;exact rfl;exact Io;(first | exact .inl rfl | exact .inr rfl))
   | ((with_reducible apply JJ 29);exact rfl;exact rfl;exact rfl;exact Io;(first | exact .inl rfl | exact .inr rfl))
   | ((with_reducible apply JJ 30);exact rfl;exact rfl;exact rfl;exact Io;(first | exact .inl rfl | exact .inr rfl))
   | ((with_reducible apply JJ 31);exact rfl;exact rfl;exact rfl;exact Io;(first | exact .inl rfl | exact .inr rfl))
   | ((with_reducible apply JJ 32);exact rfl;exact rfl;exact rfl;exact Io;(first | exact .inl rfl | exact .inr rfl))
   | ((with_reducible apply JJ 33);exact rfl;exact rfl;exact rfl;exact Io;(first | exact .inl rfl | exact .inr rfl))
   | ((with_reducible apply JJ 34);exact rfl;exact rfl;exact rfl;exact Io;(first | exact .inl rfl | exact .inr rfl))
   | ((with_reducible apply JJ 35);exact rfl;exact rfl;exact rfl;exact Io;(first | exact .inl rfl | exact .inr rfl))
   | ((with_reducible apply JJ 36);exact rfl;exact rfl;exact rfl;exact Io;(first | exact .inl rfl | exact .inr rfl))
   | ((with_reducible apply JJ 37);exact rfl;exact rfl;exact rfl;exact Io;(first | exact .inl rfl | exact .inr rfl))
   | ((with_reducible apply JJ 38);exact rfl;exact rfl;exact rfl;exact Io;(first | exact .inl rfl | exact .inr rfl))
   | ((with_reducible apply JJ 39);exact rfl;exact rfl;exact rfl;exact Io;(first | exact .inl rfl | exact .inr rfl)))
  | (first
   | ((with_reducible apply JK 0);exact rfl;exact rfl;decide +kernel;exact rfl)
   | ((with_reducible apply JK 1);exact rfl;exact rfl;decide +kernel;exact rfl)
   | ((with_reducible apply JK 2);exact rfl;exact rfl;decide +kernel;exact rfl)
   | ((with_reducible apply JK 3);exact rfl;exact rfl;decide +kernel;exact rfl)
   | ((with_reducible apply JK 4);exact rfl;exact rfl;decide +kernel;exact rfl)
   | ((with_reducible apply JK 5);exact rfl;exact rfl;decide +kernel;exact rfl)
   | ((with_reducible apply JK 6);exact rfl;exact rfl;decide +kernel;exact rfl)
   | ((with_reducible apply JK 7);exact rfl;exact rfl;decide +kernel;exact rfl)
   | ((with_reducible apply JK 8);exact rfl;exact rfl;decide +kernel;exact rfl)
   | ((with_reducible apply JK 9);exact rfl;exact rfl;decide +kernel;exact rfl)
   | ((with_reducible apply JK 10);exact rfl;exact rfl;decide +kernel;exact rfl)
   | ((with_reducible apply JK 11);exact rfl;exact rfl;decide +kernel;exact rfl)
   | ((with_reducible apply JK 12);exact rfl;exact rfl;decide +kernel;exact rfl)
   | ((with_reducible apply JK 13);exact rfl;exact rfl;decide +kernel;exact rfl)
   | ((with_reducible apply JK 14);exact rfl;exact rfl;decide +kernel;exact rfl)
   | ((with_reducible apply JK 15);exact rfl;exact rfl;decide +kernel;exact rfl)
   | ((with_reducible apply JK 16);exact rfl;exact rfl;decide +kernel;exact rfl)
   | ((with_reducible apply JK 17);exact rfl;exact rfl;decide +kernel;exact rfl)
   | ((with_reducible apply JK 18);exact rfl;exact rfl;decide +kernel;exact rfl)
   | ((with_reducible apply JK 19);exact rfl;exact rfl;decide +kernel;exact rfl)
   | ((with_reducible apply JK 20);exact rfl;exact rfl;decide +kernel;exact rfl)
   | ((with_reducible apply JK 21);exact rfl;exact rfl;decide +kernel;exact rfl)
   | ((with_reducible apply JK 22);exact rfl;exact rfl;decide +kernel;exact rfl)
   | ((with_reducible apply JK 23);exact rfl;exact rfl;decide +kernel;exact rfl)
   | ((with_reducible apply JK 24);exact rfl;exact rfl;decide +kernel;exact rfl)
   | ((with_reducible apply JK 25);exact rfl;exact rfl;decide +kernel;exact rfl)
   | ((with_reducible apply JK 26);exact rfl;exact rfl;decide +kernel;exact rfl)
   | ((with_reducible apply JK 27);exact rfl;exact rfl;decide +kernel;exact rfl)
   | ((with_reducible apply JK 28);exact rfl;exact rfl;decide +kernel;exact rfl)
   | ((with_reducible apply JK 29);exact rfl;exact rfl;decide +kernel;exact rfl)
   | ((with_reducible apply JK 30);exact rfl;exact rfl;decide +kernel;exact rfl)
   | ((with_reducible apply JK 31);exact rfl;exact rfl;decide +kernel;exact rfl)
   | ((with_reducible apply JK 32);exact rfl;exact rfl;decide +kernel;exact rfl)
   | ((with_reducible apply JK 33);exact rfl;exact rfl;decide +kernel;exact rfl)
   | ((with_reducible apply JK 34);exact rfl;exact rfl;decide +kernel;exact rfl)
   | ((with_reducible apply JK 35);exact rfl;exact rfl;decide +kernel;exact rfl)
   | ((with_reducible apply JK 36);exact rfl;exact rfl;decide +kernel;exact rfl)
   | ((with_reducible apply JK 37);exact rfl;exact rfl;decide +kernel;exact rfl)
   | ((with_reducible apply JK 38);exact rfl;exact rfl;decide +kernel;exact rfl)
   | ((with_reducible apply JK 39);exact rfl;exact rfl;decide +kernel;exact rfl))
  | ((with_reducible apply EJ);exact kx)
  | (with_reducible refine Rq ?_)
  | (with_reducible refine Yz ?_)
  | (with_reducible refine VH ?_)
  | (with_reducible refine bn ?_)
  | (with_reducible refine eP ?_)
  | (with_reducible refine Rr ?_)
  | (with_reducible refine QW ?_)
  | (with_reducible refine gZ ?_)
  | (with_reducible refine S8 ?_)
  | (with_reducible refine Rp ?_)
  | ((with_reducible apply Of);exact rfl)
  | ((with_reducible apply eJ);exact rfl;exact Ex;exact rfl;intro v_)
  | ((with_reducible apply gB);exact rfl;exact rfl;intro v_)
  | ((with_reducible apply jP);exact rfl;exact rfl;intro v_)
  | (with_reducible refine Oe ?_)
  | ((with_reducible apply jX);exact rfl;exact rfl;(first | (with_reducible exact rfl) | assumption | decide);exact rfl;exact Px)
  | ((with_reducible apply gI);exact rfl;exact rfl;(first | (with_reducible exact rfl) | assumption | decide);exact rfl)
  | ((with_reducible apply gH);exact rfl;exact rfl;(first | (with_reducible exact rfl) | assumption | decide);exact rfl)
  | ((with_reducible apply Yv);exact rfl;exact rfl;exact rfl;(intro q;have q1:=kz q;exact Px))
  | ((with_reducible apply Yu);exact rfl;exact rfl;exact rfl;(intro q;have q1:=kz q;exact Px))
  | ((with_reducible apply eN);exact rfl;exact rfl;exact rfl;(intro qc q;have q1:=kz q;have q2:=kz qc;exact Px))
  | ((with_reducible apply eM);exact rfl;exact rfl;exact rfl;(intro qc q;have q1:=kz q;have q2:=kz qc;exact Px))
  | ((with_reducible apply Yy);exact rfl;exact rfl;exact rfl;(intro q;have q1:=kz q;apply G8;exact BM.h;exact Ql;exact TN))
  | ((with_reducible apply Yx);exact rfl;exact rfl;exact rfl;(intro q;have q1:=kz q;apply G8;exact BM.h;exact Ql;exact TN))
  | ((with_reducible apply bm);exact rfl;exact rfl;exact rfl;(intro qc q;have q1:=kz q;have q2:=kz qc;apply G8;exact BM.h;exact Ql;exact TN))
  | ((with_reducible apply bl);exact rfl;exact rfl;exact rfl;(intro qc q;have q1:=kz q;have q2:=kz qc;apply G8;exact BM.h;exact Ql;exact TN))
  | ((with_reducible apply gX);exact rfl;exact Ql)
  | ((with_reducible apply eK);exact rfl;exact rfl;exact BM.mk BM.h;exact Ql)
  | ((with_reducible apply eL);exact rfl;exact rfl;(first | (with_reducible exact rfl) | assumption);exact rfl;exact Ql)
  | ((with_reducible apply jT);exact rfl;exact rfl;exact Om;exact Om;exact Ex;exact rfl;intro v_)
  | ((with_reducible apply jQ);exact rfl;exact rfl;exact Om;exact Om;exact Ex;(with_reducible exact rfl);exact Ex;(intro r;exact Ux);(first | exact(fun _ _=>Src.str Fq.h) | exact(fun w hS=>Src.FG Fq.h ((Kx:Kn _ _ _ _ _ _ _) w hS)));exact Om;intro v_ v_ v_)
  | ((with_reducible apply jU);exact rfl;exact Ex;(with_reducible exact rfl);exact Ex;exact Om;(intro r;exact Ux))
  | ((with_reducible apply Cp);exact TN)
  | ((with_reducible apply eU);exact rfl;(first | (with_reducible exact rfl) | assumption | decide | (simp only [List.length_cons,List.length_nil]<;>rfl) | (simp<;>fail)))
  | ((with_reducible apply bp);exact rfl;(first | (with_reducible exact rfl) | assumption | decide | (simp only [List.length_cons,List.length_nil]<;>rfl) | (simp<;>fail)))
  | ((with_reducible apply Gx);exact rfl;exact kV)
  | ((with_reducible apply Gy);exact rfl;exact kV))
 try (first | ((with_reducible apply Gk);exact a;exact rfl;exact inferInstance;exact inferInstance) | (with_reducible apply Lp))
 repeat (revert v_)
 exact a.x):Wr r fl A→B:=h
theorem W {A B:Prop}(a:A)(h:Wr 99999 true A→B:=by exact jt):B:=h ⟨a⟩
theorem Wv {A B:Prop}(a:A)(h:Wr 99999 false A→B:=by exact jt):B:=h ⟨a⟩
theorem Ws (r:Nat){A B:Prop}(a:A)(h:Wr r true A→B:=by exact jt):B:=h ⟨a⟩
end Go.Ing

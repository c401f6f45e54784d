/- The engine: rules by which a walk over a function of the model goes operation by operation; data in cells; from a contract of a law to its row. No condition. -/
import Derived.Tactics2
import Derived.Below
import Derived.Orders
import Derived.KernelRfl
import Derived.LoopN
import Derived.IntWalk
import Derived.Laws.Small
import Derived.Laws.Strings
import Derived.Laws.StructEq
set_option linter.unusedSimpArgs false
set_option linter.unusedVariables false
/- Engine, part 1: frames, owned blocks, and the rules of control flow over the model's 'Code.wp'. -/
namespace Go.Ing
theorem J.{u}{α:Sort u}{a:α}:a=a:=Eq.refl a
open Go

def lk (k:Nat):List (Nat × Value)→Option Value
 | []=>none
 | (j,v) :: F=>bif Nat.beq k j then some v else lk k F

def ev (F:List (Nat × Value)):Operand→Option Value
 | .tmp t=>lk t F
 | .const v=>some v
 | .global g=>some (.pointer (some ⟨g,0,none⟩))
 | .func f=>some (.func (.func f) #[] #[])

structure Fr (n:Nat)(a:Act)(F:List (Nat × Value)):Prop where
 size:a.tmps.size=n
 defers:a.defers = []
 get:∀ k v,lk k F=some v→a.tmps[k]?=some v

theorem Fr.ev {n:Nat}{a:Act}{F:List (Nat × Value)}(h:Fr n a F){x:Operand}{v:Value}(hx:ev F x=some v):a.eval x=v:=by
 cases x with
 | tmp t=>have:=h.get t v hx;simp [Act.eval,this]
 | const c=>simpa [Ing.ev,Act.eval] using hx
 | global g=>simpa [Ing.ev,Act.eval] using hx
 | func f=>simpa [Ing.ev,Act.eval] using hx

theorem Fr.put {n:Nat}{a:Act}{F:List (Nat × Value)}(h:Fr n a F){d:Nat}(hd:d < n)(v:Value):Fr n (a.put (some d) v) ((d,v) :: F):=by
 refine⟨by simp [Act.put,h.size],h.defers,fun k u hk=>?_⟩
 simp only [Act.put]
 unfold lk at hk
 by_cases e:k=d
 ·subst e
  simp at hk
  subst hk
  simp [h.size,hd]
 ·have:Nat.beq k d=false:=Bool.eq_false_iff.2 fun h=>e (Nat.eq_of_beq_eq_true h)
  rw [this] at hk
  have:=h.get k u hk
  rw [Array.getElem?_setIfInBounds_ne (fun h=>e h.symm)]
  exact this

def put (d:Option Nat)(v:Value)(F:List (Nat × Value)):List (Nat × Value):=
 match d with | some d=>(d,v) :: F | none=>F

def Sub (F G:List (Nat × Value)):Prop:=∀ k v,lk k G=some v→lk k F=some v
theorem Sub.refl (F:List (Nat × Value)):Sub F F:=fun _ _ h=>h
theorem Sub.nil (F:List (Nat × Value)):Sub F []:=fun _ _ h=>by simp [lk] at h
theorem Sub.cons {F G:List (Nat × Value)}{k:Nat}{v:Value}(h:lk k F=some v)(hs:Sub F G):Sub F ((k,v) :: G):=by
 intro j u hj
 unfold lk at hj
 by_cases e:j=k
 ·subst e;simp at hj;subst hj;exact h
 ·have:Nat.beq j k=false:=Bool.eq_false_iff.2 fun h=>e (Nat.eq_of_beq_eq_true h)
  rw [this] at hj
  exact hs j u hj
theorem Fr.sub {n:Nat}{a:Act}{F G:List (Nat × Value)}(h:Fr n a F)(hs:Sub F G):Fr n a G:=⟨h.size,h.defers,fun k v hk=>h.get k v (hs k v hk)⟩

structure AJ where
 Bn:List Nat
 ok:World→Prop
 loc:∀ w w':World,(∀ b∈Bn,w'.heap[b]?=w.heap[b]?)→ok w→ok w'

def AJ.box (b:Nat)(T:TypeId)(cs:List Value):AJ where
 Bn:= [b]
 ok w:=w.heap[b]?=some (.cells cs.toArray T)
 loc w w' h hw:=by rw [h b (by simp)];exact hw

structure St (w0:World)(M:List Nat)(w:World)(L:List AJ):Prop where
 os:w.os=w0.os
 tape:w.tape=w0.tape
 output:w.output=w0.output
 size:w0.heap.size≤w.heap.size
 Il:∀ k,k < w0.heap.size→k ∉ M→w.heap[k]?=w0.heap[k]?
 ok:∀ r∈L,r.ok w
 Bn:∀ r∈L,∀ b∈r.Bn,b < w.heap.size∧(b < w0.heap.size→b∈M)
 Ir:L.Pairwise fun r s=>∀ b∈r.Bn,b ∉ s.Bn

theorem St.start (w:World)(M:List Nat):St w M w []:=
 ⟨rfl,rfl,rfl,Nat.le_refl _,fun _ _ _=>rfl,fun _ h=>by simp at h,fun _ h=>by simp at h, .nil⟩

theorem St.alloc {w0:World}{M:List Nat}{w:World}{L:List AJ}(h:St w0 M w L)(T:TypeId)(cs:List Value) :
  St w0 M (w.alloc (.cells cs.toArray T)) (AJ.box w.heap.size T cs :: L):=by
 have hb:∀ k,k < w.heap.size→(w.alloc (.cells cs.toArray T)).heap[k]?=w.heap[k]?:=fun k hk=>RowKit.Below.heap_alloc _ _ _ hk
 refine⟨h.os,h.tape,h.output,by have:=h.size;simp;omega,fun k hk hM=>(hb k (by have:=h.size;omega)).trans (h.Il k hk hM),?_,?_,?_⟩
 ·intro r hr
  rcases List.mem_cons.1 hr with rfl | hr
  ·show(w.heap.push _)[w.heap.size]?=_
   simp
  ·exact r.loc w _ (fun b hbr=>hb b (h.Bn r hr b hbr).1) (h.ok r hr)
 ·intro r hr b hbr
  rcases List.mem_cons.1 hr with rfl | hr
  ·simp [AJ.box] at hbr;subst hbr
   refine⟨by simp,fun hlt=>?_⟩
   have:=h.size;omega
  ·have:=h.Bn r hr b hbr
   exact⟨by simp;omega,this.2⟩
 ·refine List.pairwise_cons.2 ⟨fun s hs b hbr hbs=>?_,h.Ir⟩
  simp [AJ.box] at hbr;subst hbr
  have:=(h.Bn s hs _ hbs).1
  omega

inductive Ip:List AJ→AJ→AJ→List AJ→Prop where
 | head {r r':AJ} {L:List AJ}:Ip (r :: L) r r' (r' :: L)
 | tail {s r r':AJ} {L L':List AJ} (h:Ip L r r' L'):Ip (s :: L) r r' (s :: L')

theorem Ip.mem {L L':List AJ}{r r':AJ}(h:Ip L r r' L'):r∈L:=by
 induction h with
 | head=>simp
 | tail _ ih=>simp [ih]

theorem Ip.dE {L L' : List AJ} {r r' : AJ} (h : Ip L r r' L') : ∀ s ∈ L', s = r' ∨ s ∈ L := by
  induction h with
  | head => intro s hs; rcases List.mem_cons.1 hs with h | h <;> simp [h]
  | tail _ ih => intro s hs; rcases List.mem_cons.1 hs with h | h
                 · simp [h]
                 · rcases ih s h with h | h <;> simp [h]

theorem Ip.Ir {L L':List AJ}{r r':AJ}(h:Ip L r r' L')(hf:∀ b∈r'.Bn,b∈r.Bn∨∀ s∈L,b ∉ s.Bn)(hd:L.Pairwise fun r s=>∀ b∈r.Bn,b ∉ s.Bn):L'.Pairwise fun r s=>∀ b∈r.Bn,b ∉ s.Bn:=by
 induction h with
 | head=>
  rename_i r r' L
  have hp:=List.pairwise_cons.1 hd
  refine List.pairwise_cons.2 ⟨fun s hs b hb hbs=>?_,hp.2⟩
  rcases hf b hb with h | h
  ·exact hp.1 s hs b h hbs
  ·exact h s (by simp [hs]) hbs
 | tail hu ih=>
  rename_i s r r' L L'
  have hp:=List.pairwise_cons.1 hd
  refine List.pairwise_cons.2 ⟨fun t ht b hb hbt=>?_,ih (fun b hb=>?_) hp.2⟩
  ·rcases hu.dE t ht with rfl | ht
   ·rcases hf b hbt with h | h
    ·exact hp.1 _ hu.mem b hb h
    ·exact h s (by simp) hb
   ·exact hp.1 t ht b hb hbt
  ·rcases hf b hb with h | h
   ·exact .inl h
   ·exact .inr fun t ht=>h t (by simp [ht])

theorem Ip.others {L L':List AJ}{r r':AJ}(h:Ip L r r' L')(hd:L.Pairwise fun r s=>∀ b∈r.Bn,b ∉ s.Bn):∀ s∈L',s=r'∨(s∈L∧∀ b∈r.Bn,b ∉ s.Bn):=by
 induction h with
 | head=>
  intro s hs
  have hp:=List.pairwise_cons.1 hd
  rcases List.mem_cons.1 hs with rfl | hs
  ·simp
  ·exact .inr ⟨by simp [hs],hp.1 s hs⟩
 | tail hu ih=>
  intro s hs
  have hp:=List.pairwise_cons.1 hd
  rcases List.mem_cons.1 hs with rfl | hs
  ·exact .inr ⟨by simp,fun b hb hbs=>hp.1 _ hu.mem b hbs hb⟩
  ·rcases ih hp.2 s hs with h | ⟨h1,h2⟩
   ·exact .inl h
   ·exact .inr ⟨by simp [h1],h2⟩

theorem St.Dy {w0:World}{M:List Nat}{w w':World}{L L':List AJ}{r r':AJ}(h:St w0 M w L)(hu:Ip L r r' L')
  (hos:w'.os=w.os) (htape:w'.tape=w.tape) (hout:w'.output=w.output) (hsz:w.heap.size≤w'.heap.size)
  (hkeep:∀ k,k < w.heap.size→k ∉ r.Bn→w'.heap[k]?=w.heap[k]?) (hok:r'.ok w')
  (hf:∀ b∈r'.Bn,b < w'.heap.size∧(b∈r.Bn∨w.heap.size≤b)):St w0 M w' L':=by
 refine⟨hos.trans h.os,htape.trans h.tape,hout.trans h.output,Nat.le_trans h.size hsz,?_,?_,?_,?_⟩
 ·intro k hk hM
  have hr:k ∉ r.Bn:=fun hkr=>hM ((h.Bn r hu.mem k hkr).2 hk)
  exact(hkeep k (by have:=h.size;omega) hr).trans (h.Il k hk hM)
 ·intro s hs
  rcases hu.others h.Ir s hs with rfl | ⟨h1,h2⟩
  ·exact hok
  ·exact s.loc w w' (fun b hb=>hkeep b (h.Bn s h1 b hb).1 (fun hbr=>h2 b hbr hb)) (h.ok s h1)
 ·intro s hs b hb
  rcases hu.others h.Ir s hs with rfl | ⟨h1,h2⟩
  ·obtain⟨a1,a2⟩:=hf b hb
   refine⟨a1,fun hlt=>?_⟩
   rcases a2 with a2 | a2
   ·exact(h.Bn r hu.mem b a2).2 hlt
   ·have:=h.size;omega
  ·have:=h.Bn s h1 b hb
   exact⟨by omega,this.2⟩
 ·refine hu.Ir (fun b hb=>?_) h.Ir
  rcases (hf b hb).2 with a2 | a2
  ·exact .inl a2
  ·exact .inr fun s hs hbs=>by have:=(h.Bn s hs b hbs).1;omega

theorem St.sub {w0:World}{M:List Nat}{w:World}{L L':List AJ}(h:St w0 M w L)(hs:L'.Sublist L):St w0 M w L':=
 ⟨h.os,h.tape,h.output,h.size,h.Il,fun r hr=>h.ok r (hs.subset hr),fun r hr=>h.Bn r (hs.subset hr),h.Ir.sublist hs⟩

theorem St.drew {w0:World}{M:List Nat}{w:World}{L:List AJ}(h:St w0 M w L)(n:Nat):St w0 M { w with drawn:=n } L:=
 ⟨h.os,h.tape,h.output,h.size,h.Il,fun r hr=>r.loc w _ (fun _ _=>rfl) (h.ok r hr),h.Bn,h.Ir⟩

/-! ### Control -/
section
variable (P:Program) (n:Nat) (w0:World) (M:List Nat)

def G (c:Code)(Q:Exit→Act→World→Prop)(F:List (Nat × Value))(L:List AJ):Prop:=
 ∀ a w,Fr n a F→St w0 M w L→c.wp P Q a w
def GL (ops:Array Oper)(Q:Exit→Act→World→Prop)(l:List Oper)(F:List (Nat × Value))(L:List AJ):Prop:=
 ∀ a w,Fr n a F→St w0 M w L→wpList P ops Q l a w
def GQ (Q:Exit→Act→World→Prop)(e:Exit)(F:List (Nat × Value))(L:List AJ):Prop:=
 ∀ a w,Fr n a F→St w0 M w L→Q e a w
end

section
variable {P:Program} {n:Nat} {w0:World} {M:List Nat} {Q:Exit→Act→World→Prop} {F:List (Nat × Value)} {L:List AJ}

theorem Y5 {x y:Code}(h:G P n w0 M x (Exit.then (y.wp P Q) Q) F L):G P n w0 M (.seq x y) Q F L:=fun a w hF hS=>wp_seq (h a w hF hS)
theorem bn {id:Nat}{c:Code}(h:G P n w0 M c (Exit.inBlock id Q) F L):G P n w0 M (.block id c) Q F L:=fun a w hF hS=>wp_block (h a w hF hS)
theorem eP {id:Nat}(h:GQ n w0 M Q (.exit id) F L):G P n w0 M (.exit id) Q F L:=fun a w hF hS=>wp_exit (h a w hF hS)
theorem gZ (h:GQ n w0 M Q .ret F L):G P n w0 M .ret Q F L:=fun a w hF hS=>wp_ret (h a w hF hS)
theorem VH (h:GQ n w0 M Q .normal F L):G P n w0 M .skip Q F L:=fun a w hF hS=>wp_skip (h a w hF hS)
theorem Og {c:Operand}{x y:Code}{b:Bool}(hc:ev F c=some (.bool b))(ht:b=true→G P n w0 M x Q F L)(hf:b=false→G P n w0 M y Q F L):G P n w0 M (.cond c x y) Q F L:=
 fun a w hF hS=>wp_cond_split (hF.ev hc) (fun h=>ht h a w hF hS) (fun h=>hf h a w hF hS)
theorem eU {c:Operand}{x y:Code}{b:Bool}(hc:ev F c=some (.bool b))(hb:b=true)(ht:G P n w0 M x Q F L):G P n w0 M (.cond c x y) Q F L:=
 Og hc (fun _=>ht) (fun h=>by rw [hb] at h;cases h)
theorem bp {c:Operand}{x y:Code}{b:Bool}(hc:ev F c=some (.bool b))(hb:b=false)(hf:G P n w0 M y Q F L):G P n w0 M (.cond c x y) Q F L:=
 Og hc (fun h=>by rw [hb] at h;cases h) (fun _=>hf)
theorem KA {id:Nat}{l:List Oper}(h:GL P n w0 M l.toArray Q l F L):G P n w0 M (.region id l.toArray false) Q F L:=fun a w hF hS=>wp_region_lit (h a w hF hS)
theorem Oe {ops:Array Oper}(h:GQ n w0 M Q .normal F L):GL P n w0 M ops Q [] F L:=fun a w hF hS=>wpList_nil (h a w hF hS)

theorem Rq {y:Code}(h:G P n w0 M y Q F L):GQ n w0 M (Exit.then (y.wp P Q) Q) .normal F L:=h
theorem S8 {K:Act→World→Prop}(h:GQ n w0 M Q .ret F L):GQ n w0 M (Exit.then K Q) .ret F L:=h
theorem Rr {K:Act→World→Prop}{id:Nat}(h:GQ n w0 M Q (.exit id) F L):GQ n w0 M (Exit.then K Q) (.exit id) F L:=h
theorem Yz {id:Nat}(h:GQ n w0 M Q .normal F L):GQ n w0 M (Exit.inBlock id Q) .normal F L:=fun a w hF hS=>by simpa [Exit.inBlock] using h a w hF hS
theorem QW {id:Nat}(h:GQ n w0 M Q .normal F L):GQ n w0 M (Exit.inBlock id Q) (.exit id) F L:=fun a w hF hS=>by simpa [Exit.inBlock] using h a w hF hS
theorem Of {id j:Nat}(hj:(j == id)=false)(h:GQ n w0 M Q (.exit j) F L):GQ n w0 M (Exit.inBlock id Q) (.exit j) F L:=fun a w hF hS=>by
 have:j≠id:=by simpa using hj
 simpa [Exit.inBlock,this] using h a w hF hS
theorem Rp {id:Nat}(h:GQ n w0 M Q .ret F L):GQ n w0 M (Exit.inBlock id Q) .ret F L:=fun a w hF hS=>by simpa [Exit.inBlock] using h a w hF hS

def At (n:Nat)(w0:World)(M:List Nat){σ:Type}(I:σ→Prop)(Fs:σ→List (Nat × Value))(Ls:σ→List AJ)(a:Act)(w:World):Prop:=∃ s,I s∧Fr n a (Fs s)∧St w0 M w (Ls s)
theorem Wb {σ:Type}{x y:Code}(I:σ→Prop)(Fs:σ→List (Nat × Value))(Ls:σ→List AJ)
  (hx:G P n w0 M x (Exit.then (At n w0 M I Fs Ls) Q) F L) (hy:∀ s,I s→G P n w0 M y Q (Fs s) (Ls s)):G P n w0 M (.seq x y) Q F L:=by
 intro a w hF hS
 refine wp_seq (wp_mono (hx a w hF hS) fun e a' w' q=>?_)
 cases e with
 | normal=>obtain⟨s,hI,hF',hS'⟩:=q;exact hy s hI a' w' hF' hS'
 | _=>exact q
theorem WZ {σ:Type}{I:σ→Prop}{Fs:σ→List (Nat × Value)}{Ls:σ→List AJ}(s:σ)(hI:I s)(hF:Sub F (Fs s))(hL:(Ls s).Sublist L):GQ n w0 M (Exit.then (At n w0 M I Fs Ls) Q) .normal F L:=
 fun _ _ hf hS=>⟨s,hI,hf.sub hF,hS.sub hL⟩

def Y8 (n:Nat)(w0:World)(M:List Nat){σ:Type}(I:σ→Prop)(μ:σ→Nat)(Fs:σ→List (Nat × Value))(Ls:σ→List AJ)(m:Nat)(a:Act)(w:World):Prop:=∃ s,I s∧μ s < m∧Fr n a (Fs s)∧St w0 M w (Ls s)
theorem JM {σ:Type}{c:Code}(I:σ→Prop)(μ:σ→Nat)(Fs:σ→List (Nat × Value))(Ls:σ→List AJ)(s0:σ)(h0:I s0)(hF0:Sub F (Fs s0))(hL0:(Ls s0).Sublist L)
  (round:∀ s,I s→G P n w0 M c (Exit.then (Y8 n w0 M I μ Fs Ls (μ s)) Q) (Fs s) (Ls s)):G P n w0 M (.loop c) Q F L:=by
 intro a w hF hS
 have key:∀ m s,μ s < m→I s→∀ a w,Fr n a (Fs s)→St w0 M w (Ls s)→Code.rounds P c Q m a w:=by
  intro m
  induction m with
  | zero=>intro s h;omega
  | succ m ih=>
   intro s hm hI a w hf hs
   rw [rounds_succ]
   refine wp_mono (round s hI a w hf hs) fun e a' w' q=>?_
   cases e with
   | normal=>obtain⟨s',hI',hlt,hF',hS'⟩:=q;exact ih s' (by omega) hI' a' w' hF' hS'
   | _=>exact q
 exact wp_loop_rounds _ (key _ s0 (Nat.lt_succ_self _) h0 a w (hF.sub hF0) (hS.sub hL0))
theorem HG {σ:Type}{I:σ→Prop}{μ:σ→Nat}{Fs:σ→List (Nat × Value)}{Ls:σ→List AJ}{m:Nat}(s:σ)(hI:I s)(hm:μ s < m)(hF:Sub F (Fs s))(hL:(Ls s).Sublist L):GQ n w0 M (Exit.then (Y8 n w0 M I μ Fs Ls m) Q) .normal F L:=
 fun _ _ hf hS=>⟨s,hI,hm,hf.sub hF,hS.sub hL⟩
end
end Go.Ing
/- Engine, part 2: the operations, one lemma each. -/
namespace Go.Ing
open Go

abbrev Ag (l:List UInt8):Value:= .string ⟨l.toArray⟩

section
variable (P:Program) (n:Nat) (w0:World) (M:List Nat)
def PS (op:Op)(T:TypeId)(F:List (Nat × Value))(L:List AJ)(v:Value)(L':List AJ):Prop:=
 ∀ a w, Fr n a F → St w0 M w L → ∃ w', (execOp a.eval ⟨none, op, T, "", #[], none⟩).run P w = .ok (.value v) w' ∧ (w' = w ∧ L' = L)
def PU (op:Op)(T:TypeId)(F:List (Nat × Value))(L:List AJ)(L':List AJ):Prop:=
 ∀ a w, Fr n a F → St w0 M w L → ∃ w', (execOp a.eval ⟨none, op, T, "", #[], none⟩).run P w = .ok .skip w' ∧ St w0 M w' L'
def PX (op:Op)(T:TypeId)(F:List (Nat × Value))(L:List AJ)(R:Value→List AJ→Prop):Prop:=
 ∀ a w, Fr n a F → St w0 M w L → ∃ v L' w', R v L' ∧ (execOp a.eval ⟨none, op, T, "", #[], none⟩).run P w = .ok (.value v) w' ∧ St w0 M w' L'
end

theorem Dp (ρ:Operand→Value)(d:Option Tmp)(op:Op)(T:TypeId)(pos:String)(Bl:Array Edge)(g:Option (Nat × Bool)) :
  execOp ρ ⟨d, op, T, pos, Bl, g⟩ = execOp ρ ⟨none, op, T, "", #[], none⟩ := by
 cases op<;>rfl

section
variable {P:Program} {n:Nat} {w0:World} {M:List Nat} {Q:Exit→Act→World→Prop} {F:List (Nat × Value)} {L L':List AJ} {ops:Array Oper} {rest:List Oper}

theorem Kj {d:Nat}{op:Op}{T:TypeId}{pos:String}{Bl:Array Edge}{v:Value}(hd:Nat.blt d n=true)(h:PS P n w0 M op T F L v L')
  (k:GL P n w0 M ops Q rest ((d,v) :: F) L'):GL P n w0 M ops Q (⟨some d,op,T,pos,Bl,none⟩ :: rest) F L:=by
 intro a w hF hS
 obtain⟨_,hr,rfl,rfl⟩:=h a w hF hS
 refine wpList_plain rfl fun K hK=>?_
 unfold Oper.wp
 rw [Dp,hr]
 exact hK _ _ (k _ _ (hF.put (by simpa [Nat.blt_eq] using hd) v) hS)
theorem EJ {op:Op}{T:TypeId}{pos:String}{Bl:Array Edge}(h:PU P n w0 M op T F L L')
  (k:GL P n w0 M ops Q rest F L'):GL P n w0 M ops Q (⟨none,op,T,pos,Bl,none⟩ :: rest) F L:=by
 intro a w hF hS
 obtain⟨w',hr,hS'⟩:=h a w hF hS
 refine wpList_plain rfl fun K hK=>?_
 unfold Oper.wp
 rw [Dp,hr]
 exact hK _ _ (k _ _ hF hS')
theorem E7 {d:Nat}{op:Op}{T:TypeId}{pos:String}{Bl:Array Edge}{R:Value→List AJ→Prop}(hd:Nat.blt d n=true)(h:PX P n w0 M op T F L R)
  (k:∀ v L',R v L'→GL P n w0 M ops Q rest ((d,v) :: F) L'):GL P n w0 M ops Q (⟨some d,op,T,pos,Bl,none⟩ :: rest) F L:=by
 intro a w hF hS
 obtain⟨v,L',w',hR,hr,hS'⟩:=h a w hF hS
 refine wpList_plain rfl fun K hK=>?_
 unfold Oper.wp
 rw [Dp,hr]
 exact hK _ _ (k v L' hR _ _ (hF.put (by simpa [Nat.blt_eq] using hd) v) hS')

/-! #### guards -/
theorem MA {l:List Oper}(t:Nat){b:Bool}(h:lk t F=some (.bool b))(ht:b=true→GL P n w0 M ops Q l ((t, .bool true) :: F) L)(hf:b=false→GL P n w0 M ops Q l ((t, .bool false) :: F) L):GL P n w0 M ops Q l F L:=by
 intro a w hF hS
 cases b with
 | true=>exact ht rfl a w (hF.sub (fun k v hk=>by
   unfold lk at hk
   by_cases e:k=t
   ·subst e;simp at hk;subst hk;exact h
   ·rw [show Nat.beq k t=false from Bool.eq_false_iff.2 fun h=>e (Nat.eq_of_beq_eq_true h)] at hk;exact hk)) hS
 | false=>exact hf rfl a w (hF.sub (fun k v hk=>by
   unfold lk at hk
   by_cases e:k=t
   ·subst e;simp at hk;subst hk;exact h
   ·rw [show Nat.beq k t=false from Bool.eq_false_iff.2 fun h=>e (Nat.eq_of_beq_eq_true h)] at hk;exact hk)) hS
theorem D0 {a:Act}(hF:Fr n a F){j t:Nat}(hj:(ops[j]?).bind (·.dst)=some t){b:Bool}(h:lk t F=some (.bool b)):yielded ops a.tmps j=some b:=by
 unfold yielded
 rw [hj]
 simp [hF.get t _ h]
theorem Od {d:Nat}{op:Op}{T:TypeId}{pos:String}{Bl:Array Edge}{v:Value}{j t:Nat}{b:Bool}(hj:(ops[j]?).bind (·.dst)=some t)(hb:lk t F=some (.bool b))(hd:Nat.blt d n=true)(h:PS P n w0 M op T F L v L')
  (k:GL P n w0 M ops Q rest ((d,v) :: F) L'):GL P n w0 M ops Q (⟨some d,op,T,pos,Bl,some (j,b)⟩ :: rest) F L:=by
 intro a w hF hS
 obtain⟨_,hr,rfl,rfl⟩:=h a w hF hS
 refine wpList_step fun K hK=>?_
 rw [if_pos (by simp [Region.wanted,D0 hF hj hb])]
 unfold Oper.wp
 rw [Dp,hr]
 exact hK _ _ (k _ _ (hF.put (by simpa [Nat.blt_eq] using hd) v) hS)
theorem Ki {d:Nat}{op:Op}{T:TypeId}{pos:String}{Bl:Array Edge}{j t:Nat}{b c:Bool}(hj:(ops[j]?).bind (·.dst)=some t)(hb:lk t F=some (.bool c))(hc:(c == b)=false)(hd:Nat.blt d n=true)
  (k:GL P n w0 M ops Q rest ((d,undef) :: F) L):GL P n w0 M ops Q (⟨some d,op,T,pos,Bl,some (j,b)⟩ :: rest) F L:=by
 intro a w hF hS
 refine wpList_step fun K hK=>?_
 rw [if_neg (by simp [Region.wanted,D0 hF hj hb];simpa using hc)]
 exact hK _ _ (k _ _ (hF.put (by simpa [Nat.blt_eq] using hd) undef) hS)
theorem GI {d:Nat}{op:Op}{T:TypeId}{pos:String}{Bl:Array Edge}{j t:Nat}{b:Bool}(hj:(ops[j]?).bind (·.dst)=some t)(hb:lk t F=some undef)(hd:Nat.blt d n=true)
  (k:GL P n w0 M ops Q rest ((d,undef) :: F) L):GL P n w0 M ops Q (⟨some d,op,T,pos,Bl,some (j,b)⟩ :: rest) F L:=by
 intro a w hF hS
 refine wpList_step fun K hK=>?_
 have hy:yielded ops a.tmps j=none:=by
  unfold yielded
  rw [hj]
  simp [hF.get t _ hb]
  rfl
 rw [if_neg (by simp [Region.wanted,hy])]
 exact hK _ _ (k _ _ (hF.put (by simpa [Nat.blt_eq] using hd) undef) hS)

/-! #### operations that leave the world alone -/
theorem Bj {op : Op} {T : TypeId} {v : Value} (h : ∀ a w, Fr n a F → (execOp a.eval ⟨none, op, T, "", #[], none⟩).run P w = .ok (.value v) w) : PS P n w0 M op T F L v L :=
 fun a w hF _=>⟨w,h a w hF,rfl,rfl⟩
theorem JQ {x:Operand}{T:TypeId}{v:Value}(h:ev F x=some v):PS P n w0 M (.move x) T F L v L:=Bj fun a w hF=>by simp [execOp,hF.ev h]
theorem Km {x:Operand}{T:TypeId}{v:Value}(h:ev F x=some v):PS P n w0 M (.assign x) T F L v L:=Bj fun a w hF=>by simp [execOp,hF.ev h]
theorem JR {c x y:Operand}{T:TypeId}{v:Value}(hc:ev F c=some (.bool true))(h:ev F x=some v):PS P n w0 M (.pick c x y) T F L v L:=Bj fun a w hF=>by simp [execOp,hF.ev h,hF.ev hc,asBool]
theorem IT {c x y:Operand}{T:TypeId}{v:Value}(hc:ev F c=some (.bool false))(h:ev F y=some v):PS P n w0 M (.pick c x y) T F L v L:=Bj fun a w hF=>by simp [execOp,hF.ev h,hF.ev hc,asBool]
theorem VN {x:Operand}{T:TypeId}{i:Nat}{vs:List Value}{v:Value}(hx:ev F x=some (.tuple vs.toArray))(h:vs[i]?=some v):PS P n w0 M (.extract x i) T F L v L:=Bj fun a w hF=>by
 simp [execOp,hF.ev hx,Instr.extract,h]
end
section
variable {P:Program} {n:Nat} {w0:World} {M:List Nat} {F:List (Nat × Value)} {L L':List AJ}
variable {x y:Operand} {T U V:TypeId} {k:IntKind} {a b:Int}
theorem ei (hx:ev F x=some (.int k a))(hy:ev F y=some (.int k b)):PS P n w0 M (.binOp .lss U x y V) T F L (.bool (decide (a < b))) L:=Bj fun e w hF=>by
 simp [execOp,hF.ev hx,hF.ev hy,eqGuard,binOp,Op.intCmp]
theorem eh (hx:ev F x=some (.int k a))(hy:ev F y=some (.int k b)):PS P n w0 M (.binOp .leq U x y V) T F L (.bool (decide (a≤b))) L:=Bj fun e w hF=>by
 simp [execOp,hF.ev hx,hF.ev hy,eqGuard,binOp,Op.intCmp]
theorem eZ (hx:ev F x=some (.int k a))(hy:ev F y=some (.int k b)):PS P n w0 M (.binOp .gtr U x y V) T F L (.bool (decide (b < a))) L:=Bj fun e w hF=>by
 simp [execOp,hF.ev hx,hF.ev hy,eqGuard,binOp,Op.intCmp]
theorem eY (hx:ev F x=some (.int k a))(hy:ev F y=some (.int k b)):PS P n w0 M (.binOp .geq U x y V) T F L (.bool (decide (b≤a))) L:=Bj fun e w hF=>by
 simp [execOp,hF.ev hx,hF.ev hy,eqGuard,binOp,Op.intCmp]
theorem eX (hx:ev F x=some (.int k a))(hy:ev F y=some (.int k b)):PS P n w0 M (.binOp .eql U x y V) T F L (.bool (decide (a=b))) L:=Bj fun e w hF=>by
 simp [execOp,hF.ev hx,hF.ev hy,eqGuard,binOp,Op.intCmp];rfl
theorem ek (hx:ev F x=some (.int k a))(hy:ev F y=some (.int k b)):PS P n w0 M (.binOp .neq U x y V) T F L (.bool (!decide (a=b))) L:=Bj fun e w hF=>by
 simp [execOp,hF.ev hx,hF.ev hy,eqGuard,binOp,Op.intCmp,bne];rfl
theorem ZC (hx:ev F x=some (.int k a))(hy:ev F y=some (.int k b)){c:Int}(hc:k.wrap (a+b)=c):PS P n w0 M (.binOp .add U x y V) T F L (.int k c) L:=Bj fun e w hF=>by
 simp [execOp,hF.ev hx,hF.ev hy,eqGuard,binOp,Op.intArith,hc]
theorem ZK (hx:ev F x=some (.int k a))(hy:ev F y=some (.int k b)){c:Int}(hc:k.wrap (a - b)=c):PS P n w0 M (.binOp .sub U x y V) T F L (.int k c) L:=Bj fun e w hF=>by
 simp [execOp,hF.ev hx,hF.ev hy,eqGuard,binOp,Op.intArith,hc]
theorem ZJ (hx:ev F x=some (.int k a))(hy:ev F y=some (.int k b)){c:Int}(hc:k.wrap (a * b)=c):PS P n w0 M (.binOp .mul U x y V) T F L (.int k c) L:=Bj fun e w hF=>by
 simp [execOp,hF.ev hx,hF.ev hy,eqGuard,binOp,Op.intArith,hc]
theorem ey (hx:ev F x=some (.int k a))(hy:ev F y=some (.int k b))(hb:b≠0):PS P n w0 M (.binOp .rem U x y V) T F L (.int k (a.tmod b)) L:=Bj fun e w hF=>by
 simp [execOp,hF.ev hx,hF.ev hy,eqGuard,binOp,Op.intDiv,hb]
theorem ew (hx:ev F x=some (.int k a))(hy:ev F y=some (.int k b))(hb:b≠0){c:Int}(hc:k.wrap (a.tdiv b)=c):PS P n w0 M (.binOp .quo U x y V) T F L (.int k c) L:=Bj fun e w hF=>by
 simp [execOp,hF.ev hx,hF.ev hy,eqGuard,binOp,Op.intDiv,hb,hc]
theorem en {p:Bool}(hx:ev F x=some (.bool p)):PS P n w0 M (.unOp .not U x) T F L (.bool (!p)) L:=Bj fun e w hF=>by
 simp [execOp,hF.ev hx,Op.unary]
theorem TI {k':IntKind}(hu:P.underlying V=some (.int k'))(hU:P.underlying U=some (.int k))(hx:ev F x=some (.int k a)){c:Int}(hc:k'.wrap a=c):PS P n w0 M (.convert U V x) T F L (.int k' c) L:=Bj fun e w hF=>by
 simp [execOp,hF.ev hx,convert,underlying,hu,hU,Conv.intToInt,hc]
theorem TB {p q:Bool}(hu:P.underlying U=some .bool)(hx:ev F x=some (.bool p))(hy:ev F y=some (.bool q)):PS P n w0 M (.binOp .eql U x y V) T F L (.bool (p == q)) L:=Bj fun e w hF=>by
 simp [execOp,hF.ev hx,hF.ev hy,eqGuard,run_eql_bool w U p q hu]
theorem TF {p q:Bool}(hu:P.underlying U=some .bool)(hx:ev F x=some (.bool p))(hy:ev F y=some (.bool q)):PS P n w0 M (.binOp .neq U x y V) T F L (.bool (p != q)) L:=Bj fun e w hF=>by
 simp [execOp,hF.ev hx,hF.ev hy,eqGuard,run_neq_bool w U p q hu];cases p<;>cases q<;>rfl
end
/-! #### strings -/
theorem toList_mk (l:List UInt8):(ByteArray.mk l.toArray).toList=l:=ByteArray.toList_mk l
theorem Wg (s t:List UInt8):(s == t)=decide (s=t):=by
 by_cases h:s=t<;>simp [h]
section
variable {P:Program} {n:Nat} {w0:World} {M:List Nat} {F:List (Nat × Value)} {L L':List AJ}
variable {x y:Operand} {T U V:TypeId} {s t:List UInt8}
theorem VL (hx:ev F x=some (Ag s))(hy:ev F y=some (Ag t)):PS P n w0 M (.binOp .eql U x y V) T F L (.bool (decide (s=t))) L:=Bj fun e w hF=>by
 simp [execOp,hF.ev hx,hF.ev hy,eqGuard,binOp,Op.stringOp,Wg]
theorem VS (hx:ev F x=some (Ag s))(hy:ev F y=some (Ag t)):PS P n w0 M (.binOp .neq U x y V) T F L (.bool (!decide (s=t))) L:=Bj fun e w hF=>by
 simp [execOp,hF.ev hx,hF.ev hy,eqGuard,binOp,Op.stringOp,Wg]
theorem Mn (l:List UInt8):(ByteArray.mk l.toArray).size=l.length:=rfl
theorem X2 (s t:List UInt8):(ByteArray.mk s.toArray)++(ByteArray.mk t.toArray)=ByteArray.mk (s++t).toArray:=by
 apply ByteArray.ext
 simp
theorem LU (hx:ev F x=some (Ag s))(hy:ev F y=some (Ag t))(hl:s.length+t.length≤9223372036854775807):PS P n w0 M (.binOp .add U x y V) T F L (Ag (s++t)) L:=Bj fun e w hF=>by
 have h:¬ ((((ByteArray.mk s.toArray).size+(ByteArray.mk t.toArray).size:Nat):Int) > IntKind.i64.max):=by
  have:IntKind.i64.max=9223372036854775807:=by decide
  rw [Mn,Mn,this]
  omega
 simp only [execOp,hF.ev hx,hF.ev hy,eqGuard,binOp,Op.stringOp]
 rw [if_neg h,X2]
 simp
theorem VP {ts:Array TypeId}(ht:ts[0]?=some U)(hu:P.underlying U=some .string)(hx:ev F x=some (Ag s)):PS P n w0 M (.call ⟨.builtin .len,#[x],ts⟩) T F L (.int .i64 s.length) L:=Bj fun e w hF=>by
 simp [execOp,resolve,invoke,builtin,Builtin.len_,ht,hF.ev hx,underlying,hu,goInt]
 exact congrArg Int.ofNat (Mn s)
theorem JP {ts:Array TypeId}{E:TypeId}{p:Option Addr}{l c:Nat}(ht:ts[0]?=some U)(hu:P.underlying U=some (.slice E))(hx:ev F x=some (.slice p l c)):PS P n w0 M (.call ⟨.builtin .len,#[x],ts⟩) T F L (.int .i64 l) L:=Bj fun e w hF=>by
 simp [execOp,resolve,invoke,builtin,Builtin.len_,ht,hF.ev hx,underlying,hu,goInt]
theorem getElem?_mk (s:List UInt8)(i:Nat)(h:i < s.length):(ByteArray.mk s.toArray)[i]?=some (s.getD i 0):=by
 rw [getElem?_pos _ _ (by exact h)]
 simp [ByteArray.getElem_eq_getElem_data,List.getD,h]
theorem Ru {k:IntKind}{i:Int}(hu:P.underlying U=some .string)(hx:ev F x=some (Ag s))(hy:ev F y=some (.int k i))(h0:0≤i)(h1:i < s.length):PS P n w0 M (.index U x y) T F L (.int .u8 (s.getD i.toNat 0).toNat) L:=Bj fun e w hF=>by
 simp only [execOp,Instr.index,hF.ev hx,hF.ev hy,asIntOf,underlying]
 simp [hu,h0,getElem?_mk s i.toNat (by omega)]
end
end Go.Ing
/- Engine, part 3: memory, calls, a function's body. -/
namespace Go.Ing
open Go

def Cw (l:List Value)(o:Nat)(m:List Value):List Value:=l.take o++m++l.drop (o+m.length)
theorem EA {l:List Value}{o:Nat}{m:List Value}(h:o+m.length≤l.length):(Cw l o m).length=l.length:=by
 simp [Cw];omega
theorem L3 (l:List Value)(o:Nat):Cw l o []=l:=by simp [Cw]
theorem DY {l:List Value}{o:Nat}{m:List Value}(h:o+m.length≤l.length)(i:Nat) :
  (Cw l o m)[i]?=if i < o then l[i]? else if i < o+m.length then m[i - o]? else l[i]?:=by
 simp only [Cw,List.getElem?_append,List.length_take,List.getElem?_take,List.getElem?_drop,List.length_append]
 rw [Nat.min_eq_left (by omega)]
 by_cases h1:i < o
 ·rw [if_pos (by omega),if_pos h1,if_pos h1,if_pos h1]
 ·by_cases h2:i < o+m.length
  ·rw [if_pos h2,if_neg h1,if_neg h1,if_pos h2]
  ·rw [if_neg h2,if_neg h1,if_neg h2]
   congr 1;omega
theorem Ka {l:List Value}{o:Nat}{v:Value}{m:List Value}(h:o+(m.length+1)≤l.length):Cw l o (v :: m)=Cw (l.set o v) (o+1) m:=by
 apply List.ext_getElem?
 intro i
 rw [DY (by simpa using h),DY (by simp;omega),List.length_cons]
 simp only [List.getElem?_set]
 by_cases h1:i < o
 ·rw [if_pos h1,if_pos (by omega),if_neg (by omega)]
 ·by_cases h2:i=o
  ·subst h2
   rw [if_neg (by omega),if_pos (by omega),if_pos (by omega),if_pos rfl,if_pos (by omega)]
   simp
  ·by_cases h3:i < o+(m.length+1)
   ·rw [if_neg h1,if_pos h3,if_neg (by omega),if_pos (by omega),show i - o=(i - (o+1))+1 by omega,List.getElem?_cons_succ]
   ·rw [if_neg h1,if_neg h3,if_neg (by omega),if_neg (by omega),if_neg (by omega)]
theorem Qj {l m:List Value}{o1 o2 sz:Nat}(h1:o1+sz≤l.length)(h2:o2+m.length≤sz):Cw l o1 (Cw ((l.drop o1).take sz) o2 m)=Cw l (o1+o2) m:=by
 have hl:((l.drop o1).take sz).length=sz:=by simp;omega
 have hs:(Cw ((l.drop o1).take sz) o2 m).length=sz:=by rw [EA (by omega),hl]
 apply List.ext_getElem?
 intro i
 rw [DY (l:=l) (o:=o1) (by omega),DY (l:=l) (o:=o1+o2) (by omega),hs]
 by_cases a1:i < o1
 ·rw [if_pos a1,if_pos (by omega)]
 ·rw [if_neg a1]
  by_cases a2:i < o1+sz
  ·rw [if_pos a2,DY (by omega)]
   simp only [List.getElem?_take,List.getElem?_drop]
   rw [show o1+(i - o1)=i by omega,show i - o1 - o2=i - (o1+o2) by omega]
   by_cases a3:i < o1+o2
   ·rw [if_pos (by omega),if_pos a3,if_pos (by omega)]
   ·rw [if_neg (by omega),if_neg a3]
    by_cases a4:i < o1+o2+m.length
    ·rw [if_pos (by omega),if_pos a4]
    ·rw [if_neg (by omega),if_neg a4,if_pos (by omega)]
  ·rw [if_neg a2,if_neg (by omega),if_neg (by omega)]

theorem EC (b o k:Nat):(⟨b,o,none⟩:Addr).add k=⟨b,o+k,none⟩:=by
 unfold Addr.add;split
 ·rename_i h;subst h;rfl
 ·rfl

theorem GK {w:World}{b i:Nat}{T:TypeId}{cs:List Value}{fz:Nat × Nat}(h:w.heap[b]?=some (.cells cs.toArray T fz)):w.cell? ⟨b,i,none⟩=cs[i]?:=by
 simp [World.cell?,h]
theorem Xk {w:World}{b i:Nat}{T:TypeId}{cs:List Value}(h:w.heap[b]?=some (.cells cs.toArray T)):w.frozen? ⟨b,i,none⟩=false:=by
 simp [World.frozen?,h]

theorem Ug {P:Program}{w:World}{a:Addr}{v:Value}(h:w.cell? a=some v):(load a).run P w = .ok v w:=by
 simp [h]

theorem I0 {P:Program}{w:World}{b o:Nat}{T:TypeId}{cs:List Value}{fz:Nat × Nat}(h:w.heap[b]?=some (.cells cs.toArray T fz)) :
  ∀(k i:Nat) (acc:Array Value),o+i+k≤cs.length→(loadCellsFrom ⟨b,o,none⟩ i k acc).run P w = .ok (acc++((cs.drop (o+i)).take k).toArray) w
 | 0,i,acc,_=>by simp [loadCellsFrom]
 | k+1,i,acc,hk=>by
  have hc:w.cell? ((⟨b,o,none⟩:Addr).add i)=some cs[o+i]:=by rw [EC,GK h];exact List.getElem?_eq_getElem (by omega)
  simp only [loadCellsFrom,Sem.run_bind,Ug hc,Result.andThen_ok]
  rw [I0 h k (i+1) _ (by omega)]
  congr 1
  apply Array.ext'
  rw [List.drop_eq_getElem_cons (show o+i < cs.length by omega)]
  simp [Nat.add_assoc]
theorem Eh {P:Program}{w:World}{b o k:Nat}{T:TypeId}{cs:List Value}{fz:Nat × Nat}(h:w.heap[b]?=some (.cells cs.toArray T fz))(hk:o+k≤cs.length) :
  (loadCells ⟨b,o,none⟩ k).run P w = .ok ((cs.drop o).take k).toArray w:=by
 have:=I0 (P:=P) (o:=o) h k 0 #[] (by omega)
 simpa [loadCells] using this

theorem WE {w:World}{b i:Nat}{T:TypeId}{cs:List Value}(h:w.heap[b]?=some (.cells cs.toArray T))(v:Value) :
  (w.setCell ⟨b,i,none⟩ v).heap=w.heap.setIfInBounds b (.cells (cs.set i v).toArray T):=by
 apply Array.ext'
 apply List.ext_getElem?
 intro j
 simp only [World.setCell,Array.getElem?_toList,Array.getElem?_modify,Array.getElem?_setIfInBounds]
 by_cases e:b=j
 ·subst e
  have hlt:b < w.heap.size:=by
   rcases Nat.lt_or_ge b w.heap.size with h' | h'
   ·exact h'
   ·rw [Array.getElem?_eq_none h'] at h;cases h
  rw [h]
  simp [hlt]
 ·simp [e]

theorem Ii {P:Program}{b o:Nat}{T:TypeId}:∀(m:List Value) (w:World) (cs:List Value) (i:Nat),w.heap[b]?=some (.cells cs.toArray T)→(∀ v∈m,v.oneCell'=true)→o+i+m.length≤cs.length →
  ∃ w',(storeCells ⟨b,o,none⟩ m i).run P w = .ok () w'∧w'.heap[b]?=some (.cells (Cw cs (o+i) m).toArray T)∧(∀ k,k≠b→w'.heap[k]?=w.heap[k]?)∧w'.heap.size=w.heap.size∧w'.os=w.os∧w'.tape=w.tape∧w'.output=w.output
 | [],w,cs,i,h,_,_=>⟨w,by simp [storeCells],by simpa [L3] using h,fun _ _=>rfl,rfl,rfl,rfl,rfl⟩
 | v :: m,w,cs,i,h,h1,hl=>by
  simp only [List.length_cons] at hl
  have hc:w.cell? ((⟨b,o,none⟩:Addr).add i)=some cs[o+i]:=by rw [EC,GK h];exact List.getElem?_eq_getElem (by omega)
  have hf:w.frozen? ((⟨b,o,none⟩:Addr).add i)=false:=by rw [EC];exact Xk h
  have hset:=WE (i:=o+i) h v
  have hb:b < w.heap.size:=by
   rcases Nat.lt_or_ge b w.heap.size with h' | h'
   ·exact h'
   ·rw [Array.getElem?_eq_none h'] at h;cases h
  have h2:(w.setCell ⟨b,o+i,none⟩ v).heap[b]?=some (.cells (cs.set (o+i) v).toArray T):=by rw [hset];simp [hb]
  obtain⟨w',e1,e2,e3,e4,e5,e6,e7⟩:=Ii (P:=P) (o:=o) m _ _ (i+1) h2 (fun u hu=>h1 u (by simp [hu])) (by simp;omega)
  refine⟨w',?_,?_,?_,?_,e5,e6,e7⟩
  ·simp only [storeCells,Sem.run_bind]
   rw [run_store _ _ _ _ _ (h1 v (by simp)),hc]
   simp only [hf]
   rw [EC]
   simpa using e1
  ·rw [e2,Ka (by omega)];rfl
  ·intro k hk
   rw [e3 k hk,hset,Array.getElem?_setIfInBounds_ne (fun h=>hk h.symm)]
  ·rw [e4,hset];simp

/-! #### types -/
def R0 (P:Program)(T:TypeId):Prop:=∀ w,(isAgg T).run P w = .ok false w
def S3 (P:Program)(T sz:Nat):Prop:=(∀ w,(isAgg T).run P w = .ok true w)∧∀ w,(sizeOf T).run P w = .ok sz w
def Sz (P:Program)(T sz:Nat):Prop:=∀ w,(sizeOf T).run P w = .ok sz w
def FA (P:Program)(T f off:Nat):Prop:=∀ b o w,(Instr.fieldAt T (.pointer (some ⟨b,o,none⟩)) f).run P w = .ok (.pointer (some ⟨b,o+off,none⟩)) w
def IA (P:Program)(T len sz:Nat):Prop:=∀ b o k i w,0≤i→i < (len:Int)→(Instr.indexAt T (.pointer (some ⟨b,o,none⟩)) (.int k i)).run P w = .ok (.pointer (some ⟨b,o+i.toNat * sz,none⟩)) w
def IS (P:Program)(T sz:Nat):Prop:=∀(b o l c:Nat) (k:IntKind) (i:Int) (w:World),0≤i→i < (l:Int)→(Instr.indexAt T (.slice (some ⟨b,o,none⟩) l c) (.int k i)).run P w = .ok (.pointer (some ⟨b,o+i.toNat * sz,none⟩)) w
def ZV (P:Program)(T:Nat)(v:Value):Prop:=∀ w,(zeroValue T).run P w = .ok v w

section
variable {P:Program}
theorem Fv {T sz:Nat}(h:(P.info? T).map (·.size)=some sz):Sz P T sz:=fun w=>by
 cases hi:P.info? T with
 | none=>rw [hi] at h;cases h
 | some i=>rw [hi] at h;simp at h;simp [sizeOf,typeInfo,hi,h]
theorem Nb {T:Nat}{v:Value}(h:(P.info? T).map (·.zero)=some (some v)):ZV P T v:=fun w=>by
 cases hi:P.info? T with
 | none=>rw [hi] at h;cases h
 | some i=>rw [hi] at h;simp at h;simp [zeroValue,typeInfo,hi,h]
theorem df {T f z off E:Nat}{fs:Array Field}(hu:P.underlying T=some (.struct fs))(hf:(fs[f]?).map (fun fd=>(fd.offset,fd.type))=some (off,E))(hz:Sz P E (z+1)):FA P T f off:=fun b o w=>by
 cases h:fs[f]? with
 | none=>rw [h] at hf;cases hf
 | some fd=>
  rw [h] at hf;simp at hf
  obtain⟨rfl,rfl⟩:=hf
  simp [Instr.fieldAt,underlying,hu,h,Instr.sureAddr,fieldPlace,hz w,EC]
theorem gf {T len E sz:Nat}(hu:P.underlying T=some (.array len E))(hz:Sz P E sz):IA P T len sz:=fun b o k i w h0 h1=>by
 simp [Instr.indexAt,asIntOf,underlying,hu,Instr.sureAddr,h0,h1,hz w,EC]
theorem gg {T E sz:Nat}(hu:P.underlying T=some (.slice E))(hz:Sz P E sz):IS P T sz:=fun b o l c k i w h0 h1=>by
 simp [Instr.indexAt,asIntOf,underlying,hu,h0,h1,hz w,EC]
theorem M3 {T:Nat}{d:TypeDesc}(hu:P.underlying T=some d)(hd:(match d with | .struct _ | .array _ _=>true | _=>false)=false):R0 P T:=fun w=>by
 cases d<;>simp [isAgg,underlying,hu] at hd ⊢
theorem IV {T sz:Nat}{d:TypeDesc}(hu:P.underlying T=some d)(hd:(match d with | .struct _ | .array _ _=>true | _=>false)=true)(hz:Sz P T sz):S3 P T sz:=by
 refine⟨fun w=>?_,hz⟩
 cases d<;>simp [isAgg,underlying,hu] at hd ⊢
end

class Ac {α:Type} {β:outParam Type} (ea:α→List Value) (eb:outParam (β→List Value)) (o:Nat) (sz:outParam Nat) (g:outParam (α→β)) (s:outParam (α→β→α)):Prop where
 get:∀ x,((ea x).drop o).take sz=eb (g x)
 len:∀ y,(eb y).length=sz
 Yn:∀ x,o+sz≤(ea x).length
 set:∀ x y,Cw (ea x) o (eb y)=ea (s x y)
 one:∀ y,∀ v∈eb y,v.oneCell'=true

theorem Ac.id {α:Type}{ea:α→List Value}{sz:Nat}(hl:∀ x,(ea x).length=sz)(ho:∀ y,∀ v∈ea y,v.oneCell'=true):Ac ea ea 0 sz (fun x=>x) (fun _ y=>y):=
 ⟨fun x=>by simp [← hl x],hl,fun x=>by simp [hl x],fun x y=>by simp [Cw,hl],ho⟩

theorem Ac.comp {α β γ:Type}{ea:α→List Value}{eb:β→List Value}{ec:γ→List Value}{o1 sz1 o2 sz2:Nat}{g1:α→β}{s1:α→β→α}{g2:β→γ}{s2:β→γ→β}
  (h1:Ac ea eb o1 sz1 g1 s1) (h2:Ac eb ec o2 sz2 g2 s2):Ac ea ec (o1+o2) sz2 (fun x=>g2 (g1 x)) (fun x y=>s1 x (s2 (g1 x) y)):=by
 have hb:∀ x,o2+sz2≤sz1:=fun x=>by have:=h2.Yn (g1 x);rw [h1.len] at this;exact this
 refine⟨fun x=>?_,h2.len,fun x=>by have:=h1.Yn x;have:=hb x;omega,fun x y=>?_,h2.one⟩
 ·rw [← h2.get (g1 x),← h1.get x,List.drop_take,List.take_take,List.drop_drop,Nat.min_eq_left (by have:=hb x;omega)]
 ·rw [← h1.set x,← h2.set]
  rw [← h1.get x]
  exact(Qj (h1.Yn x) (by rw [h2.len];exact hb x)).symm

section
variable {P:Program} {n:Nat} {w0:World} {M:List Nat} {Q:Exit→Act→World→Prop} {F:List (Nat × Value)} {L L':List AJ} {ops:Array Oper} {rest:List Oper}

theorem JO {T U f off b o:Nat}{x:Operand}(hf:FA P T f off)(hx:ev F x=some (.pointer (some ⟨b,o,none⟩))):PS P n w0 M (.fieldAddr T x f) U F L (.pointer (some ⟨b,o+off,none⟩)) L:=
 Bj fun a w hF=>by simp [execOp,hF.ev hx,hf b o w]
theorem Rt {T U len sz b o:Nat}{k:IntKind}{i:Int}{x y:Operand}(hf:IA P T len sz)(hx:ev F x=some (.pointer (some ⟨b,o,none⟩)))(hy:ev F y=some (.int k i))(h0:0≤i)(h1:i < (len:Int)):PS P n w0 M (.indexAddr T x y) U F L (.pointer (some ⟨b,o+i.toNat * sz,none⟩)) L:=
 Bj fun a w hF=>by simp [execOp,hF.ev hx,hF.ev hy,hf b o k i w h0 h1]
theorem MD {α β:Type}{ea:α→List Value}{eb:β→List Value}{o sz:Nat}{g:α→β}{s:α→β→α}{T U V b off:Nat}{x:Operand}{X:α}{v:Value}
  (hx:ev F x=some (.pointer (some ⟨b,off,none⟩))) (hT:R0 P T) (hL:AJ.box b V (ea X)∈L) (hl:Ac ea eb o sz g s) (ho:off=o) (hv:eb (g X) = [v]):PS P n w0 M (.load T x) U F L v L:=by
 intro a w hF hS
 have hb:w.heap[b]?=some (.cells (ea X).toArray V):=hS.ok _ hL
 have hsz:sz=1:=by rw [← hl.len (g X),hv];rfl
 have hc:w.cell? ⟨b,off,none⟩=some v:=by
  rw [GK hb,ho]
  have h:=hl.get X
  have hbd:=hl.Yn X
  rw [hv,hsz] at h
  rw [hsz] at hbd
  rw [List.drop_eq_getElem_cons (by omega),List.take_succ_cons,List.take_zero] at h
  rw [List.getElem?_eq_getElem (by omega),List.head_eq_of_cons_eq h]
 refine⟨w,?_,rfl,rfl⟩
 simp [execOp,hF.ev hx,Instr.loadAt,Instr.sureAddr,loadVar,hT w,hc]
theorem ZI {α β:Type}{ea:α→List Value}{eb:β→List Value}{o sz:Nat}{g:α→β}{s:α→β→α}{T U V b off:Nat}{x:Operand}{X:α}
  (hx:ev F x=some (.pointer (some ⟨b,off,none⟩))) (hT:S3 P T sz) (hL:AJ.box b V (ea X)∈L) (hl:Ac ea eb o sz g s) (ho:off=o):PS P n w0 M (.load T x) U F L (.agg (eb (g X)).toArray) L:=by
 intro a w hF hS
 have hb:w.heap[b]?=some (.cells (ea X).toArray V):=hS.ok _ hL
 refine⟨w,?_,rfl,rfl⟩
 subst ho
 simp only [execOp,hF.ev hx,Instr.loadAt,Instr.sureAddr,loadVar]
 simp [hT.1 w,hT.2 w,Eh hb (hl.Yn X),hl.get X]

theorem TK {α β:Type}{ea:α→List Value}{eb:β→List Value}{o sz:Nat}{g:α→β}{s:α→β→α}{T U V b off:Nat}{x y:Operand}{X:α}{Y:β}{v:Value}
  (hl:Ac ea eb o sz g s) (hx:ev F x=some (.pointer (some ⟨b,off,none⟩))) (hy:ev F y=some v) (hv:v.cells=(eb Y).toArray) (hT:Sz P T sz) (ho:off=o) (hL:Ip L (AJ.box b V (ea X)) (AJ.box b V (ea (s X Y))) L'):PU P n w0 M (.store T x y) U F L L':=by
 intro a w hF hS
 have hb:w.heap[b]?=some (.cells (ea X).toArray V):=hS.ok _ hL.mem
 subst ho
 obtain⟨w',e1,e2,e3,e4,e5,e6,e7⟩:=Ii (P:=P) (o:=off) (eb Y) w (ea X) 0 hb (hl.one Y) (by have:=hl.Yn X;rw [hl.len];omega)
 refine⟨w',?_,hS.Dy hL e5 e6 e7 (by omega) (fun k _ hk=>e3 k (by simpa [AJ.box] using hk)) ?_ ?_⟩
 ·simp only [execOp,hF.ev hx,hF.ev hy,Instr.storeAt,Instr.sureAddr,storeVar,hv]
  simp [hT w,hl.len,e1]
 ·have:=hl.set X Y
  show w'.heap[b]?=_
  rw [e2,Nat.add_zero,this]
 ·intro k hk
  simp [AJ.box] at hk
  subst hk
  refine⟨?_, .inl (by simp [AJ.box])⟩
  rcases Nat.lt_or_ge k w'.heap.size with h | h
  ·exact h
  ·rw [Array.getElem?_eq_none h] at e2;cases e2

theorem fC {T U:Nat}{x:Operand}{v:Value}{cs:List Value}(hx:ev F x=some v)(hv:v.cells=cs.toArray):PX P n w0 M (.box T x) U F L (fun v L'=>∃ b,v = .pointer (some ⟨b,0,none⟩)∧L'=AJ.box b T cs :: L):=by
 intro a w hF hS
 refine⟨_,_,w.alloc (.cells cs.toArray T),⟨w.heap.size,rfl,rfl⟩,?_,hS.alloc T cs⟩
 simp [execOp,hF.ev hx,Instr.box,newVar,newRow,hv]
theorem ZO {T U:Nat}{v:Value}{cs:List Value}(hz:ZV P T v)(hv:v.cells=cs.toArray):PX P n w0 M (.alloc T) U F L (fun v L'=>∃ b,v = .pointer (some ⟨b,0,none⟩)∧L'=AJ.box b T cs :: L):=by
 intro a w hF hS
 refine⟨_,_,w.alloc (.cells cs.toArray T),⟨w.heap.size,rfl,rfl⟩,?_,hS.alloc T cs⟩
 simp [execOp,Instr.alloc,hz w,newVar,newRow,hv]
theorem eJ {d T U:Nat}{x:Operand}{pos:String}{Bl:Array Edge}{v:Value}{cs:List Value}(hd:Nat.blt d n=true)(hx:ev F x=some v)(hv:v.cells=cs.toArray)
  (k:∀ b,GL P n w0 M ops Q rest ((d, .pointer (some ⟨b,0,none⟩)) :: F) (AJ.box b T cs :: L)):GL P n w0 M ops Q (⟨some d, .box T x,U,pos,Bl,none⟩ :: rest) F L:=
 E7 hd (fC hx hv) fun _ _ ⟨b,hv,hL⟩=>by subst hv;subst hL;exact k b
theorem S6 {d T U:Nat}{pos:String}{Bl:Array Edge}{v:Value}{cs:List Value}(hd:Nat.blt d n=true)(hz:ZV P T v)(hv:v.cells=cs.toArray)
  (k:∀ b,GL P n w0 M ops Q rest ((d, .pointer (some ⟨b,0,none⟩)) :: F) (AJ.box b T cs :: L)):GL P n w0 M ops Q (⟨some d, .alloc T,U,pos,Bl,none⟩ :: rest) F L:=
 E7 hd (ZO hz hv) fun _ _ ⟨b,hv,hL⟩=>by subst hv;subst hL;exact k b
end

/-! #### calls -/
def Ch (P:Program)(f:FuncId)(args:Array Value)(w:World)(R:Value→World→Prop):Prop:=Calls P f args w fun e w'=>∃ v,e = .returned v∧R v w'
theorem Ch.mono {P:Program}{f:FuncId}{args:Array Value}{w:World}{R R':Value→World→Prop}(h:Ch P f args w R)(hr:∀ v w',R v w'→R' v w'):Ch P f args w R':=
 Calls.mono h fun _ _ ⟨v,he,hR⟩=>⟨v,he,hr _ _ hR⟩
structure BF (w w':World):Prop where
 os:w'.os=w.os
 tape:w'.tape=w.tape
 output:w'.output=w.output
 size:w.heap.size≤w'.heap.size
 Il:∀ k,k < w.heap.size→w'.heap[k]?=w.heap[k]?
theorem BF.refl (w:World):BF w w:=⟨rfl,rfl,rfl,Nat.le_refl _,fun _ _=>rfl⟩
theorem BF.trans {a b c:World}(h:BF a b)(k:BF b c):BF a c:=
 ⟨k.os.trans h.os,k.tape.trans h.tape,k.output.trans h.output,Nat.le_trans h.size k.size,fun i hi=>(k.Il i (Nat.lt_of_lt_of_le hi h.size)).trans (h.Il i hi)⟩
theorem St.Ll {w0 w w':World}{M:List Nat}{L:List AJ}(h:St w0 M w L)(k:BF w w'):St w0 M w' L:=by
 refine⟨k.os.trans h.os,k.tape.trans h.tape,k.output.trans h.output,Nat.le_trans h.size k.size,fun i hi hM=>(k.Il i (Nat.lt_of_lt_of_le hi h.size)).trans (h.Il i hi hM),fun r hr=>r.loc w w' (fun b hb=>k.Il b (h.Bn r hr b hb).1) (h.ok r hr),fun r hr b hb=>?_,h.Ir⟩
 have:=h.Bn r hr b hb
 exact⟨Nat.lt_of_lt_of_le this.1 k.size,this.2⟩
theorem St.bJ {w0 w:World}{L:List AJ}(h:St w0 [] w L):BF w0 w:=⟨h.os,h.tape,h.output,h.size,fun k hk=>h.Il k hk (by simp)⟩
theorem BF.below {w w':World}(h:BF w w'):RowKit.Below w.heap.size w w':=⟨h.os,h.tape,h.output,h.size,h.Il⟩

def CF (P:Program)(f:FuncId):Prop:=∀ args w,(callFunc f args).run P w = .ok (.enter f args) w
inductive OD (F:List (Nat × Value)):List Operand→List Value→Prop where
 | nil:OD F [] []
 | cons {x:Operand} {v:Value} {xs:List Operand} {vs:List Value} (h:ev F x=some v) (hs:OD F xs vs):OD F (x :: xs) (v :: vs)
theorem OD.map {n:Nat}{a:Act}{F:List (Nat × Value)}(hF:Fr n a F){xs:List Operand}{vs:List Value}(h:OD F xs vs):xs.map a.eval=vs:=by
 induction h with
 | nil=>rfl
 | cons h _ ih=>simp [hF.ev h,ih]

section
variable {P:Program} {n:Nat} {w0:World} {M:List Nat} {Q:Exit→Act→World→Prop} {F:List (Nat × Value)} {L L':List AJ} {ops:Array Oper} {rest:List Oper}
theorem QA {f:FuncId}{args:List Operand}{ts:Array TypeId}{T:TypeId}{vs:List Value}(hc:CF P f){a:Act}(hF:Fr n a F)(ha:OD F args vs)(w:World)(d:Option Tmp)(pos:String)(Bl:Array Edge)(g:Option (Nat × Bool)) :
  (execOp a.eval ⟨d, .call ⟨.value (.func f),args.toArray,ts⟩,T,pos,Bl,g⟩).run P w = .ok (.enter f vs.toArray) w:=by
 have:=hc vs.toArray w
 simp [execOp,resolve,Deferred.ofValue,invoke,Act.eval,← OD.map hF ha] at this ⊢
 exact this
theorem bk {d:Nat}{f:FuncId}{args:List Operand}{ts:Array TypeId}{T:TypeId}{pos:String}{Bl:Array Edge}{vs:List Value}{R:World→Value→World→Prop}(hd:Nat.blt d n=true)(hc:CF P f)(ha:OD F args vs)
  (h:∀ w,St w0 M w L→Ch P f vs.toArray w (R w))
  (k:∀ w v w',St w0 M w L→R w v w'→∃ L',St w0 M w' L'∧GL P n w0 M ops Q rest ((d,v) :: F) L'):GL P n w0 M ops Q (⟨some d, .call ⟨.value (.func f),args.toArray,ts⟩,T,pos,Bl,none⟩ :: rest) F L:=by
 intro a w hF hS
 refine wpList_plain rfl fun K hK=>?_
 unfold Oper.wp
 rw [QA hc hF ha]
 show Calls _ _ _ _ _
 refine Calls.mono (h w hS) fun e w' he=>?_
 obtain⟨v,rfl,hR⟩:=he
 obtain⟨L',hS',hk⟩:=k w v w' hS hR
 exact hK _ _ (hk _ _ (hF.put (by simpa [Nat.blt_eq] using hd) v) hS')
/-! #### a body -/
def entry:Nat→List Value→List (Nat × Value)
 | _,[]=> []
 | i,v :: vs=>(i,v) :: entry (i+1) vs
theorem UM:∀(vs:List Value) (i k:Nat) (v:Value),lk k (entry i vs)=some v→i≤k∧vs[k - i]?=some v
 | [],i,k,v,h=>by simp [entry,lk] at h
 | u :: vs,i,k,v,h=>by
  simp only [entry,lk] at h
  by_cases e:k=i
  ·subst e;simp at h;subst h;simp
  ·rw [show Nat.beq k i=false from Bool.eq_false_iff.2 fun h=>e (Nat.eq_of_beq_eq_true h)] at h
   have:=UM vs (i+1) k v h
   refine⟨by omega,?_⟩
   rw [show k - i=(k - (i+1))+1 by omega]
   simpa using this.2
theorem AR {f:FuncId}{fn:Func}{c:Code}{args:List Value}{w:World}{R:Value→World→Prop}(M:List Nat)(L:List AJ)(hf:P.funcs[f]?=some fn)(hb:fn.body=some c)(hn:fn.ntmps=n)(hl:Nat.ble args.length n=true)(hS:St w M w L)
  (h:G P n w M c (bodyPost P fn fun e w'=>∃ v,e = .returned v∧R v w') (entry 0 args) L):Ch P f args.toArray w R:=by
 refine calls_of_wp hf hb (h _ _ ⟨?_,rfl,?_⟩ hS)
 ·have:=Nat.le_of_ble_eq_true hl
  simp [hn];omega
 ·intro k v hk
  obtain⟨_,h2⟩:=UM args 0 k v hk
  have:k < args.length:=by
   rcases Nat.lt_or_ge k args.length with h | h
   ·exact h
   ·rw [List.getElem?_eq_none (by simpa using h)] at h2;cases h2
  simp only [Nat.sub_zero] at h2
  rw [Array.getElem?_append_left (by simpa using this)]
  simpa using h2

inductive Rs (P:Program)(F:List (Nat × Value))(L:List AJ):List ResultVar→List Value→Prop where
 | nil:Rs P F L [] []
 | tmp {t:Tmp} {v:Value} {rs:List ResultVar} {vs:List Value} (h:lk t F=some v) (hs:Rs P F L rs vs):Rs P F L (.tmp t :: rs) (v :: vs)
 | cell {t:Tmp} {T V b:Nat} {cs:List Value} {v:Value} {rs:List ResultVar} {vs:List Value} (h:lk t F=some (.pointer (some ⟨b,0,none⟩))) (hL:AJ.box b V cs∈L) (hT:(S3 P T cs.length∧v = .agg cs.toArray)∨(R0 P T∧cs = [v])) (hs:Rs P F L rs vs):Rs P F L (.cell t T :: rs) (v :: vs)
def WQ (vs:List Value):Value:=match vs with | [v]=>v | vs=> .tuple vs.toArray
theorem Rs.run {fn:Func}{rs:List ResultVar}{vs:List Value}(hr:fn.results=rs.toArray)(h:Rs P F L rs vs){a:Act}{w:World}(hF:Fr n a F)(hS:St w0 M w L):(results fn a.tmps).run P w = .ok (WQ vs) w:=by
 let f:ResultVar→Sem Value:=fun | .tmp t=>pure (a.tmps.getD t undef) | .cell x t=>do loadVar t (← asAddr (a.tmps.getD x undef))
 have key:∀ rs vs,Rs P F L rs vs→(List.mapM f rs).run P w = .ok vs w:=by
  intro rs vs h
  induction h with
  | nil=>rfl
  | tmp h hs ih=>
   have hd:∀ t,(f (.tmp t)).run P w = .ok (a.tmps.getD t undef) w:=fun _=>rfl
   rw [List.mapM_cons,Sem.run_bind,hd]
   simp only [Result.andThen_ok,Sem.run_bind,ih,Sem.run_pure]
   simp [hF.get _ _ h]
  | cell h hL hT hs ih=>
   rename_i t T V b cs v rs vs
   have hb:w.heap[b]?=some (.cells cs.toArray V):=hS.ok _ hL
   have hd:(f (.cell t T)).run P w = .ok v w:=by
    show(do loadVar T (← asAddr (a.tmps.getD t undef)):Sem Value).run P w=_
    rw [show a.tmps.getD t undef = .pointer (some ⟨b,0,none⟩) by simp [hF.get _ _ h]]
    rcases hT with ⟨hT,rfl⟩ | ⟨hT,rfl⟩
    ·have:=Eh (P:=P) (o:=0) hb (Nat.le_of_eq (Nat.zero_add _))
     rw [List.drop_zero,List.take_length] at this
     simp [asAddr,loadVar,hT.1 w,hT.2 w,this]
    ·have:w.cell? ⟨b,0,none⟩=some v:=GK (i:=0) hb
     simp [asAddr,loadVar,hT w,this]
   rw [List.mapM_cons,Sem.run_bind,hd]
   simp only [Result.andThen_ok,Sem.run_bind,ih,Sem.run_pure]
 have:=key rs vs h
 have e:results fn a.tmps=(do let vs ← (List.toArray <$> List.mapM f rs);pure (if h:vs.size=1 then vs[0] else .tuple vs)):=by
  unfold results
  rw [hr,List.mapM_toArray]
  rfl
 rw [e,Sem.run_bind,Sem.run_map,this]
 simp only [Result.andThen_ok]
 cases vs with
 | nil=>rfl
 | cons v vs=>cases vs<;>rfl
theorem eO {fn:Func}{rs:List ResultVar}{vs:List Value}{R:Value→World→Prop}(hr:fn.results=rs.toArray)(h:Rs P F L rs vs)(hR:∀ w,St w0 M w L→R (WQ vs) w):GQ n w0 M (bodyPost P fn fun e w'=>∃ v,e = .returned v∧R v w') .ret F L:=
 fun _ w hF hS=>⟨hF.defers,WQ vs,h.run hr hF hS,WQ vs,rfl,hR w hS⟩
theorem Y0 {fn:Func}{rs:List ResultVar}{vs:List Value}{R:Value→World→Prop}(hr:fn.results=rs.toArray)(h:Rs P F L rs vs)(hR:∀ w,St w0 M w L→R (WQ vs) w):GQ n w0 M (bodyPost P fn fun e w'=>∃ v,e = .returned v∧R v w') .normal F L:=
 fun _ w hF hS=>⟨hF.defers,WQ vs,h.run hr hF hS,WQ vs,rfl,hR w hS⟩
end
end Go.Ing
/- Engine, part 4: parts of data in cells. -/
namespace Go.Ing
open Go

abbrev AL:=List UInt8
def AT (x:Int):List Value:= [.int .i64 x]
def B2 (x:Bool):List Value:= [.bool x]
def AX (x:AL):List Value:= [Ag x]
def fQ (x:Int):List Value:= [.int .u8 x]
structure Hd where
 a:Option Addr
 len:Nat
 cap:Nat
def Hd.val (h:Hd):Value:= .slice h.a h.len h.cap
def EE (h:Hd):List Value:= [h.val]
def Zk (p:Option Addr):List Value:= [.pointer p]

class Flat {α:Type} (e:α→List Value) (sz:outParam Nat):Prop where
 len:∀ y,(e y).length=sz
 one:∀ y,∀ v∈e y,v.oneCell'=true
instance Bm:Flat AT 1:=⟨fun _=>rfl,fun y v hv=>by simp [AT] at hv;subst hv;rfl⟩
instance Is:Flat B2 1:=⟨fun _=>rfl,fun y v hv=>by simp [B2] at hv;subst hv;rfl⟩
instance Cr:Flat AX 1:=⟨fun _=>rfl,fun y v hv=>by simp [AX] at hv;subst hv;rfl⟩
instance jM:Flat fQ 1:=⟨fun _=>rfl,fun y v hv=>by simp [fQ] at hv;subst hv;rfl⟩
instance jL:Flat Zk 1:=⟨fun _=>rfl,fun y v hv=>by simp [Zk] at hv;subst hv;rfl⟩
instance QT:Flat EE 1:=⟨fun _=>rfl,fun y v hv=>by simp [EE] at hv;subst hv;rfl⟩

theorem Ac.ER {α β:Type}{ea:α→List Value}{eb:β→List Value}{o sz:Nat}{g:α→β}{s:α→β→α}(fb:Flat eb sz)(pre post:α→List Value)
  (hp:∀ x,(pre x).length=o) (h1:∀ x,ea x=pre x++eb (g x)++post x) (h2:∀ x y,ea (s x y)=pre x++eb y++post x):Ac ea eb o sz g s:=by
 refine⟨fun x=>?_,fb.len,fun x=>?_,fun x y=>?_,fb.one⟩
 ·rw [h1,List.append_assoc,← hp x,List.drop_left,← fb.len (g x),List.take_left]
 ·rw [h1];simp [hp x,fb.len]
 ·rw [h2,h1]
  have:((pre x)++eb (g x)).length=o+(eb y).length:=by simp [hp x,fb.len]
  simp only [Cw]
  rw [← this,List.drop_left,List.append_assoc (pre x),← hp x,List.take_left,List.append_assoc]

/-! ### arrays -/
abbrev QR (α:Type)(n:Nat):=Vector α n
section
variable {α:Type} {n:Nat}
def _root_.Vector.at [Inhabited α](v:Vector α n)(i:Int):α:=v.toList.getD i.toNat default
def _root_.Vector.put (v:Vector α n)(i:Int)(x:α):Vector α n:=v.setIfInBounds i.toNat x
def BO (e:α→List Value)(v:Vector α n):List Value:=v.toList.flatMap e
theorem CW {e:α→List Value}{sz:Nat}(h:∀ y,(e y).length=sz):∀ l:List α,(l.flatMap e).length=l.length * sz
 | []=>by simp
 | x :: l=>by simp [CW h l,h];rw [Nat.add_mul];omega
theorem IY {e:α→List Value}{sz:Nat}(fe:Flat e sz):Flat (BO (n:=n) e) (n * sz):=
 ⟨fun y=>by simp [BO,CW fe.len],fun y v hv=>by
  simp only [BO,List.mem_flatMap] at hv
  obtain⟨x,_,hx⟩:=hv
  exact fe.one x v hx⟩
theorem IZ {e:α→List Value}(l:List α)(k:Nat)(hk:k < l.length):l.flatMap e=(l.take k).flatMap e++e l[k]++(l.drop (k+1)).flatMap e:=by
 have h1:l=l.take k++l[k] :: l.drop (k+1):=by rw [← List.drop_eq_getElem_cons hk,List.take_append_drop]
 have h2:l.flatMap e=(l.take k++l[k] :: l.drop (k+1)).flatMap e:=congrArg _ h1
 exact h2.trans (by rw [List.flatMap_append,List.flatMap_cons,List.append_assoc])
theorem Ac.arr [Inhabited α]{e:α→List Value}{sz:Nat}(fe:Flat e sz){i:Int}(_h0:0≤i)(h1:i < (n:Int)):Ac (BO (n:=n) e) e (i.toNat * sz) sz (fun v=>v.at i) (fun v y=>v.put i y):=by
 have hn:i.toNat < n:=by omega
 refine Ac.ER fe (fun v=>(v.toList.take i.toNat).flatMap e) (fun v=>(v.toList.drop (i.toNat+1)).flatMap e) (fun v=>?_) (fun v=>?_) (fun v y=>?_)
 ·rw [CW fe.len,List.length_take,Nat.min_eq_left (by simp;omega)]
 ·rw [BO,IZ v.toList i.toNat (by simpa using hn)]
  simp [Vector.at,List.getD,hn]
 ·have hl:i.toNat < (v.put i y).toList.length:=by simpa using hn
  rw [BO,IZ _ i.toNat hl]
  have e1:(v.put i y).toList=v.toList.set i.toNat y:=by simp [Vector.put]
  simp [e1,List.take_set_of_le,List.drop_set_of_lt]
end
end Go.Ing
/- The program's data, in Lean, and their parts. -/
namespace Go.Ing
open Go
structure AI where
 at_:Int
 verb:Int
 sub:AL
 us:QR Int 3
 Dl:QR Int 3
 Bw:Int
 deriving DecidableEq,Inhabited
def AI.enc (x:AI):List Value:=AT x.at_++AT x.verb++AX x.sub++BO AT x.us++BO AT x.Dl++AT x.Bw
instance AI.fl:Flat AI.enc 10:=⟨fun x=>by simp [AI.enc,(IY Bm).len,Bm.len,Cr.len],fun x v hv=>by
 simp only [AI.enc,List.mem_append] at hv
 rcases hv with ((((h | h) | h) | h) | h) | h
 ·exact Bm.one _ v h
 ·exact Bm.one _ v h
 ·exact Cr.one _ v h
 ·exact(IY Bm).one _ v h
 ·exact(IY Bm).one _ v h
 ·exact Bm.one _ v h⟩
instance AI.l0:Ac AI.enc (AT) 0 1 (fun x=>x.at_) (fun x y=>{ x with at_:=y }):=
 Ac.ER Bm (fun _=> []) (fun x=>AT x.verb++AX x.sub++BO AT x.us++BO AT x.Dl++AT x.Bw) (fun _=>rfl) (fun x=>by simp [AI.enc]) (fun x y=>by simp [AI.enc])
instance AI.l1:Ac AI.enc (AT) 1 1 (fun x=>x.verb) (fun x y=>{ x with verb:=y }):=
 Ac.ER Bm (fun x=>AT x.at_) (fun x=>AX x.sub++BO AT x.us++BO AT x.Dl++AT x.Bw) (fun x=>by simp [Bm.len]) (fun x=>by simp [AI.enc]) (fun x y=>by simp [AI.enc])
instance AI.l2:Ac AI.enc (AX) 2 1 (fun x=>x.sub) (fun x y=>{ x with sub:=y }):=
 Ac.ER Cr (fun x=>AT x.at_++AT x.verb) (fun x=>BO AT x.us++BO AT x.Dl++AT x.Bw) (fun x=>by simp [Bm.len]) (fun x=>by simp [AI.enc]) (fun x y=>by simp [AI.enc])
instance AI.l3:Ac AI.enc (BO AT) 3 3 (fun x=>x.us) (fun x y=>{ x with us:=y }):=
 Ac.ER (IY Bm) (fun x=>AT x.at_++AT x.verb++AX x.sub) (fun x=>BO AT x.Dl++AT x.Bw) (fun x=>by simp [Bm.len,Cr.len]) (fun x=>by simp [AI.enc]) (fun x y=>by simp [AI.enc])
instance AI.l4:Ac AI.enc (BO AT) 6 3 (fun x=>x.Dl) (fun x y=>{ x with Dl:=y }):=
 Ac.ER (IY Bm) (fun x=>AT x.at_++AT x.verb++AX x.sub++BO AT x.us) (fun x=>AT x.Bw) (fun x=>by simp [(IY Bm).len,Bm.len,Cr.len]) (fun x=>by simp [AI.enc]) (fun x y=>by simp [AI.enc])
instance AI.l5:Ac AI.enc (AT) 9 1 (fun x=>x.Bw) (fun x y=>{ x with Bw:=y }):=
 Ac.ER Bm (fun x=>AT x.at_++AT x.verb++AX x.sub++BO AT x.us++BO AT x.Dl) (fun _=> []) (fun x=>by simp [(IY Bm).len,Bm.len,Cr.len]) (fun x=>by simp [AI.enc]) (fun x y=>by simp [AI.enc])
structure BN where
 now:AL
 long:Bool
 ret:Bool
 queue:Hd
def BN.enc (x:BN):List Value:=AX x.now++B2 x.long++B2 x.ret++EE x.queue
instance BN.fl:Flat BN.enc 4:=⟨fun x=>by simp [BN.enc,Is.len,QT.len,Cr.len],fun x v hv=>by
 simp only [BN.enc,List.mem_append] at hv
 rcases hv with ((h | h) | h) | h
 ·exact Cr.one _ v h
 ·exact Is.one _ v h
 ·exact Is.one _ v h
 ·exact QT.one _ v h⟩
instance BN.l0:Ac BN.enc (AX) 0 1 (fun x=>x.now) (fun x y=>{ x with now:=y }):=
 Ac.ER Cr (fun _=> []) (fun x=>B2 x.long++B2 x.ret++EE x.queue) (fun _=>rfl) (fun x=>by simp [BN.enc]) (fun x y=>by simp [BN.enc])
instance BN.l1:Ac BN.enc (B2) 1 1 (fun x=>x.long) (fun x y=>{ x with long:=y }):=
 Ac.ER Is (fun x=>AX x.now) (fun x=>B2 x.ret++EE x.queue) (fun x=>by simp [Cr.len]) (fun x=>by simp [BN.enc]) (fun x y=>by simp [BN.enc])
instance BN.l2:Ac BN.enc (B2) 2 1 (fun x=>x.ret) (fun x y=>{ x with ret:=y }):=
 Ac.ER Is (fun x=>AX x.now++B2 x.long) (fun x=>EE x.queue) (fun x=>by simp [Is.len,Cr.len]) (fun x=>by simp [BN.enc]) (fun x y=>by simp [BN.enc])
instance BN.l3:Ac BN.enc (EE) 3 1 (fun x=>x.queue) (fun x y=>{ x with queue:=y }):=
 Ac.ER QT (fun x=>AX x.now++B2 x.long++B2 x.ret) (fun _=> []) (fun x=>by simp [Is.len,Cr.len]) (fun x=>by simp [BN.enc]) (fun x y=>by simp [BN.enc])
structure A9 where
 wait:Hd
 shown:Int
 BL:Bool
 ring:AL
 cut:Bool
def A9.enc (x:A9):List Value:=EE x.wait++AT x.shown++B2 x.BL++AX x.ring++B2 x.cut
instance A9.fl:Flat A9.enc 5:=⟨fun x=>by simp [A9.enc,Is.len,QT.len,Bm.len,Cr.len],fun x v hv=>by
 simp only [A9.enc,List.mem_append] at hv
 rcases hv with (((h | h) | h) | h) | h
 ·exact QT.one _ v h
 ·exact Bm.one _ v h
 ·exact Is.one _ v h
 ·exact Cr.one _ v h
 ·exact Is.one _ v h⟩
instance A9.l0:Ac A9.enc (EE) 0 1 (fun x=>x.wait) (fun x y=>{ x with wait:=y }):=
 Ac.ER QT (fun _=> []) (fun x=>AT x.shown++B2 x.BL++AX x.ring++B2 x.cut) (fun _=>rfl) (fun x=>by simp [A9.enc]) (fun x y=>by simp [A9.enc])
instance A9.l1:Ac A9.enc (AT) 1 1 (fun x=>x.shown) (fun x y=>{ x with shown:=y }):=
 Ac.ER Bm (fun x=>EE x.wait) (fun x=>B2 x.BL++AX x.ring++B2 x.cut) (fun x=>by simp [QT.len]) (fun x=>by simp [A9.enc]) (fun x y=>by simp [A9.enc])
instance A9.l2:Ac A9.enc (B2) 2 1 (fun x=>x.BL) (fun x y=>{ x with BL:=y }):=
 Ac.ER Is (fun x=>EE x.wait++AT x.shown) (fun x=>AX x.ring++B2 x.cut) (fun x=>by simp [QT.len,Bm.len]) (fun x=>by simp [A9.enc]) (fun x y=>by simp [A9.enc])
instance A9.l3:Ac A9.enc (AX) 3 1 (fun x=>x.ring) (fun x y=>{ x with ring:=y }):=
 Ac.ER Cr (fun x=>EE x.wait++AT x.shown++B2 x.BL) (fun x=>B2 x.cut) (fun x=>by simp [Is.len,QT.len,Bm.len]) (fun x=>by simp [A9.enc]) (fun x y=>by simp [A9.enc])
instance A9.l4:Ac A9.enc (B2) 4 1 (fun x=>x.cut) (fun x y=>{ x with cut:=y }):=
 Ac.ER Is (fun x=>EE x.wait++AT x.shown++B2 x.BL++AX x.ring) (fun _=> []) (fun x=>by simp [Is.len,QT.len,Bm.len,Cr.len]) (fun x=>by simp [A9.enc]) (fun x y=>by simp [A9.enc])
structure Room where
 name:AL
 KF:Bool
 BH:QR Int 6
 shut:QR Bool 6
 deriving DecidableEq,Inhabited
def Room.enc (x:Room):List Value:=AX x.name++B2 x.KF++BO AT x.BH++BO B2 x.shut
instance Room.fl:Flat Room.enc 14:=⟨fun x=>by simp [Room.enc,(IY Is).len,(IY Bm).len,Is.len,Cr.len],fun x v hv=>by
 simp only [Room.enc,List.mem_append] at hv
 rcases hv with ((h | h) | h) | h
 ·exact Cr.one _ v h
 ·exact Is.one _ v h
 ·exact(IY Bm).one _ v h
 ·exact(IY Is).one _ v h⟩
instance Room.l0:Ac Room.enc (AX) 0 1 (fun x=>x.name) (fun x y=>{ x with name:=y }):=
 Ac.ER Cr (fun _=> []) (fun x=>B2 x.KF++BO AT x.BH++BO B2 x.shut) (fun _=>rfl) (fun x=>by simp [Room.enc]) (fun x y=>by simp [Room.enc])
instance Room.l1:Ac Room.enc (B2) 1 1 (fun x=>x.KF) (fun x y=>{ x with KF:=y }):=
 Ac.ER Is (fun x=>AX x.name) (fun x=>BO AT x.BH++BO B2 x.shut) (fun x=>by simp [Cr.len]) (fun x=>by simp [Room.enc]) (fun x y=>by simp [Room.enc])
instance Room.l2:Ac Room.enc (BO AT) 2 6 (fun x=>x.BH) (fun x y=>{ x with BH:=y }):=
 Ac.ER (IY Bm) (fun x=>AX x.name++B2 x.KF) (fun x=>BO B2 x.shut) (fun x=>by simp [Is.len,Cr.len]) (fun x=>by simp [Room.enc]) (fun x y=>by simp [Room.enc])
instance Room.l3:Ac Room.enc (BO B2) 8 6 (fun x=>x.shut) (fun x y=>{ x with shut:=y }):=
 Ac.ER (IY Is) (fun x=>AX x.name++B2 x.KF++BO AT x.BH) (fun _=> []) (fun x=>by simp [(IY Bm).len,Is.len,Cr.len]) (fun x=>by simp [Room.enc]) (fun x y=>by simp [Room.enc])
structure A3 where
 name:AL
 kind:Int
 BZ:Int
 at_:Int
 on:Bool
 deriving DecidableEq,Inhabited
def A3.enc (x:A3):List Value:=AX x.name++AT x.kind++AT x.BZ++AT x.at_++B2 x.on
instance A3.fl:Flat A3.enc 5:=⟨fun x=>by simp [A3.enc,Is.len,Bm.len,Cr.len],fun x v hv=>by
 simp only [A3.enc,List.mem_append] at hv
 rcases hv with (((h | h) | h) | h) | h
 ·exact Cr.one _ v h
 ·exact Bm.one _ v h
 ·exact Bm.one _ v h
 ·exact Bm.one _ v h
 ·exact Is.one _ v h⟩
instance A3.l0:Ac A3.enc (AX) 0 1 (fun x=>x.name) (fun x y=>{ x with name:=y }):=
 Ac.ER Cr (fun _=> []) (fun x=>AT x.kind++AT x.BZ++AT x.at_++B2 x.on) (fun _=>rfl) (fun x=>by simp [A3.enc]) (fun x y=>by simp [A3.enc])
instance A3.l1:Ac A3.enc (AT) 1 1 (fun x=>x.kind) (fun x y=>{ x with kind:=y }):=
 Ac.ER Bm (fun x=>AX x.name) (fun x=>AT x.BZ++AT x.at_++B2 x.on) (fun x=>by simp [Cr.len]) (fun x=>by simp [A3.enc]) (fun x y=>by simp [A3.enc])
instance A3.l2:Ac A3.enc (AT) 2 1 (fun x=>x.BZ) (fun x y=>{ x with BZ:=y }):=
 Ac.ER Bm (fun x=>AX x.name++AT x.kind) (fun x=>AT x.at_++B2 x.on) (fun x=>by simp [Bm.len,Cr.len]) (fun x=>by simp [A3.enc]) (fun x y=>by simp [A3.enc])
instance A3.l3:Ac A3.enc (AT) 3 1 (fun x=>x.at_) (fun x y=>{ x with at_:=y }):=
 Ac.ER Bm (fun x=>AX x.name++AT x.kind++AT x.BZ) (fun x=>B2 x.on) (fun x=>by simp [Bm.len,Cr.len]) (fun x=>by simp [A3.enc]) (fun x y=>by simp [A3.enc])
instance A3.l4:Ac A3.enc (B2) 4 1 (fun x=>x.on) (fun x y=>{ x with on:=y }):=
 Ac.ER Is (fun x=>AX x.name++AT x.kind++AT x.BZ++AT x.at_) (fun _=> []) (fun x=>by simp [Bm.len,Cr.len]) (fun x=>by simp [A3.enc]) (fun x y=>by simp [A3.enc])
structure A6 where
 name:AL
 here:Bool
 N5:Bool
 room:Int
 AW:Int
 A2:Int
 deriving DecidableEq,Inhabited
def A6.enc (x:A6):List Value:=AX x.name++B2 x.here++B2 x.N5++AT x.room++AT x.AW++AT x.A2
instance A6.fl:Flat A6.enc 6:=⟨fun x=>by simp [A6.enc,Is.len,Bm.len,Cr.len],fun x v hv=>by
 simp only [A6.enc,List.mem_append] at hv
 rcases hv with ((((h | h) | h) | h) | h) | h
 ·exact Cr.one _ v h
 ·exact Is.one _ v h
 ·exact Is.one _ v h
 ·exact Bm.one _ v h
 ·exact Bm.one _ v h
 ·exact Bm.one _ v h⟩
instance A6.l0:Ac A6.enc (AX) 0 1 (fun x=>x.name) (fun x y=>{ x with name:=y }):=
 Ac.ER Cr (fun _=> []) (fun x=>B2 x.here++B2 x.N5++AT x.room++AT x.AW++AT x.A2) (fun _=>rfl) (fun x=>by simp [A6.enc]) (fun x y=>by simp [A6.enc])
instance A6.l1:Ac A6.enc (B2) 1 1 (fun x=>x.here) (fun x y=>{ x with here:=y }):=
 Ac.ER Is (fun x=>AX x.name) (fun x=>B2 x.N5++AT x.room++AT x.AW++AT x.A2) (fun x=>by simp [Cr.len]) (fun x=>by simp [A6.enc]) (fun x y=>by simp [A6.enc])
instance A6.l2:Ac A6.enc (B2) 2 1 (fun x=>x.N5) (fun x y=>{ x with N5:=y }):=
 Ac.ER Is (fun x=>AX x.name++B2 x.here) (fun x=>AT x.room++AT x.AW++AT x.A2) (fun x=>by simp [Is.len,Cr.len]) (fun x=>by simp [A6.enc]) (fun x y=>by simp [A6.enc])
instance A6.l3:Ac A6.enc (AT) 3 1 (fun x=>x.room) (fun x y=>{ x with room:=y }):=
 Ac.ER Bm (fun x=>AX x.name++B2 x.here++B2 x.N5) (fun x=>AT x.AW++AT x.A2) (fun x=>by simp [Is.len,Cr.len]) (fun x=>by simp [A6.enc]) (fun x y=>by simp [A6.enc])
instance A6.l4:Ac A6.enc (AT) 4 1 (fun x=>x.AW) (fun x y=>{ x with AW:=y }):=
 Ac.ER Bm (fun x=>AX x.name++B2 x.here++B2 x.N5++AT x.room) (fun x=>AT x.A2) (fun x=>by simp [Is.len,Bm.len,Cr.len]) (fun x=>by simp [A6.enc]) (fun x y=>by simp [A6.enc])
instance A6.l5:Ac A6.enc (AT) 5 1 (fun x=>x.A2) (fun x y=>{ x with A2:=y }):=
 Ac.ER Bm (fun x=>AX x.name++B2 x.here++B2 x.N5++AT x.room++AT x.AW) (fun _=> []) (fun x=>by simp [Is.len,Bm.len,Cr.len]) (fun x=>by simp [A6.enc]) (fun x y=>by simp [A6.enc])
structure AD where
 Ad:QR Room 6
 AH:QR A3 9
 AF:QR A6 6
 deriving DecidableEq,Inhabited
def AD.enc (x:AD):List Value:=BO Room.enc x.Ad++BO A3.enc x.AH++BO A6.enc x.AF
instance AD.fl:Flat AD.enc 165:=⟨fun x=>by simp [AD.enc,(IY A6.fl).len,(IY Room.fl).len,(IY A3.fl).len],fun x v hv=>by
 simp only [AD.enc,List.mem_append] at hv
 rcases hv with (h | h) | h
 ·exact(IY Room.fl).one _ v h
 ·exact(IY A3.fl).one _ v h
 ·exact(IY A6.fl).one _ v h⟩
instance AD.l0:Ac AD.enc (BO Room.enc) 0 84 (fun x=>x.Ad) (fun x y=>{ x with Ad:=y }):=
 Ac.ER (IY Room.fl) (fun _=> []) (fun x=>BO A3.enc x.AH++BO A6.enc x.AF) (fun _=>rfl) (fun x=>by simp [AD.enc]) (fun x y=>by simp [AD.enc])
instance AD.l1:Ac AD.enc (BO A3.enc) 84 45 (fun x=>x.AH) (fun x y=>{ x with AH:=y }):=
 Ac.ER (IY A3.fl) (fun x=>BO Room.enc x.Ad) (fun x=>BO A6.enc x.AF) (fun x=>by simp [(IY Room.fl).len]) (fun x=>by simp [AD.enc]) (fun x y=>by simp [AD.enc])
instance AD.l2:Ac AD.enc (BO A6.enc) 129 36 (fun x=>x.AF) (fun x y=>{ x with AF:=y }):=
 Ac.ER (IY A6.fl) (fun x=>BO Room.enc x.Ad++BO A3.enc x.AH) (fun _=> []) (fun x=>by simp [(IY Room.fl).len,(IY A3.fl).len]) (fun x=>by simp [AD.enc]) (fun x y=>by simp [AD.enc])
structure Order where
 verb:Int
 nth:Int
 An:Bool
 name:AL
 second:AL
 text:AL
 deriving DecidableEq,Inhabited
def Order.enc (x:Order):List Value:=AT x.verb++AT x.nth++B2 x.An++AX x.name++AX x.second++AX x.text
instance Order.fl:Flat Order.enc 6:=⟨fun x=>by simp [Order.enc,Is.len,Bm.len,Cr.len],fun x v hv=>by
 simp only [Order.enc,List.mem_append] at hv
 rcases hv with ((((h | h) | h) | h) | h) | h
 ·exact Bm.one _ v h
 ·exact Bm.one _ v h
 ·exact Is.one _ v h
 ·exact Cr.one _ v h
 ·exact Cr.one _ v h
 ·exact Cr.one _ v h⟩
instance Order.l0:Ac Order.enc (AT) 0 1 (fun x=>x.verb) (fun x y=>{ x with verb:=y }):=
 Ac.ER Bm (fun _=> []) (fun x=>AT x.nth++B2 x.An++AX x.name++AX x.second++AX x.text) (fun _=>rfl) (fun x=>by simp [Order.enc]) (fun x y=>by simp [Order.enc])
instance Order.l1:Ac Order.enc (AT) 1 1 (fun x=>x.nth) (fun x y=>{ x with nth:=y }):=
 Ac.ER Bm (fun x=>AT x.verb) (fun x=>B2 x.An++AX x.name++AX x.second++AX x.text) (fun x=>by simp [Bm.len]) (fun x=>by simp [Order.enc]) (fun x y=>by simp [Order.enc])
instance Order.l2:Ac Order.enc (B2) 2 1 (fun x=>x.An) (fun x y=>{ x with An:=y }):=
 Ac.ER Is (fun x=>AT x.verb++AT x.nth) (fun x=>AX x.name++AX x.second++AX x.text) (fun x=>by simp [Bm.len]) (fun x=>by simp [Order.enc]) (fun x y=>by simp [Order.enc])
instance Order.l3:Ac Order.enc (AX) 3 1 (fun x=>x.name) (fun x y=>{ x with name:=y }):=
 Ac.ER Cr (fun x=>AT x.verb++AT x.nth++B2 x.An) (fun x=>AX x.second++AX x.text) (fun x=>by simp [Is.len,Bm.len]) (fun x=>by simp [Order.enc]) (fun x y=>by simp [Order.enc])
instance Order.l4:Ac Order.enc (AX) 4 1 (fun x=>x.second) (fun x y=>{ x with second:=y }):=
 Ac.ER Cr (fun x=>AT x.verb++AT x.nth++B2 x.An++AX x.name) (fun x=>AX x.text) (fun x=>by simp [Is.len,Bm.len,Cr.len]) (fun x=>by simp [Order.enc]) (fun x y=>by simp [Order.enc])
instance Order.l5:Ac Order.enc (AX) 5 1 (fun x=>x.text) (fun x y=>{ x with text:=y }):=
 Ac.ER Cr (fun x=>AT x.verb++AT x.nth++B2 x.An++AX x.name++AX x.second) (fun _=> []) (fun x=>by simp [Is.len,Bm.len,Cr.len]) (fun x=>by simp [Order.enc]) (fun x y=>by simp [Order.enc])
structure Event where
 kind:Int
 room:Int
 Al:Int
 other:Int
 dir:Int
 n:Int
 CS:AL
 D7:AL
 AQ:AL
 text:AL
 Gz:QR Int 6
 deriving DecidableEq,Inhabited
def Event.enc (x:Event):List Value:=AT x.kind++AT x.room++AT x.Al++AT x.other++AT x.dir++AT x.n++AX x.CS++AX x.D7++AX x.AQ++AX x.text++BO AT x.Gz
instance Event.fl:Flat Event.enc 16:=⟨fun x=>by simp [Event.enc,(IY Bm).len,Bm.len,Cr.len],fun x v hv=>by
 simp only [Event.enc,List.mem_append] at hv
 rcases hv with (((((((((h | h) | h) | h) | h) | h) | h) | h) | h) | h) | h
 ·exact Bm.one _ v h
 ·exact Bm.one _ v h
 ·exact Bm.one _ v h
 ·exact Bm.one _ v h
 ·exact Bm.one _ v h
 ·exact Bm.one _ v h
 ·exact Cr.one _ v h
 ·exact Cr.one _ v h
 ·exact Cr.one _ v h
 ·exact Cr.one _ v h
 ·exact(IY Bm).one _ v h⟩
instance Event.l0:Ac Event.enc (AT) 0 1 (fun x=>x.kind) (fun x y=>{ x with kind:=y }):=
 Ac.ER Bm (fun _=> []) (fun x=>AT x.room++AT x.Al++AT x.other++AT x.dir++AT x.n++AX x.CS++AX x.D7++AX x.AQ++AX x.text++BO AT x.Gz) (fun _=>rfl) (fun x=>by simp [Event.enc]) (fun x y=>by simp [Event.enc])
instance Event.l1:Ac Event.enc (AT) 1 1 (fun x=>x.room) (fun x y=>{ x with room:=y }):=
 Ac.ER Bm (fun x=>AT x.kind) (fun x=>AT x.Al++AT x.other++AT x.dir++AT x.n++AX x.CS++AX x.D7++AX x.AQ++AX x.text++BO AT x.Gz) (fun x=>by simp [Bm.len]) (fun x=>by simp [Event.enc]) (fun x y=>by simp [Event.enc])
instance Event.l2:Ac Event.enc (AT) 2 1 (fun x=>x.Al) (fun x y=>{ x with Al:=y }):=
 Ac.ER Bm (fun x=>AT x.kind++AT x.room) (fun x=>AT x.other++AT x.dir++AT x.n++AX x.CS++AX x.D7++AX x.AQ++AX x.text++BO AT x.Gz) (fun x=>by simp [Bm.len]) (fun x=>by simp [Event.enc]) (fun x y=>by simp [Event.enc])
instance Event.l3:Ac Event.enc (AT) 3 1 (fun x=>x.other) (fun x y=>{ x with other:=y }):=
 Ac.ER Bm (fun x=>AT x.kind++AT x.room++AT x.Al) (fun x=>AT x.dir++AT x.n++AX x.CS++AX x.D7++AX x.AQ++AX x.text++BO AT x.Gz) (fun x=>by simp [Bm.len]) (fun x=>by simp [Event.enc]) (fun x y=>by simp [Event.enc])
instance Event.l4:Ac Event.enc (AT) 4 1 (fun x=>x.dir) (fun x y=>{ x with dir:=y }):=
 Ac.ER Bm (fun x=>AT x.kind++AT x.room++AT x.Al++AT x.other) (fun x=>AT x.n++AX x.CS++AX x.D7++AX x.AQ++AX x.text++BO AT x.Gz) (fun x=>by simp [Bm.len]) (fun x=>by simp [Event.enc]) (fun x y=>by simp [Event.enc])
instance Event.l5:Ac Event.enc (AT) 5 1 (fun x=>x.n) (fun x y=>{ x with n:=y }):=
 Ac.ER Bm (fun x=>AT x.kind++AT x.room++AT x.Al++AT x.other++AT x.dir) (fun x=>AX x.CS++AX x.D7++AX x.AQ++AX x.text++BO AT x.Gz) (fun x=>by simp [Bm.len]) (fun x=>by simp [Event.enc]) (fun x y=>by simp [Event.enc])
instance Event.l6:Ac Event.enc (AX) 6 1 (fun x=>x.CS) (fun x y=>{ x with CS:=y }):=
 Ac.ER Cr (fun x=>AT x.kind++AT x.room++AT x.Al++AT x.other++AT x.dir++AT x.n) (fun x=>AX x.D7++AX x.AQ++AX x.text++BO AT x.Gz) (fun x=>by simp [Bm.len]) (fun x=>by simp [Event.enc]) (fun x y=>by simp [Event.enc])
instance Event.l7:Ac Event.enc (AX) 7 1 (fun x=>x.D7) (fun x y=>{ x with D7:=y }):=
 Ac.ER Cr (fun x=>AT x.kind++AT x.room++AT x.Al++AT x.other++AT x.dir++AT x.n++AX x.CS) (fun x=>AX x.AQ++AX x.text++BO AT x.Gz) (fun x=>by simp [Bm.len,Cr.len]) (fun x=>by simp [Event.enc]) (fun x y=>by simp [Event.enc])
instance Event.l8:Ac Event.enc (AX) 8 1 (fun x=>x.AQ) (fun x y=>{ x with AQ:=y }):=
 Ac.ER Cr (fun x=>AT x.kind++AT x.room++AT x.Al++AT x.other++AT x.dir++AT x.n++AX x.CS++AX x.D7) (fun x=>AX x.text++BO AT x.Gz) (fun x=>by simp [Bm.len,Cr.len]) (fun x=>by simp [Event.enc]) (fun x y=>by simp [Event.enc])
instance Event.l9:Ac Event.enc (AX) 9 1 (fun x=>x.text) (fun x y=>{ x with text:=y }):=
 Ac.ER Cr (fun x=>AT x.kind++AT x.room++AT x.Al++AT x.other++AT x.dir++AT x.n++AX x.CS++AX x.D7++AX x.AQ) (fun x=>BO AT x.Gz) (fun x=>by simp [Bm.len,Cr.len]) (fun x=>by simp [Event.enc]) (fun x y=>by simp [Event.enc])
instance Event.l10:Ac Event.enc (BO AT) 10 6 (fun x=>x.Gz) (fun x y=>{ x with Gz:=y }):=
 Ac.ER (IY Bm) (fun x=>AT x.kind++AT x.room++AT x.Al++AT x.other++AT x.dir++AT x.n++AX x.CS++AX x.D7++AX x.AQ++AX x.text) (fun _=> []) (fun x=>by simp [Bm.len,Cr.len]) (fun x=>by simp [Event.enc]) (fun x y=>by simp [Event.enc])
structure CD where
 kind:Int
 AZ:Int
 n:Int
 bytes:AL
 deriving DecidableEq,Inhabited
def CD.enc (x:CD):List Value:=AT x.kind++AT x.AZ++AT x.n++AX x.bytes
instance CD.fl:Flat CD.enc 4:=⟨fun x=>by simp [CD.enc,Bm.len,Cr.len],fun x v hv=>by
 simp only [CD.enc,List.mem_append] at hv
 rcases hv with ((h | h) | h) | h
 ·exact Bm.one _ v h
 ·exact Bm.one _ v h
 ·exact Bm.one _ v h
 ·exact Cr.one _ v h⟩
instance CD.l0:Ac CD.enc (AT) 0 1 (fun x=>x.kind) (fun x y=>{ x with kind:=y }):=
 Ac.ER Bm (fun _=> []) (fun x=>AT x.AZ++AT x.n++AX x.bytes) (fun _=>rfl) (fun x=>by simp [CD.enc]) (fun x y=>by simp [CD.enc])
instance CD.l1:Ac CD.enc (AT) 1 1 (fun x=>x.AZ) (fun x y=>{ x with AZ:=y }):=
 Ac.ER Bm (fun x=>AT x.kind) (fun x=>AT x.n++AX x.bytes) (fun x=>by simp [Bm.len]) (fun x=>by simp [CD.enc]) (fun x y=>by simp [CD.enc])
instance CD.l2:Ac CD.enc (AT) 2 1 (fun x=>x.n) (fun x y=>{ x with n:=y }):=
 Ac.ER Bm (fun x=>AT x.kind++AT x.AZ) (fun x=>AX x.bytes) (fun x=>by simp [Bm.len]) (fun x=>by simp [CD.enc]) (fun x y=>by simp [CD.enc])
instance CD.l3:Ac CD.enc (AX) 3 1 (fun x=>x.bytes) (fun x y=>{ x with bytes:=y }):=
 Ac.ER Cr (fun x=>AT x.kind++AT x.AZ++AT x.n) (fun _=> []) (fun x=>by simp [Bm.len]) (fun x=>by simp [CD.enc]) (fun x y=>by simp [CD.enc])
structure Cg where
 code:Int
 out:AL
 deriving DecidableEq,Inhabited
def Cg.enc (x:Cg):List Value:=AT x.code++AX x.out
instance Cg.fl:Flat Cg.enc 2:=⟨fun x=>by simp [Cg.enc,Bm.len,Cr.len],fun x v hv=>by
 simp only [Cg.enc,List.mem_append] at hv
 rcases hv with h | h
 ·exact Bm.one _ v h
 ·exact Cr.one _ v h⟩
instance Cg.l0:Ac Cg.enc (AT) 0 1 (fun x=>x.code) (fun x y=>{ x with code:=y }):=
 Ac.ER Bm (fun _=> []) (fun x=>AX x.out) (fun _=>rfl) (fun x=>by simp [Cg.enc]) (fun x y=>by simp [Cg.enc])
instance Cg.l1:Ac Cg.enc (AX) 1 1 (fun x=>x.out) (fun x y=>{ x with out:=y }):=
 Ac.ER Cr (fun x=>AT x.code) (fun _=> []) (fun x=>by simp [Bm.len]) (fun x=>by simp [Cg.enc]) (fun x y=>by simp [Cg.enc])
structure D1 where
 addr:Option Addr
 buf:Hd
def D1.enc (x:D1):List Value:=Zk x.addr++EE x.buf
instance D1.fl:Flat D1.enc 2:=⟨fun x=>by simp [D1.enc,QT.len,jL.len],fun x v hv=>by
 simp only [D1.enc,List.mem_append] at hv
 rcases hv with h | h
 ·exact jL.one _ v h
 ·exact QT.one _ v h⟩
instance D1.l0:Ac D1.enc (Zk) 0 1 (fun x=>x.addr) (fun x y=>{ x with addr:=y }):=
 Ac.ER jL (fun _=> []) (fun x=>EE x.buf) (fun _=>rfl) (fun x=>by simp [D1.enc]) (fun x y=>by simp [D1.enc])
instance D1.l1:Ac D1.enc (EE) 1 1 (fun x=>x.buf) (fun x y=>{ x with buf:=y }):=
 Ac.ER QT (fun x=>Zk x.addr) (fun _=> []) (fun x=>by simp [jL.len]) (fun x=>by simp [D1.enc]) (fun x y=>by simp [D1.enc])
end Go.Ing
/- Engine, part 5: small rules for the printed walks. -/
namespace Go.Ing
open Go
section
variable {P:Program} {n:Nat} {w0:World} {M:List Nat} {Q:Exit→Act→World→Prop} {F F':List (Nat × Value)} {L L':List AJ} {ops:Array Oper} {rest:List Oper} {e:Exit}
theorem Y1 (hs:Sub F F')(h:GQ n w0 M Q e F' L):GQ n w0 M Q e F L:=fun a w hF hS=>h a w (hF.sub hs) hS
theorem Na {T:TypeId}{x:Operand}{p:Addr}(hx:ev F x=some (.pointer (some p))):PS P n w0 M (.nilCheck x) T F L (.pointer (some p)) L:=Bj fun a w hF=>by simp [execOp,hF.ev hx]
theorem ZH {T U V b:Nat}{x:Operand}{v:Value}(hx:ev F x=some (.pointer (some ⟨b,0,none⟩)))(hT:R0 P T)(hL:AJ.box b V [v]∈L):PS P n w0 M (.load T x) U F L v L:=by
 intro a w hF hS
 have hb:w.heap[b]?=some (.cells [v].toArray V):=hS.ok _ hL
 have hc:w.cell? ⟨b,0,none⟩=some v:=GK hb
 exact⟨w,by simp [execOp,hF.ev hx,Instr.loadAt,Instr.sureAddr,loadVar,hT w,hc],rfl,rfl⟩
theorem XS {T U V b:Nat}{x y:Operand}{v v':Value}(hx:ev F x=some (.pointer (some ⟨b,0,none⟩)))(hy:ev F y=some v')(hv:v'.cells = [v'].toArray)(h1:v'.oneCell'=true)(hT:Sz P T 1)(hL:Ip L (AJ.box b V [v]) (AJ.box b V [v']) L'):PU P n w0 M (.store T x y) U F L L':=by
 intro a w hF hS
 have hb:w.heap[b]?=some (.cells [v].toArray V):=hS.ok _ hL.mem
 obtain⟨w',e1,e2,e3,e4,e5,e6,e7⟩:=Ii (P:=P) (o:=0) [v'] w [v] 0 hb (fun u hu=>by simp at hu;subst hu;exact h1) (by simp)
 refine⟨w',?_,hS.Dy hL e5 e6 e7 (by omega) (fun k _ hk=>e3 k (by simpa [AJ.box] using hk)) ?_ ?_⟩
 ·simp only [execOp,hF.ev hx,hF.ev hy,Instr.storeAt,Instr.sureAddr,storeVar,hv]
  simp [hT w,e1]
 ·show w'.heap[b]?=_
  rw [e2];rfl
 ·intro k hk
  simp [AJ.box] at hk
  subst hk
  refine⟨?_, .inl (by simp [AJ.box])⟩
  rcases Nat.lt_or_ge k w'.heap.size with h | h
  ·exact h
  ·rw [Array.getElem?_eq_none h] at e2;cases e2

theorem Af {c:Code}(hs:Sub F F')(h:G P n w0 M c Q F' L):G P n w0 M c Q F L:=fun a w hF hS=>h a w (hF.sub hs) hS
inductive ME:List AJ→AJ→List AJ→Prop where
 | head {r:AJ} {L:List AJ}:ME (r :: L) r L
 | tail {s r:AJ} {L L':List AJ} (h:ME L r L'):ME (s :: L) r (s :: L')
theorem ME.perm {L L':List AJ}{r:AJ}(h:ME L r L'):L.Perm (r :: L'):=by
 induction h with
 | head=>exact .refl _
 | tail _ ih=>exact(List.Perm.cons _ ih).trans (.swap ..)
theorem St.perm {w:World}(h:St w0 M w L)(hp:L.Perm L'):St w0 M w L':=
 ⟨h.os,h.tape,h.output,h.size,h.Il,fun r hr=>h.ok r (hp.mem_iff.2 hr),fun r hr=>h.Bn r (hp.mem_iff.2 hr),h.Ir.perm hp fun h b hb hb'=>h b hb' hb⟩
theorem AY {c:Code}{r:AJ}(hp:ME L r L')(h:G P n w0 M c Q F (r :: L')):G P n w0 M c Q F L:=fun a w hF hS=>h a w hF (hS.perm hp.perm)
/-! #### what hangs on a bool -/
def cv (c:Bool)(v:Value):Value:=bif c then v else undef
theorem iT {x:Operand}{c:Bool}{v:Value}(h:ev F x=some (cv c v))(hc:c=true):ev F x=some v:=by rw [hc] at h;exact h
theorem ju {a b:Bool}(h:(a && b)=true):a=true:=by cases a<;>simp_all
theorem Yv {d:Nat}{op:Op}{T:TypeId}{pos:String}{Bl:Array Edge}{v:Value}{j t:Nat}{y:Bool}(hj:(ops[j]?).bind (·.dst)=some t)(hb:lk t F=some (.bool y))(hd:Nat.blt d n=true)(h:y=true→PS P n w0 M op T F L v L)
  (k:GL P n w0 M ops Q rest ((d,cv y v) :: F) L):GL P n w0 M ops Q (⟨some d,op,T,pos,Bl,some (j,true)⟩ :: rest) F L:=by
 cases y with
 | true=>exact Od hj hb hd (h rfl) k
 | false=>exact Ki hj hb rfl hd k
theorem Yu {d:Nat}{op:Op}{T:TypeId}{pos:String}{Bl:Array Edge}{v:Value}{j t:Nat}{y:Bool}(hj:(ops[j]?).bind (·.dst)=some t)(hb:lk t F=some (.bool y))(hd:Nat.blt d n=true)(h:y=false→PS P n w0 M op T F L v L)
  (k:GL P n w0 M ops Q rest ((d,cv (!y) v) :: F) L):GL P n w0 M ops Q (⟨some d,op,T,pos,Bl,some (j,false)⟩ :: rest) F L:=by
 cases y with
 | false=>exact Od hj hb hd (h rfl) k
 | true=>exact Ki hj hb rfl hd k
theorem eN {d:Nat}{op:Op}{T:TypeId}{pos:String}{Bl:Array Edge}{v:Value}{j t:Nat}{c y:Bool}(hj:(ops[j]?).bind (·.dst)=some t)(hb:lk t F=some (cv c (.bool y)))(hd:Nat.blt d n=true)(h:c=true→y=true→PS P n w0 M op T F L v L)
  (k:GL P n w0 M ops Q rest ((d,cv (c && y) v) :: F) L):GL P n w0 M ops Q (⟨some d,op,T,pos,Bl,some (j,true)⟩ :: rest) F L:=by
 cases c with
 | false=>exact GI hj hb hd k
 | true=>exact Yv hj hb hd (h rfl) (by simpa using k)
theorem eM {d:Nat}{op:Op}{T:TypeId}{pos:String}{Bl:Array Edge}{v:Value}{j t:Nat}{c y:Bool}(hj:(ops[j]?).bind (·.dst)=some t)(hb:lk t F=some (cv c (.bool y)))(hd:Nat.blt d n=true)(h:c=true→y=false→PS P n w0 M op T F L v L)
  (k:GL P n w0 M ops Q rest ((d,cv (c && !y) v) :: F) L):GL P n w0 M ops Q (⟨some d,op,T,pos,Bl,some (j,false)⟩ :: rest) F L:=by
 cases c with
 | false=>exact GI hj hb hd k
 | true=>exact Yu hj hb hd (h rfl) (by simpa using k)
theorem eW {c x:Operand}{T:TypeId}{y z d:Bool}(hc:ev F c=some (.bool y))(hx:ev F x=some (cv d (.bool z)))(hd:y=true→d=true):PS P n w0 M (.pick c x (.const (.bool false))) T F L (.bool (y && z)) L:=by
 cases y with
 | true=>exact JR hc (iT hx (hd rfl))
 | false=>exact IT hc rfl
theorem iH {c x:Operand}{T:TypeId}{y z d:Bool}(hc:ev F c=some (.bool y))(hx:ev F x=some (cv d (.bool z)))(hd:y=false→d=true):PS P n w0 M (.pick c (.const (.bool true)) x) T F L (.bool (y || z)) L:=by
 cases y with
 | false=>exact IT hc (iT hx (hd rfl))
 | true=>exact JR hc rfl
def PC (P:Program)(n:Nat)(w0:World)(M:List Nat)(op:Op)(T:TypeId)(F:List (Nat × Value))(L:List AJ)(v:Value):Prop:=
 ∀ a w, Fr n a F → St w0 M w L → ∃ f args, (execOp a.eval ⟨none, op, T, "", #[], none⟩).run P w = .ok (.enter f args) w ∧ Ch P f args w fun v' w' => v' = v ∧ BF w w'
theorem G8 {f:FuncId}{args:List Operand}{ts:Array TypeId}{T:TypeId}{vs:List Value}{v:Value}(hc:CF P f)(ha:OD F args vs)(h:∀ w,St w0 M w L→Ch P f vs.toArray w fun v' w'=>v'=v∧BF w w') :
  PC P n w0 M (.call ⟨.value (.func f),args.toArray,ts⟩) T F L v:=fun _ w hF hS=>⟨f,vs.toArray,QA hc hF ha w _ _ _ _,h w hS⟩
theorem Yy {d:Nat}{op:Op}{T:TypeId}{pos:String}{Bl:Array Edge}{v:Value}{j t:Nat}{y:Bool}(hj:(ops[j]?).bind (·.dst)=some t)(hb:lk t F=some (.bool y))(hd:Nat.blt d n=true)(h:y=true→PC P n w0 M op T F L v)
  (k:GL P n w0 M ops Q rest ((d,cv y v) :: F) L):GL P n w0 M ops Q (⟨some d,op,T,pos,Bl,some (j,true)⟩ :: rest) F L:=by
 cases y with
 | false=>exact Ki hj hb rfl hd k
 | true=>
  intro a w hF hS
  obtain⟨f,args,hr,hc⟩:=h rfl a w hF hS
  refine wpList_step fun K hK=>?_
  rw [if_pos (by simp [Region.wanted,D0 hF hj hb])]
  unfold Oper.wp
  rw [Dp,hr]
  show Calls _ _ _ _ _
  refine Calls.mono hc fun e w' he=>?_
  obtain⟨v',rfl,hv,hk⟩:=he
  subst hv
  exact hK _ _ (k _ _ (hF.put (by simpa [Nat.blt_eq] using hd) v') (hS.Ll hk))
theorem Yx {d:Nat}{op:Op}{T:TypeId}{pos:String}{Bl:Array Edge}{v:Value}{j t:Nat}{y:Bool}(hj:(ops[j]?).bind (·.dst)=some t)(hb:lk t F=some (.bool y))(hd:Nat.blt d n=true)(h:y=false→PC P n w0 M op T F L v)
  (k:GL P n w0 M ops Q rest ((d,cv (!y) v) :: F) L):GL P n w0 M ops Q (⟨some d,op,T,pos,Bl,some (j,false)⟩ :: rest) F L:=by
 cases y with
 | true=>exact Ki hj hb rfl hd k
 | false=>
  intro a w hF hS
  obtain⟨f,args,hr,hc⟩:=h rfl a w hF hS
  refine wpList_step fun K hK=>?_
  rw [if_pos (by simp [Region.wanted,D0 hF hj hb])]
  unfold Oper.wp
  rw [Dp,hr]
  show Calls _ _ _ _ _
  refine Calls.mono hc fun e w' he=>?_
  obtain⟨v',rfl,hv,hk⟩:=he
  subst hv
  exact hK _ _ (k _ _ (hF.put (by simpa [Nat.blt_eq] using hd) v') (hS.Ll hk))
theorem bm {d:Nat}{op:Op}{T:TypeId}{pos:String}{Bl:Array Edge}{v:Value}{j t:Nat}{c y:Bool}(hj:(ops[j]?).bind (·.dst)=some t)(hb:lk t F=some (cv c (.bool y)))(hd:Nat.blt d n=true)(h:c=true→y=true→PC P n w0 M op T F L v)
  (k:GL P n w0 M ops Q rest ((d,cv (c && y) v) :: F) L):GL P n w0 M ops Q (⟨some d,op,T,pos,Bl,some (j,true)⟩ :: rest) F L:=by
 cases c with
 | false=>exact GI hj hb hd k
 | true=>exact Yy hj hb hd (h rfl) (by simpa using k)
theorem bl {d:Nat}{op:Op}{T:TypeId}{pos:String}{Bl:Array Edge}{v:Value}{j t:Nat}{c y:Bool}(hj:(ops[j]?).bind (·.dst)=some t)(hb:lk t F=some (cv c (.bool y)))(hd:Nat.blt d n=true)(h:c=true→y=false→PC P n w0 M op T F L v)
  (k:GL P n w0 M ops Q rest ((d,cv (c && !y) v) :: F) L):GL P n w0 M ops Q (⟨some d,op,T,pos,Bl,some (j,false)⟩ :: rest) F L:=by
 cases c with
 | false=>exact GI hj hb hd k
 | true=>exact Yx hj hb hd (h rfl) (by simpa using k)
end
end Go.Ing
/- Engine, part 6: regions that draw their order: the first 'm' operations each yield one value whatever the order; the others stand in a chain behind them. -/
namespace Go.Ing
open Go

def Np (k:Nat):List (Nat × (Nat × Value))→Option (Nat × Value)
 | []=>none
 | (j,x) :: D=>bif Nat.beq k j then some x else Np k D
theorem MS (k:Nat)(x:Nat × Value)(D:List (Nat × (Nat × Value))):Np k ((k,x) :: D)=some x:=by simp [Np]
theorem HY {k j:Nat}(h:k≠j)(x:Nat × Value)(D:List (Nat × (Nat × Value))):Np k ((j,x) :: D)=Np k D:=by
 have:Nat.beq k j=false:=Bool.eq_false_iff.2 fun e=>h (Nat.eq_of_beq_eq_true e)
 simp [Np,this]
def DS (D:List (Nat × (Nat × Value))):List Edge→List (Nat × Value)
 | []=> []
 | e :: es=>bif Region.binds .any e then(match Np e.on D with | some x=>x :: DS D es | none=>DS D es) else DS D es
theorem O6 {D D':List (Nat × (Nat × Value))}:∀(es:List Edge),(∀ e∈es,Np e.on D=Np e.on D')→DS D es=DS D' es
 | [],_=>rfl
 | e :: es,h=>by simp only [DS,h e (by simp),O6 es fun x hx=>h x (by simp [hx])]
theorem ML {D:List (Nat × (Nat × Value))}{x:Nat × Value}:∀(es:List Edge),x∈DS D es→∃ e∈es,Region.binds .any e=true∧Np e.on D=some x
 | [],h=>by simp [DS] at h
 | e :: es,h=>by
  unfold DS at h
  cases hb:Region.binds .any e with
  | false=>rw [hb] at h;obtain⟨y,hy,h1,h2⟩:=ML es h;exact⟨y,by simp [hy],h1,h2⟩
  | true=>
   rw [hb] at h
   cases hl:Np e.on D with
   | none=>simp only [hl,cond_true] at h;obtain⟨y,hy,h1,h2⟩:=ML es h;exact⟨y,by simp [hy],h1,h2⟩
   | some z=>
    simp only [hl,cond_true] at h
    rcases List.mem_cons.1 h with rfl | h
    ·exact⟨e,by simp,hb,hl⟩
    ·obtain⟨y,hy,h1,h2⟩:=ML es h;exact⟨y,by simp [hy],h1,h2⟩
def G2:List (Nat × (Nat × Value))→List (Nat × Value)
 | []=> []
 | (_,x) :: D=>x :: G2 D
theorem NM {k:Nat}{v:Value}:∀(A F:List (Nat × Value)),lk k (A++F)=some v→(k,v)∈A∨lk k F=some v
 | [],_,h=> .inr h
 | (j,u) :: A,F,h=>by
  simp only [List.cons_append,lk] at h
  by_cases e:k=j
  ·subst e;simp at h;subst h;simp
  ·rw [show Nat.beq k j=false from Bool.eq_false_iff.2 fun h=>e (Nat.eq_of_beq_eq_true h)] at h
   rcases NM A F h with h | h
   ·exact .inl (by simp [h])
   ·exact .inr h

section
variable (P:Program) (n:Nat) (w0:World) (M:List Nat) (Q:Exit→Act→World→Prop) (ops:Array Oper) (F:List (Nat × Value)) (L:List AJ)
def E8 (o:Oper)(D:List (Nat × (Nat × Value)))(v:Value):Prop:=
 ∀ a w (K:Act→World→Prop),Fr n a (DS D o.after.toList++F)→St w0 M w L→(∀ w',St w0 M w' L→K (a.put o.dst v) w') →
  if Region.wanted o (yielded ops a.tmps)=true then o.wp P a w K Q else K (a.put o.dst undef) w
end

def E6:List Oper→Bool
 | []=>true
 | o :: l=>l.all (fun p=>match o.dst,p.dst with | some d,some e=>!(Nat.beq d e) | _,_=>true) && E6 l
def Rl (l:List Oper)(listed:Array Bool):Prop:=∀ x o,l[x]?=some o→listed.getD x false=true→∀ e∈o.after.toList,Region.binds .any e=true→listed.getD e.on false=true
theorem L5:∀(l:List Oper) (i j:Nat) (o p:Oper) (d:Nat),E6 l=true→l[i]?=some o→l[j]?=some p→o.dst=some d→p.dst=some d→i=j
 | [],_,_,_,_,_,_,h,_,_,_=>by simp at h
 | q :: l,0,0,_,_,_,_,_,_,_,_=>rfl
 | q :: l,0,j+1,o,p,d,hb,h1,h2,e1,e2=>by
  simp at h1;subst h1
  simp only [E6,Bool.and_eq_true,List.all_eq_true] at hb
  have:=hb.1 p (List.mem_of_getElem? (by simpa using h2))
  simp [e1,e2] at this
 | q :: l,i+1,0,o,p,d,hb,h1,h2,e1,e2=>by
  simp at h2;subst h2
  simp only [E6,Bool.and_eq_true,List.all_eq_true] at hb
  have:=hb.1 o (List.mem_of_getElem? (by simpa using h1))
  simp [e1,e2] at this
 | q :: l,i+1,j+1,o,p,d,hb,h1,h2,e1,e2=>by
  simp only [E6,Bool.and_eq_true] at hb
  rw [L5 l i j o p d hb.2 (by simpa using h1) (by simpa using h2) e1 e2]

section
variable {P:Program} {n:Nat} {w0:World} {M:List Nat} {Q:Exit→Act→World→Prop} {ops:Array Oper} {F:List (Nat × Value)} {L:List AJ}
theorem E8.congr {o:Oper}{D D':List (Nat × (Nat × Value))}{v:Value}(h:E8 P n w0 M Q ops F L o D v)(he:∀ e∈o.after.toList,Np e.on D=Np e.on D'):E8 P n w0 M Q ops F L o D' v:=by
 unfold E8 at *
 rw [O6 _ he] at h
 exact h
theorem K5 {l:List Oper}{listed:Array Bool}(hsz:listed.size=l.length){i:Nat} :
  i∈Region.ready .any l.toArray listed↔∃ o,l[i]?=some o∧listed[i]?=some false∧∀ e∈o.after.toList,Region.binds .any e=true→listed.getD e.on false=true:=by
 simp only [Region.ready,List.mem_filter,List.mem_range,List.size_toArray,Bool.and_eq_true,List.getElem?_toArray]
 constructor
 ·rintro ⟨h1,h2,h3⟩
  have ho:l[i]?=some l[i]:=List.getElem?_eq_getElem h1
  refine⟨l[i],ho,?_,?_⟩
  ·have:listed[i]?=some listed[i]:=Array.getElem?_eq_getElem (by omega)
   simp [this] at h2
   rw [this,h2]
  ·rw [ho] at h3
   simp only [Option.map_some,Option.getD_some] at h3
   intro e he hb
   have:=Array.all_eq_true_iff_forall_mem.1 h3 e (by simpa using he)
   simpa [hb] using this
 ·rintro ⟨o,ho,h2,h3⟩
  have hi:i < l.length:=by
   rcases Nat.lt_or_ge i l.length with h | h
   ·exact h
   ·rw [List.getElem?_eq_none h] at ho;cases ho
  refine⟨hi,by simp [h2],?_⟩
  rw [ho]
  simp only [Option.map_some,Option.getD_some]
  refine Array.all_eq_true_iff_forall_mem.2 fun e he=>?_
  have:=h3 e (by simpa using he)
  cases hb:Region.binds .any e with
  | false=>simp
  | true=>simpa using this hb
theorem count_set {l:List Bool}:∀(i:Nat),l[i]?=some false→(l.set i true).count false+1=l.count false:=by
 induction l with
 | nil=>intro i h;simp at h
 | cons b l ih=>
  intro i h
  cases i with
  | zero=>simp at h;subst h;simp
  | succ i=>
   have:=ih i (by simpa using h)
   simp only [List.set_cons_succ,List.count_cons]
   omega
theorem OP {j:Nat}{x:Nat × Value}:∀(D:List (Nat × (Nat × Value))),Np j D=some x→(j,x)∈D
 | [],h=>by simp [Np] at h
 | (i,y) :: D,h=>by
  by_cases e:j=i
  ·subst e;rw [MS] at h;cases h;simp
  ·rw [HY e] at h;exact List.mem_cons_of_mem _ (OP D h)
def EX (P:Program)(n:Nat)(w0:World)(M:List Nat)(op:Op)(T:TypeId)(F:List (Nat × Value))(L:List AJ)(v:Value):Prop:=
 ∀ a w (K:Act→World→Prop) (Q:Exit→Act→World→Prop) d pos Bl g,Fr n a F→St w0 M w L→(∀ w',St w0 M w' L→K (a.put d v) w')→Oper.wp P ⟨d,op,T,pos,Bl,g⟩ a w K Q
theorem L8 {op:Op}{T:TypeId}{v:Value}(h:PS P n w0 M op T F L v L):EX P n w0 M op T F L v:=by
 intro a w K Q d pos Bl g hF hS hK
 obtain⟨w',hr,hw,_⟩:=h a w hF hS
 have hS':St w0 M w' L:=hw ▸ hS
 unfold Oper.wp
 rw [Dp,hr]
 exact hK _ hS'
theorem N0 {op:Op}{T:TypeId}{v:Value}(h:PC P n w0 M op T F L v):EX P n w0 M op T F L v:=by
 intro a w K Q d pos Bl g hF hS hK
 obtain⟨f,args,hr,hc⟩:=h a w hF hS
 unfold Oper.wp
 rw [Dp,hr]
 show Calls _ _ _ _ _
 refine Calls.mono hc fun e w' he=>?_
 obtain⟨v',rfl,hv,hk⟩:=he
 subst hv
 exact hK _ (hS.Ll hk)
section
variable {i d:Nat} {op:Op} {T:TypeId} {pos:String} {Bl:Array Edge} {v:Value} {rest:List Oper} {D:List (Nat × (Nat × Value))} {k:List (Nat × (Nat × Value))→Prop} {j t:Nat} {c y:Bool}
theorem Rh {a:Act}(hF:Fr n a F)(hj:(ops[j]?).bind (·.dst)=some t)(hb:lk t F=some (cv c (.bool y)))(b:Bool):Region.wanted ⟨some d,op,T,pos,Bl,some (j,b)⟩ (yielded ops a.tmps)=(match b with | true=>c && y | false=>c && !y):=by
 cases c with
 | true=>simp only [Region.wanted,D0 hF hj hb];cases y<;>cases b<;>rfl
 | false=>
  have hy:yielded ops a.tmps j=none:=by
   unfold yielded
   rw [hj]
   simp [hF.get t _ hb]
   rfl
  simp only [Region.wanted,hy];cases y<;>cases b<;>rfl
end
end
end Go.Ing

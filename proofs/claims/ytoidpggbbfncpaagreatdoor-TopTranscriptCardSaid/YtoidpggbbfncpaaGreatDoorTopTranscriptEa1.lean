/- The engine: rules by which a walk over a function of the model goes operation by operation; data in cells; from a contract of a law to its row. No condition. -/
import Derived.Tactics2
import Derived.Below
import Derived.Orders
import Derived.KernelRfl
import Derived.LoopN
import Derived.IntWalk
import Derived.Laws.Small
import Derived.Laws.Strings
import Derived.Laws.StructEq
set_option linter.unusedSimpArgs false
set_option linter.unusedVariables false
/- Engine, part 1: frames, owned blocks, and the rules of control flow over the model's 'Code.wp'. -/
namespace Go.Ing
theorem J.{u}{α:Sort u}{a:α}:a=a:=Eq.refl a
open Go

def lk (k:Nat):List (Nat × Value)→Option Value
 | []=>none
 | (j,v) :: F=>bif Nat.beq k j then some v else lk k F

def ev (F:List (Nat × Value)):Operand→Option Value
 | .tmp t=>lk t F
 | .const v=>some v
 | .global g=>some (.pointer (some ⟨g,0,none⟩))
 | .func f=>some (.func (.func f) #[] #[])

structure Fr (n:Nat)(a:Act)(F:List (Nat × Value)):Prop where
 size:a.tmps.size=n
 defers:a.defers = []
 get:∀ k v,lk k F=some v→a.tmps[k]?=some v

theorem Fr.ev {n:Nat}{a:Act}{F:List (Nat × Value)}(h:Fr n a F){x:Operand}{v:Value}(hx:ev F x=some v):a.eval x=v:=by
 cases x with
 | tmp t=>have:=h.get t v hx;simp [Act.eval,this]
 | const c=>simpa [Ing.ev,Act.eval] using hx
 | global g=>simpa [Ing.ev,Act.eval] using hx
 | func f=>simpa [Ing.ev,Act.eval] using hx

theorem Fr.put {n:Nat}{a:Act}{F:List (Nat × Value)}(h:Fr n a F){d:Nat}(hd:d < n)(v:Value):Fr n (a.put (some d) v) ((d,v) :: F):=by
 refine⟨by simp [Act.put,h.size],h.defers,fun k u hk=>?_⟩
 simp only [Act.put]
 unfold lk at hk
 by_cases e:k=d
 ·subst e
  simp at hk
  subst hk
  simp [h.size,hd]
 ·have:Nat.beq k d=false:=Bool.eq_false_iff.2 fun h=>e (Nat.eq_of_beq_eq_true h)
  rw [this] at hk
  have:=h.get k u hk
  rw [Array.getElem?_setIfInBounds_ne (fun h=>e h.symm)]
  exact this

def put (d:Option Nat)(v:Value)(F:List (Nat × Value)):List (Nat × Value):=
 match d with | some d=>(d,v) :: F | none=>F

def Sub (F G:List (Nat × Value)):Prop:=∀ k v,lk k G=some v→lk k F=some v
theorem Sub.refl (F:List (Nat × Value)):Sub F F:=fun _ _ h=>h
theorem Sub.nil (F:List (Nat × Value)):Sub F []:=fun _ _ h=>by simp [lk] at h
theorem Sub.cons {F G:List (Nat × Value)}{k:Nat}{v:Value}(h:lk k F=some v)(hs:Sub F G):Sub F ((k,v) :: G):=by
 intro j u hj
 unfold lk at hj
 by_cases e:j=k
 ·subst e;simp at hj;subst hj;exact h
 ·have:Nat.beq j k=false:=Bool.eq_false_iff.2 fun h=>e (Nat.eq_of_beq_eq_true h)
  rw [this] at hj
  exact hs j u hj
theorem Fr.sub {n:Nat}{a:Act}{F G:List (Nat × Value)}(h:Fr n a F)(hs:Sub F G):Fr n a G:=⟨h.size,h.defers,fun k v hk=>h.get k v (hs k v hk)⟩

structure Ab where
 Cc:List Nat
 ok:World→Prop
 loc:∀ w w':World,(∀ b∈Cc,w'.heap[b]?=w.heap[b]?)→ok w→ok w'

def Ab.box (b:Nat)(T:TypeId)(cs:List Value):Ab where
 Cc:= [b]
 ok w:=w.heap[b]?=some (.cells cs.toArray T)
 loc w w' h hw:=by rw [h b (by simp)];exact hw

structure St (w0:World)(M:List Nat)(w:World)(L:List Ab):Prop where
 os:w.os=w0.os
 tape:w.tape=w0.tape
 output:w.output=w0.output
 size:w0.heap.size≤w.heap.size
 I7:∀ k,k < w0.heap.size→k ∉ M→w.heap[k]?=w0.heap[k]?
 ok:∀ r∈L,r.ok w
 Cc:∀ r∈L,∀ b∈r.Cc,b < w.heap.size∧(b < w0.heap.size→b∈M)
 Jc:L.Pairwise fun r s=>∀ b∈r.Cc,b ∉ s.Cc

theorem St.start (w:World)(M:List Nat):St w M w []:=
 ⟨rfl,rfl,rfl,Nat.le_refl _,fun _ _ _=>rfl,fun _ h=>by simp at h,fun _ h=>by simp at h, .nil⟩

theorem St.alloc {w0:World}{M:List Nat}{w:World}{L:List Ab}(h:St w0 M w L)(T:TypeId)(cs:List Value) :
  St w0 M (w.alloc (.cells cs.toArray T)) (Ab.box w.heap.size T cs :: L):=by
 have hb:∀ k,k < w.heap.size→(w.alloc (.cells cs.toArray T)).heap[k]?=w.heap[k]?:=fun k hk=>RowKit.Below.heap_alloc _ _ _ hk
 refine⟨h.os,h.tape,h.output,by have:=h.size;simp;omega,fun k hk hM=>(hb k (by have:=h.size;omega)).trans (h.I7 k hk hM),?_,?_,?_⟩
 ·intro r hr
  rcases List.mem_cons.1 hr with rfl | hr
  ·show(w.heap.push _)[w.heap.size]?=_
   simp
  ·exact r.loc w _ (fun b hbr=>hb b (h.Cc r hr b hbr).1) (h.ok r hr)
 ·intro r hr b hbr
  rcases List.mem_cons.1 hr with rfl | hr
  ·simp [Ab.box] at hbr;subst hbr
   refine⟨by simp,fun hlt=>?_⟩
   have:=h.size;omega
  ·have:=h.Cc r hr b hbr
   exact⟨by simp;omega,this.2⟩
 ·refine List.pairwise_cons.2 ⟨fun s hs b hbr hbs=>?_,h.Jc⟩
  simp [Ab.box] at hbr;subst hbr
  have:=(h.Cc s hs _ hbs).1
  omega

inductive Lc:List Ab→Ab→Ab→List Ab→Prop where
 | head {r r':Ab} {L:List Ab}:Lc (r :: L) r r' (r' :: L)
 | tail {s r r':Ab} {L L':List Ab} (h:Lc L r r' L'):Lc (s :: L) r r' (s :: L')

theorem Lc.mem {L L':List Ab}{r r':Ab}(h:Lc L r r' L'):r∈L:=by
 induction h with
 | head=>simp
 | tail _ ih=>simp [ih]

theorem Lc.cD {L L' : List Ab} {r r' : Ab} (h : Lc L r r' L') : ∀ s ∈ L', s = r' ∨ s ∈ L := by
  induction h with
  | head => intro s hs; rcases List.mem_cons.1 hs with h | h <;> simp [h]
  | tail _ ih => intro s hs; rcases List.mem_cons.1 hs with h | h
                 · simp [h]
                 · rcases ih s h with h | h <;> simp [h]

theorem Lc.Jc {L L':List Ab}{r r':Ab}(h:Lc L r r' L')(hf:∀ b∈r'.Cc,b∈r.Cc∨∀ s∈L,b ∉ s.Cc)(hd:L.Pairwise fun r s=>∀ b∈r.Cc,b ∉ s.Cc):L'.Pairwise fun r s=>∀ b∈r.Cc,b ∉ s.Cc:=by
 induction h with
 | head=>
  rename_i r r' L
  have hp:=List.pairwise_cons.1 hd
  refine List.pairwise_cons.2 ⟨fun s hs b hb hbs=>?_,hp.2⟩
  rcases hf b hb with h | h
  ·exact hp.1 s hs b h hbs
  ·exact h s (by simp [hs]) hbs
 | tail hu ih=>
  rename_i s r r' L L'
  have hp:=List.pairwise_cons.1 hd
  refine List.pairwise_cons.2 ⟨fun t ht b hb hbt=>?_,ih (fun b hb=>?_) hp.2⟩
  ·rcases hu.cD t ht with rfl | ht
   ·rcases hf b hbt with h | h
    ·exact hp.1 _ hu.mem b hb h
    ·exact h s (by simp) hb
   ·exact hp.1 t ht b hb hbt
  ·rcases hf b hb with h | h
   ·exact .inl h
   ·exact .inr fun t ht=>h t (by simp [ht])

theorem Lc.others {L L':List Ab}{r r':Ab}(h:Lc L r r' L')(hd:L.Pairwise fun r s=>∀ b∈r.Cc,b ∉ s.Cc):∀ s∈L',s=r'∨(s∈L∧∀ b∈r.Cc,b ∉ s.Cc):=by
 induction h with
 | head=>
  intro s hs
  have hp:=List.pairwise_cons.1 hd
  rcases List.mem_cons.1 hs with rfl | hs
  ·simp
  ·exact .inr ⟨by simp [hs],hp.1 s hs⟩
 | tail hu ih=>
  intro s hs
  have hp:=List.pairwise_cons.1 hd
  rcases List.mem_cons.1 hs with rfl | hs
  ·exact .inr ⟨by simp,fun b hb hbs=>hp.1 _ hu.mem b hbs hb⟩
  ·rcases ih hp.2 s hs with h | ⟨h1,h2⟩
   ·exact .inl h
   ·exact .inr ⟨by simp [h1],h2⟩

theorem St.Dz {w0:World}{M:List Nat}{w w':World}{L L':List Ab}{r r':Ab}(h:St w0 M w L)(hu:Lc L r r' L')
  (hos:w'.os=w.os) (htape:w'.tape=w.tape) (hout:w'.output=w.output) (hsz:w.heap.size≤w'.heap.size)
  (hkeep:∀ k,k < w.heap.size→k ∉ r.Cc→w'.heap[k]?=w.heap[k]?) (hok:r'.ok w')
  (hf:∀ b∈r'.Cc,b < w'.heap.size∧(b∈r.Cc∨w.heap.size≤b)):St w0 M w' L':=by
 refine⟨hos.trans h.os,htape.trans h.tape,hout.trans h.output,Nat.le_trans h.size hsz,?_,?_,?_,?_⟩
 ·intro k hk hM
  have hr:k ∉ r.Cc:=fun hkr=>hM ((h.Cc r hu.mem k hkr).2 hk)
  exact(hkeep k (by have:=h.size;omega) hr).trans (h.I7 k hk hM)
 ·intro s hs
  rcases hu.others h.Jc s hs with rfl | ⟨h1,h2⟩
  ·exact hok
  ·exact s.loc w w' (fun b hb=>hkeep b (h.Cc s h1 b hb).1 (fun hbr=>h2 b hbr hb)) (h.ok s h1)
 ·intro s hs b hb
  rcases hu.others h.Jc s hs with rfl | ⟨h1,h2⟩
  ·obtain⟨a1,a2⟩:=hf b hb
   refine⟨a1,fun hlt=>?_⟩
   rcases a2 with a2 | a2
   ·exact(h.Cc r hu.mem b a2).2 hlt
   ·have:=h.size;omega
  ·have:=h.Cc s h1 b hb
   exact⟨by omega,this.2⟩
 ·refine hu.Jc (fun b hb=>?_) h.Jc
  rcases (hf b hb).2 with a2 | a2
  ·exact .inl a2
  ·exact .inr fun s hs hbs=>by have:=(h.Cc s hs b hbs).1;omega

theorem St.sub {w0:World}{M:List Nat}{w:World}{L L':List Ab}(h:St w0 M w L)(hs:L'.Sublist L):St w0 M w L':=
 ⟨h.os,h.tape,h.output,h.size,h.I7,fun r hr=>h.ok r (hs.subset hr),fun r hr=>h.Cc r (hs.subset hr),h.Jc.sublist hs⟩

theorem St.drew {w0:World}{M:List Nat}{w:World}{L:List Ab}(h:St w0 M w L)(n:Nat):St w0 M { w with drawn:=n } L:=
 ⟨h.os,h.tape,h.output,h.size,h.I7,fun r hr=>r.loc w _ (fun _ _=>rfl) (h.ok r hr),h.Cc,h.Jc⟩

/-! ### Control -/
section
variable (P:Program) (n:Nat) (w0:World) (M:List Nat)

def G (c:Code)(Q:Exit→Act→World→Prop)(F:List (Nat × Value))(L:List Ab):Prop:=
 ∀ a w,Fr n a F→St w0 M w L→c.wp P Q a w
def GL (ops:Array Oper)(Q:Exit→Act→World→Prop)(l:List Oper)(F:List (Nat × Value))(L:List Ab):Prop:=
 ∀ a w,Fr n a F→St w0 M w L→wpList P ops Q l a w
def GQ (Q:Exit→Act→World→Prop)(e:Exit)(F:List (Nat × Value))(L:List Ab):Prop:=
 ∀ a w,Fr n a F→St w0 M w L→Q e a w
end

section
variable {P:Program} {n:Nat} {w0:World} {M:List Nat} {Q:Exit→Act→World→Prop} {F:List (Nat × Value)} {L:List Ab}

theorem Aq {x y:Code}(h:G P n w0 M x (Exit.then (y.wp P Q) Q) F L):G P n w0 M (.seq x y) Q F L:=fun a w hF hS=>wp_seq (h a w hF hS)
theorem Ag {id:Nat}{c:Code}(h:G P n w0 M c (Exit.inBlock id Q) F L):G P n w0 M (.block id c) Q F L:=fun a w hF hS=>wp_block (h a w hF hS)
theorem Bg {id:Nat}(h:GQ n w0 M Q (.exit id) F L):G P n w0 M (.exit id) Q F L:=fun a w hF hS=>wp_exit (h a w hF hS)
theorem Ac (h:GQ n w0 M Q .ret F L):G P n w0 M .ret Q F L:=fun a w hF hS=>wp_ret (h a w hF hS)
theorem Aa (h:GQ n w0 M Q .normal F L):G P n w0 M .skip Q F L:=fun a w hF hS=>wp_skip (h a w hF hS)
theorem O6 {c:Operand}{x y:Code}{b:Bool}(hc:ev F c=some (.bool b))(ht:b=true→G P n w0 M x Q F L)(hf:b=false→G P n w0 M y Q F L):G P n w0 M (.cond c x y) Q F L:=
 fun a w hF hS=>wp_cond_split (hF.ev hc) (fun h=>ht h a w hF hS) (fun h=>hf h a w hF hS)
theorem HW {c:Operand}{x y:Code}{b:Bool}(hc:ev F c=some (.bool b))(hb:b=true)(ht:G P n w0 M x Q F L):G P n w0 M (.cond c x y) Q F L:=
 O6 hc (fun _=>ht) (fun h=>by rw [hb] at h;cases h)
theorem D9 {c:Operand}{x y:Code}{b:Bool}(hc:ev F c=some (.bool b))(hb:b=false)(hf:G P n w0 M y Q F L):G P n w0 M (.cond c x y) Q F L:=
 O6 hc (fun h=>by rw [hb] at h;cases h) (fun _=>hf)
theorem AJ {id:Nat}{l:List Oper}(h:GL P n w0 M l.toArray Q l F L):G P n w0 M (.region id l.toArray false) Q F L:=fun a w hF hS=>wp_region_lit (h a w hF hS)
theorem AR {ops:Array Oper}(h:GQ n w0 M Q .normal F L):GL P n w0 M ops Q [] F L:=fun a w hF hS=>wpList_nil (h a w hF hS)

theorem AA {y:Code}(h:G P n w0 M y Q F L):GQ n w0 M (Exit.then (y.wp P Q) Q) .normal F L:=h
theorem AD {K:Act→World→Prop}(h:GQ n w0 M Q .ret F L):GQ n w0 M (Exit.then K Q) .ret F L:=h
theorem AW {K:Act→World→Prop}{id:Nat}(h:GQ n w0 M Q (.exit id) F L):GQ n w0 M (Exit.then K Q) (.exit id) F L:=h
theorem AV {id:Nat}(h:GQ n w0 M Q .normal F L):GQ n w0 M (Exit.inBlock id Q) .normal F L:=fun a w hF hS=>by simpa [Exit.inBlock] using h a w hF hS
theorem Ah {id:Nat}(h:GQ n w0 M Q .normal F L):GQ n w0 M (Exit.inBlock id Q) (.exit id) F L:=fun a w hF hS=>by simpa [Exit.inBlock] using h a w hF hS
theorem KC {id j:Nat}(hj:(j == id)=false)(h:GQ n w0 M Q (.exit j) F L):GQ n w0 M (Exit.inBlock id Q) (.exit j) F L:=fun a w hF hS=>by
 have:j≠id:=by simpa using hj
 simpa [Exit.inBlock,this] using h a w hF hS
theorem AS {id:Nat}(h:GQ n w0 M Q .ret F L):GQ n w0 M (Exit.inBlock id Q) .ret F L:=fun a w hF hS=>by simpa [Exit.inBlock] using h a w hF hS

def At (n:Nat)(w0:World)(M:List Nat){σ:Type}(I:σ→Prop)(Fs:σ→List (Nat × Value))(Ls:σ→List Ab)(a:Act)(w:World):Prop:=∃ s,I s∧Fr n a (Fs s)∧St w0 M w (Ls s)
theorem Wh {σ:Type}{x y:Code}(I:σ→Prop)(Fs:σ→List (Nat × Value))(Ls:σ→List Ab)
  (hx:G P n w0 M x (Exit.then (At n w0 M I Fs Ls) Q) F L) (hy:∀ s,I s→G P n w0 M y Q (Fs s) (Ls s)):G P n w0 M (.seq x y) Q F L:=by
 intro a w hF hS
 refine wp_seq (wp_mono (hx a w hF hS) fun e a' w' q=>?_)
 cases e with
 | normal=>obtain⟨s,hI,hF',hS'⟩:=q;exact hy s hI a' w' hF' hS'
 | _=>exact q
theorem WD {σ:Type}{I:σ→Prop}{Fs:σ→List (Nat × Value)}{Ls:σ→List Ab}(s:σ)(hI:I s)(hF:Sub F (Fs s))(hL:(Ls s).Sublist L):GQ n w0 M (Exit.then (At n w0 M I Fs Ls) Q) .normal F L:=
 fun _ _ hf hS=>⟨s,hI,hf.sub hF,hS.sub hL⟩

def bM (n:Nat)(w0:World)(M:List Nat){σ:Type}(I:σ→Prop)(μ:σ→Nat)(Fs:σ→List (Nat × Value))(Ls:σ→List Ab)(m:Nat)(a:Act)(w:World):Prop:=∃ s,I s∧μ s < m∧Fr n a (Fs s)∧St w0 M w (Ls s)
theorem KO {σ:Type}{c:Code}(I:σ→Prop)(μ:σ→Nat)(Fs:σ→List (Nat × Value))(Ls:σ→List Ab)(s0:σ)(h0:I s0)(hF0:Sub F (Fs s0))(hL0:(Ls s0).Sublist L)
  (round:∀ s,I s→G P n w0 M c (Exit.then (bM n w0 M I μ Fs Ls (μ s)) Q) (Fs s) (Ls s)):G P n w0 M (.loop c) Q F L:=by
 intro a w hF hS
 have key:∀ m s,μ s < m→I s→∀ a w,Fr n a (Fs s)→St w0 M w (Ls s)→Code.rounds P c Q m a w:=by
  intro m
  induction m with
  | zero=>intro s h;omega
  | succ m ih=>
   intro s hm hI a w hf hs
   rw [rounds_succ]
   refine wp_mono (round s hI a w hf hs) fun e a' w' q=>?_
   cases e with
   | normal=>obtain⟨s',hI',hlt,hF',hS'⟩:=q;exact ih s' (by omega) hI' a' w' hF' hS'
   | _=>exact q
 exact wp_loop_rounds _ (key _ s0 (Nat.lt_succ_self _) h0 a w (hF.sub hF0) (hS.sub hL0))
theorem Ip {σ:Type}{I:σ→Prop}{μ:σ→Nat}{Fs:σ→List (Nat × Value)}{Ls:σ→List Ab}{m:Nat}(s:σ)(hI:I s)(hm:μ s < m)(hF:Sub F (Fs s))(hL:(Ls s).Sublist L):GQ n w0 M (Exit.then (bM n w0 M I μ Fs Ls m) Q) .normal F L:=
 fun _ _ hf hS=>⟨s,hI,hm,hf.sub hF,hS.sub hL⟩
end
end Go.Ing
/- Engine, part 2: the operations, one lemma each. -/
namespace Go.Ing
open Go

abbrev BW (l:List UInt8):Value:= .string ⟨l.toArray⟩

section
variable (P:Program) (n:Nat) (w0:World) (M:List Nat)
def PS (op:Op)(T:TypeId)(F:List (Nat × Value))(L:List Ab)(v:Value)(L':List Ab):Prop:=
 ∀ a w, Fr n a F → St w0 M w L → ∃ w', (execOp a.eval ⟨none, op, T, "", #[], none⟩).run P w = .ok (.value v) w' ∧ (w' = w ∧ L' = L)
def PU (op:Op)(T:TypeId)(F:List (Nat × Value))(L:List Ab)(L':List Ab):Prop:=
 ∀ a w, Fr n a F → St w0 M w L → ∃ w', (execOp a.eval ⟨none, op, T, "", #[], none⟩).run P w = .ok .skip w' ∧ St w0 M w' L'
def PX (op:Op)(T:TypeId)(F:List (Nat × Value))(L:List Ab)(R:Value→List Ab→Prop):Prop:=
 ∀ a w, Fr n a F → St w0 M w L → ∃ v L' w', R v L' ∧ (execOp a.eval ⟨none, op, T, "", #[], none⟩).run P w = .ok (.value v) w' ∧ St w0 M w' L'
end

theorem EW (ρ:Operand→Value)(d:Option Tmp)(op:Op)(T:TypeId)(pos:String)(Cu:Array Edge)(g:Option (Nat × Bool)) :
  execOp ρ ⟨d, op, T, pos, Cu, g⟩ = execOp ρ ⟨none, op, T, "", #[], none⟩ := by
 cases op<;>rfl

section
variable {P:Program} {n:Nat} {w0:World} {M:List Nat} {Q:Exit→Act→World→Prop} {F:List (Nat × Value)} {L L':List Ab} {ops:Array Oper} {rest:List Oper}

theorem LC {d:Nat}{op:Op}{T:TypeId}{pos:String}{Cu:Array Edge}{v:Value}(hd:Nat.blt d n=true)(h:PS P n w0 M op T F L v L')
  (k:GL P n w0 M ops Q rest ((d,v) :: F) L'):GL P n w0 M ops Q (⟨some d,op,T,pos,Cu,none⟩ :: rest) F L:=by
 intro a w hF hS
 obtain⟨_,hr,rfl,rfl⟩:=h a w hF hS
 refine wpList_plain rfl fun K hK=>?_
 unfold Oper.wp
 rw [EW,hr]
 exact hK _ _ (k _ _ (hF.put (by simpa [Nat.blt_eq] using hd) v) hS)
theorem AT {op:Op}{T:TypeId}{pos:String}{Cu:Array Edge}(h:PU P n w0 M op T F L L')
  (k:GL P n w0 M ops Q rest F L'):GL P n w0 M ops Q (⟨none,op,T,pos,Cu,none⟩ :: rest) F L:=by
 intro a w hF hS
 obtain⟨w',hr,hS'⟩:=h a w hF hS
 refine wpList_plain rfl fun K hK=>?_
 unfold Oper.wp
 rw [EW,hr]
 exact hK _ _ (k _ _ hF hS')
theorem GU {d:Nat}{op:Op}{T:TypeId}{pos:String}{Cu:Array Edge}{R:Value→List Ab→Prop}(hd:Nat.blt d n=true)(h:PX P n w0 M op T F L R)
  (k:∀ v L',R v L'→GL P n w0 M ops Q rest ((d,v) :: F) L'):GL P n w0 M ops Q (⟨some d,op,T,pos,Cu,none⟩ :: rest) F L:=by
 intro a w hF hS
 obtain⟨v,L',w',hR,hr,hS'⟩:=h a w hF hS
 refine wpList_plain rfl fun K hK=>?_
 unfold Oper.wp
 rw [EW,hr]
 exact hK _ _ (k v L' hR _ _ (hF.put (by simpa [Nat.blt_eq] using hd) v) hS')

/-! #### guards -/
theorem cG {l:List Oper}(t:Nat){b:Bool}(h:lk t F=some (.bool b))(ht:b=true→GL P n w0 M ops Q l ((t, .bool true) :: F) L)(hf:b=false→GL P n w0 M ops Q l ((t, .bool false) :: F) L):GL P n w0 M ops Q l F L:=by
 intro a w hF hS
 cases b with
 | true=>exact ht rfl a w (hF.sub (fun k v hk=>by
   unfold lk at hk
   by_cases e:k=t
   ·subst e;simp at hk;subst hk;exact h
   ·rw [show Nat.beq k t=false from Bool.eq_false_iff.2 fun h=>e (Nat.eq_of_beq_eq_true h)] at hk;exact hk)) hS
 | false=>exact hf rfl a w (hF.sub (fun k v hk=>by
   unfold lk at hk
   by_cases e:k=t
   ·subst e;simp at hk;subst hk;exact h
   ·rw [show Nat.beq k t=false from Bool.eq_false_iff.2 fun h=>e (Nat.eq_of_beq_eq_true h)] at hk;exact hk)) hS
theorem Fi {a:Act}(hF:Fr n a F){j t:Nat}(hj:(ops[j]?).bind (·.dst)=some t){b:Bool}(h:lk t F=some (.bool b)):yielded ops a.tmps j=some b:=by
 unfold yielded
 rw [hj]
 simp [hF.get t _ h]
theorem D7 {d:Nat}{op:Op}{T:TypeId}{pos:String}{Cu:Array Edge}{v:Value}{j t:Nat}{b:Bool}(hj:(ops[j]?).bind (·.dst)=some t)(hb:lk t F=some (.bool b))(hd:Nat.blt d n=true)(h:PS P n w0 M op T F L v L')
  (k:GL P n w0 M ops Q rest ((d,v) :: F) L'):GL P n w0 M ops Q (⟨some d,op,T,pos,Cu,some (j,b)⟩ :: rest) F L:=by
 intro a w hF hS
 obtain⟨_,hr,rfl,rfl⟩:=h a w hF hS
 refine wpList_step fun K hK=>?_
 rw [if_pos (by simp [Region.wanted,Fi hF hj hb])]
 unfold Oper.wp
 rw [EW,hr]
 exact hK _ _ (k _ _ (hF.put (by simpa [Nat.blt_eq] using hd) v) hS)
theorem DS {d:Nat}{op:Op}{T:TypeId}{pos:String}{Cu:Array Edge}{j t:Nat}{b c:Bool}(hj:(ops[j]?).bind (·.dst)=some t)(hb:lk t F=some (.bool c))(hc:(c == b)=false)(hd:Nat.blt d n=true)
  (k:GL P n w0 M ops Q rest ((d,undef) :: F) L):GL P n w0 M ops Q (⟨some d,op,T,pos,Cu,some (j,b)⟩ :: rest) F L:=by
 intro a w hF hS
 refine wpList_step fun K hK=>?_
 rw [if_neg (by simp [Region.wanted,Fi hF hj hb];simpa using hc)]
 exact hK _ _ (k _ _ (hF.put (by simpa [Nat.blt_eq] using hd) undef) hS)
theorem G1 {d:Nat}{op:Op}{T:TypeId}{pos:String}{Cu:Array Edge}{j t:Nat}{b:Bool}(hj:(ops[j]?).bind (·.dst)=some t)(hb:lk t F=some undef)(hd:Nat.blt d n=true)
  (k:GL P n w0 M ops Q rest ((d,undef) :: F) L):GL P n w0 M ops Q (⟨some d,op,T,pos,Cu,some (j,b)⟩ :: rest) F L:=by
 intro a w hF hS
 refine wpList_step fun K hK=>?_
 have hy:yielded ops a.tmps j=none:=by
  unfold yielded
  rw [hj]
  simp [hF.get t _ hb]
  rfl
 rw [if_neg (by simp [Region.wanted,hy])]
 exact hK _ _ (k _ _ (hF.put (by simpa [Nat.blt_eq] using hd) undef) hS)

/-! #### operations that leave the world alone -/
theorem CR {op : Op} {T : TypeId} {v : Value} (h : ∀ a w, Fr n a F → (execOp a.eval ⟨none, op, T, "", #[], none⟩).run P w = .ok (.value v) w) : PS P n w0 M op T F L v L :=
 fun a w hF _=>⟨w,h a w hF,rfl,rfl⟩
theorem AF {x:Operand}{T:TypeId}{v:Value}(h:ev F x=some v):PS P n w0 M (.move x) T F L v L:=CR fun a w hF=>by simp [execOp,hF.ev h]
theorem A0 {x:Operand}{T:TypeId}{v:Value}(h:ev F x=some v):PS P n w0 M (.assign x) T F L v L:=CR fun a w hF=>by simp [execOp,hF.ev h]
theorem Dm {c x y:Operand}{T:TypeId}{v:Value}(hc:ev F c=some (.bool true))(h:ev F x=some v):PS P n w0 M (.pick c x y) T F L v L:=CR fun a w hF=>by simp [execOp,hF.ev h,hF.ev hc,asBool]
theorem C8 {c x y:Operand}{T:TypeId}{v:Value}(hc:ev F c=some (.bool false))(h:ev F y=some v):PS P n w0 M (.pick c x y) T F L v L:=CR fun a w hF=>by simp [execOp,hF.ev h,hF.ev hc,asBool]
theorem AM {x:Operand}{T:TypeId}{i:Nat}{vs:List Value}{v:Value}(hx:ev F x=some (.tuple vs.toArray))(h:vs[i]?=some v):PS P n w0 M (.extract x i) T F L v L:=CR fun a w hF=>by
 simp [execOp,hF.ev hx,Instr.extract,h]
end
section
variable {P:Program} {n:Nat} {w0:World} {M:List Nat} {F:List (Nat × Value)} {L L':List Ab}
variable {x y:Operand} {T U V:TypeId} {k:IntKind} {a b:Int}
theorem BA (hx:ev F x=some (.int k a))(hy:ev F y=some (.int k b)):PS P n w0 M (.binOp .lss U x y V) T F L (.bool (decide (a < b))) L:=CR fun e w hF=>by
 simp [execOp,hF.ev hx,hF.ev hy,eqGuard,binOp,Op.intCmp]
theorem I3 (hx:ev F x=some (.int k a))(hy:ev F y=some (.int k b)):PS P n w0 M (.binOp .leq U x y V) T F L (.bool (decide (a≤b))) L:=CR fun e w hF=>by
 simp [execOp,hF.ev hx,hF.ev hy,eqGuard,binOp,Op.intCmp]
theorem Cs (hx:ev F x=some (.int k a))(hy:ev F y=some (.int k b)):PS P n w0 M (.binOp .gtr U x y V) T F L (.bool (decide (b < a))) L:=CR fun e w hF=>by
 simp [execOp,hF.ev hx,hF.ev hy,eqGuard,binOp,Op.intCmp]
theorem CZ (hx:ev F x=some (.int k a))(hy:ev F y=some (.int k b)):PS P n w0 M (.binOp .geq U x y V) T F L (.bool (decide (b≤a))) L:=CR fun e w hF=>by
 simp [execOp,hF.ev hx,hF.ev hy,eqGuard,binOp,Op.intCmp]
theorem Ai (hx:ev F x=some (.int k a))(hy:ev F y=some (.int k b)):PS P n w0 M (.binOp .eql U x y V) T F L (.bool (decide (a=b))) L:=CR fun e w hF=>by
 simp [execOp,hF.ev hx,hF.ev hy,eqGuard,binOp,Op.intCmp];rfl
theorem Cm (hx:ev F x=some (.int k a))(hy:ev F y=some (.int k b)):PS P n w0 M (.binOp .neq U x y V) T F L (.bool (!decide (a=b))) L:=CR fun e w hF=>by
 simp [execOp,hF.ev hx,hF.ev hy,eqGuard,binOp,Op.intCmp,bne];rfl
theorem Ay (hx:ev F x=some (.int k a))(hy:ev F y=some (.int k b)){c:Int}(hc:k.wrap (a+b)=c):PS P n w0 M (.binOp .add U x y V) T F L (.int k c) L:=CR fun e w hF=>by
 simp [execOp,hF.ev hx,hF.ev hy,eqGuard,binOp,Op.intArith,hc]
theorem FT (hx:ev F x=some (.int k a))(hy:ev F y=some (.int k b)){c:Int}(hc:k.wrap (a - b)=c):PS P n w0 M (.binOp .sub U x y V) T F L (.int k c) L:=CR fun e w hF=>by
 simp [execOp,hF.ev hx,hF.ev hy,eqGuard,binOp,Op.intArith,hc]
theorem Zw (hx:ev F x=some (.int k a))(hy:ev F y=some (.int k b)){c:Int}(hc:k.wrap (a * b)=c):PS P n w0 M (.binOp .mul U x y V) T F L (.int k c) L:=CR fun e w hF=>by
 simp [execOp,hF.ev hx,hF.ev hy,eqGuard,binOp,Op.intArith,hc]
theorem VO (hx:ev F x=some (.int k a))(hy:ev F y=some (.int k b))(hb:b≠0):PS P n w0 M (.binOp .rem U x y V) T F L (.int k (a.tmod b)) L:=CR fun e w hF=>by
 simp [execOp,hF.ev hx,hF.ev hy,eqGuard,binOp,Op.intDiv,hb]
theorem BZ {p:Bool}(hx:ev F x=some (.bool p)):PS P n w0 M (.unOp .not U x) T F L (.bool (!p)) L:=CR fun e w hF=>by
 simp [execOp,hF.ev hx,Op.unary]
theorem Oz {k':IntKind}(hu:P.underlying V=some (.int k'))(hU:P.underlying U=some (.int k))(hx:ev F x=some (.int k a)){c:Int}(hc:k'.wrap a=c):PS P n w0 M (.convert U V x) T F L (.int k' c) L:=CR fun e w hF=>by
 simp [execOp,hF.ev hx,convert,underlying,hu,hU,Conv.intToInt,hc]
theorem Kb {p q:Bool}(hu:P.underlying U=some .bool)(hx:ev F x=some (.bool p))(hy:ev F y=some (.bool q)):PS P n w0 M (.binOp .eql U x y V) T F L (.bool (p == q)) L:=CR fun e w hF=>by
 simp [execOp,hF.ev hx,hF.ev hy,eqGuard,run_eql_bool w U p q hu]
theorem KV {p q:Bool}(hu:P.underlying U=some .bool)(hx:ev F x=some (.bool p))(hy:ev F y=some (.bool q)):PS P n w0 M (.binOp .neq U x y V) T F L (.bool (p != q)) L:=CR fun e w hF=>by
 simp [execOp,hF.ev hx,hF.ev hy,eqGuard,run_neq_bool w U p q hu];cases p<;>cases q<;>rfl
end
/-! #### strings -/
theorem Wb (s t:List UInt8):(s == t)=decide (s=t):=by
 by_cases h:s=t<;>simp [h]
section
variable {P:Program} {n:Nat} {w0:World} {M:List Nat} {F:List (Nat × Value)} {L L':List Ab}
variable {x y:Operand} {T U V:TypeId} {s t:List UInt8}
theorem B4 (hx:ev F x=some (BW s))(hy:ev F y=some (BW t)):PS P n w0 M (.binOp .eql U x y V) T F L (.bool (decide (s=t))) L:=CR fun e w hF=>by
 simp [execOp,hF.ev hx,hF.ev hy,eqGuard,binOp,Op.stringOp,Wb]
theorem DK (hx:ev F x=some (BW s))(hy:ev F y=some (BW t)):PS P n w0 M (.binOp .neq U x y V) T F L (.bool (!decide (s=t))) L:=CR fun e w hF=>by
 simp [execOp,hF.ev hx,hF.ev hy,eqGuard,binOp,Op.stringOp,Wb]
theorem MW (l:List UInt8):(ByteArray.mk l.toArray).size=l.length:=rfl
theorem Xh (s t:List UInt8):(ByteArray.mk s.toArray)++(ByteArray.mk t.toArray)=ByteArray.mk (s++t).toArray:=by
 apply ByteArray.ext
 simp
theorem CJ (hx:ev F x=some (BW s))(hy:ev F y=some (BW t))(hl:s.length+t.length≤9223372036854775807):PS P n w0 M (.binOp .add U x y V) T F L (BW (s++t)) L:=CR fun e w hF=>by
 have h:¬ ((((ByteArray.mk s.toArray).size+(ByteArray.mk t.toArray).size:Nat):Int) > IntKind.i64.max):=by
  have:IntKind.i64.max=9223372036854775807:=by decide
  rw [MW,MW,this]
  omega
 simp only [execOp,hF.ev hx,hF.ev hy,eqGuard,binOp,Op.stringOp]
 rw [if_neg h,Xh]
 simp
theorem BN {ts:Array TypeId}(ht:ts[0]?=some U)(hu:P.underlying U=some .string)(hx:ev F x=some (BW s)):PS P n w0 M (.call ⟨.builtin .len,#[x],ts⟩) T F L (.int .i64 s.length) L:=CR fun e w hF=>by
 simp [execOp,resolve,invoke,builtin,Builtin.len_,ht,hF.ev hx,underlying,hu,goInt]
 exact congrArg Int.ofNat (MW s)
theorem Au {ts:Array TypeId}{E:TypeId}{p:Option Addr}{l c:Nat}(ht:ts[0]?=some U)(hu:P.underlying U=some (.slice E))(hx:ev F x=some (.slice p l c)):PS P n w0 M (.call ⟨.builtin .len,#[x],ts⟩) T F L (.int .i64 l) L:=CR fun e w hF=>by
 simp [execOp,resolve,invoke,builtin,Builtin.len_,ht,hF.ev hx,underlying,hu,goInt]
theorem getElem?_mk (s:List UInt8)(i:Nat)(h:i < s.length):(ByteArray.mk s.toArray)[i]?=some (s.getD i 0):=by
 rw [getElem?_pos _ _ (by exact h)]
 simp [ByteArray.getElem_eq_getElem_data,List.getD,h]
theorem Bt {k:IntKind}{i:Int}(hu:P.underlying U=some .string)(hx:ev F x=some (BW s))(hy:ev F y=some (.int k i))(h0:0≤i)(h1:i < s.length):PS P n w0 M (.index U x y) T F L (.int .u8 (s.getD i.toNat 0).toNat) L:=CR fun e w hF=>by
 simp only [execOp,Instr.index,hF.ev hx,hF.ev hy,asIntOf,underlying]
 simp [hu,h0,getElem?_mk s i.toNat (by omega)]
end
end Go.Ing
/- Engine, part 3: memory, calls, a function's body. -/
namespace Go.Ing
open Go

def De (l:List Value)(o:Nat)(m:List Value):List Value:=l.take o++m++l.drop (o+m.length)
theorem Em {l:List Value}{o:Nat}{m:List Value}(h:o+m.length≤l.length):(De l o m).length=l.length:=by
 simp [De];omega
theorem MJ (l:List Value)(o:Nat):De l o []=l:=by simp [De]
theorem EF {l:List Value}{o:Nat}{m:List Value}(h:o+m.length≤l.length)(i:Nat) :
  (De l o m)[i]?=if i < o then l[i]? else if i < o+m.length then m[i - o]? else l[i]?:=by
 simp only [De,List.getElem?_append,List.length_take,List.getElem?_take,List.getElem?_drop,List.length_append]
 rw [Nat.min_eq_left (by omega)]
 by_cases h1:i < o
 ·rw [if_pos (by omega),if_pos h1,if_pos h1,if_pos h1]
 ·by_cases h2:i < o+m.length
  ·rw [if_pos h2,if_neg h1,if_neg h1,if_pos h2]
  ·rw [if_neg h2,if_neg h1,if_neg h2]
   congr 1;omega
theorem Ki {l:List Value}{o:Nat}{v:Value}{m:List Value}(h:o+(m.length+1)≤l.length):De l o (v :: m)=De (l.set o v) (o+1) m:=by
 apply List.ext_getElem?
 intro i
 rw [EF (by simpa using h),EF (by simp;omega),List.length_cons]
 simp only [List.getElem?_set]
 by_cases h1:i < o
 ·rw [if_pos h1,if_pos (by omega),if_neg (by omega)]
 ·by_cases h2:i=o
  ·subst h2
   rw [if_neg (by omega),if_pos (by omega),if_pos (by omega),if_pos rfl,if_pos (by omega)]
   simp
  ·by_cases h3:i < o+(m.length+1)
   ·rw [if_neg h1,if_pos h3,if_neg (by omega),if_pos (by omega),show i - o=(i - (o+1))+1 by omega,List.getElem?_cons_succ]
   ·rw [if_neg h1,if_neg h3,if_neg (by omega),if_neg (by omega),if_neg (by omega)]
theorem Ql {l m:List Value}{o1 o2 sz:Nat}(h1:o1+sz≤l.length)(h2:o2+m.length≤sz):De l o1 (De ((l.drop o1).take sz) o2 m)=De l (o1+o2) m:=by
 have hl:((l.drop o1).take sz).length=sz:=by simp;omega
 have hs:(De ((l.drop o1).take sz) o2 m).length=sz:=by rw [Em (by omega),hl]
 apply List.ext_getElem?
 intro i
 rw [EF (l:=l) (o:=o1) (by omega),EF (l:=l) (o:=o1+o2) (by omega),hs]
 by_cases a1:i < o1
 ·rw [if_pos a1,if_pos (by omega)]
 ·rw [if_neg a1]
  by_cases a2:i < o1+sz
  ·rw [if_pos a2,EF (by omega)]
   simp only [List.getElem?_take,List.getElem?_drop]
   rw [show o1+(i - o1)=i by omega,show i - o1 - o2=i - (o1+o2) by omega]
   by_cases a3:i < o1+o2
   ·rw [if_pos (by omega),if_pos a3,if_pos (by omega)]
   ·rw [if_neg (by omega),if_neg a3]
    by_cases a4:i < o1+o2+m.length
    ·rw [if_pos (by omega),if_pos a4]
    ·rw [if_neg (by omega),if_neg a4,if_pos (by omega)]
  ·rw [if_neg a2,if_neg (by omega),if_neg (by omega)]

theorem Eo (b o k:Nat):(⟨b,o,none⟩:Addr).add k=⟨b,o+k,none⟩:=by
 unfold Addr.add;split
 ·rename_i h;subst h;rfl
 ·rfl

theorem IZ {w:World}{b i:Nat}{T:TypeId}{cs:List Value}{fz:Nat × Nat}(h:w.heap[b]?=some (.cells cs.toArray T fz)):w.cell? ⟨b,i,none⟩=cs[i]?:=by
 simp [World.cell?,h]
theorem X8 {w:World}{b i:Nat}{T:TypeId}{cs:List Value}(h:w.heap[b]?=some (.cells cs.toArray T)):w.frozen? ⟨b,i,none⟩=false:=by
 simp [World.frozen?,h]

theorem UP {P:Program}{w:World}{a:Addr}{v:Value}(h:w.cell? a=some v):(load a).run P w = .ok v w:=by
 simp [h]

theorem JM {P:Program}{w:World}{b o:Nat}{T:TypeId}{cs:List Value}{fz:Nat × Nat}(h:w.heap[b]?=some (.cells cs.toArray T fz)) :
  ∀(k i:Nat) (acc:Array Value),o+i+k≤cs.length→(loadCellsFrom ⟨b,o,none⟩ i k acc).run P w = .ok (acc++((cs.drop (o+i)).take k).toArray) w
 | 0,i,acc,_=>by simp [loadCellsFrom]
 | k+1,i,acc,hk=>by
  have hc:w.cell? ((⟨b,o,none⟩:Addr).add i)=some cs[o+i]:=by rw [Eo,IZ h];exact List.getElem?_eq_getElem (by omega)
  simp only [loadCellsFrom,Sem.run_bind,UP hc,Result.andThen_ok]
  rw [JM h k (i+1) _ (by omega)]
  congr 1
  apply Array.ext'
  rw [List.drop_eq_getElem_cons (show o+i < cs.length by omega)]
  simp [Nat.add_assoc]
theorem FF {P:Program}{w:World}{b o k:Nat}{T:TypeId}{cs:List Value}{fz:Nat × Nat}(h:w.heap[b]?=some (.cells cs.toArray T fz))(hk:o+k≤cs.length) :
  (loadCells ⟨b,o,none⟩ k).run P w = .ok ((cs.drop o).take k).toArray w:=by
 have:=JM (P:=P) (o:=o) h k 0 #[] (by omega)
 simpa [loadCells] using this

theorem Vq {w:World}{b i:Nat}{T:TypeId}{cs:List Value}(h:w.heap[b]?=some (.cells cs.toArray T))(v:Value) :
  (w.setCell ⟨b,i,none⟩ v).heap=w.heap.setIfInBounds b (.cells (cs.set i v).toArray T):=by
 apply Array.ext'
 apply List.ext_getElem?
 intro j
 simp only [World.setCell,Array.getElem?_toList,Array.getElem?_modify,Array.getElem?_setIfInBounds]
 by_cases e:b=j
 ·subst e
  have hlt:b < w.heap.size:=by
   rcases Nat.lt_or_ge b w.heap.size with h' | h'
   ·exact h'
   ·rw [Array.getElem?_eq_none h'] at h;cases h
  rw [h]
  simp [hlt]
 ·simp [e]

theorem LY {P:Program}{b o:Nat}{T:TypeId}:∀(m:List Value) (w:World) (cs:List Value) (i:Nat),w.heap[b]?=some (.cells cs.toArray T)→(∀ v∈m,v.oneCell'=true)→o+i+m.length≤cs.length →
  ∃ w',(storeCells ⟨b,o,none⟩ m i).run P w = .ok () w'∧w'.heap[b]?=some (.cells (De cs (o+i) m).toArray T)∧(∀ k,k≠b→w'.heap[k]?=w.heap[k]?)∧w'.heap.size=w.heap.size∧w'.os=w.os∧w'.tape=w.tape∧w'.output=w.output
 | [],w,cs,i,h,_,_=>⟨w,by simp [storeCells],by simpa [MJ] using h,fun _ _=>rfl,rfl,rfl,rfl,rfl⟩
 | v :: m,w,cs,i,h,h1,hl=>by
  simp only [List.length_cons] at hl
  have hc:w.cell? ((⟨b,o,none⟩:Addr).add i)=some cs[o+i]:=by rw [Eo,IZ h];exact List.getElem?_eq_getElem (by omega)
  have hf:w.frozen? ((⟨b,o,none⟩:Addr).add i)=false:=by rw [Eo];exact X8 h
  have hset:=Vq (i:=o+i) h v
  have hb:b < w.heap.size:=by
   rcases Nat.lt_or_ge b w.heap.size with h' | h'
   ·exact h'
   ·rw [Array.getElem?_eq_none h'] at h;cases h
  have h2:(w.setCell ⟨b,o+i,none⟩ v).heap[b]?=some (.cells (cs.set (o+i) v).toArray T):=by rw [hset];simp [hb]
  obtain⟨w',e1,e2,e3,e4,e5,e6,e7⟩:=LY (P:=P) (o:=o) m _ _ (i+1) h2 (fun u hu=>h1 u (by simp [hu])) (by simp;omega)
  refine⟨w',?_,?_,?_,?_,e5,e6,e7⟩
  ·simp only [storeCells,Sem.run_bind]
   rw [run_store _ _ _ _ _ (h1 v (by simp)),hc]
   simp only [hf]
   rw [Eo]
   simpa using e1
  ·rw [e2,Ki (by omega)];rfl
  ·intro k hk
   rw [e3 k hk,hset,Array.getElem?_setIfInBounds_ne (fun h=>hk h.symm)]
  ·rw [e4,hset];simp

/-! #### types -/
def Ss (P:Program)(T:TypeId):Prop:=∀ w,(isAgg T).run P w = .ok false w
def P6 (P:Program)(T sz:Nat):Prop:=(∀ w,(isAgg T).run P w = .ok true w)∧∀ w,(sizeOf T).run P w = .ok sz w
def Sz (P:Program)(T sz:Nat):Prop:=∀ w,(sizeOf T).run P w = .ok sz w
def FA (P:Program)(T f off:Nat):Prop:=∀ b o w,(Instr.fieldAt T (.pointer (some ⟨b,o,none⟩)) f).run P w = .ok (.pointer (some ⟨b,o+off,none⟩)) w
def IA (P:Program)(T len sz:Nat):Prop:=∀ b o k i w,0≤i→i < (len:Int)→(Instr.indexAt T (.pointer (some ⟨b,o,none⟩)) (.int k i)).run P w = .ok (.pointer (some ⟨b,o+i.toNat * sz,none⟩)) w
def IS (P:Program)(T sz:Nat):Prop:=∀(b o l c:Nat) (k:IntKind) (i:Int) (w:World),0≤i→i < (l:Int)→(Instr.indexAt T (.slice (some ⟨b,o,none⟩) l c) (.int k i)).run P w = .ok (.pointer (some ⟨b,o+i.toNat * sz,none⟩)) w
def ZV (P:Program)(T:Nat)(v:Value):Prop:=∀ w,(zeroValue T).run P w = .ok v w

section
variable {P:Program}
theorem D8 {T sz:Nat}(h:(P.info? T).map (·.size)=some sz):Sz P T sz:=fun w=>by
 cases hi:P.info? T with
 | none=>rw [hi] at h;cases h
 | some i=>rw [hi] at h;simp at h;simp [sizeOf,typeInfo,hi,h]
theorem E7 {T:Nat}{v:Value}(h:(P.info? T).map (·.zero)=some (some v)):ZV P T v:=fun w=>by
 cases hi:P.info? T with
 | none=>rw [hi] at h;cases h
 | some i=>rw [hi] at h;simp at h;simp [zeroValue,typeInfo,hi,h]
theorem B3 {T f z off E:Nat}{fs:Array Field}(hu:P.underlying T=some (.struct fs))(hf:(fs[f]?).map (fun fd=>(fd.offset,fd.type))=some (off,E))(hz:Sz P E (z+1)):FA P T f off:=fun b o w=>by
 cases h:fs[f]? with
 | none=>rw [h] at hf;cases hf
 | some fd=>
  rw [h] at hf;simp at hf
  obtain⟨rfl,rfl⟩:=hf
  simp [Instr.fieldAt,underlying,hu,h,Instr.sureAddr,fieldPlace,hz w,Eo]
theorem LV {T len E sz:Nat}(hu:P.underlying T=some (.array len E))(hz:Sz P E sz):IA P T len sz:=fun b o k i w h0 h1=>by
 simp [Instr.indexAt,asIntOf,underlying,hu,Instr.sureAddr,h0,h1,hz w,Eo]
theorem PO {T E sz:Nat}(hu:P.underlying T=some (.slice E))(hz:Sz P E sz):IS P T sz:=fun b o l c k i w h0 h1=>by
 simp [Instr.indexAt,asIntOf,underlying,hu,h0,h1,hz w,Eo]
theorem Jz {T:Nat}{d:TypeDesc}(hu:P.underlying T=some d)(hd:(match d with | .struct _ | .array _ _=>true | _=>false)=false):Ss P T:=fun w=>by
 cases d<;>simp [isAgg,underlying,hu] at hd ⊢
theorem FR {T sz:Nat}{d:TypeDesc}(hu:P.underlying T=some d)(hd:(match d with | .struct _ | .array _ _=>true | _=>false)=true)(hz:Sz P T sz):P6 P T sz:=by
 refine⟨fun w=>?_,hz⟩
 cases d<;>simp [isAgg,underlying,hu] at hd ⊢
end

structure AU {α β:Type}(ea:α→List Value)(eb:β→List Value)(o sz:Nat)(g:α→β)(s:α→β→α):Prop where
 get:∀ x,((ea x).drop o).take sz=eb (g x)
 len:∀ y,(eb y).length=sz
 bA:∀ x,o+sz≤(ea x).length
 set:∀ x y,De (ea x) o (eb y)=ea (s x y)
 one:∀ y,∀ v∈eb y,v.oneCell'=true

theorem AU.id {α:Type}{ea:α→List Value}{sz:Nat}(hl:∀ x,(ea x).length=sz)(ho:∀ y,∀ v∈ea y,v.oneCell'=true):AU ea ea 0 sz (fun x=>x) (fun _ y=>y):=
 ⟨fun x=>by simp [← hl x],hl,fun x=>by simp [hl x],fun x y=>by simp [De,hl],ho⟩

theorem AU.comp {α β γ:Type}{ea:α→List Value}{eb:β→List Value}{ec:γ→List Value}{o1 sz1 o2 sz2:Nat}{g1:α→β}{s1:α→β→α}{g2:β→γ}{s2:β→γ→β}
  (h1:AU ea eb o1 sz1 g1 s1) (h2:AU eb ec o2 sz2 g2 s2):AU ea ec (o1+o2) sz2 (fun x=>g2 (g1 x)) (fun x y=>s1 x (s2 (g1 x) y)):=by
 have hb:∀ x,o2+sz2≤sz1:=fun x=>by have:=h2.bA (g1 x);rw [h1.len] at this;exact this
 refine⟨fun x=>?_,h2.len,fun x=>by have:=h1.bA x;have:=hb x;omega,fun x y=>?_,h2.one⟩
 ·rw [← h2.get (g1 x),← h1.get x,List.drop_take,List.take_take,List.drop_drop,Nat.min_eq_left (by have:=hb x;omega)]
 ·rw [← h1.set x,← h2.set]
  rw [← h1.get x]
  exact(Ql (h1.bA x) (by rw [h2.len];exact hb x)).symm

section
variable {P:Program} {n:Nat} {w0:World} {M:List Nat} {Q:Exit→Act→World→Prop} {F:List (Nat × Value)} {L L':List Ab} {ops:Array Oper} {rest:List Oper}

theorem SO {T U f off b o:Nat}{x:Operand}(hf:FA P T f off)(hx:ev F x=some (.pointer (some ⟨b,o,none⟩))):PS P n w0 M (.fieldAddr T x f) U F L (.pointer (some ⟨b,o+off,none⟩)) L:=
 CR fun a w hF=>by simp [execOp,hF.ev hx,hf b o w]
theorem AQ {T U len sz b o:Nat}{k:IntKind}{i:Int}{x y:Operand}(hf:IA P T len sz)(hx:ev F x=some (.pointer (some ⟨b,o,none⟩)))(hy:ev F y=some (.int k i))(h0:0≤i)(h1:i < (len:Int)):PS P n w0 M (.indexAddr T x y) U F L (.pointer (some ⟨b,o+i.toNat * sz,none⟩)) L:=
 CR fun a w hF=>by simp [execOp,hF.ev hx,hF.ev hy,hf b o k i w h0 h1]
theorem AI {α β:Type}{ea:α→List Value}{eb:β→List Value}{o sz:Nat}{g:α→β}{s:α→β→α}{T U V b off:Nat}{x:Operand}{X:α}{v:Value}
  (hx:ev F x=some (.pointer (some ⟨b,off,none⟩))) (hT:Ss P T) (hL:Ab.box b V (ea X)∈L) (hl:AU ea eb o sz g s) (ho:off=o) (hv:eb (g X) = [v]):PS P n w0 M (.load T x) U F L v L:=by
 intro a w hF hS
 have hb:w.heap[b]?=some (.cells (ea X).toArray V):=hS.ok _ hL
 have hsz:sz=1:=by rw [← hl.len (g X),hv];rfl
 have hc:w.cell? ⟨b,off,none⟩=some v:=by
  rw [IZ hb,ho]
  have h:=hl.get X
  have hbd:=hl.bA X
  rw [hv,hsz] at h
  rw [hsz] at hbd
  rw [List.drop_eq_getElem_cons (by omega),List.take_succ_cons,List.take_zero] at h
  rw [List.getElem?_eq_getElem (by omega),List.head_eq_of_cons_eq h]
 refine⟨w,?_,rfl,rfl⟩
 simp [execOp,hF.ev hx,Instr.loadAt,Instr.sureAddr,loadVar,hT w,hc]
theorem AZ {α β:Type}{ea:α→List Value}{eb:β→List Value}{o sz:Nat}{g:α→β}{s:α→β→α}{T U V b off:Nat}{x:Operand}{X:α}
  (hx:ev F x=some (.pointer (some ⟨b,off,none⟩))) (hT:P6 P T sz) (hL:Ab.box b V (ea X)∈L) (hl:AU ea eb o sz g s) (ho:off=o):PS P n w0 M (.load T x) U F L (.agg (eb (g X)).toArray) L:=by
 intro a w hF hS
 have hb:w.heap[b]?=some (.cells (ea X).toArray V):=hS.ok _ hL
 refine⟨w,?_,rfl,rfl⟩
 subst ho
 simp only [execOp,hF.ev hx,Instr.loadAt,Instr.sureAddr,loadVar]
 simp [hT.1 w,hT.2 w,FF hb (hl.bA X),hl.get X]

theorem AL {α β:Type}{ea:α→List Value}{eb:β→List Value}{o sz:Nat}{g:α→β}{s:α→β→α}{T U V b off:Nat}{x y:Operand}{X:α}{Y:β}{v:Value}
  (hl:AU ea eb o sz g s) (hx:ev F x=some (.pointer (some ⟨b,off,none⟩))) (hy:ev F y=some v) (hv:v.cells=(eb Y).toArray) (hT:Sz P T sz) (ho:off=o) (hL:Lc L (Ab.box b V (ea X)) (Ab.box b V (ea (s X Y))) L'):PU P n w0 M (.store T x y) U F L L':=by
 intro a w hF hS
 have hb:w.heap[b]?=some (.cells (ea X).toArray V):=hS.ok _ hL.mem
 subst ho
 obtain⟨w',e1,e2,e3,e4,e5,e6,e7⟩:=LY (P:=P) (o:=off) (eb Y) w (ea X) 0 hb (hl.one Y) (by have:=hl.bA X;rw [hl.len];omega)
 refine⟨w',?_,hS.Dz hL e5 e6 e7 (by omega) (fun k _ hk=>e3 k (by simpa [Ab.box] using hk)) ?_ ?_⟩
 ·simp only [execOp,hF.ev hx,hF.ev hy,Instr.storeAt,Instr.sureAddr,storeVar,hv]
  simp [hT w,hl.len,e1]
 ·have:=hl.set X Y
  show w'.heap[b]?=_
  rw [e2,Nat.add_zero,this]
 ·intro k hk
  simp [Ab.box] at hk
  subst hk
  refine⟨?_, .inl (by simp [Ab.box])⟩
  rcases Nat.lt_or_ge k w'.heap.size with h | h
  ·exact h
  ·rw [Array.getElem?_eq_none h] at e2;cases e2

theorem eS {T U:Nat}{x:Operand}{v:Value}{cs:List Value}(hx:ev F x=some v)(hv:v.cells=cs.toArray):PX P n w0 M (.box T x) U F L (fun v L'=>∃ b,v = .pointer (some ⟨b,0,none⟩)∧L'=Ab.box b T cs :: L):=by
 intro a w hF hS
 refine⟨_,_,w.alloc (.cells cs.toArray T),⟨w.heap.size,rfl,rfl⟩,?_,hS.alloc T cs⟩
 simp [execOp,hF.ev hx,Instr.box,newVar,newRow,hv]
theorem Yi {T U:Nat}{v:Value}{cs:List Value}(hz:ZV P T v)(hv:v.cells=cs.toArray):PX P n w0 M (.alloc T) U F L (fun v L'=>∃ b,v = .pointer (some ⟨b,0,none⟩)∧L'=Ab.box b T cs :: L):=by
 intro a w hF hS
 refine⟨_,_,w.alloc (.cells cs.toArray T),⟨w.heap.size,rfl,rfl⟩,?_,hS.alloc T cs⟩
 simp [execOp,Instr.alloc,hz w,newVar,newRow,hv]
theorem CB {d T U:Nat}{x:Operand}{pos:String}{Cu:Array Edge}{v:Value}{cs:List Value}(hd:Nat.blt d n=true)(hx:ev F x=some v)(hv:v.cells=cs.toArray)
  (k:∀ b,GL P n w0 M ops Q rest ((d, .pointer (some ⟨b,0,none⟩)) :: F) (Ab.box b T cs :: L)):GL P n w0 M ops Q (⟨some d, .box T x,U,pos,Cu,none⟩ :: rest) F L:=
 GU hd (eS hx hv) fun _ _ ⟨b,hv,hL⟩=>by subst hv;subst hL;exact k b
theorem BJ {d T U:Nat}{pos:String}{Cu:Array Edge}{v:Value}{cs:List Value}(hd:Nat.blt d n=true)(hz:ZV P T v)(hv:v.cells=cs.toArray)
  (k:∀ b,GL P n w0 M ops Q rest ((d, .pointer (some ⟨b,0,none⟩)) :: F) (Ab.box b T cs :: L)):GL P n w0 M ops Q (⟨some d, .alloc T,U,pos,Cu,none⟩ :: rest) F L:=
 GU hd (Yi hz hv) fun _ _ ⟨b,hv,hL⟩=>by subst hv;subst hL;exact k b
end

/-! #### calls -/
def Ev (P:Program)(f:FuncId)(args:Array Value)(w:World)(R:Value→World→Prop):Prop:=Calls P f args w fun e w'=>∃ v,e = .returned v∧R v w'
theorem Ev.mono {P:Program}{f:FuncId}{args:Array Value}{w:World}{R R':Value→World→Prop}(h:Ev P f args w R)(hr:∀ v w',R v w'→R' v w'):Ev P f args w R':=
 Calls.mono h fun _ _ ⟨v,he,hR⟩=>⟨v,he,hr _ _ hR⟩
structure CH (w w':World):Prop where
 os:w'.os=w.os
 tape:w'.tape=w.tape
 output:w'.output=w.output
 size:w.heap.size≤w'.heap.size
 I7:∀ k,k < w.heap.size→w'.heap[k]?=w.heap[k]?
theorem CH.refl (w:World):CH w w:=⟨rfl,rfl,rfl,Nat.le_refl _,fun _ _=>rfl⟩
theorem CH.trans {a b c:World}(h:CH a b)(k:CH b c):CH a c:=
 ⟨k.os.trans h.os,k.tape.trans h.tape,k.output.trans h.output,Nat.le_trans h.size k.size,fun i hi=>(k.I7 i (Nat.lt_of_lt_of_le hi h.size)).trans (h.I7 i hi)⟩
theorem St.J7 {w0 w w':World}{M:List Nat}{L:List Ab}(h:St w0 M w L)(k:CH w w'):St w0 M w' L:=by
 refine⟨k.os.trans h.os,k.tape.trans h.tape,k.output.trans h.output,Nat.le_trans h.size k.size,fun i hi hM=>(k.I7 i (Nat.lt_of_lt_of_le hi h.size)).trans (h.I7 i hi hM),fun r hr=>r.loc w w' (fun b hb=>k.I7 b (h.Cc r hr b hb).1) (h.ok r hr),fun r hr b hb=>?_,h.Jc⟩
 have:=h.Cc r hr b hb
 exact⟨Nat.lt_of_lt_of_le this.1 k.size,this.2⟩
theorem St.Ao {w0 w:World}{L:List Ab}(h:St w0 [] w L):CH w0 w:=⟨h.os,h.tape,h.output,h.size,fun k hk=>h.I7 k hk (by simp)⟩
theorem CH.below {w w':World}(h:CH w w'):RowKit.Below w.heap.size w w':=⟨h.os,h.tape,h.output,h.size,h.I7⟩

def CF (P:Program)(f:FuncId):Prop:=∀ args w,(callFunc f args).run P w = .ok (.enter f args) w
inductive OY (F:List (Nat × Value)):List Operand→List Value→Prop where
 | nil:OY F [] []
 | cons {x:Operand} {v:Value} {xs:List Operand} {vs:List Value} (h:ev F x=some v) (hs:OY F xs vs):OY F (x :: xs) (v :: vs)
theorem OY.map {n:Nat}{a:Act}{F:List (Nat × Value)}(hF:Fr n a F){xs:List Operand}{vs:List Value}(h:OY F xs vs):xs.map a.eval=vs:=by
 induction h with
 | nil=>rfl
 | cons h _ ih=>simp [hF.ev h,ih]

section
variable {P:Program} {n:Nat} {w0:World} {M:List Nat} {Q:Exit→Act→World→Prop} {F:List (Nat × Value)} {L L':List Ab} {ops:Array Oper} {rest:List Oper}
theorem Of {f:FuncId}{args:List Operand}{ts:Array TypeId}{T:TypeId}{vs:List Value}(hc:CF P f){a:Act}(hF:Fr n a F)(ha:OY F args vs)(w:World)(d:Option Tmp)(pos:String)(Cu:Array Edge)(g:Option (Nat × Bool)) :
  (execOp a.eval ⟨d, .call ⟨.value (.func f),args.toArray,ts⟩,T,pos,Cu,g⟩).run P w = .ok (.enter f vs.toArray) w:=by
 have:=hc vs.toArray w
 simp [execOp,resolve,Deferred.ofValue,invoke,Act.eval,← OY.map hF ha] at this ⊢
 exact this
theorem SS {d:Nat}{f:FuncId}{args:List Operand}{ts:Array TypeId}{T:TypeId}{pos:String}{Cu:Array Edge}{vs:List Value}{R:World→Value→World→Prop}(hd:Nat.blt d n=true)(hc:CF P f)(ha:OY F args vs)
  (h:∀ w,St w0 M w L→Ev P f vs.toArray w (R w))
  (k:∀ w v w',St w0 M w L→R w v w'→∃ L',St w0 M w' L'∧GL P n w0 M ops Q rest ((d,v) :: F) L'):GL P n w0 M ops Q (⟨some d, .call ⟨.value (.func f),args.toArray,ts⟩,T,pos,Cu,none⟩ :: rest) F L:=by
 intro a w hF hS
 refine wpList_plain rfl fun K hK=>?_
 unfold Oper.wp
 rw [Of hc hF ha]
 show Calls _ _ _ _ _
 refine Calls.mono (h w hS) fun e w' he=>?_
 obtain⟨v,rfl,hR⟩:=he
 obtain⟨L',hS',hk⟩:=k w v w' hS hR
 exact hK _ _ (hk _ _ (hF.put (by simpa [Nat.blt_eq] using hd) v) hS')
theorem BC {d:Nat}{f:FuncId}{args:List Operand}{ts:Array TypeId}{T:TypeId}{pos:String}{Cu:Array Edge}{vs:List Value}{v:Value}(hd:Nat.blt d n=true)(hc:CF P f)(ha:OY F args vs)
  (h:∀ w,St w0 M w L→Ev P f vs.toArray w fun v' w'=>v'=v∧CH w w')
  (k:GL P n w0 M ops Q rest ((d,v) :: F) L):GL P n w0 M ops Q (⟨some d, .call ⟨.value (.func f),args.toArray,ts⟩,T,pos,Cu,none⟩ :: rest) F L:=
 SS hd hc ha h fun w _ w' hS ⟨hv,hk⟩=>⟨L,hS.J7 hk,by rw [hv];exact k⟩
/-! #### a body -/
def entry:Nat→List Value→List (Nat × Value)
 | _,[]=> []
 | i,v :: vs=>(i,v) :: entry (i+1) vs
theorem Tt:∀(vs:List Value) (i k:Nat) (v:Value),lk k (entry i vs)=some v→i≤k∧vs[k - i]?=some v
 | [],i,k,v,h=>by simp [entry,lk] at h
 | u :: vs,i,k,v,h=>by
  simp only [entry,lk] at h
  by_cases e:k=i
  ·subst e;simp at h;subst h;simp
  ·rw [show Nat.beq k i=false from Bool.eq_false_iff.2 fun h=>e (Nat.eq_of_beq_eq_true h)] at h
   have:=Tt vs (i+1) k v h
   refine⟨by omega,?_⟩
   rw [show k - i=(k - (i+1))+1 by omega]
   simpa using this.2
theorem Ap {f:FuncId}{fn:Func}{c:Code}{args:List Value}{w:World}{R:Value→World→Prop}(M:List Nat)(L:List Ab)(hf:P.funcs[f]?=some fn)(hb:fn.body=some c)(hn:fn.ntmps=n)(hl:Nat.ble args.length n=true)(hS:St w M w L)
  (h:G P n w M c (bodyPost P fn fun e w'=>∃ v,e = .returned v∧R v w') (entry 0 args) L):Ev P f args.toArray w R:=by
 refine calls_of_wp hf hb (h _ _ ⟨?_,rfl,?_⟩ hS)
 ·have:=Nat.le_of_ble_eq_true hl
  simp [hn];omega
 ·intro k v hk
  obtain⟨_,h2⟩:=Tt args 0 k v hk
  have:k < args.length:=by
   rcases Nat.lt_or_ge k args.length with h | h
   ·exact h
   ·rw [List.getElem?_eq_none (by simpa using h)] at h2;cases h2
  simp only [Nat.sub_zero] at h2
  rw [Array.getElem?_append_left (by simpa using this)]
  simpa using h2

inductive Rs (P:Program)(F:List (Nat × Value))(L:List Ab):List ResultVar→List Value→Prop where
 | nil:Rs P F L [] []
 | tmp {t:Tmp} {v:Value} {rs:List ResultVar} {vs:List Value} (h:lk t F=some v) (hs:Rs P F L rs vs):Rs P F L (.tmp t :: rs) (v :: vs)
 | cell {t:Tmp} {T V b:Nat} {cs:List Value} {v:Value} {rs:List ResultVar} {vs:List Value} (h:lk t F=some (.pointer (some ⟨b,0,none⟩))) (hL:Ab.box b V cs∈L) (hT:(P6 P T cs.length∧v = .agg cs.toArray)∨(Ss P T∧cs = [v])) (hs:Rs P F L rs vs):Rs P F L (.cell t T :: rs) (v :: vs)
def YV (vs:List Value):Value:=match vs with | [v]=>v | vs=> .tuple vs.toArray
theorem Rs.run {fn:Func}{rs:List ResultVar}{vs:List Value}(hr:fn.results=rs.toArray)(h:Rs P F L rs vs){a:Act}{w:World}(hF:Fr n a F)(hS:St w0 M w L):(results fn a.tmps).run P w = .ok (YV vs) w:=by
 let f:ResultVar→Sem Value:=fun | .tmp t=>pure (a.tmps.getD t undef) | .cell x t=>do loadVar t (← asAddr (a.tmps.getD x undef))
 have key:∀ rs vs,Rs P F L rs vs→(List.mapM f rs).run P w = .ok vs w:=by
  intro rs vs h
  induction h with
  | nil=>rfl
  | tmp h hs ih=>
   have hd:∀ t,(f (.tmp t)).run P w = .ok (a.tmps.getD t undef) w:=fun _=>rfl
   rw [List.mapM_cons,Sem.run_bind,hd]
   simp only [Result.andThen_ok,Sem.run_bind,ih,Sem.run_pure]
   simp [hF.get _ _ h]
  | cell h hL hT hs ih=>
   rename_i t T V b cs v rs vs
   have hb:w.heap[b]?=some (.cells cs.toArray V):=hS.ok _ hL
   have hd:(f (.cell t T)).run P w = .ok v w:=by
    show(do loadVar T (← asAddr (a.tmps.getD t undef)):Sem Value).run P w=_
    rw [show a.tmps.getD t undef = .pointer (some ⟨b,0,none⟩) by simp [hF.get _ _ h]]
    rcases hT with ⟨hT,rfl⟩ | ⟨hT,rfl⟩
    ·have:=FF (P:=P) (o:=0) hb (Nat.le_of_eq (Nat.zero_add _))
     rw [List.drop_zero,List.take_length] at this
     simp [asAddr,loadVar,hT.1 w,hT.2 w,this]
    ·have:w.cell? ⟨b,0,none⟩=some v:=IZ (i:=0) hb
     simp [asAddr,loadVar,hT w,this]
   rw [List.mapM_cons,Sem.run_bind,hd]
   simp only [Result.andThen_ok,Sem.run_bind,ih,Sem.run_pure]
 have:=key rs vs h
 have e:results fn a.tmps=(do let vs ← (List.toArray <$> List.mapM f rs);pure (if h:vs.size=1 then vs[0] else .tuple vs)):=by
  unfold results
  rw [hr,List.mapM_toArray]
  rfl
 rw [e,Sem.run_bind,Sem.run_map,this]
 simp only [Result.andThen_ok]
 cases vs with
 | nil=>rfl
 | cons v vs=>cases vs<;>rfl
theorem AY {fn:Func}{rs:List ResultVar}{vs:List Value}{R:Value→World→Prop}(hr:fn.results=rs.toArray)(h:Rs P F L rs vs)(hR:∀ w,St w0 M w L→R (YV vs) w):GQ n w0 M (bodyPost P fn fun e w'=>∃ v,e = .returned v∧R v w') .ret F L:=
 fun _ w hF hS=>⟨hF.defers,YV vs,h.run hr hF hS,YV vs,rfl,hR w hS⟩
theorem Bs {fn:Func}{rs:List ResultVar}{vs:List Value}{R:Value→World→Prop}(hr:fn.results=rs.toArray)(h:Rs P F L rs vs)(hR:∀ w,St w0 M w L→R (YV vs) w):GQ n w0 M (bodyPost P fn fun e w'=>∃ v,e = .returned v∧R v w') .normal F L:=
 fun _ w hF hS=>⟨hF.defers,YV vs,h.run hr hF hS,YV vs,rfl,hR w hS⟩
end
end Go.Ing
/- Engine, part 4: parts of data in cells. -/
namespace Go.Ing
open Go

abbrev Ad:=List UInt8
def Az (x:Int):List Value:= [.int .i64 x]
def Ci (x:Bool):List Value:= [.bool x]
def A6 (x:Ad):List Value:= [BW x]
def fA (x:Int):List Value:= [.int .u8 x]
structure Hd where
 a:Option Addr
 len:Nat
 cap:Nat
def Hd.val (h:Hd):Value:= .slice h.a h.len h.cap
def Dh (h:Hd):List Value:= [h.val]
def ZN (p:Option Addr):List Value:= [.pointer p]

structure Flat {α:Type}(e:α→List Value)(sz:Nat):Prop where
 len:∀ y,(e y).length=sz
 one:∀ y,∀ v∈e y,v.oneCell'=true
theorem B9:Flat Az 1:=⟨fun _=>rfl,fun y v hv=>by simp [Az] at hv;subst hv;rfl⟩
theorem Hs:Flat Ci 1:=⟨fun _=>rfl,fun y v hv=>by simp [Ci] at hv;subst hv;rfl⟩
theorem C7:Flat A6 1:=⟨fun _=>rfl,fun y v hv=>by simp [A6] at hv;subst hv;rfl⟩
theorem iX:Flat fA 1:=⟨fun _=>rfl,fun y v hv=>by simp [fA] at hv;subst hv;rfl⟩
theorem iW:Flat ZN 1:=⟨fun _=>rfl,fun y v hv=>by simp [ZN] at hv;subst hv;rfl⟩
theorem Ix:Flat Dh 1:=⟨fun _=>rfl,fun y v hv=>by simp [Dh] at hv;subst hv;rfl⟩

theorem AU.Ey {α β:Type}{ea:α→List Value}{eb:β→List Value}{o sz:Nat}{g:α→β}{s:α→β→α}(fb:Flat eb sz)(pre post:α→List Value)
  (hp:∀ x,(pre x).length=o) (h1:∀ x,ea x=pre x++eb (g x)++post x) (h2:∀ x y,ea (s x y)=pre x++eb y++post x):AU ea eb o sz g s:=by
 refine⟨fun x=>?_,fb.len,fun x=>?_,fun x y=>?_,fb.one⟩
 ·rw [h1,List.append_assoc,← hp x,List.drop_left,← fb.len (g x),List.take_left]
 ·rw [h1];simp [hp x,fb.len]
 ·rw [h2,h1]
  have:((pre x)++eb (g x)).length=o+(eb y).length:=by simp [hp x,fb.len]
  simp only [De]
  rw [← this,List.drop_left,List.append_assoc (pre x),← hp x,List.take_left,List.append_assoc]

/-! ### arrays -/
abbrev Tn (α:Type)(n:Nat):=Vector α n
section
variable {α:Type} {n:Nat}
def _root_.Vector.at [Inhabited α](v:Vector α n)(i:Int):α:=v.toList.getD i.toNat default
def _root_.Vector.put (v:Vector α n)(i:Int)(x:α):Vector α n:=v.setIfInBounds i.toNat x
def B1 (e:α→List Value)(v:Vector α n):List Value:=v.toList.flatMap e
theorem DD {e:α→List Value}{sz:Nat}(h:∀ y,(e y).length=sz):∀ l:List α,(l.flatMap e).length=l.length * sz
 | []=>by simp
 | x :: l=>by simp [DD h l,h];rw [Nat.add_mul];omega
theorem GH {e:α→List Value}{sz:Nat}(fe:Flat e sz):Flat (B1 (n:=n) e) (n * sz):=
 ⟨fun y=>by simp [B1,DD fe.len],fun y v hv=>by
  simp only [B1,List.mem_flatMap] at hv
  obtain⟨x,_,hx⟩:=hv
  exact fe.one x v hx⟩
theorem I1 {e:α→List Value}(l:List α)(k:Nat)(hk:k < l.length):l.flatMap e=(l.take k).flatMap e++e l[k]++(l.drop (k+1)).flatMap e:=by
 have h1:l=l.take k++l[k] :: l.drop (k+1):=by rw [← List.drop_eq_getElem_cons hk,List.take_append_drop]
 have h2:l.flatMap e=(l.take k++l[k] :: l.drop (k+1)).flatMap e:=congrArg _ h1
 exact h2.trans (by rw [List.flatMap_append,List.flatMap_cons,List.append_assoc])
theorem AU.arr [Inhabited α]{e:α→List Value}{sz:Nat}(fe:Flat e sz){i:Int}(_h0:0≤i)(h1:i < (n:Int)):AU (B1 (n:=n) e) e (i.toNat * sz) sz (fun v=>v.at i) (fun v y=>v.put i y):=by
 have hn:i.toNat < n:=by omega
 refine AU.Ey fe (fun v=>(v.toList.take i.toNat).flatMap e) (fun v=>(v.toList.drop (i.toNat+1)).flatMap e) (fun v=>?_) (fun v=>?_) (fun v y=>?_)
 ·rw [DD fe.len,List.length_take,Nat.min_eq_left (by simp;omega)]
 ·rw [B1,I1 v.toList i.toNat (by simpa using hn)]
  simp [Vector.at,List.getD,hn]
 ·have hl:i.toNat < (v.put i y).toList.length:=by simpa using hn
  rw [B1,I1 _ i.toNat hl]
  have e1:(v.put i y).toList=v.toList.set i.toNat y:=by simp [Vector.put]
  simp [e1,List.take_set_of_le,List.drop_set_of_lt]
end
end Go.Ing
/- The program's data, in Lean, and their parts. -/
namespace Go.Ing
open Go
structure AK where
 at_:Int
 verb:Int
 sub:Ad
 us:Tn Int 3
 Gb:Tn Int 3
 Bv:Int
 deriving DecidableEq,Inhabited
def AK.enc (x:AK):List Value:=Az x.at_++Az x.verb++A6 x.sub++B1 Az x.us++B1 Az x.Gb++Az x.Bv
theorem AK.fl:Flat AK.enc 10:=⟨fun x=>by simp [AK.enc,(GH B9).len,B9.len,C7.len],fun x v hv=>by
 simp only [AK.enc,List.mem_append] at hv
 rcases hv with ((((h | h) | h) | h) | h) | h
 ·exact B9.one _ v h
 ·exact B9.one _ v h
 ·exact C7.one _ v h
 ·exact(GH B9).one _ v h
 ·exact(GH B9).one _ v h
 ·exact B9.one _ v h⟩
theorem AK.l0:AU AK.enc (Az) 0 1 (fun x=>x.at_) (fun x y=>{ x with at_:=y }):=
 AU.Ey B9 (fun _=> []) (fun x=>Az x.verb++A6 x.sub++B1 Az x.us++B1 Az x.Gb++Az x.Bv) (fun _=>rfl) (fun x=>by simp [AK.enc]) (fun x y=>by simp [AK.enc])
theorem AK.l1:AU AK.enc (Az) 1 1 (fun x=>x.verb) (fun x y=>{ x with verb:=y }):=
 AU.Ey B9 (fun x=>Az x.at_) (fun x=>A6 x.sub++B1 Az x.us++B1 Az x.Gb++Az x.Bv) (fun x=>by simp [B9.len]) (fun x=>by simp [AK.enc]) (fun x y=>by simp [AK.enc])
theorem AK.l2:AU AK.enc (A6) 2 1 (fun x=>x.sub) (fun x y=>{ x with sub:=y }):=
 AU.Ey C7 (fun x=>Az x.at_++Az x.verb) (fun x=>B1 Az x.us++B1 Az x.Gb++Az x.Bv) (fun x=>by simp [B9.len]) (fun x=>by simp [AK.enc]) (fun x y=>by simp [AK.enc])
theorem AK.l3:AU AK.enc (B1 Az) 3 3 (fun x=>x.us) (fun x y=>{ x with us:=y }):=
 AU.Ey (GH B9) (fun x=>Az x.at_++Az x.verb++A6 x.sub) (fun x=>B1 Az x.Gb++Az x.Bv) (fun x=>by simp [B9.len,C7.len]) (fun x=>by simp [AK.enc]) (fun x y=>by simp [AK.enc])
theorem AK.l4:AU AK.enc (B1 Az) 6 3 (fun x=>x.Gb) (fun x y=>{ x with Gb:=y }):=
 AU.Ey (GH B9) (fun x=>Az x.at_++Az x.verb++A6 x.sub++B1 Az x.us) (fun x=>Az x.Bv) (fun x=>by simp [(GH B9).len,B9.len,C7.len]) (fun x=>by simp [AK.enc]) (fun x y=>by simp [AK.enc])
theorem AK.l5:AU AK.enc (Az) 9 1 (fun x=>x.Bv) (fun x y=>{ x with Bv:=y }):=
 AU.Ey B9 (fun x=>Az x.at_++Az x.verb++A6 x.sub++B1 Az x.us++B1 Az x.Gb) (fun _=> []) (fun x=>by simp [(GH B9).len,B9.len,C7.len]) (fun x=>by simp [AK.enc]) (fun x y=>by simp [AK.enc])
structure BR where
 now:Ad
 long:Bool
 ret:Bool
 queue:Hd
def BR.enc (x:BR):List Value:=A6 x.now++Ci x.long++Ci x.ret++Dh x.queue
theorem BR.fl:Flat BR.enc 4:=⟨fun x=>by simp [BR.enc,Hs.len,Ix.len,C7.len],fun x v hv=>by
 simp only [BR.enc,List.mem_append] at hv
 rcases hv with ((h | h) | h) | h
 ·exact C7.one _ v h
 ·exact Hs.one _ v h
 ·exact Hs.one _ v h
 ·exact Ix.one _ v h⟩
theorem BR.l0:AU BR.enc (A6) 0 1 (fun x=>x.now) (fun x y=>{ x with now:=y }):=
 AU.Ey C7 (fun _=> []) (fun x=>Ci x.long++Ci x.ret++Dh x.queue) (fun _=>rfl) (fun x=>by simp [BR.enc]) (fun x y=>by simp [BR.enc])
theorem BR.l1:AU BR.enc (Ci) 1 1 (fun x=>x.long) (fun x y=>{ x with long:=y }):=
 AU.Ey Hs (fun x=>A6 x.now) (fun x=>Ci x.ret++Dh x.queue) (fun x=>by simp [C7.len]) (fun x=>by simp [BR.enc]) (fun x y=>by simp [BR.enc])
theorem BR.l2:AU BR.enc (Ci) 2 1 (fun x=>x.ret) (fun x y=>{ x with ret:=y }):=
 AU.Ey Hs (fun x=>A6 x.now++Ci x.long) (fun x=>Dh x.queue) (fun x=>by simp [Hs.len,C7.len]) (fun x=>by simp [BR.enc]) (fun x y=>by simp [BR.enc])
theorem BR.l3:AU BR.enc (Dh) 3 1 (fun x=>x.queue) (fun x y=>{ x with queue:=y }):=
 AU.Ey Ix (fun x=>A6 x.now++Ci x.long++Ci x.ret) (fun _=> []) (fun x=>by simp [Hs.len,C7.len]) (fun x=>by simp [BR.enc]) (fun x y=>by simp [BR.enc])
structure Av where
 wait:Hd
 shown:Int
 B5:Bool
 ring:Ad
 cut:Bool
def Av.enc (x:Av):List Value:=Dh x.wait++Az x.shown++Ci x.B5++A6 x.ring++Ci x.cut
theorem Av.fl:Flat Av.enc 5:=⟨fun x=>by simp [Av.enc,Hs.len,Ix.len,B9.len,C7.len],fun x v hv=>by
 simp only [Av.enc,List.mem_append] at hv
 rcases hv with (((h | h) | h) | h) | h
 ·exact Ix.one _ v h
 ·exact B9.one _ v h
 ·exact Hs.one _ v h
 ·exact C7.one _ v h
 ·exact Hs.one _ v h⟩
theorem Av.l0:AU Av.enc (Dh) 0 1 (fun x=>x.wait) (fun x y=>{ x with wait:=y }):=
 AU.Ey Ix (fun _=> []) (fun x=>Az x.shown++Ci x.B5++A6 x.ring++Ci x.cut) (fun _=>rfl) (fun x=>by simp [Av.enc]) (fun x y=>by simp [Av.enc])
theorem Av.l1:AU Av.enc (Az) 1 1 (fun x=>x.shown) (fun x y=>{ x with shown:=y }):=
 AU.Ey B9 (fun x=>Dh x.wait) (fun x=>Ci x.B5++A6 x.ring++Ci x.cut) (fun x=>by simp [Ix.len]) (fun x=>by simp [Av.enc]) (fun x y=>by simp [Av.enc])
theorem Av.l2:AU Av.enc (Ci) 2 1 (fun x=>x.B5) (fun x y=>{ x with B5:=y }):=
 AU.Ey Hs (fun x=>Dh x.wait++Az x.shown) (fun x=>A6 x.ring++Ci x.cut) (fun x=>by simp [Ix.len,B9.len]) (fun x=>by simp [Av.enc]) (fun x y=>by simp [Av.enc])
theorem Av.l3:AU Av.enc (A6) 3 1 (fun x=>x.ring) (fun x y=>{ x with ring:=y }):=
 AU.Ey C7 (fun x=>Dh x.wait++Az x.shown++Ci x.B5) (fun x=>Ci x.cut) (fun x=>by simp [Hs.len,Ix.len,B9.len]) (fun x=>by simp [Av.enc]) (fun x y=>by simp [Av.enc])
theorem Av.l4:AU Av.enc (Ci) 4 1 (fun x=>x.cut) (fun x y=>{ x with cut:=y }):=
 AU.Ey Hs (fun x=>Dh x.wait++Az x.shown++Ci x.B5++A6 x.ring) (fun _=> []) (fun x=>by simp [Hs.len,Ix.len,B9.len,C7.len]) (fun x=>by simp [Av.enc]) (fun x y=>by simp [Av.enc])
structure Room where
 name:Ad
 Le:Bool
 Ca:Tn Int 6
 shut:Tn Bool 6
 deriving DecidableEq,Inhabited
def Room.enc (x:Room):List Value:=A6 x.name++Ci x.Le++B1 Az x.Ca++B1 Ci x.shut
theorem Room.fl:Flat Room.enc 14:=⟨fun x=>by simp [Room.enc,(GH Hs).len,(GH B9).len,Hs.len,C7.len],fun x v hv=>by
 simp only [Room.enc,List.mem_append] at hv
 rcases hv with ((h | h) | h) | h
 ·exact C7.one _ v h
 ·exact Hs.one _ v h
 ·exact(GH B9).one _ v h
 ·exact(GH Hs).one _ v h⟩
theorem Room.l0:AU Room.enc (A6) 0 1 (fun x=>x.name) (fun x y=>{ x with name:=y }):=
 AU.Ey C7 (fun _=> []) (fun x=>Ci x.Le++B1 Az x.Ca++B1 Ci x.shut) (fun _=>rfl) (fun x=>by simp [Room.enc]) (fun x y=>by simp [Room.enc])
theorem Room.l1:AU Room.enc (Ci) 1 1 (fun x=>x.Le) (fun x y=>{ x with Le:=y }):=
 AU.Ey Hs (fun x=>A6 x.name) (fun x=>B1 Az x.Ca++B1 Ci x.shut) (fun x=>by simp [C7.len]) (fun x=>by simp [Room.enc]) (fun x y=>by simp [Room.enc])
theorem Room.l2:AU Room.enc (B1 Az) 2 6 (fun x=>x.Ca) (fun x y=>{ x with Ca:=y }):=
 AU.Ey (GH B9) (fun x=>A6 x.name++Ci x.Le) (fun x=>B1 Ci x.shut) (fun x=>by simp [Hs.len,C7.len]) (fun x=>by simp [Room.enc]) (fun x y=>by simp [Room.enc])
theorem Room.l3:AU Room.enc (B1 Ci) 8 6 (fun x=>x.shut) (fun x y=>{ x with shut:=y }):=
 AU.Ey (GH Hs) (fun x=>A6 x.name++Ci x.Le++B1 Az x.Ca) (fun _=> []) (fun x=>by simp [(GH B9).len,Hs.len,C7.len]) (fun x=>by simp [Room.enc]) (fun x y=>by simp [Room.enc])
structure An where
 name:Ad
 kind:Int
 Cg:Int
 at_:Int
 on:Bool
 deriving DecidableEq,Inhabited
def An.enc (x:An):List Value:=A6 x.name++Az x.kind++Az x.Cg++Az x.at_++Ci x.on
theorem An.fl:Flat An.enc 5:=⟨fun x=>by simp [An.enc,Hs.len,B9.len,C7.len],fun x v hv=>by
 simp only [An.enc,List.mem_append] at hv
 rcases hv with (((h | h) | h) | h) | h
 ·exact C7.one _ v h
 ·exact B9.one _ v h
 ·exact B9.one _ v h
 ·exact B9.one _ v h
 ·exact Hs.one _ v h⟩
theorem An.l0:AU An.enc (A6) 0 1 (fun x=>x.name) (fun x y=>{ x with name:=y }):=
 AU.Ey C7 (fun _=> []) (fun x=>Az x.kind++Az x.Cg++Az x.at_++Ci x.on) (fun _=>rfl) (fun x=>by simp [An.enc]) (fun x y=>by simp [An.enc])
theorem An.l1:AU An.enc (Az) 1 1 (fun x=>x.kind) (fun x y=>{ x with kind:=y }):=
 AU.Ey B9 (fun x=>A6 x.name) (fun x=>Az x.Cg++Az x.at_++Ci x.on) (fun x=>by simp [C7.len]) (fun x=>by simp [An.enc]) (fun x y=>by simp [An.enc])
theorem An.l2:AU An.enc (Az) 2 1 (fun x=>x.Cg) (fun x y=>{ x with Cg:=y }):=
 AU.Ey B9 (fun x=>A6 x.name++Az x.kind) (fun x=>Az x.at_++Ci x.on) (fun x=>by simp [B9.len,C7.len]) (fun x=>by simp [An.enc]) (fun x y=>by simp [An.enc])
theorem An.l3:AU An.enc (Az) 3 1 (fun x=>x.at_) (fun x y=>{ x with at_:=y }):=
 AU.Ey B9 (fun x=>A6 x.name++Az x.kind++Az x.Cg) (fun x=>Ci x.on) (fun x=>by simp [B9.len,C7.len]) (fun x=>by simp [An.enc]) (fun x y=>by simp [An.enc])
theorem An.l4:AU An.enc (Ci) 4 1 (fun x=>x.on) (fun x y=>{ x with on:=y }):=
 AU.Ey Hs (fun x=>A6 x.name++Az x.kind++Az x.Cg++Az x.at_) (fun _=> []) (fun x=>by simp [B9.len,C7.len]) (fun x=>by simp [An.enc]) (fun x y=>by simp [An.enc])
structure Am where
 name:Ad
 here:Bool
 QO:Bool
 room:Int
 BP:Int
 B7:Int
 deriving DecidableEq,Inhabited
def Am.enc (x:Am):List Value:=A6 x.name++Ci x.here++Ci x.QO++Az x.room++Az x.BP++Az x.B7
theorem Am.fl:Flat Am.enc 6:=⟨fun x=>by simp [Am.enc,Hs.len,B9.len,C7.len],fun x v hv=>by
 simp only [Am.enc,List.mem_append] at hv
 rcases hv with ((((h | h) | h) | h) | h) | h
 ·exact C7.one _ v h
 ·exact Hs.one _ v h
 ·exact Hs.one _ v h
 ·exact B9.one _ v h
 ·exact B9.one _ v h
 ·exact B9.one _ v h⟩
theorem Am.l0:AU Am.enc (A6) 0 1 (fun x=>x.name) (fun x y=>{ x with name:=y }):=
 AU.Ey C7 (fun _=> []) (fun x=>Ci x.here++Ci x.QO++Az x.room++Az x.BP++Az x.B7) (fun _=>rfl) (fun x=>by simp [Am.enc]) (fun x y=>by simp [Am.enc])
theorem Am.l1:AU Am.enc (Ci) 1 1 (fun x=>x.here) (fun x y=>{ x with here:=y }):=
 AU.Ey Hs (fun x=>A6 x.name) (fun x=>Ci x.QO++Az x.room++Az x.BP++Az x.B7) (fun x=>by simp [C7.len]) (fun x=>by simp [Am.enc]) (fun x y=>by simp [Am.enc])
theorem Am.l2:AU Am.enc (Ci) 2 1 (fun x=>x.QO) (fun x y=>{ x with QO:=y }):=
 AU.Ey Hs (fun x=>A6 x.name++Ci x.here) (fun x=>Az x.room++Az x.BP++Az x.B7) (fun x=>by simp [Hs.len,C7.len]) (fun x=>by simp [Am.enc]) (fun x y=>by simp [Am.enc])
theorem Am.l3:AU Am.enc (Az) 3 1 (fun x=>x.room) (fun x y=>{ x with room:=y }):=
 AU.Ey B9 (fun x=>A6 x.name++Ci x.here++Ci x.QO) (fun x=>Az x.BP++Az x.B7) (fun x=>by simp [Hs.len,C7.len]) (fun x=>by simp [Am.enc]) (fun x y=>by simp [Am.enc])
theorem Am.l4:AU Am.enc (Az) 4 1 (fun x=>x.BP) (fun x y=>{ x with BP:=y }):=
 AU.Ey B9 (fun x=>A6 x.name++Ci x.here++Ci x.QO++Az x.room) (fun x=>Az x.B7) (fun x=>by simp [Hs.len,B9.len,C7.len]) (fun x=>by simp [Am.enc]) (fun x y=>by simp [Am.enc])
theorem Am.l5:AU Am.enc (Az) 5 1 (fun x=>x.B7) (fun x y=>{ x with B7:=y }):=
 AU.Ey B9 (fun x=>A6 x.name++Ci x.here++Ci x.QO++Az x.room++Az x.BP) (fun _=> []) (fun x=>by simp [Hs.len,B9.len,C7.len]) (fun x=>by simp [Am.enc]) (fun x y=>by simp [Am.enc])
structure AH where
 BT:Tn Room 6
 AP:Tn An 9
 AO:Tn Am 6
 deriving DecidableEq,Inhabited
def AH.enc (x:AH):List Value:=B1 Room.enc x.BT++B1 An.enc x.AP++B1 Am.enc x.AO
theorem AH.fl:Flat AH.enc 165:=⟨fun x=>by simp [AH.enc,(GH Am.fl).len,(GH Room.fl).len,(GH An.fl).len],fun x v hv=>by
 simp only [AH.enc,List.mem_append] at hv
 rcases hv with (h | h) | h
 ·exact(GH Room.fl).one _ v h
 ·exact(GH An.fl).one _ v h
 ·exact(GH Am.fl).one _ v h⟩
theorem AH.l0:AU AH.enc (B1 Room.enc) 0 84 (fun x=>x.BT) (fun x y=>{ x with BT:=y }):=
 AU.Ey (GH Room.fl) (fun _=> []) (fun x=>B1 An.enc x.AP++B1 Am.enc x.AO) (fun _=>rfl) (fun x=>by simp [AH.enc]) (fun x y=>by simp [AH.enc])
theorem AH.l1:AU AH.enc (B1 An.enc) 84 45 (fun x=>x.AP) (fun x y=>{ x with AP:=y }):=
 AU.Ey (GH An.fl) (fun x=>B1 Room.enc x.BT) (fun x=>B1 Am.enc x.AO) (fun x=>by simp [(GH Room.fl).len]) (fun x=>by simp [AH.enc]) (fun x y=>by simp [AH.enc])
theorem AH.l2:AU AH.enc (B1 Am.enc) 129 36 (fun x=>x.AO) (fun x y=>{ x with AO:=y }):=
 AU.Ey (GH Am.fl) (fun x=>B1 Room.enc x.BT++B1 An.enc x.AP) (fun _=> []) (fun x=>by simp [(GH Room.fl).len,(GH An.fl).len]) (fun x=>by simp [AH.enc]) (fun x y=>by simp [AH.enc])
structure Order where
 verb:Int
 nth:Int
 Bq:Bool
 name:Ad
 second:Ad
 text:Ad
 deriving DecidableEq,Inhabited
def Order.enc (x:Order):List Value:=Az x.verb++Az x.nth++Ci x.Bq++A6 x.name++A6 x.second++A6 x.text
theorem Order.fl:Flat Order.enc 6:=⟨fun x=>by simp [Order.enc,Hs.len,B9.len,C7.len],fun x v hv=>by
 simp only [Order.enc,List.mem_append] at hv
 rcases hv with ((((h | h) | h) | h) | h) | h
 ·exact B9.one _ v h
 ·exact B9.one _ v h
 ·exact Hs.one _ v h
 ·exact C7.one _ v h
 ·exact C7.one _ v h
 ·exact C7.one _ v h⟩
theorem Order.l0:AU Order.enc (Az) 0 1 (fun x=>x.verb) (fun x y=>{ x with verb:=y }):=
 AU.Ey B9 (fun _=> []) (fun x=>Az x.nth++Ci x.Bq++A6 x.name++A6 x.second++A6 x.text) (fun _=>rfl) (fun x=>by simp [Order.enc]) (fun x y=>by simp [Order.enc])
theorem Order.l1:AU Order.enc (Az) 1 1 (fun x=>x.nth) (fun x y=>{ x with nth:=y }):=
 AU.Ey B9 (fun x=>Az x.verb) (fun x=>Ci x.Bq++A6 x.name++A6 x.second++A6 x.text) (fun x=>by simp [B9.len]) (fun x=>by simp [Order.enc]) (fun x y=>by simp [Order.enc])
theorem Order.l2:AU Order.enc (Ci) 2 1 (fun x=>x.Bq) (fun x y=>{ x with Bq:=y }):=
 AU.Ey Hs (fun x=>Az x.verb++Az x.nth) (fun x=>A6 x.name++A6 x.second++A6 x.text) (fun x=>by simp [B9.len]) (fun x=>by simp [Order.enc]) (fun x y=>by simp [Order.enc])
theorem Order.l3:AU Order.enc (A6) 3 1 (fun x=>x.name) (fun x y=>{ x with name:=y }):=
 AU.Ey C7 (fun x=>Az x.verb++Az x.nth++Ci x.Bq) (fun x=>A6 x.second++A6 x.text) (fun x=>by simp [Hs.len,B9.len]) (fun x=>by simp [Order.enc]) (fun x y=>by simp [Order.enc])
theorem Order.l4:AU Order.enc (A6) 4 1 (fun x=>x.second) (fun x y=>{ x with second:=y }):=
 AU.Ey C7 (fun x=>Az x.verb++Az x.nth++Ci x.Bq++A6 x.name) (fun x=>A6 x.text) (fun x=>by simp [Hs.len,B9.len,C7.len]) (fun x=>by simp [Order.enc]) (fun x y=>by simp [Order.enc])
theorem Order.l5:AU Order.enc (A6) 5 1 (fun x=>x.text) (fun x y=>{ x with text:=y }):=
 AU.Ey C7 (fun x=>Az x.verb++Az x.nth++Ci x.Bq++A6 x.name++A6 x.second) (fun _=> []) (fun x=>by simp [Hs.len,B9.len,C7.len]) (fun x=>by simp [Order.enc]) (fun x y=>by simp [Order.enc])
structure Event where
 kind:Int
 room:Int
 DW:Int
 other:Int
 dir:Int
 n:Int
 G9:Ad
 ED:Ad
 BM:Ad
 text:Ad
 H0:Tn Int 6
 deriving DecidableEq,Inhabited
def Event.enc (x:Event):List Value:=Az x.kind++Az x.room++Az x.DW++Az x.other++Az x.dir++Az x.n++A6 x.G9++A6 x.ED++A6 x.BM++A6 x.text++B1 Az x.H0
theorem Event.fl:Flat Event.enc 16:=⟨fun x=>by simp [Event.enc,(GH B9).len,B9.len,C7.len],fun x v hv=>by
 simp only [Event.enc,List.mem_append] at hv
 rcases hv with (((((((((h | h) | h) | h) | h) | h) | h) | h) | h) | h) | h
 ·exact B9.one _ v h
 ·exact B9.one _ v h
 ·exact B9.one _ v h
 ·exact B9.one _ v h
 ·exact B9.one _ v h
 ·exact B9.one _ v h
 ·exact C7.one _ v h
 ·exact C7.one _ v h
 ·exact C7.one _ v h
 ·exact C7.one _ v h
 ·exact(GH B9).one _ v h⟩
theorem Event.l0:AU Event.enc (Az) 0 1 (fun x=>x.kind) (fun x y=>{ x with kind:=y }):=
 AU.Ey B9 (fun _=> []) (fun x=>Az x.room++Az x.DW++Az x.other++Az x.dir++Az x.n++A6 x.G9++A6 x.ED++A6 x.BM++A6 x.text++B1 Az x.H0) (fun _=>rfl) (fun x=>by simp [Event.enc]) (fun x y=>by simp [Event.enc])
theorem Event.l1:AU Event.enc (Az) 1 1 (fun x=>x.room) (fun x y=>{ x with room:=y }):=
 AU.Ey B9 (fun x=>Az x.kind) (fun x=>Az x.DW++Az x.other++Az x.dir++Az x.n++A6 x.G9++A6 x.ED++A6 x.BM++A6 x.text++B1 Az x.H0) (fun x=>by simp [B9.len]) (fun x=>by simp [Event.enc]) (fun x y=>by simp [Event.enc])
theorem Event.l2:AU Event.enc (Az) 2 1 (fun x=>x.DW) (fun x y=>{ x with DW:=y }):=
 AU.Ey B9 (fun x=>Az x.kind++Az x.room) (fun x=>Az x.other++Az x.dir++Az x.n++A6 x.G9++A6 x.ED++A6 x.BM++A6 x.text++B1 Az x.H0) (fun x=>by simp [B9.len]) (fun x=>by simp [Event.enc]) (fun x y=>by simp [Event.enc])
theorem Event.l3:AU Event.enc (Az) 3 1 (fun x=>x.other) (fun x y=>{ x with other:=y }):=
 AU.Ey B9 (fun x=>Az x.kind++Az x.room++Az x.DW) (fun x=>Az x.dir++Az x.n++A6 x.G9++A6 x.ED++A6 x.BM++A6 x.text++B1 Az x.H0) (fun x=>by simp [B9.len]) (fun x=>by simp [Event.enc]) (fun x y=>by simp [Event.enc])
theorem Event.l4:AU Event.enc (Az) 4 1 (fun x=>x.dir) (fun x y=>{ x with dir:=y }):=
 AU.Ey B9 (fun x=>Az x.kind++Az x.room++Az x.DW++Az x.other) (fun x=>Az x.n++A6 x.G9++A6 x.ED++A6 x.BM++A6 x.text++B1 Az x.H0) (fun x=>by simp [B9.len]) (fun x=>by simp [Event.enc]) (fun x y=>by simp [Event.enc])
theorem Event.l5:AU Event.enc (Az) 5 1 (fun x=>x.n) (fun x y=>{ x with n:=y }):=
 AU.Ey B9 (fun x=>Az x.kind++Az x.room++Az x.DW++Az x.other++Az x.dir) (fun x=>A6 x.G9++A6 x.ED++A6 x.BM++A6 x.text++B1 Az x.H0) (fun x=>by simp [B9.len]) (fun x=>by simp [Event.enc]) (fun x y=>by simp [Event.enc])
theorem Event.l6:AU Event.enc (A6) 6 1 (fun x=>x.G9) (fun x y=>{ x with G9:=y }):=
 AU.Ey C7 (fun x=>Az x.kind++Az x.room++Az x.DW++Az x.other++Az x.dir++Az x.n) (fun x=>A6 x.ED++A6 x.BM++A6 x.text++B1 Az x.H0) (fun x=>by simp [B9.len]) (fun x=>by simp [Event.enc]) (fun x y=>by simp [Event.enc])
theorem Event.l7:AU Event.enc (A6) 7 1 (fun x=>x.ED) (fun x y=>{ x with ED:=y }):=
 AU.Ey C7 (fun x=>Az x.kind++Az x.room++Az x.DW++Az x.other++Az x.dir++Az x.n++A6 x.G9) (fun x=>A6 x.BM++A6 x.text++B1 Az x.H0) (fun x=>by simp [B9.len,C7.len]) (fun x=>by simp [Event.enc]) (fun x y=>by simp [Event.enc])
theorem Event.l8:AU Event.enc (A6) 8 1 (fun x=>x.BM) (fun x y=>{ x with BM:=y }):=
 AU.Ey C7 (fun x=>Az x.kind++Az x.room++Az x.DW++Az x.other++Az x.dir++Az x.n++A6 x.G9++A6 x.ED) (fun x=>A6 x.text++B1 Az x.H0) (fun x=>by simp [B9.len,C7.len]) (fun x=>by simp [Event.enc]) (fun x y=>by simp [Event.enc])
theorem Event.l9:AU Event.enc (A6) 9 1 (fun x=>x.text) (fun x y=>{ x with text:=y }):=
 AU.Ey C7 (fun x=>Az x.kind++Az x.room++Az x.DW++Az x.other++Az x.dir++Az x.n++A6 x.G9++A6 x.ED++A6 x.BM) (fun x=>B1 Az x.H0) (fun x=>by simp [B9.len,C7.len]) (fun x=>by simp [Event.enc]) (fun x y=>by simp [Event.enc])
theorem Event.l10:AU Event.enc (B1 Az) 10 6 (fun x=>x.H0) (fun x y=>{ x with H0:=y }):=
 AU.Ey (GH B9) (fun x=>Az x.kind++Az x.room++Az x.DW++Az x.other++Az x.dir++Az x.n++A6 x.G9++A6 x.ED++A6 x.BM++A6 x.text) (fun _=> []) (fun x=>by simp [B9.len,C7.len]) (fun x=>by simp [Event.enc]) (fun x y=>by simp [Event.enc])
structure Br where
 kind:Int
 A3:Int
 n:Int
 bytes:Ad
 deriving DecidableEq,Inhabited
def Br.enc (x:Br):List Value:=Az x.kind++Az x.A3++Az x.n++A6 x.bytes
theorem Br.fl:Flat Br.enc 4:=⟨fun x=>by simp [Br.enc,B9.len,C7.len],fun x v hv=>by
 simp only [Br.enc,List.mem_append] at hv
 rcases hv with ((h | h) | h) | h
 ·exact B9.one _ v h
 ·exact B9.one _ v h
 ·exact B9.one _ v h
 ·exact C7.one _ v h⟩
theorem Br.l0:AU Br.enc (Az) 0 1 (fun x=>x.kind) (fun x y=>{ x with kind:=y }):=
 AU.Ey B9 (fun _=> []) (fun x=>Az x.A3++Az x.n++A6 x.bytes) (fun _=>rfl) (fun x=>by simp [Br.enc]) (fun x y=>by simp [Br.enc])
theorem Br.l1:AU Br.enc (Az) 1 1 (fun x=>x.A3) (fun x y=>{ x with A3:=y }):=
 AU.Ey B9 (fun x=>Az x.kind) (fun x=>Az x.n++A6 x.bytes) (fun x=>by simp [B9.len]) (fun x=>by simp [Br.enc]) (fun x y=>by simp [Br.enc])
theorem Br.l2:AU Br.enc (Az) 2 1 (fun x=>x.n) (fun x y=>{ x with n:=y }):=
 AU.Ey B9 (fun x=>Az x.kind++Az x.A3) (fun x=>A6 x.bytes) (fun x=>by simp [B9.len]) (fun x=>by simp [Br.enc]) (fun x y=>by simp [Br.enc])
theorem Br.l3:AU Br.enc (A6) 3 1 (fun x=>x.bytes) (fun x y=>{ x with bytes:=y }):=
 AU.Ey C7 (fun x=>Az x.kind++Az x.A3++Az x.n) (fun _=> []) (fun x=>by simp [B9.len]) (fun x=>by simp [Br.enc]) (fun x y=>by simp [Br.enc])
structure Bl where
 code:Int
 out:Ad
 deriving DecidableEq,Inhabited
def Bl.enc (x:Bl):List Value:=Az x.code++A6 x.out
theorem Bl.fl:Flat Bl.enc 2:=⟨fun x=>by simp [Bl.enc,B9.len,C7.len],fun x v hv=>by
 simp only [Bl.enc,List.mem_append] at hv
 rcases hv with h | h
 ·exact B9.one _ v h
 ·exact C7.one _ v h⟩
theorem Bl.l0:AU Bl.enc (Az) 0 1 (fun x=>x.code) (fun x y=>{ x with code:=y }):=
 AU.Ey B9 (fun _=> []) (fun x=>A6 x.out) (fun _=>rfl) (fun x=>by simp [Bl.enc]) (fun x y=>by simp [Bl.enc])
theorem Bl.l1:AU Bl.enc (A6) 1 1 (fun x=>x.out) (fun x y=>{ x with out:=y }):=
 AU.Ey C7 (fun x=>Az x.code) (fun _=> []) (fun x=>by simp [B9.len]) (fun x=>by simp [Bl.enc]) (fun x y=>by simp [Bl.enc])
structure Dk where
 addr:Option Addr
 buf:Hd
def Dk.enc (x:Dk):List Value:=ZN x.addr++Dh x.buf
theorem Dk.fl:Flat Dk.enc 2:=⟨fun x=>by simp [Dk.enc,Ix.len,iW.len],fun x v hv=>by
 simp only [Dk.enc,List.mem_append] at hv
 rcases hv with h | h
 ·exact iW.one _ v h
 ·exact Ix.one _ v h⟩
theorem Dk.l0:AU Dk.enc (ZN) 0 1 (fun x=>x.addr) (fun x y=>{ x with addr:=y }):=
 AU.Ey iW (fun _=> []) (fun x=>Dh x.buf) (fun _=>rfl) (fun x=>by simp [Dk.enc]) (fun x y=>by simp [Dk.enc])
theorem Dk.l1:AU Dk.enc (Dh) 1 1 (fun x=>x.buf) (fun x y=>{ x with buf:=y }):=
 AU.Ey Ix (fun x=>ZN x.addr) (fun _=> []) (fun x=>by simp [iW.len]) (fun x=>by simp [Dk.enc]) (fun x y=>by simp [Dk.enc])
end Go.Ing
/- Engine, part 5: small rules for the printed walks. -/
namespace Go.Ing
open Go
section
variable {P:Program} {n:Nat} {w0:World} {M:List Nat} {Q:Exit→Act→World→Prop} {F F':List (Nat × Value)} {L L':List Ab} {ops:Array Oper} {rest:List Oper} {e:Exit}
theorem AB (hs:Sub F F')(h:GQ n w0 M Q e F' L):GQ n w0 M Q e F L:=fun a w hF hS=>h a w (hF.sub hs) hS
theorem TQ {T:TypeId}{x:Operand}{p:Addr}(hx:ev F x=some (.pointer (some p))):PS P n w0 M (.nilCheck x) T F L (.pointer (some p)) L:=CR fun a w hF=>by simp [execOp,hF.ev hx]
theorem Bw {c:Code}(hs:Sub F F')(h:G P n w0 M c Q F' L):G P n w0 M c Q F L:=fun a w hF hS=>h a w (hF.sub hs) hS
inductive M0:List Ab→Ab→List Ab→Prop where
 | head {r:Ab} {L:List Ab}:M0 (r :: L) r L
 | tail {s r:Ab} {L L':List Ab} (h:M0 L r L'):M0 (s :: L) r (s :: L')
theorem M0.perm {L L':List Ab}{r:Ab}(h:M0 L r L'):L.Perm (r :: L'):=by
 induction h with
 | head=>exact .refl _
 | tail _ ih=>exact(List.Perm.cons _ ih).trans (.swap ..)
theorem St.perm {w:World}(h:St w0 M w L)(hp:L.Perm L'):St w0 M w L':=
 ⟨h.os,h.tape,h.output,h.size,h.I7,fun r hr=>h.ok r (hp.mem_iff.2 hr),fun r hr=>h.Cc r (hp.mem_iff.2 hr),h.Jc.perm hp fun h b hb hb'=>h b hb' hb⟩
theorem Be {c:Code}{r:Ab}(hp:M0 L r L')(h:G P n w0 M c Q F (r :: L')):G P n w0 M c Q F L:=fun a w hF hS=>h a w hF (hS.perm hp.perm)
/-! #### what hangs on a bool -/
def cv (c:Bool)(v:Value):Value:=bif c then v else undef
theorem Bo {x:Operand}{c:Bool}{v:Value}(h:ev F x=some (cv c v))(hc:c=true):ev F x=some v:=by rw [hc] at h;exact h
theorem dG {d:Nat}{op:Op}{T:TypeId}{pos:String}{Cu:Array Edge}{v:Value}{j t:Nat}{y:Bool}(hj:(ops[j]?).bind (·.dst)=some t)(hb:lk t F=some (.bool y))(hd:Nat.blt d n=true)(h:y=true→PS P n w0 M op T F L v L)
  (k:GL P n w0 M ops Q rest ((d,cv y v) :: F) L):GL P n w0 M ops Q (⟨some d,op,T,pos,Cu,some (j,true)⟩ :: rest) F L:=by
 cases y with
 | true=>exact D7 hj hb hd (h rfl) k
 | false=>exact DS hj hb rfl hd k
theorem dM {d:Nat}{op:Op}{T:TypeId}{pos:String}{Cu:Array Edge}{v:Value}{j t:Nat}{y:Bool}(hj:(ops[j]?).bind (·.dst)=some t)(hb:lk t F=some (.bool y))(hd:Nat.blt d n=true)(h:y=false→PS P n w0 M op T F L v L)
  (k:GL P n w0 M ops Q rest ((d,cv (!y) v) :: F) L):GL P n w0 M ops Q (⟨some d,op,T,pos,Cu,some (j,false)⟩ :: rest) F L:=by
 cases y with
 | false=>exact D7 hj hb hd (h rfl) k
 | true=>exact DS hj hb rfl hd k
theorem Db {d:Nat}{op:Op}{T:TypeId}{pos:String}{Cu:Array Edge}{v:Value}{j t:Nat}{c y:Bool}(hj:(ops[j]?).bind (·.dst)=some t)(hb:lk t F=some (cv c (.bool y)))(hd:Nat.blt d n=true)(h:c=true→y=true→PS P n w0 M op T F L v L)
  (k:GL P n w0 M ops Q rest ((d,cv (c && y) v) :: F) L):GL P n w0 M ops Q (⟨some d,op,T,pos,Cu,some (j,true)⟩ :: rest) F L:=by
 cases c with
 | false=>exact G1 hj hb hd k
 | true=>exact dG hj hb hd (h rfl) (by simpa using k)
theorem DF {d:Nat}{op:Op}{T:TypeId}{pos:String}{Cu:Array Edge}{v:Value}{j t:Nat}{c y:Bool}(hj:(ops[j]?).bind (·.dst)=some t)(hb:lk t F=some (cv c (.bool y)))(hd:Nat.blt d n=true)(h:c=true→y=false→PS P n w0 M op T F L v L)
  (k:GL P n w0 M ops Q rest ((d,cv (c && !y) v) :: F) L):GL P n w0 M ops Q (⟨some d,op,T,pos,Cu,some (j,false)⟩ :: rest) F L:=by
 cases c with
 | false=>exact G1 hj hb hd k
 | true=>exact dM hj hb hd (h rfl) (by simpa using k)
theorem BQ {c x:Operand}{T:TypeId}{y z d:Bool}(hc:ev F c=some (.bool y))(hx:ev F x=some (cv d (.bool z)))(hd:y=true→d=true):PS P n w0 M (.pick c x (.const (.bool false))) T F L (.bool (y && z)) L:=by
 cases y with
 | true=>exact Dm hc (Bo hx (hd rfl))
 | false=>exact C8 hc rfl
theorem Ba {c x:Operand}{T:TypeId}{y z d:Bool}(hc:ev F c=some (.bool y))(hx:ev F x=some (cv d (.bool z)))(hd:y=false→d=true):PS P n w0 M (.pick c (.const (.bool true)) x) T F L (.bool (y || z)) L:=by
 cases y with
 | false=>exact C8 hc (Bo hx (hd rfl))
 | true=>exact Dm hc rfl
def PC (P:Program)(n:Nat)(w0:World)(M:List Nat)(op:Op)(T:TypeId)(F:List (Nat × Value))(L:List Ab)(v:Value):Prop:=
 ∀ a w, Fr n a F → St w0 M w L → ∃ f args, (execOp a.eval ⟨none, op, T, "", #[], none⟩).run P w = .ok (.enter f args) w ∧ Ev P f args w fun v' w' => v' = v ∧ CH w w'
theorem D0 {f:FuncId}{args:List Operand}{ts:Array TypeId}{T:TypeId}{vs:List Value}{v:Value}(hc:CF P f)(ha:OY F args vs)(h:∀ w,St w0 M w L→Ev P f vs.toArray w fun v' w'=>v'=v∧CH w w') :
  PC P n w0 M (.call ⟨.value (.func f),args.toArray,ts⟩) T F L v:=fun _ w hF hS=>⟨f,vs.toArray,Of hc hF ha w _ _ _ _,h w hS⟩
theorem NS {d:Nat}{op:Op}{T:TypeId}{pos:String}{Cu:Array Edge}{v:Value}{j t:Nat}{y:Bool}(hj:(ops[j]?).bind (·.dst)=some t)(hb:lk t F=some (.bool y))(hd:Nat.blt d n=true)(h:y=true→PC P n w0 M op T F L v)
  (k:GL P n w0 M ops Q rest ((d,cv y v) :: F) L):GL P n w0 M ops Q (⟨some d,op,T,pos,Cu,some (j,true)⟩ :: rest) F L:=by
 cases y with
 | false=>exact DS hj hb rfl hd k
 | true=>
  intro a w hF hS
  obtain⟨f,args,hr,hc⟩:=h rfl a w hF hS
  refine wpList_step fun K hK=>?_
  rw [if_pos (by simp [Region.wanted,Fi hF hj hb])]
  unfold Oper.wp
  rw [EW,hr]
  show Calls _ _ _ _ _
  refine Calls.mono hc fun e w' he=>?_
  obtain⟨v',rfl,hv,hk⟩:=he
  subst hv
  exact hK _ _ (k _ _ (hF.put (by simpa [Nat.blt_eq] using hd) v') (hS.J7 hk))
theorem SC {d:Nat}{op:Op}{T:TypeId}{pos:String}{Cu:Array Edge}{v:Value}{j t:Nat}{y:Bool}(hj:(ops[j]?).bind (·.dst)=some t)(hb:lk t F=some (.bool y))(hd:Nat.blt d n=true)(h:y=false→PC P n w0 M op T F L v)
  (k:GL P n w0 M ops Q rest ((d,cv (!y) v) :: F) L):GL P n w0 M ops Q (⟨some d,op,T,pos,Cu,some (j,false)⟩ :: rest) F L:=by
 cases y with
 | true=>exact DS hj hb rfl hd k
 | false=>
  intro a w hF hS
  obtain⟨f,args,hr,hc⟩:=h rfl a w hF hS
  refine wpList_step fun K hK=>?_
  rw [if_pos (by simp [Region.wanted,Fi hF hj hb])]
  unfold Oper.wp
  rw [EW,hr]
  show Calls _ _ _ _ _
  refine Calls.mono hc fun e w' he=>?_
  obtain⟨v',rfl,hv,hk⟩:=he
  subst hv
  exact hK _ _ (k _ _ (hF.put (by simpa [Nat.blt_eq] using hd) v') (hS.J7 hk))
theorem Ww {d:Nat}{op:Op}{T:TypeId}{pos:String}{Cu:Array Edge}{v:Value}{j t:Nat}{c y:Bool}(hj:(ops[j]?).bind (·.dst)=some t)(hb:lk t F=some (cv c (.bool y)))(hd:Nat.blt d n=true)(h:c=true→y=true→PC P n w0 M op T F L v)
  (k:GL P n w0 M ops Q rest ((d,cv (c && y) v) :: F) L):GL P n w0 M ops Q (⟨some d,op,T,pos,Cu,some (j,true)⟩ :: rest) F L:=by
 cases c with
 | false=>exact G1 hj hb hd k
 | true=>exact NS hj hb hd (h rfl) (by simpa using k)
theorem Wc {d:Nat}{op:Op}{T:TypeId}{pos:String}{Cu:Array Edge}{v:Value}{j t:Nat}{c y:Bool}(hj:(ops[j]?).bind (·.dst)=some t)(hb:lk t F=some (cv c (.bool y)))(hd:Nat.blt d n=true)(h:c=true→y=false→PC P n w0 M op T F L v)
  (k:GL P n w0 M ops Q rest ((d,cv (c && !y) v) :: F) L):GL P n w0 M ops Q (⟨some d,op,T,pos,Cu,some (j,false)⟩ :: rest) F L:=by
 cases c with
 | false=>exact G1 hj hb hd k
 | true=>exact SC hj hb hd (h rfl) (by simpa using k)
end
end Go.Ing
/- Engine, part 6: regions that draw their order: the first 'm' operations each yield one value whatever the order; the others stand in a chain behind them. -/
namespace Go.Ing
open Go

def OI (k:Nat):List (Nat × (Nat × Value))→Option (Nat × Value)
 | []=>none
 | (j,x) :: D=>bif Nat.beq k j then some x else OI k D
theorem MN (k:Nat)(x:Nat × Value)(D:List (Nat × (Nat × Value))):OI k ((k,x) :: D)=some x:=by simp [OI]
theorem Hv {k j:Nat}(h:k≠j)(x:Nat × Value)(D:List (Nat × (Nat × Value))):OI k ((j,x) :: D)=OI k D:=by
 have:Nat.beq k j=false:=Bool.eq_false_iff.2 fun e=>h (Nat.eq_of_beq_eq_true e)
 simp [OI,this]
def Ex (D:List (Nat × (Nat × Value))):List Edge→List (Nat × Value)
 | []=> []
 | e :: es=>bif Region.binds .any e then(match OI e.on D with | some x=>x :: Ex D es | none=>Ex D es) else Ex D es
theorem QZ {D D':List (Nat × (Nat × Value))}:∀(es:List Edge),(∀ e∈es,OI e.on D=OI e.on D')→Ex D es=Ex D' es
 | [],_=>rfl
 | e :: es,h=>by simp only [Ex,h e (by simp),QZ es fun x hx=>h x (by simp [hx])]
theorem MT {D:List (Nat × (Nat × Value))}{x:Nat × Value}:∀(es:List Edge),x∈Ex D es→∃ e∈es,Region.binds .any e=true∧OI e.on D=some x
 | [],h=>by simp [Ex] at h
 | e :: es,h=>by
  unfold Ex at h
  cases hb:Region.binds .any e with
  | false=>rw [hb] at h;obtain⟨y,hy,h1,h2⟩:=MT es h;exact⟨y,by simp [hy],h1,h2⟩
  | true=>
   rw [hb] at h
   cases hl:OI e.on D with
   | none=>simp only [hl,cond_true] at h;obtain⟨y,hy,h1,h2⟩:=MT es h;exact⟨y,by simp [hy],h1,h2⟩
   | some z=>
    simp only [hl,cond_true] at h
    rcases List.mem_cons.1 h with rfl | h
    ·exact⟨e,by simp,hb,hl⟩
    ·obtain⟨y,hy,h1,h2⟩:=MT es h;exact⟨y,by simp [hy],h1,h2⟩
def QC:List (Nat × (Nat × Value))→List (Nat × Value)
 | []=> []
 | (_,x) :: D=>x :: QC D
theorem NB {k:Nat}{v:Value}:∀(A F:List (Nat × Value)),lk k (A++F)=some v→(k,v)∈A∨lk k F=some v
 | [],_,h=> .inr h
 | (j,u) :: A,F,h=>by
  simp only [List.cons_append,lk] at h
  by_cases e:k=j
  ·subst e;simp at h;subst h;simp
  ·rw [show Nat.beq k j=false from Bool.eq_false_iff.2 fun h=>e (Nat.eq_of_beq_eq_true h)] at h
   rcases NB A F h with h | h
   ·exact .inl (by simp [h])
   ·exact .inr h

section
variable (P:Program) (n:Nat) (w0:World) (M:List Nat) (Q:Exit→Act→World→Prop) (ops:Array Oper) (F:List (Nat × Value)) (L:List Ab)
def J6 (o:Oper)(D:List (Nat × (Nat × Value)))(v:Value):Prop:=
 ∀ a w (K:Act→World→Prop),Fr n a (Ex D o.after.toList++F)→St w0 M w L→(∀ w',St w0 M w' L→K (a.put o.dst v) w') →
  if Region.wanted o (yielded ops a.tmps)=true then o.wp P a w K Q else K (a.put o.dst undef) w
end

def G6:List Oper→Bool
 | []=>true
 | o :: l=>l.all (fun p=>match o.dst,p.dst with | some d,some e=>!(Nat.beq d e) | _,_=>true) && G6 l
def Rx (l:List Oper)(listed:Array Bool):Prop:=∀ x o,l[x]?=some o→listed.getD x false=true→∀ e∈o.after.toList,Region.binds .any e=true→listed.getD e.on false=true
theorem MD:∀(l:List Oper) (i j:Nat) (o p:Oper) (d:Nat),G6 l=true→l[i]?=some o→l[j]?=some p→o.dst=some d→p.dst=some d→i=j
 | [],_,_,_,_,_,_,h,_,_,_=>by simp at h
 | q :: l,0,0,_,_,_,_,_,_,_,_=>rfl
 | q :: l,0,j+1,o,p,d,hb,h1,h2,e1,e2=>by
  simp at h1;subst h1
  simp only [G6,Bool.and_eq_true,List.all_eq_true] at hb
  have:=hb.1 p (List.mem_of_getElem? (by simpa using h2))
  simp [e1,e2] at this
 | q :: l,i+1,0,o,p,d,hb,h1,h2,e1,e2=>by
  simp at h2;subst h2
  simp only [G6,Bool.and_eq_true,List.all_eq_true] at hb
  have:=hb.1 o (List.mem_of_getElem? (by simpa using h1))
  simp [e1,e2] at this
 | q :: l,i+1,j+1,o,p,d,hb,h1,h2,e1,e2=>by
  simp only [G6,Bool.and_eq_true] at hb
  rw [MD l i j o p d hb.2 (by simpa using h1) (by simpa using h2) e1 e2]

section
variable {P:Program} {n:Nat} {w0:World} {M:List Nat} {Q:Exit→Act→World→Prop} {ops:Array Oper} {F:List (Nat × Value)} {L:List Ab}
theorem J6.congr {o:Oper}{D D':List (Nat × (Nat × Value))}{v:Value}(h:J6 P n w0 M Q ops F L o D v)(he:∀ e∈o.after.toList,OI e.on D=OI e.on D'):J6 P n w0 M Q ops F L o D' v:=by
 unfold J6 at *
 rw [QZ _ he] at h
 exact h
theorem K7 {l:List Oper}{listed:Array Bool}(hsz:listed.size=l.length){i:Nat} :
  i∈Region.ready .any l.toArray listed↔∃ o,l[i]?=some o∧listed[i]?=some false∧∀ e∈o.after.toList,Region.binds .any e=true→listed.getD e.on false=true:=by
 simp only [Region.ready,List.mem_filter,List.mem_range,List.size_toArray,Bool.and_eq_true,List.getElem?_toArray]
 constructor
 ·rintro ⟨h1,h2,h3⟩
  have ho:l[i]?=some l[i]:=List.getElem?_eq_getElem h1
  refine⟨l[i],ho,?_,?_⟩
  ·have:listed[i]?=some listed[i]:=Array.getElem?_eq_getElem (by omega)
   simp [this] at h2
   rw [this,h2]
  ·rw [ho] at h3
   simp only [Option.map_some,Option.getD_some] at h3
   intro e he hb
   have:=Array.all_eq_true_iff_forall_mem.1 h3 e (by simpa using he)
   simpa [hb] using this
 ·rintro ⟨o,ho,h2,h3⟩
  have hi:i < l.length:=by
   rcases Nat.lt_or_ge i l.length with h | h
   ·exact h
   ·rw [List.getElem?_eq_none h] at ho;cases ho
  refine⟨hi,by simp [h2],?_⟩
  rw [ho]
  simp only [Option.map_some,Option.getD_some]
  refine Array.all_eq_true_iff_forall_mem.2 fun e he=>?_
  have:=h3 e (by simpa using he)
  cases hb:Region.binds .any e with
  | false=>simp
  | true=>simpa using this hb
theorem count_set {l:List Bool}:∀(i:Nat),l[i]?=some false→(l.set i true).count false+1=l.count false:=by
 induction l with
 | nil=>intro i h;simp at h
 | cons b l ih=>
  intro i h
  cases i with
  | zero=>simp at h;subst h;simp
  | succ i=>
   have:=ih i (by simpa using h)
   simp only [List.set_cons_succ,List.count_cons]
   omega
theorem OR {j:Nat}{x:Nat × Value}:∀(D:List (Nat × (Nat × Value))),OI j D=some x→(j,x)∈D
 | [],h=>by simp [OI] at h
 | (i,y) :: D,h=>by
  by_cases e:j=i
  ·subst e;rw [MN] at h;cases h;simp
  ·rw [Hv e] at h;exact List.mem_cons_of_mem _ (OR D h)
def EX (P:Program)(n:Nat)(w0:World)(M:List Nat)(op:Op)(T:TypeId)(F:List (Nat × Value))(L:List Ab)(v:Value):Prop:=
 ∀ a w (K:Act→World→Prop) (Q:Exit→Act→World→Prop) d pos Cu g,Fr n a F→St w0 M w L→(∀ w',St w0 M w' L→K (a.put d v) w')→Oper.wp P ⟨d,op,T,pos,Cu,g⟩ a w K Q
theorem F6 {op:Op}{T:TypeId}{v:Value}(h:PS P n w0 M op T F L v L):EX P n w0 M op T F L v:=by
 intro a w K Q d pos Cu g hF hS hK
 obtain⟨w',hr,hw,_⟩:=h a w hF hS
 have hS':St w0 M w' L:=hw ▸ hS
 unfold Oper.wp
 rw [EW,hr]
 exact hK _ hS'
theorem J4 {op:Op}{T:TypeId}{v:Value}(h:PC P n w0 M op T F L v):EX P n w0 M op T F L v:=by
 intro a w K Q d pos Cu g hF hS hK
 obtain⟨f,args,hr,hc⟩:=h a w hF hS
 unfold Oper.wp
 rw [EW,hr]
 show Calls _ _ _ _ _
 refine Calls.mono hc fun e w' he=>?_
 obtain⟨v',rfl,hv,hk⟩:=he
 subst hv
 exact hK _ (hS.J7 hk)
section
variable {i d:Nat} {op:Op} {T:TypeId} {pos:String} {Cu:Array Edge} {v:Value} {rest:List Oper} {D:List (Nat × (Nat × Value))} {k:List (Nat × (Nat × Value))→Prop} {j t:Nat} {c y:Bool}
end
end
end Go.Ing

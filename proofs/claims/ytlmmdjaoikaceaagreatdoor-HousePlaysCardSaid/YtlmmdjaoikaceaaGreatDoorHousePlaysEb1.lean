/- The engine: rules by which a walk over a function of the model goes operation by operation; data in cells; from a contract of a law to its row. No condition. -/
import Derived.Test.YtlmmdjaoikaceaaGreatDoorHousePlaysEa1
import Derived.Laws.IdiomStrings
import Derived.Laws.BytesArg
import Derived.ProofKit
import Derived.OpenShut
import Derived.ShutString
import Derived.ChangeOld
import Derived.Below
import Derived.Carry
import Derived.Lib.Builder
import Derived.Lib.AppendStr
import Derived.Lib.UnsafeStr
import Derived.Laws.Externs
set_option linter.unusedSimpArgs false
set_option linter.unusedVariables false
/- Engine, part 7: slices. -/
namespace Go.Ing
open Go

def Rd (w:World)(h:Hd)(T:TypeId)(sz:Nat)(cs:List Value):Prop:=
 h.len * sz=cs.length∧(cs≠ []→∃ b o C fz,h.a=some ⟨b,o,none⟩∧b < w.heap.size∧w.heap[b]?=some (.cells (List.toArray C) T fz)∧o+cs.length≤C.length∧(C.drop o).take cs.length=cs)
theorem Rd.Ll {w w':World}{h:Hd}{T sz:Nat}{cs:List Value}(hr:Rd w h T sz cs)(hk:BF w w'):Rd w' h T sz cs:=by
 refine⟨hr.1,fun hne=>?_⟩
 obtain⟨b,o,C,fz,h1,h2,h3,h4,h5⟩:=hr.2 hne
 exact⟨b,o,C,fz,h1,Nat.lt_of_lt_of_le h2 hk.size,by rw [hk.Il b h2];exact h3,h4,h5⟩
theorem St.rd {w0 w:World}{L:List AJ}{h:Hd}{T sz:Nat}{cs:List Value}(hS:St w0 [] w L)(hr:Rd w0 h T sz cs):Rd w h T sz cs:=hr.Ll hS.bJ
theorem Rd.nil (w:World)(T sz:Nat):Rd w ⟨none,0,0⟩ T sz []:=⟨by simp,fun h=>absurd rfl h⟩

def AJ.own (h:Hd)(T:TypeId)(sz:Nat)(cs:List Value):AJ where
 Bn:=match h.a with | some a=> [a.block] | none=> []
 ok w:=(h=⟨none,0,0⟩∧cs = [])∨∃ b o C fz,h.a=some ⟨b,o,none⟩∧b < w.heap.size∧w.heap[b]?=some (.cells (List.toArray C) T fz)∧(∀ i,i < C.length→¬ (fz.1≤i∧i < fz.2))∧o+h.cap * sz≤C.length∧h.len≤h.cap∧h.len * sz=cs.length∧(C.drop o).take cs.length=cs
 loc w w' hk hw:=by
  rcases hw with hw | ⟨b,o,C,fz,h1,h2,h3,h4⟩
  ·exact .inl hw
  ·have h3':=hk b (by rw [h1];simp)
   refine .inr ⟨b,o,C,fz,h1,?_,by rw [h3'];exact h3,h4⟩
   rw [h3] at h3'
   rcases Nat.lt_or_ge b w'.heap.size with h | h
   ·exact h
   ·rw [Array.getElem?_eq_none h] at h3';cases h3'
theorem AJ.Sn {w:World}{h:Hd}{T sz:Nat}{cs:List Value}(hw:(AJ.own h T sz cs).ok w):Rd w h T sz cs:=by
 rcases hw with ⟨rfl,rfl⟩ | ⟨b,o,C,fz,h1,h2,h3,h4,h5,h6,h7,h8⟩
 ·exact Rd.nil w T sz
 ·exact⟨h7,fun _=>⟨b,o,C,fz,h1,h2,h3,by have:=Nat.mul_le_mul_right sz h6;omega,h8⟩⟩
theorem St.BT {w0 w:World}{M:List Nat}{L:List AJ}(h:St w0 M w L)(T sz:Nat):St w0 M w (AJ.own ⟨none,0,0⟩ T sz [] :: L):=
 ⟨h.os,h.tape,h.output,h.size,h.Il,fun r hr=>by
  rcases List.mem_cons.1 hr with rfl | hr
  ·exact .inl ⟨rfl,rfl⟩
  ·exact h.ok r hr,fun r hr b hb=>by
  rcases List.mem_cons.1 hr with rfl | hr
  ·simp [AJ.own] at hb
  ·exact h.Bn r hr b hb,List.pairwise_cons.2 ⟨fun s _ b hb=>by simp [AJ.own] at hb,h.Ir⟩⟩

def Hd.ptr (h:Hd)(i sz:Nat)(o:Nat):Value:= .pointer (some ⟨(h.a.getD default).block,(h.a.getD default).off+i * sz+o,none⟩)
theorem Hd.So {h:Hd}{b o:Nat}(e:h.a=some ⟨b,o,none⟩)(i sz p:Nat):h.ptr i sz p = .pointer (some ⟨b,o+i * sz+p,none⟩):=by simp [Hd.ptr,e]

section
variable {P:Program} {n:Nat} {w0:World} {M:List Nat} {Q:Exit→Act→World→Prop} {F F':List (Nat × Value)} {L L':List AJ} {ops:Array Oper} {rest:List Oper}
def Kn (w0:World)(M:List Nat)(L:List AJ)(h:Hd)(T sz:Nat)(cs:List Value):Prop:=∀ w,St w0 M w L→Rd w h T sz cs
theorem Kn.own {h:Hd}{T sz:Nat}{cs:List Value}(hm:AJ.own h T sz cs∈L):Kn w0 M L h T sz cs:=fun _ hS=>AJ.Sn (hS.ok _ hm)
theorem Kn.Il {h:Hd}{T sz:Nat}{cs:List Value}(hr:Rd w0 h T sz cs):Kn w0 [] L h T sz cs:=fun _ hS=>hS.rd hr

theorem cB {T U E sz:Nat}{h:Hd}{cs:List Value}{k:IntKind}{i:Int}{x y:Operand}(hf:IS P T sz)(hsz:0 < sz)(hk:Kn w0 M L h E sz cs)(hx:ev F x=some h.val)(hy:ev F y=some (.int k i))(h0:0≤i)(h1:i < (h.len:Int)):PS P n w0 M (.indexAddr T x y) U F L (h.ptr i.toNat sz 0) L:=by
 intro a w hF hS
 have hr:=hk w hS
 have hne:cs≠ []:=fun e=>by
  have h2:=hr.1
  rw [e] at h2
  have h3:0 < h.len * sz:=Nat.mul_pos (by omega) hsz
  simp only [List.length_nil] at h2
  omega
 obtain⟨b,o,C,fz,e1,e2,e3,e4,e5⟩:=hr.2 hne
 refine⟨w,?_,rfl,rfl⟩
 rw [Hd.So e1]
 have hv:ev F x=some (.slice (some ⟨b,o,none⟩) h.len h.cap):=by rw [hx,Hd.val,e1]
 simp [execOp,hF.ev hv,hF.ev hy,hf b o h.len h.cap k i w h0 h1]
theorem cA {T U f off i sz p:Nat}{h:Hd}{x:Operand}(hf:FA P T f off)(hx:ev F x=some (h.ptr i sz p)):PS P n w0 M (.fieldAddr T x f) U F L (h.ptr i sz (p+off)) L:=by
 have:=JO (P:=P) (n:=n) (w0:=w0) (M:=M) (L:=L) (U:=U) hf hx
 simpa [Hd.ptr,Nat.add_assoc] using this

theorem PB {α:Type}{e:α→List Value}{sz:Nat}(fe:Flat e sz)(xs:List α)(i:Nat)(hi:i < xs.length):((xs.flatMap e).drop (i * sz)).take sz=e xs[i]:=by
 rw [IZ xs i hi,List.append_assoc]
 have:((xs.take i).flatMap e).length=i * sz:=by rw [CW fe.len,List.length_take,Nat.min_eq_left (by omega)]
 rw [← this,List.drop_left,← fe.len xs[i],List.take_left]
theorem Pc {α β:Type}{ea:α→List Value}{eb:β→List Value}{sz p q:Nat}{g:α→β}{s:α→β→α}(fe:Flat ea sz)(hl:Ac ea eb p q g s){w:World}{h:Hd}{T:Nat}{xs:List α}(hr:Rd w h T sz (xs.flatMap ea)){i:Nat}(hi:i < xs.length)(hq:0 < q) :
  ∃ b o C fz,h.a=some ⟨b,o,none⟩∧w.heap[b]?=some (.cells (List.toArray C) T fz)∧o+i * sz+p+q≤C.length∧(C.drop (o+i * sz+p)).take q=eb (g xs[i]):=by
 have hlen:(xs.flatMap ea).length=xs.length * sz:=CW fe.len xs
 have hb:=hl.Yn xs[i]
 rw [fe.len] at hb
 have hmul:(i+1) * sz≤xs.length * sz:=Nat.mul_le_mul_right sz (by omega)
 rw [Nat.add_mul] at hmul
 have hne:xs.flatMap ea≠ []:=fun e=>by rw [e] at hlen;simp only [List.length_nil] at hlen;omega
 obtain⟨b,o,C,fz,e1,_,e3,e4,e5⟩:=hr.2 hne
 refine⟨b,o,C,fz,e1,e3,by omega,?_⟩
 rw [← hl.get xs[i],← PB fe xs i hi,← e5,hlen]
 simp only [List.drop_take,List.drop_drop,List.take_take]
 congr 1
 omega
theorem Rv {α β:Type}{ea:α→List Value}{eb:β→List Value}{sz p q:Nat}{g:α→β}{s:α→β→α}{T U E i:Nat}{h:Hd}{x:Operand}{xs:List α}{v:Value}
  (hx:ev F x=some (h.ptr i sz p)) (hT:R0 P T) (fe:Flat ea sz) (hl:Ac ea eb p q g s) (hk:Kn w0 M L h E sz (xs.flatMap ea)) (hi:i < xs.length) (hv:eb (g xs[i]) = [v]):PS P n w0 M (.load T x) U F L v L:=by
 intro a w hF hS
 have hq:q=1:=by rw [← hl.len (g xs[i]),hv];rfl
 obtain⟨b,o,C,fz,e1,e3,e4,e5⟩:=Pc fe hl (hk w hS) hi (by omega)
 rw [Hd.So e1] at hx
 rw [hq] at e4 e5
 have hc:w.cell? ⟨b,o+i * sz+p,none⟩=some v:=by
  rw [GK e3]
  rw [hv,List.drop_eq_getElem_cons (by omega),List.take_succ_cons,List.take_zero] at e5
  rw [List.getElem?_eq_getElem (by omega),List.head_eq_of_cons_eq e5]
 exact⟨w,by simp [execOp,hF.ev hx,Instr.loadAt,Instr.sureAddr,loadVar,hT w,hc],rfl,rfl⟩
theorem cC {α β:Type}{ea:α→List Value}{eb:β→List Value}{sz p q:Nat}{g:α→β}{s:α→β→α}{T U E i:Nat}{h:Hd}{x:Operand}{xs:List α}
  (hx:ev F x=some (h.ptr i sz p)) (hT:S3 P T q) (hq:0 < q) (fe:Flat ea sz) (hl:Ac ea eb p q g s) (hk:Kn w0 M L h E sz (xs.flatMap ea)) (hi:i < xs.length):PS P n w0 M (.load T x) U F L (.agg (eb (g xs[i])).toArray) L:=by
 intro a w hF hS
 obtain⟨b,o,C,fz,e1,e3,e4,e5⟩:=Pc fe hl (hk w hS) hi hq
 rw [Hd.So e1] at hx
 refine⟨w,?_,rfl,rfl⟩
 simp only [execOp,hF.ev hx,Instr.loadAt,Instr.sureAddr,loadVar]
 simp [hT.1 w,hT.2 w,Eh e3 e4,e5]
theorem ZG {T U E i:Nat}{h:Hd}{x:Operand}{xs:List AL}(hx:ev F x=some (h.ptr i 1 0))(hT:R0 P T)(hk:Kn w0 M L h E 1 (xs.flatMap AX))(hi:i < xs.length):PS P n w0 M (.load T x) U F L (Ag (xs.getD i [])) L:=by
 have e:xs.getD i []=xs[i]:=by simp [List.getD,hi]
 rw [e]
 exact Rv hx hT Cr (Ac.id Cr.len Cr.one) hk hi rfl
theorem ZF {T U E i:Nat}{h:Hd}{x:Operand}{xs:List Int}(hx:ev F x=some (h.ptr i 1 0))(hT:R0 P T)(hk:Kn w0 M L h E 1 (xs.flatMap AT))(hi:i < xs.length):PS P n w0 M (.load T x) U F L (.int .i64 (xs.getD i 0)) L:=by
 have e:xs.getD i 0=xs[i]:=by simp [List.getD,hi]
 rw [e]
 exact Rv hx hT Bm (Ac.id Bm.len Bm.one) hk hi rfl
end
end Go.Ing
/- Engine, part 8: slices of the call's own: making, growing, cutting. -/
namespace Go.Ing
open Go

theorem Ij {P:Program}{b o:Nat}{T:TypeId}{fz:Nat × Nat}:∀(m:List Value) (w:World) (cs:List Value) (i:Nat),w.heap[b]?=some (.cells cs.toArray T fz)→(∀ v∈m,v.oneCell'=true)→o+i+m.length≤cs.length→(∀ j,j < cs.length→¬ (fz.1≤j∧j < fz.2)) →
  ∃ w',(storeCells ⟨b,o,none⟩ m i).run P w = .ok () w'∧w'.heap[b]?=some (.cells (Cw cs (o+i) m).toArray T fz)∧(∀ k,k≠b→w'.heap[k]?=w.heap[k]?)∧w'.heap.size=w.heap.size∧w'.os=w.os∧w'.tape=w.tape∧w'.output=w.output
 | [],w,cs,i,h,_,_,_=>⟨w,by simp [storeCells],by simpa [L3] using h,fun _ _=>rfl,rfl,rfl,rfl,rfl⟩
 | v :: m,w,cs,i,h,h1,hl,hfz=>by
  simp only [List.length_cons] at hl
  have hc:w.cell? ((⟨b,o,none⟩:Addr).add i)=some cs[o+i]:=by rw [EC,GK h];exact List.getElem?_eq_getElem (by omega)
  have hf:w.frozen? ((⟨b,o,none⟩:Addr).add i)=false:=by
   rw [EC]
   have:=hfz (o+i) (by omega)
   obtain⟨lo,hi⟩:=fz
   simp [World.frozen?,h]
   simp at this
   exact this
  have hb:b < w.heap.size:=by
   rcases Nat.lt_or_ge b w.heap.size with h' | h'
   ·exact h'
   ·rw [Array.getElem?_eq_none h'] at h;cases h
  have hset:(w.setCell ⟨b,o+i,none⟩ v).heap=w.heap.setIfInBounds b (.cells (cs.set (o+i) v).toArray T fz):=by
   apply Array.ext'
   apply List.ext_getElem?
   intro j
   simp only [World.setCell,Array.getElem?_toList,Array.getElem?_modify,Array.getElem?_setIfInBounds]
   by_cases e:b=j
   ·subst e;rw [h];simp [hb]
   ·simp [e]
  have h2:(w.setCell ⟨b,o+i,none⟩ v).heap[b]?=some (.cells (cs.set (o+i) v).toArray T fz):=by rw [hset];simp [hb]
  obtain⟨w',e1,e2,e3,e4,e5,e6,e7⟩:=Ij (P:=P) (o:=o) m _ _ (i+1) h2 (fun u hu=>h1 u (by simp [hu])) (by simp;omega) (by simpa using hfz)
  refine⟨w',?_,?_,?_,?_,e5,e6,e7⟩
  ·simp only [storeCells,Sem.run_bind]
   rw [run_store _ _ _ _ _ (h1 v (by simp)),hc]
   simp only [hf]
   rw [EC]
   simpa using e1
  ·rw [e2,Ka (by omega)];rfl
  ·intro k hk
   rw [e3 k hk,hset,Array.getElem?_setIfInBounds_ne (fun h=>hk h.symm)]
  ·rw [e4,hset];simp

theorem Q8 (m:Nat):∀ r c,Builtin.growBy m r c≤max c (m+(m+768) / 4)
 | 0,c=>by simp [Builtin.growBy];omega
 | r+1,c=>by
  unfold Builtin.growBy
  split
  ·omega
  ·have:=Q8 m r (c+(c+768) / 4)
   omega
theorem Vx {m c:Nat}(h:c < m):Builtin.nextslicecap m c≤2 * m+192:=by
 unfold Builtin.nextslicecap
 split
 ·omega
 ·split
  ·omega
  ·have:=Q8 m 4 c
   omega

def BY (P:Program)(T b:Nat):Prop:=∃ i,P.info? T=some i∧i.bytes=b
theorem WX {P:Program}{T b:Nat}(h:(P.info? T).map (·.bytes)=some b):BY P T b:=by
 cases hi:P.info? T with
 | none=>rw [hi] at h;cases h
 | some i=>rw [hi] at h;simp at h;exact⟨i,hi,h⟩

theorem GM {P:Program}{w:World}{h:Hd}{T sz:Nat}{cs:List Value}(hr:Rd w h T sz cs):(Builtin.firstCells sz h.len h.val).run P w = .ok cs.toArray w:=by
 obtain⟨a,l,c⟩:=h
 have h1:=hr.1
 dsimp only at h1
 by_cases hne:cs = []
 ·subst hne
  simp only [List.length_nil] at h1
  cases a with
  | none=>rfl
  | some a=>simp only [Hd.val,Builtin.firstCells,h1];simp [loadCells,loadCellsFrom]
 ·obtain⟨b,o,C,fz,e1,e2,e3,e4,e5⟩:=hr.2 hne
  dsimp only at e1
  subst e1
  simp only [Hd.val,Builtin.firstCells,h1]
  rw [Eh e3 e4,e5]
theorem Kg (z:Array Value)(n:Nat):(Builtin.zeroCells z n).size=n * z.size:=by simp [Builtin.zeroCells]

theorem Us {C cs ys:List Value}{o k:Nat}(hk:cs.length=k)(hc:(C.drop o).take k=cs)(hl:o+k+ys.length≤C.length):((Cw C (o+k) ys).drop o).take (cs++ys).length=cs++ys:=by
 apply List.ext_getElem?
 intro i
 rw [List.getElem?_take,List.getElem?_drop,DY (by omega),List.length_append,hk]
 by_cases h1:i < k
 ·rw [if_pos (by omega),if_pos (by omega),List.getElem?_append_left (by omega),← hc,List.getElem?_take,if_pos h1,List.getElem?_drop]
 ·by_cases h2:i < k+ys.length
  ·rw [if_pos h2,if_neg (by omega),if_pos (by omega),List.getElem?_append_right (by omega)]
   congr 1;omega
  ·rw [if_neg h2,List.getElem?_eq_none (by simp;omega)]

structure Src (P:Program)(w:World)(U sz:Nat)(x:Value)(n:Nat)(ys:List Value):Prop where
 ty:(∃ e,P.underlying U=some (.slice e))∨P.underlying U=some .string
 lenOf:∀ w',(Builtin.lenOf x).run P w' = .ok n w'
 cells:∀ w',BF w w'→(Builtin.firstCells sz n x).run P w' = .ok ys.toArray w'
 len:n * sz=ys.length
theorem Src.slice {P:Program}{w:World}{U E sz:Nat}{g:Hd}{ys:List Value}(hu:P.underlying U=some (.slice E))(hg:Rd w g E sz ys):Src P w U sz g.val g.len ys:=
 ⟨.inl ⟨_,hu⟩,fun _=>rfl,fun _ hk=>GM (hg.Ll hk),hg.1⟩
def Hd.Z (h:Hd):Prop:=(∀ a,h.a=some a→a.off=0)∧(h.a≠none→h.cap≠0)
theorem WB {P:Program}{U U2 E sz Gz:Nat}{z x:Value}{h:Hd}{gl:Nat}{cs ys:List Value}{V:TypeId}{w:World}(hu:P.underlying U=some (.slice E))(hsz:Sz P E sz)(hz:ZV P E z)(hzs:z.cells.size=sz)(hby:BY P E Gz)(hb0:0 < Gz)(_hp:0 < sz)
  (hh:(AJ.own h E sz cs).ok w) (hg:Src P w U2 sz x gl ys) (hone:∀ v∈ys,v.oneCell'=true) (hbd:(2 * (h.len+gl)+192) * Gz≤281474976710656) :
  ∃ h' w',(Builtin.append_ #[U,U2] V #[h.val,x]).run P w = .ok h'.val w'∧(AJ.own h' E sz (cs++ys)).ok w'∧(h'.len=h.len+gl∧(h.Z→h'.Z))∧w'.os=w.os∧w'.tape=w.tape∧w'.output=w.output∧w.heap.size≤w'.heap.size ∧
   (∀ k,k < w.heap.size→k ∉ (AJ.own h E sz cs).Bn→w'.heap[k]?=w.heap[k]?)∧(∀ b∈(AJ.own h' E sz (cs++ys)).Bn,b < w'.heap.size∧(b∈(AJ.own h E sz cs).Bn∨w.heap.size≤b)):=by
 obtain⟨i,hi,hib⟩:=hby
 have hti:∀ w,(typeInfo E).run P w = .ok i w:=fun w=>by simp [typeInfo,hi]
 have hu':∀ w,(underlying U).run P w = .ok (.slice E) w:=fun w=>by simp [underlying,hu]
 have hrd:=AJ.Sn hh
 have hsw:∀(v:Value) (w:World),(Builtin.append_ #[U,U2] V #[v,x]).run P w=(Builtin.append_ #[U,U] V #[v,x]).run P w:=fun v w=>by
  rcases hg.ty with ⟨e,hd2⟩ | hd2
  ·have hu2:∀ w,(underlying U2).run P w = .ok (.slice e) w:=fun w=>by simp [underlying,hd2]
   cases v<;>simp [Builtin.append_,hu' w,hu2 w,hsz w]
  ·have hu2:∀ w,(underlying U2).run P w = .ok .string w:=fun w=>by simp [underlying,hd2]
   cases v<;>simp [Builtin.append_,hu' w,hu2 w,hsz w]
 have hlo:=hg.lenOf
 by_cases hcap:h.len+gl≤h.cap
 ·-- there is room
  rcases hh with ⟨rfl,rfl⟩ | ⟨b,o,C,fz,e1,e2,e3,e4,e5,e6,e7,e8⟩
  ·-- nil and nothing to add
   simp at hcap
   have hys:ys = []:=by
    have:=hg.len
    rw [hcap] at this
    simpa using this.symm
   subst hys
   refine⟨⟨none,0,0⟩,w,?_, .inl ⟨rfl,rfl⟩,by simp [hcap],rfl,rfl,rfl,Nat.le_refl _,fun _ _ _=>rfl,fun b hb=>by simp [AJ.own] at hb⟩
   have hfc:=hg.cells w (BF.refl w)
   rw [hcap] at hfc hlo
   simp only [Hd.val] at hfc ⊢
   rw [hsw]
   simp [Builtin.append_,hu' w,hsz w,hlo w,hfc]
  ·have hyl:gl * sz=ys.length:=hg.len
   have hmul:h.len * sz+gl * sz≤h.cap * sz:=by rw [← Nat.add_mul];exact Nat.mul_le_mul_right sz hcap
   obtain⟨w',s1,s2,s3,s4,s5,s6,s7⟩:=Ij (P:=P) (o:=o+h.len * sz) ys w C 0 e3 hone (by omega) e4
   refine⟨⟨h.a,h.len+gl,h.cap⟩,w',?_,?_,⟨rfl,fun hz=>hz⟩,s5,s6,s7,by omega,?_,?_⟩
   ·have hfc:=hg.cells w (BF.refl w)
    obtain⟨ha,hl,hc⟩:=h
    dsimp only at *
    subst e1
    simp only [Hd.val] at hfc ⊢
    rw [hsw]
    simp [Builtin.append_,hu' w,hsz w,hlo w,hfc,hcap,EC,s1]
   ·refine .inr ⟨b,o,Cw C (o+h.len * sz) ys,fz,e1,by omega,by simpa using s2,?_,?_,hcap,?_,?_⟩
    ·rw [EA (by omega)];exact e4
    ·rw [EA (by omega)];exact e5
    ·rw [Nat.add_mul,List.length_append,e7,hyl]
    ·exact Us e7.symm (by rw [e7];exact e8) (by omega)
   ·intro k hk hf
    refine s3 k fun e=>hf ?_
    simp [AJ.own,e1,e]
   ·intro k hk
    simp [AJ.own,e1] at hk ⊢
    exact⟨by omega, .inl hk⟩
 ·-- it grows
  have hlt:h.cap < h.len+gl:=by omega
  have hnc:=Vx hlt
  have hbig:¬ (281474976710656 < Builtin.nextslicecap (h.len+gl) h.cap * Gz):=by
   have:=Nat.mul_le_mul_right Gz hnc
   omega
  have hfh:=GM (P:=P) hrd
  let q:Question:= .appendCap (h.len+gl) h.cap E
  let w1:World:=w.drew
  let nc:Nat:=q.cut (w.tape w.drawn q)
  have hq:q.forced=false:=rfl
  have hncle:h.len+gl≤nc:=Nat.le_add_right _ _
  have hk1:BF w w1:=⟨rfl,rfl,rfl,Nat.le_refl _,fun _ _=>rfl⟩
  have hfc1:=hg.cells w1 hk1
  have hfh1:=GM (P:=P) (hrd.Ll hk1)
  let row:List Value:=cs++ys++(Builtin.zeroCells z.cells (nc - (h.len+gl))).toList
  have hrow:row.length=nc * sz:=by
   simp only [row,List.length_append,Array.length_toList,Kg,hzs]
   rw [← hrd.1,← hg.len,← Nat.add_mul,← Nat.add_mul]
   congr 1;omega
  refine⟨⟨some ⟨w.heap.size,0,none⟩,h.len+gl,nc⟩,w1.alloc (.cells row.toArray E),?_,?_,⟨rfl,fun _=>⟨fun a ha=>by cases ha;rfl,fun _=>by show nc≠0;omega⟩⟩,rfl,rfl,rfl,by simp [w1],?_,?_⟩
  ·obtain⟨ha,hl,hc⟩:=h
   dsimp only at *
   simp only [Hd.val] at hfc1 hfh1 ⊢
   have hz1:=hz w.drew
   simp only [w1] at hfc1 hfh1
   rw [hsw]
   simp [Builtin.append_,hu' w,hsz w,hlo w,hcap,hti,hbig,hib,Nat.ne_of_gt hb0,hfc1,hfh1,hz1,newRow,Question.forced]
   simp [w1,row,nc,q]
   congr 2
   apply Array.ext'
   simp
  ·refine .inr ⟨w.heap.size,0,row,(0,0),rfl,by simp [w1],?_,fun _ _ h=>by simp at h,by rw [hrow];simp,hncle,?_,?_⟩
   ·show(w.heap.push _)[w.heap.size]?=_
    simp
   ·rw [Nat.add_mul,List.length_append,hrd.1,hg.len]
   ·simp only [List.drop_zero,row]
    rw [List.take_left]
  ·intro k hk _
   exact RowKit.Below.heap_alloc w1 _ k hk
  ·intro b hb
   simp [AJ.own] at hb
   subst hb
   exact⟨by simp [w1], .inr (Nat.le_refl _)⟩
end Go.Ing
/- Engine, part 9: slices in walks. -/
namespace Go.Ing
open Go

theorem Nh:∀(vs:List Value) (k off:Nat) (cs:List Value),off+k+vs.length≤cs.length →
  (vs.zipIdx k).foldl (fun(cs:Array Value) (x:Value × Nat)=>cs.setIfInBounds (off+x.2) x.1) cs.toArray=(Cw cs (off+k) vs).toArray
 | [],k,off,cs,_=>by simp [L3]
 | v :: vs,k,off,cs,h=>by
  simp only [List.length_cons] at h
  rw [List.zipIdx_cons,List.foldl_cons]
  have e:(cs.toArray).setIfInBounds (off+k) v=(cs.set (off+k) v).toArray:=by simp
  rw [e,Nh vs (k+1) off _ (by simp;omega),Ka (by omega)]
  rfl
theorem Q4 {place:Nat→Option (Nat × Nat)}{cs:List Value}{i off sz:Nat}{v:Value}{vs:List Value}{rest:List (Nat × Value)}(hp:place i=some (off,sz))(hv:v.cells=vs.toArray)(hl:vs.length=sz)(hb:off+sz≤cs.length) :
  Instr.fill place cs.toArray ((i,v) :: rest)=Instr.fill place (Cw cs off vs).toArray rest:=by
 have h1:v.cells.size=sz:=by rw [hv];simpa using hl
 simp only [Instr.fill,hp]
 rw [if_neg (by simp [h1];omega)]
 congr 1
 rw [hv,← Array.foldl_toList]
 have:=Nh vs 0 off cs (by omega)
 simpa using this

section
variable {P:Program} {n:Nat} {w0:World} {M:List Nat} {Q:Exit→Act→World→Prop} {F F':List (Nat × Value)} {L L':List AJ} {ops:Array Oper} {rest:List Oper}

inductive Bd (F:List (Nat × Value))(place:Nat→Option (Nat × Nat)):List (Nat × Operand)→List Value→List Value→Prop where
 | nil {cs:List Value}:Bd F place [] cs cs
 | cons {α β:Type} {ea:α→List Value} {eb:β→List Value} {o sz:Nat} {g:α→β} {s:α→β→α} {i:Nat} {x:Operand} {X:α} {Y:β} {v:Value} {rest:List (Nat × Operand)} {cs':List Value}
   (hl:Ac ea eb o sz g s) (hx:ev F x=some v) (hv:v.cells=(eb Y).toArray) (hp:place i=some (o,sz)) (h:Bd F place rest (ea (s X Y)) cs'):Bd F place ((i,x) :: rest) (ea X) cs'
theorem Bd.fill {place:Nat→Option (Nat × Nat)}{ps:List (Nat × Operand)}{cs cs':List Value}(h:Bd F place ps cs cs'){a:Act}(hF:Fr n a F):Instr.fill place cs.toArray (ps.map fun(i,x)=>(i,a.eval x))=some cs'.toArray:=by
 induction h with
 | nil=>rfl
 | cons hl hx hv hp _ ih=>
  rename_i X Y v rest cs' _
  rw [List.map_cons]
  show Instr.fill _ _ ((_,a.eval _) :: _)=_
  rw [hF.ev hx,Q4 hp hv (hl.len Y) (hl.Yn X),hl.set]
  exact ih
def ZP (P:Program)(T:Nat)(ps:List (Nat × Nat)):Prop:=∃ fs,P.underlying T=some (.struct fs)∧∀ w,(fs.mapM fun f=>do pure (f.offset,← sizeOf f.type):Sem (Array (Nat × Nat))).run P w = .ok ps.toArray w
theorem ZD {T U:Nat}{ps:List (Nat × Nat)}{parts:List (Nat × Operand)}{z:Value}{cs cs':List Value}(hp:ZP P T ps)(hz:ZV P T z)(hzc:z.cells=cs.toArray)(h:Bd F (fun i=>ps[i]?) parts cs cs'):PS P n w0 M (.build T parts.toArray) U F L (.agg cs'.toArray) L:=Bj fun a w hF=>by
 obtain⟨fs,hu,hf⟩:=hp
 have:=h.fill (n:=n) hF
 have hw:=hf w
 simp only [execOp,Instr.build,underlying]
 simp only [Sem.run_bind,hz w,Result.andThen_ok,run_program,hu,Sem.run_pure]
 rw [hw]
 simp only [Result.andThen_ok,hzc]
 have e:(Array.map (fun x=>match x with | (i,x)=>(i,a.eval x)) parts.toArray).toList=parts.map fun(i,x)=>(i,a.eval x):=by simp
 rw [e]
 have e2:(fun x:Nat=>ps.toArray[x]?)=fun i:Nat=>ps[i]?:=by funext i;simp
 rw [e2,this]
 rfl
theorem XQ {T U len E sz:Nat}{parts:List (Nat × Operand)}{z:Value}{cs cs':List Value}(hu:P.underlying T=some (.array len E))(hs:Sz P E sz)(hz:ZV P T z)(hzc:z.cells=cs.toArray)(h:Bd F (fun i=>some (i * sz,sz)) parts cs cs'):PS P n w0 M (.build T parts.toArray) U F L (.agg cs'.toArray) L:=Bj fun a w hF=>by
 have:=h.fill (n:=n) hF
 simp only [execOp,Instr.build,underlying]
 simp only [Sem.run_bind,hz w,Result.andThen_ok,run_program,hu,Sem.run_pure,hs w,hzc]
 have e:(Array.map (fun x=>match x with | (i,x)=>(i,a.eval x)) parts.toArray).toList=parts.map fun(i,x)=>(i,a.eval x):=by simp
 rw [e,this]
 rfl

theorem M0 {d T U E sz:Nat}{x:Operand}{pos:String}{Bl:Array Edge}{v z:Value}{vs:List Value}(hd:Nat.blt d n=true)(hu:P.underlying T=some (.slice E))(hs:Sz P E sz)(hz:ZV P E z)(_hzs:z.cells.size=sz)(hsz:0 < sz)(hbig:sz≤16777216)(hx:ev F x=some v)(hv:v.cells=vs.toArray)(hl:vs.length=sz)
  (k:∀ b,GL P n w0 M ops Q rest ((d,Hd.val ⟨some ⟨b,0,none⟩,1,1⟩) :: F) (AJ.own ⟨some ⟨b,0,none⟩,1,1⟩ E sz vs :: L)):GL P n w0 M ops Q (⟨some d, .buildSlice T 1 #[(0,x)],U,pos,Bl,none⟩ :: rest) F L:=by
 intro a w hF hS
 have hw1:=hS.alloc E vs
 have hS':St w0 M (w.alloc (.cells vs.toArray E)) (AJ.own ⟨some ⟨w.heap.size,0,none⟩,1,1⟩ E sz vs :: L):=by
  refine hw1.Dy (.head) rfl rfl rfl (Nat.le_refl _) (fun _ _ _=>rfl) ?_ (fun b hb=>?_)
  ·refine .inr ⟨w.heap.size,0,vs,(0,0),rfl,by simp,hw1.ok _ (List.mem_cons_self ..),fun _ _ h=>by simp at h,by simp [hl],Nat.le_refl _,by simp [hl],by simp⟩
  ·simp [AJ.own] at hb
   subst hb
   exact⟨by simp, .inl (by simp [AJ.box])⟩
 refine E7 (R:=fun v L'=>∃ b,v=Hd.val ⟨some ⟨b,0,none⟩,1,1⟩∧L'=AJ.own ⟨some ⟨b,0,none⟩,1,1⟩ E sz vs :: L) hd ?_ (fun v L' ⟨b,e1,e2⟩=>by subst e1;subst e2;exact k b) a w hF hS
 intro a w hF hS
 have hw1:=hS.alloc E vs
 have hS':St w0 M (w.alloc (.cells vs.toArray E)) (AJ.own ⟨some ⟨w.heap.size,0,none⟩,1,1⟩ E sz vs :: L):=by
  refine hw1.Dy (.head) rfl rfl rfl (Nat.le_refl _) (fun _ _ _=>rfl) ?_ (fun b hb=>?_)
  ·refine .inr ⟨w.heap.size,0,vs,(0,0),rfl,by simp,hw1.ok _ (List.mem_cons_self ..),fun _ _ h=>by simp at h,by simp [hl],Nat.le_refl _,by simp [hl],by simp⟩
  ·simp [AJ.own] at hb
   subst hb
   exact⟨by simp, .inl (by simp [AJ.box])⟩
 refine⟨_,_,w.alloc (.cells vs.toArray E),⟨w.heap.size,rfl,rfl⟩,?_,hS'⟩
 have hfill:Instr.fill (fun i=>some (i * sz,sz)) ((Array.range (1 * sz)).map (fun i=>z.cells[i % z.cells.size]!)) [(0,v)]=some vs.toArray:=by
  have e:(Array.range (1 * sz)).map (fun i=>z.cells[i % z.cells.size]!)=((List.range sz).map (fun i=>z.cells[i % z.cells.size]!)).toArray:=by
   apply Array.ext';simp
  rw [e,Q4 (off:=0) (sz:=sz) (by simp) hv hl (by simp)]
  simp [Instr.fill,Cw,hl]
 have hne:1 * sz≠0:=by omega
 have hnb:¬ (1 * sz > 2 ^ 24):=by omega
 simp only [execOp,Instr.buildSlice,underlying,Sem.run_bind,run_program,hu,Result.andThen_ok,Sem.run_pure,hs w,hnb,hne,if_false,hz w]
 simp [hF.ev hx] at hfill ⊢
 simp [hfill,newRow,Hd.val]

theorem Oc {d T U U2 E sz Gz gl:Nat}{x y:Operand}{pos:String}{Bl:Array Edge}{h:Hd}{cs ys:List Value}{z yv:Value}{Lf:AJ→List AJ}(hd:Nat.blt d n=true)(hu:P.underlying U=some (.slice E))(hs:Sz P E sz)(hz:ZV P E z)(hzs:z.cells.size=sz)(hby:BY P E Gz)(hb0:0 < Gz)(hsz:0 < sz)
  (hx:ev F x=some h.val) (hy:ev F y=some yv) (hk:∀ w,St w0 M w L→Src P w U2 sz yv gl ys) (hone:∀ v∈ys,v.oneCell'=true) (hbd:(2 * (h.len+gl)+192) * Gz≤281474976710656) (hU:∀ r,Ip L (AJ.own h E sz cs) r (Lf r))
  (k:∀ h':Hd,h'.len=h.len+gl→(h.Z→h'.Z)→GL P n w0 M ops Q rest ((d,h'.val) :: F) (Lf (AJ.own h' E sz (cs++ys)))):GL P n w0 M ops Q (⟨some d, .call ⟨.builtin .append,#[x,y],#[U,U2]⟩,T,pos,Bl,none⟩ :: rest) F L:=by
 refine E7 (R:=fun v L'=>∃ h':Hd,v=h'.val∧L'=Lf (AJ.own h' E sz (cs++ys))∧h'.len=h.len+gl∧(h.Z→h'.Z)) hd ?_ (fun v L' ⟨h',e1,e2,e3,e4⟩=>by subst e1;subst e2;exact k h' e3 e4)
 intro a w hF hS
 obtain⟨h',w',e1,e2,e3,e4,e5,e6,e7,e8,e9⟩:=WB (V:=T) hu hs hz hzs hby hb0 hsz (hS.ok _ (hU ⟨[],fun _=>True,fun _ _ _ _=>trivial⟩).mem) (hk w hS) hone hbd
 refine⟨_,_,w',⟨h',rfl,rfl,e3⟩,?_,hS.Dy (hU _) e4 e5 e6 e7 e8 e2 e9⟩
 simp [execOp,resolve,invoke,builtin,hF.ev hx,hF.ev hy,e1]
end
end Go.Ing
namespace Go.Ing
open Go
def CE (b:UInt8):List Value:= [.int .u8 (b.toNat:Int)]
theorem FX:∀ s:AL,s.flatMap CE=s.map fun b=>Value.int .u8 (b.toNat:Int)
 | []=>rfl
 | b :: s=>by rw [List.flatMap_cons,FX s];rfl
instance SI:Flat CE 1:=⟨fun _=>rfl,fun y v hv=>by simp [CE] at hv;subst hv;rfl⟩
section
variable {P:Program} {n:Nat} {w0:World} {M:List Nat} {Q:Exit→Act→World→Prop} {F F':List (Nat × Value)} {L L':List AJ} {ops:Array Oper} {rest:List Oper}
theorem GY {d S T U E:Nat}{x:Operand}{pos:String}{Bl:Array Edge}{s:AL}(hd:Nat.blt d n=true)(hS':P.underlying S=some .string)(hT:P.underlying T=some (.slice E))(hE:P.underlying E=some (.int .u8))(hx:ev F x=some (Ag s))
  (k:∀ h:Hd,h.len=s.length→GL P n w0 M ops Q rest ((d,h.val) :: F) (AJ.own h E 1 (s.flatMap CE) :: L)):GL P n w0 M ops Q (⟨some d, .convert S T x,U,pos,Bl,none⟩ :: rest) F L:=by
 refine E7 (R:=fun v L'=>∃ h:Hd,v=h.val∧L'=AJ.own h E 1 (s.flatMap CE) :: L∧h.len=s.length) hd ?_ (fun v L' ⟨h,e1,e2,e3⟩=>by subst e1;subst e2;exact k h e3)
 intro a w hF hS
 let c:=grownCap w (ByteArray.mk s.toArray).size 0 E
 have hr:=run_bytes_of_string (P:=P) w S T E (ByteArray.mk s.toArray) hS' hT hE
 let row:List Value:=s.flatMap CE++List.replicate (c - s.length) (.int .u8 0)
 have hcs:s.length≤c:=Nat.le_add_right _ _
 have hfm:=FX s
 have hfl:(s.flatMap CE).length=s.length:=by rw [hfm];simp
 have hrow:bytesRow (ByteArray.mk s.toArray) c=row.toArray:=by
  apply Array.ext'
  simp [bytesRow,row,hfm,Mn]
 have hrl:row.length=c:=by simp only [row,List.length_append,hfl,List.length_replicate];omega
 refine⟨_,_,_,⟨⟨some ⟨w.heap.size,0,none⟩,s.length,c⟩,rfl,rfl,rfl⟩,by simp only [execOp,hF.ev hx,Sem.run_bind];rw [hr];rfl,?_⟩
 show St w0 M (w.drew.alloc (.cells (bytesRow (ByteArray.mk s.toArray) c) E ((bytesRow (ByteArray.mk s.toArray) c).size,(bytesRow (ByteArray.mk s.toArray) c).size+1))) _
 rw [hrow]
 have hb:∀ k,k < w.heap.size→(w.drew.alloc (.cells row.toArray E (row.toArray.size,row.toArray.size+1))).heap[k]?=w.heap[k]?:=fun k hk=>RowKit.Below.heap_alloc w.drew _ k hk
 refine⟨hS.os,hS.tape,hS.output,by have:=hS.size;simp;omega,fun k hk hM=>(hb k (by have:=hS.size;omega)).trans (hS.Il k hk hM),?_,?_,?_⟩
 ·intro r hr
  rcases List.mem_cons.1 hr with rfl | hr
  ·refine .inr ⟨w.heap.size,0,row,(row.toArray.size,row.toArray.size+1),rfl,by simp,?_,fun i hi h=>by simp at h;omega,by simp [hrl],hcs,by simp [hfl],?_⟩
   ·show(w.heap.push _)[w.heap.size]?=_
    simp
   ·simp [row]
  ·exact r.loc w _ (fun b hbr=>hb b (hS.Bn r hr b hbr).1) (hS.ok r hr)
 ·intro r hr b hbr
  rcases List.mem_cons.1 hr with rfl | hr
  ·simp [AJ.own] at hbr;subst hbr
   refine⟨by simp,fun hlt=>?_⟩
   have:=hS.size;omega
  ·have:=hS.Bn r hr b hbr
   exact⟨by simp;omega,this.2⟩
 ·refine List.pairwise_cons.2 ⟨fun r hs b hbr hbs=>?_,hS.Ir⟩
  simp [AJ.own] at hbr;subst hbr
  have:=(hS.Bn r hs _ hbs).1
  omega
theorem V7 (s:AL):(s.map fun b=>(b.toNat:Int)).foldl (fun r n=>r.push (UInt8.ofNat n.toNat)) ByteArray.empty=ByteArray.mk s.toArray:=by
 rw [foldl_push_bytes]
 apply ByteArray.ext
 apply Array.ext'
 have:∀ s:AL,s.map ((fun n:Int=>UInt8.ofNat n.toNat) ∘ fun b:UInt8=>(b.toNat:Int))=s:=fun s=>by
  induction s with
  | nil=>rfl
  | cons b s ih=>rw [List.map_cons,ih];simp
 simp only [List.map_map,this]
 simp [ByteArray.empty,ByteArray.emptyWithCapacity]
 rfl
theorem Qq {S T U E:Nat}{x:Operand}{h:Hd}{s:AL}(hS':P.underlying S=some (.slice E))(hT:P.underlying T=some .string)(hE:P.underlying E=some (.int .u8))(hx:ev F x=some h.val)(hk:Kn w0 M L h E 1 (s.flatMap CE)):PS P n w0 M (.convert S T x) U F L (Ag s) L:=by
 intro a w hF hS
 have hr:=hk w hS
 refine⟨w,?_,rfl,rfl⟩
 have hfm:=FX s
 obtain⟨ha,hl,hc⟩:=h
 have h1:=hr.1
 rw [hfm,List.length_map] at h1
 dsimp only at h1
 simp only [execOp,hF.ev hx,Hd.val,Sem.run_bind]
 by_cases hne:s = []
 ·subst hne
  simp only [List.length_nil,Nat.mul_one] at h1
  subst h1
  cases ha with
  | none=>rw [run_convert_bytes_nil w S E hS' hE 0 hc T hT];rfl
  | some ad=>
   rw [run_convert_bytes_string w S T E _ 0 hc hS' hE hT,run_bytesToString w ad 0 hc [] (by simp [loadCells,loadCellsFrom])]
   rfl
 ·obtain⟨b,o,C,fz,e1,e2,e3,e4,e5⟩:=hr.2 (by rw [hfm];simpa using hne)
  dsimp only at e1
  subst e1
  rw [run_convert_bytes_string w S T E _ hl hc hS' hE hT,run_bytesToString w _ hl hc (s.map fun b=>(b.toNat:Int)) ?_,V7]
  ·rfl
  ·rw [hfm,List.length_map] at e4 e5
   rw [Nat.mul_one] at h1
   rw [h1,Eh e3 e4,e5]
   simp
theorem Yt {d T U E sz:Nat}{x y:Operand}{pos:String}{Bl:Array Edge}{h:Hd}{cs:List Value}{kd:IntKind}{i:Int}{Lf:AJ→List AJ}(hd:Nat.blt d n=true)(hT:P.underlying T=some (.slice E))(hs:Sz P E sz)(hx:ev F x=some h.val)(hy:ev F y=some (.int kd i))(h0:0≤i)(h1:i≤(h.len:Int))(hU:∀ r,Ip L (AJ.own h E sz cs) r (Lf r))
  (k:GL P n w0 M ops Q rest ((d,Hd.val ⟨h.a,i.toNat,h.cap⟩) :: F) (Lf (AJ.own ⟨h.a,i.toNat,h.cap⟩ E sz (cs.take (i.toNat * sz))))):GL P n w0 M ops Q (⟨some d, .slice T x none (some y) none,U,pos,Bl,none⟩ :: rest) F L:=by
 refine E7 (R:=fun v L'=>v=Hd.val ⟨h.a,i.toNat,h.cap⟩∧L'=Lf (AJ.own ⟨h.a,i.toNat,h.cap⟩ E sz (cs.take (i.toNat * sz)))) hd ?_ (fun v L' ⟨e1,e2⟩=>by subst e1;subst e2;exact k)
 intro a w hF hS
 have hok:=hS.ok _ (hU ⟨[],fun _=>True,fun _ _ _ _=>trivial⟩).mem
 refine⟨_,_,w,⟨rfl,rfl⟩,?_,?_⟩
 ·have hcap:i≤(h.cap:Int):=by
   rcases hok with ⟨rfl,rfl⟩ | ⟨b,o,C,fz,e1,e2,e3,e4,e5,e6,e7,e8⟩
   ·exact h1
   ·omega
  have hmap:h.a.map (fun a=>a.add 0)=h.a:=by cases h.a<;>rfl
  simp [execOp,Instr.sliceAt,underlying,hT,hF.ev hx,hF.ev hy,Hd.val,Instr.slice,Instr.sliceBounds,Instr.sliceBound,asIntOf,h0,hcap,hs w,hmap]
 ·refine hS.Dy (hU _) rfl rfl rfl (Nat.le_refl _) (fun _ _ _=>rfl) ?_ ?_
  ·rcases hok with ⟨rfl,rfl⟩ | ⟨b,o,C,fz,e1,e2,e3,e4,e5,e6,e7,e8⟩
   ·have:i.toNat=0:=by simp at h1;omega
    exact .inl ⟨by rw [this],by simp⟩
   ·have hm:i.toNat * sz≤h.len * sz:=Nat.mul_le_mul_right sz (by omega)
    have hl:(cs.take (i.toNat * sz)).length=i.toNat * sz:=by rw [List.length_take,Nat.min_eq_left (by omega)]
    refine .inr ⟨b,o,C,fz,e1,e2,e3,e4,e5,by simp only;omega,hl.symm,?_⟩
    rw [hl]
    conv=>rhs;rw [← e8,List.take_take,Nat.min_eq_left (by omega)]
  ·intro b hb
   have hb':b∈(AJ.own h E sz cs).Bn:=hb
   exact⟨(hS.Bn _ (hU ⟨[],fun _=>True,fun _ _ _ _=>trivial⟩).mem b hb').1, .inl hb'⟩
end
end Go.Ing
/- Engine, part R: from a contract of a law to the row. -/
namespace Go.Ing
open Go Go.RowKit Go.ChangeShapes Go.WideShapes Go.ChangeAt

theorem LQ {H:Type}{enc:TypeId × Value→H}{P:Program}{W W':World}(hl:laidOutB P=true)(hb:RowKit.Below W.heap.size W W') :
  ∀(ts:List TypeId) (vs:List Value) (ds:List (DataW H)) (p:List MemPlace),(∀ t∈ts,P.readableRec t=true∧t < P.types.size)→DataW.TrodAll enc P W 0 (fun _=>true) true ts vs ds p→DataW.TrodAll enc P W' 0 (fun b=>decide (b < W.heap.size)) true ts vs ds p
 | [],[],[],p,_,h=>h
 | t :: ts,v :: vs,d :: ds,p,hr,h=>by
  obtain⟨a,q,h1,h2,rfl⟩:=h
  have lt:∀ x∈a,x.block < W.heap.size:=by obtain⟨m,hm⟩:=h1;exact DataW.trod_lt m _ _ _ hm
  exact⟨a,q,Below.trod hl (hr t (by simp)).1 (hr t (by simp)).2 h1 hb lt,LQ hl hb ts vs ds q (fun t ht=>hr t (by simp [ht])) h2,rfl⟩
 | [],[],_ :: _,_,_,h=>by simp [DataW.TrodAll] at h
 | [],_ :: _,_,_,_,h=>by simp [DataW.TrodAll] at h
 | _ :: _,[],_,_,_,h=>by simp [DataW.TrodAll] at h
 | _ :: _,_ :: _,[],_,_,h=>by simp [DataW.TrodAll] at h

theorem Zx {H:Type}{enc:TypeId × Value→H}{P:Program}{fn:Func}{s:ChangeSpec}{B:TypeId}{f:FuncId}(hl:laidOutB P=true)(BB:fn.resultTypes=#[B])(hB:P.underlying B=some .bool)(hread:(fn.params.toList.all fun t=>P.readableRec t && Nat.blt t P.types.size)=true)
  (hvars:s.vars = []) (hs:∀(ds:List (DataW H)),ds.length=fn.params.toList.length→(s.fn H (ds ++ []))={ results:= [.lit (.bool true)],args:=ds })
  {W:World} {args:Array Value} {ds gs:List (DataW H)} {before:List MemPlace} (hW:DataW.Whole enc P fn.params.toList s.vars false W args.toList ds gs before)
  (hc:Ch P f args W fun v W'=>v = .bool true∧BF W W'):Calls P f args W fun e W'=>∃ v,e = .returned v∧s.post enc P fn false true false false W args v W':=by
 refine Calls.mono hc fun e W' ⟨v,he,hv,hk⟩=>⟨v,he,?_⟩
 subst hv
 have hW':=hW
 obtain⟨p,q,hA,hV,rfl,hfz,hnd⟩:=hW
 rw [hvars] at hV
 obtain⟨rfl,rfl⟩:=trodVars_none hV
 have hlen:ds.length=fn.params.toList.length:=by
  have:∀(ts:List TypeId) (vs:List Value) (ds:List (DataW H)) (p:List MemPlace),DataW.TrodAll enc P W 0 (fun _=>true) true ts vs ds p→ds.length=ts.length:=by
   intro ts
   induction ts with
   | nil=>intro vs ds p h;cases vs<;>cases ds<;>simp_all [DataW.TrodAll]
   | cons t ts ih=>intro vs ds p h;cases vs<;>cases ds<;>simp_all [DataW.TrodAll];obtain⟨_,_,_,h2,_⟩:=h;exact ih _ _ _ h2
  exact this _ _ _ _ hA
 have e:=hs ds hlen
 refine⟨ds,[],p ++ [],[],p,[],hW',?_,?_,?_,hk.below.frame _,fun h=>by cases h⟩
 ·rw [e,BB]
  exact trodAll_mk1 (shut_bool hB true)
 ·rw [e]
  refine LQ hl hk.below _ _ _ _ (fun t ht=>?_) hA
  have:=List.all_eq_true.1 hread t ht
  rw [Bool.and_eq_true] at this
  exact⟨this.1,by simpa [Nat.blt_eq] using this.2⟩
 ·rw [e,hvars]
  rfl

/-! ### data out of cells -/
section
variable {H:Type} {enc:TypeId × Value→H} {P:Program} {w:World}
def Dc (H:Type)(enc:TypeId × Value→H)(P:Program)(w:World){α:Type}(e:α→List Value)(wf:α→Prop)(t:TypeId):Prop:=
 ∀ fuel cs d ps,DataW.trod enc P w 0 (fun _=>true) true fuel t cs=some (d,ps)→∃ x:α,cs=e x∧wf x
def GX (n:Int):Prop:=-9223372036854775808≤n∧n≤9223372036854775807
def LR (s:AL):Prop:=s.length≤9223372036854775807
def Ri (_:Bool):Prop:=True
theorem eH {t:TypeId}(hu:P.underlying t=some (.int .i64)):Dc H enc P w AT GX t:=by
 intro fuel cs d ps h
 obtain⟨n,e,_,hw⟩:=DataW.trod_int hu h
 exact⟨n,e,bounds_i64 hw⟩
theorem XK {t:TypeId}(hu:P.underlying t=some .string):Dc H enc P w AX LR t:=by
 intro fuel cs d ps h
 obtain⟨s,e,_,hl⟩:=DataW.trod_string hu h
 exact⟨s.data.toList,e,hl⟩
def VE {α:Type}{n:Nat}[Inhabited α](wf:α→Prop)(v:Vector α n):Prop:=∀ i:Int,0≤i→i < (n:Int)→wf (v.at i)
theorem Dc.part {α:Type}{e:α→List Value}{wf:α→Prop}{fs:Array Field}{n i T o sz:Nat}{cs:List Value}{xs:List (DataW H × List MemPlace)}(hlen:xs.length=fs.size)(hf:∀(i:Nat) (f:Field),fs[i]?=some f→DataW.trod enc P w 0 (fun _=>true) true n f.type ((cs.drop f.offset).take (P.cellsOf f.type))=xs[i]?)
  (hfi:(fs[i]?).map (fun f=>(f.type,f.offset))=some (T,o)) (hz:P.cellsOf T=sz) (hd:Dc H enc P w e wf T):∃ x,(cs.drop o).take sz=e x∧wf x:=by
 cases h:fs[i]? with
 | none=>rw [h] at hfi;cases hfi
 | some f=>
  rw [h] at hfi;simp at hfi
  obtain⟨rfl,rfl⟩:=hfi
  have h1:=hf i f h
  have hi:i < fs.size:=by
   rcases Nat.lt_or_ge i fs.size with h' | h'
   ·exact h'
   ·rw [Array.getElem?_eq_none h'] at h;cases h
  have h2:xs[i]?=some xs[i]:=List.getElem?_eq_getElem (by omega)
  rw [h2,hz] at h1
  exact hd _ _ _ _ h1
theorem Ht {cs:List Value}(o a b:Nat):(cs.drop o).take a++(cs.drop (o+a)).take b=(cs.drop o).take (a+b):=by
 rw [List.take_add,List.drop_drop]
end
end Go.Ing
/- The program's data, out of what came in. -/
namespace Go.Ing
open Go Go.RowKit Go.ChangeShapes Go.WideShapes Go.ChangeAt
def AI.wf (x:AI):Prop:=(GX) x.at_∧(GX) x.verb∧(LR) x.sub∧(VE GX) x.us∧(VE GX) x.Dl∧(GX) x.Bw
theorem AI.dc {H:Type}{enc:TypeId × Value→H}{P:Program}{w:World}{t:TypeId}{fs:Array Field}{T0 T1 T2 T3 T4 T5:Nat}(hu:P.underlying t=some (.struct fs))(hc:P.cellsOf t=10)
  (f0:(fs[0]?).map (fun f=>(f.type,f.offset))=some (T0,0)) (z0:P.cellsOf T0=1) (d0:Dc H enc P w (α:=Int) (AT) (GX) T0)
  (f1:(fs[1]?).map (fun f=>(f.type,f.offset))=some (T1,1)) (z1:P.cellsOf T1=1) (d1:Dc H enc P w (α:=Int) (AT) (GX) T1)
  (f2:(fs[2]?).map (fun f=>(f.type,f.offset))=some (T2,2)) (z2:P.cellsOf T2=1) (d2:Dc H enc P w (α:=AL) (AX) (LR) T2)
  (f3:(fs[3]?).map (fun f=>(f.type,f.offset))=some (T3,3)) (z3:P.cellsOf T3=3) (d3:Dc H enc P w (α:=QR Int 3) (BO AT) (VE GX) T3)
  (f4:(fs[4]?).map (fun f=>(f.type,f.offset))=some (T4,6)) (z4:P.cellsOf T4=3) (d4:Dc H enc P w (α:=QR Int 3) (BO AT) (VE GX) T4)
  (f5:(fs[5]?).map (fun f=>(f.type,f.offset))=some (T5,9)) (z5:P.cellsOf T5=1) (d5:Dc H enc P w (α:=Int) (AT) (GX) T5) :
  Dc H enc P w AI.enc (AI.wf) t:=by
 intro fuel cs d ps h
 obtain⟨xs,n,_,_,hl,hlen,hf⟩:=DataW.trod_struct hu h
 obtain⟨x0,e0,w0⟩:=Dc.part hlen hf f0 z0 d0
 obtain⟨x1,e1,w1⟩:=Dc.part hlen hf f1 z1 d1
 obtain⟨x2,e2,w2⟩:=Dc.part hlen hf f2 z2 d2
 obtain⟨x3,e3,w3⟩:=Dc.part hlen hf f3 z3 d3
 obtain⟨x4,e4,w4⟩:=Dc.part hlen hf f4 z4 d4
 obtain⟨x5,e5,w5⟩:=Dc.part hlen hf f5 z5 d5
 refine⟨⟨x0,x1,x2,x3,x4,x5⟩,?_,w0,w1,w2,w3,w4,w5⟩
 have hs:cs=(cs.drop 0).take 10:=by rw [List.drop_zero,← hc,← hl,List.take_length]
 rw [hs,show(cs.drop 0).take 10=(cs.drop 0).take 9++(cs.drop 9).take 1 from(by rw [show(9:Nat)=0+9 from rfl,Ht 0 9 1]),show(cs.drop 0).take 9=(cs.drop 0).take 6++(cs.drop 6).take 3 from(by rw [show(6:Nat)=0+6 from rfl,Ht 0 6 3]),show(cs.drop 0).take 6=(cs.drop 0).take 3++(cs.drop 3).take 3 from(by rw [show(3:Nat)=0+3 from rfl,Ht 0 3 3]),show(cs.drop 0).take 3=(cs.drop 0).take 2++(cs.drop 2).take 1 from(by rw [show(2:Nat)=0+2 from rfl,Ht 0 2 1]),show(cs.drop 0).take 2=(cs.drop 0).take 1++(cs.drop 1).take 1 from(by rw [show(1:Nat)=0+1 from rfl,Ht 0 1 1]),e0,e1,e2,e3,e4,e5]
 rfl
def BN.wf (wfQ:Hd→Prop)(x:BN):Prop:=(LR) x.now∧(Ri) x.long∧(Ri) x.ret∧wfQ x.queue
theorem BN.dc {H:Type}{enc:TypeId × Value→H}{P:Program}{w:World}{wfQ:Hd→Prop}{t:TypeId}{fs:Array Field}{T0 T1 T2 T3:Nat}(hu:P.underlying t=some (.struct fs))(hc:P.cellsOf t=4)
  (f0:(fs[0]?).map (fun f=>(f.type,f.offset))=some (T0,0)) (z0:P.cellsOf T0=1) (d0:Dc H enc P w (α:=AL) (AX) (LR) T0)
  (f1:(fs[1]?).map (fun f=>(f.type,f.offset))=some (T1,1)) (z1:P.cellsOf T1=1) (d1:Dc H enc P w (α:=Bool) (B2) (Ri) T1)
  (f2:(fs[2]?).map (fun f=>(f.type,f.offset))=some (T2,2)) (z2:P.cellsOf T2=1) (d2:Dc H enc P w (α:=Bool) (B2) (Ri) T2)
  (f3:(fs[3]?).map (fun f=>(f.type,f.offset))=some (T3,3)) (z3:P.cellsOf T3=1) (d3:Dc H enc P w (α:=Hd) (EE) (wfQ) T3) :
  Dc H enc P w BN.enc (BN.wf wfQ) t:=by
 intro fuel cs d ps h
 obtain⟨xs,n,_,_,hl,hlen,hf⟩:=DataW.trod_struct hu h
 obtain⟨x0,e0,w0⟩:=Dc.part hlen hf f0 z0 d0
 obtain⟨x1,e1,w1⟩:=Dc.part hlen hf f1 z1 d1
 obtain⟨x2,e2,w2⟩:=Dc.part hlen hf f2 z2 d2
 obtain⟨x3,e3,w3⟩:=Dc.part hlen hf f3 z3 d3
 refine⟨⟨x0,x1,x2,x3⟩,?_,w0,w1,w2,w3⟩
 have hs:cs=(cs.drop 0).take 4:=by rw [List.drop_zero,← hc,← hl,List.take_length]
 rw [hs,show(cs.drop 0).take 4=(cs.drop 0).take 3++(cs.drop 3).take 1 from(by rw [show(3:Nat)=0+3 from rfl,Ht 0 3 1]),show(cs.drop 0).take 3=(cs.drop 0).take 2++(cs.drop 2).take 1 from(by rw [show(2:Nat)=0+2 from rfl,Ht 0 2 1]),show(cs.drop 0).take 2=(cs.drop 0).take 1++(cs.drop 1).take 1 from(by rw [show(1:Nat)=0+1 from rfl,Ht 0 1 1]),e0,e1,e2,e3]
 rfl
def A9.wf (wfQ:Hd→Prop)(x:A9):Prop:=wfQ x.wait∧(GX) x.shown∧(Ri) x.BL∧(LR) x.ring∧(Ri) x.cut
theorem A9.dc {H:Type}{enc:TypeId × Value→H}{P:Program}{w:World}{wfQ:Hd→Prop}{t:TypeId}{fs:Array Field}{T0 T1 T2 T3 T4:Nat}(hu:P.underlying t=some (.struct fs))(hc:P.cellsOf t=5)
  (f0:(fs[0]?).map (fun f=>(f.type,f.offset))=some (T0,0)) (z0:P.cellsOf T0=1) (d0:Dc H enc P w (α:=Hd) (EE) (wfQ) T0)
  (f1:(fs[1]?).map (fun f=>(f.type,f.offset))=some (T1,1)) (z1:P.cellsOf T1=1) (d1:Dc H enc P w (α:=Int) (AT) (GX) T1)
  (f2:(fs[2]?).map (fun f=>(f.type,f.offset))=some (T2,2)) (z2:P.cellsOf T2=1) (d2:Dc H enc P w (α:=Bool) (B2) (Ri) T2)
  (f3:(fs[3]?).map (fun f=>(f.type,f.offset))=some (T3,3)) (z3:P.cellsOf T3=1) (d3:Dc H enc P w (α:=AL) (AX) (LR) T3)
  (f4:(fs[4]?).map (fun f=>(f.type,f.offset))=some (T4,4)) (z4:P.cellsOf T4=1) (d4:Dc H enc P w (α:=Bool) (B2) (Ri) T4) :
  Dc H enc P w A9.enc (A9.wf wfQ) t:=by
 intro fuel cs d ps h
 obtain⟨xs,n,_,_,hl,hlen,hf⟩:=DataW.trod_struct hu h
 obtain⟨x0,e0,w0⟩:=Dc.part hlen hf f0 z0 d0
 obtain⟨x1,e1,w1⟩:=Dc.part hlen hf f1 z1 d1
 obtain⟨x2,e2,w2⟩:=Dc.part hlen hf f2 z2 d2
 obtain⟨x3,e3,w3⟩:=Dc.part hlen hf f3 z3 d3
 obtain⟨x4,e4,w4⟩:=Dc.part hlen hf f4 z4 d4
 refine⟨⟨x0,x1,x2,x3,x4⟩,?_,w0,w1,w2,w3,w4⟩
 have hs:cs=(cs.drop 0).take 5:=by rw [List.drop_zero,← hc,← hl,List.take_length]
 rw [hs,show(cs.drop 0).take 5=(cs.drop 0).take 4++(cs.drop 4).take 1 from(by rw [show(4:Nat)=0+4 from rfl,Ht 0 4 1]),show(cs.drop 0).take 4=(cs.drop 0).take 3++(cs.drop 3).take 1 from(by rw [show(3:Nat)=0+3 from rfl,Ht 0 3 1]),show(cs.drop 0).take 3=(cs.drop 0).take 2++(cs.drop 2).take 1 from(by rw [show(2:Nat)=0+2 from rfl,Ht 0 2 1]),show(cs.drop 0).take 2=(cs.drop 0).take 1++(cs.drop 1).take 1 from(by rw [show(1:Nat)=0+1 from rfl,Ht 0 1 1]),e0,e1,e2,e3,e4]
 rfl
def Room.wf (x:Room):Prop:=(LR) x.name∧(Ri) x.KF∧(VE GX) x.BH∧(VE Ri) x.shut
theorem Room.dc {H:Type}{enc:TypeId × Value→H}{P:Program}{w:World}{t:TypeId}{fs:Array Field}{T0 T1 T2 T3:Nat}(hu:P.underlying t=some (.struct fs))(hc:P.cellsOf t=14)
  (f0:(fs[0]?).map (fun f=>(f.type,f.offset))=some (T0,0)) (z0:P.cellsOf T0=1) (d0:Dc H enc P w (α:=AL) (AX) (LR) T0)
  (f1:(fs[1]?).map (fun f=>(f.type,f.offset))=some (T1,1)) (z1:P.cellsOf T1=1) (d1:Dc H enc P w (α:=Bool) (B2) (Ri) T1)
  (f2:(fs[2]?).map (fun f=>(f.type,f.offset))=some (T2,2)) (z2:P.cellsOf T2=6) (d2:Dc H enc P w (α:=QR Int 6) (BO AT) (VE GX) T2)
  (f3:(fs[3]?).map (fun f=>(f.type,f.offset))=some (T3,8)) (z3:P.cellsOf T3=6) (d3:Dc H enc P w (α:=QR Bool 6) (BO B2) (VE Ri) T3) :
  Dc H enc P w Room.enc (Room.wf) t:=by
 intro fuel cs d ps h
 obtain⟨xs,n,_,_,hl,hlen,hf⟩:=DataW.trod_struct hu h
 obtain⟨x0,e0,w0⟩:=Dc.part hlen hf f0 z0 d0
 obtain⟨x1,e1,w1⟩:=Dc.part hlen hf f1 z1 d1
 obtain⟨x2,e2,w2⟩:=Dc.part hlen hf f2 z2 d2
 obtain⟨x3,e3,w3⟩:=Dc.part hlen hf f3 z3 d3
 refine⟨⟨x0,x1,x2,x3⟩,?_,w0,w1,w2,w3⟩
 have hs:cs=(cs.drop 0).take 14:=by rw [List.drop_zero,← hc,← hl,List.take_length]
 rw [hs,show(cs.drop 0).take 14=(cs.drop 0).take 8++(cs.drop 8).take 6 from(by rw [show(8:Nat)=0+8 from rfl,Ht 0 8 6]),show(cs.drop 0).take 8=(cs.drop 0).take 2++(cs.drop 2).take 6 from(by rw [show(2:Nat)=0+2 from rfl,Ht 0 2 6]),show(cs.drop 0).take 2=(cs.drop 0).take 1++(cs.drop 1).take 1 from(by rw [show(1:Nat)=0+1 from rfl,Ht 0 1 1]),e0,e1,e2,e3]
 rfl
def A3.wf (x:A3):Prop:=(LR) x.name∧(GX) x.kind∧(GX) x.BZ∧(GX) x.at_∧(Ri) x.on
theorem A3.dc {H:Type}{enc:TypeId × Value→H}{P:Program}{w:World}{t:TypeId}{fs:Array Field}{T0 T1 T2 T3 T4:Nat}(hu:P.underlying t=some (.struct fs))(hc:P.cellsOf t=5)
  (f0:(fs[0]?).map (fun f=>(f.type,f.offset))=some (T0,0)) (z0:P.cellsOf T0=1) (d0:Dc H enc P w (α:=AL) (AX) (LR) T0)
  (f1:(fs[1]?).map (fun f=>(f.type,f.offset))=some (T1,1)) (z1:P.cellsOf T1=1) (d1:Dc H enc P w (α:=Int) (AT) (GX) T1)
  (f2:(fs[2]?).map (fun f=>(f.type,f.offset))=some (T2,2)) (z2:P.cellsOf T2=1) (d2:Dc H enc P w (α:=Int) (AT) (GX) T2)
  (f3:(fs[3]?).map (fun f=>(f.type,f.offset))=some (T3,3)) (z3:P.cellsOf T3=1) (d3:Dc H enc P w (α:=Int) (AT) (GX) T3)
  (f4:(fs[4]?).map (fun f=>(f.type,f.offset))=some (T4,4)) (z4:P.cellsOf T4=1) (d4:Dc H enc P w (α:=Bool) (B2) (Ri) T4) :
  Dc H enc P w A3.enc (A3.wf) t:=by
 intro fuel cs d ps h
 obtain⟨xs,n,_,_,hl,hlen,hf⟩:=DataW.trod_struct hu h
 obtain⟨x0,e0,w0⟩:=Dc.part hlen hf f0 z0 d0
 obtain⟨x1,e1,w1⟩:=Dc.part hlen hf f1 z1 d1
 obtain⟨x2,e2,w2⟩:=Dc.part hlen hf f2 z2 d2
 obtain⟨x3,e3,w3⟩:=Dc.part hlen hf f3 z3 d3
 obtain⟨x4,e4,w4⟩:=Dc.part hlen hf f4 z4 d4
 refine⟨⟨x0,x1,x2,x3,x4⟩,?_,w0,w1,w2,w3,w4⟩
 have hs:cs=(cs.drop 0).take 5:=by rw [List.drop_zero,← hc,← hl,List.take_length]
 rw [hs,show(cs.drop 0).take 5=(cs.drop 0).take 4++(cs.drop 4).take 1 from(by rw [show(4:Nat)=0+4 from rfl,Ht 0 4 1]),show(cs.drop 0).take 4=(cs.drop 0).take 3++(cs.drop 3).take 1 from(by rw [show(3:Nat)=0+3 from rfl,Ht 0 3 1]),show(cs.drop 0).take 3=(cs.drop 0).take 2++(cs.drop 2).take 1 from(by rw [show(2:Nat)=0+2 from rfl,Ht 0 2 1]),show(cs.drop 0).take 2=(cs.drop 0).take 1++(cs.drop 1).take 1 from(by rw [show(1:Nat)=0+1 from rfl,Ht 0 1 1]),e0,e1,e2,e3,e4]
 rfl
def A6.wf (x:A6):Prop:=(LR) x.name∧(Ri) x.here∧(Ri) x.N5∧(GX) x.room∧(GX) x.AW∧(GX) x.A2
theorem A6.dc {H:Type}{enc:TypeId × Value→H}{P:Program}{w:World}{t:TypeId}{fs:Array Field}{T0 T1 T2 T3 T4 T5:Nat}(hu:P.underlying t=some (.struct fs))(hc:P.cellsOf t=6)
  (f0:(fs[0]?).map (fun f=>(f.type,f.offset))=some (T0,0)) (z0:P.cellsOf T0=1) (d0:Dc H enc P w (α:=AL) (AX) (LR) T0)
  (f1:(fs[1]?).map (fun f=>(f.type,f.offset))=some (T1,1)) (z1:P.cellsOf T1=1) (d1:Dc H enc P w (α:=Bool) (B2) (Ri) T1)
  (f2:(fs[2]?).map (fun f=>(f.type,f.offset))=some (T2,2)) (z2:P.cellsOf T2=1) (d2:Dc H enc P w (α:=Bool) (B2) (Ri) T2)
  (f3:(fs[3]?).map (fun f=>(f.type,f.offset))=some (T3,3)) (z3:P.cellsOf T3=1) (d3:Dc H enc P w (α:=Int) (AT) (GX) T3)
  (f4:(fs[4]?).map (fun f=>(f.type,f.offset))=some (T4,4)) (z4:P.cellsOf T4=1) (d4:Dc H enc P w (α:=Int) (AT) (GX) T4)
  (f5:(fs[5]?).map (fun f=>(f.type,f.offset))=some (T5,5)) (z5:P.cellsOf T5=1) (d5:Dc H enc P w (α:=Int) (AT) (GX) T5) :
  Dc H enc P w A6.enc (A6.wf) t:=by
 intro fuel cs d ps h
 obtain⟨xs,n,_,_,hl,hlen,hf⟩:=DataW.trod_struct hu h
 obtain⟨x0,e0,w0⟩:=Dc.part hlen hf f0 z0 d0
 obtain⟨x1,e1,w1⟩:=Dc.part hlen hf f1 z1 d1
 obtain⟨x2,e2,w2⟩:=Dc.part hlen hf f2 z2 d2
 obtain⟨x3,e3,w3⟩:=Dc.part hlen hf f3 z3 d3
 obtain⟨x4,e4,w4⟩:=Dc.part hlen hf f4 z4 d4
 obtain⟨x5,e5,w5⟩:=Dc.part hlen hf f5 z5 d5
 refine⟨⟨x0,x1,x2,x3,x4,x5⟩,?_,w0,w1,w2,w3,w4,w5⟩
 have hs:cs=(cs.drop 0).take 6:=by rw [List.drop_zero,← hc,← hl,List.take_length]
 rw [hs,show(cs.drop 0).take 6=(cs.drop 0).take 5++(cs.drop 5).take 1 from(by rw [show(5:Nat)=0+5 from rfl,Ht 0 5 1]),show(cs.drop 0).take 5=(cs.drop 0).take 4++(cs.drop 4).take 1 from(by rw [show(4:Nat)=0+4 from rfl,Ht 0 4 1]),show(cs.drop 0).take 4=(cs.drop 0).take 3++(cs.drop 3).take 1 from(by rw [show(3:Nat)=0+3 from rfl,Ht 0 3 1]),show(cs.drop 0).take 3=(cs.drop 0).take 2++(cs.drop 2).take 1 from(by rw [show(2:Nat)=0+2 from rfl,Ht 0 2 1]),show(cs.drop 0).take 2=(cs.drop 0).take 1++(cs.drop 1).take 1 from(by rw [show(1:Nat)=0+1 from rfl,Ht 0 1 1]),e0,e1,e2,e3,e4,e5]
 rfl
def AD.wf (x:AD):Prop:=(VE Room.wf) x.Ad∧(VE A3.wf) x.AH∧(VE A6.wf) x.AF
theorem AD.dc {H:Type}{enc:TypeId × Value→H}{P:Program}{w:World}{t:TypeId}{fs:Array Field}{T0 T1 T2:Nat}(hu:P.underlying t=some (.struct fs))(hc:P.cellsOf t=165)
  (f0:(fs[0]?).map (fun f=>(f.type,f.offset))=some (T0,0)) (z0:P.cellsOf T0=84) (d0:Dc H enc P w (α:=QR Room 6) (BO Room.enc) (VE Room.wf) T0)
  (f1:(fs[1]?).map (fun f=>(f.type,f.offset))=some (T1,84)) (z1:P.cellsOf T1=45) (d1:Dc H enc P w (α:=QR A3 9) (BO A3.enc) (VE A3.wf) T1)
  (f2:(fs[2]?).map (fun f=>(f.type,f.offset))=some (T2,129)) (z2:P.cellsOf T2=36) (d2:Dc H enc P w (α:=QR A6 6) (BO A6.enc) (VE A6.wf) T2) :
  Dc H enc P w AD.enc (AD.wf) t:=by
 intro fuel cs d ps h
 obtain⟨xs,n,_,_,hl,hlen,hf⟩:=DataW.trod_struct hu h
 obtain⟨x0,e0,w0⟩:=Dc.part hlen hf f0 z0 d0
 obtain⟨x1,e1,w1⟩:=Dc.part hlen hf f1 z1 d1
 obtain⟨x2,e2,w2⟩:=Dc.part hlen hf f2 z2 d2
 refine⟨⟨x0,x1,x2⟩,?_,w0,w1,w2⟩
 have hs:cs=(cs.drop 0).take 165:=by rw [List.drop_zero,← hc,← hl,List.take_length]
 rw [hs,show(cs.drop 0).take 165=(cs.drop 0).take 129++(cs.drop 129).take 36 from(by rw [show(129:Nat)=0+129 from rfl,Ht 0 129 36]),show(cs.drop 0).take 129=(cs.drop 0).take 84++(cs.drop 84).take 45 from(by rw [show(84:Nat)=0+84 from rfl,Ht 0 84 45]),e0,e1,e2]
 rfl
def Order.wf (x:Order):Prop:=(GX) x.verb∧(GX) x.nth∧(Ri) x.An∧(LR) x.name∧(LR) x.second∧(LR) x.text
theorem Order.dc {H:Type}{enc:TypeId × Value→H}{P:Program}{w:World}{t:TypeId}{fs:Array Field}{T0 T1 T2 T3 T4 T5:Nat}(hu:P.underlying t=some (.struct fs))(hc:P.cellsOf t=6)
  (f0:(fs[0]?).map (fun f=>(f.type,f.offset))=some (T0,0)) (z0:P.cellsOf T0=1) (d0:Dc H enc P w (α:=Int) (AT) (GX) T0)
  (f1:(fs[1]?).map (fun f=>(f.type,f.offset))=some (T1,1)) (z1:P.cellsOf T1=1) (d1:Dc H enc P w (α:=Int) (AT) (GX) T1)
  (f2:(fs[2]?).map (fun f=>(f.type,f.offset))=some (T2,2)) (z2:P.cellsOf T2=1) (d2:Dc H enc P w (α:=Bool) (B2) (Ri) T2)
  (f3:(fs[3]?).map (fun f=>(f.type,f.offset))=some (T3,3)) (z3:P.cellsOf T3=1) (d3:Dc H enc P w (α:=AL) (AX) (LR) T3)
  (f4:(fs[4]?).map (fun f=>(f.type,f.offset))=some (T4,4)) (z4:P.cellsOf T4=1) (d4:Dc H enc P w (α:=AL) (AX) (LR) T4)
  (f5:(fs[5]?).map (fun f=>(f.type,f.offset))=some (T5,5)) (z5:P.cellsOf T5=1) (d5:Dc H enc P w (α:=AL) (AX) (LR) T5) :
  Dc H enc P w Order.enc (Order.wf) t:=by
 intro fuel cs d ps h
 obtain⟨xs,n,_,_,hl,hlen,hf⟩:=DataW.trod_struct hu h
 obtain⟨x0,e0,w0⟩:=Dc.part hlen hf f0 z0 d0
 obtain⟨x1,e1,w1⟩:=Dc.part hlen hf f1 z1 d1
 obtain⟨x2,e2,w2⟩:=Dc.part hlen hf f2 z2 d2
 obtain⟨x3,e3,w3⟩:=Dc.part hlen hf f3 z3 d3
 obtain⟨x4,e4,w4⟩:=Dc.part hlen hf f4 z4 d4
 obtain⟨x5,e5,w5⟩:=Dc.part hlen hf f5 z5 d5
 refine⟨⟨x0,x1,x2,x3,x4,x5⟩,?_,w0,w1,w2,w3,w4,w5⟩
 have hs:cs=(cs.drop 0).take 6:=by rw [List.drop_zero,← hc,← hl,List.take_length]
 rw [hs,show(cs.drop 0).take 6=(cs.drop 0).take 5++(cs.drop 5).take 1 from(by rw [show(5:Nat)=0+5 from rfl,Ht 0 5 1]),show(cs.drop 0).take 5=(cs.drop 0).take 4++(cs.drop 4).take 1 from(by rw [show(4:Nat)=0+4 from rfl,Ht 0 4 1]),show(cs.drop 0).take 4=(cs.drop 0).take 3++(cs.drop 3).take 1 from(by rw [show(3:Nat)=0+3 from rfl,Ht 0 3 1]),show(cs.drop 0).take 3=(cs.drop 0).take 2++(cs.drop 2).take 1 from(by rw [show(2:Nat)=0+2 from rfl,Ht 0 2 1]),show(cs.drop 0).take 2=(cs.drop 0).take 1++(cs.drop 1).take 1 from(by rw [show(1:Nat)=0+1 from rfl,Ht 0 1 1]),e0,e1,e2,e3,e4,e5]
 rfl
def Event.wf (x:Event):Prop:=(GX) x.kind∧(GX) x.room∧(GX) x.Al∧(GX) x.other∧(GX) x.dir∧(GX) x.n∧(LR) x.CS∧(LR) x.D7∧(LR) x.AQ∧(LR) x.text∧(VE GX) x.Gz
theorem Event.dc {H:Type}{enc:TypeId × Value→H}{P:Program}{w:World}{t:TypeId}{fs:Array Field}{T0 T1 T2 T3 T4 T5 T6 T7 T8 T9 T10:Nat}(hu:P.underlying t=some (.struct fs))(hc:P.cellsOf t=16)
  (f0:(fs[0]?).map (fun f=>(f.type,f.offset))=some (T0,0)) (z0:P.cellsOf T0=1) (d0:Dc H enc P w (α:=Int) (AT) (GX) T0)
  (f1:(fs[1]?).map (fun f=>(f.type,f.offset))=some (T1,1)) (z1:P.cellsOf T1=1) (d1:Dc H enc P w (α:=Int) (AT) (GX) T1)
  (f2:(fs[2]?).map (fun f=>(f.type,f.offset))=some (T2,2)) (z2:P.cellsOf T2=1) (d2:Dc H enc P w (α:=Int) (AT) (GX) T2)
  (f3:(fs[3]?).map (fun f=>(f.type,f.offset))=some (T3,3)) (z3:P.cellsOf T3=1) (d3:Dc H enc P w (α:=Int) (AT) (GX) T3)
  (f4:(fs[4]?).map (fun f=>(f.type,f.offset))=some (T4,4)) (z4:P.cellsOf T4=1) (d4:Dc H enc P w (α:=Int) (AT) (GX) T4)
  (f5:(fs[5]?).map (fun f=>(f.type,f.offset))=some (T5,5)) (z5:P.cellsOf T5=1) (d5:Dc H enc P w (α:=Int) (AT) (GX) T5)
  (f6:(fs[6]?).map (fun f=>(f.type,f.offset))=some (T6,6)) (z6:P.cellsOf T6=1) (d6:Dc H enc P w (α:=AL) (AX) (LR) T6)
  (f7:(fs[7]?).map (fun f=>(f.type,f.offset))=some (T7,7)) (z7:P.cellsOf T7=1) (d7:Dc H enc P w (α:=AL) (AX) (LR) T7)
  (f8:(fs[8]?).map (fun f=>(f.type,f.offset))=some (T8,8)) (z8:P.cellsOf T8=1) (d8:Dc H enc P w (α:=AL) (AX) (LR) T8)
  (f9:(fs[9]?).map (fun f=>(f.type,f.offset))=some (T9,9)) (z9:P.cellsOf T9=1) (d9:Dc H enc P w (α:=AL) (AX) (LR) T9)
  (f10:(fs[10]?).map (fun f=>(f.type,f.offset))=some (T10,10)) (z10:P.cellsOf T10=6) (d10:Dc H enc P w (α:=QR Int 6) (BO AT) (VE GX) T10) :
  Dc H enc P w Event.enc (Event.wf) t:=by
 intro fuel cs d ps h
 obtain⟨xs,n,_,_,hl,hlen,hf⟩:=DataW.trod_struct hu h
 obtain⟨x0,e0,w0⟩:=Dc.part hlen hf f0 z0 d0
 obtain⟨x1,e1,w1⟩:=Dc.part hlen hf f1 z1 d1
 obtain⟨x2,e2,w2⟩:=Dc.part hlen hf f2 z2 d2
 obtain⟨x3,e3,w3⟩:=Dc.part hlen hf f3 z3 d3
 obtain⟨x4,e4,w4⟩:=Dc.part hlen hf f4 z4 d4
 obtain⟨x5,e5,w5⟩:=Dc.part hlen hf f5 z5 d5
 obtain⟨x6,e6,w6⟩:=Dc.part hlen hf f6 z6 d6
 obtain⟨x7,e7,w7⟩:=Dc.part hlen hf f7 z7 d7
 obtain⟨x8,e8,w8⟩:=Dc.part hlen hf f8 z8 d8
 obtain⟨x9,e9,w9⟩:=Dc.part hlen hf f9 z9 d9
 obtain⟨x10,e10,w10⟩:=Dc.part hlen hf f10 z10 d10
 refine⟨⟨x0,x1,x2,x3,x4,x5,x6,x7,x8,x9,x10⟩,?_,w0,w1,w2,w3,w4,w5,w6,w7,w8,w9,w10⟩
 have hs:cs=(cs.drop 0).take 16:=by rw [List.drop_zero,← hc,← hl,List.take_length]
 rw [hs,show(cs.drop 0).take 16=(cs.drop 0).take 10++(cs.drop 10).take 6 from(by rw [show(10:Nat)=0+10 from rfl,Ht 0 10 6]),show(cs.drop 0).take 10=(cs.drop 0).take 9++(cs.drop 9).take 1 from(by rw [show(9:Nat)=0+9 from rfl,Ht 0 9 1]),show(cs.drop 0).take 9=(cs.drop 0).take 8++(cs.drop 8).take 1 from(by rw [show(8:Nat)=0+8 from rfl,Ht 0 8 1]),show(cs.drop 0).take 8=(cs.drop 0).take 7++(cs.drop 7).take 1 from(by rw [show(7:Nat)=0+7 from rfl,Ht 0 7 1]),show(cs.drop 0).take 7=(cs.drop 0).take 6++(cs.drop 6).take 1 from(by rw [show(6:Nat)=0+6 from rfl,Ht 0 6 1]),show(cs.drop 0).take 6=(cs.drop 0).take 5++(cs.drop 5).take 1 from(by rw [show(5:Nat)=0+5 from rfl,Ht 0 5 1]),show(cs.drop 0).take 5=(cs.drop 0).take 4++(cs.drop 4).take 1 from(by rw [show(4:Nat)=0+4 from rfl,Ht 0 4 1]),show(cs.drop 0).take 4=(cs.drop 0).take 3++(cs.drop 3).take 1 from(by rw [show(3:Nat)=0+3 from rfl,Ht 0 3 1]),show(cs.drop 0).take 3=(cs.drop 0).take 2++(cs.drop 2).take 1 from(by rw [show(2:Nat)=0+2 from rfl,Ht 0 2 1]),show(cs.drop 0).take 2=(cs.drop 0).take 1++(cs.drop 1).take 1 from(by rw [show(1:Nat)=0+1 from rfl,Ht 0 1 1]),e0,e1,e2,e3,e4,e5,e6,e7,e8,e9,e10]
 rfl
def CD.wf (x:CD):Prop:=(GX) x.kind∧(GX) x.AZ∧(GX) x.n∧(LR) x.bytes
theorem CD.dc {H:Type}{enc:TypeId × Value→H}{P:Program}{w:World}{t:TypeId}{fs:Array Field}{T0 T1 T2 T3:Nat}(hu:P.underlying t=some (.struct fs))(hc:P.cellsOf t=4)
  (f0:(fs[0]?).map (fun f=>(f.type,f.offset))=some (T0,0)) (z0:P.cellsOf T0=1) (d0:Dc H enc P w (α:=Int) (AT) (GX) T0)
  (f1:(fs[1]?).map (fun f=>(f.type,f.offset))=some (T1,1)) (z1:P.cellsOf T1=1) (d1:Dc H enc P w (α:=Int) (AT) (GX) T1)
  (f2:(fs[2]?).map (fun f=>(f.type,f.offset))=some (T2,2)) (z2:P.cellsOf T2=1) (d2:Dc H enc P w (α:=Int) (AT) (GX) T2)
  (f3:(fs[3]?).map (fun f=>(f.type,f.offset))=some (T3,3)) (z3:P.cellsOf T3=1) (d3:Dc H enc P w (α:=AL) (AX) (LR) T3) :
  Dc H enc P w CD.enc (CD.wf) t:=by
 intro fuel cs d ps h
 obtain⟨xs,n,_,_,hl,hlen,hf⟩:=DataW.trod_struct hu h
 obtain⟨x0,e0,w0⟩:=Dc.part hlen hf f0 z0 d0
 obtain⟨x1,e1,w1⟩:=Dc.part hlen hf f1 z1 d1
 obtain⟨x2,e2,w2⟩:=Dc.part hlen hf f2 z2 d2
 obtain⟨x3,e3,w3⟩:=Dc.part hlen hf f3 z3 d3
 refine⟨⟨x0,x1,x2,x3⟩,?_,w0,w1,w2,w3⟩
 have hs:cs=(cs.drop 0).take 4:=by rw [List.drop_zero,← hc,← hl,List.take_length]
 rw [hs,show(cs.drop 0).take 4=(cs.drop 0).take 3++(cs.drop 3).take 1 from(by rw [show(3:Nat)=0+3 from rfl,Ht 0 3 1]),show(cs.drop 0).take 3=(cs.drop 0).take 2++(cs.drop 2).take 1 from(by rw [show(2:Nat)=0+2 from rfl,Ht 0 2 1]),show(cs.drop 0).take 2=(cs.drop 0).take 1++(cs.drop 1).take 1 from(by rw [show(1:Nat)=0+1 from rfl,Ht 0 1 1]),e0,e1,e2,e3]
 rfl
def Cg.wf (x:Cg):Prop:=(GX) x.code∧(LR) x.out
theorem Cg.dc {H:Type}{enc:TypeId × Value→H}{P:Program}{w:World}{t:TypeId}{fs:Array Field}{T0 T1:Nat}(hu:P.underlying t=some (.struct fs))(hc:P.cellsOf t=2)
  (f0:(fs[0]?).map (fun f=>(f.type,f.offset))=some (T0,0)) (z0:P.cellsOf T0=1) (d0:Dc H enc P w (α:=Int) (AT) (GX) T0)
  (f1:(fs[1]?).map (fun f=>(f.type,f.offset))=some (T1,1)) (z1:P.cellsOf T1=1) (d1:Dc H enc P w (α:=AL) (AX) (LR) T1) :
  Dc H enc P w Cg.enc (Cg.wf) t:=by
 intro fuel cs d ps h
 obtain⟨xs,n,_,_,hl,hlen,hf⟩:=DataW.trod_struct hu h
 obtain⟨x0,e0,w0⟩:=Dc.part hlen hf f0 z0 d0
 obtain⟨x1,e1,w1⟩:=Dc.part hlen hf f1 z1 d1
 refine⟨⟨x0,x1⟩,?_,w0,w1⟩
 have hs:cs=(cs.drop 0).take 2:=by rw [List.drop_zero,← hc,← hl,List.take_length]
 rw [hs,show(cs.drop 0).take 2=(cs.drop 0).take 1++(cs.drop 1).take 1 from(by rw [show(1:Nat)=0+1 from rfl,Ht 0 1 1]),e0,e1]
 rfl
end Go.Ing
/- Engine, part 10: arrays by value; max, min; all below a number. -/
namespace Go.Ing
open Go
section
variable {P:Program} {n:Nat} {w0:World} {M:List Nat} {F:List (Nat × Value)} {L:List AJ}
theorem XR {α:Type}[Inhabited α]{e:α→List Value}{len sz T U E:Nat}{x y:Operand}{X:Vector α len}{k:IntKind}{i:Int}{v:Value}(fe:Flat e sz)(hu:P.underlying T=some (.array len E))(hs:Sz P E sz)(hE:R0 P E)(hx:ev F x=some (.agg (BO e X).toArray))(hy:ev F y=some (.int k i))(h0:0≤i)(h1:i < (len:Int))(hv:e (X.at i) = [v]):PS P n w0 M (.index T x y) U F L v L:=Bj fun a w hF=>by
 have hl:=Ac.arr (n:=len) fe h0 h1
 have hg:=hl.get X
 have hb:=hl.Yn X
 have h1s:sz=1:=by rw [← fe.len (X.at i),hv];rfl
 subst h1s
 rw [hv,List.drop_eq_getElem_cons (by omega),List.take_succ_cons,List.take_zero] at hg
 have hc:(BO e X)[i.toNat]?=some v:=by
  have h2:=List.head_eq_of_cons_eq hg
  rw [List.getElem?_eq_getElem (by omega)]
  simp only [Nat.mul_one] at h2
  rw [h2]
 have hs':=hs w
 have hE':=hE w
 simp [execOp,Instr.index,hF.ev hx,hF.ev hy,asIntOf,underlying,hu,h0,h1,hs',part,hE',hc]
theorem VO {α:Type}[Inhabited α]{e:α→List Value}{len sz T U E:Nat}{x y:Operand}{X:Vector α len}{k:IntKind}{i:Int}(fe:Flat e sz)(hu:P.underlying T=some (.array len E))(hE:S3 P E sz)(hx:ev F x=some (.agg (BO e X).toArray))(hy:ev F y=some (.int k i))(h0:0≤i)(h1:i < (len:Int)):PS P n w0 M (.index T x y) U F L (.agg (e (X.at i)).toArray) L:=Bj fun a w hF=>by
 have hl:=Ac.arr (n:=len) fe h0 h1
 have hg:=hl.get X
 have hs':=hE.2 w
 have hE':=hE.1 w
 have hx2:(BO e X).toArray.extract (i.toNat * sz) (i.toNat * sz+sz)=(e (X.at i)).toArray:=by
  rw [← hg]
  apply Array.ext'
  simp [List.extract_eq_take_drop]
 simp [execOp,Instr.index,hF.ev hx,hF.ev hy,asIntOf,underlying,hu,h0,h1,hs',part,hE']
 exact hg
theorem cD {T:TypeId}{ts:Array TypeId}{x y:Operand}{k:IntKind}{a b:Int}(hx:ev F x=some (.int k a))(hy:ev F y=some (.int k b)):PS P n w0 M (.call ⟨.builtin .max,#[x,y],ts⟩) T F L (.int k (max a b)) L:=Bj fun e w hF=>by
 simp [execOp,resolve,invoke,builtin,Builtin.max_,Builtin.max2,hF.ev hx,hF.ev hy]
 split<;>omega
theorem cE {T:TypeId}{ts:Array TypeId}{x y:Operand}{k:IntKind}{a b:Int}(hx:ev F x=some (.int k a))(hy:ev F y=some (.int k b)):PS P n w0 M (.call ⟨.builtin .min,#[x,y],ts⟩) T F L (.int k (min a b)) L:=Bj fun e w hF=>by
 simp [execOp,resolve,invoke,builtin,Builtin.min_,Builtin.min2,hF.ev hx,hF.ev hy]
 split<;>omega
end
def A4 (N:Int)(p:Int→Bool):Nat→Bool
 | 0=>true
 | n+1=>p (N - (n+1)) && A4 N p n
theorem Bh {N k:Int}(p:Int→Bool)(h:k < N):A4 N p (N - k).toNat=(p k && A4 N p (N - (k+1)).toNat):=by
 rw [show(N - k).toNat=(N - (k+1)).toNat+1 by omega,A4]
 congr 2;omega
theorem CA {N:Int}{p:Int→Bool}:∀(n:Nat),A4 N p n=true↔∀ i:Int,N - n≤i→i < N→p i=true
 | 0=>by simp [A4];omega
 | n+1=>by
  rw [A4,Bool.and_eq_true,CA n]
  constructor
  ·rintro ⟨h1,h2⟩ i hi hN
   by_cases e:i=N - (n+1)
   ·rw [e];exact h1
   ·exact h2 i (by omega) hN
  ·intro h
   exact⟨h _ (by omega) (by omega),fun i hi hN=>h i (by omega) hN⟩
end Go.Ing
namespace Go.Ing
open Go
section
variable {P:Program} {n:Nat} {w0:World} {M:List Nat} {Q:Exit→Go.Act→World→Prop} {F F':List (Nat × Value)} {L L':List AJ} {ops:Array Oper} {rest:List Oper}
theorem ef {α:Type}[Inhabited α]{ea:α→List Value}{sz:Nat}{T U E i:Nat}{h:Hd}{x:Operand}{xs:List α}
  (hx:ev F x=some (h.ptr i sz 0)) (hT:S3 P T sz) (hq:0 < sz) (fe:Flat ea sz) (hk:Kn w0 M L h E sz (xs.flatMap ea)) (hi:i < xs.length):PS P n w0 M (.load T x) U F L (.agg (ea (xs.getD i default)).toArray) L:=by
 have e:xs.getD i default=xs[i]:=by simp [List.getD,hi]
 rw [e]
 exact cC hx hT hq fe (Ac.id fe.len fe.one) hk hi
theorem Im {d T U E sz len:Nat}{parts:List (Nat × Operand)}{pos:String}{Bl:Array Edge}{z:Value}{cs cs':List Value}(hd:Nat.blt d n=true)(hu:P.underlying T=some (.slice E))(hs:Sz P E sz)(hz:ZV P E z)(hsz:0 < len * sz)(hbig:len * sz≤16777216)(hz0:(Array.range (len * sz)).map (fun i=>z.cells[i % z.cells.size]!)=cs.toArray)(h:Bd F (fun i=>some (i * sz,sz)) parts cs cs')(hl:cs'.length=len * sz)
  (k:∀ b,GL P n w0 M ops Q rest ((d,Hd.val ⟨some ⟨b,0,none⟩,len,len⟩) :: F) (AJ.own ⟨some ⟨b,0,none⟩,len,len⟩ E sz cs' :: L)):GL P n w0 M ops Q (⟨some d, .buildSlice T len parts.toArray,U,pos,Bl,none⟩ :: rest) F L:=by
 refine E7 (R:=fun v L'=>∃ b,v=Hd.val ⟨some ⟨b,0,none⟩,len,len⟩∧L'=AJ.own ⟨some ⟨b,0,none⟩,len,len⟩ E sz cs' :: L) hd ?_ (fun v L' ⟨b,e1,e2⟩=>by subst e1;subst e2;exact k b)
 intro a w hF hS
 have hw1:=hS.alloc E cs'
 have hS':St w0 M (w.alloc (.cells cs'.toArray E)) (AJ.own ⟨some ⟨w.heap.size,0,none⟩,len,len⟩ E sz cs' :: L):=by
  refine hw1.Dy (.head) rfl rfl rfl (Nat.le_refl _) (fun _ _ _=>rfl) ?_ (fun b hb=>?_)
  ·exact .inr ⟨w.heap.size,0,cs',(0,0),rfl,by simp,hw1.ok _ (List.mem_cons_self ..),fun _ _ h=>by simp at h,by simp [hl],Nat.le_refl _,hl.symm,by simp⟩
  ·simp [AJ.own] at hb
   subst hb
   exact⟨by simp, .inl (by simp [AJ.box])⟩
 refine⟨_,_,w.alloc (.cells cs'.toArray E),⟨w.heap.size,rfl,rfl⟩,?_,hS'⟩
 have hfill:=h.fill (n:=n) hF
 have hne:len * sz≠0:=by omega
 have hnb:¬ (len * sz > 2 ^ 24):=by omega
 have e:(Array.map (fun x=>match x with | (i,x)=>(i,a.eval x)) parts.toArray).toList=parts.map fun(i,x)=>(i,a.eval x):=by simp
 simp only [execOp,Instr.buildSlice,underlying,Sem.run_bind,run_program,hu,Result.andThen_ok,Sem.run_pure,hs w,hnb,hne,if_false,hz w]
 rw [hz0,e,hfill]
 rfl
end
end Go.Ing
/- Engine, part 11: calls that write; the string builder's steps. -/
namespace Go.Ing
open Go
def BV (L:List AJ):List Nat:=L.flatMap AJ.Bn
theorem St.focus {w0 w:World}{M:List Nat}{A K:List AJ}(h:St w0 M w (A++K)):St w (BV A) w A:=
 ⟨rfl,rfl,rfl,Nat.le_refl _,fun _ _ _=>rfl,fun r hr=>h.ok r (List.mem_append_left _ hr),fun r hr b hb=>⟨(h.Bn r (List.mem_append_left _ hr) b hb).1,fun _=>List.mem_flatMap.2 ⟨r,hr,hb⟩⟩,(List.pairwise_append.1 h.Ir).1⟩
theorem St.frame {w0 w w':World}{M:List Nat}{A B K:List AJ}(h:St w0 M w (A++K))(k:St w (BV A) w' B):St w0 M w' (B++K):=by
 have hd:=List.pairwise_append.1 h.Ir
 have hK:∀ r∈K,∀ b∈r.Bn,b < w.heap.size∧b ∉ BV A:=fun r hr b hb=>by
  refine⟨(h.Bn r (List.mem_append_right _ hr) b hb).1,fun hA=>?_⟩
  obtain⟨s,hs,hb'⟩:=List.mem_flatMap.1 hA
  exact hd.2.2 s hs r hr b hb' hb
 refine⟨k.os.trans h.os,k.tape.trans h.tape,k.output.trans h.output,Nat.le_trans h.size k.size,fun i hi hM=>?_,fun r hr=>?_,fun r hr b hb=>?_,?_⟩
 ·have hA:i ∉ BV A:=fun hA=>by
   obtain⟨s,hs,hb'⟩:=List.mem_flatMap.1 hA
   exact hM ((h.Bn s (List.mem_append_left _ hs) i hb').2 hi)
  rw [k.Il i (Nat.lt_of_lt_of_le hi h.size) hA]
  exact h.Il i hi hM
 ·rcases List.mem_append.1 hr with hr | hr
  ·exact k.ok r hr
  ·exact r.loc w w' (fun b hb=>k.Il b (hK r hr b hb).1 (hK r hr b hb).2) (h.ok r (List.mem_append_right _ hr))
 ·rcases List.mem_append.1 hr with hr | hr
  ·have:=k.Bn r hr b hb
   refine⟨this.1,fun hlt=>?_⟩
   obtain⟨s,hs,hb'⟩:=List.mem_flatMap.1 (this.2 (Nat.lt_of_lt_of_le hlt h.size))
   exact(h.Bn s (List.mem_append_left _ hs) b hb').2 hlt
  ·have:=h.Bn r (List.mem_append_right _ hr) b hb
   exact⟨Nat.lt_of_lt_of_le this.1 k.size,this.2⟩
 ·refine List.pairwise_append.2 ⟨k.Ir,hd.2.1,fun s hs r hr b hb hb'=>?_⟩
  have h1:=hK r hr b hb'
  exact h1.2 ((k.Bn s hs b hb).2 h1.1)
theorem St.AM {w0 w:World}{M:List Nat}{A K:List AJ}(h:St w0 M w (A++K)):St w0 M w A:=h.sub (List.sublist_append_left ..)
theorem Flat.fH {α:Type}{e:α→List Value}{sz:Nat}(f:Flat e sz){l:List α}:∀ v∈l.flatMap e,v.oneCell'=true:=fun v hv=>by
 obtain⟨x,_,hx⟩:=List.mem_flatMap.1 hv
 exact f.one x v hx
def Fu (P:Program)(f:FuncId)(args:Array Value)(A:List AJ)(Post:Value→List AJ→Prop):Prop:=
 ∀ w,St w (BV A) w A→Ch P f args w fun v w'=>∃ B,Post v B∧St w (BV A) w' B
inductive AK:List AJ→List AJ→List AJ→Prop where
 | nil {L:List AJ}:AK L [] L
 | cons {L L' K rs:List AJ} {r:AJ} (h:ME L r L') (hs:AK L' rs K):AK L (r :: rs) K
theorem AK.perm {L A K:List AJ}(h:AK L A K):L.Perm (A++K):=by
 induction h with
 | nil=>exact .refl _
 | cons h _ ih=>exact h.perm.trans (List.Perm.cons _ ih)
section
variable {P:Program} {n:Nat} {w0:World} {M:List Nat} {Q:Exit→Go.Act→World→Prop} {F F':List (Nat × Value)} {L L' K A:List AJ} {ops:Array Oper} {rest:List Oper}
/-! #### pointers -/
theorem Oo {T U V E:TypeId}{x:Operand}{p:Option Addr}(hu:P.underlying U=some (.pointer E))(hx:ev F x=some (.pointer p)):PS P n w0 M (.binOp .eql U x (.const (.pointer none)) V) T F L (.bool p.isNone) L:=Bj fun e w hF=>by
 have hu':(underlying U).run P w = .ok (.pointer E) w:=by simp [underlying,hu]
 have h:∀ d:Nat,(Op.equalIn (d+1) U (.pointer p) (.pointer none)).run P w = .ok p.isNone w:=fun d=>by
  cases p<;>simp [Op.equalIn,hu']
 have h2:(binOp .eql U (.pointer p) (.pointer none)).run P w = .ok (.bool p.isNone) w:=by
  cases p<;>simp only [binOp]<;>simp [Op.equal,Op.maxDepth,h 9999]
 have h3:ev F (.const (.pointer none))=some (.pointer none):=rfl
 simp [execOp,hF.ev hx,hF.ev h3,eqGuard,h2]
theorem Rw {T U V E:TypeId}{x y:Operand}{a:Addr}{i:TypeInfo}(hu:P.underlying U=some (.pointer E))(hi:P.info? E=some i)(hx:ev F x=some (.pointer (some a)))(hy:ev F y=some (.pointer (some a))):PS P n w0 M (.binOp .neq U x y V) T F L (.bool false) L:=Bj fun e w hF=>by
 simp [execOp,hF.ev hx,hF.ev hy,eqGuard,Lib.run_neq_ptr_same w a hu hi]
theorem TJ {S T U V E b o:Nat}{x:Operand}{i:TypeInfo}{cs:List Value}(hs:P.underlying S=some (.pointer E))(hT:P.underlying T=some .unsafePointer)(hi:P.info? E=some i)(hz:i.size≠0)(hx:ev F x=some (.pointer (some ⟨b,o,none⟩)))(hL:AJ.box b V cs∈L)(ho:o < cs.length):PS P n w0 M (.convert S T x) U F L (.pointer (some ⟨b,o,none⟩)) L:=by
 intro a w hF hS
 have hb:w.heap[b]?=some (.cells cs.toArray V):=hS.ok _ hL
 have hsh:w.shape? b=some (V,cs.length):=by simp [World.shape?,hb]
 exact⟨w,by simp [execOp,hF.ev hx,Lib.run_to_unsafe w ⟨b,o,none⟩ hs hT hi hz hsh ho],rfl,rfl⟩
theorem QX {S T U V E b o:Nat}{x:Operand}{i:TypeInfo}{cs:List Value}(hs:P.underlying S=some .unsafePointer)(hT:P.underlying T=some (.pointer E))(hi:P.info? E=some i)(hx:ev F x=some (.pointer (some ⟨b,o,none⟩)))(hL:AJ.box b V cs∈L)(hlie:liesAt P P.depth V (cs.length / P.cellsOf V) o E 1=true):PS P n w0 M (.convert S T x) U F L (.pointer (some ⟨b,o,none⟩)) L:=by
 intro a w hF hS
 have hb:w.heap[b]?=some (.cells cs.toArray V):=hS.ok _ hL
 have hsh:w.shape? b=some (V,cs.length):=by simp [World.shape?,hb]
 exact⟨w,by simp [execOp,hF.ev hx,Lib.run_from_unsafe w ⟨b,o,none⟩ hs hT hi hsh hlie],rfl,rfl⟩
theorem TH {f : FuncId} {fn : Func} {ts : Array TypeId} {T : TypeId} {x : Operand} {v : Value} (hf : P.funcs[f]? = some fn) (h1 : (fn.name == "runtime.NumGoroutine") = false) (h2 : fn.body.isNone = true) (h3 : Extern.findNext fn = none) (h4 : Extern.find fn = some Extern.AbiNoEscape.same) (hx : ev F x = some v) : PS P n w0 M (.call ⟨.value (.func f), #[x], ts⟩) T F L v L := Bj fun e w hF => by
 have:=run_callFunc_extern hf h1 h2 h3 h4 #[v] w
 rw [Lib.run_noEscape] at this
 have hx':=hF.ev hx
 have hg:e.eval (.func f) = .func (.func f) #[] #[]:=rfl
 simp [execOp,resolve,Deferred.ofValue,invoke,hg,hx',this]

/-! #### bytes -/
theorem Src.str {w:World}{U:Nat}{s:AL}(hu:P.underlying U=some .string):Src P w U 1 (Ag s) s.length (s.flatMap CE):=by
 refine⟨.inr hu,fun _=>by simp [Ag,Builtin.lenOf,ByteArray.size],fun w' _=>?_,by rw [FX];simp⟩
 have:=Lib.run_firstCells_string (P:=P) (w:=w') 1 ⟨s.toArray⟩
 rw [FX]
 simpa [Ag,Lib.strCells,ByteArray.size] using this
def Hd.base (h:Hd):Value:= .pointer h.a
theorem Rx {T:TypeId}{ts:Array TypeId}{x:Operand}{h:Hd}(hx:ev F x=some h.val)(hz:h.Z):PS P n w0 M (.call ⟨.builtin .unsafeSliceData,#[x],ts⟩) T F L h.base L:=Bj fun e w hF=>by
 obtain⟨a,l,c⟩:=h
 cases a with
 | none=>simp [execOp,resolve,invoke,builtin,hF.ev hx,Hd.val,Hd.base,Lib.run_unsafeSliceData_nil]
 | some a=>simp [execOp,resolve,invoke,builtin,hF.ev hx,Hd.val,Hd.base,Lib.run_unsafeSliceData_row _ _ _ a l c (hz.2 (by simp))]
theorem HR {S T U E:Nat}{x:Operand}{h:Hd}{s:AL}{cs:List Value}(he:cs=s.flatMap CE)(hS':P.underlying S=some (.slice E))(hT:P.underlying T=some .string)(hE:P.underlying E=some (.int .u8))(hx:ev F x=some h.val)(hk:Kn w0 M L h E 1 cs):PS P n w0 M (.convert S T x) U F L (Ag s) L:=Qq hS' hT hE hx (by rw [← he];exact hk)
theorem _root_.Go.Ing.Ac.MX {α β:Type}{ea:α→List Value}{eb:β→List Value}{o sz:Nat}{g:α→β}{st:α→β→α}(l:Ac ea eb o sz g st)(x:α)(y z:β):ea (st (st x y) z)=ea (st x z):=by
 rw [← l.set,← l.set,← l.set]
 have hb:=l.Yn x
 have h1:o+(eb y).length≤(ea x).length:=by rw [l.len];exact hb
 apply List.ext_getElem?
 intro i
 have h2:o+(eb z).length≤(ea x).length:=by rw [l.len];exact hb
 rw [DY (l:=Cw (ea x) o (eb y)) (by rw [EA h1,l.len];exact hb),DY h1,DY h2,l.len,l.len]
 by_cases a:i < o
 ·simp [a]
 ·by_cases b:i < o+sz
  ·simp [a,b]
  ·simp [a,b]
theorem St.tail {w:World}{r:AJ}(h:St w0 M w (r :: L)):St w0 M w L:=h.sub (List.sublist_cons_self ..)
theorem N1 {d T A B E:Nat}{x y:Operand}{pos:String}{Bl:Array Edge}{h:Hd}{s:AL}(hd:Nat.blt d n=true)(hp:P.underlying A=some (.pointer E))(hc:P.cellsOf E=1)(hx:ev F x=some h.base)(hy:ev F y=some (.int .i64 h.len))(hz:h.Z)(hl:s.length≤9223372036854775807)(hL:ME L (AJ.own h E 1 (s.flatMap CE)) K)
  (k:GL P n w0 M ops Q rest ((d,Ag s) :: F) K):GL P n w0 M ops Q (⟨some d, .call ⟨.builtin .unsafeString,#[x,y],#[A,B]⟩,T,pos,Bl,none⟩ :: rest) F L:=by
 refine E7 (R:=fun v L'=>v=Ag s∧L'=K) hd ?_ (fun v L' ⟨e1,e2⟩=>by subst e1;subst e2;exact k)
 intro a w hF hS
 have hS2:=hS.perm hL.perm
 have hok:=hS2.ok _ (List.mem_cons_self ..)
 have hrd:=AJ.Sn hok
 have hlen:h.len=s.length:=by have:=hrd.1;rw [FX] at this;simpa using this
 by_cases h0:s = []
 ·subst h0
  rw [hlen] at hy
  refine⟨_,_,w,⟨rfl,rfl⟩,?_,hS2.tail⟩
  have:=Lib.run_unsafeString_none (P:=P) w A B T h.a
  have he:(Value.string ByteArray.empty)=Ag []:=rfl
  simp only [Hd.base,List.length_nil] at hx hy
  simp [execOp,resolve,invoke,builtin,hF.ev hx,hF.ev hy]
  rw [this,← he];rfl
 ·rcases hok with ⟨rfl,hn⟩ | ⟨b,o,C,fz,e1,e2,e3,e4,e5,e6,e7,e8⟩
  ·rw [FX] at hn;simp at hn;exact absurd hn h0
  ·have ho:o=0:=hz.1 _ e1
   subst ho
   rw [FX] at e7 e8
   simp at e7 e8
   have hsh:w.shape? b=some (E,C.length):=by simp [World.shape?,e3]
   have hrun:=Lib.run_unsafeString_row (P:=P) w A B T E hp hc b C.length hsh s h0 (by omega) hl (fun j c hj=>by
    rw [EC,Nat.zero_add,GK e3]
    have h1:(C.take s.length)[j]?=(s.map fun b=>Value.int .u8 (b.toNat:Int))[j]?:=by rw [e8]
    have hj':j < s.length:=by
     rcases Nat.lt_or_ge j s.length with h | h
     ·exact h
     ·rw [List.getElem?_eq_none h] at hj;cases hj
    rw [List.getElem?_take,if_pos hj',List.getElem?_map,hj] at h1
    exact h1)
   have hS3:St w0 M (w.freeze ⟨b,0,none⟩ s.length) K:=by
    have hne:s.length≠0:=by simpa using h0
    have:=hS2.Dy (r':=⟨[],fun _=>True,fun _ _ _ _=>trivial⟩) (w':=w.freeze ⟨b,0,none⟩ s.length) .head (by simp [World.freeze,hne]) (by simp [World.freeze,hne]) (by simp [World.freeze,hne]) (by simp [World.freeze,hne])
     (fun k _ hk=>by
      have hkb:k≠b:=by simpa [AJ.own,e1] using hk
      simp only [World.freeze,hne,if_false,Array.getElem?_modify]
      rw [if_neg (fun e=>hkb e.symm)]) trivial (fun b hb=>by simp at hb)
    exact this.tail
   refine⟨_,_,_,⟨rfl,rfl⟩,?_,hS3⟩
   rw [Hd.base,e1] at hx
   rw [hlen] at hy
   simp [execOp,resolve,invoke,builtin,hF.ev hx,hF.ev hy,hrun,Ag]
end
end Go.Ing

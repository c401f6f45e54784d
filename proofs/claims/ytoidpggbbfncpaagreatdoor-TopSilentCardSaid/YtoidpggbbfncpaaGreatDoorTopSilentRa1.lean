/- What the functions that the law of this seat reaches compute, and the plain laws of it. No condition. -/
import Derived.Test.YtoidpggbbfncpaaGreatDoorTopSilentEc3
import Derived.Lib.Bytealg
import Derived.Laws.Externs
import Derived.MapKept
import Derived.Lib.LaidTab
import Derived.Shelf.Strconv.Itoa3
import Derived.Lib.ItoaLen
import Derived.Shelf.Strconv.ErrVarAll
import Derived.Stop.LaidErr
set_option linter.unusedSimpArgs false
set_option linter.unusedVariables false
/- Engine: how much a slice within a struct that came in can take. -/
namespace Go.Ing
open Go Go.RowKit Go.ChangeShapes Go.WideShapes Go.ChangeAt
section
variable {H:Type} {enc:TypeId × Value→H} {P:Program} {w:World}
theorem Qd {ts:List TypeId}{ds:List (DataW H)}(h:(DataW.weightsEach P ts ds).all (·≤ reachBytes)=true){j:Nat}{t:TypeId}{d:DataW H}(ht:ts[j]?=some t)(hd:ds[j]?=some d):∀ n∈d.weights P t,n≤reachBytes:=fun n hn=>by
 simpa using List.all_eq_true.1 h n (DataW.weights_mem_each ht hd n hn)
end
section
variable {P:Program} {n:Nat} {w0:World} {M:List Nat} {Q:Exit→Go.Act→World→Prop} {F F':List (Nat × Value)} {L L':List Af} {ops:Array Oper} {rest:List Oper}
theorem SD {U U2 E sz Hy:Nat}{z x:Value}{h:Hd}{gl:Nat}{ys:List Value}{V:TypeId}{w:World}(hu:P.underlying U=some (.slice E))(hsz:Sz P E sz)(hz:ZV P E z)(hzs:z.cells.size=sz)(hby:BY P E Hy)(hb0:0 < Hy)
  (hl0:h.len=0) (hc0:h.cap=0) (hh:(Af.own h E sz []).ok w) (hg:Src P w U2 sz x gl ys) (hbd:gl * Hy≤281474976710656) :
  ∃ h' w',(Builtin.append_ #[U,U2] V #[h.val,x]).run P w = .ok h'.val w'∧(Af.own h' E sz ys).ok w'∧h'.len=gl∧w'.os=w.os∧w'.tape=w.tape∧w'.output=w.output∧w.heap.size≤w'.heap.size ∧
   (∀ k,k < w.heap.size→w'.heap[k]?=w.heap[k]?)∧(∀ b∈(Af.own h' E sz ys).CY,b < w'.heap.size∧(b∈(Af.own h E sz []).CY∨w.heap.size≤b)):=by
 obtain⟨i,hi,hib⟩:=hby
 have hti:∀ w,(typeInfo E).run P w = .ok i w:=fun w=>by simp [typeInfo,hi]
 have hu':∀ w,(underlying U).run P w = .ok (.slice E) w:=fun w=>by simp [underlying,hu]
 have hsw:∀(v:Value) (w:World),(Builtin.append_ #[U,U2] V #[v,x]).run P w=(Builtin.append_ #[U,U] V #[v,x]).run P w:=fun v w=>by
  rcases hg.ty with ⟨e,hd2⟩ | hd2
  ·have hu2:∀ w,(underlying U2).run P w = .ok (.slice e) w:=fun w=>by simp [underlying,hd2]
   cases v<;>simp [Builtin.append_,hu' w,hu2 w,hsz w]
  ·have hu2:∀ w,(underlying U2).run P w = .ok .string w:=fun w=>by simp [underlying,hd2]
   cases v<;>simp [Builtin.append_,hu' w,hu2 w,hsz w]
 have hlo:=hg.lenOf
 obtain⟨ha,hl,hc⟩:=h
 simp only at hl0 hc0
 subst hl0;subst hc0
 have hfh:∀ w,(Builtin.firstCells sz 0 (Hd.val ⟨ha,0,0⟩)).run P w = .ok #[] w:=fun w=>by
  cases ha with
  | none=>rfl
  | some a=>simp [Hd.val,Builtin.firstCells,loadCells,loadCellsFrom]
 by_cases hg0:gl=0
 ·subst hg0
  have hys:ys = []:=by have:=hg.len;simpa using this.symm
  subst hys
  refine⟨⟨ha,0,0⟩,w,?_,hh,rfl,rfl,rfl,rfl,Nat.le_refl _,fun _ _=>rfl,fun b hb=>?_⟩
  ·have hfc:=hg.cells w (B9.refl w)
   rw [hsw]
   cases ha with
   | none=>simp only [Hd.val] at hfc ⊢;simp [Builtin.append_,hu' w,hsz w,hlo w,hfc]
   | some a=>simp only [Hd.val] at hfc ⊢;simp [Builtin.append_,hu' w,hsz w,hlo w,hfc,storeCells]
  ·rcases hh with ⟨e1,_⟩ | ⟨b',o,C,fz,e1,e2,_⟩
   ·simp at e1;subst e1;simp [Af.own] at hb
   ·simp only at e1;subst e1;simp [Af.own] at hb;subst hb
    exact⟨e2, .inl (by simp [Af.own])⟩
 ·have hnc:Builtin.nextslicecap (0+gl) 0=gl:=by
   unfold Builtin.nextslicecap
   rw [if_pos (by omega)];omega
  have hbig:¬ (281474976710656 < Builtin.nextslicecap (0+gl) 0 * Hy):=by rw [hnc];omega
  let q:Question:= .appendCap (0+gl) 0 E
  let w1:World:=w.drew
  let nc:Nat:=q.cut (w.tape w.drawn q)
  have hncle:0+gl≤nc:=Nat.le_add_right _ _
  have hk1:B9 w w1:=⟨rfl,rfl,rfl,Nat.le_refl _,fun _ _=>rfl⟩
  have hfc1:=hg.cells w1 hk1
  have hfh1:=hfh w1
  let row:List Value:=ys++(Builtin.zeroCells z.cells (nc - (0+gl))).toList
  have hrow:row.length=nc * sz:=by
   simp only [row,List.length_append,Array.length_toList,Jx,hzs]
   rw [← hg.len,← Nat.add_mul]
   congr 1;omega
  refine⟨⟨some ⟨w.heap.size,0,none⟩,gl,nc⟩,w1.alloc (.cells row.toArray E),?_,?_,rfl,rfl,rfl,rfl,by simp [w1],?_,?_⟩
  ·simp only [Hd.val] at hfc1 hfh1 ⊢
   have hz1:=hz w.drew
   simp only [w1] at hfc1 hfh1
   have hne:¬ gl≤0:=by omega
   rw [hsw]
   simp only [Nat.zero_add] at hbig
   simp [Builtin.append_,hu' w,hsz w,hlo w,hne,hg0,hti,hbig,hib,Nat.ne_of_gt hb0,hfc1,hfh1,hz1,newRow,Question.forced]
   simp [w1,row,nc,q]
   congr 2
   apply Array.ext'
   simp
  ·refine .inr ⟨w.heap.size,0,row,(0,0),rfl,by simp [w1],?_,fun _ _ h=>by simp at h,by rw [hrow];simp,(by show gl≤nc;omega),hg.len,?_⟩
   ·show(w.heap.push _)[w.heap.size]?=_
    simp
   ·simp only [List.drop_zero,row]
    rw [List.take_left]
  ·intro k hk
   exact RowKit.Below.heap_alloc w1 _ k hk
  ·intro b hb
   simp [Af.own] at hb
   subst hb
   exact⟨by simp [w1], .inr (Nat.le_refl _)⟩
theorem JH {α:Type}{e:α→List Value}{d T U U2 E sz Hy gl:Nat}{x y:Operand}{pos:String}{Cs:Array Edge}{h:Hd}{zs:List α}{z yv:Value}{Lf:Af→List Af}(hd:Nat.blt d n=true)(hu:P.underlying U=some (.slice E))(hs:Sz P E sz)(hz:ZV P E z)(hzs:z.cells.size=sz)(hby:BY P E Hy)(hb0:0 < Hy)
  (hx:ev F x=some h.val) (hy:ev F y=some yv) (hk:∀ w,St w0 M w L→Src P w U2 sz yv gl (zs.flatMap e)) (hl0:h.len=0) (hc0:h.cap=0) (hbd:gl * Hy≤281474976710656) (hU:∀ r,LZ L (Af.own h E sz (([]:List α).flatMap e)) r (Lf r))
  (k:∀ h':Hd,h'.len=gl→GL P n w0 M ops Q rest ((d,h'.val) :: F) (Lf (Af.own h' E sz (zs.flatMap e)))):GL P n w0 M ops Q (⟨some d, .call ⟨.builtin .append,#[x,y],#[U,U2]⟩,T,pos,Cs,none⟩ :: rest) F L:=by
 refine F9 (R:=fun v L'=>∃ h':Hd,v=h'.val∧L'=Lf (Af.own h' E sz (zs.flatMap e))∧h'.len=gl) hd ?_ (fun v L' ⟨h',e1,e2,e3⟩=>by subst e1;subst e2;exact k h' e3)
 intro a w hF hS
 obtain⟨h',w',e1,e2,e3,e4,e5,e6,e7,e8,e9⟩:=SD (V:=T) hu hs hz hzs hby hb0 hl0 hc0 (hS.ok _ (hU ⟨[],fun _=>True,fun _ _ _ _=>trivial⟩).mem) (hk w hS) hbd
 refine⟨_,_,w',⟨h',rfl,rfl,e3⟩,?_,hS.D5 (hU _) e4 e5 e6 e7 (fun k hk _=>e8 k hk) e2 e9⟩
 simp [execOp,resolve,invoke,builtin,hF.ev hx,hF.ev hy,e1]
/-! #### closures -/
theorem V0 {f:FuncId}{t:Nat}{caps:List Value}{args:List Operand}{ts:Array TypeId}{T:TypeId}{vs:List Value}(hc:CF P f){a:Go.Act}(hF:Fr n a F)(hf:lk t F=some (.func (.func f) #[] caps.toArray))(ha:Pc F args vs)(w:World)(d:Option Tmp)(pos:String)(Cs:Array Edge)(g:Option (Nat × Bool)) :
  (execOp a.eval ⟨d, .call ⟨.value (.tmp t),args.toArray,ts⟩,T,pos,Cs,g⟩).run P w = .ok (.enter f (vs++caps).toArray) w:=by
 have h2:=Pc.map hF ha
 subst h2
 have h1:=hc (args.map a.eval++caps).toArray w
 have h3:a.eval (.tmp t) = .func (.func f) #[] caps.toArray:=by have:=hF.get _ _ hf;simp [Act.eval,this]
 simp [execOp,resolve,Deferred.ofValue,h3,invoke]
 simpa using h1
theorem Dm {d:Nat}{f:FuncId}{t:Nat}{caps:List Value}{args:List Operand}{ts:Array TypeId}{T:TypeId}{pos:String}{Cs:Array Edge}{vs:List Value}{Post:Value→List Af→Prop}{A K:List Af}(hd:Nat.blt d n=true)(hc:CF P f)(hf:lk t F=some (.func (.func f) #[] caps.toArray))(ha:Pc F args vs)(hL:Ax L A K)
  (h:Jp P f (vs++caps).toArray A Post)
  (k:∀ v B,Post v B→GL P n w0 M ops Q rest ((d,v) :: F) (B++K)):GL P n w0 M ops Q (⟨some d, .call ⟨.value (.tmp t),args.toArray,ts⟩,T,pos,Cs,none⟩ :: rest) F L:=by
 intro a w hF hS
 refine wpList_plain rfl fun K' hK=>?_
 unfold Oper.wp
 rw [V0 hc hF hf ha]
 show Calls _ _ _ _ _
 refine Calls.mono (h w (hS.perm hL.perm).focus) fun e w' he=>?_
 obtain⟨v,rfl,B,hP,hB⟩:=he
 exact hK _ _ (k v B hP _ _ (hF.put (by simpa [Nat.blt_eq] using hd) v) ((hS.perm hL.perm).frame hB))
end
end Go.Ing
/- The plain functions of the telnet codec. -/
namespace Go.Ing
open Go
def u8 (n:Int):UInt8:=UInt8.ofNat n.toNat
theorem TO {n:Int}(h0:0≤n)(h1:n≤255):((u8 n).toNat:Int)=n:=by
 simp [u8];omega
namespace AR
def PM (t:AR)(i:Int):Bool:=decide (t.us.at i < 0) || decide (2 < t.us.at i) || decide (t.Gq.at i < 0) || decide (2 < t.Gq.at i)
def Qc (t:AR):Bool:=
 decide (0≤t.at_) && decide (t.at_≤4) && (decide (t.at_=2) == !decide (t.verb=0)) && (decide (t.verb=0) || (decide (251≤t.verb) && decide (t.verb≤254))) && decide ((t.sub.length:Int)≤16) && (decide (3≤t.at_) || decide (t.sub = [])) && decide (0≤t.Bm) && decide (t.Bm≤200)
def Bk (t:AR):Bool:=CA 3 (fun i=>!t.PM i) 3 && (!(!decide (t.us.at 2=0) || !decide (t.Gq.at 0=0)) && t.Qc)
def place (opt:Int):Int × Bool × Bool:=if decide (opt=1)=true then(0,true,false) else if decide (opt=3)=true then(1,true,true) else if decide (opt=31)=true then(2,false,true) else(-1,false,false)
def Ww (verb opt:Int):As:= [255,u8 verb,u8 opt]
def It (was:Int)(on:Bool)(opt yes no:Int):As:=if (on && decide (was=0))=true then Ww yes opt else if (!on && decide (was=1))=true then Ww no opt else []
def ZG (on:Bool):Int:=if on=true then 1 else 0
def Xs (t:AR)(k:Int)(on:Bool):AR:={ t with us:=t.us.put k (ZG on) }
def R1 (t:AR)(k:Int)(on:Bool):AR:={ t with Gq:=t.Gq.put k (ZG on) }
def B6 (t:AR)(verb opt:Int):AR × As:=
 let k:=(place opt).1
 if decide (verb=253)=true then(if (!(place opt).2.1)=true then(t,Ww 252 opt) else(t.Xs k true,It (t.us.at k) true opt 251 252))
 else if decide (verb=254)=true then(if (place opt).2.1=true then(t.Xs k false,It (t.us.at k) false opt 251 252) else(t,[]))
 else if decide (verb=251)=true then(if (!(place opt).2.2)=true then(t,Ww 254 opt) else(t.R1 k true,It (t.Gq.at k) true opt 253 254))
 else if decide (verb=252)=true then(if (place opt).2.2=true then(t.R1 k false,It (t.Gq.at k) false opt 253 254) else(t,[]))
 else(t,[])
def collect (t:AR)(b:UInt8):AR:=if decide ((t.sub.length:Int) < 16)=true then { t with sub:=t.sub ++ [b] } else t
def TU (s:As)(i:Int):Int:=((s.getD i.toNat 0).toNat:Int)
def measure (t:AR):AR:=
 if (decide ((t.sub.length:Int)=5) && decide (TU t.sub 0=31) && decide (t.Gq.at 2=1))=true then { t with Bm:=min (TU t.sub 3 * 256+TU t.sub 4) 200 } else t
def step (t:AR)(b:UInt8):AR × As × As:=
  let c:Int:=(b.toNat:Int)
  if decide (t.at_=0)=true then(if decide (c=255)=true then({ t with at_:=1 },[],[]) else(t,[b],[]))
  else if decide (t.at_=1)=true then
    (if decide (c=255)=true then({ t with at_:=0 },[b],[])
     else if decide (c=250)=true then({ t with at_:=3 },[],[])
     else if decide (251≤c)=true then({ t with at_:=2,verb:=c },[],[])
     else({ t with at_:=0 },[],[]))
  else if decide (t.at_=2)=true then({ (t.B6 t.verb c).1 with at_:=0,verb:=0 },[],(t.B6 t.verb c).2)
  else if decide (t.at_=3)=true then(if decide (c=255)=true then({ t with at_:=4 },[],[]) else(t.collect b,[],[]))
  else if decide (t.at_=4)=true then
    (if decide (c=255)=true then(collect { t with at_:=3 } b,[],[])
     else if decide (c=240)=true then({ t.measure with at_:=0,sub:= [] },[],[])
     else({ t with at_:=0,sub:= [] },[],[]))
  else(t,[],[])
def feed:AR→As→AR × As × As
 | t,[]=>(t,[],[])
 | t,b :: s=>((feed (t.step b).1 s).1,(t.step b).2.1++(feed (t.step b).1 s).2.1,(t.step b).2.2++(feed (t.step b).1 s).2.2)
def DY (t:AR)(s:As):AR × As × As × Int:=if (!t.Bk)=true then(t,[],[],2) else((t.feed s).1,(t.feed s).2.1,(t.feed s).2.2,0)
def DR (t:AR)(opt:Int):AR × As × Int:=
 if (!t.Bk)=true then(t,[],2) else if (!(place opt).2.1)=true then(t,[],3) else if (!decide (t.us.at (place opt).1=0))=true then(t,[],0)
 else({ t with us:=t.us.put (place opt).1 2 },Ww 251 opt,0)
def Ask (t:AR)(opt:Int):AR × As × Int:=
 if (!t.Bk)=true then(t,[],2) else if (!(place opt).2.2)=true then(t,[],3) else if (!decide (t.Gq.at (place opt).1=0))=true then(t,[],0)
 else({ t with Gq:=t.Gq.put (place opt).1 2 },Ww 253 opt,0)
theorem OD {opt:Int}(h:(place opt).2.1=true):(opt=1∧place opt=(0,true,false))∨(opt=3∧place opt=(1,true,true)):=by
 unfold place at *
 repeat' split at h
 all_goals simp_all
theorem K4 {opt:Int}(h:(place opt).2.2=true):(opt=3∧place opt=(1,true,true))∨(opt=31∧place opt=(2,false,true)):=by
 unfold place at *
 repeat' split at h
 all_goals simp_all
theorem P6 (w:Int)(on:Bool)(o y n:Int):(It w on o y n).length≤3:=by
 unfold It Ww;repeat' split
 all_goals simp
theorem IY (t:AR)(v o:Int):(t.B6 v o).2.length≤3:=by
 unfold B6;dsimp only
 repeat' split
 all_goals try exact P6 _ _ _ _ _
 all_goals try simp [Ww]
 all_goals exact P6 _ _ _ _ _
theorem Pt (t:AR)(v o:Int):(t.B6 v o).1.sub=t.sub:=by
 unfold B6;dsimp only
 repeat' split
 all_goals rfl
theorem Sm (t:AR)(b:UInt8)(h:t.sub.length≤16):(t.collect b).sub.length≤16:=by
 unfold collect;split
 ·rename_i h1;simp at h1 ⊢;omega
 ·exact h
theorem Yg (t:AR)(b:UInt8)(h:t.sub.length≤16):(t.step b).1.sub.length≤16:=by
 unfold step;dsimp only
 repeat' split
 all_goals first | exact h | exact Sm _ _ h | (simp;done) | (rw [Pt];exact h)
theorem SK (t:AR)(b:UInt8):(t.step b).2.1.length≤1∧(t.step b).2.2.length≤3:=by
 unfold step;dsimp only
 repeat' split
 all_goals first | (simp;done) | (exact⟨by simp,IY _ _ _⟩)
structure KF (X:AR)(u:As)(k:Int)(t:AR)(x y:As):Prop where
 k0:0≤k
 k1:k≤u.length
 sub:t.sub.length≤16
 xl:(x.length:Int)≤k
 yl:(y.length:Int)≤3 * k
 e1:(X.feed u).1=(t.feed (u.drop k.toNat)).1
 e2:(X.feed u).2.1=x++(t.feed (u.drop k.toNat)).2.1
 e3:(X.feed u).2.2=y++(t.feed (u.drop k.toNat)).2.2
theorem Wm {u:As}{k:Int}(h0:0≤k)(h1:k < u.length):u.drop k.toNat=u.getD k.toNat 0 :: u.drop (k+1).toNat:=by
 have hk:k.toNat < u.length:=by omega
 rw [List.drop_eq_getElem_cons hk,show(k+1).toNat=k.toNat+1 by omega]
 simp [List.getD,hk]
theorem KF.start {X:AR}{u:As}(h:X.sub.length≤16):KF X u 0 X [] []:=⟨by omega,by omega,h,by simp,by simp,rfl,rfl,rfl⟩
theorem KF.next {X t t':AR}{u x y x' y':As}{k:Int}(h:KF X u k t x y)(hk:k < u.length)(ht:t'=(t.step (u.getD k.toNat 0)).1)(hx:x'=x++(t.step (u.getD k.toNat 0)).2.1)(hy:y'=y++(t.step (u.getD k.toNat 0)).2.2):KF X u (k+1) t' x' y':=by
 have hd:=Wm h.k0 hk
 have hl:=SK t (u.getD k.toNat 0)
 have h1:=h.xl
 have h2:=h.yl
 have h0:=h.k0
 subst ht;subst hx;subst hy
 refine⟨by omega,by omega,Yg _ _ h.sub,by simp only [List.length_append];omega,by simp only [List.length_append];omega,?_,?_,?_⟩
 ·rw [h.e1,hd];rfl
 ·rw [h.e2,hd,List.append_assoc];rfl
 ·rw [h.e3,hd,List.append_assoc];rfl
theorem KF.done {X t:AR}{u x y:As}{k:Int}(h:KF X u k t x y)(hk:¬ k < u.length):X.feed u=(t,x,y):=by
 have h1:=h.k1
 have hk':k.toNat=u.length:=by omega
 have e1:=h.e1
 have e2:=h.e2
 have e3:=h.e3
 rw [hk',List.drop_length] at e1 e2 e3
 simp only [feed,List.append_nil] at e1 e2 e3
 rw [← e1,← e2,← e3]
theorem XO {t:AR}(h:t.Bk=true):t.sub.length≤16:=by
 simp only [Bk,Qc,Bool.and_eq_true,decide_eq_true_eq] at h
 omega
theorem PQ {xs:List Int}{k:Nat}(h:k < xs.length):xs.getD k 0∈xs:=by
 simp [List.getD,h]
end AR
end Go.Ing
/- The plain laws of the telnet codec. -/
namespace Go.Ing
open Go
theorem JT {α:Type}[Inhabited α]{n:Nat}(v:Vector α n)(k i:Int)(x:α)(hk:0≤k)(hk':k < n)(hi:0≤i):(v.put k x).at i=if i=k then x else v.at i:=by
 simp only [Vector.at,Vector.put,Vector.toList_setIfInBounds,List.getD_eq_getElem?_getD,List.getElem?_set,Vector.length_toList]
 by_cases h:k.toNat=i.toNat
 ·rw [if_pos h,if_pos (by omega),if_pos (by omega)];rfl
 ·rw [if_neg h,if_neg (by omega)]
namespace AR
theorem Ju (t:AR)(a b:As):t.feed (a++b)=(((t.feed a).1.feed b).1,(t.feed a).2.1++((t.feed a).1.feed b).2.1,(t.feed a).2.2++((t.feed a).1.feed b).2.2):=by
 induction a generalizing t with
 | nil=>simp [feed]
 | cons c a ih=>simp only [List.cons_append,feed,ih,List.append_assoc]
def fR (t:AR):Prop:=(0≤t.us.at 0∧t.us.at 0≤2∧0≤t.us.at 1∧t.us.at 1≤2∧t.us.at 2=0)∧(t.Gq.at 0=0∧0≤t.Gq.at 1∧t.Gq.at 1≤2∧0≤t.Gq.at 2∧t.Gq.at 2≤2)
def okB (t:AR):Prop:=0≤t.at_∧t.at_≤4∧(t.at_=2↔t.verb≠0)∧(t.verb=0∨251≤t.verb∧t.verb≤254)∧t.sub.length≤16∧(3≤t.at_∨t.sub = [])∧0≤t.Bm∧t.Bm≤200
theorem Hq (t:AR):t.Bk=true↔t.fR∧t.okB:=by
 have e:t.Qc=true↔t.okB:=by
  simp only [Qc,okB,Bool.and_eq_true,decide_eq_true_eq,Bool.or_eq_true,beq_iff_eq]
  have:(decide (t.at_=2)=!decide (t.verb=0))↔(t.at_=2↔t.verb≠0):=by
   by_cases h1:t.at_=2<;>by_cases h2:t.verb=0<;>simp [h1,h2]
  rw [this]
  constructor
  ·rintro ⟨⟨⟨⟨⟨⟨⟨h1,h2⟩,h3⟩,h4⟩,h5⟩,h6⟩,h7⟩,h8⟩;exact⟨h1,h2,h3,h4,by omega,h6,h7,h8⟩
  ·rintro ⟨h1,h2,h3,h4,h5,h6,h7,h8⟩;exact⟨⟨⟨⟨⟨⟨⟨h1,h2⟩,h3⟩,h4⟩,by omega⟩,h6⟩,h7⟩,h8⟩
 rw [← e]
 simp only [Bk,CA,PM,fR,Bool.and_eq_true]
 simp
 generalize t.Qc=g
 constructor
 ·intro h;exact⟨by omega,h.2.2⟩
 ·intro h;exact⟨by omega,by omega,h.2⟩
theorem Xo (u:As):∀ t:AR,(t.feed u).2.1.length≤u.length∧(t.feed u).2.2.length≤3 * u.length:=by
 induction u with
 | nil=>intro t;simp [feed]
 | cons b u ih=>
  intro t
  have h1:=SK t b
  have h2:=ih (t.step b).1
  simp only [feed,List.length_append,List.length_cons]
  omega
/-! #### the document's answer -/
/-! #### answers to answers come to an end -/
def ends:Nat→AR→AR→As→Bool
 | 0,_,_,_=>false
 | n+1,t,u,s=>
  if decide ((t.DY s).2.2.1 = [])=true then decide ((t.DY s).2.2.2=0) && true
  else if (!decide ((t.DY s).2.2.2=0) || !decide ((u.DY (t.DY s).2.2.1).2.2.2=0))=true then false
  else if decide ((u.DY (t.DY s).2.2.1).2.2.1 = [])=true then true
  else ends n (t.DY s).1 (u.DY (t.DY s).2.2.1).1 (u.DY (t.DY s).2.2.1).2.2.1
def calm (t:AR):AR:={ t with at_:=0,verb:=0,sub:= [] }
end AR
end Go.Ing
/- The plain functions of lines. -/
namespace Go.Ing
open Go
namespace Bj
def F2 (b:UInt8):Bool:=decide (32≤(b.toNat:Int)) && decide ((b.toNat:Int) < 127)
def GM (s:As):Bool:=!decide (60 < (s.length:Int)) && s.all F2
def JU (l:BK):Bool:=decide (60 < (l.now.length:Int)) || decide (6 < (l.queue.len:Int)) || (l.CL && decide (60 < (l.now.length:Int))) || (l.ret && (!decide (l.now = []) || l.CL))
def Bk (l:BK)(qs:List As):Bool:=!JU l && (qs ++ [l.now]).all GM
structure S where
 now:As
 CL:Bool
 ret:Bool
 queue:List As
 lost:Int
 deriving DecidableEq
def step (x:S)(b:UInt8):S:=
 let c:Int:=(b.toNat:Int)
 if (x.ret && (decide (c=10) || decide (c=0)))=true then { x with ret:=false }
 else if (decide (c=13) || decide (c=10))=true then
  (if decide ((x.queue.length:Int) < 6)=true then { x with queue:=x.queue ++ [x.now],now:= [],CL:=false,ret:=decide (c=13) } else { x with lost:=x.lost+1,now:= [],CL:=false,ret:=decide (c=13) })
 else if (decide (c=8) || decide (c=127))=true then(if decide (0 < (x.now.length:Int))=true then { x with now:=x.now.take ((x.now.length:Int) - 1).toNat,ret:=false } else { x with ret:=false })
 else if (!F2 b)=true then { x with ret:=false }
 else if decide (60≤(x.now.length:Int))=true then { x with CL:=true,ret:=false }
 else { x with now:=x.now ++ [b],ret:=false }
def feed (x:S)(s:As):S:=s.foldl step x
def start (l:BK)(qs:List As):S:=⟨l.now,l.CL,l.ret,qs,0⟩
structure I (x0:S)(u:As)(k:Int)(x:S):Prop where
 k0:0≤k
 k1:k≤u.length
 now:x.now.length≤60
 queue:x.queue.length≤6
 lost:0≤x.lost∧x.lost≤k
 e:feed x0 u=feed x (u.drop k.toNat)
theorem X8 {x:S}(b:UInt8)(h:x.now.length≤60):(step x b).now.length≤60:=by
 unfold step;dsimp only
 repeat' split
 all_goals first | exact h | (simp;done) | (simp;omega) | (rename_i h1 _;simp at *;omega) | skip
 all_goals simp_all
 all_goals omega
theorem TI {x:S}(b:UInt8)(h:x.queue.length≤6):(step x b).queue.length≤6:=by
 unfold step;dsimp only
 repeat' split
 all_goals first | exact h | (simp at *;omega)
theorem VU (x:S)(b:UInt8):x.lost≤(step x b).lost∧(step x b).lost≤x.lost+1:=by
 unfold step;dsimp only
 repeat' split
 all_goals (constructor<;>dsimp only<;>omega)
theorem I.start {x:S}{u:As}(h1:x.now.length≤60)(h2:x.queue.length≤6)(h3:x.lost=0):I x u 0 x:=⟨by omega,by omega,h1,h2,by omega,rfl⟩
theorem I.next {x0 x:S}{u:As}{k:Int}(h:I x0 u k x)(hk:k < u.length){now:As}{CL ret:Bool}{queue:List As}{lost:Int}(hs:step x (u.getD k.toNat 0)=⟨now,CL,ret,queue,lost⟩):I x0 u (k+1) ⟨now,CL,ret,queue,lost⟩:=by
 have h0:=h.k0
 have hk':k.toNat < u.length:=by omega
 have hd:u.drop k.toNat=u.getD k.toNat 0 :: u.drop (k+1).toNat:=by
  rw [List.drop_eq_getElem_cons hk',show(k+1).toNat=k.toNat+1 by omega]
  simp [List.getD,hk']
 have hl:=VU x (u.getD k.toNat 0)
 have hl':=h.lost
 have hn:=X8 (u.getD k.toNat 0) h.now
 have hq:=TI (u.getD k.toNat 0) h.queue
 rw [hs] at hl hn hq
 refine⟨by omega,by omega,hn,hq,by dsimp only at *;omega,?_⟩
 rw [h.e,hd,← hs];rfl
theorem I.done {x0 x:S}{u:As}{k:Int}(h:I x0 u k x)(hk:¬ k < u.length):feed x0 u=x:=by
 have h1:=h.k1
 have hk':k.toNat=u.length:=by omega
 rw [h.e,hk',List.drop_length];rfl
theorem Wb {l:BK}{qs:List As}(h:Bk l qs=true):l.now.length≤60∧l.queue.len≤6:=by
 simp only [Bk,JU,Bool.and_eq_true,Bool.not_eq_true',Bool.or_eq_false_iff,decide_eq_false_iff_not] at h
 omega
theorem FN {α:Type}{p:α→Bool}{xs:List α}{k:Int}{d:α}(h0:0≤k)(h1:k < xs.length):(xs.drop k.toNat).all p=(p (xs.getD k.toNat d) && (xs.drop (k+1).toNat).all p):=by
 have hk':k.toNat < xs.length:=by omega
 rw [List.drop_eq_getElem_cons hk',show(k+1).toNat=k.toNat+1 by omega,List.all_cons]
 simp [List.getD,hk']
/-! #### what is said of lines -/
structure Ok (x:S):Prop where
 now:GM x.now=true
 queue:∀ s∈x.queue,GM s=true
 len:x.queue.length≤6
 ret:x.ret=true→x.now = []∧x.CL=false
theorem GY (s:As):GM s=true↔s.length≤60∧∀ b∈s,F2 b=true:=by
 simp only [GM,Bool.and_eq_true,Bool.not_eq_true',decide_eq_false_iff_not,List.all_eq_true]
 constructor
 ·rintro ⟨h1,h2⟩;exact⟨by omega,h2⟩
 ·rintro ⟨h1,h2⟩;exact⟨by omega,h2⟩
theorem Mh:GM []=true:=rfl
theorem Hq {l:BK}{qs:List As}(hl:l.queue.len=qs.length):Bk l qs=true↔Ok (start l qs):=by
 simp only [Bk,JU,Bool.and_eq_true,Bool.not_eq_true',Bool.or_eq_false_iff,decide_eq_false_iff_not,List.all_append,List.all_cons,List.all_nil,Bool.and_true,List.all_eq_true]
 constructor
 ·rintro ⟨⟨⟨⟨h1,h2⟩,h3⟩,h4⟩,h5,h6⟩
  refine⟨h6,h5,by show qs.length≤6;omega,fun h=>?_⟩
  have h:l.ret=true:=h
  rw [h] at h4
  simp at h4
  exact h4
 ·rintro ⟨h1,h2,h3,h4⟩
  have h3:qs.length≤6:=h3
  have h5:=((GY _).1 h1).1
  have h5:l.now.length≤60:=h5
  refine⟨⟨⟨⟨by omega,by omega⟩,?_⟩,?_⟩,h2,h1⟩
  ·cases l.CL<;>simp;omega
  ·have h4:l.ret=true→l.now = []∧l.CL=false:=h4
   cases hr:l.ret with
   | false=>rfl
   | true=>obtain⟨a,b⟩:=h4 hr;simp [a,b]
theorem ZD {x:S}(h:Ok x)(b:UInt8):Ok (step x b):=by
 obtain⟨h1,h2,h3,h4⟩:=h
 have h1':=(GY _).1 h1
 unfold step;dsimp only
 repeat' split
 all_goals try simp only [decide_eq_true_eq,Bool.not_eq_true',Bool.or_eq_true] at *
 ·exact⟨h1,h2,h3,fun h=>by cases h⟩
 ·rename_i hq
  refine⟨Mh,fun s hs=>?_,by show(x.queue ++ [x.now]).length≤6;rw [List.length_append,List.length_singleton];omega,fun _=>⟨rfl,rfl⟩⟩
  rcases List.mem_append.1 hs with hs | hs
  ·exact h2 s hs
  ·simp at hs;subst hs;exact h1
 ·exact⟨Mh,h2,h3,fun _=>⟨rfl,rfl⟩⟩
 ·refine⟨(GY _).2 ⟨?_,fun c hc=>h1'.2 c (List.mem_of_mem_take hc)⟩,h2,h3,fun h=>by cases h⟩
  have:=h1'.1
  show(x.now.take _).length≤60
  rw [List.length_take];omega
 ·exact⟨h1,h2,h3,fun h=>by cases h⟩
 ·exact⟨h1,h2,h3,fun h=>by cases h⟩
 ·exact⟨h1,h2,h3,fun h=>by cases h⟩
 ·rename_i hp hl
  refine⟨(GY _).2 ⟨by show(x.now ++ [b]).length≤60;rw [List.length_append,List.length_singleton];omega,fun c hc=>?_⟩,h2,h3,fun h=>by cases h⟩
  rcases List.mem_append.1 hc with hc | hc
  ·exact h1'.2 c hc
  ·simp at hc;subst hc;simpa using hp
theorem U8 (u:As):∀ {x:S},Ok x→Ok (feed x u):=by
 induction u with
 | nil=>intro x h;exact h
 | cons b u ih=>intro x h;exact ih (ZD h b)
theorem Ju (x:S)(a b:As):feed x (a++b)=feed (feed x a) b:=List.foldl_append ..
def val (x:S)(h:Hd):BK:=⟨x.now,x.CL,x.ret,h⟩
theorem cL {α:Type}{xs ys:List α}{i:Nat}(hl:xs.length=ys.length)(ht:xs.take i=ys.take i)(hi:¬ i < xs.length):xs=ys:=by
 rw [List.take_of_length_le (by omega),List.take_of_length_le (by omega)] at ht;exact ht
theorem Kc {α:Type}{xs ys:List α}{i:Int}{d:α}(h0:0≤i)(hl:xs.length=ys.length)(hi:i < xs.length)(ht:xs.take i.toNat=ys.take i.toNat)(he:xs.getD i.toNat d=ys.getD i.toNat d):xs.take (i+1).toNat=ys.take (i+1).toNat:=by
 have h1:i.toNat < xs.length:=by omega
 have h2:i.toNat < ys.length:=by omega
 rw [show(i+1).toNat=i.toNat+1 by omega,List.take_succ_eq_append_getElem h1,List.take_succ_eq_append_getElem h2,ht]
 simp only [List.getD,List.getElem?_eq_getElem h1,List.getElem?_eq_getElem h2,Option.getD_some] at he
 rw [he]
theorem UB {α:Type}{xs ys:List α}{i:Nat}{d:α}(h:xs.getD i d≠ys.getD i d):xs≠ys:=fun e=>h (by rw [e])
theorem VA {qs:List As}(h:qs.length≠0):∃ q r,qs=q :: r:=by
 cases qs with
 | nil=>simp at h
 | cons q r=>exact⟨q,r,rfl⟩
/-! #### text that is typed -/
theorem Vh {b:UInt8}(h:F2 b=true):32≤(b.toNat:Int)∧(b.toNat:Int) < 127:=by
 simpa [F2] using h
theorem UH {x:S}{b:UInt8}(h:F2 b=true)(hn:x.now.length < 60):step x b={ x with now:=x.now ++ [b],ret:=false }:=by
 have hb:=Vh h
 have e1:decide ((b.toNat:Int)=10)=false:=decide_eq_false (by omega)
 have e2:decide ((b.toNat:Int)=0)=false:=decide_eq_false (by omega)
 have e3:decide ((b.toNat:Int)=13)=false:=decide_eq_false (by omega)
 have e4:decide ((b.toNat:Int)=8)=false:=decide_eq_false (by omega)
 have e5:decide ((b.toNat:Int)=127)=false:=decide_eq_false (by omega)
 have e6:decide (60≤(x.now.length:Int))=false:=decide_eq_false (by omega)
 simp only [step,e1,e2,e3,e4,e5,e6,h]
 simp
theorem Tf (s:As):∀ x:S,(∀ b∈s,F2 b=true)→x.now.length+s.length≤60→s≠ []→feed x s={ x with now:=x.now++s,ret:=false }:=by
 induction s with
 | nil=>intro x _ _ h;exact absurd rfl h
 | cons b s ih=>
  intro x hp hl _
  rw [List.length_cons] at hl
  show feed (step x b) s=_
  rw [UH (hp b (by simp)) (by omega)]
  cases s with
  | nil=>rfl
  | cons c s=>
   rw [ih _ (fun d hd=>hp d (by simp [hd])) (by simp at hl ⊢;omega) (by simp)]
   simp
def aL:BK:=⟨[],false,false,⟨none,0,0⟩⟩
def s0:S:=start aL []
def Ends (W:As):Prop:=W = [13,10]∨W = [10]∨W = [13,0]∨W = [13]
structure WO (W:As)(x:S)(q:List As):Prop where
 now:x.now = []
 CL:x.CL=false
 ret:x.ret=true→W = [13]
 queue:x.queue=q
 lost:x.lost=0
theorem SI {W:As}(hW:Ends W){x:S}{q:List As}(hq:q.length < 6){s:As}(hn:x.now=s)(hl:x.CL=false)(hr:x.ret=true→W = [13]∧s = [])(hx:x.queue=q)(h0:x.lost=0):WO W (feed x W) (q ++ [s]):=by
 have hc:decide ((x.queue.length:Int) < 6)=true:=decide_eq_true (by rw [hx];omega)
 obtain⟨n,l,r,qq,lo⟩:=x
 simp only at hn hl hr hx h0 hc
 subst hn;subst hl;subst hx;subst h0
 have h13:((13:UInt8).toNat:Int)=13:=rfl
 have h10:((10:UInt8).toNat:Int)=10:=rfl
 have h00:((0:UInt8).toNat:Int)=0:=rfl
 have e13:step ⟨n,false,r,qq,0⟩ 13=⟨[],false,true,qq ++ [n],0⟩:=by
  simp only [step,h13,hc];simp
 have e10:r=false→step ⟨n,false,r,qq,0⟩ 10=⟨[],false,false,qq ++ [n],0⟩:=by
  intro hr;subst hr
  simp only [step,h10,hc];simp
 rcases hW with rfl | rfl | rfl | rfl
 ·have:feed ⟨n,false,r,qq,0⟩ [13,10]=⟨[],false,false,qq ++ [n],0⟩:=by
   show step (step _ 13) 10=_
   rw [e13];simp [step,h10]
  rw [this];exact⟨rfl,rfl,fun h=>(by cases h),rfl,rfl⟩
 ·have hr':r=false:=by
   cases r with
   | false=>rfl
   | true=>have:=(hr rfl).1;simp at this
  have:feed ⟨n,false,r,qq,0⟩ [10]=⟨[],false,false,qq ++ [n],0⟩:=e10 hr'
  rw [this];exact⟨rfl,rfl,fun h=>(by cases h),rfl,rfl⟩
 ·have:feed ⟨n,false,r,qq,0⟩ [13,0]=⟨[],false,false,qq ++ [n],0⟩:=by
   show step (step _ 13) 0=_
   rw [e13];simp [step,h00]
  rw [this];exact⟨rfl,rfl,fun h=>(by cases h),rfl,rfl⟩
 ·have:feed ⟨n,false,r,qq,0⟩ [13]=⟨[],false,true,qq ++ [n],0⟩:=e13
  rw [this];exact⟨rfl,rfl,fun _=>rfl,rfl,rfl⟩
theorem VV {W:As}(hW:Ends W){x:S}{q:List As}(h:WO W x q)(hq:q.length < 6){s:As}(hs:GM s=true):WO W (feed x (s++W)) (q ++ [s]):=by
 obtain⟨h1,h2⟩:=(GY s).1 hs
 rw [Ju]
 cases s with
 | nil=>exact SI hW hq h.now h.CL (fun hr=>⟨h.ret hr,rfl⟩) h.queue h.lost
 | cons b s=>
  rw [Tf _ _ h2 (by rw [h.now];simpa using h1) (by simp)]
  exact SI hW hq (by simp [h.now]) h.CL (fun hr=>by cases hr) h.queue h.lost
def pick (k n:Int):Int:=k.tmod n+if k.tmod n < 0 then n else 0
def typed (W:As)(qs:List As):As:=qs.flatMap (·++ W)
theorem Tr {W:As}(hW:Ends W)(qs:List As):∀(x:S) (q:List As),WO W x q→q.length+qs.length≤6→(∀ s∈qs,GM s=true)→WO W (feed x (typed W qs)) (q++qs):=by
 induction qs with
 | nil=>intro x q h _ _;simpa [typed,feed] using h
 | cons s qs ih=>
  intro x q h hl hs
  rw [List.length_cons] at hl
  have h1:=VV hW h (by omega) (hs s (by simp))
  have h2:=ih _ _ h1 (by simp;omega) (fun t ht=>hs t (by simp [ht]))
  have e:typed W (s :: qs)=(s++W)++typed W qs:=rfl
  rw [e,Ju]
  simpa using h2
theorem whole {W:As}(hW:Ends W){qs:List As}(hl:qs.length≤6)(hs:∀ s∈qs,GM s=true):WO W (feed s0 (typed W qs)) qs:=by
 have:=Tr hW qs s0 [] ⟨rfl,rfl,fun h=>(by cases h),rfl,rfl⟩ (by simpa using hl) hs
 simpa using this
/-! #### the document's -/
end Bj
end Go.Ing
/- Engine, part 14: the library's own entries; slices that came in or are the call's own. -/
namespace Go.Ing
open Go
section
variable {P:Program} {n:Nat} {w0:World} {M:List Nat} {Q:Exit→Go.Act→World→Prop} {F F':List (Nat × Value)} {L L':List Af} {ops:Array Oper} {rest:List Oper}
theorem MF {U:TypeId}{ts:Array TypeId}{x:Operand}{T E:TypeId}{p:Option Addr}{l c:Nat}(ht:ts[0]?=some U)(hu:P.underlying U=some (.slice E))(hx:ev F x=some (.slice p l c)):PS P n w0 M (.call ⟨.builtin .cap,#[x],ts⟩) T F L (.int .i64 c) L:=CS fun e w hF=>by
 simp [execOp,resolve,invoke,builtin,Builtin.cap_,ht,hF.ev hx,underlying,hu,goInt]
theorem XU {U E sz:TypeId}{ts:Array TypeId}{x y:Operand}{T:TypeId}{h:Hd}(ht:ts[0]?=some U)(hu:P.underlying U=some (.slice E))(hs:Sz P E sz)(hx:ev F x=some h.val)(hy:ev F y=some (.slice none 0 0)):PS P n w0 M (.call ⟨.builtin .copy,#[x,y],ts⟩) T F L (.int .i64 0) L:=CS fun e w hF=>by
 cases ha:h.a with
 | none=>simp [execOp,resolve,invoke,builtin,Builtin.copy_,ht,hF.ev hx,hF.ev hy,underlying,hu,goInt,Hd.val,Builtin.lenOf,Builtin.firstCells,hs w,ha,pure,ReaderT.pure]
 | some a=>simp [execOp,resolve,invoke,builtin,Builtin.copy_,ht,hF.ev hx,hF.ev hy,underlying,hu,goInt,Hd.val,Builtin.lenOf,Builtin.firstCells,hs w,ha,storeCells]
theorem Oe {f : FuncId} {fn : Func} {ex : Array Value → Sem Value} {ts : Array TypeId} {T : TypeId} {x y : Operand} {a b v : Value} (hf : P.funcs[f]? = some fn) (h1 : (fn.name == "runtime.NumGoroutine") = false) (h2 : fn.body.isNone = true) (h3 : Extern.findNext fn = none) (h4 : Extern.find fn = some ex) (hx : ev F x = some a) (hy : ev F y = some b)
  (hr:∀ w,(ex #[a,b]).run P w = .ok v w):PS P n w0 M (.call ⟨.value (.func f),#[x,y],ts⟩) T F L v L:=CS fun e w hF=>by
 have:=run_callFunc_extern hf h1 h2 h3 h4 #[a,b] w
 rw [hr] at this
 have hx':=hF.ev hx
 have hy':=hF.ev hy
 have hg:e.eval (.func f) = .func (.func f) #[] #[]:=rfl
 simp [execOp,resolve,Deferred.ofValue,invoke,hg,hx',hy',this]
theorem Up (c:UInt8):((c.toNat:Int)).toNat.toUInt8=c:=by simp
theorem Oj {f : FuncId} {fn : Func} {ts : Array TypeId} {T : TypeId} {x y : Operand} {s : As} {c : UInt8} (hf : P.funcs[f]? = some fn) (h1 : (fn.name == "runtime.NumGoroutine") = false) (h2 : fn.body.isNone = true) (h3 : Extern.findNext fn = none) (h4 : Extern.find fn = some Extern.BytealgCount.count) (hx : ev F x = some (BW s)) (hy : ev F y = some (.int .u8 (c.toNat : Int))) :
  PS P n w0 M (.call ⟨.value (.func f),#[x,y],ts⟩) T F L (.int .i64 ((s.count c:Nat):Int)) L:=
 Oe hf h1 h2 h3 h4 hx hy fun w=>by
  have:=Lib.run_countString (P:=P) ⟨s.toArray⟩ (c.toNat:Int) w
  rw [Up] at this
  exact this
theorem LI {f : FuncId} {fn : Func} {ts : Array TypeId} {T : TypeId} {x y : Operand} {s : As} {c : UInt8} (hf : P.funcs[f]? = some fn) (h1 : (fn.name == "runtime.NumGoroutine") = false) (h2 : fn.body.isNone = true) (h3 : Extern.findNext fn = none) (h4 : Extern.find fn = some Extern.BytealgIndexByte.indexByte) (hx : ev F x = some (BW s)) (hy : ev F y = some (.int .u8 (c.toNat : Int))) :
  PS P n w0 M (.call ⟨.value (.func f),#[x,y],ts⟩) T F L (.int .i64 (Lib.indexByte s c)) L:=
 Oe hf h1 h2 h3 h4 hx hy fun w=>by
  have:=Lib.run_indexByteString (P:=P) ⟨s.toArray⟩ (c.toNat:Int) w
  rw [Up] at this
  exact this
theorem PY:∀(m t:Nat) (acc:Array Value),∃ xs:As,xs.length=m∧(Extern.BytealgMakeNoZero.digits m t acc).toList=acc.toList++xs.flatMap DV
 | 0,_,acc=>⟨[],rfl,by simp [Extern.BytealgMakeNoZero.digits]⟩
 | m+1,t,acc=>by
  obtain⟨xs,h1,h2⟩:=PY m (t / 256) (acc.push (.int .u8 (Int.ofNat (t % 256))))
  refine⟨(t % 256).toUInt8 :: xs,by simp [h1],?_⟩
  rw [Extern.BytealgMakeNoZero.digits,h2]
  have:((t % 256).toUInt8.toNat:Int)=Int.ofNat (t % 256):=by
   simp
  simp [DV,this]
theorem SU {d : Nat} {f : FuncId} {fn : Func} {ps : Array TypeId} {t E : TypeId} {ts : Array TypeId} {T : TypeId} {pos : String} {Cs : Array Edge} {x : Operand} {m : Int} (hd : Nat.blt d n = true) (hf : P.funcs[f]? = some fn) (h1 : (fn.name == "runtime.NumGoroutine") = false) (h2 : fn.body.isNone = true) (h3 : Extern.findNext fn = none)
  (h4:Extern.find fn=some (Extern.BytealgMakeNoZero.makeNoZero ps #[t])) (hu:P.underlying t=some (.slice E)) (hs:Sz P E 1) (hx:ev F x=some (.int .i64 m)) (h0:0≤m) (hm:m≤281474976710656)
  (k:∀(b cap:Nat) (xs:As),xs.length=m.toNat→m.toNat≤cap→GL P n w0 M ops Q rest ((d,Hd.val ⟨some ⟨b,0,none⟩,m.toNat,cap⟩) :: F) (Af.own ⟨some ⟨b,0,none⟩,m.toNat,cap⟩ E 1 (xs.flatMap DV) :: L)):GL P n w0 M ops Q (⟨some d, .call ⟨.value (.func f),#[x],ts⟩,T,pos,Cs,none⟩ :: rest) F L:=by
 refine F9 (R:=fun v L'=>∃(b cap:Nat) (xs:As),v=Hd.val ⟨some ⟨b,0,none⟩,m.toNat,cap⟩∧L'=Af.own ⟨some ⟨b,0,none⟩,m.toNat,cap⟩ E 1 (xs.flatMap DV) :: L∧xs.length=m.toNat∧m.toNat≤cap) hd ?_ (fun v L' ⟨b,cap,xs,e1,e2,e3,e4⟩=>by subst e1;subst e2;exact k b cap xs e3 e4)
 intro a w hF hS
 obtain⟨N,rfl⟩:=Int.eq_ofNat_of_zero_le h0
 have hN:N≤281474976710656:=by omega
 let cap:=(Question.appendCap N 0 E).cut (w.tape w.drawn (Question.appendCap N 0 E))
 have hcap:N≤cap:=Nat.le_add_right _ _
 let t' := (Question.extern "internal/bytealg.MakeNoZero.bytes" 0).cut (w.tape (w.drawn + 1) (.extern "internal/bytealg.MakeNoZero.bytes" 0))
 obtain⟨ys,hy1,hy2⟩:=PY cap t' #[]
 have hrun:(Extern.BytealgMakeNoZero.makeNoZero ps #[t] #[.int .i64 N]).run P w = .ok (.slice (some ⟨w.heap.size,0,none⟩) N cap) (w.drew.drew.alloc (.cells (ys.flatMap DV).toArray E)):=by
  have hdef:Extern.BytealgMakeNoZero.makeNoZero ps #[t] #[.int .i64 N] =
   (do
    let .slice elem ← underlying t | stuck "bytealg.MakeNoZero: slice type expected"
    if (N : Int) < 0 || (N : Int) > 2 ^ 48 then runtimePanic (.error "makeslice: len out of range")
    let cap ← choose (.appendCap (N:Int).toNat 0 elem)
    askRoom cap
    let bytes ← choose (.extern "internal/bytealg.MakeNoZero.bytes" 0)
    let a ← newRow elem (Extern.BytealgMakeNoZero.digits cap bytes #[])
    pure (.slice (some a) (N:Int).toNat cap)):=rfl
  have g1:¬ (N:Int) < 0:=by omega
  have g2:¬ (281474976710656:Int) < (N:Int):=by omega
  have hdig:Extern.BytealgMakeNoZero.digits cap t' #[]=(ys.flatMap DV).toArray:=by
   apply Array.ext';rw [hy2];simp
  rw [hdef]
  simp [run_underlying hu,g1,g2,Question.forced,newRow]
  exact⟨rfl,congrArg (fun c=>w.drew.drew.alloc (Obj.cells c E)) hdig⟩
 have hS1:St w0 M w.drew.drew L:=hS.drew _
 have hlen:(ys.flatMap DV).length=cap:=by rw [C4 Wv.len,hy1,Nat.mul_one]
 have hw1:=hS1.alloc E (ys.flatMap DV)
 have hS':St w0 M (w.drew.drew.alloc (.cells (ys.flatMap DV).toArray E)) (Af.own ⟨some ⟨w.heap.size,0,none⟩,N,cap⟩ E 1 ((ys.take N).flatMap DV) :: L):=by
  refine hw1.D5 (.head) rfl rfl rfl (Nat.le_refl _) (fun _ _ _=>rfl) ?_ (fun b hb=>?_)
  ·refine .inr ⟨w.heap.size,0,ys.flatMap DV,(0,0),rfl,by simp,?_,fun _ _ h=>by simp at h,?_,hcap,?_,?_⟩
   ·have:=hw1.ok _ (List.mem_cons_self ..)
    exact this
   ·show 0+cap * 1≤_;rw [hlen];omega
   ·show N * 1=_;rw [C4 Wv.len,List.length_take,hy1,Nat.min_eq_left hcap]
   ·show((ys.flatMap DV).drop 0).take _=_
    rw [List.drop_zero]
    have e:=Pz Wv ys N
    rw [C4 Wv.len,List.length_take,hy1,Nat.min_eq_left hcap]
    exact e
  ·simp [Af.own] at hb
   subst hb
   exact⟨by simp, .inl (by simp [Af.box])⟩
 refine⟨_,_,_,⟨w.heap.size,cap,ys.take N,rfl,rfl,by rw [List.length_take,hy1,Int.toNat_natCast];exact Nat.min_eq_left hcap,by simpa using hcap⟩,?_,hS'⟩
 have:=run_callFunc_extern hf h1 h2 h3 h4 #[.int .i64 N] w
 rw [hrun] at this
 have hx':=hF.ev hx
 have hg:a.eval (.func f) = .func (.func f) #[] #[]:=rfl
 simp [execOp,resolve,Deferred.ofValue,invoke,hg,hx',this,Hd.val]
def bg {α:Type}(T:Nat)(h:Hd)(xs:List α)(Ta:Nat)(a:Hd)(ys:List α)(Tg:Nat)(g:Hd)(zs:List α):Prop:=(T=Ta∧h=a∧xs=ys∧g=⟨none,0,0⟩∧zs = [])∨(T=Tg∧h=g∧zs=xs)
theorem aS {α:Type}{e:α→List Value}{T Ta Tg sz:Nat}{h a g:Hd}{xs ys zs:List α}(ho:bg T h xs Ta a ys Tg g zs)(ka:Kn w0 M L a Ta sz (ys.flatMap e))(kg:Kn w0 M L g Tg sz (zs.flatMap e)):Kn w0 M L h T sz (xs.flatMap e):=by
 rcases ho with ⟨rfl,rfl,rfl,_,_⟩ | ⟨rfl,rfl,rfl⟩
 ·exact ka
 ·exact kg
theorem dU {α:Type}{T Ta Tg:Nat}{h a g:Hd}{xs ys zs:List α}(ho:bg T h xs Ta a ys Tg g zs)(ka:WY w0 M L a)(kg:WY w0 M L g):WY w0 M L h:=by
 rcases ho with ⟨rfl,rfl,rfl,_,_⟩ | ⟨rfl,rfl,rfl⟩
 ·exact ka
 ·exact kg
theorem Gw {α:Type}{e:α→List Value}{d T U E sz:Nat}{x y:Operand}{pos:String}{Cs:Array Edge}{h:Hd}{xs:List α}{kd:IntKind}{i:Int}{Lf:Af→List Af}(fe:Flat e sz)(hd:Nat.blt d n=true)(hT:P.underlying T=some (.slice E))(hs:Sz P E sz)(hx:ev F x=some h.val)(hy:ev F y=some (.int kd i))(h0:0≤i)(h1:i≤(h.len:Int))(hU:∀ r,LZ L (Af.own h E sz (xs.flatMap e)) r (Lf r))
  (k:GL P n w0 M ops Q rest ((d,(h.cut i.toNat h.len sz).val) :: F) (Lf (Af.own (h.cut i.toNat h.len sz) E sz ((xs.drop i.toNat).flatMap e)))):GL P n w0 M ops Q (⟨some d, .slice T x (some y) none none,U,pos,Cs,none⟩ :: rest) F L:=by
 refine F9 (R:=fun v L'=>v=(h.cut i.toNat h.len sz).val∧L'=Lf (Af.own (h.cut i.toNat h.len sz) E sz ((xs.drop i.toNat).flatMap e))) hd ?_ (fun v L' ⟨e1,e2⟩=>by subst e1;subst e2;exact k)
 intro a w hF hS
 have hok:=hS.ok _ (hU ⟨[],fun _=>True,fun _ _ _ _=>trivial⟩).mem
 have hr:Rd w h E sz (xs.flatMap e):=Kn.own (M:=M) (hU ⟨[],fun _=>True,fun _ _ _ _=>trivial⟩).mem w hS
 have hcap:h.len≤h.cap:=by
  rcases hok with ⟨rfl,_⟩ | ⟨b,o,C,fz,e1,e2,e3,e4,e5,e6,_⟩
  ·exact Nat.le_refl _
  ·exact e6
 have hil:i.toNat≤h.len:=by omega
 have hlc:h.len * sz≤h.cap * sz:=Nat.mul_le_mul_right sz hcap
 have hll:i.toNat * sz≤h.len * sz:=Nat.mul_le_mul_right sz hil
 have hcs:((xs.flatMap e).take (h.len * sz)).drop (i.toNat * sz)=(xs.drop i.toNat).flatMap e:=by
  rw [hr.1,List.take_length]
  have:=Lx fe xs (l:=i.toNat) (r:=xs.length)
  rwa [List.take_length,← C4 fe.len,List.take_length] at this
 have hlen:((xs.drop i.toNat).flatMap e).length=h.len * sz - i.toNat * sz:=by
  rw [← hcs,List.length_drop,List.length_take,← hr.1,Nat.min_self]
 refine⟨_,_,w,⟨rfl,rfl⟩,?_,?_⟩
 ·have hs':=hs w
  simp only [execOp,hF.ev hx,Option.map_some,Option.map_none,hF.ev hy,Hd.val,Instr.sliceAt,Instr.slice,underlying]
  simp [hT,Instr.sliceBounds,Instr.sliceBound,asIntOf,h1,h0,hs',Hd.cut]
 ·refine hS.D5 (hU _) rfl rfl rfl (Nat.le_refl _) (fun _ _ _=>rfl) ?_ ?_
  ·rcases hok with ⟨rfl,hn⟩ | ⟨b,o,C,fz,e1,e2,e3,e4,e5,e6,e7,e8⟩
   ·have:i.toNat=0:=by simp at hil;omega
    refine .inl ⟨by simp [Hd.cut,this],?_⟩
    rw [List.eq_nil_of_length_eq_zero (l:=(xs.drop i.toNat).flatMap e) (by rw [hlen];simp)]
   ·by_cases hci:h.cap=i.toNat
    ·have hli:h.len=i.toNat:=by omega
     refine .inr ⟨b,o,C,fz,by simp only [Hd.cut];rw [if_pos hci];exact e1,e2,e3,e4,?_,?_,?_,?_⟩
     ·simp only [Hd.cut];rw [hci,Nat.sub_self,Nat.zero_mul];omega
     ·simp only [Hd.cut];omega
     ·simp only [Hd.cut];rw [hlen,Nat.sub_mul]
     ·rw [hlen,List.eq_nil_of_length_eq_zero (l:=(xs.drop i.toNat).flatMap e) (by rw [hlen,hli];omega),hli];simp
    ·refine .inr ⟨b,o+i.toNat * sz,C,fz,by simp only [Hd.cut];rw [if_neg hci,e1];simp [Eg],e2,e3,fun j hj h=>e4 j (by omega) h,?_,?_,?_,?_⟩
     ·simp only [Hd.cut];rw [Nat.sub_mul];omega
     ·simp only [Hd.cut];omega
     ·simp only [Hd.cut];rw [hlen,Nat.sub_mul]
     ·have hX:xs.flatMap e=(C.drop o).take (h.len * sz):=by rw [hr.1];exact e8.symm
      have hY:(xs.drop i.toNat).flatMap e=((C.drop o).take (h.len * sz)).drop (i.toNat * sz):=by rw [← hcs,← hX,hr.1,List.take_length]
      rw [hlen,hY,List.drop_take,List.drop_drop]
  ·intro b hb
   have hb':b∈(Af.own h E sz (xs.flatMap e)).CY:=by
    revert hb
    simp only [Af.own,Hd.cut]
    cases ha:h.a with
    | none=>by_cases hc:h.cap=i.toNat<;>simp [hc]
    | some a=>
     by_cases hc:h.cap=i.toNat
     ·simp [hc]
     ·simp only [hc,if_false,Option.map_some]
      unfold Addr.add
      split<;>simp
   exact⟨(hS.CY _ (hU ⟨[],fun _=>True,fun _ _ _ _=>trivial⟩).mem b hb').1, .inl hb'⟩
end
end Go.Ing
/- The plain functions of pages. -/
namespace Go.Ing
open Go
namespace Page
/-! #### what is escaped -/
def escape (s:As):As:=s.flatMap fun b=>if b=255 then [255,255] else [b]
theorem Pn (a b:As):escape (a++b)=escape a++escape b:=List.flatMap_append
theorem Ht (s:As):(escape s).length≤2 * s.length:=by
 induction s with
 | nil=>simp [escape]
 | cons b s ih=>
  have e:escape (b :: s)=(if b=255 then [255,255] else [b])++escape s:=rfl
  rw [e,List.length_append,List.length_cons]
  split<;>simp<;>omega
theorem NM (s:As)(h:s.count 255=0):escape s=s:=by
 induction s with
 | nil=>rfl
 | cons b s ih=>
  have hb:b≠255:=fun e=>by subst e;simp at h
  have hs:s.count 255=0:=by rw [List.count_cons_of_ne (by simpa using hb)] at h;exact h
  have e:escape (b :: s)=(if b=255 then [255,255] else [b])++escape s:=rfl
  rw [e,if_neg hb,ih hs];rfl
theorem O4:∀(s:As),0 < s.count 255→∃ i:Nat,Lib.indexByte s 255=i∧i < s.length∧escape (s.take i)=s.take i∧s.drop i=255 :: s.drop (i+1)∧(s.drop (i+1)).count 255+1=s.count 255
 | [],h=>by simp at h
 | b :: s,h=>by
  by_cases hb:b=255
  ·subst hb
   exact⟨0,by simp [Lib.indexByte],by simp,by simp [escape],by simp,by simp⟩
  ·have hs:s.count 255=(b :: s).count 255:=(List.count_cons_of_ne (by simpa using hb)).symm
   obtain⟨i,h1,h2,h3,h4,h5⟩:=O4 s (by rw [hs];exact h)
   refine⟨i+1,?_,by simp;omega,?_,by simpa using h4,by simp only [List.drop_succ_cons];rw [h5,hs]⟩
   ·have hne:(b == (255:UInt8))=false:=by simpa using hb
    have hm:((i:Int) == -1)=false:=beq_eq_false_iff_ne.2 (by omega)
    simp [Lib.indexByte,hne,h1,hm]
   ·rw [List.take_succ_cons]
    have e:escape (b :: s.take i)=(if b=255 then [255,255] else [b])++escape (s.take i):=rfl
    rw [e,if_neg hb,h3];rfl
theorem We (c:UInt8):Lib.indexByte [c] c=0:=by simp [Lib.indexByte]
structure RP (s:As)(m:Nat)(k start:Int)(x:As):Prop where
 k0:0≤k
 k1:k≤m
 s0:0≤start
 s1:start≤s.length
 e:x++escape (s.drop start.toNat)=escape s
 c:((s.drop start.toNat).count 255:Int)=m - k
 xl:(x.length:Int)≤2 * start
theorem RP.start {s:As}{m:Nat}(h:s.count 255=m):RP s m 0 0 []:=⟨by omega,by omega,by omega,by omega,rfl,by simp [h],by simp⟩
theorem RP.idx {s:As}{m:Nat}{k start:Int}{x:As}(h:RP s m k start x)(hk:k < m):∃ i:Nat,Lib.indexByte (s.drop start.toNat) 255=i∧start+i < s.length∧RP s m (k+1) (start+i+1) (x++((s.take (start+i).toNat).drop start.toNat) ++ [255,255]):=by
 obtain⟨k0,k1,s0,s1,e,c,xl⟩:=h
 obtain⟨i,h1,h2,h3,h4,h5⟩:=O4 (s.drop start.toNat) (by omega)
 rw [List.length_drop] at h2
 rw [List.drop_drop,List.drop_drop] at h4
 rw [List.drop_drop] at h5
 have e1:(start+i).toNat=start.toNat+i:=by omega
 have e2:(start+i+1).toNat=start.toNat+(i+1):=by omega
 have et:(s.take (start+i).toNat).drop start.toNat=(s.drop start.toNat).take i:=by rw [e1,List.drop_take];congr 1;omega
 refine⟨i,h1,by omega,by omega,by omega,by omega,by omega,?_,?_,?_⟩
 ·rw [et,e2,← e]
  have:escape (s.drop start.toNat)=(s.drop start.toNat).take i++([255,255]++escape (s.drop (start.toNat+(i+1)))):=by
   conv=>lhs;rw [← List.take_append_drop i (s.drop start.toNat),Pn,h3,List.drop_drop,h4]
   rfl
  rw [this]
  simp only [List.append_assoc]
 ·rw [e2];omega
 ·rw [et];simp only [List.length_append,List.length_take,List.length_drop,List.length_cons,List.length_nil];omega
theorem RP.done {s:As}{m:Nat}{k start:Int}{x:As}(h:RP s m k start x)(hk:¬ k < m):x++s.drop start.toNat=escape s:=by
 have:=h.e
 rwa [NM _ (by have:=h.c;omega)] at this
/-! #### pages -/
structure Pg where
 shown:Int
 Bq:Bool
 ring:As
 cut:Bool
 deriving DecidableEq,Inhabited
def of (p:Aw):Pg:=⟨p.shown,p.Bq,p.ring,p.cut⟩
def Bk (p:Aw):Bool:=decide ((p.wait.len:Int)≤60) && decide ((p.ring.length:Int)≤700) && decide (0≤p.shown) && decide (p.shown≤200)
def put (x:Pg)(s:As):Pg:=if x.cut=true then x else if decide (700 - (x.ring.length:Int) < s.length)=true then { x with cut:=true } else { x with ring:=x.ring++s }
def send (p:Aw)(s:As):Pg × Int:=if (!Bk p)=true then(of p,2) else if p.cut=true then(of p,6) else(put (of p) s,0)
theorem SC {p:Aw}(h:Bk p=true)(s:As):(send p s).1=put (of p) s:=by
 unfold send
 rw [h]
 cases hc:p.cut<;>simp [put,of,hc]
theorem MH {x:Pg}{s:As}(h:x.ring.length≤700):(put x s).ring.length≤700:=by
 unfold put
 split
 ·exact h
 ·split
  ·exact h
  ·rename_i h1
   simp only [List.length_append]
   simp at h1;omega
theorem HY (x:Pg)(s:As):(put x s).shown=x.shown:=by
 unfold put;split
 ·rfl
 ·split<;>rfl
def QF:As:= [45,45,32,109,111,114,101,32,45,45,13,10]
def BQ (ht:Int):List As→Pg→Pg × List As
 | [],x=>(x,[])
 | s :: r,x=>if (x.Bq || x.cut)=true then(x,s :: r) else if (decide (0 < ht) && decide (ht≤x.shown))=true then(put { x with Bq:=true } QF,s :: r) else BQ ht r (put { x with shown:=min (x.shown+1) 200 } (escape s ++ [13,10]))
theorem RD {p:Aw}(h1:p.wait.len≤60)(h2:p.ring.length≤700)(h3:0≤p.shown)(h4:p.shown≤200):Bk p=true:=by
 simp only [Bk,Bool.and_eq_true,decide_eq_true_eq];omega
theorem Hq (p:Aw):Bk p=true↔p.wait.len≤60∧p.ring.length≤700∧0≤p.shown∧p.shown≤200:=by
 simp only [Bk,Bool.and_eq_true,decide_eq_true_eq];omega
structure FI (ht:Int)(qs:List As)(x0:Pg)(rest:List As)(h:Hd)(x:Pg):Prop where
 n:rest.length≤60
 hl:h.len=rest.length
 ring:x.ring.length≤700
 s0:0≤x.shown
 s1:x.shown≤200
 len:∀ s∈rest,s.length≤70368744000000
 e:BQ ht qs x0=BQ ht rest x
theorem FI.start {ht:Int}{qs:List As}{p:Aw}(hg:Bk p=true)(hl:p.wait.len=qs.length)(hs:∀ s∈qs,s.length≤70368744000000):FI ht qs (of p) qs p.wait (of p):=by
 obtain⟨h1,h2,h3,h4⟩:=(Hq p).1 hg
 exact⟨by omega,hl,h2,h3,h4,hs,rfl⟩
theorem FI.Bk {ht:Int}{qs rest:List As}{x0 x:Pg}{h:Hd}(hI:FI ht qs x0 rest h x){n:Hd}(hn:n.len≤60){a:Bool}{c:Bool}:Page.Bk ⟨n,x.shown,a,x.ring,c⟩=true:=RD hn hI.ring hI.s0 hI.s1
theorem FI.next {ht:Int}{qs r:List As}{s:As}{x0:Pg}{h h':Hd}{sh:Int}{az ct:Bool}{ring:As}(hI:FI ht qs x0 (s :: r) h ⟨sh,az,ring,ct⟩)(ha:az=false)(hc:ct=false)(hm:(decide (0 < ht) && decide (ht≤sh))=false)(hl:h'.len=r.length){y:Pg}
  (hy:y=(send ⟨h',min (sh+1) 200,az,ring,ct⟩ (escape s ++ [13,10])).1):FI ht qs x0 r h' y:=by
 obtain⟨h1,h2,h3,h4,h5,h6,h7⟩:=hI
 subst ha;subst hc
 simp only at h3 h4 h5
 have h1':=h1
 rw [List.length_cons] at h1'
 have hg:Page.Bk ⟨h',min (sh+1) 200,false,ring,false⟩=true:=RD (by rw [hl];omega) h3 (by simp only;omega) (by simp only;omega)
 rw [SC hg] at hy
 subst hy
 refine⟨by omega,hl,MH h3,?_,?_,fun t ht=>h6 t (by simp [ht]),?_⟩
 ·rw [HY];show 0≤min (sh+1) 200;omega
 ·rw [HY];show min (sh+1) 200≤200;omega
 ·rw [h7,BQ]
  simp only [Bool.or_self,Bool.false_eq_true,if_false,hm]
  rfl
theorem FI.asks {ht:Int}{qs r:List As}{s:As}{x0:Pg}{h:Hd}{sh:Int}{az ct:Bool}{ring:As}(hI:FI ht qs x0 (s :: r) h ⟨sh,az,ring,ct⟩)(ha:az=false)(hc:ct=false)(hm:(decide (0 < ht) && decide (ht≤sh))=true) :
  BQ ht qs x0=((send ⟨h,sh,true,ring,ct⟩ QF).1,s :: r):=by
 obtain⟨h1,h2,h3,h4,h5,h6,h7⟩:=hI
 have hg:Page.Bk ⟨h,sh,true,ring,ct⟩=true:=RD (by rw [h2];exact h1) h3 h4 h5
 rw [SC hg,h7,BQ,ha,hc]
 simp only [Bool.or_self,Bool.false_eq_true,if_false,hm,if_true]
 rfl
theorem FI.ends {ht:Int}{qs rest:List As}{x0 x:Pg}{h:Hd}(hI:FI ht qs x0 rest h x)(hc:rest = []∨x.Bq=true∨x.cut=true):BQ ht qs x0=(x,rest):=by
 rw [hI.e]
 cases rest with
 | nil=>rfl
 | cons s r=>
  have:(x.Bq || x.cut)=true:=by
   rcases hc with h | h | h
   ·cases h
   ·simp [h]
   ·simp [h]
  rw [BQ,if_pos this]
theorem FI.bp {ht:Int}{qs rest:List As}{x0:Pg}{h:Hd}{sh:Int}{az ct:Bool}{ring:As}(hI:FI ht qs x0 rest h ⟨sh,az,ring,ct⟩)(hc:(decide (0 < (h.len:Int)) && !az && !ct)=false):BQ ht qs x0=(⟨sh,az,ring,ct⟩,rest):=by
 refine hI.ends ?_
 have hl:=hI.hl
 cases rest with
 | nil=>exact .inl rfl
 | cons s r=>
  rw [List.length_cons] at hl
  have:decide (0 < (h.len:Int))=true:=decide_eq_true (by omega)
  rw [this] at hc
  cases az with
  | true=>exact .inr (.inl rfl)
  | false=>
   cases ct with
   | true=>exact .inr (.inr rfl)
   | false=>cases hc
theorem FI.hd {ht:Int}{qs rest:List As}{x0 x:Pg}{h h':Hd}(hI:FI ht qs x0 rest h x)(hl:h'.len=rest.length):FI ht qs x0 rest h' x:=⟨hI.n,hl,hI.ring,hI.s0,hI.s1,hI.len,hI.e⟩
theorem ZL (ht:Int)(qs:List As):∀ x:Pg,(BQ ht qs x).2.length≤qs.length:=by
 induction qs with
 | nil=>intro x;exact Nat.le_refl _
 | cons s r ih=>
  intro x
  rw [BQ]
  split
  ·exact Nat.le_refl _
  ·split
   ·exact Nat.le_refl _
   ·have:=ih (put { x with shown:=min (x.shown+1) 200 } (escape s ++ [13,10]))
    rw [List.length_cons];omega
@[reducible] def K (n:Int) (r:As):Nat:=(max 0 (min n (r.length:Int))).toNat
end Page
end Go.Ing
/- The plain functions of the land: what the program's package 'land' computes. -/
namespace Go.Ing
open Go
namespace AI
def J6 (w:AI):Nat→Ap→Bool
 | 0,_=>false
 | n+1,t=>if (!decide (t.Ca=2))=true then true else if (decide (n=0) || decide (t.at_ < 0) || decide (9≤t.at_))=true then false else J6 w n (w.AP.at t.at_)
def Ck (w:AI)(i:Int):Bool:=
 if (decide ((w.AP.at i).kind < 0) || decide (3 < (w.AP.at i).kind) || (decide ((w.AP.at i).kind=0) && (w.AP.at i).on) || decide ((w.AP.at i).at_ < 0))=true then false
 else if decide ((w.AP.at i).Ca=0)=true then decide ((w.AP.at i).at_ < 6) && !(decide ((w.AP.at i).kind=2) && (w.AP.at i).on)
 else if decide ((w.AP.at i).Ca=1)=true then decide ((w.AP.at i).at_ < 6) && (w.AN.at (w.AP.at i).at_).here
 else if decide ((w.AP.at i).Ca=2)=true then(if (decide (9≤(w.AP.at i).at_) || (!decide ((w.AP.at (w.AP.at i).at_).kind=3)) || (decide ((w.AP.at i).kind=2) && (w.AP.at i).on))=true then false else J6 w 10 (w.AP.at i))
 else false
def opposite (d:Int):Int:=(max 0 (min d 5)+3).tmod 6
def inside (w:AI)(box:Int):Nat→Int→Bool
 | 0,_=>false
 | n+1,i=>if decide (i=box)=true then true else if (decide (i < 0) || decide (9≤i) || !decide ((w.AP.at i).Ca=2))=true then false else inside w box n (w.AP.at i).at_
def Tt (w:AI)(i box:Int):Bool:=inside w box 10 i
def Jt (w:AI):Nat→Int→Bool→Int × Bool
 | 0,_,_=>(-1,false)
 | n+1,i,o=>
  if (decide (i < 0) || decide (9≤i))=true then(-1,false)
  else if decide ((w.AP.at i).Ca=0)=true then((w.AP.at i).at_,o)
  else if decide ((w.AP.at i).Ca=1)=true then(if (decide ((w.AP.at i).at_ < 0) || decide (6≤(w.AP.at i).at_))=true then(-1,false) else((w.AN.at (w.AP.at i).at_).room,o))
  else if decide ((w.AP.at i).Ca=2)=true then
   (if (decide (0≤(w.AP.at i).at_) && decide ((w.AP.at i).at_ < 9) && !(w.AP.at (w.AP.at i).at_).on)=true then Jt w n (w.AP.at i).at_ false else Jt w n (w.AP.at i).at_ o)
  else(-1,false)
def room (w:AI)(i:Int):Int × Bool:=Jt w 10 i true
def IC (r:Room)(d:Int):Bool:=decide (r.CV.at d < 0) || decide (6 < r.CV.at d) || (decide (r.CV.at d=0) && r.shut.at d)
def Dq (b:An):Bool:=decide (b.room < 0) || decide (6≤b.room) || decide (b.BP < 0) || decide (10 < b.BP) || decide (b.B2 < 0) || decide (6 < b.B2) || (!b.here && !decide (b.B2=0)) || b.here != decide (0 < b.BP)
def MI (w:AI)(k:Int):Bool:=CA 6 (fun d=>!IC (w.BV.at k) d) 6
def Bk (w:AI):Bool:=CA 6 w.MI 6 && (CA 6 (fun k=>!Dq (w.AN.at k)) 6 && CA 9 w.Ck 9)
def has (w:AI)(Ca at_:Int):List Int:=((List.range 9).map Int.ofNat).filter fun k=>decide ((w.AP.at k).Ca=Ca) && decide ((w.AP.at k).at_=at_)
end AI
end Go.Ing
/- The land as it begins. -/
namespace Go.Ing
open Go
namespace AI
def ex (a b c d e f:Int):Vector Int 6:=((((((Vector.replicate 6 default).put 0 a).put 1 b).put 2 c).put 3 d).put 4 e).put 5 f
def sh (i:Int):Vector Bool 6:=(Vector.replicate 6 default).put i true
def UI:Vector Room 6:=(((((((Vector.replicate 6 default).put 0 ⟨[104,101,97,114,116,104],false,(ex 2 3 4 0 0 5),sh 5⟩).put 1 ⟨[121,97,114,100],false,(ex 0 0 0 1 0 0),default⟩).put 2 ⟨[112,97,110,116,114,121],true,(ex 0 0 0 0 1 0),default⟩).put 3 ⟨[108,111,102,116],true,(ex 0 6 0 0 0 1),default⟩).put 4 ⟨[99,101,108,108,97,114],true,(ex 0 0 1 0 0 0),sh 2⟩).put 5 ⟨[97,116,116,105,99],false,(ex 0 0 0 0 4 0),default⟩)
def Rh:Vector Ap 9:=((((((((((Vector.replicate 9 default).put 0 ⟨[108,97,109,112],1,0,0,false⟩).put 1 ⟨[108,97,109,112],1,0,3,false⟩).put 2 ⟨[99,108,111,97,107],2,0,0,false⟩).put 3 ⟨[99,104,101,115,116],3,0,4,false⟩).put 4 ⟨[99,111,105,110],0,2,3,false⟩).put 5 ⟨[99,111,105,110],0,0,1,false⟩).put 6 ⟨[109,117,103],0,0,0,false⟩).put 7 ⟨[98,111,120],3,0,0,true⟩).put 8 ⟨[107,101,121],0,1,1,false⟩)
def TF:Nat→AI
 | 0=>default
 | k+1=>{ TF k with BV:=(TF k).BV.put k (UI.toList.getD k default) }
def Jy:Nat→AI
 | 0=>TF 6
 | k+1=>{ Jy k with AP:=(Jy k).AP.put k (Rh.toList.getD k default) }
def new:AI:={ Jy 9 with AN:=((Jy 9).AN.put 0 ⟨[99,97,116],true,true,0,10,0⟩).put 1 ⟨[114,97,116],true,false,4,3,0⟩ }
theorem Wp {k:Int}(h:0≤k):TF (k+1).toNat={ TF k.toNat with BV:=(TF k.toNat).BV.put k (UI.toList.getD k.toNat default) }:=by
 obtain⟨m,rfl⟩:=Int.eq_ofNat_of_zero_le h
 rfl
theorem WV {k:Int}(h:0≤k):Jy (k+1).toNat={ Jy k.toNat with AP:=(Jy k.toNat).AP.put k (Rh.toList.getD k.toNat default) }:=by
 obtain⟨m,rfl⟩:=Int.eq_ofNat_of_zero_le h
 rfl
theorem YW:new.Bk=true:=by kernel_rfl
end AI
end Go.Ing
/- Plain laws of lands. -/
namespace Go.Ing
open Go
namespace AI
variable {X:AI}
theorem Ol (h:X.Bk=true){i:Int}(h0:0≤i)(h9:i < 9):X.Ck i=true:=by
 unfold Bk at h
 rw [Bool.and_eq_true,Bool.and_eq_true] at h
 exact(Dk 9).1 h.2.2 i (by omega) h9
theorem Fa (h:X.Bk=true){b:Int}(h0:0≤b)(h9:b < 6):Dq (X.AN.at b)=false:=by
 unfold Bk at h
 rw [Bool.and_eq_true,Bool.and_eq_true] at h
 simpa using (Dk 6).1 h.2.1 b (by omega) h9
theorem KU (h:X.Bk=true){r d:Int}(h0:0≤r)(h6:r < 6)(d0:0≤d)(d6:d < 6):IC (X.BV.at r) d=false:=by
 unfold Bk at h
 rw [Bool.and_eq_true,Bool.and_eq_true] at h
 have:=(Dk 6).1 h.1 r (by omega) h6
 unfold MI at this
 simpa using (Dk 6).1 this d (by omega) d6
structure Rf (X:AI)(i:Int):Prop where
 k0:0≤(X.AP.at i).kind
 k3:(X.AP.at i).kind≤3
 plain:(X.AP.at i).kind=0→(X.AP.at i).on=false
 a0:0≤(X.AP.at i).at_
 Ca:((X.AP.at i).Ca=0∧(X.AP.at i).at_ < 6∧¬ ((X.AP.at i).kind=2∧(X.AP.at i).on=true)) ∨
  ((X.AP.at i).Ca=1∧(X.AP.at i).at_ < 6∧(X.AN.at (X.AP.at i).at_).here=true) ∨
  ((X.AP.at i).Ca=2∧(X.AP.at i).at_ < 9∧(X.AP.at (X.AP.at i).at_).kind=3∧¬ ((X.AP.at i).kind=2∧(X.AP.at i).on=true)∧X.J6 10 (X.AP.at i)=true)
theorem Sj {i:Int}(h:X.Ck i=true):Rf X i:=by
 unfold Ck at h
 split at h
 ·cases h
 ·rename_i h1
  simp only [Bool.or_eq_true,Bool.and_eq_true,decide_eq_true_eq,not_or,not_and,Bool.not_eq_true] at h1
  obtain⟨⟨⟨a1,a2⟩,a3⟩,a4⟩:=h1
  refine⟨by omega,by omega,a3,by omega,?_⟩
  split at h
  ·rename_i h2
   simp only [Bool.and_eq_true,decide_eq_true_eq,Bool.not_eq_true'] at h h2
   refine .inl ⟨h2,h.1,fun⟨x,y⟩=>?_⟩
   simp [x,y] at h
  ·rename_i h2
   split at h
   ·rename_i h3
    simp only [Bool.and_eq_true,decide_eq_true_eq] at h h3
    exact .inr (.inl ⟨h3,h.1,h.2⟩)
   ·split at h
    ·rename_i h4
     split at h
     ·cases h
     ·rename_i h5
      simp only [Bool.or_eq_true,Bool.and_eq_true,decide_eq_true_eq,not_or,not_and,Bool.not_eq_true,Bool.not_eq_true',decide_eq_false_iff_not,Decidable.not_not] at h4 h5
      refine .inr (.inr ⟨h4,by omega,h5.1.2,fun⟨x,y⟩=>?_,h⟩)
      have:=h5.2 x
      rw [y] at this;cases this
    ·cases h
def Out (X:AI):Nat→Int→Prop
 | 0,i=>(X.AP.at i).Ca≠2
 | n+1,i=>(X.AP.at i).Ca=2∧0≤(X.AP.at i).at_∧(X.AP.at i).at_ < 9∧Out X n (X.AP.at i).at_
theorem Lr:∀(n:Nat) (i:Int),X.J6 n (X.AP.at i)=true→∃ m,m < n∧Out X m i
 | 0,i,h=>by simp [J6] at h
 | n+1,i,h=>by
  unfold J6 at h
  split at h
  ·rename_i h1;exact⟨0,by omega,by simpa [Out] using h1⟩
  ·rename_i h1
   split at h
   ·cases h
   ·rename_i h2
    simp only [Bool.or_eq_true,decide_eq_true_eq,not_or] at h2
    obtain⟨m,hm,ho⟩:=Lr n _ h
    exact⟨m+1,by omega,by simpa using h1,by omega,by omega,ho⟩
theorem SY (h:X.Bk=true){i:Int}(h0:0≤i)(h9:i < 9):∃ n,n < 10∧Out X n i:=by
 have ht:=Sj (Ol h h0 h9)
 rcases ht.Ca with ⟨w,_⟩ | ⟨w,_⟩ | ⟨_,_,_,_,c⟩
 ·exact⟨0,by omega,by simp [Out,w]⟩
 ·exact⟨0,by omega,by simp [Out,w]⟩
 ·exact Lr 10 i c
theorem Out.uniq:∀ {n m:Nat} {i:Int},Out X n i→Out X m i→n=m
 | 0,0,_,_,_=>rfl
 | 0,m+1,i,h,k=>absurd k.1 h
 | n+1,0,i,h,k=>absurd h.1 k
 | n+1,m+1,i,h,k=>by rw [Out.uniq h.2.2.2 k.2.2.2]
theorem Wi (X:AI)(i:Int):X.Tt i i=true:=by simp [Tt,inside]
end AI
end Go.Ing
/- Engine: the strings of a slice within a struct that came in, as parts of its reading. -/
namespace Go.Ing
open Go Go.RowKit Go.ChangeShapes Go.WideShapes Go.ChangeAt
section
variable {H:Type} {enc:TypeId × Value→H} {P:Program} {w:World}
end
end Go.Ing
/- Engine: maps of the call's own, from integers. -/
namespace Go.Ing
open Go Go.MapKept
section
variable {P:Program} {n:Nat} {w0:World} {M:List Nat} {Q:Exit→Go.Act→World→Prop} {F F':List (Nat × Value)} {L L':List Af} {ops:Array Oper} {rest:List Oper}
end
end Go.Ing
/- The plain functions of sense. -/
namespace Go.Ing
open Go
namespace AI
def lit (w:AI)(r i:Int):Bool:=!(!decide ((w.AP.at i).kind=1) || !(w.AP.at i).on) && (decide ((w.room i).1=r) && (w.room i).2)
def Hf (w:AI)(r:Int):Bool:=if (decide (r < 0) || decide (6≤r))=true then false else if (!(w.BV.at r).Mt)=true then true else !(CA 9 (fun i=>!w.lit r i) 9)
def MN (w:AI)(b i:Int):Bool:=decide ((w.AP.at i).kind=2) && (w.AP.at i).on && decide ((w.AP.at i).Ca=1) && decide ((w.AP.at i).at_=b)
def hidden (w:AI)(b:Int):Bool:=!(CA 9 (fun i=>!w.MN b i) 9)
def Aq (w:AI)(b:Int):Bool:=decide (0≤b) && decide (b < 6) && (w.AN.at b).here
def I2 (w:AI)(a b:Int):Bool:=if (!w.Aq a || !w.Aq b)=true then false else if decide (a=b)=true then true else decide ((w.AN.at a).room=(w.AN.at b).room) && w.Hf (w.AN.at a).room && ((w.AN.at a).PT || !w.hidden b)
def cZ (k:Int):Bool:=decide (k=7) || decide (k=14) || decide (k=15)
def XH (w:AI)(b:Int)(e:Event):Bool:=decide (0≤e.other) && decide (e.other < 6) && !w.I2 b e.other
def Dv (w:AI)(b:Int)(e:Event):Int:=
 if (!w.Aq b)=true then 0
 else if decide (b=e.Dj)=true then(if (decide (e.other < 0) || decide (6≤e.other) || w.I2 b e.other)=true then 1 else 5)
 else if (decide (e.kind=16) || !decide ((w.AN.at b).room=e.room))=true then 0
 else if (!w.I2 b e.Dj)=true then(if (!cZ e.kind)=true then 0 else if w.XH b e=true then 1+2+4 else 1+2)
 else if w.XH b e=true then 1+4 else 1
def H2 (w:AI)(e:Event):Nat→Event
 | 0=>e
 | k+1=>{ H2 w e k with Hy:=(H2 w e k).Hy.put k (Dv w k (H2 w e k)) }
theorem Wd {w:AI}{e:Event}{k:Int}(h:0≤k):w.H2 e (k+1).toNat={ w.H2 e k.toNat with Hy:=(w.H2 e k.toNat).Hy.put k (w.Dv k (w.H2 e k.toNat)) }:=by
 obtain⟨m,rfl⟩:=Int.eq_ofNat_of_zero_le h
 rfl
/-! #### what is heard of who says -/
def dC:As:= [89,111,117,32,115,97,121,58,32,88]
def said (t:As)(k:Int):As:=if k≤9 then dC.take k.toNat else dC.take 9++t
/-! #### laws -/
theorem LM {w:AI}{a b:Int}(h:w.I2 a b=true):w.Aq a=true∧w.Aq b=true∧(a=b∨((w.AN.at a).room=(w.AN.at b).room∧w.Hf (w.AN.at a).room=true∧((w.AN.at a).PT=true∨w.hidden b=false))):=by
 unfold I2 at h
 split at h
 ·cases h
 ·rename_i h1
  simp at h1
  split at h
  ·rename_i h2
   exact⟨h1.1,h1.2, .inl (by simpa using h2)⟩
  ·simp at h
   exact⟨h1.1,h1.2, .inr ⟨h.1.1,h.1.2,h.2⟩⟩
theorem HV {w:AI}{b:Int}(h:w.Aq b=true):0≤b∧b < 6∧(w.AN.at b).here=true:=by
 simpa [Aq,and_assoc] using h
section
variable {w:AI} {b:Int} {e:Event}
end
end AI
end Go.Ing
/- Where a thing is at last: two roads. -/
namespace Go.Ing
open Go
def un (s:List Int)(j:Int):Nat:=if j∈s then 0 else 1
def S5 (s:List Int):Nat:=un s 0+un s 1+un s 2+un s 3+un s 4+un s 5+un s 6+un s 7+un s 8
theorem ZJ (s:List Int)(i j:Int)(hj:j≠i):un (s ++ [i]) j=un s j:=by simp [un,hj]
theorem bH (s:List Int)(i:Int):un (s ++ [i]) i=0:=by simp [un]
theorem aQ {s:List Int}{i:Int}(h:i ∉ s):un s i=1:=by simp [un,h]
theorem PG {s:List Int}{i:Int}(h:i ∉ s)(h0:0≤i)(h9:i < 9):S5 (s ++ [i])+1=S5 s:=by
 have hc:i=0∨i=1∨i=2∨i=3∨i=4∨i=5∨i=6∨i=7∨i=8:=by omega
 have hh:=bH s i
 have hn:=aQ h
 have g:∀ j:Int,j≠i→un (s ++ [i]) j=un s j:=fun j hj=>ZJ s i j hj
 unfold S5
 rcases hc with e | e | e | e | e | e | e | e | e
 ·have g1:=g 1 (by omega);have g2:=g 2 (by omega);have g3:=g 3 (by omega);have g4:=g 4 (by omega);have g5:=g 5 (by omega);have g6:=g 6 (by omega);have g7:=g 7 (by omega);have g8:=g 8 (by omega)
  rw [e] at hh hn g1 g2 g3 g4 g5 g6 g7 g8 ⊢;omega
 ·have g0:=g 0 (by omega);have g2:=g 2 (by omega);have g3:=g 3 (by omega);have g4:=g 4 (by omega);have g5:=g 5 (by omega);have g6:=g 6 (by omega);have g7:=g 7 (by omega);have g8:=g 8 (by omega)
  rw [e] at hh hn g0 g2 g3 g4 g5 g6 g7 g8 ⊢;omega
 ·have g0:=g 0 (by omega);have g1:=g 1 (by omega);have g3:=g 3 (by omega);have g4:=g 4 (by omega);have g5:=g 5 (by omega);have g6:=g 6 (by omega);have g7:=g 7 (by omega);have g8:=g 8 (by omega)
  rw [e] at hh hn g0 g1 g3 g4 g5 g6 g7 g8 ⊢;omega
 ·have g0:=g 0 (by omega);have g1:=g 1 (by omega);have g2:=g 2 (by omega);have g4:=g 4 (by omega);have g5:=g 5 (by omega);have g6:=g 6 (by omega);have g7:=g 7 (by omega);have g8:=g 8 (by omega)
  rw [e] at hh hn g0 g1 g2 g4 g5 g6 g7 g8 ⊢;omega
 ·have g0:=g 0 (by omega);have g1:=g 1 (by omega);have g2:=g 2 (by omega);have g3:=g 3 (by omega);have g5:=g 5 (by omega);have g6:=g 6 (by omega);have g7:=g 7 (by omega);have g8:=g 8 (by omega)
  rw [e] at hh hn g0 g1 g2 g3 g5 g6 g7 g8 ⊢;omega
 ·have g0:=g 0 (by omega);have g1:=g 1 (by omega);have g2:=g 2 (by omega);have g3:=g 3 (by omega);have g4:=g 4 (by omega);have g6:=g 6 (by omega);have g7:=g 7 (by omega);have g8:=g 8 (by omega)
  rw [e] at hh hn g0 g1 g2 g3 g4 g6 g7 g8 ⊢;omega
 ·have g0:=g 0 (by omega);have g1:=g 1 (by omega);have g2:=g 2 (by omega);have g3:=g 3 (by omega);have g4:=g 4 (by omega);have g5:=g 5 (by omega);have g7:=g 7 (by omega);have g8:=g 8 (by omega)
  rw [e] at hh hn g0 g1 g2 g3 g4 g5 g7 g8 ⊢;omega
 ·have g0:=g 0 (by omega);have g1:=g 1 (by omega);have g2:=g 2 (by omega);have g3:=g 3 (by omega);have g4:=g 4 (by omega);have g5:=g 5 (by omega);have g6:=g 6 (by omega);have g8:=g 8 (by omega)
  rw [e] at hh hn g0 g1 g2 g3 g4 g5 g6 g8 ⊢;omega
 ·have g0:=g 0 (by omega);have g1:=g 1 (by omega);have g2:=g 2 (by omega);have g3:=g 3 (by omega);have g4:=g 4 (by omega);have g5:=g 5 (by omega);have g6:=g 6 (by omega);have g7:=g 7 (by omega)
  rw [e] at hh hn g0 g1 g2 g3 g4 g5 g6 g7 ⊢;omega
namespace AI
def conv (w:AI)(r:Int × Int × Bool × Bool):Int × Bool:=
 if (r.2.2.2 && decide (r.1=1))=true then(if (decide (r.2.1 < 0) || decide (5 < r.2.1))=true then(-1,false) else((w.AN.at r.2.1).room,r.2.2.1))
 else if (!r.2.2.2)=true then(-1,false) else(r.2.1,r.2.2.1)
/-! #### inside -/
/-! #### the document's sense -/
end AI
end Go.Ing
/- How the land stands: plain laws. -/
namespace Go.Ing
open Go
namespace AI
def Px (X:AI)(Ca at_:Int)(n:Nat):List Int:=((List.range n).map Int.ofNat).filter fun k=>decide ((X.AP.at k).Ca=Ca) && decide ((X.AP.at k).at_=at_)
theorem Ts (X:AI)(Ca at_:Int):X.has Ca at_=X.Px Ca at_ (9:Int).toNat:=rfl
theorem Sl (X:AI)(Ca at_:Int)(n:Nat):(X.Px Ca at_ n).length≤n:=by
 unfold Px
 refine Nat.le_trans (List.length_filter_le _ _) ?_
 simp
theorem bU {X:AI}{Ca at_ k:Int}(h:0≤k)(c:(decide ((X.AP.at k).Ca=Ca) && decide ((X.AP.at k).at_=at_))=true):X.Px Ca at_ (k+1).toNat=X.Px Ca at_ k.toNat ++ [k]:=by
 obtain⟨n,rfl⟩:=Int.eq_ofNat_of_zero_le h
 rw [show((n:Int)+1).toNat=n+1 by omega,show((n:Int)).toNat=n by omega]
 unfold Px
 rw [List.range_succ,List.map_append,List.filter_append]
 congr 1
 simp only [List.map_cons,List.map_nil]
 exact(List.filter_cons_of_pos (p:=fun k=>decide ((X.AP.at k).Ca=Ca) && decide ((X.AP.at k).at_=at_)) (a:=(n:Int)) (l:= []) c).trans rfl
theorem bV {X:AI}{Ca at_ k:Int}(h:0≤k)(c:(decide ((X.AP.at k).Ca=Ca) && decide ((X.AP.at k).at_=at_))=false):X.Px Ca at_ (k+1).toNat=X.Px Ca at_ k.toNat:=by
 obtain⟨n,rfl⟩:=Int.eq_ofNat_of_zero_le h
 rw [show((n:Int)+1).toNat=n+1 by omega,show((n:Int)).toNat=n by omega]
 unfold Px
 rw [List.range_succ,List.map_append,List.filter_append]
 refine Eq.trans (congrArg _ ?_) (List.append_nil _)
 simp only [List.map_cons,List.map_nil]
 exact(List.filter_cons_of_neg (p:=fun k=>decide ((X.AP.at k).Ca=Ca) && decide ((X.AP.at k).at_=at_)) (a:=(n:Int)) (l:= []) (fun e=>by have:=c.symm.trans e;cases this)).trans rfl
/-! #### good, as the document has it -/
/-! #### the land as the document makes it -/
def names:List As:= [[104,101,97,114,116,104],[121,97,114,100],[112,97,110,116,114,121],[108,111,102,116],[99,101,108,108,97,114],[97,116,116,105,99]]
end AI
end Go.Ing
/- Engine: the program's own variables, as they are laid when a call begins; the decimal numeral. -/
namespace Go.Ing
open Go
def GV (g:Nat)(vs:List Value)(w:World):Prop:=∃ t fz,w.heap[g]?=some (.cells vs.toArray t fz)
theorem GV.YJ {g:Nat}{vs:List Value}{w w':World}(h:GV g vs w)(ho:∀ k,k < w.heap.size→w'.heap[k]?=w.heap[k]?):GV g vs w':=by
 obtain⟨t,fz,e⟩:=h
 have hg:g < w.heap.size:=by
  rcases Nat.lt_or_ge g w.heap.size with h' | h'
  ·exact h'
  ·rw [Array.getElem?_eq_none h'] at e;cases e
 exact⟨t,fz,(ho g hg).trans e⟩
theorem GV.st {g:Nat}{vs:List Value}{w0 w:World}{L:List Af}(h:GV g vs w0)(hS:St w0 [] w L):GV g vs w:=h.YJ fun k hk=>hS.HJ k hk (by simp)
theorem GV.Jl {g:Nat}{vs:List Value}{w0 w:World}(h:GV g vs w0)(hK:B9 w0 w):GV g vs w:=h.YJ hK.HJ
section
variable {P:Program} {n:Nat} {w0:World} {F:List (Nat × Value)} {L:List Af}
theorem Rb {T U g o:Nat}{x:Operand}{v:Value}{vs:List Value}(hg:GV g vs w0)(hx:ev F x=some (.pointer (some ⟨g,o,none⟩)))(hT:P2 P T)(hv:vs[o]?=some v):PS P n w0 [] (.load T x) U F L v L:=by
 intro a w hF hS
 obtain⟨t,fz,e⟩:=hg.st hS
 have hc:w.cell? ⟨g,o,none⟩=some v:=(H7 e).trans hv
 exact⟨w,by simp [execOp,hF.ev hx,Instr.loadAt,Instr.sureAddr,loadVar,hT w,hc],rfl,rfl⟩
end
theorem Tc {P:Program}{w:World}{name:String}{g:Nat}{cs:Array Value}{vs:List Value}(hg:P.globalNamed name=some g)(h:w.var? P name=some cs)(e:cs.toList=vs):GV g vs w:=by
 unfold World.var? at h
 rw [hg] at h
 simp only [Option.bind_some] at h
 split at h
 ·rename_i c t fz hh
  injection h with h
  subst h
  exact⟨t,fz,by rw [hh,← e]⟩
 ·cases h
theorem UQ {P:Program}{w:World}{name:String}{g:Nat}{vs:List Value}(hg:P.globalNamed name=some g)(h:GV g vs w):w.var? P name=some vs.toArray:=by
 obtain⟨t,fz,e⟩:=h
 unfold World.var?
 rw [hg]
 simp only [Option.bind_some]
 rw [e]
theorem No {P:Program}{w:World}{name:String}{d:DataW Unit}:∀(laid:List (String × DataW Unit)) (ps:List MemPlace),DataW.LaidVars P w laid ps→(name,d)∈laid →
  ∃ g t cs fuel p,P.globalNamed name=some g∧(P.globals[g]?).map (·.type)=some t∧w.var? P name=some cs∧DataW.trod (fun _=>()) P w 0 (fun _=>true) false fuel t cs.toList=some (d,p)
 | [],_,_,hm=>by cases hm
 | (n,e) :: r,ps,h,hm=>by
  obtain⟨g,t,cs,fuel,p,q,h1,h2,h3,h4,h5,_⟩:=h
  rcases List.mem_cons.1 hm with hm | hm
  ·injection hm with e1 e2
   subst e1;subst e2
   exact⟨g,t,cs,fuel,p,h1,h2,h3,h4⟩
  ·exact No r q h5 hm
def Ly {H:Type}(ss:List As):DataW H:= .agg (ss.map fun s=> .lit (.string s))
theorem Ph {H:Type}{enc:TypeId × Value→H}{P:Program}{w:World}{base:Nat}{sp:Nat→Bool}{held:Bool}{fuel:Nat}{t e:TypeId}{n:Nat}{cs:List Value}{zs:List As}{p:List MemPlace}
  (ht:P.underlying t=some (.array n e)) (he:P.underlying e=some .string) (hce:P.cellsOf e=1) (hct:P.cellsOf t=n)
  (h:DataW.trod enc P w base sp held fuel t cs=some (Ly zs,p)):cs=zs.map BW:=by
 obtain⟨xs,m,_,hx,hl,hlen,hf⟩:=DataW.trod_array ht h
 have hxs:xs.map (·.1)=zs.map fun z=>(DataW.lit (.string z):DataW H):=by
  have:=congrArg Prod.fst hx
  simpa [Ly] using this.symm
 have hzl:zs.length=n:=by
  have:=congrArg List.length hxs
  simp at this
  omega
 apply List.ext_getElem?
 intro i
 by_cases hi:i < n
 ·have h1:=hf i hi
  rw [hce] at h1
  have h2:xs[i]?=some xs[i]:=List.getElem?_eq_getElem (by omega)
  rw [h2] at h1
  obtain⟨s,hc,e1,_⟩:=DataW.trod_string he h1
  have h3:cs[i]?=some (.string s):=by
   have:=congrArg (·[0]?) hc
   simpa [List.getElem?_take,List.getElem?_drop] using this
  have h4:(xs.map (·.1))[i]?=some (DataW.lit (.string s.data.toList):DataW H):=by
   rw [List.getElem?_map,h2,e1];rfl
  rw [hxs] at h4
  simp only [List.getElem?_map,Option.map_eq_some_iff,DataW.lit.injEq,Lit.string.injEq] at h4
  obtain⟨z',hz',rfl⟩:=h4
  rw [h3,List.getElem?_map,hz']
  rfl
 ·rw [List.getElem?_eq_none (by omega),List.getElem?_eq_none (by simp;omega)]
theorem Zr {P:Program}{w:World}{laid:List (String × DataW Unit)}{name:String}{g:Nat}{t e:TypeId}{n:Nat}{ss:List As}(hL:laidMet P laid w)(hm:(name,Ly ss)∈laid)(hg:P.globalNamed name=some g)(hty:(P.globals[g]?).map (·.type)=some t)(ht:P.underlying t=some (.array n e))(he:P.underlying e=some .string)(hce:P.cellsOf e=1)(hct:P.cellsOf t=n):GV g (ss.map BW) w:=by
 obtain⟨ps,hv,_⟩:=hL
 obtain⟨g',t',cs,fuel,p,hg',ht',hvar,hd⟩:=No _ _ hv hm
 obtain rfl:=Option.some.inj (hg.symm.trans hg')
 obtain rfl:=Option.some.inj (hty.symm.trans ht')
 exact Tc hg hvar (Ph ht he hce hct hd)
theorem Zc {P:Program}{w:World}{laid:List (String × DataW Unit)}{name:String}{g:Nat}{t e:TypeId}{n:Nat}{k:IntKind}{zs:List Int}(hL:laidMet P laid w)(hm:(name,Lib.tabData k zs)∈laid)(hg:P.globalNamed name=some g)(hty:(P.globals[g]?).map (·.type)=some t)(ht:P.underlying t=some (.array n e))(he:P.underlying e=some (.int k))(hce:P.cellsOf e=1)(hct:P.cellsOf t=n):GV g (zs.map fun z=>Value.int k z) w:=by
 obtain⟨ps,hv,_⟩:=hL
 obtain⟨g',t',cs,fuel,p,hg',ht',hvar,hd⟩:=No _ _ hv hm
 obtain rfl:=Option.some.inj (hg.symm.trans hg')
 obtain rfl:=Option.some.inj (hty.symm.trans ht')
 exact Tc hg hvar (Lib.cells_of_tab ht he hce hct hd)
def GO:List Value:=Lib.pow10Tab.map fun z=>Value.int .u64 z
theorem Ee.Ze {P:Program}{f:FuncId}{args:Array Value}{w:World}{v:Value}(h:Calls P f args w fun e w'=>e = .returned v∧∃ k os,w'=Sort.grow (w.drewN k) os):Ee P f args w fun v' w'=>v'=v∧B9 w w':=by
 refine Calls.mono h fun e w' ⟨e1,k,os,e2⟩=>⟨v,e1,rfl,?_⟩
 subst e2
 refine⟨rfl,rfl,rfl,?_,fun i hi=>?_⟩
 ·show w.heap.size≤(w.heap++os).size
  rw [Array.size_append];omega
 ·show(w.heap++os)[i]?=w.heap[i]?
  rw [Array.getElem?_append_left hi]
section
variable {P:Program} {n:Nat} {w0:World} {M:List Nat} {Q:Exit→Go.Act→World→Prop} {F:List (Nat × Value)} {L:List Af}
theorem SL {d:Nat}{z:Value}(hz:lk d F=some z):Sub F ((d,z) :: F):=by
 intro k v hk
 simp only [lk] at hk
 cases e:Nat.beq k d with
 | true=>
  have e':k=d:=Nat.eq_of_beq_eq_true e
  subst e'
  rw [e] at hk
  rw [hz];exact hk
 | false=>rw [e] at hk;exact hk
theorem Yt {d t:Nat}{z u:Value}(ht:lk t F=none):Sub ((d,z) :: (t,u) :: F) ((d,z) :: F):=by
 intro k v hk
 simp only [lk] at hk ⊢
 cases e:Nat.beq k d with
 | true=>rw [e] at hk;exact hk
 | false=>
  rw [e] at hk
  cases e2:Nat.beq k t with
  | true=>
   have e':k=t:=Nat.eq_of_beq_eq_true e2
   subst e'
   have hk':lk k F=some v:=hk
   rw [ht] at hk';cases hk'
  | false=>exact hk
theorem Q7 {α:Type}(f:α→Value){d id:Nat}{c v:Operand}{T:TypeId}{pos:String}{Cs:Array Edge}{b:Bool}{s1 s0 s:α}(hc:ev F c=some (.bool b))(hd:Nat.blt d n=true)(hv:ev F v=some (f s1))(hz:lk d F=some (f s0))(hs:(if b=true then s1 else s0)=s)
  (k:GQ n w0 M Q .normal ((d,f s) :: F) L):G P n w0 M (.cond c (.region id [⟨some d, .assign v,T,pos,Cs,none⟩].toArray false) .skip) Q F L:=by
 refine PZ hc (fun h=>?_) (fun h=>?_)
 ·rw [h,if_pos rfl] at hs
  subst hs
  refine AK (Ka hd (A1 hv) (AT k))
 ·rw [h,if_neg (by decide)] at hs
  subst hs
  exact Aa fun a w hF hS=>k a w (hF.sub (SL hz)) hS
theorem aZ {α:Type}(f:α→Value){d t id:Nat}{c v:Operand}{T T':TypeId}{pos pos':String}{Cs aft':Array Edge}{b:Bool}{s1 s0 s:α}(hc:ev F c=some (.bool b))(hd:Nat.blt d n=true)(htn:Nat.blt t n=true)(ht:lk t F=none)(hv:ev F v=some (f s1))(hz:lk d F=some (f s0))(hs:(if b=true then s1 else s0)=s)
  (k:GQ n w0 M Q .normal ((d,f s) :: F) L):G P n w0 M (.cond c (.region id [⟨some t, .move v,T,pos,Cs,none⟩,⟨some d, .assign (.tmp t),T',pos',aft',none⟩].toArray false) .skip) Q F L:=by
 refine PZ hc (fun h=>?_) (fun h=>?_)
 ·rw [h,if_pos rfl] at hs
  subst hs
  refine AK (Ka htn (AD hv) (Ka hd (A1 (by simp [ev,lk])) (AT fun a w hF hS=>k a w (hF.sub (Yt ht)) hS)))
 ·rw [h,if_neg (by decide)] at hs
  subst hs
  exact Aa fun a w hF hS=>k a w (hF.sub (SL hz)) hS
end
section
open Go.RowKit Go.ChangeShapes Go.WideShapes Go.ChangeAt
variable {H:Type} {enc:TypeId × Value→H} {P:Program} {w:World}
end
end Go.Ing
/- What is told of an event: plain functions. -/
namespace Go.Ing
open Go
namespace AI
def G2:List As:= [[110,111,114,116,104],[101,97,115,116],[117,112],[115,111,117,116,104],[119,101,115,116],[100,111,119,110],[108,111,111,107],[103,101,116],[100,114,111,112],[112,117,116],[103,105,118,101],[115,97,121],[111,112,101,110],[99,108,111,115,101],[108,105,103,104,116],[100,111,117,115,101],[119,101,97,114],[100,111,102,102],[104,105,116],[105,110,118,101,110,116,111,114,121],[113,117,105,116]]
def DT:List Value:=G2.map BW
theorem PV {d:Int}(h0:0≤d)(h6:d < 6):DT[0+d.toNat * 1]?=some (BW (G2.getD d.toNat [])):=by
 have:d=0∨d=1∨d=2∨d=3∨d=4∨d=5:=by omega
 rcases this with rfl | rfl | rfl | rfl | rfl | rfl<;>rfl
def called (d:Int):As:=if (decide (d < 0) || decide (6≤d))=true then [] else G2.getD d.toNat []
theorem JN (d:Int):(called d).length≤20:=by
 unfold called
 split
 ·simp
 ·rename_i h
  have:d=0∨d=1∨d=2∨d=3∨d=4∨d=5:=by simp at h;omega
  rcases this with rfl | rfl | rfl | rfl | rfl | rfl<;>decide
def form (z:Int):As × As:=
 if decide (z=1)=true then([89,111,117,32,103,111,32,68,46],[65,32,103,111,101,115,32,68,46])
 else if decide (z=2)=true then([],[65,32,99,111,109,101,115,32,102,114,111,109,32,68,46])
 else if decide (z=3)=true then([89,111,117,32,103,101,116,32,116,104,101,32,84,46],[65,32,103,101,116,115,32,97,32,84,46])
 else if decide (z=4)=true then([89,111,117,32,100,114,111,112,32,116,104,101,32,84,46],[65,32,100,114,111,112,115,32,97,32,84,46])
 else if decide (z=5)=true then([89,111,117,32,112,117,116,32,116,104,101,32,84,32,105,110,116,111,32,116,104,101,32,88,46],[65,32,112,117,116,115,32,97,32,84,32,105,110,116,111,32,97,32,88,46])
 else if decide (z=6)=true then([89,111,117,32,103,105,118,101,32,116,104,101,32,84,32,116,111,32,79,46],[65,32,103,105,118,101,115,32,97,32,84,32,116,111,32,79,46])
 else if decide (z=7)=true then([89,111,117,32,115,97,121,58,32,88],[65,32,115,97,121,115,58,32,88])
 else if decide (z=8)=true then([89,111,117,32,111,112,101,110,32,116,104,101,32,84,46],[65,32,111,112,101,110,115,32,97,32,84,46])
 else if decide (z=9)=true then([89,111,117,32,99,108,111,115,101,32,116,104,101,32,84,46],[65,32,99,108,111,115,101,115,32,97,32,84,46])
 else if decide (z=10)=true then([89,111,117,32,108,105,103,104,116,32,116,104,101,32,84,46],[65,32,108,105,103,104,116,115,32,97,32,84,46])
 else if decide (z=11)=true then([89,111,117,32,100,111,117,115,101,32,116,104,101,32,84,46],[65,32,100,111,117,115,101,115,32,97,32,84,46])
 else if decide (z=12)=true then([89,111,117,32,112,117,116,32,111,110,32,116,104,101,32,84,46],[65,32,112,117,116,115,32,111,110,32,97,32,84,46])
 else if decide (z=13)=true then([89,111,117,32,116,97,107,101,32,111,102,102,32,116,104,101,32,84,46],[65,32,116,97,107,101,115,32,111,102,102,32,97,32,84,46])
 else if decide (z=14)=true then([89,111,117,32,104,105,116,32,79,32,102,111,114,32,78,46],[65,32,104,105,116,115,32,79,32,102,111,114,32,78,46])
 else if decide (z=15)=true then([89,111,117,32,100,105,101,46],[65,32,100,105,101,115,46])
 else if decide (z=16)=true then([88],[])
 else if decide (z=17)=true then([66,101,32,119,101,108,99,111,109,101,46],[65,32,97,114,114,105,118,101,115,46])
 else if decide (z=18)=true then([],[65,32,102,97,100,101,115,46])
 else([],[])
theorem YV {z:Int}(h:¬ (1≤z∧z≤18)):form z=([],[]):=by
 unfold form
 rw [if_neg (show ¬ decide (z=1)=true by simp;omega)]
 rw [if_neg (show ¬ decide (z=2)=true by simp;omega)]
 rw [if_neg (show ¬ decide (z=3)=true by simp;omega)]
 rw [if_neg (show ¬ decide (z=4)=true by simp;omega)]
 rw [if_neg (show ¬ decide (z=5)=true by simp;omega)]
 rw [if_neg (show ¬ decide (z=6)=true by simp;omega)]
 rw [if_neg (show ¬ decide (z=7)=true by simp;omega)]
 rw [if_neg (show ¬ decide (z=8)=true by simp;omega)]
 rw [if_neg (show ¬ decide (z=9)=true by simp;omega)]
 rw [if_neg (show ¬ decide (z=10)=true by simp;omega)]
 rw [if_neg (show ¬ decide (z=11)=true by simp;omega)]
 rw [if_neg (show ¬ decide (z=12)=true by simp;omega)]
 rw [if_neg (show ¬ decide (z=13)=true by simp;omega)]
 rw [if_neg (show ¬ decide (z=14)=true by simp;omega)]
 rw [if_neg (show ¬ decide (z=15)=true by simp;omega)]
 rw [if_neg (show ¬ decide (z=16)=true by simp;omega)]
 rw [if_neg (show ¬ decide (z=17)=true by simp;omega)]
 rw [if_neg (show ¬ decide (z=18)=true by simp;omega)]
theorem Tl {P:As × As→Prop}(h0:P ([],[]))(h1:P (form 1))(h2:P (form 2))(h3:P (form 3))(h4:P (form 4))(h5:P (form 5))(h6:P (form 6))(h7:P (form 7))(h8:P (form 8))(h9:P (form 9))(h10:P (form 10))(h11:P (form 11))(h12:P (form 12))(h13:P (form 13))(h14:P (form 14))(h15:P (form 15))(h16:P (form 16))(h17:P (form 17))(h18:P (form 18))(z:Int):P (form z):=by
 by_cases h:1≤z∧z≤18
 ·have:z=1∨z=2∨z=3∨z=4∨z=5∨z=6∨z=7∨z=8∨z=9∨z=10∨z=11∨z=12∨z=13∨z=14∨z=15∨z=16∨z=17∨z=18:=by omega
  rcases this with rfl | rfl | rfl | rfl | rfl | rfl | rfl | rfl | rfl | rfl | rfl | rfl | rfl | rfl | rfl | rfl | rfl | rfl
  all_goals assumption
 ·rw [YV h];exact h0
theorem R7 (z:Int):(form z).1.length≤30∧(form z).2.length≤30:=
 Tl (P:=fun x=>x.1.length≤30∧x.2.length≤30) (by decide) (by decide) (by decide) (by decide) (by decide) (by decide) (by decide) (by decide) (by decide) (by decide) (by decide) (by decide) (by decide) (by decide) (by decide) (by decide) (by decide) (by decide) (by decide) z
def Sf (x k:Int):Int:=IntKind.i64.wrap ((BitVec.ofInt IntKind.i64.bits x &&& BitVec.ofInt IntKind.i64.bits k).toNat:Int)
def Uz:As:= [115,111,109,101,111,110,101]
def fc:As:= [121,111,117]
def single (t:As)(i:Int):Bool:=(decide (i=0) || decide (((t.getD (i - 1).toNat 0).toNat:Int)=32)) && (decide (i+1=(t.length:Int)) || decide (((t.getD (i+1).toNat 0).toNat:Int)=32) || decide (((t.getD (i+1).toNat 0).toNat:Int)=46))
def piece (e:Event)(HZ Ea t:As)(i:Int):As:=
 if (!single t i)=true then [t.getD i.toNat 0]
 else if decide (((t.getD i.toNat 0).toNat:Int)=65)=true then HZ
 else if decide (((t.getD i.toNat 0).toNat:Int)=79)=true then Ea
 else if decide (((t.getD i.toNat 0).toNat:Int)=84)=true then e.Bw
 else if decide (((t.getD i.toNat 0).toNat:Int)=68)=true then called e.dir
 else if decide (((t.getD i.toNat 0).toNat:Int)=88)=true then e.text
 else if decide (((t.getD i.toNat 0).toNat:Int)=78)=true then Lib.itoa e.n
 else [t.getD i.toNat 0]
def told (e:Event)(HZ Ea t:As):Nat→As
 | 0=> []
 | k+1=>told e HZ Ea t k++piece e HZ Ea t k
theorem Fo {e:Event}{HZ Ea t:As}{k:Int}(h:0≤k):told e HZ Ea t (k+1).toNat=told e HZ Ea t k.toNat++piece e HZ Ea t k:=by
 obtain⟨m,rfl⟩:=Int.eq_ofNat_of_zero_le h
 rfl
def ES (e:Event)(b:Int):As:=if decide (b=e.Dj)=true then(form e.kind).1 else(form e.kind).2
def Io (e:Event)(b:Int):As:=if (!decide (Sf (e.Hy.at b) 2=0))=true then Uz else e.HZ
def XN (e:Event)(b:Int):As:=if (!decide (Sf (e.Hy.at b) 4=0))=true then Uz else e.Ea
def Gb (e:Event)(b:Int):As:=if decide (b=e.other)=true then fc else XN e b
def tell (e:Event)(b:Int):As × Bool:=
 if (decide (b < 0) || decide (6≤b) || decide (Sf (e.Hy.at b) 1=0))=true then([],false)
 else if decide (ES e b = [])=true then([],false)
 else(told e (Io e b) (Gb e b) (ES e b) (ES e b).length,true)
structure Small (e:Event):Prop where
 HZ:e.HZ.length≤2000000
 Ea:e.Ea.length≤2000000
 Bw:e.Bw.length≤2000000
 text:e.text.length≤2000000
 n0:-9223372036854775808≤e.n
 n1:e.n≤9223372036854775807
theorem PA (e:Event)(b:Int):(ES e b).length≤30:=by
 unfold ES;split;exact(R7 _).1;exact(R7 _).2
theorem Py {e:Event}(h:Small e)(b:Int):(Io e b).length≤2000000:=by
 unfold Io;split;decide;exact h.HZ
theorem Od {e:Event}(h:Small e)(b:Int):(Gb e b).length≤2000000:=by
 unfold Gb XN;split;decide;split;decide;exact h.Ea
theorem WE {e:Event}(h:Small e){HZ Ea:As}(h1:HZ.length≤2000000)(h2:Ea.length≤2000000)(t:As)(i:Int):(piece e HZ Ea t i).length≤2000000:=by
 have h3:=h.Bw;have h4:=h.text;have h5:=JN e.dir;have h6:=Lib.itoa_length_le e.n h.n0 h.n1
 unfold piece
 repeat' split
 all_goals first | omega | (simp only [List.length_cons,List.length_nil];omega)
theorem OL {e:Event}(h:Small e){HZ Ea:As}(h1:HZ.length≤2000000)(h2:Ea.length≤2000000)(t:As):∀ n,(told e HZ Ea t n).length≤n * 2000000
 | 0=>by simp [told]
 | n+1=>by
  have:=OL h h1 h2 t n
  have:=WE h h1 h2 t n
  simp only [told,List.length_append];omega
end AI
end Go.Ing
/- What is told: two roads, and whom it does not name. -/
namespace Go.Ing
open Go
namespace AI
/-! #### said outright, kind by kind -/
section
variable {e:Event} {a o:As}
end
end AI
end Go.Ing
/- Engine: slices that are made, and written element by element. -/
namespace Go.Ing
open Go
theorem TX {C cs:List Value}{o i:Nat}{v:Value}(hc:(C.drop o).take cs.length=cs)(hl:o+cs.length≤C.length)(hi:i < cs.length):((DU C (o+i) [v]).drop o).take (cs.set i v).length=cs.set i v:=by
 apply List.ext_getElem?
 intro j
 rw [List.getElem?_take,List.getElem?_drop,D7 (by simp;omega),List.length_set]
 by_cases h1:j < cs.length
 ·rw [if_pos h1,List.getElem?_set]
  by_cases h2:i=j
  ·subst h2
   rw [if_neg (by omega),if_pos (by simp),if_pos rfl,if_pos hi]
   simp
  ·rw [if_neg h2]
   have h3:cs[j]?=C[o+j]?:=by
    conv=>lhs;rw [← hc]
    rw [List.getElem?_take,if_pos h1,List.getElem?_drop]
   rw [h3]
   split
   ·rfl
   ·split
    ·rename_i h4 h5;exfalso;simp at h5;omega
    ·rfl
 ·rw [if_neg h1,List.getElem?_eq_none (by simp;omega)]
section
variable {P:Program} {n:Nat} {w0:World} {M:List Nat} {Q:Exit→Go.Act→World→Prop} {F F':List (Nat × Value)} {L L':List Af} {ops:Array Oper} {rest:List Oper}
theorem Ye {T U E i:Nat}{h:Hd}{cs:List Value}{x y:Operand}{v:Value}(hx:ev F x=some (h.ptr i 1 0))(hy:ev F y=some v)(hv:v.cells = [v].toArray)(h1:v.oneCell'=true)(hT:Sz P T 1)(hi:i < cs.length)(hL:LZ L (Af.own h E 1 cs) (Af.own h E 1 (cs.set i v)) L'):PU P n w0 M (.store T x y) U F L L':=by
 intro a w hF hS
 rcases hS.ok _ hL.mem with ⟨_,rfl⟩ | ⟨b,o,C,fz,e1,e2,e3,e4,e5,e6,e7,e8⟩
 ·simp at hi
 ·have hlen:o+cs.length≤C.length:=by have:=Nat.mul_le_mul_right 1 e6;omega
  obtain⟨w',s1,s2,s3,s4,s5,s6,s7⟩:=Ig (P:=P) (o:=o+i) [v] w C 0 e3 (fun u hu=>by simp at hu;subst hu;exact h1) (by simp;omega) e4
  refine⟨w',?_,hS.D5 hL s5 s6 s7 (by omega) (fun k _ hk=>s3 k (by simpa [Af.own,e1] using hk)) ?_ ?_⟩
  ·rw [Hd.RB e1] at hx
   simp only [Nat.mul_one,Nat.add_zero] at hx
   simp only [execOp,hF.ev hx,hF.ev hy,Instr.storeAt,Instr.sureAddr,storeVar,hv]
   simp [hT w,s1]
  ·refine .inr ⟨b,o,DU C (o+i) [v],fz,e1,by omega,by simpa using s2,?_,?_,e6,?_,?_⟩
   ·rw [Ec (by simp;omega)];exact e4
   ·rw [Ec (by simp;omega)];exact e5
   ·rw [List.length_set];exact e7
   ·exact TX e8 hlen hi
  ·intro k hk
   simp [Af.own,e1] at hk
   subst hk
   exact⟨by omega, .inl (by simp [Af.own,e1])⟩
theorem Gx {α:Type}{e:α→List Value}{f:α→Value}(he:∀ x,e x = [f x]):∀ xs:List α,xs.flatMap e=xs.map f
 | []=>rfl
 | x :: r=>by rw [List.flatMap_cons,he,Gx he r];rfl
theorem Sq {α:Type}{e:α→List Value}{f:α→Value}(he:∀ x,e x = [f x])(xs:List α)(i:Nat)(x:α):(xs.flatMap e).set i (f x)=(xs.set i x).flatMap e:=by
 rw [Gx he,Gx he,List.map_set]
theorem OB {T U E i:Nat}{h:Hd}{xs:List As}{s:As}{x y:Operand}(hx:ev F x=some (h.ptr i 1 0))(hy:ev F y=some (BW s))(hT:Sz P T 1)(hi:i < xs.length)(hL:LZ L (Af.own h E 1 (xs.flatMap A9)) (Af.own h E 1 ((xs.set i s).flatMap A9)) L'):PU P n w0 M (.store T x y) U F L L':=
 Ye (cs:=xs.flatMap A9) hx hy rfl rfl hT (by rw [Gx (e:=A9) (f:=BW) (fun _=>rfl),List.length_map];exact hi) (by rw [Sq (e:=A9) (f:=BW) (fun _=>rfl)];exact hL)
theorem ao {T U E i:Nat}{h:Hd}{xs:As}{z:Int}{x y:Operand}(hx:ev F x=some (h.ptr i 1 0))(hy:ev F y=some (.int .u8 z))(hz:0≤z∧z≤255)(hT:Sz P T 1)(hi:i < xs.length)(hL:LZ L (Af.own h E 1 (xs.flatMap DV)) (Af.own h E 1 ((xs.set i (u8 z)).flatMap DV)) L'):PU P n w0 M (.store T x y) U F L L':=
 Ye (cs:=xs.flatMap DV) hx hy rfl rfl hT (by rw [F7,List.length_map];exact hi) (by
  have:=Sq (e:=DV) (f:=fun c=> .int .u8 (c.toNat:Int)) (fun _=>rfl) xs i (u8 z)
  rw [TO hz.1 hz.2] at this
  rw [this];exact hL)
theorem Wr {d:Nat}{t E:TypeId}{T:TypeId}{pos:String}{Cs:Array Edge}{x y:Operand}{m:Int}(hd:Nat.blt d n=true)(hu:P.underlying t=some (.slice E))(hs:Sz P E 1)(hz:ZV P E (.string ⟨#[]⟩))(hb:BY P E 16)(hx:ev F x=some (.int .i64 m))(hy:ev F y=some (.int .i64 m))(h0:0≤m)(hm:m≤17592186044416)
  (k:∀ b:Nat,GL P n w0 M ops Q rest ((d,Hd.val ⟨some ⟨b,0,none⟩,m.toNat,m.toNat⟩) :: F) (Af.own ⟨some ⟨b,0,none⟩,m.toNat,m.toNat⟩ E 1 ((List.replicate m.toNat ([]:As)).flatMap A9) :: L)):GL P n w0 M ops Q (⟨some d, .makeSlice t x y,T,pos,Cs,none⟩ :: rest) F L:=by
 refine F9 (R:=fun v L'=>∃ b:Nat,v=Hd.val ⟨some ⟨b,0,none⟩,m.toNat,m.toNat⟩∧L'=Af.own ⟨some ⟨b,0,none⟩,m.toNat,m.toNat⟩ E 1 ((List.replicate m.toNat ([]:As)).flatMap A9) :: L) hd ?_ (fun v L' ⟨b,e1,e2⟩=>by subst e1;subst e2;exact k b)
 intro a w hF hS
 obtain⟨N,rfl⟩:=Int.eq_ofNat_of_zero_le h0
 have hN:N≤17592186044416:=by omega
 obtain⟨i,hi,hib⟩:=hb
 have hti:∀ w,(typeInfo E).run P w = .ok i w:=fun w=>by simp [typeInfo,hi]
 let C:List Value:=(List.replicate N ([]:As)).flatMap A9
 have hC:C=List.replicate N (BW []):=by
  show(List.replicate N ([]:As)).flatMap A9=_
  rw [Gx (e:=A9) (f:=BW) (fun _=>rfl),List.map_replicate]
 have hCl:C.length=N:=by rw [hC];simp
 have hw1:=hS.alloc E C
 have hS':St w0 M (w.alloc (.cells C.toArray E)) (Af.own ⟨some ⟨w.heap.size,0,none⟩,N,N⟩ E 1 C :: L):=by
  refine hw1.D5 (.head) rfl rfl rfl (Nat.le_refl _) (fun _ _ _=>rfl) ?_ (fun b hb=>?_)
  ·refine .inr ⟨w.heap.size,0,C,(0,0),rfl,by simp,?_,fun _ _ h=>by simp at h,?_,Nat.le_refl _,?_,?_⟩
   ·have:=hw1.ok _ (List.mem_cons_self ..)
    exact this
   ·show 0+N * 1≤_;omega
   ·show N * 1=_;omega
   ·show(C.drop 0).take _=_
    rw [List.drop_zero,List.take_length]
  ·simp [Af.own] at hb
   subst hb
   exact⟨by simp, .inl (by simp [Af.box])⟩
 refine⟨_,_,_,⟨w.heap.size,rfl,rfl⟩,?_,by simpa using hS'⟩
 have hcells:((Array.range N).map fun j=>(#[Value.string ⟨#[]⟩]:Array Value)[j % 1]!)=C.toArray:=by
  apply Array.ext'
  rw [hC]
  simp [BW,Nat.mod_one]
  exact List.eq_replicate_iff.2 ⟨by simp,by simp⟩
 have hwr:IntKind.i64.wrap (N:Int)=N:=IntWalk.i64_in _ (by omega)
 have g1:¬ (281474976710656:Int) < 16 * (N:Int):=by omega
 have hx':=hF.ev hx
 have hy':=hF.ev hy
 have hwr0:IntKind.i64.wrap 0=0:=by decide
 by_cases hN0:N=0
 ·subst hN0
  simp [execOp,hx',hy',Instr.makeSlice,run_underlying hu,hti,hib,hwr0,asInt,asIntOf,hs w,newRow,Hd.val]
  refine congrArg (fun c=>w.alloc (Obj.cells c E)) (Array.ext' ?_)
  rw [List.length_eq_zero_iff.1 hCl,Array.toList_map,Array.toList_range]
  rfl
 ·have g0:¬ (N:Int) < 0:=by omega
  simp [execOp,hx',hy',Instr.makeSlice,run_underlying hu,hti,hib,hwr,g0,g1,asInt,asIntOf,hs w,hN0,hz w,newRow,Hd.val]
  exact congrArg (fun c=>w.alloc (Obj.cells c E)) hcells
theorem X5 {T U g sz:Nat}{x:Operand}{vs cs:List Value}(hg:GV g vs w0)(e:cs=vs)(hx:ev F x=some (.pointer (some ⟨g,0,none⟩)))(hT:Nk P T sz)(hl:cs.length=sz):PS P n w0 [] (.load T x) U F L (.agg cs.toArray) L:=by
 intro a w hF hS
 subst e
 obtain⟨t,fz,hb⟩:=hg.st hS
 refine⟨w,?_,rfl,rfl⟩
 simp only [execOp,hF.ev hx,Instr.loadAt,Instr.sureAddr,loadVar]
 simp [hT.1 w,hT.2 w,E3 hb (Nat.le_of_eq (by omega:0+sz=cs.length))]
 rw [← hl,List.take_length]
end
end Go.Ing
/- Engine: errors; the numeral that is read. -/
namespace Go.Ing
open Go
def HI (g:Nat)(w:World):Prop:=∃ tp p,GV g [.iface tp p] w
theorem HI.st {g:Nat}{w0 w:World}{L:List Af}(h:HI g w0)(hS:St w0 [] w L):HI g w:=by
 obtain⟨tp,p,h⟩:=h;exact⟨tp,p,h.st hS⟩
theorem B9.N4 {w w':World}(h:RowKit.Below w.heap.size w w'):B9 w w':=⟨h.os,h.tape,h.output,h.size,h.block⟩
section
variable {P:Program} {n:Nat} {w0:World} {M:List Nat} {F:List (Nat × Value)} {L:List Af}
theorem S9 {U V T:TypeId}{ms:Array (String × TypeId)}{x:Operand}(hu:P.underlying U=some (.interface ms))(hx:ev F x=some .nilIface):PS P n w0 M (.binOp .neq U x (.const .nilIface) V) T F L (.bool false) L:=CS fun e w hF=>by
 have hu':(underlying U).run P w = .ok (.interface ms) w:=by simp [underlying,hu]
 have h:∀ d:Nat,(Op.equalIn (d+1) U .nilIface .nilIface).run P w = .ok true w:=fun d=>by simp [Op.equalIn,hu']
 have h2:(Op.equal U .nilIface .nilIface).run P w = .ok true w:=h _
 have hg:e.eval (.const .nilIface) = .nilIface:=rfl
 simp [execOp,hF.ev hx,hg,eqGuard,binOp,h2]
theorem Zs {U V T t:TypeId}{ms:Array (String × TypeId)}{v:Value}{x:Operand}(hu:P.underlying U=some (.interface ms))(hx:ev F x=some (.iface t v)):PS P n w0 M (.binOp .neq U x (.const .nilIface) V) T F L (.bool true) L:=CS fun e w hF=>by
 have hu':(underlying U).run P w = .ok (.interface ms) w:=by simp [underlying,hu]
 have h:∀ d:Nat,(Op.equalIn (d+1) U (.iface t v) .nilIface).run P w = .ok false w:=fun d=>by simp [Op.equalIn,hu']
 have h2:(Op.equal U (.iface t v) .nilIface).run P w = .ok false w:=h _
 have hg:e.eval (.const .nilIface) = .nilIface:=rfl
 simp [execOp,hF.ev hx,hg,eqGuard,binOp,h2]
end
theorem Xd {P : Program} {ρ : Shelf.Ren} (L : Proofs.LaysC.n172 P ρ) (s : As) (hs : s.length ≤ 10000000) {gs gr : Nat} (hgs : P.globalNamed "strconv.ErrSyntax" = some gs) (hgr : P.globalNamed "strconv.ErrRange" = some gr) :
  Fx P (ρ.f 172) #[BW s] [] (fun w=>HI gs w∧HI gr w) (fun v B=>(∃ k:Int,Lib.atoiAll s = .ok k∧v = .tuple #[.int .i64 k, .nilIface]∧B = [])∨(∃(k:Int) (t:TypeId) (x:Value),(∀ j,Lib.atoiAll s≠ .ok j)∧v = .tuple #[.int .i64 k, .iface t x]∧B = [])):=by
 intro w hS ⟨⟨tp,p,h1⟩,⟨tq,q,h2⟩⟩
 have v1:=UQ hgs h1
 have v2:=UQ hgr h2
 have hsz:(⟨s.toArray⟩:ByteArray).size=s.length:=by simp [ByteArray.size]
 have hl:(⟨s.toArray⟩:ByteArray).data.toList=s:=by simp
 cases h:Lib.atoiAll s
 ·rename_i k
  refine Calls.mono (Proofs.Any.strconv_Atoi_ok L ⟨s.toArray⟩ (by omega) k (by rw [hl];exact h) w) fun e w' ⟨e1,e2⟩=>⟨_,e1,[], .inl ⟨k,rfl,rfl,rfl⟩,?_⟩
  rcases e2 with rfl | ⟨t,rfl⟩
  ·exact hS
  ·exact hS.Jl (B9.N4 (Lib.bytesWorld_below _ _ _))
 ·refine Calls.mono (Proofs.Any.strconv_Atoi_syntax_var L ⟨s.toArray⟩ (by omega) (by rw [hl];exact h) tp p w v1) fun e w' ⟨N,e1,_,_,e2⟩=>⟨_,e1,[], .inr ⟨_,_,_,(fun(j:Int) hj=>by cases hj),rfl,rfl⟩,hS.Jl (B9.N4 e2)⟩
 ·refine Calls.mono (Proofs.Any.strconv_Atoi_range_var L ⟨s.toArray⟩ (by omega) (by rw [hl];exact h) tq q w v2) fun e w' ⟨N,e1,_,_,e2⟩=>⟨_,e1,[], .inr ⟨_,_,_,(fun(j:Int) hj=>by cases hj),rfl,rfl⟩,hS.Jl (B9.N4 e2)⟩
theorem TH {H:Type}{enc:TypeId × Value→H}{P:Program}{w:World}{base:Nat}{sp:Nat→Bool}{held:Bool}{fuel t:Nat}{cs:List Value}{ms:Array (String × TypeId)}{nm:String}{d:DataW H}{p:List MemPlace}(hu:P.underlying t=some (.interface ms))(h:DataW.trod enc P w base sp held fuel t cs=some (.iface nm d,p)):∃ u v,cs = [.iface u v]:=by
 cases fuel with
 | zero=>simp [DataW.trod] at h
 | succ n=>
  unfold DataW.trod at h
  rw [hu] at h
  split at h<;>simp_all
theorem fX {P:Program}{w:World}{laid:List (String × DataW Unit)}{name:String}{d d':DataW Unit}{nm:String}{g:Nat}{t:TypeId}{ms:Array (String × TypeId)}(hL:laidMet P laid w)(hm:(name,d)∈laid)(hd:d = .iface nm d')(hg:P.globalNamed name=some g)(hty:(P.globals[g]?).map (·.type)=some t)(ht:P.underlying t=some (.interface ms)):HI g w:=by
 subst hd
 obtain⟨ps,hv,_⟩:=hL
 obtain⟨g',t',cs,fuel,p,hg',ht',hvar,h⟩:=No _ _ hv hm
 obtain rfl:=Option.some.inj (hg.symm.trans hg')
 obtain rfl:=Option.some.inj (hty.symm.trans ht')
 obtain⟨u,v,e⟩:=TH ht h
 exact⟨u,v,Tc hg hvar e⟩
end Go.Ing

/- What the functions that the law of this seat reaches compute, and the plain laws of it. No condition. -/
import Derived.Test.YtoidpggbbfncpaaGreatDoorTopHeardEc3
import Derived.Lib.Bytealg
import Derived.Laws.Externs
import Derived.MapKept
import Derived.Lib.LaidTab
import Derived.Shelf.Strconv.Itoa3
import Derived.Lib.ItoaLen
import Derived.Shelf.Strconv.ErrVarAll
import Derived.Stop.LaidErr
set_option linter.unusedSimpArgs false
set_option linter.unusedVariables false
/- Engine: how much a slice within a struct that came in can take. -/
namespace Go.Ing
open Go Go.RowKit Go.ChangeShapes Go.WideShapes Go.ChangeAt
section
variable {H:Type} {enc:TypeId × Value→H} {P:Program} {w:World}
theorem We {ts:List TypeId}{ds:List (DataW H)}(h:(DataW.weightsEach P ts ds).all (·≤ reachBytes)=true){j:Nat}{t:TypeId}{d:DataW H}(ht:ts[j]?=some t)(hd:ds[j]?=some d):∀ n∈d.weights P t,n≤reachBytes:=fun n hn=>by
 simpa using List.all_eq_true.1 h n (DataW.weights_mem_each ht hd n hn)
end
section
variable {P:Program} {n:Nat} {w0:World} {M:List Nat} {Q:Exit→Go.Act→World→Prop} {F F':List (Nat × Value)} {L L':List Ac} {ops:Array Oper} {rest:List Oper}
theorem R1 {U U2 E sz Hj:Nat}{z x:Value}{h:Hd}{gl:Nat}{ys:List Value}{V:TypeId}{w:World}(hu:P.underlying U=some (.slice E))(hsz:Sz P E sz)(hz:ZV P E z)(hzs:z.cells.size=sz)(hby:BY P E Hj)(hb0:0 < Hj)
  (hl0:h.len=0) (hc0:h.cap=0) (hh:(Ac.own h E sz []).ok w) (hg:Src P w U2 sz x gl ys) (hbd:gl * Hj≤281474976710656) :
  ∃ h' w',(Builtin.append_ #[U,U2] V #[h.val,x]).run P w = .ok h'.val w'∧(Ac.own h' E sz ys).ok w'∧h'.len=gl∧w'.os=w.os∧w'.tape=w.tape∧w'.output=w.output∧w.heap.size≤w'.heap.size ∧
   (∀ k,k < w.heap.size→w'.heap[k]?=w.heap[k]?)∧(∀ b∈(Ac.own h' E sz ys).CT,b < w'.heap.size∧(b∈(Ac.own h E sz []).CT∨w.heap.size≤b)):=by
 obtain⟨i,hi,hib⟩:=hby
 have hti:∀ w,(typeInfo E).run P w = .ok i w:=fun w=>by simp [typeInfo,hi]
 have hu':∀ w,(underlying U).run P w = .ok (.slice E) w:=fun w=>by simp [underlying,hu]
 have hsw:∀(v:Value) (w:World),(Builtin.append_ #[U,U2] V #[v,x]).run P w=(Builtin.append_ #[U,U] V #[v,x]).run P w:=fun v w=>by
  rcases hg.ty with ⟨e,hd2⟩ | hd2
  ·have hu2:∀ w,(underlying U2).run P w = .ok (.slice e) w:=fun w=>by simp [underlying,hd2]
   cases v<;>simp [Builtin.append_,hu' w,hu2 w,hsz w]
  ·have hu2:∀ w,(underlying U2).run P w = .ok .string w:=fun w=>by simp [underlying,hd2]
   cases v<;>simp [Builtin.append_,hu' w,hu2 w,hsz w]
 have hlo:=hg.lenOf
 obtain⟨ha,hl,hc⟩:=h
 simp only at hl0 hc0
 subst hl0;subst hc0
 have hfh:∀ w,(Builtin.firstCells sz 0 (Hd.val ⟨ha,0,0⟩)).run P w = .ok #[] w:=fun w=>by
  cases ha with
  | none=>rfl
  | some a=>simp [Hd.val,Builtin.firstCells,loadCells,loadCellsFrom]
 by_cases hg0:gl=0
 ·subst hg0
  have hys:ys = []:=by have:=hg.len;simpa using this.symm
  subst hys
  refine⟨⟨ha,0,0⟩,w,?_,hh,rfl,rfl,rfl,rfl,Nat.le_refl _,fun _ _=>rfl,fun b hb=>?_⟩
  ·have hfc:=hg.cells w (CB.refl w)
   rw [hsw]
   cases ha with
   | none=>simp only [Hd.val] at hfc ⊢;simp [Builtin.append_,hu' w,hsz w,hlo w,hfc]
   | some a=>simp only [Hd.val] at hfc ⊢;simp [Builtin.append_,hu' w,hsz w,hlo w,hfc,storeCells]
  ·rcases hh with ⟨e1,_⟩ | ⟨b',o,C,fz,e1,e2,_⟩
   ·simp at e1;subst e1;simp [Ac.own] at hb
   ·simp only at e1;subst e1;simp [Ac.own] at hb;subst hb
    exact⟨e2, .inl (by simp [Ac.own])⟩
 ·have hnc:Builtin.nextslicecap (0+gl) 0=gl:=by
   unfold Builtin.nextslicecap
   rw [if_pos (by omega)];omega
  have hbig:¬ (281474976710656 < Builtin.nextslicecap (0+gl) 0 * Hj):=by rw [hnc];omega
  let q:Question:= .appendCap (0+gl) 0 E
  let w1:World:=w.drew
  let nc:Nat:=q.cut (w.tape w.drawn q)
  have hncle:0+gl≤nc:=Nat.le_add_right _ _
  have hk1:CB w w1:=⟨rfl,rfl,rfl,Nat.le_refl _,fun _ _=>rfl⟩
  have hfc1:=hg.cells w1 hk1
  have hfh1:=hfh w1
  let row:List Value:=ys++(Builtin.zeroCells z.cells (nc - (0+gl))).toList
  have hrow:row.length=nc * sz:=by
   simp only [row,List.length_append,Array.length_toList,Jd,hzs]
   rw [← hg.len,← Nat.add_mul]
   congr 1;omega
  refine⟨⟨some ⟨w.heap.size,0,none⟩,gl,nc⟩,w1.alloc (.cells row.toArray E),?_,?_,rfl,rfl,rfl,rfl,by simp [w1],?_,?_⟩
  ·simp only [Hd.val] at hfc1 hfh1 ⊢
   have hz1:=hz w.drew
   simp only [w1] at hfc1 hfh1
   have hne:¬ gl≤0:=by omega
   rw [hsw]
   simp only [Nat.zero_add] at hbig
   simp [Builtin.append_,hu' w,hsz w,hlo w,hne,hg0,hti,hbig,hib,Nat.ne_of_gt hb0,hfc1,hfh1,hz1,newRow,Question.forced]
   simp [w1,row,nc,q]
   congr 2
   apply Array.ext'
   simp
  ·refine .inr ⟨w.heap.size,0,row,(0,0),rfl,by simp [w1],?_,fun _ _ h=>by simp at h,by rw [hrow];simp,(by show gl≤nc;omega),hg.len,?_⟩
   ·show(w.heap.push _)[w.heap.size]?=_
    simp
   ·simp only [List.drop_zero,row]
    rw [List.take_left]
  ·intro k hk
   exact RowKit.Below.heap_alloc w1 _ k hk
  ·intro b hb
   simp [Ac.own] at hb
   subst hb
   exact⟨by simp [w1], .inr (Nat.le_refl _)⟩
theorem K0 {α:Type}{e:α→List Value}{d T U U2 E sz Hj gl:Nat}{x y:Operand}{pos:String}{Cq:Array Edge}{h:Hd}{zs:List α}{z yv:Value}{Lf:Ac→List Ac}(hd:Nat.blt d n=true)(hu:P.underlying U=some (.slice E))(hs:Sz P E sz)(hz:ZV P E z)(hzs:z.cells.size=sz)(hby:BY P E Hj)(hb0:0 < Hj)
  (hx:ev F x=some h.val) (hy:ev F y=some yv) (hk:∀ w,St w0 M w L→Src P w U2 sz yv gl (zs.flatMap e)) (hl0:h.len=0) (hc0:h.cap=0) (hbd:gl * Hj≤281474976710656) (hU:∀ r,LN L (Ac.own h E sz (([]:List α).flatMap e)) r (Lf r))
  (k:∀ h':Hd,h'.len=gl→GL P n w0 M ops Q rest ((d,h'.val) :: F) (Lf (Ac.own h' E sz (zs.flatMap e)))):GL P n w0 M ops Q (⟨some d, .call ⟨.builtin .append,#[x,y],#[U,U2]⟩,T,pos,Cq,none⟩ :: rest) F L:=by
 refine F3 (R:=fun v L'=>∃ h':Hd,v=h'.val∧L'=Lf (Ac.own h' E sz (zs.flatMap e))∧h'.len=gl) hd ?_ (fun v L' ⟨h',e1,e2,e3⟩=>by subst e1;subst e2;exact k h' e3)
 intro a w hF hS
 obtain⟨h',w',e1,e2,e3,e4,e5,e6,e7,e8,e9⟩:=R1 (V:=T) hu hs hz hzs hby hb0 hl0 hc0 (hS.ok _ (hU ⟨[],fun _=>True,fun _ _ _ _=>trivial⟩).mem) (hk w hS) hbd
 refine⟨_,_,w',⟨h',rfl,rfl,e3⟩,?_,hS.EW (hU _) e4 e5 e6 e7 (fun k hk _=>e8 k hk) e2 e9⟩
 simp [execOp,resolve,invoke,builtin,hF.ev hx,hF.ev hy,e1]
/-! #### closures -/
theorem Rq {f:FuncId}{xs:List Operand}{vs:List Value}{T:TypeId}(ha:Nf F xs vs):PS P n w0 M (.makeFunc (.func f) #[] xs.toArray) T F L (.func (.func f) #[] vs.toArray) L:=CN fun a w hF=>by
 have:=Nf.map hF ha
 simp [execOp,Instr.makeFunc,← this]
theorem Qg {f:FuncId}{t:Nat}{caps:List Value}{args:List Operand}{ts:Array TypeId}{T:TypeId}{vs:List Value}(hc:CF P f){a:Go.Act}(hF:Fr n a F)(hf:lk t F=some (.func (.func f) #[] caps.toArray))(ha:Nf F args vs)(w:World)(d:Option Tmp)(pos:String)(Cq:Array Edge)(g:Option (Nat × Bool)) :
  (execOp a.eval ⟨d, .call ⟨.value (.tmp t),args.toArray,ts⟩,T,pos,Cq,g⟩).run P w = .ok (.enter f (vs++caps).toArray) w:=by
 have h2:=Nf.map hF ha
 subst h2
 have h1:=hc (args.map a.eval++caps).toArray w
 have h3:a.eval (.tmp t) = .func (.func f) #[] caps.toArray:=by have:=hF.get _ _ hf;simp [Act.eval,this]
 simp [execOp,resolve,Deferred.ofValue,h3,invoke]
 simpa using h1
theorem Dj {d:Nat}{f:FuncId}{t:Nat}{caps:List Value}{args:List Operand}{ts:Array TypeId}{T:TypeId}{pos:String}{Cq:Array Edge}{vs:List Value}{Post:Value→List Ac→Prop}{A K:List Ac}(hd:Nat.blt d n=true)(hc:CF P f)(hf:lk t F=some (.func (.func f) #[] caps.toArray))(ha:Nf F args vs)(hL:Ay L A K)
  (h:Jg P f (vs++caps).toArray A Post)
  (k:∀ v B,Post v B→GL P n w0 M ops Q rest ((d,v) :: F) (B++K)):GL P n w0 M ops Q (⟨some d, .call ⟨.value (.tmp t),args.toArray,ts⟩,T,pos,Cq,none⟩ :: rest) F L:=by
 intro a w hF hS
 refine wpList_plain rfl fun K' hK=>?_
 unfold Oper.wp
 rw [Qg hc hF hf ha]
 show Calls _ _ _ _ _
 refine Calls.mono (h w (hS.perm hL.perm).focus) fun e w' he=>?_
 obtain⟨v,rfl,B,hP,hB⟩:=he
 exact hK _ _ (k v B hP _ _ (hF.put (by simpa [Nat.blt_eq] using hd) v) ((hS.perm hL.perm).frame hB))
end
end Go.Ing
/- The plain functions of the telnet codec. -/
namespace Go.Ing
open Go
def u8 (n:Int):UInt8:=UInt8.ofNat n.toNat
theorem TI {n:Int}(h0:0≤n)(h1:n≤255):((u8 n).toNat:Int)=n:=by
 simp [u8];omega
namespace AP
def OC (t:AP)(i:Int):Bool:=decide (t.us.at i < 0) || decide (2 < t.us.at i) || decide (t.Gz.at i < 0) || decide (2 < t.Gz.at i)
def QL (t:AP):Bool:=
 decide (0≤t.at_) && decide (t.at_≤4) && (decide (t.at_=2) == !decide (t.verb=0)) && (decide (t.verb=0) || (decide (251≤t.verb) && decide (t.verb≤254))) && decide ((t.sub.length:Int)≤16) && (decide (3≤t.at_) || decide (t.sub = [])) && decide (0≤t.B0) && decide (t.B0≤200)
def Bh (t:AP):Bool:=B8 3 (fun i=>!t.OC i) 3 && (!(!decide (t.us.at 2=0) || !decide (t.Gz.at 0=0)) && t.QL)
def place (opt:Int):Int × Bool × Bool:=if decide (opt=1)=true then(0,true,false) else if decide (opt=3)=true then(1,true,true) else if decide (opt=31)=true then(2,false,true) else(-1,false,false)
def W3 (verb opt:Int):Ao:= [255,u8 verb,u8 opt]
def Ii (was:Int)(on:Bool)(opt yes no:Int):Ao:=if (on && decide (was=0))=true then W3 yes opt else if (!on && decide (was=1))=true then W3 no opt else []
def ZQ (on:Bool):Int:=if on=true then 1 else 0
def Yp (t:AP)(k:Int)(on:Bool):AP:={ t with us:=t.us.put k (ZQ on) }
def SB (t:AP)(k:Int)(on:Bool):AP:={ t with Gz:=t.Gz.put k (ZQ on) }
def B4 (t:AP)(verb opt:Int):AP × Ao:=
 let k:=(place opt).1
 if decide (verb=253)=true then(if (!(place opt).2.1)=true then(t,W3 252 opt) else(t.Yp k true,Ii (t.us.at k) true opt 251 252))
 else if decide (verb=254)=true then(if (place opt).2.1=true then(t.Yp k false,Ii (t.us.at k) false opt 251 252) else(t,[]))
 else if decide (verb=251)=true then(if (!(place opt).2.2)=true then(t,W3 254 opt) else(t.SB k true,Ii (t.Gz.at k) true opt 253 254))
 else if decide (verb=252)=true then(if (place opt).2.2=true then(t.SB k false,Ii (t.Gz.at k) false opt 253 254) else(t,[]))
 else(t,[])
def collect (t:AP)(b:UInt8):AP:=if decide ((t.sub.length:Int) < 16)=true then { t with sub:=t.sub ++ [b] } else t
def Ti (s:Ao)(i:Int):Int:=((s.getD i.toNat 0).toNat:Int)
def measure (t:AP):AP:=
 if (decide ((t.sub.length:Int)=5) && decide (Ti t.sub 0=31) && decide (t.Gz.at 2=1))=true then { t with B0:=min (Ti t.sub 3 * 256+Ti t.sub 4) 200 } else t
def step (t:AP)(b:UInt8):AP × Ao × Ao:=
  let c:Int:=(b.toNat:Int)
  if decide (t.at_=0)=true then(if decide (c=255)=true then({ t with at_:=1 },[],[]) else(t,[b],[]))
  else if decide (t.at_=1)=true then
    (if decide (c=255)=true then({ t with at_:=0 },[b],[])
     else if decide (c=250)=true then({ t with at_:=3 },[],[])
     else if decide (251≤c)=true then({ t with at_:=2,verb:=c },[],[])
     else({ t with at_:=0 },[],[]))
  else if decide (t.at_=2)=true then({ (t.B4 t.verb c).1 with at_:=0,verb:=0 },[],(t.B4 t.verb c).2)
  else if decide (t.at_=3)=true then(if decide (c=255)=true then({ t with at_:=4 },[],[]) else(t.collect b,[],[]))
  else if decide (t.at_=4)=true then
    (if decide (c=255)=true then(collect { t with at_:=3 } b,[],[])
     else if decide (c=240)=true then({ t.measure with at_:=0,sub:= [] },[],[])
     else({ t with at_:=0,sub:= [] },[],[]))
  else(t,[],[])
def feed:AP→Ao→AP × Ao × Ao
 | t,[]=>(t,[],[])
 | t,b :: s=>((feed (t.step b).1 s).1,(t.step b).2.1++(feed (t.step b).1 s).2.1,(t.step b).2.2++(feed (t.step b).1 s).2.2)
def Di (t:AP)(s:Ao):AP × Ao × Ao × Int:=if (!t.Bh)=true then(t,[],[],2) else((t.feed s).1,(t.feed s).2.1,(t.feed s).2.2,0)
def DQ (t:AP)(opt:Int):AP × Ao × Int:=
 if (!t.Bh)=true then(t,[],2) else if (!(place opt).2.1)=true then(t,[],3) else if (!decide (t.us.at (place opt).1=0))=true then(t,[],0)
 else({ t with us:=t.us.put (place opt).1 2 },W3 251 opt,0)
def Ask (t:AP)(opt:Int):AP × Ao × Int:=
 if (!t.Bh)=true then(t,[],2) else if (!(place opt).2.2)=true then(t,[],3) else if (!decide (t.Gz.at (place opt).1=0))=true then(t,[],0)
 else({ t with Gz:=t.Gz.put (place opt).1 2 },W3 253 opt,0)
theorem Ou {opt:Int}(h:(place opt).2.1=true):(opt=1∧place opt=(0,true,false))∨(opt=3∧place opt=(1,true,true)):=by
 unfold place at *
 repeat' split at h
 all_goals simp_all
theorem LG {opt:Int}(h:(place opt).2.2=true):(opt=3∧place opt=(1,true,true))∨(opt=31∧place opt=(2,false,true)):=by
 unfold place at *
 repeat' split at h
 all_goals simp_all
theorem QC (w:Int)(on:Bool)(o y n:Int):(Ii w on o y n).length≤3:=by
 unfold Ii W3;repeat' split
 all_goals simp
theorem IL (t:AP)(v o:Int):(t.B4 v o).2.length≤3:=by
 unfold B4;dsimp only
 repeat' split
 all_goals try exact QC _ _ _ _ _
 all_goals try simp [W3]
 all_goals exact QC _ _ _ _ _
theorem Pm (t:AP)(v o:Int):(t.B4 v o).1.sub=t.sub:=by
 unfold B4;dsimp only
 repeat' split
 all_goals rfl
theorem Sn (t:AP)(b:UInt8)(h:t.sub.length≤16):(t.collect b).sub.length≤16:=by
 unfold collect;split
 ·rename_i h1;simp at h1 ⊢;omega
 ·exact h
theorem YN (t:AP)(b:UInt8)(h:t.sub.length≤16):(t.step b).1.sub.length≤16:=by
 unfold step;dsimp only
 repeat' split
 all_goals first | exact h | exact Sn _ _ h | (simp;done) | (rw [Pm];exact h)
theorem Rx (t:AP)(b:UInt8):(t.step b).2.1.length≤1∧(t.step b).2.2.length≤3:=by
 unfold step;dsimp only
 repeat' split
 all_goals first | (simp;done) | (exact⟨by simp,IL _ _ _⟩)
structure Jk (X:AP)(u:Ao)(k:Int)(t:AP)(x y:Ao):Prop where
 k0:0≤k
 k1:k≤u.length
 sub:t.sub.length≤16
 xl:(x.length:Int)≤k
 yl:(y.length:Int)≤3 * k
 e1:(X.feed u).1=(t.feed (u.drop k.toNat)).1
 e2:(X.feed u).2.1=x++(t.feed (u.drop k.toNat)).2.1
 e3:(X.feed u).2.2=y++(t.feed (u.drop k.toNat)).2.2
theorem WM {u:Ao}{k:Int}(h0:0≤k)(h1:k < u.length):u.drop k.toNat=u.getD k.toNat 0 :: u.drop (k+1).toNat:=by
 have hk:k.toNat < u.length:=by omega
 rw [List.drop_eq_getElem_cons hk,show(k+1).toNat=k.toNat+1 by omega]
 simp [List.getD,hk]
theorem Jk.start {X:AP}{u:Ao}(h:X.sub.length≤16):Jk X u 0 X [] []:=⟨by omega,by omega,h,by simp,by simp,rfl,rfl,rfl⟩
theorem Jk.next {X t t':AP}{u x y x' y':Ao}{k:Int}(h:Jk X u k t x y)(hk:k < u.length)(ht:t'=(t.step (u.getD k.toNat 0)).1)(hx:x'=x++(t.step (u.getD k.toNat 0)).2.1)(hy:y'=y++(t.step (u.getD k.toNat 0)).2.2):Jk X u (k+1) t' x' y':=by
 have hd:=WM h.k0 hk
 have hl:=Rx t (u.getD k.toNat 0)
 have h1:=h.xl
 have h2:=h.yl
 have h0:=h.k0
 subst ht;subst hx;subst hy
 refine⟨by omega,by omega,YN _ _ h.sub,by simp only [List.length_append];omega,by simp only [List.length_append];omega,?_,?_,?_⟩
 ·rw [h.e1,hd];rfl
 ·rw [h.e2,hd,List.append_assoc];rfl
 ·rw [h.e3,hd,List.append_assoc];rfl
theorem Jk.done {X t:AP}{u x y:Ao}{k:Int}(h:Jk X u k t x y)(hk:¬ k < u.length):X.feed u=(t,x,y):=by
 have h1:=h.k1
 have hk':k.toNat=u.length:=by omega
 have e1:=h.e1
 have e2:=h.e2
 have e3:=h.e3
 rw [hk',List.drop_length] at e1 e2 e3
 simp only [feed,List.append_nil] at e1 e2 e3
 rw [← e1,← e2,← e3]
theorem Xj {t:AP}(h:t.Bh=true):t.sub.length≤16:=by
 simp only [Bh,QL,Bool.and_eq_true,decide_eq_true_eq] at h
 omega
theorem O2 {xs:List Int}{k:Nat}(h:k < xs.length):xs.getD k 0∈xs:=by
 simp [List.getD,h]
end AP
end Go.Ing
/- The plain laws of the telnet codec. -/
namespace Go.Ing
open Go
theorem IY {α:Type}[Inhabited α]{n:Nat}(v:Vector α n)(k i:Int)(x:α)(hk:0≤k)(hk':k < n)(hi:0≤i):(v.put k x).at i=if i=k then x else v.at i:=by
 simp only [Vector.at,Vector.put,Vector.toList_setIfInBounds,List.getD_eq_getElem?_getD,List.getElem?_set,Vector.length_toList]
 by_cases h:k.toNat=i.toNat
 ·rw [if_pos h,if_pos (by omega),if_pos (by omega)];rfl
 ·rw [if_neg h,if_neg (by omega)]
namespace AP
theorem Jl (t:AP)(a b:Ao):t.feed (a++b)=(((t.feed a).1.feed b).1,(t.feed a).2.1++((t.feed a).1.feed b).2.1,(t.feed a).2.2++((t.feed a).1.feed b).2.2):=by
 induction a generalizing t with
 | nil=>simp [feed]
 | cons c a ih=>simp only [List.cons_append,feed,ih,List.append_assoc]
def gG (t:AP):Prop:=(0≤t.us.at 0∧t.us.at 0≤2∧0≤t.us.at 1∧t.us.at 1≤2∧t.us.at 2=0)∧(t.Gz.at 0=0∧0≤t.Gz.at 1∧t.Gz.at 1≤2∧0≤t.Gz.at 2∧t.Gz.at 2≤2)
def okB (t:AP):Prop:=0≤t.at_∧t.at_≤4∧(t.at_=2↔t.verb≠0)∧(t.verb=0∨251≤t.verb∧t.verb≤254)∧t.sub.length≤16∧(3≤t.at_∨t.sub = [])∧0≤t.B0∧t.B0≤200
theorem HT (t:AP):t.Bh=true↔t.gG∧t.okB:=by
 have e:t.QL=true↔t.okB:=by
  simp only [QL,okB,Bool.and_eq_true,decide_eq_true_eq,Bool.or_eq_true,beq_iff_eq]
  have:(decide (t.at_=2)=!decide (t.verb=0))↔(t.at_=2↔t.verb≠0):=by
   by_cases h1:t.at_=2<;>by_cases h2:t.verb=0<;>simp [h1,h2]
  rw [this]
  constructor
  ·rintro ⟨⟨⟨⟨⟨⟨⟨h1,h2⟩,h3⟩,h4⟩,h5⟩,h6⟩,h7⟩,h8⟩;exact⟨h1,h2,h3,h4,by omega,h6,h7,h8⟩
  ·rintro ⟨h1,h2,h3,h4,h5,h6,h7,h8⟩;exact⟨⟨⟨⟨⟨⟨⟨h1,h2⟩,h3⟩,h4⟩,by omega⟩,h6⟩,h7⟩,h8⟩
 rw [← e]
 simp only [Bh,B8,OC,gG,Bool.and_eq_true]
 simp
 generalize t.QL=g
 constructor
 ·intro h;exact⟨by omega,h.2.2⟩
 ·intro h;exact⟨by omega,by omega,h.2⟩
theorem Xx (u:Ao):∀ t:AP,(t.feed u).2.1.length≤u.length∧(t.feed u).2.2.length≤3 * u.length:=by
 induction u with
 | nil=>intro t;simp [feed]
 | cons b u ih=>
  intro t
  have h1:=Rx t b
  have h2:=ih (t.step b).1
  simp only [feed,List.length_append,List.length_cons]
  omega
/-! #### the document's answer -/
/-! #### answers to answers come to an end -/
def ends:Nat→AP→AP→Ao→Bool
 | 0,_,_,_=>false
 | n+1,t,u,s=>
  if decide ((t.Di s).2.2.1 = [])=true then decide ((t.Di s).2.2.2=0) && true
  else if (!decide ((t.Di s).2.2.2=0) || !decide ((u.Di (t.Di s).2.2.1).2.2.2=0))=true then false
  else if decide ((u.Di (t.Di s).2.2.1).2.2.1 = [])=true then true
  else ends n (t.Di s).1 (u.Di (t.Di s).2.2.1).1 (u.Di (t.Di s).2.2.1).2.2.1
def calm (t:AP):AP:={ t with at_:=0,verb:=0,sub:= [] }
end AP
end Go.Ing
/- The plain functions of lines. -/
namespace Go.Ing
open Go
namespace Bg
def Fv (b:UInt8):Bool:=decide (32≤(b.toNat:Int)) && decide ((b.toNat:Int) < 127)
def F8 (s:Ao):Bool:=!decide (60 < (s.length:Int)) && s.all Fv
def JT (l:BN):Bool:=decide (60 < (l.now.length:Int)) || decide (6 < (l.queue.len:Int)) || (l.Cy && decide (60 < (l.now.length:Int))) || (l.ret && (!decide (l.now = []) || l.Cy))
def Bh (l:BN)(qs:List Ao):Bool:=!JT l && (qs ++ [l.now]).all F8
structure S where
 now:Ao
 Cy:Bool
 ret:Bool
 queue:List Ao
 lost:Int
 deriving DecidableEq
def step (x:S)(b:UInt8):S:=
 let c:Int:=(b.toNat:Int)
 if (x.ret && (decide (c=10) || decide (c=0)))=true then { x with ret:=false }
 else if (decide (c=13) || decide (c=10))=true then
  (if decide ((x.queue.length:Int) < 6)=true then { x with queue:=x.queue ++ [x.now],now:= [],Cy:=false,ret:=decide (c=13) } else { x with lost:=x.lost+1,now:= [],Cy:=false,ret:=decide (c=13) })
 else if (decide (c=8) || decide (c=127))=true then(if decide (0 < (x.now.length:Int))=true then { x with now:=x.now.take ((x.now.length:Int) - 1).toNat,ret:=false } else { x with ret:=false })
 else if (!Fv b)=true then { x with ret:=false }
 else if decide (60≤(x.now.length:Int))=true then { x with Cy:=true,ret:=false }
 else { x with now:=x.now ++ [b],ret:=false }
def feed (x:S)(s:Ao):S:=s.foldl step x
def start (l:BN)(qs:List Ao):S:=⟨l.now,l.Cy,l.ret,qs,0⟩
structure I (x0:S)(u:Ao)(k:Int)(x:S):Prop where
 k0:0≤k
 k1:k≤u.length
 now:x.now.length≤60
 queue:x.queue.length≤6
 lost:0≤x.lost∧x.lost≤k
 e:feed x0 u=feed x (u.drop k.toNat)
theorem YI {x:S}(b:UInt8)(h:x.now.length≤60):(step x b).now.length≤60:=by
 unfold step;dsimp only
 repeat' split
 all_goals first | exact h | (simp;done) | (simp;omega) | (rename_i h1 _;simp at *;omega) | skip
 all_goals simp_all
 all_goals omega
theorem UT {x:S}(b:UInt8)(h:x.queue.length≤6):(step x b).queue.length≤6:=by
 unfold step;dsimp only
 repeat' split
 all_goals first | exact h | (simp at *;omega)
theorem VP (x:S)(b:UInt8):x.lost≤(step x b).lost∧(step x b).lost≤x.lost+1:=by
 unfold step;dsimp only
 repeat' split
 all_goals (constructor<;>dsimp only<;>omega)
theorem I.start {x:S}{u:Ao}(h1:x.now.length≤60)(h2:x.queue.length≤6)(h3:x.lost=0):I x u 0 x:=⟨by omega,by omega,h1,h2,by omega,rfl⟩
theorem I.next {x0 x:S}{u:Ao}{k:Int}(h:I x0 u k x)(hk:k < u.length){now:Ao}{Cy ret:Bool}{queue:List Ao}{lost:Int}(hs:step x (u.getD k.toNat 0)=⟨now,Cy,ret,queue,lost⟩):I x0 u (k+1) ⟨now,Cy,ret,queue,lost⟩:=by
 have h0:=h.k0
 have hk':k.toNat < u.length:=by omega
 have hd:u.drop k.toNat=u.getD k.toNat 0 :: u.drop (k+1).toNat:=by
  rw [List.drop_eq_getElem_cons hk',show(k+1).toNat=k.toNat+1 by omega]
  simp [List.getD,hk']
 have hl:=VP x (u.getD k.toNat 0)
 have hl':=h.lost
 have hn:=YI (u.getD k.toNat 0) h.now
 have hq:=UT (u.getD k.toNat 0) h.queue
 rw [hs] at hl hn hq
 refine⟨by omega,by omega,hn,hq,by dsimp only at *;omega,?_⟩
 rw [h.e,hd,← hs];rfl
theorem I.done {x0 x:S}{u:Ao}{k:Int}(h:I x0 u k x)(hk:¬ k < u.length):feed x0 u=x:=by
 have h1:=h.k1
 have hk':k.toNat=u.length:=by omega
 rw [h.e,hk',List.drop_length];rfl
theorem VX {l:BN}{qs:List Ao}(h:Bh l qs=true):l.now.length≤60∧l.queue.len≤6:=by
 simp only [Bh,JT,Bool.and_eq_true,Bool.not_eq_true',Bool.or_eq_false_iff,decide_eq_false_iff_not] at h
 omega
theorem FK {α:Type}{p:α→Bool}{xs:List α}{k:Int}{d:α}(h0:0≤k)(h1:k < xs.length):(xs.drop k.toNat).all p=(p (xs.getD k.toNat d) && (xs.drop (k+1).toNat).all p):=by
 have hk':k.toNat < xs.length:=by omega
 rw [List.drop_eq_getElem_cons hk',show(k+1).toNat=k.toNat+1 by omega,List.all_cons]
 simp [List.getD,hk']
/-! #### what is said of lines -/
structure Ok (x:S):Prop where
 now:F8 x.now=true
 queue:∀ s∈x.queue,F8 s=true
 len:x.queue.length≤6
 ret:x.ret=true→x.now = []∧x.Cy=false
theorem GB (s:Ao):F8 s=true↔s.length≤60∧∀ b∈s,Fv b=true:=by
 simp only [F8,Bool.and_eq_true,Bool.not_eq_true',decide_eq_false_iff_not,List.all_eq_true]
 constructor
 ·rintro ⟨h1,h2⟩;exact⟨by omega,h2⟩
 ·rintro ⟨h1,h2⟩;exact⟨by omega,h2⟩
theorem Mj:F8 []=true:=rfl
theorem HT {l:BN}{qs:List Ao}(hl:l.queue.len=qs.length):Bh l qs=true↔Ok (start l qs):=by
 simp only [Bh,JT,Bool.and_eq_true,Bool.not_eq_true',Bool.or_eq_false_iff,decide_eq_false_iff_not,List.all_append,List.all_cons,List.all_nil,Bool.and_true,List.all_eq_true]
 constructor
 ·rintro ⟨⟨⟨⟨h1,h2⟩,h3⟩,h4⟩,h5,h6⟩
  refine⟨h6,h5,by show qs.length≤6;omega,fun h=>?_⟩
  have h:l.ret=true:=h
  rw [h] at h4
  simp at h4
  exact h4
 ·rintro ⟨h1,h2,h3,h4⟩
  have h3:qs.length≤6:=h3
  have h5:=((GB _).1 h1).1
  have h5:l.now.length≤60:=h5
  refine⟨⟨⟨⟨by omega,by omega⟩,?_⟩,?_⟩,h2,h1⟩
  ·cases l.Cy<;>simp;omega
  ·have h4:l.ret=true→l.now = []∧l.Cy=false:=h4
   cases hr:l.ret with
   | false=>rfl
   | true=>obtain⟨a,b⟩:=h4 hr;simp [a,b]
theorem Zn {x:S}(h:Ok x)(b:UInt8):Ok (step x b):=by
 obtain⟨h1,h2,h3,h4⟩:=h
 have h1':=(GB _).1 h1
 unfold step;dsimp only
 repeat' split
 all_goals try simp only [decide_eq_true_eq,Bool.not_eq_true',Bool.or_eq_true] at *
 ·exact⟨h1,h2,h3,fun h=>by cases h⟩
 ·rename_i hq
  refine⟨Mj,fun s hs=>?_,by show(x.queue ++ [x.now]).length≤6;rw [List.length_append,List.length_singleton];omega,fun _=>⟨rfl,rfl⟩⟩
  rcases List.mem_append.1 hs with hs | hs
  ·exact h2 s hs
  ·simp at hs;subst hs;exact h1
 ·exact⟨Mj,h2,h3,fun _=>⟨rfl,rfl⟩⟩
 ·refine⟨(GB _).2 ⟨?_,fun c hc=>h1'.2 c (List.mem_of_mem_take hc)⟩,h2,h3,fun h=>by cases h⟩
  have:=h1'.1
  show(x.now.take _).length≤60
  rw [List.length_take];omega
 ·exact⟨h1,h2,h3,fun h=>by cases h⟩
 ·exact⟨h1,h2,h3,fun h=>by cases h⟩
 ·exact⟨h1,h2,h3,fun h=>by cases h⟩
 ·rename_i hp hl
  refine⟨(GB _).2 ⟨by show(x.now ++ [b]).length≤60;rw [List.length_append,List.length_singleton];omega,fun c hc=>?_⟩,h2,h3,fun h=>by cases h⟩
  rcases List.mem_append.1 hc with hc | hc
  ·exact h1'.2 c hc
  ·simp at hc;subst hc;simpa using hp
theorem Ul (u:Ao):∀ {x:S},Ok x→Ok (feed x u):=by
 induction u with
 | nil=>intro x h;exact h
 | cons b u ih=>intro x h;exact ih (Zn h b)
theorem Jl (x:S)(a b:Ao):feed x (a++b)=feed (feed x a) b:=List.foldl_append ..
def val (x:S)(h:Hd):BN:=⟨x.now,x.Cy,x.ret,h⟩
theorem dU {α:Type}{xs ys:List α}{i:Nat}(hl:xs.length=ys.length)(ht:xs.take i=ys.take i)(hi:¬ i < xs.length):xs=ys:=by
 rw [List.take_of_length_le (by omega),List.take_of_length_le (by omega)] at ht;exact ht
theorem KT {α:Type}{xs ys:List α}{i:Int}{d:α}(h0:0≤i)(hl:xs.length=ys.length)(hi:i < xs.length)(ht:xs.take i.toNat=ys.take i.toNat)(he:xs.getD i.toNat d=ys.getD i.toNat d):xs.take (i+1).toNat=ys.take (i+1).toNat:=by
 have h1:i.toNat < xs.length:=by omega
 have h2:i.toNat < ys.length:=by omega
 rw [show(i+1).toNat=i.toNat+1 by omega,List.take_succ_eq_append_getElem h1,List.take_succ_eq_append_getElem h2,ht]
 simp only [List.getD,List.getElem?_eq_getElem h1,List.getElem?_eq_getElem h2,Option.getD_some] at he
 rw [he]
theorem Tv {α:Type}{xs ys:List α}{i:Nat}{d:α}(h:xs.getD i d≠ys.getD i d):xs≠ys:=fun e=>h (by rw [e])
theorem U7 {qs:List Ao}(h:qs.length≠0):∃ q r,qs=q :: r:=by
 cases qs with
 | nil=>simp at h
 | cons q r=>exact⟨q,r,rfl⟩
/-! #### text that is typed -/
theorem Wg {b:UInt8}(h:Fv b=true):32≤(b.toNat:Int)∧(b.toNat:Int) < 127:=by
 simpa [Fv] using h
theorem Tt {x:S}{b:UInt8}(h:Fv b=true)(hn:x.now.length < 60):step x b={ x with now:=x.now ++ [b],ret:=false }:=by
 have hb:=Wg h
 have e1:decide ((b.toNat:Int)=10)=false:=decide_eq_false (by omega)
 have e2:decide ((b.toNat:Int)=0)=false:=decide_eq_false (by omega)
 have e3:decide ((b.toNat:Int)=13)=false:=decide_eq_false (by omega)
 have e4:decide ((b.toNat:Int)=8)=false:=decide_eq_false (by omega)
 have e5:decide ((b.toNat:Int)=127)=false:=decide_eq_false (by omega)
 have e6:decide (60≤(x.now.length:Int))=false:=decide_eq_false (by omega)
 simp only [step,e1,e2,e3,e4,e5,e6,h]
 simp
theorem TV (s:Ao):∀ x:S,(∀ b∈s,Fv b=true)→x.now.length+s.length≤60→s≠ []→feed x s={ x with now:=x.now++s,ret:=false }:=by
 induction s with
 | nil=>intro x _ _ h;exact absurd rfl h
 | cons b s ih=>
  intro x hp hl _
  rw [List.length_cons] at hl
  show feed (step x b) s=_
  rw [Tt (hp b (by simp)) (by omega)]
  cases s with
  | nil=>rfl
  | cons c s=>
   rw [ih _ (fun d hd=>hp d (by simp [hd])) (by simp at hl ⊢;omega) (by simp)]
   simp
def cG:BN:=⟨[],false,false,⟨none,0,0⟩⟩
def s0:S:=start cG []
def Ends (W:Ao):Prop:=W = [13,10]∨W = [10]∨W = [13,0]∨W = [13]
structure Wj (W:Ao)(x:S)(q:List Ao):Prop where
 now:x.now = []
 Cy:x.Cy=false
 ret:x.ret=true→W = [13]
 queue:x.queue=q
 lost:x.lost=0
theorem SF {W:Ao}(hW:Ends W){x:S}{q:List Ao}(hq:q.length < 6){s:Ao}(hn:x.now=s)(hl:x.Cy=false)(hr:x.ret=true→W = [13]∧s = [])(hx:x.queue=q)(h0:x.lost=0):Wj W (feed x W) (q ++ [s]):=by
 have hc:decide ((x.queue.length:Int) < 6)=true:=decide_eq_true (by rw [hx];omega)
 obtain⟨n,l,r,qq,lo⟩:=x
 simp only at hn hl hr hx h0 hc
 subst hn;subst hl;subst hx;subst h0
 have h13:((13:UInt8).toNat:Int)=13:=rfl
 have h10:((10:UInt8).toNat:Int)=10:=rfl
 have h00:((0:UInt8).toNat:Int)=0:=rfl
 have e13:step ⟨n,false,r,qq,0⟩ 13=⟨[],false,true,qq ++ [n],0⟩:=by
  simp only [step,h13,hc];simp
 have e10:r=false→step ⟨n,false,r,qq,0⟩ 10=⟨[],false,false,qq ++ [n],0⟩:=by
  intro hr;subst hr
  simp only [step,h10,hc];simp
 rcases hW with rfl | rfl | rfl | rfl
 ·have:feed ⟨n,false,r,qq,0⟩ [13,10]=⟨[],false,false,qq ++ [n],0⟩:=by
   show step (step _ 13) 10=_
   rw [e13];simp [step,h10]
  rw [this];exact⟨rfl,rfl,fun h=>(by cases h),rfl,rfl⟩
 ·have hr':r=false:=by
   cases r with
   | false=>rfl
   | true=>have:=(hr rfl).1;simp at this
  have:feed ⟨n,false,r,qq,0⟩ [10]=⟨[],false,false,qq ++ [n],0⟩:=e10 hr'
  rw [this];exact⟨rfl,rfl,fun h=>(by cases h),rfl,rfl⟩
 ·have:feed ⟨n,false,r,qq,0⟩ [13,0]=⟨[],false,false,qq ++ [n],0⟩:=by
   show step (step _ 13) 0=_
   rw [e13];simp [step,h00]
  rw [this];exact⟨rfl,rfl,fun h=>(by cases h),rfl,rfl⟩
 ·have:feed ⟨n,false,r,qq,0⟩ [13]=⟨[],false,true,qq ++ [n],0⟩:=e13
  rw [this];exact⟨rfl,rfl,fun _=>rfl,rfl,rfl⟩
theorem Wm {W:Ao}(hW:Ends W){x:S}{q:List Ao}(h:Wj W x q)(hq:q.length < 6){s:Ao}(hs:F8 s=true):Wj W (feed x (s++W)) (q ++ [s]):=by
 obtain⟨h1,h2⟩:=(GB s).1 hs
 rw [Jl]
 cases s with
 | nil=>exact SF hW hq h.now h.Cy (fun hr=>⟨h.ret hr,rfl⟩) h.queue h.lost
 | cons b s=>
  rw [TV _ _ h2 (by rw [h.now];simpa using h1) (by simp)]
  exact SF hW hq (by simp [h.now]) h.Cy (fun hr=>by cases hr) h.queue h.lost
def pick (k n:Int):Int:=k.tmod n+if k.tmod n < 0 then n else 0
def typed (W:Ao)(qs:List Ao):Ao:=qs.flatMap (·++ W)
theorem UM {W:Ao}(hW:Ends W)(qs:List Ao):∀(x:S) (q:List Ao),Wj W x q→q.length+qs.length≤6→(∀ s∈qs,F8 s=true)→Wj W (feed x (typed W qs)) (q++qs):=by
 induction qs with
 | nil=>intro x q h _ _;simpa [typed,feed] using h
 | cons s qs ih=>
  intro x q h hl hs
  rw [List.length_cons] at hl
  have h1:=Wm hW h (by omega) (hs s (by simp))
  have h2:=ih _ _ h1 (by simp;omega) (fun t ht=>hs t (by simp [ht]))
  have e:typed W (s :: qs)=(s++W)++typed W qs:=rfl
  rw [e,Jl]
  simpa using h2
theorem whole {W:Ao}(hW:Ends W){qs:List Ao}(hl:qs.length≤6)(hs:∀ s∈qs,F8 s=true):Wj W (feed s0 (typed W qs)) qs:=by
 have:=UM hW qs s0 [] ⟨rfl,rfl,fun h=>(by cases h),rfl,rfl⟩ (by simpa using hl) hs
 simpa using this
/-! #### the document's -/
end Bg
end Go.Ing
/- Engine, part 14: the library's own entries; slices that came in or are the call's own. -/
namespace Go.Ing
open Go
section
variable {P:Program} {n:Nat} {w0:World} {M:List Nat} {Q:Exit→Go.Act→World→Prop} {F F':List (Nat × Value)} {L L':List Ac} {ops:Array Oper} {rest:List Oper}
theorem L1 {U:TypeId}{ts:Array TypeId}{x:Operand}{T E:TypeId}{p:Option Addr}{l c:Nat}(ht:ts[0]?=some U)(hu:P.underlying U=some (.slice E))(hx:ev F x=some (.slice p l c)):PS P n w0 M (.call ⟨.builtin .cap,#[x],ts⟩) T F L (.int .i64 c) L:=CN fun e w hF=>by
 simp [execOp,resolve,invoke,builtin,Builtin.cap_,ht,hF.ev hx,underlying,hu,goInt]
theorem ZI {U E sz:TypeId}{ts:Array TypeId}{x y:Operand}{T:TypeId}{h:Hd}(ht:ts[0]?=some U)(hu:P.underlying U=some (.slice E))(hs:Sz P E sz)(hx:ev F x=some h.val)(hy:ev F y=some (.slice none 0 0)):PS P n w0 M (.call ⟨.builtin .copy,#[x,y],ts⟩) T F L (.int .i64 0) L:=CN fun e w hF=>by
 cases ha:h.a with
 | none=>simp [execOp,resolve,invoke,builtin,Builtin.copy_,ht,hF.ev hx,hF.ev hy,underlying,hu,goInt,Hd.val,Builtin.lenOf,Builtin.firstCells,hs w,ha,pure,ReaderT.pure]
 | some a=>simp [execOp,resolve,invoke,builtin,Builtin.copy_,ht,hF.ev hx,hF.ev hy,underlying,hu,goInt,Hd.val,Builtin.lenOf,Builtin.firstCells,hs w,ha,storeCells]
theorem N0 {f : FuncId} {fn : Func} {ex : Array Value → Sem Value} {ts : Array TypeId} {T : TypeId} {x y : Operand} {a b v : Value} (hf : P.funcs[f]? = some fn) (h1 : (fn.name == "runtime.NumGoroutine") = false) (h2 : fn.body.isNone = true) (h3 : Extern.findNext fn = none) (h4 : Extern.find fn = some ex) (hx : ev F x = some a) (hy : ev F y = some b)
  (hr:∀ w,(ex #[a,b]).run P w = .ok v w):PS P n w0 M (.call ⟨.value (.func f),#[x,y],ts⟩) T F L v L:=CN fun e w hF=>by
 have:=run_callFunc_extern hf h1 h2 h3 h4 #[a,b] w
 rw [hr] at this
 have hx':=hF.ev hx
 have hy':=hF.ev hy
 have hg:e.eval (.func f) = .func (.func f) #[] #[]:=rfl
 simp [execOp,resolve,Deferred.ofValue,invoke,hg,hx',hy',this]
theorem Ud (c:UInt8):((c.toNat:Int)).toNat.toUInt8=c:=by simp
theorem PB {f : FuncId} {fn : Func} {ts : Array TypeId} {T : TypeId} {x y : Operand} {s : Ao} {c : UInt8} (hf : P.funcs[f]? = some fn) (h1 : (fn.name == "runtime.NumGoroutine") = false) (h2 : fn.body.isNone = true) (h3 : Extern.findNext fn = none) (h4 : Extern.find fn = some Extern.BytealgCount.count) (hx : ev F x = some (BU s)) (hy : ev F y = some (.int .u8 (c.toNat : Int))) :
  PS P n w0 M (.call ⟨.value (.func f),#[x,y],ts⟩) T F L (.int .i64 ((s.count c:Nat):Int)) L:=
 N0 hf h1 h2 h3 h4 hx hy fun w=>by
  have:=Lib.run_countString (P:=P) ⟨s.toArray⟩ (c.toNat:Int) w
  rw [Ud] at this
  exact this
theorem K2 {f : FuncId} {fn : Func} {ts : Array TypeId} {T : TypeId} {x y : Operand} {s : Ao} {c : UInt8} (hf : P.funcs[f]? = some fn) (h1 : (fn.name == "runtime.NumGoroutine") = false) (h2 : fn.body.isNone = true) (h3 : Extern.findNext fn = none) (h4 : Extern.find fn = some Extern.BytealgIndexByte.indexByte) (hx : ev F x = some (BU s)) (hy : ev F y = some (.int .u8 (c.toNat : Int))) :
  PS P n w0 M (.call ⟨.value (.func f),#[x,y],ts⟩) T F L (.int .i64 (Lib.indexByte s c)) L:=
 N0 hf h1 h2 h3 h4 hx hy fun w=>by
  have:=Lib.run_indexByteString (P:=P) ⟨s.toArray⟩ (c.toNat:Int) w
  rw [Ud] at this
  exact this
theorem OO:∀(m t:Nat) (acc:Array Value),∃ xs:Ao,xs.length=m∧(Extern.BytealgMakeNoZero.digits m t acc).toList=acc.toList++xs.flatMap DV
 | 0,_,acc=>⟨[],rfl,by simp [Extern.BytealgMakeNoZero.digits]⟩
 | m+1,t,acc=>by
  obtain⟨xs,h1,h2⟩:=OO m (t / 256) (acc.push (.int .u8 (Int.ofNat (t % 256))))
  refine⟨(t % 256).toUInt8 :: xs,by simp [h1],?_⟩
  rw [Extern.BytealgMakeNoZero.digits,h2]
  have:((t % 256).toUInt8.toNat:Int)=Int.ofNat (t % 256):=by
   simp
  simp [DV,this]
theorem S6 {d : Nat} {f : FuncId} {fn : Func} {ps : Array TypeId} {t E : TypeId} {ts : Array TypeId} {T : TypeId} {pos : String} {Cq : Array Edge} {x : Operand} {m : Int} (hd : Nat.blt d n = true) (hf : P.funcs[f]? = some fn) (h1 : (fn.name == "runtime.NumGoroutine") = false) (h2 : fn.body.isNone = true) (h3 : Extern.findNext fn = none)
  (h4:Extern.find fn=some (Extern.BytealgMakeNoZero.makeNoZero ps #[t])) (hu:P.underlying t=some (.slice E)) (hs:Sz P E 1) (hx:ev F x=some (.int .i64 m)) (h0:0≤m) (hm:m≤281474976710656)
  (k:∀(b cap:Nat) (xs:Ao),xs.length=m.toNat→m.toNat≤cap→GL P n w0 M ops Q rest ((d,Hd.val ⟨some ⟨b,0,none⟩,m.toNat,cap⟩) :: F) (Ac.own ⟨some ⟨b,0,none⟩,m.toNat,cap⟩ E 1 (xs.flatMap DV) :: L)):GL P n w0 M ops Q (⟨some d, .call ⟨.value (.func f),#[x],ts⟩,T,pos,Cq,none⟩ :: rest) F L:=by
 refine F3 (R:=fun v L'=>∃(b cap:Nat) (xs:Ao),v=Hd.val ⟨some ⟨b,0,none⟩,m.toNat,cap⟩∧L'=Ac.own ⟨some ⟨b,0,none⟩,m.toNat,cap⟩ E 1 (xs.flatMap DV) :: L∧xs.length=m.toNat∧m.toNat≤cap) hd ?_ (fun v L' ⟨b,cap,xs,e1,e2,e3,e4⟩=>by subst e1;subst e2;exact k b cap xs e3 e4)
 intro a w hF hS
 obtain⟨N,rfl⟩:=Int.eq_ofNat_of_zero_le h0
 have hN:N≤281474976710656:=by omega
 let cap:=(Question.appendCap N 0 E).cut (w.tape w.drawn (Question.appendCap N 0 E))
 have hcap:N≤cap:=Nat.le_add_right _ _
 let t' := (Question.extern "internal/bytealg.MakeNoZero.bytes" 0).cut (w.tape (w.drawn + 1) (.extern "internal/bytealg.MakeNoZero.bytes" 0))
 obtain⟨ys,hy1,hy2⟩:=OO cap t' #[]
 have hrun:(Extern.BytealgMakeNoZero.makeNoZero ps #[t] #[.int .i64 N]).run P w = .ok (.slice (some ⟨w.heap.size,0,none⟩) N cap) (w.drew.drew.alloc (.cells (ys.flatMap DV).toArray E)):=by
  have hdef:Extern.BytealgMakeNoZero.makeNoZero ps #[t] #[.int .i64 N] =
   (do
    let .slice elem ← underlying t | stuck "bytealg.MakeNoZero: slice type expected"
    if (N : Int) < 0 || (N : Int) > 2 ^ 48 then runtimePanic (.error "makeslice: len out of range")
    let cap ← choose (.appendCap (N:Int).toNat 0 elem)
    askRoom cap
    let bytes ← choose (.extern "internal/bytealg.MakeNoZero.bytes" 0)
    let a ← newRow elem (Extern.BytealgMakeNoZero.digits cap bytes #[])
    pure (.slice (some a) (N:Int).toNat cap)):=rfl
  have g1:¬ (N:Int) < 0:=by omega
  have g2:¬ (281474976710656:Int) < (N:Int):=by omega
  have hdig:Extern.BytealgMakeNoZero.digits cap t' #[]=(ys.flatMap DV).toArray:=by
   apply Array.ext';rw [hy2];simp
  rw [hdef]
  simp [run_underlying hu,g1,g2,Question.forced,newRow]
  exact⟨rfl,congrArg (fun c=>w.drew.drew.alloc (Obj.cells c E)) hdig⟩
 have hS1:St w0 M w.drew.drew L:=hS.drew _
 have hlen:(ys.flatMap DV).length=cap:=by rw [C1 W4.len,hy1,Nat.mul_one]
 have hw1:=hS1.alloc E (ys.flatMap DV)
 have hS':St w0 M (w.drew.drew.alloc (.cells (ys.flatMap DV).toArray E)) (Ac.own ⟨some ⟨w.heap.size,0,none⟩,N,cap⟩ E 1 ((ys.take N).flatMap DV) :: L):=by
  refine hw1.EW (.head) rfl rfl rfl (Nat.le_refl _) (fun _ _ _=>rfl) ?_ (fun b hb=>?_)
  ·refine .inr ⟨w.heap.size,0,ys.flatMap DV,(0,0),rfl,by simp,?_,fun _ _ h=>by simp at h,?_,hcap,?_,?_⟩
   ·have:=hw1.ok _ (List.mem_cons_self ..)
    exact this
   ·show 0+cap * 1≤_;rw [hlen];omega
   ·show N * 1=_;rw [C1 W4.len,List.length_take,hy1,Nat.min_eq_left hcap]
   ·show((ys.flatMap DV).drop 0).take _=_
    rw [List.drop_zero]
    have e:=QN W4 ys N
    rw [C1 W4.len,List.length_take,hy1,Nat.min_eq_left hcap]
    exact e
  ·simp [Ac.own] at hb
   subst hb
   exact⟨by simp, .inl (by simp [Ac.box])⟩
 refine⟨_,_,_,⟨w.heap.size,cap,ys.take N,rfl,rfl,by rw [List.length_take,hy1,Int.toNat_natCast];exact Nat.min_eq_left hcap,by simpa using hcap⟩,?_,hS'⟩
 have:=run_callFunc_extern hf h1 h2 h3 h4 #[.int .i64 N] w
 rw [hrun] at this
 have hx':=hF.ev hx
 have hg:a.eval (.func f) = .func (.func f) #[] #[]:=rfl
 simp [execOp,resolve,Deferred.ofValue,invoke,hg,hx',this,Hd.val]
def cU {α:Type}(T:Nat)(h:Hd)(xs:List α)(Ta:Nat)(a:Hd)(ys:List α)(Tg:Nat)(g:Hd)(zs:List α):Prop:=(T=Ta∧h=a∧xs=ys∧g=⟨none,0,0⟩∧zs = [])∨(T=Tg∧h=g∧zs=xs)
theorem bc {α:Type}{e:α→List Value}{T Ta Tg sz:Nat}{h a g:Hd}{xs ys zs:List α}(ho:cU T h xs Ta a ys Tg g zs)(ka:Kn w0 M L a Ta sz (ys.flatMap e))(kg:Kn w0 M L g Tg sz (zs.flatMap e)):Kn w0 M L h T sz (xs.flatMap e):=by
 rcases ho with ⟨rfl,rfl,rfl,_,_⟩ | ⟨rfl,rfl,rfl⟩
 ·exact ka
 ·exact kg
theorem eF {α:Type}{T Ta Tg:Nat}{h a g:Hd}{xs ys zs:List α}(ho:cU T h xs Ta a ys Tg g zs)(ka:Wn w0 M L a)(kg:Wn w0 M L g):Wn w0 M L h:=by
 rcases ho with ⟨rfl,rfl,rfl,_,_⟩ | ⟨rfl,rfl,rfl⟩
 ·exact ka
 ·exact kg
theorem Gu {α:Type}{e:α→List Value}{d T U E sz:Nat}{x y:Operand}{pos:String}{Cq:Array Edge}{h:Hd}{xs:List α}{kd:IntKind}{i:Int}{Lf:Ac→List Ac}(fe:Flat e sz)(hd:Nat.blt d n=true)(hT:P.underlying T=some (.slice E))(hs:Sz P E sz)(hx:ev F x=some h.val)(hy:ev F y=some (.int kd i))(h0:0≤i)(h1:i≤(h.len:Int))(hU:∀ r,LN L (Ac.own h E sz (xs.flatMap e)) r (Lf r))
  (k:GL P n w0 M ops Q rest ((d,(h.cut i.toNat h.len sz).val) :: F) (Lf (Ac.own (h.cut i.toNat h.len sz) E sz ((xs.drop i.toNat).flatMap e)))):GL P n w0 M ops Q (⟨some d, .slice T x (some y) none none,U,pos,Cq,none⟩ :: rest) F L:=by
 refine F3 (R:=fun v L'=>v=(h.cut i.toNat h.len sz).val∧L'=Lf (Ac.own (h.cut i.toNat h.len sz) E sz ((xs.drop i.toNat).flatMap e))) hd ?_ (fun v L' ⟨e1,e2⟩=>by subst e1;subst e2;exact k)
 intro a w hF hS
 have hok:=hS.ok _ (hU ⟨[],fun _=>True,fun _ _ _ _=>trivial⟩).mem
 have hr:Rd w h E sz (xs.flatMap e):=Kn.own (M:=M) (hU ⟨[],fun _=>True,fun _ _ _ _=>trivial⟩).mem w hS
 have hcap:h.len≤h.cap:=by
  rcases hok with ⟨rfl,_⟩ | ⟨b,o,C,fz,e1,e2,e3,e4,e5,e6,_⟩
  ·exact Nat.le_refl _
  ·exact e6
 have hil:i.toNat≤h.len:=by omega
 have hlc:h.len * sz≤h.cap * sz:=Nat.mul_le_mul_right sz hcap
 have hll:i.toNat * sz≤h.len * sz:=Nat.mul_le_mul_right sz hil
 have hcs:((xs.flatMap e).take (h.len * sz)).drop (i.toNat * sz)=(xs.drop i.toNat).flatMap e:=by
  rw [hr.1,List.take_length]
  have:=Lk fe xs (l:=i.toNat) (r:=xs.length)
  rwa [List.take_length,← C1 fe.len,List.take_length] at this
 have hlen:((xs.drop i.toNat).flatMap e).length=h.len * sz - i.toNat * sz:=by
  rw [← hcs,List.length_drop,List.length_take,← hr.1,Nat.min_self]
 refine⟨_,_,w,⟨rfl,rfl⟩,?_,?_⟩
 ·have hs':=hs w
  simp only [execOp,hF.ev hx,Option.map_some,Option.map_none,hF.ev hy,Hd.val,Instr.sliceAt,Instr.slice,underlying]
  simp [hT,Instr.sliceBounds,Instr.sliceBound,asIntOf,h1,h0,hs',Hd.cut]
 ·refine hS.EW (hU _) rfl rfl rfl (Nat.le_refl _) (fun _ _ _=>rfl) ?_ ?_
  ·rcases hok with ⟨rfl,hn⟩ | ⟨b,o,C,fz,e1,e2,e3,e4,e5,e6,e7,e8⟩
   ·have:i.toNat=0:=by simp at hil;omega
    refine .inl ⟨by simp [Hd.cut,this],?_⟩
    rw [List.eq_nil_of_length_eq_zero (l:=(xs.drop i.toNat).flatMap e) (by rw [hlen];simp)]
   ·by_cases hci:h.cap=i.toNat
    ·have hli:h.len=i.toNat:=by omega
     refine .inr ⟨b,o,C,fz,by simp only [Hd.cut];rw [if_pos hci];exact e1,e2,e3,e4,?_,?_,?_,?_⟩
     ·simp only [Hd.cut];rw [hci,Nat.sub_self,Nat.zero_mul];omega
     ·simp only [Hd.cut];omega
     ·simp only [Hd.cut];rw [hlen,Nat.sub_mul]
     ·rw [hlen,List.eq_nil_of_length_eq_zero (l:=(xs.drop i.toNat).flatMap e) (by rw [hlen,hli];omega),hli];simp
    ·refine .inr ⟨b,o+i.toNat * sz,C,fz,by simp only [Hd.cut];rw [if_neg hci,e1];simp [Ec],e2,e3,fun j hj h=>e4 j (by omega) h,?_,?_,?_,?_⟩
     ·simp only [Hd.cut];rw [Nat.sub_mul];omega
     ·simp only [Hd.cut];omega
     ·simp only [Hd.cut];rw [hlen,Nat.sub_mul]
     ·have hX:xs.flatMap e=(C.drop o).take (h.len * sz):=by rw [hr.1];exact e8.symm
      have hY:(xs.drop i.toNat).flatMap e=((C.drop o).take (h.len * sz)).drop (i.toNat * sz):=by rw [← hcs,← hX,hr.1,List.take_length]
      rw [hlen,hY,List.drop_take,List.drop_drop]
  ·intro b hb
   have hb':b∈(Ac.own h E sz (xs.flatMap e)).CT:=by
    revert hb
    simp only [Ac.own,Hd.cut]
    cases ha:h.a with
    | none=>by_cases hc:h.cap=i.toNat<;>simp [hc]
    | some a=>
     by_cases hc:h.cap=i.toNat
     ·simp [hc]
     ·simp only [hc,if_false,Option.map_some]
      unfold Addr.add
      split<;>simp
   exact⟨(hS.CT _ (hU ⟨[],fun _=>True,fun _ _ _ _=>trivial⟩).mem b hb').1, .inl hb'⟩
end
end Go.Ing
/- The plain functions of pages. -/
namespace Go.Ing
open Go
namespace Page
/-! #### what is escaped -/
def escape (s:Ao):Ao:=s.flatMap fun b=>if b=255 then [255,255] else [b]
theorem Pp (a b:Ao):escape (a++b)=escape a++escape b:=List.flatMap_append
theorem Hn (s:Ao):(escape s).length≤2 * s.length:=by
 induction s with
 | nil=>simp [escape]
 | cons b s ih=>
  have e:escape (b :: s)=(if b=255 then [255,255] else [b])++escape s:=rfl
  rw [e,List.length_append,List.length_cons]
  split<;>simp<;>omega
theorem M6 (s:Ao)(h:s.count 255=0):escape s=s:=by
 induction s with
 | nil=>rfl
 | cons b s ih=>
  have hb:b≠255:=fun e=>by subst e;simp at h
  have hs:s.count 255=0:=by rw [List.count_cons_of_ne (by simpa using hb)] at h;exact h
  have e:escape (b :: s)=(if b=255 then [255,255] else [b])++escape s:=rfl
  rw [e,if_neg hb,ih hs];rfl
theorem N8:∀(s:Ao),0 < s.count 255→∃ i:Nat,Lib.indexByte s 255=i∧i < s.length∧escape (s.take i)=s.take i∧s.drop i=255 :: s.drop (i+1)∧(s.drop (i+1)).count 255+1=s.count 255
 | [],h=>by simp at h
 | b :: s,h=>by
  by_cases hb:b=255
  ·subst hb
   exact⟨0,by simp [Lib.indexByte],by simp,by simp [escape],by simp,by simp⟩
  ·have hs:s.count 255=(b :: s).count 255:=(List.count_cons_of_ne (by simpa using hb)).symm
   obtain⟨i,h1,h2,h3,h4,h5⟩:=N8 s (by rw [hs];exact h)
   refine⟨i+1,?_,by simp;omega,?_,by simpa using h4,by simp only [List.drop_succ_cons];rw [h5,hs]⟩
   ·have hne:(b == (255:UInt8))=false:=by simpa using hb
    have hm:((i:Int) == -1)=false:=beq_eq_false_iff_ne.2 (by omega)
    simp [Lib.indexByte,hne,h1,hm]
   ·rw [List.take_succ_cons]
    have e:escape (b :: s.take i)=(if b=255 then [255,255] else [b])++escape (s.take i):=rfl
    rw [e,if_neg hb,h3];rfl
theorem Wu (c:UInt8):Lib.indexByte [c] c=0:=by simp [Lib.indexByte]
structure RF (s:Ao)(m:Nat)(k start:Int)(x:Ao):Prop where
 k0:0≤k
 k1:k≤m
 s0:0≤start
 s1:start≤s.length
 e:x++escape (s.drop start.toNat)=escape s
 c:((s.drop start.toNat).count 255:Int)=m - k
 xl:(x.length:Int)≤2 * start
theorem RF.start {s:Ao}{m:Nat}(h:s.count 255=m):RF s m 0 0 []:=⟨by omega,by omega,by omega,by omega,rfl,by simp [h],by simp⟩
theorem RF.idx {s:Ao}{m:Nat}{k start:Int}{x:Ao}(h:RF s m k start x)(hk:k < m):∃ i:Nat,Lib.indexByte (s.drop start.toNat) 255=i∧start+i < s.length∧RF s m (k+1) (start+i+1) (x++((s.take (start+i).toNat).drop start.toNat) ++ [255,255]):=by
 obtain⟨k0,k1,s0,s1,e,c,xl⟩:=h
 obtain⟨i,h1,h2,h3,h4,h5⟩:=N8 (s.drop start.toNat) (by omega)
 rw [List.length_drop] at h2
 rw [List.drop_drop,List.drop_drop] at h4
 rw [List.drop_drop] at h5
 have e1:(start+i).toNat=start.toNat+i:=by omega
 have e2:(start+i+1).toNat=start.toNat+(i+1):=by omega
 have et:(s.take (start+i).toNat).drop start.toNat=(s.drop start.toNat).take i:=by rw [e1,List.drop_take];congr 1;omega
 refine⟨i,h1,by omega,by omega,by omega,by omega,by omega,?_,?_,?_⟩
 ·rw [et,e2,← e]
  have:escape (s.drop start.toNat)=(s.drop start.toNat).take i++([255,255]++escape (s.drop (start.toNat+(i+1)))):=by
   conv=>lhs;rw [← List.take_append_drop i (s.drop start.toNat),Pp,h3,List.drop_drop,h4]
   rfl
  rw [this]
  simp only [List.append_assoc]
 ·rw [e2];omega
 ·rw [et];simp only [List.length_append,List.length_take,List.length_drop,List.length_cons,List.length_nil];omega
theorem RF.done {s:Ao}{m:Nat}{k start:Int}{x:Ao}(h:RF s m k start x)(hk:¬ k < m):x++s.drop start.toNat=escape s:=by
 have:=h.e
 rwa [M6 _ (by have:=h.c;omega)] at this
/-! #### pages -/
structure Pg where
 shown:Int
 CC:Bool
 ring:Ao
 cut:Bool
 deriving DecidableEq,Inhabited
def of (p:Az):Pg:=⟨p.shown,p.CC,p.ring,p.cut⟩
def Bh (p:Az):Bool:=decide ((p.wait.len:Int)≤60) && decide ((p.ring.length:Int)≤700) && decide (0≤p.shown) && decide (p.shown≤200)
def put (x:Pg)(s:Ao):Pg:=if x.cut=true then x else if decide (700 - (x.ring.length:Int) < s.length)=true then { x with cut:=true } else { x with ring:=x.ring++s }
def send (p:Az)(s:Ao):Pg × Int:=if (!Bh p)=true then(of p,2) else if p.cut=true then(of p,6) else(put (of p) s,0)
theorem S4 {p:Az}(h:Bh p=true)(s:Ao):(send p s).1=put (of p) s:=by
 unfold send
 rw [h]
 cases hc:p.cut<;>simp [put,of,hc]
theorem L2 {x:Pg}{s:Ao}(h:x.ring.length≤700):(put x s).ring.length≤700:=by
 unfold put
 split
 ·exact h
 ·split
  ·exact h
  ·rename_i h1
   simp only [List.length_append]
   simp at h1;omega
theorem HR (x:Pg)(s:Ao):(put x s).shown=x.shown:=by
 unfold put;split
 ·rfl
 ·split<;>rfl
def Un:Ao:= [45,45,32,109,111,114,101,32,45,45,13,10]
def BX (ht:Int):List Ao→Pg→Pg × List Ao
 | [],x=>(x,[])
 | s :: r,x=>if (x.CC || x.cut)=true then(x,s :: r) else if (decide (0 < ht) && decide (ht≤x.shown))=true then(put { x with CC:=true } Un,s :: r) else BX ht r (put { x with shown:=min (x.shown+1) 200 } (escape s ++ [13,10]))
theorem RK {p:Az}(h1:p.wait.len≤60)(h2:p.ring.length≤700)(h3:0≤p.shown)(h4:p.shown≤200):Bh p=true:=by
 simp only [Bh,Bool.and_eq_true,decide_eq_true_eq];omega
theorem HT (p:Az):Bh p=true↔p.wait.len≤60∧p.ring.length≤700∧0≤p.shown∧p.shown≤200:=by
 simp only [Bh,Bool.and_eq_true,decide_eq_true_eq];omega
structure FI (ht:Int)(qs:List Ao)(x0:Pg)(rest:List Ao)(h:Hd)(x:Pg):Prop where
 n:rest.length≤60
 hl:h.len=rest.length
 ring:x.ring.length≤700
 s0:0≤x.shown
 s1:x.shown≤200
 len:∀ s∈rest,s.length≤70368744000000
 e:BX ht qs x0=BX ht rest x
theorem FI.start {ht:Int}{qs:List Ao}{p:Az}(hg:Bh p=true)(hl:p.wait.len=qs.length)(hs:∀ s∈qs,s.length≤70368744000000):FI ht qs (of p) qs p.wait (of p):=by
 obtain⟨h1,h2,h3,h4⟩:=(HT p).1 hg
 exact⟨by omega,hl,h2,h3,h4,hs,rfl⟩
theorem FI.Bh {ht:Int}{qs rest:List Ao}{x0 x:Pg}{h:Hd}(hI:FI ht qs x0 rest h x){n:Hd}(hn:n.len≤60){a:Bool}{c:Bool}:Page.Bh ⟨n,x.shown,a,x.ring,c⟩=true:=RK hn hI.ring hI.s0 hI.s1
theorem FI.next {ht:Int}{qs r:List Ao}{s:Ao}{x0:Pg}{h h':Hd}{sh:Int}{az ct:Bool}{ring:Ao}(hI:FI ht qs x0 (s :: r) h ⟨sh,az,ring,ct⟩)(ha:az=false)(hc:ct=false)(hm:(decide (0 < ht) && decide (ht≤sh))=false)(hl:h'.len=r.length){y:Pg}
  (hy:y=(send ⟨h',min (sh+1) 200,az,ring,ct⟩ (escape s ++ [13,10])).1):FI ht qs x0 r h' y:=by
 obtain⟨h1,h2,h3,h4,h5,h6,h7⟩:=hI
 subst ha;subst hc
 simp only at h3 h4 h5
 have h1':=h1
 rw [List.length_cons] at h1'
 have hg:Page.Bh ⟨h',min (sh+1) 200,false,ring,false⟩=true:=RK (by rw [hl];omega) h3 (by simp only;omega) (by simp only;omega)
 rw [S4 hg] at hy
 subst hy
 refine⟨by omega,hl,L2 h3,?_,?_,fun t ht=>h6 t (by simp [ht]),?_⟩
 ·rw [HR];show 0≤min (sh+1) 200;omega
 ·rw [HR];show min (sh+1) 200≤200;omega
 ·rw [h7,BX]
  simp only [Bool.or_self,Bool.false_eq_true,if_false,hm]
  rfl
theorem FI.asks {ht:Int}{qs r:List Ao}{s:Ao}{x0:Pg}{h:Hd}{sh:Int}{az ct:Bool}{ring:Ao}(hI:FI ht qs x0 (s :: r) h ⟨sh,az,ring,ct⟩)(ha:az=false)(hc:ct=false)(hm:(decide (0 < ht) && decide (ht≤sh))=true) :
  BX ht qs x0=((send ⟨h,sh,true,ring,ct⟩ Un).1,s :: r):=by
 obtain⟨h1,h2,h3,h4,h5,h6,h7⟩:=hI
 have hg:Page.Bh ⟨h,sh,true,ring,ct⟩=true:=RK (by rw [h2];exact h1) h3 h4 h5
 rw [S4 hg,h7,BX,ha,hc]
 simp only [Bool.or_self,Bool.false_eq_true,if_false,hm,if_true]
 rfl
theorem FI.ends {ht:Int}{qs rest:List Ao}{x0 x:Pg}{h:Hd}(hI:FI ht qs x0 rest h x)(hc:rest = []∨x.CC=true∨x.cut=true):BX ht qs x0=(x,rest):=by
 rw [hI.e]
 cases rest with
 | nil=>rfl
 | cons s r=>
  have:(x.CC || x.cut)=true:=by
   rcases hc with h | h | h
   ·cases h
   ·simp [h]
   ·simp [h]
  rw [BX,if_pos this]
theorem FI.dD {ht:Int}{qs rest:List Ao}{x0:Pg}{h:Hd}{sh:Int}{az ct:Bool}{ring:Ao}(hI:FI ht qs x0 rest h ⟨sh,az,ring,ct⟩)(hc:(decide (0 < (h.len:Int)) && !az && !ct)=false):BX ht qs x0=(⟨sh,az,ring,ct⟩,rest):=by
 refine hI.ends ?_
 have hl:=hI.hl
 cases rest with
 | nil=>exact .inl rfl
 | cons s r=>
  rw [List.length_cons] at hl
  have:decide (0 < (h.len:Int))=true:=decide_eq_true (by omega)
  rw [this] at hc
  cases az with
  | true=>exact .inr (.inl rfl)
  | false=>
   cases ct with
   | true=>exact .inr (.inr rfl)
   | false=>cases hc
theorem FI.hd {ht:Int}{qs rest:List Ao}{x0 x:Pg}{h h':Hd}(hI:FI ht qs x0 rest h x)(hl:h'.len=rest.length):FI ht qs x0 rest h' x:=⟨hI.n,hl,hI.ring,hI.s0,hI.s1,hI.len,hI.e⟩
theorem Zc (ht:Int)(qs:List Ao):∀ x:Pg,(BX ht qs x).2.length≤qs.length:=by
 induction qs with
 | nil=>intro x;exact Nat.le_refl _
 | cons s r ih=>
  intro x
  rw [BX]
  split
  ·exact Nat.le_refl _
  ·split
   ·exact Nat.le_refl _
   ·have:=ih (put { x with shown:=min (x.shown+1) 200 } (escape s ++ [13,10]))
    rw [List.length_cons];omega
@[reducible] def K (n:Int) (r:Ao):Nat:=(max 0 (min n (r.length:Int))).toNat
end Page
end Go.Ing
/- The plain functions of the land: what the program's package 'land' computes. -/
namespace Go.Ing
open Go
namespace AG
def KA (w:AG):Nat→Am→Bool
 | 0,_=>false
 | n+1,t=>if (!decide (t.CZ=2))=true then true else if (decide (n=0) || decide (t.at_ < 0) || decide (9≤t.at_))=true then false else KA w n (w.AO.at t.at_)
def Cm (w:AG)(i:Int):Bool:=
 if (decide ((w.AO.at i).kind < 0) || decide (3 < (w.AO.at i).kind) || (decide ((w.AO.at i).kind=0) && (w.AO.at i).on) || decide ((w.AO.at i).at_ < 0))=true then false
 else if decide ((w.AO.at i).CZ=0)=true then decide ((w.AO.at i).at_ < 6) && !(decide ((w.AO.at i).kind=2) && (w.AO.at i).on)
 else if decide ((w.AO.at i).CZ=1)=true then decide ((w.AO.at i).at_ < 6) && (w.AN.at (w.AO.at i).at_).here
 else if decide ((w.AO.at i).CZ=2)=true then(if (decide (9≤(w.AO.at i).at_) || (!decide ((w.AO.at (w.AO.at i).at_).kind=3)) || (decide ((w.AO.at i).kind=2) && (w.AO.at i).on))=true then false else KA w 10 (w.AO.at i))
 else false
def opposite (d:Int):Int:=(max 0 (min d 5)+3).tmod 6
def inside (w:AG)(box:Int):Nat→Int→Bool
 | 0,_=>false
 | n+1,i=>if decide (i=box)=true then true else if (decide (i < 0) || decide (9≤i) || !decide ((w.AO.at i).CZ=2))=true then false else inside w box n (w.AO.at i).at_
def TQ (w:AG)(i box:Int):Bool:=inside w box 10 i
def J6 (w:AG):Nat→Int→Bool→Int × Bool
 | 0,_,_=>(-1,false)
 | n+1,i,o=>
  if (decide (i < 0) || decide (9≤i))=true then(-1,false)
  else if decide ((w.AO.at i).CZ=0)=true then((w.AO.at i).at_,o)
  else if decide ((w.AO.at i).CZ=1)=true then(if (decide ((w.AO.at i).at_ < 0) || decide (6≤(w.AO.at i).at_))=true then(-1,false) else((w.AN.at (w.AO.at i).at_).room,o))
  else if decide ((w.AO.at i).CZ=2)=true then
   (if (decide (0≤(w.AO.at i).at_) && decide ((w.AO.at i).at_ < 9) && !(w.AO.at (w.AO.at i).at_).on)=true then J6 w n (w.AO.at i).at_ false else J6 w n (w.AO.at i).at_ o)
  else(-1,false)
def room (w:AG)(i:Int):Int × Bool:=J6 w 10 i true
def H6 (r:Room)(d:Int):Bool:=decide (r.CP.at d < 0) || decide (6 < r.CP.at d) || (decide (r.CP.at d=0) && r.shut.at d)
def Dm (b:Aj):Bool:=decide (b.room < 0) || decide (6≤b.room) || decide (b.BI < 0) || decide (10 < b.BI) || decide (b.B2 < 0) || decide (6 < b.B2) || (!b.here && !decide (b.B2=0)) || b.here != decide (0 < b.BI)
def MC (w:AG)(k:Int):Bool:=B8 6 (fun d=>!H6 (w.BS.at k) d) 6
def Bh (w:AG):Bool:=B8 6 w.MC 6 && (B8 6 (fun k=>!Dm (w.AN.at k)) 6 && B8 9 w.Cm 9)
def has (w:AG)(CZ at_:Int):List Int:=((List.range 9).map Int.ofNat).filter fun k=>decide ((w.AO.at k).CZ=CZ) && decide ((w.AO.at k).at_=at_)
end AG
end Go.Ing
/- The land as it begins. -/
namespace Go.Ing
open Go
namespace AG
def ex (a b c d e f:Int):Vector Int 6:=((((((Vector.replicate 6 default).put 0 a).put 1 b).put 2 c).put 3 d).put 4 e).put 5 f
def sh (i:Int):Vector Bool 6:=(Vector.replicate 6 default).put i true
def UB:Vector Room 6:=(((((((Vector.replicate 6 default).put 0 ⟨[104,101,97,114,116,104],false,(ex 2 3 4 0 0 5),sh 5⟩).put 1 ⟨[121,97,114,100],false,(ex 0 0 0 1 0 0),default⟩).put 2 ⟨[112,97,110,116,114,121],true,(ex 0 0 0 0 1 0),default⟩).put 3 ⟨[108,111,102,116],true,(ex 0 6 0 0 0 1),default⟩).put 4 ⟨[99,101,108,108,97,114],true,(ex 0 0 1 0 0 0),sh 2⟩).put 5 ⟨[97,116,116,105,99],false,(ex 0 0 0 0 4 0),default⟩)
def RU:Vector Am 9:=((((((((((Vector.replicate 9 default).put 0 ⟨[108,97,109,112],1,0,0,false⟩).put 1 ⟨[108,97,109,112],1,0,3,false⟩).put 2 ⟨[99,108,111,97,107],2,0,0,false⟩).put 3 ⟨[99,104,101,115,116],3,0,4,false⟩).put 4 ⟨[99,111,105,110],0,2,3,false⟩).put 5 ⟨[99,111,105,110],0,0,1,false⟩).put 6 ⟨[109,117,103],0,0,0,false⟩).put 7 ⟨[98,111,120],3,0,0,true⟩).put 8 ⟨[107,101,121],0,1,1,false⟩)
def UH:Nat→AG
 | 0=>default
 | k+1=>{ UH k with BS:=(UH k).BS.put k (UB.toList.getD k default) }
def IZ:Nat→AG
 | 0=>UH 6
 | k+1=>{ IZ k with AO:=(IZ k).AO.put k (RU.toList.getD k default) }
def new:AG:={ IZ 9 with AN:=((IZ 9).AN.put 0 ⟨[99,97,116],true,true,0,10,0⟩).put 1 ⟨[114,97,116],true,false,4,3,0⟩ }
theorem Vc {k:Int}(h:0≤k):UH (k+1).toNat={ UH k.toNat with BS:=(UH k.toNat).BS.put k (UB.toList.getD k.toNat default) }:=by
 obtain⟨m,rfl⟩:=Int.eq_ofNat_of_zero_le h
 rfl
theorem Wz {k:Int}(h:0≤k):IZ (k+1).toNat={ IZ k.toNat with AO:=(IZ k.toNat).AO.put k (RU.toList.getD k.toNat default) }:=by
 obtain⟨m,rfl⟩:=Int.eq_ofNat_of_zero_le h
 rfl
theorem YA:new.Bh=true:=by kernel_rfl
end AG
end Go.Ing
/- Plain laws of lands. -/
namespace Go.Ing
open Go
namespace AG
variable {X:AG}
theorem Oa (h:X.Bh=true){i:Int}(h0:0≤i)(h9:i < 9):X.Cm i=true:=by
 unfold Bh at h
 rw [Bool.and_eq_true,Bool.and_eq_true] at h
 exact(Dg 9).1 h.2.2 i (by omega) h9
theorem FW (h:X.Bh=true){b:Int}(h0:0≤b)(h9:b < 6):Dm (X.AN.at b)=false:=by
 unfold Bh at h
 rw [Bool.and_eq_true,Bool.and_eq_true] at h
 simpa using (Dg 6).1 h.2.1 b (by omega) h9
theorem KM (h:X.Bh=true){r d:Int}(h0:0≤r)(h6:r < 6)(d0:0≤d)(d6:d < 6):H6 (X.BS.at r) d=false:=by
 unfold Bh at h
 rw [Bool.and_eq_true,Bool.and_eq_true] at h
 have:=(Dg 6).1 h.1 r (by omega) h6
 unfold MC at this
 simpa using (Dg 6).1 this d (by omega) d6
structure RD (X:AG)(i:Int):Prop where
 k0:0≤(X.AO.at i).kind
 k3:(X.AO.at i).kind≤3
 plain:(X.AO.at i).kind=0→(X.AO.at i).on=false
 a0:0≤(X.AO.at i).at_
 CZ:((X.AO.at i).CZ=0∧(X.AO.at i).at_ < 6∧¬ ((X.AO.at i).kind=2∧(X.AO.at i).on=true)) ∨
  ((X.AO.at i).CZ=1∧(X.AO.at i).at_ < 6∧(X.AN.at (X.AO.at i).at_).here=true) ∨
  ((X.AO.at i).CZ=2∧(X.AO.at i).at_ < 9∧(X.AO.at (X.AO.at i).at_).kind=3∧¬ ((X.AO.at i).kind=2∧(X.AO.at i).on=true)∧X.KA 10 (X.AO.at i)=true)
theorem Rr {i:Int}(h:X.Cm i=true):RD X i:=by
 unfold Cm at h
 split at h
 ·cases h
 ·rename_i h1
  simp only [Bool.or_eq_true,Bool.and_eq_true,decide_eq_true_eq,not_or,not_and,Bool.not_eq_true] at h1
  obtain⟨⟨⟨a1,a2⟩,a3⟩,a4⟩:=h1
  refine⟨by omega,by omega,a3,by omega,?_⟩
  split at h
  ·rename_i h2
   simp only [Bool.and_eq_true,decide_eq_true_eq,Bool.not_eq_true'] at h h2
   refine .inl ⟨h2,h.1,fun⟨x,y⟩=>?_⟩
   simp [x,y] at h
  ·rename_i h2
   split at h
   ·rename_i h3
    simp only [Bool.and_eq_true,decide_eq_true_eq] at h h3
    exact .inr (.inl ⟨h3,h.1,h.2⟩)
   ·split at h
    ·rename_i h4
     split at h
     ·cases h
     ·rename_i h5
      simp only [Bool.or_eq_true,Bool.and_eq_true,decide_eq_true_eq,not_or,not_and,Bool.not_eq_true,Bool.not_eq_true',decide_eq_false_iff_not,Decidable.not_not] at h4 h5
      refine .inr (.inr ⟨h4,by omega,h5.1.2,fun⟨x,y⟩=>?_,h⟩)
      have:=h5.2 x
      rw [y] at this;cases this
    ·cases h
def Out (X:AG):Nat→Int→Prop
 | 0,i=>(X.AO.at i).CZ≠2
 | n+1,i=>(X.AO.at i).CZ=2∧0≤(X.AO.at i).at_∧(X.AO.at i).at_ < 9∧Out X n (X.AO.at i).at_
theorem Lc:∀(n:Nat) (i:Int),X.KA n (X.AO.at i)=true→∃ m,m < n∧Out X m i
 | 0,i,h=>by simp [KA] at h
 | n+1,i,h=>by
  unfold KA at h
  split at h
  ·rename_i h1;exact⟨0,by omega,by simpa [Out] using h1⟩
  ·rename_i h1
   split at h
   ·cases h
   ·rename_i h2
    simp only [Bool.or_eq_true,decide_eq_true_eq,not_or] at h2
    obtain⟨m,hm,ho⟩:=Lc n _ h
    exact⟨m+1,by omega,by simpa using h1,by omega,by omega,ho⟩
theorem S8 (h:X.Bh=true){i:Int}(h0:0≤i)(h9:i < 9):∃ n,n < 10∧Out X n i:=by
 have ht:=Rr (Oa h h0 h9)
 rcases ht.CZ with ⟨w,_⟩ | ⟨w,_⟩ | ⟨_,_,_,_,c⟩
 ·exact⟨0,by omega,by simp [Out,w]⟩
 ·exact⟨0,by omega,by simp [Out,w]⟩
 ·exact Lc 10 i c
theorem Out.uniq:∀ {n m:Nat} {i:Int},Out X n i→Out X m i→n=m
 | 0,0,_,_,_=>rfl
 | 0,m+1,i,h,k=>absurd k.1 h
 | n+1,0,i,h,k=>absurd h.1 k
 | n+1,m+1,i,h,k=>by rw [Out.uniq h.2.2.2 k.2.2.2]
theorem Vs (X:AG)(i:Int):X.TQ i i=true:=by simp [TQ,inside]
end AG
end Go.Ing
/- Engine: the strings of a slice within a struct that came in, as parts of its reading. -/
namespace Go.Ing
open Go Go.RowKit Go.ChangeShapes Go.WideShapes Go.ChangeAt
section
variable {H:Type} {enc:TypeId × Value→H} {P:Program} {w:World}
end
end Go.Ing
/- Engine: maps of the call's own, from integers. -/
namespace Go.Ing
open Go Go.MapKept
section
variable {P:Program} {n:Nat} {w0:World} {M:List Nat} {Q:Exit→Go.Act→World→Prop} {F F':List (Nat × Value)} {L L':List Ac} {ops:Array Oper} {rest:List Oper}
end
end Go.Ing
/- The plain functions of sense. -/
namespace Go.Ing
open Go
namespace AG
def lit (w:AG)(r i:Int):Bool:=!(!decide ((w.AO.at i).kind=1) || !(w.AO.at i).on) && (decide ((w.room i).1=r) && (w.room i).2)
def Hr (w:AG)(r:Int):Bool:=if (decide (r < 0) || decide (6≤r))=true then false else if (!(w.BS.at r).Lw)=true then true else !(B8 9 (fun i=>!w.lit r i) 9)
def L6 (w:AG)(b i:Int):Bool:=decide ((w.AO.at i).kind=2) && (w.AO.at i).on && decide ((w.AO.at i).CZ=1) && decide ((w.AO.at i).at_=b)
def hidden (w:AG)(b:Int):Bool:=!(B8 9 (fun i=>!w.L6 b i) 9)
def Au (w:AG)(b:Int):Bool:=decide (0≤b) && decide (b < 6) && (w.AN.at b).here
def I5 (w:AG)(a b:Int):Bool:=if (!w.Au a || !w.Au b)=true then false else if decide (a=b)=true then true else decide ((w.AN.at a).room=(w.AN.at b).room) && w.Hr (w.AN.at a).room && ((w.AN.at a).OW || !w.hidden b)
def dA (k:Int):Bool:=decide (k=7) || decide (k=14) || decide (k=15)
def Xz (w:AG)(b:Int)(e:Event):Bool:=decide (0≤e.other) && decide (e.other < 6) && !w.I5 b e.other
def Du (w:AG)(b:Int)(e:Event):Int:=
 if (!w.Au b)=true then 0
 else if decide (b=e.DK)=true then(if (decide (e.other < 0) || decide (6≤e.other) || w.I5 b e.other)=true then 1 else 5)
 else if (decide (e.kind=16) || !decide ((w.AN.at b).room=e.room))=true then 0
 else if (!w.I5 b e.DK)=true then(if (!dA e.kind)=true then 0 else if w.Xz b e=true then 1+2+4 else 1+2)
 else if w.Xz b e=true then 1+4 else 1
def Hz (w:AG)(e:Event):Nat→Event
 | 0=>e
 | k+1=>{ Hz w e k with Hj:=(Hz w e k).Hj.put k (Du w k (Hz w e k)) }
theorem Vl {w:AG}{e:Event}{k:Int}(h:0≤k):w.Hz e (k+1).toNat={ w.Hz e k.toNat with Hj:=(w.Hz e k.toNat).Hj.put k (w.Du k (w.Hz e k.toNat)) }:=by
 obtain⟨m,rfl⟩:=Int.eq_ofNat_of_zero_le h
 rfl
/-! #### what is heard of who says -/
def cw:Ao:= [89,111,117,32,115,97,121,58,32,88]
def said (t:Ao)(k:Int):Ao:=if k≤9 then cw.take k.toNat else cw.take 9++t
/-! #### laws -/
theorem K5 {w:AG}{a b:Int}(h:w.I5 a b=true):w.Au a=true∧w.Au b=true∧(a=b∨((w.AN.at a).room=(w.AN.at b).room∧w.Hr (w.AN.at a).room=true∧((w.AN.at a).OW=true∨w.hidden b=false))):=by
 unfold I5 at h
 split at h
 ·cases h
 ·rename_i h1
  simp at h1
  split at h
  ·rename_i h2
   exact⟨h1.1,h1.2, .inl (by simpa using h2)⟩
  ·simp at h
   exact⟨h1.1,h1.2, .inr ⟨h.1.1,h.1.2,h.2⟩⟩
theorem HP {w:AG}{b:Int}(h:w.Au b=true):0≤b∧b < 6∧(w.AN.at b).here=true:=by
 simpa [Au,and_assoc] using h
section
variable {w:AG} {b:Int} {e:Event}
end
end AG
end Go.Ing
/- Where a thing is at last: two roads. -/
namespace Go.Ing
open Go
def un (s:List Int)(j:Int):Nat:=if j∈s then 0 else 1
def Sq (s:List Int):Nat:=un s 0+un s 1+un s 2+un s 3+un s 4+un s 5+un s 6+un s 7+un s 8
theorem Zm (s:List Int)(i j:Int)(hj:j≠i):un (s ++ [i]) j=un s j:=by simp [un,hj]
theorem bJ (s:List Int)(i:Int):un (s ++ [i]) i=0:=by simp [un]
theorem bA {s:List Int}{i:Int}(h:i ∉ s):un s i=1:=by simp [un,h]
theorem Pd {s:List Int}{i:Int}(h:i ∉ s)(h0:0≤i)(h9:i < 9):Sq (s ++ [i])+1=Sq s:=by
 have hc:i=0∨i=1∨i=2∨i=3∨i=4∨i=5∨i=6∨i=7∨i=8:=by omega
 have hh:=bJ s i
 have hn:=bA h
 have g:∀ j:Int,j≠i→un (s ++ [i]) j=un s j:=fun j hj=>Zm s i j hj
 unfold Sq
 rcases hc with e | e | e | e | e | e | e | e | e
 ·have g1:=g 1 (by omega);have g2:=g 2 (by omega);have g3:=g 3 (by omega);have g4:=g 4 (by omega);have g5:=g 5 (by omega);have g6:=g 6 (by omega);have g7:=g 7 (by omega);have g8:=g 8 (by omega)
  rw [e] at hh hn g1 g2 g3 g4 g5 g6 g7 g8 ⊢;omega
 ·have g0:=g 0 (by omega);have g2:=g 2 (by omega);have g3:=g 3 (by omega);have g4:=g 4 (by omega);have g5:=g 5 (by omega);have g6:=g 6 (by omega);have g7:=g 7 (by omega);have g8:=g 8 (by omega)
  rw [e] at hh hn g0 g2 g3 g4 g5 g6 g7 g8 ⊢;omega
 ·have g0:=g 0 (by omega);have g1:=g 1 (by omega);have g3:=g 3 (by omega);have g4:=g 4 (by omega);have g5:=g 5 (by omega);have g6:=g 6 (by omega);have g7:=g 7 (by omega);have g8:=g 8 (by omega)
  rw [e] at hh hn g0 g1 g3 g4 g5 g6 g7 g8 ⊢;omega
 ·have g0:=g 0 (by omega);have g1:=g 1 (by omega);have g2:=g 2 (by omega);have g4:=g 4 (by omega);have g5:=g 5 (by omega);have g6:=g 6 (by omega);have g7:=g 7 (by omega);have g8:=g 8 (by omega)
  rw [e] at hh hn g0 g1 g2 g4 g5 g6 g7 g8 ⊢;omega
 ·have g0:=g 0 (by omega);have g1:=g 1 (by omega);have g2:=g 2 (by omega);have g3:=g 3 (by omega);have g5:=g 5 (by omega);have g6:=g 6 (by omega);have g7:=g 7 (by omega);have g8:=g 8 (by omega)
  rw [e] at hh hn g0 g1 g2 g3 g5 g6 g7 g8 ⊢;omega
 ·have g0:=g 0 (by omega);have g1:=g 1 (by omega);have g2:=g 2 (by omega);have g3:=g 3 (by omega);have g4:=g 4 (by omega);have g6:=g 6 (by omega);have g7:=g 7 (by omega);have g8:=g 8 (by omega)
  rw [e] at hh hn g0 g1 g2 g3 g4 g6 g7 g8 ⊢;omega
 ·have g0:=g 0 (by omega);have g1:=g 1 (by omega);have g2:=g 2 (by omega);have g3:=g 3 (by omega);have g4:=g 4 (by omega);have g5:=g 5 (by omega);have g7:=g 7 (by omega);have g8:=g 8 (by omega)
  rw [e] at hh hn g0 g1 g2 g3 g4 g5 g7 g8 ⊢;omega
 ·have g0:=g 0 (by omega);have g1:=g 1 (by omega);have g2:=g 2 (by omega);have g3:=g 3 (by omega);have g4:=g 4 (by omega);have g5:=g 5 (by omega);have g6:=g 6 (by omega);have g8:=g 8 (by omega)
  rw [e] at hh hn g0 g1 g2 g3 g4 g5 g6 g8 ⊢;omega
 ·have g0:=g 0 (by omega);have g1:=g 1 (by omega);have g2:=g 2 (by omega);have g3:=g 3 (by omega);have g4:=g 4 (by omega);have g5:=g 5 (by omega);have g6:=g 6 (by omega);have g7:=g 7 (by omega)
  rw [e] at hh hn g0 g1 g2 g3 g4 g5 g6 g7 ⊢;omega
namespace AG
def conv (w:AG)(r:Int × Int × Bool × Bool):Int × Bool:=
 if (r.2.2.2 && decide (r.1=1))=true then(if (decide (r.2.1 < 0) || decide (5 < r.2.1))=true then(-1,false) else((w.AN.at r.2.1).room,r.2.2.1))
 else if (!r.2.2.2)=true then(-1,false) else(r.2.1,r.2.2.1)
/-! #### inside -/
/-! #### the document's sense -/
end AG
end Go.Ing
/- How the land stands: plain laws. -/
namespace Go.Ing
open Go
namespace AG
def P0 (X:AG)(CZ at_:Int)(n:Nat):List Int:=((List.range n).map Int.ofNat).filter fun k=>decide ((X.AO.at k).CZ=CZ) && decide ((X.AO.at k).at_=at_)
theorem UQ (X:AG)(CZ at_:Int):X.has CZ at_=X.P0 CZ at_ (9:Int).toNat:=rfl
theorem SM (X:AG)(CZ at_:Int)(n:Nat):(X.P0 CZ at_ n).length≤n:=by
 unfold P0
 refine Nat.le_trans (List.length_filter_le _ _) ?_
 simp
theorem bl {X:AG}{CZ at_ k:Int}(h:0≤k)(c:(decide ((X.AO.at k).CZ=CZ) && decide ((X.AO.at k).at_=at_))=true):X.P0 CZ at_ (k+1).toNat=X.P0 CZ at_ k.toNat ++ [k]:=by
 obtain⟨n,rfl⟩:=Int.eq_ofNat_of_zero_le h
 rw [show((n:Int)+1).toNat=n+1 by omega,show((n:Int)).toNat=n by omega]
 unfold P0
 rw [List.range_succ,List.map_append,List.filter_append]
 congr 1
 simp only [List.map_cons,List.map_nil]
 exact(List.filter_cons_of_pos (p:=fun k=>decide ((X.AO.at k).CZ=CZ) && decide ((X.AO.at k).at_=at_)) (a:=(n:Int)) (l:= []) c).trans rfl
theorem bq {X:AG}{CZ at_ k:Int}(h:0≤k)(c:(decide ((X.AO.at k).CZ=CZ) && decide ((X.AO.at k).at_=at_))=false):X.P0 CZ at_ (k+1).toNat=X.P0 CZ at_ k.toNat:=by
 obtain⟨n,rfl⟩:=Int.eq_ofNat_of_zero_le h
 rw [show((n:Int)+1).toNat=n+1 by omega,show((n:Int)).toNat=n by omega]
 unfold P0
 rw [List.range_succ,List.map_append,List.filter_append]
 refine Eq.trans (congrArg _ ?_) (List.append_nil _)
 simp only [List.map_cons,List.map_nil]
 exact(List.filter_cons_of_neg (p:=fun k=>decide ((X.AO.at k).CZ=CZ) && decide ((X.AO.at k).at_=at_)) (a:=(n:Int)) (l:= []) (fun e=>by have:=c.symm.trans e;cases this)).trans rfl
/-! #### good, as the document has it -/
/-! #### the land as the document makes it -/
def names:List Ao:= [[104,101,97,114,116,104],[121,97,114,100],[112,97,110,116,114,121],[108,111,102,116],[99,101,108,108,97,114],[97,116,116,105,99]]
end AG
end Go.Ing
/- Engine: the program's own variables, as they are laid when a call begins; the decimal numeral. -/
namespace Go.Ing
open Go
def GV (g:Nat)(vs:List Value)(w:World):Prop:=∃ t fz,w.heap[g]?=some (.cells vs.toArray t fz)
theorem GV.YM {g:Nat}{vs:List Value}{w w':World}(h:GV g vs w)(ho:∀ k,k < w.heap.size→w'.heap[k]?=w.heap[k]?):GV g vs w':=by
 obtain⟨t,fz,e⟩:=h
 have hg:g < w.heap.size:=by
  rcases Nat.lt_or_ge g w.heap.size with h' | h'
  ·exact h'
  ·rw [Array.getElem?_eq_none h'] at e;cases e
 exact⟨t,fz,(ho g hg).trans e⟩
theorem GV.st {g:Nat}{vs:List Value}{w0 w:World}{L:List Ac}(h:GV g vs w0)(hS:St w0 [] w L):GV g vs w:=h.YM fun k hk=>hS.IX k hk (by simp)
theorem GV.Jx {g:Nat}{vs:List Value}{w0 w:World}(h:GV g vs w0)(hK:CB w0 w):GV g vs w:=h.YM hK.IX
section
variable {P:Program} {n:Nat} {w0:World} {F:List (Nat × Value)} {L:List Ac}
theorem Rn {T U g o:Nat}{x:Operand}{v:Value}{vs:List Value}(hg:GV g vs w0)(hx:ev F x=some (.pointer (some ⟨g,o,none⟩)))(hT:Ro P T)(hv:vs[o]?=some v):PS P n w0 [] (.load T x) U F L v L:=by
 intro a w hF hS
 obtain⟨t,fz,e⟩:=hg.st hS
 have hc:w.cell? ⟨g,o,none⟩=some v:=(H3 e).trans hv
 exact⟨w,by simp [execOp,hF.ev hx,Instr.loadAt,Instr.sureAddr,loadVar,hT w,hc],rfl,rfl⟩
end
theorem TH {P:Program}{w:World}{name:String}{g:Nat}{cs:Array Value}{vs:List Value}(hg:P.globalNamed name=some g)(h:w.var? P name=some cs)(e:cs.toList=vs):GV g vs w:=by
 unfold World.var? at h
 rw [hg] at h
 simp only [Option.bind_some] at h
 split at h
 ·rename_i c t fz hh
  injection h with h
  subst h
  exact⟨t,fz,by rw [hh,← e]⟩
 ·cases h
theorem Tf {P:Program}{w:World}{name:String}{g:Nat}{vs:List Value}(hg:P.globalNamed name=some g)(h:GV g vs w):w.var? P name=some vs.toArray:=by
 obtain⟨t,fz,e⟩:=h
 unfold World.var?
 rw [hg]
 simp only [Option.bind_some]
 rw [e]
theorem Ng {P:Program}{w:World}{name:String}{d:DataW Unit}:∀(laid:List (String × DataW Unit)) (ps:List MemPlace),DataW.LaidVars P w laid ps→(name,d)∈laid →
  ∃ g t cs fuel p,P.globalNamed name=some g∧(P.globals[g]?).map (·.type)=some t∧w.var? P name=some cs∧DataW.trod (fun _=>()) P w 0 (fun _=>true) false fuel t cs.toList=some (d,p)
 | [],_,_,hm=>by cases hm
 | (n,e) :: r,ps,h,hm=>by
  obtain⟨g,t,cs,fuel,p,q,h1,h2,h3,h4,h5,_⟩:=h
  rcases List.mem_cons.1 hm with hm | hm
  ·injection hm with e1 e2
   subst e1;subst e2
   exact⟨g,t,cs,fuel,p,h1,h2,h3,h4⟩
  ·exact Ng r q h5 hm
def LU {H:Type}(ss:List Ao):DataW H:= .agg (ss.map fun s=> .lit (.string s))
theorem Pl {H:Type}{enc:TypeId × Value→H}{P:Program}{w:World}{base:Nat}{sp:Nat→Bool}{held:Bool}{fuel:Nat}{t e:TypeId}{n:Nat}{cs:List Value}{zs:List Ao}{p:List MemPlace}
  (ht:P.underlying t=some (.array n e)) (he:P.underlying e=some .string) (hce:P.cellsOf e=1) (hct:P.cellsOf t=n)
  (h:DataW.trod enc P w base sp held fuel t cs=some (LU zs,p)):cs=zs.map BU:=by
 obtain⟨xs,m,_,hx,hl,hlen,hf⟩:=DataW.trod_array ht h
 have hxs:xs.map (·.1)=zs.map fun z=>(DataW.lit (.string z):DataW H):=by
  have:=congrArg Prod.fst hx
  simpa [LU] using this.symm
 have hzl:zs.length=n:=by
  have:=congrArg List.length hxs
  simp at this
  omega
 apply List.ext_getElem?
 intro i
 by_cases hi:i < n
 ·have h1:=hf i hi
  rw [hce] at h1
  have h2:xs[i]?=some xs[i]:=List.getElem?_eq_getElem (by omega)
  rw [h2] at h1
  obtain⟨s,hc,e1,_⟩:=DataW.trod_string he h1
  have h3:cs[i]?=some (.string s):=by
   have:=congrArg (·[0]?) hc
   simpa [List.getElem?_take,List.getElem?_drop] using this
  have h4:(xs.map (·.1))[i]?=some (DataW.lit (.string s.data.toList):DataW H):=by
   rw [List.getElem?_map,h2,e1];rfl
  rw [hxs] at h4
  simp only [List.getElem?_map,Option.map_eq_some_iff,DataW.lit.injEq,Lit.string.injEq] at h4
  obtain⟨z',hz',rfl⟩:=h4
  rw [h3,List.getElem?_map,hz']
  rfl
 ·rw [List.getElem?_eq_none (by omega),List.getElem?_eq_none (by simp;omega)]
theorem Z9 {P:Program}{w:World}{laid:List (String × DataW Unit)}{name:String}{g:Nat}{t e:TypeId}{n:Nat}{ss:List Ao}(hL:laidMet P laid w)(hm:(name,LU ss)∈laid)(hg:P.globalNamed name=some g)(hty:(P.globals[g]?).map (·.type)=some t)(ht:P.underlying t=some (.array n e))(he:P.underlying e=some .string)(hce:P.cellsOf e=1)(hct:P.cellsOf t=n):GV g (ss.map BU) w:=by
 obtain⟨ps,hv,_⟩:=hL
 obtain⟨g',t',cs,fuel,p,hg',ht',hvar,hd⟩:=Ng _ _ hv hm
 obtain rfl:=Option.some.inj (hg.symm.trans hg')
 obtain rfl:=Option.some.inj (hty.symm.trans ht')
 exact TH hg hvar (Pl ht he hce hct hd)
theorem ZU {P:Program}{w:World}{laid:List (String × DataW Unit)}{name:String}{g:Nat}{t e:TypeId}{n:Nat}{k:IntKind}{zs:List Int}(hL:laidMet P laid w)(hm:(name,Lib.tabData k zs)∈laid)(hg:P.globalNamed name=some g)(hty:(P.globals[g]?).map (·.type)=some t)(ht:P.underlying t=some (.array n e))(he:P.underlying e=some (.int k))(hce:P.cellsOf e=1)(hct:P.cellsOf t=n):GV g (zs.map fun z=>Value.int k z) w:=by
 obtain⟨ps,hv,_⟩:=hL
 obtain⟨g',t',cs,fuel,p,hg',ht',hvar,hd⟩:=Ng _ _ hv hm
 obtain rfl:=Option.some.inj (hg.symm.trans hg')
 obtain rfl:=Option.some.inj (hty.symm.trans ht')
 exact TH hg hvar (Lib.cells_of_tab ht he hce hct hd)
def Fa:List Value:=Lib.pow10Tab.map fun z=>Value.int .u64 z
theorem Ej.Za {P:Program}{f:FuncId}{args:Array Value}{w:World}{v:Value}(h:Calls P f args w fun e w'=>e = .returned v∧∃ k os,w'=Sort.grow (w.drewN k) os):Ej P f args w fun v' w'=>v'=v∧CB w w':=by
 refine Calls.mono h fun e w' ⟨e1,k,os,e2⟩=>⟨v,e1,rfl,?_⟩
 subst e2
 refine⟨rfl,rfl,rfl,?_,fun i hi=>?_⟩
 ·show w.heap.size≤(w.heap++os).size
  rw [Array.size_append];omega
 ·show(w.heap++os)[i]?=w.heap[i]?
  rw [Array.getElem?_append_left hi]
section
variable {P:Program} {n:Nat} {w0:World} {M:List Nat} {Q:Exit→Go.Act→World→Prop} {F:List (Nat × Value)} {L:List Ac}
theorem Sc {d:Nat}{z:Value}(hz:lk d F=some z):Sub F ((d,z) :: F):=by
 intro k v hk
 simp only [lk] at hk
 cases e:Nat.beq k d with
 | true=>
  have e':k=d:=Nat.eq_of_beq_eq_true e
  subst e'
  rw [e] at hk
  rw [hz];exact hk
 | false=>rw [e] at hk;exact hk
theorem Zy {d t:Nat}{z u:Value}(ht:lk t F=none):Sub ((d,z) :: (t,u) :: F) ((d,z) :: F):=by
 intro k v hk
 simp only [lk] at hk ⊢
 cases e:Nat.beq k d with
 | true=>rw [e] at hk;exact hk
 | false=>
  rw [e] at hk
  cases e2:Nat.beq k t with
  | true=>
   have e':k=t:=Nat.eq_of_beq_eq_true e2
   subst e'
   have hk':lk k F=some v:=hk
   rw [ht] at hk';cases hk'
  | false=>exact hk
theorem RC {α:Type}(f:α→Value){d id:Nat}{c v:Operand}{T:TypeId}{pos:String}{Cq:Array Edge}{b:Bool}{s1 s0 s:α}(hc:ev F c=some (.bool b))(hd:Nat.blt d n=true)(hv:ev F v=some (f s1))(hz:lk d F=some (f s0))(hs:(if b=true then s1 else s0)=s)
  (k:GQ n w0 M Q .normal ((d,f s) :: F) L):G P n w0 M (.cond c (.region id [⟨some d, .assign v,T,pos,Cq,none⟩].toArray false) .skip) Q F L:=by
 refine N2 hc (fun h=>?_) (fun h=>?_)
 ·rw [h,if_pos rfl] at hs
  subst hs
  refine AJ (KN hd (A0 hv) (AQ k))
 ·rw [h,if_neg (by decide)] at hs
  subst hs
  exact Aa fun a w hF hS=>k a w (hF.sub (Sc hz)) hS
theorem bX {α:Type}(f:α→Value){d t id:Nat}{c v:Operand}{T T':TypeId}{pos pos':String}{Cq aft':Array Edge}{b:Bool}{s1 s0 s:α}(hc:ev F c=some (.bool b))(hd:Nat.blt d n=true)(htn:Nat.blt t n=true)(ht:lk t F=none)(hv:ev F v=some (f s1))(hz:lk d F=some (f s0))(hs:(if b=true then s1 else s0)=s)
  (k:GQ n w0 M Q .normal ((d,f s) :: F) L):G P n w0 M (.cond c (.region id [⟨some t, .move v,T,pos,Cq,none⟩,⟨some d, .assign (.tmp t),T',pos',aft',none⟩].toArray false) .skip) Q F L:=by
 refine N2 hc (fun h=>?_) (fun h=>?_)
 ·rw [h,if_pos rfl] at hs
  subst hs
  refine AJ (KN htn (AF hv) (KN hd (A0 (by simp [ev,lk])) (AQ fun a w hF hS=>k a w (hF.sub (Zy ht)) hS)))
 ·rw [h,if_neg (by decide)] at hs
  subst hs
  exact Aa fun a w hF hS=>k a w (hF.sub (Sc hz)) hS
end
section
open Go.RowKit Go.ChangeShapes Go.WideShapes Go.ChangeAt
variable {H:Type} {enc:TypeId × Value→H} {P:Program} {w:World}
end
end Go.Ing
/- What is told of an event: plain functions. -/
namespace Go.Ing
open Go
namespace AG
def Gj:List Ao:= [[110,111,114,116,104],[101,97,115,116],[117,112],[115,111,117,116,104],[119,101,115,116],[100,111,119,110],[108,111,111,107],[103,101,116],[100,114,111,112],[112,117,116],[103,105,118,101],[115,97,121],[111,112,101,110],[99,108,111,115,101],[108,105,103,104,116],[100,111,117,115,101],[119,101,97,114],[100,111,102,102],[104,105,116],[105,110,118,101,110,116,111,114,121],[113,117,105,116]]
def DE:List Value:=Gj.map BU
theorem PN {d:Int}(h0:0≤d)(h6:d < 6):DE[0+d.toNat * 1]?=some (BU (Gj.getD d.toNat [])):=by
 have:d=0∨d=1∨d=2∨d=3∨d=4∨d=5:=by omega
 rcases this with rfl | rfl | rfl | rfl | rfl | rfl<;>rfl
def called (d:Int):Ao:=if (decide (d < 0) || decide (6≤d))=true then [] else Gj.getD d.toNat []
theorem JL (d:Int):(called d).length≤20:=by
 unfold called
 split
 ·simp
 ·rename_i h
  have:d=0∨d=1∨d=2∨d=3∨d=4∨d=5:=by simp at h;omega
  rcases this with rfl | rfl | rfl | rfl | rfl | rfl<;>decide
def form (z:Int):Ao × Ao:=
 if decide (z=1)=true then([89,111,117,32,103,111,32,68,46],[65,32,103,111,101,115,32,68,46])
 else if decide (z=2)=true then([],[65,32,99,111,109,101,115,32,102,114,111,109,32,68,46])
 else if decide (z=3)=true then([89,111,117,32,103,101,116,32,116,104,101,32,84,46],[65,32,103,101,116,115,32,97,32,84,46])
 else if decide (z=4)=true then([89,111,117,32,100,114,111,112,32,116,104,101,32,84,46],[65,32,100,114,111,112,115,32,97,32,84,46])
 else if decide (z=5)=true then([89,111,117,32,112,117,116,32,116,104,101,32,84,32,105,110,116,111,32,116,104,101,32,88,46],[65,32,112,117,116,115,32,97,32,84,32,105,110,116,111,32,97,32,88,46])
 else if decide (z=6)=true then([89,111,117,32,103,105,118,101,32,116,104,101,32,84,32,116,111,32,79,46],[65,32,103,105,118,101,115,32,97,32,84,32,116,111,32,79,46])
 else if decide (z=7)=true then([89,111,117,32,115,97,121,58,32,88],[65,32,115,97,121,115,58,32,88])
 else if decide (z=8)=true then([89,111,117,32,111,112,101,110,32,116,104,101,32,84,46],[65,32,111,112,101,110,115,32,97,32,84,46])
 else if decide (z=9)=true then([89,111,117,32,99,108,111,115,101,32,116,104,101,32,84,46],[65,32,99,108,111,115,101,115,32,97,32,84,46])
 else if decide (z=10)=true then([89,111,117,32,108,105,103,104,116,32,116,104,101,32,84,46],[65,32,108,105,103,104,116,115,32,97,32,84,46])
 else if decide (z=11)=true then([89,111,117,32,100,111,117,115,101,32,116,104,101,32,84,46],[65,32,100,111,117,115,101,115,32,97,32,84,46])
 else if decide (z=12)=true then([89,111,117,32,112,117,116,32,111,110,32,116,104,101,32,84,46],[65,32,112,117,116,115,32,111,110,32,97,32,84,46])
 else if decide (z=13)=true then([89,111,117,32,116,97,107,101,32,111,102,102,32,116,104,101,32,84,46],[65,32,116,97,107,101,115,32,111,102,102,32,97,32,84,46])
 else if decide (z=14)=true then([89,111,117,32,104,105,116,32,79,32,102,111,114,32,78,46],[65,32,104,105,116,115,32,79,32,102,111,114,32,78,46])
 else if decide (z=15)=true then([89,111,117,32,100,105,101,46],[65,32,100,105,101,115,46])
 else if decide (z=16)=true then([88],[])
 else if decide (z=17)=true then([66,101,32,119,101,108,99,111,109,101,46],[65,32,97,114,114,105,118,101,115,46])
 else if decide (z=18)=true then([],[65,32,102,97,100,101,115,46])
 else([],[])
theorem Sx {z:Int}(h:¬ (1≤z∧z≤18)):form z=([],[]):=by
 unfold form
 rw [if_neg (show ¬ decide (z=1)=true by simp;omega)]
 rw [if_neg (show ¬ decide (z=2)=true by simp;omega)]
 rw [if_neg (show ¬ decide (z=3)=true by simp;omega)]
 rw [if_neg (show ¬ decide (z=4)=true by simp;omega)]
 rw [if_neg (show ¬ decide (z=5)=true by simp;omega)]
 rw [if_neg (show ¬ decide (z=6)=true by simp;omega)]
 rw [if_neg (show ¬ decide (z=7)=true by simp;omega)]
 rw [if_neg (show ¬ decide (z=8)=true by simp;omega)]
 rw [if_neg (show ¬ decide (z=9)=true by simp;omega)]
 rw [if_neg (show ¬ decide (z=10)=true by simp;omega)]
 rw [if_neg (show ¬ decide (z=11)=true by simp;omega)]
 rw [if_neg (show ¬ decide (z=12)=true by simp;omega)]
 rw [if_neg (show ¬ decide (z=13)=true by simp;omega)]
 rw [if_neg (show ¬ decide (z=14)=true by simp;omega)]
 rw [if_neg (show ¬ decide (z=15)=true by simp;omega)]
 rw [if_neg (show ¬ decide (z=16)=true by simp;omega)]
 rw [if_neg (show ¬ decide (z=17)=true by simp;omega)]
 rw [if_neg (show ¬ decide (z=18)=true by simp;omega)]
theorem Tz {P:Ao × Ao→Prop}(h0:P ([],[]))(h1:P (form 1))(h2:P (form 2))(h3:P (form 3))(h4:P (form 4))(h5:P (form 5))(h6:P (form 6))(h7:P (form 7))(h8:P (form 8))(h9:P (form 9))(h10:P (form 10))(h11:P (form 11))(h12:P (form 12))(h13:P (form 13))(h14:P (form 14))(h15:P (form 15))(h16:P (form 16))(h17:P (form 17))(h18:P (form 18))(z:Int):P (form z):=by
 by_cases h:1≤z∧z≤18
 ·have:z=1∨z=2∨z=3∨z=4∨z=5∨z=6∨z=7∨z=8∨z=9∨z=10∨z=11∨z=12∨z=13∨z=14∨z=15∨z=16∨z=17∨z=18:=by omega
  rcases this with rfl | rfl | rfl | rfl | rfl | rfl | rfl | rfl | rfl | rfl | rfl | rfl | rfl | rfl | rfl | rfl | rfl | rfl
  all_goals assumption
 ·rw [Sx h];exact h0
theorem SJ (z:Int):(form z).1.length≤30∧(form z).2.length≤30:=
 Tz (P:=fun x=>x.1.length≤30∧x.2.length≤30) (by decide) (by decide) (by decide) (by decide) (by decide) (by decide) (by decide) (by decide) (by decide) (by decide) (by decide) (by decide) (by decide) (by decide) (by decide) (by decide) (by decide) (by decide) (by decide) z
def OI (x k:Int):Int:=IntKind.i64.wrap ((BitVec.ofInt IntKind.i64.bits x &&& BitVec.ofInt IntKind.i64.bits k).toNat:Int)
def VI:Ao:= [115,111,109,101,111,110,101]
def gN:Ao:= [121,111,117]
def single (t:Ao)(i:Int):Bool:=(decide (i=0) || decide (((t.getD (i - 1).toNat 0).toNat:Int)=32)) && (decide (i+1=(t.length:Int)) || decide (((t.getD (i+1).toNat 0).toNat:Int)=32) || decide (((t.getD (i+1).toNat 0).toNat:Int)=46))
def piece (e:Event)(Hb EV t:Ao)(i:Int):Ao:=
 if (!single t i)=true then [t.getD i.toNat 0]
 else if decide (((t.getD i.toNat 0).toNat:Int)=65)=true then Hb
 else if decide (((t.getD i.toNat 0).toNat:Int)=79)=true then EV
 else if decide (((t.getD i.toNat 0).toNat:Int)=84)=true then e.BJ
 else if decide (((t.getD i.toNat 0).toNat:Int)=68)=true then called e.dir
 else if decide (((t.getD i.toNat 0).toNat:Int)=88)=true then e.text
 else if decide (((t.getD i.toNat 0).toNat:Int)=78)=true then Lib.itoa e.n
 else [t.getD i.toNat 0]
def told (e:Event)(Hb EV t:Ao):Nat→Ao
 | 0=> []
 | k+1=>told e Hb EV t k++piece e Hb EV t k
theorem Fl {e:Event}{Hb EV t:Ao}{k:Int}(h:0≤k):told e Hb EV t (k+1).toNat=told e Hb EV t k.toNat++piece e Hb EV t k:=by
 obtain⟨m,rfl⟩:=Int.eq_ofNat_of_zero_le h
 rfl
def ED (e:Event)(b:Int):Ao:=if decide (b=e.DK)=true then(form e.kind).1 else(form e.kind).2
def IB (e:Event)(b:Int):Ao:=if (!decide (OI (e.Hj.at b) 2=0))=true then VI else e.Hb
def YL (e:Event)(b:Int):Ao:=if (!decide (OI (e.Hj.at b) 4=0))=true then VI else e.EV
def F4 (e:Event)(b:Int):Ao:=if decide (b=e.other)=true then gN else YL e b
def tell (e:Event)(b:Int):Ao × Bool:=
 if (decide (b < 0) || decide (6≤b) || decide (OI (e.Hj.at b) 1=0))=true then([],false)
 else if decide (ED e b = [])=true then([],false)
 else(told e (IB e b) (F4 e b) (ED e b) (ED e b).length,true)
structure Small (e:Event):Prop where
 Hb:e.Hb.length≤2000000
 EV:e.EV.length≤2000000
 BJ:e.BJ.length≤2000000
 text:e.text.length≤2000000
 n0:-9223372036854775808≤e.n
 n1:e.n≤9223372036854775807
theorem PR (e:Event)(b:Int):(ED e b).length≤30:=by
 unfold ED;split;exact(SJ _).1;exact(SJ _).2
theorem QV {e:Event}(h:Small e)(b:Int):(IB e b).length≤2000000:=by
 unfold IB;split;decide;exact h.Hb
theorem Ny {e:Event}(h:Small e)(b:Int):(F4 e b).length≤2000000:=by
 unfold F4 YL;split;decide;split;decide;exact h.EV
theorem Wb {e:Event}(h:Small e){Hb EV:Ao}(h1:Hb.length≤2000000)(h2:EV.length≤2000000)(t:Ao)(i:Int):(piece e Hb EV t i).length≤2000000:=by
 have h3:=h.BJ;have h4:=h.text;have h5:=JL e.dir;have h6:=Lib.itoa_length_le e.n h.n0 h.n1
 unfold piece
 repeat' split
 all_goals first | omega | (simp only [List.length_cons,List.length_nil];omega)
theorem Oe {e:Event}(h:Small e){Hb EV:Ao}(h1:Hb.length≤2000000)(h2:EV.length≤2000000)(t:Ao):∀ n,(told e Hb EV t n).length≤n * 2000000
 | 0=>by simp [told]
 | n+1=>by
  have:=Oe h h1 h2 t n
  have:=Wb h h1 h2 t n
  simp only [told,List.length_append];omega
end AG
end Go.Ing
/- What is told: two roads, and whom it does not name. -/
namespace Go.Ing
open Go
namespace AG
theorem X5 (x:Int):OI x 1=x % 2:=by
 have e:(BitVec.ofInt IntKind.i64.bits x &&& BitVec.ofInt IntKind.i64.bits 1).toNat=(x % 2).toNat:=by
  show(BitVec.ofInt 64 x &&& BitVec.ofInt 64 1).toNat=_
  rw [BitVec.toNat_and,BitVec.toNat_ofInt,show(BitVec.ofInt 64 1).toNat=1 from rfl,Nat.and_one_is_mod]
  omega
 unfold OI
 rw [e,IntWalk.i64_in _ (by omega)]
 omega
theorem WB (x:Int):decide (OI x 1=0)=decide (x.tmod 2=0):=by
 rw [X5]
 refine decide_eq_decide.2 ⟨fun h=>Int.tmod_eq_zero_of_dvd (Int.dvd_of_emod_eq_zero h),fun h=>Int.emod_eq_zero_of_dvd (Int.dvd_of_tmod_eq_zero h)⟩
/-! #### said outright, kind by kind -/
def Bn (own:Bool)(a Qq theirs:Ao):Ao:=if own=true then [89,111,117,32]++Qq ++ [32] else a ++ [32]++theirs ++ [32]
def CU (own:Bool)(th:Ao):Ao:=if own=true then [116,104,101,32]++th else [97,32]++th
def fin (s:Ao):Ao × Bool:=(s,!decide (s = []))
def EA (own:Bool)(a o d n th tx:Ao)(z:Int):Ao × Bool:=
 if decide (z=1)=true then(fin (Bn own a [103,111] [103,111,101,115]++d ++ [46]))
 else if decide (z=2)=true then(if (!own)=true then fin (a ++ [32,99,111,109,101,115,32,102,114,111,109,32]++d ++ [46]) else fin [])
 else if decide (z=3)=true then(fin (Bn own a [103,101,116] [103,101,116,115]++CU own th ++ [46]))
 else if decide (z=4)=true then(fin (Bn own a [100,114,111,112] [100,114,111,112,115]++CU own th ++ [46]))
 else if decide (z=5)=true then(fin (Bn own a [112,117,116] [112,117,116,115]++CU own th ++ [32,105,110,116,111,32]++CU own tx ++ [46]))
 else if decide (z=6)=true then(fin (Bn own a [103,105,118,101] [103,105,118,101,115]++CU own th ++ [32,116,111,32]++o ++ [46]))
 else if decide (z=7)=true then(fin (Bn own a [115,97,121,58] [115,97,121,115,58]++tx))
 else if decide (z=8)=true then(fin (Bn own a [111,112,101,110] [111,112,101,110,115]++CU own th ++ [46]))
 else if decide (z=9)=true then(fin (Bn own a [99,108,111,115,101] [99,108,111,115,101,115]++CU own th ++ [46]))
 else if decide (z=10)=true then(fin (Bn own a [108,105,103,104,116] [108,105,103,104,116,115]++CU own th ++ [46]))
 else if decide (z=11)=true then(fin (Bn own a [100,111,117,115,101] [100,111,117,115,101,115]++CU own th ++ [46]))
 else if decide (z=12)=true then(fin (Bn own a [112,117,116,32,111,110] [112,117,116,115,32,111,110]++CU own th ++ [46]))
 else if decide (z=13)=true then(fin (Bn own a [116,97,107,101,32,111,102,102] [116,97,107,101,115,32,111,102,102]++CU own th ++ [46]))
 else if decide (z=14)=true then(fin (Bn own a [104,105,116] [104,105,116,115]++o ++ [32,102,111,114,32]++n ++ [46]))
 else if decide (z=15)=true then(fin (if own=true then [89,111,117,32,100,105,101,46] else a ++ [32,100,105,101,115,46]))
 else if decide (z=16)=true then(if own=true then(tx,true) else fin [])
 else if decide (z=17)=true then(fin (if own=true then [66,101,32,119,101,108,99,111,109,101,46] else a ++ [32,97,114,114,105,118,101,115,46]))
 else if decide (z=18)=true then(if (!own)=true then fin (a ++ [32,102,97,100,101,115,46]) else fin [])
 else fin []
theorem X8 {own:Bool}{a o d n th tx:Ao}{z:Int}(h:¬ (1≤z∧z≤18)):EA own a o d n th tx z=fin []:=by
 unfold EA
 rw [if_neg (show ¬ decide (z=1)=true by simp;omega)]
 rw [if_neg (show ¬ decide (z=2)=true by simp;omega)]
 rw [if_neg (show ¬ decide (z=3)=true by simp;omega)]
 rw [if_neg (show ¬ decide (z=4)=true by simp;omega)]
 rw [if_neg (show ¬ decide (z=5)=true by simp;omega)]
 rw [if_neg (show ¬ decide (z=6)=true by simp;omega)]
 rw [if_neg (show ¬ decide (z=7)=true by simp;omega)]
 rw [if_neg (show ¬ decide (z=8)=true by simp;omega)]
 rw [if_neg (show ¬ decide (z=9)=true by simp;omega)]
 rw [if_neg (show ¬ decide (z=10)=true by simp;omega)]
 rw [if_neg (show ¬ decide (z=11)=true by simp;omega)]
 rw [if_neg (show ¬ decide (z=12)=true by simp;omega)]
 rw [if_neg (show ¬ decide (z=13)=true by simp;omega)]
 rw [if_neg (show ¬ decide (z=14)=true by simp;omega)]
 rw [if_neg (show ¬ decide (z=15)=true by simp;omega)]
 rw [if_neg (show ¬ decide (z=16)=true by simp;omega)]
 rw [if_neg (show ¬ decide (z=17)=true by simp;omega)]
 rw [if_neg (show ¬ decide (z=18)=true by simp;omega)]
def YR (e:Event)(b:Int):Ao × Bool:=
 if (decide (b < 0) || decide (5 < b) || decide ((e.Hj.at b).tmod 2=0))=true then([],false)
 else EA (decide (b=e.DK)) (IB e b) (F4 e b) (called e.dir) (Lib.itoa e.n) e.BJ e.text e.kind
def Kq (e:Event)(w m t:Ao):Nat→Nat→Ao
 | _,0=> []
 | i,n+1=>piece e w m t i++Kq e w m t (i+1) n
theorem OM {e:Event}{w m t:Ao}:∀ n i:Nat,Kq e w m t i (n+1)=Kq e w m t i n++piece e w m t ((i+n:Nat):Int)
 | 0,i=>by simp [Kq]
 | n+1,i=>by
  rw [Kq,OM n (i+1),Kq,List.append_assoc,show i+1+n=i+(n+1) by omega]
theorem W7 {e:Event}{w m t:Ao}:∀ n:Nat,told e w m t n=Kq e w m t 0 n
 | 0=>rfl
 | n+1=>by rw [told,W7 n,OM];simp
def SH (e:Event)(w m t:Ao):Nat→Nat→Ao
 | _,0=> []
 | i,1=>piece e w m t i
 | i,n+2=>piece e w m t i++SH e w m t (i+1) (n+1)
theorem Ub {e:Event}{w m t:Ao}:∀ n i:Nat,SH e w m t i n=Kq e w m t i n
 | 0,i=>rfl
 | 1,i=>by simp [SH,Kq]
 | n+2,i=>by rw [SH,Kq,Ub (n+1)]
theorem Co {e:Event}{w m t:Ao}(n:Nat):told e w m t n=SH e w m t 0 n:=(W7 n).trans (Ub n 0).symm
section
variable {e:Event} {a o:Ao}
theorem Xi:EA true a o (called e.dir) (Lib.itoa e.n) e.BJ e.text 1=if decide ((form 1).1 = [])=true then([],false) else(told e a o (form 1).1 (form 1).1.length,true):=by
 rw [Co]
 refine Eq.trans (b:=fin _) rfl ?_
 refine Eq.trans (b:=(_,true)) (Prod.ext rfl (by first | rfl | simp [fin,Bn,CU])) ?_
 refine Eq.trans (b:=(_,true)) (congrArg (fun s=>(s,true)) ?_) rfl
 first | rfl | (simp only [Bn,CU,Bool.false_eq_true,if_true,if_false,List.append_assoc,List.cons_append,List.nil_append];rfl)
theorem YY:EA false a o (called e.dir) (Lib.itoa e.n) e.BJ e.text 1=if decide ((form 1).2 = [])=true then([],false) else(told e a o (form 1).2 (form 1).2.length,true):=by
 rw [Co]
 refine Eq.trans (b:=fin _) rfl ?_
 refine Eq.trans (b:=(_,true)) (Prod.ext rfl (by first | rfl | simp [fin,Bn,CU])) ?_
 refine Eq.trans (b:=(_,true)) (congrArg (fun s=>(s,true)) ?_) rfl
 first | rfl | (simp only [Bn,CU,Bool.false_eq_true,if_true,if_false,List.append_assoc,List.cons_append,List.nil_append];rfl)
theorem Y0:EA true a o (called e.dir) (Lib.itoa e.n) e.BJ e.text 2=if decide ((form 2).1 = [])=true then([],false) else(told e a o (form 2).1 (form 2).1.length,true):=by
 rfl
theorem ZG:EA false a o (called e.dir) (Lib.itoa e.n) e.BJ e.text 2=if decide ((form 2).2 = [])=true then([],false) else(told e a o (form 2).2 (form 2).2.length,true):=by
 rw [Co]
 refine Eq.trans (b:=fin _) rfl ?_
 refine Eq.trans (b:=(_,true)) (Prod.ext rfl (by first | rfl | simp [fin,Bn,CU])) ?_
 refine Eq.trans (b:=(_,true)) (congrArg (fun s=>(s,true)) ?_) rfl
 first | rfl | (simp only [Bn,CU,Bool.false_eq_true,if_true,if_false,List.append_assoc,List.cons_append,List.nil_append];rfl)
theorem W8:EA true a o (called e.dir) (Lib.itoa e.n) e.BJ e.text 3=if decide ((form 3).1 = [])=true then([],false) else(told e a o (form 3).1 (form 3).1.length,true):=by
 rw [Co]
 refine Eq.trans (b:=fin _) rfl ?_
 refine Eq.trans (b:=(_,true)) (Prod.ext rfl (by first | rfl | simp [fin,Bn,CU])) ?_
 refine Eq.trans (b:=(_,true)) (congrArg (fun s=>(s,true)) ?_) rfl
 first | rfl | (simp only [Bn,CU,Bool.false_eq_true,if_true,if_false,List.append_assoc,List.cons_append,List.nil_append];rfl)
theorem ZH:EA false a o (called e.dir) (Lib.itoa e.n) e.BJ e.text 3=if decide ((form 3).2 = [])=true then([],false) else(told e a o (form 3).2 (form 3).2.length,true):=by
 rw [Co]
 refine Eq.trans (b:=fin _) rfl ?_
 refine Eq.trans (b:=(_,true)) (Prod.ext rfl (by first | rfl | simp [fin,Bn,CU])) ?_
 refine Eq.trans (b:=(_,true)) (congrArg (fun s=>(s,true)) ?_) rfl
 first | rfl | (simp only [Bn,CU,Bool.false_eq_true,if_true,if_false,List.append_assoc,List.cons_append,List.nil_append];rfl)
theorem Yv:EA true a o (called e.dir) (Lib.itoa e.n) e.BJ e.text 4=if decide ((form 4).1 = [])=true then([],false) else(told e a o (form 4).1 (form 4).1.length,true):=by
 rw [Co]
 refine Eq.trans (b:=fin _) rfl ?_
 refine Eq.trans (b:=(_,true)) (Prod.ext rfl (by first | rfl | simp [fin,Bn,CU])) ?_
 refine Eq.trans (b:=(_,true)) (congrArg (fun s=>(s,true)) ?_) rfl
 first | rfl | (simp only [Bn,CU,Bool.false_eq_true,if_true,if_false,List.append_assoc,List.cons_append,List.nil_append];rfl)
theorem Y5:EA false a o (called e.dir) (Lib.itoa e.n) e.BJ e.text 4=if decide ((form 4).2 = [])=true then([],false) else(told e a o (form 4).2 (form 4).2.length,true):=by
 rw [Co]
 refine Eq.trans (b:=fin _) rfl ?_
 refine Eq.trans (b:=(_,true)) (Prod.ext rfl (by first | rfl | simp [fin,Bn,CU])) ?_
 refine Eq.trans (b:=(_,true)) (congrArg (fun s=>(s,true)) ?_) rfl
 first | rfl | (simp only [Bn,CU,Bool.false_eq_true,if_true,if_false,List.append_assoc,List.cons_append,List.nil_append];rfl)
theorem ZF:EA true a o (called e.dir) (Lib.itoa e.n) e.BJ e.text 5=if decide ((form 5).1 = [])=true then([],false) else(told e a o (form 5).1 (form 5).1.length,true):=by
 rw [Co]
 refine Eq.trans (b:=fin _) rfl ?_
 refine Eq.trans (b:=(_,true)) (Prod.ext rfl (by first | rfl | simp [fin,Bn,CU])) ?_
 refine Eq.trans (b:=(_,true)) (congrArg (fun s=>(s,true)) ?_) rfl
 first | rfl | (simp only [Bn,CU,Bool.false_eq_true,if_true,if_false,List.append_assoc,List.cons_append,List.nil_append];rfl)
theorem XO:EA false a o (called e.dir) (Lib.itoa e.n) e.BJ e.text 5=if decide ((form 5).2 = [])=true then([],false) else(told e a o (form 5).2 (form 5).2.length,true):=by
 rw [Co]
 refine Eq.trans (b:=fin _) rfl ?_
 refine Eq.trans (b:=(_,true)) (Prod.ext rfl (by first | rfl | simp [fin,Bn,CU])) ?_
 refine Eq.trans (b:=(_,true)) (congrArg (fun s=>(s,true)) ?_) rfl
 first | rfl | (simp only [Bn,CU,Bool.false_eq_true,if_true,if_false,List.append_assoc,List.cons_append,List.nil_append];rfl)
theorem YW:EA true a o (called e.dir) (Lib.itoa e.n) e.BJ e.text 6=if decide ((form 6).1 = [])=true then([],false) else(told e a o (form 6).1 (form 6).1.length,true):=by
 rw [Co]
 refine Eq.trans (b:=fin _) rfl ?_
 refine Eq.trans (b:=(_,true)) (Prod.ext rfl (by first | rfl | simp [fin,Bn,CU])) ?_
 refine Eq.trans (b:=(_,true)) (congrArg (fun s=>(s,true)) ?_) rfl
 first | rfl | (simp only [Bn,CU,Bool.false_eq_true,if_true,if_false,List.append_assoc,List.cons_append,List.nil_append];rfl)
theorem XB:EA false a o (called e.dir) (Lib.itoa e.n) e.BJ e.text 6=if decide ((form 6).2 = [])=true then([],false) else(told e a o (form 6).2 (form 6).2.length,true):=by
 rw [Co]
 refine Eq.trans (b:=fin _) rfl ?_
 refine Eq.trans (b:=(_,true)) (Prod.ext rfl (by first | rfl | simp [fin,Bn,CU])) ?_
 refine Eq.trans (b:=(_,true)) (congrArg (fun s=>(s,true)) ?_) rfl
 first | rfl | (simp only [Bn,CU,Bool.false_eq_true,if_true,if_false,List.append_assoc,List.cons_append,List.nil_append];rfl)
theorem Y3:EA true a o (called e.dir) (Lib.itoa e.n) e.BJ e.text 7=if decide ((form 7).1 = [])=true then([],false) else(told e a o (form 7).1 (form 7).1.length,true):=by
 rw [Co]
 refine Eq.trans (b:=fin _) rfl ?_
 refine Eq.trans (b:=(_,true)) (Prod.ext rfl (by first | rfl | simp [fin,Bn,CU])) ?_
 refine Eq.trans (b:=(_,true)) (congrArg (fun s=>(s,true)) ?_) rfl
 first | rfl | (simp only [Bn,CU,Bool.false_eq_true,if_true,if_false,List.append_assoc,List.cons_append,List.nil_append];rfl)
theorem XP:EA false a o (called e.dir) (Lib.itoa e.n) e.BJ e.text 7=if decide ((form 7).2 = [])=true then([],false) else(told e a o (form 7).2 (form 7).2.length,true):=by
 rw [Co]
 refine Eq.trans (b:=fin _) rfl ?_
 refine Eq.trans (b:=(_,true)) (Prod.ext rfl (by first | rfl | simp [fin,Bn,CU])) ?_
 refine Eq.trans (b:=(_,true)) (congrArg (fun s=>(s,true)) ?_) rfl
 first | rfl | (simp only [Bn,CU,Bool.false_eq_true,if_true,if_false,List.append_assoc,List.cons_append,List.nil_append];rfl)
theorem YQ:EA true a o (called e.dir) (Lib.itoa e.n) e.BJ e.text 8=if decide ((form 8).1 = [])=true then([],false) else(told e a o (form 8).1 (form 8).1.length,true):=by
 rw [Co]
 refine Eq.trans (b:=fin _) rfl ?_
 refine Eq.trans (b:=(_,true)) (Prod.ext rfl (by first | rfl | simp [fin,Bn,CU])) ?_
 refine Eq.trans (b:=(_,true)) (congrArg (fun s=>(s,true)) ?_) rfl
 first | rfl | (simp only [Bn,CU,Bool.false_eq_true,if_true,if_false,List.append_assoc,List.cons_append,List.nil_append];rfl)
theorem Xn:EA false a o (called e.dir) (Lib.itoa e.n) e.BJ e.text 8=if decide ((form 8).2 = [])=true then([],false) else(told e a o (form 8).2 (form 8).2.length,true):=by
 rw [Co]
 refine Eq.trans (b:=fin _) rfl ?_
 refine Eq.trans (b:=(_,true)) (Prod.ext rfl (by first | rfl | simp [fin,Bn,CU])) ?_
 refine Eq.trans (b:=(_,true)) (congrArg (fun s=>(s,true)) ?_) rfl
 first | rfl | (simp only [Bn,CU,Bool.false_eq_true,if_true,if_false,List.append_assoc,List.cons_append,List.nil_append];rfl)
theorem Yy:EA true a o (called e.dir) (Lib.itoa e.n) e.BJ e.text 9=if decide ((form 9).1 = [])=true then([],false) else(told e a o (form 9).1 (form 9).1.length,true):=by
 rw [Co]
 refine Eq.trans (b:=fin _) rfl ?_
 refine Eq.trans (b:=(_,true)) (Prod.ext rfl (by first | rfl | simp [fin,Bn,CU])) ?_
 refine Eq.trans (b:=(_,true)) (congrArg (fun s=>(s,true)) ?_) rfl
 first | rfl | (simp only [Bn,CU,Bool.false_eq_true,if_true,if_false,List.append_assoc,List.cons_append,List.nil_append];rfl)
theorem Ym:EA false a o (called e.dir) (Lib.itoa e.n) e.BJ e.text 9=if decide ((form 9).2 = [])=true then([],false) else(told e a o (form 9).2 (form 9).2.length,true):=by
 rw [Co]
 refine Eq.trans (b:=fin _) rfl ?_
 refine Eq.trans (b:=(_,true)) (Prod.ext rfl (by first | rfl | simp [fin,Bn,CU])) ?_
 refine Eq.trans (b:=(_,true)) (congrArg (fun s=>(s,true)) ?_) rfl
 first | rfl | (simp only [Bn,CU,Bool.false_eq_true,if_true,if_false,List.append_assoc,List.cons_append,List.nil_append];rfl)
theorem Ve:EA true a o (called e.dir) (Lib.itoa e.n) e.BJ e.text 10=if decide ((form 10).1 = [])=true then([],false) else(told e a o (form 10).1 (form 10).1.length,true):=by
 rw [Co]
 refine Eq.trans (b:=fin _) rfl ?_
 refine Eq.trans (b:=(_,true)) (Prod.ext rfl (by first | rfl | simp [fin,Bn,CU])) ?_
 refine Eq.trans (b:=(_,true)) (congrArg (fun s=>(s,true)) ?_) rfl
 first | rfl | (simp only [Bn,CU,Bool.false_eq_true,if_true,if_false,List.append_assoc,List.cons_append,List.nil_append];rfl)
theorem WA:EA false a o (called e.dir) (Lib.itoa e.n) e.BJ e.text 10=if decide ((form 10).2 = [])=true then([],false) else(told e a o (form 10).2 (form 10).2.length,true):=by
 rw [Co]
 refine Eq.trans (b:=fin _) rfl ?_
 refine Eq.trans (b:=(_,true)) (Prod.ext rfl (by first | rfl | simp [fin,Bn,CU])) ?_
 refine Eq.trans (b:=(_,true)) (congrArg (fun s=>(s,true)) ?_) rfl
 first | rfl | (simp only [Bn,CU,Bool.false_eq_true,if_true,if_false,List.append_assoc,List.cons_append,List.nil_append];rfl)
theorem WO:EA true a o (called e.dir) (Lib.itoa e.n) e.BJ e.text 11=if decide ((form 11).1 = [])=true then([],false) else(told e a o (form 11).1 (form 11).1.length,true):=by
 rw [Co]
 refine Eq.trans (b:=fin _) rfl ?_
 refine Eq.trans (b:=(_,true)) (Prod.ext rfl (by first | rfl | simp [fin,Bn,CU])) ?_
 refine Eq.trans (b:=(_,true)) (congrArg (fun s=>(s,true)) ?_) rfl
 first | rfl | (simp only [Bn,CU,Bool.false_eq_true,if_true,if_false,List.append_assoc,List.cons_append,List.nil_append];rfl)
theorem Wc:EA false a o (called e.dir) (Lib.itoa e.n) e.BJ e.text 11=if decide ((form 11).2 = [])=true then([],false) else(told e a o (form 11).2 (form 11).2.length,true):=by
 rw [Co]
 refine Eq.trans (b:=fin _) rfl ?_
 refine Eq.trans (b:=(_,true)) (Prod.ext rfl (by first | rfl | simp [fin,Bn,CU])) ?_
 refine Eq.trans (b:=(_,true)) (congrArg (fun s=>(s,true)) ?_) rfl
 first | rfl | (simp only [Bn,CU,Bool.false_eq_true,if_true,if_false,List.append_assoc,List.cons_append,List.nil_append];rfl)
theorem WS:EA true a o (called e.dir) (Lib.itoa e.n) e.BJ e.text 12=if decide ((form 12).1 = [])=true then([],false) else(told e a o (form 12).1 (form 12).1.length,true):=by
 rw [Co]
 refine Eq.trans (b:=fin _) rfl ?_
 refine Eq.trans (b:=(_,true)) (Prod.ext rfl (by first | rfl | simp [fin,Bn,CU])) ?_
 refine Eq.trans (b:=(_,true)) (congrArg (fun s=>(s,true)) ?_) rfl
 first | rfl | (simp only [Bn,CU,Bool.false_eq_true,if_true,if_false,List.append_assoc,List.cons_append,List.nil_append];rfl)
theorem Wk:EA false a o (called e.dir) (Lib.itoa e.n) e.BJ e.text 12=if decide ((form 12).2 = [])=true then([],false) else(told e a o (form 12).2 (form 12).2.length,true):=by
 rw [Co]
 refine Eq.trans (b:=fin _) rfl ?_
 refine Eq.trans (b:=(_,true)) (Prod.ext rfl (by first | rfl | simp [fin,Bn,CU])) ?_
 refine Eq.trans (b:=(_,true)) (congrArg (fun s=>(s,true)) ?_) rfl
 first | rfl | (simp only [Bn,CU,Bool.false_eq_true,if_true,if_false,List.append_assoc,List.cons_append,List.nil_append];rfl)
theorem W0:EA true a o (called e.dir) (Lib.itoa e.n) e.BJ e.text 13=if decide ((form 13).1 = [])=true then([],false) else(told e a o (form 13).1 (form 13).1.length,true):=by
 rw [Co]
 refine Eq.trans (b:=fin _) rfl ?_
 refine Eq.trans (b:=(_,true)) (Prod.ext rfl (by first | rfl | simp [fin,Bn,CU])) ?_
 refine Eq.trans (b:=(_,true)) (congrArg (fun s=>(s,true)) ?_) rfl
 first | rfl | (simp only [Bn,CU,Bool.false_eq_true,if_true,if_false,List.append_assoc,List.cons_append,List.nil_append];rfl)
theorem Wo:EA false a o (called e.dir) (Lib.itoa e.n) e.BJ e.text 13=if decide ((form 13).2 = [])=true then([],false) else(told e a o (form 13).2 (form 13).2.length,true):=by
 rw [Co]
 refine Eq.trans (b:=fin _) rfl ?_
 refine Eq.trans (b:=(_,true)) (Prod.ext rfl (by first | rfl | simp [fin,Bn,CU])) ?_
 refine Eq.trans (b:=(_,true)) (congrArg (fun s=>(s,true)) ?_) rfl
 first | rfl | (simp only [Bn,CU,Bool.false_eq_true,if_true,if_false,List.append_assoc,List.cons_append,List.nil_append];rfl)
theorem Vm:EA true a o (called e.dir) (Lib.itoa e.n) e.BJ e.text 14=if decide ((form 14).1 = [])=true then([],false) else(told e a o (form 14).1 (form 14).1.length,true):=by
 rw [Co]
 refine Eq.trans (b:=fin _) rfl ?_
 refine Eq.trans (b:=(_,true)) (Prod.ext rfl (by first | rfl | simp [fin,Bn,CU])) ?_
 refine Eq.trans (b:=(_,true)) (congrArg (fun s=>(s,true)) ?_) rfl
 first | rfl | (simp only [Bn,CU,Bool.false_eq_true,if_true,if_false,List.append_assoc,List.cons_append,List.nil_append];rfl)
theorem Wl:EA false a o (called e.dir) (Lib.itoa e.n) e.BJ e.text 14=if decide ((form 14).2 = [])=true then([],false) else(told e a o (form 14).2 (form 14).2.length,true):=by
 rw [Co]
 refine Eq.trans (b:=fin _) rfl ?_
 refine Eq.trans (b:=(_,true)) (Prod.ext rfl (by first | rfl | simp [fin,Bn,CU])) ?_
 refine Eq.trans (b:=(_,true)) (congrArg (fun s=>(s,true)) ?_) rfl
 first | rfl | (simp only [Bn,CU,Bool.false_eq_true,if_true,if_false,List.append_assoc,List.cons_append,List.nil_append];rfl)
theorem Wy:EA true a o (called e.dir) (Lib.itoa e.n) e.BJ e.text 15=if decide ((form 15).1 = [])=true then([],false) else(told e a o (form 15).1 (form 15).1.length,true):=by
 rw [Co]
 refine Eq.trans (b:=fin _) rfl ?_
 refine Eq.trans (b:=(_,true)) (Prod.ext rfl (by first | rfl | simp [fin,Bn,CU])) ?_
 refine Eq.trans (b:=(_,true)) (congrArg (fun s=>(s,true)) ?_) rfl
 first | rfl | (simp only [Bn,CU,Bool.false_eq_true,if_true,if_false,List.append_assoc,List.cons_append,List.nil_append];rfl)
theorem WL:EA false a o (called e.dir) (Lib.itoa e.n) e.BJ e.text 15=if decide ((form 15).2 = [])=true then([],false) else(told e a o (form 15).2 (form 15).2.length,true):=by
 rw [Co]
 refine Eq.trans (b:=fin _) rfl ?_
 refine Eq.trans (b:=(_,true)) (Prod.ext rfl (by first | rfl | simp [fin,Bn,CU])) ?_
 refine Eq.trans (b:=(_,true)) (congrArg (fun s=>(s,true)) ?_) rfl
 first | rfl | (simp only [Bn,CU,Bool.false_eq_true,if_true,if_false,List.append_assoc,List.cons_append,List.nil_append];rfl)
theorem Vr:EA true a o (called e.dir) (Lib.itoa e.n) e.BJ e.text 16=if decide ((form 16).1 = [])=true then([],false) else(told e a o (form 16).1 (form 16).1.length,true):=by
 rw [Co];rfl
theorem Vx:EA false a o (called e.dir) (Lib.itoa e.n) e.BJ e.text 16=if decide ((form 16).2 = [])=true then([],false) else(told e a o (form 16).2 (form 16).2.length,true):=by
 rfl
theorem Vk:EA true a o (called e.dir) (Lib.itoa e.n) e.BJ e.text 17=if decide ((form 17).1 = [])=true then([],false) else(told e a o (form 17).1 (form 17).1.length,true):=by
 rw [Co]
 refine Eq.trans (b:=fin _) rfl ?_
 refine Eq.trans (b:=(_,true)) (Prod.ext rfl (by first | rfl | simp [fin,Bn,CU])) ?_
 refine Eq.trans (b:=(_,true)) (congrArg (fun s=>(s,true)) ?_) rfl
 first | rfl | (simp only [Bn,CU,Bool.false_eq_true,if_true,if_false,List.append_assoc,List.cons_append,List.nil_append];rfl)
theorem VR:EA false a o (called e.dir) (Lib.itoa e.n) e.BJ e.text 17=if decide ((form 17).2 = [])=true then([],false) else(told e a o (form 17).2 (form 17).2.length,true):=by
 rw [Co]
 refine Eq.trans (b:=fin _) rfl ?_
 refine Eq.trans (b:=(_,true)) (Prod.ext rfl (by first | rfl | simp [fin,Bn,CU])) ?_
 refine Eq.trans (b:=(_,true)) (congrArg (fun s=>(s,true)) ?_) rfl
 first | rfl | (simp only [Bn,CU,Bool.false_eq_true,if_true,if_false,List.append_assoc,List.cons_append,List.nil_append];rfl)
theorem Vd:EA true a o (called e.dir) (Lib.itoa e.n) e.BJ e.text 18=if decide ((form 18).1 = [])=true then([],false) else(told e a o (form 18).1 (form 18).1.length,true):=by
 rfl
theorem WK:EA false a o (called e.dir) (Lib.itoa e.n) e.BJ e.text 18=if decide ((form 18).2 = [])=true then([],false) else(told e a o (form 18).2 (form 18).2.length,true):=by
 rw [Co]
 refine Eq.trans (b:=fin _) rfl ?_
 refine Eq.trans (b:=(_,true)) (Prod.ext rfl (by first | rfl | simp [fin,Bn,CU])) ?_
 refine Eq.trans (b:=(_,true)) (congrArg (fun s=>(s,true)) ?_) rfl
 first | rfl | (simp only [Bn,CU,Bool.false_eq_true,if_true,if_false,List.append_assoc,List.cons_append,List.nil_append];rfl)
end
theorem Yq (e:Event)(b:Int):YR e b=tell e b:=by
 unfold YR tell
 rw [WB,show decide (6≤b)=decide (5 < b) from decide_eq_decide.2 ⟨fun _=>by omega,fun _=>by omega⟩]
 split
 ·rfl
 ·unfold ED
  by_cases h:1≤e.kind∧e.kind≤18
  ·have:e.kind=1∨e.kind=2∨e.kind=3∨e.kind=4∨e.kind=5∨e.kind=6∨e.kind=7∨e.kind=8∨e.kind=9∨e.kind=10∨e.kind=11∨e.kind=12∨e.kind=13∨e.kind=14∨e.kind=15∨e.kind=16∨e.kind=17∨e.kind=18:=by omega
   rcases this with hk | hk | hk | hk | hk | hk | hk | hk | hk | hk | hk | hk | hk | hk | hk | hk | hk | hk
   all_goals rw [hk]
   all_goals cases decide (b=e.DK)
   ·exact YY
   ·exact Xi
   ·exact ZG
   ·exact Y0
   ·exact ZH
   ·exact W8
   ·exact Y5
   ·exact Yv
   ·exact XO
   ·exact ZF
   ·exact XB
   ·exact YW
   ·exact XP
   ·exact Y3
   ·exact Xn
   ·exact YQ
   ·exact Ym
   ·exact Yy
   ·exact WA
   ·exact Ve
   ·exact Wc
   ·exact WO
   ·exact Wk
   ·exact WS
   ·exact Wo
   ·exact W0
   ·exact Wl
   ·exact Vm
   ·exact WL
   ·exact Wy
   ·exact Vx
   ·exact Vr
   ·exact VR
   ·exact Vk
   ·exact WK
   ·exact Vd
  ·rw [X8 h,Sx h]
   cases decide (b=e.DK)<;>rfl
end AG
end Go.Ing
/- Engine: slices that are made, and written element by element. -/
namespace Go.Ing
open Go
theorem UJ {C cs:List Value}{o i:Nat}{v:Value}(hc:(C.drop o).take cs.length=cs)(hl:o+cs.length≤C.length)(hi:i < cs.length):((DS C (o+i) [v]).drop o).take (cs.set i v).length=cs.set i v:=by
 apply List.ext_getElem?
 intro j
 rw [List.getElem?_take,List.getElem?_drop,D4 (by simp;omega),List.length_set]
 by_cases h1:j < cs.length
 ·rw [if_pos h1,List.getElem?_set]
  by_cases h2:i=j
  ·subst h2
   rw [if_neg (by omega),if_pos (by simp),if_pos rfl,if_pos hi]
   simp
  ·rw [if_neg h2]
   have h3:cs[j]?=C[o+j]?:=by
    conv=>lhs;rw [← hc]
    rw [List.getElem?_take,if_pos h1,List.getElem?_drop]
   rw [h3]
   split
   ·rfl
   ·split
    ·rename_i h4 h5;exfalso;simp at h5;omega
    ·rfl
 ·rw [if_neg h1,List.getElem?_eq_none (by simp;omega)]
section
variable {P:Program} {n:Nat} {w0:World} {M:List Nat} {Q:Exit→Go.Act→World→Prop} {F F':List (Nat × Value)} {L L':List Ac} {ops:Array Oper} {rest:List Oper}
theorem XU {T U E i:Nat}{h:Hd}{cs:List Value}{x y:Operand}{v:Value}(hx:ev F x=some (h.ptr i 1 0))(hy:ev F y=some v)(hv:v.cells = [v].toArray)(h1:v.oneCell'=true)(hT:Sz P T 1)(hi:i < cs.length)(hL:LN L (Ac.own h E 1 cs) (Ac.own h E 1 (cs.set i v)) L'):PU P n w0 M (.store T x y) U F L L':=by
 intro a w hF hS
 rcases hS.ok _ hL.mem with ⟨_,rfl⟩ | ⟨b,o,C,fz,e1,e2,e3,e4,e5,e6,e7,e8⟩
 ·simp at hi
 ·have hlen:o+cs.length≤C.length:=by have:=Nat.mul_le_mul_right 1 e6;omega
  obtain⟨w',s1,s2,s3,s4,s5,s6,s7⟩:=IJ (P:=P) (o:=o+i) [v] w C 0 e3 (fun u hu=>by simp at hu;subst hu;exact h1) (by simp;omega) e4
  refine⟨w',?_,hS.EW hL s5 s6 s7 (by omega) (fun k _ hk=>s3 k (by simpa [Ac.own,e1] using hk)) ?_ ?_⟩
  ·rw [Hd.RJ e1] at hx
   simp only [Nat.mul_one,Nat.add_zero] at hx
   simp only [execOp,hF.ev hx,hF.ev hy,Instr.storeAt,Instr.sureAddr,storeVar,hv]
   simp [hT w,s1]
  ·refine .inr ⟨b,o,DS C (o+i) [v],fz,e1,by omega,by simpa using s2,?_,?_,e6,?_,?_⟩
   ·rw [EY (by simp;omega)];exact e4
   ·rw [EY (by simp;omega)];exact e5
   ·rw [List.length_set];exact e7
   ·exact UJ e8 hlen hi
  ·intro k hk
   simp [Ac.own,e1] at hk
   subst hk
   exact⟨by omega, .inl (by simp [Ac.own,e1])⟩
theorem Gk {α:Type}{e:α→List Value}{f:α→Value}(he:∀ x,e x = [f x]):∀ xs:List α,xs.flatMap e=xs.map f
 | []=>rfl
 | x :: r=>by rw [List.flatMap_cons,he,Gk he r];rfl
theorem Rt {α:Type}{e:α→List Value}{f:α→Value}(he:∀ x,e x = [f x])(xs:List α)(i:Nat)(x:α):(xs.flatMap e).set i (f x)=(xs.set i x).flatMap e:=by
 rw [Gk he,Gk he,List.map_set]
theorem PY {T U E i:Nat}{h:Hd}{xs:List Ao}{s:Ao}{x y:Operand}(hx:ev F x=some (h.ptr i 1 0))(hy:ev F y=some (BU s))(hT:Sz P T 1)(hi:i < xs.length)(hL:LN L (Ac.own h E 1 (xs.flatMap A7)) (Ac.own h E 1 ((xs.set i s).flatMap A7)) L'):PU P n w0 M (.store T x y) U F L L':=
 XU (cs:=xs.flatMap A7) hx hy rfl rfl hT (by rw [Gk (e:=A7) (f:=BU) (fun _=>rfl),List.length_map];exact hi) (by rw [Rt (e:=A7) (f:=BU) (fun _=>rfl)];exact hL)
theorem cK {T U E i:Nat}{h:Hd}{xs:Ao}{z:Int}{x y:Operand}(hx:ev F x=some (h.ptr i 1 0))(hy:ev F y=some (.int .u8 z))(hz:0≤z∧z≤255)(hT:Sz P T 1)(hi:i < xs.length)(hL:LN L (Ac.own h E 1 (xs.flatMap DV)) (Ac.own h E 1 ((xs.set i (u8 z)).flatMap DV)) L'):PU P n w0 M (.store T x y) U F L L':=
 XU (cs:=xs.flatMap DV) hx hy rfl rfl hT (by rw [Fz,List.length_map];exact hi) (by
  have:=Rt (e:=DV) (f:=fun c=> .int .u8 (c.toNat:Int)) (fun _=>rfl) xs i (u8 z)
  rw [TI hz.1 hz.2] at this
  rw [this];exact hL)
theorem Vz {d:Nat}{t E:TypeId}{T:TypeId}{pos:String}{Cq:Array Edge}{x y:Operand}{m:Int}(hd:Nat.blt d n=true)(hu:P.underlying t=some (.slice E))(hs:Sz P E 1)(hz:ZV P E (.string ⟨#[]⟩))(hb:BY P E 16)(hx:ev F x=some (.int .i64 m))(hy:ev F y=some (.int .i64 m))(h0:0≤m)(hm:m≤17592186044416)
  (k:∀ b:Nat,GL P n w0 M ops Q rest ((d,Hd.val ⟨some ⟨b,0,none⟩,m.toNat,m.toNat⟩) :: F) (Ac.own ⟨some ⟨b,0,none⟩,m.toNat,m.toNat⟩ E 1 ((List.replicate m.toNat ([]:Ao)).flatMap A7) :: L)):GL P n w0 M ops Q (⟨some d, .makeSlice t x y,T,pos,Cq,none⟩ :: rest) F L:=by
 refine F3 (R:=fun v L'=>∃ b:Nat,v=Hd.val ⟨some ⟨b,0,none⟩,m.toNat,m.toNat⟩∧L'=Ac.own ⟨some ⟨b,0,none⟩,m.toNat,m.toNat⟩ E 1 ((List.replicate m.toNat ([]:Ao)).flatMap A7) :: L) hd ?_ (fun v L' ⟨b,e1,e2⟩=>by subst e1;subst e2;exact k b)
 intro a w hF hS
 obtain⟨N,rfl⟩:=Int.eq_ofNat_of_zero_le h0
 have hN:N≤17592186044416:=by omega
 obtain⟨i,hi,hib⟩:=hb
 have hti:∀ w,(typeInfo E).run P w = .ok i w:=fun w=>by simp [typeInfo,hi]
 let C:List Value:=(List.replicate N ([]:Ao)).flatMap A7
 have hC:C=List.replicate N (BU []):=by
  show(List.replicate N ([]:Ao)).flatMap A7=_
  rw [Gk (e:=A7) (f:=BU) (fun _=>rfl),List.map_replicate]
 have hCl:C.length=N:=by rw [hC];simp
 have hw1:=hS.alloc E C
 have hS':St w0 M (w.alloc (.cells C.toArray E)) (Ac.own ⟨some ⟨w.heap.size,0,none⟩,N,N⟩ E 1 C :: L):=by
  refine hw1.EW (.head) rfl rfl rfl (Nat.le_refl _) (fun _ _ _=>rfl) ?_ (fun b hb=>?_)
  ·refine .inr ⟨w.heap.size,0,C,(0,0),rfl,by simp,?_,fun _ _ h=>by simp at h,?_,Nat.le_refl _,?_,?_⟩
   ·have:=hw1.ok _ (List.mem_cons_self ..)
    exact this
   ·show 0+N * 1≤_;omega
   ·show N * 1=_;omega
   ·show(C.drop 0).take _=_
    rw [List.drop_zero,List.take_length]
  ·simp [Ac.own] at hb
   subst hb
   exact⟨by simp, .inl (by simp [Ac.box])⟩
 refine⟨_,_,_,⟨w.heap.size,rfl,rfl⟩,?_,by simpa using hS'⟩
 have hcells:((Array.range N).map fun j=>(#[Value.string ⟨#[]⟩]:Array Value)[j % 1]!)=C.toArray:=by
  apply Array.ext'
  rw [hC]
  simp [BU,Nat.mod_one]
  exact List.eq_replicate_iff.2 ⟨by simp,by simp⟩
 have hwr:IntKind.i64.wrap (N:Int)=N:=IntWalk.i64_in _ (by omega)
 have g1:¬ (281474976710656:Int) < 16 * (N:Int):=by omega
 have hx':=hF.ev hx
 have hy':=hF.ev hy
 have hwr0:IntKind.i64.wrap 0=0:=by decide
 by_cases hN0:N=0
 ·subst hN0
  simp [execOp,hx',hy',Instr.makeSlice,run_underlying hu,hti,hib,hwr0,asInt,asIntOf,hs w,newRow,Hd.val]
  refine congrArg (fun c=>w.alloc (Obj.cells c E)) (Array.ext' ?_)
  rw [List.length_eq_zero_iff.1 hCl,Array.toList_map,Array.toList_range]
  rfl
 ·have g0:¬ (N:Int) < 0:=by omega
  simp [execOp,hx',hy',Instr.makeSlice,run_underlying hu,hti,hib,hwr,g0,g1,asInt,asIntOf,hs w,hN0,hz w,newRow,Hd.val]
  exact congrArg (fun c=>w.alloc (Obj.cells c E)) hcells
theorem Yc {T U g sz:Nat}{x:Operand}{vs cs:List Value}(hg:GV g vs w0)(e:cs=vs)(hx:ev F x=some (.pointer (some ⟨g,0,none⟩)))(hT:OV P T sz)(hl:cs.length=sz):PS P n w0 [] (.load T x) U F L (.agg cs.toArray) L:=by
 intro a w hF hS
 subst e
 obtain⟨t,fz,hb⟩:=hg.st hS
 refine⟨w,?_,rfl,rfl⟩
 simp only [execOp,hF.ev hx,Instr.loadAt,Instr.sureAddr,loadVar]
 simp [hT.1 w,hT.2 w,Ev hb (Nat.le_of_eq (by omega:0+sz=cs.length))]
 rw [← hl,List.take_length]
end
end Go.Ing
/- Engine: errors; the numeral that is read. -/
namespace Go.Ing
open Go
def G0 (g:Nat)(w:World):Prop:=∃ tp p,GV g [.iface tp p] w
theorem G0.st {g:Nat}{w0 w:World}{L:List Ac}(h:G0 g w0)(hS:St w0 [] w L):G0 g w:=by
 obtain⟨tp,p,h⟩:=h;exact⟨tp,p,h.st hS⟩
theorem CB.PE {w w':World}(h:RowKit.Below w.heap.size w w'):CB w w':=⟨h.os,h.tape,h.output,h.size,h.block⟩
section
variable {P:Program} {n:Nat} {w0:World} {M:List Nat} {F:List (Nat × Value)} {L:List Ac}
theorem R3 {U V T:TypeId}{ms:Array (String × TypeId)}{x:Operand}(hu:P.underlying U=some (.interface ms))(hx:ev F x=some .nilIface):PS P n w0 M (.binOp .neq U x (.const .nilIface) V) T F L (.bool false) L:=CN fun e w hF=>by
 have hu':(underlying U).run P w = .ok (.interface ms) w:=by simp [underlying,hu]
 have h:∀ d:Nat,(Op.equalIn (d+1) U .nilIface .nilIface).run P w = .ok true w:=fun d=>by simp [Op.equalIn,hu']
 have h2:(Op.equal U .nilIface .nilIface).run P w = .ok true w:=h _
 have hg:e.eval (.const .nilIface) = .nilIface:=rfl
 simp [execOp,hF.ev hx,hg,eqGuard,binOp,h2]
theorem ZS {U V T t:TypeId}{ms:Array (String × TypeId)}{v:Value}{x:Operand}(hu:P.underlying U=some (.interface ms))(hx:ev F x=some (.iface t v)):PS P n w0 M (.binOp .neq U x (.const .nilIface) V) T F L (.bool true) L:=CN fun e w hF=>by
 have hu':(underlying U).run P w = .ok (.interface ms) w:=by simp [underlying,hu]
 have h:∀ d:Nat,(Op.equalIn (d+1) U (.iface t v) .nilIface).run P w = .ok false w:=fun d=>by simp [Op.equalIn,hu']
 have h2:(Op.equal U (.iface t v) .nilIface).run P w = .ok false w:=h _
 have hg:e.eval (.const .nilIface) = .nilIface:=rfl
 simp [execOp,hF.ev hx,hg,eqGuard,binOp,h2]
end
theorem Xk {P : Program} {ρ : Shelf.Ren} (L : Proofs.LaysC.n172 P ρ) (s : Ao) (hs : s.length ≤ 10000000) {gs gr : Nat} (hgs : P.globalNamed "strconv.ErrSyntax" = some gs) (hgr : P.globalNamed "strconv.ErrRange" = some gr) :
  FC P (ρ.f 172) #[BU s] [] (fun w=>G0 gs w∧G0 gr w) (fun v B=>(∃ k:Int,Lib.atoiAll s = .ok k∧v = .tuple #[.int .i64 k, .nilIface]∧B = [])∨(∃(k:Int) (t:TypeId) (x:Value),(∀ j,Lib.atoiAll s≠ .ok j)∧v = .tuple #[.int .i64 k, .iface t x]∧B = [])):=by
 intro w hS ⟨⟨tp,p,h1⟩,⟨tq,q,h2⟩⟩
 have v1:=Tf hgs h1
 have v2:=Tf hgr h2
 have hsz:(⟨s.toArray⟩:ByteArray).size=s.length:=by simp [ByteArray.size]
 have hl:(⟨s.toArray⟩:ByteArray).data.toList=s:=by simp
 cases h:Lib.atoiAll s
 ·rename_i k
  refine Calls.mono (Proofs.Any.strconv_Atoi_ok L ⟨s.toArray⟩ (by omega) k (by rw [hl];exact h) w) fun e w' ⟨e1,e2⟩=>⟨_,e1,[], .inl ⟨k,rfl,rfl,rfl⟩,?_⟩
  rcases e2 with rfl | ⟨t,rfl⟩
  ·exact hS
  ·exact hS.Jx (CB.PE (Lib.bytesWorld_below _ _ _))
 ·refine Calls.mono (Proofs.Any.strconv_Atoi_syntax_var L ⟨s.toArray⟩ (by omega) (by rw [hl];exact h) tp p w v1) fun e w' ⟨N,e1,_,_,e2⟩=>⟨_,e1,[], .inr ⟨_,_,_,(fun(j:Int) hj=>by cases hj),rfl,rfl⟩,hS.Jx (CB.PE e2)⟩
 ·refine Calls.mono (Proofs.Any.strconv_Atoi_range_var L ⟨s.toArray⟩ (by omega) (by rw [hl];exact h) tq q w v2) fun e w' ⟨N,e1,_,_,e2⟩=>⟨_,e1,[], .inr ⟨_,_,_,(fun(j:Int) hj=>by cases hj),rfl,rfl⟩,hS.Jx (CB.PE e2)⟩
theorem TU {H:Type}{enc:TypeId × Value→H}{P:Program}{w:World}{base:Nat}{sp:Nat→Bool}{held:Bool}{fuel t:Nat}{cs:List Value}{ms:Array (String × TypeId)}{nm:String}{d:DataW H}{p:List MemPlace}(hu:P.underlying t=some (.interface ms))(h:DataW.trod enc P w base sp held fuel t cs=some (.iface nm d,p)):∃ u v,cs = [.iface u v]:=by
 cases fuel with
 | zero=>simp [DataW.trod] at h
 | succ n=>
  unfold DataW.trod at h
  rw [hu] at h
  split at h<;>simp_all
theorem gJ {P:Program}{w:World}{laid:List (String × DataW Unit)}{name:String}{d d':DataW Unit}{nm:String}{g:Nat}{t:TypeId}{ms:Array (String × TypeId)}(hL:laidMet P laid w)(hm:(name,d)∈laid)(hd:d = .iface nm d')(hg:P.globalNamed name=some g)(hty:(P.globals[g]?).map (·.type)=some t)(ht:P.underlying t=some (.interface ms)):G0 g w:=by
 subst hd
 obtain⟨ps,hv,_⟩:=hL
 obtain⟨g',t',cs,fuel,p,hg',ht',hvar,h⟩:=Ng _ _ hv hm
 obtain rfl:=Option.some.inj (hg.symm.trans hg')
 obtain rfl:=Option.some.inj (hty.symm.trans ht')
 obtain⟨u,v,e⟩:=TU ht h
 exact⟨u,v,TH hg hvar e⟩
end Go.Ing

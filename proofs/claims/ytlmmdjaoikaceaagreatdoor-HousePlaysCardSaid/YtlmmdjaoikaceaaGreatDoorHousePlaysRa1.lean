/- What the functions that the law of this seat reaches compute, and the plain laws of it. No condition. -/
import Derived.Test.YtlmmdjaoikaceaaGreatDoorHousePlaysEc3
import Derived.Lib.Bytealg
import Derived.Laws.Externs
import Derived.MapKept
import Derived.Lib.LaidTab
import Derived.Shelf.Strconv.Itoa3
import Derived.Lib.ItoaLen
import Derived.Shelf.Strconv.ErrVarAll
import Derived.Stop.LaidErr
set_option linter.unusedSimpArgs false
set_option linter.unusedVariables false
/- Engine: how much a slice within a struct that came in can take. -/
namespace Go.Ing
open Go Go.RowKit Go.ChangeShapes Go.WideShapes Go.ChangeAt
section
variable {H:Type} {enc:TypeId × Value→H} {P:Program} {w:World}
theorem Ya {ts:List TypeId}{ds:List (DataW H)}(h:(DataW.weightsEach P ts ds).all (·≤ reachBytes)=true){j:Nat}{t:TypeId}{d:DataW H}(ht:ts[j]?=some t)(hd:ds[j]?=some d):∀ n∈d.weights P t,n≤reachBytes:=fun n hn=>by
 simpa using List.all_eq_true.1 h n (DataW.weights_mem_each ht hd n hn)
end
section
variable {P:Program} {n:Nat} {w0:World} {M:List Nat} {Q:Exit→Go.Act→World→Prop} {F F':List (Nat × Value)} {L L':List AJ} {ops:Array Oper} {rest:List Oper}
theorem Uf {U U2 E sz Gz:Nat}{z x:Value}{h:Hd}{gl:Nat}{ys:List Value}{V:TypeId}{w:World}(hu:P.underlying U=some (.slice E))(hsz:Sz P E sz)(hz:ZV P E z)(hzs:z.cells.size=sz)(hby:BY P E Gz)(hb0:0 < Gz)
  (hl0:h.len=0) (hc0:h.cap=0) (hh:(AJ.own h E sz []).ok w) (hg:Src P w U2 sz x gl ys) (hbd:gl * Gz≤281474976710656) :
  ∃ h' w',(Builtin.append_ #[U,U2] V #[h.val,x]).run P w = .ok h'.val w'∧(AJ.own h' E sz ys).ok w'∧h'.len=gl∧w'.os=w.os∧w'.tape=w.tape∧w'.output=w.output∧w.heap.size≤w'.heap.size ∧
   (∀ k,k < w.heap.size→w'.heap[k]?=w.heap[k]?)∧(∀ b∈(AJ.own h' E sz ys).Bn,b < w'.heap.size∧(b∈(AJ.own h E sz []).Bn∨w.heap.size≤b)):=by
 obtain⟨i,hi,hib⟩:=hby
 have hti:∀ w,(typeInfo E).run P w = .ok i w:=fun w=>by simp [typeInfo,hi]
 have hu':∀ w,(underlying U).run P w = .ok (.slice E) w:=fun w=>by simp [underlying,hu]
 have hsw:∀(v:Value) (w:World),(Builtin.append_ #[U,U2] V #[v,x]).run P w=(Builtin.append_ #[U,U] V #[v,x]).run P w:=fun v w=>by
  rcases hg.ty with ⟨e,hd2⟩ | hd2
  ·have hu2:∀ w,(underlying U2).run P w = .ok (.slice e) w:=fun w=>by simp [underlying,hd2]
   cases v<;>simp [Builtin.append_,hu' w,hu2 w,hsz w]
  ·have hu2:∀ w,(underlying U2).run P w = .ok .string w:=fun w=>by simp [underlying,hd2]
   cases v<;>simp [Builtin.append_,hu' w,hu2 w,hsz w]
 have hlo:=hg.lenOf
 obtain⟨ha,hl,hc⟩:=h
 simp only at hl0 hc0
 subst hl0;subst hc0
 have hfh:∀ w,(Builtin.firstCells sz 0 (Hd.val ⟨ha,0,0⟩)).run P w = .ok #[] w:=fun w=>by
  cases ha with
  | none=>rfl
  | some a=>simp [Hd.val,Builtin.firstCells,loadCells,loadCellsFrom]
 by_cases hg0:gl=0
 ·subst hg0
  have hys:ys = []:=by have:=hg.len;simpa using this.symm
  subst hys
  refine⟨⟨ha,0,0⟩,w,?_,hh,rfl,rfl,rfl,rfl,Nat.le_refl _,fun _ _=>rfl,fun b hb=>?_⟩
  ·have hfc:=hg.cells w (BF.refl w)
   rw [hsw]
   cases ha with
   | none=>simp only [Hd.val] at hfc ⊢;simp [Builtin.append_,hu' w,hsz w,hlo w,hfc]
   | some a=>simp only [Hd.val] at hfc ⊢;simp [Builtin.append_,hu' w,hsz w,hlo w,hfc,storeCells]
  ·rcases hh with ⟨e1,_⟩ | ⟨b',o,C,fz,e1,e2,_⟩
   ·simp at e1;subst e1;simp [AJ.own] at hb
   ·simp only at e1;subst e1;simp [AJ.own] at hb;subst hb
    exact⟨e2, .inl (by simp [AJ.own])⟩
 ·have hnc:Builtin.nextslicecap (0+gl) 0=gl:=by
   unfold Builtin.nextslicecap
   rw [if_pos (by omega)];omega
  have hbig:¬ (281474976710656 < Builtin.nextslicecap (0+gl) 0 * Gz):=by rw [hnc];omega
  let q:Question:= .appendCap (0+gl) 0 E
  let w1:World:=w.drew
  let nc:Nat:=q.cut (w.tape w.drawn q)
  have hncle:0+gl≤nc:=Nat.le_add_right _ _
  have hk1:BF w w1:=⟨rfl,rfl,rfl,Nat.le_refl _,fun _ _=>rfl⟩
  have hfc1:=hg.cells w1 hk1
  have hfh1:=hfh w1
  let row:List Value:=ys++(Builtin.zeroCells z.cells (nc - (0+gl))).toList
  have hrow:row.length=nc * sz:=by
   simp only [row,List.length_append,Array.length_toList,Kg,hzs]
   rw [← hg.len,← Nat.add_mul]
   congr 1;omega
  refine⟨⟨some ⟨w.heap.size,0,none⟩,gl,nc⟩,w1.alloc (.cells row.toArray E),?_,?_,rfl,rfl,rfl,rfl,by simp [w1],?_,?_⟩
  ·simp only [Hd.val] at hfc1 hfh1 ⊢
   have hz1:=hz w.drew
   simp only [w1] at hfc1 hfh1
   have hne:¬ gl≤0:=by omega
   rw [hsw]
   simp only [Nat.zero_add] at hbig
   simp [Builtin.append_,hu' w,hsz w,hlo w,hne,hg0,hti,hbig,hib,Nat.ne_of_gt hb0,hfc1,hfh1,hz1,newRow,Question.forced]
   simp [w1,row,nc,q]
   congr 2
   apply Array.ext'
   simp
  ·refine .inr ⟨w.heap.size,0,row,(0,0),rfl,by simp [w1],?_,fun _ _ h=>by simp at h,by rw [hrow];simp,(by show gl≤nc;omega),hg.len,?_⟩
   ·show(w.heap.push _)[w.heap.size]?=_
    simp
   ·simp only [List.drop_zero,row]
    rw [List.take_left]
  ·intro k hk
   exact RowKit.Below.heap_alloc w1 _ k hk
  ·intro b hb
   simp [AJ.own] at hb
   subst hb
   exact⟨by simp [w1], .inr (Nat.le_refl _)⟩
theorem ES {α:Type}{e:α→List Value}{d T U U2 E sz Gz gl:Nat}{x y:Operand}{pos:String}{Bl:Array Edge}{h:Hd}{zs:List α}{z yv:Value}{Lf:AJ→List AJ}(hd:Nat.blt d n=true)(hu:P.underlying U=some (.slice E))(hs:Sz P E sz)(hz:ZV P E z)(hzs:z.cells.size=sz)(hby:BY P E Gz)(hb0:0 < Gz)
  (hx:ev F x=some h.val) (hy:ev F y=some yv) (hk:∀ w,St w0 M w L→Src P w U2 sz yv gl (zs.flatMap e)) (hl0:h.len=0) (hc0:h.cap=0) (hbd:gl * Gz≤281474976710656) (hU:∀ r,Ip L (AJ.own h E sz (([]:List α).flatMap e)) r (Lf r))
  (k:∀ h':Hd,h'.len=gl→GL P n w0 M ops Q rest ((d,h'.val) :: F) (Lf (AJ.own h' E sz (zs.flatMap e)))):GL P n w0 M ops Q (⟨some d, .call ⟨.builtin .append,#[x,y],#[U,U2]⟩,T,pos,Bl,none⟩ :: rest) F L:=by
 refine E7 (R:=fun v L'=>∃ h':Hd,v=h'.val∧L'=Lf (AJ.own h' E sz (zs.flatMap e))∧h'.len=gl) hd ?_ (fun v L' ⟨h',e1,e2,e3⟩=>by subst e1;subst e2;exact k h' e3)
 intro a w hF hS
 obtain⟨h',w',e1,e2,e3,e4,e5,e6,e7,e8,e9⟩:=Uf (V:=T) hu hs hz hzs hby hb0 hl0 hc0 (hS.ok _ (hU ⟨[],fun _=>True,fun _ _ _ _=>trivial⟩).mem) (hk w hS) hbd
 refine⟨_,_,w',⟨h',rfl,rfl,e3⟩,?_,hS.Dy (hU _) e4 e5 e6 e7 (fun k hk _=>e8 k hk) e2 e9⟩
 simp [execOp,resolve,invoke,builtin,hF.ev hx,hF.ev hy,e1]
/-! #### closures -/
theorem TE {f:FuncId}{xs:List Operand}{vs:List Value}{T:TypeId}(ha:OD F xs vs):PS P n w0 M (.makeFunc (.func f) #[] xs.toArray) T F L (.func (.func f) #[] vs.toArray) L:=Bj fun a w hF=>by
 have:=OD.map hF ha
 simp [execOp,Instr.makeFunc,← this]
theorem YE {f:FuncId}{t:Nat}{caps:List Value}{args:List Operand}{ts:Array TypeId}{T:TypeId}{vs:List Value}(hc:CF P f){a:Go.Act}(hF:Fr n a F)(hf:lk t F=some (.func (.func f) #[] caps.toArray))(ha:OD F args vs)(w:World)(d:Option Tmp)(pos:String)(Bl:Array Edge)(g:Option (Nat × Bool)) :
  (execOp a.eval ⟨d, .call ⟨.value (.tmp t),args.toArray,ts⟩,T,pos,Bl,g⟩).run P w = .ok (.enter f (vs++caps).toArray) w:=by
 have h2:=OD.map hF ha
 subst h2
 have h1:=hc (args.map a.eval++caps).toArray w
 have h3:a.eval (.tmp t) = .func (.func f) #[] caps.toArray:=by have:=hF.get _ _ hf;simp [Act.eval,this]
 simp [execOp,resolve,Deferred.ofValue,h3,invoke]
 simpa using h1
end
end Go.Ing
/- The plain functions of the telnet codec. -/
namespace Go.Ing
open Go
def u8 (n:Int):UInt8:=UInt8.ofNat n.toNat
theorem QL {n:Int}(h0:0≤n)(h1:n≤255):((u8 n).toNat:Int)=n:=by
 simp [u8];omega
namespace AI
def O2 (t:AI)(i:Int):Bool:=decide (t.us.at i < 0) || decide (2 < t.us.at i) || decide (t.Dl.at i < 0) || decide (2 < t.Dl.at i)
def Ni (t:AI):Bool:=
 decide (0≤t.at_) && decide (t.at_≤4) && (decide (t.at_=2) == !decide (t.verb=0)) && (decide (t.verb=0) || (decide (251≤t.verb) && decide (t.verb≤254))) && decide ((t.sub.length:Int)≤16) && (decide (3≤t.at_) || decide (t.sub = [])) && decide (0≤t.Bw) && decide (t.Bw≤200)
def A5 (t:AI):Bool:=A4 3 (fun i=>!t.O2 i) 3 && (!(!decide (t.us.at 2=0) || !decide (t.Dl.at 0=0)) && t.Ni)
def place (opt:Int):Int × Bool × Bool:=if decide (opt=1)=true then(0,true,false) else if decide (opt=3)=true then(1,true,true) else if decide (opt=31)=true then(2,false,true) else(-1,false,false)
def YY (verb opt:Int):AL:= [255,u8 verb,u8 opt]
def EP (was:Int)(on:Bool)(opt yes no:Int):AL:=if (on && decide (was=0))=true then YY yes opt else if (!on && decide (was=1))=true then YY no opt else []
def RM (on:Bool):Int:=if on=true then 1 else 0
def Fo (t:AI)(k:Int)(on:Bool):AI:={ t with us:=t.us.put k (RM on) }
def DR (t:AI)(k:Int)(on:Bool):AI:={ t with Dl:=t.Dl.put k (RM on) }
def Aj (t:AI)(verb opt:Int):AI × AL:=
 let k:=(place opt).1
 if decide (verb=253)=true then(if (!(place opt).2.1)=true then(t,YY 252 opt) else(t.Fo k true,EP (t.us.at k) true opt 251 252))
 else if decide (verb=254)=true then(if (place opt).2.1=true then(t.Fo k false,EP (t.us.at k) false opt 251 252) else(t,[]))
 else if decide (verb=251)=true then(if (!(place opt).2.2)=true then(t,YY 254 opt) else(t.DR k true,EP (t.Dl.at k) true opt 253 254))
 else if decide (verb=252)=true then(if (place opt).2.2=true then(t.DR k false,EP (t.Dl.at k) false opt 253 254) else(t,[]))
 else(t,[])
def collect (t:AI)(b:UInt8):AI:=if decide ((t.sub.length:Int) < 16)=true then { t with sub:=t.sub ++ [b] } else t
def Lb (s:AL)(i:Int):Int:=((s.getD i.toNat 0).toNat:Int)
def measure (t:AI):AI:=
 if (decide ((t.sub.length:Int)=5) && decide (Lb t.sub 0=31) && decide (t.Dl.at 2=1))=true then { t with Bw:=min (Lb t.sub 3 * 256+Lb t.sub 4) 200 } else t
def step (t:AI)(b:UInt8):AI × AL × AL:=
  let c:Int:=(b.toNat:Int)
  if decide (t.at_=0)=true then(if decide (c=255)=true then({ t with at_:=1 },[],[]) else(t,[b],[]))
  else if decide (t.at_=1)=true then
    (if decide (c=255)=true then({ t with at_:=0 },[b],[])
     else if decide (c=250)=true then({ t with at_:=3 },[],[])
     else if decide (251≤c)=true then({ t with at_:=2,verb:=c },[],[])
     else({ t with at_:=0 },[],[]))
  else if decide (t.at_=2)=true then({ (t.Aj t.verb c).1 with at_:=0,verb:=0 },[],(t.Aj t.verb c).2)
  else if decide (t.at_=3)=true then(if decide (c=255)=true then({ t with at_:=4 },[],[]) else(t.collect b,[],[]))
  else if decide (t.at_=4)=true then
    (if decide (c=255)=true then(collect { t with at_:=3 } b,[],[])
     else if decide (c=240)=true then({ t.measure with at_:=0,sub:= [] },[],[])
     else({ t with at_:=0,sub:= [] },[],[]))
  else(t,[],[])
def feed:AI→AL→AI × AL × AL
 | t,[]=>(t,[],[])
 | t,b :: s=>((feed (t.step b).1 s).1,(t.step b).2.1++(feed (t.step b).1 s).2.1,(t.step b).2.2++(feed (t.step b).1 s).2.2)
def CM (t:AI)(s:AL):AI × AL × AL × Int:=if (!t.A5)=true then(t,[],[],2) else((t.feed s).1,(t.feed s).2.1,(t.feed s).2.2,0)
def Cu (t:AI)(opt:Int):AI × AL × Int:=
 if (!t.A5)=true then(t,[],2) else if (!(place opt).2.1)=true then(t,[],3) else if (!decide (t.us.at (place opt).1=0))=true then(t,[],0)
 else({ t with us:=t.us.put (place opt).1 2 },YY 251 opt,0)
def Ask (t:AI)(opt:Int):AI × AL × Int:=
 if (!t.A5)=true then(t,[],2) else if (!(place opt).2.2)=true then(t,[],3) else if (!decide (t.Dl.at (place opt).1=0))=true then(t,[],0)
 else({ t with Dl:=t.Dl.put (place opt).1 2 },YY 253 opt,0)
theorem P3 {opt:Int}(h:(place opt).2.1=true):(opt=1∧place opt=(0,true,false))∨(opt=3∧place opt=(1,true,true)):=by
 unfold place at *
 repeat' split at h
 all_goals simp_all
theorem L0 {opt:Int}(h:(place opt).2.2=true):(opt=3∧place opt=(1,true,true))∨(opt=31∧place opt=(2,false,true)):=by
 unfold place at *
 repeat' split at h
 all_goals simp_all
theorem Ra (w:Int)(on:Bool)(o y n:Int):(EP w on o y n).length≤3:=by
 unfold EP YY;repeat' split
 all_goals simp
theorem Ie (t:AI)(v o:Int):(t.Aj v o).2.length≤3:=by
 unfold Aj;dsimp only
 repeat' split
 all_goals try exact Ra _ _ _ _ _
 all_goals try simp [YY]
 all_goals exact Ra _ _ _ _ _
theorem Qe (t:AI)(v o:Int):(t.Aj v o).1.sub=t.sub:=by
 unfold Aj;dsimp only
 repeat' split
 all_goals rfl
theorem Th (t:AI)(b:UInt8)(h:t.sub.length≤16):(t.collect b).sub.length≤16:=by
 unfold collect;split
 ·rename_i h1;simp at h1 ⊢;omega
 ·exact h
theorem bI (t:AI)(b:UInt8)(h:t.sub.length≤16):(t.step b).1.sub.length≤16:=by
 unfold step;dsimp only
 repeat' split
 all_goals first | exact h | exact Th _ _ h | (simp;done) | (rw [Qe];exact h)
theorem Ut (t:AI)(b:UInt8):(t.step b).2.1.length≤1∧(t.step b).2.2.length≤3:=by
 unfold step;dsimp only
 repeat' split
 all_goals first | (simp;done) | (exact⟨by simp,Ie _ _ _⟩)
structure FR (X:AI)(u:AL)(k:Int)(t:AI)(x y:AL):Prop where
 k0:0≤k
 k1:k≤u.length
 sub:t.sub.length≤16
 xl:(x.length:Int)≤k
 yl:(y.length:Int)≤3 * k
 e1:(X.feed u).1=(t.feed (u.drop k.toNat)).1
 e2:(X.feed u).2.1=x++(t.feed (u.drop k.toNat)).2.1
 e3:(X.feed u).2.2=y++(t.feed (u.drop k.toNat)).2.2
theorem Xc {u:AL}{k:Int}(h0:0≤k)(h1:k < u.length):u.drop k.toNat=u.getD k.toNat 0 :: u.drop (k+1).toNat:=by
 have hk:k.toNat < u.length:=by omega
 rw [List.drop_eq_getElem_cons hk,show(k+1).toNat=k.toNat+1 by omega]
 simp [List.getD,hk]
theorem FR.start {X:AI}{u:AL}(h:X.sub.length≤16):FR X u 0 X [] []:=⟨by omega,by omega,h,by simp,by simp,rfl,rfl,rfl⟩
theorem FR.next {X t t':AI}{u x y x' y':AL}{k:Int}(h:FR X u k t x y)(hk:k < u.length)(ht:t'=(t.step (u.getD k.toNat 0)).1)(hx:x'=x++(t.step (u.getD k.toNat 0)).2.1)(hy:y'=y++(t.step (u.getD k.toNat 0)).2.2):FR X u (k+1) t' x' y':=by
 have hd:=Xc h.k0 hk
 have hl:=Ut t (u.getD k.toNat 0)
 have h1:=h.xl
 have h2:=h.yl
 have h0:=h.k0
 subst ht;subst hx;subst hy
 refine⟨by omega,by omega,bI _ _ h.sub,by simp only [List.length_append];omega,by simp only [List.length_append];omega,?_,?_,?_⟩
 ·rw [h.e1,hd];rfl
 ·rw [h.e2,hd,List.append_assoc];rfl
 ·rw [h.e3,hd,List.append_assoc];rfl
theorem FR.done {X t:AI}{u x y:AL}{k:Int}(h:FR X u k t x y)(hk:¬ k < u.length):X.feed u=(t,x,y):=by
 have h1:=h.k1
 have hk':k.toNat=u.length:=by omega
 have e1:=h.e1
 have e2:=h.e2
 have e3:=h.e3
 rw [hk',List.drop_length] at e1 e2 e3
 simp only [feed,List.append_nil] at e1 e2 e3
 rw [← e1,← e2,← e3]
theorem Tx {t:AI}(h:t.A5=true):t.sub.length≤16:=by
 simp only [A5,Ni,Bool.and_eq_true,decide_eq_true_eq] at h
 omega
def bytesOf (xs:List Int):AL:=xs.map u8
theorem PI {xs:List Int}{k:Nat}(h:k < xs.length):xs.getD k 0∈xs:=by
 simp [List.getD,h]
theorem R9 {xs:List Int}{k:Int}(h0:0≤k)(h1:k < xs.length):bytesOf (xs.drop k.toNat) = [u8 (xs.getD k.toNat 0)]++bytesOf (xs.drop (k+1).toNat):=by
 have hk:k.toNat < xs.length:=by omega
 rw [List.drop_eq_getElem_cons hk,show(k+1).toNat=k.toNat+1 by omega]
 show u8 _ :: _=u8 _ :: _
 simp [List.getD,hk,bytesOf]
def OH (t:AI)(i:Int):Bool:=decide (t.us.at i < 0) || decide (2 < t.us.at i) || decide (t.Dl.at i < 0) || decide (2 < t.Dl.at i)
def E1 (t:AI):Bool:=
 if (!decide (t.us.at 2=0) || !decide (t.Dl.at 0=0) || decide (t.Bw < 0) || decide (200 < t.Bw) || decide (16 < (t.sub.length:Int)))=true then false
 else if decide (t.at_=0)=true then decide (t.verb=0) && decide (t.sub = [])
 else if decide (t.at_=1)=true then decide (t.verb=0) && decide (t.sub = [])
 else if decide (t.at_=2)=true then decide (251≤t.verb) && decide (t.verb≤254) && decide (t.sub = [])
 else if decide (t.at_=3)=true then decide (t.verb=0)
 else if decide (t.at_=4)=true then decide (t.verb=0)
 else false
def C2 (t:AI):Bool:=A4 3 (fun i=>!t.OH i) 3 && t.E1
theorem Cd (t:AI):t.C2=t.A5:=by
 unfold C2 A5
 congr 1
 rw [Bool.eq_iff_iff]
 unfold E1 Ni
 repeat' split
 all_goals simp_all
 all_goals omega
end AI
end Go.Ing
/- The plain laws of the telnet codec. -/
namespace Go.Ing
open Go
theorem IW {α:Type}[Inhabited α]{n:Nat}(v:Vector α n)(k i:Int)(x:α)(hk:0≤k)(hk':k < n)(hi:0≤i):(v.put k x).at i=if i=k then x else v.at i:=by
 simp only [Vector.at,Vector.put,Vector.toList_setIfInBounds,List.getD_eq_getElem?_getD,List.getElem?_set,Vector.length_toList]
 by_cases h:k.toNat=i.toNat
 ·rw [if_pos h,if_pos (by omega),if_pos (by omega)];rfl
 ·rw [if_neg h,if_neg (by omega)]
namespace AI
theorem KH (t:AI)(a b:AL):t.feed (a++b)=(((t.feed a).1.feed b).1,(t.feed a).2.1++((t.feed a).1.feed b).2.1,(t.feed a).2.2++((t.feed a).1.feed b).2.2):=by
 induction a generalizing t with
 | nil=>simp [feed]
 | cons c a ih=>simp only [List.cons_append,feed,ih,List.append_assoc]
def kh (t:AI):Prop:=(0≤t.us.at 0∧t.us.at 0≤2∧0≤t.us.at 1∧t.us.at 1≤2∧t.us.at 2=0)∧(t.Dl.at 0=0∧0≤t.Dl.at 1∧t.Dl.at 1≤2∧0≤t.Dl.at 2∧t.Dl.at 2≤2)
def okB (t:AI):Prop:=0≤t.at_∧t.at_≤4∧(t.at_=2↔t.verb≠0)∧(t.verb=0∨251≤t.verb∧t.verb≤254)∧t.sub.length≤16∧(3≤t.at_∨t.sub = [])∧0≤t.Bw∧t.Bw≤200
theorem EU (t:AI):t.A5=true↔t.kh∧t.okB:=by
 have e:t.Ni=true↔t.okB:=by
  simp only [Ni,okB,Bool.and_eq_true,decide_eq_true_eq,Bool.or_eq_true,beq_iff_eq]
  have:(decide (t.at_=2)=!decide (t.verb=0))↔(t.at_=2↔t.verb≠0):=by
   by_cases h1:t.at_=2<;>by_cases h2:t.verb=0<;>simp [h1,h2]
  rw [this]
  constructor
  ·rintro ⟨⟨⟨⟨⟨⟨⟨h1,h2⟩,h3⟩,h4⟩,h5⟩,h6⟩,h7⟩,h8⟩;exact⟨h1,h2,h3,h4,by omega,h6,h7,h8⟩
  ·rintro ⟨h1,h2,h3,h4,h5,h6,h7,h8⟩;exact⟨⟨⟨⟨⟨⟨⟨h1,h2⟩,h3⟩,h4⟩,by omega⟩,h6⟩,h7⟩,h8⟩
 rw [← e]
 simp only [A5,A4,O2,kh,Bool.and_eq_true]
 simp
 generalize t.Ni=g
 constructor
 ·intro h;exact⟨by omega,h.2.2⟩
 ·intro h;exact⟨by omega,by omega,h.2⟩
theorem Zp (u:AL):∀ t:AI,(t.feed u).2.1.length≤u.length∧(t.feed u).2.2.length≤3 * u.length:=by
 induction u with
 | nil=>intro t;simp [feed]
 | cons b u ih=>
  intro t
  have h1:=Ut t b
  have h2:=ih (t.step b).1
  simp only [feed,List.length_append,List.length_cons]
  omega
/-! #### the document's answer -/
/-! #### answers to answers come to an end -/
def ends:Nat→AI→AI→AL→Bool
 | 0,_,_,_=>false
 | n+1,t,u,s=>
  if decide ((t.CM s).2.2.1 = [])=true then decide ((t.CM s).2.2.2=0) && true
  else if (!decide ((t.CM s).2.2.2=0) || !decide ((u.CM (t.CM s).2.2.1).2.2.2=0))=true then false
  else if decide ((u.CM (t.CM s).2.2.1).2.2.1 = [])=true then true
  else ends n (t.CM s).1 (u.CM (t.CM s).2.2.1).1 (u.CM (t.CM s).2.2.1).2.2.1
def calm (t:AI):AI:={ t with at_:=0,verb:=0,sub:= [] }
end AI
end Go.Ing
/- The plain functions of lines. -/
namespace Go.Ing
open Go
theorem OG {P:Program}{n:Nat}{w0:World}{M:List Nat}{F:List (Nat × Value)}{L:List AJ}{op:Op}{T:TypeId}{v v':Value}(h:PS P n w0 M op T F L v L)(e:v=v'):PS P n w0 M op T F L v' L:=e ▸ h
namespace Aa
def EW (b:UInt8):Bool:=decide (32≤(b.toNat:Int)) && decide ((b.toNat:Int) < 127)
def E2 (s:AL):Bool:=!decide (60 < (s.length:Int)) && s.all EW
def Hy (l:BN):Bool:=decide (60 < (l.now.length:Int)) || decide (6 < (l.queue.len:Int)) || (l.long && decide (60 < (l.now.length:Int))) || (l.ret && (!decide (l.now = []) || l.long))
def A5 (l:BN)(qs:List AL):Bool:=!Hy l && (qs ++ [l.now]).all E2
structure S where
 now:AL
 long:Bool
 ret:Bool
 queue:List AL
 lost:Int
 deriving DecidableEq
def step (x:S)(b:UInt8):S:=
 let c:Int:=(b.toNat:Int)
 if (x.ret && (decide (c=10) || decide (c=0)))=true then { x with ret:=false }
 else if (decide (c=13) || decide (c=10))=true then
  (if decide ((x.queue.length:Int) < 6)=true then { x with queue:=x.queue ++ [x.now],now:= [],long:=false,ret:=decide (c=13) } else { x with lost:=x.lost+1,now:= [],long:=false,ret:=decide (c=13) })
 else if (decide (c=8) || decide (c=127))=true then(if decide (0 < (x.now.length:Int))=true then { x with now:=x.now.take ((x.now.length:Int) - 1).toNat,ret:=false } else { x with ret:=false })
 else if (!EW b)=true then { x with ret:=false }
 else if decide (60≤(x.now.length:Int))=true then { x with long:=true,ret:=false }
 else { x with now:=x.now ++ [b],ret:=false }
def feed (x:S)(s:AL):S:=s.foldl step x
def start (l:BN)(qs:List AL):S:=⟨l.now,l.long,l.ret,qs,0⟩
structure I (x0:S)(u:AL)(k:Int)(x:S):Prop where
 k0:0≤k
 k1:k≤u.length
 now:x.now.length≤60
 queue:x.queue.length≤6
 lost:0≤x.lost∧x.lost≤k
 e:feed x0 u=feed x (u.drop k.toNat)
theorem bH {x:S}(b:UInt8)(h:x.now.length≤60):(step x b).now.length≤60:=by
 unfold step;dsimp only
 repeat' split
 all_goals first | exact h | (simp;done) | (simp;omega) | (rename_i h1 _;simp at *;omega) | skip
 all_goals simp_all
 all_goals omega
theorem WJ {x:S}(b:UInt8)(h:x.queue.length≤6):(step x b).queue.length≤6:=by
 unfold step;dsimp only
 repeat' split
 all_goals first | exact h | (simp at *;omega)
theorem RY (x:S)(b:UInt8):x.lost≤(step x b).lost∧(step x b).lost≤x.lost+1:=by
 unfold step;dsimp only
 repeat' split
 all_goals (constructor<;>dsimp only<;>omega)
theorem I.start {x:S}{u:AL}(h1:x.now.length≤60)(h2:x.queue.length≤6)(h3:x.lost=0):I x u 0 x:=⟨by omega,by omega,h1,h2,by omega,rfl⟩
theorem I.next {x0 x:S}{u:AL}{k:Int}(h:I x0 u k x)(hk:k < u.length){now:AL}{long ret:Bool}{queue:List AL}{lost:Int}(hs:step x (u.getD k.toNat 0)=⟨now,long,ret,queue,lost⟩):I x0 u (k+1) ⟨now,long,ret,queue,lost⟩:=by
 have h0:=h.k0
 have hk':k.toNat < u.length:=by omega
 have hd:u.drop k.toNat=u.getD k.toNat 0 :: u.drop (k+1).toNat:=by
  rw [List.drop_eq_getElem_cons hk',show(k+1).toNat=k.toNat+1 by omega]
  simp [List.getD,hk']
 have hl:=RY x (u.getD k.toNat 0)
 have hl':=h.lost
 have hn:=bH (u.getD k.toNat 0) h.now
 have hq:=WJ (u.getD k.toNat 0) h.queue
 rw [hs] at hl hn hq
 refine⟨by omega,by omega,hn,hq,by dsimp only at *;omega,?_⟩
 rw [h.e,hd,← hs];rfl
theorem I.done {x0 x:S}{u:AL}{k:Int}(h:I x0 u k x)(hk:¬ k < u.length):feed x0 u=x:=by
 have h1:=h.k1
 have hk':k.toNat=u.length:=by omega
 rw [h.e,hk',List.drop_length];rfl
theorem Xl {l:BN}{qs:List AL}(h:A5 l qs=true):l.now.length≤60∧l.queue.len≤6:=by
 simp only [A5,Hy,Bool.and_eq_true,Bool.not_eq_true',Bool.or_eq_false_iff,decide_eq_false_iff_not] at h
 omega
theorem DK {α:Type}{p:α→Bool}{xs:List α}{k:Int}{d:α}(h0:0≤k)(h1:k < xs.length):(xs.drop k.toNat).all p=(p (xs.getD k.toNat d) && (xs.drop (k+1).toNat).all p):=by
 have hk':k.toNat < xs.length:=by omega
 rw [List.drop_eq_getElem_cons hk',show(k+1).toNat=k.toNat+1 by omega,List.all_cons]
 simp [List.getD,hk']
/-! #### what is said of lines -/
structure Ok (x:S):Prop where
 now:E2 x.now=true
 queue:∀ s∈x.queue,E2 s=true
 len:x.queue.length≤6
 ret:x.ret=true→x.now = []∧x.long=false
theorem Di (s:AL):E2 s=true↔s.length≤60∧∀ b∈s,EW b=true:=by
 simp only [E2,Bool.and_eq_true,Bool.not_eq_true',decide_eq_false_iff_not,List.all_eq_true]
 constructor
 ·rintro ⟨h1,h2⟩;exact⟨by omega,h2⟩
 ·rintro ⟨h1,h2⟩;exact⟨by omega,h2⟩
theorem NU:E2 []=true:=rfl
theorem EU {l:BN}{qs:List AL}(hl:l.queue.len=qs.length):A5 l qs=true↔Ok (start l qs):=by
 simp only [A5,Hy,Bool.and_eq_true,Bool.not_eq_true',Bool.or_eq_false_iff,decide_eq_false_iff_not,List.all_append,List.all_cons,List.all_nil,Bool.and_true,List.all_eq_true]
 constructor
 ·rintro ⟨⟨⟨⟨h1,h2⟩,h3⟩,h4⟩,h5,h6⟩
  refine⟨h6,h5,by show qs.length≤6;omega,fun h=>?_⟩
  have h:l.ret=true:=h
  rw [h] at h4
  simp at h4
  exact h4
 ·rintro ⟨h1,h2,h3,h4⟩
  have h3:qs.length≤6:=h3
  have h5:=((Di _).1 h1).1
  have h5:l.now.length≤60:=h5
  refine⟨⟨⟨⟨by omega,by omega⟩,?_⟩,?_⟩,h2,h1⟩
  ·cases l.long<;>simp;omega
  ·have h4:l.ret=true→l.now = []∧l.long=false:=h4
   cases hr:l.ret with
   | false=>rfl
   | true=>obtain⟨a,b⟩:=h4 hr;simp [a,b]
theorem OY {x:S}(h:Ok x)(b:UInt8):Ok (step x b):=by
 obtain⟨h1,h2,h3,h4⟩:=h
 have h1':=(Di _).1 h1
 unfold step;dsimp only
 repeat' split
 all_goals try simp only [decide_eq_true_eq,Bool.not_eq_true',Bool.or_eq_true] at *
 ·exact⟨h1,h2,h3,fun h=>by cases h⟩
 ·rename_i hq
  refine⟨NU,fun s hs=>?_,by show(x.queue ++ [x.now]).length≤6;rw [List.length_append,List.length_singleton];omega,fun _=>⟨rfl,rfl⟩⟩
  rcases List.mem_append.1 hs with hs | hs
  ·exact h2 s hs
  ·simp at hs;subst hs;exact h1
 ·exact⟨NU,h2,h3,fun _=>⟨rfl,rfl⟩⟩
 ·refine⟨(Di _).2 ⟨?_,fun c hc=>h1'.2 c (List.mem_of_mem_take hc)⟩,h2,h3,fun h=>by cases h⟩
  have:=h1'.1
  show(x.now.take _).length≤60
  rw [List.length_take];omega
 ·exact⟨h1,h2,h3,fun h=>by cases h⟩
 ·exact⟨h1,h2,h3,fun h=>by cases h⟩
 ·exact⟨h1,h2,h3,fun h=>by cases h⟩
 ·rename_i hp hl
  refine⟨(Di _).2 ⟨by show(x.now ++ [b]).length≤60;rw [List.length_append,List.length_singleton];omega,fun c hc=>?_⟩,h2,h3,fun h=>by cases h⟩
  rcases List.mem_append.1 hc with hc | hc
  ·exact h1'.2 c hc
  ·simp at hc;subst hc;simpa using hp
theorem Wo (u:AL):∀ {x:S},Ok x→Ok (feed x u):=by
 induction u with
 | nil=>intro x h;exact h
 | cons b u ih=>intro x h;exact ih (OY h b)
theorem KH (x:S)(a b:AL):feed x (a++b)=feed (feed x a) b:=List.foldl_append ..
def val (x:S)(h:Hd):BN:=⟨x.now,x.long,x.ret,h⟩
theorem bF {l:BN}{qs:List AL}(h:A5 l qs=true)(hl:l.queue.len=qs.length):Ok (start l qs):=(EU hl).1 h
theorem dz {α:Type}{xs ys:List α}{i:Nat}(hl:xs.length=ys.length)(ht:xs.take i=ys.take i)(hi:¬ i < xs.length):xs=ys:=by
 rw [List.take_of_length_le (by omega),List.take_of_length_le (by omega)] at ht;exact ht
theorem JC {α:Type}{xs ys:List α}{i:Int}{d:α}(h0:0≤i)(hl:xs.length=ys.length)(hi:i < xs.length)(ht:xs.take i.toNat=ys.take i.toNat)(he:xs.getD i.toNat d=ys.getD i.toNat d):xs.take (i+1).toNat=ys.take (i+1).toNat:=by
 have h1:i.toNat < xs.length:=by omega
 have h2:i.toNat < ys.length:=by omega
 rw [show(i+1).toNat=i.toNat+1 by omega,List.take_succ_eq_append_getElem h1,List.take_succ_eq_append_getElem h2,ht]
 simp only [List.getD,List.getElem?_eq_getElem h1,List.getElem?_eq_getElem h2,Option.getD_some] at he
 rw [he]
theorem Pu {α:Type}{xs ys:List α}{i:Nat}{d:α}(h:xs.getD i d≠ys.getD i d):xs≠ys:=fun e=>h (by rw [e])
theorem OK {qs:List AL}(h:qs.length≠0):∃ q r,qs=q :: r:=by
 cases qs with
 | nil=>simp at h
 | cons q r=>exact⟨q,r,rfl⟩
def KV (b:UInt8):Bool:=!(decide ((b.toNat:Int) < 32) || decide (126 < (b.toNat:Int)))
def G0 (s:AL):Bool:=s.all KV && decide ((s.length:Int)≤60)
theorem YC (b:UInt8):KV b=EW b:=by
 rw [Bool.eq_iff_iff];simp [KV,EW];omega
theorem Vb (s:AL):G0 s=true↔E2 s=true:=by
 rw [Di]
 simp only [G0,Bool.and_eq_true,List.all_eq_true,decide_eq_true_eq,YC]
 constructor
 ·rintro ⟨h1,h2⟩;exact⟨by omega,h1⟩
 ·rintro ⟨h1,h2⟩;exact⟨h2,by omega⟩
/-! #### text that is typed -/
theorem YD {b:UInt8}(h:EW b=true):32≤(b.toNat:Int)∧(b.toNat:Int) < 127:=by
 simpa [EW] using h
theorem WI {x:S}{b:UInt8}(h:EW b=true)(hn:x.now.length < 60):step x b={ x with now:=x.now ++ [b],ret:=false }:=by
 have hb:=YD h
 have e1:decide ((b.toNat:Int)=10)=false:=decide_eq_false (by omega)
 have e2:decide ((b.toNat:Int)=0)=false:=decide_eq_false (by omega)
 have e3:decide ((b.toNat:Int)=13)=false:=decide_eq_false (by omega)
 have e4:decide ((b.toNat:Int)=8)=false:=decide_eq_false (by omega)
 have e5:decide ((b.toNat:Int)=127)=false:=decide_eq_false (by omega)
 have e6:decide (60≤(x.now.length:Int))=false:=decide_eq_false (by omega)
 simp only [step,e1,e2,e3,e4,e5,e6,h]
 simp
theorem Vj (s:AL):∀ x:S,(∀ b∈s,EW b=true)→x.now.length+s.length≤60→s≠ []→feed x s={ x with now:=x.now++s,ret:=false }:=by
 induction s with
 | nil=>intro x _ _ h;exact absurd rfl h
 | cons b s ih=>
  intro x hp hl _
  rw [List.length_cons] at hl
  show feed (step x b) s=_
  rw [WI (hp b (by simp)) (by omega)]
  cases s with
  | nil=>rfl
  | cons c s=>
   rw [ih _ (fun d hd=>hp d (by simp [hd])) (by simp at hl ⊢;omega) (by simp)]
   simp
def fP:BN:=⟨[],false,false,⟨none,0,0⟩⟩
def s0:S:=start fP []
def Ends (W:AL):Prop:=W = [13,10]∨W = [10]∨W = [13,0]∨W = [13]
structure XU (W:AL)(x:S)(q:List AL):Prop where
 now:x.now = []
 long:x.long=false
 ret:x.ret=true→W = [13]
 queue:x.queue=q
 lost:x.lost=0
theorem U9 {W:AL}(hW:Ends W){x:S}{q:List AL}(hq:q.length < 6){s:AL}(hn:x.now=s)(hl:x.long=false)(hr:x.ret=true→W = [13]∧s = [])(hx:x.queue=q)(h0:x.lost=0):XU W (feed x W) (q ++ [s]):=by
 have hc:decide ((x.queue.length:Int) < 6)=true:=decide_eq_true (by rw [hx];omega)
 obtain⟨n,l,r,qq,lo⟩:=x
 simp only at hn hl hr hx h0 hc
 subst hn;subst hl;subst hx;subst h0
 have h13:((13:UInt8).toNat:Int)=13:=rfl
 have h10:((10:UInt8).toNat:Int)=10:=rfl
 have h00:((0:UInt8).toNat:Int)=0:=rfl
 have e13:step ⟨n,false,r,qq,0⟩ 13=⟨[],false,true,qq ++ [n],0⟩:=by
  simp only [step,h13,hc];simp
 have e10:r=false→step ⟨n,false,r,qq,0⟩ 10=⟨[],false,false,qq ++ [n],0⟩:=by
  intro hr;subst hr
  simp only [step,h10,hc];simp
 rcases hW with rfl | rfl | rfl | rfl
 ·have:feed ⟨n,false,r,qq,0⟩ [13,10]=⟨[],false,false,qq ++ [n],0⟩:=by
   show step (step _ 13) 10=_
   rw [e13];simp [step,h10]
  rw [this];exact⟨rfl,rfl,fun h=>(by cases h),rfl,rfl⟩
 ·have hr':r=false:=by
   cases r with
   | false=>rfl
   | true=>have:=(hr rfl).1;simp at this
  have:feed ⟨n,false,r,qq,0⟩ [10]=⟨[],false,false,qq ++ [n],0⟩:=e10 hr'
  rw [this];exact⟨rfl,rfl,fun h=>(by cases h),rfl,rfl⟩
 ·have:feed ⟨n,false,r,qq,0⟩ [13,0]=⟨[],false,false,qq ++ [n],0⟩:=by
   show step (step _ 13) 0=_
   rw [e13];simp [step,h00]
  rw [this];exact⟨rfl,rfl,fun h=>(by cases h),rfl,rfl⟩
 ·have:feed ⟨n,false,r,qq,0⟩ [13]=⟨[],false,true,qq ++ [n],0⟩:=e13
  rw [this];exact⟨rfl,rfl,fun _=>rfl,rfl,rfl⟩
theorem Yl {W:AL}(hW:Ends W){x:S}{q:List AL}(h:XU W x q)(hq:q.length < 6){s:AL}(hs:E2 s=true):XU W (feed x (s++W)) (q ++ [s]):=by
 obtain⟨h1,h2⟩:=(Di s).1 hs
 rw [KH]
 cases s with
 | nil=>exact U9 hW hq h.now h.long (fun hr=>⟨h.ret hr,rfl⟩) h.queue h.lost
 | cons b s=>
  rw [Vj _ _ h2 (by rw [h.now];simpa using h1) (by simp)]
  exact U9 hW hq (by simp [h.now]) h.long (fun hr=>by cases hr) h.queue h.lost
def pick (k n:Int):Int:=k.tmod n+if k.tmod n < 0 then n else 0
def typed (W:AL)(qs:List AL):AL:=qs.flatMap (·++ W)
theorem WT {W:AL}(hW:Ends W)(qs:List AL):∀(x:S) (q:List AL),XU W x q→q.length+qs.length≤6→(∀ s∈qs,E2 s=true)→XU W (feed x (typed W qs)) (q++qs):=by
 induction qs with
 | nil=>intro x q h _ _;simpa [typed,feed] using h
 | cons s qs ih=>
  intro x q h hl hs
  rw [List.length_cons] at hl
  have h1:=Yl hW h (by omega) (hs s (by simp))
  have h2:=ih _ _ h1 (by simp;omega) (fun t ht=>hs t (by simp [ht]))
  have e:typed W (s :: qs)=(s++W)++typed W qs:=rfl
  rw [e,KH]
  simpa using h2
theorem whole {W:AL}(hW:Ends W){qs:List AL}(hl:qs.length≤6)(hs:∀ s∈qs,E2 s=true):XU W (feed s0 (typed W qs)) qs:=by
 have:=WT hW qs s0 [] ⟨rfl,rfl,fun h=>(by cases h),rfl,rfl⟩ (by simpa using hl) hs
 simpa using this
theorem drop_cons {qs:List AL}{i:Int}(h0:0≤i)(h1:i < qs.length):qs.drop i.toNat=qs.getD i.toNat [] :: qs.drop (i+1).toNat:=by
 have h:i.toNat < qs.length:=by omega
 rw [List.drop_eq_getElem_cons h,show(i+1).toNat=i.toNat+1 by omega]
 simp [List.getD,h]
theorem cj {xs:List AL}{N:Nat}(h:∀ s∈xs,s.length≤N)(k:Nat):(xs.getD k []).length≤N:=by
 by_cases hk:k < xs.length
 ·have e:xs.getD k []=xs[k]:=by simp [List.getD,hk]
  rw [e];exact h _ (List.getElem_mem hk)
 ·have e:xs.getD k [] = []:=by simp [List.getD,List.getElem?_eq_none (Nat.le_of_not_lt hk)]
  rw [e];simp
/-! #### the document's -/
def C2 (l:BN)(qs:List AL):Bool:=qs.all G0 && (G0 l.now && decide ((l.queue.len:Int)≤6) && (!l.ret || (decide (l.now = []) && !l.long)))
theorem Cd (l:BN)(qs:List AL):C2 l qs=A5 l qs:=by
 have e:∀ s,G0 s=E2 s:=fun s=>Bool.eq_iff_iff.2 (Vb s)
 have e2:G0=E2:=funext e
 rw [Bool.eq_iff_iff]
 simp only [C2,A5,Hy,e2,List.all_append,List.all_cons,List.all_nil,Bool.and_true,Bool.and_eq_true]
 constructor
 ·rintro ⟨h1,⟨h2,h3⟩,h4⟩
  have h5:=((Di _).1 h2).1
  simp at h3
  refine⟨?_,h1,h2⟩
  have a1:decide (60 < (l.now.length:Int))=false:=decide_eq_false (by omega)
  have a2:decide (6 < (l.queue.len:Int))=false:=decide_eq_false (by omega)
  rw [a1,a2]
  cases hr:l.ret with
  | false=>simp
  | true=>
   rw [hr] at h4
   simp at h4
   rw [h4.1,h4.2];simp
 ·rintro ⟨h1,h2,h3⟩
  simp only [Bool.not_eq_true',Bool.or_eq_false_iff,decide_eq_false_iff_not] at h1
  obtain⟨⟨⟨h4,h5⟩,h6⟩,h7⟩:=h1
  refine⟨h2,⟨h3,by simp;omega⟩,?_⟩
  cases hr:l.ret<;>cases hl:l.long<;>simp_all
def FE (x:S):S:=⟨[],false,x.ret,if decide ((x.queue.length:Int)=6)=true then x.queue else x.queue ++ [x.now],if decide ((x.queue.length:Int)=6)=true then x.lost+1 else x.lost⟩
def LC (x:S)(b:UInt8):S:=
 if decide ((b.toNat:Int)=13)=true then { FE x with ret:=true }
 else if decide ((b.toNat:Int)=10)=true then FE x
 else if (decide ((b.toNat:Int)=8) || decide ((b.toNat:Int)=127))=true then { x with now:=x.now.take (max ((x.now.length:Int) - 1) 0).toNat }
 else if (decide (32≤(b.toNat:Int)) && decide ((b.toNat:Int)≤126) && decide ((x.now.length:Int)=60))=true then { x with long:=true }
 else if (decide (32≤(b.toNat:Int)) && decide ((b.toNat:Int)≤126))=true then { x with now:=x.now ++ [b] }
 else x
def Db (x:S)(b:UInt8):S:=
 if x.ret=true then(if (decide ((b.toNat:Int)=10) || decide ((b.toNat:Int)=0))=true then { x with ret:=false } else LC { x with ret:=false } b) else LC x b
theorem XA {x:S}(h:Ok x)(b:UInt8)(hr:x.ret=false):LC x b=step x b:=by
 obtain⟨n,l,r,q,lo⟩:=x
 simp only at hr
 subst hr
 have h1:q.length≤6:=h.len
 have h2:n.length≤60:=((Di _).1 h.now).1
 have hmax:(max ((n.length:Int) - 1) 0).toNat=((n.length:Int) - 1).toNat:=by omega
 unfold LC step FE EW
 dsimp only
 by_cases c13:(b.toNat:Int)=13
 ·by_cases hq:(q.length:Int)=6
  ·have:¬ (q.length:Int) < 6:=by omega
   simp [c13,hq]
  ·have:(q.length:Int) < 6:=by omega
   simp [c13,hq,this]
 ·by_cases c10:(b.toNat:Int)=10
  ·by_cases hq:(q.length:Int)=6
   ·have:¬ (q.length:Int) < 6:=by omega
    simp [c10,hq]
   ·have:(q.length:Int) < 6:=by omega
    simp [c10,hq,this]
  ·by_cases c8:(b.toNat:Int)=8∨(b.toNat:Int)=127
   ·have e8:(decide ((b.toNat:Int)=8) || decide ((b.toNat:Int)=127))=true:=by simpa using c8
    rw [hmax]
    by_cases hn:0 < (n.length:Int)
    ·simp only [c13,c10,e8,hn,decide_false,decide_true,Bool.false_and,Bool.or_self,if_true,Bool.false_eq_true,if_false]
    ·have:n = []:=List.length_eq_zero_iff.1 (by omega)
     subst this
     simp only [c13,c10,e8,hn,decide_false,decide_true,Bool.false_and,Bool.or_self,if_true,Bool.false_eq_true,if_false,List.take_nil]
   ·have e8:(decide ((b.toNat:Int)=8) || decide ((b.toNat:Int)=127))=false:=by simpa using c8
    have ep:(decide (32≤(b.toNat:Int)) && decide ((b.toNat:Int) < 127))=(decide (32≤(b.toNat:Int)) && decide ((b.toNat:Int)≤126)):=by
     rw [Bool.eq_iff_iff];simp;omega
    rw [ep]
    simp only [c13,c10,e8,decide_false,Bool.false_and,Bool.or_self,Bool.false_eq_true,if_false]
    cases hp:(decide (32≤(b.toNat:Int)) && decide ((b.toNat:Int)≤126)) with
    | false=>simp
    | true=>
     by_cases h60:(n.length:Int)=60
     ·simp [h60]
     ·have:¬ 60≤(n.length:Int):=by omega
      simp [h60,this]
theorem step_ret (x:S)(b:UInt8)(h:¬ ((b.toNat:Int)=10∨(b.toNat:Int)=0)):step x b=step { x with ret:=false } b:=by
 have e:(decide ((b.toNat:Int)=10) || decide ((b.toNat:Int)=0))=false:=by simpa using h
 unfold step;simp only [e,Bool.and_false]
theorem Ok.ig {x:S}(h:Ok x):Ok { x with ret:=false }:=⟨h.now,h.queue,h.len,fun e=>by cases e⟩
theorem V8 {x:S}(h:Ok x)(b:UInt8):Db x b=step x b:=by
 unfold Db
 cases hr:x.ret with
 | false=>exact XA h b hr
 | true=>
  rw [if_pos rfl]
  cases hc:(decide ((b.toNat:Int)=10) || decide ((b.toNat:Int)=0)) with
  | true=>simp only [step,hr,hc];rfl
  | false=>rw [if_neg (by decide),XA h.ig b rfl,step_ret x b (by simpa using hc)]
structure RI (x0:S)(u:AL)(k:Int)(x:S):Prop where
 k0:0≤k
 k1:k≤u.length
 ok:Ok x
 lost:0≤x.lost∧x.lost≤k
 e:feed x0 u=feed x (u.drop k.toNat)
theorem RI.start {x:S}{u:AL}(h:Ok x)(h0:x.lost=0):RI x u 0 x:=⟨by omega,by omega,h,by omega,rfl⟩
theorem RI.next {x0 x x':S}{u:AL}{k:Int}(h:RI x0 u k x)(hk:k < u.length)(hs:Db x (u.getD k.toNat 0)=x'):RI x0 u (k+1) x':=by
 rw [V8 h.ok] at hs
 have h0:=h.k0
 have hk':k.toNat < u.length:=by omega
 have hd:u.drop k.toNat=u.getD k.toNat 0 :: u.drop (k+1).toNat:=by
  rw [List.drop_eq_getElem_cons hk',show(k+1).toNat=k.toNat+1 by omega]
  simp [List.getD,hk']
 have hl:=RY x (u.getD k.toNat 0)
 have hl':=h.lost
 have ho:=OY h.ok (u.getD k.toNat 0)
 rw [hs] at hl ho
 exact⟨by omega,by omega,ho,by omega,by rw [h.e,hd,← hs];rfl⟩
theorem RI.done {x0 x:S}{u:AL}{k:Int}(h:RI x0 u k x)(hk:¬ k < u.length):feed x0 u=x:=by
 have h1:=h.k1
 have hk':k.toNat=u.length:=by omega
 rw [h.e,hk',List.drop_length];rfl
theorem E9 (b:UInt8):AI.bytesOf [(b.toNat:Int)] = [b]:=by simp [AI.bytesOf,u8]
end Aa
end Go.Ing
/- Engine, part 14: the library's own entries; slices that came in or are the call's own. -/
namespace Go.Ing
open Go
section
variable {P:Program} {n:Nat} {w0:World} {M:List Nat} {Q:Exit→Go.Act→World→Prop} {F F':List (Nat × Value)} {L L':List AJ} {ops:Array Oper} {rest:List Oper}
theorem MC {U:TypeId}{ts:Array TypeId}{x:Operand}{T E:TypeId}{p:Option Addr}{l c:Nat}(ht:ts[0]?=some U)(hu:P.underlying U=some (.slice E))(hx:ev F x=some (.slice p l c)):PS P n w0 M (.call ⟨.builtin .cap,#[x],ts⟩) T F L (.int .i64 c) L:=Bj fun e w hF=>by
 simp [execOp,resolve,invoke,builtin,Builtin.cap_,ht,hF.ev hx,underlying,hu,goInt]
theorem ZE {U E sz:TypeId}{ts:Array TypeId}{x y:Operand}{T:TypeId}{h:Hd}(ht:ts[0]?=some U)(hu:P.underlying U=some (.slice E))(hs:Sz P E sz)(hx:ev F x=some h.val)(hy:ev F y=some (.slice none 0 0)):PS P n w0 M (.call ⟨.builtin .copy,#[x,y],ts⟩) T F L (.int .i64 0) L:=Bj fun e w hF=>by
 cases ha:h.a with
 | none=>simp [execOp,resolve,invoke,builtin,Builtin.copy_,ht,hF.ev hx,hF.ev hy,underlying,hu,goInt,Hd.val,Builtin.lenOf,Builtin.firstCells,hs w,ha,pure,ReaderT.pure]
 | some a=>simp [execOp,resolve,invoke,builtin,Builtin.copy_,ht,hF.ev hx,hF.ev hy,underlying,hu,goInt,Hd.val,Builtin.lenOf,Builtin.firstCells,hs w,ha,storeCells]
theorem Oq {f : FuncId} {fn : Func} {ex : Array Value → Sem Value} {ts : Array TypeId} {T : TypeId} {x y : Operand} {a b v : Value} (hf : P.funcs[f]? = some fn) (h1 : (fn.name == "runtime.NumGoroutine") = false) (h2 : fn.body.isNone = true) (h3 : Extern.findNext fn = none) (h4 : Extern.find fn = some ex) (hx : ev F x = some a) (hy : ev F y = some b)
  (hr:∀ w,(ex #[a,b]).run P w = .ok v w):PS P n w0 M (.call ⟨.value (.func f),#[x,y],ts⟩) T F L v L:=Bj fun e w hF=>by
 have:=run_callFunc_extern hf h1 h2 h3 h4 #[a,b] w
 rw [hr] at this
 have hx':=hF.ev hx
 have hy':=hF.ev hy
 have hg:e.eval (.func f) = .func (.func f) #[] #[]:=rfl
 simp [execOp,resolve,Deferred.ofValue,invoke,hg,hx',hy',this]
theorem XH (c:UInt8):((c.toNat:Int)).toNat.toUInt8=c:=by simp
theorem On {f : FuncId} {fn : Func} {ts : Array TypeId} {T : TypeId} {x y : Operand} {s : AL} {c : UInt8} (hf : P.funcs[f]? = some fn) (h1 : (fn.name == "runtime.NumGoroutine") = false) (h2 : fn.body.isNone = true) (h3 : Extern.findNext fn = none) (h4 : Extern.find fn = some Extern.BytealgCount.count) (hx : ev F x = some (Ag s)) (hy : ev F y = some (.int .u8 (c.toNat : Int))) :
  PS P n w0 M (.call ⟨.value (.func f),#[x,y],ts⟩) T F L (.int .i64 ((s.count c:Nat):Int)) L:=
 Oq hf h1 h2 h3 h4 hx hy fun w=>by
  have:=Lib.run_countString (P:=P) ⟨s.toArray⟩ (c.toNat:Int) w
  rw [XH] at this
  exact this
theorem LV {f : FuncId} {fn : Func} {ts : Array TypeId} {T : TypeId} {x y : Operand} {s : AL} {c : UInt8} (hf : P.funcs[f]? = some fn) (h1 : (fn.name == "runtime.NumGoroutine") = false) (h2 : fn.body.isNone = true) (h3 : Extern.findNext fn = none) (h4 : Extern.find fn = some Extern.BytealgIndexByte.indexByte) (hx : ev F x = some (Ag s)) (hy : ev F y = some (.int .u8 (c.toNat : Int))) :
  PS P n w0 M (.call ⟨.value (.func f),#[x,y],ts⟩) T F L (.int .i64 (Lib.indexByte s c)) L:=
 Oq hf h1 h2 h3 h4 hx hy fun w=>by
  have:=Lib.run_indexByteString (P:=P) ⟨s.toArray⟩ (c.toNat:Int) w
  rw [XH] at this
  exact this
theorem PA:∀(m t:Nat) (acc:Array Value),∃ xs:AL,xs.length=m∧(Extern.BytealgMakeNoZero.digits m t acc).toList=acc.toList++xs.flatMap CE
 | 0,_,acc=>⟨[],rfl,by simp [Extern.BytealgMakeNoZero.digits]⟩
 | m+1,t,acc=>by
  obtain⟨xs,h1,h2⟩:=PA m (t / 256) (acc.push (.int .u8 (Int.ofNat (t % 256))))
  refine⟨(t % 256).toUInt8 :: xs,by simp [h1],?_⟩
  rw [Extern.BytealgMakeNoZero.digits,h2]
  have:((t % 256).toUInt8.toNat:Int)=Int.ofNat (t % 256):=by
   simp
  simp [CE,this]
theorem S7 {d : Nat} {f : FuncId} {fn : Func} {ps : Array TypeId} {t E : TypeId} {ts : Array TypeId} {T : TypeId} {pos : String} {Bl : Array Edge} {x : Operand} {m : Int} (hd : Nat.blt d n = true) (hf : P.funcs[f]? = some fn) (h1 : (fn.name == "runtime.NumGoroutine") = false) (h2 : fn.body.isNone = true) (h3 : Extern.findNext fn = none)
  (h4:Extern.find fn=some (Extern.BytealgMakeNoZero.makeNoZero ps #[t])) (hu:P.underlying t=some (.slice E)) (hs:Sz P E 1) (hx:ev F x=some (.int .i64 m)) (h0:0≤m) (hm:m≤281474976710656)
  (k:∀(b cap:Nat) (xs:AL),xs.length=m.toNat→m.toNat≤cap→GL P n w0 M ops Q rest ((d,Hd.val ⟨some ⟨b,0,none⟩,m.toNat,cap⟩) :: F) (AJ.own ⟨some ⟨b,0,none⟩,m.toNat,cap⟩ E 1 (xs.flatMap CE) :: L)):GL P n w0 M ops Q (⟨some d, .call ⟨.value (.func f),#[x],ts⟩,T,pos,Bl,none⟩ :: rest) F L:=by
 refine E7 (R:=fun v L'=>∃(b cap:Nat) (xs:AL),v=Hd.val ⟨some ⟨b,0,none⟩,m.toNat,cap⟩∧L'=AJ.own ⟨some ⟨b,0,none⟩,m.toNat,cap⟩ E 1 (xs.flatMap CE) :: L∧xs.length=m.toNat∧m.toNat≤cap) hd ?_ (fun v L' ⟨b,cap,xs,e1,e2,e3,e4⟩=>by subst e1;subst e2;exact k b cap xs e3 e4)
 intro a w hF hS
 obtain⟨N,rfl⟩:=Int.eq_ofNat_of_zero_le h0
 have hN:N≤281474976710656:=by omega
 let cap:=(Question.appendCap N 0 E).cut (w.tape w.drawn (Question.appendCap N 0 E))
 have hcap:N≤cap:=Nat.le_add_right _ _
 let t' := (Question.extern "internal/bytealg.MakeNoZero.bytes" 0).cut (w.tape (w.drawn + 1) (.extern "internal/bytealg.MakeNoZero.bytes" 0))
 obtain⟨ys,hy1,hy2⟩:=PA cap t' #[]
 have hrun:(Extern.BytealgMakeNoZero.makeNoZero ps #[t] #[.int .i64 N]).run P w = .ok (.slice (some ⟨w.heap.size,0,none⟩) N cap) (w.drew.drew.alloc (.cells (ys.flatMap CE).toArray E)):=by
  have hdef:Extern.BytealgMakeNoZero.makeNoZero ps #[t] #[.int .i64 N] =
   (do
    let .slice elem ← underlying t | stuck "bytealg.MakeNoZero: slice type expected"
    if (N : Int) < 0 || (N : Int) > 2 ^ 48 then runtimePanic (.error "makeslice: len out of range")
    let cap ← choose (.appendCap (N:Int).toNat 0 elem)
    askRoom cap
    let bytes ← choose (.extern "internal/bytealg.MakeNoZero.bytes" 0)
    let a ← newRow elem (Extern.BytealgMakeNoZero.digits cap bytes #[])
    pure (.slice (some a) (N:Int).toNat cap)):=rfl
  have g1:¬ (N:Int) < 0:=by omega
  have g2:¬ (281474976710656:Int) < (N:Int):=by omega
  have hdig:Extern.BytealgMakeNoZero.digits cap t' #[]=(ys.flatMap CE).toArray:=by
   apply Array.ext';rw [hy2];simp
  rw [hdef]
  simp [run_underlying hu,g1,g2,Question.forced,newRow]
  exact⟨rfl,congrArg (fun c=>w.drew.drew.alloc (Obj.cells c E)) hdig⟩
 have hS1:St w0 M w.drew.drew L:=hS.drew _
 have hlen:(ys.flatMap CE).length=cap:=by rw [CW SI.len,hy1,Nat.mul_one]
 have hw1:=hS1.alloc E (ys.flatMap CE)
 have hS':St w0 M (w.drew.drew.alloc (.cells (ys.flatMap CE).toArray E)) (AJ.own ⟨some ⟨w.heap.size,0,none⟩,N,cap⟩ E 1 ((ys.take N).flatMap CE) :: L):=by
  refine hw1.Dy (.head) rfl rfl rfl (Nat.le_refl _) (fun _ _ _=>rfl) ?_ (fun b hb=>?_)
  ·refine .inr ⟨w.heap.size,0,ys.flatMap CE,(0,0),rfl,by simp,?_,fun _ _ h=>by simp at h,?_,hcap,?_,?_⟩
   ·have:=hw1.ok _ (List.mem_cons_self ..)
    exact this
   ·show 0+cap * 1≤_;rw [hlen];omega
   ·show N * 1=_;rw [CW SI.len,List.length_take,hy1,Nat.min_eq_left hcap]
   ·show((ys.flatMap CE).drop 0).take _=_
    rw [List.drop_zero]
    have e:=Q5 SI ys N
    rw [CW SI.len,List.length_take,hy1,Nat.min_eq_left hcap]
    exact e
  ·simp [AJ.own] at hb
   subst hb
   exact⟨by simp, .inl (by simp [AJ.box])⟩
 refine⟨_,_,_,⟨w.heap.size,cap,ys.take N,rfl,rfl,by rw [List.length_take,hy1,Int.toNat_natCast];exact Nat.min_eq_left hcap,by simpa using hcap⟩,?_,hS'⟩
 have:=run_callFunc_extern hf h1 h2 h3 h4 #[.int .i64 N] w
 rw [hrun] at this
 have hx':=hF.ev hx
 have hg:a.eval (.func f) = .func (.func f) #[] #[]:=rfl
 simp [execOp,resolve,Deferred.ofValue,invoke,hg,hx',this,Hd.val]
def fw {α:Type}(T:Nat)(h:Hd)(xs:List α)(Ta:Nat)(a:Hd)(ys:List α)(Tg:Nat)(g:Hd)(zs:List α):Prop:=(T=Ta∧h=a∧xs=ys∧g=⟨none,0,0⟩∧zs = [])∨(T=Tg∧h=g∧zs=xs)
theorem gj {α:Type}{e:α→List Value}{T Ta Tg sz:Nat}{h a g:Hd}{xs ys zs:List α}(ho:fw T h xs Ta a ys Tg g zs)(ka:Kn w0 M L a Ta sz (ys.flatMap e))(kg:Kn w0 M L g Tg sz (zs.flatMap e)):Kn w0 M L h T sz (xs.flatMap e):=by
 rcases ho with ⟨rfl,rfl,rfl,_,_⟩ | ⟨rfl,rfl,rfl⟩
 ·exact ka
 ·exact kg
theorem gi {α:Type}{T Ta Tg:Nat}{h a g:Hd}{xs ys zs:List α}(ho:fw T h xs Ta a ys Tg g zs)(ka:VI w0 M L a)(kg:VI w0 M L g):VI w0 M L h:=by
 rcases ho with ⟨rfl,rfl,rfl,_,_⟩ | ⟨rfl,rfl,rfl⟩
 ·exact ka
 ·exact kg
theorem Dm {α:Type}{e:α→List Value}{d T U E sz:Nat}{x y:Operand}{pos:String}{Bl:Array Edge}{h:Hd}{xs:List α}{kd:IntKind}{i:Int}{Lf:AJ→List AJ}(fe:Flat e sz)(hd:Nat.blt d n=true)(hT:P.underlying T=some (.slice E))(hs:Sz P E sz)(hx:ev F x=some h.val)(hy:ev F y=some (.int kd i))(h0:0≤i)(h1:i≤(h.len:Int))(hU:∀ r,Ip L (AJ.own h E sz (xs.flatMap e)) r (Lf r))
  (k:GL P n w0 M ops Q rest ((d,(h.cut i.toNat h.len sz).val) :: F) (Lf (AJ.own (h.cut i.toNat h.len sz) E sz ((xs.drop i.toNat).flatMap e)))):GL P n w0 M ops Q (⟨some d, .slice T x (some y) none none,U,pos,Bl,none⟩ :: rest) F L:=by
 refine E7 (R:=fun v L'=>v=(h.cut i.toNat h.len sz).val∧L'=Lf (AJ.own (h.cut i.toNat h.len sz) E sz ((xs.drop i.toNat).flatMap e))) hd ?_ (fun v L' ⟨e1,e2⟩=>by subst e1;subst e2;exact k)
 intro a w hF hS
 have hok:=hS.ok _ (hU ⟨[],fun _=>True,fun _ _ _ _=>trivial⟩).mem
 have hr:Rd w h E sz (xs.flatMap e):=Kn.own (M:=M) (hU ⟨[],fun _=>True,fun _ _ _ _=>trivial⟩).mem w hS
 have hcap:h.len≤h.cap:=by
  rcases hok with ⟨rfl,_⟩ | ⟨b,o,C,fz,e1,e2,e3,e4,e5,e6,_⟩
  ·exact Nat.le_refl _
  ·exact e6
 have hil:i.toNat≤h.len:=by omega
 have hlc:h.len * sz≤h.cap * sz:=Nat.mul_le_mul_right sz hcap
 have hll:i.toNat * sz≤h.len * sz:=Nat.mul_le_mul_right sz hil
 have hcs:((xs.flatMap e).take (h.len * sz)).drop (i.toNat * sz)=(xs.drop i.toNat).flatMap e:=by
  rw [hr.1,List.take_length]
  have:=MK fe xs (l:=i.toNat) (r:=xs.length)
  rwa [List.take_length,← CW fe.len,List.take_length] at this
 have hlen:((xs.drop i.toNat).flatMap e).length=h.len * sz - i.toNat * sz:=by
  rw [← hcs,List.length_drop,List.length_take,← hr.1,Nat.min_self]
 refine⟨_,_,w,⟨rfl,rfl⟩,?_,?_⟩
 ·have hs':=hs w
  simp only [execOp,hF.ev hx,Option.map_some,Option.map_none,hF.ev hy,Hd.val,Instr.sliceAt,Instr.slice,underlying]
  simp [hT,Instr.sliceBounds,Instr.sliceBound,asIntOf,h1,h0,hs',Hd.cut]
 ·refine hS.Dy (hU _) rfl rfl rfl (Nat.le_refl _) (fun _ _ _=>rfl) ?_ ?_
  ·rcases hok with ⟨rfl,hn⟩ | ⟨b,o,C,fz,e1,e2,e3,e4,e5,e6,e7,e8⟩
   ·have:i.toNat=0:=by simp at hil;omega
    refine .inl ⟨by simp [Hd.cut,this],?_⟩
    rw [List.eq_nil_of_length_eq_zero (l:=(xs.drop i.toNat).flatMap e) (by rw [hlen];simp)]
   ·by_cases hci:h.cap=i.toNat
    ·have hli:h.len=i.toNat:=by omega
     refine .inr ⟨b,o,C,fz,by simp only [Hd.cut];rw [if_pos hci];exact e1,e2,e3,e4,?_,?_,?_,?_⟩
     ·simp only [Hd.cut];rw [hci,Nat.sub_self,Nat.zero_mul];omega
     ·simp only [Hd.cut];omega
     ·simp only [Hd.cut];rw [hlen,Nat.sub_mul]
     ·rw [hlen,List.eq_nil_of_length_eq_zero (l:=(xs.drop i.toNat).flatMap e) (by rw [hlen,hli];omega),hli];simp
    ·refine .inr ⟨b,o+i.toNat * sz,C,fz,by simp only [Hd.cut];rw [if_neg hci,e1];simp [EC],e2,e3,fun j hj h=>e4 j (by omega) h,?_,?_,?_,?_⟩
     ·simp only [Hd.cut];rw [Nat.sub_mul];omega
     ·simp only [Hd.cut];omega
     ·simp only [Hd.cut];rw [hlen,Nat.sub_mul]
     ·have hX:xs.flatMap e=(C.drop o).take (h.len * sz):=by rw [hr.1];exact e8.symm
      have hY:(xs.drop i.toNat).flatMap e=((C.drop o).take (h.len * sz)).drop (i.toNat * sz):=by rw [← hcs,← hX,hr.1,List.take_length]
      rw [hlen,hY,List.drop_take,List.drop_drop]
  ·intro b hb
   have hb':b∈(AJ.own h E sz (xs.flatMap e)).Bn:=by
    revert hb
    simp only [AJ.own,Hd.cut]
    cases ha:h.a with
    | none=>by_cases hc:h.cap=i.toNat<;>simp [hc]
    | some a=>
     by_cases hc:h.cap=i.toNat
     ·simp [hc]
     ·simp only [hc,if_false,Option.map_some]
      unfold Addr.add
      split<;>simp
   exact⟨(hS.Bn _ (hU ⟨[],fun _=>True,fun _ _ _ _=>trivial⟩).mem b hb').1, .inl hb'⟩
end
end Go.Ing
/- The plain functions of pages. -/
namespace Go.Ing
open Go
namespace Page
/-! #### what is escaped -/
def escape (s:AL):AL:=s.flatMap fun b=>if b=255 then [255,255] else [b]
theorem Qa (a b:AL):escape (a++b)=escape a++escape b:=List.flatMap_append
theorem FC (s:AL):(escape s).length≤2 * s.length:=by
 induction s with
 | nil=>simp [escape]
 | cons b s ih=>
  have e:escape (b :: s)=(if b=255 then [255,255] else [b])++escape s:=rfl
  rw [e,List.length_append,List.length_cons]
  split<;>simp<;>omega
theorem Ng (s:AL)(h:s.count 255=0):escape s=s:=by
 induction s with
 | nil=>rfl
 | cons b s ih=>
  have hb:b≠255:=fun e=>by subst e;simp at h
  have hs:s.count 255=0:=by rw [List.count_cons_of_ne (by simpa using hb)] at h;exact h
  have e:escape (b :: s)=(if b=255 then [255,255] else [b])++escape s:=rfl
  rw [e,if_neg hb,ih hs];rfl
theorem index_spec:∀(s:AL),0 < s.count 255→∃ i:Nat,Lib.indexByte s 255=i∧i < s.length∧escape (s.take i)=s.take i∧s.drop i=255 :: s.drop (i+1)∧(s.drop (i+1)).count 255+1=s.count 255
 | [],h=>by simp at h
 | b :: s,h=>by
  by_cases hb:b=255
  ·subst hb
   exact⟨0,by simp [Lib.indexByte],by simp,by simp [escape],by simp,by simp⟩
  ·have hs:s.count 255=(b :: s).count 255:=(List.count_cons_of_ne (by simpa using hb)).symm
   obtain⟨i,h1,h2,h3,h4,h5⟩:=index_spec s (by rw [hs];exact h)
   refine⟨i+1,?_,by simp;omega,?_,by simpa using h4,by simp only [List.drop_succ_cons];rw [h5,hs]⟩
   ·have hne:(b == (255:UInt8))=false:=by simpa using hb
    have hm:((i:Int) == -1)=false:=beq_eq_false_iff_ne.2 (by omega)
    simp [Lib.indexByte,hne,h1,hm]
   ·rw [List.take_succ_cons]
    have e:escape (b :: s.take i)=(if b=255 then [255,255] else [b])++escape (s.take i):=rfl
    rw [e,if_neg hb,h3];rfl
theorem index_one (c:UInt8):Lib.indexByte [c] c=0:=by simp [Lib.indexByte]
structure Ry (s:AL)(m:Nat)(k start:Int)(x:AL):Prop where
 k0:0≤k
 k1:k≤m
 s0:0≤start
 s1:start≤s.length
 e:x++escape (s.drop start.toNat)=escape s
 c:((s.drop start.toNat).count 255:Int)=m - k
 xl:(x.length:Int)≤2 * start
theorem Ry.start {s:AL}{m:Nat}(h:s.count 255=m):Ry s m 0 0 []:=⟨by omega,by omega,by omega,by omega,rfl,by simp [h],by simp⟩
theorem Ry.idx {s:AL}{m:Nat}{k start:Int}{x:AL}(h:Ry s m k start x)(hk:k < m):∃ i:Nat,Lib.indexByte (s.drop start.toNat) 255=i∧start+i < s.length∧Ry s m (k+1) (start+i+1) (x++((s.take (start+i).toNat).drop start.toNat) ++ [255,255]):=by
 obtain⟨k0,k1,s0,s1,e,c,xl⟩:=h
 obtain⟨i,h1,h2,h3,h4,h5⟩:=index_spec (s.drop start.toNat) (by omega)
 rw [List.length_drop] at h2
 rw [List.drop_drop,List.drop_drop] at h4
 rw [List.drop_drop] at h5
 have e1:(start+i).toNat=start.toNat+i:=by omega
 have e2:(start+i+1).toNat=start.toNat+(i+1):=by omega
 have et:(s.take (start+i).toNat).drop start.toNat=(s.drop start.toNat).take i:=by rw [e1,List.drop_take];congr 1;omega
 refine⟨i,h1,by omega,by omega,by omega,by omega,by omega,?_,?_,?_⟩
 ·rw [et,e2,← e]
  have:escape (s.drop start.toNat)=(s.drop start.toNat).take i++([255,255]++escape (s.drop (start.toNat+(i+1)))):=by
   conv=>lhs;rw [← List.take_append_drop i (s.drop start.toNat),Qa,h3,List.drop_drop,h4]
   rfl
  rw [this]
  simp only [List.append_assoc]
 ·rw [e2];omega
 ·rw [et];simp only [List.length_append,List.length_take,List.length_drop,List.length_cons,List.length_nil];omega
theorem Ry.done {s:AL}{m:Nat}{k start:Int}{x:AL}(h:Ry s m k start x)(hk:¬ k < m):x++s.drop start.toNat=escape s:=by
 have:=h.e
 rwa [Ng _ (by have:=h.c;omega)] at this
/-! #### pages -/
structure Pg where
 shown:Int
 BL:Bool
 ring:AL
 cut:Bool
 deriving DecidableEq,Inhabited
def of (p:A9):Pg:=⟨p.shown,p.BL,p.ring,p.cut⟩
def A5 (p:A9):Bool:=decide ((p.wait.len:Int)≤60) && decide ((p.ring.length:Int)≤700) && decide (0≤p.shown) && decide (p.shown≤200)
def put (x:Pg)(s:AL):Pg:=if x.cut=true then x else if decide (700 - (x.ring.length:Int) < s.length)=true then { x with cut:=true } else { x with ring:=x.ring++s }
def send (p:A9)(s:AL):Pg × Int:=if (!A5 p)=true then(of p,2) else if p.cut=true then(of p,6) else(put (of p) s,0)
def QC (p:A9)(s:AL):Pg × Int:=if (!A5 p)=true then(of p,2) else if p.cut=true then(of p,6) else if (decide (700 < (s.length:Int)) || decide (700 < (p.ring.length:Int)+s.length))=true then({ of p with cut:=true },0) else({ of p with ring:=p.ring++s },0)
theorem Mk (p:A9)(s:AL):QC p s=send p s:=by
 unfold QC send put of
 cases A5 p with
 | false=>rfl
 | true=>
  cases hc:p.cut with
  | true=>simp
  | false=>
   have:(decide (700 < (s.length:Int)) || decide (700 < (p.ring.length:Int)+s.length))=decide (700 - (p.ring.length:Int) < s.length):=by
    rw [Bool.eq_iff_iff];simp;omega
   simp only [this]
   cases decide (700 - (p.ring.length:Int) < s.length)<;>simp
theorem Uk {p:A9}(h:A5 p=true)(s:AL):(send p s).1=put (of p) s:=by
 unfold send
 rw [h]
 cases hc:p.cut<;>simp [put,of,hc]
theorem MY {x:Pg}{s:AL}(h:x.ring.length≤700):(put x s).ring.length≤700:=by
 unfold put
 split
 ·exact h
 ·split
  ·exact h
  ·rename_i h1
   simp only [List.length_append]
   simp at h1;omega
theorem HP (x:Pg)(s:AL):(put x s).shown=x.shown:=by
 unfold put;split
 ·rfl
 ·split<;>rfl
def dx:AL:= [45,45,32,109,111,114,101,32,45,45,13,10]
def BJ (ht:Int):List AL→Pg→Pg × List AL
 | [],x=>(x,[])
 | s :: r,x=>if (x.BL || x.cut)=true then(x,s :: r) else if (decide (0 < ht) && decide (ht≤x.shown))=true then(put { x with BL:=true } dx,s :: r) else BJ ht r (put { x with shown:=min (x.shown+1) 200 } (escape s ++ [13,10]))
theorem SO {p:A9}(h1:p.wait.len≤60)(h2:p.ring.length≤700)(h3:0≤p.shown)(h4:p.shown≤200):A5 p=true:=by
 simp only [A5,Bool.and_eq_true,decide_eq_true_eq];omega
theorem EU (p:A9):A5 p=true↔p.wait.len≤60∧p.ring.length≤700∧0≤p.shown∧p.shown≤200:=by
 simp only [A5,Bool.and_eq_true,decide_eq_true_eq];omega
structure FI (ht:Int)(qs:List AL)(x0:Pg)(rest:List AL)(h:Hd)(x:Pg):Prop where
 n:rest.length≤60
 hl:h.len=rest.length
 ring:x.ring.length≤700
 s0:0≤x.shown
 s1:x.shown≤200
 len:∀ s∈rest,s.length≤70368744000000
 e:BJ ht qs x0=BJ ht rest x
theorem FI.start {ht:Int}{qs:List AL}{p:A9}(hg:A5 p=true)(hl:p.wait.len=qs.length)(hs:∀ s∈qs,s.length≤70368744000000):FI ht qs (of p) qs p.wait (of p):=by
 obtain⟨h1,h2,h3,h4⟩:=(EU p).1 hg
 exact⟨by omega,hl,h2,h3,h4,hs,rfl⟩
theorem FI.A5 {ht:Int}{qs rest:List AL}{x0 x:Pg}{h:Hd}(hI:FI ht qs x0 rest h x){n:Hd}(hn:n.len≤60){a:Bool}{c:Bool}:Page.A5 ⟨n,x.shown,a,x.ring,c⟩=true:=SO hn hI.ring hI.s0 hI.s1
theorem FI.next {ht:Int}{qs r:List AL}{s:AL}{x0:Pg}{h h':Hd}{sh:Int}{az ct:Bool}{ring:AL}(hI:FI ht qs x0 (s :: r) h ⟨sh,az,ring,ct⟩)(ha:az=false)(hc:ct=false)(hm:(decide (0 < ht) && decide (ht≤sh))=false)(hl:h'.len=r.length){y:Pg}
  (hy:y=(send ⟨h',min (sh+1) 200,az,ring,ct⟩ (escape s ++ [13,10])).1):FI ht qs x0 r h' y:=by
 obtain⟨h1,h2,h3,h4,h5,h6,h7⟩:=hI
 subst ha;subst hc
 simp only at h3 h4 h5
 have h1':=h1
 rw [List.length_cons] at h1'
 have hg:Page.A5 ⟨h',min (sh+1) 200,false,ring,false⟩=true:=SO (by rw [hl];omega) h3 (by simp only;omega) (by simp only;omega)
 rw [Uk hg] at hy
 subst hy
 refine⟨by omega,hl,MY h3,?_,?_,fun t ht=>h6 t (by simp [ht]),?_⟩
 ·rw [HP];show 0≤min (sh+1) 200;omega
 ·rw [HP];show min (sh+1) 200≤200;omega
 ·rw [h7,BJ]
  simp only [Bool.or_self,Bool.false_eq_true,if_false,hm]
  rfl
theorem FI.asks {ht:Int}{qs r:List AL}{s:AL}{x0:Pg}{h:Hd}{sh:Int}{az ct:Bool}{ring:AL}(hI:FI ht qs x0 (s :: r) h ⟨sh,az,ring,ct⟩)(ha:az=false)(hc:ct=false)(hm:(decide (0 < ht) && decide (ht≤sh))=true) :
  BJ ht qs x0=((send ⟨h,sh,true,ring,ct⟩ dx).1,s :: r):=by
 obtain⟨h1,h2,h3,h4,h5,h6,h7⟩:=hI
 have hg:Page.A5 ⟨h,sh,true,ring,ct⟩=true:=SO (by rw [h2];exact h1) h3 h4 h5
 rw [Uk hg,h7,BJ,ha,hc]
 simp only [Bool.or_self,Bool.false_eq_true,if_false,hm,if_true]
 rfl
theorem FI.ends {ht:Int}{qs rest:List AL}{x0 x:Pg}{h:Hd}(hI:FI ht qs x0 rest h x)(hc:rest = []∨x.BL=true∨x.cut=true):BJ ht qs x0=(x,rest):=by
 rw [hI.e]
 cases rest with
 | nil=>rfl
 | cons s r=>
  have:(x.BL || x.cut)=true:=by
   rcases hc with h | h | h
   ·cases h
   ·simp [h]
   ·simp [h]
  rw [BJ,if_pos this]
theorem FI.dr {ht:Int}{qs rest:List AL}{x0:Pg}{h:Hd}{sh:Int}{az ct:Bool}{ring:AL}(hI:FI ht qs x0 rest h ⟨sh,az,ring,ct⟩)(hc:(decide (0 < (h.len:Int)) && !az && !ct)=false):BJ ht qs x0=(⟨sh,az,ring,ct⟩,rest):=by
 refine hI.ends ?_
 have hl:=hI.hl
 cases rest with
 | nil=>exact .inl rfl
 | cons s r=>
  rw [List.length_cons] at hl
  have:decide (0 < (h.len:Int))=true:=decide_eq_true (by omega)
  rw [this] at hc
  cases az with
  | true=>exact .inr (.inl rfl)
  | false=>
   cases ct with
   | true=>exact .inr (.inr rfl)
   | false=>cases hc
theorem FI.iU {ht:Int}{qs rest:List AL}{x0:Pg}{h:Hd}{sh:Int}{az ct:Bool}{ring:AL}(hI:FI ht qs x0 rest h ⟨sh,az,ring,ct⟩)(hc:(decide ((h.len:Int)=0) || az || ct)=true):BJ ht qs x0=(⟨sh,az,ring,ct⟩,rest):=by
 refine hI.dr ?_
 by_cases hz:(h.len:Int)=0
 ·have:decide (0 < (h.len:Int))=false:=decide_eq_false (by omega)
  rw [this];rfl
 ·have:decide ((h.len:Int)=0)=false:=decide_eq_false hz
  rw [this] at hc
  cases az<;>cases ct<;>simp_all
theorem Wi {ht sh:Int}(h:0≤ht):(!decide (ht=0) && decide (ht≤sh))=(decide (0 < ht) && decide (ht≤sh)):=by
 rw [Bool.eq_iff_iff];simp;omega
theorem drop_cons {s:AL}{k:Int}(h0:0≤k)(h1:k < s.length):s.drop k.toNat=s.getD k.toNat 0 :: s.drop (k+1).toNat:=by
 have hk':k.toNat < s.length:=by omega
 rw [List.drop_eq_getElem_cons hk',show(k+1).toNat=k.toNat+1 by omega]
 simp [List.getD,hk']
theorem Vg {s x:AL}{k:Int}(h0:0≤k)(h1:k < s.length)(hc:decide (((s.getD k.toNat 0).toNat:Int)=255)=true)(h:x++escape (s.drop k.toNat)=escape s):x ++ [s.getD k.toNat 0] ++ [s.getD k.toNat 0]++escape (s.drop (k+1).toNat)=escape s:=by
 rw [← h,drop_cons h0 h1]
 have hb:s.getD k.toNat 0=255:=UInt8.toNat_inj.1 (by have h2:=of_decide_eq_true hc;show _=255;omega)
 have e:∀(b:UInt8) (t:AL),escape (b :: t)=(if b=255 then [255,255] else [b])++escape t:=fun _ _=>rfl
 rw [e,if_pos hb,hb];simp
theorem Vf {s x:AL}{k:Int}(h0:0≤k)(h1:k < s.length)(hc:decide (((s.getD k.toNat 0).toNat:Int)=255)=false)(h:x++escape (s.drop k.toNat)=escape s):x ++ [s.getD k.toNat 0]++escape (s.drop (k+1).toNat)=escape s:=by
 rw [← h,drop_cons h0 h1]
 have hb:¬ s.getD k.toNat 0=255:=fun e=>by rw [e] at hc;exact absurd hc (by decide)
 have e:∀(b:UInt8) (t:AL),escape (b :: t)=(if b=255 then [255,255] else [b])++escape t:=fun _ _=>rfl
 rw [e,if_neg hb];simp
theorem Zm {s x:AL}{k:Int}(h:x++escape (s.drop k.toNat)=escape s)(hk:¬ k < s.length):x=escape s:=by
 rw [List.drop_eq_nil_of_le (by omega)] at h
 simpa [escape] using h
theorem FI.hd {ht:Int}{qs rest:List AL}{x0 x:Pg}{h h':Hd}(hI:FI ht qs x0 rest h x)(hl:h'.len=rest.length):FI ht qs x0 rest h' x:=⟨hI.n,hl,hI.ring,hI.s0,hI.s1,hI.len,hI.e⟩
theorem ch (ht:Int)(qs:List AL):∀ x:Pg,(BJ ht qs x).2.length≤qs.length:=by
 induction qs with
 | nil=>intro x;exact Nat.le_refl _
 | cons s r ih=>
  intro x
  rw [BJ]
  split
  ·exact Nat.le_refl _
  ·split
   ·exact Nat.le_refl _
   ·have:=ih (put { x with shown:=min (x.shown+1) 200 } (escape s ++ [13,10]))
    rw [List.length_cons];omega
@[reducible] def K (n:Int) (r:AL):Nat:=(max 0 (min n (r.length:Int))).toNat
end Page
end Go.Ing
/- The plain functions of the land: what the program's package 'land' computes. -/
namespace Go.Ing
open Go
namespace AD
def Hz (w:AD):Nat→A3→Bool
 | 0,_=>false
 | n+1,t=>if (!decide (t.BZ=2))=true then true else if (decide (n=0) || decide (t.at_ < 0) || decide (9≤t.at_))=true then false else Hz w n (w.AH.at t.at_)
def Bs (w:AD)(i:Int):Bool:=
 if (decide ((w.AH.at i).kind < 0) || decide (3 < (w.AH.at i).kind) || (decide ((w.AH.at i).kind=0) && (w.AH.at i).on) || decide ((w.AH.at i).at_ < 0))=true then false
 else if decide ((w.AH.at i).BZ=0)=true then decide ((w.AH.at i).at_ < 6) && !(decide ((w.AH.at i).kind=2) && (w.AH.at i).on)
 else if decide ((w.AH.at i).BZ=1)=true then decide ((w.AH.at i).at_ < 6) && (w.AF.at (w.AH.at i).at_).here
 else if decide ((w.AH.at i).BZ=2)=true then(if (decide (9≤(w.AH.at i).at_) || (!decide ((w.AH.at (w.AH.at i).at_).kind=3)) || (decide ((w.AH.at i).kind=2) && (w.AH.at i).on))=true then false else Hz w 10 (w.AH.at i))
 else false
def opposite (d:Int):Int:=(max 0 (min d 5)+3).tmod 6
def inside (w:AD)(box:Int):Nat→Int→Bool
 | 0,_=>false
 | n+1,i=>if decide (i=box)=true then true else if (decide (i < 0) || decide (9≤i) || !decide ((w.AH.at i).BZ=2))=true then false else inside w box n (w.AH.at i).at_
def Pb (w:AD)(i box:Int):Bool:=inside w box 10 i
def Hk (w:AD):Nat→Int→Bool→Int × Bool
 | 0,_,_=>(-1,false)
 | n+1,i,o=>
  if (decide (i < 0) || decide (9≤i))=true then(-1,false)
  else if decide ((w.AH.at i).BZ=0)=true then((w.AH.at i).at_,o)
  else if decide ((w.AH.at i).BZ=1)=true then(if (decide ((w.AH.at i).at_ < 0) || decide (6≤(w.AH.at i).at_))=true then(-1,false) else((w.AF.at (w.AH.at i).at_).room,o))
  else if decide ((w.AH.at i).BZ=2)=true then
   (if (decide (0≤(w.AH.at i).at_) && decide ((w.AH.at i).at_ < 9) && !(w.AH.at (w.AH.at i).at_).on)=true then Hk w n (w.AH.at i).at_ false else Hk w n (w.AH.at i).at_ o)
  else(-1,false)
def room (w:AD)(i:Int):Int × Bool:=Hk w 10 i true
def GJ (r:Room)(d:Int):Bool:=decide (r.BH.at d < 0) || decide (6 < r.BH.at d) || (decide (r.BH.at d=0) && r.shut.at d)
def Ca (b:A6):Bool:=decide (b.room < 0) || decide (6≤b.room) || decide (b.AW < 0) || decide (10 < b.AW) || decide (b.A2 < 0) || decide (6 < b.A2) || (!b.here && !decide (b.A2=0)) || b.here != decide (0 < b.AW)
def Iw (w:AD)(k:Int):Bool:=A4 6 (fun d=>!GJ (w.Ad.at k) d) 6
def A5 (w:AD):Bool:=A4 6 w.Iw 6 && (A4 6 (fun k=>!Ca (w.AF.at k)) 6 && A4 9 w.Bs 9)
def has (w:AD)(BZ at_:Int):List Int:=((List.range 9).map Int.ofNat).filter fun k=>decide ((w.AH.at k).BZ=BZ) && decide ((w.AH.at k).at_=at_)
end AD
end Go.Ing
/- The land as it begins. -/
namespace Go.Ing
open Go
namespace AD
def ex (a b c d e f:Int):Vector Int 6:=((((((Vector.replicate 6 default).put 0 a).put 1 b).put 2 c).put 3 d).put 4 e).put 5 f
def sh (i:Int):Vector Bool 6:=(Vector.replicate 6 default).put i true
def V9:Vector Room 6:=(((((((Vector.replicate 6 default).put 0 ⟨[104,101,97,114,116,104],false,(ex 2 3 4 0 0 5),sh 5⟩).put 1 ⟨[121,97,114,100],false,(ex 0 0 0 1 0 0),default⟩).put 2 ⟨[112,97,110,116,114,121],true,(ex 0 0 0 0 1 0),default⟩).put 3 ⟨[108,111,102,116],true,(ex 0 6 0 0 0 1),default⟩).put 4 ⟨[99,101,108,108,97,114],true,(ex 0 0 1 0 0 0),sh 2⟩).put 5 ⟨[97,116,116,105,99],false,(ex 0 0 0 0 4 0),default⟩)
def Sx:Vector A3 9:=((((((((((Vector.replicate 9 default).put 0 ⟨[108,97,109,112],1,0,0,false⟩).put 1 ⟨[108,97,109,112],1,0,3,false⟩).put 2 ⟨[99,108,111,97,107],2,0,0,false⟩).put 3 ⟨[99,104,101,115,116],3,0,4,false⟩).put 4 ⟨[99,111,105,110],0,2,3,false⟩).put 5 ⟨[99,111,105,110],0,0,1,false⟩).put 6 ⟨[109,117,103],0,0,0,false⟩).put 7 ⟨[98,111,120],3,0,0,true⟩).put 8 ⟨[107,101,121],0,1,1,false⟩)
def Vw:Nat→AD
 | 0=>default
 | k+1=>{ Vw k with Ad:=(Vw k).Ad.put k (V9.toList.getD k default) }
def KQ:Nat→AD
 | 0=>Vw 6
 | k+1=>{ KQ k with AH:=(KQ k).AH.put k (Sx.toList.getD k default) }
def new:AD:={ KQ 9 with AF:=((KQ 9).AF.put 0 ⟨[99,97,116],true,true,0,10,0⟩).put 1 ⟨[114,97,116],true,false,4,3,0⟩ }
theorem X3 {k:Int}(h:0≤k):Vw (k+1).toNat={ Vw k.toNat with Ad:=(Vw k.toNat).Ad.put k (V9.toList.getD k.toNat default) }:=by
 obtain⟨m,rfl⟩:=Int.eq_ofNat_of_zero_le h
 rfl
theorem X4 {k:Int}(h:0≤k):KQ (k+1).toNat={ KQ k.toNat with AH:=(KQ k.toNat).AH.put k (Sx.toList.getD k.toNat default) }:=by
 obtain⟨m,rfl⟩:=Int.eq_ofNat_of_zero_le h
 rfl
end AD
end Go.Ing
/- Plain laws of lands. -/
namespace Go.Ing
open Go
namespace AD
variable {X:AD}
theorem JZ (h:X.A5=true){i:Int}(h0:0≤i)(h9:i < 9):X.Bs i=true:=by
 unfold A5 at h
 rw [Bool.and_eq_true,Bool.and_eq_true] at h
 exact(CA 9).1 h.2.2 i (by omega) h9
theorem FD (h:X.A5=true){b:Int}(h0:0≤b)(h9:b < 6):Ca (X.AF.at b)=false:=by
 unfold A5 at h
 rw [Bool.and_eq_true,Bool.and_eq_true] at h
 simpa using (CA 6).1 h.2.1 b (by omega) h9
theorem Ku (h:X.A5=true){r d:Int}(h0:0≤r)(h6:r < 6)(d0:0≤d)(d6:d < 6):GJ (X.Ad.at r) d=false:=by
 unfold A5 at h
 rw [Bool.and_eq_true,Bool.and_eq_true] at h
 have:=(CA 6).1 h.1 r (by omega) h6
 unfold Iw at this
 simpa using (CA 6).1 this d (by omega) d6
structure Rz (X:AD)(i:Int):Prop where
 k0:0≤(X.AH.at i).kind
 k3:(X.AH.at i).kind≤3
 plain:(X.AH.at i).kind=0→(X.AH.at i).on=false
 a0:0≤(X.AH.at i).at_
 BZ:((X.AH.at i).BZ=0∧(X.AH.at i).at_ < 6∧¬ ((X.AH.at i).kind=2∧(X.AH.at i).on=true)) ∨
  ((X.AH.at i).BZ=1∧(X.AH.at i).at_ < 6∧(X.AF.at (X.AH.at i).at_).here=true) ∨
  ((X.AH.at i).BZ=2∧(X.AH.at i).at_ < 9∧(X.AH.at (X.AH.at i).at_).kind=3∧¬ ((X.AH.at i).kind=2∧(X.AH.at i).on=true)∧X.Hz 10 (X.AH.at i)=true)
theorem Mq {i:Int}(h:X.Bs i=true):Rz X i:=by
 unfold Bs at h
 split at h
 ·cases h
 ·rename_i h1
  simp only [Bool.or_eq_true,Bool.and_eq_true,decide_eq_true_eq,not_or,not_and,Bool.not_eq_true] at h1
  obtain⟨⟨⟨a1,a2⟩,a3⟩,a4⟩:=h1
  refine⟨by omega,by omega,a3,by omega,?_⟩
  split at h
  ·rename_i h2
   simp only [Bool.and_eq_true,decide_eq_true_eq,Bool.not_eq_true'] at h h2
   refine .inl ⟨h2,h.1,fun⟨x,y⟩=>?_⟩
   simp [x,y] at h
  ·rename_i h2
   split at h
   ·rename_i h3
    simp only [Bool.and_eq_true,decide_eq_true_eq] at h h3
    exact .inr (.inl ⟨h3,h.1,h.2⟩)
   ·split at h
    ·rename_i h4
     split at h
     ·cases h
     ·rename_i h5
      simp only [Bool.or_eq_true,Bool.and_eq_true,decide_eq_true_eq,not_or,not_and,Bool.not_eq_true,Bool.not_eq_true',decide_eq_false_iff_not,Decidable.not_not] at h4 h5
      refine .inr (.inr ⟨h4,by omega,h5.1.2,fun⟨x,y⟩=>?_,h⟩)
      have:=h5.2 x
      rw [y] at this;cases this
    ·cases h
def Out (X:AD):Nat→Int→Prop
 | 0,i=>(X.AH.at i).BZ≠2
 | n+1,i=>(X.AH.at i).BZ=2∧0≤(X.AH.at i).at_∧(X.AH.at i).at_ < 9∧Out X n (X.AH.at i).at_
theorem MV:∀(n:Nat) (i:Int),X.Hz n (X.AH.at i)=true→∃ m,m < n∧Out X m i
 | 0,i,h=>by simp [Hz] at h
 | n+1,i,h=>by
  unfold Hz at h
  split at h
  ·rename_i h1;exact⟨0,by omega,by simpa [Out] using h1⟩
  ·rename_i h1
   split at h
   ·cases h
   ·rename_i h2
    simp only [Bool.or_eq_true,decide_eq_true_eq,not_or] at h2
    obtain⟨m,hm,ho⟩:=MV n _ h
    exact⟨m+1,by omega,by simpa using h1,by omega,by omega,ho⟩
theorem PL (h:X.A5=true){i:Int}(h0:0≤i)(h9:i < 9):∃ n,n < 10∧Out X n i:=by
 have ht:=Mq (JZ h h0 h9)
 rcases ht.BZ with ⟨w,_⟩ | ⟨w,_⟩ | ⟨_,_,_,_,c⟩
 ·exact⟨0,by omega,by simp [Out,w]⟩
 ·exact⟨0,by omega,by simp [Out,w]⟩
 ·exact MV 10 i c
theorem Out.uniq:∀ {n m:Nat} {i:Int},Out X n i→Out X m i→n=m
 | 0,0,_,_,_=>rfl
 | 0,m+1,i,h,k=>absurd k.1 h
 | n+1,0,i,h,k=>absurd h.1 k
 | n+1,m+1,i,h,k=>by rw [Out.uniq h.2.2.2 k.2.2.2]
theorem Xp (X:AD)(i:Int):X.Pb i i=true:=by simp [Pb,inside]
end AD
end Go.Ing
/- Engine: the strings of a slice within a struct that came in, as parts of its reading. -/
namespace Go.Ing
open Go Go.RowKit Go.ChangeShapes Go.WideShapes Go.ChangeAt
section
variable {H:Type} {enc:TypeId × Value→H} {P:Program} {w:World}
end
end Go.Ing
/- Engine: maps of the call's own, from integers. -/
namespace Go.Ing
open Go Go.MapKept
def AJ.Pa (b:Nat)(kv:List (Int × Value)):AJ where
 Bn:= [b]
 ok w:=∃ es clock,w.heap[b]?=some (.map es clock)∧es.toList.map (fun e=>(e.key,e.val))=kv.map (fun p=>(Value.int .i64 p.1,p.2))
 loc w w' h hw:=by
  obtain⟨es,clock,h1,h2⟩:=hw
  exact⟨es,clock,by rw [h b (by simp)];exact h1,h2⟩
def QU (kv:List (Int × Value))(k:Int):Option Value:=(kv.find? fun p=>k == p.1).map (·.2)
theorem Lg {k:Int}:∀(es:List MapEntry) (kv:List (Int × Value)) (i:Nat),es.map (fun e=>(e.key,e.val))=kv.map (fun p=>(Value.int .i64 p.1,p.2)) →
  ∃ r,Instr.findNow (.int .i64) (.int .i64 k) es i=some r∧r.map (·.2)=QU kv k
 | [],[],i,_=>⟨none,rfl,rfl⟩
 | [],_ :: _,i,h=>by simp at h
 | _ :: _,[],i,h=>by simp at h
 | e :: es,p :: kv,i,h=>by
  simp only [List.map_cons,List.cons.injEq,Prod.mk.injEq] at h
  obtain⟨⟨h1,h2⟩,h3⟩:=h
  obtain⟨r,h4,h5⟩:=Lg (k:=k) es kv (i+1) h3
  by_cases hk:k=p.1
  ·refine⟨some (i,e.val),?_,?_⟩
   ·simp [Instr.findNow,h1,Instr.sameNow,hk]
   ·simp [QU,hk,h2]
  ·refine⟨r,?_,?_⟩
   ·have hkb:(k == p.1)=false:=by simpa using hk
    simp [Instr.findNow,h1,Instr.sameNow,hkb,h4]
   ·rw [h5]
    have:(k == p.1)=false:=by simpa using hk
    simp [QU,this]
section
variable {P:Program} {n:Nat} {w0:World} {M:List Nat} {Q:Exit→Go.Act→World→Prop} {F F':List (Nat × Value)} {L L':List AJ} {ops:Array Oper} {rest:List Oper}
theorem St.fJ {w:World}(h:St w0 M w L)(o:Obj)(r:AJ)(hf:r.Bn = [w.heap.size])(hok:r.ok (w.alloc o)):St w0 M (w.alloc o) (r :: L):=by
 have hb:∀ k,k < w.heap.size→(w.alloc o).heap[k]?=w.heap[k]?:=fun k hk=>RowKit.Below.heap_alloc _ _ _ hk
 refine⟨h.os,h.tape,h.output,by have:=h.size;simp;omega,fun k hk hM=>(hb k (by have:=h.size;omega)).trans (h.Il k hk hM),?_,?_,?_⟩
 ·intro s hs
  rcases List.mem_cons.1 hs with rfl | hs
  ·exact hok
  ·exact s.loc w _ (fun b hbr=>hb b (h.Bn s hs b hbr).1) (h.ok s hs)
 ·intro s hs b hbr
  rcases List.mem_cons.1 hs with rfl | hs
  ·rw [hf] at hbr;simp at hbr;subst hbr
   refine⟨by simp,fun hlt=>?_⟩
   have:=h.size;omega
  ·have:=h.Bn s hs b hbr
   exact⟨by simp;omega,this.2⟩
 ·refine List.pairwise_cons.2 ⟨fun s hs b hbr hbs=>?_,h.Ir⟩
  rw [hf] at hbr;simp at hbr;subst hbr
  have:=(h.Bn s hs _ hbs).1
  omega
theorem JL {d T U:Nat}{pos:String}{Bl:Array Edge}(hd:Nat.blt d n=true)(k:∀ b,GL P n w0 M ops Q rest ((d, .map (some b)) :: F) (AJ.Pa b [] :: L)):GL P n w0 M ops Q (⟨some d, .makeMap T none,U,pos,Bl,none⟩ :: rest) F L:=by
 refine E7 (R:=fun v L'=>∃ b,v = .map (some b)∧L'=AJ.Pa b [] :: L) hd ?_ (fun v L' ⟨b,e1,e2⟩=>by subst e1;subst e2;exact k b)
 intro a w hF hS
 refine⟨_,_,w.alloc (.map #[] 0),⟨w.heap.size,rfl,rfl⟩,?_,St.fJ hS _ _ rfl ⟨#[],0,(heap_alloc w _).1,by simp⟩⟩
 rfl
theorem FK {T kt et b:Nat}{x y z:Operand}{k:Int}{v:Value}{kv:List (Int × Value)}(hu:P.underlying T=some (.map kt et))(hk:P.underlying kt=some (.int .i64))(hx:ev F x=some (.map (some b)))(hy:ev F y=some (.int .i64 k))(hz:ev F z=some v)
  (hn:QU kv k=none) (hU:Ip L (AJ.Pa b kv) (AJ.Pa b (kv ++ [(k,v)])) L') {U:TypeId}:PU P n w0 M (.mapUpdate T x y z) U F L L'∧PU P n w0 M (.insert T x y z) U F L L':=by
 have main:∀ a w,Fr n a F→St w0 M w L→∃ w',(Instr.mapUpdate T (a.eval x) (a.eval y) (a.eval z)).run P w = .ok () w'∧St w0 M w' L':=by
  intro a w hF hS
  obtain⟨es,clock,h1,h2⟩:=hS.ok _ hU.mem
  obtain⟨r,h3,h4⟩:=Lg (k:=k) es.toList kv 0 h2
  rw [hn] at h4
  have hr:r=none:=by cases r with
   | none=>rfl
   | some r=>simp at h4
  subst hr
  have h5:=run_findKey (P:=P) (w:=w) hk h3
  have h6:(Instr.checkKey false 10000 kt (.int .i64 k)).run P w = .ok () w:=run_checkKey (n:=9999) hk (by simp [IsKey]) false
  have h7:=run_setObj_map (P:=P) (.map (es.push { key:= .int .i64 k,val:=v,born:=clock }) (clock+1)) h1
  have hlt:b < w.heap.size:=(Array.getElem?_eq_some_iff.1 h1).1
  refine⟨{ w with heap:=w.heap.setIfInBounds b (.map (es.push { key:= .int .i64 k,val:=v,born:=clock }) (clock+1)) },?_,hS.Dy hU rfl rfl rfl (by simp) (fun j hj hjf=>?_) ⟨_,_,(heap_set h1).1,?_⟩ (fun c hc=>?_)⟩
  ·have h8:=Go.MapKept.run_getObj_map (P:=P) h1
   simp only [hF.ev hx,hF.ev hy,hF.ev hz,Instr.mapUpdate,Sem.run_bind,run_underlying hu,Result.andThen_ok,h8,h6,h5,h7]
  ·exact(heap_set h1).2 j (fun e=>hjf (by simp [AJ.Pa,e]))
  ·simp [h2]
  ·simp [AJ.Pa] at hc ⊢
   subst hc
   exact⟨hlt, .inl rfl⟩
 constructor
 ·intro a w hF hS
  obtain⟨w',h1,h2⟩:=main a w hF hS
  exact⟨w',by simp [execOp,h1],h2⟩
 ·intro a w hF hS
  obtain⟨w',h1,h2⟩:=main a w hF hS
  exact⟨w',by simp [execOp,h1],h2⟩
theorem QB {T kt et b:Nat}{k:Int}{w:World}{z:Value}{kv:List (Int × Value)}(hu:P.underlying T=some (.map kt et))(hk:P.underlying kt=some (.int .i64))(hz:ZV P et z)(hok:(AJ.Pa b kv).ok w)(c:Bool) :
  (Instr.lookup T (.map (some b)) (.int .i64 k) c).run P w = .ok (if c then .tuple #[(QU kv k).getD z, .bool (QU kv k).isSome] else(QU kv k).getD z) w:=by
 obtain⟨es,clock,h1,h2⟩:=hok
 obtain⟨r,h3,h4⟩:=Lg (k:=k) es.toList kv 0 h2
 have h5:=run_findKey (P:=P) (w:=w) hk h3
 have h6:(Instr.checkKey es.isEmpty 10000 kt (.int .i64 k)).run P w = .ok () w:=run_checkKey (n:=9999) hk (by simp [IsKey]) _
 have h8:=Go.MapKept.run_getObj_map (P:=P) h1
 simp only [Instr.lookup,Sem.run_bind,run_underlying hu,Result.andThen_ok,h8,Sem.run_pure,h6,h5]
 rw [← h4]
 cases r with
 | none=>simp [hz w]
 | some r=>obtain⟨i,v⟩:=r;simp
theorem LW {T kt et b:Nat}{x y:Operand}{k:Int}{z:Value}{kv:List (Int × Value)}{U:TypeId}(hu:P.underlying T=some (.map kt et))(hk:P.underlying kt=some (.int .i64))(hz:ZV P et z)(hx:ev F x=some (.map (some b)))(hy:ev F y=some (.int .i64 k))(hm:AJ.Pa b kv∈L) :
  PS P n w0 M (.lookup T x y false) U F L ((QU kv k).getD z) L:=fun a w hF hS=>by
 refine⟨w,?_,rfl,rfl⟩
 have:=QB (k:=k) hu hk hz (hS.ok _ hm) false
 simp only [execOp,hF.ev hx,hF.ev hy]
 simp [this]
theorem VQ {T kt et b:Nat}{x y:Operand}{k:Int}{z:Value}{kv:List (Int × Value)}{U:TypeId}(hu:P.underlying T=some (.map kt et))(hk:P.underlying kt=some (.int .i64))(hz:ZV P et z)(hx:ev F x=some (.map (some b)))(hy:ev F y=some (.int .i64 k))(hm:AJ.Pa b kv∈L) :
  PS P n w0 M (.lookup T x y true) U F L (.tuple #[(QU kv k).getD z, .bool (QU kv k).isSome]) L:=fun a w hF hS=>by
 refine⟨w,?_,rfl,rfl⟩
 have:=QB (k:=k) hu hk hz (hS.ok _ hm) true
 simp only [execOp,hF.ev hx,hF.ev hy]
 simp [this]
end
end Go.Ing
/- The plain functions of sense. -/
namespace Go.Ing
open Go
namespace AD
def lit (w:AD)(r i:Int):Bool:=!(!decide ((w.AH.at i).kind=1) || !(w.AH.at i).on) && (decide ((w.room i).1=r) && (w.room i).2)
def ED (w:AD)(r:Int):Bool:=if (decide (r < 0) || decide (6≤r))=true then false else if (!(w.Ad.at r).KF)=true then true else !(A4 9 (fun i=>!w.lit r i) 9)
def FU (w:AD)(b i:Int):Bool:=decide ((w.AH.at i).kind=2) && (w.AH.at i).on && decide ((w.AH.at i).BZ=1) && decide ((w.AH.at i).at_=b)
def hidden (w:AD)(b:Int):Bool:=!(A4 9 (fun i=>!w.FU b i) 9)
def AV (w:AD)(b:Int):Bool:=decide (0≤b) && decide (b < 6) && (w.AF.at b).here
def EI (w:AD)(a b:Int):Bool:=if (!w.AV a || !w.AV b)=true then false else if decide (a=b)=true then true else decide ((w.AF.at a).room=(w.AF.at b).room) && w.ED (w.AF.at a).room && ((w.AF.at a).N5 || !w.hidden b)
def dA (k:Int):Bool:=decide (k=7) || decide (k=14) || decide (k=15)
def NY (w:AD)(b:Int)(e:Event):Bool:=decide (0≤e.other) && decide (e.other < 6) && !w.EI b e.other
def Cc (w:AD)(b:Int)(e:Event):Int:=
 if (!w.AV b)=true then 0
 else if decide (b=e.Al)=true then(if (decide (e.other < 0) || decide (6≤e.other) || w.EI b e.other)=true then 1 else 5)
 else if (decide (e.kind=16) || !decide ((w.AF.at b).room=e.room))=true then 0
 else if (!w.EI b e.Al)=true then(if (!dA e.kind)=true then 0 else if w.NY b e=true then 1+2+4 else 1+2)
 else if w.NY b e=true then 1+4 else 1
def GZ (w:AD)(e:Event):Nat→Event
 | 0=>e
 | k+1=>{ GZ w e k with Gz:=(GZ w e k).Gz.put k (Cc w k (GZ w e k)) }
theorem Qt {w:AD}{e:Event}{k:Int}(h:0≤k):w.GZ e (k+1).toNat={ w.GZ e k.toNat with Gz:=(w.GZ e k.toNat).Gz.put k (w.Cc k (w.GZ e k.toNat)) }:=by
 obtain⟨m,rfl⟩:=Int.eq_ofNat_of_zero_le h
 rfl
/-! #### what is heard of who says -/
def im:AL:= [89,111,117,32,115,97,121,58,32,88]
def said (t:AL)(k:Int):AL:=if k≤9 then im.take k.toNat else im.take 9++t
/-! #### laws -/
theorem WC {w:AD}{a b:Int}(h:w.EI a b=true):w.AV a=true∧w.AV b=true∧(a=b∨((w.AF.at a).room=(w.AF.at b).room∧w.ED (w.AF.at a).room=true∧((w.AF.at a).N5=true∨w.hidden b=false))):=by
 unfold EI at h
 split at h
 ·cases h
 ·rename_i h1
  simp at h1
  split at h
  ·rename_i h2
   exact⟨h1.1,h1.2, .inl (by simpa using h2)⟩
  ·simp at h
   exact⟨h1.1,h1.2, .inr ⟨h.1.1,h.1.2,h.2⟩⟩
theorem F5 {w:AD}{b:Int}(h:w.AV b=true):0≤b∧b < 6∧(w.AF.at b).here=true:=by
 simpa [AV,and_assoc] using h
section
variable {w:AD} {b:Int} {e:Event}
end
end AD
end Go.Ing
/- Where a thing is at last: two roads. -/
namespace Go.Ing
open Go
def N6 (s:List Int):List (Int × Value):=s.map fun j=>(j, .bool true)
theorem NH (s:List Int)(i:Int):N6 (s ++ [i])=N6 s ++ [(i, .bool true)]:=by simp [N6]
theorem Ui (s:List Int)(i:Int):QU (N6 s) i=if i∈s then some (.bool true) else none:=by
 induction s with
 | nil=>rfl
 | cons j s ih=>
  by_cases h:i=j
  ·simp [QU,N6,h]
  ·have hb:(i == j)=false:=by simpa using h
   have e:QU (N6 (j :: s)) i=QU (N6 s) i:=by simp [QU,N6,hb]
   rw [e,ih]
   simp [h]
theorem XB (s:List Int)(i:Int):(QU (N6 s) i).getD (.bool false) = .bool (decide (i∈s)):=by
 rw [Ui];by_cases h:i∈s<;>simp [h]
theorem RU {s:List Int}{i:Int}(h:i ∉ s):QU (N6 s) i=none:=by rw [Ui,if_neg h]
def un (s:List Int)(j:Int):Nat:=if j∈s then 0 else 1
def Nl (s:List Int):Nat:=un s 0+un s 1+un s 2+un s 3+un s 4+un s 5+un s 6+un s 7+un s 8
theorem db (s:List Int)(i j:Int)(hj:j≠i):un (s ++ [i]) j=un s j:=by simp [un,hj]
theorem fj (s:List Int)(i:Int):un (s ++ [i]) i=0:=by simp [un]
theorem fk {s:List Int}{i:Int}(h:i ∉ s):un s i=1:=by simp [un,h]
theorem F9 {s:List Int}{i:Int}(h:i ∉ s)(h0:0≤i)(h9:i < 9):Nl (s ++ [i])+1=Nl s:=by
 have hc:i=0∨i=1∨i=2∨i=3∨i=4∨i=5∨i=6∨i=7∨i=8:=by omega
 have hh:=fj s i
 have hn:=fk h
 have g:∀ j:Int,j≠i→un (s ++ [i]) j=un s j:=fun j hj=>db s i j hj
 unfold Nl
 rcases hc with e | e | e | e | e | e | e | e | e
 ·have g1:=g 1 (by omega);have g2:=g 2 (by omega);have g3:=g 3 (by omega);have g4:=g 4 (by omega);have g5:=g 5 (by omega);have g6:=g 6 (by omega);have g7:=g 7 (by omega);have g8:=g 8 (by omega)
  rw [e] at hh hn g1 g2 g3 g4 g5 g6 g7 g8 ⊢;omega
 ·have g0:=g 0 (by omega);have g2:=g 2 (by omega);have g3:=g 3 (by omega);have g4:=g 4 (by omega);have g5:=g 5 (by omega);have g6:=g 6 (by omega);have g7:=g 7 (by omega);have g8:=g 8 (by omega)
  rw [e] at hh hn g0 g2 g3 g4 g5 g6 g7 g8 ⊢;omega
 ·have g0:=g 0 (by omega);have g1:=g 1 (by omega);have g3:=g 3 (by omega);have g4:=g 4 (by omega);have g5:=g 5 (by omega);have g6:=g 6 (by omega);have g7:=g 7 (by omega);have g8:=g 8 (by omega)
  rw [e] at hh hn g0 g1 g3 g4 g5 g6 g7 g8 ⊢;omega
 ·have g0:=g 0 (by omega);have g1:=g 1 (by omega);have g2:=g 2 (by omega);have g4:=g 4 (by omega);have g5:=g 5 (by omega);have g6:=g 6 (by omega);have g7:=g 7 (by omega);have g8:=g 8 (by omega)
  rw [e] at hh hn g0 g1 g2 g4 g5 g6 g7 g8 ⊢;omega
 ·have g0:=g 0 (by omega);have g1:=g 1 (by omega);have g2:=g 2 (by omega);have g3:=g 3 (by omega);have g5:=g 5 (by omega);have g6:=g 6 (by omega);have g7:=g 7 (by omega);have g8:=g 8 (by omega)
  rw [e] at hh hn g0 g1 g2 g3 g5 g6 g7 g8 ⊢;omega
 ·have g0:=g 0 (by omega);have g1:=g 1 (by omega);have g2:=g 2 (by omega);have g3:=g 3 (by omega);have g4:=g 4 (by omega);have g6:=g 6 (by omega);have g7:=g 7 (by omega);have g8:=g 8 (by omega)
  rw [e] at hh hn g0 g1 g2 g3 g4 g6 g7 g8 ⊢;omega
 ·have g0:=g 0 (by omega);have g1:=g 1 (by omega);have g2:=g 2 (by omega);have g3:=g 3 (by omega);have g4:=g 4 (by omega);have g5:=g 5 (by omega);have g7:=g 7 (by omega);have g8:=g 8 (by omega)
  rw [e] at hh hn g0 g1 g2 g3 g4 g5 g7 g8 ⊢;omega
 ·have g0:=g 0 (by omega);have g1:=g 1 (by omega);have g2:=g 2 (by omega);have g3:=g 3 (by omega);have g4:=g 4 (by omega);have g5:=g 5 (by omega);have g6:=g 6 (by omega);have g8:=g 8 (by omega)
  rw [e] at hh hn g0 g1 g2 g3 g4 g5 g6 g8 ⊢;omega
 ·have g0:=g 0 (by omega);have g1:=g 1 (by omega);have g2:=g 2 (by omega);have g3:=g 3 (by omega);have g4:=g 4 (by omega);have g5:=g 5 (by omega);have g6:=g 6 (by omega);have g7:=g 7 (by omega)
  rw [e] at hh hn g0 g1 g2 g3 g4 g5 g6 g7 ⊢;omega
namespace AD
structure DJ (w:AD)(s:List Int)(i:Int):Prop where
 kW:s.length+Nl s=9
 ki:∀ j∈s,0≤j∧j < 9∧(w.AH.at j).BZ=2∧((w.AH.at j).at_∈s∨(w.AH.at j).at_=i)
theorem DJ.start (w:AD)(i:Int):DJ w [] i:=⟨by decide,fun j hj=>by simp at hj⟩
theorem DJ.next {w:AD}{s:List Int}{i:Int}(h:DJ w s i)(h0:0≤i)(h9:i < 9)(hn:i ∉ s)(hw:(w.AH.at i).BZ=2):DJ w (s ++ [i]) (w.AH.at i).at_:=by
 refine⟨?_,fun j hj=>?_⟩
 ·have:=F9 hn h0 h9
  have:=h.kW
  simp only [List.length_append,List.length_cons,List.length_nil]
  omega
 ·rcases List.mem_append.1 hj with hj | hj
  ·obtain⟨a,b,c,d⟩:=h.ki j hj
   refine⟨a,b,c,?_⟩
   rcases d with d | d
   ·exact .inl (by simp [d])
   ·exact .inl (by simp [d])
  ·simp at hj;subst hj
   exact⟨h0,h9,hw, .inr rfl⟩
def Ea (w:AD):Nat→Int→Bool→Int × Int × Bool × Bool
  | 0,_,_=>(0,0,false,false)
  | n+1,i,o=>
    if (decide (0≤i) && decide (i < 9))=true then
      (if (!decide ((w.AH.at i).BZ=2))=true then((w.AH.at i).BZ,(w.AH.at i).at_,o,decide ((w.AH.at i).BZ=0) || decide ((w.AH.at i).BZ=1))
       else Ea w n (w.AH.at i).at_ (if (decide (0≤(w.AH.at i).at_) && decide ((w.AH.at i).at_ < 9))=true then o && (w.AH.at (w.AH.at i).at_).on else o))
    else(0,0,false,false)
def root (w:AD)(i:Int):Int × Int × Bool × Bool:=Ea w 10 i true
theorem Mh {w:AD}{s:List Int}(hs:∀ j∈s,0≤j∧j < 9∧(w.AH.at j).BZ=2∧(w.AH.at j).at_∈s):∀(n:Nat) (j:Int) (o:Bool),j∈s→Ea w n j o=(0,0,false,false)
 | 0,_,_,_=>rfl
 | n+1,j,o,hj=>by
  obtain⟨h1,h2,h3,h4⟩:=hs j hj
  have a:(decide (0≤j) && decide (j < 9))=true:=by simp;omega
  rw [Ea,if_pos a,h3,if_neg (by decide)]
  exact Mh hs n _ _ h4
theorem DJ.closed {w:AD}{s:List Int}{i:Int}(h:DJ w s i)(hi:i∈s):∀ j∈s,0≤j∧j < 9∧(w.AH.at j).BZ=2∧(w.AH.at j).at_∈s:=fun j hj=>by
 obtain⟨a,b,c,d⟩:=h.ki j hj
 exact⟨a,b,c,by rcases d with d | d;exact d;rw [d];exact hi⟩
theorem DJ.len {w:AD}{s:List Int}{i:Int}(h:DJ w s i):s.length≤9:=by have:=h.kW;omega
theorem DJ.ends {w:AD}{s:List Int}{i:Int}{o:Bool}(h:DJ w s i)(hc:(decide (0≤i) && decide (i < 9) && !decide (i∈s))=false):Ea w (10 - s.length) i o=(0,0,false,false):=by
 have hl:=h.len
 by_cases hi:i∈s
 ·exact Mh (h.closed hi) _ _ _ hi
 ·have a:¬ (decide (0≤i) && decide (i < 9))=true:=by
   intro e
   rw [e] at hc
   simp [hi] at hc
  rw [show 10 - s.length=(9 - s.length)+1 by omega,Ea,if_neg a]
theorem DJ.out {w:AD}{s:List Int}{i:Int}{o:Bool}(h:DJ w s i)(h0:0≤i)(h9:i < 9)(hw:(!decide ((w.AH.at i).BZ=2))=true):Ea w (10 - s.length) i o=((w.AH.at i).BZ,(w.AH.at i).at_,o,decide ((w.AH.at i).BZ=0) || decide ((w.AH.at i).BZ=1)):=by
 have hl:=h.len
 have a:(decide (0≤i) && decide (i < 9))=true:=by simp;omega
 rw [show 10 - s.length=(9 - s.length)+1 by omega,Ea,if_pos a,if_pos hw]
theorem DJ.step {w:AD}{s:List Int}{i:Int}{o:Bool}(_h:DJ w s i)(h':DJ w (s ++ [i]) (w.AH.at i).at_)(h0:0≤i)(h9:i < 9)(hw:(!decide ((w.AH.at i).BZ=2))=false):Ea w (10 - s.length) i o=Ea w (10 - (s ++ [i]).length) (w.AH.at i).at_ (if (decide (0≤(w.AH.at i).at_) && decide ((w.AH.at i).at_ < 9))=true then o && (w.AH.at (w.AH.at i).at_).on else o):=by
 have hl:=h'.len
 simp only [List.length_append,List.length_cons,List.length_nil] at hl ⊢
 have a:(decide (0≤i) && decide (i < 9))=true:=by simp;omega
 rw [show 10 - s.length=(10 - (s.length+(0+1)))+1 by omega,Ea,if_pos a,if_neg (by rw [hw];decide)]
def conv (w:AD)(r:Int × Int × Bool × Bool):Int × Bool:=
 if (r.2.2.2 && decide (r.1=1))=true then(if (decide (r.2.1 < 0) || decide (5 < r.2.1))=true then(-1,false) else((w.AF.at r.2.1).room,r.2.2.1))
 else if (!r.2.2.2)=true then(-1,false) else(r.2.1,r.2.2.1)
theorem Qx (w:AD):∀(n:Nat) (i:Int) (o:Bool),conv w (Ea w n i o)=Hk w n i o
 | 0,i,o=>rfl
 | n+1,i,o=>by
  rw [Ea,Hk]
  by_cases hr:(decide (0≤i) && decide (i < 9))=true
  ·have hr':¬ (decide (i < 0) || decide (9≤i))=true:=by simp at hr ⊢;omega
   rw [if_pos hr,if_neg hr']
   by_cases h0:(w.AH.at i).BZ=0
   ·simp [h0,conv]
   ·by_cases h1:(w.AH.at i).BZ=1
    ·have e:(decide ((w.AH.at i).at_ < 0) || decide (5 < (w.AH.at i).at_))=(decide ((w.AH.at i).at_ < 0) || decide (6≤(w.AH.at i).at_)):=by
      rw [Bool.eq_iff_iff];simp;omega
     simp only [h1,conv,e]
     rfl
    ·by_cases h2:(w.AH.at i).BZ=2
     ·have e2:(!decide ((w.AH.at i).BZ=2))=false:=by rw [h2];rfl
      have e0:decide ((w.AH.at i).BZ=0)=false:=decide_eq_false h0
      have e1:decide ((w.AH.at i).BZ=1)=false:=decide_eq_false h1
      have e22:decide ((w.AH.at i).BZ=2)=true:=decide_eq_true h2
      rw [e2,e0,e1,e22]
      simp only [Bool.false_eq_true,if_false,if_true]
      rw [Qx w n]
      by_cases ha:(decide (0≤(w.AH.at i).at_) && decide ((w.AH.at i).at_ < 9))=true
      ·rw [if_pos ha,ha]
       cases hon:(w.AH.at (w.AH.at i).at_).on<;>simp
      ·rw [if_neg ha]
       have ha':(decide (0≤(w.AH.at i).at_) && decide ((w.AH.at i).at_ < 9))=false:=by simpa using ha
       rw [ha'];rfl
     ·simp [h0,h1,h2,conv]
  ·have hr':(decide (i < 0) || decide (9≤i))=true:=by simp at hr ⊢;omega
   rw [if_neg hr,if_pos hr'];rfl
theorem Sq (w:AD)(i:Int):conv w (root w i)=w.room i:=Qx w 10 i true
/-! #### inside -/
theorem LK {w:AD}{box:Int}{s:List Int}(hs:∀ j∈s,0≤j∧j < 9∧(w.AH.at j).BZ=2∧(w.AH.at j).at_∈s)(hb:box ∉ s):∀(n:Nat) (j:Int),j∈s→inside w box n j=false
 | 0,_,_=>rfl
 | n+1,j,hj=>by
  obtain⟨h1,h2,h3,h4⟩:=hs j hj
  have hjb:¬ j=box:=fun e=>hb (e ▸ hj)
  have a:¬ (decide (j < 0) || decide (9≤j) || !decide ((w.AH.at j).BZ=2))=true:=by rw [h3];simp;omega
  rw [inside,if_neg (by simpa using hjb),if_neg a]
  exact LK hs hb n _ h4
theorem DJ.cr {w:AD}{s:List Int}{i box:Int}(h:DJ w s i)(hb:decide (i=box)=true):inside w box (10 - s.length) i=true:=by
 have hl:=h.len
 rw [show 10 - s.length=(9 - s.length)+1 by omega,inside,if_pos hb]
theorem DJ.cu {w:AD}{s:List Int}{i box:Int}(h:DJ w s i)(hb:decide (i=box)=false)(hc:(decide (i < 0) || decide (8 < i) || !decide ((w.AH.at i).BZ=2))=true):inside w box (10 - s.length) i=false:=by
 have hl:=h.len
 have e:(decide (i < 0) || decide (8 < i) || !decide ((w.AH.at i).BZ=2))=(decide (i < 0) || decide (9≤i) || !decide ((w.AH.at i).BZ=2)):=by
  rw [show decide (8 < i)=decide (9≤i) from decide_eq_decide.2 ⟨fun _=>by omega,fun _=>by omega⟩]
 rw [show 10 - s.length=(9 - s.length)+1 by omega,inside,if_neg (by rw [hb];decide),if_pos (e ▸ hc)]
theorem DJ.cw {w:AD}{s:List Int}{i box:Int}(h':DJ w (s ++ [i]) (w.AH.at i).at_)(hb:decide (i=box)=false)(hc:(decide (i < 0) || decide (8 < i) || !decide ((w.AH.at i).BZ=2))=false):inside w box (10 - s.length) i=inside w box (10 - (s ++ [i]).length) (w.AH.at i).at_:=by
 have hl:=h'.len
 simp only [List.length_append,List.length_cons,List.length_nil] at hl ⊢
 have e:(decide (i < 0) || decide (8 < i) || !decide ((w.AH.at i).BZ=2))=(decide (i < 0) || decide (9≤i) || !decide ((w.AH.at i).BZ=2)):=by
  rw [show decide (8 < i)=decide (9≤i) from decide_eq_decide.2 ⟨fun _=>by omega,fun _=>by omega⟩]
 rw [show 10 - s.length=(10 - (s.length+(0+1)))+1 by omega,inside,if_neg (by rw [hb];decide),if_neg (by rw [← e,hc];decide)]
theorem DJ.cx {w:AD}{s:List Int}{i box:Int}(h:DJ w s i)(hi:i∈s)(hb:box ∉ s):inside w box (10 - s.length) i=false:=LK (h.closed hi) hb _ _ hi
/-! #### the document's sense -/
theorem Te (w:AD)(r k:Int)(c A:Bool):(c || !(!w.lit r k && A))=((c || (decide ((w.AH.at k).kind=1) && (w.AH.at k).on && (w.room k).2 && decide ((w.room k).1=r))) || !A):=by
 unfold lit
 cases c<;>cases A<;>cases decide ((w.AH.at k).kind=1)<;>cases (w.AH.at k).on<;>cases (w.room k).2<;>cases decide ((w.room k).1=r)<;>rfl
theorem XX {w:AD}{r:Int}(h:(decide (r < 0) || decide (5 < r))=false):w.ED r=(!(w.Ad.at r).KF || !(A4 9 (fun i=>!w.lit r i) 9)):=by
 have h':(decide (r < 0) || decide (6≤r))=false:=by simp at h ⊢;omega
 unfold ED
 rw [h',if_neg (by decide)]
 cases (w.Ad.at r).KF<;>simp
theorem VZ {w:AD}{r:Int}(h:(decide (r < 0) || decide (5 < r))=true):w.ED r=false:=by
 have h':(decide (r < 0) || decide (6≤r))=true:=by simp at h ⊢;omega
 unfold ED
 rw [h',if_pos rfl]
theorem O4 (w:AD)(b k:Int):w.FU b k=(decide ((w.AH.at k).BZ=1) && decide ((w.AH.at k).at_=b) && decide ((w.AH.at k).kind=2) && (w.AH.at k).on):=by
 unfold FU
 cases decide ((w.AH.at k).kind=2)<;>cases (w.AH.at k).on<;>cases decide ((w.AH.at k).BZ=1)<;>cases decide ((w.AH.at k).at_=b)<;>rfl
theorem aw {w:AD}{a b:Int}(h:(!w.AV a || !w.AV b)=true):w.EI a b=false:=if_pos h
theorem dT {w:AD}{a b:Int}(h:(!w.AV a || !w.AV b)=false):w.EI a b=(decide (a=b) || (decide ((w.AF.at a).room=(w.AF.at b).room) && w.ED (w.AF.at b).room && (!w.hidden b || (w.AF.at a).N5))):=by
 unfold EI
 rw [h,if_neg (by decide)]
 by_cases e:a=b
 ·simp [e]
 ·by_cases hr:(w.AF.at a).room=(w.AF.at b).room
  ·simp [e,hr,Bool.or_comm]
  ·simp [e,hr]
def Dv (w:AD)(b:Int)(e:Event):Int:=
 if (!w.AV b)=true then 0
 else if (!decide (b=e.Al) && (decide (e.kind=16) || !decide ((w.AF.at b).room=e.room)))=true then 0
 else if (!decide (b=e.Al) && !w.EI b e.Al)=true then(if (!decide (e.kind=7) && !decide (e.kind=14) && !decide (e.kind=15))=true then 0 else if w.NY b e=true then 3+4 else 3)
 else if w.NY b e=true then 1+4 else 1
theorem DU (w:AD)(b:Int)(e:Event):w.Dv b e=w.Cc b e:=by
 unfold Dv Cc
 by_cases hb:(!w.AV b)=true
 ·rw [if_pos hb,if_pos hb]
 ·rw [if_neg hb,if_neg hb]
  have hl:(!dA e.kind)=(!decide (e.kind=7) && !decide (e.kind=14) && !decide (e.kind=15)):=by
   unfold dA
   cases decide (e.kind=7)<;>cases decide (e.kind=14)<;>cases decide (e.kind=15)<;>rfl
  by_cases ho:b=e.Al
  ·have h0:decide (b=e.Al)=true:=decide_eq_true ho
   rw [h0,if_pos rfl]
   have hu:w.NY b e=!(decide (e.other < 0) || decide (6≤e.other) || w.EI b e.other):=by
    unfold NY
    rw [show decide (0≤e.other)=!decide (e.other < 0) by rw [Bool.eq_iff_iff];simp,show decide (e.other < 6)=!decide (6≤e.other) by rw [Bool.eq_iff_iff];simp]
    cases decide (e.other < 0)<;>cases decide (6≤e.other)<;>cases w.EI b e.other<;>rfl
   rw [hu]
   cases (decide (e.other < 0) || decide (6≤e.other) || w.EI b e.other)<;>rfl
  ·have h0:decide (b=e.Al)=false:=decide_eq_false ho
   rw [h0,hl]
   simp only [Bool.not_false,Bool.true_and,Bool.false_eq_true,if_false]
   rfl
end AD
end Go.Ing
/- How the land stands: plain laws. -/
namespace Go.Ing
open Go
namespace AD
def Lj (X:AD)(BZ at_:Int)(n:Nat):List Int:=((List.range n).map Int.ofNat).filter fun k=>decide ((X.AH.at k).BZ=BZ) && decide ((X.AH.at k).at_=at_)
theorem PN (X:AD)(BZ at_:Int):X.has BZ at_=X.Lj BZ at_ (9:Int).toNat:=rfl
theorem PM (X:AD)(BZ at_:Int)(n:Nat):(X.Lj BZ at_ n).length≤n:=by
 unfold Lj
 refine Nat.le_trans (List.length_filter_le _ _) ?_
 simp
theorem Vn {X:AD}{BZ at_ k:Int}(h:0≤k)(c:(decide ((X.AH.at k).BZ=BZ) && decide ((X.AH.at k).at_=at_))=true):X.Lj BZ at_ (k+1).toNat=X.Lj BZ at_ k.toNat ++ [k]:=by
 obtain⟨n,rfl⟩:=Int.eq_ofNat_of_zero_le h
 rw [show((n:Int)+1).toNat=n+1 by omega,show((n:Int)).toNat=n by omega]
 unfold Lj
 rw [List.range_succ,List.map_append,List.filter_append]
 congr 1
 simp only [List.map_cons,List.map_nil]
 exact(List.filter_cons_of_pos (p:=fun k=>decide ((X.AH.at k).BZ=BZ) && decide ((X.AH.at k).at_=at_)) (a:=(n:Int)) (l:= []) c).trans rfl
theorem Vm {X:AD}{BZ at_ k:Int}(h:0≤k)(c:(decide ((X.AH.at k).BZ=BZ) && decide ((X.AH.at k).at_=at_))=false):X.Lj BZ at_ (k+1).toNat=X.Lj BZ at_ k.toNat:=by
 obtain⟨n,rfl⟩:=Int.eq_ofNat_of_zero_le h
 rw [show((n:Int)+1).toNat=n+1 by omega,show((n:Int)).toNat=n by omega]
 unfold Lj
 rw [List.range_succ,List.map_append,List.filter_append]
 refine Eq.trans (congrArg _ ?_) (List.append_nil _)
 simp only [List.map_cons,List.map_nil]
 exact(List.filter_cons_of_neg (p:=fun k=>decide ((X.AH.at k).BZ=BZ) && decide ((X.AH.at k).at_=at_)) (a:=(n:Int)) (l:= []) (fun e=>by have:=c.symm.trans e;cases this)).trans rfl
/-! #### good, as the document has it -/
def GB (r:Room)(d:Int):Bool:=decide (r.BH.at d < 0) || decide (6 < r.BH.at d) || (r.shut.at d && decide (r.BH.at d=0))
theorem Qg (r:Room)(d:Int):GB r d=GJ r d:=by
 unfold GB GJ;rw [Bool.and_comm (r.shut.at d)]
def Dt (b:A6):Bool:=decide (b.room < 0) || decide (5 < b.room) || decide (b.AW < 0) || decide (10 < b.AW) || decide (b.A2 < 0) || decide (6 < b.A2) || (b.here != !decide (b.AW=0)) || (!b.here && !decide (b.A2=0))
theorem P6 (b:A6):Dt b=Ca b:=by
 unfold Dt Ca
 rw [show decide (6≤b.room)=decide (5 < b.room) from decide_eq_decide.2 ⟨fun _=>by omega,fun _=>by omega⟩]
 by_cases hh:b.AW < 0
 ·simp [hh]
 ·rw [show decide (0 < b.AW)=!decide (b.AW=0) from by rw [Bool.eq_iff_iff];simp;omega]
  cases decide (b.room < 0)<;>cases decide (5 < b.room)<;>cases decide (b.AW < 0)<;>cases decide (10 < b.AW)<;>cases decide (b.A2 < 0)<;>cases decide (6 < b.A2)<;>cases b.here<;>cases decide (b.AW=0)<;>cases decide (b.A2=0)<;>rfl
def K6 (X:AD)(t:A3):Bool:=decide (t.kind < 0) || decide (3 < t.kind) || (decide (t.kind=0) && t.on) || (decide (t.kind=2) && t.on && !decide (t.BZ=1)) || (decide (t.BZ=2) && (decide (t.at_ < 0) || decide (8 < t.at_) || !decide ((X.AH.at t.at_).kind=3)))
def H6 (X:AD)(r:Int × Int × Bool × Bool):Bool:=!r.2.2.2 || (decide (r.1=0) && (decide (r.2.1 < 0) || decide (5 < r.2.1))) || (decide (r.1=1) && (decide (r.2.1 < 0) || decide (5 < r.2.1) || !(X.AF.at r.2.1).here))
def EZ (X:AD)(i:Int):Bool:=!(X.K6 (X.AH.at i)) && !(X.H6 (X.root i))
def MZ (X:AD)(k:Int):Bool:=A4 6 (fun d=>!GB (X.Ad.at k) d) 6
def C2 (X:AD):Bool:=A4 6 X.MZ 6 && (A4 6 (fun k=>!Dt (X.AF.at k)) 6 && A4 9 X.EZ 9)
theorem US {X:AD}:∀ {n f:Nat} {i:Int} {o:Bool},0≤i→i < 9→Out X n i→n < f→∃ r o',0≤r∧r < 9∧(X.AH.at r).BZ≠2∧Ea X f i o=((X.AH.at r).BZ,(X.AH.at r).at_,o',decide ((X.AH.at r).BZ=0) || decide ((X.AH.at r).BZ=1))
 | 0,f+1,i,o,h0,h9,h,_=>by
  have a:(decide (0≤i) && decide (i < 9))=true:=by simp;omega
  have b:(!decide ((X.AH.at i).BZ=2))=true:=by have:(X.AH.at i).BZ≠2:=h;simp [this]
  exact⟨i,o,h0,h9,h,by rw [Ea,if_pos a,if_pos b]⟩
 | n+1,f+1,i,o,h0,h9,h,hf=>by
  have a:(decide (0≤i) && decide (i < 9))=true:=by simp;omega
  have b:¬ (!decide ((X.AH.at i).BZ=2))=true:=by have:(X.AH.at i).BZ=2:=h.1;simp [this]
  rw [Ea,if_pos a,if_neg b]
  exact US h.2.1 h.2.2.1 h.2.2.2 (by omega)
theorem P7 {X:AD}:∀ {f:Nat} {i:Int} {o:Bool},(Ea X f i o).2.2.2=true→Hz X f (X.AH.at i)=true
 | 0,i,o,h=>by simp [Ea] at h
 | n+1,i,o,h=>by
  rw [Ea] at h
  by_cases a:(decide (0≤i) && decide (i < 9))=true
  ·rw [if_pos a] at h
   rw [Hz]
   by_cases b:(!decide ((X.AH.at i).BZ=2))=true
   ·rw [if_pos b]
   ·rw [if_neg b] at h ⊢
    cases n with
    | zero=>simp [Ea] at h
    | succ m=>
     have hr:(decide (0≤(X.AH.at i).at_) && decide ((X.AH.at i).at_ < 9))=true:=by
      refine Classical.byContradiction fun hn=>?_
      rw [Ea,if_neg hn] at h
      simp at h
     rw [if_neg (by simp at hr ⊢;omega)]
     exact P7 h
  ·rw [if_neg a] at h;simp at h
theorem UY {X:AD}(hg:X.A5=true){i:Int}(h0:0≤i)(h9:i < 9):X.EZ i=true:=by
 have ht:=Mq (JZ hg h0 h9)
 obtain⟨n,hn,ho⟩:=PL hg h0 h9
 obtain⟨r,o',r0,r9,rw2,e⟩:=US (o:=true) h0 h9 ho hn
 have hr:=Mq (JZ hg r0 r9)
 have hA:X.K6 (X.AH.at i)=false:=by
  have k0:=ht.k0;have k3:=ht.k3;have a0:=ht.a0;have pl:=ht.plain
  unfold K6
  simp only [Bool.or_eq_false_iff,Bool.and_eq_false_imp,decide_eq_false_iff_not,decide_eq_true_eq,Bool.not_eq_false',Bool.and_eq_true,Bool.not_eq_eq_eq_not,Bool.not_false,and_imp]
  refine⟨⟨⟨⟨by omega,by omega⟩,pl⟩,fun k2 on=>?_⟩,fun w2=>?_⟩
  ·rcases ht.BZ with ⟨_,_,c⟩ | ⟨w,_⟩ | ⟨_,_,_,c,_⟩
   ·exact absurd ⟨k2,on⟩ c
   ·exact w
   ·exact absurd ⟨k2,on⟩ c
  ·rcases ht.BZ with ⟨w,_⟩ | ⟨w,_⟩ | ⟨_,a,k,_⟩
   ·omega
   ·omega
   ·exact⟨⟨by omega,by omega⟩,k⟩
 have hB:X.H6 (X.root i)=false:=by
  rw [root,e]
  have a0:=hr.a0
  rcases hr.BZ with ⟨w,a,_⟩ | ⟨w,a,b⟩ | ⟨w,_⟩
  ·unfold H6;simp [w];omega
  ·unfold H6;simp [w,b];omega
  ·exact absurd w rw2
 rw [EZ,hA,hB];rfl
theorem SM {X:AD}{i:Int}(h0:0≤i)(h9:i < 9)(h:X.EZ i=true):X.Bs i=true:=by
 unfold EZ at h
 simp only [Bool.and_eq_true,Bool.not_eq_true'] at h
 obtain⟨hA,hB⟩:=h
 unfold K6 at hA
 simp only [Bool.or_eq_false_iff,Bool.and_eq_false_imp,decide_eq_false_iff_not,decide_eq_true_eq,Bool.not_eq_false',Bool.and_eq_true,Bool.not_eq_eq_eq_not,Bool.not_false,and_imp] at hA
 obtain⟨⟨⟨⟨k0,k3⟩,pl⟩,cl⟩,bx⟩:=hA
 have a:(decide (0≤i) && decide (i < 9))=true:=by simp;omega
 by_cases w2:(X.AH.at i).BZ=2
 ·have bx:=bx w2
  have hc:Hz X 10 (X.AH.at i)=true:=P7 (o:=true) (by
   unfold H6 at hB
   simp only [Bool.or_eq_false_iff,Bool.not_eq_false'] at hB
   exact hB.1.1)
  unfold Bs
  have hon:decide ((X.AH.at i).kind=2)=true→(X.AH.at i).on=false:=fun k2=>by
   cases e:(X.AH.at i).on
   ·rfl
   ·have:=cl (of_decide_eq_true k2) e;omega
  rw [if_neg (by simp;exact⟨⟨⟨by omega,by omega⟩,pl⟩,by omega⟩),if_neg (by simp [w2]),if_neg (by simp [w2]),if_pos (by simp [w2]),if_neg (by simp;exact⟨⟨by omega,bx.2⟩,fun k2=>hon (decide_eq_true k2)⟩)]
  exact hc
 ·have e:X.root i=((X.AH.at i).BZ,(X.AH.at i).at_,true,decide ((X.AH.at i).BZ=0) || decide ((X.AH.at i).BZ=1)):=by
   rw [root,Ea,if_pos a,if_pos (by simp [w2])]
  rw [e] at hB
  unfold H6 at hB
  simp only [Bool.or_eq_false_iff,Bool.and_eq_false_imp,decide_eq_false_iff_not,decide_eq_true_eq,Bool.not_eq_false',Bool.or_eq_true] at hB
  obtain⟨⟨hw,hb0⟩,hb1⟩:=hB
  unfold Bs
  rcases hw with w | w
  ·have:=hb0 w
   have hon:(X.AH.at i).kind=2→(X.AH.at i).on=false:=fun k2=>by
    cases e:(X.AH.at i).on
    ·rfl
    ·have:=cl k2 e;omega
   rw [if_neg (by simp;exact⟨⟨⟨by omega,by omega⟩,pl⟩,by omega⟩),if_pos (by simp [w])]
   simp
   exact⟨by omega,Classical.or_iff_not_imp_left.2 fun h=>hon (Classical.not_not.1 h)⟩
  ·have:=hb1 w
   rw [if_neg (by simp;exact⟨⟨⟨by omega,by omega⟩,pl⟩,by omega⟩),if_neg (by simp [w]),if_pos (by simp [w])]
   simp
   exact⟨by omega,this.2⟩
theorem Cd (X:AD):X.C2=X.A5:=by
 have e1:X.MZ=X.Iw:=by
  funext k
  unfold MZ Iw
  exact congrArg (fun f=>A4 6 f 6) (funext fun d=>by rw [Qg])
 have e2:(fun k=>!Dt (X.AF.at k))=fun k=>!Ca (X.AF.at k):=funext fun k=>by rw [P6]
 cases hg:X.A5 with
 | true=>
  have hg':=hg
  unfold A5 at hg'
  rw [Bool.and_eq_true,Bool.and_eq_true] at hg'
  unfold C2
  rw [e1,e2,hg'.1,hg'.2.1]
  simp only [Bool.true_and]
  exact(CA 9).2 fun i hi h9=>UY hg (by omega) h9
 | false=>
  cases hr:X.C2 with
  | false=>rfl
  | true=>
   unfold C2 at hr
   rw [e1,e2,Bool.and_eq_true,Bool.and_eq_true] at hr
   have:X.A5=true:=by
    unfold A5
    rw [hr.1,hr.2.1]
    simp only [Bool.true_and]
    exact(CA 9).2 fun i hi h9=>SM (by omega) h9 ((CA 9).1 hr.2.2 i hi h9)
   rw [hg] at this;cases this
/-! #### the land as the document makes it -/
def names:List AL:= [[104,101,97,114,116,104],[121,97,114,100],[112,97,110,116,114,121],[108,111,102,116],[99,101,108,108,97,114],[97,116,116,105,99]]
def X5:Nat→AD
 | 0=>default
 | k+1=>{ X5 k with Ad:=(X5 k).Ad.put k ⟨names.getD k [],decide (2≤(k:Int)) && decide ((k:Int)≤4),default,default⟩ }
theorem X6 {k:Int}(h:0≤k):X5 (k+1).toNat={ X5 k.toNat with Ad:=(X5 k.toNat).Ad.put k ⟨names.getD k.toNat [],decide (2≤k) && decide (k≤4),default,default⟩ }:=by
 obtain⟨m,rfl⟩:=Int.eq_ofNat_of_zero_le h
 rfl
def W9 (X:AD)(a d v:Int):AD:={ X with Ad:=X.Ad.put a { X.Ad.at a with BH:=(X.Ad.at a).BH.put d v } }
def join (X:AD)(a d e:Int):AD:=(X.W9 a d (e+1)).W9 e ((d+3).tmod 6) (a+1)
end AD
end Go.Ing
/- Engine: the program's own variables, as they are laid when a call begins; the decimal numeral. -/
namespace Go.Ing
open Go
def GV (g:Nat)(vs:List Value)(w:World):Prop:=∃ t fz,w.heap[g]?=some (.cells vs.toArray t fz)
theorem GV.aL {g:Nat}{vs:List Value}{w w':World}(h:GV g vs w)(ho:∀ k,k < w.heap.size→w'.heap[k]?=w.heap[k]?):GV g vs w':=by
 obtain⟨t,fz,e⟩:=h
 have hg:g < w.heap.size:=by
  rcases Nat.lt_or_ge g w.heap.size with h' | h'
  ·exact h'
  ·rw [Array.getElem?_eq_none h'] at e;cases e
 exact⟨t,fz,(ho g hg).trans e⟩
theorem GV.st {g:Nat}{vs:List Value}{w0 w:World}{L:List AJ}(h:GV g vs w0)(hS:St w0 [] w L):GV g vs w:=h.aL fun k hk=>hS.Il k hk (by simp)
theorem GV.Ll {g:Nat}{vs:List Value}{w0 w:World}(h:GV g vs w0)(hK:BF w0 w):GV g vs w:=h.aL hK.Il
section
variable {P:Program} {n:Nat} {w0:World} {F:List (Nat × Value)} {L:List AJ}
theorem Ko {T U g o:Nat}{x:Operand}{v:Value}{vs:List Value}(hg:GV g vs w0)(hx:ev F x=some (.pointer (some ⟨g,o,none⟩)))(hT:R0 P T)(hv:vs[o]?=some v):PS P n w0 [] (.load T x) U F L v L:=by
 intro a w hF hS
 obtain⟨t,fz,e⟩:=hg.st hS
 have hc:w.cell? ⟨g,o,none⟩=some v:=(GK e).trans hv
 exact⟨w,by simp [execOp,hF.ev hx,Instr.loadAt,Instr.sureAddr,loadVar,hT w,hc],rfl,rfl⟩
end
theorem WU {P:Program}{w:World}{name:String}{g:Nat}{cs:Array Value}{vs:List Value}(hg:P.globalNamed name=some g)(h:w.var? P name=some cs)(e:cs.toList=vs):GV g vs w:=by
 unfold World.var? at h
 rw [hg] at h
 simp only [Option.bind_some] at h
 split at h
 ·rename_i c t fz hh
  injection h with h
  subst h
  exact⟨t,fz,by rw [hh,← e]⟩
 ·cases h
theorem Vl {P:Program}{w:World}{name:String}{g:Nat}{vs:List Value}(hg:P.globalNamed name=some g)(h:GV g vs w):w.var? P name=some vs.toArray:=by
 obtain⟨t,fz,e⟩:=h
 unfold World.var?
 rw [hg]
 simp only [Option.bind_some]
 rw [e]
theorem OM {P:Program}{w:World}{name:String}{d:DataW Unit}:∀(laid:List (String × DataW Unit)) (ps:List MemPlace),DataW.LaidVars P w laid ps→(name,d)∈laid →
  ∃ g t cs fuel p,P.globalNamed name=some g∧(P.globals[g]?).map (·.type)=some t∧w.var? P name=some cs∧DataW.trod (fun _=>()) P w 0 (fun _=>true) false fuel t cs.toList=some (d,p)
 | [],_,_,hm=>by cases hm
 | (n,e) :: r,ps,h,hm=>by
  obtain⟨g,t,cs,fuel,p,q,h1,h2,h3,h4,h5,_⟩:=h
  rcases List.mem_cons.1 hm with hm | hm
  ·injection hm with e1 e2
   subst e1;subst e2
   exact⟨g,t,cs,fuel,p,h1,h2,h3,h4⟩
  ·exact OM r q h5 hm
def Jj {H:Type}(ss:List AL):DataW H:= .agg (ss.map fun s=> .lit (.string s))
theorem QY {H:Type}{enc:TypeId × Value→H}{P:Program}{w:World}{base:Nat}{sp:Nat→Bool}{held:Bool}{fuel:Nat}{t e:TypeId}{n:Nat}{cs:List Value}{zs:List AL}{p:List MemPlace}
  (ht:P.underlying t=some (.array n e)) (he:P.underlying e=some .string) (hce:P.cellsOf e=1) (hct:P.cellsOf t=n)
  (h:DataW.trod enc P w base sp held fuel t cs=some (Jj zs,p)):cs=zs.map Ag:=by
 obtain⟨xs,m,_,hx,hl,hlen,hf⟩:=DataW.trod_array ht h
 have hxs:xs.map (·.1)=zs.map fun z=>(DataW.lit (.string z):DataW H):=by
  have:=congrArg Prod.fst hx
  simpa [Jj] using this.symm
 have hzl:zs.length=n:=by
  have:=congrArg List.length hxs
  simp at this
  omega
 apply List.ext_getElem?
 intro i
 by_cases hi:i < n
 ·have h1:=hf i hi
  rw [hce] at h1
  have h2:xs[i]?=some xs[i]:=List.getElem?_eq_getElem (by omega)
  rw [h2] at h1
  obtain⟨s,hc,e1,_⟩:=DataW.trod_string he h1
  have h3:cs[i]?=some (.string s):=by
   have:=congrArg (·[0]?) hc
   simpa [List.getElem?_take,List.getElem?_drop] using this
  have h4:(xs.map (·.1))[i]?=some (DataW.lit (.string s.data.toList):DataW H):=by
   rw [List.getElem?_map,h2,e1];rfl
  rw [hxs] at h4
  simp only [List.getElem?_map,Option.map_eq_some_iff,DataW.lit.injEq,Lit.string.injEq] at h4
  obtain⟨z',hz',rfl⟩:=h4
  rw [h3,List.getElem?_map,hz']
  rfl
 ·rw [List.getElem?_eq_none (by omega),List.getElem?_eq_none (by simp;omega)]
theorem Ww {P:Program}{w:World}{laid:List (String × DataW Unit)}{name:String}{g:Nat}{t e:TypeId}{n:Nat}{ss:List AL}(hL:laidMet P laid w)(hm:(name,Jj ss)∈laid)(hg:P.globalNamed name=some g)(hty:(P.globals[g]?).map (·.type)=some t)(ht:P.underlying t=some (.array n e))(he:P.underlying e=some .string)(hce:P.cellsOf e=1)(hct:P.cellsOf t=n):GV g (ss.map Ag) w:=by
 obtain⟨ps,hv,_⟩:=hL
 obtain⟨g',t',cs,fuel,p,hg',ht',hvar,hd⟩:=OM _ _ hv hm
 obtain rfl:=Option.some.inj (hg.symm.trans hg')
 obtain rfl:=Option.some.inj (hty.symm.trans ht')
 exact WU hg hvar (QY ht he hce hct hd)
theorem cn {P:Program}{w:World}{laid:List (String × DataW Unit)}{name:String}{g:Nat}{t e:TypeId}{n:Nat}{k:IntKind}{zs:List Int}(hL:laidMet P laid w)(hm:(name,Lib.tabData k zs)∈laid)(hg:P.globalNamed name=some g)(hty:(P.globals[g]?).map (·.type)=some t)(ht:P.underlying t=some (.array n e))(he:P.underlying e=some (.int k))(hce:P.cellsOf e=1)(hct:P.cellsOf t=n):GV g (zs.map fun z=>Value.int k z) w:=by
 obtain⟨ps,hv,_⟩:=hL
 obtain⟨g',t',cs,fuel,p,hg',ht',hvar,hd⟩:=OM _ _ hv hm
 obtain rfl:=Option.some.inj (hg.symm.trans hg')
 obtain rfl:=Option.some.inj (hty.symm.trans ht')
 exact WU hg hvar (Lib.cells_of_tab ht he hce hct hd)
def EH:List Value:=Lib.pow10Tab.map fun z=>Value.int .u64 z
theorem Ch.dL {P:Program}{f:FuncId}{args:Array Value}{w:World}{v:Value}(h:Calls P f args w fun e w'=>e = .returned v∧∃ k os,w'=Sort.grow (w.drewN k) os):Ch P f args w fun v' w'=>v'=v∧BF w w':=by
 refine Calls.mono h fun e w' ⟨e1,k,os,e2⟩=>⟨v,e1,rfl,?_⟩
 subst e2
 refine⟨rfl,rfl,rfl,?_,fun i hi=>?_⟩
 ·show w.heap.size≤(w.heap++os).size
  rw [Array.size_append];omega
 ·show(w.heap++os)[i]?=w.heap[i]?
  rw [Array.getElem?_append_left hi]
section
variable {P:Program} {n:Nat} {w0:World} {M:List Nat} {Q:Exit→Go.Act→World→Prop} {F:List (Nat × Value)} {L:List AJ}
theorem Uz {d:Nat}{z:Value}(hz:lk d F=some z):Sub F ((d,z) :: F):=by
 intro k v hk
 simp only [lk] at hk
 cases e:Nat.beq k d with
 | true=>
  have e':k=d:=Nat.eq_of_beq_eq_true e
  subst e'
  rw [e] at hk
  rw [hz];exact hk
 | false=>rw [e] at hk;exact hk
theorem dY {d t:Nat}{z u:Value}(ht:lk t F=none):Sub ((d,z) :: (t,u) :: F) ((d,z) :: F):=by
 intro k v hk
 simp only [lk] at hk ⊢
 cases e:Nat.beq k d with
 | true=>rw [e] at hk;exact hk
 | false=>
  rw [e] at hk
  cases e2:Nat.beq k t with
  | true=>
   have e':k=t:=Nat.eq_of_beq_eq_true e2
   subst e'
   have hk':lk k F=some v:=hk
   rw [ht] at hk';cases hk'
  | false=>exact hk
theorem F2 {α:Type}(f:α→Value){d id:Nat}{c v:Operand}{T:TypeId}{pos:String}{Bl:Array Edge}{b:Bool}{s1 s0 s:α}(hc:ev F c=some (.bool b))(hd:Nat.blt d n=true)(hv:ev F v=some (f s1))(hz:lk d F=some (f s0))(hs:(if b=true then s1 else s0)=s)
  (k:GQ n w0 M Q .normal ((d,f s) :: F) L):G P n w0 M (.cond c (.region id [⟨some d, .assign v,T,pos,Bl,none⟩].toArray false) .skip) Q F L:=by
 refine Og hc (fun h=>?_) (fun h=>?_)
 ·rw [h,if_pos rfl] at hs
  subst hs
  refine KA (Kj hd (Km hv) (Oe k))
 ·rw [h,if_neg (by decide)] at hs
  subst hs
  exact VH fun a w hF hS=>k a w (hF.sub (Uz hz)) hS
theorem eT {α:Type}(f:α→Value){d t id:Nat}{c v:Operand}{T T':TypeId}{pos pos':String}{Bl aft':Array Edge}{b:Bool}{s1 s0 s:α}(hc:ev F c=some (.bool b))(hd:Nat.blt d n=true)(htn:Nat.blt t n=true)(ht:lk t F=none)(hv:ev F v=some (f s1))(hz:lk d F=some (f s0))(hs:(if b=true then s1 else s0)=s)
  (k:GQ n w0 M Q .normal ((d,f s) :: F) L):G P n w0 M (.cond c (.region id [⟨some t, .move v,T,pos,Bl,none⟩,⟨some d, .assign (.tmp t),T',pos',aft',none⟩].toArray false) .skip) Q F L:=by
 refine Og hc (fun h=>?_) (fun h=>?_)
 ·rw [h,if_pos rfl] at hs
  subst hs
  refine KA (Kj htn (JQ hv) (Kj hd (Km (by simp [ev,lk])) (Oe fun a w hF hS=>k a w (hF.sub (dY ht)) hS)))
 ·rw [h,if_neg (by decide)] at hs
  subst hs
  exact VH fun a w hF hS=>k a w (hF.sub (Uz hz)) hS
end
section
open Go.RowKit Go.ChangeShapes Go.WideShapes Go.ChangeAt
variable {H:Type} {enc:TypeId × Value→H} {P:Program} {w:World}
end
end Go.Ing
/- What is told of an event: plain functions. -/
namespace Go.Ing
open Go
namespace AD
def DF:List AL:= [[110,111,114,116,104],[101,97,115,116],[117,112],[115,111,117,116,104],[119,101,115,116],[100,111,119,110],[108,111,111,107],[103,101,116],[100,114,111,112],[112,117,116],[103,105,118,101],[115,97,121],[111,112,101,110],[99,108,111,115,101],[108,105,103,104,116],[100,111,117,115,101],[119,101,97,114],[100,111,102,102],[104,105,116],[105,110,118,101,110,116,111,114,121],[113,117,105,116]]
def Be:List Value:=DF.map Ag
theorem Gu {d:Int}(h0:0≤d)(h6:d < 6):Be[0+d.toNat * 1]?=some (Ag (DF.getD d.toNat [])):=by
 have:d=0∨d=1∨d=2∨d=3∨d=4∨d=5:=by omega
 rcases this with rfl | rfl | rfl | rfl | rfl | rfl<;>rfl
def called (d:Int):AL:=if (decide (d < 0) || decide (6≤d))=true then [] else DF.getD d.toNat []
theorem cS {d:Int}(h:(decide (0≤d) && decide (d < 6))=false):called d = []:=if_pos (by simp at h ⊢;omega)
theorem SA {d:Int}(h:(decide (0≤d) && decide (d < 6))=true):called d=DF.getD d.toNat []:=if_neg (by simp at h ⊢;omega)
theorem FB (d:Int):(called d).length≤20:=by
 unfold called
 split
 ·simp
 ·rename_i h
  have:d=0∨d=1∨d=2∨d=3∨d=4∨d=5:=by simp at h;omega
  rcases this with rfl | rfl | rfl | rfl | rfl | rfl<;>decide
def form (z:Int):AL × AL:=
 if decide (z=1)=true then([89,111,117,32,103,111,32,68,46],[65,32,103,111,101,115,32,68,46])
 else if decide (z=2)=true then([],[65,32,99,111,109,101,115,32,102,114,111,109,32,68,46])
 else if decide (z=3)=true then([89,111,117,32,103,101,116,32,116,104,101,32,84,46],[65,32,103,101,116,115,32,97,32,84,46])
 else if decide (z=4)=true then([89,111,117,32,100,114,111,112,32,116,104,101,32,84,46],[65,32,100,114,111,112,115,32,97,32,84,46])
 else if decide (z=5)=true then([89,111,117,32,112,117,116,32,116,104,101,32,84,32,105,110,116,111,32,116,104,101,32,88,46],[65,32,112,117,116,115,32,97,32,84,32,105,110,116,111,32,97,32,88,46])
 else if decide (z=6)=true then([89,111,117,32,103,105,118,101,32,116,104,101,32,84,32,116,111,32,79,46],[65,32,103,105,118,101,115,32,97,32,84,32,116,111,32,79,46])
 else if decide (z=7)=true then([89,111,117,32,115,97,121,58,32,88],[65,32,115,97,121,115,58,32,88])
 else if decide (z=8)=true then([89,111,117,32,111,112,101,110,32,116,104,101,32,84,46],[65,32,111,112,101,110,115,32,97,32,84,46])
 else if decide (z=9)=true then([89,111,117,32,99,108,111,115,101,32,116,104,101,32,84,46],[65,32,99,108,111,115,101,115,32,97,32,84,46])
 else if decide (z=10)=true then([89,111,117,32,108,105,103,104,116,32,116,104,101,32,84,46],[65,32,108,105,103,104,116,115,32,97,32,84,46])
 else if decide (z=11)=true then([89,111,117,32,100,111,117,115,101,32,116,104,101,32,84,46],[65,32,100,111,117,115,101,115,32,97,32,84,46])
 else if decide (z=12)=true then([89,111,117,32,112,117,116,32,111,110,32,116,104,101,32,84,46],[65,32,112,117,116,115,32,111,110,32,97,32,84,46])
 else if decide (z=13)=true then([89,111,117,32,116,97,107,101,32,111,102,102,32,116,104,101,32,84,46],[65,32,116,97,107,101,115,32,111,102,102,32,97,32,84,46])
 else if decide (z=14)=true then([89,111,117,32,104,105,116,32,79,32,102,111,114,32,78,46],[65,32,104,105,116,115,32,79,32,102,111,114,32,78,46])
 else if decide (z=15)=true then([89,111,117,32,100,105,101,46],[65,32,100,105,101,115,46])
 else if decide (z=16)=true then([88],[])
 else if decide (z=17)=true then([66,101,32,119,101,108,99,111,109,101,46],[65,32,97,114,114,105,118,101,115,46])
 else if decide (z=18)=true then([],[65,32,102,97,100,101,115,46])
 else([],[])
theorem Tp {z:Int}(h:¬ (1≤z∧z≤18)):form z=([],[]):=by
 unfold form
 rw [if_neg (show ¬ decide (z=1)=true by simp;omega)]
 rw [if_neg (show ¬ decide (z=2)=true by simp;omega)]
 rw [if_neg (show ¬ decide (z=3)=true by simp;omega)]
 rw [if_neg (show ¬ decide (z=4)=true by simp;omega)]
 rw [if_neg (show ¬ decide (z=5)=true by simp;omega)]
 rw [if_neg (show ¬ decide (z=6)=true by simp;omega)]
 rw [if_neg (show ¬ decide (z=7)=true by simp;omega)]
 rw [if_neg (show ¬ decide (z=8)=true by simp;omega)]
 rw [if_neg (show ¬ decide (z=9)=true by simp;omega)]
 rw [if_neg (show ¬ decide (z=10)=true by simp;omega)]
 rw [if_neg (show ¬ decide (z=11)=true by simp;omega)]
 rw [if_neg (show ¬ decide (z=12)=true by simp;omega)]
 rw [if_neg (show ¬ decide (z=13)=true by simp;omega)]
 rw [if_neg (show ¬ decide (z=14)=true by simp;omega)]
 rw [if_neg (show ¬ decide (z=15)=true by simp;omega)]
 rw [if_neg (show ¬ decide (z=16)=true by simp;omega)]
 rw [if_neg (show ¬ decide (z=17)=true by simp;omega)]
 rw [if_neg (show ¬ decide (z=18)=true by simp;omega)]
theorem Vk {P:AL × AL→Prop}(h0:P ([],[]))(h1:P (form 1))(h2:P (form 2))(h3:P (form 3))(h4:P (form 4))(h5:P (form 5))(h6:P (form 6))(h7:P (form 7))(h8:P (form 8))(h9:P (form 9))(h10:P (form 10))(h11:P (form 11))(h12:P (form 12))(h13:P (form 13))(h14:P (form 14))(h15:P (form 15))(h16:P (form 16))(h17:P (form 17))(h18:P (form 18))(z:Int):P (form z):=by
 by_cases h:1≤z∧z≤18
 ·have:z=1∨z=2∨z=3∨z=4∨z=5∨z=6∨z=7∨z=8∨z=9∨z=10∨z=11∨z=12∨z=13∨z=14∨z=15∨z=16∨z=17∨z=18:=by omega
  rcases this with rfl | rfl | rfl | rfl | rfl | rfl | rfl | rfl | rfl | rfl | rfl | rfl | rfl | rfl | rfl | rfl | rfl | rfl
  all_goals assumption
 ·rw [Tp h];exact h0
theorem To (z:Int):(form z).1.length≤30∧(form z).2.length≤30:=
 Vk (P:=fun x=>x.1.length≤30∧x.2.length≤30) (by decide) (by decide) (by decide) (by decide) (by decide) (by decide) (by decide) (by decide) (by decide) (by decide) (by decide) (by decide) (by decide) (by decide) (by decide) (by decide) (by decide) (by decide) (by decide) z
def MF (x k:Int):Int:=IntKind.i64.wrap ((BitVec.ofInt IntKind.i64.bits x &&& BitVec.ofInt IntKind.i64.bits k).toNat:Int)
def BD:AL:= [115,111,109,101,111,110,101]
def lQ:AL:= [121,111,117]
def single (t:AL)(i:Int):Bool:=(decide (i=0) || decide (((t.getD (i - 1).toNat 0).toNat:Int)=32)) && (decide (i+1=(t.length:Int)) || decide (((t.getD (i+1).toNat 0).toNat:Int)=32) || decide (((t.getD (i+1).toNat 0).toNat:Int)=46))
def piece (e:Event)(CS D7 t:AL)(i:Int):AL:=
 if (!single t i)=true then [t.getD i.toNat 0]
 else if decide (((t.getD i.toNat 0).toNat:Int)=65)=true then CS
 else if decide (((t.getD i.toNat 0).toNat:Int)=79)=true then D7
 else if decide (((t.getD i.toNat 0).toNat:Int)=84)=true then e.AQ
 else if decide (((t.getD i.toNat 0).toNat:Int)=68)=true then called e.dir
 else if decide (((t.getD i.toNat 0).toNat:Int)=88)=true then e.text
 else if decide (((t.getD i.toNat 0).toNat:Int)=78)=true then Lib.itoa e.n
 else [t.getD i.toNat 0]
def told (e:Event)(CS D7 t:AL):Nat→AL
 | 0=> []
 | k+1=>told e CS D7 t k++piece e CS D7 t k
theorem FQ {e:Event}{CS D7 t:AL}{k:Int}(h:0≤k):told e CS D7 t (k+1).toNat=told e CS D7 t k.toNat++piece e CS D7 t k:=by
 obtain⟨m,rfl⟩:=Int.eq_ofNat_of_zero_le h
 rfl
def Dj (e:Event)(b:Int):AL:=if decide (b=e.Al)=true then(form e.kind).1 else(form e.kind).2
def Ay (e:Event)(b:Int):AL:=if (!decide (MF (e.Gz.at b) 2=0))=true then BD else e.CS
def VB (e:Event)(b:Int):AL:=if (!decide (MF (e.Gz.at b) 4=0))=true then BD else e.D7
def Ah (e:Event)(b:Int):AL:=if decide (b=e.other)=true then lQ else VB e b
def tell (e:Event)(b:Int):AL × Bool:=
 if (decide (b < 0) || decide (6≤b) || decide (MF (e.Gz.at b) 1=0))=true then([],false)
 else if decide (Dj e b = [])=true then([],false)
 else(told e (Ay e b) (Ah e b) (Dj e b) (Dj e b).length,true)
structure Small (e:Event):Prop where
 CS:e.CS.length≤2000000
 D7:e.D7.length≤2000000
 AQ:e.AQ.length≤2000000
 text:e.text.length≤2000000
 n0:-9223372036854775808≤e.n
 n1:e.n≤9223372036854775807
theorem QD (e:Event)(b:Int):(Dj e b).length≤30:=by
 unfold Dj;split;exact(To _).1;exact(To _).2
theorem Rj {e:Event}(h:Small e)(b:Int):(Ay e b).length≤2000000:=by
 unfold Ay;split;decide;exact h.CS
theorem L7 {e:Event}(h:Small e)(b:Int):(Ah e b).length≤2000000:=by
 unfold Ah VB;split;decide;split;decide;exact h.D7
theorem YA {e:Event}(h:Small e){CS D7:AL}(h1:CS.length≤2000000)(h2:D7.length≤2000000)(t:AL)(i:Int):(piece e CS D7 t i).length≤2000000:=by
 have h3:=h.AQ;have h4:=h.text;have h5:=FB e.dir;have h6:=Lib.itoa_length_le e.n h.n0 h.n1
 unfold piece
 repeat' split
 all_goals first | omega | (simp only [List.length_cons,List.length_nil];omega)
theorem QH {e:Event}(h:Small e){CS D7:AL}(h1:CS.length≤2000000)(h2:D7.length≤2000000)(t:AL):∀ n,(told e CS D7 t n).length≤n * 2000000
 | 0=>by simp [told]
 | n+1=>by
  have:=QH h h1 h2 t n
  have:=YA h h1 h2 t n
  simp only [told,List.length_append];omega
end AD
end Go.Ing
/- What is told: two roads, and whom it does not name. -/
namespace Go.Ing
open Go
namespace AD
theorem ZW (x:Int):MF x 1=x % 2:=by
 have e:(BitVec.ofInt IntKind.i64.bits x &&& BitVec.ofInt IntKind.i64.bits 1).toNat=(x % 2).toNat:=by
  show(BitVec.ofInt 64 x &&& BitVec.ofInt 64 1).toNat=_
  rw [BitVec.toNat_and,BitVec.toNat_ofInt,show(BitVec.ofInt 64 1).toNat=1 from rfl,Nat.and_one_is_mod]
  omega
 unfold MF
 rw [e,IntWalk.i64_in _ (by omega)]
 omega
theorem XW (x:Int):decide (MF x 1=0)=decide (x.tmod 2=0):=by
 rw [ZW]
 refine decide_eq_decide.2 ⟨fun h=>Int.tmod_eq_zero_of_dvd (Int.dvd_of_emod_eq_zero h),fun h=>Int.emod_eq_zero_of_dvd (Int.dvd_of_tmod_eq_zero h)⟩
/-! #### said outright, kind by kind -/
def BE (own:Bool)(a N8 theirs:AL):AL:=if own=true then [89,111,117,32]++N8 ++ [32] else a ++ [32]++theirs ++ [32]
def Bk (own:Bool)(th:AL):AL:=if own=true then [116,104,101,32]++th else [97,32]++th
def fin (s:AL):AL × Bool:=(s,!decide (s = []))
def BA (own:Bool)(a o d n th tx:AL)(z:Int):AL × Bool:=
 if decide (z=1)=true then(fin (BE own a [103,111] [103,111,101,115]++d ++ [46]))
 else if decide (z=2)=true then(if (!own)=true then fin (a ++ [32,99,111,109,101,115,32,102,114,111,109,32]++d ++ [46]) else fin [])
 else if decide (z=3)=true then(fin (BE own a [103,101,116] [103,101,116,115]++Bk own th ++ [46]))
 else if decide (z=4)=true then(fin (BE own a [100,114,111,112] [100,114,111,112,115]++Bk own th ++ [46]))
 else if decide (z=5)=true then(fin (BE own a [112,117,116] [112,117,116,115]++Bk own th ++ [32,105,110,116,111,32]++Bk own tx ++ [46]))
 else if decide (z=6)=true then(fin (BE own a [103,105,118,101] [103,105,118,101,115]++Bk own th ++ [32,116,111,32]++o ++ [46]))
 else if decide (z=7)=true then(fin (BE own a [115,97,121,58] [115,97,121,115,58]++tx))
 else if decide (z=8)=true then(fin (BE own a [111,112,101,110] [111,112,101,110,115]++Bk own th ++ [46]))
 else if decide (z=9)=true then(fin (BE own a [99,108,111,115,101] [99,108,111,115,101,115]++Bk own th ++ [46]))
 else if decide (z=10)=true then(fin (BE own a [108,105,103,104,116] [108,105,103,104,116,115]++Bk own th ++ [46]))
 else if decide (z=11)=true then(fin (BE own a [100,111,117,115,101] [100,111,117,115,101,115]++Bk own th ++ [46]))
 else if decide (z=12)=true then(fin (BE own a [112,117,116,32,111,110] [112,117,116,115,32,111,110]++Bk own th ++ [46]))
 else if decide (z=13)=true then(fin (BE own a [116,97,107,101,32,111,102,102] [116,97,107,101,115,32,111,102,102]++Bk own th ++ [46]))
 else if decide (z=14)=true then(fin (BE own a [104,105,116] [104,105,116,115]++o ++ [32,102,111,114,32]++n ++ [46]))
 else if decide (z=15)=true then(fin (if own=true then [89,111,117,32,100,105,101,46] else a ++ [32,100,105,101,115,46]))
 else if decide (z=16)=true then(if own=true then(tx,true) else fin [])
 else if decide (z=17)=true then(fin (if own=true then [66,101,32,119,101,108,99,111,109,101,46] else a ++ [32,97,114,114,105,118,101,115,46]))
 else if decide (z=18)=true then(if (!own)=true then fin (a ++ [32,102,97,100,101,115,46]) else fin [])
 else fin []
theorem av {own:Bool}{a o d n th tx:AL}{z:Int}(h:¬ (1≤z∧z≤18)):BA own a o d n th tx z=fin []:=by
 unfold BA
 rw [if_neg (show ¬ decide (z=1)=true by simp;omega)]
 rw [if_neg (show ¬ decide (z=2)=true by simp;omega)]
 rw [if_neg (show ¬ decide (z=3)=true by simp;omega)]
 rw [if_neg (show ¬ decide (z=4)=true by simp;omega)]
 rw [if_neg (show ¬ decide (z=5)=true by simp;omega)]
 rw [if_neg (show ¬ decide (z=6)=true by simp;omega)]
 rw [if_neg (show ¬ decide (z=7)=true by simp;omega)]
 rw [if_neg (show ¬ decide (z=8)=true by simp;omega)]
 rw [if_neg (show ¬ decide (z=9)=true by simp;omega)]
 rw [if_neg (show ¬ decide (z=10)=true by simp;omega)]
 rw [if_neg (show ¬ decide (z=11)=true by simp;omega)]
 rw [if_neg (show ¬ decide (z=12)=true by simp;omega)]
 rw [if_neg (show ¬ decide (z=13)=true by simp;omega)]
 rw [if_neg (show ¬ decide (z=14)=true by simp;omega)]
 rw [if_neg (show ¬ decide (z=15)=true by simp;omega)]
 rw [if_neg (show ¬ decide (z=16)=true by simp;omega)]
 rw [if_neg (show ¬ decide (z=17)=true by simp;omega)]
 rw [if_neg (show ¬ decide (z=18)=true by simp;omega)]
def B1 (e:Event)(b:Int):AL × Bool:=
 if (decide (b < 0) || decide (5 < b) || decide ((e.Gz.at b).tmod 2=0))=true then([],false)
 else BA (decide (b=e.Al)) (Ay e b) (Ah e b) (called e.dir) (Lib.itoa e.n) e.AQ e.text e.kind
def LO (e:Event)(w m t:AL):Nat→Nat→AL
 | _,0=> []
 | i,n+1=>piece e w m t i++LO e w m t (i+1) n
theorem QG {e:Event}{w m t:AL}:∀ n i:Nat,LO e w m t i (n+1)=LO e w m t i n++piece e w m t ((i+n:Nat):Int)
 | 0,i=>by simp [LO]
 | n+1,i=>by
  rw [LO,QG n (i+1),LO,List.append_assoc,show i+1+n=i+(n+1) by omega]
theorem bK {e:Event}{w m t:AL}:∀ n:Nat,told e w m t n=LO e w m t 0 n
 | 0=>rfl
 | n+1=>by rw [told,bK n,QG];simp
def U1 (e:Event)(w m t:AL):Nat→Nat→AL
 | _,0=> []
 | i,1=>piece e w m t i
 | i,n+2=>piece e w m t i++U1 e w m t (i+1) (n+1)
theorem XD {e:Event}{w m t:AL}:∀ n i:Nat,U1 e w m t i n=LO e w m t i n
 | 0,i=>rfl
 | 1,i=>by simp [U1,LO]
 | n+2,i=>by rw [U1,LO,XD (n+1)]
theorem B9 {e:Event}{w m t:AL}(n:Nat):told e w m t n=U1 e w m t 0 n:=(bK n).trans (XD n 0).symm
section
variable {e:Event} {a o:AL}
theorem aU:BA true a o (called e.dir) (Lib.itoa e.n) e.AQ e.text 1=if decide ((form 1).1 = [])=true then([],false) else(told e a o (form 1).1 (form 1).1.length,true):=by
 rw [B9]
 refine Eq.trans (b:=fin _) rfl ?_
 refine Eq.trans (b:=(_,true)) (Prod.ext rfl (by first | rfl | simp [fin,BE,Bk])) ?_
 refine Eq.trans (b:=(_,true)) (congrArg (fun s=>(s,true)) ?_) rfl
 first | rfl | (simp only [BE,Bk,Bool.false_eq_true,if_true,if_false,List.append_assoc,List.cons_append,List.nil_append];rfl)
theorem aV:BA false a o (called e.dir) (Lib.itoa e.n) e.AQ e.text 1=if decide ((form 1).2 = [])=true then([],false) else(told e a o (form 1).2 (form 1).2.length,true):=by
 rw [B9]
 refine Eq.trans (b:=fin _) rfl ?_
 refine Eq.trans (b:=(_,true)) (Prod.ext rfl (by first | rfl | simp [fin,BE,Bk])) ?_
 refine Eq.trans (b:=(_,true)) (congrArg (fun s=>(s,true)) ?_) rfl
 first | rfl | (simp only [BE,Bk,Bool.false_eq_true,if_true,if_false,List.append_assoc,List.cons_append,List.nil_append];rfl)
theorem aW:BA true a o (called e.dir) (Lib.itoa e.n) e.AQ e.text 2=if decide ((form 2).1 = [])=true then([],false) else(told e a o (form 2).1 (form 2).1.length,true):=by
 rfl
theorem aX:BA false a o (called e.dir) (Lib.itoa e.n) e.AQ e.text 2=if decide ((form 2).2 = [])=true then([],false) else(told e a o (form 2).2 (form 2).2.length,true):=by
 rw [B9]
 refine Eq.trans (b:=fin _) rfl ?_
 refine Eq.trans (b:=(_,true)) (Prod.ext rfl (by first | rfl | simp [fin,BE,Bk])) ?_
 refine Eq.trans (b:=(_,true)) (congrArg (fun s=>(s,true)) ?_) rfl
 first | rfl | (simp only [BE,Bk,Bool.false_eq_true,if_true,if_false,List.append_assoc,List.cons_append,List.nil_append];rfl)
theorem aY:BA true a o (called e.dir) (Lib.itoa e.n) e.AQ e.text 3=if decide ((form 3).1 = [])=true then([],false) else(told e a o (form 3).1 (form 3).1.length,true):=by
 rw [B9]
 refine Eq.trans (b:=fin _) rfl ?_
 refine Eq.trans (b:=(_,true)) (Prod.ext rfl (by first | rfl | simp [fin,BE,Bk])) ?_
 refine Eq.trans (b:=(_,true)) (congrArg (fun s=>(s,true)) ?_) rfl
 first | rfl | (simp only [BE,Bk,Bool.false_eq_true,if_true,if_false,List.append_assoc,List.cons_append,List.nil_append];rfl)
theorem aZ:BA false a o (called e.dir) (Lib.itoa e.n) e.AQ e.text 3=if decide ((form 3).2 = [])=true then([],false) else(told e a o (form 3).2 (form 3).2.length,true):=by
 rw [B9]
 refine Eq.trans (b:=fin _) rfl ?_
 refine Eq.trans (b:=(_,true)) (Prod.ext rfl (by first | rfl | simp [fin,BE,Bk])) ?_
 refine Eq.trans (b:=(_,true)) (congrArg (fun s=>(s,true)) ?_) rfl
 first | rfl | (simp only [BE,Bk,Bool.false_eq_true,if_true,if_false,List.append_assoc,List.cons_append,List.nil_append];rfl)
theorem aa:BA true a o (called e.dir) (Lib.itoa e.n) e.AQ e.text 4=if decide ((form 4).1 = [])=true then([],false) else(told e a o (form 4).1 (form 4).1.length,true):=by
 rw [B9]
 refine Eq.trans (b:=fin _) rfl ?_
 refine Eq.trans (b:=(_,true)) (Prod.ext rfl (by first | rfl | simp [fin,BE,Bk])) ?_
 refine Eq.trans (b:=(_,true)) (congrArg (fun s=>(s,true)) ?_) rfl
 first | rfl | (simp only [BE,Bk,Bool.false_eq_true,if_true,if_false,List.append_assoc,List.cons_append,List.nil_append];rfl)
theorem ab:BA false a o (called e.dir) (Lib.itoa e.n) e.AQ e.text 4=if decide ((form 4).2 = [])=true then([],false) else(told e a o (form 4).2 (form 4).2.length,true):=by
 rw [B9]
 refine Eq.trans (b:=fin _) rfl ?_
 refine Eq.trans (b:=(_,true)) (Prod.ext rfl (by first | rfl | simp [fin,BE,Bk])) ?_
 refine Eq.trans (b:=(_,true)) (congrArg (fun s=>(s,true)) ?_) rfl
 first | rfl | (simp only [BE,Bk,Bool.false_eq_true,if_true,if_false,List.append_assoc,List.cons_append,List.nil_append];rfl)
theorem ae:BA true a o (called e.dir) (Lib.itoa e.n) e.AQ e.text 5=if decide ((form 5).1 = [])=true then([],false) else(told e a o (form 5).1 (form 5).1.length,true):=by
 rw [B9]
 refine Eq.trans (b:=fin _) rfl ?_
 refine Eq.trans (b:=(_,true)) (Prod.ext rfl (by first | rfl | simp [fin,BE,Bk])) ?_
 refine Eq.trans (b:=(_,true)) (congrArg (fun s=>(s,true)) ?_) rfl
 first | rfl | (simp only [BE,Bk,Bool.false_eq_true,if_true,if_false,List.append_assoc,List.cons_append,List.nil_append];rfl)
theorem af:BA false a o (called e.dir) (Lib.itoa e.n) e.AQ e.text 5=if decide ((form 5).2 = [])=true then([],false) else(told e a o (form 5).2 (form 5).2.length,true):=by
 rw [B9]
 refine Eq.trans (b:=fin _) rfl ?_
 refine Eq.trans (b:=(_,true)) (Prod.ext rfl (by first | rfl | simp [fin,BE,Bk])) ?_
 refine Eq.trans (b:=(_,true)) (congrArg (fun s=>(s,true)) ?_) rfl
 first | rfl | (simp only [BE,Bk,Bool.false_eq_true,if_true,if_false,List.append_assoc,List.cons_append,List.nil_append];rfl)
theorem ag:BA true a o (called e.dir) (Lib.itoa e.n) e.AQ e.text 6=if decide ((form 6).1 = [])=true then([],false) else(told e a o (form 6).1 (form 6).1.length,true):=by
 rw [B9]
 refine Eq.trans (b:=fin _) rfl ?_
 refine Eq.trans (b:=(_,true)) (Prod.ext rfl (by first | rfl | simp [fin,BE,Bk])) ?_
 refine Eq.trans (b:=(_,true)) (congrArg (fun s=>(s,true)) ?_) rfl
 first | rfl | (simp only [BE,Bk,Bool.false_eq_true,if_true,if_false,List.append_assoc,List.cons_append,List.nil_append];rfl)
theorem ah:BA false a o (called e.dir) (Lib.itoa e.n) e.AQ e.text 6=if decide ((form 6).2 = [])=true then([],false) else(told e a o (form 6).2 (form 6).2.length,true):=by
 rw [B9]
 refine Eq.trans (b:=fin _) rfl ?_
 refine Eq.trans (b:=(_,true)) (Prod.ext rfl (by first | rfl | simp [fin,BE,Bk])) ?_
 refine Eq.trans (b:=(_,true)) (congrArg (fun s=>(s,true)) ?_) rfl
 first | rfl | (simp only [BE,Bk,Bool.false_eq_true,if_true,if_false,List.append_assoc,List.cons_append,List.nil_append];rfl)
theorem ai:BA true a o (called e.dir) (Lib.itoa e.n) e.AQ e.text 7=if decide ((form 7).1 = [])=true then([],false) else(told e a o (form 7).1 (form 7).1.length,true):=by
 rw [B9]
 refine Eq.trans (b:=fin _) rfl ?_
 refine Eq.trans (b:=(_,true)) (Prod.ext rfl (by first | rfl | simp [fin,BE,Bk])) ?_
 refine Eq.trans (b:=(_,true)) (congrArg (fun s=>(s,true)) ?_) rfl
 first | rfl | (simp only [BE,Bk,Bool.false_eq_true,if_true,if_false,List.append_assoc,List.cons_append,List.nil_append];rfl)
theorem aj:BA false a o (called e.dir) (Lib.itoa e.n) e.AQ e.text 7=if decide ((form 7).2 = [])=true then([],false) else(told e a o (form 7).2 (form 7).2.length,true):=by
 rw [B9]
 refine Eq.trans (b:=fin _) rfl ?_
 refine Eq.trans (b:=(_,true)) (Prod.ext rfl (by first | rfl | simp [fin,BE,Bk])) ?_
 refine Eq.trans (b:=(_,true)) (congrArg (fun s=>(s,true)) ?_) rfl
 first | rfl | (simp only [BE,Bk,Bool.false_eq_true,if_true,if_false,List.append_assoc,List.cons_append,List.nil_append];rfl)
theorem an:BA true a o (called e.dir) (Lib.itoa e.n) e.AQ e.text 8=if decide ((form 8).1 = [])=true then([],false) else(told e a o (form 8).1 (form 8).1.length,true):=by
 rw [B9]
 refine Eq.trans (b:=fin _) rfl ?_
 refine Eq.trans (b:=(_,true)) (Prod.ext rfl (by first | rfl | simp [fin,BE,Bk])) ?_
 refine Eq.trans (b:=(_,true)) (congrArg (fun s=>(s,true)) ?_) rfl
 first | rfl | (simp only [BE,Bk,Bool.false_eq_true,if_true,if_false,List.append_assoc,List.cons_append,List.nil_append];rfl)
theorem ao:BA false a o (called e.dir) (Lib.itoa e.n) e.AQ e.text 8=if decide ((form 8).2 = [])=true then([],false) else(told e a o (form 8).2 (form 8).2.length,true):=by
 rw [B9]
 refine Eq.trans (b:=fin _) rfl ?_
 refine Eq.trans (b:=(_,true)) (Prod.ext rfl (by first | rfl | simp [fin,BE,Bk])) ?_
 refine Eq.trans (b:=(_,true)) (congrArg (fun s=>(s,true)) ?_) rfl
 first | rfl | (simp only [BE,Bk,Bool.false_eq_true,if_true,if_false,List.append_assoc,List.cons_append,List.nil_append];rfl)
theorem aq:BA true a o (called e.dir) (Lib.itoa e.n) e.AQ e.text 9=if decide ((form 9).1 = [])=true then([],false) else(told e a o (form 9).1 (form 9).1.length,true):=by
 rw [B9]
 refine Eq.trans (b:=fin _) rfl ?_
 refine Eq.trans (b:=(_,true)) (Prod.ext rfl (by first | rfl | simp [fin,BE,Bk])) ?_
 refine Eq.trans (b:=(_,true)) (congrArg (fun s=>(s,true)) ?_) rfl
 first | rfl | (simp only [BE,Bk,Bool.false_eq_true,if_true,if_false,List.append_assoc,List.cons_append,List.nil_append];rfl)
theorem au:BA false a o (called e.dir) (Lib.itoa e.n) e.AQ e.text 9=if decide ((form 9).2 = [])=true then([],false) else(told e a o (form 9).2 (form 9).2.length,true):=by
 rw [B9]
 refine Eq.trans (b:=fin _) rfl ?_
 refine Eq.trans (b:=(_,true)) (Prod.ext rfl (by first | rfl | simp [fin,BE,Bk])) ?_
 refine Eq.trans (b:=(_,true)) (congrArg (fun s=>(s,true)) ?_) rfl
 first | rfl | (simp only [BE,Bk,Bool.false_eq_true,if_true,if_false,List.append_assoc,List.cons_append,List.nil_append];rfl)
theorem YG:BA true a o (called e.dir) (Lib.itoa e.n) e.AQ e.text 10=if decide ((form 10).1 = [])=true then([],false) else(told e a o (form 10).1 (form 10).1.length,true):=by
 rw [B9]
 refine Eq.trans (b:=fin _) rfl ?_
 refine Eq.trans (b:=(_,true)) (Prod.ext rfl (by first | rfl | simp [fin,BE,Bk])) ?_
 refine Eq.trans (b:=(_,true)) (congrArg (fun s=>(s,true)) ?_) rfl
 first | rfl | (simp only [BE,Bk,Bool.false_eq_true,if_true,if_false,List.append_assoc,List.cons_append,List.nil_append];rfl)
theorem YH:BA false a o (called e.dir) (Lib.itoa e.n) e.AQ e.text 10=if decide ((form 10).2 = [])=true then([],false) else(told e a o (form 10).2 (form 10).2.length,true):=by
 rw [B9]
 refine Eq.trans (b:=fin _) rfl ?_
 refine Eq.trans (b:=(_,true)) (Prod.ext rfl (by first | rfl | simp [fin,BE,Bk])) ?_
 refine Eq.trans (b:=(_,true)) (congrArg (fun s=>(s,true)) ?_) rfl
 first | rfl | (simp only [BE,Bk,Bool.false_eq_true,if_true,if_false,List.append_assoc,List.cons_append,List.nil_append];rfl)
theorem YI:BA true a o (called e.dir) (Lib.itoa e.n) e.AQ e.text 11=if decide ((form 11).1 = [])=true then([],false) else(told e a o (form 11).1 (form 11).1.length,true):=by
 rw [B9]
 refine Eq.trans (b:=fin _) rfl ?_
 refine Eq.trans (b:=(_,true)) (Prod.ext rfl (by first | rfl | simp [fin,BE,Bk])) ?_
 refine Eq.trans (b:=(_,true)) (congrArg (fun s=>(s,true)) ?_) rfl
 first | rfl | (simp only [BE,Bk,Bool.false_eq_true,if_true,if_false,List.append_assoc,List.cons_append,List.nil_append];rfl)
theorem YJ:BA false a o (called e.dir) (Lib.itoa e.n) e.AQ e.text 11=if decide ((form 11).2 = [])=true then([],false) else(told e a o (form 11).2 (form 11).2.length,true):=by
 rw [B9]
 refine Eq.trans (b:=fin _) rfl ?_
 refine Eq.trans (b:=(_,true)) (Prod.ext rfl (by first | rfl | simp [fin,BE,Bk])) ?_
 refine Eq.trans (b:=(_,true)) (congrArg (fun s=>(s,true)) ?_) rfl
 first | rfl | (simp only [BE,Bk,Bool.false_eq_true,if_true,if_false,List.append_assoc,List.cons_append,List.nil_append];rfl)
theorem YK:BA true a o (called e.dir) (Lib.itoa e.n) e.AQ e.text 12=if decide ((form 12).1 = [])=true then([],false) else(told e a o (form 12).1 (form 12).1.length,true):=by
 rw [B9]
 refine Eq.trans (b:=fin _) rfl ?_
 refine Eq.trans (b:=(_,true)) (Prod.ext rfl (by first | rfl | simp [fin,BE,Bk])) ?_
 refine Eq.trans (b:=(_,true)) (congrArg (fun s=>(s,true)) ?_) rfl
 first | rfl | (simp only [BE,Bk,Bool.false_eq_true,if_true,if_false,List.append_assoc,List.cons_append,List.nil_append];rfl)
theorem YL:BA false a o (called e.dir) (Lib.itoa e.n) e.AQ e.text 12=if decide ((form 12).2 = [])=true then([],false) else(told e a o (form 12).2 (form 12).2.length,true):=by
 rw [B9]
 refine Eq.trans (b:=fin _) rfl ?_
 refine Eq.trans (b:=(_,true)) (Prod.ext rfl (by first | rfl | simp [fin,BE,Bk])) ?_
 refine Eq.trans (b:=(_,true)) (congrArg (fun s=>(s,true)) ?_) rfl
 first | rfl | (simp only [BE,Bk,Bool.false_eq_true,if_true,if_false,List.append_assoc,List.cons_append,List.nil_append];rfl)
theorem YM:BA true a o (called e.dir) (Lib.itoa e.n) e.AQ e.text 13=if decide ((form 13).1 = [])=true then([],false) else(told e a o (form 13).1 (form 13).1.length,true):=by
 rw [B9]
 refine Eq.trans (b:=fin _) rfl ?_
 refine Eq.trans (b:=(_,true)) (Prod.ext rfl (by first | rfl | simp [fin,BE,Bk])) ?_
 refine Eq.trans (b:=(_,true)) (congrArg (fun s=>(s,true)) ?_) rfl
 first | rfl | (simp only [BE,Bk,Bool.false_eq_true,if_true,if_false,List.append_assoc,List.cons_append,List.nil_append];rfl)
theorem YN:BA false a o (called e.dir) (Lib.itoa e.n) e.AQ e.text 13=if decide ((form 13).2 = [])=true then([],false) else(told e a o (form 13).2 (form 13).2.length,true):=by
 rw [B9]
 refine Eq.trans (b:=fin _) rfl ?_
 refine Eq.trans (b:=(_,true)) (Prod.ext rfl (by first | rfl | simp [fin,BE,Bk])) ?_
 refine Eq.trans (b:=(_,true)) (congrArg (fun s=>(s,true)) ?_) rfl
 first | rfl | (simp only [BE,Bk,Bool.false_eq_true,if_true,if_false,List.append_assoc,List.cons_append,List.nil_append];rfl)
theorem YO:BA true a o (called e.dir) (Lib.itoa e.n) e.AQ e.text 14=if decide ((form 14).1 = [])=true then([],false) else(told e a o (form 14).1 (form 14).1.length,true):=by
 rw [B9]
 refine Eq.trans (b:=fin _) rfl ?_
 refine Eq.trans (b:=(_,true)) (Prod.ext rfl (by first | rfl | simp [fin,BE,Bk])) ?_
 refine Eq.trans (b:=(_,true)) (congrArg (fun s=>(s,true)) ?_) rfl
 first | rfl | (simp only [BE,Bk,Bool.false_eq_true,if_true,if_false,List.append_assoc,List.cons_append,List.nil_append];rfl)
theorem YP:BA false a o (called e.dir) (Lib.itoa e.n) e.AQ e.text 14=if decide ((form 14).2 = [])=true then([],false) else(told e a o (form 14).2 (form 14).2.length,true):=by
 rw [B9]
 refine Eq.trans (b:=fin _) rfl ?_
 refine Eq.trans (b:=(_,true)) (Prod.ext rfl (by first | rfl | simp [fin,BE,Bk])) ?_
 refine Eq.trans (b:=(_,true)) (congrArg (fun s=>(s,true)) ?_) rfl
 first | rfl | (simp only [BE,Bk,Bool.false_eq_true,if_true,if_false,List.append_assoc,List.cons_append,List.nil_append];rfl)
theorem YQ:BA true a o (called e.dir) (Lib.itoa e.n) e.AQ e.text 15=if decide ((form 15).1 = [])=true then([],false) else(told e a o (form 15).1 (form 15).1.length,true):=by
 rw [B9]
 refine Eq.trans (b:=fin _) rfl ?_
 refine Eq.trans (b:=(_,true)) (Prod.ext rfl (by first | rfl | simp [fin,BE,Bk])) ?_
 refine Eq.trans (b:=(_,true)) (congrArg (fun s=>(s,true)) ?_) rfl
 first | rfl | (simp only [BE,Bk,Bool.false_eq_true,if_true,if_false,List.append_assoc,List.cons_append,List.nil_append];rfl)
theorem YR:BA false a o (called e.dir) (Lib.itoa e.n) e.AQ e.text 15=if decide ((form 15).2 = [])=true then([],false) else(told e a o (form 15).2 (form 15).2.length,true):=by
 rw [B9]
 refine Eq.trans (b:=fin _) rfl ?_
 refine Eq.trans (b:=(_,true)) (Prod.ext rfl (by first | rfl | simp [fin,BE,Bk])) ?_
 refine Eq.trans (b:=(_,true)) (congrArg (fun s=>(s,true)) ?_) rfl
 first | rfl | (simp only [BE,Bk,Bool.false_eq_true,if_true,if_false,List.append_assoc,List.cons_append,List.nil_append];rfl)
theorem YS:BA true a o (called e.dir) (Lib.itoa e.n) e.AQ e.text 16=if decide ((form 16).1 = [])=true then([],false) else(told e a o (form 16).1 (form 16).1.length,true):=by
 rw [B9];rfl
theorem YT:BA false a o (called e.dir) (Lib.itoa e.n) e.AQ e.text 16=if decide ((form 16).2 = [])=true then([],false) else(told e a o (form 16).2 (form 16).2.length,true):=by
 rfl
theorem YU:BA true a o (called e.dir) (Lib.itoa e.n) e.AQ e.text 17=if decide ((form 17).1 = [])=true then([],false) else(told e a o (form 17).1 (form 17).1.length,true):=by
 rw [B9]
 refine Eq.trans (b:=fin _) rfl ?_
 refine Eq.trans (b:=(_,true)) (Prod.ext rfl (by first | rfl | simp [fin,BE,Bk])) ?_
 refine Eq.trans (b:=(_,true)) (congrArg (fun s=>(s,true)) ?_) rfl
 first | rfl | (simp only [BE,Bk,Bool.false_eq_true,if_true,if_false,List.append_assoc,List.cons_append,List.nil_append];rfl)
theorem YV:BA false a o (called e.dir) (Lib.itoa e.n) e.AQ e.text 17=if decide ((form 17).2 = [])=true then([],false) else(told e a o (form 17).2 (form 17).2.length,true):=by
 rw [B9]
 refine Eq.trans (b:=fin _) rfl ?_
 refine Eq.trans (b:=(_,true)) (Prod.ext rfl (by first | rfl | simp [fin,BE,Bk])) ?_
 refine Eq.trans (b:=(_,true)) (congrArg (fun s=>(s,true)) ?_) rfl
 first | rfl | (simp only [BE,Bk,Bool.false_eq_true,if_true,if_false,List.append_assoc,List.cons_append,List.nil_append];rfl)
theorem YW:BA true a o (called e.dir) (Lib.itoa e.n) e.AQ e.text 18=if decide ((form 18).1 = [])=true then([],false) else(told e a o (form 18).1 (form 18).1.length,true):=by
 rfl
theorem YX:BA false a o (called e.dir) (Lib.itoa e.n) e.AQ e.text 18=if decide ((form 18).2 = [])=true then([],false) else(told e a o (form 18).2 (form 18).2.length,true):=by
 rw [B9]
 refine Eq.trans (b:=fin _) rfl ?_
 refine Eq.trans (b:=(_,true)) (Prod.ext rfl (by first | rfl | simp [fin,BE,Bk])) ?_
 refine Eq.trans (b:=(_,true)) (congrArg (fun s=>(s,true)) ?_) rfl
 first | rfl | (simp only [BE,Bk,Bool.false_eq_true,if_true,if_false,List.append_assoc,List.cons_append,List.nil_append];rfl)
end
theorem A1 (e:Event)(b:Int):B1 e b=tell e b:=by
 unfold B1 tell
 rw [XW,show decide (6≤b)=decide (5 < b) from decide_eq_decide.2 ⟨fun _=>by omega,fun _=>by omega⟩]
 split
 ·rfl
 ·unfold Dj
  by_cases h:1≤e.kind∧e.kind≤18
  ·have:e.kind=1∨e.kind=2∨e.kind=3∨e.kind=4∨e.kind=5∨e.kind=6∨e.kind=7∨e.kind=8∨e.kind=9∨e.kind=10∨e.kind=11∨e.kind=12∨e.kind=13∨e.kind=14∨e.kind=15∨e.kind=16∨e.kind=17∨e.kind=18:=by omega
   rcases this with hk | hk | hk | hk | hk | hk | hk | hk | hk | hk | hk | hk | hk | hk | hk | hk | hk | hk
   all_goals rw [hk]
   all_goals cases decide (b=e.Al)
   ·exact aV
   ·exact aU
   ·exact aX
   ·exact aW
   ·exact aZ
   ·exact aY
   ·exact ab
   ·exact aa
   ·exact af
   ·exact ae
   ·exact ah
   ·exact ag
   ·exact aj
   ·exact ai
   ·exact ao
   ·exact an
   ·exact au
   ·exact aq
   ·exact YH
   ·exact YG
   ·exact YJ
   ·exact YI
   ·exact YL
   ·exact YK
   ·exact YN
   ·exact YM
   ·exact YP
   ·exact YO
   ·exact YR
   ·exact YQ
   ·exact YT
   ·exact YS
   ·exact YV
   ·exact YU
   ·exact YX
   ·exact YW
  ·rw [av h,Tp h]
   cases decide (b=e.Al)<;>rfl
end AD
end Go.Ing
/- Engine: slices that are made, and written element by element. -/
namespace Go.Ing
open Go
theorem WH {C cs:List Value}{o i:Nat}{v:Value}(hc:(C.drop o).take cs.length=cs)(hl:o+cs.length≤C.length)(hi:i < cs.length):((Cw C (o+i) [v]).drop o).take (cs.set i v).length=cs.set i v:=by
 apply List.ext_getElem?
 intro j
 rw [List.getElem?_take,List.getElem?_drop,DY (by simp;omega),List.length_set]
 by_cases h1:j < cs.length
 ·rw [if_pos h1,List.getElem?_set]
  by_cases h2:i=j
  ·subst h2
   rw [if_neg (by omega),if_pos (by simp),if_pos rfl,if_pos hi]
   simp
  ·rw [if_neg h2]
   have h3:cs[j]?=C[o+j]?:=by
    conv=>lhs;rw [← hc]
    rw [List.getElem?_take,if_pos h1,List.getElem?_drop]
   rw [h3]
   split
   ·rfl
   ·split
    ·rename_i h4 h5;exfalso;simp at h5;omega
    ·rfl
 ·rw [if_neg h1,List.getElem?_eq_none (by simp;omega)]
section
variable {P:Program} {n:Nat} {w0:World} {M:List Nat} {Q:Exit→Go.Act→World→Prop} {F F':List (Nat × Value)} {L L':List AJ} {ops:Array Oper} {rest:List Oper}
theorem ZN {T U E i:Nat}{h:Hd}{cs:List Value}{x y:Operand}{v:Value}(hx:ev F x=some (h.ptr i 1 0))(hy:ev F y=some v)(hv:v.cells = [v].toArray)(h1:v.oneCell'=true)(hT:Sz P T 1)(hi:i < cs.length)(hL:Ip L (AJ.own h E 1 cs) (AJ.own h E 1 (cs.set i v)) L'):PU P n w0 M (.store T x y) U F L L':=by
 intro a w hF hS
 rcases hS.ok _ hL.mem with ⟨_,rfl⟩ | ⟨b,o,C,fz,e1,e2,e3,e4,e5,e6,e7,e8⟩
 ·simp at hi
 ·have hlen:o+cs.length≤C.length:=by have:=Nat.mul_le_mul_right 1 e6;omega
  obtain⟨w',s1,s2,s3,s4,s5,s6,s7⟩:=Ij (P:=P) (o:=o+i) [v] w C 0 e3 (fun u hu=>by simp at hu;subst hu;exact h1) (by simp;omega) e4
  refine⟨w',?_,hS.Dy hL s5 s6 s7 (by omega) (fun k _ hk=>s3 k (by simpa [AJ.own,e1] using hk)) ?_ ?_⟩
  ·rw [Hd.So e1] at hx
   simp only [Nat.mul_one,Nat.add_zero] at hx
   simp only [execOp,hF.ev hx,hF.ev hy,Instr.storeAt,Instr.sureAddr,storeVar,hv]
   simp [hT w,s1]
  ·refine .inr ⟨b,o,Cw C (o+i) [v],fz,e1,by omega,by simpa using s2,?_,?_,e6,?_,?_⟩
   ·rw [EA (by simp;omega)];exact e4
   ·rw [EA (by simp;omega)];exact e5
   ·rw [List.length_set];exact e7
   ·exact WH e8 hlen hi
  ·intro k hk
   simp [AJ.own,e1] at hk
   subst hk
   exact⟨by omega, .inl (by simp [AJ.own,e1])⟩
theorem Gi {α:Type}{e:α→List Value}{f:α→Value}(he:∀ x,e x = [f x]):∀ xs:List α,xs.flatMap e=xs.map f
 | []=>rfl
 | x :: r=>by rw [List.flatMap_cons,he,Gi he r];rfl
theorem Tm {α:Type}{e:α→List Value}{f:α→Value}(he:∀ x,e x = [f x])(xs:List α)(i:Nat)(x:α):(xs.flatMap e).set i (f x)=(xs.set i x).flatMap e:=by
 rw [Gi he,Gi he,List.map_set]
theorem Ou {T U E i:Nat}{h:Hd}{xs:List AL}{s:AL}{x y:Operand}(hx:ev F x=some (h.ptr i 1 0))(hy:ev F y=some (Ag s))(hT:Sz P T 1)(hi:i < xs.length)(hL:Ip L (AJ.own h E 1 (xs.flatMap AX)) (AJ.own h E 1 ((xs.set i s).flatMap AX)) L'):PU P n w0 M (.store T x y) U F L L':=
 ZN (cs:=xs.flatMap AX) hx hy rfl rfl hT (by rw [Gi (e:=AX) (f:=Ag) (fun _=>rfl),List.length_map];exact hi) (by rw [Tm (e:=AX) (f:=Ag) (fun _=>rfl)];exact hL)
theorem fB {T U E i:Nat}{h:Hd}{xs:AL}{z:Int}{x y:Operand}(hx:ev F x=some (h.ptr i 1 0))(hy:ev F y=some (.int .u8 z))(hz:0≤z∧z≤255)(hT:Sz P T 1)(hi:i < xs.length)(hL:Ip L (AJ.own h E 1 (xs.flatMap CE)) (AJ.own h E 1 ((xs.set i (u8 z)).flatMap CE)) L'):PU P n w0 M (.store T x y) U F L L':=
 ZN (cs:=xs.flatMap CE) hx hy rfl rfl hT (by rw [FX,List.length_map];exact hi) (by
  have:=Tm (e:=CE) (f:=fun c=> .int .u8 (c.toNat:Int)) (fun _=>rfl) xs i (u8 z)
  rw [QL hz.1 hz.2] at this
  rw [this];exact hL)
theorem XN {d:Nat}{t E:TypeId}{T:TypeId}{pos:String}{Bl:Array Edge}{x y:Operand}{m:Int}(hd:Nat.blt d n=true)(hu:P.underlying t=some (.slice E))(hs:Sz P E 1)(hz:ZV P E (.string ⟨#[]⟩))(hb:BY P E 16)(hx:ev F x=some (.int .i64 m))(hy:ev F y=some (.int .i64 m))(h0:0≤m)(hm:m≤17592186044416)
  (k:∀ b:Nat,GL P n w0 M ops Q rest ((d,Hd.val ⟨some ⟨b,0,none⟩,m.toNat,m.toNat⟩) :: F) (AJ.own ⟨some ⟨b,0,none⟩,m.toNat,m.toNat⟩ E 1 ((List.replicate m.toNat ([]:AL)).flatMap AX) :: L)):GL P n w0 M ops Q (⟨some d, .makeSlice t x y,T,pos,Bl,none⟩ :: rest) F L:=by
 refine E7 (R:=fun v L'=>∃ b:Nat,v=Hd.val ⟨some ⟨b,0,none⟩,m.toNat,m.toNat⟩∧L'=AJ.own ⟨some ⟨b,0,none⟩,m.toNat,m.toNat⟩ E 1 ((List.replicate m.toNat ([]:AL)).flatMap AX) :: L) hd ?_ (fun v L' ⟨b,e1,e2⟩=>by subst e1;subst e2;exact k b)
 intro a w hF hS
 obtain⟨N,rfl⟩:=Int.eq_ofNat_of_zero_le h0
 have hN:N≤17592186044416:=by omega
 obtain⟨i,hi,hib⟩:=hb
 have hti:∀ w,(typeInfo E).run P w = .ok i w:=fun w=>by simp [typeInfo,hi]
 let C:List Value:=(List.replicate N ([]:AL)).flatMap AX
 have hC:C=List.replicate N (Ag []):=by
  show(List.replicate N ([]:AL)).flatMap AX=_
  rw [Gi (e:=AX) (f:=Ag) (fun _=>rfl),List.map_replicate]
 have hCl:C.length=N:=by rw [hC];simp
 have hw1:=hS.alloc E C
 have hS':St w0 M (w.alloc (.cells C.toArray E)) (AJ.own ⟨some ⟨w.heap.size,0,none⟩,N,N⟩ E 1 C :: L):=by
  refine hw1.Dy (.head) rfl rfl rfl (Nat.le_refl _) (fun _ _ _=>rfl) ?_ (fun b hb=>?_)
  ·refine .inr ⟨w.heap.size,0,C,(0,0),rfl,by simp,?_,fun _ _ h=>by simp at h,?_,Nat.le_refl _,?_,?_⟩
   ·have:=hw1.ok _ (List.mem_cons_self ..)
    exact this
   ·show 0+N * 1≤_;omega
   ·show N * 1=_;omega
   ·show(C.drop 0).take _=_
    rw [List.drop_zero,List.take_length]
  ·simp [AJ.own] at hb
   subst hb
   exact⟨by simp, .inl (by simp [AJ.box])⟩
 refine⟨_,_,_,⟨w.heap.size,rfl,rfl⟩,?_,by simpa using hS'⟩
 have hcells:((Array.range N).map fun j=>(#[Value.string ⟨#[]⟩]:Array Value)[j % 1]!)=C.toArray:=by
  apply Array.ext'
  rw [hC]
  simp [Ag,Nat.mod_one]
  exact List.eq_replicate_iff.2 ⟨by simp,by simp⟩
 have hwr:IntKind.i64.wrap (N:Int)=N:=IntWalk.i64_in _ (by omega)
 have g1:¬ (281474976710656:Int) < 16 * (N:Int):=by omega
 have hx':=hF.ev hx
 have hy':=hF.ev hy
 have hwr0:IntKind.i64.wrap 0=0:=by decide
 by_cases hN0:N=0
 ·subst hN0
  simp [execOp,hx',hy',Instr.makeSlice,run_underlying hu,hti,hib,hwr0,asInt,asIntOf,hs w,newRow,Hd.val]
  refine congrArg (fun c=>w.alloc (Obj.cells c E)) (Array.ext' ?_)
  rw [List.length_eq_zero_iff.1 hCl,Array.toList_map,Array.toList_range]
  rfl
 ·have g0:¬ (N:Int) < 0:=by omega
  simp [execOp,hx',hy',Instr.makeSlice,run_underlying hu,hti,hib,hwr,g0,g1,asInt,asIntOf,hs w,hN0,hz w,newRow,Hd.val]
  exact congrArg (fun c=>w.alloc (Obj.cells c E)) hcells
theorem TC {T U g sz:Nat}{x:Operand}{vs cs:List Value}(hg:GV g vs w0)(e:cs=vs)(hx:ev F x=some (.pointer (some ⟨g,0,none⟩)))(hT:S3 P T sz)(hl:cs.length=sz):PS P n w0 [] (.load T x) U F L (.agg cs.toArray) L:=by
 intro a w hF hS
 subst e
 obtain⟨t,fz,hb⟩:=hg.st hS
 refine⟨w,?_,rfl,rfl⟩
 simp only [execOp,hF.ev hx,Instr.loadAt,Instr.sureAddr,loadVar]
 simp [hT.1 w,hT.2 w,Eh hb (Nat.le_of_eq (by omega:0+sz=cs.length))]
 rw [← hl,List.take_length]
end
end Go.Ing
/- Engine: errors; the numeral that is read. -/
namespace Go.Ing
open Go
def Eo (g:Nat)(w:World):Prop:=∃ tp p,GV g [.iface tp p] w
theorem Eo.st {g:Nat}{w0 w:World}{L:List AJ}(h:Eo g w0)(hS:St w0 [] w L):Eo g w:=by
 obtain⟨tp,p,h⟩:=h;exact⟨tp,p,h.st hS⟩
theorem BF.Pw {w w':World}(h:RowKit.Below w.heap.size w w'):BF w w':=⟨h.os,h.tape,h.output,h.size,h.block⟩
section
variable {P:Program} {n:Nat} {w0:World} {M:List Nat} {F:List (Nat × Value)} {L:List AJ}
theorem TG {U V T:TypeId}{ms:Array (String × TypeId)}{x:Operand}(hu:P.underlying U=some (.interface ms))(hx:ev F x=some .nilIface):PS P n w0 M (.binOp .neq U x (.const .nilIface) V) T F L (.bool false) L:=Bj fun e w hF=>by
 have hu':(underlying U).run P w = .ok (.interface ms) w:=by simp [underlying,hu]
 have h:∀ d:Nat,(Op.equalIn (d+1) U .nilIface .nilIface).run P w = .ok true w:=fun d=>by simp [Op.equalIn,hu']
 have h2:(Op.equal U .nilIface .nilIface).run P w = .ok true w:=h _
 have hg:e.eval (.const .nilIface) = .nilIface:=rfl
 simp [execOp,hF.ev hx,hg,eqGuard,binOp,h2]
theorem cG {U V T t:TypeId}{ms:Array (String × TypeId)}{v:Value}{x:Operand}(hu:P.underlying U=some (.interface ms))(hx:ev F x=some (.iface t v)):PS P n w0 M (.binOp .neq U x (.const .nilIface) V) T F L (.bool true) L:=Bj fun e w hF=>by
 have hu':(underlying U).run P w = .ok (.interface ms) w:=by simp [underlying,hu]
 have h:∀ d:Nat,(Op.equalIn (d+1) U (.iface t v) .nilIface).run P w = .ok false w:=fun d=>by simp [Op.equalIn,hu']
 have h2:(Op.equal U (.iface t v) .nilIface).run P w = .ok false w:=h _
 have hg:e.eval (.const .nilIface) = .nilIface:=rfl
 simp [execOp,hF.ev hx,hg,eqGuard,binOp,h2]
end
theorem ZT {P : Program} {ρ : Shelf.Ren} (L : Proofs.LaysC.n172 P ρ) (s : AL) (hs : s.length ≤ 140737488351232) {gs gr : Nat} (hgs : P.globalNamed "strconv.ErrSyntax" = some gs) (hgr : P.globalNamed "strconv.ErrRange" = some gr) :
  Cz P (ρ.f 172) #[Ag s] [] (fun w=>Eo gs w∧Eo gr w) (fun v B=>(∃ k:Int,Lib.atoiAll s = .ok k∧v = .tuple #[.int .i64 k, .nilIface]∧B = [])∨(∃(k:Int) (t:TypeId) (x:Value),(∀ j,Lib.atoiAll s≠ .ok j)∧v = .tuple #[.int .i64 k, .iface t x]∧B = [])):=by
 intro w hS ⟨⟨tp,p,h1⟩,⟨tq,q,h2⟩⟩
 have v1:=Vl hgs h1
 have v2:=Vl hgr h2
 have hsz:(⟨s.toArray⟩:ByteArray).size=s.length:=by simp [ByteArray.size]
 have hl:(⟨s.toArray⟩:ByteArray).data.toList=s:=by simp
 cases h:Lib.atoiAll s
 ·rename_i k
  refine Calls.mono (Proofs.Any.strconv_Atoi_ok L ⟨s.toArray⟩ (by omega) k (by rw [hl];exact h) w) fun e w' ⟨e1,e2⟩=>⟨_,e1,[], .inl ⟨k,rfl,rfl,rfl⟩,?_⟩
  rcases e2 with rfl | ⟨t,rfl⟩
  ·exact hS
  ·exact hS.Ll (BF.Pw (Lib.bytesWorld_below _ _ _))
 ·refine Calls.mono (Proofs.Any.strconv_Atoi_syntax_var L ⟨s.toArray⟩ (by omega) (by rw [hl];exact h) tp p w v1) fun e w' ⟨N,e1,_,_,e2⟩=>⟨_,e1,[], .inr ⟨_,_,_,(fun(j:Int) hj=>by cases hj),rfl,rfl⟩,hS.Ll (BF.Pw e2)⟩
 ·refine Calls.mono (Proofs.Any.strconv_Atoi_range_var L ⟨s.toArray⟩ (by omega) (by rw [hl];exact h) tq q w v2) fun e w' ⟨N,e1,_,_,e2⟩=>⟨_,e1,[], .inr ⟨_,_,_,(fun(j:Int) hj=>by cases hj),rfl,rfl⟩,hS.Ll (BF.Pw e2)⟩
theorem WO {H:Type}{enc:TypeId × Value→H}{P:Program}{w:World}{base:Nat}{sp:Nat→Bool}{held:Bool}{fuel t:Nat}{cs:List Value}{ms:Array (String × TypeId)}{nm:String}{d:DataW H}{p:List MemPlace}(hu:P.underlying t=some (.interface ms))(h:DataW.trod enc P w base sp held fuel t cs=some (.iface nm d,p)):∃ u v,cs = [.iface u v]:=by
 cases fuel with
 | zero=>simp [DataW.trod] at h
 | succ n=>
  unfold DataW.trod at h
  rw [hu] at h
  split at h<;>simp_all
theorem kY {P:Program}{w:World}{laid:List (String × DataW Unit)}{name:String}{d d':DataW Unit}{nm:String}{g:Nat}{t:TypeId}{ms:Array (String × TypeId)}(hL:laidMet P laid w)(hm:(name,d)∈laid)(hd:d = .iface nm d')(hg:P.globalNamed name=some g)(hty:(P.globals[g]?).map (·.type)=some t)(ht:P.underlying t=some (.interface ms)):Eo g w:=by
 subst hd
 obtain⟨ps,hv,_⟩:=hL
 obtain⟨g',t',cs,fuel,p,hg',ht',hvar,h⟩:=OM _ _ hv hm
 obtain rfl:=Option.some.inj (hg.symm.trans hg')
 obtain rfl:=Option.some.inj (hty.symm.trans ht')
 obtain⟨u,v,e⟩:=WO ht h
 exact⟨u,v,WU hg hvar e⟩
end Go.Ing

/- What the functions that the law of this seat reaches compute, and the plain laws of it. No condition. -/
import Derived.Test.YtoidpggbbfncpaaGreatDoorTopTranscriptEc3
import Derived.Lib.Bytealg
import Derived.Laws.Externs
import Derived.MapKept
import Derived.Lib.LaidTab
import Derived.Shelf.Strconv.Itoa3
import Derived.Lib.ItoaLen
import Derived.Shelf.Strconv.ErrVarAll
import Derived.Stop.LaidErr
set_option linter.unusedSimpArgs false
set_option linter.unusedVariables false
/- Engine: how much a slice within a struct that came in can take. -/
namespace Go.Ing
open Go Go.RowKit Go.ChangeShapes Go.WideShapes Go.ChangeAt
section
variable {H:Type} {enc:TypeId × Value→H} {P:Program} {w:World}
theorem Xn {ts:List TypeId}{ds:List (DataW H)}(h:(DataW.weightsEach P ts ds).all (·≤ reachBytes)=true){j:Nat}{t:TypeId}{d:DataW H}(ht:ts[j]?=some t)(hd:ds[j]?=some d):∀ n∈d.weights P t,n≤reachBytes:=fun n hn=>by
 simpa using List.all_eq_true.1 h n (DataW.weights_mem_each ht hd n hn)
end
section
variable {P:Program} {n:Nat} {w0:World} {M:List Nat} {Q:Exit→Go.Act→World→Prop} {F F':List (Nat × Value)} {L L':List Ab} {ops:Array Oper} {rest:List Oper}
theorem UW {U U2 E sz H0:Nat}{z x:Value}{h:Hd}{gl:Nat}{ys:List Value}{V:TypeId}{w:World}(hu:P.underlying U=some (.slice E))(hsz:Sz P E sz)(hz:ZV P E z)(hzs:z.cells.size=sz)(hby:BY P E H0)(hb0:0 < H0)
  (hl0:h.len=0) (hc0:h.cap=0) (hh:(Ab.own h E sz []).ok w) (hg:Src P w U2 sz x gl ys) (hbd:gl * H0≤281474976710656) :
  ∃ h' w',(Builtin.append_ #[U,U2] V #[h.val,x]).run P w = .ok h'.val w'∧(Ab.own h' E sz ys).ok w'∧h'.len=gl∧w'.os=w.os∧w'.tape=w.tape∧w'.output=w.output∧w.heap.size≤w'.heap.size ∧
   (∀ k,k < w.heap.size→w'.heap[k]?=w.heap[k]?)∧(∀ b∈(Ab.own h' E sz ys).Cc,b < w'.heap.size∧(b∈(Ab.own h E sz []).Cc∨w.heap.size≤b)):=by
 obtain⟨i,hi,hib⟩:=hby
 have hti:∀ w,(typeInfo E).run P w = .ok i w:=fun w=>by simp [typeInfo,hi]
 have hu':∀ w,(underlying U).run P w = .ok (.slice E) w:=fun w=>by simp [underlying,hu]
 have hsw:∀(v:Value) (w:World),(Builtin.append_ #[U,U2] V #[v,x]).run P w=(Builtin.append_ #[U,U] V #[v,x]).run P w:=fun v w=>by
  rcases hg.ty with ⟨e,hd2⟩ | hd2
  ·have hu2:∀ w,(underlying U2).run P w = .ok (.slice e) w:=fun w=>by simp [underlying,hd2]
   cases v<;>simp [Builtin.append_,hu' w,hu2 w,hsz w]
  ·have hu2:∀ w,(underlying U2).run P w = .ok .string w:=fun w=>by simp [underlying,hd2]
   cases v<;>simp [Builtin.append_,hu' w,hu2 w,hsz w]
 have hlo:=hg.lenOf
 obtain⟨ha,hl,hc⟩:=h
 simp only at hl0 hc0
 subst hl0;subst hc0
 have hfh:∀ w,(Builtin.firstCells sz 0 (Hd.val ⟨ha,0,0⟩)).run P w = .ok #[] w:=fun w=>by
  cases ha with
  | none=>rfl
  | some a=>simp [Hd.val,Builtin.firstCells,loadCells,loadCellsFrom]
 by_cases hg0:gl=0
 ·subst hg0
  have hys:ys = []:=by have:=hg.len;simpa using this.symm
  subst hys
  refine⟨⟨ha,0,0⟩,w,?_,hh,rfl,rfl,rfl,rfl,Nat.le_refl _,fun _ _=>rfl,fun b hb=>?_⟩
  ·have hfc:=hg.cells w (CH.refl w)
   rw [hsw]
   cases ha with
   | none=>simp only [Hd.val] at hfc ⊢;simp [Builtin.append_,hu' w,hsz w,hlo w,hfc]
   | some a=>simp only [Hd.val] at hfc ⊢;simp [Builtin.append_,hu' w,hsz w,hlo w,hfc,storeCells]
  ·rcases hh with ⟨e1,_⟩ | ⟨b',o,C,fz,e1,e2,_⟩
   ·simp at e1;subst e1;simp [Ab.own] at hb
   ·simp only at e1;subst e1;simp [Ab.own] at hb;subst hb
    exact⟨e2, .inl (by simp [Ab.own])⟩
 ·have hnc:Builtin.nextslicecap (0+gl) 0=gl:=by
   unfold Builtin.nextslicecap
   rw [if_pos (by omega)];omega
  have hbig:¬ (281474976710656 < Builtin.nextslicecap (0+gl) 0 * H0):=by rw [hnc];omega
  let q:Question:= .appendCap (0+gl) 0 E
  let w1:World:=w.drew
  let nc:Nat:=q.cut (w.tape w.drawn q)
  have hncle:0+gl≤nc:=Nat.le_add_right _ _
  have hk1:CH w w1:=⟨rfl,rfl,rfl,Nat.le_refl _,fun _ _=>rfl⟩
  have hfc1:=hg.cells w1 hk1
  have hfh1:=hfh w1
  let row:List Value:=ys++(Builtin.zeroCells z.cells (nc - (0+gl))).toList
  have hrow:row.length=nc * sz:=by
   simp only [row,List.length_append,Array.length_toList,KS,hzs]
   rw [← hg.len,← Nat.add_mul]
   congr 1;omega
  refine⟨⟨some ⟨w.heap.size,0,none⟩,gl,nc⟩,w1.alloc (.cells row.toArray E),?_,?_,rfl,rfl,rfl,rfl,by simp [w1],?_,?_⟩
  ·simp only [Hd.val] at hfc1 hfh1 ⊢
   have hz1:=hz w.drew
   simp only [w1] at hfc1 hfh1
   have hne:¬ gl≤0:=by omega
   rw [hsw]
   simp only [Nat.zero_add] at hbig
   simp [Builtin.append_,hu' w,hsz w,hlo w,hne,hg0,hti,hbig,hib,Nat.ne_of_gt hb0,hfc1,hfh1,hz1,newRow,Question.forced]
   simp [w1,row,nc,q]
   congr 2
   apply Array.ext'
   simp
  ·refine .inr ⟨w.heap.size,0,row,(0,0),rfl,by simp [w1],?_,fun _ _ h=>by simp at h,by rw [hrow];simp,(by show gl≤nc;omega),hg.len,?_⟩
   ·show(w.heap.push _)[w.heap.size]?=_
    simp
   ·simp only [List.drop_zero,row]
    rw [List.take_left]
  ·intro k hk
   exact RowKit.Below.heap_alloc w1 _ k hk
  ·intro b hb
   simp [Ab.own] at hb
   subst hb
   exact⟨by simp [w1], .inr (Nat.le_refl _)⟩
theorem L4 {α:Type}{e:α→List Value}{d T U U2 E sz H0 gl:Nat}{x y:Operand}{pos:String}{Cu:Array Edge}{h:Hd}{zs:List α}{z yv:Value}{Lf:Ab→List Ab}(hd:Nat.blt d n=true)(hu:P.underlying U=some (.slice E))(hs:Sz P E sz)(hz:ZV P E z)(hzs:z.cells.size=sz)(hby:BY P E H0)(hb0:0 < H0)
  (hx:ev F x=some h.val) (hy:ev F y=some yv) (hk:∀ w,St w0 M w L→Src P w U2 sz yv gl (zs.flatMap e)) (hl0:h.len=0) (hc0:h.cap=0) (hbd:gl * H0≤281474976710656) (hU:∀ r,Lc L (Ab.own h E sz (([]:List α).flatMap e)) r (Lf r))
  (k:∀ h':Hd,h'.len=gl→GL P n w0 M ops Q rest ((d,h'.val) :: F) (Lf (Ab.own h' E sz (zs.flatMap e)))):GL P n w0 M ops Q (⟨some d, .call ⟨.builtin .append,#[x,y],#[U,U2]⟩,T,pos,Cu,none⟩ :: rest) F L:=by
 refine GU (R:=fun v L'=>∃ h':Hd,v=h'.val∧L'=Lf (Ab.own h' E sz (zs.flatMap e))∧h'.len=gl) hd ?_ (fun v L' ⟨h',e1,e2,e3⟩=>by subst e1;subst e2;exact k h' e3)
 intro a w hF hS
 obtain⟨h',w',e1,e2,e3,e4,e5,e6,e7,e8,e9⟩:=UW (V:=T) hu hs hz hzs hby hb0 hl0 hc0 (hS.ok _ (hU ⟨[],fun _=>True,fun _ _ _ _=>trivial⟩).mem) (hk w hS) hbd
 refine⟨_,_,w',⟨h',rfl,rfl,e3⟩,?_,hS.Dz (hU _) e4 e5 e6 e7 (fun k hk _=>e8 k hk) e2 e9⟩
 simp [execOp,resolve,invoke,builtin,hF.ev hx,hF.ev hy,e1]
/-! #### closures -/
theorem Ue {f:FuncId}{xs:List Operand}{vs:List Value}{T:TypeId}(ha:OY F xs vs):PS P n w0 M (.makeFunc (.func f) #[] xs.toArray) T F L (.func (.func f) #[] vs.toArray) L:=CR fun a w hF=>by
 have:=OY.map hF ha
 simp [execOp,Instr.makeFunc,← this]
theorem RH {f:FuncId}{t:Nat}{caps:List Value}{args:List Operand}{ts:Array TypeId}{T:TypeId}{vs:List Value}(hc:CF P f){a:Go.Act}(hF:Fr n a F)(hf:lk t F=some (.func (.func f) #[] caps.toArray))(ha:OY F args vs)(w:World)(d:Option Tmp)(pos:String)(Cu:Array Edge)(g:Option (Nat × Bool)) :
  (execOp a.eval ⟨d, .call ⟨.value (.tmp t),args.toArray,ts⟩,T,pos,Cu,g⟩).run P w = .ok (.enter f (vs++caps).toArray) w:=by
 have h2:=OY.map hF ha
 subst h2
 have h1:=hc (args.map a.eval++caps).toArray w
 have h3:a.eval (.tmp t) = .func (.func f) #[] caps.toArray:=by have:=hF.get _ _ hf;simp [Act.eval,this]
 simp [execOp,resolve,Deferred.ofValue,h3,invoke]
 simpa using h1
theorem Du {d:Nat}{f:FuncId}{t:Nat}{caps:List Value}{args:List Operand}{ts:Array TypeId}{T:TypeId}{pos:String}{Cu:Array Edge}{vs:List Value}{Post:Value→List Ab→Prop}{A K:List Ab}(hd:Nat.blt d n=true)(hc:CF P f)(hf:lk t F=some (.func (.func f) #[] caps.toArray))(ha:OY F args vs)(hL:Ax L A K)
  (h:KN P f (vs++caps).toArray A Post)
  (k:∀ v B,Post v B→GL P n w0 M ops Q rest ((d,v) :: F) (B++K)):GL P n w0 M ops Q (⟨some d, .call ⟨.value (.tmp t),args.toArray,ts⟩,T,pos,Cu,none⟩ :: rest) F L:=by
 intro a w hF hS
 refine wpList_plain rfl fun K' hK=>?_
 unfold Oper.wp
 rw [RH hc hF hf ha]
 show Calls _ _ _ _ _
 refine Calls.mono (h w (hS.perm hL.perm).focus) fun e w' he=>?_
 obtain⟨v,rfl,B,hP,hB⟩:=he
 exact hK _ _ (k v B hP _ _ (hF.put (by simpa [Nat.blt_eq] using hd) v) ((hS.perm hL.perm).frame hB))
end
end Go.Ing
/- The plain functions of the telnet codec. -/
namespace Go.Ing
open Go
def u8 (n:Int):UInt8:=UInt8.ofNat n.toNat
theorem Sh {n:Int}(h0:0≤n)(h1:n≤255):((u8 n).toNat:Int)=n:=by
 simp [u8];omega
namespace AK
def PJ (t:AK)(i:Int):Bool:=decide (t.us.at i < 0) || decide (2 < t.us.at i) || decide (t.Gb.at i < 0) || decide (2 < t.Gb.at i)
def RZ (t:AK):Bool:=
 decide (0≤t.at_) && decide (t.at_≤4) && (decide (t.at_=2) == !decide (t.verb=0)) && (decide (t.verb=0) || (decide (251≤t.verb) && decide (t.verb≤254))) && decide ((t.sub.length:Int)≤16) && (decide (3≤t.at_) || decide (t.sub = [])) && decide (0≤t.Bv) && decide (t.Bv≤200)
def Bk (t:AK):Bool:=CD 3 (fun i=>!t.PJ i) 3 && (!(!decide (t.us.at 2=0) || !decide (t.Gb.at 0=0)) && t.RZ)
def place (opt:Int):Int × Bool × Bool:=if decide (opt=1)=true then(0,true,false) else if decide (opt=3)=true then(1,true,true) else if decide (opt=31)=true then(2,false,true) else(-1,false,false)
def OQ (verb opt:Int):Ad:= [255,u8 verb,u8 opt]
def GP (was:Int)(on:Bool)(opt yes no:Int):Ad:=if (on && decide (was=0))=true then OQ yes opt else if (!on && decide (was=1))=true then OQ no opt else []
def cH (on:Bool):Int:=if on=true then 1 else 0
def Y5 (t:AK)(k:Int)(on:Bool):AK:={ t with us:=t.us.put k (cH on) }
def TW (t:AK)(k:Int)(on:Bool):AK:={ t with Gb:=t.Gb.put k (cH on) }
def Bm (t:AK)(verb opt:Int):AK × Ad:=
 let k:=(place opt).1
 if decide (verb=253)=true then(if (!(place opt).2.1)=true then(t,OQ 252 opt) else(t.Y5 k true,GP (t.us.at k) true opt 251 252))
 else if decide (verb=254)=true then(if (place opt).2.1=true then(t.Y5 k false,GP (t.us.at k) false opt 251 252) else(t,[]))
 else if decide (verb=251)=true then(if (!(place opt).2.2)=true then(t,OQ 254 opt) else(t.TW k true,GP (t.Gb.at k) true opt 253 254))
 else if decide (verb=252)=true then(if (place opt).2.2=true then(t.TW k false,GP (t.Gb.at k) false opt 253 254) else(t,[]))
 else(t,[])
def collect (t:AK)(b:UInt8):AK:=if decide ((t.sub.length:Int) < 16)=true then { t with sub:=t.sub ++ [b] } else t
def VT (s:Ad)(i:Int):Int:=((s.getD i.toNat 0).toNat:Int)
def measure (t:AK):AK:=
 if (decide ((t.sub.length:Int)=5) && decide (VT t.sub 0=31) && decide (t.Gb.at 2=1))=true then { t with Bv:=min (VT t.sub 3 * 256+VT t.sub 4) 200 } else t
def step (t:AK)(b:UInt8):AK × Ad × Ad:=
  let c:Int:=(b.toNat:Int)
  if decide (t.at_=0)=true then(if decide (c=255)=true then({ t with at_:=1 },[],[]) else(t,[b],[]))
  else if decide (t.at_=1)=true then
    (if decide (c=255)=true then({ t with at_:=0 },[b],[])
     else if decide (c=250)=true then({ t with at_:=3 },[],[])
     else if decide (251≤c)=true then({ t with at_:=2,verb:=c },[],[])
     else({ t with at_:=0 },[],[]))
  else if decide (t.at_=2)=true then({ (t.Bm t.verb c).1 with at_:=0,verb:=0 },[],(t.Bm t.verb c).2)
  else if decide (t.at_=3)=true then(if decide (c=255)=true then({ t with at_:=4 },[],[]) else(t.collect b,[],[]))
  else if decide (t.at_=4)=true then
    (if decide (c=255)=true then(collect { t with at_:=3 } b,[],[])
     else if decide (c=240)=true then({ t.measure with at_:=0,sub:= [] },[],[])
     else({ t with at_:=0,sub:= [] },[],[]))
  else(t,[],[])
def feed:AK→Ad→AK × Ad × Ad
 | t,[]=>(t,[],[])
 | t,b :: s=>((feed (t.step b).1 s).1,(t.step b).2.1++(feed (t.step b).1 s).2.1,(t.step b).2.2++(feed (t.step b).1 s).2.2)
def DA (t:AK)(s:Ad):AK × Ad × Ad × Int:=if (!t.Bk)=true then(t,[],[],2) else((t.feed s).1,(t.feed s).2.1,(t.feed s).2.2,0)
def Da (t:AK)(opt:Int):AK × Ad × Int:=
 if (!t.Bk)=true then(t,[],2) else if (!(place opt).2.1)=true then(t,[],3) else if (!decide (t.us.at (place opt).1=0))=true then(t,[],0)
 else({ t with us:=t.us.put (place opt).1 2 },OQ 251 opt,0)
def Ask (t:AK)(opt:Int):AK × Ad × Int:=
 if (!t.Bk)=true then(t,[],2) else if (!(place opt).2.2)=true then(t,[],3) else if (!decide (t.Gb.at (place opt).1=0))=true then(t,[],0)
 else({ t with Gb:=t.Gb.put (place opt).1 2 },OQ 253 opt,0)
theorem PM {opt:Int}(h:(place opt).2.1=true):(opt=1∧place opt=(0,true,false))∨(opt=3∧place opt=(1,true,true)):=by
 unfold place at *
 repeat' split at h
 all_goals simp_all
theorem Lu {opt:Int}(h:(place opt).2.2=true):(opt=3∧place opt=(1,true,true))∨(opt=31∧place opt=(2,false,true)):=by
 unfold place at *
 repeat' split at h
 all_goals simp_all
theorem Qw (w:Int)(on:Bool)(o y n:Int):(GP w on o y n).length≤3:=by
 unfold GP OQ;repeat' split
 all_goals simp
theorem Iy (t:AK)(v o:Int):(t.Bm v o).2.length≤3:=by
 unfold Bm;dsimp only
 repeat' split
 all_goals try exact Qw _ _ _ _ _
 all_goals try simp [OQ]
 all_goals exact Qw _ _ _ _ _
theorem Qr (t:AK)(v o:Int):(t.Bm v o).1.sub=t.sub:=by
 unfold Bm;dsimp only
 repeat' split
 all_goals rfl
theorem S0 (t:AK)(b:UInt8)(h:t.sub.length≤16):(t.collect b).sub.length≤16:=by
 unfold collect;split
 ·rename_i h1;simp at h1 ⊢;omega
 ·exact h
theorem ZS (t:AK)(b:UInt8)(h:t.sub.length≤16):(t.step b).1.sub.length≤16:=by
 unfold step;dsimp only
 repeat' split
 all_goals first | exact h | exact S0 _ _ h | (simp;done) | (rw [Qr];exact h)
theorem TF (t:AK)(b:UInt8):(t.step b).2.1.length≤1∧(t.step b).2.2.length≤3:=by
 unfold step;dsimp only
 repeat' split
 all_goals first | (simp;done) | (exact⟨by simp,Iy _ _ _⟩)
structure KY (X:AK)(u:Ad)(k:Int)(t:AK)(x y:Ad):Prop where
 k0:0≤k
 k1:k≤u.length
 sub:t.sub.length≤16
 xl:(x.length:Int)≤k
 yl:(y.length:Int)≤3 * k
 e1:(X.feed u).1=(t.feed (u.drop k.toNat)).1
 e2:(X.feed u).2.1=x++(t.feed (u.drop k.toNat)).2.1
 e3:(X.feed u).2.2=y++(t.feed (u.drop k.toNat)).2.2
theorem XO {u:Ad}{k:Int}(h0:0≤k)(h1:k < u.length):u.drop k.toNat=u.getD k.toNat 0 :: u.drop (k+1).toNat:=by
 have hk:k.toNat < u.length:=by omega
 rw [List.drop_eq_getElem_cons hk,show(k+1).toNat=k.toNat+1 by omega]
 simp [List.getD,hk]
theorem KY.start {X:AK}{u:Ad}(h:X.sub.length≤16):KY X u 0 X [] []:=⟨by omega,by omega,h,by simp,by simp,rfl,rfl,rfl⟩
theorem KY.next {X t t':AK}{u x y x' y':Ad}{k:Int}(h:KY X u k t x y)(hk:k < u.length)(ht:t'=(t.step (u.getD k.toNat 0)).1)(hx:x'=x++(t.step (u.getD k.toNat 0)).2.1)(hy:y'=y++(t.step (u.getD k.toNat 0)).2.2):KY X u (k+1) t' x' y':=by
 have hd:=XO h.k0 hk
 have hl:=TF t (u.getD k.toNat 0)
 have h1:=h.xl
 have h2:=h.yl
 have h0:=h.k0
 subst ht;subst hx;subst hy
 refine⟨by omega,by omega,ZS _ _ h.sub,by simp only [List.length_append];omega,by simp only [List.length_append];omega,?_,?_,?_⟩
 ·rw [h.e1,hd];rfl
 ·rw [h.e2,hd,List.append_assoc];rfl
 ·rw [h.e3,hd,List.append_assoc];rfl
theorem KY.done {X t:AK}{u x y:Ad}{k:Int}(h:KY X u k t x y)(hk:¬ k < u.length):X.feed u=(t,x,y):=by
 have h1:=h.k1
 have hk':k.toNat=u.length:=by omega
 have e1:=h.e1
 have e2:=h.e2
 have e3:=h.e3
 rw [hk',List.drop_length] at e1 e2 e3
 simp only [feed,List.append_nil] at e1 e2 e3
 rw [← e1,← e2,← e3]
theorem ZM {t:AK}(h:t.Bk=true):t.sub.length≤16:=by
 simp only [Bk,RZ,Bool.and_eq_true,decide_eq_true_eq] at h
 omega
theorem QH {xs:List Int}{k:Nat}(h:k < xs.length):xs.getD k 0∈xs:=by
 simp [List.getD,h]
end AK
end Go.Ing
/- The plain laws of the telnet codec. -/
namespace Go.Ing
open Go
theorem H3 {α:Type}[Inhabited α]{n:Nat}(v:Vector α n)(k i:Int)(x:α)(hk:0≤k)(hk':k < n)(hi:0≤i):(v.put k x).at i=if i=k then x else v.at i:=by
 simp only [Vector.at,Vector.put,Vector.toList_setIfInBounds,List.getD_eq_getElem?_getD,List.getElem?_set,Vector.length_toList]
 by_cases h:k.toNat=i.toNat
 ·rw [if_pos h,if_pos (by omega),if_pos (by omega)];rfl
 ·rw [if_neg h,if_neg (by omega)]
namespace AK
theorem Il (t:AK)(a b:Ad):t.feed (a++b)=(((t.feed a).1.feed b).1,(t.feed a).2.1++((t.feed a).1.feed b).2.1,(t.feed a).2.2++((t.feed a).1.feed b).2.2):=by
 induction a generalizing t with
 | nil=>simp [feed]
 | cons c a ih=>simp only [List.cons_append,feed,ih,List.append_assoc]
def jm (t:AK):Prop:=(0≤t.us.at 0∧t.us.at 0≤2∧0≤t.us.at 1∧t.us.at 1≤2∧t.us.at 2=0)∧(t.Gb.at 0=0∧0≤t.Gb.at 1∧t.Gb.at 1≤2∧0≤t.Gb.at 2∧t.Gb.at 2≤2)
def okB (t:AK):Prop:=0≤t.at_∧t.at_≤4∧(t.at_=2↔t.verb≠0)∧(t.verb=0∨251≤t.verb∧t.verb≤254)∧t.sub.length≤16∧(3≤t.at_∨t.sub = [])∧0≤t.Bv∧t.Bv≤200
theorem H8 (t:AK):t.Bk=true↔t.jm∧t.okB:=by
 have e:t.RZ=true↔t.okB:=by
  simp only [RZ,okB,Bool.and_eq_true,decide_eq_true_eq,Bool.or_eq_true,beq_iff_eq]
  have:(decide (t.at_=2)=!decide (t.verb=0))↔(t.at_=2↔t.verb≠0):=by
   by_cases h1:t.at_=2<;>by_cases h2:t.verb=0<;>simp [h1,h2]
  rw [this]
  constructor
  ·rintro ⟨⟨⟨⟨⟨⟨⟨h1,h2⟩,h3⟩,h4⟩,h5⟩,h6⟩,h7⟩,h8⟩;exact⟨h1,h2,h3,h4,by omega,h6,h7,h8⟩
  ·rintro ⟨h1,h2,h3,h4,h5,h6,h7,h8⟩;exact⟨⟨⟨⟨⟨⟨⟨h1,h2⟩,h3⟩,h4⟩,by omega⟩,h6⟩,h7⟩,h8⟩
 rw [← e]
 simp only [Bk,CD,PJ,jm,Bool.and_eq_true]
 simp
 generalize t.RZ=g
 constructor
 ·intro h;exact⟨by omega,h.2.2⟩
 ·intro h;exact⟨by omega,by omega,h.2⟩
theorem S1 (u:Ad):∀ t:AK,(t.feed u).2.1.length≤u.length∧(t.feed u).2.2.length≤3 * u.length:=by
 induction u with
 | nil=>intro t;simp [feed]
 | cons b u ih=>
  intro t
  have h1:=TF t b
  have h2:=ih (t.step b).1
  simp only [feed,List.length_append,List.length_cons]
  omega
theorem aS (t:AK)(u:Ad):(t.DA u).2.1.length≤u.length∧(t.DA u).2.2.1.length≤3 * u.length:=by
 unfold DA
 split
 ·simp
 ·exact S1 u t
/-! #### the document's answer -/
/-! #### answers to answers come to an end -/
def ends:Nat→AK→AK→Ad→Bool
 | 0,_,_,_=>false
 | n+1,t,u,s=>
  if decide ((t.DA s).2.2.1 = [])=true then decide ((t.DA s).2.2.2=0) && true
  else if (!decide ((t.DA s).2.2.2=0) || !decide ((u.DA (t.DA s).2.2.1).2.2.2=0))=true then false
  else if decide ((u.DA (t.DA s).2.2.1).2.2.1 = [])=true then true
  else ends n (t.DA s).1 (u.DA (t.DA s).2.2.1).1 (u.DA (t.DA s).2.2.1).2.2.1
def calm (t:AK):AK:={ t with at_:=0,verb:=0,sub:= [] }
theorem Tc {t:AK}(h:t.at_≠2)(b:UInt8):(t.step b).2.2 = []:=by
 unfold step;dsimp only
 repeat' split
 all_goals simp_all
theorem SR (t:AK)(x y v o:Int):({ t with at_:=x,verb:=y }:AK).Bm v o=({ (t.Bm v o).1 with at_:=x,verb:=y },(t.Bm v o).2):=by
 unfold Bm;dsimp only
 repeat' split
 all_goals rfl
theorem en (b:UInt8):u8 (b.toNat:Int)=b:=by simp [u8]
theorem aj {t:AK}{v:Int}{o:UInt8}(hv:251≤v∧v≤254)(h0:t.at_=0):t.feed (OQ v (o.toNat:Int))=({ (t.Bm v (o.toNat:Int)).1 with at_:=0,verb:=0 },[],(t.Bm v (o.toNat:Int)).2):=by
 have e1:t.step 255=({ t with at_:=1 },[],[]):=by simp [step,h0]
 have ev:=Sh (n:=v) (by omega) (by omega)
 have e2:({ t with at_:=1 }:AK).step (u8 v)=({ t with at_:=2,verb:=v },[],[]):=by
  have h1:¬ v=255:=by omega
  have h2:¬ v=250:=by omega
  simp [step,ev,h1,h2,hv.1]
 have e3:({ t with at_:=2,verb:=v }:AK).step o=({ (t.Bm v (o.toNat:Int)).1 with at_:=0,verb:=0 },[],(t.Bm v (o.toNat:Int)).2):=by
  have:=SR t 2 v v (o.toNat:Int)
  simp [step,this]
 simp only [OQ,en,feed,e1,e2,e3,List.append_nil,List.nil_append]
end AK
end Go.Ing
/- The plain functions of lines. -/
namespace Go.Ing
open Go
namespace Bh
def FP (b:UInt8):Bool:=decide (32≤(b.toNat:Int)) && decide ((b.toNat:Int) < 127)
def GX (s:Ad):Bool:=!decide (60 < (s.length:Int)) && s.all FP
def Ju (l:BR):Bool:=decide (60 < (l.now.length:Int)) || decide (6 < (l.queue.len:Int)) || (l.long && decide (60 < (l.now.length:Int))) || (l.ret && (!decide (l.now = []) || l.long))
def Bk (l:BR)(qs:List Ad):Bool:=!Ju l && (qs ++ [l.now]).all GX
structure S where
 now:Ad
 long:Bool
 ret:Bool
 queue:List Ad
 lost:Int
 deriving DecidableEq
def step (x:S)(b:UInt8):S:=
 let c:Int:=(b.toNat:Int)
 if (x.ret && (decide (c=10) || decide (c=0)))=true then { x with ret:=false }
 else if (decide (c=13) || decide (c=10))=true then
  (if decide ((x.queue.length:Int) < 6)=true then { x with queue:=x.queue ++ [x.now],now:= [],long:=false,ret:=decide (c=13) } else { x with lost:=x.lost+1,now:= [],long:=false,ret:=decide (c=13) })
 else if (decide (c=8) || decide (c=127))=true then(if decide (0 < (x.now.length:Int))=true then { x with now:=x.now.take ((x.now.length:Int) - 1).toNat,ret:=false } else { x with ret:=false })
 else if (!FP b)=true then { x with ret:=false }
 else if decide (60≤(x.now.length:Int))=true then { x with long:=true,ret:=false }
 else { x with now:=x.now ++ [b],ret:=false }
def feed (x:S)(s:Ad):S:=s.foldl step x
def start (l:BR)(qs:List Ad):S:=⟨l.now,l.long,l.ret,qs,0⟩
structure I (x0:S)(u:Ad)(k:Int)(x:S):Prop where
 k0:0≤k
 k1:k≤u.length
 now:x.now.length≤60
 queue:x.queue.length≤6
 lost:0≤x.lost∧x.lost≤k
 e:feed x0 u=feed x (u.drop k.toNat)
theorem Z6 {x:S}(b:UInt8)(h:x.now.length≤60):(step x b).now.length≤60:=by
 unfold step;dsimp only
 repeat' split
 all_goals first | exact h | (simp;done) | (simp;omega) | (rename_i h1 _;simp at *;omega) | skip
 all_goals simp_all
 all_goals omega
theorem Uk {x:S}(b:UInt8)(h:x.queue.length≤6):(step x b).queue.length≤6:=by
 unfold step;dsimp only
 repeat' split
 all_goals first | exact h | (simp at *;omega)
theorem Xj (x:S)(b:UInt8):x.lost≤(step x b).lost∧(step x b).lost≤x.lost+1:=by
 unfold step;dsimp only
 repeat' split
 all_goals (constructor<;>dsimp only<;>omega)
theorem I.start {x:S}{u:Ad}(h1:x.now.length≤60)(h2:x.queue.length≤6)(h3:x.lost=0):I x u 0 x:=⟨by omega,by omega,h1,h2,by omega,rfl⟩
theorem I.next {x0 x:S}{u:Ad}{k:Int}(h:I x0 u k x)(hk:k < u.length){now:Ad}{long ret:Bool}{queue:List Ad}{lost:Int}(hs:step x (u.getD k.toNat 0)=⟨now,long,ret,queue,lost⟩):I x0 u (k+1) ⟨now,long,ret,queue,lost⟩:=by
 have h0:=h.k0
 have hk':k.toNat < u.length:=by omega
 have hd:u.drop k.toNat=u.getD k.toNat 0 :: u.drop (k+1).toNat:=by
  rw [List.drop_eq_getElem_cons hk',show(k+1).toNat=k.toNat+1 by omega]
  simp [List.getD,hk']
 have hl:=Xj x (u.getD k.toNat 0)
 have hl':=h.lost
 have hn:=Z6 (u.getD k.toNat 0) h.now
 have hq:=Uk (u.getD k.toNat 0) h.queue
 rw [hs] at hl hn hq
 refine⟨by omega,by omega,hn,hq,by dsimp only at *;omega,?_⟩
 rw [h.e,hd,← hs];rfl
theorem I.done {x0 x:S}{u:Ad}{k:Int}(h:I x0 u k x)(hk:¬ k < u.length):feed x0 u=x:=by
 have h1:=h.k1
 have hk':k.toNat=u.length:=by omega
 rw [h.e,hk',List.drop_length];rfl
theorem YD {l:BR}{qs:List Ad}(h:Bk l qs=true):l.now.length≤60∧l.queue.len≤6:=by
 simp only [Bk,Ju,Bool.and_eq_true,Bool.not_eq_true',Bool.or_eq_false_iff,decide_eq_false_iff_not] at h
 omega
theorem FX {α:Type}{p:α→Bool}{xs:List α}{k:Int}{d:α}(h0:0≤k)(h1:k < xs.length):(xs.drop k.toNat).all p=(p (xs.getD k.toNat d) && (xs.drop (k+1).toNat).all p):=by
 have hk':k.toNat < xs.length:=by omega
 rw [List.drop_eq_getElem_cons hk',show(k+1).toNat=k.toNat+1 by omega,List.all_cons]
 simp [List.getD,hk']
/-! #### what is said of lines -/
structure Ok (x:S):Prop where
 now:GX x.now=true
 queue:∀ s∈x.queue,GX s=true
 len:x.queue.length≤6
 ret:x.ret=true→x.now = []∧x.long=false
theorem Gu (s:Ad):GX s=true↔s.length≤60∧∀ b∈s,FP b=true:=by
 simp only [GX,Bool.and_eq_true,Bool.not_eq_true',decide_eq_false_iff_not,List.all_eq_true]
 constructor
 ·rintro ⟨h1,h2⟩;exact⟨by omega,h2⟩
 ·rintro ⟨h1,h2⟩;exact⟨by omega,h2⟩
theorem NO:GX []=true:=rfl
theorem H8 {l:BR}{qs:List Ad}(hl:l.queue.len=qs.length):Bk l qs=true↔Ok (start l qs):=by
 simp only [Bk,Ju,Bool.and_eq_true,Bool.not_eq_true',Bool.or_eq_false_iff,decide_eq_false_iff_not,List.all_append,List.all_cons,List.all_nil,Bool.and_true,List.all_eq_true]
 constructor
 ·rintro ⟨⟨⟨⟨h1,h2⟩,h3⟩,h4⟩,h5,h6⟩
  refine⟨h6,h5,by show qs.length≤6;omega,fun h=>?_⟩
  have h:l.ret=true:=h
  rw [h] at h4
  simp at h4
  exact h4
 ·rintro ⟨h1,h2,h3,h4⟩
  have h3:qs.length≤6:=h3
  have h5:=((Gu _).1 h1).1
  have h5:l.now.length≤60:=h5
  refine⟨⟨⟨⟨by omega,by omega⟩,?_⟩,?_⟩,h2,h1⟩
  ·cases l.long<;>simp;omega
  ·have h4:l.ret=true→l.now = []∧l.long=false:=h4
   cases hr:l.ret with
   | false=>rfl
   | true=>obtain⟨a,b⟩:=h4 hr;simp [a,b]
theorem cO {x:S}(h:Ok x)(b:UInt8):Ok (step x b):=by
 obtain⟨h1,h2,h3,h4⟩:=h
 have h1':=(Gu _).1 h1
 unfold step;dsimp only
 repeat' split
 all_goals try simp only [decide_eq_true_eq,Bool.not_eq_true',Bool.or_eq_true] at *
 ·exact⟨h1,h2,h3,fun h=>by cases h⟩
 ·rename_i hq
  refine⟨NO,fun s hs=>?_,by show(x.queue ++ [x.now]).length≤6;rw [List.length_append,List.length_singleton];omega,fun _=>⟨rfl,rfl⟩⟩
  rcases List.mem_append.1 hs with hs | hs
  ·exact h2 s hs
  ·simp at hs;subst hs;exact h1
 ·exact⟨NO,h2,h3,fun _=>⟨rfl,rfl⟩⟩
 ·refine⟨(Gu _).2 ⟨?_,fun c hc=>h1'.2 c (List.mem_of_mem_take hc)⟩,h2,h3,fun h=>by cases h⟩
  have:=h1'.1
  show(x.now.take _).length≤60
  rw [List.length_take];omega
 ·exact⟨h1,h2,h3,fun h=>by cases h⟩
 ·exact⟨h1,h2,h3,fun h=>by cases h⟩
 ·exact⟨h1,h2,h3,fun h=>by cases h⟩
 ·rename_i hp hl
  refine⟨(Gu _).2 ⟨by show(x.now ++ [b]).length≤60;rw [List.length_append,List.length_singleton];omega,fun c hc=>?_⟩,h2,h3,fun h=>by cases h⟩
  rcases List.mem_append.1 hc with hc | hc
  ·exact h1'.2 c hc
  ·simp at hc;subst hc;simpa using hp
theorem Wa (u:Ad):∀ {x:S},Ok x→Ok (feed x u):=by
 induction u with
 | nil=>intro x h;exact h
 | cons b u ih=>intro x h;exact ih (cO h b)
theorem Il (x:S)(a b:Ad):feed x (a++b)=feed (feed x a) b:=List.foldl_append ..
def more (x:S)(d:Int):S:={ x with lost:=x.lost+d }
def val (x:S)(h:Hd):BR:=⟨x.now,x.long,x.ret,h⟩
theorem iH {α:Type}{xs ys:List α}{i:Nat}(hl:xs.length=ys.length)(ht:xs.take i=ys.take i)(hi:¬ i < xs.length):xs=ys:=by
 rw [List.take_of_length_le (by omega),List.take_of_length_le (by omega)] at ht;exact ht
theorem K8 {α:Type}{xs ys:List α}{i:Int}{d:α}(h0:0≤i)(hl:xs.length=ys.length)(hi:i < xs.length)(ht:xs.take i.toNat=ys.take i.toNat)(he:xs.getD i.toNat d=ys.getD i.toNat d):xs.take (i+1).toNat=ys.take (i+1).toNat:=by
 have h1:i.toNat < xs.length:=by omega
 have h2:i.toNat < ys.length:=by omega
 rw [show(i+1).toNat=i.toNat+1 by omega,List.take_succ_eq_append_getElem h1,List.take_succ_eq_append_getElem h2,ht]
 simp only [List.getD,List.getElem?_eq_getElem h1,List.getElem?_eq_getElem h2,Option.getD_some] at he
 rw [he]
theorem Vg {α:Type}{xs ys:List α}{i:Nat}{d:α}(h:xs.getD i d≠ys.getD i d):xs≠ys:=fun e=>h (by rw [e])
theorem Wy {qs:List Ad}(h:qs.length≠0):∃ q r,qs=q :: r:=by
 cases qs with
 | nil=>simp at h
 | cons q r=>exact⟨q,r,rfl⟩
/-! #### text that is typed -/
theorem Xy {b:UInt8}(h:FP b=true):32≤(b.toNat:Int)∧(b.toNat:Int) < 127:=by
 simpa [FP] using h
theorem Uw {x:S}{b:UInt8}(h:FP b=true)(hn:x.now.length < 60):step x b={ x with now:=x.now ++ [b],ret:=false }:=by
 have hb:=Xy h
 have e1:decide ((b.toNat:Int)=10)=false:=decide_eq_false (by omega)
 have e2:decide ((b.toNat:Int)=0)=false:=decide_eq_false (by omega)
 have e3:decide ((b.toNat:Int)=13)=false:=decide_eq_false (by omega)
 have e4:decide ((b.toNat:Int)=8)=false:=decide_eq_false (by omega)
 have e5:decide ((b.toNat:Int)=127)=false:=decide_eq_false (by omega)
 have e6:decide (60≤(x.now.length:Int))=false:=decide_eq_false (by omega)
 simp only [step,e1,e2,e3,e4,e5,e6,h]
 simp
theorem U3 (s:Ad):∀ x:S,(∀ b∈s,FP b=true)→x.now.length+s.length≤60→s≠ []→feed x s={ x with now:=x.now++s,ret:=false }:=by
 induction s with
 | nil=>intro x _ _ h;exact absurd rfl h
 | cons b s ih=>
  intro x hp hl _
  rw [List.length_cons] at hl
  show feed (step x b) s=_
  rw [Uw (hp b (by simp)) (by omega)]
  cases s with
  | nil=>rfl
  | cons c s=>
   rw [ih _ (fun d hd=>hp d (by simp [hd])) (by simp at hl ⊢;omega) (by simp)]
   simp
def de:BR:=⟨[],false,false,⟨none,0,0⟩⟩
def s0:S:=start de []
def Ends (W:Ad):Prop:=W = [13,10]∨W = [10]∨W = [13,0]∨W = [13]
structure Xo (W:Ad)(x:S)(q:List Ad):Prop where
 now:x.now = []
 long:x.long=false
 ret:x.ret=true→W = [13]
 queue:x.queue=q
 lost:x.lost=0
theorem Tu {W:Ad}(hW:Ends W){x:S}{q:List Ad}(hq:q.length < 6){s:Ad}(hn:x.now=s)(hl:x.long=false)(hr:x.ret=true→W = [13]∧s = [])(hx:x.queue=q)(h0:x.lost=0):Xo W (feed x W) (q ++ [s]):=by
 have hc:decide ((x.queue.length:Int) < 6)=true:=decide_eq_true (by rw [hx];omega)
 obtain⟨n,l,r,qq,lo⟩:=x
 simp only at hn hl hr hx h0 hc
 subst hn;subst hl;subst hx;subst h0
 have h13:((13:UInt8).toNat:Int)=13:=rfl
 have h10:((10:UInt8).toNat:Int)=10:=rfl
 have h00:((0:UInt8).toNat:Int)=0:=rfl
 have e13:step ⟨n,false,r,qq,0⟩ 13=⟨[],false,true,qq ++ [n],0⟩:=by
  simp only [step,h13,hc];simp
 have e10:r=false→step ⟨n,false,r,qq,0⟩ 10=⟨[],false,false,qq ++ [n],0⟩:=by
  intro hr;subst hr
  simp only [step,h10,hc];simp
 rcases hW with rfl | rfl | rfl | rfl
 ·have:feed ⟨n,false,r,qq,0⟩ [13,10]=⟨[],false,false,qq ++ [n],0⟩:=by
   show step (step _ 13) 10=_
   rw [e13];simp [step,h10]
  rw [this];exact⟨rfl,rfl,fun h=>(by cases h),rfl,rfl⟩
 ·have hr':r=false:=by
   cases r with
   | false=>rfl
   | true=>have:=(hr rfl).1;simp at this
  have:feed ⟨n,false,r,qq,0⟩ [10]=⟨[],false,false,qq ++ [n],0⟩:=e10 hr'
  rw [this];exact⟨rfl,rfl,fun h=>(by cases h),rfl,rfl⟩
 ·have:feed ⟨n,false,r,qq,0⟩ [13,0]=⟨[],false,false,qq ++ [n],0⟩:=by
   show step (step _ 13) 0=_
   rw [e13];simp [step,h00]
  rw [this];exact⟨rfl,rfl,fun h=>(by cases h),rfl,rfl⟩
 ·have:feed ⟨n,false,r,qq,0⟩ [13]=⟨[],false,true,qq ++ [n],0⟩:=e13
  rw [this];exact⟨rfl,rfl,fun _=>rfl,rfl,rfl⟩
theorem X7 {W:Ad}(hW:Ends W){x:S}{q:List Ad}(h:Xo W x q)(hq:q.length < 6){s:Ad}(hs:GX s=true):Xo W (feed x (s++W)) (q ++ [s]):=by
 obtain⟨h1,h2⟩:=(Gu s).1 hs
 rw [Il]
 cases s with
 | nil=>exact Tu hW hq h.now h.long (fun hr=>⟨h.ret hr,rfl⟩) h.queue h.lost
 | cons b s=>
  rw [U3 _ _ h2 (by rw [h.now];simpa using h1) (by simp)]
  exact Tu hW hq (by simp [h.now]) h.long (fun hr=>by cases hr) h.queue h.lost
def pick (k n:Int):Int:=k.tmod n+if k.tmod n < 0 then n else 0
def typed (W:Ad)(qs:List Ad):Ad:=qs.flatMap (·++ W)
theorem U5 {W:Ad}(hW:Ends W)(qs:List Ad):∀(x:S) (q:List Ad),Xo W x q→q.length+qs.length≤6→(∀ s∈qs,GX s=true)→Xo W (feed x (typed W qs)) (q++qs):=by
 induction qs with
 | nil=>intro x q h _ _;simpa [typed,feed] using h
 | cons s qs ih=>
  intro x q h hl hs
  rw [List.length_cons] at hl
  have h1:=X7 hW h (by omega) (hs s (by simp))
  have h2:=ih _ _ h1 (by simp;omega) (fun t ht=>hs t (by simp [ht]))
  have e:typed W (s :: qs)=(s++W)++typed W qs:=rfl
  rw [e,Il]
  simpa using h2
theorem whole {W:Ad}(hW:Ends W){qs:List Ad}(hl:qs.length≤6)(hs:∀ s∈qs,GX s=true):Xo W (feed s0 (typed W qs)) qs:=by
 have:=U5 hW qs s0 [] ⟨rfl,rfl,fun h=>(by cases h),rfl,rfl⟩ (by simpa using hl) hs
 simpa using this
/-! #### the document's -/
end Bh
end Go.Ing
/- Engine, part 14: the library's own entries; slices that came in or are the call's own. -/
namespace Go.Ing
open Go
section
variable {P:Program} {n:Nat} {w0:World} {M:List Nat} {Q:Exit→Go.Act→World→Prop} {F F':List (Nat × Value)} {L L':List Ab} {ops:Array Oper} {rest:List Oper}
theorem Mu {U:TypeId}{ts:Array TypeId}{x:Operand}{T E:TypeId}{p:Option Addr}{l c:Nat}(ht:ts[0]?=some U)(hu:P.underlying U=some (.slice E))(hx:ev F x=some (.slice p l c)):PS P n w0 M (.call ⟨.builtin .cap,#[x],ts⟩) T F L (.int .i64 c) L:=CR fun e w hF=>by
 simp [execOp,resolve,invoke,builtin,Builtin.cap_,ht,hF.ev hx,underlying,hu,goInt]
theorem aR {U E sz:TypeId}{ts:Array TypeId}{x y:Operand}{T:TypeId}{h:Hd}(ht:ts[0]?=some U)(hu:P.underlying U=some (.slice E))(hs:Sz P E sz)(hx:ev F x=some h.val)(hy:ev F y=some (.slice none 0 0)):PS P n w0 M (.call ⟨.builtin .copy,#[x,y],ts⟩) T F L (.int .i64 0) L:=CR fun e w hF=>by
 cases ha:h.a with
 | none=>simp [execOp,resolve,invoke,builtin,Builtin.copy_,ht,hF.ev hx,hF.ev hy,underlying,hu,goInt,Hd.val,Builtin.lenOf,Builtin.firstCells,hs w,ha,pure,ReaderT.pure]
 | some a=>simp [execOp,resolve,invoke,builtin,Builtin.copy_,ht,hF.ev hx,hF.ev hy,underlying,hu,goInt,Hd.val,Builtin.lenOf,Builtin.firstCells,hs w,ha,storeCells]
theorem Pv {f : FuncId} {fn : Func} {ex : Array Value → Sem Value} {ts : Array TypeId} {T : TypeId} {x y : Operand} {a b v : Value} (hf : P.funcs[f]? = some fn) (h1 : (fn.name == "runtime.NumGoroutine") = false) (h2 : fn.body.isNone = true) (h3 : Extern.findNext fn = none) (h4 : Extern.find fn = some ex) (hx : ev F x = some a) (hy : ev F y = some b)
  (hr:∀ w,(ex #[a,b]).run P w = .ok v w):PS P n w0 M (.call ⟨.value (.func f),#[x,y],ts⟩) T F L v L:=CR fun e w hF=>by
 have:=run_callFunc_extern hf h1 h2 h3 h4 #[a,b] w
 rw [hr] at this
 have hx':=hF.ev hx
 have hy':=hF.ev hy
 have hg:e.eval (.func f) = .func (.func f) #[] #[]:=rfl
 simp [execOp,resolve,Deferred.ofValue,invoke,hg,hx',hy',this]
theorem Wg (c:UInt8):((c.toNat:Int)).toNat.toUInt8=c:=by simp
theorem Oc {f : FuncId} {fn : Func} {ts : Array TypeId} {T : TypeId} {x y : Operand} {s : Ad} {c : UInt8} (hf : P.funcs[f]? = some fn) (h1 : (fn.name == "runtime.NumGoroutine") = false) (h2 : fn.body.isNone = true) (h3 : Extern.findNext fn = none) (h4 : Extern.find fn = some Extern.BytealgCount.count) (hx : ev F x = some (BW s)) (hy : ev F y = some (.int .u8 (c.toNat : Int))) :
  PS P n w0 M (.call ⟨.value (.func f),#[x,y],ts⟩) T F L (.int .i64 ((s.count c:Nat):Int)) L:=
 Pv hf h1 h2 h3 h4 hx hy fun w=>by
  have:=Lib.run_countString (P:=P) ⟨s.toArray⟩ (c.toNat:Int) w
  rw [Wg] at this
  exact this
theorem MK {f : FuncId} {fn : Func} {ts : Array TypeId} {T : TypeId} {x y : Operand} {s : Ad} {c : UInt8} (hf : P.funcs[f]? = some fn) (h1 : (fn.name == "runtime.NumGoroutine") = false) (h2 : fn.body.isNone = true) (h3 : Extern.findNext fn = none) (h4 : Extern.find fn = some Extern.BytealgIndexByte.indexByte) (hx : ev F x = some (BW s)) (hy : ev F y = some (.int .u8 (c.toNat : Int))) :
  PS P n w0 M (.call ⟨.value (.func f),#[x,y],ts⟩) T F L (.int .i64 (Lib.indexByte s c)) L:=
 Pv hf h1 h2 h3 h4 hx hy fun w=>by
  have:=Lib.run_indexByteString (P:=P) ⟨s.toArray⟩ (c.toNat:Int) w
  rw [Wg] at this
  exact this
theorem PE:∀(m t:Nat) (acc:Array Value),∃ xs:Ad,xs.length=m∧(Extern.BytealgMakeNoZero.digits m t acc).toList=acc.toList++xs.flatMap Di
 | 0,_,acc=>⟨[],rfl,by simp [Extern.BytealgMakeNoZero.digits]⟩
 | m+1,t,acc=>by
  obtain⟨xs,h1,h2⟩:=PE m (t / 256) (acc.push (.int .u8 (Int.ofNat (t % 256))))
  refine⟨(t % 256).toUInt8 :: xs,by simp [h1],?_⟩
  rw [Extern.BytealgMakeNoZero.digits,h2]
  have:((t % 256).toUInt8.toNat:Int)=Int.ofNat (t % 256):=by
   simp
  simp [Di,this]
theorem TC {d : Nat} {f : FuncId} {fn : Func} {ps : Array TypeId} {t E : TypeId} {ts : Array TypeId} {T : TypeId} {pos : String} {Cu : Array Edge} {x : Operand} {m : Int} (hd : Nat.blt d n = true) (hf : P.funcs[f]? = some fn) (h1 : (fn.name == "runtime.NumGoroutine") = false) (h2 : fn.body.isNone = true) (h3 : Extern.findNext fn = none)
  (h4:Extern.find fn=some (Extern.BytealgMakeNoZero.makeNoZero ps #[t])) (hu:P.underlying t=some (.slice E)) (hs:Sz P E 1) (hx:ev F x=some (.int .i64 m)) (h0:0≤m) (hm:m≤281474976710656)
  (k:∀(b cap:Nat) (xs:Ad),xs.length=m.toNat→m.toNat≤cap→GL P n w0 M ops Q rest ((d,Hd.val ⟨some ⟨b,0,none⟩,m.toNat,cap⟩) :: F) (Ab.own ⟨some ⟨b,0,none⟩,m.toNat,cap⟩ E 1 (xs.flatMap Di) :: L)):GL P n w0 M ops Q (⟨some d, .call ⟨.value (.func f),#[x],ts⟩,T,pos,Cu,none⟩ :: rest) F L:=by
 refine GU (R:=fun v L'=>∃(b cap:Nat) (xs:Ad),v=Hd.val ⟨some ⟨b,0,none⟩,m.toNat,cap⟩∧L'=Ab.own ⟨some ⟨b,0,none⟩,m.toNat,cap⟩ E 1 (xs.flatMap Di) :: L∧xs.length=m.toNat∧m.toNat≤cap) hd ?_ (fun v L' ⟨b,cap,xs,e1,e2,e3,e4⟩=>by subst e1;subst e2;exact k b cap xs e3 e4)
 intro a w hF hS
 obtain⟨N,rfl⟩:=Int.eq_ofNat_of_zero_le h0
 have hN:N≤281474976710656:=by omega
 let cap:=(Question.appendCap N 0 E).cut (w.tape w.drawn (Question.appendCap N 0 E))
 have hcap:N≤cap:=Nat.le_add_right _ _
 let t' := (Question.extern "internal/bytealg.MakeNoZero.bytes" 0).cut (w.tape (w.drawn + 1) (.extern "internal/bytealg.MakeNoZero.bytes" 0))
 obtain⟨ys,hy1,hy2⟩:=PE cap t' #[]
 have hrun:(Extern.BytealgMakeNoZero.makeNoZero ps #[t] #[.int .i64 N]).run P w = .ok (.slice (some ⟨w.heap.size,0,none⟩) N cap) (w.drew.drew.alloc (.cells (ys.flatMap Di).toArray E)):=by
  have hdef:Extern.BytealgMakeNoZero.makeNoZero ps #[t] #[.int .i64 N] =
   (do
    let .slice elem ← underlying t | stuck "bytealg.MakeNoZero: slice type expected"
    if (N : Int) < 0 || (N : Int) > 2 ^ 48 then runtimePanic (.error "makeslice: len out of range")
    let cap ← choose (.appendCap (N:Int).toNat 0 elem)
    askRoom cap
    let bytes ← choose (.extern "internal/bytealg.MakeNoZero.bytes" 0)
    let a ← newRow elem (Extern.BytealgMakeNoZero.digits cap bytes #[])
    pure (.slice (some a) (N:Int).toNat cap)):=rfl
  have g1:¬ (N:Int) < 0:=by omega
  have g2:¬ (281474976710656:Int) < (N:Int):=by omega
  have hdig:Extern.BytealgMakeNoZero.digits cap t' #[]=(ys.flatMap Di).toArray:=by
   apply Array.ext';rw [hy2];simp
  rw [hdef]
  simp [run_underlying hu,g1,g2,Question.forced,newRow]
  exact⟨rfl,congrArg (fun c=>w.drew.drew.alloc (Obj.cells c E)) hdig⟩
 have hS1:St w0 M w.drew.drew L:=hS.drew _
 have hlen:(ys.flatMap Di).length=cap:=by rw [DD Ye.len,hy1,Nat.mul_one]
 have hw1:=hS1.alloc E (ys.flatMap Di)
 have hS':St w0 M (w.drew.drew.alloc (.cells (ys.flatMap Di).toArray E)) (Ab.own ⟨some ⟨w.heap.size,0,none⟩,N,cap⟩ E 1 ((ys.take N).flatMap Di) :: L):=by
  refine hw1.Dz (.head) rfl rfl rfl (Nat.le_refl _) (fun _ _ _=>rfl) ?_ (fun b hb=>?_)
  ·refine .inr ⟨w.heap.size,0,ys.flatMap Di,(0,0),rfl,by simp,?_,fun _ _ h=>by simp at h,?_,hcap,?_,?_⟩
   ·have:=hw1.ok _ (List.mem_cons_self ..)
    exact this
   ·show 0+cap * 1≤_;rw [hlen];omega
   ·show N * 1=_;rw [DD Ye.len,List.length_take,hy1,Nat.min_eq_left hcap]
   ·show((ys.flatMap Di).drop 0).take _=_
    rw [List.drop_zero]
    have e:=Ra Ye ys N
    rw [DD Ye.len,List.length_take,hy1,Nat.min_eq_left hcap]
    exact e
  ·simp [Ab.own] at hb
   subst hb
   exact⟨by simp, .inl (by simp [Ab.box])⟩
 refine⟨_,_,_,⟨w.heap.size,cap,ys.take N,rfl,rfl,by rw [List.length_take,hy1,Int.toNat_natCast];exact Nat.min_eq_left hcap,by simpa using hcap⟩,?_,hS'⟩
 have:=run_callFunc_extern hf h1 h2 h3 h4 #[.int .i64 N] w
 rw [hrun] at this
 have hx':=hF.ev hx
 have hg:a.eval (.func f) = .func (.func f) #[] #[]:=rfl
 simp [execOp,resolve,Deferred.ofValue,invoke,hg,hx',this,Hd.val]
def fK {α:Type}(T:Nat)(h:Hd)(xs:List α)(Ta:Nat)(a:Hd)(ys:List α)(Tg:Nat)(g:Hd)(zs:List α):Prop:=(T=Ta∧h=a∧xs=ys∧g=⟨none,0,0⟩∧zs = [])∨(T=Tg∧h=g∧zs=xs)
theorem fB {α:Type}{e:α→List Value}{T Ta Tg sz:Nat}{h a g:Hd}{xs ys zs:List α}(ho:fK T h xs Ta a ys Tg g zs)(ka:Kn w0 M L a Ta sz (ys.flatMap e))(kg:Kn w0 M L g Tg sz (zs.flatMap e)):Kn w0 M L h T sz (xs.flatMap e):=by
 rcases ho with ⟨rfl,rfl,rfl,_,_⟩ | ⟨rfl,rfl,rfl⟩
 ·exact ka
 ·exact kg
theorem gX {α:Type}{T Ta Tg:Nat}{h a g:Hd}{xs ys zs:List α}(ho:fK T h xs Ta a ys Tg g zs)(ka:Uh w0 M L a)(kg:Uh w0 M L g):Uh w0 M L h:=by
 rcases ho with ⟨rfl,rfl,rfl,_,_⟩ | ⟨rfl,rfl,rfl⟩
 ·exact ka
 ·exact kg
theorem HH {α:Type}{e:α→List Value}{d T U E sz:Nat}{x y:Operand}{pos:String}{Cu:Array Edge}{h:Hd}{xs:List α}{kd:IntKind}{i:Int}{Lf:Ab→List Ab}(fe:Flat e sz)(hd:Nat.blt d n=true)(hT:P.underlying T=some (.slice E))(hs:Sz P E sz)(hx:ev F x=some h.val)(hy:ev F y=some (.int kd i))(h0:0≤i)(h1:i≤(h.len:Int))(hU:∀ r,Lc L (Ab.own h E sz (xs.flatMap e)) r (Lf r))
  (k:GL P n w0 M ops Q rest ((d,(h.cut i.toNat h.len sz).val) :: F) (Lf (Ab.own (h.cut i.toNat h.len sz) E sz ((xs.drop i.toNat).flatMap e)))):GL P n w0 M ops Q (⟨some d, .slice T x (some y) none none,U,pos,Cu,none⟩ :: rest) F L:=by
 refine GU (R:=fun v L'=>v=(h.cut i.toNat h.len sz).val∧L'=Lf (Ab.own (h.cut i.toNat h.len sz) E sz ((xs.drop i.toNat).flatMap e))) hd ?_ (fun v L' ⟨e1,e2⟩=>by subst e1;subst e2;exact k)
 intro a w hF hS
 have hok:=hS.ok _ (hU ⟨[],fun _=>True,fun _ _ _ _=>trivial⟩).mem
 have hr:Rd w h E sz (xs.flatMap e):=Kn.own (M:=M) (hU ⟨[],fun _=>True,fun _ _ _ _=>trivial⟩).mem w hS
 have hcap:h.len≤h.cap:=by
  rcases hok with ⟨rfl,_⟩ | ⟨b,o,C,fz,e1,e2,e3,e4,e5,e6,_⟩
  ·exact Nat.le_refl _
  ·exact e6
 have hil:i.toNat≤h.len:=by omega
 have hlc:h.len * sz≤h.cap * sz:=Nat.mul_le_mul_right sz hcap
 have hll:i.toNat * sz≤h.len * sz:=Nat.mul_le_mul_right sz hil
 have hcs:((xs.flatMap e).take (h.len * sz)).drop (i.toNat * sz)=(xs.drop i.toNat).flatMap e:=by
  rw [hr.1,List.take_length]
  have:=MQ fe xs (l:=i.toNat) (r:=xs.length)
  rwa [List.take_length,← DD fe.len,List.take_length] at this
 have hlen:((xs.drop i.toNat).flatMap e).length=h.len * sz - i.toNat * sz:=by
  rw [← hcs,List.length_drop,List.length_take,← hr.1,Nat.min_self]
 refine⟨_,_,w,⟨rfl,rfl⟩,?_,?_⟩
 ·have hs':=hs w
  simp only [execOp,hF.ev hx,Option.map_some,Option.map_none,hF.ev hy,Hd.val,Instr.sliceAt,Instr.slice,underlying]
  simp [hT,Instr.sliceBounds,Instr.sliceBound,asIntOf,h1,h0,hs',Hd.cut]
 ·refine hS.Dz (hU _) rfl rfl rfl (Nat.le_refl _) (fun _ _ _=>rfl) ?_ ?_
  ·rcases hok with ⟨rfl,hn⟩ | ⟨b,o,C,fz,e1,e2,e3,e4,e5,e6,e7,e8⟩
   ·have:i.toNat=0:=by simp at hil;omega
    refine .inl ⟨by simp [Hd.cut,this],?_⟩
    rw [List.eq_nil_of_length_eq_zero (l:=(xs.drop i.toNat).flatMap e) (by rw [hlen];simp)]
   ·by_cases hci:h.cap=i.toNat
    ·have hli:h.len=i.toNat:=by omega
     refine .inr ⟨b,o,C,fz,by simp only [Hd.cut];rw [if_pos hci];exact e1,e2,e3,e4,?_,?_,?_,?_⟩
     ·simp only [Hd.cut];rw [hci,Nat.sub_self,Nat.zero_mul];omega
     ·simp only [Hd.cut];omega
     ·simp only [Hd.cut];rw [hlen,Nat.sub_mul]
     ·rw [hlen,List.eq_nil_of_length_eq_zero (l:=(xs.drop i.toNat).flatMap e) (by rw [hlen,hli];omega),hli];simp
    ·refine .inr ⟨b,o+i.toNat * sz,C,fz,by simp only [Hd.cut];rw [if_neg hci,e1];simp [Eo],e2,e3,fun j hj h=>e4 j (by omega) h,?_,?_,?_,?_⟩
     ·simp only [Hd.cut];rw [Nat.sub_mul];omega
     ·simp only [Hd.cut];omega
     ·simp only [Hd.cut];rw [hlen,Nat.sub_mul]
     ·have hX:xs.flatMap e=(C.drop o).take (h.len * sz):=by rw [hr.1];exact e8.symm
      have hY:(xs.drop i.toNat).flatMap e=((C.drop o).take (h.len * sz)).drop (i.toNat * sz):=by rw [← hcs,← hX,hr.1,List.take_length]
      rw [hlen,hY,List.drop_take,List.drop_drop]
  ·intro b hb
   have hb':b∈(Ab.own h E sz (xs.flatMap e)).Cc:=by
    revert hb
    simp only [Ab.own,Hd.cut]
    cases ha:h.a with
    | none=>by_cases hc:h.cap=i.toNat<;>simp [hc]
    | some a=>
     by_cases hc:h.cap=i.toNat
     ·simp [hc]
     ·simp only [hc,if_false,Option.map_some]
      unfold Addr.add
      split<;>simp
   exact⟨(hS.Cc _ (hU ⟨[],fun _=>True,fun _ _ _ _=>trivial⟩).mem b hb').1, .inl hb'⟩
end
end Go.Ing
/- The plain functions of pages. -/
namespace Go.Ing
open Go
namespace Page
/-! #### what is escaped -/
def escape (s:Ad):Ad:=s.flatMap fun b=>if b=255 then [255,255] else [b]
theorem LQ (a b:Ad):escape (a++b)=escape a++escape b:=List.flatMap_append
theorem IC (s:Ad):(escape s).length≤2 * s.length:=by
 induction s with
 | nil=>simp [escape]
 | cons b s ih=>
  have e:escape (b :: s)=(if b=255 then [255,255] else [b])++escape s:=rfl
  rw [e,List.length_append,List.length_cons]
  split<;>simp<;>omega
theorem N1 (s:Ad)(h:s.count 255=0):escape s=s:=by
 induction s with
 | nil=>rfl
 | cons b s ih=>
  have hb:b≠255:=fun e=>by subst e;simp at h
  have hs:s.count 255=0:=by rw [List.count_cons_of_ne (by simpa using hb)] at h;exact h
  have e:escape (b :: s)=(if b=255 then [255,255] else [b])++escape s:=rfl
  rw [e,if_neg hb,ih hs];rfl
theorem index_spec:∀(s:Ad),0 < s.count 255→∃ i:Nat,Lib.indexByte s 255=i∧i < s.length∧escape (s.take i)=s.take i∧s.drop i=255 :: s.drop (i+1)∧(s.drop (i+1)).count 255+1=s.count 255
 | [],h=>by simp at h
 | b :: s,h=>by
  by_cases hb:b=255
  ·subst hb
   exact⟨0,by simp [Lib.indexByte],by simp,by simp [escape],by simp,by simp⟩
  ·have hs:s.count 255=(b :: s).count 255:=(List.count_cons_of_ne (by simpa using hb)).symm
   obtain⟨i,h1,h2,h3,h4,h5⟩:=index_spec s (by rw [hs];exact h)
   refine⟨i+1,?_,by simp;omega,?_,by simpa using h4,by simp only [List.drop_succ_cons];rw [h5,hs]⟩
   ·have hne:(b == (255:UInt8))=false:=by simpa using hb
    have hm:((i:Int) == -1)=false:=beq_eq_false_iff_ne.2 (by omega)
    simp [Lib.indexByte,hne,h1,hm]
   ·rw [List.take_succ_cons]
    have e:escape (b :: s.take i)=(if b=255 then [255,255] else [b])++escape (s.take i):=rfl
    rw [e,if_neg hb,h3];rfl
theorem index_one (c:UInt8):Lib.indexByte [c] c=0:=by simp [Lib.indexByte]
structure Sg (s:Ad)(m:Nat)(k start:Int)(x:Ad):Prop where
 k0:0≤k
 k1:k≤m
 s0:0≤start
 s1:start≤s.length
 e:x++escape (s.drop start.toNat)=escape s
 c:((s.drop start.toNat).count 255:Int)=m - k
 xl:(x.length:Int)≤2 * start
theorem Sg.start {s:Ad}{m:Nat}(h:s.count 255=m):Sg s m 0 0 []:=⟨by omega,by omega,by omega,by omega,rfl,by simp [h],by simp⟩
theorem Sg.idx {s:Ad}{m:Nat}{k start:Int}{x:Ad}(h:Sg s m k start x)(hk:k < m):∃ i:Nat,Lib.indexByte (s.drop start.toNat) 255=i∧start+i < s.length∧Sg s m (k+1) (start+i+1) (x++((s.take (start+i).toNat).drop start.toNat) ++ [255,255]):=by
 obtain⟨k0,k1,s0,s1,e,c,xl⟩:=h
 obtain⟨i,h1,h2,h3,h4,h5⟩:=index_spec (s.drop start.toNat) (by omega)
 rw [List.length_drop] at h2
 rw [List.drop_drop,List.drop_drop] at h4
 rw [List.drop_drop] at h5
 have e1:(start+i).toNat=start.toNat+i:=by omega
 have e2:(start+i+1).toNat=start.toNat+(i+1):=by omega
 have et:(s.take (start+i).toNat).drop start.toNat=(s.drop start.toNat).take i:=by rw [e1,List.drop_take];congr 1;omega
 refine⟨i,h1,by omega,by omega,by omega,by omega,by omega,?_,?_,?_⟩
 ·rw [et,e2,← e]
  have:escape (s.drop start.toNat)=(s.drop start.toNat).take i++([255,255]++escape (s.drop (start.toNat+(i+1)))):=by
   conv=>lhs;rw [← List.take_append_drop i (s.drop start.toNat),LQ,h3,List.drop_drop,h4]
   rfl
  rw [this]
  simp only [List.append_assoc]
 ·rw [e2];omega
 ·rw [et];simp only [List.length_append,List.length_take,List.length_drop,List.length_cons,List.length_nil];omega
theorem Sg.done {s:Ad}{m:Nat}{k start:Int}{x:Ad}(h:Sg s m k start x)(hk:¬ k < m):x++s.drop start.toNat=escape s:=by
 have:=h.e
 rwa [N1 _ (by have:=h.c;omega)] at this
/-! #### pages -/
structure Pg where
 shown:Int
 B5:Bool
 ring:Ad
 cut:Bool
 deriving DecidableEq,Inhabited
def of (p:Av):Pg:=⟨p.shown,p.B5,p.ring,p.cut⟩
def Bk (p:Av):Bool:=decide ((p.wait.len:Int)≤60) && decide ((p.ring.length:Int)≤700) && decide (0≤p.shown) && decide (p.shown≤200)
def put (x:Pg)(s:Ad):Pg:=if x.cut=true then x else if decide (700 - (x.ring.length:Int) < s.length)=true then { x with cut:=true } else { x with ring:=x.ring++s }
def send (p:Av)(s:Ad):Pg × Int:=if (!Bk p)=true then(of p,2) else if p.cut=true then(of p,6) else(put (of p) s,0)
theorem Tb {p:Av}(h:Bk p=true)(s:Ad):(send p s).1=put (of p) s:=by
 unfold send
 rw [h]
 cases hc:p.cut<;>simp [put,of,hc]
theorem MM {x:Pg}{s:Ad}(h:x.ring.length≤700):(put x s).ring.length≤700:=by
 unfold put
 split
 ·exact h
 ·split
  ·exact h
  ·rename_i h1
   simp only [List.length_append]
   simp at h1;omega
theorem Hr (x:Pg)(s:Ad):(put x s).shown=x.shown:=by
 unfold put;split
 ·rfl
 ·split<;>rfl
def HO:Ad:= [45,45,32,109,111,114,101,32,45,45,13,10]
def BH (ht:Int):List Ad→Pg→Pg × List Ad
 | [],x=>(x,[])
 | s :: r,x=>if (x.B5 || x.cut)=true then(x,s :: r) else if (decide (0 < ht) && decide (ht≤x.shown))=true then(put { x with B5:=true } HO,s :: r) else BH ht r (put { x with shown:=min (x.shown+1) 200 } (escape s ++ [13,10]))
theorem Rn {p:Av}(h1:p.wait.len≤60)(h2:p.ring.length≤700)(h3:0≤p.shown)(h4:p.shown≤200):Bk p=true:=by
 simp only [Bk,Bool.and_eq_true,decide_eq_true_eq];omega
theorem H8 (p:Av):Bk p=true↔p.wait.len≤60∧p.ring.length≤700∧0≤p.shown∧p.shown≤200:=by
 simp only [Bk,Bool.and_eq_true,decide_eq_true_eq];omega
structure FI (ht:Int)(qs:List Ad)(x0:Pg)(rest:List Ad)(h:Hd)(x:Pg):Prop where
 n:rest.length≤60
 hl:h.len=rest.length
 ring:x.ring.length≤700
 s0:0≤x.shown
 s1:x.shown≤200
 len:∀ s∈rest,s.length≤70368744000000
 e:BH ht qs x0=BH ht rest x
theorem FI.start {ht:Int}{qs:List Ad}{p:Av}(hg:Bk p=true)(hl:p.wait.len=qs.length)(hs:∀ s∈qs,s.length≤70368744000000):FI ht qs (of p) qs p.wait (of p):=by
 obtain⟨h1,h2,h3,h4⟩:=(H8 p).1 hg
 exact⟨by omega,hl,h2,h3,h4,hs,rfl⟩
theorem FI.Bk {ht:Int}{qs rest:List Ad}{x0 x:Pg}{h:Hd}(hI:FI ht qs x0 rest h x){n:Hd}(hn:n.len≤60){a:Bool}{c:Bool}:Page.Bk ⟨n,x.shown,a,x.ring,c⟩=true:=Rn hn hI.ring hI.s0 hI.s1
theorem FI.next {ht:Int}{qs r:List Ad}{s:Ad}{x0:Pg}{h h':Hd}{sh:Int}{az ct:Bool}{ring:Ad}(hI:FI ht qs x0 (s :: r) h ⟨sh,az,ring,ct⟩)(ha:az=false)(hc:ct=false)(hm:(decide (0 < ht) && decide (ht≤sh))=false)(hl:h'.len=r.length){y:Pg}
  (hy:y=(send ⟨h',min (sh+1) 200,az,ring,ct⟩ (escape s ++ [13,10])).1):FI ht qs x0 r h' y:=by
 obtain⟨h1,h2,h3,h4,h5,h6,h7⟩:=hI
 subst ha;subst hc
 simp only at h3 h4 h5
 have h1':=h1
 rw [List.length_cons] at h1'
 have hg:Page.Bk ⟨h',min (sh+1) 200,false,ring,false⟩=true:=Rn (by rw [hl];omega) h3 (by simp only;omega) (by simp only;omega)
 rw [Tb hg] at hy
 subst hy
 refine⟨by omega,hl,MM h3,?_,?_,fun t ht=>h6 t (by simp [ht]),?_⟩
 ·rw [Hr];show 0≤min (sh+1) 200;omega
 ·rw [Hr];show min (sh+1) 200≤200;omega
 ·rw [h7,BH]
  simp only [Bool.or_self,Bool.false_eq_true,if_false,hm]
  rfl
theorem FI.asks {ht:Int}{qs r:List Ad}{s:Ad}{x0:Pg}{h:Hd}{sh:Int}{az ct:Bool}{ring:Ad}(hI:FI ht qs x0 (s :: r) h ⟨sh,az,ring,ct⟩)(ha:az=false)(hc:ct=false)(hm:(decide (0 < ht) && decide (ht≤sh))=true) :
  BH ht qs x0=((send ⟨h,sh,true,ring,ct⟩ HO).1,s :: r):=by
 obtain⟨h1,h2,h3,h4,h5,h6,h7⟩:=hI
 have hg:Page.Bk ⟨h,sh,true,ring,ct⟩=true:=Rn (by rw [h2];exact h1) h3 h4 h5
 rw [Tb hg,h7,BH,ha,hc]
 simp only [Bool.or_self,Bool.false_eq_true,if_false,hm,if_true]
 rfl
theorem FI.ends {ht:Int}{qs rest:List Ad}{x0 x:Pg}{h:Hd}(hI:FI ht qs x0 rest h x)(hc:rest = []∨x.B5=true∨x.cut=true):BH ht qs x0=(x,rest):=by
 rw [hI.e]
 cases rest with
 | nil=>rfl
 | cons s r=>
  have:(x.B5 || x.cut)=true:=by
   rcases hc with h | h | h
   ·cases h
   ·simp [h]
   ·simp [h]
  rw [BH,if_pos this]
theorem FI.iP {ht:Int}{qs rest:List Ad}{x0:Pg}{h:Hd}{sh:Int}{az ct:Bool}{ring:Ad}(hI:FI ht qs x0 rest h ⟨sh,az,ring,ct⟩)(hc:(decide (0 < (h.len:Int)) && !az && !ct)=false):BH ht qs x0=(⟨sh,az,ring,ct⟩,rest):=by
 refine hI.ends ?_
 have hl:=hI.hl
 cases rest with
 | nil=>exact .inl rfl
 | cons s r=>
  rw [List.length_cons] at hl
  have:decide (0 < (h.len:Int))=true:=decide_eq_true (by omega)
  rw [this] at hc
  cases az with
  | true=>exact .inr (.inl rfl)
  | false=>
   cases ct with
   | true=>exact .inr (.inr rfl)
   | false=>cases hc
theorem FI.hd {ht:Int}{qs rest:List Ad}{x0 x:Pg}{h h':Hd}(hI:FI ht qs x0 rest h x)(hl:h'.len=rest.length):FI ht qs x0 rest h' x:=⟨hI.n,hl,hI.ring,hI.s0,hI.s1,hI.len,hI.e⟩
theorem bP (ht:Int)(qs:List Ad):∀ x:Pg,(BH ht qs x).2.length≤qs.length:=by
 induction qs with
 | nil=>intro x;exact Nat.le_refl _
 | cons s r ih=>
  intro x
  rw [BH]
  split
  ·exact Nat.le_refl _
  ·split
   ·exact Nat.le_refl _
   ·have:=ih (put { x with shown:=min (x.shown+1) 200 } (escape s ++ [13,10]))
    rw [List.length_cons];omega
@[reducible] def K (n:Int) (r:Ad):Nat:=(max 0 (min n (r.length:Int))).toNat
end Page
end Go.Ing
/- The plain functions of the land: what the program's package 'land' computes. -/
namespace Go.Ing
open Go
namespace AH
def KA (w:AH):Nat→An→Bool
 | 0,_=>false
 | n+1,t=>if (!decide (t.Cg=2))=true then true else if (decide (n=0) || decide (t.at_ < 0) || decide (9≤t.at_))=true then false else KA w n (w.AP.at t.at_)
def Cp (w:AH)(i:Int):Bool:=
 if (decide ((w.AP.at i).kind < 0) || decide (3 < (w.AP.at i).kind) || (decide ((w.AP.at i).kind=0) && (w.AP.at i).on) || decide ((w.AP.at i).at_ < 0))=true then false
 else if decide ((w.AP.at i).Cg=0)=true then decide ((w.AP.at i).at_ < 6) && !(decide ((w.AP.at i).kind=2) && (w.AP.at i).on)
 else if decide ((w.AP.at i).Cg=1)=true then decide ((w.AP.at i).at_ < 6) && (w.AO.at (w.AP.at i).at_).here
 else if decide ((w.AP.at i).Cg=2)=true then(if (decide (9≤(w.AP.at i).at_) || (!decide ((w.AP.at (w.AP.at i).at_).kind=3)) || (decide ((w.AP.at i).kind=2) && (w.AP.at i).on))=true then false else KA w 10 (w.AP.at i))
 else false
def opposite (d:Int):Int:=(max 0 (min d 5)+3).tmod 6
def inside (w:AH)(box:Int):Nat→Int→Bool
 | 0,_=>false
 | n+1,i=>if decide (i=box)=true then true else if (decide (i < 0) || decide (9≤i) || !decide ((w.AP.at i).Cg=2))=true then false else inside w box n (w.AP.at i).at_
def Vt (w:AH)(i box:Int):Bool:=inside w box 10 i
def Ko (w:AH):Nat→Int→Bool→Int × Bool
 | 0,_,_=>(-1,false)
 | n+1,i,o=>
  if (decide (i < 0) || decide (9≤i))=true then(-1,false)
  else if decide ((w.AP.at i).Cg=0)=true then((w.AP.at i).at_,o)
  else if decide ((w.AP.at i).Cg=1)=true then(if (decide ((w.AP.at i).at_ < 0) || decide (6≤(w.AP.at i).at_))=true then(-1,false) else((w.AO.at (w.AP.at i).at_).room,o))
  else if decide ((w.AP.at i).Cg=2)=true then
   (if (decide (0≤(w.AP.at i).at_) && decide ((w.AP.at i).at_ < 9) && !(w.AP.at (w.AP.at i).at_).on)=true then Ko w n (w.AP.at i).at_ false else Ko w n (w.AP.at i).at_ o)
  else(-1,false)
def room (w:AH)(i:Int):Int × Bool:=Ko w 10 i true
def Ia (r:Room)(d:Int):Bool:=decide (r.Ca.at d < 0) || decide (6 < r.Ca.at d) || (decide (r.Ca.at d=0) && r.shut.at d)
def Dw (b:Am):Bool:=decide (b.room < 0) || decide (6≤b.room) || decide (b.BP < 0) || decide (10 < b.BP) || decide (b.B7 < 0) || decide (6 < b.B7) || (!b.here && !decide (b.B7=0)) || b.here != decide (0 < b.BP)
def Mf (w:AH)(k:Int):Bool:=CD 6 (fun d=>!Ia (w.BT.at k) d) 6
def Bk (w:AH):Bool:=CD 6 w.Mf 6 && (CD 6 (fun k=>!Dw (w.AO.at k)) 6 && CD 9 w.Cp 9)
def has (w:AH)(Cg at_:Int):List Int:=((List.range 9).map Int.ofNat).filter fun k=>decide ((w.AP.at k).Cg=Cg) && decide ((w.AP.at k).at_=at_)
end AH
end Go.Ing
/- The land as it begins. -/
namespace Go.Ing
open Go
namespace AH
def ex (a b c d e f:Int):Vector Int 6:=((((((Vector.replicate 6 default).put 0 a).put 1 b).put 2 c).put 3 d).put 4 e).put 5 f
def sh (i:Int):Vector Bool 6:=(Vector.replicate 6 default).put i true
def VR:Vector Room 6:=(((((((Vector.replicate 6 default).put 0 ⟨[104,101,97,114,116,104],false,(ex 2 3 4 0 0 5),sh 5⟩).put 1 ⟨[121,97,114,100],false,(ex 0 0 0 1 0 0),default⟩).put 2 ⟨[112,97,110,116,114,121],true,(ex 0 0 0 0 1 0),default⟩).put 3 ⟨[108,111,102,116],true,(ex 0 6 0 0 0 1),default⟩).put 4 ⟨[99,101,108,108,97,114],true,(ex 0 0 1 0 0 0),sh 2⟩).put 5 ⟨[97,116,116,105,99],false,(ex 0 0 0 0 4 0),default⟩)
def SZ:Vector An 9:=((((((((((Vector.replicate 9 default).put 0 ⟨[108,97,109,112],1,0,0,false⟩).put 1 ⟨[108,97,109,112],1,0,3,false⟩).put 2 ⟨[99,108,111,97,107],2,0,0,false⟩).put 3 ⟨[99,104,101,115,116],3,0,4,false⟩).put 4 ⟨[99,111,105,110],0,2,3,false⟩).put 5 ⟨[99,111,105,110],0,0,1,false⟩).put 6 ⟨[109,117,103],0,0,0,false⟩).put 7 ⟨[98,111,120],3,0,0,true⟩).put 8 ⟨[107,101,121],0,1,1,false⟩)
def Ul:Nat→AH
 | 0=>default
 | k+1=>{ Ul k with BT:=(Ul k).BT.put k (VR.toList.getD k default) }
def I5:Nat→AH
 | 0=>Ul 6
 | k+1=>{ I5 k with AP:=(I5 k).AP.put k (SZ.toList.getD k default) }
def new:AH:={ I5 9 with AO:=((I5 9).AO.put 0 ⟨[99,97,116],true,true,0,10,0⟩).put 1 ⟨[114,97,116],true,false,4,3,0⟩ }
theorem Ya {k:Int}(h:0≤k):Ul (k+1).toNat={ Ul k.toNat with BT:=(Ul k.toNat).BT.put k (VR.toList.getD k.toNat default) }:=by
 obtain⟨m,rfl⟩:=Int.eq_ofNat_of_zero_le h
 rfl
theorem XB {k:Int}(h:0≤k):I5 (k+1).toNat={ I5 k.toNat with AP:=(I5 k.toNat).AP.put k (SZ.toList.getD k.toNat default) }:=by
 obtain⟨m,rfl⟩:=Int.eq_ofNat_of_zero_le h
 rfl
theorem Zf:new.Bk=true:=by kernel_rfl
end AH
end Go.Ing
/- Plain laws of lands. -/
namespace Go.Ing
open Go
namespace AH
variable {X:AH}
theorem P4 (h:X.Bk=true){i:Int}(h0:0≤i)(h9:i < 9):X.Cp i=true:=by
 unfold Bk at h
 rw [Bool.and_eq_true,Bool.and_eq_true] at h
 exact(Dq 9).1 h.2.2 i (by omega) h9
theorem Fq (h:X.Bk=true){b:Int}(h0:0≤b)(h9:b < 6):Dw (X.AO.at b)=false:=by
 unfold Bk at h
 rw [Bool.and_eq_true,Bool.and_eq_true] at h
 simpa using (Dq 6).1 h.2.1 b (by omega) h9
theorem K1 (h:X.Bk=true){r d:Int}(h0:0≤r)(h6:r < 6)(d0:0≤d)(d6:d < 6):Ia (X.BT.at r) d=false:=by
 unfold Bk at h
 rw [Bool.and_eq_true,Bool.and_eq_true] at h
 have:=(Dq 6).1 h.1 r (by omega) h6
 unfold Mf at this
 simpa using (Dq 6).1 this d (by omega) d6
structure SQ (X:AH)(i:Int):Prop where
 k0:0≤(X.AP.at i).kind
 k3:(X.AP.at i).kind≤3
 plain:(X.AP.at i).kind=0→(X.AP.at i).on=false
 a0:0≤(X.AP.at i).at_
 Cg:((X.AP.at i).Cg=0∧(X.AP.at i).at_ < 6∧¬ ((X.AP.at i).kind=2∧(X.AP.at i).on=true)) ∨
  ((X.AP.at i).Cg=1∧(X.AP.at i).at_ < 6∧(X.AO.at (X.AP.at i).at_).here=true) ∨
  ((X.AP.at i).Cg=2∧(X.AP.at i).at_ < 9∧(X.AP.at (X.AP.at i).at_).kind=3∧¬ ((X.AP.at i).kind=2∧(X.AP.at i).on=true)∧X.KA 10 (X.AP.at i)=true)
theorem TJ {i:Int}(h:X.Cp i=true):SQ X i:=by
 unfold Cp at h
 split at h
 ·cases h
 ·rename_i h1
  simp only [Bool.or_eq_true,Bool.and_eq_true,decide_eq_true_eq,not_or,not_and,Bool.not_eq_true] at h1
  obtain⟨⟨⟨a1,a2⟩,a3⟩,a4⟩:=h1
  refine⟨by omega,by omega,a3,by omega,?_⟩
  split at h
  ·rename_i h2
   simp only [Bool.and_eq_true,decide_eq_true_eq,Bool.not_eq_true'] at h h2
   refine .inl ⟨h2,h.1,fun⟨x,y⟩=>?_⟩
   simp [x,y] at h
  ·rename_i h2
   split at h
   ·rename_i h3
    simp only [Bool.and_eq_true,decide_eq_true_eq] at h h3
    exact .inr (.inl ⟨h3,h.1,h.2⟩)
   ·split at h
    ·rename_i h4
     split at h
     ·cases h
     ·rename_i h5
      simp only [Bool.or_eq_true,Bool.and_eq_true,decide_eq_true_eq,not_or,not_and,Bool.not_eq_true,Bool.not_eq_true',decide_eq_false_iff_not,Decidable.not_not] at h4 h5
      refine .inr (.inr ⟨h4,by omega,h5.1.2,fun⟨x,y⟩=>?_,h⟩)
      have:=h5.2 x
      rw [y] at this;cases this
    ·cases h
def Out (X:AH):Nat→Int→Prop
 | 0,i=>(X.AP.at i).Cg≠2
 | n+1,i=>(X.AP.at i).Cg=2∧0≤(X.AP.at i).at_∧(X.AP.at i).at_ < 9∧Out X n (X.AP.at i).at_
theorem M1:∀(n:Nat) (i:Int),X.KA n (X.AP.at i)=true→∃ m,m < n∧Out X m i
 | 0,i,h=>by simp [KA] at h
 | n+1,i,h=>by
  unfold KA at h
  split at h
  ·rename_i h1;exact⟨0,by omega,by simpa [Out] using h1⟩
  ·rename_i h1
   split at h
   ·cases h
   ·rename_i h2
    simp only [Bool.or_eq_true,decide_eq_true_eq,not_or] at h2
    obtain⟨m,hm,ho⟩:=M1 n _ h
    exact⟨m+1,by omega,by simpa using h1,by omega,by omega,ho⟩
theorem UE (h:X.Bk=true){i:Int}(h0:0≤i)(h9:i < 9):∃ n,n < 10∧Out X n i:=by
 have ht:=TJ (P4 h h0 h9)
 rcases ht.Cg with ⟨w,_⟩ | ⟨w,_⟩ | ⟨_,_,_,_,c⟩
 ·exact⟨0,by omega,by simp [Out,w]⟩
 ·exact⟨0,by omega,by simp [Out,w]⟩
 ·exact M1 10 i c
theorem Out.uniq:∀ {n m:Nat} {i:Int},Out X n i→Out X m i→n=m
 | 0,0,_,_,_=>rfl
 | 0,m+1,i,h,k=>absurd k.1 h
 | n+1,0,i,h,k=>absurd h.1 k
 | n+1,m+1,i,h,k=>by rw [Out.uniq h.2.2.2 k.2.2.2]
theorem XV (X:AH)(i:Int):X.Vt i i=true:=by simp [Vt,inside]
end AH
end Go.Ing
/- Engine: the strings of a slice within a struct that came in, as parts of its reading. -/
namespace Go.Ing
open Go Go.RowKit Go.ChangeShapes Go.WideShapes Go.ChangeAt
section
variable {H:Type} {enc:TypeId × Value→H} {P:Program} {w:World}
end
end Go.Ing
/- Engine: maps of the call's own, from integers. -/
namespace Go.Ing
open Go Go.MapKept
section
variable {P:Program} {n:Nat} {w0:World} {M:List Nat} {Q:Exit→Go.Act→World→Prop} {F F':List (Nat × Value)} {L L':List Ab} {ops:Array Oper} {rest:List Oper}
end
end Go.Ing
/- The plain functions of sense. -/
namespace Go.Ing
open Go
namespace AH
def lit (w:AH)(r i:Int):Bool:=!(!decide ((w.AP.at i).kind=1) || !(w.AP.at i).on) && (decide ((w.room i).1=r) && (w.room i).2)
def IF (w:AH)(r:Int):Bool:=if (decide (r < 0) || decide (6≤r))=true then false else if (!(w.BT.at r).Le)=true then true else !(CD 9 (fun i=>!w.lit r i) 9)
def MZ (w:AH)(b i:Int):Bool:=decide ((w.AP.at i).kind=2) && (w.AP.at i).on && decide ((w.AP.at i).Cg=1) && decide ((w.AP.at i).at_=b)
def hidden (w:AH)(b:Int):Bool:=!(CD 9 (fun i=>!w.MZ b i) 9)
def Aw (w:AH)(b:Int):Bool:=decide (0≤b) && decide (b < 6) && (w.AO.at b).here
def JW (w:AH)(a b:Int):Bool:=if (!w.Aw a || !w.Aw b)=true then false else if decide (a=b)=true then true else decide ((w.AO.at a).room=(w.AO.at b).room) && w.IF (w.AO.at a).room && ((w.AO.at a).QO || !w.hidden b)
def gg (k:Int):Bool:=decide (k=7) || decide (k=14) || decide (k=15)
def Za (w:AH)(b:Int)(e:Event):Bool:=decide (0≤e.other) && decide (e.other < 6) && !w.JW b e.other
def D5 (w:AH)(b:Int)(e:Event):Int:=
 if (!w.Aw b)=true then 0
 else if decide (b=e.DW)=true then(if (decide (e.other < 0) || decide (6≤e.other) || w.JW b e.other)=true then 1 else 5)
 else if (decide (e.kind=16) || !decide ((w.AO.at b).room=e.room))=true then 0
 else if (!w.JW b e.DW)=true then(if (!gg e.kind)=true then 0 else if w.Za b e=true then 1+2+4 else 1+2)
 else if w.Za b e=true then 1+4 else 1
def Gj (w:AH)(e:Event):Nat→Event
 | 0=>e
 | k+1=>{ Gj w e k with H0:=(Gj w e k).H0.put k (D5 w k (Gj w e k)) }
theorem Xp {w:AH}{e:Event}{k:Int}(h:0≤k):w.Gj e (k+1).toNat={ w.Gj e k.toNat with H0:=(w.Gj e k.toNat).H0.put k (w.D5 k (w.Gj e k.toNat)) }:=by
 obtain⟨m,rfl⟩:=Int.eq_ofNat_of_zero_le h
 rfl
/-! #### what is heard of who says -/
def fM:Ad:= [89,111,117,32,115,97,121,58,32,88]
def said (t:Ad)(k:Int):Ad:=if k≤9 then fM.take k.toNat else fM.take 9++t
/-! #### laws -/
theorem Ly {w:AH}{a b:Int}(h:w.JW a b=true):w.Aw a=true∧w.Aw b=true∧(a=b∨((w.AO.at a).room=(w.AO.at b).room∧w.IF (w.AO.at a).room=true∧((w.AO.at a).QO=true∨w.hidden b=false))):=by
 unfold JW at h
 split at h
 ·cases h
 ·rename_i h1
  simp at h1
  split at h
  ·rename_i h2
   exact⟨h1.1,h1.2, .inl (by simpa using h2)⟩
  ·simp at h
   exact⟨h1.1,h1.2, .inr ⟨h.1.1,h.1.2,h.2⟩⟩
theorem Ht {w:AH}{b:Int}(h:w.Aw b=true):0≤b∧b < 6∧(w.AO.at b).here=true:=by
 simpa [Aw,and_assoc] using h
section
variable {w:AH} {b:Int} {e:Event}
end
end AH
end Go.Ing
/- Where a thing is at last: two roads. -/
namespace Go.Ing
open Go
def un (s:List Int)(j:Int):Nat:=if j∈s then 0 else 1
def Th (s:List Int):Nat:=un s 0+un s 1+un s 2+un s 3+un s 4+un s 5+un s 6+un s 7+un s 8
theorem cc (s:List Int)(i j:Int)(hj:j≠i):un (s ++ [i]) j=un s j:=by simp [un,hj]
theorem eT (s:List Int)(i:Int):un (s ++ [i]) i=0:=by simp [un]
theorem ep {s:List Int}{i:Int}(h:i ∉ s):un s i=1:=by simp [un,h]
theorem O3 {s:List Int}{i:Int}(h:i ∉ s)(h0:0≤i)(h9:i < 9):Th (s ++ [i])+1=Th s:=by
 have hc:i=0∨i=1∨i=2∨i=3∨i=4∨i=5∨i=6∨i=7∨i=8:=by omega
 have hh:=eT s i
 have hn:=ep h
 have g:∀ j:Int,j≠i→un (s ++ [i]) j=un s j:=fun j hj=>cc s i j hj
 unfold Th
 rcases hc with e | e | e | e | e | e | e | e | e
 ·have g1:=g 1 (by omega);have g2:=g 2 (by omega);have g3:=g 3 (by omega);have g4:=g 4 (by omega);have g5:=g 5 (by omega);have g6:=g 6 (by omega);have g7:=g 7 (by omega);have g8:=g 8 (by omega)
  rw [e] at hh hn g1 g2 g3 g4 g5 g6 g7 g8 ⊢;omega
 ·have g0:=g 0 (by omega);have g2:=g 2 (by omega);have g3:=g 3 (by omega);have g4:=g 4 (by omega);have g5:=g 5 (by omega);have g6:=g 6 (by omega);have g7:=g 7 (by omega);have g8:=g 8 (by omega)
  rw [e] at hh hn g0 g2 g3 g4 g5 g6 g7 g8 ⊢;omega
 ·have g0:=g 0 (by omega);have g1:=g 1 (by omega);have g3:=g 3 (by omega);have g4:=g 4 (by omega);have g5:=g 5 (by omega);have g6:=g 6 (by omega);have g7:=g 7 (by omega);have g8:=g 8 (by omega)
  rw [e] at hh hn g0 g1 g3 g4 g5 g6 g7 g8 ⊢;omega
 ·have g0:=g 0 (by omega);have g1:=g 1 (by omega);have g2:=g 2 (by omega);have g4:=g 4 (by omega);have g5:=g 5 (by omega);have g6:=g 6 (by omega);have g7:=g 7 (by omega);have g8:=g 8 (by omega)
  rw [e] at hh hn g0 g1 g2 g4 g5 g6 g7 g8 ⊢;omega
 ·have g0:=g 0 (by omega);have g1:=g 1 (by omega);have g2:=g 2 (by omega);have g3:=g 3 (by omega);have g5:=g 5 (by omega);have g6:=g 6 (by omega);have g7:=g 7 (by omega);have g8:=g 8 (by omega)
  rw [e] at hh hn g0 g1 g2 g3 g5 g6 g7 g8 ⊢;omega
 ·have g0:=g 0 (by omega);have g1:=g 1 (by omega);have g2:=g 2 (by omega);have g3:=g 3 (by omega);have g4:=g 4 (by omega);have g6:=g 6 (by omega);have g7:=g 7 (by omega);have g8:=g 8 (by omega)
  rw [e] at hh hn g0 g1 g2 g3 g4 g6 g7 g8 ⊢;omega
 ·have g0:=g 0 (by omega);have g1:=g 1 (by omega);have g2:=g 2 (by omega);have g3:=g 3 (by omega);have g4:=g 4 (by omega);have g5:=g 5 (by omega);have g7:=g 7 (by omega);have g8:=g 8 (by omega)
  rw [e] at hh hn g0 g1 g2 g3 g4 g5 g7 g8 ⊢;omega
 ·have g0:=g 0 (by omega);have g1:=g 1 (by omega);have g2:=g 2 (by omega);have g3:=g 3 (by omega);have g4:=g 4 (by omega);have g5:=g 5 (by omega);have g6:=g 6 (by omega);have g8:=g 8 (by omega)
  rw [e] at hh hn g0 g1 g2 g3 g4 g5 g6 g8 ⊢;omega
 ·have g0:=g 0 (by omega);have g1:=g 1 (by omega);have g2:=g 2 (by omega);have g3:=g 3 (by omega);have g4:=g 4 (by omega);have g5:=g 5 (by omega);have g6:=g 6 (by omega);have g7:=g 7 (by omega)
  rw [e] at hh hn g0 g1 g2 g3 g4 g5 g6 g7 ⊢;omega
namespace AH
def conv (w:AH)(r:Int × Int × Bool × Bool):Int × Bool:=
 if (r.2.2.2 && decide (r.1=1))=true then(if (decide (r.2.1 < 0) || decide (5 < r.2.1))=true then(-1,false) else((w.AO.at r.2.1).room,r.2.2.1))
 else if (!r.2.2.2)=true then(-1,false) else(r.2.1,r.2.2.1)
/-! #### inside -/
/-! #### the document's sense -/
end AH
end Go.Ing
/- How the land stands: plain laws. -/
namespace Go.Ing
open Go
namespace AH
def Qi (X:AH)(Cg at_:Int)(n:Nat):List Int:=((List.range n).map Int.ofNat).filter fun k=>decide ((X.AP.at k).Cg=Cg) && decide ((X.AP.at k).at_=at_)
theorem VB (X:AH)(Cg at_:Int):X.has Cg at_=X.Qi Cg at_ (9:Int).toNat:=rfl
theorem Te (X:AH)(Cg at_:Int)(n:Nat):(X.Qi Cg at_ n).length≤n:=by
 unfold Qi
 refine Nat.le_trans (List.length_filter_le _ _) ?_
 simp
theorem eH {X:AH}{Cg at_ k:Int}(h:0≤k)(c:(decide ((X.AP.at k).Cg=Cg) && decide ((X.AP.at k).at_=at_))=true):X.Qi Cg at_ (k+1).toNat=X.Qi Cg at_ k.toNat ++ [k]:=by
 obtain⟨n,rfl⟩:=Int.eq_ofNat_of_zero_le h
 rw [show((n:Int)+1).toNat=n+1 by omega,show((n:Int)).toNat=n by omega]
 unfold Qi
 rw [List.range_succ,List.map_append,List.filter_append]
 congr 1
 simp only [List.map_cons,List.map_nil]
 exact(List.filter_cons_of_pos (p:=fun k=>decide ((X.AP.at k).Cg=Cg) && decide ((X.AP.at k).at_=at_)) (a:=(n:Int)) (l:= []) c).trans rfl
theorem dw {X:AH}{Cg at_ k:Int}(h:0≤k)(c:(decide ((X.AP.at k).Cg=Cg) && decide ((X.AP.at k).at_=at_))=false):X.Qi Cg at_ (k+1).toNat=X.Qi Cg at_ k.toNat:=by
 obtain⟨n,rfl⟩:=Int.eq_ofNat_of_zero_le h
 rw [show((n:Int)+1).toNat=n+1 by omega,show((n:Int)).toNat=n by omega]
 unfold Qi
 rw [List.range_succ,List.map_append,List.filter_append]
 refine Eq.trans (congrArg _ ?_) (List.append_nil _)
 simp only [List.map_cons,List.map_nil]
 exact(List.filter_cons_of_neg (p:=fun k=>decide ((X.AP.at k).Cg=Cg) && decide ((X.AP.at k).at_=at_)) (a:=(n:Int)) (l:= []) (fun e=>by have:=c.symm.trans e;cases this)).trans rfl
/-! #### good, as the document has it -/
/-! #### the land as the document makes it -/
def names:List Ad:= [[104,101,97,114,116,104],[121,97,114,100],[112,97,110,116,114,121],[108,111,102,116],[99,101,108,108,97,114],[97,116,116,105,99]]
end AH
end Go.Ing
/- Engine: the program's own variables, as they are laid when a call begins; the decimal numeral. -/
namespace Go.Ing
open Go
def GV (g:Nat)(vs:List Value)(w:World):Prop:=∃ t fz,w.heap[g]?=some (.cells vs.toArray t fz)
theorem GV.Yr {g:Nat}{vs:List Value}{w w':World}(h:GV g vs w)(ho:∀ k,k < w.heap.size→w'.heap[k]?=w.heap[k]?):GV g vs w':=by
 obtain⟨t,fz,e⟩:=h
 have hg:g < w.heap.size:=by
  rcases Nat.lt_or_ge g w.heap.size with h' | h'
  ·exact h'
  ·rw [Array.getElem?_eq_none h'] at e;cases e
 exact⟨t,fz,(ho g hg).trans e⟩
theorem GV.st {g:Nat}{vs:List Value}{w0 w:World}{L:List Ab}(h:GV g vs w0)(hS:St w0 [] w L):GV g vs w:=h.Yr fun k hk=>hS.I7 k hk (by simp)
theorem GV.J7 {g:Nat}{vs:List Value}{w0 w:World}(h:GV g vs w0)(hK:CH w0 w):GV g vs w:=h.Yr hK.I7
section
variable {P:Program} {n:Nat} {w0:World} {F:List (Nat × Value)} {L:List Ab}
theorem Rk {T U g o:Nat}{x:Operand}{v:Value}{vs:List Value}(hg:GV g vs w0)(hx:ev F x=some (.pointer (some ⟨g,o,none⟩)))(hT:Ss P T)(hv:vs[o]?=some v):PS P n w0 [] (.load T x) U F L v L:=by
 intro a w hF hS
 obtain⟨t,fz,e⟩:=hg.st hS
 have hc:w.cell? ⟨g,o,none⟩=some v:=(IZ e).trans hv
 exact⟨w,by simp [execOp,hF.ev hx,Instr.loadAt,Instr.sureAddr,loadVar,hT w,hc],rfl,rfl⟩
end
theorem Um {P:Program}{w:World}{name:String}{g:Nat}{cs:Array Value}{vs:List Value}(hg:P.globalNamed name=some g)(h:w.var? P name=some cs)(e:cs.toList=vs):GV g vs w:=by
 unfold World.var? at h
 rw [hg] at h
 simp only [Option.bind_some] at h
 split at h
 ·rename_i c t fz hh
  injection h with h
  subst h
  exact⟨t,fz,by rw [hh,← e]⟩
 ·cases h
theorem VV {P:Program}{w:World}{name:String}{g:Nat}{vs:List Value}(hg:P.globalNamed name=some g)(h:GV g vs w):w.var? P name=some vs.toArray:=by
 obtain⟨t,fz,e⟩:=h
 unfold World.var?
 rw [hg]
 simp only [Option.bind_some]
 rw [e]
theorem OV {P:Program}{w:World}{name:String}{d:DataW Unit}:∀(laid:List (String × DataW Unit)) (ps:List MemPlace),DataW.LaidVars P w laid ps→(name,d)∈laid →
  ∃ g t cs fuel p,P.globalNamed name=some g∧(P.globals[g]?).map (·.type)=some t∧w.var? P name=some cs∧DataW.trod (fun _=>()) P w 0 (fun _=>true) false fuel t cs.toList=some (d,p)
 | [],_,_,hm=>by cases hm
 | (n,e) :: r,ps,h,hm=>by
  obtain⟨g,t,cs,fuel,p,q,h1,h2,h3,h4,h5,_⟩:=h
  rcases List.mem_cons.1 hm with hm | hm
  ·injection hm with e1 e2
   subst e1;subst e2
   exact⟨g,t,cs,fuel,p,h1,h2,h3,h4⟩
  ·exact OV r q h5 hm
def MY {H:Type}(ss:List Ad):DataW H:= .agg (ss.map fun s=> .lit (.string s))
theorem Qp {H:Type}{enc:TypeId × Value→H}{P:Program}{w:World}{base:Nat}{sp:Nat→Bool}{held:Bool}{fuel:Nat}{t e:TypeId}{n:Nat}{cs:List Value}{zs:List Ad}{p:List MemPlace}
  (ht:P.underlying t=some (.array n e)) (he:P.underlying e=some .string) (hce:P.cellsOf e=1) (hct:P.cellsOf t=n)
  (h:DataW.trod enc P w base sp held fuel t cs=some (MY zs,p)):cs=zs.map BW:=by
 obtain⟨xs,m,_,hx,hl,hlen,hf⟩:=DataW.trod_array ht h
 have hxs:xs.map (·.1)=zs.map fun z=>(DataW.lit (.string z):DataW H):=by
  have:=congrArg Prod.fst hx
  simpa [MY] using this.symm
 have hzl:zs.length=n:=by
  have:=congrArg List.length hxs
  simp at this
  omega
 apply List.ext_getElem?
 intro i
 by_cases hi:i < n
 ·have h1:=hf i hi
  rw [hce] at h1
  have h2:xs[i]?=some xs[i]:=List.getElem?_eq_getElem (by omega)
  rw [h2] at h1
  obtain⟨s,hc,e1,_⟩:=DataW.trod_string he h1
  have h3:cs[i]?=some (.string s):=by
   have:=congrArg (·[0]?) hc
   simpa [List.getElem?_take,List.getElem?_drop] using this
  have h4:(xs.map (·.1))[i]?=some (DataW.lit (.string s.data.toList):DataW H):=by
   rw [List.getElem?_map,h2,e1];rfl
  rw [hxs] at h4
  simp only [List.getElem?_map,Option.map_eq_some_iff,DataW.lit.injEq,Lit.string.injEq] at h4
  obtain⟨z',hz',rfl⟩:=h4
  rw [h3,List.getElem?_map,hz']
  rfl
 ·rw [List.getElem?_eq_none (by omega),List.getElem?_eq_none (by simp;omega)]
theorem bu {P:Program}{w:World}{laid:List (String × DataW Unit)}{name:String}{g:Nat}{t e:TypeId}{n:Nat}{ss:List Ad}(hL:laidMet P laid w)(hm:(name,MY ss)∈laid)(hg:P.globalNamed name=some g)(hty:(P.globals[g]?).map (·.type)=some t)(ht:P.underlying t=some (.array n e))(he:P.underlying e=some .string)(hce:P.cellsOf e=1)(hct:P.cellsOf t=n):GV g (ss.map BW) w:=by
 obtain⟨ps,hv,_⟩:=hL
 obtain⟨g',t',cs,fuel,p,hg',ht',hvar,hd⟩:=OV _ _ hv hm
 obtain rfl:=Option.some.inj (hg.symm.trans hg')
 obtain rfl:=Option.some.inj (hty.symm.trans ht')
 exact Um hg hvar (Qp ht he hce hct hd)
theorem cW {P:Program}{w:World}{laid:List (String × DataW Unit)}{name:String}{g:Nat}{t e:TypeId}{n:Nat}{k:IntKind}{zs:List Int}(hL:laidMet P laid w)(hm:(name,Lib.tabData k zs)∈laid)(hg:P.globalNamed name=some g)(hty:(P.globals[g]?).map (·.type)=some t)(ht:P.underlying t=some (.array n e))(he:P.underlying e=some (.int k))(hce:P.cellsOf e=1)(hct:P.cellsOf t=n):GV g (zs.map fun z=>Value.int k z) w:=by
 obtain⟨ps,hv,_⟩:=hL
 obtain⟨g',t',cs,fuel,p,hg',ht',hvar,hd⟩:=OV _ _ hv hm
 obtain rfl:=Option.some.inj (hg.symm.trans hg')
 obtain rfl:=Option.some.inj (hty.symm.trans ht')
 exact Um hg hvar (Lib.cells_of_tab ht he hce hct hd)
def GJ:List Value:=Lib.pow10Tab.map fun z=>Value.int .u64 z
theorem Ev.bZ {P:Program}{f:FuncId}{args:Array Value}{w:World}{v:Value}(h:Calls P f args w fun e w'=>e = .returned v∧∃ k os,w'=Sort.grow (w.drewN k) os):Ev P f args w fun v' w'=>v'=v∧CH w w':=by
 refine Calls.mono h fun e w' ⟨e1,k,os,e2⟩=>⟨v,e1,rfl,?_⟩
 subst e2
 refine⟨rfl,rfl,rfl,?_,fun i hi=>?_⟩
 ·show w.heap.size≤(w.heap++os).size
  rw [Array.size_append];omega
 ·show(w.heap++os)[i]?=w.heap[i]?
  rw [Array.getElem?_append_left hi]
section
variable {P:Program} {n:Nat} {w0:World} {M:List Nat} {Q:Exit→Go.Act→World→Prop} {F:List (Nat × Value)} {L:List Ab}
theorem UR {d:Nat}{z:Value}(hz:lk d F=some z):Sub F ((d,z) :: F):=by
 intro k v hk
 simp only [lk] at hk
 cases e:Nat.beq k d with
 | true=>
  have e':k=d:=Nat.eq_of_beq_eq_true e
  subst e'
  rw [e] at hk
  rw [hz];exact hk
 | false=>rw [e] at hk;exact hk
theorem bU {d t:Nat}{z u:Value}(ht:lk t F=none):Sub ((d,z) :: (t,u) :: F) ((d,z) :: F):=by
 intro k v hk
 simp only [lk] at hk ⊢
 cases e:Nat.beq k d with
 | true=>rw [e] at hk;exact hk
 | false=>
  rw [e] at hk
  cases e2:Nat.beq k t with
  | true=>
   have e':k=t:=Nat.eq_of_beq_eq_true e2
   subst e'
   have hk':lk k F=some v:=hk
   rw [ht] at hk';cases hk'
  | false=>exact hk
theorem R7 {α:Type}(f:α→Value){d id:Nat}{c v:Operand}{T:TypeId}{pos:String}{Cu:Array Edge}{b:Bool}{s1 s0 s:α}(hc:ev F c=some (.bool b))(hd:Nat.blt d n=true)(hv:ev F v=some (f s1))(hz:lk d F=some (f s0))(hs:(if b=true then s1 else s0)=s)
  (k:GQ n w0 M Q .normal ((d,f s) :: F) L):G P n w0 M (.cond c (.region id [⟨some d, .assign v,T,pos,Cu,none⟩].toArray false) .skip) Q F L:=by
 refine O6 hc (fun h=>?_) (fun h=>?_)
 ·rw [h,if_pos rfl] at hs
  subst hs
  refine AJ (LC hd (A0 hv) (AR k))
 ·rw [h,if_neg (by decide)] at hs
  subst hs
  exact Aa fun a w hF hS=>k a w (hF.sub (UR hz)) hS
theorem eE {α:Type}(f:α→Value){d t id:Nat}{c v:Operand}{T T':TypeId}{pos pos':String}{Cu aft':Array Edge}{b:Bool}{s1 s0 s:α}(hc:ev F c=some (.bool b))(hd:Nat.blt d n=true)(htn:Nat.blt t n=true)(ht:lk t F=none)(hv:ev F v=some (f s1))(hz:lk d F=some (f s0))(hs:(if b=true then s1 else s0)=s)
  (k:GQ n w0 M Q .normal ((d,f s) :: F) L):G P n w0 M (.cond c (.region id [⟨some t, .move v,T,pos,Cu,none⟩,⟨some d, .assign (.tmp t),T',pos',aft',none⟩].toArray false) .skip) Q F L:=by
 refine O6 hc (fun h=>?_) (fun h=>?_)
 ·rw [h,if_pos rfl] at hs
  subst hs
  refine AJ (LC htn (AF hv) (LC hd (A0 (by simp [ev,lk])) (AR fun a w hF hS=>k a w (hF.sub (bU ht)) hS)))
 ·rw [h,if_neg (by decide)] at hs
  subst hs
  exact Aa fun a w hF hS=>k a w (hF.sub (UR hz)) hS
end
section
open Go.RowKit Go.ChangeShapes Go.WideShapes Go.ChangeAt
variable {H:Type} {enc:TypeId × Value→H} {P:Program} {w:World}
end
end Go.Ing
/- What is told of an event: plain functions. -/
namespace Go.Ing
open Go
namespace AH
def HF:List Ad:= [[110,111,114,116,104],[101,97,115,116],[117,112],[115,111,117,116,104],[119,101,115,116],[100,111,119,110],[108,111,111,107],[103,101,116],[100,114,111,112],[112,117,116],[103,105,118,101],[115,97,121],[111,112,101,110],[99,108,111,115,101],[108,105,103,104,116],[100,111,117,115,101],[119,101,97,114],[100,111,102,102],[104,105,116],[105,110,118,101,110,116,111,114,121],[113,117,105,116]]
def DU:List Value:=HF.map BW
theorem PG {d:Int}(h0:0≤d)(h6:d < 6):DU[0+d.toNat * 1]?=some (BW (HF.getD d.toNat [])):=by
 have:d=0∨d=1∨d=2∨d=3∨d=4∨d=5:=by omega
 rcases this with rfl | rfl | rfl | rfl | rfl | rfl<;>rfl
def called (d:Int):Ad:=if (decide (d < 0) || decide (6≤d))=true then [] else HF.getD d.toNat []
theorem Jn (d:Int):(called d).length≤20:=by
 unfold called
 split
 ·simp
 ·rename_i h
  have:d=0∨d=1∨d=2∨d=3∨d=4∨d=5:=by simp at h;omega
  rcases this with rfl | rfl | rfl | rfl | rfl | rfl<;>decide
def form (z:Int):Ad × Ad:=
 if decide (z=1)=true then([89,111,117,32,103,111,32,68,46],[65,32,103,111,101,115,32,68,46])
 else if decide (z=2)=true then([],[65,32,99,111,109,101,115,32,102,114,111,109,32,68,46])
 else if decide (z=3)=true then([89,111,117,32,103,101,116,32,116,104,101,32,84,46],[65,32,103,101,116,115,32,97,32,84,46])
 else if decide (z=4)=true then([89,111,117,32,100,114,111,112,32,116,104,101,32,84,46],[65,32,100,114,111,112,115,32,97,32,84,46])
 else if decide (z=5)=true then([89,111,117,32,112,117,116,32,116,104,101,32,84,32,105,110,116,111,32,116,104,101,32,88,46],[65,32,112,117,116,115,32,97,32,84,32,105,110,116,111,32,97,32,88,46])
 else if decide (z=6)=true then([89,111,117,32,103,105,118,101,32,116,104,101,32,84,32,116,111,32,79,46],[65,32,103,105,118,101,115,32,97,32,84,32,116,111,32,79,46])
 else if decide (z=7)=true then([89,111,117,32,115,97,121,58,32,88],[65,32,115,97,121,115,58,32,88])
 else if decide (z=8)=true then([89,111,117,32,111,112,101,110,32,116,104,101,32,84,46],[65,32,111,112,101,110,115,32,97,32,84,46])
 else if decide (z=9)=true then([89,111,117,32,99,108,111,115,101,32,116,104,101,32,84,46],[65,32,99,108,111,115,101,115,32,97,32,84,46])
 else if decide (z=10)=true then([89,111,117,32,108,105,103,104,116,32,116,104,101,32,84,46],[65,32,108,105,103,104,116,115,32,97,32,84,46])
 else if decide (z=11)=true then([89,111,117,32,100,111,117,115,101,32,116,104,101,32,84,46],[65,32,100,111,117,115,101,115,32,97,32,84,46])
 else if decide (z=12)=true then([89,111,117,32,112,117,116,32,111,110,32,116,104,101,32,84,46],[65,32,112,117,116,115,32,111,110,32,97,32,84,46])
 else if decide (z=13)=true then([89,111,117,32,116,97,107,101,32,111,102,102,32,116,104,101,32,84,46],[65,32,116,97,107,101,115,32,111,102,102,32,97,32,84,46])
 else if decide (z=14)=true then([89,111,117,32,104,105,116,32,79,32,102,111,114,32,78,46],[65,32,104,105,116,115,32,79,32,102,111,114,32,78,46])
 else if decide (z=15)=true then([89,111,117,32,100,105,101,46],[65,32,100,105,101,115,46])
 else if decide (z=16)=true then([88],[])
 else if decide (z=17)=true then([66,101,32,119,101,108,99,111,109,101,46],[65,32,97,114,114,105,118,101,115,46])
 else if decide (z=18)=true then([],[65,32,102,97,100,101,115,46])
 else([],[])
theorem UM {z:Int}(h:¬ (1≤z∧z≤18)):form z=([],[]):=by
 unfold form
 rw [if_neg (show ¬ decide (z=1)=true by simp;omega)]
 rw [if_neg (show ¬ decide (z=2)=true by simp;omega)]
 rw [if_neg (show ¬ decide (z=3)=true by simp;omega)]
 rw [if_neg (show ¬ decide (z=4)=true by simp;omega)]
 rw [if_neg (show ¬ decide (z=5)=true by simp;omega)]
 rw [if_neg (show ¬ decide (z=6)=true by simp;omega)]
 rw [if_neg (show ¬ decide (z=7)=true by simp;omega)]
 rw [if_neg (show ¬ decide (z=8)=true by simp;omega)]
 rw [if_neg (show ¬ decide (z=9)=true by simp;omega)]
 rw [if_neg (show ¬ decide (z=10)=true by simp;omega)]
 rw [if_neg (show ¬ decide (z=11)=true by simp;omega)]
 rw [if_neg (show ¬ decide (z=12)=true by simp;omega)]
 rw [if_neg (show ¬ decide (z=13)=true by simp;omega)]
 rw [if_neg (show ¬ decide (z=14)=true by simp;omega)]
 rw [if_neg (show ¬ decide (z=15)=true by simp;omega)]
 rw [if_neg (show ¬ decide (z=16)=true by simp;omega)]
 rw [if_neg (show ¬ decide (z=17)=true by simp;omega)]
 rw [if_neg (show ¬ decide (z=18)=true by simp;omega)]
theorem Vs {P:Ad × Ad→Prop}(h0:P ([],[]))(h1:P (form 1))(h2:P (form 2))(h3:P (form 3))(h4:P (form 4))(h5:P (form 5))(h6:P (form 6))(h7:P (form 7))(h8:P (form 8))(h9:P (form 9))(h10:P (form 10))(h11:P (form 11))(h12:P (form 12))(h13:P (form 13))(h14:P (form 14))(h15:P (form 15))(h16:P (form 16))(h17:P (form 17))(h18:P (form 18))(z:Int):P (form z):=by
 by_cases h:1≤z∧z≤18
 ·have:z=1∨z=2∨z=3∨z=4∨z=5∨z=6∨z=7∨z=8∨z=9∨z=10∨z=11∨z=12∨z=13∨z=14∨z=15∨z=16∨z=17∨z=18:=by omega
  rcases this with rfl | rfl | rfl | rfl | rfl | rfl | rfl | rfl | rfl | rfl | rfl | rfl | rfl | rfl | rfl | rfl | rfl | rfl
  all_goals assumption
 ·rw [UM h];exact h0
theorem UO (z:Int):(form z).1.length≤30∧(form z).2.length≤30:=
 Vs (P:=fun x=>x.1.length≤30∧x.2.length≤30) (by decide) (by decide) (by decide) (by decide) (by decide) (by decide) (by decide) (by decide) (by decide) (by decide) (by decide) (by decide) (by decide) (by decide) (by decide) (by decide) (by decide) (by decide) (by decide) z
def Pb (x k:Int):Int:=IntKind.i64.wrap ((BitVec.ofInt IntKind.i64.bits x &&& BitVec.ofInt IntKind.i64.bits k).toNat:Int)
def Vz:Ad:= [115,111,109,101,111,110,101]
def kA:Ad:= [121,111,117]
def single (t:Ad)(i:Int):Bool:=(decide (i=0) || decide (((t.getD (i - 1).toNat 0).toNat:Int)=32)) && (decide (i+1=(t.length:Int)) || decide (((t.getD (i+1).toNat 0).toNat:Int)=32) || decide (((t.getD (i+1).toNat 0).toNat:Int)=46))
def piece (e:Event)(G9 ED t:Ad)(i:Int):Ad:=
 if (!single t i)=true then [t.getD i.toNat 0]
 else if decide (((t.getD i.toNat 0).toNat:Int)=65)=true then G9
 else if decide (((t.getD i.toNat 0).toNat:Int)=79)=true then ED
 else if decide (((t.getD i.toNat 0).toNat:Int)=84)=true then e.BM
 else if decide (((t.getD i.toNat 0).toNat:Int)=68)=true then called e.dir
 else if decide (((t.getD i.toNat 0).toNat:Int)=88)=true then e.text
 else if decide (((t.getD i.toNat 0).toNat:Int)=78)=true then Lib.itoa e.n
 else [t.getD i.toNat 0]
def told (e:Event)(G9 ED t:Ad):Nat→Ad
 | 0=> []
 | k+1=>told e G9 ED t k++piece e G9 ED t k
theorem Fx {e:Event}{G9 ED t:Ad}{k:Int}(h:0≤k):told e G9 ED t (k+1).toNat=told e G9 ED t k.toNat++piece e G9 ED t k:=by
 obtain⟨m,rfl⟩:=Int.eq_ofNat_of_zero_le h
 rfl
def EN (e:Event)(b:Int):Ad:=if decide (b=e.DW)=true then(form e.kind).1 else(form e.kind).2
def II (e:Event)(b:Int):Ad:=if (!decide (Pb (e.H0.at b) 2=0))=true then Vz else e.G9
def WV (e:Event)(b:Int):Ad:=if (!decide (Pb (e.H0.at b) 4=0))=true then Vz else e.ED
def Fk (e:Event)(b:Int):Ad:=if decide (b=e.other)=true then kA else WV e b
def tell (e:Event)(b:Int):Ad × Bool:=
 if (decide (b < 0) || decide (6≤b) || decide (Pb (e.H0.at b) 1=0))=true then([],false)
 else if decide (EN e b = [])=true then([],false)
 else(told e (II e b) (Fk e b) (EN e b) (EN e b).length,true)
structure Small (e:Event):Prop where
 G9:e.G9.length≤2000000
 ED:e.ED.length≤2000000
 BM:e.BM.length≤2000000
 text:e.text.length≤2000000
 n0:-9223372036854775808≤e.n
 n1:e.n≤9223372036854775807
theorem PN (e:Event)(b:Int):(EN e b).length≤30:=by
 unfold EN;split;exact(UO _).1;exact(UO _).2
theorem RD {e:Event}(h:Small e)(b:Int):(II e b).length≤2000000:=by
 unfold II;split;decide;exact h.G9
theorem Pn {e:Event}(h:Small e)(b:Int):(Fk e b).length≤2000000:=by
 unfold Fk WV;split;decide;split;decide;exact h.ED
theorem YG {e:Event}(h:Small e){G9 ED:Ad}(h1:G9.length≤2000000)(h2:ED.length≤2000000)(t:Ad)(i:Int):(piece e G9 ED t i).length≤2000000:=by
 have h3:=h.BM;have h4:=h.text;have h5:=Jn e.dir;have h6:=Lib.itoa_length_le e.n h.n0 h.n1
 unfold piece
 repeat' split
 all_goals first | omega | (simp only [List.length_cons,List.length_nil];omega)
theorem PI {e:Event}(h:Small e){G9 ED:Ad}(h1:G9.length≤2000000)(h2:ED.length≤2000000)(t:Ad):∀ n,(told e G9 ED t n).length≤n * 2000000
 | 0=>by simp [told]
 | n+1=>by
  have:=PI h h1 h2 t n
  have:=YG h h1 h2 t n
  simp only [told,List.length_append];omega
end AH
end Go.Ing
/- What is told: two roads, and whom it does not name. -/
namespace Go.Ing
open Go
namespace AH
theorem aG (x:Int):Pb x 1=x % 2:=by
 have e:(BitVec.ofInt IntKind.i64.bits x &&& BitVec.ofInt IntKind.i64.bits 1).toNat=(x % 2).toNat:=by
  show(BitVec.ofInt 64 x &&& BitVec.ofInt 64 1).toNat=_
  rw [BitVec.toNat_and,BitVec.toNat_ofInt,show(BitVec.ofInt 64 1).toNat=1 from rfl,Nat.and_one_is_mod]
  omega
 unfold Pb
 rw [e,IntWalk.i64_in _ (by omega)]
 omega
theorem YJ (x:Int):decide (Pb x 1=0)=decide (x.tmod 2=0):=by
 rw [aG]
 refine decide_eq_decide.2 ⟨fun h=>Int.tmod_eq_zero_of_dvd (Int.dvd_of_emod_eq_zero h),fun h=>Int.emod_eq_zero_of_dvd (Int.dvd_of_tmod_eq_zero h)⟩
/-! #### said outright, kind by kind -/
def Bn (own:Bool)(a R3 theirs:Ad):Ad:=if own=true then [89,111,117,32]++R3 ++ [32] else a ++ [32]++theirs ++ [32]
def CX (own:Bool)(th:Ad):Ad:=if own=true then [116,104,101,32]++th else [97,32]++th
def fin (s:Ad):Ad × Bool:=(s,!decide (s = []))
def EA (own:Bool)(a o d n th tx:Ad)(z:Int):Ad × Bool:=
 if decide (z=1)=true then(fin (Bn own a [103,111] [103,111,101,115]++d ++ [46]))
 else if decide (z=2)=true then(if (!own)=true then fin (a ++ [32,99,111,109,101,115,32,102,114,111,109,32]++d ++ [46]) else fin [])
 else if decide (z=3)=true then(fin (Bn own a [103,101,116] [103,101,116,115]++CX own th ++ [46]))
 else if decide (z=4)=true then(fin (Bn own a [100,114,111,112] [100,114,111,112,115]++CX own th ++ [46]))
 else if decide (z=5)=true then(fin (Bn own a [112,117,116] [112,117,116,115]++CX own th ++ [32,105,110,116,111,32]++CX own tx ++ [46]))
 else if decide (z=6)=true then(fin (Bn own a [103,105,118,101] [103,105,118,101,115]++CX own th ++ [32,116,111,32]++o ++ [46]))
 else if decide (z=7)=true then(fin (Bn own a [115,97,121,58] [115,97,121,115,58]++tx))
 else if decide (z=8)=true then(fin (Bn own a [111,112,101,110] [111,112,101,110,115]++CX own th ++ [46]))
 else if decide (z=9)=true then(fin (Bn own a [99,108,111,115,101] [99,108,111,115,101,115]++CX own th ++ [46]))
 else if decide (z=10)=true then(fin (Bn own a [108,105,103,104,116] [108,105,103,104,116,115]++CX own th ++ [46]))
 else if decide (z=11)=true then(fin (Bn own a [100,111,117,115,101] [100,111,117,115,101,115]++CX own th ++ [46]))
 else if decide (z=12)=true then(fin (Bn own a [112,117,116,32,111,110] [112,117,116,115,32,111,110]++CX own th ++ [46]))
 else if decide (z=13)=true then(fin (Bn own a [116,97,107,101,32,111,102,102] [116,97,107,101,115,32,111,102,102]++CX own th ++ [46]))
 else if decide (z=14)=true then(fin (Bn own a [104,105,116] [104,105,116,115]++o ++ [32,102,111,114,32]++n ++ [46]))
 else if decide (z=15)=true then(fin (if own=true then [89,111,117,32,100,105,101,46] else a ++ [32,100,105,101,115,46]))
 else if decide (z=16)=true then(if own=true then(tx,true) else fin [])
 else if decide (z=17)=true then(fin (if own=true then [66,101,32,119,101,108,99,111,109,101,46] else a ++ [32,97,114,114,105,118,101,115,46]))
 else if decide (z=18)=true then(if (!own)=true then fin (a ++ [32,102,97,100,101,115,46]) else fin [])
 else fin []
theorem ZH {own:Bool}{a o d n th tx:Ad}{z:Int}(h:¬ (1≤z∧z≤18)):EA own a o d n th tx z=fin []:=by
 unfold EA
 rw [if_neg (show ¬ decide (z=1)=true by simp;omega)]
 rw [if_neg (show ¬ decide (z=2)=true by simp;omega)]
 rw [if_neg (show ¬ decide (z=3)=true by simp;omega)]
 rw [if_neg (show ¬ decide (z=4)=true by simp;omega)]
 rw [if_neg (show ¬ decide (z=5)=true by simp;omega)]
 rw [if_neg (show ¬ decide (z=6)=true by simp;omega)]
 rw [if_neg (show ¬ decide (z=7)=true by simp;omega)]
 rw [if_neg (show ¬ decide (z=8)=true by simp;omega)]
 rw [if_neg (show ¬ decide (z=9)=true by simp;omega)]
 rw [if_neg (show ¬ decide (z=10)=true by simp;omega)]
 rw [if_neg (show ¬ decide (z=11)=true by simp;omega)]
 rw [if_neg (show ¬ decide (z=12)=true by simp;omega)]
 rw [if_neg (show ¬ decide (z=13)=true by simp;omega)]
 rw [if_neg (show ¬ decide (z=14)=true by simp;omega)]
 rw [if_neg (show ¬ decide (z=15)=true by simp;omega)]
 rw [if_neg (show ¬ decide (z=16)=true by simp;omega)]
 rw [if_neg (show ¬ decide (z=17)=true by simp;omega)]
 rw [if_neg (show ¬ decide (z=18)=true by simp;omega)]
def WX (e:Event)(b:Int):Ad × Bool:=
 if (decide (b < 0) || decide (5 < b) || decide ((e.H0.at b).tmod 2=0))=true then([],false)
 else EA (decide (b=e.DW)) (II e b) (Fk e b) (called e.dir) (Lib.itoa e.n) e.BM e.text e.kind
def LZ (e:Event)(w m t:Ad):Nat→Nat→Ad
 | _,0=> []
 | i,n+1=>piece e w m t i++LZ e w m t (i+1) n
theorem Pq {e:Event}{w m t:Ad}:∀ n i:Nat,LZ e w m t i (n+1)=LZ e w m t i n++piece e w m t ((i+n:Nat):Int)
 | 0,i=>by simp [LZ]
 | n+1,i=>by
  rw [LZ,Pq n (i+1),LZ,List.append_assoc,show i+1+n=i+(n+1) by omega]
theorem Zi {e:Event}{w m t:Ad}:∀ n:Nat,told e w m t n=LZ e w m t 0 n
 | 0=>rfl
 | n+1=>by rw [told,Zi n,Pq];simp
def UA (e:Event)(w m t:Ad):Nat→Nat→Ad
 | _,0=> []
 | i,1=>piece e w m t i
 | i,n+2=>piece e w m t i++UA e w m t (i+1) (n+1)
theorem WQ {e:Event}{w m t:Ad}:∀ n i:Nat,UA e w m t i n=LZ e w m t i n
 | 0,i=>rfl
 | 1,i=>by simp [UA,LZ]
 | n+2,i=>by rw [UA,LZ,WQ (n+1)]
theorem Cr {e:Event}{w m t:Ad}(n:Nat):told e w m t n=UA e w m t 0 n:=(Zi n).trans (WQ n 0).symm
section
variable {e:Event} {a o:Ad}
theorem aL:EA true a o (called e.dir) (Lib.itoa e.n) e.BM e.text 1=if decide ((form 1).1 = [])=true then([],false) else(told e a o (form 1).1 (form 1).1.length,true):=by
 rw [Cr]
 refine Eq.trans (b:=fin _) rfl ?_
 refine Eq.trans (b:=(_,true)) (Prod.ext rfl (by first | rfl | simp [fin,Bn,CX])) ?_
 refine Eq.trans (b:=(_,true)) (congrArg (fun s=>(s,true)) ?_) rfl
 first | rfl | (simp only [Bn,CX,Bool.false_eq_true,if_true,if_false,List.append_assoc,List.cons_append,List.nil_append];rfl)
theorem Zh:EA false a o (called e.dir) (Lib.itoa e.n) e.BM e.text 1=if decide ((form 1).2 = [])=true then([],false) else(told e a o (form 1).2 (form 1).2.length,true):=by
 rw [Cr]
 refine Eq.trans (b:=fin _) rfl ?_
 refine Eq.trans (b:=(_,true)) (Prod.ext rfl (by first | rfl | simp [fin,Bn,CX])) ?_
 refine Eq.trans (b:=(_,true)) (congrArg (fun s=>(s,true)) ?_) rfl
 first | rfl | (simp only [Bn,CX,Bool.false_eq_true,if_true,if_false,List.append_assoc,List.cons_append,List.nil_append];rfl)
theorem aF:EA true a o (called e.dir) (Lib.itoa e.n) e.BM e.text 2=if decide ((form 2).1 = [])=true then([],false) else(told e a o (form 2).1 (form 2).1.length,true):=by
 rfl
theorem Z0:EA false a o (called e.dir) (Lib.itoa e.n) e.BM e.text 2=if decide ((form 2).2 = [])=true then([],false) else(told e a o (form 2).2 (form 2).2.length,true):=by
 rw [Cr]
 refine Eq.trans (b:=fin _) rfl ?_
 refine Eq.trans (b:=(_,true)) (Prod.ext rfl (by first | rfl | simp [fin,Bn,CX])) ?_
 refine Eq.trans (b:=(_,true)) (congrArg (fun s=>(s,true)) ?_) rfl
 first | rfl | (simp only [Bn,CX,Bool.false_eq_true,if_true,if_false,List.append_assoc,List.cons_append,List.nil_append];rfl)
theorem ZU:EA true a o (called e.dir) (Lib.itoa e.n) e.BM e.text 3=if decide ((form 3).1 = [])=true then([],false) else(told e a o (form 3).1 (form 3).1.length,true):=by
 rw [Cr]
 refine Eq.trans (b:=fin _) rfl ?_
 refine Eq.trans (b:=(_,true)) (Prod.ext rfl (by first | rfl | simp [fin,Bn,CX])) ?_
 refine Eq.trans (b:=(_,true)) (congrArg (fun s=>(s,true)) ?_) rfl
 first | rfl | (simp only [Bn,CX,Bool.false_eq_true,if_true,if_false,List.append_assoc,List.cons_append,List.nil_append];rfl)
theorem an:EA false a o (called e.dir) (Lib.itoa e.n) e.BM e.text 3=if decide ((form 3).2 = [])=true then([],false) else(told e a o (form 3).2 (form 3).2.length,true):=by
 rw [Cr]
 refine Eq.trans (b:=fin _) rfl ?_
 refine Eq.trans (b:=(_,true)) (Prod.ext rfl (by first | rfl | simp [fin,Bn,CX])) ?_
 refine Eq.trans (b:=(_,true)) (congrArg (fun s=>(s,true)) ?_) rfl
 first | rfl | (simp only [Bn,CX,Bool.false_eq_true,if_true,if_false,List.append_assoc,List.cons_append,List.nil_append];rfl)
theorem Y0:EA true a o (called e.dir) (Lib.itoa e.n) e.BM e.text 4=if decide ((form 4).1 = [])=true then([],false) else(told e a o (form 4).1 (form 4).1.length,true):=by
 rw [Cr]
 refine Eq.trans (b:=fin _) rfl ?_
 refine Eq.trans (b:=(_,true)) (Prod.ext rfl (by first | rfl | simp [fin,Bn,CX])) ?_
 refine Eq.trans (b:=(_,true)) (congrArg (fun s=>(s,true)) ?_) rfl
 first | rfl | (simp only [Bn,CX,Bool.false_eq_true,if_true,if_false,List.append_assoc,List.cons_append,List.nil_append];rfl)
theorem Yz:EA false a o (called e.dir) (Lib.itoa e.n) e.BM e.text 4=if decide ((form 4).2 = [])=true then([],false) else(told e a o (form 4).2 (form 4).2.length,true):=by
 rw [Cr]
 refine Eq.trans (b:=fin _) rfl ?_
 refine Eq.trans (b:=(_,true)) (Prod.ext rfl (by first | rfl | simp [fin,Bn,CX])) ?_
 refine Eq.trans (b:=(_,true)) (congrArg (fun s=>(s,true)) ?_) rfl
 first | rfl | (simp only [Bn,CX,Bool.false_eq_true,if_true,if_false,List.append_assoc,List.cons_append,List.nil_append];rfl)
theorem Y4:EA true a o (called e.dir) (Lib.itoa e.n) e.BM e.text 5=if decide ((form 5).1 = [])=true then([],false) else(told e a o (form 5).1 (form 5).1.length,true):=by
 rw [Cr]
 refine Eq.trans (b:=fin _) rfl ?_
 refine Eq.trans (b:=(_,true)) (Prod.ext rfl (by first | rfl | simp [fin,Bn,CX])) ?_
 refine Eq.trans (b:=(_,true)) (congrArg (fun s=>(s,true)) ?_) rfl
 first | rfl | (simp only [Bn,CX,Bool.false_eq_true,if_true,if_false,List.append_assoc,List.cons_append,List.nil_append];rfl)
theorem Zv:EA false a o (called e.dir) (Lib.itoa e.n) e.BM e.text 5=if decide ((form 5).2 = [])=true then([],false) else(told e a o (form 5).2 (form 5).2.length,true):=by
 rw [Cr]
 refine Eq.trans (b:=fin _) rfl ?_
 refine Eq.trans (b:=(_,true)) (Prod.ext rfl (by first | rfl | simp [fin,Bn,CX])) ?_
 refine Eq.trans (b:=(_,true)) (congrArg (fun s=>(s,true)) ?_) rfl
 first | rfl | (simp only [Bn,CX,Bool.false_eq_true,if_true,if_false,List.append_assoc,List.cons_append,List.nil_append];rfl)
theorem Yj:EA true a o (called e.dir) (Lib.itoa e.n) e.BM e.text 6=if decide ((form 6).1 = [])=true then([],false) else(told e a o (form 6).1 (form 6).1.length,true):=by
 rw [Cr]
 refine Eq.trans (b:=fin _) rfl ?_
 refine Eq.trans (b:=(_,true)) (Prod.ext rfl (by first | rfl | simp [fin,Bn,CX])) ?_
 refine Eq.trans (b:=(_,true)) (congrArg (fun s=>(s,true)) ?_) rfl
 first | rfl | (simp only [Bn,CX,Bool.false_eq_true,if_true,if_false,List.append_assoc,List.cons_append,List.nil_append];rfl)
theorem bL:EA false a o (called e.dir) (Lib.itoa e.n) e.BM e.text 6=if decide ((form 6).2 = [])=true then([],false) else(told e a o (form 6).2 (form 6).2.length,true):=by
 rw [Cr]
 refine Eq.trans (b:=fin _) rfl ?_
 refine Eq.trans (b:=(_,true)) (Prod.ext rfl (by first | rfl | simp [fin,Bn,CX])) ?_
 refine Eq.trans (b:=(_,true)) (congrArg (fun s=>(s,true)) ?_) rfl
 first | rfl | (simp only [Bn,CX,Bool.false_eq_true,if_true,if_false,List.append_assoc,List.cons_append,List.nil_append];rfl)
theorem ZA:EA true a o (called e.dir) (Lib.itoa e.n) e.BM e.text 7=if decide ((form 7).1 = [])=true then([],false) else(told e a o (form 7).1 (form 7).1.length,true):=by
 rw [Cr]
 refine Eq.trans (b:=fin _) rfl ?_
 refine Eq.trans (b:=(_,true)) (Prod.ext rfl (by first | rfl | simp [fin,Bn,CX])) ?_
 refine Eq.trans (b:=(_,true)) (congrArg (fun s=>(s,true)) ?_) rfl
 first | rfl | (simp only [Bn,CX,Bool.false_eq_true,if_true,if_false,List.append_assoc,List.cons_append,List.nil_append];rfl)
theorem Zu:EA false a o (called e.dir) (Lib.itoa e.n) e.BM e.text 7=if decide ((form 7).2 = [])=true then([],false) else(told e a o (form 7).2 (form 7).2.length,true):=by
 rw [Cr]
 refine Eq.trans (b:=fin _) rfl ?_
 refine Eq.trans (b:=(_,true)) (Prod.ext rfl (by first | rfl | simp [fin,Bn,CX])) ?_
 refine Eq.trans (b:=(_,true)) (congrArg (fun s=>(s,true)) ?_) rfl
 first | rfl | (simp only [Bn,CX,Bool.false_eq_true,if_true,if_false,List.append_assoc,List.cons_append,List.nil_append];rfl)
theorem aT:EA true a o (called e.dir) (Lib.itoa e.n) e.BM e.text 8=if decide ((form 8).1 = [])=true then([],false) else(told e a o (form 8).1 (form 8).1.length,true):=by
 rw [Cr]
 refine Eq.trans (b:=fin _) rfl ?_
 refine Eq.trans (b:=(_,true)) (Prod.ext rfl (by first | rfl | simp [fin,Bn,CX])) ?_
 refine Eq.trans (b:=(_,true)) (congrArg (fun s=>(s,true)) ?_) rfl
 first | rfl | (simp only [Bn,CX,Bool.false_eq_true,if_true,if_false,List.append_assoc,List.cons_append,List.nil_append];rfl)
theorem Zn:EA false a o (called e.dir) (Lib.itoa e.n) e.BM e.text 8=if decide ((form 8).2 = [])=true then([],false) else(told e a o (form 8).2 (form 8).2.length,true):=by
 rw [Cr]
 refine Eq.trans (b:=fin _) rfl ?_
 refine Eq.trans (b:=(_,true)) (Prod.ext rfl (by first | rfl | simp [fin,Bn,CX])) ?_
 refine Eq.trans (b:=(_,true)) (congrArg (fun s=>(s,true)) ?_) rfl
 first | rfl | (simp only [Bn,CX,Bool.false_eq_true,if_true,if_false,List.append_assoc,List.cons_append,List.nil_append];rfl)
theorem Z5:EA true a o (called e.dir) (Lib.itoa e.n) e.BM e.text 9=if decide ((form 9).1 = [])=true then([],false) else(told e a o (form 9).1 (form 9).1.length,true):=by
 rw [Cr]
 refine Eq.trans (b:=fin _) rfl ?_
 refine Eq.trans (b:=(_,true)) (Prod.ext rfl (by first | rfl | simp [fin,Bn,CX])) ?_
 refine Eq.trans (b:=(_,true)) (congrArg (fun s=>(s,true)) ?_) rfl
 first | rfl | (simp only [Bn,CX,Bool.false_eq_true,if_true,if_false,List.append_assoc,List.cons_append,List.nil_append];rfl)
theorem Ys:EA false a o (called e.dir) (Lib.itoa e.n) e.BM e.text 9=if decide ((form 9).2 = [])=true then([],false) else(told e a o (form 9).2 (form 9).2.length,true):=by
 rw [Cr]
 refine Eq.trans (b:=fin _) rfl ?_
 refine Eq.trans (b:=(_,true)) (Prod.ext rfl (by first | rfl | simp [fin,Bn,CX])) ?_
 refine Eq.trans (b:=(_,true)) (congrArg (fun s=>(s,true)) ?_) rfl
 first | rfl | (simp only [Bn,CX,Bool.false_eq_true,if_true,if_false,List.append_assoc,List.cons_append,List.nil_append];rfl)
theorem YN:EA true a o (called e.dir) (Lib.itoa e.n) e.BM e.text 10=if decide ((form 10).1 = [])=true then([],false) else(told e a o (form 10).1 (form 10).1.length,true):=by
 rw [Cr]
 refine Eq.trans (b:=fin _) rfl ?_
 refine Eq.trans (b:=(_,true)) (Prod.ext rfl (by first | rfl | simp [fin,Bn,CX])) ?_
 refine Eq.trans (b:=(_,true)) (congrArg (fun s=>(s,true)) ?_) rfl
 first | rfl | (simp only [Bn,CX,Bool.false_eq_true,if_true,if_false,List.append_assoc,List.cons_append,List.nil_append];rfl)
theorem XE:EA false a o (called e.dir) (Lib.itoa e.n) e.BM e.text 10=if decide ((form 10).2 = [])=true then([],false) else(told e a o (form 10).2 (form 10).2.length,true):=by
 rw [Cr]
 refine Eq.trans (b:=fin _) rfl ?_
 refine Eq.trans (b:=(_,true)) (Prod.ext rfl (by first | rfl | simp [fin,Bn,CX])) ?_
 refine Eq.trans (b:=(_,true)) (congrArg (fun s=>(s,true)) ?_) rfl
 first | rfl | (simp only [Bn,CX,Bool.false_eq_true,if_true,if_false,List.append_assoc,List.cons_append,List.nil_append];rfl)
theorem XC:EA true a o (called e.dir) (Lib.itoa e.n) e.BM e.text 11=if decide ((form 11).1 = [])=true then([],false) else(told e a o (form 11).1 (form 11).1.length,true):=by
 rw [Cr]
 refine Eq.trans (b:=fin _) rfl ?_
 refine Eq.trans (b:=(_,true)) (Prod.ext rfl (by first | rfl | simp [fin,Bn,CX])) ?_
 refine Eq.trans (b:=(_,true)) (congrArg (fun s=>(s,true)) ?_) rfl
 first | rfl | (simp only [Bn,CX,Bool.false_eq_true,if_true,if_false,List.append_assoc,List.cons_append,List.nil_append];rfl)
theorem YR:EA false a o (called e.dir) (Lib.itoa e.n) e.BM e.text 11=if decide ((form 11).2 = [])=true then([],false) else(told e a o (form 11).2 (form 11).2.length,true):=by
 rw [Cr]
 refine Eq.trans (b:=fin _) rfl ?_
 refine Eq.trans (b:=(_,true)) (Prod.ext rfl (by first | rfl | simp [fin,Bn,CX])) ?_
 refine Eq.trans (b:=(_,true)) (congrArg (fun s=>(s,true)) ?_) rfl
 first | rfl | (simp only [Bn,CX,Bool.false_eq_true,if_true,if_false,List.append_assoc,List.cons_append,List.nil_append];rfl)
theorem YK:EA true a o (called e.dir) (Lib.itoa e.n) e.BM e.text 12=if decide ((form 12).1 = [])=true then([],false) else(told e a o (form 12).1 (form 12).1.length,true):=by
 rw [Cr]
 refine Eq.trans (b:=fin _) rfl ?_
 refine Eq.trans (b:=(_,true)) (Prod.ext rfl (by first | rfl | simp [fin,Bn,CX])) ?_
 refine Eq.trans (b:=(_,true)) (congrArg (fun s=>(s,true)) ?_) rfl
 first | rfl | (simp only [Bn,CX,Bool.false_eq_true,if_true,if_false,List.append_assoc,List.cons_append,List.nil_append];rfl)
theorem XY:EA false a o (called e.dir) (Lib.itoa e.n) e.BM e.text 12=if decide ((form 12).2 = [])=true then([],false) else(told e a o (form 12).2 (form 12).2.length,true):=by
 rw [Cr]
 refine Eq.trans (b:=fin _) rfl ?_
 refine Eq.trans (b:=(_,true)) (Prod.ext rfl (by first | rfl | simp [fin,Bn,CX])) ?_
 refine Eq.trans (b:=(_,true)) (congrArg (fun s=>(s,true)) ?_) rfl
 first | rfl | (simp only [Bn,CX,Bool.false_eq_true,if_true,if_false,List.append_assoc,List.cons_append,List.nil_append];rfl)
theorem W2:EA true a o (called e.dir) (Lib.itoa e.n) e.BM e.text 13=if decide ((form 13).1 = [])=true then([],false) else(told e a o (form 13).1 (form 13).1.length,true):=by
 rw [Cr]
 refine Eq.trans (b:=fin _) rfl ?_
 refine Eq.trans (b:=(_,true)) (Prod.ext rfl (by first | rfl | simp [fin,Bn,CX])) ?_
 refine Eq.trans (b:=(_,true)) (congrArg (fun s=>(s,true)) ?_) rfl
 first | rfl | (simp only [Bn,CX,Bool.false_eq_true,if_true,if_false,List.append_assoc,List.cons_append,List.nil_append];rfl)
theorem XQ:EA false a o (called e.dir) (Lib.itoa e.n) e.BM e.text 13=if decide ((form 13).2 = [])=true then([],false) else(told e a o (form 13).2 (form 13).2.length,true):=by
 rw [Cr]
 refine Eq.trans (b:=fin _) rfl ?_
 refine Eq.trans (b:=(_,true)) (Prod.ext rfl (by first | rfl | simp [fin,Bn,CX])) ?_
 refine Eq.trans (b:=(_,true)) (congrArg (fun s=>(s,true)) ?_) rfl
 first | rfl | (simp only [Bn,CX,Bool.false_eq_true,if_true,if_false,List.append_assoc,List.cons_append,List.nil_append];rfl)
theorem YA:EA true a o (called e.dir) (Lib.itoa e.n) e.BM e.text 14=if decide ((form 14).1 = [])=true then([],false) else(told e a o (form 14).1 (form 14).1.length,true):=by
 rw [Cr]
 refine Eq.trans (b:=fin _) rfl ?_
 refine Eq.trans (b:=(_,true)) (Prod.ext rfl (by first | rfl | simp [fin,Bn,CX])) ?_
 refine Eq.trans (b:=(_,true)) (congrArg (fun s=>(s,true)) ?_) rfl
 first | rfl | (simp only [Bn,CX,Bool.false_eq_true,if_true,if_false,List.append_assoc,List.cons_append,List.nil_append];rfl)
theorem YP:EA false a o (called e.dir) (Lib.itoa e.n) e.BM e.text 14=if decide ((form 14).2 = [])=true then([],false) else(told e a o (form 14).2 (form 14).2.length,true):=by
 rw [Cr]
 refine Eq.trans (b:=fin _) rfl ?_
 refine Eq.trans (b:=(_,true)) (Prod.ext rfl (by first | rfl | simp [fin,Bn,CX])) ?_
 refine Eq.trans (b:=(_,true)) (congrArg (fun s=>(s,true)) ?_) rfl
 first | rfl | (simp only [Bn,CX,Bool.false_eq_true,if_true,if_false,List.append_assoc,List.cons_append,List.nil_append];rfl)
theorem Xf:EA true a o (called e.dir) (Lib.itoa e.n) e.BM e.text 15=if decide ((form 15).1 = [])=true then([],false) else(told e a o (form 15).1 (form 15).1.length,true):=by
 rw [Cr]
 refine Eq.trans (b:=fin _) rfl ?_
 refine Eq.trans (b:=(_,true)) (Prod.ext rfl (by first | rfl | simp [fin,Bn,CX])) ?_
 refine Eq.trans (b:=(_,true)) (congrArg (fun s=>(s,true)) ?_) rfl
 first | rfl | (simp only [Bn,CX,Bool.false_eq_true,if_true,if_false,List.append_assoc,List.cons_append,List.nil_append];rfl)
theorem X2:EA false a o (called e.dir) (Lib.itoa e.n) e.BM e.text 15=if decide ((form 15).2 = [])=true then([],false) else(told e a o (form 15).2 (form 15).2.length,true):=by
 rw [Cr]
 refine Eq.trans (b:=fin _) rfl ?_
 refine Eq.trans (b:=(_,true)) (Prod.ext rfl (by first | rfl | simp [fin,Bn,CX])) ?_
 refine Eq.trans (b:=(_,true)) (congrArg (fun s=>(s,true)) ?_) rfl
 first | rfl | (simp only [Bn,CX,Bool.false_eq_true,if_true,if_false,List.append_assoc,List.cons_append,List.nil_append];rfl)
theorem W5:EA true a o (called e.dir) (Lib.itoa e.n) e.BM e.text 16=if decide ((form 16).1 = [])=true then([],false) else(told e a o (form 16).1 (form 16).1.length,true):=by
 rw [Cr];rfl
theorem Xm:EA false a o (called e.dir) (Lib.itoa e.n) e.BM e.text 16=if decide ((form 16).2 = [])=true then([],false) else(told e a o (form 16).2 (form 16).2.length,true):=by
 rfl
theorem YI:EA true a o (called e.dir) (Lib.itoa e.n) e.BM e.text 17=if decide ((form 17).1 = [])=true then([],false) else(told e a o (form 17).1 (form 17).1.length,true):=by
 rw [Cr]
 refine Eq.trans (b:=fin _) rfl ?_
 refine Eq.trans (b:=(_,true)) (Prod.ext rfl (by first | rfl | simp [fin,Bn,CX])) ?_
 refine Eq.trans (b:=(_,true)) (congrArg (fun s=>(s,true)) ?_) rfl
 first | rfl | (simp only [Bn,CX,Bool.false_eq_true,if_true,if_false,List.append_assoc,List.cons_append,List.nil_append];rfl)
theorem YC:EA false a o (called e.dir) (Lib.itoa e.n) e.BM e.text 17=if decide ((form 17).2 = [])=true then([],false) else(told e a o (form 17).2 (form 17).2.length,true):=by
 rw [Cr]
 refine Eq.trans (b:=fin _) rfl ?_
 refine Eq.trans (b:=(_,true)) (Prod.ext rfl (by first | rfl | simp [fin,Bn,CX])) ?_
 refine Eq.trans (b:=(_,true)) (congrArg (fun s=>(s,true)) ?_) rfl
 first | rfl | (simp only [Bn,CX,Bool.false_eq_true,if_true,if_false,List.append_assoc,List.cons_append,List.nil_append];rfl)
theorem XN:EA true a o (called e.dir) (Lib.itoa e.n) e.BM e.text 18=if decide ((form 18).1 = [])=true then([],false) else(told e a o (form 18).1 (form 18).1.length,true):=by
 rfl
theorem YO:EA false a o (called e.dir) (Lib.itoa e.n) e.BM e.text 18=if decide ((form 18).2 = [])=true then([],false) else(told e a o (form 18).2 (form 18).2.length,true):=by
 rw [Cr]
 refine Eq.trans (b:=fin _) rfl ?_
 refine Eq.trans (b:=(_,true)) (Prod.ext rfl (by first | rfl | simp [fin,Bn,CX])) ?_
 refine Eq.trans (b:=(_,true)) (congrArg (fun s=>(s,true)) ?_) rfl
 first | rfl | (simp only [Bn,CX,Bool.false_eq_true,if_true,if_false,List.append_assoc,List.cons_append,List.nil_append];rfl)
end
theorem Ub (e:Event)(b:Int):WX e b=tell e b:=by
 unfold WX tell
 rw [YJ,show decide (6≤b)=decide (5 < b) from decide_eq_decide.2 ⟨fun _=>by omega,fun _=>by omega⟩]
 split
 ·rfl
 ·unfold EN
  by_cases h:1≤e.kind∧e.kind≤18
  ·have:e.kind=1∨e.kind=2∨e.kind=3∨e.kind=4∨e.kind=5∨e.kind=6∨e.kind=7∨e.kind=8∨e.kind=9∨e.kind=10∨e.kind=11∨e.kind=12∨e.kind=13∨e.kind=14∨e.kind=15∨e.kind=16∨e.kind=17∨e.kind=18:=by omega
   rcases this with hk | hk | hk | hk | hk | hk | hk | hk | hk | hk | hk | hk | hk | hk | hk | hk | hk | hk
   all_goals rw [hk]
   all_goals cases decide (b=e.DW)
   ·exact Zh
   ·exact aL
   ·exact Z0
   ·exact aF
   ·exact an
   ·exact ZU
   ·exact Yz
   ·exact Y0
   ·exact Zv
   ·exact Y4
   ·exact bL
   ·exact Yj
   ·exact Zu
   ·exact ZA
   ·exact Zn
   ·exact aT
   ·exact Ys
   ·exact Z5
   ·exact XE
   ·exact YN
   ·exact YR
   ·exact XC
   ·exact XY
   ·exact YK
   ·exact XQ
   ·exact W2
   ·exact YP
   ·exact YA
   ·exact X2
   ·exact Xf
   ·exact Xm
   ·exact W5
   ·exact YC
   ·exact YI
   ·exact YO
   ·exact XN
  ·rw [ZH h,UM h]
   cases decide (b=e.DW)<;>rfl
end AH
end Go.Ing
/- Engine: slices that are made, and written element by element. -/
namespace Go.Ing
open Go
theorem VE {C cs:List Value}{o i:Nat}{v:Value}(hc:(C.drop o).take cs.length=cs)(hl:o+cs.length≤C.length)(hi:i < cs.length):((De C (o+i) [v]).drop o).take (cs.set i v).length=cs.set i v:=by
 apply List.ext_getElem?
 intro j
 rw [List.getElem?_take,List.getElem?_drop,EF (by simp;omega),List.length_set]
 by_cases h1:j < cs.length
 ·rw [if_pos h1,List.getElem?_set]
  by_cases h2:i=j
  ·subst h2
   rw [if_neg (by omega),if_pos (by simp),if_pos rfl,if_pos hi]
   simp
  ·rw [if_neg h2]
   have h3:cs[j]?=C[o+j]?:=by
    conv=>lhs;rw [← hc]
    rw [List.getElem?_take,if_pos h1,List.getElem?_drop]
   rw [h3]
   split
   ·rfl
   ·split
    ·rename_i h4 h5;exfalso;simp at h5;omega
    ·rfl
 ·rw [if_neg h1,List.getElem?_eq_none (by simp;omega)]
section
variable {P:Program} {n:Nat} {w0:World} {M:List Nat} {Q:Exit→Go.Act→World→Prop} {F F':List (Nat × Value)} {L L':List Ab} {ops:Array Oper} {rest:List Oper}
theorem Yt {T U E i:Nat}{h:Hd}{cs:List Value}{x y:Operand}{v:Value}(hx:ev F x=some (h.ptr i 1 0))(hy:ev F y=some v)(hv:v.cells = [v].toArray)(h1:v.oneCell'=true)(hT:Sz P T 1)(hi:i < cs.length)(hL:Lc L (Ab.own h E 1 cs) (Ab.own h E 1 (cs.set i v)) L'):PU P n w0 M (.store T x y) U F L L':=by
 intro a w hF hS
 rcases hS.ok _ hL.mem with ⟨_,rfl⟩ | ⟨b,o,C,fz,e1,e2,e3,e4,e5,e6,e7,e8⟩
 ·simp at hi
 ·have hlen:o+cs.length≤C.length:=by have:=Nat.mul_le_mul_right 1 e6;omega
  obtain⟨w',s1,s2,s3,s4,s5,s6,s7⟩:=I4 (P:=P) (o:=o+i) [v] w C 0 e3 (fun u hu=>by simp at hu;subst hu;exact h1) (by simp;omega) e4
  refine⟨w',?_,hS.Dz hL s5 s6 s7 (by omega) (fun k _ hk=>s3 k (by simpa [Ab.own,e1] using hk)) ?_ ?_⟩
  ·rw [Hd.Rr e1] at hx
   simp only [Nat.mul_one,Nat.add_zero] at hx
   simp only [execOp,hF.ev hx,hF.ev hy,Instr.storeAt,Instr.sureAddr,storeVar,hv]
   simp [hT w,s1]
  ·refine .inr ⟨b,o,De C (o+i) [v],fz,e1,by omega,by simpa using s2,?_,?_,e6,?_,?_⟩
   ·rw [Em (by simp;omega)];exact e4
   ·rw [Em (by simp;omega)];exact e5
   ·rw [List.length_set];exact e7
   ·exact VE e8 hlen hi
  ·intro k hk
   simp [Ab.own,e1] at hk
   subst hk
   exact⟨by omega, .inl (by simp [Ab.own,e1])⟩
theorem HG {α:Type}{e:α→List Value}{f:α→Value}(he:∀ x,e x = [f x]):∀ xs:List α,xs.flatMap e=xs.map f
 | []=>rfl
 | x :: r=>by rw [List.flatMap_cons,he,HG he r];rfl
theorem UQ {α:Type}{e:α→List Value}{f:α→Value}(he:∀ x,e x = [f x])(xs:List α)(i:Nat)(x:α):(xs.flatMap e).set i (f x)=(xs.set i x).flatMap e:=by
 rw [HG he,HG he,List.map_set]
theorem Pd {T U E i:Nat}{h:Hd}{xs:List Ad}{s:Ad}{x y:Operand}(hx:ev F x=some (h.ptr i 1 0))(hy:ev F y=some (BW s))(hT:Sz P T 1)(hi:i < xs.length)(hL:Lc L (Ab.own h E 1 (xs.flatMap A6)) (Ab.own h E 1 ((xs.set i s).flatMap A6)) L'):PU P n w0 M (.store T x y) U F L L':=
 Yt (cs:=xs.flatMap A6) hx hy rfl rfl hT (by rw [HG (e:=A6) (f:=BW) (fun _=>rfl),List.length_map];exact hi) (by rw [UQ (e:=A6) (f:=BW) (fun _=>rfl)];exact hL)
theorem ez {T U E i:Nat}{h:Hd}{xs:Ad}{z:Int}{x y:Operand}(hx:ev F x=some (h.ptr i 1 0))(hy:ev F y=some (.int .u8 z))(hz:0≤z∧z≤255)(hT:Sz P T 1)(hi:i < xs.length)(hL:Lc L (Ab.own h E 1 (xs.flatMap Di)) (Ab.own h E 1 ((xs.set i (u8 z)).flatMap Di)) L'):PU P n w0 M (.store T x y) U F L L':=
 Yt (cs:=xs.flatMap Di) hx hy rfl rfl hT (by rw [GK,List.length_map];exact hi) (by
  have:=UQ (e:=Di) (f:=fun c=> .int .u8 (c.toNat:Int)) (fun _=>rfl) xs i (u8 z)
  rw [Sh hz.1 hz.2] at this
  rw [this];exact hL)
theorem XM {d:Nat}{t E:TypeId}{T:TypeId}{pos:String}{Cu:Array Edge}{x y:Operand}{m:Int}(hd:Nat.blt d n=true)(hu:P.underlying t=some (.slice E))(hs:Sz P E 1)(hz:ZV P E (.string ⟨#[]⟩))(hb:BY P E 16)(hx:ev F x=some (.int .i64 m))(hy:ev F y=some (.int .i64 m))(h0:0≤m)(hm:m≤17592186044416)
  (k:∀ b:Nat,GL P n w0 M ops Q rest ((d,Hd.val ⟨some ⟨b,0,none⟩,m.toNat,m.toNat⟩) :: F) (Ab.own ⟨some ⟨b,0,none⟩,m.toNat,m.toNat⟩ E 1 ((List.replicate m.toNat ([]:Ad)).flatMap A6) :: L)):GL P n w0 M ops Q (⟨some d, .makeSlice t x y,T,pos,Cu,none⟩ :: rest) F L:=by
 refine GU (R:=fun v L'=>∃ b:Nat,v=Hd.val ⟨some ⟨b,0,none⟩,m.toNat,m.toNat⟩∧L'=Ab.own ⟨some ⟨b,0,none⟩,m.toNat,m.toNat⟩ E 1 ((List.replicate m.toNat ([]:Ad)).flatMap A6) :: L) hd ?_ (fun v L' ⟨b,e1,e2⟩=>by subst e1;subst e2;exact k b)
 intro a w hF hS
 obtain⟨N,rfl⟩:=Int.eq_ofNat_of_zero_le h0
 have hN:N≤17592186044416:=by omega
 obtain⟨i,hi,hib⟩:=hb
 have hti:∀ w,(typeInfo E).run P w = .ok i w:=fun w=>by simp [typeInfo,hi]
 let C:List Value:=(List.replicate N ([]:Ad)).flatMap A6
 have hC:C=List.replicate N (BW []):=by
  show(List.replicate N ([]:Ad)).flatMap A6=_
  rw [HG (e:=A6) (f:=BW) (fun _=>rfl),List.map_replicate]
 have hCl:C.length=N:=by rw [hC];simp
 have hw1:=hS.alloc E C
 have hS':St w0 M (w.alloc (.cells C.toArray E)) (Ab.own ⟨some ⟨w.heap.size,0,none⟩,N,N⟩ E 1 C :: L):=by
  refine hw1.Dz (.head) rfl rfl rfl (Nat.le_refl _) (fun _ _ _=>rfl) ?_ (fun b hb=>?_)
  ·refine .inr ⟨w.heap.size,0,C,(0,0),rfl,by simp,?_,fun _ _ h=>by simp at h,?_,Nat.le_refl _,?_,?_⟩
   ·have:=hw1.ok _ (List.mem_cons_self ..)
    exact this
   ·show 0+N * 1≤_;omega
   ·show N * 1=_;omega
   ·show(C.drop 0).take _=_
    rw [List.drop_zero,List.take_length]
  ·simp [Ab.own] at hb
   subst hb
   exact⟨by simp, .inl (by simp [Ab.box])⟩
 refine⟨_,_,_,⟨w.heap.size,rfl,rfl⟩,?_,by simpa using hS'⟩
 have hcells:((Array.range N).map fun j=>(#[Value.string ⟨#[]⟩]:Array Value)[j % 1]!)=C.toArray:=by
  apply Array.ext'
  rw [hC]
  simp [BW,Nat.mod_one]
  exact List.eq_replicate_iff.2 ⟨by simp,by simp⟩
 have hwr:IntKind.i64.wrap (N:Int)=N:=IntWalk.i64_in _ (by omega)
 have g1:¬ (281474976710656:Int) < 16 * (N:Int):=by omega
 have hx':=hF.ev hx
 have hy':=hF.ev hy
 have hwr0:IntKind.i64.wrap 0=0:=by decide
 by_cases hN0:N=0
 ·subst hN0
  simp [execOp,hx',hy',Instr.makeSlice,run_underlying hu,hti,hib,hwr0,asInt,asIntOf,hs w,newRow,Hd.val]
  refine congrArg (fun c=>w.alloc (Obj.cells c E)) (Array.ext' ?_)
  rw [List.length_eq_zero_iff.1 hCl,Array.toList_map,Array.toList_range]
  rfl
 ·have g0:¬ (N:Int) < 0:=by omega
  simp [execOp,hx',hy',Instr.makeSlice,run_underlying hu,hti,hib,hwr,g0,g1,asInt,asIntOf,hs w,hN0,hz w,newRow,Hd.val]
  exact congrArg (fun c=>w.alloc (Obj.cells c E)) hcells
theorem aC {T U g sz:Nat}{x:Operand}{vs cs:List Value}(hg:GV g vs w0)(e:cs=vs)(hx:ev F x=some (.pointer (some ⟨g,0,none⟩)))(hT:P6 P T sz)(hl:cs.length=sz):PS P n w0 [] (.load T x) U F L (.agg cs.toArray) L:=by
 intro a w hF hS
 subst e
 obtain⟨t,fz,hb⟩:=hg.st hS
 refine⟨w,?_,rfl,rfl⟩
 simp only [execOp,hF.ev hx,Instr.loadAt,Instr.sureAddr,loadVar]
 simp [hT.1 w,hT.2 w,FF hb (Nat.le_of_eq (by omega:0+sz=cs.length))]
 rw [← hl,List.take_length]
end
end Go.Ing
/- Engine: errors; the numeral that is read. -/
namespace Go.Ing
open Go
def HP (g:Nat)(w:World):Prop:=∃ tp p,GV g [.iface tp p] w
theorem HP.st {g:Nat}{w0 w:World}{L:List Ab}(h:HP g w0)(hS:St w0 [] w L):HP g w:=by
 obtain⟨tp,p,h⟩:=h;exact⟨tp,p,h.st hS⟩
theorem CH.P0 {w w':World}(h:RowKit.Below w.heap.size w w'):CH w w':=⟨h.os,h.tape,h.output,h.size,h.block⟩
section
variable {P:Program} {n:Nat} {w0:World} {M:List Nat} {F:List (Nat × Value)} {L:List Ab}
theorem UL {U V T:TypeId}{ms:Array (String × TypeId)}{x:Operand}(hu:P.underlying U=some (.interface ms))(hx:ev F x=some .nilIface):PS P n w0 M (.binOp .neq U x (.const .nilIface) V) T F L (.bool false) L:=CR fun e w hF=>by
 have hu':(underlying U).run P w = .ok (.interface ms) w:=by simp [underlying,hu]
 have h:∀ d:Nat,(Op.equalIn (d+1) U .nilIface .nilIface).run P w = .ok true w:=fun d=>by simp [Op.equalIn,hu']
 have h2:(Op.equal U .nilIface .nilIface).run P w = .ok true w:=h _
 have hg:e.eval (.const .nilIface) = .nilIface:=rfl
 simp [execOp,hF.ev hx,hg,eqGuard,binOp,h2]
theorem cL {U V T t:TypeId}{ms:Array (String × TypeId)}{v:Value}{x:Operand}(hu:P.underlying U=some (.interface ms))(hx:ev F x=some (.iface t v)):PS P n w0 M (.binOp .neq U x (.const .nilIface) V) T F L (.bool true) L:=CR fun e w hF=>by
 have hu':(underlying U).run P w = .ok (.interface ms) w:=by simp [underlying,hu]
 have h:∀ d:Nat,(Op.equalIn (d+1) U (.iface t v) .nilIface).run P w = .ok false w:=fun d=>by simp [Op.equalIn,hu']
 have h2:(Op.equal U (.iface t v) .nilIface).run P w = .ok false w:=h _
 have hg:e.eval (.const .nilIface) = .nilIface:=rfl
 simp [execOp,hF.ev hx,hg,eqGuard,binOp,h2]
end
theorem ax {P : Program} {ρ : Shelf.Ren} (L : Proofs.LaysC.n172 P ρ) (s : Ad) (hs : s.length ≤ 10000000) {gs gr : Nat} (hgs : P.globalNamed "strconv.ErrSyntax" = some gs) (hgr : P.globalNamed "strconv.ErrRange" = some gr) :
  FO P (ρ.f 172) #[BW s] [] (fun w=>HP gs w∧HP gr w) (fun v B=>(∃ k:Int,Lib.atoiAll s = .ok k∧v = .tuple #[.int .i64 k, .nilIface]∧B = [])∨(∃(k:Int) (t:TypeId) (x:Value),(∀ j,Lib.atoiAll s≠ .ok j)∧v = .tuple #[.int .i64 k, .iface t x]∧B = [])):=by
 intro w hS ⟨⟨tp,p,h1⟩,⟨tq,q,h2⟩⟩
 have v1:=VV hgs h1
 have v2:=VV hgr h2
 have hsz:(⟨s.toArray⟩:ByteArray).size=s.length:=by simp [ByteArray.size]
 have hl:(⟨s.toArray⟩:ByteArray).data.toList=s:=by simp
 cases h:Lib.atoiAll s
 ·rename_i k
  refine Calls.mono (Proofs.Any.strconv_Atoi_ok L ⟨s.toArray⟩ (by omega) k (by rw [hl];exact h) w) fun e w' ⟨e1,e2⟩=>⟨_,e1,[], .inl ⟨k,rfl,rfl,rfl⟩,?_⟩
  rcases e2 with rfl | ⟨t,rfl⟩
  ·exact hS
  ·exact hS.J7 (CH.P0 (Lib.bytesWorld_below _ _ _))
 ·refine Calls.mono (Proofs.Any.strconv_Atoi_syntax_var L ⟨s.toArray⟩ (by omega) (by rw [hl];exact h) tp p w v1) fun e w' ⟨N,e1,_,_,e2⟩=>⟨_,e1,[], .inr ⟨_,_,_,(fun(j:Int) hj=>by cases hj),rfl,rfl⟩,hS.J7 (CH.P0 e2)⟩
 ·refine Calls.mono (Proofs.Any.strconv_Atoi_range_var L ⟨s.toArray⟩ (by omega) (by rw [hl];exact h) tq q w v2) fun e w' ⟨N,e1,_,_,e2⟩=>⟨_,e1,[], .inr ⟨_,_,_,(fun(j:Int) hj=>by cases hj),rfl,rfl⟩,hS.J7 (CH.P0 e2)⟩
theorem Vc {H:Type}{enc:TypeId × Value→H}{P:Program}{w:World}{base:Nat}{sp:Nat→Bool}{held:Bool}{fuel t:Nat}{cs:List Value}{ms:Array (String × TypeId)}{nm:String}{d:DataW H}{p:List MemPlace}(hu:P.underlying t=some (.interface ms))(h:DataW.trod enc P w base sp held fuel t cs=some (.iface nm d,p)):∃ u v,cs = [.iface u v]:=by
 cases fuel with
 | zero=>simp [DataW.trod] at h
 | succ n=>
  unfold DataW.trod at h
  rw [hu] at h
  split at h<;>simp_all
theorem jx {P:Program}{w:World}{laid:List (String × DataW Unit)}{name:String}{d d':DataW Unit}{nm:String}{g:Nat}{t:TypeId}{ms:Array (String × TypeId)}(hL:laidMet P laid w)(hm:(name,d)∈laid)(hd:d = .iface nm d')(hg:P.globalNamed name=some g)(hty:(P.globals[g]?).map (·.type)=some t)(ht:P.underlying t=some (.interface ms)):HP g w:=by
 subst hd
 obtain⟨ps,hv,_⟩:=hL
 obtain⟨g',t',cs,fuel,p,hg',ht',hvar,h⟩:=OV _ _ hv hm
 obtain rfl:=Option.some.inj (hg.symm.trans hg')
 obtain rfl:=Option.some.inj (hty.symm.trans ht')
 obtain⟨u,v,e⟩:=Vc ht h
 exact⟨u,v,Um hg hvar e⟩
end Go.Ing

/- A logic of its own over the kit's weakest preconditions. No condition. -/
import Derived.WalkKit
import Derived.KernelRfl
import Derived.OrdersIn
set_option linter.all false
open List
namespace Go.Sim
variable {P:Program} {α:Type} {ops:List Oper} {d:Option Tmp} {pos:String} {af:Array Edge} {g:Option (Nat×Bool)} {x y:Operand} {Q:Exit->Act->World->Prop} {e:TypeId} {bytes:Nat} {z:Value}
theorem ob {α β:Type} {a:α} {f:α->Option β}:(some a).bind f=f a:=rfl
theorem om {p:Prop} (h:p:=by omega):p:=h
theorem dc {p:Prop} (h:p:=by decide):p:=h
theorem sm {p:Prop} (h:p:=by simp):p:=h
theorem so {p:Prop} (h:p:=by simp;omega):p:=h
theorem oq {p:Prop} (h:p:=by simp[Op.operands]):p:=h
theorem sc {p:Prop} (h:p:=by simp[Op.operands,Call.operands]):p:=h
theorem kr {p:Prop} (h:p:=by kernel_rfl):p:=h
theorem ui {p:Prop} (h:p:=by unfold I64;omega):p:=h
theorem sa {p q:Prop} (h:q) (k:q->p:=by intro h;simpa using h):p:=k h
theorem sy {α:Type} {a b:α} (h:some a=some b):b=a:=(Option.some.inj h).symm
@[reducible] def Lz:=List Int
variable {w:World} {i off:Nat} {new:Nat->Value} {v:Value} {w':World} {xs:List α} {S:Nat->Bool} {vs:List Value} {j cap:Nat} {β:Type} {ps:Array (Nat×Operand)} {draw:Bool} {os:List Oper} {want:Bool} {k':IntKind} {e':TypeId}
def Za:=@Option.bind_some
def Zb:=@if_neg
def Zc:=@if_pos
def Zd:=@List.getElem?_eq_getElem
def Ze:=@List.length_append
def Zf:=@List.getElem?_eq_some_iff
def Zg:=@List.getD_eq_getElem?_getD
def Zh:=@Bool.and_eq_true
def Zi:=@List.mem_singleton
def Zj:=@List.length_cons
def Zk:=@decide_eq_true_eq
def Zl:=@Result.andThen_ok
def Zm:=@List.length_nil
def Zn:=@Option.some.inj
def Zo:=@List.mem_of_getElem?
def Zp:=@List.mem_cons
def Zq:=@Nat.le_refl
def Zr:=@List.getElem_mem
def Zs:=@List.mem_cons_self
def Zt:=@of_decide_eq_true
def Zu:=@Int.toNat_natCast
def Zv:=@List.getElem?_append_left
def Zw:=@List.take_of_length_le
def Zx:=@Int.le_refl
def Zy:=@of_decide_eq_false
def Zz:=@List.take_succ_eq_append_getElem
def ZA:=@List.getElem?_append_right
def ZB:=@Int.eq_ofNat_of_zero_le
def ZD:=@List.all_eq_true
def ZE:=@List.mem_cons_of_mem
def ZF:=@List.not_mem_nil
def ZG:=@Bool.or_eq_true
def ZH:=@List.mem_append
def ZI:=@decide_eq_false_iff_not
def ZJ:=@List.append_assoc
def ZK:=@List.length_set
def ZL:=@forall_eq_or_imp
def ZM:=@List.flatMap_append
def ZN:=@or_false
def ZP:=@Nat.lt_of_lt_of_le
def ZQ:=@Option.some.injEq
def ZR:=@List.mem_map
def ZS:=@Option.getD_some
def ZT:=@Int.ofNat_lt
def ZU:=@congrArg
def ZW:=@List.eq_nil_of_length_eq_zero
def ZX:=@List.mem_iff_getElem?
def ZY:=@List.length_take
def ZZ:=@List.findIdx?_eq_some_iff_getElem
def Ya:=@List.mem_flatMap
def Yb:=@Option.map_some
def Yc:=@List.getElem?_map
def Yd:=@List.mem_range
def Ye:=@Bool.not_eq_true
def Yf:=@Prod.mk.injEq
def Yg:=@List.append_nil
def Yh:=@List.length_map
def Yi:=@List.length_drop
def Yj:=@beq_iff_eq
def Yk:=@Bool.not_eq_true'
def Yl:=@List.nil_append
def Ym:=@List.range_succ
def Yn:=@List.mem_filter
def Yo:=@Bool.false_eq_true
def Yp:=@List.any_eq_true
def Yq:=@List.drop_eq_getElem_cons
def Yr:=@List.length_replicate
def Ys:=@List.map_cons
def Yt:=@Nat.le_trans
def Yu:=@List.map_append
def Yv:=@List.getElem_of_mem
def Yw:=@List.take_append_drop
def Yx:=@List.mem_filterMap
def Yy:=@List.map_nil
def Yz:=@List.getElem?_range
def YA:=@Bool.eq_iff_iff
def YB:=@List.length_range
def YC:=@Nat.add_assoc
theorem sf {p:Prop} (h:p:=by simp only[Ze,Zj,Zm];omega):p:=h
abbrev Blk:=Nat->Prop
variable {F F' M B:Blk}
def sj {a b:α} (h:some a=some b):a=b:=Zn h
def leb {a b:Nat} (h:Nat.ble a b=true):a<=b:=Nat.le_of_ble_eq_true h
structure Step (B:Blk) (w w':World):Prop where
 os:w'.os=w.os
 tape:w'.tape=w.tape
 output:w'.output=w.output
 size:w.heap.size<=w'.heap.size
 same:∀k,k<w.heap.size->¬B k->w'.heap[k]?=w.heap[k]?
abbrev Grow (w w':World):Prop:=Step (λ_=>False) w w'
def Step.refl (B:Blk) (w:World):Step B w w:=⟨rfl,rfl,rfl,Zq _,λ_ _ _=>rfl⟩
def Step.trans {C:Blk} {a b c:World} (h:Step B a b) (k:Step C b c) (l:∀i,C i->i<a.heap.size->B i):Step B a c:=⟨k.os.trans h.os,k.tape.trans h.tape,k.output.trans h.output,Yt h.size k.size,λi hi f=>(k.same i (ZP hi h.size) (λhc=>f (l i hc hi))).trans (h.same i hi f)⟩
def Step.mono {C:Blk} {a b:World} (h:Step B a b) (c:∀i,B i->C i):Step C a b:=⟨h.os,h.tape,h.output,h.size,λk f hc=>h.same k f (λhb=>hc (c k hb))⟩
def Step.alloc (w:World) (o:Obj):Grow w (w.alloc o):=⟨rfl,rfl,rfl,sm,λk c _=>Go.RowKit.Below.heap_alloc w o k c⟩
def Step.drew (h:Step B w w'):Step B w w'.drew:=⟨h.os,h.tape,h.output,h.size,h.same⟩
structure Ty where
 ok:Blk->World->Value->Prop
 keep:∀{F F':Blk} {w w':World} {v:Value},(∀k,F k->F' k)->(∀k,F k->w'.heap[k]?=w.heap[k]?)->ok F w v->ok F' w' v
variable {Ts:List Ty} {T U:Ty} {Γ:List (Nat×Ty)} {Us:List Ty}
structure Atom where
 fp:Blk
 ok:Blk->World->Prop
 keep:∀{F F':Blk} {w w':World},(∀k,F k->F' k)->(∀k,F k->w'.heap[k]?=w.heap[k]?)->(∀k,fp k->w'.heap[k]?=w.heap[k]?)->ok F w->ok F' w'
variable {E As:List Atom}
def free (M:Blk) (w:World):Blk:=λk=>k<w.heap.size/\¬M k
def get (a:Act) (d:Nat):Value:=a.tmps.getD d undef
def VJ (a:Act) (o:Option Nat) (v:Value):(a.put o v).tmps.size=a.tmps.size:=by cases o<;>simp[Act.put]
def put_defers' (a:Act) (o:Option Nat) (v:Value):(a.put o v).defers=a.defers:=by cases o<;>rfl
def VK (a:Act) (d:Nat) (v:Value) (h:d<a.tmps.size):get (a.put (some d) v) d=v:=by simp[get,Act.put,h]
def NU (a:Act) (o:Option Nat) (v:Value) (d:Nat) (h:o≠some d):get (a.put o v) d=get a d:=by
 cases o with
 | none=>rfl
 | some e=>have hne:e≠d:=λc=>h (c▸rfl);simp[get,Act.put,Array.getElem?_setIfInBounds_ne hne]
def Does (P:Program) (o:Oper) (a:Act) (w:World) (R:Value->World->Prop):Prop:=
 match (execOp a.eval o).run P w with
 | .ok (.value v) w'=>R v w'
 | .ok .skip w'=>R undef w'
 | .ok (.enter f args) w'=>Calls P f args w' (λe h=>∃v,e=.returned v/\R v h)
 | .ok (.round l f tmps c body) w'=>RoundIn Fence.wide 0 P l f tmps c body w' (λe h=>∃v,e=.returned v/\R v h)
 | _=>False
def Does.wp {o:Oper} {a:Act} {R:Value->World->Prop} {K:Act->World->Prop} (h:Does P o a w R) (c:∀v w',R v w'->K (a.put o.dst v) w'):o.wpIn Fence.wide 0 P a w K Q:=by
 unfold Does at h;unfold Oper.wpIn;refine⟨λ_ _=>trivial,?_⟩;rw[show Fence.wide.round=none from rfl,Oper.semAt_none];generalize (execOp a.eval o).run P w=r at h ⊢
 cases r with
 | ok n w'=>
  cases n<;>simp only[Oper.uponIn] at h ⊢<;>first
   | exact c _ _ h
   | exact⟨λf=>(by cases f),callsIn_wide.2 (Calls.mono h (λe l ⟨v,m,p⟩=>by subst m;exact c _ _ p))⟩
   | exact⟨λf=>(by cases f),RoundIn.mono h (λe l ⟨v,m,p⟩=>by subst m;exact c _ _ p)⟩
   | exact h.elim
 | halt x w'=>exact h.elim
def Does.mono {o:Oper} {a:Act} {R R':Value->World->Prop} (h:Does P o a w R) (c:∀v w',R v w'->R' v w'):Does P o a w R':=by
 unfold Does at *;generalize (execOp a.eval o).run P w=r at *
 cases r with
 | ok n w'=>
  cases n<;>simp only at h ⊢<;>first
   | exact c _ _ h
   | exact Calls.mono h (λe f ⟨v,l,m⟩=>⟨v,l,c _ _ m⟩)
   | exact RoundIn.mono h (λe f ⟨v,l,m⟩=>⟨v,l,c _ _ m⟩)
 | halt x w'=>exact h
def ins (S:Nat->Bool) (i:Nat):Nat->Bool:=λj=>j==i||S j
section order
variable {ops:Array Oper}
def H6 (P:Program) (ops:Array Oper) (Q:Exit->Act->World->Prop) (Inv:(Nat->Bool)->Act->World->Prop):Prop:=∀(S:Nat->Bool) (i:Nat) (o:Oper) (a:Act) (w:World),ops[i]?=some o->S i=false->(∀e∈o.after,Region.binds .any e=true->S e.on=true)->Inv S a w->wpOpIn Fence.wide 0 P ops Q i (Inv (ins S i)) a w
def Acyc (ops:Array Oper):Prop:=∀(i:Nat) (o:Oper),ops[i]?=some o->∀e∈o.after,Region.binds .any e=true->e.on<i
def VL {Inv:(Nat->Bool)->Act->World->Prop} (q:H6 P ops Q Inv) (f:Acyc ops)
  (l:∀S a w,(∀i,i<ops.size->S i=true)->Inv S a w->Q .normal a w):
  ∀(m k:Nat),k+m=ops.size->∀a w,Inv (λj=>decide (j<k)) a w->wpOpsIn Fence.wide 0 P ops Q (range' k m) a w:=by
 intro m
 induction m with
 | zero=>
  intro k r a w h;refine l _ a w (λi hi=>?_) h;have:i<k:=by omega
  simp[this]
 | succ m s=>
  intro k r a w h;rw[range'_succ,wpOpsIn_cons];have o:k<ops.size:=by omega
  have c:ops[k]?=some ops[k]:=Array.getElem?_eq_getElem o;have:=q _ k ops[k] a w c sm (λe u hb=>by have:=f k _ c e u hb;simp[this]) h;refine wpOpIn_mono (λA w' p=>?_) this;have e:ins (λj=>decide (j<k)) k=λj=>decide (j<k+1):=by
   funext j
   simp only[ins];rw[YA];simp;omega
  rw[e] at p;exact s (k+1) om A w' p
def Je (l:Array Bool):Nat:=l.toList.countP (λb=>!b)
def VM:∀(l:List Bool) (i:Nat),l[i]?=some false->(l.set i true).countP (λb=>!b)+1=l.countP (λb=>!b)
 | [],i,h=>by simp at h
 | b::l,0,h=>by simp at h;subst h;simp
 | b::l,i+1,h=>by have:=VM l i (sa h);simp only[set_cons_succ,countP_cons];omega
def jQ {c:Array Bool} (r:c.size=ops.size) (o:Acyc ops) (h:Region.ready .any ops c=[]):∀i,i<ops.size->c.getD i false=true:=by
 intro i
 induction i using Nat.strongRecOn with
 | _ i s=>
  intro hi;rcases hb:c.getD i false with _ | _
  ·exfalso;have f:i∈Region.ready .any ops c:=by
    unfold Region.ready;have l:ops[i]?=some ops[i]:=Array.getElem?_eq_getElem hi;have hl:c.getD i true=false:=by
     have p:i<c.size:=by omega
     simp only[Array.getD_eq_getD_getElem?,Array.getElem?_eq_getElem p,ZS] at hb ⊢;exact hb
    simp only[Yn,Yd,hi,hl,l,Yb,ZS,Bool.not_false,Bool.true_and,true_and];rw[Array.all_eq_true'];intro e u;by_cases m:Region.binds .any e=true
    ·have q:=o i _ l e u m;have:=s e.on q om;simp only[this,Bool.or_true]
    ·simp[m]
   rw[h] at f;simp at f
  ·rfl
def VN {Inv:(Nat->Bool)->Act->World->Prop} (H:H6 P ops Q Inv) (u:Acyc ops)
  (q:∀S a w,(∀i,i<ops.size->S i=true)->Inv S a w->Q .normal a w):
  ∀(fuel:Nat) (c:Array Bool) (a:Act) (w:World),c.size=ops.size->Je c<=fuel->Inv (λj=>c.getD j false) a w->wpAnyIn Fence.wide 0 P .any ops Q fuel c a w:=by
 intro fuel
 induction fuel with
 | zero=>
  intro c a w o hu h;have l:∀i,i<ops.size->c.getD i false=true:=by
   intro i hi;have f:i<c.size:=by omega
   have h0:c.toList.countP (λb=>!b)=0:=by unfold Je at hu;omega
   rw[countP_eq_zero] at h0;have:=h0 (c[i]) sm;simp only[Array.getD_eq_getD_getElem?,Array.getElem?_eq_getElem f,ZS];simpa using this
  refine⟨?_,q _ a w l h⟩;unfold Region.ready;rw[filter_eq_nil_iff];intro i hi;have hi:i<ops.size:=by simpa using hi
  have f:i<c.size:=by omega
  have:=l i hi;simp only[Array.getD_eq_getD_getElem?,Array.getElem?_eq_getElem f,ZS] at this ⊢;simp[this]
 | succ fuel I=>
  intro c a w o hu h;refine⟨λr=>q _ a w (jQ o u r) h,λi hi=>?_⟩;unfold Region.ready at hi;simp only[Yn,Yd,Zh,Yk] at hi;have⟨hi,hl,r⟩:=hi;have m:ops[i]?=some ops[i]:=Array.getElem?_eq_getElem hi;have f:i<c.size:=by omega
  have s:c[i]=false:=by simpa[Array.getD_eq_getD_getElem?,Array.getElem?_eq_getElem f] using hl
  have A:c.getD i false=false:=by simp[Array.getD_eq_getD_getElem?,Array.getElem?_eq_getElem f,s]
  simp only[m,Yb,ZS] at r;rw[Array.all_eq_true'] at r;have p:=H (λj=>c.getD j false) i ops[i] a w m A (λe K hb=>by have:=r e K;simpa[hb] using this) h;refine wpOpIn_mono (λL w' C=>?_) p;apply I _ L w' (by simp[o])
  ·have:=VM c.toList i (by simp[f,s]);unfold Je at hu ⊢;rw[Array.toList_setIfInBounds];omega
  ·have e:ins (λj=>c.getD j false) i=λj=>(c.setIfInBounds i true).getD j false:=by
    funext j
    simp only[ins,Array.getD_eq_getD_getElem?,Array.getElem?_setIfInBounds];by_cases D:i=j
    ·subst D;simp[f]
    ·have:(j==i)=false:=by simp;omega
     simp[this,D]
   rw[e] at C;exact C
def j3 {Inv:(Nat->Bool)->Act->World->Prop} {id:Nat} {a:Act} (hm:draw=true->P.follows .mixedOrders=true) (h:H6 P ops Q Inv) (c:Acyc ops) (f:∀S a w,(∀i,i<ops.size->S i=true)->Inv S a w->Q .normal a w) (h0:∀w',w'=w\/w'=w.drew->Inv (λ_=>false) a w'):(Code.region id ops draw).wp P Q a w:=by
 refine (wpIn_wide (n:=0)).1 ?_
 cases draw with
 | false=>apply wpIn_region;rw[range_eq_range'];exact VL h c f ops.size 0 om a w (sa (h0 w (.inl rfl)))
 | true=>
  apply wpIn_region_any (hm rfl);apply VN h c f ops.size _ a _ sm
  ·unfold Je;have:=countP_le_length (p:=λb=>!b) (l:=(Array.replicate ops.size false).toList);simpa using this
  ·have e:(λj=>(Array.replicate ops.size false).getD j false)=λ_=>false:=by
    funext j
    simp only[Array.getD_eq_getD_getElem?,Array.getElem?_replicate];split<;>rfl
   rw[e];exact h0 w.drew (.inr rfl)
end order
def tv (v:Value):Ty:=⟨λ_ _ u=>u=v,λ_ _ h=>h⟩
def CE (c:Bool) (T:Ty):Ty:=⟨λF w v=>(c=true->T.ok F w v)/\(c=false->v=undef),λf l h=>⟨λhc=>T.keep f l (h.1 hc),h.2⟩⟩
def tany:Ty:=⟨λ_ _ _=>True,λ_ _ _=>trivial⟩
structure TyN where
 ds:List Nat
 f:List Value->Ty
def TyN.ty (new:Nat->Value) (T:TyN):Ty:=T.f (T.ds.map new)
structure Info where
 ty:TyN
 use:List Nat
 eat:List Nat
 make:List Nat
variable {is:List Info}
structure Ver where
 ds:List Nat
 f:List Value->Atom
variable {V:List Ver}
def Atom.none:Atom:=⟨λ_=>False,λ_ _=>True,λ_ _ _ _=>trivial⟩
def ver (V:List Ver) (u:Nat) (new:Nat->Value):Atom:=match V[u]? with | some p=>p.f (p.ds.map new) | none=>Atom.none
def AR (E:List Atom):Blk:=λk=>∃A∈E,A.fp k
def next (M:Blk) (E N:List Atom):Blk:=λk=>(M k/\¬AR E k)\/AR N k
def BA (As:List Atom):Prop:=As.Pairwise λA B=>∀k,A.fp k->¬B.fp k
def D4 (Γ:List (Nat×Ty)) (xs:Array Operand) (F:Blk) (w:World) (a:Act):Prop:=∀p∈Γ,Operand.tmp p.1∈xs->p.2.ok F w (get a p.1)
structure Made (M:Blk) (E N:List Atom) (w w':World):Prop where
 apart:BA N
 place:∀A∈N,∀k,A.fp k->(AR E k\/w.heap.size<=k)/\k<w'.heap.size
 ok:∀A∈N,A.ok (free (next M E N) w') w'
def DL (M:Blk) (E:List Atom) (w:World):Prop:=∀A∈E,A.ok (free M w) w/\∀k,A.fp k->M k
def OpJ (P:Program) (o:Oper) (Γ:List (Nat×Ty)) (U E:List Atom) (N:Value->List Atom) (T:Value->Ty):Prop:=∀(M:Blk) (w:World) (a:Act),(∀k,M k->k<w.heap.size)->DL M U w->DL M E w->BA E->(∀A∈U,∀B∈E,∀k,A.fp k->¬B.fp k)->D4 Γ o.op.operands (free M w) w a->Does P o a w λv w'=>∃x,Step (AR E) w w'/\Made M E (N x) w w'/\(T x).ok (free (next M E (N x)) w') w' v
def Grd (Γ:List (Nat×Ty)) (d:Nat) (want:Bool) (c:Bool):Prop:=∀(F:Blk) (w:World) (a:Act),(∀p∈Γ,p.1=d->p.2.ok F w (get a p.1))->(match get a d with | .bool b=>b==want | _=>false)=c
def addD (d:Option Nat) (T:Ty) (Γ:List (Nat×Ty)):List (Nat×Ty):=match d with | some d=>(d,T)::Γ | none=>Γ
def upd (new:Nat->Value) (i:Nat) (x:Value):Nat->Value:=λj=>bif Nat.beq j i then x else new j
def NV {x:Value}:upd new i x i=x:=by simp[upd]
def FF {x:Value} (h:j≠i):upd new i x j=new j:=by have:Nat.beq j i=false:=Bool.eq_false_iff.2 λhb=>h (Nat.eq_of_beq_eq_true hb);simp[upd,this]
inductive J (P:Program) (ops:List Oper) (V:List Ver) (new:Nat->Value) (Γ:List (Nat×Ty)) (i:Nat) (o:Oper) (I:Info):Prop where
 | plain (hg:o.guard=none) (h:OpJ P o Γ (I.use.map λu=>ver V u new) (I.eat.map λu=>ver V u new) (λx=>I.make.map λu=>ver V u (upd new i x)) (λx=>I.ty.ty (upd new i x)))
 | guard (g:Nat) (want:Bool) (dg:Nat) (c:Bool) (T:Ty) (hg:o.guard=some (g,want)) (hd:(ops[g]?).bind (·.dst)=some dg) (hc:Grd Γ dg want c)
   (he:I.eat=[]) (hm:I.make=[]) (ht:I.ty.ty new=CE c T) (hds:i∉I.ty.ds) (h:c=true->OpJ P o Γ (I.use.map λu=>ver V u new) [] (λ_=>[]) (λ_=>T))
 | guardE (g:Nat) (want:Bool) (dg:Nat) (c:Bool) (hg:o.guard=some (g,want)) (hd:(ops[g]?).bind (·.dst)=some dg) (hc:Grd Γ dg want c)
   (h:c=true->OpJ P o Γ (I.use.map λu=>ver V u new) (I.eat.map λu=>ver V u new) (λx=>I.make.map λu=>ver V u (upd new i x)) (λx=>I.ty.ty (upd new i x)))
   (h0:c=false->(I.make.map λu=>ver V u (upd new i undef))=(I.eat.map λu=>ver V u new)/\∀F w,(I.ty.ty (upd new i undef)).ok F w undef)
inductive Run (P:Program) (ops:List Oper) (V:List Ver) (new:Nat->Value):Nat->List (Nat×Ty)->List Oper->List Info->Prop where
 | nil (i:Nat) (Γ:List (Nat×Ty)):Run P ops V new i Γ [] []
 | step {i:Nat} {Γ:List (Nat×Ty)} {o:Oper} {I:Info} {os:List Oper} {is:List Info} (h:J P ops V new Γ i o I) (hs:Run P ops V new (i+1) (addD o.dst (I.ty.ty new) Γ) os is):Run P ops V new i Γ (o::os) (I::is)
def Run.length {k:Nat} (h:Run P ops V new k Γ os is):is.length=os.length:=by
 induction h with
 | nil=>rfl
 | step _ _ c=>simp[c]
def Run.get {k:Nat} (h:Run P ops V new k Γ os is):
  ∀(i:Nat) (o:Oper),os[i]?=some o->∃I Γ',is[i]?=some I/\J P ops V new Γ' (k+i) o I/\∀p∈Γ',p∈Γ\/∃j oj f,j<i/\os[j]?=some oj/\is[j]?=some f/\oj.dst=some p.1/\p.2=f.ty.ty new:=by
 induction h with
 | nil=>intro i o h;simp at h
 | @step k Γ o I os is q L r=>
  intro i o' l
  cases i with
  | zero=>simp at l;subst l;exact⟨I,Γ,sm,q,λp hp=>.inl hp⟩
  | succ i=>
   have⟨s,Γ',u,A,c⟩:=r i o' (sa l);refine⟨s,Γ',by simpa using u,by rw[show k+(i+1)=k+1+i by omega];exact A,λp hp=>?_⟩;rcases c p hp with h | ⟨j,oj,f,N,C,D,H,K⟩
   ·unfold addD at h
    cases m:o.dst with
    | none=>rw[m] at h;exact .inl h
    | some d=>
     rw[m] at h;rcases Zp.1 h with h | h
     ·subst h;exact .inr ⟨0,o,I,om,sm,sm,m,rfl⟩
     ·exact .inl h
   ·exact .inr ⟨j+1,oj,f,om,by simpa using C,by simpa using D,H,K⟩
def NW (c:List Nat) (o:Oper):Nat:=o.after.toList.foldl (λm e=>if Region.binds .any e then m||| ((1<<<e.on)||| c.getD e.on 0) else m) 0
def FG:List Nat->List Oper->List Nat
 | acc,[]=>acc
 | acc,o::os=>FG (acc++[NW acc o]) os
def bit (c:List Nat) (i j:Nat):Bool:=(c.getD i 0).testBit j
def mkOf (is:List Info) (i:Nat):List Nat:=match is[i]? with | some I=>I.make | none=>[]
def DA (is:List Info) (i:Nat):List Nat:=match is[i]? with | some I=>I.eat | none=>[]
def Bj:List Nat->Bool | []=>true | x::xs=>!xs.contains x&&Bj xs
def VO (ops:List Oper):Bool:=(range ops.length).all λi=>match ops[i]? with | some o=>o.after.toList.all λe=>!Region.binds .any e||decide (e.on<i) | none=>true
def VP (ops:List Oper) (f ds:List Nat) (c:List Nat):Bool:=
 (range ops.length).all λi=>match ops[i]? with
  | some o=>(o.looksAt ops.toArray).all λd=>(range ops.length).all λj=>(ds.getD j 0 !=d+1)||(if j<i then bit f i j&&!c.contains d else decide (i<j)&&bit f j i)
  | none=>true
def dsts (ops:List Oper):List Nat:=ops.map λo=>match o.dst with | some d=>d+1 | none=>0
def VR (ds:List Nat):Bool:=(range ds.length).all λi=>(ds.getD i 0==0)||(range i).all λj=>ds.getD j 0 !=ds.getD i 0
def VS (ds:List Nat) (n:Nat):Bool:=ds.all λd=>decide (d<=n)
def VU (is:List Info) (f:List Nat) (l:List (List Nat)) (k0 h:Nat):Bool:=
 (range is.length).all λi=>match is[i]? with
  | some I=>((I.use++I.eat).all λu=>decide (u<h)&&(decide (u<k0)||(range is.length).any λp=>(mkOf is p).contains u&&bit f i p)&&
    (range is.length).all λc=>!(DA is c).contains u||(c==i)||bit f c i)&&
   (I.make.all λu=>decide (k0<=u)&&decide (u<h)&&((range i).all λj=>!(mkOf is j).contains u)&&((l.getD u []).all λd=>d==i||bit f i d))&&
   (I.eat.all λu=>((range i).all λj=>!(DA is j).contains u)&&!I.use.contains u)&&
   (I.ty.ds.all λd=>d==i||bit f i d)&&Bj I.eat&&Bj I.make
  | none=>true
def j4 (is:List Info) (k0 c:Nat):Bool:=(range c).all λu=>decide (u<k0)||(range is.length).any λp=>(mkOf is p).contains u
def chk (ops:List Oper) (is:List Info) (h:List (List Nat)) (c:List Nat) (k0 f n:Nat):Bool:=VO ops&&VP ops (FG [] ops) (dsts ops) c&&VR (dsts ops)&&VS (dsts ops) n&&VU is (FG [] ops) h k0 f&&j4 is k0 f
def Down (ops:List Oper) (S:Nat->Bool):Prop:=∀(i:Nat) (o:Oper),ops[i]?=some o->S i=true->∀e∈o.after,Region.binds .any e=true->S e.on=true
def Pre (ops:List Oper) (i:Nat) (S:Nat->Bool):Prop:=∀(o:Oper),ops[i]?=some o->∀e∈o.after,Region.binds .any e=true->S e.on=true
def j5 (c:List Nat) (o:Oper) (j:Nat) (h:(NW c o).testBit j=true):∃e∈o.after,Region.binds .any e=true/\(e.on=j\/(c.getD e.on 0).testBit j=true):=by
 unfold NW at h;have key:∀(l:List Edge) (m:Nat),(l.foldl (λm e=>if Region.binds .any e then m||| ((1<<<e.on)||| c.getD e.on 0) else m) m).testBit j=true->
   m.testBit j=true\/∃e∈l,Region.binds .any e=true/\(e.on=j\/(c.getD e.on 0).testBit j=true):=by
  intro l
  induction l with
  | nil=>intro m h;exact .inl h
  | cons e l p=>
   intro m h;simp only[foldl_cons] at h;rcases p _ h with h | ⟨e',f,r⟩
   ·by_cases hb:Region.binds .any e=true
    ·rw[Zc hb] at h;simp only[Nat.testBit_or,ZG] at h;rcases h with h | h | h
     ·exact .inl h
     ·refine .inr ⟨e,sm,hb,.inl ?_⟩;rw[Nat.one_shiftLeft,Nat.testBit_two_pow] at h;simpa using h
     ·exact .inr ⟨e,sm,hb,.inr h⟩
    ·rw[Zb hb] at h;exact .inl h
   ·exact .inr ⟨e',by simp[f],r⟩
 rcases key o.after.toList 0 h with h | ⟨e,q,r⟩
 ·simp at h
 ·exact⟨e,by simpa using q,r⟩
def j6:∀(os:List Oper) (c:List Nat) (pre:List Oper),pre++os=ops->c.length=pre.length->
  (∀i j,(c.getD i 0).testBit j=true->∀S,Down ops S->Pre ops i S->S j=true)->
  ∀i j,((FG c os).getD i 0).testBit j=true->∀S,Down ops S->Pre ops i S->S j=true:=by
 intro os
 induction os with
 | nil=>intro c pre _ _ h;exact h
 | cons o os u=>
  intro c pre hp hl h;apply u (c++[NW c o]) (pre++[o]) (by simp[hp]) (by simp[hl]);intro i j hb S l r;rcases Nat.lt_trichotomy i c.length with hi | hi | hi
  ·rw[Zg,Zv hi,<-Zg] at hb;exact h i j hb S l r
  ·subst hi;rw[Zg,ZA (Zq _)] at hb;simp only[Nat.sub_self,getElem?_cons_zero,ZS] at hb;have⟨e,A,m,p⟩:=j5 c o j hb;have f:ops[c.length]?=some o:=by rw[<-hp,hl,ZA (Zq _)];simp
   have s:=r o f e A m;rcases p with rfl | p
   ·exact s
   ·exact h e.on j p S l (λo' q=>l e.on o' q s)
  ·rw[Zg,getElem?_eq_none so] at hb;simp at hb
def Jf (h:bit (FG [] ops) i j=true) (c:Down ops S) (f:Pre ops i S):S j=true:=j6 ops [] [] rfl rfl (λi j h=>by simp at h) i j h S c f
def Gm {d:Nat} {o:Oper} (c:ops[i]?=some o) (f:o.dst=some d):(dsts ops).getD i 0=d+1:=by simp[dsts,Zg,c,f]
def j7 (h:VO ops=true):Acyc ops.toArray:=by intro i o c e f hb;simp only[getElem?_toArray] at c;have hi:i<ops.length:=(Zf.1 c).1;have:=ZD.1 h i (sa hi);simp only[c] at this;have:=ZD.1 this e (sa f);simpa[hb] using this
def VV {c:List Nat} (h:VP ops (FG [] ops) (dsts ops) c=true) {d:Nat} {o oj:Oper} (q:ops[i]?=some o) (s:d∈o.looksAt ops.toArray) (r:ops[j]?=some oj) (f:oj.dst=some d):(j<i/\bit (FG [] ops) i j=true/\d∉c)\/(i<j/\bit (FG [] ops) j i=true):=by
 have l:i<ops.length:=(Zf.1 q).1;have m:j<ops.length:=(Zf.1 r).1;have:=ZD.1 h i (sa l);simp only[q] at this;have:=ZD.1 (ZD.1 this d s) j (sa m);rw[Gm r f] at this;simp only[bne_self_eq_false,Bool.false_or] at this;split at this
 ·rename_i p;simp only[Zh,Yk] at this;exact .inl ⟨p,this.1,by simpa using this.2⟩
 ·simp only[Zh,Zk] at this;exact .inr this
def j8 (h:VR (dsts ops)=true) {d:Nat} {o oj:Oper} (l:ops[i]?=some o) (r:o.dst=some d) (m:ops[j]?=some oj) (c:oj.dst=some d):i=j:=by
 have p:i<ops.length:=(Zf.1 l).1;have q:j<ops.length:=(Zf.1 m).1;have key:∀a b:Nat,a<ops.length->b<a->(dsts ops).getD a 0=d+1->(dsts ops).getD b 0=d+1->False:=by
  intro a b ha hb s eb;have:=ZD.1 h a (by simpa[dsts] using ha);rw[s] at this;have h0:(d+1==0)=false:=by simp
  rw[h0,Bool.false_or] at this;have:=ZD.1 this b (sa hb);rw[eb] at this;simp at this
 rcases Nat.lt_trichotomy i j with f | f | f
 ·exact (key j i q f (Gm m c) (Gm l r)).elim
 ·exact f
 ·exact (key i j p f (Gm l r) (Gm m c)).elim
def VW {n:Nat} (h:VS (dsts ops) n=true) {d:Nat} {o:Oper} (f:ops[i]?=some o) (l:o.dst=some d):d<n:=by
 have c:d+1∈dsts ops:=by
  have:=Gm f l;rw[Zg] at this
  cases hx:(dsts ops)[i]? with
  | none=>simp[hx] at this
  | some y=>simp[hx] at this;subst this;exact Zo hx
 have:=ZD.1 h _ c;simp at this;omega
def fps (As:List Atom):Blk:=λk=>∃A∈As,A.fp k
def hold (c:Blk) (As:List Atom):Blk:=λk=>c k\/fps As k
structure Fr where
 m:Blk
 b:Blk
 d:List Deferred
structure St (M:Fr) (w0:World) (n:Nat) (Γ:List (Nat×Ty)) (As:List Atom) (a:Act) (w:World):Prop where
 size:a.tmps.size=n
 defers:a.defers=M.d
 grow:Step M.b w0 w
 m0:∀k,M.m k->k<w0.heap.size/\¬M.b k
 own:∀A∈As,A.ok (free (hold M.m As) w) w
 fresh:∀A∈As,∀k,A.fp k->(M.b k\/w0.heap.size<=k)/\k<w.heap.size
 apart:BA As
 Xp:∀p∈Γ,p.2.ok (free (hold M.m As) w) w (get a p.1)
def Jg (is:List Info) (u:Nat):Bool:=is.any λI=>I.eat.contains u
def Cb (V:List Ver) (is:List Info) (new:Nat->Value):List Atom:=((range V.length).filter λu=>!Jg is u).map λu=>ver V u new
def outG (ops:List Oper) (is:List Info) (Γ:List (Nat×Ty)) (new:Nat->Value):List (Nat×Ty):=((ops.zip is).filterMap λp=>p.1.dst.map λd=>(d,p.2.ty.ty new))++Γ.filter λp=>!(dsts ops).contains (p.1+1)
section
variable {V:List Ver} {is:List Info} {M:Fr} {w0:World} {n k0:Nat} {Γ:List (Nat×Ty)}
def Co (V:List Ver) (is:List Info) (k0:Nat) (S:Nat->Bool) (u:Nat):Prop:=u<V.length/\(u<k0\/∃p,u∈mkOf is p/\S p=true)/\∀c,u∈DA is c->S c=false
def MS (V:List Ver) (is:List Info) (k0:Nat) (c:Blk) (S:Nat->Bool) (new:Nat->Value):Blk:=λk=>c k\/∃u,Co V is k0 S u/\(ver V u new).fp k
structure Inv (ops:List Oper) (V:List Ver) (is:List Info) (M:Fr) (w0:World) (n k0:Nat) (Γ:List (Nat×Ty)) (new:Nat->Value) (S:Nat->Bool) (a:Act) (w:World):Prop where
 size:a.tmps.size=n
 defers:a.defers=M.d
 grow:Step M.b w0 w
 m0:∀k,M.m k->k<w0.heap.size/\¬M.b k
 down:Down ops S
 old:∀p∈Γ,(∀j o,ops[j]?=some o->o.dst=some p.1->S j=false)->p.2.ok (free (MS V is k0 M.m S new) w) w (get a p.1)
 nw:∀i o I d,ops[i]?=some o->is[i]?=some I->S i=true->o.dst=some d->(I.ty.ty new).ok (free (MS V is k0 M.m S new) w) w (get a d)
 own:∀u,Co V is k0 S u->(ver V u new).ok (free (MS V is k0 M.m S new) w) w
 fresh:∀u,Co V is k0 S u->∀k,(ver V u new).fp k->(M.b k\/w0.heap.size<=k)/\k<w.heap.size
 apart:∀u v,Co V is k0 S u->Co V is k0 S v->u≠v->∀k,(ver V u new).fp k->¬(ver V v new).fp k
def VX {c u:Nat} (h:u∈DA is c):∃I,is[c]?=some I/\u∈I.eat:=by
 unfold DA at h
 cases f:is[c]? with
 | none=>simp[f] at h
 | some I=>exact⟨I,rfl,by simpa[f] using h⟩
def j9 {c u:Nat} (h:u∈mkOf is c):∃I,is[c]?=some I/\u∈I.make:=by
 unfold mkOf at h
 cases f:is[c]? with
 | none=>simp[f] at h
 | some I=>exact⟨I,rfl,by simpa[f] using h⟩
def Jh:∀{l:List Nat},Bj l=true->l.Nodup
 | [],_=>nodup_nil
 | x::xs,h=>by simp only[Bj,Zh,Yk,contains_eq_mem,ZI] at h;exact nodup_cons.2 ⟨h.1,Jh h.2⟩
structure Vers (is:List Info) (ms:List Nat) (vd:List (List Nat)) (k0 nV:Nat) (i:Nat) (I:Info):Prop where
 lt:∀u,u∈I.use\/u∈I.eat->u<nV
 made:∀u,u∈I.use\/u∈I.eat->u<k0\/∃p,u∈mkOf is p/\bit ms i p=true
 alone:∀u,u∈I.use\/u∈I.eat->∀c,u∈DA is c->c=i\/bit ms c i=true
 make:∀u,u∈I.make->k0<=u/\u<nV
 mk1:∀u,u∈I.make->∀j,j<i->u∉mkOf is j
 vdep:∀u,u∈I.make->∀d,d∈vd.getD u []->d=i\/bit ms i d=true
 eat1:∀u,u∈I.eat->∀j,j<i->u∉DA is j
 eatu:∀u,u∈I.eat->u∉I.use
 dep:∀d,d∈I.ty.ds->d=i\/bit ms i d=true
 eatd:I.eat.Nodup
 maked:I.make.Nodup
def VY {c u:Nat} (h:u∈DA is c):c<is.length:=by have⟨I,f,_⟩:=VX h;exact (Zf.1 f).1
def NX {f:List Nat} {o:List (List Nat)} {l:Nat} (h:VU is f o k0 l=true) {I:Info} (s:is[i]?=some I):Vers is f o k0 l i I:=by
 have hi:i<is.length:=(Zf.1 s).1;have:=ZD.1 h i (sa hi);simp only[s] at this;simp only[Zh] at this;have⟨⟨⟨⟨⟨A,C⟩,D⟩,H⟩,K⟩,L⟩:=this;have g:∀u,u∈I.use\/u∈I.eat->(u<l/\(u<k0\/∃p,u∈mkOf is p/\bit f i p=true))/\∀c,u∈DA is c->c=i\/bit f c i=true:=by
  intro u hu;have:=ZD.1 A u (by rcases hu with hu | hu<;>simp[hu]);simp only[Zh,Zk,ZG] at this;refine⟨⟨this.1.1,?_⟩,λc hc=>?_⟩
  ·rcases this.1.2 with h | h
   ·exact .inl h
   ·have⟨p,_,hp⟩:=Yp.1 h;simp only[Zh,contains_eq_mem,Zk] at hp;exact .inr ⟨p,hp⟩
  ·have:=ZD.1 this.2 c (sa (VY hc));simpa[hc] using this
 have m:∀u,u∈I.make->((k0<=u/\u<l)/\∀j,j<i->u∉mkOf is j)/\∀d,d∈o.getD u []->d=i\/bit f i d=true:=by
  intro u hu;have:=ZD.1 C u hu;simp only[Zh,Zk] at this;refine⟨⟨this.1.1,λj q=>?_⟩,λd r=>?_⟩
  ·have:=ZD.1 this.1.2 j (sa q);simpa using this
  ·have:=ZD.1 this.2 d r;simpa using this
 have e:∀u,u∈I.eat->(∀j,j<i->u∉DA is j)/\u∉I.use:=by intro u hu;have:=ZD.1 D u hu;simp only[Zh] at this;refine⟨λj q=>?_,by simpa using this.2⟩;have:=ZD.1 this.1 j (sa q);simpa using this
 exact⟨λu hu=>(g u hu).1.1,λu hu=>(g u hu).1.2,λu hu=>(g u hu).2,λu hu=>(m u hu).1.1,λu hu=>(m u hu).1.2,λu hu=>(m u hu).2,λu hu=>(e u hu).1,λu hu=>(e u hu).2,λd r=>by have:=ZD.1 H d r;simpa using this,Jh K,Jh L⟩
def ty_upd {T:TyN} {x:Value} (h:i∉T.ds):T.ty (upd new i x)=T.ty new:=by unfold TyN.ty;congr 1;exact map_congr_left λd c=>FF (λe=>h (e▸c))
def kA {u:Nat} {x:Value} (h:i∉(V.map (·.ds)).getD u []):ver V u (upd new i x)=ver V u new:=by
 unfold ver
 cases hV:V[u]? with
 | none=>rfl
 | some p=>
  have:(V.map (·.ds)).getD u []=p.ds:=by simp[Zg,hV]
  rw[this] at h;simp only;congr 1;exact map_congr_left λd c=>FF (λe=>h (e▸c))
def P9 {o:Oper} {d:Nat} (h:Operand.tmp d∈o.op.operands) (A:Array Oper):d∈o.looksAt A:=by unfold Oper.looksAt;refine ZH.2 (.inl ?_);rw[Yx];exact⟨.tmp d,by simpa using h,rfl⟩
def kC {o:Oper} {d g:Nat} {b:Bool} (h:o.guard=some (g,b)) (c:(ops[g]?).bind (·.dst)=some d):d∈o.looksAt ops.toArray:=by unfold Oper.looksAt;refine ZH.2 (.inr ?_);simp[h,c]
def kD (c:chk ops is (V.map (·.ds)) (Γ.map (·.1)) k0 V.length n=true) {a:Act} (hi:Inv ops V is M w0 n k0 Γ new S a w) {o:Oper} (A:ops[i]?=some o) (C:S i=false) (m:Pre ops i S) {Γ':List (Nat×Ty)} (q:∀p∈Γ',p∈Γ\/∃j oj r,j<i/\ops[j]?=some oj/\is[j]?=some r/\oj.dst=some p.1/\p.2=r.ty.ty new):
  ∀p∈Γ',p.1∈o.looksAt ops.toArray->p.2.ok (free (MS V is k0 M.m S new) w) w (get a p.1):=by
 simp only[chk,Zh] at c;intro p hp hl;rcases q p hp with h | ⟨j,oj,r,D,f,s,l,H⟩
 ·refine hi.old p h (λj oj f l=>?_);rcases VV c.1.1.1.1.2 A hl f l with⟨_,_,I⟩ | ⟨_,hb⟩
  ·exact (I (ZR.2 ⟨p,h,rfl⟩)).elim
  ·rcases hs:S j with _ | _
   ·rfl
   ·have:=Jf hb hi.down (λo' u=>hi.down j o' u hs);rw[C] at this;cases this
 ·rw[H];refine hi.nw j oj r p.1 f s ?_ l;rcases VV c.1.1.1.1.2 A hl f l with⟨_,hb,_⟩ | ⟨K,_⟩
  ·exact Jf hb hi.down m
  ·omega
def kE (f:chk ops is (V.map (·.ds)) (Γ.map (·.1)) k0 V.length n=true) {a:Act} (hi:Inv ops V is M w0 n k0 Γ new S a w) {I:Info} (q:is[i]?=some I) (o:S i=false) (l:Pre ops i S) {u:Nat} (hu:u∈I.use\/u∈I.eat):Co V is k0 S u:=by
 simp only[chk,Zh] at f;have hV:=NX f.1.2 q;refine⟨hV.lt u hu,?_,λc hc=>?_⟩
 ·rcases hV.made u hu with h | ⟨p,hp,hb⟩
  ·exact .inl h
  ·exact .inr ⟨p,hp,Jf hb hi.down l⟩
 ·rcases hV.alone u hu c hc with rfl | hb
  ·exact o
  ·rcases hs:S c with _ | _
   ·rfl
   ·have:=Jf hb hi.down (λo' m=>hi.down c o' m hs);rw[o] at this;cases this
def MS_lt {a:Act} (hi:Inv ops V is M w0 n k0 Γ new S a w):∀k,MS V is k0 M.m S new k->k<w.heap.size:=by
 rintro k (c | ⟨u,hu,c⟩)
 ·exact ZP (hi.m0 k c).1 hi.grow.size
 ·exact (hi.fresh u hu k c).2
def kF (e3:∀u,u<k0->∀new g0,ver V u new=ver V u g0) (b3:chk ops is (V.map (·.ds)) (Γ.map (·.1)) k0 V.length n=true) (g4:∀new,Run P ops V new 0 Γ ops is):
  H6 P ops.toArray Q (λS a w=>∃new,Inv ops V is M w0 n k0 Γ new S a w):=by
 intro S i o a w g5 hS e4 ⟨new,hi⟩;have ho:ops[i]?=some o:=by simpa using g5
 have b4:Pre ops i S:=λo' c5=>by rw[ho] at c5;cases c5;exact e4
 have⟨I,Γ',hI,hJ,g6⟩:=(g4 new).get i o ho;rw[Nat.zero_add] at hJ;have Z:=kD b3 hi ho hS b4 g6;have L:=b3;simp only[chk,Zh] at L;have hV:=NX L.1.2 hI;have c7:mkOf is i=I.make:=by simp[mkOf,hI]
 have b5:DA is i=I.eat:=by simp[DA,hI]
 have b6:Down ops (ins S i):=by
  intro j oj K hj e he hb;simp only[ins,ZG,Yj] at hj ⊢;rcases hj with rfl | hj
  ·exact .inr (b4 oj K e he hb)
  ·exact .inr (hi.down j oj K hj e he hb)
 have b7:∀p∈Γ,(∀j oj,ops[j]?=some oj->oj.dst=some p.1->ins S i j=false)->(∀j oj,ops[j]?=some oj->oj.dst=some p.1->S j=false)/\o.dst≠some p.1:=by
  intro p hp h;refine⟨λj oj K h4=>?_,λhd=>?_⟩
  ·have:=h j oj K h4;simp only[ins,Bool.or_eq_false_iff] at this;exact this.2
  ·have:=h i o ho hd;simp[ins] at this
 have b0:∀j oj d,ops[j]?=some oj->ins S i j=true->oj.dst=some d->j≠i->S j=true/\o.dst≠some d:=by intro j oj d K hj hd hne;refine⟨?_,λh5=>hne (j8 L.1.1.1.2 K hd ho h5)⟩;simp only[ins,ZG,Yj] at hj;exact hj.resolve_left hne
 have c8:∀j d,S j=true->(d=j\/bit (FG [] ops) j d=true)->d≠i:=by
  rintro j d hj hd rfl;rcases hd with rfl | hb
  ·rw[hS] at hj;cases hj
  ·have:=Jf hb hi.down (λo' c5=>hi.down j o' c5 hj);rw[hS] at this;cases this
 have b8:∀x j Ij,is[j]?=some Ij->S j=true->Ij.ty.ty (upd new i x)=Ij.ty.ty new:=λx j Ij a1 h6=>ty_upd (λhd=>c8 j i h6 ((NX L.1.2 a1).dep i hd) rfl);have H:∀x u,Co V is k0 S u->ver V u (upd new i x)=ver V u new:=by
  rintro x u ⟨_,X,_⟩;rcases X with h | ⟨p,hp,hs⟩
  ·exact e3 u h _ _
  ·refine kA (λhd=>?_);have⟨Ip,h7,h8⟩:=j9 hp;exact c8 p i hs ((NX L.1.2 h7).vdep u h8 i hd) rfl
 have e5:=MS_lt hi;have l:∀u,u∈I.use\/u∈I.eat->Co V is k0 S u:=λu hu=>kE b3 hi hI hS b4 hu;have b9:∀v w' x,Step (AR (I.eat.map λu=>ver V u new)) w w'->Made (MS V is k0 M.m S new) (I.eat.map λu=>ver V u new) (I.make.map λu=>ver V u (upd new i x)) w w'->
   (I.ty.ty (upd new i x)).ok (free (next (MS V is k0 M.m S new) (I.eat.map λu=>ver V u new) (I.make.map λu=>ver V u (upd new i x))) w') w' v->∃new,Inv ops V is M w0 n k0 Γ new (ins S i) (a.put o.dst v) w':=by
  intro v w' x f a7 a2;refine⟨upd new i x,?_⟩;have D:∀k,AR (I.eat.map λu=>ver V u new) k->∃u,u∈I.eat/\Co V is k0 S u/\(ver V u new).fp k:=by rintro k ⟨A,hA,m⟩;obtain⟨u,hu,rfl⟩:=ZR.1 hA;exact⟨u,hu,l u (.inr hu),m⟩
  have a4:∀u,Co V is k0 (ins S i) u->(Co V is k0 S u/\u∉I.eat/\u∉I.make)\/u∈I.make:=by
   rintro u ⟨N,X,h3⟩;by_cases C:u∈I.make
   ·exact .inr C
   refine .inl ⟨⟨N,?_,λc hc=>?_⟩,λhE=>?_,C⟩
   ·rcases X with h | ⟨p,hp,hs⟩
    ·exact .inl h
    ·refine .inr ⟨p,hp,?_⟩;simp only[ins,ZG,Yj] at hs;rcases hs with rfl | hs
     ·rw[c7] at hp;exact (C hp).elim
     ·exact hs
   ·have:=h3 c hc;simp only[ins,Bool.or_eq_false_iff] at this;exact this.2
   ·have:=h3 i (b5▸hE);simp[ins] at this
  have e6:∀u,u∈I.make->∀k,(ver V u (upd new i x)).fp k->AR (I.make.map λu=>ver V u (upd new i x)) k:=λu hu k m=>⟨_,ZR.2 ⟨u,hu,rfl⟩,m⟩;have a8:∀u,u∈I.make->∀k,(ver V u (upd new i x)).fp k->(AR (I.eat.map λu=>ver V u new) k\/w.heap.size<=k)/\k<w'.heap.size:=λu hu=>a7.place _ (ZR.2 ⟨u,hu,rfl⟩);have c0:∀k,MS V is k0 M.m (ins S i) (upd new i x) k->next (MS V is k0 M.m S new) (I.eat.map λu=>ver V u new) (I.make.map λu=>ver V u (upd new i x)) k:=by
   rintro k (m | ⟨u,hu,m⟩)
   ·refine .inl ⟨.inl m,λhe=>?_⟩;have⟨u,_,q,O⟩:=D k he;have N:=(hi.fresh u q k O).1;have X:=hi.m0 k m;rcases N with N | N
    ·exact X.2 N
    ·omega
   ·rcases a4 u hu with⟨q,hne,C⟩ | C
    ·rw[H x u q] at m;refine .inl ⟨.inr ⟨u,q,m⟩,λhe=>?_⟩;have⟨v,hv,Y,O⟩:=D k he;exact hi.apart u v q Y (λe=>hne (e▸hv)) k m O
    ·exact .inr (e6 u C k m)
  have r:∀k,free (MS V is k0 M.m S new) w k->free (MS V is k0 M.m (ins S i) (upd new i x)) w' k:=by
   rintro k ⟨N,X⟩;refine⟨ZP N f.size,λhm=>?_⟩;rcases c0 k hm with⟨h,_⟩ | ⟨A,hA,m⟩
   ·exact X h
   ·obtain⟨u,hu,rfl⟩:=ZR.1 hA;rcases (a8 u hu k m).1 with he | he
    ·have⟨v,_,q,O⟩:=D k he;exact X (.inr ⟨v,q,O⟩)
    ·omega
  have W:∀k,free (MS V is k0 M.m S new) w k->w'.heap[k]?=w.heap[k]?:=by rintro k ⟨N,X⟩;refine f.same k N (λhe=>?_);have⟨u,_,q,O⟩:=D k he;exact X (.inr ⟨u,q,O⟩)
  have g7:∀k,free (next (MS V is k0 M.m S new) (I.eat.map λu=>ver V u new) (I.make.map λu=>ver V u (upd new i x))) w' k->free (MS V is k0 M.m (ins S i) (upd new i x)) w' k:=λk ⟨N,X⟩=>⟨N,λhm=>X (c0 k hm)⟩;constructor
  ·rw[VJ];exact hi.size
  ·rw[put_defers'];exact hi.defers
  ·refine⟨f.os.trans hi.grow.os,f.tape.trans hi.grow.tape,f.output.trans hi.grow.output,Yt hi.grow.size f.size,λk m hb=>?_⟩;refine (f.same k (ZP m hi.grow.size) (λhe=>?_)).trans (hi.grow.same k m hb);have⟨u,_,q,O⟩:=D k he;rcases (hi.fresh u q k O).1 with h | h
   ·exact hb h
   ·omega
  ·exact hi.m0
  ·exact b6
  ·intro p hp h;have⟨N,X⟩:=b7 p hp h;rw[NU _ _ _ _ X];exact p.2.keep r W (hi.old p hp N)
  ·intro j oj Ij d K a1 hj hd;by_cases c1:j=i
   ·subst c1;rw[ho] at K;cases K;rw[hI] at a1;cases a1;rw[hd,VK _ _ _ (by rw[hi.size];exact VW L.1.1.2 ho hd)];exact Ty.keep _ g7 (λ_ _=>rfl) a2
   ·have⟨N,X⟩:=b0 j oj d K hj hd c1;rw[NU _ _ _ _ X,b8 x j Ij a1 N];exact Ty.keep _ r W (hi.nw j oj Ij d K a1 N hd)
  ·intro u hu;rcases a4 u hu with⟨q,hne,C⟩ | C
   ·rw[H x u q];refine Atom.keep _ r W (λk m=>?_) (hi.own u q);refine f.same k (hi.fresh u q k m).2 (λhe=>?_);have⟨v,hv,Y,O⟩:=D k he;exact hi.apart u v q Y (λe=>hne (e▸hv)) k m O
   ·exact Atom.keep _ g7 (λ_ _=>rfl) (λ_ _=>rfl) (a7.ok _ (ZR.2 ⟨u,C,rfl⟩))
  ·intro u hu k m;rcases a4 u hu with⟨q,hne,C⟩ | C
   ·rw[H x u q] at m;have:=hi.fresh u q k m;exact⟨this.1,ZP this.2 f.size⟩
   ·have⟨N,X⟩:=a8 u C k m;refine⟨?_,X⟩;rcases N with he | he
    ·have⟨v,_,q,O⟩:=D k he;exact (hi.fresh v q k O).1
    ·exact .inr (Yt hi.grow.size he)
  ·have one:∀u v,Co V is k0 (ins S i) v->u∈I.make->u≠v->∀k,(ver V u (upd new i x)).fp k->¬(ver V v (upd new i x)).fp k:=by
    intro u v hv C hne k m a3;rcases a4 v hv with⟨q,c9,c2⟩ | c2
    ·rw[H x v q] at a3;rcases (a8 u C k m).1 with he | he
     ·have⟨y,hy,Y,O⟩:=D k he;exact hi.apart v y q Y (λe=>c9 (e▸hy)) k a3 O
     ·have:=(hi.fresh v q k a3).2;omega
    ·have hp:=a7.apart;unfold BA at hp;rw[pairwise_map,pairwise_iff_getElem] at hp;obtain⟨iu,g8,rfl⟩:=Yv C;obtain⟨iv,g9,rfl⟩:=Yv c2;rcases Nat.lt_trichotomy iu iv with h | h | h
     ·exact hp iu iv g8 g9 h k m a3
     ·subst h;exact hne rfl
     ·exact hp iv iu g9 g8 h k a3 m
   intro u v hu hv hne k m a3;rcases a4 u hu with⟨q,i3,C⟩ | C
   ·rcases a4 v hv with⟨Y,c9,c2⟩ | c2
    ·rw[H x u q] at m;rw[H x v Y] at a3;exact hi.apart u v q Y hne k m a3
    ·exact one v u hu c2 (Ne.symm hne) k a3 m
   ·exact one u v hv C hne k m a3
 have a5:∀(g:Nat) (want:Bool) (dg:Nat) (c:Bool),o.guard=some (g,want)->(ops[g]?).bind (·.dst)=some dg->Grd Γ' dg want c->((yielded ops.toArray a.tmps g=some want)=(c=true)):=by
  intro g want dg c hg b2 hc;have:=hc (free (MS V is k0 M.m S new) w) w a (λp hp h9=>Z p hp (h9▸kC hg b2));unfold yielded;have e:((ops.toArray[g]?).bind (·.dst))=some dg:=by simpa using b2
  rw[e];simp only[Za];have i0:get a dg=(a.tmps[dg]?).getD undef:=by simp[get,Array.getD_eq_getD_getElem?]
  rw[i0] at this
  cases hx:a.tmps[dg]? with
  | none=>rw[hx] at this;simp[undef] at this;simp[<-this]
  | some y=>rw[hx] at this;simp only[ZS] at this;cases y<;>simp_all;rename_i b;rw[<-this];simp
 unfold wpOpIn;rw[g5];simp only;rcases hJ with⟨hg,c3⟩ | ⟨g,want,dg,c,T,hg,b2,hc,he,hm,ht,i4,c3⟩ | ⟨g,want,dg,c,hg,b2,hc,c3,i1⟩
 ·rw[Zc (by simp[Region.wanted,hg])];refine (Does.wp (c3 (MS V is k0 M.m S new) w a e5 ?_ ?_ ?_ ?_ ?_) ?_)
  ·intro A hA;obtain⟨u,hu,rfl⟩:=ZR.1 hA;exact⟨hi.own u (l u (.inl hu)),λk m=>.inr ⟨u,l u (.inl hu),m⟩⟩
  ·intro A hA;obtain⟨u,hu,rfl⟩:=ZR.1 hA;exact⟨hi.own u (l u (.inr hu)),λk m=>.inr ⟨u,l u (.inr hu),m⟩⟩
  ·unfold BA;rw[pairwise_map];exact hV.eatd.imp_of_mem λhu hv hne=>hi.apart _ _ (l _ (.inr hu)) (l _ (.inr hv)) hne
  ·intro A hA B hB;obtain⟨u,hu,rfl⟩:=ZR.1 hA;obtain⟨v,hv,rfl⟩:=ZR.1 hB;exact hi.apart u v (l u (.inl hu)) (l v (.inr hv)) (λe=>hV.eatu v hv (e▸hu))
  ·intro p hp a6;exact Z p hp (P9 a6 _)
  ·rintro v w' ⟨x,f,a7,a2⟩;exact b9 v w' x f a7 a2
 ·have s:=a5 g want dg c hg b2 hc;have a0:∀u,Co V is k0 (ins S i) u↔Co V is k0 S u:=by
   intro u;have hp:∀p,u∈mkOf is p->(ins S i p=true↔S p=true):=by
    intro p hp;by_cases c4:p=i
    ·subst c4;rw[c7,hm] at hp;cases hp
    ·simp[ins,c4]
   have hq:∀p,u∈DA is p->(ins S i p=false↔S p=false):=by
    intro p h0;by_cases c4:p=i
    ·subst c4;rw[b5,he] at h0;cases h0
    ·simp[ins,c4]
   constructor
   ·rintro ⟨N,X,h3⟩;exact⟨N,X.imp id (λ⟨p,ha,hb⟩=>⟨p,ha,(hp p ha).1 hb⟩),λc hc=>(hq c hc).1 (h3 c hc)⟩
   ·rintro ⟨N,X,h3⟩;exact⟨N,X.imp id (λ⟨p,ha,hb⟩=>⟨p,ha,(hp p ha).2 hb⟩),λc hc=>(hq c hc).2 (h3 c hc)⟩
  have a9:MS V is k0 M.m (ins S i) new=MS V is k0 M.m S new:=by
   funext k
   exact propext ⟨λh=>h.imp id (λ⟨u,hu,m⟩=>⟨u,(a0 u).1 hu,m⟩),λh=>h.imp id (λ⟨u,hu,m⟩=>⟨u,(a0 u).2 hu,m⟩)⟩
  have b1:∀v w',Grow w w'->(I.ty.ty new).ok (free (MS V is k0 M.m S new) w') w' v->∃new,Inv ops V is M w0 n k0 Γ new (ins S i) (a.put o.dst v) w':=by
   intro v w' f a2;have r:∀k,free (MS V is k0 M.m S new) w k->free (MS V is k0 M.m S new) w' k:=λk ⟨N,X⟩=>⟨ZP N f.size,X⟩;have W:∀k,free (MS V is k0 M.m S new) w k->w'.heap[k]?=w.heap[k]?:=λk ⟨N,_⟩=>f.same k N (λh=>h);refine⟨new,?_⟩;constructor
   ·rw[VJ];exact hi.size
   ·rw[put_defers'];exact hi.defers
   ·exact⟨f.os.trans hi.grow.os,f.tape.trans hi.grow.tape,f.output.trans hi.grow.output,Yt hi.grow.size f.size,λk m hb=>(f.same k (ZP m hi.grow.size) (λh=>h)).trans (hi.grow.same k m hb)⟩
   ·exact hi.m0
   ·exact b6
   ·intro p hp h;have⟨N,X⟩:=b7 p hp h;rw[NU _ _ _ _ X,a9];exact p.2.keep r W (hi.old p hp N)
   ·intro j oj Ij d K a1 hj hd;rw[a9];by_cases c1:j=i
    ·subst c1;rw[ho] at K;cases K;rw[hI] at a1;cases a1;rw[hd,VK _ _ _ (by rw[hi.size];exact VW L.1.1.2 ho hd)];exact a2
    ·have⟨N,X⟩:=b0 j oj d K hj hd c1;rw[NU _ _ _ _ X];exact Ty.keep _ r W (hi.nw j oj Ij d K a1 N hd)
   ·intro u hu;rw[a9];refine Atom.keep _ r W (λk m=>?_) (hi.own u ((a0 u).1 hu));exact f.same k (hi.fresh u ((a0 u).1 hu) k m).2 (λh=>h)
   ·intro u hu k m;have:=hi.fresh u ((a0 u).1 hu) k m;exact⟨this.1,ZP this.2 f.size⟩
   ·intro u v hu hv hne;exact hi.apart u v ((a0 u).1 hu) ((a0 v).1 hv) hne
  by_cases hw:Region.wanted o (yielded ops.toArray a.tmps)=true
  ·rw[Zc hw];have c6:c=true:=by
    rw[<-s];simpa[Region.wanted,hg] using hw
   have e7:=c3 c6 (MS V is k0 M.m S new) w a e5 ?_ (λA hA=>by cases hA) Pairwise.nil (λA _ B hB=>by cases hB) (λp hp a6=>Z p hp (P9 a6 _))
   ·refine (Does.wp e7 ?_);rintro v w' ⟨x,f,_,a2⟩;have e1:next (MS V is k0 M.m S new) [] []=MS V is k0 M.m S new:=by
     funext k
     simp[next,AR]
    rw[e1] at a2;refine b1 v w' (f.mono (λk m=>by have⟨A,hA,_⟩:=m;cases hA)) ?_;rw[ht];exact⟨λ_=>a2,λhf=>(by rw[c6] at hf;cases hf)⟩
   ·intro A hA;obtain⟨u,hu,rfl⟩:=ZR.1 hA;exact⟨hi.own u (l u (.inl hu)),λk m=>.inr ⟨u,l u (.inl hu),m⟩⟩
  ·rw[Zb hw];have e8:c=false:=by
    cases e9:c with
    | false=>rfl
    | true=>rw[e9] at s;have:=s.symm▸(rfl:true=true);exact (hw (by simpa[Region.wanted,hg] using this)).elim
   refine⟨λ_ _=>trivial,b1 undef w (Step.refl _ _) ?_⟩;rw[ht];exact⟨λh=>(by rw[e8] at h;cases h),λ_=>rfl⟩
 ·have s:=a5 g want dg c hg b2 hc;by_cases hw:Region.wanted o (yielded ops.toArray a.tmps)=true
  ·rw[Zc hw];have c6:c=true:=by
    rw[<-s];simpa[Region.wanted,hg] using hw
   refine (Does.wp (c3 c6 (MS V is k0 M.m S new) w a e5 ?_ ?_ ?_ ?_ ?_) ?_)
   ·intro A hA;obtain⟨u,hu,rfl⟩:=ZR.1 hA;exact⟨hi.own u (l u (.inl hu)),λk m=>.inr ⟨u,l u (.inl hu),m⟩⟩
   ·intro A hA;obtain⟨u,hu,rfl⟩:=ZR.1 hA;exact⟨hi.own u (l u (.inr hu)),λk m=>.inr ⟨u,l u (.inr hu),m⟩⟩
   ·unfold BA;rw[pairwise_map];exact hV.eatd.imp_of_mem λhu hv hne=>hi.apart _ _ (l _ (.inr hu)) (l _ (.inr hv)) hne
   ·intro A hA B hB;obtain⟨u,hu,rfl⟩:=ZR.1 hA;obtain⟨v,hv,rfl⟩:=ZR.1 hB;exact hi.apart u v (l u (.inl hu)) (l v (.inr hv)) (λe=>hV.eatu v hv (e▸hu))
   ·intro p hp a6;exact Z p hp (P9 a6 _)
   ·rintro v w' ⟨x,f,a7,a2⟩;exact b9 v w' x f a7 a2
  ·rw[Zb hw];have e8:c=false:=by
    cases e9:c with
    | false=>rfl
    | true=>rw[e9] at s;have:=s.symm▸(rfl:true=true);exact (hw (by simpa[Region.wanted,hg] using this)).elim
   have⟨hN,hT⟩:=i1 e8;refine⟨λ_ _=>trivial,b9 undef w undef (Step.refl _ _) ?_ (hT _ _)⟩;rw[hN];refine⟨?_,?_,?_⟩
   ·unfold BA;rw[pairwise_map];exact hV.eatd.imp_of_mem λhu hv hne=>hi.apart _ _ (l _ (.inr hu)) (l _ (.inr hv)) hne
   ·intro A hA k m;refine⟨.inl ⟨A,hA,m⟩,?_⟩;obtain⟨u,hu,rfl⟩:=ZR.1 hA;exact (hi.fresh u (l u (.inr hu)) k m).2
   ·intro A hA;obtain⟨u,hu,rfl⟩:=ZR.1 hA;refine Atom.keep _ (λk m=>⟨m.1,?_⟩) (λ_ _=>rfl) (λ_ _=>rfl) (hi.own u (l u (.inr hu)));rintro (⟨hm,_⟩ | ⟨B,hB,i2⟩)
    ·exact m.2 hm
    ·obtain⟨v,hv,rfl⟩:=ZR.1 hB;exact m.2 (.inr ⟨v,l v (.inr hv),i2⟩)
def kG {a:Act} (hi:Inv ops V is M w0 n k0 Γ new S a w) (f:∀i,i<ops.length->S i=true):
  ∀p∈outG ops is Γ new,p.2.ok (free (MS V is k0 M.m S new) w) w (get a p.1):=by
 intro p hp;unfold outG at hp;rcases ZH.1 hp with h | h
 ·have⟨⟨o,I⟩,q,r⟩:=Yx.1 h
  cases l:o.dst with
  | none=>simp[l] at r
  | some d=>simp only[l,Yb,ZQ] at r;subst r;have⟨i,c⟩:=ZX.1 q;rw[getElem?_zip_eq_some] at c;exact hi.nw i o I d c.1 c.2 (f i (Zf.1 c.1).1) l
 ·have⟨s,u⟩:=Yn.1 h;refine hi.old p s (λj o A l=>?_);have m:p.1+1∈dsts ops:=by
   have:=Gm A l;rw[Zg] at this
   cases hx:(dsts ops)[j]? with
   | none=>simp[hx] at this
   | some y=>simp[hx] at this;subst this;exact Zo hx
  simp[m] at u
def VZ {a:Act} {C:Prop} (V:List Ver) (is:List Info) (hC:∀I:(Nat->Bool)->Act->World->Prop,H6 P ops.toArray Q I->Acyc ops.toArray->(∀S a w,(∀i,i<ops.toArray.size->S i=true)->I S a w->Q .normal a w)->(∀w',w'=w\/w'=w.drew->I (λ_=>false) a w')->C) (q:St M w0 n Γ As a w) (O:∀new,Run P ops V new 0 Γ ops is) (a5:∀(u:Nat) (A:Atom),As[u]?=some A->∀x,ver V u x=A) (W:chk ops is (V.map (·.ds)) (Γ.map (·.1)) As.length V.length n=true) (hQ:∀new a' w',St M w0 n (outG ops is Γ new) (Cb V is new) a' w'->Q .normal a' w'):C:=by
 have D:=W;simp only[chk,Zh] at D;have hlen:=(O (λ_=>undef)).length;have L:∀u,u<As.length->∃A,As[u]?=some A/\∀x,ver V u x=A:=λu hu=>⟨As[u],Zd hu,a5 u _ (Zd hu)⟩;have X:∀u,Jg is u=true↔∃c,u∈DA is c:=by
  intro u;unfold Jg;rw[Yp];constructor
  ·rintro ⟨I,hI,Y⟩;have⟨c,hc⟩:=ZX.1 hI;exact⟨c,by simp[DA,hc];simpa using Y⟩
  ·rintro ⟨c,hc⟩;have⟨I,hI,Y⟩:=VX hc;exact⟨I,Zo hI,by simpa using Y⟩
 refine hC (λS a w=>∃new,Inv ops V is M w0 n As.length Γ new S a w) (kF (λu hu x y=>by have⟨A,_,hA⟩:=L u hu;rw[hA,hA]) W O) (j7 D.1.1.1.1.1) ?_ ?_
 ·rintro S a' w' a0 ⟨new,hi⟩;have H:∀i,i<ops.length->S i=true:=λi h=>a0 i (sa h);have f:∀u,Co V is As.length S u↔u<V.length/\Jg is u=false:=by
   intro u;constructor
   ·rintro ⟨r,_,h3⟩;refine⟨r,?_⟩
    cases Y:Jg is u with
    | false=>rfl
    | true=>have⟨c,hc⟩:=(X u).1 Y;have:=h3 c hc;rw[H c (by have:=VY hc;omega)] at this;cases this
   ·rintro ⟨r,s⟩;refine⟨r,?_,λc hc=>?_⟩
    ·have:=ZD.1 D.2 u (sa r);simp only[ZG,Zk] at this;rcases this with h | h
     ·exact .inl h
     ·have⟨p,hp,Y⟩:=Yp.1 h;exact .inr ⟨p,by simpa using Y,H p (by simp at hp;omega)⟩
    ·rw[(X u).2 ⟨c,hc⟩] at s;cases s
  have a1:∀k,hold M.m (Cb V is new) k↔MS V is As.length M.m S new k:=by
   intro k;unfold hold MS fps Cb;constructor
   ·rintro (h | ⟨A,hA,K⟩)
    ·exact .inl h
    ·obtain⟨u,hu,rfl⟩:=ZR.1 hA;have⟨r,s⟩:=Yn.1 hu;exact .inr ⟨u,(f u).2 ⟨by simpa using r,by simpa using s⟩,K⟩
   ·rintro (h | ⟨u,hu,K⟩)
    ·exact .inl h
    ·have:=(f u).1 hu;exact .inr ⟨_,ZR.2 ⟨u,Yn.2 ⟨by simpa using this.1,by simpa using this.2⟩,rfl⟩,K⟩
  have l:∀k,free (MS V is As.length M.m S new) w' k->free (hold M.m (Cb V is new)) w' k:=λk ⟨r,s⟩=>⟨r,λh=>s ((a1 k).1 h)⟩;refine hQ new a' w' ⟨hi.size,hi.defers,hi.grow,hi.m0,?_,?_,?_,?_⟩
  ·intro A hA;obtain⟨u,hu,rfl⟩:=ZR.1 hA;have⟨r,s⟩:=Yn.1 hu;exact Atom.keep _ l (λ_ _=>rfl) (λ_ _=>rfl) (hi.own u ((f u).2 ⟨by simpa using r,by simpa using s⟩))
  ·intro A hA k K;obtain⟨u,hu,rfl⟩:=ZR.1 hA;have⟨r,s⟩:=Yn.1 hu;exact hi.fresh u ((f u).2 ⟨by simpa using r,by simpa using s⟩) k K
  ·unfold Cb BA;rw[pairwise_map];refine Pairwise.imp_of_mem ?_ (Pairwise.filter _ nodup_range);intro u v hu N hne;have⟨r,s⟩:=Yn.1 hu;have⟨h3,h4⟩:=Yn.1 N;exact hi.apart u v ((f u).2 ⟨by simpa using r,by simpa using s⟩) ((f v).2 ⟨by simpa using h3,by simpa using h4⟩) hne
  ·intro p hp;exact p.2.keep l (λ_ _=>rfl) (kG hi H p hp)
 ·intro w' a2;have m:w'.heap=w.heap:=by rcases a2 with rfl | rfl<;>rfl
  have f:∀u,Co V is As.length (λ_=>false) u->u<As.length:=by
   rintro u ⟨r,s,_⟩;rcases s with h | ⟨p,_,hp⟩
   ·exact h
   ·cases hp
  have a6:∀k,MS V is As.length M.m (λ_=>false) (λ_=>undef) k->hold M.m As k:=by
   rintro k (h | ⟨u,hu,K⟩)
   ·exact .inl h
   ·have⟨A,hA,N⟩:=L u (f u hu);rw[N] at K;exact .inr ⟨A,Zo hA,K⟩
  have l:∀k,free (hold M.m As) w k->free (MS V is As.length M.m (λ_=>false) (λ_=>undef)) w' k:=λk ⟨r,s⟩=>⟨by rw[m];exact r,λh=>s (a6 k h)⟩;refine⟨λ_=>undef,⟨q.size,q.defers,?_,q.m0,?_,?_,?_,?_,?_,?_⟩⟩
  ·rcases a2 with rfl | rfl
   ·exact q.grow
   ·exact q.grow.drew
  ·intro i o ho hS;cases hS
  ·intro p hp _;exact p.2.keep l (λk _=>by rw[m]) (q.Xp p hp)
  ·intro i o I d _ _ hS;cases hS
  ·intro u hu;have⟨A,hA,N⟩:=L u (f u hu);rw[N];exact A.keep l (λk _=>by rw[m]) (λk _=>by rw[m]) (q.own A (Zo hA))
  ·intro u hu k K;have⟨A,hA,N⟩:=L u (f u hu);rw[N] at K;have:=q.fresh A (Zo hA) k K;rw[m];exact this
  ·intro u v hu N hne k K Z;have⟨A,hA,a7⟩:=L u (f u hu);have⟨B,hB,a8⟩:=L v (f v N);rw[a7] at K;rw[a8] at Z;have hp:=q.apart;unfold BA at hp;rw[pairwise_iff_getElem] at hp;obtain⟨a3,rfl⟩:=Zf.1 hA;obtain⟨a4,rfl⟩:=Zf.1 hB;rcases Nat.lt_trichotomy u v with h | h | h
   ·exact hp u v a3 a4 h k K Z
   ·exact hne h
   ·exact hp v u a4 a3 h k Z K
def kH {a:Act} {id:Nat} (V:List Ver) (is:List Info) (hm:P.follows .mixedOrders=true) (h:St M w0 n Γ As a w) (c:∀new,Run P ops V new 0 Γ ops is) (l:∀(u:Nat) (A:Atom),As[u]?=some A->∀x,ver V u x=A) (f:chk ops is (V.map (·.ds)) (Γ.map (·.1)) As.length V.length n=true) (q:∀new p w',St M w0 n (outG ops is Γ new) (Cb V is new) p w'->Q .normal p w'):(Code.region id ops.toArray draw).wp P Q a w:=
 VZ V is (λ_ r m o h0=>j3 (λ_=>hm) r m o h0) h c l f q
end
def H7 (a:Act) (v:Value):a.eval (.const v)=v:=rfl
def QW (Ts:List Ty) (F:Blk) (w:World) (us:List Value):Prop:=us.length=Ts.length/\∀(j:Nat) (T:Ty) (u:Value),Ts[j]?=some T->us[j]?=some u->T.ok F w u
def QW.keep {us:List Value} (c:∀k,F k->F' k) (f:∀k,F k->w'.heap[k]?=w.heap[k]?) (h:QW Ts F w us):QW Ts F' w' us:=⟨h.1,λj T u l hu=>T.keep c f (h.2 j T u l hu)⟩
def Row (Ts:List Ty) (F:Blk) (w:World) (b off:Nat):Prop:=∀(j:Nat) (T:Ty),Ts[j]?=some T->∃u,w.cell? ⟨b,off+j,none⟩=some u/\T.ok F w u
def Row.keep {b:Nat} (hb:F b) (f:∀k,F k->F' k) (c:∀k,F k->w'.heap[k]?=w.heap[k]?) (h:Row Ts F w b off):Row Ts F' w' b off:=λj T l=>let⟨u,hu,ht⟩:=h j T l;⟨u,(World.cell?_of_block (a:=⟨b,off+j,none⟩) (c b hb)).trans hu,T.keep f c ht⟩
def tand (T U:Ty):Ty:=⟨λF w v=>T.ok F w v/\U.ok F w v,λc f h=>⟨T.keep c f h.1,U.keep c f h.2⟩⟩
def tagg (Ts:List Ty):Ty:=⟨λF w v=>∃us,v=.agg us.toArray/\QW Ts F w us,by intro F F' w w' v c f ⟨us,l,h⟩;exact⟨us,l,QW.keep c f h⟩⟩
def ttup (Ts:List Ty):Ty:=⟨λF w v=>∃us,v=.tuple us.toArray/\QW Ts F w us,by intro F F' w w' v c f ⟨us,l,h⟩;exact⟨us,l,QW.keep c f h⟩⟩
def tptr (Ts:List Ty):Ty:=⟨λF w v=>∃b off,v=.pointer (some ⟨b,off,none⟩)/\F b/\Row Ts F w b off,λc f ⟨b,off,l,hb,h⟩=>⟨b,off,l,c b hb,h.keep hb c f⟩⟩
structure Rep (α:Type) where
 cs:α->List Ty
 n:Nat
 agg:Bool
 len:∀x,(cs x).length=n
 one:∀x T,T∈cs x->∀F w v,T.ok F w v->v.oneCell'=true
 sz:agg=false->n=1
variable {R:Rep α}
@[reducible] def Rep.ty (R : Rep α) (x : α): Ty := match R.agg with | true => tagg (R.cs x) | false => (R.cs x).headD tany
def tsl (R:Rep α) (xs:List α):Ty:=⟨λF w v=>∃c cap,v=.slice c xs.length cap/\xs.length<=cap/\(xs≠[]->∃b off,c=some ⟨b,off,none⟩/\F b/\Row (xs.flatMap R.cs) F w b off),λf l ⟨c,cap,m,hl,h⟩=>⟨c,cap,m,hl,λhne=>let⟨b,off,ha,hb,o⟩:=h hne;⟨b,off,ha,f b hb,o.keep hb f l⟩⟩⟩
@[reducible] def rInt (k : IntKind) : Rep Int := ⟨λx => [tv (.int k x)],1,false,λ_ => rfl,λx T h F w v c => by simp at h; subst h; have : v = _ := c; subst this; rfl,λ_ => rfl⟩
@[reducible] def AE : Rep Bool := ⟨λx => [tv (.bool x)],1,false,λ_ => rfl,λx T h F w v c => by simp at h; subst h; have : v = _ := c; subst this; rfl,λ_ => rfl⟩
@[reducible] def rSl (R : Rep α): Rep (List α) := ⟨λx => [tsl R x],1,false,λ_ => rfl,λx T h F w v c => by simp at h; subst h; obtain ⟨f,cap,e,_⟩ := c; subst e; rfl,λ_ => rfl⟩
abbrev rI:Rep Int:=rInt .i64
def own (R:Rep α) (e:TypeId) (xs:List α) (v:Value):Atom:=
 ⟨λk=>v.ownBlock=some k,λF w=>∃us,w.ownsRow 0 e R.n v xs.length us/\QW (xs.flatMap R.cs) F w us,
  λl m hf ⟨us,c,hc⟩=>⟨us,⟨c.1,by
   rcases c.2 with h | ⟨g,cap,cur,f,hb,o,r⟩
   ·exact .inl h
   ·exact .inr ⟨g,cap,cur,f,hb,by rw[hf g (by rw[f];rfl)];exact o,r⟩⟩,hc.keep l m⟩⟩
def box (Ts:List Ty) (p:Value):Atom:=⟨λk=>p=.pointer (some ⟨k,0,none⟩),λF w=>∃b cur e,p=.pointer (some ⟨b,0,none⟩)/\w.heap[b]?=some (.cells cur e (0,0))/\QW Ts F w cur.toList/\∀u∈cur.toList,u.oneCell'=true,λc f hf ⟨b,cur,e,hp,hb,hc,h⟩=>⟨b,cur,e,hp,by rw[hf b hp];exact hb,hc.keep c f,h⟩⟩
def G2:TypeDesc->Bool | .struct _ | .array _ _=>true | _=>false
structure TOk (P:Program) (t:TypeId) {α:Type} (R:Rep α) (bytes:Nat) (z:Value):Prop where
 d:∃d,P.underlying t=some d/\G2 d=R.agg
 i:(P.info? t).map (λi=>(i.zero,i.size,i.bytes))=some (some z,R.n,bytes)
 zc:z.cells.size=R.n
def TOk.info {t:TypeId} {b:Nat} {z:Value} (h:TOk P t R b z):∃i,P.info? t=some i/\i.zero=some z/\i.size=R.n/\i.bytes=b:=by
 have hi:=h.i
 cases hx:P.info? t with
 | none=>simp[hx] at hi
 | some i=>simp only[hx,Yb,ZQ,Yf] at hi;exact⟨i,rfl,hi⟩
def Fct (Γ:List (Nat×Ty)) (x:Operand) (T:Ty):Prop:=∀F w a,(∀p∈Γ,Operand.tmp p.1=x->p.2.ok F w (get a p.1))->T.ok F w (a.eval x)
section
variable {Γ:List (Nat×Ty)}
def Fct.t {s:Nat} (i:Nat) (h:Γ[i]?=some (s,T)):Fct Γ (.tmp s) T:=λ_ _ _ h0=>h0 (s,T) (Zo h) rfl
def Fct.k:Fct Γ (.const v) (tv v):=λ_ _ _ _=>rfl
def Fct.Xo {x:Operand} (h:Fct Γ x T) (c:∀F w v,T.ok F w v->U.ok F w v):Fct Γ x U:=λF w a h0=>c F w _ (h F w a h0)
def Fct.cond {x:Operand} {c:Bool} (h:Fct Γ x (CE c T)) (hc:c=true):Fct Γ x T:=λF w a h0=>(h F w a h0).1 hc
def Fct.left {x:Operand} (h:Fct Γ x (tand T U)):Fct Γ x T:=h.Xo λ_ _ _ h=>h.1
def Fct.right {x:Operand} (h:Fct Γ x (tand T U)):Fct Γ x U:=h.Xo λ_ _ _ h=>h.2
def Fct.both {x:Operand} (h:Fct Γ x T) (k:Fct Γ x U):Fct Γ x (tand T U):=λF w a h0=>⟨h F w a h0,k F w a h0⟩
def Fct.nilsl:Fct Γ (.const (.slice none 0 0)) (tsl R ([]:List α)):=λ_ _ _ _=>⟨none,0,rfl,Zq _,λh=>(h rfl).elim⟩
def Fct.use {x:Operand} {xs:Array Operand} {a:Act} (h:Fct Γ x T) (hx:x∈xs) (f:D4 Γ xs F w a):T.ok F w (a.eval x):=h F w a λp hp c=>f p hp (c▸hx)
def Fct.val {x:Operand} {xs:Array Operand} {a:Act} (h:Fct Γ x (tv v)) (hx:x∈xs) (c:D4 Γ xs F w a):a.eval x=v:=h.use hx c
def Grd.b {c:Nat} {b:Bool} (i:Nat) (h:Γ[i]?=some (c,tv (.bool b))):Grd Γ c want (b==want):=by intro F w a h0;have:get a c=.bool b:=h0 _ (Zo h) rfl;rw[this]
def Grd.c {c:Nat} {b f:Bool} (i:Nat) (h:Γ[i]?=some (c,CE f (tv (.bool b)))):Grd Γ c want (f&&(b==want)):=by
 intro F w a h0;have l:(CE f (tv (.bool b))).ok F w (get a c):=h0 _ (Zo h) rfl
 cases f with
 | true=>have:get a c=.bool b:=l.1 rfl;rw[this];simp
 | false=>have:get a c=undef:=l.2 rfl;rw[this];simp[undef]
def Ji (M:Blk):next M [] []=M:=by funext k;simp[next,AR]
def Gp:AR []=λ_=>False:=by funext k;simp[AR]
def AU {A:Atom} {k:Nat}:AR [A] k↔A.fp k:=by simp[AR]
def Fz:Made M E [] w w':=⟨Pairwise.nil,λ_ h=>(by cases h),λ_ h=>(by cases h)⟩
def BX {A:Atom} (f:∀k,A.fp k->(AR E k\/w.heap.size<=k)/\k<w'.heap.size) (h:A.ok (free (next M E [A]) w') w'):Made M E [A] w w':=⟨pairwise_singleton _ _,λB c=>by obtain rfl:=Zi.1 c;exact f,λB c=>by obtain rfl:=Zi.1 c;exact h⟩
def Cp {N:List Atom} {k:Nat} (f:w.heap.size<=w'.heap.size) (l:∀j,AR E j->M j) (m:∀A∈N,∀j,A.fp j->AR E j\/w.heap.size<=j) (h:free M w k):free (next M E N) w' k:=by
 refine⟨ZP h.1 f,?_⟩;rintro (⟨hm,_⟩ | ⟨A,hA,o⟩)
 ·exact h.2 hm
 ·rcases m A hA k o with c | c
  ·exact h.2 (l k c)
  ·have:=h.1;omega
def Cr (h:DL M E w):∀k,AR E k->M k:=λk ⟨A,hA,c⟩=>(h A hA).2 k c
def AZ {o:Oper} (h:∀F w a,D4 Γ o.op.operands F w a->∃v,(execOp a.eval o).run P w=.ok (.value v) w/\T.ok F w v):OpJ P o Γ [] [] (λ_=>[]) (λ_=>T):=by intro M w a _ _ _ _ _ c;have⟨v,f,ht⟩:=h _ w a c;simp only[Does,f];refine⟨undef,Step.refl _ _,Fz,?_⟩;rw[Ji];exact ht
def BY {o:Oper} {U:List Atom} (h:∀M w a,(∀A∈U,A.ok (free M w) w)->D4 Γ o.op.operands (free M w) w a->∃v,(execOp a.eval o).run P w=.ok (.value v) w/\T.ok (free M w) w v):OpJ P o Γ U [] (λ_=>[]) (λ_=>T):=by intro M w a _ hU _ _ _ c;have⟨v,f,ht⟩:=h M w a (λA hA=>(hU A hA).1) c;simp only[Does,f];refine⟨undef,Step.refl _ _,Fz,?_⟩;rw[Ji];exact ht
def RA {o:Oper} (h:∀F w a,(∀k,F k->k<w.heap.size)->D4 Γ o.op.operands F w a->∃v w',(execOp a.eval o).run P w=.ok (.value v) w'/\Grow w w'/\∀F',(∀k,F k->F' k)->(∀k,w.heap.size<=k->k<w'.heap.size->F' k)->T.ok F' w' v):OpJ P o Γ [] [] (λ_=>[]) (λ_=>T):=by intro M w a l _ _ _ _ m;have⟨v,w',p,f,ht⟩:=h _ w a (λk c=>c.1) m;simp only[Does,p];refine⟨undef,f.mono (λ_ h=>h.elim),Fz,?_⟩;rw[Ji];refine ht _ (λk c=>⟨ZP c.1 f.size,c.2⟩) (λk r q=>⟨q,λhm=>?_⟩);have:=l k hm;omega
variable {ty:TypeId} {T:Ty}
def CS (h:Fct Γ x T):OpJ P ⟨d,.move x,ty,pos,af,g⟩ Γ [] [] (λ_=>[]) (λ_=>T):=AZ λF w a c=>⟨a.eval x,by simp[execOp],h.use oq c⟩
def Ql (h:Fct Γ x T):OpJ P ⟨d,.assign x,ty,pos,af,g⟩ Γ [] [] (λ_=>[]) (λ_=>T):=AZ λF w a c=>⟨a.eval x,by simp[execOp],h.use oq c⟩
def Cs {c:BinOp} {t t2:TypeId} {u r:Value} (hx:Fct Γ x (tv u)) (hy:Fct Γ y (tv v)) (h:∀w,((do eqGuard c t x y u v;binOp c t u v:Sem Value)).run P w=.ok r w):
  OpJ P ⟨d,.binOp c t x y t2,ty,pos,af,g⟩ Γ [] [] (λ_=>[]) (λ_=>tv r):=
 AZ λF w a f=>⟨r,by have l:=hx.val oq f;have m:=hy.val oq f;simp only[execOp,l,m];rw[Sem.run_bind,h w];rfl,rfl⟩
variable {t t2:TypeId} {k:IntKind} {a b:Int}
def MN (hx:Fct Γ x (tv (.int k a))) (hy:Fct Γ y (tv (.int k b))):OpJ P ⟨d,.binOp .add t x y t2,ty,pos,af,g⟩ Γ [] [] (λ_=>[]) (λ_=>tv (.int k (k.wrap (a+b)))):=Cs hx hy λw=>by simp[eqGuard,binOp,Op.intArith]
def Pk (hx:Fct Γ x (tv (.int k a))) (hy:Fct Γ y (tv (.int k b))):OpJ P ⟨d,.binOp .sub t x y t2,ty,pos,af,g⟩ Γ [] [] (λ_=>[]) (λ_=>tv (.int k (k.wrap (a - b)))):=Cs hx hy λw=>by simp[eqGuard,binOp,Op.intArith]
def op_mul (hx:Fct Γ x (tv (.int k a))) (hy:Fct Γ y (tv (.int k b))):OpJ P ⟨d,.binOp .mul t x y t2,ty,pos,af,g⟩ Γ [] [] (λ_=>[]) (λ_=>tv (.int k (k.wrap (a * b)))):=Cs hx hy λw=>by simp[eqGuard,binOp,Op.intArith]
def Tq (hx:Fct Γ x (tv (.int k a))) (hy:Fct Γ y (tv (.int k b))) (hb:b≠0):OpJ P ⟨d,.binOp .quo t x y t2,ty,pos,af,g⟩ Γ [] [] (λ_=>[]) (λ_=>tv (.int k (k.wrap (a.tdiv b)))):=Cs hx hy λw=>by simp[eqGuard,binOp,Op.intDiv,hb]
def T3 (hx:Fct Γ x (tv (.int k a))) (hy:Fct Γ y (tv (.int k b))) (hb:b≠0):OpJ P ⟨d,.binOp .rem t x y t2,ty,pos,af,g⟩ Γ [] [] (λ_=>[]) (λ_=>tv (.int k (a.tmod b))):=Cs hx hy λw=>by simp[eqGuard,binOp,Op.intDiv,hb]
def JA (hx:Fct Γ x (tv (.int k a))) (hy:Fct Γ y (tv (.int k b))):OpJ P ⟨d,.binOp .lss t x y t2,ty,pos,af,g⟩ Γ [] [] (λ_=>[]) (λ_=>tv (.bool (decide (a<b)))):=Cs hx hy λw=>by simp[eqGuard,binOp,Op.intCmp]
def UQ (hx:Fct Γ x (tv (.int k a))) (hy:Fct Γ y (tv (.int k b))):OpJ P ⟨d,.binOp .leq t x y t2,ty,pos,af,g⟩ Γ [] [] (λ_=>[]) (λ_=>tv (.bool (decide (a<=b)))):=Cs hx hy λw=>by simp[eqGuard,binOp,Op.intCmp]
def UX (hx:Fct Γ x (tv (.int k a))) (hy:Fct Γ y (tv (.int k b))):OpJ P ⟨d,.binOp .gtr t x y t2,ty,pos,af,g⟩ Γ [] [] (λ_=>[]) (λ_=>tv (.bool (decide (a>b)))):=Cs hx hy λw=>by simp[eqGuard,binOp,Op.intCmp]
def UF (hx:Fct Γ x (tv (.int k a))) (hy:Fct Γ y (tv (.int k b))):OpJ P ⟨d,.binOp .geq t x y t2,ty,pos,af,g⟩ Γ [] [] (λ_=>[]) (λ_=>tv (.bool (decide (a>=b)))):=Cs hx hy λw=>by simp[eqGuard,binOp,Op.intCmp]
def JS (hx:Fct Γ x (tv (.int k a))) (hy:Fct Γ y (tv (.int k b))):OpJ P ⟨d,.binOp .eql t x y t2,ty,pos,af,g⟩ Γ [] [] (λ_=>[]) (λ_=>tv (.bool (a==b))):=Cs hx hy λw=>by simp[eqGuard,binOp,Op.intCmp]
def UO (hx:Fct Γ x (tv (.int k a))) (hy:Fct Γ y (tv (.int k b))):OpJ P ⟨d,.binOp .neq t x y t2,ty,pos,af,g⟩ Γ [] [] (λ_=>[]) (λ_=>tv (.bool (a !=b))):=Cs hx hy λw=>by simp[eqGuard,binOp,Op.intCmp]
def Mo {c:Bool} (hx:Fct Γ x (tv (.bool c))):OpJ P ⟨d,.unOp .not t x,ty,pos,af,g⟩ Γ [] [] (λ_=>[]) (λ_=>tv (.bool !c)):=AZ λF w a f=>⟨_,by simp[execOp,hx.val oq f,Op.unary],rfl⟩
def Tx (hx:Fct Γ x (tv (.int k a))):OpJ P ⟨d,.unOp .neg t x,ty,pos,af,g⟩ Γ [] [] (λ_=>[]) (λ_=>tv (.int k (k.wrap (0 - a)))):=AZ λF w a c=>⟨_,by simp[execOp,hx.val oq c,Op.unary,Op.intArith],rfl⟩
def JB {D:TypeDesc} (c:P.underlying t=some D) (ht:P.underlying t2=some (.int k')) (hx:Fct Γ x (tv (.int k a))):OpJ P ⟨d,.convert t t2 x,ty,pos,af,g⟩ Γ [] [] (λ_=>[]) (λ_=>tv (.int k' (k'.wrap a))):=AZ λF w a f=>⟨_,by simp[execOp,hx.val oq f,convert,run_underlying c,run_underlying ht,Conv.intToInt],rfl⟩
def op_or {c e:Bool} (hx:Fct Γ x (tv (.bool c))) (hy:c=false->Fct Γ y (tv (.bool e))):OpJ P ⟨d,.pick x (.const (.bool true)) y,ty,pos,af,g⟩ Γ [] [] (λ_=>[]) (λ_=>tv (.bool (c||e))):=
 AZ λF w a f=>by
  have h:=hx.val oq f
  cases c with
  | true=>exact⟨.bool true,by simp[execOp,h,asBool,H7],rfl⟩
  | false=>exact⟨.bool e,by simp[execOp,h,asBool,(hy rfl).val oq f],rfl⟩
def Pl {c e:Bool} (hx:Fct Γ x (tv (.bool c))) (hy:c=true->Fct Γ y (tv (.bool e))):OpJ P ⟨d,.pick x y (.const (.bool false)),ty,pos,af,g⟩ Γ [] [] (λ_=>[]) (λ_=>tv (.bool (c&&e))):=
 AZ λF w a f=>by
  have h:=hx.val oq f
  cases c with
  | false=>exact⟨.bool false,by simp[execOp,h,asBool,H7],rfl⟩
  | true=>exact⟨.bool e,by simp[execOp,h,asBool,(hy rfl).val oq f],rfl⟩
def Ea (hx:Fct Γ x (ttup Ts)) (c:Ts[i]?=some T):OpJ P ⟨d,.extract x i,ty,pos,af,g⟩ Γ [] [] (λ_=>[]) (λ_=>T):=
 AZ λF w a f=>by
  have⟨us,h,hl,hc⟩:=hx.use oq f;have hi:i<us.length:=by rw[hl];exact (Zf.1 c).1
  exact⟨us[i],by simp[execOp,h,Instr.extract,hi],hc i T _ c (Zd hi)⟩
end
def idx (xs:List α) (i:Int):Option α:=if 0<=i then xs[i.toNat]? else none
def rm (n:Nat):Option Unit:=if n<=68719476736 then some () else none
def sub (xs:List α) (lo hi:Int):Option (List α):=if 0<=lo/\lo<=hi/\hi<=xs.length then some ((xs.drop lo.toNat).take (hi.toNat - lo.toNat)) else none
def mk (n:Int) (z:α):Option (List α):=if 0<=n/\n<=68719476736 then some (replicate n.toNat z) else none
def setAt (xs:List α) (i:Int) (x:α):Option (List α):=if 0<=i/\i<xs.length then some (xs.set i.toNat x) else none
def imax (a b:Int):Int:=if b>a then b else a
def imin (a b:Int):Int:=if b<a then b else a
def nz (b:Int):Option Unit:=if b≠0 then some () else none
def Aj (b off n:Nat):(⟨b,off,none⟩:Addr).add n=⟨b,off+n,none⟩:=by unfold Addr.add;split<;>simp_all
def Aw (R:Rep α) (xs:List α):(xs.flatMap R.cs).length=xs.length * R.n:=by
 induction xs with
 | nil=>simp
 | cons x xs c=>simp[flatMap_cons,c,R.len,Nat.add_mul,Nat.add_comm]
def Fq (R:Rep α):∀(xs:List α) (i j:Nat) (x:α),xs[i]?=some x->j<R.n->(xs.flatMap R.cs)[i * R.n+j]?=(R.cs x)[j]?:=by
 intro xs
 induction xs with
 | nil=>intro i j x h;simp at h
 | cons y xs f=>
  intro i j x h c;rw[flatMap_cons]
  cases i with
  | zero=>simp at h;subst h;rw[Nat.zero_mul,Nat.zero_add,Zv (by rw[R.len];exact c)]
  | succ i=>
   have l:xs[i]?=some x:=by simpa using h
   rw[ZA (by rw[R.len,Nat.add_mul];omega),R.len];have e:(i+1) * R.n+j - R.n=i * R.n+j:=by rw[Nat.add_mul];omega
   rw[e];exact f i j x l c
def Jj {b:Nat}:∀(Ts:List Ty) (off:Nat),Row Ts F w b off->∃us,QW Ts F w us/\∀j u,us[j]?=some u->w.cell? ⟨b,off+j,none⟩=some u:=by
 intro Ts
 induction Ts with
 | nil=>intro off _;exact⟨[],⟨rfl,λj T u h=>by simp at h⟩,λj u h=>by simp at h⟩
 | cons T Ts m=>
  intro off h;have⟨u,hu,o⟩:=h 0 T rfl;have⟨us,hc,p⟩:=m (off+1) (λj T' q=>by have⟨u,hu,ht⟩:=h (j+1) T' (sa q);exact⟨u,by rw[<-hu];congr 2;omega,ht⟩);refine⟨u::us,⟨by simp[hc.1],?_⟩,?_⟩
  ·intro j T' l f c
   cases j with
   | zero=>simp at f c;subst f;subst c;exact o
   | succ j=>exact hc.2 j T' l (sa f) (sa c)
  ·intro j l c
   cases j with
   | zero=>simp at c;subst c;simpa using hu
   | succ j=>rw[<-p j l (sa c)];congr 2;omega
def Row.part {b:Nat} (h:Row Ts F w b off) (m:Nat):Row (Ts.drop m) F w b (off+m):=by intro j T c;rw[getElem?_drop] at c;have⟨u,hu,ht⟩:=h (m+j) T c;exact⟨u,by rw[<-hu];congr 2;omega,ht⟩
def Row.head {b:Nat} (h:Row Ts F w b off) (hU:Us=Ts.take Us.length):Row Us F w b off:=by
 intro j T c;apply h j T;rw[hU,getElem?_take] at c;split at c
 ·exact c
 ·cases c
def Row.elem {b:Nat} {x:α} (h:Row (xs.flatMap R.cs) F w b off) (hx:xs[i]?=some x):Row (R.cs x) F w b (off+i * R.n):=by
 intro j T f;have c:j<R.n:=by rw[<-R.len x];exact (Zf.1 f).1
 have⟨u,hu,ht⟩:=h (i * R.n+j) T (by rw[Fq R xs i j x hx c];exact f);exact⟨u,by rw[<-hu];congr 2;omega,ht⟩
def kJ {x:α} {us:List Value} (h:QW (R.cs x) F w us):(R.agg=true->(R.ty x).ok F w (.agg us.toArray))/\(R.agg=false->∃u,us=[u]/\(R.ty x).ok F w u):=by
 constructor
 ·intro ha;unfold Rep.ty;rw[ha];exact⟨us,rfl,h⟩
 ·intro ha;have c:=R.sz ha;have hl:=R.len x;rw[c] at hl;have hu:=h.1;rw[hl] at hu
  match us,hu with
  | [u],_=>
   refine⟨u,rfl,?_⟩;unfold Rep.ty;rw[ha]
   match hc:R.cs x,hl with
   | [T],_=>rw[hc] at h;exact h.2 0 T u rfl rfl
def Ej {x:α} (h:(R.ty x).ok F w v):QW (R.cs x) F w v.cells.toList/\(∀u∈v.cells.toList,u.oneCell'=true)/\v.cells.size=R.n:=by
 have key:QW (R.cs x) F w v.cells.toList:=by
  unfold Rep.ty at h
  cases ha:R.agg with
  | true=>rw[ha] at h;have⟨us,o,hc⟩:=h;subst o;simpa[Value.cells] using hc
  | false=>
   rw[ha] at h;have hl:=R.len x;rw[R.sz ha] at hl
   match hc:R.cs x,hl with
   | [T],_=>
    rw[hc] at h;have l:T.ok F w v:=h;have p:v.oneCell'=true:=R.one x T (by rw[hc];simp) F w v l;have e:v.cells.toList=[v]:=by cases v<;>simp_all[Value.cells,Value.oneCell']
    rw[e];refine⟨rfl,λj T' u f hu=>?_⟩
    cases j with
    | zero=>simp at f hu;subst f;subst hu;exact l
    | succ j=>simp at f
 refine⟨key,λu hu=>?_,?_⟩
 ·have⟨j,m⟩:=ZX.1 hu;have c:j<(R.cs x).length:=by rw[<-key.1];exact (Zf.1 m).1
  exact R.one x _ (Zr c) F w u (key.2 j _ u (Zd c) m)
 ·have:=key.1;rw[R.len] at this;simpa using this
section
variable {Γ:List (Nat×Ty)} {ty:TypeId} {T:Ty} {t:TypeId} {R:Rep α}
def Hz {xs:List α} (ht:P.underlying t=some (.slice e)) (hx:Fct Γ x (tsl R xs)):OpJ P ⟨d,.call { callee:=.builtin .len,args:=#[x],argTypes:=#[t] },ty,pos,af,g⟩ Γ [] [] (λ_=>[]) (λ_=>tv (.int .i64 xs.length)):=AZ λF w a c=>by have⟨h,cap,f,_⟩:=hx.use sc c;exact⟨_,by simp[execOp,resolve,invoke,builtin,Builtin.len_,run_underlying ht,f,goInt],rfl⟩
def kK {xs:List α} (h:(own R e xs v).ok F w):∃f cap,v=.slice f xs.length cap:=by
 have⟨us,l,_⟩:=h;rcases l.2 with⟨c,m⟩ | ⟨o,cap,cur,c,_⟩
 ·exact⟨none,0,by rw[c,m]⟩
 ·exact⟨_,cap,c⟩
def Jb {xs:List α} (ht:P.underlying t=some (.slice e)) (hx:Fct Γ x (tv v)):OpJ P ⟨d,.call { callee:=.builtin .len,args:=#[x],argTypes:=#[t] },ty,pos,af,g⟩ Γ [own R e' xs v] [] (λ_=>[]) (λ_=>tv (.int .i64 xs.length)):=BY λM w a hU c=>by have⟨h,cap,f⟩:=kK (hU _ (Zi.2 rfl));have:=hx.val sc c;exact⟨_,by simp[execOp,resolve,invoke,builtin,Builtin.len_,run_underlying ht,this,f,goInt],rfl⟩
def kL {s:ByteArray} (ht:P.underlying t=some .string) (hx:Fct Γ x (tv (.string s))):OpJ P ⟨d,.call { callee:=.builtin .len,args:=#[x],argTypes:=#[t] },ty,pos,af,g⟩ Γ [] [] (λ_=>[]) (λ_=>tv (.int .i64 s.size)):=AZ λF w a c=>by have:=hx.val sc c;exact⟨_,by simp[execOp,resolve,invoke,builtin,Builtin.len_,run_underlying ht,this,goInt],rfl⟩
def RC {i:Int} {k:IntKind} {f:Option Addr} {len b:Nat} (ht:P.underlying t=some (.slice e)) (hz:TOk P e R bytes z) (w:World) (ha:f=some ⟨b,off,none⟩) (h0:0<=i) (h:i<len):
  (Instr.indexAt t (.slice f len cap) (.int k i)).run P w=.ok (.pointer (some ⟨b,off+i.toNat * R.n,none⟩)) w:=by
 have⟨ti,c,_,l,_⟩:=hz.info;simp[Instr.indexAt,run_underlying ht,asIntOf,ha,h0,h,sizeOf,typeInfo,c,l,Aj]
def JN {xs:List α} {i:Int} {k:IntKind} {u:α} (ht:P.underlying t=some (.slice e)) (hz:TOk P e R bytes z) (hx:Fct Γ x (tsl R xs)) (hi:Fct Γ y (tv (.int k i))) (h:idx xs i=some u):
  OpJ P ⟨d,.indexAddr t x y,ty,pos,af,g⟩ Γ [] [] (λ_=>[]) (λ_=>tptr (R.cs u)):=
 AZ λF w a l=>by
  have⟨r,cap,m,_,o⟩:=hx.use oq l;have p:=hi.val oq l;unfold idx at h;split at h
  ·rename_i h0;have c:i.toNat<xs.length:=(Zf.1 h).1;have⟨b,off,ha,hb,f⟩:=o (λq=>by rw[q] at c;simp at c);refine⟨_,?_,b,off+i.toNat * R.n,rfl,hb,f.elem h⟩;simp only[execOp,m,p,Sem.run_bind,RC ht hz w ha h0 (show i<(xs.length:Int) by omega),Zl,Sem.run_pure]
  ·cases h
def AX (v:Value) (m:Nat):Value:=match v with | .slice (some a) _ _=>.pointer (some (a.add m)) | _=>.pointer none
def padd (v:Value) (m:Nat):Value:=match v with | .pointer (some a)=>.pointer (some (a.add m)) | _=>.pointer none
def RD {xs:List α} {i:Int} {k:IntKind} (ht:P.underlying t=some (.slice e)) (hz:TOk P e R bytes z) (hx:Fct Γ x (tv v)) (hi:Fct Γ y (tv (.int k i))) (h0:0<=i) (h:i<xs.length):
  OpJ P ⟨d,.indexAddr t x y,ty,pos,af,g⟩ Γ [own R e' xs v] [] (λ_=>[]) (λ_=>tv (AX v (i.toNat * R.n))):=
 BY λM w a hU f=>by
  have l:=hx.val oq f;have m:=hi.val oq f;have⟨us,o,_⟩:=hU _ (Zi.2 rfl);rcases o.2 with⟨_,p⟩ | ⟨q,cap,cur,c,_⟩
  ·omega
  ·refine⟨_,?_,rfl⟩;subst c;simp only[execOp,l,m,Sem.run_bind,RC ht hz w rfl h0 h,Zl,Sem.run_pure,AX,Aj]
def F1 {b:Nat} {u:α} (hz:TOk P t R bytes z) (q:Row (R.cs u) F w b off):∃v,(Instr.loadAt t (.pointer (some ⟨b,off,none⟩))).run P w=.ok v w/\(R.ty u).ok F w v:=by
 have⟨D,p,f⟩:=hz.d;have⟨ti,h,_,r,_⟩:=hz.info;have⟨us,hc,c⟩:=Jj _ _ q;have hlen:us.length=R.n:=by rw[hc.1,R.len]
 have⟨hA,s⟩:=kJ hc
 cases ha:R.agg with
 | true=>
  refine⟨.agg us.toArray,?_,hA ha⟩;rw[ha] at f;have hl:=run_loadCells_list (P:=P) w ⟨b,off,none⟩ us (λj v A=>by rw[Aj];exact c j v A);rw[hlen] at hl
  cases D<;>first
   | (simp[G2] at f;done)
   | simp[Instr.loadAt,Instr.sureAddr,loadVar,isAgg,run_underlying p,sizeOf,typeInfo,h,r,hl]
 | false=>
  have⟨l,m,o⟩:=s ha;refine⟨l,?_,o⟩;rw[ha] at f;have hl:w.cell? ⟨b,off,none⟩=some l:=by simpa using c 0 l (by simp[m])
  cases D<;>first
   | (simp[G2] at f;done)
   | simp[Instr.loadAt,Instr.sureAddr,loadVar,isAgg,run_underlying p,hl]
def Q4 {u:α} (hz:TOk P t R bytes z) (hp:Fct Γ x (tptr (R.cs u))):OpJ P ⟨d,.load t x,ty,pos,af,g⟩ Γ [] [] (λ_=>[]) (λ_=>R.ty u):=AZ λF w a h=>by have⟨b,off,l,_,m⟩:=hp.use oq h;have⟨v,c,f⟩:=F1 hz m;exact⟨v,by simp only[execOp,l,Sem.run_bind,c,Zl,Sem.run_pure],f⟩
def QM {u:α} (hz:TOk P t R bytes z) (hp:Fct Γ x (tptr Ts)) (h:R.cs u=Ts.take (R.cs u).length):OpJ P ⟨d,.load t x,ty,pos,af,g⟩ Γ [] [] (λ_=>[]) (λ_=>R.ty u):=Q4 hz (hp.Xo λ_ _ _ ⟨b,off,c,hb,f⟩=>⟨b,off,c,hb,f.head h⟩)
def Qz (P:Program) (s:TypeId) (f off:Nat):Prop:=∃c fd i,P.underlying s=some (.struct c)/\c[f]?=some fd/\fd.offset=off/\P.info? fd.type=some i/\i.size≠0
def NY {s:TypeId} {f b o:Nat} (hf:Qz P s f off) (w:World):(Instr.fieldAt s (.pointer (some ⟨b,o,none⟩)) f).run P w=.ok (.pointer (some ⟨b,o+off,none⟩)) w:=by have⟨q,fd,i,c,h,l,m,p⟩:=hf;simp[Instr.fieldAt,run_underlying c,h,Instr.sureAddr,fieldPlace,sizeOf,typeInfo,m,p,l,Aj]
def QP {s:TypeId} {f:Nat} (hf:Qz P s f off) (hp:Fct Γ x (tptr Ts)):OpJ P ⟨d,.fieldAddr s x f,ty,pos,af,g⟩ Γ [] [] (λ_=>[]) (λ_=>tptr (Ts.drop off)):=AZ λF w a c=>by have⟨b,o,h,hb,l⟩:=hp.use oq c;exact⟨_,by simp only[execOp,h,Sem.run_bind,NY hf,Zl,Sem.run_pure],b,o+off,rfl,hb,l.part off⟩
def Q5 {s:TypeId} {f:Nat} {q:Value} (hf:Qz P s f off) (hp:Fct Γ x (tv q)):OpJ P ⟨d,.fieldAddr s x f,ty,pos,af,g⟩ Γ [box Ts q] [] (λ_=>[]) (λ_=>tv (padd q off)):=BY λM w a hU c=>by have h:=hp.val oq c;have⟨b,cur,e,l,_⟩:=hU _ (Zi.2 rfl);subst l;exact⟨_,by simp only[execOp,h,Sem.run_bind,NY hf,Zl,Sem.run_pure,padd,Aj],rfl⟩
def NZ {q:Value} (h:(box Ts q).ok F w):∃b,q=.pointer (some ⟨b,0,none⟩)/\Row Ts F w b 0:=by
 have⟨b,cur,e,l,hb,hc,_⟩:=h;refine⟨b,l,λj T f=>?_⟩;have c:j<cur.toList.length:=by rw[hc.1];exact (Zf.1 f).1
 refine⟨cur.toList[j],?_,hc.2 j T _ f (Zd c)⟩;have:j<cur.size:=by simpa using c
 simp[World.cell?,hb,this]
def Pu {u:α} {q:Value} (hz:TOk P t R bytes z) (hp:Fct Γ x (tv q)) (h:R.cs u=Ts.take (R.cs u).length):OpJ P ⟨d,.load t x,ty,pos,af,g⟩ Γ [box Ts q] [] (λ_=>[]) (λ_=>R.ty u):=BY λM w a hU l=>by have m:=hp.val oq l;have⟨b,o,p⟩:=NZ (hU _ (Zi.2 rfl));subst o;have⟨v,c,f⟩:=F1 hz (p.head h);exact⟨v,by simp only[execOp,m,Sem.run_bind,c,Zl,Sem.run_pure],f⟩
def NQ {u:α} {q:Value} (hz:TOk P t R bytes z) (hp:Fct Γ x (tv (padd q off))) (h:R.cs u=(Ts.drop off).take (R.cs u).length):OpJ P ⟨d,.load t x,ty,pos,af,g⟩ Γ [box Ts q] [] (λ_=>[]) (λ_=>R.ty u):=BY λM w a hU l=>by have m:=hp.val oq l;have⟨b,o,p⟩:=NZ (hU _ (Zi.2 rfl));subst o;have⟨v,c,f⟩:=F1 hz ((p.part off).head h);exact⟨v,by simp only[execOp,m,padd,Aj,Sem.run_bind,c,Zl,Sem.run_pure],f⟩
def kM {us:List Value} {e:TypeId} (hc:QW Ts F w us) (f:∀u∈us,u.oneCell'=true) (h:∀k,F k->k<w.heap.size) (c:∀k,F k->F' k):
  (box Ts (.pointer (some ⟨w.heap.size,0,none⟩))).ok F' (w.alloc (.cells us.toArray e)):=by
 refine⟨w.heap.size,us.toArray,e,rfl,heap_alloc_new w _,?_,by simpa using f⟩;simpa using hc.keep c (λk l=>Go.RowKit.Below.heap_alloc w _ k (h k l))
def VQ {us:List Value} {e:TypeId} (hc:QW Ts (free M w) w us) (f:∀u∈us,u.oneCell'=true):
  Made M [] [box Ts (.pointer (some ⟨w.heap.size,0,none⟩))] w (w.alloc (.cells us.toArray e)):=by
 refine BX (λk c=>?_) (kM hc f (λk c=>c.1) λk c=>?_)
 ·cases c;exact⟨.inr (Zq _),sm⟩
 ·refine Cp sm (λj h=>(by rw[Gp] at h;exact h.elim)) (λA hA j l=>?_) c;obtain rfl:=Zi.1 hA;cases l;exact .inr (Zq _)
def JR {u:α} (hx:Fct Γ x (R.ty u)):OpJ P ⟨d,.box t x,ty,pos,af,g⟩ Γ [] [] (λp=>[box (R.cs u) p]) (λp=>tv p):=by
 intro M w a o _ _ _ _ f;have c:=hx.use oq f;have⟨hc,l,_⟩:=Ej c;have m:(execOp a.eval (⟨d,.box t x,ty,pos,af,g⟩:Oper)).run P w=.ok (.value (.pointer (some ⟨w.heap.size,0,none⟩))) (w.alloc (.cells (a.eval x).cells t)):=by simp[execOp,Instr.box,newVar,newRow]
 simp only[Does,m];refine⟨.pointer (some ⟨w.heap.size,0,none⟩),(Step.alloc w _).mono (λ_ h=>h.elim),?_,rfl⟩;have:=VQ (e:=t) hc l;simpa using this
def Mj {u:α} (hx:Fct Γ x (R.ty u)):OpJ P ⟨d,.box t x,ty,pos,af,g⟩ Γ [] [] (λ_=>[]) (λ_=>tptr (R.cs u)):=
 RA λF w a m o=>by
  have f:=hx.use oq o;have⟨hc,_,_⟩:=Ej f;refine⟨.pointer (some ⟨w.heap.size,0,none⟩),w.alloc (.cells (a.eval x).cells t),by simp[execOp,Instr.box,newVar,newRow],Step.alloc w _,λF' p q=>?_⟩;refine⟨w.heap.size,0,rfl,q _ (Zq _) sm,λj T l=>?_⟩;have h:j<(a.eval x).cells.toList.length:=by rw[hc.1];exact (Zf.1 l).1
  have c:j<(a.eval x).cells.size:=by simpa using h
  refine⟨(a.eval x).cells[j],?_,?_⟩
  ·rw[Nat.zero_add,World.cell?_alloc_new];exact Array.getElem?_eq_getElem c
  ·exact T.keep p (λk r=>Go.RowKit.Below.heap_alloc w _ k (m k r)) (hc.2 j T _ l (by simp[c]))
end
def splice (l:List β) (off:Nat) (m:List β):List β:=l.take off++m++l.drop (off+m.length)
def Gr (l m:List β) (off:Nat) (h:off+m.length<=l.length):(splice l off m).length=l.length:=by simp[splice];omega
def DM (l m:List β) (off j:Nat) (h:off+m.length<=l.length):(splice l off m)[j]?=if off<=j/\j<off+m.length then m[j - off]? else l[j]?:=by
 unfold splice;by_cases c:j<off
 ·rw[Zb om,ZJ,Zv so,getElem?_take,Zc c]
 ·by_cases f:j<off+m.length
  ·rw[Zc om,ZJ,ZA so,ZY,Zv om];congr 1;omega
  ·rw[Zb om,ZA so,getElem?_drop];congr 1;simp;omega
def QW.splice {us:List Value} (h:QW Ts F w us) (k:QW Us F w vs) (hl:off+Us.length<=Ts.length):QW (splice Ts off Us) F w (Sim.splice us off vs):=by
 have e1:=h.1;have e2:=k.1;refine⟨by rw[Gr _ _ _ om,Gr _ _ _ hl,e1],λj T u c hu=>?_⟩;rw[DM _ _ _ _ hl] at c;rw[DM _ _ _ _ om,e2] at hu;split at c
 ·rename_i hc;rw[Zc hc] at hu;exact k.2 _ T u c hu
 ·rename_i hc;rw[Zb hc] at hu;exact h.2 j T u c hu
def Va:∀(vs:List Value) (i off:Nat) (cs:Array Value),off+i+vs.length<=cs.size->((vs.zipIdx i).foldl (λcs p=>cs.setIfInBounds (off+p.2) p.1) cs).toList=splice cs.toList (off+i) vs:=by
 intro vs
 induction vs with
 | nil=>intro i off cs _;simp[splice]
 | cons v vs f=>
  intro i off cs h;simp only[zipIdx_cons,foldl_cons];have hl:off+i+(vs.length+1)<=cs.size:=by simpa using h
  rw[f (i+1) off _ so];apply ext_getElem?;intro j;rw[DM _ _ _ _ so,DM _ _ _ _ so];simp only[Array.toList_setIfInBounds,Zj,getElem?_set,Array.length_toList];by_cases l:j=off+i
  ·subst l;rw[Zb om,Zc rfl,Zc om,Zc om];simp
  ·by_cases c:off+i<=j/\j<off+i+(vs.length+1)
   ·rw[Zc om,Zc c];have:j - (off+i)=j - (off+(i+1))+1:=by omega
    rw[this];simp
   ·rw[Zb om,Zb c,Zb om]
section
variable {Γ:List (Nat×Ty)} {ty:TypeId} {T:Ty} {t:TypeId} {R:Rep α}
def RE {u:α} {b:Nat} {cur:Array Value} (hz:TOk P t R bytes z) (l:(R.ty u).ok F w v) (hb:w.heap[b]?=some (.cells cur e (0,0))) (hl:off+R.n<=cur.size):
  (Instr.storeAt t (.pointer (some ⟨b,off,none⟩)) v).run P w=.ok () (w.setRow b (splice cur.toList off v.cells.toList).toArray):=by
 have⟨ti,f,_,m,_⟩:=hz.info;have⟨_,o,h⟩:=Ej l;have hlen:v.cells.toList.length=R.n:=by simpa using h
 have c:=run_storeCells_at P b off e v.cells.toList 0 cur w hb (by rw[hlen];omega) o;simp only[Nat.add_zero] at c;simp[Instr.storeAt,Instr.sureAddr,storeVar,sizeOf,typeInfo,f,m,h,c,splice]
def Gs {b:Nat} {cs:Array Value} (c:B b):Step B w (w.setRow b cs):=⟨rfl,rfl,rfl,sm,λk _ f=>setRow_other w b k cs (λe=>f (e▸c))⟩
def Vb {us:List Value} (h:∀u∈us,u.oneCell'=true) (k:∀u∈vs,u.oneCell'=true):∀u∈splice us off vs,u.oneCell'=true:=by
 intro u hu;unfold splice at hu;simp only[ZH] at hu;rcases hu with (hu | hu) | hu
 ·exact h u (mem_of_mem_take hu)
 ·exact k u hu
 ·exact h u (mem_of_mem_drop hu)
def QW.Xr {us:List Value} (h:QW Ts F w us) (c:∀k,F k->F' k) (f:∀k,F k->w'.heap[k]?=w.heap[k]?):QW Ts F' w' us:=QW.keep c f h
def Na {b k:Nat}:(box Ts (.pointer (some ⟨b,0,none⟩))).fp k↔k=b:=by
 show Value.pointer (some ⟨b,0,none⟩)=.pointer (some ⟨k,0,none⟩)↔k=b;constructor
 ·intro h;simp at h;exact h.symm
 ·rintro rfl;rfl
def Vc {a:α} {q:Value} (hz:TOk P t R bytes z) (hp:∀F w b A,D4 Γ (⟨d,.store t x y,ty,pos,af,g⟩:Oper).op.operands F w A->q=.pointer (some ⟨b,0,none⟩)->A.eval x=.pointer (some ⟨b,off,none⟩)) (hx:Fct Γ y (R.ty a)) (hl:off+R.n<=Ts.length):OpJ P ⟨d,.store t x y,ty,pos,af,g⟩ Γ [] [box Ts q] (λ_=>[box (splice Ts off (R.cs a)) q]) (λ_=>tany):=by
 intro M w A Y _ C _ _ D;have⟨⟨b,cur,e,m,hb,hc,I⟩,K⟩:=C _ (Zi.2 rfl);have f:=Cr C;have H:=hx.use oq D;have o:=hp _ _ b A D m;have L:cur.size=Ts.length:=by simpa using hc.1
 have N:(execOp A.eval (⟨d,.store t x y,ty,pos,af,g⟩:Oper)).run P w=.ok .skip (w.setRow b (splice cur.toList off (A.eval y).cells.toList).toArray):=by have p:=RE (off:=off) hz H hb om;simp only[execOp,o,Sem.run_bind,p,Zl,Sem.run_pure]
 simp only[Does,N];have c:∀k,AR [box Ts q] k↔k=b:=by intro k;rw[AU,m,Na]
 have h:∀{Us:List Ty} k,(box Us q).fp k↔k=b:=by intro Us k;rw[m,Na]
 refine⟨undef,Gs ((c b).2 rfl),BX (λk l=>?_) ?_,trivial⟩
 ·have l:=(h k).1 l;subst l;refine⟨.inl ((c _).2 rfl),?_⟩;have:=(Array.getElem?_eq_some_iff.1 hb).1;simpa using this
 ·have⟨r,s,_⟩:=Ej H;refine⟨b,_,e,m,setRow_heap w b cur _ e _ hb,?_,?_⟩
  ·have u:=(hc.splice (off:=off) r (by rw[R.len];exact hl));simp only;apply u.Xr
   ·intro k l;refine Cp sm f (λB O j W=>?_) l;obtain rfl:=Zi.1 O;exact .inl ((c j).2 ((h j).1 W))
   ·rintro k ⟨Z,X⟩;exact setRow_other w b k _ (λe=>X (f k ((c k).2 e)))
  ·simpa using Vb (off:=off) I s
def Ec {a:α} {q:Value} (hz:TOk P t R bytes z) (hp:Fct Γ x (tv q)) (hx:Fct Γ y (R.ty a)) (hl:R.n<=Ts.length):
  OpJ P ⟨d,.store t x y,ty,pos,af,g⟩ Γ [] [box Ts q] (λ_=>[box (splice Ts 0 (R.cs a)) q]) (λ_=>tany):=
 Vc hz (λ_ _ _ _ c f=>(hp.val oq c).trans f) hx om
def RF {a:α} {q:Value} (hz:TOk P t R bytes z) (hp:Fct Γ x (tv (padd q off))) (hx:Fct Γ y (R.ty a)) (hl:off+R.n<=Ts.length):
  OpJ P ⟨d,.store t x y,ty,pos,af,g⟩ Γ [] [box Ts q] (λ_=>[box (splice Ts off (R.cs a)) q]) (λ_=>tany):=
 Vc hz (λ_ _ b _ c f=>by rw[hp.val oq c,f];simp[padd,Aj]) hx hl
def Eb {a:α} (hz:TOk P t R bytes z) (h0:∀F w,(R.ty a).ok F w z):OpJ P ⟨d,.alloc t,ty,pos,af,g⟩ Γ [] [] (λp=>[box (R.cs a) p]) (λp=>tv p):=by
 intro M w A o _ _ _ _ _;have⟨ti,c,f,q,_⟩:=hz.info;have⟨hc,l,_⟩:=Ej (h0 (free M w) w);have m:(execOp A.eval (⟨d,.alloc t,ty,pos,af,g⟩:Oper)).run P w=.ok (.value (.pointer (some ⟨w.heap.size,0,none⟩))) (w.alloc (.cells z.cells t)):=by simp[execOp,Instr.alloc,zeroValue,typeInfo,c,f,newVar,newRow]
 simp only[Does,m];refine⟨.pointer (some ⟨w.heap.size,0,none⟩),(Step.alloc w _).mono (λ_ h=>h.elim),?_,rfl⟩;have:=VQ (e:=t) hc l;simpa using this
inductive BU (Γ:List (Nat×Ty)) (R:Rep α):Nat->List (Nat×Operand)->List α->Prop where
 | nil (i:Nat):BU Γ R i [] []
 | cons {i:Nat} {x:Operand} {u:α} {ps:List (Nat×Operand)} {us:List α} (h:Fct Γ x (R.ty u)) (hs:BU Γ R (i+1) ps us):BU Γ R i ((i,x)::ps) (u::us)
def RG {A:Act} {ps:List (Nat×Operand)} {us:List α} (h:BU Γ R i ps us) (N:∀p∈Γ,(∃q∈ps,Operand.tmp p.1=q.2)->p.2.ok F w (get A p.1)):
  ∀cs:Array Value,(i+us.length) * R.n<=cs.size->∃vs,QW (us.flatMap R.cs) F w vs/\(∀u∈vs,u.oneCell'=true)/\∃c,Instr.fill (λi=>some (i * R.n,R.n)) cs (ps.map λp=>(p.1,A.eval p.2))=some c/\c.toList=splice cs.toList (i * R.n) vs:=by
 induction h with
 | nil i=>intro cs _;exact⟨[],⟨rfl,λj T u h=>by simp at h⟩,λu h=>by simp at h,cs,rfl,by simp[splice]⟩
 | @cons i x X ps us hx hs Y=>
  intro cs hl;have Z:=hx F w A (λp hp I=>N p hp ⟨(i,x),sm,I⟩);have⟨hc,h1,O⟩:=Ej Z;have W:(i+(us.length+1)) * R.n=i * R.n+(us.length * R.n+R.n):=by rw[Nat.add_mul,Nat.add_mul];omega
  have K:(i+1+us.length) * R.n=i * R.n+(us.length * R.n+R.n):=by rw[Nat.add_mul,Nat.add_mul];omega
  have f:(i+1) * R.n=i * R.n+R.n:=by rw[Nat.add_mul];omega
  simp only[Zj] at hl;have l:(A.eval x).cells.toList.length=R.n:=by simpa using O
  have r:=Va (A.eval x).cells.toList 0 (i * R.n) cs (by rw[l];omega);have⟨vs,m,L,c,hf,s⟩:=Y (λp hp ⟨q,hq,e⟩=>N p hp ⟨q,by simp[hq],e⟩) ((A.eval x).cells.zipIdx.foldl (λcs p=>cs.setIfInBounds (i * R.n+p.2) p.1) cs) (by
   have:((A.eval x).cells.zipIdx.foldl (λcs p=>cs.setIfInBounds (i * R.n+p.2) p.1) cs).size=cs.size:=by rw[<-Array.length_toList,<-Array.foldl_toList,Array.toList_zipIdx,r,Gr _ _ _ so];simp
   rw[this];omega)
  refine⟨(A.eval x).cells.toList++vs,?_,?_,c,?_,?_⟩
  ·rw[flatMap_cons];refine⟨by simp[hc.1,m.1],λj T u H hu=>?_⟩;have e:=hc.1;by_cases hj:j<(R.cs X).length
   ·rw[Zv hj] at H;rw[Zv om] at hu;exact hc.2 j T u H hu
   ·rw[ZA om] at H;rw[ZA om,e] at hu;exact m.2 _ T u H hu
  ·intro u hu;rcases ZH.1 hu with hu | hu
   ·exact h1 u hu
   ·exact L u hu
  ·simp only[Ys,Instr.fill,O];rw[Zb so];exact hf
  ·rw[s,<-Array.foldl_toList,Array.toList_zipIdx,r];have C:vs.length=us.length * R.n:=by rw[m.1,Aw]
   have D:i * R.n+0+(A.eval x).cells.toList.length<=cs.toList.length:=by simp;omega
   apply ext_getElem?;intro j;rw[DM _ _ _ _ (by rw[Gr _ _ _ D];simp;omega),DM _ _ _ _ D,DM _ _ _ _ so];simp only[Ze,l,C,f];by_cases o:i * R.n<=j/\j<i * R.n+(R.n+us.length * R.n)
   ·by_cases a0:j<i * R.n+R.n
    ·rw[Zb om,Zc om,Zc o,Zv om];simp
    ·rw[Zc om,Zc o,ZA om,l];congr 1;omega
   ·rw[Zb om,Zb om,Zb o]
def Vd {A:Act} {len:Nat} {us:List α} (ht:P.underlying t=some (.slice e)) (hz:TOk P e R bytes z) (hps:BU Γ R 0 ps.toList us) (hlen:us.length=len) (h24:len * R.n<=16777216) (D:D4 Γ (⟨d,.buildSlice t len ps,ty,pos,af,g⟩:Oper).op.operands F w A):∃vs,QW (us.flatMap R.cs) F w vs/\(∀u∈vs,u.oneCell'=true)/\(execOp A.eval (⟨d,.buildSlice t len ps,ty,pos,af,g⟩:Oper)).run P w=.ok (.value (.slice (some ⟨w.heap.size,0,none⟩) len len)) (w.alloc (.cells vs.toArray e)):=by
 have⟨ti,f,m,C,_⟩:=hz.info;have⟨vs,hc,H,o,hf,r⟩:=RG (F:=F) (w:=w) (A:=A) hps (λp hp ⟨q,I,e⟩=>D p hp (by simp only[Op.operands,mem_toArray,ZR];exact⟨q,I,e.symm⟩)) (madeCells z.cells (len * R.n)) (by rw[size_madeCells,hlen];simp);have s:vs.length=len * R.n:=by rw[hc.1,Aw,hlen]
 have h:o=vs.toArray:=by apply Array.toList_inj.1;rw[r];simp[splice,s,size_madeCells]
 refine⟨vs,hc,H,?_⟩;subst h;have l:¬(16777216<len * R.n):=by omega
 have c:Instr.fill (λi=>some (i * R.n,R.n)) (madeCells z.cells (len * R.n)) (ps.toList.map λp=>(p.1,A.eval p.2))=some vs.toArray:=hf;unfold madeCells at c;by_cases h0:len * R.n=0
 ·have e0:(Array.range (len * R.n)).map (λx=>z.cells[x % z.cells.size]!)=#[]:=by rw[h0];simp
  rw[e0] at c;have e1:Instr.fill (λi=>some (i * R.n,R.n)) #[] (map (λp=>(p.1,A.eval p.2)) ps.toList)=some vs.toArray:=c;simp[execOp,Instr.buildSlice,run_underlying ht,sizeOf,typeInfo,f,C,h0,newRow,Array.range_zero',e1]
 ·have e1:Instr.fill (λi=>some (i * R.n,R.n)) ((Array.range (len * R.n)).map (λx=>z.cells[x % z.cells.size]!)) (map (λp=>(p.1,A.eval p.2)) ps.toList)=some vs.toArray:=c;simp[execOp,Instr.buildSlice,run_underlying ht,sizeOf,typeInfo,f,C,l,h0,newRow,zeroValue,m,e1]
def kN {us:List α} (hc:QW (us.flatMap R.cs) F w vs) (l:∀k,F k->k<w.heap.size) (m:∀k,F k->F' k) (o:F' w.heap.size) (c:us.length<=cap):
  (tsl R us).ok F' (w.alloc (.cells vs.toArray e)) (.slice (some ⟨w.heap.size,0,none⟩) us.length cap):=by
 refine⟨_,cap,rfl,c,λ_=>⟨w.heap.size,0,rfl,o,λj T h=>?_⟩⟩;have f:j<vs.length:=by rw[hc.1];exact (Zf.1 h).1
 refine⟨vs[j],?_,T.keep m (λk p=>Go.RowKit.Below.heap_alloc w _ k (l k p)) (hc.2 j T _ h (Zd f))⟩;rw[Nat.zero_add,World.cell?_alloc_new];simp[f]
def Gd {len:Nat} {us:List α} (ht:P.underlying t=some (.slice e)) (hz:TOk P e R bytes z) (hps:BU Γ R 0 ps.toList us) (hlen:us.length=len) (h24:len * R.n<=16777216):
  OpJ P ⟨d,.buildSlice t len ps,ty,pos,af,g⟩ Γ [] [] (λ_=>[]) (λ_=>tsl R us):=
 RA λF w A c f=>by have⟨vs,hc,_,h⟩:=Vd ht hz hps hlen h24 f;refine⟨_,_,h,Step.alloc w _,λF' l m=>?_⟩;subst hlen;exact kN hc c l (m _ (Zq _) sm) (Zq _)
def kO {us:List α} (hc:QW (us.flatMap R.cs) F w vs) (c:us.length=cap) (f:cap<=maxLen) (h:∀k,F k->k<w.heap.size) (l:∀k,F k->F' k):
  (own R e us (.slice (some ⟨w.heap.size,0,none⟩) cap cap)).ok F' (w.alloc (.cells vs.toArray e)):=by
 have hl:vs.length=us.length * R.n:=by rw[hc.1,Aw]
 refine⟨vs,⟨hl,.inr ⟨w.heap.size,cap,vs.toArray,by rw[c],Nat.zero_le _,heap_alloc_new w _,om,f,by simp[hl,c],?_⟩⟩,hc.Xr l (λk m=>Go.RowKit.Below.heap_alloc w _ k (h k m))⟩;simp[<-hl]
def Ve {us:List α} (hc:QW (us.flatMap R.cs) (free M w) w vs) (c:us.length=cap) (f:cap<=maxLen):
  Made M [] [own R e us (.slice (some ⟨w.heap.size,0,none⟩) cap cap)] w (w.alloc (.cells vs.toArray e)):=by
 refine BX (λk l=>?_) (kO hc c f (λk l=>l.1) λk l=>?_)
 ·have m:some w.heap.size=some k:=l;cases m;exact⟨.inr (Zq _),sm⟩
 ·refine Cp sm (λj h=>(by rw[Gp] at h;exact h.elim)) (λA hA j p=>?_) l;obtain rfl:=Zi.1 hA;have o:some w.heap.size=some j:=p;cases o;exact .inr (Zq _)
def M9 {len:Nat} {us:List α} (ht:P.underlying t=some (.slice e)) (hz:TOk P e R bytes z) (hps:BU Γ R 0 ps.toList us) (hlen:us.length=len) (h24:len * R.n<=16777216) (hm:len<=16777216):
  OpJ P ⟨d,.buildSlice t len ps,ty,pos,af,g⟩ Γ [] [] (λv=>[own R e us v]) (λv=>tv v):=by
 intro M w A l _ _ _ _ c;have⟨vs,hc,_,f⟩:=Vd ht hz hps hlen h24 c;simp only[Does,f];exact⟨_,(Step.alloc w _).mono (λ_ h=>h.elim),Ve hc hlen (by unfold maxLen;omega),rfl⟩
def kP {l:α} (h0:∀F w,(R.ty l).ok F w z) (n:Nat):QW ((replicate n l).flatMap R.cs) F w (madeCells z.cells (n * R.n)).toList:=by
 have⟨hc,_,r⟩:=Ej (h0 F w);refine⟨by rw[Aw];simp[size_madeCells],λj T v m s=>?_⟩;have o:j<n * R.n:=by have:=(Zf.1 m).1;rw[Aw] at this;simpa using this
 have c:0<R.n:=by
  rcases Nat.eq_zero_or_pos R.n with h | h
  ·rw[h] at o;omega
  ·exact h
 have p:j / R.n * R.n+j % R.n=j:=by rw[Nat.mul_comm];exact Nat.div_add_mod j R.n
 have u:j / R.n<n:=Nat.div_lt_of_lt_mul (by rw[Nat.mul_comm];exact o);rw[<-p,Fq R _ (j / R.n) (j % R.n) l (by simp[u]) (Nat.mod_lt _ c)] at m;have f:j % R.n<z.cells.size:=by rw[r];exact Nat.mod_lt _ c
 have q:v=z.cells[j % R.n]:=by
  have:(madeCells z.cells (n * R.n)).toList[j]?=some z.cells[j % R.n]:=by simp[madeCells,o,r];exact getElem!_pos z.cells (j % R.n) f
  rw[this] at s;exact (Zn s).symm
 subst q;exact hc.2 _ T _ m (by simp[f])
def Vf {n:Int} {k:IntKind} {q:α} {us:List α} (ht:P.underlying t=some (.slice e)) (hz:TOk P e R bytes z) (h0:∀F w,(R.ty q).ok F w z) (hb:bytes<=2048) (hx:Fct Γ x (tv (.int k n))) (hy:Fct Γ y (tv (.int k' n))) (h:mk n q=some us):OpJ P ⟨d,.makeSlice t x y,ty,pos,af,g⟩ Γ [] [] (λv=>[own R e us v]) (λv=>tv v):=by
 intro M w A H _ _ _ _ r;unfold mk at h;split at h
 ·rename_i c;simp only[ZQ] at h;subst h;have⟨ti,f,l,u,m⟩:=hz.info;have C:=hx.val oq r;have D:=hy.val oq r;have o:(ti.bytes:Int) * n<=281474976710656:=by
   rw[m];have I:(bytes:Int) * n<=2048 * 68719476736:=Int.mul_le_mul om c.2 c.1 om;omega
  have s:=run_make (P:=P) w t e ti z ht f l k k' n n c.1 (Zx _) o om;rw[u] at s;have p:(execOp A.eval (⟨d,.makeSlice t x y,ty,pos,af,g⟩:Oper)).run P w=.ok (.value (.slice (some ⟨w.heap.size,0,none⟩) n.toNat n.toNat)) (w.alloc (.cells (madeCells z.cells (n.toNat * R.n)) e)):=by simp only[execOp,C,D,Sem.run_bind,s,Zl,Sem.run_pure]
  simp only[Does,p];refine⟨_,(Step.alloc w _).mono (λ_ h=>h.elim),?_,rfl⟩;have:=Ve (e:=e) (cap:=n.toNat) (kP (F:=free M w) (w:=w) h0 n.toNat) sm (by unfold maxLen;omega);simpa using this
 ·cases h
end

/- A logic of its own over the kit's weakest preconditions. No condition. -/
import Derived.WalkKit
import Derived.KernelRfl
import Derived.OrdersIn
set_option linter.all false
open List
namespace Go.Sim
def Za:=@Option.bind_some
def Zb:=@if_neg
def Zc:=@List.getElem?_eq_some_iff
def Zd:=@List.length_append
def Ze:=@if_pos
def Zf:=@List.getElem?_eq_getElem
def Zg:=@List.mem_singleton
def Zh:=@Bool.and_eq_true
def Zi:=@List.length_cons
def Zj:=@Result.andThen_ok
def Zk:=@List.length_nil
def Zl:=@List.mem_cons_self
def Zm:=@List.mem_cons
def Zn:=@List.getElem_mem
def Zo:=@List.mem_of_getElem?
def Zp:=@Nat.le_refl
def Zq:=@of_decide_eq_true
def Zr:=@List.not_mem_nil
def Zs:=@List.all_eq_true
def Zt:=@Int.toNat_natCast
def Zu:=@congrArg
def Zv:=@List.getElem?_append_right
def Zw:=@List.getD_eq_getElem?_getD
def Zx:=@List.take_succ_eq_append_getElem
def Zy:=@List.mem_cons_of_mem
def Zz:=@Option.some.inj
def ZA:=@decide_eq_true_eq
def ZB:=@Option.some.injEq
def ZC:=@List.append_assoc
def ZD:=@List.getElem?_append_left
def ZE:=@List.length_take
def ZF:=@Int.le_refl
def ZG:=@Nat.lt_of_lt_of_le
def ZH:=@List.mem_append
def ZI:=@List.take_of_length_le
def ZJ:=@or_false
def ZK:=@Int.eq_ofNat_of_zero_le
def ZL:=@Int.ofNat_lt
def ZM:=@List.mem_map
def ZN:=@List.flatMap_append
def ZO:=@Option.map_some
def ZP:=@Bool.false_eq_true
def ZQ:=@Option.getD_some
def ZR:=@List.length_drop
def ZS:=@List.length_set
def ZT:=@forall_eq_or_imp
def ZU:=@List.eq_nil_of_length_eq_zero
def ZV:=@List.mem_iff_getElem?
def ZW:=@Nat.le_trans
def ZX:=@Bool.or_eq_true
def ZY:=@List.length_map
def ZZ:=@of_decide_eq_false
def Ya:=@List.nil_append
def Yb:=@List.getElem?_map
def Yc:=@decide_eq_false_iff_not
def Yd:=@List.append_nil
def Ye:=@beq_iff_eq
def Yf:=@List.map_cons
def Yg:=@List.mem_filter
def Yh:=@List.mem_flatMap
def Yi:=@List.map_nil
def Yj:=@List.mem_filterMap
def Yk:=@List.findIdx?_eq_some_iff_getElem
def Yl:=@Bool.and_true
def Ym:=@List.length_replicate
def Yn:=@List.map_append
def Yo:=@Prod.mk.injEq
abbrev Blk:=Nat->Prop
def sj {α:Type} {a b:α} (h:some a=some b):a=b:=Zz h
def leb {a b:Nat} (h:Nat.ble a b=true):a<=b:=Nat.le_of_ble_eq_true h
structure Step (B:Blk) (w w':World):Prop where
 os:w'.os=w.os
 tape:w'.tape=w.tape
 output:w'.output=w.output
 size:w.heap.size<=w'.heap.size
 same:∀k,k<w.heap.size->¬B k->w'.heap[k]?=w.heap[k]?
abbrev Grow (w w':World):Prop:=Step (λ_=>False) w w'
def Step.refl (B:Blk) (w:World):Step B w w:=⟨rfl,rfl,rfl,Zp _,λ_ _ _=>rfl⟩
def Step.trans {B C:Blk} {a b c:World} (h:Step B a b) (k:Step C b c) (hC:∀i,C i->i<a.heap.size->B i):Step B a c:=⟨k.os.trans h.os,k.tape.trans h.tape,k.output.trans h.output,ZW h.size k.size,λi hi hB=>(k.same i (ZG hi h.size) (λhc=>hB (hC i hc hi))).trans (h.same i hi hB)⟩
def Grow.trans {a b c:World} (h:Grow a b) (k:Grow b c):Grow a c:=Step.trans h k (λ_ h _=>h)
def Step.mono {B C:Blk} {a b:World} (h:Step B a b) (hB:∀i,B i->C i):Step C a b:=⟨h.os,h.tape,h.output,h.size,λk hk hc=>h.same k hk (λhb=>hc (hB k hb))⟩
def Step.alloc (w:World) (o:Obj):Grow w (w.alloc o):=⟨rfl,rfl,rfl,by simp,λk hk _=>Go.RowKit.Below.heap_alloc w o k hk⟩
def Step.drew {B:Blk} {w w':World} (h:Step B w w'):Step B w w'.drew:=⟨h.os,h.tape,h.output,h.size,h.same⟩
structure Ty where
 ok:Blk->World->Value->Prop
 keep:∀{F F':Blk} {w w':World} {v:Value},(∀k,F k->F' k)->(∀k,F k->w'.heap[k]?=w.heap[k]?)->ok F w v->ok F' w' v
structure Atom where
 fp:Blk
 ok:Blk->World->Prop
 keep:∀{F F':Blk} {w w':World},(∀k,F k->F' k)->(∀k,F k->w'.heap[k]?=w.heap[k]?)->(∀k,fp k->w'.heap[k]?=w.heap[k]?)->ok F w->ok F' w'
def free (M:Blk) (w:World):Blk:=λk=>k<w.heap.size/\¬M k
def get (a:Act) (d:Nat):Value:=a.tmps.getD d undef
def QqF (a:Act) (o:Option Nat) (v:Value):(a.put o v).tmps.size=a.tmps.size:=by cases o<;>simp[Act.put]
def put_defers' (a:Act) (o:Option Nat) (v:Value):(a.put o v).defers=a.defers:=by cases o<;>rfl
def Qmk (a:Act) (d:Nat) (v:Value) (h:d<a.tmps.size):get (a.put (some d) v) d=v:=by simp[get,Act.put,h]
def QhX (a:Act) (o:Option Nat) (v:Value) (d:Nat) (h:o≠some d):get (a.put o v) d=get a d:=by
 cases o with
 | none=>rfl
 | some e=>have hne:e≠d:=λhe=>h (he▸rfl);simp[get,Act.put,Array.getElem?_setIfInBounds_ne hne]
def Does (P:Program) (o:Oper) (a:Act) (w:World) (R:Value->World->Prop):Prop:=
 match (execOp a.eval o).run P w with
 | .ok (.value v) w'=>R v w'
 | .ok .skip w'=>R undef w'
 | .ok (.enter f args) w'=>Calls P f args w' (λe w''=>∃v,e=.returned v/\R v w'')
 | .ok (.round l f tmps assign body) w'=>RoundIn Fence.wide 0 P l f tmps assign body w' (λe w''=>∃v,e=.returned v/\R v w'')
 | _=>False
def Does.wp {P:Program} {o:Oper} {a:Act} {w:World} {R:Value->World->Prop} {K:Act->World->Prop} {Q:Exit->Act->World->Prop}
  (h:Does P o a w R) (hk:∀v w',R v w'->K (a.put o.dst v) w'):o.wpIn Fence.wide 0 P a w K Q:=by
 unfold Does at h;unfold Oper.wpIn;refine⟨λ_ _=>trivial,?_⟩;rw[show Fence.wide.round=none from rfl,Oper.semAt_none];generalize (execOp a.eval o).run P w=r at h ⊢
 cases r with
 | ok n w'=>
  cases n<;>simp only[Oper.uponIn] at h ⊢<;>first
   | exact hk _ _ h
   | exact⟨λhh=>(by cases hh),callsIn_wide.2 (Calls.mono h (λe w'' ⟨v,he,hr⟩=>by subst he;exact hk _ _ hr))⟩
   | exact⟨λhh=>(by cases hh),RoundIn.mono h (λe w'' ⟨v,he,hr⟩=>by subst he;exact hk _ _ hr)⟩
   | exact h.elim
 | halt x w'=>exact h.elim
def Does.mono {P:Program} {o:Oper} {a:Act} {w:World} {R R':Value->World->Prop} (h:Does P o a w R) (hr:∀v w',R v w'->R' v w'):Does P o a w R':=by
 unfold Does at *;generalize (execOp a.eval o).run P w=r at *
 cases r with
 | ok n w'=>
  cases n<;>simp only at h ⊢<;>first
   | exact hr _ _ h
   | exact Calls.mono h (λe w'' ⟨v,he,hv⟩=>⟨v,he,hr _ _ hv⟩)
   | exact RoundIn.mono h (λe w'' ⟨v,he,hv⟩=>⟨v,he,hr _ _ hv⟩)
 | halt x w'=>exact h
def ins (S:Nat->Bool) (i:Nat):Nat->Bool:=λj=>j==i||S j
section order
variable {P:Program} {ops:Array Oper} {Q:Exit->Act->World->Prop}
def QjW (P:Program) (ops:Array Oper) (Q:Exit->Act->World->Prop) (Inv:(Nat->Bool)->Act->World->Prop):Prop:=∀(S:Nat->Bool) (i:Nat) (o:Oper) (a:Act) (w:World),ops[i]?=some o->S i=false->(∀e∈o.after,Region.binds .any e=true->S e.on=true)->Inv S a w->wpOpIn Fence.wide 0 P ops Q i (Inv (ins S i)) a w
def Acyc (ops:Array Oper):Prop:=∀(i:Nat) (o:Oper),ops[i]?=some o->∀e∈o.after,Region.binds .any e=true->e.on<i
def Qsk {Inv:(Nat->Bool)->Act->World->Prop} (hs:QjW P ops Q Inv) (hac:Acyc ops)
  (fin:∀S a w,(∀i,i<ops.size->S i=true)->Inv S a w->Q .normal a w):
  ∀(m k:Nat),k+m=ops.size->∀a w,Inv (λj=>decide (j<k)) a w->wpOpsIn Fence.wide 0 P ops Q (range' k m) a w:=by
 intro m
 induction m with
 | zero=>
  intro k hk a w h;refine fin _ a w (λi hi=>?_) h;have:i<k:=by omega
  simp[this]
 | succ m ih=>
  intro k hk a w h;rw[range'_succ,wpOpsIn_cons];have hlt:k<ops.size:=by omega
  have hget:ops[k]?=some ops[k]:=Array.getElem?_eq_getElem hlt;have:=hs _ k ops[k] a w hget (by simp) (λe he hb=>by have:=hac k _ hget e he hb;simp[this]) h;refine wpOpIn_mono (λa' w' h'=>?_) this;have e:ins (λj=>decide (j<k)) k=λj=>decide (j<k+1):=by
   funext j
   simp only[ins];rw[Bool.eq_iff_iff];simp;omega
  rw[e] at h';exact ih (k+1) (by omega) a' w' h'
def Qj4 (l:Array Bool):Nat:=l.toList.countP (λb=>!b)
def Qml:∀(l:List Bool) (i:Nat),l[i]?=some false->(l.set i true).countP (λb=>!b)+1=l.countP (λb=>!b)
 | [],i,h=>by simp at h
 | b::l,0,h=>by simp at h;subst h;simp
 | b::l,i+1,h=>by have:=Qml l i (by simpa using h);simp only[set_cons_succ,countP_cons];omega
def QtY {listed:Array Bool} (hsz:listed.size=ops.size) (hac:Acyc ops) (h:Region.ready .any ops listed=[]):∀i,i<ops.size->listed.getD i false=true:=by
 intro i
 induction i using Nat.strongRecOn with
 | _ i ih=>
  intro hi;rcases hb:listed.getD i false with _ | _
  ·exfalso;have hmem:i∈Region.ready .any ops listed:=by
    unfold Region.ready;have hget:ops[i]?=some ops[i]:=Array.getElem?_eq_getElem hi;have hl:listed.getD i true=false:=by
     have hi':i<listed.size:=by omega
     simp only[Array.getD_eq_getD_getElem?,Array.getElem?_eq_getElem hi',ZQ] at hb ⊢;exact hb
    simp only[Yg,mem_range,hi,hl,hget,ZO,ZQ,Bool.not_false,Bool.true_and,true_and];rw[Array.all_eq_true'];intro e he;by_cases hbd:Region.binds .any e=true
    ·have hlt:=hac i _ hget e he hbd;have:=ih e.on hlt (by omega);simp only[this,Bool.or_true]
    ·simp[hbd]
   rw[h] at hmem;simp at hmem
  ·rfl
def Qsl {Inv:(Nat->Bool)->Act->World->Prop} (hs:QjW P ops Q Inv) (hac:Acyc ops)
  (fin:∀S a w,(∀i,i<ops.size->S i=true)->Inv S a w->Q .normal a w):
  ∀(fuel:Nat) (listed:Array Bool) (a:Act) (w:World),listed.size=ops.size->Qj4 listed<=fuel->Inv (λj=>listed.getD j false) a w->wpAnyIn Fence.wide 0 P .any ops Q fuel listed a w:=by
 intro fuel
 induction fuel with
 | zero=>
  intro listed a w hsz hu h;have hall:∀i,i<ops.size->listed.getD i false=true:=by
   intro i hi;have hi':i<listed.size:=by omega
   have h0:listed.toList.countP (λb=>!b)=0:=by unfold Qj4 at hu;omega
   rw[countP_eq_zero] at h0;have:=h0 (listed[i]) (by simp);simp only[Array.getD_eq_getD_getElem?,Array.getElem?_eq_getElem hi',ZQ];simpa using this
  refine⟨?_,fin _ a w hall h⟩;unfold Region.ready;rw[filter_eq_nil_iff];intro i hi;have hi:i<ops.size:=by simpa using hi
  have hi':i<listed.size:=by omega
  have:=hall i hi;simp only[Array.getD_eq_getD_getElem?,Array.getElem?_eq_getElem hi',ZQ] at this ⊢;simp[this]
 | succ fuel ih=>
  intro listed a w hsz hu h;refine⟨λhr=>fin _ a w (QtY hsz hac hr) h,λi hi=>?_⟩;unfold Region.ready at hi;simp only[Yg,mem_range,Zh,Bool.not_eq_true'] at hi;obtain⟨hi,hl,hr⟩:=hi;have hget:ops[i]?=some ops[i]:=Array.getElem?_eq_getElem hi;have hi':i<listed.size:=by omega
  have hl':listed[i]=false:=by simpa[Array.getD_eq_getD_getElem?,Array.getElem?_eq_getElem hi'] using hl
  have hSi:listed.getD i false=false:=by simp[Array.getD_eq_getD_getElem?,Array.getElem?_eq_getElem hi',hl']
  simp only[hget,ZO,ZQ] at hr;rw[Array.all_eq_true'] at hr;have hstep:=hs (λj=>listed.getD j false) i ops[i] a w hget hSi (λe he hb=>by have:=hr e he;simpa[hb] using this) h;refine wpOpIn_mono (λa' w' h'=>?_) hstep;refine ih _ a' w' (by simp[hsz]) ?_ ?_
  ·have:=Qml listed.toList i (by simp[hi',hl']);unfold Qj4 at hu ⊢;rw[Array.toList_setIfInBounds];omega
  ·have e:ins (λj=>listed.getD j false) i=λj=>(listed.setIfInBounds i true).getD j false:=by
    funext j
    simp only[ins,Array.getD_eq_getD_getElem?,Array.getElem?_setIfInBounds];by_cases hj:i=j
    ·subst hj;simp[hi']
    ·have:(j==i)=false:=by simp;omega
     simp[this,hj]
   rw[e] at h';exact h'
def Qp8 {Inv:(Nat->Bool)->Act->World->Prop} {id:Nat} {draw:Bool} {a:Act} {w:World} (hm:draw=true->P.follows .mixedOrders=true)
  (hs:QjW P ops Q Inv) (hac:Acyc ops) (fin:∀S a w,(∀i,i<ops.size->S i=true)->Inv S a w->Q .normal a w)
  (h0:∀w',w'=w\/w'=w.drew->Inv (λ_=>false) a w'):(Code.region id ops draw).wp P Q a w:=by
 refine (wpIn_wide (n:=0)).1 ?_
 cases draw with
 | false=>refine wpIn_region ?_;rw[range_eq_range'];exact Qsk hs hac fin ops.size 0 (by omega) a w (by simpa using h0 w (.inl rfl))
 | true=>
  refine wpIn_region_any (hm rfl) ?_;refine Qsl hs hac fin ops.size _ a _ (by simp) ?_ ?_
  ·unfold Qj4;have:=countP_le_length (p:=λb=>!b) (l:=(Array.replicate ops.size false).toList);simpa using this
  ·have e:(λj=>(Array.replicate ops.size false).getD j false)=λ_=>false:=by
    funext j
    simp only[Array.getD_eq_getD_getElem?,Array.getElem?_replicate];split<;>rfl
   rw[e];exact h0 w.drew (.inr rfl)
end order
def tv (v:Value):Ty:=⟨λ_ _ u=>u=v,λ_ _ h=>h⟩
def QgJ (c:Bool) (T:Ty):Ty:=⟨λF w v=>(c=true->T.ok F w v)/\(c=false->v=undef),λhF hh h=>⟨λhc=>T.keep hF hh (h.1 hc),h.2⟩⟩
def tany:Ty:=⟨λ_ _ _=>True,λ_ _ _=>trivial⟩
structure TyN where
 ds:List Nat
 f:List Value->Ty
def TyN.ty (new:Nat->Value) (T:TyN):Ty:=T.f (T.ds.map new)
structure Info where
 ty:TyN
 use:List Nat
 eat:List Nat
 make:List Nat
structure Ver where
 ds:List Nat
 f:List Value->Atom
def Atom.none:Atom:=⟨λ_=>False,λ_ _=>True,λ_ _ _ _=>trivial⟩
def ver (V:List Ver) (u:Nat) (new:Nat->Value):Atom:=match V[u]? with | some p=>p.f (p.ds.map new) | none=>Atom.none
def Qay (E:List Atom):Blk:=λk=>∃A∈E,A.fp k
def next (M:Blk) (E N:List Atom):Blk:=λk=>(M k/\¬Qay E k)\/Qay N k
def Qda (As:List Atom):Prop:=As.Pairwise λA B=>∀k,A.fp k->¬B.fp k
def Qi7 (Γ:List (Nat×Ty)) (xs:Array Operand) (F:Blk) (w:World) (a:Act):Prop:=∀p∈Γ,Operand.tmp p.1∈xs->p.2.ok F w (get a p.1)
structure Made (M:Blk) (E N:List Atom) (w w':World):Prop where
 apart:Qda N
 place:∀A∈N,∀k,A.fp k->(Qay E k\/w.heap.size<=k)/\k<w'.heap.size
 ok:∀A∈N,A.ok (free (next M E N) w') w'
def QgK (M:Blk) (E:List Atom) (w:World):Prop:=∀A∈E,A.ok (free M w) w/\∀k,A.fp k->M k
def OpJ (P:Program) (o:Oper) (Γ:List (Nat×Ty)) (U E:List Atom) (N:Value->List Atom) (T:Value->Ty):Prop:=∀(M:Blk) (w:World) (a:Act),(∀k,M k->k<w.heap.size)->QgK M U w->QgK M E w->Qda E->(∀A∈U,∀B∈E,∀k,A.fp k->¬B.fp k)->Qi7 Γ o.op.operands (free M w) w a->Does P o a w λv w'=>∃x,Step (Qay E) w w'/\Made M E (N x) w w'/\(T x).ok (free (next M E (N x)) w') w' v
def Grd (Γ:List (Nat×Ty)) (d:Nat) (want:Bool) (c:Bool):Prop:=∀(F:Blk) (w:World) (a:Act),(∀p∈Γ,p.1=d->p.2.ok F w (get a p.1))->(match get a d with | .bool b=>b==want | _=>false)=c
def addD (d:Option Nat) (T:Ty) (Γ:List (Nat×Ty)):List (Nat×Ty):=match d with | some d=>(d,T)::Γ | none=>Γ
def upd (new:Nat->Value) (i:Nat) (x:Value):Nat->Value:=λj=>bif Nat.beq j i then x else new j
def QqG {new:Nat->Value} {i:Nat} {x:Value}:upd new i x i=x:=by simp[upd]
def Qji {new:Nat->Value} {i j:Nat} {x:Value} (h:j≠i):upd new i x j=new j:=by have:Nat.beq j i=false:=Bool.eq_false_iff.2 λhb=>h (Nat.eq_of_beq_eq_true hb);simp[upd,this]
inductive J (P:Program) (ops:List Oper) (V:List Ver) (new:Nat->Value) (Γ:List (Nat×Ty)) (i:Nat) (o:Oper) (I:Info):Prop where
 | plain (hg:o.guard=none) (h:OpJ P o Γ (I.use.map λu=>ver V u new) (I.eat.map λu=>ver V u new) (λx=>I.make.map λu=>ver V u (upd new i x)) (λx=>I.ty.ty (upd new i x)))
 | guard (g:Nat) (want:Bool) (dg:Nat) (c:Bool) (T:Ty) (hg:o.guard=some (g,want)) (hd:(ops[g]?).bind (·.dst)=some dg) (hc:Grd Γ dg want c)
   (he:I.eat=[]) (hm:I.make=[]) (ht:I.ty.ty new=QgJ c T) (hds:i∉I.ty.ds) (h:c=true->OpJ P o Γ (I.use.map λu=>ver V u new) [] (λ_=>[]) (λ_=>T))
 | guardE (g:Nat) (want:Bool) (dg:Nat) (c:Bool) (hg:o.guard=some (g,want)) (hd:(ops[g]?).bind (·.dst)=some dg) (hc:Grd Γ dg want c)
   (h:c=true->OpJ P o Γ (I.use.map λu=>ver V u new) (I.eat.map λu=>ver V u new) (λx=>I.make.map λu=>ver V u (upd new i x)) (λx=>I.ty.ty (upd new i x)))
   (h0:c=false->(I.make.map λu=>ver V u (upd new i undef))=(I.eat.map λu=>ver V u new)/\∀F w,(I.ty.ty (upd new i undef)).ok F w undef)
inductive Run (P:Program) (ops:List Oper) (V:List Ver) (new:Nat->Value):Nat->List (Nat×Ty)->List Oper->List Info->Prop where
 | nil (i:Nat) (Γ:List (Nat×Ty)):Run P ops V new i Γ [] []
 | step {i:Nat} {Γ:List (Nat×Ty)} {o:Oper} {I:Info} {os:List Oper} {is:List Info} (h:J P ops V new Γ i o I) (hs:Run P ops V new (i+1) (addD o.dst (I.ty.ty new) Γ) os is):Run P ops V new i Γ (o::os) (I::is)
def Run.length {P:Program} {ops:List Oper} {V:List Ver} {new:Nat->Value} {k:Nat} {Γ:List (Nat×Ty)} {os:List Oper} {is:List Info} (h:Run P ops V new k Γ os is):is.length=os.length:=by
 induction h with
 | nil=>rfl
 | step _ _ ih=>simp[ih]
def Run.get {P:Program} {ops:List Oper} {V:List Ver} {new:Nat->Value} {k:Nat} {Γ:List (Nat×Ty)} {os:List Oper} {is:List Info} (h:Run P ops V new k Γ os is):
  ∀(i:Nat) (o:Oper),os[i]?=some o->∃I Γ',is[i]?=some I/\J P ops V new Γ' (k+i) o I/\∀p∈Γ',p∈Γ\/∃j oj Ij,j<i/\os[j]?=some oj/\is[j]?=some Ij/\oj.dst=some p.1/\p.2=Ij.ty.ty new:=by
 induction h with
 | nil=>intro i o h;simp at h
 | @step k Γ o I os is hj hs ih=>
  intro i o' ho
  cases i with
  | zero=>simp at ho;subst ho;exact⟨I,Γ,by simp,hj,λp hp=>.inl hp⟩
  | succ i=>
   obtain⟨I',Γ',hI,hJ,hsub⟩:=ih i o' (by simpa using ho);refine⟨I',Γ',by simpa using hI,by rw[show k+(i+1)=k+1+i by omega];exact hJ,λp hp=>?_⟩;rcases hsub p hp with h | ⟨j,oj,Ij,h1,h2,h3,h4,h5⟩
   ·unfold addD at h
    cases hd:o.dst with
    | none=>rw[hd] at h;exact .inl h
    | some d=>
     rw[hd] at h;rcases Zm.1 h with h | h
     ·subst h;exact .inr ⟨0,o,I,by omega,by simp,by simp,hd,rfl⟩
     ·exact .inl h
   ·exact .inr ⟨j+1,oj,Ij,by omega,by simpa using h2,by simpa using h3,h4,h5⟩
def Qn0 (acc:List Nat) (o:Oper):Nat:=o.after.toList.foldl (λm e=>if Region.binds .any e then m||| ((1<<<e.on)||| acc.getD e.on 0) else m) 0
def QjH:List Nat->List Oper->List Nat
 | acc,[]=>acc
 | acc,o::os=>QjH (acc++[Qn0 acc o]) os
def bit (ms:List Nat) (i j:Nat):Bool:=(ms.getD i 0).testBit j
def mkOf (is:List Info) (i:Nat):List Nat:=match is[i]? with | some I=>I.make | none=>[]
def Qf2 (is:List Info) (i:Nat):List Nat:=match is[i]? with | some I=>I.eat | none=>[]
def Qcd:List Nat->Bool | []=>true | x::xs=>!xs.contains x&&Qcd xs
def Qsm (ops:List Oper):Bool:=(range ops.length).all λi=>match ops[i]? with | some o=>o.after.toList.all λe=>!Region.binds .any e||decide (e.on<i) | none=>true
def QqH (ops:List Oper) (ms ds:List Nat) (slots0:List Nat):Bool:=
 (range ops.length).all λi=>match ops[i]? with
  | some o=>(o.looksAt ops.toArray).all λd=>(range ops.length).all λj=>(ds.getD j 0 !=d+1)||(if j<i then bit ms i j&&!slots0.contains d else decide (i<j)&&bit ms j i)
  | none=>true
def dsts (ops:List Oper):List Nat:=ops.map λo=>match o.dst with | some d=>d+1 | none=>0
def Qpy (ds:List Nat):Bool:=(range ds.length).all λi=>(ds.getD i 0==0)||(range i).all λj=>ds.getD j 0 !=ds.getD i 0
def QqI (ds:List Nat) (n:Nat):Bool:=ds.all λd=>decide (d<=n)
def Qsn (is:List Info) (ms:List Nat) (vd:List (List Nat)) (k0 nV:Nat):Bool:=
 (range is.length).all λi=>match is[i]? with
  | some I=>((I.use++I.eat).all λu=>decide (u<nV)&&(decide (u<k0)||(range is.length).any λp=>(mkOf is p).contains u&&bit ms i p)&&
    (range is.length).all λc=>!(Qf2 is c).contains u||(c==i)||bit ms c i)&&
   (I.make.all λu=>decide (k0<=u)&&decide (u<nV)&&((range i).all λj=>!(mkOf is j).contains u)&&((vd.getD u []).all λd=>d==i||bit ms i d))&&
   (I.eat.all λu=>((range i).all λj=>!(Qf2 is j).contains u)&&!I.use.contains u)&&
   (I.ty.ds.all λd=>d==i||bit ms i d)&&Qcd I.eat&&Qcd I.make
  | none=>true
def Qw0 (is:List Info) (k0 nV:Nat):Bool:=(range nV).all λu=>decide (u<k0)||(range is.length).any λp=>(mkOf is p).contains u
def chk (ops:List Oper) (is:List Info) (vd:List (List Nat)) (slots0:List Nat) (k0 nV n:Nat):Bool:=Qsm ops&&QqH ops (QjH [] ops) (dsts ops) slots0&&Qpy (dsts ops)&&QqI (dsts ops) n&&Qsn is (QjH [] ops) vd k0 nV&&Qw0 is k0 nV
section
variable {ops:List Oper}
def Down (ops:List Oper) (S:Nat->Bool):Prop:=∀(i:Nat) (o:Oper),ops[i]?=some o->S i=true->∀e∈o.after,Region.binds .any e=true->S e.on=true
def Pre (ops:List Oper) (i:Nat) (S:Nat->Bool):Prop:=∀(o:Oper),ops[i]?=some o->∀e∈o.after,Region.binds .any e=true->S e.on=true
def QsJ (acc:List Nat) (o:Oper) (j:Nat) (h:(Qn0 acc o).testBit j=true):∃e∈o.after,Region.binds .any e=true/\(e.on=j\/(acc.getD e.on 0).testBit j=true):=by
 unfold Qn0 at h;have key:∀(l:List Edge) (m:Nat),(l.foldl (λm e=>if Region.binds .any e then m||| ((1<<<e.on)||| acc.getD e.on 0) else m) m).testBit j=true->
   m.testBit j=true\/∃e∈l,Region.binds .any e=true/\(e.on=j\/(acc.getD e.on 0).testBit j=true):=by
  intro l
  induction l with
  | nil=>intro m h;exact .inl h
  | cons e l ih=>
   intro m h;simp only[foldl_cons] at h;rcases ih _ h with h | ⟨e',he',r⟩
   ·by_cases hb:Region.binds .any e=true
    ·rw[Ze hb] at h;simp only[Nat.testBit_or,ZX] at h;rcases h with h | h | h
     ·exact .inl h
     ·refine .inr ⟨e,by simp,hb,.inl ?_⟩;rw[Nat.one_shiftLeft,Nat.testBit_two_pow] at h;simpa using h
     ·exact .inr ⟨e,by simp,hb,.inr h⟩
    ·rw[Zb hb] at h;exact .inl h
   ·exact .inr ⟨e',by simp[he'],r⟩
 rcases key o.after.toList 0 h with h | ⟨e,he,r⟩
 ·simp at h
 ·exact⟨e,by simpa using he,r⟩
def QvD:∀(os:List Oper) (acc:List Nat) (pre:List Oper),pre++os=ops->acc.length=pre.length->
  (∀i j,(acc.getD i 0).testBit j=true->∀S,Down ops S->Pre ops i S->S j=true)->
  ∀i j,((QjH acc os).getD i 0).testBit j=true->∀S,Down ops S->Pre ops i S->S j=true:=by
 intro os
 induction os with
 | nil=>intro acc pre _ _ h;exact h
 | cons o os ih=>
  intro acc pre hp hl h;refine ih (acc++[Qn0 acc o]) (pre++[o]) (by simp[hp]) (by simp[hl]) ?_;intro i j hb S hD hP;rcases Nat.lt_trichotomy i acc.length with hi | hi | hi
  ·rw[Zw,ZD hi,<-Zw] at hb;exact h i j hb S hD hP
  ·subst hi;rw[Zw,Zv (Zp _)] at hb;simp only[Nat.sub_self,getElem?_cons_zero,ZQ] at hb;obtain⟨e,he,hbd,hj⟩:=QsJ acc o j hb;have hget:ops[acc.length]?=some o:=by rw[<-hp,hl,Zv (Zp _)];simp
   have hS:=hP o hget e he hbd;rcases hj with rfl | hj
   ·exact hS
   ·exact h e.on j hj S hD (λo' ho'=>hD e.on o' ho' hS)
  ·rw[Zw,getElem?_eq_none (by simp;omega)] at hb;simp at hb
def Qmm {i j:Nat} (h:bit (QjH [] ops) i j=true) {S:Nat->Bool} (hD:Down ops S) (hP:Pre ops i S):S j=true:=QvD ops [] [] rfl rfl (λi j h=>by simp at h) i j h S hD hP
def Qh9 {i d:Nat} {o:Oper} (ho:ops[i]?=some o) (hd:o.dst=some d):(dsts ops).getD i 0=d+1:=by simp[dsts,Zw,ho,hd]
def QsK (h:Qsm ops=true):Acyc ops.toArray:=by intro i o ho e he hb;simp only[getElem?_toArray] at ho;have hi:i<ops.length:=(Zc.1 ho).1;have:=Zs.1 h i (by simpa using hi);simp only[ho] at this;have:=Zs.1 this e (by simpa using he);simpa[hb] using this
def QnB {slots0:List Nat} (h:QqH ops (QjH [] ops) (dsts ops) slots0=true) {i j d:Nat} {o oj:Oper} (ho:ops[i]?=some o) (hd:d∈o.looksAt ops.toArray)
  (hj:ops[j]?=some oj) (hdj:oj.dst=some d):(j<i/\bit (QjH [] ops) i j=true/\d∉slots0)\/(i<j/\bit (QjH [] ops) j i=true):=by
 have hi':i<ops.length:=(Zc.1 ho).1;have hj':j<ops.length:=(Zc.1 hj).1;have:=Zs.1 h i (by simpa using hi');simp only[ho] at this;have:=Zs.1 (Zs.1 this d hd) j (by simpa using hj');rw[Qh9 hj hdj] at this;simp only[bne_self_eq_false,Bool.false_or] at this;split at this
 ·rename_i hlt;simp only[Zh,Bool.not_eq_true'] at this;exact .inl ⟨hlt,this.1,by simpa using this.2⟩
 ·simp only[Zh,ZA] at this;exact .inr this
def QqJ (h:Qpy (dsts ops)=true) {i j d:Nat} {o oj:Oper} (ho:ops[i]?=some o) (hd:o.dst=some d) (hj:ops[j]?=some oj) (hdj:oj.dst=some d):i=j:=by
 have hi':i<ops.length:=(Zc.1 ho).1;have hj':j<ops.length:=(Zc.1 hj).1;have key:∀a b:Nat,a<ops.length->b<a->(dsts ops).getD a 0=d+1->(dsts ops).getD b 0=d+1->False:=by
  intro a b ha hb ea eb;have:=Zs.1 h a (by simpa[dsts] using ha);rw[ea] at this;have h0:(d+1==0)=false:=by simp
  rw[h0,Bool.false_or] at this;have:=Zs.1 this b (by simpa using hb);rw[eb] at this;simp at this
 rcases Nat.lt_trichotomy i j with h' | h' | h'
 ·exact (key j i hj' h' (Qh9 hj hdj) (Qh9 ho hd)).elim
 ·exact h'
 ·exact (key i j hi' h' (Qh9 ho hd) (Qh9 hj hdj)).elim
def QnC {n:Nat} (h:QqI (dsts ops) n=true) {i d:Nat} {o:Oper} (ho:ops[i]?=some o) (hd:o.dst=some d):d<n:=by
 have hmem:d+1∈dsts ops:=by
  have:=Qh9 ho hd;rw[Zw] at this
  cases hx:(dsts ops)[i]? with
  | none=>simp[hx] at this
  | some y=>simp[hx] at this;subst this;exact Zo hx
 have:=Zs.1 h _ hmem;simp at this;omega
end
def fps (As:List Atom):Blk:=λk=>∃A∈As,A.fp k
def hold (M0:Blk) (As:List Atom):Blk:=λk=>M0 k\/fps As k
structure Fr where
 m:Blk
 b:Blk
 d:List Deferred
structure St (M:Fr) (w0:World) (n:Nat) (Γ:List (Nat×Ty)) (As:List Atom) (a:Act) (w:World):Prop where
 size:a.tmps.size=n
 defers:a.defers=M.d
 grow:Step M.b w0 w
 m0:∀k,M.m k->k<w0.heap.size/\¬M.b k
 own:∀A∈As,A.ok (free (hold M.m As) w) w
 fresh:∀A∈As,∀k,A.fp k->(M.b k\/w0.heap.size<=k)/\k<w.heap.size
 apart:Qda As
 Xo:∀p∈Γ,p.2.ok (free (hold M.m As) w) w (get a p.1)
def Qn1 (is:List Info) (u:Nat):Bool:=is.any λI=>I.eat.contains u
def QhY (V:List Ver) (is:List Info) (new:Nat->Value):List Atom:=((range V.length).filter λu=>!Qn1 is u).map λu=>ver V u new
def outG (ops:List Oper) (is:List Info) (Γ:List (Nat×Ty)) (new:Nat->Value):List (Nat×Ty):=((ops.zip is).filterMap λp=>p.1.dst.map λd=>(d,p.2.ty.ty new))++Γ.filter λp=>!(dsts ops).contains (p.1+1)
section
variable {P:Program} {ops:List Oper} {V:List Ver} {is:List Info} {M:Fr} {w0:World} {n k0:Nat} {Γ:List (Nat×Ty)}
def Qfu (V:List Ver) (is:List Info) (k0:Nat) (S:Nat->Bool) (u:Nat):Prop:=u<V.length/\(u<k0\/∃p,u∈mkOf is p/\S p=true)/\∀c,u∈Qf2 is c->S c=false
def MS (V:List Ver) (is:List Info) (k0:Nat) (M0:Blk) (S:Nat->Bool) (new:Nat->Value):Blk:=λk=>M0 k\/∃u,Qfu V is k0 S u/\(ver V u new).fp k
structure Inv (ops:List Oper) (V:List Ver) (is:List Info) (M:Fr) (w0:World) (n k0:Nat) (Γ:List (Nat×Ty)) (new:Nat->Value) (S:Nat->Bool) (a:Act) (w:World):Prop where
 size:a.tmps.size=n
 defers:a.defers=M.d
 grow:Step M.b w0 w
 m0:∀k,M.m k->k<w0.heap.size/\¬M.b k
 down:Down ops S
 old:∀p∈Γ,(∀j o,ops[j]?=some o->o.dst=some p.1->S j=false)->p.2.ok (free (MS V is k0 M.m S new) w) w (get a p.1)
 nw:∀i o I d,ops[i]?=some o->is[i]?=some I->S i=true->o.dst=some d->(I.ty.ty new).ok (free (MS V is k0 M.m S new) w) w (get a d)
 own:∀u,Qfu V is k0 S u->(ver V u new).ok (free (MS V is k0 M.m S new) w) w
 fresh:∀u,Qfu V is k0 S u->∀k,(ver V u new).fp k->(M.b k\/w0.heap.size<=k)/\k<w.heap.size
 apart:∀u v,Qfu V is k0 S u->Qfu V is k0 S v->u≠v->∀k,(ver V u new).fp k->¬(ver V v new).fp k
def Qmn {c u:Nat} (h:u∈Qf2 is c):∃I,is[c]?=some I/\u∈I.eat:=by
 unfold Qf2 at h
 cases hI:is[c]? with
 | none=>simp[hI] at h
 | some I=>exact⟨I,rfl,by simpa[hI] using h⟩
def QrO {c u:Nat} (h:u∈mkOf is c):∃I,is[c]?=some I/\u∈I.make:=by
 unfold mkOf at h
 cases hI:is[c]? with
 | none=>simp[hI] at h
 | some I=>exact⟨I,rfl,by simpa[hI] using h⟩
def QhJ:∀{l:List Nat},Qcd l=true->l.Nodup
 | [],_=>nodup_nil
 | x::xs,h=>by simp only[Qcd,Zh,Bool.not_eq_true',contains_eq_mem,Yc] at h;exact nodup_cons.2 ⟨h.1,QhJ h.2⟩
structure Vers (is:List Info) (ms:List Nat) (vd:List (List Nat)) (k0 nV:Nat) (i:Nat) (I:Info):Prop where
 lt:∀u,u∈I.use\/u∈I.eat->u<nV
 made:∀u,u∈I.use\/u∈I.eat->u<k0\/∃p,u∈mkOf is p/\bit ms i p=true
 alone:∀u,u∈I.use\/u∈I.eat->∀c,u∈Qf2 is c->c=i\/bit ms c i=true
 make:∀u,u∈I.make->k0<=u/\u<nV
 mk1:∀u,u∈I.make->∀j,j<i->u∉mkOf is j
 vdep:∀u,u∈I.make->∀d,d∈vd.getD u []->d=i\/bit ms i d=true
 eat1:∀u,u∈I.eat->∀j,j<i->u∉Qf2 is j
 eatu:∀u,u∈I.eat->u∉I.use
 dep:∀d,d∈I.ty.ds->d=i\/bit ms i d=true
 eatd:I.eat.Nodup
 maked:I.make.Nodup
def QnD {c u:Nat} (h:u∈Qf2 is c):c<is.length:=by obtain⟨I,hI,_⟩:=Qmn h;exact (Zc.1 hI).1
def QjI {ms:List Nat} {vd:List (List Nat)} {nV:Nat} (h:Qsn is ms vd k0 nV=true) {i:Nat} {I:Info} (hI:is[i]?=some I):Vers is ms vd k0 nV i I:=by
 have hi:i<is.length:=(Zc.1 hI).1;have:=Zs.1 h i (by simpa using hi);simp only[hI] at this;simp only[Zh] at this;obtain⟨⟨⟨⟨⟨h1,h2⟩,h3⟩,h4⟩,h5⟩,h6⟩:=this;have g:∀u,u∈I.use\/u∈I.eat->(u<nV/\(u<k0\/∃p,u∈mkOf is p/\bit ms i p=true))/\∀c,u∈Qf2 is c->c=i\/bit ms c i=true:=by
  intro u hu;have:=Zs.1 h1 u (by rcases hu with hu | hu<;>simp[hu]);simp only[Zh,ZA,ZX] at this;refine⟨⟨this.1.1,?_⟩,λc hc=>?_⟩
  ·rcases this.1.2 with h | h
   ·exact .inl h
   ·obtain⟨p,_,hp⟩:=any_eq_true.1 h;simp only[Zh,contains_eq_mem,ZA] at hp;exact .inr ⟨p,hp⟩
  ·have:=Zs.1 this.2 c (by simpa using QnD hc);simpa[hc] using this
 have m:∀u,u∈I.make->((k0<=u/\u<nV)/\∀j,j<i->u∉mkOf is j)/\∀d,d∈vd.getD u []->d=i\/bit ms i d=true:=by
  intro u hu;have:=Zs.1 h2 u hu;simp only[Zh,ZA] at this;refine⟨⟨this.1.1,λj hj=>?_⟩,λd hd=>?_⟩
  ·have:=Zs.1 this.1.2 j (by simpa using hj);simpa using this
  ·have:=Zs.1 this.2 d hd;simpa using this
 have e:∀u,u∈I.eat->(∀j,j<i->u∉Qf2 is j)/\u∉I.use:=by intro u hu;have:=Zs.1 h3 u hu;simp only[Zh] at this;refine⟨λj hj=>?_,by simpa using this.2⟩;have:=Zs.1 this.1 j (by simpa using hj);simpa using this
 exact⟨λu hu=>(g u hu).1.1,λu hu=>(g u hu).1.2,λu hu=>(g u hu).2,λu hu=>(m u hu).1.1,λu hu=>(m u hu).1.2,λu hu=>(m u hu).2,λu hu=>(e u hu).1,λu hu=>(e u hu).2,λd hd=>by have:=Zs.1 h4 d hd;simpa using this,QhJ h5,QhJ h6⟩
def ty_upd {T:TyN} {new:Nat->Value} {i:Nat} {x:Value} (h:i∉T.ds):T.ty (upd new i x)=T.ty new:=by unfold TyN.ty;congr 1;exact map_congr_left λd hd=>Qji (λe=>h (e▸hd))
def Qw1 {u:Nat} {new:Nat->Value} {i:Nat} {x:Value} (h:i∉(V.map (·.ds)).getD u []):ver V u (upd new i x)=ver V u new:=by
 unfold ver
 cases hV:V[u]? with
 | none=>rfl
 | some p=>
  have:(V.map (·.ds)).getD u []=p.ds:=by simp[Zw,hV]
  rw[this] at h;simp only;congr 1;exact map_congr_left λd hd=>Qji (λe=>h (e▸hd))
def Qjy {o:Oper} {d:Nat} (h:Operand.tmp d∈o.op.operands) (A:Array Oper):d∈o.looksAt A:=by unfold Oper.looksAt;refine ZH.2 (.inl ?_);rw[Yj];exact⟨.tmp d,by simpa using h,rfl⟩
def QrP {o:Oper} {d g:Nat} {b:Bool} (h:o.guard=some (g,b)) (hd:(ops[g]?).bind (·.dst)=some d):d∈o.looksAt ops.toArray:=by unfold Oper.looksAt;refine ZH.2 (.inr ?_);simp[h,hd]
def QvE (hchk:chk ops is (V.map (·.ds)) (Γ.map (·.1)) k0 V.length n=true) {new:Nat->Value} {S:Nat->Bool} {a:Act} {w:World} (hi:Inv ops V is M w0 n k0 Γ new S a w)
  {i:Nat} {o:Oper} (ho:ops[i]?=some o) (hS:S i=false) (hpre:Pre ops i S) {Γ':List (Nat×Ty)}
  (hsub:∀p∈Γ',p∈Γ\/∃j oj Ij,j<i/\ops[j]?=some oj/\is[j]?=some Ij/\oj.dst=some p.1/\p.2=Ij.ty.ty new):
  ∀p∈Γ',p.1∈o.looksAt ops.toArray->p.2.ok (free (MS V is k0 M.m S new) w) w (get a p.1):=by
 simp only[chk,Zh] at hchk;intro p hp hl;rcases hsub p hp with h | ⟨j,oj,Ij,hji,hoj,hIj,hdj,he⟩
 ·refine hi.old p h (λj oj hoj hdj=>?_);rcases QnB hchk.1.1.1.1.2 ho hl hoj hdj with⟨_,_,hn⟩ | ⟨_,hb⟩
  ·exact (hn (ZM.2 ⟨p,h,rfl⟩)).elim
  ·rcases hs:S j with _ | _
   ·rfl
   ·have:=Qmm hb hi.down (λo' ho'=>hi.down j o' ho' hs);rw[hS] at this;cases this
 ·rw[he];refine hi.nw j oj Ij p.1 hoj hIj ?_ hdj;rcases QnB hchk.1.1.1.1.2 ho hl hoj hdj with⟨_,hb,_⟩ | ⟨hlt,_⟩
  ·exact Qmm hb hi.down hpre
  ·omega
def QvF (hchk:chk ops is (V.map (·.ds)) (Γ.map (·.1)) k0 V.length n=true) {new:Nat->Value} {S:Nat->Bool} {a:Act} {w:World} (hi:Inv ops V is M w0 n k0 Γ new S a w)
  {i:Nat} {I:Info} (hI:is[i]?=some I) (hS:S i=false) (hpre:Pre ops i S) {u:Nat} (hu:u∈I.use\/u∈I.eat):Qfu V is k0 S u:=by
 simp only[chk,Zh] at hchk;have hV:=QjI hchk.1.2 hI;refine⟨hV.lt u hu,?_,λc hc=>?_⟩
 ·rcases hV.made u hu with h | ⟨p,hp,hb⟩
  ·exact .inl h
  ·exact .inr ⟨p,hp,Qmm hb hi.down hpre⟩
 ·rcases hV.alone u hu c hc with rfl | hb
  ·exact hS
  ·rcases hs:S c with _ | _
   ·rfl
   ·have:=Qmm hb hi.down (λo' ho'=>hi.down c o' ho' hs);rw[hS] at this;cases this
def MS_lt {new:Nat->Value} {S:Nat->Bool} {a:Act} {w:World} (hi:Inv ops V is M w0 n k0 Γ new S a w):∀k,MS V is k0 M.m S new k->k<w.heap.size:=by
 rintro k (hk | ⟨u,hu,hk⟩)
 ·exact ZG (hi.m0 k hk).1 hi.grow.size
 ·exact (hi.fresh u hu k hk).2
def QvG {Q:Exit->Act->World->Prop} (hinit:∀u,u<k0->∀new new',ver V u new=ver V u new') (hchk:chk ops is (V.map (·.ds)) (Γ.map (·.1)) k0 V.length n=true) (hrun:∀new,Run P ops V new 0 Γ ops is):
  QjW P ops.toArray Q (λS a w=>∃new,Inv ops V is M w0 n k0 Γ new S a w):=by
 intro S i o a w ho0 hS hpre0 ⟨new,hi⟩;have ho:ops[i]?=some o:=by simpa using ho0
 have hpre:Pre ops i S:=λo' ho'=>by rw[ho] at ho';cases ho';exact hpre0
 obtain⟨I,Γ',hI,hJ,hsub⟩:=(hrun new).get i o ho;rw[Nat.zero_add] at hJ;have hfacts:=QvE hchk hi ho hS hpre hsub;have hchk':=hchk;simp only[chk,Zh] at hchk';have hV:=QjI hchk'.1.2 hI;have hmkI:mkOf is i=I.make:=by simp[mkOf,hI]
 have heatI:Qf2 is i=I.eat:=by simp[Qf2,hI]
 have hdown:Down ops (ins S i):=by
  intro j oj hoj hj e he hb;simp only[ins,ZX,Ye] at hj ⊢;rcases hj with rfl | hj
  ·exact .inr (hpre oj hoj e he hb)
  ·exact .inr (hi.down j oj hoj hj e he hb)
 have hrest:∀p∈Γ,(∀j oj,ops[j]?=some oj->oj.dst=some p.1->ins S i j=false)->(∀j oj,ops[j]?=some oj->oj.dst=some p.1->S j=false)/\o.dst≠some p.1:=by
  intro p hp h;refine⟨λj oj hoj hdj=>?_,λhd=>?_⟩
  ·have:=h j oj hoj hdj;simp only[ins,Bool.or_eq_false_iff] at this;exact this.2
  ·have:=h i o ho hd;simp[ins] at this
 have hother:∀j oj d,ops[j]?=some oj->ins S i j=true->oj.dst=some d->j≠i->S j=true/\o.dst≠some d:=by intro j oj d hoj hj hd hne;refine⟨?_,λhd'=>hne (QqJ hchk'.1.1.1.2 hoj hd ho hd')⟩;simp only[ins,ZX,Ye] at hj;exact hj.resolve_left hne
 have hdep:∀j d,S j=true->(d=j\/bit (QjH [] ops) j d=true)->d≠i:=by
  rintro j d hj hd rfl;rcases hd with rfl | hb
  ·rw[hS] at hj;cases hj
  ·have:=Qmm hb hi.down (λo' ho'=>hi.down j o' ho' hj);rw[hS] at this;cases this
 have hty_old:∀x j Ij,is[j]?=some Ij->S j=true->Ij.ty.ty (upd new i x)=Ij.ty.ty new:=λx j Ij hIj hSj=>ty_upd (λhd=>hdep j i hSj ((QjI hchk'.1.2 hIj).dep i hd) rfl);have hkeepV:∀x u,Qfu V is k0 S u->ver V u (upd new i x)=ver V u new:=by
  rintro x u ⟨_,h2,_⟩;rcases h2 with h | ⟨p,hp,hs⟩
  ·exact hinit u h _ _
  ·refine Qw1 (λhd=>?_);obtain⟨Ip,hIp,hmp⟩:=QrO hp;exact hdep p i hs ((QjI hchk'.1.2 hIp).vdep u hmp i hd) rfl
 have hMw:=MS_lt hi;have havu:∀u,u∈I.use\/u∈I.eat->Qfu V is k0 S u:=λu hu=>QvF hchk hi hI hS hpre hu;have main:∀v w' x,Step (Qay (I.eat.map λu=>ver V u new)) w w'->Made (MS V is k0 M.m S new) (I.eat.map λu=>ver V u new) (I.make.map λu=>ver V u (upd new i x)) w w'->
   (I.ty.ty (upd new i x)).ok (free (next (MS V is k0 M.m S new) (I.eat.map λu=>ver V u new) (I.make.map λu=>ver V u (upd new i x))) w') w' v->∃new,Inv ops V is M w0 n k0 Γ new (ins S i) (a.put o.dst v) w':=by
  intro v w' x hstep hmk hty;refine⟨upd new i x,?_⟩;have heatM:∀k,Qay (I.eat.map λu=>ver V u new) k->∃u,u∈I.eat/\Qfu V is k0 S u/\(ver V u new).fp k:=by rintro k ⟨A,hA,hk⟩;obtain⟨u,hu,rfl⟩:=ZM.1 hA;exact⟨u,hu,havu u (.inr hu),hk⟩
  have hav':∀u,Qfu V is k0 (ins S i) u->(Qfu V is k0 S u/\u∉I.eat/\u∉I.make)\/u∈I.make:=by
   rintro u ⟨h1,h2,h3⟩;by_cases hmu:u∈I.make
   ·exact .inr hmu
   refine .inl ⟨⟨h1,?_,λc hc=>?_⟩,λhE=>?_,hmu⟩
   ·rcases h2 with h | ⟨p,hp,hs⟩
    ·exact .inl h
    ·refine .inr ⟨p,hp,?_⟩;simp only[ins,ZX,Ye] at hs;rcases hs with rfl | hs
     ·rw[hmkI] at hp;exact (hmu hp).elim
     ·exact hs
   ·have:=h3 c hc;simp only[ins,Bool.or_eq_false_iff] at this;exact this.2
   ·have:=h3 i (heatI▸hE);simp[ins] at this
  have hmkfp:∀u,u∈I.make->∀k,(ver V u (upd new i x)).fp k->Qay (I.make.map λu=>ver V u (upd new i x)) k:=λu hu k hk=>⟨_,ZM.2 ⟨u,hu,rfl⟩,hk⟩;have hmkbd:∀u,u∈I.make->∀k,(ver V u (upd new i x)).fp k->(Qay (I.eat.map λu=>ver V u new) k\/w.heap.size<=k)/\k<w'.heap.size:=λu hu=>hmk.place _ (ZM.2 ⟨u,hu,rfl⟩);have hsub2:∀k,MS V is k0 M.m (ins S i) (upd new i x) k->next (MS V is k0 M.m S new) (I.eat.map λu=>ver V u new) (I.make.map λu=>ver V u (upd new i x)) k:=by
   rintro k (hk | ⟨u,hu,hk⟩)
   ·refine .inl ⟨.inl hk,λhe=>?_⟩;obtain⟨u,_,hav,hfp⟩:=heatM k he;have h1:=(hi.fresh u hav k hfp).1;have h2:=hi.m0 k hk;rcases h1 with h1 | h1
    ·exact h2.2 h1
    ·omega
   ·rcases hav' u hu with⟨hav,hne,hmu⟩ | hmu
    ·rw[hkeepV x u hav] at hk;refine .inl ⟨.inr ⟨u,hav,hk⟩,λhe=>?_⟩;obtain⟨v,hv,hav2,hfp⟩:=heatM k he;exact hi.apart u v hav hav2 (λe=>hne (e▸hv)) k hk hfp
    ·exact .inr (hmkfp u hmu k hk)
  have hkeepF:∀k,free (MS V is k0 M.m S new) w k->free (MS V is k0 M.m (ins S i) (upd new i x)) w' k:=by
   rintro k ⟨h1,h2⟩;refine⟨ZG h1 hstep.size,λhm=>?_⟩;rcases hsub2 k hm with⟨h,_⟩ | ⟨A,hA,hk⟩
   ·exact h2 h
   ·obtain⟨u,hu,rfl⟩:=ZM.1 hA;rcases (hmkbd u hu k hk).1 with he | he
    ·obtain⟨v,_,hav,hfp⟩:=heatM k he;exact h2 (.inr ⟨v,hav,hfp⟩)
    ·omega
  have hsame:∀k,free (MS V is k0 M.m S new) w k->w'.heap[k]?=w.heap[k]?:=by rintro k ⟨h1,h2⟩;refine hstep.same k h1 (λhe=>?_);obtain⟨u,_,hav,hfp⟩:=heatM k he;exact h2 (.inr ⟨u,hav,hfp⟩)
  have hup:∀k,free (next (MS V is k0 M.m S new) (I.eat.map λu=>ver V u new) (I.make.map λu=>ver V u (upd new i x))) w' k->free (MS V is k0 M.m (ins S i) (upd new i x)) w' k:=λk ⟨h1,h2⟩=>⟨h1,λhm=>h2 (hsub2 k hm)⟩;constructor
  ·rw[QqF];exact hi.size
  ·rw[put_defers'];exact hi.defers
  ·refine⟨hstep.os.trans hi.grow.os,hstep.tape.trans hi.grow.tape,hstep.output.trans hi.grow.output,ZW hi.grow.size hstep.size,λk hk hb=>?_⟩;refine (hstep.same k (ZG hk hi.grow.size) (λhe=>?_)).trans (hi.grow.same k hk hb);obtain⟨u,_,hav,hfp⟩:=heatM k he;rcases (hi.fresh u hav k hfp).1 with h | h
   ·exact hb h
   ·omega
  ·exact hi.m0
  ·exact hdown
  ·intro p hp h;obtain⟨h1,h2⟩:=hrest p hp h;rw[QhX _ _ _ _ h2];exact p.2.keep hkeepF hsame (hi.old p hp h1)
  ·intro j oj Ij d hoj hIj hj hd;by_cases hji:j=i
   ·subst hji;rw[ho] at hoj;cases hoj;rw[hI] at hIj;cases hIj;rw[hd,Qmk _ _ _ (by rw[hi.size];exact QnC hchk'.1.1.2 ho hd)];exact Ty.keep _ hup (λ_ _=>rfl) hty
   ·obtain⟨h1,h2⟩:=hother j oj d hoj hj hd hji;rw[QhX _ _ _ _ h2,hty_old x j Ij hIj h1];exact Ty.keep _ hkeepF hsame (hi.nw j oj Ij d hoj hIj h1 hd)
  ·intro u hu;rcases hav' u hu with⟨hav,hne,hmu⟩ | hmu
   ·rw[hkeepV x u hav];refine Atom.keep _ hkeepF hsame (λk hk=>?_) (hi.own u hav);refine hstep.same k (hi.fresh u hav k hk).2 (λhe=>?_);obtain⟨v,hv,hav2,hfp⟩:=heatM k he;exact hi.apart u v hav hav2 (λe=>hne (e▸hv)) k hk hfp
   ·exact Atom.keep _ hup (λ_ _=>rfl) (λ_ _=>rfl) (hmk.ok _ (ZM.2 ⟨u,hmu,rfl⟩))
  ·intro u hu k hk;rcases hav' u hu with⟨hav,hne,hmu⟩ | hmu
   ·rw[hkeepV x u hav] at hk;have:=hi.fresh u hav k hk;exact⟨this.1,ZG this.2 hstep.size⟩
   ·obtain⟨h1,h2⟩:=hmkbd u hmu k hk;refine⟨?_,h2⟩;rcases h1 with he | he
    ·obtain⟨v,_,hav,hfp⟩:=heatM k he;exact (hi.fresh v hav k hfp).1
    ·exact .inr (ZW hi.grow.size he)
  ·have one:∀u v,Qfu V is k0 (ins S i) v->u∈I.make->u≠v->∀k,(ver V u (upd new i x)).fp k->¬(ver V v (upd new i x)).fp k:=by
    intro u v hv hmu hne k hk hk2;rcases hav' v hv with⟨hav,hne2,hmv⟩ | hmv
    ·rw[hkeepV x v hav] at hk2;rcases (hmkbd u hmu k hk).1 with he | he
     ·obtain⟨y,hy,hav2,hfp⟩:=heatM k he;exact hi.apart v y hav hav2 (λe=>hne2 (e▸hy)) k hk2 hfp
     ·have:=(hi.fresh v hav k hk2).2;omega
    ·have hp:=hmk.apart;unfold Qda at hp;rw[pairwise_map,pairwise_iff_getElem] at hp;obtain⟨iu,hiu,rfl⟩:=getElem_of_mem hmu;obtain⟨iv,hiv,rfl⟩:=getElem_of_mem hmv;rcases Nat.lt_trichotomy iu iv with h | h | h
     ·exact hp iu iv hiu hiv h k hk hk2
     ·subst h;exact hne rfl
     ·exact hp iv iu hiv hiu h k hk2 hk
   intro u v hu hv hne k hk hk2;rcases hav' u hu with⟨hav,hne1,hmu⟩ | hmu
   ·rcases hav' v hv with⟨hav2,hne2,hmv⟩ | hmv
    ·rw[hkeepV x u hav] at hk;rw[hkeepV x v hav2] at hk2;exact hi.apart u v hav hav2 hne k hk hk2
    ·exact one v u hu hmv (Ne.symm hne) k hk2 hk
   ·exact one u v hv hmu hne k hk hk2
 have hyieldG:∀(g:Nat) (want:Bool) (dg:Nat) (c:Bool),o.guard=some (g,want)->(ops[g]?).bind (·.dst)=some dg->Grd Γ' dg want c->((yielded ops.toArray a.tmps g=some want)=(c=true)):=by
  intro g want dg c hg hdg hc;have:=hc (free (MS V is k0 M.m S new) w) w a (λp hp hpd=>hfacts p hp (hpd▸QrP hg hdg));unfold yielded;have e:((ops.toArray[g]?).bind (·.dst))=some dg:=by simpa using hdg
  rw[e];simp only[Za];have hgd:get a dg=(a.tmps[dg]?).getD undef:=by simp[get,Array.getD_eq_getD_getElem?]
  rw[hgd] at this
  cases hx:a.tmps[dg]? with
  | none=>rw[hx] at this;simp[undef] at this;simp[<-this]
  | some y=>rw[hx] at this;simp only[ZQ] at this;cases y<;>simp_all;rename_i b;rw[<-this];simp
 unfold wpOpIn;rw[ho0];simp only;rcases hJ with⟨hg,hop⟩ | ⟨g,want,dg,c,T,hg,hdg,hc,he,hm,ht,hds,hop⟩ | ⟨g,want,dg,c,hg,hdg,hc,hop,hno⟩
 ·rw[Ze (by simp[Region.wanted,hg])];refine (Does.wp (hop (MS V is k0 M.m S new) w a hMw ?_ ?_ ?_ ?_ ?_) ?_)
  ·intro A hA;obtain⟨u,hu,rfl⟩:=ZM.1 hA;exact⟨hi.own u (havu u (.inl hu)),λk hk=>.inr ⟨u,havu u (.inl hu),hk⟩⟩
  ·intro A hA;obtain⟨u,hu,rfl⟩:=ZM.1 hA;exact⟨hi.own u (havu u (.inr hu)),λk hk=>.inr ⟨u,havu u (.inr hu),hk⟩⟩
  ·unfold Qda;rw[pairwise_map];exact hV.eatd.imp_of_mem λhu hv hne=>hi.apart _ _ (havu _ (.inr hu)) (havu _ (.inr hv)) hne
  ·intro A hA B hB;obtain⟨u,hu,rfl⟩:=ZM.1 hA;obtain⟨v,hv,rfl⟩:=ZM.1 hB;exact hi.apart u v (havu u (.inl hu)) (havu v (.inr hv)) (λe=>hV.eatu v hv (e▸hu))
  ·intro p hp hmem;exact hfacts p hp (Qjy hmem _)
  ·rintro v w' ⟨x,hstep,hmk,hty⟩;exact main v w' x hstep hmk hty
 ·have hyield:=hyieldG g want dg c hg hdg hc;have havE:∀u,Qfu V is k0 (ins S i) u↔Qfu V is k0 S u:=by
   intro u;have hp:∀p,u∈mkOf is p->(ins S i p=true↔S p=true):=by
    intro p hp;by_cases hpi:p=i
    ·subst hpi;rw[hmkI,hm] at hp;cases hp
    ·simp[ins,hpi]
   have hq:∀p,u∈Qf2 is p->(ins S i p=false↔S p=false):=by
    intro p hpe;by_cases hpi:p=i
    ·subst hpi;rw[heatI,he] at hpe;cases hpe
    ·simp[ins,hpi]
   constructor
   ·rintro ⟨h1,h2,h3⟩;exact⟨h1,h2.imp id (λ⟨p,ha,hb⟩=>⟨p,ha,(hp p ha).1 hb⟩),λc hc=>(hq c hc).1 (h3 c hc)⟩
   ·rintro ⟨h1,h2,h3⟩;exact⟨h1,h2.imp id (λ⟨p,ha,hb⟩=>⟨p,ha,(hp p ha).2 hb⟩),λc hc=>(hq c hc).2 (h3 c hc)⟩
  have hsubM:MS V is k0 M.m (ins S i) new=MS V is k0 M.m S new:=by
   funext k
   exact propext ⟨λh=>h.imp id (λ⟨u,hu,hk⟩=>⟨u,(havE u).1 hu,hk⟩),λh=>h.imp id (λ⟨u,hu,hk⟩=>⟨u,(havE u).2 hu,hk⟩)⟩
  have finish:∀v w',Grow w w'->(I.ty.ty new).ok (free (MS V is k0 M.m S new) w') w' v->∃new,Inv ops V is M w0 n k0 Γ new (ins S i) (a.put o.dst v) w':=by
   intro v w' hstep hty;have hkeepF:∀k,free (MS V is k0 M.m S new) w k->free (MS V is k0 M.m S new) w' k:=λk ⟨h1,h2⟩=>⟨ZG h1 hstep.size,h2⟩;have hsame:∀k,free (MS V is k0 M.m S new) w k->w'.heap[k]?=w.heap[k]?:=λk ⟨h1,_⟩=>hstep.same k h1 (λh=>h);refine⟨new,?_⟩;constructor
   ·rw[QqF];exact hi.size
   ·rw[put_defers'];exact hi.defers
   ·exact⟨hstep.os.trans hi.grow.os,hstep.tape.trans hi.grow.tape,hstep.output.trans hi.grow.output,ZW hi.grow.size hstep.size,λk hk hb=>(hstep.same k (ZG hk hi.grow.size) (λh=>h)).trans (hi.grow.same k hk hb)⟩
   ·exact hi.m0
   ·exact hdown
   ·intro p hp h;obtain⟨h1,h2⟩:=hrest p hp h;rw[QhX _ _ _ _ h2,hsubM];exact p.2.keep hkeepF hsame (hi.old p hp h1)
   ·intro j oj Ij d hoj hIj hj hd;rw[hsubM];by_cases hji:j=i
    ·subst hji;rw[ho] at hoj;cases hoj;rw[hI] at hIj;cases hIj;rw[hd,Qmk _ _ _ (by rw[hi.size];exact QnC hchk'.1.1.2 ho hd)];exact hty
    ·obtain⟨h1,h2⟩:=hother j oj d hoj hj hd hji;rw[QhX _ _ _ _ h2];exact Ty.keep _ hkeepF hsame (hi.nw j oj Ij d hoj hIj h1 hd)
   ·intro u hu;rw[hsubM];refine Atom.keep _ hkeepF hsame (λk hk=>?_) (hi.own u ((havE u).1 hu));exact hstep.same k (hi.fresh u ((havE u).1 hu) k hk).2 (λh=>h)
   ·intro u hu k hk;have:=hi.fresh u ((havE u).1 hu) k hk;exact⟨this.1,ZG this.2 hstep.size⟩
   ·intro u v hu hv hne;exact hi.apart u v ((havE u).1 hu) ((havE v).1 hv) hne
  by_cases hw:Region.wanted o (yielded ops.toArray a.tmps)=true
  ·rw[Ze hw];have hct:c=true:=by
    rw[<-hyield];simpa[Region.wanted,hg] using hw
   have hdoes:=hop hct (MS V is k0 M.m S new) w a hMw ?_ (λA hA=>by cases hA) Pairwise.nil (λA _ B hB=>by cases hB) (λp hp hmem=>hfacts p hp (Qjy hmem _))
   ·refine (Does.wp hdoes ?_);rintro v w' ⟨x,hstep,_,hty⟩;have e1:next (MS V is k0 M.m S new) [] []=MS V is k0 M.m S new:=by
     funext k
     simp[next,Qay]
    rw[e1] at hty;refine finish v w' (hstep.mono (λk hk=>by obtain⟨A,hA,_⟩:=hk;cases hA)) ?_;rw[ht];exact⟨λ_=>hty,λhf=>(by rw[hct] at hf;cases hf)⟩
   ·intro A hA;obtain⟨u,hu,rfl⟩:=ZM.1 hA;exact⟨hi.own u (havu u (.inl hu)),λk hk=>.inr ⟨u,havu u (.inl hu),hk⟩⟩
  ·rw[Zb hw];have hcf:c=false:=by
    cases hcc:c with
    | false=>rfl
    | true=>rw[hcc] at hyield;have:=hyield.symm▸(rfl:true=true);exact (hw (by simpa[Region.wanted,hg] using this)).elim
   refine⟨λ_ _=>trivial,finish undef w (Step.refl _ _) ?_⟩;rw[ht];exact⟨λh=>(by rw[hcf] at h;cases h),λ_=>rfl⟩
 ·have hyield:=hyieldG g want dg c hg hdg hc;by_cases hw:Region.wanted o (yielded ops.toArray a.tmps)=true
  ·rw[Ze hw];have hct:c=true:=by
    rw[<-hyield];simpa[Region.wanted,hg] using hw
   refine (Does.wp (hop hct (MS V is k0 M.m S new) w a hMw ?_ ?_ ?_ ?_ ?_) ?_)
   ·intro A hA;obtain⟨u,hu,rfl⟩:=ZM.1 hA;exact⟨hi.own u (havu u (.inl hu)),λk hk=>.inr ⟨u,havu u (.inl hu),hk⟩⟩
   ·intro A hA;obtain⟨u,hu,rfl⟩:=ZM.1 hA;exact⟨hi.own u (havu u (.inr hu)),λk hk=>.inr ⟨u,havu u (.inr hu),hk⟩⟩
   ·unfold Qda;rw[pairwise_map];exact hV.eatd.imp_of_mem λhu hv hne=>hi.apart _ _ (havu _ (.inr hu)) (havu _ (.inr hv)) hne
   ·intro A hA B hB;obtain⟨u,hu,rfl⟩:=ZM.1 hA;obtain⟨v,hv,rfl⟩:=ZM.1 hB;exact hi.apart u v (havu u (.inl hu)) (havu v (.inr hv)) (λe=>hV.eatu v hv (e▸hu))
   ·intro p hp hmem;exact hfacts p hp (Qjy hmem _)
   ·rintro v w' ⟨x,hstep,hmk,hty⟩;exact main v w' x hstep hmk hty
  ·rw[Zb hw];have hcf:c=false:=by
    cases hcc:c with
    | false=>rfl
    | true=>rw[hcc] at hyield;have:=hyield.symm▸(rfl:true=true);exact (hw (by simpa[Region.wanted,hg] using this)).elim
   obtain⟨hN,hT⟩:=hno hcf;refine⟨λ_ _=>trivial,main undef w undef (Step.refl _ _) ?_ (hT _ _)⟩;rw[hN];refine⟨?_,?_,?_⟩
   ·unfold Qda;rw[pairwise_map];exact hV.eatd.imp_of_mem λhu hv hne=>hi.apart _ _ (havu _ (.inr hu)) (havu _ (.inr hv)) hne
   ·intro A hA k hk;refine⟨.inl ⟨A,hA,hk⟩,?_⟩;obtain⟨u,hu,rfl⟩:=ZM.1 hA;exact (hi.fresh u (havu u (.inr hu)) k hk).2
   ·intro A hA;obtain⟨u,hu,rfl⟩:=ZM.1 hA;refine Atom.keep _ (λk hk=>⟨hk.1,?_⟩) (λ_ _=>rfl) (λ_ _=>rfl) (hi.own u (havu u (.inr hu)));rintro (⟨hm,_⟩ | ⟨B,hB,hkB⟩)
    ·exact hk.2 hm
    ·obtain⟨v,hv,rfl⟩:=ZM.1 hB;exact hk.2 (.inr ⟨v,havu v (.inr hv),hkB⟩)
def Qw2 {new:Nat->Value} {S:Nat->Bool} {a:Act} {w:World} (hi:Inv ops V is M w0 n k0 Γ new S a w) (hall:∀i,i<ops.length->S i=true):
  ∀p∈outG ops is Γ new,p.2.ok (free (MS V is k0 M.m S new) w) w (get a p.1):=by
 intro p hp;unfold outG at hp;rcases ZH.1 hp with h | h
 ·obtain⟨⟨o,I⟩,hoI,he⟩:=Yj.1 h
  cases hd:o.dst with
  | none=>simp[hd] at he
  | some d=>simp only[hd,ZO,ZB] at he;subst he;obtain⟨i,hi'⟩:=ZV.1 hoI;rw[getElem?_zip_eq_some] at hi';exact hi.nw i o I d hi'.1 hi'.2 (hall i (Zc.1 hi'.1).1) hd
 ·obtain⟨h1,h2⟩:=Yg.1 h;refine hi.old p h1 (λj o ho hd=>?_);have hmem:p.1+1∈dsts ops:=by
   have:=Qh9 ho hd;rw[Zw] at this
   cases hx:(dsts ops)[j]? with
   | none=>simp[hx] at this
   | some y=>simp[hx] at this;subst this;exact Zo hx
  simp[hmem] at h2
def Qn2 {As:List Atom} {a:Act} {w:World} {Q:Exit->Act->World->Prop} {C:Prop} (V:List Ver) (is:List Info)
  (hC:∀I:(Nat->Bool)->Act->World->Prop,QjW P ops.toArray Q I->Acyc ops.toArray->(∀S a w,(∀i,i<ops.toArray.size->S i=true)->I S a w->Q .normal a w)->(∀w',w'=w\/w'=w.drew->I (λ_=>false) a w')->C)
  (hst:St M w0 n Γ As a w) (hrun:∀new,Run P ops V new 0 Γ ops is)
  (hV0:∀(u:Nat) (A:Atom),As[u]?=some A->∀x,ver V u x=A) (hchk:chk ops is (V.map (·.ds)) (Γ.map (·.1)) As.length V.length n=true)
  (hQ:∀new a' w',St M w0 n (outG ops is Γ new) (QhY V is new) a' w'->Q .normal a' w'):C:=by
 have hchk':=hchk;simp only[chk,Zh] at hchk';have hlen:=(hrun (λ_=>undef)).length;have hk0:∀u,u<As.length->∃A,As[u]?=some A/\∀x,ver V u x=A:=λu hu=>⟨As[u],Zf hu,hV0 u _ (Zf hu)⟩;have heat:∀u,Qn1 is u=true↔∃c,u∈Qf2 is c:=by
  intro u;unfold Qn1;rw[any_eq_true];constructor
  ·rintro ⟨I,hI,he⟩;obtain⟨c,hc⟩:=ZV.1 hI;exact⟨c,by simp[Qf2,hc];simpa using he⟩
  ·rintro ⟨c,hc⟩;obtain⟨I,hI,he⟩:=Qmn hc;exact⟨I,Zo hI,by simpa using he⟩
 refine hC (λS a w=>∃new,Inv ops V is M w0 n As.length Γ new S a w) (QvG (λu hu x y=>by obtain⟨A,_,hA⟩:=hk0 u hu;rw[hA,hA]) hchk hrun) (QsK hchk'.1.1.1.1.1) ?_ ?_
 ·rintro S a' w' hall ⟨new,hi⟩;have hall':∀i,i<ops.length->S i=true:=λi h=>hall i (by simpa using h);have hav:∀u,Qfu V is As.length S u↔u<V.length/\Qn1 is u=false:=by
   intro u;constructor
   ·rintro ⟨h1,_,h3⟩;refine⟨h1,?_⟩
    cases he:Qn1 is u with
    | false=>rfl
    | true=>obtain⟨c,hc⟩:=(heat u).1 he;have:=h3 c hc;rw[hall' c (by have:=QnD hc;omega)] at this;cases this
   ·rintro ⟨h1,h2⟩;refine⟨h1,?_,λc hc=>?_⟩
    ·have:=Zs.1 hchk'.2 u (by simpa using h1);simp only[ZX,ZA] at this;rcases this with h | h
     ·exact .inl h
     ·obtain⟨p,hp,he⟩:=any_eq_true.1 h;exact .inr ⟨p,by simpa using he,hall' p (by simp at hp;omega)⟩
    ·rw[(heat u).2 ⟨c,hc⟩] at h2;cases h2
  have hfps:∀k,hold M.m (QhY V is new) k↔MS V is As.length M.m S new k:=by
   intro k;unfold hold MS fps QhY;constructor
   ·rintro (h | ⟨A,hA,hk⟩)
    ·exact .inl h
    ·obtain⟨u,hu,rfl⟩:=ZM.1 hA;obtain⟨h1,h2⟩:=Yg.1 hu;exact .inr ⟨u,(hav u).2 ⟨by simpa using h1,by simpa using h2⟩,hk⟩
   ·rintro (h | ⟨u,hu,hk⟩)
    ·exact .inl h
    ·have:=(hav u).1 hu;exact .inr ⟨_,ZM.2 ⟨u,Yg.2 ⟨by simpa using this.1,by simpa using this.2⟩,rfl⟩,hk⟩
  have hfree:∀k,free (MS V is As.length M.m S new) w' k->free (hold M.m (QhY V is new)) w' k:=λk ⟨h1,h2⟩=>⟨h1,λh=>h2 ((hfps k).1 h)⟩;refine hQ new a' w' ⟨hi.size,hi.defers,hi.grow,hi.m0,?_,?_,?_,?_⟩
  ·intro A hA;obtain⟨u,hu,rfl⟩:=ZM.1 hA;obtain⟨h1,h2⟩:=Yg.1 hu;exact Atom.keep _ hfree (λ_ _=>rfl) (λ_ _=>rfl) (hi.own u ((hav u).2 ⟨by simpa using h1,by simpa using h2⟩))
  ·intro A hA k hk;obtain⟨u,hu,rfl⟩:=ZM.1 hA;obtain⟨h1,h2⟩:=Yg.1 hu;exact hi.fresh u ((hav u).2 ⟨by simpa using h1,by simpa using h2⟩) k hk
  ·unfold QhY Qda;rw[pairwise_map];refine Pairwise.imp_of_mem ?_ (Pairwise.filter _ nodup_range);intro u v hu hv hne;obtain⟨h1,h2⟩:=Yg.1 hu;obtain⟨h3,h4⟩:=Yg.1 hv;exact hi.apart u v ((hav u).2 ⟨by simpa using h1,by simpa using h2⟩) ((hav v).2 ⟨by simpa using h3,by simpa using h4⟩) hne
  ·intro p hp;exact p.2.keep hfree (λ_ _=>rfl) (Qw2 hi hall' p hp)
 ·intro w' hw';have hheap:w'.heap=w.heap:=by rcases hw' with rfl | rfl<;>rfl
  have hav:∀u,Qfu V is As.length (λ_=>false) u->u<As.length:=by
   rintro u ⟨h1,h2,_⟩;rcases h2 with h | ⟨p,_,hp⟩
   ·exact h
   ·cases hp
  have hMS:∀k,MS V is As.length M.m (λ_=>false) (λ_=>undef) k->hold M.m As k:=by
   rintro k (h | ⟨u,hu,hk⟩)
   ·exact .inl h
   ·obtain⟨A,hA,hv⟩:=hk0 u (hav u hu);rw[hv] at hk;exact .inr ⟨A,Zo hA,hk⟩
  have hfree:∀k,free (hold M.m As) w k->free (MS V is As.length M.m (λ_=>false) (λ_=>undef)) w' k:=λk ⟨h1,h2⟩=>⟨by rw[hheap];exact h1,λh=>h2 (hMS k h)⟩;refine⟨λ_=>undef,⟨hst.size,hst.defers,?_,hst.m0,?_,?_,?_,?_,?_,?_⟩⟩
  ·rcases hw' with rfl | rfl
   ·exact hst.grow
   ·exact hst.grow.drew
  ·intro i o ho hS;cases hS
  ·intro p hp _;exact p.2.keep hfree (λk _=>by rw[hheap]) (hst.Xo p hp)
  ·intro i o I d _ _ hS;cases hS
  ·intro u hu;obtain⟨A,hA,hv⟩:=hk0 u (hav u hu);rw[hv];exact A.keep hfree (λk _=>by rw[hheap]) (λk _=>by rw[hheap]) (hst.own A (Zo hA))
  ·intro u hu k hk;obtain⟨A,hA,hv⟩:=hk0 u (hav u hu);rw[hv] at hk;have:=hst.fresh A (Zo hA) k hk;rw[hheap];exact this
  ·intro u v hu hv hne k hk hk2;obtain⟨A,hA,hvA⟩:=hk0 u (hav u hu);obtain⟨B,hB,hvB⟩:=hk0 v (hav v hv);rw[hvA] at hk;rw[hvB] at hk2;have hp:=hst.apart;unfold Qda at hp;rw[pairwise_iff_getElem] at hp;obtain⟨hu',rfl⟩:=Zc.1 hA;obtain⟨hv',rfl⟩:=Zc.1 hB;rcases Nat.lt_trichotomy u v with h | h | h
   ·exact hp u v hu' hv' h k hk hk2
   ·exact hne h
   ·exact hp v u hv' hu' h k hk2 hk
def Qp9 {As:List Atom} {a:Act} {w:World} {id:Nat} {draw:Bool} {Q:Exit->Act->World->Prop} (V:List Ver) (is:List Info)
  (hm:P.follows .mixedOrders=true) (hst:St M w0 n Γ As a w) (hrun:∀new,Run P ops V new 0 Γ ops is)
  (hV0:∀(u:Nat) (A:Atom),As[u]?=some A->∀x,ver V u x=A) (hchk:chk ops is (V.map (·.ds)) (Γ.map (·.1)) As.length V.length n=true)
  (hQ:∀new a' w',St M w0 n (outG ops is Γ new) (QhY V is new) a' w'->Q .normal a' w'):(Code.region id ops.toArray draw).wp P Q a w:=
 Qn2 V is (λ_ hs hac fin h0=>Qp8 (λ_=>hm) hs hac fin h0) hst hrun hV0 hchk hQ
end
def Qiu (a:Act) (v:Value):a.eval (.const v)=v:=rfl
def QW (Ts:List Ty) (F:Blk) (w:World) (us:List Value):Prop:=us.length=Ts.length/\∀(j:Nat) (T:Ty) (u:Value),Ts[j]?=some T->us[j]?=some u->T.ok F w u
def QW.keep {Ts:List Ty} {F F':Blk} {w w':World} {us:List Value} (hF:∀k,F k->F' k) (hh:∀k,F k->w'.heap[k]?=w.heap[k]?) (h:QW Ts F w us):QW Ts F' w' us:=⟨h.1,λj T u hT hu=>T.keep hF hh (h.2 j T u hT hu)⟩
def Row (Ts:List Ty) (F:Blk) (w:World) (b off:Nat):Prop:=∀(j:Nat) (T:Ty),Ts[j]?=some T->∃u,w.cell? ⟨b,off+j,none⟩=some u/\T.ok F w u
def Row.keep {Ts:List Ty} {F F':Blk} {w w':World} {b off:Nat} (hb:F b) (hF:∀k,F k->F' k) (hh:∀k,F k->w'.heap[k]?=w.heap[k]?) (h:Row Ts F w b off):Row Ts F' w' b off:=λj T hT=>let⟨u,hu,ht⟩:=h j T hT;⟨u,(World.cell?_of_block (a:=⟨b,off+j,none⟩) (hh b hb)).trans hu,T.keep hF hh ht⟩
def tand (T U:Ty):Ty:=⟨λF w v=>T.ok F w v/\U.ok F w v,λhF hh h=>⟨T.keep hF hh h.1,U.keep hF hh h.2⟩⟩
def tagg (Ts:List Ty):Ty:=⟨λF w v=>∃us,v=.agg us.toArray/\QW Ts F w us,by intro F F' w w' v hF hh ⟨us,hv,h⟩;exact⟨us,hv,QW.keep hF hh h⟩⟩
def ttup (Ts:List Ty):Ty:=⟨λF w v=>∃us,v=.tuple us.toArray/\QW Ts F w us,by intro F F' w w' v hF hh ⟨us,hv,h⟩;exact⟨us,hv,QW.keep hF hh h⟩⟩
def tptr (Ts:List Ty):Ty:=⟨λF w v=>∃b off,v=.pointer (some ⟨b,off,none⟩)/\F b/\Row Ts F w b off,λhF hh ⟨b,off,hv,hb,h⟩=>⟨b,off,hv,hF b hb,h.keep hb hF hh⟩⟩
structure Rep (α:Type) where
 cs:α->List Ty
 n:Nat
 agg:Bool
 len:∀x,(cs x).length=n
 one:∀x T,T∈cs x->∀F w v,T.ok F w v->v.oneCell'=true
 sz:agg=false->n=1
@[reducible] def Rep.ty {α : Type} (R : Rep α) (x : α) : Ty := match R.agg with | true => tagg (R.cs x) | false => (R.cs x).headD tany
def tsl {α:Type} (R:Rep α) (xs:List α):Ty:=⟨λF w v=>∃ad cap,v=.slice ad xs.length cap/\xs.length<=cap/\(xs≠[]->∃b off,ad=some ⟨b,off,none⟩/\F b/\Row (xs.flatMap R.cs) F w b off),λhF hh ⟨ad,cap,hv,hl,h⟩=>⟨ad,cap,hv,hl,λhne=>let⟨b,off,ha,hb,hr⟩:=h hne;⟨b,off,ha,hF b hb,hr.keep hb hF hh⟩⟩⟩
@[reducible] def rInt (k : IntKind) : Rep Int := ⟨λx => [tv (.int k x)],1,false,λ_ => rfl,λx T h F w v hv => by simp at h; subst h; have : v = _ := hv; subst this; rfl,λ_ => rfl⟩
@[reducible] def QgL : Rep Bool := ⟨λx => [tv (.bool x)],1,false,λ_ => rfl,λx T h F w v hv => by simp at h; subst h; have : v = _ := hv; subst this; rfl,λ_ => rfl⟩
@[reducible] def rSl {α : Type} (R : Rep α) : Rep (List α) := ⟨λx => [tsl R x],1,false,λ_ => rfl,λx T h F w v hv => by simp at h; subst h; obtain ⟨ad,cap,e,_⟩ := hv; subst e; rfl,λ_ => rfl⟩
abbrev rI:Rep Int:=rInt .i64
def own {α:Type} (R:Rep α) (e:TypeId) (xs:List α) (v:Value):Atom:=
 ⟨λk=>v.ownBlock=some k,λF w=>∃us,w.ownsRow 0 e R.n v xs.length us/\QW (xs.flatMap R.cs) F w us,
  λhF hh hf ⟨us,ho,hc⟩=>⟨us,⟨ho.1,by
   rcases ho.2 with h | ⟨g,cap,cur,hv,hb,hg,r⟩
   ·exact .inl h
   ·exact .inr ⟨g,cap,cur,hv,hb,by rw[hf g (by rw[hv];rfl)];exact hg,r⟩⟩,hc.keep hF hh⟩⟩
def box (Ts:List Ty) (p:Value):Atom:=⟨λk=>p=.pointer (some ⟨k,0,none⟩),λF w=>∃b cur e,p=.pointer (some ⟨b,0,none⟩)/\w.heap[b]?=some (.cells cur e (0,0))/\QW Ts F w cur.toList/\∀u∈cur.toList,u.oneCell'=true,λhF hh hf ⟨b,cur,e,hp,hb,hc,h1⟩=>⟨b,cur,e,hp,by rw[hf b hp];exact hb,hc.keep hF hh,h1⟩⟩
def QqK:TypeDesc->Bool | .struct _ | .array _ _=>true | _=>false
structure TOk (P:Program) (t:TypeId) {α:Type} (R:Rep α) (bytes:Nat) (z:Value):Prop where
 d:∃d,P.underlying t=some d/\QqK d=R.agg
 i:(P.info? t).map (λi=>(i.zero,i.size,i.bytes))=some (some z,R.n,bytes)
 zc:z.cells.size=R.n
def TOk.info {P:Program} {t:TypeId} {α:Type} {R:Rep α} {b:Nat} {z:Value} (h:TOk P t R b z):∃i,P.info? t=some i/\i.zero=some z/\i.size=R.n/\i.bytes=b:=by
 have hi:=h.i
 cases hx:P.info? t with
 | none=>simp[hx] at hi
 | some i=>simp only[hx,ZO,ZB,Yo] at hi;exact⟨i,rfl,hi⟩
def Fct (Γ:List (Nat×Ty)) (x:Operand) (T:Ty):Prop:=∀F w a,(∀p∈Γ,Operand.tmp p.1=x->p.2.ok F w (get a p.1))->T.ok F w (a.eval x)
section
variable {Γ:List (Nat×Ty)} {P:Program}
def Fct.t {s:Nat} {T:Ty} (i:Nat) (h:Γ[i]?=some (s,T)):Fct Γ (.tmp s) T:=λ_ _ _ h0=>h0 (s,T) (Zo h) rfl
def Fct.k {v:Value}:Fct Γ (.const v) (tv v):=λ_ _ _ _=>rfl
def Fct.f {f:FuncId}:Fct Γ (.func f) (tv (.func (.func f) #[] #[])):=λ_ _ _ _=>rfl
def Fct.g {g:Nat}:Fct Γ (.global g) (tv (.pointer (some ⟨g,0,none⟩))):=λ_ _ _ _=>rfl
def Fct.Xn {x:Operand} {T U:Ty} (h:Fct Γ x T) (hw:∀F w v,T.ok F w v->U.ok F w v):Fct Γ x U:=λF w a h0=>hw F w _ (h F w a h0)
def Fct.cond {x:Operand} {T:Ty} {c:Bool} (h:Fct Γ x (QgJ c T)) (hc:c=true):Fct Γ x T:=λF w a h0=>(h F w a h0).1 hc
def Fct.left {x:Operand} {T U:Ty} (h:Fct Γ x (tand T U)):Fct Γ x T:=h.Xn λ_ _ _ h=>h.1
def Fct.right {x:Operand} {T U:Ty} (h:Fct Γ x (tand T U)):Fct Γ x U:=h.Xn λ_ _ _ h=>h.2
def Fct.both {x:Operand} {T U:Ty} (h:Fct Γ x T) (k:Fct Γ x U):Fct Γ x (tand T U):=λF w a h0=>⟨h F w a h0,k F w a h0⟩
def Fct.nilsl {α:Type} {R:Rep α}:Fct Γ (.const (.slice none 0 0)) (tsl R ([]:List α)):=λ_ _ _ _=>⟨none,0,rfl,Zp _,λh=>(h rfl).elim⟩
def Fct.use {x:Operand} {T:Ty} {xs:Array Operand} {F:Blk} {w:World} {a:Act} (h:Fct Γ x T) (hx:x∈xs) (he:Qi7 Γ xs F w a):T.ok F w (a.eval x):=h F w a λp hp hpx=>he p hp (hpx▸hx)
def Fct.val {x:Operand} {v:Value} {xs:Array Operand} {F:Blk} {w:World} {a:Act} (h:Fct Γ x (tv v)) (hx:x∈xs) (he:Qi7 Γ xs F w a):a.eval x=v:=h.use hx he
def Grd.b {dg:Nat} {want b:Bool} (i:Nat) (h:Γ[i]?=some (dg,tv (.bool b))):Grd Γ dg want (b==want):=by intro F w a h0;have:get a dg=.bool b:=h0 _ (Zo h) rfl;rw[this]
def Grd.c {dg:Nat} {want b c0:Bool} (i:Nat) (h:Γ[i]?=some (dg,QgJ c0 (tv (.bool b)))):Grd Γ dg want (c0&&(b==want)):=by
 intro F w a h0;have hh:(QgJ c0 (tv (.bool b))).ok F w (get a dg):=h0 _ (Zo h) rfl
 cases c0 with
 | true=>have:get a dg=.bool b:=hh.1 rfl;rw[this];simp
 | false=>have:get a dg=undef:=hh.2 rfl;rw[this];simp[undef]
def Qj5 (M:Blk):next M [] []=M:=by funext k;simp[next,Qay]
def Qej:Qay []=λ_=>False:=by funext k;simp[Qay]
def Qak {A:Atom} {k:Nat}:Qay [A] k↔A.fp k:=by simp[Qay]
def Qfn {M:Blk} {E:List Atom} {w w':World}:Made M E [] w w':=⟨Pairwise.nil,λ_ h=>(by cases h),λ_ h=>(by cases h)⟩
def QbQ {M:Blk} {E:List Atom} {A:Atom} {w w':World} (h1:∀k,A.fp k->(Qay E k\/w.heap.size<=k)/\k<w'.heap.size) (h2:A.ok (free (next M E [A]) w') w'):Made M E [A] w w':=⟨pairwise_singleton _ _,λB hB=>by obtain rfl:=Zg.1 hB;exact h1,λB hB=>by obtain rfl:=Zg.1 hB;exact h2⟩
def QcF {M:Blk} {E N:List Atom} {w w':World} {k:Nat} (hs:w.heap.size<=w'.heap.size) (hE:∀j,Qay E j->M j) (hN:∀A∈N,∀j,A.fp j->Qay E j\/w.heap.size<=j) (h:free M w k):free (next M E N) w' k:=by
 refine⟨ZG h.1 hs,?_⟩;rintro (⟨hm,_⟩ | ⟨A,hA,hk⟩)
 ·exact h.2 hm
 ·rcases hN A hA k hk with he | he
  ·exact h.2 (hE k he)
  ·have:=h.1;omega
def QdA {M:Blk} {E:List Atom} {w:World} (h:QgK M E w):∀k,Qay E k->M k:=λk ⟨A,hA,hk⟩=>(h A hA).2 k hk
def QaQ {o:Oper} {T:Ty} (h:∀F w a,Qi7 Γ o.op.operands F w a->∃v,(execOp a.eval o).run P w=.ok (.value v) w/\T.ok F w v):OpJ P o Γ [] [] (λ_=>[]) (λ_=>T):=by intro M w a _ _ _ _ _ he;obtain⟨v,hr,ht⟩:=h _ w a he;simp only[Does,hr];refine⟨undef,Step.refl _ _,Qfn,?_⟩;rw[Qj5];exact ht
def Qcq {o:Oper} {U:List Atom} {T:Ty} (h:∀M w a,(∀A∈U,A.ok (free M w) w)->Qi7 Γ o.op.operands (free M w) w a->∃v,(execOp a.eval o).run P w=.ok (.value v) w/\T.ok (free M w) w v):OpJ P o Γ U [] (λ_=>[]) (λ_=>T):=by intro M w a _ hU _ _ _ he;obtain⟨v,hr,ht⟩:=h M w a (λA hA=>(hU A hA).1) he;simp only[Does,hr];refine⟨undef,Step.refl _ _,Qfn,?_⟩;rw[Qj5];exact ht
def Qm5 {o:Oper} {T:Ty} (h:∀F w a,(∀k,F k->k<w.heap.size)->Qi7 Γ o.op.operands F w a->∃v w',(execOp a.eval o).run P w=.ok (.value v) w'/\Grow w w'/\∀F',(∀k,F k->F' k)->(∀k,w.heap.size<=k->k<w'.heap.size->F' k)->T.ok F' w' v):OpJ P o Γ [] [] (λ_=>[]) (λ_=>T):=by intro M w a hM _ _ _ _ he;obtain⟨v,w',hr,hg,ht⟩:=h _ w a (λk hk=>hk.1) he;simp only[Does,hr];refine⟨undef,hg.mono (λ_ h=>h.elim),Qfn,?_⟩;rw[Qj5];refine ht _ (λk hk=>⟨ZG hk.1 hg.size,hk.2⟩) (λk h1 h2=>⟨h2,λhm=>?_⟩);have:=hM k hm;omega
variable {d:Option Tmp} {ty:TypeId} {pos:String} {af:Array Edge} {g:Option (Nat×Bool)} {x y:Operand} {T:Ty}
def QL (h:Fct Γ x T):OpJ P ⟨d,.move x,ty,pos,af,g⟩ Γ [] [] (λ_=>[]) (λ_=>T):=QaQ λF w a he=>⟨a.eval x,by simp[execOp],h.use (by simp[Op.operands]) he⟩
def Qc (h:Fct Γ x T):OpJ P ⟨d,.assign x,ty,pos,af,g⟩ Γ [] [] (λ_=>[]) (λ_=>T):=QaQ λF w a he=>⟨a.eval x,by simp[execOp],h.use (by simp[Op.operands]) he⟩
def QdT {op:BinOp} {t t2:TypeId} {u v r:Value} (hx:Fct Γ x (tv u)) (hy:Fct Γ y (tv v)) (h:∀w,((do eqGuard op t x y u v;binOp op t u v:Sem Value)).run P w=.ok r w):
  OpJ P ⟨d,.binOp op t x y t2,ty,pos,af,g⟩ Γ [] [] (λ_=>[]) (λ_=>tv r):=
 QaQ λF w a he=>⟨r,by have h1:=hx.val (by simp[Op.operands]) he;have h2:=hy.val (by simp[Op.operands]) he;simp only[execOp,h1,h2];rw[Sem.run_bind,h w];rfl,rfl⟩
variable {t t2:TypeId} {k:IntKind} {a b:Int}
def Qab (hx:Fct Γ x (tv (.int k a))) (hy:Fct Γ y (tv (.int k b))):OpJ P ⟨d,.binOp .add t x y t2,ty,pos,af,g⟩ Γ [] [] (λ_=>[]) (λ_=>tv (.int k (k.wrap (a+b)))):=QdT hx hy λw=>by simp[eqGuard,binOp,Op.intArith]
def Qdv (hx:Fct Γ x (tv (.int k a))) (hy:Fct Γ y (tv (.int k b))):OpJ P ⟨d,.binOp .sub t x y t2,ty,pos,af,g⟩ Γ [] [] (λ_=>[]) (λ_=>tv (.int k (k.wrap (a - b)))):=QdT hx hy λw=>by simp[eqGuard,binOp,Op.intArith]
def Qlb (hx:Fct Γ x (tv (.int k a))) (hy:Fct Γ y (tv (.int k b))):OpJ P ⟨d,.binOp .mul t x y t2,ty,pos,af,g⟩ Γ [] [] (λ_=>[]) (λ_=>tv (.int k (k.wrap (a * b)))):=QdT hx hy λw=>by simp[eqGuard,binOp,Op.intArith]
def Qmo (hx:Fct Γ x (tv (.int k a))) (hy:Fct Γ y (tv (.int k b))) (hb:b≠0):OpJ P ⟨d,.binOp .quo t x y t2,ty,pos,af,g⟩ Γ [] [] (λ_=>[]) (λ_=>tv (.int k (k.wrap (a.tdiv b)))):=QdT hx hy λw=>by simp[eqGuard,binOp,Op.intDiv,hb]
def Qn3 (hx:Fct Γ x (tv (.int k a))) (hy:Fct Γ y (tv (.int k b))) (hb:b≠0):OpJ P ⟨d,.binOp .rem t x y t2,ty,pos,af,g⟩ Γ [] [] (λ_=>[]) (λ_=>tv (.int k (a.tmod b))):=QdT hx hy λw=>by simp[eqGuard,binOp,Op.intDiv,hb]
def Q8 (hx:Fct Γ x (tv (.int k a))) (hy:Fct Γ y (tv (.int k b))):OpJ P ⟨d,.binOp .lss t x y t2,ty,pos,af,g⟩ Γ [] [] (λ_=>[]) (λ_=>tv (.bool (decide (a<b)))):=QdT hx hy λw=>by simp[eqGuard,binOp,Op.intCmp]
def QtZ (hx:Fct Γ x (tv (.int k a))) (hy:Fct Γ y (tv (.int k b))):OpJ P ⟨d,.binOp .leq t x y t2,ty,pos,af,g⟩ Γ [] [] (λ_=>[]) (λ_=>tv (.bool (decide (a<=b)))):=QdT hx hy λw=>by simp[eqGuard,binOp,Op.intCmp]
def QcK (hx:Fct Γ x (tv (.int k a))) (hy:Fct Γ y (tv (.int k b))):OpJ P ⟨d,.binOp .gtr t x y t2,ty,pos,af,g⟩ Γ [] [] (λ_=>[]) (λ_=>tv (.bool (decide (a>b)))):=QdT hx hy λw=>by simp[eqGuard,binOp,Op.intCmp]
def QfC (hx:Fct Γ x (tv (.int k a))) (hy:Fct Γ y (tv (.int k b))):OpJ P ⟨d,.binOp .geq t x y t2,ty,pos,af,g⟩ Γ [] [] (λ_=>[]) (λ_=>tv (.bool (decide (a>=b)))):=QdT hx hy λw=>by simp[eqGuard,binOp,Op.intCmp]
def Qau (hx:Fct Γ x (tv (.int k a))) (hy:Fct Γ y (tv (.int k b))):OpJ P ⟨d,.binOp .eql t x y t2,ty,pos,af,g⟩ Γ [] [] (λ_=>[]) (λ_=>tv (.bool (a==b))):=QdT hx hy λw=>by simp[eqGuard,binOp,Op.intCmp]
def QaI (hx:Fct Γ x (tv (.int k a))) (hy:Fct Γ y (tv (.int k b))):OpJ P ⟨d,.binOp .neq t x y t2,ty,pos,af,g⟩ Γ [] [] (λ_=>[]) (λ_=>tv (.bool (a !=b))):=QdT hx hy λw=>by simp[eqGuard,binOp,Op.intCmp]
def Qex {c:Bool} (hx:Fct Γ x (tv (.bool c))):OpJ P ⟨d,.unOp .not t x,ty,pos,af,g⟩ Γ [] [] (λ_=>[]) (λ_=>tv (.bool !c)):=QaQ λF w a he=>⟨_,by simp[execOp,hx.val (by simp[Op.operands]) he,Op.unary],rfl⟩
def Qt0 (hx:Fct Γ x (tv (.int k a))):OpJ P ⟨d,.unOp .neg t x,ty,pos,af,g⟩ Γ [] [] (λ_=>[]) (λ_=>tv (.int k (k.wrap (0 - a)))):=QaQ λF w a he=>⟨_,by simp[execOp,hx.val (by simp[Op.operands]) he,Op.unary,Op.intArith],rfl⟩
def Qlc {k':IntKind} {D:TypeDesc} (hs:P.underlying t=some D) (ht:P.underlying t2=some (.int k')) (hx:Fct Γ x (tv (.int k a))):OpJ P ⟨d,.convert t t2 x,ty,pos,af,g⟩ Γ [] [] (λ_=>[]) (λ_=>tv (.int k' (k'.wrap a))):=QaQ λF w a he=>⟨_,by simp[execOp,hx.val (by simp[Op.operands]) he,convert,run_underlying hs,run_underlying ht,Conv.intToInt],rfl⟩
def Qbo {c e:Bool} (hx:Fct Γ x (tv (.bool c))) (hy:c=false->Fct Γ y (tv (.bool e))):OpJ P ⟨d,.pick x (.const (.bool true)) y,ty,pos,af,g⟩ Γ [] [] (λ_=>[]) (λ_=>tv (.bool (c||e))):=
 QaQ λF w a he=>by
  have h1:=hx.val (by simp[Op.operands]) he
  cases c with
  | true=>exact⟨.bool true,by simp[execOp,h1,asBool,Qiu],rfl⟩
  | false=>exact⟨.bool e,by simp[execOp,h1,asBool,(hy rfl).val (by simp[Op.operands]) he],rfl⟩
def Qby {c e:Bool} (hx:Fct Γ x (tv (.bool c))) (hy:c=true->Fct Γ y (tv (.bool e))):OpJ P ⟨d,.pick x y (.const (.bool false)),ty,pos,af,g⟩ Γ [] [] (λ_=>[]) (λ_=>tv (.bool (c&&e))):=
 QaQ λF w a he=>by
  have h1:=hx.val (by simp[Op.operands]) he
  cases c with
  | false=>exact⟨.bool false,by simp[execOp,h1,asBool,Qiu],rfl⟩
  | true=>exact⟨.bool e,by simp[execOp,h1,asBool,(hy rfl).val (by simp[Op.operands]) he],rfl⟩
def QQ {Ts:List Ty} {i:Nat} (hx:Fct Γ x (ttup Ts)) (hT:Ts[i]?=some T):OpJ P ⟨d,.extract x i,ty,pos,af,g⟩ Γ [] [] (λ_=>[]) (λ_=>T):=
 QaQ λF w a he=>by
  obtain⟨us,hv,hl,hc⟩:=hx.use (by simp[Op.operands]) he;have hi:i<us.length:=by rw[hl];exact (Zc.1 hT).1
  exact⟨us[i],by simp[execOp,hv,Instr.extract,hi],hc i T _ hT (Zf hi)⟩
end
def idx {α:Type} (xs:List α) (i:Int):Option α:=if 0<=i then xs[i.toNat]? else none
def rm (n:Nat):Option Unit:=if n<=68719476736 then some () else none
def sub {α:Type} (xs:List α) (lo hi:Int):Option (List α):=if 0<=lo/\lo<=hi/\hi<=xs.length then some ((xs.drop lo.toNat).take (hi.toNat - lo.toNat)) else none
def mk {α:Type} (n:Int) (z:α):Option (List α):=if 0<=n/\n<=68719476736 then some (replicate n.toNat z) else none
def setAt {α:Type} (xs:List α) (i:Int) (x:α):Option (List α):=if 0<=i/\i<xs.length then some (xs.set i.toNat x) else none
def imax (a b:Int):Int:=if b>a then b else a
def imin (a b:Int):Int:=if b<a then b else a
def nz (b:Int):Option Unit:=if b≠0 then some () else none
def Qbb (b off n:Nat):(⟨b,off,none⟩:Addr).add n=⟨b,off+n,none⟩:=by unfold Addr.add;split<;>simp_all
def QaF {α:Type} (R:Rep α) (xs:List α):(xs.flatMap R.cs).length=xs.length * R.n:=by
 induction xs with
 | nil=>simp
 | cons x xs ih=>simp[flatMap_cons,ih,R.len,Nat.add_mul,Nat.add_comm]
def Qek {α:Type} (R:Rep α):∀(xs:List α) (i j:Nat) (x:α),xs[i]?=some x->j<R.n->(xs.flatMap R.cs)[i * R.n+j]?=(R.cs x)[j]?:=by
 intro xs
 induction xs with
 | nil=>intro i j x h;simp at h
 | cons y xs ih=>
  intro i j x h hj;rw[flatMap_cons]
  cases i with
  | zero=>simp at h;subst h;rw[Nat.zero_mul,Nat.zero_add,ZD (by rw[R.len];exact hj)]
  | succ i=>
   have h':xs[i]?=some x:=by simpa using h
   rw[Zv (by rw[R.len,Nat.add_mul];omega),R.len];have e:(i+1) * R.n+j - R.n=i * R.n+j:=by rw[Nat.add_mul];omega
   rw[e];exact ih i j x h' hj
def QqL {F:Blk} {w:World} {b:Nat}:∀(Ts:List Ty) (off:Nat),Row Ts F w b off->∃us,QW Ts F w us/\∀j u,us[j]?=some u->w.cell? ⟨b,off+j,none⟩=some u:=by
 intro Ts
 induction Ts with
 | nil=>intro off _;exact⟨[],⟨rfl,λj T u h=>by simp at h⟩,λj u h=>by simp at h⟩
 | cons T Ts ih=>
  intro off h;obtain⟨u,hu,hT⟩:=h 0 T rfl;obtain⟨us,hc,hr⟩:=ih (off+1) (λj T' hj=>by obtain⟨u,hu,ht⟩:=h (j+1) T' (by simpa using hj);exact⟨u,by rw[<-hu];congr 2;omega,ht⟩);refine⟨u::us,⟨by simp[hc.1],?_⟩,?_⟩
  ·intro j T' u' hT' hu'
   cases j with
   | zero=>simp at hT' hu';subst hT';subst hu';exact hT
   | succ j=>exact hc.2 j T' u' (by simpa using hT') (by simpa using hu')
  ·intro j u' hu'
   cases j with
   | zero=>simp at hu';subst hu';simpa using hu
   | succ j=>rw[<-hr j u' (by simpa using hu')];congr 2;omega
def Row.part {Ts:List Ty} {F:Blk} {w:World} {b off:Nat} (h:Row Ts F w b off) (m:Nat):Row (Ts.drop m) F w b (off+m):=by intro j T hj;rw[getElem?_drop] at hj;obtain⟨u,hu,ht⟩:=h (m+j) T hj;exact⟨u,by rw[<-hu];congr 2;omega,ht⟩
def Row.head {Ts Us:List Ty} {F:Blk} {w:World} {b off:Nat} (h:Row Ts F w b off) (hU:Us=Ts.take Us.length):Row Us F w b off:=by
 intro j T hj;refine h j T ?_;rw[hU,getElem?_take] at hj;split at hj
 ·exact hj
 ·cases hj
def Row.elem {α:Type} {R:Rep α} {xs:List α} {F:Blk} {w:World} {b off i:Nat} {x:α} (h:Row (xs.flatMap R.cs) F w b off) (hx:xs[i]?=some x):Row (R.cs x) F w b (off+i * R.n):=by
 intro j T hj;have hjn:j<R.n:=by rw[<-R.len x];exact (Zc.1 hj).1
 obtain⟨u,hu,ht⟩:=h (i * R.n+j) T (by rw[Qek R xs i j x hx hjn];exact hj);exact⟨u,by rw[<-hu];congr 2;omega,ht⟩
def QrQ {α:Type} {R:Rep α} {x:α} {F:Blk} {w:World} {us:List Value} (h:QW (R.cs x) F w us):(R.agg=true->(R.ty x).ok F w (.agg us.toArray))/\(R.agg=false->∃u,us=[u]/\(R.ty x).ok F w u):=by
 constructor
 ·intro ha;unfold Rep.ty;rw[ha];exact⟨us,rfl,h⟩
 ·intro ha;have hn:=R.sz ha;have hl:=R.len x;rw[hn] at hl;have hu:=h.1;rw[hl] at hu
  match us,hu with
  | [u],_=>
   refine⟨u,rfl,?_⟩;unfold Rep.ty;rw[ha]
   match hc:R.cs x,hl with
   | [T],_=>rw[hc] at h;exact h.2 0 T u rfl rfl
def Qcn {α:Type} {R:Rep α} {x:α} {F:Blk} {w:World} {v:Value} (h:(R.ty x).ok F w v):QW (R.cs x) F w v.cells.toList/\(∀u∈v.cells.toList,u.oneCell'=true)/\v.cells.size=R.n:=by
 have key:QW (R.cs x) F w v.cells.toList:=by
  unfold Rep.ty at h
  cases ha:R.agg with
  | true=>rw[ha] at h;obtain⟨us,hv,hc⟩:=h;subst hv;simpa[Value.cells] using hc
  | false=>
   rw[ha] at h;have hl:=R.len x;rw[R.sz ha] at hl
   match hc:R.cs x,hl with
   | [T],_=>
    rw[hc] at h;have h':T.ok F w v:=h;have h1:v.oneCell'=true:=R.one x T (by rw[hc];simp) F w v h';have e:v.cells.toList=[v]:=by cases v<;>simp_all[Value.cells,Value.oneCell']
    rw[e];refine⟨rfl,λj T' u hT hu=>?_⟩
    cases j with
    | zero=>simp at hT hu;subst hT;subst hu;exact h'
    | succ j=>simp at hT
 refine⟨key,λu hu=>?_,?_⟩
 ·obtain⟨j,hj⟩:=ZV.1 hu;have hlt:j<(R.cs x).length:=by rw[<-key.1];exact (Zc.1 hj).1
  exact R.one x _ (Zn hlt) F w u (key.2 j _ u (Zf hlt) hj)
 ·have:=key.1;rw[R.len] at this;simpa using this
section
variable {Γ:List (Nat×Ty)} {P:Program} {d:Option Tmp} {ty:TypeId} {pos:String} {af:Array Edge} {g:Option (Nat×Bool)} {x y:Operand} {T:Ty} {t e:TypeId} {α:Type} {R:Rep α} {bytes:Nat} {z:Value}
def Q1 {xs:List α} (ht:P.underlying t=some (.slice e)) (hx:Fct Γ x (tsl R xs)):OpJ P ⟨d,.call { callee:=.builtin .len,args:=#[x],argTypes:=#[t] },ty,pos,af,g⟩ Γ [] [] (λ_=>[]) (λ_=>tv (.int .i64 xs.length)):=QaQ λF w a he=>by obtain⟨ad,cap,hv,_⟩:=hx.use (by simp[Op.operands,Call.operands]) he;exact⟨_,by simp[execOp,resolve,invoke,builtin,Builtin.len_,run_underlying ht,hv,goInt],rfl⟩
def Qw3 {xs:List α} {v:Value} {F:Blk} {w:World} (h:(own R e xs v).ok F w):∃ad cap,v=.slice ad xs.length cap:=by
 obtain⟨us,ho,_⟩:=h;rcases ho.2 with⟨hv,hn⟩ | ⟨gg,cap,cur,hv,_⟩
 ·exact⟨none,0,by rw[hv,hn]⟩
 ·exact⟨_,cap,hv⟩
def Qdn {xs:List α} {v:Value} {e':TypeId} (ht:P.underlying t=some (.slice e)) (hx:Fct Γ x (tv v)):OpJ P ⟨d,.call { callee:=.builtin .len,args:=#[x],argTypes:=#[t] },ty,pos,af,g⟩ Γ [own R e' xs v] [] (λ_=>[]) (λ_=>tv (.int .i64 xs.length)):=Qcq λM w a hU he=>by obtain⟨ad,cap,hv⟩:=Qw3 (hU _ (Zg.2 rfl));have:=hx.val (by simp[Op.operands,Call.operands]) he;exact⟨_,by simp[execOp,resolve,invoke,builtin,Builtin.len_,run_underlying ht,this,hv,goInt],rfl⟩
def Qw4 {s:ByteArray} (ht:P.underlying t=some .string) (hx:Fct Γ x (tv (.string s))):OpJ P ⟨d,.call { callee:=.builtin .len,args:=#[x],argTypes:=#[t] },ty,pos,af,g⟩ Γ [] [] (λ_=>[]) (λ_=>tv (.int .i64 s.size)):=QaQ λF w a he=>by have:=hx.val (by simp[Op.operands,Call.operands]) he;exact⟨_,by simp[execOp,resolve,invoke,builtin,Builtin.len_,run_underlying ht,this,goInt],rfl⟩
def Qpz {i:Int} {k:IntKind} {ad:Option Addr} {len cap b off:Nat} (ht:P.underlying t=some (.slice e)) (hz:TOk P e R bytes z) (w:World) (ha:ad=some ⟨b,off,none⟩) (h0:0<=i) (h1:i<len):
  (Instr.indexAt t (.slice ad len cap) (.int k i)).run P w=.ok (.pointer (some ⟨b,off+i.toNat * R.n,none⟩)) w:=by
 obtain⟨ti,hti,_,hs,_⟩:=hz.info;simp[Instr.indexAt,run_underlying ht,asIntOf,ha,h0,h1,sizeOf,typeInfo,hti,hs,Qbb]
def QA {xs:List α} {i:Int} {k:IntKind} {u:α} (ht:P.underlying t=some (.slice e)) (hz:TOk P e R bytes z) (hx:Fct Γ x (tsl R xs)) (hi:Fct Γ y (tv (.int k i))) (h:idx xs i=some u):
  OpJ P ⟨d,.indexAddr t x y,ty,pos,af,g⟩ Γ [] [] (λ_=>[]) (λ_=>tptr (R.cs u)):=
 QaQ λF w a he=>by
  obtain⟨ad,cap,hv,_,hr⟩:=hx.use (by simp[Op.operands]) he;have h2:=hi.val (by simp[Op.operands]) he;unfold idx at h;split at h
  ·rename_i h0;have hlt:i.toNat<xs.length:=(Zc.1 h).1;obtain⟨b,off,ha,hb,hrow⟩:=hr (λhn=>by rw[hn] at hlt;simp at hlt);refine⟨_,?_,b,off+i.toNat * R.n,rfl,hb,hrow.elem h⟩;simp only[execOp,hv,h2,Sem.run_bind,Qpz ht hz w ha h0 (show i<(xs.length:Int) by omega),Zj,Sem.run_pure]
  ·cases h
def QaX (v:Value) (m:Nat):Value:=match v with | .slice (some a) _ _=>.pointer (some (a.add m)) | _=>.pointer none
def padd (v:Value) (m:Nat):Value:=match v with | .pointer (some a)=>.pointer (some (a.add m)) | _=>.pointer none
def QpA {xs:List α} {v:Value} {e':TypeId} {i:Int} {k:IntKind} (ht:P.underlying t=some (.slice e)) (hz:TOk P e R bytes z) (hx:Fct Γ x (tv v)) (hi:Fct Γ y (tv (.int k i))) (h0:0<=i) (h1:i<xs.length):
  OpJ P ⟨d,.indexAddr t x y,ty,pos,af,g⟩ Γ [own R e' xs v] [] (λ_=>[]) (λ_=>tv (QaX v (i.toNat * R.n))):=
 Qcq λM w a hU he=>by
  have hv:=hx.val (by simp[Op.operands]) he;have h2:=hi.val (by simp[Op.operands]) he;obtain⟨us,ho,_⟩:=hU _ (Zg.2 rfl);rcases ho.2 with⟨_,hn⟩ | ⟨gg,cap,cur,hvv,_⟩
  ·omega
  ·refine⟨_,?_,rfl⟩;subst hvv;simp only[execOp,hv,h2,Sem.run_bind,Qpz ht hz w rfl h0 h1,Zj,Sem.run_pure,QaX,Qbb]
def Qf3 {b off:Nat} {F:Blk} {w:World} {u:α} (hz:TOk P t R bytes z) (hr:Row (R.cs u) F w b off):∃v,(Instr.loadAt t (.pointer (some ⟨b,off,none⟩))).run P w=.ok v w/\(R.ty u).ok F w v:=by
 obtain⟨D,hD,hag⟩:=hz.d;obtain⟨ti,hti,_,hs,_⟩:=hz.info;obtain⟨us,hc,hcell⟩:=QqL _ _ hr;have hlen:us.length=R.n:=by rw[hc.1,R.len]
 obtain⟨hA,hB⟩:=QrQ hc
 cases ha:R.agg with
 | true=>
  refine⟨.agg us.toArray,?_,hA ha⟩;rw[ha] at hag;have hl:=run_loadCells_list (P:=P) w ⟨b,off,none⟩ us (λj v hj=>by rw[Qbb];exact hcell j v hj);rw[hlen] at hl
  cases D<;>first
   | (simp[QqK] at hag;done)
   | simp[Instr.loadAt,Instr.sureAddr,loadVar,isAgg,run_underlying hD,sizeOf,typeInfo,hti,hs,hl]
 | false=>
  obtain⟨u1,hus,hty⟩:=hB ha;refine⟨u1,?_,hty⟩;rw[ha] at hag;have hl:w.cell? ⟨b,off,none⟩=some u1:=by simpa using hcell 0 u1 (by simp[hus])
  cases D<;>first
   | (simp[QqK] at hag;done)
   | simp[Instr.loadAt,Instr.sureAddr,loadVar,isAgg,run_underlying hD,hl]
def Qw {u:α} (hz:TOk P t R bytes z) (hp:Fct Γ x (tptr (R.cs u))):OpJ P ⟨d,.load t x,ty,pos,af,g⟩ Γ [] [] (λ_=>[]) (λ_=>R.ty u):=QaQ λF w a he=>by obtain⟨b,off,hv,_,hr⟩:=hp.use (by simp[Op.operands]) he;obtain⟨v,hrun,hty⟩:=Qf3 hz hr;exact⟨v,by simp only[execOp,hv,Sem.run_bind,hrun,Zj,Sem.run_pure],hty⟩
def Qf {u:α} {Ts:List Ty} (hz:TOk P t R bytes z) (hp:Fct Γ x (tptr Ts)) (h:R.cs u=Ts.take (R.cs u).length):OpJ P ⟨d,.load t x,ty,pos,af,g⟩ Γ [] [] (λ_=>[]) (λ_=>R.ty u):=Qw hz (hp.Xn λ_ _ _ ⟨b,off,hv,hb,hr⟩=>⟨b,off,hv,hb,hr.head h⟩)
def QI (P:Program) (s:TypeId) (f off:Nat):Prop:=∃fs fd i,P.underlying s=some (.struct fs)/\fs[f]?=some fd/\fd.offset=off/\P.info? fd.type=some i/\i.size≠0
def QkZ {s:TypeId} {f off b o:Nat} (hf:QI P s f off) (w:World):(Instr.fieldAt s (.pointer (some ⟨b,o,none⟩)) f).run P w=.ok (.pointer (some ⟨b,o+off,none⟩)) w:=by obtain⟨fs,fd,i,h1,h2,h3,h4,h5⟩:=hf;simp[Instr.fieldAt,run_underlying h1,h2,Instr.sureAddr,fieldPlace,sizeOf,typeInfo,h4,h5,h3,Qbb]
def Qg {s:TypeId} {f off:Nat} {Ts:List Ty} (hf:QI P s f off) (hp:Fct Γ x (tptr Ts)):OpJ P ⟨d,.fieldAddr s x f,ty,pos,af,g⟩ Γ [] [] (λ_=>[]) (λ_=>tptr (Ts.drop off)):=QaQ λF w a he=>by obtain⟨b,o,hv,hb,hr⟩:=hp.use (by simp[Op.operands]) he;exact⟨_,by simp only[execOp,hv,Sem.run_bind,QkZ hf,Zj,Sem.run_pure],b,o+off,rfl,hb,hr.part off⟩
def QC {s:TypeId} {f off:Nat} {Ts:List Ty} {q:Value} (hf:QI P s f off) (hp:Fct Γ x (tv q)):OpJ P ⟨d,.fieldAddr s x f,ty,pos,af,g⟩ Γ [box Ts q] [] (λ_=>[]) (λ_=>tv (padd q off)):=Qcq λM w a hU he=>by have hv:=hp.val (by simp[Op.operands]) he;obtain⟨b,cur,e,hq,_⟩:=hU _ (Zg.2 rfl);subst hq;exact⟨_,by simp only[execOp,hv,Sem.run_bind,QkZ hf,Zj,Sem.run_pure,padd,Qbb],rfl⟩
def QjX {Ts:List Ty} {q:Value} {F:Blk} {w:World} (h:(box Ts q).ok F w):∃b,q=.pointer (some ⟨b,0,none⟩)/\Row Ts F w b 0:=by
 obtain⟨b,cur,e,hq,hb,hc,_⟩:=h;refine⟨b,hq,λj T hj=>?_⟩;have hlt:j<cur.toList.length:=by rw[hc.1];exact (Zc.1 hj).1
 refine⟨cur.toList[j],?_,hc.2 j T _ hj (Zf hlt)⟩;have:j<cur.size:=by simpa using hlt
 simp[World.cell?,hb,this]
def Qbm {u:α} {Ts:List Ty} {q:Value} (hz:TOk P t R bytes z) (hp:Fct Γ x (tv q)) (h:R.cs u=Ts.take (R.cs u).length):OpJ P ⟨d,.load t x,ty,pos,af,g⟩ Γ [box Ts q] [] (λ_=>[]) (λ_=>R.ty u):=Qcq λM w a hU he=>by have hv:=hp.val (by simp[Op.operands]) he;obtain⟨b,hq,hr⟩:=QjX (hU _ (Zg.2 rfl));subst hq;obtain⟨v,hrun,hty⟩:=Qf3 hz (hr.head h);exact⟨v,by simp only[execOp,hv,Sem.run_bind,hrun,Zj,Sem.run_pure],hty⟩
def QaY {u:α} {Ts:List Ty} {q:Value} {off:Nat} (hz:TOk P t R bytes z) (hp:Fct Γ x (tv (padd q off))) (h:R.cs u=(Ts.drop off).take (R.cs u).length):OpJ P ⟨d,.load t x,ty,pos,af,g⟩ Γ [box Ts q] [] (λ_=>[]) (λ_=>R.ty u):=Qcq λM w a hU he=>by have hv:=hp.val (by simp[Op.operands]) he;obtain⟨b,hq,hr⟩:=QjX (hU _ (Zg.2 rfl));subst hq;obtain⟨v,hrun,hty⟩:=Qf3 hz ((hr.part off).head h);exact⟨v,by simp only[execOp,hv,padd,Qbb,Sem.run_bind,hrun,Zj,Sem.run_pure],hty⟩
def Qw5 {w:World} {us:List Value} {Ts:List Ty} {F:Blk} {e:TypeId} (hc:QW Ts F w us) (h1:∀u∈us,u.oneCell'=true) (hF:∀k,F k->k<w.heap.size) {F':Blk} (hFF:∀k,F k->F' k):
  (box Ts (.pointer (some ⟨w.heap.size,0,none⟩))).ok F' (w.alloc (.cells us.toArray e)):=by
 refine⟨w.heap.size,us.toArray,e,rfl,heap_alloc_new w _,?_,by simpa using h1⟩;simpa using hc.keep hFF (λk hk=>Go.RowKit.Below.heap_alloc w _ k (hF k hk))
def QqM {w:World} {us:List Value} {Ts:List Ty} {M:Blk} {e:TypeId} (hc:QW Ts (free M w) w us) (h1:∀u∈us,u.oneCell'=true):
  Made M [] [box Ts (.pointer (some ⟨w.heap.size,0,none⟩))] w (w.alloc (.cells us.toArray e)):=by
 refine QbQ (λk hk=>?_) (Qw5 hc h1 (λk hk=>hk.1) λk hk=>?_)
 ·cases hk;exact⟨.inr (Zp _),by simp⟩
 ·refine QcF (by simp) (λj h=>(by rw[Qej] at h;exact h.elim)) (λA hA j hj=>?_) hk;obtain rfl:=Zg.1 hA;cases hj;exact .inr (Zp _)
def Qn4 {u:α} (hx:Fct Γ x (R.ty u)):OpJ P ⟨d,.box t x,ty,pos,af,g⟩ Γ [] [] (λp=>[box (R.cs u) p]) (λp=>tv p):=by
 intro M w a hM _ _ _ _ he;have hty:=hx.use (by simp[Op.operands]) he;obtain⟨hc,h1,_⟩:=Qcn hty;have hr:(execOp a.eval (⟨d,.box t x,ty,pos,af,g⟩:Oper)).run P w=.ok (.value (.pointer (some ⟨w.heap.size,0,none⟩))) (w.alloc (.cells (a.eval x).cells t)):=by simp[execOp,Instr.box,newVar,newRow]
 simp only[Does,hr];refine⟨.pointer (some ⟨w.heap.size,0,none⟩),(Step.alloc w _).mono (λ_ h=>h.elim),?_,rfl⟩;have:=QqM (e:=t) hc h1;simpa using this
def Q9 {u:α} (hx:Fct Γ x (R.ty u)):OpJ P ⟨d,.box t x,ty,pos,af,g⟩ Γ [] [] (λ_=>[]) (λ_=>tptr (R.cs u)):=
 Qm5 λF w a hF he=>by
  have hty:=hx.use (by simp[Op.operands]) he;obtain⟨hc,_,_⟩:=Qcn hty;refine⟨.pointer (some ⟨w.heap.size,0,none⟩),w.alloc (.cells (a.eval x).cells t),by simp[execOp,Instr.box,newVar,newRow],Step.alloc w _,λF' h1 h2=>?_⟩;refine⟨w.heap.size,0,rfl,h2 _ (Zp _) (by simp),λj T hj=>?_⟩;have hlt:j<(a.eval x).cells.toList.length:=by rw[hc.1];exact (Zc.1 hj).1
  have hlt':j<(a.eval x).cells.size:=by simpa using hlt
  refine⟨(a.eval x).cells[j],?_,?_⟩
  ·rw[Nat.zero_add,World.cell?_alloc_new];exact Array.getElem?_eq_getElem hlt'
  ·exact T.keep h1 (λk hk=>Go.RowKit.Below.heap_alloc w _ k (hF k hk)) (hc.2 j T _ hj (by simp[hlt']))
end
def splice {β:Type} (l:List β) (off:Nat) (m:List β):List β:=l.take off++m++l.drop (off+m.length)
def Qf4 {β:Type} (l m:List β) (off:Nat) (h:off+m.length<=l.length):(splice l off m).length=l.length:=by simp[splice];omega
def Qb3 {β:Type} (l m:List β) (off j:Nat) (h:off+m.length<=l.length):(splice l off m)[j]?=if off<=j/\j<off+m.length then m[j - off]? else l[j]?:=by
 unfold splice;by_cases h1:j<off
 ·rw[Zb (by omega),ZC,ZD (by simp;omega),getElem?_take,Ze h1]
 ·by_cases h2:j<off+m.length
  ·rw[Ze (by omega),ZC,Zv (by simp;omega),ZE,ZD (by omega)];congr 1;omega
  ·rw[Zb (by omega),Zv (by simp;omega),getElem?_drop];congr 1;simp;omega
def QW.splice {Ts Us:List Ty} {F:Blk} {w:World} {us vs:List Value} {off:Nat} (h:QW Ts F w us) (k:QW Us F w vs) (hl:off+Us.length<=Ts.length):QW (splice Ts off Us) F w (Sim.splice us off vs):=by
 have e1:=h.1;have e2:=k.1;refine⟨by rw[Qf4 _ _ _ (by omega),Qf4 _ _ _ hl,e1],λj T u hT hu=>?_⟩;rw[Qb3 _ _ _ _ hl] at hT;rw[Qb3 _ _ _ _ (by omega),e2] at hu;split at hT
 ·rename_i hc;rw[Ze hc] at hu;exact k.2 _ T u hT hu
 ·rename_i hc;rw[Zb hc] at hu;exact h.2 j T u hT hu
def QpB:∀(vs:List Value) (i off:Nat) (cs:Array Value),off+i+vs.length<=cs.size->((vs.zipIdx i).foldl (λcs p=>cs.setIfInBounds (off+p.2) p.1) cs).toList=splice cs.toList (off+i) vs:=by
 intro vs
 induction vs with
 | nil=>intro i off cs _;simp[splice]
 | cons v vs ih=>
  intro i off cs h;simp only[zipIdx_cons,foldl_cons];have hl:off+i+(vs.length+1)<=cs.size:=by simpa using h
  rw[ih (i+1) off _ (by simp;omega)];apply ext_getElem?;intro j;rw[Qb3 _ _ _ _ (by simp;omega),Qb3 _ _ _ _ (by simp;omega)];simp only[Array.toList_setIfInBounds,Zi,getElem?_set,Array.length_toList];by_cases h1:j=off+i
  ·subst h1;rw[Zb (by omega),Ze rfl,Ze (by omega),Ze (by omega)];simp
  ·by_cases h2:off+i<=j/\j<off+i+(vs.length+1)
   ·rw[Ze (by omega),Ze h2];have:j - (off+i)=j - (off+(i+1))+1:=by omega
    rw[this];simp
   ·rw[Zb (by omega),Zb h2,Zb (by omega)]
section
variable {Γ:List (Nat×Ty)} {P:Program} {d:Option Tmp} {ty:TypeId} {pos:String} {af:Array Edge} {g:Option (Nat×Bool)} {x y:Operand} {T:Ty} {t e:TypeId} {α:Type} {R:Rep α} {bytes:Nat} {z:Value}
def Qk0 {u:α} {F:Blk} {w:World} {b off:Nat} {cur:Array Value} {v:Value} (hz:TOk P t R bytes z) (hv:(R.ty u).ok F w v) (hb:w.heap[b]?=some (.cells cur e (0,0))) (hl:off+R.n<=cur.size):
  (Instr.storeAt t (.pointer (some ⟨b,off,none⟩)) v).run P w=.ok () (w.setRow b (splice cur.toList off v.cells.toList).toArray):=by
 obtain⟨ti,hti,_,hs,_⟩:=hz.info;obtain⟨_,h1,hn⟩:=Qcn hv;have hlen:v.cells.toList.length=R.n:=by simpa using hn
 have hst:=run_storeCells_at P b off e v.cells.toList 0 cur w hb (by rw[hlen];omega) h1;simp only[Nat.add_zero] at hst;simp[Instr.storeAt,Instr.sureAddr,storeVar,sizeOf,typeInfo,hti,hs,hn,hst,splice]
def Qfo {w:World} {b:Nat} {cs:Array Value} {B:Blk} (hB:B b):Step B w (w.setRow b cs):=⟨rfl,rfl,rfl,by simp,λk _ hk=>setRow_other w b k cs (λe=>hk (e▸hB))⟩
def Qn5 {us vs:List Value} {off:Nat} (h:∀u∈us,u.oneCell'=true) (k:∀u∈vs,u.oneCell'=true):∀u∈splice us off vs,u.oneCell'=true:=by
 intro u hu;unfold splice at hu;simp only[ZH] at hu;rcases hu with (hu | hu) | hu
 ·exact h u (mem_of_mem_take hu)
 ·exact k u hu
 ·exact h u (mem_of_mem_drop hu)
def QW.Xq {Ts:List Ty} {F F':Blk} {w w':World} {us:List Value} (h:QW Ts F w us) (hF:∀k,F k->F' k) (hh:∀k,F k->w'.heap[k]?=w.heap[k]?):QW Ts F' w' us:=QW.keep hF hh h
def Qn6 {Ts:List Ty} {b k:Nat}:(box Ts (.pointer (some ⟨b,0,none⟩))).fp k↔k=b:=by
 show Value.pointer (some ⟨b,0,none⟩)=.pointer (some ⟨k,0,none⟩)↔k=b;constructor
 ·intro h;simp at h;exact h.symm
 ·rintro rfl;rfl
def QpC {a:α} {Ts:List Ty} {q:Value} {off:Nat} (hz:TOk P t R bytes z) (hp:∀F w b A,Qi7 Γ (⟨d,.store t x y,ty,pos,af,g⟩:Oper).op.operands F w A->q=.pointer (some ⟨b,0,none⟩)->A.eval x=.pointer (some ⟨b,off,none⟩))
  (hx:Fct Γ y (R.ty a)) (hl:off+R.n<=Ts.length):OpJ P ⟨d,.store t x y,ty,pos,af,g⟩ Γ [] [box Ts q] (λ_=>[box (splice Ts off (R.cs a)) q]) (λ_=>tany):=by
 intro M w A hM _ hE _ _ he;obtain⟨⟨b,cur,e,hq,hb,hc,h1⟩,hfp⟩:=hE _ (Zg.2 rfl);have hgiv:=QdA hE;have hv:=hx.use (by simp[Op.operands]) he;have hpv:=hp _ _ b A he hq;have hsz:cur.size=Ts.length:=by simpa using hc.1
 have hr:(execOp A.eval (⟨d,.store t x y,ty,pos,af,g⟩:Oper)).run P w=.ok .skip (w.setRow b (splice cur.toList off (A.eval y).cells.toList).toArray):=by have hrs:=Qk0 (off:=off) hz hv hb (by omega);simp only[execOp,hpv,Sem.run_bind,hrs,Zj,Sem.run_pure]
 simp only[Does,hr];have heat:∀k,Qay [box Ts q] k↔k=b:=by intro k;rw[Qak,hq,Qn6]
 have hfpb:∀{Us:List Ty} k,(box Us q).fp k↔k=b:=by intro Us k;rw[hq,Qn6]
 refine⟨undef,Qfo ((heat b).2 rfl),QbQ (λk hk=>?_) ?_,trivial⟩
 ·have hk:=(hfpb k).1 hk;subst hk;refine⟨.inl ((heat _).2 rfl),?_⟩;have:=(Array.getElem?_eq_some_iff.1 hb).1;simpa using this
 ·obtain⟨hcv,h1v,_⟩:=Qcn hv;refine⟨b,_,e,hq,setRow_heap w b cur _ e _ hb,?_,?_⟩
  ·have hcs:=(hc.splice (off:=off) hcv (by rw[R.len];exact hl));simp only;refine hcs.Xq ?_ ?_
   ·intro k hk;refine QcF (by simp) hgiv (λB hB j hj=>?_) hk;obtain rfl:=Zg.1 hB;exact .inl ((heat j).2 ((hfpb j).1 hj))
   ·rintro k ⟨h2,h3⟩;exact setRow_other w b k _ (λe=>h3 (hgiv k ((heat k).2 e)))
  ·simpa using Qn5 (off:=off) h1 h1v
def QG {a:α} {Ts:List Ty} {q:Value} (hz:TOk P t R bytes z) (hp:Fct Γ x (tv q)) (hx:Fct Γ y (R.ty a)) (hl:R.n<=Ts.length):
  OpJ P ⟨d,.store t x y,ty,pos,af,g⟩ Γ [] [box Ts q] (λ_=>[box (splice Ts 0 (R.cs a)) q]) (λ_=>tany):=
 QpC hz (λ_ _ _ _ he hq=>(hp.val (by simp[Op.operands]) he).trans hq) hx (by omega)
def QaL {a:α} {Ts:List Ty} {q:Value} {off:Nat} (hz:TOk P t R bytes z) (hp:Fct Γ x (tv (padd q off))) (hx:Fct Γ y (R.ty a)) (hl:off+R.n<=Ts.length):
  OpJ P ⟨d,.store t x y,ty,pos,af,g⟩ Γ [] [box Ts q] (λ_=>[box (splice Ts off (R.cs a)) q]) (λ_=>tany):=
 QpC hz (λ_ _ b _ he hq=>by rw[hp.val (by simp[Op.operands]) he,hq];simp[padd,Qbb]) hx hl
def QV {a:α} (hz:TOk P t R bytes z) (h0:∀F w,(R.ty a).ok F w z):OpJ P ⟨d,.alloc t,ty,pos,af,g⟩ Γ [] [] (λp=>[box (R.cs a) p]) (λp=>tv p):=by
 intro M w A hM _ _ _ _ _;obtain⟨ti,hti,hzz,hs,_⟩:=hz.info;obtain⟨hc,h1,_⟩:=Qcn (h0 (free M w) w);have hr:(execOp A.eval (⟨d,.alloc t,ty,pos,af,g⟩:Oper)).run P w=.ok (.value (.pointer (some ⟨w.heap.size,0,none⟩))) (w.alloc (.cells z.cells t)):=by simp[execOp,Instr.alloc,zeroValue,typeInfo,hti,hzz,newVar,newRow]
 simp only[Does,hr];refine⟨.pointer (some ⟨w.heap.size,0,none⟩),(Step.alloc w _).mono (λ_ h=>h.elim),?_,rfl⟩;have:=QqM (e:=t) hc h1;simpa using this
inductive QhZ (Γ:List (Nat×Ty)) (R:Rep α):Nat->List (Nat×Operand)->List α->Prop where
 | nil (i:Nat):QhZ Γ R i [] []
 | cons {i:Nat} {x:Operand} {u:α} {ps:List (Nat×Operand)} {us:List α} (h:Fct Γ x (R.ty u)) (hs:QhZ Γ R (i+1) ps us):QhZ Γ R i ((i,x)::ps) (u::us)
def QhZ.length {i:Nat} {ps:List (Nat×Operand)} {us:List α} (h:QhZ Γ R i ps us):ps.length=us.length:=by
 induction h with
 | nil=>rfl
 | cons _ _ ih=>simp[ih]
def Qn7 {F:Blk} {w:World} {A:Act} {i:Nat} {ps:List (Nat×Operand)} {us:List α} (h:QhZ Γ R i ps us) (he:∀p∈Γ,(∃q∈ps,Operand.tmp p.1=q.2)->p.2.ok F w (get A p.1)):
  ∀cs:Array Value,(i+us.length) * R.n<=cs.size->∃vs,QW (us.flatMap R.cs) F w vs/\(∀u∈vs,u.oneCell'=true)/\∃cs',Instr.fill (λi=>some (i * R.n,R.n)) cs (ps.map λp=>(p.1,A.eval p.2))=some cs'/\cs'.toList=splice cs.toList (i * R.n) vs:=by
 induction h with
 | nil i=>intro cs _;exact⟨[],⟨rfl,λj T u h=>by simp at h⟩,λu h=>by simp at h,cs,rfl,by simp[splice]⟩
 | @cons i x u0 ps us hx hs ih=>
  intro cs hl;have hv:=hx F w A (λp hp hpx=>he p hp ⟨(i,x),by simp,hpx⟩);obtain⟨hc,h1,hn⟩:=Qcn hv;have hmul:(i+(us.length+1)) * R.n=i * R.n+(us.length * R.n+R.n):=by rw[Nat.add_mul,Nat.add_mul];omega
  have hmul2:(i+1+us.length) * R.n=i * R.n+(us.length * R.n+R.n):=by rw[Nat.add_mul,Nat.add_mul];omega
  have hmul3:(i+1) * R.n=i * R.n+R.n:=by rw[Nat.add_mul];omega
  simp only[Zi] at hl;have hvl:(A.eval x).cells.toList.length=R.n:=by simpa using hn
  have hfs:=QpB (A.eval x).cells.toList 0 (i * R.n) cs (by rw[hvl];omega);obtain⟨vs,hcv,h1v,cs',hf,hcs'⟩:=ih (λp hp ⟨q,hq,e⟩=>he p hp ⟨q,by simp[hq],e⟩) ((A.eval x).cells.zipIdx.foldl (λcs p=>cs.setIfInBounds (i * R.n+p.2) p.1) cs) (by
   have:((A.eval x).cells.zipIdx.foldl (λcs p=>cs.setIfInBounds (i * R.n+p.2) p.1) cs).size=cs.size:=by rw[<-Array.length_toList,<-Array.foldl_toList,Array.toList_zipIdx,hfs,Qf4 _ _ _ (by simp;omega)];simp
   rw[this];omega)
  refine⟨(A.eval x).cells.toList++vs,?_,?_,cs',?_,?_⟩
  ·rw[flatMap_cons];refine⟨by simp[hc.1,hcv.1],λj T u hT hu=>?_⟩;have e:=hc.1;by_cases hj:j<(R.cs u0).length
   ·rw[ZD hj] at hT;rw[ZD (by omega)] at hu;exact hc.2 j T u hT hu
   ·rw[Zv (by omega)] at hT;rw[Zv (by omega),e] at hu;exact hcv.2 _ T u hT hu
  ·intro u hu;rcases ZH.1 hu with hu | hu
   ·exact h1 u hu
   ·exact h1v u hu
  ·simp only[Yf,Instr.fill,hn];rw[Zb (by simp;omega)];exact hf
  ·rw[hcs',<-Array.foldl_toList,Array.toList_zipIdx,hfs];have hvl2:vs.length=us.length * R.n:=by rw[hcv.1,QaF]
   have hcl:i * R.n+0+(A.eval x).cells.toList.length<=cs.toList.length:=by simp;omega
   apply ext_getElem?;intro j;rw[Qb3 _ _ _ _ (by rw[Qf4 _ _ _ hcl];simp;omega),Qb3 _ _ _ _ hcl,Qb3 _ _ _ _ (by simp;omega)];simp only[Zd,hvl,hvl2,hmul3];by_cases hj1:i * R.n<=j/\j<i * R.n+(R.n+us.length * R.n)
   ·by_cases hj2:j<i * R.n+R.n
    ·rw[Zb (by omega),Ze (by omega),Ze hj1,ZD (by omega)];simp
    ·rw[Ze (by omega),Ze hj1,Zv (by omega),hvl];congr 1;omega
   ·rw[Zb (by omega),Zb (by omega),Zb hj1]
def Qld {F:Blk} {w:World} {A:Act} {len:Nat} {ps:Array (Nat×Operand)} {us:List α} (ht:P.underlying t=some (.slice e)) (hz:TOk P e R bytes z) (hps:QhZ Γ R 0 ps.toList us) (hlen:us.length=len) (h24:len * R.n<=16777216)
  (he:Qi7 Γ (⟨d,.buildSlice t len ps,ty,pos,af,g⟩:Oper).op.operands F w A):∃vs,QW (us.flatMap R.cs) F w vs/\(∀u∈vs,u.oneCell'=true)/\(execOp A.eval (⟨d,.buildSlice t len ps,ty,pos,af,g⟩:Oper)).run P w=.ok (.value (.slice (some ⟨w.heap.size,0,none⟩) len len)) (w.alloc (.cells vs.toArray e)):=by
 obtain⟨ti,hti,hzz,hs,_⟩:=hz.info;obtain⟨vs,hc,h1,cs',hf,hcs⟩:=Qn7 (F:=F) (w:=w) (A:=A) hps (λp hp ⟨q,hq,e⟩=>he p hp (by simp only[Op.operands,mem_toArray,ZM];exact⟨q,hq,e.symm⟩)) (madeCells z.cells (len * R.n)) (by rw[size_madeCells,hlen];simp);have hvl:vs.length=len * R.n:=by rw[hc.1,QaF,hlen]
 have hcs2:cs'=vs.toArray:=by apply Array.toList_inj.1;rw[hcs];simp[splice,hvl,size_madeCells]
 refine⟨vs,hc,h1,?_⟩;subst hcs2;have h24':¬(16777216<len * R.n):=by omega
 have hf':Instr.fill (λi=>some (i * R.n,R.n)) (madeCells z.cells (len * R.n)) (ps.toList.map λp=>(p.1,A.eval p.2))=some vs.toArray:=hf;unfold madeCells at hf';by_cases h0:len * R.n=0
 ·have e0:(Array.range (len * R.n)).map (λx=>z.cells[x % z.cells.size]!)=#[]:=by rw[h0];simp
  rw[e0] at hf';have e1:Instr.fill (λi=>some (i * R.n,R.n)) #[] (map (λp=>(p.1,A.eval p.2)) ps.toList)=some vs.toArray:=hf';simp[execOp,Instr.buildSlice,run_underlying ht,sizeOf,typeInfo,hti,hs,h0,newRow,Array.range_zero',e1]
 ·have e1:Instr.fill (λi=>some (i * R.n,R.n)) ((Array.range (len * R.n)).map (λx=>z.cells[x % z.cells.size]!)) (map (λp=>(p.1,A.eval p.2)) ps.toList)=some vs.toArray:=hf';simp[execOp,Instr.buildSlice,run_underlying ht,sizeOf,typeInfo,hti,hs,h24',h0,newRow,zeroValue,hzz,e1]
def QpD {F F':Blk} {w:World} {us:List α} {vs:List Value} {cap:Nat} (hc:QW (us.flatMap R.cs) F w vs) (hF:∀k,F k->k<w.heap.size) (h1:∀k,F k->F' k) (h2:F' w.heap.size) (hcap:us.length<=cap):
  (tsl R us).ok F' (w.alloc (.cells vs.toArray e)) (.slice (some ⟨w.heap.size,0,none⟩) us.length cap):=by
 refine⟨_,cap,rfl,hcap,λ_=>⟨w.heap.size,0,rfl,h2,λj T hj=>?_⟩⟩;have hlt:j<vs.length:=by rw[hc.1];exact (Zc.1 hj).1
 refine⟨vs[j],?_,T.keep h1 (λk hk=>Go.RowKit.Below.heap_alloc w _ k (hF k hk)) (hc.2 j T _ hj (Zf hlt))⟩;rw[Nat.zero_add,World.cell?_alloc_new];simp[hlt]
def QK {len:Nat} {ps:Array (Nat×Operand)} {us:List α} (ht:P.underlying t=some (.slice e)) (hz:TOk P e R bytes z) (hps:QhZ Γ R 0 ps.toList us) (hlen:us.length=len) (h24:len * R.n<=16777216):
  OpJ P ⟨d,.buildSlice t len ps,ty,pos,af,g⟩ Γ [] [] (λ_=>[]) (λ_=>tsl R us):=
 Qm5 λF w A hF he=>by obtain⟨vs,hc,_,hr⟩:=Qld ht hz hps hlen h24 he;refine⟨_,_,hr,Step.alloc w _,λF' h1 h2=>?_⟩;subst hlen;exact QpD hc hF h1 (h2 _ (Zp _) (by simp)) (Zp _)
def Qw6 {F':Blk} {w:World} {us:List α} {vs:List Value} {F:Blk} {cap:Nat} (hc:QW (us.flatMap R.cs) F w vs) (hcap:us.length=cap) (hmax:cap<=maxLen) (hF:∀k,F k->k<w.heap.size) (h1:∀k,F k->F' k):
  (own R e us (.slice (some ⟨w.heap.size,0,none⟩) cap cap)).ok F' (w.alloc (.cells vs.toArray e)):=by
 have hl:vs.length=us.length * R.n:=by rw[hc.1,QaF]
 refine⟨vs,⟨hl,.inr ⟨w.heap.size,cap,vs.toArray,by rw[hcap],Nat.zero_le _,heap_alloc_new w _,by omega,hmax,by simp[hl,hcap],?_⟩⟩,hc.Xq h1 (λk hk=>Go.RowKit.Below.heap_alloc w _ k (hF k hk))⟩;simp[<-hl]
def QvH {w:World} {us:List α} {vs:List Value} {M:Blk} {cap:Nat} (hc:QW (us.flatMap R.cs) (free M w) w vs) (hcap:us.length=cap) (hmax:cap<=maxLen):
  Made M [] [own R e us (.slice (some ⟨w.heap.size,0,none⟩) cap cap)] w (w.alloc (.cells vs.toArray e)):=by
 refine QbQ (λk hk=>?_) (Qw6 hc hcap hmax (λk hk=>hk.1) λk hk=>?_)
 ·have hk':some w.heap.size=some k:=hk;cases hk';exact⟨.inr (Zp _),by simp⟩
 ·refine QcF (by simp) (λj h=>(by rw[Qej] at h;exact h.elim)) (λA hA j hj=>?_) hk;obtain rfl:=Zg.1 hA;have hj':some w.heap.size=some j:=hj;cases hj';exact .inr (Zp _)
def QaS {len:Nat} {ps:Array (Nat×Operand)} {us:List α} (ht:P.underlying t=some (.slice e)) (hz:TOk P e R bytes z) (hps:QhZ Γ R 0 ps.toList us) (hlen:us.length=len) (h24:len * R.n<=16777216) (hm:len<=16777216):
  OpJ P ⟨d,.buildSlice t len ps,ty,pos,af,g⟩ Γ [] [] (λv=>[own R e us v]) (λv=>tv v):=by
 intro M w A hM _ _ _ _ he;obtain⟨vs,hc,_,hr⟩:=Qld ht hz hps hlen h24 he;simp only[Does,hr];exact⟨_,(Step.alloc w _).mono (λ_ h=>h.elim),QvH hc hlen (by unfold maxLen;omega),rfl⟩
def QsL {u0:α} {F:Blk} {w:World} (h0:∀F w,(R.ty u0).ok F w z) (n:Nat):QW ((replicate n u0).flatMap R.cs) F w (madeCells z.cells (n * R.n)).toList:=by
 obtain⟨hc,_,hn⟩:=Qcn (h0 F w);refine⟨by rw[QaF];simp[size_madeCells],λj T v hT hv=>?_⟩;have hj:j<n * R.n:=by have:=(Zc.1 hT).1;rw[QaF] at this;simpa using this
 have hpos:0<R.n:=by
  rcases Nat.eq_zero_or_pos R.n with h | h
  ·rw[h] at hj;omega
  ·exact h
 have hdm:j / R.n * R.n+j % R.n=j:=by rw[Nat.mul_comm];exact Nat.div_add_mod j R.n
 have hq:j / R.n<n:=Nat.div_lt_of_lt_mul (by rw[Nat.mul_comm];exact hj);rw[<-hdm,Qek R _ (j / R.n) (j % R.n) u0 (by simp[hq]) (Nat.mod_lt _ hpos)] at hT;have hmod:j % R.n<z.cells.size:=by rw[hn];exact Nat.mod_lt _ hpos
 have hv':v=z.cells[j % R.n]:=by
  have:(madeCells z.cells (n * R.n)).toList[j]?=some z.cells[j % R.n]:=by simp[madeCells,hj,hn];exact getElem!_pos z.cells (j % R.n) hmod
  rw[this] at hv;exact (Zz hv).symm
 subst hv';exact hc.2 _ T _ hT (by simp[hmod])
def Qso {n:Int} {k k':IntKind} {u0:α} {us:List α} (ht:P.underlying t=some (.slice e)) (hz:TOk P e R bytes z) (h0:∀F w,(R.ty u0).ok F w z) (hb:bytes<=2048)
  (hx:Fct Γ x (tv (.int k n))) (hy:Fct Γ y (tv (.int k' n))) (h:mk n u0=some us):OpJ P ⟨d,.makeSlice t x y,ty,pos,af,g⟩ Γ [] [] (λ_=>[]) (λ_=>tsl R us):=
 Qm5 λF w A hF he=>by
  unfold mk at h;split at h
  ·rename_i hn;simp only[ZB] at h;subst h;obtain⟨ti,hti,hzz,hs,hbb⟩:=hz.info;have h1:=hx.val (by simp[Op.operands]) he;have h2:=hy.val (by simp[Op.operands]) he;have hbn:(ti.bytes:Int) * n<=281474976710656:=by
    rw[hbb];have h5:(bytes:Int) * n<=2048 * 68719476736:=Int.mul_le_mul (by omega) hn.2 hn.1 (by omega);omega
   have hr:=run_make (P:=P) w t e ti z ht hti hzz k k' n n hn.1 (ZF _) hbn (by omega);rw[hs] at hr;refine⟨.slice (some ⟨w.heap.size,0,none⟩) n.toNat n.toNat,w.alloc (.cells (madeCells z.cells (n.toNat * R.n)) e),by simp only[execOp,h1,h2,Sem.run_bind,hr,Zj,Sem.run_pure],Step.alloc w _,λF' g1 g2=>?_⟩;have hl:(replicate n.toNat u0).length=n.toNat:=by simp
   have:=QpD (e:=e) (F:=F) (F':=F') (cap:=n.toNat) (QsL (F:=F) (w:=w) h0 n.toNat) hF g1 (g2 _ (Zp _) (by simp)) (by simp);rw[hl] at this;simpa using this
  ·cases h
def QAB {n:Int} {k k':IntKind} {u0:α} {us:List α} (ht:P.underlying t=some (.slice e)) (hz:TOk P e R bytes z) (h0:∀F w,(R.ty u0).ok F w z) (hb:bytes<=2048)
  (hx:Fct Γ x (tv (.int k n))) (hy:Fct Γ y (tv (.int k' n))) (h:mk n u0=some us):OpJ P ⟨d,.makeSlice t x y,ty,pos,af,g⟩ Γ [] [] (λv=>[own R e us v]) (λv=>tv v):=by
 intro M w A hM _ _ _ _ he;unfold mk at h;split at h
 ·rename_i hn;simp only[ZB] at h;subst h;obtain⟨ti,hti,hzz,hs,hbb⟩:=hz.info;have h1:=hx.val (by simp[Op.operands]) he;have h2:=hy.val (by simp[Op.operands]) he;have hbn:(ti.bytes:Int) * n<=281474976710656:=by
   rw[hbb];have h5:(bytes:Int) * n<=2048 * 68719476736:=Int.mul_le_mul (by omega) hn.2 hn.1 (by omega);omega
  have hr:=run_make (P:=P) w t e ti z ht hti hzz k k' n n hn.1 (ZF _) hbn (by omega);rw[hs] at hr;have hr':(execOp A.eval (⟨d,.makeSlice t x y,ty,pos,af,g⟩:Oper)).run P w=.ok (.value (.slice (some ⟨w.heap.size,0,none⟩) n.toNat n.toNat)) (w.alloc (.cells (madeCells z.cells (n.toNat * R.n)) e)):=by simp only[execOp,h1,h2,Sem.run_bind,hr,Zj,Sem.run_pure]
  simp only[Does,hr'];refine⟨_,(Step.alloc w _).mono (λ_ h=>h.elim),?_,rfl⟩;have:=QvH (e:=e) (cap:=n.toNat) (QsL (F:=free M w) (w:=w) h0 n.toNat) (by simp) (by unfold maxLen;omega);simpa using this
 ·cases h
end

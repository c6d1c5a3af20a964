/- The logic's part that finds an operation's rule by itself. No condition. -/
import Derived.Test.YtjioihpegfgbpaaGreatDoorSimP
set_option linter.all false
open List
namespace Go.Sim
class TokI (P:Program) (t:TypeId) {α:outParam Type} (R:outParam (Rep α)) (b:outParam Nat) (z:outParam Value):Prop where ok:TOk P t R b z
class UndI (P:Program) (t:TypeId) (d:outParam TypeDesc):Prop where ok:P.underlying t=some d
class TokV (P:Program) (t:TypeId) (b:outParam Nat) (z:outParam Value):Prop where ok:TOk P t rVal b z
class AnyI (P:Program) (ti ts:outParam TypeId):Prop where ok:True
class SpcS (P:Program) (f:FuncId) (S:outParam Prop):Prop where ok:S
class FldI (P:Program) (s:TypeId) (f:Nat) (off:outParam Nat):Prop where ok:QI P s f off
class QyW (P:Program) (f:FuncId):Prop where ok:QB P f
class Spc0 (P:Program) (f:FuncId) {C:outParam Type} (F:outParam (Option C)) (Ts:outParam (List Ty)) (T:outParam (C->Ty)):Prop where
 ok:∀{r},F=some r->FnOk P f Ts [] (λ_=>[]) (λ_=>T r)
class Spc1 (P:Program) (f:FuncId) {A C:outParam Type} (F:outParam (A->Option C)) (Ts:outParam (A->List Ty)) (T:outParam (C->Ty)):Prop where
 ok:∀{a r},F a=some r->FnOk P f (Ts a) [] (λ_=>[]) (λ_=>T r)
class Spc2 (P:Program) (f:FuncId) {A B C:outParam Type} (F:outParam (A->B->Option C)) (Ts:outParam (A->B->List Ty)) (T:outParam (C->Ty)):Prop where
 ok:∀{a b r},F a b=some r->FnOk P f (Ts a b) [] (λ_=>[]) (λ_=>T r)
class Spc3 (P:Program) (f:FuncId) {A B D C:outParam Type} (F:outParam (A->B->D->Option C)) (Ts:outParam (A->B->D->List Ty)) (T:outParam (C->Ty)):Prop where
 ok:∀{a b d r},F a b d=some r->FnOk P f (Ts a b d) [] (λ_=>[]) (λ_=>T r)
class Spc4 (P:Program) (f:FuncId) {A B D E C:outParam Type} (F:outParam (A->B->D->E->Option C)) (Ts:outParam (A->B->D->E->List Ty)) (T:outParam (C->Ty)):Prop where
 ok:∀{a b d e r},F a b d e=some r->FnOk P f (Ts a b d e) [] (λ_=>[]) (λ_=>T r)
class Spc5 (P:Program) (f:FuncId) {A B D E G C:outParam Type} (F:outParam (A->B->D->E->G->Option C)) (Ts:outParam (A->B->D->E->G->List Ty)) (T:outParam (C->Ty)):Prop where
 ok:∀{a b d e g r},F a b d e g=some r->FnOk P f (Ts a b d e g) [] (λ_=>[]) (λ_=>T r)
def look:List (Nat×Ty)->Nat->Option Ty
 | [],_=>none
 | (s,T)::Γ,t=>bif Nat.beq s t then some T else look Γ t
def Qzm {t:Nat} {T:Ty}:∀{Γ:List (Nat×Ty)},look Γ t=some T->(t,T)∈Γ
 | (s,U)::Γ,h=>by
  unfold look at h
  cases e:Nat.beq s t with
  | true=>rw[e] at h;obtain rfl:=Zz h;rw[Nat.eq_of_beq_eq_true e];exact Zl
  | false=>rw[e] at h;exact Zy _ (Qzm h)
section
variable {Γ:List (Nat×Ty)} {P:Program}
def Fct.l {s:Nat} {T:Ty} (h:look Γ s=some T):Fct Γ (.tmp s) T:=λ_ _ _ h0=>h0 (s,T) (Qzm h) rfl
def Fct.kI {k:IntKind} {n:Int}:Fct Γ (.const (.int k n)) (tv (.int k n)):=.k
def Fct.kB {b:Bool}:Fct Γ (.const (.bool b)) (tv (.bool b)):=.k
def Grd.l {dg:Nat} {want b:Bool} (h:look Γ dg=some (tv (.bool b))):Grd Γ dg want (b==want):=by intro F w a h0;have:get a dg=.bool b:=h0 _ (Qzm h) rfl;rw[this]
def Grd.lc {dg:Nat} {want b c0:Bool} (h:look Γ dg=some (QgJ c0 (tv (.bool b)))):Grd Γ dg want (c0&&(b==want)):=by obtain⟨i,hi⟩:=ZV.1 (Qzm h);exact Grd.c i hi
def tru {c:Bool} (h:c=true:=by
 first
 | with_reducible assumption
 | exact beqT (by with_reducible assumption)
 | exact beqF (by with_reducible assumption)
 | exact QfD (by with_reducible assumption) (by with_reducible assumption)
 | exact QfD (by with_reducible assumption) (beqT (by with_reducible assumption))
 | exact QfD (by with_reducible assumption) (beqF (by with_reducible assumption))):c=true:=h
def opt_h {α:Type} {c:Bool} {x:Option α} {d r:α} (hc:c=true) (h:opt c x d=some r):x=some r:=QaZ h hc
def hy {p:Prop} (h:p:=by
 first
 | exact opt_h (by with_reducible assumption) (by with_reducible assumption)
 | exact QaZ (by with_reducible assumption) tru
 | exact rm_ok (by with_reducible assumption)
 | with_reducible assumption):p:=h
def Fct.a0 {x:Operand} {T:Ty} (h:Fct Γ x T:=by
 first
 | with_reducible exact Fct.kI
 | with_reducible exact Fct.kB
 | ((with_reducible apply Fct.cond);((with_reducible apply Fct.l);exact rfl);exact tru)
 | ((with_reducible apply Fct.l);exact rfl)
 | ((with_reducible apply Fct.left);(with_reducible apply Fct.l);exact rfl)
 | ((with_reducible apply Fct.right);(with_reducible apply Fct.l);exact rfl)
 | ((with_reducible apply Fct.left);(with_reducible apply Fct.cond);((with_reducible apply Fct.l);exact rfl);exact tru)
 | ((with_reducible apply Fct.right);(with_reducible apply Fct.cond);((with_reducible apply Fct.l);exact rfl);exact tru)
 | with_reducible exact Fct.nilsl
 | with_reducible exact Fct.k
 | exact Fct.kI
 | exact Fct.kB
 | with_reducible exact Fct.fnE
 | exact Fct.nilsl
 | exact Fct.k):Fct Γ x T:=h
def Fct.lfn {x:Operand} {f:FuncId} {Tc:List Ty} (h:Fct Γ x (Qcc f Tc):=by
 first
 | with_reducible exact Fct.fnE
 | ((with_reducible apply Fct.l);exact rfl)
 | ((with_reducible apply Fct.cond);((with_reducible apply Fct.l);exact rfl);exact tru)):Fct Γ x (Qcc f Tc):=h
section
variable {x:Operand} {f:FuncId} {Tc:List Ty} {A B C D E G:Type}
def Fct.c1 {F:A->Option C} {Ts Ta:A->List Ty} {T:C->Ty} (h:Fct Γ x (Qcc f Tc)) (hc:QB P f) (s:Spc1 P f F Ts T) (e:∀a,Ta a++Tc=Ts a):Fct Γ x (tfn P [] Ta T λa=>F a):=h.Xn (Qlf hc λ_ _ q=>e _▸s.ok q)
def Fct.c2 {F:A->B->Option C} {Ts:A->B->List Ty} {Ta:A->List Ty} {T:C->Ty} {b:B} (h:Fct Γ x (Qcc f Tc)) (hc:QB P f) (s:Spc2 P f F Ts T) (e:∀a,Ta a++Tc=Ts a b):Fct Γ x (tfn P [] Ta T λa=>F a b):=h.Xn (Qlf hc λ_ _ q=>e _▸s.ok q)
def Fct.c3 {F:A->B->D->Option C} {Ts:A->B->D->List Ty} {Ta:A->List Ty} {T:C->Ty} {b:B} {c:D} (h:Fct Γ x (Qcc f Tc)) (hc:QB P f) (s:Spc3 P f F Ts T) (e:∀a,Ta a++Tc=Ts a b c):Fct Γ x (tfn P [] Ta T λa=>F a b c):=h.Xn (Qlf hc λ_ _ q=>e _▸s.ok q)
def Fct.c4 {F:A->B->D->E->Option C} {Ts:A->B->D->E->List Ty} {Ta:A->List Ty} {T:C->Ty} {b:B} {c:D} {d:E} (h:Fct Γ x (Qcc f Tc)) (hc:QB P f) (s:Spc4 P f F Ts T) (e:∀a,Ta a++Tc=Ts a b c d):Fct Γ x (tfn P [] Ta T λa=>F a b c d):=h.Xn (Qlf hc λ_ _ q=>e _▸s.ok q)
def Fct.p2 {F:A->B->Option C} {Ts:A->B->List Ty} {Ta:A×B->List Ty} {T:C->Ty} (h:Fct Γ x (Qcc f Tc)) (hc:QB P f) (s:Spc2 P f F Ts T) (e:∀a,Ta a++Tc=Ts a.1 a.2):Fct Γ x (tfn P [] Ta T λa=>F a.1 a.2):=h.Xn (Qlf hc λ_ _ q=>e _▸s.ok q)
end
def Fct.a {x:Operand} {T:Ty} (h:Fct Γ x T:=by
 first
 | exact Fct.a0
 | (apply Fct.c1;exact Fct.lfn;exact QyW.ok;exact inferInstance;(intro _;exact rfl))
 | (apply Fct.c2;exact Fct.lfn;exact QyW.ok;exact inferInstance;(intro _;exact rfl))
 | (apply Fct.c3;exact Fct.lfn;exact QyW.ok;exact inferInstance;(intro _;exact rfl))
 | (apply Fct.c4;exact Fct.lfn;exact QyW.ok;exact inferInstance;(intro _;exact rfl))
 | (apply Fct.p2;exact Fct.lfn;exact QyW.ok;exact inferInstance;(intro _;exact rfl))):Fct Γ x T:=h
def Grd.a {dg:Nat} {want c:Bool} (h:Grd Γ dg want c:=by
 first
 | ((with_reducible apply Grd.l);exact rfl)
 | ((with_reducible apply Grd.lc);exact rfl)):Grd Γ dg want c:=h
def Bd.a {b:Option Operand} {d i:Int} (h:Bd Γ b d i:=by
 first
 | exact Bd.no _
 | exact Bd.op Fct.a):Bd Γ b d i:=h
def arg {U:List Atom} {xs:List Operand} {Ts:List Ty} (h:Args Γ U xs Ts:=by
 repeat first
  | exact .nil
  | refine .cons (.of Fct.a) ?_
 fail_if_success apply id):Args Γ U xs Ts:=h
section
variable {d:Option Tmp} {ty:TypeId} {pos:String} {af:Array Edge} {g:Option (Nat×Bool)} {fid:FuncId} {xs:List Operand} {ts:Array TypeId} {A B C D E G:Type}
def Qzn {S:Prop} {Ts:List Ty} {Es:List Atom} {N:Value->List Atom} {T:Value->Ty} [hc:QyW P fid] [h:SpcS P fid S] (k:S->FnOk P fid Ts Es N T) (ha:Args Γ [] xs Ts):OpJ P ⟨d,.call { callee:=.value (.func fid),args:=xs.toArray,argTypes:=ts },ty,pos,af,g⟩ Γ [] Es N T:=Qq hc.ok (k h.ok) ha
def QBJ {ti ts:TypeId} {s:Str} {x:Operand} [AnyI P ti ts] (ht:P.underlying ts=some .string) (hx:Fct Γ x (tv (.string (sB s)))):OpJ P ⟨d,.makeInterface ts x,ty,pos,af,g⟩ Γ [] [] (λ_=>[]) (λ_=>tv (AnyV.val ti ts (.str s))):=Qmu ht hx
def QBK {ti ts:TypeId} {n:Int} {x:Operand} [AnyI P ti ts] (ht:P.underlying ti=some (.int .i64)) (hx:Fct Γ x (tv (.int .i64 n))):OpJ P ⟨d,.makeInterface ti x,ty,pos,af,g⟩ Γ [] [] (λ_=>[]) (λ_=>tv (AnyV.val ti ts (.int n))):=Qle ht hx
def op_c0 {F:Option C} {Ts:List Ty} {T:C->Ty} [hc:QyW P fid] [s:Spc0 P fid F Ts T] {r:C} (ha:Args Γ [] xs Ts) (h:F=some r):OpJ P ⟨d,.call { callee:=.value (.func fid),args:=xs.toArray,argTypes:=ts },ty,pos,af,g⟩ Γ [] [] (λ_=>[]) (λ_=>T r):=Qq hc.ok (s.ok h) ha
def op_c1 {F:A->Option C} {Ts:A->List Ty} {T:C->Ty} [hc:QyW P fid] [s:Spc1 P fid F Ts T] {a:A} {r:C} (ha:Args Γ [] xs (Ts a)) (h:F a=some r):OpJ P ⟨d,.call { callee:=.value (.func fid),args:=xs.toArray,argTypes:=ts },ty,pos,af,g⟩ Γ [] [] (λ_=>[]) (λ_=>T r):=Qq hc.ok (s.ok h) ha
def op_c2 {F:A->B->Option C} {Ts:A->B->List Ty} {T:C->Ty} [hc:QyW P fid] [s:Spc2 P fid F Ts T] {a:A} {b:B} {r:C} (ha:Args Γ [] xs (Ts a b)) (h:F a b=some r):OpJ P ⟨d,.call { callee:=.value (.func fid),args:=xs.toArray,argTypes:=ts },ty,pos,af,g⟩ Γ [] [] (λ_=>[]) (λ_=>T r):=Qq hc.ok (s.ok h) ha
def op_c3 {F:A->B->D->Option C} {Ts:A->B->D->List Ty} {T:C->Ty} [hc:QyW P fid] [s:Spc3 P fid F Ts T] {a:A} {b:B} {e:D} {r:C} (ha:Args Γ [] xs (Ts a b e)) (h:F a b e=some r):OpJ P ⟨d,.call { callee:=.value (.func fid),args:=xs.toArray,argTypes:=ts },ty,pos,af,g⟩ Γ [] [] (λ_=>[]) (λ_=>T r):=Qq hc.ok (s.ok h) ha
def op_c4 {F:A->B->D->E->Option C} {Ts:A->B->D->E->List Ty} {T:C->Ty} [hc:QyW P fid] [s:Spc4 P fid F Ts T] {a:A} {b:B} {e:D} {f:E} {r:C} (ha:Args Γ [] xs (Ts a b e f)) (h:F a b e f=some r):OpJ P ⟨d,.call { callee:=.value (.func fid),args:=xs.toArray,argTypes:=ts },ty,pos,af,g⟩ Γ [] [] (λ_=>[]) (λ_=>T r):=Qq hc.ok (s.ok h) ha
def op_c5 {F:A->B->D->E->G->Option C} {Ts:A->B->D->E->G->List Ty} {T:C->Ty} [hc:QyW P fid] [s:Spc5 P fid F Ts T] {a:A} {b:B} {e:D} {f:E} {k:G} {r:C} (ha:Args Γ [] xs (Ts a b e f k)) (h:F a b e f k=some r):OpJ P ⟨d,.call { callee:=.value (.func fid),args:=xs.toArray,argTypes:=ts },ty,pos,af,g⟩ Γ [] [] (λ_=>[]) (λ_=>T r):=Qq hc.ok (s.ok h) ha
end
structure FV where
 α:Type
 R:Rep α
 u:α
def fvs (l:List FV):List Ty:=l.flatMap λf=>f.R.cs f.u
def offs:Nat->List FV->List (Nat×Nat)
 | _,[]=>[]
 | o,f::l=>(o,f.R.n)::offs (o+f.R.n) l
structure Bld (P:Program) (t:TypeId) (Z:List FV):Prop where
 ok:∃(fs:Array Field) (pl:Array (Nat×Nat)) (z:Value),P.underlying t=some (.struct fs)/\(∀w,((fs.mapM λf=>do pure (f.offset,<-sizeOf f.type):Sem (Array (Nat×Nat)))).run P w=.ok pl w)/\(P.info? t).bind (·.zero)=some z/\(∀F w,QW (fvs Z) F w z.cells.toList)/\pl.toList=offs 0 Z
class BldI (P:Program) (t:TypeId) (Z:outParam (List FV)):Prop where ok:Bld P t Z
inductive Qzg (Γ:List (Nat×Ty)):List (Nat×Operand)->Nat->List FV->List FV->Prop where
 | nil {k:Nat} {Z:List FV}:Qzg Γ [] k Z Z
 | hit {k:Nat} {x:Operand} {ps:List (Nat×Operand)} {α:Type} {R:Rep α} {u0 u:α} {Z Z':List FV} (h:Fct Γ x (R.ty u)) (hs:Qzg Γ ps (k+1) Z Z'):Qzg Γ ((k,x)::ps) k (⟨α,R,u0⟩::Z) (⟨α,R,u⟩::Z')
 | miss {k:Nat} {ps:List (Nat×Operand)} {f:FV} {Z Z':List FV} (hs:Qzg Γ ps (k+1) Z Z'):Qzg Γ ps k (f::Z) (f::Z')
def Qzg.parts {pl:Array (Nat×Nat)} {ps:List (Nat×Operand)} {k:Nat} {Z Z':List FV} (h:Qzg Γ ps k Z Z'):∀(pre:List Ty),(∀i,pl[k+i]?=(offs pre.length Z)[i]?)->Qmq Γ pl ps (pre++fvs Z) (pre++fvs Z'):=by
 induction h with
 | nil=>exact λpre _=>.nil _
 | @hit k x ps α R u0 u Z Z' h hs ih=>
  intro pre hp;have h0:=hp 0;have e1:fvs (⟨α,R,u0⟩::Z)=R.cs u0++fvs Z:=by unfold fvs;rw[flatMap_cons]
  have e2:fvs (⟨α,R,u⟩::Z')=R.cs u++fvs Z':=by unfold fvs;rw[flatMap_cons]
  have e3:splice (pre++fvs (⟨α,R,u0⟩::Z)) pre.length (R.cs u)=(pre++R.cs u)++fvs Z:=by rw[e1];unfold splice;rw[take_left,R.len,<-R.len u0,<-ZC pre,show pre.length+(R.cs u0).length=(pre++R.cs u0).length by rw[Zd],drop_left]
  refine .cons (R:=R) (u:=u) (off:=pre.length) (by rw[Nat.add_zero] at h0;rw[h0];rfl) h (by rw[e1,Zd,Zd,R.len];omega) ?_;rw[e3,e2,<-ZC];refine ih (pre++R.cs u) λi=>?_;have:=hp (i+1);rw[show k+1+i=k+(i+1) by omega,this,Zd,R.len];rfl
 | @miss k ps f Z Z' hs ih=>
  intro pre hp;have e1:∀W,pre++fvs (f::W)=(pre++f.R.cs f.u)++fvs W:=λW=>by unfold fvs;rw[flatMap_cons,ZC]
  rw[e1,e1];refine ih (pre++f.R.cs f.u) λi=>?_;have:=hp (i+1);rw[show k+1+i=k+(i+1) by omega,this,Zd,f.R.len];rfl
def pf {ps:List (Nat×Operand)} {k:Nat} {Z Z':List FV} (h:Qzg Γ ps k Z Z':=by
 repeat first
  | exact Qzg.nil
  | (apply Qzg.hit;exact .a)
  | apply Qzg.miss
 fail_if_success apply id):Qzg Γ ps k Z Z':=h
section
variable {d:Option Tmp} {ty t e:TypeId} {pos:String} {af:Array Edge} {g:Option (Nat×Bool)} {x y:Operand} {α β:Type} {R:Rep α} {R2:Rep β} {bytes:Nat} {z:Value}
def QAy {ps:List (Nat×Operand)} {Z Z':List FV} {u:α} (hB:Bld P t Z) (hz:TOk P t R bytes z) (hps:Qzg Γ ps 0 Z Z') (hu:R.cs u=fvs Z') (ha:R.agg=true):OpJ P ⟨d,.build t ps.toArray,ty,pos,af,g⟩ Γ [] [] (λ_=>[]) (λ_=>R.ty u):=by
 obtain⟨fs,pl,z',h1,h2,h3,h4,h5⟩:=hB.ok;have e:R.ty u=tagg (fvs Z'):=by unfold Rep.ty;rw[ha,hu]
 rw[e];refine QaD h1 h2 h3 h4 ?_;have:=hps.parts (pl:=pl) [] λi=>by rw[Nat.zero_add];show pl[i]?=(offs 0 Z)[i]?;rw[<-h5,Array.getElem?_toList]
 simpa using this
structure Bl (P:Program) (t:TypeId) (Z l:List FV) (T:Ty):Prop where
 ok:∀{Γ:List (Nat×Ty)} {d:Option Tmp} {ty:TypeId} {pos:String} {af:Array Edge} {g:Option (Nat×Bool)} {ps:List (Nat×Operand)} (hps:Qzg Γ ps 0 Z l),OpJ P ⟨d,.build t ps.toArray,ty,pos,af,g⟩ Γ [] [] (λ_=>[]) (λ_=>T)
def Bl.of {Z l:List FV} {u:α} (hB:Bld P t Z) (hz:TOk P t R bytes z) (hu:R.cs u=fvs l:=by rfl) (ha:R.agg=true:=by rfl):Bl P t Z l (R.ty u):=⟨λh=>QAy hB hz h hu ha⟩
structure BlA (P:Program) (t:TypeId) {α:Type} (R:Rep α) (l:List α) (T:Ty):Prop where
 ok:∀{Γ:List (Nat×Ty)} {d:Option Tmp} {ty:TypeId} {pos:String} {af:Array Edge} {g:Option (Nat×Bool)} {ps:List (Nat×Operand)} (hps:QhZ Γ R 0 ps l),OpJ P ⟨d,.build t ps.toArray,ty,pos,af,g⟩ Γ [] [] (λ_=>[]) (λ_=>T)
class BldL (P:Program) (t:TypeId) (S:outParam Prop):Prop where ok:S
def op_bld {S:Prop} {ps:Array (Nat×Operand)} [h:BldL P t S] {T:Value->Ty} (k:S->OpJ P ⟨d,.build t ps,ty,pos,af,g⟩ Γ [] [] (λ_=>[]) T):OpJ P ⟨d,.build t ps,ty,pos,af,g⟩ Γ [] [] (λ_=>[]) T:=k h.ok
def Qzt {n:Nat} {ps:List (Nat×Operand)} {us:List α} {u:β} (hu:P.underlying t=some (.array n e)) (hze:TOk P e R bytes z) {b2:Nat} {zt:Value} (hz:TOk P t R2 b2 zt) (hps:QhZ Γ R 0 ps us) (hzn:zt.cells.size=us.length * R.n) (hc:R2.cs u=us.flatMap R.cs) (ha:R2.agg=true):
  OpJ P ⟨d,.build t ps.toArray,ty,pos,af,g⟩ Γ [] [] (λ_=>[]) (λ_=>R2.ty u):=by
 have e:R2.ty u=tagg (us.flatMap R.cs):=by unfold Rep.ty;rw[ha,hc]
 rw[e];refine QrT hu hze ?_ hzn (by simpa using hps);obtain⟨i,hi,h1,_⟩:=hz.info;rw[hi];exact h1
def BlA.of {n:Nat} {l:List α} {u:β} (hu:P.underlying t=some (.array n e)) (hze:TOk P e R bytes z) {b2:Nat} {zt:Value} (hz:TOk P t R2 b2 zt) (hzn:zt.cells.size=l.length * R.n:=by rfl) (hc:R2.cs u=l.flatMap R.cs:=by rfl) (ha:R2.agg=true:=by rfl):BlA P t R l (R2.ty u):=⟨λh=>Qzt hu hze hz h hzn hc ha⟩
def Qzx {len:Nat} {ps:List (Nat×Operand)} {us:List α} (ht:P.underlying t=some (.slice e)) (hz:TOk P e R bytes z) (hps:QhZ Γ R 0 ps us) (hlen:us.length=len) (h24:len * R.n<=16777216): OpJ P ⟨d,.buildSlice t len ps.toArray,ty,pos,af,g⟩ Γ [] [] (λ_=>[]) (λ_=>tsl R us):=QK ht hz (by simpa using hps) hlen h24
def prt {i:Nat} {ps:List (Nat×Operand)} {us:List α} (h:QhZ Γ R i ps us:=by
 repeat first
  | exact QhZ.nil _
  | (apply QhZ.cons;exact .a)
 fail_if_success apply id):QhZ Γ R i ps us:=h
def QAI {n j:Nat} {k:IntKind} {i:Int} {Ts:List Ty} (ht:P.underlying t=some (.array n e)) (hz:TOk P e R bytes z) (hx:Fct Γ x (tptr Ts)) (hi:Fct Γ y (tv (.int k i))) (hj:i=Int.ofNat j) (h1:Nat.blt j n=true): OpJ P ⟨d,.indexAddr t x y,ty,pos,af,g⟩ Γ [] [] (λ_=>[]) (λ_=>tptr (Ts.drop (j * R.n))):=Qm8 j hj ht hz hx hi (by rw[Nat.blt_eq] at h1;exact h1)
def QBL (ht:P.underlying ty=some (.slice e)) (hz:TOk P e R bytes z):OpJ P ⟨d,.assign (.const (.slice none 0 0)),ty,pos,af,g⟩ Γ [] [] (λ_=>[]) (λ_=>tand (tv (.slice none 0 0)) (tsl R ([]:List α))):=Qc (Fct.k.both .nilsl)
def QBM (ht:P.underlying ty=some (.slice e)) (hz:TOk P e R bytes z):OpJ P ⟨d,.move (.const (.slice none 0 0)),ty,pos,af,g⟩ Γ [] [] (λ_=>[]) (λ_=>tand (tv (.slice none 0 0)) (tsl R ([]:List α))):=QL (Fct.k.both .nilsl)
def leb2 {a b:Nat} (h:Nat.ble a b=true:=by exact rfl):a<=b:=Nat.le_of_ble_eq_true h
end
def QAJ {d:Option Tmp} {ty t:TypeId} {pos:String} {af:Array Edge} {g:Option (Nat×Bool)} {x:Operand} {α:Type} {R:Rep α} {bytes:Nat} {z:Value} {u:α} (hz:TOk P t R bytes z) (hx:Fct Γ x (R.ty u)):OpJ P ⟨d,.box t x,ty,pos,af,g⟩ Γ [] [] (λ_=>[]) (λ_=>tptr (R.cs u)):=Q9 hx
def cps {xs:List Operand} {Ts:List Ty} (h:Caps Γ xs Ts:=by
 repeat first
  | exact Caps.nil
  | (apply Caps.cons;exact .a0)
 fail_if_success apply id):Caps Γ xs Ts:=h
def oj {o:Oper} {T:Ty} (h:OpJ P o Γ [] [] (λ_=>[]) (λ_=>T):=by
 first
 | ((with_reducible apply QBL);exact UndI.ok;exact TokI.ok)
 | ((with_reducible apply QBM);exact UndI.ok;exact TokI.ok)
 | ((with_reducible apply QL);exact .a)
 | ((with_reducible apply Qc);exact .a)
 | ((with_reducible apply Qf);exact TokI.ok;exact .a;exact rfl)
 | ((with_reducible apply Qw);exact TokI.ok;exact .a)
 | ((with_reducible apply Qg);exact FldI.ok;exact .a)
 | ((with_reducible apply QA);exact UndI.ok;exact TokI.ok;exact .a;exact .a;exact hy)
 | ((with_reducible apply Q1);exact UndI.ok;exact .a)
 | ((with_reducible apply Qab);exact .a;exact .a)
 | ((with_reducible apply Qdv);exact .a;exact .a)
 | ((with_reducible apply Q8);exact .a;exact .a)
 | ((with_reducible apply Qau);exact .a;exact .a)
 | ((with_reducible apply QaI);exact .a;exact .a)
 | ((with_reducible apply QQ);exact .a;exact rfl)
 | ((with_reducible apply Qby);exact .a;(intro _;exact .a))
 | ((with_reducible apply Qbo);exact .a;(intro _;exact .a))
 | ((with_reducible apply QtZ);exact .a;exact .a)
 | ((with_reducible apply QcK);exact .a;exact .a)
 | ((with_reducible apply QfC);exact .a;exact .a)
 | ((with_reducible apply Qlb);exact .a;exact .a)
 | ((with_reducible apply Qsq);exact .a)
 | ((with_reducible apply QAJ);exact TokI.ok;exact .a)
 | ((with_reducible apply QlE);exact UndI.ok;exact TokI.ok;exact .a;exact .a;exact .a;exact hy)
 | ((with_reducible apply op_min);exact .a;exact .a)
 | ((with_reducible apply op_max);exact .a;exact .a)
 | ((with_reducible apply Qex);exact .a)
 | ((with_reducible apply Qt0);exact .a)
 | ((with_reducible apply Qn3);exact .a;exact .a;exact nz_ne hy)
 | ((with_reducible apply Qmo);exact .a;exact .a;exact nz_ne hy)
 | ((with_reducible apply op_c1);exact arg;exact hy)
 | ((with_reducible apply op_c2);exact arg;exact hy)
 | ((with_reducible apply op_c3);exact arg;exact hy)
 | ((with_reducible apply op_c4);exact arg;exact hy)
 | ((with_reducible apply op_c5);exact arg;exact hy)
 | ((with_reducible apply op_c0);exact arg;exact hy)
 | ((with_reducible apply QdB);exact .a;exact .a)
 | ((with_reducible apply QAK);exact .a;exact .a)
 | ((with_reducible apply Qpa);exact .a;exact .a;exact hy)
 | ((with_reducible apply op_lenS');exact UndI.ok;exact .a)
 | ((with_reducible apply op_eqNil');exact UndI.ok;exact .a)
 | ((with_reducible apply QzH);exact UndI.ok;exact .a)
 | ((with_reducible apply QzI);exact UndI.ok;exact .a)
 | ((with_reducible apply QAI);exact UndI.ok;exact TokI.ok;exact .a;exact .a;exact rfl;exact rfl)
 | ((with_reducible apply Qzx);exact UndI.ok;exact TokI.ok;exact prt;exact rfl;exact leb2)
 | ((with_reducible apply op_bld);intro s;(first | (apply Bl.ok;apply s;case hps=>exact pf) | (apply BlA.ok;apply s;case hps=>exact prt)))
 | ((with_reducible apply QAM);exact UndI.ok;exact .a;exact .a;exact .a;exact hy)
 | ((with_reducible apply QAL);exact UndI.ok;exact .a;exact .a;exact hy)
 | ((with_reducible apply QBJ);exact UndI.ok;exact .a)
 | ((with_reducible apply QBK);exact UndI.ok;exact .a)
 | ((with_reducible apply Qjk);exact cps)
 | ((with_reducible apply QlH);exact .a;exact arg;exact hy)
 | ((with_reducible apply QlH (u:=(_,_)));exact .a;exact arg;exact hy)
 | ((with_reducible apply QlH (u:=(_,_,_)));exact .a;exact arg;exact hy)):OpJ P o Γ [] [] (λ_=>[]) (λ_=>T):=h
section
variable {ops:List Oper} {V:List Ver} {new:Nat->Value} {i:Nat} {os:List Oper} {is:List Info} {T:Ty} {d:Tmp} {ins:Op} {ty:TypeId} {pos:String} {af:Array Edge}
def Run.a (h:OpJ P ⟨some d,ins,ty,pos,af,none⟩ Γ [] [] (λ_=>[]) (λ_=>T)) (hs:Run P ops V new (i+1) ((d,T)::Γ) os is): Run P ops V new i Γ (⟨some d,ins,ty,pos,af,none⟩::os) (⟨⟨[],λ_=>T⟩,[],[],[]⟩::is):=Run.p rfl h hs
def Run.an (h:OpJ P ⟨none,ins,ty,pos,af,none⟩ Γ [] [] (λ_=>[]) (λ_=>T)) (hs:Run P ops V new (i+1) Γ os is): Run P ops V new i Γ (⟨none,ins,ty,pos,af,none⟩::os) (⟨⟨[],λ_=>T⟩,[],[],[]⟩::is):=Run.p rfl h hs
end
end
def Tr (P:Program) (M:Fr) (w0:World) (n:Nat) (Γ:List (Nat×Ty)) (As:List Atom) (c:Code) (Q:Exit->Act->World->Prop):Prop:=∀a w,St M w0 n Γ As a w->c.wp P Q a w
def To (M:Fr) (w0:World) (n:Nat) (Γ:List (Nat×Ty)) (As:List Atom) (K:Act->World->Prop):Prop:=∀a w,St M w0 n Γ As a w->K a w
def ty0 (T:Ty):TyN:=⟨[],λ_=>T⟩
def ty1 (i:Nat) (f:Value->Ty):TyN:=⟨[i],λl=>f (l.getD 0 undef)⟩
inductive Out:List (Nat×Ty)->List (Nat×Ty)->Prop
  | nil:Out [] []
  | cons {s:Nat} {T T':Ty} {l m:List (Nat×Ty)} (e:T=T') (h:Out l m):Out ((s,T)::l) ((s,T')::m)
def Out.eq {l m:List (Nat×Ty)} (h:Out l m):l=m:=by
  induction h with
  | nil=>rfl
  | cons e _ ih=>rw[ih,e]
def ty0_eq {new:Nat->Value} {T:Ty}:TyN.ty new (ty0 T)=T:=rfl
def ty1_eq {new:Nat->Value} {i:Nat} {f:Value->Ty}:TyN.ty new (ty1 i f)=f (new i):=rfl
inductive OutA:List Atom->List Atom->Prop
  | nil:OutA [] []
  | cons {A B:Atom} {l m:List Atom} (e:A=B) (h:OutA l m):OutA (A::l) (B::m)
def OutA.eq {l m:List Atom} (h:OutA l m):l=m:=by
  induction h with
  | nil=>rfl
  | cons e _ ih=>rw[ih,e]
def Qzu {V:List Ver} {u:Nat} {new:Nat->Value} {A:Atom} (h:V[u]?=some (v0 A)):ver V u new=A:=by unfold ver;rw[h]
def Qzp {V:List Ver} {u i:Nat} {new:Nat->Value} {f:Value->Atom} (h:V[u]?=some (v1 i f)):ver V u new=f (new i):=by unfold ver;rw[h];rfl
def Qzq {V:List Ver} {u i j:Nat} {new:Nat->Value} {f:Value->Value->Atom} (h:V[u]?=some (v2 i j f)):ver V u new=f (new i) (new j):=by unfold ver;rw[h];rfl
def outs {l m:List (Nat×Ty)} (h:Out l m:=by
  repeat first
    | exact Out.nil
    | (apply Out.cons;(first | with_reducible exact ty0_eq | with_reducible exact ty1_eq | exact rfl))
  fail_if_success apply id):Out l m:=h
def outA {l m:List Atom} (h:OutA l m:=by
  repeat first
    | exact OutA.nil
    | (apply OutA.cons;(first | exact Qzu rfl | exact Qzp rfl | exact Qzq rfl))
  fail_if_success apply id):OutA l m:=h
def outB {l m:List Atom} (h:OutA l m:=by
  repeat first
    | exact OutA.nil
    | (apply OutA.cons;exact rfl)
  fail_if_success apply id):OutA l m:=h
def Nx (i:Nat) (ns:List Nat):Prop:=∀k j,ns[k]?=some j->j=i+1+k
def Nx.one {i j:Nat} {ns:List Nat} (h:Nx i (j::ns)):j=i+1:=h 0 j rfl
def Nx.tl {i j:Nat} {ns:List Nat} (h:Nx i (j::ns)):Nx j ns:=λk m hm=>by have:=h (k+1) m hm;have:=h.one;omega
@[reducible] def lits : List Nat := 1 :: 2 :: 3 :: 4 :: 5 :: 6 :: 7 :: 8 :: 9 :: 10 :: 11 :: 12 :: 13 :: 14 :: 15 :: 16 :: 17 :: 18 :: 19 :: 20 :: 21 :: 22 :: 23 :: 24 :: 25 :: 26 :: 27 :: 28 :: 29 :: 30 :: 31 :: 32 :: 33 :: 34 :: 35 :: 36 :: 37 :: 38 :: 39 :: 40 :: 41 :: 42 :: 43 :: 44 :: 45 :: 46 :: 47 :: 48 :: 49 :: 50 :: 51 :: 52 :: 53 :: 54 :: 55 :: 56 :: 57 :: 58 :: 59 :: 60 :: 61 :: 62 :: 63 :: 64 :: 65 :: 66 :: 67 :: 68 :: 69 :: 70 :: 71 :: 72 :: 73 :: 74 :: 75 :: 76 :: 77 :: 78 :: 79 :: 80 :: 81 :: 82 :: 83 :: 84 :: 85 :: 86 :: 87 :: 88 :: 89 :: 90 :: 91 :: 92 :: 93 :: 94 :: 95 :: 96 :: 97 :: 98 :: 99 :: 100 :: 101 :: 102 :: 103 :: 104 :: 105 :: 106 :: 107 :: 108 :: 109 :: 110 :: 111 :: 112 :: 113 :: 114 :: 115 :: 116 :: 117 :: 118 :: 119 :: 120 :: 121 :: 122 :: 123 :: 124 :: 125 :: 126 :: 127 :: 128 :: 129 :: []
theorem Qzo:Nx 0 lits:=λk j h=>by
  have e:lits=range' 1 129:=rfl;have hk:k<129:=by have:=(Zc.1 h).1;rw[e,length_range'] at this;exact this
  rw[e,getElem?_range' hk] at h;have:=Zz h;omega
def RunM (mks ns:List Nat) (P:Program) (ops:List Oper) (V:List Ver) (new:Nat->Value) (i:Nat) (Γ:List (Nat×Ty)) (os:List Oper) (is:List Info):Prop:=Nx i ns->Run P ops V new i Γ os is
def Had (mks:List Nat) (V:List Ver) (new:Nat->Value) (i u:Nat) (A:Atom):Prop:=Nat.ble (mks.getD u 0) i=true/\ver V u new=A
def Mk (mks:List Nat) (V:List Ver) (new:Nat->Value) (i m:Nat) (N:Value->Atom):Prop:=Nat.beq (mks.getD m 0) (i+1)=true/\∀x,ver V m (upd new i x)=N x
section
variable {mks:List Nat} {V:List Ver} {new:Nat->Value} {i u j k:Nat} {A:Atom} {f:Value->Atom} {f2:Value->Value->Atom}
def Had.a0 (u:Nat) (hm:Nat.ble (mks.getD u 0) i=true) (h:V[u]?=some (v0 A)):Had mks V new i u A:=⟨hm,Qzu h⟩
def Had.a1 (u:Nat) (hm:Nat.ble (mks.getD u 0) i=true) (h:V[u]?=some (v1 j f)) (e:f (new j)=A):Had mks V new i u A:=⟨hm,e▸Qzp h⟩
def Had.a2 (u:Nat) (hm:Nat.ble (mks.getD u 0) i=true) (h:V[u]?=some (v2 j k f2)) (e:f2 (new j) (new k)=A):Had mks V new i u A:=⟨hm,e▸Qzq h⟩
def Mk.a0 (u:Nat) (hm:Nat.beq (mks.getD u 0) (i+1)=true) (h:V[u]?=some (v0 A)):Mk mks V new i u (λ_=>A):=⟨hm,λ_=>Qzu h⟩
def Mk.a1 (u:Nat) (hm:Nat.beq (mks.getD u 0) (i+1)=true) (h:V[u]?=some (v1 i f)):Mk mks V new i u f:=⟨hm,λx=>by rw[Qzp h,QqG]⟩
def Mk.a1' (u:Nat) (hm:Nat.beq (mks.getD u 0) (i+1)=true) (h:V[u]?=some (v1 j f)) (hj:Nat.beq j i=false) (e:f (new j)=A):Mk mks V new i u (λ_=>A):=⟨hm,λx=>by rw[Qzp h,Qji (Nat.ne_of_beq_eq_false hj),e]⟩
def Mk.a2' (u:Nat) (hm:Nat.beq (mks.getD u 0) (i+1)=true) (h:V[u]?=some (v2 j k f2)) (hj:Nat.beq j i=false) (hk:Nat.beq k i=false) (e:f2 (new j) (new k)=A):Mk mks V new i u (λ_=>A):=⟨hm,λx=>by rw[Qzq h,Qji (Nat.ne_of_beq_eq_false hj),Qji (Nat.ne_of_beq_eq_false hk),e]⟩
def Mk.a2a (u:Nat) (hm:Nat.beq (mks.getD u 0) (i+1)=true) (h:V[u]?=some (v2 j i f2)) (hj:Nat.beq j i=false):Mk mks V new i u (λv=>f2 (new j) v):=⟨hm,λx=>by rw[Qzq h,QqG,Qji (Nat.ne_of_beq_eq_false hj)]⟩
end
def had {mks:List Nat} {V:List Ver} {new:Nat->Value} {i u:Nat} {A:Atom} (h:Had mks V new i u A:=by
  first
  | exact Had.a0 14 rfl rfl | exact Had.a1 14 rfl rfl rfl | exact Had.a2 14 rfl rfl rfl
  | exact Had.a0 13 rfl rfl | exact Had.a1 13 rfl rfl rfl | exact Had.a2 13 rfl rfl rfl
  | exact Had.a0 12 rfl rfl | exact Had.a1 12 rfl rfl rfl | exact Had.a2 12 rfl rfl rfl
  | exact Had.a0 11 rfl rfl | exact Had.a1 11 rfl rfl rfl | exact Had.a2 11 rfl rfl rfl
  | exact Had.a0 10 rfl rfl | exact Had.a1 10 rfl rfl rfl | exact Had.a2 10 rfl rfl rfl
  | exact Had.a0 9 rfl rfl | exact Had.a1 9 rfl rfl rfl | exact Had.a2 9 rfl rfl rfl
  | exact Had.a0 8 rfl rfl | exact Had.a1 8 rfl rfl rfl | exact Had.a2 8 rfl rfl rfl
  | exact Had.a0 7 rfl rfl | exact Had.a1 7 rfl rfl rfl | exact Had.a2 7 rfl rfl rfl
  | exact Had.a0 6 rfl rfl | exact Had.a1 6 rfl rfl rfl | exact Had.a2 6 rfl rfl rfl
  | exact Had.a0 5 rfl rfl | exact Had.a1 5 rfl rfl rfl | exact Had.a2 5 rfl rfl rfl
  | exact Had.a0 4 rfl rfl | exact Had.a1 4 rfl rfl rfl | exact Had.a2 4 rfl rfl rfl
  | exact Had.a0 3 rfl rfl | exact Had.a1 3 rfl rfl rfl | exact Had.a2 3 rfl rfl rfl
  | exact Had.a0 2 rfl rfl | exact Had.a1 2 rfl rfl rfl | exact Had.a2 2 rfl rfl rfl
  | exact Had.a0 1 rfl rfl | exact Had.a1 1 rfl rfl rfl | exact Had.a2 1 rfl rfl rfl
  | exact Had.a0 0 rfl rfl | exact Had.a1 0 rfl rfl rfl | exact Had.a2 0 rfl rfl rfl):Had mks V new i u A:=h
def mkd {mks:List Nat} {V:List Ver} {new:Nat->Value} {i m:Nat} {N:Value->Atom} (h:Mk mks V new i m N:=by
  first
  | (exact Mk.a0 0 rfl rfl) | (exact Mk.a1 0 rfl rfl) | (exact Mk.a1' 0 rfl rfl rfl rfl) | (exact Mk.a2' 0 rfl rfl rfl rfl rfl) | (exact Mk.a2a 0 rfl rfl rfl)
  | (exact Mk.a0 1 rfl rfl) | (exact Mk.a1 1 rfl rfl) | (exact Mk.a1' 1 rfl rfl rfl rfl) | (exact Mk.a2' 1 rfl rfl rfl rfl rfl) | (exact Mk.a2a 1 rfl rfl rfl)
  | (exact Mk.a0 2 rfl rfl) | (exact Mk.a1 2 rfl rfl) | (exact Mk.a1' 2 rfl rfl rfl rfl) | (exact Mk.a2' 2 rfl rfl rfl rfl rfl) | (exact Mk.a2a 2 rfl rfl rfl)
  | (exact Mk.a0 3 rfl rfl) | (exact Mk.a1 3 rfl rfl) | (exact Mk.a1' 3 rfl rfl rfl rfl) | (exact Mk.a2' 3 rfl rfl rfl rfl rfl) | (exact Mk.a2a 3 rfl rfl rfl)
  | (exact Mk.a0 4 rfl rfl) | (exact Mk.a1 4 rfl rfl) | (exact Mk.a1' 4 rfl rfl rfl rfl) | (exact Mk.a2' 4 rfl rfl rfl rfl rfl) | (exact Mk.a2a 4 rfl rfl rfl)
  | (exact Mk.a0 5 rfl rfl) | (exact Mk.a1 5 rfl rfl) | (exact Mk.a1' 5 rfl rfl rfl rfl) | (exact Mk.a2' 5 rfl rfl rfl rfl rfl) | (exact Mk.a2a 5 rfl rfl rfl)
  | (exact Mk.a0 6 rfl rfl) | (exact Mk.a1 6 rfl rfl) | (exact Mk.a1' 6 rfl rfl rfl rfl) | (exact Mk.a2' 6 rfl rfl rfl rfl rfl) | (exact Mk.a2a 6 rfl rfl rfl)
  | (exact Mk.a0 7 rfl rfl) | (exact Mk.a1 7 rfl rfl) | (exact Mk.a1' 7 rfl rfl rfl rfl) | (exact Mk.a2' 7 rfl rfl rfl rfl rfl) | (exact Mk.a2a 7 rfl rfl rfl)
  | (exact Mk.a0 8 rfl rfl) | (exact Mk.a1 8 rfl rfl) | (exact Mk.a1' 8 rfl rfl rfl rfl) | (exact Mk.a2' 8 rfl rfl rfl rfl rfl) | (exact Mk.a2a 8 rfl rfl rfl)
  | (exact Mk.a0 9 rfl rfl) | (exact Mk.a1 9 rfl rfl) | (exact Mk.a1' 9 rfl rfl rfl rfl) | (exact Mk.a2' 9 rfl rfl rfl rfl rfl) | (exact Mk.a2a 9 rfl rfl rfl)
  | (exact Mk.a0 10 rfl rfl) | (exact Mk.a1 10 rfl rfl) | (exact Mk.a1' 10 rfl rfl rfl rfl) | (exact Mk.a2' 10 rfl rfl rfl rfl rfl) | (exact Mk.a2a 10 rfl rfl rfl)
  | (exact Mk.a0 11 rfl rfl) | (exact Mk.a1 11 rfl rfl) | (exact Mk.a1' 11 rfl rfl rfl rfl) | (exact Mk.a2' 11 rfl rfl rfl rfl rfl) | (exact Mk.a2a 11 rfl rfl rfl)
  | (exact Mk.a0 12 rfl rfl) | (exact Mk.a1 12 rfl rfl) | (exact Mk.a1' 12 rfl rfl rfl rfl) | (exact Mk.a2' 12 rfl rfl rfl rfl rfl) | (exact Mk.a2a 12 rfl rfl rfl)
  | (exact Mk.a0 13 rfl rfl) | (exact Mk.a1 13 rfl rfl) | (exact Mk.a1' 13 rfl rfl rfl rfl) | (exact Mk.a2' 13 rfl rfl rfl rfl rfl) | (exact Mk.a2a 13 rfl rfl rfl)
  | (exact Mk.a0 14 rfl rfl) | (exact Mk.a1 14 rfl rfl) | (exact Mk.a1' 14 rfl rfl rfl rfl) | (exact Mk.a2' 14 rfl rfl rfl rfl rfl) | (exact Mk.a2a 14 rfl rfl rfl)):Mk mks V new i m N:=h
section
variable {P:Program} {mks ns:List Nat} {j:Nat} {ops:List Oper} {V:List Ver} {new:Nat->Value} {i:Nat} {Γ:List (Nat×Ty)} {os:List Oper} {is:List Info} {T:Ty} {d:Tmp} {ins:Op} {ty:TypeId} {pos:String} {af:Array Edge} {A:Atom} {g dg u m:Nat} {want c:Bool}
def RunM.n:RunM mks ns P ops V new i Γ [] []:=λ_=>.nil i Γ
def RunM.r0 (_hk:elem (i+1) mks=false) (h:OpJ P ⟨some d,ins,ty,pos,af,none⟩ Γ [] [] (λ_=>[]) (λ_=>T)) (hs:RunM mks ns P ops V new j ((d,T)::Γ) os is):RunM mks (j::ns) P ops V new i Γ (⟨some d,ins,ty,pos,af,none⟩::os) (⟨ty0 T,[],[],[]⟩::is):=λhx=>by have hs':Run P ops V new (i+1) _ os is:=hx.one▸hs hx.tl;exact Run.p rfl h hs'
def RunM.rn (h:OpJ P ⟨none,ins,ty,pos,af,none⟩ Γ [] [] (λ_=>[]) (λ_=>T)) (hs:RunM mks ns P ops V new j Γ os is):RunM mks (j::ns) P ops V new i Γ (⟨none,ins,ty,pos,af,none⟩::os) (⟨ty0 T,[],[],[]⟩::is):=λhx=>by have hs':Run P ops V new (i+1) _ os is:=hx.one▸hs hx.tl;exact Run.p rfl h hs'
def RunM.rg (_hk:elem (i+1) mks=false) (hd:(ops[g]?).bind (·.dst)=some dg) (hc:Grd Γ dg want c) (h:c=true->OpJ P ⟨some d,ins,ty,pos,af,some (g,want)⟩ Γ [] [] (λ_=>[]) (λ_=>T)) (hs:RunM mks ns P ops V new j ((d,QgJ c T)::Γ) os is):
    RunM mks (j::ns) P ops V new i Γ (⟨some d,ins,ty,pos,af,some (g,want)⟩::os) (⟨ty0 (QgJ c T),[],[],[]⟩::is):=λhx=>by
  have hs':Run P ops V new (i+1) _ os is:=hx.one▸hs hx.tl;exact Run.g rfl hd hc h hs'
def RunM.rd {f:Value->Ty} (q:Nat) (hq:Nat.beq q i=false) (h:∀v,new q=v->OpJ P ⟨some d,ins,ty,pos,af,none⟩ Γ [] [] (λ_=>[]) (λ_=>f v)) (hs:RunM mks ns P ops V new j ((d,f (new q))::Γ) os is):
    RunM mks (j::ns) P ops V new i Γ (⟨some d,ins,ty,pos,af,none⟩::os) (⟨ty1 q f,[],[],[]⟩::is):=λhx=>by
  have hs':Run P ops V new (i+1) _ os is:=hx.one▸hs hx.tl;exact Run.pd q hq rfl (h _ rfl) hs'
def RunM.ru (h:OpJ P ⟨some d,ins,ty,pos,af,none⟩ Γ [A] [] (λ_=>[]) (λ_=>T)) (hs:RunM mks ns P ops V new j ((d,T)::Γ) os is) (hA:Had mks V new i u A):RunM mks (j::ns) P ops V new i Γ (⟨some d,ins,ty,pos,af,none⟩::os) (⟨ty0 T,[u],[],[]⟩::is):=λhx=>by have hs':Run P ops V new (i+1) _ os is:=hx.one▸hs hx.tl;exact Run.u [u] (by simp[hA.2]) rfl h hs'
def RunM.rgu (hd:(ops[g]?).bind (·.dst)=some dg) (hc:Grd Γ dg want c) (h:c=true->OpJ P ⟨some d,ins,ty,pos,af,some (g,want)⟩ Γ [A] [] (λ_=>[]) (λ_=>T)) (hs:RunM mks ns P ops V new j ((d,QgJ c T)::Γ) os is) (hA:Had mks V new i u A):
    RunM mks (j::ns) P ops V new i Γ (⟨some d,ins,ty,pos,af,some (g,want)⟩::os) (⟨ty0 (QgJ c T),[u],[],[]⟩::is):=λhx=>by
  have hs':Run P ops V new (i+1) _ os is:=hx.one▸hs hx.tl;exact Run.gu [u] (by simp[hA.2]) rfl hd hc h hs'
def RunM.rm {f:Value->Ty} {N:Value->Atom} (h:OpJ P ⟨some d,ins,ty,pos,af,none⟩ Γ [] [] (λv=>[N v]) f) (hs:RunM mks ns P ops V new j ((d,f (new i))::Γ) os is) (hV:Mk mks V new i m N):
    RunM mks (j::ns) P ops V new i Γ (⟨some d,ins,ty,pos,af,none⟩::os) (⟨ty1 i f,[],[],[m]⟩::is):=λhx=>by
  have hs':Run P ops V new (i+1) _ os is:=hx.one▸hs hx.tl;exact Run.m [] [m] rfl (by
    funext x
    show [ver V m (upd new i x)]=_;rw[hV.2]) rfl h hs'
def RunM.re {f:Value->Ty} {N:Value->Atom} (h:OpJ P ⟨some d,ins,ty,pos,af,none⟩ Γ [] [A] (λv=>[N v]) f) (hs:RunM mks ns P ops V new j ((d,f (new i))::Γ) os is) (hA:Had mks V new i u A) (hV:Mk mks V new i m N):
    RunM mks (j::ns) P ops V new i Γ (⟨some d,ins,ty,pos,af,none⟩::os) (⟨ty1 i f,[],[u],[m]⟩::is):=λhx=>by
  have hs':Run P ops V new (i+1) _ os is:=hx.one▸hs hx.tl;exact Run.e [] [u] [m] rfl (by simp[hA.2]) (by
    funext x
    show [ver V m (upd new i x)]=_;rw[hV.2]) rfl h hs'
def RunM.rt {A2 B:Atom} {u2:Nat} (h:OpJ P ⟨none,ins,ty,pos,af,none⟩ Γ [A2] [A] (λ_=>[B]) (λ_=>tany)) (hs:RunM mks ns P ops V new j Γ os is) (hA:Had mks V new i u A) (hU:Had mks V new i u2 A2) (hV:Mk mks V new i m (λ_=>B)):
    RunM mks (j::ns) P ops V new i Γ (⟨none,ins,ty,pos,af,none⟩::os) (⟨ty1 i λ_=>tany,[u2],[u],[m]⟩::is):=λhx=>by
  have hs':Run P ops V new (i+1) _ os is:=hx.one▸hs hx.tl;exact Run.e [u2] [u] [m] (by simp[hU.2]) (by simp[hA.2]) (by
    funext x
    show [ver V m (upd new i x)]=_;rw[hV.2]) rfl h hs'
def RunM.rk {B:Atom} (h:OpJ P ⟨some d,ins,ty,pos,af,none⟩ Γ [] [A] (λ_=>[B]) (λ_=>T)) (hs:RunM mks ns P ops V new j ((d,T)::Γ) os is) (hA:Had mks V new i u A) (hV:Mk mks V new i m (λ_=>B)):
    RunM mks (j::ns) P ops V new i Γ (⟨some d,ins,ty,pos,af,none⟩::os) (⟨ty0 T,[],[u],[m]⟩::is):=λhx=>by
  have hs':Run P ops V new (i+1) _ os is:=hx.one▸hs hx.tl;exact .step (.plain rfl (by
    have e1:([m].map λv=>ver V v (upd new i undef))=[B]:=by show [ver V m (upd new i undef)]=_;rw[hV.2]
    have e2:(λx=>[m].map λv=>ver V v (upd new i x))=λ_=>[B]:=by funext x;show [ver V m (upd new i x)]=_;rw[hV.2]
    have e3:([u].map λv=>ver V v new)=[A]:=by show [ver V u new]=_;rw[hA.2]
    show OpJ P _ Γ [] ([u].map λv=>ver V v new) (λx=>[m].map λv=>ver V v (upd new i x)) (λ_=>T);rw[e2,e3];exact h)) hs'
def RunM.rs {B:Atom} (h:OpJ P ⟨none,ins,ty,pos,af,none⟩ Γ [] [A] (λ_=>[B]) (λ_=>tany)) (hs:RunM mks ns P ops V new j Γ os is) (hA:Had mks V new i u A) (hV:Mk mks V new i m (λ_=>B)):
    RunM mks (j::ns) P ops V new i Γ (⟨none,ins,ty,pos,af,none⟩::os) (⟨ty1 i λ_=>tany,[],[u],[m]⟩::is):=λhx=>by
  have hs':Run P ops V new (i+1) _ os is:=hx.one▸hs hx.tl;exact Run.e [] [u] [m] rfl (by simp[hA.2]) (by
    funext x
    show [ver V m (upd new i x)]=_;rw[hV.2]) rfl h hs'
end
structure Zok (P:Program) (t:TypeId) {α:Type} (R:Rep α) (a:α) (z:Value):Prop where ok:∀F w,(R.ty a).ok F w z
class ZokI (P:Program) (t:TypeId) {α:outParam Type} (R:outParam (Rep α)) (a:outParam α) (z:outParam Value):Prop where ok:Zok P t R a z
section
variable {Γ:List (Nat×Ty)} {P:Program} {d:Option Tmp} {ty:TypeId} {pos:String} {af:Array Edge} {g:Option (Nat×Bool)} {x y:Operand} {t e:TypeId} {α:Type} {R:Rep α} {bytes:Nat} {z:Value}
def QAz {a:α} (hz:TOk P t R bytes z) (h0:Zok P t R a z):OpJ P ⟨d,.alloc t,ty,pos,af,g⟩ Γ [] [] (λp=>[box (R.cs a) p]) (λp=>tv p):=QV hz h0.ok
def QAA {n:Int} {k k':IntKind} {u0:α} {us:List α} (ht:P.underlying t=some (.slice e)) (hz:TOk P e R bytes z) (h0:Zok P e R u0 z) (hb:bytes<=2048) (hx:Fct Γ x (tv (.int k n))) (hy:Fct Γ y (tv (.int k' n))) (h:mk n u0=some us):OpJ P ⟨d,.makeSlice t x y,ty,pos,af,g⟩ Γ [] [] (λv=>[own R e us v]) (λv=>tv v):=QAB ht hz h0.ok hb hx hy h
def Qzv {len:Nat} {ps:List (Nat×Operand)} {us:List α} (ht:P.underlying t=some (.slice e)) (hz:TOk P e R bytes z) (hps:QhZ Γ R 0 ps us) (hlen:us.length=len) (h24:len * R.n<=16777216) (hm:len<=16777216): OpJ P ⟨d,.buildSlice t len ps.toArray,ty,pos,af,g⟩ Γ [] [] (λv=>[own R e us v]) (λv=>tv v):=QaS ht hz (by simpa using hps) hlen h24 hm
def QBN {u:α} (hz:TOk P t R bytes z) (hx:Fct Γ x (R.ty u)):OpJ P ⟨d,.box t x,ty,pos,af,g⟩ Γ [] [] (λp=>[box (R.cs u) p]) (λp=>tv p):=Qn4 hx
end
def leb' {a b:Nat} (h:Nat.ble a b=true:=by exact rfl):a<=b:=Nat.le_of_ble_eq_true h
def runs {P:Program} {mks ns:List Nat} {ops:List Oper} {V:List Ver} {new:Nat->Value} {i:Nat} {Γ:List (Nat×Ty)} {os:List Oper} {is:List Info} (h:RunM mks ns P ops V new i Γ os is:=by
  repeat first
    | with_reducible exact RunM.n
    | ((with_reducible apply RunM.r0);exact rfl;exact oj)
    | ((with_reducible apply RunM.rg);exact rfl;exact rfl;exact Grd.a;(intro hc;exact oj))
    | ((with_reducible apply RunM.ru)
       (first
        | ((with_reducible apply QiQ)
           case hz=>exact TokI.ok
           case hp=>exact .a
           case hA=>exact had
           case h=>exact hy)
        | ((with_reducible apply Qdn)
           case ht=>exact UndI.ok
           case hx=>exact .a
           case hA=>exact had)
        | ((with_reducible apply QC)
           case hf=>exact FldI.ok
           case hp=>exact .a
           case hA=>exact had)
        | ((with_reducible apply Qa5)
           case hx=>exact .a
           case hA=>exact had)
        | ((with_reducible apply Qar)
           case ht=>exact UndI.ok
           case hz=>exact TokI.ok
           case hx=>exact .a
           case hi=>exact .a
           case hA=>exact had
           case h=>exact hy)
        | ((with_reducible apply Qoa)
           case ht=>exact UndI.ok
           case hz=>exact TokI.ok
           case hx=>exact .a
           case hi=>exact .a
           case hA=>exact had
           case h=>exact hy)
        | ((with_reducible apply Qbm)
           case hz=>exact TokI.ok
           case hp=>exact .a
           case hA=>exact had
           case h=>exact rfl)
        | ((with_reducible apply Qas)
           case hf=>exact FldI.ok
           case hp=>exact .a
           case hA=>exact had
           case hne=>exact Qav hy)
        | ((with_reducible apply OpJ.glo);(with_reducible apply Qzn)
           (intro s;apply s)
           case ha=>exact arg
           case hA=>exact had
           case k=>exact hy)
        | ((with_reducible apply QaY)
           case hz=>exact TokI.ok
           case hp=>exact .a
           case hA=>exact had
           case h=>exact rfl)
        | ((with_reducible apply Qb0)
           case hz=>exact TokI.ok
           case hp=>exact .a
           case hA=>exact had
           case h=>exact hy
           case hf=>exact rfl)
        | ((with_reducible apply QX)
           case hz=>exact TokV.ok
           case hp=>exact .a
           case hA=>exact had
           case h=>exact rfl)
        | ((with_reducible apply Qkz)
           case hz=>exact TokV.ok
           case hp=>exact .a
           case hA=>exact had)))
    | ((with_reducible apply RunM.rm)
       (first
        | ((with_reducible apply QAz)
           case hz=>exact TokI.ok
           case h0=>exact ZokI.ok
           case hV=>exact mkd)
        | ((with_reducible apply QBN)
           case hz=>exact TokI.ok
           case hx=>exact .a
           case hV=>exact mkd)
        | ((with_reducible apply Qzv)
           case ht=>exact UndI.ok
           case hz=>exact TokI.ok
           case hps=>exact prt
           case hlen=>exact rfl
           case h24=>exact leb'
           case hm=>exact leb'
           case hV=>exact mkd)
        | ((with_reducible apply Qzn)
           (intro s;apply s)
           case ha=>exact arg
           case k=>exact hy
           case hV=>exact mkd)
        | ((with_reducible apply QAA)
           case ht=>exact UndI.ok
           case hz=>exact TokI.ok
           case h0=>exact ZokI.ok
           case hb=>exact leb'
           case hx=>exact .a
           case hy=>exact .a
           case h=>exact hy
           case hV=>exact mkd)))
    | ((with_reducible apply RunM.rs)
       (first
        | ((with_reducible apply Qmr)
           case hz=>exact TokI.ok
           case hp=>exact .a
           case hx=>exact .a
           case hA=>exact had
           case h=>exact hy
           case hV=>exact mkd)
        | ((with_reducible apply QaT)
           case hz=>exact TokI.ok
           case hp=>exact .a
           case hx=>exact .a
           case hA=>exact had
           case h0=>exact hy
           case h=>exact hy
           case hV=>exact mkd
           case hoff=>exact leb'
           case hu=>exact rfl)
        | ((with_reducible apply QaL)
           case hz=>exact TokI.ok
           case hp=>exact .a
           case hx=>exact .a
           case hA=>exact had
           case hV=>exact mkd
           case hl=>exact leb')
        | ((with_reducible apply QG)
           case hz=>exact TokI.ok
           case hp=>exact .a
           case hx=>exact .a
           case hA=>exact had
           case hV=>exact mkd
           case hl=>exact leb')))
    | ((with_reducible apply RunM.re)
       (first
        | ((with_reducible apply Qzn)
           (intro s;apply s)
           case ha=>exact arg
           case hA=>exact had
           case k=>exact hy
           case hV=>exact mkd)
        | ((with_reducible apply QS)
           case ht=>exact UndI.ok
           case hz=>exact TokI.ok
           case hb=>exact leb'
           case hx=>exact .a
           case hy=>exact .a
           case hA=>exact had
           case hV=>exact mkd
           case h=>exact hy)))
    | ((with_reducible apply RunM.rt)
       (first
        | ((with_reducible apply Qco)
           case hz=>exact TokV.ok
           case hp=>exact .a
           case hx=>exact .a
           case hU=>exact had
           case hA=>exact had
           case hV=>exact mkd
           case hl=>exact leb')
        | ((with_reducible apply Qzw)
           case hz=>exact TokV.ok
           case hp=>exact .a
           case hx=>exact .a
           case hU=>exact had
           case hA=>exact had
           case hV=>exact mkd
           case hl=>exact leb')))
    | ((with_reducible apply RunM.rk);(with_reducible apply Qzn)
       (intro s;apply s)
       case ha=>exact arg
       case hA=>exact had
       case k=>exact hy
       case hV=>exact mkd)
    | ((with_reducible apply RunM.rgu);exact rfl;exact Grd.a;intro hc
       (first
        | ((with_reducible apply QiQ)
           case hz=>exact TokI.ok
           case hp=>exact .a
           case hA=>exact had
           case h=>exact hy)
        | ((with_reducible apply Qdn)
           case ht=>exact UndI.ok
           case hx=>exact .a
           case hA=>exact had)
        | ((with_reducible apply QC)
           case hf=>exact FldI.ok
           case hp=>exact .a
           case hA=>exact had)
        | ((with_reducible apply QaY)
           case hz=>exact TokI.ok
           case hp=>exact .a
           case hA=>exact had
           case h=>exact rfl)
        | ((with_reducible apply Qar)
           case ht=>exact UndI.ok
           case hz=>exact TokI.ok
           case hx=>exact .a
           case hi=>exact .a
           case hA=>exact had
           case h=>exact hy)))
    | ((with_reducible apply RunM.rn);exact oj)
    | ((with_reducible apply RunM.rd 0);exact rfl;(intro v hv;rw[hv];exact oj))
    | ((with_reducible apply RunM.rd 1);exact rfl;(intro v hv;rw[hv];exact oj))
    | ((with_reducible apply RunM.rd 2);exact rfl;(intro v hv;rw[hv];exact oj))
    | ((with_reducible apply RunM.rd 3);exact rfl;(intro v hv;rw[hv];exact oj))
    | ((with_reducible apply RunM.rd 4);exact rfl;(intro v hv;rw[hv];exact oj))
    | ((with_reducible apply RunM.rd 5);exact rfl;(intro v hv;rw[hv];exact oj))
    | ((with_reducible apply RunM.rd 6);exact rfl;(intro v hv;rw[hv];exact oj))
    | ((with_reducible apply RunM.rd 7);exact rfl;(intro v hv;rw[hv];exact oj))
    | ((with_reducible apply RunM.rd 8);exact rfl;(intro v hv;rw[hv];exact oj))
    | ((with_reducible apply RunM.rd 9);exact rfl;(intro v hv;rw[hv];exact oj))
    | ((with_reducible apply RunM.rd 10);exact rfl;(intro v hv;rw[hv];exact oj))
    | ((with_reducible apply RunM.rd 11);exact rfl;(intro v hv;rw[hv];exact oj))
    | ((with_reducible apply RunM.rd 12);exact rfl;(intro v hv;rw[hv];exact oj))
    | ((with_reducible apply RunM.rd 13);exact rfl;(intro v hv;rw[hv];exact oj))
    | ((with_reducible apply RunM.rd 14);exact rfl;(intro v hv;rw[hv];exact oj))
    | ((with_reducible apply RunM.rd 15);exact rfl;(intro v hv;rw[hv];exact oj))
    | ((with_reducible apply RunM.rd 16);exact rfl;(intro v hv;rw[hv];exact oj))
    | ((with_reducible apply RunM.rd 17);exact rfl;(intro v hv;rw[hv];exact oj))
    | ((with_reducible apply RunM.rd 18);exact rfl;(intro v hv;rw[hv];exact oj))
    | ((with_reducible apply RunM.rd 19);exact rfl;(intro v hv;rw[hv];exact oj))
    | ((with_reducible apply RunM.rd 20);exact rfl;(intro v hv;rw[hv];exact oj))
    | ((with_reducible apply RunM.rd 21);exact rfl;(intro v hv;rw[hv];exact oj))
    | ((with_reducible apply RunM.rd 22);exact rfl;(intro v hv;rw[hv];exact oj))
    | ((with_reducible apply RunM.rd 23);exact rfl;(intro v hv;rw[hv];exact oj))
    | ((with_reducible apply RunM.rd 24);exact rfl;(intro v hv;rw[hv];exact oj))
    | ((with_reducible apply RunM.rd 25);exact rfl;(intro v hv;rw[hv];exact oj))
    | ((with_reducible apply RunM.rd 26);exact rfl;(intro v hv;rw[hv];exact oj))
    | ((with_reducible apply RunM.rd 27);exact rfl;(intro v hv;rw[hv];exact oj))
    | ((with_reducible apply RunM.rd 28);exact rfl;(intro v hv;rw[hv];exact oj))
    | ((with_reducible apply RunM.rd 29);exact rfl;(intro v hv;rw[hv];exact oj))
    | ((with_reducible apply RunM.rd 30);exact rfl;(intro v hv;rw[hv];exact oj))
    | ((with_reducible apply RunM.rd 31);exact rfl;(intro v hv;rw[hv];exact oj))
    | ((with_reducible apply RunM.rd 32);exact rfl;(intro v hv;rw[hv];exact oj))
    | ((with_reducible apply RunM.rd 33);exact rfl;(intro v hv;rw[hv];exact oj))
    | ((with_reducible apply RunM.rd 34);exact rfl;(intro v hv;rw[hv];exact oj))
    | ((with_reducible apply RunM.rd 35);exact rfl;(intro v hv;rw[hv];exact oj))
    | ((with_reducible apply RunM.rd 36);exact rfl;(intro v hv;rw[hv];exact oj))
    | ((with_reducible apply RunM.rd 37);exact rfl;(intro v hv;rw[hv];exact oj))
    | ((with_reducible apply RunM.rd 38);exact rfl;(intro v hv;rw[hv];exact oj))
    | ((with_reducible apply RunM.rd 39);exact rfl;(intro v hv;rw[hv];exact oj))
    | ((with_reducible apply RunM.rd 40);exact rfl;(intro v hv;rw[hv];exact oj))
    | ((with_reducible apply RunM.rd 41);exact rfl;(intro v hv;rw[hv];exact oj))
    | ((with_reducible apply RunM.rd 42);exact rfl;(intro v hv;rw[hv];exact oj))
    | ((with_reducible apply RunM.rd 43);exact rfl;(intro v hv;rw[hv];exact oj))
    | ((with_reducible apply RunM.rd 44);exact rfl;(intro v hv;rw[hv];exact oj))
    | ((with_reducible apply RunM.rd 45);exact rfl;(intro v hv;rw[hv];exact oj))
    | ((with_reducible apply RunM.rd 46);exact rfl;(intro v hv;rw[hv];exact oj))
    | ((with_reducible apply RunM.rd 47);exact rfl;(intro v hv;rw[hv];exact oj))
    | ((with_reducible apply RunM.rd 48);exact rfl;(intro v hv;rw[hv];exact oj))
    | ((with_reducible apply RunM.rd 49);exact rfl;(intro v hv;rw[hv];exact oj))
    | ((with_reducible apply RunM.rd 50);exact rfl;(intro v hv;rw[hv];exact oj))
    | ((with_reducible apply RunM.rd 51);exact rfl;(intro v hv;rw[hv];exact oj))
    | ((with_reducible apply RunM.rd 52);exact rfl;(intro v hv;rw[hv];exact oj))
    | ((with_reducible apply RunM.rd 53);exact rfl;(intro v hv;rw[hv];exact oj))
    | ((with_reducible apply RunM.rd 54);exact rfl;(intro v hv;rw[hv];exact oj))
    | ((with_reducible apply RunM.rd 55);exact rfl;(intro v hv;rw[hv];exact oj))
    | ((with_reducible apply RunM.rd 56);exact rfl;(intro v hv;rw[hv];exact oj))
    | ((with_reducible apply RunM.rd 57);exact rfl;(intro v hv;rw[hv];exact oj))
    | ((with_reducible apply RunM.rd 58);exact rfl;(intro v hv;rw[hv];exact oj))
    | ((with_reducible apply RunM.rd 59);exact rfl;(intro v hv;rw[hv];exact oj))
    | ((with_reducible apply RunM.rd 60);exact rfl;(intro v hv;rw[hv];exact oj))
    | ((with_reducible apply RunM.rd 61);exact rfl;(intro v hv;rw[hv];exact oj))
    | ((with_reducible apply RunM.rd 62);exact rfl;(intro v hv;rw[hv];exact oj))
    | ((with_reducible apply RunM.rd 63);exact rfl;(intro v hv;rw[hv];exact oj))
    | ((with_reducible apply RunM.rd 64);exact rfl;(intro v hv;rw[hv];exact oj))
    | ((with_reducible apply RunM.rd 65);exact rfl;(intro v hv;rw[hv];exact oj))
    | ((with_reducible apply RunM.rd 66);exact rfl;(intro v hv;rw[hv];exact oj))
    | ((with_reducible apply RunM.rd 67);exact rfl;(intro v hv;rw[hv];exact oj))
    | ((with_reducible apply RunM.rd 68);exact rfl;(intro v hv;rw[hv];exact oj))
    | ((with_reducible apply RunM.rd 69);exact rfl;(intro v hv;rw[hv];exact oj))):RunM mks ns P ops V new i Γ os is:=h
def bk {α β:Type} {x:Option α} {f:α->Option β} {a:α} {r:β} (h:x=some a) (k:x.bind f=some r):f a=some r:=by rw[h] at k;exact k
inductive Wk:List (Nat×Ty)->List (Nat×Ty)->Prop
  | nil:Wk [] []
  | cons {s:Nat} {T T':Ty} {l m:List (Nat×Ty)} (e:∀F w v,T.ok F w v->T'.ok F w v) (h:Wk l m):Wk ((s,T)::l) ((s,T')::m)
def Wk.facts {l m:List (Nat×Ty)} (h:Wk l m):∀p∈m,∃q∈l,q.1=p.1/\∀F w v,q.2.ok F w v->p.2.ok F w v:=by
  induction h with
  | nil=>intro p hp;cases hp
  | @cons s T T' l m e h ih=>
    intro p hp;rcases Zm.1 hp with rfl | hp
    · exact⟨(s,T),by simp,rfl,e⟩
    · obtain⟨q,hq,h1,h2⟩:=ih p hp;exact⟨q,by simp[hq],h1,h2⟩
def St.wk {M:Fr} {w0 w:World} {n:Nat} {Γ Γ':List (Nat×Ty)} {As:List Atom} {a:Act} (h:St M w0 n Γ As a w) (k:Wk Γ Γ'):St M w0 n Γ' As a w:=⟨h.size,h.defers,h.grow,h.m0,h.own,h.fresh,h.apart,λp hp=>by obtain⟨q,hq,e,hw⟩:=k.facts p hp;rw[<-e];exact hw _ _ _ (h.Xo q hq)⟩
def wks {l m:List (Nat×Ty)} (h:Wk l m:=by
  repeat first
    | exact Wk.nil
    | (apply Wk.cons;(first | exact λ_ _ _ h=>h | exact λ_ _ _ h=>h.1 | exact λ_ _ _ h=>h.2))
  fail_if_success apply id):Wk l m:=h
section
variable {P:Program} {M:Fr} {w0:World} {n:Nat} {Γ Γ':List (Nat×Ty)} {As As':List Atom} {Q:Exit->Act->World->Prop} {K:Act->World->Prop} {c c1 c2:Code} {ops:List Oper} {is:List Info} {id:Nat} {draw:Bool}
def QyV (pk:List Nat) (hQ:Tr P M w0 n Γ' As c Q) (hrun:∀new,RunM [] lits P ops (verA As []) new 0 Γ ops is:=by intro new;exact runs)
    (hchk:chk ops is ((verA As []).map (·.ds)) (Γ.map (·.1)) As.length (verA As []).length n=true:=by kernel_rfl) (hA:∀new,QhY (verA As []) is new=As:=by intro new;rfl)
    (hG:∀new,Out (QbD (outG ops is Γ new) pk) Γ':=by intro new;exact outs) (hm:P.follows .mixedOrders=true:=by exact mx):Tr P M w0 n Γ As (Code.seq (Code.region id ops.toArray draw) c) Q:=λa w hst=>
  wp_seq (QbA hm [] hst (λnew=>hrun new Qzo) hchk λnew a' w' h=>hQ a' w' (by have:=h.pick pk;rw[hA new,(hG new).eq] at this;exact this))
def Qy6 (pk:List Nat) (hQ:To M w0 n Γ' As (Q .normal)) (hrun:∀new,RunM [] lits P ops (verA As []) new 0 Γ ops is:=by intro new;exact runs)
    (hchk:chk ops is ((verA As []).map (·.ds)) (Γ.map (·.1)) As.length (verA As []).length n=true:=by kernel_rfl) (hA:∀new,QhY (verA As []) is new=As:=by intro new;rfl)
    (hG:∀new,Out (QbD (outG ops is Γ new) pk) Γ':=by intro new;exact outs) (hm:P.follows .mixedOrders=true:=by exact mx):Tr P M w0 n Γ As (Code.region id ops.toArray draw) Q:=λa w hst=>
  QbA hm [] hst (λnew=>hrun new Qzo) hchk λnew a' w' h=>hQ a' w' (by have:=h.pick pk;rw[hA new,(hG new).eq] at this;exact this)
variable {Γn:(Nat->Value)->List (Nat×Ty)} {An:(Nat->Value)->List Atom}
def Qy5 (Ns:List Ver) (ms pk:List Nat) (hQ:∀new,Tr P M w0 n (Γn new) (An new) c Q) (hrun:∀new,RunM (As.map (λ_=>0)++ms) lits P ops (verA As Ns) new 0 Γ ops is:=by intro new;exact runs)
    (hchk:chk ops is ((verA As Ns).map (·.ds)) (Γ.map (·.1)) As.length (verA As Ns).length n=true:=by kernel_rfl) (hA:∀new,OutA (QhY (verA As Ns) is new) (An new):=by intro new;exact outA)
    (hG:∀new,Out (QbD (outG ops is Γ new) pk) (Γn new):=by intro new;exact outs) (hm:P.follows .mixedOrders=true:=by exact mx):Tr P M w0 n Γ As (Code.seq (Code.region id ops.toArray draw) c) Q:=λa w hst=>
  wp_seq (QbA hm Ns hst (λnew=>hrun new Qzo) hchk λnew a' w' h=>hQ new a' w' (by have:=h.pick pk;rw[(hA new).eq,(hG new).eq] at this;exact this))
def Qza (Ns:List Ver) (ms pk:List Nat) (hQ:∀new,To M w0 n (Γn new) (An new) (Q .normal)) (hrun:∀new,RunM (As.map (λ_=>0)++ms) lits P ops (verA As Ns) new 0 Γ ops is:=by intro new;exact runs)
    (hchk:chk ops is ((verA As Ns).map (·.ds)) (Γ.map (·.1)) As.length (verA As Ns).length n=true:=by kernel_rfl) (hA:∀new,OutA (QhY (verA As Ns) is new) (An new):=by intro new;exact outA)
    (hG:∀new,Out (QbD (outG ops is Γ new) pk) (Γn new):=by intro new;exact outs) (hm:P.follows .mixedOrders=true:=by exact mx):Tr P M w0 n Γ As (Code.region id ops.toArray draw) Q:=λa w hst=>
  QbA hm Ns hst (λnew=>hrun new Qzo) hchk λnew a' w' h=>hQ new a' w' (by have:=h.pick pk;rw[(hA new).eq,(hG new).eq] at this;exact this)
def QyY (h:∀K:Act->World->Prop,(∀{Γ As},Tr P M w0 n Γ As c2 Q->To M w0 n Γ As K)->Tr P M w0 n Γ As c1 (Exit.then K Q)):Tr P M w0 n Γ As (.seq c1 c2) Q:=λa w H=>wp_seq_k λK hK=>h K (λt a w H=>hK a w (t a w H)) a w H
def Qy2 (h:To M w0 n Γ As (Q .normal)):Tr P M w0 n Γ As .skip Q:=λa w H=>wp_skip (h a w H)
def Qy7 (h:To M w0 n Γ As (Q (.exit id))):Tr P M w0 n Γ As (.exit id) Q:=λa w H=>wp_exit (h a w H)
def Qy1 (h:Tr P M w0 n Γ As c (Exit.inBlock id Q)):Tr P M w0 n Γ As (.block id c) Q:=λa w H=>wp_block (h a w H)
def Qy0 {s:Nat} {b:Bool} {α:Type} {x y:Option α} {r:α} (h:(if b=true then x else y)=some r) (ht:b=true->x=some r->Tr P M w0 n ((s,tv (.bool b))::Γ) As c1 Q) (hf:b=false->y=some r->Tr P M w0 n ((s,tv (.bool b))::Γ) As c2 Q): Tr P M w0 n ((s,tv (.bool b))::Γ) As (.cond (.tmp s) c1 c2) Q:=λa w H=>wi H h (λe q=>ht e q a w H) (λe q=>hf e q a w H)
def Qzk (i:Nat) {s:Nat} {b:Bool} (ht:b=true->Tr P M w0 n Γ As c1 Q) (hf:b=false->Tr P M w0 n Γ As c2 Q) (hi:Γ[i]?=some (s,tv (.bool b)):=by rfl):Tr P M w0 n Γ As (.cond (.tmp s) c1 c2) Q:=λa w H=>Qsp i H hi (λe=>ht e a w H) (λe=>hf e a w H)
def QBO (i:Nat) {s:Nat} {α:Type} {xs:List α} (ht:xs=[]->Tr P M w0 n Γ As c1 Q) (hf:Tr P M w0 n Γ As c2 Q) (hi:Γ[i]?=some (s,tnil xs false):=by rfl):Tr P M w0 n Γ As (.cond (.tmp s) c1 c2) Q:=λa w H=>Qfp i H hi (λe=>ht e a w H) (hf a w H)
def Qzh {a:Act} {w:World} (H:St M w0 n Γ As a w) (k:To M w0 n Γ As K):K a w:=k a w H
def Qze {a:Act} {w:World} (H:St M w0 n Γ As a w) (k:Tr P M w0 n Γ As c Q):c.wp P Q a w:=k a w H
def tIfs {s:Nat} {b:Bool} {α:Type} {x y:Option α} {r:α} (h:(if b=true then x else y)=some r) (pk:List Nat) (ht:b=true->x=some r->Tr P M w0 n ((s,tv (.bool b))::Γ') As c1 (Exit.then (λa w=>c2.wp P Q a w) Q)) (hf:b=false->y=some r->Tr P M w0 n ((s,tv (.bool b))::Γ') As c2 Q)
    (hrun:∀new,RunM [] lits P ops (verA As []) new 0 Γ ops is:=by intro new;exact runs)
    (hchk:chk ops is ((verA As []).map (·.ds)) (Γ.map (·.1)) As.length (verA As []).length n=true:=by kernel_rfl) (hA:∀new,QhY (verA As []) is new=As:=by intro new;rfl)
    (hG:∀new,Out (QbD (outG ops is Γ new) pk) ((s,tv (.bool b))::Γ'):=by intro new;exact outs) (hm:P.follows .mixedOrders=true:=by exact mx):Tr P M w0 n Γ As (Code.seq (Code.seq (Code.region id ops.toArray draw) (Code.cond (.tmp s) c1 .skip)) c2) Q:=λa w H=>
  wp_seq (QyV pk (Qy0 h ht λe q=>Qy2 λa w H=>hf e q a w H) hrun hchk hA hG hm a w H)
def Qy9 (f:∀a w,St M w0 n Γ As a w->St M w0 n Γ' As' a w) {Γ'':List (Nat×Ty)} {As'':List Atom} (k:Tr P M w0 n Γ'' As'' c Q) (e:Out Γ' Γ'':=by exact outs) (e2:OutA As' As'':=by exact outB):Tr P M w0 n Γ As c Q:=λa w H=>k a w (by have:=f a w H;rw[e.eq,e2.eq] at this;exact this)
def Qzc (f:∀a w,St M w0 n Γ As a w->St M w0 n Γ' As' a w) {Γ'':List (Nat×Ty)} {As'':List Atom} (k:To M w0 n Γ'' As'' K) (e:Out Γ' Γ'':=by exact outs) (e2:OutA As' As'':=by exact outB):To M w0 n Γ As K:=λa w H=>k a w (by have:=f a w H;rw[e.eq,e2.eq] at this;exact this)
def tWeak (k:Tr P M w0 n Γ' As c Q) (e:Wk Γ Γ':=by exact wks):Tr P M w0 n Γ As c Q:=λa w H=>k a w (H.wk e)
def Qy3 (k:To M w0 n Γ' As K) (pk:List Nat) (e:Wk (QbD Γ pk) Γ':=by exact wks):To M w0 n Γ As K:=λa w H=>k a w ((H.pick pk).wk e)
def Qy4 {τ:Type} {C:τ->Prop} {Γi:τ->List (Nat×Ty)} {Ai:τ->List Atom} (k:∀p,C p->To M w0 n (Γi p) (Ai p) K) {p:τ} (e:C p) (pk:List Nat) (e1:Wk (QbD Γ pk) (Γi p):=by exact wks) (e2:As=Ai p:=by rfl):To M w0 n Γ As K:=λa w H=>k p e a w (e2▸(H.pick pk).wk e1)
def Qy8 {τ ν:Type} {C:τ->Prop} {Γi:τ->ν->List (Nat×Ty)} {Ai:τ->ν->List Atom} (k:∀p v,C p->To M w0 n (Γi p v) (Ai p v) K) (v:ν) {p:τ} (e:C p) (pk:List Nat) (e1:Wk (QbD Γ pk) (Γi p v):=by exact wks) (e2:As=Ai p v:=by rfl):To M w0 n Γ As K:=λa w H=>k p v e a w (e2▸(H.pick pk).wk e1)
def QBQ {τ ν μ:Type} {C:τ->Prop} {Γi:τ->ν->μ->List (Nat×Ty)} {Ai:τ->ν->μ->List Atom} (k:∀p v u,C p->To M w0 n (Γi p v u) (Ai p v u) K) (v:ν) (u:μ) {p:τ} (e:C p) (pk:List Nat) (e1:Wk (QbD Γ pk) (Γi p v u):=by exact wks) (e2:As=Ai p v u:=by rfl):To M w0 n Γ As K:=λa w H=>k p v u e a w (e2▸(H.pick pk).wk e1)
def Qzb {σ ρ:Type} {body:σ->Option (σ⊕ρ)} {out:ρ} {s0:σ} (h:Qz body s0=some out) (Γi:σ->List (Nat×Ty)) (Ai:σ->List Atom) (pk:List Nat)
    (round:∀s o K,body s=some o->(∀r,o=.inr r->r=out)->(∀s',o=.inl s'->To M w0 n (Γi s') (Ai s') K)->Tr P M w0 n (Γi s) (Ai s) c (Exit.then K Q)) (e:Wk (QbD Γ pk) (Γi s0):=by exact wks) (e2:As=Ai s0:=by rfl):Tr P M w0 n Γ As (.loop c) Q:=λa w H=>
  Qag body (λs a w=>St M w0 n (Γi s) (Ai s) a w) out s0 h (e2▸(H.pick pk).wk e) λs o a w K hI hb ho hk=>round s o K hb ho (λs' q a w H=>hk s' a w q H) a w hI
def Qzf {σ ρ τ:Type} {body:σ->Option (σ⊕ρ)} {out:ρ} {s0:σ} (h:Qz body s0=some out) (Γi:σ->τ->List (Nat×Ty)) (Ai:σ->τ->List Atom) (v0:τ) (pk:List Nat)
    (round:∀s v o K,body s=some o->(∀r,o=.inr r->r=out)->(∀s' v',o=.inl s'->To M w0 n (Γi s' v') (Ai s' v') K)->Tr P M w0 n (Γi s v) (Ai s v) c (Exit.then K Q)) (e:Wk (QbD Γ pk) (Γi s0 v0):=by exact wks) (e2:As=Ai s0 v0:=by rfl):Tr P M w0 n Γ As (.loop c) Q:=λa w H=>
  Qag body (λs a w=>∃v,St M w0 n (Γi s v) (Ai s v) a w) out s0 h ⟨v0,e2▸(H.pick pk).wk e⟩ λs o a w K ⟨v,hI⟩ hb ho hk=>round s v o K hb ho (λs' v' q a w H=>hk s' a w q ⟨v',H⟩) a w hI
def tLoopW {σ ρ τ μ:Type} {body:σ->Option (σ⊕ρ)} {out:ρ} {s0:σ} (h:Qz body s0=some out) (Γi:σ->τ->μ->List (Nat×Ty)) (Ai:σ->τ->μ->List Atom) (v0:τ) (u0:μ) (pk:List Nat)
    (round:∀s v u o K,body s=some o->(∀r,o=.inr r->r=out)->(∀s' v' u',o=.inl s'->To M w0 n (Γi s' v' u') (Ai s' v' u') K)->Tr P M w0 n (Γi s v u) (Ai s v u) c (Exit.then K Q)) (e:Wk (QbD Γ pk) (Γi s0 v0 u0):=by exact wks) (e2:As=Ai s0 v0 u0:=by rfl):Tr P M w0 n Γ As (.loop c) Q:=λa w H=>
  Qag body (λs a w=>∃v,∃u,St M w0 n (Γi s v u) (Ai s v u) a w) out s0 h ⟨v0,u0,e2▸(H.pick pk).wk e⟩ λs o a w K ⟨v,u,hI⟩ hb ho hk=>round s v u o K hb ho (λs' v' u' q a w H=>hk s' a w q ⟨v',u',H⟩) a w hI
def Fe {f:FuncId} {fn:Func} {c:Code} {Ts:List Ty} {E:List Atom} {N:Value->List Atom} {T:Value->Ty} (hf:P.funcs[f]?=some fn) (hn:fn.ntmps=n)
    (h:∀M0 M w,Qdd M0 E M->Tr P M w n Γ' E c (Ret P fn M0 E w N T)) (hb:fn.body=some c:=by rfl) (hl:Ts.length<=n:=by exact Nat.le_of_ble_eq_true rfl) (e:Out (zip [0,1,2,3,4,5,6,7,8,9,10,11,12,13,14,15] Ts) Γ':=by exact outs) (e2:ents Ts=zip [0,1,2,3,4,5,6,7,8,9,10,11,12,13,14,15] Ts:=by rfl):FnOk P f Ts E N T:=
  FnOk.enter hf hb hn hl λM0 M w a hp H=>h M0 M w hp a w (by rw[e2,e.eq] at H;exact H)
def Qzd (h:To M w0 n Γ As (Q .ret)):Tr P M w0 n Γ As .ret Q:=λa w H=>wp_ret (h a w H)
section
variable {A B0 B1 B2 B3 B4 B5:Atom} {l:List Atom}
def at0:(A::l)[0]?=some A:=rfl
def at1:(B0::A::l)[1]?=some A:=rfl
def at2:(B0::B1::A::l)[2]?=some A:=rfl
def at3:(B0::B1::B2::A::l)[3]?=some A:=rfl
def at4:(B0::B1::B2::B3::A::l)[4]?=some A:=rfl
def at5:(B0::B1::B2::B3::B4::A::l)[5]?=some A:=rfl
def at6:(B0::B1::B2::B3::B4::B5::A::l)[6]?=some A:=rfl
end
def QyZ {α:Type} {e r:α} (h:some e=some r) (k:e=r->To M w0 n Γ As (Q .ret)):Tr P M w0 n Γ As .ret Q:=Qzd (k (Zz h))
def resOk {rs:List ResultVar} {Ts:List Ty} (h:Qh1 P Γ As rs Ts:=by
  repeat first
    | exact .nil
    | ((with_reducible apply Qh1.tmp);exact .a)
    | ((with_reducible apply Qh1.cell);exact TokI.ok;exact .a;(first | exact at0 | exact at1 | exact at2 | exact at3 | exact at4 | exact at5 | exact at6);exact rfl)
  fail_if_success apply id):Qh1 P Γ As rs Ts:=h
def Qzj (P:Program) (Γ:List (Nat×Ty)) (As:List Atom) (fn:Func) (T:Ty):Prop:=∃rs Ts,fn.results=rs.toArray/\Qh1 P Γ As rs Ts/\T=QlF Ts
def Qzj.one {fn:Func} {rs:List ResultVar} {T T1:Ty} (hrs:fn.results=rs.toArray) (hT:T=T1) (h:Qh1 P Γ As rs [T1]):Qzj P Γ As fn T:=⟨rs,[T1],hrs,h,hT⟩
def Qzj.tup {fn:Func} {rs:List ResultVar} {T:Ty} {Ts:List Ty} (hrs:fn.results=rs.toArray) (hT:T=ttup Ts) (hl:QlF Ts=ttup Ts) (h:Qh1 P Γ As rs Ts):Qzj P Γ As fn T:=⟨rs,Ts,hrs,h,hT.trans hl.symm⟩
def rets {fn:Func} {T:Ty} (h:Qzj P Γ As fn T:=by
  first
  | (apply Qzj.one;exact rfl;exact rfl;exact resOk)
  | (apply Qzj.tup;exact rfl;exact rfl;exact rfl;exact resOk)):Qzj P Γ As fn T:=h
def QyX {fn:Func} {M0:Blk} {E:List Atom} {N:Value->List Atom} {T:Value->Ty} (hpl:Qdd M0 E M) (h:Qzj P Γ As fn (T undef):=by exact rets)
    (hN:([]:List Atom)=N undef:=by rfl):To M w0 n Γ As (Ret P fn M0 E w0 N T .ret):=λa w H=>by
  obtain⟨rs,Ts,hrs,h,hT⟩:=h;exact Qj6 undef [] hpl H hrs h rfl hN hT
def Qzi {fn:Func} {M0:Blk} {E:List Atom} {N:Value->List Atom} {T:Value->Ty} (x:Value) (ks:List Nat) (hpl:Qdd M0 E M) (h:Qzj P Γ As fn (T x):=by exact rets) (hd:Qcd ks=true:=by rfl)
    (hN:ks.filterMap (λi=>As[i]?)=N x:=by rfl):To M w0 n Γ As (Ret P fn M0 E w0 N T .ret):=λa w H=>by
  obtain⟨rs,Ts,hrs,h,hT⟩:=h;exact Qj6 x ks hpl H hrs h hd hN hT
def QBP {fn:Func} {M0:Blk} {E:List Atom} {N:Value->List Atom} {T:Value->Ty} (x:Value) (ks:List Nat) (hpl:Qdd M0 E M) (h:Qzj P Γ As fn (T x):=by exact rets) (hd:Qcd ks=true:=by rfl)
    (hN:ks.filterMap (λi=>As[i]?)=N x:=by rfl):To M w0 n Γ As (Ret P fn M0 E w0 N T .normal):=λa w H=>by
  obtain⟨rs,Ts,hrs,h,hT⟩:=h;exact QeU x ks hpl H hrs h hd hN hT
end

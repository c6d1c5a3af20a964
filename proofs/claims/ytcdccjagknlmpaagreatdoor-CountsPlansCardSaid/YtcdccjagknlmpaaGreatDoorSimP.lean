/- The logic's sixteenth part: strings, arrays, values of interfaces, function values, what is given away in a region. No condition. -/
import Derived.Test.YtcdccjagknlmpaaGreatDoorSimG
import Derived.Lib.ConvBytes
import Derived.Lib.AppendStr
import Derived.Lib.UnsafeStr
import Derived.Lib.Builder
import Derived.Laws.Externs
import Derived.RangeFuncNested
import Derived.RangeFuncCalls
import Derived.TacticsInMore
import Derived.OrdersIn
import Derived.RangeFuncRecord
namespace Go.Sim

abbrev Str:=List UInt8
def sB (l:Str):ByteArray:=⟨l.toArray⟩
theorem Qvz (b:ByteArray):b.size=b.data.toList.length:=rfl
theorem QfO (l:Str):(sB l).size=l.length:=by simp[sB,ByteArray.size]
theorem QqH (b:ByteArray):∀(n i:Nat) (r:List UInt8),b.size - i=n→i≤b.size→ByteArray.toList.loop b i r=r.reverse++b.data.toList.drop i:=by
 intro n
 induction n with
 | zero=>
  intro i r h hi
  unfold ByteArray.toList.loop
  have:¬i<b.size:=by omega
  rw[if_neg this]
  have h2:b.data.toList.length≤i:=by rw[←Qvz];omega
  rw[List.drop_eq_nil_of_le h2,List.append_nil]
 | succ n ih=>
  intro i r h hi
  unfold ByteArray.toList.loop
  have hlt:i<b.size:=by omega
  have hlt':i<b.data.toList.length:=hlt
  rw[if_pos hlt,ih (i+1) _ (by omega) (by omega),List.drop_eq_getElem_cons hlt']
  have:b.get! i=b.data.toList[i]:=by
   show b.data[i]! =_
   rw[getElem!_pos b.data i hlt];rfl
  rw[this];simp
theorem Qqh (l:Str):(sB l).toList=l:=by
 unfold ByteArray.toList
 rw[QqH (sB l) _ 0 [] rfl (Nat.zero_le _)]
 rfl
theorem Qta (a b:Str):sB a++sB b=sB (a++b):=by
 apply ByteArray.ext
 simp[sB]
theorem Ql8 (l:Str) (i j:Nat):(sB l).extract i j=sB ((l.drop i).take (j - i)):=by
 apply ByteArray.ext
 simp[sB,List.extract_toArray]
theorem sB_get (l:Str) (i:Nat):(sB l)[i]?=l[i]?:=by
 by_cases h:i<l.length
 ·have h':i<(sB l).size:=by rw[QfO];exact h
  rw[getElem?_pos (sB l) i h',getElem?_pos l i h];rfl
 ·have h':¬i<(sB l).size:=by rw[QfO];exact h
  rw[getElem?_neg (sB l) i h',getElem?_neg l i h]
@[reducible] def rS : Rep Str := ⟨fun x => [tv (.string (sB x))],1,false,fun _ => rfl,fun x T h F w v hv => by simp at h; subst h; have : v = _ := hv; subst this; rfl,fun _ => rfl⟩
def cat (n:Nat):Option Unit:=if n≤9223372036854775807 then some () else none

section
variable {Γ:List (Nat×Ty)} {P:Program} {d:Option Tmp} {ty:TypeId} {pos:String} {af:Array Edge} {g:Option (Nat×Bool)} {x y:Operand} {T:Ty} {t t2 e:TypeId} {α:Type} {R:Rep α} {bytes:Nat} {z:Value} {a b:Str}

theorem Qbf (hx:Fct Γ x (tv (.string (sB a)))) (hy:Fct Γ y (tv (.string (sB b)))):OpJ P ⟨d,.binOp .eql t x y t2,ty,pos,af,g⟩ Γ [] [] (fun _=>[]) (fun _=>tv (.bool (a==b))):=
 Qcn hx hy fun w=>by simp[eqGuard,binOp,Op.stringOp,Qqh]
theorem Qfc (hx:Fct Γ x (tv (.string (sB a)))) (hy:Fct Γ y (tv (.string (sB b)))):OpJ P ⟨d,.binOp .neq t x y t2,ty,pos,af,g⟩ Γ [] [] (fun _=>[]) (fun _=>tv (.bool (a !=b))):=
 Qcn hx hy fun w=>by simp[eqGuard,binOp,Op.stringOp,Qqh,bne]
theorem Qan (hx:Fct Γ x (tv (.string (sB a)))) (hy:Fct Γ y (tv (.string (sB b)))) (h:cat (a.length+b.length)=some ()):OpJ P ⟨d,.binOp .add t x y t2,ty,pos,af,g⟩ Γ [] [] (fun _=>[]) (fun _=>tv (.string (sB (a++b)))):=
 Qcn hx hy fun w=>by
  have hl:¬(((sB a).size+(sB b).size:Nat):Int)>IntKind.i64.max:=by
   unfold cat at h
   split at h
   ·rename_i h';rw[QfO,QfO];simp[IntKind.max,IntKind.bits,IntKind.signed];omega
   ·cases h
  simp only[eqGuard,binOp,Op.stringOp]
  rw[if_neg hl,Qta]
  simp
theorem op_lenS' (ht:P.underlying t=some .string) (hx:Fct Γ x (tv (.string (sB a)))):OpJ P ⟨d,.call { callee:=.builtin .len,args:=#[x],argTypes:=#[t] },ty,pos,af,g⟩ Γ [] [] (fun _=>[]) (fun _=>tv (.int .i64 (a.length:Int))):=by
 have:=Qvt (P:=P) (Γ:=Γ) (d:=d) (ty:=ty) (pos:=pos) (af:=af) (g:=g) ht hx
 rwa [QfO] at this
theorem QnE {i:Int} {k:IntKind} {u:UInt8} (ht:P.underlying t=some .string) (hx:Fct Γ x (tv (.string (sB a)))) (hi:Fct Γ y (tv (.int k i))) (h:idx a i=some u):
  OpJ P ⟨d,.index t x y,ty,pos,af,g⟩ Γ [] [] (fun _=>[]) (fun _=>tv (.int .u8 (u.toNat:Int))):=
 QaC fun F w A he=>by
  have h1:=hx.val (by simp[Op.operands]) he
  have h2:=hi.val (by simp[Op.operands]) he
  unfold idx at h
  split at h
  ·rename_i h0
   refine⟨_,?_,rfl⟩
   simp[execOp,h1,h2,Instr.index,asIntOf,run_underlying ht,h0,sB_get,h]
  ·cases h
theorem QpD {lo hi:Option Operand} {i j:Int} {r:Str} (ht:P.underlying t=some .string) (hx:Fct Γ x (tv (.string (sB a)))) (hlo:Bd Γ lo 0 i) (hhi:Bd Γ hi (a.length:Int) j) (h:sub a i j=some r):
  OpJ P ⟨d,.slice t x lo hi none,ty,pos,af,g⟩ Γ [] [] (fun _=>[]) (fun _=>tv (.string (sB r))):=
 QaC fun F w A he=>by
  have h1:=hx.val (by simp[Op.operands]) he
  have h2:=hlo.use (fun y hy=>by simp[Op.operands,hy]) he
  have h3:=hhi.use (fun y hy=>by simp[Op.operands,hy]) he
  unfold sub at h
  split at h
  ·rename_i h0
   obtain⟨c1,c2,c3⟩:=h0
   obtain rfl:=Option.some.inj h
   refine⟨_,?_,rfl⟩
   have hj:j≤((sB a).size:Int):=by rw[QfO];exact c3
   have c2':i≤(j.toNat:Int):=by omega
   have hj0:0≤j:=by omega
   have hm:max j 0=j:=by omega
   have c2n:¬j<i:=by omega
   rcases h2 with⟨h2,rfl⟩ | ⟨k2,h2⟩<;>rcases h3 with⟨h3,rfl⟩ | ⟨k3,h3⟩
   ·simp[execOp,h1,h2,h3,Instr.sliceAt,Instr.slice,Instr.sliceBounds,run_underlying ht]
   ·simp[execOp,h1,h2,h3,Instr.sliceAt,Instr.slice,Instr.sliceBounds,Instr.sliceBound,asIntOf,run_underlying ht,Ql8,hj,hj0]
   ·simp[execOp,h1,h2,h3,Instr.sliceAt,Instr.slice,Instr.sliceBounds,Instr.sliceBound,asIntOf,run_underlying ht,Ql8,QfO,c1,c2]
   ·simp[execOp,h1,h2,h3,Instr.sliceAt,Instr.slice,Instr.sliceBounds,Instr.sliceBound,asIntOf,run_underlying ht,Ql8,hj,hj0,c1,hm,c2]
  ·cases h

/-! Pointers that are not nil -/

theorem Qr0 {Ts:List Ty} (hx:Fct Γ x (tptr Ts)):OpJ P ⟨d,.nilCheck x,ty,pos,af,g⟩ Γ [] [] (fun _=>[]) (fun _=>tptr Ts):=
 QaC fun F w A he=>by
  have h:=hx.use (by simp[Op.operands]) he
  obtain⟨b,off,hv,r⟩:=h
  exact⟨_,by simp[execOp,hv],b,off,rfl,r⟩
theorem QaU {Ts:List Ty} {q:Value} (hx:Fct Γ x (tv q)):OpJ P ⟨d,.nilCheck x,ty,pos,af,g⟩ Γ [box Ts q] [] (fun _=>[]) (fun _=>tv q):=
 QdB fun M w A hU he=>by
  have h:=hx.val (by simp[Op.operands]) he
  obtain⟨b,cur,e,hq,_⟩:=hU _ (List.mem_singleton.2 rfl)
  subst hq
  exact⟨_,by simp[execOp,h],rfl⟩

/-! Arrays behind a pointer -/

theorem Qhe {n:Nat} {k:IntKind} {i:Int} {b off:Nat} (ht:P.underlying t=some (.array n e)) (hz:TOk P e R bytes z) (w:World) (h0:0≤i) (h1:i<n):
  (Instr.indexAt t (.pointer (some ⟨b,off,none⟩)) (.int k i)).run P w=.ok (.pointer (some ⟨b,off+i.toNat * R.n,none⟩)) w:=by
 obtain⟨ti,hti,_,hs,_⟩:=hz.info
 simp[Instr.indexAt,Instr.sureAddr,run_underlying ht,asIntOf,h0,h1,sizeOf,typeInfo,hti,hs,QaN]
/-- An element of an array of which much is known. -/
theorem Qiu {n:Nat} {k:IntKind} {i:Int} {Ts:List Ty} (j:Nat) (hj:i=j) (ht:P.underlying t=some (.array n e)) (hz:TOk P e R bytes z) (hx:Fct Γ x (tptr Ts)) (hi:Fct Γ y (tv (.int k i))) (h1:j<n):
  OpJ P ⟨d,.indexAddr t x y,ty,pos,af,g⟩ Γ [] [] (fun _=>[]) (fun _=>tptr (Ts.drop (j * R.n))):=
 QaC fun F w A he=>by
  obtain⟨b,o,hv,hb,hr⟩:=hx.use (by simp[Op.operands]) he
  have h2:=hi.val (by simp[Op.operands]) he
  subst hj
  refine⟨_,?_,b,o+j * R.n,rfl,hb,hr.part _⟩
  simp only[execOp,hv,h2,Sem.run_bind,Qhe ht hz w (Int.natCast_nonneg j) (Int.ofNat_lt.2 h1),Result.andThen_ok,Sem.run_pure,Int.toNat_natCast]
/-- An element of an array of like elements. -/
theorem Qq9 {n:Nat} {k:IntKind} {i:Int} {xs:List α} {u:α} (ht:P.underlying t=some (.array n e)) (hz:TOk P e R bytes z) (hx:Fct Γ x (tptr (xs.flatMap R.cs))) (hi:Fct Γ y (tv (.int k i))) (hn:xs.length=n) (h:idx xs i=some u):
  OpJ P ⟨d,.indexAddr t x y,ty,pos,af,g⟩ Γ [] [] (fun _=>[]) (fun _=>tptr (R.cs u)):=
 QaC fun F w A he=>by
  obtain⟨b,o,hv,hb,hr⟩:=hx.use (by simp[Op.operands]) he
  have h2:=hi.val (by simp[Op.operands]) he
  unfold idx at h
  split at h
  ·rename_i h0
   have hlt:i.toNat<xs.length:=(List.getElem?_eq_some_iff.1 h).1
   refine⟨_,?_,b,o+i.toNat * R.n,rfl,hb,hr.elem h⟩
   simp only[execOp,hv,h2,Sem.run_bind,Qhe ht hz w h0 (show i<(n:Int) by omega),Result.andThen_ok,Sem.run_pure]
  ·cases h

/-! Values of interfaces that hold a number or a string -/

inductive AnyV where
 | int (n:Int)
 | str (s:Str)
deriving Inhabited
/-- ti, ts: the numbers of the types int and string. -/
def AnyV.val (ti ts:TypeId):AnyV→Value
 | .int n=>.iface ti (.int .i64 n)
 | .str s=>.iface ts (.string (sB s))
@[reducible] def rAny (ti ts : TypeId) : Rep AnyV := ⟨fun x => [tv (x.val ti ts)],1,false,fun _ => rfl,fun x T h F w v hv => by simp at h; subst h; have : v = _ := hv; subst this; cases x <;> rfl,fun _ => rfl⟩
def AnyV.asInt:AnyV→Int×Bool | .int n=>(n,true) | .str _=>(0,false)
def AnyV.asStr:AnyV→Str×Bool | .int _=>([],false) | .str s=>(s,true)
theorem Qem {ti ts:TypeId} {n:Int} (ht:P.underlying ti=some (.int .i64)) (hx:Fct Γ x (tv (.int .i64 n))):OpJ P ⟨d,.makeInterface ti x,ty,pos,af,g⟩ Γ [] [] (fun _=>[]) (fun _=>tv (AnyV.val ti ts (.int n))):=
 QaC fun F w A he=>⟨_,by simp[execOp,Instr.makeInterface,run_underlying ht,hx.val (by simp[Op.operands]) he,AnyV.val],rfl⟩
theorem QcO {ti ts:TypeId} {s:Str} (ht:P.underlying ts=some .string) (hx:Fct Γ x (tv (.string (sB s)))):OpJ P ⟨d,.makeInterface ts x,ty,pos,af,g⟩ Γ [] [] (fun _=>[]) (fun _=>tv (AnyV.val ti ts (.str s))):=
 QaC fun F w A he=>⟨_,by simp[execOp,Instr.makeInterface,run_underlying ht,hx.val (by simp[Op.operands]) he,AnyV.val],rfl⟩
theorem op_asI {ti ts:TypeId} {u:AnyV} (hne:ti≠ts) (hz:TOk P ti rI 8 (.int .i64 0)) (ht:P.underlying ti=some (.int .i64)) (hx:Fct Γ x (tv (u.val ti ts))):OpJ P ⟨d,.typeAssert x t ti true,ty,pos,af,g⟩ Γ [] [] (fun _=>[]) (fun _=>ttup [tv (.int .i64 u.asInt.1),tv (.bool u.asInt.2)]):=
 QaC fun F w A he=>by
  have h:=hx.val (by simp[Op.operands]) he
  obtain⟨i,hi,hz0,_⟩:=hz.info
  cases u with
  | int n=>exact⟨_,by simp[execOp,Instr.typeAssert,h,AnyV.val,run_underlying ht],[.int .i64 n,.bool true],rfl,.cons rfl (.cons rfl .nil)⟩
  | str s=>exact⟨_,by simp[execOp,Instr.typeAssert,h,AnyV.val,run_underlying ht,Ne.symm hne,zeroValue,typeInfo,hi,hz0],[.int .i64 0,.bool false],rfl,.cons rfl (.cons rfl .nil)⟩
theorem op_asS {ti ts:TypeId} {u:AnyV} (hne:ti≠ts) (hz:TOk P ts rS 16 (.string .empty)) (ht:P.underlying ts=some .string) (hx:Fct Γ x (tv (u.val ti ts))):OpJ P ⟨d,.typeAssert x t ts true,ty,pos,af,g⟩ Γ [] [] (fun _=>[]) (fun _=>ttup [tv (.string (sB u.asStr.1)),tv (.bool u.asStr.2)]):=
 QaC fun F w A he=>by
  have h:=hx.val (by simp[Op.operands]) he
  obtain⟨i,hi,hz0,_⟩:=hz.info
  cases u with
  | int n=>exact⟨_,by simp[execOp,Instr.typeAssert,h,AnyV.val,run_underlying ht,hne,zeroValue,typeInfo,hi,hz0],[.string .empty,.bool false],rfl,.cons rfl (.cons rfl .nil)⟩
  | str s=>exact⟨_,by simp[execOp,Instr.typeAssert,h,AnyV.val,run_underlying ht],[.string (sB s),.bool true],rfl,.cons rfl (.cons rfl .nil)⟩

/-! Function values of any kind -/

/-- A function value that gives p, where it is given what E says besides. -/
def tfn (P:Program) (E:List Atom) {A B:Type} (Ts:A→List Ty) (Tr:B→Ty) (p:A→Option B):Ty:=
 ⟨fun F w v=>∃(f:FuncId) (Tf Tc:List Ty) (fs cs:List Value),v=.func (.func f) fs.toArray cs.toArray∧Q3 Tf F w fs∧Q3 Tc F w cs∧Qp P f∧∀x b,p x=some b→FnOk P f (Tf++(Ts x++Tc)) E (fun _=>[]) (fun _=>Tr b),
  fun hF hh ⟨f,Tf,Tc,fs,cs,h,h1,h2,r⟩=>⟨f,Tf,Tc,fs,cs,h,Q3.keep hF hh h1,Q3.keep hF hh h2,r⟩⟩
theorem Qcv {E:List Atom} {A B:Type} {Ts:A→List Ty} {Tr:B→Ty} {p:A→Option B} {f:FuncId} {Tc:List Ty} (hc:Qp P f) (h:∀x b,p x=some b→FnOk P f (Ts x++Tc) E (fun _=>[]) (fun _=>Tr b)):∀F w v,(Qeu f Tc).ok F w v→(tfn P E Ts Tr p).ok F w v:=
 fun _ _ _ ⟨cs,hv,hcs⟩=>⟨f,[],Tc,[],cs,hv,.nil,hcs,hc,h⟩
theorem Qfd {E:List Atom} {A B:Type} {Ts:A→List Ty} {Tr:B→Ty} {p:A→Option B}:One (tfn P E Ts Tr p):=fun _ _ _ ⟨_,_,_,_,_,h,_⟩=>by rw[h];rfl
/-- A method's value: the receiver ahead of the arguments. -/
def tbm (f:FuncId) (Tf:List Ty):Ty:=⟨fun F w v=>∃fs:List Value,v=.func (.func f) fs.toArray #[]∧Q3 Tf F w fs,fun hF hh ⟨fs,h,h1⟩=>⟨fs,h,Q3.keep hF hh h1⟩⟩
theorem tfn_bm {E:List Atom} {A B:Type} {Ts:A→List Ty} {Tr:B→Ty} {p:A→Option B} {f:FuncId} {Tf:List Ty} (hc:Qp P f) (h:∀x b,p x=some b→FnOk P f (Tf++Ts x) E (fun _=>[]) (fun _=>Tr b)):∀F w v,(tbm f Tf).ok F w v→(tfn P E Ts Tr p).ok F w v:=
 fun _ _ _ ⟨fs,hv,h1⟩=>⟨f,Tf,[],fs,[],hv,h1,.nil,hc,fun x b hq=>by rw[List.append_nil];exact h x b hq⟩
theorem QvA {fid:FuncId} {xs:List Operand} {Tf:List Ty} (h:Caps Γ xs Tf):OpJ P ⟨d,.makeFunc (.func fid) xs.toArray #[],ty,pos,af,g⟩ Γ [] [] (fun _=>[]) (fun _=>tbm fid Tf):=
 QaC fun F w a he=>⟨.func (.func fid) (xs.map a.eval).toArray #[],by simp[execOp,Instr.makeFunc],xs.map a.eval,rfl,h.cells (fun p hp hx=>he p hp (by simp[Op.operands,hx]))⟩
theorem Qtb {f:Operand} {fid:FuncId} {fs caps:List Value} {xs:List Operand} {ts:Array TypeId} {w:World} {a:Act} (hc:Qp P fid) (hf:a.eval f=.func (.func fid) fs.toArray caps.toArray):
  (execOp a.eval (⟨d,.call { callee:=.value f,args:=xs.toArray,argTypes:=ts },ty,pos,af,g⟩:Oper)).run P w=.ok (.enter fid (fs++(xs.map a.eval++caps)).toArray) w:=by
 obtain⟨fn,h1,h2,h3⟩:=hc
 simp only[execOp,resolve,Deferred.ofValue,hf,invoke,callFunc,Sem.run_bind,Sem.run_pure,run_program,Result.andThen_ok,h1,h2,h3,Bool.false_eq_true,if_false,List.map_toArray]
 simp
end

end Go.Sim

namespace Go.Sim

theorem QkB {α:Type} (R:Rep α) {x:α}:∀T,T∈R.cs x→One T:=fun T h=>R.one x T h
theorem Qiv {Ts Us:List Ty} (h:∀T,T∈Ts→One T) (k:∀T,T∈Us→One T):∀T,T∈Ts++Us→One T:=fun T hT=>(List.mem_append.1 hT).elim (h T) (k T)
/-- Cells of which some are owned. -/
@[reducible] def rAgg (Us : List Ty) (h : ∀ T,T ∈ Us → One T) : Rep Unit := ⟨fun _ => Us,Us.length,true,fun _ => rfl,fun _ => h,fun h => by cases h⟩
theorem tokA {P:Program} {t:TypeId} {α:Type} {R:Rep α} {b:Nat} {z:Value} (hz:TOk P t R b z) {Us:List Ty} (h:∀T,T∈Us→One T) (hn:Us.length=R.n) (ha:R.agg=true):TOk P t (rAgg Us h) b z:=
 ⟨by obtain⟨d,h1,h2⟩:=hz.d;exact⟨d,h1,h2.trans ha⟩,by show _=some (some z,Us.length,b);rw[hn];exact hz.i,by show _=Us.length;rw[hn];exact hz.zc⟩
/-- The i-th of what a call hides. -/
def gh (x:Value) (i:Nat):Value:=match x with | .tuple a=>a.getD i undef | _=>undef
section
variable {Γ:List (Nat×Ty)} {P:Program} {d:Option Tmp} {ty:TypeId} {pos:String} {af:Array Edge} {g:Option (Nat×Bool)} {x y:Operand} {T:Ty} {t e:TypeId} {α:Type} {R:Rep α} {bytes:Nat} {z:Value}

theorem Fct.nilV:Fct Γ (.const (.slice none 0 0)) (rVal.ty nilV):=fun _ _ _ _=>⟨rfl,rfl⟩
theorem Qac {Ts:List Ty} {q u:Value} {off:Nat} (hz:TOk P t rVal bytes z) (hp:Fct Γ x (tv (padd q off))) (h:rVal.cs u=(Ts.drop off).take (rVal.cs u).length):OpJ P ⟨d,.load t x,ty,pos,af,g⟩ Γ [box Ts q] [] (fun _=>[]) (fun _=>tv u):=
 QpA (Qat (R:=rVal) (u:=u) hz hp h) (fun _ _ _ _ h=>h.1)
theorem Qln {q u':Value} {xs:List α} {Ts:List Ty} (hz:TOk P t rVal bytes z) (hp:Fct Γ x (tv q)) (hx:Fct Γ y (tv u')) (hl:1≤Ts.length):OpJ P ⟨d,.store t x y,ty,pos,af,g⟩ Γ [own R e xs u'] [box Ts q] (fun _=>[box (splice Ts 0 (rVal.cs u')) q]) (fun _=>tany):=
 .say (A:=own R e xs u') (by simp) (fun _ _ h=>QkA h) fun hu=>(QS (R:=rVal) (a:=u') (Ts:=Ts) hz hp (hx.weak fun _ _ _ h=>⟨h,hu⟩) hl).useMore (fun A hA=>by cases hA)
theorem Qa5 {q u':Value} {xs:List α} {Ts:List Ty} {off:Nat} (hz:TOk P t rVal bytes z) (hp:Fct Γ x (tv (padd q off))) (hx:Fct Γ y (tv u')) (hl:off+1≤Ts.length):OpJ P ⟨d,.store t x y,ty,pos,af,g⟩ Γ [own R e xs u'] [box Ts q] (fun _=>[box (splice Ts off (rVal.cs u')) q]) (fun _=>tany):=
 .say (A:=own R e xs u') (by simp) (fun _ _ h=>QkA h) fun hu=>(Qas (R:=rVal) (a:=u') (Ts:=Ts) (off:=off) hz hp (hx.weak fun _ _ _ h=>⟨h,hu⟩) hl).useMore (fun A hA=>by cases hA)
/-- A field of an element of an owned slice. -/
theorem Qfo {β:Type} {R2:Rep β} {f:β} {xs:List α} {u:α} {v:Value} {i:Int} {off:Nat} (hz:TOk P t R2 bytes z) (hp:Fct Γ x (tv (padd (QdM v (i.toNat * R.n)) off))) (h:idx xs i=some u) (hf:R2.cs f=((R.cs u).drop off).take (R2.cs f).length):
  OpJ P ⟨d,.load t x,ty,pos,af,g⟩ Γ [own R e xs v] [] (fun _=>[]) (fun _=>R2.ty f):=
 QdB fun M w a hU he=>by
  have hv:=hp.val (by simp[Op.operands]) he
  obtain⟨us,hc,hh⟩:=Qst (hU _ (List.mem_singleton.2 rfl))
  unfold idx at h
  split at h
  ·have hlt:i.toNat<xs.length:=(List.getElem?_eq_some_iff.1 h).1
   rcases hh with⟨_,hn⟩ | ⟨b,cap,hvv,hcell⟩
   ·rw[hn] at hlt;simp at hlt
   ·subst hvv
    have hrow:Row (xs.flatMap R.cs) (free M w) w b 0:=fun j T hj=>by
     have hlt:j<us.length:=by rw[hc.1];exact (List.getElem?_eq_some_iff.1 hj).1
     exact⟨us[j],by rw[Nat.zero_add];exact hcell j _ (List.getElem?_eq_getElem hlt),hc.2 j T _ hj (List.getElem?_eq_getElem hlt)⟩
    have hr:=((hrow.elem h).part off).head hf
    rw[Nat.zero_add] at hr
    obtain⟨v',hrun,hty⟩:=Qge hz hr
    refine⟨v',?_,hty⟩
    simp only[execOp,hv,QdM,padd,QaN,Sem.run_bind,Nat.zero_add] at hrun ⊢
    simp only[hrun,Result.andThen_ok,Sem.run_pure]
  ·cases h

/-- A new variable whose type's zero value is taken as some cells say it. -/
theorem Qtc {Us:List Ty} (hz:TOk P t R bytes z) (h1:∀T,T∈Us→One T) (h0:(∀F w,Q3 Us F w z.cells.toList)∧Us.length=R.n∧R.agg=true∧∃cs,z=.agg cs):OpJ P ⟨d,.alloc t,ty,pos,af,g⟩ Γ [] [] (fun p=>[box Us p]) (fun p=>tv p):=
 Q0 (R:=rAgg Us h1) (a:=()) (tokA hz h1 h0.2.1 h0.2.2.1) (fun F w=>by
  obtain⟨cs,hcs⟩:=h0.2.2.2
  have:=h0.1 F w
  subst hcs
  exact⟨cs.toList,by simp,by simpa[Value.cells] using this⟩)

/-- What would be owned is only read from now on; what was given is gone. -/
theorem OpJ.roE {o:Oper} {U E:List Atom} {xs:List α} (h:OpJ P o Γ U E (fun v=>[own R e xs v]) (fun v=>tv v)):OpJ P o Γ U E (fun _=>[]) (fun _=>tsl R xs):=by
 intro M w a hM hU hE hap hUE he
 refine (h M w a hM hU hE hap hUE he).mono ?_
 rintro v w' ⟨x,hs,hm,hv⟩
 have hv:v=x:=hv
 subst hv
 have hok:=hm.ok _ (List.mem_singleton.2 rfl)
 refine⟨undef,hs,Qjf,?_⟩
 have hfree:∀k,(own R e xs v).fp k→free (next M E []) w' k:=by
  intro k hk
  obtain⟨h1,h2⟩:=hm.place _ (List.mem_singleton.2 rfl) k hk
  refine⟨h2,?_⟩
  rintro (⟨hm1,hm2⟩ | ⟨A,hA,_⟩)
  ·rcases h1 with h1 | h1
   ·exact hm2 h1
   ·have:=hM k hm1;omega
  ·cases hA
 have hsub:∀k,free (next M E [own R e xs v]) w' k→free (next M E []) w' k:=by
  rintro k ⟨h1,h2⟩
  refine⟨h1,?_⟩
  rintro (hm1 | ⟨A,hA,_⟩)
  ·exact h2 (.inl hm1)
  ·cases hA
 exact QcD.own (x:=.tmp 0) (Γ:=[(0,tv v)]) (U:=[own R e xs v]) (R:=R) (e:=e) (xs:=xs) (v:=v) (Fct.t 0 rfl) (by simp) _ _ w' ⟨#[v],[]⟩ hsub (fun A hA=>by simp at hA;subst hA;exact⟨hok,hfree⟩) (fun p hp _=>by simp at hp;subst hp;rfl)

/-- An atom without blocks may be given to a call and kept. -/
theorem OpJ.gloG {o:Oper} {G:Atom} (h0:∀k,¬G.fp k) {U E:List Atom} {N:Value→List Atom} {T:Value→Ty} (h:OpJ P o Γ U (G::E) N T):OpJ P o Γ (G::U) E N T:=by
 have e1:QaM (G::E)=QaM E:=by
  funext k
  refine propext ⟨?_,?_⟩
  ·rintro ⟨A,hA,hk⟩
   rcases List.mem_cons.1 hA with rfl | hA
   ·exact (h0 k hk).elim
   ·exact⟨A,hA,hk⟩
  ·rintro ⟨A,hA,hk⟩
   exact⟨A,by simp[hA],hk⟩
 intro M w a hM hU hE hap hUE he
 refine (h M w a hM (fun A hA=>hU A (by simp[hA])) (fun A hA=>?_) ?_ (fun A hA B hB k hk=>?_) he).mono ?_
 ·rcases List.mem_cons.1 hA with rfl | hA
  ·exact hU A (by simp)
  ·exact hE A hA
 ·exact List.pairwise_cons.2 ⟨fun B _ k hk=>(h0 k hk).elim,hap⟩
 ·rcases List.mem_cons.1 hB with rfl | hB
  ·exact h0 k
  ·exact hUE A (by simp[hA]) B hB k hk
 ·rintro v w' ⟨x,hs,hm,ht⟩
  rw[e1] at hs
  have e2:∀N,next M (G::E) N=next M E N:=fun N=>by funext k;simp only[next,e1]
  rw[e2] at ht
  exact⟨x,hs,⟨hm.apart,fun A hA k hk=>by have:=hm.place A hA k hk;rwa [e1] at this,fun A hA=>by have:=hm.ok A hA;rwa [e2] at this⟩,ht⟩

theorem QcD.boxR {U:List Atom} {Ts:List Ty} {q:Value} (h:Fct Γ x (tv q)) (hU:Sim.box Ts q∈U):QcD Γ U x (tptr Ts):=fun F F' w a hF hA h0=>(QcD.box h hU F F' w a hF hA h0).2
theorem Qcx {E:List Atom} {A B:Type} {Ts:A→List Ty} {Tr:B→Ty} {p:A→Option B} {f:Operand} {xs:List Operand} {u:A} {b:B} {ts:Array TypeId} (hf:Fct Γ f (tfn P E Ts Tr p)) (ha:Args Γ [] xs (Ts u)) (h:p u=some b):
  OpJ P ⟨d,.call { callee:=.value f,args:=xs.toArray,argTypes:=ts },ty,pos,af,g⟩ Γ [] E (fun _=>[]) (fun _=>Tr b):=by
 intro M w a hM hU hE hap hUE he
 obtain⟨fid,Tf,Tc,fs,caps,hv,hfs,hcap,hc,hok⟩:=hf.use (by simp[Op.operands,Call.operands]) he
 have hargs:=ha.cells (F:=free M w) (F':=free M w) (a:=a) (fun _ h=>h) (fun A hA=>by simp at hA) (fun p hp hx=>he p hp (by simp[Op.operands,Call.operands,hx]))
 have hr:=Qtb (ty:=ty) (pos:=pos) (af:=af) (g:=g) (d:=d) (xs:=xs) (ts:=ts) (w:=w) hc hv
 simp only[Does,hr]
 refine Calls.mono (hok u b h M w _ hM hE hap (hfs.append (hargs.append hcap))) ?_
 rintro en w' ⟨x0,v,hen,h⟩
 exact⟨v,hen,x0,h⟩

/-! Bytes and strings -/

def Qko (xs:List Int):Str:=xs.map fun n=>UInt8.ofNat n.toNat
def Q5 (s:Str):List Int:=s.map fun b=>(b.toNat:Int)
theorem QgT:∀(s:List Int),(s.flatMap (rInt .u8).cs)=s.map fun b=>tv (.int .u8 b)
 | []=>rfl
 | b::s=>by rw[List.flatMap_cons,QgT s];rfl
theorem op_s2b {s:Str} {t2:TypeId} {u:TypeDesc} (hs:P.underlying t=some u) (ht:P.underlying t2=some (.slice e)) (he:P.underlying e=some (.int .u8)) (hx:Fct Γ x (tv (.string (sB s)))):
  OpJ P ⟨d,.convert t t2 x,ty,pos,af,g⟩ Γ [] [] (fun _=>[]) (fun _=>tsl (rInt .u8) (Q5 s)):=
 QlA fun F w a hF hen=>by
  have hv:=hx.val (by simp[Op.operands]) hen
  refine⟨_,_,by simp only[execOp,hv,Sem.run_bind,Lib.run_convert_string_bytes w t t2 e (sB s) hs ht he,Result.andThen_ok,Sem.run_pure];rfl,?_,fun F' h1 h2=>?_⟩
  ·exact⟨rfl,rfl,rfl,by rw[Lib.bytesWorld_size];omega,fun k hk _=>Lib.bytesWorld_at_old w e (sB s) k hk⟩
  ·refine⟨some ⟨w.heap.size,0,none⟩,grownCap w (sB s).size 0 e,?_,?_,fun _=>⟨w.heap.size,0,rfl,h2 _ (Nat.le_refl _) (by rw[Lib.bytesWorld_size];omega),fun j T hj=>?_⟩⟩
   ·simp[Q5,QfO]
   ·rw[show (Q5 s).length=s.length by simp[Q5]]
    rw[QfO]
    exact grownCap_ge _ _ _ _
   ·rw[QgT] at hj
    have hj':j<s.length:=by
     have:=(List.getElem?_eq_some_iff.1 hj).1
     simpa[Q5] using this
    refine⟨_,by rw[Nat.zero_add];exact Lib.bytesWorld_cell w e (sB s) j (by rw[QfO];exact hj'),?_⟩
    simp only[Q5,List.map_map] at hj
    simp[hj'] at hj
    subst hj
    show _=_
    simp[sB,List.getD_eq_getElem?_getD,hj']
theorem Qtd {xs:List Int} {t2:TypeId} (ht:P.underlying t=some (.slice e)) (he:P.underlying e=some (.int .u8)) (hd:P.underlying t2=some .string) (hx:Fct Γ x (tsl (rInt .u8) xs)):
  OpJ P ⟨d,.convert t t2 x,ty,pos,af,g⟩ Γ [] [] (fun _=>[]) (fun _=>tv (.string (sB (Qko xs)))):=
 QaC fun F w a hen=>by
  obtain⟨ad,cap,hv,_,hr⟩:=hx.use (by simp[Op.operands]) hen
  have key:(Conv.bytesToString (.slice ad xs.length cap)).run P w=.ok (.string (sB (Qko xs))) w:=by
   cases ad with
   | none=>
    have:xs=[]:=by
     cases xs with
     | nil=>rfl
     | cons b xs=>obtain⟨_,_,h,_⟩:=hr (by simp);cases h
    subst this
    rfl
   | some A=>
    have hload:(loadCells A xs.length).run P w=.ok (xs.map fun b=>Value.int .u8 b).toArray w:=by
     rcases xs with _ | ⟨b,xs⟩
     ·rfl
     ·obtain⟨bb,off,hA,_,hrow⟩:=hr (by simp)
      cases hA
      have:=run_loadCells_list (P:=P) w ⟨bb,off,none⟩ ((b::xs).map fun b=>Value.int .u8 b) (fun j v hj=>by
       rw[QaN]
       have hj2:(((b::xs).flatMap (rInt .u8).cs))[j]?=some (tv v):=by
        rw[QgT]
        simp only[List.getElem?_map,Option.map_eq_some_iff] at hj ⊢
        obtain⟨y,h1,rfl⟩:=hj
        exact⟨y,h1,rfl⟩
       obtain⟨u,hu,hty⟩:=hrow j _ hj2
       have:u=v:=hty
       rw[←this];exact hu)
      simpa using this
    have hfold:∀(f:Value→ByteArray→Sem (ForInStep ByteArray)),(∀n r,f (.int .u8 n) r=pure (.yield (r.push (UInt8.ofNat n.toNat))))→∀(l:List Int) (s:ByteArray),(forIn (l.map fun b=>Value.int .u8 b) s f).run P w=.ok (s++sB (Qko l)) w:=by
     intro f hf l
     induction l with
     | nil=>intro s;simp only[List.map_nil,List.forIn_nil,Sem.run_pure,Qko];congr 1;apply ByteArray.ext;simp[sB]
     | cons b l ih=>
      intro s
      simp only[List.map_cons,List.forIn_cons,hf,Sem.run_bind,Sem.run_pure,Result.andThen_ok,ih]
      congr 1
      apply ByteArray.ext
      simp[Qko,sB]
    simp only[Conv.bytesToString,Sem.run_bind,hload,Result.andThen_ok,List.forIn_toArray]
    rw[hfold _ (fun n r=>rfl) xs .empty]
    simp only[Result.andThen_ok,Sem.run_pure]
    congr 2
  exact⟨_,by simp only[execOp,hv,convert,Sem.run_bind,run_underlying ht,run_underlying hd,run_underlying he,Result.andThen_ok,key,Sem.run_pure],rfl⟩
end

section
variable {M:Fr} {w0:World} {n:Nat} {Γ:List (Nat×Ty)} {As:List Atom} {a:Act} {w:World}
/-- A part of a variable that the call owned is only read from now on. -/
theorem St.shareC {α:Type} {R:Rep α} {e:TypeId} {xs:List α} {v q:Value} {Ts:List Ty} (k:Nat) (h:St M w0 n Γ (Sim.own R e xs v::box Ts q::As) a w) (hk:Ts[k]?=some (tvs v)):St M w0 n Γ (box (Ts.set k (tsl R xs)) q::As) a w:=by
 have hf:∀j,fps (box (Ts.set k (tsl R xs)) q::As) j→fps (Sim.own R e xs v::box Ts q::As) j:=by
  rintro j ⟨A,hA,hj⟩
  rcases List.mem_cons.1 hA with rfl | hA
  ·exact⟨box Ts q,by simp,hj⟩
  ·exact⟨A,by simp[hA],hj⟩
 have hfree:∀j,free (hold M.m (Sim.own R e xs v::box Ts q::As)) w j→free (hold M.m (box (Ts.set k (tsl R xs)) q::As)) w j:=fun j hj=>⟨hj.1,fun hm=>hj.2 (hm.imp id (hf j))⟩
 have hown:=h.own (Sim.own R e xs v) (by simp)
 have hbox:=h.own (box Ts q) (by simp)
 have hap:=List.pairwise_cons.1 h.apart
 have hfp:∀j,(Sim.own R e xs v).fp j→free (hold M.m (box (Ts.set k (tsl R xs)) q::As)) w j:=by
  intro j hj
  have hfr:=h.fresh _ (List.mem_cons_self) j hj
  refine⟨hfr.2,?_⟩
  rintro (hm | ⟨A,hA,hkA⟩)
  ·have:=h.m0 j hm
   rcases hfr.1 with hb | hb
   ·exact this.2 hb
   ·omega
  ·rcases List.mem_cons.1 hA with rfl | hA
   ·exact hap.1 (box Ts q) (by simp) j hj hkA
   ·exact hap.1 A (by simp[hA]) j hj hkA
 have hsl:(tsl R xs).ok (free (hold M.m (box (Ts.set k (tsl R xs)) q::As)) w) w v:=
  QcD.own (x:=.tmp 0) (Γ:=[(0,tv v)]) (U:=[Sim.own R e xs v]) (R:=R) (e:=e) (xs:=xs) (v:=v) (Fct.t 0 rfl) (by simp) _ _ w ⟨#[v],[]⟩ hfree (fun A hA=>by simp at hA;subst hA;exact⟨hown,hfp⟩) (fun p hp _=>by simp at hp;subst hp;rfl)
 refine⟨h.size,h.defers,h.grow,h.m0,?_,?_,?_,fun p hp=>p.2.keep hfree (fun _ _=>rfl) (h.slots p hp)⟩
 ·intro A hA
  rcases List.mem_cons.1 hA with rfl | hA
  ·obtain⟨b,cur,e',hq,hb,hc,h1⟩:=hbox
   refine⟨b,cur,e',hq,hb,⟨by rw[hc.1];simp,fun j T u hT hu=>?_⟩,h1⟩
   by_cases hj:k=j
   ·subst hj
    have hlt:k<Ts.length:=(List.getElem?_eq_some_iff.1 hk).1
    simp[hlt] at hT
    subst hT
    have hu':u=v:=(hc.2 k _ u hk hu).1
    rw[hu'];exact hsl
   ·rw[List.getElem?_set_ne hj] at hT
    exact T.keep hfree (fun _ _=>rfl) (hc.2 j T u hT hu)
  ·exact A.keep hfree (fun _ _=>rfl) (fun _ _=>rfl) (h.own A (by simp[hA]))
 ·intro A hA j hj
  rcases List.mem_cons.1 hA with rfl | hA
  ·exact h.fresh (box Ts q) (by simp) j hj
  ·exact h.fresh A (by simp[hA]) j hj
 ·have h2:=List.pairwise_cons.1 hap.2
  exact List.pairwise_cons.2 ⟨fun B hB j hj=>h2.1 B hB j hj,h2.2⟩
end

end Go.Sim

namespace Go.Sim

theorem QbZ {x:Value}:One (tvs x):=fun F w v hv=>by obtain⟨h1,h2⟩:=hv;rw[h1];exact h2
/-- A function value that may be nil. -/
def tfo {β:Type} (T:β→Ty) (p:Option β):Ty:=match p with | none=>tv .nilFunc | some f=>T f
theorem Qr1 {β:Type} {T:β→Ty} {p:Option β} (h:∀f,One (T f)):One (tfo T p):=by
 cases p with
 | none=>exact Q9 rfl
 | some f=>exact h f
def Ql9 {A B:Type} (p:Option (A→Option B)) (u:A):Option B:=p.bind fun f=>f u
theorem QpE {P:Program} {M:Fr} {M0:Blk} {w0:World} {n:Nat} {Γ:List (Nat×Ty)} {As:List Atom} {a:Act} {w:World} {fn:Func} {rs:List ResultVar} {Ts:List Ty} {E:List Atom} {N:Value→List Atom} {T:Value→Ty} (x:Value) (is:List Nat) (hpl:QdR M0 E M) (hst:St M w0 n Γ As a w) (hrs:fn.results=rs.toArray) (h:QiH P Γ As rs Ts) (hd:Qdf is=true)
  (hN:is.filterMap (fun i=>As[i]?)=N x) (hT:T x=QnC Ts):Ret P fn M0 E w0 N T .normal a w:=QiI x is hpl hst hrs h hd hN hT

/-- Cells that are given by their values. -/
theorem Qma {F:Blk} {w:World}:∀{Ts:List Ty} {us:List Value} (_:Q3 Ts F w us) (vs:List Value),Ts=vs.map tv→(tv (.agg vs.toArray)).ok F w (.agg us.toArray)
 | Ts,us,hc,vs,h=>by
  subst h
  have:us=vs:=by
   refine List.ext_getElem? fun j=>?_
   have hl:us.length=vs.length:=by simpa using hc.1
   rcases Nat.lt_or_ge j vs.length with hj | hj
   ·have:=hc.2 j (tv vs[j]) us[j] (by simp[hj]) (List.getElem?_eq_getElem (by omega))
    rw[List.getElem?_eq_getElem (by omega),List.getElem?_eq_getElem hj]
    exact congrArg some this
   ·rw[List.getElem?_eq_none (by omega),List.getElem?_eq_none hj]
  subst this
  rfl

/-! Package variables -/

/-- The variables' blocks hold these cells, and nobody writes there. -/
def gloA (l:List (Nat×List Ty)):Atom:=
 ⟨fun _=>False,fun F w=>∀p∈l,F p.1∧∃cur e fz,w.heap[p.1]?=some (.cells cur e fz)∧Q3 p.2 F w cur.toList,
  fun hF hh _ h p hp=>⟨hF _ (h p hp).1,let⟨cur,e,fz,h1,h2⟩:=(h p hp).2;⟨cur,e,fz,by rw[hh _ (h p hp).1];exact h1,h2.keep hF hh⟩⟩⟩
def Qmb (G:Atom) (g:Nat) (Ts:List Ty):Prop:=∀F w,G.ok F w→F g∧∃cur e fz,w.heap[g]?=some (.cells cur e fz)∧Q3 Ts F w cur.toList
def QlE (G:Atom) (g:Nat) (Ts:List Ty):Prop:=∀F w,G.ok F w→F g∧Row Ts F w g 0
theorem QnF {l:List (Nat×List Ty)} {g:Nat} {Ts:List Ty} (h:(g,Ts)∈l):Qmb (gloA l) g Ts:=fun _ _ hg=>hg (g,Ts) h
theorem Qmb.has {G:Atom} {g:Nat} {Ts:List Ty} (h:Qmb G g Ts):QlE G g Ts:=fun F w hg=>by
 obtain⟨h1,cur,e,fz,h2,h3⟩:=h F w hg
 refine⟨h1,fun j T hj=>?_⟩
 have hlt:j<cur.toList.length:=by rw[h3.1];exact (List.getElem?_eq_some_iff.1 hj).1
 refine⟨cur.toList[j],?_,h3.2 j T _ hj (List.getElem?_eq_getElem hlt)⟩
 have:j<cur.size:=by simpa using hlt
 simp[World.cell?,h2,this]
/-! A look into a map with integer keys -/

def QcG:List (Value×Value)→Int→Option Value
 | [],_=>none
 | (.int .i64 k,v)::es,i=>if i=k then some v else QcG es i
 | _::es,i=>QcG es i
def QkC (es:List (Value×Value)):Bool:=es.all fun p=>match p.1 with | .int .i64 _=>true | _=>false
/-- A map value in which one finds what one finds in these entries. -/
def QnG (es:List (Value×Value)):Ty:=
 ⟨fun F w v=>∃r ms c,v=.map (some r)∧F r∧w.heap[r]?=some (.map ms c)∧QkC (ms.toList.map fun e=>(e.key,e.val))=true∧∀i,QcG (ms.toList.map fun e=>(e.key,e.val)) i=QcG es i,
  fun hF hh ⟨r,ms,c,h1,h2,h3,h4⟩=>⟨r,ms,c,h1,hF r h2,by rw[hh r h2];exact h3,h4⟩⟩
theorem QvB {es:List (Value×Value)}:One (QnG es):=fun _ _ _ ⟨_,_,_,h,_⟩=>by rw[h];rfl
@[reducible] def rMapC (es : List (Value × Value)) : Rep Unit := ⟨fun _ => [QnG es],1,false,fun _ => rfl,fun _ => Qw QvB Qam,fun _ => rfl⟩

section
variable {Γ:List (Nat×Ty)} {P:Program} {d:Option Tmp} {ty:TypeId} {pos:String} {af:Array Edge} {g:Option (Nat×Bool)} {x y:Operand} {T:Ty} {t e:TypeId} {α:Type} {R:Rep α} {bytes:Nat} {z:Value} {G:Atom}

/-- A load of a package variable. -/
theorem QuA {k:Nat} {u:α} {Ts:List Ty} (hG:QlE G k Ts) (hz:TOk P t R bytes z) (h:R.cs u=Ts.take (R.cs u).length):OpJ P ⟨d,.load t (.global k),ty,pos,af,g⟩ Γ [G] [] (fun _=>[]) (fun _=>R.ty u):=
 QdB fun M w a hU he=>by
  obtain⟨_,hr⟩:=hG _ _ (hU _ (List.mem_singleton.2 rfl))
  obtain⟨v,hrun,hty⟩:=Qge hz (hr.head h)
  refine⟨v,?_,hty⟩
  have e:a.eval (.global k)=.pointer (some ⟨k,0,none⟩):=rfl
  simp only[execOp,e,Sem.run_bind,hrun,Result.andThen_ok,Sem.run_pure]
/-- An element of a package variable that is an array. -/
theorem Qra {k n:Nat} {kk:IntKind} {i:Int} {xs:List α} {u:α} {Ts:List Ty} (ht:P.underlying t=some (.array n e)) (hz:TOk P e R bytes z) (hG:QlE G k Ts) (hT:Ts=xs.flatMap R.cs) (hi:Fct Γ y (tv (.int kk i))) (hn:xs.length=n) (h:idx xs i=some u):
  OpJ P ⟨d,.indexAddr t (.global k) y,ty,pos,af,g⟩ Γ [G] [] (fun _=>[]) (fun _=>tptr (R.cs u)):=
 QdB fun M w a hU he=>by
  obtain⟨hF,hr⟩:=hG _ _ (hU _ (List.mem_singleton.2 rfl))
  subst hT
  have h2:=hi.val (by simp[Op.operands]) he
  have e:a.eval (.global k)=.pointer (some ⟨k,0,none⟩):=rfl
  unfold idx at h
  split at h
  ·rename_i h0
   have hlt:i.toNat<xs.length:=(List.getElem?_eq_some_iff.1 h).1
   refine⟨_,?_,k,0+i.toNat * R.n,rfl,hF,hr.elem h⟩
   simp only[execOp,e,h2,Sem.run_bind,Qhe ht hz w h0 (show i<(n:Int) by omega),Result.andThen_ok,Sem.run_pure]
  ·cases h

theorem QuB {E:List Atom} {A B:Type} {Ts:A→List Ty} {Tr:B→Ty} {β:Type} {q:β→A→Option B} {p:Option β} {f:Operand} {xs:List Operand} {u:A} {b:B} {ts:Array TypeId} (hf:Fct Γ f (tfo (fun r=>tfn P E Ts Tr (q r)) p)) (ha:Args Γ [] xs (Ts u)) (h:(p.bind fun r=>q r u)=some b):
  OpJ P ⟨d,.call { callee:=.value f,args:=xs.toArray,argTypes:=ts },ty,pos,af,g⟩ Γ [] E (fun _=>[]) (fun _=>Tr b):=by
 cases p with
 | none=>cases h
 | some r=>exact Qcx (p:=q r) hf ha h

theorem Qn7 (i:Int):∀(ms:List MapEntry) (n:Nat),QkC (ms.map fun e=>(e.key,e.val))=true→
  (Instr.findNow (.int .i64) (.int .i64 i) ms n).map (Option.map (·.2))=some (QcG (ms.map fun e=>(e.key,e.val)) i)
 | [],n,_=>rfl
 | m::ms,n,h=>by
  simp only[List.map_cons,QkC,List.all_cons,Bool.and_eq_true] at h
  obtain⟨h1,h2⟩:=h
  have ih:=Qn7 i ms (n+1) h2
  cases hk:m.key with
  | int k j=>
   rw[hk] at h1
   cases k<;>simp at h1
   simp only[Instr.findNow,hk,Instr.sameNow,if_true,List.map_cons,QcG]
   by_cases hij:i=j
   ·subst hij;simp
   ·have:(i==j)=false:=by simpa using hij
    simp only[this,if_neg hij]
    exact ih
  | _=>rw[hk] at h1;simp at h1
theorem QuC {es:List (Value×Value)} {i:Int} {kt et:TypeId} {V:Option Value→Ty} (ht:P.underlying t=some (.map kt et)) (hk:P.underlying kt=some (.int .i64)) (hz:(P.info? et).bind (·.zero)=some z)
  (hx:Fct Γ x (QnG es)) (hi:Fct Γ y (tv (.int .i64 i))) (hV:∀F w,(V (QcG es i)).ok F w ((QcG es i).getD z)):OpJ P ⟨d,.lookup t x y true,ty,pos,af,g⟩ Γ [] [] (fun _=>[]) (fun _=>ttup [V (QcG es i),tv (.bool (QcG es i).isSome)]):=
 QaC fun F w A he=>by
  obtain⟨r,ms,c,hv,_,hh,hks,hms⟩:=hx.use (by simp[Op.operands]) he
  have h2:=hi.val (by simp[Op.operands]) he
  obtain⟨ti,hti,hzz⟩:∃ti,P.info? et=some ti∧ti.zero=some z:=by
   cases h:P.info? et with
   | none=>simp[h] at hz
   | some ti=>exact⟨ti,rfl,by simpa[h] using hz⟩
  have hzv:(zeroValue et).run P w=.ok z w:=by simp[zeroValue,typeInfo,hti,hzz]
  have hf:=Qn7 i ms.toList 0 hks
  rw[hms] at hf
  have hck:∀b n,(Instr.checkKey b (n+1) kt (.int .i64 i)).run P w=.ok () w:=fun b n=>by simp[Instr.checkKey,run_underlying hk]
  have hobj:(getObj r).run P w=.ok (.map ms c) w:=by simp[getObj,Sem.run,hh]
  cases hn:Instr.findNow (.int .i64) (.int .i64 i) ms.toList 0 with
  | none=>rw[hn] at hf;cases hf
  | some o=>
   rw[hn] at hf
   simp only[Option.map_some,Option.some.injEq] at hf
   refine⟨.tuple #[(QcG es i).getD z,.bool (QcG es i).isSome],?_,[(QcG es i).getD z,.bool (QcG es i).isSome],rfl,.cons (hV F w) (.cons rfl .nil)⟩
   rw[←hf]
   cases o with
   | none=>simp only[execOp,hv,h2,Instr.lookup,Sem.run_bind,run_underlying ht,Result.andThen_ok,hobj,Sem.run_pure,hck _ 9999,Instr.findKey,run_underlying hk,hn,hzv,Option.map_none,Option.getD_none,Option.isSome_none,if_true]
   | some q=>simp only[execOp,hv,h2,Instr.lookup,Sem.run_bind,run_underlying ht,Result.andThen_ok,hobj,Sem.run_pure,hck _ 9999,Instr.findKey,run_underlying hk,hn,Option.map_some,Option.getD_some,Option.isSome_some,if_true]
end

end Go.Sim

namespace Go.Sim

/-- Two atoms as one. -/
def QoN (A B:Atom):Atom:=
 ⟨fun k=>A.fp k∨B.fp k,fun F w=>A.ok F w∧B.ok F w∧∀k,A.fp k→¬B.fp k,
  fun hF hh hf h=>⟨A.keep hF hh (fun k hk=>hf k (.inl hk)) h.1,B.keep hF hh (fun k hk=>hf k (.inr hk)) h.2.1,h.2.2⟩⟩
/-- A pointer that is nil, or this one. -/
def tbp (q:Value):Ty:=⟨fun _ _ v=>(v=.pointer none∨v=q)∧v.oneCell'=true,fun _ _ h=>h⟩
/-- A variable whose block is known to be of a type. -/
def boxT (t:TypeId) (Ts:List Ty) (p:Value):Atom:=
 ⟨fun k=>p=.pointer (some ⟨k,0,none⟩),fun F w=>∃b cur,p=.pointer (some ⟨b,0,none⟩)∧w.heap[b]?=some (.cells cur t (0,0))∧Q3 Ts F w cur.toList∧∀u∈cur.toList,u.oneCell'=true,
  fun hF hh hf ⟨b,cur,hp,hb,hc,h1⟩=>⟨b,cur,hp,by rw[hf b hp];exact hb,hc.keep hF hh,h1⟩⟩
/-- A builder of strings (tb: its type; e: that of bytes): its bytes, where it lies, its buffer. -/
def bldE (tb e:TypeId) (l:Str) (q v:Value):Atom:=QoN (boxT tb [tbp q,tvs v] q) (own (rInt .u8) e (Q5 l) v)

section
variable {M:Fr} {M0:Blk} {w0:World} {n:Nat} {Γ:List (Nat×Ty)} {As:List Atom} {a:Act} {w:World} {A B:Atom}
theorem fps2:∀k,fps (A::B::As) k↔fps (QoN A B::As) k:=by
 intro k
 constructor
 ·rintro ⟨C,hC,hk⟩
  rcases List.mem_cons.1 hC with rfl | hC
  ·exact⟨_,List.mem_cons_self,.inl hk⟩
  ·rcases List.mem_cons.1 hC with rfl | hC
   ·exact⟨_,List.mem_cons_self,.inr hk⟩
   ·exact⟨C,by simp[hC],hk⟩
 ·rintro ⟨C,hC,hk⟩
  rcases List.mem_cons.1 hC with rfl | hC
  ·rcases hk with hk | hk
   ·exact⟨A,by simp,hk⟩
   ·exact⟨B,by simp,hk⟩
  ·exact⟨C,by simp[hC],hk⟩
theorem QqT:hold M0 (A::B::As)=hold M0 (QoN A B::As):=by
 funext k;exact propext ⟨fun h=>h.imp id (fps2 k).1,fun h=>h.imp id (fps2 k).2⟩
theorem St.open2 (h:St M w0 n Γ (QoN A B::As) a w):St M w0 n Γ (A::B::As) a w:=by
 have h1:=h.own _ List.mem_cons_self
 have hap:=List.pairwise_cons.1 h.apart
 refine⟨h.size,h.defers,h.grow,h.m0,?_,?_,?_,?_⟩
 ·rw[QqT]
  intro C hC
  rcases List.mem_cons.1 hC with rfl | hC
  ·exact h1.1
  ·rcases List.mem_cons.1 hC with rfl | hC
   ·exact h1.2.1
   ·exact h.own C (by simp[hC])
 ·intro C hC k hk
  rcases List.mem_cons.1 hC with rfl | hC
  ·exact h.fresh _ List.mem_cons_self k (.inl hk)
  ·rcases List.mem_cons.1 hC with rfl | hC
   ·exact h.fresh _ List.mem_cons_self k (.inr hk)
   ·exact h.fresh C (by simp[hC]) k hk
 ·refine List.pairwise_cons.2 ⟨fun C hC k hk=>?_,List.pairwise_cons.2 ⟨fun C hC k hk=>hap.1 C hC k (.inr hk),hap.2⟩⟩
  rcases List.mem_cons.1 hC with rfl | hC
  ·exact h1.2.2 k hk
  ·exact hap.1 C hC k (.inl hk)
 ·rw[QqT];exact h.slots
theorem St.close2 (h:St M w0 n Γ (A::B::As) a w):St M w0 n Γ (QoN A B::As) a w:=by
 have hap:=List.pairwise_cons.1 h.apart
 have hap2:=List.pairwise_cons.1 hap.2
 refine⟨h.size,h.defers,h.grow,h.m0,?_,?_,?_,?_⟩
 ·rw[←QqT]
  intro C hC
  rcases List.mem_cons.1 hC with rfl | hC
  ·exact⟨h.own A (by simp),h.own B (by simp),hap.1 B (by simp)⟩
  ·exact h.own C (by simp[hC])
 ·intro C hC k hk
  rcases List.mem_cons.1 hC with rfl | hC
  ·rcases hk with hk | hk
   ·exact h.fresh A (by simp) k hk
   ·exact h.fresh B (by simp) k hk
  ·exact h.fresh C (by simp[hC]) k hk
 ·refine List.pairwise_cons.2 ⟨fun C hC k hk=>?_,hap2.2⟩
  rcases hk with hk | hk
  ·exact hap.1 C (by simp[hC]) k hk
  ·exact hap2.1 C hC k hk
 ·rw[←QqT];exact h.slots
theorem St.swap (h:St M w0 n Γ (A::B::As) a w):St M w0 n Γ (B::A::As) a w:=h.perm (List.Perm.swap B A As)
end

section
variable {Γ:List (Nat×Ty)} {P:Program} {d:Option Tmp} {ty:TypeId} {pos:String} {af:Array Edge} {g:Option (Nat×Bool)} {x y:Operand} {T:Ty} {t t2 e:TypeId} {α:Type} {R:Rep α} {bytes:Nat} {z:Value}

theorem QuD {tb:TypeId} {Ts:List Ty} {q:Value} {F:Blk} {w:World} (h:(boxT tb Ts q).ok F w):(box Ts q).ok F w:=by
 obtain⟨b,cur,hp,hb,r⟩:=h
 exact⟨b,cur,tb,hp,hb,r⟩
/-- What reads a variable reads one whose type is known. -/
theorem OpJ.rT {o:Oper} {tb:TypeId} {Ts:List Ty} {q:Value} {N:Value→List Atom} {T:Value→Ty} (h:OpJ P o Γ [box Ts q] [] N T):OpJ P o Γ [boxT tb Ts q] [] N T:=by
 intro M w a hM hU hE hap hUE he
 refine h M w a hM (fun A hA=>?_) hE hap (fun A hA B hB=>by cases hB) he
 obtain rfl:=List.mem_singleton.1 hA
 have:=hU _ (List.mem_singleton.2 rfl)
 exact⟨QuD this.1,this.2⟩
theorem op_storeT' {a:α} {Ts:List Ty} {q:Value} {off:Nat} {tb:TypeId} (hz:TOk P t R bytes z) (hp:Fct Γ x (tv (padd q off))) (hx:Fct Γ y (R.ty a)) (hl:off+R.n≤Ts.length):
  OpJ P ⟨d,.store t x y,ty,pos,af,g⟩ Γ [] [boxT tb Ts q] (fun _=>[boxT tb (splice Ts off (R.cs a)) q]) (fun _=>tany):=by
 intro M w A hM _ hE _ _ he
 obtain⟨⟨b,cur,hq,hb,hc,h1⟩,hfp⟩:=hE _ (List.mem_singleton.2 rfl)
 have hgiv:=QfB hE
 have hv:=hx.use (by simp[Op.operands]) he
 have hpv:A.eval x=.pointer (some ⟨b,off,none⟩):=by rw[hp.val (by simp[Op.operands]) he,hq];simp[padd,QaN]
 have hsz:cur.size=Ts.length:=by simpa using hc.1
 have hr:(execOp A.eval (⟨d,.store t x y,ty,pos,af,g⟩:Oper)).run P w=.ok .skip (w.setRow b (splice cur.toList off (A.eval y).cells.toList).toArray):=by
  have hrs:=Qll (off:=off) hz hv hb (by omega)
  simp only[execOp,hpv,Sem.run_bind,hrs,Result.andThen_ok,Sem.run_pure]
 simp only[Does,hr]
 have hfpb:∀{Us:List Ty} k,(boxT tb Us q).fp k↔k=b:=by intro Us k;rw[hq];exact QoH (Ts:=Us)
 have heat:∀k,QaM [boxT tb Ts q] k↔k=b:=by
  intro k
  rw[Qc4,hfpb]
 refine⟨undef,QhZ ((heat b).2 rfl),QeI (fun k hk=>?_) ?_,trivial⟩
 ·have hk:=(hfpb k).1 hk
  subst hk
  refine⟨.inl ((heat _).2 rfl),?_⟩
  have:=(Array.getElem?_eq_some_iff.1 hb).1
  simpa using this
 ·obtain⟨hcv,h1v,_⟩:=Qdc hv
  refine⟨b,_,hq,setRow_heap w b cur _ tb _ hb,?_,?_⟩
  ·have hcs:=(hc.splice (off:=off) hcv (by rw[R.len];exact hl))
   simp only
   refine hcs.keepE ?_ ?_
   ·intro k hk
    refine Qf6 (by simp) hgiv (fun B hB j hj=>?_) hk
    obtain rfl:=List.mem_singleton.1 hB
    exact .inl ((heat j).2 ((hfpb j).1 hj))
   ·rintro k ⟨h2,h3⟩
    exact setRow_other w b k _ (fun e=>h3 (hgiv k ((heat k).2 e)))
  ·simpa using QoG (off:=off) h1 h1v
/-- A store of a slice's header. -/
theorem QoO {xs:List α} {Ts:List Ty} {q u':Value} {off:Nat} {tb:TypeId} (hz:TOk P t rVal bytes z) (hp:Fct Γ x (tv (padd q off))) (hx:Fct Γ y (tv u')) (hl:off+1≤Ts.length):
  OpJ P ⟨d,.store t x y,ty,pos,af,g⟩ Γ [own R e xs u'] [boxT tb Ts q] (fun _=>[boxT tb (splice Ts off (rVal.cs u')) q]) (fun _=>tany):=
 .say (A:=own R e xs u') (by simp) (fun _ _ h=>QkA h) fun hu=>(op_storeT' (R:=rVal) (a:=u') (Ts:=Ts) (off:=off) hz hp (hx.weak fun _ _ _ h=>⟨h,hu⟩) hl).useMore (fun A hA=>by cases hA)
/-- A new builder. -/
theorem Qqi {tb be:TypeId} {bs:Nat} (hi:(P.info? tb).map (fun i=>(i.zero,i.size,i.bytes))=some (some (.agg #[.pointer none,.slice none 0 0]),2,bs)):
  OpJ P ⟨d,.alloc tb,ty,pos,af,g⟩ Γ [] [] (fun p=>[bldE tb be [] p nilV]) (fun p=>tv p):=by
 intro M w A hM _ _ _ _ _
 obtain⟨ti,hti,hzz⟩:∃ti,P.info? tb=some ti∧ti.zero=some (.agg #[.pointer none,.slice none 0 0]):=by
  cases hx:P.info? tb with
  | none=>simp[hx] at hi
  | some i=>
   simp only[hx,Option.map_some,Option.some.injEq,Prod.mk.injEq] at hi
   exact⟨i,rfl,hi.1⟩
 have hr:(execOp A.eval (⟨d,.alloc tb,ty,pos,af,g⟩:Oper)).run P w=.ok (.value (.pointer (some ⟨w.heap.size,0,none⟩))) (w.alloc (.cells #[.pointer none,.slice none 0 0] tb)):=by
  simp[execOp,Instr.alloc,zeroValue,typeInfo,hti,hzz,newVar,newRow,Value.cells]
 simp only[Does,hr]
 refine⟨.pointer (some ⟨w.heap.size,0,none⟩),(Step.alloc w _).mono (fun _ h=>h.elim),QeI (fun k hk=>?_) ?_,rfl⟩
 ·have hk:k=w.heap.size:=by
   rcases hk with hk | hk
   ·exact (QoH (Ts:=[])).1 hk
   ·cases hk
  subst hk
  exact⟨.inr (Nat.le_refl _),by simp⟩
 ·refine⟨⟨w.heap.size,_,rfl,heap_alloc_new w _,?_,?_⟩,⟨[],World.ownsRow_nil _ _ _ _,rfl,fun j T u hT=>by simp[Q5] at hT⟩,fun k _ hk=>by cases hk⟩
  ·exact .cons ⟨.inl rfl,rfl⟩ (.cons ⟨rfl,rfl⟩ .nil)
  ·intro u hu
   simp at hu
   rcases hu with rfl | rfl<;>rfl

/-- Appending a string's bytes. -/
theorem QrK {xs:List Int} {v:Value} {F F':Blk} {w:World} {s:Str} (ht:P.underlying t=some (.slice e)) (hu:P.underlying t2=some .string) (hz:TOk P e (rInt .u8) 1 (.int .u8 0))
  (ho:(own (rInt .u8) e xs v).ok F w) (hF:∀k,F k→k<w.heap.size∧¬(own (rInt .u8) e xs v).fp k) (hFF:∀k,F k→F' k) (h:rm (xs.length+s.length)=some ()):
  ∃v' w',(Builtin.append_ #[t,t2] ty #[v,.string (sB s)]).run P w=.ok v' w'∧Step (own (rInt .u8) e xs v).fp w w'∧(∀k,(own (rInt .u8) e (xs++Q5 s) v').fp k→((own (rInt .u8) e xs v).fp k∨w.heap.size≤k)∧k<w'.heap.size)∧(own (rInt .u8) e (xs++Q5 s) v').ok F' w':=by
 obtain⟨ti,hti,hzz,hs,hbb⟩:=hz.info
 have hs1:ti.size=1:=hs
 have hroom:xs.length+s.length≤68719476736:=by unfold rm at h;split at h<;>first | assumption | cases h
 have hsz:=QfO s
 have hlen:(Q5 s).length=s.length:=by simp[Q5]
 have hnl:(Lib.strCells (sB s)).length=s.length:=by rw[Lib.strCells_length,hsz]
 have hcn:∀F w,Q3 ((Q5 s).flatMap (rInt .u8).cs) F w (Lib.strCells (sB s)):=by
  intro F w
  rw[QgT]
  refine⟨by simp[hnl,hlen],fun j T u hT hu=>?_⟩
  simp only[Lib.strCells,Q5,sB,List.map_map,List.getElem?_map,Option.map_eq_some_iff] at hT hu
  obtain⟨c,h1,rfl⟩:=hT
  obtain⟨c',h2,rfl⟩:=hu
  have:some c=some c':=h1.symm.trans h2
  cases this
  rfl
 have hxf:(xs.flatMap (rInt .u8).cs).length=xs.length:=by rw[QgT];simp
 have hlt:∀k,(own (rInt .u8) e xs v).fp k→k<w.heap.size:=by
  intro k hk
  rcases QcE ho with⟨hv,_⟩ | ⟨b,cap,cur,hv,hbk,_⟩
  ·rw[hv] at hk;cases hk
  ·rw[hv] at hk
   rw[Qcu.1 hk]
   exact (Array.getElem?_eq_some_iff.1 hbk).1
 have hz1:(Value.int IntKind.u8 0).cells.size=1:=rfl
 rcases QcE ho with⟨hv,hx⟩ | ⟨gb,cap,cur,hv,hbk,h1,h2,h3,h4⟩
 ·subst hv;subst hx
  by_cases hs0:s=[]
  ·subst hs0
   refine⟨.slice none 0 0,w,?_,Step.refl _ _,fun k hk=>(by exact absurd hk (by intro h;cases h)),?_⟩
   ·have hf:=Lib.run_firstCells_string (P:=P) w 1 (sB [])
    have e0:(sB []).size=0:=rfl
    have e4:(⟨#[]⟩:ByteArray)=ByteArray.empty:=rfl
    rw[e0] at hf
    have e5:Lib.strCells (sB [])=[]:=rfl
    rw[e5] at hf
    simp[Builtin.append_,run_underlying ht,run_underlying hu,sizeOf,typeInfo,hti,hs1,Builtin.lenOf,e0,hf]
   ·exact⟨[],World.ownsRow_nil _ _ _ _,rfl,fun j T u hT=>by simp[Q5] at hT⟩
  ·have hpos:0<s.length:=by
    rcases s with _ | ⟨b,s⟩
    ·exact (hs0 rfl).elim
    ·simp
   simp only[List.length_nil,Nat.zero_add] at hroom
   have hrun:=run_append_nil_string (P:=P) w t t2 ty e ti (.int .u8 0) ht hu hti hzz (sB s) (by rw[hsz];omega) (by rw[hsz];omega) (by rw[hsz,hbb];omega)
   have hge:=grownCap_ge w (sB s).size 0 e
   have hle:=grownCap_le_maxLen w (sB s).size 0 e (by rw[hsz];unfold maxLen;omega)
   have e1:((sB s).data.map fun b=>Value.int .u8 b.toNat)=(Lib.strCells (sB s)).toArray:=by
    apply Array.ext'
    simp[Lib.strCells]
   rw[e1] at hrun
   refine⟨_,_,hrun,⟨rfl,rfl,rfl,by simp,fun k hk _=>Go.RowKit.Below.heap_alloc w.drew _ k hk⟩,?_,?_⟩
   ·intro k hk
    rw[Qcu.1 hk]
    exact⟨.inr (Nat.le_refl _),by simp⟩
   ·rw[List.nil_append,hsz,←hlen]
    rw[hsz,←hlen] at hge hle
    refine QiG (heap_alloc_new w.drew _) hge hle ?_ ?_
    ·rw[hlen] at hge ⊢
     simp only[Array.size_append,List.size_toArray,size_zeroCells,hz1,hnl]
     show _=_ * 1
     omega
    ·have e2:((Lib.strCells (sB s)).toArray++Builtin.zeroCells (Value.int .u8 0).cells (grownCap w (Q5 s).length 0 e - (Q5 s).length)).toList.take ((Q5 s).length * 1)=Lib.strCells (sB s):=by
      rw[Array.toList_append,List.take_left' (by rw[List.toList_toArray,hnl,hlen,Nat.mul_one])]
     show Q3 _ F' _ (List.take ((Q5 s).length * 1) _)
     rw[e2]
     exact hcn _ _
 ·subst hv
  have h3':cur.size=cap:=by simpa using h3
  by_cases hcap:xs.length+s.length≤cap
  ·have hrun:=Lib.run_append_room_string (P:=P) w t t2 ty e ti ht hu hti hs1 gb xs.length cap cur hbk (sB s) (by rw[hsz];exact hcap) (by rw[hsz,h3'];exact hcap)
   refine⟨_,_,hrun,QhZ (Qcu.2 rfl),?_,?_⟩
   ·intro k hk
    rw[Qcu.1 hk]
    exact⟨.inl (Qcu.2 rfl),by simpa using (Array.getElem?_eq_some_iff.1 hbk).1⟩
   ·have el:xs.length+(sB s).size=(xs++Q5 s).length:=by rw[hsz];simp[hlen]
    rw[el]
    refine QiG (setRow_heap w gb cur _ e _ hbk) (by rw[←el,hsz];exact hcap) h2 ?_ ?_
    ·simp only[List.size_toArray,List.length_append,List.length_take,List.length_drop,Array.length_toList,hnl]
     show _=cap * 1
     omega
    ·have e2:(cur.toList.take xs.length++Lib.strCells (sB s)++cur.toList.drop (xs++Q5 s).length).take ((xs++Q5 s).length * 1)=cur.toList.take (xs.length * 1)++Lib.strCells (sB s):=by
      rw[Nat.mul_one,Nat.mul_one]
      refine List.take_left' ?_
      rw[List.length_append,hnl,List.length_take,←el,hsz]
      simp;omega
     show Q3 _ F' _ (List.take ((xs++Q5 s).length * 1) (List.toArray _).toList)
     rw[List.toList_toArray,e2,List.flatMap_append]
     exact (h4.keepE hFF (fun k hk=>setRow_other w gb k _ (fun e=>(hF k hk).2 (Qcu.2 e)))).append (hcn _ _)
  ·have holds:∀j u,(cur.toList.take xs.length)[j]?=some u→w.cell? ((⟨gb,0,none⟩:Addr).add j)=some u:=by
    intro j u hu
    rw[List.getElem?_take] at hu
    split at hu
    ·rw[QaN,Nat.zero_add]
     simpa[World.cell?,hbk] using hu
    ·cases hu
   have holdl:(cur.toList.take xs.length).length=xs.length * ti.size:=by rw[hs1];simp;omega
   have hrun:=Lib.run_append_grow_string (P:=P) w t t2 ty e ti (.int .u8 0) ht hu hti hzz ⟨gb,0,none⟩ xs.length cap _ holdl holds (sB s) (by rw[hsz];omega) (by rw[hsz];omega) (growslice_fits (by rw[hsz];omega) (by rw[hbb,hsz];omega))
   have hge:=grownCap_ge w (xs.length+(sB s).size) cap e
   have hle:=grownCap_le_maxLen w (xs.length+(sB s).size) cap e (by rw[hsz];unfold maxLen;omega)
   refine⟨_,_,hrun,⟨rfl,rfl,rfl,by simp,fun k hk _=>Go.RowKit.Below.heap_alloc w.drew _ k hk⟩,?_,?_⟩
   ·intro k hk
    rw[Qcu.1 hk]
    exact⟨.inr (Nat.le_refl _),by simp⟩
   ·have el:xs.length+(sB s).size=(xs++Q5 s).length:=by rw[hsz];simp[hlen]
    rw[el] at hge hle ⊢
    refine QiG (heap_alloc_new w.drew _) hge hle ?_ ?_
    ·simp only[Array.size_append,List.size_toArray,size_zeroCells,hz1,holdl,hnl,hs1,List.length_append,hlen]
     simp only[List.length_append,hlen] at hge
     show _=_ * 1
     omega
    ·have e2:(((cur.toList.take xs.length).toArray++(Lib.strCells (sB s)).toArray++Builtin.zeroCells (Value.int .u8 0).cells (grownCap w (xs++Q5 s).length cap e - (xs++Q5 s).length)).toList).take ((xs++Q5 s).length * 1)=cur.toList.take (xs.length * 1)++Lib.strCells (sB s):=by
      rw[Array.toList_append,Array.toList_append,Nat.mul_one,Nat.mul_one]
      refine List.take_left' ?_
      simp only[List.length_append,holdl,hnl,hs1,hlen,Nat.mul_one]
     show Q3 _ F' _ (List.take ((xs++Q5 s).length * 1) _)
     rw[e2,List.flatMap_append]
     exact (h4.keepE hFF (fun k hk=>Go.RowKit.Below.heap_alloc w.drew _ k (hF k hk).1)).append (hcn _ _)

theorem Qsv {xs:List Int} {v:Value} {s:Str} (ht:P.underlying t=some (.slice e)) (hu:P.underlying t2=some .string) (hz:TOk P e (rInt .u8) 1 (.int .u8 0)) (hx:Fct Γ x (tv v)) (hy:Fct Γ y (tv (.string (sB s)))) (h:rm (xs.length+s.length)=some ()):
  OpJ P ⟨d,.call { callee:=.builtin .append,args:=#[x,y],argTypes:=#[t,t2] },ty,pos,af,g⟩ Γ [] [own (rInt .u8) e xs v] (fun v'=>[own (rInt .u8) e (xs++Q5 s) v']) (fun v'=>tv v'):=by
 intro M w A hM _ hE _ _ he
 obtain⟨ho,hfp⟩:=hE _ (List.mem_singleton.2 rfl)
 have hgiv:=QfB hE
 have h1:=hx.val (by simp[Op.operands,Call.operands]) he
 have h2:=hy.val (by simp[Op.operands,Call.operands]) he
 obtain⟨v',w',hrun,hstep,hfp',hok⟩:=QrK (ty:=ty) (F:=free M w) (F':=fun k=>k<w.heap.size∧¬M k) ht hu hz ho (fun k hk=>⟨hk.1,fun hf=>hk.2 (hfp k hf)⟩) (fun k hk=>hk) h
 have hexec:(execOp A.eval (⟨d,.call { callee:=.builtin .append,args:=#[x,y],argTypes:=#[t,t2] },ty,pos,af,g⟩:Oper)).run P w=.ok (.value v') w':=by
  simp only[execOp,resolve,invoke,builtin,Sem.run_bind,Sem.run_pure,Result.andThen_ok,List.map_toArray,List.map_cons,List.map_nil,h1,h2,hrun]
 simp only[Does,hexec]
 refine⟨v',hstep.mono (fun k hk=>Qc4.2 hk),QeI (fun k hk=>⟨(hfp' k hk).1.imp Qc4.2 id,(hfp' k hk).2⟩) ?_,rfl⟩
 refine Atom.keep _ (fun k hk=>?_) (fun _ _=>rfl) (fun _ _=>rfl) hok
 refine Qf6 hstep.size hgiv (fun B hB j hj=>?_) hk
 obtain rfl:=List.mem_singleton.1 hB
 exact (hfp' j hj).1.imp Qc4.2 id

/-- The address of an owned slice's bytes. -/
theorem Qrb {xs:List α} {v:Value} (hne:xs≠[]) (hx:Fct Γ x (tv v)):OpJ P ⟨d,.call { callee:=.builtin .unsafeSliceData,args:=#[x],argTypes:=#[t] },ty,pos,af,g⟩ Γ [own R e xs v] [] (fun _=>[]) (fun _=>tv (QdM v 0)):=
 QdB fun M w A hU he=>by
  have h1:=hx.val (by simp[Op.operands,Call.operands]) he
  rcases QcE (hU _ (List.mem_singleton.2 rfl)) with⟨_,hn⟩ | ⟨b,cap,cur,hv,_,hl,_⟩
  ·exact (hne hn).elim
  ·subst hv
   have hc:cap≠0:=by
    have:0<xs.length:=List.length_pos_iff.2 hne
    omega
   refine⟨.pointer (some ⟨b,0,none⟩),by simp only[execOp,resolve,invoke,builtin,Sem.run_bind,Sem.run_pure,Result.andThen_ok,List.map_toArray,List.map_cons,List.map_nil,h1,Lib.run_unsafeSliceData_row (P:=P) (w:=w) #[t] ty ⟨b,0,none⟩ xs.length cap hc],?_⟩
   show _=_
   simp[QdM,Addr.add]
/-- An owned slice's bytes become a string; nobody writes there again. -/
theorem QoP {l:Str} {v:Value} {pt it:TypeId} (hp:P.underlying pt=some (.pointer e)) (hc:P.cellsOf e=1) (hne:l≠[]) (hx:Fct Γ x (tv (QdM v 0))) (hy:Fct Γ y (tv (.int .i64 ((Q5 l).length:Int)))):
  OpJ P ⟨d,.call { callee:=.builtin .unsafeString,args:=#[x,y],argTypes:=#[pt,it] },ty,pos,af,g⟩ Γ [] [own (rInt .u8) e (Q5 l) v] (fun _=>[]) (fun _=>tv (.string (sB l))):=by
 intro M w A hM _ hE _ _ he
 obtain⟨ho,hfp⟩:=hE _ (List.mem_singleton.2 rfl)
 have h1:=hx.val (by simp[Op.operands,Call.operands]) he
 have h2:=hy.val (by simp[Op.operands,Call.operands]) he
 have hlen:(Q5 l).length=l.length:=by simp[Q5]
 rw[hlen] at h2
 rcases QcE ho with⟨_,hn⟩ | ⟨b,cap,cur,hv,hb,hl,hm,hs,hcells⟩
 ·have:l.length=0:=by rw[←hlen,hn];rfl
  exact (hne (List.eq_nil_of_length_eq_zero this)).elim
 ·subst hv
  have hrun:=Lib.run_unsafeString_row (P:=P) w pt it ty e hp hc b cur.size (by simp[World.shape?,hb]) l hne (by rw[hs,←hlen];show _≤cap * 1;omega) (by unfold maxLen at hm;omega) (fun j c hj=>by
   rw[QaN,Nat.zero_add]
   have hj':j<l.length:=(List.getElem?_eq_some_iff.1 hj).1
   have hT:((Q5 l).flatMap (rInt .u8).cs)[j]?=some (tv (.int .u8 (c.toNat:Int))):=by
    rw[QgT];simp[Q5,hj]
   have hlt:j<(cur.toList.take ((Q5 l).length * (rInt .u8).n)).length:=by rw[hcells.1];exact (List.getElem?_eq_some_iff.1 hT).1
   have:=hcells.2 j _ _ hT (List.getElem?_eq_getElem hlt)
   have hval:cur.toList[j]?=some (.int .u8 (c.toNat:Int)):=by
    have h3:=List.getElem?_eq_getElem hlt
    rw[show (cur.toList.take ((Q5 l).length * (rInt .u8).n))[j]=Value.int .u8 (c.toNat:Int) from this] at h3
    rw[List.getElem?_take] at h3
    split at h3
    ·exact h3
    ·cases h3
   simpa[World.cell?,hb] using hval)
  have hev:QdM (Value.slice (some ⟨b,0,none⟩) (Q5 l).length cap) 0=.pointer (some ⟨b,0,none⟩):=by simp[QdM,Addr.add]
  have hexec:(execOp A.eval (⟨d,.call { callee:=.builtin .unsafeString,args:=#[x,y],argTypes:=#[pt,it] },ty,pos,af,g⟩:Oper)).run P w=.ok (.value (.string ⟨l.toArray⟩)) (w.freeze ⟨b,0,none⟩ l.length):=by
   simp only[execOp,resolve,invoke,builtin,Sem.run_bind,Sem.run_pure,Result.andThen_ok,List.map_toArray,List.map_cons,List.map_nil,h1,h2,hev,hrun]
  simp only[Does,hexec]
  refine⟨undef,?_,Qjf,rfl⟩
  have hne0:l.length≠0:=fun h=>hne (List.eq_nil_of_length_eq_zero h)
  refine⟨by simp[World.freeze,hne0],by simp[World.freeze,hne0],by simp[World.freeze,hne0],by simp[World.freeze,hne0],fun k hk hnk=>?_⟩
  have hkb:b≠k:=fun e=>hnk (Qc4.2 (Qcu.2 e.symm))
  simp[World.freeze,hne0,Array.getElem?_modify,hkb]

end

end Go.Sim

namespace Go.Sim
/-- A datum one of whose cells may be a given value. -/
def Qcp {α:Type} (R:Rep α) (k:Nat):Rep (α×Option Value):=
 ⟨fun x=>match x.2 with | none=>R.cs x.1 | some q=>(R.cs x.1).set k (tvs q),R.n,R.agg,fun x=>by cases x.2<;>simp[R.len],
  fun x T h F w v hv=>by
   obtain⟨x,o⟩:=x
   cases o with
   | none=>exact R.one x T h F w v hv
   | some q=>
    rcases List.mem_or_eq_of_mem_set h with h | h
    ·exact R.one x T h F w v hv
    ·subst h;exact QbZ F w v hv,R.sz⟩
/-- A list one of whose elements has such a cell. -/
def QeY {α:Type} (xs:List α) (i:Int) (q:Value):List (α×Option Value):=match idx xs i with | some u=>(xs.map fun x=>(x,none)).set i.toNat (u,some q) | none=>xs.map fun x=>(x,none)
section
variable {α:Type} {R:Rep α} {k:Nat} {xs:List α} {i:Int} {q:Value} {u:α} {v:Value} {e:TypeId}
theorem Qm7 (h:idx xs i=some u):0≤i∧i.toNat<xs.length∧xs[i.toNat]?=some u:=by
 unfold idx at h
 split at h
 ·exact⟨by assumption,(List.getElem?_eq_some_iff.1 h).1,h⟩
 ·cases h
theorem Qod (h:idx xs i=some u):QeY xs i q=(xs.map fun x=>(x,none)).set i.toNat (u,some q):=by unfold QeY;rw[h]
theorem QuE (h:idx xs i=some u):(QeY xs i q).length=xs.length:=by rw[Qod h];simp
theorem QuF (h:idx xs i=some u):setAt (xs.map fun x=>(x,(none:Option Value))) i (u,some q)=some (QeY xs i q):=by
 obtain⟨h0,h1,h2⟩:=Qm7 h
 rw[Qod h];unfold setAt
 rw[if_pos ⟨h0,by rw[List.length_map];omega⟩]
theorem Qte (R:Rep α) (k:Nat) (e:TypeId) (xs:List α) (v:Value):own (Qcp R k) e (xs.map fun x=>(x,none)) v=own R e xs v:=by
 have e1:((xs.map fun x=>(x,(none:Option Value))).flatMap (Qcp R k).cs)=xs.flatMap R.cs:=by rw[List.flatMap_map];rfl
 unfold own
 congr 1
 funext F w
 rw[e1,List.length_map]
 rfl
theorem Qsw {β:Type} {l:List β} {k:Nat} {x:β} (h:k<l.length):l.set k x=splice l k [x]:=by
 apply List.ext_getElem?
 intro j
 rw[QbT _ _ _ _ (by rw[List.length_singleton];omega),List.getElem?_set]
 simp only[List.length_singleton]
 by_cases hj:k=j
 ·subst hj;rw[if_pos rfl,if_pos h,if_pos ⟨Nat.le_refl _,by omega⟩,Nat.sub_self];rfl
 ·rw[if_neg hj,if_neg (by omega)]
section
variable {Γ:List (Nat×Ty)} {P:Program} {d:Option Tmp} {ty:TypeId} {pos:String} {af:Array Edge} {g:Option (Nat×Bool)} {x y:Operand} {t:TypeId} {bytes:Nat} {z:Value} {β:Type} {R2:Rep β}
/-- An owned slice is put into an element of an owned slice. -/
theorem Qtf {ys:List β} {e2:TypeId} (hz:TOk P t rVal bytes z) (hp:Fct Γ x (tv (padd (QdM v (i.toNat * R.n)) k))) (hx:Fct Γ y (tv q)) (h:idx xs i=some u) (hk:k+1≤R.n):
  OpJ P ⟨d,.store t x y,ty,pos,af,g⟩ Γ [own R2 e2 ys q] [own R e xs v] (fun _=>[own (Qcp R k) e (QeY xs i q) v]) (fun _=>tany):=
 .say (A:=own R2 e2 ys q) (by simp) (fun _ _ h=>QkA h) fun hu=>by
  obtain⟨h0,h1,h2⟩:=Qm7 h
  have hm:idx (xs.map fun x=>(x,(none:Option Value))) i=some (u,none):=by unfold idx;rw[if_pos h0,List.getElem?_map,h2];rfl
  have:=Qet (R:=Qcp R k) (R2:=rVal) (xs:=xs.map fun x=>(x,none)) (ys:=QeY xs i q) (v:=v) (i:=i) (off:=k) (u0:=(u,none)) (u:=(u,some q)) (u2:=q) (e:=e) (d:=d) (ty:=ty) (pos:=pos) (af:=af) (g:=g)
   hz hp (hx.weak fun _ _ _ h=>⟨h,hu⟩) hm (QuF h) hk (by show (R.cs u).set k (tvs q)=splice (R.cs u) k [tvs q];exact Qsw (by rw[R.len];omega))
  rw[Qte] at this
  exact this.useMore (fun A hA=>by cases hA)
end
section
variable {M:Fr} {w0:World} {n:Nat} {Γ:List (Nat×Ty)} {As:List Atom} {a:Act} {w:World} {β:Type} {R2:Rep β} {ys:List β} {e2:TypeId}
/-- What an element held as owned is only read from now on. -/
theorem St.closeH {u':α} (hi:idx xs i=some u) (h:St M w0 n Γ (Sim.own R2 e2 ys q::Sim.own (Qcp R k) e (QeY xs i q) v::As) a w) (hk:k+1≤R.n) (hu:R.cs u'=(R.cs u).set k (tsl R2 ys)):
  St M w0 n Γ (Sim.own R e (xs.set i.toNat u') v::As) a w:=by
 obtain⟨h0,h1,h2⟩:=Qm7 hi
 have hf:∀j,fps (Sim.own R e (xs.set i.toNat u') v::As) j→fps (Sim.own R2 e2 ys q::Sim.own (Qcp R k) e (QeY xs i q) v::As) j:=by
  rintro j ⟨A,hA,hj⟩
  rcases List.mem_cons.1 hA with rfl | hA
  ·exact⟨Sim.own (Qcp R k) e (QeY xs i q) v,by simp,hj⟩
  ·exact⟨A,by simp[hA],hj⟩
 have hfree:∀j,free (hold M.m (Sim.own R2 e2 ys q::Sim.own (Qcp R k) e (QeY xs i q) v::As)) w j→free (hold M.m (Sim.own R e (xs.set i.toNat u') v::As)) w j:=fun j hj=>⟨hj.1,fun hm=>hj.2 (hm.imp id (hf j))⟩
 have hown:=h.own (Sim.own R2 e2 ys q) (by simp)
 have hbig:=h.own (Sim.own (Qcp R k) e (QeY xs i q) v) (by simp)
 have hap:=List.pairwise_cons.1 h.apart
 have hfp:∀j,(Sim.own R2 e2 ys q).fp j→free (hold M.m (Sim.own R e (xs.set i.toNat u') v::As)) w j:=by
  intro j hj
  have hfr:=h.fresh _ (List.mem_cons_self) j hj
  refine⟨hfr.2,?_⟩
  rintro (hm | ⟨A,hA,hkA⟩)
  ·have:=h.m0 j hm
   rcases hfr.1 with hb | hb
   ·exact this.2 hb
   ·omega
  ·rcases List.mem_cons.1 hA with rfl | hA
   ·exact hap.1 (Sim.own (Qcp R k) e (QeY xs i q) v) (by simp) j hj hkA
   ·exact hap.1 A (by simp[hA]) j hj hkA
 have hsl:(tsl R2 ys).ok (free (hold M.m (Sim.own R e (xs.set i.toNat u') v::As)) w) w q:=
  QcD.own (x:=.tmp 0) (Γ:=[(0,tv q)]) (U:=[Sim.own R2 e2 ys q]) (R:=R2) (e:=e2) (xs:=ys) (v:=q) (Fct.t 0 rfl) (by simp) _ _ w ⟨#[q],[]⟩ hfree (fun A hA=>by simp at hA;subst hA;exact⟨hown,hfp⟩) (fun p hp _=>by simp at hp;subst hp;rfl)
 have hlu:(R.cs u).length=R.n:=R.len u
 have hcell:∀j T,((xs.set i.toNat u').flatMap R.cs)[j]?=some T→(j=i.toNat * R.n+k∧T=tsl R2 ys∧((QeY xs i q).flatMap (Qcp R k).cs)[j]?=some (tvs q))∨((QeY xs i q).flatMap (Qcp R k).cs)[j]?=some T:=by
  intro j T hT
  have hfl:(xs.flatMap R.cs).length=xs.length * R.n:=QaO R xs
  have hfl2:((xs.map fun x=>(x,(none:Option Value))).flatMap (Qcp R k).cs)=xs.flatMap R.cs:=by rw[List.flatMap_map];rfl
  have hin:i.toNat * R.n+R.n≤xs.length * R.n:=by
   have:(i.toNat+1) * R.n≤xs.length * R.n:=Nat.mul_le_mul_right _ h1
   rw[Nat.add_mul] at this;omega
  have e1:=Qlm (Qcp R k) (xs.map fun x=>(x,(none:Option Value))) i.toNat (u,some q) (by simpa using h1)
  rw[hfl2] at e1
  have e1':((QeY xs i q).flatMap (Qcp R k).cs)=splice (xs.flatMap R.cs) (i.toNat * R.n) ((R.cs u).set k (tvs q)):=by rw[Qod hi];exact e1
  rw[Qlm R xs i.toNat u' h1,hu,QbT _ _ _ _ (by rw[List.length_set];omega),List.length_set,hlu] at hT
  rw[e1',QbT _ _ _ _ (by rw[List.length_set];omega),List.length_set,hlu]
  by_cases hj:i.toNat * R.n≤j∧j<i.toNat * R.n+R.n
  ·rw[if_pos hj] at hT ⊢
   by_cases hjk:k=j - i.toNat * R.n
   ·left
    refine⟨by omega,?_,?_⟩
    ·rw[←hjk,List.getElem?_set_self (by omega)] at hT
     exact (Option.some.inj hT).symm
    ·rw[←hjk,List.getElem?_set_self (by omega)]
   ·right
    rw[List.getElem?_set_ne hjk] at hT ⊢
    exact hT
  ·rw[if_neg hj] at hT ⊢
   exact .inr hT
 refine⟨h.size,h.defers,h.grow,h.m0,?_,?_,?_,fun p hp=>p.2.keep hfree (fun _ _=>rfl) (h.slots p hp)⟩
 ·intro A hA
  rcases List.mem_cons.1 hA with rfl | hA
  ·obtain⟨us,ho,hc⟩:=hbig
   have hlen:(QeY xs i q).length=(xs.set i.toNat u').length:=by rw[QuE hi,List.length_set]
   rw[hlen] at ho
   refine⟨us,ho,?_,fun j T c hT hu'=>?_⟩
   ·rw[hc.1,QaO,QaO,hlen];rfl
   ·rcases hcell j T hT with⟨_,rfl,hq⟩ | hq
    ·have hcq:c=q:=(hc.2 j _ c hq hu').1
     rw[hcq];exact hsl
    ·exact T.keep hfree (fun _ _=>rfl) (hc.2 j T c hq hu')
  ·exact A.keep hfree (fun _ _=>rfl) (fun _ _=>rfl) (h.own A (by simp[hA]))
 ·intro A hA j hj
  rcases List.mem_cons.1 hA with rfl | hA
  ·exact h.fresh (Sim.own (Qcp R k) e (QeY xs i q) v) (by simp) j hj
  ·exact h.fresh A (by simp[hA]) j hj
 ·have h2:=List.pairwise_cons.1 hap.2
  exact List.pairwise_cons.2 ⟨fun B hB j hj=>h2.1 B hB j hj,h2.2⟩
end
end

end Go.Sim

namespace Go.Sim

theorem arr_at {α:Type} {R:Rep α} {Ts:List Ty} {L:List α} {o k:Nat} {u:α} (hn:R.n=1) (h:(Ts.drop o).take L.length=L.flatMap R.cs) (hk:L[k]?=some u):R.cs u=(Ts.drop (o+k)).take (R.cs u).length:=by
 have hl:(R.cs u).length=1:=by rw[R.len,hn]
 have hkl:=(List.getElem?_eq_some_iff.1 hk).1
 rw[hl]
 apply List.ext_getElem?
 intro m
 rw[List.getElem?_take]
 by_cases hm:m<1
 ·have:m=0:=by omega
  subst this
  rw[if_pos hm,List.getElem?_drop]
  have e:=QgR R L k 0 u hk (by omega)
  rw[←h,hn,List.getElem?_take,if_pos (by omega),List.getElem?_drop] at e
  rw[←e];congr 1;omega
 ·rw[if_neg hm,List.getElem?_eq_none (by omega)]

theorem sub_hi {α:Type} {L v:List α} {j:Int} (h:sub L 0 j=some v):0≤j∧j≤(L.length:Int):=by
 unfold sub at h
 split at h
 ·rename_i hc;exact⟨hc.2.1,hc.2.2⟩
 ·cases h

section
variable {Γ:List (Nat×Ty)} {P:Program} {d:Option Tmp} {ty:TypeId} {pos:String} {af:Array Edge} {g:Option (Nat×Bool)} {x y:Operand} {T:Ty} {t e:TypeId} {α:Type} {R:Rep α} {bytes:Nat} {z:Value}

/-- An element of an array in a variable that the call owns. -/
theorem Qqj {n:Nat} {k:IntKind} {i:Int} {Ts:List Ty} {q:Value} {o:Nat} {L:List α} {u:α} (ht:P.underlying t=some (.array n e)) (hz:TOk P e R bytes z) (h1:R.n=1) (hx:Fct Γ x (tv (padd q o))) (hi:Fct Γ y (tv (.int k i))) (hn:L.length=n) (h:idx L i=some u):
  OpJ P ⟨d,.indexAddr t x y,ty,pos,af,g⟩ Γ [box Ts q] [] (fun _=>[]) (fun _=>tv (padd q (o+i.toNat))):=
 QdB fun M w A hU he=>by
  have hv:=hx.val (by simp[Op.operands]) he
  have h2:=hi.val (by simp[Op.operands]) he
  obtain⟨b,cur,e,hq,_⟩:=hU _ (List.mem_singleton.2 rfl)
  subst hq
  obtain⟨h0,hlt,_⟩:=idx_lt' h
  refine⟨_,?_,rfl⟩
  simp only[execOp,hv,h2,Sem.run_bind,padd,QaN,Qhe ht hz w h0 (show i<(n:Int) by omega),Result.andThen_ok,Sem.run_pure,h1,Nat.mul_one,Nat.zero_add]
theorem QoQ {n:Nat} {k:IntKind} {i:Int} {Ts:List Ty} {q:Value} {L:List α} {u:α} (ht:P.underlying t=some (.array n e)) (hz:TOk P e R bytes z) (h1:R.n=1) (hx:Fct Γ x (tv q)) (hi:Fct Γ y (tv (.int k i))) (hn:L.length=n) (h:idx L i=some u):
  OpJ P ⟨d,.indexAddr t x y,ty,pos,af,g⟩ Γ [box Ts q] [] (fun _=>[]) (fun _=>tv (padd q (0+i.toNat))):=
 QdB fun M w A hU he=>by
  have hv:=hx.val (by simp[Op.operands]) he
  have h2:=hi.val (by simp[Op.operands]) he
  obtain⟨b,cur,e,hq,_⟩:=hU _ (List.mem_singleton.2 rfl)
  subst hq
  obtain⟨h0,hlt,_⟩:=idx_lt' h
  refine⟨_,?_,rfl⟩
  simp only[execOp,hv,h2,Sem.run_bind,padd,QaN,Qhe ht hz w h0 (show i<(n:Int) by omega),Result.andThen_ok,Sem.run_pure,h1,Nat.mul_one,Nat.zero_add]
theorem Qtg {i:Int} {Ts:List Ty} {q:Value} {o:Nat} {L:List α} {u:α} (hz:TOk P t R bytes z) (h1:R.n=1) (hp:Fct Γ x (tv (padd q (o+i.toNat)))) (hL:(Ts.drop o).take L.length=L.flatMap R.cs) (h:idx L i=some u):
  OpJ P ⟨d,.load t x,ty,pos,af,g⟩ Γ [box Ts q] [] (fun _=>[]) (fun _=>R.ty u):=
 Qat hz hp (arr_at h1 hL (idx_lt' h).2.2)
theorem Qmc {a u:α} {i:Int} {Ts Us:List Ty} {q:Value} {o:Nat} {L:List α} (hz:TOk P t R bytes z) (h1:R.n=1) (hp:Fct Γ x (tv (padd q (o+i.toNat)))) (hx:Fct Γ y (R.ty a)) (h:idx L i=some u) (hl:o+L.length≤Ts.length) (he:splice Ts (o+i.toNat) (R.cs a)=Us):
  OpJ P ⟨d,.store t x y,ty,pos,af,g⟩ Γ [] [box Ts q] (fun _=>[box Us q]) (fun _=>tany):=by
 subst he
 exact Qas hz hp hx (by have:=(idx_lt' h).2.1;rw[h1];omega)
/-- Cells put in the middle of others. -/
theorem Qsx {β:Type} {pre post X m Y:List β} {o k:Nat} (ho:pre.length=o) (hk:k+m.length≤X.length) (hY:splice X k m=Y):splice (pre++X++post) (o+k) m=pre++Y++post:=by
 subst hY;subst ho
 unfold splice
 rw[List.append_assoc pre X post,List.take_length_add_append,List.take_append_of_le_length (by omega),Nat.add_assoc,List.drop_length_add_append,List.drop_append_of_le_length hk]
 simp

/-- A slice of an array that lies in a variable. -/
def asl (v:Value) (n m:Nat):Value:=match v with | .pointer (some a)=>.slice (some a) n m | _=>.slice none 0 0
theorem Qmd {n:Nat} {Ts:List Ty} {q:Value} {o:Nat} {hi:Option Operand} {j:Int} (ht:P.underlying t=some (.array n e)) (hz:TOk P e R bytes z) (hx:Fct Γ x (tv (padd q o))) (hhi:Bd Γ hi n j) (h:0≤j∧j≤n) (h0:0<n):
  OpJ P ⟨d,.slice t x none hi none,ty,pos,af,g⟩ Γ [box Ts q] [] (fun _=>[]) (fun _=>tv (asl (padd q o) j.toNat n)):=
 QdB fun M w A hU he=>by
  have hv:=hx.val (by simp[Op.operands]) he
  obtain⟨b,cur,e,hq,_⟩:=hU _ (List.mem_singleton.2 rfl)
  subst hq
  obtain⟨ti,hti,_,hs,_⟩:=hz.info
  have hb:(Instr.sliceBounds false n n none (hi.map A.eval) none).run P w=.ok (0,j.toNat,n) w:=by
   rcases hhi.use (by rintro y rfl;simp[Op.operands]) he with⟨f1,f2⟩ | ⟨k2,f1⟩
   ·rw[f1,f2];simp[Instr.sliceBounds]
   ·rw[f1]
    simp only[Instr.sliceBounds,Sem.run_bind,Sem.run_pure,Result.andThen_ok,run_sliceBound w k2 j n _ h.1 h.2]
  refine⟨_,?_,rfl⟩
  simp[execOp,Instr.sliceAt,run_underlying ht,Instr.sureAddr,hv,hb,sizeOf,typeInfo,hti,hs,padd,QaN,asl,show ¬n=0 by omega]
/-- It is lent to be read. -/
theorem QcD.asl {U:List Atom} {Ts:List Ty} {q:Value} {o j n:Nat} {L:List α} (h:Fct Γ x (tv (Sim.asl (padd q o) j n))) (hU:Sim.box Ts q∈U) (hj:L.length=j) (hn:j≤n) (hL:(Ts.drop o).take (L.flatMap R.cs).length=L.flatMap R.cs):QcD Γ U x (tsl R L):=by
 intro F F' w a hF hA h0
 have hv:a.eval x=_:=h F w a h0
 obtain⟨hok,hfp⟩:=hA _ hU
 obtain⟨b,hq,hrow⟩:=Qjg hok
 subst hq
 rw[hv]
 refine⟨_,n,by simp only[Sim.asl,padd,hj];rfl,by omega,fun _=>⟨b,o,by simp[QaN],hfp b rfl,fun i T hi=>?_⟩⟩
 obtain⟨u,hu,hty⟩:=((hrow.part o).head (Us:=L.flatMap R.cs) hL.symm) i T hi
 exact⟨u,by rw[←hu];congr 2;omega,T.keep hF (fun _ _=>rfl) hty⟩
theorem QcD.aslH {U:List Atom} {Ts:List Ty} {q:Value} {o n:Nat} {j:Int} {L ys:List α} (h:Fct Γ x (tv (Sim.asl (padd q o) j.toNat n))) (hU:Sim.box Ts q∈U) (hs:sub L 0 j=some ys) (hn:L.length=n) (hL:(Ts.drop o).take (L.flatMap R.cs).length=L.flatMap R.cs):QcD Γ U x (tsl R ys):=by
 unfold sub at hs
 split at hs
 ·rename_i hc
  simp only[Option.some.injEq,Int.toNat_zero,List.drop_zero,Nat.sub_zero] at hs
  have e:ys.flatMap R.cs=(L.flatMap R.cs).take (j.toNat * R.n):=by
   rw[←hs]
   have:=Row.flatMap_sub R L 0 j.toNat (by omega)
   simpa using this
  have hyl:ys.length=j.toNat:=by rw[←hs,List.length_take];omega
  refine QcD.asl h hU hyl (by omega) ?_
  rw[e,←hL,List.take_take,List.length_take,List.take_eq_take_iff]
  omega
 ·cases hs
/-- A slice of an array that stays as it is. -/
theorem QoR {n:Nat} {Ts:List Ty} {L:List α} (ht:P.underlying t=some (.array n e)) (hz:TOk P e R bytes z) (hx:Fct Γ x (tptr Ts)) (hn:L.length=n) (h0:0<n) (hL:Ts.take (L.flatMap R.cs).length=L.flatMap R.cs):
  OpJ P ⟨d,.slice t x none none none,ty,pos,af,g⟩ Γ [] [] (fun _=>[]) (fun _=>tsl R L):=
 QaC fun F w A he=>by
  obtain⟨b,o,hv,hb,hr⟩:=hx.use (by simp[Op.operands]) he
  obtain⟨ti,hti,_,hs,_⟩:=hz.info
  subst hn
  refine⟨.slice (some ⟨b,o,none⟩) L.length L.length,?_,_,_,rfl,Nat.le_refl _,fun _=>⟨b,o,rfl,hb,hr.head hL.symm⟩⟩
  have h0':¬L=[]:=by intro hh;rw[hh] at h0;simp at h0
  simp[execOp,Instr.sliceAt,run_underlying ht,Instr.sureAddr,hv,Instr.sliceBounds,sizeOf,typeInfo,hti,hs,h0',QaN]
end
end Go.Sim

namespace Go.Sim

section
variable {P:Program} {ops:Array Oper} {Q:Exit→Act→World→Prop} {l n:Nat}
theorem QuG {o:Oper} {a:Act} {w:World} {K:Act→World→Prop} (hd:∀c,o.op≠.defer c) (h:o.wpIn Fence.wide n P a w K Q):o.wpIn (Fence.wide.inRound l) n P a w K Q:=by
 unfold Oper.wpIn at h ⊢
 refine⟨fun _ _=>trivial,?_⟩
 have h:=h.2
 rw[show Fence.wide.round=none from rfl,Oper.semAt_none] at h
 rw[Fence.inRound_round,Oper.semAt_some l _ o hd]
 generalize (execOp a.eval o).run P w=r at h ⊢
 match r,h with
 | .ok (.value v) w',h=>exact h
 | .ok .skip w',h=>exact h
 | .ok (.defer d) w',h=>exact h
 | .ok (.enter f args) w',h=>exact⟨fun hh=>(by cases hh),CallsIn.inRound l h.2⟩
 | .ok (.row row args) w',h=>exact⟨fun hh=>(by cases hh),h.2⟩
 | .ok (.round l f tmps assign body) w',h=>exact⟨fun hh=>(by cases hh),h.2⟩
 | .halt (.panic v) w',h=>exact h
theorem QoS {i:Nat} {a:Act} {w:World} {K:Act→World→Prop} (hd:∀(i:Nat) (o:Oper),ops[i]?=some o→∀c,o.op≠.defer c) (h:wpOpIn Fence.wide n P ops Q i K a w):wpOpIn (Fence.wide.inRound l) n P ops Q i K a w:=by
 unfold wpOpIn at h ⊢
 cases ho:ops[i]? with
 | none=>rw[ho] at h;exact h
 | some o=>
  rw[ho] at h
  dsimp only at h ⊢
  split
  ·rename_i hw
   rw[if_pos hw] at h
   exact QuG (hd i o ho) h
  ·rename_i hw
   rw[if_neg hw] at h
   exact⟨fun _ _=>trivial,h.2⟩
theorem Qqk (hd:∀(i:Nat) (o:Oper),ops[i]?=some o→∀c,o.op≠.defer c):∀(is:List Nat) (a:Act) (w:World),wpOpsIn Fence.wide n P ops Q is a w→wpOpsIn (Fence.wide.inRound l) n P ops Q is a w
 | [],_,_,h=>h
 | i::is,a,w,h=>by
  rw[wpOpsIn_cons] at h ⊢
  exact wpOpIn_mono (fun a w h=>Qqk hd is a w h) (QoS hd h)
theorem Qql (hd:∀(i:Nat) (o:Oper),ops[i]?=some o→∀c,o.op≠.defer c):∀(fuel:Nat) (listed:Array Bool) (a:Act) (w:World),wpAnyIn Fence.wide n P .any ops Q fuel listed a w→wpAnyIn (Fence.wide.inRound l) n P .any ops Q fuel listed a w
 | 0,_,_,_,h=>h
 | fuel+1,listed,a,w,h=>⟨h.1,fun i hi=>wpOpIn_mono (fun a w h=>Qql hd fuel _ a w h) (QoS hd (h.2 i hi))⟩
/-- A region in a round. -/
theorem QoT {Inv:(Nat→Bool)→Act→World→Prop} {id:Nat} {draw:Bool} {a:Act} {w:World} (hm:draw=true→P.follows .mixedOrders=true) (hd:∀(i:Nat) (o:Oper),ops[i]?=some o→∀c,o.op≠.defer c)
  (hs:Qkz P ops Q Inv) (hac:Acyc ops) (fin:∀S a w,(∀i,i<ops.size→S i=true)→Inv S a w→Q .normal a w)
  (h0:∀w',w'=w∨w'=w.drew→Inv (fun _=>false) a w'):(Code.region id ops draw).wpIn (Fence.wide.inRound l) 0 P Q a w:=by
 cases draw with
 | false=>
  refine wpIn_region (Qqk hd _ _ _ ?_)
  rw[List.range_eq_range']
  exact QrV hs hac fin ops.size 0 (by omega) a w (by simpa using h0 w (.inl rfl))
 | true=>
  refine wpIn_region_any (hm rfl) (Qql hd _ _ _ _ ?_)
  refine QrW hs hac fin ops.size _ a _ (by simp) ?_ ?_
  ·unfold QkJ
   have:=List.countP_le_length (p:=fun b=>!b) (l:=(Array.replicate ops.size false).toList)
   simpa using this
  ·have e:(fun j=>(Array.replicate ops.size false).getD j false)=fun _=>false:=by
    funext j
    simp only[Array.getD_eq_getD_getElem?,Array.getElem?_replicate]
    split<;>rfl
   rw[e]
   exact h0 w.drew (.inr rfl)
end
/-- A region in a round, by its derivation. -/
theorem QvC {P:Program} {ops:List Oper} {M:Fr} {w0:World} {n l:Nat} {Γ:List (Nat×Ty)} {As:List Atom} {a:Act} {w:World} {id:Nat} {draw:Bool} {Q:Exit→Act→World→Prop} {is:List Info} (hm:P.follows .mixedOrders=true) (hd:∀o∈ops,∀c,o.op≠.defer c) (Ns:List Ver)
  (hst:St M w0 n Γ As a w) (hrun:∀new,Run P ops (verA As Ns) new 0 Γ ops is) (hchk:chk ops is ((verA As Ns).map (·.ds)) (Γ.map (·.1)) As.length (verA As Ns).length n=true)
  (hQ:∀new a' w',St M w0 n (outG ops is Γ new) (QiF (verA As Ns) is new) a' w'→Q .normal a' w'):(Code.region id ops.toArray draw).wpIn (Fence.wide.inRound l) 0 P Q a w:=
 QoE _ is (fun _ hs hac fin h0=>QoT (fun _=>hm) (fun i o ho=>hd o (List.mem_of_getElem? (by simpa using ho))) hs hac fin h0) hst hrun (fun u A h x=>Qq6 As Ns u A h x) hchk hQ
end Go.Sim

namespace Go.Sim

/-- A block that holds one thing. -/
def objA (b:Nat) (o:Obj):Atom:=⟨fun k=>k=b,fun _ w=>w.heap[b]?=some o,fun _ _ hf h=>(hf b rfl).trans h⟩
/-- A loop's record, and what is known of its slots. -/
def Qgf (l:Nat) (r:Loop) (Γ:List (Nat×Ty)):Atom:=
 ⟨fun k=>k=l,fun F w=>w.heap[l]?=some (.loop r)∧∀p∈Γ,p.2.ok F w (r.tmps.getD p.1 undef),fun hF hh hf h=>⟨(hf l rfl).trans h.1,fun p hp=>p.2.keep hF hh (h.2 p hp)⟩⟩
/-- A loop's record between two rounds. -/
def Qev (fn:FuncId) (tmps:Array Value) (ps:Array Tmp) (assign body:Code) (D:Nat):Loop:={ state:=.ready,pending:=none,fn,tmps,params:=ps,assign,body,defers:=D }
def mark (D:Nat):Deferred:={ target:=.collected D,args:=#[] }
abbrev defO:Obj:=.deferred (some [])

section
variable {P:Program} {M:Fr} {M0:Blk} {w0:World} {n:Nat} {Γ:List (Nat×Ty)} {As:List Atom} {a:Act} {w:World}

/-- What an atom's one block holds is turned. -/
theorem St.putA {b:Nat} {o':Obj} {A A':Atom} (h:St M w0 n Γ (A::As) a w) (hA:∀k,A.fp k↔k=b) (hA':∀k,A'.fp k↔k=b)
  (hok:∀(F F':Blk) (w w':World),(∀k,F k→F' k)→(∀k,F k→w'.heap[k]?=w.heap[k]?)→w'.heap[b]?=some o'→A.ok F w→A'.ok F' w'):St M w0 n Γ (A'::As) a (w.putObj b o'):=by
 have hb:=h.fresh A (by simp) b ((hA b).2 rfl)
 have hfps:∀k,hold M.m (A'::As) k→hold M.m (A::As) k:=by
  rintro k (hk | ⟨B,hB,hk⟩)
  ·exact .inl hk
  ·rcases List.mem_cons.1 hB with rfl | hB
   ·exact .inr ⟨A,List.mem_cons_self ..,(hA k).2 ((hA' k).1 hk)⟩
   ·exact .inr ⟨B,List.mem_cons_of_mem _ hB,hk⟩
 have hfree:∀k,free (hold M.m (A::As)) w k→free (hold M.m (A'::As)) (w.putObj b o') k:=fun k ⟨h1,h2⟩=>⟨by simpa using h1,fun hh=>h2 (hfps k hh)⟩
 have hsame:∀k,k≠b→(w.putObj b o').heap[k]?=w.heap[k]?:=fun k hk=>World.putObj_heap_other hk
 have hnb:∀k,free (hold M.m (A::As)) w k→k≠b:=fun k h2 e=>h2.2 (.inr ⟨A,List.mem_cons_self ..,(hA k).2 e⟩)
 have hap:=List.pairwise_cons.1 h.apart
 refine⟨h.size,h.defers,?_,h.m0,?_,?_,List.pairwise_cons.2 ⟨fun B hB k hk=>hap.1 B hB k ((hA k).2 ((hA' k).1 hk)),hap.2⟩,fun p hp=>p.2.keep hfree (fun k hk=>hsame k (hnb k hk)) (h.slots p hp)⟩
 ·refine h.grow.trans (C:=fun k=>k=b) ⟨rfl,rfl,rfl,by simp,fun k _ hk=>hsame k hk⟩ ?_
  rintro i rfl hi
  rcases hb.1 with h1 | h1
  ·exact h1
  ·omega
 ·intro B hB
  rcases List.mem_cons.1 hB with rfl | hB
  ·exact hok _ _ _ _ hfree (fun k hk=>hsame k (hnb k hk)) (World.putObj_heap_same hb.2) (h.own A (List.mem_cons_self ..))
  ·exact B.keep hfree (fun k hk=>hsame k (hnb k hk)) (fun k hk=>hsame k (fun e=>hap.1 B hB b ((hA b).2 rfl) (e▸hk))) (h.own B (List.mem_cons_of_mem _ hB))
 ·intro B hB k hk
  rw[World.putObj_size]
  rcases List.mem_cons.1 hB with rfl | hB
  ·exact h.fresh A (List.mem_cons_self ..) k ((hA k).2 ((hA' k).1 hk))
  ·exact h.fresh B (List.mem_cons_of_mem _ hB) k hk
theorem St.putO {b:Nat} {o:Obj} (o':Obj) (h:St M w0 n Γ (objA b o::As) a w):St M w0 n Γ (objA b o'::As) a (w.putObj b o'):=
 h.putA (fun _=>Iff.rfl) (fun _=>Iff.rfl) (fun _ _ _ _ _ _ h _=>h)
theorem St.putL {b:Nat} {r:Loop} {Γl:List (Nat×Ty)} (r':Loop) (h:St M w0 n Γ (Qgf b r Γl::As) a w) (he:r'.tmps=r.tmps):St M w0 n Γ (Qgf b r' Γl::As) a (w.putObj b (.loop r')):=
 h.putA (fun _=>Iff.rfl) (fun _=>Iff.rfl) (fun _ _ _ _ hF hh h1 h2=>⟨h1,fun p hp=>by rw[he];exact p.2.keep hF hh (h2.2 p hp)⟩)

/-- A new block, and an atom of it. -/
theorem St.layA {A:Atom} (o:Obj) (h:St M w0 n Γ As a w) (hA:∀k,A.fp k↔k=w.heap.size) (hok:∀(F:Blk) (w':World),(∀k,free (hold M.m As) w k→F k)→(∀k,k<w.heap.size→w'.heap[k]?=w.heap[k]?)→w'.heap[w.heap.size]?=some o→A.ok F w'):St M w0 n Γ (A::As) a (w.alloc o):=by
 have hlt:∀A∈As,∀k,A.fp k→k<w.heap.size:=fun A hA k hk=>(h.fresh A hA k hk).2
 have hfree:∀k,free (hold M.m As) w k→free (hold M.m (A::As)) (w.alloc o) k:=by
  rintro k ⟨h1,h2⟩
  refine⟨by simp;omega,?_⟩
  rintro (hk | ⟨B,hB,hk⟩)
  ·exact h2 (.inl hk)
  ·rcases List.mem_cons.1 hB with rfl | hB
   ·exact absurd ((hA k).1 hk) (Nat.ne_of_lt h1)
   ·exact h2 (.inr ⟨B,hB,hk⟩)
 have hsame:∀k,k<w.heap.size→(w.alloc o).heap[k]?=w.heap[k]?:=fun k hk=>Go.RowKit.Below.heap_alloc w o k hk
 refine⟨h.size,h.defers,h.grow.trans (Step.alloc w o) (fun _ hh=>hh.elim),h.m0,?_,?_,List.pairwise_cons.2 ⟨?_,h.apart⟩,fun p hp=>p.2.keep hfree (fun k hk=>hsame k hk.1) (h.slots p hp)⟩
 ·intro B hB
  rcases List.mem_cons.1 hB with rfl | hB
  ·exact hok _ _ hfree hsame (World.alloc_heap_new w o)
  ·exact B.keep hfree (fun k hk=>hsame k hk.1) (fun k hk=>hsame k (hlt B hB k hk)) (h.own B hB)
 ·intro B hB k hk
  rcases List.mem_cons.1 hB with rfl | hB
  ·obtain rfl:k=w.heap.size:=(hA k).1 hk
   exact⟨.inr h.grow.size,by simp⟩
  ·have:=h.fresh B hB k hk
   exact⟨this.1,by simp;omega⟩
 ·intro B hB k hk hkB
  obtain rfl:k=w.heap.size:=(hA k).1 hk
  exact absurd (hlt B hB _ hkB) (Nat.lt_irrefl _)
theorem St.lay (o:Obj) (h:St M w0 n Γ As a w):St M w0 n Γ (objA w.heap.size o::As) a (w.alloc o):=h.layA o (fun _=>Iff.rfl) (fun _ _ _ _ h=>h)

/-- What a call has made of what it was given. -/
theorem St.called {E R N:List Atom} {w':World} (h:St M w0 n Γ (E++R) a w) (hs:Step (QaM E) w w') (hm:Made (hold M.m (E++R)) E N w w'):St M w0 n Γ (N++R) a w':=by
 have hap:=List.pairwise_append.1 h.apart
 have hfE:∀k,QaM E k→(M.b k∨w0.heap.size≤k)∧k<w.heap.size:=fun k ⟨A,hA,hk⟩=>h.fresh A (List.mem_append_left _ hA) k hk
 have hmE:∀k,M.m k→¬QaM E k:=fun k hk he=>by
  have h0:=h.m0 k hk
  rcases (hfE k he).1 with h1 | h1
  ·exact h0.2 h1
  ·have:=h0.1;omega
 have hnext:∀k,next (hold M.m (E++R)) E N k↔hold M.m (N++R) k:=by
  intro k
  constructor
  ·rintro (⟨hk | ⟨A,hA,hk⟩,hne⟩ | ⟨A,hA,hk⟩)
   ·exact .inl hk
   ·rcases List.mem_append.1 hA with hA | hA
    ·exact (hne ⟨A,hA,hk⟩).elim
    ·exact .inr ⟨A,List.mem_append_right _ hA,hk⟩
   ·exact .inr ⟨A,List.mem_append_left _ hA,hk⟩
  ·rintro (hk | ⟨A,hA,hk⟩)
   ·exact .inl ⟨.inl hk,hmE k hk⟩
   ·rcases List.mem_append.1 hA with hA | hA
    ·exact .inr ⟨A,hA,hk⟩
    ·exact .inl ⟨.inr ⟨A,List.mem_append_right _ hA,hk⟩,fun⟨B,hB,hkB⟩=>hap.2.2 B hB A hA k hkB hk⟩
 have hfree:∀k,free (hold M.m (E++R)) w k→free (hold M.m (N++R)) w' k:=by
  rintro k ⟨h1,h2⟩
  refine⟨Nat.lt_of_lt_of_le h1 hs.size,fun hh=>?_⟩
  rcases (hnext k).2 hh with⟨hk,_⟩ | ⟨A,hA,hk⟩
  ·exact h2 hk
  ·rcases (hm.place A hA k hk).1 with⟨B,hB,hkB⟩ | hge
   ·exact h2 (.inr ⟨B,List.mem_append_left _ hB,hkB⟩)
   ·omega
 have hsame:∀k,free (hold M.m (E++R)) w k→w'.heap[k]?=w.heap[k]?:=fun k ⟨h1,h2⟩=>hs.same k h1 (fun⟨A,hA,hk⟩=>h2 (.inr ⟨A,List.mem_append_left _ hA,hk⟩))
 have hfresh:∀A∈N++R,∀k,A.fp k→(M.b k∨w0.heap.size≤k)∧k<w'.heap.size:=by
  intro A hA k hk
  rcases List.mem_append.1 hA with hA | hA
  ·obtain⟨h1,h2⟩:=hm.place A hA k hk
   refine⟨?_,h2⟩
   rcases h1 with h1 | h1
   ·exact (hfE k h1).1
   ·exact .inr (Nat.le_trans h.grow.size h1)
  ·have:=h.fresh A (List.mem_append_right _ hA) k hk
   exact⟨this.1,Nat.lt_of_lt_of_le this.2 hs.size⟩
 refine⟨h.size,h.defers,h.grow.trans hs (fun i hi hlt=>?_),h.m0,?_,hfresh,List.pairwise_append.2 ⟨hm.apart,hap.2.1,?_⟩,fun p hp=>p.2.keep hfree hsame (h.slots p hp)⟩
 ·rcases (hfE i hi).1 with h1 | h1
  ·exact h1
  ·omega
 ·intro A hA
  rcases List.mem_append.1 hA with hA | hA
  ·exact A.keep (fun k ⟨h1,h2⟩=>⟨h1,fun hh=>h2 ((hnext k).2 hh)⟩) (fun _ _=>rfl) (fun _ _=>rfl) (hm.ok A hA)
  ·refine A.keep hfree hsame (fun k hk=>hs.same k (h.fresh A (List.mem_append_right _ hA) k hk).2 ?_) (h.own A (List.mem_append_right _ hA))
   rintro ⟨B,hB,hkB⟩
   exact hap.2.2 B hB A hA k hkB hk
 ·intro A hA B hB k hk hkB
  rcases (hm.place A hA k hk).1 with⟨C,hC,hkC⟩ | h1
  ·exact hap.2.2 C hC B hB k hkC hkB
  ·have:=(h.fresh B (List.mem_append_right _ hB) k hkB).2
   omega

/-- The state at a call's beginning. -/
theorem Qrc {E:List Atom} (hM:∀k,M0 k→k<w.heap.size) (hE:Ql4 M0 E w) (hap:QeX E) (ha:a.tmps.size=n) (hd:a.defers=[]) (hΓ:∀p∈Γ,p.2.ok (free M0 w) w (get a p.1)):
  ∃M,QdR M0 E M∧St M w n Γ E a w:=by
 have hpl:QdR M0 E ⟨fun k=>M0 k∧¬QaM E k,QaM E,[]⟩:=by
  refine⟨rfl,fun k=>⟨fun hk=>?_,?_⟩,fun k hk=>hk.2,rfl⟩
  ·by_cases he:QaM E k
   ·exact .inr he
   ·exact .inl ⟨hk,he⟩
  ·rintro (hk | hk)
   ·exact hk.1
   ·exact QfB hE k hk
 have hF:∀k,free M0 w k→free (hold (fun k=>M0 k∧¬QaM E k) E) w k:=by
  rintro k ⟨h1,h2⟩
  refine⟨h1,?_⟩
  rintro (hm | hm)
  ·exact h2 hm.1
  ·exact h2 (QfB hE k hm)
 exact⟨_,hpl,⟨ha,hd,Step.refl _ _,fun k hk=>⟨hM k hk.1,hk.2⟩,fun A hA=>A.keep hF (fun _ _=>rfl) (fun _ _=>rfl) (hE A hA).1,fun A hA k hk=>⟨.inl ⟨A,hA,hk⟩,hM k ((hE A hA).2 k hk)⟩,hap,fun p hp=>p.2.keep hF (fun _ _=>rfl) (hΓ p hp)⟩⟩

/-- What a call has made, at its end. -/
theorem QvD {E N:List Atom} (is:List Nat) (hpl:QdR M0 E M) (hst:St M w0 n Γ As a w) (hd:Qdf is=true) (hN:is.filterMap (fun i=>As[i]?)=N):Step (QaM E) w0 w∧Made M0 E N w0 w:=by
 have hmem:∀A,A∈N→A∈As:=by
  intro A hA
  rw[←hN] at hA
  obtain⟨i,_,hi⟩:=List.mem_filterMap.1 hA
  exact List.mem_of_getElem? hi
 have hnext:∀k,free (hold M.m As) w k→free (next M0 E N) w k:=by
  rintro k ⟨h1,h2⟩
  refine⟨h1,?_⟩
  rintro (⟨hm,hne⟩ | ⟨A,hA,hk⟩)
  ·rcases (hpl.m k).1 hm with hm | hm
   ·exact h2 (.inl hm)
   ·exact hne hm
  ·exact h2 (.inr ⟨A,hmem A hA,hk⟩)
 refine⟨by rw[←hpl.b];exact hst.grow,⟨?_,fun A hA k hk=>?_,fun A hA=>Atom.keep _ hnext (fun _ _=>rfl) (fun _ _=>rfl) (hst.own _ (hmem A hA))⟩⟩
 ·rw[←hN];exact Qqg hst.apart hd
 ·have:=hst.fresh A (hmem A hA) k hk
  rw[hpl.b] at this
  exact this

/-! Rounds -/

def Qrd (E:List Atom) (M0:Blk) (N:Value→List Atom) (w:World):Ending→World→Prop:=fun e w'=>∃x,e=.returned (.bool true)∧Step (QaM E) w w'∧Made M0 E (N x) w w'
/-- A call of yield: the round goes on. -/
def QnH (P:Program) (l:Nat) (E:List Atom) (v:Value) (N:Value→List Atom):Prop:=
 ∀(M:Blk) (w:World),(∀k,M k→k<w.heap.size)→Ql4 M E w→QeX E→
  ∃fn tmps assign body,(Instr.yield l #[v]).run P w=.ok (.round l fn tmps assign body) w∧RoundIn Fence.wide 0 P l fn tmps assign body w (Qrd E M N w)

theorem Qre {d:Option Tmp} {ty:TypeId} {pos:String} {af:Array Edge} {g:Option (Nat×Bool)} {f x:Operand} {v:Value} {l:Nat} {E:List Atom} {N:Value→List Atom} {ts:Array TypeId}
  (hf:Fct Γ f (tv (.func (.yield l) #[] #[]))) (hx:Fct Γ x (tv v)) (hY:QnH P l E v N):OpJ P ⟨d,.call { callee:=.value f,args:=#[x],argTypes:=ts },ty,pos,af,g⟩ Γ [] E N (fun _=>tv (.bool true)):=by
 intro M w a hM _ hE hap _ he
 have hfv:=hf.val (by simp[Op.operands,Call.operands]) he
 have hxv:=hx.val (by simp[Op.operands,Call.operands]) he
 obtain⟨fn,tmps,as,body,hrun,hR⟩:=hY M w hM hE hap
 have hr:(execOp a.eval (⟨d,.call { callee:=.value f,args:=#[x],argTypes:=ts },ty,pos,af,g⟩:Oper)).run P w=.ok (.round l fn tmps as body) w:=by
  simp only[execOp,resolve,Deferred.ofValue,hfv,List.map_toArray,List.map_cons,List.map_nil,hxv,Sem.run_bind,Sem.run_pure,Result.andThen_ok,invoke]
  simpa using hrun
 simp only[Does,hr]
 refine RoundIn.mono hR ?_
 rintro e w' ⟨x,he,h1,h2⟩
 exact⟨_,he,x,h1,h2,rfl⟩

/-- A yield's contract, by the walk of the loop's body. -/
theorem QuH {l:Nat} {fn:FuncId} {tmps:Array Value} {p:Tmp} {assign body:Code} {D:Nat} {E:List Atom} {N:Value→List Atom} {v:Value} {Γ:List (Nat×Ty)} (hn:tmps.size=n) (hp:p<n) (hne:(Γ.all fun q=>q.1 !=p)=true)
  (h:∀M0 M w a,QdR M0 (Qgf l (Qev fn tmps #[p] assign body D) Γ::E) M→St M w n ((p,tv v)::Γ) (Qgf l (Qev fn tmps #[p] assign body D) Γ::E) a w→
   assign.wpIn (Fence.wide.inRound l) 0 P (Exit.then (fun a₁ w₁=>∃w₂,(Instr.beginRound l).run P w₁=.ok () w₂∧body.wpIn (Fence.wide.inRound l) 0 P (roundPost P l (Qrd (Qgf l (Qev fn tmps #[p] assign body D) Γ::E) M0 N w)) a₁ w₂) (fun _ _ _=>False)) a w):
  QnH P l (Qgf l (Qev fn tmps #[p] assign body D) Γ::E) v N:=by
 intro M0 w hM hE hap
 have hl:=(hE _ (List.mem_cons_self ..)).1
 refine⟨fn,tmps.setIfInBounds p v,assign,body,?_,?_⟩
 ·have:=run_yield (P:=P) (args:=#[v]) hl.1 rfl
  simpa[Qev] using this
 ·obtain⟨M,hpl,hst⟩:=Qrc (a:={ tmps:=tmps.setIfInBounds p v,defers:=[] }) (n:=n) (Γ:=(p,tv v)::Γ) hM hE hap (by simpa using hn) rfl (fun q hq=>by
   rcases List.mem_cons.1 hq with rfl | hq
   ·show (tmps.setIfInBounds p v).getD p undef=v
    simp[hn,hp]
   ·have h1:=hl.2 q hq
    have h2:q.1≠p:=by have:=List.all_eq_true.1 hne q hq;simpa using this
    have e:get { tmps:=tmps.setIfInBounds p v,defers:=[] } q.1=tmps.getD q.1 undef:=by
     simp[get,Array.getElem?_setIfInBounds_ne (Ne.symm h2)]
    rw[e]
    exact h1)
  exact roundIn_of_wpIn trivial (h M0 M w _ hpl hst)

theorem QrL {l:Nat} {r:Loop} {Γl:List (Nat×Ty)} {body:Code} {F:Fence} {m:Nat} {Q:Exit→Act→World→Prop} (hst:St M w0 n Γ (Qgf l r Γl::As) a w) (hr:r.state=.ready)
  (h:∀w₂,St M w0 n Γ (Qgf l { r with state:=.busy } Γl::As) a w₂→body.wpIn F m P Q a w₂):∃w₂,(Instr.beginRound l).run P w=.ok () w₂∧body.wpIn F m P Q a w₂:=
 ⟨_,run_beginRound (hst.own _ (List.mem_cons_self ..)).1 hr,h _ (hst.putL _ rfl)⟩

theorem Qth {l:Nat} {fn:FuncId} {tmps:Array Value} {ps:Array Tmp} {assign body:Code} {D:Nat} {Γl:List (Nat×Ty)} {E:List Atom} {N:Value→List Atom} (x:Value) (is:List Nat) (hpl:QdR M0 E M)
  (hst:St M w0 n Γ (Qgf l { Qev fn tmps ps assign body D with state:=.busy } Γl::As) a w) (hd:Qdf is=true)
  (hN:is.filterMap (fun i=>(Qgf l (Qev fn tmps ps assign body D) Γl::As)[i]?)=N x):roundPost P l (Qrd E M0 N w0) .normal a w:=
 ⟨_,_,run_endRound none (hst.own _ (List.mem_cons_self ..)).1,x,rfl,QvD is hpl (hst.putL (Qev fn tmps ps assign body D) rfl) hd hN⟩

/-! The statement -/

/-- A call's place, behind a range over a function. -/
structure QpF (M0:Blk) (E:List Atom) (D:Nat) (M:Fr):Prop where
 b:M.b=QaM E
 m:∀k,M0 k↔M.m k∨QaM E k
 d:∀k,M.m k→¬QaM E k
 e:M.d=[mark D]

theorem Qti {g:Operand} {ps:Array Tmp} {assign body:Code} {f1:FuncId} {Tc:List Ty} {N:Value→List Atom} {T:Value→Ty} {Q:Exit→Act→World→Prop}
  (hst:St M w0 n Γ As a w) (hg:Fct Γ g (Qeu f1 Tc)) (hc:Qp P f1)
  (hfn:∀fn l D,FnOk P f1 (tv (.func (.yield l) #[] #[])::Tc) (Qgf l (Qev fn a.tmps ps assign body D) Γ::As) (fun x=>Qgf l (Qev fn a.tmps ps assign body D) Γ::N x) T)
  (hQ:∀x D a' w' M',(∀M0 E,QdR M0 E M→QpF M0 E D M')→St M' w0 n Γ (objA D defO::N x) a' w'→Q .normal a' w'):(Code.rangeFunc g ps assign body).wp P Q a w:=by
 refine (wpIn_wide (n:=0)).1 (wpIn_rangeFunc fun fn _=>?_)
 have h1:=hst.lay defO
 have h2:St M w0 n Γ (Qgf (w.alloc defO).heap.size (Qev fn a.tmps ps assign body w.heap.size) Γ::objA w.heap.size defO::As) a ((w.alloc defO).alloc (.loop (Qev fn a.tmps ps assign body w.heap.size))):=
  h1.layA (.loop (Qev fn a.tmps ps assign body w.heap.size)) (fun _=>Iff.rfl) (fun F w' hF hh h=>⟨h,fun p hp=>p.2.keep hF (fun k hk=>hh k hk.1) (h1.slots p hp)⟩)
 rw[World.size_alloc] at h2
 obtain⟨caps,hgv,hcap⟩:=hg _ _ a (fun p hp _=>h2.slots p hp)
 obtain⟨fn1,hf1,hf2,hf3⟩:=hc
 have h3:=h2.perm (Bs:=(Qgf (w.heap.size+1) (Qev fn a.tmps ps assign body w.heap.size) Γ::As)++[objA w.heap.size defO]) (by
  refine List.Perm.cons _ ?_
  exact (List.perm_append_comm (l₁:=[objA w.heap.size defO]) (l₂:=As)))
 have hW:∃W,(w.alloc defO).alloc (.loop (Qev fn a.tmps ps assign body w.heap.size))=W:=⟨_,rfl⟩
 obtain⟨W,hW⟩:=hW
 have hen:=run_enterLoop_outer (P:=P) (w:=w) fn a.tmps ps assign body
 change _=Result.ok _ ((w.alloc defO).alloc (.loop (Qev fn a.tmps ps assign body w.heap.size))) at hen
 rw[hW] at h2 h3 hen
 refine⟨w.heap.size+1,[mark w.heap.size],W,{ target:=.fn (.func f1) caps.toArray,args:=#[.func (.yield (w.heap.size+1)) #[] #[]] },W,f1,#[.func (.yield (w.heap.size+1)) #[] #[]]++caps.toArray,W,hen,?_,fun _ _=>trivial,?_,fun hh=>(by cases hh),?_⟩
 ·simp[resolve,Deferred.ofValue,hgv]
  rfl
 ·simp only[invoke,callFunc,Sem.run_bind,Sem.run_pure,run_program,Result.andThen_ok,hf1,hf2,hf3,Bool.false_eq_true,if_false]
 ·refine callsIn_wide.2 ?_
  have hcall:=hfn fn (w.heap.size+1) w.heap.size (hold M.m ((Qgf (w.heap.size+1) (Qev fn a.tmps ps assign body w.heap.size) Γ::As)++[objA w.heap.size defO])) W (.func (.yield (w.heap.size+1)) #[] #[]::caps) ?_ ?_ ?_ ?_
  ·simp only[List.push_toArray,List.append_toArray] at *
   refine Calls.mono (by simpa using hcall) ?_
   rintro e w' ⟨x,v,rfl,hs,hm,_⟩
   have h4:=h3.called hs hm
   refine⟨none,_,run_endLoop (h4.own _ (List.mem_cons_self ..)).1 (by simp[Qev]),?_⟩
   have h5:St M w0 n Γ (N x++[objA w.heap.size defO]) a _:=(h4.putL { Qev fn a.tmps ps assign body w.heap.size with state:=.exhausted } rfl).sub (List.sublist_cons_self ..)
   have h6:=h5.perm (Bs:=objA w.heap.size defO::N x) (List.perm_append_comm (l₁:=N x) (l₂:=[objA w.heap.size defO]))
   refine hQ x w.heap.size _ _ ⟨M.m,M.b,[mark w.heap.size]++M.d⟩ (fun M0 E hpl=>⟨hpl.b,hpl.m,hpl.d,by simp[hpl.e]⟩) ⟨h6.size,?_,h6.grow,h6.m0,h6.own,h6.fresh,h6.apart,h6.slots⟩
   simp[h6.defers]
  ·intro k hk
   rcases hk with hk | ⟨A,hA,hk⟩
   ·exact Nat.lt_of_lt_of_le (h3.m0 k hk).1 h3.grow.size
   ·exact (h3.fresh A hA k hk).2
  ·intro A hA
   exact⟨h3.own A (List.mem_append_left _ hA),fun k hk=>.inr ⟨A,List.mem_append_left _ hA,hk⟩⟩
  ·exact (List.pairwise_append.1 h3.apart).1
  ·obtain⟨caps',e,hcap'⟩:=hg _ _ a (fun p hp _=>h3.slots p hp)
   rw[hgv] at e
   obtain rfl:caps=caps':=by simpa using e
   exact .cons rfl hcap'

/-- The statement, where the function that is gone through gives what it gives for any yield; the loop's record is not looked into. -/
theorem Qsy {S:Type} {A:S→List Atom} {s0 s1:S} {Y:S→Int→Option S} {g:Operand} {p:Tmp} {assign body:Code} {f1:FuncId} {Tc:List Ty} {T:Value→Ty} {Q:Exit→Act→World→Prop}
  (hst:St M w0 n Γ (A s0) a w) (hg:Fct Γ g (Qeu f1 Tc)) (hc:Qp P f1)
  (hfn:∀l LR,(∀s i r,Y s i=some r→QnH P l (LR::A s) (.int .i64 i) (fun _=>LR::A r))→FnOk P f1 (tv (.func (.yield l) #[] #[])::Tc) (LR::A s0) (fun _=>LR::A s1) T)
  (hp:p<n) (hne:(Γ.all fun q=>q.1 !=p)=true)
  (hbody:∀s i r,Y s i=some r→∀(M0:Blk) (M:Fr) (w0:World) (a:Act) (l:Nat) (LR LB:Atom) (K:Act→World→Prop) (Q:Exit→Act→World→Prop),QdR M0 (LR::A s) M→St M w0 n ((p,tv (.int .i64 i))::Γ) (LR::A s) a w0→
   (∀Γ' As a w,St M w0 n Γ' (LR::As) a w→(∀w,St M w0 n Γ' (LB::As) a w→body.wpIn (Fence.wide.inRound l) 0 P Q a w)→K a w)→
   (∀Γ' is As a w,St M w0 n Γ' (LB::As) a w→Qdf is=true→is.filterMap (fun i=>(LR::As)[i]?)=LR::A r→Q .normal a w)→
   assign.wpIn (Fence.wide.inRound l) 0 P (Exit.then K (fun _ _ _=>False)) a w0)
  (hQ:∀D a' w' M',(∀M0 E,QdR M0 E M→QpF M0 E D M')→St M' w0 n Γ (objA D defO::A s1) a' w'→Q .normal a' w'):(Code.rangeFunc g #[p] assign body).wp P Q a w:=
 Qti (N:=fun _=>A s1) hst hg hc (fun fn l D=>hfn l _ (fun s i r hY=>QuH hst.size hp hne (fun M0 M w a hpl hst'=>
  hbody s i r hY M0 M w a l _ _ _ _ hpl hst' (fun Γ' As a w1 h1 h2=>QrL h1 rfl h2) (fun Γ' is As a w1 h1 hd hN=>Qth undef is hpl h1 hd hN)))) (fun _ D a' w' M' h1 h2=>hQ D a' w' M' h1 h2)

/-! Leaving -/

def RetM (P:Program) (fn:Func) (M:Blk) (E:List Atom) (w0:World) (N:Value→List Atom) (T:Value→Ty):Exit→Act→World→Prop:=
 bodyPostM Fence.wide 0 P fn (fun e w'=>∃x v,e=.returned v∧Step (QaM E) w0 w'∧Made M E (N x) w0 w'∧(T x).ok (free (next M E (N x)) w') w' v)

theorem FnOk.enterM {f:FuncId} {fn:Func} {c:Code} {Ts:List Ty} {E:List Atom} {N:Value→List Atom} {T:Value→Ty} (hf:P.funcs[f]?=some fn) (hb:fn.body=some c) (hn:fn.ntmps=n) (hl:Ts.length≤n)
  (h:∀M0 M w a,QdR M0 E M→St M w n (ents Ts) E a w→c.wp P (RetM P fn M0 E w N T) a w):FnOk P f Ts E N T:=by
 intro M0 w vs hM hE hap hc
 have hvl:=hc.1
 obtain⟨M,hpl,hst⟩:=Qrc (Γ:=ents Ts) (n:=n) (a:={ tmps:=vs.toArray++Array.replicate (fn.ntmps - vs.toArray.size) undef,defers:=[] }) hM hE hap (by simp[hn];omega) rfl (by
  intro p hp
  obtain⟨⟨T',i⟩,hmem,rfl⟩:=List.mem_map.1 hp
  obtain⟨j,hj⟩:=List.mem_iff_getElem?.1 hmem
  rw[List.getElem?_zipIdx] at hj
  cases hT:Ts[j]? with
  | none=>simp[hT] at hj
  | some T''=>
   simp only[hT,Option.map_some,Option.some.injEq,Prod.mk.injEq] at hj
   obtain⟨rfl,rfl⟩:=hj
   have hlt:j<vs.length:=by rw[hvl];exact (List.getElem?_eq_some_iff.1 hT).1
   have hget:get { tmps:=vs.toArray++Array.replicate (fn.ntmps - vs.toArray.size) undef,defers:=[] } (0+j)=vs[j]:=by
    unfold get
    simp[Array.getElem?_append,hlt]
   show T''.ok _ _ (get _ (0+j))
   rw[hget]
   exact hc.2 j T'' vs[j] hT (List.getElem?_eq_getElem hlt))
 exact callsIn_wide.1 (callsIn_of_wp_marks (n:=0) hf hb trivial ((wpIn_wide (n:=0)).2 (h M0 M w _ hpl hst)) rfl)

theorem Qrf {fn:Func} {E:List Atom} {N:Value→List Atom} {T:Value→Ty} (h:Ret P fn M0 E w0 N T .ret a w):RetM P fn M0 E w0 N T .ret a w:=by
 obtain⟨hd,v,hv,hR⟩:=h
 show LeavesInM _ _ _ _ _ _ a.defers _ _
 rw[hd]
 exact⟨v,hv,hR⟩
theorem Qtj {fn:Func} {rs:List ResultVar} {Ts:List Ty} {E:List Atom} {N:Value→List Atom} {T:Value→Ty} {D:Nat} (x:Value) (is:List Nat) (hpl:QpF M0 E D M) (hst:St M w0 n Γ (objA D defO::As) a w) (hrs:fn.results=rs.toArray)
  (h:QiH P Γ (objA D (.deferred none)::As) rs Ts) (hd:Qdf is=true) (hN:is.filterMap (fun i=>(objA D (.deferred none)::As)[i]?)=N x) (hT:T x=QnC Ts):RetM P fn M0 E w0 N T .normal a w:=by
 have h1:=hst.putO (.deferred none)
 have hd0:=h1.defers
 have h2:St ⟨M.m,M.b,[]⟩ w0 n Γ (objA D (.deferred none)::As) { a with defers:=[] } (w.putObj D (.deferred none)):=⟨h1.size,rfl,h1.grow,h1.m0,h1.own,h1.fresh,h1.apart,h1.slots⟩
 obtain⟨_,v,hv,hR⟩:=QiI (P:=P) x is (⟨hpl.b,hpl.m,hpl.d,rfl⟩:QdR M0 E ⟨M.m,M.b,[]⟩) h2 hrs h hd hN hT
 show LeavesInM _ _ _ _ _ _ a.defers _ _
 rw[hd0,hpl.e]
 exact⟨by simp,.inl ⟨D,_,rfl,run_takeDeferred (hst.own _ (List.mem_cons_self ..)),v,hv,hR⟩⟩

/-! Regions in a round; pointers in variables -/

def QvE (ops:List Oper):Bool:=ops.all fun o=>match o.op with | .defer _=>false | _=>true
theorem Qrg {ops:List Oper} {l:Nat} {id:Nat} {draw:Bool} {Q:Exit→Act→World→Prop} {is:List Info} (hm:P.follows .mixedOrders=true) (hd:QvE ops=true) (Ns:List Ver)
  (hst:St M w0 n Γ As a w) (hrun:∀new,Run P ops (verA As Ns) new 0 Γ ops is) (hchk:chk ops is ((verA As Ns).map (·.ds)) (Γ.map (·.1)) As.length (verA As Ns).length n=true)
  (hQ:∀new a' w',St M w0 n (outG ops is Γ new) (QiF (verA As Ns) is new) a' w'→Q .normal a' w'):(Code.region id ops.toArray draw).wpIn (Fence.wide.inRound l) 0 P Q a w:=
 QvC hm (fun o ho c e=>by have:=List.all_eq_true.1 hd o ho;rw[e] at this;cases this) Ns hst hrun hchk hQ
theorem box_q1 {Ts:List Ty} {q:Value} {F:Blk} {w:World} (h:(box Ts q).ok F w):q.oneCell'=true:=by
 obtain⟨b,_,_,hq,_⟩:=h
 rw[hq];rfl
section
variable {d:Option Tmp} {ty:TypeId} {pos:String} {af:Array Edge} {g:Option (Nat×Bool)} {x:Operand} {t:TypeId} {bytes:Nat} {z:Value}
theorem Qr2 {q:Value} {Ts:List Ty} (hx:Fct Γ x (tv q)):OpJ P ⟨d,.box t x,ty,pos,af,g⟩ Γ [box Ts q] [] (fun _=>[]) (fun _=>tptr (rVal.cs q)):=
 .say (A:=box Ts q) (by simp) (fun _ _ h=>box_q1 h) fun hq=>(QV (R:=rVal) (u:=q) (hx.weak fun _ _ _ h=>⟨h,hq⟩)).useMore (fun A hA=>by cases hA)
theorem QbF {q:Value} (hz:TOk P t rVal bytes z) (hp:Fct Γ x (tptr (rVal.cs q))):OpJ P ⟨d,.load t x,ty,pos,af,g⟩ Γ [] [] (fun _=>[]) (fun _=>tv q):=
 QpA (Ql (R:=rVal) (u:=q) hz hp) (fun _ _ _ _ h=>h.1)
end
end
end Go.Sim

namespace Go.Sim

section
variable {s:Nat} {w b:Bool} {Γ:List (Nat×Ty)} {e0 e1 e2 e3 e4 e5 e6 e7 e8 e9 e10 e11:Nat×Ty}
theorem bq0:Grd ((s,tv (.bool b))::Γ) s w (b==w):=.b 0 rfl
theorem bq1:Grd (e0::(s,tv (.bool b))::Γ) s w (b==w):=.b 1 rfl
theorem bq2:Grd (e0::e1::(s,tv (.bool b))::Γ) s w (b==w):=.b 2 rfl
theorem bq3:Grd (e0::e1::e2::(s,tv (.bool b))::Γ) s w (b==w):=.b 3 rfl
theorem bq4:Grd (e0::e1::e2::e3::(s,tv (.bool b))::Γ) s w (b==w):=.b 4 rfl
theorem bq5:Grd (e0::e1::e2::e3::e4::(s,tv (.bool b))::Γ) s w (b==w):=.b 5 rfl
theorem bq6:Grd (e0::e1::e2::e3::e4::e5::(s,tv (.bool b))::Γ) s w (b==w):=.b 6 rfl
theorem bq7:Grd (e0::e1::e2::e3::e4::e5::e6::(s,tv (.bool b))::Γ) s w (b==w):=.b 7 rfl
theorem bq8:Grd (e0::e1::e2::e3::e4::e5::e6::e7::(s,tv (.bool b))::Γ) s w (b==w):=.b 8 rfl
theorem bq9:Grd (e0::e1::e2::e3::e4::e5::e6::e7::e8::(s,tv (.bool b))::Γ) s w (b==w):=.b 9 rfl
end
theorem bs {α β:Type} {x:Option α} {f:α→Option β} {r:β} (h:x.bind f=some r):∃a,x=some a∧f a=some r:=bind_some h
section
variable {P:Program} {M:Fr} {M0:Blk} {w0 w:World} {n:Nat} {Γ:List (Nat×Ty)} {As:List Atom} {a:Act}
theorem wi {s:Nat} {b:Bool} {α:Type} {x y:Option α} {r:α} {c1 c2:Code} {Q:Exit→Act→World→Prop} (hst:St M w0 n ((s,tv (.bool b))::Γ) As a w) (h:(if b=true then x else y)=some r) (ht:b=true→x=some r→c1.wp P Q a w)
  (hf:b=false→y=some r→c2.wp P Q a w):(Code.cond (.tmp s) c1 c2).wp P Q a w:=wt hst (fun hb=>ht hb (QhE hb h)) (fun hb=>hf hb (QhF hb h))
theorem fe {f:FuncId} {fn:Func} {c:Code} {Ts:List Ty} {E:List Atom} {N:Value→List Atom} {T:Value→Ty} (hf:P.funcs[f]?=some fn) (hn:fn.ntmps=n)
  (h:∀M0 M w a,QdR M0 E M→St M w n (ents Ts) E a w→c.wp P (Ret P fn M0 E w N T) a w) (hb:fn.body=some c:=by rfl) (hl:Ts.length≤n:=by exact Nat.le_of_ble_eq_true rfl):FnOk P f Ts E N T:=FnOk.enter hf hb hn hl h
theorem rt {fn:Func} {rs:List ResultVar} {Ts:List Ty} {E:List Atom} {N:Value→List Atom} {T:Value→Ty} (x:Value) (is:List Nat) (hpl:QdR M0 E M) (hst:St M w0 n Γ As a w) (h:QiH P Γ As rs Ts) (hrs:fn.results=rs.toArray:=by rfl) (hd:Qdf is=true:=by rfl)
  (hN:is.filterMap (fun i=>As[i]?)=N x:=by rfl) (hT:T x=QnC Ts:=by rfl):Ret P fn M0 E w0 N T .ret a w:=QiI x is hpl hst hrs h hd hN hT
theorem r0 {α:Type} {e r:α} {P:Program} {Q:Exit→Act→World→Prop} {a:Act} {w:World} (h:some e=some r) (k:e=r→Q .ret a w):Code.ret.wp P Q a w:=wp_ret (k (Option.some.inj h))
theorem r1 {fn:Func} {rs:List ResultVar} {Ts:List Ty} {E:List Atom} {N:Value→List Atom} {T:Value→Ty} (hpl:QdR M0 E M) (hst:St M w0 n Γ As a w) (h:QiH P Γ As rs Ts) (hrs:fn.results=rs.toArray:=by rfl)
  (hN:([]:List Atom)=N undef:=by rfl) (hT:T undef=QnC Ts:=by rfl):Ret P fn M0 E w0 N T .ret a w:=QiI undef [] hpl hst hrs h rfl hN hT
end
end Go.Sim

namespace Go.Sim

theorem Qrh {α:Type} {R:Rep α} {xs:List α}:One (tslF R xs):=fun F w v h=>QaL F w v h.1
@[reducible] def rSlF {α : Type} (R : Rep α) : Rep (List α) := ⟨fun x => [tslF R x],1,false,fun _ => rfl,fun x T h F w v hv => by simp at h; subst h; exact Qrh F w v hv,fun _ => rfl⟩
theorem QuI {α:Type} {R R':Rep α} {e:TypeId} {xs:List α} {v:Value} (hn:R.n=R'.n) (hc:∀x,(R.cs x).length=(R'.cs x).length∧∀(j:Nat) (T T':Ty),(R.cs x)[j]?=some T→(R'.cs x)[j]?=some T'→∀F w u,T.ok F w u→T'.ok F w u) {F:Blk} {w:World}
  (h:(own R e xs v).ok F w):(own R' e xs v).ok F w:=by
 obtain⟨us,ho,hcs⟩:=h
 refine⟨us,by rw[←hn];exact ho,?_⟩
 clear ho
 induction xs generalizing us with
 | nil=>exact hcs
 | cons x xs ih=>
  rw[List.flatMap_cons] at hcs ⊢
  have hl:=(hc x).1
  have hlen:=hcs.1
  rw[List.length_append] at hlen
  have h2:=ih (us.drop (R.cs x).length) ⟨by rw[List.length_drop];omega,fun j T u hT hu=>hcs.2 ((R.cs x).length+j) T u (by rw[List.getElem?_append_right (by omega),Nat.add_sub_cancel_left];exact hT) (by rw[List.getElem?_drop] at hu;exact hu)⟩
  refine⟨by rw[List.length_append];have:=h2.1;rw[List.length_drop] at this;omega,fun j T u hT hu=>?_⟩
  by_cases hj:j<(R'.cs x).length
  ·rw[List.getElem?_append_left hj] at hT
   have hj':j<(R.cs x).length:=by omega
   have:=hcs.2 j _ u (by rw[List.getElem?_append_left hj',List.getElem?_eq_getElem hj']) hu
   exact (hc x).2 j _ _ (List.getElem?_eq_getElem hj') hT F w u this
  ·rw[List.getElem?_append_right (by omega)] at hT
   exact h2.2 (j - (R'.cs x).length) T u hT (by rw[List.getElem?_drop,hl,show (R'.cs x).length+(j - (R'.cs x).length)=j by omega];exact hu)
theorem St.reO {M:Fr} {w0:World} {n:Nat} {Γ:List (Nat×Ty)} {C A B:Atom} {As:List Atom} {a:Act} {w:World} (hfp:B.fp=A.fp) (hok:∀F w,A.ok F w→B.ok F w) (h:St M w0 n Γ (C::A::As) a w):St M w0 n Γ (C::B::As) a w:=by
 have e:fps (C::B::As)=fps (C::A::As):=by
  funext j
  unfold fps
  simp[hfp]
 have e2:hold M.m (C::B::As)=hold M.m (C::A::As):=by
  unfold hold
  rw[e]
 have mem:∀{P:Atom→Prop},(∀Z∈C::A::As,P Z)→(P A→P B)→∀Z∈C::B::As,P Z:=fun hP hAB Z hZ=>by
  rcases List.mem_cons.1 hZ with rfl | hZ
  ·exact hP _ (by simp)
  ·rcases List.mem_cons.1 hZ with rfl | hZ
   ·exact hAB (hP _ (by simp))
   ·exact hP Z (by simp[hZ])
 refine⟨h.size,h.defers,h.grow,h.m0,?_,?_,?_,?_⟩
 ·rw[e2];exact mem h.own (hok _ _)
 ·exact mem h.fresh (fun hA=>by rw[hfp];exact hA)
 ·have ha:=h.apart
  unfold QeX at ha ⊢
  rw[List.pairwise_cons,List.pairwise_cons] at ha ⊢
  refine⟨fun Z hZ=>?_,fun Z hZ=>?_,ha.2.2⟩
  ·rcases List.mem_cons.1 hZ with rfl | hZ
   ·rw[hfp];exact ha.1 A (by simp)
   ·exact ha.1 Z (by simp[hZ])
  ·rw[hfp];exact ha.2.1 Z hZ
 ·rw[e2];exact h.slots

end Go.Sim

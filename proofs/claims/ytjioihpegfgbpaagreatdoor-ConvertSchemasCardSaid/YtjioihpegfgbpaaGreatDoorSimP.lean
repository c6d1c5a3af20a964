/- The logic's sixteenth part. No condition. -/
import Derived.Test.YtjioihpegfgbpaaGreatDoorSimG
import Derived.Lib.ConvBytes
import Derived.Lib.AppendStr
import Derived.Lib.UnsafeStr
import Derived.Lib.Builder
import Derived.Laws.Externs
import Derived.RangeFuncNested
import Derived.RangeFuncCalls
import Derived.TacticsInMore
import Derived.OrdersIn
import Derived.RangeFuncRecord
import Derived.MapKept
import Derived.Laws.Cover3
import Derived.Deep.AppendSrc
set_option linter.all false
open List Go.IntKind
namespace Go.Sim
abbrev Str:=List UInt8
def sB (l:Str):ByteArray:=⟨l.toArray⟩
def Qxa (b:ByteArray):b.size=b.data.toList.length:=rfl
def QiR (l:Str):(sB l).size=l.length:=by simp[sB,ByteArray.size]
def Qqb (b:ByteArray):∀(n i:Nat) (r:List UInt8),b.size - i=n->i<=b.size->ByteArray.toList.loop b i r=r.reverse++b.data.toList.drop i:=by
 intro n
 induction n with
 | zero=>
  intro i r h hi;unfold ByteArray.toList.loop;have:¬i<b.size:=by omega
  rw[Zb this];have h2:b.data.toList.length<=i:=by rw[<-Qxa];omega
  rw[drop_eq_nil_of_le h2,Yd]
 | succ n ih=>
  intro i r h hi;unfold ByteArray.toList.loop;have hlt:i<b.size:=by omega
  have hlt':i<b.data.toList.length:=hlt;rw[Ze hlt,ih (i+1) _ (by omega) (by omega),drop_eq_getElem_cons hlt'];have:b.get! i=b.data.toList[i]:=by show b.data[i]! =_;rw[getElem!_pos b.data i hlt];rfl
  rw[this];simp
def Qt3 (l:Str):(sB l).toList=l:=by unfold ByteArray.toList;rw[Qqb (sB l) _ 0 [] rfl (Nat.zero_le _)];rfl
def Qt4 (a b:Str):sB a++sB b=sB (a++b):=by apply ByteArray.ext;simp[sB]
def Qzl (l:Str) (i j:Nat):(sB l).extract i j=sB ((l.drop i).take (j - i)):=by apply ByteArray.ext;simp[sB,extract_toArray]
def sB_get (l:Str) (i:Nat):(sB l)[i]?=l[i]?:=by
 by_cases h:i<l.length
 ·have h':i<(sB l).size:=by rw[QiR];exact h
  rw[getElem?_pos (sB l) i h',getElem?_pos l i h];rfl
 ·have h':¬i<(sB l).size:=by rw[QiR];exact h
  rw[getElem?_neg (sB l) i h',getElem?_neg l i h]
def sB_inj {a b:Str}:sB a=sB b↔a=b:=by
 constructor
 ·intro h;have:(sB a).data.toList=(sB b).data.toList:=by rw[h]
  exact this
 ·rintro rfl;rfl
@[reducible] def rS : Rep Str := ⟨λx => [tv (.string (sB x))],1,false,λ_ => rfl,λx T h F w v hv => by simp at h; subst h; have : v = _ := hv; subst this; rfl,λ_ => rfl⟩
def cat (n:Nat):Option Unit:=if n<=9223372036854775807 then some () else none
section
variable {Γ:List (Nat×Ty)} {P:Program} {d:Option Tmp} {ty:TypeId} {pos:String} {af:Array Edge} {g:Option (Nat×Bool)} {x y:Operand} {T:Ty} {t t2 e:TypeId} {α:Type} {R:Rep α} {bytes:Nat} {z:Value} {a b:Str}
def QdB (hx:Fct Γ x (tv (.string (sB a)))) (hy:Fct Γ y (tv (.string (sB b)))):OpJ P ⟨d,.binOp .eql t x y t2,ty,pos,af,g⟩ Γ [] [] (λ_=>[]) (λ_=>tv (.bool (a==b))):=QdT hx hy λw=>by simp[eqGuard,binOp,Op.stringOp,Qt3]
def QAK (hx:Fct Γ x (tv (.string (sB a)))) (hy:Fct Γ y (tv (.string (sB b)))):OpJ P ⟨d,.binOp .neq t x y t2,ty,pos,af,g⟩ Γ [] [] (λ_=>[]) (λ_=>tv (.bool (a !=b))):=QdT hx hy λw=>by simp[eqGuard,binOp,Op.stringOp,Qt3,bne]
def Qpa (hx:Fct Γ x (tv (.string (sB a)))) (hy:Fct Γ y (tv (.string (sB b)))) (h:cat (a.length+b.length)=some ()):OpJ P ⟨d,.binOp .add t x y t2,ty,pos,af,g⟩ Γ [] [] (λ_=>[]) (λ_=>tv (.string (sB (a++b)))):=
 QdT hx hy λw=>by
  have hl:¬(((sB a).size+(sB b).size:Nat):Int)>i64.max:=by
   unfold cat at h;split at h
   ·rename_i h';rw[QiR,QiR];simp[IntKind.max,IntKind.bits,IntKind.signed];omega
   ·cases h
  simp only[eqGuard,binOp,Op.stringOp];rw[Zb hl,Qt4];simp
def op_lenS' (ht:P.underlying t=some .string) (hx:Fct Γ x (tv (.string (sB a)))):OpJ P ⟨d,.call { callee:=.builtin .len,args:=#[x],argTypes:=#[t] },ty,pos,af,g⟩ Γ [] [] (λ_=>[]) (λ_=>tv (.int .i64 (a.length:Int))):=by
 have:=Qw4 (P:=P) (Γ:=Γ) (d:=d) (ty:=ty) (pos:=pos) (af:=af) (g:=g) ht hx
 rwa [QiR] at this
def QAL {i:Int} {k:IntKind} {u:UInt8} (ht:P.underlying t=some .string) (hx:Fct Γ x (tv (.string (sB a)))) (hi:Fct Γ y (tv (.int k i))) (h:idx a i=some u):
  OpJ P ⟨d,.index t x y,ty,pos,af,g⟩ Γ [] [] (λ_=>[]) (λ_=>tv (.int .u8 (u.toNat:Int))):=
 QaQ λF w A he=>by
  have h1:=hx.val (by simp[Op.operands]) he;have h2:=hi.val (by simp[Op.operands]) he;unfold idx at h;split at h
  ·rename_i h0;refine⟨_,?_,rfl⟩;simp[execOp,h1,h2,Instr.index,asIntOf,run_underlying ht,h0,sB_get,h]
  ·cases h
def QAM {lo hi:Option Operand} {i j:Int} {r:Str} (ht:P.underlying t=some .string) (hx:Fct Γ x (tv (.string (sB a)))) (hlo:Bd Γ lo 0 i) (hhi:Bd Γ hi (a.length:Int) j) (h:sub a i j=some r):
  OpJ P ⟨d,.slice t x lo hi none,ty,pos,af,g⟩ Γ [] [] (λ_=>[]) (λ_=>tv (.string (sB r))):=
 QaQ λF w A he=>by
  have h1:=hx.val (by simp[Op.operands]) he;have h2:=hlo.use (λy hy=>by simp[Op.operands,hy]) he;have h3:=hhi.use (λy hy=>by simp[Op.operands,hy]) he;unfold sub at h;split at h
  ·rename_i h0;obtain⟨c1,c2,c3⟩:=h0;obtain rfl:=Zz h;refine⟨_,?_,rfl⟩;have hj:j<=((sB a).size:Int):=by rw[QiR];exact c3
   have c2':i<=(j.toNat:Int):=by omega
   have hj0:0<=j:=by omega
   have hm:max j 0=j:=by omega
   have c2n:¬j<i:=by omega
   rcases h2 with⟨h2,rfl⟩ | ⟨k2,h2⟩<;>rcases h3 with⟨h3,rfl⟩ | ⟨k3,h3⟩
   ·simp[execOp,h1,h2,h3,Instr.sliceAt,Instr.slice,Instr.sliceBounds,run_underlying ht]
   ·simp[execOp,h1,h2,h3,Instr.sliceAt,Instr.slice,Instr.sliceBounds,Instr.sliceBound,asIntOf,run_underlying ht,Qzl,hj,hj0]
   ·simp[execOp,h1,h2,h3,Instr.sliceAt,Instr.slice,Instr.sliceBounds,Instr.sliceBound,asIntOf,run_underlying ht,Qzl,QiR,c1,c2]
   ·simp[execOp,h1,h2,h3,Instr.sliceAt,Instr.slice,Instr.sliceBounds,Instr.sliceBound,asIntOf,run_underlying ht,Qzl,hj,hj0,c1,hm,c2]
  ·cases h
def Qsq {Ts:List Ty} (hx:Fct Γ x (tptr Ts)):OpJ P ⟨d,.nilCheck x,ty,pos,af,g⟩ Γ [] [] (λ_=>[]) (λ_=>tptr Ts):=QaQ λF w A he=>by have h:=hx.use (by simp[Op.operands]) he;obtain⟨b,off,hv,r⟩:=h;exact⟨_,by simp[execOp,hv],b,off,rfl,r⟩
def Qa5 {Ts:List Ty} {q:Value} (hx:Fct Γ x (tv q)):OpJ P ⟨d,.nilCheck x,ty,pos,af,g⟩ Γ [box Ts q] [] (λ_=>[]) (λ_=>tv q):=Qcq λM w A hU he=>by have h:=hx.val (by simp[Op.operands]) he;obtain⟨b,cur,e,hq,_⟩:=hU _ (Zg.2 rfl);subst hq;exact⟨_,by simp[execOp,h],rfl⟩
def Qmt {n:Nat} {k:IntKind} {i:Int} {b off:Nat} (ht:P.underlying t=some (.array n e)) (hz:TOk P e R bytes z) (w:World) (h0:0<=i) (h1:i<n):
  (Instr.indexAt t (.pointer (some ⟨b,off,none⟩)) (.int k i)).run P w=.ok (.pointer (some ⟨b,off+i.toNat * R.n,none⟩)) w:=by
 obtain⟨ti,hti,_,hs,_⟩:=hz.info;simp[Instr.indexAt,Instr.sureAddr,run_underlying ht,asIntOf,h0,h1,sizeOf,typeInfo,hti,hs,Qbb]
def Qm8 {n:Nat} {k:IntKind} {i:Int} {Ts:List Ty} (j:Nat) (hj:i=j) (ht:P.underlying t=some (.array n e)) (hz:TOk P e R bytes z) (hx:Fct Γ x (tptr Ts)) (hi:Fct Γ y (tv (.int k i))) (h1:j<n):
  OpJ P ⟨d,.indexAddr t x y,ty,pos,af,g⟩ Γ [] [] (λ_=>[]) (λ_=>tptr (Ts.drop (j * R.n))):=
 QaQ λF w A he=>by obtain⟨b,o,hv,hb,hr⟩:=hx.use (by simp[Op.operands]) he;have h2:=hi.val (by simp[Op.operands]) he;subst hj;refine⟨_,?_,b,o+j * R.n,rfl,hb,hr.part _⟩;simp only[execOp,hv,h2,Sem.run_bind,Qmt ht hz w (Int.natCast_nonneg j) (ZL.2 h1),Zj,Sem.run_pure,Zt]
inductive AnyV where
 | int (n:Int)
 | str (s:Str)
deriving Inhabited
def AnyV.val (ti ts:TypeId):AnyV->Value
 | .int n=>.iface ti (.int .i64 n)
 | .str s=>.iface ts (.string (sB s))
@[reducible] def rAny (ti ts : TypeId) : Rep AnyV := ⟨λx => [tv (x.val ti ts)],1,false,λ_ => rfl,λx T h F w v hv => by simp at h; subst h; have : v = _ := hv; subst this; cases x <;> rfl,λ_ => rfl⟩
def AnyV.asInt:AnyV->Int×Bool | .int n=>(n,true) | .str _=>(0,false)
def AnyV.asStr:AnyV->Str×Bool | .int _=>([],false) | .str s=>(s,true)
def Qle {ti ts:TypeId} {n:Int} (ht:P.underlying ti=some (.int .i64)) (hx:Fct Γ x (tv (.int .i64 n))):OpJ P ⟨d,.makeInterface ti x,ty,pos,af,g⟩ Γ [] [] (λ_=>[]) (λ_=>tv (AnyV.val ti ts (.int n))):=QaQ λF w A he=>⟨_,by simp[execOp,Instr.makeInterface,run_underlying ht,hx.val (by simp[Op.operands]) he,AnyV.val],rfl⟩
def Qmu {ti ts:TypeId} {s:Str} (ht:P.underlying ts=some .string) (hx:Fct Γ x (tv (.string (sB s)))):OpJ P ⟨d,.makeInterface ts x,ty,pos,af,g⟩ Γ [] [] (λ_=>[]) (λ_=>tv (AnyV.val ti ts (.str s))):=QaQ λF w A he=>⟨_,by simp[execOp,Instr.makeInterface,run_underlying ht,hx.val (by simp[Op.operands]) he,AnyV.val],rfl⟩
def op_asI {ti ts:TypeId} {u:AnyV} (hne:ti≠ts) (hz:TOk P ti rI 8 (.int .i64 0)) (ht:P.underlying ti=some (.int .i64)) (hx:Fct Γ x (tv (u.val ti ts))):OpJ P ⟨d,.typeAssert x t ti true,ty,pos,af,g⟩ Γ [] [] (λ_=>[]) (λ_=>ttup [tv (.int .i64 u.asInt.1),tv (.bool u.asInt.2)]):=
 QaQ λF w A he=>by
  have h:=hx.val (by simp[Op.operands]) he;obtain⟨i,hi,hz0,_⟩:=hz.info
  cases u with
  | int n=>exact⟨_,by simp[execOp,Instr.typeAssert,h,AnyV.val,run_underlying ht],[.int .i64 n,.bool true],rfl,.cons rfl (.cons rfl .nil)⟩
  | str s=>exact⟨_,by simp[execOp,Instr.typeAssert,h,AnyV.val,run_underlying ht,Ne.symm hne,zeroValue,typeInfo,hi,hz0],[.int .i64 0,.bool false],rfl,.cons rfl (.cons rfl .nil)⟩
def op_asS {ti ts:TypeId} {u:AnyV} (hne:ti≠ts) (hz:TOk P ts rS 16 (.string .empty)) (ht:P.underlying ts=some .string) (hx:Fct Γ x (tv (u.val ti ts))):OpJ P ⟨d,.typeAssert x t ts true,ty,pos,af,g⟩ Γ [] [] (λ_=>[]) (λ_=>ttup [tv (.string (sB u.asStr.1)),tv (.bool u.asStr.2)]):=
 QaQ λF w A he=>by
  have h:=hx.val (by simp[Op.operands]) he;obtain⟨i,hi,hz0,_⟩:=hz.info
  cases u with
  | int n=>exact⟨_,by simp[execOp,Instr.typeAssert,h,AnyV.val,run_underlying ht,hne,zeroValue,typeInfo,hi,hz0],[.string .empty,.bool false],rfl,.cons rfl (.cons rfl .nil)⟩
  | str s=>exact⟨_,by simp[execOp,Instr.typeAssert,h,AnyV.val,run_underlying ht],[.string (sB s),.bool true],rfl,.cons rfl (.cons rfl .nil)⟩
def tfn (P:Program) (E:List Atom) {A B:Type} (Ts:A->List Ty) (Tr:B->Ty) (p:A->Option B):Ty:=⟨λF w v=>∃(f:FuncId) (Tf Tc:List Ty) (fs cs:List Value),v=.func (.func f) fs.toArray cs.toArray/\QW Tf F w fs/\QW Tc F w cs/\QB P f/\∀x b,p x=some b->FnOk P f (Tf++(Ts x++Tc)) E (λ_=>[]) (λ_=>Tr b),λhF hh ⟨f,Tf,Tc,fs,cs,h,h1,h2,r⟩=>⟨f,Tf,Tc,fs,cs,h,QW.keep hF hh h1,QW.keep hF hh h2,r⟩⟩
def Qlf {E:List Atom} {A B:Type} {Ts:A->List Ty} {Tr:B->Ty} {p:A->Option B} {f:FuncId} {Tc:List Ty} (hc:QB P f) (h:∀x b,p x=some b->FnOk P f (Ts x++Tc) E (λ_=>[]) (λ_=>Tr b)):∀F w v,(Qcc f Tc).ok F w v->(tfn P E Ts Tr p).ok F w v:=λ_ _ _ ⟨cs,hv,hcs⟩=>⟨f,[],Tc,[],cs,hv,.nil,hcs,hc,h⟩
def Qeo {E:List Atom} {A B:Type} {Ts:A->List Ty} {Tr:B->Ty} {p:A->Option B}:One (tfn P E Ts Tr p):=λ_ _ _ ⟨_,_,_,_,_,h,_⟩=>by rw[h];rfl
def Qt5 {f:Operand} {fid:FuncId} {fs caps:List Value} {xs:List Operand} {ts:Array TypeId} {w:World} {a:Act} (hc:QB P fid) (hf:a.eval f=.func (.func fid) fs.toArray caps.toArray):
  (execOp a.eval (⟨d,.call { callee:=.value f,args:=xs.toArray,argTypes:=ts },ty,pos,af,g⟩:Oper)).run P w=.ok (.enter fid (fs++(xs.map a.eval++caps)).toArray) w:=by
 obtain⟨fn,h1,h2,h3⟩:=hc;simp only[execOp,resolve,Deferred.ofValue,hf,invoke,callFunc,Sem.run_bind,Sem.run_pure,run_program,Zj,h1,h2,h3,ZP,if_false,map_toArray];simp
end
def Qm9 {α:Type} (R:Rep α) {x:α}:∀T,T∈R.cs x->One T:=λT h=>R.one x T h
def Qna {Ts Us:List Ty} (h:∀T,T∈Ts->One T) (k:∀T,T∈Us->One T):∀T,T∈Ts++Us->One T:=λT hT=>(ZH.1 hT).elim (h T) (k T)
@[reducible] def rAgg (Us : List Ty) (h : ∀ T,T ∈ Us -> One T) : Rep Unit := ⟨λ_ => Us,Us.length,true,λ_ => rfl,λ_ => h,λh => by cases h⟩
theorem tokA {P:Program} {t:TypeId} {α:Type} {R:Rep α} {b:Nat} {z:Value} (hz:TOk P t R b z) {Us:List Ty} (h:∀T,T∈Us->One T) (hn:Us.length=R.n) (ha:R.agg=true):TOk P t (rAgg Us h) b z:=⟨by obtain⟨d,h1,h2⟩:=hz.d;exact⟨d,h1,h2.trans ha⟩,by show _=some (some z,Us.length,b);rw[hn];exact hz.i,by show _=Us.length;rw[hn];exact hz.zc⟩
def gh (x:Value) (i:Nat):Value:=match x with | .tuple a=>a.getD i undef | _=>undef
section
variable {Γ:List (Nat×Ty)} {P:Program} {d:Option Tmp} {ty:TypeId} {pos:String} {af:Array Edge} {g:Option (Nat×Bool)} {x y:Operand} {T:Ty} {t e:TypeId} {α:Type} {R:Rep α} {bytes:Nat} {z:Value}
def Fct.nilV:Fct Γ (.const (.slice none 0 0)) (rVal.ty nilV):=λ_ _ _ _=>⟨rfl,rfl⟩
def QX {Ts:List Ty} {q u:Value} {off:Nat} (hz:TOk P t rVal bytes z) (hp:Fct Γ x (tv (padd q off))) (h:rVal.cs u=(Ts.drop off).take (rVal.cs u).length):OpJ P ⟨d,.load t x,ty,pos,af,g⟩ Γ [box Ts q] [] (λ_=>[]) (λ_=>tv u):=Qbt (QaY (R:=rVal) (u:=u) hz hp h) (λ_ _ _ _ h=>h.1)
def Qzw {q u':Value} {xs:List α} {Ts:List Ty} (hz:TOk P t rVal bytes z) (hp:Fct Γ x (tv q)) (hx:Fct Γ y (tv u')) (hl:1<=Ts.length):OpJ P ⟨d,.store t x y,ty,pos,af,g⟩ Γ [own R e xs u'] [box Ts q] (λ_=>[box (splice Ts 0 (rVal.cs u')) q]) (λ_=>tany):=.say (A:=own R e xs u') (by simp) (λ_ _ h=>Qdo h) λhu=>(QG (R:=rVal) (a:=u') (Ts:=Ts) hz hp (hx.Xn λ_ _ _ h=>⟨h,hu⟩) hl).Xp (λA hA=>by cases hA)
def Qco {q u':Value} {xs:List α} {Ts:List Ty} {off:Nat} (hz:TOk P t rVal bytes z) (hp:Fct Γ x (tv (padd q off))) (hx:Fct Γ y (tv u')) (hl:off+1<=Ts.length):OpJ P ⟨d,.store t x y,ty,pos,af,g⟩ Γ [own R e xs u'] [box Ts q] (λ_=>[box (splice Ts off (rVal.cs u')) q]) (λ_=>tany):=.say (A:=own R e xs u') (by simp) (λ_ _ h=>Qdo h) λhu=>(QaL (R:=rVal) (a:=u') (Ts:=Ts) (off:=off) hz hp (hx.Xn λ_ _ _ h=>⟨h,hu⟩) hl).Xp (λA hA=>by cases hA)
def Qb0 {β:Type} {R2:Rep β} {f:β} {xs:List α} {u:α} {v:Value} {i:Int} {off:Nat} (hz:TOk P t R2 bytes z) (hp:Fct Γ x (tv (padd (QaX v (i.toNat * R.n)) off))) (h:idx xs i=some u) (hf:R2.cs f=((R.cs u).drop off).take (R2.cs f).length):
  OpJ P ⟨d,.load t x,ty,pos,af,g⟩ Γ [own R e xs v] [] (λ_=>[]) (λ_=>R2.ty f):=
 Qcq λM w a hU he=>by
  have hv:=hp.val (by simp[Op.operands]) he;obtain⟨us,hc,hh⟩:=QsQ (hU _ (Zg.2 rfl));unfold idx at h;split at h
  ·have hlt:i.toNat<xs.length:=(Zc.1 h).1;rcases hh with⟨_,hn⟩ | ⟨b,cap,hvv,hcell⟩
   ·rw[hn] at hlt;simp at hlt
   ·subst hvv;have hrow:Row (xs.flatMap R.cs) (free M w) w b 0:=λj T hj=>by
     have hlt:j<us.length:=by rw[hc.1];exact (Zc.1 hj).1
     exact⟨us[j],by rw[Nat.zero_add];exact hcell j _ (Zf hlt),hc.2 j T _ hj (Zf hlt)⟩
    have hr:=((hrow.elem h).part off).head hf;rw[Nat.zero_add] at hr;obtain⟨v',hrun,hty⟩:=Qf3 hz hr;refine⟨v',?_,hty⟩;simp only[execOp,hv,QaX,padd,Qbb,Sem.run_bind,Nat.zero_add] at hrun ⊢;simp only[hrun,Zj,Sem.run_pure]
  ·cases h
def QpG {Us:List Ty} (hz:TOk P t R bytes z) (h1:∀T,T∈Us->One T) (h0:(∀F w,QW Us F w z.cells.toList)/\Us.length=R.n/\R.agg=true/\∃cs,z=.agg cs):OpJ P ⟨d,.alloc t,ty,pos,af,g⟩ Γ [] [] (λp=>[box Us p]) (λp=>tv p):=QV (R:=rAgg Us h1) (a:=()) (tokA hz h1 h0.2.1 h0.2.2.1) (λF w=>by obtain⟨cs,hcs⟩:=h0.2.2.2;have:=h0.1 F w;subst hcs;exact⟨cs.toList,by simp,by simpa[Value.cells] using this⟩)
def OpJ.roE {o:Oper} {U E:List Atom} {xs:List α} (h:OpJ P o Γ U E (λv=>[own R e xs v]) (λv=>tv v)):OpJ P o Γ U E (λ_=>[]) (λ_=>tsl R xs):=by
 intro M w a hM hU hE hap hUE he;refine (h M w a hM hU hE hap hUE he).mono ?_;rintro v w' ⟨x,hs,hm,hv⟩;have hv:v=x:=hv;subst hv;have hok:=hm.ok _ (Zg.2 rfl);refine⟨undef,hs,Qfn,?_⟩;have hfree:∀k,(own R e xs v).fp k->free (next M E []) w' k:=by
  intro k hk;obtain⟨h1,h2⟩:=hm.place _ (Zg.2 rfl) k hk;refine⟨h2,?_⟩;rintro (⟨hm1,hm2⟩ | ⟨A,hA,_⟩)
  ·rcases h1 with h1 | h1
   ·exact hm2 h1
   ·have:=hM k hm1;omega
  ·cases hA
 have hsub:∀k,free (next M E [own R e xs v]) w' k->free (next M E []) w' k:=by
  rintro k ⟨h1,h2⟩;refine⟨h1,?_⟩;rintro (hm1 | ⟨A,hA,_⟩)
  ·exact h2 (.inl hm1)
  ·cases hA
 exact QbR.own (x:=.tmp 0) (Γ:=[(0,tv v)]) (U:=[own R e xs v]) (R:=R) (e:=e) (xs:=xs) (v:=v) (Fct.t 0 rfl) (by simp) _ _ w' ⟨#[v],[]⟩ hsub (λA hA=>by simp at hA;subst hA;exact⟨hok,hfree⟩) (λp hp _=>by simp at hp;subst hp;rfl)
def OpJ.gloG {o:Oper} {G:Atom} (h0:∀k,¬G.fp k) {U E:List Atom} {N:Value->List Atom} {T:Value->Ty} (h:OpJ P o Γ U (G::E) N T):OpJ P o Γ (G::U) E N T:=by
 have e1:Qay (G::E)=Qay E:=by
  funext k
  refine propext ⟨?_,?_⟩
  ·rintro ⟨A,hA,hk⟩;rcases Zm.1 hA with rfl | hA
   ·exact (h0 k hk).elim
   ·exact⟨A,hA,hk⟩
  ·rintro ⟨A,hA,hk⟩;exact⟨A,by simp[hA],hk⟩
 intro M w a hM hU hE hap hUE he;refine (h M w a hM (λA hA=>hU A (by simp[hA])) (λA hA=>?_) ?_ (λA hA B hB k hk=>?_) he).mono ?_
 ·rcases Zm.1 hA with rfl | hA
  ·exact hU A (by simp)
  ·exact hE A hA
 ·exact pairwise_cons.2 ⟨λB _ k hk=>(h0 k hk).elim,hap⟩
 ·rcases Zm.1 hB with rfl | hB
  ·exact h0 k
  ·exact hUE A (by simp[hA]) B hB k hk
 ·rintro v w' ⟨x,hs,hm,ht⟩;rw[e1] at hs;have e2:∀N,next M (G::E) N=next M E N:=λN=>by funext k;simp only[next,e1]
  rw[e2] at ht;exact⟨x,hs,⟨hm.apart,λA hA k hk=>by have:=hm.place A hA k hk;rwa [e1] at this,λA hA=>by have:=hm.ok A hA;rwa [e2] at this⟩,ht⟩
def QlH {E:List Atom} {A B:Type} {Ts:A->List Ty} {Tr:B->Ty} {p:A->Option B} {f:Operand} {xs:List Operand} {u:A} {b:B} {ts:Array TypeId} (hf:Fct Γ f (tfn P E Ts Tr p)) (ha:Args Γ [] xs (Ts u)) (h:p u=some b):
  OpJ P ⟨d,.call { callee:=.value f,args:=xs.toArray,argTypes:=ts },ty,pos,af,g⟩ Γ [] E (λ_=>[]) (λ_=>Tr b):=by
 intro M w a hM hU hE hap hUE he;obtain⟨fid,Tf,Tc,fs,caps,hv,hfs,hcap,hc,hok⟩:=hf.use (by simp[Op.operands,Call.operands]) he;have hargs:=ha.cells (F:=free M w) (F':=free M w) (a:=a) (λ_ h=>h) (λA hA=>by simp at hA) (λp hp hx=>he p hp (by simp[Op.operands,Call.operands,hx]));have hr:=Qt5 (ty:=ty) (pos:=pos) (af:=af) (g:=g) (d:=d) (xs:=xs) (ts:=ts) (w:=w) hc hv;simp only[Does,hr];refine Calls.mono (hok u b h M w _ hM hE hap (hfs.append (hargs.append hcap))) ?_;rintro en w' ⟨x0,v,hen,h⟩;exact⟨v,hen,x0,h⟩
def QjJ (xs:List Int):Str:=xs.map λn=>UInt8.ofNat n.toNat
def Q3 (s:Str):List Int:=s.map λb=>(b.toNat:Int)
def Qgu:∀(s:List Int),(s.flatMap (rInt .u8).cs)=s.map λb=>tv (.int .u8 b)
 | []=>rfl
 | b::s=>by rw[flatMap_cons,Qgu s];rfl
def Qt6 {s:Str} {t2:TypeId} {u:TypeDesc} (hs:P.underlying t=some u) (ht:P.underlying t2=some (.slice e)) (he:P.underlying e=some (.int .u8)) (hx:Fct Γ x (tv (.string (sB s)))):
  OpJ P ⟨d,.convert t t2 x,ty,pos,af,g⟩ Γ [] [] (λ_=>[]) (λ_=>tsl (rInt .u8) (Q3 s)):=
 Qm5 λF w a hF hen=>by
  have hv:=hx.val (by simp[Op.operands]) hen;refine⟨_,_,by simp only[execOp,hv,Sem.run_bind,Lib.run_convert_string_bytes w t t2 e (sB s) hs ht he,Zj,Sem.run_pure];rfl,?_,λF' h1 h2=>?_⟩
  ·exact⟨rfl,rfl,rfl,by rw[Lib.bytesWorld_size];omega,λk hk _=>Lib.bytesWorld_at_old w e (sB s) k hk⟩
  ·refine⟨some ⟨w.heap.size,0,none⟩,grownCap w (sB s).size 0 e,?_,?_,λ_=>⟨w.heap.size,0,rfl,h2 _ (Zp _) (by rw[Lib.bytesWorld_size];omega),λj T hj=>?_⟩⟩
   ·simp[Q3,QiR]
   ·rw[show (Q3 s).length=s.length by simp[Q3]];rw[QiR];exact grownCap_ge _ _ _ _
   ·rw[Qgu] at hj;have hj':j<s.length:=by
     have:=(Zc.1 hj).1;simpa[Q3] using this
    refine⟨_,by rw[Nat.zero_add];exact Lib.bytesWorld_cell w e (sB s) j (by rw[QiR];exact hj'),?_⟩;simp only[Q3,map_map] at hj;simp[hj'] at hj;subst hj;show _=_;simp[sB,Zw,hj']
def Qt7 {xs:List Int} {t2:TypeId} (ht:P.underlying t=some (.slice e)) (he:P.underlying e=some (.int .u8)) (hd:P.underlying t2=some .string) (hx:Fct Γ x (tsl (rInt .u8) xs)):
  OpJ P ⟨d,.convert t t2 x,ty,pos,af,g⟩ Γ [] [] (λ_=>[]) (λ_=>tv (.string (sB (QjJ xs)))):=
 QaQ λF w a hen=>by
  obtain⟨ad,cap,hv,_,hr⟩:=hx.use (by simp[Op.operands]) hen;have key:(Conv.bytesToString (.slice ad xs.length cap)).run P w=.ok (.string (sB (QjJ xs))) w:=by
   cases ad with
   | none=>
    have:xs=[]:=by
     cases xs with
     | nil=>rfl
     | cons b xs=>obtain⟨_,_,h,_⟩:=hr (by simp);cases h
    subst this;rfl
   | some A=>
    have hload:(loadCells A xs.length).run P w=.ok (xs.map λb=>Value.int .u8 b).toArray w:=by
     rcases xs with _ | ⟨b,xs⟩
     ·rfl
     ·obtain⟨bb,off,hA,_,hrow⟩:=hr (by simp);cases hA;have:=run_loadCells_list (P:=P) w ⟨bb,off,none⟩ ((b::xs).map λb=>Value.int .u8 b) (λj v hj=>by
       rw[Qbb];have hj2:(((b::xs).flatMap (rInt .u8).cs))[j]?=some (tv v):=by rw[Qgu];simp only[Yb,Option.map_eq_some_iff] at hj ⊢;obtain⟨y,h1,rfl⟩:=hj;exact⟨y,h1,rfl⟩
       obtain⟨u,hu,hty⟩:=hrow j _ hj2;have:u=v:=hty;rw[<-this];exact hu)
      simpa using this
    have hfold:∀(f:Value->ByteArray->Sem (ForInStep ByteArray)),(∀n r,f (.int .u8 n) r=pure (.yield (r.push (UInt8.ofNat n.toNat))))->∀(l:List Int) (s:ByteArray),(forIn (l.map λb=>Value.int .u8 b) s f).run P w=.ok (s++sB (QjJ l)) w:=by
     intro f hf l
     induction l with
     | nil=>intro s;simp only[Yi,forIn_nil,Sem.run_pure,QjJ];congr 1;apply ByteArray.ext;simp[sB]
     | cons b l ih=>intro s;simp only[Yf,forIn_cons,hf,Sem.run_bind,Sem.run_pure,Zj,ih];congr 1;apply ByteArray.ext;simp[QjJ,sB]
    simp only[Conv.bytesToString,Sem.run_bind,hload,Zj,forIn_toArray];rw[hfold _ (λn r=>rfl) xs .empty];simp only[Zj,Sem.run_pure];congr 2
  exact⟨_,by simp only[execOp,hv,convert,Sem.run_bind,run_underlying ht,run_underlying hd,run_underlying he,Zj,key,Sem.run_pure],rfl⟩
end
section
variable {M:Fr} {w0:World} {n:Nat} {Γ:List (Nat×Ty)} {As:List Atom} {a:Act} {w:World}
def St.Xl {α:Type} {R:Rep α} {e:TypeId} {xs:List α} {v q:Value} {Ts:List Ty} (k:Nat) (h:St M w0 n Γ (Sim.own R e xs v::box Ts q::As) a w) (hk:Ts[k]?=some (tvs v)):St M w0 n Γ (box (Ts.set k (tsl R xs)) q::As) a w:=by
 have hf:∀j,fps (box (Ts.set k (tsl R xs)) q::As) j->fps (Sim.own R e xs v::box Ts q::As) j:=by
  rintro j ⟨A,hA,hj⟩;rcases Zm.1 hA with rfl | hA
  ·exact⟨box Ts q,by simp,hj⟩
  ·exact⟨A,by simp[hA],hj⟩
 have hfree:∀j,free (hold M.m (Sim.own R e xs v::box Ts q::As)) w j->free (hold M.m (box (Ts.set k (tsl R xs)) q::As)) w j:=λj hj=>⟨hj.1,λhm=>hj.2 (hm.imp id (hf j))⟩;have hown:=h.own (Sim.own R e xs v) (by simp);have hbox:=h.own (box Ts q) (by simp);have hap:=pairwise_cons.1 h.apart;have hfp:∀j,(Sim.own R e xs v).fp j->free (hold M.m (box (Ts.set k (tsl R xs)) q::As)) w j:=by
  intro j hj;have hfr:=h.fresh _ (Zl) j hj;refine⟨hfr.2,?_⟩;rintro (hm | ⟨A,hA,hkA⟩)
  ·have:=h.m0 j hm;rcases hfr.1 with hb | hb
   ·exact this.2 hb
   ·omega
  ·rcases Zm.1 hA with rfl | hA
   ·exact hap.1 (box Ts q) (by simp) j hj hkA
   ·exact hap.1 A (by simp[hA]) j hj hkA
 have hsl:(tsl R xs).ok (free (hold M.m (box (Ts.set k (tsl R xs)) q::As)) w) w v:=QbR.own (x:=.tmp 0) (Γ:=[(0,tv v)]) (U:=[Sim.own R e xs v]) (R:=R) (e:=e) (xs:=xs) (v:=v) (Fct.t 0 rfl) (by simp) _ _ w ⟨#[v],[]⟩ hfree (λA hA=>by simp at hA;subst hA;exact⟨hown,hfp⟩) (λp hp _=>by simp at hp;subst hp;rfl);refine⟨h.size,h.defers,h.grow,h.m0,?_,?_,?_,λp hp=>p.2.keep hfree (λ_ _=>rfl) (h.Xo p hp)⟩
 ·intro A hA;rcases Zm.1 hA with rfl | hA
  ·obtain⟨b,cur,e',hq,hb,hc,h1⟩:=hbox;refine⟨b,cur,e',hq,hb,⟨by rw[hc.1];simp,λj T u hT hu=>?_⟩,h1⟩;by_cases hj:k=j
   ·subst hj;have hlt:k<Ts.length:=(Zc.1 hk).1;simp[hlt] at hT;subst hT;have hu':u=v:=(hc.2 k _ u hk hu).1;rw[hu'];exact hsl
   ·rw[getElem?_set_ne hj] at hT;exact T.keep hfree (λ_ _=>rfl) (hc.2 j T u hT hu)
  ·exact A.keep hfree (λ_ _=>rfl) (λ_ _=>rfl) (h.own A (by simp[hA]))
 ·intro A hA j hj;rcases Zm.1 hA with rfl | hA
  ·exact h.fresh (box Ts q) (by simp) j hj
  ·exact h.fresh A (by simp[hA]) j hj
 ·have h2:=pairwise_cons.1 hap.2;exact pairwise_cons.2 ⟨λB hB j hj=>h2.1 B hB j hj,h2.2⟩
end
def QU {x:Value}:One (tvs x):=λF w v hv=>by obtain⟨h1,h2⟩:=hv;rw[h1];exact h2
def tfo {β:Type} (T:β->Ty) (p:Option β):Ty:=match p with | none=>tv .nilFunc | some f=>T f
def Qsr {β:Type} {T:β->Ty} {p:Option β} (h:∀f,One (T f)):One (tfo T p):=by
 cases p with
 | none=>exact QO rfl
 | some f=>exact h f
def Qnb {A B:Type} (p:Option (A->Option B)) (u:A):Option B:=p.bind λf=>f u
def QeU {P:Program} {M:Fr} {M0:Blk} {w0:World} {n:Nat} {Γ:List (Nat×Ty)} {As:List Atom} {a:Act} {w:World} {fn:Func} {rs:List ResultVar} {Ts:List Ty} {E:List Atom} {N:Value->List Atom} {T:Value->Ty} (x:Value) (is:List Nat) (hpl:Qdd M0 E M) (hst:St M w0 n Γ As a w) (hrs:fn.results=rs.toArray) (h:Qh1 P Γ As rs Ts) (hd:Qcd is=true) (hN:is.filterMap (λi=>As[i]?)=N x) (hT:T x=QlF Ts):Ret P fn M0 E w0 N T .normal a w:=Qj6 x is hpl hst hrs h hd hN hT
def Qod {F:Blk} {w:World}:∀{Ts:List Ty} {us:List Value} (_:QW Ts F w us) (vs:List Value),Ts=vs.map tv->(tv (.agg vs.toArray)).ok F w (.agg us.toArray)
 | Ts,us,hc,vs,h=>by
  subst h;have:us=vs:=by
   refine ext_getElem? λj=>?_;have hl:us.length=vs.length:=by simpa using hc.1
   rcases Nat.lt_or_ge j vs.length with hj | hj
   ·have:=hc.2 j (tv vs[j]) us[j] (by simp[hj]) (Zf (by omega));rw[Zf (by omega),Zf hj];exact Zu some this
   ·rw[getElem?_eq_none (by omega),getElem?_eq_none hj]
  subst this;rfl
def gloA (l:List (Nat×List Ty)):Atom:=⟨λ_=>False,λF w=>∀p∈l,F p.1/\∃cur e fz,w.heap[p.1]?=some (.cells cur e fz)/\QW p.2 F w cur.toList,λhF hh _ h p hp=>⟨hF _ (h p hp).1,let⟨cur,e,fz,h1,h2⟩:=(h p hp).2;⟨cur,e,fz,by rw[hh _ (h p hp).1];exact h1,h2.keep hF hh⟩⟩⟩
def QlI (G:Atom) (g:Nat) (Ts:List Ty):Prop:=∀F w,G.ok F w->F g/\∃cur e fz,w.heap[g]?=some (.cells cur e fz)/\QW Ts F w cur.toList
def Qlg (G:Atom) (g:Nat) (Ts:List Ty):Prop:=∀F w,G.ok F w->F g/\Row Ts F w g 0
def Qnc {l:List (Nat×List Ty)} {g:Nat} {Ts:List Ty} (h:(g,Ts)∈l):QlI (gloA l) g Ts:=λ_ _ hg=>hg (g,Ts) h
def QlI.has {G:Atom} {g:Nat} {Ts:List Ty} (h:QlI G g Ts):Qlg G g Ts:=λF w hg=>by
 obtain⟨h1,cur,e,fz,h2,h3⟩:=h F w hg;refine⟨h1,λj T hj=>?_⟩;have hlt:j<cur.toList.length:=by rw[h3.1];exact (Zc.1 hj).1
 refine⟨cur.toList[j],?_,h3.2 j T _ hj (Zf hlt)⟩;have:j<cur.size:=by simpa using hlt
 simp[World.cell?,h2,this]
def QbF:List (Value×Value)->Int->Option Value
 | [],_=>none
 | (.int .i64 k,v)::es,i=>if i=k then some v else QbF es i
 | _::es,i=>QbF es i
def QjY (es:List (Value×Value)):Bool:=es.all λp=>match p.1 with | .int .i64 _=>true | _=>false
def QkA (es:List (Value×Value)):Ty:=⟨λF w v=>∃r ms c,v=.map (some r)/\F r/\w.heap[r]?=some (.map ms c)/\QjY (ms.toList.map λe=>(e.key,e.val))=true/\∀i,QbF (ms.toList.map λe=>(e.key,e.val)) i=QbF es i,λhF hh ⟨r,ms,c,h1,h2,h3,h4⟩=>⟨r,ms,c,h1,hF r h2,by rw[hh r h2];exact h3,h4⟩⟩
def Qxb {es:List (Value×Value)}:One (QkA es):=λ_ _ _ ⟨_,_,_,h,_⟩=>by rw[h];rfl
@[reducible] def Qnd (es : List (Value × Value)) : Rep Unit := ⟨λ_ => [QkA es],1,false,λ_ => rfl,λ_ => Qk Qxb Q5,λ_ => rfl⟩
section
variable {Γ:List (Nat×Ty)} {P:Program} {d:Option Tmp} {ty:TypeId} {pos:String} {af:Array Edge} {g:Option (Nat×Bool)} {x y:Operand} {T:Ty} {t e:TypeId} {α:Type} {R:Rep α} {bytes:Nat} {z:Value} {G:Atom}
def QlJ {k:Nat} {u:α} {Ts:List Ty} (hG:Qlg G k Ts) (hz:TOk P t R bytes z) (h:R.cs u=Ts.take (R.cs u).length):OpJ P ⟨d,.load t (.global k),ty,pos,af,g⟩ Γ [G] [] (λ_=>[]) (λ_=>R.ty u):=Qcq λM w a hU he=>by obtain⟨_,hr⟩:=hG _ _ (hU _ (Zg.2 rfl));obtain⟨v,hrun,hty⟩:=Qf3 hz (hr.head h);refine⟨v,?_,hty⟩;have e:a.eval (.global k)=.pointer (some ⟨k,0,none⟩):=rfl;simp only[execOp,e,Sem.run_bind,hrun,Zj,Sem.run_pure]
def QvO {k n:Nat} {kk:IntKind} {i:Int} {xs:List α} {u:α} {Ts:List Ty} (ht:P.underlying t=some (.array n e)) (hz:TOk P e R bytes z) (hG:Qlg G k Ts) (hT:Ts=xs.flatMap R.cs) (hi:Fct Γ y (tv (.int kk i))) (hn:xs.length=n) (h:idx xs i=some u):
  OpJ P ⟨d,.indexAddr t (.global k) y,ty,pos,af,g⟩ Γ [G] [] (λ_=>[]) (λ_=>tptr (R.cs u)):=
 Qcq λM w a hU he=>by
  obtain⟨hF,hr⟩:=hG _ _ (hU _ (Zg.2 rfl));subst hT;have h2:=hi.val (by simp[Op.operands]) he;have e:a.eval (.global k)=.pointer (some ⟨k,0,none⟩):=rfl;unfold idx at h;split at h
  ·rename_i h0;have hlt:i.toNat<xs.length:=(Zc.1 h).1;refine⟨_,?_,k,0+i.toNat * R.n,rfl,hF,hr.elem h⟩;simp only[execOp,e,h2,Sem.run_bind,Qmt ht hz w h0 (show i<(n:Int) by omega),Zj,Sem.run_pure]
  ·cases h
def QvP {E:List Atom} {A B:Type} {Ts:A->List Ty} {Tr:B->Ty} {β:Type} {q:β->A->Option B} {p:Option β} {f:Operand} {xs:List Operand} {u:A} {b:B} {ts:Array TypeId} (hf:Fct Γ f (tfo (λr=>tfn P E Ts Tr (q r)) p)) (ha:Args Γ [] xs (Ts u)) (h:(p.bind λr=>q r u)=some b):
  OpJ P ⟨d,.call { callee:=.value f,args:=xs.toArray,argTypes:=ts },ty,pos,af,g⟩ Γ [] E (λ_=>[]) (λ_=>Tr b):=by
 cases p with
 | none=>cases h
 | some r=>exact QlH (p:=q r) hf ha h
def Qk1 (i:Int):∀(ms:List MapEntry) (n:Nat),QjY (ms.map λe=>(e.key,e.val))=true->
  (Instr.findNow (.int .i64) (.int .i64 i) ms n).map (Option.map (·.2))=some (QbF (ms.map λe=>(e.key,e.val)) i)
 | [],n,_=>rfl
 | m::ms,n,h=>by
  simp only[Yf,QjY,all_cons,Zh] at h;obtain⟨h1,h2⟩:=h;have ih:=Qk1 i ms (n+1) h2
  cases hk:m.key with
  | int k j=>
   rw[hk] at h1;cases k<;>simp at h1;simp only[Instr.findNow,hk,Instr.sameNow,if_true,Yf,QbF];by_cases hij:i=j
   ·subst hij;simp
   ·have:(i==j)=false:=by simpa using hij
    simp only[this,Zb hij];exact ih
  | _=>rw[hk] at h1;simp at h1
def QqR {es:List (Value×Value)} {i:Int} {kt et:TypeId} {V:Option Value->Ty} (ht:P.underlying t=some (.map kt et)) (hk:P.underlying kt=some (.int .i64)) (hz:(P.info? et).bind (·.zero)=some z)
  (hx:Fct Γ x (QkA es)) (hi:Fct Γ y (tv (.int .i64 i))) (hV:∀F w,(V (QbF es i)).ok F w ((QbF es i).getD z)):OpJ P ⟨d,.lookup t x y true,ty,pos,af,g⟩ Γ [] [] (λ_=>[]) (λ_=>ttup [V (QbF es i),tv (.bool (QbF es i).isSome)]):=
 QaQ λF w A he=>by
  obtain⟨r,ms,c,hv,_,hh,hks,hms⟩:=hx.use (by simp[Op.operands]) he;have h2:=hi.val (by simp[Op.operands]) he;obtain⟨ti,hti,hzz⟩:∃ti,P.info? et=some ti/\ti.zero=some z:=by
   cases h:P.info? et with
   | none=>simp[h] at hz
   | some ti=>exact⟨ti,rfl,by simpa[h] using hz⟩
  have hzv:(zeroValue et).run P w=.ok z w:=by simp[zeroValue,typeInfo,hti,hzz]
  have hf:=Qk1 i ms.toList 0 hks;rw[hms] at hf;have hck:∀b n,(Instr.checkKey b (n+1) kt (.int .i64 i)).run P w=.ok () w:=λb n=>by simp[Instr.checkKey,run_underlying hk]
  have hobj:(getObj r).run P w=.ok (.map ms c) w:=by simp[getObj,Sem.run,hh]
  cases hn:Instr.findNow (.int .i64) (.int .i64 i) ms.toList 0 with
  | none=>rw[hn] at hf;cases hf
  | some o=>
   rw[hn] at hf;simp only[ZO,ZB] at hf;refine⟨.tuple #[(QbF es i).getD z,.bool (QbF es i).isSome],?_,[(QbF es i).getD z,.bool (QbF es i).isSome],rfl,.cons (hV F w) (.cons rfl .nil)⟩;rw[<-hf]
   cases o with
   | none=>simp only[execOp,hv,h2,Instr.lookup,Sem.run_bind,run_underlying ht,Zj,hobj,Sem.run_pure,hck _ 9999,Instr.findKey,run_underlying hk,hn,hzv,Option.map_none,Option.getD_none,Option.isSome_none,if_true]
   | some q=>simp only[execOp,hv,h2,Instr.lookup,Sem.run_bind,run_underlying ht,Zj,hobj,Sem.run_pure,hck _ 9999,Instr.findKey,run_underlying hk,hn,ZO,ZQ,Option.isSome_some,if_true]
end
def Qoe (A B:Atom):Atom:=⟨λk=>A.fp k\/B.fp k,λF w=>A.ok F w/\B.ok F w/\∀k,A.fp k->¬B.fp k,λhF hh hf h=>⟨A.keep hF hh (λk hk=>hf k (.inl hk)) h.1,B.keep hF hh (λk hk=>hf k (.inr hk)) h.2.1,h.2.2⟩⟩
def tbp (q:Value):Ty:=⟨λ_ _ v=>(v=.pointer none\/v=q)/\v.oneCell'=true,λ_ _ h=>h⟩
def boxT (t:TypeId) (Ts:List Ty) (p:Value):Atom:=⟨λk=>p=.pointer (some ⟨k,0,none⟩),λF w=>∃b cur,p=.pointer (some ⟨b,0,none⟩)/\w.heap[b]?=some (.cells cur t (0,0))/\QW Ts F w cur.toList/\∀u∈cur.toList,u.oneCell'=true,λhF hh hf ⟨b,cur,hp,hb,hc,h1⟩=>⟨b,cur,hp,by rw[hf b hp];exact hb,hc.keep hF hh,h1⟩⟩
def bldE (tb e:TypeId) (l:Str) (q v:Value):Atom:=Qoe (boxT tb [tbp q,tvs v] q) (own (rInt .u8) e (Q3 l) v)
section
variable {M:Fr} {M0:Blk} {w0:World} {n:Nat} {Γ:List (Nat×Ty)} {As:List Atom} {a:Act} {w:World} {A B:Atom}
def fps2:∀k,fps (A::B::As) k↔fps (Qoe A B::As) k:=by
 intro k;constructor
 ·rintro ⟨C,hC,hk⟩;rcases Zm.1 hC with rfl | hC
  ·exact⟨_,Zl,.inl hk⟩
  ·rcases Zm.1 hC with rfl | hC
   ·exact⟨_,Zl,.inr hk⟩
   ·exact⟨C,by simp[hC],hk⟩
 ·rintro ⟨C,hC,hk⟩;rcases Zm.1 hC with rfl | hC
  ·rcases hk with hk | hk
   ·exact⟨A,by simp,hk⟩
   ·exact⟨B,by simp,hk⟩
  ·exact⟨C,by simp[hC],hk⟩
def Qqq:hold M0 (A::B::As)=hold M0 (Qoe A B::As):=by funext k;exact propext ⟨λh=>h.imp id (fps2 k).1,λh=>h.imp id (fps2 k).2⟩
def St.open2 (h:St M w0 n Γ (Qoe A B::As) a w):St M w0 n Γ (A::B::As) a w:=by
 have h1:=h.own _ Zl;have hap:=pairwise_cons.1 h.apart;refine⟨h.size,h.defers,h.grow,h.m0,?_,?_,?_,?_⟩
 ·rw[Qqq];intro C hC;rcases Zm.1 hC with rfl | hC
  ·exact h1.1
  ·rcases Zm.1 hC with rfl | hC
   ·exact h1.2.1
   ·exact h.own C (by simp[hC])
 ·intro C hC k hk;rcases Zm.1 hC with rfl | hC
  ·exact h.fresh _ Zl k (.inl hk)
  ·rcases Zm.1 hC with rfl | hC
   ·exact h.fresh _ Zl k (.inr hk)
   ·exact h.fresh C (by simp[hC]) k hk
 ·refine pairwise_cons.2 ⟨λC hC k hk=>?_,pairwise_cons.2 ⟨λC hC k hk=>hap.1 C hC k (.inr hk),hap.2⟩⟩;rcases Zm.1 hC with rfl | hC
  ·exact h1.2.2 k hk
  ·exact hap.1 C hC k (.inl hk)
 ·rw[Qqq];exact h.Xo
def St.close2 (h:St M w0 n Γ (A::B::As) a w):St M w0 n Γ (Qoe A B::As) a w:=by
 have hap:=pairwise_cons.1 h.apart;have hap2:=pairwise_cons.1 hap.2;refine⟨h.size,h.defers,h.grow,h.m0,?_,?_,?_,?_⟩
 ·rw[<-Qqq];intro C hC;rcases Zm.1 hC with rfl | hC
  ·exact⟨h.own A (by simp),h.own B (by simp),hap.1 B (by simp)⟩
  ·exact h.own C (by simp[hC])
 ·intro C hC k hk;rcases Zm.1 hC with rfl | hC
  ·rcases hk with hk | hk
   ·exact h.fresh A (by simp) k hk
   ·exact h.fresh B (by simp) k hk
  ·exact h.fresh C (by simp[hC]) k hk
 ·refine pairwise_cons.2 ⟨λC hC k hk=>?_,hap2.2⟩;rcases hk with hk | hk
  ·exact hap.1 C (by simp[hC]) k hk
  ·exact hap2.1 C hC k hk
 ·rw[<-Qqq];exact h.Xo
def St.swap (h:St M w0 n Γ (A::B::As) a w):St M w0 n Γ (B::A::As) a w:=h.perm (Perm.swap B A As)
end
section
variable {Γ:List (Nat×Ty)} {P:Program} {d:Option Tmp} {ty:TypeId} {pos:String} {af:Array Edge} {g:Option (Nat×Bool)} {x y:Operand} {T:Ty} {t t2 e:TypeId} {α:Type} {R:Rep α} {bytes:Nat} {z:Value}
def QvQ {tb:TypeId} {Ts:List Ty} {q:Value} {F:Blk} {w:World} (h:(boxT tb Ts q).ok F w):(box Ts q).ok F w:=by obtain⟨b,cur,hp,hb,r⟩:=h;exact⟨b,cur,tb,hp,hb,r⟩
def OpJ.rT {o:Oper} {tb:TypeId} {Ts:List Ty} {q:Value} {N:Value->List Atom} {T:Value->Ty} (h:OpJ P o Γ [box Ts q] [] N T):OpJ P o Γ [boxT tb Ts q] [] N T:=by intro M w a hM hU hE hap hUE he;refine h M w a hM (λA hA=>?_) hE hap (λA hA B hB=>by cases hB) he;obtain rfl:=Zg.1 hA;have:=hU _ (Zg.2 rfl);exact⟨QvQ this.1,this.2⟩
def op_storeT' {a:α} {Ts:List Ty} {q:Value} {off:Nat} {tb:TypeId} (hz:TOk P t R bytes z) (hp:Fct Γ x (tv (padd q off))) (hx:Fct Γ y (R.ty a)) (hl:off+R.n<=Ts.length):
  OpJ P ⟨d,.store t x y,ty,pos,af,g⟩ Γ [] [boxT tb Ts q] (λ_=>[boxT tb (splice Ts off (R.cs a)) q]) (λ_=>tany):=by
 intro M w A hM _ hE _ _ he;obtain⟨⟨b,cur,hq,hb,hc,h1⟩,hfp⟩:=hE _ (Zg.2 rfl);have hgiv:=QdA hE;have hv:=hx.use (by simp[Op.operands]) he;have hpv:A.eval x=.pointer (some ⟨b,off,none⟩):=by rw[hp.val (by simp[Op.operands]) he,hq];simp[padd,Qbb]
 have hsz:cur.size=Ts.length:=by simpa using hc.1
 have hr:(execOp A.eval (⟨d,.store t x y,ty,pos,af,g⟩:Oper)).run P w=.ok .skip (w.setRow b (splice cur.toList off (A.eval y).cells.toList).toArray):=by have hrs:=Qk0 (off:=off) hz hv hb (by omega);simp only[execOp,hpv,Sem.run_bind,hrs,Zj,Sem.run_pure]
 simp only[Does,hr];have hfpb:∀{Us:List Ty} k,(boxT tb Us q).fp k↔k=b:=by intro Us k;rw[hq];exact Qn6 (Ts:=Us)
 have heat:∀k,Qay [boxT tb Ts q] k↔k=b:=by intro k;rw[Qak,hfpb]
 refine⟨undef,Qfo ((heat b).2 rfl),QbQ (λk hk=>?_) ?_,trivial⟩
 ·have hk:=(hfpb k).1 hk;subst hk;refine⟨.inl ((heat _).2 rfl),?_⟩;have:=(Array.getElem?_eq_some_iff.1 hb).1;simpa using this
 ·obtain⟨hcv,h1v,_⟩:=Qcn hv;refine⟨b,_,hq,setRow_heap w b cur _ tb _ hb,?_,?_⟩
  ·have hcs:=(hc.splice (off:=off) hcv (by rw[R.len];exact hl));simp only;refine hcs.Xq ?_ ?_
   ·intro k hk;refine QcF (by simp) hgiv (λB hB j hj=>?_) hk;obtain rfl:=Zg.1 hB;exact .inl ((heat j).2 ((hfpb j).1 hj))
   ·rintro k ⟨h2,h3⟩;exact setRow_other w b k _ (λe=>h3 (hgiv k ((heat k).2 e)))
  ·simpa using Qn5 (off:=off) h1 h1v
def Qof {xs:List α} {Ts:List Ty} {q u':Value} {off:Nat} {tb:TypeId} (hz:TOk P t rVal bytes z) (hp:Fct Γ x (tv (padd q off))) (hx:Fct Γ y (tv u')) (hl:off+1<=Ts.length):
  OpJ P ⟨d,.store t x y,ty,pos,af,g⟩ Γ [own R e xs u'] [boxT tb Ts q] (λ_=>[boxT tb (splice Ts off (rVal.cs u')) q]) (λ_=>tany):=
 .say (A:=own R e xs u') (by simp) (λ_ _ h=>Qdo h) λhu=>(op_storeT' (R:=rVal) (a:=u') (Ts:=Ts) (off:=off) hz hp (hx.Xn λ_ _ _ h=>⟨h,hu⟩) hl).Xp (λA hA=>by cases hA)
def QpH {tb be:TypeId} {bs:Nat} (hi:(P.info? tb).map (λi=>(i.zero,i.size,i.bytes))=some (some (.agg #[.pointer none,.slice none 0 0]),2,bs)):
  OpJ P ⟨d,.alloc tb,ty,pos,af,g⟩ Γ [] [] (λp=>[bldE tb be [] p nilV]) (λp=>tv p):=by
 intro M w A hM _ _ _ _ _;obtain⟨ti,hti,hzz⟩:∃ti,P.info? tb=some ti/\ti.zero=some (.agg #[.pointer none,.slice none 0 0]):=by
  cases hx:P.info? tb with
  | none=>simp[hx] at hi
  | some i=>simp only[hx,ZO,ZB,Yo] at hi;exact⟨i,rfl,hi.1⟩
 have hr:(execOp A.eval (⟨d,.alloc tb,ty,pos,af,g⟩:Oper)).run P w=.ok (.value (.pointer (some ⟨w.heap.size,0,none⟩))) (w.alloc (.cells #[.pointer none,.slice none 0 0] tb)):=by simp[execOp,Instr.alloc,zeroValue,typeInfo,hti,hzz,newVar,newRow,Value.cells]
 simp only[Does,hr];refine⟨.pointer (some ⟨w.heap.size,0,none⟩),(Step.alloc w _).mono (λ_ h=>h.elim),QbQ (λk hk=>?_) ?_,rfl⟩
 ·have hk:k=w.heap.size:=by
   rcases hk with hk | hk
   ·exact (Qn6 (Ts:=[])).1 hk
   ·cases hk
  subst hk;exact⟨.inr (Zp _),by simp⟩
 ·refine⟨⟨w.heap.size,_,rfl,heap_alloc_new w _,?_,?_⟩,⟨[],World.ownsRow_nil _ _ _ _,rfl,λj T u hT=>by simp[Q3] at hT⟩,λk _ hk=>by cases hk⟩
  ·exact .cons ⟨.inl rfl,rfl⟩ (.cons ⟨rfl,rfl⟩ .nil)
  ·intro u hu;simp at hu;rcases hu with rfl | rfl<;>rfl
def QrV {xs:List Int} {v:Value} {F F':Blk} {w:World} {s:Str} (ht:P.underlying t=some (.slice e)) (hu:P.underlying t2=some .string) (hz:TOk P e (rInt .u8) 1 (.int .u8 0))
  (ho:(own (rInt .u8) e xs v).ok F w) (hF:∀k,F k->k<w.heap.size/\¬(own (rInt .u8) e xs v).fp k) (hFF:∀k,F k->F' k) (h:rm (xs.length+s.length)=some ()):
  ∃v' w',(Builtin.append_ #[t,t2] ty #[v,.string (sB s)]).run P w=.ok v' w'/\Step (own (rInt .u8) e xs v).fp w w'/\(∀k,(own (rInt .u8) e (xs++Q3 s) v').fp k->((own (rInt .u8) e xs v).fp k\/w.heap.size<=k)/\k<w'.heap.size)/\(own (rInt .u8) e (xs++Q3 s) v').ok F' w':=by
 obtain⟨ti,hti,hzz,hs,hbb⟩:=hz.info;have hs1:ti.size=1:=hs;have hroom:xs.length+s.length<=68719476736:=by unfold rm at h;split at h<;>first | assumption | cases h
 have hsz:=QiR s;have hlen:(Q3 s).length=s.length:=by simp[Q3]
 have hnl:(Lib.strCells (sB s)).length=s.length:=by rw[Lib.strCells_length,hsz]
 have hcn:∀F w,QW ((Q3 s).flatMap (rInt .u8).cs) F w (Lib.strCells (sB s)):=by intro F w;rw[Qgu];refine⟨by simp[hnl,hlen],λj T u hT hu=>?_⟩;simp only[Lib.strCells,Q3,sB,map_map,Yb,Option.map_eq_some_iff] at hT hu;obtain⟨c,h1,rfl⟩:=hT;obtain⟨c',h2,rfl⟩:=hu;have:some c=some c':=h1.symm.trans h2;cases this;rfl
 have hxf:(xs.flatMap (rInt .u8).cs).length=xs.length:=by rw[Qgu];simp
 have hlt:∀k,(own (rInt .u8) e xs v).fp k->k<w.heap.size:=by
  intro k hk;rcases Qa8 ho with⟨hv,_⟩ | ⟨b,cap,cur,hv,hbk,_⟩
  ·rw[hv] at hk;cases hk
  ·rw[hv] at hk;rw[Qbz.1 hk];exact (Array.getElem?_eq_some_iff.1 hbk).1
 have hz1:(Value.int u8 0).cells.size=1:=rfl;rcases Qa8 ho with⟨hv,hx⟩ | ⟨gb,cap,cur,hv,hbk,h1,h2,h3,h4⟩
 ·subst hv;subst hx;by_cases hs0:s=[]
  ·subst hs0;refine⟨.slice none 0 0,w,?_,Step.refl _ _,λk hk=>(by exact absurd hk (by intro h;cases h)),?_⟩
   ·have hf:=Lib.run_firstCells_string (P:=P) w 1 (sB []);have e0:(sB []).size=0:=rfl;have e4:(⟨#[]⟩:ByteArray)=ByteArray.empty:=rfl;rw[e0] at hf;have e5:Lib.strCells (sB [])=[]:=rfl;rw[e5] at hf;simp[Builtin.append_,run_underlying ht,run_underlying hu,sizeOf,typeInfo,hti,hs1,Builtin.lenOf,e0,hf]
   ·exact⟨[],World.ownsRow_nil _ _ _ _,rfl,λj T u hT=>by simp[Q3] at hT⟩
  ·have hpos:0<s.length:=by
    rcases s with _ | ⟨b,s⟩
    ·exact (hs0 rfl).elim
    ·simp
   simp only[Zk,Nat.zero_add] at hroom;have hrun:=run_append_nil_string (P:=P) w t t2 ty e ti (.int .u8 0) ht hu hti hzz (sB s) (by rw[hsz];omega) (by rw[hsz];omega) (by rw[hsz,hbb];omega);have hge:=grownCap_ge w (sB s).size 0 e;have hle:=grownCap_le_maxLen w (sB s).size 0 e (by rw[hsz];unfold maxLen;omega);have e1:((sB s).data.map λb=>Value.int .u8 b.toNat)=(Lib.strCells (sB s)).toArray:=by apply Array.ext';simp[Lib.strCells]
   rw[e1] at hrun;refine⟨_,_,hrun,⟨rfl,rfl,rfl,by simp,λk hk _=>Go.RowKit.Below.heap_alloc w.drew _ k hk⟩,?_,?_⟩
   ·intro k hk;rw[Qbz.1 hk];exact⟨.inr (Zp _),by simp⟩
   ·rw[Ya,hsz,<-hlen];rw[hsz,<-hlen] at hge hle;refine QhK (heap_alloc_new w.drew _) hge hle ?_ ?_
    ·rw[hlen] at hge ⊢;simp only[Array.size_append,size_toArray,size_zeroCells,hz1,hnl];show _=_ * 1;omega
    ·have e2:((Lib.strCells (sB s)).toArray++Builtin.zeroCells (Value.int .u8 0).cells (grownCap w (Q3 s).length 0 e - (Q3 s).length)).toList.take ((Q3 s).length * 1)=Lib.strCells (sB s):=by
      rw[Array.toList_append,take_left' (by rw[toList_toArray,hnl,hlen,Nat.mul_one])]
     show QW _ F' _ (take ((Q3 s).length * 1) _);rw[e2];exact hcn _ _
 ·subst hv;have h3':cur.size=cap:=by simpa using h3
  by_cases hcap:xs.length+s.length<=cap
  ·have hrun:=Lib.run_append_room_string (P:=P) w t t2 ty e ti ht hu hti hs1 gb xs.length cap cur hbk (sB s) (by rw[hsz];exact hcap) (by rw[hsz,h3'];exact hcap);refine⟨_,_,hrun,Qfo (Qbz.2 rfl),?_,?_⟩
   ·intro k hk;rw[Qbz.1 hk];exact⟨.inl (Qbz.2 rfl),by simpa using (Array.getElem?_eq_some_iff.1 hbk).1⟩
   ·have el:xs.length+(sB s).size=(xs++Q3 s).length:=by rw[hsz];simp[hlen]
    rw[el];refine QhK (setRow_heap w gb cur _ e _ hbk) (by rw[<-el,hsz];exact hcap) h2 ?_ ?_
    ·simp only[size_toArray,Zd,ZE,ZR,Array.length_toList,hnl];show _=cap * 1;omega
    ·have e2:(cur.toList.take xs.length++Lib.strCells (sB s)++cur.toList.drop (xs++Q3 s).length).take ((xs++Q3 s).length * 1)=cur.toList.take (xs.length * 1)++Lib.strCells (sB s):=by
      rw[Nat.mul_one,Nat.mul_one];refine take_left' ?_;rw[Zd,hnl,ZE,<-el,hsz];simp;omega
     show QW _ F' _ (take ((xs++Q3 s).length * 1) (toArray _).toList);rw[toList_toArray,e2,ZN];exact (h4.Xq hFF (λk hk=>setRow_other w gb k _ (λe=>(hF k hk).2 (Qbz.2 e)))).append (hcn _ _)
  ·have holds:∀j u,(cur.toList.take xs.length)[j]?=some u->w.cell? ((⟨gb,0,none⟩:Addr).add j)=some u:=by
    intro j u hu;rw[getElem?_take] at hu;split at hu
    ·rw[Qbb,Nat.zero_add];simpa[World.cell?,hbk] using hu
    ·cases hu
   have holdl:(cur.toList.take xs.length).length=xs.length * ti.size:=by rw[hs1];simp;omega
   have hrun:=Lib.run_append_grow_string (P:=P) w t t2 ty e ti (.int .u8 0) ht hu hti hzz ⟨gb,0,none⟩ xs.length cap _ holdl holds (sB s) (by rw[hsz];omega) (by rw[hsz];omega) (growslice_fits (by rw[hsz];omega) (by rw[hbb,hsz];omega));have hge:=grownCap_ge w (xs.length+(sB s).size) cap e;have hle:=grownCap_le_maxLen w (xs.length+(sB s).size) cap e (by rw[hsz];unfold maxLen;omega);refine⟨_,_,hrun,⟨rfl,rfl,rfl,by simp,λk hk _=>Go.RowKit.Below.heap_alloc w.drew _ k hk⟩,?_,?_⟩
   ·intro k hk;rw[Qbz.1 hk];exact⟨.inr (Zp _),by simp⟩
   ·have el:xs.length+(sB s).size=(xs++Q3 s).length:=by rw[hsz];simp[hlen]
    rw[el] at hge hle ⊢;refine QhK (heap_alloc_new w.drew _) hge hle ?_ ?_
    ·simp only[Array.size_append,size_toArray,size_zeroCells,hz1,holdl,hnl,hs1,Zd,hlen];simp only[Zd,hlen] at hge;show _=_ * 1;omega
    ·have e2:(((cur.toList.take xs.length).toArray++(Lib.strCells (sB s)).toArray++Builtin.zeroCells (Value.int .u8 0).cells (grownCap w (xs++Q3 s).length cap e - (xs++Q3 s).length)).toList).take ((xs++Q3 s).length * 1)=cur.toList.take (xs.length * 1)++Lib.strCells (sB s):=by
      rw[Array.toList_append,Array.toList_append,Nat.mul_one,Nat.mul_one];refine take_left' ?_;simp only[Zd,holdl,hnl,hs1,hlen,Nat.mul_one]
     show QW _ F' _ (take ((xs++Q3 s).length * 1) _);rw[e2,ZN];exact (h4.Xq hFF (λk hk=>Go.RowKit.Below.heap_alloc w.drew _ k (hF k hk).1)).append (hcn _ _)
def QsS {xs:List Int} {v:Value} {s:Str} (ht:P.underlying t=some (.slice e)) (hu:P.underlying t2=some .string) (hz:TOk P e (rInt .u8) 1 (.int .u8 0)) (hx:Fct Γ x (tv v)) (hy:Fct Γ y (tv (.string (sB s)))) (h:rm (xs.length+s.length)=some ()):
  OpJ P ⟨d,.call { callee:=.builtin .append,args:=#[x,y],argTypes:=#[t,t2] },ty,pos,af,g⟩ Γ [] [own (rInt .u8) e xs v] (λv'=>[own (rInt .u8) e (xs++Q3 s) v']) (λv'=>tv v'):=by
 intro M w A hM _ hE _ _ he;obtain⟨ho,hfp⟩:=hE _ (Zg.2 rfl);have hgiv:=QdA hE;have h1:=hx.val (by simp[Op.operands,Call.operands]) he;have h2:=hy.val (by simp[Op.operands,Call.operands]) he;obtain⟨v',w',hrun,hstep,hfp',hok⟩:=QrV (ty:=ty) (F:=free M w) (F':=λk=>k<w.heap.size/\¬M k) ht hu hz ho (λk hk=>⟨hk.1,λhf=>hk.2 (hfp k hf)⟩) (λk hk=>hk) h;have hexec:(execOp A.eval (⟨d,.call { callee:=.builtin .append,args:=#[x,y],argTypes:=#[t,t2] },ty,pos,af,g⟩:Oper)).run P w=.ok (.value v') w':=by simp only[execOp,resolve,invoke,builtin,Sem.run_bind,Sem.run_pure,Zj,map_toArray,Yf,Yi,h1,h2,hrun]
 simp only[Does,hexec];refine⟨v',hstep.mono (λk hk=>Qak.2 hk),QbQ (λk hk=>⟨(hfp' k hk).1.imp Qak.2 id,(hfp' k hk).2⟩) ?_,rfl⟩;refine Atom.keep _ (λk hk=>?_) (λ_ _=>rfl) (λ_ _=>rfl) hok;refine QcF hstep.size hgiv (λB hB j hj=>?_) hk;obtain rfl:=Zg.1 hB;exact (hfp' j hj).1.imp Qak.2 id
def QqS {xs:List α} {v:Value} (hne:xs≠[]) (hx:Fct Γ x (tv v)):OpJ P ⟨d,.call { callee:=.builtin .unsafeSliceData,args:=#[x],argTypes:=#[t] },ty,pos,af,g⟩ Γ [own R e xs v] [] (λ_=>[]) (λ_=>tv (QaX v 0)):=
 Qcq λM w A hU he=>by
  have h1:=hx.val (by simp[Op.operands,Call.operands]) he;rcases Qa8 (hU _ (Zg.2 rfl)) with⟨_,hn⟩ | ⟨b,cap,cur,hv,_,hl,_⟩
  ·exact (hne hn).elim
  ·subst hv;have hc:cap≠0:=by
    have:0<xs.length:=length_pos_iff.2 hne;omega
   refine⟨.pointer (some ⟨b,0,none⟩),by simp only[execOp,resolve,invoke,builtin,Sem.run_bind,Sem.run_pure,Zj,map_toArray,Yf,Yi,h1,Lib.run_unsafeSliceData_row (P:=P) (w:=w) #[t] ty ⟨b,0,none⟩ xs.length cap hc],?_⟩;show _=_;simp[QaX,Addr.add]
def Qog {l:Str} {v:Value} {pt it:TypeId} (hp:P.underlying pt=some (.pointer e)) (hc:P.cellsOf e=1) (hne:l≠[]) (hx:Fct Γ x (tv (QaX v 0))) (hy:Fct Γ y (tv (.int .i64 ((Q3 l).length:Int)))):
  OpJ P ⟨d,.call { callee:=.builtin .unsafeString,args:=#[x,y],argTypes:=#[pt,it] },ty,pos,af,g⟩ Γ [] [own (rInt .u8) e (Q3 l) v] (λ_=>[]) (λ_=>tv (.string (sB l))):=by
 intro M w A hM _ hE _ _ he;obtain⟨ho,hfp⟩:=hE _ (Zg.2 rfl);have h1:=hx.val (by simp[Op.operands,Call.operands]) he;have h2:=hy.val (by simp[Op.operands,Call.operands]) he;have hlen:(Q3 l).length=l.length:=by simp[Q3]
 rw[hlen] at h2;rcases Qa8 ho with⟨_,hn⟩ | ⟨b,cap,cur,hv,hb,hl,hm,hs,hcells⟩
 ·have:l.length=0:=by rw[<-hlen,hn];rfl
  exact (hne (ZU this)).elim
 ·subst hv;have hrun:=Lib.run_unsafeString_row (P:=P) w pt it ty e hp hc b cur.size (by simp[World.shape?,hb]) l hne (by rw[hs,<-hlen];show _<=cap * 1;omega) (by unfold maxLen at hm;omega) (λj c hj=>by
   rw[Qbb,Nat.zero_add];have hj':j<l.length:=(Zc.1 hj).1;have hT:((Q3 l).flatMap (rInt .u8).cs)[j]?=some (tv (.int .u8 (c.toNat:Int))):=by rw[Qgu];simp[Q3,hj]
   have hlt:j<(cur.toList.take ((Q3 l).length * (rInt .u8).n)).length:=by rw[hcells.1];exact (Zc.1 hT).1
   have:=hcells.2 j _ _ hT (Zf hlt);have hval:cur.toList[j]?=some (.int .u8 (c.toNat:Int)):=by
    have h3:=Zf hlt;rw[show (cur.toList.take ((Q3 l).length * (rInt .u8).n))[j]=Value.int .u8 (c.toNat:Int) from this] at h3;rw[getElem?_take] at h3;split at h3
    ·exact h3
    ·cases h3
   simpa[World.cell?,hb] using hval)
  have hev:QaX (Value.slice (some ⟨b,0,none⟩) (Q3 l).length cap) 0=.pointer (some ⟨b,0,none⟩):=by simp[QaX,Addr.add]
  have hexec:(execOp A.eval (⟨d,.call { callee:=.builtin .unsafeString,args:=#[x,y],argTypes:=#[pt,it] },ty,pos,af,g⟩:Oper)).run P w=.ok (.value (.string ⟨l.toArray⟩)) (w.freeze ⟨b,0,none⟩ l.length):=by simp only[execOp,resolve,invoke,builtin,Sem.run_bind,Sem.run_pure,Zj,map_toArray,Yf,Yi,h1,h2,hev,hrun]
  simp only[Does,hexec];refine⟨undef,?_,Qfn,rfl⟩;have hne0:l.length≠0:=λh=>hne (ZU h);refine⟨by simp[World.freeze,hne0],by simp[World.freeze,hne0],by simp[World.freeze,hne0],by simp[World.freeze,hne0],λk hk hnk=>?_⟩;have hkb:b≠k:=λe=>hnk (Qak.2 (Qbz.2 e.symm));simp[World.freeze,hne0,Array.getElem?_modify,hkb]
end
section
variable {α:Type} {R:Rep α} {k:Nat} {xs:List α} {i:Int} {q:Value} {u:α} {v:Value} {e:TypeId}
def QcG (h:idx xs i=some u):0<=i/\i.toNat<xs.length/\xs[i.toNat]?=some u:=by
 unfold idx at h;split at h
 ·exact⟨by assumption,(Zc.1 h).1,h⟩
 ·cases h
end
section
variable {P:Program} {ops:Array Oper} {Q:Exit->Act->World->Prop} {l n:Nat}
def QvR {o:Oper} {a:Act} {w:World} {K:Act->World->Prop} (hd:∀c,o.op≠.defer c) (h:o.wpIn Fence.wide n P a w K Q):o.wpIn (Fence.wide.inRound l) n P a w K Q:=by
 unfold Oper.wpIn at h ⊢;refine⟨λ_ _=>trivial,?_⟩;have h:=h.2;rw[show Fence.wide.round=none from rfl,Oper.semAt_none] at h;rw[Fence.inRound_round,Oper.semAt_some l _ o hd];generalize (execOp a.eval o).run P w=r at h ⊢
 match r,h with
 | .ok (.value v) w',h=>exact h
 | .ok .skip w',h=>exact h
 | .ok (.defer d) w',h=>exact h
 | .ok (.enter f args) w',h=>exact⟨λhh=>(by cases hh),CallsIn.inRound l h.2⟩
 | .ok (.row row args) w',h=>exact⟨λhh=>(by cases hh),h.2⟩
 | .ok (.round l f tmps assign body) w',h=>exact⟨λhh=>(by cases hh),h.2⟩
 | .halt (.panic v) w',h=>exact h
def Qoh {i:Nat} {a:Act} {w:World} {K:Act->World->Prop} (hd:∀(i:Nat) (o:Oper),ops[i]?=some o->∀c,o.op≠.defer c) (h:wpOpIn Fence.wide n P ops Q i K a w):wpOpIn (Fence.wide.inRound l) n P ops Q i K a w:=by
 unfold wpOpIn at h ⊢
 cases ho:ops[i]? with
 | none=>rw[ho] at h;exact h
 | some o=>
  rw[ho] at h;dsimp only at h ⊢;split
  ·rename_i hw;rw[Ze hw] at h;exact QvR (hd i o ho) h
  ·rename_i hw;rw[Zb hw] at h;exact⟨λ_ _=>trivial,h.2⟩
def QpI (hd:∀(i:Nat) (o:Oper),ops[i]?=some o->∀c,o.op≠.defer c):∀(is:List Nat) (a:Act) (w:World),wpOpsIn Fence.wide n P ops Q is a w->wpOpsIn (Fence.wide.inRound l) n P ops Q is a w
 | [],_,_,h=>h
 | i::is,a,w,h=>by rw[wpOpsIn_cons] at h ⊢;exact wpOpIn_mono (λa w h=>QpI hd is a w h) (Qoh hd h)
def QpJ (hd:∀(i:Nat) (o:Oper),ops[i]?=some o->∀c,o.op≠.defer c):∀(fuel:Nat) (listed:Array Bool) (a:Act) (w:World),wpAnyIn Fence.wide n P .any ops Q fuel listed a w->wpAnyIn (Fence.wide.inRound l) n P .any ops Q fuel listed a w
 | 0,_,_,_,h=>h
 | fuel+1,listed,a,w,h=>⟨h.1,λi hi=>wpOpIn_mono (λa w h=>QpJ hd fuel _ a w h) (Qoh hd (h.2 i hi))⟩
def Qoi {Inv:(Nat->Bool)->Act->World->Prop} {id:Nat} {draw:Bool} {a:Act} {w:World} (hm:draw=true->P.follows .mixedOrders=true) (hd:∀(i:Nat) (o:Oper),ops[i]?=some o->∀c,o.op≠.defer c)
  (hs:QjW P ops Q Inv) (hac:Acyc ops) (fin:∀S a w,(∀i,i<ops.size->S i=true)->Inv S a w->Q .normal a w)
  (h0:∀w',w'=w\/w'=w.drew->Inv (λ_=>false) a w'):(Code.region id ops draw).wpIn (Fence.wide.inRound l) 0 P Q a w:=by
 cases draw with
 | false=>refine wpIn_region (QpI hd _ _ _ ?_);rw[range_eq_range'];exact Qsk hs hac fin ops.size 0 (by omega) a w (by simpa using h0 w (.inl rfl))
 | true=>
  refine wpIn_region_any (hm rfl) (QpJ hd _ _ _ _ ?_);refine Qsl hs hac fin ops.size _ a _ (by simp) ?_ ?_
  ·unfold Qj4;have:=countP_le_length (p:=λb=>!b) (l:=(Array.replicate ops.size false).toList);simpa using this
  ·have e:(λj=>(Array.replicate ops.size false).getD j false)=λ_=>false:=by
    funext j
    simp only[Array.getD_eq_getD_getElem?,Array.getElem?_replicate];split<;>rfl
   rw[e];exact h0 w.drew (.inr rfl)
end
def Qxc {P:Program} {ops:List Oper} {M:Fr} {w0:World} {n l:Nat} {Γ:List (Nat×Ty)} {As:List Atom} {a:Act} {w:World} {id:Nat} {draw:Bool} {Q:Exit->Act->World->Prop} {is:List Info} (hm:P.follows .mixedOrders=true) (hd:∀o∈ops,∀c,o.op≠.defer c) (Ns:List Ver)
  (hst:St M w0 n Γ As a w) (hrun:∀new,Run P ops (verA As Ns) new 0 Γ ops is) (hchk:chk ops is ((verA As Ns).map (·.ds)) (Γ.map (·.1)) As.length (verA As Ns).length n=true)
  (hQ:∀new a' w',St M w0 n (outG ops is Γ new) (QhY (verA As Ns) is new) a' w'->Q .normal a' w'):(Code.region id ops.toArray draw).wpIn (Fence.wide.inRound l) 0 P Q a w:=
 Qn2 _ is (λ_ hs hac fin h0=>Qoi (λ_=>hm) (λi o ho=>hd o (Zo (by simpa using ho))) hs hac fin h0) hst hrun (λu A h x=>QqN As Ns u A h x) hchk hQ
def objA (b:Nat) (o:Obj):Atom:=⟨λk=>k=b,λ_ w=>w.heap[b]?=some o,λ_ _ hf h=>(hf b rfl).trans h⟩
def Qef (l:Nat) (r:Loop) (Γ:List (Nat×Ty)):Atom:=⟨λk=>k=l,λF w=>w.heap[l]?=some (.loop r)/\∀p∈Γ,p.2.ok F w (r.tmps.getD p.1 undef),λhF hh hf h=>⟨(hf l rfl).trans h.1,λp hp=>p.2.keep hF hh (h.2 p hp)⟩⟩
def Qcs (fn:FuncId) (tmps:Array Value) (ps:Array Tmp) (assign body:Code) (D:Nat):Loop:={ state:=.ready,pending:=none,fn,tmps,params:=ps,assign,body,defers:=D }
def mark (D:Nat):Deferred:={ target:=.collected D,args:=#[] }
abbrev defO:Obj:=.deferred (some [])
section
variable {P:Program} {M:Fr} {M0:Blk} {w0:World} {n:Nat} {Γ:List (Nat×Ty)} {As:List Atom} {a:Act} {w:World}
def St.putA {b:Nat} {o':Obj} {A A':Atom} (h:St M w0 n Γ (A::As) a w) (hA:∀k,A.fp k↔k=b) (hA':∀k,A'.fp k↔k=b)
  (hok:∀(F F':Blk) (w w':World),(∀k,F k->F' k)->(∀k,F k->w'.heap[k]?=w.heap[k]?)->w'.heap[b]?=some o'->A.ok F w->A'.ok F' w'):St M w0 n Γ (A'::As) a (w.putObj b o'):=by
 have hb:=h.fresh A (by simp) b ((hA b).2 rfl);have hfps:∀k,hold M.m (A'::As) k->hold M.m (A::As) k:=by
  rintro k (hk | ⟨B,hB,hk⟩)
  ·exact .inl hk
  ·rcases Zm.1 hB with rfl | hB
   ·exact .inr ⟨A,Zl ..,(hA k).2 ((hA' k).1 hk)⟩
   ·exact .inr ⟨B,Zy _ hB,hk⟩
 have hfree:∀k,free (hold M.m (A::As)) w k->free (hold M.m (A'::As)) (w.putObj b o') k:=λk ⟨h1,h2⟩=>⟨by simpa using h1,λhh=>h2 (hfps k hh)⟩;have hsame:∀k,k≠b->(w.putObj b o').heap[k]?=w.heap[k]?:=λk hk=>World.putObj_heap_other hk;have hnb:∀k,free (hold M.m (A::As)) w k->k≠b:=λk h2 e=>h2.2 (.inr ⟨A,Zl ..,(hA k).2 e⟩);have hap:=pairwise_cons.1 h.apart;refine⟨h.size,h.defers,?_,h.m0,?_,?_,pairwise_cons.2 ⟨λB hB k hk=>hap.1 B hB k ((hA k).2 ((hA' k).1 hk)),hap.2⟩,λp hp=>p.2.keep hfree (λk hk=>hsame k (hnb k hk)) (h.Xo p hp)⟩
 ·refine h.grow.trans (C:=λk=>k=b) ⟨rfl,rfl,rfl,by simp,λk _ hk=>hsame k hk⟩ ?_;rintro i rfl hi;rcases hb.1 with h1 | h1
  ·exact h1
  ·omega
 ·intro B hB;rcases Zm.1 hB with rfl | hB
  ·exact hok _ _ _ _ hfree (λk hk=>hsame k (hnb k hk)) (World.putObj_heap_same hb.2) (h.own A (Zl ..))
  ·exact B.keep hfree (λk hk=>hsame k (hnb k hk)) (λk hk=>hsame k (λe=>hap.1 B hB b ((hA b).2 rfl) (e▸hk))) (h.own B (Zy _ hB))
 ·intro B hB k hk;rw[World.putObj_size];rcases Zm.1 hB with rfl | hB
  ·exact h.fresh A (Zl ..) k ((hA k).2 ((hA' k).1 hk))
  ·exact h.fresh B (Zy _ hB) k hk
def St.putO {b:Nat} {o:Obj} (o':Obj) (h:St M w0 n Γ (objA b o::As) a w):St M w0 n Γ (objA b o'::As) a (w.putObj b o'):=h.putA (λ_=>Iff.rfl) (λ_=>Iff.rfl) (λ_ _ _ _ _ _ h _=>h)
def St.putL {b:Nat} {r:Loop} {Γl:List (Nat×Ty)} (r':Loop) (h:St M w0 n Γ (Qef b r Γl::As) a w) (he:r'.tmps=r.tmps):St M w0 n Γ (Qef b r' Γl::As) a (w.putObj b (.loop r')):=h.putA (λ_=>Iff.rfl) (λ_=>Iff.rfl) (λ_ _ _ _ hF hh h1 h2=>⟨h1,λp hp=>by rw[he];exact p.2.keep hF hh (h2.2 p hp)⟩)
def St.layA {A:Atom} (o:Obj) (h:St M w0 n Γ As a w) (hA:∀k,A.fp k↔k=w.heap.size) (hok:∀(F:Blk) (w':World),(∀k,free (hold M.m As) w k->F k)->(∀k,k<w.heap.size->w'.heap[k]?=w.heap[k]?)->w'.heap[w.heap.size]?=some o->A.ok F w'):St M w0 n Γ (A::As) a (w.alloc o):=by
 have hlt:∀A∈As,∀k,A.fp k->k<w.heap.size:=λA hA k hk=>(h.fresh A hA k hk).2;have hfree:∀k,free (hold M.m As) w k->free (hold M.m (A::As)) (w.alloc o) k:=by
  rintro k ⟨h1,h2⟩;refine⟨by simp;omega,?_⟩;rintro (hk | ⟨B,hB,hk⟩)
  ·exact h2 (.inl hk)
  ·rcases Zm.1 hB with rfl | hB
   ·exact absurd ((hA k).1 hk) (Nat.ne_of_lt h1)
   ·exact h2 (.inr ⟨B,hB,hk⟩)
 have hsame:∀k,k<w.heap.size->(w.alloc o).heap[k]?=w.heap[k]?:=λk hk=>Go.RowKit.Below.heap_alloc w o k hk;refine⟨h.size,h.defers,h.grow.trans (Step.alloc w o) (λ_ hh=>hh.elim),h.m0,?_,?_,pairwise_cons.2 ⟨?_,h.apart⟩,λp hp=>p.2.keep hfree (λk hk=>hsame k hk.1) (h.Xo p hp)⟩
 ·intro B hB;rcases Zm.1 hB with rfl | hB
  ·exact hok _ _ hfree hsame (World.alloc_heap_new w o)
  ·exact B.keep hfree (λk hk=>hsame k hk.1) (λk hk=>hsame k (hlt B hB k hk)) (h.own B hB)
 ·intro B hB k hk;rcases Zm.1 hB with rfl | hB
  ·obtain rfl:k=w.heap.size:=(hA k).1 hk;exact⟨.inr h.grow.size,by simp⟩
  ·have:=h.fresh B hB k hk;exact⟨this.1,by simp;omega⟩
 ·intro B hB k hk hkB;obtain rfl:k=w.heap.size:=(hA k).1 hk;exact absurd (hlt B hB _ hkB) (Nat.lt_irrefl _)
def St.lay (o:Obj) (h:St M w0 n Γ As a w):St M w0 n Γ (objA w.heap.size o::As) a (w.alloc o):=h.layA o (λ_=>Iff.rfl) (λ_ _ _ _ h=>h)
def St.called {E R N:List Atom} {w':World} (h:St M w0 n Γ (E++R) a w) (hs:Step (Qay E) w w') (hm:Made (hold M.m (E++R)) E N w w'):St M w0 n Γ (N++R) a w':=by
 have hap:=pairwise_append.1 h.apart;have hfE:∀k,Qay E k->(M.b k\/w0.heap.size<=k)/\k<w.heap.size:=λk ⟨A,hA,hk⟩=>h.fresh A (mem_append_left _ hA) k hk;have hmE:∀k,M.m k->¬Qay E k:=λk hk he=>by
  have h0:=h.m0 k hk;rcases (hfE k he).1 with h1 | h1
  ·exact h0.2 h1
  ·have:=h0.1;omega
 have hnext:∀k,next (hold M.m (E++R)) E N k↔hold M.m (N++R) k:=by
  intro k;constructor
  ·rintro (⟨hk | ⟨A,hA,hk⟩,hne⟩ | ⟨A,hA,hk⟩)
   ·exact .inl hk
   ·rcases ZH.1 hA with hA | hA
    ·exact (hne ⟨A,hA,hk⟩).elim
    ·exact .inr ⟨A,mem_append_right _ hA,hk⟩
   ·exact .inr ⟨A,mem_append_left _ hA,hk⟩
  ·rintro (hk | ⟨A,hA,hk⟩)
   ·exact .inl ⟨.inl hk,hmE k hk⟩
   ·rcases ZH.1 hA with hA | hA
    ·exact .inr ⟨A,hA,hk⟩
    ·exact .inl ⟨.inr ⟨A,mem_append_right _ hA,hk⟩,λ⟨B,hB,hkB⟩=>hap.2.2 B hB A hA k hkB hk⟩
 have hfree:∀k,free (hold M.m (E++R)) w k->free (hold M.m (N++R)) w' k:=by
  rintro k ⟨h1,h2⟩;refine⟨ZG h1 hs.size,λhh=>?_⟩;rcases (hnext k).2 hh with⟨hk,_⟩ | ⟨A,hA,hk⟩
  ·exact h2 hk
  ·rcases (hm.place A hA k hk).1 with⟨B,hB,hkB⟩ | hge
   ·exact h2 (.inr ⟨B,mem_append_left _ hB,hkB⟩)
   ·omega
 have hsame:∀k,free (hold M.m (E++R)) w k->w'.heap[k]?=w.heap[k]?:=λk ⟨h1,h2⟩=>hs.same k h1 (λ⟨A,hA,hk⟩=>h2 (.inr ⟨A,mem_append_left _ hA,hk⟩));have hfresh:∀A∈N++R,∀k,A.fp k->(M.b k\/w0.heap.size<=k)/\k<w'.heap.size:=by
  intro A hA k hk;rcases ZH.1 hA with hA | hA
  ·obtain⟨h1,h2⟩:=hm.place A hA k hk;refine⟨?_,h2⟩;rcases h1 with h1 | h1
   ·exact (hfE k h1).1
   ·exact .inr (ZW h.grow.size h1)
  ·have:=h.fresh A (mem_append_right _ hA) k hk;exact⟨this.1,ZG this.2 hs.size⟩
 refine⟨h.size,h.defers,h.grow.trans hs (λi hi hlt=>?_),h.m0,?_,hfresh,pairwise_append.2 ⟨hm.apart,hap.2.1,?_⟩,λp hp=>p.2.keep hfree hsame (h.Xo p hp)⟩
 ·rcases (hfE i hi).1 with h1 | h1
  ·exact h1
  ·omega
 ·intro A hA;rcases ZH.1 hA with hA | hA
  ·exact A.keep (λk ⟨h1,h2⟩=>⟨h1,λhh=>h2 ((hnext k).2 hh)⟩) (λ_ _=>rfl) (λ_ _=>rfl) (hm.ok A hA)
  ·refine A.keep hfree hsame (λk hk=>hs.same k (h.fresh A (mem_append_right _ hA) k hk).2 ?_) (h.own A (mem_append_right _ hA));rintro ⟨B,hB,hkB⟩;exact hap.2.2 B hB A hA k hkB hk
 ·intro A hA B hB k hk hkB;rcases (hm.place A hA k hk).1 with⟨C,hC,hkC⟩ | h1
  ·exact hap.2.2 C hC B hB k hkC hkB
  ·have:=(h.fresh B (mem_append_right _ hB) k hkB).2;omega
def QqT {E:List Atom} (hM:∀k,M0 k->k<w.heap.size) (hE:QgK M0 E w) (hap:Qda E) (ha:a.tmps.size=n) (hd:a.defers=[]) (hΓ:∀p∈Γ,p.2.ok (free M0 w) w (get a p.1)):
  ∃M,Qdd M0 E M/\St M w n Γ E a w:=by
 have hpl:Qdd M0 E ⟨λk=>M0 k/\¬Qay E k,Qay E,[]⟩:=by
  refine⟨rfl,λk=>⟨λhk=>?_,?_⟩,λk hk=>hk.2,rfl⟩
  ·by_cases he:Qay E k
   ·exact .inr he
   ·exact .inl ⟨hk,he⟩
  ·rintro (hk | hk)
   ·exact hk.1
   ·exact QdA hE k hk
 have hF:∀k,free M0 w k->free (hold (λk=>M0 k/\¬Qay E k) E) w k:=by
  rintro k ⟨h1,h2⟩;refine⟨h1,?_⟩;rintro (hm | hm)
  ·exact h2 hm.1
  ·exact h2 (QdA hE k hm)
 exact⟨_,hpl,⟨ha,hd,Step.refl _ _,λk hk=>⟨hM k hk.1,hk.2⟩,λA hA=>A.keep hF (λ_ _=>rfl) (λ_ _=>rfl) (hE A hA).1,λA hA k hk=>⟨.inl ⟨A,hA,hk⟩,hM k ((hE A hA).2 k hk)⟩,hap,λp hp=>p.2.keep hF (λ_ _=>rfl) (hΓ p hp)⟩⟩
def Qpb {E N:List Atom} (is:List Nat) (hpl:Qdd M0 E M) (hst:St M w0 n Γ As a w) (hd:Qcd is=true) (hN:is.filterMap (λi=>As[i]?)=N):Step (Qay E) w0 w/\Made M0 E N w0 w:=by
 have hmem:∀A,A∈N->A∈As:=by intro A hA;rw[<-hN] at hA;obtain⟨i,_,hi⟩:=Yj.1 hA;exact Zo hi
 have hnext:∀k,free (hold M.m As) w k->free (next M0 E N) w k:=by
  rintro k ⟨h1,h2⟩;refine⟨h1,?_⟩;rintro (⟨hm,hne⟩ | ⟨A,hA,hk⟩)
  ·rcases (hpl.m k).1 hm with hm | hm
   ·exact h2 (.inl hm)
   ·exact hne hm
  ·exact h2 (.inr ⟨A,hmem A hA,hk⟩)
 refine⟨by rw[<-hpl.b];exact hst.grow,⟨?_,λA hA k hk=>?_,λA hA=>Atom.keep _ hnext (λ_ _=>rfl) (λ_ _=>rfl) (hst.own _ (hmem A hA))⟩⟩
 ·rw[<-hN];exact QpE hst.apart hd
 ·have:=hst.fresh A (hmem A hA) k hk;rw[hpl.b] at this;exact this
def QrW {l:Nat} {r:Loop} {Γl:List (Nat×Ty)} {body:Code} {F:Fence} {m:Nat} {Q:Exit->Act->World->Prop} (hst:St M w0 n Γ (Qef l r Γl::As) a w) (hr:r.state=.ready)
  (h:∀w₂,St M w0 n Γ (Qef l { r with state:=.busy } Γl::As) a w₂->body.wpIn F m P Q a w₂):∃w₂,(Instr.beginRound l).run P w=.ok () w₂/\body.wpIn F m P Q a w₂:=
 ⟨_,run_beginRound (hst.own _ (Zl ..)).1 hr,h _ (hst.putL _ rfl)⟩
structure Qlh (M0:Blk) (E:List Atom) (D:Nat) (M:Fr):Prop where
 b:M.b=Qay E
 m:∀k,M0 k↔M.m k\/Qay E k
 d:∀k,M.m k->¬Qay E k
 e:M.d=[mark D]
def RetM (P:Program) (fn:Func) (M:Blk) (E:List Atom) (w0:World) (N:Value->List Atom) (T:Value->Ty):Exit->Act->World->Prop:=bodyPostM Fence.wide 0 P fn (λe w'=>∃x v,e=.returned v/\Step (Qay E) w0 w'/\Made M E (N x) w0 w'/\(T x).ok (free (next M E (N x)) w') w' v)
def FnOk.enterM {f:FuncId} {fn:Func} {c:Code} {Ts:List Ty} {E:List Atom} {N:Value->List Atom} {T:Value->Ty} (hf:P.funcs[f]?=some fn) (hb:fn.body=some c) (hn:fn.ntmps=n) (hl:Ts.length<=n)
  (h:∀M0 M w a,Qdd M0 E M->St M w n (ents Ts) E a w->c.wp P (RetM P fn M0 E w N T) a w):FnOk P f Ts E N T:=by
 intro M0 w vs hM hE hap hc;have hvl:=hc.1;obtain⟨M,hpl,hst⟩:=QqT (Γ:=ents Ts) (n:=n) (a:={ tmps:=vs.toArray++Array.replicate (fn.ntmps - vs.toArray.size) undef,defers:=[] }) hM hE hap (by simp[hn];omega) rfl (by
  intro p hp;obtain⟨⟨T',i⟩,hmem,rfl⟩:=ZM.1 hp;obtain⟨j,hj⟩:=ZV.1 hmem;rw[getElem?_zipIdx] at hj
  cases hT:Ts[j]? with
  | none=>simp[hT] at hj
  | some T''=>
   simp only[hT,ZO,ZB,Yo] at hj;obtain⟨rfl,rfl⟩:=hj;have hlt:j<vs.length:=by rw[hvl];exact (Zc.1 hT).1
   have hget:get { tmps:=vs.toArray++Array.replicate (fn.ntmps - vs.toArray.size) undef,defers:=[] } (0+j)=vs[j]:=by unfold get;simp[Array.getElem?_append,hlt]
   show T''.ok _ _ (get _ (0+j));rw[hget];exact hc.2 j T'' vs[j] hT (Zf hlt))
 exact callsIn_wide.1 (callsIn_of_wp_marks (n:=0) hf hb trivial ((wpIn_wide (n:=0)).2 (h M0 M w _ hpl hst)) rfl)
def Qt8 {fn:Func} {rs:List ResultVar} {Ts:List Ty} {E:List Atom} {N:Value->List Atom} {T:Value->Ty} {D:Nat} (x:Value) (is:List Nat) (hpl:Qlh M0 E D M) (hst:St M w0 n Γ (objA D defO::As) a w) (hrs:fn.results=rs.toArray)
  (h:Qh1 P Γ (objA D (.deferred none)::As) rs Ts) (hd:Qcd is=true) (hN:is.filterMap (λi=>(objA D (.deferred none)::As)[i]?)=N x) (hT:T x=QlF Ts):RetM P fn M0 E w0 N T .normal a w:=by
 have h1:=hst.putO (.deferred none);have hd0:=h1.defers;have h2:St ⟨M.m,M.b,[]⟩ w0 n Γ (objA D (.deferred none)::As) { a with defers:=[] } (w.putObj D (.deferred none)):=⟨h1.size,rfl,h1.grow,h1.m0,h1.own,h1.fresh,h1.apart,h1.Xo⟩;obtain⟨_,v,hv,hR⟩:=Qj6 (P:=P) x is (⟨hpl.b,hpl.m,hpl.d,rfl⟩:Qdd M0 E ⟨M.m,M.b,[]⟩) h2 hrs h hd hN hT;show LeavesInM _ _ _ _ _ _ a.defers _ _;rw[hd0,hpl.e];exact⟨by simp,.inl ⟨D,_,rfl,run_takeDeferred (hst.own _ (Zl ..)),v,hv,hR⟩⟩
def Qss (ops:List Oper):Bool:=ops.all λo=>match o.op with | .defer _=>false | _=>true
def wp_rgR {ops:List Oper} {l:Nat} {id:Nat} {draw:Bool} {Q:Exit->Act->World->Prop} {is:List Info} (hm:P.follows .mixedOrders=true) (hd:Qss ops=true) (Ns:List Ver)
  (hst:St M w0 n Γ As a w) (hrun:∀new,Run P ops (verA As Ns) new 0 Γ ops is) (hchk:chk ops is ((verA As Ns).map (·.ds)) (Γ.map (·.1)) As.length (verA As Ns).length n=true)
  (hQ:∀new a' w',St M w0 n (outG ops is Γ new) (QhY (verA As Ns) is new) a' w'->Q .normal a' w'):(Code.region id ops.toArray draw).wpIn (Fence.wide.inRound l) 0 P Q a w:=
 Qxc hm (λo ho c e=>by have:=Zs.1 hd o ho;rw[e] at this;cases this) Ns hst hrun hchk hQ
def box_q1 {Ts:List Ty} {q:Value} {F:Blk} {w:World} (h:(box Ts q).ok F w):q.oneCell'=true:=by obtain⟨b,_,_,hq,_⟩:=h;rw[hq];rfl
section
variable {d:Option Tmp} {ty:TypeId} {pos:String} {af:Array Edge} {g:Option (Nat×Bool)} {x:Operand} {t:TypeId} {bytes:Nat} {z:Value}
def QqU {q:Value} (hz:TOk P t rVal bytes z) (hp:Fct Γ x (tptr (rVal.cs q))):OpJ P ⟨d,.load t x,ty,pos,af,g⟩ Γ [] [] (λ_=>[]) (λ_=>tv q):=Qbt (Qw (R:=rVal) (u:=q) hz hp) (λ_ _ _ _ h=>h.1)
end
end
section
variable {s:Nat} {w b:Bool} {Γ:List (Nat×Ty)} {e0 e1 e2 e3 e4 e5 e6 e7 e8 e9 e10 e11:Nat×Ty}
def bq0:Grd ((s,tv (.bool b))::Γ) s w (b==w):=.b 0 rfl
def bq1:Grd (e0::(s,tv (.bool b))::Γ) s w (b==w):=.b 1 rfl
def bq2:Grd (e0::e1::(s,tv (.bool b))::Γ) s w (b==w):=.b 2 rfl
def bq3:Grd (e0::e1::e2::(s,tv (.bool b))::Γ) s w (b==w):=.b 3 rfl
def bq4:Grd (e0::e1::e2::e3::(s,tv (.bool b))::Γ) s w (b==w):=.b 4 rfl
def bq5:Grd (e0::e1::e2::e3::e4::(s,tv (.bool b))::Γ) s w (b==w):=.b 5 rfl
def bq6:Grd (e0::e1::e2::e3::e4::e5::(s,tv (.bool b))::Γ) s w (b==w):=.b 6 rfl
def bq7:Grd (e0::e1::e2::e3::e4::e5::e6::(s,tv (.bool b))::Γ) s w (b==w):=.b 7 rfl
def bq8:Grd (e0::e1::e2::e3::e4::e5::e6::e7::(s,tv (.bool b))::Γ) s w (b==w):=.b 8 rfl
def bq9:Grd (e0::e1::e2::e3::e4::e5::e6::e7::e8::(s,tv (.bool b))::Γ) s w (b==w):=.b 9 rfl
end
def bs2 {α β γ:Type} {x:Option α} {f:α->Option β} {g:α->β->Option γ} {r:γ} (h:(x.bind λa=>(f a).bind (g a))=some r):∃a,x=some a/\∃b,f a=some b/\g a b=some r:=by obtain⟨a,h1,h2⟩:=bind_some h;obtain⟨b,h3,h4⟩:=bind_some h2;exact⟨a,h1,b,h3,h4⟩
def bs3 {α β γ δ:Type} {x:Option α} {f:α->Option β} {g:α->β->Option γ} {k:α->β->γ->Option δ} {r:δ} (h:(x.bind λa=>(f a).bind λb=>(g a b).bind (k a b))=some r):∃a,x=some a/\∃b,f a=some b/\∃c,g a b=some c/\k a b c=some r:=by obtain⟨a,h1,h2⟩:=bind_some h;obtain⟨b,h3,h4⟩:=bind_some h2;obtain⟨c,h5,h6⟩:=bind_some h4;exact⟨a,h1,b,h3,c,h5,h6⟩
def bs4 {α β γ δ ε:Type} {x:Option α} {f:α->Option β} {g:α->β->Option γ} {k:α->β->γ->Option δ} {l:α->β->γ->δ->Option ε} {r:ε} (h:(x.bind λa=>(f a).bind λb=>(g a b).bind λc=>(k a b c).bind (l a b c))=some r):∃a,x=some a/\∃b,f a=some b/\∃c,g a b=some c/\∃d,k a b c=some d/\l a b c d=some r:=by obtain⟨a,h1,h2⟩:=bind_some h;obtain⟨b,h3,c,h5,d,h7,h8⟩:=bs3 h2;exact⟨a,h1,b,h3,c,h5,d,h7,h8⟩
def bs {α β:Type} {x:Option α} {f:α->Option β} {r:β} (h:x.bind f=some r):∃a,x=some a/\f a=some r:=bind_some h
section
variable {P:Program} {M:Fr} {M0:Blk} {w0 w:World} {n:Nat} {Γ:List (Nat×Ty)} {As:List Atom} {a:Act}
def wi {s:Nat} {b:Bool} {α:Type} {x y:Option α} {r:α} {c1 c2:Code} {Q:Exit->Act->World->Prop} (hst:St M w0 n ((s,tv (.bool b))::Γ) As a w) (h:(if b=true then x else y)=some r) (ht:b=true->x=some r->c1.wp P Q a w) (hf:b=false->y=some r->c2.wp P Q a w):(Code.cond (.tmp s) c1 c2).wp P Q a w:=wt hst (λhb=>ht hb (Qhp hb h)) (λhb=>hf hb (Qhq hb h))
def fe {f:FuncId} {fn:Func} {c:Code} {Ts:List Ty} {E:List Atom} {N:Value->List Atom} {T:Value->Ty} (hf:P.funcs[f]?=some fn) (hn:fn.ntmps=n) (h:∀M0 M w a,Qdd M0 E M->St M w n (ents Ts) E a w->c.wp P (Ret P fn M0 E w N T) a w) (hb:fn.body=some c:=by rfl) (hl:Ts.length<=n:=by exact Nat.le_of_ble_eq_true rfl):FnOk P f Ts E N T:=FnOk.enter hf hb hn hl h
def rt {fn:Func} {rs:List ResultVar} {Ts:List Ty} {E:List Atom} {N:Value->List Atom} {T:Value->Ty} (x:Value) (is:List Nat) (hpl:Qdd M0 E M) (hst:St M w0 n Γ As a w) (h:Qh1 P Γ As rs Ts) (hrs:fn.results=rs.toArray:=by rfl) (hd:Qcd is=true:=by rfl)
  (hN:is.filterMap (λi=>As[i]?)=N x:=by rfl) (hT:T x=QlF Ts:=by rfl):Ret P fn M0 E w0 N T .ret a w:=Qj6 x is hpl hst hrs h hd hN hT
def r0 {α:Type} {e r:α} {P:Program} {Q:Exit->Act->World->Prop} {a:Act} {w:World} (h:some e=some r) (k:e=r->Q .ret a w):Code.ret.wp P Q a w:=wp_ret (k (Zz h))
def r1 {fn:Func} {rs:List ResultVar} {Ts:List Ty} {E:List Atom} {N:Value->List Atom} {T:Value->Ty} (hpl:Qdd M0 E M) (hst:St M w0 n Γ As a w) (h:Qh1 P Γ As rs Ts) (hrs:fn.results=rs.toArray:=by rfl)
  (hN:([]:List Atom)=N undef:=by rfl) (hT:T undef=QlF Ts:=by rfl):Ret P fn M0 E w0 N T .ret a w:=Qj6 undef [] hpl hst hrs h rfl hN hT
end
section
open Go.MapKept
section
variable {α:Type}
def mget:List (Int×α)->Int->Option α
 | [],_=>none
 | p::l,i=>if i=p.1 then some p.2 else mget l i
def mset:List (Int×α)->Int->α->List (Int×α)
 | [],i,y=>[(i,y)]
 | p::l,i,y=>if i=p.1 then (i,y)::l else p::mset l i y
def QgY:∀(l:List (Int×α)) (i:Int) (y:α) (j:Int),mget (mset l i y) j=if j=i then some y else mget l j
 | [],i,y,j=>by simp[mset,mget]
 | p::l,i,y,j=>by
  unfold mset;by_cases h:i=p.1
  ·rw[Ze h];unfold mget;by_cases hj:j=i
   ·rw[Ze hj,Ze hj]
   ·rw[Zb hj,Zb hj,Zb (by rw[<-h];exact hj)]
  ·rw[Zb h];unfold mget;by_cases hp:j=p.1
   ·rw[Ze hp,Ze hp,Zb (by rw[hp];exact λe=>h e.symm)]
   ·rw[Zb hp,Zb hp];exact QgY l i y j
abbrev Mp (α:Type):=Option (List (Int×α))
def QkB (m:Mp α) (i:Int):Option α:=m.bind λl=>mget l i
def mput (m:Mp α) (i:Int) (y:α):Option (Mp α):=m.map λl=>some (mset l i y)
structure QjK (R:Rep α) (F:Blk) (w:World) (es:Array MapEntry) (l:List (Int×α)):Prop where
 all:∀e∈es.toList,∃i x,e.key=.int .i64 i/\mget l i=some x/\(R.ty x).ok F w e.val
 has:∀i x,mget l i=some x->∃e∈es.toList,e.key=.int .i64 i
 one:∀(n n':Nat) (e e':MapEntry),es.toList[n]?=some e->es.toList[n']?=some e'->e.key=e'.key->n=n'
def QjK.keep {R:Rep α} {F F':Blk} {w w':World} {es:Array MapEntry} {l:List (Int×α)} (hF:∀k,F k->F' k) (hh:∀k,F k->w'.heap[k]?=w.heap[k]?) (h:QjK R F w es l):QjK R F' w' es l:=⟨λe he=>let⟨i,x,h1,h2,h3⟩:=h.all e he;⟨i,x,h1,h2,(R.ty x).keep hF hh h3⟩,h.has,h.one⟩
def MapAt (R:Rep α) (F:Blk) (w:World) (m:Mp α) (v:Value):Prop:=match m with | none=>v=.map none | some l=>∃b es c,v=.map (some b)/\w.heap[b]?=some (.map es c)/\QjK R F w es l
def omap (R:Rep α) (m:Mp α) (v:Value):Atom:=
 ⟨λk=>v=.map (some k),λF w=>MapAt R F w m v,
  by
   intro F F' w w' hF hh hf h
   cases m with
   | none=>exact h
   | some l=>obtain⟨b,es,c,h1,h2,h3⟩:=h;exact⟨b,es,c,h1,by rw[hf b h1];exact h2,h3.keep hF hh⟩⟩
def tmap (R:Rep α) (m:Mp α):Ty:=
 ⟨λF w v=>match m with | none=>v=.map none | some l=>∃b es c,v=.map (some b)/\F b/\w.heap[b]?=some (.map es c)/\QjK R F w es l,
  by
   intro F F' w w' v hF hh h
   cases m with
   | none=>exact h
   | some l=>obtain⟨b,es,c,h1,h2,h3,h4⟩:=h;exact⟨b,es,c,h1,hF b h2,by rw[hh b h2];exact h3,h4.keep hF hh⟩⟩
end
section
variable {Γ:List (Nat×Ty)} {P:Program} {d:Option Tmp} {ty:TypeId} {pos:String} {af:Array Edge} {g:Option (Nat×Bool)} {x y q:Operand} {t kt et:TypeId} {α:Type} {R:Rep α} {bytes:Nat} {z:Value} {m:Mp α} {v:Value} {i:Int} {u:α}
def Qih (i:Int):IsKey (.int .i64) (.int .i64 i):=rfl
def QjK.keys {F:Blk} {w:World} {es:Array MapEntry} {l:List (Int×α)} (h:QjK R F w es l):∀e∈es.toList,IsKey (.int .i64) e.key:=λe he=>by obtain⟨i,x,h1,_⟩:=h.all e he;rw[h1];exact Qih i
def QvS {F:Blk} {w:World} (ht:P.underlying t=some (.map kt et)) (hk:P.underlying kt=some (.int .i64)) (hz:(zeroValue et).run P w=.ok z w) {x0:α} (hz0:(R.ty x0).ok F w z)
  (h:MapAt R F w m v) (ok:Bool):
  ∃r,(Instr.lookup t v (.int .i64 i) ok).run P w=.ok (if ok=true then .tuple #[r,.bool (QkB m i).isSome] else r) w/\(R.ty ((QkB m i).getD x0)).ok F w r:=by
 cases m with
 | none=>have hv:v=.map none:=h;subst hv;refine⟨z,?_,hz0⟩;have hck:(Instr.checkKey true 10000 kt (.int .i64 i)).run P w=.ok () w:=Go.MapKept.run_checkKey hk (Qih i) true 9999;have hf:(Instr.findKey kt (.int .i64 i) ([]:List MapEntry)).run P w=.ok none w:=Go.MapKept.run_findKey hk rfl;cases ok<;>simp[Instr.lookup,run_underlying ht,hck,hf,hz,QkB,Result.andThen]
 | some l=>
  obtain⟨b,es,c,hv,hb,hm⟩:=h;subst hv;have hck:∀e,(Instr.checkKey e 10000 kt (.int .i64 i)).run P w=.ok () w:=λe=>Go.MapKept.run_checkKey hk (Qih i) e 9999;rcases findNow_spec (Qih i) es.toList 0 hm.keys with⟨h1,h2⟩ | ⟨j,e,h1,h2,h3⟩
  ·have hn:mget l i=none:=by
    cases hg:mget l i with
    | none=>rfl
    | some u=>obtain⟨e,he,hk⟩:=hm.has i u hg;exact absurd hk (h2 e he)
   refine⟨z,?_,by show (R.ty ((mget l i).getD x0)).ok F w z;rw[hn];exact hz0⟩;have e0:QkB (some l) i=none:=hn;cases ok<;>simp[Instr.lookup,run_underlying ht,Go.MapKept.run_getObj_map hb,hck,Go.MapKept.run_findKey hk h1,hz,e0,Result.andThen]
  ·obtain⟨i',u,h4,h5,h6⟩:=hm.all e (Zo h2);rw[h3] at h4;simp only[Value.int.injEq,true_and] at h4;subst h4;refine⟨e.val,?_,by show (R.ty ((mget l i).getD x0)).ok F w e.val;rw[h5];exact h6⟩;have e0:QkB (some l) i=some u:=h5;cases ok<;>simp[Instr.lookup,run_underlying ht,Go.MapKept.run_getObj_map hb,hck,Go.MapKept.run_findKey hk h1,e0,Result.andThen]
def QvT {w:World} (hz:TOk P et R bytes z):(zeroValue et).run P w=.ok z w:=by obtain⟨ti,hti,hzz,_⟩:=hz.info;simp[zeroValue,typeInfo,hti,hzz]
def QvU {x0:α} (ht:P.underlying t=some (.map kt et)) (hk:P.underlying kt=some (.int .i64)) (hz:TOk P et R bytes z) (hz0:∀F w,(R.ty x0).ok F w z) (hx:Fct Γ x (tv v)) (hi:Fct Γ y (tv (.int .i64 i))):
  OpJ P ⟨d,.lookup t x y false,ty,pos,af,g⟩ Γ [omap R m v] [] (λ_=>[]) (λ_=>R.ty ((QkB m i).getD x0)):=
 Qcq λM w a hU he=>by have h1:=hx.val (by simp[Op.operands]) he;have h2:=hi.val (by simp[Op.operands]) he;obtain⟨r,hr,ho⟩:=QvS (i:=i) ht hk (QvT hz) (hz0 (free M w) w) (hU _ (Zg.2 rfl)) false;exact⟨r,by simp only[execOp,h1,h2,Sem.run_bind,hr,Zj,Sem.run_pure];rfl,ho⟩
def QsT (R:Rep α):OpJ P ⟨d,.makeMap t none,ty,pos,af,g⟩ Γ [] [] (λv=>[omap R (some []) v]) (λv=>tv v):=by
 intro M w A hM _ _ _ _ _;have hexec:(execOp A.eval (⟨d,.makeMap t none,ty,pos,af,g⟩:Oper)).run P w=.ok (.value (.map (some w.heap.size))) (w.alloc (.map #[] 0)):=rfl;simp only[Does,hexec];have hb:=(heap_alloc w (.map #[] 0)).1;refine⟨.map (some w.heap.size),(Step.alloc w _).mono (λ_ h=>h.elim),QbQ (λk hk=>?_) ?_,rfl⟩
 ·have hk':Value.map (some w.heap.size)=.map (some k):=hk;simp only[Value.map.injEq,ZB] at hk';subst hk';exact⟨.inr (Zp _),by simp⟩
 ·exact⟨w.heap.size,#[],0,rfl,hb,⟨λe he=>(by simp at he),λi u h=>(by cases h),λn n' e e' h=>(by simp at h)⟩⟩
def Qt9 {m':Mp α} (ht:P.underlying t=some (.map kt et)) (hk:P.underlying kt=some (.int .i64)) (hx:Fct Γ x (tv v)) (hi:Fct Γ y (tv (.int .i64 i))) (hq:Fct Γ q (R.ty u)) (h:mput m i u=some m'):
  OpJ P ⟨d,.mapUpdate t x y q,ty,pos,af,g⟩ Γ [] [omap R m v] (λ_=>[omap R m' v]) (λ_=>tany):=by
 intro M w A hM _ hE _ _ he;obtain⟨ho,hfp⟩:=hE _ (Zg.2 rfl);have hgiv:=QdA hE;have h1:=hx.val (by simp[Op.operands]) he;have h2:=hi.val (by simp[Op.operands]) he;have h3:=hq.use (by simp[Op.operands]) he
 cases m with
 | none=>cases h
 | some l=>
  obtain rfl:some (mset l i u)=m':=by simpa[mput] using h
  obtain⟨b,es,c,hv,hb,hm⟩:=ho;have hlt:b<w.heap.size:=(Array.getElem?_eq_some_iff.1 hb).1;have key:∃es' c',(Instr.mapUpdate t v (.int .i64 i) (A.eval q)).run P w=.ok () { w with heap:=w.heap.setIfInBounds b (.map es' c') }/\QjK R (free M w) w es' (mset l i u):=by
   subst hv;rcases findNow_spec (Qih i) es.toList 0 hm.keys with⟨f1,f2⟩ | ⟨j,e,f1,f2,f3⟩
   ·refine⟨es.push ⟨.int .i64 i,A.eval q,c⟩,c+1,by simp[Instr.mapUpdate,run_underlying ht,Go.MapKept.run_getObj_map hb,Go.MapKept.run_checkKey hk (Qih i),Go.MapKept.run_findKey hk f1,Go.MapKept.run_setObj_map _ hb,Result.andThen],⟨λe he=>?_,λj y hj=>?_,λn n' e e' hn hn' hke=>?_⟩⟩
    ·simp only[Array.toList_push,ZH,Zg] at he;rcases he with he | rfl
     ·obtain⟨k,y,g1,g2,g3⟩:=hm.all e he;refine⟨k,y,g1,?_,g3⟩;rw[QgY,Zb (λe2=>f2 e he (by rw[g1,e2]))];exact g2
     ·exact⟨i,u,rfl,by rw[QgY,Ze rfl],h3⟩
    ·rw[QgY] at hj;by_cases e:j=i
     ·subst e;exact⟨_,by rw[Array.toList_push];exact mem_append_right _ (mem_singleton_self _),rfl⟩
     ·rw[Zb e] at hj;obtain⟨e',he',hk'⟩:=hm.has j y hj;exact⟨e',by rw[Array.toList_push];exact mem_append_left _ he',hk'⟩
    ·rw[Array.toList_push] at hn hn';have cases':∀(n:Nat) (e:MapEntry),(es.toList++[⟨.int .i64 i,A.eval q,c⟩])[n]?=some e->es.toList[n]?=some e\/(n=es.toList.length/\e.key=.int .i64 i):=λn e h=>by
      rw[getElem?_append] at h;split at h
      ·exact .inl h
      ·rename_i hge;rw[getElem?_singleton] at h;split at h
       ·exact .inr ⟨by omega,by cases h;rfl⟩
       ·cases h
     rcases cases' n e hn with a | ⟨a1,a2⟩<;>rcases cases' n' e' hn' with b | ⟨b1,b2⟩
     ·exact hm.one n n' e e' a b hke
     ·exact absurd (hke.trans b2) (f2 e (Zo a))
     ·exact absurd (hke.symm.trans a2) (f2 e' (Zo b))
     ·omega
   ·have hj:es[j]?=some e:=by simpa using f2
    have hmod:∀n:Nat,(es.modify j λe=>{ e with key:=.int .i64 i,val:=A.eval q }).toList[n]?=if n=j then some { e with key:=.int .i64 i,val:=A.eval q } else es.toList[n]?:=λn=>by
     rw[Array.getElem?_toList,Array.getElem?_modify];by_cases hn:n=j
     ·subst hn;rw[Ze rfl,Ze rfl,hj];rfl
     ·rw[Zb (λh=>hn h.symm),Zb hn,Array.getElem?_toList]
    have kk:∀(n:Nat) (e':MapEntry),(es.modify j λe=>{ e with key:=.int .i64 i,val:=A.eval q }).toList[n]?=some e'->∃e0,es.toList[n]?=some e0/\e0.key=e'.key/\(n=j->e'.val=A.eval q)/\(n≠j->e'=e0):=λn e' h=>by
     rw[hmod] at h;by_cases hn:n=j
     ·rw[Ze hn] at h;cases h;exact⟨e,by rw[hn];exact f2,f3,λ_=>rfl,λh=>(h hn).elim⟩
     ·rw[Zb hn] at h;exact⟨e',h,rfl,λh=>(hn h).elim,λ_=>rfl⟩
    refine⟨es.modify j λe=>{ e with key:=.int .i64 i,val:=A.eval q },c,by simp[Instr.mapUpdate,run_underlying ht,Go.MapKept.run_getObj_map hb,Go.MapKept.run_checkKey hk (Qih i),Go.MapKept.run_findKey hk f1,hj,f3,run_keyThatStays (Qih i),Go.MapKept.run_setObj_map _ hb,Result.andThen],⟨λe' he'=>?_,λk y hk2=>?_,λn n' e1 e2 h1 h2 hke=>?_⟩⟩
    ·obtain⟨n,hn⟩:=ZV.1 he';obtain⟨e0,g1,g2,g3,g4⟩:=kk n e' hn;obtain⟨k,y,q1,q2,q3⟩:=hm.all e0 (Zo g1);by_cases hnj:n=j
     ·have:e0=e:=by rw[hnj,f2] at g1;exact (Zz g1).symm
      subst this;have hki:k=i:=by rw[f3] at q1;simpa using q1.symm
      exact⟨i,u,by rw[<-g2,f3],by rw[QgY,Ze rfl],by rw[g3 hnj];exact h3⟩
     ·have hne:k≠i:=λe2=>hnj (hm.one n j e0 e g1 f2 (by rw[q1,f3,e2]));exact⟨k,y,by rw[<-g2];exact q1,by rw[QgY,Zb hne];exact q2,by rw[g4 hnj];exact q3⟩
    ·have old:∀e0∈es.toList,∃e'∈(es.modify j λe=>{ e with key:=.int .i64 i,val:=A.eval q }).toList,e'.key=e0.key:=λe0 he0=>by
      obtain⟨n,hn⟩:=ZV.1 he0;by_cases hnj:n=j
      ·have:e0=e:=by rw[hnj,f2] at hn;exact (Zz hn).symm
       subst this;exact⟨_,Zo (by rw[hmod,Ze hnj]),f3.symm⟩
      ·exact⟨e0,Zo (i:=n) (by rw[hmod,Zb hnj];exact hn),rfl⟩
     rw[QgY] at hk2;by_cases e2:k=i
     ·subst e2;obtain⟨e',g1,g2⟩:=old e (Zo f2);exact⟨e',g1,by rw[g2];exact f3⟩
     ·rw[Zb e2] at hk2;obtain⟨e0,he0,hk0⟩:=hm.has k y hk2;obtain⟨e',g1,g2⟩:=old e0 he0;exact⟨e',g1,by rw[g2];exact hk0⟩
    ·obtain⟨a1,b1,c1,_⟩:=kk n e1 h1;obtain⟨a2,b2,c2,_⟩:=kk n' e2 h2;exact hm.one n n' a1 a2 b1 b2 (by rw[c1,c2];exact hke)
  obtain⟨es',c',hrun,hmi⟩:=key;have hexec:(execOp A.eval (⟨d,.mapUpdate t x y q,ty,pos,af,g⟩:Oper)).run P w=.ok .skip { w with heap:=w.heap.setIfInBounds b (.map es' c') }:=by simp only[execOp,h1,h2,Sem.run_bind,hrun,Zj,Sem.run_pure]
  simp only[Does,hexec];have hset:=heap_set (o':=.map es' c') hb;have hstep:Step (Qay [omap R (some l) v]) w { w with heap:=w.heap.setIfInBounds b (.map es' c') }:=⟨rfl,rfl,rfl,by simp,λk _ hnk=>hset.2 k (λe=>hnk (Qak.2 (by rw[e];exact hv)))⟩;refine⟨undef,hstep,QbQ (λk hk=>?_) ?_,trivial⟩
  ·have hkb:v=.map (some k):=hk;refine⟨.inl (Qak.2 hkb),?_⟩;rw[hv] at hkb;simp only[Value.map.injEq,ZB] at hkb;subst hkb;simpa using hlt
  ·refine⟨b,es',c',hv,hset.1,?_⟩;refine QjK.keep (λk hk=>?_) (λk hk=>hset.2 k (λe=>?_)) hmi
   ·refine QcF hstep.size hgiv (λB hB j hj=>?_) hk;obtain rfl:=Zg.1 hB;exact .inl (Qak.2 hj)
   ·exact hk.2 (hfp b hv |> λh=>by rw[e];exact h)
def Qua {F F':Blk} {w:World} (h:(omap R m v).ok F w) (hF:∀k,F k->F' k) (hfp:∀k,(omap R m v).fp k->F' k):(tmap R m).ok F' w v:=by
 cases m with
 | none=>exact h
 | some l=>obtain⟨b,es,c,h1,h2,h3⟩:=h;exact⟨b,es,c,h1,hfp b h1,h2,h3.keep hF (λ_ _=>rfl)⟩
def QbR.map {U:List Atom} (h:Fct Γ x (tv v)) (hU:omap R m v∈U):QbR Γ U x (tmap R m):=by intro F F' w a hF hA h0;have hv:a.eval x=v:=h F w a h0;obtain⟨hok,hfp⟩:=hA _ hU;rw[hv];exact Qua hok hF hfp
end
end
section
open Go.MapKept
section
variable {α:Type}
def QsU:List (Str×α)->Str->Option α
 | [],_=>none
 | p::l,i=>if i=p.1 then some p.2 else QsU l i
abbrev MpS (α:Type):=Option (List (Str×α))
structure Qmv (R:Rep α) (F:Blk) (w:World) (es:Array MapEntry) (l:List (Str×α)):Prop where
 all:∀e∈es.toList,∃i x,e.key=.string (sB i)/\QsU l i=some x/\(R.ty x).ok F w e.val
 has:∀i x,QsU l i=some x->∃e∈es.toList,e.key=.string (sB i)
 one:∀(n n':Nat) (e e':MapEntry),es.toList[n]?=some e->es.toList[n']?=some e'->e.key=e'.key->n=n'
def Qmv.keep {R:Rep α} {F F':Blk} {w w':World} {es:Array MapEntry} {l:List (Str×α)} (hF:∀k,F k->F' k) (hh:∀k,F k->w'.heap[k]?=w.heap[k]?) (h:Qmv R F w es l):Qmv R F' w' es l:=⟨λe he=>let⟨i,x,h1,h2,h3⟩:=h.all e he;⟨i,x,h1,h2,(R.ty x).keep hF hh h3⟩,h.has,h.one⟩
end
section
variable {Γ:List (Nat×Ty)} {P:Program} {d:Option Tmp} {ty:TypeId} {pos:String} {af:Array Edge} {g:Option (Nat×Bool)} {x y q:Operand} {t kt et:TypeId} {α:Type} {R:Rep α} {bytes:Nat} {z:Value} {m:MpS α} {v:Value} {i:Str} {u:α}
def Qxd (i:Str):IsKey .string (.string (sB i)):=by simp[IsKey]
def Qmv.keys {F:Blk} {w:World} {es:Array MapEntry} {l:List (Str×α)} (h:Qmv R F w es l):∀e∈es.toList,IsKey .string e.key:=λe he=>by obtain⟨i,x,h1,_⟩:=h.all e he;rw[h1];exact Qxd i
end
end
section
variable {Γ:List (Nat×Ty)} {x:Operand} {e:TypeId} {α:Type} {R:Rep α} {xs:List α} {v q:Value} {Ts:List Ty}
def QbR.boxP {U:List Atom} (k:Nat) (h:Fct Γ x (tv q)) (hU:Sim.box Ts q∈U) (hO:Sim.own R e xs v∈U) (hk:Ts[k]?=some (tvs v)):QbR Γ U x (tptr (Ts.set k (tsl R xs))):=by
 intro F F' w a hF hA h0;have hv:a.eval x=q:=h F w a h0;obtain⟨hok,hfp⟩:=hA _ hU;rw[hv];obtain⟨b,off,e1,e2,hr⟩:=Qmp hok hF hfp;refine⟨b,off,e1,e2,λj T hT=>?_⟩;rw[getElem?_set] at hT;split at hT
 ·rename_i ej;subst ej;split at hT
  ·cases hT;obtain⟨u,hu,hty⟩:=hr k (tvs v) hk;have huv:u=v:=hty.1;subst huv;exact⟨u,hu,QbR.own (x:=.tmp 0) (Γ:=[(0,tv u)]) (U:=[Sim.own R e xs u]) (R:=R) (e:=e) (xs:=xs) (v:=u) (Fct.t 0 rfl) (by simp) F F' w ⟨#[u],[]⟩ hF (λA hA'=>by simp at hA';subst hA';exact hA _ hO) (λp hp _=>by simp at hp;subst hp;rfl)⟩
  ·cases hT
 ·exact hr j T hT
end
section
variable {Γ:List (Nat×Ty)} {P:Program} {d:Option Tmp} {ty:TypeId} {pos:String} {af:Array Edge} {g:Option (Nat×Bool)} {x y:Operand} {t:TypeId} {bytes:Nat} {z:Value}
def Qub {q v0 qb:Value} {Ts:List Ty} (hz:TOk P t rVal bytes z) (hp:Fct Γ x (tv qb)) (hy:Fct Γ y (tv q)):
  OpJ P ⟨d,.store t x y,ty,pos,af,g⟩ Γ [box Ts q] [box [tvs v0] qb] (λ_=>[box [tvs q] qb]) (λ_=>tany):=
 .say (A:=box Ts q) (by simp) (λ_ _ h=>box_q1 h) λhq=>(QG (R:=rVal) (a:=q) (Ts:=[tvs v0]) hz hp (hy.Xn λ_ _ _ h=>⟨h,hq⟩) (Zp _)).Xp (λA hA=>by cases hA)
def zokP:∀F w,(rVal.ty (.pointer none)).ok F w (.pointer none):=λ_ _=>⟨rfl,rfl⟩
end
def QvV {α:Type} {R:Rep α} {m:Mp α} {v:Value} (h:∀x,Qfv (R.ty x)):Qh0 (omap R m v):=λF F' w ho=>by
 cases m with
 | none=>exact ho
 | some l=>obtain⟨b,es,c,h1,h2,h3⟩:=ho;exact⟨b,es,c,h1,h2,λe he=>let⟨i,x,a1,a2,a3⟩:=h3.all e he;⟨i,x,a1,a2,h x F F' w _ a3⟩,h3.has,h3.one⟩
def QaV (As:List Atom):Atom:=⟨fps As,λF w=>(∀A∈As,A.ok F w)/\Qda As,λhF hh hf h=>⟨λA hA=>A.keep hF hh (λk hk=>hf k ⟨A,hA,hk⟩) (h.1 A hA),h.2⟩⟩
def Qia {E:List Atom}:Qay [QaV E]=Qay E:=by
 funext k
 exact propext ⟨λ⟨A,hA,hk⟩=>by obtain rfl:=Zg.1 hA;exact hk,λh=>⟨_,Zg.2 rfl,h⟩⟩
def Qmw {M:Blk} {E N:List Atom}:next M [QaV E] [QaV N]=next M E N:=by unfold next;rw[Qia,Qia]
def QsV {M:Blk} {E:List Atom} {w:World} (h:QgK M E w) (hap:Qda E):QgK M [QaV E] w:=λA hA=>by obtain rfl:=Zg.1 hA;exact⟨⟨λB hB=>(h B hB).1,hap⟩,λk ⟨B,hB,hk⟩=>(h B hB).2 k hk⟩
def Ql8 {M:Blk} {E:List Atom} {w:World} (h:QgK M [QaV E] w):QgK M E w/\Qda E:=
 have:=h _ (Zg.2 rfl)
 ⟨λA hA=>⟨this.1.1 A hA,λk hk=>this.2 k ⟨A,hA,hk⟩⟩,this.1.2⟩
def QpK {M:Blk} {E N:List Atom} {w w':World} (h:Made M E N w w'):Made M [QaV E] [QaV N] w w':=
 ⟨pairwise_singleton _ _,λA hA k hk=>by
  obtain rfl:=Zg.1 hA;obtain⟨B,hB,hk⟩:=hk;rw[Qia];exact h.place B hB k hk,λA hA=>by
  obtain rfl:=Zg.1 hA;rw[Qmw];exact⟨h.ok,h.apart⟩⟩
def QqV {M:Blk} {E N:List Atom} {w w':World} (h:Made M [QaV E] [QaV N] w w'):Made M E N w w':=by have h1:=h.ok _ (Zg.2 rfl);rw[Qmw] at h1;exact⟨h1.2,λA hA k hk=>by have:=h.place _ (Zg.2 rfl) k ⟨A,hA,hk⟩;rwa [Qia] at this,h1.1⟩
section
variable {P:Program} {M:Fr} {M0:Blk} {w0:World} {n:Nat} {Γ:List (Nat×Ty)} {As:List Atom} {a:Act} {w:World}
def FnOk.unjoin {f:FuncId} {Ts:List Ty} {E:List Atom} {N:Value->List Atom} {T:Value->Ty} (h:FnOk P f Ts [QaV E] (λx=>[QaV (N x)]) T):FnOk P f Ts E N T:=λM w vs hM hE hap hc=>Calls.mono (h M w vs hM (QsV hE hap) (pairwise_singleton _ _) hc) (λe w' ⟨x,v,he,hs,hm,ht⟩=>⟨x,v,he,by rwa [Qia] at hs,QqV hm,by rwa [Qmw] at ht⟩)
def RB (E:List Atom) (M0:Blk) (b:Bool) (N:Value->List Atom) (w:World):Ending->World->Prop:=λe w'=>∃x,e=.returned (.bool b)/\Step (Qay E) w w'/\Made M0 E (N x) w w'
def YOk (P:Program) (l:Nat) (E:List Atom) (v:Value) (b:Bool) (N:Value->List Atom):Prop:=∀(M:Blk) (w:World),(∀k,M k->k<w.heap.size)->QgK M E w->Qda E->∃fn tmps assign body,(Instr.yield l #[v]).run P w=.ok (.round l fn tmps assign body) w/\RoundIn Fence.wide 0 P l fn tmps assign body w (RB E M b N w)
def YOk.join {l:Nat} {E:List Atom} {v:Value} {b:Bool} {N:Value->List Atom} (h:YOk P l E v b N):YOk P l [QaV E] v b (λx=>[QaV (N x)]):=λM w hM hE _=>by obtain⟨h1,h2⟩:=Ql8 hE;obtain⟨fn,tmps,as,body,hr,hR⟩:=h M w hM h1 h2;exact⟨fn,tmps,as,body,hr,RoundIn.mono hR (λe w' ⟨x,he,hs,hm⟩=>⟨x,he,by rw[Qia];exact hs,QpK hm⟩)⟩
inductive Qoj:Code->Exit->Prop where
 | ret:Qoj .ret .ret
 | exit (id:Nat):Qoj (.exit id) (.exit id)
def QsW {l:Nat} {fn:FuncId} {tmps:Array Value} {ps:Array Tmp} {assign body:Code} {D:Nat} {Γl:List (Nat×Ty)} {E:List Atom} {N:Value->List Atom} (x:Value) (is:List Nat) (hpl:Qdd M0 E M)
  (hst:St M w0 n Γ (Qef l { Qcs fn tmps ps assign body D with state:=.busy } Γl::As) a w) (hd:Qcd is=true)
  (hN:is.filterMap (λi=>(Qef l (Qcs fn tmps ps assign body D) Γl::As)[i]?)=N x):roundPost P l (RB E M0 true N w0) .normal a w:=
 ⟨_,_,run_endRound none (hst.own _ (Zl ..)).1,x,rfl,Qpb is hpl (hst.putL (Qcs fn tmps ps assign body D) rfl) hd hN⟩
def QrX {l:Nat} {fn:FuncId} {tmps:Array Value} {ps:Array Tmp} {assign body:Code} {D:Nat} {Γl:List (Nat×Ty)} {E:List Atom} {N:Value->List Atom} {jump:Code} {jx:Exit} (hj:Qoj jump jx) (x:Value) (is:List Nat) (hpl:Qdd M0 E M)
  (hst:St M w0 n Γ (Qef l { Qcs fn tmps ps assign body D with state:=.busy } Γl::As) a w) (hd:Qcd is=true)
  (hN:is.filterMap (λi=>(Qef l { Qcs fn tmps ps assign body D with state:=.done,pending:=some jump } Γl::As)[i]?)=N x):roundPost P l (RB E M0 false N w0) jx a w:=by
 cases hj with
 | ret=>exact⟨_,_,run_endRound (some .ret) (hst.own _ (Zl ..)).1,x,rfl,Qpb is hpl (hst.putL { Qcs fn tmps ps assign body D with state:=.done,pending:=some .ret } rfl) hd hN⟩
 | exit id=>exact⟨_,_,run_endRound (some (.exit id)) (hst.own _ (Zl ..)).1,x,rfl,Qpb is hpl (hst.putL { Qcs fn tmps ps assign body D with state:=.done,pending:=some (.exit id) } rfl) hd hN⟩
section
variable {S:Type} {A:S->Value->List Atom} {k:IntKind} {p:Tmp} {assign body:Code} {jump:Code} {jx:Exit} {Y:S->Int->Option (S⊕S)} {s0:S} {g0:Value} {t:S⊕S} {f1:FuncId} {Tc:List Ty} {g:Operand}
def recW (A:S->Value->List Atom) (l:Nat) (r:Loop) (jump:Code) (Γ:List (Nat×Ty)):S⊕S->Value->List Atom
 | .inl s,x=>Qef l r Γ::A s x
 | .inr s,x=>Qef l { r with state:=.done,pending:=some jump } Γ::A s x
end
section
variable {l m:Nat} {F:Fence} {Q:Exit->Act->World->Prop}
def QnK {s:Nat} {b:Bool} {x y:Code} (i:Nat) (hst:St M w0 n Γ As a w) (hi:Γ[i]?=some (s,tv (.bool b))) (ht:b=true->x.wpIn F m P Q a w) (hf:b=false->y.wpIn F m P Q a w):(Code.cond (.tmp s) x y).wpIn F m P Q a w:=by have hv:a.eval (.tmp s)=.bool b:=hst.Xo (s,tv (.bool b)) (Zo hi);exact wpIn_cond_split hv ht hf
def Quc {σ ρ:Type} {c:Code} (body:σ->Option (σ⊕ρ)) (I:σ->Act->World->Prop) (out:ρ) (s0:σ) (h:Qz body s0=some out) (h0:I s0 a w)
  (round:∀s o a w (K:Act->World->Prop),I s a w->body s=some o->(∀r,o=.inr r->r=out)->(∀s' a w,o=.inl s'->I s' a w->K a w)->c.wpIn F m P (Exit.then K Q) a w):(Code.loop c).wpIn F m P Q a w:=by
 obtain⟨n,hn⟩:=Qdc.1 h;intro b k cs hro hb hr;have key:∀n s a w,iter body n s=some out->I s a w->∃e a' w',Q e a' w'/\ArrivesIn (Machine.fenced P F) P (lone (b.atR a (.code c::.inLoop c::k)) cs w) b k cs e a' w':=by
  intro n
  induction n with
  | zero=>intro s a w h;cases h
  | succ n ih=>
   intro s a w h hI;simp only[iter] at h
   cases hbo:body s with
   | none=>rw[hbo] at h;cases h
   | some o=>
    rw[hbo] at h;obtain⟨e,a₁,w₁,hq,harr⟩:=round s o a w (λa' w'=>∃s',o=.inl s'/\I s' a' w') hI hbo (by rintro r rfl;simpa using h) (λs' _ _ h1 h2=>⟨s',h1,h2⟩) b (.inLoop c::k) cs hro hb hr
    cases e with
    | normal=>obtain⟨s',rfl,hI'⟩:=hq;obtain⟨e₂,a₂,w₂,hq₂,harr₂⟩:=ih s' a₁ w₁ h hI';exact⟨e₂,a₂,w₂,hq₂,.of_steps (StepsIn.trans harr (.one (fenced_calm hb hr rfl) stepR_inLoop)) harr₂⟩
    | exit id=>exact⟨_,a₁,w₁,hq,.pass (x:=.inLoop c) rfl (λ_ _=>.inl (by simp)) harr⟩
    | goto l=>exact⟨_,a₁,w₁,hq,.pass (x:=.inLoop c) rfl (λ_ _=>.inl (by simp)) harr⟩
    | ret=>exact⟨_,a₁,w₁,hq,.pass (x:=.inLoop c) rfl (λ_ _=>.inl (by simp)) harr⟩
    | panic ch=>exact⟨_,a₁,w₁,hq,.pass (x:=.inLoop c) rfl (λ_ _=>.inl (by simp)) harr⟩
    | outgrown=>exact⟨_,a₁,w₁,hq,.pass (x:=.inLoop c) rfl (λ_ _=>.inl (by simp)) harr⟩
 obtain⟨e,a',w',hq,harr⟩:=key n s0 a w hn h0;exact⟨e,a',w',hq,.of_steps (.one (fenced_calm hb hr rfl) stepR_loop) harr⟩
def QcW {x y:Code} (h:∀K:Act->World->Prop,(∀a w,y.wpIn F m P Q a w->K a w)->x.wpIn F m P (Exit.then K Q) a w):(Code.seq x y).wpIn F m P Q a w:=wpIn_seq_k h
def QnL (h:Q .normal a w):Code.skip.wpIn F m P Q a w:=wpIn_skip h
def QvW {id:Nat} (h:Q (.exit id) a w):(Code.exit id).wpIn F m P Q a w:=wpIn_exit h
def Qmx {id:Nat} {c:Code} (h:c.wpIn F m P (Exit.inBlock id Q) a w):(Code.block id c).wpIn F m P Q a w:=wpIn_block h
def QeV {ops:List Oper} {l:Nat} {id:Nat} {draw:Bool} {is:List Info} (hm:P.follows .mixedOrders=true) (Ns:List Ver)
  (hst:St M w0 n Γ As a w) (hrun:∀new,Run P ops (verA As Ns) new 0 Γ ops is) (hchk:(Qss ops&&chk ops is ((verA As Ns).map (·.ds)) (Γ.map (·.1)) As.length (verA As Ns).length n)=true)
  (hQ:∀new a' w',St M w0 n (outG ops is Γ new) (QhY (verA As Ns) is new) a' w'->Q .normal a' w'):(Code.region id ops.toArray draw).wpIn (Fence.wide.inRound l) 0 P Q a w:=
 wp_rgR hm (by have:=hchk;simp only[Zh] at this;exact this.1) Ns hst hrun (by have:=hchk;simp only[Zh] at this;exact this.2) hQ
end
def QlK {fn:Func} {rs:List ResultVar} {Ts:List Ty} {E:List Atom} {N:Value->List Atom} {T:Value->Ty} {D:Nat} (x:Value) (is:List Nat) (hpl:Qlh M0 E D M) (hst:St M w0 n Γ (objA D defO::As) a w) (hrs:fn.results=rs.toArray) (h:Qh1 P Γ (objA D (.deferred none)::As) rs Ts) (hd:Qcd is=true) (hN:is.filterMap (λi=>(objA D (.deferred none)::As)[i]?)=N x) (hT:T x=QlF Ts):RetM P fn M0 E w0 N T .ret a w:=show RetM P fn M0 E w0 N T .normal a w from Qt8 x is hpl hst hrs h hd hN hT
end

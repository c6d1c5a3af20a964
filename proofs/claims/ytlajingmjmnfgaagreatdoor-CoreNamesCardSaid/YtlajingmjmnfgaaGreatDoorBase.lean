/- Closed facts on the types and functions of the translation. No condition. -/
import Derived.Test.YtlajingmjmnfgaaGreatDoorSimX
import Derived.Test.YtlajingmjmnfgaaGreatDoorRows
set_option linter.all false
open List Go.Proofs.Tryz
namespace Go.Proofs.YtlajingmjmnfgaaGreatDoor
open Go.Sim
def mixed:prog.follows .mixedOrders=true:=by kernel_rfl
def mx:prog.follows .mixedOrders=true:=mixed
def Qi2:List (Value×Value):=[(.int .i64 0,.agg #[.func (.func 263) #[] #[]]),(.int .i64 1,.agg #[.func (.func 264) #[] #[]]),(.int .i64 4,.agg #[.func (.func 265) #[] #[]]),(.int .i64 5,.agg #[.func (.func 266) #[] #[]]),(.int .i64 6,.agg #[.func (.func 268) #[] #[]]),(.int .i64 7,.agg #[.func (.func 270) #[] #[]]),(.int .i64 8,.agg #[.func (.func 272) #[] #[]])]
def Qt4:Ty:=Qm1 Qi2
def QsJ:List Ty:=[Qt4]
def tokM0:TOk prog 161 (rMapC Qi2) 8 (.map none):=⟨⟨_,underlying161,rfl⟩,(by kernel_rfl:(prog.info? 161).map (λi=>(i.zero,i.size,i.bytes))=some (some (.map none),1,8)),rfl⟩
def Qkg:List Str:=[[107,101,121],[114,101,102],[110,117,109],[112,105,99,107],[100,97,121],[115,116,101,112],[115,117,109],[115,104,97,114,101],[99,111,112,121]]
def QsK:List Ty:=Qkg.flatMap rS.cs
def Qqv:List Int:=[1,10,100,1000,10000,100000,1000000,10000000,100000000,1000000000,10000000000,100000000000,1000000000000,10000000000000,100000000000000,1000000000000000,10000000000000000,100000000000000000,1000000000000000000,10000000000000000000]
def QsL:List Ty:=Qqv.flatMap (rInt .u64).cs
def QsM:List Int:=[0,1,28,2,29,14,24,3,30,22,20,15,25,17,4,8,31,27,13,23,21,19,16,7,26,12,18,6,11,5,10,9]
def tglo3:List Ty:=QsM.flatMap (rInt .u8).cs
def QsN:List Int:=[0,1,56,2,57,49,28,3,61,58,42,50,38,29,17,4,62,47,59,36,45,43,51,22,53,39,33,30,24,18,12,5,63,55,48,27,60,41,37,16,46,35,44,21,52,32,23,11,54,26,40,15,34,20,31,10,25,14,19,9,13,8,7,6]
def tglo4:List Ty:=QsN.flatMap (rInt .u8).cs
abbrev bld:=bldE 242 5
def glo:Atom:=gloA [(0,QsJ),(1,QsK),(2,QsL),(3,tglo3),(4,tglo4)]
def Qqw:∀k,¬glo.fp k:=λ_ h=>h
def _root_.Go.Sim.OpJ.glo {P:Program} {o:Oper} {Γ:List (Nat×Ty)} {U E:List Atom} {N:Value->List Atom} {T:Value->Ty} (h:OpJ P o Γ U (glo::E) N T):OpJ P o Γ (glo::U) E N T:=OpJ.gloG Qqw h
def QxV:Qm0 glo 0 QsJ:=QoE (by simp)
def Qv6:Qmr glo 0 QsJ:=QxV.has
def QxW:Qm0 glo 1 QsK:=QoE (by simp)
def Qv7:Qmr glo 1 QsK:=QxW.has
def QxX:Qm0 glo 2 QsL:=QoE (by simp)
def tok3:TOk prog 3 rI 8 (.int .i64 0):=⟨⟨_,underlying3,rfl⟩,by kernel_rfl,rfl⟩
def zok3:∀F w,(rI.ty (0:Int)).ok F w (.int .i64 0):=λ_ _=>rfl
def tok4:TOk prog 4 Qaq 1 (.bool false):=⟨⟨_,underlying4,rfl⟩,by kernel_rfl,rfl⟩
def zok4:∀F w,(Qaq.ty false).ok F w (.bool false):=λ_ _=>rfl
def tok5:TOk prog 5 (rInt .u8) 1 (.int .u8 0):=⟨⟨_,underlying5,rfl⟩,by kernel_rfl,rfl⟩
def tok9:TOk prog 9 rS 16 (.string .empty):=⟨⟨_,underlying9,rfl⟩,by kernel_rfl,rfl⟩
def Qn5:TOk prog 20 (rAny 3 9) 16 .nilIface:=⟨⟨_,underlying20,rfl⟩,by kernel_rfl,rfl⟩
def QsO:TOk prog 22 (rSl rI) 24 (.slice none 0 0):=⟨⟨_,underlying22,rfl⟩,by kernel_rfl,rfl⟩
def QjO:TOk prog 25 (rSl rS) 24 (.slice none 0 0):=⟨⟨_,underlying25,rfl⟩,by kernel_rfl,rfl⟩
def zok25:∀F w,((rSl rS).ty ([]:(List Str))).ok F w (.slice none 0 0):=λ_ _=>⟨none,0,rfl,Nat.le_refl _,λh=>(h rfl).elim⟩
def QpX:TOk prog 26 rI 8 (.int .i64 0):=⟨⟨_,underlying26,rfl⟩,by kernel_rfl,rfl⟩
structure Qb where
  Xj:Str
  Of:Str
  Up:Str
  Xi:Int
  Lo:Int
  Hi:Int
  Words:(List Str)
  Xf:(List Int)
deriving Inhabited
@[reducible] def Qd : Rep Qb := ⟨λx => ([tv (.string (sB x.Xj)),tv (.string (sB x.Of)),tv (.string (sB x.Up)),ti x.Xi,ti x.Lo,ti x.Hi,tsl rS x.Words,tsl rI x.Xf]),8,true,λ_ => rfl,λ_ => (Qv (Q6 rfl) (Qv (Q6 rfl) (Qv (Q6 rfl) (Qv (Q6 rfl) (Qv (Q6 rfl) (Qv (Q6 rfl) (Qv QbV (Qv QbV Qaa)))))))),λh => (by cases h)⟩
theorem QaY:TOk prog 49 Qd 120 (.agg #[(.string .empty),(.string .empty),(.string .empty),(.int .i64 0),(.int .i64 0),(.int .i64 0),(.slice none 0 0),(.slice none 0 0)]):=⟨⟨_,underlying49,rfl⟩,by kernel_rfl,rfl⟩
def zc49:∀F w,QO (Qd.cs (Qb.mk ([]:Str) ([]:Str) ([]:Str) (0:Int) (0:Int) (0:Int) ([]:(List Str)) ([]:(List Int)))) F w ((.agg #[(.string .empty),(.string .empty),(.string .empty),(.int .i64 0),(.int .i64 0),(.int .i64 0),(.slice none 0 0),(.slice none 0 0)]):Value).cells.toList:=λ_ _=>(.cons rfl (.cons rfl (.cons rfl (.cons rfl (.cons rfl (.cons rfl (.cons ⟨none,0,rfl,Nat.le_refl _,λh=>(h rfl).elim⟩ (.cons ⟨none,0,rfl,Nat.le_refl _,λh=>(h rfl).elim⟩ .nil))))))))
def Qm4:∀F w,(Qd.ty (Qb.mk ([]:Str) ([]:Str) ([]:Str) (0:Int) (0:Int) (0:Int) ([]:(List Str)) ([]:(List Int)))).ok F w (.agg #[(.string .empty),(.string .empty),(.string .empty),(.int .i64 0),(.int .i64 0),(.int .i64 0),(.slice none 0 0),(.slice none 0 0)]):=λF w=>⟨_,rfl,zc49 F w⟩
def zv49:(prog.info? 49).bind (·.zero)=some (.agg #[(.string .empty),(.string .empty),(.string .empty),(.int .i64 0),(.int .i64 0),(.int .i64 0),(.slice none 0 0),(.slice none 0 0)]):=by kernel_rfl
def pl49 : ∀ w, ((#[⟨"Name", 9, 0, false, "", "", 0⟩, ⟨"Of", 9, 1, false, "", "", 16⟩, ⟨"Up", 9, 2, false, "", "", 32⟩, ⟨"Kind", 3, 3, false, "", "", 48⟩, ⟨"Lo", 3, 4, false, "", "", 56⟩, ⟨"Hi", 3, 5, false, "", "", 64⟩, ⟨"Words", 25, 6, false, "", "", 72⟩, ⟨"Weights", 22, 7, false, "", "", 96⟩] : Array Field).mapM (fun f => do pure (f.offset, ← sizeOf f.type) : Field → Sem (Nat × Nat))).run Tryz.prog w = .ok #[(0, 1), (1, 1), (2, 1), (3, 1), (4, 1), (5, 1), (6, 1), (7, 1)] w := fun _ => by kernel_rfl
def Qv8:(∀F w,QO ([tv (.string (sB ([]:Str))),tv (.string (sB ([]:Str))),tv (.string (sB ([]:Str))),ti (0:Int),ti (0:Int),ti (0:Int),tsl rS ([]:(List Str)),tvs nilV]) F w ((.agg #[(.string .empty),(.string .empty),(.string .empty),(.int .i64 0),(.int .i64 0),(.int .i64 0),(.slice none 0 0),(.slice none 0 0)]):Value).cells.toList)/\([tv (.string (sB ([]:Str))),tv (.string (sB ([]:Str))),tv (.string (sB ([]:Str))),ti (0:Int),ti (0:Int),ti (0:Int),tsl rS ([]:(List Str)),tvs nilV]).length=8/\Qd.agg=true/\∃cs,((.agg #[(.string .empty),(.string .empty),(.string .empty),(.int .i64 0),(.int .i64 0),(.int .i64 0),(.slice none 0 0),(.slice none 0 0)]):Value)=.agg cs:=⟨λ_ _=>(.cons rfl (.cons rfl (.cons rfl (.cons rfl (.cons rfl (.cons rfl (.cons ⟨none,0,rfl,Nat.le_refl _,λh=>(h rfl).elim⟩ (.cons ⟨rfl,rfl⟩ .nil)))))))),rfl,rfl,_,rfl⟩
def Qkw:TOk prog 45 (rSl Qd) 24 (.slice none 0 0):=⟨⟨_,underlying45,rfl⟩,by kernel_rfl,rfl⟩
structure Qf where
  Xj:Str
  Lo:Int
  Hi:Int
  Xb:(List Qb)
deriving Inhabited
@[reducible] def Qg : Rep Qf := ⟨λx => ([tv (.string (sB x.Xj)),ti x.Lo,ti x.Hi,tsl Qd x.Xb]),4,true,λ_ => rfl,λ_ => (Qv (Q6 rfl) (Qv (Q6 rfl) (Qv (Q6 rfl) (Qv QbV Qaa)))),λh => (by cases h)⟩
theorem Qda:TOk prog 47 Qg 56 (.agg #[(.string .empty),(.int .i64 0),(.int .i64 0),(.slice none 0 0)]):=⟨⟨_,underlying47,rfl⟩,by kernel_rfl,rfl⟩
def zc47:∀F w,QO (Qg.cs (Qf.mk ([]:Str) (0:Int) (0:Int) ([]:(List Qb)))) F w ((.agg #[(.string .empty),(.int .i64 0),(.int .i64 0),(.slice none 0 0)]):Value).cells.toList:=λ_ _=>(.cons rfl (.cons rfl (.cons rfl (.cons ⟨none,0,rfl,Nat.le_refl _,λh=>(h rfl).elim⟩ .nil))))
def zok47:∀F w,(Qg.ty (Qf.mk ([]:Str) (0:Int) (0:Int) ([]:(List Qb)))).ok F w (.agg #[(.string .empty),(.int .i64 0),(.int .i64 0),(.slice none 0 0)]):=λF w=>⟨_,rfl,zc47 F w⟩
def zv47:(prog.info? 47).bind (·.zero)=some (.agg #[(.string .empty),(.int .i64 0),(.int .i64 0),(.slice none 0 0)]):=by kernel_rfl
def pl47 : ∀ w, ((#[⟨"Name", 9, 0, false, "", "", 0⟩, ⟨"Lo", 3, 1, false, "", "", 16⟩, ⟨"Hi", 3, 2, false, "", "", 24⟩, ⟨"Fields", 45, 3, false, "", "", 32⟩] : Array Field).mapM (fun f => do pure (f.offset, ← sizeOf f.type) : Field → Sem (Nat × Nat))).run Tryz.prog w = .ok #[(0, 1), (1, 1), (2, 1), (3, 1)] w := fun _ => by kernel_rfl
def Qv9:(∀F w,QO ([tv (.string (sB ([]:Str))),ti (0:Int),ti (0:Int),tvs nilV]) F w ((.agg #[(.string .empty),(.int .i64 0),(.int .i64 0),(.slice none 0 0)]):Value).cells.toList)/\([tv (.string (sB ([]:Str))),ti (0:Int),ti (0:Int),tvs nilV]).length=4/\Qg.agg=true/\∃cs,((.agg #[(.string .empty),(.int .i64 0),(.int .i64 0),(.slice none 0 0)]):Value)=.agg cs:=⟨λ_ _=>(.cons rfl (.cons rfl (.cons rfl (.cons ⟨rfl,rfl⟩ .nil)))),rfl,rfl,_,rfl⟩
def QlE:TOk prog 29 (rSl Qg) 24 (.slice none 0 0):=⟨⟨_,underlying29,rfl⟩,by kernel_rfl,rfl⟩
structure QF where
  a0:Int
  a1:Int
deriving Inhabited
@[reducible] def Qai : Rep QF := ⟨λx => ([ti x.a0,ti x.a1]),2,true,λ_ => rfl,λ_ => (Qv (Q6 rfl) (Qv (Q6 rfl) Qaa)),λh => (by cases h)⟩
theorem Qk8:TOk prog 112 Qai 16 (.agg #[(.int .i64 0),(.int .i64 0)]):=⟨⟨_,underlying112,rfl⟩,by kernel_rfl,rfl⟩
def zc112:∀F w,QO (Qai.cs (QF.mk (0:Int) (0:Int))) F w ((.agg #[(.int .i64 0),(.int .i64 0)]):Value).cells.toList:=λ_ _=>(.cons rfl (.cons rfl .nil))
def zok112:∀F w,(Qai.ty (QF.mk (0:Int) (0:Int))).ok F w (.agg #[(.int .i64 0),(.int .i64 0)]):=λF w=>⟨_,rfl,zc112 F w⟩
def QlF (p q:QF):Bool:=p.a0==q.a0&&p.a1==q.a1
set_option maxHeartbeats 2000000 in
def Qwa (n:Nat) (a0 b0:Int) (a1 b1:Int) (w:World):(Op.equalIn (n+2) 112 (.agg #[.int .i64 a0,.int .i64 a1]) (.agg #[.int .i64 b0,.int .i64 b1])).run prog w=.ok (a0==b0&&a1==b1) w:=by
  obtain⟨ie,hie,_,hse,_⟩:=tok3.info;have hse1:ie.size=1:=hse;have e3:∀x y:Int,(Op.equalIn (n+1) 3 (.int .i64 x) (.int .i64 y)).run prog w=.ok (x==y) w:=λx y=>by simp[Op.equalIn,run_underlying underlying3]
  have pt:∀(xs:Array Value) (i:Nat) (v:Value),xs[i]?=some v->(part 3 xs i).run prog w=.ok v w:=λxs i v h=>by simp[part,isAgg,run_underlying underlying3,h]
  have p0:∀u0 u1:Int,(part 3 #[.int .i64 u0,.int .i64 u1] 0).run prog w=.ok (.int .i64 u0) w:=λ_ _=>pt _ 0 _ rfl;have p1:∀u0 u1:Int,(part 3 #[.int .i64 u0,.int .i64 u1] 1).run prog w=.ok (.int .i64 u1) w:=λ_ _=>pt _ 1 _ rfl;unfold Op.equalIn;simp only[Sem.run_bind,run_underlying underlying112,Result.andThen_ok,sizeOf,typeInfo,run_program,hie,Sem.run_pure,hse1,Nat.mul_one];simp[range',p0,p1,e3];by_cases h0:a0=b0<;>by_cases h1:a1=b1<;>simp[h0,h1,p0,p1,e3]
def QsP:prog.eqGuardType prog.depth 112=false:=by kernel_rfl
def Qrs {Γ:List (Nat×Ty)} {d:Option Tmp} {ty t2:TypeId} {pos:String} {af:Array Edge} {g:Option (Nat×Bool)} {x y:Operand} {p q:QF} (hx:Fct Γ x (Qai.ty p)) (hy:Fct Γ y (Qai.ty q)):
    OpJ prog ⟨d,.binOp .neq 112 x y t2,ty,pos,af,g⟩ Γ [] [] (λ_=>[]) (λ_=>tv (.bool (!QlF p q))):=
  Qcl (u:=.agg #[.int .i64 p.a0,.int .i64 p.a1]) (v:=.agg #[.int .i64 q.a0,.int .i64 q.a1]) (hx.Xp λ_ _ _ h=>by obtain⟨us,hv,hc⟩:=h;rw[hv];exact Qid hc [.int .i64 p.a0,.int .i64 p.a1] rfl) (hy.Xp λ_ _ _ h=>by obtain⟨us,hv,hc⟩:=h;rw[hv];exact Qid hc [.int .i64 q.a0,.int .i64 q.a1] rfl) λw=>by have:=Qwa 9998 p.a0 q.a0 p.a1 q.a1 w;simp only[eqGuard,binOp,Op.equal,run_program,QsP,Sem.run_bind,Result.andThen_ok];simp[Op.maxDepth,this,QlF]
def QsQ:TOk prog 77 (rSl Qai) 24 (.slice none 0 0):=⟨⟨_,underlying77,rfl⟩,by kernel_rfl,rfl⟩
structure Qs where
  Xj:Str
  Xe:(List Str)
  Xg:(List QF)
deriving Inhabited
@[reducible] def Qn : Rep Qs := ⟨λx => ([tv (.string (sB x.Xj)),tsl rS x.Xe,tsl Qai x.Xg]),3,true,λ_ => rfl,λ_ => (Qv (Q6 rfl) (Qv QbV (Qv QbV Qaa))),λh => (by cases h)⟩
theorem Qn6:TOk prog 111 Qn 64 (.agg #[(.string .empty),(.slice none 0 0),(.slice none 0 0)]):=⟨⟨_,underlying111,rfl⟩,by kernel_rfl,rfl⟩
def zc111:∀F w,QO (Qn.cs (Qs.mk ([]:Str) ([]:(List Str)) ([]:(List QF)))) F w ((.agg #[(.string .empty),(.slice none 0 0),(.slice none 0 0)]):Value).cells.toList:=λ_ _=>(.cons rfl (.cons ⟨none,0,rfl,Nat.le_refl _,λh=>(h rfl).elim⟩ (.cons ⟨none,0,rfl,Nat.le_refl _,λh=>(h rfl).elim⟩ .nil)))
def Qt5:∀F w,(Qn.ty (Qs.mk ([]:Str) ([]:(List Str)) ([]:(List QF)))).ok F w (.agg #[(.string .empty),(.slice none 0 0),(.slice none 0 0)]):=λF w=>⟨_,rfl,zc111 F w⟩
def zv111:(prog.info? 111).bind (·.zero)=some (.agg #[(.string .empty),(.slice none 0 0),(.slice none 0 0)]):=by kernel_rfl
def pl111 : ∀ w, ((#[⟨"Name", 9, 0, false, "", "", 0⟩, ⟨"States", 25, 1, false, "", "", 16⟩, ⟨"Moves", 77, 2, false, "", "", 40⟩] : Array Field).mapM (fun f => do pure (f.offset, ← sizeOf f.type) : Field → Sem (Nat × Nat))).run Tryz.prog w = .ok #[(0, 1), (1, 1), (2, 1)] w := fun _ => by kernel_rfl
def Qt6:(∀F w,QO ([tv (.string (sB ([]:Str))),tsl rS ([]:(List Str)),tvs nilV]) F w ((.agg #[(.string .empty),(.slice none 0 0),(.slice none 0 0)]):Value).cells.toList)/\([tv (.string (sB ([]:Str))),tsl rS ([]:(List Str)),tvs nilV]).length=3/\Qn.agg=true/\∃cs,((.agg #[(.string .empty),(.slice none 0 0),(.slice none 0 0)]):Value)=.agg cs:=⟨λ_ _=>(.cons rfl (.cons ⟨none,0,rfl,Nat.le_refl _,λh=>(h rfl).elim⟩ (.cons ⟨rfl,rfl⟩ .nil))),rfl,rfl,_,rfl⟩
def QsR:TOk prog 30 (rSl Qn) 24 (.slice none 0 0):=⟨⟨_,underlying30,rfl⟩,by kernel_rfl,rfl⟩
structure Qh where
  Xj:Str
  Xi:Str
  A:Str
  B:Str
  N:Int
deriving Inhabited
@[reducible] def Qk : Rep Qh := ⟨λx => ([tv (.string (sB x.Xj)),tv (.string (sB x.Xi)),tv (.string (sB x.A)),tv (.string (sB x.B)),ti x.N]),5,true,λ_ => rfl,λ_ => (Qv (Q6 rfl) (Qv (Q6 rfl) (Qv (Q6 rfl) (Qv (Q6 rfl) (Qv (Q6 rfl) Qaa))))),λh => (by cases h)⟩
theorem Qdb:TOk prog 104 Qk 72 (.agg #[(.string .empty),(.string .empty),(.string .empty),(.string .empty),(.int .i64 0)]):=⟨⟨_,underlying104,rfl⟩,by kernel_rfl,rfl⟩
def QsS:∀F w,QO (Qk.cs (Qh.mk ([]:Str) ([]:Str) ([]:Str) ([]:Str) (0:Int))) F w ((.agg #[(.string .empty),(.string .empty),(.string .empty),(.string .empty),(.int .i64 0)]):Value).cells.toList:=λ_ _=>(.cons rfl (.cons rfl (.cons rfl (.cons rfl (.cons rfl .nil)))))
def Qqx:∀F w,(Qk.ty (Qh.mk ([]:Str) ([]:Str) ([]:Str) ([]:Str) (0:Int))).ok F w (.agg #[(.string .empty),(.string .empty),(.string .empty),(.string .empty),(.int .i64 0)]):=λF w=>⟨_,rfl,QsS F w⟩
def zv104:(prog.info? 104).bind (·.zero)=some (.agg #[(.string .empty),(.string .empty),(.string .empty),(.string .empty),(.int .i64 0)]):=by kernel_rfl
def pl104 : ∀ w, ((#[⟨"Name", 9, 0, false, "", "", 0⟩, ⟨"Kind", 9, 1, false, "", "", 16⟩, ⟨"A", 9, 2, false, "", "", 32⟩, ⟨"B", 9, 3, false, "", "", 48⟩, ⟨"N", 3, 4, false, "", "", 64⟩] : Array Field).mapM (fun f => do pure (f.offset, ← sizeOf f.type) : Field → Sem (Nat × Nat))).run Tryz.prog w = .ok #[(0, 1), (1, 1), (2, 1), (3, 1), (4, 1)] w := fun _ => by kernel_rfl
def Qi3 (p q:Qh):Bool:=p.Xj==q.Xj&&p.Xi==q.Xi&&p.A==q.A&&p.B==q.B&&p.N==q.N
set_option maxHeartbeats 2000000 in
def Qwb (n:Nat) (a0 b0:Str) (a1 b1:Str) (a2 b2:Str) (a3 b3:Str) (a4 b4:Int) (w:World):(Op.equalIn (n+2) 104 (.agg #[.string (sB a0),.string (sB a1),.string (sB a2),.string (sB a3),.int .i64 a4]) (.agg #[.string (sB b0),.string (sB b1),.string (sB b2),.string (sB b3),.int .i64 b4])).run prog w=.ok (a0==b0&&a1==b1&&a2==b2&&a3==b3&&a4==b4) w:=by
  have hs:prog.stoodInHeld 104=false:=by kernel_rfl
  simp only[Op.equalIn,Sem.run_bind,run_underlying underlying104,run_underlying underlying3,run_underlying underlying9,Result.andThen_ok,run_program,hs];simp[run_underlying underlying104,run_underlying underlying3,run_underlying underlying9,part,isAgg,Op.equalIn,sizeOf,typeInfo];cases h0:(a0==b0)<;>cases h1:(a1==b1)<;>cases h2:(a2==b2)<;>cases h3:(a3==b3)<;>cases h4:(a4==b4)<;>simp_all[Op.equalIn,run_underlying underlying104,run_underlying underlying3,run_underlying underlying9,part,isAgg,sB_beq]
def QsT:prog.eqGuardType prog.depth 104=false:=by kernel_rfl
def Qrt {Γ:List (Nat×Ty)} {d:Option Tmp} {ty t2:TypeId} {pos:String} {af:Array Edge} {g:Option (Nat×Bool)} {x y:Operand} {p q:Qh} (hx:Fct Γ x (Qk.ty p)) (hy:Fct Γ y (Qk.ty q)):
    OpJ prog ⟨d,.binOp .neq 104 x y t2,ty,pos,af,g⟩ Γ [] [] (λ_=>[]) (λ_=>tv (.bool (!Qi3 p q))):=
  Qcl (u:=.agg #[.string (sB p.Xj),.string (sB p.Xi),.string (sB p.A),.string (sB p.B),.int .i64 p.N]) (v:=.agg #[.string (sB q.Xj),.string (sB q.Xi),.string (sB q.A),.string (sB q.B),.int .i64 q.N]) (hx.Xp λ_ _ _ h=>by obtain⟨us,hv,hc⟩:=h;rw[hv];exact Qid hc [.string (sB p.Xj),.string (sB p.Xi),.string (sB p.A),.string (sB p.B),.int .i64 p.N] rfl) (hy.Xp λ_ _ _ h=>by obtain⟨us,hv,hc⟩:=h;rw[hv];exact Qid hc [.string (sB q.Xj),.string (sB q.Xi),.string (sB q.A),.string (sB q.B),.int .i64 q.N] rfl) λw=>by have:=Qwb 9998 p.Xj q.Xj p.Xi q.Xi p.A q.A p.B q.B p.N q.N w;simp only[eqGuard,binOp,Op.equal,run_program,QsT,Sem.run_bind,Result.andThen_ok];simp[Op.maxDepth,this,Qi3]
def QsU:TOk prog 31 (rSl Qk) 24 (.slice none 0 0):=⟨⟨_,underlying31,rfl⟩,by kernel_rfl,rfl⟩
structure Qe where
  Version:Int
  Xa:(List Qf)
  Xd:(List Qs)
  Xc:(List Qh)
deriving Inhabited
@[reducible] def Qc : Rep Qe := ⟨λx => ([ti x.Version,tsl Qg x.Xa,tsl Qn x.Xd,tsl Qk x.Xc]),4,true,λ_ => rfl,λ_ => (Qv (Q6 rfl) (Qv QbV (Qv QbV (Qv QbV Qaa)))),λh => (by cases h)⟩
theorem QbJ:TOk prog 33 Qc 80 (.agg #[(.int .i64 0),(.slice none 0 0),(.slice none 0 0),(.slice none 0 0)]):=⟨⟨_,underlying33,rfl⟩,by kernel_rfl,rfl⟩
def zc33:∀F w,QO (Qc.cs (Qe.mk (0:Int) ([]:(List Qf)) ([]:(List Qs)) ([]:(List Qh)))) F w ((.agg #[(.int .i64 0),(.slice none 0 0),(.slice none 0 0),(.slice none 0 0)]):Value).cells.toList:=λ_ _=>(.cons rfl (.cons ⟨none,0,rfl,Nat.le_refl _,λh=>(h rfl).elim⟩ (.cons ⟨none,0,rfl,Nat.le_refl _,λh=>(h rfl).elim⟩ (.cons ⟨none,0,rfl,Nat.le_refl _,λh=>(h rfl).elim⟩ .nil))))
def QpY:∀F w,(Qc.ty (Qe.mk (0:Int) ([]:(List Qf)) ([]:(List Qs)) ([]:(List Qh)))).ok F w (.agg #[(.int .i64 0),(.slice none 0 0),(.slice none 0 0),(.slice none 0 0)]):=λF w=>⟨_,rfl,zc33 F w⟩
def zv33:(prog.info? 33).bind (·.zero)=some (.agg #[(.int .i64 0),(.slice none 0 0),(.slice none 0 0),(.slice none 0 0)]):=by kernel_rfl
def pl33 : ∀ w, ((#[⟨"Version", 3, 0, false, "", "", 0⟩, ⟨"Kinds", 29, 1, false, "", "", 8⟩, ⟨"Lives", 30, 2, false, "", "", 32⟩, ⟨"Rules", 31, 3, false, "", "", 56⟩] : Array Field).mapM (fun f => do pure (f.offset, ← sizeOf f.type) : Field → Sem (Nat × Nat))).run Tryz.prog w = .ok #[(0, 1), (1, 1), (2, 1), (3, 1)] w := fun _ => by kernel_rfl
def Qqy:(∀F w,QO ([ti (0:Int),tvs nilV,tvs nilV,tvs nilV]) F w ((.agg #[(.int .i64 0),(.slice none 0 0),(.slice none 0 0),(.slice none 0 0)]):Value).cells.toList)/\([ti (0:Int),tvs nilV,tvs nilV,tvs nilV]).length=4/\Qc.agg=true/\∃cs,((.agg #[(.int .i64 0),(.slice none 0 0),(.slice none 0 0),(.slice none 0 0)]):Value)=.agg cs:=⟨λ_ _=>(.cons rfl (.cons ⟨rfl,rfl⟩ (.cons ⟨rfl,rfl⟩ (.cons ⟨rfl,rfl⟩ .nil)))),rfl,rfl,_,rfl⟩
def QsV:(∀F w,QO ([ti (0:Int),tvs nilV,tsl Qn ([]:(List Qs)),tvs nilV]) F w ((.agg #[(.int .i64 0),(.slice none 0 0),(.slice none 0 0),(.slice none 0 0)]):Value).cells.toList)/\([ti (0:Int),tvs nilV,tsl Qn ([]:(List Qs)),tvs nilV]).length=4/\Qc.agg=true/\∃cs,((.agg #[(.int .i64 0),(.slice none 0 0),(.slice none 0 0),(.slice none 0 0)]):Value)=.agg cs:=⟨λ_ _=>(.cons rfl (.cons ⟨rfl,rfl⟩ (.cons ⟨none,0,rfl,Nat.le_refl _,λh=>(h rfl).elim⟩ (.cons ⟨rfl,rfl⟩ .nil)))),rfl,rfl,_,rfl⟩
structure QV where
  A:Int
  B:Int
  N:Int
deriving Inhabited
@[reducible] def QaA : Rep QV := ⟨λx => ([ti x.A,ti x.B,ti x.N]),3,true,λ_ => rfl,λ_ => (Qv (Q6 rfl) (Qv (Q6 rfl) (Qv (Q6 rfl) Qaa))),λh => (by cases h)⟩
theorem QsW:TOk prog 64 QaA 24 (.agg #[(.int .i64 0),(.int .i64 0),(.int .i64 0)]):=⟨⟨_,underlying64,rfl⟩,by kernel_rfl,rfl⟩
def zc64:∀F w,QO (QaA.cs (QV.mk (0:Int) (0:Int) (0:Int))) F w ((.agg #[(.int .i64 0),(.int .i64 0),(.int .i64 0)]):Value).cells.toList:=λ_ _=>(.cons rfl (.cons rfl (.cons rfl .nil)))
def zok64:∀F w,(QaA.ty (QV.mk (0:Int) (0:Int) (0:Int))).ok F w (.agg #[(.int .i64 0),(.int .i64 0),(.int .i64 0)]):=λF w=>⟨_,rfl,zc64 F w⟩
def zv64:(prog.info? 64).bind (·.zero)=some (.agg #[(.int .i64 0),(.int .i64 0),(.int .i64 0)]):=by kernel_rfl
def pl64 : ∀ w, ((#[⟨"A", 3, 0, false, "", "", 0⟩, ⟨"B", 3, 1, false, "", "", 8⟩, ⟨"N", 3, 2, false, "", "", 16⟩] : Array Field).mapM (fun f => do pure (f.offset, ← sizeOf f.type) : Field → Sem (Nat × Nat))).run Tryz.prog w = .ok #[(0, 1), (1, 1), (2, 1)] w := fun _ => by kernel_rfl
structure QQ where
  Xi:Int
  Xj:Str
  Xu:QV
deriving Inhabited
@[reducible] def Qab : Rep QQ := ⟨λx => ([ti x.Xi,tv (.string (sB x.Xj))] ++ QaA.cs x.Xu),5,true,λ_ => rfl,λ_ => (Qj3 (Qv (Q6 rfl) (Qv (Q6 rfl) Qaa)) (Qj2 QaA)),λh => (by cases h)⟩
theorem Qkx:TOk prog 66 Qab 48 (.agg #[(.int .i64 0),(.string .empty),(.int .i64 0),(.int .i64 0),(.int .i64 0)]):=⟨⟨_,underlying66,rfl⟩,by kernel_rfl,rfl⟩
def zc66:∀F w,QO (Qab.cs (QQ.mk (0:Int) ([]:Str) (QV.mk (0:Int) (0:Int) (0:Int)))) F w ((.agg #[(.int .i64 0),(.string .empty),(.int .i64 0),(.int .i64 0),(.int .i64 0)]):Value).cells.toList:=λ_ _=>(.cons rfl (.cons rfl (.cons rfl (.cons rfl (.cons rfl .nil)))))
def zv66:(prog.info? 66).bind (·.zero)=some (.agg #[(.int .i64 0),(.string .empty),(.int .i64 0),(.int .i64 0),(.int .i64 0)]):=by kernel_rfl
def pl66 : ∀ w, ((#[⟨"Kind", 3, 0, false, "", "", 0⟩, ⟨"Name", 9, 1, false, "", "", 8⟩, ⟨"Diff", 64, 2, false, "", "", 24⟩] : Array Field).mapM (fun f => do pure (f.offset, ← sizeOf f.type) : Field → Sem (Nat × Nat))).run Tryz.prog w = .ok #[(0, 1), (1, 1), (2, 3)] w := fun _ => by kernel_rfl
def QsX:TOk prog 67 QaA 24 (.agg #[(.int .i64 0),(.int .i64 0),(.int .i64 0)]):=⟨⟨_,underlying67,rfl⟩,by kernel_rfl,rfl⟩
def zc67:∀F w,QO (QaA.cs (QV.mk (0:Int) (0:Int) (0:Int))) F w ((.agg #[(.int .i64 0),(.int .i64 0),(.int .i64 0)]):Value).cells.toList:=λ_ _=>(.cons rfl (.cons rfl (.cons rfl .nil)))
def zok67:∀F w,(QaA.ty (QV.mk (0:Int) (0:Int) (0:Int))).ok F w (.agg #[(.int .i64 0),(.int .i64 0),(.int .i64 0)]):=λF w=>⟨_,rfl,zc67 F w⟩
def zv67:(prog.info? 67).bind (·.zero)=some (.agg #[(.int .i64 0),(.int .i64 0),(.int .i64 0)]):=by kernel_rfl
def pl67 : ∀ w, ((#[⟨"A", 3, 0, false, "", "", 0⟩, ⟨"B", 3, 1, false, "", "", 8⟩, ⟨"N", 3, 2, false, "", "", 16⟩] : Array Field).mapM (fun f => do pure (f.offset, ← sizeOf f.type) : Field → Sem (Nat × Nat))).run Tryz.prog w = .ok #[(0, 1), (1, 1), (2, 1)] w := fun _ => by kernel_rfl
def tok68:TOk prog 68 (rSl (rSl rI)) 24 (.slice none 0 0):=⟨⟨_,underlying68,rfl⟩,by kernel_rfl,rfl⟩
structure Qx where
  A:Int
  B:Int
  Mul:Int
  Xh:Bool
deriving Inhabited
@[reducible] def QM : Rep Qx := ⟨λx => ([ti x.A,ti x.B,ti x.Mul,tb x.Xh]),4,true,λ_ => rfl,λ_ => (Qv (Q6 rfl) (Qv (Q6 rfl) (Qv (Q6 rfl) (Qv (Q6 rfl) Qaa)))),λh => (by cases h)⟩
theorem Qqz:TOk prog 146 QM 32 (.agg #[(.int .i64 0),(.int .i64 0),(.int .i64 0),(.bool false)]):=⟨⟨_,underlying146,rfl⟩,by kernel_rfl,rfl⟩
def zc146:∀F w,QO (QM.cs (Qx.mk (0:Int) (0:Int) (0:Int) false)) F w ((.agg #[(.int .i64 0),(.int .i64 0),(.int .i64 0),(.bool false)]):Value).cells.toList:=λ_ _=>(.cons rfl (.cons rfl (.cons rfl (.cons rfl .nil))))
def zok146:∀F w,(QM.ty (Qx.mk (0:Int) (0:Int) (0:Int) false)).ok F w (.agg #[(.int .i64 0),(.int .i64 0),(.int .i64 0),(.bool false)]):=λF w=>⟨_,rfl,zc146 F w⟩
def zv146:(prog.info? 146).bind (·.zero)=some (.agg #[(.int .i64 0),(.int .i64 0),(.int .i64 0),(.bool false)]):=by kernel_rfl
def pl146 : ∀ w, ((#[⟨"A", 3, 0, false, "", "", 0⟩, ⟨"B", 3, 1, false, "", "", 8⟩, ⟨"Mul", 3, 2, false, "", "", 16⟩, ⟨"Least", 4, 3, false, "", "", 24⟩] : Array Field).mapM (fun f => do pure (f.offset, ← sizeOf f.type) : Field → Sem (Nat × Nat))).run Tryz.prog w = .ok #[(0, 1), (1, 1), (2, 1), (3, 1)] w := fun _ => by kernel_rfl
def Qm5:TOk prog 75 (rSl QM) 24 (.slice none 0 0):=⟨⟨_,underlying75,rfl⟩,by kernel_rfl,rfl⟩
structure QE where
  kind:Int
  name:Str
  Xu:QV
deriving Inhabited
@[reducible] def QU : Rep QE := ⟨λx => ([ti x.kind,tv (.string (sB x.name))] ++ QaA.cs x.Xu),5,true,λ_ => rfl,λ_ => (Qj3 (Qv (Q6 rfl) (Qv (Q6 rfl) Qaa)) (Qj2 QaA)),λh => (by cases h)⟩
theorem Qk9:TOk prog 119 QU 48 (.agg #[(.int .i64 0),(.string .empty),(.int .i64 0),(.int .i64 0),(.int .i64 0)]):=⟨⟨_,underlying119,rfl⟩,by kernel_rfl,rfl⟩
def Qn7:∀F w,QO (QU.cs (QE.mk (0:Int) ([]:Str) (QV.mk (0:Int) (0:Int) (0:Int)))) F w ((.agg #[(.int .i64 0),(.string .empty),(.int .i64 0),(.int .i64 0),(.int .i64 0)]):Value).cells.toList:=λ_ _=>(.cons rfl (.cons rfl (.cons rfl (.cons rfl (.cons rfl .nil)))))
def zok119:∀F w,(QU.ty (QE.mk (0:Int) ([]:Str) (QV.mk (0:Int) (0:Int) (0:Int)))).ok F w (.agg #[(.int .i64 0),(.string .empty),(.int .i64 0),(.int .i64 0),(.int .i64 0)]):=λF w=>⟨_,rfl,Qn7 F w⟩
def QpZ:(prog.info? 119).bind (·.zero)=some (.agg #[(.int .i64 0),(.string .empty),(.int .i64 0),(.int .i64 0),(.int .i64 0)]):=by kernel_rfl
def Qp0 : ∀ w, ((#[⟨"kind", 3, 0, false, "", "diorama/core", 0⟩, ⟨"name", 9, 1, false, "", "diorama/core", 8⟩, ⟨"Diff", 67, 2, true, "", "", 24⟩] : Array Field).mapM (fun f => do pure (f.offset, ← sizeOf f.type) : Field → Sem (Nat × Nat))).run Tryz.prog w = .ok #[(0, 1), (1, 1), (2, 3)] w := fun _ => by kernel_rfl
def tok76:TOk prog 76 (rSl QU) 24 (.slice none 0 0):=⟨⟨_,underlying76,rfl⟩,by kernel_rfl,rfl⟩
structure Qau where
  x:Qe
  Xo:(List Qx)
  Xt:(List QE)
  refs:(List QF)
deriving Inhabited
@[reducible] def QS : Rep Qau := ⟨λx => (Qc.cs x.x ++ [tsl QM x.Xo,tsl QU x.Xt,tsl Qai x.refs]),7,true,λ_ => rfl,λ_ => (Qj3 (Qj2 Qc) (Qv QbV (Qv QbV (Qv QbV Qaa)))),λh => (by cases h)⟩
theorem zv79:(prog.info? 79).bind (·.zero)=some (.agg #[(.int .i64 0),(.slice none 0 0),(.slice none 0 0),(.slice none 0 0),(.slice none 0 0),(.slice none 0 0),(.slice none 0 0)]):=by kernel_rfl
def pl79 : ∀ w, ((#[⟨"x", 33, 0, false, "", "diorama/core", 0⟩, ⟨"limits", 75, 4, false, "", "diorama/core", 80⟩, ⟨"diffs", 76, 5, false, "", "diorama/core", 104⟩, ⟨"refs", 77, 6, false, "", "diorama/core", 128⟩] : Array Field).mapM (fun f => do pure (f.offset, ← sizeOf f.type) : Field → Sem (Nat × Nat))).run Tryz.prog w = .ok #[(0, 4), (4, 1), (5, 1), (6, 1)] w := fun _ => by kernel_rfl
def Qwc:(∀F w,QO (Qc.cs (Qe.mk (0:Int) ([]:(List Qf)) ([]:(List Qs)) ([]:(List Qh)))++[tsl QM ([]:(List Qx)),tsl QU ([]:(List QE)),tvs nilV]) F w ((.agg #[(.int .i64 0),(.slice none 0 0),(.slice none 0 0),(.slice none 0 0),(.slice none 0 0),(.slice none 0 0),(.slice none 0 0)]):Value).cells.toList)/\(Qc.cs (Qe.mk (0:Int) ([]:(List Qf)) ([]:(List Qs)) ([]:(List Qh)))++[tsl QM ([]:(List Qx)),tsl QU ([]:(List QE)),tvs nilV]).length=7/\QS.agg=true/\∃cs,((.agg #[(.int .i64 0),(.slice none 0 0),(.slice none 0 0),(.slice none 0 0),(.slice none 0 0),(.slice none 0 0),(.slice none 0 0)]):Value)=.agg cs:=⟨λ_ _=>(.cons rfl (.cons ⟨none,0,rfl,Nat.le_refl _,λh=>(h rfl).elim⟩ (.cons ⟨none,0,rfl,Nat.le_refl _,λh=>(h rfl).elim⟩ (.cons ⟨none,0,rfl,Nat.le_refl _,λh=>(h rfl).elim⟩ (.cons ⟨none,0,rfl,Nat.le_refl _,λh=>(h rfl).elim⟩ (.cons ⟨none,0,rfl,Nat.le_refl _,λh=>(h rfl).elim⟩ (.cons ⟨rfl,rfl⟩ .nil))))))),rfl,rfl,_,rfl⟩
def QjP:TOk prog 73 (rPtr QS) 8 (.pointer none):=⟨⟨_,underlying73,rfl⟩,by kernel_rfl,rfl⟩
@[reducible] def tF81 (p : (Int -> Option Bool)) : Ty := tfn prog [] (A := Int) (B := Bool) (λx => [ti x]) (λy => tb y) (p)
@[reducible] def rF81 : Rep (Int -> Option Bool) := ⟨λp => [tF81 p],1,false,λ_ => rfl,λ_ => Qv Qbp Qaa,λ_ => rfl⟩
theorem QsY:TOk prog 81 rF81 8 .nilFunc:=⟨⟨_,underlying81,rfl⟩,by kernel_rfl,rfl⟩
def Qi4:TOk prog 86 (rInt .u64) 8 (.int .u64 0):=⟨⟨_,underlying86,rfl⟩,by kernel_rfl,rfl⟩
def zok86:∀F w,((rInt .u64).ty (0:Int)).ok F w (.int .u64 0):=λ_ _=>rfl
structure QC where
  L:(List Int)
  I:Int
deriving Inhabited
@[reducible] def Qw : Rep QC := ⟨λx => ([tsl rI x.L,ti x.I]),2,true,λ_ => rfl,λ_ => (Qv QbV (Qv (Q6 rfl) Qaa)),λh => (by cases h)⟩
theorem Qt7:TOk prog 107 Qw 32 (.agg #[(.slice none 0 0),(.int .i64 0)]):=⟨⟨_,underlying107,rfl⟩,by kernel_rfl,rfl⟩
def zc107:∀F w,QO (Qw.cs (QC.mk ([]:(List Int)) (0:Int))) F w ((.agg #[(.slice none 0 0),(.int .i64 0)]):Value).cells.toList:=λ_ _=>(.cons ⟨none,0,rfl,Nat.le_refl _,λh=>(h rfl).elim⟩ (.cons rfl .nil))
def zv107:(prog.info? 107).bind (·.zero)=some (.agg #[(.slice none 0 0),(.int .i64 0)]):=by kernel_rfl
def pl107 : ∀ w, ((#[⟨"L", 22, 0, false, "", "", 0⟩, ⟨"I", 3, 1, false, "", "", 24⟩] : Array Field).mapM (fun f => do pure (f.offset, ← sizeOf f.type) : Field → Sem (Nat × Nat))).run Tryz.prog w = .ok #[(0, 1), (1, 1)] w := fun _ => by kernel_rfl
@[reducible] def tF130 (p : (Qh -> Option Bool)) : Ty := tfn prog [] (A := Qh) (B := Bool) (λx => [Qk.ty x]) (λy => tb y) (p)
@[reducible] def Qi5 : Rep (Qh -> Option Bool) := ⟨λp => [tF130 p],1,false,λ_ => rfl,λ_ => Qv Qbp Qaa,λ_ => rfl⟩
theorem tok130:TOk prog 130 Qi5 8 .nilFunc:=⟨⟨_,underlying130,rfl⟩,by kernel_rfl,rfl⟩
@[reducible] def tF133 (p : (Qb -> Qb -> Option Bool)) : Ty := tfn prog [] (A := Qb × Qb) (B := Bool) (λx => [Qd.ty x.1,Qd.ty x.2]) (λy => tb y) (λx => p x.1 x.2)
@[reducible] def Qp1 : Rep (Qb -> Qb -> Option Bool) := ⟨λp => [tF133 p],1,false,λ_ => rfl,λ_ => Qv Qbp Qaa,λ_ => rfl⟩
@[reducible] def Qt9 : Rep (Option (Qb -> Qb -> Option Bool)) := ⟨λp => [tfo (tF133) p],1,false,λ_ => rfl,λ_ => Qv (QeB (λ_ => Qbp)) Qaa,λ_ => rfl⟩
theorem tok133:TOk prog 133 Qp1 8 .nilFunc:=⟨⟨_,underlying133,rfl⟩,by kernel_rfl,rfl⟩
def zok133:∀F w,(Qt9.ty none).ok F w .nilFunc:=λ_ _=>rfl
@[reducible] def tF134 (p : (Qf -> Qf -> Option Bool)) : Ty := tfn prog [] (A := Qf × Qf) (B := Bool) (λx => [Qg.ty x.1,Qg.ty x.2]) (λy => tb y) (λx => p x.1 x.2)
@[reducible] def Qp2 : Rep (Qf -> Qf -> Option Bool) := ⟨λp => [tF134 p],1,false,λ_ => rfl,λ_ => Qv Qbp Qaa,λ_ => rfl⟩
@[reducible] def Qua : Rep (Option (Qf -> Qf -> Option Bool)) := ⟨λp => [tfo (tF134) p],1,false,λ_ => rfl,λ_ => Qv (QeB (λ_ => Qbp)) Qaa,λ_ => rfl⟩
theorem tok134:TOk prog 134 Qp2 8 .nilFunc:=⟨⟨_,underlying134,rfl⟩,by kernel_rfl,rfl⟩
def zok134:∀F w,(Qua.ty none).ok F w .nilFunc:=λ_ _=>rfl
@[reducible] def tF137 (p : (Qs -> Qs -> Option Bool)) : Ty := tfn prog [] (A := Qs × Qs) (B := Bool) (λx => [Qn.ty x.1,Qn.ty x.2]) (λy => tb y) (λx => p x.1 x.2)
@[reducible] def Qp3 : Rep (Qs -> Qs -> Option Bool) := ⟨λp => [tF137 p],1,false,λ_ => rfl,λ_ => Qv Qbp Qaa,λ_ => rfl⟩
@[reducible] def Qub : Rep (Option (Qs -> Qs -> Option Bool)) := ⟨λp => [tfo (tF137) p],1,false,λ_ => rfl,λ_ => Qv (QeB (λ_ => Qbp)) Qaa,λ_ => rfl⟩
theorem tok137:TOk prog 137 Qp3 8 .nilFunc:=⟨⟨_,underlying137,rfl⟩,by kernel_rfl,rfl⟩
def zok137:∀F w,(Qub.ty none).ok F w .nilFunc:=λ_ _=>rfl
structure Qr where
  Xi:Int
  Field:Int
  Rule:Int
  Code:Int
deriving Inhabited
@[reducible] def Q7 : Rep Qr := ⟨λx => ([ti x.Xi,ti x.Field,ti x.Rule,ti x.Code]),4,true,λ_ => rfl,λ_ => (Qv (Q6 rfl) (Qv (Q6 rfl) (Qv (Q6 rfl) (Qv (Q6 rfl) Qaa)))),λh => (by cases h)⟩
theorem Quc:TOk prog 149 Q7 32 (.agg #[(.int .i64 0),(.int .i64 0),(.int .i64 0),(.int .i64 0)]):=⟨⟨_,underlying149,rfl⟩,by kernel_rfl,rfl⟩
def zc149:∀F w,QO (Q7.cs (Qr.mk (0:Int) (0:Int) (0:Int) (0:Int))) F w ((.agg #[(.int .i64 0),(.int .i64 0),(.int .i64 0),(.int .i64 0)]):Value).cells.toList:=λ_ _=>(.cons rfl (.cons rfl (.cons rfl (.cons rfl .nil))))
def zv149:(prog.info? 149).bind (·.zero)=some (.agg #[(.int .i64 0),(.int .i64 0),(.int .i64 0),(.int .i64 0)]):=by kernel_rfl
def pl149 : ∀ w, ((#[⟨"Kind", 3, 0, false, "", "", 0⟩, ⟨"Field", 3, 1, false, "", "", 8⟩, ⟨"Rule", 3, 2, false, "", "", 16⟩, ⟨"Code", 26, 3, false, "", "", 24⟩] : Array Field).mapM (fun f => do pure (f.offset, ← sizeOf f.type) : Field → Sem (Nat × Nat))).run Tryz.prog w = .ok #[(0, 1), (1, 1), (2, 1), (3, 1)] w := fun _ => by kernel_rfl
@[reducible] def tF152 (p : (Qs -> Option Bool)) : Ty := tfn prog [] (A := Qs) (B := Bool) (λx => [Qn.ty x]) (λy => tb y) (p)
@[reducible] def QlG : Rep (Qs -> Option Bool) := ⟨λp => [tF152 p],1,false,λ_ => rfl,λ_ => Qv Qbp Qaa,λ_ => rfl⟩
theorem tok152:TOk prog 152 QlG 8 .nilFunc:=⟨⟨_,underlying152,rfl⟩,by kernel_rfl,rfl⟩
structure QK where
  is:Bool
  code:Int
deriving Inhabited
@[reducible] def Qbq : Rep QK := ⟨λx => ([tb x.is,ti x.code]),2,true,λ_ => rfl,λ_ => (Qv (Q6 rfl) (Qv (Q6 rfl) Qaa)),λh => (by cases h)⟩
theorem QqA:TOk prog 155 Qbq 16 (.agg #[(.bool false),(.int .i64 0)]):=⟨⟨_,underlying155,rfl⟩,by kernel_rfl,rfl⟩
def QsZ:∀F w,QO (Qbq.cs (QK.mk false (0:Int))) F w ((.agg #[(.bool false),(.int .i64 0)]):Value).cells.toList:=λ_ _=>(.cons rfl (.cons rfl .nil))
def zok155:∀F w,(Qbq.ty (QK.mk false (0:Int))).ok F w (.agg #[(.bool false),(.int .i64 0)]):=λF w=>⟨_,rfl,QsZ F w⟩
def zv155:(prog.info? 155).bind (·.zero)=some (.agg #[(.bool false),(.int .i64 0)]):=by kernel_rfl
def pl155 : ∀ w, ((#[⟨"is", 4, 0, false, "", "diorama/typing", 0⟩, ⟨"code", 26, 1, false, "", "diorama/typing", 8⟩] : Array Field).mapM (fun f => do pure (f.offset, ← sizeOf f.type) : Field → Sem (Nat × Nat))).run Tryz.prog w = .ok #[(0, 1), (1, 1)] w := fun _ => by kernel_rfl
structure QR where
  x:Qe
  kind:Int
  field:Int
  f:Qb
deriving Inhabited
@[reducible] def QaG : Rep QR := ⟨λx => (Qc.cs x.x ++ [ti x.kind,ti x.field] ++ Qd.cs x.f),14,true,λ_ => rfl,λ_ => (Qj3 (Qj3 (Qj2 Qc) (Qv (Q6 rfl) (Qv (Q6 rfl) Qaa))) (Qj2 Qd)),λh => (by cases h)⟩
theorem Que:TOk prog 163 QaG 216 (.agg #[(.int .i64 0),(.slice none 0 0),(.slice none 0 0),(.slice none 0 0),(.int .i64 0),(.int .i64 0),(.string .empty),(.string .empty),(.string .empty),(.int .i64 0),(.int .i64 0),(.int .i64 0),(.slice none 0 0),(.slice none 0 0)]):=⟨⟨_,underlying163,rfl⟩,by kernel_rfl,rfl⟩
def zc163:∀F w,QO (QaG.cs (QR.mk (Qe.mk (0:Int) ([]:(List Qf)) ([]:(List Qs)) ([]:(List Qh))) (0:Int) (0:Int) (Qb.mk ([]:Str) ([]:Str) ([]:Str) (0:Int) (0:Int) (0:Int) ([]:(List Str)) ([]:(List Int))))) F w ((.agg #[(.int .i64 0),(.slice none 0 0),(.slice none 0 0),(.slice none 0 0),(.int .i64 0),(.int .i64 0),(.string .empty),(.string .empty),(.string .empty),(.int .i64 0),(.int .i64 0),(.int .i64 0),(.slice none 0 0),(.slice none 0 0)]):Value).cells.toList:=λ_ _=>(.cons rfl (.cons ⟨none,0,rfl,Nat.le_refl _,λh=>(h rfl).elim⟩ (.cons ⟨none,0,rfl,Nat.le_refl _,λh=>(h rfl).elim⟩ (.cons ⟨none,0,rfl,Nat.le_refl _,λh=>(h rfl).elim⟩ (.cons rfl (.cons rfl (.cons rfl (.cons rfl (.cons rfl (.cons rfl (.cons rfl (.cons rfl (.cons ⟨none,0,rfl,Nat.le_refl _,λh=>(h rfl).elim⟩ (.cons ⟨none,0,rfl,Nat.le_refl _,λh=>(h rfl).elim⟩ .nil))))))))))))))
def zv163:(prog.info? 163).bind (·.zero)=some (.agg #[(.int .i64 0),(.slice none 0 0),(.slice none 0 0),(.slice none 0 0),(.int .i64 0),(.int .i64 0),(.string .empty),(.string .empty),(.string .empty),(.int .i64 0),(.int .i64 0),(.int .i64 0),(.slice none 0 0),(.slice none 0 0)]):=by kernel_rfl
def pl163 : ∀ w, ((#[⟨"x", 33, 0, false, "", "diorama/typing", 0⟩, ⟨"kind", 3, 4, false, "", "diorama/typing", 80⟩, ⟨"field", 3, 5, false, "", "diorama/typing", 88⟩, ⟨"f", 49, 6, false, "", "diorama/typing", 96⟩] : Array Field).mapM (fun f => do pure (f.offset, ← sizeOf f.type) : Field → Sem (Nat × Nat))).run Tryz.prog w = .ok #[(0, 4), (4, 1), (5, 1), (6, 8)] w := fun _ => by kernel_rfl
@[reducible] def tF158 (p : (QR -> Option Int)) : Ty := tfn prog [] (A := QR) (B := Int) (λx => [QaG.ty x]) (λy => ti y) (p)
@[reducible] def rF158 : Rep (QR -> Option Int) := ⟨λp => [tF158 p],1,false,λ_ => rfl,λ_ => Qv Qbp Qaa,λ_ => rfl⟩
@[reducible] def Qla : Rep (Option (QR -> Option Int)) := ⟨λp => [tfo (tF158) p],1,false,λ_ => rfl,λ_ => Qv (QeB (λ_ => Qbp)) Qaa,λ_ => rfl⟩
theorem Quf:TOk prog 158 rF158 8 .nilFunc:=⟨⟨_,underlying158,rfl⟩,by kernel_rfl,rfl⟩
def Qwd:TOk prog 158 Qla 8 .nilFunc:=⟨⟨_,underlying158,rfl⟩,by kernel_rfl,rfl⟩
structure QbY where
  check:(Option (QR->Option Int))
instance :Inhabited QbY:=⟨⟨none⟩⟩
@[reducible] def QcT : Rep QbY := ⟨λx => ([Qla.ty x.check]),1,true,λ_ => rfl,λ_ => (Qv (QeB (λ_ => Qbp)) Qaa),λh => (by cases h)⟩
theorem Qn8:TOk prog 159 QcT 8 (.agg #[.nilFunc]):=⟨⟨_,underlying159,rfl⟩,by kernel_rfl,rfl⟩
def zc159:∀F w,QO (QcT.cs (QbY.mk none)) F w ((.agg #[.nilFunc]):Value).cells.toList:=λ_ _=>(.cons rfl .nil)
def Qug:∀F w,(QcT.ty (QbY.mk none)).ok F w (.agg #[.nilFunc]):=λF w=>⟨_,rfl,zc159 F w⟩
def zv159:(prog.info? 159).bind (·.zero)=some (.agg #[.nilFunc]):=by kernel_rfl
structure QG where
  Xi:Int
  Field:Int
  Rule:Int
  Code:Int
deriving Inhabited
@[reducible] def Q0 : Rep QG := ⟨λx => ([ti x.Xi,ti x.Field,ti x.Rule,ti x.Code]),4,true,λ_ => rfl,λ_ => (Qv (Q6 rfl) (Qv (Q6 rfl) (Qv (Q6 rfl) (Qv (Q6 rfl) Qaa)))),λh => (by cases h)⟩
theorem Quh:TOk prog 182 Q0 32 (.agg #[(.int .i64 0),(.int .i64 0),(.int .i64 0),(.int .i64 0)]):=⟨⟨_,underlying182,rfl⟩,by kernel_rfl,rfl⟩
def zc182:∀F w,QO (Q0.cs (QG.mk (0:Int) (0:Int) (0:Int) (0:Int))) F w ((.agg #[(.int .i64 0),(.int .i64 0),(.int .i64 0),(.int .i64 0)]):Value).cells.toList:=λ_ _=>(.cons rfl (.cons rfl (.cons rfl (.cons rfl .nil))))
def zv182:(prog.info? 182).bind (·.zero)=some (.agg #[(.int .i64 0),(.int .i64 0),(.int .i64 0),(.int .i64 0)]):=by kernel_rfl
def pl182 : ∀ w, ((#[⟨"Kind", 3, 0, false, "", "", 0⟩, ⟨"Field", 3, 1, false, "", "", 8⟩, ⟨"Rule", 3, 2, false, "", "", 16⟩, ⟨"Code", 26, 3, false, "", "", 24⟩] : Array Field).mapM (fun f => do pure (f.offset, ← sizeOf f.type) : Field → Sem (Nat × Nat))).run Tryz.prog w = .ok #[(0, 1), (1, 1), (2, 1), (3, 1)] w := fun _ => by kernel_rfl
structure QT where
  A:Int
  B:Int
  Mul:Int
  Xh:Bool
deriving Inhabited
@[reducible] def QaS : Rep QT := ⟨λx => ([ti x.A,ti x.B,ti x.Mul,tb x.Xh]),4,true,λ_ => rfl,λ_ => (Qv (Q6 rfl) (Qv (Q6 rfl) (Qv (Q6 rfl) (Qv (Q6 rfl) Qaa)))),λh => (by cases h)⟩
theorem Qui:TOk prog 183 QaS 32 (.agg #[(.int .i64 0),(.int .i64 0),(.int .i64 0),(.bool false)]):=⟨⟨_,underlying183,rfl⟩,by kernel_rfl,rfl⟩
def zc183:∀F w,QO (QaS.cs (QT.mk (0:Int) (0:Int) (0:Int) false)) F w ((.agg #[(.int .i64 0),(.int .i64 0),(.int .i64 0),(.bool false)]):Value).cells.toList:=λ_ _=>(.cons rfl (.cons rfl (.cons rfl (.cons rfl .nil))))
def zv183:(prog.info? 183).bind (·.zero)=some (.agg #[(.int .i64 0),(.int .i64 0),(.int .i64 0),(.bool false)]):=by kernel_rfl
def pl183 : ∀ w, ((#[⟨"A", 3, 0, false, "", "", 0⟩, ⟨"B", 3, 1, false, "", "", 8⟩, ⟨"Mul", 3, 2, false, "", "", 16⟩, ⟨"Least", 4, 3, false, "", "", 24⟩] : Array Field).mapM (fun f => do pure (f.offset, ← sizeOf f.type) : Field → Sem (Nat × Nat))).run Tryz.prog w = .ok #[(0, 1), (1, 1), (2, 1), (3, 1)] w := fun _ => by kernel_rfl
@[reducible] def tF202 (p : (Qf -> Option Bool)) : Ty := tfn prog [] (A := Qf) (B := Bool) (λx => [Qg.ty x]) (λy => tb y) (p)
@[reducible] def QlH : Rep (Qf -> Option Bool) := ⟨λp => [tF202 p],1,false,λ_ => rfl,λ_ => Qv Qbp Qaa,λ_ => rfl⟩
theorem tok202:TOk prog 202 QlH 8 .nilFunc:=⟨⟨_,underlying202,rfl⟩,by kernel_rfl,rfl⟩
@[reducible] def tF208 (p : (Qb -> Option Bool)) : Ty := tfn prog [] (A := Qb) (B := Bool) (λx => [Qd.ty x]) (λy => tb y) (p)
@[reducible] def QlI : Rep (Qb -> Option Bool) := ⟨λp => [tF208 p],1,false,λ_ => rfl,λ_ => Qv Qbp Qaa,λ_ => rfl⟩
theorem tok208:TOk prog 208 QlI 8 .nilFunc:=⟨⟨_,underlying208,rfl⟩,by kernel_rfl,rfl⟩
structure Q5 where
  a:Int
  b:Int
  n:Int
deriving Inhabited
@[reducible] def Q1 : Rep Q5 := ⟨λx => ([ti x.a,ti x.b,ti x.n]),3,true,λ_ => rfl,λ_ => (Qv (Q6 rfl) (Qv (Q6 rfl) (Qv (Q6 rfl) Qaa))),λh => (by cases h)⟩
theorem QqB:TOk prog 212 Q1 24 (.agg #[(.int .i64 0),(.int .i64 0),(.int .i64 0)]):=⟨⟨_,underlying212,rfl⟩,by kernel_rfl,rfl⟩
def zc212:∀F w,QO (Q1.cs (Q5.mk (0:Int) (0:Int) (0:Int))) F w ((.agg #[(.int .i64 0),(.int .i64 0),(.int .i64 0)]):Value).cells.toList:=λ_ _=>(.cons rfl (.cons rfl (.cons rfl .nil)))
def zok212:∀F w,(Q1.ty (Q5.mk (0:Int) (0:Int) (0:Int))).ok F w (.agg #[(.int .i64 0),(.int .i64 0),(.int .i64 0)]):=λF w=>⟨_,rfl,zc212 F w⟩
def zv212:(prog.info? 212).bind (·.zero)=some (.agg #[(.int .i64 0),(.int .i64 0),(.int .i64 0)]):=by kernel_rfl
def pl212 : ∀ w, ((#[⟨"a", 3, 0, false, "", "diorama/bounds", 0⟩, ⟨"b", 3, 1, false, "", "diorama/bounds", 8⟩, ⟨"n", 3, 2, false, "", "diorama/bounds", 16⟩] : Array Field).mapM (fun f => do pure (f.offset, ← sizeOf f.type) : Field → Sem (Nat × Nat))).run Tryz.prog w = .ok #[(0, 1), (1, 1), (2, 1)] w := fun _ => by kernel_rfl
@[reducible] def tF233 (p : (Str -> Option Bool)) : Ty := tfn prog [] (A := Str) (B := Bool) (λx => [tv (.string (sB x))]) (λy => tb y) (p)
@[reducible] def QlJ : Rep (Str -> Option Bool) := ⟨λp => [tF233 p],1,false,λ_ => rfl,λ_ => Qv Qbp Qaa,λ_ => rfl⟩
theorem tok233:TOk prog 233 QlJ 8 .nilFunc:=⟨⟨_,underlying233,rfl⟩,by kernel_rfl,rfl⟩
@[reducible] def tF238 (p : (QF -> Option Bool)) : Ty := tfn prog [] (A := QF) (B := Bool) (λx => [Qai.ty x]) (λy => tb y) (p)
@[reducible] def QlK : Rep (QF -> Option Bool) := ⟨λp => [tF238 p],1,false,λ_ => rfl,λ_ => Qv Qbp Qaa,λ_ => rfl⟩
theorem tok238:TOk prog 238 QlK 8 .nilFunc:=⟨⟨_,underlying238,rfl⟩,by kernel_rfl,rfl⟩
@[reducible] def tF264 (p : (Int -> Option Bool)) : Ty := tfn prog [] (A := Int) (B := Bool) (λx => [tv (.int .u8 x)]) (λy => tb y) (p)
@[reducible] def Qn9 : Rep (Int -> Option Bool) := ⟨λp => [tF264 p],1,false,λ_ => rfl,λ_ => Qv Qbp Qaa,λ_ => rfl⟩
theorem QbB:TOk prog 22 rVal 24 (.slice none 0 0):=⟨⟨_,underlying22,rfl⟩,by kernel_rfl,rfl⟩
def Quo:TOk prog 25 rVal 24 (.slice none 0 0):=⟨⟨_,underlying25,rfl⟩,by kernel_rfl,rfl⟩
def Qgf:TOk prog 29 rVal 24 (.slice none 0 0):=⟨⟨_,underlying29,rfl⟩,by kernel_rfl,rfl⟩
def tokV30:TOk prog 30 rVal 24 (.slice none 0 0):=⟨⟨_,underlying30,rfl⟩,by kernel_rfl,rfl⟩
def Qlb:TOk prog 31 rVal 24 (.slice none 0 0):=⟨⟨_,underlying31,rfl⟩,by kernel_rfl,rfl⟩
def Qej:TOk prog 45 rVal 24 (.slice none 0 0):=⟨⟨_,underlying45,rfl⟩,by kernel_rfl,rfl⟩
def Qup:TOk prog 58 rVal 24 (.slice none 0 0):=⟨⟨_,underlying58,rfl⟩,by kernel_rfl,rfl⟩
def Qft:TOk prog 68 rVal 24 (.slice none 0 0):=⟨⟨_,underlying68,rfl⟩,by kernel_rfl,rfl⟩
def Quq:TOk prog 75 rVal 24 (.slice none 0 0):=⟨⟨_,underlying75,rfl⟩,by kernel_rfl,rfl⟩
def tokV77:TOk prog 77 rVal 24 (.slice none 0 0):=⟨⟨_,underlying77,rfl⟩,by kernel_rfl,rfl⟩
def Qif:TOk prog 22 (rSn rI) 24 (.slice none 0 0):=⟨⟨_,underlying22,rfl⟩,by kernel_rfl,rfl⟩
def zokN22:∀F w,((rSn rI).ty []).ok F w (.slice none 0 0):=λ_ _=>⟨⟨none,0,rfl,Nat.le_refl _,λh=>(h rfl).elim⟩,λ_=>rfl⟩
def tokN68:TOk prog 68 (rSl (rSn rI)) 24 (.slice none 0 0):=⟨⟨_,underlying68,rfl⟩,by kernel_rfl,rfl⟩
def QoG:QA prog 33 0 0:=QA.mk underlying33 rfl rfl tok3 (by decide)
def QcU:QA prog 33 1 1:=QA.mk underlying33 rfl rfl QlE (by decide)
def QrW:QA prog 33 2 2:=QA.mk underlying33 rfl rfl QsR (by decide)
def QiI:QA prog 33 3 3:=QA.mk underlying33 rfl rfl QsU (by decide)
def Qfu:QA prog 47 0 0:=QA.mk underlying47 rfl rfl tok9 (by decide)
def Qm6:QA prog 47 1 1:=QA.mk underlying47 rfl rfl tok3 (by decide)
def Qm7:QA prog 47 2 2:=QA.mk underlying47 rfl rfl tok3 (by decide)
def QbO:QA prog 47 3 3:=QA.mk underlying47 rfl rfl Qkw (by decide)
def Qj5:QA prog 49 0 0:=QA.mk underlying49 rfl rfl tok9 (by decide)
def QoH:QA prog 49 1 1:=QA.mk underlying49 rfl rfl tok9 (by decide)
def QrX:QA prog 49 2 2:=QA.mk underlying49 rfl rfl tok9 (by decide)
def QhZ:QA prog 49 3 3:=QA.mk underlying49 rfl rfl tok3 (by decide)
def Qj6:QA prog 49 4 4:=QA.mk underlying49 rfl rfl tok3 (by decide)
def Qj7:QA prog 49 5 5:=QA.mk underlying49 rfl rfl tok3 (by decide)
def QxY:QA prog 49 6 6:=QA.mk underlying49 rfl rfl QjO (by decide)
def QxZ:QA prog 49 7 7:=QA.mk underlying49 rfl rfl QsO (by decide)
def Qx0:QA prog 66 1 1:=QA.mk underlying66 rfl rfl tok9 (by decide)
def Qx1:QA prog 67 0 0:=QA.mk underlying67 rfl rfl tok3 (by decide)
def Qx2:QA prog 67 1 1:=QA.mk underlying67 rfl rfl tok3 (by decide)
def Qx3:QA prog 67 2 2:=QA.mk underlying67 rfl rfl tok3 (by decide)
def QrY:QA prog 79 0 0:=QA.mk underlying79 rfl rfl QbJ (by decide)
def Qlc:QA prog 79 1 4:=QA.mk underlying79 rfl rfl Qm5 (by decide)
def Qx4:QA prog 79 2 5:=QA.mk underlying79 rfl rfl tok76 (by decide)
def Qx5:QA prog 79 3 6:=QA.mk underlying79 rfl rfl QsQ (by decide)
def Qkh:QA prog 104 0 0:=QA.mk underlying104 rfl rfl tok9 (by decide)
def QqC:QA prog 104 1 1:=QA.mk underlying104 rfl rfl tok9 (by decide)
def Qnw:QA prog 104 2 2:=QA.mk underlying104 rfl rfl tok9 (by decide)
def Qnx:QA prog 104 3 3:=QA.mk underlying104 rfl rfl tok9 (by decide)
def Qny:QA prog 104 4 4:=QA.mk underlying104 rfl rfl tok3 (by decide)
def Qwe:QA prog 107 0 0:=QA.mk underlying107 rfl rfl QsO (by decide)
def Qwf:QA prog 107 1 1:=QA.mk underlying107 rfl rfl tok3 (by decide)
def Qwg:QA prog 111 0 0:=QA.mk underlying111 rfl rfl tok9 (by decide)
def Qwh:QA prog 111 1 1:=QA.mk underlying111 rfl rfl QjO (by decide)
def Qwi:QA prog 111 2 2:=QA.mk underlying111 rfl rfl QsQ (by decide)
def Qwj:QA prog 119 0 0:=QA.mk underlying119 rfl rfl tok3 (by decide)
def Qwk:QA prog 119 1 1:=QA.mk underlying119 rfl rfl tok9 (by decide)
def Qwl:QA prog 119 2 2:=QA.mk underlying119 rfl rfl QsX (by decide)
def Qwm:QA prog 146 0 0:=QA.mk underlying146 rfl rfl tok3 (by decide)
def Qwn:QA prog 146 1 1:=QA.mk underlying146 rfl rfl tok3 (by decide)
def Qwo:QA prog 146 2 2:=QA.mk underlying146 rfl rfl tok3 (by decide)
def Qwp:QA prog 146 3 3:=QA.mk underlying146 rfl rfl tok4 (by decide)
def Qwq:QA prog 149 3 3:=QA.mk underlying149 rfl rfl QpX (by decide)
def Qwr:QA prog 155 0 0:=QA.mk underlying155 rfl rfl tok4 (by decide)
def Qws:QA prog 155 1 1:=QA.mk underlying155 rfl rfl QpX (by decide)
def QqD:QA prog 159 0 0:=QA.mk underlying159 rfl rfl Quf (by decide)
def Qwt:QA prog 163 0 0:=QA.mk underlying163 rfl rfl QbJ (by decide)
def Qwu:QA prog 163 1 4:=QA.mk underlying163 rfl rfl tok3 (by decide)
def Qwv:QA prog 163 2 5:=QA.mk underlying163 rfl rfl tok3 (by decide)
def Qww:QA prog 163 3 6:=QA.mk underlying163 rfl rfl QaY (by decide)
def Qwx:QA prog 182 3 3:=QA.mk underlying182 rfl rfl QpX (by decide)
def Qnz:QA prog 212 0 0:=QA.mk underlying212 rfl rfl tok3 (by decide)
def QnA:QA prog 212 1 1:=QA.mk underlying212 rfl rfl tok3 (by decide)
def QqE:QA prog 212 2 2:=QA.mk underlying212 rfl rfl tok3 (by decide)
def call8:Qj prog 8:=⟨⟨_,func8,by kernel_rfl,rfl⟩⟩
def call9:Qj prog 9:=⟨⟨_,func9,by kernel_rfl,rfl⟩⟩
def Qur:Qj prog 11:=⟨⟨_,func11,by kernel_rfl,rfl⟩⟩
def call13:Qj prog 13:=⟨⟨_,func13,by kernel_rfl,rfl⟩⟩
def call14:Qj prog 14:=⟨⟨_,func14,by kernel_rfl,rfl⟩⟩
def call15:Qj prog 15:=⟨⟨_,func15,by kernel_rfl,rfl⟩⟩
def call16:Qj prog 16:=⟨⟨_,func16,by kernel_rfl,rfl⟩⟩
def call17:Qj prog 17:=⟨⟨_,func17,by kernel_rfl,rfl⟩⟩
def QqF:Qj prog 18:=⟨⟨_,func18,by kernel_rfl,rfl⟩⟩
def QqG:Qj prog 19:=⟨⟨_,func19,by kernel_rfl,rfl⟩⟩
def Qus:Qj prog 20:=⟨⟨_,func20,by kernel_rfl,rfl⟩⟩
def call21:Qj prog 21:=⟨⟨_,func21,by kernel_rfl,rfl⟩⟩
def call22:Qj prog 22:=⟨⟨_,func22,by kernel_rfl,rfl⟩⟩
def call23:Qj prog 23:=⟨⟨_,func23,by kernel_rfl,rfl⟩⟩
def call25:Qj prog 25:=⟨⟨_,func25,by kernel_rfl,rfl⟩⟩
def call26:Qj prog 26:=⟨⟨_,func26,by kernel_rfl,rfl⟩⟩
def call28:Qj prog 28:=⟨⟨_,func28,by kernel_rfl,rfl⟩⟩
def Qut:Qj prog 29:=⟨⟨_,func29,by kernel_rfl,rfl⟩⟩
def Quu:Qj prog 30:=⟨⟨_,func30,by kernel_rfl,rfl⟩⟩
def QqH:Qj prog 31:=⟨⟨_,func31,by kernel_rfl,rfl⟩⟩
def QqI:Qj prog 32:=⟨⟨_,func32,by kernel_rfl,rfl⟩⟩
def Quv:Qj prog 33:=⟨⟨_,func33,by kernel_rfl,rfl⟩⟩
def QqJ:Qj prog 34:=⟨⟨_,func34,by kernel_rfl,rfl⟩⟩
def QqK:Qj prog 35:=⟨⟨_,func35,by kernel_rfl,rfl⟩⟩
def Quw:Qj prog 36:=⟨⟨_,func36,by kernel_rfl,rfl⟩⟩
def Qux:Qj prog 37:=⟨⟨_,func37,by kernel_rfl,rfl⟩⟩
def Quy:Qj prog 38:=⟨⟨_,func38,by kernel_rfl,rfl⟩⟩
def call39:Qj prog 39:=⟨⟨_,func39,by kernel_rfl,rfl⟩⟩
def Quz:Qj prog 40:=⟨⟨_,func40,by kernel_rfl,rfl⟩⟩
def call44:Qj prog 44:=⟨⟨_,func44,by kernel_rfl,rfl⟩⟩
def QqL:Qj prog 45:=⟨⟨_,func45,by kernel_rfl,rfl⟩⟩
def QuA:Qj prog 46:=⟨⟨_,func46,by kernel_rfl,rfl⟩⟩
def QuB:Qj prog 47:=⟨⟨_,func47,by kernel_rfl,rfl⟩⟩
def QuC:Qj prog 49:=⟨⟨_,func49,by kernel_rfl,rfl⟩⟩
def Qgg:Qj prog 50:=⟨⟨_,func50,by kernel_rfl,rfl⟩⟩
def QuD:Qj prog 51:=⟨⟨_,func51,by kernel_rfl,rfl⟩⟩
def call52:Qj prog 52:=⟨⟨_,func52,by kernel_rfl,rfl⟩⟩
def call53:Qj prog 53:=⟨⟨_,func53,by kernel_rfl,rfl⟩⟩
def QqM:Qj prog 54:=⟨⟨_,func54,by kernel_rfl,rfl⟩⟩
def QuE:Qj prog 55:=⟨⟨_,func55,by kernel_rfl,rfl⟩⟩
def call63:Qj prog 63:=⟨⟨_,func63,by kernel_rfl,rfl⟩⟩
def call64:Qj prog 64:=⟨⟨_,func64,by kernel_rfl,rfl⟩⟩
def call65:Qj prog 65:=⟨⟨_,func65,by kernel_rfl,rfl⟩⟩
def call66:Qj prog 66:=⟨⟨_,func66,by kernel_rfl,rfl⟩⟩
def call67:Qj prog 67:=⟨⟨_,func67,by kernel_rfl,rfl⟩⟩
def call68:Qj prog 68:=⟨⟨_,func68,by kernel_rfl,rfl⟩⟩
def call69:Qj prog 69:=⟨⟨_,func69,by kernel_rfl,rfl⟩⟩
def call70:Qj prog 70:=⟨⟨_,func70,by kernel_rfl,rfl⟩⟩
def call71:Qj prog 71:=⟨⟨_,func71,by kernel_rfl,rfl⟩⟩
def call72:Qj prog 72:=⟨⟨_,func72,by kernel_rfl,rfl⟩⟩
def call77:Qj prog 77:=⟨⟨_,func77,by kernel_rfl,rfl⟩⟩
def Qmw:Qj prog 78:=⟨⟨_,func78,by kernel_rfl,rfl⟩⟩
def call79:Qj prog 79:=⟨⟨_,func79,by kernel_rfl,rfl⟩⟩
def call80:Qj prog 80:=⟨⟨_,func80,by kernel_rfl,rfl⟩⟩
def QuF:Qj prog 81:=⟨⟨_,func81,by kernel_rfl,rfl⟩⟩
def QuG:Qj prog 82:=⟨⟨_,func82,by kernel_rfl,rfl⟩⟩
def QuH:Qj prog 83:=⟨⟨_,func83,by kernel_rfl,rfl⟩⟩
def QuI:Qj prog 84:=⟨⟨_,func84,by kernel_rfl,rfl⟩⟩
def call85:Qj prog 85:=⟨⟨_,func85,by kernel_rfl,rfl⟩⟩
def call86:Qj prog 86:=⟨⟨_,func86,by kernel_rfl,rfl⟩⟩
def QuJ:Qj prog 87:=⟨⟨_,func87,by kernel_rfl,rfl⟩⟩
def QuK:Qj prog 89:=⟨⟨_,func89,by kernel_rfl,rfl⟩⟩
def call90:Qj prog 90:=⟨⟨_,func90,by kernel_rfl,rfl⟩⟩
def QqN:Qj prog 91:=⟨⟨_,func91,by kernel_rfl,rfl⟩⟩
def QuL:Qj prog 92:=⟨⟨_,func92,by kernel_rfl,rfl⟩⟩
def QqO:Qj prog 93:=⟨⟨_,func93,by kernel_rfl,rfl⟩⟩
def call95:Qj prog 95:=⟨⟨_,func95,by kernel_rfl,rfl⟩⟩
def call98:Qj prog 98:=⟨⟨_,func98,by kernel_rfl,rfl⟩⟩
def QrZ:Qj prog 102:=⟨⟨_,func102,by kernel_rfl,rfl⟩⟩
def Qx6:Qj prog 103:=⟨⟨_,func103,by kernel_rfl,rfl⟩⟩
def Qr0:Qj prog 104:=⟨⟨_,func104,by kernel_rfl,rfl⟩⟩
def Qx7:Qj prog 105:=⟨⟨_,func105,by kernel_rfl,rfl⟩⟩
def Qx8:Qj prog 106:=⟨⟨_,func106,by kernel_rfl,rfl⟩⟩
def QoI:Qj prog 107:=⟨⟨_,func107,by kernel_rfl,rfl⟩⟩
def Qx9:Qj prog 108:=⟨⟨_,func108,by kernel_rfl,rfl⟩⟩
def Qya:Qj prog 109:=⟨⟨_,func109,by kernel_rfl,rfl⟩⟩
def QoJ:Qj prog 110:=⟨⟨_,func110,by kernel_rfl,rfl⟩⟩
def QoK:Qj prog 111:=⟨⟨_,func111,by kernel_rfl,rfl⟩⟩
def QoL:Qj prog 112:=⟨⟨_,func112,by kernel_rfl,rfl⟩⟩
def Qr1:Qj prog 113:=⟨⟨_,func113,by kernel_rfl,rfl⟩⟩
def Qyb:Qj prog 114:=⟨⟨_,func114,by kernel_rfl,rfl⟩⟩
def Qyc:Qj prog 119:=⟨⟨_,func119,by kernel_rfl,rfl⟩⟩
def Qyd:Qj prog 120:=⟨⟨_,func120,by kernel_rfl,rfl⟩⟩
def Qye:Qj prog 121:=⟨⟨_,func121,by kernel_rfl,rfl⟩⟩
def Qyf:Qj prog 122:=⟨⟨_,func122,by kernel_rfl,rfl⟩⟩
def Qyg:Qj prog 123:=⟨⟨_,func123,by kernel_rfl,rfl⟩⟩
def Qyh:Qj prog 124:=⟨⟨_,func124,by kernel_rfl,rfl⟩⟩
def Qyi:Qj prog 125:=⟨⟨_,func125,by kernel_rfl,rfl⟩⟩
def Qyj:Qj prog 126:=⟨⟨_,func126,by kernel_rfl,rfl⟩⟩
def Qyk:Qj prog 127:=⟨⟨_,func127,by kernel_rfl,rfl⟩⟩
def Qyl:Qj prog 128:=⟨⟨_,func128,by kernel_rfl,rfl⟩⟩
def Qym:Qj prog 129:=⟨⟨_,func129,by kernel_rfl,rfl⟩⟩
def Qyn:Qj prog 130:=⟨⟨_,func130,by kernel_rfl,rfl⟩⟩
def Qyo:Qj prog 131:=⟨⟨_,func131,by kernel_rfl,rfl⟩⟩
def QoM:Qj prog 132:=⟨⟨_,func132,by kernel_rfl,rfl⟩⟩
def Qr2:Qj prog 133:=⟨⟨_,func133,by kernel_rfl,rfl⟩⟩
def Qyp:Qj prog 134:=⟨⟨_,func134,by kernel_rfl,rfl⟩⟩
def Qyq:Qj prog 146:=⟨⟨_,func146,by kernel_rfl,rfl⟩⟩
def Qyr:Qj prog 147:=⟨⟨_,func147,by kernel_rfl,rfl⟩⟩
def Qys:Qj prog 148:=⟨⟨_,func148,by kernel_rfl,rfl⟩⟩
def Qyt:Qj prog 149:=⟨⟨_,func149,by kernel_rfl,rfl⟩⟩
def Qyu:Qj prog 150:=⟨⟨_,func150,by kernel_rfl,rfl⟩⟩
def Qyv:Qj prog 154:=⟨⟨_,func154,by kernel_rfl,rfl⟩⟩
def Qyw:Qj prog 155:=⟨⟨_,func155,by kernel_rfl,rfl⟩⟩
def Qyx:Qj prog 156:=⟨⟨_,func156,by kernel_rfl,rfl⟩⟩
def Qyy:Qj prog 157:=⟨⟨_,func157,by kernel_rfl,rfl⟩⟩
def Qyz:Qj prog 161:=⟨⟨_,func161,by kernel_rfl,rfl⟩⟩
def QyA:Qj prog 162:=⟨⟨_,func162,by kernel_rfl,rfl⟩⟩
def QyB:Qj prog 163:=⟨⟨_,func163,by kernel_rfl,rfl⟩⟩
def QyC:Qj prog 164:=⟨⟨_,func164,by kernel_rfl,rfl⟩⟩
def QyD:Qj prog 165:=⟨⟨_,func165,by kernel_rfl,rfl⟩⟩
def QyE:Qj prog 166:=⟨⟨_,func166,by kernel_rfl,rfl⟩⟩
def QyF:Qj prog 167:=⟨⟨_,func167,by kernel_rfl,rfl⟩⟩
def QyG:Qj prog 168:=⟨⟨_,func168,by kernel_rfl,rfl⟩⟩
def QyH:Qj prog 169:=⟨⟨_,func169,by kernel_rfl,rfl⟩⟩
def QyI:Qj prog 170:=⟨⟨_,func170,by kernel_rfl,rfl⟩⟩
def QyJ:Qj prog 171:=⟨⟨_,func171,by kernel_rfl,rfl⟩⟩
def QiJ:Qj prog 173:=⟨⟨_,func173,by kernel_rfl,rfl⟩⟩
def Qr3:Qj prog 174:=⟨⟨_,func174,by kernel_rfl,rfl⟩⟩
def QoN:Qj prog 175:=⟨⟨_,func175,by kernel_rfl,rfl⟩⟩
def Qr4:Qj prog 177:=⟨⟨_,func177,by kernel_rfl,rfl⟩⟩
def QoO:Qj prog 178:=⟨⟨_,func178,by kernel_rfl,rfl⟩⟩
def QyK:Qj prog 185:=⟨⟨_,func185,by kernel_rfl,rfl⟩⟩
def QyL:Qj prog 186:=⟨⟨_,func186,by kernel_rfl,rfl⟩⟩
def QyM:Qj prog 187:=⟨⟨_,func187,by kernel_rfl,rfl⟩⟩
def QyN:Qj prog 188:=⟨⟨_,func188,by kernel_rfl,rfl⟩⟩
def QyO:Qj prog 189:=⟨⟨_,func189,by kernel_rfl,rfl⟩⟩
def QyP:Qj prog 190:=⟨⟨_,func190,by kernel_rfl,rfl⟩⟩
def QyQ:Qj prog 191:=⟨⟨_,func191,by kernel_rfl,rfl⟩⟩
def QyR:Qj prog 192:=⟨⟨_,func192,by kernel_rfl,rfl⟩⟩
def QyS:Qj prog 194:=⟨⟨_,func194,by kernel_rfl,rfl⟩⟩
def Qr5:Qj prog 195:=⟨⟨_,func195,by kernel_rfl,rfl⟩⟩
def Qr6:Qj prog 196:=⟨⟨_,func196,by kernel_rfl,rfl⟩⟩
def QyT:Qj prog 197:=⟨⟨_,func197,by kernel_rfl,rfl⟩⟩
def QyU:Qj prog 198:=⟨⟨_,func198,by kernel_rfl,rfl⟩⟩
def QyV:Qj prog 199:=⟨⟨_,func199,by kernel_rfl,rfl⟩⟩
def QyW:Qj prog 200:=⟨⟨_,func200,by kernel_rfl,rfl⟩⟩
def QyX:Qj prog 201:=⟨⟨_,func201,by kernel_rfl,rfl⟩⟩
def QyY:Qj prog 202:=⟨⟨_,func202,by kernel_rfl,rfl⟩⟩
def QyZ:Qj prog 203:=⟨⟨_,func203,by kernel_rfl,rfl⟩⟩
def Qy0:Qj prog 204:=⟨⟨_,func204,by kernel_rfl,rfl⟩⟩
def Qy1:Qj prog 205:=⟨⟨_,func205,by kernel_rfl,rfl⟩⟩
def Qy2:Qj prog 209:=⟨⟨_,func209,by kernel_rfl,rfl⟩⟩
def Qy3:Qj prog 211:=⟨⟨_,func211,by kernel_rfl,rfl⟩⟩
def Qy4:Qj prog 213:=⟨⟨_,func213,by kernel_rfl,rfl⟩⟩
def Qy5:Qj prog 214:=⟨⟨_,func214,by kernel_rfl,rfl⟩⟩
def Qy6:Qj prog 215:=⟨⟨_,func215,by kernel_rfl,rfl⟩⟩
def Qy7:Qj prog 216:=⟨⟨_,func216,by kernel_rfl,rfl⟩⟩
def Qy8:Qj prog 217:=⟨⟨_,func217,by kernel_rfl,rfl⟩⟩
def Qy9:Qj prog 218:=⟨⟨_,func218,by kernel_rfl,rfl⟩⟩
def Qza:Qj prog 219:=⟨⟨_,func219,by kernel_rfl,rfl⟩⟩
def Qzb:Qj prog 220:=⟨⟨_,func220,by kernel_rfl,rfl⟩⟩
def Qzc:Qj prog 221:=⟨⟨_,func221,by kernel_rfl,rfl⟩⟩
def Qzd:Qj prog 222:=⟨⟨_,func222,by kernel_rfl,rfl⟩⟩
def Qze:Qj prog 223:=⟨⟨_,func223,by kernel_rfl,rfl⟩⟩
def Qzf:Qj prog 226:=⟨⟨_,func226,by kernel_rfl,rfl⟩⟩
def Qzg:Qj prog 227:=⟨⟨_,func227,by kernel_rfl,rfl⟩⟩
def Qzh:Qj prog 228:=⟨⟨_,func228,by kernel_rfl,rfl⟩⟩
def Qzi:Qj prog 229:=⟨⟨_,func229,by kernel_rfl,rfl⟩⟩
def QoP:Qj prog 230:=⟨⟨_,func230,by kernel_rfl,rfl⟩⟩
def Qzj:Qj prog 231:=⟨⟨_,func231,by kernel_rfl,rfl⟩⟩
def Qzk:Qj prog 260:=⟨⟨_,func260,by kernel_rfl,rfl⟩⟩
def Qr7:Qj prog 263:=⟨⟨_,func263,by kernel_rfl,rfl⟩⟩
def Qr8:Qj prog 264:=⟨⟨_,func264,by kernel_rfl,rfl⟩⟩
def Qr9:Qj prog 265:=⟨⟨_,func265,by kernel_rfl,rfl⟩⟩
def Qsa:Qj prog 266:=⟨⟨_,func266,by kernel_rfl,rfl⟩⟩
def Qzl:Qj prog 267:=⟨⟨_,func267,by kernel_rfl,rfl⟩⟩
def Qsb:Qj prog 268:=⟨⟨_,func268,by kernel_rfl,rfl⟩⟩
def Qzm:Qj prog 269:=⟨⟨_,func269,by kernel_rfl,rfl⟩⟩
def Qsc:Qj prog 270:=⟨⟨_,func270,by kernel_rfl,rfl⟩⟩
def Qzn:Qj prog 271:=⟨⟨_,func271,by kernel_rfl,rfl⟩⟩
def Qsd:Qj prog 272:=⟨⟨_,func272,by kernel_rfl,rfl⟩⟩
def Qse:TOk prog 81 rVal 8 .nilFunc:=⟨⟨_,underlying81,rfl⟩,by kernel_rfl,rfl⟩
def tokP73:TOk prog 73 rVal 8 (.pointer none):=⟨⟨_,underlying73,rfl⟩,by kernel_rfl,rfl⟩
section
variable {M:Fr} {w0:World} {n:Nat} {Γ:List (Nat×Ty)} {As:List Atom} {a:Act} {w:World}
def _root_.Go.Sim.St.t1_0 {x0:Nat×Ty} (h:St M w0 n Γ As a w) (is:List Nat) (p:Qc9 Γ is=[x0]:=by exact rfl) (q:As=[]:=by exact rfl):St M w0 n [x0] [] a w:=h.to is _ _ p q
def _root_.Go.Sim.St.t2_0 {x0 x1:Nat×Ty} (h:St M w0 n Γ As a w) (is:List Nat) (p:Qc9 Γ is=[x0,x1]:=by exact rfl) (q:As=[]:=by exact rfl):St M w0 n [x0,x1] [] a w:=h.to is _ _ p q
def _root_.Go.Sim.St.t2_1 {x0 x1:Nat×Ty} {y0:Atom} (h:St M w0 n Γ As a w) (is:List Nat) (p:Qc9 Γ is=[x0,x1]:=by exact rfl) (q:As=[y0]:=by exact rfl):St M w0 n [x0,x1] [y0] a w:=h.to is _ _ p q
def _root_.Go.Sim.St.t3_0 {x0 x1 x2:Nat×Ty} (h:St M w0 n Γ As a w) (is:List Nat) (p:Qc9 Γ is=[x0,x1,x2]:=by exact rfl) (q:As=[]:=by exact rfl):St M w0 n [x0,x1,x2] [] a w:=h.to is _ _ p q
def _root_.Go.Sim.St.t4_1 {x0 x1 x2 x3:Nat×Ty} {y0:Atom} (h:St M w0 n Γ As a w) (is:List Nat) (p:Qc9 Γ is=[x0,x1,x2,x3]:=by exact rfl) (q:As=[y0]:=by exact rfl):St M w0 n [x0,x1,x2,x3] [y0] a w:=h.to is _ _ p q
def _root_.Go.Sim.St.t6_4 {x0 x1 x2 x3 x4 x5:Nat×Ty} {y0 y1 y2 y3:Atom} (h:St M w0 n Γ As a w) (is:List Nat) (p:Qc9 Γ is=[x0,x1,x2,x3,x4,x5]:=by exact rfl) (q:As=[y0,y1,y2,y3]:=by exact rfl):St M w0 n [x0,x1,x2,x3,x4,x5] [y0,y1,y2,y3] a w:=h.to is _ _ p q
def _root_.Go.Sim.St.t9_5 {x0 x1 x2 x3 x4 x5 x6 x7 x8:Nat×Ty} {y0 y1 y2 y3 y4:Atom} (h:St M w0 n Γ As a w) (is:List Nat) (p:Qc9 Γ is=[x0,x1,x2,x3,x4,x5,x6,x7,x8]:=by exact rfl) (q:As=[y0,y1,y2,y3,y4]:=by exact rfl):St M w0 n [x0,x1,x2,x3,x4,x5,x6,x7,x8] [y0,y1,y2,y3,y4] a w:=h.to is _ _ p q
def _root_.Go.Sim.St.t10_5 {x0 x1 x2 x3 x4 x5 x6 x7 x8 x9:Nat×Ty} {y0 y1 y2 y3 y4:Atom} (h:St M w0 n Γ As a w) (is:List Nat) (p:Qc9 Γ is=[x0,x1,x2,x3,x4,x5,x6,x7,x8,x9]:=by exact rfl) (q:As=[y0,y1,y2,y3,y4]:=by exact rfl):St M w0 n [x0,x1,x2,x3,x4,x5,x6,x7,x8,x9] [y0,y1,y2,y3,y4] a w:=h.to is _ _ p q
def _root_.Go.Sim.St.t11_9 {x0 x1 x2 x3 x4 x5 x6 x7 x8 x9 x10:Nat×Ty} {y0 y1 y2 y3 y4 y5 y6 y7 y8:Atom} (h:St M w0 n Γ As a w) (is:List Nat) (p:Qc9 Γ is=[x0,x1,x2,x3,x4,x5,x6,x7,x8,x9,x10]:=by exact rfl) (q:As=[y0,y1,y2,y3,y4,y5,y6,y7,y8]:=by exact rfl):St M w0 n [x0,x1,x2,x3,x4,x5,x6,x7,x8,x9,x10] [y0,y1,y2,y3,y4,y5,y6,y7,y8] a w:=h.to is _ _ p q
end
abbrev zz0:Qb:=(Qb.mk ([]:Str) ([]:Str) ([]:Str) (0:Int) (0:Int) (0:Int) ([]:(List Str)) ([]:(List Int)))
abbrev zz1:Qf:=(Qf.mk ([]:Str) (0:Int) (0:Int) ([]:(List Qb)))
abbrev zz2:Qs:=(Qs.mk ([]:Str) ([]:(List Str)) ([]:(List QF)))
abbrev zz3:Qh:=(Qh.mk ([]:Str) ([]:Str) ([]:Str) ([]:Str) (0:Int))
abbrev zz4:Qe:=(Qe.mk (0:Int) ([]:(List Qf)) ([]:(List Qs)) ([]:(List Qh)))
abbrev zz5:Q5:=(Q5.mk (0:Int) (0:Int) (0:Int))
abbrev Qp4:=underlying112
abbrev Qm8:=underlying120
abbrev Qp5:=underlying176
abbrev Qoa:=underlying178
abbrev ud22:=underlying22
abbrev Qob:=underlying240
abbrev Qp6:=underlying249
abbrev ud25:=underlying25
abbrev ud29:=underlying29
abbrev ud3:=underlying3
abbrev ud31:=underlying31
abbrev ud33:=underlying33
abbrev ud45:=underlying45
abbrev ud49:=underlying49
abbrev ud5:=underlying5
abbrev ud60:=underlying60
abbrev ud68:=underlying68
abbrev ud75:=underlying75
abbrev ud76:=underlying76
abbrev ud9:=underlying9

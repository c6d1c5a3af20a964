/- Closed facts on the types and functions of the translation, written by a program. No condition. -/
import Derived.Test.YtlajingmjmnfgaaGreatDoorSimX
import Derived.Test.YtlajingmjmnfgaaGreatDoorRows
set_option linter.all false
open Go.Proofs.Tryz
namespace Go.Proofs.YtlajingmjmnfgaaGreatDoor
open Go.Sim
theorem mixed:prog.follows .mixedOrders=true:=by kernel_rfl
theorem mx:prog.follows .mixedOrders=true:=mixed
def QgF:List (Value×Value):=[(.int .i64 0,.agg #[.func (.func 263) #[] #[]]),(.int .i64 1,.agg #[.func (.func 264) #[] #[]]),(.int .i64 4,.agg #[.func (.func 265) #[] #[]]),(.int .i64 5,.agg #[.func (.func 266) #[] #[]]),(.int .i64 6,.agg #[.func (.func 268) #[] #[]]),(.int .i64 7,.agg #[.func (.func 270) #[] #[]]),(.int .i64 8,.agg #[.func (.func 272) #[] #[]])]
def Qs6:Ty:=Qkx QgF
def QrN:List Ty:=[Qs6]
theorem tokM0:TOk prog 161 (rMapC QgF) 8 (.map none):=⟨⟨_,underlying161,rfl⟩,(by kernel_rfl:(prog.info? 161).map (fun i=>(i.zero,i.size,i.bytes))=some (some (.map none),1,8)),rfl⟩
def Qix:List Str:=[[107,101,121],[114,101,102],[110,117,109],[112,105,99,107],[100,97,121],[115,116,101,112],[115,117,109],[115,104,97,114,101],[99,111,112,121]]
def QrO:List Ty:=Qix.flatMap rS.cs
def QoK:List Int:=[1,10,100,1000,10000,100000,1000000,10000000,100000000,1000000000,10000000000,100000000000,1000000000000,10000000000000,100000000000000,1000000000000000,10000000000000000,100000000000000000,1000000000000000000,10000000000000000000]
def QrP:List Ty:=QoK.flatMap (rInt .u64).cs
def QrQ:List Int:=[0,1,28,2,29,14,24,3,30,22,20,15,25,17,4,8,31,27,13,23,21,19,16,7,26,12,18,6,11,5,10,9]
def tglo3:List Ty:=QrQ.flatMap (rInt .u8).cs
def QrR:List Int:=[0,1,56,2,57,49,28,3,61,58,42,50,38,29,17,4,62,47,59,36,45,43,51,22,53,39,33,30,24,18,12,5,63,55,48,27,60,41,37,16,46,35,44,21,52,32,23,11,54,26,40,15,34,20,31,10,25,14,19,9,13,8,7,6]
def tglo4:List Ty:=QrR.flatMap (rInt .u8).cs
abbrev bld:=bldE 242 5
/-- What the package variables hold. -/
def glo:Atom:=gloA [(0,QrN),(1,QrO),(2,QrP),(3,tglo3),(4,tglo4)]
theorem QoL:∀k,¬glo.fp k:=fun _ h=>h
theorem _root_.Go.Sim.OpJ.glo {P:Program} {o:Oper} {Γ:List (Nat×Ty)} {U E:List Atom} {N:Value→List Atom} {T:Value→Ty} (h:OpJ P o Γ U (glo::E) N T):OpJ P o Γ (glo::U) E N T:=OpJ.gloG QoL h
theorem Qxs:Qkw glo 0 QrN:=QmJ (by simp)
theorem Qvz:QjR glo 0 QrN:=Qxs.has
theorem Qxt:Qkw glo 1 QrO:=QmJ (by simp)
theorem QvA:QjR glo 1 QrO:=Qxt.has
theorem Qxu:Qkw glo 2 QrP:=QmJ (by simp)
theorem tok3:TOk prog 3 rI 8 (.int .i64 0):=⟨⟨_,underlying3,rfl⟩,by kernel_rfl,rfl⟩
theorem zok3:∀F w,(rI.ty (0:Int)).ok F w (.int .i64 0):=fun _ _=>rfl
theorem tok4:TOk prog 4 QbM 1 (.bool false):=⟨⟨_,underlying4,rfl⟩,by kernel_rfl,rfl⟩
theorem zok4:∀F w,(QbM.ty false).ok F w (.bool false):=fun _ _=>rfl
theorem tok5:TOk prog 5 (rInt .u8) 1 (.int .u8 0):=⟨⟨_,underlying5,rfl⟩,by kernel_rfl,rfl⟩
theorem tok9:TOk prog 9 rS 16 (.string .empty):=⟨⟨_,underlying9,rfl⟩,by kernel_rfl,rfl⟩
theorem QlX:TOk prog 20 (rAny 3 9) 16 .nilIface:=⟨⟨_,underlying20,rfl⟩,by kernel_rfl,rfl⟩
theorem QrS:TOk prog 22 (rSl rI) 24 (.slice none 0 0):=⟨⟨_,underlying22,rfl⟩,by kernel_rfl,rfl⟩
theorem QhX:TOk prog 25 (rSl rS) 24 (.slice none 0 0):=⟨⟨_,underlying25,rfl⟩,by kernel_rfl,rfl⟩
theorem zok25:∀F w,((rSl rS).ty ([]:(List Str))).ok F w (.slice none 0 0):=fun _ _=>⟨none,0,rfl,Nat.le_refl _,fun h=>(h rfl).elim⟩
theorem QrT:TOk prog 26 rI 8 (.int .i64 0):=⟨⟨_,underlying26,rfl⟩,by kernel_rfl,rfl⟩
structure Qb where
  Name:Str
  Of:Str
  Up:Str
  Kind:Int
  Lo:Int
  Hi:Int
  Words:(List Str)
  Weights:(List Int)
deriving Inhabited
@[reducible] def Qd : Rep Qb := ⟨fun x => ([tv (.string (sB x.Name)),tv (.string (sB x.Of)),tv (.string (sB x.Up)),ti x.Kind,ti x.Lo,ti x.Hi,tsl rS x.Words,tsl rI x.Weights]),8,true,fun _ => rfl,fun _ => (Qp (QZ rfl) (Qp (QZ rfl) (Qp (QZ rfl) (Qp (QZ rfl) (Qp (QZ rfl) (Qp (QZ rfl) (Qp QbG (Qp QbG Q7)))))))),fun h => (by cases h)⟩
theorem Qar:TOk prog 49 Qd 120 (.agg #[(.string .empty),(.string .empty),(.string .empty),(.int .i64 0),(.int .i64 0),(.int .i64 0),(.slice none 0 0),(.slice none 0 0)]):=⟨⟨_,underlying49,rfl⟩,by kernel_rfl,rfl⟩
theorem zc49:∀F w,QG (Qd.cs (Qb.mk ([]:Str) ([]:Str) ([]:Str) (0:Int) (0:Int) (0:Int) ([]:(List Str)) ([]:(List Int)))) F w ((.agg #[(.string .empty),(.string .empty),(.string .empty),(.int .i64 0),(.int .i64 0),(.int .i64 0),(.slice none 0 0),(.slice none 0 0)]):Value).cells.toList:=fun _ _=>(.cons rfl (.cons rfl (.cons rfl (.cons rfl (.cons rfl (.cons rfl (.cons ⟨none,0,rfl,Nat.le_refl _,fun h=>(h rfl).elim⟩ (.cons ⟨none,0,rfl,Nat.le_refl _,fun h=>(h rfl).elim⟩ .nil))))))))
theorem Qkz:∀F w,(Qd.ty (Qb.mk ([]:Str) ([]:Str) ([]:Str) (0:Int) (0:Int) (0:Int) ([]:(List Str)) ([]:(List Int)))).ok F w (.agg #[(.string .empty),(.string .empty),(.string .empty),(.int .i64 0),(.int .i64 0),(.int .i64 0),(.slice none 0 0),(.slice none 0 0)]):=fun F w=>⟨_,rfl,zc49 F w⟩
theorem zv49:(prog.info? 49).bind (·.zero)=some (.agg #[(.string .empty),(.string .empty),(.string .empty),(.int .i64 0),(.int .i64 0),(.int .i64 0),(.slice none 0 0),(.slice none 0 0)]):=by kernel_rfl
theorem pl49 : ∀ w, ((#[⟨"Name", 9, 0, false, "", "", 0⟩, ⟨"Of", 9, 1, false, "", "", 16⟩, ⟨"Up", 9, 2, false, "", "", 32⟩, ⟨"Kind", 3, 3, false, "", "", 48⟩, ⟨"Lo", 3, 4, false, "", "", 56⟩, ⟨"Hi", 3, 5, false, "", "", 64⟩, ⟨"Words", 25, 6, false, "", "", 72⟩, ⟨"Weights", 22, 7, false, "", "", 96⟩] : Array Field).mapM (fun f => do pure (f.offset, ← sizeOf f.type) : Field → Sem (Nat × Nat))).run Tryz.prog w = .ok #[(0, 1), (1, 1), (2, 1), (3, 1), (4, 1), (5, 1), (6, 1), (7, 1)] w := fun _ => by kernel_rfl
theorem QvB:(∀F w,QG ([tv (.string (sB ([]:Str))),tv (.string (sB ([]:Str))),tv (.string (sB ([]:Str))),ti (0:Int),ti (0:Int),ti (0:Int),tsl rS ([]:(List Str)),tvs nilV]) F w ((.agg #[(.string .empty),(.string .empty),(.string .empty),(.int .i64 0),(.int .i64 0),(.int .i64 0),(.slice none 0 0),(.slice none 0 0)]):Value).cells.toList)∧([tv (.string (sB ([]:Str))),tv (.string (sB ([]:Str))),tv (.string (sB ([]:Str))),ti (0:Int),ti (0:Int),ti (0:Int),tsl rS ([]:(List Str)),tvs nilV]).length=8∧Qd.agg=true∧∃cs,((.agg #[(.string .empty),(.string .empty),(.string .empty),(.int .i64 0),(.int .i64 0),(.int .i64 0),(.slice none 0 0),(.slice none 0 0)]):Value)=.agg cs:=⟨fun _ _=>(.cons rfl (.cons rfl (.cons rfl (.cons rfl (.cons rfl (.cons rfl (.cons ⟨none,0,rfl,Nat.le_refl _,fun h=>(h rfl).elim⟩ (.cons ⟨rfl,rfl⟩ .nil)))))))),rfl,rfl,_,rfl⟩
theorem QhY:TOk prog 45 (rSl Qd) 24 (.slice none 0 0):=⟨⟨_,underlying45,rfl⟩,by kernel_rfl,rfl⟩
structure Qe where
  Name:Str
  Lo:Int
  Hi:Int
  Fields:(List Qb)
deriving Inhabited
@[reducible] def Qh : Rep Qe := ⟨fun x => ([tv (.string (sB x.Name)),ti x.Lo,ti x.Hi,tsl Qd x.Fields]),4,true,fun _ => rfl,fun _ => (Qp (QZ rfl) (Qp (QZ rfl) (Qp (QZ rfl) (Qp QbG Q7)))),fun h => (by cases h)⟩
theorem QaS:TOk prog 47 Qh 56 (.agg #[(.string .empty),(.int .i64 0),(.int .i64 0),(.slice none 0 0)]):=⟨⟨_,underlying47,rfl⟩,by kernel_rfl,rfl⟩
theorem zc47:∀F w,QG (Qh.cs (Qe.mk ([]:Str) (0:Int) (0:Int) ([]:(List Qb)))) F w ((.agg #[(.string .empty),(.int .i64 0),(.int .i64 0),(.slice none 0 0)]):Value).cells.toList:=fun _ _=>(.cons rfl (.cons rfl (.cons rfl (.cons ⟨none,0,rfl,Nat.le_refl _,fun h=>(h rfl).elim⟩ .nil))))
theorem zok47:∀F w,(Qh.ty (Qe.mk ([]:Str) (0:Int) (0:Int) ([]:(List Qb)))).ok F w (.agg #[(.string .empty),(.int .i64 0),(.int .i64 0),(.slice none 0 0)]):=fun F w=>⟨_,rfl,zc47 F w⟩
theorem zv47:(prog.info? 47).bind (·.zero)=some (.agg #[(.string .empty),(.int .i64 0),(.int .i64 0),(.slice none 0 0)]):=by kernel_rfl
theorem pl47 : ∀ w, ((#[⟨"Name", 9, 0, false, "", "", 0⟩, ⟨"Lo", 3, 1, false, "", "", 16⟩, ⟨"Hi", 3, 2, false, "", "", 24⟩, ⟨"Fields", 45, 3, false, "", "", 32⟩] : Array Field).mapM (fun f => do pure (f.offset, ← sizeOf f.type) : Field → Sem (Nat × Nat))).run Tryz.prog w = .ok #[(0, 1), (1, 1), (2, 1), (3, 1)] w := fun _ => by kernel_rfl
theorem QvC:(∀F w,QG ([tv (.string (sB ([]:Str))),ti (0:Int),ti (0:Int),tvs nilV]) F w ((.agg #[(.string .empty),(.int .i64 0),(.int .i64 0),(.slice none 0 0)]):Value).cells.toList)∧([tv (.string (sB ([]:Str))),ti (0:Int),ti (0:Int),tvs nilV]).length=4∧Qh.agg=true∧∃cs,((.agg #[(.string .empty),(.int .i64 0),(.int .i64 0),(.slice none 0 0)]):Value)=.agg cs:=⟨fun _ _=>(.cons rfl (.cons rfl (.cons rfl (.cons ⟨rfl,rfl⟩ .nil)))),rfl,rfl,_,rfl⟩
theorem QkA:TOk prog 29 (rSl Qh) 24 (.slice none 0 0):=⟨⟨_,underlying29,rfl⟩,by kernel_rfl,rfl⟩
structure QE where
  a0:Int
  a1:Int
deriving Inhabited
@[reducible] def Qaa : Rep QE := ⟨fun x => ([ti x.a0,ti x.a1]),2,true,fun _ => rfl,fun _ => (Qp (QZ rfl) (Qp (QZ rfl) Q7)),fun h => (by cases h)⟩
theorem Qs7:TOk prog 112 Qaa 16 (.agg #[(.int .i64 0),(.int .i64 0)]):=⟨⟨_,underlying112,rfl⟩,by kernel_rfl,rfl⟩
theorem zc112:∀F w,QG (Qaa.cs (QE.mk (0:Int) (0:Int))) F w ((.agg #[(.int .i64 0),(.int .i64 0)]):Value).cells.toList:=fun _ _=>(.cons rfl (.cons rfl .nil))
theorem zok112:∀F w,(Qaa.ty (QE.mk (0:Int) (0:Int))).ok F w (.agg #[(.int .i64 0),(.int .i64 0)]):=fun F w=>⟨_,rfl,zc112 F w⟩
theorem QrU:TOk prog 77 (rSl Qaa) 24 (.slice none 0 0):=⟨⟨_,underlying77,rfl⟩,by kernel_rfl,rfl⟩
structure Qw where
  Name:Str
  States:(List Str)
  Moves:(List QE)
deriving Inhabited
@[reducible] def Qy : Rep Qw := ⟨fun x => ([tv (.string (sB x.Name)),tsl rS x.States,tsl Qaa x.Moves]),3,true,fun _ => rfl,fun _ => (Qp (QZ rfl) (Qp QbG (Qp QbG Q7))),fun h => (by cases h)⟩
theorem QlY:TOk prog 111 Qy 64 (.agg #[(.string .empty),(.slice none 0 0),(.slice none 0 0)]):=⟨⟨_,underlying111,rfl⟩,by kernel_rfl,rfl⟩
theorem zc111:∀F w,QG (Qy.cs (Qw.mk ([]:Str) ([]:(List Str)) ([]:(List QE)))) F w ((.agg #[(.string .empty),(.slice none 0 0),(.slice none 0 0)]):Value).cells.toList:=fun _ _=>(.cons rfl (.cons ⟨none,0,rfl,Nat.le_refl _,fun h=>(h rfl).elim⟩ (.cons ⟨none,0,rfl,Nat.le_refl _,fun h=>(h rfl).elim⟩ .nil)))
theorem Qs8:∀F w,(Qy.ty (Qw.mk ([]:Str) ([]:(List Str)) ([]:(List QE)))).ok F w (.agg #[(.string .empty),(.slice none 0 0),(.slice none 0 0)]):=fun F w=>⟨_,rfl,zc111 F w⟩
theorem zv111:(prog.info? 111).bind (·.zero)=some (.agg #[(.string .empty),(.slice none 0 0),(.slice none 0 0)]):=by kernel_rfl
theorem pl111 : ∀ w, ((#[⟨"Name", 9, 0, false, "", "", 0⟩, ⟨"States", 25, 1, false, "", "", 16⟩, ⟨"Moves", 77, 2, false, "", "", 40⟩] : Array Field).mapM (fun f => do pure (f.offset, ← sizeOf f.type) : Field → Sem (Nat × Nat))).run Tryz.prog w = .ok #[(0, 1), (1, 1), (2, 1)] w := fun _ => by kernel_rfl
theorem Qs9:(∀F w,QG ([tv (.string (sB ([]:Str))),tsl rS ([]:(List Str)),tvs nilV]) F w ((.agg #[(.string .empty),(.slice none 0 0),(.slice none 0 0)]):Value).cells.toList)∧([tv (.string (sB ([]:Str))),tsl rS ([]:(List Str)),tvs nilV]).length=3∧Qy.agg=true∧∃cs,((.agg #[(.string .empty),(.slice none 0 0),(.slice none 0 0)]):Value)=.agg cs:=⟨fun _ _=>(.cons rfl (.cons ⟨none,0,rfl,Nat.le_refl _,fun h=>(h rfl).elim⟩ (.cons ⟨rfl,rfl⟩ .nil))),rfl,rfl,_,rfl⟩
theorem tok30:TOk prog 30 (rSl Qy) 24 (.slice none 0 0):=⟨⟨_,underlying30,rfl⟩,by kernel_rfl,rfl⟩
structure Qj where
  Name:Str
  Kind:Str
  A:Str
  B:Str
  N:Int
deriving Inhabited
@[reducible] def Qs : Rep Qj := ⟨fun x => ([tv (.string (sB x.Name)),tv (.string (sB x.Kind)),tv (.string (sB x.A)),tv (.string (sB x.B)),ti x.N]),5,true,fun _ => rfl,fun _ => (Qp (QZ rfl) (Qp (QZ rfl) (Qp (QZ rfl) (Qp (QZ rfl) (Qp (QZ rfl) Q7))))),fun h => (by cases h)⟩
theorem QhC:TOk prog 104 Qs 72 (.agg #[(.string .empty),(.string .empty),(.string .empty),(.string .empty),(.int .i64 0)]):=⟨⟨_,underlying104,rfl⟩,by kernel_rfl,rfl⟩
theorem zc104:∀F w,QG (Qs.cs (Qj.mk ([]:Str) ([]:Str) ([]:Str) ([]:Str) (0:Int))) F w ((.agg #[(.string .empty),(.string .empty),(.string .empty),(.string .empty),(.int .i64 0)]):Value).cells.toList:=fun _ _=>(.cons rfl (.cons rfl (.cons rfl (.cons rfl (.cons rfl .nil)))))
theorem zok104:∀F w,(Qs.ty (Qj.mk ([]:Str) ([]:Str) ([]:Str) ([]:Str) (0:Int))).ok F w (.agg #[(.string .empty),(.string .empty),(.string .empty),(.string .empty),(.int .i64 0)]):=fun F w=>⟨_,rfl,zc104 F w⟩
theorem zv104:(prog.info? 104).bind (·.zero)=some (.agg #[(.string .empty),(.string .empty),(.string .empty),(.string .empty),(.int .i64 0)]):=by kernel_rfl
theorem pl104 : ∀ w, ((#[⟨"Name", 9, 0, false, "", "", 0⟩, ⟨"Kind", 9, 1, false, "", "", 16⟩, ⟨"A", 9, 2, false, "", "", 32⟩, ⟨"B", 9, 3, false, "", "", 48⟩, ⟨"N", 3, 4, false, "", "", 64⟩] : Array Field).mapM (fun f => do pure (f.offset, ← sizeOf f.type) : Field → Sem (Nat × Nat))).run Tryz.prog w = .ok #[(0, 1), (1, 1), (2, 1), (3, 1), (4, 1)] w := fun _ => by kernel_rfl
theorem QlZ:TOk prog 31 (rSl Qs) 24 (.slice none 0 0):=⟨⟨_,underlying31,rfl⟩,by kernel_rfl,rfl⟩
structure Qa where
  Version:Int
  Kinds:(List Qe)
  Lives:(List Qw)
  Rules:(List Qj)
deriving Inhabited
@[reducible] def Qf : Rep Qa := ⟨fun x => ([ti x.Version,tsl Qh x.Kinds,tsl Qy x.Lives,tsl Qs x.Rules]),4,true,fun _ => rfl,fun _ => (Qp (QZ rfl) (Qp QbG (Qp QbG (Qp QbG Q7)))),fun h => (by cases h)⟩
theorem Qci:TOk prog 33 Qf 80 (.agg #[(.int .i64 0),(.slice none 0 0),(.slice none 0 0),(.slice none 0 0)]):=⟨⟨_,underlying33,rfl⟩,by kernel_rfl,rfl⟩
theorem zc33:∀F w,QG (Qf.cs (Qa.mk (0:Int) ([]:(List Qe)) ([]:(List Qw)) ([]:(List Qj)))) F w ((.agg #[(.int .i64 0),(.slice none 0 0),(.slice none 0 0),(.slice none 0 0)]):Value).cells.toList:=fun _ _=>(.cons rfl (.cons ⟨none,0,rfl,Nat.le_refl _,fun h=>(h rfl).elim⟩ (.cons ⟨none,0,rfl,Nat.le_refl _,fun h=>(h rfl).elim⟩ (.cons ⟨none,0,rfl,Nat.le_refl _,fun h=>(h rfl).elim⟩ .nil))))
theorem zok33:∀F w,(Qf.ty (Qa.mk (0:Int) ([]:(List Qe)) ([]:(List Qw)) ([]:(List Qj)))).ok F w (.agg #[(.int .i64 0),(.slice none 0 0),(.slice none 0 0),(.slice none 0 0)]):=fun F w=>⟨_,rfl,zc33 F w⟩
theorem zv33:(prog.info? 33).bind (·.zero)=some (.agg #[(.int .i64 0),(.slice none 0 0),(.slice none 0 0),(.slice none 0 0)]):=by kernel_rfl
theorem pl33 : ∀ w, ((#[⟨"Version", 3, 0, false, "", "", 0⟩, ⟨"Kinds", 29, 1, false, "", "", 8⟩, ⟨"Lives", 30, 2, false, "", "", 32⟩, ⟨"Rules", 31, 3, false, "", "", 56⟩] : Array Field).mapM (fun f => do pure (f.offset, ← sizeOf f.type) : Field → Sem (Nat × Nat))).run Tryz.prog w = .ok #[(0, 1), (1, 1), (2, 1), (3, 1)] w := fun _ => by kernel_rfl
theorem QoM:(∀F w,QG ([ti (0:Int),tvs nilV,tvs nilV,tvs nilV]) F w ((.agg #[(.int .i64 0),(.slice none 0 0),(.slice none 0 0),(.slice none 0 0)]):Value).cells.toList)∧([ti (0:Int),tvs nilV,tvs nilV,tvs nilV]).length=4∧Qf.agg=true∧∃cs,((.agg #[(.int .i64 0),(.slice none 0 0),(.slice none 0 0),(.slice none 0 0)]):Value)=.agg cs:=⟨fun _ _=>(.cons rfl (.cons ⟨rfl,rfl⟩ (.cons ⟨rfl,rfl⟩ (.cons ⟨rfl,rfl⟩ .nil)))),rfl,rfl,_,rfl⟩
structure QM where
  A:Int
  B:Int
  N:Int
deriving Inhabited
@[reducible] def Qa6 : Rep QM := ⟨fun x => ([ti x.A,ti x.B,ti x.N]),3,true,fun _ => rfl,fun _ => (Qp (QZ rfl) (Qp (QZ rfl) (Qp (QZ rfl) Q7))),fun h => (by cases h)⟩
theorem QrV:TOk prog 67 Qa6 24 (.agg #[(.int .i64 0),(.int .i64 0),(.int .i64 0)]):=⟨⟨_,underlying67,rfl⟩,by kernel_rfl,rfl⟩
theorem zc67:∀F w,QG (Qa6.cs (QM.mk (0:Int) (0:Int) (0:Int))) F w ((.agg #[(.int .i64 0),(.int .i64 0),(.int .i64 0)]):Value).cells.toList:=fun _ _=>(.cons rfl (.cons rfl (.cons rfl .nil)))
theorem zok67:∀F w,(Qa6.ty (QM.mk (0:Int) (0:Int) (0:Int))).ok F w (.agg #[(.int .i64 0),(.int .i64 0),(.int .i64 0)]):=fun F w=>⟨_,rfl,zc67 F w⟩
theorem zv67:(prog.info? 67).bind (·.zero)=some (.agg #[(.int .i64 0),(.int .i64 0),(.int .i64 0)]):=by kernel_rfl
theorem pl67 : ∀ w, ((#[⟨"A", 3, 0, false, "", "", 0⟩, ⟨"B", 3, 1, false, "", "", 8⟩, ⟨"N", 3, 2, false, "", "", 16⟩] : Array Field).mapM (fun f => do pure (f.offset, ← sizeOf f.type) : Field → Sem (Nat × Nat))).run Tryz.prog w = .ok #[(0, 1), (1, 1), (2, 1)] w := fun _ => by kernel_rfl
theorem tok68:TOk prog 68 (rSl (rSl rI)) 24 (.slice none 0 0):=⟨⟨_,underlying68,rfl⟩,by kernel_rfl,rfl⟩
structure Qg where
  A:Int
  B:Int
  Mul:Int
  Least:Bool
deriving Inhabited
@[reducible] def QD : Rep Qg := ⟨fun x => ([ti x.A,ti x.B,ti x.Mul,tb x.Least]),4,true,fun _ => rfl,fun _ => (Qp (QZ rfl) (Qp (QZ rfl) (Qp (QZ rfl) (Qp (QZ rfl) Q7)))),fun h => (by cases h)⟩
theorem QoN:TOk prog 146 QD 32 (.agg #[(.int .i64 0),(.int .i64 0),(.int .i64 0),(.bool false)]):=⟨⟨_,underlying146,rfl⟩,by kernel_rfl,rfl⟩
theorem zc146:∀F w,QG (QD.cs (Qg.mk (0:Int) (0:Int) (0:Int) false)) F w ((.agg #[(.int .i64 0),(.int .i64 0),(.int .i64 0),(.bool false)]):Value).cells.toList:=fun _ _=>(.cons rfl (.cons rfl (.cons rfl (.cons rfl .nil))))
theorem zok146:∀F w,(QD.ty (Qg.mk (0:Int) (0:Int) (0:Int) false)).ok F w (.agg #[(.int .i64 0),(.int .i64 0),(.int .i64 0),(.bool false)]):=fun F w=>⟨_,rfl,zc146 F w⟩
theorem zv146:(prog.info? 146).bind (·.zero)=some (.agg #[(.int .i64 0),(.int .i64 0),(.int .i64 0),(.bool false)]):=by kernel_rfl
theorem pl146 : ∀ w, ((#[⟨"A", 3, 0, false, "", "", 0⟩, ⟨"B", 3, 1, false, "", "", 8⟩, ⟨"Mul", 3, 2, false, "", "", 16⟩, ⟨"Least", 4, 3, false, "", "", 24⟩] : Array Field).mapM (fun f => do pure (f.offset, ← sizeOf f.type) : Field → Sem (Nat × Nat))).run Tryz.prog w = .ok #[(0, 1), (1, 1), (2, 1), (3, 1)] w := fun _ => by kernel_rfl
theorem QkB:TOk prog 75 (rSl QD) 24 (.slice none 0 0):=⟨⟨_,underlying75,rfl⟩,by kernel_rfl,rfl⟩
structure QH where
  kind:Int
  name:Str
  Diff:QM
deriving Inhabited
@[reducible] def QI : Rep QH := ⟨fun x => ([ti x.kind,tv (.string (sB x.name))] ++ Qa6.cs x.Diff),5,true,fun _ => rfl,fun _ => (Qiv (Qp (QZ rfl) (Qp (QZ rfl) Q7)) (Qiu Qa6)),fun h => (by cases h)⟩
theorem Qiy:TOk prog 119 QI 48 (.agg #[(.int .i64 0),(.string .empty),(.int .i64 0),(.int .i64 0),(.int .i64 0)]):=⟨⟨_,underlying119,rfl⟩,by kernel_rfl,rfl⟩
theorem Ql0:∀F w,QG (QI.cs (QH.mk (0:Int) ([]:Str) (QM.mk (0:Int) (0:Int) (0:Int)))) F w ((.agg #[(.int .i64 0),(.string .empty),(.int .i64 0),(.int .i64 0),(.int .i64 0)]):Value).cells.toList:=fun _ _=>(.cons rfl (.cons rfl (.cons rfl (.cons rfl (.cons rfl .nil)))))
theorem Qzr:∀F w,(QI.ty (QH.mk (0:Int) ([]:Str) (QM.mk (0:Int) (0:Int) (0:Int)))).ok F w (.agg #[(.int .i64 0),(.string .empty),(.int .i64 0),(.int .i64 0),(.int .i64 0)]):=fun F w=>⟨_,rfl,Ql0 F w⟩
theorem Qoe:(prog.info? 119).bind (·.zero)=some (.agg #[(.int .i64 0),(.string .empty),(.int .i64 0),(.int .i64 0),(.int .i64 0)]):=by kernel_rfl
theorem Qof : ∀ w, ((#[⟨"kind", 3, 0, false, "", "diorama/core", 0⟩, ⟨"name", 9, 1, false, "", "diorama/core", 8⟩, ⟨"Diff", 67, 2, true, "", "", 24⟩] : Array Field).mapM (fun f => do pure (f.offset, ← sizeOf f.type) : Field → Sem (Nat × Nat))).run Tryz.prog w = .ok #[(0, 1), (1, 1), (2, 3)] w := fun _ => by kernel_rfl
theorem Qzq:TOk prog 76 (rSl QI) 24 (.slice none 0 0):=⟨⟨_,underlying76,rfl⟩,by kernel_rfl,rfl⟩
structure QaI where
  x:Qa
  limits:(List Qg)
  diffs:(List QH)
  refs:(List QE)
deriving Inhabited
@[reducible] def QF : Rep QaI := ⟨fun x => (Qf.cs x.x ++ [tsl QD x.limits,tsl QI x.diffs,tsl Qaa x.refs]),7,true,fun _ => rfl,fun _ => (Qiv (Qiu Qf) (Qp QbG (Qp QbG (Qp QbG Q7)))),fun h => (by cases h)⟩
theorem tok79:TOk prog 79 QF 152 (.agg #[(.int .i64 0),(.slice none 0 0),(.slice none 0 0),(.slice none 0 0),(.slice none 0 0),(.slice none 0 0),(.slice none 0 0)]):=⟨⟨_,underlying79,rfl⟩,by kernel_rfl,rfl⟩
theorem zc79:∀F w,QG (QF.cs (QaI.mk (Qa.mk (0:Int) ([]:(List Qe)) ([]:(List Qw)) ([]:(List Qj))) ([]:(List Qg)) ([]:(List QH)) ([]:(List QE)))) F w ((.agg #[(.int .i64 0),(.slice none 0 0),(.slice none 0 0),(.slice none 0 0),(.slice none 0 0),(.slice none 0 0),(.slice none 0 0)]):Value).cells.toList:=fun _ _=>(.cons rfl (.cons ⟨none,0,rfl,Nat.le_refl _,fun h=>(h rfl).elim⟩ (.cons ⟨none,0,rfl,Nat.le_refl _,fun h=>(h rfl).elim⟩ (.cons ⟨none,0,rfl,Nat.le_refl _,fun h=>(h rfl).elim⟩ (.cons ⟨none,0,rfl,Nat.le_refl _,fun h=>(h rfl).elim⟩ (.cons ⟨none,0,rfl,Nat.le_refl _,fun h=>(h rfl).elim⟩ (.cons ⟨none,0,rfl,Nat.le_refl _,fun h=>(h rfl).elim⟩ .nil)))))))
theorem zok79:∀F w,(QF.ty (QaI.mk (Qa.mk (0:Int) ([]:(List Qe)) ([]:(List Qw)) ([]:(List Qj))) ([]:(List Qg)) ([]:(List QH)) ([]:(List QE)))).ok F w (.agg #[(.int .i64 0),(.slice none 0 0),(.slice none 0 0),(.slice none 0 0),(.slice none 0 0),(.slice none 0 0),(.slice none 0 0)]):=fun F w=>⟨_,rfl,zc79 F w⟩
theorem zv79:(prog.info? 79).bind (·.zero)=some (.agg #[(.int .i64 0),(.slice none 0 0),(.slice none 0 0),(.slice none 0 0),(.slice none 0 0),(.slice none 0 0),(.slice none 0 0)]):=by kernel_rfl
theorem pl79 : ∀ w, ((#[⟨"x", 33, 0, false, "", "diorama/core", 0⟩, ⟨"limits", 75, 4, false, "", "diorama/core", 80⟩, ⟨"diffs", 76, 5, false, "", "diorama/core", 104⟩, ⟨"refs", 77, 6, false, "", "diorama/core", 128⟩] : Array Field).mapM (fun f => do pure (f.offset, ← sizeOf f.type) : Field → Sem (Nat × Nat))).run Tryz.prog w = .ok #[(0, 4), (4, 1), (5, 1), (6, 1)] w := fun _ => by kernel_rfl
theorem QvD:(∀F w,QG (Qf.cs (Qa.mk (0:Int) ([]:(List Qe)) ([]:(List Qw)) ([]:(List Qj)))++[tsl QD ([]:(List Qg)),tsl QI ([]:(List QH)),tvs nilV]) F w ((.agg #[(.int .i64 0),(.slice none 0 0),(.slice none 0 0),(.slice none 0 0),(.slice none 0 0),(.slice none 0 0),(.slice none 0 0)]):Value).cells.toList)∧(Qf.cs (Qa.mk (0:Int) ([]:(List Qe)) ([]:(List Qw)) ([]:(List Qj)))++[tsl QD ([]:(List Qg)),tsl QI ([]:(List QH)),tvs nilV]).length=7∧QF.agg=true∧∃cs,((.agg #[(.int .i64 0),(.slice none 0 0),(.slice none 0 0),(.slice none 0 0),(.slice none 0 0),(.slice none 0 0),(.slice none 0 0)]):Value)=.agg cs:=⟨fun _ _=>(.cons rfl (.cons ⟨none,0,rfl,Nat.le_refl _,fun h=>(h rfl).elim⟩ (.cons ⟨none,0,rfl,Nat.le_refl _,fun h=>(h rfl).elim⟩ (.cons ⟨none,0,rfl,Nat.le_refl _,fun h=>(h rfl).elim⟩ (.cons ⟨none,0,rfl,Nat.le_refl _,fun h=>(h rfl).elim⟩ (.cons ⟨none,0,rfl,Nat.le_refl _,fun h=>(h rfl).elim⟩ (.cons ⟨rfl,rfl⟩ .nil))))))),rfl,rfl,_,rfl⟩
theorem Qha:TOk prog 73 (rPtr QF) 8 (.pointer none):=⟨⟨_,underlying73,rfl⟩,by kernel_rfl,rfl⟩
@[reducible] def tF81 (p : (Int → Option Bool)) : Ty := tfn prog [] (A := Int) (B := Bool) (fun x => [ti x]) (fun y => tb y) (p)
@[reducible] def rF81 : Rep (Int → Option Bool) := ⟨fun p => [tF81 p],1,false,fun _ => rfl,fun _ => Qp QbI Q7,fun _ => rfl⟩
@[reducible] def rFo81 : Rep (Option (Int → Option Bool)) := ⟨fun p => [tfo (tF81) p],1,false,fun _ => rfl,fun _ => Qp (QeP (fun _ => QbI)) Q7,fun _ => rfl⟩
theorem QrW:TOk prog 81 rF81 8 .nilFunc:=⟨⟨_,underlying81,rfl⟩,by kernel_rfl,rfl⟩
theorem zok81:∀F w,(rFo81.ty none).ok F w .nilFunc:=fun _ _=>rfl
theorem QgG:TOk prog 86 (rInt .u64) 8 (.int .u64 0):=⟨⟨_,underlying86,rfl⟩,by kernel_rfl,rfl⟩
theorem zok86:∀F w,((rInt .u64).ty (0:Int)).ok F w (.int .u64 0):=fun _ _=>rfl
structure Qm where
  L:(List Int)
  I:Int
deriving Inhabited
@[reducible] def Qk : Rep Qm := ⟨fun x => ([tsl rI x.L,ti x.I]),2,true,fun _ => rfl,fun _ => (Qp QbG (Qp (QZ rfl) Q7)),fun h => (by cases h)⟩
theorem Qta:TOk prog 107 Qk 32 (.agg #[(.slice none 0 0),(.int .i64 0)]):=⟨⟨_,underlying107,rfl⟩,by kernel_rfl,rfl⟩
theorem zc107:∀F w,QG (Qk.cs (Qm.mk ([]:(List Int)) (0:Int))) F w ((.agg #[(.slice none 0 0),(.int .i64 0)]):Value).cells.toList:=fun _ _=>(.cons ⟨none,0,rfl,Nat.le_refl _,fun h=>(h rfl).elim⟩ (.cons rfl .nil))
theorem zok107:∀F w,(Qk.ty (Qm.mk ([]:(List Int)) (0:Int))).ok F w (.agg #[(.slice none 0 0),(.int .i64 0)]):=fun F w=>⟨_,rfl,zc107 F w⟩
theorem zv107:(prog.info? 107).bind (·.zero)=some (.agg #[(.slice none 0 0),(.int .i64 0)]):=by kernel_rfl
theorem pl107 : ∀ w, ((#[⟨"L", 22, 0, false, "", "", 0⟩, ⟨"I", 3, 1, false, "", "", 24⟩] : Array Field).mapM (fun f => do pure (f.offset, ← sizeOf f.type) : Field → Sem (Nat × Nat))).run Tryz.prog w = .ok #[(0, 1), (1, 1)] w := fun _ => by kernel_rfl
@[reducible] def tF130 (p : (Qj → Option Bool)) : Ty := tfn prog [] (A := Qj) (B := Bool) (fun x => [Qs.ty x]) (fun y => tb y) (p)
@[reducible] def Qi4 : Rep (Qj → Option Bool) := ⟨fun p => [tF130 p],1,false,fun _ => rfl,fun _ => Qp QbI Q7,fun _ => rfl⟩
@[reducible] def Qtb : Rep (Option (Qj → Option Bool)) := ⟨fun p => [tfo (tF130) p],1,false,fun _ => rfl,fun _ => Qp (QeP (fun _ => QbI)) Q7,fun _ => rfl⟩
theorem tok130:TOk prog 130 Qi4 8 .nilFunc:=⟨⟨_,underlying130,rfl⟩,by kernel_rfl,rfl⟩
theorem zok130:∀F w,(Qtb.ty none).ok F w .nilFunc:=fun _ _=>rfl
structure Qq where
  Kind:Int
  Field:Int
  Rule:Int
  Code:Int
deriving Inhabited
@[reducible] def QR : Rep Qq := ⟨fun x => ([ti x.Kind,ti x.Field,ti x.Rule,ti x.Code]),4,true,fun _ => rfl,fun _ => (Qp (QZ rfl) (Qp (QZ rfl) (Qp (QZ rfl) (Qp (QZ rfl) Q7)))),fun h => (by cases h)⟩
theorem Qtc:TOk prog 149 QR 32 (.agg #[(.int .i64 0),(.int .i64 0),(.int .i64 0),(.int .i64 0)]):=⟨⟨_,underlying149,rfl⟩,by kernel_rfl,rfl⟩
theorem zc149:∀F w,QG (QR.cs (Qq.mk (0:Int) (0:Int) (0:Int) (0:Int))) F w ((.agg #[(.int .i64 0),(.int .i64 0),(.int .i64 0),(.int .i64 0)]):Value).cells.toList:=fun _ _=>(.cons rfl (.cons rfl (.cons rfl (.cons rfl .nil))))
theorem zok149:∀F w,(QR.ty (Qq.mk (0:Int) (0:Int) (0:Int) (0:Int))).ok F w (.agg #[(.int .i64 0),(.int .i64 0),(.int .i64 0),(.int .i64 0)]):=fun F w=>⟨_,rfl,zc149 F w⟩
theorem zv149:(prog.info? 149).bind (·.zero)=some (.agg #[(.int .i64 0),(.int .i64 0),(.int .i64 0),(.int .i64 0)]):=by kernel_rfl
theorem pl149 : ∀ w, ((#[⟨"Kind", 3, 0, false, "", "", 0⟩, ⟨"Field", 3, 1, false, "", "", 8⟩, ⟨"Rule", 3, 2, false, "", "", 16⟩, ⟨"Code", 26, 3, false, "", "", 24⟩] : Array Field).mapM (fun f => do pure (f.offset, ← sizeOf f.type) : Field → Sem (Nat × Nat))).run Tryz.prog w = .ok #[(0, 1), (1, 1), (2, 1), (3, 1)] w := fun _ => by kernel_rfl
@[reducible] def tF152 (p : (Qw → Option Bool)) : Ty := tfn prog [] (A := Qw) (B := Bool) (fun x => [Qy.ty x]) (fun y => tb y) (p)
@[reducible] def Qi5 : Rep (Qw → Option Bool) := ⟨fun p => [tF152 p],1,false,fun _ => rfl,fun _ => Qp QbI Q7,fun _ => rfl⟩
@[reducible] def Qtd : Rep (Option (Qw → Option Bool)) := ⟨fun p => [tfo (tF152) p],1,false,fun _ => rfl,fun _ => Qp (QeP (fun _ => QbI)) Q7,fun _ => rfl⟩
theorem tok152:TOk prog 152 Qi5 8 .nilFunc:=⟨⟨_,underlying152,rfl⟩,by kernel_rfl,rfl⟩
theorem zok152:∀F w,(Qtd.ty none).ok F w .nilFunc:=fun _ _=>rfl
structure QV where
  is:Bool
  code:Int
deriving Inhabited
@[reducible] def QaK : Rep QV := ⟨fun x => ([tb x.is,ti x.code]),2,true,fun _ => rfl,fun _ => (Qp (QZ rfl) (Qp (QZ rfl) Q7)),fun h => (by cases h)⟩
theorem QoO:TOk prog 155 QaK 16 (.agg #[(.bool false),(.int .i64 0)]):=⟨⟨_,underlying155,rfl⟩,by kernel_rfl,rfl⟩
theorem QrX:∀F w,QG (QaK.cs (QV.mk false (0:Int))) F w ((.agg #[(.bool false),(.int .i64 0)]):Value).cells.toList:=fun _ _=>(.cons rfl (.cons rfl .nil))
theorem zok155:∀F w,(QaK.ty (QV.mk false (0:Int))).ok F w (.agg #[(.bool false),(.int .i64 0)]):=fun F w=>⟨_,rfl,QrX F w⟩
theorem zv155:(prog.info? 155).bind (·.zero)=some (.agg #[(.bool false),(.int .i64 0)]):=by kernel_rfl
theorem pl155 : ∀ w, ((#[⟨"is", 4, 0, false, "", "diorama/typing", 0⟩, ⟨"code", 26, 1, false, "", "diorama/typing", 8⟩] : Array Field).mapM (fun f => do pure (f.offset, ← sizeOf f.type) : Field → Sem (Nat × Nat))).run Tryz.prog w = .ok #[(0, 1), (1, 1)] w := fun _ => by kernel_rfl
structure Qac where
  x:Qa
  kind:Int
  field:Int
  f:Qb
deriving Inhabited
@[reducible] def Qaq : Rep Qac := ⟨fun x => (Qf.cs x.x ++ [ti x.kind,ti x.field] ++ Qd.cs x.f),14,true,fun _ => rfl,fun _ => (Qiv (Qiv (Qiu Qf) (Qp (QZ rfl) (Qp (QZ rfl) Q7))) (Qiu Qd)),fun h => (by cases h)⟩
theorem Qte:TOk prog 163 Qaq 216 (.agg #[(.int .i64 0),(.slice none 0 0),(.slice none 0 0),(.slice none 0 0),(.int .i64 0),(.int .i64 0),(.string .empty),(.string .empty),(.string .empty),(.int .i64 0),(.int .i64 0),(.int .i64 0),(.slice none 0 0),(.slice none 0 0)]):=⟨⟨_,underlying163,rfl⟩,by kernel_rfl,rfl⟩
theorem QrY:∀F w,QG (Qaq.cs (Qac.mk (Qa.mk (0:Int) ([]:(List Qe)) ([]:(List Qw)) ([]:(List Qj))) (0:Int) (0:Int) (Qb.mk ([]:Str) ([]:Str) ([]:Str) (0:Int) (0:Int) (0:Int) ([]:(List Str)) ([]:(List Int))))) F w ((.agg #[(.int .i64 0),(.slice none 0 0),(.slice none 0 0),(.slice none 0 0),(.int .i64 0),(.int .i64 0),(.string .empty),(.string .empty),(.string .empty),(.int .i64 0),(.int .i64 0),(.int .i64 0),(.slice none 0 0),(.slice none 0 0)]):Value).cells.toList:=fun _ _=>(.cons rfl (.cons ⟨none,0,rfl,Nat.le_refl _,fun h=>(h rfl).elim⟩ (.cons ⟨none,0,rfl,Nat.le_refl _,fun h=>(h rfl).elim⟩ (.cons ⟨none,0,rfl,Nat.le_refl _,fun h=>(h rfl).elim⟩ (.cons rfl (.cons rfl (.cons rfl (.cons rfl (.cons rfl (.cons rfl (.cons rfl (.cons rfl (.cons ⟨none,0,rfl,Nat.le_refl _,fun h=>(h rfl).elim⟩ (.cons ⟨none,0,rfl,Nat.le_refl _,fun h=>(h rfl).elim⟩ .nil))))))))))))))
theorem zok163:∀F w,(Qaq.ty (Qac.mk (Qa.mk (0:Int) ([]:(List Qe)) ([]:(List Qw)) ([]:(List Qj))) (0:Int) (0:Int) (Qb.mk ([]:Str) ([]:Str) ([]:Str) (0:Int) (0:Int) (0:Int) ([]:(List Str)) ([]:(List Int))))).ok F w (.agg #[(.int .i64 0),(.slice none 0 0),(.slice none 0 0),(.slice none 0 0),(.int .i64 0),(.int .i64 0),(.string .empty),(.string .empty),(.string .empty),(.int .i64 0),(.int .i64 0),(.int .i64 0),(.slice none 0 0),(.slice none 0 0)]):=fun F w=>⟨_,rfl,QrY F w⟩
theorem zv163:(prog.info? 163).bind (·.zero)=some (.agg #[(.int .i64 0),(.slice none 0 0),(.slice none 0 0),(.slice none 0 0),(.int .i64 0),(.int .i64 0),(.string .empty),(.string .empty),(.string .empty),(.int .i64 0),(.int .i64 0),(.int .i64 0),(.slice none 0 0),(.slice none 0 0)]):=by kernel_rfl
theorem pl163 : ∀ w, ((#[⟨"x", 33, 0, false, "", "diorama/typing", 0⟩, ⟨"kind", 3, 4, false, "", "diorama/typing", 80⟩, ⟨"field", 3, 5, false, "", "diorama/typing", 88⟩, ⟨"f", 49, 6, false, "", "diorama/typing", 96⟩] : Array Field).mapM (fun f => do pure (f.offset, ← sizeOf f.type) : Field → Sem (Nat × Nat))).run Tryz.prog w = .ok #[(0, 4), (4, 1), (5, 1), (6, 8)] w := fun _ => by kernel_rfl
@[reducible] def tF158 (p : (Qac → Option Int)) : Ty := tfn prog [] (A := Qac) (B := Int) (fun x => [Qaq.ty x]) (fun y => ti y) (p)
@[reducible] def rF158 : Rep (Qac → Option Int) := ⟨fun p => [tF158 p],1,false,fun _ => rfl,fun _ => Qp QbI Q7,fun _ => rfl⟩
@[reducible] def Qiz : Rep (Option (Qac → Option Int)) := ⟨fun p => [tfo (tF158) p],1,false,fun _ => rfl,fun _ => Qp (QeP (fun _ => QbI)) Q7,fun _ => rfl⟩
theorem Qtf:TOk prog 158 rF158 8 .nilFunc:=⟨⟨_,underlying158,rfl⟩,by kernel_rfl,rfl⟩
theorem QvE:TOk prog 158 Qiz 8 .nilFunc:=⟨⟨_,underlying158,rfl⟩,by kernel_rfl,rfl⟩
theorem zok158:∀F w,(Qiz.ty none).ok F w .nilFunc:=fun _ _=>rfl
structure Qbz where
  check:(Option (Qac→Option Int))
instance :Inhabited Qbz:=⟨⟨none⟩⟩
@[reducible] def Qb5 : Rep Qbz := ⟨fun x => ([Qiz.ty x.check]),1,true,fun _ => rfl,fun _ => (Qp (QeP (fun _ => QbI)) Q7),fun h => (by cases h)⟩
theorem Ql1:TOk prog 159 Qb5 8 (.agg #[.nilFunc]):=⟨⟨_,underlying159,rfl⟩,by kernel_rfl,rfl⟩
theorem zc159:∀F w,QG (Qb5.cs (Qbz.mk none)) F w ((.agg #[.nilFunc]):Value).cells.toList:=fun _ _=>(.cons rfl .nil)
theorem Qtg:∀F w,(Qb5.ty (Qbz.mk none)).ok F w (.agg #[.nilFunc]):=fun F w=>⟨_,rfl,zc159 F w⟩
theorem zv159:(prog.info? 159).bind (·.zero)=some (.agg #[.nilFunc]):=by kernel_rfl
theorem pl159 : ∀ w, ((#[⟨"check", 158, 0, false, "", "diorama/typing", 0⟩] : Array Field).mapM (fun f => do pure (f.offset, ← sizeOf f.type) : Field → Sem (Nat × Nat))).run Tryz.prog w = .ok #[(0, 1)] w := fun _ => by kernel_rfl
@[reducible] def tF202 (p : (Qe → Option Bool)) : Ty := tfn prog [] (A := Qe) (B := Bool) (fun x => [Qh.ty x]) (fun y => tb y) (p)
@[reducible] def Qi6 : Rep (Qe → Option Bool) := ⟨fun p => [tF202 p],1,false,fun _ => rfl,fun _ => Qp QbI Q7,fun _ => rfl⟩
@[reducible] def Qth : Rep (Option (Qe → Option Bool)) := ⟨fun p => [tfo (tF202) p],1,false,fun _ => rfl,fun _ => Qp (QeP (fun _ => QbI)) Q7,fun _ => rfl⟩
theorem tok202:TOk prog 202 Qi6 8 .nilFunc:=⟨⟨_,underlying202,rfl⟩,by kernel_rfl,rfl⟩
theorem zok202:∀F w,(Qth.ty none).ok F w .nilFunc:=fun _ _=>rfl
@[reducible] def tF208 (p : (Qb → Option Bool)) : Ty := tfn prog [] (A := Qb) (B := Bool) (fun x => [Qd.ty x]) (fun y => tb y) (p)
@[reducible] def Qi7 : Rep (Qb → Option Bool) := ⟨fun p => [tF208 p],1,false,fun _ => rfl,fun _ => Qp QbI Q7,fun _ => rfl⟩
@[reducible] def Qti : Rep (Option (Qb → Option Bool)) := ⟨fun p => [tfo (tF208) p],1,false,fun _ => rfl,fun _ => Qp (QeP (fun _ => QbI)) Q7,fun _ => rfl⟩
theorem tok208:TOk prog 208 Qi7 8 .nilFunc:=⟨⟨_,underlying208,rfl⟩,by kernel_rfl,rfl⟩
theorem zok208:∀F w,(Qti.ty none).ok F w .nilFunc:=fun _ _=>rfl
structure QU where
  a:Int
  b:Int
  n:Int
deriving Inhabited
@[reducible] def QN : Rep QU := ⟨fun x => ([ti x.a,ti x.b,ti x.n]),3,true,fun _ => rfl,fun _ => (Qp (QZ rfl) (Qp (QZ rfl) (Qp (QZ rfl) Q7))),fun h => (by cases h)⟩
theorem QoP:TOk prog 212 QN 24 (.agg #[(.int .i64 0),(.int .i64 0),(.int .i64 0)]):=⟨⟨_,underlying212,rfl⟩,by kernel_rfl,rfl⟩
theorem zc212:∀F w,QG (QN.cs (QU.mk (0:Int) (0:Int) (0:Int))) F w ((.agg #[(.int .i64 0),(.int .i64 0),(.int .i64 0)]):Value).cells.toList:=fun _ _=>(.cons rfl (.cons rfl (.cons rfl .nil)))
theorem Qzp:∀F w,(QN.ty (QU.mk (0:Int) (0:Int) (0:Int))).ok F w (.agg #[(.int .i64 0),(.int .i64 0),(.int .i64 0)]):=fun F w=>⟨_,rfl,zc212 F w⟩
theorem zv212:(prog.info? 212).bind (·.zero)=some (.agg #[(.int .i64 0),(.int .i64 0),(.int .i64 0)]):=by kernel_rfl
theorem pl212 : ∀ w, ((#[⟨"a", 3, 0, false, "", "diorama/bounds", 0⟩, ⟨"b", 3, 1, false, "", "diorama/bounds", 8⟩, ⟨"n", 3, 2, false, "", "diorama/bounds", 16⟩] : Array Field).mapM (fun f => do pure (f.offset, ← sizeOf f.type) : Field → Sem (Nat × Nat))).run Tryz.prog w = .ok #[(0, 1), (1, 1), (2, 1)] w := fun _ => by kernel_rfl
@[reducible] def tF233 (p : (Str → Option Bool)) : Ty := tfn prog [] (A := Str) (B := Bool) (fun x => [tv (.string (sB x))]) (fun y => tb y) (p)
@[reducible] def Qi8 : Rep (Str → Option Bool) := ⟨fun p => [tF233 p],1,false,fun _ => rfl,fun _ => Qp QbI Q7,fun _ => rfl⟩
@[reducible] def Qtj : Rep (Option (Str → Option Bool)) := ⟨fun p => [tfo (tF233) p],1,false,fun _ => rfl,fun _ => Qp (QeP (fun _ => QbI)) Q7,fun _ => rfl⟩
theorem tok233:TOk prog 233 Qi8 8 .nilFunc:=⟨⟨_,underlying233,rfl⟩,by kernel_rfl,rfl⟩
theorem zok233:∀F w,(Qtj.ty none).ok F w .nilFunc:=fun _ _=>rfl
@[reducible] def tF238 (p : (QE → Option Bool)) : Ty := tfn prog [] (A := QE) (B := Bool) (fun x => [Qaa.ty x]) (fun y => tb y) (p)
@[reducible] def Qi9 : Rep (QE → Option Bool) := ⟨fun p => [tF238 p],1,false,fun _ => rfl,fun _ => Qp QbI Q7,fun _ => rfl⟩
@[reducible] def Qtk : Rep (Option (QE → Option Bool)) := ⟨fun p => [tfo (tF238) p],1,false,fun _ => rfl,fun _ => Qp (QeP (fun _ => QbI)) Q7,fun _ => rfl⟩
theorem tok238:TOk prog 238 Qi9 8 .nilFunc:=⟨⟨_,underlying238,rfl⟩,by kernel_rfl,rfl⟩
theorem zok238:∀F w,(Qtk.ty none).ok F w .nilFunc:=fun _ _=>rfl
@[reducible] def tF264 (p : (Int → Option Bool)) : Ty := tfn prog [] (A := Int) (B := Bool) (fun x => [tv (.int .u8 x)]) (fun y => tb y) (p)
@[reducible] def Ql2 : Rep (Int → Option Bool) := ⟨fun p => [tF264 p],1,false,fun _ => rfl,fun _ => Qp QbI Q7,fun _ => rfl⟩
@[reducible] def Qtl : Rep (Option (Int → Option Bool)) := ⟨fun p => [tfo (tF264) p],1,false,fun _ => rfl,fun _ => Qp (QeP (fun _ => QbI)) Q7,fun _ => rfl⟩
theorem tok264:TOk prog 264 Ql2 8 .nilFunc:=⟨⟨_,underlying264,rfl⟩,by kernel_rfl,rfl⟩
theorem zok264:∀F w,(Qtl.ty none).ok F w .nilFunc:=fun _ _=>rfl
theorem QaW:TOk prog 22 rVal 24 (.slice none 0 0):=⟨⟨_,underlying22,rfl⟩,by kernel_rfl,rfl⟩
theorem Qtm:TOk prog 25 rVal 24 (.slice none 0 0):=⟨⟨_,underlying25,rfl⟩,by kernel_rfl,rfl⟩
theorem QbV:TOk prog 29 rVal 24 (.slice none 0 0):=⟨⟨_,underlying29,rfl⟩,by kernel_rfl,rfl⟩
theorem tokV30:TOk prog 30 rVal 24 (.slice none 0 0):=⟨⟨_,underlying30,rfl⟩,by kernel_rfl,rfl⟩
theorem Qtn:TOk prog 31 rVal 24 (.slice none 0 0):=⟨⟨_,underlying31,rfl⟩,by kernel_rfl,rfl⟩
theorem Qbo:TOk prog 45 rVal 24 (.slice none 0 0):=⟨⟨_,underlying45,rfl⟩,by kernel_rfl,rfl⟩
theorem Qto:TOk prog 58 rVal 24 (.slice none 0 0):=⟨⟨_,underlying58,rfl⟩,by kernel_rfl,rfl⟩
theorem Qd6:TOk prog 68 rVal 24 (.slice none 0 0):=⟨⟨_,underlying68,rfl⟩,by kernel_rfl,rfl⟩
theorem Qtp:TOk prog 75 rVal 24 (.slice none 0 0):=⟨⟨_,underlying75,rfl⟩,by kernel_rfl,rfl⟩
theorem tokV77:TOk prog 77 rVal 24 (.slice none 0 0):=⟨⟨_,underlying77,rfl⟩,by kernel_rfl,rfl⟩
theorem Qf9:TOk prog 22 (rSn rI) 24 (.slice none 0 0):=⟨⟨_,underlying22,rfl⟩,by kernel_rfl,rfl⟩
theorem zokN22:∀F w,((rSn rI).ty []).ok F w (.slice none 0 0):=fun _ _=>⟨⟨none,0,rfl,Nat.le_refl _,fun h=>(h rfl).elim⟩,fun _=>rfl⟩
theorem tokN68:TOk prog 68 (rSl (rSn rI)) 24 (.slice none 0 0):=⟨⟨_,underlying68,rfl⟩,by kernel_rfl,rfl⟩
theorem QqL:Qv prog 33 0 0:=Qv.mk underlying33 rfl rfl tok3 (by decide)
theorem QaL:Qv prog 33 1 1:=Qv.mk underlying33 rfl rfl QkA (by decide)
theorem Qxv:Qv prog 33 2 2:=Qv.mk underlying33 rfl rfl tok30 (by decide)
theorem QiA:Qv prog 33 3 3:=Qv.mk underlying33 rfl rfl QlZ (by decide)
theorem Qgt:Qv prog 47 0 0:=Qv.mk underlying47 rfl rfl tok9 (by decide)
theorem QmM:Qv prog 47 1 1:=Qv.mk underlying47 rfl rfl tok3 (by decide)
theorem QmN:Qv prog 47 2 2:=Qv.mk underlying47 rfl rfl tok3 (by decide)
theorem Qaw:Qv prog 47 3 3:=Qv.mk underlying47 rfl rfl QhY (by decide)
theorem QkC:Qv prog 49 0 0:=Qv.mk underlying49 rfl rfl tok9 (by decide)
theorem QmO:Qv prog 49 1 1:=Qv.mk underlying49 rfl rfl tok9 (by decide)
theorem QqM:Qv prog 49 2 2:=Qv.mk underlying49 rfl rfl tok9 (by decide)
theorem Qf0:Qv prog 49 3 3:=Qv.mk underlying49 rfl rfl tok3 (by decide)
theorem Qgu:Qv prog 49 4 4:=Qv.mk underlying49 rfl rfl tok3 (by decide)
theorem Qgv:Qv prog 49 5 5:=Qv.mk underlying49 rfl rfl tok3 (by decide)
theorem Qxw:Qv prog 49 6 6:=Qv.mk underlying49 rfl rfl QhX (by decide)
theorem Qxx:Qv prog 49 7 7:=Qv.mk underlying49 rfl rfl QrS (by decide)
theorem Qxy:Qv prog 67 0 0:=Qv.mk underlying67 rfl rfl tok3 (by decide)
theorem Qxz:Qv prog 67 1 1:=Qv.mk underlying67 rfl rfl tok3 (by decide)
theorem QxA:Qv prog 67 2 2:=Qv.mk underlying67 rfl rfl tok3 (by decide)
theorem QqN:Qv prog 79 0 0:=Qv.mk underlying79 rfl rfl Qci (by decide)
theorem QiB:Qv prog 79 1 4:=Qv.mk underlying79 rfl rfl QkB (by decide)
theorem QxB:Qv prog 79 2 5:=Qv.mk underlying79 rfl rfl Qzq (by decide)
theorem QxC:Qv prog 79 3 6:=Qv.mk underlying79 rfl rfl QrU (by decide)
theorem Qlg:Qv prog 104 0 0:=Qv.mk underlying104 rfl rfl tok9 (by decide)
theorem QoQ:Qv prog 104 1 1:=Qv.mk underlying104 rfl rfl tok9 (by decide)
theorem Qlh:Qv prog 104 2 2:=Qv.mk underlying104 rfl rfl tok9 (by decide)
theorem Qli:Qv prog 104 3 3:=Qv.mk underlying104 rfl rfl tok9 (by decide)
theorem Qlj:Qv prog 104 4 4:=Qv.mk underlying104 rfl rfl tok3 (by decide)
theorem QvF:Qv prog 107 0 0:=Qv.mk underlying107 rfl rfl QrS (by decide)
theorem QvG:Qv prog 107 1 1:=Qv.mk underlying107 rfl rfl tok3 (by decide)
theorem QvH:Qv prog 111 0 0:=Qv.mk underlying111 rfl rfl tok9 (by decide)
theorem QvI:Qv prog 111 1 1:=Qv.mk underlying111 rfl rfl QhX (by decide)
theorem QvJ:Qv prog 111 2 2:=Qv.mk underlying111 rfl rfl QrU (by decide)
theorem QvK:Qv prog 119 0 0:=Qv.mk underlying119 rfl rfl tok3 (by decide)
theorem QvL:Qv prog 119 1 1:=Qv.mk underlying119 rfl rfl tok9 (by decide)
theorem QvM:Qv prog 119 2 2:=Qv.mk underlying119 rfl rfl QrV (by decide)
theorem QvN:Qv prog 146 0 0:=Qv.mk underlying146 rfl rfl tok3 (by decide)
theorem QvO:Qv prog 146 1 1:=Qv.mk underlying146 rfl rfl tok3 (by decide)
theorem QvP:Qv prog 146 2 2:=Qv.mk underlying146 rfl rfl tok3 (by decide)
theorem QvQ:Qv prog 146 3 3:=Qv.mk underlying146 rfl rfl tok4 (by decide)
theorem QvR:Qv prog 149 3 3:=Qv.mk underlying149 rfl rfl QrT (by decide)
theorem QvS:Qv prog 155 0 0:=Qv.mk underlying155 rfl rfl tok4 (by decide)
theorem QvT:Qv prog 155 1 1:=Qv.mk underlying155 rfl rfl QrT (by decide)
theorem QoR:Qv prog 159 0 0:=Qv.mk underlying159 rfl rfl Qtf (by decide)
theorem QvU:Qv prog 163 0 0:=Qv.mk underlying163 rfl rfl Qci (by decide)
theorem QvV:Qv prog 163 1 4:=Qv.mk underlying163 rfl rfl tok3 (by decide)
theorem QvW:Qv prog 163 2 5:=Qv.mk underlying163 rfl rfl tok3 (by decide)
theorem QvX:Qv prog 163 3 6:=Qv.mk underlying163 rfl rfl Qar (by decide)
theorem Qlk:Qv prog 212 0 0:=Qv.mk underlying212 rfl rfl tok3 (by decide)
theorem Qll:Qv prog 212 1 1:=Qv.mk underlying212 rfl rfl tok3 (by decide)
theorem QoS:Qv prog 212 2 2:=Qv.mk underlying212 rfl rfl tok3 (by decide)
theorem QrZ:Qi prog 9:=⟨⟨_,func9,by kernel_rfl,rfl⟩⟩
theorem Qtq:Qi prog 11:=⟨⟨_,func11,by kernel_rfl,rfl⟩⟩
theorem Qtr:Qi prog 13:=⟨⟨_,func13,by kernel_rfl,rfl⟩⟩
theorem call14:Qi prog 14:=⟨⟨_,func14,by kernel_rfl,rfl⟩⟩
theorem call15:Qi prog 15:=⟨⟨_,func15,by kernel_rfl,rfl⟩⟩
theorem call17:Qi prog 17:=⟨⟨_,func17,by kernel_rfl,rfl⟩⟩
theorem Qts:Qi prog 18:=⟨⟨_,func18,by kernel_rfl,rfl⟩⟩
theorem Qtt:Qi prog 19:=⟨⟨_,func19,by kernel_rfl,rfl⟩⟩
theorem Qtu:Qi prog 20:=⟨⟨_,func20,by kernel_rfl,rfl⟩⟩
theorem call25:Qi prog 25:=⟨⟨_,func25,by kernel_rfl,rfl⟩⟩
theorem Qtv:Qi prog 29:=⟨⟨_,func29,by kernel_rfl,rfl⟩⟩
theorem Qtw:Qi prog 30:=⟨⟨_,func30,by kernel_rfl,rfl⟩⟩
theorem QoT:Qi prog 31:=⟨⟨_,func31,by kernel_rfl,rfl⟩⟩
theorem QoU:Qi prog 32:=⟨⟨_,func32,by kernel_rfl,rfl⟩⟩
theorem Qtx:Qi prog 33:=⟨⟨_,func33,by kernel_rfl,rfl⟩⟩
theorem QoV:Qi prog 34:=⟨⟨_,func34,by kernel_rfl,rfl⟩⟩
theorem QoW:Qi prog 35:=⟨⟨_,func35,by kernel_rfl,rfl⟩⟩
theorem Qty:Qi prog 36:=⟨⟨_,func36,by kernel_rfl,rfl⟩⟩
theorem Qtz:Qi prog 37:=⟨⟨_,func37,by kernel_rfl,rfl⟩⟩
theorem QtA:Qi prog 38:=⟨⟨_,func38,by kernel_rfl,rfl⟩⟩
theorem call44:Qi prog 44:=⟨⟨_,func44,by kernel_rfl,rfl⟩⟩
theorem QoX:Qi prog 45:=⟨⟨_,func45,by kernel_rfl,rfl⟩⟩
theorem QtB:Qi prog 46:=⟨⟨_,func46,by kernel_rfl,rfl⟩⟩
theorem QtC:Qi prog 47:=⟨⟨_,func47,by kernel_rfl,rfl⟩⟩
theorem QtD:Qi prog 49:=⟨⟨_,func49,by kernel_rfl,rfl⟩⟩
theorem QeH:Qi prog 50:=⟨⟨_,func50,by kernel_rfl,rfl⟩⟩
theorem QtE:Qi prog 51:=⟨⟨_,func51,by kernel_rfl,rfl⟩⟩
theorem call52:Qi prog 52:=⟨⟨_,func52,by kernel_rfl,rfl⟩⟩
theorem call53:Qi prog 53:=⟨⟨_,func53,by kernel_rfl,rfl⟩⟩
theorem QoY:Qi prog 54:=⟨⟨_,func54,by kernel_rfl,rfl⟩⟩
theorem QtF:Qi prog 55:=⟨⟨_,func55,by kernel_rfl,rfl⟩⟩
theorem call67:Qi prog 67:=⟨⟨_,func67,by kernel_rfl,rfl⟩⟩
theorem call70:Qi prog 70:=⟨⟨_,func70,by kernel_rfl,rfl⟩⟩
theorem call77:Qi prog 77:=⟨⟨_,func77,by kernel_rfl,rfl⟩⟩
theorem QjU:Qi prog 78:=⟨⟨_,func78,by kernel_rfl,rfl⟩⟩
theorem call79:Qi prog 79:=⟨⟨_,func79,by kernel_rfl,rfl⟩⟩
theorem call80:Qi prog 80:=⟨⟨_,func80,by kernel_rfl,rfl⟩⟩
theorem QtG:Qi prog 81:=⟨⟨_,func81,by kernel_rfl,rfl⟩⟩
theorem QtH:Qi prog 82:=⟨⟨_,func82,by kernel_rfl,rfl⟩⟩
theorem QtI:Qi prog 83:=⟨⟨_,func83,by kernel_rfl,rfl⟩⟩
theorem QtJ:Qi prog 84:=⟨⟨_,func84,by kernel_rfl,rfl⟩⟩
theorem QtK:Qi prog 87:=⟨⟨_,func87,by kernel_rfl,rfl⟩⟩
theorem QtL:Qi prog 89:=⟨⟨_,func89,by kernel_rfl,rfl⟩⟩
theorem Qzs:Qi prog 90:=⟨⟨_,func90,by kernel_rfl,rfl⟩⟩
theorem QoZ:Qi prog 91:=⟨⟨_,func91,by kernel_rfl,rfl⟩⟩
theorem QtM:Qi prog 92:=⟨⟨_,func92,by kernel_rfl,rfl⟩⟩
theorem Qo0:Qi prog 93:=⟨⟨_,func93,by kernel_rfl,rfl⟩⟩
theorem call95:Qi prog 95:=⟨⟨_,func95,by kernel_rfl,rfl⟩⟩
theorem QqO:Qi prog 102:=⟨⟨_,func102,by kernel_rfl,rfl⟩⟩
theorem QxD:Qi prog 103:=⟨⟨_,func103,by kernel_rfl,rfl⟩⟩
theorem QqP:Qi prog 104:=⟨⟨_,func104,by kernel_rfl,rfl⟩⟩
theorem QxE:Qi prog 105:=⟨⟨_,func105,by kernel_rfl,rfl⟩⟩
theorem QxF:Qi prog 106:=⟨⟨_,func106,by kernel_rfl,rfl⟩⟩
theorem QmP:Qi prog 107:=⟨⟨_,func107,by kernel_rfl,rfl⟩⟩
theorem QxG:Qi prog 108:=⟨⟨_,func108,by kernel_rfl,rfl⟩⟩
theorem QxH:Qi prog 109:=⟨⟨_,func109,by kernel_rfl,rfl⟩⟩
theorem QmQ:Qi prog 110:=⟨⟨_,func110,by kernel_rfl,rfl⟩⟩
theorem QmR:Qi prog 111:=⟨⟨_,func111,by kernel_rfl,rfl⟩⟩
theorem QmS:Qi prog 112:=⟨⟨_,func112,by kernel_rfl,rfl⟩⟩
theorem QxI:Qi prog 113:=⟨⟨_,func113,by kernel_rfl,rfl⟩⟩
theorem QxJ:Qi prog 114:=⟨⟨_,func114,by kernel_rfl,rfl⟩⟩
theorem QxK:Qi prog 119:=⟨⟨_,func119,by kernel_rfl,rfl⟩⟩
theorem QxL:Qi prog 120:=⟨⟨_,func120,by kernel_rfl,rfl⟩⟩
theorem QxM:Qi prog 121:=⟨⟨_,func121,by kernel_rfl,rfl⟩⟩
theorem QxN:Qi prog 122:=⟨⟨_,func122,by kernel_rfl,rfl⟩⟩
theorem QxO:Qi prog 123:=⟨⟨_,func123,by kernel_rfl,rfl⟩⟩
theorem QxP:Qi prog 124:=⟨⟨_,func124,by kernel_rfl,rfl⟩⟩
theorem QxQ:Qi prog 125:=⟨⟨_,func125,by kernel_rfl,rfl⟩⟩
theorem QxR:Qi prog 126:=⟨⟨_,func126,by kernel_rfl,rfl⟩⟩
theorem QxS:Qi prog 127:=⟨⟨_,func127,by kernel_rfl,rfl⟩⟩
theorem QxT:Qi prog 128:=⟨⟨_,func128,by kernel_rfl,rfl⟩⟩
theorem QxU:Qi prog 129:=⟨⟨_,func129,by kernel_rfl,rfl⟩⟩
theorem QxV:Qi prog 130:=⟨⟨_,func130,by kernel_rfl,rfl⟩⟩
theorem QxW:Qi prog 131:=⟨⟨_,func131,by kernel_rfl,rfl⟩⟩
theorem QmT:Qi prog 132:=⟨⟨_,func132,by kernel_rfl,rfl⟩⟩
theorem QqQ:Qi prog 133:=⟨⟨_,func133,by kernel_rfl,rfl⟩⟩
theorem QxX:Qi prog 134:=⟨⟨_,func134,by kernel_rfl,rfl⟩⟩
theorem QxY:Qi prog 155:=⟨⟨_,func155,by kernel_rfl,rfl⟩⟩
theorem QxZ:Qi prog 156:=⟨⟨_,func156,by kernel_rfl,rfl⟩⟩
theorem Qx0:Qi prog 157:=⟨⟨_,func157,by kernel_rfl,rfl⟩⟩
theorem Qx1:Qi prog 161:=⟨⟨_,func161,by kernel_rfl,rfl⟩⟩
theorem Qx2:Qi prog 162:=⟨⟨_,func162,by kernel_rfl,rfl⟩⟩
theorem Qx3:Qi prog 163:=⟨⟨_,func163,by kernel_rfl,rfl⟩⟩
theorem Qx4:Qi prog 164:=⟨⟨_,func164,by kernel_rfl,rfl⟩⟩
theorem Qx5:Qi prog 165:=⟨⟨_,func165,by kernel_rfl,rfl⟩⟩
theorem Qx6:Qi prog 166:=⟨⟨_,func166,by kernel_rfl,rfl⟩⟩
theorem Qx7:Qi prog 167:=⟨⟨_,func167,by kernel_rfl,rfl⟩⟩
theorem Qx8:Qi prog 168:=⟨⟨_,func168,by kernel_rfl,rfl⟩⟩
theorem Qx9:Qi prog 169:=⟨⟨_,func169,by kernel_rfl,rfl⟩⟩
theorem Qya:Qi prog 170:=⟨⟨_,func170,by kernel_rfl,rfl⟩⟩
theorem Qyb:Qi prog 171:=⟨⟨_,func171,by kernel_rfl,rfl⟩⟩
theorem Qgw:Qi prog 173:=⟨⟨_,func173,by kernel_rfl,rfl⟩⟩
theorem QqR:Qi prog 174:=⟨⟨_,func174,by kernel_rfl,rfl⟩⟩
theorem QmU:Qi prog 175:=⟨⟨_,func175,by kernel_rfl,rfl⟩⟩
theorem QqS:Qi prog 177:=⟨⟨_,func177,by kernel_rfl,rfl⟩⟩
theorem QmV:Qi prog 178:=⟨⟨_,func178,by kernel_rfl,rfl⟩⟩
theorem Qyc:Qi prog 194:=⟨⟨_,func194,by kernel_rfl,rfl⟩⟩
theorem QqT:Qi prog 195:=⟨⟨_,func195,by kernel_rfl,rfl⟩⟩
theorem QqU:Qi prog 196:=⟨⟨_,func196,by kernel_rfl,rfl⟩⟩
theorem Qyd:Qi prog 197:=⟨⟨_,func197,by kernel_rfl,rfl⟩⟩
theorem Qye:Qi prog 198:=⟨⟨_,func198,by kernel_rfl,rfl⟩⟩
theorem Qyf:Qi prog 199:=⟨⟨_,func199,by kernel_rfl,rfl⟩⟩
theorem Qyg:Qi prog 200:=⟨⟨_,func200,by kernel_rfl,rfl⟩⟩
theorem Qyh:Qi prog 201:=⟨⟨_,func201,by kernel_rfl,rfl⟩⟩
theorem Qyi:Qi prog 202:=⟨⟨_,func202,by kernel_rfl,rfl⟩⟩
theorem Qyj:Qi prog 203:=⟨⟨_,func203,by kernel_rfl,rfl⟩⟩
theorem Qyk:Qi prog 204:=⟨⟨_,func204,by kernel_rfl,rfl⟩⟩
theorem Qyl:Qi prog 205:=⟨⟨_,func205,by kernel_rfl,rfl⟩⟩
theorem Qym:Qi prog 209:=⟨⟨_,func209,by kernel_rfl,rfl⟩⟩
theorem Qyn:Qi prog 211:=⟨⟨_,func211,by kernel_rfl,rfl⟩⟩
theorem Qyo:Qi prog 221:=⟨⟨_,func221,by kernel_rfl,rfl⟩⟩
theorem Qyp:Qi prog 222:=⟨⟨_,func222,by kernel_rfl,rfl⟩⟩
theorem Qyq:Qi prog 223:=⟨⟨_,func223,by kernel_rfl,rfl⟩⟩
theorem Qyr:Qi prog 260:=⟨⟨_,func260,by kernel_rfl,rfl⟩⟩
theorem QqV:Qi prog 263:=⟨⟨_,func263,by kernel_rfl,rfl⟩⟩
theorem QqW:Qi prog 264:=⟨⟨_,func264,by kernel_rfl,rfl⟩⟩
theorem QqX:Qi prog 265:=⟨⟨_,func265,by kernel_rfl,rfl⟩⟩
theorem QqY:Qi prog 266:=⟨⟨_,func266,by kernel_rfl,rfl⟩⟩
theorem Qys:Qi prog 267:=⟨⟨_,func267,by kernel_rfl,rfl⟩⟩
theorem QqZ:Qi prog 268:=⟨⟨_,func268,by kernel_rfl,rfl⟩⟩
theorem Qyt:Qi prog 269:=⟨⟨_,func269,by kernel_rfl,rfl⟩⟩
theorem Qq0:Qi prog 270:=⟨⟨_,func270,by kernel_rfl,rfl⟩⟩
theorem Qyu:Qi prog 271:=⟨⟨_,func271,by kernel_rfl,rfl⟩⟩
theorem Qq1:Qi prog 272:=⟨⟨_,func272,by kernel_rfl,rfl⟩⟩
theorem Qq2:TOk prog 81 rVal 8 .nilFunc:=⟨⟨_,underlying81,rfl⟩,by kernel_rfl,rfl⟩
theorem tokP73:TOk prog 73 rVal 8 (.pointer none):=⟨⟨_,underlying73,rfl⟩,by kernel_rfl,rfl⟩
section
variable {M:Fr} {w0:World} {n:Nat} {Γ:List (Nat×Ty)} {As:List Atom} {a:Act} {w:World}
theorem _root_.Go.Sim.St.t1_0 {x0:Nat×Ty} (h:St M w0 n Γ As a w) (is:List Nat) (p:Qds Γ is=[x0]:=by exact rfl) (q:As=[]:=by exact rfl):St M w0 n [x0] [] a w:=h.to is _ _ p q
theorem _root_.Go.Sim.St.t2_1 {x0 x1:Nat×Ty} {y0:Atom} (h:St M w0 n Γ As a w) (is:List Nat) (p:Qds Γ is=[x0,x1]:=by exact rfl) (q:As=[y0]:=by exact rfl):St M w0 n [x0,x1] [y0] a w:=h.to is _ _ p q
theorem _root_.Go.Sim.St.t3_0 {x0 x1 x2:Nat×Ty} (h:St M w0 n Γ As a w) (is:List Nat) (p:Qds Γ is=[x0,x1,x2]:=by exact rfl) (q:As=[]:=by exact rfl):St M w0 n [x0,x1,x2] [] a w:=h.to is _ _ p q
theorem _root_.Go.Sim.St.t7_3 {x0 x1 x2 x3 x4 x5 x6:Nat×Ty} {y0 y1 y2:Atom} (h:St M w0 n Γ As a w) (is:List Nat) (p:Qds Γ is=[x0,x1,x2,x3,x4,x5,x6]:=by exact rfl) (q:As=[y0,y1,y2]:=by exact rfl):St M w0 n [x0,x1,x2,x3,x4,x5,x6] [y0,y1,y2] a w:=h.to is _ _ p q
theorem _root_.Go.Sim.St.t8_5 {x0 x1 x2 x3 x4 x5 x6 x7:Nat×Ty} {y0 y1 y2 y3 y4:Atom} (h:St M w0 n Γ As a w) (is:List Nat) (p:Qds Γ is=[x0,x1,x2,x3,x4,x5,x6,x7]:=by exact rfl) (q:As=[y0,y1,y2,y3,y4]:=by exact rfl):St M w0 n [x0,x1,x2,x3,x4,x5,x6,x7] [y0,y1,y2,y3,y4] a w:=h.to is _ _ p q
theorem _root_.Go.Sim.St.t11_9 {x0 x1 x2 x3 x4 x5 x6 x7 x8 x9 x10:Nat×Ty} {y0 y1 y2 y3 y4 y5 y6 y7 y8:Atom} (h:St M w0 n Γ As a w) (is:List Nat) (p:Qds Γ is=[x0,x1,x2,x3,x4,x5,x6,x7,x8,x9,x10]:=by exact rfl) (q:As=[y0,y1,y2,y3,y4,y5,y6,y7,y8]:=by exact rfl):St M w0 n [x0,x1,x2,x3,x4,x5,x6,x7,x8,x9,x10] [y0,y1,y2,y3,y4,y5,y6,y7,y8] a w:=h.to is _ _ p q
end
abbrev zz0:Qb:=(Qb.mk ([]:Str) ([]:Str) ([]:Str) (0:Int) (0:Int) (0:Int) ([]:(List Str)) ([]:(List Int)))
abbrev zz1:Qe:=(Qe.mk ([]:Str) (0:Int) (0:Int) ([]:(List Qb)))
abbrev zz2:Qw:=(Qw.mk ([]:Str) ([]:(List Str)) ([]:(List QE)))
abbrev zz3:Qj:=(Qj.mk ([]:Str) ([]:Str) ([]:Str) ([]:Str) (0:Int))
abbrev zz4:Qa:=(Qa.mk (0:Int) ([]:(List Qe)) ([]:(List Qw)) ([]:(List Qj)))
abbrev zz5:QU:=(QU.mk (0:Int) (0:Int) (0:Int))
abbrev Qog:=underlying112
abbrev Qzo:=underlying165
abbrev Qoh:=underlying176
abbrev Ql3:=underlying178
abbrev ud22:=underlying22
abbrev Qoi:=underlying249
abbrev ud25:=underlying25
abbrev ud29:=underlying29
abbrev ud3:=underlying3
abbrev ud31:=underlying31
abbrev ud45:=underlying45
abbrev ud49:=underlying49
abbrev ud68:=underlying68
abbrev ud75:=underlying75
abbrev ud76:=underlying76
abbrev ud9:=underlying9
end Go.Proofs.YtlajingmjmnfgaaGreatDoor

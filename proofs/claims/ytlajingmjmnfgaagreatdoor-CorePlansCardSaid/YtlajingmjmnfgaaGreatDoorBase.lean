/- Closed facts on the types and functions of the translation, written by a program. No condition. -/
import Derived.Test.YtlajingmjmnfgaaGreatDoorSimW
import Derived.Test.YtlajingmjmnfgaaGreatDoorRows
set_option linter.all false
open List Go.Proofs.Tryz
namespace Go.Proofs.YtlajingmjmnfgaaGreatDoor
open Go.Sim
theorem mixed:prog.follows .mixedOrders=true:=by kernel_rfl
theorem mx:prog.follows .mixedOrders=true:=mixed
def QhM:List (Value×Value):=[(.int .i64 0,.agg #[.func (.func 263) #[] #[]]),(.int .i64 1,.agg #[.func (.func 264) #[] #[]]),(.int .i64 4,.agg #[.func (.func 265) #[] #[]]),(.int .i64 5,.agg #[.func (.func 266) #[] #[]]),(.int .i64 6,.agg #[.func (.func 268) #[] #[]]),(.int .i64 7,.agg #[.func (.func 270) #[] #[]]),(.int .i64 8,.agg #[.func (.func 272) #[] #[]])]
def Qvx:Ty:=Ql5 QhM
def Qt9:List Ty:=[Qvx]
theorem tokM0:TOk prog 161 (rMapC QhM) 8 (.map none):=⟨⟨_,underlying161,rfl⟩,(by kernel_rfl:(prog.info? 161).map (fun i=>(i.zero,i.size,i.bytes))=some (some (.map none),1,8)),rfl⟩
def QjI:List Str:=[[107,101,121],[114,101,102],[110,117,109],[112,105,99,107],[100,97,121],[115,116,101,112],[115,117,109],[115,104,97,114,101],[99,111,112,121]]
def Qua:List Ty:=QjI.flatMap rS.cs
def QqN:List Int:=[1,10,100,1000,10000,100000,1000000,10000000,100000000,1000000000,10000000000,100000000000,1000000000000,10000000000000,100000000000000,1000000000000000,10000000000000000,100000000000000000,1000000000000000000,10000000000000000000]
def Qub:List Ty:=QqN.flatMap (rInt .u64).cs
def Quc:List Int:=[0,1,28,2,29,14,24,3,30,22,20,15,25,17,4,8,31,27,13,23,21,19,16,7,26,12,18,6,11,5,10,9]
def tglo3:List Ty:=Quc.flatMap (rInt .u8).cs
def Qud:List Int:=[0,1,56,2,57,49,28,3,61,58,42,50,38,29,17,4,62,47,59,36,45,43,51,22,53,39,33,30,24,18,12,5,63,55,48,27,60,41,37,16,46,35,44,21,52,32,23,11,54,26,40,15,34,20,31,10,25,14,19,9,13,8,7,6]
def tglo4:List Ty:=Qud.flatMap (rInt .u8).cs
abbrev bld:=bldE 242 5
def glo:Atom:=gloA [(0,Qt9),(1,Qua),(2,Qub),(3,tglo3),(4,tglo4)]
theorem QqO:∀k,¬glo.fp k:=fun _ h=>h
theorem _root_.Go.Sim.OpJ.glo {P:Program} {o:Oper} {Γ:List (Nat×Ty)} {U E:List Atom} {N:Value→List Atom} {T:Value→Ty} (h:OpJ P o Γ U (glo::E) N T):OpJ P o Γ (glo::U) E N T:=OpJ.gloG QqO h
theorem QAm:Ql4 glo 0 Qt9:=Qor (by simp)
theorem Qyg:Qlf glo 0 Qt9:=QAm.has
theorem QAn:Ql4 glo 1 Qua:=Qor (by simp)
theorem Qyh:Qlf glo 1 Qua:=QAn.has
theorem QAo:Ql4 glo 2 Qub:=Qor (by simp)
theorem tok3:TOk prog 3 rI 8 (.int .i64 0):=⟨⟨_,underlying3,rfl⟩,by kernel_rfl,rfl⟩
theorem zok3:∀F w,(rI.ty (0:Int)).ok F w (.int .i64 0):=fun _ _=>rfl
theorem tok4:TOk prog 4 QaN 1 (.bool false):=⟨⟨_,underlying4,rfl⟩,by kernel_rfl,rfl⟩
theorem zok4:∀F w,(QaN.ty false).ok F w (.bool false):=fun _ _=>rfl
theorem tok5:TOk prog 5 (rInt .u8) 1 (.int .u8 0):=⟨⟨_,underlying5,rfl⟩,by kernel_rfl,rfl⟩
theorem tok9:TOk prog 9 rS 16 (.string .empty):=⟨⟨_,underlying9,rfl⟩,by kernel_rfl,rfl⟩
theorem QnC:TOk prog 20 (rAny 3 9) 16 .nilIface:=⟨⟨_,underlying20,rfl⟩,by kernel_rfl,rfl⟩
theorem Qkl:TOk prog 22 (rSl rI) 24 (.slice none 0 0):=⟨⟨_,underlying22,rfl⟩,by kernel_rfl,rfl⟩
theorem Qja:TOk prog 25 (rSl rS) 24 (.slice none 0 0):=⟨⟨_,underlying25,rfl⟩,by kernel_rfl,rfl⟩
theorem zok25:∀F w,((rSl rS).ty ([]:(List Str))).ok F w (.slice none 0 0):=fun _ _=>⟨none,0,rfl,Nat.le_refl _,fun h=>(h rfl).elim⟩
theorem Que:TOk prog 26 rI 8 (.int .i64 0):=⟨⟨_,underlying26,rfl⟩,by kernel_rfl,rfl⟩
structure Qc where
  Name:Str
  Of:Str
  Up:Str
  Kind:Int
  Lo:Int
  Hi:Int
  Words:(List Str)
  Weights:(List Int)
deriving Inhabited
@[reducible] def Qd : Rep Qc := ⟨fun x => ([tv (.string (sB x.Name)),tv (.string (sB x.Of)),tv (.string (sB x.Up)),ti x.Kind,ti x.Lo,ti x.Hi,tsl rS x.Words,tsl rI x.Weights]),8,true,fun _ => rfl,fun _ => (Qp (Q1 rfl) (Qp (Q1 rfl) (Qp (Q1 rfl) (Qp (Q1 rfl) (Qp (Q1 rfl) (Qp (Q1 rfl) (Qp Qba (Qp Qba Qaf)))))))),fun h => (by cases h)⟩
theorem QaW:TOk prog 49 Qd 120 (.agg #[(.string .empty),(.string .empty),(.string .empty),(.int .i64 0),(.int .i64 0),(.int .i64 0),(.slice none 0 0),(.slice none 0 0)]):=⟨⟨_,underlying49,rfl⟩,by kernel_rfl,rfl⟩
theorem zc49:∀F w,QQ (Qd.cs (Qc.mk ([]:Str) ([]:Str) ([]:Str) (0:Int) (0:Int) (0:Int) ([]:(List Str)) ([]:(List Int)))) F w ((.agg #[(.string .empty),(.string .empty),(.string .empty),(.int .i64 0),(.int .i64 0),(.int .i64 0),(.slice none 0 0),(.slice none 0 0)]):Value).cells.toList:=fun _ _=>(.cons rfl (.cons rfl (.cons rfl (.cons rfl (.cons rfl (.cons rfl (.cons ⟨none,0,rfl,Nat.le_refl _,fun h=>(h rfl).elim⟩ (.cons ⟨none,0,rfl,Nat.le_refl _,fun h=>(h rfl).elim⟩ .nil))))))))
theorem Ql9:∀F w,(Qd.ty (Qc.mk ([]:Str) ([]:Str) ([]:Str) (0:Int) (0:Int) (0:Int) ([]:(List Str)) ([]:(List Int)))).ok F w (.agg #[(.string .empty),(.string .empty),(.string .empty),(.int .i64 0),(.int .i64 0),(.int .i64 0),(.slice none 0 0),(.slice none 0 0)]):=fun F w=>⟨_,rfl,zc49 F w⟩
theorem zv49:(prog.info? 49).bind (·.zero)=some (.agg #[(.string .empty),(.string .empty),(.string .empty),(.int .i64 0),(.int .i64 0),(.int .i64 0),(.slice none 0 0),(.slice none 0 0)]):=by kernel_rfl
theorem pl49 : ∀ w, ((#[⟨"Name", 9, 0, false, "", "", 0⟩, ⟨"Of", 9, 1, false, "", "", 16⟩, ⟨"Up", 9, 2, false, "", "", 32⟩, ⟨"Kind", 3, 3, false, "", "", 48⟩, ⟨"Lo", 3, 4, false, "", "", 56⟩, ⟨"Hi", 3, 5, false, "", "", 64⟩, ⟨"Words", 25, 6, false, "", "", 72⟩, ⟨"Weights", 22, 7, false, "", "", 96⟩] : Array Field).mapM (fun f => do pure (f.offset, ← sizeOf f.type) : Field → Sem (Nat × Nat))).run Tryz.prog w = .ok #[(0, 1), (1, 1), (2, 1), (3, 1), (4, 1), (5, 1), (6, 1), (7, 1)] w := fun _ => by kernel_rfl
theorem Qyi:(∀F w,QQ ([tv (.string (sB ([]:Str))),tv (.string (sB ([]:Str))),tv (.string (sB ([]:Str))),ti (0:Int),ti (0:Int),ti (0:Int),tsl rS ([]:(List Str)),tvs nilV]) F w ((.agg #[(.string .empty),(.string .empty),(.string .empty),(.int .i64 0),(.int .i64 0),(.int .i64 0),(.slice none 0 0),(.slice none 0 0)]):Value).cells.toList)∧([tv (.string (sB ([]:Str))),tv (.string (sB ([]:Str))),tv (.string (sB ([]:Str))),ti (0:Int),ti (0:Int),ti (0:Int),tsl rS ([]:(List Str)),tvs nilV]).length=8∧Qd.agg=true∧∃cs,((.agg #[(.string .empty),(.string .empty),(.string .empty),(.int .i64 0),(.int .i64 0),(.int .i64 0),(.slice none 0 0),(.slice none 0 0)]):Value)=.agg cs:=⟨fun _ _=>(.cons rfl (.cons rfl (.cons rfl (.cons rfl (.cons rfl (.cons rfl (.cons ⟨none,0,rfl,Nat.le_refl _,fun h=>(h rfl).elim⟩ (.cons ⟨rfl,rfl⟩ .nil)))))))),rfl,rfl,_,rfl⟩
theorem Qjb:TOk prog 45 (rSl Qd) 24 (.slice none 0 0):=⟨⟨_,underlying45,rfl⟩,by kernel_rfl,rfl⟩
structure Qg where
  Name:Str
  Lo:Int
  Hi:Int
  Fields:(List Qc)
deriving Inhabited
@[reducible] def Qh : Rep Qg := ⟨fun x => ([tv (.string (sB x.Name)),ti x.Lo,ti x.Hi,tsl Qd x.Fields]),4,true,fun _ => rfl,fun _ => (Qp (Q1 rfl) (Qp (Q1 rfl) (Qp (Q1 rfl) (Qp Qba Qaf)))),fun h => (by cases h)⟩
theorem QcO:TOk prog 47 Qh 56 (.agg #[(.string .empty),(.int .i64 0),(.int .i64 0),(.slice none 0 0)]):=⟨⟨_,underlying47,rfl⟩,by kernel_rfl,rfl⟩
theorem zc47:∀F w,QQ (Qh.cs (Qg.mk ([]:Str) (0:Int) (0:Int) ([]:(List Qc)))) F w ((.agg #[(.string .empty),(.int .i64 0),(.int .i64 0),(.slice none 0 0)]):Value).cells.toList:=fun _ _=>(.cons rfl (.cons rfl (.cons rfl (.cons ⟨none,0,rfl,Nat.le_refl _,fun h=>(h rfl).elim⟩ .nil))))
theorem zok47:∀F w,(Qh.ty (Qg.mk ([]:Str) (0:Int) (0:Int) ([]:(List Qc)))).ok F w (.agg #[(.string .empty),(.int .i64 0),(.int .i64 0),(.slice none 0 0)]):=fun F w=>⟨_,rfl,zc47 F w⟩
theorem zv47:(prog.info? 47).bind (·.zero)=some (.agg #[(.string .empty),(.int .i64 0),(.int .i64 0),(.slice none 0 0)]):=by kernel_rfl
theorem pl47 : ∀ w, ((#[⟨"Name", 9, 0, false, "", "", 0⟩, ⟨"Lo", 3, 1, false, "", "", 16⟩, ⟨"Hi", 3, 2, false, "", "", 24⟩, ⟨"Fields", 45, 3, false, "", "", 32⟩] : Array Field).mapM (fun f => do pure (f.offset, ← sizeOf f.type) : Field → Sem (Nat × Nat))).run Tryz.prog w = .ok #[(0, 1), (1, 1), (2, 1), (3, 1)] w := fun _ => by kernel_rfl
theorem Qyj:(∀F w,QQ ([tv (.string (sB ([]:Str))),ti (0:Int),ti (0:Int),tvs nilV]) F w ((.agg #[(.string .empty),(.int .i64 0),(.int .i64 0),(.slice none 0 0)]):Value).cells.toList)∧([tv (.string (sB ([]:Str))),ti (0:Int),ti (0:Int),tvs nilV]).length=4∧Qh.agg=true∧∃cs,((.agg #[(.string .empty),(.int .i64 0),(.int .i64 0),(.slice none 0 0)]):Value)=.agg cs:=⟨fun _ _=>(.cons rfl (.cons rfl (.cons rfl (.cons ⟨rfl,rfl⟩ .nil)))),rfl,rfl,_,rfl⟩
theorem Qkm:TOk prog 29 (rSl Qh) 24 (.slice none 0 0):=⟨⟨_,underlying29,rfl⟩,by kernel_rfl,rfl⟩
structure QK where
  a0:Int
  a1:Int
deriving Inhabited
@[reducible] def Qal : Rep QK := ⟨fun x => ([ti x.a0,ti x.a1]),2,true,fun _ => rfl,fun _ => (Qp (Q1 rfl) (Qp (Q1 rfl) Qaf)),fun h => (by cases h)⟩
theorem Qvy:TOk prog 112 Qal 16 (.agg #[(.int .i64 0),(.int .i64 0)]):=⟨⟨_,underlying112,rfl⟩,by kernel_rfl,rfl⟩
theorem zc112:∀F w,QQ (Qal.cs (QK.mk (0:Int) (0:Int))) F w ((.agg #[(.int .i64 0),(.int .i64 0)]):Value).cells.toList:=fun _ _=>(.cons rfl (.cons rfl .nil))
theorem zok112:∀F w,(Qal.ty (QK.mk (0:Int) (0:Int))).ok F w (.agg #[(.int .i64 0),(.int .i64 0)]):=fun F w=>⟨_,rfl,zc112 F w⟩
theorem Quf:TOk prog 77 (rSl Qal) 24 (.slice none 0 0):=⟨⟨_,underlying77,rfl⟩,by kernel_rfl,rfl⟩
structure QB where
  Name:Str
  States:(List Str)
  Moves:(List QK)
deriving Inhabited
@[reducible] def QI : Rep QB := ⟨fun x => ([tv (.string (sB x.Name)),tsl rS x.States,tsl Qal x.Moves]),3,true,fun _ => rfl,fun _ => (Qp (Q1 rfl) (Qp Qba (Qp Qba Qaf))),fun h => (by cases h)⟩
theorem QnD:TOk prog 111 QI 64 (.agg #[(.string .empty),(.slice none 0 0),(.slice none 0 0)]):=⟨⟨_,underlying111,rfl⟩,by kernel_rfl,rfl⟩
theorem zc111:∀F w,QQ (QI.cs (QB.mk ([]:Str) ([]:(List Str)) ([]:(List QK)))) F w ((.agg #[(.string .empty),(.slice none 0 0),(.slice none 0 0)]):Value).cells.toList:=fun _ _=>(.cons rfl (.cons ⟨none,0,rfl,Nat.le_refl _,fun h=>(h rfl).elim⟩ (.cons ⟨none,0,rfl,Nat.le_refl _,fun h=>(h rfl).elim⟩ .nil)))
theorem Qvz:∀F w,(QI.ty (QB.mk ([]:Str) ([]:(List Str)) ([]:(List QK)))).ok F w (.agg #[(.string .empty),(.slice none 0 0),(.slice none 0 0)]):=fun F w=>⟨_,rfl,zc111 F w⟩
theorem zv111:(prog.info? 111).bind (·.zero)=some (.agg #[(.string .empty),(.slice none 0 0),(.slice none 0 0)]):=by kernel_rfl
theorem pl111 : ∀ w, ((#[⟨"Name", 9, 0, false, "", "", 0⟩, ⟨"States", 25, 1, false, "", "", 16⟩, ⟨"Moves", 77, 2, false, "", "", 40⟩] : Array Field).mapM (fun f => do pure (f.offset, ← sizeOf f.type) : Field → Sem (Nat × Nat))).run Tryz.prog w = .ok #[(0, 1), (1, 1), (2, 1)] w := fun _ => by kernel_rfl
theorem QvA:(∀F w,QQ ([tv (.string (sB ([]:Str))),tsl rS ([]:(List Str)),tvs nilV]) F w ((.agg #[(.string .empty),(.slice none 0 0),(.slice none 0 0)]):Value).cells.toList)∧([tv (.string (sB ([]:Str))),tsl rS ([]:(List Str)),tvs nilV]).length=3∧QI.agg=true∧∃cs,((.agg #[(.string .empty),(.slice none 0 0),(.slice none 0 0)]):Value)=.agg cs:=⟨fun _ _=>(.cons rfl (.cons ⟨none,0,rfl,Nat.le_refl _,fun h=>(h rfl).elim⟩ (.cons ⟨rfl,rfl⟩ .nil))),rfl,rfl,_,rfl⟩
theorem tok30:TOk prog 30 (rSl QI) 24 (.slice none 0 0):=⟨⟨_,underlying30,rfl⟩,by kernel_rfl,rfl⟩
structure Qo where
  Name:Str
  Kind:Str
  A:Str
  B:Str
  N:Int
deriving Inhabited
@[reducible] def QF : Rep Qo := ⟨fun x => ([tv (.string (sB x.Name)),tv (.string (sB x.Kind)),tv (.string (sB x.A)),tv (.string (sB x.B)),ti x.N]),5,true,fun _ => rfl,fun _ => (Qp (Q1 rfl) (Qp (Q1 rfl) (Qp (Q1 rfl) (Qp (Q1 rfl) (Qp (Q1 rfl) Qaf))))),fun h => (by cases h)⟩
theorem QvB:TOk prog 104 QF 72 (.agg #[(.string .empty),(.string .empty),(.string .empty),(.string .empty),(.int .i64 0)]):=⟨⟨_,underlying104,rfl⟩,by kernel_rfl,rfl⟩
theorem zc104:∀F w,QQ (QF.cs (Qo.mk ([]:Str) ([]:Str) ([]:Str) ([]:Str) (0:Int))) F w ((.agg #[(.string .empty),(.string .empty),(.string .empty),(.string .empty),(.int .i64 0)]):Value).cells.toList:=fun _ _=>(.cons rfl (.cons rfl (.cons rfl (.cons rfl (.cons rfl .nil)))))
theorem zok104:∀F w,(QF.ty (Qo.mk ([]:Str) ([]:Str) ([]:Str) ([]:Str) (0:Int))).ok F w (.agg #[(.string .empty),(.string .empty),(.string .empty),(.string .empty),(.int .i64 0)]):=fun F w=>⟨_,rfl,zc104 F w⟩
theorem zv104:(prog.info? 104).bind (·.zero)=some (.agg #[(.string .empty),(.string .empty),(.string .empty),(.string .empty),(.int .i64 0)]):=by kernel_rfl
theorem pl104 : ∀ w, ((#[⟨"Name", 9, 0, false, "", "", 0⟩, ⟨"Kind", 9, 1, false, "", "", 16⟩, ⟨"A", 9, 2, false, "", "", 32⟩, ⟨"B", 9, 3, false, "", "", 48⟩, ⟨"N", 3, 4, false, "", "", 64⟩] : Array Field).mapM (fun f => do pure (f.offset, ← sizeOf f.type) : Field → Sem (Nat × Nat))).run Tryz.prog w = .ok #[(0, 1), (1, 1), (2, 1), (3, 1), (4, 1)] w := fun _ => by kernel_rfl
theorem tok31:TOk prog 31 (rSl QF) 24 (.slice none 0 0):=⟨⟨_,underlying31,rfl⟩,by kernel_rfl,rfl⟩
structure Qa where
  Version:Int
  Kinds:(List Qg)
  Lives:(List QB)
  Rules:(List Qo)
deriving Inhabited
@[reducible] def Qf : Rep Qa := ⟨fun x => ([ti x.Version,tsl Qh x.Kinds,tsl QI x.Lives,tsl QF x.Rules]),4,true,fun _ => rfl,fun _ => (Qp (Q1 rfl) (Qp Qba (Qp Qba (Qp Qba Qaf)))),fun h => (by cases h)⟩
theorem Qc2:TOk prog 33 Qf 80 (.agg #[(.int .i64 0),(.slice none 0 0),(.slice none 0 0),(.slice none 0 0)]):=⟨⟨_,underlying33,rfl⟩,by kernel_rfl,rfl⟩
theorem zc33:∀F w,QQ (Qf.cs (Qa.mk (0:Int) ([]:(List Qg)) ([]:(List QB)) ([]:(List Qo)))) F w ((.agg #[(.int .i64 0),(.slice none 0 0),(.slice none 0 0),(.slice none 0 0)]):Value).cells.toList:=fun _ _=>(.cons rfl (.cons ⟨none,0,rfl,Nat.le_refl _,fun h=>(h rfl).elim⟩ (.cons ⟨none,0,rfl,Nat.le_refl _,fun h=>(h rfl).elim⟩ (.cons ⟨none,0,rfl,Nat.le_refl _,fun h=>(h rfl).elim⟩ .nil))))
theorem zok33:∀F w,(Qf.ty (Qa.mk (0:Int) ([]:(List Qg)) ([]:(List QB)) ([]:(List Qo)))).ok F w (.agg #[(.int .i64 0),(.slice none 0 0),(.slice none 0 0),(.slice none 0 0)]):=fun F w=>⟨_,rfl,zc33 F w⟩
theorem zv33:(prog.info? 33).bind (·.zero)=some (.agg #[(.int .i64 0),(.slice none 0 0),(.slice none 0 0),(.slice none 0 0)]):=by kernel_rfl
theorem pl33 : ∀ w, ((#[⟨"Version", 3, 0, false, "", "", 0⟩, ⟨"Kinds", 29, 1, false, "", "", 8⟩, ⟨"Lives", 30, 2, false, "", "", 32⟩, ⟨"Rules", 31, 3, false, "", "", 56⟩] : Array Field).mapM (fun f => do pure (f.offset, ← sizeOf f.type) : Field → Sem (Nat × Nat))).run Tryz.prog w = .ok #[(0, 1), (1, 1), (2, 1), (3, 1)] w := fun _ => by kernel_rfl
theorem QqP:(∀F w,QQ ([ti (0:Int),tvs nilV,tvs nilV,tvs nilV]) F w ((.agg #[(.int .i64 0),(.slice none 0 0),(.slice none 0 0),(.slice none 0 0)]):Value).cells.toList)∧([ti (0:Int),tvs nilV,tvs nilV,tvs nilV]).length=4∧Qf.agg=true∧∃cs,((.agg #[(.int .i64 0),(.slice none 0 0),(.slice none 0 0),(.slice none 0 0)]):Value)=.agg cs:=⟨fun _ _=>(.cons rfl (.cons ⟨rfl,rfl⟩ (.cons ⟨rfl,rfl⟩ (.cons ⟨rfl,rfl⟩ .nil)))),rfl,rfl,_,rfl⟩
structure Qz where
  A:Int
  B:Int
  N:Int
deriving Inhabited
@[reducible] def Qaj : Rep Qz := ⟨fun x => ([ti x.A,ti x.B,ti x.N]),3,true,fun _ => rfl,fun _ => (Qp (Q1 rfl) (Qp (Q1 rfl) (Qp (Q1 rfl) Qaf))),fun h => (by cases h)⟩
theorem Qqd:TOk prog 64 Qaj 24 (.agg #[(.int .i64 0),(.int .i64 0),(.int .i64 0)]):=⟨⟨_,underlying64,rfl⟩,by kernel_rfl,rfl⟩
theorem zc64:∀F w,QQ (Qaj.cs (Qz.mk (0:Int) (0:Int) (0:Int))) F w ((.agg #[(.int .i64 0),(.int .i64 0),(.int .i64 0)]):Value).cells.toList:=fun _ _=>(.cons rfl (.cons rfl (.cons rfl .nil)))
theorem zok64:∀F w,(Qaj.ty (Qz.mk (0:Int) (0:Int) (0:Int))).ok F w (.agg #[(.int .i64 0),(.int .i64 0),(.int .i64 0)]):=fun F w=>⟨_,rfl,zc64 F w⟩
theorem zv64:(prog.info? 64).bind (·.zero)=some (.agg #[(.int .i64 0),(.int .i64 0),(.int .i64 0)]):=by kernel_rfl
theorem pl64 : ∀ w, ((#[⟨"A", 3, 0, false, "", "", 0⟩, ⟨"B", 3, 1, false, "", "", 8⟩, ⟨"N", 3, 2, false, "", "", 16⟩] : Array Field).mapM (fun f => do pure (f.offset, ← sizeOf f.type) : Field → Sem (Nat × Nat))).run Tryz.prog w = .ok #[(0, 1), (1, 1), (2, 1)] w := fun _ => by kernel_rfl
structure QP where
  Kind:Int
  Name:Str
  Diff:Qz
deriving Inhabited
@[reducible] def Q5 : Rep QP := ⟨fun x => ([ti x.Kind,tv (.string (sB x.Name))] ++ Qaj.cs x.Diff),5,true,fun _ => rfl,fun _ => (Qd4 (Qp (Q1 rfl) (Qp (Q1 rfl) Qaf)) (Qft Qaj)),fun h => (by cases h)⟩
theorem Qjc:TOk prog 66 Q5 48 (.agg #[(.int .i64 0),(.string .empty),(.int .i64 0),(.int .i64 0),(.int .i64 0)]):=⟨⟨_,underlying66,rfl⟩,by kernel_rfl,rfl⟩
theorem zc66:∀F w,QQ (Q5.cs (QP.mk (0:Int) ([]:Str) (Qz.mk (0:Int) (0:Int) (0:Int)))) F w ((.agg #[(.int .i64 0),(.string .empty),(.int .i64 0),(.int .i64 0),(.int .i64 0)]):Value).cells.toList:=fun _ _=>(.cons rfl (.cons rfl (.cons rfl (.cons rfl (.cons rfl .nil)))))
theorem zok66:∀F w,(Q5.ty (QP.mk (0:Int) ([]:Str) (Qz.mk (0:Int) (0:Int) (0:Int)))).ok F w (.agg #[(.int .i64 0),(.string .empty),(.int .i64 0),(.int .i64 0),(.int .i64 0)]):=fun F w=>⟨_,rfl,zc66 F w⟩
theorem zv66:(prog.info? 66).bind (·.zero)=some (.agg #[(.int .i64 0),(.string .empty),(.int .i64 0),(.int .i64 0),(.int .i64 0)]):=by kernel_rfl
theorem pl66 : ∀ w, ((#[⟨"Kind", 3, 0, false, "", "", 0⟩, ⟨"Name", 9, 1, false, "", "", 8⟩, ⟨"Diff", 64, 2, false, "", "", 24⟩] : Array Field).mapM (fun f => do pure (f.offset, ← sizeOf f.type) : Field → Sem (Nat × Nat))).run Tryz.prog w = .ok #[(0, 1), (1, 1), (2, 3)] w := fun _ => by kernel_rfl
theorem Qma:TOk prog 67 Qaj 24 (.agg #[(.int .i64 0),(.int .i64 0),(.int .i64 0)]):=⟨⟨_,underlying67,rfl⟩,by kernel_rfl,rfl⟩
theorem zc67:∀F w,QQ (Qaj.cs (Qz.mk (0:Int) (0:Int) (0:Int))) F w ((.agg #[(.int .i64 0),(.int .i64 0),(.int .i64 0)]):Value).cells.toList:=fun _ _=>(.cons rfl (.cons rfl (.cons rfl .nil)))
theorem zok67:∀F w,(Qaj.ty (Qz.mk (0:Int) (0:Int) (0:Int))).ok F w (.agg #[(.int .i64 0),(.int .i64 0),(.int .i64 0)]):=fun F w=>⟨_,rfl,zc67 F w⟩
theorem zv67:(prog.info? 67).bind (·.zero)=some (.agg #[(.int .i64 0),(.int .i64 0),(.int .i64 0)]):=by kernel_rfl
theorem pl67 : ∀ w, ((#[⟨"A", 3, 0, false, "", "", 0⟩, ⟨"B", 3, 1, false, "", "", 8⟩, ⟨"N", 3, 2, false, "", "", 16⟩] : Array Field).mapM (fun f => do pure (f.offset, ← sizeOf f.type) : Field → Sem (Nat × Nat))).run Tryz.prog w = .ok #[(0, 1), (1, 1), (2, 1)] w := fun _ => by kernel_rfl
theorem tok68:TOk prog 68 (rSl (rSl rI)) 24 (.slice none 0 0):=⟨⟨_,underlying68,rfl⟩,by kernel_rfl,rfl⟩
structure Qe where
  A:Int
  B:Int
  Mul:Int
  Least:Bool
deriving Inhabited
@[reducible] def Qr : Rep Qe := ⟨fun x => ([ti x.A,ti x.B,ti x.Mul,tb x.Least]),4,true,fun _ => rfl,fun _ => (Qp (Q1 rfl) (Qp (Q1 rfl) (Qp (Q1 rfl) (Qp (Q1 rfl) Qaf)))),fun h => (by cases h)⟩
theorem QnE:TOk prog 146 Qr 32 (.agg #[(.int .i64 0),(.int .i64 0),(.int .i64 0),(.bool false)]):=⟨⟨_,underlying146,rfl⟩,by kernel_rfl,rfl⟩
theorem zc146:∀F w,QQ (Qr.cs (Qe.mk (0:Int) (0:Int) (0:Int) false)) F w ((.agg #[(.int .i64 0),(.int .i64 0),(.int .i64 0),(.bool false)]):Value).cells.toList:=fun _ _=>(.cons rfl (.cons rfl (.cons rfl (.cons rfl .nil))))
theorem zok146:∀F w,(Qr.ty (Qe.mk (0:Int) (0:Int) (0:Int) false)).ok F w (.agg #[(.int .i64 0),(.int .i64 0),(.int .i64 0),(.bool false)]):=fun F w=>⟨_,rfl,zc146 F w⟩
theorem zv146:(prog.info? 146).bind (·.zero)=some (.agg #[(.int .i64 0),(.int .i64 0),(.int .i64 0),(.bool false)]):=by kernel_rfl
theorem pl146 : ∀ w, ((#[⟨"A", 3, 0, false, "", "", 0⟩, ⟨"B", 3, 1, false, "", "", 8⟩, ⟨"Mul", 3, 2, false, "", "", 16⟩, ⟨"Least", 4, 3, false, "", "", 24⟩] : Array Field).mapM (fun f => do pure (f.offset, ← sizeOf f.type) : Field → Sem (Nat × Nat))).run Tryz.prog w = .ok #[(0, 1), (1, 1), (2, 1), (3, 1)] w := fun _ => by kernel_rfl
theorem Qkn:TOk prog 75 (rSl Qr) 24 (.slice none 0 0):=⟨⟨_,underlying75,rfl⟩,by kernel_rfl,rfl⟩
structure QT where
  kind:Int
  name:Str
  Diff:Qz
deriving Inhabited
@[reducible] def QR : Rep QT := ⟨fun x => ([ti x.kind,tv (.string (sB x.name))] ++ Qaj.cs x.Diff),5,true,fun _ => rfl,fun _ => (Qd4 (Qp (Q1 rfl) (Qp (Q1 rfl) Qaf)) (Qft Qaj)),fun h => (by cases h)⟩
theorem Qgo:TOk prog 119 QR 48 (.agg #[(.int .i64 0),(.string .empty),(.int .i64 0),(.int .i64 0),(.int .i64 0)]):=⟨⟨_,underlying119,rfl⟩,by kernel_rfl,rfl⟩
theorem QnF:∀F w,QQ (QR.cs (QT.mk (0:Int) ([]:Str) (Qz.mk (0:Int) (0:Int) (0:Int)))) F w ((.agg #[(.int .i64 0),(.string .empty),(.int .i64 0),(.int .i64 0),(.int .i64 0)]):Value).cells.toList:=fun _ _=>(.cons rfl (.cons rfl (.cons rfl (.cons rfl (.cons rfl .nil)))))
theorem QvC:∀F w,(QR.ty (QT.mk (0:Int) ([]:Str) (Qz.mk (0:Int) (0:Int) (0:Int)))).ok F w (.agg #[(.int .i64 0),(.string .empty),(.int .i64 0),(.int .i64 0),(.int .i64 0)]):=fun F w=>⟨_,rfl,QnF F w⟩
theorem Qqe:(prog.info? 119).bind (·.zero)=some (.agg #[(.int .i64 0),(.string .empty),(.int .i64 0),(.int .i64 0),(.int .i64 0)]):=by kernel_rfl
theorem Qqf : ∀ w, ((#[⟨"kind", 3, 0, false, "", "diorama/core", 0⟩, ⟨"name", 9, 1, false, "", "diorama/core", 8⟩, ⟨"Diff", 67, 2, true, "", "", 24⟩] : Array Field).mapM (fun f => do pure (f.offset, ← sizeOf f.type) : Field → Sem (Nat × Nat))).run Tryz.prog w = .ok #[(0, 1), (1, 1), (2, 3)] w := fun _ => by kernel_rfl
theorem Qug:TOk prog 76 (rSl QR) 24 (.slice none 0 0):=⟨⟨_,underlying76,rfl⟩,by kernel_rfl,rfl⟩
structure QaX where
  x:Qa
  limits:(List Qe)
  diffs:(List QT)
  refs:(List QK)
deriving Inhabited
@[reducible] def QS : Rep QaX := ⟨fun x => (Qf.cs x.x ++ [tsl Qr x.limits,tsl QR x.diffs,tsl Qal x.refs]),7,true,fun _ => rfl,fun _ => (Qd4 (Qft Qf) (Qp Qba (Qp Qba (Qp Qba Qaf)))),fun h => (by cases h)⟩
theorem tok79:TOk prog 79 QS 152 (.agg #[(.int .i64 0),(.slice none 0 0),(.slice none 0 0),(.slice none 0 0),(.slice none 0 0),(.slice none 0 0),(.slice none 0 0)]):=⟨⟨_,underlying79,rfl⟩,by kernel_rfl,rfl⟩
theorem zc79:∀F w,QQ (QS.cs (QaX.mk (Qa.mk (0:Int) ([]:(List Qg)) ([]:(List QB)) ([]:(List Qo))) ([]:(List Qe)) ([]:(List QT)) ([]:(List QK)))) F w ((.agg #[(.int .i64 0),(.slice none 0 0),(.slice none 0 0),(.slice none 0 0),(.slice none 0 0),(.slice none 0 0),(.slice none 0 0)]):Value).cells.toList:=fun _ _=>(.cons rfl (.cons ⟨none,0,rfl,Nat.le_refl _,fun h=>(h rfl).elim⟩ (.cons ⟨none,0,rfl,Nat.le_refl _,fun h=>(h rfl).elim⟩ (.cons ⟨none,0,rfl,Nat.le_refl _,fun h=>(h rfl).elim⟩ (.cons ⟨none,0,rfl,Nat.le_refl _,fun h=>(h rfl).elim⟩ (.cons ⟨none,0,rfl,Nat.le_refl _,fun h=>(h rfl).elim⟩ (.cons ⟨none,0,rfl,Nat.le_refl _,fun h=>(h rfl).elim⟩ .nil)))))))
theorem zok79:∀F w,(QS.ty (QaX.mk (Qa.mk (0:Int) ([]:(List Qg)) ([]:(List QB)) ([]:(List Qo))) ([]:(List Qe)) ([]:(List QT)) ([]:(List QK)))).ok F w (.agg #[(.int .i64 0),(.slice none 0 0),(.slice none 0 0),(.slice none 0 0),(.slice none 0 0),(.slice none 0 0),(.slice none 0 0)]):=fun F w=>⟨_,rfl,zc79 F w⟩
theorem zv79:(prog.info? 79).bind (·.zero)=some (.agg #[(.int .i64 0),(.slice none 0 0),(.slice none 0 0),(.slice none 0 0),(.slice none 0 0),(.slice none 0 0),(.slice none 0 0)]):=by kernel_rfl
theorem pl79 : ∀ w, ((#[⟨"x", 33, 0, false, "", "diorama/core", 0⟩, ⟨"limits", 75, 4, false, "", "diorama/core", 80⟩, ⟨"diffs", 76, 5, false, "", "diorama/core", 104⟩, ⟨"refs", 77, 6, false, "", "diorama/core", 128⟩] : Array Field).mapM (fun f => do pure (f.offset, ← sizeOf f.type) : Field → Sem (Nat × Nat))).run Tryz.prog w = .ok #[(0, 4), (4, 1), (5, 1), (6, 1)] w := fun _ => by kernel_rfl
theorem Qyk:(∀F w,QQ (Qf.cs (Qa.mk (0:Int) ([]:(List Qg)) ([]:(List QB)) ([]:(List Qo)))++[tsl Qr ([]:(List Qe)),tsl QR ([]:(List QT)),tvs nilV]) F w ((.agg #[(.int .i64 0),(.slice none 0 0),(.slice none 0 0),(.slice none 0 0),(.slice none 0 0),(.slice none 0 0),(.slice none 0 0)]):Value).cells.toList)∧(Qf.cs (Qa.mk (0:Int) ([]:(List Qg)) ([]:(List QB)) ([]:(List Qo)))++[tsl Qr ([]:(List Qe)),tsl QR ([]:(List QT)),tvs nilV]).length=7∧QS.agg=true∧∃cs,((.agg #[(.int .i64 0),(.slice none 0 0),(.slice none 0 0),(.slice none 0 0),(.slice none 0 0),(.slice none 0 0),(.slice none 0 0)]):Value)=.agg cs:=⟨fun _ _=>(.cons rfl (.cons ⟨none,0,rfl,Nat.le_refl _,fun h=>(h rfl).elim⟩ (.cons ⟨none,0,rfl,Nat.le_refl _,fun h=>(h rfl).elim⟩ (.cons ⟨none,0,rfl,Nat.le_refl _,fun h=>(h rfl).elim⟩ (.cons ⟨none,0,rfl,Nat.le_refl _,fun h=>(h rfl).elim⟩ (.cons ⟨none,0,rfl,Nat.le_refl _,fun h=>(h rfl).elim⟩ (.cons ⟨rfl,rfl⟩ .nil))))))),rfl,rfl,_,rfl⟩
theorem Qif:TOk prog 73 (rPtr QS) 8 (.pointer none):=⟨⟨_,underlying73,rfl⟩,by kernel_rfl,rfl⟩
@[reducible] def tF81 (p : (Int → Option Bool)) : Ty := tfn prog [] (A := Int) (B := Bool) (fun x => [ti x]) (fun y => tb y) (p)
@[reducible] def rF81 : Rep (Int → Option Bool) := ⟨fun p => [tF81 p],1,false,fun _ => rfl,fun _ => Qp QbZ Qaf,fun _ => rfl⟩
@[reducible] def rFo81 : Rep (Option (Int → Option Bool)) := ⟨fun p => [tfo (tF81) p],1,false,fun _ => rfl,fun _ => Qp (Qfu (fun _ => QbZ)) Qaf,fun _ => rfl⟩
theorem Quh:TOk prog 81 rF81 8 .nilFunc:=⟨⟨_,underlying81,rfl⟩,by kernel_rfl,rfl⟩
theorem zok81:∀F w,(rFo81.ty none).ok F w .nilFunc:=fun _ _=>rfl
theorem QhN:TOk prog 86 (rInt .u64) 8 (.int .u64 0):=⟨⟨_,underlying86,rfl⟩,by kernel_rfl,rfl⟩
theorem zok86:∀F w,((rInt .u64).ty (0:Int)).ok F w (.int .u64 0):=fun _ _=>rfl
theorem Qui:TOk prog 93 (rSl QaN) 24 (.slice none 0 0):=⟨⟨_,underlying93,rfl⟩,by kernel_rfl,rfl⟩
structure Qn where
  L:(List Int)
  I:Int
deriving Inhabited
@[reducible] def Qm : Rep Qn := ⟨fun x => ([tsl rI x.L,ti x.I]),2,true,fun _ => rfl,fun _ => (Qp Qba (Qp (Q1 rfl) Qaf)),fun h => (by cases h)⟩
theorem QvD:TOk prog 107 Qm 32 (.agg #[(.slice none 0 0),(.int .i64 0)]):=⟨⟨_,underlying107,rfl⟩,by kernel_rfl,rfl⟩
theorem zc107:∀F w,QQ (Qm.cs (Qn.mk ([]:(List Int)) (0:Int))) F w ((.agg #[(.slice none 0 0),(.int .i64 0)]):Value).cells.toList:=fun _ _=>(.cons ⟨none,0,rfl,Nat.le_refl _,fun h=>(h rfl).elim⟩ (.cons rfl .nil))
theorem zok107:∀F w,(Qm.ty (Qn.mk ([]:(List Int)) (0:Int))).ok F w (.agg #[(.slice none 0 0),(.int .i64 0)]):=fun F w=>⟨_,rfl,zc107 F w⟩
theorem zv107:(prog.info? 107).bind (·.zero)=some (.agg #[(.slice none 0 0),(.int .i64 0)]):=by kernel_rfl
theorem pl107 : ∀ w, ((#[⟨"L", 22, 0, false, "", "", 0⟩, ⟨"I", 3, 1, false, "", "", 24⟩] : Array Field).mapM (fun f => do pure (f.offset, ← sizeOf f.type) : Field → Sem (Nat × Nat))).run Tryz.prog w = .ok #[(0, 1), (1, 1)] w := fun _ => by kernel_rfl
@[reducible] def tF130 (p : (Qo → Option Bool)) : Ty := tfn prog [] (A := Qo) (B := Bool) (fun x => [QF.ty x]) (fun y => tb y) (p)
@[reducible] def Qko : Rep (Qo → Option Bool) := ⟨fun p => [tF130 p],1,false,fun _ => rfl,fun _ => Qp QbZ Qaf,fun _ => rfl⟩
@[reducible] def QvE : Rep (Option (Qo → Option Bool)) := ⟨fun p => [tfo (tF130) p],1,false,fun _ => rfl,fun _ => Qp (Qfu (fun _ => QbZ)) Qaf,fun _ => rfl⟩
theorem tok130:TOk prog 130 Qko 8 .nilFunc:=⟨⟨_,underlying130,rfl⟩,by kernel_rfl,rfl⟩
theorem zok130:∀F w,(QvE.ty none).ok F w .nilFunc:=fun _ _=>rfl
structure Qw where
  a0:Int
  a1:Int
  a2:Int
  a3:Int
  a4:Int
  a5:Int
deriving Inhabited
@[reducible] def QJ : Rep Qw := ⟨fun x => ([ti x.a0,ti x.a1,ti x.a2,ti x.a3,ti x.a4,ti x.a5]),6,true,fun _ => rfl,fun _ => (Qp (Q1 rfl) (Qp (Q1 rfl) (Qp (Q1 rfl) (Qp (Q1 rfl) (Qp (Q1 rfl) (Qp (Q1 rfl) Qaf)))))),fun h => (by cases h)⟩
@[reducible] def Qw.L (a : Qw) : List Int := [a.a0,a.a1,a.a2,a.a3,a.a4,a.a5]
def Qw.setI (a:Qw) (i:Int) (v:Int):Qw:=match i.toNat with | 0=>{ a with a0:=v } | 1=>{ a with a1:=v } | 2=>{ a with a2:=v } | 3=>{ a with a3:=v } | 4=>{ a with a4:=v } | 5=>{ a with a5:=v } | _=>a
theorem Qw.spl {pre post:List Ty} {a:Qw} {i:Int} {v u:Int} {o:Nat} (ho:pre.length=o) (h:idx a.L i=some u):splice (pre++QJ.cs a++post) (o+i.toNat) (rI.cs v)=pre++QJ.cs (a.setI i v)++post:=by
  have h1:=(idx_lt' h).2.1;unfold Qw.setI;revert h1;generalize i.toNat=k;intro h1;refine Qt2 ho (show k+1≤6 from h1) ?_
  match k,h1 with
  | 0,_=>rfl
  | 1,_=>rfl
  | 2,_=>rfl
  | 3,_=>rfl
  | 4,_=>rfl
  | 5,_=>rfl
theorem QiN:TOk prog 142 QJ 48 (.agg #[(.int .i64 0),(.int .i64 0),(.int .i64 0),(.int .i64 0),(.int .i64 0),(.int .i64 0)]):=⟨⟨_,underlying142,rfl⟩,by kernel_rfl,rfl⟩
def Qb3 (p q:Qw):Bool:=p.a0==q.a0&&p.a1==q.a1&&p.a2==q.a2&&p.a3==q.a3&&p.a4==q.a4&&p.a5==q.a5
set_option maxHeartbeats 2000000 in
theorem Qyl (n:Nat) (a0 b0:Int) (a1 b1:Int) (a2 b2:Int) (a3 b3:Int) (a4 b4:Int) (a5 b5:Int) (w:World):(Op.equalIn (n+2) 142 (.agg #[.int .i64 a0,.int .i64 a1,.int .i64 a2,.int .i64 a3,.int .i64 a4,.int .i64 a5]) (.agg #[.int .i64 b0,.int .i64 b1,.int .i64 b2,.int .i64 b3,.int .i64 b4,.int .i64 b5])).run prog w=.ok (a0==b0&&a1==b1&&a2==b2&&a3==b3&&a4==b4&&a5==b5) w:=by
  obtain⟨ie,hie,_,hse,_⟩:=tok3.info;have hse1:ie.size=1:=hse;have e3:∀x y:Int,(Op.equalIn (n+1) 3 (.int .i64 x) (.int .i64 y)).run prog w=.ok (x==y) w:=fun x y=>by simp[Op.equalIn,run_underlying underlying3]
  have pt:∀(xs:Array Value) (i:Nat) (v:Value),xs[i]?=some v→(part 3 xs i).run prog w=.ok v w:=fun xs i v h=>by simp[part,isAgg,run_underlying underlying3,h]
  have p0:∀u0 u1 u2 u3 u4 u5:Int,(part 3 #[.int .i64 u0,.int .i64 u1,.int .i64 u2,.int .i64 u3,.int .i64 u4,.int .i64 u5] 0).run prog w=.ok (.int .i64 u0) w:=fun _ _ _ _ _ _=>pt _ 0 _ rfl;have p1:∀u0 u1 u2 u3 u4 u5:Int,(part 3 #[.int .i64 u0,.int .i64 u1,.int .i64 u2,.int .i64 u3,.int .i64 u4,.int .i64 u5] 1).run prog w=.ok (.int .i64 u1) w:=fun _ _ _ _ _ _=>pt _ 1 _ rfl;have p2:∀u0 u1 u2 u3 u4 u5:Int,(part 3 #[.int .i64 u0,.int .i64 u1,.int .i64 u2,.int .i64 u3,.int .i64 u4,.int .i64 u5] 2).run prog w=.ok (.int .i64 u2) w:=fun _ _ _ _ _ _=>pt _ 2 _ rfl;have p3:∀u0 u1 u2 u3 u4 u5:Int,(part 3 #[.int .i64 u0,.int .i64 u1,.int .i64 u2,.int .i64 u3,.int .i64 u4,.int .i64 u5] 3).run prog w=.ok (.int .i64 u3) w:=fun _ _ _ _ _ _=>pt _ 3 _ rfl;have p4:∀u0 u1 u2 u3 u4 u5:Int,(part 3 #[.int .i64 u0,.int .i64 u1,.int .i64 u2,.int .i64 u3,.int .i64 u4,.int .i64 u5] 4).run prog w=.ok (.int .i64 u4) w:=fun _ _ _ _ _ _=>pt _ 4 _ rfl;have p5:∀u0 u1 u2 u3 u4 u5:Int,(part 3 #[.int .i64 u0,.int .i64 u1,.int .i64 u2,.int .i64 u3,.int .i64 u4,.int .i64 u5] 5).run prog w=.ok (.int .i64 u5) w:=fun _ _ _ _ _ _=>pt _ 5 _ rfl;unfold Op.equalIn;simp only[Sem.run_bind,run_underlying underlying142,Result.andThen_ok,sizeOf,typeInfo,run_program,hie,Sem.run_pure,hse1,Nat.mul_one];simp[range',p0,p1,p2,p3,p4,p5,e3];by_cases h0:a0=b0<;>by_cases h1:a1=b1<;>by_cases h2:a2=b2<;>by_cases h3:a3=b3<;>by_cases h4:a4=b4<;>by_cases h5:a5=b5<;>simp[h0,h1,h2,h3,h4,h5,p0,p1,p2,p3,p4,p5,e3]
theorem Quj:prog.eqGuardType prog.depth 142=false:=by kernel_rfl
theorem Qsk {Γ:List (Nat×Ty)} {d:Option Tmp} {ty t2:TypeId} {pos:String} {af:Array Edge} {g:Option (Nat×Bool)} {x y:Operand} {p q:Qw} (hx:Fct Γ x (QJ.ty p)) (hy:Fct Γ y (QJ.ty q)):
    OpJ prog ⟨d,.binOp .neq 142 x y t2,ty,pos,af,g⟩ Γ [] [] (fun _=>[]) (fun _=>tv (.bool (!Qb3 p q))):=
  QbX (u:=.agg #[.int .i64 p.a0,.int .i64 p.a1,.int .i64 p.a2,.int .i64 p.a3,.int .i64 p.a4,.int .i64 p.a5]) (v:=.agg #[.int .i64 q.a0,.int .i64 q.a1,.int .i64 q.a2,.int .i64 q.a3,.int .i64 q.a4,.int .i64 q.a5]) (hx.weak fun _ _ _ h=>by obtain⟨us,hv,hc⟩:=h;rw[hv];exact Qkg hc [.int .i64 p.a0,.int .i64 p.a1,.int .i64 p.a2,.int .i64 p.a3,.int .i64 p.a4,.int .i64 p.a5] rfl) (hy.weak fun _ _ _ h=>by obtain⟨us,hv,hc⟩:=h;rw[hv];exact Qkg hc [.int .i64 q.a0,.int .i64 q.a1,.int .i64 q.a2,.int .i64 q.a3,.int .i64 q.a4,.int .i64 q.a5] rfl) fun w=>by have:=Qyl 9998 p.a0 q.a0 p.a1 q.a1 p.a2 q.a2 p.a3 q.a3 p.a4 q.a4 p.a5 q.a5 w;simp only[eqGuard,binOp,Op.equal,run_program,Quj,Sem.run_bind,Result.andThen_ok];simp[Op.maxDepth,this,Qb3]
structure QA where
  limits:(List Qe)
  want:(List Int)
  leads:(List Bool)
  now:Qw
  best:Qw
  cost:Int
deriving Inhabited
@[reducible] def Qy : Rep QA := ⟨fun x => ([tsl Qr x.limits,tsl rI x.want,tsl QaN x.leads] ++ QJ.cs x.now ++ QJ.cs x.best ++ [ti x.cost]),16,true,fun _ => rfl,fun _ => (Qd4 (Qd4 (Qd4 (Qp Qba (Qp Qba (Qp Qba Qaf))) (Qft QJ)) (Qft QJ)) (Qp (Q1 rfl) Qaf)),fun h => (by cases h)⟩
theorem QvF:TOk prog 144 Qy 176 (.agg #[(.slice none 0 0),(.slice none 0 0),(.slice none 0 0),(.int .i64 0),(.int .i64 0),(.int .i64 0),(.int .i64 0),(.int .i64 0),(.int .i64 0),(.int .i64 0),(.int .i64 0),(.int .i64 0),(.int .i64 0),(.int .i64 0),(.int .i64 0),(.int .i64 0)]):=⟨⟨_,underlying144,rfl⟩,by kernel_rfl,rfl⟩
theorem Quk:∀F w,QQ (Qy.cs (QA.mk ([]:(List Qe)) ([]:(List Int)) ([]:(List Bool)) (Qw.mk (0:Int) (0:Int) (0:Int) (0:Int) (0:Int) (0:Int)) (Qw.mk (0:Int) (0:Int) (0:Int) (0:Int) (0:Int) (0:Int)) (0:Int))) F w ((.agg #[(.slice none 0 0),(.slice none 0 0),(.slice none 0 0),(.int .i64 0),(.int .i64 0),(.int .i64 0),(.int .i64 0),(.int .i64 0),(.int .i64 0),(.int .i64 0),(.int .i64 0),(.int .i64 0),(.int .i64 0),(.int .i64 0),(.int .i64 0),(.int .i64 0)]):Value).cells.toList:=fun _ _=>(.cons ⟨none,0,rfl,Nat.le_refl _,fun h=>(h rfl).elim⟩ (.cons ⟨none,0,rfl,Nat.le_refl _,fun h=>(h rfl).elim⟩ (.cons ⟨none,0,rfl,Nat.le_refl _,fun h=>(h rfl).elim⟩ (.cons rfl (.cons rfl (.cons rfl (.cons rfl (.cons rfl (.cons rfl (.cons rfl (.cons rfl (.cons rfl (.cons rfl (.cons rfl (.cons rfl (.cons rfl .nil))))))))))))))))
theorem zok144:∀F w,(Qy.ty (QA.mk ([]:(List Qe)) ([]:(List Int)) ([]:(List Bool)) (Qw.mk (0:Int) (0:Int) (0:Int) (0:Int) (0:Int) (0:Int)) (Qw.mk (0:Int) (0:Int) (0:Int) (0:Int) (0:Int) (0:Int)) (0:Int))).ok F w (.agg #[(.slice none 0 0),(.slice none 0 0),(.slice none 0 0),(.int .i64 0),(.int .i64 0),(.int .i64 0),(.int .i64 0),(.int .i64 0),(.int .i64 0),(.int .i64 0),(.int .i64 0),(.int .i64 0),(.int .i64 0),(.int .i64 0),(.int .i64 0),(.int .i64 0)]):=fun F w=>⟨_,rfl,Quk F w⟩
theorem zv144:(prog.info? 144).bind (·.zero)=some (.agg #[(.slice none 0 0),(.slice none 0 0),(.slice none 0 0),(.int .i64 0),(.int .i64 0),(.int .i64 0),(.int .i64 0),(.int .i64 0),(.int .i64 0),(.int .i64 0),(.int .i64 0),(.int .i64 0),(.int .i64 0),(.int .i64 0),(.int .i64 0),(.int .i64 0)]):=by kernel_rfl
theorem pl144 : ∀ w, ((#[⟨"limits", 75, 0, false, "", "diorama/counts", 0⟩, ⟨"want", 22, 1, false, "", "diorama/counts", 24⟩, ⟨"leads", 93, 2, false, "", "diorama/counts", 48⟩, ⟨"now", 142, 3, false, "", "diorama/counts", 72⟩, ⟨"best", 142, 9, false, "", "diorama/counts", 120⟩, ⟨"cost", 3, 15, false, "", "diorama/counts", 168⟩] : Array Field).mapM (fun f => do pure (f.offset, ← sizeOf f.type) : Field → Sem (Nat × Nat))).run Tryz.prog w = .ok #[(0, 1), (1, 1), (2, 1), (3, 6), (9, 6), (15, 1)] w := fun _ => by kernel_rfl
structure Qv where
  Kind:Int
  Field:Int
  Rule:Int
  Code:Int
deriving Inhabited
@[reducible] def QZ : Rep Qv := ⟨fun x => ([ti x.Kind,ti x.Field,ti x.Rule,ti x.Code]),4,true,fun _ => rfl,fun _ => (Qp (Q1 rfl) (Qp (Q1 rfl) (Qp (Q1 rfl) (Qp (Q1 rfl) Qaf)))),fun h => (by cases h)⟩
theorem QvG:TOk prog 149 QZ 32 (.agg #[(.int .i64 0),(.int .i64 0),(.int .i64 0),(.int .i64 0)]):=⟨⟨_,underlying149,rfl⟩,by kernel_rfl,rfl⟩
theorem zc149:∀F w,QQ (QZ.cs (Qv.mk (0:Int) (0:Int) (0:Int) (0:Int))) F w ((.agg #[(.int .i64 0),(.int .i64 0),(.int .i64 0),(.int .i64 0)]):Value).cells.toList:=fun _ _=>(.cons rfl (.cons rfl (.cons rfl (.cons rfl .nil))))
theorem zok149:∀F w,(QZ.ty (Qv.mk (0:Int) (0:Int) (0:Int) (0:Int))).ok F w (.agg #[(.int .i64 0),(.int .i64 0),(.int .i64 0),(.int .i64 0)]):=fun F w=>⟨_,rfl,zc149 F w⟩
theorem zv149:(prog.info? 149).bind (·.zero)=some (.agg #[(.int .i64 0),(.int .i64 0),(.int .i64 0),(.int .i64 0)]):=by kernel_rfl
theorem pl149 : ∀ w, ((#[⟨"Kind", 3, 0, false, "", "", 0⟩, ⟨"Field", 3, 1, false, "", "", 8⟩, ⟨"Rule", 3, 2, false, "", "", 16⟩, ⟨"Code", 26, 3, false, "", "", 24⟩] : Array Field).mapM (fun f => do pure (f.offset, ← sizeOf f.type) : Field → Sem (Nat × Nat))).run Tryz.prog w = .ok #[(0, 1), (1, 1), (2, 1), (3, 1)] w := fun _ => by kernel_rfl
@[reducible] def tF152 (p : (QB → Option Bool)) : Ty := tfn prog [] (A := QB) (B := Bool) (fun x => [QI.ty x]) (fun y => tb y) (p)
@[reducible] def Qkp : Rep (QB → Option Bool) := ⟨fun p => [tF152 p],1,false,fun _ => rfl,fun _ => Qp QbZ Qaf,fun _ => rfl⟩
@[reducible] def QvH : Rep (Option (QB → Option Bool)) := ⟨fun p => [tfo (tF152) p],1,false,fun _ => rfl,fun _ => Qp (Qfu (fun _ => QbZ)) Qaf,fun _ => rfl⟩
theorem tok152:TOk prog 152 Qkp 8 .nilFunc:=⟨⟨_,underlying152,rfl⟩,by kernel_rfl,rfl⟩
theorem zok152:∀F w,(QvH.ty none).ok F w .nilFunc:=fun _ _=>rfl
structure Q6 where
  is:Bool
  code:Int
deriving Inhabited
@[reducible] def Qa2 : Rep Q6 := ⟨fun x => ([tb x.is,ti x.code]),2,true,fun _ => rfl,fun _ => (Qp (Q1 rfl) (Qp (Q1 rfl) Qaf)),fun h => (by cases h)⟩
theorem QqQ:TOk prog 155 Qa2 16 (.agg #[(.bool false),(.int .i64 0)]):=⟨⟨_,underlying155,rfl⟩,by kernel_rfl,rfl⟩
theorem Qul:∀F w,QQ (Qa2.cs (Q6.mk false (0:Int))) F w ((.agg #[(.bool false),(.int .i64 0)]):Value).cells.toList:=fun _ _=>(.cons rfl (.cons rfl .nil))
theorem zok155:∀F w,(Qa2.ty (Q6.mk false (0:Int))).ok F w (.agg #[(.bool false),(.int .i64 0)]):=fun F w=>⟨_,rfl,Qul F w⟩
theorem zv155:(prog.info? 155).bind (·.zero)=some (.agg #[(.bool false),(.int .i64 0)]):=by kernel_rfl
theorem pl155 : ∀ w, ((#[⟨"is", 4, 0, false, "", "diorama/typing", 0⟩, ⟨"code", 26, 1, false, "", "diorama/typing", 8⟩] : Array Field).mapM (fun f => do pure (f.offset, ← sizeOf f.type) : Field → Sem (Nat × Nat))).run Tryz.prog w = .ok #[(0, 1), (1, 1)] w := fun _ => by kernel_rfl
structure Qam where
  x:Qa
  kind:Int
  field:Int
  f:Qc
deriving Inhabited
@[reducible] def QaA : Rep Qam := ⟨fun x => (Qf.cs x.x ++ [ti x.kind,ti x.field] ++ Qd.cs x.f),14,true,fun _ => rfl,fun _ => (Qd4 (Qd4 (Qft Qf) (Qp (Q1 rfl) (Qp (Q1 rfl) Qaf))) (Qft Qd)),fun h => (by cases h)⟩
theorem QvI:TOk prog 163 QaA 216 (.agg #[(.int .i64 0),(.slice none 0 0),(.slice none 0 0),(.slice none 0 0),(.int .i64 0),(.int .i64 0),(.string .empty),(.string .empty),(.string .empty),(.int .i64 0),(.int .i64 0),(.int .i64 0),(.slice none 0 0),(.slice none 0 0)]):=⟨⟨_,underlying163,rfl⟩,by kernel_rfl,rfl⟩
theorem Qum:∀F w,QQ (QaA.cs (Qam.mk (Qa.mk (0:Int) ([]:(List Qg)) ([]:(List QB)) ([]:(List Qo))) (0:Int) (0:Int) (Qc.mk ([]:Str) ([]:Str) ([]:Str) (0:Int) (0:Int) (0:Int) ([]:(List Str)) ([]:(List Int))))) F w ((.agg #[(.int .i64 0),(.slice none 0 0),(.slice none 0 0),(.slice none 0 0),(.int .i64 0),(.int .i64 0),(.string .empty),(.string .empty),(.string .empty),(.int .i64 0),(.int .i64 0),(.int .i64 0),(.slice none 0 0),(.slice none 0 0)]):Value).cells.toList:=fun _ _=>(.cons rfl (.cons ⟨none,0,rfl,Nat.le_refl _,fun h=>(h rfl).elim⟩ (.cons ⟨none,0,rfl,Nat.le_refl _,fun h=>(h rfl).elim⟩ (.cons ⟨none,0,rfl,Nat.le_refl _,fun h=>(h rfl).elim⟩ (.cons rfl (.cons rfl (.cons rfl (.cons rfl (.cons rfl (.cons rfl (.cons rfl (.cons rfl (.cons ⟨none,0,rfl,Nat.le_refl _,fun h=>(h rfl).elim⟩ (.cons ⟨none,0,rfl,Nat.le_refl _,fun h=>(h rfl).elim⟩ .nil))))))))))))))
theorem zok163:∀F w,(QaA.ty (Qam.mk (Qa.mk (0:Int) ([]:(List Qg)) ([]:(List QB)) ([]:(List Qo))) (0:Int) (0:Int) (Qc.mk ([]:Str) ([]:Str) ([]:Str) (0:Int) (0:Int) (0:Int) ([]:(List Str)) ([]:(List Int))))).ok F w (.agg #[(.int .i64 0),(.slice none 0 0),(.slice none 0 0),(.slice none 0 0),(.int .i64 0),(.int .i64 0),(.string .empty),(.string .empty),(.string .empty),(.int .i64 0),(.int .i64 0),(.int .i64 0),(.slice none 0 0),(.slice none 0 0)]):=fun F w=>⟨_,rfl,Qum F w⟩
theorem zv163:(prog.info? 163).bind (·.zero)=some (.agg #[(.int .i64 0),(.slice none 0 0),(.slice none 0 0),(.slice none 0 0),(.int .i64 0),(.int .i64 0),(.string .empty),(.string .empty),(.string .empty),(.int .i64 0),(.int .i64 0),(.int .i64 0),(.slice none 0 0),(.slice none 0 0)]):=by kernel_rfl
theorem pl163 : ∀ w, ((#[⟨"x", 33, 0, false, "", "diorama/typing", 0⟩, ⟨"kind", 3, 4, false, "", "diorama/typing", 80⟩, ⟨"field", 3, 5, false, "", "diorama/typing", 88⟩, ⟨"f", 49, 6, false, "", "diorama/typing", 96⟩] : Array Field).mapM (fun f => do pure (f.offset, ← sizeOf f.type) : Field → Sem (Nat × Nat))).run Tryz.prog w = .ok #[(0, 4), (4, 1), (5, 1), (6, 8)] w := fun _ => by kernel_rfl
@[reducible] def tF158 (p : (Qam → Option Int)) : Ty := tfn prog [] (A := Qam) (B := Int) (fun x => [QaA.ty x]) (fun y => ti y) (p)
@[reducible] def rF158 : Rep (Qam → Option Int) := ⟨fun p => [tF158 p],1,false,fun _ => rfl,fun _ => Qp QbZ Qaf,fun _ => rfl⟩
@[reducible] def QjJ : Rep (Option (Qam → Option Int)) := ⟨fun p => [tfo (tF158) p],1,false,fun _ => rfl,fun _ => Qp (Qfu (fun _ => QbZ)) Qaf,fun _ => rfl⟩
theorem QvJ:TOk prog 158 rF158 8 .nilFunc:=⟨⟨_,underlying158,rfl⟩,by kernel_rfl,rfl⟩
theorem Qym:TOk prog 158 QjJ 8 .nilFunc:=⟨⟨_,underlying158,rfl⟩,by kernel_rfl,rfl⟩
theorem zok158:∀F w,(QjJ.ty none).ok F w .nilFunc:=fun _ _=>rfl
structure QbO where
  check:(Option (Qam→Option Int))
instance :Inhabited QbO:=⟨⟨none⟩⟩
@[reducible] def Qcv : Rep QbO := ⟨fun x => ([QjJ.ty x.check]),1,true,fun _ => rfl,fun _ => (Qp (Qfu (fun _ => QbZ)) Qaf),fun h => (by cases h)⟩
theorem QnG:TOk prog 159 Qcv 8 (.agg #[.nilFunc]):=⟨⟨_,underlying159,rfl⟩,by kernel_rfl,rfl⟩
theorem zc159:∀F w,QQ (Qcv.cs (QbO.mk none)) F w ((.agg #[.nilFunc]):Value).cells.toList:=fun _ _=>(.cons rfl .nil)
theorem QvK:∀F w,(Qcv.ty (QbO.mk none)).ok F w (.agg #[.nilFunc]):=fun F w=>⟨_,rfl,zc159 F w⟩
theorem zv159:(prog.info? 159).bind (·.zero)=some (.agg #[.nilFunc]):=by kernel_rfl
theorem pl159 : ∀ w, ((#[⟨"check", 158, 0, false, "", "diorama/typing", 0⟩] : Array Field).mapM (fun f => do pure (f.offset, ← sizeOf f.type) : Field → Sem (Nat × Nat))).run Tryz.prog w = .ok #[(0, 1)] w := fun _ => by kernel_rfl
@[reducible] def tF202 (p : (Qg → Option Bool)) : Ty := tfn prog [] (A := Qg) (B := Bool) (fun x => [Qh.ty x]) (fun y => tb y) (p)
@[reducible] def Qkq : Rep (Qg → Option Bool) := ⟨fun p => [tF202 p],1,false,fun _ => rfl,fun _ => Qp QbZ Qaf,fun _ => rfl⟩
@[reducible] def QvL : Rep (Option (Qg → Option Bool)) := ⟨fun p => [tfo (tF202) p],1,false,fun _ => rfl,fun _ => Qp (Qfu (fun _ => QbZ)) Qaf,fun _ => rfl⟩
theorem tok202:TOk prog 202 Qkq 8 .nilFunc:=⟨⟨_,underlying202,rfl⟩,by kernel_rfl,rfl⟩
theorem zok202:∀F w,(QvL.ty none).ok F w .nilFunc:=fun _ _=>rfl
@[reducible] def tF208 (p : (Qc → Option Bool)) : Ty := tfn prog [] (A := Qc) (B := Bool) (fun x => [Qd.ty x]) (fun y => tb y) (p)
@[reducible] def Qkr : Rep (Qc → Option Bool) := ⟨fun p => [tF208 p],1,false,fun _ => rfl,fun _ => Qp QbZ Qaf,fun _ => rfl⟩
@[reducible] def QvM : Rep (Option (Qc → Option Bool)) := ⟨fun p => [tfo (tF208) p],1,false,fun _ => rfl,fun _ => Qp (Qfu (fun _ => QbZ)) Qaf,fun _ => rfl⟩
theorem tok208:TOk prog 208 Qkr 8 .nilFunc:=⟨⟨_,underlying208,rfl⟩,by kernel_rfl,rfl⟩
theorem zok208:∀F w,(QvM.ty none).ok F w .nilFunc:=fun _ _=>rfl
structure Q0 where
  a:Int
  b:Int
  n:Int
deriving Inhabited
@[reducible] def QL : Rep Q0 := ⟨fun x => ([ti x.a,ti x.b,ti x.n]),3,true,fun _ => rfl,fun _ => (Qp (Q1 rfl) (Qp (Q1 rfl) (Qp (Q1 rfl) Qaf))),fun h => (by cases h)⟩
theorem Qee:TOk prog 212 QL 24 (.agg #[(.int .i64 0),(.int .i64 0),(.int .i64 0)]):=⟨⟨_,underlying212,rfl⟩,by kernel_rfl,rfl⟩
theorem zc212:∀F w,QQ (QL.cs (Q0.mk (0:Int) (0:Int) (0:Int))) F w ((.agg #[(.int .i64 0),(.int .i64 0),(.int .i64 0)]):Value).cells.toList:=fun _ _=>(.cons rfl (.cons rfl (.cons rfl .nil)))
theorem QqR:∀F w,(QL.ty (Q0.mk (0:Int) (0:Int) (0:Int))).ok F w (.agg #[(.int .i64 0),(.int .i64 0),(.int .i64 0)]):=fun F w=>⟨_,rfl,zc212 F w⟩
theorem zv212:(prog.info? 212).bind (·.zero)=some (.agg #[(.int .i64 0),(.int .i64 0),(.int .i64 0)]):=by kernel_rfl
theorem pl212 : ∀ w, ((#[⟨"a", 3, 0, false, "", "diorama/bounds", 0⟩, ⟨"b", 3, 1, false, "", "diorama/bounds", 8⟩, ⟨"n", 3, 2, false, "", "diorama/bounds", 16⟩] : Array Field).mapM (fun f => do pure (f.offset, ← sizeOf f.type) : Field → Sem (Nat × Nat))).run Tryz.prog w = .ok #[(0, 1), (1, 1), (2, 1)] w := fun _ => by kernel_rfl
@[reducible] def tF233 (p : (Str → Option Bool)) : Ty := tfn prog [] (A := Str) (B := Bool) (fun x => [tv (.string (sB x))]) (fun y => tb y) (p)
@[reducible] def Qks : Rep (Str → Option Bool) := ⟨fun p => [tF233 p],1,false,fun _ => rfl,fun _ => Qp QbZ Qaf,fun _ => rfl⟩
@[reducible] def QvN : Rep (Option (Str → Option Bool)) := ⟨fun p => [tfo (tF233) p],1,false,fun _ => rfl,fun _ => Qp (Qfu (fun _ => QbZ)) Qaf,fun _ => rfl⟩
theorem tok233:TOk prog 233 Qks 8 .nilFunc:=⟨⟨_,underlying233,rfl⟩,by kernel_rfl,rfl⟩
theorem zok233:∀F w,(QvN.ty none).ok F w .nilFunc:=fun _ _=>rfl
@[reducible] def tF238 (p : (QK → Option Bool)) : Ty := tfn prog [] (A := QK) (B := Bool) (fun x => [Qal.ty x]) (fun y => tb y) (p)
@[reducible] def Qkt : Rep (QK → Option Bool) := ⟨fun p => [tF238 p],1,false,fun _ => rfl,fun _ => Qp QbZ Qaf,fun _ => rfl⟩
@[reducible] def QvO : Rep (Option (QK → Option Bool)) := ⟨fun p => [tfo (tF238) p],1,false,fun _ => rfl,fun _ => Qp (Qfu (fun _ => QbZ)) Qaf,fun _ => rfl⟩
theorem tok238:TOk prog 238 Qkt 8 .nilFunc:=⟨⟨_,underlying238,rfl⟩,by kernel_rfl,rfl⟩
theorem zok238:∀F w,(QvO.ty none).ok F w .nilFunc:=fun _ _=>rfl
@[reducible] def tF264 (p : (Int → Option Bool)) : Ty := tfn prog [] (A := Int) (B := Bool) (fun x => [tv (.int .u8 x)]) (fun y => tb y) (p)
@[reducible] def QnH : Rep (Int → Option Bool) := ⟨fun p => [tF264 p],1,false,fun _ => rfl,fun _ => Qp QbZ Qaf,fun _ => rfl⟩
@[reducible] def QvP : Rep (Option (Int → Option Bool)) := ⟨fun p => [tfo (tF264) p],1,false,fun _ => rfl,fun _ => Qp (Qfu (fun _ => QbZ)) Qaf,fun _ => rfl⟩
theorem tok264:TOk prog 264 QnH 8 .nilFunc:=⟨⟨_,underlying264,rfl⟩,by kernel_rfl,rfl⟩
theorem zok264:∀F w,(QvP.ty none).ok F w .nilFunc:=fun _ _=>rfl
theorem Qau:TOk prog 22 rVal 24 (.slice none 0 0):=⟨⟨_,underlying22,rfl⟩,by kernel_rfl,rfl⟩
theorem QvQ:TOk prog 25 rVal 24 (.slice none 0 0):=⟨⟨_,underlying25,rfl⟩,by kernel_rfl,rfl⟩
theorem QhR:TOk prog 29 rVal 24 (.slice none 0 0):=⟨⟨_,underlying29,rfl⟩,by kernel_rfl,rfl⟩
theorem tokV30:TOk prog 30 rVal 24 (.slice none 0 0):=⟨⟨_,underlying30,rfl⟩,by kernel_rfl,rfl⟩
theorem QvR:TOk prog 31 rVal 24 (.slice none 0 0):=⟨⟨_,underlying31,rfl⟩,by kernel_rfl,rfl⟩
theorem Qfk:TOk prog 45 rVal 24 (.slice none 0 0):=⟨⟨_,underlying45,rfl⟩,by kernel_rfl,rfl⟩
theorem QvS:TOk prog 58 rVal 24 (.slice none 0 0):=⟨⟨_,underlying58,rfl⟩,by kernel_rfl,rfl⟩
theorem QeL:TOk prog 68 rVal 24 (.slice none 0 0):=⟨⟨_,underlying68,rfl⟩,by kernel_rfl,rfl⟩
theorem QvT:TOk prog 75 rVal 24 (.slice none 0 0):=⟨⟨_,underlying75,rfl⟩,by kernel_rfl,rfl⟩
theorem tokV77:TOk prog 77 rVal 24 (.slice none 0 0):=⟨⟨_,underlying77,rfl⟩,by kernel_rfl,rfl⟩
theorem tokV93:TOk prog 93 rVal 24 (.slice none 0 0):=⟨⟨_,underlying93,rfl⟩,by kernel_rfl,rfl⟩
theorem Qhb:TOk prog 22 (rSn rI) 24 (.slice none 0 0):=⟨⟨_,underlying22,rfl⟩,by kernel_rfl,rfl⟩
theorem zokN22:∀F w,((rSn rI).ty []).ok F w (.slice none 0 0):=fun _ _=>⟨⟨none,0,rfl,Nat.le_refl _,fun h=>(h rfl).elim⟩,fun _=>rfl⟩
theorem tokN68:TOk prog 68 (rSl (rSn rI)) 24 (.slice none 0 0):=⟨⟨_,underlying68,rfl⟩,by kernel_rfl,rfl⟩
theorem QsT:Qt prog 33 0 0:=Qt.mk underlying33 rfl rfl tok3 (by decide)
theorem QdE:Qt prog 33 1 1:=Qt.mk underlying33 rfl rfl Qkm (by decide)
theorem QAp:Qt prog 33 2 2:=Qt.mk underlying33 rfl rfl tok30 (by decide)
theorem QsU:Qt prog 33 3 3:=Qt.mk underlying33 rfl rfl tok31 (by decide)
theorem Qhw:Qt prog 47 0 0:=Qt.mk underlying47 rfl rfl tok9 (by decide)
theorem Qot:Qt prog 47 1 1:=Qt.mk underlying47 rfl rfl tok3 (by decide)
theorem Qou:Qt prog 47 2 2:=Qt.mk underlying47 rfl rfl tok3 (by decide)
theorem Qce:Qt prog 47 3 3:=Qt.mk underlying47 rfl rfl Qjb (by decide)
theorem Qmb:Qt prog 49 0 0:=Qt.mk underlying49 rfl rfl tok9 (by decide)
theorem Qov:Qt prog 49 1 1:=Qt.mk underlying49 rfl rfl tok9 (by decide)
theorem QsV:Qt prog 49 2 2:=Qt.mk underlying49 rfl rfl tok9 (by decide)
theorem Qhx:Qt prog 49 3 3:=Qt.mk underlying49 rfl rfl tok3 (by decide)
theorem Qmc:Qt prog 49 4 4:=Qt.mk underlying49 rfl rfl tok3 (by decide)
theorem Qmd:Qt prog 49 5 5:=Qt.mk underlying49 rfl rfl tok3 (by decide)
theorem QAq:Qt prog 49 6 6:=Qt.mk underlying49 rfl rfl Qja (by decide)
theorem QAr:Qt prog 49 7 7:=Qt.mk underlying49 rfl rfl Qkl (by decide)
theorem QAs:Qt prog 64 0 0:=Qt.mk underlying64 rfl rfl tok3 (by decide)
theorem QAt:Qt prog 64 1 1:=Qt.mk underlying64 rfl rfl tok3 (by decide)
theorem QAu:Qt prog 64 2 2:=Qt.mk underlying64 rfl rfl tok3 (by decide)
theorem QAv:Qt prog 66 0 0:=Qt.mk underlying66 rfl rfl tok3 (by decide)
theorem QAw:Qt prog 66 2 2:=Qt.mk underlying66 rfl rfl Qqd (by decide)
theorem QAx:Qt prog 67 0 0:=Qt.mk underlying67 rfl rfl tok3 (by decide)
theorem QAy:Qt prog 67 1 1:=Qt.mk underlying67 rfl rfl tok3 (by decide)
theorem QAz:Qt prog 67 2 2:=Qt.mk underlying67 rfl rfl tok3 (by decide)
theorem Qow:Qt prog 79 0 0:=Qt.mk underlying79 rfl rfl Qc2 (by decide)
theorem QjK:Qt prog 79 1 4:=Qt.mk underlying79 rfl rfl Qkn (by decide)
theorem QsW:Qt prog 79 2 5:=Qt.mk underlying79 rfl rfl Qug (by decide)
theorem QAA:Qt prog 79 3 6:=Qt.mk underlying79 rfl rfl Quf (by decide)
theorem Qku:Qt prog 104 0 0:=Qt.mk underlying104 rfl rfl tok9 (by decide)
theorem QqS:Qt prog 104 1 1:=Qt.mk underlying104 rfl rfl tok9 (by decide)
theorem QmT:Qt prog 104 2 2:=Qt.mk underlying104 rfl rfl tok9 (by decide)
theorem QmU:Qt prog 104 3 3:=Qt.mk underlying104 rfl rfl tok9 (by decide)
theorem QmV:Qt prog 104 4 4:=Qt.mk underlying104 rfl rfl tok3 (by decide)
theorem Qyn:Qt prog 107 0 0:=Qt.mk underlying107 rfl rfl Qkl (by decide)
theorem Qyo:Qt prog 107 1 1:=Qt.mk underlying107 rfl rfl tok3 (by decide)
theorem Qyp:Qt prog 111 0 0:=Qt.mk underlying111 rfl rfl tok9 (by decide)
theorem Qyq:Qt prog 111 1 1:=Qt.mk underlying111 rfl rfl Qja (by decide)
theorem Qyr:Qt prog 111 2 2:=Qt.mk underlying111 rfl rfl Quf (by decide)
theorem QqT:Qt prog 119 0 0:=Qt.mk underlying119 rfl rfl tok3 (by decide)
theorem Qys:Qt prog 119 1 1:=Qt.mk underlying119 rfl rfl tok9 (by decide)
theorem QqU:Qt prog 119 2 2:=Qt.mk underlying119 rfl rfl Qma (by decide)
theorem Qyt:Qt prog 144 0 0:=Qt.mk underlying144 rfl rfl Qkn (by decide)
theorem Qkv:Qt prog 144 1 1:=Qt.mk underlying144 rfl rfl Qkl (by decide)
theorem QqV:Qt prog 144 2 2:=Qt.mk underlying144 rfl rfl Qui (by decide)
theorem QgI:Qt prog 144 3 3:=Qt.mk underlying144 rfl rfl QiN (by decide)
theorem QiO:Qt prog 144 4 9:=Qt.mk underlying144 rfl rfl QiN (by decide)
theorem Qhy:Qt prog 144 5 15:=Qt.mk underlying144 rfl rfl tok3 (by decide)
theorem Qyu:Qt prog 146 0 0:=Qt.mk underlying146 rfl rfl tok3 (by decide)
theorem Qyv:Qt prog 146 1 1:=Qt.mk underlying146 rfl rfl tok3 (by decide)
theorem Qyw:Qt prog 146 2 2:=Qt.mk underlying146 rfl rfl tok3 (by decide)
theorem Qyx:Qt prog 146 3 3:=Qt.mk underlying146 rfl rfl tok4 (by decide)
theorem Qyy:Qt prog 149 3 3:=Qt.mk underlying149 rfl rfl Que (by decide)
theorem Qyz:Qt prog 155 0 0:=Qt.mk underlying155 rfl rfl tok4 (by decide)
theorem QyA:Qt prog 155 1 1:=Qt.mk underlying155 rfl rfl Que (by decide)
theorem QqW:Qt prog 159 0 0:=Qt.mk underlying159 rfl rfl QvJ (by decide)
theorem QyB:Qt prog 163 0 0:=Qt.mk underlying163 rfl rfl Qc2 (by decide)
theorem QyC:Qt prog 163 1 4:=Qt.mk underlying163 rfl rfl tok3 (by decide)
theorem QyD:Qt prog 163 2 5:=Qt.mk underlying163 rfl rfl tok3 (by decide)
theorem QyE:Qt prog 163 3 6:=Qt.mk underlying163 rfl rfl QaW (by decide)
theorem QgJ:Qt prog 212 0 0:=Qt.mk underlying212 rfl rfl tok3 (by decide)
theorem QgK:Qt prog 212 1 1:=Qt.mk underlying212 rfl rfl tok3 (by decide)
theorem Qhz:Qt prog 212 2 2:=Qt.mk underlying212 rfl rfl tok3 (by decide)
theorem call9:Qj prog 9:=⟨⟨_,func9,by kernel_rfl,rfl⟩⟩
theorem QvU:Qj prog 11:=⟨⟨_,func11,by kernel_rfl,rfl⟩⟩
theorem QvV:Qj prog 13:=⟨⟨_,func13,by kernel_rfl,rfl⟩⟩
theorem call14:Qj prog 14:=⟨⟨_,func14,by kernel_rfl,rfl⟩⟩
theorem call15:Qj prog 15:=⟨⟨_,func15,by kernel_rfl,rfl⟩⟩
theorem call17:Qj prog 17:=⟨⟨_,func17,by kernel_rfl,rfl⟩⟩
theorem call18:Qj prog 18:=⟨⟨_,func18,by kernel_rfl,rfl⟩⟩
theorem QvW:Qj prog 19:=⟨⟨_,func19,by kernel_rfl,rfl⟩⟩
theorem QvX:Qj prog 20:=⟨⟨_,func20,by kernel_rfl,rfl⟩⟩
theorem call24:Qj prog 24:=⟨⟨_,func24,by kernel_rfl,rfl⟩⟩
theorem call25:Qj prog 25:=⟨⟨_,func25,by kernel_rfl,rfl⟩⟩
theorem call26:Qj prog 26:=⟨⟨_,func26,by kernel_rfl,rfl⟩⟩
theorem call27:Qj prog 27:=⟨⟨_,func27,by kernel_rfl,rfl⟩⟩
theorem QvY:Qj prog 29:=⟨⟨_,func29,by kernel_rfl,rfl⟩⟩
theorem QvZ:Qj prog 30:=⟨⟨_,func30,by kernel_rfl,rfl⟩⟩
theorem QqX:Qj prog 31:=⟨⟨_,func31,by kernel_rfl,rfl⟩⟩
theorem QqY:Qj prog 32:=⟨⟨_,func32,by kernel_rfl,rfl⟩⟩
theorem Qv0:Qj prog 33:=⟨⟨_,func33,by kernel_rfl,rfl⟩⟩
theorem QqZ:Qj prog 34:=⟨⟨_,func34,by kernel_rfl,rfl⟩⟩
theorem Qq0:Qj prog 35:=⟨⟨_,func35,by kernel_rfl,rfl⟩⟩
theorem Qv1:Qj prog 36:=⟨⟨_,func36,by kernel_rfl,rfl⟩⟩
theorem Qv2:Qj prog 37:=⟨⟨_,func37,by kernel_rfl,rfl⟩⟩
theorem Qv3:Qj prog 38:=⟨⟨_,func38,by kernel_rfl,rfl⟩⟩
theorem call44:Qj prog 44:=⟨⟨_,func44,by kernel_rfl,rfl⟩⟩
theorem Qq1:Qj prog 45:=⟨⟨_,func45,by kernel_rfl,rfl⟩⟩
theorem Qv4:Qj prog 46:=⟨⟨_,func46,by kernel_rfl,rfl⟩⟩
theorem Qq2:Qj prog 47:=⟨⟨_,func47,by kernel_rfl,rfl⟩⟩
theorem Qv5:Qj prog 49:=⟨⟨_,func49,by kernel_rfl,rfl⟩⟩
theorem Qfl:Qj prog 50:=⟨⟨_,func50,by kernel_rfl,rfl⟩⟩
theorem Qv6:Qj prog 51:=⟨⟨_,func51,by kernel_rfl,rfl⟩⟩
theorem call52:Qj prog 52:=⟨⟨_,func52,by kernel_rfl,rfl⟩⟩
theorem call53:Qj prog 53:=⟨⟨_,func53,by kernel_rfl,rfl⟩⟩
theorem QnI:Qj prog 54:=⟨⟨_,func54,by kernel_rfl,rfl⟩⟩
theorem Qv7:Qj prog 55:=⟨⟨_,func55,by kernel_rfl,rfl⟩⟩
theorem call67:Qj prog 67:=⟨⟨_,func67,by kernel_rfl,rfl⟩⟩
theorem call70:Qj prog 70:=⟨⟨_,func70,by kernel_rfl,rfl⟩⟩
theorem call73:Qj prog 73:=⟨⟨_,func73,by kernel_rfl,rfl⟩⟩
theorem call74:Qj prog 74:=⟨⟨_,func74,by kernel_rfl,rfl⟩⟩
theorem call75:Qj prog 75:=⟨⟨_,func75,by kernel_rfl,rfl⟩⟩
theorem Qv8:Qj prog 76:=⟨⟨_,func76,by kernel_rfl,rfl⟩⟩
theorem call77:Qj prog 77:=⟨⟨_,func77,by kernel_rfl,rfl⟩⟩
theorem Qlk:Qj prog 78:=⟨⟨_,func78,by kernel_rfl,rfl⟩⟩
theorem call79:Qj prog 79:=⟨⟨_,func79,by kernel_rfl,rfl⟩⟩
theorem call80:Qj prog 80:=⟨⟨_,func80,by kernel_rfl,rfl⟩⟩
theorem Qv9:Qj prog 81:=⟨⟨_,func81,by kernel_rfl,rfl⟩⟩
theorem Qwa:Qj prog 82:=⟨⟨_,func82,by kernel_rfl,rfl⟩⟩
theorem Qwb:Qj prog 83:=⟨⟨_,func83,by kernel_rfl,rfl⟩⟩
theorem Qwc:Qj prog 84:=⟨⟨_,func84,by kernel_rfl,rfl⟩⟩
theorem call85:Qj prog 85:=⟨⟨_,func85,by kernel_rfl,rfl⟩⟩
theorem call86:Qj prog 86:=⟨⟨_,func86,by kernel_rfl,rfl⟩⟩
theorem Qq3:Qj prog 87:=⟨⟨_,func87,by kernel_rfl,rfl⟩⟩
theorem Qwd:Qj prog 88:=⟨⟨_,func88,by kernel_rfl,rfl⟩⟩
theorem Qwe:Qj prog 89:=⟨⟨_,func89,by kernel_rfl,rfl⟩⟩
theorem Qwf:Qj prog 90:=⟨⟨_,func90,by kernel_rfl,rfl⟩⟩
theorem Qq4:Qj prog 91:=⟨⟨_,func91,by kernel_rfl,rfl⟩⟩
theorem Qwg:Qj prog 92:=⟨⟨_,func92,by kernel_rfl,rfl⟩⟩
theorem Qq5:Qj prog 93:=⟨⟨_,func93,by kernel_rfl,rfl⟩⟩
theorem call95:Qj prog 95:=⟨⟨_,func95,by kernel_rfl,rfl⟩⟩
theorem QsX:Qj prog 102:=⟨⟨_,func102,by kernel_rfl,rfl⟩⟩
theorem QAB:Qj prog 103:=⟨⟨_,func103,by kernel_rfl,rfl⟩⟩
theorem QsY:Qj prog 104:=⟨⟨_,func104,by kernel_rfl,rfl⟩⟩
theorem QAC:Qj prog 105:=⟨⟨_,func105,by kernel_rfl,rfl⟩⟩
theorem QAD:Qj prog 106:=⟨⟨_,func106,by kernel_rfl,rfl⟩⟩
theorem Qox:Qj prog 107:=⟨⟨_,func107,by kernel_rfl,rfl⟩⟩
theorem QAE:Qj prog 108:=⟨⟨_,func108,by kernel_rfl,rfl⟩⟩
theorem QAF:Qj prog 109:=⟨⟨_,func109,by kernel_rfl,rfl⟩⟩
theorem Qoy:Qj prog 110:=⟨⟨_,func110,by kernel_rfl,rfl⟩⟩
theorem Qoz:Qj prog 111:=⟨⟨_,func111,by kernel_rfl,rfl⟩⟩
theorem QoA:Qj prog 112:=⟨⟨_,func112,by kernel_rfl,rfl⟩⟩
theorem QAG:Qj prog 113:=⟨⟨_,func113,by kernel_rfl,rfl⟩⟩
theorem QAH:Qj prog 114:=⟨⟨_,func114,by kernel_rfl,rfl⟩⟩
theorem QAI:Qj prog 115:=⟨⟨_,func115,by kernel_rfl,rfl⟩⟩
theorem QsZ:Qj prog 116:=⟨⟨_,func116,by kernel_rfl,rfl⟩⟩
theorem Qs0:Qj prog 117:=⟨⟨_,func117,by kernel_rfl,rfl⟩⟩
theorem Qs1:Qj prog 118:=⟨⟨_,func118,by kernel_rfl,rfl⟩⟩
theorem QAJ:Qj prog 119:=⟨⟨_,func119,by kernel_rfl,rfl⟩⟩
theorem QAK:Qj prog 120:=⟨⟨_,func120,by kernel_rfl,rfl⟩⟩
theorem QAL:Qj prog 121:=⟨⟨_,func121,by kernel_rfl,rfl⟩⟩
theorem QAM:Qj prog 122:=⟨⟨_,func122,by kernel_rfl,rfl⟩⟩
theorem QAN:Qj prog 123:=⟨⟨_,func123,by kernel_rfl,rfl⟩⟩
theorem QAO:Qj prog 124:=⟨⟨_,func124,by kernel_rfl,rfl⟩⟩
theorem QAP:Qj prog 125:=⟨⟨_,func125,by kernel_rfl,rfl⟩⟩
theorem QAQ:Qj prog 126:=⟨⟨_,func126,by kernel_rfl,rfl⟩⟩
theorem QAR:Qj prog 127:=⟨⟨_,func127,by kernel_rfl,rfl⟩⟩
theorem QAS:Qj prog 128:=⟨⟨_,func128,by kernel_rfl,rfl⟩⟩
theorem QAT:Qj prog 129:=⟨⟨_,func129,by kernel_rfl,rfl⟩⟩
theorem QAU:Qj prog 130:=⟨⟨_,func130,by kernel_rfl,rfl⟩⟩
theorem QAV:Qj prog 131:=⟨⟨_,func131,by kernel_rfl,rfl⟩⟩
theorem QoB:Qj prog 132:=⟨⟨_,func132,by kernel_rfl,rfl⟩⟩
theorem Qme:Qj prog 133:=⟨⟨_,func133,by kernel_rfl,rfl⟩⟩
theorem QAW:Qj prog 134:=⟨⟨_,func134,by kernel_rfl,rfl⟩⟩
theorem QAX:Qj prog 155:=⟨⟨_,func155,by kernel_rfl,rfl⟩⟩
theorem QAY:Qj prog 156:=⟨⟨_,func156,by kernel_rfl,rfl⟩⟩
theorem QAZ:Qj prog 157:=⟨⟨_,func157,by kernel_rfl,rfl⟩⟩
theorem QA0:Qj prog 158:=⟨⟨_,func158,by kernel_rfl,rfl⟩⟩
theorem Qs2:Qj prog 159:=⟨⟨_,func159,by kernel_rfl,rfl⟩⟩
theorem Qs3:Qj prog 160:=⟨⟨_,func160,by kernel_rfl,rfl⟩⟩
theorem QA1:Qj prog 161:=⟨⟨_,func161,by kernel_rfl,rfl⟩⟩
theorem QA2:Qj prog 162:=⟨⟨_,func162,by kernel_rfl,rfl⟩⟩
theorem QA3:Qj prog 163:=⟨⟨_,func163,by kernel_rfl,rfl⟩⟩
theorem QA4:Qj prog 164:=⟨⟨_,func164,by kernel_rfl,rfl⟩⟩
theorem QA5:Qj prog 165:=⟨⟨_,func165,by kernel_rfl,rfl⟩⟩
theorem QA6:Qj prog 166:=⟨⟨_,func166,by kernel_rfl,rfl⟩⟩
theorem QA7:Qj prog 167:=⟨⟨_,func167,by kernel_rfl,rfl⟩⟩
theorem QA8:Qj prog 168:=⟨⟨_,func168,by kernel_rfl,rfl⟩⟩
theorem QA9:Qj prog 169:=⟨⟨_,func169,by kernel_rfl,rfl⟩⟩
theorem QBa:Qj prog 170:=⟨⟨_,func170,by kernel_rfl,rfl⟩⟩
theorem QBb:Qj prog 171:=⟨⟨_,func171,by kernel_rfl,rfl⟩⟩
theorem QhA:Qj prog 173:=⟨⟨_,func173,by kernel_rfl,rfl⟩⟩
theorem Qs4:Qj prog 174:=⟨⟨_,func174,by kernel_rfl,rfl⟩⟩
theorem QoC:Qj prog 175:=⟨⟨_,func175,by kernel_rfl,rfl⟩⟩
theorem Qs5:Qj prog 177:=⟨⟨_,func177,by kernel_rfl,rfl⟩⟩
theorem QoD:Qj prog 178:=⟨⟨_,func178,by kernel_rfl,rfl⟩⟩
theorem QBc:Qj prog 184:=⟨⟨_,func184,by kernel_rfl,rfl⟩⟩
theorem Qs6:Qj prog 193:=⟨⟨_,func193,by kernel_rfl,rfl⟩⟩
theorem QBd:Qj prog 194:=⟨⟨_,func194,by kernel_rfl,rfl⟩⟩
theorem Qs7:Qj prog 195:=⟨⟨_,func195,by kernel_rfl,rfl⟩⟩
theorem Qs8:Qj prog 196:=⟨⟨_,func196,by kernel_rfl,rfl⟩⟩
theorem QBe:Qj prog 197:=⟨⟨_,func197,by kernel_rfl,rfl⟩⟩
theorem QBf:Qj prog 198:=⟨⟨_,func198,by kernel_rfl,rfl⟩⟩
theorem QBg:Qj prog 199:=⟨⟨_,func199,by kernel_rfl,rfl⟩⟩
theorem QBh:Qj prog 200:=⟨⟨_,func200,by kernel_rfl,rfl⟩⟩
theorem QBi:Qj prog 201:=⟨⟨_,func201,by kernel_rfl,rfl⟩⟩
theorem QBj:Qj prog 202:=⟨⟨_,func202,by kernel_rfl,rfl⟩⟩
theorem QBk:Qj prog 203:=⟨⟨_,func203,by kernel_rfl,rfl⟩⟩
theorem QBl:Qj prog 204:=⟨⟨_,func204,by kernel_rfl,rfl⟩⟩
theorem QBm:Qj prog 205:=⟨⟨_,func205,by kernel_rfl,rfl⟩⟩
theorem QBn:Qj prog 209:=⟨⟨_,func209,by kernel_rfl,rfl⟩⟩
theorem QBo:Qj prog 211:=⟨⟨_,func211,by kernel_rfl,rfl⟩⟩
theorem QBp:Qj prog 221:=⟨⟨_,func221,by kernel_rfl,rfl⟩⟩
theorem QBq:Qj prog 222:=⟨⟨_,func222,by kernel_rfl,rfl⟩⟩
theorem QBr:Qj prog 223:=⟨⟨_,func223,by kernel_rfl,rfl⟩⟩
theorem QBs:Qj prog 260:=⟨⟨_,func260,by kernel_rfl,rfl⟩⟩
theorem Qs9:Qj prog 263:=⟨⟨_,func263,by kernel_rfl,rfl⟩⟩
theorem Qta:Qj prog 264:=⟨⟨_,func264,by kernel_rfl,rfl⟩⟩
theorem Qtb:Qj prog 265:=⟨⟨_,func265,by kernel_rfl,rfl⟩⟩
theorem Qtc:Qj prog 266:=⟨⟨_,func266,by kernel_rfl,rfl⟩⟩
theorem QBt:Qj prog 267:=⟨⟨_,func267,by kernel_rfl,rfl⟩⟩
theorem Qtd:Qj prog 268:=⟨⟨_,func268,by kernel_rfl,rfl⟩⟩
theorem QBu:Qj prog 269:=⟨⟨_,func269,by kernel_rfl,rfl⟩⟩
theorem Qte:Qj prog 270:=⟨⟨_,func270,by kernel_rfl,rfl⟩⟩
theorem QBv:Qj prog 271:=⟨⟨_,func271,by kernel_rfl,rfl⟩⟩
theorem Qtf:Qj prog 272:=⟨⟨_,func272,by kernel_rfl,rfl⟩⟩
theorem Qtg:TOk prog 81 rVal 8 .nilFunc:=⟨⟨_,underlying81,rfl⟩,by kernel_rfl,rfl⟩
theorem tokP73:TOk prog 73 rVal 8 (.pointer none):=⟨⟨_,underlying73,rfl⟩,by kernel_rfl,rfl⟩
theorem QbI:TOk prog 140 rVal 8 (.pointer none):=⟨⟨_,underlying140,rfl⟩,by kernel_rfl,rfl⟩
section
variable {M:Fr} {w0:World} {n:Nat} {Γ:List (Nat×Ty)} {As:List Atom} {a:Act} {w:World}
theorem _root_.Go.Sim.St.t1_0 {x0:Nat×Ty} (h:St M w0 n Γ As a w) (is:List Nat) (p:Qb6 Γ is=[x0]:=by exact rfl) (q:As=[]:=by exact rfl):St M w0 n [x0] [] a w:=h.to is _ _ p q
theorem _root_.Go.Sim.St.t1_1 {x0:Nat×Ty} {y0:Atom} (h:St M w0 n Γ As a w) (is:List Nat) (p:Qb6 Γ is=[x0]:=by exact rfl) (q:As=[y0]:=by exact rfl):St M w0 n [x0] [y0] a w:=h.to is _ _ p q
theorem _root_.Go.Sim.St.t2_1 {x0 x1:Nat×Ty} {y0:Atom} (h:St M w0 n Γ As a w) (is:List Nat) (p:Qb6 Γ is=[x0,x1]:=by exact rfl) (q:As=[y0]:=by exact rfl):St M w0 n [x0,x1] [y0] a w:=h.to is _ _ p q
theorem _root_.Go.Sim.St.t3_0 {x0 x1 x2:Nat×Ty} (h:St M w0 n Γ As a w) (is:List Nat) (p:Qb6 Γ is=[x0,x1,x2]:=by exact rfl) (q:As=[]:=by exact rfl):St M w0 n [x0,x1,x2] [] a w:=h.to is _ _ p q
theorem _root_.Go.Sim.St.t4_1 {x0 x1 x2 x3:Nat×Ty} {y0:Atom} (h:St M w0 n Γ As a w) (is:List Nat) (p:Qb6 Γ is=[x0,x1,x2,x3]:=by exact rfl) (q:As=[y0]:=by exact rfl):St M w0 n [x0,x1,x2,x3] [y0] a w:=h.to is _ _ p q
theorem _root_.Go.Sim.St.t4_2 {x0 x1 x2 x3:Nat×Ty} {y0 y1:Atom} (h:St M w0 n Γ As a w) (is:List Nat) (p:Qb6 Γ is=[x0,x1,x2,x3]:=by exact rfl) (q:As=[y0,y1]:=by exact rfl):St M w0 n [x0,x1,x2,x3] [y0,y1] a w:=h.to is _ _ p q
theorem _root_.Go.Sim.St.t5_2 {x0 x1 x2 x3 x4:Nat×Ty} {y0 y1:Atom} (h:St M w0 n Γ As a w) (is:List Nat) (p:Qb6 Γ is=[x0,x1,x2,x3,x4]:=by exact rfl) (q:As=[y0,y1]:=by exact rfl):St M w0 n [x0,x1,x2,x3,x4] [y0,y1] a w:=h.to is _ _ p q
theorem _root_.Go.Sim.St.t6_2 {x0 x1 x2 x3 x4 x5:Nat×Ty} {y0 y1:Atom} (h:St M w0 n Γ As a w) (is:List Nat) (p:Qb6 Γ is=[x0,x1,x2,x3,x4,x5]:=by exact rfl) (q:As=[y0,y1]:=by exact rfl):St M w0 n [x0,x1,x2,x3,x4,x5] [y0,y1] a w:=h.to is _ _ p q
theorem _root_.Go.Sim.St.t7_2 {x0 x1 x2 x3 x4 x5 x6:Nat×Ty} {y0 y1:Atom} (h:St M w0 n Γ As a w) (is:List Nat) (p:Qb6 Γ is=[x0,x1,x2,x3,x4,x5,x6]:=by exact rfl) (q:As=[y0,y1]:=by exact rfl):St M w0 n [x0,x1,x2,x3,x4,x5,x6] [y0,y1] a w:=h.to is _ _ p q
theorem _root_.Go.Sim.St.t7_3 {x0 x1 x2 x3 x4 x5 x6:Nat×Ty} {y0 y1 y2:Atom} (h:St M w0 n Γ As a w) (is:List Nat) (p:Qb6 Γ is=[x0,x1,x2,x3,x4,x5,x6]:=by exact rfl) (q:As=[y0,y1,y2]:=by exact rfl):St M w0 n [x0,x1,x2,x3,x4,x5,x6] [y0,y1,y2] a w:=h.to is _ _ p q
theorem _root_.Go.Sim.St.t8_5 {x0 x1 x2 x3 x4 x5 x6 x7:Nat×Ty} {y0 y1 y2 y3 y4:Atom} (h:St M w0 n Γ As a w) (is:List Nat) (p:Qb6 Γ is=[x0,x1,x2,x3,x4,x5,x6,x7]:=by exact rfl) (q:As=[y0,y1,y2,y3,y4]:=by exact rfl):St M w0 n [x0,x1,x2,x3,x4,x5,x6,x7] [y0,y1,y2,y3,y4] a w:=h.to is _ _ p q
theorem _root_.Go.Sim.St.t11_9 {x0 x1 x2 x3 x4 x5 x6 x7 x8 x9 x10:Nat×Ty} {y0 y1 y2 y3 y4 y5 y6 y7 y8:Atom} (h:St M w0 n Γ As a w) (is:List Nat) (p:Qb6 Γ is=[x0,x1,x2,x3,x4,x5,x6,x7,x8,x9,x10]:=by exact rfl) (q:As=[y0,y1,y2,y3,y4,y5,y6,y7,y8]:=by exact rfl):St M w0 n [x0,x1,x2,x3,x4,x5,x6,x7,x8,x9,x10] [y0,y1,y2,y3,y4,y5,y6,y7,y8] a w:=h.to is _ _ p q
end
abbrev zz0:Qc:=(Qc.mk ([]:Str) ([]:Str) ([]:Str) (0:Int) (0:Int) (0:Int) ([]:(List Str)) ([]:(List Int)))
abbrev zz1:Qg:=(Qg.mk ([]:Str) (0:Int) (0:Int) ([]:(List Qc)))
abbrev zz2:QB:=(QB.mk ([]:Str) ([]:(List Str)) ([]:(List QK)))
abbrev zz3:Qo:=(Qo.mk ([]:Str) ([]:Str) ([]:Str) ([]:Str) (0:Int))
abbrev zz4:Qa:=(Qa.mk (0:Int) ([]:(List Qg)) ([]:(List QB)) ([]:(List Qo)))
abbrev zz5:Q0:=(Q0.mk (0:Int) (0:Int) (0:Int))
abbrev zz6:Qe:=(Qe.mk (0:Int) (0:Int) (0:Int) false)
abbrev zz7:Qw:=(Qw.mk (0:Int) (0:Int) (0:Int) (0:Int) (0:Int) (0:Int))
abbrev Qqg:=underlying112
abbrev Qmf:=underlying142
abbrev Qjd:=underlying165
abbrev Qqh:=underlying176
abbrev QnJ:=underlying178
abbrev ud22:=underlying22
abbrev Qqi:=underlying249
abbrev ud25:=underlying25
abbrev ud29:=underlying29
abbrev ud3:=underlying3
abbrev ud45:=underlying45
abbrev ud49:=underlying49
abbrev ud60:=underlying60
abbrev ud68:=underlying68
abbrev ud75:=underlying75
abbrev ud76:=underlying76
abbrev ud9:=underlying9

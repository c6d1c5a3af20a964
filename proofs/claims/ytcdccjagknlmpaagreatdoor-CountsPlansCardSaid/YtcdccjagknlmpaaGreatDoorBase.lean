/- Closed facts on the types and functions of the translation, written by a program. No condition. -/
import Derived.Test.YtcdccjagknlmpaaGreatDoorSimP
import Derived.Test.YtcdccjagknlmpaaGreatDoorRows
namespace Go.Proofs.YtcdccjagknlmpaaGreatDoor
open Go.Sim

theorem mixed:Tryz.prog.follows .mixedOrders=true:=by kernel_rfl
theorem mx:Tryz.prog.follows .mixedOrders=true:=mixed
def QjK:List (Value×Value):=[(.int .i64 0,.agg #[.func (.func 207) #[] #[]]),(.int .i64 1,.agg #[.func (.func 208) #[] #[]]),(.int .i64 4,.agg #[.func (.func 209) #[] #[]]),(.int .i64 5,.agg #[.func (.func 210) #[] #[]]),(.int .i64 6,.agg #[.func (.func 212) #[] #[]]),(.int .i64 7,.agg #[.func (.func 214) #[] #[]]),(.int .i64 8,.agg #[.func (.func 216) #[] #[]])]
def Qtk:Ty:=QnG QjK
def Qsz:List Ty:=[Qtk]
theorem tokM0:TOk Tryz.prog 131 (rMapC QjK) 8 (.map none):=⟨⟨_,Tryz.underlying131,rfl⟩,(by kernel_rfl:(Tryz.prog.info? 131).map (fun i=>(i.zero,i.size,i.bytes))=some (some (.map none),1,8)),rfl⟩
def QsA:List Int:=[0,1,28,2,29,14,24,3,30,22,20,15,25,17,4,8,31,27,13,23,21,19,16,7,26,12,18,6,11,5,10,9]
def tglo1:List Ty:=QsA.flatMap (rInt .u8).cs
def QoU:List Int:=[0,1,56,2,57,49,28,3,61,58,42,50,38,29,17,4,62,47,59,36,45,43,51,22,53,39,33,30,24,18,12,5,63,55,48,27,60,41,37,16,46,35,44,21,52,32,23,11,54,26,40,15,34,20,31,10,25,14,19,9,13,8,7,6]
def QsB:List Ty:=QoU.flatMap (rInt .u8).cs
def QkK:List Str:=[[107,101,121],[114,101,102],[110,117,109],[112,105,99,107],[100,97,121],[115,116,101,112],[115,117,109],[115,104,97,114,101],[99,111,112,121]]
def QsC:List Ty:=QkK.flatMap rS.cs
def Qri:List Int:=[1,10,100,1000,10000,100000,1000000,10000000,100000000,1000000000,10000000000,100000000000,1000000000000,10000000000000,100000000000000,1000000000000000,10000000000000000,100000000000000000,1000000000000000000,10000000000000000000]
def QsD:List Ty:=Qri.flatMap (rInt .u64).cs
abbrev bld:=bldE 187 5
/-- What the package variables hold. -/
def glo:Atom:=gloA [(0,Qsz),(1,tglo1),(2,QsB),(3,QsC),(4,QsD)]
theorem Qrj:∀k,¬glo.fp k:=fun _ h=>h
theorem _root_.Go.Sim.OpJ.glo {P:Program} {o:Oper} {Γ:List (Nat×Ty)} {U E:List Atom} {N:Value→List Atom} {T:Value→Ty} (h:OpJ P o Γ U (glo::E) N T):OpJ P o Γ (glo::U) E N T:=OpJ.gloG Qrj h
theorem QvF:Qmb glo 0 Qsz:=QnF (by simp)
theorem QuJ:QlE glo 0 Qsz:=QvF.has
theorem QvG:Qmb glo 2 QsB:=QnF (by simp)
theorem QuK:QlE glo 2 QsB:=QvG.has
theorem QvH:Qmb glo 3 QsC:=QnF (by simp)
theorem QuL:QlE glo 3 QsC:=QvH.has
theorem QvI:Qmb glo 4 QsD:=QnF (by simp)
theorem tok3:TOk Tryz.prog 3 rI 8 (.int .i64 0):=⟨⟨_,Tryz.underlying3,rfl⟩,by kernel_rfl,rfl⟩
theorem zok3:∀F w,(rI.ty (0:Int)).ok F w (.int .i64 0):=fun _ _=>rfl
theorem tok4:TOk Tryz.prog 4 QaE 1 (.bool false):=⟨⟨_,Tryz.underlying4,rfl⟩,by kernel_rfl,rfl⟩
theorem zok4:∀F w,(QaE.ty false).ok F w (.bool false):=fun _ _=>rfl
theorem tok5:TOk Tryz.prog 5 (rInt .u8) 1 (.int .u8 0):=⟨⟨_,Tryz.underlying5,rfl⟩,by kernel_rfl,rfl⟩
theorem tok9:TOk Tryz.prog 9 rS 16 (.string .empty):=⟨⟨_,Tryz.underlying9,rfl⟩,by kernel_rfl,rfl⟩
theorem QeZ:TOk Tryz.prog 20 (rAny 3 9) 16 .nilIface:=⟨⟨_,Tryz.underlying20,rfl⟩,by kernel_rfl,rfl⟩
theorem Qcq:TOk Tryz.prog 22 (rSl rI) 24 (.slice none 0 0):=⟨⟨_,Tryz.underlying22,rfl⟩,by kernel_rfl,rfl⟩
theorem QbJ:TOk Tryz.prog 32 (rSl rS) 24 (.slice none 0 0):=⟨⟨_,Tryz.underlying32,rfl⟩,by kernel_rfl,rfl⟩
structure Qb where
  Name:Str
  Of:Str
  Up:Str
  Kind:Int
  Lo:Int
  Hi:Int
  Words:(List Str)
  Weights:(List Int)
deriving Inhabited
@[reducible] def Qc : Rep Qb := ⟨fun x => ([tv (.string (sB x.Name)),tv (.string (sB x.Of)),tv (.string (sB x.Up)),ti x.Kind,ti x.Lo,ti x.Hi,tsl rS x.Words,tsl rI x.Weights]),8,true,fun _ => rfl,fun _ => (Qw (Q9 rfl) (Qw (Q9 rfl) (Qw (Q9 rfl) (Qw (Q9 rfl) (Qw (Q9 rfl) (Qw (Q9 rfl) (Qw QaL (Qw QaL Qam)))))))),fun h => (by cases h)⟩
theorem QH:TOk Tryz.prog 61 Qc 120 (.agg #[(.string .empty),(.string .empty),(.string .empty),(.int .i64 0),(.int .i64 0),(.int .i64 0),(.slice none 0 0),(.slice none 0 0)]):=⟨⟨_,Tryz.underlying61,rfl⟩,by kernel_rfl,rfl⟩
theorem zc61:∀F w,Q3 (Qc.cs (Qb.mk ([]:Str) ([]:Str) ([]:Str) (0:Int) (0:Int) (0:Int) ([]:(List Str)) ([]:(List Int)))) F w ((.agg #[(.string .empty),(.string .empty),(.string .empty),(.int .i64 0),(.int .i64 0),(.int .i64 0),(.slice none 0 0),(.slice none 0 0)]):Value).cells.toList:=fun _ _=>(.cons rfl (.cons rfl (.cons rfl (.cons rfl (.cons rfl (.cons rfl (.cons ⟨none,0,rfl,Nat.le_refl _,fun h=>(h rfl).elim⟩ (.cons ⟨none,0,rfl,Nat.le_refl _,fun h=>(h rfl).elim⟩ .nil))))))))
theorem QcU:∀F w,(Qc.ty (Qb.mk ([]:Str) ([]:Str) ([]:Str) (0:Int) (0:Int) (0:Int) ([]:(List Str)) ([]:(List Int)))).ok F w (.agg #[(.string .empty),(.string .empty),(.string .empty),(.int .i64 0),(.int .i64 0),(.int .i64 0),(.slice none 0 0),(.slice none 0 0)]):=fun F w=>⟨_,rfl,zc61 F w⟩
theorem zv61:(Tryz.prog.info? 61).bind (·.zero)=some (.agg #[(.string .empty),(.string .empty),(.string .empty),(.int .i64 0),(.int .i64 0),(.int .i64 0),(.slice none 0 0),(.slice none 0 0)]):=by kernel_rfl
theorem pl61 : ∀ w, ((#[⟨"Name", 9, 0, false, "", "", 0⟩, ⟨"Of", 9, 1, false, "", "", 16⟩, ⟨"Up", 9, 2, false, "", "", 32⟩, ⟨"Kind", 3, 3, false, "", "", 48⟩, ⟨"Lo", 3, 4, false, "", "", 56⟩, ⟨"Hi", 3, 5, false, "", "", 64⟩, ⟨"Words", 32, 6, false, "", "", 72⟩, ⟨"Weights", 22, 7, false, "", "", 96⟩] : Array Field).mapM (fun f => do pure (f.offset, ← sizeOf f.type) : Field → Sem (Nat × Nat))).run Tryz.prog w = .ok #[(0, 1), (1, 1), (2, 1), (3, 1), (4, 1), (5, 1), (6, 1), (7, 1)] w := fun _ => by kernel_rfl
theorem QuM:(∀F w,Q3 ([tv (.string (sB ([]:Str))),tv (.string (sB ([]:Str))),tv (.string (sB ([]:Str))),ti (0:Int),ti (0:Int),ti (0:Int),tsl rS ([]:(List Str)),tvs nilV]) F w ((.agg #[(.string .empty),(.string .empty),(.string .empty),(.int .i64 0),(.int .i64 0),(.int .i64 0),(.slice none 0 0),(.slice none 0 0)]):Value).cells.toList)∧([tv (.string (sB ([]:Str))),tv (.string (sB ([]:Str))),tv (.string (sB ([]:Str))),ti (0:Int),ti (0:Int),ti (0:Int),tsl rS ([]:(List Str)),tvs nilV]).length=8∧Qc.agg=true∧∃cs,((.agg #[(.string .empty),(.string .empty),(.string .empty),(.int .i64 0),(.int .i64 0),(.int .i64 0),(.slice none 0 0),(.slice none 0 0)]):Value)=.agg cs:=⟨fun _ _=>(.cons rfl (.cons rfl (.cons rfl (.cons rfl (.cons rfl (.cons rfl (.cons ⟨none,0,rfl,Nat.le_refl _,fun h=>(h rfl).elim⟩ (.cons ⟨rfl,rfl⟩ .nil)))))))),rfl,rfl,_,rfl⟩
theorem QaQ:TOk Tryz.prog 53 (rSl Qc) 24 (.slice none 0 0):=⟨⟨_,Tryz.underlying53,rfl⟩,by kernel_rfl,rfl⟩
structure Qj where
  Name:Str
  Lo:Int
  Hi:Int
  Fields:(List Qb)
deriving Inhabited
@[reducible] def Qk : Rep Qj := ⟨fun x => ([tv (.string (sB x.Name)),ti x.Lo,ti x.Hi,tsl Qc x.Fields]),4,true,fun _ => rfl,fun _ => (Qw (Q9 rfl) (Qw (Q9 rfl) (Qw (Q9 rfl) (Qw QaL Qam)))),fun h => (by cases h)⟩
theorem QY:TOk Tryz.prog 55 Qk 56 (.agg #[(.string .empty),(.int .i64 0),(.int .i64 0),(.slice none 0 0)]):=⟨⟨_,Tryz.underlying55,rfl⟩,by kernel_rfl,rfl⟩
theorem zc55:∀F w,Q3 (Qk.cs (Qj.mk ([]:Str) (0:Int) (0:Int) ([]:(List Qb)))) F w ((.agg #[(.string .empty),(.int .i64 0),(.int .i64 0),(.slice none 0 0)]):Value).cells.toList:=fun _ _=>(.cons rfl (.cons rfl (.cons rfl (.cons ⟨none,0,rfl,Nat.le_refl _,fun h=>(h rfl).elim⟩ .nil))))
theorem QiJ:∀F w,(Qk.ty (Qj.mk ([]:Str) (0:Int) (0:Int) ([]:(List Qb)))).ok F w (.agg #[(.string .empty),(.int .i64 0),(.int .i64 0),(.slice none 0 0)]):=fun F w=>⟨_,rfl,zc55 F w⟩
theorem zv55:(Tryz.prog.info? 55).bind (·.zero)=some (.agg #[(.string .empty),(.int .i64 0),(.int .i64 0),(.slice none 0 0)]):=by kernel_rfl
theorem pl55 : ∀ w, ((#[⟨"Name", 9, 0, false, "", "", 0⟩, ⟨"Lo", 3, 1, false, "", "", 16⟩, ⟨"Hi", 3, 2, false, "", "", 24⟩, ⟨"Fields", 53, 3, false, "", "", 32⟩] : Array Field).mapM (fun f => do pure (f.offset, ← sizeOf f.type) : Field → Sem (Nat × Nat))).run Tryz.prog w = .ok #[(0, 1), (1, 1), (2, 1), (3, 1)] w := fun _ => by kernel_rfl
theorem QuN:(∀F w,Q3 ([tv (.string (sB ([]:Str))),ti (0:Int),ti (0:Int),tvs nilV]) F w ((.agg #[(.string .empty),(.int .i64 0),(.int .i64 0),(.slice none 0 0)]):Value).cells.toList)∧([tv (.string (sB ([]:Str))),ti (0:Int),ti (0:Int),tvs nilV]).length=4∧Qk.agg=true∧∃cs,((.agg #[(.string .empty),(.int .i64 0),(.int .i64 0),(.slice none 0 0)]):Value)=.agg cs:=⟨fun _ _=>(.cons rfl (.cons rfl (.cons rfl (.cons ⟨rfl,rfl⟩ .nil)))),rfl,rfl,_,rfl⟩
theorem QaA:TOk Tryz.prog 23 (rSl Qk) 24 (.slice none 0 0):=⟨⟨_,Tryz.underlying23,rfl⟩,by kernel_rfl,rfl⟩
structure QU where
  a0:Int
  a1:Int
deriving Inhabited
@[reducible] def Qao : Rep QU := ⟨fun x => ([ti x.a0,ti x.a1]),2,true,fun _ => rfl,fun _ => (Qw (Q9 rfl) (Qw (Q9 rfl) Qam)),fun h => (by cases h)⟩
theorem QdN:TOk Tryz.prog 82 Qao 16 (.agg #[(.int .i64 0),(.int .i64 0)]):=⟨⟨_,Tryz.underlying82,rfl⟩,by kernel_rfl,rfl⟩
theorem zc82:∀F w,Q3 (Qao.cs (QU.mk (0:Int) (0:Int))) F w ((.agg #[(.int .i64 0),(.int .i64 0)]):Value).cells.toList:=fun _ _=>(.cons rfl (.cons rfl .nil))
theorem zok82:∀F w,(Qao.ty (QU.mk (0:Int) (0:Int))).ok F w (.agg #[(.int .i64 0),(.int .i64 0)]):=fun F w=>⟨_,rfl,zc82 F w⟩
theorem zv82:(Tryz.prog.info? 82).bind (·.zero)=some (.agg #[(.int .i64 0),(.int .i64 0)]):=by kernel_rfl
theorem QhG:TOk Tryz.prog 79 (rSl Qao) 24 (.slice none 0 0):=⟨⟨_,Tryz.underlying79,rfl⟩,by kernel_rfl,rfl⟩
structure Qn where
  Name:Str
  States:(List Str)
  Moves:(List QU)
deriving Inhabited
@[reducible] def QB : Rep Qn := ⟨fun x => ([tv (.string (sB x.Name)),tsl rS x.States,tsl Qao x.Moves]),3,true,fun _ => rfl,fun _ => (Qw (Q9 rfl) (Qw QaL (Qw QaL Qam))),fun h => (by cases h)⟩
theorem QbK:TOk Tryz.prog 81 QB 64 (.agg #[(.string .empty),(.slice none 0 0),(.slice none 0 0)]):=⟨⟨_,Tryz.underlying81,rfl⟩,by kernel_rfl,rfl⟩
theorem zc81:∀F w,Q3 (QB.cs (Qn.mk ([]:Str) ([]:(List Str)) ([]:(List QU)))) F w ((.agg #[(.string .empty),(.slice none 0 0),(.slice none 0 0)]):Value).cells.toList:=fun _ _=>(.cons rfl (.cons ⟨none,0,rfl,Nat.le_refl _,fun h=>(h rfl).elim⟩ (.cons ⟨none,0,rfl,Nat.le_refl _,fun h=>(h rfl).elim⟩ .nil)))
theorem QqU:∀F w,(QB.ty (Qn.mk ([]:Str) ([]:(List Str)) ([]:(List QU)))).ok F w (.agg #[(.string .empty),(.slice none 0 0),(.slice none 0 0)]):=fun F w=>⟨_,rfl,zc81 F w⟩
theorem zv81:(Tryz.prog.info? 81).bind (·.zero)=some (.agg #[(.string .empty),(.slice none 0 0),(.slice none 0 0)]):=by kernel_rfl
theorem pl81 : ∀ w, ((#[⟨"Name", 9, 0, false, "", "", 0⟩, ⟨"States", 32, 1, false, "", "", 16⟩, ⟨"Moves", 79, 2, false, "", "", 40⟩] : Array Field).mapM (fun f => do pure (f.offset, ← sizeOf f.type) : Field → Sem (Nat × Nat))).run Tryz.prog w = .ok #[(0, 1), (1, 1), (2, 1)] w := fun _ => by kernel_rfl
theorem QuO:(∀F w,Q3 ([tv (.string (sB ([]:Str))),tsl rS ([]:(List Str)),tvs nilV]) F w ((.agg #[(.string .empty),(.slice none 0 0),(.slice none 0 0)]):Value).cells.toList)∧([tv (.string (sB ([]:Str))),tsl rS ([]:(List Str)),tvs nilV]).length=3∧QB.agg=true∧∃cs,((.agg #[(.string .empty),(.slice none 0 0),(.slice none 0 0)]):Value)=.agg cs:=⟨fun _ _=>(.cons rfl (.cons ⟨none,0,rfl,Nat.le_refl _,fun h=>(h rfl).elim⟩ (.cons ⟨rfl,rfl⟩ .nil))),rfl,rfl,_,rfl⟩
theorem Qe0:TOk Tryz.prog 24 (rSl QB) 24 (.slice none 0 0):=⟨⟨_,Tryz.underlying24,rfl⟩,by kernel_rfl,rfl⟩
structure Qm where
  Name:Str
  Kind:Str
  A:Str
  B:Str
  N:Int
deriving Inhabited
@[reducible] def Qu : Rep Qm := ⟨fun x => ([tv (.string (sB x.Name)),tv (.string (sB x.Kind)),tv (.string (sB x.A)),tv (.string (sB x.B)),ti x.N]),5,true,fun _ => rfl,fun _ => (Qw (Q9 rfl) (Qw (Q9 rfl) (Qw (Q9 rfl) (Qw (Q9 rfl) (Qw (Q9 rfl) Qam))))),fun h => (by cases h)⟩
theorem Qa2:TOk Tryz.prog 84 Qu 72 (.agg #[(.string .empty),(.string .empty),(.string .empty),(.string .empty),(.int .i64 0)]):=⟨⟨_,Tryz.underlying84,rfl⟩,by kernel_rfl,rfl⟩
theorem zc84:∀F w,Q3 (Qu.cs (Qm.mk ([]:Str) ([]:Str) ([]:Str) ([]:Str) (0:Int))) F w ((.agg #[(.string .empty),(.string .empty),(.string .empty),(.string .empty),(.int .i64 0)]):Value).cells.toList:=fun _ _=>(.cons rfl (.cons rfl (.cons rfl (.cons rfl (.cons rfl .nil)))))
theorem QnI:∀F w,(Qu.ty (Qm.mk ([]:Str) ([]:Str) ([]:Str) ([]:Str) (0:Int))).ok F w (.agg #[(.string .empty),(.string .empty),(.string .empty),(.string .empty),(.int .i64 0)]):=fun F w=>⟨_,rfl,zc84 F w⟩
theorem zv84:(Tryz.prog.info? 84).bind (·.zero)=some (.agg #[(.string .empty),(.string .empty),(.string .empty),(.string .empty),(.int .i64 0)]):=by kernel_rfl
theorem pl84 : ∀ w, ((#[⟨"Name", 9, 0, false, "", "", 0⟩, ⟨"Kind", 9, 1, false, "", "", 16⟩, ⟨"A", 9, 2, false, "", "", 32⟩, ⟨"B", 9, 3, false, "", "", 48⟩, ⟨"N", 3, 4, false, "", "", 64⟩] : Array Field).mapM (fun f => do pure (f.offset, ← sizeOf f.type) : Field → Sem (Nat × Nat))).run Tryz.prog w = .ok #[(0, 1), (1, 1), (2, 1), (3, 1), (4, 1)] w := fun _ => by kernel_rfl
theorem QfJ:TOk Tryz.prog 25 (rSl Qu) 24 (.slice none 0 0):=⟨⟨_,Tryz.underlying25,rfl⟩,by kernel_rfl,rfl⟩
structure Qg where
  Version:Int
  Kinds:(List Qj)
  Lives:(List Qn)
  Rules:(List Qm)
deriving Inhabited
@[reducible] def Qi : Rep Qg := ⟨fun x => ([ti x.Version,tsl Qk x.Kinds,tsl QB x.Lives,tsl Qu x.Rules]),4,true,fun _ => rfl,fun _ => (Qw (Q9 rfl) (Qw QaL (Qw QaL (Qw QaL Qam)))),fun h => (by cases h)⟩
theorem Qak:TOk Tryz.prog 27 Qi 80 (.agg #[(.int .i64 0),(.slice none 0 0),(.slice none 0 0),(.slice none 0 0)]):=⟨⟨_,Tryz.underlying27,rfl⟩,by kernel_rfl,rfl⟩
theorem zc27:∀F w,Q3 (Qi.cs (Qg.mk (0:Int) ([]:(List Qj)) ([]:(List Qn)) ([]:(List Qm)))) F w ((.agg #[(.int .i64 0),(.slice none 0 0),(.slice none 0 0),(.slice none 0 0)]):Value).cells.toList:=fun _ _=>(.cons rfl (.cons ⟨none,0,rfl,Nat.le_refl _,fun h=>(h rfl).elim⟩ (.cons ⟨none,0,rfl,Nat.le_refl _,fun h=>(h rfl).elim⟩ (.cons ⟨none,0,rfl,Nat.le_refl _,fun h=>(h rfl).elim⟩ .nil))))
theorem QnJ:∀F w,(Qi.ty (Qg.mk (0:Int) ([]:(List Qj)) ([]:(List Qn)) ([]:(List Qm)))).ok F w (.agg #[(.int .i64 0),(.slice none 0 0),(.slice none 0 0),(.slice none 0 0)]):=fun F w=>⟨_,rfl,zc27 F w⟩
theorem zv27:(Tryz.prog.info? 27).bind (·.zero)=some (.agg #[(.int .i64 0),(.slice none 0 0),(.slice none 0 0),(.slice none 0 0)]):=by kernel_rfl
theorem pl27 : ∀ w, ((#[⟨"Version", 3, 0, false, "", "", 0⟩, ⟨"Kinds", 23, 1, false, "", "", 8⟩, ⟨"Lives", 24, 2, false, "", "", 32⟩, ⟨"Rules", 25, 3, false, "", "", 56⟩] : Array Field).mapM (fun f => do pure (f.offset, ← sizeOf f.type) : Field → Sem (Nat × Nat))).run Tryz.prog w = .ok #[(0, 1), (1, 1), (2, 1), (3, 1)] w := fun _ => by kernel_rfl
theorem QuP:(∀F w,Q3 ([ti (0:Int),tvs nilV,tsl QB ([]:(List Qn)),tsl Qu ([]:(List Qm))]) F w ((.agg #[(.int .i64 0),(.slice none 0 0),(.slice none 0 0),(.slice none 0 0)]):Value).cells.toList)∧([ti (0:Int),tvs nilV,tsl QB ([]:(List Qn)),tsl Qu ([]:(List Qm))]).length=4∧Qi.agg=true∧∃cs,((.agg #[(.int .i64 0),(.slice none 0 0),(.slice none 0 0),(.slice none 0 0)]):Value)=.agg cs:=⟨fun _ _=>(.cons rfl (.cons ⟨rfl,rfl⟩ (.cons ⟨none,0,rfl,Nat.le_refl _,fun h=>(h rfl).elim⟩ (.cons ⟨none,0,rfl,Nat.le_refl _,fun h=>(h rfl).elim⟩ .nil)))),rfl,rfl,_,rfl⟩
theorem Qrk:(∀F w,Q3 ([ti (0:Int),tvs nilV,tvs nilV,tvs nilV]) F w ((.agg #[(.int .i64 0),(.slice none 0 0),(.slice none 0 0),(.slice none 0 0)]):Value).cells.toList)∧([ti (0:Int),tvs nilV,tvs nilV,tvs nilV]).length=4∧Qi.agg=true∧∃cs,((.agg #[(.int .i64 0),(.slice none 0 0),(.slice none 0 0),(.slice none 0 0)]):Value)=.agg cs:=⟨fun _ _=>(.cons rfl (.cons ⟨rfl,rfl⟩ (.cons ⟨rfl,rfl⟩ (.cons ⟨rfl,rfl⟩ .nil)))),rfl,rfl,_,rfl⟩
structure Qh where
  A:Int
  B:Int
  Mul:Int
  Least:Bool
deriving Inhabited
@[reducible] def Qr : Rep Qh := ⟨fun x => ([ti x.A,ti x.B,ti x.Mul,tb x.Least]),4,true,fun _ => rfl,fun _ => (Qw (Q9 rfl) (Qw (Q9 rfl) (Qw (Q9 rfl) (Qw (Q9 rfl) Qam)))),fun h => (by cases h)⟩
theorem QbL:TOk Tryz.prog 43 Qr 32 (.agg #[(.int .i64 0),(.int .i64 0),(.int .i64 0),(.bool false)]):=⟨⟨_,Tryz.underlying43,rfl⟩,by kernel_rfl,rfl⟩
theorem zc43:∀F w,Q3 (Qr.cs (Qh.mk (0:Int) (0:Int) (0:Int) false)) F w ((.agg #[(.int .i64 0),(.int .i64 0),(.int .i64 0),(.bool false)]):Value).cells.toList:=fun _ _=>(.cons rfl (.cons rfl (.cons rfl (.cons rfl .nil))))
theorem QsE:∀F w,(Qr.ty (Qh.mk (0:Int) (0:Int) (0:Int) false)).ok F w (.agg #[(.int .i64 0),(.int .i64 0),(.int .i64 0),(.bool false)]):=fun F w=>⟨_,rfl,zc43 F w⟩
theorem zv43:(Tryz.prog.info? 43).bind (·.zero)=some (.agg #[(.int .i64 0),(.int .i64 0),(.int .i64 0),(.bool false)]):=by kernel_rfl
theorem pl43 : ∀ w, ((#[⟨"A", 3, 0, false, "", "", 0⟩, ⟨"B", 3, 1, false, "", "", 8⟩, ⟨"Mul", 3, 2, false, "", "", 16⟩, ⟨"Least", 4, 3, false, "", "", 24⟩] : Array Field).mapM (fun f => do pure (f.offset, ← sizeOf f.type) : Field → Sem (Nat × Nat))).run Tryz.prog w = .ok #[(0, 1), (1, 1), (2, 1), (3, 1)] w := fun _ => by kernel_rfl
theorem tok31:TOk Tryz.prog 31 (rSl Qr) 24 (.slice none 0 0):=⟨⟨_,Tryz.underlying31,rfl⟩,by kernel_rfl,rfl⟩
theorem QnK:TOk Tryz.prog 33 rI 8 (.int .i64 0):=⟨⟨_,Tryz.underlying33,rfl⟩,by kernel_rfl,rfl⟩
structure QD where
  A:Int
  B:Int
  Mul:Int
  Least:Bool
deriving Inhabited
@[reducible] def Qae : Rep QD := ⟨fun x => ([ti x.A,ti x.B,ti x.Mul,tb x.Least]),4,true,fun _ => rfl,fun _ => (Qw (Q9 rfl) (Qw (Q9 rfl) (Qw (Q9 rfl) (Qw (Q9 rfl) Qam)))),fun h => (by cases h)⟩
theorem Qic:TOk Tryz.prog 41 Qae 32 (.agg #[(.int .i64 0),(.int .i64 0),(.int .i64 0),(.bool false)]):=⟨⟨_,Tryz.underlying41,rfl⟩,by kernel_rfl,rfl⟩
theorem zc41:∀F w,Q3 (Qae.cs (QD.mk (0:Int) (0:Int) (0:Int) false)) F w ((.agg #[(.int .i64 0),(.int .i64 0),(.int .i64 0),(.bool false)]):Value).cells.toList:=fun _ _=>(.cons rfl (.cons rfl (.cons rfl (.cons rfl .nil))))
theorem zv41:(Tryz.prog.info? 41).bind (·.zero)=some (.agg #[(.int .i64 0),(.int .i64 0),(.int .i64 0),(.bool false)]):=by kernel_rfl
theorem pl41 : ∀ w, ((#[⟨"A", 3, 0, false, "", "", 0⟩, ⟨"B", 3, 1, false, "", "", 8⟩, ⟨"Mul", 3, 2, false, "", "", 16⟩, ⟨"Least", 4, 3, false, "", "", 24⟩] : Array Field).mapM (fun f => do pure (f.offset, ← sizeOf f.type) : Field → Sem (Nat × Nat))).run Tryz.prog w = .ok #[(0, 1), (1, 1), (2, 1), (3, 1)] w := fun _ => by kernel_rfl
structure QM where
  L:(List Int)
  I:Int
deriving Inhabited
@[reducible] def QA : Rep QM := ⟨fun x => ([tsl rI x.L,ti x.I]),2,true,fun _ => rfl,fun _ => (Qw QaL (Qw (Q9 rfl) Qam)),fun h => (by cases h)⟩
theorem zc76:∀F w,Q3 (QA.cs (QM.mk ([]:(List Int)) (0:Int))) F w ((.agg #[(.slice none 0 0),(.int .i64 0)]):Value).cells.toList:=fun _ _=>(.cons ⟨none,0,rfl,Nat.le_refl _,fun h=>(h rfl).elim⟩ (.cons rfl .nil))
theorem zv76:(Tryz.prog.info? 76).bind (·.zero)=some (.agg #[(.slice none 0 0),(.int .i64 0)]):=by kernel_rfl
theorem pl76 : ∀ w, ((#[⟨"L", 22, 0, false, "", "", 0⟩, ⟨"I", 3, 1, false, "", "", 24⟩] : Array Field).mapM (fun f => do pure (f.offset, ← sizeOf f.type) : Field → Sem (Nat × Nat))).run Tryz.prog w = .ok #[(0, 1), (1, 1)] w := fun _ => by kernel_rfl
structure QP where
  Kind:Int
  Field:Int
  Rule:Int
  Code:Int
deriving Inhabited
@[reducible] def Q8 : Rep QP := ⟨fun x => ([ti x.Kind,ti x.Field,ti x.Rule,ti x.Code]),4,true,fun _ => rfl,fun _ => (Qw (Q9 rfl) (Qw (Q9 rfl) (Qw (Q9 rfl) (Qw (Q9 rfl) Qam)))),fun h => (by cases h)⟩
theorem QsF:TOk Tryz.prog 94 Q8 32 (.agg #[(.int .i64 0),(.int .i64 0),(.int .i64 0),(.int .i64 0)]):=⟨⟨_,Tryz.underlying94,rfl⟩,by kernel_rfl,rfl⟩
theorem zc94:∀F w,Q3 (Q8.cs (QP.mk (0:Int) (0:Int) (0:Int) (0:Int))) F w ((.agg #[(.int .i64 0),(.int .i64 0),(.int .i64 0),(.int .i64 0)]):Value).cells.toList:=fun _ _=>(.cons rfl (.cons rfl (.cons rfl (.cons rfl .nil))))
theorem zv94:(Tryz.prog.info? 94).bind (·.zero)=some (.agg #[(.int .i64 0),(.int .i64 0),(.int .i64 0),(.int .i64 0)]):=by kernel_rfl
theorem pl94 : ∀ w, ((#[⟨"Kind", 3, 0, false, "", "", 0⟩, ⟨"Field", 3, 1, false, "", "", 8⟩, ⟨"Rule", 3, 2, false, "", "", 16⟩, ⟨"Code", 33, 3, false, "", "", 24⟩] : Array Field).mapM (fun f => do pure (f.offset, ← sizeOf f.type) : Field → Sem (Nat × Nat))).run Tryz.prog w = .ok #[(0, 1), (1, 1), (2, 1), (3, 1)] w := fun _ => by kernel_rfl
@[reducible] def tF96 (p : (Int → Option Bool)) : Ty := tfn Tryz.prog [] (A := Int) (B := Bool) (fun x => [ti x]) (fun y => tb y) (p)
@[reducible] def rF96 : Rep (Int → Option Bool) := ⟨fun p => [tF96 p],1,false,fun _ => rfl,fun _ => Qw Qfd Qam,fun _ => rfl⟩
theorem Qtl:TOk Tryz.prog 101 (rSl QaE) 24 (.slice none 0 0):=⟨⟨_,Tryz.underlying101,rfl⟩,by kernel_rfl,rfl⟩
structure Qs where
  a0:Int
  a1:Int
  a2:Int
  a3:Int
  a4:Int
  a5:Int
deriving Inhabited
@[reducible] def QE : Rep Qs := ⟨fun x => ([ti x.a0,ti x.a1,ti x.a2,ti x.a3,ti x.a4,ti x.a5]),6,true,fun _ => rfl,fun _ => (Qw (Q9 rfl) (Qw (Q9 rfl) (Qw (Q9 rfl) (Qw (Q9 rfl) (Qw (Q9 rfl) (Qw (Q9 rfl) Qam)))))),fun h => (by cases h)⟩
@[reducible] def Qs.L (a : Qs) : List Int := [a.a0,a.a1,a.a2,a.a3,a.a4,a.a5]
def Qs.setI (a:Qs) (i:Int) (v:Int):Qs:=match i.toNat with | 0=>{ a with a0:=v } | 1=>{ a with a1:=v } | 2=>{ a with a2:=v } | 3=>{ a with a3:=v } | 4=>{ a with a4:=v } | 5=>{ a with a5:=v } | _=>a
theorem Qs.spl {pre post:List Ty} {a:Qs} {i:Int} {v u:Int} {o:Nat} (ho:pre.length=o) (h:idx a.L i=some u):splice (pre++QE.cs a++post) (o+i.toNat) (rI.cs v)=pre++QE.cs (a.setI i v)++post:=by
  have h1:=(idx_lt' h).2.1
  unfold Qs.setI
  revert h1
  generalize i.toNat=k
  intro h1
  refine Qsx ho (show k+1≤6 from h1) ?_
  match k,h1 with
  | 0,_=>rfl
  | 1,_=>rfl
  | 2,_=>rfl
  | 3,_=>rfl
  | 4,_=>rfl
  | 5,_=>rfl
theorem QiK:TOk Tryz.prog 103 QE 48 (.agg #[(.int .i64 0),(.int .i64 0),(.int .i64 0),(.int .i64 0),(.int .i64 0),(.int .i64 0)]):=⟨⟨_,Tryz.underlying103,rfl⟩,by kernel_rfl,rfl⟩
theorem zc103:∀F w,Q3 (QE.cs (Qs.mk (0:Int) (0:Int) (0:Int) (0:Int) (0:Int) (0:Int))) F w ((.agg #[(.int .i64 0),(.int .i64 0),(.int .i64 0),(.int .i64 0),(.int .i64 0),(.int .i64 0)]):Value).cells.toList:=fun _ _=>(.cons rfl (.cons rfl (.cons rfl (.cons rfl (.cons rfl (.cons rfl .nil))))))
theorem zok103:∀F w,(QE.ty (Qs.mk (0:Int) (0:Int) (0:Int) (0:Int) (0:Int) (0:Int))).ok F w (.agg #[(.int .i64 0),(.int .i64 0),(.int .i64 0),(.int .i64 0),(.int .i64 0),(.int .i64 0)]):=fun F w=>⟨_,rfl,zc103 F w⟩
def QbB (p q:Qs):Bool:=p.a0==q.a0&&p.a1==q.a1&&p.a2==q.a2&&p.a3==q.a3&&p.a4==q.a4&&p.a5==q.a5
set_option maxHeartbeats 2000000 in
theorem QuQ (n:Nat) (a0 b0:Int) (a1 b1:Int) (a2 b2:Int) (a3 b3:Int) (a4 b4:Int) (a5 b5:Int) (w:World):(Op.equalIn (n+2) 103 (.agg #[.int .i64 a0,.int .i64 a1,.int .i64 a2,.int .i64 a3,.int .i64 a4,.int .i64 a5]) (.agg #[.int .i64 b0,.int .i64 b1,.int .i64 b2,.int .i64 b3,.int .i64 b4,.int .i64 b5])).run Tryz.prog w=.ok (a0==b0&&a1==b1&&a2==b2&&a3==b3&&a4==b4&&a5==b5) w:=by
  obtain⟨ie,hie,_,hse,_⟩:=tok3.info
  have hse1:ie.size=1:=hse
  have e3:∀x y:Int,(Op.equalIn (n+1) 3 (.int .i64 x) (.int .i64 y)).run Tryz.prog w=.ok (x==y) w:=fun x y=>by simp[Op.equalIn,run_underlying Tryz.underlying3]
  have pt:∀(xs:Array Value) (i:Nat) (v:Value),xs[i]?=some v→(part 3 xs i).run Tryz.prog w=.ok v w:=fun xs i v h=>by simp[part,isAgg,run_underlying Tryz.underlying3,h]
  have p0:∀u0 u1 u2 u3 u4 u5:Int,(part 3 #[.int .i64 u0,.int .i64 u1,.int .i64 u2,.int .i64 u3,.int .i64 u4,.int .i64 u5] 0).run Tryz.prog w=.ok (.int .i64 u0) w:=fun _ _ _ _ _ _=>pt _ 0 _ rfl
  have p1:∀u0 u1 u2 u3 u4 u5:Int,(part 3 #[.int .i64 u0,.int .i64 u1,.int .i64 u2,.int .i64 u3,.int .i64 u4,.int .i64 u5] 1).run Tryz.prog w=.ok (.int .i64 u1) w:=fun _ _ _ _ _ _=>pt _ 1 _ rfl
  have p2:∀u0 u1 u2 u3 u4 u5:Int,(part 3 #[.int .i64 u0,.int .i64 u1,.int .i64 u2,.int .i64 u3,.int .i64 u4,.int .i64 u5] 2).run Tryz.prog w=.ok (.int .i64 u2) w:=fun _ _ _ _ _ _=>pt _ 2 _ rfl
  have p3:∀u0 u1 u2 u3 u4 u5:Int,(part 3 #[.int .i64 u0,.int .i64 u1,.int .i64 u2,.int .i64 u3,.int .i64 u4,.int .i64 u5] 3).run Tryz.prog w=.ok (.int .i64 u3) w:=fun _ _ _ _ _ _=>pt _ 3 _ rfl
  have p4:∀u0 u1 u2 u3 u4 u5:Int,(part 3 #[.int .i64 u0,.int .i64 u1,.int .i64 u2,.int .i64 u3,.int .i64 u4,.int .i64 u5] 4).run Tryz.prog w=.ok (.int .i64 u4) w:=fun _ _ _ _ _ _=>pt _ 4 _ rfl
  have p5:∀u0 u1 u2 u3 u4 u5:Int,(part 3 #[.int .i64 u0,.int .i64 u1,.int .i64 u2,.int .i64 u3,.int .i64 u4,.int .i64 u5] 5).run Tryz.prog w=.ok (.int .i64 u5) w:=fun _ _ _ _ _ _=>pt _ 5 _ rfl
  unfold Op.equalIn
  simp only[Sem.run_bind,run_underlying Tryz.underlying103,Result.andThen_ok,sizeOf,typeInfo,run_program,hie,Sem.run_pure,hse1,Nat.mul_one]
  simp[List.range',p0,p1,p2,p3,p4,p5,e3]
  by_cases h0:a0=b0<;>by_cases h1:a1=b1<;>by_cases h2:a2=b2<;>by_cases h3:a3=b3<;>by_cases h4:a4=b4<;>by_cases h5:a5=b5<;>simp[h0,h1,h2,h3,h4,h5,p0,p1,p2,p3,p4,p5,e3]
theorem QsG:Tryz.prog.eqGuardType Tryz.prog.depth 103=false:=by kernel_rfl
theorem QrM {Γ:List (Nat×Ty)} {d:Option Tmp} {ty t2:TypeId} {pos:String} {af:Array Edge} {g:Option (Nat×Bool)} {x y:Operand} {p q:Qs} (hx:Fct Γ x (QE.ty p)) (hy:Fct Γ y (QE.ty q)):
    OpJ Tryz.prog ⟨d,.binOp .neq 103 x y t2,ty,pos,af,g⟩ Γ [] [] (fun _=>[]) (fun _=>tv (.bool (!QbB p q))):=
  Qcn (u:=.agg #[.int .i64 p.a0,.int .i64 p.a1,.int .i64 p.a2,.int .i64 p.a3,.int .i64 p.a4,.int .i64 p.a5]) (v:=.agg #[.int .i64 q.a0,.int .i64 q.a1,.int .i64 q.a2,.int .i64 q.a3,.int .i64 q.a4,.int .i64 q.a5]) (hx.weak fun _ _ _ h=>by obtain⟨us,hv,hc⟩:=h;rw[hv];exact Qma hc [.int .i64 p.a0,.int .i64 p.a1,.int .i64 p.a2,.int .i64 p.a3,.int .i64 p.a4,.int .i64 p.a5] rfl) (hy.weak fun _ _ _ h=>by obtain⟨us,hv,hc⟩:=h;rw[hv];exact Qma hc [.int .i64 q.a0,.int .i64 q.a1,.int .i64 q.a2,.int .i64 q.a3,.int .i64 q.a4,.int .i64 q.a5] rfl) fun w=>by
    have:=QuQ 9998 p.a0 q.a0 p.a1 q.a1 p.a2 q.a2 p.a3 q.a3 p.a4 q.a4 p.a5 q.a5 w
    simp only[eqGuard,binOp,Op.equal,run_program,QsG,Sem.run_bind,Result.andThen_ok]
    simp[Op.maxDepth,this,QbB]
structure Qx where
  limits:(List Qh)
  want:(List Int)
  leads:(List Bool)
  now:Qs
  best:Qs
  cost:Int
deriving Inhabited
@[reducible] def QR : Rep Qx := ⟨fun x => ([tsl Qr x.limits,tsl rI x.want,tsl QaE x.leads] ++ QE.cs x.now ++ QE.cs x.best ++ [ti x.cost]),16,true,fun _ => rfl,fun _ => (Qiv (Qiv (Qiv (Qw QaL (Qw QaL (Qw QaL Qam))) (QkB QE)) (QkB QE)) (Qw (Q9 rfl) Qam)),fun h => (by cases h)⟩
theorem zc105:∀F w,Q3 (QR.cs (Qx.mk ([]:(List Qh)) ([]:(List Int)) ([]:(List Bool)) (Qs.mk (0:Int) (0:Int) (0:Int) (0:Int) (0:Int) (0:Int)) (Qs.mk (0:Int) (0:Int) (0:Int) (0:Int) (0:Int) (0:Int)) (0:Int))) F w ((.agg #[(.slice none 0 0),(.slice none 0 0),(.slice none 0 0),(.int .i64 0),(.int .i64 0),(.int .i64 0),(.int .i64 0),(.int .i64 0),(.int .i64 0),(.int .i64 0),(.int .i64 0),(.int .i64 0),(.int .i64 0),(.int .i64 0),(.int .i64 0),(.int .i64 0)]):Value).cells.toList:=fun _ _=>(.cons ⟨none,0,rfl,Nat.le_refl _,fun h=>(h rfl).elim⟩ (.cons ⟨none,0,rfl,Nat.le_refl _,fun h=>(h rfl).elim⟩ (.cons ⟨none,0,rfl,Nat.le_refl _,fun h=>(h rfl).elim⟩ (.cons rfl (.cons rfl (.cons rfl (.cons rfl (.cons rfl (.cons rfl (.cons rfl (.cons rfl (.cons rfl (.cons rfl (.cons rfl (.cons rfl (.cons rfl .nil))))))))))))))))
theorem zv105:(Tryz.prog.info? 105).bind (·.zero)=some (.agg #[(.slice none 0 0),(.slice none 0 0),(.slice none 0 0),(.int .i64 0),(.int .i64 0),(.int .i64 0),(.int .i64 0),(.int .i64 0),(.int .i64 0),(.int .i64 0),(.int .i64 0),(.int .i64 0),(.int .i64 0),(.int .i64 0),(.int .i64 0),(.int .i64 0)]):=by kernel_rfl
theorem pl105 : ∀ w, ((#[⟨"limits", 31, 0, false, "", "diorama/counts", 0⟩, ⟨"want", 22, 1, false, "", "diorama/counts", 24⟩, ⟨"leads", 101, 2, false, "", "diorama/counts", 48⟩, ⟨"now", 103, 3, false, "", "diorama/counts", 72⟩, ⟨"best", 103, 9, false, "", "diorama/counts", 120⟩, ⟨"cost", 3, 15, false, "", "diorama/counts", 168⟩] : Array Field).mapM (fun f => do pure (f.offset, ← sizeOf f.type) : Field → Sem (Nat × Nat))).run Tryz.prog w = .ok #[(0, 1), (1, 1), (2, 1), (3, 6), (9, 6), (15, 1)] w := fun _ => by kernel_rfl
@[reducible] def tF112 (p : (Qh → Option Bool)) : Ty := tfn Tryz.prog [] (A := Qh) (B := Bool) (fun x => [Qr.ty x]) (fun y => tb y) (p)
@[reducible] def QsH : Rep (Qh → Option Bool) := ⟨fun p => [tF112 p],1,false,fun _ => rfl,fun _ => Qw Qfd Qam,fun _ => rfl⟩
structure Qt where
  Kind:Int
  Field:Int
  Rule:Int
  Code:Int
deriving Inhabited
@[reducible] def Q6 : Rep Qt := ⟨fun x => ([ti x.Kind,ti x.Field,ti x.Rule,ti x.Code]),4,true,fun _ => rfl,fun _ => (Qw (Q9 rfl) (Qw (Q9 rfl) (Qw (Q9 rfl) (Qw (Q9 rfl) Qam)))),fun h => (by cases h)⟩
theorem QoV:TOk Tryz.prog 119 Q6 32 (.agg #[(.int .i64 0),(.int .i64 0),(.int .i64 0),(.int .i64 0)]):=⟨⟨_,Tryz.underlying119,rfl⟩,by kernel_rfl,rfl⟩
theorem zc119:∀F w,Q3 (Q6.cs (Qt.mk (0:Int) (0:Int) (0:Int) (0:Int))) F w ((.agg #[(.int .i64 0),(.int .i64 0),(.int .i64 0),(.int .i64 0)]):Value).cells.toList:=fun _ _=>(.cons rfl (.cons rfl (.cons rfl (.cons rfl .nil))))
theorem zv119:(Tryz.prog.info? 119).bind (·.zero)=some (.agg #[(.int .i64 0),(.int .i64 0),(.int .i64 0),(.int .i64 0)]):=by kernel_rfl
theorem pl119 : ∀ w, ((#[⟨"Kind", 3, 0, false, "", "", 0⟩, ⟨"Field", 3, 1, false, "", "", 8⟩, ⟨"Rule", 3, 2, false, "", "", 16⟩, ⟨"Code", 33, 3, false, "", "", 24⟩] : Array Field).mapM (fun f => do pure (f.offset, ← sizeOf f.type) : Field → Sem (Nat × Nat))).run Tryz.prog w = .ok #[(0, 1), (1, 1), (2, 1), (3, 1)] w := fun _ => by kernel_rfl
@[reducible] def tF122 (p : (Qn → Option Bool)) : Ty := tfn Tryz.prog [] (A := Qn) (B := Bool) (fun x => [QB.ty x]) (fun y => tb y) (p)
@[reducible] def Qme : Rep (Qn → Option Bool) := ⟨fun p => [tF122 p],1,false,fun _ => rfl,fun _ => Qw Qfd Qam,fun _ => rfl⟩
theorem tok122:TOk Tryz.prog 122 Qme 8 .nilFunc:=⟨⟨_,Tryz.underlying122,rfl⟩,by kernel_rfl,rfl⟩
structure Qy where
  is:Bool
  code:Int
deriving Inhabited
@[reducible] def QZ : Rep Qy := ⟨fun x => ([tb x.is,ti x.code]),2,true,fun _ => rfl,fun _ => (Qw (Q9 rfl) (Qw (Q9 rfl) Qam)),fun h => (by cases h)⟩
theorem QeJ:TOk Tryz.prog 125 QZ 16 (.agg #[(.bool false),(.int .i64 0)]):=⟨⟨_,Tryz.underlying125,rfl⟩,by kernel_rfl,rfl⟩
theorem Qew:∀F w,Q3 (QZ.cs (Qy.mk false (0:Int))) F w ((.agg #[(.bool false),(.int .i64 0)]):Value).cells.toList:=fun _ _=>(.cons rfl (.cons rfl .nil))
theorem zok125:∀F w,(QZ.ty (Qy.mk false (0:Int))).ok F w (.agg #[(.bool false),(.int .i64 0)]):=fun F w=>⟨_,rfl,Qew F w⟩
theorem Qe1:(Tryz.prog.info? 125).bind (·.zero)=some (.agg #[(.bool false),(.int .i64 0)]):=by kernel_rfl
theorem Qe2 : ∀ w, ((#[⟨"is", 4, 0, false, "", "diorama/typing", 0⟩, ⟨"code", 33, 1, false, "", "diorama/typing", 8⟩] : Array Field).mapM (fun f => do pure (f.offset, ← sizeOf f.type) : Field → Sem (Nat × Nat))).run Tryz.prog w = .ok #[(0, 1), (1, 1)] w := fun _ => by kernel_rfl
structure QT where
  x:Qg
  kind:Int
  field:Int
  f:Qb
deriving Inhabited
@[reducible] def Qaw : Rep QT := ⟨fun x => (Qi.cs x.x ++ [ti x.kind,ti x.field] ++ Qc.cs x.f),14,true,fun _ => rfl,fun _ => (Qiv (Qiv (QkB Qi) (Qw (Q9 rfl) (Qw (Q9 rfl) Qam))) (QkB Qc)),fun h => (by cases h)⟩
theorem Qm8:TOk Tryz.prog 133 Qaw 216 (.agg #[(.int .i64 0),(.slice none 0 0),(.slice none 0 0),(.slice none 0 0),(.int .i64 0),(.int .i64 0),(.string .empty),(.string .empty),(.string .empty),(.int .i64 0),(.int .i64 0),(.int .i64 0),(.slice none 0 0),(.slice none 0 0)]):=⟨⟨_,Tryz.underlying133,rfl⟩,by kernel_rfl,rfl⟩
theorem zc133:∀F w,Q3 (Qaw.cs (QT.mk (Qg.mk (0:Int) ([]:(List Qj)) ([]:(List Qn)) ([]:(List Qm))) (0:Int) (0:Int) (Qb.mk ([]:Str) ([]:Str) ([]:Str) (0:Int) (0:Int) (0:Int) ([]:(List Str)) ([]:(List Int))))) F w ((.agg #[(.int .i64 0),(.slice none 0 0),(.slice none 0 0),(.slice none 0 0),(.int .i64 0),(.int .i64 0),(.string .empty),(.string .empty),(.string .empty),(.int .i64 0),(.int .i64 0),(.int .i64 0),(.slice none 0 0),(.slice none 0 0)]):Value).cells.toList:=fun _ _=>(.cons rfl (.cons ⟨none,0,rfl,Nat.le_refl _,fun h=>(h rfl).elim⟩ (.cons ⟨none,0,rfl,Nat.le_refl _,fun h=>(h rfl).elim⟩ (.cons ⟨none,0,rfl,Nat.le_refl _,fun h=>(h rfl).elim⟩ (.cons rfl (.cons rfl (.cons rfl (.cons rfl (.cons rfl (.cons rfl (.cons rfl (.cons rfl (.cons ⟨none,0,rfl,Nat.le_refl _,fun h=>(h rfl).elim⟩ (.cons ⟨none,0,rfl,Nat.le_refl _,fun h=>(h rfl).elim⟩ .nil))))))))))))))
theorem zv133:(Tryz.prog.info? 133).bind (·.zero)=some (.agg #[(.int .i64 0),(.slice none 0 0),(.slice none 0 0),(.slice none 0 0),(.int .i64 0),(.int .i64 0),(.string .empty),(.string .empty),(.string .empty),(.int .i64 0),(.int .i64 0),(.int .i64 0),(.slice none 0 0),(.slice none 0 0)]):=by kernel_rfl
theorem pl133 : ∀ w, ((#[⟨"x", 27, 0, false, "", "diorama/typing", 0⟩, ⟨"kind", 3, 4, false, "", "diorama/typing", 80⟩, ⟨"field", 3, 5, false, "", "diorama/typing", 88⟩, ⟨"f", 61, 6, false, "", "diorama/typing", 96⟩] : Array Field).mapM (fun f => do pure (f.offset, ← sizeOf f.type) : Field → Sem (Nat × Nat))).run Tryz.prog w = .ok #[(0, 4), (4, 1), (5, 1), (6, 8)] w := fun _ => by kernel_rfl
@[reducible] def tF128 (p : (QT → Option Int)) : Ty := tfn Tryz.prog [] (A := QT) (B := Int) (fun x => [Qaw.ty x]) (fun y => ti y) (p)
@[reducible] def rF128 : Rep (QT → Option Int) := ⟨fun p => [tF128 p],1,false,fun _ => rfl,fun _ => Qw Qfd Qam,fun _ => rfl⟩
@[reducible] def Qtm : Rep (Option (QT → Option Int)) := ⟨fun p => [tfo (tF128) p],1,false,fun _ => rfl,fun _ => Qw (Qr1 (fun _ => Qfd)) Qam,fun _ => rfl⟩
theorem tok128:TOk Tryz.prog 128 rF128 8 .nilFunc:=⟨⟨_,Tryz.underlying128,rfl⟩,by kernel_rfl,rfl⟩
theorem QuR:TOk Tryz.prog 128 Qtm 8 .nilFunc:=⟨⟨_,Tryz.underlying128,rfl⟩,by kernel_rfl,rfl⟩
structure Qcy where
  check:(Option (QT→Option Int))
instance :Inhabited Qcy:=⟨⟨none⟩⟩
@[reducible] def Qez : Rep Qcy := ⟨fun x => ([Qtm.ty x.check]),1,true,fun _ => rfl,fun _ => (Qw (Qr1 (fun _ => Qfd)) Qam),fun h => (by cases h)⟩
theorem Qtn:TOk Tryz.prog 129 Qez 8 (.agg #[.nilFunc]):=⟨⟨_,Tryz.underlying129,rfl⟩,by kernel_rfl,rfl⟩
theorem zc129:∀F w,Q3 (Qez.cs (Qcy.mk none)) F w ((.agg #[.nilFunc]):Value).cells.toList:=fun _ _=>(.cons rfl .nil)
theorem zok129:∀F w,(Qez.ty (Qcy.mk none)).ok F w (.agg #[.nilFunc]):=fun F w=>⟨_,rfl,zc129 F w⟩
theorem zv129:(Tryz.prog.info? 129).bind (·.zero)=some (.agg #[.nilFunc]):=by kernel_rfl
@[reducible] def tF138 (p : (Qj → Option Bool)) : Ty := tfn Tryz.prog [] (A := Qj) (B := Bool) (fun x => [Qk.ty x]) (fun y => tb y) (p)
@[reducible] def Qmf : Rep (Qj → Option Bool) := ⟨fun p => [tF138 p],1,false,fun _ => rfl,fun _ => Qw Qfd Qam,fun _ => rfl⟩
theorem tok138:TOk Tryz.prog 138 Qmf 8 .nilFunc:=⟨⟨_,Tryz.underlying138,rfl⟩,by kernel_rfl,rfl⟩
@[reducible] def tF163 (p : (Qm → Option Bool)) : Ty := tfn Tryz.prog [] (A := Qm) (B := Bool) (fun x => [Qu.ty x]) (fun y => tb y) (p)
@[reducible] def Qmg : Rep (Qm → Option Bool) := ⟨fun p => [tF163 p],1,false,fun _ => rfl,fun _ => Qw Qfd Qam,fun _ => rfl⟩
theorem tok163:TOk Tryz.prog 163 Qmg 8 .nilFunc:=⟨⟨_,Tryz.underlying163,rfl⟩,by kernel_rfl,rfl⟩
@[reducible] def tF168 (p : (Qb → Option Bool)) : Ty := tfn Tryz.prog [] (A := Qb) (B := Bool) (fun x => [Qc.ty x]) (fun y => tb y) (p)
@[reducible] def Qmh : Rep (Qb → Option Bool) := ⟨fun p => [tF168 p],1,false,fun _ => rfl,fun _ => Qw Qfd Qam,fun _ => rfl⟩
theorem tok168:TOk Tryz.prog 168 Qmh 8 .nilFunc:=⟨⟨_,Tryz.underlying168,rfl⟩,by kernel_rfl,rfl⟩
@[reducible] def tF178 (p : (Str → Option Bool)) : Ty := tfn Tryz.prog [] (A := Str) (B := Bool) (fun x => [tv (.string (sB x))]) (fun y => tb y) (p)
@[reducible] def Qmi : Rep (Str → Option Bool) := ⟨fun p => [tF178 p],1,false,fun _ => rfl,fun _ => Qw Qfd Qam,fun _ => rfl⟩
theorem tok178:TOk Tryz.prog 178 Qmi 8 .nilFunc:=⟨⟨_,Tryz.underlying178,rfl⟩,by kernel_rfl,rfl⟩
@[reducible] def tF183 (p : (QU → Option Bool)) : Ty := tfn Tryz.prog [] (A := QU) (B := Bool) (fun x => [Qao.ty x]) (fun y => tb y) (p)
@[reducible] def Qmj : Rep (QU → Option Bool) := ⟨fun p => [tF183 p],1,false,fun _ => rfl,fun _ => Qw Qfd Qam,fun _ => rfl⟩
theorem tok183:TOk Tryz.prog 183 Qmj 8 .nilFunc:=⟨⟨_,Tryz.underlying183,rfl⟩,by kernel_rfl,rfl⟩
@[reducible] def tF203 (p : (Int → Option Bool)) : Ty := tfn Tryz.prog [] (A := Int) (B := Bool) (fun x => [tv (.int .u8 x)]) (fun y => tb y) (p)
@[reducible] def QsI : Rep (Int → Option Bool) := ⟨fun p => [tF203 p],1,false,fun _ => rfl,fun _ => Qw Qfd Qam,fun _ => rfl⟩
theorem Qrl:TOk Tryz.prog 22 rVal 24 (.slice none 0 0):=⟨⟨_,Tryz.underlying22,rfl⟩,by kernel_rfl,rfl⟩
theorem Qdy:TOk Tryz.prog 23 rVal 24 (.slice none 0 0):=⟨⟨_,Tryz.underlying23,rfl⟩,by kernel_rfl,rfl⟩
theorem QiL:TOk Tryz.prog 24 rVal 24 (.slice none 0 0):=⟨⟨_,Tryz.underlying24,rfl⟩,by kernel_rfl,rfl⟩
theorem QlF:TOk Tryz.prog 25 rVal 24 (.slice none 0 0):=⟨⟨_,Tryz.underlying25,rfl⟩,by kernel_rfl,rfl⟩
theorem QoW:TOk Tryz.prog 31 rVal 24 (.slice none 0 0):=⟨⟨_,Tryz.underlying31,rfl⟩,by kernel_rfl,rfl⟩
theorem QoX:TOk Tryz.prog 32 rVal 24 (.slice none 0 0):=⟨⟨_,Tryz.underlying32,rfl⟩,by kernel_rfl,rfl⟩
theorem Qen:TOk Tryz.prog 53 rVal 24 (.slice none 0 0):=⟨⟨_,Tryz.underlying53,rfl⟩,by kernel_rfl,rfl⟩
theorem QoY:TOk Tryz.prog 68 rVal 24 (.slice none 0 0):=⟨⟨_,Tryz.underlying68,rfl⟩,by kernel_rfl,rfl⟩
theorem QlG:TOk Tryz.prog 79 rVal 24 (.slice none 0 0):=⟨⟨_,Tryz.underlying79,rfl⟩,by kernel_rfl,rfl⟩
theorem Qr3:TOk Tryz.prog 101 rVal 24 (.slice none 0 0):=⟨⟨_,Tryz.underlying101,rfl⟩,by kernel_rfl,rfl⟩
theorem QkD:QK Tryz.prog 27 0 0:=QK.mk Tryz.underlying27 rfl rfl tok3 (by decide)
theorem Q2:QK Tryz.prog 27 1 1:=QK.mk Tryz.underlying27 rfl rfl QaA (by decide)
theorem Qbm:QK Tryz.prog 27 2 2:=QK.mk Tryz.underlying27 rfl rfl Qe0 (by decide)
theorem Qb0:QK Tryz.prog 27 3 3:=QK.mk Tryz.underlying27 rfl rfl QfJ (by decide)
theorem QvJ:QK Tryz.prog 41 0 0:=QK.mk Tryz.underlying41 rfl rfl tok3 (by decide)
theorem QlH:QK Tryz.prog 41 1 1:=QK.mk Tryz.underlying41 rfl rfl tok3 (by decide)
theorem QvK:QK Tryz.prog 41 2 2:=QK.mk Tryz.underlying41 rfl rfl tok3 (by decide)
theorem QvL:QK Tryz.prog 41 3 3:=QK.mk Tryz.underlying41 rfl rfl tok4 (by decide)
theorem QhH:QK Tryz.prog 43 0 0:=QK.mk Tryz.underlying43 rfl rfl tok3 (by decide)
theorem QfP:QK Tryz.prog 43 1 1:=QK.mk Tryz.underlying43 rfl rfl tok3 (by decide)
theorem QhI:QK Tryz.prog 43 2 2:=QK.mk Tryz.underlying43 rfl rfl tok3 (by decide)
theorem QnL:QK Tryz.prog 43 3 3:=QK.mk Tryz.underlying43 rfl rfl tok4 (by decide)
theorem Qbw:QK Tryz.prog 55 0 0:=QK.mk Tryz.underlying55 rfl rfl tok9 (by decide)
theorem QhJ:QK Tryz.prog 55 1 1:=QK.mk Tryz.underlying55 rfl rfl tok3 (by decide)
theorem QfQ:QK Tryz.prog 55 2 2:=QK.mk Tryz.underlying55 rfl rfl tok3 (by decide)
theorem Qah:QK Tryz.prog 55 3 3:=QK.mk Tryz.underlying55 rfl rfl QaQ (by decide)
theorem Qbn:QK Tryz.prog 61 0 0:=QK.mk Tryz.underlying61 rfl rfl tok9 (by decide)
theorem Qau:QK Tryz.prog 61 1 1:=QK.mk Tryz.underlying61 rfl rfl tok9 (by decide)
theorem Qdr:QK Tryz.prog 61 2 2:=QK.mk Tryz.underlying61 rfl rfl tok9 (by decide)
theorem Qap:QK Tryz.prog 61 3 3:=QK.mk Tryz.underlying61 rfl rfl tok3 (by decide)
theorem QaI:QK Tryz.prog 61 4 4:=QK.mk Tryz.underlying61 rfl rfl tok3 (by decide)
theorem Qa3:QK Tryz.prog 61 5 5:=QK.mk Tryz.underlying61 rfl rfl tok3 (by decide)
theorem Qc5:QK Tryz.prog 61 6 6:=QK.mk Tryz.underlying61 rfl rfl QbJ (by decide)
theorem QcJ:QK Tryz.prog 61 7 7:=QK.mk Tryz.underlying61 rfl rfl Qcq (by decide)
theorem QvM:QK Tryz.prog 76 0 0:=QK.mk Tryz.underlying76 rfl rfl Qcq (by decide)
theorem QpG:QK Tryz.prog 76 1 1:=QK.mk Tryz.underlying76 rfl rfl tok3 (by decide)
theorem QgU:QK Tryz.prog 81 0 0:=QK.mk Tryz.underlying81 rfl rfl tok9 (by decide)
theorem QeA:QK Tryz.prog 81 1 1:=QK.mk Tryz.underlying81 rfl rfl QbJ (by decide)
theorem QcK:QK Tryz.prog 81 2 2:=QK.mk Tryz.underlying81 rfl rfl QhG (by decide)
theorem Qiw:QK Tryz.prog 84 0 0:=QK.mk Tryz.underlying84 rfl rfl tok9 (by decide)
theorem QkE:QK Tryz.prog 84 1 1:=QK.mk Tryz.underlying84 rfl rfl tok9 (by decide)
theorem Qfe:QK Tryz.prog 84 2 2:=QK.mk Tryz.underlying84 rfl rfl tok9 (by decide)
theorem Qff:QK Tryz.prog 84 3 3:=QK.mk Tryz.underlying84 rfl rfl tok9 (by decide)
theorem QnM:QK Tryz.prog 84 4 4:=QK.mk Tryz.underlying84 rfl rfl tok3 (by decide)
theorem QvN:QK Tryz.prog 94 3 3:=QK.mk Tryz.underlying94 rfl rfl QnK (by decide)
theorem QuS:QK Tryz.prog 105 0 0:=QK.mk Tryz.underlying105 rfl rfl tok31 (by decide)
theorem Qoe:QK Tryz.prog 105 1 1:=QK.mk Tryz.underlying105 rfl rfl Qcq (by decide)
theorem Qof:QK Tryz.prog 105 2 2:=QK.mk Tryz.underlying105 rfl rfl Qtl (by decide)
theorem Qjk:QK Tryz.prog 105 3 3:=QK.mk Tryz.underlying105 rfl rfl QiK (by decide)
theorem Qmk:QK Tryz.prog 105 4 9:=QK.mk Tryz.underlying105 rfl rfl QiK (by decide)
theorem Qjl:QK Tryz.prog 105 5 15:=QK.mk Tryz.underlying105 rfl rfl tok3 (by decide)
theorem QuT:QK Tryz.prog 119 3 3:=QK.mk Tryz.underlying119 rfl rfl QnK (by decide)
theorem QuU:QK Tryz.prog 125 0 0:=QK.mk Tryz.underlying125 rfl rfl tok4 (by decide)
theorem QuV:QK Tryz.prog 125 1 1:=QK.mk Tryz.underlying125 rfl rfl QnK (by decide)
theorem QuW:QK Tryz.prog 129 0 0:=QK.mk Tryz.underlying129 rfl rfl tok128 (by decide)
theorem Qgg:QK Tryz.prog 133 0 0:=QK.mk Tryz.underlying133 rfl rfl Qak (by decide)
theorem Qjm:QK Tryz.prog 133 1 4:=QK.mk Tryz.underlying133 rfl rfl tok3 (by decide)
theorem Qml:QK Tryz.prog 133 2 5:=QK.mk Tryz.underlying133 rfl rfl tok3 (by decide)
theorem QkL:QK Tryz.prog 133 3 6:=QK.mk Tryz.underlying133 rfl rfl QH (by decide)
theorem call10:Qp Tryz.prog 10:=⟨⟨_,Tryz.func10,by kernel_rfl,rfl⟩⟩
theorem call11:Qp Tryz.prog 11:=⟨⟨_,Tryz.func11,by kernel_rfl,rfl⟩⟩
theorem Qto:Qp Tryz.prog 12:=⟨⟨_,Tryz.func12,by kernel_rfl,rfl⟩⟩
theorem call13:Qp Tryz.prog 13:=⟨⟨_,Tryz.func13,by kernel_rfl,rfl⟩⟩
theorem call16:Qp Tryz.prog 16:=⟨⟨_,Tryz.func16,by kernel_rfl,rfl⟩⟩
theorem Qb4:Qp Tryz.prog 17:=⟨⟨_,Tryz.func17,by kernel_rfl,rfl⟩⟩
theorem Qtp:Qp Tryz.prog 19:=⟨⟨_,Tryz.func19,by kernel_rfl,rfl⟩⟩
theorem call20:Qp Tryz.prog 20:=⟨⟨_,Tryz.func20,by kernel_rfl,rfl⟩⟩
theorem Qtq:Qp Tryz.prog 21:=⟨⟨_,Tryz.func21,by kernel_rfl,rfl⟩⟩
theorem Qm9:Qp Tryz.prog 23:=⟨⟨_,Tryz.func23,by kernel_rfl,rfl⟩⟩
theorem call24:Qp Tryz.prog 24:=⟨⟨_,Tryz.func24,by kernel_rfl,rfl⟩⟩
theorem QoZ:Qp Tryz.prog 25:=⟨⟨_,Tryz.func25,by kernel_rfl,rfl⟩⟩
theorem Qna:Qp Tryz.prog 26:=⟨⟨_,Tryz.func26,by kernel_rfl,rfl⟩⟩
theorem call27:Qp Tryz.prog 27:=⟨⟨_,Tryz.func27,by kernel_rfl,rfl⟩⟩
theorem call30:Qp Tryz.prog 30:=⟨⟨_,Tryz.func30,by kernel_rfl,rfl⟩⟩
theorem Qo0:Qp Tryz.prog 31:=⟨⟨_,Tryz.func31,by kernel_rfl,rfl⟩⟩
theorem QaK:Qp Tryz.prog 32:=⟨⟨_,Tryz.func32,by kernel_rfl,rfl⟩⟩
theorem call33:Qp Tryz.prog 33:=⟨⟨_,Tryz.func33,by kernel_rfl,rfl⟩⟩
theorem call34:Qp Tryz.prog 34:=⟨⟨_,Tryz.func34,by kernel_rfl,rfl⟩⟩
theorem call35:Qp Tryz.prog 35:=⟨⟨_,Tryz.func35,by kernel_rfl,rfl⟩⟩
theorem call36:Qp Tryz.prog 36:=⟨⟨_,Tryz.func36,by kernel_rfl,rfl⟩⟩
theorem Qtr:Qp Tryz.prog 37:=⟨⟨_,Tryz.func37,by kernel_rfl,rfl⟩⟩
theorem QlI:Qp Tryz.prog 38:=⟨⟨_,Tryz.func38,by kernel_rfl,rfl⟩⟩
theorem call39:Qp Tryz.prog 39:=⟨⟨_,Tryz.func39,by kernel_rfl,rfl⟩⟩
theorem QlJ:Qp Tryz.prog 40:=⟨⟨_,Tryz.func40,by kernel_rfl,rfl⟩⟩
theorem Qts:Qp Tryz.prog 41:=⟨⟨_,Tryz.func41,by kernel_rfl,rfl⟩⟩
theorem Qtt:Qp Tryz.prog 42:=⟨⟨_,Tryz.func42,by kernel_rfl,rfl⟩⟩
theorem Qtu:Qp Tryz.prog 43:=⟨⟨_,Tryz.func43,by kernel_rfl,rfl⟩⟩
theorem call44:Qp Tryz.prog 44:=⟨⟨_,Tryz.func44,by kernel_rfl,rfl⟩⟩
theorem Qtv:Qp Tryz.prog 45:=⟨⟨_,Tryz.func45,by kernel_rfl,rfl⟩⟩
theorem Qtw:Qp Tryz.prog 46:=⟨⟨_,Tryz.func46,by kernel_rfl,rfl⟩⟩
theorem call48:Qp Tryz.prog 48:=⟨⟨_,Tryz.func48,by kernel_rfl,rfl⟩⟩
theorem call49:Qp Tryz.prog 49:=⟨⟨_,Tryz.func49,by kernel_rfl,rfl⟩⟩
theorem Qtx:Qp Tryz.prog 50:=⟨⟨_,Tryz.func50,by kernel_rfl,rfl⟩⟩
theorem call51:Qp Tryz.prog 51:=⟨⟨_,Tryz.func51,by kernel_rfl,rfl⟩⟩
theorem call52:Qp Tryz.prog 52:=⟨⟨_,Tryz.func52,by kernel_rfl,rfl⟩⟩
theorem call53:Qp Tryz.prog 53:=⟨⟨_,Tryz.func53,by kernel_rfl,rfl⟩⟩
theorem Qrm:Qp Tryz.prog 54:=⟨⟨_,Tryz.func54,by kernel_rfl,rfl⟩⟩
theorem Qty:Qp Tryz.prog 55:=⟨⟨_,Tryz.func55,by kernel_rfl,rfl⟩⟩
theorem call56:Qp Tryz.prog 56:=⟨⟨_,Tryz.func56,by kernel_rfl,rfl⟩⟩
theorem Qrn:Qp Tryz.prog 57:=⟨⟨_,Tryz.func57,by kernel_rfl,rfl⟩⟩
theorem Qtz:Qp Tryz.prog 58:=⟨⟨_,Tryz.func58,by kernel_rfl,rfl⟩⟩
theorem QtA:Qp Tryz.prog 59:=⟨⟨_,Tryz.func59,by kernel_rfl,rfl⟩⟩
theorem call62:Qp Tryz.prog 62:=⟨⟨_,Tryz.func62,by kernel_rfl,rfl⟩⟩
theorem Qo1:Qp Tryz.prog 63:=⟨⟨_,Tryz.func63,by kernel_rfl,rfl⟩⟩
theorem Qro:Qp Tryz.prog 64:=⟨⟨_,Tryz.func64,by kernel_rfl,rfl⟩⟩
theorem call65:Qp Tryz.prog 65:=⟨⟨_,Tryz.func65,by kernel_rfl,rfl⟩⟩
theorem Qhf:Qp Tryz.prog 66:=⟨⟨_,Tryz.func66,by kernel_rfl,rfl⟩⟩
theorem call67:Qp Tryz.prog 67:=⟨⟨_,Tryz.func67,by kernel_rfl,rfl⟩⟩
theorem Qnb:Qp Tryz.prog 68:=⟨⟨_,Tryz.func68,by kernel_rfl,rfl⟩⟩
theorem call69:Qp Tryz.prog 69:=⟨⟨_,Tryz.func69,by kernel_rfl,rfl⟩⟩
theorem call70:Qp Tryz.prog 70:=⟨⟨_,Tryz.func70,by kernel_rfl,rfl⟩⟩
theorem Qo2:Qp Tryz.prog 71:=⟨⟨_,Tryz.func71,by kernel_rfl,rfl⟩⟩
theorem QtB:Qp Tryz.prog 72:=⟨⟨_,Tryz.func72,by kernel_rfl,rfl⟩⟩
theorem QtC:Qp Tryz.prog 73:=⟨⟨_,Tryz.func73,by kernel_rfl,rfl⟩⟩
theorem call74:Qp Tryz.prog 74:=⟨⟨_,Tryz.func74,by kernel_rfl,rfl⟩⟩
theorem call75:Qp Tryz.prog 75:=⟨⟨_,Tryz.func75,by kernel_rfl,rfl⟩⟩
theorem QkM:Qp Tryz.prog 76:=⟨⟨_,Tryz.func76,by kernel_rfl,rfl⟩⟩
theorem call77:Qp Tryz.prog 77:=⟨⟨_,Tryz.func77,by kernel_rfl,rfl⟩⟩
theorem Qnc:Qp Tryz.prog 78:=⟨⟨_,Tryz.func78,by kernel_rfl,rfl⟩⟩
theorem call79:Qp Tryz.prog 79:=⟨⟨_,Tryz.func79,by kernel_rfl,rfl⟩⟩
theorem call80:Qp Tryz.prog 80:=⟨⟨_,Tryz.func80,by kernel_rfl,rfl⟩⟩
theorem call81:Qp Tryz.prog 81:=⟨⟨_,Tryz.func81,by kernel_rfl,rfl⟩⟩
theorem Qrp:Qp Tryz.prog 82:=⟨⟨_,Tryz.func82,by kernel_rfl,rfl⟩⟩
theorem call83:Qp Tryz.prog 83:=⟨⟨_,Tryz.func83,by kernel_rfl,rfl⟩⟩
theorem call84:Qp Tryz.prog 84:=⟨⟨_,Tryz.func84,by kernel_rfl,rfl⟩⟩
theorem call85:Qp Tryz.prog 85:=⟨⟨_,Tryz.func85,by kernel_rfl,rfl⟩⟩
theorem call86:Qp Tryz.prog 86:=⟨⟨_,Tryz.func86,by kernel_rfl,rfl⟩⟩
theorem call87:Qp Tryz.prog 87:=⟨⟨_,Tryz.func87,by kernel_rfl,rfl⟩⟩
theorem call88:Qp Tryz.prog 88:=⟨⟨_,Tryz.func88,by kernel_rfl,rfl⟩⟩
theorem call89:Qp Tryz.prog 89:=⟨⟨_,Tryz.func89,by kernel_rfl,rfl⟩⟩
theorem call90:Qp Tryz.prog 90:=⟨⟨_,Tryz.func90,by kernel_rfl,rfl⟩⟩
theorem QtD:Qp Tryz.prog 91:=⟨⟨_,Tryz.func91,by kernel_rfl,rfl⟩⟩
theorem call93:Qp Tryz.prog 93:=⟨⟨_,Tryz.func93,by kernel_rfl,rfl⟩⟩
theorem QiM:Qp Tryz.prog 97:=⟨⟨_,Tryz.func97,by kernel_rfl,rfl⟩⟩
theorem call98:Qp Tryz.prog 98:=⟨⟨_,Tryz.func98,by kernel_rfl,rfl⟩⟩
theorem call99:Qp Tryz.prog 99:=⟨⟨_,Tryz.func99,by kernel_rfl,rfl⟩⟩
theorem QvO:Qp Tryz.prog 100:=⟨⟨_,Tryz.func100,by kernel_rfl,rfl⟩⟩
theorem QvP:Qp Tryz.prog 101:=⟨⟨_,Tryz.func101,by kernel_rfl,rfl⟩⟩
theorem QvQ:Qp Tryz.prog 102:=⟨⟨_,Tryz.func102,by kernel_rfl,rfl⟩⟩
theorem QvR:Qp Tryz.prog 103:=⟨⟨_,Tryz.func103,by kernel_rfl,rfl⟩⟩
theorem QvS:Qp Tryz.prog 104:=⟨⟨_,Tryz.func104,by kernel_rfl,rfl⟩⟩
theorem QvT:Qp Tryz.prog 105:=⟨⟨_,Tryz.func105,by kernel_rfl,rfl⟩⟩
theorem Qr4:Qp Tryz.prog 106:=⟨⟨_,Tryz.func106,by kernel_rfl,rfl⟩⟩
theorem QvU:Qp Tryz.prog 107:=⟨⟨_,Tryz.func107,by kernel_rfl,rfl⟩⟩
theorem Qr5:Qp Tryz.prog 108:=⟨⟨_,Tryz.func108,by kernel_rfl,rfl⟩⟩
theorem QvV:Qp Tryz.prog 109:=⟨⟨_,Tryz.func109,by kernel_rfl,rfl⟩⟩
theorem QlK:Qp Tryz.prog 110:=⟨⟨_,Tryz.func110,by kernel_rfl,rfl⟩⟩
theorem Qix:Qp Tryz.prog 111:=⟨⟨_,Tryz.func111,by kernel_rfl,rfl⟩⟩
theorem QvW:Qp Tryz.prog 112:=⟨⟨_,Tryz.func112,by kernel_rfl,rfl⟩⟩
theorem QvX:Qp Tryz.prog 113:=⟨⟨_,Tryz.func113,by kernel_rfl,rfl⟩⟩
theorem QvY:Qp Tryz.prog 114:=⟨⟨_,Tryz.func114,by kernel_rfl,rfl⟩⟩
theorem QvZ:Qp Tryz.prog 115:=⟨⟨_,Tryz.func115,by kernel_rfl,rfl⟩⟩
theorem QpH:Qp Tryz.prog 116:=⟨⟨_,Tryz.func116,by kernel_rfl,rfl⟩⟩
theorem Qv0:Qp Tryz.prog 117:=⟨⟨_,Tryz.func117,by kernel_rfl,rfl⟩⟩
theorem Qv1:Qp Tryz.prog 118:=⟨⟨_,Tryz.func118,by kernel_rfl,rfl⟩⟩
theorem Qv2:Qp Tryz.prog 119:=⟨⟨_,Tryz.func119,by kernel_rfl,rfl⟩⟩
theorem Qv3:Qp Tryz.prog 120:=⟨⟨_,Tryz.func120,by kernel_rfl,rfl⟩⟩
theorem Qv4:Qp Tryz.prog 121:=⟨⟨_,Tryz.func121,by kernel_rfl,rfl⟩⟩
theorem Qv5:Qp Tryz.prog 122:=⟨⟨_,Tryz.func122,by kernel_rfl,rfl⟩⟩
theorem Qv6:Qp Tryz.prog 123:=⟨⟨_,Tryz.func123,by kernel_rfl,rfl⟩⟩
theorem Qv7:Qp Tryz.prog 124:=⟨⟨_,Tryz.func124,by kernel_rfl,rfl⟩⟩
theorem Qc6:Qp Tryz.prog 125:=⟨⟨_,Tryz.func125,by kernel_rfl,rfl⟩⟩
theorem QkF:Qp Tryz.prog 126:=⟨⟨_,Tryz.func126,by kernel_rfl,rfl⟩⟩
theorem Qv8:Qp Tryz.prog 127:=⟨⟨_,Tryz.func127,by kernel_rfl,rfl⟩⟩
theorem Qv9:Qp Tryz.prog 128:=⟨⟨_,Tryz.func128,by kernel_rfl,rfl⟩⟩
theorem Qwa:Qp Tryz.prog 129:=⟨⟨_,Tryz.func129,by kernel_rfl,rfl⟩⟩
theorem Qr6:Qp Tryz.prog 130:=⟨⟨_,Tryz.func130,by kernel_rfl,rfl⟩⟩
theorem Qwb:Qp Tryz.prog 131:=⟨⟨_,Tryz.func131,by kernel_rfl,rfl⟩⟩
theorem Qwc:Qp Tryz.prog 132:=⟨⟨_,Tryz.func132,by kernel_rfl,rfl⟩⟩
theorem Qwd:Qp Tryz.prog 133:=⟨⟨_,Tryz.func133,by kernel_rfl,rfl⟩⟩
theorem Qfg:Qp Tryz.prog 135:=⟨⟨_,Tryz.func135,by kernel_rfl,rfl⟩⟩
theorem Qwe:Qp Tryz.prog 136:=⟨⟨_,Tryz.func136,by kernel_rfl,rfl⟩⟩
theorem QpI:Qp Tryz.prog 137:=⟨⟨_,Tryz.func137,by kernel_rfl,rfl⟩⟩
theorem Qwf:Qp Tryz.prog 139:=⟨⟨_,Tryz.func139,by kernel_rfl,rfl⟩⟩
theorem QgV:Qp Tryz.prog 140:=⟨⟨_,Tryz.func140,by kernel_rfl,rfl⟩⟩
theorem QkG:Qp Tryz.prog 141:=⟨⟨_,Tryz.func141,by kernel_rfl,rfl⟩⟩
theorem Qwg:Qp Tryz.prog 142:=⟨⟨_,Tryz.func142,by kernel_rfl,rfl⟩⟩
theorem Qr7:Qp Tryz.prog 143:=⟨⟨_,Tryz.func143,by kernel_rfl,rfl⟩⟩
theorem QfR:Qp Tryz.prog 144:=⟨⟨_,Tryz.func144,by kernel_rfl,rfl⟩⟩
theorem Qwh:Qp Tryz.prog 145:=⟨⟨_,Tryz.func145,by kernel_rfl,rfl⟩⟩
theorem QpJ:Qp Tryz.prog 146:=⟨⟨_,Tryz.func146,by kernel_rfl,rfl⟩⟩
theorem Qwi:Qp Tryz.prog 147:=⟨⟨_,Tryz.func147,by kernel_rfl,rfl⟩⟩
theorem Qwj:Qp Tryz.prog 148:=⟨⟨_,Tryz.func148,by kernel_rfl,rfl⟩⟩
theorem Qr8:Qp Tryz.prog 149:=⟨⟨_,Tryz.func149,by kernel_rfl,rfl⟩⟩
theorem Qr9:Qp Tryz.prog 150:=⟨⟨_,Tryz.func150,by kernel_rfl,rfl⟩⟩
theorem Qwk:Qp Tryz.prog 151:=⟨⟨_,Tryz.func151,by kernel_rfl,rfl⟩⟩
theorem Qwl:Qp Tryz.prog 152:=⟨⟨_,Tryz.func152,by kernel_rfl,rfl⟩⟩
theorem Qwm:Qp Tryz.prog 153:=⟨⟨_,Tryz.func153,by kernel_rfl,rfl⟩⟩
theorem Qwn:Qp Tryz.prog 154:=⟨⟨_,Tryz.func154,by kernel_rfl,rfl⟩⟩
theorem Qwo:Qp Tryz.prog 155:=⟨⟨_,Tryz.func155,by kernel_rfl,rfl⟩⟩
theorem Qwp:Qp Tryz.prog 156:=⟨⟨_,Tryz.func156,by kernel_rfl,rfl⟩⟩
theorem Qwq:Qp Tryz.prog 157:=⟨⟨_,Tryz.func157,by kernel_rfl,rfl⟩⟩
theorem Qwr:Qp Tryz.prog 158:=⟨⟨_,Tryz.func158,by kernel_rfl,rfl⟩⟩
theorem Qws:Qp Tryz.prog 159:=⟨⟨_,Tryz.func159,by kernel_rfl,rfl⟩⟩
theorem Qwt:Qp Tryz.prog 160:=⟨⟨_,Tryz.func160,by kernel_rfl,rfl⟩⟩
theorem Qwu:Qp Tryz.prog 161:=⟨⟨_,Tryz.func161,by kernel_rfl,rfl⟩⟩
theorem Qwv:Qp Tryz.prog 162:=⟨⟨_,Tryz.func162,by kernel_rfl,rfl⟩⟩
theorem Qww:Qp Tryz.prog 166:=⟨⟨_,Tryz.func166,by kernel_rfl,rfl⟩⟩
theorem Qsa:Qp Tryz.prog 167:=⟨⟨_,Tryz.func167,by kernel_rfl,rfl⟩⟩
theorem Qwx:Qp Tryz.prog 168:=⟨⟨_,Tryz.func168,by kernel_rfl,rfl⟩⟩
theorem Qsb:Qp Tryz.prog 169:=⟨⟨_,Tryz.func169,by kernel_rfl,rfl⟩⟩
theorem Qwy:Qp Tryz.prog 170:=⟨⟨_,Tryz.func170,by kernel_rfl,rfl⟩⟩
theorem QpK:Qp Tryz.prog 171:=⟨⟨_,Tryz.func171,by kernel_rfl,rfl⟩⟩
theorem Qwz:Qp Tryz.prog 172:=⟨⟨_,Tryz.func172,by kernel_rfl,rfl⟩⟩
theorem QwA:Qp Tryz.prog 173:=⟨⟨_,Tryz.func173,by kernel_rfl,rfl⟩⟩
theorem QwB:Qp Tryz.prog 174:=⟨⟨_,Tryz.func174,by kernel_rfl,rfl⟩⟩
theorem QwC:Qp Tryz.prog 175:=⟨⟨_,Tryz.func175,by kernel_rfl,rfl⟩⟩
theorem QwD:Qp Tryz.prog 176:=⟨⟨_,Tryz.func176,by kernel_rfl,rfl⟩⟩
theorem QwE:Qp Tryz.prog 177:=⟨⟨_,Tryz.func177,by kernel_rfl,rfl⟩⟩
theorem QpL:Qp Tryz.prog 204:=⟨⟨_,Tryz.func204,by kernel_rfl,rfl⟩⟩
theorem QwF:Qp Tryz.prog 207:=⟨⟨_,Tryz.func207,by kernel_rfl,rfl⟩⟩
theorem QwG:Qp Tryz.prog 208:=⟨⟨_,Tryz.func208,by kernel_rfl,rfl⟩⟩
theorem QwH:Qp Tryz.prog 209:=⟨⟨_,Tryz.func209,by kernel_rfl,rfl⟩⟩
theorem QwI:Qp Tryz.prog 210:=⟨⟨_,Tryz.func210,by kernel_rfl,rfl⟩⟩
theorem QwJ:Qp Tryz.prog 211:=⟨⟨_,Tryz.func211,by kernel_rfl,rfl⟩⟩
theorem QwK:Qp Tryz.prog 212:=⟨⟨_,Tryz.func212,by kernel_rfl,rfl⟩⟩
theorem QwL:Qp Tryz.prog 213:=⟨⟨_,Tryz.func213,by kernel_rfl,rfl⟩⟩
theorem QwM:Qp Tryz.prog 214:=⟨⟨_,Tryz.func214,by kernel_rfl,rfl⟩⟩
theorem Qsc:Qp Tryz.prog 215:=⟨⟨_,Tryz.func215,by kernel_rfl,rfl⟩⟩
theorem QwN:Qp Tryz.prog 216:=⟨⟨_,Tryz.func216,by kernel_rfl,rfl⟩⟩
theorem QnN:Qp Tryz.prog 217:=⟨⟨_,Tryz.func217,by kernel_rfl,rfl⟩⟩
theorem Qb7:TOk Tryz.prog 100 rVal 8 (.pointer none):=⟨⟨_,Tryz.underlying100,rfl⟩,by kernel_rfl,rfl⟩

@[reducible] def Qax : Rep Qj := ⟨fun x => ([tv (.string (sB x.Name)),ti x.Lo,ti x.Hi,tslF Qc x.Fields]),4,true,fun _ => rfl,fun _ => (Qw (Q9 rfl) (Qw (Q9 rfl) (Qw (Q9 rfl) (Qw Qrh Qam)))),fun h => (by cases h)⟩
theorem Qh0:TOk Tryz.prog 55 Qax 56 (.agg #[(.string .empty),(.int .i64 0),(.int .i64 0),(.slice none 0 0)]):=⟨⟨_,Tryz.underlying55,rfl⟩,by kernel_rfl,rfl⟩
theorem QsJ:∀F w,Q3 (Qax.cs (Qj.mk ([]:Str) (0:Int) (0:Int) ([]:(List Qb)))) F w ((.agg #[(.string .empty),(.int .i64 0),(.int .i64 0),(.slice none 0 0)]):Value).cells.toList:=fun _ _=>(.cons rfl (.cons rfl (.cons rfl (.cons ⟨⟨none,0,rfl,Nat.le_refl _,fun h=>(h rfl).elim⟩,none,rfl,fun a h=>(by cases h)⟩ .nil))))
theorem QtE:∀F w,(Qax.ty (Qj.mk ([]:Str) (0:Int) (0:Int) ([]:(List Qb)))).ok F w (.agg #[(.string .empty),(.int .i64 0),(.int .i64 0),(.slice none 0 0)]):=fun F w=>⟨_,rfl,QsJ F w⟩
theorem tok53F:TOk Tryz.prog 53 (rSlF Qc) 24 (.slice none 0 0):=⟨⟨_,Tryz.underlying53,rfl⟩,by kernel_rfl,rfl⟩
theorem QuX (x:Qj×Option Value):((Qcp Qax 3).cs x).length=((Qcp Qk 3).cs x).length∧∀(j:Nat) (T T':Ty),((Qcp Qax 3).cs x)[j]?=some T→((Qcp Qk 3).cs x)[j]?=some T'→∀F w u,T.ok F w u→T'.ok F w u:=by
  obtain⟨u,o⟩:=x
  refine⟨by cases o<;>rfl,fun j T T' h1 h2 F w v hv=>?_⟩
  cases o<;>(match j,h1,h2 with
    | 0,h1,h2=>cases h1;cases h2;exact hv
    | 1,h1,h2=>cases h1;cases h2;exact hv
    | 2,h1,h2=>cases h1;cases h2;exact hv
    | 3,h1,h2=>cases h1;cases h2;first | exact hv | exact hv.1
    | j+4,h1,h2=>cases h1)
theorem _root_.Go.Sim.St.unF {M:Fr} {w0:World} {n:Nat} {Γ:List (Nat×Ty)} {C:Atom} {As:List Atom} {a:Act} {w:World} {e:TypeId} {xs:List (Qj×Option Value)} {v:Value} (h:St M w0 n Γ (C::own (Qcp Qax 3) e xs v::As) a w):St M w0 n Γ (C::own (Qcp Qk 3) e xs v::As) a w:=St.reO (A:=own (Qcp Qax 3) e xs v) (B:=own (Qcp Qk 3) e xs v) rfl (fun _ _=>QuI (R:=Qcp Qax 3) (R':=Qcp Qk 3) rfl QuX) h
section
variable {M:Fr} {w0:World} {n:Nat} {Γ:List (Nat×Ty)} {As:List Atom} {a:Act} {w:World}
theorem _root_.Go.Sim.St.t1_0 {x0:Nat×Ty} (h:St M w0 n Γ As a w) (is:List Nat) (p:QbI Γ is=[x0]:=by exact rfl) (q:As=[]:=by exact rfl):St M w0 n [x0] [] a w:=h.to is _ _ p q
theorem _root_.Go.Sim.St.t1_1 {x0:Nat×Ty} {y0:Atom} (h:St M w0 n Γ As a w) (is:List Nat) (p:QbI Γ is=[x0]:=by exact rfl) (q:As=[y0]:=by exact rfl):St M w0 n [x0] [y0] a w:=h.to is _ _ p q
theorem _root_.Go.Sim.St.t2_0 {x0 x1:Nat×Ty} (h:St M w0 n Γ As a w) (is:List Nat) (p:QbI Γ is=[x0,x1]:=by exact rfl) (q:As=[]:=by exact rfl):St M w0 n [x0,x1] [] a w:=h.to is _ _ p q
theorem _root_.Go.Sim.St.t2_1 {x0 x1:Nat×Ty} {y0:Atom} (h:St M w0 n Γ As a w) (is:List Nat) (p:QbI Γ is=[x0,x1]:=by exact rfl) (q:As=[y0]:=by exact rfl):St M w0 n [x0,x1] [y0] a w:=h.to is _ _ p q
theorem _root_.Go.Sim.St.t2_2 {x0 x1:Nat×Ty} {y0 y1:Atom} (h:St M w0 n Γ As a w) (is:List Nat) (p:QbI Γ is=[x0,x1]:=by exact rfl) (q:As=[y0,y1]:=by exact rfl):St M w0 n [x0,x1] [y0,y1] a w:=h.to is _ _ p q
theorem _root_.Go.Sim.St.t3_0 {x0 x1 x2:Nat×Ty} (h:St M w0 n Γ As a w) (is:List Nat) (p:QbI Γ is=[x0,x1,x2]:=by exact rfl) (q:As=[]:=by exact rfl):St M w0 n [x0,x1,x2] [] a w:=h.to is _ _ p q
theorem _root_.Go.Sim.St.t3_1 {x0 x1 x2:Nat×Ty} {y0:Atom} (h:St M w0 n Γ As a w) (is:List Nat) (p:QbI Γ is=[x0,x1,x2]:=by exact rfl) (q:As=[y0]:=by exact rfl):St M w0 n [x0,x1,x2] [y0] a w:=h.to is _ _ p q
theorem _root_.Go.Sim.St.t3_2 {x0 x1 x2:Nat×Ty} {y0 y1:Atom} (h:St M w0 n Γ As a w) (is:List Nat) (p:QbI Γ is=[x0,x1,x2]:=by exact rfl) (q:As=[y0,y1]:=by exact rfl):St M w0 n [x0,x1,x2] [y0,y1] a w:=h.to is _ _ p q
theorem _root_.Go.Sim.St.t4_0 {x0 x1 x2 x3:Nat×Ty} (h:St M w0 n Γ As a w) (is:List Nat) (p:QbI Γ is=[x0,x1,x2,x3]:=by exact rfl) (q:As=[]:=by exact rfl):St M w0 n [x0,x1,x2,x3] [] a w:=h.to is _ _ p q
theorem _root_.Go.Sim.St.t4_1 {x0 x1 x2 x3:Nat×Ty} {y0:Atom} (h:St M w0 n Γ As a w) (is:List Nat) (p:QbI Γ is=[x0,x1,x2,x3]:=by exact rfl) (q:As=[y0]:=by exact rfl):St M w0 n [x0,x1,x2,x3] [y0] a w:=h.to is _ _ p q
theorem _root_.Go.Sim.St.t4_2 {x0 x1 x2 x3:Nat×Ty} {y0 y1:Atom} (h:St M w0 n Γ As a w) (is:List Nat) (p:QbI Γ is=[x0,x1,x2,x3]:=by exact rfl) (q:As=[y0,y1]:=by exact rfl):St M w0 n [x0,x1,x2,x3] [y0,y1] a w:=h.to is _ _ p q
theorem _root_.Go.Sim.St.t5_0 {x0 x1 x2 x3 x4:Nat×Ty} (h:St M w0 n Γ As a w) (is:List Nat) (p:QbI Γ is=[x0,x1,x2,x3,x4]:=by exact rfl) (q:As=[]:=by exact rfl):St M w0 n [x0,x1,x2,x3,x4] [] a w:=h.to is _ _ p q
theorem _root_.Go.Sim.St.t5_1 {x0 x1 x2 x3 x4:Nat×Ty} {y0:Atom} (h:St M w0 n Γ As a w) (is:List Nat) (p:QbI Γ is=[x0,x1,x2,x3,x4]:=by exact rfl) (q:As=[y0]:=by exact rfl):St M w0 n [x0,x1,x2,x3,x4] [y0] a w:=h.to is _ _ p q
theorem _root_.Go.Sim.St.t5_2 {x0 x1 x2 x3 x4:Nat×Ty} {y0 y1:Atom} (h:St M w0 n Γ As a w) (is:List Nat) (p:QbI Γ is=[x0,x1,x2,x3,x4]:=by exact rfl) (q:As=[y0,y1]:=by exact rfl):St M w0 n [x0,x1,x2,x3,x4] [y0,y1] a w:=h.to is _ _ p q
theorem _root_.Go.Sim.St.t5_3 {x0 x1 x2 x3 x4:Nat×Ty} {y0 y1 y2:Atom} (h:St M w0 n Γ As a w) (is:List Nat) (p:QbI Γ is=[x0,x1,x2,x3,x4]:=by exact rfl) (q:As=[y0,y1,y2]:=by exact rfl):St M w0 n [x0,x1,x2,x3,x4] [y0,y1,y2] a w:=h.to is _ _ p q
theorem _root_.Go.Sim.St.t6_0 {x0 x1 x2 x3 x4 x5:Nat×Ty} (h:St M w0 n Γ As a w) (is:List Nat) (p:QbI Γ is=[x0,x1,x2,x3,x4,x5]:=by exact rfl) (q:As=[]:=by exact rfl):St M w0 n [x0,x1,x2,x3,x4,x5] [] a w:=h.to is _ _ p q
theorem _root_.Go.Sim.St.t6_1 {x0 x1 x2 x3 x4 x5:Nat×Ty} {y0:Atom} (h:St M w0 n Γ As a w) (is:List Nat) (p:QbI Γ is=[x0,x1,x2,x3,x4,x5]:=by exact rfl) (q:As=[y0]:=by exact rfl):St M w0 n [x0,x1,x2,x3,x4,x5] [y0] a w:=h.to is _ _ p q
theorem _root_.Go.Sim.St.t6_2 {x0 x1 x2 x3 x4 x5:Nat×Ty} {y0 y1:Atom} (h:St M w0 n Γ As a w) (is:List Nat) (p:QbI Γ is=[x0,x1,x2,x3,x4,x5]:=by exact rfl) (q:As=[y0,y1]:=by exact rfl):St M w0 n [x0,x1,x2,x3,x4,x5] [y0,y1] a w:=h.to is _ _ p q
theorem _root_.Go.Sim.St.t6_3 {x0 x1 x2 x3 x4 x5:Nat×Ty} {y0 y1 y2:Atom} (h:St M w0 n Γ As a w) (is:List Nat) (p:QbI Γ is=[x0,x1,x2,x3,x4,x5]:=by exact rfl) (q:As=[y0,y1,y2]:=by exact rfl):St M w0 n [x0,x1,x2,x3,x4,x5] [y0,y1,y2] a w:=h.to is _ _ p q
theorem _root_.Go.Sim.St.t7_0 {x0 x1 x2 x3 x4 x5 x6:Nat×Ty} (h:St M w0 n Γ As a w) (is:List Nat) (p:QbI Γ is=[x0,x1,x2,x3,x4,x5,x6]:=by exact rfl) (q:As=[]:=by exact rfl):St M w0 n [x0,x1,x2,x3,x4,x5,x6] [] a w:=h.to is _ _ p q
theorem _root_.Go.Sim.St.t7_2 {x0 x1 x2 x3 x4 x5 x6:Nat×Ty} {y0 y1:Atom} (h:St M w0 n Γ As a w) (is:List Nat) (p:QbI Γ is=[x0,x1,x2,x3,x4,x5,x6]:=by exact rfl) (q:As=[y0,y1]:=by exact rfl):St M w0 n [x0,x1,x2,x3,x4,x5,x6] [y0,y1] a w:=h.to is _ _ p q
theorem _root_.Go.Sim.St.t7_3 {x0 x1 x2 x3 x4 x5 x6:Nat×Ty} {y0 y1 y2:Atom} (h:St M w0 n Γ As a w) (is:List Nat) (p:QbI Γ is=[x0,x1,x2,x3,x4,x5,x6]:=by exact rfl) (q:As=[y0,y1,y2]:=by exact rfl):St M w0 n [x0,x1,x2,x3,x4,x5,x6] [y0,y1,y2] a w:=h.to is _ _ p q
theorem _root_.Go.Sim.St.t8_0 {x0 x1 x2 x3 x4 x5 x6 x7:Nat×Ty} (h:St M w0 n Γ As a w) (is:List Nat) (p:QbI Γ is=[x0,x1,x2,x3,x4,x5,x6,x7]:=by exact rfl) (q:As=[]:=by exact rfl):St M w0 n [x0,x1,x2,x3,x4,x5,x6,x7] [] a w:=h.to is _ _ p q
theorem _root_.Go.Sim.St.t8_1 {x0 x1 x2 x3 x4 x5 x6 x7:Nat×Ty} {y0:Atom} (h:St M w0 n Γ As a w) (is:List Nat) (p:QbI Γ is=[x0,x1,x2,x3,x4,x5,x6,x7]:=by exact rfl) (q:As=[y0]:=by exact rfl):St M w0 n [x0,x1,x2,x3,x4,x5,x6,x7] [y0] a w:=h.to is _ _ p q
theorem _root_.Go.Sim.St.t8_2 {x0 x1 x2 x3 x4 x5 x6 x7:Nat×Ty} {y0 y1:Atom} (h:St M w0 n Γ As a w) (is:List Nat) (p:QbI Γ is=[x0,x1,x2,x3,x4,x5,x6,x7]:=by exact rfl) (q:As=[y0,y1]:=by exact rfl):St M w0 n [x0,x1,x2,x3,x4,x5,x6,x7] [y0,y1] a w:=h.to is _ _ p q
theorem _root_.Go.Sim.St.t8_5 {x0 x1 x2 x3 x4 x5 x6 x7:Nat×Ty} {y0 y1 y2 y3 y4:Atom} (h:St M w0 n Γ As a w) (is:List Nat) (p:QbI Γ is=[x0,x1,x2,x3,x4,x5,x6,x7]:=by exact rfl) (q:As=[y0,y1,y2,y3,y4]:=by exact rfl):St M w0 n [x0,x1,x2,x3,x4,x5,x6,x7] [y0,y1,y2,y3,y4] a w:=h.to is _ _ p q
theorem _root_.Go.Sim.St.t9_0 {x0 x1 x2 x3 x4 x5 x6 x7 x8:Nat×Ty} (h:St M w0 n Γ As a w) (is:List Nat) (p:QbI Γ is=[x0,x1,x2,x3,x4,x5,x6,x7,x8]:=by exact rfl) (q:As=[]:=by exact rfl):St M w0 n [x0,x1,x2,x3,x4,x5,x6,x7,x8] [] a w:=h.to is _ _ p q
theorem _root_.Go.Sim.St.t9_5 {x0 x1 x2 x3 x4 x5 x6 x7 x8:Nat×Ty} {y0 y1 y2 y3 y4:Atom} (h:St M w0 n Γ As a w) (is:List Nat) (p:QbI Γ is=[x0,x1,x2,x3,x4,x5,x6,x7,x8]:=by exact rfl) (q:As=[y0,y1,y2,y3,y4]:=by exact rfl):St M w0 n [x0,x1,x2,x3,x4,x5,x6,x7,x8] [y0,y1,y2,y3,y4] a w:=h.to is _ _ p q
theorem _root_.Go.Sim.St.t11_3 {x0 x1 x2 x3 x4 x5 x6 x7 x8 x9 x10:Nat×Ty} {y0 y1 y2:Atom} (h:St M w0 n Γ As a w) (is:List Nat) (p:QbI Γ is=[x0,x1,x2,x3,x4,x5,x6,x7,x8,x9,x10]:=by exact rfl) (q:As=[y0,y1,y2]:=by exact rfl):St M w0 n [x0,x1,x2,x3,x4,x5,x6,x7,x8,x9,x10] [y0,y1,y2] a w:=h.to is _ _ p q
theorem _root_.Go.Sim.St.t12_5 {x0 x1 x2 x3 x4 x5 x6 x7 x8 x9 x10 x11:Nat×Ty} {y0 y1 y2 y3 y4:Atom} (h:St M w0 n Γ As a w) (is:List Nat) (p:QbI Γ is=[x0,x1,x2,x3,x4,x5,x6,x7,x8,x9,x10,x11]:=by exact rfl) (q:As=[y0,y1,y2,y3,y4]:=by exact rfl):St M w0 n [x0,x1,x2,x3,x4,x5,x6,x7,x8,x9,x10,x11] [y0,y1,y2,y3,y4] a w:=h.to is _ _ p q
end
abbrev zz0:Qb:=(Qb.mk ([]:Str) ([]:Str) ([]:Str) (0:Int) (0:Int) (0:Int) ([]:(List Str)) ([]:(List Int)))
abbrev zz1:Qj:=(Qj.mk ([]:Str) (0:Int) (0:Int) ([]:(List Qb)))
abbrev zz2:Qn:=(Qn.mk ([]:Str) ([]:(List Str)) ([]:(List QU)))
abbrev zz3:Qm:=(Qm.mk ([]:Str) ([]:Str) ([]:Str) ([]:Str) (0:Int))
abbrev zz4:Qg:=(Qg.mk (0:Int) ([]:(List Qj)) ([]:(List Qn)) ([]:(List Qm)))
abbrev zz5:Qh:=(Qh.mk (0:Int) (0:Int) (0:Int) false)
abbrev zz6:Qs:=(Qs.mk (0:Int) (0:Int) (0:Int) (0:Int) (0:Int) (0:Int))
abbrev Qla:=Tryz.underlying101
abbrev QiN:=Tryz.underlying103
abbrev Qe3:=Tryz.underlying125
abbrev QhK:=Tryz.underlying166
abbrev Qmm:=Tryz.underlying185
abbrev Qe4:=Tryz.underlying194
abbrev ud22:=Tryz.underlying22
abbrev ud23:=Tryz.underlying23
abbrev ud24:=Tryz.underlying24
abbrev ud25:=Tryz.underlying25
abbrev ud27:=Tryz.underlying27
abbrev ud3:=Tryz.underlying3
abbrev ud30:=Tryz.underlying30
abbrev ud31:=Tryz.underlying31
abbrev ud32:=Tryz.underlying32
abbrev ud36:=Tryz.underlying36
abbrev ud41:=Tryz.underlying41
abbrev ud49:=Tryz.underlying49
abbrev ud5:=Tryz.underlying5
abbrev ud53:=Tryz.underlying53
abbrev ud55:=Tryz.underlying55
abbrev ud61:=Tryz.underlying61
abbrev ud68:=Tryz.underlying68
abbrev ud79:=Tryz.underlying79
abbrev ud82:=Tryz.underlying82
abbrev ud84:=Tryz.underlying84
abbrev ud9:=Tryz.underlying9
abbrev ud91:=Tryz.underlying91

end Go.Proofs.YtcdccjagknlmpaaGreatDoor

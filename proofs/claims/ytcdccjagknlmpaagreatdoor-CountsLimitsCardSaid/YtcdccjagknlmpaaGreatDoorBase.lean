/- Closed facts on the types and functions of the translation, written by a program. No condition. -/
import Derived.Test.YtcdccjagknlmpaaGreatDoorSimQ
import Derived.Test.YtcdccjagknlmpaaGreatDoorRows
namespace Go.Proofs.YtcdccjagknlmpaaGreatDoor
open Go.Sim

theorem mixed : Tryz.prog.follows .mixedOrders = true := by kernel_rfl
theorem mx : Tryz.prog.follows .mixedOrders = true := mixed
def Qjj : List (Value × Value) := [(.int .i64 0,.agg #[.func (.func 207) #[] #[]]),(.int .i64 1,.agg #[.func (.func 208) #[] #[]]),(.int .i64 4,.agg #[.func (.func 209) #[] #[]]),(.int .i64 5,.agg #[.func (.func 210) #[] #[]]),(.int .i64 6,.agg #[.func (.func 212) #[] #[]]),(.int .i64 7,.agg #[.func (.func 214) #[] #[]]),(.int .i64 8,.agg #[.func (.func 216) #[] #[]])]
def QrK : Ty := QmQ Qjj
def Qq9 : List Ty := [QrK]
theorem tokM0 : TOk Tryz.prog 131 (rMapC Qjj) 8 (.map none) := ⟨⟨_,Tryz.underlying131,rfl⟩,(by kernel_rfl : (Tryz.prog.info? 131).map (fun i => (i.zero,i.size,i.bytes)) = some (some (.map none),1,8)),rfl⟩
def Qra : List Int := [0,1,28,2,29,14,24,3,30,22,20,15,25,17,4,8,31,27,13,23,21,19,16,7,26,12,18,6,11,5,10,9]
def tglo1 : List Ty := Qra.flatMap (rInt .u8).cs
def QnS : List Int := [0,1,56,2,57,49,28,3,61,58,42,50,38,29,17,4,62,47,59,36,45,43,51,22,53,39,33,30,24,18,12,5,63,55,48,27,60,41,37,16,46,35,44,21,52,32,23,11,54,26,40,15,34,20,31,10,25,14,19,9,13,8,7,6]
def Qrb : List Ty := QnS.flatMap (rInt .u8).cs
def Qkk : List Str := [[107,101,121],[114,101,102],[110,117,109],[112,105,99,107],[100,97,121],[115,116,101,112],[115,117,109],[115,104,97,114,101],[99,111,112,121]]
def Qrc : List Ty := Qkk.flatMap rS.cs
def Qp4 : List Int := [1,10,100,1000,10000,100000,1000000,10000000,100000000,1000000000,10000000000,100000000000,1000000000000,10000000000000,100000000000000,1000000000000000,10000000000000000,100000000000000000,1000000000000000000,10000000000000000000]
def Qrd : List Ty := Qp4.flatMap (rInt .u64).cs
abbrev bld := bldE 187 5
/-- What the package variables hold. -/
def glo : Atom := gloA [(0,Qq9),(1,tglo1),(2,Qrb),(3,Qrc),(4,Qrd)]
theorem Qp5 : ∀ k,¬ glo.fp k := fun _ h => h
theorem _root_.Go.Sim.OpJ.glo {P : Program} {o : Oper} {Γ : List (Nat × Ty)} {U E : List Atom} {N : Value → List Atom} {T : Value → Ty} (h : OpJ P o Γ U (glo :: E) N T) : OpJ P o Γ (glo :: U) E N T := OpJ.gloG Qp5 h
theorem QtJ : Qlz glo 0 Qq9 := QmP (by simp)
theorem QsU : Qk6 glo 0 Qq9 := QtJ.has
theorem QtK : Qlz glo 2 Qrb := QmP (by simp)
theorem QsV : Qk6 glo 2 Qrb := QtK.has
theorem QtL : Qlz glo 3 Qrc := QmP (by simp)
theorem QsW : Qk6 glo 3 Qrc := QtL.has
theorem QtM : Qlz glo 4 Qrd := QmP (by simp)
theorem tok3 : TOk Tryz.prog 3 rI 8 (.int .i64 0) := ⟨⟨_,Tryz.underlying3,rfl⟩,by kernel_rfl,rfl⟩
theorem zok3 : ∀ F w,(rI.ty (0:Int)).ok F w (.int .i64 0) := fun _ _ => rfl
theorem tok4 : TOk Tryz.prog 4 Qa7 1 (.bool false) := ⟨⟨_,Tryz.underlying4,rfl⟩,by kernel_rfl,rfl⟩
theorem zok4 : ∀ F w,(Qa7.ty false).ok F w (.bool false) := fun _ _ => rfl
theorem tok5 : TOk Tryz.prog 5 (rInt .u8) 1 (.int .u8 0) := ⟨⟨_,Tryz.underlying5,rfl⟩,by kernel_rfl,rfl⟩
theorem tok9 : TOk Tryz.prog 9 rS 16 (.string .empty) := ⟨⟨_,Tryz.underlying9,rfl⟩,by kernel_rfl,rfl⟩
theorem QeG : TOk Tryz.prog 20 (rAny 3 9) 16 .nilIface := ⟨⟨_,Tryz.underlying20,rfl⟩,by kernel_rfl,rfl⟩
theorem Qdc : TOk Tryz.prog 22 (rSl rI) 24 (.slice none 0 0) := ⟨⟨_,Tryz.underlying22,rfl⟩,by kernel_rfl,rfl⟩
theorem Qbx : TOk Tryz.prog 32 (rSl rS) 24 (.slice none 0 0) := ⟨⟨_,Tryz.underlying32,rfl⟩,by kernel_rfl,rfl⟩
structure Qc where
  Name : Str
  Of : Str
  Up : Str
  Kind : Int
  Lo : Int
  Hi : Int
  Words : (List Str)
  Weights : (List Int)
deriving Inhabited
@[reducible] def Qb : Rep Qc := ⟨fun x => ([tv (.string (sB x.Name)),tv (.string (sB x.Of)),tv (.string (sB x.Up)),ti x.Kind,ti x.Lo,ti x.Hi,tsl rS x.Words,tsl rI x.Weights]),8,true,fun _ => rfl,fun _ => (QA (Qad rfl) (QA (Qad rfl) (QA (Qad rfl) (QA (Qad rfl) (QA (Qad rfl) (QA (Qad rfl) (QA Qck (QA Qck QaA)))))))),fun h => (by cases h)⟩
theorem QI : TOk Tryz.prog 61 Qb 120 (.agg #[(.string .empty),(.string .empty),(.string .empty),(.int .i64 0),(.int .i64 0),(.int .i64 0),(.slice none 0 0),(.slice none 0 0)]) := ⟨⟨_,Tryz.underlying61,rfl⟩,by kernel_rfl,rfl⟩
theorem zc61 : ∀ F w,Q2 (Qb.cs (Qc.mk ([] : Str) ([] : Str) ([] : Str) (0:Int) (0:Int) (0:Int) ([] : (List Str)) ([] : (List Int)))) F w ((.agg #[(.string .empty),(.string .empty),(.string .empty),(.int .i64 0),(.int .i64 0),(.int .i64 0),(.slice none 0 0),(.slice none 0 0)]) : Value).cells.toList := fun _ _ => (.cons rfl (.cons rfl (.cons rfl (.cons rfl (.cons rfl (.cons rfl (.cons ⟨none,0,rfl,Nat.le_refl _,fun h => (h rfl).elim⟩ (.cons ⟨none,0,rfl,Nat.le_refl _,fun h => (h rfl).elim⟩ .nil))))))))
theorem Qcy : ∀ F w,(Qb.ty (Qc.mk ([] : Str) ([] : Str) ([] : Str) (0:Int) (0:Int) (0:Int) ([] : (List Str)) ([] : (List Int)))).ok F w (.agg #[(.string .empty),(.string .empty),(.string .empty),(.int .i64 0),(.int .i64 0),(.int .i64 0),(.slice none 0 0),(.slice none 0 0)]) := fun F w => ⟨_,rfl,zc61 F w⟩
theorem zv61 : (Tryz.prog.info? 61).bind (·.zero) = some (.agg #[(.string .empty),(.string .empty),(.string .empty),(.int .i64 0),(.int .i64 0),(.int .i64 0),(.slice none 0 0),(.slice none 0 0)]) := by kernel_rfl
theorem pl61 : ∀ w, ((#[⟨"Name", 9, 0, false, "", "", 0⟩, ⟨"Of", 9, 1, false, "", "", 16⟩, ⟨"Up", 9, 2, false, "", "", 32⟩, ⟨"Kind", 3, 3, false, "", "", 48⟩, ⟨"Lo", 3, 4, false, "", "", 56⟩, ⟨"Hi", 3, 5, false, "", "", 64⟩, ⟨"Words", 32, 6, false, "", "", 72⟩, ⟨"Weights", 22, 7, false, "", "", 96⟩] : Array Field).mapM (fun f => do pure (f.offset, ← sizeOf f.type) : Field → Sem (Nat × Nat))).run Tryz.prog w = .ok #[(0, 1), (1, 1), (2, 1), (3, 1), (4, 1), (5, 1), (6, 1), (7, 1)] w := fun _ => by kernel_rfl
theorem QsX : (∀ F w,Q2 ([tv (.string (sB ([] : Str))),tv (.string (sB ([] : Str))),tv (.string (sB ([] : Str))),ti (0:Int),ti (0:Int),ti (0:Int),tsl rS ([] : (List Str)),tvs nilV]) F w ((.agg #[(.string .empty),(.string .empty),(.string .empty),(.int .i64 0),(.int .i64 0),(.int .i64 0),(.slice none 0 0),(.slice none 0 0)]) : Value).cells.toList) ∧ ([tv (.string (sB ([] : Str))),tv (.string (sB ([] : Str))),tv (.string (sB ([] : Str))),ti (0:Int),ti (0:Int),ti (0:Int),tsl rS ([] : (List Str)),tvs nilV]).length = 8 ∧ Qb.agg = true ∧ ∃ cs,((.agg #[(.string .empty),(.string .empty),(.string .empty),(.int .i64 0),(.int .i64 0),(.int .i64 0),(.slice none 0 0),(.slice none 0 0)]) : Value) = .agg cs := ⟨fun _ _ => (.cons rfl (.cons rfl (.cons rfl (.cons rfl (.cons rfl (.cons rfl (.cons ⟨none,0,rfl,Nat.le_refl _,fun h => (h rfl).elim⟩ (.cons ⟨rfl,rfl⟩ .nil)))))))),rfl,rfl,_,rfl⟩
theorem QaK : TOk Tryz.prog 53 (rSl Qb) 24 (.slice none 0 0) := ⟨⟨_,Tryz.underlying53,rfl⟩,by kernel_rfl,rfl⟩
structure Qj where
  Name : Str
  Lo : Int
  Hi : Int
  Fields : (List Qc)
deriving Inhabited
@[reducible] def Qk : Rep Qj := ⟨fun x => ([tv (.string (sB x.Name)),ti x.Lo,ti x.Hi,tsl Qb x.Fields]),4,true,fun _ => rfl,fun _ => (QA (Qad rfl) (QA (Qad rfl) (QA (Qad rfl) (QA Qck QaA)))),fun h => (by cases h)⟩
theorem QZ : TOk Tryz.prog 55 Qk 56 (.agg #[(.string .empty),(.int .i64 0),(.int .i64 0),(.slice none 0 0)]) := ⟨⟨_,Tryz.underlying55,rfl⟩,by kernel_rfl,rfl⟩
theorem zc55 : ∀ F w,Q2 (Qk.cs (Qj.mk ([] : Str) (0:Int) (0:Int) ([] : (List Qc)))) F w ((.agg #[(.string .empty),(.int .i64 0),(.int .i64 0),(.slice none 0 0)]) : Value).cells.toList := fun _ _ => (.cons rfl (.cons rfl (.cons rfl (.cons ⟨none,0,rfl,Nat.le_refl _,fun h => (h rfl).elim⟩ .nil))))
theorem Qid : ∀ F w,(Qk.ty (Qj.mk ([] : Str) (0:Int) (0:Int) ([] : (List Qc)))).ok F w (.agg #[(.string .empty),(.int .i64 0),(.int .i64 0),(.slice none 0 0)]) := fun F w => ⟨_,rfl,zc55 F w⟩
theorem zv55 : (Tryz.prog.info? 55).bind (·.zero) = some (.agg #[(.string .empty),(.int .i64 0),(.int .i64 0),(.slice none 0 0)]) := by kernel_rfl
theorem pl55 : ∀ w, ((#[⟨"Name", 9, 0, false, "", "", 0⟩, ⟨"Lo", 3, 1, false, "", "", 16⟩, ⟨"Hi", 3, 2, false, "", "", 24⟩, ⟨"Fields", 53, 3, false, "", "", 32⟩] : Array Field).mapM (fun f => do pure (f.offset, ← sizeOf f.type) : Field → Sem (Nat × Nat))).run Tryz.prog w = .ok #[(0, 1), (1, 1), (2, 1), (3, 1)] w := fun _ => by kernel_rfl
theorem QsY : (∀ F w,Q2 ([tv (.string (sB ([] : Str))),ti (0:Int),ti (0:Int),tvs nilV]) F w ((.agg #[(.string .empty),(.int .i64 0),(.int .i64 0),(.slice none 0 0)]) : Value).cells.toList) ∧ ([tv (.string (sB ([] : Str))),ti (0:Int),ti (0:Int),tvs nilV]).length = 4 ∧ Qk.agg = true ∧ ∃ cs,((.agg #[(.string .empty),(.int .i64 0),(.int .i64 0),(.slice none 0 0)]) : Value) = .agg cs := ⟨fun _ _ => (.cons rfl (.cons rfl (.cons rfl (.cons ⟨rfl,rfl⟩ .nil)))),rfl,rfl,_,rfl⟩
theorem QaF : TOk Tryz.prog 23 (rSl Qk) 24 (.slice none 0 0) := ⟨⟨_,Tryz.underlying23,rfl⟩,by kernel_rfl,rfl⟩
structure QT where
  a0 : Int
  a1 : Int
deriving Inhabited
@[reducible] def Qam : Rep QT := ⟨fun x => ([ti x.a0,ti x.a1]),2,true,fun _ => rfl,fun _ => (QA (Qad rfl) (QA (Qad rfl) QaA)),fun h => (by cases h)⟩
theorem Qds : TOk Tryz.prog 82 Qam 16 (.agg #[(.int .i64 0),(.int .i64 0)]) := ⟨⟨_,Tryz.underlying82,rfl⟩,by kernel_rfl,rfl⟩
theorem zc82 : ∀ F w,Q2 (Qam.cs (QT.mk (0:Int) (0:Int))) F w ((.agg #[(.int .i64 0),(.int .i64 0)]) : Value).cells.toList := fun _ _ => (.cons rfl (.cons rfl .nil))
theorem zok82 : ∀ F w,(Qam.ty (QT.mk (0:Int) (0:Int))).ok F w (.agg #[(.int .i64 0),(.int .i64 0)]) := fun F w => ⟨_,rfl,zc82 F w⟩
theorem zv82 : (Tryz.prog.info? 82).bind (·.zero) = some (.agg #[(.int .i64 0),(.int .i64 0)]) := by kernel_rfl
theorem Qhc : TOk Tryz.prog 79 (rSl Qam) 24 (.slice none 0 0) := ⟨⟨_,Tryz.underlying79,rfl⟩,by kernel_rfl,rfl⟩
structure Qo where
  Name : Str
  States : (List Str)
  Moves : (List QT)
deriving Inhabited
@[reducible] def Qz : Rep Qo := ⟨fun x => ([tv (.string (sB x.Name)),tsl rS x.States,tsl Qam x.Moves]),3,true,fun _ => rfl,fun _ => (QA (Qad rfl) (QA Qck (QA Qck QaA))),fun h => (by cases h)⟩
theorem Qby : TOk Tryz.prog 81 Qz 64 (.agg #[(.string .empty),(.slice none 0 0),(.slice none 0 0)]) := ⟨⟨_,Tryz.underlying81,rfl⟩,by kernel_rfl,rfl⟩
theorem zc81 : ∀ F w,Q2 (Qz.cs (Qo.mk ([] : Str) ([] : (List Str)) ([] : (List QT)))) F w ((.agg #[(.string .empty),(.slice none 0 0),(.slice none 0 0)]) : Value).cells.toList := fun _ _ => (.cons rfl (.cons ⟨none,0,rfl,Nat.le_refl _,fun h => (h rfl).elim⟩ (.cons ⟨none,0,rfl,Nat.le_refl _,fun h => (h rfl).elim⟩ .nil)))
theorem QpE : ∀ F w,(Qz.ty (Qo.mk ([] : Str) ([] : (List Str)) ([] : (List QT)))).ok F w (.agg #[(.string .empty),(.slice none 0 0),(.slice none 0 0)]) := fun F w => ⟨_,rfl,zc81 F w⟩
theorem zv81 : (Tryz.prog.info? 81).bind (·.zero) = some (.agg #[(.string .empty),(.slice none 0 0),(.slice none 0 0)]) := by kernel_rfl
theorem pl81 : ∀ w, ((#[⟨"Name", 9, 0, false, "", "", 0⟩, ⟨"States", 32, 1, false, "", "", 16⟩, ⟨"Moves", 79, 2, false, "", "", 40⟩] : Array Field).mapM (fun f => do pure (f.offset, ← sizeOf f.type) : Field → Sem (Nat × Nat))).run Tryz.prog w = .ok #[(0, 1), (1, 1), (2, 1)] w := fun _ => by kernel_rfl
theorem QsZ : (∀ F w,Q2 ([tv (.string (sB ([] : Str))),tsl rS ([] : (List Str)),tvs nilV]) F w ((.agg #[(.string .empty),(.slice none 0 0),(.slice none 0 0)]) : Value).cells.toList) ∧ ([tv (.string (sB ([] : Str))),tsl rS ([] : (List Str)),tvs nilV]).length = 3 ∧ Qz.agg = true ∧ ∃ cs,((.agg #[(.string .empty),(.slice none 0 0),(.slice none 0 0)]) : Value) = .agg cs := ⟨fun _ _ => (.cons rfl (.cons ⟨none,0,rfl,Nat.le_refl _,fun h => (h rfl).elim⟩ (.cons ⟨rfl,rfl⟩ .nil))),rfl,rfl,_,rfl⟩
theorem QeH : TOk Tryz.prog 24 (rSl Qz) 24 (.slice none 0 0) := ⟨⟨_,Tryz.underlying24,rfl⟩,by kernel_rfl,rfl⟩
structure Qn where
  Name : Str
  Kind : Str
  A : Str
  B : Str
  N : Int
deriving Inhabited
@[reducible] def Qt : Rep Qn := ⟨fun x => ([tv (.string (sB x.Name)),tv (.string (sB x.Kind)),tv (.string (sB x.A)),tv (.string (sB x.B)),ti x.N]),5,true,fun _ => rfl,fun _ => (QA (Qad rfl) (QA (Qad rfl) (QA (Qad rfl) (QA (Qad rfl) (QA (Qad rfl) QaA))))),fun h => (by cases h)⟩
theorem QaU : TOk Tryz.prog 84 Qt 72 (.agg #[(.string .empty),(.string .empty),(.string .empty),(.string .empty),(.int .i64 0)]) := ⟨⟨_,Tryz.underlying84,rfl⟩,by kernel_rfl,rfl⟩
theorem zc84 : ∀ F w,Q2 (Qt.cs (Qn.mk ([] : Str) ([] : Str) ([] : Str) ([] : Str) (0:Int))) F w ((.agg #[(.string .empty),(.string .empty),(.string .empty),(.string .empty),(.int .i64 0)]) : Value).cells.toList := fun _ _ => (.cons rfl (.cons rfl (.cons rfl (.cons rfl (.cons rfl .nil)))))
theorem QmS : ∀ F w,(Qt.ty (Qn.mk ([] : Str) ([] : Str) ([] : Str) ([] : Str) (0:Int))).ok F w (.agg #[(.string .empty),(.string .empty),(.string .empty),(.string .empty),(.int .i64 0)]) := fun F w => ⟨_,rfl,zc84 F w⟩
theorem zv84 : (Tryz.prog.info? 84).bind (·.zero) = some (.agg #[(.string .empty),(.string .empty),(.string .empty),(.string .empty),(.int .i64 0)]) := by kernel_rfl
theorem pl84 : ∀ w, ((#[⟨"Name", 9, 0, false, "", "", 0⟩, ⟨"Kind", 9, 1, false, "", "", 16⟩, ⟨"A", 9, 2, false, "", "", 32⟩, ⟨"B", 9, 3, false, "", "", 48⟩, ⟨"N", 3, 4, false, "", "", 64⟩] : Array Field).mapM (fun f => do pure (f.offset, ← sizeOf f.type) : Field → Sem (Nat × Nat))).run Tryz.prog w = .ok #[(0, 1), (1, 1), (2, 1), (3, 1), (4, 1)] w := fun _ => by kernel_rfl
theorem Qfp : TOk Tryz.prog 25 (rSl Qt) 24 (.slice none 0 0) := ⟨⟨_,Tryz.underlying25,rfl⟩,by kernel_rfl,rfl⟩
structure Qh where
  Version : Int
  Kinds : (List Qj)
  Lives : (List Qo)
  Rules : (List Qn)
deriving Inhabited
@[reducible] def Qg : Rep Qh := ⟨fun x => ([ti x.Version,tsl Qk x.Kinds,tsl Qz x.Lives,tsl Qt x.Rules]),4,true,fun _ => rfl,fun _ => (QA (Qad rfl) (QA Qck (QA Qck (QA Qck QaA)))),fun h => (by cases h)⟩
theorem Qar : TOk Tryz.prog 27 Qg 80 (.agg #[(.int .i64 0),(.slice none 0 0),(.slice none 0 0),(.slice none 0 0)]) := ⟨⟨_,Tryz.underlying27,rfl⟩,by kernel_rfl,rfl⟩
theorem zc27 : ∀ F w,Q2 (Qg.cs (Qh.mk (0:Int) ([] : (List Qj)) ([] : (List Qo)) ([] : (List Qn)))) F w ((.agg #[(.int .i64 0),(.slice none 0 0),(.slice none 0 0),(.slice none 0 0)]) : Value).cells.toList := fun _ _ => (.cons rfl (.cons ⟨none,0,rfl,Nat.le_refl _,fun h => (h rfl).elim⟩ (.cons ⟨none,0,rfl,Nat.le_refl _,fun h => (h rfl).elim⟩ (.cons ⟨none,0,rfl,Nat.le_refl _,fun h => (h rfl).elim⟩ .nil))))
theorem QnT : ∀ F w,(Qg.ty (Qh.mk (0:Int) ([] : (List Qj)) ([] : (List Qo)) ([] : (List Qn)))).ok F w (.agg #[(.int .i64 0),(.slice none 0 0),(.slice none 0 0),(.slice none 0 0)]) := fun F w => ⟨_,rfl,zc27 F w⟩
theorem zv27 : (Tryz.prog.info? 27).bind (·.zero) = some (.agg #[(.int .i64 0),(.slice none 0 0),(.slice none 0 0),(.slice none 0 0)]) := by kernel_rfl
theorem pl27 : ∀ w, ((#[⟨"Version", 3, 0, false, "", "", 0⟩, ⟨"Kinds", 23, 1, false, "", "", 8⟩, ⟨"Lives", 24, 2, false, "", "", 32⟩, ⟨"Rules", 25, 3, false, "", "", 56⟩] : Array Field).mapM (fun f => do pure (f.offset, ← sizeOf f.type) : Field → Sem (Nat × Nat))).run Tryz.prog w = .ok #[(0, 1), (1, 1), (2, 1), (3, 1)] w := fun _ => by kernel_rfl
theorem Qp6 : (∀ F w,Q2 ([ti (0:Int),tvs nilV,tvs nilV,tvs nilV]) F w ((.agg #[(.int .i64 0),(.slice none 0 0),(.slice none 0 0),(.slice none 0 0)]) : Value).cells.toList) ∧ ([ti (0:Int),tvs nilV,tvs nilV,tvs nilV]).length = 4 ∧ Qg.agg = true ∧ ∃ cs,((.agg #[(.int .i64 0),(.slice none 0 0),(.slice none 0 0),(.slice none 0 0)]) : Value) = .agg cs := ⟨fun _ _ => (.cons rfl (.cons ⟨rfl,rfl⟩ (.cons ⟨rfl,rfl⟩ (.cons ⟨rfl,rfl⟩ .nil)))),rfl,rfl,_,rfl⟩
structure Qi where
  A : Int
  B : Int
  Mul : Int
  Least : Bool
deriving Inhabited
@[reducible] def Ql : Rep Qi := ⟨fun x => ([ti x.A,ti x.B,ti x.Mul,tb x.Least]),4,true,fun _ => rfl,fun _ => (QA (Qad rfl) (QA (Qad rfl) (QA (Qad rfl) (QA (Qad rfl) QaA)))),fun h => (by cases h)⟩
theorem Qbn : TOk Tryz.prog 43 Ql 32 (.agg #[(.int .i64 0),(.int .i64 0),(.int .i64 0),(.bool false)]) := ⟨⟨_,Tryz.underlying43,rfl⟩,by kernel_rfl,rfl⟩
theorem zc43 : ∀ F w,Q2 (Ql.cs (Qi.mk (0:Int) (0:Int) (0:Int) false)) F w ((.agg #[(.int .i64 0),(.int .i64 0),(.int .i64 0),(.bool false)]) : Value).cells.toList := fun _ _ => (.cons rfl (.cons rfl (.cons rfl (.cons rfl .nil))))
theorem Qre : ∀ F w,(Ql.ty (Qi.mk (0:Int) (0:Int) (0:Int) false)).ok F w (.agg #[(.int .i64 0),(.int .i64 0),(.int .i64 0),(.bool false)]) := fun F w => ⟨_,rfl,zc43 F w⟩
theorem zv43 : (Tryz.prog.info? 43).bind (·.zero) = some (.agg #[(.int .i64 0),(.int .i64 0),(.int .i64 0),(.bool false)]) := by kernel_rfl
theorem pl43 : ∀ w, ((#[⟨"A", 3, 0, false, "", "", 0⟩, ⟨"B", 3, 1, false, "", "", 8⟩, ⟨"Mul", 3, 2, false, "", "", 16⟩, ⟨"Least", 4, 3, false, "", "", 24⟩] : Array Field).mapM (fun f => do pure (f.offset, ← sizeOf f.type) : Field → Sem (Nat × Nat))).run Tryz.prog w = .ok #[(0, 1), (1, 1), (2, 1), (3, 1)] w := fun _ => by kernel_rfl
theorem tok31 : TOk Tryz.prog 31 (rSl Ql) 24 (.slice none 0 0) := ⟨⟨_,Tryz.underlying31,rfl⟩,by kernel_rfl,rfl⟩
theorem QmT : TOk Tryz.prog 33 rI 8 (.int .i64 0) := ⟨⟨_,Tryz.underlying33,rfl⟩,by kernel_rfl,rfl⟩
structure QD where
  A : Int
  B : Int
  Mul : Int
  Least : Bool
deriving Inhabited
@[reducible] def Qac : Rep QD := ⟨fun x => ([ti x.A,ti x.B,ti x.Mul,tb x.Least]),4,true,fun _ => rfl,fun _ => (QA (Qad rfl) (QA (Qad rfl) (QA (Qad rfl) (QA (Qad rfl) QaA)))),fun h => (by cases h)⟩
theorem QjY : TOk Tryz.prog 41 Qac 32 (.agg #[(.int .i64 0),(.int .i64 0),(.int .i64 0),(.bool false)]) := ⟨⟨_,Tryz.underlying41,rfl⟩,by kernel_rfl,rfl⟩
theorem zc41 : ∀ F w,Q2 (Qac.cs (QD.mk (0:Int) (0:Int) (0:Int) false)) F w ((.agg #[(.int .i64 0),(.int .i64 0),(.int .i64 0),(.bool false)]) : Value).cells.toList := fun _ _ => (.cons rfl (.cons rfl (.cons rfl (.cons rfl .nil))))
theorem zok41 : ∀ F w,(Qac.ty (QD.mk (0:Int) (0:Int) (0:Int) false)).ok F w (.agg #[(.int .i64 0),(.int .i64 0),(.int .i64 0),(.bool false)]) := fun F w => ⟨_,rfl,zc41 F w⟩
theorem zv41 : (Tryz.prog.info? 41).bind (·.zero) = some (.agg #[(.int .i64 0),(.int .i64 0),(.int .i64 0),(.bool false)]) := by kernel_rfl
theorem pl41 : ∀ w, ((#[⟨"A", 3, 0, false, "", "", 0⟩, ⟨"B", 3, 1, false, "", "", 8⟩, ⟨"Mul", 3, 2, false, "", "", 16⟩, ⟨"Least", 4, 3, false, "", "", 24⟩] : Array Field).mapM (fun f => do pure (f.offset, ← sizeOf f.type) : Field → Sem (Nat × Nat))).run Tryz.prog w = .ok #[(0, 1), (1, 1), (2, 1), (3, 1)] w := fun _ => by kernel_rfl
def Qhd (p q : QD) : Bool := p.A == q.A && p.B == q.B && p.Mul == q.Mul && p.Least == q.Least
set_option maxHeartbeats 2000000 in
theorem QtN (n : Nat) (a0 b0 : Int) (a1 b1 : Int) (a2 b2 : Int) (a3 b3 : Bool) (w : World) : (Op.equalIn (n + 2) 41 (.agg #[.int .i64 a0,.int .i64 a1,.int .i64 a2,.bool a3]) (.agg #[.int .i64 b0,.int .i64 b1,.int .i64 b2,.bool b3])).run Tryz.prog w = .ok (a0 == b0 && a1 == b1 && a2 == b2 && a3 == b3) w := by
  have hs : Tryz.prog.stoodInHeld 41 = false := by kernel_rfl
  simp only [Op.equalIn,Sem.run_bind,run_underlying Tryz.underlying41,run_underlying Tryz.underlying3,run_underlying Tryz.underlying4,Result.andThen_ok,run_program,hs]
  simp [run_underlying Tryz.underlying41,run_underlying Tryz.underlying3,run_underlying Tryz.underlying4,part,isAgg,Op.equalIn,sizeOf,typeInfo]
  cases h0 : (a0 == b0) <;> cases h1 : (a1 == b1) <;> cases h2 : (a2 == b2) <;> cases h3 : (a3 == b3) <;> simp_all [Op.equalIn,run_underlying Tryz.underlying41,run_underlying Tryz.underlying3,run_underlying Tryz.underlying4,part,isAgg,sB_beq]
theorem QrL : Tryz.prog.eqGuardType Tryz.prog.depth 41 = false := by kernel_rfl
theorem Qrf {Γ : List (Nat × Ty)} {d : Option Tmp} {ty t2 : TypeId} {pos : String} {af : Array Edge} {g : Option (Nat × Bool)} {x y : Operand} {p q : QD} (hx : Fct Γ x (Qac.ty p)) (hy : Fct Γ y (Qac.ty q)) :
    OpJ Tryz.prog ⟨d,.binOp .neq 41 x y t2,ty,pos,af,g⟩ Γ [] [] (fun _ => []) (fun _ => tv (.bool (!Qhd p q))) :=
  QbN (u := .agg #[.int .i64 p.A,.int .i64 p.B,.int .i64 p.Mul,.bool p.Least]) (v := .agg #[.int .i64 q.A,.int .i64 q.B,.int .i64 q.Mul,.bool q.Least]) (hx.weak fun _ _ _ h => by obtain ⟨us,hv,hc⟩ := h; rw [hv]; exact Qic hc [.int .i64 p.A,.int .i64 p.B,.int .i64 p.Mul,.bool p.Least] rfl) (hy.weak fun _ _ _ h => by obtain ⟨us,hv,hc⟩ := h; rw [hv]; exact Qic hc [.int .i64 q.A,.int .i64 q.B,.int .i64 q.Mul,.bool q.Least] rfl) fun w => by
    have := QtN 9998 p.A q.A p.B q.B p.Mul q.Mul p.Least q.Least w
    simp only [eqGuard,binOp,Op.equal,run_program,QrL,Sem.run_bind,Result.andThen_ok]
    simp [Op.maxDepth,this,Qhd]
structure QK where
  L : (List Int)
  I : Int
deriving Inhabited
@[reducible] def Qw : Rep QK := ⟨fun x => ([tsl rI x.L,ti x.I]),2,true,fun _ => rfl,fun _ => (QA Qck (QA (Qad rfl) QaA)),fun h => (by cases h)⟩
theorem zc76 : ∀ F w,Q2 (Qw.cs (QK.mk ([] : (List Int)) (0:Int))) F w ((.agg #[(.slice none 0 0),(.int .i64 0)]) : Value).cells.toList := fun _ _ => (.cons ⟨none,0,rfl,Nat.le_refl _,fun h => (h rfl).elim⟩ (.cons rfl .nil))
theorem zv76 : (Tryz.prog.info? 76).bind (·.zero) = some (.agg #[(.slice none 0 0),(.int .i64 0)]) := by kernel_rfl
theorem pl76 : ∀ w, ((#[⟨"L", 22, 0, false, "", "", 0⟩, ⟨"I", 3, 1, false, "", "", 24⟩] : Array Field).mapM (fun f => do pure (f.offset, ← sizeOf f.type) : Field → Sem (Nat × Nat))).run Tryz.prog w = .ok #[(0, 1), (1, 1)] w := fun _ => by kernel_rfl
structure QO where
  Kind : Int
  Field : Int
  Rule : Int
  Code : Int
deriving Inhabited
@[reducible] def Q3 : Rep QO := ⟨fun x => ([ti x.Kind,ti x.Field,ti x.Rule,ti x.Code]),4,true,fun _ => rfl,fun _ => (QA (Qad rfl) (QA (Qad rfl) (QA (Qad rfl) (QA (Qad rfl) QaA)))),fun h => (by cases h)⟩
theorem Qrg : TOk Tryz.prog 94 Q3 32 (.agg #[(.int .i64 0),(.int .i64 0),(.int .i64 0),(.int .i64 0)]) := ⟨⟨_,Tryz.underlying94,rfl⟩,by kernel_rfl,rfl⟩
theorem zc94 : ∀ F w,Q2 (Q3.cs (QO.mk (0:Int) (0:Int) (0:Int) (0:Int))) F w ((.agg #[(.int .i64 0),(.int .i64 0),(.int .i64 0),(.int .i64 0)]) : Value).cells.toList := fun _ _ => (.cons rfl (.cons rfl (.cons rfl (.cons rfl .nil))))
theorem zv94 : (Tryz.prog.info? 94).bind (·.zero) = some (.agg #[(.int .i64 0),(.int .i64 0),(.int .i64 0),(.int .i64 0)]) := by kernel_rfl
theorem pl94 : ∀ w, ((#[⟨"Kind", 3, 0, false, "", "", 0⟩, ⟨"Field", 3, 1, false, "", "", 8⟩, ⟨"Rule", 3, 2, false, "", "", 16⟩, ⟨"Code", 33, 3, false, "", "", 24⟩] : Array Field).mapM (fun f => do pure (f.offset, ← sizeOf f.type) : Field → Sem (Nat × Nat))).run Tryz.prog w = .ok #[(0, 1), (1, 1), (2, 1), (3, 1)] w := fun _ => by kernel_rfl
@[reducible] def tF96 (p : (Int → Option Bool)) : Ty := tfn Tryz.prog [] (A := Int) (B := Bool) (fun x => [ti x]) (fun y => tb y) (p)
@[reducible] def rF96 : Rep (Int → Option Bool) := ⟨fun p => [tF96 p],1,false,fun _ => rfl,fun _ => QA QeU QaA,fun _ => rfl⟩
theorem QrM : TOk Tryz.prog 101 (rSl Qa7) 24 (.slice none 0 0) := ⟨⟨_,Tryz.underlying101,rfl⟩,by kernel_rfl,rfl⟩
structure QC where
  a0 : Int
  a1 : Int
  a2 : Int
  a3 : Int
  a4 : Int
  a5 : Int
deriving Inhabited
@[reducible] def QB : Rep QC := ⟨fun x => ([ti x.a0,ti x.a1,ti x.a2,ti x.a3,ti x.a4,ti x.a5]),6,true,fun _ => rfl,fun _ => (QA (Qad rfl) (QA (Qad rfl) (QA (Qad rfl) (QA (Qad rfl) (QA (Qad rfl) (QA (Qad rfl) QaA)))))),fun h => (by cases h)⟩
@[reducible] def QC.L (a : QC) : List Int := [a.a0,a.a1,a.a2,a.a3,a.a4,a.a5]
def QC.setI (a : QC) (i : Int) (v : Int) : QC := match i.toNat with | 0 => { a with a0 := v } | 1 => { a with a1 := v } | 2 => { a with a2 := v } | 3 => { a with a3 := v } | 4 => { a with a4 := v } | 5 => { a with a5 := v } | _ => a
theorem QC.spl {pre post : List Ty} {a : QC} {i : Int} {v u : Int} {o : Nat} (ho : pre.length = o) (h : idx a.L i = some u) : splice (pre ++ QB.cs a ++ post) (o + i.toNat) (rI.cs v) = pre ++ QB.cs (a.setI i v) ++ post := by
  have h1 := (idx_lt' h).2.1
  unfold QC.setI
  revert h1
  generalize i.toNat = k
  intro h1
  refine Qq7 ho (show k + 1 ≤ 6 from h1) ?_
  match k,h1 with
  | 0,_ => rfl
  | 1,_ => rfl
  | 2,_ => rfl
  | 3,_ => rfl
  | 4,_ => rfl
  | 5,_ => rfl
theorem Qie : TOk Tryz.prog 103 QB 48 (.agg #[(.int .i64 0),(.int .i64 0),(.int .i64 0),(.int .i64 0),(.int .i64 0),(.int .i64 0)]) := ⟨⟨_,Tryz.underlying103,rfl⟩,by kernel_rfl,rfl⟩
theorem zc103 : ∀ F w,Q2 (QB.cs (QC.mk (0:Int) (0:Int) (0:Int) (0:Int) (0:Int) (0:Int))) F w ((.agg #[(.int .i64 0),(.int .i64 0),(.int .i64 0),(.int .i64 0),(.int .i64 0),(.int .i64 0)]) : Value).cells.toList := fun _ _ => (.cons rfl (.cons rfl (.cons rfl (.cons rfl (.cons rfl (.cons rfl .nil))))))
theorem zok103 : ∀ F w,(QB.ty (QC.mk (0:Int) (0:Int) (0:Int) (0:Int) (0:Int) (0:Int))).ok F w (.agg #[(.int .i64 0),(.int .i64 0),(.int .i64 0),(.int .i64 0),(.int .i64 0),(.int .i64 0)]) := fun F w => ⟨_,rfl,zc103 F w⟩
def Qc9 (p q : QC) : Bool := p.a0 == q.a0 && p.a1 == q.a1 && p.a2 == q.a2 && p.a3 == q.a3 && p.a4 == q.a4 && p.a5 == q.a5
set_option maxHeartbeats 2000000 in
theorem Qs0 (n : Nat) (a0 b0 : Int) (a1 b1 : Int) (a2 b2 : Int) (a3 b3 : Int) (a4 b4 : Int) (a5 b5 : Int) (w : World) : (Op.equalIn (n + 2) 103 (.agg #[.int .i64 a0,.int .i64 a1,.int .i64 a2,.int .i64 a3,.int .i64 a4,.int .i64 a5]) (.agg #[.int .i64 b0,.int .i64 b1,.int .i64 b2,.int .i64 b3,.int .i64 b4,.int .i64 b5])).run Tryz.prog w = .ok (a0 == b0 && a1 == b1 && a2 == b2 && a3 == b3 && a4 == b4 && a5 == b5) w := by
  obtain ⟨ie,hie,_,hse,_⟩ := tok3.info
  have hse1 : ie.size = 1 := hse
  have e3 : ∀ x y : Int,(Op.equalIn (n + 1) 3 (.int .i64 x) (.int .i64 y)).run Tryz.prog w = .ok (x == y) w := fun x y => by simp [Op.equalIn,run_underlying Tryz.underlying3]
  have pt : ∀ (xs : Array Value) (i : Nat) (v : Value),xs[i]? = some v → (part 3 xs i).run Tryz.prog w = .ok v w := fun xs i v h => by simp [part,isAgg,run_underlying Tryz.underlying3,h]
  have p0 : ∀ u0 u1 u2 u3 u4 u5 : Int,(part 3 #[.int .i64 u0,.int .i64 u1,.int .i64 u2,.int .i64 u3,.int .i64 u4,.int .i64 u5] 0).run Tryz.prog w = .ok (.int .i64 u0) w := fun _ _ _ _ _ _ => pt _ 0 _ rfl
  have p1 : ∀ u0 u1 u2 u3 u4 u5 : Int,(part 3 #[.int .i64 u0,.int .i64 u1,.int .i64 u2,.int .i64 u3,.int .i64 u4,.int .i64 u5] 1).run Tryz.prog w = .ok (.int .i64 u1) w := fun _ _ _ _ _ _ => pt _ 1 _ rfl
  have p2 : ∀ u0 u1 u2 u3 u4 u5 : Int,(part 3 #[.int .i64 u0,.int .i64 u1,.int .i64 u2,.int .i64 u3,.int .i64 u4,.int .i64 u5] 2).run Tryz.prog w = .ok (.int .i64 u2) w := fun _ _ _ _ _ _ => pt _ 2 _ rfl
  have p3 : ∀ u0 u1 u2 u3 u4 u5 : Int,(part 3 #[.int .i64 u0,.int .i64 u1,.int .i64 u2,.int .i64 u3,.int .i64 u4,.int .i64 u5] 3).run Tryz.prog w = .ok (.int .i64 u3) w := fun _ _ _ _ _ _ => pt _ 3 _ rfl
  have p4 : ∀ u0 u1 u2 u3 u4 u5 : Int,(part 3 #[.int .i64 u0,.int .i64 u1,.int .i64 u2,.int .i64 u3,.int .i64 u4,.int .i64 u5] 4).run Tryz.prog w = .ok (.int .i64 u4) w := fun _ _ _ _ _ _ => pt _ 4 _ rfl
  have p5 : ∀ u0 u1 u2 u3 u4 u5 : Int,(part 3 #[.int .i64 u0,.int .i64 u1,.int .i64 u2,.int .i64 u3,.int .i64 u4,.int .i64 u5] 5).run Tryz.prog w = .ok (.int .i64 u5) w := fun _ _ _ _ _ _ => pt _ 5 _ rfl
  unfold Op.equalIn
  simp only [Sem.run_bind,run_underlying Tryz.underlying103,Result.andThen_ok,sizeOf,typeInfo,run_program,hie,Sem.run_pure,hse1,Nat.mul_one]
  simp [List.range',p0,p1,p2,p3,p4,p5,e3]
  by_cases h0 : a0 = b0 <;> by_cases h1 : a1 = b1 <;> by_cases h2 : a2 = b2 <;> by_cases h3 : a3 = b3 <;> by_cases h4 : a4 = b4 <;> by_cases h5 : a5 = b5 <;> simp [h0,h1,h2,h3,h4,h5,p0,p1,p2,p3,p4,p5,e3]
theorem Qrh : Tryz.prog.eqGuardType Tryz.prog.depth 103 = false := by kernel_rfl
theorem Qqw {Γ : List (Nat × Ty)} {d : Option Tmp} {ty t2 : TypeId} {pos : String} {af : Array Edge} {g : Option (Nat × Bool)} {x y : Operand} {p q : QC} (hx : Fct Γ x (QB.ty p)) (hy : Fct Γ y (QB.ty q)) :
    OpJ Tryz.prog ⟨d,.binOp .neq 103 x y t2,ty,pos,af,g⟩ Γ [] [] (fun _ => []) (fun _ => tv (.bool (!Qc9 p q))) :=
  QbN (u := .agg #[.int .i64 p.a0,.int .i64 p.a1,.int .i64 p.a2,.int .i64 p.a3,.int .i64 p.a4,.int .i64 p.a5]) (v := .agg #[.int .i64 q.a0,.int .i64 q.a1,.int .i64 q.a2,.int .i64 q.a3,.int .i64 q.a4,.int .i64 q.a5]) (hx.weak fun _ _ _ h => by obtain ⟨us,hv,hc⟩ := h; rw [hv]; exact Qic hc [.int .i64 p.a0,.int .i64 p.a1,.int .i64 p.a2,.int .i64 p.a3,.int .i64 p.a4,.int .i64 p.a5] rfl) (hy.weak fun _ _ _ h => by obtain ⟨us,hv,hc⟩ := h; rw [hv]; exact Qic hc [.int .i64 q.a0,.int .i64 q.a1,.int .i64 q.a2,.int .i64 q.a3,.int .i64 q.a4,.int .i64 q.a5] rfl) fun w => by
    have := Qs0 9998 p.a0 q.a0 p.a1 q.a1 p.a2 q.a2 p.a3 q.a3 p.a4 q.a4 p.a5 q.a5 w
    simp only [eqGuard,binOp,Op.equal,run_program,Qrh,Sem.run_bind,Result.andThen_ok]
    simp [Op.maxDepth,this,Qc9]
structure Qx where
  limits : (List Qi)
  want : (List Int)
  leads : (List Bool)
  now : QC
  best : QC
  cost : Int
deriving Inhabited
@[reducible] def QL : Rep Qx := ⟨fun x => ([tsl Ql x.limits,tsl rI x.want,tsl Qa7 x.leads] ++ QB.cs x.now ++ QB.cs x.best ++ [ti x.cost]),16,true,fun _ => rfl,fun _ => (QhY (QhY (QhY (QA Qck (QA Qck (QA Qck QaA))) (Qj9 QB)) (Qj9 QB)) (QA (Qad rfl) QaA)),fun h => (by cases h)⟩
theorem zc105 : ∀ F w,Q2 (QL.cs (Qx.mk ([] : (List Qi)) ([] : (List Int)) ([] : (List Bool)) (QC.mk (0:Int) (0:Int) (0:Int) (0:Int) (0:Int) (0:Int)) (QC.mk (0:Int) (0:Int) (0:Int) (0:Int) (0:Int) (0:Int)) (0:Int))) F w ((.agg #[(.slice none 0 0),(.slice none 0 0),(.slice none 0 0),(.int .i64 0),(.int .i64 0),(.int .i64 0),(.int .i64 0),(.int .i64 0),(.int .i64 0),(.int .i64 0),(.int .i64 0),(.int .i64 0),(.int .i64 0),(.int .i64 0),(.int .i64 0),(.int .i64 0)]) : Value).cells.toList := fun _ _ => (.cons ⟨none,0,rfl,Nat.le_refl _,fun h => (h rfl).elim⟩ (.cons ⟨none,0,rfl,Nat.le_refl _,fun h => (h rfl).elim⟩ (.cons ⟨none,0,rfl,Nat.le_refl _,fun h => (h rfl).elim⟩ (.cons rfl (.cons rfl (.cons rfl (.cons rfl (.cons rfl (.cons rfl (.cons rfl (.cons rfl (.cons rfl (.cons rfl (.cons rfl (.cons rfl (.cons rfl .nil))))))))))))))))
theorem zv105 : (Tryz.prog.info? 105).bind (·.zero) = some (.agg #[(.slice none 0 0),(.slice none 0 0),(.slice none 0 0),(.int .i64 0),(.int .i64 0),(.int .i64 0),(.int .i64 0),(.int .i64 0),(.int .i64 0),(.int .i64 0),(.int .i64 0),(.int .i64 0),(.int .i64 0),(.int .i64 0),(.int .i64 0),(.int .i64 0)]) := by kernel_rfl
theorem pl105 : ∀ w, ((#[⟨"limits", 31, 0, false, "", "diorama/counts", 0⟩, ⟨"want", 22, 1, false, "", "diorama/counts", 24⟩, ⟨"leads", 101, 2, false, "", "diorama/counts", 48⟩, ⟨"now", 103, 3, false, "", "diorama/counts", 72⟩, ⟨"best", 103, 9, false, "", "diorama/counts", 120⟩, ⟨"cost", 3, 15, false, "", "diorama/counts", 168⟩] : Array Field).mapM (fun f => do pure (f.offset, ← sizeOf f.type) : Field → Sem (Nat × Nat))).run Tryz.prog w = .ok #[(0, 1), (1, 1), (2, 1), (3, 6), (9, 6), (15, 1)] w := fun _ => by kernel_rfl
@[reducible] def tF112 (p : (Qi → Option Bool)) : Ty := tfn Tryz.prog [] (A := Qi) (B := Bool) (fun x => [Ql.ty x]) (fun y => tb y) (p)
@[reducible] def QnU : Rep (Qi → Option Bool) := ⟨fun p => [tF112 p],1,false,fun _ => rfl,fun _ => QA QeU QaA,fun _ => rfl⟩
structure Qs where
  Kind : Int
  Field : Int
  Rule : Int
  Code : Int
deriving Inhabited
@[reducible] def Q1 : Rep Qs := ⟨fun x => ([ti x.Kind,ti x.Field,ti x.Rule,ti x.Code]),4,true,fun _ => rfl,fun _ => (QA (Qad rfl) (QA (Qad rfl) (QA (Qad rfl) (QA (Qad rfl) QaA)))),fun h => (by cases h)⟩
theorem QnV : TOk Tryz.prog 119 Q1 32 (.agg #[(.int .i64 0),(.int .i64 0),(.int .i64 0),(.int .i64 0)]) := ⟨⟨_,Tryz.underlying119,rfl⟩,by kernel_rfl,rfl⟩
theorem zc119 : ∀ F w,Q2 (Q1.cs (Qs.mk (0:Int) (0:Int) (0:Int) (0:Int))) F w ((.agg #[(.int .i64 0),(.int .i64 0),(.int .i64 0),(.int .i64 0)]) : Value).cells.toList := fun _ _ => (.cons rfl (.cons rfl (.cons rfl (.cons rfl .nil))))
theorem zv119 : (Tryz.prog.info? 119).bind (·.zero) = some (.agg #[(.int .i64 0),(.int .i64 0),(.int .i64 0),(.int .i64 0)]) := by kernel_rfl
theorem pl119 : ∀ w, ((#[⟨"Kind", 3, 0, false, "", "", 0⟩, ⟨"Field", 3, 1, false, "", "", 8⟩, ⟨"Rule", 3, 2, false, "", "", 16⟩, ⟨"Code", 33, 3, false, "", "", 24⟩] : Array Field).mapM (fun f => do pure (f.offset, ← sizeOf f.type) : Field → Sem (Nat × Nat))).run Tryz.prog w = .ok #[(0, 1), (1, 1), (2, 1), (3, 1)] w := fun _ => by kernel_rfl
@[reducible] def tF122 (p : (Qo → Option Bool)) : Ty := tfn Tryz.prog [] (A := Qo) (B := Bool) (fun x => [Qz.ty x]) (fun y => tb y) (p)
@[reducible] def Qif : Rep (Qo → Option Bool) := ⟨fun p => [tF122 p],1,false,fun _ => rfl,fun _ => QA QeU QaA,fun _ => rfl⟩
theorem tok122 : TOk Tryz.prog 122 Qif 8 .nilFunc := ⟨⟨_,Tryz.underlying122,rfl⟩,by kernel_rfl,rfl⟩
structure Qv where
  is : Bool
  code : Int
deriving Inhabited
@[reducible] def QX : Rep Qv := ⟨fun x => ([tb x.is,ti x.code]),2,true,fun _ => rfl,fun _ => (QA (Qad rfl) (QA (Qad rfl) QaA)),fun h => (by cases h)⟩
theorem Qen : TOk Tryz.prog 125 QX 16 (.agg #[(.bool false),(.int .i64 0)]) := ⟨⟨_,Tryz.underlying125,rfl⟩,by kernel_rfl,rfl⟩
theorem Qd7 : ∀ F w,Q2 (QX.cs (Qv.mk false (0:Int))) F w ((.agg #[(.bool false),(.int .i64 0)]) : Value).cells.toList := fun _ _ => (.cons rfl (.cons rfl .nil))
theorem zok125 : ∀ F w,(QX.ty (Qv.mk false (0:Int))).ok F w (.agg #[(.bool false),(.int .i64 0)]) := fun F w => ⟨_,rfl,Qd7 F w⟩
theorem QeI : (Tryz.prog.info? 125).bind (·.zero) = some (.agg #[(.bool false),(.int .i64 0)]) := by kernel_rfl
theorem QeJ : ∀ w, ((#[⟨"is", 4, 0, false, "", "diorama/typing", 0⟩, ⟨"code", 33, 1, false, "", "diorama/typing", 8⟩] : Array Field).mapM (fun f => do pure (f.offset, ← sizeOf f.type) : Field → Sem (Nat × Nat))).run Tryz.prog w = .ok #[(0, 1), (1, 1)] w := fun _ => by kernel_rfl
structure QP where
  x : Qh
  kind : Int
  field : Int
  f : Qc
deriving Inhabited
@[reducible] def Qaa : Rep QP := ⟨fun x => (Qg.cs x.x ++ [ti x.kind,ti x.field] ++ Qb.cs x.f),14,true,fun _ => rfl,fun _ => (QhY (QhY (Qj9 Qg) (QA (Qad rfl) (QA (Qad rfl) QaA))) (Qj9 Qb)),fun h => (by cases h)⟩
theorem Qmk : TOk Tryz.prog 133 Qaa 216 (.agg #[(.int .i64 0),(.slice none 0 0),(.slice none 0 0),(.slice none 0 0),(.int .i64 0),(.int .i64 0),(.string .empty),(.string .empty),(.string .empty),(.int .i64 0),(.int .i64 0),(.int .i64 0),(.slice none 0 0),(.slice none 0 0)]) := ⟨⟨_,Tryz.underlying133,rfl⟩,by kernel_rfl,rfl⟩
theorem zc133 : ∀ F w,Q2 (Qaa.cs (QP.mk (Qh.mk (0:Int) ([] : (List Qj)) ([] : (List Qo)) ([] : (List Qn))) (0:Int) (0:Int) (Qc.mk ([] : Str) ([] : Str) ([] : Str) (0:Int) (0:Int) (0:Int) ([] : (List Str)) ([] : (List Int))))) F w ((.agg #[(.int .i64 0),(.slice none 0 0),(.slice none 0 0),(.slice none 0 0),(.int .i64 0),(.int .i64 0),(.string .empty),(.string .empty),(.string .empty),(.int .i64 0),(.int .i64 0),(.int .i64 0),(.slice none 0 0),(.slice none 0 0)]) : Value).cells.toList := fun _ _ => (.cons rfl (.cons ⟨none,0,rfl,Nat.le_refl _,fun h => (h rfl).elim⟩ (.cons ⟨none,0,rfl,Nat.le_refl _,fun h => (h rfl).elim⟩ (.cons ⟨none,0,rfl,Nat.le_refl _,fun h => (h rfl).elim⟩ (.cons rfl (.cons rfl (.cons rfl (.cons rfl (.cons rfl (.cons rfl (.cons rfl (.cons rfl (.cons ⟨none,0,rfl,Nat.le_refl _,fun h => (h rfl).elim⟩ (.cons ⟨none,0,rfl,Nat.le_refl _,fun h => (h rfl).elim⟩ .nil))))))))))))))
theorem zv133 : (Tryz.prog.info? 133).bind (·.zero) = some (.agg #[(.int .i64 0),(.slice none 0 0),(.slice none 0 0),(.slice none 0 0),(.int .i64 0),(.int .i64 0),(.string .empty),(.string .empty),(.string .empty),(.int .i64 0),(.int .i64 0),(.int .i64 0),(.slice none 0 0),(.slice none 0 0)]) := by kernel_rfl
theorem pl133 : ∀ w, ((#[⟨"x", 27, 0, false, "", "diorama/typing", 0⟩, ⟨"kind", 3, 4, false, "", "diorama/typing", 80⟩, ⟨"field", 3, 5, false, "", "diorama/typing", 88⟩, ⟨"f", 61, 6, false, "", "diorama/typing", 96⟩] : Array Field).mapM (fun f => do pure (f.offset, ← sizeOf f.type) : Field → Sem (Nat × Nat))).run Tryz.prog w = .ok #[(0, 4), (4, 1), (5, 1), (6, 8)] w := fun _ => by kernel_rfl
@[reducible] def tF128 (p : (QP → Option Int)) : Ty := tfn Tryz.prog [] (A := QP) (B := Int) (fun x => [Qaa.ty x]) (fun y => ti y) (p)
@[reducible] def rF128 : Rep (QP → Option Int) := ⟨fun p => [tF128 p],1,false,fun _ => rfl,fun _ => QA QeU QaA,fun _ => rfl⟩
@[reducible] def QrN : Rep (Option (QP → Option Int)) := ⟨fun p => [tfo (tF128) p],1,false,fun _ => rfl,fun _ => QA (QqL (fun _ => QeU)) QaA,fun _ => rfl⟩
theorem tok128 : TOk Tryz.prog 128 rF128 8 .nilFunc := ⟨⟨_,Tryz.underlying128,rfl⟩,by kernel_rfl,rfl⟩
theorem Qs1 : TOk Tryz.prog 128 QrN 8 .nilFunc := ⟨⟨_,Tryz.underlying128,rfl⟩,by kernel_rfl,rfl⟩
structure Qcb where
  check : (Option (QP → Option Int))
instance : Inhabited Qcb := ⟨⟨none⟩⟩
@[reducible] def Qea : Rep Qcb := ⟨fun x => ([QrN.ty x.check]),1,true,fun _ => rfl,fun _ => (QA (QqL (fun _ => QeU)) QaA),fun h => (by cases h)⟩
theorem QrO : TOk Tryz.prog 129 Qea 8 (.agg #[.nilFunc]) := ⟨⟨_,Tryz.underlying129,rfl⟩,by kernel_rfl,rfl⟩
theorem zc129 : ∀ F w,Q2 (Qea.cs (Qcb.mk none)) F w ((.agg #[.nilFunc]) : Value).cells.toList := fun _ _ => (.cons rfl .nil)
theorem zok129 : ∀ F w,(Qea.ty (Qcb.mk none)).ok F w (.agg #[.nilFunc]) := fun F w => ⟨_,rfl,zc129 F w⟩
theorem zv129 : (Tryz.prog.info? 129).bind (·.zero) = some (.agg #[.nilFunc]) := by kernel_rfl
@[reducible] def tF138 (p : (Qj → Option Bool)) : Ty := tfn Tryz.prog [] (A := Qj) (B := Bool) (fun x => [Qk.ty x]) (fun y => tb y) (p)
@[reducible] def Qig : Rep (Qj → Option Bool) := ⟨fun p => [tF138 p],1,false,fun _ => rfl,fun _ => QA QeU QaA,fun _ => rfl⟩
theorem tok138 : TOk Tryz.prog 138 Qig 8 .nilFunc := ⟨⟨_,Tryz.underlying138,rfl⟩,by kernel_rfl,rfl⟩
@[reducible] def tF163 (p : (Qn → Option Bool)) : Ty := tfn Tryz.prog [] (A := Qn) (B := Bool) (fun x => [Qt.ty x]) (fun y => tb y) (p)
@[reducible] def Qih : Rep (Qn → Option Bool) := ⟨fun p => [tF163 p],1,false,fun _ => rfl,fun _ => QA QeU QaA,fun _ => rfl⟩
theorem tok163 : TOk Tryz.prog 163 Qih 8 .nilFunc := ⟨⟨_,Tryz.underlying163,rfl⟩,by kernel_rfl,rfl⟩
@[reducible] def tF168 (p : (Qc → Option Bool)) : Ty := tfn Tryz.prog [] (A := Qc) (B := Bool) (fun x => [Qb.ty x]) (fun y => tb y) (p)
@[reducible] def Qii : Rep (Qc → Option Bool) := ⟨fun p => [tF168 p],1,false,fun _ => rfl,fun _ => QA QeU QaA,fun _ => rfl⟩
theorem tok168 : TOk Tryz.prog 168 Qii 8 .nilFunc := ⟨⟨_,Tryz.underlying168,rfl⟩,by kernel_rfl,rfl⟩
@[reducible] def tF178 (p : (Str → Option Bool)) : Ty := tfn Tryz.prog [] (A := Str) (B := Bool) (fun x => [tv (.string (sB x))]) (fun y => tb y) (p)
@[reducible] def Qij : Rep (Str → Option Bool) := ⟨fun p => [tF178 p],1,false,fun _ => rfl,fun _ => QA QeU QaA,fun _ => rfl⟩
theorem tok178 : TOk Tryz.prog 178 Qij 8 .nilFunc := ⟨⟨_,Tryz.underlying178,rfl⟩,by kernel_rfl,rfl⟩
@[reducible] def tF183 (p : (QT → Option Bool)) : Ty := tfn Tryz.prog [] (A := QT) (B := Bool) (fun x => [Qam.ty x]) (fun y => tb y) (p)
@[reducible] def Qik : Rep (QT → Option Bool) := ⟨fun p => [tF183 p],1,false,fun _ => rfl,fun _ => QA QeU QaA,fun _ => rfl⟩
theorem tok183 : TOk Tryz.prog 183 Qik 8 .nilFunc := ⟨⟨_,Tryz.underlying183,rfl⟩,by kernel_rfl,rfl⟩
@[reducible] def tF203 (p : (Int → Option Bool)) : Ty := tfn Tryz.prog [] (A := Int) (B := Bool) (fun x => [tv (.int .u8 x)]) (fun y => tb y) (p)
@[reducible] def QnW : Rep (Int → Option Bool) := ⟨fun p => [tF203 p],1,false,fun _ => rfl,fun _ => QA QeU QaA,fun _ => rfl⟩
theorem Qp7 : TOk Tryz.prog 22 rVal 24 (.slice none 0 0) := ⟨⟨_,Tryz.underlying22,rfl⟩,by kernel_rfl,rfl⟩
theorem Qeo : TOk Tryz.prog 23 rVal 24 (.slice none 0 0) := ⟨⟨_,Tryz.underlying23,rfl⟩,by kernel_rfl,rfl⟩
theorem Qil : TOk Tryz.prog 24 rVal 24 (.slice none 0 0) := ⟨⟨_,Tryz.underlying24,rfl⟩,by kernel_rfl,rfl⟩
theorem Qk7 : TOk Tryz.prog 25 rVal 24 (.slice none 0 0) := ⟨⟨_,Tryz.underlying25,rfl⟩,by kernel_rfl,rfl⟩
theorem QnX : TOk Tryz.prog 31 rVal 24 (.slice none 0 0) := ⟨⟨_,Tryz.underlying31,rfl⟩,by kernel_rfl,rfl⟩
theorem QnY : TOk Tryz.prog 32 rVal 24 (.slice none 0 0) := ⟨⟨_,Tryz.underlying32,rfl⟩,by kernel_rfl,rfl⟩
theorem Qep : TOk Tryz.prog 53 rVal 24 (.slice none 0 0) := ⟨⟨_,Tryz.underlying53,rfl⟩,by kernel_rfl,rfl⟩
theorem QnZ : TOk Tryz.prog 68 rVal 24 (.slice none 0 0) := ⟨⟨_,Tryz.underlying68,rfl⟩,by kernel_rfl,rfl⟩
theorem Qk8 : TOk Tryz.prog 79 rVal 24 (.slice none 0 0) := ⟨⟨_,Tryz.underlying79,rfl⟩,by kernel_rfl,rfl⟩
theorem QqN : TOk Tryz.prog 101 rVal 24 (.slice none 0 0) := ⟨⟨_,Tryz.underlying101,rfl⟩,by kernel_rfl,rfl⟩
theorem Qkb : QN Tryz.prog 27 0 0 := QN.mk Tryz.underlying27 rfl rfl tok3 (by decide)
theorem Q9 : QN Tryz.prog 27 1 1 := QN.mk Tryz.underlying27 rfl rfl QaF (by decide)
theorem Qbc : QN Tryz.prog 27 2 2 := QN.mk Tryz.underlying27 rfl rfl QeH (by decide)
theorem QbH : QN Tryz.prog 27 3 3 := QN.mk Tryz.underlying27 rfl rfl Qfp (by decide)
theorem Qgu : QN Tryz.prog 43 0 0 := QN.mk Tryz.underlying43 rfl rfl tok3 (by decide)
theorem QeV : QN Tryz.prog 43 1 1 := QN.mk Tryz.underlying43 rfl rfl tok3 (by decide)
theorem Qgv : QN Tryz.prog 43 2 2 := QN.mk Tryz.underlying43 rfl rfl tok3 (by decide)
theorem Qk9 : QN Tryz.prog 43 3 3 := QN.mk Tryz.underlying43 rfl rfl tok4 (by decide)
theorem Qbo : QN Tryz.prog 55 0 0 := QN.mk Tryz.underlying55 rfl rfl tok9 (by decide)
theorem QhZ : QN Tryz.prog 55 1 1 := QN.mk Tryz.underlying55 rfl rfl tok3 (by decide)
theorem Qh0 : QN Tryz.prog 55 2 2 := QN.mk Tryz.underlying55 rfl rfl tok3 (by decide)
theorem Qaf : QN Tryz.prog 55 3 3 := QN.mk Tryz.underlying55 rfl rfl QaK (by decide)
theorem Qbd : QN Tryz.prog 61 0 0 := QN.mk Tryz.underlying61 rfl rfl tok9 (by decide)
theorem Qas : QN Tryz.prog 61 1 1 := QN.mk Tryz.underlying61 rfl rfl tok9 (by decide)
theorem Qda : QN Tryz.prog 61 2 2 := QN.mk Tryz.underlying61 rfl rfl tok9 (by decide)
theorem Qao : QN Tryz.prog 61 3 3 := QN.mk Tryz.underlying61 rfl rfl tok3 (by decide)
theorem QaE : QN Tryz.prog 61 4 4 := QN.mk Tryz.underlying61 rfl rfl tok3 (by decide)
theorem QaV : QN Tryz.prog 61 5 5 := QN.mk Tryz.underlying61 rfl rfl tok3 (by decide)
theorem QcM : QN Tryz.prog 61 6 6 := QN.mk Tryz.underlying61 rfl rfl Qbx (by decide)
theorem Qcl : QN Tryz.prog 61 7 7 := QN.mk Tryz.underlying61 rfl rfl Qdc (by decide)
theorem QtO : QN Tryz.prog 76 0 0 := QN.mk Tryz.underlying76 rfl rfl Qdc (by decide)
theorem QoB : QN Tryz.prog 76 1 1 := QN.mk Tryz.underlying76 rfl rfl tok3 (by decide)
theorem Qgw : QN Tryz.prog 81 0 0 := QN.mk Tryz.underlying81 rfl rfl tok9 (by decide)
theorem Qed : QN Tryz.prog 81 1 1 := QN.mk Tryz.underlying81 rfl rfl Qbx (by decide)
theorem Qcm : QN Tryz.prog 81 2 2 := QN.mk Tryz.underlying81 rfl rfl Qhc (by decide)
theorem Qh1 : QN Tryz.prog 84 0 0 := QN.mk Tryz.underlying84 rfl rfl tok9 (by decide)
theorem Qkc : QN Tryz.prog 84 1 1 := QN.mk Tryz.underlying84 rfl rfl tok9 (by decide)
theorem QeW : QN Tryz.prog 84 2 2 := QN.mk Tryz.underlying84 rfl rfl tok9 (by decide)
theorem QeX : QN Tryz.prog 84 3 3 := QN.mk Tryz.underlying84 rfl rfl tok9 (by decide)
theorem QmU : QN Tryz.prog 84 4 4 := QN.mk Tryz.underlying84 rfl rfl tok3 (by decide)
theorem QtP : QN Tryz.prog 94 3 3 := QN.mk Tryz.underlying94 rfl rfl QmT (by decide)
theorem Qs2 : QN Tryz.prog 105 0 0 := QN.mk Tryz.underlying105 rfl rfl tok31 (by decide)
theorem Qnh : QN Tryz.prog 105 1 1 := QN.mk Tryz.underlying105 rfl rfl Qdc (by decide)
theorem Qni : QN Tryz.prog 105 2 2 := QN.mk Tryz.underlying105 rfl rfl QrM (by decide)
theorem QiS : QN Tryz.prog 105 3 3 := QN.mk Tryz.underlying105 rfl rfl Qie (by decide)
theorem QlC : QN Tryz.prog 105 4 9 := QN.mk Tryz.underlying105 rfl rfl Qie (by decide)
theorem QiT : QN Tryz.prog 105 5 15 := QN.mk Tryz.underlying105 rfl rfl tok3 (by decide)
theorem Qs3 : QN Tryz.prog 119 3 3 := QN.mk Tryz.underlying119 rfl rfl QmT (by decide)
theorem Qs4 : QN Tryz.prog 125 0 0 := QN.mk Tryz.underlying125 rfl rfl tok4 (by decide)
theorem Qs5 : QN Tryz.prog 125 1 1 := QN.mk Tryz.underlying125 rfl rfl QmT (by decide)
theorem Qs6 : QN Tryz.prog 129 0 0 := QN.mk Tryz.underlying129 rfl rfl tok128 (by decide)
theorem QfS : QN Tryz.prog 133 0 0 := QN.mk Tryz.underlying133 rfl rfl Qar (by decide)
theorem QiU : QN Tryz.prog 133 1 4 := QN.mk Tryz.underlying133 rfl rfl tok3 (by decide)
theorem QlD : QN Tryz.prog 133 2 5 := QN.mk Tryz.underlying133 rfl rfl tok3 (by decide)
theorem Qkl : QN Tryz.prog 133 3 6 := QN.mk Tryz.underlying133 rfl rfl QI (by decide)
theorem call10 : Qp Tryz.prog 10 := ⟨⟨_,Tryz.func10,by kernel_rfl,rfl⟩⟩
theorem call11 : Qp Tryz.prog 11 := ⟨⟨_,Tryz.func11,by kernel_rfl,rfl⟩⟩
theorem Qp8 : Qp Tryz.prog 12 := ⟨⟨_,Tryz.func12,by kernel_rfl,rfl⟩⟩
theorem call13 : Qp Tryz.prog 13 := ⟨⟨_,Tryz.func13,by kernel_rfl,rfl⟩⟩
theorem call14 : Qp Tryz.prog 14 := ⟨⟨_,Tryz.func14,by kernel_rfl,rfl⟩⟩
theorem call15 : Qp Tryz.prog 15 := ⟨⟨_,Tryz.func15,by kernel_rfl,rfl⟩⟩
theorem call16 : Qp Tryz.prog 16 := ⟨⟨_,Tryz.func16,by kernel_rfl,rfl⟩⟩
theorem QbK : Qp Tryz.prog 17 := ⟨⟨_,Tryz.func17,by kernel_rfl,rfl⟩⟩
theorem QrP : Qp Tryz.prog 21 := ⟨⟨_,Tryz.func21,by kernel_rfl,rfl⟩⟩
theorem Qp9 : Qp Tryz.prog 23 := ⟨⟨_,Tryz.func23,by kernel_rfl,rfl⟩⟩
theorem Qqa : Qp Tryz.prog 25 := ⟨⟨_,Tryz.func25,by kernel_rfl,rfl⟩⟩
theorem Qn0 : Qp Tryz.prog 26 := ⟨⟨_,Tryz.func26,by kernel_rfl,rfl⟩⟩
theorem call27 : Qp Tryz.prog 27 := ⟨⟨_,Tryz.func27,by kernel_rfl,rfl⟩⟩
theorem call30 : Qp Tryz.prog 30 := ⟨⟨_,Tryz.func30,by kernel_rfl,rfl⟩⟩
theorem QaH : Qp Tryz.prog 32 := ⟨⟨_,Tryz.func32,by kernel_rfl,rfl⟩⟩
theorem call33 : Qp Tryz.prog 33 := ⟨⟨_,Tryz.func33,by kernel_rfl,rfl⟩⟩
theorem call34 : Qp Tryz.prog 34 := ⟨⟨_,Tryz.func34,by kernel_rfl,rfl⟩⟩
theorem call35 : Qp Tryz.prog 35 := ⟨⟨_,Tryz.func35,by kernel_rfl,rfl⟩⟩
theorem call36 : Qp Tryz.prog 36 := ⟨⟨_,Tryz.func36,by kernel_rfl,rfl⟩⟩
theorem QrQ : Qp Tryz.prog 37 := ⟨⟨_,Tryz.func37,by kernel_rfl,rfl⟩⟩
theorem Qla : Qp Tryz.prog 38 := ⟨⟨_,Tryz.func38,by kernel_rfl,rfl⟩⟩
theorem call39 : Qp Tryz.prog 39 := ⟨⟨_,Tryz.func39,by kernel_rfl,rfl⟩⟩
theorem Qlb : Qp Tryz.prog 40 := ⟨⟨_,Tryz.func40,by kernel_rfl,rfl⟩⟩
theorem call41 : Qp Tryz.prog 41 := ⟨⟨_,Tryz.func41,by kernel_rfl,rfl⟩⟩
theorem QrR : Qp Tryz.prog 42 := ⟨⟨_,Tryz.func42,by kernel_rfl,rfl⟩⟩
theorem QrS : Qp Tryz.prog 43 := ⟨⟨_,Tryz.func43,by kernel_rfl,rfl⟩⟩
theorem call44 : Qp Tryz.prog 44 := ⟨⟨_,Tryz.func44,by kernel_rfl,rfl⟩⟩
theorem QrT : Qp Tryz.prog 45 := ⟨⟨_,Tryz.func45,by kernel_rfl,rfl⟩⟩
theorem QrU : Qp Tryz.prog 46 := ⟨⟨_,Tryz.func46,by kernel_rfl,rfl⟩⟩
theorem call49 : Qp Tryz.prog 49 := ⟨⟨_,Tryz.func49,by kernel_rfl,rfl⟩⟩
theorem QrV : Qp Tryz.prog 50 := ⟨⟨_,Tryz.func50,by kernel_rfl,rfl⟩⟩
theorem call51 : Qp Tryz.prog 51 := ⟨⟨_,Tryz.func51,by kernel_rfl,rfl⟩⟩
theorem QrW : Qp Tryz.prog 55 := ⟨⟨_,Tryz.func55,by kernel_rfl,rfl⟩⟩
theorem call56 : Qp Tryz.prog 56 := ⟨⟨_,Tryz.func56,by kernel_rfl,rfl⟩⟩
theorem Qqb : Qp Tryz.prog 57 := ⟨⟨_,Tryz.func57,by kernel_rfl,rfl⟩⟩
theorem QrX : Qp Tryz.prog 58 := ⟨⟨_,Tryz.func58,by kernel_rfl,rfl⟩⟩
theorem QrY : Qp Tryz.prog 59 := ⟨⟨_,Tryz.func59,by kernel_rfl,rfl⟩⟩
theorem call62 : Qp Tryz.prog 62 := ⟨⟨_,Tryz.func62,by kernel_rfl,rfl⟩⟩
theorem Qn1 : Qp Tryz.prog 63 := ⟨⟨_,Tryz.func63,by kernel_rfl,rfl⟩⟩
theorem Qqc : Qp Tryz.prog 64 := ⟨⟨_,Tryz.func64,by kernel_rfl,rfl⟩⟩
theorem call65 : Qp Tryz.prog 65 := ⟨⟨_,Tryz.func65,by kernel_rfl,rfl⟩⟩
theorem QgN : Qp Tryz.prog 66 := ⟨⟨_,Tryz.func66,by kernel_rfl,rfl⟩⟩
theorem call67 : Qp Tryz.prog 67 := ⟨⟨_,Tryz.func67,by kernel_rfl,rfl⟩⟩
theorem Qml : Qp Tryz.prog 68 := ⟨⟨_,Tryz.func68,by kernel_rfl,rfl⟩⟩
theorem call69 : Qp Tryz.prog 69 := ⟨⟨_,Tryz.func69,by kernel_rfl,rfl⟩⟩
theorem call70 : Qp Tryz.prog 70 := ⟨⟨_,Tryz.func70,by kernel_rfl,rfl⟩⟩
theorem Qn2 : Qp Tryz.prog 71 := ⟨⟨_,Tryz.func71,by kernel_rfl,rfl⟩⟩
theorem QrZ : Qp Tryz.prog 72 := ⟨⟨_,Tryz.func72,by kernel_rfl,rfl⟩⟩
theorem Qr0 : Qp Tryz.prog 73 := ⟨⟨_,Tryz.func73,by kernel_rfl,rfl⟩⟩
theorem call74 : Qp Tryz.prog 74 := ⟨⟨_,Tryz.func74,by kernel_rfl,rfl⟩⟩
theorem call75 : Qp Tryz.prog 75 := ⟨⟨_,Tryz.func75,by kernel_rfl,rfl⟩⟩
theorem Qkm : Qp Tryz.prog 76 := ⟨⟨_,Tryz.func76,by kernel_rfl,rfl⟩⟩
theorem call77 : Qp Tryz.prog 77 := ⟨⟨_,Tryz.func77,by kernel_rfl,rfl⟩⟩
theorem Qmm : Qp Tryz.prog 78 := ⟨⟨_,Tryz.func78,by kernel_rfl,rfl⟩⟩
theorem call79 : Qp Tryz.prog 79 := ⟨⟨_,Tryz.func79,by kernel_rfl,rfl⟩⟩
theorem call80 : Qp Tryz.prog 80 := ⟨⟨_,Tryz.func80,by kernel_rfl,rfl⟩⟩
theorem call81 : Qp Tryz.prog 81 := ⟨⟨_,Tryz.func81,by kernel_rfl,rfl⟩⟩
theorem Qqd : Qp Tryz.prog 82 := ⟨⟨_,Tryz.func82,by kernel_rfl,rfl⟩⟩
theorem call83 : Qp Tryz.prog 83 := ⟨⟨_,Tryz.func83,by kernel_rfl,rfl⟩⟩
theorem call84 : Qp Tryz.prog 84 := ⟨⟨_,Tryz.func84,by kernel_rfl,rfl⟩⟩
theorem call85 : Qp Tryz.prog 85 := ⟨⟨_,Tryz.func85,by kernel_rfl,rfl⟩⟩
theorem call88 : Qp Tryz.prog 88 := ⟨⟨_,Tryz.func88,by kernel_rfl,rfl⟩⟩
theorem call89 : Qp Tryz.prog 89 := ⟨⟨_,Tryz.func89,by kernel_rfl,rfl⟩⟩
theorem call90 : Qp Tryz.prog 90 := ⟨⟨_,Tryz.func90,by kernel_rfl,rfl⟩⟩
theorem Qr1 : Qp Tryz.prog 91 := ⟨⟨_,Tryz.func91,by kernel_rfl,rfl⟩⟩
theorem call93 : Qp Tryz.prog 93 := ⟨⟨_,Tryz.func93,by kernel_rfl,rfl⟩⟩
theorem Qim : Qp Tryz.prog 97 := ⟨⟨_,Tryz.func97,by kernel_rfl,rfl⟩⟩
theorem call98 : Qp Tryz.prog 98 := ⟨⟨_,Tryz.func98,by kernel_rfl,rfl⟩⟩
theorem call99 : Qp Tryz.prog 99 := ⟨⟨_,Tryz.func99,by kernel_rfl,rfl⟩⟩
theorem QtQ : Qp Tryz.prog 100 := ⟨⟨_,Tryz.func100,by kernel_rfl,rfl⟩⟩
theorem QtR : Qp Tryz.prog 101 := ⟨⟨_,Tryz.func101,by kernel_rfl,rfl⟩⟩
theorem QtS : Qp Tryz.prog 102 := ⟨⟨_,Tryz.func102,by kernel_rfl,rfl⟩⟩
theorem QtT : Qp Tryz.prog 103 := ⟨⟨_,Tryz.func103,by kernel_rfl,rfl⟩⟩
theorem QtU : Qp Tryz.prog 104 := ⟨⟨_,Tryz.func104,by kernel_rfl,rfl⟩⟩
theorem QtV : Qp Tryz.prog 105 := ⟨⟨_,Tryz.func105,by kernel_rfl,rfl⟩⟩
theorem QqO : Qp Tryz.prog 106 := ⟨⟨_,Tryz.func106,by kernel_rfl,rfl⟩⟩
theorem QtW : Qp Tryz.prog 107 := ⟨⟨_,Tryz.func107,by kernel_rfl,rfl⟩⟩
theorem QqP : Qp Tryz.prog 108 := ⟨⟨_,Tryz.func108,by kernel_rfl,rfl⟩⟩
theorem QtX : Qp Tryz.prog 109 := ⟨⟨_,Tryz.func109,by kernel_rfl,rfl⟩⟩
theorem Qlc : Qp Tryz.prog 110 := ⟨⟨_,Tryz.func110,by kernel_rfl,rfl⟩⟩
theorem Qh2 : Qp Tryz.prog 111 := ⟨⟨_,Tryz.func111,by kernel_rfl,rfl⟩⟩
theorem QtY : Qp Tryz.prog 112 := ⟨⟨_,Tryz.func112,by kernel_rfl,rfl⟩⟩
theorem QtZ : Qp Tryz.prog 113 := ⟨⟨_,Tryz.func113,by kernel_rfl,rfl⟩⟩
theorem Qt0 : Qp Tryz.prog 114 := ⟨⟨_,Tryz.func114,by kernel_rfl,rfl⟩⟩
theorem Qt1 : Qp Tryz.prog 115 := ⟨⟨_,Tryz.func115,by kernel_rfl,rfl⟩⟩
theorem QoC : Qp Tryz.prog 116 := ⟨⟨_,Tryz.func116,by kernel_rfl,rfl⟩⟩
theorem Qt2 : Qp Tryz.prog 117 := ⟨⟨_,Tryz.func117,by kernel_rfl,rfl⟩⟩
theorem Qt3 : Qp Tryz.prog 118 := ⟨⟨_,Tryz.func118,by kernel_rfl,rfl⟩⟩
theorem Qt4 : Qp Tryz.prog 119 := ⟨⟨_,Tryz.func119,by kernel_rfl,rfl⟩⟩
theorem Qt5 : Qp Tryz.prog 120 := ⟨⟨_,Tryz.func120,by kernel_rfl,rfl⟩⟩
theorem Qt6 : Qp Tryz.prog 121 := ⟨⟨_,Tryz.func121,by kernel_rfl,rfl⟩⟩
theorem Qt7 : Qp Tryz.prog 123 := ⟨⟨_,Tryz.func123,by kernel_rfl,rfl⟩⟩
theorem Qt8 : Qp Tryz.prog 124 := ⟨⟨_,Tryz.func124,by kernel_rfl,rfl⟩⟩
theorem QcN : Qp Tryz.prog 125 := ⟨⟨_,Tryz.func125,by kernel_rfl,rfl⟩⟩
theorem Qkd : Qp Tryz.prog 126 := ⟨⟨_,Tryz.func126,by kernel_rfl,rfl⟩⟩
theorem Qt9 : Qp Tryz.prog 127 := ⟨⟨_,Tryz.func127,by kernel_rfl,rfl⟩⟩
theorem Qua : Qp Tryz.prog 128 := ⟨⟨_,Tryz.func128,by kernel_rfl,rfl⟩⟩
theorem Qub : Qp Tryz.prog 129 := ⟨⟨_,Tryz.func129,by kernel_rfl,rfl⟩⟩
theorem QqQ : Qp Tryz.prog 130 := ⟨⟨_,Tryz.func130,by kernel_rfl,rfl⟩⟩
theorem Quc : Qp Tryz.prog 131 := ⟨⟨_,Tryz.func131,by kernel_rfl,rfl⟩⟩
theorem Qud : Qp Tryz.prog 132 := ⟨⟨_,Tryz.func132,by kernel_rfl,rfl⟩⟩
theorem Que : Qp Tryz.prog 133 := ⟨⟨_,Tryz.func133,by kernel_rfl,rfl⟩⟩
theorem QeY : Qp Tryz.prog 135 := ⟨⟨_,Tryz.func135,by kernel_rfl,rfl⟩⟩
theorem Quf : Qp Tryz.prog 136 := ⟨⟨_,Tryz.func136,by kernel_rfl,rfl⟩⟩
theorem QoD : Qp Tryz.prog 137 := ⟨⟨_,Tryz.func137,by kernel_rfl,rfl⟩⟩
theorem Qug : Qp Tryz.prog 139 := ⟨⟨_,Tryz.func139,by kernel_rfl,rfl⟩⟩
theorem Qgx : Qp Tryz.prog 140 := ⟨⟨_,Tryz.func140,by kernel_rfl,rfl⟩⟩
theorem Qke : Qp Tryz.prog 141 := ⟨⟨_,Tryz.func141,by kernel_rfl,rfl⟩⟩
theorem Quh : Qp Tryz.prog 142 := ⟨⟨_,Tryz.func142,by kernel_rfl,rfl⟩⟩
theorem QqR : Qp Tryz.prog 143 := ⟨⟨_,Tryz.func143,by kernel_rfl,rfl⟩⟩
theorem Qft : Qp Tryz.prog 144 := ⟨⟨_,Tryz.func144,by kernel_rfl,rfl⟩⟩
theorem Qui : Qp Tryz.prog 145 := ⟨⟨_,Tryz.func145,by kernel_rfl,rfl⟩⟩
theorem QoE : Qp Tryz.prog 146 := ⟨⟨_,Tryz.func146,by kernel_rfl,rfl⟩⟩
theorem Quj : Qp Tryz.prog 147 := ⟨⟨_,Tryz.func147,by kernel_rfl,rfl⟩⟩
theorem Quk : Qp Tryz.prog 148 := ⟨⟨_,Tryz.func148,by kernel_rfl,rfl⟩⟩
theorem QqS : Qp Tryz.prog 149 := ⟨⟨_,Tryz.func149,by kernel_rfl,rfl⟩⟩
theorem QqT : Qp Tryz.prog 150 := ⟨⟨_,Tryz.func150,by kernel_rfl,rfl⟩⟩
theorem Qul : Qp Tryz.prog 151 := ⟨⟨_,Tryz.func151,by kernel_rfl,rfl⟩⟩
theorem Qum : Qp Tryz.prog 152 := ⟨⟨_,Tryz.func152,by kernel_rfl,rfl⟩⟩
theorem Qun : Qp Tryz.prog 153 := ⟨⟨_,Tryz.func153,by kernel_rfl,rfl⟩⟩
theorem Quo : Qp Tryz.prog 154 := ⟨⟨_,Tryz.func154,by kernel_rfl,rfl⟩⟩
theorem Qup : Qp Tryz.prog 155 := ⟨⟨_,Tryz.func155,by kernel_rfl,rfl⟩⟩
theorem Quq : Qp Tryz.prog 156 := ⟨⟨_,Tryz.func156,by kernel_rfl,rfl⟩⟩
theorem Qur : Qp Tryz.prog 157 := ⟨⟨_,Tryz.func157,by kernel_rfl,rfl⟩⟩
theorem Qus : Qp Tryz.prog 158 := ⟨⟨_,Tryz.func158,by kernel_rfl,rfl⟩⟩
theorem Qut : Qp Tryz.prog 159 := ⟨⟨_,Tryz.func159,by kernel_rfl,rfl⟩⟩
theorem Quu : Qp Tryz.prog 160 := ⟨⟨_,Tryz.func160,by kernel_rfl,rfl⟩⟩
theorem Quv : Qp Tryz.prog 161 := ⟨⟨_,Tryz.func161,by kernel_rfl,rfl⟩⟩
theorem Quw : Qp Tryz.prog 162 := ⟨⟨_,Tryz.func162,by kernel_rfl,rfl⟩⟩
theorem Qux : Qp Tryz.prog 166 := ⟨⟨_,Tryz.func166,by kernel_rfl,rfl⟩⟩
theorem QqU : Qp Tryz.prog 167 := ⟨⟨_,Tryz.func167,by kernel_rfl,rfl⟩⟩
theorem Quy : Qp Tryz.prog 168 := ⟨⟨_,Tryz.func168,by kernel_rfl,rfl⟩⟩
theorem QqV : Qp Tryz.prog 169 := ⟨⟨_,Tryz.func169,by kernel_rfl,rfl⟩⟩
theorem Quz : Qp Tryz.prog 170 := ⟨⟨_,Tryz.func170,by kernel_rfl,rfl⟩⟩
theorem QoF : Qp Tryz.prog 171 := ⟨⟨_,Tryz.func171,by kernel_rfl,rfl⟩⟩
theorem QuA : Qp Tryz.prog 172 := ⟨⟨_,Tryz.func172,by kernel_rfl,rfl⟩⟩
theorem QuB : Qp Tryz.prog 173 := ⟨⟨_,Tryz.func173,by kernel_rfl,rfl⟩⟩
theorem QuC : Qp Tryz.prog 174 := ⟨⟨_,Tryz.func174,by kernel_rfl,rfl⟩⟩
theorem QuD : Qp Tryz.prog 175 := ⟨⟨_,Tryz.func175,by kernel_rfl,rfl⟩⟩
theorem QuE : Qp Tryz.prog 176 := ⟨⟨_,Tryz.func176,by kernel_rfl,rfl⟩⟩
theorem QuF : Qp Tryz.prog 177 := ⟨⟨_,Tryz.func177,by kernel_rfl,rfl⟩⟩
theorem QoG : Qp Tryz.prog 204 := ⟨⟨_,Tryz.func204,by kernel_rfl,rfl⟩⟩
theorem QuG : Qp Tryz.prog 207 := ⟨⟨_,Tryz.func207,by kernel_rfl,rfl⟩⟩
theorem QuH : Qp Tryz.prog 208 := ⟨⟨_,Tryz.func208,by kernel_rfl,rfl⟩⟩
theorem QuI : Qp Tryz.prog 209 := ⟨⟨_,Tryz.func209,by kernel_rfl,rfl⟩⟩
theorem QuJ : Qp Tryz.prog 210 := ⟨⟨_,Tryz.func210,by kernel_rfl,rfl⟩⟩
theorem QuK : Qp Tryz.prog 211 := ⟨⟨_,Tryz.func211,by kernel_rfl,rfl⟩⟩
theorem QuL : Qp Tryz.prog 212 := ⟨⟨_,Tryz.func212,by kernel_rfl,rfl⟩⟩
theorem QuM : Qp Tryz.prog 213 := ⟨⟨_,Tryz.func213,by kernel_rfl,rfl⟩⟩
theorem QuN : Qp Tryz.prog 214 := ⟨⟨_,Tryz.func214,by kernel_rfl,rfl⟩⟩
theorem QqW : Qp Tryz.prog 215 := ⟨⟨_,Tryz.func215,by kernel_rfl,rfl⟩⟩
theorem QuO : Qp Tryz.prog 216 := ⟨⟨_,Tryz.func216,by kernel_rfl,rfl⟩⟩
theorem QmV : Qp Tryz.prog 217 := ⟨⟨_,Tryz.func217,by kernel_rfl,rfl⟩⟩
theorem QbO : TOk Tryz.prog 100 rVal 8 (.pointer none) := ⟨⟨_,Tryz.underlying100,rfl⟩,by kernel_rfl,rfl⟩
abbrev zz0 : Qc := (Qc.mk ([] : Str) ([] : Str) ([] : Str) (0:Int) (0:Int) (0:Int) ([] : (List Str)) ([] : (List Int)))
abbrev zz1 : Qj := (Qj.mk ([] : Str) (0:Int) (0:Int) ([] : (List Qc)))
abbrev zz2 : Qo := (Qo.mk ([] : Str) ([] : (List Str)) ([] : (List QT)))
abbrev zz3 : Qn := (Qn.mk ([] : Str) ([] : Str) ([] : Str) ([] : Str) (0:Int))
abbrev zz4 : Qh := (Qh.mk (0:Int) ([] : (List Qj)) ([] : (List Qo)) ([] : (List Qn)))
abbrev zz5 : Qi := (Qi.mk (0:Int) (0:Int) (0:Int) false)
abbrev zz6 : QC := (QC.mk (0:Int) (0:Int) (0:Int) (0:Int) (0:Int) (0:Int))
abbrev QpF := Tryz.underlying101
abbrev Qin := Tryz.underlying103
abbrev QeK := Tryz.underlying125
abbrev Qhe := Tryz.underlying166
abbrev QlE := Tryz.underlying185
abbrev QeL := Tryz.underlying194
abbrev ud22 := Tryz.underlying22
abbrev ud23 := Tryz.underlying23
abbrev ud24 := Tryz.underlying24
abbrev ud25 := Tryz.underlying25
abbrev ud3 := Tryz.underlying3
abbrev ud31 := Tryz.underlying31
abbrev ud32 := Tryz.underlying32
abbrev ud36 := Tryz.underlying36
abbrev ud41 := Tryz.underlying41
abbrev ud5 := Tryz.underlying5
abbrev ud53 := Tryz.underlying53
abbrev ud61 := Tryz.underlying61
abbrev ud68 := Tryz.underlying68
abbrev ud79 := Tryz.underlying79
abbrev ud82 := Tryz.underlying82
abbrev ud84 := Tryz.underlying84
abbrev ud9 := Tryz.underlying9
abbrev ud91 := Tryz.underlying91

end Go.Proofs.YtcdccjagknlmpaaGreatDoor

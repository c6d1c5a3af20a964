/- Closed facts on the types and functions of the translation, written by a program. No condition. -/
import Derived.Test.YtcdccjagknlmpaaGreatDoorSimQ
import Derived.Test.YtcdccjagknlmpaaGreatDoorRows
namespace Go.Proofs.YtcdccjagknlmpaaGreatDoor
open Go.Sim

theorem mixed : Tryz.prog.follows .mixedOrders = true := by kernel_rfl
theorem mx : Tryz.prog.follows .mixedOrders = true := mixed
def Qie : List (Value × Value) := [(.int .i64 0,.agg #[.func (.func 207) #[] #[]]),(.int .i64 1,.agg #[.func (.func 208) #[] #[]]),(.int .i64 4,.agg #[.func (.func 209) #[] #[]]),(.int .i64 5,.agg #[.func (.func 210) #[] #[]]),(.int .i64 6,.agg #[.func (.func 212) #[] #[]]),(.int .i64 7,.agg #[.func (.func 214) #[] #[]]),(.int .i64 8,.agg #[.func (.func 216) #[] #[]])]
def Qrq : Ty := QlQ Qie
def QqJ : List Ty := [Qrq]
theorem tokM0 : TOk Tryz.prog 131 (rMapC Qie) 8 (.map none) := ⟨⟨_,Tryz.underlying131,rfl⟩,(by kernel_rfl : (Tryz.prog.info? 131).map (fun i => (i.zero,i.size,i.bytes)) = some (some (.map none),1,8)),rfl⟩
def QqK : List Int := [0,1,28,2,29,14,24,3,30,22,20,15,25,17,4,8,31,27,13,23,21,19,16,7,26,12,18,6,11,5,10,9]
def tglo1 : List Ty := QqK.flatMap (rInt .u8).cs
def Qm5 : List Int := [0,1,56,2,57,49,28,3,61,58,42,50,38,29,17,4,62,47,59,36,45,43,51,22,53,39,33,30,24,18,12,5,63,55,48,27,60,41,37,16,46,35,44,21,52,32,23,11,54,26,40,15,34,20,31,10,25,14,19,9,13,8,7,6]
def QqL : List Ty := Qm5.flatMap (rInt .u8).cs
def Qja : List Str := [[107,101,121],[114,101,102],[110,117,109],[112,105,99,107],[100,97,121],[115,116,101,112],[115,117,109],[115,104,97,114,101],[99,111,112,121]]
def QqM : List Ty := Qja.flatMap rS.cs
def Qpi : List Int := [1,10,100,1000,10000,100000,1000000,10000000,100000000,1000000000,10000000000,100000000000,1000000000000,10000000000000,100000000000000,1000000000000000,10000000000000000,100000000000000000,1000000000000000000,10000000000000000000]
def QqN : List Ty := Qpi.flatMap (rInt .u64).cs
abbrev bld := bldE 187 5
/-- What the package variables hold. -/
def glo : Atom := gloA [(0,QqJ),(1,tglo1),(2,QqL),(3,QqM),(4,QqN)]
theorem Qpj : ∀ k,¬ glo.fp k := fun _ h => h
theorem _root_.Go.Sim.OpJ.glo {P : Program} {o : Oper} {Γ : List (Nat × Ty)} {U E : List Atom} {N : Value → List Atom} {T : Value → Ty} (h : OpJ P o Γ U (glo :: E) N T) : OpJ P o Γ (glo :: U) E N T := OpJ.gloG Qpj h
theorem QtN : Qkv glo 0 QqJ := QlP (by simp)
theorem QsP : QjY glo 0 QqJ := QtN.has
theorem QtO : Qkv glo 2 QqL := QlP (by simp)
theorem QsQ : QjY glo 2 QqL := QtO.has
theorem QtP : Qkv glo 3 QqM := QlP (by simp)
theorem QsR : QjY glo 3 QqM := QtP.has
theorem QtQ : Qkv glo 4 QqN := QlP (by simp)
theorem tok3 : TOk Tryz.prog 3 rI 8 (.int .i64 0) := ⟨⟨_,Tryz.underlying3,rfl⟩,by kernel_rfl,rfl⟩
theorem zok3 : ∀ F w,(rI.ty (0:Int)).ok F w (.int .i64 0) := fun _ _ => rfl
theorem tok4 : TOk Tryz.prog 4 QaY 1 (.bool false) := ⟨⟨_,Tryz.underlying4,rfl⟩,by kernel_rfl,rfl⟩
theorem zok4 : ∀ F w,(QaY.ty false).ok F w (.bool false) := fun _ _ => rfl
theorem tok5 : TOk Tryz.prog 5 (rInt .u8) 1 (.int .u8 0) := ⟨⟨_,Tryz.underlying5,rfl⟩,by kernel_rfl,rfl⟩
theorem tok9 : TOk Tryz.prog 9 rS 16 (.string .empty) := ⟨⟨_,Tryz.underlying9,rfl⟩,by kernel_rfl,rfl⟩
theorem Qd6 : TOk Tryz.prog 20 (rAny 3 9) 16 .nilIface := ⟨⟨_,Tryz.underlying20,rfl⟩,by kernel_rfl,rfl⟩
theorem Qf8 : TOk Tryz.prog 22 (rSl rI) 24 (.slice none 0 0) := ⟨⟨_,Tryz.underlying22,rfl⟩,by kernel_rfl,rfl⟩
theorem Qf9 : TOk Tryz.prog 32 (rSl rS) 24 (.slice none 0 0) := ⟨⟨_,Tryz.underlying32,rfl⟩,by kernel_rfl,rfl⟩
structure Qb where
  Name : Str
  Of : Str
  Up : Str
  Kind : Int
  Lo : Int
  Hi : Int
  Words : (List Str)
  Weights : (List Int)
deriving Inhabited
@[reducible] def Qc : Rep Qb := ⟨fun x => ([tv (.string (sB x.Name)),tv (.string (sB x.Of)),tv (.string (sB x.Up)),ti x.Kind,ti x.Lo,ti x.Hi,tsl rS x.Words,tsl rI x.Weights]),8,true,fun _ => rfl,fun _ => (Qy (Q2 rfl) (Qy (Q2 rfl) (Qy (Q2 rfl) (Qy (Q2 rfl) (Qy (Q2 rfl) (Qy (Q2 rfl) (Qy Qb5 (Qy Qb5 Qah)))))))),fun h => (by cases h)⟩
theorem QR : TOk Tryz.prog 61 Qc 120 (.agg #[(.string .empty),(.string .empty),(.string .empty),(.int .i64 0),(.int .i64 0),(.int .i64 0),(.slice none 0 0),(.slice none 0 0)]) := ⟨⟨_,Tryz.underlying61,rfl⟩,by kernel_rfl,rfl⟩
theorem zc61 : ∀ F w,QO (Qc.cs (Qb.mk ([] : Str) ([] : Str) ([] : Str) (0:Int) (0:Int) (0:Int) ([] : (List Str)) ([] : (List Int)))) F w ((.agg #[(.string .empty),(.string .empty),(.string .empty),(.int .i64 0),(.int .i64 0),(.int .i64 0),(.slice none 0 0),(.slice none 0 0)]) : Value).cells.toList := fun _ _ => (.cons rfl (.cons rfl (.cons rfl (.cons rfl (.cons rfl (.cons rfl (.cons ⟨none,0,rfl,Nat.le_refl _,fun h => (h rfl).elim⟩ (.cons ⟨none,0,rfl,Nat.le_refl _,fun h => (h rfl).elim⟩ .nil))))))))
theorem Qd7 : ∀ F w,(Qc.ty (Qb.mk ([] : Str) ([] : Str) ([] : Str) (0:Int) (0:Int) (0:Int) ([] : (List Str)) ([] : (List Int)))).ok F w (.agg #[(.string .empty),(.string .empty),(.string .empty),(.int .i64 0),(.int .i64 0),(.int .i64 0),(.slice none 0 0),(.slice none 0 0)]) := fun F w => ⟨_,rfl,zc61 F w⟩
theorem zv61 : (Tryz.prog.info? 61).bind (·.zero) = some (.agg #[(.string .empty),(.string .empty),(.string .empty),(.int .i64 0),(.int .i64 0),(.int .i64 0),(.slice none 0 0),(.slice none 0 0)]) := by kernel_rfl
theorem pl61 : ∀ w, ((#[⟨"Name", 9, 0, false, "", "", 0⟩, ⟨"Of", 9, 1, false, "", "", 16⟩, ⟨"Up", 9, 2, false, "", "", 32⟩, ⟨"Kind", 3, 3, false, "", "", 48⟩, ⟨"Lo", 3, 4, false, "", "", 56⟩, ⟨"Hi", 3, 5, false, "", "", 64⟩, ⟨"Words", 32, 6, false, "", "", 72⟩, ⟨"Weights", 22, 7, false, "", "", 96⟩] : Array Field).mapM (fun f => do pure (f.offset, ← sizeOf f.type) : Field → Sem (Nat × Nat))).run Tryz.prog w = .ok #[(0, 1), (1, 1), (2, 1), (3, 1), (4, 1), (5, 1), (6, 1), (7, 1)] w := fun _ => by kernel_rfl
theorem QsS : (∀ F w,QO ([tv (.string (sB ([] : Str))),tv (.string (sB ([] : Str))),tv (.string (sB ([] : Str))),ti (0:Int),ti (0:Int),ti (0:Int),tsl rS ([] : (List Str)),tvs nilV]) F w ((.agg #[(.string .empty),(.string .empty),(.string .empty),(.int .i64 0),(.int .i64 0),(.int .i64 0),(.slice none 0 0),(.slice none 0 0)]) : Value).cells.toList) ∧ ([tv (.string (sB ([] : Str))),tv (.string (sB ([] : Str))),tv (.string (sB ([] : Str))),ti (0:Int),ti (0:Int),ti (0:Int),tsl rS ([] : (List Str)),tvs nilV]).length = 8 ∧ Qc.agg = true ∧ ∃ cs,((.agg #[(.string .empty),(.string .empty),(.string .empty),(.int .i64 0),(.int .i64 0),(.int .i64 0),(.slice none 0 0),(.slice none 0 0)]) : Value) = .agg cs := ⟨fun _ _ => (.cons rfl (.cons rfl (.cons rfl (.cons rfl (.cons rfl (.cons rfl (.cons ⟨none,0,rfl,Nat.le_refl _,fun h => (h rfl).elim⟩ (.cons ⟨rfl,rfl⟩ .nil)))))))),rfl,rfl,_,rfl⟩
theorem Qc3 : TOk Tryz.prog 53 (rSl Qc) 24 (.slice none 0 0) := ⟨⟨_,Tryz.underlying53,rfl⟩,by kernel_rfl,rfl⟩
structure Qi where
  Name : Str
  Lo : Int
  Hi : Int
  Fields : (List Qb)
deriving Inhabited
@[reducible] def Ql : Rep Qi := ⟨fun x => ([tv (.string (sB x.Name)),ti x.Lo,ti x.Hi,tsl Qc x.Fields]),4,true,fun _ => rfl,fun _ => (Qy (Q2 rfl) (Qy (Q2 rfl) (Qy (Q2 rfl) (Qy Qb5 Qah)))),fun h => (by cases h)⟩
theorem Q8 : TOk Tryz.prog 55 Ql 56 (.agg #[(.string .empty),(.int .i64 0),(.int .i64 0),(.slice none 0 0)]) := ⟨⟨_,Tryz.underlying55,rfl⟩,by kernel_rfl,rfl⟩
theorem zc55 : ∀ F w,QO (Ql.cs (Qi.mk ([] : Str) (0:Int) (0:Int) ([] : (List Qb)))) F w ((.agg #[(.string .empty),(.int .i64 0),(.int .i64 0),(.slice none 0 0)]) : Value).cells.toList := fun _ _ => (.cons rfl (.cons rfl (.cons rfl (.cons ⟨none,0,rfl,Nat.le_refl _,fun h => (h rfl).elim⟩ .nil))))
theorem QiO : ∀ F w,(Ql.ty (Qi.mk ([] : Str) (0:Int) (0:Int) ([] : (List Qb)))).ok F w (.agg #[(.string .empty),(.int .i64 0),(.int .i64 0),(.slice none 0 0)]) := fun F w => ⟨_,rfl,zc55 F w⟩
theorem zv55 : (Tryz.prog.info? 55).bind (·.zero) = some (.agg #[(.string .empty),(.int .i64 0),(.int .i64 0),(.slice none 0 0)]) := by kernel_rfl
theorem pl55 : ∀ w, ((#[⟨"Name", 9, 0, false, "", "", 0⟩, ⟨"Lo", 3, 1, false, "", "", 16⟩, ⟨"Hi", 3, 2, false, "", "", 24⟩, ⟨"Fields", 53, 3, false, "", "", 32⟩] : Array Field).mapM (fun f => do pure (f.offset, ← sizeOf f.type) : Field → Sem (Nat × Nat))).run Tryz.prog w = .ok #[(0, 1), (1, 1), (2, 1), (3, 1)] w := fun _ => by kernel_rfl
theorem QsT : (∀ F w,QO ([tv (.string (sB ([] : Str))),ti (0:Int),ti (0:Int),tvs nilV]) F w ((.agg #[(.string .empty),(.int .i64 0),(.int .i64 0),(.slice none 0 0)]) : Value).cells.toList) ∧ ([tv (.string (sB ([] : Str))),ti (0:Int),ti (0:Int),tvs nilV]).length = 4 ∧ Ql.agg = true ∧ ∃ cs,((.agg #[(.string .empty),(.int .i64 0),(.int .i64 0),(.slice none 0 0)]) : Value) = .agg cs := ⟨fun _ _ => (.cons rfl (.cons rfl (.cons rfl (.cons ⟨rfl,rfl⟩ .nil)))),rfl,rfl,_,rfl⟩
theorem QdE : TOk Tryz.prog 23 (rSl Ql) 24 (.slice none 0 0) := ⟨⟨_,Tryz.underlying23,rfl⟩,by kernel_rfl,rfl⟩
structure QJ where
  a0 : Int
  a1 : Int
deriving Inhabited
@[reducible] def Q7 : Rep QJ := ⟨fun x => ([ti x.a0,ti x.a1]),2,true,fun _ => rfl,fun _ => (Qy (Q2 rfl) (Qy (Q2 rfl) Qah)),fun h => (by cases h)⟩
theorem Qga : TOk Tryz.prog 82 Q7 16 (.agg #[(.int .i64 0),(.int .i64 0)]) := ⟨⟨_,Tryz.underlying82,rfl⟩,by kernel_rfl,rfl⟩
theorem zc82 : ∀ F w,QO (Q7.cs (QJ.mk (0:Int) (0:Int))) F w ((.agg #[(.int .i64 0),(.int .i64 0)]) : Value).cells.toList := fun _ _ => (.cons rfl (.cons rfl .nil))
theorem zok82 : ∀ F w,(Q7.ty (QJ.mk (0:Int) (0:Int))).ok F w (.agg #[(.int .i64 0),(.int .i64 0)]) := fun F w => ⟨_,rfl,zc82 F w⟩
theorem zv82 : (Tryz.prog.info? 82).bind (·.zero) = some (.agg #[(.int .i64 0),(.int .i64 0)]) := by kernel_rfl
theorem QoP : TOk Tryz.prog 79 (rSl Q7) 24 (.slice none 0 0) := ⟨⟨_,Tryz.underlying79,rfl⟩,by kernel_rfl,rfl⟩
structure Qu where
  Name : Str
  States : (List Str)
  Moves : (List QJ)
deriving Inhabited
@[reducible] def QI : Rep Qu := ⟨fun x => ([tv (.string (sB x.Name)),tsl rS x.States,tsl Q7 x.Moves]),3,true,fun _ => rfl,fun _ => (Qy (Q2 rfl) (Qy Qb5 (Qy Qb5 Qah))),fun h => (by cases h)⟩
theorem Qeo : TOk Tryz.prog 81 QI 64 (.agg #[(.string .empty),(.slice none 0 0),(.slice none 0 0)]) := ⟨⟨_,Tryz.underlying81,rfl⟩,by kernel_rfl,rfl⟩
theorem zc81 : ∀ F w,QO (QI.cs (Qu.mk ([] : Str) ([] : (List Str)) ([] : (List QJ)))) F w ((.agg #[(.string .empty),(.slice none 0 0),(.slice none 0 0)]) : Value).cells.toList := fun _ _ => (.cons rfl (.cons ⟨none,0,rfl,Nat.le_refl _,fun h => (h rfl).elim⟩ (.cons ⟨none,0,rfl,Nat.le_refl _,fun h => (h rfl).elim⟩ .nil)))
theorem QqO : ∀ F w,(QI.ty (Qu.mk ([] : Str) ([] : (List Str)) ([] : (List QJ)))).ok F w (.agg #[(.string .empty),(.slice none 0 0),(.slice none 0 0)]) := fun F w => ⟨_,rfl,zc81 F w⟩
theorem zv81 : (Tryz.prog.info? 81).bind (·.zero) = some (.agg #[(.string .empty),(.slice none 0 0),(.slice none 0 0)]) := by kernel_rfl
theorem pl81 : ∀ w, ((#[⟨"Name", 9, 0, false, "", "", 0⟩, ⟨"States", 32, 1, false, "", "", 16⟩, ⟨"Moves", 79, 2, false, "", "", 40⟩] : Array Field).mapM (fun f => do pure (f.offset, ← sizeOf f.type) : Field → Sem (Nat × Nat))).run Tryz.prog w = .ok #[(0, 1), (1, 1), (2, 1)] w := fun _ => by kernel_rfl
theorem QsU : (∀ F w,QO ([tv (.string (sB ([] : Str))),tsl rS ([] : (List Str)),tvs nilV]) F w ((.agg #[(.string .empty),(.slice none 0 0),(.slice none 0 0)]) : Value).cells.toList) ∧ ([tv (.string (sB ([] : Str))),tsl rS ([] : (List Str)),tvs nilV]).length = 3 ∧ QI.agg = true ∧ ∃ cs,((.agg #[(.string .empty),(.slice none 0 0),(.slice none 0 0)]) : Value) = .agg cs := ⟨fun _ _ => (.cons rfl (.cons ⟨none,0,rfl,Nat.le_refl _,fun h => (h rfl).elim⟩ (.cons ⟨rfl,rfl⟩ .nil))),rfl,rfl,_,rfl⟩
theorem Qky : TOk Tryz.prog 24 (rSl QI) 24 (.slice none 0 0) := ⟨⟨_,Tryz.underlying24,rfl⟩,by kernel_rfl,rfl⟩
structure Qo where
  Name : Str
  Kind : Str
  A : Str
  B : Str
  N : Int
deriving Inhabited
@[reducible] def QC : Rep Qo := ⟨fun x => ([tv (.string (sB x.Name)),tv (.string (sB x.Kind)),tv (.string (sB x.A)),tv (.string (sB x.B)),ti x.N]),5,true,fun _ => rfl,fun _ => (Qy (Q2 rfl) (Qy (Q2 rfl) (Qy (Q2 rfl) (Qy (Q2 rfl) (Qy (Q2 rfl) Qah))))),fun h => (by cases h)⟩
theorem Qb3 : TOk Tryz.prog 84 QC 72 (.agg #[(.string .empty),(.string .empty),(.string .empty),(.string .empty),(.int .i64 0)]) := ⟨⟨_,Tryz.underlying84,rfl⟩,by kernel_rfl,rfl⟩
theorem zc84 : ∀ F w,QO (QC.cs (Qo.mk ([] : Str) ([] : Str) ([] : Str) ([] : Str) (0:Int))) F w ((.agg #[(.string .empty),(.string .empty),(.string .empty),(.string .empty),(.int .i64 0)]) : Value).cells.toList := fun _ _ => (.cons rfl (.cons rfl (.cons rfl (.cons rfl (.cons rfl .nil)))))
theorem QoQ : ∀ F w,(QC.ty (Qo.mk ([] : Str) ([] : Str) ([] : Str) ([] : Str) (0:Int))).ok F w (.agg #[(.string .empty),(.string .empty),(.string .empty),(.string .empty),(.int .i64 0)]) := fun F w => ⟨_,rfl,zc84 F w⟩
theorem zv84 : (Tryz.prog.info? 84).bind (·.zero) = some (.agg #[(.string .empty),(.string .empty),(.string .empty),(.string .empty),(.int .i64 0)]) := by kernel_rfl
theorem pl84 : ∀ w, ((#[⟨"Name", 9, 0, false, "", "", 0⟩, ⟨"Kind", 9, 1, false, "", "", 16⟩, ⟨"A", 9, 2, false, "", "", 32⟩, ⟨"B", 9, 3, false, "", "", 48⟩, ⟨"N", 3, 4, false, "", "", 64⟩] : Array Field).mapM (fun f => do pure (f.offset, ← sizeOf f.type) : Field → Sem (Nat × Nat))).run Tryz.prog w = .ok #[(0, 1), (1, 1), (2, 1), (3, 1), (4, 1)] w := fun _ => by kernel_rfl
theorem Qkz : TOk Tryz.prog 25 (rSl QC) 24 (.slice none 0 0) := ⟨⟨_,Tryz.underlying25,rfl⟩,by kernel_rfl,rfl⟩
structure Qg where
  Version : Int
  Kinds : (List Qi)
  Lives : (List Qu)
  Rules : (List Qo)
deriving Inhabited
@[reducible] def Qk : Rep Qg := ⟨fun x => ([ti x.Version,tsl Ql x.Kinds,tsl QI x.Lives,tsl QC x.Rules]),4,true,fun _ => rfl,fun _ => (Qy (Q2 rfl) (Qy Qb5 (Qy Qb5 (Qy Qb5 Qah)))),fun h => (by cases h)⟩
theorem QaG : TOk Tryz.prog 27 Qk 80 (.agg #[(.int .i64 0),(.slice none 0 0),(.slice none 0 0),(.slice none 0 0)]) := ⟨⟨_,Tryz.underlying27,rfl⟩,by kernel_rfl,rfl⟩
theorem zc27 : ∀ F w,QO (Qk.cs (Qg.mk (0:Int) ([] : (List Qi)) ([] : (List Qu)) ([] : (List Qo)))) F w ((.agg #[(.int .i64 0),(.slice none 0 0),(.slice none 0 0),(.slice none 0 0)]) : Value).cells.toList := fun _ _ => (.cons rfl (.cons ⟨none,0,rfl,Nat.le_refl _,fun h => (h rfl).elim⟩ (.cons ⟨none,0,rfl,Nat.le_refl _,fun h => (h rfl).elim⟩ (.cons ⟨none,0,rfl,Nat.le_refl _,fun h => (h rfl).elim⟩ .nil))))
theorem QoR : ∀ F w,(Qk.ty (Qg.mk (0:Int) ([] : (List Qi)) ([] : (List Qu)) ([] : (List Qo)))).ok F w (.agg #[(.int .i64 0),(.slice none 0 0),(.slice none 0 0),(.slice none 0 0)]) := fun F w => ⟨_,rfl,zc27 F w⟩
theorem zv27 : (Tryz.prog.info? 27).bind (·.zero) = some (.agg #[(.int .i64 0),(.slice none 0 0),(.slice none 0 0),(.slice none 0 0)]) := by kernel_rfl
theorem pl27 : ∀ w, ((#[⟨"Version", 3, 0, false, "", "", 0⟩, ⟨"Kinds", 23, 1, false, "", "", 8⟩, ⟨"Lives", 24, 2, false, "", "", 32⟩, ⟨"Rules", 25, 3, false, "", "", 56⟩] : Array Field).mapM (fun f => do pure (f.offset, ← sizeOf f.type) : Field → Sem (Nat × Nat))).run Tryz.prog w = .ok #[(0, 1), (1, 1), (2, 1), (3, 1)] w := fun _ => by kernel_rfl
theorem Qpk : (∀ F w,QO ([ti (0:Int),tvs nilV,tvs nilV,tvs nilV]) F w ((.agg #[(.int .i64 0),(.slice none 0 0),(.slice none 0 0),(.slice none 0 0)]) : Value).cells.toList) ∧ ([ti (0:Int),tvs nilV,tvs nilV,tvs nilV]).length = 4 ∧ Qk.agg = true ∧ ∃ cs,((.agg #[(.int .i64 0),(.slice none 0 0),(.slice none 0 0),(.slice none 0 0)]) : Value) = .agg cs := ⟨fun _ _ => (.cons rfl (.cons ⟨rfl,rfl⟩ (.cons ⟨rfl,rfl⟩ (.cons ⟨rfl,rfl⟩ .nil)))),rfl,rfl,_,rfl⟩
structure Qd where
  A : Int
  B : Int
  Mul : Int
  Least : Bool
deriving Inhabited
@[reducible] def Qj : Rep Qd := ⟨fun x => ([ti x.A,ti x.B,ti x.Mul,tb x.Least]),4,true,fun _ => rfl,fun _ => (Qy (Q2 rfl) (Qy (Q2 rfl) (Qy (Q2 rfl) (Qy (Q2 rfl) Qah)))),fun h => (by cases h)⟩
theorem QaM : TOk Tryz.prog 43 Qj 32 (.agg #[(.int .i64 0),(.int .i64 0),(.int .i64 0),(.bool false)]) := ⟨⟨_,Tryz.underlying43,rfl⟩,by kernel_rfl,rfl⟩
theorem zc43 : ∀ F w,QO (Qj.cs (Qd.mk (0:Int) (0:Int) (0:Int) false)) F w ((.agg #[(.int .i64 0),(.int .i64 0),(.int .i64 0),(.bool false)]) : Value).cells.toList := fun _ _ => (.cons rfl (.cons rfl (.cons rfl (.cons rfl .nil))))
theorem QqP : ∀ F w,(Qj.ty (Qd.mk (0:Int) (0:Int) (0:Int) false)).ok F w (.agg #[(.int .i64 0),(.int .i64 0),(.int .i64 0),(.bool false)]) := fun F w => ⟨_,rfl,zc43 F w⟩
theorem zv43 : (Tryz.prog.info? 43).bind (·.zero) = some (.agg #[(.int .i64 0),(.int .i64 0),(.int .i64 0),(.bool false)]) := by kernel_rfl
theorem pl43 : ∀ w, ((#[⟨"A", 3, 0, false, "", "", 0⟩, ⟨"B", 3, 1, false, "", "", 8⟩, ⟨"Mul", 3, 2, false, "", "", 16⟩, ⟨"Least", 4, 3, false, "", "", 24⟩] : Array Field).mapM (fun f => do pure (f.offset, ← sizeOf f.type) : Field → Sem (Nat × Nat))).run Tryz.prog w = .ok #[(0, 1), (1, 1), (2, 1), (3, 1)] w := fun _ => by kernel_rfl
theorem tok31 : TOk Tryz.prog 31 (rSl Qj) 24 (.slice none 0 0) := ⟨⟨_,Tryz.underlying31,rfl⟩,by kernel_rfl,rfl⟩
theorem QoS : TOk Tryz.prog 33 rI 8 (.int .i64 0) := ⟨⟨_,Tryz.underlying33,rfl⟩,by kernel_rfl,rfl⟩
structure Qv where
  L : (List Int)
  I : Int
deriving Inhabited
@[reducible] def Qt : Rep Qv := ⟨fun x => ([tsl rI x.L,ti x.I]),2,true,fun _ => rfl,fun _ => (Qy Qb5 (Qy (Q2 rfl) Qah)),fun h => (by cases h)⟩
theorem zc76 : ∀ F w,QO (Qt.cs (Qv.mk ([] : (List Int)) (0:Int))) F w ((.agg #[(.slice none 0 0),(.int .i64 0)]) : Value).cells.toList := fun _ _ => (.cons ⟨none,0,rfl,Nat.le_refl _,fun h => (h rfl).elim⟩ (.cons rfl .nil))
theorem zv76 : (Tryz.prog.info? 76).bind (·.zero) = some (.agg #[(.slice none 0 0),(.int .i64 0)]) := by kernel_rfl
theorem pl76 : ∀ w, ((#[⟨"L", 22, 0, false, "", "", 0⟩, ⟨"I", 3, 1, false, "", "", 24⟩] : Array Field).mapM (fun f => do pure (f.offset, ← sizeOf f.type) : Field → Sem (Nat × Nat))).run Tryz.prog w = .ok #[(0, 1), (1, 1)] w := fun _ => by kernel_rfl
@[reducible] def tF96 (p : (Int → Option Bool)) : Ty := tfn Tryz.prog [] (A := Int) (B := Bool) (fun x => [ti x]) (fun y => tb y) (p)
@[reducible] def rF96 : Rep (Int → Option Bool) := ⟨fun p => [tF96 p],1,false,fun _ => rfl,fun _ => Qy Qej Qah,fun _ => rfl⟩
theorem Qrr : TOk Tryz.prog 101 (rSl QaY) 24 (.slice none 0 0) := ⟨⟨_,Tryz.underlying101,rfl⟩,by kernel_rfl,rfl⟩
structure Qm where
  a0 : Int
  a1 : Int
  a2 : Int
  a3 : Int
  a4 : Int
  a5 : Int
deriving Inhabited
@[reducible] def Qx : Rep Qm := ⟨fun x => ([ti x.a0,ti x.a1,ti x.a2,ti x.a3,ti x.a4,ti x.a5]),6,true,fun _ => rfl,fun _ => (Qy (Q2 rfl) (Qy (Q2 rfl) (Qy (Q2 rfl) (Qy (Q2 rfl) (Qy (Q2 rfl) (Qy (Q2 rfl) Qah)))))),fun h => (by cases h)⟩
@[reducible] def Qm.L (a : Qm) : List Int := [a.a0,a.a1,a.a2,a.a3,a.a4,a.a5]
def Qm.setI (a : Qm) (i : Int) (v : Int) : Qm := match i.toNat with | 0 => { a with a0 := v } | 1 => { a with a1 := v } | 2 => { a with a2 := v } | 3 => { a with a3 := v } | 4 => { a with a4 := v } | 5 => { a with a5 := v } | _ => a
theorem Qm.spl {pre post : List Ty} {a : Qm} {i : Int} {v u : Int} {o : Nat} (ho : pre.length = o) (h : idx a.L i = some u) : splice (pre ++ Qx.cs a ++ post) (o + i.toNat) (rI.cs v) = pre ++ Qx.cs (a.setI i v) ++ post := by
  have h1 := (idx_lt' h).2.1
  unfold Qm.setI
  revert h1
  generalize i.toNat = k
  intro h1
  refine QqH ho (show k + 1 ≤ 6 from h1) ?_
  match k,h1 with
  | 0,_ => rfl
  | 1,_ => rfl
  | 2,_ => rfl
  | 3,_ => rfl
  | 4,_ => rfl
  | 5,_ => rfl
theorem Qhb : TOk Tryz.prog 103 Qx 48 (.agg #[(.int .i64 0),(.int .i64 0),(.int .i64 0),(.int .i64 0),(.int .i64 0),(.int .i64 0)]) := ⟨⟨_,Tryz.underlying103,rfl⟩,by kernel_rfl,rfl⟩
theorem zc103 : ∀ F w,QO (Qx.cs (Qm.mk (0:Int) (0:Int) (0:Int) (0:Int) (0:Int) (0:Int))) F w ((.agg #[(.int .i64 0),(.int .i64 0),(.int .i64 0),(.int .i64 0),(.int .i64 0),(.int .i64 0)]) : Value).cells.toList := fun _ _ => (.cons rfl (.cons rfl (.cons rfl (.cons rfl (.cons rfl (.cons rfl .nil))))))
theorem zok103 : ∀ F w,(Qx.ty (Qm.mk (0:Int) (0:Int) (0:Int) (0:Int) (0:Int) (0:Int))).ok F w (.agg #[(.int .i64 0),(.int .i64 0),(.int .i64 0),(.int .i64 0),(.int .i64 0),(.int .i64 0)]) := fun F w => ⟨_,rfl,zc103 F w⟩
def Qbf (p q : Qm) : Bool := p.a0 == q.a0 && p.a1 == q.a1 && p.a2 == q.a2 && p.a3 == q.a3 && p.a4 == q.a4 && p.a5 == q.a5
set_option maxHeartbeats 2000000 in
theorem QsV (n : Nat) (a0 b0 : Int) (a1 b1 : Int) (a2 b2 : Int) (a3 b3 : Int) (a4 b4 : Int) (a5 b5 : Int) (w : World) : (Op.equalIn (n + 2) 103 (.agg #[.int .i64 a0,.int .i64 a1,.int .i64 a2,.int .i64 a3,.int .i64 a4,.int .i64 a5]) (.agg #[.int .i64 b0,.int .i64 b1,.int .i64 b2,.int .i64 b3,.int .i64 b4,.int .i64 b5])).run Tryz.prog w = .ok (a0 == b0 && a1 == b1 && a2 == b2 && a3 == b3 && a4 == b4 && a5 == b5) w := by
  obtain ⟨ie,hie,_,hse,_⟩ := tok3.info
  have hse1 : ie.size = 1 := hse
  have e3 : ∀ x y : Int,(Op.equalIn (n + 1) 3 (.int .i64 x) (.int .i64 y)).run Tryz.prog w = .ok (x == y) w := fun x y => by simp [Op.equalIn,run_underlying Tryz.underlying3]
  have pt : ∀ (xs : Array Value) (i : Nat) (v : Value),xs[i]? = some v → (part 3 xs i).run Tryz.prog w = .ok v w := fun xs i v h => by simp [part,isAgg,run_underlying Tryz.underlying3,h]
  have p0 : ∀ u0 u1 u2 u3 u4 u5 : Int,(part 3 #[.int .i64 u0,.int .i64 u1,.int .i64 u2,.int .i64 u3,.int .i64 u4,.int .i64 u5] 0).run Tryz.prog w = .ok (.int .i64 u0) w := fun _ _ _ _ _ _ => pt _ 0 _ rfl
  have p1 : ∀ u0 u1 u2 u3 u4 u5 : Int,(part 3 #[.int .i64 u0,.int .i64 u1,.int .i64 u2,.int .i64 u3,.int .i64 u4,.int .i64 u5] 1).run Tryz.prog w = .ok (.int .i64 u1) w := fun _ _ _ _ _ _ => pt _ 1 _ rfl
  have p2 : ∀ u0 u1 u2 u3 u4 u5 : Int,(part 3 #[.int .i64 u0,.int .i64 u1,.int .i64 u2,.int .i64 u3,.int .i64 u4,.int .i64 u5] 2).run Tryz.prog w = .ok (.int .i64 u2) w := fun _ _ _ _ _ _ => pt _ 2 _ rfl
  have p3 : ∀ u0 u1 u2 u3 u4 u5 : Int,(part 3 #[.int .i64 u0,.int .i64 u1,.int .i64 u2,.int .i64 u3,.int .i64 u4,.int .i64 u5] 3).run Tryz.prog w = .ok (.int .i64 u3) w := fun _ _ _ _ _ _ => pt _ 3 _ rfl
  have p4 : ∀ u0 u1 u2 u3 u4 u5 : Int,(part 3 #[.int .i64 u0,.int .i64 u1,.int .i64 u2,.int .i64 u3,.int .i64 u4,.int .i64 u5] 4).run Tryz.prog w = .ok (.int .i64 u4) w := fun _ _ _ _ _ _ => pt _ 4 _ rfl
  have p5 : ∀ u0 u1 u2 u3 u4 u5 : Int,(part 3 #[.int .i64 u0,.int .i64 u1,.int .i64 u2,.int .i64 u3,.int .i64 u4,.int .i64 u5] 5).run Tryz.prog w = .ok (.int .i64 u5) w := fun _ _ _ _ _ _ => pt _ 5 _ rfl
  unfold Op.equalIn
  simp only [Sem.run_bind,run_underlying Tryz.underlying103,Result.andThen_ok,sizeOf,typeInfo,run_program,hie,Sem.run_pure,hse1,Nat.mul_one]
  simp [List.range',p0,p1,p2,p3,p4,p5,e3]
  by_cases h0 : a0 = b0 <;> by_cases h1 : a1 = b1 <;> by_cases h2 : a2 = b2 <;> by_cases h3 : a3 = b3 <;> by_cases h4 : a4 = b4 <;> by_cases h5 : a5 = b5 <;> simp [h0,h1,h2,h3,h4,h5,p0,p1,p2,p3,p4,p5,e3]
theorem QqQ : Tryz.prog.eqGuardType Tryz.prog.depth 103 = false := by kernel_rfl
theorem QpX {Γ : List (Nat × Ty)} {d : Option Tmp} {ty t2 : TypeId} {pos : String} {af : Array Edge} {g : Option (Nat × Bool)} {x y : Operand} {p q : Qm} (hx : Fct Γ x (Qx.ty p)) (hy : Fct Γ y (Qx.ty q)) :
    OpJ Tryz.prog ⟨d,.binOp .neq 103 x y t2,ty,pos,af,g⟩ Γ [] [] (fun _ => []) (fun _ => tv (.bool (!Qbf p q))) :=
  QbQ (u := .agg #[.int .i64 p.a0,.int .i64 p.a1,.int .i64 p.a2,.int .i64 p.a3,.int .i64 p.a4,.int .i64 p.a5]) (v := .agg #[.int .i64 q.a0,.int .i64 q.a1,.int .i64 q.a2,.int .i64 q.a3,.int .i64 q.a4,.int .i64 q.a5]) (hx.weak fun _ _ _ h => by obtain ⟨us,hv,hc⟩ := h; rw [hv]; exact Qku hc [.int .i64 p.a0,.int .i64 p.a1,.int .i64 p.a2,.int .i64 p.a3,.int .i64 p.a4,.int .i64 p.a5] rfl) (hy.weak fun _ _ _ h => by obtain ⟨us,hv,hc⟩ := h; rw [hv]; exact Qku hc [.int .i64 q.a0,.int .i64 q.a1,.int .i64 q.a2,.int .i64 q.a3,.int .i64 q.a4,.int .i64 q.a5] rfl) fun w => by
    have := QsV 9998 p.a0 q.a0 p.a1 q.a1 p.a2 q.a2 p.a3 q.a3 p.a4 q.a4 p.a5 q.a5 w
    simp only [eqGuard,binOp,Op.equal,run_program,QqQ,Sem.run_bind,Result.andThen_ok]
    simp [Op.maxDepth,this,Qbf]
structure Qp where
  limits : (List Qd)
  want : (List Int)
  leads : (List Bool)
  now : Qm
  best : Qm
  cost : Int
deriving Inhabited
@[reducible] def QD : Rep Qp := ⟨fun x => ([tsl Qj x.limits,tsl rI x.want,tsl QaY x.leads] ++ Qx.cs x.now ++ Qx.cs x.best ++ [ti x.cost]),16,true,fun _ => rfl,fun _ => (QgY (QgY (QgY (Qy Qb5 (Qy Qb5 (Qy Qb5 Qah))) (Qi0 Qx)) (Qi0 Qx)) (Qy (Q2 rfl) Qah)),fun h => (by cases h)⟩
theorem zc105 : ∀ F w,QO (QD.cs (Qp.mk ([] : (List Qd)) ([] : (List Int)) ([] : (List Bool)) (Qm.mk (0:Int) (0:Int) (0:Int) (0:Int) (0:Int) (0:Int)) (Qm.mk (0:Int) (0:Int) (0:Int) (0:Int) (0:Int) (0:Int)) (0:Int))) F w ((.agg #[(.slice none 0 0),(.slice none 0 0),(.slice none 0 0),(.int .i64 0),(.int .i64 0),(.int .i64 0),(.int .i64 0),(.int .i64 0),(.int .i64 0),(.int .i64 0),(.int .i64 0),(.int .i64 0),(.int .i64 0),(.int .i64 0),(.int .i64 0),(.int .i64 0)]) : Value).cells.toList := fun _ _ => (.cons ⟨none,0,rfl,Nat.le_refl _,fun h => (h rfl).elim⟩ (.cons ⟨none,0,rfl,Nat.le_refl _,fun h => (h rfl).elim⟩ (.cons ⟨none,0,rfl,Nat.le_refl _,fun h => (h rfl).elim⟩ (.cons rfl (.cons rfl (.cons rfl (.cons rfl (.cons rfl (.cons rfl (.cons rfl (.cons rfl (.cons rfl (.cons rfl (.cons rfl (.cons rfl (.cons rfl .nil))))))))))))))))
theorem zv105 : (Tryz.prog.info? 105).bind (·.zero) = some (.agg #[(.slice none 0 0),(.slice none 0 0),(.slice none 0 0),(.int .i64 0),(.int .i64 0),(.int .i64 0),(.int .i64 0),(.int .i64 0),(.int .i64 0),(.int .i64 0),(.int .i64 0),(.int .i64 0),(.int .i64 0),(.int .i64 0),(.int .i64 0),(.int .i64 0)]) := by kernel_rfl
theorem pl105 : ∀ w, ((#[⟨"limits", 31, 0, false, "", "diorama/counts", 0⟩, ⟨"want", 22, 1, false, "", "diorama/counts", 24⟩, ⟨"leads", 101, 2, false, "", "diorama/counts", 48⟩, ⟨"now", 103, 3, false, "", "diorama/counts", 72⟩, ⟨"best", 103, 9, false, "", "diorama/counts", 120⟩, ⟨"cost", 3, 15, false, "", "diorama/counts", 168⟩] : Array Field).mapM (fun f => do pure (f.offset, ← sizeOf f.type) : Field → Sem (Nat × Nat))).run Tryz.prog w = .ok #[(0, 1), (1, 1), (2, 1), (3, 6), (9, 6), (15, 1)] w := fun _ => by kernel_rfl
@[reducible] def tF112 (p : (Qd → Option Bool)) : Ty := tfn Tryz.prog [] (A := Qd) (B := Bool) (fun x => [Qj.ty x]) (fun y => tb y) (p)
@[reducible] def Qm6 : Rep (Qd → Option Bool) := ⟨fun p => [tF112 p],1,false,fun _ => rfl,fun _ => Qy Qej Qah,fun _ => rfl⟩
structure Qn where
  Kind : Int
  Field : Int
  Rule : Int
  Code : Int
deriving Inhabited
@[reducible] def QN : Rep Qn := ⟨fun x => ([ti x.Kind,ti x.Field,ti x.Rule,ti x.Code]),4,true,fun _ => rfl,fun _ => (Qy (Q2 rfl) (Qy (Q2 rfl) (Qy (Q2 rfl) (Qy (Q2 rfl) Qah)))),fun h => (by cases h)⟩
theorem Qm7 : TOk Tryz.prog 119 QN 32 (.agg #[(.int .i64 0),(.int .i64 0),(.int .i64 0),(.int .i64 0)]) := ⟨⟨_,Tryz.underlying119,rfl⟩,by kernel_rfl,rfl⟩
theorem zc119 : ∀ F w,QO (QN.cs (Qn.mk (0:Int) (0:Int) (0:Int) (0:Int))) F w ((.agg #[(.int .i64 0),(.int .i64 0),(.int .i64 0),(.int .i64 0)]) : Value).cells.toList := fun _ _ => (.cons rfl (.cons rfl (.cons rfl (.cons rfl .nil))))
theorem zv119 : (Tryz.prog.info? 119).bind (·.zero) = some (.agg #[(.int .i64 0),(.int .i64 0),(.int .i64 0),(.int .i64 0)]) := by kernel_rfl
theorem pl119 : ∀ w, ((#[⟨"Kind", 3, 0, false, "", "", 0⟩, ⟨"Field", 3, 1, false, "", "", 8⟩, ⟨"Rule", 3, 2, false, "", "", 16⟩, ⟨"Code", 33, 3, false, "", "", 24⟩] : Array Field).mapM (fun f => do pure (f.offset, ← sizeOf f.type) : Field → Sem (Nat × Nat))).run Tryz.prog w = .ok #[(0, 1), (1, 1), (2, 1), (3, 1)] w := fun _ => by kernel_rfl
@[reducible] def tF122 (p : (Qu → Option Bool)) : Ty := tfn Tryz.prog [] (A := Qu) (B := Bool) (fun x => [QI.ty x]) (fun y => tb y) (p)
@[reducible] def Qhc : Rep (Qu → Option Bool) := ⟨fun p => [tF122 p],1,false,fun _ => rfl,fun _ => Qy Qej Qah,fun _ => rfl⟩
theorem tok122 : TOk Tryz.prog 122 Qhc 8 .nilFunc := ⟨⟨_,Tryz.underlying122,rfl⟩,by kernel_rfl,rfl⟩
structure Qq where
  is : Bool
  code : Int
deriving Inhabited
@[reducible] def QL : Rep Qq := ⟨fun x => ([tb x.is,ti x.code]),2,true,fun _ => rfl,fun _ => (Qy (Q2 rfl) (Qy (Q2 rfl) Qah)),fun h => (by cases h)⟩
theorem QdV : TOk Tryz.prog 125 QL 16 (.agg #[(.bool false),(.int .i64 0)]) := ⟨⟨_,Tryz.underlying125,rfl⟩,by kernel_rfl,rfl⟩
theorem QdF : ∀ F w,QO (QL.cs (Qq.mk false (0:Int))) F w ((.agg #[(.bool false),(.int .i64 0)]) : Value).cells.toList := fun _ _ => (.cons rfl (.cons rfl .nil))
theorem zok125 : ∀ F w,(QL.ty (Qq.mk false (0:Int))).ok F w (.agg #[(.bool false),(.int .i64 0)]) := fun F w => ⟨_,rfl,QdF F w⟩
theorem Qd8 : (Tryz.prog.info? 125).bind (·.zero) = some (.agg #[(.bool false),(.int .i64 0)]) := by kernel_rfl
theorem Qd9 : ∀ w, ((#[⟨"is", 4, 0, false, "", "diorama/typing", 0⟩, ⟨"code", 33, 1, false, "", "diorama/typing", 8⟩] : Array Field).mapM (fun f => do pure (f.offset, ← sizeOf f.type) : Field → Sem (Nat × Nat))).run Tryz.prog w = .ok #[(0, 1), (1, 1)] w := fun _ => by kernel_rfl
structure QG where
  x : Qg
  kind : Int
  field : Int
  f : Qb
deriving Inhabited
@[reducible] def QX : Rep QG := ⟨fun x => (Qk.cs x.x ++ [ti x.kind,ti x.field] ++ Qc.cs x.f),14,true,fun _ => rfl,fun _ => (QgY (QgY (Qi0 Qk) (Qy (Q2 rfl) (Qy (Q2 rfl) Qah))) (Qi0 Qc)),fun h => (by cases h)⟩
theorem Qlf : TOk Tryz.prog 133 QX 216 (.agg #[(.int .i64 0),(.slice none 0 0),(.slice none 0 0),(.slice none 0 0),(.int .i64 0),(.int .i64 0),(.string .empty),(.string .empty),(.string .empty),(.int .i64 0),(.int .i64 0),(.int .i64 0),(.slice none 0 0),(.slice none 0 0)]) := ⟨⟨_,Tryz.underlying133,rfl⟩,by kernel_rfl,rfl⟩
theorem zc133 : ∀ F w,QO (QX.cs (QG.mk (Qg.mk (0:Int) ([] : (List Qi)) ([] : (List Qu)) ([] : (List Qo))) (0:Int) (0:Int) (Qb.mk ([] : Str) ([] : Str) ([] : Str) (0:Int) (0:Int) (0:Int) ([] : (List Str)) ([] : (List Int))))) F w ((.agg #[(.int .i64 0),(.slice none 0 0),(.slice none 0 0),(.slice none 0 0),(.int .i64 0),(.int .i64 0),(.string .empty),(.string .empty),(.string .empty),(.int .i64 0),(.int .i64 0),(.int .i64 0),(.slice none 0 0),(.slice none 0 0)]) : Value).cells.toList := fun _ _ => (.cons rfl (.cons ⟨none,0,rfl,Nat.le_refl _,fun h => (h rfl).elim⟩ (.cons ⟨none,0,rfl,Nat.le_refl _,fun h => (h rfl).elim⟩ (.cons ⟨none,0,rfl,Nat.le_refl _,fun h => (h rfl).elim⟩ (.cons rfl (.cons rfl (.cons rfl (.cons rfl (.cons rfl (.cons rfl (.cons rfl (.cons rfl (.cons ⟨none,0,rfl,Nat.le_refl _,fun h => (h rfl).elim⟩ (.cons ⟨none,0,rfl,Nat.le_refl _,fun h => (h rfl).elim⟩ .nil))))))))))))))
theorem zv133 : (Tryz.prog.info? 133).bind (·.zero) = some (.agg #[(.int .i64 0),(.slice none 0 0),(.slice none 0 0),(.slice none 0 0),(.int .i64 0),(.int .i64 0),(.string .empty),(.string .empty),(.string .empty),(.int .i64 0),(.int .i64 0),(.int .i64 0),(.slice none 0 0),(.slice none 0 0)]) := by kernel_rfl
theorem pl133 : ∀ w, ((#[⟨"x", 27, 0, false, "", "diorama/typing", 0⟩, ⟨"kind", 3, 4, false, "", "diorama/typing", 80⟩, ⟨"field", 3, 5, false, "", "diorama/typing", 88⟩, ⟨"f", 61, 6, false, "", "diorama/typing", 96⟩] : Array Field).mapM (fun f => do pure (f.offset, ← sizeOf f.type) : Field → Sem (Nat × Nat))).run Tryz.prog w = .ok #[(0, 4), (4, 1), (5, 1), (6, 8)] w := fun _ => by kernel_rfl
@[reducible] def tF128 (p : (QG → Option Int)) : Ty := tfn Tryz.prog [] (A := QG) (B := Int) (fun x => [QX.ty x]) (fun y => ti y) (p)
@[reducible] def rF128 : Rep (QG → Option Int) := ⟨fun p => [tF128 p],1,false,fun _ => rfl,fun _ => Qy Qej Qah,fun _ => rfl⟩
@[reducible] def Qrs : Rep (Option (QG → Option Int)) := ⟨fun p => [tfo (tF128) p],1,false,fun _ => rfl,fun _ => Qy (Qqd (fun _ => Qej)) Qah,fun _ => rfl⟩
theorem tok128 : TOk Tryz.prog 128 rF128 8 .nilFunc := ⟨⟨_,Tryz.underlying128,rfl⟩,by kernel_rfl,rfl⟩
theorem QsW : TOk Tryz.prog 128 Qrs 8 .nilFunc := ⟨⟨_,Tryz.underlying128,rfl⟩,by kernel_rfl,rfl⟩
structure QbW where
  check : (Option (QG → Option Int))
instance : Inhabited QbW := ⟨⟨none⟩⟩
@[reducible] def QdI : Rep QbW := ⟨fun x => ([Qrs.ty x.check]),1,true,fun _ => rfl,fun _ => (Qy (Qqd (fun _ => Qej)) Qah),fun h => (by cases h)⟩
theorem Qrt : TOk Tryz.prog 129 QdI 8 (.agg #[.nilFunc]) := ⟨⟨_,Tryz.underlying129,rfl⟩,by kernel_rfl,rfl⟩
theorem zc129 : ∀ F w,QO (QdI.cs (QbW.mk none)) F w ((.agg #[.nilFunc]) : Value).cells.toList := fun _ _ => (.cons rfl .nil)
theorem zok129 : ∀ F w,(QdI.ty (QbW.mk none)).ok F w (.agg #[.nilFunc]) := fun F w => ⟨_,rfl,zc129 F w⟩
theorem zv129 : (Tryz.prog.info? 129).bind (·.zero) = some (.agg #[.nilFunc]) := by kernel_rfl
@[reducible] def tF138 (p : (Qi → Option Bool)) : Ty := tfn Tryz.prog [] (A := Qi) (B := Bool) (fun x => [Ql.ty x]) (fun y => tb y) (p)
@[reducible] def Qhd : Rep (Qi → Option Bool) := ⟨fun p => [tF138 p],1,false,fun _ => rfl,fun _ => Qy Qej Qah,fun _ => rfl⟩
theorem tok138 : TOk Tryz.prog 138 Qhd 8 .nilFunc := ⟨⟨_,Tryz.underlying138,rfl⟩,by kernel_rfl,rfl⟩
@[reducible] def tF163 (p : (Qo → Option Bool)) : Ty := tfn Tryz.prog [] (A := Qo) (B := Bool) (fun x => [QC.ty x]) (fun y => tb y) (p)
@[reducible] def Qhe : Rep (Qo → Option Bool) := ⟨fun p => [tF163 p],1,false,fun _ => rfl,fun _ => Qy Qej Qah,fun _ => rfl⟩
theorem tok163 : TOk Tryz.prog 163 Qhe 8 .nilFunc := ⟨⟨_,Tryz.underlying163,rfl⟩,by kernel_rfl,rfl⟩
@[reducible] def tF168 (p : (Qb → Option Bool)) : Ty := tfn Tryz.prog [] (A := Qb) (B := Bool) (fun x => [Qc.ty x]) (fun y => tb y) (p)
@[reducible] def Qhf : Rep (Qb → Option Bool) := ⟨fun p => [tF168 p],1,false,fun _ => rfl,fun _ => Qy Qej Qah,fun _ => rfl⟩
theorem tok168 : TOk Tryz.prog 168 Qhf 8 .nilFunc := ⟨⟨_,Tryz.underlying168,rfl⟩,by kernel_rfl,rfl⟩
@[reducible] def tF178 (p : (Str → Option Bool)) : Ty := tfn Tryz.prog [] (A := Str) (B := Bool) (fun x => [tv (.string (sB x))]) (fun y => tb y) (p)
@[reducible] def Qhg : Rep (Str → Option Bool) := ⟨fun p => [tF178 p],1,false,fun _ => rfl,fun _ => Qy Qej Qah,fun _ => rfl⟩
theorem tok178 : TOk Tryz.prog 178 Qhg 8 .nilFunc := ⟨⟨_,Tryz.underlying178,rfl⟩,by kernel_rfl,rfl⟩
@[reducible] def tF183 (p : (QJ → Option Bool)) : Ty := tfn Tryz.prog [] (A := QJ) (B := Bool) (fun x => [Q7.ty x]) (fun y => tb y) (p)
@[reducible] def Qhh : Rep (QJ → Option Bool) := ⟨fun p => [tF183 p],1,false,fun _ => rfl,fun _ => Qy Qej Qah,fun _ => rfl⟩
theorem tok183 : TOk Tryz.prog 183 Qhh 8 .nilFunc := ⟨⟨_,Tryz.underlying183,rfl⟩,by kernel_rfl,rfl⟩
@[reducible] def tF203 (p : (Int → Option Bool)) : Ty := tfn Tryz.prog [] (A := Int) (B := Bool) (fun x => [tv (.int .u8 x)]) (fun y => tb y) (p)
@[reducible] def Qm8 : Rep (Int → Option Bool) := ⟨fun p => [tF203 p],1,false,fun _ => rfl,fun _ => Qy Qej Qah,fun _ => rfl⟩
theorem Qpl : TOk Tryz.prog 22 rVal 24 (.slice none 0 0) := ⟨⟨_,Tryz.underlying22,rfl⟩,by kernel_rfl,rfl⟩
theorem Qm9 : TOk Tryz.prog 23 rVal 24 (.slice none 0 0) := ⟨⟨_,Tryz.underlying23,rfl⟩,by kernel_rfl,rfl⟩
theorem Qru : TOk Tryz.prog 24 rVal 24 (.slice none 0 0) := ⟨⟨_,Tryz.underlying24,rfl⟩,by kernel_rfl,rfl⟩
theorem Qpm : TOk Tryz.prog 25 rVal 24 (.slice none 0 0) := ⟨⟨_,Tryz.underlying25,rfl⟩,by kernel_rfl,rfl⟩
theorem Qna : TOk Tryz.prog 31 rVal 24 (.slice none 0 0) := ⟨⟨_,Tryz.underlying31,rfl⟩,by kernel_rfl,rfl⟩
theorem Qnb : TOk Tryz.prog 32 rVal 24 (.slice none 0 0) := ⟨⟨_,Tryz.underlying32,rfl⟩,by kernel_rfl,rfl⟩
theorem QdW : TOk Tryz.prog 53 rVal 24 (.slice none 0 0) := ⟨⟨_,Tryz.underlying53,rfl⟩,by kernel_rfl,rfl⟩
theorem Qnc : TOk Tryz.prog 68 rVal 24 (.slice none 0 0) := ⟨⟨_,Tryz.underlying68,rfl⟩,by kernel_rfl,rfl⟩
theorem QjZ : TOk Tryz.prog 79 rVal 24 (.slice none 0 0) := ⟨⟨_,Tryz.underlying79,rfl⟩,by kernel_rfl,rfl⟩
theorem Qqf : TOk Tryz.prog 101 rVal 24 (.slice none 0 0) := ⟨⟨_,Tryz.underlying101,rfl⟩,by kernel_rfl,rfl⟩
theorem Qqg : QF Tryz.prog 27 0 0 := QF.mk Tryz.underlying27 rfl rfl tok3 (by decide)
theorem Qbp : QF Tryz.prog 27 1 1 := QF.mk Tryz.underlying27 rfl rfl QdE (by decide)
theorem QgZ : QF Tryz.prog 27 2 2 := QF.mk Tryz.underlying27 rfl rfl Qky (by decide)
theorem Qgb : QF Tryz.prog 27 3 3 := QF.mk Tryz.underlying27 rfl rfl Qkz (by decide)
theorem Qgc : QF Tryz.prog 43 0 0 := QF.mk Tryz.underlying43 rfl rfl tok3 (by decide)
theorem QeQ : QF Tryz.prog 43 1 1 := QF.mk Tryz.underlying43 rfl rfl tok3 (by decide)
theorem Qgd : QF Tryz.prog 43 2 2 := QF.mk Tryz.underlying43 rfl rfl tok3 (by decide)
theorem QlS : QF Tryz.prog 43 3 3 := QF.mk Tryz.underlying43 rfl rfl tok4 (by decide)
theorem QcS : QF Tryz.prog 55 0 0 := QF.mk Tryz.underlying55 rfl rfl tok9 (by decide)
theorem QlT : QF Tryz.prog 55 1 1 := QF.mk Tryz.underlying55 rfl rfl tok3 (by decide)
theorem QlU : QF Tryz.prog 55 2 2 := QF.mk Tryz.underlying55 rfl rfl tok3 (by decide)
theorem Qan : QF Tryz.prog 55 3 3 := QF.mk Tryz.underlying55 rfl rfl Qc3 (by decide)
theorem Qb6 : QF Tryz.prog 61 0 0 := QF.mk Tryz.underlying61 rfl rfl tok9 (by decide)
theorem Qay : QF Tryz.prog 61 1 1 := QF.mk Tryz.underlying61 rfl rfl tok9 (by decide)
theorem QeR : QF Tryz.prog 61 2 2 := QF.mk Tryz.underlying61 rfl rfl tok9 (by decide)
theorem QaR : QF Tryz.prog 61 3 3 := QF.mk Tryz.underlying61 rfl rfl tok3 (by decide)
theorem Qa8 : QF Tryz.prog 61 4 4 := QF.mk Tryz.underlying61 rfl rfl tok3 (by decide)
theorem QbR : QF Tryz.prog 61 5 5 := QF.mk Tryz.underlying61 rfl rfl tok3 (by decide)
theorem QhP : QF Tryz.prog 61 6 6 := QF.mk Tryz.underlying61 rfl rfl Qf9 (by decide)
theorem Qge : QF Tryz.prog 61 7 7 := QF.mk Tryz.underlying61 rfl rfl Qf8 (by decide)
theorem QtR : QF Tryz.prog 76 0 0 := QF.mk Tryz.underlying76 rfl rfl Qf8 (by decide)
theorem QnO : QF Tryz.prog 76 1 1 := QF.mk Tryz.underlying76 rfl rfl tok3 (by decide)
theorem Qj0 : QF Tryz.prog 81 0 0 := QF.mk Tryz.underlying81 rfl rfl tok9 (by decide)
theorem QlV : QF Tryz.prog 81 1 1 := QF.mk Tryz.underlying81 rfl rfl Qf9 (by decide)
theorem Qgf : QF Tryz.prog 81 2 2 := QF.mk Tryz.underlying81 rfl rfl QoP (by decide)
theorem QlW : QF Tryz.prog 84 0 0 := QF.mk Tryz.underlying84 rfl rfl tok9 (by decide)
theorem QnP : QF Tryz.prog 84 1 1 := QF.mk Tryz.underlying84 rfl rfl tok9 (by decide)
theorem Qi2 : QF Tryz.prog 84 2 2 := QF.mk Tryz.underlying84 rfl rfl tok9 (by decide)
theorem Qi3 : QF Tryz.prog 84 3 3 := QF.mk Tryz.underlying84 rfl rfl tok9 (by decide)
theorem Qqh : QF Tryz.prog 84 4 4 := QF.mk Tryz.underlying84 rfl rfl tok3 (by decide)
theorem QsX : QF Tryz.prog 105 0 0 := QF.mk Tryz.underlying105 rfl rfl tok31 (by decide)
theorem Qms : QF Tryz.prog 105 1 1 := QF.mk Tryz.underlying105 rfl rfl Qf8 (by decide)
theorem Qmt : QF Tryz.prog 105 2 2 := QF.mk Tryz.underlying105 rfl rfl Qrr (by decide)
theorem QhQ : QF Tryz.prog 105 3 3 := QF.mk Tryz.underlying105 rfl rfl Qhb (by decide)
theorem QkA : QF Tryz.prog 105 4 9 := QF.mk Tryz.underlying105 rfl rfl Qhb (by decide)
theorem QhR : QF Tryz.prog 105 5 15 := QF.mk Tryz.underlying105 rfl rfl tok3 (by decide)
theorem QsY : QF Tryz.prog 119 3 3 := QF.mk Tryz.underlying119 rfl rfl QoS (by decide)
theorem QsZ : QF Tryz.prog 125 0 0 := QF.mk Tryz.underlying125 rfl rfl tok4 (by decide)
theorem Qs0 : QF Tryz.prog 125 1 1 := QF.mk Tryz.underlying125 rfl rfl QoS (by decide)
theorem Qs1 : QF Tryz.prog 129 0 0 := QF.mk Tryz.underlying129 rfl rfl tok128 (by decide)
theorem Qfa : QF Tryz.prog 133 0 0 := QF.mk Tryz.underlying133 rfl rfl QaG (by decide)
theorem QhS : QF Tryz.prog 133 1 4 := QF.mk Tryz.underlying133 rfl rfl tok3 (by decide)
theorem QkB : QF Tryz.prog 133 2 5 := QF.mk Tryz.underlying133 rfl rfl tok3 (by decide)
theorem Qjb : QF Tryz.prog 133 3 6 := QF.mk Tryz.underlying133 rfl rfl QR (by decide)
theorem call10 : Qs Tryz.prog 10 := ⟨⟨_,Tryz.func10,by kernel_rfl,rfl⟩⟩
theorem Qpn : Qs Tryz.prog 12 := ⟨⟨_,Tryz.func12,by kernel_rfl,rfl⟩⟩
theorem Qrv : Qs Tryz.prog 16 := ⟨⟨_,Tryz.func16,by kernel_rfl,rfl⟩⟩
theorem call17 : Qs Tryz.prog 17 := ⟨⟨_,Tryz.func17,by kernel_rfl,rfl⟩⟩
theorem Qrw : Qs Tryz.prog 19 := ⟨⟨_,Tryz.func19,by kernel_rfl,rfl⟩⟩
theorem Qlg : Qs Tryz.prog 21 := ⟨⟨_,Tryz.func21,by kernel_rfl,rfl⟩⟩
theorem Qnd : Qs Tryz.prog 23 := ⟨⟨_,Tryz.func23,by kernel_rfl,rfl⟩⟩
theorem Qne : Qs Tryz.prog 25 := ⟨⟨_,Tryz.func25,by kernel_rfl,rfl⟩⟩
theorem Qnf : Qs Tryz.prog 26 := ⟨⟨_,Tryz.func26,by kernel_rfl,rfl⟩⟩
theorem call27 : Qs Tryz.prog 27 := ⟨⟨_,Tryz.func27,by kernel_rfl,rfl⟩⟩
theorem Qrx : Qs Tryz.prog 30 := ⟨⟨_,Tryz.func30,by kernel_rfl,rfl⟩⟩
theorem Qry : Qs Tryz.prog 31 := ⟨⟨_,Tryz.func31,by kernel_rfl,rfl⟩⟩
theorem Qaq : Qs Tryz.prog 32 := ⟨⟨_,Tryz.func32,by kernel_rfl,rfl⟩⟩
theorem call33 : Qs Tryz.prog 33 := ⟨⟨_,Tryz.func33,by kernel_rfl,rfl⟩⟩
theorem call34 : Qs Tryz.prog 34 := ⟨⟨_,Tryz.func34,by kernel_rfl,rfl⟩⟩
theorem call36 : Qs Tryz.prog 36 := ⟨⟨_,Tryz.func36,by kernel_rfl,rfl⟩⟩
theorem Qrz : Qs Tryz.prog 37 := ⟨⟨_,Tryz.func37,by kernel_rfl,rfl⟩⟩
theorem Qj1 : Qs Tryz.prog 38 := ⟨⟨_,Tryz.func38,by kernel_rfl,rfl⟩⟩
theorem QrA : Qs Tryz.prog 41 := ⟨⟨_,Tryz.func41,by kernel_rfl,rfl⟩⟩
theorem QrB : Qs Tryz.prog 42 := ⟨⟨_,Tryz.func42,by kernel_rfl,rfl⟩⟩
theorem QrC : Qs Tryz.prog 43 := ⟨⟨_,Tryz.func43,by kernel_rfl,rfl⟩⟩
theorem call44 : Qs Tryz.prog 44 := ⟨⟨_,Tryz.func44,by kernel_rfl,rfl⟩⟩
theorem QrD : Qs Tryz.prog 45 := ⟨⟨_,Tryz.func45,by kernel_rfl,rfl⟩⟩
theorem QrE : Qs Tryz.prog 46 := ⟨⟨_,Tryz.func46,by kernel_rfl,rfl⟩⟩
theorem call49 : Qs Tryz.prog 49 := ⟨⟨_,Tryz.func49,by kernel_rfl,rfl⟩⟩
theorem QrF : Qs Tryz.prog 50 := ⟨⟨_,Tryz.func50,by kernel_rfl,rfl⟩⟩
theorem call51 : Qs Tryz.prog 51 := ⟨⟨_,Tryz.func51,by kernel_rfl,rfl⟩⟩
theorem QrG : Qs Tryz.prog 55 := ⟨⟨_,Tryz.func55,by kernel_rfl,rfl⟩⟩
theorem call56 : Qs Tryz.prog 56 := ⟨⟨_,Tryz.func56,by kernel_rfl,rfl⟩⟩
theorem Qpo : Qs Tryz.prog 57 := ⟨⟨_,Tryz.func57,by kernel_rfl,rfl⟩⟩
theorem QrH : Qs Tryz.prog 58 := ⟨⟨_,Tryz.func58,by kernel_rfl,rfl⟩⟩
theorem QrI : Qs Tryz.prog 59 := ⟨⟨_,Tryz.func59,by kernel_rfl,rfl⟩⟩
theorem call62 : Qs Tryz.prog 62 := ⟨⟨_,Tryz.func62,by kernel_rfl,rfl⟩⟩
theorem Qng : Qs Tryz.prog 63 := ⟨⟨_,Tryz.func63,by kernel_rfl,rfl⟩⟩
theorem Qpp : Qs Tryz.prog 64 := ⟨⟨_,Tryz.func64,by kernel_rfl,rfl⟩⟩
theorem call65 : Qs Tryz.prog 65 := ⟨⟨_,Tryz.func65,by kernel_rfl,rfl⟩⟩
theorem QfR : Qs Tryz.prog 66 := ⟨⟨_,Tryz.func66,by kernel_rfl,rfl⟩⟩
theorem call67 : Qs Tryz.prog 67 := ⟨⟨_,Tryz.func67,by kernel_rfl,rfl⟩⟩
theorem Qlh : Qs Tryz.prog 68 := ⟨⟨_,Tryz.func68,by kernel_rfl,rfl⟩⟩
theorem call69 : Qs Tryz.prog 69 := ⟨⟨_,Tryz.func69,by kernel_rfl,rfl⟩⟩
theorem call70 : Qs Tryz.prog 70 := ⟨⟨_,Tryz.func70,by kernel_rfl,rfl⟩⟩
theorem Qnh : Qs Tryz.prog 71 := ⟨⟨_,Tryz.func71,by kernel_rfl,rfl⟩⟩
theorem QrJ : Qs Tryz.prog 72 := ⟨⟨_,Tryz.func72,by kernel_rfl,rfl⟩⟩
theorem QrK : Qs Tryz.prog 73 := ⟨⟨_,Tryz.func73,by kernel_rfl,rfl⟩⟩
theorem call74 : Qs Tryz.prog 74 := ⟨⟨_,Tryz.func74,by kernel_rfl,rfl⟩⟩
theorem call81 : Qs Tryz.prog 81 := ⟨⟨_,Tryz.func81,by kernel_rfl,rfl⟩⟩
theorem Qpq : Qs Tryz.prog 82 := ⟨⟨_,Tryz.func82,by kernel_rfl,rfl⟩⟩
theorem call83 : Qs Tryz.prog 83 := ⟨⟨_,Tryz.func83,by kernel_rfl,rfl⟩⟩
theorem call84 : Qs Tryz.prog 84 := ⟨⟨_,Tryz.func84,by kernel_rfl,rfl⟩⟩
theorem call85 : Qs Tryz.prog 85 := ⟨⟨_,Tryz.func85,by kernel_rfl,rfl⟩⟩
theorem call88 : Qs Tryz.prog 88 := ⟨⟨_,Tryz.func88,by kernel_rfl,rfl⟩⟩
theorem call89 : Qs Tryz.prog 89 := ⟨⟨_,Tryz.func89,by kernel_rfl,rfl⟩⟩
theorem call90 : Qs Tryz.prog 90 := ⟨⟨_,Tryz.func90,by kernel_rfl,rfl⟩⟩
theorem QrL : Qs Tryz.prog 91 := ⟨⟨_,Tryz.func91,by kernel_rfl,rfl⟩⟩
theorem call93 : Qs Tryz.prog 93 := ⟨⟨_,Tryz.func93,by kernel_rfl,rfl⟩⟩
theorem Qhi : Qs Tryz.prog 97 := ⟨⟨_,Tryz.func97,by kernel_rfl,rfl⟩⟩
theorem call98 : Qs Tryz.prog 98 := ⟨⟨_,Tryz.func98,by kernel_rfl,rfl⟩⟩
theorem call99 : Qs Tryz.prog 99 := ⟨⟨_,Tryz.func99,by kernel_rfl,rfl⟩⟩
theorem QtS : Qs Tryz.prog 100 := ⟨⟨_,Tryz.func100,by kernel_rfl,rfl⟩⟩
theorem QtT : Qs Tryz.prog 101 := ⟨⟨_,Tryz.func101,by kernel_rfl,rfl⟩⟩
theorem QtU : Qs Tryz.prog 102 := ⟨⟨_,Tryz.func102,by kernel_rfl,rfl⟩⟩
theorem QtV : Qs Tryz.prog 103 := ⟨⟨_,Tryz.func103,by kernel_rfl,rfl⟩⟩
theorem QtW : Qs Tryz.prog 104 := ⟨⟨_,Tryz.func104,by kernel_rfl,rfl⟩⟩
theorem QtX : Qs Tryz.prog 105 := ⟨⟨_,Tryz.func105,by kernel_rfl,rfl⟩⟩
theorem Qqi : Qs Tryz.prog 106 := ⟨⟨_,Tryz.func106,by kernel_rfl,rfl⟩⟩
theorem QtY : Qs Tryz.prog 107 := ⟨⟨_,Tryz.func107,by kernel_rfl,rfl⟩⟩
theorem Qqj : Qs Tryz.prog 108 := ⟨⟨_,Tryz.func108,by kernel_rfl,rfl⟩⟩
theorem QtZ : Qs Tryz.prog 109 := ⟨⟨_,Tryz.func109,by kernel_rfl,rfl⟩⟩
theorem Qj2 : Qs Tryz.prog 110 := ⟨⟨_,Tryz.func110,by kernel_rfl,rfl⟩⟩
theorem Qt0 : Qs Tryz.prog 119 := ⟨⟨_,Tryz.func119,by kernel_rfl,rfl⟩⟩
theorem Qt1 : Qs Tryz.prog 120 := ⟨⟨_,Tryz.func120,by kernel_rfl,rfl⟩⟩
theorem Qt2 : Qs Tryz.prog 121 := ⟨⟨_,Tryz.func121,by kernel_rfl,rfl⟩⟩
theorem Qt3 : Qs Tryz.prog 123 := ⟨⟨_,Tryz.func123,by kernel_rfl,rfl⟩⟩
theorem Qt4 : Qs Tryz.prog 124 := ⟨⟨_,Tryz.func124,by kernel_rfl,rfl⟩⟩
theorem Qcr : Qs Tryz.prog 125 := ⟨⟨_,Tryz.func125,by kernel_rfl,rfl⟩⟩
theorem Qi4 : Qs Tryz.prog 126 := ⟨⟨_,Tryz.func126,by kernel_rfl,rfl⟩⟩
theorem Qt5 : Qs Tryz.prog 127 := ⟨⟨_,Tryz.func127,by kernel_rfl,rfl⟩⟩
theorem Qt6 : Qs Tryz.prog 128 := ⟨⟨_,Tryz.func128,by kernel_rfl,rfl⟩⟩
theorem Qt7 : Qs Tryz.prog 129 := ⟨⟨_,Tryz.func129,by kernel_rfl,rfl⟩⟩
theorem Qqk : Qs Tryz.prog 130 := ⟨⟨_,Tryz.func130,by kernel_rfl,rfl⟩⟩
theorem Qt8 : Qs Tryz.prog 131 := ⟨⟨_,Tryz.func131,by kernel_rfl,rfl⟩⟩
theorem Qt9 : Qs Tryz.prog 132 := ⟨⟨_,Tryz.func132,by kernel_rfl,rfl⟩⟩
theorem Qua : Qs Tryz.prog 133 := ⟨⟨_,Tryz.func133,by kernel_rfl,rfl⟩⟩
theorem Qek : Qs Tryz.prog 135 := ⟨⟨_,Tryz.func135,by kernel_rfl,rfl⟩⟩
theorem Qub : Qs Tryz.prog 136 := ⟨⟨_,Tryz.func136,by kernel_rfl,rfl⟩⟩
theorem QnQ : Qs Tryz.prog 137 := ⟨⟨_,Tryz.func137,by kernel_rfl,rfl⟩⟩
theorem Quc : Qs Tryz.prog 139 := ⟨⟨_,Tryz.func139,by kernel_rfl,rfl⟩⟩
theorem Qql : Qs Tryz.prog 149 := ⟨⟨_,Tryz.func149,by kernel_rfl,rfl⟩⟩
theorem Qqm : Qs Tryz.prog 150 := ⟨⟨_,Tryz.func150,by kernel_rfl,rfl⟩⟩
theorem Qud : Qs Tryz.prog 151 := ⟨⟨_,Tryz.func151,by kernel_rfl,rfl⟩⟩
theorem Que : Qs Tryz.prog 152 := ⟨⟨_,Tryz.func152,by kernel_rfl,rfl⟩⟩
theorem Quf : Qs Tryz.prog 153 := ⟨⟨_,Tryz.func153,by kernel_rfl,rfl⟩⟩
theorem Qug : Qs Tryz.prog 154 := ⟨⟨_,Tryz.func154,by kernel_rfl,rfl⟩⟩
theorem Quh : Qs Tryz.prog 155 := ⟨⟨_,Tryz.func155,by kernel_rfl,rfl⟩⟩
theorem Qui : Qs Tryz.prog 156 := ⟨⟨_,Tryz.func156,by kernel_rfl,rfl⟩⟩
theorem Quj : Qs Tryz.prog 157 := ⟨⟨_,Tryz.func157,by kernel_rfl,rfl⟩⟩
theorem Quk : Qs Tryz.prog 158 := ⟨⟨_,Tryz.func158,by kernel_rfl,rfl⟩⟩
theorem Qul : Qs Tryz.prog 159 := ⟨⟨_,Tryz.func159,by kernel_rfl,rfl⟩⟩
theorem Qum : Qs Tryz.prog 160 := ⟨⟨_,Tryz.func160,by kernel_rfl,rfl⟩⟩
theorem Qun : Qs Tryz.prog 161 := ⟨⟨_,Tryz.func161,by kernel_rfl,rfl⟩⟩
theorem Quo : Qs Tryz.prog 162 := ⟨⟨_,Tryz.func162,by kernel_rfl,rfl⟩⟩
theorem Qup : Qs Tryz.prog 166 := ⟨⟨_,Tryz.func166,by kernel_rfl,rfl⟩⟩
theorem Quq : Qs Tryz.prog 173 := ⟨⟨_,Tryz.func173,by kernel_rfl,rfl⟩⟩
theorem Qur : Qs Tryz.prog 174 := ⟨⟨_,Tryz.func174,by kernel_rfl,rfl⟩⟩
theorem Qus : Qs Tryz.prog 175 := ⟨⟨_,Tryz.func175,by kernel_rfl,rfl⟩⟩
theorem Qut : Qs Tryz.prog 176 := ⟨⟨_,Tryz.func176,by kernel_rfl,rfl⟩⟩
theorem Quu : Qs Tryz.prog 177 := ⟨⟨_,Tryz.func177,by kernel_rfl,rfl⟩⟩
theorem QnR : Qs Tryz.prog 204 := ⟨⟨_,Tryz.func204,by kernel_rfl,rfl⟩⟩
theorem Quv : Qs Tryz.prog 207 := ⟨⟨_,Tryz.func207,by kernel_rfl,rfl⟩⟩
theorem Quw : Qs Tryz.prog 208 := ⟨⟨_,Tryz.func208,by kernel_rfl,rfl⟩⟩
theorem Qux : Qs Tryz.prog 209 := ⟨⟨_,Tryz.func209,by kernel_rfl,rfl⟩⟩
theorem Quy : Qs Tryz.prog 210 := ⟨⟨_,Tryz.func210,by kernel_rfl,rfl⟩⟩
theorem Quz : Qs Tryz.prog 211 := ⟨⟨_,Tryz.func211,by kernel_rfl,rfl⟩⟩
theorem QuA : Qs Tryz.prog 212 := ⟨⟨_,Tryz.func212,by kernel_rfl,rfl⟩⟩
theorem QuB : Qs Tryz.prog 213 := ⟨⟨_,Tryz.func213,by kernel_rfl,rfl⟩⟩
theorem QuC : Qs Tryz.prog 214 := ⟨⟨_,Tryz.func214,by kernel_rfl,rfl⟩⟩
theorem Qqn : Qs Tryz.prog 215 := ⟨⟨_,Tryz.func215,by kernel_rfl,rfl⟩⟩
theorem QuD : Qs Tryz.prog 216 := ⟨⟨_,Tryz.func216,by kernel_rfl,rfl⟩⟩
theorem QlX : Qs Tryz.prog 217 := ⟨⟨_,Tryz.func217,by kernel_rfl,rfl⟩⟩
theorem QbB : TOk Tryz.prog 100 rVal 8 (.pointer none) := ⟨⟨_,Tryz.underlying100,rfl⟩,by kernel_rfl,rfl⟩
abbrev zz0 : Qb := (Qb.mk ([] : Str) ([] : Str) ([] : Str) (0:Int) (0:Int) (0:Int) ([] : (List Str)) ([] : (List Int)))
abbrev zz1 : Qi := (Qi.mk ([] : Str) (0:Int) (0:Int) ([] : (List Qb)))
abbrev zz2 : Qu := (Qu.mk ([] : Str) ([] : (List Str)) ([] : (List QJ)))
abbrev zz3 : Qo := (Qo.mk ([] : Str) ([] : Str) ([] : Str) ([] : Str) (0:Int))
abbrev zz4 : Qg := (Qg.mk (0:Int) ([] : (List Qi)) ([] : (List Qu)) ([] : (List Qo)))
abbrev zz5 : Qd := (Qd.mk (0:Int) (0:Int) (0:Int) false)
abbrev zz6 : Qm := (Qm.mk (0:Int) (0:Int) (0:Int) (0:Int) (0:Int) (0:Int))
abbrev QoT := Tryz.underlying101
abbrev Qhj := Tryz.underlying103
abbrev Qea := Tryz.underlying125
abbrev Qgg := Tryz.underlying166
abbrev Qeb := Tryz.underlying194
abbrev ud22 := Tryz.underlying22
abbrev ud23 := Tryz.underlying23
abbrev ud24 := Tryz.underlying24
abbrev ud25 := Tryz.underlying25
abbrev ud3 := Tryz.underlying3
abbrev ud31 := Tryz.underlying31
abbrev ud32 := Tryz.underlying32
abbrev ud53 := Tryz.underlying53
abbrev ud61 := Tryz.underlying61
abbrev ud68 := Tryz.underlying68
abbrev ud79 := Tryz.underlying79
abbrev ud82 := Tryz.underlying82
abbrev ud84 := Tryz.underlying84
abbrev ud9 := Tryz.underlying9

end Go.Proofs.YtcdccjagknlmpaaGreatDoor

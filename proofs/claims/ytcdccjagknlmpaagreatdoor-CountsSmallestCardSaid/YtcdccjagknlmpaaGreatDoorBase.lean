/- Closed facts on the types and functions of the translation, written by a program. No condition. -/
import Derived.Test.YtcdccjagknlmpaaGreatDoorSimQ
import Derived.Test.YtcdccjagknlmpaaGreatDoorRows
namespace Go.Proofs.YtcdccjagknlmpaaGreatDoor
open Go.Sim

theorem mixed : Tryz.prog.follows .mixedOrders = true := by kernel_rfl
theorem mx : Tryz.prog.follows .mixedOrders = true := mixed
def Qis : List (Value × Value) := [(.int .i64 0,.agg #[.func (.func 207) #[] #[]]),(.int .i64 1,.agg #[.func (.func 208) #[] #[]]),(.int .i64 4,.agg #[.func (.func 209) #[] #[]]),(.int .i64 5,.agg #[.func (.func 210) #[] #[]]),(.int .i64 6,.agg #[.func (.func 212) #[] #[]]),(.int .i64 7,.agg #[.func (.func 214) #[] #[]]),(.int .i64 8,.agg #[.func (.func 216) #[] #[]])]
def Qsk : Ty := Ql4 Qis
def Qrz : List Ty := [Qsk]
theorem tokM0 : TOk Tryz.prog 131 (rMapC Qis) 8 (.map none) := ⟨⟨_,Tryz.underlying131,rfl⟩,(by kernel_rfl : (Tryz.prog.info? 131).map (fun i => (i.zero,i.size,i.bytes)) = some (some (.map none),1,8)),rfl⟩
def QrA : List Int := [0,1,28,2,29,14,24,3,30,22,20,15,25,17,4,8,31,27,13,23,21,19,16,7,26,12,18,6,11,5,10,9]
def tglo1 : List Ty := QrA.flatMap (rInt .u8).cs
def Ql6 : List Int := [0,1,56,2,57,49,28,3,61,58,42,50,38,29,17,4,62,47,59,36,45,43,51,22,53,39,33,30,24,18,12,5,63,55,48,27,60,41,37,16,46,35,44,21,52,32,23,11,54,26,40,15,34,20,31,10,25,14,19,9,13,8,7,6]
def QrB : List Ty := Ql6.flatMap (rInt .u8).cs
def Qjl : List Str := [[107,101,121],[114,101,102],[110,117,109],[112,105,99,107],[100,97,121],[115,116,101,112],[115,117,109],[115,104,97,114,101],[99,111,112,121]]
def QrC : List Ty := Qjl.flatMap rS.cs
def QpT : List Int := [1,10,100,1000,10000,100000,1000000,10000000,100000000,1000000000,10000000000,100000000000,1000000000000,10000000000000,100000000000000,1000000000000000,10000000000000000,100000000000000000,1000000000000000000,10000000000000000000]
def QrD : List Ty := QpT.flatMap (rInt .u64).cs
abbrev bld := bldE 187 5
/-- What the package variables hold. -/
def glo : Atom := gloA [(0,Qrz),(1,tglo1),(2,QrB),(3,QrC),(4,QrD)]
theorem QpU : ∀ k,¬ glo.fp k := fun _ h => h
theorem _root_.Go.Sim.OpJ.glo {P : Program} {o : Oper} {Γ : List (Nat × Ty)} {U E : List Atom} {N : Value → List Atom} {T : Value → Ty} (h : OpJ P o Γ U (glo :: E) N T) : OpJ P o Γ (glo :: U) E N T := OpJ.gloG QpU h
theorem QuV : QkJ glo 0 Qrz := Ql3 (by simp)
theorem QtN : Qj8 glo 0 Qrz := QuV.has
theorem QuW : QkJ glo 2 QrB := Ql3 (by simp)
theorem QtO : Qj8 glo 2 QrB := QuW.has
theorem QuX : QkJ glo 3 QrC := Ql3 (by simp)
theorem QtP : Qj8 glo 3 QrC := QuX.has
theorem QuY : QkJ glo 4 QrD := Ql3 (by simp)
theorem tok3 : TOk Tryz.prog 3 rI 8 (.int .i64 0) := ⟨⟨_,Tryz.underlying3,rfl⟩,by kernel_rfl,rfl⟩
theorem zok3 : ∀ F w,(rI.ty (0:Int)).ok F w (.int .i64 0) := fun _ _ => rfl
theorem tok4 : TOk Tryz.prog 4 Qa5 1 (.bool false) := ⟨⟨_,Tryz.underlying4,rfl⟩,by kernel_rfl,rfl⟩
theorem zok4 : ∀ F w,(Qa5.ty false).ok F w (.bool false) := fun _ _ => rfl
theorem tok5 : TOk Tryz.prog 5 (rInt .u8) 1 (.int .u8 0) := ⟨⟨_,Tryz.underlying5,rfl⟩,by kernel_rfl,rfl⟩
theorem tok9 : TOk Tryz.prog 9 rS 16 (.string .empty) := ⟨⟨_,Tryz.underlying9,rfl⟩,by kernel_rfl,rfl⟩
theorem Qeg : TOk Tryz.prog 20 (rAny 3 9) 16 .nilIface := ⟨⟨_,Tryz.underlying20,rfl⟩,by kernel_rfl,rfl⟩
theorem Qgc : TOk Tryz.prog 22 (rSl rI) 24 (.slice none 0 0) := ⟨⟨_,Tryz.underlying22,rfl⟩,by kernel_rfl,rfl⟩
theorem Qgd : TOk Tryz.prog 32 (rSl rS) 24 (.slice none 0 0) := ⟨⟨_,Tryz.underlying32,rfl⟩,by kernel_rfl,rfl⟩
structure Qc where
  Name : Str
  Of : Str
  Up : Str
  Kind : Int
  Lo : Int
  Hi : Int
  Words : (List Str)
  Weights : (List Int)
deriving Inhabited
@[reducible] def Qd : Rep Qc := ⟨fun x => ([tv (.string (sB x.Name)),tv (.string (sB x.Of)),tv (.string (sB x.Up)),ti x.Kind,ti x.Lo,ti x.Hi,tsl rS x.Words,tsl rI x.Weights]),8,true,fun _ => rfl,fun _ => (Qy (Q3 rfl) (Qy (Q3 rfl) (Qy (Q3 rfl) (Qy (Q3 rfl) (Qy (Q3 rfl) (Qy (Q3 rfl) (Qy Qcd (Qy Qcd Qal)))))))),fun h => (by cases h)⟩
theorem QS : TOk Tryz.prog 61 Qd 120 (.agg #[(.string .empty),(.string .empty),(.string .empty),(.int .i64 0),(.int .i64 0),(.int .i64 0),(.slice none 0 0),(.slice none 0 0)]) := ⟨⟨_,Tryz.underlying61,rfl⟩,by kernel_rfl,rfl⟩
theorem zc61 : ∀ F w,QP (Qd.cs (Qc.mk ([] : Str) ([] : Str) ([] : Str) (0:Int) (0:Int) (0:Int) ([] : (List Str)) ([] : (List Int)))) F w ((.agg #[(.string .empty),(.string .empty),(.string .empty),(.int .i64 0),(.int .i64 0),(.int .i64 0),(.slice none 0 0),(.slice none 0 0)]) : Value).cells.toList := fun _ _ => (.cons rfl (.cons rfl (.cons rfl (.cons rfl (.cons rfl (.cons rfl (.cons ⟨none,0,rfl,Nat.le_refl _,fun h => (h rfl).elim⟩ (.cons ⟨none,0,rfl,Nat.le_refl _,fun h => (h rfl).elim⟩ .nil))))))))
theorem Qeh : ∀ F w,(Qd.ty (Qc.mk ([] : Str) ([] : Str) ([] : Str) (0:Int) (0:Int) (0:Int) ([] : (List Str)) ([] : (List Int)))).ok F w (.agg #[(.string .empty),(.string .empty),(.string .empty),(.int .i64 0),(.int .i64 0),(.int .i64 0),(.slice none 0 0),(.slice none 0 0)]) := fun F w => ⟨_,rfl,zc61 F w⟩
theorem zv61 : (Tryz.prog.info? 61).bind (·.zero) = some (.agg #[(.string .empty),(.string .empty),(.string .empty),(.int .i64 0),(.int .i64 0),(.int .i64 0),(.slice none 0 0),(.slice none 0 0)]) := by kernel_rfl
theorem pl61 : ∀ w, ((#[⟨"Name", 9, 0, false, "", "", 0⟩, ⟨"Of", 9, 1, false, "", "", 16⟩, ⟨"Up", 9, 2, false, "", "", 32⟩, ⟨"Kind", 3, 3, false, "", "", 48⟩, ⟨"Lo", 3, 4, false, "", "", 56⟩, ⟨"Hi", 3, 5, false, "", "", 64⟩, ⟨"Words", 32, 6, false, "", "", 72⟩, ⟨"Weights", 22, 7, false, "", "", 96⟩] : Array Field).mapM (fun f => do pure (f.offset, ← sizeOf f.type) : Field → Sem (Nat × Nat))).run Tryz.prog w = .ok #[(0, 1), (1, 1), (2, 1), (3, 1), (4, 1), (5, 1), (6, 1), (7, 1)] w := fun _ => by kernel_rfl
theorem QtQ : (∀ F w,QP ([tv (.string (sB ([] : Str))),tv (.string (sB ([] : Str))),tv (.string (sB ([] : Str))),ti (0:Int),ti (0:Int),ti (0:Int),tsl rS ([] : (List Str)),tvs nilV]) F w ((.agg #[(.string .empty),(.string .empty),(.string .empty),(.int .i64 0),(.int .i64 0),(.int .i64 0),(.slice none 0 0),(.slice none 0 0)]) : Value).cells.toList) ∧ ([tv (.string (sB ([] : Str))),tv (.string (sB ([] : Str))),tv (.string (sB ([] : Str))),ti (0:Int),ti (0:Int),ti (0:Int),tsl rS ([] : (List Str)),tvs nilV]).length = 8 ∧ Qd.agg = true ∧ ∃ cs,((.agg #[(.string .empty),(.string .empty),(.string .empty),(.int .i64 0),(.int .i64 0),(.int .i64 0),(.slice none 0 0),(.slice none 0 0)]) : Value) = .agg cs := ⟨fun _ _ => (.cons rfl (.cons rfl (.cons rfl (.cons rfl (.cons rfl (.cons rfl (.cons ⟨none,0,rfl,Nat.le_refl _,fun h => (h rfl).elim⟩ (.cons ⟨rfl,rfl⟩ .nil)))))))),rfl,rfl,_,rfl⟩
theorem Qc8 : TOk Tryz.prog 53 (rSl Qd) 24 (.slice none 0 0) := ⟨⟨_,Tryz.underlying53,rfl⟩,by kernel_rfl,rfl⟩
structure Qi where
  Name : Str
  Lo : Int
  Hi : Int
  Fields : (List Qc)
deriving Inhabited
@[reducible] def Qk : Rep Qi := ⟨fun x => ([tv (.string (sB x.Name)),ti x.Lo,ti x.Hi,tsl Qd x.Fields]),4,true,fun _ => rfl,fun _ => (Qy (Q3 rfl) (Qy (Q3 rfl) (Qy (Q3 rfl) (Qy Qcd Qal)))),fun h => (by cases h)⟩
theorem Q7 : TOk Tryz.prog 55 Qk 56 (.agg #[(.string .empty),(.int .i64 0),(.int .i64 0),(.slice none 0 0)]) := ⟨⟨_,Tryz.underlying55,rfl⟩,by kernel_rfl,rfl⟩
theorem zc55 : ∀ F w,QP (Qk.cs (Qi.mk ([] : Str) (0:Int) (0:Int) ([] : (List Qc)))) F w ((.agg #[(.string .empty),(.int .i64 0),(.int .i64 0),(.slice none 0 0)]) : Value).cells.toList := fun _ _ => (.cons rfl (.cons rfl (.cons rfl (.cons ⟨none,0,rfl,Nat.le_refl _,fun h => (h rfl).elim⟩ .nil))))
theorem QiY : ∀ F w,(Qk.ty (Qi.mk ([] : Str) (0:Int) (0:Int) ([] : (List Qc)))).ok F w (.agg #[(.string .empty),(.int .i64 0),(.int .i64 0),(.slice none 0 0)]) := fun F w => ⟨_,rfl,zc55 F w⟩
theorem zv55 : (Tryz.prog.info? 55).bind (·.zero) = some (.agg #[(.string .empty),(.int .i64 0),(.int .i64 0),(.slice none 0 0)]) := by kernel_rfl
theorem pl55 : ∀ w, ((#[⟨"Name", 9, 0, false, "", "", 0⟩, ⟨"Lo", 3, 1, false, "", "", 16⟩, ⟨"Hi", 3, 2, false, "", "", 24⟩, ⟨"Fields", 53, 3, false, "", "", 32⟩] : Array Field).mapM (fun f => do pure (f.offset, ← sizeOf f.type) : Field → Sem (Nat × Nat))).run Tryz.prog w = .ok #[(0, 1), (1, 1), (2, 1), (3, 1)] w := fun _ => by kernel_rfl
theorem QtR : (∀ F w,QP ([tv (.string (sB ([] : Str))),ti (0:Int),ti (0:Int),tvs nilV]) F w ((.agg #[(.string .empty),(.int .i64 0),(.int .i64 0),(.slice none 0 0)]) : Value).cells.toList) ∧ ([tv (.string (sB ([] : Str))),ti (0:Int),ti (0:Int),tvs nilV]).length = 4 ∧ Qk.agg = true ∧ ∃ cs,((.agg #[(.string .empty),(.int .i64 0),(.int .i64 0),(.slice none 0 0)]) : Value) = .agg cs := ⟨fun _ _ => (.cons rfl (.cons rfl (.cons rfl (.cons ⟨rfl,rfl⟩ .nil)))),rfl,rfl,_,rfl⟩
theorem Qdp : TOk Tryz.prog 23 (rSl Qk) 24 (.slice none 0 0) := ⟨⟨_,Tryz.underlying23,rfl⟩,by kernel_rfl,rfl⟩
structure QK where
  a0 : Int
  a1 : Int
deriving Inhabited
@[reducible] def Q8 : Rep QK := ⟨fun x => ([ti x.a0,ti x.a1]),2,true,fun _ => rfl,fun _ => (Qy (Q3 rfl) (Qy (Q3 rfl) Qal)),fun h => (by cases h)⟩
theorem Qge : TOk Tryz.prog 82 Q8 16 (.agg #[(.int .i64 0),(.int .i64 0)]) := ⟨⟨_,Tryz.underlying82,rfl⟩,by kernel_rfl,rfl⟩
theorem zc82 : ∀ F w,QP (Q8.cs (QK.mk (0:Int) (0:Int))) F w ((.agg #[(.int .i64 0),(.int .i64 0)]) : Value).cells.toList := fun _ _ => (.cons rfl (.cons rfl .nil))
theorem zok82 : ∀ F w,(Q8.ty (QK.mk (0:Int) (0:Int))).ok F w (.agg #[(.int .i64 0),(.int .i64 0)]) := fun F w => ⟨_,rfl,zc82 F w⟩
theorem zv82 : (Tryz.prog.info? 82).bind (·.zero) = some (.agg #[(.int .i64 0),(.int .i64 0)]) := by kernel_rfl
theorem Qpp : TOk Tryz.prog 79 (rSl Q8) 24 (.slice none 0 0) := ⟨⟨_,Tryz.underlying79,rfl⟩,by kernel_rfl,rfl⟩
structure Qu where
  Name : Str
  States : (List Str)
  Moves : (List QK)
deriving Inhabited
@[reducible] def QJ : Rep Qu := ⟨fun x => ([tv (.string (sB x.Name)),tsl rS x.States,tsl Q8 x.Moves]),3,true,fun _ => rfl,fun _ => (Qy (Q3 rfl) (Qy Qcd (Qy Qcd Qal))),fun h => (by cases h)⟩
theorem Qex : TOk Tryz.prog 81 QJ 64 (.agg #[(.string .empty),(.slice none 0 0),(.slice none 0 0)]) := ⟨⟨_,Tryz.underlying81,rfl⟩,by kernel_rfl,rfl⟩
theorem zc81 : ∀ F w,QP (QJ.cs (Qu.mk ([] : Str) ([] : (List Str)) ([] : (List QK)))) F w ((.agg #[(.string .empty),(.slice none 0 0),(.slice none 0 0)]) : Value).cells.toList := fun _ _ => (.cons rfl (.cons ⟨none,0,rfl,Nat.le_refl _,fun h => (h rfl).elim⟩ (.cons ⟨none,0,rfl,Nat.le_refl _,fun h => (h rfl).elim⟩ .nil)))
theorem QrE : ∀ F w,(QJ.ty (Qu.mk ([] : Str) ([] : (List Str)) ([] : (List QK)))).ok F w (.agg #[(.string .empty),(.slice none 0 0),(.slice none 0 0)]) := fun F w => ⟨_,rfl,zc81 F w⟩
theorem zv81 : (Tryz.prog.info? 81).bind (·.zero) = some (.agg #[(.string .empty),(.slice none 0 0),(.slice none 0 0)]) := by kernel_rfl
theorem pl81 : ∀ w, ((#[⟨"Name", 9, 0, false, "", "", 0⟩, ⟨"States", 32, 1, false, "", "", 16⟩, ⟨"Moves", 79, 2, false, "", "", 40⟩] : Array Field).mapM (fun f => do pure (f.offset, ← sizeOf f.type) : Field → Sem (Nat × Nat))).run Tryz.prog w = .ok #[(0, 1), (1, 1), (2, 1)] w := fun _ => by kernel_rfl
theorem QtS : (∀ F w,QP ([tv (.string (sB ([] : Str))),tsl rS ([] : (List Str)),tvs nilV]) F w ((.agg #[(.string .empty),(.slice none 0 0),(.slice none 0 0)]) : Value).cells.toList) ∧ ([tv (.string (sB ([] : Str))),tsl rS ([] : (List Str)),tvs nilV]).length = 3 ∧ QJ.agg = true ∧ ∃ cs,((.agg #[(.string .empty),(.slice none 0 0),(.slice none 0 0)]) : Value) = .agg cs := ⟨fun _ _ => (.cons rfl (.cons ⟨none,0,rfl,Nat.le_refl _,fun h => (h rfl).elim⟩ (.cons ⟨rfl,rfl⟩ .nil))),rfl,rfl,_,rfl⟩
theorem QkM : TOk Tryz.prog 24 (rSl QJ) 24 (.slice none 0 0) := ⟨⟨_,Tryz.underlying24,rfl⟩,by kernel_rfl,rfl⟩
structure Qo where
  Name : Str
  Kind : Str
  A : Str
  B : Str
  N : Int
deriving Inhabited
@[reducible] def QC : Rep Qo := ⟨fun x => ([tv (.string (sB x.Name)),tv (.string (sB x.Kind)),tv (.string (sB x.A)),tv (.string (sB x.B)),ti x.N]),5,true,fun _ => rfl,fun _ => (Qy (Q3 rfl) (Qy (Q3 rfl) (Qy (Q3 rfl) (Qy (Q3 rfl) (Qy (Q3 rfl) Qal))))),fun h => (by cases h)⟩
theorem Qcb : TOk Tryz.prog 84 QC 72 (.agg #[(.string .empty),(.string .empty),(.string .empty),(.string .empty),(.int .i64 0)]) := ⟨⟨_,Tryz.underlying84,rfl⟩,by kernel_rfl,rfl⟩
theorem zc84 : ∀ F w,QP (QC.cs (Qo.mk ([] : Str) ([] : Str) ([] : Str) ([] : Str) (0:Int))) F w ((.agg #[(.string .empty),(.string .empty),(.string .empty),(.string .empty),(.int .i64 0)]) : Value).cells.toList := fun _ _ => (.cons rfl (.cons rfl (.cons rfl (.cons rfl (.cons rfl .nil)))))
theorem Qpq : ∀ F w,(QC.ty (Qo.mk ([] : Str) ([] : Str) ([] : Str) ([] : Str) (0:Int))).ok F w (.agg #[(.string .empty),(.string .empty),(.string .empty),(.string .empty),(.int .i64 0)]) := fun F w => ⟨_,rfl,zc84 F w⟩
theorem zv84 : (Tryz.prog.info? 84).bind (·.zero) = some (.agg #[(.string .empty),(.string .empty),(.string .empty),(.string .empty),(.int .i64 0)]) := by kernel_rfl
theorem pl84 : ∀ w, ((#[⟨"Name", 9, 0, false, "", "", 0⟩, ⟨"Kind", 9, 1, false, "", "", 16⟩, ⟨"A", 9, 2, false, "", "", 32⟩, ⟨"B", 9, 3, false, "", "", 48⟩, ⟨"N", 3, 4, false, "", "", 64⟩] : Array Field).mapM (fun f => do pure (f.offset, ← sizeOf f.type) : Field → Sem (Nat × Nat))).run Tryz.prog w = .ok #[(0, 1), (1, 1), (2, 1), (3, 1), (4, 1)] w := fun _ => by kernel_rfl
theorem QkN : TOk Tryz.prog 25 (rSl QC) 24 (.slice none 0 0) := ⟨⟨_,Tryz.underlying25,rfl⟩,by kernel_rfl,rfl⟩
structure Qg where
  Version : Int
  Kinds : (List Qi)
  Lives : (List Qu)
  Rules : (List Qo)
deriving Inhabited
@[reducible] def Qm : Rep Qg := ⟨fun x => ([ti x.Version,tsl Qk x.Kinds,tsl QJ x.Lives,tsl QC x.Rules]),4,true,fun _ => rfl,fun _ => (Qy (Q3 rfl) (Qy Qcd (Qy Qcd (Qy Qcd Qal)))),fun h => (by cases h)⟩
theorem QaR : TOk Tryz.prog 27 Qm 80 (.agg #[(.int .i64 0),(.slice none 0 0),(.slice none 0 0),(.slice none 0 0)]) := ⟨⟨_,Tryz.underlying27,rfl⟩,by kernel_rfl,rfl⟩
theorem zc27 : ∀ F w,QP (Qm.cs (Qg.mk (0:Int) ([] : (List Qi)) ([] : (List Qu)) ([] : (List Qo)))) F w ((.agg #[(.int .i64 0),(.slice none 0 0),(.slice none 0 0),(.slice none 0 0)]) : Value).cells.toList := fun _ _ => (.cons rfl (.cons ⟨none,0,rfl,Nat.le_refl _,fun h => (h rfl).elim⟩ (.cons ⟨none,0,rfl,Nat.le_refl _,fun h => (h rfl).elim⟩ (.cons ⟨none,0,rfl,Nat.le_refl _,fun h => (h rfl).elim⟩ .nil))))
theorem Qpr : ∀ F w,(Qm.ty (Qg.mk (0:Int) ([] : (List Qi)) ([] : (List Qu)) ([] : (List Qo)))).ok F w (.agg #[(.int .i64 0),(.slice none 0 0),(.slice none 0 0),(.slice none 0 0)]) := fun F w => ⟨_,rfl,zc27 F w⟩
theorem zv27 : (Tryz.prog.info? 27).bind (·.zero) = some (.agg #[(.int .i64 0),(.slice none 0 0),(.slice none 0 0),(.slice none 0 0)]) := by kernel_rfl
theorem pl27 : ∀ w, ((#[⟨"Version", 3, 0, false, "", "", 0⟩, ⟨"Kinds", 23, 1, false, "", "", 8⟩, ⟨"Lives", 24, 2, false, "", "", 32⟩, ⟨"Rules", 25, 3, false, "", "", 56⟩] : Array Field).mapM (fun f => do pure (f.offset, ← sizeOf f.type) : Field → Sem (Nat × Nat))).run Tryz.prog w = .ok #[(0, 1), (1, 1), (2, 1), (3, 1)] w := fun _ => by kernel_rfl
theorem QpV : (∀ F w,QP ([ti (0:Int),tvs nilV,tvs nilV,tvs nilV]) F w ((.agg #[(.int .i64 0),(.slice none 0 0),(.slice none 0 0),(.slice none 0 0)]) : Value).cells.toList) ∧ ([ti (0:Int),tvs nilV,tvs nilV,tvs nilV]).length = 4 ∧ Qm.agg = true ∧ ∃ cs,((.agg #[(.int .i64 0),(.slice none 0 0),(.slice none 0 0),(.slice none 0 0)]) : Value) = .agg cs := ⟨fun _ _ => (.cons rfl (.cons ⟨rfl,rfl⟩ (.cons ⟨rfl,rfl⟩ (.cons ⟨rfl,rfl⟩ .nil)))),rfl,rfl,_,rfl⟩
structure Qb where
  A : Int
  B : Int
  Mul : Int
  Least : Bool
deriving Inhabited
@[reducible] def Qj : Rep Qb := ⟨fun x => ([ti x.A,ti x.B,ti x.Mul,tb x.Least]),4,true,fun _ => rfl,fun _ => (Qy (Q3 rfl) (Qy (Q3 rfl) (Qy (Q3 rfl) (Qy (Q3 rfl) Qal)))),fun h => (by cases h)⟩
theorem QaE : TOk Tryz.prog 43 Qj 32 (.agg #[(.int .i64 0),(.int .i64 0),(.int .i64 0),(.bool false)]) := ⟨⟨_,Tryz.underlying43,rfl⟩,by kernel_rfl,rfl⟩
theorem zc43 : ∀ F w,QP (Qj.cs (Qb.mk (0:Int) (0:Int) (0:Int) false)) F w ((.agg #[(.int .i64 0),(.int .i64 0),(.int .i64 0),(.bool false)]) : Value).cells.toList := fun _ _ => (.cons rfl (.cons rfl (.cons rfl (.cons rfl .nil))))
theorem QrF : ∀ F w,(Qj.ty (Qb.mk (0:Int) (0:Int) (0:Int) false)).ok F w (.agg #[(.int .i64 0),(.int .i64 0),(.int .i64 0),(.bool false)]) := fun F w => ⟨_,rfl,zc43 F w⟩
theorem zv43 : (Tryz.prog.info? 43).bind (·.zero) = some (.agg #[(.int .i64 0),(.int .i64 0),(.int .i64 0),(.bool false)]) := by kernel_rfl
theorem pl43 : ∀ w, ((#[⟨"A", 3, 0, false, "", "", 0⟩, ⟨"B", 3, 1, false, "", "", 8⟩, ⟨"Mul", 3, 2, false, "", "", 16⟩, ⟨"Least", 4, 3, false, "", "", 24⟩] : Array Field).mapM (fun f => do pure (f.offset, ← sizeOf f.type) : Field → Sem (Nat × Nat))).run Tryz.prog w = .ok #[(0, 1), (1, 1), (2, 1), (3, 1)] w := fun _ => by kernel_rfl
theorem tok31 : TOk Tryz.prog 31 (rSl Qj) 24 (.slice none 0 0) := ⟨⟨_,Tryz.underlying31,rfl⟩,by kernel_rfl,rfl⟩
theorem Qps : TOk Tryz.prog 33 rI 8 (.int .i64 0) := ⟨⟨_,Tryz.underlying33,rfl⟩,by kernel_rfl,rfl⟩
structure Qv where
  L : (List Int)
  I : Int
deriving Inhabited
@[reducible] def Qt : Rep Qv := ⟨fun x => ([tsl rI x.L,ti x.I]),2,true,fun _ => rfl,fun _ => (Qy Qcd (Qy (Q3 rfl) Qal)),fun h => (by cases h)⟩
theorem zc76 : ∀ F w,QP (Qt.cs (Qv.mk ([] : (List Int)) (0:Int))) F w ((.agg #[(.slice none 0 0),(.int .i64 0)]) : Value).cells.toList := fun _ _ => (.cons ⟨none,0,rfl,Nat.le_refl _,fun h => (h rfl).elim⟩ (.cons rfl .nil))
theorem zv76 : (Tryz.prog.info? 76).bind (·.zero) = some (.agg #[(.slice none 0 0),(.int .i64 0)]) := by kernel_rfl
theorem pl76 : ∀ w, ((#[⟨"L", 22, 0, false, "", "", 0⟩, ⟨"I", 3, 1, false, "", "", 24⟩] : Array Field).mapM (fun f => do pure (f.offset, ← sizeOf f.type) : Field → Sem (Nat × Nat))).run Tryz.prog w = .ok #[(0, 1), (1, 1)] w := fun _ => by kernel_rfl
@[reducible] def tF96 (p : (Int → Option Bool)) : Ty := tfn Tryz.prog [] (A := Int) (B := Bool) (fun x => [ti x]) (fun y => tb y) (p)
@[reducible] def rF96 : Rep (Int → Option Bool) := ⟨fun p => [tF96 p],1,false,fun _ => rfl,fun _ => Qy Qer Qal,fun _ => rfl⟩
theorem Qsl : TOk Tryz.prog 101 (rSl Qa5) 24 (.slice none 0 0) := ⟨⟨_,Tryz.underlying101,rfl⟩,by kernel_rfl,rfl⟩
structure Ql where
  a0 : Int
  a1 : Int
  a2 : Int
  a3 : Int
  a4 : Int
  a5 : Int
deriving Inhabited
@[reducible] def Qx : Rep Ql := ⟨fun x => ([ti x.a0,ti x.a1,ti x.a2,ti x.a3,ti x.a4,ti x.a5]),6,true,fun _ => rfl,fun _ => (Qy (Q3 rfl) (Qy (Q3 rfl) (Qy (Q3 rfl) (Qy (Q3 rfl) (Qy (Q3 rfl) (Qy (Q3 rfl) Qal)))))),fun h => (by cases h)⟩
@[reducible] def Ql.L (a : Ql) : List Int := [a.a0,a.a1,a.a2,a.a3,a.a4,a.a5]
def Ql.setI (a : Ql) (i : Int) (v : Int) : Ql := match i.toNat with | 0 => { a with a0 := v } | 1 => { a with a1 := v } | 2 => { a with a2 := v } | 3 => { a with a3 := v } | 4 => { a with a4 := v } | 5 => { a with a5 := v } | _ => a
theorem Ql.spl {pre post : List Ty} {a : Ql} {i : Int} {v u : Int} {o : Nat} (ho : pre.length = o) (h : idx a.L i = some u) : splice (pre ++ Qx.cs a ++ post) (o + i.toNat) (rI.cs v) = pre ++ Qx.cs (a.setI i v) ++ post := by
  have h1 := (idx_lt' h).2.1
  unfold Ql.setI
  revert h1
  generalize i.toNat = k
  intro h1
  refine Qrx ho (show k + 1 ≤ 6 from h1) ?_
  match k,h1 with
  | 0,_ => rfl
  | 1,_ => rfl
  | 2,_ => rfl
  | 3,_ => rfl
  | 4,_ => rfl
  | 5,_ => rfl
theorem Qho : TOk Tryz.prog 103 Qx 48 (.agg #[(.int .i64 0),(.int .i64 0),(.int .i64 0),(.int .i64 0),(.int .i64 0),(.int .i64 0)]) := ⟨⟨_,Tryz.underlying103,rfl⟩,by kernel_rfl,rfl⟩
theorem zc103 : ∀ F w,QP (Qx.cs (Ql.mk (0:Int) (0:Int) (0:Int) (0:Int) (0:Int) (0:Int))) F w ((.agg #[(.int .i64 0),(.int .i64 0),(.int .i64 0),(.int .i64 0),(.int .i64 0),(.int .i64 0)]) : Value).cells.toList := fun _ _ => (.cons rfl (.cons rfl (.cons rfl (.cons rfl (.cons rfl (.cons rfl .nil))))))
theorem zok103 : ∀ F w,(Qx.ty (Ql.mk (0:Int) (0:Int) (0:Int) (0:Int) (0:Int) (0:Int))).ok F w (.agg #[(.int .i64 0),(.int .i64 0),(.int .i64 0),(.int .i64 0),(.int .i64 0),(.int .i64 0)]) := fun F w => ⟨_,rfl,zc103 F w⟩
def Qbj (p q : Ql) : Bool := p.a0 == q.a0 && p.a1 == q.a1 && p.a2 == q.a2 && p.a3 == q.a3 && p.a4 == q.a4 && p.a5 == q.a5
set_option maxHeartbeats 2000000 in
theorem QtT (n : Nat) (a0 b0 : Int) (a1 b1 : Int) (a2 b2 : Int) (a3 b3 : Int) (a4 b4 : Int) (a5 b5 : Int) (w : World) : (Op.equalIn (n + 2) 103 (.agg #[.int .i64 a0,.int .i64 a1,.int .i64 a2,.int .i64 a3,.int .i64 a4,.int .i64 a5]) (.agg #[.int .i64 b0,.int .i64 b1,.int .i64 b2,.int .i64 b3,.int .i64 b4,.int .i64 b5])).run Tryz.prog w = .ok (a0 == b0 && a1 == b1 && a2 == b2 && a3 == b3 && a4 == b4 && a5 == b5) w := by
  obtain ⟨ie,hie,_,hse,_⟩ := tok3.info
  have hse1 : ie.size = 1 := hse
  have e3 : ∀ x y : Int,(Op.equalIn (n + 1) 3 (.int .i64 x) (.int .i64 y)).run Tryz.prog w = .ok (x == y) w := fun x y => by simp [Op.equalIn,run_underlying Tryz.underlying3]
  have pt : ∀ (xs : Array Value) (i : Nat) (v : Value),xs[i]? = some v → (part 3 xs i).run Tryz.prog w = .ok v w := fun xs i v h => by simp [part,isAgg,run_underlying Tryz.underlying3,h]
  have p0 : ∀ u0 u1 u2 u3 u4 u5 : Int,(part 3 #[.int .i64 u0,.int .i64 u1,.int .i64 u2,.int .i64 u3,.int .i64 u4,.int .i64 u5] 0).run Tryz.prog w = .ok (.int .i64 u0) w := fun _ _ _ _ _ _ => pt _ 0 _ rfl
  have p1 : ∀ u0 u1 u2 u3 u4 u5 : Int,(part 3 #[.int .i64 u0,.int .i64 u1,.int .i64 u2,.int .i64 u3,.int .i64 u4,.int .i64 u5] 1).run Tryz.prog w = .ok (.int .i64 u1) w := fun _ _ _ _ _ _ => pt _ 1 _ rfl
  have p2 : ∀ u0 u1 u2 u3 u4 u5 : Int,(part 3 #[.int .i64 u0,.int .i64 u1,.int .i64 u2,.int .i64 u3,.int .i64 u4,.int .i64 u5] 2).run Tryz.prog w = .ok (.int .i64 u2) w := fun _ _ _ _ _ _ => pt _ 2 _ rfl
  have p3 : ∀ u0 u1 u2 u3 u4 u5 : Int,(part 3 #[.int .i64 u0,.int .i64 u1,.int .i64 u2,.int .i64 u3,.int .i64 u4,.int .i64 u5] 3).run Tryz.prog w = .ok (.int .i64 u3) w := fun _ _ _ _ _ _ => pt _ 3 _ rfl
  have p4 : ∀ u0 u1 u2 u3 u4 u5 : Int,(part 3 #[.int .i64 u0,.int .i64 u1,.int .i64 u2,.int .i64 u3,.int .i64 u4,.int .i64 u5] 4).run Tryz.prog w = .ok (.int .i64 u4) w := fun _ _ _ _ _ _ => pt _ 4 _ rfl
  have p5 : ∀ u0 u1 u2 u3 u4 u5 : Int,(part 3 #[.int .i64 u0,.int .i64 u1,.int .i64 u2,.int .i64 u3,.int .i64 u4,.int .i64 u5] 5).run Tryz.prog w = .ok (.int .i64 u5) w := fun _ _ _ _ _ _ => pt _ 5 _ rfl
  unfold Op.equalIn
  simp only [Sem.run_bind,run_underlying Tryz.underlying103,Result.andThen_ok,sizeOf,typeInfo,run_program,hie,Sem.run_pure,hse1,Nat.mul_one]
  simp [List.range',p0,p1,p2,p3,p4,p5,e3]
  by_cases h0 : a0 = b0 <;> by_cases h1 : a1 = b1 <;> by_cases h2 : a2 = b2 <;> by_cases h3 : a3 = b3 <;> by_cases h4 : a4 = b4 <;> by_cases h5 : a5 = b5 <;> simp [h0,h1,h2,h3,h4,h5,p0,p1,p2,p3,p4,p5,e3]
theorem QrG : Tryz.prog.eqGuardType Tryz.prog.depth 103 = false := by kernel_rfl
theorem QqH {Γ : List (Nat × Ty)} {d : Option Tmp} {ty t2 : TypeId} {pos : String} {af : Array Edge} {g : Option (Nat × Bool)} {x y : Operand} {p q : Ql} (hx : Fct Γ x (Qx.ty p)) (hy : Fct Γ y (Qx.ty q)) :
    OpJ Tryz.prog ⟨d,.binOp .neq 103 x y t2,ty,pos,af,g⟩ Γ [] [] (fun _ => []) (fun _ => tv (.bool (!Qbj p q))) :=
  QbI (u := .agg #[.int .i64 p.a0,.int .i64 p.a1,.int .i64 p.a2,.int .i64 p.a3,.int .i64 p.a4,.int .i64 p.a5]) (v := .agg #[.int .i64 q.a0,.int .i64 q.a1,.int .i64 q.a2,.int .i64 q.a3,.int .i64 q.a4,.int .i64 q.a5]) (hx.weak fun _ _ _ h => by obtain ⟨us,hv,hc⟩ := h; rw [hv]; exact QkI hc [.int .i64 p.a0,.int .i64 p.a1,.int .i64 p.a2,.int .i64 p.a3,.int .i64 p.a4,.int .i64 p.a5] rfl) (hy.weak fun _ _ _ h => by obtain ⟨us,hv,hc⟩ := h; rw [hv]; exact QkI hc [.int .i64 q.a0,.int .i64 q.a1,.int .i64 q.a2,.int .i64 q.a3,.int .i64 q.a4,.int .i64 q.a5] rfl) fun w => by
    have := QtT 9998 p.a0 q.a0 p.a1 q.a1 p.a2 q.a2 p.a3 q.a3 p.a4 q.a4 p.a5 q.a5 w
    simp only [eqGuard,binOp,Op.equal,run_program,QrG,Sem.run_bind,Result.andThen_ok]
    simp [Op.maxDepth,this,Qbj]
structure Qp where
  limits : (List Qb)
  want : (List Int)
  leads : (List Bool)
  now : Ql
  best : Ql
  cost : Int
deriving Inhabited
@[reducible] def QD : Rep Qp := ⟨fun x => ([tsl Qj x.limits,tsl rI x.want,tsl Qa5 x.leads] ++ Qx.cs x.now ++ Qx.cs x.best ++ [ti x.cost]),16,true,fun _ => rfl,fun _ => (Qha (Qha (Qha (Qy Qcd (Qy Qcd (Qy Qcd Qal))) (Qjb Qx)) (Qjb Qx)) (Qy (Q3 rfl) Qal)),fun h => (by cases h)⟩
theorem zc105 : ∀ F w,QP (QD.cs (Qp.mk ([] : (List Qb)) ([] : (List Int)) ([] : (List Bool)) (Ql.mk (0:Int) (0:Int) (0:Int) (0:Int) (0:Int) (0:Int)) (Ql.mk (0:Int) (0:Int) (0:Int) (0:Int) (0:Int) (0:Int)) (0:Int))) F w ((.agg #[(.slice none 0 0),(.slice none 0 0),(.slice none 0 0),(.int .i64 0),(.int .i64 0),(.int .i64 0),(.int .i64 0),(.int .i64 0),(.int .i64 0),(.int .i64 0),(.int .i64 0),(.int .i64 0),(.int .i64 0),(.int .i64 0),(.int .i64 0),(.int .i64 0)]) : Value).cells.toList := fun _ _ => (.cons ⟨none,0,rfl,Nat.le_refl _,fun h => (h rfl).elim⟩ (.cons ⟨none,0,rfl,Nat.le_refl _,fun h => (h rfl).elim⟩ (.cons ⟨none,0,rfl,Nat.le_refl _,fun h => (h rfl).elim⟩ (.cons rfl (.cons rfl (.cons rfl (.cons rfl (.cons rfl (.cons rfl (.cons rfl (.cons rfl (.cons rfl (.cons rfl (.cons rfl (.cons rfl (.cons rfl .nil))))))))))))))))
theorem zv105 : (Tryz.prog.info? 105).bind (·.zero) = some (.agg #[(.slice none 0 0),(.slice none 0 0),(.slice none 0 0),(.int .i64 0),(.int .i64 0),(.int .i64 0),(.int .i64 0),(.int .i64 0),(.int .i64 0),(.int .i64 0),(.int .i64 0),(.int .i64 0),(.int .i64 0),(.int .i64 0),(.int .i64 0),(.int .i64 0)]) := by kernel_rfl
theorem pl105 : ∀ w, ((#[⟨"limits", 31, 0, false, "", "diorama/counts", 0⟩, ⟨"want", 22, 1, false, "", "diorama/counts", 24⟩, ⟨"leads", 101, 2, false, "", "diorama/counts", 48⟩, ⟨"now", 103, 3, false, "", "diorama/counts", 72⟩, ⟨"best", 103, 9, false, "", "diorama/counts", 120⟩, ⟨"cost", 3, 15, false, "", "diorama/counts", 168⟩] : Array Field).mapM (fun f => do pure (f.offset, ← sizeOf f.type) : Field → Sem (Nat × Nat))).run Tryz.prog w = .ok #[(0, 1), (1, 1), (2, 1), (3, 6), (9, 6), (15, 1)] w := fun _ => by kernel_rfl
@[reducible] def tF112 (p : (Qb → Option Bool)) : Ty := tfn Tryz.prog [] (A := Qb) (B := Bool) (fun x => [Qj.ty x]) (fun y => tb y) (p)
@[reducible] def Qnp : Rep (Qb → Option Bool) := ⟨fun p => [tF112 p],1,false,fun _ => rfl,fun _ => Qy Qer Qal,fun _ => rfl⟩
structure Qn where
  Kind : Int
  Field : Int
  Rule : Int
  Code : Int
deriving Inhabited
@[reducible] def QO : Rep Qn := ⟨fun x => ([ti x.Kind,ti x.Field,ti x.Rule,ti x.Code]),4,true,fun _ => rfl,fun _ => (Qy (Q3 rfl) (Qy (Q3 rfl) (Qy (Q3 rfl) (Qy (Q3 rfl) Qal)))),fun h => (by cases h)⟩
theorem Qnq : TOk Tryz.prog 119 QO 32 (.agg #[(.int .i64 0),(.int .i64 0),(.int .i64 0),(.int .i64 0)]) := ⟨⟨_,Tryz.underlying119,rfl⟩,by kernel_rfl,rfl⟩
theorem zc119 : ∀ F w,QP (QO.cs (Qn.mk (0:Int) (0:Int) (0:Int) (0:Int))) F w ((.agg #[(.int .i64 0),(.int .i64 0),(.int .i64 0),(.int .i64 0)]) : Value).cells.toList := fun _ _ => (.cons rfl (.cons rfl (.cons rfl (.cons rfl .nil))))
theorem zv119 : (Tryz.prog.info? 119).bind (·.zero) = some (.agg #[(.int .i64 0),(.int .i64 0),(.int .i64 0),(.int .i64 0)]) := by kernel_rfl
theorem pl119 : ∀ w, ((#[⟨"Kind", 3, 0, false, "", "", 0⟩, ⟨"Field", 3, 1, false, "", "", 8⟩, ⟨"Rule", 3, 2, false, "", "", 16⟩, ⟨"Code", 33, 3, false, "", "", 24⟩] : Array Field).mapM (fun f => do pure (f.offset, ← sizeOf f.type) : Field → Sem (Nat × Nat))).run Tryz.prog w = .ok #[(0, 1), (1, 1), (2, 1), (3, 1)] w := fun _ => by kernel_rfl
@[reducible] def tF122 (p : (Qu → Option Bool)) : Ty := tfn Tryz.prog [] (A := Qu) (B := Bool) (fun x => [QJ.ty x]) (fun y => tb y) (p)
@[reducible] def Qhp : Rep (Qu → Option Bool) := ⟨fun p => [tF122 p],1,false,fun _ => rfl,fun _ => Qy Qer Qal,fun _ => rfl⟩
theorem tok122 : TOk Tryz.prog 122 Qhp 8 .nilFunc := ⟨⟨_,Tryz.underlying122,rfl⟩,by kernel_rfl,rfl⟩
structure Qq where
  is : Bool
  code : Int
deriving Inhabited
@[reducible] def QL : Rep Qq := ⟨fun x => ([tb x.is,ti x.code]),2,true,fun _ => rfl,fun _ => (Qy (Q3 rfl) (Qy (Q3 rfl) Qal)),fun h => (by cases h)⟩
theorem Qd6 : TOk Tryz.prog 125 QL 16 (.agg #[(.bool false),(.int .i64 0)]) := ⟨⟨_,Tryz.underlying125,rfl⟩,by kernel_rfl,rfl⟩
theorem QdP : ∀ F w,QP (QL.cs (Qq.mk false (0:Int))) F w ((.agg #[(.bool false),(.int .i64 0)]) : Value).cells.toList := fun _ _ => (.cons rfl (.cons rfl .nil))
theorem zok125 : ∀ F w,(QL.ty (Qq.mk false (0:Int))).ok F w (.agg #[(.bool false),(.int .i64 0)]) := fun F w => ⟨_,rfl,QdP F w⟩
theorem Qei : (Tryz.prog.info? 125).bind (·.zero) = some (.agg #[(.bool false),(.int .i64 0)]) := by kernel_rfl
theorem Qej : ∀ w, ((#[⟨"is", 4, 0, false, "", "diorama/typing", 0⟩, ⟨"code", 33, 1, false, "", "diorama/typing", 8⟩] : Array Field).mapM (fun f => do pure (f.offset, ← sizeOf f.type) : Field → Sem (Nat × Nat))).run Tryz.prog w = .ok #[(0, 1), (1, 1)] w := fun _ => by kernel_rfl
structure QH where
  x : Qg
  kind : Int
  field : Int
  f : Qc
deriving Inhabited
@[reducible] def QW : Rep QH := ⟨fun x => (Qm.cs x.x ++ [ti x.kind,ti x.field] ++ Qd.cs x.f),14,true,fun _ => rfl,fun _ => (Qha (Qha (Qjb Qm) (Qy (Q3 rfl) (Qy (Q3 rfl) Qal))) (Qjb Qd)),fun h => (by cases h)⟩
theorem Qlr : TOk Tryz.prog 133 QW 216 (.agg #[(.int .i64 0),(.slice none 0 0),(.slice none 0 0),(.slice none 0 0),(.int .i64 0),(.int .i64 0),(.string .empty),(.string .empty),(.string .empty),(.int .i64 0),(.int .i64 0),(.int .i64 0),(.slice none 0 0),(.slice none 0 0)]) := ⟨⟨_,Tryz.underlying133,rfl⟩,by kernel_rfl,rfl⟩
theorem zc133 : ∀ F w,QP (QW.cs (QH.mk (Qg.mk (0:Int) ([] : (List Qi)) ([] : (List Qu)) ([] : (List Qo))) (0:Int) (0:Int) (Qc.mk ([] : Str) ([] : Str) ([] : Str) (0:Int) (0:Int) (0:Int) ([] : (List Str)) ([] : (List Int))))) F w ((.agg #[(.int .i64 0),(.slice none 0 0),(.slice none 0 0),(.slice none 0 0),(.int .i64 0),(.int .i64 0),(.string .empty),(.string .empty),(.string .empty),(.int .i64 0),(.int .i64 0),(.int .i64 0),(.slice none 0 0),(.slice none 0 0)]) : Value).cells.toList := fun _ _ => (.cons rfl (.cons ⟨none,0,rfl,Nat.le_refl _,fun h => (h rfl).elim⟩ (.cons ⟨none,0,rfl,Nat.le_refl _,fun h => (h rfl).elim⟩ (.cons ⟨none,0,rfl,Nat.le_refl _,fun h => (h rfl).elim⟩ (.cons rfl (.cons rfl (.cons rfl (.cons rfl (.cons rfl (.cons rfl (.cons rfl (.cons rfl (.cons ⟨none,0,rfl,Nat.le_refl _,fun h => (h rfl).elim⟩ (.cons ⟨none,0,rfl,Nat.le_refl _,fun h => (h rfl).elim⟩ .nil))))))))))))))
theorem zv133 : (Tryz.prog.info? 133).bind (·.zero) = some (.agg #[(.int .i64 0),(.slice none 0 0),(.slice none 0 0),(.slice none 0 0),(.int .i64 0),(.int .i64 0),(.string .empty),(.string .empty),(.string .empty),(.int .i64 0),(.int .i64 0),(.int .i64 0),(.slice none 0 0),(.slice none 0 0)]) := by kernel_rfl
theorem pl133 : ∀ w, ((#[⟨"x", 27, 0, false, "", "diorama/typing", 0⟩, ⟨"kind", 3, 4, false, "", "diorama/typing", 80⟩, ⟨"field", 3, 5, false, "", "diorama/typing", 88⟩, ⟨"f", 61, 6, false, "", "diorama/typing", 96⟩] : Array Field).mapM (fun f => do pure (f.offset, ← sizeOf f.type) : Field → Sem (Nat × Nat))).run Tryz.prog w = .ok #[(0, 4), (4, 1), (5, 1), (6, 8)] w := fun _ => by kernel_rfl
@[reducible] def tF128 (p : (QH → Option Int)) : Ty := tfn Tryz.prog [] (A := QH) (B := Int) (fun x => [QW.ty x]) (fun y => ti y) (p)
@[reducible] def rF128 : Rep (QH → Option Int) := ⟨fun p => [tF128 p],1,false,fun _ => rfl,fun _ => Qy Qer Qal,fun _ => rfl⟩
@[reducible] def Qsm : Rep (Option (QH → Option Int)) := ⟨fun p => [tfo (tF128) p],1,false,fun _ => rfl,fun _ => Qy (QqX (fun _ => Qer)) Qal,fun _ => rfl⟩
theorem tok128 : TOk Tryz.prog 128 rF128 8 .nilFunc := ⟨⟨_,Tryz.underlying128,rfl⟩,by kernel_rfl,rfl⟩
theorem QtU : TOk Tryz.prog 128 Qsm 8 .nilFunc := ⟨⟨_,Tryz.underlying128,rfl⟩,by kernel_rfl,rfl⟩
structure Qb3 where
  check : (Option (QH → Option Int))
instance : Inhabited Qb3 := ⟨⟨none⟩⟩
@[reducible] def QdT : Rep Qb3 := ⟨fun x => ([Qsm.ty x.check]),1,true,fun _ => rfl,fun _ => (Qy (QqX (fun _ => Qer)) Qal),fun h => (by cases h)⟩
theorem Qsn : TOk Tryz.prog 129 QdT 8 (.agg #[.nilFunc]) := ⟨⟨_,Tryz.underlying129,rfl⟩,by kernel_rfl,rfl⟩
theorem zc129 : ∀ F w,QP (QdT.cs (Qb3.mk none)) F w ((.agg #[.nilFunc]) : Value).cells.toList := fun _ _ => (.cons rfl .nil)
theorem zok129 : ∀ F w,(QdT.ty (Qb3.mk none)).ok F w (.agg #[.nilFunc]) := fun F w => ⟨_,rfl,zc129 F w⟩
theorem zv129 : (Tryz.prog.info? 129).bind (·.zero) = some (.agg #[.nilFunc]) := by kernel_rfl
@[reducible] def tF138 (p : (Qi → Option Bool)) : Ty := tfn Tryz.prog [] (A := Qi) (B := Bool) (fun x => [Qk.ty x]) (fun y => tb y) (p)
@[reducible] def Qhq : Rep (Qi → Option Bool) := ⟨fun p => [tF138 p],1,false,fun _ => rfl,fun _ => Qy Qer Qal,fun _ => rfl⟩
theorem tok138 : TOk Tryz.prog 138 Qhq 8 .nilFunc := ⟨⟨_,Tryz.underlying138,rfl⟩,by kernel_rfl,rfl⟩
@[reducible] def tF163 (p : (Qo → Option Bool)) : Ty := tfn Tryz.prog [] (A := Qo) (B := Bool) (fun x => [QC.ty x]) (fun y => tb y) (p)
@[reducible] def Qhr : Rep (Qo → Option Bool) := ⟨fun p => [tF163 p],1,false,fun _ => rfl,fun _ => Qy Qer Qal,fun _ => rfl⟩
theorem tok163 : TOk Tryz.prog 163 Qhr 8 .nilFunc := ⟨⟨_,Tryz.underlying163,rfl⟩,by kernel_rfl,rfl⟩
@[reducible] def tF168 (p : (Qc → Option Bool)) : Ty := tfn Tryz.prog [] (A := Qc) (B := Bool) (fun x => [Qd.ty x]) (fun y => tb y) (p)
@[reducible] def Qhs : Rep (Qc → Option Bool) := ⟨fun p => [tF168 p],1,false,fun _ => rfl,fun _ => Qy Qer Qal,fun _ => rfl⟩
theorem tok168 : TOk Tryz.prog 168 Qhs 8 .nilFunc := ⟨⟨_,Tryz.underlying168,rfl⟩,by kernel_rfl,rfl⟩
@[reducible] def tF178 (p : (Str → Option Bool)) : Ty := tfn Tryz.prog [] (A := Str) (B := Bool) (fun x => [tv (.string (sB x))]) (fun y => tb y) (p)
@[reducible] def Qht : Rep (Str → Option Bool) := ⟨fun p => [tF178 p],1,false,fun _ => rfl,fun _ => Qy Qer Qal,fun _ => rfl⟩
theorem tok178 : TOk Tryz.prog 178 Qht 8 .nilFunc := ⟨⟨_,Tryz.underlying178,rfl⟩,by kernel_rfl,rfl⟩
@[reducible] def tF183 (p : (QK → Option Bool)) : Ty := tfn Tryz.prog [] (A := QK) (B := Bool) (fun x => [Q8.ty x]) (fun y => tb y) (p)
@[reducible] def Qhu : Rep (QK → Option Bool) := ⟨fun p => [tF183 p],1,false,fun _ => rfl,fun _ => Qy Qer Qal,fun _ => rfl⟩
theorem tok183 : TOk Tryz.prog 183 Qhu 8 .nilFunc := ⟨⟨_,Tryz.underlying183,rfl⟩,by kernel_rfl,rfl⟩
@[reducible] def tF203 (p : (Int → Option Bool)) : Ty := tfn Tryz.prog [] (A := Int) (B := Bool) (fun x => [tv (.int .u8 x)]) (fun y => tb y) (p)
@[reducible] def Qnr : Rep (Int → Option Bool) := ⟨fun p => [tF203 p],1,false,fun _ => rfl,fun _ => Qy Qer Qal,fun _ => rfl⟩
theorem QpW : TOk Tryz.prog 22 rVal 24 (.slice none 0 0) := ⟨⟨_,Tryz.underlying22,rfl⟩,by kernel_rfl,rfl⟩
theorem Qhv : TOk Tryz.prog 23 rVal 24 (.slice none 0 0) := ⟨⟨_,Tryz.underlying23,rfl⟩,by kernel_rfl,rfl⟩
theorem Qso : TOk Tryz.prog 24 rVal 24 (.slice none 0 0) := ⟨⟨_,Tryz.underlying24,rfl⟩,by kernel_rfl,rfl⟩
theorem QpX : TOk Tryz.prog 25 rVal 24 (.slice none 0 0) := ⟨⟨_,Tryz.underlying25,rfl⟩,by kernel_rfl,rfl⟩
theorem Qns : TOk Tryz.prog 31 rVal 24 (.slice none 0 0) := ⟨⟨_,Tryz.underlying31,rfl⟩,by kernel_rfl,rfl⟩
theorem Qnt : TOk Tryz.prog 32 rVal 24 (.slice none 0 0) := ⟨⟨_,Tryz.underlying32,rfl⟩,by kernel_rfl,rfl⟩
theorem Qd7 : TOk Tryz.prog 53 rVal 24 (.slice none 0 0) := ⟨⟨_,Tryz.underlying53,rfl⟩,by kernel_rfl,rfl⟩
theorem Qnu : TOk Tryz.prog 68 rVal 24 (.slice none 0 0) := ⟨⟨_,Tryz.underlying68,rfl⟩,by kernel_rfl,rfl⟩
theorem Qj9 : TOk Tryz.prog 79 rVal 24 (.slice none 0 0) := ⟨⟨_,Tryz.underlying79,rfl⟩,by kernel_rfl,rfl⟩
theorem QqZ : TOk Tryz.prog 101 rVal 24 (.slice none 0 0) := ⟨⟨_,Tryz.underlying101,rfl⟩,by kernel_rfl,rfl⟩
theorem Qq0 : QF Tryz.prog 27 0 0 := QF.mk Tryz.underlying27 rfl rfl tok3 (by decide)
theorem QaJ : QF Tryz.prog 27 1 1 := QF.mk Tryz.underlying27 rfl rfl Qdp (by decide)
theorem Qhc : QF Tryz.prog 27 2 2 := QF.mk Tryz.underlying27 rfl rfl QkM (by decide)
theorem Qgf : QF Tryz.prog 27 3 3 := QF.mk Tryz.underlying27 rfl rfl QkN (by decide)
theorem Qgg : QF Tryz.prog 43 0 0 := QF.mk Tryz.underlying43 rfl rfl tok3 (by decide)
theorem QeT : QF Tryz.prog 43 1 1 := QF.mk Tryz.underlying43 rfl rfl tok3 (by decide)
theorem Qgh : QF Tryz.prog 43 2 2 := QF.mk Tryz.underlying43 rfl rfl tok3 (by decide)
theorem Ql7 : QF Tryz.prog 43 3 3 := QF.mk Tryz.underlying43 rfl rfl tok4 (by decide)
theorem QcY : QF Tryz.prog 55 0 0 := QF.mk Tryz.underlying55 rfl rfl tok9 (by decide)
theorem Qjd : QF Tryz.prog 55 1 1 := QF.mk Tryz.underlying55 rfl rfl tok3 (by decide)
theorem Qka : QF Tryz.prog 55 2 2 := QF.mk Tryz.underlying55 rfl rfl tok3 (by decide)
theorem Qap : QF Tryz.prog 55 3 3 := QF.mk Tryz.underlying55 rfl rfl Qc8 (by decide)
theorem Qce : QF Tryz.prog 61 0 0 := QF.mk Tryz.underlying61 rfl rfl tok9 (by decide)
theorem QaA : QF Tryz.prog 61 1 1 := QF.mk Tryz.underlying61 rfl rfl tok9 (by decide)
theorem QeU : QF Tryz.prog 61 2 2 := QF.mk Tryz.underlying61 rfl rfl tok9 (by decide)
theorem QaX : QF Tryz.prog 61 3 3 := QF.mk Tryz.underlying61 rfl rfl tok3 (by decide)
theorem Qbd : QF Tryz.prog 61 4 4 := QF.mk Tryz.underlying61 rfl rfl tok3 (by decide)
theorem Qb0 : QF Tryz.prog 61 5 5 := QF.mk Tryz.underlying61 rfl rfl tok3 (by decide)
theorem Qh5 : QF Tryz.prog 61 6 6 := QF.mk Tryz.underlying61 rfl rfl Qgd (by decide)
theorem Qgi : QF Tryz.prog 61 7 7 := QF.mk Tryz.underlying61 rfl rfl Qgc (by decide)
theorem QuZ : QF Tryz.prog 76 0 0 := QF.mk Tryz.underlying76 rfl rfl Qgc (by decide)
theorem Qn8 : QF Tryz.prog 76 1 1 := QF.mk Tryz.underlying76 rfl rfl tok3 (by decide)
theorem Qkb : QF Tryz.prog 81 0 0 := QF.mk Tryz.underlying81 rfl rfl tok9 (by decide)
theorem Ql8 : QF Tryz.prog 81 1 1 := QF.mk Tryz.underlying81 rfl rfl Qgd (by decide)
theorem Qgj : QF Tryz.prog 81 2 2 := QF.mk Tryz.underlying81 rfl rfl Qpp (by decide)
theorem Ql9 : QF Tryz.prog 84 0 0 := QF.mk Tryz.underlying84 rfl rfl tok9 (by decide)
theorem Qn9 : QF Tryz.prog 84 1 1 := QF.mk Tryz.underlying84 rfl rfl tok9 (by decide)
theorem Qje : QF Tryz.prog 84 2 2 := QF.mk Tryz.underlying84 rfl rfl tok9 (by decide)
theorem Qjf : QF Tryz.prog 84 3 3 := QF.mk Tryz.underlying84 rfl rfl tok9 (by decide)
theorem Qq1 : QF Tryz.prog 84 4 4 := QF.mk Tryz.underlying84 rfl rfl tok3 (by decide)
theorem QtV : QF Tryz.prog 105 0 0 := QF.mk Tryz.underlying105 rfl rfl tok31 (by decide)
theorem QmK : QF Tryz.prog 105 1 1 := QF.mk Tryz.underlying105 rfl rfl Qgc (by decide)
theorem QmL : QF Tryz.prog 105 2 2 := QF.mk Tryz.underlying105 rfl rfl Qsl (by decide)
theorem Qh6 : QF Tryz.prog 105 3 3 := QF.mk Tryz.underlying105 rfl rfl Qho (by decide)
theorem QkO : QF Tryz.prog 105 4 9 := QF.mk Tryz.underlying105 rfl rfl Qho (by decide)
theorem Qh7 : QF Tryz.prog 105 5 15 := QF.mk Tryz.underlying105 rfl rfl tok3 (by decide)
theorem QtW : QF Tryz.prog 119 3 3 := QF.mk Tryz.underlying119 rfl rfl Qps (by decide)
theorem QtX : QF Tryz.prog 125 0 0 := QF.mk Tryz.underlying125 rfl rfl tok4 (by decide)
theorem QtY : QF Tryz.prog 125 1 1 := QF.mk Tryz.underlying125 rfl rfl Qps (by decide)
theorem QtZ : QF Tryz.prog 129 0 0 := QF.mk Tryz.underlying129 rfl rfl tok128 (by decide)
theorem Qfc : QF Tryz.prog 133 0 0 := QF.mk Tryz.underlying133 rfl rfl QaR (by decide)
theorem Qh8 : QF Tryz.prog 133 1 4 := QF.mk Tryz.underlying133 rfl rfl tok3 (by decide)
theorem QkP : QF Tryz.prog 133 2 5 := QF.mk Tryz.underlying133 rfl rfl tok3 (by decide)
theorem Qjm : QF Tryz.prog 133 3 6 := QF.mk Tryz.underlying133 rfl rfl QS (by decide)
theorem call10 : Qs Tryz.prog 10 := ⟨⟨_,Tryz.func10,by kernel_rfl,rfl⟩⟩
theorem QpY : Qs Tryz.prog 12 := ⟨⟨_,Tryz.func12,by kernel_rfl,rfl⟩⟩
theorem Qsp : Qs Tryz.prog 16 := ⟨⟨_,Tryz.func16,by kernel_rfl,rfl⟩⟩
theorem Qnv : Qs Tryz.prog 17 := ⟨⟨_,Tryz.func17,by kernel_rfl,rfl⟩⟩
theorem call19 : Qs Tryz.prog 19 := ⟨⟨_,Tryz.func19,by kernel_rfl,rfl⟩⟩
theorem QpZ : Qs Tryz.prog 21 := ⟨⟨_,Tryz.func21,by kernel_rfl,rfl⟩⟩
theorem Qnw : Qs Tryz.prog 23 := ⟨⟨_,Tryz.func23,by kernel_rfl,rfl⟩⟩
theorem Qp0 : Qs Tryz.prog 25 := ⟨⟨_,Tryz.func25,by kernel_rfl,rfl⟩⟩
theorem Qnx : Qs Tryz.prog 26 := ⟨⟨_,Tryz.func26,by kernel_rfl,rfl⟩⟩
theorem Qp1 : Qs Tryz.prog 27 := ⟨⟨_,Tryz.func27,by kernel_rfl,rfl⟩⟩
theorem call30 : Qs Tryz.prog 30 := ⟨⟨_,Tryz.func30,by kernel_rfl,rfl⟩⟩
theorem Qas : Qs Tryz.prog 32 := ⟨⟨_,Tryz.func32,by kernel_rfl,rfl⟩⟩
theorem call33 : Qs Tryz.prog 33 := ⟨⟨_,Tryz.func33,by kernel_rfl,rfl⟩⟩
theorem call34 : Qs Tryz.prog 34 := ⟨⟨_,Tryz.func34,by kernel_rfl,rfl⟩⟩
theorem call36 : Qs Tryz.prog 36 := ⟨⟨_,Tryz.func36,by kernel_rfl,rfl⟩⟩
theorem Qsq : Qs Tryz.prog 37 := ⟨⟨_,Tryz.func37,by kernel_rfl,rfl⟩⟩
theorem Qkc : Qs Tryz.prog 38 := ⟨⟨_,Tryz.func38,by kernel_rfl,rfl⟩⟩
theorem Qsr : Qs Tryz.prog 41 := ⟨⟨_,Tryz.func41,by kernel_rfl,rfl⟩⟩
theorem Qss : Qs Tryz.prog 42 := ⟨⟨_,Tryz.func42,by kernel_rfl,rfl⟩⟩
theorem Qst : Qs Tryz.prog 43 := ⟨⟨_,Tryz.func43,by kernel_rfl,rfl⟩⟩
theorem call44 : Qs Tryz.prog 44 := ⟨⟨_,Tryz.func44,by kernel_rfl,rfl⟩⟩
theorem Qsu : Qs Tryz.prog 45 := ⟨⟨_,Tryz.func45,by kernel_rfl,rfl⟩⟩
theorem Qsv : Qs Tryz.prog 46 := ⟨⟨_,Tryz.func46,by kernel_rfl,rfl⟩⟩
theorem call49 : Qs Tryz.prog 49 := ⟨⟨_,Tryz.func49,by kernel_rfl,rfl⟩⟩
theorem Qsw : Qs Tryz.prog 50 := ⟨⟨_,Tryz.func50,by kernel_rfl,rfl⟩⟩
theorem call51 : Qs Tryz.prog 51 := ⟨⟨_,Tryz.func51,by kernel_rfl,rfl⟩⟩
theorem Qsx : Qs Tryz.prog 55 := ⟨⟨_,Tryz.func55,by kernel_rfl,rfl⟩⟩
theorem call56 : Qs Tryz.prog 56 := ⟨⟨_,Tryz.func56,by kernel_rfl,rfl⟩⟩
theorem Qp2 : Qs Tryz.prog 57 := ⟨⟨_,Tryz.func57,by kernel_rfl,rfl⟩⟩
theorem Qsy : Qs Tryz.prog 58 := ⟨⟨_,Tryz.func58,by kernel_rfl,rfl⟩⟩
theorem Qsz : Qs Tryz.prog 59 := ⟨⟨_,Tryz.func59,by kernel_rfl,rfl⟩⟩
theorem call62 : Qs Tryz.prog 62 := ⟨⟨_,Tryz.func62,by kernel_rfl,rfl⟩⟩
theorem Qny : Qs Tryz.prog 63 := ⟨⟨_,Tryz.func63,by kernel_rfl,rfl⟩⟩
theorem Qp3 : Qs Tryz.prog 64 := ⟨⟨_,Tryz.func64,by kernel_rfl,rfl⟩⟩
theorem call65 : Qs Tryz.prog 65 := ⟨⟨_,Tryz.func65,by kernel_rfl,rfl⟩⟩
theorem QfV : Qs Tryz.prog 66 := ⟨⟨_,Tryz.func66,by kernel_rfl,rfl⟩⟩
theorem call67 : Qs Tryz.prog 67 := ⟨⟨_,Tryz.func67,by kernel_rfl,rfl⟩⟩
theorem Qls : Qs Tryz.prog 68 := ⟨⟨_,Tryz.func68,by kernel_rfl,rfl⟩⟩
theorem call69 : Qs Tryz.prog 69 := ⟨⟨_,Tryz.func69,by kernel_rfl,rfl⟩⟩
theorem call70 : Qs Tryz.prog 70 := ⟨⟨_,Tryz.func70,by kernel_rfl,rfl⟩⟩
theorem Qnz : Qs Tryz.prog 71 := ⟨⟨_,Tryz.func71,by kernel_rfl,rfl⟩⟩
theorem QsA : Qs Tryz.prog 72 := ⟨⟨_,Tryz.func72,by kernel_rfl,rfl⟩⟩
theorem QsB : Qs Tryz.prog 73 := ⟨⟨_,Tryz.func73,by kernel_rfl,rfl⟩⟩
theorem call74 : Qs Tryz.prog 74 := ⟨⟨_,Tryz.func74,by kernel_rfl,rfl⟩⟩
theorem call81 : Qs Tryz.prog 81 := ⟨⟨_,Tryz.func81,by kernel_rfl,rfl⟩⟩
theorem Qp4 : Qs Tryz.prog 82 := ⟨⟨_,Tryz.func82,by kernel_rfl,rfl⟩⟩
theorem call83 : Qs Tryz.prog 83 := ⟨⟨_,Tryz.func83,by kernel_rfl,rfl⟩⟩
theorem call84 : Qs Tryz.prog 84 := ⟨⟨_,Tryz.func84,by kernel_rfl,rfl⟩⟩
theorem call85 : Qs Tryz.prog 85 := ⟨⟨_,Tryz.func85,by kernel_rfl,rfl⟩⟩
theorem call88 : Qs Tryz.prog 88 := ⟨⟨_,Tryz.func88,by kernel_rfl,rfl⟩⟩
theorem call89 : Qs Tryz.prog 89 := ⟨⟨_,Tryz.func89,by kernel_rfl,rfl⟩⟩
theorem call90 : Qs Tryz.prog 90 := ⟨⟨_,Tryz.func90,by kernel_rfl,rfl⟩⟩
theorem QsC : Qs Tryz.prog 91 := ⟨⟨_,Tryz.func91,by kernel_rfl,rfl⟩⟩
theorem call93 : Qs Tryz.prog 93 := ⟨⟨_,Tryz.func93,by kernel_rfl,rfl⟩⟩
theorem Qhw : Qs Tryz.prog 97 := ⟨⟨_,Tryz.func97,by kernel_rfl,rfl⟩⟩
theorem call98 : Qs Tryz.prog 98 := ⟨⟨_,Tryz.func98,by kernel_rfl,rfl⟩⟩
theorem call99 : Qs Tryz.prog 99 := ⟨⟨_,Tryz.func99,by kernel_rfl,rfl⟩⟩
theorem Qu0 : Qs Tryz.prog 100 := ⟨⟨_,Tryz.func100,by kernel_rfl,rfl⟩⟩
theorem Qu1 : Qs Tryz.prog 101 := ⟨⟨_,Tryz.func101,by kernel_rfl,rfl⟩⟩
theorem Qu2 : Qs Tryz.prog 102 := ⟨⟨_,Tryz.func102,by kernel_rfl,rfl⟩⟩
theorem Qu3 : Qs Tryz.prog 103 := ⟨⟨_,Tryz.func103,by kernel_rfl,rfl⟩⟩
theorem Qu4 : Qs Tryz.prog 104 := ⟨⟨_,Tryz.func104,by kernel_rfl,rfl⟩⟩
theorem Qu5 : Qs Tryz.prog 105 := ⟨⟨_,Tryz.func105,by kernel_rfl,rfl⟩⟩
theorem Qq2 : Qs Tryz.prog 106 := ⟨⟨_,Tryz.func106,by kernel_rfl,rfl⟩⟩
theorem Qu6 : Qs Tryz.prog 107 := ⟨⟨_,Tryz.func107,by kernel_rfl,rfl⟩⟩
theorem Qq3 : Qs Tryz.prog 108 := ⟨⟨_,Tryz.func108,by kernel_rfl,rfl⟩⟩
theorem Qu7 : Qs Tryz.prog 109 := ⟨⟨_,Tryz.func109,by kernel_rfl,rfl⟩⟩
theorem Qkd : Qs Tryz.prog 110 := ⟨⟨_,Tryz.func110,by kernel_rfl,rfl⟩⟩
theorem Qu8 : Qs Tryz.prog 119 := ⟨⟨_,Tryz.func119,by kernel_rfl,rfl⟩⟩
theorem Qu9 : Qs Tryz.prog 120 := ⟨⟨_,Tryz.func120,by kernel_rfl,rfl⟩⟩
theorem Qva : Qs Tryz.prog 121 := ⟨⟨_,Tryz.func121,by kernel_rfl,rfl⟩⟩
theorem Qvb : Qs Tryz.prog 123 := ⟨⟨_,Tryz.func123,by kernel_rfl,rfl⟩⟩
theorem Qvc : Qs Tryz.prog 124 := ⟨⟨_,Tryz.func124,by kernel_rfl,rfl⟩⟩
theorem Qcx : Qs Tryz.prog 125 := ⟨⟨_,Tryz.func125,by kernel_rfl,rfl⟩⟩
theorem Qjg : Qs Tryz.prog 126 := ⟨⟨_,Tryz.func126,by kernel_rfl,rfl⟩⟩
theorem Qvd : Qs Tryz.prog 127 := ⟨⟨_,Tryz.func127,by kernel_rfl,rfl⟩⟩
theorem Qve : Qs Tryz.prog 128 := ⟨⟨_,Tryz.func128,by kernel_rfl,rfl⟩⟩
theorem Qvf : Qs Tryz.prog 129 := ⟨⟨_,Tryz.func129,by kernel_rfl,rfl⟩⟩
theorem Qq4 : Qs Tryz.prog 130 := ⟨⟨_,Tryz.func130,by kernel_rfl,rfl⟩⟩
theorem Qvg : Qs Tryz.prog 131 := ⟨⟨_,Tryz.func131,by kernel_rfl,rfl⟩⟩
theorem Qvh : Qs Tryz.prog 132 := ⟨⟨_,Tryz.func132,by kernel_rfl,rfl⟩⟩
theorem Qvi : Qs Tryz.prog 133 := ⟨⟨_,Tryz.func133,by kernel_rfl,rfl⟩⟩
theorem Qes : Qs Tryz.prog 135 := ⟨⟨_,Tryz.func135,by kernel_rfl,rfl⟩⟩
theorem Qvj : Qs Tryz.prog 136 := ⟨⟨_,Tryz.func136,by kernel_rfl,rfl⟩⟩
theorem Qoa : Qs Tryz.prog 137 := ⟨⟨_,Tryz.func137,by kernel_rfl,rfl⟩⟩
theorem Qvk : Qs Tryz.prog 139 := ⟨⟨_,Tryz.func139,by kernel_rfl,rfl⟩⟩
theorem Qq5 : Qs Tryz.prog 149 := ⟨⟨_,Tryz.func149,by kernel_rfl,rfl⟩⟩
theorem Qq6 : Qs Tryz.prog 150 := ⟨⟨_,Tryz.func150,by kernel_rfl,rfl⟩⟩
theorem Qvl : Qs Tryz.prog 151 := ⟨⟨_,Tryz.func151,by kernel_rfl,rfl⟩⟩
theorem Qvm : Qs Tryz.prog 152 := ⟨⟨_,Tryz.func152,by kernel_rfl,rfl⟩⟩
theorem Qvn : Qs Tryz.prog 153 := ⟨⟨_,Tryz.func153,by kernel_rfl,rfl⟩⟩
theorem Qvo : Qs Tryz.prog 154 := ⟨⟨_,Tryz.func154,by kernel_rfl,rfl⟩⟩
theorem Qvp : Qs Tryz.prog 155 := ⟨⟨_,Tryz.func155,by kernel_rfl,rfl⟩⟩
theorem Qvq : Qs Tryz.prog 156 := ⟨⟨_,Tryz.func156,by kernel_rfl,rfl⟩⟩
theorem Qvr : Qs Tryz.prog 157 := ⟨⟨_,Tryz.func157,by kernel_rfl,rfl⟩⟩
theorem Qvs : Qs Tryz.prog 158 := ⟨⟨_,Tryz.func158,by kernel_rfl,rfl⟩⟩
theorem Qvt : Qs Tryz.prog 159 := ⟨⟨_,Tryz.func159,by kernel_rfl,rfl⟩⟩
theorem Qvu : Qs Tryz.prog 160 := ⟨⟨_,Tryz.func160,by kernel_rfl,rfl⟩⟩
theorem Qvv : Qs Tryz.prog 161 := ⟨⟨_,Tryz.func161,by kernel_rfl,rfl⟩⟩
theorem Qvw : Qs Tryz.prog 162 := ⟨⟨_,Tryz.func162,by kernel_rfl,rfl⟩⟩
theorem Qvx : Qs Tryz.prog 166 := ⟨⟨_,Tryz.func166,by kernel_rfl,rfl⟩⟩
theorem Qvy : Qs Tryz.prog 173 := ⟨⟨_,Tryz.func173,by kernel_rfl,rfl⟩⟩
theorem Qvz : Qs Tryz.prog 174 := ⟨⟨_,Tryz.func174,by kernel_rfl,rfl⟩⟩
theorem QvA : Qs Tryz.prog 175 := ⟨⟨_,Tryz.func175,by kernel_rfl,rfl⟩⟩
theorem QvB : Qs Tryz.prog 176 := ⟨⟨_,Tryz.func176,by kernel_rfl,rfl⟩⟩
theorem QvC : Qs Tryz.prog 177 := ⟨⟨_,Tryz.func177,by kernel_rfl,rfl⟩⟩
theorem Qob : Qs Tryz.prog 204 := ⟨⟨_,Tryz.func204,by kernel_rfl,rfl⟩⟩
theorem QvD : Qs Tryz.prog 207 := ⟨⟨_,Tryz.func207,by kernel_rfl,rfl⟩⟩
theorem QvE : Qs Tryz.prog 208 := ⟨⟨_,Tryz.func208,by kernel_rfl,rfl⟩⟩
theorem QvF : Qs Tryz.prog 209 := ⟨⟨_,Tryz.func209,by kernel_rfl,rfl⟩⟩
theorem QvG : Qs Tryz.prog 210 := ⟨⟨_,Tryz.func210,by kernel_rfl,rfl⟩⟩
theorem QvH : Qs Tryz.prog 211 := ⟨⟨_,Tryz.func211,by kernel_rfl,rfl⟩⟩
theorem QvI : Qs Tryz.prog 212 := ⟨⟨_,Tryz.func212,by kernel_rfl,rfl⟩⟩
theorem QvJ : Qs Tryz.prog 213 := ⟨⟨_,Tryz.func213,by kernel_rfl,rfl⟩⟩
theorem QvK : Qs Tryz.prog 214 := ⟨⟨_,Tryz.func214,by kernel_rfl,rfl⟩⟩
theorem Qq7 : Qs Tryz.prog 215 := ⟨⟨_,Tryz.func215,by kernel_rfl,rfl⟩⟩
theorem QvL : Qs Tryz.prog 216 := ⟨⟨_,Tryz.func216,by kernel_rfl,rfl⟩⟩
theorem Qma : Qs Tryz.prog 217 := ⟨⟨_,Tryz.func217,by kernel_rfl,rfl⟩⟩
theorem QbJ : TOk Tryz.prog 100 rVal 8 (.pointer none) := ⟨⟨_,Tryz.underlying100,rfl⟩,by kernel_rfl,rfl⟩
abbrev zz0 : Qc := (Qc.mk ([] : Str) ([] : Str) ([] : Str) (0:Int) (0:Int) (0:Int) ([] : (List Str)) ([] : (List Int)))
abbrev zz1 : Qi := (Qi.mk ([] : Str) (0:Int) (0:Int) ([] : (List Qc)))
abbrev zz2 : Qu := (Qu.mk ([] : Str) ([] : (List Str)) ([] : (List QK)))
abbrev zz3 : Qo := (Qo.mk ([] : Str) ([] : Str) ([] : Str) ([] : Str) (0:Int))
abbrev zz4 : Qg := (Qg.mk (0:Int) ([] : (List Qi)) ([] : (List Qu)) ([] : (List Qo)))
abbrev zz5 : Qb := (Qb.mk (0:Int) (0:Int) (0:Int) false)
abbrev zz6 : Ql := (Ql.mk (0:Int) (0:Int) (0:Int) (0:Int) (0:Int) (0:Int))
abbrev Qpt := Tryz.underlying101
abbrev Qhx := Tryz.underlying103
abbrev Qek := Tryz.underlying125
abbrev Qgk := Tryz.underlying166
abbrev Qel := Tryz.underlying194
abbrev ud22 := Tryz.underlying22
abbrev ud23 := Tryz.underlying23
abbrev ud24 := Tryz.underlying24
abbrev ud25 := Tryz.underlying25
abbrev ud3 := Tryz.underlying3
abbrev ud31 := Tryz.underlying31
abbrev ud32 := Tryz.underlying32
abbrev ud53 := Tryz.underlying53
abbrev ud61 := Tryz.underlying61
abbrev ud68 := Tryz.underlying68
abbrev ud79 := Tryz.underlying79
abbrev ud82 := Tryz.underlying82
abbrev ud84 := Tryz.underlying84
abbrev ud9 := Tryz.underlying9

end Go.Proofs.YtcdccjagknlmpaaGreatDoor

/- Closed facts on the types and functions of the translation, written by a program. No condition. -/
import Derived.Test.YthdfmpocknmleaaDoorSimQ
import Derived.Test.YthdfmpocknmleaaDoorRows
namespace Go.Proofs.YthdfmpocknmleaaDoor
open Go.Sim

theorem mixed : Tryd.prog.follows .mixedOrders = true := by kernel_rfl
def ents0 : List (Value × Value) := [(.int .i64 0,.agg #[.func (.func 121) #[] #[]]),(.int .i64 1,.agg #[.func (.func 122) #[] #[]]),(.int .i64 4,.agg #[.func (.func 123) #[] #[]]),(.int .i64 5,.agg #[.func (.func 124) #[] #[]]),(.int .i64 6,.agg #[.func (.func 126) #[] #[]]),(.int .i64 7,.agg #[.func (.func 128) #[] #[]]),(.int .i64 8,.agg #[.func (.func 130) #[] #[]])]
def tgloM0 : Ty := tmapC ents0
def tglo0 : List Ty := [tgloM0]
theorem tokM0 : TOk Tryd.prog 74 (rMapC ents0) 8 (.map none) := ⟨⟨_,Tryd.underlying74,rfl⟩,(by kernel_rfl : (Tryd.prog.info? 74).map (fun i => (i.zero,i.size,i.bytes)) = some (some (.map none),1,8)),rfl⟩
def wordsL : List Str := [[107,101,121],[114,101,102],[110,117,109],[112,105,99,107],[100,97,121],[115,116,101,112],[115,117,109],[115,104,97,114,101],[99,111,112,121]]
def tglo1 : List Ty := wordsL.flatMap rS.cs
def pow10L : List Int := [1,10,100,1000,10000,100000,1000000,10000000,100000000,1000000000,10000000000,100000000000,1000000000000,10000000000000,100000000000000,1000000000000000,10000000000000000,100000000000000000,1000000000000000000,10000000000000000000]
def tglo2 : List Ty := pow10L.flatMap (rInt .u64).cs
abbrev bld := bldE 97 5
/-- What the package variables hold. -/
def glo : Atom := gloA [(0,tglo0),(1,tglo1),(2,tglo2)]
theorem glo_fp : ∀ k,¬ glo.fp k := fun _ h => h
theorem _root_.Go.Sim.OpJ.glo {P : Program} {o : Oper} {Γ : List (Nat × Ty)} {U E : List Atom} {N : Value → List Atom} {T : Value → Ty} (h : OpJ P o Γ U (glo :: E) N T) : OpJ P o Γ (glo :: U) E N T := OpJ.gloG glo_fp h
theorem glo_is0 : GloIs glo 0 tglo0 := gloA_is (by simp)
theorem glo_has0 : GloHas glo 0 tglo0 := glo_is0.has
theorem glo_is1 : GloIs glo 1 tglo1 := gloA_is (by simp)
theorem glo_has1 : GloHas glo 1 tglo1 := glo_is1.has
theorem glo_is2 : GloIs glo 2 tglo2 := gloA_is (by simp)
theorem tok3 : TOk Tryd.prog 3 rI 8 (.int .i64 0) := ⟨⟨_,Tryd.underlying3,rfl⟩,by kernel_rfl,rfl⟩
theorem zok3 : ∀ F w,(rI.ty (0:Int)).ok F w (.int .i64 0) := fun _ _ => rfl
theorem tok4 : TOk Tryd.prog 4 rBool 1 (.bool false) := ⟨⟨_,Tryd.underlying4,rfl⟩,by kernel_rfl,rfl⟩
theorem tok5 : TOk Tryd.prog 5 (rInt .u8) 1 (.int .u8 0) := ⟨⟨_,Tryd.underlying5,rfl⟩,by kernel_rfl,rfl⟩
theorem tok9 : TOk Tryd.prog 9 rS 16 (.string .empty) := ⟨⟨_,Tryd.underlying9,rfl⟩,by kernel_rfl,rfl⟩
theorem tok20 : TOk Tryd.prog 20 (rAny 3 9) 16 .nilIface := ⟨⟨_,Tryd.underlying20,rfl⟩,by kernel_rfl,rfl⟩
theorem tok22 : TOk Tryd.prog 22 (rSl rI) 24 (.slice none 0 0) := ⟨⟨_,Tryd.underlying22,rfl⟩,by kernel_rfl,rfl⟩
theorem tok34 : TOk Tryd.prog 34 (rSl rS) 24 (.slice none 0 0) := ⟨⟨_,Tryd.underlying34,rfl⟩,by kernel_rfl,rfl⟩
structure Sapi_Field where
  Name : Str
  Of : Str
  Up : Str
  Kind : Int
  Lo : Int
  Hi : Int
  Words : (List Str)
  Weights : (List Int)
deriving Inhabited
@[reducible] def rSapi_Field : Rep Sapi_Field := ⟨fun x => ([tv (.string (sB x.Name)),tv (.string (sB x.Of)),tv (.string (sB x.Up)),ti x.Kind,ti x.Lo,ti x.Hi,tsl rS x.Words,tsl rI x.Weights]),8,true,fun _ => rfl,fun _ => (one_cons (one_tv rfl) (one_cons (one_tv rfl) (one_cons (one_tv rfl) (one_cons (one_tv rfl) (one_cons (one_tv rfl) (one_cons (one_tv rfl) (one_cons one_tsl (one_cons one_tsl one_nil)))))))),fun h => (by cases h)⟩
theorem tok36 : TOk Tryd.prog 36 rSapi_Field 120 (.agg #[(.string .empty),(.string .empty),(.string .empty),(.int .i64 0),(.int .i64 0),(.int .i64 0),(.slice none 0 0),(.slice none 0 0)]) := ⟨⟨_,Tryd.underlying36,rfl⟩,by kernel_rfl,rfl⟩
theorem zc36 : ∀ F w,Cells (rSapi_Field.cs (Sapi_Field.mk ([] : Str) ([] : Str) ([] : Str) (0:Int) (0:Int) (0:Int) ([] : (List Str)) ([] : (List Int)))) F w ((.agg #[(.string .empty),(.string .empty),(.string .empty),(.int .i64 0),(.int .i64 0),(.int .i64 0),(.slice none 0 0),(.slice none 0 0)]) : Value).cells.toList := fun _ _ => (.cons rfl (.cons rfl (.cons rfl (.cons rfl (.cons rfl (.cons rfl (.cons ⟨none,0,rfl,Nat.le_refl _,fun h => (h rfl).elim⟩ (.cons ⟨none,0,rfl,Nat.le_refl _,fun h => (h rfl).elim⟩ .nil))))))))
theorem zok36 : ∀ F w,(rSapi_Field.ty (Sapi_Field.mk ([] : Str) ([] : Str) ([] : Str) (0:Int) (0:Int) (0:Int) ([] : (List Str)) ([] : (List Int)))).ok F w (.agg #[(.string .empty),(.string .empty),(.string .empty),(.int .i64 0),(.int .i64 0),(.int .i64 0),(.slice none 0 0),(.slice none 0 0)]) := fun F w => ⟨_,rfl,zc36 F w⟩
theorem zv36 : (Tryd.prog.info? 36).bind (·.zero) = some (.agg #[(.string .empty),(.string .empty),(.string .empty),(.int .i64 0),(.int .i64 0),(.int .i64 0),(.slice none 0 0),(.slice none 0 0)]) := by kernel_rfl
theorem pl36 : ∀ w, ((#[⟨"Name", 9, 0, false, "", "", 0⟩, ⟨"Of", 9, 1, false, "", "", 16⟩, ⟨"Up", 9, 2, false, "", "", 32⟩, ⟨"Kind", 3, 3, false, "", "", 48⟩, ⟨"Lo", 3, 4, false, "", "", 56⟩, ⟨"Hi", 3, 5, false, "", "", 64⟩, ⟨"Words", 34, 6, false, "", "", 72⟩, ⟨"Weights", 22, 7, false, "", "", 96⟩] : Array Field).mapM (fun f => do pure (f.offset, ← sizeOf f.type) : Field → Sem (Nat × Nat))).run Tryd.prog w = .ok #[(0, 1), (1, 1), (2, 1), (3, 1), (4, 1), (5, 1), (6, 1), (7, 1)] w := fun _ => by kernel_rfl
theorem zagg36_7 : (∀ F w,Cells ([tv (.string (sB ([] : Str))),tv (.string (sB ([] : Str))),tv (.string (sB ([] : Str))),ti (0:Int),ti (0:Int),ti (0:Int),tsl rS ([] : (List Str)),tvs nilV]) F w ((.agg #[(.string .empty),(.string .empty),(.string .empty),(.int .i64 0),(.int .i64 0),(.int .i64 0),(.slice none 0 0),(.slice none 0 0)]) : Value).cells.toList) ∧ ([tv (.string (sB ([] : Str))),tv (.string (sB ([] : Str))),tv (.string (sB ([] : Str))),ti (0:Int),ti (0:Int),ti (0:Int),tsl rS ([] : (List Str)),tvs nilV]).length = 8 ∧ rSapi_Field.agg = true ∧ ∃ cs,((.agg #[(.string .empty),(.string .empty),(.string .empty),(.int .i64 0),(.int .i64 0),(.int .i64 0),(.slice none 0 0),(.slice none 0 0)]) : Value) = .agg cs := ⟨fun _ _ => (.cons rfl (.cons rfl (.cons rfl (.cons rfl (.cons rfl (.cons rfl (.cons ⟨none,0,rfl,Nat.le_refl _,fun h => (h rfl).elim⟩ (.cons ⟨rfl,rfl⟩ .nil)))))))),rfl,rfl,_,rfl⟩
theorem tok30 : TOk Tryd.prog 30 (rSl rSapi_Field) 24 (.slice none 0 0) := ⟨⟨_,Tryd.underlying30,rfl⟩,by kernel_rfl,rfl⟩
structure Sapi_Kind where
  Name : Str
  Lo : Int
  Hi : Int
  Fields : (List Sapi_Field)
deriving Inhabited
@[reducible] def rSapi_Kind : Rep Sapi_Kind := ⟨fun x => ([tv (.string (sB x.Name)),ti x.Lo,ti x.Hi,tsl rSapi_Field x.Fields]),4,true,fun _ => rfl,fun _ => (one_cons (one_tv rfl) (one_cons (one_tv rfl) (one_cons (one_tv rfl) (one_cons one_tsl one_nil)))),fun h => (by cases h)⟩
theorem tok32 : TOk Tryd.prog 32 rSapi_Kind 56 (.agg #[(.string .empty),(.int .i64 0),(.int .i64 0),(.slice none 0 0)]) := ⟨⟨_,Tryd.underlying32,rfl⟩,by kernel_rfl,rfl⟩
theorem zc32 : ∀ F w,Cells (rSapi_Kind.cs (Sapi_Kind.mk ([] : Str) (0:Int) (0:Int) ([] : (List Sapi_Field)))) F w ((.agg #[(.string .empty),(.int .i64 0),(.int .i64 0),(.slice none 0 0)]) : Value).cells.toList := fun _ _ => (.cons rfl (.cons rfl (.cons rfl (.cons ⟨none,0,rfl,Nat.le_refl _,fun h => (h rfl).elim⟩ .nil))))
theorem zok32 : ∀ F w,(rSapi_Kind.ty (Sapi_Kind.mk ([] : Str) (0:Int) (0:Int) ([] : (List Sapi_Field)))).ok F w (.agg #[(.string .empty),(.int .i64 0),(.int .i64 0),(.slice none 0 0)]) := fun F w => ⟨_,rfl,zc32 F w⟩
theorem zv32 : (Tryd.prog.info? 32).bind (·.zero) = some (.agg #[(.string .empty),(.int .i64 0),(.int .i64 0),(.slice none 0 0)]) := by kernel_rfl
theorem pl32 : ∀ w, ((#[⟨"Name", 9, 0, false, "", "", 0⟩, ⟨"Lo", 3, 1, false, "", "", 16⟩, ⟨"Hi", 3, 2, false, "", "", 24⟩, ⟨"Fields", 30, 3, false, "", "", 32⟩] : Array Field).mapM (fun f => do pure (f.offset, ← sizeOf f.type) : Field → Sem (Nat × Nat))).run Tryd.prog w = .ok #[(0, 1), (1, 1), (2, 1), (3, 1)] w := fun _ => by kernel_rfl
theorem zagg32_3 : (∀ F w,Cells ([tv (.string (sB ([] : Str))),ti (0:Int),ti (0:Int),tvs nilV]) F w ((.agg #[(.string .empty),(.int .i64 0),(.int .i64 0),(.slice none 0 0)]) : Value).cells.toList) ∧ ([tv (.string (sB ([] : Str))),ti (0:Int),ti (0:Int),tvs nilV]).length = 4 ∧ rSapi_Kind.agg = true ∧ ∃ cs,((.agg #[(.string .empty),(.int .i64 0),(.int .i64 0),(.slice none 0 0)]) : Value) = .agg cs := ⟨fun _ _ => (.cons rfl (.cons rfl (.cons rfl (.cons ⟨rfl,rfl⟩ .nil)))),rfl,rfl,_,rfl⟩
theorem tok25 : TOk Tryd.prog 25 (rSl rSapi_Kind) 24 (.slice none 0 0) := ⟨⟨_,Tryd.underlying25,rfl⟩,by kernel_rfl,rfl⟩
structure A2_Int where
  a0 : Int
  a1 : Int
deriving Inhabited
@[reducible] def rA2_Int : Rep A2_Int := ⟨fun x => ([ti x.a0,ti x.a1]),2,true,fun _ => rfl,fun _ => (one_cons (one_tv rfl) (one_cons (one_tv rfl) one_nil)),fun h => (by cases h)⟩
theorem tok83 : TOk Tryd.prog 83 rA2_Int 16 (.agg #[(.int .i64 0),(.int .i64 0)]) := ⟨⟨_,Tryd.underlying83,rfl⟩,by kernel_rfl,rfl⟩
theorem zc83 : ∀ F w,Cells (rA2_Int.cs (A2_Int.mk (0:Int) (0:Int))) F w ((.agg #[(.int .i64 0),(.int .i64 0)]) : Value).cells.toList := fun _ _ => (.cons rfl (.cons rfl .nil))
theorem zok83 : ∀ F w,(rA2_Int.ty (A2_Int.mk (0:Int) (0:Int))).ok F w (.agg #[(.int .i64 0),(.int .i64 0)]) := fun F w => ⟨_,rfl,zc83 F w⟩
theorem zv83 : (Tryd.prog.info? 83).bind (·.zero) = some (.agg #[(.int .i64 0),(.int .i64 0)]) := by kernel_rfl
theorem tok37 : TOk Tryd.prog 37 (rSl rA2_Int) 24 (.slice none 0 0) := ⟨⟨_,Tryd.underlying37,rfl⟩,by kernel_rfl,rfl⟩
structure Sapi_Life where
  Name : Str
  States : (List Str)
  Moves : (List A2_Int)
deriving Inhabited
@[reducible] def rSapi_Life : Rep Sapi_Life := ⟨fun x => ([tv (.string (sB x.Name)),tsl rS x.States,tsl rA2_Int x.Moves]),3,true,fun _ => rfl,fun _ => (one_cons (one_tv rfl) (one_cons one_tsl (one_cons one_tsl one_nil))),fun h => (by cases h)⟩
theorem tok39 : TOk Tryd.prog 39 rSapi_Life 64 (.agg #[(.string .empty),(.slice none 0 0),(.slice none 0 0)]) := ⟨⟨_,Tryd.underlying39,rfl⟩,by kernel_rfl,rfl⟩
theorem zc39 : ∀ F w,Cells (rSapi_Life.cs (Sapi_Life.mk ([] : Str) ([] : (List Str)) ([] : (List A2_Int)))) F w ((.agg #[(.string .empty),(.slice none 0 0),(.slice none 0 0)]) : Value).cells.toList := fun _ _ => (.cons rfl (.cons ⟨none,0,rfl,Nat.le_refl _,fun h => (h rfl).elim⟩ (.cons ⟨none,0,rfl,Nat.le_refl _,fun h => (h rfl).elim⟩ .nil)))
theorem zok39 : ∀ F w,(rSapi_Life.ty (Sapi_Life.mk ([] : Str) ([] : (List Str)) ([] : (List A2_Int)))).ok F w (.agg #[(.string .empty),(.slice none 0 0),(.slice none 0 0)]) := fun F w => ⟨_,rfl,zc39 F w⟩
theorem zv39 : (Tryd.prog.info? 39).bind (·.zero) = some (.agg #[(.string .empty),(.slice none 0 0),(.slice none 0 0)]) := by kernel_rfl
theorem pl39 : ∀ w, ((#[⟨"Name", 9, 0, false, "", "", 0⟩, ⟨"States", 34, 1, false, "", "", 16⟩, ⟨"Moves", 37, 2, false, "", "", 40⟩] : Array Field).mapM (fun f => do pure (f.offset, ← sizeOf f.type) : Field → Sem (Nat × Nat))).run Tryd.prog w = .ok #[(0, 1), (1, 1), (2, 1)] w := fun _ => by kernel_rfl
theorem zagg39_2 : (∀ F w,Cells ([tv (.string (sB ([] : Str))),tsl rS ([] : (List Str)),tvs nilV]) F w ((.agg #[(.string .empty),(.slice none 0 0),(.slice none 0 0)]) : Value).cells.toList) ∧ ([tv (.string (sB ([] : Str))),tsl rS ([] : (List Str)),tvs nilV]).length = 3 ∧ rSapi_Life.agg = true ∧ ∃ cs,((.agg #[(.string .empty),(.slice none 0 0),(.slice none 0 0)]) : Value) = .agg cs := ⟨fun _ _ => (.cons rfl (.cons ⟨none,0,rfl,Nat.le_refl _,fun h => (h rfl).elim⟩ (.cons ⟨rfl,rfl⟩ .nil))),rfl,rfl,_,rfl⟩
theorem tok26 : TOk Tryd.prog 26 (rSl rSapi_Life) 24 (.slice none 0 0) := ⟨⟨_,Tryd.underlying26,rfl⟩,by kernel_rfl,rfl⟩
structure Sapi_Rule where
  Name : Str
  Kind : Str
  A : Str
  B : Str
  N : Int
deriving Inhabited
@[reducible] def rSapi_Rule : Rep Sapi_Rule := ⟨fun x => ([tv (.string (sB x.Name)),tv (.string (sB x.Kind)),tv (.string (sB x.A)),tv (.string (sB x.B)),ti x.N]),5,true,fun _ => rfl,fun _ => (one_cons (one_tv rfl) (one_cons (one_tv rfl) (one_cons (one_tv rfl) (one_cons (one_tv rfl) (one_cons (one_tv rfl) one_nil))))),fun h => (by cases h)⟩
theorem tok41 : TOk Tryd.prog 41 rSapi_Rule 72 (.agg #[(.string .empty),(.string .empty),(.string .empty),(.string .empty),(.int .i64 0)]) := ⟨⟨_,Tryd.underlying41,rfl⟩,by kernel_rfl,rfl⟩
theorem zc41 : ∀ F w,Cells (rSapi_Rule.cs (Sapi_Rule.mk ([] : Str) ([] : Str) ([] : Str) ([] : Str) (0:Int))) F w ((.agg #[(.string .empty),(.string .empty),(.string .empty),(.string .empty),(.int .i64 0)]) : Value).cells.toList := fun _ _ => (.cons rfl (.cons rfl (.cons rfl (.cons rfl (.cons rfl .nil)))))
theorem zok41 : ∀ F w,(rSapi_Rule.ty (Sapi_Rule.mk ([] : Str) ([] : Str) ([] : Str) ([] : Str) (0:Int))).ok F w (.agg #[(.string .empty),(.string .empty),(.string .empty),(.string .empty),(.int .i64 0)]) := fun F w => ⟨_,rfl,zc41 F w⟩
theorem zv41 : (Tryd.prog.info? 41).bind (·.zero) = some (.agg #[(.string .empty),(.string .empty),(.string .empty),(.string .empty),(.int .i64 0)]) := by kernel_rfl
theorem pl41 : ∀ w, ((#[⟨"Name", 9, 0, false, "", "", 0⟩, ⟨"Kind", 9, 1, false, "", "", 16⟩, ⟨"A", 9, 2, false, "", "", 32⟩, ⟨"B", 9, 3, false, "", "", 48⟩, ⟨"N", 3, 4, false, "", "", 64⟩] : Array Field).mapM (fun f => do pure (f.offset, ← sizeOf f.type) : Field → Sem (Nat × Nat))).run Tryd.prog w = .ok #[(0, 1), (1, 1), (2, 1), (3, 1), (4, 1)] w := fun _ => by kernel_rfl
theorem tok27 : TOk Tryd.prog 27 (rSl rSapi_Rule) 24 (.slice none 0 0) := ⟨⟨_,Tryd.underlying27,rfl⟩,by kernel_rfl,rfl⟩
structure Sapi_Schema where
  Version : Int
  Kinds : (List Sapi_Kind)
  Lives : (List Sapi_Life)
  Rules : (List Sapi_Rule)
deriving Inhabited
@[reducible] def rSapi_Schema : Rep Sapi_Schema := ⟨fun x => ([ti x.Version,tsl rSapi_Kind x.Kinds,tsl rSapi_Life x.Lives,tsl rSapi_Rule x.Rules]),4,true,fun _ => rfl,fun _ => (one_cons (one_tv rfl) (one_cons one_tsl (one_cons one_tsl (one_cons one_tsl one_nil)))),fun h => (by cases h)⟩
theorem tok29 : TOk Tryd.prog 29 rSapi_Schema 80 (.agg #[(.int .i64 0),(.slice none 0 0),(.slice none 0 0),(.slice none 0 0)]) := ⟨⟨_,Tryd.underlying29,rfl⟩,by kernel_rfl,rfl⟩
theorem zc29 : ∀ F w,Cells (rSapi_Schema.cs (Sapi_Schema.mk (0:Int) ([] : (List Sapi_Kind)) ([] : (List Sapi_Life)) ([] : (List Sapi_Rule)))) F w ((.agg #[(.int .i64 0),(.slice none 0 0),(.slice none 0 0),(.slice none 0 0)]) : Value).cells.toList := fun _ _ => (.cons rfl (.cons ⟨none,0,rfl,Nat.le_refl _,fun h => (h rfl).elim⟩ (.cons ⟨none,0,rfl,Nat.le_refl _,fun h => (h rfl).elim⟩ (.cons ⟨none,0,rfl,Nat.le_refl _,fun h => (h rfl).elim⟩ .nil))))
theorem zok29 : ∀ F w,(rSapi_Schema.ty (Sapi_Schema.mk (0:Int) ([] : (List Sapi_Kind)) ([] : (List Sapi_Life)) ([] : (List Sapi_Rule)))).ok F w (.agg #[(.int .i64 0),(.slice none 0 0),(.slice none 0 0),(.slice none 0 0)]) := fun F w => ⟨_,rfl,zc29 F w⟩
theorem zv29 : (Tryd.prog.info? 29).bind (·.zero) = some (.agg #[(.int .i64 0),(.slice none 0 0),(.slice none 0 0),(.slice none 0 0)]) := by kernel_rfl
theorem pl29 : ∀ w, ((#[⟨"Version", 3, 0, false, "", "", 0⟩, ⟨"Kinds", 25, 1, false, "", "", 8⟩, ⟨"Lives", 26, 2, false, "", "", 32⟩, ⟨"Rules", 27, 3, false, "", "", 56⟩] : Array Field).mapM (fun f => do pure (f.offset, ← sizeOf f.type) : Field → Sem (Nat × Nat))).run Tryd.prog w = .ok #[(0, 1), (1, 1), (2, 1), (3, 1)] w := fun _ => by kernel_rfl
theorem zagg29_1_2_3 : (∀ F w,Cells ([ti (0:Int),tvs nilV,tvs nilV,tvs nilV]) F w ((.agg #[(.int .i64 0),(.slice none 0 0),(.slice none 0 0),(.slice none 0 0)]) : Value).cells.toList) ∧ ([ti (0:Int),tvs nilV,tvs nilV,tvs nilV]).length = 4 ∧ rSapi_Schema.agg = true ∧ ∃ cs,((.agg #[(.int .i64 0),(.slice none 0 0),(.slice none 0 0),(.slice none 0 0)]) : Value) = .agg cs := ⟨fun _ _ => (.cons rfl (.cons ⟨rfl,rfl⟩ (.cons ⟨rfl,rfl⟩ (.cons ⟨rfl,rfl⟩ .nil)))),rfl,rfl,_,rfl⟩
theorem tok42 : TOk Tryd.prog 42 rI 8 (.int .i64 0) := ⟨⟨_,Tryd.underlying42,rfl⟩,by kernel_rfl,rfl⟩
structure Sref10_Problem where
  Kind : Int
  Field : Int
  Rule : Int
  Code : Int
deriving Inhabited
@[reducible] def rSref10_Problem : Rep Sref10_Problem := ⟨fun x => ([ti x.Kind,ti x.Field,ti x.Rule,ti x.Code]),4,true,fun _ => rfl,fun _ => (one_cons (one_tv rfl) (one_cons (one_tv rfl) (one_cons (one_tv rfl) (one_cons (one_tv rfl) one_nil)))),fun h => (by cases h)⟩
theorem tok52 : TOk Tryd.prog 52 rSref10_Problem 32 (.agg #[(.int .i64 0),(.int .i64 0),(.int .i64 0),(.int .i64 0)]) := ⟨⟨_,Tryd.underlying52,rfl⟩,by kernel_rfl,rfl⟩
theorem zc52 : ∀ F w,Cells (rSref10_Problem.cs (Sref10_Problem.mk (0:Int) (0:Int) (0:Int) (0:Int))) F w ((.agg #[(.int .i64 0),(.int .i64 0),(.int .i64 0),(.int .i64 0)]) : Value).cells.toList := fun _ _ => (.cons rfl (.cons rfl (.cons rfl (.cons rfl .nil))))
theorem zv52 : (Tryd.prog.info? 52).bind (·.zero) = some (.agg #[(.int .i64 0),(.int .i64 0),(.int .i64 0),(.int .i64 0)]) := by kernel_rfl
theorem pl52 : ∀ w, ((#[⟨"Kind", 3, 0, false, "", "", 0⟩, ⟨"Field", 3, 1, false, "", "", 8⟩, ⟨"Rule", 3, 2, false, "", "", 16⟩, ⟨"Code", 42, 3, false, "", "", 24⟩] : Array Field).mapM (fun f => do pure (f.offset, ← sizeOf f.type) : Field → Sem (Nat × Nat))).run Tryd.prog w = .ok #[(0, 1), (1, 1), (2, 1), (3, 1)] w := fun _ => by kernel_rfl
def eqSref10_Problem (p q : Sref10_Problem) : Bool := p.Kind == q.Kind && p.Field == q.Field && p.Rule == q.Rule && p.Code == q.Code
set_option maxHeartbeats 2000000 in
theorem eqRun52 (n : Nat) (a0 b0 : Int) (a1 b1 : Int) (a2 b2 : Int) (a3 b3 : Int) (w : World) : (Op.equalIn (n + 2) 52 (.agg #[.int .i64 a0,.int .i64 a1,.int .i64 a2,.int .i64 a3]) (.agg #[.int .i64 b0,.int .i64 b1,.int .i64 b2,.int .i64 b3])).run Tryd.prog w = .ok (a0 == b0 && a1 == b1 && a2 == b2 && a3 == b3) w := by
  have hs : Tryd.prog.stoodInHeld 52 = false := by kernel_rfl
  simp only [Op.equalIn,Sem.run_bind,run_underlying Tryd.underlying52,run_underlying Tryd.underlying3,run_underlying Tryd.underlying42,Result.andThen_ok,run_program,hs]
  simp [run_underlying Tryd.underlying52,run_underlying Tryd.underlying3,run_underlying Tryd.underlying42,part,isAgg,Op.equalIn,sizeOf,typeInfo]
  cases h0 : (a0 == b0) <;> cases h1 : (a1 == b1) <;> cases h2 : (a2 == b2) <;> cases h3 : (a3 == b3) <;> simp_all [Op.equalIn,run_underlying Tryd.underlying52,run_underlying Tryd.underlying3,run_underlying Tryd.underlying42,part,isAgg,sB_beq]
theorem eqGuard52 : Tryd.prog.eqGuardType Tryd.prog.depth 52 = false := by kernel_rfl
theorem op_neq_t52 {Γ : List (Nat × Ty)} {d : Option Tmp} {ty t2 : TypeId} {pos : String} {af : Array Edge} {g : Option (Nat × Bool)} {x y : Operand} {p q : Sref10_Problem} (hx : Fct Γ x (rSref10_Problem.ty p)) (hy : Fct Γ y (rSref10_Problem.ty q)) :
    OpJ Tryd.prog ⟨d,.binOp .neq 52 x y t2,ty,pos,af,g⟩ Γ [] [] (fun _ => []) (fun _ => tv (.bool (!eqSref10_Problem p q))) :=
  opj_bin (u := .agg #[.int .i64 p.Kind,.int .i64 p.Field,.int .i64 p.Rule,.int .i64 p.Code]) (v := .agg #[.int .i64 q.Kind,.int .i64 q.Field,.int .i64 q.Rule,.int .i64 q.Code]) (hx.weak fun _ _ _ h => by obtain ⟨us,hv,hc⟩ := h; rw [hv]; exact cells_vals hc [.int .i64 p.Kind,.int .i64 p.Field,.int .i64 p.Rule,.int .i64 p.Code] rfl) (hy.weak fun _ _ _ h => by obtain ⟨us,hv,hc⟩ := h; rw [hv]; exact cells_vals hc [.int .i64 q.Kind,.int .i64 q.Field,.int .i64 q.Rule,.int .i64 q.Code] rfl) fun w => by
    have := eqRun52 9998 p.Kind q.Kind p.Field q.Field p.Rule q.Rule p.Code q.Code w
    simp only [eqGuard,binOp,Op.equal,run_program,eqGuard52,Sem.run_bind,Result.andThen_ok]
    simp [Op.maxDepth,this,eqSref10_Problem]
@[reducible] def tF58 (p : (Sapi_Kind → Option Bool)) : Ty := tfn Tryd.prog [] (A := Sapi_Kind) (B := Bool) (fun x => [rSapi_Kind.ty x]) (fun y => tb y) (p)
@[reducible] def rF58 : Rep (Sapi_Kind → Option Bool) := ⟨fun p => [tF58 p],1,false,fun _ => rfl,fun _ => one_cons one_tfn one_nil,fun _ => rfl⟩
theorem tok58 : TOk Tryd.prog 58 rF58 8 .nilFunc := ⟨⟨_,Tryd.underlying58,rfl⟩,by kernel_rfl,rfl⟩
@[reducible] def tF60 (p : (Sapi_Life → Option Bool)) : Ty := tfn Tryd.prog [] (A := Sapi_Life) (B := Bool) (fun x => [rSapi_Life.ty x]) (fun y => tb y) (p)
@[reducible] def rF60 : Rep (Sapi_Life → Option Bool) := ⟨fun p => [tF60 p],1,false,fun _ => rfl,fun _ => one_cons one_tfn one_nil,fun _ => rfl⟩
theorem tok60 : TOk Tryd.prog 60 rF60 8 .nilFunc := ⟨⟨_,Tryd.underlying60,rfl⟩,by kernel_rfl,rfl⟩
@[reducible] def tF62 (p : (Sapi_Rule → Option Bool)) : Ty := tfn Tryd.prog [] (A := Sapi_Rule) (B := Bool) (fun x => [rSapi_Rule.ty x]) (fun y => tb y) (p)
@[reducible] def rF62 : Rep (Sapi_Rule → Option Bool) := ⟨fun p => [tF62 p],1,false,fun _ => rfl,fun _ => one_cons one_tfn one_nil,fun _ => rfl⟩
theorem tok62 : TOk Tryd.prog 62 rF62 8 .nilFunc := ⟨⟨_,Tryd.underlying62,rfl⟩,by kernel_rfl,rfl⟩
structure Styping_Problem where
  Kind : Int
  Field : Int
  Rule : Int
  Code : Int
deriving Inhabited
@[reducible] def rStyping_Problem : Rep Styping_Problem := ⟨fun x => ([ti x.Kind,ti x.Field,ti x.Rule,ti x.Code]),4,true,fun _ => rfl,fun _ => (one_cons (one_tv rfl) (one_cons (one_tv rfl) (one_cons (one_tv rfl) (one_cons (one_tv rfl) one_nil)))),fun h => (by cases h)⟩
theorem tok64 : TOk Tryd.prog 64 rStyping_Problem 32 (.agg #[(.int .i64 0),(.int .i64 0),(.int .i64 0),(.int .i64 0)]) := ⟨⟨_,Tryd.underlying64,rfl⟩,by kernel_rfl,rfl⟩
theorem zc64 : ∀ F w,Cells (rStyping_Problem.cs (Styping_Problem.mk (0:Int) (0:Int) (0:Int) (0:Int))) F w ((.agg #[(.int .i64 0),(.int .i64 0),(.int .i64 0),(.int .i64 0)]) : Value).cells.toList := fun _ _ => (.cons rfl (.cons rfl (.cons rfl (.cons rfl .nil))))
theorem zv64 : (Tryd.prog.info? 64).bind (·.zero) = some (.agg #[(.int .i64 0),(.int .i64 0),(.int .i64 0),(.int .i64 0)]) := by kernel_rfl
theorem pl64 : ∀ w, ((#[⟨"Kind", 3, 0, false, "", "", 0⟩, ⟨"Field", 3, 1, false, "", "", 8⟩, ⟨"Rule", 3, 2, false, "", "", 16⟩, ⟨"Code", 42, 3, false, "", "", 24⟩] : Array Field).mapM (fun f => do pure (f.offset, ← sizeOf f.type) : Field → Sem (Nat × Nat))).run Tryd.prog w = .ok #[(0, 1), (1, 1), (2, 1), (3, 1)] w := fun _ => by kernel_rfl
structure Styping_fault where
  is : Bool
  code : Int
deriving Inhabited
@[reducible] def rStyping_fault : Rep Styping_fault := ⟨fun x => ([tb x.is,ti x.code]),2,true,fun _ => rfl,fun _ => (one_cons (one_tv rfl) (one_cons (one_tv rfl) one_nil)),fun h => (by cases h)⟩
theorem tok68 : TOk Tryd.prog 68 rStyping_fault 16 (.agg #[(.bool false),(.int .i64 0)]) := ⟨⟨_,Tryd.underlying68,rfl⟩,by kernel_rfl,rfl⟩
theorem zc68 : ∀ F w,Cells (rStyping_fault.cs (Styping_fault.mk false (0:Int))) F w ((.agg #[(.bool false),(.int .i64 0)]) : Value).cells.toList := fun _ _ => (.cons rfl (.cons rfl .nil))
theorem zok68 : ∀ F w,(rStyping_fault.ty (Styping_fault.mk false (0:Int))).ok F w (.agg #[(.bool false),(.int .i64 0)]) := fun F w => ⟨_,rfl,zc68 F w⟩
theorem zv68 : (Tryd.prog.info? 68).bind (·.zero) = some (.agg #[(.bool false),(.int .i64 0)]) := by kernel_rfl
theorem pl68 : ∀ w, ((#[⟨"is", 4, 0, false, "", "diorama/typing", 0⟩, ⟨"code", 42, 1, false, "", "diorama/typing", 8⟩] : Array Field).mapM (fun f => do pure (f.offset, ← sizeOf f.type) : Field → Sem (Nat × Nat))).run Tryd.prog w = .ok #[(0, 1), (1, 1)] w := fun _ => by kernel_rfl
structure Styping_spot where
  x : Sapi_Schema
  kind : Int
  field : Int
  f : Sapi_Field
deriving Inhabited
@[reducible] def rStyping_spot : Rep Styping_spot := ⟨fun x => (rSapi_Schema.cs x.x ++ [ti x.kind,ti x.field] ++ rSapi_Field.cs x.f),14,true,fun _ => rfl,fun _ => (one_app (one_app (one_rep rSapi_Schema) (one_cons (one_tv rfl) (one_cons (one_tv rfl) one_nil))) (one_rep rSapi_Field)),fun h => (by cases h)⟩
theorem tok76 : TOk Tryd.prog 76 rStyping_spot 216 (.agg #[(.int .i64 0),(.slice none 0 0),(.slice none 0 0),(.slice none 0 0),(.int .i64 0),(.int .i64 0),(.string .empty),(.string .empty),(.string .empty),(.int .i64 0),(.int .i64 0),(.int .i64 0),(.slice none 0 0),(.slice none 0 0)]) := ⟨⟨_,Tryd.underlying76,rfl⟩,by kernel_rfl,rfl⟩
theorem zc76 : ∀ F w,Cells (rStyping_spot.cs (Styping_spot.mk (Sapi_Schema.mk (0:Int) ([] : (List Sapi_Kind)) ([] : (List Sapi_Life)) ([] : (List Sapi_Rule))) (0:Int) (0:Int) (Sapi_Field.mk ([] : Str) ([] : Str) ([] : Str) (0:Int) (0:Int) (0:Int) ([] : (List Str)) ([] : (List Int))))) F w ((.agg #[(.int .i64 0),(.slice none 0 0),(.slice none 0 0),(.slice none 0 0),(.int .i64 0),(.int .i64 0),(.string .empty),(.string .empty),(.string .empty),(.int .i64 0),(.int .i64 0),(.int .i64 0),(.slice none 0 0),(.slice none 0 0)]) : Value).cells.toList := fun _ _ => (.cons rfl (.cons ⟨none,0,rfl,Nat.le_refl _,fun h => (h rfl).elim⟩ (.cons ⟨none,0,rfl,Nat.le_refl _,fun h => (h rfl).elim⟩ (.cons ⟨none,0,rfl,Nat.le_refl _,fun h => (h rfl).elim⟩ (.cons rfl (.cons rfl (.cons rfl (.cons rfl (.cons rfl (.cons rfl (.cons rfl (.cons rfl (.cons ⟨none,0,rfl,Nat.le_refl _,fun h => (h rfl).elim⟩ (.cons ⟨none,0,rfl,Nat.le_refl _,fun h => (h rfl).elim⟩ .nil))))))))))))))
theorem zv76 : (Tryd.prog.info? 76).bind (·.zero) = some (.agg #[(.int .i64 0),(.slice none 0 0),(.slice none 0 0),(.slice none 0 0),(.int .i64 0),(.int .i64 0),(.string .empty),(.string .empty),(.string .empty),(.int .i64 0),(.int .i64 0),(.int .i64 0),(.slice none 0 0),(.slice none 0 0)]) := by kernel_rfl
theorem pl76 : ∀ w, ((#[⟨"x", 29, 0, false, "", "diorama/typing", 0⟩, ⟨"kind", 3, 4, false, "", "diorama/typing", 80⟩, ⟨"field", 3, 5, false, "", "diorama/typing", 88⟩, ⟨"f", 36, 6, false, "", "diorama/typing", 96⟩] : Array Field).mapM (fun f => do pure (f.offset, ← sizeOf f.type) : Field → Sem (Nat × Nat))).run Tryd.prog w = .ok #[(0, 4), (4, 1), (5, 1), (6, 8)] w := fun _ => by kernel_rfl
@[reducible] def tF71 (p : (Styping_spot → Option Int)) : Ty := tfn Tryd.prog [] (A := Styping_spot) (B := Int) (fun x => [rStyping_spot.ty x]) (fun y => ti y) (p)
@[reducible] def rF71 : Rep (Styping_spot → Option Int) := ⟨fun p => [tF71 p],1,false,fun _ => rfl,fun _ => one_cons one_tfn one_nil,fun _ => rfl⟩
@[reducible] def rFo71 : Rep (Option (Styping_spot → Option Int)) := ⟨fun p => [tfo (tF71) p],1,false,fun _ => rfl,fun _ => one_cons (one_tfo (fun _ => one_tfn)) one_nil,fun _ => rfl⟩
theorem tok71 : TOk Tryd.prog 71 rF71 8 .nilFunc := ⟨⟨_,Tryd.underlying71,rfl⟩,by kernel_rfl,rfl⟩
theorem tokFo71 : TOk Tryd.prog 71 rFo71 8 .nilFunc := ⟨⟨_,Tryd.underlying71,rfl⟩,by kernel_rfl,rfl⟩
structure SX_check where
  check : (Option (Styping_spot → Option Int))
instance : Inhabited SX_check := ⟨⟨none⟩⟩
@[reducible] def rSX_check : Rep SX_check := ⟨fun x => ([rFo71.ty x.check]),1,true,fun _ => rfl,fun _ => (one_cons (one_tfo (fun _ => one_tfn)) one_nil),fun h => (by cases h)⟩
theorem tok72 : TOk Tryd.prog 72 rSX_check 8 (.agg #[.nilFunc]) := ⟨⟨_,Tryd.underlying72,rfl⟩,by kernel_rfl,rfl⟩
theorem zc72 : ∀ F w,Cells (rSX_check.cs (SX_check.mk none)) F w ((.agg #[.nilFunc]) : Value).cells.toList := fun _ _ => (.cons rfl .nil)
theorem zok72 : ∀ F w,(rSX_check.ty (SX_check.mk none)).ok F w (.agg #[.nilFunc]) := fun F w => ⟨_,rfl,zc72 F w⟩
theorem zv72 : (Tryd.prog.info? 72).bind (·.zero) = some (.agg #[.nilFunc]) := by kernel_rfl
structure Sref09_Maker where
  L : (List Int)
  I : Int
deriving Inhabited
@[reducible] def rSref09_Maker : Rep Sref09_Maker := ⟨fun x => ([tsl rI x.L,ti x.I]),2,true,fun _ => rfl,fun _ => (one_cons one_tsl (one_cons (one_tv rfl) one_nil)),fun h => (by cases h)⟩
theorem zc80 : ∀ F w,Cells (rSref09_Maker.cs (Sref09_Maker.mk ([] : (List Int)) (0:Int))) F w ((.agg #[(.slice none 0 0),(.int .i64 0)]) : Value).cells.toList := fun _ _ => (.cons ⟨none,0,rfl,Nat.le_refl _,fun h => (h rfl).elim⟩ (.cons rfl .nil))
theorem zv80 : (Tryd.prog.info? 80).bind (·.zero) = some (.agg #[(.slice none 0 0),(.int .i64 0)]) := by kernel_rfl
theorem pl80 : ∀ w, ((#[⟨"L", 22, 0, false, "", "", 0⟩, ⟨"I", 3, 1, false, "", "", 24⟩] : Array Field).mapM (fun f => do pure (f.offset, ← sizeOf f.type) : Field → Sem (Nat × Nat))).run Tryd.prog w = .ok #[(0, 1), (1, 1)] w := fun _ => by kernel_rfl
@[reducible] def tF87 (p : (Str → Option Bool)) : Ty := tfn Tryd.prog [] (A := Str) (B := Bool) (fun x => [tv (.string (sB x))]) (fun y => tb y) (p)
@[reducible] def rF87 : Rep (Str → Option Bool) := ⟨fun p => [tF87 p],1,false,fun _ => rfl,fun _ => one_cons one_tfn one_nil,fun _ => rfl⟩
theorem tok87 : TOk Tryd.prog 87 rF87 8 .nilFunc := ⟨⟨_,Tryd.underlying87,rfl⟩,by kernel_rfl,rfl⟩
@[reducible] def tF90 (p : (Sapi_Field → Option Bool)) : Ty := tfn Tryd.prog [] (A := Sapi_Field) (B := Bool) (fun x => [rSapi_Field.ty x]) (fun y => tb y) (p)
@[reducible] def rF90 : Rep (Sapi_Field → Option Bool) := ⟨fun p => [tF90 p],1,false,fun _ => rfl,fun _ => one_cons one_tfn one_nil,fun _ => rfl⟩
theorem tok90 : TOk Tryd.prog 90 rF90 8 .nilFunc := ⟨⟨_,Tryd.underlying90,rfl⟩,by kernel_rfl,rfl⟩
@[reducible] def tF93 (p : (A2_Int → Option Bool)) : Ty := tfn Tryd.prog [] (A := A2_Int) (B := Bool) (fun x => [rA2_Int.ty x]) (fun y => tb y) (p)
@[reducible] def rF93 : Rep (A2_Int → Option Bool) := ⟨fun p => [tF93 p],1,false,fun _ => rfl,fun _ => one_cons one_tfn one_nil,fun _ => rfl⟩
theorem tok93 : TOk Tryd.prog 93 rF93 8 .nilFunc := ⟨⟨_,Tryd.underlying93,rfl⟩,by kernel_rfl,rfl⟩
@[reducible] def tF117 (p : (Int → Option Bool)) : Ty := tfn Tryd.prog [] (A := Int) (B := Bool) (fun x => [tv (.int .u8 x)]) (fun y => tb y) (p)
@[reducible] def rF117 : Rep (Int → Option Bool) := ⟨fun p => [tF117 p],1,false,fun _ => rfl,fun _ => one_cons one_tfn one_nil,fun _ => rfl⟩
theorem tokV22 : TOk Tryd.prog 22 rVal 24 (.slice none 0 0) := ⟨⟨_,Tryd.underlying22,rfl⟩,by kernel_rfl,rfl⟩
theorem tokV25 : TOk Tryd.prog 25 rVal 24 (.slice none 0 0) := ⟨⟨_,Tryd.underlying25,rfl⟩,by kernel_rfl,rfl⟩
theorem tokV26 : TOk Tryd.prog 26 rVal 24 (.slice none 0 0) := ⟨⟨_,Tryd.underlying26,rfl⟩,by kernel_rfl,rfl⟩
theorem tokV27 : TOk Tryd.prog 27 rVal 24 (.slice none 0 0) := ⟨⟨_,Tryd.underlying27,rfl⟩,by kernel_rfl,rfl⟩
theorem tokV30 : TOk Tryd.prog 30 rVal 24 (.slice none 0 0) := ⟨⟨_,Tryd.underlying30,rfl⟩,by kernel_rfl,rfl⟩
theorem tokV37 : TOk Tryd.prog 37 rVal 24 (.slice none 0 0) := ⟨⟨_,Tryd.underlying37,rfl⟩,by kernel_rfl,rfl⟩
theorem tokV47 : TOk Tryd.prog 47 rVal 24 (.slice none 0 0) := ⟨⟨_,Tryd.underlying47,rfl⟩,by kernel_rfl,rfl⟩
theorem fld29_0 : FieldAt Tryd.prog 29 0 0 := FieldAt.mk Tryd.underlying29 rfl rfl tok3 (by decide)
theorem fld29_1 : FieldAt Tryd.prog 29 1 1 := FieldAt.mk Tryd.underlying29 rfl rfl tok25 (by decide)
theorem fld29_2 : FieldAt Tryd.prog 29 2 2 := FieldAt.mk Tryd.underlying29 rfl rfl tok26 (by decide)
theorem fld29_3 : FieldAt Tryd.prog 29 3 3 := FieldAt.mk Tryd.underlying29 rfl rfl tok27 (by decide)
theorem fld32_0 : FieldAt Tryd.prog 32 0 0 := FieldAt.mk Tryd.underlying32 rfl rfl tok9 (by decide)
theorem fld32_1 : FieldAt Tryd.prog 32 1 1 := FieldAt.mk Tryd.underlying32 rfl rfl tok3 (by decide)
theorem fld32_2 : FieldAt Tryd.prog 32 2 2 := FieldAt.mk Tryd.underlying32 rfl rfl tok3 (by decide)
theorem fld32_3 : FieldAt Tryd.prog 32 3 3 := FieldAt.mk Tryd.underlying32 rfl rfl tok30 (by decide)
theorem fld36_0 : FieldAt Tryd.prog 36 0 0 := FieldAt.mk Tryd.underlying36 rfl rfl tok9 (by decide)
theorem fld36_1 : FieldAt Tryd.prog 36 1 1 := FieldAt.mk Tryd.underlying36 rfl rfl tok9 (by decide)
theorem fld36_2 : FieldAt Tryd.prog 36 2 2 := FieldAt.mk Tryd.underlying36 rfl rfl tok9 (by decide)
theorem fld36_3 : FieldAt Tryd.prog 36 3 3 := FieldAt.mk Tryd.underlying36 rfl rfl tok3 (by decide)
theorem fld36_4 : FieldAt Tryd.prog 36 4 4 := FieldAt.mk Tryd.underlying36 rfl rfl tok3 (by decide)
theorem fld36_5 : FieldAt Tryd.prog 36 5 5 := FieldAt.mk Tryd.underlying36 rfl rfl tok3 (by decide)
theorem fld36_6 : FieldAt Tryd.prog 36 6 6 := FieldAt.mk Tryd.underlying36 rfl rfl tok34 (by decide)
theorem fld36_7 : FieldAt Tryd.prog 36 7 7 := FieldAt.mk Tryd.underlying36 rfl rfl tok22 (by decide)
theorem fld39_0 : FieldAt Tryd.prog 39 0 0 := FieldAt.mk Tryd.underlying39 rfl rfl tok9 (by decide)
theorem fld39_1 : FieldAt Tryd.prog 39 1 1 := FieldAt.mk Tryd.underlying39 rfl rfl tok34 (by decide)
theorem fld39_2 : FieldAt Tryd.prog 39 2 2 := FieldAt.mk Tryd.underlying39 rfl rfl tok37 (by decide)
theorem fld41_0 : FieldAt Tryd.prog 41 0 0 := FieldAt.mk Tryd.underlying41 rfl rfl tok9 (by decide)
theorem fld41_1 : FieldAt Tryd.prog 41 1 1 := FieldAt.mk Tryd.underlying41 rfl rfl tok9 (by decide)
theorem fld41_2 : FieldAt Tryd.prog 41 2 2 := FieldAt.mk Tryd.underlying41 rfl rfl tok9 (by decide)
theorem fld41_3 : FieldAt Tryd.prog 41 3 3 := FieldAt.mk Tryd.underlying41 rfl rfl tok9 (by decide)
theorem fld41_4 : FieldAt Tryd.prog 41 4 4 := FieldAt.mk Tryd.underlying41 rfl rfl tok3 (by decide)
theorem fld64_0 : FieldAt Tryd.prog 64 0 0 := FieldAt.mk Tryd.underlying64 rfl rfl tok3 (by decide)
theorem fld64_1 : FieldAt Tryd.prog 64 1 1 := FieldAt.mk Tryd.underlying64 rfl rfl tok3 (by decide)
theorem fld64_2 : FieldAt Tryd.prog 64 2 2 := FieldAt.mk Tryd.underlying64 rfl rfl tok3 (by decide)
theorem fld64_3 : FieldAt Tryd.prog 64 3 3 := FieldAt.mk Tryd.underlying64 rfl rfl tok42 (by decide)
theorem fld68_0 : FieldAt Tryd.prog 68 0 0 := FieldAt.mk Tryd.underlying68 rfl rfl tok4 (by decide)
theorem fld68_1 : FieldAt Tryd.prog 68 1 1 := FieldAt.mk Tryd.underlying68 rfl rfl tok42 (by decide)
theorem fld72_0 : FieldAt Tryd.prog 72 0 0 := FieldAt.mk Tryd.underlying72 rfl rfl tok71 (by decide)
theorem fld76_0 : FieldAt Tryd.prog 76 0 0 := FieldAt.mk Tryd.underlying76 rfl rfl tok29 (by decide)
theorem fld76_1 : FieldAt Tryd.prog 76 1 4 := FieldAt.mk Tryd.underlying76 rfl rfl tok3 (by decide)
theorem fld76_2 : FieldAt Tryd.prog 76 2 5 := FieldAt.mk Tryd.underlying76 rfl rfl tok3 (by decide)
theorem fld76_3 : FieldAt Tryd.prog 76 3 6 := FieldAt.mk Tryd.underlying76 rfl rfl tok36 (by decide)
theorem fld80_0 : FieldAt Tryd.prog 80 0 0 := FieldAt.mk Tryd.underlying80 rfl rfl tok22 (by decide)
theorem fld80_1 : FieldAt Tryd.prog 80 1 1 := FieldAt.mk Tryd.underlying80 rfl rfl tok3 (by decide)
theorem call6 : Callable Tryd.prog 6 := ⟨⟨_,Tryd.func6,by kernel_rfl,rfl⟩⟩
theorem call8 : Callable Tryd.prog 8 := ⟨⟨_,Tryd.func8,by kernel_rfl,rfl⟩⟩
theorem call9 : Callable Tryd.prog 9 := ⟨⟨_,Tryd.func9,by kernel_rfl,rfl⟩⟩
theorem call10 : Callable Tryd.prog 10 := ⟨⟨_,Tryd.func10,by kernel_rfl,rfl⟩⟩
theorem call11 : Callable Tryd.prog 11 := ⟨⟨_,Tryd.func11,by kernel_rfl,rfl⟩⟩
theorem call12 : Callable Tryd.prog 12 := ⟨⟨_,Tryd.func12,by kernel_rfl,rfl⟩⟩
theorem call13 : Callable Tryd.prog 13 := ⟨⟨_,Tryd.func13,by kernel_rfl,rfl⟩⟩
theorem call14 : Callable Tryd.prog 14 := ⟨⟨_,Tryd.func14,by kernel_rfl,rfl⟩⟩
theorem call15 : Callable Tryd.prog 15 := ⟨⟨_,Tryd.func15,by kernel_rfl,rfl⟩⟩
theorem call16 : Callable Tryd.prog 16 := ⟨⟨_,Tryd.func16,by kernel_rfl,rfl⟩⟩
theorem call17 : Callable Tryd.prog 17 := ⟨⟨_,Tryd.func17,by kernel_rfl,rfl⟩⟩
theorem call18 : Callable Tryd.prog 18 := ⟨⟨_,Tryd.func18,by kernel_rfl,rfl⟩⟩
theorem call19 : Callable Tryd.prog 19 := ⟨⟨_,Tryd.func19,by kernel_rfl,rfl⟩⟩
theorem call20 : Callable Tryd.prog 20 := ⟨⟨_,Tryd.func20,by kernel_rfl,rfl⟩⟩
theorem call21 : Callable Tryd.prog 21 := ⟨⟨_,Tryd.func21,by kernel_rfl,rfl⟩⟩
theorem call22 : Callable Tryd.prog 22 := ⟨⟨_,Tryd.func22,by kernel_rfl,rfl⟩⟩
theorem call23 : Callable Tryd.prog 23 := ⟨⟨_,Tryd.func23,by kernel_rfl,rfl⟩⟩
theorem call24 : Callable Tryd.prog 24 := ⟨⟨_,Tryd.func24,by kernel_rfl,rfl⟩⟩
theorem call25 : Callable Tryd.prog 25 := ⟨⟨_,Tryd.func25,by kernel_rfl,rfl⟩⟩
theorem call26 : Callable Tryd.prog 26 := ⟨⟨_,Tryd.func26,by kernel_rfl,rfl⟩⟩
theorem call27 : Callable Tryd.prog 27 := ⟨⟨_,Tryd.func27,by kernel_rfl,rfl⟩⟩
theorem call28 : Callable Tryd.prog 28 := ⟨⟨_,Tryd.func28,by kernel_rfl,rfl⟩⟩
theorem call29 : Callable Tryd.prog 29 := ⟨⟨_,Tryd.func29,by kernel_rfl,rfl⟩⟩
theorem call30 : Callable Tryd.prog 30 := ⟨⟨_,Tryd.func30,by kernel_rfl,rfl⟩⟩
theorem call31 : Callable Tryd.prog 31 := ⟨⟨_,Tryd.func31,by kernel_rfl,rfl⟩⟩
theorem call32 : Callable Tryd.prog 32 := ⟨⟨_,Tryd.func32,by kernel_rfl,rfl⟩⟩
theorem call33 : Callable Tryd.prog 33 := ⟨⟨_,Tryd.func33,by kernel_rfl,rfl⟩⟩
theorem call34 : Callable Tryd.prog 34 := ⟨⟨_,Tryd.func34,by kernel_rfl,rfl⟩⟩
theorem call35 : Callable Tryd.prog 35 := ⟨⟨_,Tryd.func35,by kernel_rfl,rfl⟩⟩
theorem call36 : Callable Tryd.prog 36 := ⟨⟨_,Tryd.func36,by kernel_rfl,rfl⟩⟩
theorem call37 : Callable Tryd.prog 37 := ⟨⟨_,Tryd.func37,by kernel_rfl,rfl⟩⟩
theorem call38 : Callable Tryd.prog 38 := ⟨⟨_,Tryd.func38,by kernel_rfl,rfl⟩⟩
theorem call39 : Callable Tryd.prog 39 := ⟨⟨_,Tryd.func39,by kernel_rfl,rfl⟩⟩
theorem call40 : Callable Tryd.prog 40 := ⟨⟨_,Tryd.func40,by kernel_rfl,rfl⟩⟩
theorem call41 : Callable Tryd.prog 41 := ⟨⟨_,Tryd.func41,by kernel_rfl,rfl⟩⟩
theorem call42 : Callable Tryd.prog 42 := ⟨⟨_,Tryd.func42,by kernel_rfl,rfl⟩⟩
theorem call43 : Callable Tryd.prog 43 := ⟨⟨_,Tryd.func43,by kernel_rfl,rfl⟩⟩
theorem call44 : Callable Tryd.prog 44 := ⟨⟨_,Tryd.func44,by kernel_rfl,rfl⟩⟩
theorem call45 : Callable Tryd.prog 45 := ⟨⟨_,Tryd.func45,by kernel_rfl,rfl⟩⟩
theorem call46 : Callable Tryd.prog 46 := ⟨⟨_,Tryd.func46,by kernel_rfl,rfl⟩⟩
theorem call47 : Callable Tryd.prog 47 := ⟨⟨_,Tryd.func47,by kernel_rfl,rfl⟩⟩
theorem call48 : Callable Tryd.prog 48 := ⟨⟨_,Tryd.func48,by kernel_rfl,rfl⟩⟩
theorem call50 : Callable Tryd.prog 50 := ⟨⟨_,Tryd.func50,by kernel_rfl,rfl⟩⟩
theorem call51 : Callable Tryd.prog 51 := ⟨⟨_,Tryd.func51,by kernel_rfl,rfl⟩⟩
theorem call52 : Callable Tryd.prog 52 := ⟨⟨_,Tryd.func52,by kernel_rfl,rfl⟩⟩
theorem call54 : Callable Tryd.prog 54 := ⟨⟨_,Tryd.func54,by kernel_rfl,rfl⟩⟩
theorem call55 : Callable Tryd.prog 55 := ⟨⟨_,Tryd.func55,by kernel_rfl,rfl⟩⟩
theorem call56 : Callable Tryd.prog 56 := ⟨⟨_,Tryd.func56,by kernel_rfl,rfl⟩⟩
theorem call57 : Callable Tryd.prog 57 := ⟨⟨_,Tryd.func57,by kernel_rfl,rfl⟩⟩
theorem call58 : Callable Tryd.prog 58 := ⟨⟨_,Tryd.func58,by kernel_rfl,rfl⟩⟩
theorem call59 : Callable Tryd.prog 59 := ⟨⟨_,Tryd.func59,by kernel_rfl,rfl⟩⟩
theorem call60 : Callable Tryd.prog 60 := ⟨⟨_,Tryd.func60,by kernel_rfl,rfl⟩⟩
theorem call61 : Callable Tryd.prog 61 := ⟨⟨_,Tryd.func61,by kernel_rfl,rfl⟩⟩
theorem call62 : Callable Tryd.prog 62 := ⟨⟨_,Tryd.func62,by kernel_rfl,rfl⟩⟩
theorem call63 : Callable Tryd.prog 63 := ⟨⟨_,Tryd.func63,by kernel_rfl,rfl⟩⟩
theorem call64 : Callable Tryd.prog 64 := ⟨⟨_,Tryd.func64,by kernel_rfl,rfl⟩⟩
theorem call65 : Callable Tryd.prog 65 := ⟨⟨_,Tryd.func65,by kernel_rfl,rfl⟩⟩
theorem call66 : Callable Tryd.prog 66 := ⟨⟨_,Tryd.func66,by kernel_rfl,rfl⟩⟩
theorem call67 : Callable Tryd.prog 67 := ⟨⟨_,Tryd.func67,by kernel_rfl,rfl⟩⟩
theorem call68 : Callable Tryd.prog 68 := ⟨⟨_,Tryd.func68,by kernel_rfl,rfl⟩⟩
theorem call69 : Callable Tryd.prog 69 := ⟨⟨_,Tryd.func69,by kernel_rfl,rfl⟩⟩
theorem call70 : Callable Tryd.prog 70 := ⟨⟨_,Tryd.func70,by kernel_rfl,rfl⟩⟩
theorem call71 : Callable Tryd.prog 71 := ⟨⟨_,Tryd.func71,by kernel_rfl,rfl⟩⟩
theorem call72 : Callable Tryd.prog 72 := ⟨⟨_,Tryd.func72,by kernel_rfl,rfl⟩⟩
theorem call73 : Callable Tryd.prog 73 := ⟨⟨_,Tryd.func73,by kernel_rfl,rfl⟩⟩
theorem call74 : Callable Tryd.prog 74 := ⟨⟨_,Tryd.func74,by kernel_rfl,rfl⟩⟩
theorem call75 : Callable Tryd.prog 75 := ⟨⟨_,Tryd.func75,by kernel_rfl,rfl⟩⟩
theorem call76 : Callable Tryd.prog 76 := ⟨⟨_,Tryd.func76,by kernel_rfl,rfl⟩⟩
theorem call77 : Callable Tryd.prog 77 := ⟨⟨_,Tryd.func77,by kernel_rfl,rfl⟩⟩
theorem call78 : Callable Tryd.prog 78 := ⟨⟨_,Tryd.func78,by kernel_rfl,rfl⟩⟩
theorem call82 : Callable Tryd.prog 82 := ⟨⟨_,Tryd.func82,by kernel_rfl,rfl⟩⟩
theorem call83 : Callable Tryd.prog 83 := ⟨⟨_,Tryd.func83,by kernel_rfl,rfl⟩⟩
theorem call84 : Callable Tryd.prog 84 := ⟨⟨_,Tryd.func84,by kernel_rfl,rfl⟩⟩
theorem call85 : Callable Tryd.prog 85 := ⟨⟨_,Tryd.func85,by kernel_rfl,rfl⟩⟩
theorem call86 : Callable Tryd.prog 86 := ⟨⟨_,Tryd.func86,by kernel_rfl,rfl⟩⟩
theorem call87 : Callable Tryd.prog 87 := ⟨⟨_,Tryd.func87,by kernel_rfl,rfl⟩⟩
theorem call88 : Callable Tryd.prog 88 := ⟨⟨_,Tryd.func88,by kernel_rfl,rfl⟩⟩
theorem call118 : Callable Tryd.prog 118 := ⟨⟨_,Tryd.func118,by kernel_rfl,rfl⟩⟩
theorem call121 : Callable Tryd.prog 121 := ⟨⟨_,Tryd.func121,by kernel_rfl,rfl⟩⟩
theorem call122 : Callable Tryd.prog 122 := ⟨⟨_,Tryd.func122,by kernel_rfl,rfl⟩⟩
theorem call123 : Callable Tryd.prog 123 := ⟨⟨_,Tryd.func123,by kernel_rfl,rfl⟩⟩
theorem call124 : Callable Tryd.prog 124 := ⟨⟨_,Tryd.func124,by kernel_rfl,rfl⟩⟩
theorem call125 : Callable Tryd.prog 125 := ⟨⟨_,Tryd.func125,by kernel_rfl,rfl⟩⟩
theorem call126 : Callable Tryd.prog 126 := ⟨⟨_,Tryd.func126,by kernel_rfl,rfl⟩⟩
theorem call127 : Callable Tryd.prog 127 := ⟨⟨_,Tryd.func127,by kernel_rfl,rfl⟩⟩
theorem call128 : Callable Tryd.prog 128 := ⟨⟨_,Tryd.func128,by kernel_rfl,rfl⟩⟩
theorem call129 : Callable Tryd.prog 129 := ⟨⟨_,Tryd.func129,by kernel_rfl,rfl⟩⟩
theorem call130 : Callable Tryd.prog 130 := ⟨⟨_,Tryd.func130,by kernel_rfl,rfl⟩⟩
theorem call131 : Callable Tryd.prog 131 := ⟨⟨_,Tryd.func131,by kernel_rfl,rfl⟩⟩
abbrev zz0 : Sapi_Field := (Sapi_Field.mk ([] : Str) ([] : Str) ([] : Str) (0:Int) (0:Int) (0:Int) ([] : (List Str)) ([] : (List Int)))
abbrev zz1 : Sapi_Kind := (Sapi_Kind.mk ([] : Str) (0:Int) (0:Int) ([] : (List Sapi_Field)))
abbrev zz2 : Sapi_Life := (Sapi_Life.mk ([] : Str) ([] : (List Str)) ([] : (List A2_Int)))
abbrev zz3 : Sapi_Rule := (Sapi_Rule.mk ([] : Str) ([] : Str) ([] : Str) ([] : Str) (0:Int))
abbrev zz4 : Sapi_Schema := (Sapi_Schema.mk (0:Int) ([] : (List Sapi_Kind)) ([] : (List Sapi_Life)) ([] : (List Sapi_Rule)))
abbrev ud104 := Tryd.underlying104
abbrev ud107 := Tryd.underlying107
abbrev ud22 := Tryd.underlying22
abbrev ud25 := Tryd.underlying25
abbrev ud26 := Tryd.underlying26
abbrev ud27 := Tryd.underlying27
abbrev ud29 := Tryd.underlying29
abbrev ud3 := Tryd.underlying3
abbrev ud30 := Tryd.underlying30
abbrev ud34 := Tryd.underlying34
abbrev ud36 := Tryd.underlying36
abbrev ud37 := Tryd.underlying37
abbrev ud41 := Tryd.underlying41
abbrev ud45 := Tryd.underlying45
abbrev ud47 := Tryd.underlying47
abbrev ud52 := Tryd.underlying52
abbrev ud68 := Tryd.underlying68
abbrev ud83 := Tryd.underlying83
abbrev ud9 := Tryd.underlying9

end Go.Proofs.YthdfmpocknmleaaDoor

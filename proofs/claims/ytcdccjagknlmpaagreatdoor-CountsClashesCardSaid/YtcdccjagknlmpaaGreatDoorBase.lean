/- Closed facts on the types and functions of the translation, written by a program. No condition. -/
import Derived.Test.YtcdccjagknlmpaaGreatDoorSimL
import Derived.Test.YtcdccjagknlmpaaGreatDoorRows
namespace Go.Proofs.YtcdccjagknlmpaaGreatDoor
open Go.Sim

theorem mixed : Tryz.prog.follows .mixedOrders = true := by kernel_rfl
def ents0 : List (Value × Value) := [(.int .i64 0,.agg #[.func (.func 207) #[] #[]]),(.int .i64 1,.agg #[.func (.func 208) #[] #[]]),(.int .i64 4,.agg #[.func (.func 209) #[] #[]]),(.int .i64 5,.agg #[.func (.func 210) #[] #[]]),(.int .i64 6,.agg #[.func (.func 212) #[] #[]]),(.int .i64 7,.agg #[.func (.func 214) #[] #[]]),(.int .i64 8,.agg #[.func (.func 216) #[] #[]])]
def tgloM0 : Ty := tmapC ents0
def tglo0 : List Ty := [tgloM0]
theorem tokM0 : TOk Tryz.prog 131 (rMapC ents0) 8 (.map none) := ⟨⟨_,Tryz.underlying131,rfl⟩,(by kernel_rfl : (Tryz.prog.info? 131).map (fun i => (i.zero,i.size,i.bytes)) = some (some (.map none),1,8)),rfl⟩
def dB32L : List Int := [0,1,28,2,29,14,24,3,30,22,20,15,25,17,4,8,31,27,13,23,21,19,16,7,26,12,18,6,11,5,10,9]
def tglo1 : List Ty := dB32L.flatMap (rInt .u8).cs
def dB64L : List Int := [0,1,56,2,57,49,28,3,61,58,42,50,38,29,17,4,62,47,59,36,45,43,51,22,53,39,33,30,24,18,12,5,63,55,48,27,60,41,37,16,46,35,44,21,52,32,23,11,54,26,40,15,34,20,31,10,25,14,19,9,13,8,7,6]
def tglo2 : List Ty := dB64L.flatMap (rInt .u8).cs
def wordsL : List Str := [[107,101,121],[114,101,102],[110,117,109],[112,105,99,107],[100,97,121],[115,116,101,112],[115,117,109],[115,104,97,114,101],[99,111,112,121]]
def tglo3 : List Ty := wordsL.flatMap rS.cs
def pow10L : List Int := [1,10,100,1000,10000,100000,1000000,10000000,100000000,1000000000,10000000000,100000000000,1000000000000,10000000000000,100000000000000,1000000000000000,10000000000000000,100000000000000000,1000000000000000000,10000000000000000000]
def tglo4 : List Ty := pow10L.flatMap (rInt .u64).cs
abbrev bld := bldE 187 5
/-- What the package variables hold. -/
def glo : Atom := gloA [(0,tglo0),(1,tglo1),(2,tglo2),(3,tglo3),(4,tglo4)]
theorem glo_fp : ∀ k,¬ glo.fp k := fun _ h => h
theorem _root_.Go.Sim.OpJ.glo {P : Program} {o : Oper} {Γ : List (Nat × Ty)} {U E : List Atom} {N : Value → List Atom} {T : Value → Ty} (h : OpJ P o Γ U (glo :: E) N T) : OpJ P o Γ (glo :: U) E N T := OpJ.gloG glo_fp h
theorem glo_is0 : GloIs glo 0 tglo0 := gloA_is (by simp)
theorem glo_has0 : GloHas glo 0 tglo0 := glo_is0.has
theorem glo_is2 : GloIs glo 2 tglo2 := gloA_is (by simp)
theorem glo_has2 : GloHas glo 2 tglo2 := glo_is2.has
theorem glo_is3 : GloIs glo 3 tglo3 := gloA_is (by simp)
theorem glo_has3 : GloHas glo 3 tglo3 := glo_is3.has
theorem glo_is4 : GloIs glo 4 tglo4 := gloA_is (by simp)
theorem tok3 : TOk Tryz.prog 3 rI 8 (.int .i64 0) := ⟨⟨_,Tryz.underlying3,rfl⟩,by kernel_rfl,rfl⟩
theorem zok3 : ∀ F w,(rI.ty (0:Int)).ok F w (.int .i64 0) := fun _ _ => rfl
theorem tok4 : TOk Tryz.prog 4 rBool 1 (.bool false) := ⟨⟨_,Tryz.underlying4,rfl⟩,by kernel_rfl,rfl⟩
theorem zok4 : ∀ F w,(rBool.ty false).ok F w (.bool false) := fun _ _ => rfl
theorem tok5 : TOk Tryz.prog 5 (rInt .u8) 1 (.int .u8 0) := ⟨⟨_,Tryz.underlying5,rfl⟩,by kernel_rfl,rfl⟩
theorem tok9 : TOk Tryz.prog 9 rS 16 (.string .empty) := ⟨⟨_,Tryz.underlying9,rfl⟩,by kernel_rfl,rfl⟩
theorem tok20 : TOk Tryz.prog 20 (rAny 3 9) 16 .nilIface := ⟨⟨_,Tryz.underlying20,rfl⟩,by kernel_rfl,rfl⟩
theorem tok22 : TOk Tryz.prog 22 (rSl rI) 24 (.slice none 0 0) := ⟨⟨_,Tryz.underlying22,rfl⟩,by kernel_rfl,rfl⟩
theorem tok32 : TOk Tryz.prog 32 (rSl rS) 24 (.slice none 0 0) := ⟨⟨_,Tryz.underlying32,rfl⟩,by kernel_rfl,rfl⟩
structure Sapi_Field where
  Name : Str
  Of : Str
  Up : Str
  Kind : Int
  Lo : Int
  Hi : Int
  Words : (List Str)
  Weights : (List Int)
deriving Inhabited
@[reducible] def rSapi_Field : Rep Sapi_Field := ⟨fun x => ([tv (.string (sB x.Name)),tv (.string (sB x.Of)),tv (.string (sB x.Up)),ti x.Kind,ti x.Lo,ti x.Hi,tsl rS x.Words,tsl rI x.Weights]),8,true,fun _ => rfl,fun _ => (one_cons (one_tv rfl) (one_cons (one_tv rfl) (one_cons (one_tv rfl) (one_cons (one_tv rfl) (one_cons (one_tv rfl) (one_cons (one_tv rfl) (one_cons one_tsl (one_cons one_tsl one_nil)))))))),fun h => (by cases h)⟩
theorem tok61 : TOk Tryz.prog 61 rSapi_Field 120 (.agg #[(.string .empty),(.string .empty),(.string .empty),(.int .i64 0),(.int .i64 0),(.int .i64 0),(.slice none 0 0),(.slice none 0 0)]) := ⟨⟨_,Tryz.underlying61,rfl⟩,by kernel_rfl,rfl⟩
theorem zc61 : ∀ F w,Cells (rSapi_Field.cs (Sapi_Field.mk ([] : Str) ([] : Str) ([] : Str) (0:Int) (0:Int) (0:Int) ([] : (List Str)) ([] : (List Int)))) F w ((.agg #[(.string .empty),(.string .empty),(.string .empty),(.int .i64 0),(.int .i64 0),(.int .i64 0),(.slice none 0 0),(.slice none 0 0)]) : Value).cells.toList := fun _ _ => (.cons rfl (.cons rfl (.cons rfl (.cons rfl (.cons rfl (.cons rfl (.cons ⟨none,0,rfl,Nat.le_refl _,fun h => (h rfl).elim⟩ (.cons ⟨none,0,rfl,Nat.le_refl _,fun h => (h rfl).elim⟩ .nil))))))))
theorem zok61 : ∀ F w,(rSapi_Field.ty (Sapi_Field.mk ([] : Str) ([] : Str) ([] : Str) (0:Int) (0:Int) (0:Int) ([] : (List Str)) ([] : (List Int)))).ok F w (.agg #[(.string .empty),(.string .empty),(.string .empty),(.int .i64 0),(.int .i64 0),(.int .i64 0),(.slice none 0 0),(.slice none 0 0)]) := fun F w => ⟨_,rfl,zc61 F w⟩
theorem zv61 : (Tryz.prog.info? 61).bind (·.zero) = some (.agg #[(.string .empty),(.string .empty),(.string .empty),(.int .i64 0),(.int .i64 0),(.int .i64 0),(.slice none 0 0),(.slice none 0 0)]) := by kernel_rfl
theorem pl61 : ∀ w, ((#[⟨"Name", 9, 0, false, "", "", 0⟩, ⟨"Of", 9, 1, false, "", "", 16⟩, ⟨"Up", 9, 2, false, "", "", 32⟩, ⟨"Kind", 3, 3, false, "", "", 48⟩, ⟨"Lo", 3, 4, false, "", "", 56⟩, ⟨"Hi", 3, 5, false, "", "", 64⟩, ⟨"Words", 32, 6, false, "", "", 72⟩, ⟨"Weights", 22, 7, false, "", "", 96⟩] : Array Field).mapM (fun f => do pure (f.offset, ← sizeOf f.type) : Field → Sem (Nat × Nat))).run Tryz.prog w = .ok #[(0, 1), (1, 1), (2, 1), (3, 1), (4, 1), (5, 1), (6, 1), (7, 1)] w := fun _ => by kernel_rfl
theorem tok53 : TOk Tryz.prog 53 (rSl rSapi_Field) 24 (.slice none 0 0) := ⟨⟨_,Tryz.underlying53,rfl⟩,by kernel_rfl,rfl⟩
structure Sapi_Kind where
  Name : Str
  Lo : Int
  Hi : Int
  Fields : (List Sapi_Field)
deriving Inhabited
@[reducible] def rSapi_Kind : Rep Sapi_Kind := ⟨fun x => ([tv (.string (sB x.Name)),ti x.Lo,ti x.Hi,tsl rSapi_Field x.Fields]),4,true,fun _ => rfl,fun _ => (one_cons (one_tv rfl) (one_cons (one_tv rfl) (one_cons (one_tv rfl) (one_cons one_tsl one_nil)))),fun h => (by cases h)⟩
theorem tok55 : TOk Tryz.prog 55 rSapi_Kind 56 (.agg #[(.string .empty),(.int .i64 0),(.int .i64 0),(.slice none 0 0)]) := ⟨⟨_,Tryz.underlying55,rfl⟩,by kernel_rfl,rfl⟩
theorem zc55 : ∀ F w,Cells (rSapi_Kind.cs (Sapi_Kind.mk ([] : Str) (0:Int) (0:Int) ([] : (List Sapi_Field)))) F w ((.agg #[(.string .empty),(.int .i64 0),(.int .i64 0),(.slice none 0 0)]) : Value).cells.toList := fun _ _ => (.cons rfl (.cons rfl (.cons rfl (.cons ⟨none,0,rfl,Nat.le_refl _,fun h => (h rfl).elim⟩ .nil))))
theorem zok55 : ∀ F w,(rSapi_Kind.ty (Sapi_Kind.mk ([] : Str) (0:Int) (0:Int) ([] : (List Sapi_Field)))).ok F w (.agg #[(.string .empty),(.int .i64 0),(.int .i64 0),(.slice none 0 0)]) := fun F w => ⟨_,rfl,zc55 F w⟩
theorem zv55 : (Tryz.prog.info? 55).bind (·.zero) = some (.agg #[(.string .empty),(.int .i64 0),(.int .i64 0),(.slice none 0 0)]) := by kernel_rfl
theorem pl55 : ∀ w, ((#[⟨"Name", 9, 0, false, "", "", 0⟩, ⟨"Lo", 3, 1, false, "", "", 16⟩, ⟨"Hi", 3, 2, false, "", "", 24⟩, ⟨"Fields", 53, 3, false, "", "", 32⟩] : Array Field).mapM (fun f => do pure (f.offset, ← sizeOf f.type) : Field → Sem (Nat × Nat))).run Tryz.prog w = .ok #[(0, 1), (1, 1), (2, 1), (3, 1)] w := fun _ => by kernel_rfl
theorem tok23 : TOk Tryz.prog 23 (rSl rSapi_Kind) 24 (.slice none 0 0) := ⟨⟨_,Tryz.underlying23,rfl⟩,by kernel_rfl,rfl⟩
structure A2_Int where
  a0 : Int
  a1 : Int
deriving Inhabited
@[reducible] def rA2_Int : Rep A2_Int := ⟨fun x => ([ti x.a0,ti x.a1]),2,true,fun _ => rfl,fun _ => (one_cons (one_tv rfl) (one_cons (one_tv rfl) one_nil)),fun h => (by cases h)⟩
theorem tok82 : TOk Tryz.prog 82 rA2_Int 16 (.agg #[(.int .i64 0),(.int .i64 0)]) := ⟨⟨_,Tryz.underlying82,rfl⟩,by kernel_rfl,rfl⟩
theorem zc82 : ∀ F w,Cells (rA2_Int.cs (A2_Int.mk (0:Int) (0:Int))) F w ((.agg #[(.int .i64 0),(.int .i64 0)]) : Value).cells.toList := fun _ _ => (.cons rfl (.cons rfl .nil))
theorem zok82 : ∀ F w,(rA2_Int.ty (A2_Int.mk (0:Int) (0:Int))).ok F w (.agg #[(.int .i64 0),(.int .i64 0)]) := fun F w => ⟨_,rfl,zc82 F w⟩
theorem tok79 : TOk Tryz.prog 79 (rSl rA2_Int) 24 (.slice none 0 0) := ⟨⟨_,Tryz.underlying79,rfl⟩,by kernel_rfl,rfl⟩
structure Sapi_Life where
  Name : Str
  States : (List Str)
  Moves : (List A2_Int)
deriving Inhabited
@[reducible] def rSapi_Life : Rep Sapi_Life := ⟨fun x => ([tv (.string (sB x.Name)),tsl rS x.States,tsl rA2_Int x.Moves]),3,true,fun _ => rfl,fun _ => (one_cons (one_tv rfl) (one_cons one_tsl (one_cons one_tsl one_nil))),fun h => (by cases h)⟩
theorem tok81 : TOk Tryz.prog 81 rSapi_Life 64 (.agg #[(.string .empty),(.slice none 0 0),(.slice none 0 0)]) := ⟨⟨_,Tryz.underlying81,rfl⟩,by kernel_rfl,rfl⟩
theorem zc81 : ∀ F w,Cells (rSapi_Life.cs (Sapi_Life.mk ([] : Str) ([] : (List Str)) ([] : (List A2_Int)))) F w ((.agg #[(.string .empty),(.slice none 0 0),(.slice none 0 0)]) : Value).cells.toList := fun _ _ => (.cons rfl (.cons ⟨none,0,rfl,Nat.le_refl _,fun h => (h rfl).elim⟩ (.cons ⟨none,0,rfl,Nat.le_refl _,fun h => (h rfl).elim⟩ .nil)))
theorem zok81 : ∀ F w,(rSapi_Life.ty (Sapi_Life.mk ([] : Str) ([] : (List Str)) ([] : (List A2_Int)))).ok F w (.agg #[(.string .empty),(.slice none 0 0),(.slice none 0 0)]) := fun F w => ⟨_,rfl,zc81 F w⟩
theorem tok24 : TOk Tryz.prog 24 (rSl rSapi_Life) 24 (.slice none 0 0) := ⟨⟨_,Tryz.underlying24,rfl⟩,by kernel_rfl,rfl⟩
structure Sapi_Rule where
  Name : Str
  Kind : Str
  A : Str
  B : Str
  N : Int
deriving Inhabited
@[reducible] def rSapi_Rule : Rep Sapi_Rule := ⟨fun x => ([tv (.string (sB x.Name)),tv (.string (sB x.Kind)),tv (.string (sB x.A)),tv (.string (sB x.B)),ti x.N]),5,true,fun _ => rfl,fun _ => (one_cons (one_tv rfl) (one_cons (one_tv rfl) (one_cons (one_tv rfl) (one_cons (one_tv rfl) (one_cons (one_tv rfl) one_nil))))),fun h => (by cases h)⟩
theorem tok84 : TOk Tryz.prog 84 rSapi_Rule 72 (.agg #[(.string .empty),(.string .empty),(.string .empty),(.string .empty),(.int .i64 0)]) := ⟨⟨_,Tryz.underlying84,rfl⟩,by kernel_rfl,rfl⟩
theorem zc84 : ∀ F w,Cells (rSapi_Rule.cs (Sapi_Rule.mk ([] : Str) ([] : Str) ([] : Str) ([] : Str) (0:Int))) F w ((.agg #[(.string .empty),(.string .empty),(.string .empty),(.string .empty),(.int .i64 0)]) : Value).cells.toList := fun _ _ => (.cons rfl (.cons rfl (.cons rfl (.cons rfl (.cons rfl .nil)))))
theorem zok84 : ∀ F w,(rSapi_Rule.ty (Sapi_Rule.mk ([] : Str) ([] : Str) ([] : Str) ([] : Str) (0:Int))).ok F w (.agg #[(.string .empty),(.string .empty),(.string .empty),(.string .empty),(.int .i64 0)]) := fun F w => ⟨_,rfl,zc84 F w⟩
theorem tok25 : TOk Tryz.prog 25 (rSl rSapi_Rule) 24 (.slice none 0 0) := ⟨⟨_,Tryz.underlying25,rfl⟩,by kernel_rfl,rfl⟩
structure Sapi_Schema where
  Version : Int
  Kinds : (List Sapi_Kind)
  Lives : (List Sapi_Life)
  Rules : (List Sapi_Rule)
deriving Inhabited
@[reducible] def rSapi_Schema : Rep Sapi_Schema := ⟨fun x => ([ti x.Version,tsl rSapi_Kind x.Kinds,tsl rSapi_Life x.Lives,tsl rSapi_Rule x.Rules]),4,true,fun _ => rfl,fun _ => (one_cons (one_tv rfl) (one_cons one_tsl (one_cons one_tsl (one_cons one_tsl one_nil)))),fun h => (by cases h)⟩
theorem tok27 : TOk Tryz.prog 27 rSapi_Schema 80 (.agg #[(.int .i64 0),(.slice none 0 0),(.slice none 0 0),(.slice none 0 0)]) := ⟨⟨_,Tryz.underlying27,rfl⟩,by kernel_rfl,rfl⟩
theorem zc27 : ∀ F w,Cells (rSapi_Schema.cs (Sapi_Schema.mk (0:Int) ([] : (List Sapi_Kind)) ([] : (List Sapi_Life)) ([] : (List Sapi_Rule)))) F w ((.agg #[(.int .i64 0),(.slice none 0 0),(.slice none 0 0),(.slice none 0 0)]) : Value).cells.toList := fun _ _ => (.cons rfl (.cons ⟨none,0,rfl,Nat.le_refl _,fun h => (h rfl).elim⟩ (.cons ⟨none,0,rfl,Nat.le_refl _,fun h => (h rfl).elim⟩ (.cons ⟨none,0,rfl,Nat.le_refl _,fun h => (h rfl).elim⟩ .nil))))
theorem zok27 : ∀ F w,(rSapi_Schema.ty (Sapi_Schema.mk (0:Int) ([] : (List Sapi_Kind)) ([] : (List Sapi_Life)) ([] : (List Sapi_Rule)))).ok F w (.agg #[(.int .i64 0),(.slice none 0 0),(.slice none 0 0),(.slice none 0 0)]) := fun F w => ⟨_,rfl,zc27 F w⟩
theorem zv27 : (Tryz.prog.info? 27).bind (·.zero) = some (.agg #[(.int .i64 0),(.slice none 0 0),(.slice none 0 0),(.slice none 0 0)]) := by kernel_rfl
theorem pl27 : ∀ w, ((#[⟨"Version", 3, 0, false, "", "", 0⟩, ⟨"Kinds", 23, 1, false, "", "", 8⟩, ⟨"Lives", 24, 2, false, "", "", 32⟩, ⟨"Rules", 25, 3, false, "", "", 56⟩] : Array Field).mapM (fun f => do pure (f.offset, ← sizeOf f.type) : Field → Sem (Nat × Nat))).run Tryz.prog w = .ok #[(0, 1), (1, 1), (2, 1), (3, 1)] w := fun _ => by kernel_rfl
structure Scounts_Limit where
  A : Int
  B : Int
  Mul : Int
  Least : Bool
deriving Inhabited
@[reducible] def rScounts_Limit : Rep Scounts_Limit := ⟨fun x => ([ti x.A,ti x.B,ti x.Mul,tb x.Least]),4,true,fun _ => rfl,fun _ => (one_cons (one_tv rfl) (one_cons (one_tv rfl) (one_cons (one_tv rfl) (one_cons (one_tv rfl) one_nil)))),fun h => (by cases h)⟩
theorem tok43 : TOk Tryz.prog 43 rScounts_Limit 32 (.agg #[(.int .i64 0),(.int .i64 0),(.int .i64 0),(.bool false)]) := ⟨⟨_,Tryz.underlying43,rfl⟩,by kernel_rfl,rfl⟩
theorem zc43 : ∀ F w,Cells (rScounts_Limit.cs (Scounts_Limit.mk (0:Int) (0:Int) (0:Int) false)) F w ((.agg #[(.int .i64 0),(.int .i64 0),(.int .i64 0),(.bool false)]) : Value).cells.toList := fun _ _ => (.cons rfl (.cons rfl (.cons rfl (.cons rfl .nil))))
theorem zok43 : ∀ F w,(rScounts_Limit.ty (Scounts_Limit.mk (0:Int) (0:Int) (0:Int) false)).ok F w (.agg #[(.int .i64 0),(.int .i64 0),(.int .i64 0),(.bool false)]) := fun F w => ⟨_,rfl,zc43 F w⟩
theorem zv43 : (Tryz.prog.info? 43).bind (·.zero) = some (.agg #[(.int .i64 0),(.int .i64 0),(.int .i64 0),(.bool false)]) := by kernel_rfl
theorem pl43 : ∀ w, ((#[⟨"A", 3, 0, false, "", "", 0⟩, ⟨"B", 3, 1, false, "", "", 8⟩, ⟨"Mul", 3, 2, false, "", "", 16⟩, ⟨"Least", 4, 3, false, "", "", 24⟩] : Array Field).mapM (fun f => do pure (f.offset, ← sizeOf f.type) : Field → Sem (Nat × Nat))).run Tryz.prog w = .ok #[(0, 1), (1, 1), (2, 1), (3, 1)] w := fun _ => by kernel_rfl
theorem tok31 : TOk Tryz.prog 31 (rSl rScounts_Limit) 24 (.slice none 0 0) := ⟨⟨_,Tryz.underlying31,rfl⟩,by kernel_rfl,rfl⟩
theorem tok33 : TOk Tryz.prog 33 rI 8 (.int .i64 0) := ⟨⟨_,Tryz.underlying33,rfl⟩,by kernel_rfl,rfl⟩
structure Sref13_Limit where
  A : Int
  B : Int
  Mul : Int
  Least : Bool
deriving Inhabited
@[reducible] def rSref13_Limit : Rep Sref13_Limit := ⟨fun x => ([ti x.A,ti x.B,ti x.Mul,tb x.Least]),4,true,fun _ => rfl,fun _ => (one_cons (one_tv rfl) (one_cons (one_tv rfl) (one_cons (one_tv rfl) (one_cons (one_tv rfl) one_nil)))),fun h => (by cases h)⟩
theorem tok41 : TOk Tryz.prog 41 rSref13_Limit 32 (.agg #[(.int .i64 0),(.int .i64 0),(.int .i64 0),(.bool false)]) := ⟨⟨_,Tryz.underlying41,rfl⟩,by kernel_rfl,rfl⟩
theorem zc41 : ∀ F w,Cells (rSref13_Limit.cs (Sref13_Limit.mk (0:Int) (0:Int) (0:Int) false)) F w ((.agg #[(.int .i64 0),(.int .i64 0),(.int .i64 0),(.bool false)]) : Value).cells.toList := fun _ _ => (.cons rfl (.cons rfl (.cons rfl (.cons rfl .nil))))
theorem zok41 : ∀ F w,(rSref13_Limit.ty (Sref13_Limit.mk (0:Int) (0:Int) (0:Int) false)).ok F w (.agg #[(.int .i64 0),(.int .i64 0),(.int .i64 0),(.bool false)]) := fun F w => ⟨_,rfl,zc41 F w⟩
theorem zv41 : (Tryz.prog.info? 41).bind (·.zero) = some (.agg #[(.int .i64 0),(.int .i64 0),(.int .i64 0),(.bool false)]) := by kernel_rfl
theorem pl41 : ∀ w, ((#[⟨"A", 3, 0, false, "", "", 0⟩, ⟨"B", 3, 1, false, "", "", 8⟩, ⟨"Mul", 3, 2, false, "", "", 16⟩, ⟨"Least", 4, 3, false, "", "", 24⟩] : Array Field).mapM (fun f => do pure (f.offset, ← sizeOf f.type) : Field → Sem (Nat × Nat))).run Tryz.prog w = .ok #[(0, 1), (1, 1), (2, 1), (3, 1)] w := fun _ => by kernel_rfl
theorem tok36 : TOk Tryz.prog 36 (rSl rSref13_Limit) 24 (.slice none 0 0) := ⟨⟨_,Tryz.underlying36,rfl⟩,by kernel_rfl,rfl⟩
@[reducible] def tF96 (p : (Int → Option Bool)) : Ty := tfn Tryz.prog [] (A := Int) (B := Bool) (fun x => [ti x]) (fun y => tb y) (p)
@[reducible] def rF96 : Rep (Int → Option Bool) := ⟨fun p => [tF96 p],1,false,fun _ => rfl,fun _ => one_cons one_tfn one_nil,fun _ => rfl⟩
theorem tok101 : TOk Tryz.prog 101 (rSl rBool) 24 (.slice none 0 0) := ⟨⟨_,Tryz.underlying101,rfl⟩,by kernel_rfl,rfl⟩
structure Scounts_numbers where
  a0 : Int
  a1 : Int
  a2 : Int
  a3 : Int
  a4 : Int
  a5 : Int
deriving Inhabited
@[reducible] def rScounts_numbers : Rep Scounts_numbers := ⟨fun x => ([ti x.a0,ti x.a1,ti x.a2,ti x.a3,ti x.a4,ti x.a5]),6,true,fun _ => rfl,fun _ => (one_cons (one_tv rfl) (one_cons (one_tv rfl) (one_cons (one_tv rfl) (one_cons (one_tv rfl) (one_cons (one_tv rfl) (one_cons (one_tv rfl) one_nil)))))),fun h => (by cases h)⟩
@[reducible] def Scounts_numbers.L (a : Scounts_numbers) : List Int := [a.a0,a.a1,a.a2,a.a3,a.a4,a.a5]
def Scounts_numbers.setI (a : Scounts_numbers) (i : Int) (v : Int) : Scounts_numbers := match i.toNat with | 0 => { a with a0 := v } | 1 => { a with a1 := v } | 2 => { a with a2 := v } | 3 => { a with a3 := v } | 4 => { a with a4 := v } | 5 => { a with a5 := v } | _ => a
theorem Scounts_numbers.spl {pre post : List Ty} {a : Scounts_numbers} {i : Int} {v u : Int} {o : Nat} (ho : pre.length = o) (h : idx a.L i = some u) : splice (pre ++ rScounts_numbers.cs a ++ post) (o + i.toNat) (rI.cs v) = pre ++ rScounts_numbers.cs (a.setI i v) ++ post := by
  have h1 := (idx_lt' h).2.1
  unfold Scounts_numbers.setI
  revert h1
  generalize i.toNat = k
  intro h1
  refine splice_mid ho (show k + 1 ≤ 6 from h1) ?_
  match k,h1 with
  | 0,_ => rfl
  | 1,_ => rfl
  | 2,_ => rfl
  | 3,_ => rfl
  | 4,_ => rfl
  | 5,_ => rfl
theorem tok103 : TOk Tryz.prog 103 rScounts_numbers 48 (.agg #[(.int .i64 0),(.int .i64 0),(.int .i64 0),(.int .i64 0),(.int .i64 0),(.int .i64 0)]) := ⟨⟨_,Tryz.underlying103,rfl⟩,by kernel_rfl,rfl⟩
theorem zc103 : ∀ F w,Cells (rScounts_numbers.cs (Scounts_numbers.mk (0:Int) (0:Int) (0:Int) (0:Int) (0:Int) (0:Int))) F w ((.agg #[(.int .i64 0),(.int .i64 0),(.int .i64 0),(.int .i64 0),(.int .i64 0),(.int .i64 0)]) : Value).cells.toList := fun _ _ => (.cons rfl (.cons rfl (.cons rfl (.cons rfl (.cons rfl (.cons rfl .nil))))))
theorem zok103 : ∀ F w,(rScounts_numbers.ty (Scounts_numbers.mk (0:Int) (0:Int) (0:Int) (0:Int) (0:Int) (0:Int))).ok F w (.agg #[(.int .i64 0),(.int .i64 0),(.int .i64 0),(.int .i64 0),(.int .i64 0),(.int .i64 0)]) := fun F w => ⟨_,rfl,zc103 F w⟩
def eqScounts_numbers (p q : Scounts_numbers) : Bool := p.a0 == q.a0 && p.a1 == q.a1 && p.a2 == q.a2 && p.a3 == q.a3 && p.a4 == q.a4 && p.a5 == q.a5
set_option maxHeartbeats 2000000 in
theorem eqRun103 (n : Nat) (a0 b0 : Int) (a1 b1 : Int) (a2 b2 : Int) (a3 b3 : Int) (a4 b4 : Int) (a5 b5 : Int) (w : World) : (Op.equalIn (n + 2) 103 (.agg #[.int .i64 a0,.int .i64 a1,.int .i64 a2,.int .i64 a3,.int .i64 a4,.int .i64 a5]) (.agg #[.int .i64 b0,.int .i64 b1,.int .i64 b2,.int .i64 b3,.int .i64 b4,.int .i64 b5])).run Tryz.prog w = .ok (a0 == b0 && a1 == b1 && a2 == b2 && a3 == b3 && a4 == b4 && a5 == b5) w := by
  obtain ⟨ie,hie,_,hse,_⟩ := tok3.info
  have hse1 : ie.size = 1 := hse
  have e3 : ∀ x y : Int,(Op.equalIn (n + 1) 3 (.int .i64 x) (.int .i64 y)).run Tryz.prog w = .ok (x == y) w := fun x y => by simp [Op.equalIn,run_underlying Tryz.underlying3]
  have pt : ∀ (xs : Array Value) (i : Nat) (v : Value),xs[i]? = some v → (part 3 xs i).run Tryz.prog w = .ok v w := fun xs i v h => by simp [part,isAgg,run_underlying Tryz.underlying3,h]
  have p0 : ∀ u0 u1 u2 u3 u4 u5 : Int,(part 3 #[.int .i64 u0,.int .i64 u1,.int .i64 u2,.int .i64 u3,.int .i64 u4,.int .i64 u5] 0).run Tryz.prog w = .ok (.int .i64 u0) w := fun _ _ _ _ _ _ => pt _ 0 _ rfl
  have p1 : ∀ u0 u1 u2 u3 u4 u5 : Int,(part 3 #[.int .i64 u0,.int .i64 u1,.int .i64 u2,.int .i64 u3,.int .i64 u4,.int .i64 u5] 1).run Tryz.prog w = .ok (.int .i64 u1) w := fun _ _ _ _ _ _ => pt _ 1 _ rfl
  have p2 : ∀ u0 u1 u2 u3 u4 u5 : Int,(part 3 #[.int .i64 u0,.int .i64 u1,.int .i64 u2,.int .i64 u3,.int .i64 u4,.int .i64 u5] 2).run Tryz.prog w = .ok (.int .i64 u2) w := fun _ _ _ _ _ _ => pt _ 2 _ rfl
  have p3 : ∀ u0 u1 u2 u3 u4 u5 : Int,(part 3 #[.int .i64 u0,.int .i64 u1,.int .i64 u2,.int .i64 u3,.int .i64 u4,.int .i64 u5] 3).run Tryz.prog w = .ok (.int .i64 u3) w := fun _ _ _ _ _ _ => pt _ 3 _ rfl
  have p4 : ∀ u0 u1 u2 u3 u4 u5 : Int,(part 3 #[.int .i64 u0,.int .i64 u1,.int .i64 u2,.int .i64 u3,.int .i64 u4,.int .i64 u5] 4).run Tryz.prog w = .ok (.int .i64 u4) w := fun _ _ _ _ _ _ => pt _ 4 _ rfl
  have p5 : ∀ u0 u1 u2 u3 u4 u5 : Int,(part 3 #[.int .i64 u0,.int .i64 u1,.int .i64 u2,.int .i64 u3,.int .i64 u4,.int .i64 u5] 5).run Tryz.prog w = .ok (.int .i64 u5) w := fun _ _ _ _ _ _ => pt _ 5 _ rfl
  unfold Op.equalIn
  simp only [Sem.run_bind,run_underlying Tryz.underlying103,Result.andThen_ok,sizeOf,typeInfo,run_program,hie,Sem.run_pure,hse1,Nat.mul_one]
  simp [List.range',p0,p1,p2,p3,p4,p5,e3]
  by_cases h0 : a0 = b0 <;> by_cases h1 : a1 = b1 <;> by_cases h2 : a2 = b2 <;> by_cases h3 : a3 = b3 <;> by_cases h4 : a4 = b4 <;> by_cases h5 : a5 = b5 <;> simp [h0,h1,h2,h3,h4,h5,p0,p1,p2,p3,p4,p5,e3]
theorem eqGuard103 : Tryz.prog.eqGuardType Tryz.prog.depth 103 = false := by kernel_rfl
theorem op_neq_t103 {Γ : List (Nat × Ty)} {d : Option Tmp} {ty t2 : TypeId} {pos : String} {af : Array Edge} {g : Option (Nat × Bool)} {x y : Operand} {p q : Scounts_numbers} (hx : Fct Γ x (rScounts_numbers.ty p)) (hy : Fct Γ y (rScounts_numbers.ty q)) :
    OpJ Tryz.prog ⟨d,.binOp .neq 103 x y t2,ty,pos,af,g⟩ Γ [] [] (fun _ => []) (fun _ => tv (.bool (!eqScounts_numbers p q))) :=
  opj_bin (u := .agg #[.int .i64 p.a0,.int .i64 p.a1,.int .i64 p.a2,.int .i64 p.a3,.int .i64 p.a4,.int .i64 p.a5]) (v := .agg #[.int .i64 q.a0,.int .i64 q.a1,.int .i64 q.a2,.int .i64 q.a3,.int .i64 q.a4,.int .i64 q.a5]) (hx.weak fun _ _ _ h => by obtain ⟨us,hv,hc⟩ := h; rw [hv]; exact cells_vals hc [.int .i64 p.a0,.int .i64 p.a1,.int .i64 p.a2,.int .i64 p.a3,.int .i64 p.a4,.int .i64 p.a5] rfl) (hy.weak fun _ _ _ h => by obtain ⟨us,hv,hc⟩ := h; rw [hv]; exact cells_vals hc [.int .i64 q.a0,.int .i64 q.a1,.int .i64 q.a2,.int .i64 q.a3,.int .i64 q.a4,.int .i64 q.a5] rfl) fun w => by
    have := eqRun103 9998 p.a0 q.a0 p.a1 q.a1 p.a2 q.a2 p.a3 q.a3 p.a4 q.a4 p.a5 q.a5 w
    simp only [eqGuard,binOp,Op.equal,run_program,eqGuard103,Sem.run_bind,Result.andThen_ok]
    simp [Op.maxDepth,this,eqScounts_numbers]
structure Scounts_search where
  limits : (List Scounts_Limit)
  want : (List Int)
  leads : (List Bool)
  now : Scounts_numbers
  best : Scounts_numbers
  cost : Int
deriving Inhabited
@[reducible] def rScounts_search : Rep Scounts_search := ⟨fun x => ([tsl rScounts_Limit x.limits,tsl rI x.want,tsl rBool x.leads] ++ rScounts_numbers.cs x.now ++ rScounts_numbers.cs x.best ++ [ti x.cost]),16,true,fun _ => rfl,fun _ => (one_app (one_app (one_app (one_cons one_tsl (one_cons one_tsl (one_cons one_tsl one_nil))) (one_rep rScounts_numbers)) (one_rep rScounts_numbers)) (one_cons (one_tv rfl) one_nil)),fun h => (by cases h)⟩
theorem zc105 : ∀ F w,Cells (rScounts_search.cs (Scounts_search.mk ([] : (List Scounts_Limit)) ([] : (List Int)) ([] : (List Bool)) (Scounts_numbers.mk (0:Int) (0:Int) (0:Int) (0:Int) (0:Int) (0:Int)) (Scounts_numbers.mk (0:Int) (0:Int) (0:Int) (0:Int) (0:Int) (0:Int)) (0:Int))) F w ((.agg #[(.slice none 0 0),(.slice none 0 0),(.slice none 0 0),(.int .i64 0),(.int .i64 0),(.int .i64 0),(.int .i64 0),(.int .i64 0),(.int .i64 0),(.int .i64 0),(.int .i64 0),(.int .i64 0),(.int .i64 0),(.int .i64 0),(.int .i64 0),(.int .i64 0)]) : Value).cells.toList := fun _ _ => (.cons ⟨none,0,rfl,Nat.le_refl _,fun h => (h rfl).elim⟩ (.cons ⟨none,0,rfl,Nat.le_refl _,fun h => (h rfl).elim⟩ (.cons ⟨none,0,rfl,Nat.le_refl _,fun h => (h rfl).elim⟩ (.cons rfl (.cons rfl (.cons rfl (.cons rfl (.cons rfl (.cons rfl (.cons rfl (.cons rfl (.cons rfl (.cons rfl (.cons rfl (.cons rfl (.cons rfl .nil))))))))))))))))
theorem zv105 : (Tryz.prog.info? 105).bind (·.zero) = some (.agg #[(.slice none 0 0),(.slice none 0 0),(.slice none 0 0),(.int .i64 0),(.int .i64 0),(.int .i64 0),(.int .i64 0),(.int .i64 0),(.int .i64 0),(.int .i64 0),(.int .i64 0),(.int .i64 0),(.int .i64 0),(.int .i64 0),(.int .i64 0),(.int .i64 0)]) := by kernel_rfl
theorem pl105 : ∀ w, ((#[⟨"limits", 31, 0, false, "", "diorama/counts", 0⟩, ⟨"want", 22, 1, false, "", "diorama/counts", 24⟩, ⟨"leads", 101, 2, false, "", "diorama/counts", 48⟩, ⟨"now", 103, 3, false, "", "diorama/counts", 72⟩, ⟨"best", 103, 9, false, "", "diorama/counts", 120⟩, ⟨"cost", 3, 15, false, "", "diorama/counts", 168⟩] : Array Field).mapM (fun f => do pure (f.offset, ← sizeOf f.type) : Field → Sem (Nat × Nat))).run Tryz.prog w = .ok #[(0, 1), (1, 1), (2, 1), (3, 6), (9, 6), (15, 1)] w := fun _ => by kernel_rfl
@[reducible] def tF112 (p : (Scounts_Limit → Option Bool)) : Ty := tfn Tryz.prog [] (A := Scounts_Limit) (B := Bool) (fun x => [rScounts_Limit.ty x]) (fun y => tb y) (p)
@[reducible] def rF112 : Rep (Scounts_Limit → Option Bool) := ⟨fun p => [tF112 p],1,false,fun _ => rfl,fun _ => one_cons one_tfn one_nil,fun _ => rfl⟩
structure Styping_Problem where
  Kind : Int
  Field : Int
  Rule : Int
  Code : Int
deriving Inhabited
@[reducible] def rStyping_Problem : Rep Styping_Problem := ⟨fun x => ([ti x.Kind,ti x.Field,ti x.Rule,ti x.Code]),4,true,fun _ => rfl,fun _ => (one_cons (one_tv rfl) (one_cons (one_tv rfl) (one_cons (one_tv rfl) (one_cons (one_tv rfl) one_nil)))),fun h => (by cases h)⟩
theorem tok119 : TOk Tryz.prog 119 rStyping_Problem 32 (.agg #[(.int .i64 0),(.int .i64 0),(.int .i64 0),(.int .i64 0)]) := ⟨⟨_,Tryz.underlying119,rfl⟩,by kernel_rfl,rfl⟩
theorem zc119 : ∀ F w,Cells (rStyping_Problem.cs (Styping_Problem.mk (0:Int) (0:Int) (0:Int) (0:Int))) F w ((.agg #[(.int .i64 0),(.int .i64 0),(.int .i64 0),(.int .i64 0)]) : Value).cells.toList := fun _ _ => (.cons rfl (.cons rfl (.cons rfl (.cons rfl .nil))))
theorem zv119 : (Tryz.prog.info? 119).bind (·.zero) = some (.agg #[(.int .i64 0),(.int .i64 0),(.int .i64 0),(.int .i64 0)]) := by kernel_rfl
theorem pl119 : ∀ w, ((#[⟨"Kind", 3, 0, false, "", "", 0⟩, ⟨"Field", 3, 1, false, "", "", 8⟩, ⟨"Rule", 3, 2, false, "", "", 16⟩, ⟨"Code", 33, 3, false, "", "", 24⟩] : Array Field).mapM (fun f => do pure (f.offset, ← sizeOf f.type) : Field → Sem (Nat × Nat))).run Tryz.prog w = .ok #[(0, 1), (1, 1), (2, 1), (3, 1)] w := fun _ => by kernel_rfl
@[reducible] def tF122 (p : (Sapi_Life → Option Bool)) : Ty := tfn Tryz.prog [] (A := Sapi_Life) (B := Bool) (fun x => [rSapi_Life.ty x]) (fun y => tb y) (p)
@[reducible] def rF122 : Rep (Sapi_Life → Option Bool) := ⟨fun p => [tF122 p],1,false,fun _ => rfl,fun _ => one_cons one_tfn one_nil,fun _ => rfl⟩
theorem tok122 : TOk Tryz.prog 122 rF122 8 .nilFunc := ⟨⟨_,Tryz.underlying122,rfl⟩,by kernel_rfl,rfl⟩
structure Styping_fault where
  is : Bool
  code : Int
deriving Inhabited
@[reducible] def rStyping_fault : Rep Styping_fault := ⟨fun x => ([tb x.is,ti x.code]),2,true,fun _ => rfl,fun _ => (one_cons (one_tv rfl) (one_cons (one_tv rfl) one_nil)),fun h => (by cases h)⟩
theorem tok125 : TOk Tryz.prog 125 rStyping_fault 16 (.agg #[(.bool false),(.int .i64 0)]) := ⟨⟨_,Tryz.underlying125,rfl⟩,by kernel_rfl,rfl⟩
theorem zc125 : ∀ F w,Cells (rStyping_fault.cs (Styping_fault.mk false (0:Int))) F w ((.agg #[(.bool false),(.int .i64 0)]) : Value).cells.toList := fun _ _ => (.cons rfl (.cons rfl .nil))
theorem zok125 : ∀ F w,(rStyping_fault.ty (Styping_fault.mk false (0:Int))).ok F w (.agg #[(.bool false),(.int .i64 0)]) := fun F w => ⟨_,rfl,zc125 F w⟩
theorem zv125 : (Tryz.prog.info? 125).bind (·.zero) = some (.agg #[(.bool false),(.int .i64 0)]) := by kernel_rfl
theorem pl125 : ∀ w, ((#[⟨"is", 4, 0, false, "", "diorama/typing", 0⟩, ⟨"code", 33, 1, false, "", "diorama/typing", 8⟩] : Array Field).mapM (fun f => do pure (f.offset, ← sizeOf f.type) : Field → Sem (Nat × Nat))).run Tryz.prog w = .ok #[(0, 1), (1, 1)] w := fun _ => by kernel_rfl
structure Styping_spot where
  x : Sapi_Schema
  kind : Int
  field : Int
  f : Sapi_Field
deriving Inhabited
@[reducible] def rStyping_spot : Rep Styping_spot := ⟨fun x => (rSapi_Schema.cs x.x ++ [ti x.kind,ti x.field] ++ rSapi_Field.cs x.f),14,true,fun _ => rfl,fun _ => (one_app (one_app (one_rep rSapi_Schema) (one_cons (one_tv rfl) (one_cons (one_tv rfl) one_nil))) (one_rep rSapi_Field)),fun h => (by cases h)⟩
theorem tok133 : TOk Tryz.prog 133 rStyping_spot 216 (.agg #[(.int .i64 0),(.slice none 0 0),(.slice none 0 0),(.slice none 0 0),(.int .i64 0),(.int .i64 0),(.string .empty),(.string .empty),(.string .empty),(.int .i64 0),(.int .i64 0),(.int .i64 0),(.slice none 0 0),(.slice none 0 0)]) := ⟨⟨_,Tryz.underlying133,rfl⟩,by kernel_rfl,rfl⟩
theorem zc133 : ∀ F w,Cells (rStyping_spot.cs (Styping_spot.mk (Sapi_Schema.mk (0:Int) ([] : (List Sapi_Kind)) ([] : (List Sapi_Life)) ([] : (List Sapi_Rule))) (0:Int) (0:Int) (Sapi_Field.mk ([] : Str) ([] : Str) ([] : Str) (0:Int) (0:Int) (0:Int) ([] : (List Str)) ([] : (List Int))))) F w ((.agg #[(.int .i64 0),(.slice none 0 0),(.slice none 0 0),(.slice none 0 0),(.int .i64 0),(.int .i64 0),(.string .empty),(.string .empty),(.string .empty),(.int .i64 0),(.int .i64 0),(.int .i64 0),(.slice none 0 0),(.slice none 0 0)]) : Value).cells.toList := fun _ _ => (.cons rfl (.cons ⟨none,0,rfl,Nat.le_refl _,fun h => (h rfl).elim⟩ (.cons ⟨none,0,rfl,Nat.le_refl _,fun h => (h rfl).elim⟩ (.cons ⟨none,0,rfl,Nat.le_refl _,fun h => (h rfl).elim⟩ (.cons rfl (.cons rfl (.cons rfl (.cons rfl (.cons rfl (.cons rfl (.cons rfl (.cons rfl (.cons ⟨none,0,rfl,Nat.le_refl _,fun h => (h rfl).elim⟩ (.cons ⟨none,0,rfl,Nat.le_refl _,fun h => (h rfl).elim⟩ .nil))))))))))))))
theorem zv133 : (Tryz.prog.info? 133).bind (·.zero) = some (.agg #[(.int .i64 0),(.slice none 0 0),(.slice none 0 0),(.slice none 0 0),(.int .i64 0),(.int .i64 0),(.string .empty),(.string .empty),(.string .empty),(.int .i64 0),(.int .i64 0),(.int .i64 0),(.slice none 0 0),(.slice none 0 0)]) := by kernel_rfl
theorem pl133 : ∀ w, ((#[⟨"x", 27, 0, false, "", "diorama/typing", 0⟩, ⟨"kind", 3, 4, false, "", "diorama/typing", 80⟩, ⟨"field", 3, 5, false, "", "diorama/typing", 88⟩, ⟨"f", 61, 6, false, "", "diorama/typing", 96⟩] : Array Field).mapM (fun f => do pure (f.offset, ← sizeOf f.type) : Field → Sem (Nat × Nat))).run Tryz.prog w = .ok #[(0, 4), (4, 1), (5, 1), (6, 8)] w := fun _ => by kernel_rfl
@[reducible] def tF128 (p : (Styping_spot → Option Int)) : Ty := tfn Tryz.prog [] (A := Styping_spot) (B := Int) (fun x => [rStyping_spot.ty x]) (fun y => ti y) (p)
@[reducible] def rF128 : Rep (Styping_spot → Option Int) := ⟨fun p => [tF128 p],1,false,fun _ => rfl,fun _ => one_cons one_tfn one_nil,fun _ => rfl⟩
@[reducible] def rFo128 : Rep (Option (Styping_spot → Option Int)) := ⟨fun p => [tfo (tF128) p],1,false,fun _ => rfl,fun _ => one_cons (one_tfo (fun _ => one_tfn)) one_nil,fun _ => rfl⟩
theorem tok128 : TOk Tryz.prog 128 rF128 8 .nilFunc := ⟨⟨_,Tryz.underlying128,rfl⟩,by kernel_rfl,rfl⟩
theorem tokFo128 : TOk Tryz.prog 128 rFo128 8 .nilFunc := ⟨⟨_,Tryz.underlying128,rfl⟩,by kernel_rfl,rfl⟩
structure SX_check where
  check : (Option (Styping_spot → Option Int))
instance : Inhabited SX_check := ⟨⟨none⟩⟩
@[reducible] def rSX_check : Rep SX_check := ⟨fun x => ([rFo128.ty x.check]),1,true,fun _ => rfl,fun _ => (one_cons (one_tfo (fun _ => one_tfn)) one_nil),fun h => (by cases h)⟩
theorem tok129 : TOk Tryz.prog 129 rSX_check 8 (.agg #[.nilFunc]) := ⟨⟨_,Tryz.underlying129,rfl⟩,by kernel_rfl,rfl⟩
theorem zc129 : ∀ F w,Cells (rSX_check.cs (SX_check.mk none)) F w ((.agg #[.nilFunc]) : Value).cells.toList := fun _ _ => (.cons rfl .nil)
theorem zok129 : ∀ F w,(rSX_check.ty (SX_check.mk none)).ok F w (.agg #[.nilFunc]) := fun F w => ⟨_,rfl,zc129 F w⟩
theorem zv129 : (Tryz.prog.info? 129).bind (·.zero) = some (.agg #[.nilFunc]) := by kernel_rfl
@[reducible] def tF138 (p : (Sapi_Kind → Option Bool)) : Ty := tfn Tryz.prog [] (A := Sapi_Kind) (B := Bool) (fun x => [rSapi_Kind.ty x]) (fun y => tb y) (p)
@[reducible] def rF138 : Rep (Sapi_Kind → Option Bool) := ⟨fun p => [tF138 p],1,false,fun _ => rfl,fun _ => one_cons one_tfn one_nil,fun _ => rfl⟩
theorem tok138 : TOk Tryz.prog 138 rF138 8 .nilFunc := ⟨⟨_,Tryz.underlying138,rfl⟩,by kernel_rfl,rfl⟩
@[reducible] def tF163 (p : (Sapi_Rule → Option Bool)) : Ty := tfn Tryz.prog [] (A := Sapi_Rule) (B := Bool) (fun x => [rSapi_Rule.ty x]) (fun y => tb y) (p)
@[reducible] def rF163 : Rep (Sapi_Rule → Option Bool) := ⟨fun p => [tF163 p],1,false,fun _ => rfl,fun _ => one_cons one_tfn one_nil,fun _ => rfl⟩
theorem tok163 : TOk Tryz.prog 163 rF163 8 .nilFunc := ⟨⟨_,Tryz.underlying163,rfl⟩,by kernel_rfl,rfl⟩
@[reducible] def tF168 (p : (Sapi_Field → Option Bool)) : Ty := tfn Tryz.prog [] (A := Sapi_Field) (B := Bool) (fun x => [rSapi_Field.ty x]) (fun y => tb y) (p)
@[reducible] def rF168 : Rep (Sapi_Field → Option Bool) := ⟨fun p => [tF168 p],1,false,fun _ => rfl,fun _ => one_cons one_tfn one_nil,fun _ => rfl⟩
theorem tok168 : TOk Tryz.prog 168 rF168 8 .nilFunc := ⟨⟨_,Tryz.underlying168,rfl⟩,by kernel_rfl,rfl⟩
@[reducible] def tF178 (p : (Str → Option Bool)) : Ty := tfn Tryz.prog [] (A := Str) (B := Bool) (fun x => [tv (.string (sB x))]) (fun y => tb y) (p)
@[reducible] def rF178 : Rep (Str → Option Bool) := ⟨fun p => [tF178 p],1,false,fun _ => rfl,fun _ => one_cons one_tfn one_nil,fun _ => rfl⟩
theorem tok178 : TOk Tryz.prog 178 rF178 8 .nilFunc := ⟨⟨_,Tryz.underlying178,rfl⟩,by kernel_rfl,rfl⟩
@[reducible] def tF183 (p : (A2_Int → Option Bool)) : Ty := tfn Tryz.prog [] (A := A2_Int) (B := Bool) (fun x => [rA2_Int.ty x]) (fun y => tb y) (p)
@[reducible] def rF183 : Rep (A2_Int → Option Bool) := ⟨fun p => [tF183 p],1,false,fun _ => rfl,fun _ => one_cons one_tfn one_nil,fun _ => rfl⟩
theorem tok183 : TOk Tryz.prog 183 rF183 8 .nilFunc := ⟨⟨_,Tryz.underlying183,rfl⟩,by kernel_rfl,rfl⟩
@[reducible] def tF203 (p : (Int → Option Bool)) : Ty := tfn Tryz.prog [] (A := Int) (B := Bool) (fun x => [tv (.int .u8 x)]) (fun y => tb y) (p)
@[reducible] def rF203 : Rep (Int → Option Bool) := ⟨fun p => [tF203 p],1,false,fun _ => rfl,fun _ => one_cons one_tfn one_nil,fun _ => rfl⟩
theorem tokV31 : TOk Tryz.prog 31 rVal 24 (.slice none 0 0) := ⟨⟨_,Tryz.underlying31,rfl⟩,by kernel_rfl,rfl⟩
theorem tokV32 : TOk Tryz.prog 32 rVal 24 (.slice none 0 0) := ⟨⟨_,Tryz.underlying32,rfl⟩,by kernel_rfl,rfl⟩
theorem tokV68 : TOk Tryz.prog 68 rVal 24 (.slice none 0 0) := ⟨⟨_,Tryz.underlying68,rfl⟩,by kernel_rfl,rfl⟩
theorem tokV101 : TOk Tryz.prog 101 rVal 24 (.slice none 0 0) := ⟨⟨_,Tryz.underlying101,rfl⟩,by kernel_rfl,rfl⟩
theorem fld27_0 : FieldAt Tryz.prog 27 0 0 := FieldAt.mk Tryz.underlying27 rfl rfl tok3 (by decide)
theorem fld27_1 : FieldAt Tryz.prog 27 1 1 := FieldAt.mk Tryz.underlying27 rfl rfl tok23 (by decide)
theorem fld27_2 : FieldAt Tryz.prog 27 2 2 := FieldAt.mk Tryz.underlying27 rfl rfl tok24 (by decide)
theorem fld27_3 : FieldAt Tryz.prog 27 3 3 := FieldAt.mk Tryz.underlying27 rfl rfl tok25 (by decide)
theorem fld41_0 : FieldAt Tryz.prog 41 0 0 := FieldAt.mk Tryz.underlying41 rfl rfl tok3 (by decide)
theorem fld41_1 : FieldAt Tryz.prog 41 1 1 := FieldAt.mk Tryz.underlying41 rfl rfl tok3 (by decide)
theorem fld41_2 : FieldAt Tryz.prog 41 2 2 := FieldAt.mk Tryz.underlying41 rfl rfl tok3 (by decide)
theorem fld41_3 : FieldAt Tryz.prog 41 3 3 := FieldAt.mk Tryz.underlying41 rfl rfl tok4 (by decide)
theorem fld43_0 : FieldAt Tryz.prog 43 0 0 := FieldAt.mk Tryz.underlying43 rfl rfl tok3 (by decide)
theorem fld43_1 : FieldAt Tryz.prog 43 1 1 := FieldAt.mk Tryz.underlying43 rfl rfl tok3 (by decide)
theorem fld43_2 : FieldAt Tryz.prog 43 2 2 := FieldAt.mk Tryz.underlying43 rfl rfl tok3 (by decide)
theorem fld43_3 : FieldAt Tryz.prog 43 3 3 := FieldAt.mk Tryz.underlying43 rfl rfl tok4 (by decide)
theorem fld55_0 : FieldAt Tryz.prog 55 0 0 := FieldAt.mk Tryz.underlying55 rfl rfl tok9 (by decide)
theorem fld55_1 : FieldAt Tryz.prog 55 1 1 := FieldAt.mk Tryz.underlying55 rfl rfl tok3 (by decide)
theorem fld55_2 : FieldAt Tryz.prog 55 2 2 := FieldAt.mk Tryz.underlying55 rfl rfl tok3 (by decide)
theorem fld55_3 : FieldAt Tryz.prog 55 3 3 := FieldAt.mk Tryz.underlying55 rfl rfl tok53 (by decide)
theorem fld61_0 : FieldAt Tryz.prog 61 0 0 := FieldAt.mk Tryz.underlying61 rfl rfl tok9 (by decide)
theorem fld61_1 : FieldAt Tryz.prog 61 1 1 := FieldAt.mk Tryz.underlying61 rfl rfl tok9 (by decide)
theorem fld61_2 : FieldAt Tryz.prog 61 2 2 := FieldAt.mk Tryz.underlying61 rfl rfl tok9 (by decide)
theorem fld61_3 : FieldAt Tryz.prog 61 3 3 := FieldAt.mk Tryz.underlying61 rfl rfl tok3 (by decide)
theorem fld61_4 : FieldAt Tryz.prog 61 4 4 := FieldAt.mk Tryz.underlying61 rfl rfl tok3 (by decide)
theorem fld61_5 : FieldAt Tryz.prog 61 5 5 := FieldAt.mk Tryz.underlying61 rfl rfl tok3 (by decide)
theorem fld61_6 : FieldAt Tryz.prog 61 6 6 := FieldAt.mk Tryz.underlying61 rfl rfl tok32 (by decide)
theorem fld61_7 : FieldAt Tryz.prog 61 7 7 := FieldAt.mk Tryz.underlying61 rfl rfl tok22 (by decide)
theorem fld81_0 : FieldAt Tryz.prog 81 0 0 := FieldAt.mk Tryz.underlying81 rfl rfl tok9 (by decide)
theorem fld81_1 : FieldAt Tryz.prog 81 1 1 := FieldAt.mk Tryz.underlying81 rfl rfl tok32 (by decide)
theorem fld81_2 : FieldAt Tryz.prog 81 2 2 := FieldAt.mk Tryz.underlying81 rfl rfl tok79 (by decide)
theorem fld84_0 : FieldAt Tryz.prog 84 0 0 := FieldAt.mk Tryz.underlying84 rfl rfl tok9 (by decide)
theorem fld84_1 : FieldAt Tryz.prog 84 1 1 := FieldAt.mk Tryz.underlying84 rfl rfl tok9 (by decide)
theorem fld84_2 : FieldAt Tryz.prog 84 2 2 := FieldAt.mk Tryz.underlying84 rfl rfl tok9 (by decide)
theorem fld84_3 : FieldAt Tryz.prog 84 3 3 := FieldAt.mk Tryz.underlying84 rfl rfl tok9 (by decide)
theorem fld84_4 : FieldAt Tryz.prog 84 4 4 := FieldAt.mk Tryz.underlying84 rfl rfl tok3 (by decide)
theorem fld105_0 : FieldAt Tryz.prog 105 0 0 := FieldAt.mk Tryz.underlying105 rfl rfl tok31 (by decide)
theorem fld105_1 : FieldAt Tryz.prog 105 1 1 := FieldAt.mk Tryz.underlying105 rfl rfl tok22 (by decide)
theorem fld105_2 : FieldAt Tryz.prog 105 2 2 := FieldAt.mk Tryz.underlying105 rfl rfl tok101 (by decide)
theorem fld105_3 : FieldAt Tryz.prog 105 3 3 := FieldAt.mk Tryz.underlying105 rfl rfl tok103 (by decide)
theorem fld105_4 : FieldAt Tryz.prog 105 4 9 := FieldAt.mk Tryz.underlying105 rfl rfl tok103 (by decide)
theorem fld105_5 : FieldAt Tryz.prog 105 5 15 := FieldAt.mk Tryz.underlying105 rfl rfl tok3 (by decide)
theorem fld119_3 : FieldAt Tryz.prog 119 3 3 := FieldAt.mk Tryz.underlying119 rfl rfl tok33 (by decide)
theorem fld125_0 : FieldAt Tryz.prog 125 0 0 := FieldAt.mk Tryz.underlying125 rfl rfl tok4 (by decide)
theorem fld125_1 : FieldAt Tryz.prog 125 1 1 := FieldAt.mk Tryz.underlying125 rfl rfl tok33 (by decide)
theorem fld129_0 : FieldAt Tryz.prog 129 0 0 := FieldAt.mk Tryz.underlying129 rfl rfl tok128 (by decide)
theorem fld133_0 : FieldAt Tryz.prog 133 0 0 := FieldAt.mk Tryz.underlying133 rfl rfl tok27 (by decide)
theorem fld133_1 : FieldAt Tryz.prog 133 1 4 := FieldAt.mk Tryz.underlying133 rfl rfl tok3 (by decide)
theorem fld133_2 : FieldAt Tryz.prog 133 2 5 := FieldAt.mk Tryz.underlying133 rfl rfl tok3 (by decide)
theorem fld133_3 : FieldAt Tryz.prog 133 3 6 := FieldAt.mk Tryz.underlying133 rfl rfl tok61 (by decide)
theorem call12 : Callable Tryz.prog 12 := ⟨⟨_,Tryz.func12,by kernel_rfl,rfl⟩⟩
theorem call15 : Callable Tryz.prog 15 := ⟨⟨_,Tryz.func15,by kernel_rfl,rfl⟩⟩
theorem call16 : Callable Tryz.prog 16 := ⟨⟨_,Tryz.func16,by kernel_rfl,rfl⟩⟩
theorem call17 : Callable Tryz.prog 17 := ⟨⟨_,Tryz.func17,by kernel_rfl,rfl⟩⟩
theorem call18 : Callable Tryz.prog 18 := ⟨⟨_,Tryz.func18,by kernel_rfl,rfl⟩⟩
theorem call21 : Callable Tryz.prog 21 := ⟨⟨_,Tryz.func21,by kernel_rfl,rfl⟩⟩
theorem call22 : Callable Tryz.prog 22 := ⟨⟨_,Tryz.func22,by kernel_rfl,rfl⟩⟩
theorem call23 : Callable Tryz.prog 23 := ⟨⟨_,Tryz.func23,by kernel_rfl,rfl⟩⟩
theorem call25 : Callable Tryz.prog 25 := ⟨⟨_,Tryz.func25,by kernel_rfl,rfl⟩⟩
theorem call26 : Callable Tryz.prog 26 := ⟨⟨_,Tryz.func26,by kernel_rfl,rfl⟩⟩
theorem call27 : Callable Tryz.prog 27 := ⟨⟨_,Tryz.func27,by kernel_rfl,rfl⟩⟩
theorem call28 : Callable Tryz.prog 28 := ⟨⟨_,Tryz.func28,by kernel_rfl,rfl⟩⟩
theorem call29 : Callable Tryz.prog 29 := ⟨⟨_,Tryz.func29,by kernel_rfl,rfl⟩⟩
theorem call30 : Callable Tryz.prog 30 := ⟨⟨_,Tryz.func30,by kernel_rfl,rfl⟩⟩
theorem call36 : Callable Tryz.prog 36 := ⟨⟨_,Tryz.func36,by kernel_rfl,rfl⟩⟩
theorem call37 : Callable Tryz.prog 37 := ⟨⟨_,Tryz.func37,by kernel_rfl,rfl⟩⟩
theorem call38 : Callable Tryz.prog 38 := ⟨⟨_,Tryz.func38,by kernel_rfl,rfl⟩⟩
theorem call41 : Callable Tryz.prog 41 := ⟨⟨_,Tryz.func41,by kernel_rfl,rfl⟩⟩
theorem call42 : Callable Tryz.prog 42 := ⟨⟨_,Tryz.func42,by kernel_rfl,rfl⟩⟩
theorem call43 : Callable Tryz.prog 43 := ⟨⟨_,Tryz.func43,by kernel_rfl,rfl⟩⟩
theorem call44 : Callable Tryz.prog 44 := ⟨⟨_,Tryz.func44,by kernel_rfl,rfl⟩⟩
theorem call45 : Callable Tryz.prog 45 := ⟨⟨_,Tryz.func45,by kernel_rfl,rfl⟩⟩
theorem call46 : Callable Tryz.prog 46 := ⟨⟨_,Tryz.func46,by kernel_rfl,rfl⟩⟩
theorem call47 : Callable Tryz.prog 47 := ⟨⟨_,Tryz.func47,by kernel_rfl,rfl⟩⟩
theorem call48 : Callable Tryz.prog 48 := ⟨⟨_,Tryz.func48,by kernel_rfl,rfl⟩⟩
theorem call49 : Callable Tryz.prog 49 := ⟨⟨_,Tryz.func49,by kernel_rfl,rfl⟩⟩
theorem call50 : Callable Tryz.prog 50 := ⟨⟨_,Tryz.func50,by kernel_rfl,rfl⟩⟩
theorem call51 : Callable Tryz.prog 51 := ⟨⟨_,Tryz.func51,by kernel_rfl,rfl⟩⟩
theorem call55 : Callable Tryz.prog 55 := ⟨⟨_,Tryz.func55,by kernel_rfl,rfl⟩⟩
theorem call56 : Callable Tryz.prog 56 := ⟨⟨_,Tryz.func56,by kernel_rfl,rfl⟩⟩
theorem call57 : Callable Tryz.prog 57 := ⟨⟨_,Tryz.func57,by kernel_rfl,rfl⟩⟩
theorem call58 : Callable Tryz.prog 58 := ⟨⟨_,Tryz.func58,by kernel_rfl,rfl⟩⟩
theorem call59 : Callable Tryz.prog 59 := ⟨⟨_,Tryz.func59,by kernel_rfl,rfl⟩⟩
theorem call60 : Callable Tryz.prog 60 := ⟨⟨_,Tryz.func60,by kernel_rfl,rfl⟩⟩
theorem call61 : Callable Tryz.prog 61 := ⟨⟨_,Tryz.func61,by kernel_rfl,rfl⟩⟩
theorem call62 : Callable Tryz.prog 62 := ⟨⟨_,Tryz.func62,by kernel_rfl,rfl⟩⟩
theorem call63 : Callable Tryz.prog 63 := ⟨⟨_,Tryz.func63,by kernel_rfl,rfl⟩⟩
theorem call64 : Callable Tryz.prog 64 := ⟨⟨_,Tryz.func64,by kernel_rfl,rfl⟩⟩
theorem call65 : Callable Tryz.prog 65 := ⟨⟨_,Tryz.func65,by kernel_rfl,rfl⟩⟩
theorem call66 : Callable Tryz.prog 66 := ⟨⟨_,Tryz.func66,by kernel_rfl,rfl⟩⟩
theorem call67 : Callable Tryz.prog 67 := ⟨⟨_,Tryz.func67,by kernel_rfl,rfl⟩⟩
theorem call68 : Callable Tryz.prog 68 := ⟨⟨_,Tryz.func68,by kernel_rfl,rfl⟩⟩
theorem call69 : Callable Tryz.prog 69 := ⟨⟨_,Tryz.func69,by kernel_rfl,rfl⟩⟩
theorem call73 : Callable Tryz.prog 73 := ⟨⟨_,Tryz.func73,by kernel_rfl,rfl⟩⟩
theorem call74 : Callable Tryz.prog 74 := ⟨⟨_,Tryz.func74,by kernel_rfl,rfl⟩⟩
theorem call81 : Callable Tryz.prog 81 := ⟨⟨_,Tryz.func81,by kernel_rfl,rfl⟩⟩
theorem call82 : Callable Tryz.prog 82 := ⟨⟨_,Tryz.func82,by kernel_rfl,rfl⟩⟩
theorem call83 : Callable Tryz.prog 83 := ⟨⟨_,Tryz.func83,by kernel_rfl,rfl⟩⟩
theorem call84 : Callable Tryz.prog 84 := ⟨⟨_,Tryz.func84,by kernel_rfl,rfl⟩⟩
theorem call85 : Callable Tryz.prog 85 := ⟨⟨_,Tryz.func85,by kernel_rfl,rfl⟩⟩
theorem call88 : Callable Tryz.prog 88 := ⟨⟨_,Tryz.func88,by kernel_rfl,rfl⟩⟩
theorem call89 : Callable Tryz.prog 89 := ⟨⟨_,Tryz.func89,by kernel_rfl,rfl⟩⟩
theorem call90 : Callable Tryz.prog 90 := ⟨⟨_,Tryz.func90,by kernel_rfl,rfl⟩⟩
theorem call91 : Callable Tryz.prog 91 := ⟨⟨_,Tryz.func91,by kernel_rfl,rfl⟩⟩
theorem call93 : Callable Tryz.prog 93 := ⟨⟨_,Tryz.func93,by kernel_rfl,rfl⟩⟩
theorem call94 : Callable Tryz.prog 94 := ⟨⟨_,Tryz.func94,by kernel_rfl,rfl⟩⟩
theorem call95 : Callable Tryz.prog 95 := ⟨⟨_,Tryz.func95,by kernel_rfl,rfl⟩⟩
theorem call96 : Callable Tryz.prog 96 := ⟨⟨_,Tryz.func96,by kernel_rfl,rfl⟩⟩
theorem call97 : Callable Tryz.prog 97 := ⟨⟨_,Tryz.func97,by kernel_rfl,rfl⟩⟩
theorem call98 : Callable Tryz.prog 98 := ⟨⟨_,Tryz.func98,by kernel_rfl,rfl⟩⟩
theorem call99 : Callable Tryz.prog 99 := ⟨⟨_,Tryz.func99,by kernel_rfl,rfl⟩⟩
theorem call100 : Callable Tryz.prog 100 := ⟨⟨_,Tryz.func100,by kernel_rfl,rfl⟩⟩
theorem call101 : Callable Tryz.prog 101 := ⟨⟨_,Tryz.func101,by kernel_rfl,rfl⟩⟩
theorem call102 : Callable Tryz.prog 102 := ⟨⟨_,Tryz.func102,by kernel_rfl,rfl⟩⟩
theorem call103 : Callable Tryz.prog 103 := ⟨⟨_,Tryz.func103,by kernel_rfl,rfl⟩⟩
theorem call104 : Callable Tryz.prog 104 := ⟨⟨_,Tryz.func104,by kernel_rfl,rfl⟩⟩
theorem call105 : Callable Tryz.prog 105 := ⟨⟨_,Tryz.func105,by kernel_rfl,rfl⟩⟩
theorem call106 : Callable Tryz.prog 106 := ⟨⟨_,Tryz.func106,by kernel_rfl,rfl⟩⟩
theorem call107 : Callable Tryz.prog 107 := ⟨⟨_,Tryz.func107,by kernel_rfl,rfl⟩⟩
theorem call108 : Callable Tryz.prog 108 := ⟨⟨_,Tryz.func108,by kernel_rfl,rfl⟩⟩
theorem call109 : Callable Tryz.prog 109 := ⟨⟨_,Tryz.func109,by kernel_rfl,rfl⟩⟩
theorem call110 : Callable Tryz.prog 110 := ⟨⟨_,Tryz.func110,by kernel_rfl,rfl⟩⟩
theorem call119 : Callable Tryz.prog 119 := ⟨⟨_,Tryz.func119,by kernel_rfl,rfl⟩⟩
theorem call120 : Callable Tryz.prog 120 := ⟨⟨_,Tryz.func120,by kernel_rfl,rfl⟩⟩
theorem call121 : Callable Tryz.prog 121 := ⟨⟨_,Tryz.func121,by kernel_rfl,rfl⟩⟩
theorem call123 : Callable Tryz.prog 123 := ⟨⟨_,Tryz.func123,by kernel_rfl,rfl⟩⟩
theorem call124 : Callable Tryz.prog 124 := ⟨⟨_,Tryz.func124,by kernel_rfl,rfl⟩⟩
theorem call125 : Callable Tryz.prog 125 := ⟨⟨_,Tryz.func125,by kernel_rfl,rfl⟩⟩
theorem call126 : Callable Tryz.prog 126 := ⟨⟨_,Tryz.func126,by kernel_rfl,rfl⟩⟩
theorem call127 : Callable Tryz.prog 127 := ⟨⟨_,Tryz.func127,by kernel_rfl,rfl⟩⟩
theorem call128 : Callable Tryz.prog 128 := ⟨⟨_,Tryz.func128,by kernel_rfl,rfl⟩⟩
theorem call129 : Callable Tryz.prog 129 := ⟨⟨_,Tryz.func129,by kernel_rfl,rfl⟩⟩
theorem call130 : Callable Tryz.prog 130 := ⟨⟨_,Tryz.func130,by kernel_rfl,rfl⟩⟩
theorem call131 : Callable Tryz.prog 131 := ⟨⟨_,Tryz.func131,by kernel_rfl,rfl⟩⟩
theorem call132 : Callable Tryz.prog 132 := ⟨⟨_,Tryz.func132,by kernel_rfl,rfl⟩⟩
theorem call133 : Callable Tryz.prog 133 := ⟨⟨_,Tryz.func133,by kernel_rfl,rfl⟩⟩
theorem call135 : Callable Tryz.prog 135 := ⟨⟨_,Tryz.func135,by kernel_rfl,rfl⟩⟩
theorem call136 : Callable Tryz.prog 136 := ⟨⟨_,Tryz.func136,by kernel_rfl,rfl⟩⟩
theorem call137 : Callable Tryz.prog 137 := ⟨⟨_,Tryz.func137,by kernel_rfl,rfl⟩⟩
theorem call139 : Callable Tryz.prog 139 := ⟨⟨_,Tryz.func139,by kernel_rfl,rfl⟩⟩
theorem call149 : Callable Tryz.prog 149 := ⟨⟨_,Tryz.func149,by kernel_rfl,rfl⟩⟩
theorem call150 : Callable Tryz.prog 150 := ⟨⟨_,Tryz.func150,by kernel_rfl,rfl⟩⟩
theorem call151 : Callable Tryz.prog 151 := ⟨⟨_,Tryz.func151,by kernel_rfl,rfl⟩⟩
theorem call152 : Callable Tryz.prog 152 := ⟨⟨_,Tryz.func152,by kernel_rfl,rfl⟩⟩
theorem call153 : Callable Tryz.prog 153 := ⟨⟨_,Tryz.func153,by kernel_rfl,rfl⟩⟩
theorem call154 : Callable Tryz.prog 154 := ⟨⟨_,Tryz.func154,by kernel_rfl,rfl⟩⟩
theorem call155 : Callable Tryz.prog 155 := ⟨⟨_,Tryz.func155,by kernel_rfl,rfl⟩⟩
theorem call156 : Callable Tryz.prog 156 := ⟨⟨_,Tryz.func156,by kernel_rfl,rfl⟩⟩
theorem call157 : Callable Tryz.prog 157 := ⟨⟨_,Tryz.func157,by kernel_rfl,rfl⟩⟩
theorem call158 : Callable Tryz.prog 158 := ⟨⟨_,Tryz.func158,by kernel_rfl,rfl⟩⟩
theorem call159 : Callable Tryz.prog 159 := ⟨⟨_,Tryz.func159,by kernel_rfl,rfl⟩⟩
theorem call160 : Callable Tryz.prog 160 := ⟨⟨_,Tryz.func160,by kernel_rfl,rfl⟩⟩
theorem call161 : Callable Tryz.prog 161 := ⟨⟨_,Tryz.func161,by kernel_rfl,rfl⟩⟩
theorem call162 : Callable Tryz.prog 162 := ⟨⟨_,Tryz.func162,by kernel_rfl,rfl⟩⟩
theorem call166 : Callable Tryz.prog 166 := ⟨⟨_,Tryz.func166,by kernel_rfl,rfl⟩⟩
theorem call173 : Callable Tryz.prog 173 := ⟨⟨_,Tryz.func173,by kernel_rfl,rfl⟩⟩
theorem call174 : Callable Tryz.prog 174 := ⟨⟨_,Tryz.func174,by kernel_rfl,rfl⟩⟩
theorem call175 : Callable Tryz.prog 175 := ⟨⟨_,Tryz.func175,by kernel_rfl,rfl⟩⟩
theorem call176 : Callable Tryz.prog 176 := ⟨⟨_,Tryz.func176,by kernel_rfl,rfl⟩⟩
theorem call177 : Callable Tryz.prog 177 := ⟨⟨_,Tryz.func177,by kernel_rfl,rfl⟩⟩
theorem call204 : Callable Tryz.prog 204 := ⟨⟨_,Tryz.func204,by kernel_rfl,rfl⟩⟩
theorem call207 : Callable Tryz.prog 207 := ⟨⟨_,Tryz.func207,by kernel_rfl,rfl⟩⟩
theorem call208 : Callable Tryz.prog 208 := ⟨⟨_,Tryz.func208,by kernel_rfl,rfl⟩⟩
theorem call209 : Callable Tryz.prog 209 := ⟨⟨_,Tryz.func209,by kernel_rfl,rfl⟩⟩
theorem call210 : Callable Tryz.prog 210 := ⟨⟨_,Tryz.func210,by kernel_rfl,rfl⟩⟩
theorem call211 : Callable Tryz.prog 211 := ⟨⟨_,Tryz.func211,by kernel_rfl,rfl⟩⟩
theorem call212 : Callable Tryz.prog 212 := ⟨⟨_,Tryz.func212,by kernel_rfl,rfl⟩⟩
theorem call213 : Callable Tryz.prog 213 := ⟨⟨_,Tryz.func213,by kernel_rfl,rfl⟩⟩
theorem call214 : Callable Tryz.prog 214 := ⟨⟨_,Tryz.func214,by kernel_rfl,rfl⟩⟩
theorem call215 : Callable Tryz.prog 215 := ⟨⟨_,Tryz.func215,by kernel_rfl,rfl⟩⟩
theorem call216 : Callable Tryz.prog 216 := ⟨⟨_,Tryz.func216,by kernel_rfl,rfl⟩⟩
theorem call217 : Callable Tryz.prog 217 := ⟨⟨_,Tryz.func217,by kernel_rfl,rfl⟩⟩
theorem tokP100 : TOk Tryz.prog 100 rVal 8 (.pointer none) := ⟨⟨_,Tryz.underlying100,rfl⟩,by kernel_rfl,rfl⟩
abbrev zz0 : Sapi_Field := (Sapi_Field.mk ([] : Str) ([] : Str) ([] : Str) (0:Int) (0:Int) (0:Int) ([] : (List Str)) ([] : (List Int)))
abbrev zz1 : Sapi_Kind := (Sapi_Kind.mk ([] : Str) (0:Int) (0:Int) ([] : (List Sapi_Field)))
abbrev zz2 : Sapi_Life := (Sapi_Life.mk ([] : Str) ([] : (List Str)) ([] : (List A2_Int)))
abbrev zz3 : Sapi_Rule := (Sapi_Rule.mk ([] : Str) ([] : Str) ([] : Str) ([] : Str) (0:Int))
abbrev zz4 : Scounts_Limit := (Scounts_Limit.mk (0:Int) (0:Int) (0:Int) false)
abbrev zz5 : Scounts_numbers := (Scounts_numbers.mk (0:Int) (0:Int) (0:Int) (0:Int) (0:Int) (0:Int))
abbrev zz6 : Sref13_Limit := (Sref13_Limit.mk (0:Int) (0:Int) (0:Int) false)
abbrev ud101 := Tryz.underlying101
abbrev ud103 := Tryz.underlying103
abbrev ud125 := Tryz.underlying125
abbrev ud166 := Tryz.underlying166
abbrev ud194 := Tryz.underlying194
abbrev ud22 := Tryz.underlying22
abbrev ud23 := Tryz.underlying23
abbrev ud24 := Tryz.underlying24
abbrev ud25 := Tryz.underlying25
abbrev ud3 := Tryz.underlying3
abbrev ud31 := Tryz.underlying31
abbrev ud32 := Tryz.underlying32
abbrev ud36 := Tryz.underlying36
abbrev ud53 := Tryz.underlying53
abbrev ud61 := Tryz.underlying61
abbrev ud63 := Tryz.underlying63
abbrev ud68 := Tryz.underlying68
abbrev ud79 := Tryz.underlying79
abbrev ud82 := Tryz.underlying82
abbrev ud9 := Tryz.underlying9

end Go.Proofs.YtcdccjagknlmpaaGreatDoor

/- Closed facts on the types and functions of the translation, written by a program. No condition. -/
import Derived.Test.YtjniiejgccdhiaaSimN
import Derived.Test.YtjniiejgccdhiaaRows
namespace Go.Proofs.Ytjniiejgccdhiaa
open Go.Sim

theorem mixed : Try.prog.follows .mixedOrders = true := by kernel_rfl
theorem tok3 : TOk Try.prog 3 rI 8 (.int .i64 0) := ⟨⟨_, Try.underlying3, rfl⟩, by kernel_rfl, rfl⟩
theorem zok3 : ∀ F w, (rI.ty (0:Int)).ok F w (.int .i64 0) := fun _ _ => rfl
theorem tok22 : TOk Try.prog 22 (rSl rI) 24 (.slice none 0 0) := ⟨⟨_, Try.underlying22, rfl⟩, by kernel_rfl, rfl⟩
theorem zok22 : ∀ F w, ((rSl rI).ty ([] : (List Int))).ok F w (.slice none 0 0) := fun _ _ => ⟨none, 0, rfl, Nat.le_refl _, fun h => (h rfl).elim⟩
theorem tok26 : TOk Try.prog 26 (rSl (rSl rI)) 24 (.slice none 0 0) := ⟨⟨_, Try.underlying26, rfl⟩, by kernel_rfl, rfl⟩
structure SDiff where
  A : Int
  B : Int
  N : Int
deriving Inhabited
@[reducible] def rSDiff : Rep SDiff := ⟨fun x => [ti x.A, ti x.B, ti x.N], 3, true, fun _ => rfl, fun _ => (one_cons (one_tv rfl) (one_cons (one_tv rfl) (one_cons (one_tv rfl) one_nil))), fun h => (by cases h)⟩
theorem tok71 : TOk Try.prog 71 rSDiff 24 (.agg #[(.int .i64 0), (.int .i64 0), (.int .i64 0)]) := ⟨⟨_, Try.underlying71, rfl⟩, by kernel_rfl, rfl⟩
theorem zc71 : ∀ F w, Cells (rSDiff.cs (SDiff.mk (0:Int) (0:Int) (0:Int))) F w ((.agg #[(.int .i64 0), (.int .i64 0), (.int .i64 0)]) : Value).cells.toList := fun _ _ => (.cons rfl (.cons rfl (.cons rfl .nil)))
theorem zok71 : ∀ F w, (rSDiff.ty (SDiff.mk (0:Int) (0:Int) (0:Int))).ok F w (.agg #[(.int .i64 0), (.int .i64 0), (.int .i64 0)]) := fun F w => ⟨_, rfl, zc71 F w⟩
theorem zv71 : (Try.prog.info? 71).bind (·.zero) = some (.agg #[(.int .i64 0), (.int .i64 0), (.int .i64 0)]) := by kernel_rfl
theorem pl71 : ∀ w, ((#[⟨"A", 3, 0, false, "", "", 0⟩, ⟨"B", 3, 1, false, "", "", 8⟩, ⟨"N", 3, 2, false, "", "", 16⟩] : Array Field).mapM (fun f => do pure (f.offset, ← sizeOf f.type) : Field → Sem (Nat × Nat))).run Try.prog w = .ok #[(0, 1), (1, 1), (2, 1)] w := fun _ => by kernel_rfl
theorem tok48 : TOk Try.prog 48 (rSl rSDiff) 24 (.slice none 0 0) := ⟨⟨_, Try.underlying48, rfl⟩, by kernel_rfl, rfl⟩
theorem tok72 : TOk Try.prog 72 rSDiff 24 (.agg #[(.int .i64 0), (.int .i64 0), (.int .i64 0)]) := ⟨⟨_, Try.underlying72, rfl⟩, by kernel_rfl, rfl⟩
theorem zc72 : ∀ F w, Cells (rSDiff.cs (SDiff.mk (0:Int) (0:Int) (0:Int))) F w ((.agg #[(.int .i64 0), (.int .i64 0), (.int .i64 0)]) : Value).cells.toList := fun _ _ => (.cons rfl (.cons rfl (.cons rfl .nil)))
theorem zok72 : ∀ F w, (rSDiff.ty (SDiff.mk (0:Int) (0:Int) (0:Int))).ok F w (.agg #[(.int .i64 0), (.int .i64 0), (.int .i64 0)]) := fun F w => ⟨_, rfl, zc72 F w⟩
theorem zv72 : (Try.prog.info? 72).bind (·.zero) = some (.agg #[(.int .i64 0), (.int .i64 0), (.int .i64 0)]) := by kernel_rfl
theorem pl72 : ∀ w, ((#[⟨"A", 3, 0, false, "", "", 0⟩, ⟨"B", 3, 1, false, "", "", 8⟩, ⟨"N", 3, 2, false, "", "", 16⟩] : Array Field).mapM (fun f => do pure (f.offset, ← sizeOf f.type) : Field → Sem (Nat × Nat))).run Try.prog w = .ok #[(0, 1), (1, 1), (2, 1)] w := fun _ => by kernel_rfl
theorem tok93 : TOk Try.prog 93 rClo 8 .nilFunc := ⟨⟨_, Try.underlying93, rfl⟩, by kernel_rfl, rfl⟩
theorem zok93 : ∀ F w, (rClo.ty (none : Option (FuncId × List Value))).ok F w .nilFunc := fun _ _ => rfl
theorem tok96 : TOk Try.prog 96 rClo 8 .nilFunc := ⟨⟨_, Try.underlying96, rfl⟩, by kernel_rfl, rfl⟩
theorem zok96 : ∀ F w, (rClo.ty (none : Option (FuncId × List Value))).ok F w .nilFunc := fun _ _ => rfl
structure SEdge where
  a : Int
  b : Int
  n : Int
deriving Inhabited
@[reducible] def rSEdge : Rep SEdge := ⟨fun x => [ti x.a, ti x.b, ti x.n], 3, true, fun _ => rfl, fun _ => (one_cons (one_tv rfl) (one_cons (one_tv rfl) (one_cons (one_tv rfl) one_nil))), fun h => (by cases h)⟩
theorem tok103 : TOk Try.prog 103 rSEdge 24 (.agg #[(.int .i64 0), (.int .i64 0), (.int .i64 0)]) := ⟨⟨_, Try.underlying103, rfl⟩, by kernel_rfl, rfl⟩
theorem zc103 : ∀ F w, Cells (rSEdge.cs (SEdge.mk (0:Int) (0:Int) (0:Int))) F w ((.agg #[(.int .i64 0), (.int .i64 0), (.int .i64 0)]) : Value).cells.toList := fun _ _ => (.cons rfl (.cons rfl (.cons rfl .nil)))
theorem zok103 : ∀ F w, (rSEdge.ty (SEdge.mk (0:Int) (0:Int) (0:Int))).ok F w (.agg #[(.int .i64 0), (.int .i64 0), (.int .i64 0)]) := fun F w => ⟨_, rfl, zc103 F w⟩
theorem zv103 : (Try.prog.info? 103).bind (·.zero) = some (.agg #[(.int .i64 0), (.int .i64 0), (.int .i64 0)]) := by kernel_rfl
theorem pl103 : ∀ w, ((#[⟨"a", 3, 0, false, "", "diorama/bounds", 0⟩, ⟨"b", 3, 1, false, "", "diorama/bounds", 8⟩, ⟨"n", 3, 2, false, "", "diorama/bounds", 16⟩] : Array Field).mapM (fun f => do pure (f.offset, ← sizeOf f.type) : Field → Sem (Nat × Nat))).run Try.prog w = .ok #[(0, 1), (1, 1), (2, 1)] w := fun _ => by kernel_rfl
theorem tokV22 : TOk Try.prog 22 rVal 24 (.slice none 0 0) := ⟨⟨_, Try.underlying22, rfl⟩, by kernel_rfl, rfl⟩
theorem tokV26 : TOk Try.prog 26 rVal 24 (.slice none 0 0) := ⟨⟨_, Try.underlying26, rfl⟩, by kernel_rfl, rfl⟩
theorem tokC93 {f : FuncId} {Tc : List Ty} : TOk Try.prog 93 (rCloE f Tc) 8 .nilFunc := ⟨⟨_, Try.underlying93, rfl⟩, (by kernel_rfl : (Try.prog.info? 93).map (fun i => (i.zero, i.size, i.bytes)) = some (some .nilFunc, 1, 8)), rfl⟩
theorem tokC96 {f : FuncId} {Tc : List Ty} : TOk Try.prog 96 (rCloE f Tc) 8 .nilFunc := ⟨⟨_, Try.underlying96, rfl⟩, (by kernel_rfl : (Try.prog.info? 96).map (fun i => (i.zero, i.size, i.bytes)) = some (some .nilFunc, 1, 8)), rfl⟩
theorem fld71_0 : FieldAt Try.prog 71 0 0 := FieldAt.mk Try.underlying71 rfl rfl tok3 (by decide)
theorem fld71_1 : FieldAt Try.prog 71 1 1 := FieldAt.mk Try.underlying71 rfl rfl tok3 (by decide)
theorem fld71_2 : FieldAt Try.prog 71 2 2 := FieldAt.mk Try.underlying71 rfl rfl tok3 (by decide)
theorem fld72_0 : FieldAt Try.prog 72 0 0 := FieldAt.mk Try.underlying72 rfl rfl tok3 (by decide)
theorem fld72_1 : FieldAt Try.prog 72 1 1 := FieldAt.mk Try.underlying72 rfl rfl tok3 (by decide)
theorem fld72_2 : FieldAt Try.prog 72 2 2 := FieldAt.mk Try.underlying72 rfl rfl tok3 (by decide)
theorem fld103_0 : FieldAt Try.prog 103 0 0 := FieldAt.mk Try.underlying103 rfl rfl tok3 (by decide)
theorem fld103_1 : FieldAt Try.prog 103 1 1 := FieldAt.mk Try.underlying103 rfl rfl tok3 (by decide)
theorem fld103_2 : FieldAt Try.prog 103 2 2 := FieldAt.mk Try.underlying103 rfl rfl tok3 (by decide)
theorem call13 : Callable Try.prog 13 := ⟨⟨_, Try.func13, by kernel_rfl, rfl⟩⟩
theorem call15 : Callable Try.prog 15 := ⟨⟨_, Try.func15, by kernel_rfl, rfl⟩⟩
theorem call18 : Callable Try.prog 18 := ⟨⟨_, Try.func18, by kernel_rfl, rfl⟩⟩
theorem call29 : Callable Try.prog 29 := ⟨⟨_, Try.func29, by kernel_rfl, rfl⟩⟩
theorem call30 : Callable Try.prog 30 := ⟨⟨_, Try.func30, by kernel_rfl, rfl⟩⟩
theorem call31 : Callable Try.prog 31 := ⟨⟨_, Try.func31, by kernel_rfl, rfl⟩⟩
theorem call32 : Callable Try.prog 32 := ⟨⟨_, Try.func32, by kernel_rfl, rfl⟩⟩
theorem call33 : Callable Try.prog 33 := ⟨⟨_, Try.func33, by kernel_rfl, rfl⟩⟩
theorem call34 : Callable Try.prog 34 := ⟨⟨_, Try.func34, by kernel_rfl, rfl⟩⟩
theorem call35 : Callable Try.prog 35 := ⟨⟨_, Try.func35, by kernel_rfl, rfl⟩⟩
theorem call36 : Callable Try.prog 36 := ⟨⟨_, Try.func36, by kernel_rfl, rfl⟩⟩
theorem call37 : Callable Try.prog 37 := ⟨⟨_, Try.func37, by kernel_rfl, rfl⟩⟩
theorem call38 : Callable Try.prog 38 := ⟨⟨_, Try.func38, by kernel_rfl, rfl⟩⟩
theorem call39 : Callable Try.prog 39 := ⟨⟨_, Try.func39, by kernel_rfl, rfl⟩⟩
theorem call40 : Callable Try.prog 40 := ⟨⟨_, Try.func40, by kernel_rfl, rfl⟩⟩
theorem call41 : Callable Try.prog 41 := ⟨⟨_, Try.func41, by kernel_rfl, rfl⟩⟩
theorem call42 : Callable Try.prog 42 := ⟨⟨_, Try.func42, by kernel_rfl, rfl⟩⟩
theorem call43 : Callable Try.prog 43 := ⟨⟨_, Try.func43, by kernel_rfl, rfl⟩⟩
theorem call44 : Callable Try.prog 44 := ⟨⟨_, Try.func44, by kernel_rfl, rfl⟩⟩
theorem call47 : Callable Try.prog 47 := ⟨⟨_, Try.func47, by kernel_rfl, rfl⟩⟩
theorem call53 : Callable Try.prog 53 := ⟨⟨_, Try.func53, by kernel_rfl, rfl⟩⟩
theorem call60 : Callable Try.prog 60 := ⟨⟨_, Try.func60, by kernel_rfl, rfl⟩⟩
theorem call61 : Callable Try.prog 61 := ⟨⟨_, Try.func61, by kernel_rfl, rfl⟩⟩
theorem call62 : Callable Try.prog 62 := ⟨⟨_, Try.func62, by kernel_rfl, rfl⟩⟩
theorem call63 : Callable Try.prog 63 := ⟨⟨_, Try.func63, by kernel_rfl, rfl⟩⟩
theorem call64 : Callable Try.prog 64 := ⟨⟨_, Try.func64, by kernel_rfl, rfl⟩⟩
theorem call65 : Callable Try.prog 65 := ⟨⟨_, Try.func65, by kernel_rfl, rfl⟩⟩
theorem call66 : Callable Try.prog 66 := ⟨⟨_, Try.func66, by kernel_rfl, rfl⟩⟩
theorem call67 : Callable Try.prog 67 := ⟨⟨_, Try.func67, by kernel_rfl, rfl⟩⟩
theorem call68 : Callable Try.prog 68 := ⟨⟨_, Try.func68, by kernel_rfl, rfl⟩⟩
theorem call69 : Callable Try.prog 69 := ⟨⟨_, Try.func69, by kernel_rfl, rfl⟩⟩
theorem call70 : Callable Try.prog 70 := ⟨⟨_, Try.func70, by kernel_rfl, rfl⟩⟩
theorem call71 : Callable Try.prog 71 := ⟨⟨_, Try.func71, by kernel_rfl, rfl⟩⟩
theorem call72 : Callable Try.prog 72 := ⟨⟨_, Try.func72, by kernel_rfl, rfl⟩⟩
theorem call73 : Callable Try.prog 73 := ⟨⟨_, Try.func73, by kernel_rfl, rfl⟩⟩
theorem call74 : Callable Try.prog 74 := ⟨⟨_, Try.func74, by kernel_rfl, rfl⟩⟩
theorem call75 : Callable Try.prog 75 := ⟨⟨_, Try.func75, by kernel_rfl, rfl⟩⟩
theorem call83 : Callable Try.prog 83 := ⟨⟨_, Try.func83, by kernel_rfl, rfl⟩⟩
theorem call84 : Callable Try.prog 84 := ⟨⟨_, Try.func84, by kernel_rfl, rfl⟩⟩
theorem call85 : Callable Try.prog 85 := ⟨⟨_, Try.func85, by kernel_rfl, rfl⟩⟩
theorem call86 : Callable Try.prog 86 := ⟨⟨_, Try.func86, by kernel_rfl, rfl⟩⟩
theorem call87 : Callable Try.prog 87 := ⟨⟨_, Try.func87, by kernel_rfl, rfl⟩⟩
theorem call89 : Callable Try.prog 89 := ⟨⟨_, Try.func89, by kernel_rfl, rfl⟩⟩

end Go.Proofs.Ytjniiejgccdhiaa

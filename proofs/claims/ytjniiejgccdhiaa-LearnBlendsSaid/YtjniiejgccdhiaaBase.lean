/- Closed facts on the types and functions of the translation, written by a program. No condition. -/
import Derived.Test.YtjniiejgccdhiaaSimJ
import Derived.Test.YtjniiejgccdhiaaRows
namespace Go.Proofs.Ytjniiejgccdhiaa
open Go.Sim

theorem mixed : Try.prog.follows .mixedOrders = true := by kernel_rfl
theorem tok3 : TOk Try.prog 3 rI 8 (.int .i64 0) := ⟨⟨_, Try.underlying3, rfl⟩, by kernel_rfl, rfl⟩
theorem zok3 : ∀ F w, (rI.ty (0:Int)).ok F w (.int .i64 0) := fun _ _ => rfl
theorem tok4 : TOk Try.prog 4 rBool 1 (.bool false) := ⟨⟨_, Try.underlying4, rfl⟩, by kernel_rfl, rfl⟩
theorem tok22 : TOk Try.prog 22 (rSl rI) 24 (.slice none 0 0) := ⟨⟨_, Try.underlying22, rfl⟩, by kernel_rfl, rfl⟩
theorem tok24 : TOk Try.prog 24 rClo 8 .nilFunc := ⟨⟨_, Try.underlying24, rfl⟩, by kernel_rfl, rfl⟩
theorem zok24 : ∀ F w, (rClo.ty (none : Option (FuncId × List Value))).ok F w .nilFunc := fun _ _ => rfl
theorem tok26 : TOk Try.prog 26 (rSl (rSl rI)) 24 (.slice none 0 0) := ⟨⟨_, Try.underlying26, rfl⟩, by kernel_rfl, rfl⟩
structure SRatio where
  P : Int
  Q : Int
deriving Inhabited
@[reducible] def rSRatio : Rep SRatio := ⟨fun x => [tv (.int .i64 x.P), tv (.int .i64 x.Q)], 2, true, fun _ => rfl, fun _ => (one_cons (one_tv rfl) (one_cons (one_tv rfl) one_nil)), fun h => (by cases h)⟩
theorem tok39 : TOk Try.prog 39 rSRatio 16 (.agg #[(.int .i64 0), (.int .i64 0)]) := ⟨⟨_, Try.underlying39, rfl⟩, by kernel_rfl, rfl⟩
theorem zc39 : ∀ F w, Cells (rSRatio.cs (SRatio.mk (0:Int) (0:Int))) F w ((.agg #[(.int .i64 0), (.int .i64 0)]) : Value).cells.toList := fun _ _ => (.cons rfl (.cons rfl .nil))
theorem zok39 : ∀ F w, (rSRatio.ty (SRatio.mk (0:Int) (0:Int))).ok F w (.agg #[(.int .i64 0), (.int .i64 0)]) := fun F w => ⟨_, rfl, zc39 F w⟩
theorem zv39 : (Try.prog.info? 39).bind (·.zero) = some (.agg #[(.int .i64 0), (.int .i64 0)]) := by kernel_rfl
theorem pl39 : ∀ w, ((#[⟨"P", 3, 0, false, "", "", 0⟩, ⟨"Q", 3, 1, false, "", "", 8⟩] : Array Field).mapM (fun f => do pure (f.offset, ← sizeOf f.type) : Field → Sem (Nat × Nat))).run Try.prog w = .ok #[(0, 1), (1, 1)] w := fun _ => by kernel_rfl
theorem tok80 : TOk Try.prog 80 rClo 8 .nilFunc := ⟨⟨_, Try.underlying80, rfl⟩, by kernel_rfl, rfl⟩
theorem zok80 : ∀ F w, (rClo.ty (none : Option (FuncId × List Value))).ok F w .nilFunc := fun _ _ => rfl
structure SBool2 where
  a0 : Bool
  a1 : Bool
deriving Inhabited
@[reducible] def rSBool2 : Rep SBool2 := ⟨fun x => [tv (.bool x.a0), tv (.bool x.a1)], 2, true, fun _ => rfl, fun _ => (one_cons (one_tv rfl) (one_cons (one_tv rfl) one_nil)), fun h => (by cases h)⟩
theorem tok100 : TOk Try.prog 100 rSBool2 2 (.agg #[(.bool false), (.bool false)]) := ⟨⟨_, Try.underlying100, rfl⟩, by kernel_rfl, rfl⟩
theorem zc100 : ∀ F w, Cells (rSBool2.cs (SBool2.mk false false)) F w ((.agg #[(.bool false), (.bool false)]) : Value).cells.toList := fun _ _ => (.cons rfl (.cons rfl .nil))
theorem zok100 : ∀ F w, (rSBool2.ty (SBool2.mk false false)).ok F w (.agg #[(.bool false), (.bool false)]) := fun F w => ⟨_, rfl, zc100 F w⟩
theorem zv100 : (Try.prog.info? 100).bind (·.zero) = some (.agg #[(.bool false), (.bool false)]) := by kernel_rfl
theorem fld39_0 : FieldAt Try.prog 39 0 0 := FieldAt.mk Try.underlying39 rfl rfl tok3 (by decide)
theorem fld39_1 : FieldAt Try.prog 39 1 1 := FieldAt.mk Try.underlying39 rfl rfl tok3 (by decide)
theorem call12 : Callable Try.prog 12 := ⟨⟨_, Try.func12, by kernel_rfl, rfl⟩⟩
theorem call13 : Callable Try.prog 13 := ⟨⟨_, Try.func13, by kernel_rfl, rfl⟩⟩
theorem call14 : Callable Try.prog 14 := ⟨⟨_, Try.func14, by kernel_rfl, rfl⟩⟩
theorem call15 : Callable Try.prog 15 := ⟨⟨_, Try.func15, by kernel_rfl, rfl⟩⟩
theorem call16 : Callable Try.prog 16 := ⟨⟨_, Try.func16, by kernel_rfl, rfl⟩⟩
theorem call17 : Callable Try.prog 17 := ⟨⟨_, Try.func17, by kernel_rfl, rfl⟩⟩
theorem call18 : Callable Try.prog 18 := ⟨⟨_, Try.func18, by kernel_rfl, rfl⟩⟩
theorem call19 : Callable Try.prog 19 := ⟨⟨_, Try.func19, by kernel_rfl, rfl⟩⟩
theorem call20 : Callable Try.prog 20 := ⟨⟨_, Try.func20, by kernel_rfl, rfl⟩⟩
theorem call21 : Callable Try.prog 21 := ⟨⟨_, Try.func21, by kernel_rfl, rfl⟩⟩
theorem call22 : Callable Try.prog 22 := ⟨⟨_, Try.func22, by kernel_rfl, rfl⟩⟩
theorem call23 : Callable Try.prog 23 := ⟨⟨_, Try.func23, by kernel_rfl, rfl⟩⟩
theorem call24 : Callable Try.prog 24 := ⟨⟨_, Try.func24, by kernel_rfl, rfl⟩⟩
theorem call25 : Callable Try.prog 25 := ⟨⟨_, Try.func25, by kernel_rfl, rfl⟩⟩
theorem call26 : Callable Try.prog 26 := ⟨⟨_, Try.func26, by kernel_rfl, rfl⟩⟩
theorem call27 : Callable Try.prog 27 := ⟨⟨_, Try.func27, by kernel_rfl, rfl⟩⟩
theorem call28 : Callable Try.prog 28 := ⟨⟨_, Try.func28, by kernel_rfl, rfl⟩⟩
theorem call44 : Callable Try.prog 44 := ⟨⟨_, Try.func44, by kernel_rfl, rfl⟩⟩
theorem call45 : Callable Try.prog 45 := ⟨⟨_, Try.func45, by kernel_rfl, rfl⟩⟩
theorem call46 : Callable Try.prog 46 := ⟨⟨_, Try.func46, by kernel_rfl, rfl⟩⟩
theorem call47 : Callable Try.prog 47 := ⟨⟨_, Try.func47, by kernel_rfl, rfl⟩⟩
theorem call48 : Callable Try.prog 48 := ⟨⟨_, Try.func48, by kernel_rfl, rfl⟩⟩
theorem call49 : Callable Try.prog 49 := ⟨⟨_, Try.func49, by kernel_rfl, rfl⟩⟩
theorem call50 : Callable Try.prog 50 := ⟨⟨_, Try.func50, by kernel_rfl, rfl⟩⟩
theorem call51 : Callable Try.prog 51 := ⟨⟨_, Try.func51, by kernel_rfl, rfl⟩⟩
theorem call52 : Callable Try.prog 52 := ⟨⟨_, Try.func52, by kernel_rfl, rfl⟩⟩
theorem call53 : Callable Try.prog 53 := ⟨⟨_, Try.func53, by kernel_rfl, rfl⟩⟩
theorem call54 : Callable Try.prog 54 := ⟨⟨_, Try.func54, by kernel_rfl, rfl⟩⟩
theorem call55 : Callable Try.prog 55 := ⟨⟨_, Try.func55, by kernel_rfl, rfl⟩⟩
theorem call56 : Callable Try.prog 56 := ⟨⟨_, Try.func56, by kernel_rfl, rfl⟩⟩
theorem call57 : Callable Try.prog 57 := ⟨⟨_, Try.func57, by kernel_rfl, rfl⟩⟩
theorem call58 : Callable Try.prog 58 := ⟨⟨_, Try.func58, by kernel_rfl, rfl⟩⟩
theorem call59 : Callable Try.prog 59 := ⟨⟨_, Try.func59, by kernel_rfl, rfl⟩⟩
theorem call68 : Callable Try.prog 68 := ⟨⟨_, Try.func68, by kernel_rfl, rfl⟩⟩
theorem call76 : Callable Try.prog 76 := ⟨⟨_, Try.func76, by kernel_rfl, rfl⟩⟩
theorem call77 : Callable Try.prog 77 := ⟨⟨_, Try.func77, by kernel_rfl, rfl⟩⟩
theorem call78 : Callable Try.prog 78 := ⟨⟨_, Try.func78, by kernel_rfl, rfl⟩⟩
theorem call79 : Callable Try.prog 79 := ⟨⟨_, Try.func79, by kernel_rfl, rfl⟩⟩
theorem call80 : Callable Try.prog 80 := ⟨⟨_, Try.func80, by kernel_rfl, rfl⟩⟩
theorem call81 : Callable Try.prog 81 := ⟨⟨_, Try.func81, by kernel_rfl, rfl⟩⟩
theorem call82 : Callable Try.prog 82 := ⟨⟨_, Try.func82, by kernel_rfl, rfl⟩⟩
theorem call85 : Callable Try.prog 85 := ⟨⟨_, Try.func85, by kernel_rfl, rfl⟩⟩
theorem eqRun39 (n : Nat) (a b c d : Int) (w : World) : (Op.equalIn (n + 2) 39 (.agg #[.int .i64 a, .int .i64 b]) (.agg #[.int .i64 c, .int .i64 d])).run Try.prog w = .ok (a == c && b == d) w := by
  have hs : Try.prog.stoodInHeld 39 = false := by kernel_rfl
  simp [Op.equalIn, run_underlying Try.underlying39, run_underlying Try.underlying3, run_program, hs, part, isAgg]
  cases hac : (a == c) <;> cases hbd : (b == d) <;> simp_all [Op.equalIn, run_underlying Try.underlying3, part, isAgg]
theorem eqGuard39 : Try.prog.eqGuardType Try.prog.depth 39 = false := by kernel_rfl
def eqlR (p q : SRatio) : Bool := p.P == q.P && p.Q == q.Q
theorem op_eqlR {Γ : List (Nat × Ty)} {d : Option Tmp} {ty t2 : TypeId} {pos : String} {af : Array Edge} {g : Option (Nat × Bool)} {x y : Operand} {p q : SRatio} (hx : Fct Γ x (rSRatio.ty p)) (hy : Fct Γ y (rSRatio.ty q)) :
    OpJ Try.prog ⟨d, .binOp .eql 39 x y t2, ty, pos, af, g⟩ Γ [] none none (fun _ => tv (.bool (eqlR p q))) :=
  opj_bin hx.agg2 hy.agg2 fun w => by
    have := eqRun39 9998 p.P p.Q q.P q.Q w
    simp only [eqGuard, binOp, Op.equal, run_program, eqGuard39, Sem.run_bind, Result.andThen_ok]
    simp [Op.maxDepth, this, eqlR]
theorem eqRun100 (a b c d : Bool) (w : World) : (Op.equal 100 (.agg #[.bool a, .bool b]) (.agg #[.bool c, .bool d])).run Try.prog w = .ok (a == c && b == d) w := by
  cases a <;> cases b <;> cases c <;> cases d <;> kernel_rfl
theorem eqGuard100 : Try.prog.eqGuardType Try.prog.depth 100 = false := by kernel_rfl
def neqB2 (p q : SBool2) : Bool := !(p.a0 == q.a0 && p.a1 == q.a1)
theorem op_neqB2 {Γ : List (Nat × Ty)} {d : Option Tmp} {ty t2 : TypeId} {pos : String} {af : Array Edge} {g : Option (Nat × Bool)} {x y : Operand} {p q : SBool2} (hx : Fct Γ x (rSBool2.ty p)) (hy : Fct Γ y (rSBool2.ty q)) :
    OpJ Try.prog ⟨d, .binOp .neq 100 x y t2, ty, pos, af, g⟩ Γ [] none none (fun _ => tv (.bool (neqB2 p q))) :=
  opj_bin hx.agg2 hy.agg2 fun w => by
    simp [eqGuard, binOp, run_program, eqGuard100, eqRun100, neqB2]

end Go.Proofs.Ytjniiejgccdhiaa

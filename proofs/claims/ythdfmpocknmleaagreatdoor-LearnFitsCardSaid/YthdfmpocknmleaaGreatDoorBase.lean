/- Closed facts on the types and functions of the translation, written by a program. No condition. -/
import Derived.Test.YthdfmpocknmleaaGreatDoorSimK
import Derived.Test.YthdfmpocknmleaaGreatDoorRows
namespace Go.Proofs.YthdfmpocknmleaaGreatDoor
open Go.Sim

theorem mixed : Tryz.prog.follows .mixedOrders = true := by kernel_rfl
def ents0 : List (Value × Value) := [(.int .i64 0,.agg #[.func (.func 196) #[] #[]]),(.int .i64 1,.agg #[.func (.func 197) #[] #[]]),(.int .i64 4,.agg #[.func (.func 198) #[] #[]]),(.int .i64 5,.agg #[.func (.func 199) #[] #[]]),(.int .i64 6,.agg #[.func (.func 201) #[] #[]]),(.int .i64 7,.agg #[.func (.func 202) #[] #[]]),(.int .i64 8,.agg #[.func (.func 204) #[] #[]])]
def tgloM0 : Ty := tmapC ents0
def tglo0 : List Ty := [tgloM0]
theorem tokM0 : TOk Tryz.prog 77 (rMapC ents0) 8 (.map none) := ⟨⟨_,Tryz.underlying77,rfl⟩,(by kernel_rfl : (Tryz.prog.info? 77).map (fun i => (i.zero,i.size,i.bytes)) = some (some (.map none),1,8)),rfl⟩
def wordsL : List Str := [[107,101,121],[114,101,102],[110,117,109],[112,105,99,107],[100,97,121],[115,116,101,112],[115,117,109],[115,104,97,114,101],[99,111,112,121]]
def tglo1 : List Ty := wordsL.flatMap rS.cs
def pow10L : List Int := [1,10,100,1000,10000,100000,1000000,10000000,100000000,1000000000,10000000000,100000000000,1000000000000,10000000000000,100000000000000,1000000000000000,10000000000000000,100000000000000000,1000000000000000000,10000000000000000000]
def tglo2 : List Ty := pow10L.flatMap (rInt .u64).cs
abbrev bld := bldE 151 5
/-- What the package variables hold. -/
def glo : Atom := gloA [(0,tglo0),(1,tglo1),(2,tglo2)]
theorem glo_fp : ∀ k,¬ glo.fp k := fun _ h => h
theorem _root_.Go.Sim.OpJ.glo {P : Program} {o : Oper} {Γ : List (Nat × Ty)} {U E : List Atom} {N : Value → List Atom} {T : Value → Ty} (h : OpJ P o Γ U (glo :: E) N T) : OpJ P o Γ (glo :: U) E N T := OpJ.gloG glo_fp h
theorem glo_is0 : GloIs glo 0 tglo0 := gloA_is (by simp)
theorem glo_has0 : GloHas glo 0 tglo0 := glo_is0.has
theorem glo_is1 : GloIs glo 1 tglo1 := gloA_is (by simp)
theorem glo_has1 : GloHas glo 1 tglo1 := glo_is1.has
theorem glo_is2 : GloIs glo 2 tglo2 := gloA_is (by simp)
theorem tok3 : TOk Tryz.prog 3 rI 8 (.int .i64 0) := ⟨⟨_,Tryz.underlying3,rfl⟩,by kernel_rfl,rfl⟩
theorem zok3 : ∀ F w,(rI.ty (0:Int)).ok F w (.int .i64 0) := fun _ _ => rfl
theorem tok4 : TOk Tryz.prog 4 rBool 1 (.bool false) := ⟨⟨_,Tryz.underlying4,rfl⟩,by kernel_rfl,rfl⟩
theorem tok5 : TOk Tryz.prog 5 (rInt .u8) 1 (.int .u8 0) := ⟨⟨_,Tryz.underlying5,rfl⟩,by kernel_rfl,rfl⟩
theorem tok9 : TOk Tryz.prog 9 rS 16 (.string .empty) := ⟨⟨_,Tryz.underlying9,rfl⟩,by kernel_rfl,rfl⟩
theorem tok20 : TOk Tryz.prog 20 (rAny 3 9) 16 .nilIface := ⟨⟨_,Tryz.underlying20,rfl⟩,by kernel_rfl,rfl⟩
theorem tok22 : TOk Tryz.prog 22 (rSl rI) 24 (.slice none 0 0) := ⟨⟨_,Tryz.underlying22,rfl⟩,by kernel_rfl,rfl⟩
theorem tok38 : TOk Tryz.prog 38 (rSl rS) 24 (.slice none 0 0) := ⟨⟨_,Tryz.underlying38,rfl⟩,by kernel_rfl,rfl⟩
structure Sapi_Field where
  Name : Str
  Of : Str
  Up : Str
  Kind : Int
  Lo : Int
  Hi : Int
  Words : (List Str)
  Weights : (List Int)
deriving Inhabited
@[reducible] def rSapi_Field : Rep Sapi_Field := ⟨fun x => ([tv (.string (sB x.Name)),tv (.string (sB x.Of)),tv (.string (sB x.Up)),ti x.Kind,ti x.Lo,ti x.Hi,tsl rS x.Words,tsl rI x.Weights]),8,true,fun _ => rfl,fun _ => (one_cons (one_tv rfl) (one_cons (one_tv rfl) (one_cons (one_tv rfl) (one_cons (one_tv rfl) (one_cons (one_tv rfl) (one_cons (one_tv rfl) (one_cons one_tsl (one_cons one_tsl one_nil)))))))),fun h => (by cases h)⟩
theorem tok44 : TOk Tryz.prog 44 rSapi_Field 120 (.agg #[(.string .empty),(.string .empty),(.string .empty),(.int .i64 0),(.int .i64 0),(.int .i64 0),(.slice none 0 0),(.slice none 0 0)]) := ⟨⟨_,Tryz.underlying44,rfl⟩,by kernel_rfl,rfl⟩
theorem zc44 : ∀ F w,Cells (rSapi_Field.cs (Sapi_Field.mk ([] : Str) ([] : Str) ([] : Str) (0:Int) (0:Int) (0:Int) ([] : (List Str)) ([] : (List Int)))) F w ((.agg #[(.string .empty),(.string .empty),(.string .empty),(.int .i64 0),(.int .i64 0),(.int .i64 0),(.slice none 0 0),(.slice none 0 0)]) : Value).cells.toList := fun _ _ => (.cons rfl (.cons rfl (.cons rfl (.cons rfl (.cons rfl (.cons rfl (.cons ⟨none,0,rfl,Nat.le_refl _,fun h => (h rfl).elim⟩ (.cons ⟨none,0,rfl,Nat.le_refl _,fun h => (h rfl).elim⟩ .nil))))))))
theorem zok44 : ∀ F w,(rSapi_Field.ty (Sapi_Field.mk ([] : Str) ([] : Str) ([] : Str) (0:Int) (0:Int) (0:Int) ([] : (List Str)) ([] : (List Int)))).ok F w (.agg #[(.string .empty),(.string .empty),(.string .empty),(.int .i64 0),(.int .i64 0),(.int .i64 0),(.slice none 0 0),(.slice none 0 0)]) := fun F w => ⟨_,rfl,zc44 F w⟩
theorem zv44 : (Tryz.prog.info? 44).bind (·.zero) = some (.agg #[(.string .empty),(.string .empty),(.string .empty),(.int .i64 0),(.int .i64 0),(.int .i64 0),(.slice none 0 0),(.slice none 0 0)]) := by kernel_rfl
theorem pl44 : ∀ w, ((#[⟨"Name", 9, 0, false, "", "", 0⟩, ⟨"Of", 9, 1, false, "", "", 16⟩, ⟨"Up", 9, 2, false, "", "", 32⟩, ⟨"Kind", 3, 3, false, "", "", 48⟩, ⟨"Lo", 3, 4, false, "", "", 56⟩, ⟨"Hi", 3, 5, false, "", "", 64⟩, ⟨"Words", 38, 6, false, "", "", 72⟩, ⟨"Weights", 22, 7, false, "", "", 96⟩] : Array Field).mapM (fun f => do pure (f.offset, ← sizeOf f.type) : Field → Sem (Nat × Nat))).run Tryz.prog w = .ok #[(0, 1), (1, 1), (2, 1), (3, 1), (4, 1), (5, 1), (6, 1), (7, 1)] w := fun _ => by kernel_rfl
theorem zagg44_7 : (∀ F w,Cells ([tv (.string (sB ([] : Str))),tv (.string (sB ([] : Str))),tv (.string (sB ([] : Str))),ti (0:Int),ti (0:Int),ti (0:Int),tsl rS ([] : (List Str)),tvs nilV]) F w ((.agg #[(.string .empty),(.string .empty),(.string .empty),(.int .i64 0),(.int .i64 0),(.int .i64 0),(.slice none 0 0),(.slice none 0 0)]) : Value).cells.toList) ∧ ([tv (.string (sB ([] : Str))),tv (.string (sB ([] : Str))),tv (.string (sB ([] : Str))),ti (0:Int),ti (0:Int),ti (0:Int),tsl rS ([] : (List Str)),tvs nilV]).length = 8 ∧ rSapi_Field.agg = true ∧ ∃ cs,((.agg #[(.string .empty),(.string .empty),(.string .empty),(.int .i64 0),(.int .i64 0),(.int .i64 0),(.slice none 0 0),(.slice none 0 0)]) : Value) = .agg cs := ⟨fun _ _ => (.cons rfl (.cons rfl (.cons rfl (.cons rfl (.cons rfl (.cons rfl (.cons ⟨none,0,rfl,Nat.le_refl _,fun h => (h rfl).elim⟩ (.cons ⟨rfl,rfl⟩ .nil)))))))),rfl,rfl,_,rfl⟩
theorem tok45 : TOk Tryz.prog 45 (rSl rSapi_Field) 24 (.slice none 0 0) := ⟨⟨_,Tryz.underlying45,rfl⟩,by kernel_rfl,rfl⟩
structure Sapi_Kind where
  Name : Str
  Lo : Int
  Hi : Int
  Fields : (List Sapi_Field)
deriving Inhabited
@[reducible] def rSapi_Kind : Rep Sapi_Kind := ⟨fun x => ([tv (.string (sB x.Name)),ti x.Lo,ti x.Hi,tsl rSapi_Field x.Fields]),4,true,fun _ => rfl,fun _ => (one_cons (one_tv rfl) (one_cons (one_tv rfl) (one_cons (one_tv rfl) (one_cons one_tsl one_nil)))),fun h => (by cases h)⟩
theorem tok47 : TOk Tryz.prog 47 rSapi_Kind 56 (.agg #[(.string .empty),(.int .i64 0),(.int .i64 0),(.slice none 0 0)]) := ⟨⟨_,Tryz.underlying47,rfl⟩,by kernel_rfl,rfl⟩
theorem zc47 : ∀ F w,Cells (rSapi_Kind.cs (Sapi_Kind.mk ([] : Str) (0:Int) (0:Int) ([] : (List Sapi_Field)))) F w ((.agg #[(.string .empty),(.int .i64 0),(.int .i64 0),(.slice none 0 0)]) : Value).cells.toList := fun _ _ => (.cons rfl (.cons rfl (.cons rfl (.cons ⟨none,0,rfl,Nat.le_refl _,fun h => (h rfl).elim⟩ .nil))))
theorem zok47 : ∀ F w,(rSapi_Kind.ty (Sapi_Kind.mk ([] : Str) (0:Int) (0:Int) ([] : (List Sapi_Field)))).ok F w (.agg #[(.string .empty),(.int .i64 0),(.int .i64 0),(.slice none 0 0)]) := fun F w => ⟨_,rfl,zc47 F w⟩
theorem zv47 : (Tryz.prog.info? 47).bind (·.zero) = some (.agg #[(.string .empty),(.int .i64 0),(.int .i64 0),(.slice none 0 0)]) := by kernel_rfl
theorem pl47 : ∀ w, ((#[⟨"Name", 9, 0, false, "", "", 0⟩, ⟨"Lo", 3, 1, false, "", "", 16⟩, ⟨"Hi", 3, 2, false, "", "", 24⟩, ⟨"Fields", 45, 3, false, "", "", 32⟩] : Array Field).mapM (fun f => do pure (f.offset, ← sizeOf f.type) : Field → Sem (Nat × Nat))).run Tryz.prog w = .ok #[(0, 1), (1, 1), (2, 1), (3, 1)] w := fun _ => by kernel_rfl
theorem zagg47_3 : (∀ F w,Cells ([tv (.string (sB ([] : Str))),ti (0:Int),ti (0:Int),tvs nilV]) F w ((.agg #[(.string .empty),(.int .i64 0),(.int .i64 0),(.slice none 0 0)]) : Value).cells.toList) ∧ ([tv (.string (sB ([] : Str))),ti (0:Int),ti (0:Int),tvs nilV]).length = 4 ∧ rSapi_Kind.agg = true ∧ ∃ cs,((.agg #[(.string .empty),(.int .i64 0),(.int .i64 0),(.slice none 0 0)]) : Value) = .agg cs := ⟨fun _ _ => (.cons rfl (.cons rfl (.cons rfl (.cons ⟨rfl,rfl⟩ .nil)))),rfl,rfl,_,rfl⟩
theorem tok30 : TOk Tryz.prog 30 (rSl rSapi_Kind) 24 (.slice none 0 0) := ⟨⟨_,Tryz.underlying30,rfl⟩,by kernel_rfl,rfl⟩
structure A2_Int where
  a0 : Int
  a1 : Int
deriving Inhabited
@[reducible] def rA2_Int : Rep A2_Int := ⟨fun x => ([ti x.a0,ti x.a1]),2,true,fun _ => rfl,fun _ => (one_cons (one_tv rfl) (one_cons (one_tv rfl) one_nil)),fun h => (by cases h)⟩
theorem tok98 : TOk Tryz.prog 98 rA2_Int 16 (.agg #[(.int .i64 0),(.int .i64 0)]) := ⟨⟨_,Tryz.underlying98,rfl⟩,by kernel_rfl,rfl⟩
theorem zc98 : ∀ F w,Cells (rA2_Int.cs (A2_Int.mk (0:Int) (0:Int))) F w ((.agg #[(.int .i64 0),(.int .i64 0)]) : Value).cells.toList := fun _ _ => (.cons rfl (.cons rfl .nil))
theorem zok98 : ∀ F w,(rA2_Int.ty (A2_Int.mk (0:Int) (0:Int))).ok F w (.agg #[(.int .i64 0),(.int .i64 0)]) := fun F w => ⟨_,rfl,zc98 F w⟩
theorem zv98 : (Tryz.prog.info? 98).bind (·.zero) = some (.agg #[(.int .i64 0),(.int .i64 0)]) := by kernel_rfl
def eqA2_Int (p q : A2_Int) : Bool := p.a0 == q.a0 && p.a1 == q.a1
set_option maxHeartbeats 2000000 in
theorem eqRun98 (n : Nat) (a0 b0 : Int) (a1 b1 : Int) (w : World) : (Op.equalIn (n + 2) 98 (.agg #[.int .i64 a0,.int .i64 a1]) (.agg #[.int .i64 b0,.int .i64 b1])).run Tryz.prog w = .ok (a0 == b0 && a1 == b1) w := by
  obtain ⟨ie,hie,_,hse,_⟩ := tok3.info
  have hse1 : ie.size = 1 := hse
  have e3 : ∀ x y : Int,(Op.equalIn (n + 1) 3 (.int .i64 x) (.int .i64 y)).run Tryz.prog w = .ok (x == y) w := fun x y => by simp [Op.equalIn,run_underlying Tryz.underlying3]
  have pt : ∀ (xs : Array Value) (i : Nat) (v : Value),xs[i]? = some v → (part 3 xs i).run Tryz.prog w = .ok v w := fun xs i v h => by simp [part,isAgg,run_underlying Tryz.underlying3,h]
  have p0 : ∀ u0 u1 : Int,(part 3 #[.int .i64 u0,.int .i64 u1] 0).run Tryz.prog w = .ok (.int .i64 u0) w := fun _ _ => pt _ 0 _ rfl
  have p1 : ∀ u0 u1 : Int,(part 3 #[.int .i64 u0,.int .i64 u1] 1).run Tryz.prog w = .ok (.int .i64 u1) w := fun _ _ => pt _ 1 _ rfl
  unfold Op.equalIn
  simp only [Sem.run_bind,run_underlying Tryz.underlying98,Result.andThen_ok,sizeOf,typeInfo,run_program,hie,Sem.run_pure,hse1,Nat.mul_one]
  simp [List.range',p0,p1,e3]
  by_cases h0 : a0 = b0 <;> by_cases h1 : a1 = b1 <;> simp [h0,h1,p0,p1,e3]
theorem eqGuard98 : Tryz.prog.eqGuardType Tryz.prog.depth 98 = false := by kernel_rfl
theorem op_neq_t98 {Γ : List (Nat × Ty)} {d : Option Tmp} {ty t2 : TypeId} {pos : String} {af : Array Edge} {g : Option (Nat × Bool)} {x y : Operand} {p q : A2_Int} (hx : Fct Γ x (rA2_Int.ty p)) (hy : Fct Γ y (rA2_Int.ty q)) :
    OpJ Tryz.prog ⟨d,.binOp .neq 98 x y t2,ty,pos,af,g⟩ Γ [] [] (fun _ => []) (fun _ => tv (.bool (!eqA2_Int p q))) :=
  opj_bin (u := .agg #[.int .i64 p.a0,.int .i64 p.a1]) (v := .agg #[.int .i64 q.a0,.int .i64 q.a1]) (hx.weak fun _ _ _ h => by obtain ⟨us,hv,hc⟩ := h; rw [hv]; exact cells_vals hc [.int .i64 p.a0,.int .i64 p.a1] rfl) (hy.weak fun _ _ _ h => by obtain ⟨us,hv,hc⟩ := h; rw [hv]; exact cells_vals hc [.int .i64 q.a0,.int .i64 q.a1] rfl) fun w => by
    have := eqRun98 9998 p.a0 q.a0 p.a1 q.a1 w
    simp only [eqGuard,binOp,Op.equal,run_program,eqGuard98,Sem.run_bind,Result.andThen_ok]
    simp [Op.maxDepth,this,eqA2_Int]
theorem tok65 : TOk Tryz.prog 65 (rSl rA2_Int) 24 (.slice none 0 0) := ⟨⟨_,Tryz.underlying65,rfl⟩,by kernel_rfl,rfl⟩
structure Sapi_Life where
  Name : Str
  States : (List Str)
  Moves : (List A2_Int)
deriving Inhabited
@[reducible] def rSapi_Life : Rep Sapi_Life := ⟨fun x => ([tv (.string (sB x.Name)),tsl rS x.States,tsl rA2_Int x.Moves]),3,true,fun _ => rfl,fun _ => (one_cons (one_tv rfl) (one_cons one_tsl (one_cons one_tsl one_nil))),fun h => (by cases h)⟩
theorem tok67 : TOk Tryz.prog 67 rSapi_Life 64 (.agg #[(.string .empty),(.slice none 0 0),(.slice none 0 0)]) := ⟨⟨_,Tryz.underlying67,rfl⟩,by kernel_rfl,rfl⟩
theorem zc67 : ∀ F w,Cells (rSapi_Life.cs (Sapi_Life.mk ([] : Str) ([] : (List Str)) ([] : (List A2_Int)))) F w ((.agg #[(.string .empty),(.slice none 0 0),(.slice none 0 0)]) : Value).cells.toList := fun _ _ => (.cons rfl (.cons ⟨none,0,rfl,Nat.le_refl _,fun h => (h rfl).elim⟩ (.cons ⟨none,0,rfl,Nat.le_refl _,fun h => (h rfl).elim⟩ .nil)))
theorem zok67 : ∀ F w,(rSapi_Life.ty (Sapi_Life.mk ([] : Str) ([] : (List Str)) ([] : (List A2_Int)))).ok F w (.agg #[(.string .empty),(.slice none 0 0),(.slice none 0 0)]) := fun F w => ⟨_,rfl,zc67 F w⟩
theorem zv67 : (Tryz.prog.info? 67).bind (·.zero) = some (.agg #[(.string .empty),(.slice none 0 0),(.slice none 0 0)]) := by kernel_rfl
theorem pl67 : ∀ w, ((#[⟨"Name", 9, 0, false, "", "", 0⟩, ⟨"States", 38, 1, false, "", "", 16⟩, ⟨"Moves", 65, 2, false, "", "", 40⟩] : Array Field).mapM (fun f => do pure (f.offset, ← sizeOf f.type) : Field → Sem (Nat × Nat))).run Tryz.prog w = .ok #[(0, 1), (1, 1), (2, 1)] w := fun _ => by kernel_rfl
theorem zagg67_2 : (∀ F w,Cells ([tv (.string (sB ([] : Str))),tsl rS ([] : (List Str)),tvs nilV]) F w ((.agg #[(.string .empty),(.slice none 0 0),(.slice none 0 0)]) : Value).cells.toList) ∧ ([tv (.string (sB ([] : Str))),tsl rS ([] : (List Str)),tvs nilV]).length = 3 ∧ rSapi_Life.agg = true ∧ ∃ cs,((.agg #[(.string .empty),(.slice none 0 0),(.slice none 0 0)]) : Value) = .agg cs := ⟨fun _ _ => (.cons rfl (.cons ⟨none,0,rfl,Nat.le_refl _,fun h => (h rfl).elim⟩ (.cons ⟨rfl,rfl⟩ .nil))),rfl,rfl,_,rfl⟩
theorem tok31 : TOk Tryz.prog 31 (rSl rSapi_Life) 24 (.slice none 0 0) := ⟨⟨_,Tryz.underlying31,rfl⟩,by kernel_rfl,rfl⟩
structure Sapi_Rule where
  Name : Str
  Kind : Str
  A : Str
  B : Str
  N : Int
deriving Inhabited
@[reducible] def rSapi_Rule : Rep Sapi_Rule := ⟨fun x => ([tv (.string (sB x.Name)),tv (.string (sB x.Kind)),tv (.string (sB x.A)),tv (.string (sB x.B)),ti x.N]),5,true,fun _ => rfl,fun _ => (one_cons (one_tv rfl) (one_cons (one_tv rfl) (one_cons (one_tv rfl) (one_cons (one_tv rfl) (one_cons (one_tv rfl) one_nil))))),fun h => (by cases h)⟩
theorem tok100 : TOk Tryz.prog 100 rSapi_Rule 72 (.agg #[(.string .empty),(.string .empty),(.string .empty),(.string .empty),(.int .i64 0)]) := ⟨⟨_,Tryz.underlying100,rfl⟩,by kernel_rfl,rfl⟩
theorem zc100 : ∀ F w,Cells (rSapi_Rule.cs (Sapi_Rule.mk ([] : Str) ([] : Str) ([] : Str) ([] : Str) (0:Int))) F w ((.agg #[(.string .empty),(.string .empty),(.string .empty),(.string .empty),(.int .i64 0)]) : Value).cells.toList := fun _ _ => (.cons rfl (.cons rfl (.cons rfl (.cons rfl (.cons rfl .nil)))))
theorem zok100 : ∀ F w,(rSapi_Rule.ty (Sapi_Rule.mk ([] : Str) ([] : Str) ([] : Str) ([] : Str) (0:Int))).ok F w (.agg #[(.string .empty),(.string .empty),(.string .empty),(.string .empty),(.int .i64 0)]) := fun F w => ⟨_,rfl,zc100 F w⟩
theorem zv100 : (Tryz.prog.info? 100).bind (·.zero) = some (.agg #[(.string .empty),(.string .empty),(.string .empty),(.string .empty),(.int .i64 0)]) := by kernel_rfl
theorem pl100 : ∀ w, ((#[⟨"Name", 9, 0, false, "", "", 0⟩, ⟨"Kind", 9, 1, false, "", "", 16⟩, ⟨"A", 9, 2, false, "", "", 32⟩, ⟨"B", 9, 3, false, "", "", 48⟩, ⟨"N", 3, 4, false, "", "", 64⟩] : Array Field).mapM (fun f => do pure (f.offset, ← sizeOf f.type) : Field → Sem (Nat × Nat))).run Tryz.prog w = .ok #[(0, 1), (1, 1), (2, 1), (3, 1), (4, 1)] w := fun _ => by kernel_rfl
def eqSapi_Rule (p q : Sapi_Rule) : Bool := p.Name == q.Name && p.Kind == q.Kind && p.A == q.A && p.B == q.B && p.N == q.N
set_option maxHeartbeats 2000000 in
theorem eqRun100 (n : Nat) (a0 b0 : Str) (a1 b1 : Str) (a2 b2 : Str) (a3 b3 : Str) (a4 b4 : Int) (w : World) : (Op.equalIn (n + 2) 100 (.agg #[.string (sB a0),.string (sB a1),.string (sB a2),.string (sB a3),.int .i64 a4]) (.agg #[.string (sB b0),.string (sB b1),.string (sB b2),.string (sB b3),.int .i64 b4])).run Tryz.prog w = .ok (a0 == b0 && a1 == b1 && a2 == b2 && a3 == b3 && a4 == b4) w := by
  have hs : Tryz.prog.stoodInHeld 100 = false := by kernel_rfl
  simp only [Op.equalIn,Sem.run_bind,run_underlying Tryz.underlying100,run_underlying Tryz.underlying3,run_underlying Tryz.underlying9,Result.andThen_ok,run_program,hs]
  simp [run_underlying Tryz.underlying100,run_underlying Tryz.underlying3,run_underlying Tryz.underlying9,part,isAgg,Op.equalIn,sizeOf,typeInfo]
  cases h0 : (a0 == b0) <;> cases h1 : (a1 == b1) <;> cases h2 : (a2 == b2) <;> cases h3 : (a3 == b3) <;> cases h4 : (a4 == b4) <;> simp_all [Op.equalIn,run_underlying Tryz.underlying100,run_underlying Tryz.underlying3,run_underlying Tryz.underlying9,part,isAgg,sB_beq]
theorem eqGuard100 : Tryz.prog.eqGuardType Tryz.prog.depth 100 = false := by kernel_rfl
theorem op_neq_t100 {Γ : List (Nat × Ty)} {d : Option Tmp} {ty t2 : TypeId} {pos : String} {af : Array Edge} {g : Option (Nat × Bool)} {x y : Operand} {p q : Sapi_Rule} (hx : Fct Γ x (rSapi_Rule.ty p)) (hy : Fct Γ y (rSapi_Rule.ty q)) :
    OpJ Tryz.prog ⟨d,.binOp .neq 100 x y t2,ty,pos,af,g⟩ Γ [] [] (fun _ => []) (fun _ => tv (.bool (!eqSapi_Rule p q))) :=
  opj_bin (u := .agg #[.string (sB p.Name),.string (sB p.Kind),.string (sB p.A),.string (sB p.B),.int .i64 p.N]) (v := .agg #[.string (sB q.Name),.string (sB q.Kind),.string (sB q.A),.string (sB q.B),.int .i64 q.N]) (hx.weak fun _ _ _ h => by obtain ⟨us,hv,hc⟩ := h; rw [hv]; exact cells_vals hc [.string (sB p.Name),.string (sB p.Kind),.string (sB p.A),.string (sB p.B),.int .i64 p.N] rfl) (hy.weak fun _ _ _ h => by obtain ⟨us,hv,hc⟩ := h; rw [hv]; exact cells_vals hc [.string (sB q.Name),.string (sB q.Kind),.string (sB q.A),.string (sB q.B),.int .i64 q.N] rfl) fun w => by
    have := eqRun100 9998 p.Name q.Name p.Kind q.Kind p.A q.A p.B q.B p.N q.N w
    simp only [eqGuard,binOp,Op.equal,run_program,eqGuard100,Sem.run_bind,Result.andThen_ok]
    simp [Op.maxDepth,this,eqSapi_Rule]
theorem tok32 : TOk Tryz.prog 32 (rSl rSapi_Rule) 24 (.slice none 0 0) := ⟨⟨_,Tryz.underlying32,rfl⟩,by kernel_rfl,rfl⟩
structure Sapi_Schema where
  Version : Int
  Kinds : (List Sapi_Kind)
  Lives : (List Sapi_Life)
  Rules : (List Sapi_Rule)
deriving Inhabited
@[reducible] def rSapi_Schema : Rep Sapi_Schema := ⟨fun x => ([ti x.Version,tsl rSapi_Kind x.Kinds,tsl rSapi_Life x.Lives,tsl rSapi_Rule x.Rules]),4,true,fun _ => rfl,fun _ => (one_cons (one_tv rfl) (one_cons one_tsl (one_cons one_tsl (one_cons one_tsl one_nil)))),fun h => (by cases h)⟩
theorem tok34 : TOk Tryz.prog 34 rSapi_Schema 80 (.agg #[(.int .i64 0),(.slice none 0 0),(.slice none 0 0),(.slice none 0 0)]) := ⟨⟨_,Tryz.underlying34,rfl⟩,by kernel_rfl,rfl⟩
theorem zc34 : ∀ F w,Cells (rSapi_Schema.cs (Sapi_Schema.mk (0:Int) ([] : (List Sapi_Kind)) ([] : (List Sapi_Life)) ([] : (List Sapi_Rule)))) F w ((.agg #[(.int .i64 0),(.slice none 0 0),(.slice none 0 0),(.slice none 0 0)]) : Value).cells.toList := fun _ _ => (.cons rfl (.cons ⟨none,0,rfl,Nat.le_refl _,fun h => (h rfl).elim⟩ (.cons ⟨none,0,rfl,Nat.le_refl _,fun h => (h rfl).elim⟩ (.cons ⟨none,0,rfl,Nat.le_refl _,fun h => (h rfl).elim⟩ .nil))))
theorem zok34 : ∀ F w,(rSapi_Schema.ty (Sapi_Schema.mk (0:Int) ([] : (List Sapi_Kind)) ([] : (List Sapi_Life)) ([] : (List Sapi_Rule)))).ok F w (.agg #[(.int .i64 0),(.slice none 0 0),(.slice none 0 0),(.slice none 0 0)]) := fun F w => ⟨_,rfl,zc34 F w⟩
theorem zv34 : (Tryz.prog.info? 34).bind (·.zero) = some (.agg #[(.int .i64 0),(.slice none 0 0),(.slice none 0 0),(.slice none 0 0)]) := by kernel_rfl
theorem pl34 : ∀ w, ((#[⟨"Version", 3, 0, false, "", "", 0⟩, ⟨"Kinds", 30, 1, false, "", "", 8⟩, ⟨"Lives", 31, 2, false, "", "", 32⟩, ⟨"Rules", 32, 3, false, "", "", 56⟩] : Array Field).mapM (fun f => do pure (f.offset, ← sizeOf f.type) : Field → Sem (Nat × Nat))).run Tryz.prog w = .ok #[(0, 1), (1, 1), (2, 1), (3, 1)] w := fun _ => by kernel_rfl
theorem zagg34_1_2_3 : (∀ F w,Cells ([ti (0:Int),tvs nilV,tvs nilV,tvs nilV]) F w ((.agg #[(.int .i64 0),(.slice none 0 0),(.slice none 0 0),(.slice none 0 0)]) : Value).cells.toList) ∧ ([ti (0:Int),tvs nilV,tvs nilV,tvs nilV]).length = 4 ∧ rSapi_Schema.agg = true ∧ ∃ cs,((.agg #[(.int .i64 0),(.slice none 0 0),(.slice none 0 0),(.slice none 0 0)]) : Value) = .agg cs := ⟨fun _ _ => (.cons rfl (.cons ⟨rfl,rfl⟩ (.cons ⟨rfl,rfl⟩ (.cons ⟨rfl,rfl⟩ .nil)))),rfl,rfl,_,rfl⟩
theorem tok54 : TOk Tryz.prog 54 rI 8 (.int .i64 0) := ⟨⟨_,Tryz.underlying54,rfl⟩,by kernel_rfl,rfl⟩
structure Styping_Problem where
  Kind : Int
  Field : Int
  Rule : Int
  Code : Int
deriving Inhabited
@[reducible] def rStyping_Problem : Rep Styping_Problem := ⟨fun x => ([ti x.Kind,ti x.Field,ti x.Rule,ti x.Code]),4,true,fun _ => rfl,fun _ => (one_cons (one_tv rfl) (one_cons (one_tv rfl) (one_cons (one_tv rfl) (one_cons (one_tv rfl) one_nil)))),fun h => (by cases h)⟩
theorem tok63 : TOk Tryz.prog 63 rStyping_Problem 32 (.agg #[(.int .i64 0),(.int .i64 0),(.int .i64 0),(.int .i64 0)]) := ⟨⟨_,Tryz.underlying63,rfl⟩,by kernel_rfl,rfl⟩
theorem zc63 : ∀ F w,Cells (rStyping_Problem.cs (Styping_Problem.mk (0:Int) (0:Int) (0:Int) (0:Int))) F w ((.agg #[(.int .i64 0),(.int .i64 0),(.int .i64 0),(.int .i64 0)]) : Value).cells.toList := fun _ _ => (.cons rfl (.cons rfl (.cons rfl (.cons rfl .nil))))
theorem zv63 : (Tryz.prog.info? 63).bind (·.zero) = some (.agg #[(.int .i64 0),(.int .i64 0),(.int .i64 0),(.int .i64 0)]) := by kernel_rfl
theorem pl63 : ∀ w, ((#[⟨"Kind", 3, 0, false, "", "", 0⟩, ⟨"Field", 3, 1, false, "", "", 8⟩, ⟨"Rule", 3, 2, false, "", "", 16⟩, ⟨"Code", 54, 3, false, "", "", 24⟩] : Array Field).mapM (fun f => do pure (f.offset, ← sizeOf f.type) : Field → Sem (Nat × Nat))).run Tryz.prog w = .ok #[(0, 1), (1, 1), (2, 1), (3, 1)] w := fun _ => by kernel_rfl
@[reducible] def tF69 (p : (Sapi_Life → Option Bool)) : Ty := tfn Tryz.prog [] (A := Sapi_Life) (B := Bool) (fun x => [rSapi_Life.ty x]) (fun y => tb y) (p)
@[reducible] def rF69 : Rep (Sapi_Life → Option Bool) := ⟨fun p => [tF69 p],1,false,fun _ => rfl,fun _ => one_cons one_tfn one_nil,fun _ => rfl⟩
theorem tok69 : TOk Tryz.prog 69 rF69 8 .nilFunc := ⟨⟨_,Tryz.underlying69,rfl⟩,by kernel_rfl,rfl⟩
structure Styping_fault where
  is : Bool
  code : Int
deriving Inhabited
@[reducible] def rStyping_fault : Rep Styping_fault := ⟨fun x => ([tb x.is,ti x.code]),2,true,fun _ => rfl,fun _ => (one_cons (one_tv rfl) (one_cons (one_tv rfl) one_nil)),fun h => (by cases h)⟩
theorem tok72 : TOk Tryz.prog 72 rStyping_fault 16 (.agg #[(.bool false),(.int .i64 0)]) := ⟨⟨_,Tryz.underlying72,rfl⟩,by kernel_rfl,rfl⟩
theorem zc72 : ∀ F w,Cells (rStyping_fault.cs (Styping_fault.mk false (0:Int))) F w ((.agg #[(.bool false),(.int .i64 0)]) : Value).cells.toList := fun _ _ => (.cons rfl (.cons rfl .nil))
theorem zok72 : ∀ F w,(rStyping_fault.ty (Styping_fault.mk false (0:Int))).ok F w (.agg #[(.bool false),(.int .i64 0)]) := fun F w => ⟨_,rfl,zc72 F w⟩
theorem zv72 : (Tryz.prog.info? 72).bind (·.zero) = some (.agg #[(.bool false),(.int .i64 0)]) := by kernel_rfl
theorem pl72 : ∀ w, ((#[⟨"is", 4, 0, false, "", "diorama/typing", 0⟩, ⟨"code", 54, 1, false, "", "diorama/typing", 8⟩] : Array Field).mapM (fun f => do pure (f.offset, ← sizeOf f.type) : Field → Sem (Nat × Nat))).run Tryz.prog w = .ok #[(0, 1), (1, 1)] w := fun _ => by kernel_rfl
structure Styping_spot where
  x : Sapi_Schema
  kind : Int
  field : Int
  f : Sapi_Field
deriving Inhabited
@[reducible] def rStyping_spot : Rep Styping_spot := ⟨fun x => (rSapi_Schema.cs x.x ++ [ti x.kind,ti x.field] ++ rSapi_Field.cs x.f),14,true,fun _ => rfl,fun _ => (one_app (one_app (one_rep rSapi_Schema) (one_cons (one_tv rfl) (one_cons (one_tv rfl) one_nil))) (one_rep rSapi_Field)),fun h => (by cases h)⟩
theorem tok79 : TOk Tryz.prog 79 rStyping_spot 216 (.agg #[(.int .i64 0),(.slice none 0 0),(.slice none 0 0),(.slice none 0 0),(.int .i64 0),(.int .i64 0),(.string .empty),(.string .empty),(.string .empty),(.int .i64 0),(.int .i64 0),(.int .i64 0),(.slice none 0 0),(.slice none 0 0)]) := ⟨⟨_,Tryz.underlying79,rfl⟩,by kernel_rfl,rfl⟩
theorem zc79 : ∀ F w,Cells (rStyping_spot.cs (Styping_spot.mk (Sapi_Schema.mk (0:Int) ([] : (List Sapi_Kind)) ([] : (List Sapi_Life)) ([] : (List Sapi_Rule))) (0:Int) (0:Int) (Sapi_Field.mk ([] : Str) ([] : Str) ([] : Str) (0:Int) (0:Int) (0:Int) ([] : (List Str)) ([] : (List Int))))) F w ((.agg #[(.int .i64 0),(.slice none 0 0),(.slice none 0 0),(.slice none 0 0),(.int .i64 0),(.int .i64 0),(.string .empty),(.string .empty),(.string .empty),(.int .i64 0),(.int .i64 0),(.int .i64 0),(.slice none 0 0),(.slice none 0 0)]) : Value).cells.toList := fun _ _ => (.cons rfl (.cons ⟨none,0,rfl,Nat.le_refl _,fun h => (h rfl).elim⟩ (.cons ⟨none,0,rfl,Nat.le_refl _,fun h => (h rfl).elim⟩ (.cons ⟨none,0,rfl,Nat.le_refl _,fun h => (h rfl).elim⟩ (.cons rfl (.cons rfl (.cons rfl (.cons rfl (.cons rfl (.cons rfl (.cons rfl (.cons rfl (.cons ⟨none,0,rfl,Nat.le_refl _,fun h => (h rfl).elim⟩ (.cons ⟨none,0,rfl,Nat.le_refl _,fun h => (h rfl).elim⟩ .nil))))))))))))))
theorem zv79 : (Tryz.prog.info? 79).bind (·.zero) = some (.agg #[(.int .i64 0),(.slice none 0 0),(.slice none 0 0),(.slice none 0 0),(.int .i64 0),(.int .i64 0),(.string .empty),(.string .empty),(.string .empty),(.int .i64 0),(.int .i64 0),(.int .i64 0),(.slice none 0 0),(.slice none 0 0)]) := by kernel_rfl
theorem pl79 : ∀ w, ((#[⟨"x", 34, 0, false, "", "diorama/typing", 0⟩, ⟨"kind", 3, 4, false, "", "diorama/typing", 80⟩, ⟨"field", 3, 5, false, "", "diorama/typing", 88⟩, ⟨"f", 44, 6, false, "", "diorama/typing", 96⟩] : Array Field).mapM (fun f => do pure (f.offset, ← sizeOf f.type) : Field → Sem (Nat × Nat))).run Tryz.prog w = .ok #[(0, 4), (4, 1), (5, 1), (6, 8)] w := fun _ => by kernel_rfl
@[reducible] def tF74 (p : (Styping_spot → Option Int)) : Ty := tfn Tryz.prog [] (A := Styping_spot) (B := Int) (fun x => [rStyping_spot.ty x]) (fun y => ti y) (p)
@[reducible] def rF74 : Rep (Styping_spot → Option Int) := ⟨fun p => [tF74 p],1,false,fun _ => rfl,fun _ => one_cons one_tfn one_nil,fun _ => rfl⟩
@[reducible] def rFo74 : Rep (Option (Styping_spot → Option Int)) := ⟨fun p => [tfo (tF74) p],1,false,fun _ => rfl,fun _ => one_cons (one_tfo (fun _ => one_tfn)) one_nil,fun _ => rfl⟩
theorem tok74 : TOk Tryz.prog 74 rF74 8 .nilFunc := ⟨⟨_,Tryz.underlying74,rfl⟩,by kernel_rfl,rfl⟩
theorem tokFo74 : TOk Tryz.prog 74 rFo74 8 .nilFunc := ⟨⟨_,Tryz.underlying74,rfl⟩,by kernel_rfl,rfl⟩
structure SX_check where
  check : (Option (Styping_spot → Option Int))
instance : Inhabited SX_check := ⟨⟨none⟩⟩
@[reducible] def rSX_check : Rep SX_check := ⟨fun x => ([rFo74.ty x.check]),1,true,fun _ => rfl,fun _ => (one_cons (one_tfo (fun _ => one_tfn)) one_nil),fun h => (by cases h)⟩
theorem tok75 : TOk Tryz.prog 75 rSX_check 8 (.agg #[.nilFunc]) := ⟨⟨_,Tryz.underlying75,rfl⟩,by kernel_rfl,rfl⟩
theorem zc75 : ∀ F w,Cells (rSX_check.cs (SX_check.mk none)) F w ((.agg #[.nilFunc]) : Value).cells.toList := fun _ _ => (.cons rfl .nil)
theorem zok75 : ∀ F w,(rSX_check.ty (SX_check.mk none)).ok F w (.agg #[.nilFunc]) := fun F w => ⟨_,rfl,zc75 F w⟩
theorem zv75 : (Tryz.prog.info? 75).bind (·.zero) = some (.agg #[.nilFunc]) := by kernel_rfl
@[reducible] def tF90 (p : (Sapi_Kind → Option Bool)) : Ty := tfn Tryz.prog [] (A := Sapi_Kind) (B := Bool) (fun x => [rSapi_Kind.ty x]) (fun y => tb y) (p)
@[reducible] def rF90 : Rep (Sapi_Kind → Option Bool) := ⟨fun p => [tF90 p],1,false,fun _ => rfl,fun _ => one_cons one_tfn one_nil,fun _ => rfl⟩
theorem tok90 : TOk Tryz.prog 90 rF90 8 .nilFunc := ⟨⟨_,Tryz.underlying90,rfl⟩,by kernel_rfl,rfl⟩
@[reducible] def tF92 (p : (Sapi_Field → Option Bool)) : Ty := tfn Tryz.prog [] (A := Sapi_Field) (B := Bool) (fun x => [rSapi_Field.ty x]) (fun y => tb y) (p)
@[reducible] def rF92 : Rep (Sapi_Field → Option Bool) := ⟨fun p => [tF92 p],1,false,fun _ => rfl,fun _ => one_cons one_tfn one_nil,fun _ => rfl⟩
theorem tok92 : TOk Tryz.prog 92 rF92 8 .nilFunc := ⟨⟨_,Tryz.underlying92,rfl⟩,by kernel_rfl,rfl⟩
structure Sref09_Maker where
  L : (List Int)
  I : Int
deriving Inhabited
@[reducible] def rSref09_Maker : Rep Sref09_Maker := ⟨fun x => ([tsl rI x.L,ti x.I]),2,true,fun _ => rfl,fun _ => (one_cons one_tsl (one_cons (one_tv rfl) one_nil)),fun h => (by cases h)⟩
theorem zc95 : ∀ F w,Cells (rSref09_Maker.cs (Sref09_Maker.mk ([] : (List Int)) (0:Int))) F w ((.agg #[(.slice none 0 0),(.int .i64 0)]) : Value).cells.toList := fun _ _ => (.cons ⟨none,0,rfl,Nat.le_refl _,fun h => (h rfl).elim⟩ (.cons rfl .nil))
theorem zv95 : (Tryz.prog.info? 95).bind (·.zero) = some (.agg #[(.slice none 0 0),(.int .i64 0)]) := by kernel_rfl
theorem pl95 : ∀ w, ((#[⟨"L", 22, 0, false, "", "", 0⟩, ⟨"I", 3, 1, false, "", "", 24⟩] : Array Field).mapM (fun f => do pure (f.offset, ← sizeOf f.type) : Field → Sem (Nat × Nat))).run Tryz.prog w = .ok #[(0, 1), (1, 1)] w := fun _ => by kernel_rfl
@[reducible] def tF106 (p : (Int → Option Bool)) : Ty := tfn Tryz.prog [] (A := Int) (B := Bool) (fun x => [ti x]) (fun y => tb y) (p)
@[reducible] def rF106 : Rep (Int → Option Bool) := ⟨fun p => [tF106 p],1,false,fun _ => rfl,fun _ => one_cons one_tfn one_nil,fun _ => rfl⟩
@[reducible] def tF113 (p : (Sapi_Field → Sapi_Field → Option Bool)) : Ty := tfn Tryz.prog [] (A := Sapi_Field × Sapi_Field) (B := Bool) (fun x => [rSapi_Field.ty x.1,rSapi_Field.ty x.2]) (fun y => tb y) (fun x => p x.1 x.2)
@[reducible] def rF113 : Rep (Sapi_Field → Sapi_Field → Option Bool) := ⟨fun p => [tF113 p],1,false,fun _ => rfl,fun _ => one_cons one_tfn one_nil,fun _ => rfl⟩
@[reducible] def tF114 (p : (Sapi_Kind → Sapi_Kind → Option Bool)) : Ty := tfn Tryz.prog [] (A := Sapi_Kind × Sapi_Kind) (B := Bool) (fun x => [rSapi_Kind.ty x.1,rSapi_Kind.ty x.2]) (fun y => tb y) (fun x => p x.1 x.2)
@[reducible] def rF114 : Rep (Sapi_Kind → Sapi_Kind → Option Bool) := ⟨fun p => [tF114 p],1,false,fun _ => rfl,fun _ => one_cons one_tfn one_nil,fun _ => rfl⟩
@[reducible] def tF118 (p : (Sapi_Life → Sapi_Life → Option Bool)) : Ty := tfn Tryz.prog [] (A := Sapi_Life × Sapi_Life) (B := Bool) (fun x => [rSapi_Life.ty x.1,rSapi_Life.ty x.2]) (fun y => tb y) (fun x => p x.1 x.2)
@[reducible] def rF118 : Rep (Sapi_Life → Sapi_Life → Option Bool) := ⟨fun p => [tF118 p],1,false,fun _ => rfl,fun _ => one_cons one_tfn one_nil,fun _ => rfl⟩
@[reducible] def tF123 (p : (Sapi_Rule → Option Bool)) : Ty := tfn Tryz.prog [] (A := Sapi_Rule) (B := Bool) (fun x => [rSapi_Rule.ty x]) (fun y => tb y) (p)
@[reducible] def rF123 : Rep (Sapi_Rule → Option Bool) := ⟨fun p => [tF123 p],1,false,fun _ => rfl,fun _ => one_cons one_tfn one_nil,fun _ => rfl⟩
theorem tok123 : TOk Tryz.prog 123 rF123 8 .nilFunc := ⟨⟨_,Tryz.underlying123,rfl⟩,by kernel_rfl,rfl⟩
structure Sapi_Ratio where
  P : Int
  Q : Int
deriving Inhabited
@[reducible] def rSapi_Ratio : Rep Sapi_Ratio := ⟨fun x => ([ti x.P,ti x.Q]),2,true,fun _ => rfl,fun _ => (one_cons (one_tv rfl) (one_cons (one_tv rfl) one_nil)),fun h => (by cases h)⟩
theorem tok129 : TOk Tryz.prog 129 rSapi_Ratio 16 (.agg #[(.int .i64 0),(.int .i64 0)]) := ⟨⟨_,Tryz.underlying129,rfl⟩,by kernel_rfl,rfl⟩
theorem zc129 : ∀ F w,Cells (rSapi_Ratio.cs (Sapi_Ratio.mk (0:Int) (0:Int))) F w ((.agg #[(.int .i64 0),(.int .i64 0)]) : Value).cells.toList := fun _ _ => (.cons rfl (.cons rfl .nil))
theorem zok129 : ∀ F w,(rSapi_Ratio.ty (Sapi_Ratio.mk (0:Int) (0:Int))).ok F w (.agg #[(.int .i64 0),(.int .i64 0)]) := fun F w => ⟨_,rfl,zc129 F w⟩
theorem zv129 : (Tryz.prog.info? 129).bind (·.zero) = some (.agg #[(.int .i64 0),(.int .i64 0)]) := by kernel_rfl
theorem pl129 : ∀ w, ((#[⟨"P", 3, 0, false, "", "", 0⟩, ⟨"Q", 3, 1, false, "", "", 8⟩] : Array Field).mapM (fun f => do pure (f.offset, ← sizeOf f.type) : Field → Sem (Nat × Nat))).run Tryz.prog w = .ok #[(0, 1), (1, 1)] w := fun _ => by kernel_rfl
def eqSapi_Ratio (p q : Sapi_Ratio) : Bool := p.P == q.P && p.Q == q.Q
set_option maxHeartbeats 2000000 in
theorem eqRun129 (n : Nat) (a0 b0 : Int) (a1 b1 : Int) (w : World) : (Op.equalIn (n + 2) 129 (.agg #[.int .i64 a0,.int .i64 a1]) (.agg #[.int .i64 b0,.int .i64 b1])).run Tryz.prog w = .ok (a0 == b0 && a1 == b1) w := by
  have hs : Tryz.prog.stoodInHeld 129 = false := by kernel_rfl
  simp only [Op.equalIn,Sem.run_bind,run_underlying Tryz.underlying129,run_underlying Tryz.underlying3,Result.andThen_ok,run_program,hs]
  simp [run_underlying Tryz.underlying129,run_underlying Tryz.underlying3,part,isAgg,Op.equalIn,sizeOf,typeInfo]
  cases h0 : (a0 == b0) <;> cases h1 : (a1 == b1) <;> simp_all [Op.equalIn,run_underlying Tryz.underlying129,run_underlying Tryz.underlying3,part,isAgg,sB_beq]
theorem eqGuard129 : Tryz.prog.eqGuardType Tryz.prog.depth 129 = false := by kernel_rfl
theorem op_eql_t129 {Γ : List (Nat × Ty)} {d : Option Tmp} {ty t2 : TypeId} {pos : String} {af : Array Edge} {g : Option (Nat × Bool)} {x y : Operand} {p q : Sapi_Ratio} (hx : Fct Γ x (rSapi_Ratio.ty p)) (hy : Fct Γ y (rSapi_Ratio.ty q)) :
    OpJ Tryz.prog ⟨d,.binOp .eql 129 x y t2,ty,pos,af,g⟩ Γ [] [] (fun _ => []) (fun _ => tv (.bool (eqSapi_Ratio p q))) :=
  opj_bin (u := .agg #[.int .i64 p.P,.int .i64 p.Q]) (v := .agg #[.int .i64 q.P,.int .i64 q.Q]) (hx.weak fun _ _ _ h => by obtain ⟨us,hv,hc⟩ := h; rw [hv]; exact cells_vals hc [.int .i64 p.P,.int .i64 p.Q] rfl) (hy.weak fun _ _ _ h => by obtain ⟨us,hv,hc⟩ := h; rw [hv]; exact cells_vals hc [.int .i64 q.P,.int .i64 q.Q] rfl) fun w => by
    have := eqRun129 9998 p.P q.P p.Q q.Q w
    simp only [eqGuard,binOp,Op.equal,run_program,eqGuard129,Sem.run_bind,Result.andThen_ok]
    simp [Op.maxDepth,this,eqSapi_Ratio]
@[reducible] def tF142 (p : (Str → Option Bool)) : Ty := tfn Tryz.prog [] (A := Str) (B := Bool) (fun x => [tv (.string (sB x))]) (fun y => tb y) (p)
@[reducible] def rF142 : Rep (Str → Option Bool) := ⟨fun p => [tF142 p],1,false,fun _ => rfl,fun _ => one_cons one_tfn one_nil,fun _ => rfl⟩
theorem tok142 : TOk Tryz.prog 142 rF142 8 .nilFunc := ⟨⟨_,Tryz.underlying142,rfl⟩,by kernel_rfl,rfl⟩
@[reducible] def tF147 (p : (A2_Int → Option Bool)) : Ty := tfn Tryz.prog [] (A := A2_Int) (B := Bool) (fun x => [rA2_Int.ty x]) (fun y => tb y) (p)
@[reducible] def rF147 : Rep (A2_Int → Option Bool) := ⟨fun p => [tF147 p],1,false,fun _ => rfl,fun _ => one_cons one_tfn one_nil,fun _ => rfl⟩
theorem tok147 : TOk Tryz.prog 147 rF147 8 .nilFunc := ⟨⟨_,Tryz.underlying147,rfl⟩,by kernel_rfl,rfl⟩
@[reducible] def tF170 (p : (Int → Option Bool)) : Ty := tfn Tryz.prog [] (A := Int) (B := Bool) (fun x => [tv (.int .u8 x)]) (fun y => tb y) (p)
@[reducible] def rF170 : Rep (Int → Option Bool) := ⟨fun p => [tF170 p],1,false,fun _ => rfl,fun _ => one_cons one_tfn one_nil,fun _ => rfl⟩
structure A2_Bool where
  a0 : Bool
  a1 : Bool
deriving Inhabited
@[reducible] def rA2_Bool : Rep A2_Bool := ⟨fun x => ([tb x.a0,tb x.a1]),2,true,fun _ => rfl,fun _ => (one_cons (one_tv rfl) (one_cons (one_tv rfl) one_nil)),fun h => (by cases h)⟩
theorem tok180 : TOk Tryz.prog 180 rA2_Bool 2 (.agg #[(.bool false),(.bool false)]) := ⟨⟨_,Tryz.underlying180,rfl⟩,by kernel_rfl,rfl⟩
theorem zc180 : ∀ F w,Cells (rA2_Bool.cs (A2_Bool.mk false false)) F w ((.agg #[(.bool false),(.bool false)]) : Value).cells.toList := fun _ _ => (.cons rfl (.cons rfl .nil))
theorem zok180 : ∀ F w,(rA2_Bool.ty (A2_Bool.mk false false)).ok F w (.agg #[(.bool false),(.bool false)]) := fun F w => ⟨_,rfl,zc180 F w⟩
theorem zv180 : (Tryz.prog.info? 180).bind (·.zero) = some (.agg #[(.bool false),(.bool false)]) := by kernel_rfl
def eqA2_Bool (p q : A2_Bool) : Bool := p.a0 == q.a0 && p.a1 == q.a1
set_option maxHeartbeats 2000000 in
theorem eqRun180 (n : Nat) (a0 b0 : Bool) (a1 b1 : Bool) (w : World) : (Op.equalIn (n + 2) 180 (.agg #[.bool a0,.bool a1]) (.agg #[.bool b0,.bool b1])).run Tryz.prog w = .ok (a0 == b0 && a1 == b1) w := by
  obtain ⟨ie,hie,_,hse,_⟩ := tok4.info
  have hse1 : ie.size = 1 := hse
  have e3 : ∀ x y : Bool,(Op.equalIn (n + 1) 4 (.bool x) (.bool y)).run Tryz.prog w = .ok (x == y) w := fun x y => by simp [Op.equalIn,run_underlying Tryz.underlying4]
  have pt : ∀ (xs : Array Value) (i : Nat) (v : Value),xs[i]? = some v → (part 4 xs i).run Tryz.prog w = .ok v w := fun xs i v h => by simp [part,isAgg,run_underlying Tryz.underlying4,h]
  have p0 : ∀ u0 u1 : Bool,(part 4 #[.bool u0,.bool u1] 0).run Tryz.prog w = .ok (.bool u0) w := fun _ _ => pt _ 0 _ rfl
  have p1 : ∀ u0 u1 : Bool,(part 4 #[.bool u0,.bool u1] 1).run Tryz.prog w = .ok (.bool u1) w := fun _ _ => pt _ 1 _ rfl
  unfold Op.equalIn
  simp only [Sem.run_bind,run_underlying Tryz.underlying180,Result.andThen_ok,sizeOf,typeInfo,run_program,hie,Sem.run_pure,hse1,Nat.mul_one]
  simp [List.range',p0,p1,e3]
  by_cases h0 : a0 = b0 <;> by_cases h1 : a1 = b1 <;> simp [h0,h1,p0,p1,e3]
theorem eqGuard180 : Tryz.prog.eqGuardType Tryz.prog.depth 180 = false := by kernel_rfl
theorem op_neq_t180 {Γ : List (Nat × Ty)} {d : Option Tmp} {ty t2 : TypeId} {pos : String} {af : Array Edge} {g : Option (Nat × Bool)} {x y : Operand} {p q : A2_Bool} (hx : Fct Γ x (rA2_Bool.ty p)) (hy : Fct Γ y (rA2_Bool.ty q)) :
    OpJ Tryz.prog ⟨d,.binOp .neq 180 x y t2,ty,pos,af,g⟩ Γ [] [] (fun _ => []) (fun _ => tv (.bool (!eqA2_Bool p q))) :=
  opj_bin (u := .agg #[.bool p.a0,.bool p.a1]) (v := .agg #[.bool q.a0,.bool q.a1]) (hx.weak fun _ _ _ h => by obtain ⟨us,hv,hc⟩ := h; rw [hv]; exact cells_vals hc [.bool p.a0,.bool p.a1] rfl) (hy.weak fun _ _ _ h => by obtain ⟨us,hv,hc⟩ := h; rw [hv]; exact cells_vals hc [.bool q.a0,.bool q.a1] rfl) fun w => by
    have := eqRun180 9998 p.a0 q.a0 p.a1 q.a1 w
    simp only [eqGuard,binOp,Op.equal,run_program,eqGuard180,Sem.run_bind,Result.andThen_ok]
    simp [Op.maxDepth,this,eqA2_Bool]
theorem tokV22 : TOk Tryz.prog 22 rVal 24 (.slice none 0 0) := ⟨⟨_,Tryz.underlying22,rfl⟩,by kernel_rfl,rfl⟩
theorem tokV28 : TOk Tryz.prog 28 rVal 24 (.slice none 0 0) := ⟨⟨_,Tryz.underlying28,rfl⟩,by kernel_rfl,rfl⟩
theorem tokV30 : TOk Tryz.prog 30 rVal 24 (.slice none 0 0) := ⟨⟨_,Tryz.underlying30,rfl⟩,by kernel_rfl,rfl⟩
theorem tokV31 : TOk Tryz.prog 31 rVal 24 (.slice none 0 0) := ⟨⟨_,Tryz.underlying31,rfl⟩,by kernel_rfl,rfl⟩
theorem tokV32 : TOk Tryz.prog 32 rVal 24 (.slice none 0 0) := ⟨⟨_,Tryz.underlying32,rfl⟩,by kernel_rfl,rfl⟩
theorem tokV45 : TOk Tryz.prog 45 rVal 24 (.slice none 0 0) := ⟨⟨_,Tryz.underlying45,rfl⟩,by kernel_rfl,rfl⟩
theorem tokV65 : TOk Tryz.prog 65 rVal 24 (.slice none 0 0) := ⟨⟨_,Tryz.underlying65,rfl⟩,by kernel_rfl,rfl⟩
theorem tokL105 : TOk Tryz.prog 105 rClo 8 .nilFunc := ⟨⟨_,Tryz.underlying105,rfl⟩,by kernel_rfl,rfl⟩
theorem zokL105 : ∀ F w,(rClo.ty none).ok F w .nilFunc := fun _ _ => rfl
theorem tokL182 : TOk Tryz.prog 182 rClo 8 .nilFunc := ⟨⟨_,Tryz.underlying182,rfl⟩,by kernel_rfl,rfl⟩
theorem zokL182 : ∀ F w,(rClo.ty none).ok F w .nilFunc := fun _ _ => rfl
theorem fld34_0 : FieldAt Tryz.prog 34 0 0 := FieldAt.mk Tryz.underlying34 rfl rfl tok3 (by decide)
theorem fld34_1 : FieldAt Tryz.prog 34 1 1 := FieldAt.mk Tryz.underlying34 rfl rfl tok30 (by decide)
theorem fld34_2 : FieldAt Tryz.prog 34 2 2 := FieldAt.mk Tryz.underlying34 rfl rfl tok31 (by decide)
theorem fld34_3 : FieldAt Tryz.prog 34 3 3 := FieldAt.mk Tryz.underlying34 rfl rfl tok32 (by decide)
theorem fld44_0 : FieldAt Tryz.prog 44 0 0 := FieldAt.mk Tryz.underlying44 rfl rfl tok9 (by decide)
theorem fld44_1 : FieldAt Tryz.prog 44 1 1 := FieldAt.mk Tryz.underlying44 rfl rfl tok9 (by decide)
theorem fld44_2 : FieldAt Tryz.prog 44 2 2 := FieldAt.mk Tryz.underlying44 rfl rfl tok9 (by decide)
theorem fld44_3 : FieldAt Tryz.prog 44 3 3 := FieldAt.mk Tryz.underlying44 rfl rfl tok3 (by decide)
theorem fld44_4 : FieldAt Tryz.prog 44 4 4 := FieldAt.mk Tryz.underlying44 rfl rfl tok3 (by decide)
theorem fld44_5 : FieldAt Tryz.prog 44 5 5 := FieldAt.mk Tryz.underlying44 rfl rfl tok3 (by decide)
theorem fld44_6 : FieldAt Tryz.prog 44 6 6 := FieldAt.mk Tryz.underlying44 rfl rfl tok38 (by decide)
theorem fld44_7 : FieldAt Tryz.prog 44 7 7 := FieldAt.mk Tryz.underlying44 rfl rfl tok22 (by decide)
theorem fld47_0 : FieldAt Tryz.prog 47 0 0 := FieldAt.mk Tryz.underlying47 rfl rfl tok9 (by decide)
theorem fld47_1 : FieldAt Tryz.prog 47 1 1 := FieldAt.mk Tryz.underlying47 rfl rfl tok3 (by decide)
theorem fld47_2 : FieldAt Tryz.prog 47 2 2 := FieldAt.mk Tryz.underlying47 rfl rfl tok3 (by decide)
theorem fld47_3 : FieldAt Tryz.prog 47 3 3 := FieldAt.mk Tryz.underlying47 rfl rfl tok45 (by decide)
theorem fld67_0 : FieldAt Tryz.prog 67 0 0 := FieldAt.mk Tryz.underlying67 rfl rfl tok9 (by decide)
theorem fld67_1 : FieldAt Tryz.prog 67 1 1 := FieldAt.mk Tryz.underlying67 rfl rfl tok38 (by decide)
theorem fld67_2 : FieldAt Tryz.prog 67 2 2 := FieldAt.mk Tryz.underlying67 rfl rfl tok65 (by decide)
theorem fld72_0 : FieldAt Tryz.prog 72 0 0 := FieldAt.mk Tryz.underlying72 rfl rfl tok4 (by decide)
theorem fld72_1 : FieldAt Tryz.prog 72 1 1 := FieldAt.mk Tryz.underlying72 rfl rfl tok54 (by decide)
theorem fld75_0 : FieldAt Tryz.prog 75 0 0 := FieldAt.mk Tryz.underlying75 rfl rfl tok74 (by decide)
theorem fld79_0 : FieldAt Tryz.prog 79 0 0 := FieldAt.mk Tryz.underlying79 rfl rfl tok34 (by decide)
theorem fld79_1 : FieldAt Tryz.prog 79 1 4 := FieldAt.mk Tryz.underlying79 rfl rfl tok3 (by decide)
theorem fld79_2 : FieldAt Tryz.prog 79 2 5 := FieldAt.mk Tryz.underlying79 rfl rfl tok3 (by decide)
theorem fld79_3 : FieldAt Tryz.prog 79 3 6 := FieldAt.mk Tryz.underlying79 rfl rfl tok44 (by decide)
theorem fld95_0 : FieldAt Tryz.prog 95 0 0 := FieldAt.mk Tryz.underlying95 rfl rfl tok22 (by decide)
theorem fld95_1 : FieldAt Tryz.prog 95 1 1 := FieldAt.mk Tryz.underlying95 rfl rfl tok3 (by decide)
theorem fld100_0 : FieldAt Tryz.prog 100 0 0 := FieldAt.mk Tryz.underlying100 rfl rfl tok9 (by decide)
theorem fld100_1 : FieldAt Tryz.prog 100 1 1 := FieldAt.mk Tryz.underlying100 rfl rfl tok9 (by decide)
theorem fld100_2 : FieldAt Tryz.prog 100 2 2 := FieldAt.mk Tryz.underlying100 rfl rfl tok9 (by decide)
theorem fld100_3 : FieldAt Tryz.prog 100 3 3 := FieldAt.mk Tryz.underlying100 rfl rfl tok9 (by decide)
theorem fld100_4 : FieldAt Tryz.prog 100 4 4 := FieldAt.mk Tryz.underlying100 rfl rfl tok3 (by decide)
theorem fld129_0 : FieldAt Tryz.prog 129 0 0 := FieldAt.mk Tryz.underlying129 rfl rfl tok3 (by decide)
theorem fld129_1 : FieldAt Tryz.prog 129 1 1 := FieldAt.mk Tryz.underlying129 rfl rfl tok3 (by decide)
theorem call10 : Callable Tryz.prog 10 := ⟨⟨_,Tryz.func10,by kernel_rfl,rfl⟩⟩
theorem call15 : Callable Tryz.prog 15 := ⟨⟨_,Tryz.func15,by kernel_rfl,rfl⟩⟩
theorem call17 : Callable Tryz.prog 17 := ⟨⟨_,Tryz.func17,by kernel_rfl,rfl⟩⟩
theorem call18 : Callable Tryz.prog 18 := ⟨⟨_,Tryz.func18,by kernel_rfl,rfl⟩⟩
theorem call20 : Callable Tryz.prog 20 := ⟨⟨_,Tryz.func20,by kernel_rfl,rfl⟩⟩
theorem call22 : Callable Tryz.prog 22 := ⟨⟨_,Tryz.func22,by kernel_rfl,rfl⟩⟩
theorem call23 : Callable Tryz.prog 23 := ⟨⟨_,Tryz.func23,by kernel_rfl,rfl⟩⟩
theorem call24 : Callable Tryz.prog 24 := ⟨⟨_,Tryz.func24,by kernel_rfl,rfl⟩⟩
theorem call25 : Callable Tryz.prog 25 := ⟨⟨_,Tryz.func25,by kernel_rfl,rfl⟩⟩
theorem call26 : Callable Tryz.prog 26 := ⟨⟨_,Tryz.func26,by kernel_rfl,rfl⟩⟩
theorem call27 : Callable Tryz.prog 27 := ⟨⟨_,Tryz.func27,by kernel_rfl,rfl⟩⟩
theorem call28 : Callable Tryz.prog 28 := ⟨⟨_,Tryz.func28,by kernel_rfl,rfl⟩⟩
theorem call29 : Callable Tryz.prog 29 := ⟨⟨_,Tryz.func29,by kernel_rfl,rfl⟩⟩
theorem call32 : Callable Tryz.prog 32 := ⟨⟨_,Tryz.func32,by kernel_rfl,rfl⟩⟩
theorem call33 : Callable Tryz.prog 33 := ⟨⟨_,Tryz.func33,by kernel_rfl,rfl⟩⟩
theorem call34 : Callable Tryz.prog 34 := ⟨⟨_,Tryz.func34,by kernel_rfl,rfl⟩⟩
theorem call35 : Callable Tryz.prog 35 := ⟨⟨_,Tryz.func35,by kernel_rfl,rfl⟩⟩
theorem call36 : Callable Tryz.prog 36 := ⟨⟨_,Tryz.func36,by kernel_rfl,rfl⟩⟩
theorem call37 : Callable Tryz.prog 37 := ⟨⟨_,Tryz.func37,by kernel_rfl,rfl⟩⟩
theorem call44 : Callable Tryz.prog 44 := ⟨⟨_,Tryz.func44,by kernel_rfl,rfl⟩⟩
theorem call45 : Callable Tryz.prog 45 := ⟨⟨_,Tryz.func45,by kernel_rfl,rfl⟩⟩
theorem call47 : Callable Tryz.prog 47 := ⟨⟨_,Tryz.func47,by kernel_rfl,rfl⟩⟩
theorem call48 : Callable Tryz.prog 48 := ⟨⟨_,Tryz.func48,by kernel_rfl,rfl⟩⟩
theorem call49 : Callable Tryz.prog 49 := ⟨⟨_,Tryz.func49,by kernel_rfl,rfl⟩⟩
theorem call50 : Callable Tryz.prog 50 := ⟨⟨_,Tryz.func50,by kernel_rfl,rfl⟩⟩
theorem call51 : Callable Tryz.prog 51 := ⟨⟨_,Tryz.func51,by kernel_rfl,rfl⟩⟩
theorem call52 : Callable Tryz.prog 52 := ⟨⟨_,Tryz.func52,by kernel_rfl,rfl⟩⟩
theorem call53 : Callable Tryz.prog 53 := ⟨⟨_,Tryz.func53,by kernel_rfl,rfl⟩⟩
theorem call54 : Callable Tryz.prog 54 := ⟨⟨_,Tryz.func54,by kernel_rfl,rfl⟩⟩
theorem call55 : Callable Tryz.prog 55 := ⟨⟨_,Tryz.func55,by kernel_rfl,rfl⟩⟩
theorem call56 : Callable Tryz.prog 56 := ⟨⟨_,Tryz.func56,by kernel_rfl,rfl⟩⟩
theorem call57 : Callable Tryz.prog 57 := ⟨⟨_,Tryz.func57,by kernel_rfl,rfl⟩⟩
theorem call58 : Callable Tryz.prog 58 := ⟨⟨_,Tryz.func58,by kernel_rfl,rfl⟩⟩
theorem call59 : Callable Tryz.prog 59 := ⟨⟨_,Tryz.func59,by kernel_rfl,rfl⟩⟩
theorem call60 : Callable Tryz.prog 60 := ⟨⟨_,Tryz.func60,by kernel_rfl,rfl⟩⟩
theorem call61 : Callable Tryz.prog 61 := ⟨⟨_,Tryz.func61,by kernel_rfl,rfl⟩⟩
theorem call62 : Callable Tryz.prog 62 := ⟨⟨_,Tryz.func62,by kernel_rfl,rfl⟩⟩
theorem call63 : Callable Tryz.prog 63 := ⟨⟨_,Tryz.func63,by kernel_rfl,rfl⟩⟩
theorem call64 : Callable Tryz.prog 64 := ⟨⟨_,Tryz.func64,by kernel_rfl,rfl⟩⟩
theorem call65 : Callable Tryz.prog 65 := ⟨⟨_,Tryz.func65,by kernel_rfl,rfl⟩⟩
theorem call66 : Callable Tryz.prog 66 := ⟨⟨_,Tryz.func66,by kernel_rfl,rfl⟩⟩
theorem call67 : Callable Tryz.prog 67 := ⟨⟨_,Tryz.func67,by kernel_rfl,rfl⟩⟩
theorem call68 : Callable Tryz.prog 68 := ⟨⟨_,Tryz.func68,by kernel_rfl,rfl⟩⟩
theorem call69 : Callable Tryz.prog 69 := ⟨⟨_,Tryz.func69,by kernel_rfl,rfl⟩⟩
theorem call70 : Callable Tryz.prog 70 := ⟨⟨_,Tryz.func70,by kernel_rfl,rfl⟩⟩
theorem call71 : Callable Tryz.prog 71 := ⟨⟨_,Tryz.func71,by kernel_rfl,rfl⟩⟩
theorem call72 : Callable Tryz.prog 72 := ⟨⟨_,Tryz.func72,by kernel_rfl,rfl⟩⟩
theorem call73 : Callable Tryz.prog 73 := ⟨⟨_,Tryz.func73,by kernel_rfl,rfl⟩⟩
theorem call74 : Callable Tryz.prog 74 := ⟨⟨_,Tryz.func74,by kernel_rfl,rfl⟩⟩
theorem call75 : Callable Tryz.prog 75 := ⟨⟨_,Tryz.func75,by kernel_rfl,rfl⟩⟩
theorem call76 : Callable Tryz.prog 76 := ⟨⟨_,Tryz.func76,by kernel_rfl,rfl⟩⟩
theorem call77 : Callable Tryz.prog 77 := ⟨⟨_,Tryz.func77,by kernel_rfl,rfl⟩⟩
theorem call78 : Callable Tryz.prog 78 := ⟨⟨_,Tryz.func78,by kernel_rfl,rfl⟩⟩
theorem call79 : Callable Tryz.prog 79 := ⟨⟨_,Tryz.func79,by kernel_rfl,rfl⟩⟩
theorem call80 : Callable Tryz.prog 80 := ⟨⟨_,Tryz.func80,by kernel_rfl,rfl⟩⟩
theorem call81 : Callable Tryz.prog 81 := ⟨⟨_,Tryz.func81,by kernel_rfl,rfl⟩⟩
theorem call82 : Callable Tryz.prog 82 := ⟨⟨_,Tryz.func82,by kernel_rfl,rfl⟩⟩
theorem call83 : Callable Tryz.prog 83 := ⟨⟨_,Tryz.func83,by kernel_rfl,rfl⟩⟩
theorem call84 : Callable Tryz.prog 84 := ⟨⟨_,Tryz.func84,by kernel_rfl,rfl⟩⟩
theorem call86 : Callable Tryz.prog 86 := ⟨⟨_,Tryz.func86,by kernel_rfl,rfl⟩⟩
theorem call87 : Callable Tryz.prog 87 := ⟨⟨_,Tryz.func87,by kernel_rfl,rfl⟩⟩
theorem call88 : Callable Tryz.prog 88 := ⟨⟨_,Tryz.func88,by kernel_rfl,rfl⟩⟩
theorem call95 : Callable Tryz.prog 95 := ⟨⟨_,Tryz.func95,by kernel_rfl,rfl⟩⟩
theorem call96 : Callable Tryz.prog 96 := ⟨⟨_,Tryz.func96,by kernel_rfl,rfl⟩⟩
theorem call97 : Callable Tryz.prog 97 := ⟨⟨_,Tryz.func97,by kernel_rfl,rfl⟩⟩
theorem call98 : Callable Tryz.prog 98 := ⟨⟨_,Tryz.func98,by kernel_rfl,rfl⟩⟩
theorem call99 : Callable Tryz.prog 99 := ⟨⟨_,Tryz.func99,by kernel_rfl,rfl⟩⟩
theorem call100 : Callable Tryz.prog 100 := ⟨⟨_,Tryz.func100,by kernel_rfl,rfl⟩⟩
theorem call101 : Callable Tryz.prog 101 := ⟨⟨_,Tryz.func101,by kernel_rfl,rfl⟩⟩
theorem call102 : Callable Tryz.prog 102 := ⟨⟨_,Tryz.func102,by kernel_rfl,rfl⟩⟩
theorem call103 : Callable Tryz.prog 103 := ⟨⟨_,Tryz.func103,by kernel_rfl,rfl⟩⟩
theorem call104 : Callable Tryz.prog 104 := ⟨⟨_,Tryz.func104,by kernel_rfl,rfl⟩⟩
theorem call105 : Callable Tryz.prog 105 := ⟨⟨_,Tryz.func105,by kernel_rfl,rfl⟩⟩
theorem call106 : Callable Tryz.prog 106 := ⟨⟨_,Tryz.func106,by kernel_rfl,rfl⟩⟩
theorem call107 : Callable Tryz.prog 107 := ⟨⟨_,Tryz.func107,by kernel_rfl,rfl⟩⟩
theorem call108 : Callable Tryz.prog 108 := ⟨⟨_,Tryz.func108,by kernel_rfl,rfl⟩⟩
theorem call109 : Callable Tryz.prog 109 := ⟨⟨_,Tryz.func109,by kernel_rfl,rfl⟩⟩
theorem call110 : Callable Tryz.prog 110 := ⟨⟨_,Tryz.func110,by kernel_rfl,rfl⟩⟩
theorem call111 : Callable Tryz.prog 111 := ⟨⟨_,Tryz.func111,by kernel_rfl,rfl⟩⟩
theorem call112 : Callable Tryz.prog 112 := ⟨⟨_,Tryz.func112,by kernel_rfl,rfl⟩⟩
theorem call113 : Callable Tryz.prog 113 := ⟨⟨_,Tryz.func113,by kernel_rfl,rfl⟩⟩
theorem call115 : Callable Tryz.prog 115 := ⟨⟨_,Tryz.func115,by kernel_rfl,rfl⟩⟩
theorem call116 : Callable Tryz.prog 116 := ⟨⟨_,Tryz.func116,by kernel_rfl,rfl⟩⟩
theorem call117 : Callable Tryz.prog 117 := ⟨⟨_,Tryz.func117,by kernel_rfl,rfl⟩⟩
theorem call119 : Callable Tryz.prog 119 := ⟨⟨_,Tryz.func119,by kernel_rfl,rfl⟩⟩
theorem call120 : Callable Tryz.prog 120 := ⟨⟨_,Tryz.func120,by kernel_rfl,rfl⟩⟩
theorem call121 : Callable Tryz.prog 121 := ⟨⟨_,Tryz.func121,by kernel_rfl,rfl⟩⟩
theorem call122 : Callable Tryz.prog 122 := ⟨⟨_,Tryz.func122,by kernel_rfl,rfl⟩⟩
theorem call123 : Callable Tryz.prog 123 := ⟨⟨_,Tryz.func123,by kernel_rfl,rfl⟩⟩
theorem call124 : Callable Tryz.prog 124 := ⟨⟨_,Tryz.func124,by kernel_rfl,rfl⟩⟩
theorem call133 : Callable Tryz.prog 133 := ⟨⟨_,Tryz.func133,by kernel_rfl,rfl⟩⟩
theorem call134 : Callable Tryz.prog 134 := ⟨⟨_,Tryz.func134,by kernel_rfl,rfl⟩⟩
theorem call135 : Callable Tryz.prog 135 := ⟨⟨_,Tryz.func135,by kernel_rfl,rfl⟩⟩
theorem call136 : Callable Tryz.prog 136 := ⟨⟨_,Tryz.func136,by kernel_rfl,rfl⟩⟩
theorem call137 : Callable Tryz.prog 137 := ⟨⟨_,Tryz.func137,by kernel_rfl,rfl⟩⟩
theorem call138 : Callable Tryz.prog 138 := ⟨⟨_,Tryz.func138,by kernel_rfl,rfl⟩⟩
theorem call139 : Callable Tryz.prog 139 := ⟨⟨_,Tryz.func139,by kernel_rfl,rfl⟩⟩
theorem call140 : Callable Tryz.prog 140 := ⟨⟨_,Tryz.func140,by kernel_rfl,rfl⟩⟩
theorem call141 : Callable Tryz.prog 141 := ⟨⟨_,Tryz.func141,by kernel_rfl,rfl⟩⟩
theorem call142 : Callable Tryz.prog 142 := ⟨⟨_,Tryz.func142,by kernel_rfl,rfl⟩⟩
theorem call143 : Callable Tryz.prog 143 := ⟨⟨_,Tryz.func143,by kernel_rfl,rfl⟩⟩
theorem call144 : Callable Tryz.prog 144 := ⟨⟨_,Tryz.func144,by kernel_rfl,rfl⟩⟩
theorem call145 : Callable Tryz.prog 145 := ⟨⟨_,Tryz.func145,by kernel_rfl,rfl⟩⟩
theorem call149 : Callable Tryz.prog 149 := ⟨⟨_,Tryz.func149,by kernel_rfl,rfl⟩⟩
theorem call150 : Callable Tryz.prog 150 := ⟨⟨_,Tryz.func150,by kernel_rfl,rfl⟩⟩
theorem call151 : Callable Tryz.prog 151 := ⟨⟨_,Tryz.func151,by kernel_rfl,rfl⟩⟩
theorem call152 : Callable Tryz.prog 152 := ⟨⟨_,Tryz.func152,by kernel_rfl,rfl⟩⟩
theorem call153 : Callable Tryz.prog 153 := ⟨⟨_,Tryz.func153,by kernel_rfl,rfl⟩⟩
theorem call160 : Callable Tryz.prog 160 := ⟨⟨_,Tryz.func160,by kernel_rfl,rfl⟩⟩
theorem call161 : Callable Tryz.prog 161 := ⟨⟨_,Tryz.func161,by kernel_rfl,rfl⟩⟩
theorem call162 : Callable Tryz.prog 162 := ⟨⟨_,Tryz.func162,by kernel_rfl,rfl⟩⟩
theorem call165 : Callable Tryz.prog 165 := ⟨⟨_,Tryz.func165,by kernel_rfl,rfl⟩⟩
theorem call193 : Callable Tryz.prog 193 := ⟨⟨_,Tryz.func193,by kernel_rfl,rfl⟩⟩
theorem call196 : Callable Tryz.prog 196 := ⟨⟨_,Tryz.func196,by kernel_rfl,rfl⟩⟩
theorem call197 : Callable Tryz.prog 197 := ⟨⟨_,Tryz.func197,by kernel_rfl,rfl⟩⟩
theorem call198 : Callable Tryz.prog 198 := ⟨⟨_,Tryz.func198,by kernel_rfl,rfl⟩⟩
theorem call199 : Callable Tryz.prog 199 := ⟨⟨_,Tryz.func199,by kernel_rfl,rfl⟩⟩
theorem call200 : Callable Tryz.prog 200 := ⟨⟨_,Tryz.func200,by kernel_rfl,rfl⟩⟩
theorem call201 : Callable Tryz.prog 201 := ⟨⟨_,Tryz.func201,by kernel_rfl,rfl⟩⟩
theorem call202 : Callable Tryz.prog 202 := ⟨⟨_,Tryz.func202,by kernel_rfl,rfl⟩⟩
theorem call203 : Callable Tryz.prog 203 := ⟨⟨_,Tryz.func203,by kernel_rfl,rfl⟩⟩
theorem call204 : Callable Tryz.prog 204 := ⟨⟨_,Tryz.func204,by kernel_rfl,rfl⟩⟩
abbrev zz0 : Sapi_Field := (Sapi_Field.mk ([] : Str) ([] : Str) ([] : Str) (0:Int) (0:Int) (0:Int) ([] : (List Str)) ([] : (List Int)))
abbrev zz1 : Sapi_Kind := (Sapi_Kind.mk ([] : Str) (0:Int) (0:Int) ([] : (List Sapi_Field)))
abbrev zz2 : Sapi_Life := (Sapi_Life.mk ([] : Str) ([] : (List Str)) ([] : (List A2_Int)))
abbrev zz3 : Sapi_Rule := (Sapi_Rule.mk ([] : Str) ([] : Str) ([] : Str) ([] : Str) (0:Int))
abbrev zz4 : Sapi_Schema := (Sapi_Schema.mk (0:Int) ([] : (List Sapi_Kind)) ([] : (List Sapi_Life)) ([] : (List Sapi_Rule)))
abbrev ud100 := Tryz.underlying100
abbrev ud129 := Tryz.underlying129
abbrev ud135 := Tryz.underlying135
abbrev ud158 := Tryz.underlying158
abbrev ud181 := Tryz.underlying181
abbrev ud22 := Tryz.underlying22
abbrev ud28 := Tryz.underlying28
abbrev ud3 := Tryz.underlying3
abbrev ud30 := Tryz.underlying30
abbrev ud31 := Tryz.underlying31
abbrev ud32 := Tryz.underlying32
abbrev ud34 := Tryz.underlying34
abbrev ud38 := Tryz.underlying38
abbrev ud44 := Tryz.underlying44
abbrev ud45 := Tryz.underlying45
abbrev ud53 := Tryz.underlying53
abbrev ud65 := Tryz.underlying65
abbrev ud72 := Tryz.underlying72
abbrev ud9 := Tryz.underlying9
abbrev ud98 := Tryz.underlying98

end Go.Proofs.YthdfmpocknmleaaGreatDoor

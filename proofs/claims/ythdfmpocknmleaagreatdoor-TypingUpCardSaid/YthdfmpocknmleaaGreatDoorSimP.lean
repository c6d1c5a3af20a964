/- The logic's sixteenth part: strings, arrays, values of interfaces, function values, what is given away in a region. No condition. -/
import Derived.Test.YthdfmpocknmleaaGreatDoorSimN
import Derived.Lib.ConvBytes
namespace Go.Sim

abbrev Str := List UInt8
def sB (l : Str) : ByteArray := ⟨l.toArray⟩
theorem ba_size (b : ByteArray) : b.size = b.data.toList.length := rfl
theorem sB_size (l : Str) : (sB l).size = l.length := by simp [sB, ByteArray.size]
theorem ba_toListLoop (b : ByteArray) : ∀ (n i : Nat) (r : List UInt8), b.size - i = n → i ≤ b.size → ByteArray.toList.loop b i r = r.reverse ++ b.data.toList.drop i := by
  intro n
  induction n with
  | zero =>
    intro i r h hi
    unfold ByteArray.toList.loop
    have : ¬ i < b.size := by omega
    rw [if_neg this]
    have h2 : b.data.toList.length ≤ i := by rw [← ba_size]; omega
    rw [List.drop_eq_nil_of_le h2, List.append_nil]
  | succ n ih =>
    intro i r h hi
    unfold ByteArray.toList.loop
    have hlt : i < b.size := by omega
    have hlt' : i < b.data.toList.length := hlt
    rw [if_pos hlt, ih (i+1) _ (by omega) (by omega), List.drop_eq_getElem_cons hlt']
    have : b.get! i = b.data.toList[i] := by
      show b.data[i]! = _
      rw [getElem!_pos b.data i hlt]; rfl
    rw [this]; simp
theorem sB_toList (l : Str) : (sB l).toList = l := by
  unfold ByteArray.toList
  rw [ba_toListLoop (sB l) _ 0 [] rfl (Nat.zero_le _)]
  rfl
theorem sB_append (a b : Str) : sB a ++ sB b = sB (a ++ b) := by
  apply ByteArray.ext
  simp [sB]
theorem sB_extract (l : Str) (i j : Nat) : (sB l).extract i j = sB ((l.drop i).take (j - i)) := by
  apply ByteArray.ext
  simp [sB, List.extract_toArray]
theorem sB_get (l : Str) (i : Nat) : (sB l)[i]? = l[i]? := by
  by_cases h : i < l.length
  · have h' : i < (sB l).size := by rw [sB_size]; exact h
    rw [getElem?_pos (sB l) i h', getElem?_pos l i h]; rfl
  · have h' : ¬ i < (sB l).size := by rw [sB_size]; exact h
    rw [getElem?_neg (sB l) i h', getElem?_neg l i h]
theorem sB_inj {a b : Str} : sB a = sB b ↔ a = b := by
  constructor
  · intro h
    have : (sB a).data.toList = (sB b).data.toList := by rw [h]
    exact this
  · rintro rfl; rfl

@[reducible] def rS : Rep Str := ⟨fun x => [tv (.string (sB x))], 1, false, fun _ => rfl, fun x T h F w v hv => by simp at h; subst h; have : v = _ := hv; subst this; rfl, fun _ => rfl⟩
def cat (n : Nat) : Option Unit := if n ≤ 9223372036854775807 then some () else none

section
variable {Γ : List (Nat × Ty)} {P : Program} {d : Option Tmp} {ty : TypeId} {pos : String} {af : Array Edge} {g : Option (Nat × Bool)} {x y : Operand} {T : Ty} {t t2 e : TypeId} {α : Type} {R : Rep α} {bytes : Nat} {z : Value} {a b : Str}

theorem op_eqlS (hx : Fct Γ x (tv (.string (sB a)))) (hy : Fct Γ y (tv (.string (sB b)))) : OpJ P ⟨d, .binOp .eql t x y t2, ty, pos, af, g⟩ Γ [] [] (fun _ => []) (fun _ => tv (.bool (a == b))) :=
  opj_bin hx hy fun w => by simp [eqGuard, binOp, Op.stringOp, sB_toList]
theorem op_neqS (hx : Fct Γ x (tv (.string (sB a)))) (hy : Fct Γ y (tv (.string (sB b)))) : OpJ P ⟨d, .binOp .neq t x y t2, ty, pos, af, g⟩ Γ [] [] (fun _ => []) (fun _ => tv (.bool (a != b))) :=
  opj_bin hx hy fun w => by simp [eqGuard, binOp, Op.stringOp, sB_toList, bne]
theorem op_addS (hx : Fct Γ x (tv (.string (sB a)))) (hy : Fct Γ y (tv (.string (sB b)))) (h : cat (a.length + b.length) = some ()) : OpJ P ⟨d, .binOp .add t x y t2, ty, pos, af, g⟩ Γ [] [] (fun _ => []) (fun _ => tv (.string (sB (a ++ b)))) :=
  opj_bin hx hy fun w => by
    have hl : ¬ (((sB a).size + (sB b).size : Nat) : Int) > IntKind.i64.max := by
      unfold cat at h
      split at h
      · rename_i h'; rw [sB_size, sB_size]; simp [IntKind.max, IntKind.bits, IntKind.signed]; omega
      · cases h
    simp only [eqGuard, binOp, Op.stringOp]
    rw [if_neg hl, sB_append]
    simp
theorem op_lenS' (ht : P.underlying t = some .string) (hx : Fct Γ x (tv (.string (sB a)))) : OpJ P ⟨d, .call { callee := .builtin .len, args := #[x], argTypes := #[t] }, ty, pos, af, g⟩ Γ [] [] (fun _ => []) (fun _ => tv (.int .i64 (a.length : Int))) := by
  have := op_lenS (P := P) (Γ := Γ) (d := d) (ty := ty) (pos := pos) (af := af) (g := g) ht hx
  rwa [sB_size] at this
theorem op_idxS {i : Int} {k : IntKind} {u : UInt8} (ht : P.underlying t = some .string) (hx : Fct Γ x (tv (.string (sB a)))) (hi : Fct Γ y (tv (.int k i))) (h : idx a i = some u) :
    OpJ P ⟨d, .index t x y, ty, pos, af, g⟩ Γ [] [] (fun _ => []) (fun _ => tv (.int .u8 (u.toNat : Int))) :=
  opj_pure fun F w A he => by
    have h1 := hx.val (by simp [Op.operands]) he
    have h2 := hi.val (by simp [Op.operands]) he
    unfold idx at h
    split at h
    · rename_i h0
      refine ⟨_, ?_, rfl⟩
      simp [execOp, h1, h2, Instr.index, asIntOf, run_underlying ht, h0, sB_get, h]
    · cases h
theorem op_subS {lo hi : Option Operand} {i j : Int} {r : Str} (ht : P.underlying t = some .string) (hx : Fct Γ x (tv (.string (sB a)))) (hlo : Bd Γ lo 0 i) (hhi : Bd Γ hi (a.length : Int) j) (h : sub a i j = some r) :
    OpJ P ⟨d, .slice t x lo hi none, ty, pos, af, g⟩ Γ [] [] (fun _ => []) (fun _ => tv (.string (sB r))) :=
  opj_pure fun F w A he => by
    have h1 := hx.val (by simp [Op.operands]) he
    have h2 := hlo.use (fun y hy => by simp [Op.operands, hy]) he
    have h3 := hhi.use (fun y hy => by simp [Op.operands, hy]) he
    unfold sub at h
    split at h
    · rename_i h0
      obtain ⟨c1, c2, c3⟩ := h0
      obtain rfl := Option.some.inj h
      refine ⟨_, ?_, rfl⟩
      have hj : j ≤ ((sB a).size : Int) := by rw [sB_size]; exact c3
      have c2' : i ≤ (j.toNat : Int) := by omega
      have hj0 : 0 ≤ j := by omega
      have hm : max j 0 = j := by omega
      have c2n : ¬ j < i := by omega
      rcases h2 with ⟨h2, rfl⟩ | ⟨k2, h2⟩ <;> rcases h3 with ⟨h3, rfl⟩ | ⟨k3, h3⟩
      · simp [execOp, h1, h2, h3, Instr.sliceAt, Instr.slice, Instr.sliceBounds, run_underlying ht, sB_extract, sB_size]
      · simp [execOp, h1, h2, h3, Instr.sliceAt, Instr.slice, Instr.sliceBounds, Instr.sliceBound, asIntOf, run_underlying ht, sB_extract, hj, hj0]
      · simp [execOp, h1, h2, h3, Instr.sliceAt, Instr.slice, Instr.sliceBounds, Instr.sliceBound, asIntOf, run_underlying ht, sB_extract, sB_size, c1, c2]
      · simp [execOp, h1, h2, h3, Instr.sliceAt, Instr.slice, Instr.sliceBounds, Instr.sliceBound, asIntOf, run_underlying ht, sB_extract, hj, hj0, c1, c2', hm, c2n, c2]
    · cases h

/-! Pointers that are not nil -/

theorem op_nilB {Ts : List Ty} {q : Value} (hx : Fct Γ x (tv q)) : OpJ P ⟨d, .nilCheck x, ty, pos, af, g⟩ Γ [box Ts q] [] (fun _ => []) (fun _ => tv q) :=
  opj_use fun M w A hU he => by
    have h := hx.val (by simp [Op.operands]) he
    obtain ⟨b, cur, e, hq, _⟩ := hU _ (List.mem_singleton.2 rfl)
    subst hq
    exact ⟨_, by simp [execOp, h], rfl⟩

/-! Arrays behind a pointer -/

theorem run_indexArr {n : Nat} {k : IntKind} {i : Int} {b off : Nat} (ht : P.underlying t = some (.array n e)) (hz : TOk P e R bytes z) (w : World) (h0 : 0 ≤ i) (h1 : i < n) :
    (Instr.indexAt t (.pointer (some ⟨b, off, none⟩)) (.int k i)).run P w = .ok (.pointer (some ⟨b, off + i.toNat * R.n, none⟩)) w := by
  obtain ⟨ti, hti, _, hs, _⟩ := hz.info
  simp [Instr.indexAt, Instr.sureAddr, run_underlying ht, asIntOf, h0, h1, sizeOf, typeInfo, hti, hs, addr_add]
/-- An element of an array of which much is known. -/
theorem op_idxA {n : Nat} {k : IntKind} {i : Int} {Ts : List Ty} (j : Nat) (hj : i = j) (ht : P.underlying t = some (.array n e)) (hz : TOk P e R bytes z) (hx : Fct Γ x (tptr Ts)) (hi : Fct Γ y (tv (.int k i))) (h1 : j < n) :
    OpJ P ⟨d, .indexAddr t x y, ty, pos, af, g⟩ Γ [] [] (fun _ => []) (fun _ => tptr (Ts.drop (j * R.n))) :=
  opj_pure fun F w A he => by
    obtain ⟨b, o, hv, hb, hr⟩ := hx.use (by simp [Op.operands]) he
    have h2 := hi.val (by simp [Op.operands]) he
    subst hj
    refine ⟨_, ?_, b, o + j * R.n, rfl, hb, hr.part _⟩
    simp only [execOp, hv, h2, Sem.run_bind, run_indexArr ht hz w (Int.natCast_nonneg j) (Int.ofNat_lt.2 h1), Result.andThen_ok, Sem.run_pure, Int.toNat_natCast]
/-! Values of interfaces that hold a number or a string -/

inductive AnyV where
  | int (n : Int)
  | str (s : Str)
deriving Inhabited
/-- ti, ts: the numbers of the types int and string. -/
def AnyV.val (ti ts : TypeId) : AnyV → Value
  | .int n => .iface ti (.int .i64 n)
  | .str s => .iface ts (.string (sB s))
@[reducible] def rAny (ti ts : TypeId) : Rep AnyV := ⟨fun x => [tv (x.val ti ts)], 1, false, fun _ => rfl, fun x T h F w v hv => by simp at h; subst h; have : v = _ := hv; subst this; cases x <;> rfl, fun _ => rfl⟩
def AnyV.asInt : AnyV → Int × Bool | .int n => (n, true) | .str _ => (0, false)
def AnyV.asStr : AnyV → Str × Bool | .int _ => ([], false) | .str s => (s, true)
theorem op_mkI {ti ts : TypeId} {n : Int} (ht : P.underlying ti = some (.int .i64)) (hx : Fct Γ x (tv (.int .i64 n))) : OpJ P ⟨d, .makeInterface ti x, ty, pos, af, g⟩ Γ [] [] (fun _ => []) (fun _ => tv (AnyV.val ti ts (.int n))) :=
  opj_pure fun F w A he => ⟨_, by simp [execOp, Instr.makeInterface, run_underlying ht, hx.val (by simp [Op.operands]) he, AnyV.val], rfl⟩
theorem op_mkS {ti ts : TypeId} {s : Str} (ht : P.underlying ts = some .string) (hx : Fct Γ x (tv (.string (sB s)))) : OpJ P ⟨d, .makeInterface ts x, ty, pos, af, g⟩ Γ [] [] (fun _ => []) (fun _ => tv (AnyV.val ti ts (.str s))) :=
  opj_pure fun F w A he => ⟨_, by simp [execOp, Instr.makeInterface, run_underlying ht, hx.val (by simp [Op.operands]) he, AnyV.val], rfl⟩
theorem op_asI {ti ts : TypeId} {u : AnyV} (hne : ti ≠ ts) (hz : TOk P ti rI 8 (.int .i64 0)) (ht : P.underlying ti = some (.int .i64)) (hx : Fct Γ x (tv (u.val ti ts))) : OpJ P ⟨d, .typeAssert x t ti true, ty, pos, af, g⟩ Γ [] [] (fun _ => []) (fun _ => ttup [tv (.int .i64 u.asInt.1), tv (.bool u.asInt.2)]) :=
  opj_pure fun F w A he => by
    have h := hx.val (by simp [Op.operands]) he
    obtain ⟨i, hi, hz0, _⟩ := hz.info
    cases u with
    | int n => exact ⟨_, by simp [execOp, Instr.typeAssert, h, AnyV.val, run_underlying ht], [.int .i64 n, .bool true], rfl, .cons rfl (.cons rfl .nil)⟩
    | str s => exact ⟨_, by simp [execOp, Instr.typeAssert, h, AnyV.val, run_underlying ht, Ne.symm hne, zeroValue, typeInfo, hi, hz0], [.int .i64 0, .bool false], rfl, .cons rfl (.cons rfl .nil)⟩
theorem op_asS {ti ts : TypeId} {u : AnyV} (hne : ti ≠ ts) (hz : TOk P ts rS 16 (.string .empty)) (ht : P.underlying ts = some .string) (hx : Fct Γ x (tv (u.val ti ts))) : OpJ P ⟨d, .typeAssert x t ts true, ty, pos, af, g⟩ Γ [] [] (fun _ => []) (fun _ => ttup [tv (.string (sB u.asStr.1)), tv (.bool u.asStr.2)]) :=
  opj_pure fun F w A he => by
    have h := hx.val (by simp [Op.operands]) he
    obtain ⟨i, hi, hz0, _⟩ := hz.info
    cases u with
    | int n => exact ⟨_, by simp [execOp, Instr.typeAssert, h, AnyV.val, run_underlying ht, hne, zeroValue, typeInfo, hi, hz0], [.string .empty, .bool false], rfl, .cons rfl (.cons rfl .nil)⟩
    | str s => exact ⟨_, by simp [execOp, Instr.typeAssert, h, AnyV.val, run_underlying ht], [.string (sB s), .bool true], rfl, .cons rfl (.cons rfl .nil)⟩

/-! Function values of any kind -/

/-- A function value that gives p, where it is given what E says besides. -/
def tfn (P : Program) (E : List Atom) {A B : Type} (Ts : A → List Ty) (Tr : B → Ty) (p : A → Option B) : Ty :=
  ⟨fun F w v => ∃ f Tc, (tcloE f Tc).ok F w v ∧ Callable P f ∧ ∀ x b, p x = some b → FnOk P f (Ts x ++ Tc) E (fun _ => []) (fun _ => Tr b), fun hF hh ⟨f, Tc, h, r⟩ => ⟨f, Tc, (tcloE f Tc).keep hF hh h, r⟩⟩
theorem tfn_of {E : List Atom} {A B : Type} {Ts : A → List Ty} {Tr : B → Ty} {p : A → Option B} {f : FuncId} {Tc : List Ty} (hc : Callable P f) (h : ∀ x b, p x = some b → FnOk P f (Ts x ++ Tc) E (fun _ => []) (fun _ => Tr b)) : ∀ F w v, (tcloE f Tc).ok F w v → (tfn P E Ts Tr p).ok F w v :=
  fun _ _ _ hv => ⟨f, Tc, hv, hc, h⟩
theorem one_tfn {E : List Atom} {A B : Type} {Ts : A → List Ty} {Tr : B → Ty} {p : A → Option B} : One (tfn P E Ts Tr p) := fun _ _ _ ⟨_, _, ⟨caps, h⟩, _⟩ => by rw [h.1]; rfl
end

end Go.Sim

/- A logic of its own over the kit's weakest preconditions, first part: worlds that only grow, types of values (closed under growth), owned memory, and the theorem that a region's operations may run in any order that their edges allow. No condition. -/
import Derived.WalkKit
import Derived.KernelRfl
namespace Go.Sim

abbrev Blk := Nat → Prop
theorem sj {α : Type} {a b : α} (h : some a = some b) : a = b := Option.some.inj h
theorem leb {a b : Nat} (h : Nat.ble a b = true) : a ≤ b := Nat.le_of_ble_eq_true h

/-- The world w' is w with new blocks; of the old blocks those in B alone may have changed. -/
structure Step (B : Blk) (w w' : World) : Prop where
  os : w'.os = w.os
  tape : w'.tape = w.tape
  output : w'.output = w.output
  size : w.heap.size ≤ w'.heap.size
  same : ∀ k, k < w.heap.size → ¬ B k → w'.heap[k]? = w.heap[k]?

abbrev Grow (w w' : World) : Prop := Step (fun _ => False) w w'

theorem Step.refl (B : Blk) (w : World) : Step B w w := ⟨rfl, rfl, rfl, Nat.le_refl _, fun _ _ _ => rfl⟩
theorem Step.trans {B C : Blk} {a b c : World} (h : Step B a b) (k : Step C b c) (hC : ∀ i, C i → i < a.heap.size → B i) : Step B a c :=
  ⟨k.os.trans h.os, k.tape.trans h.tape, k.output.trans h.output, Nat.le_trans h.size k.size,
    fun i hi hB => (k.same i (Nat.lt_of_lt_of_le hi h.size) (fun hc => hB (hC i hc hi))).trans (h.same i hi hB)⟩
theorem Grow.trans {a b c : World} (h : Grow a b) (k : Grow b c) : Grow a c := Step.trans h k (fun _ h _ => h)
theorem Step.mono {B C : Blk} {a b : World} (h : Step B a b) (hB : ∀ i, B i → C i) : Step C a b := ⟨h.os, h.tape, h.output, h.size, fun k hk hc => h.same k hk (fun hb => hc (hB k hb))⟩
theorem Step.alloc (w : World) (o : Obj) : Grow w (w.alloc o) := ⟨rfl, rfl, rfl, by simp, fun k hk _ => Go.RowKit.Below.heap_alloc w o k hk⟩
theorem Step.drew {B : Blk} {w w' : World} (h : Step B w w') : Step B w w'.drew := ⟨h.os, h.tape, h.output, h.size, h.same⟩

/-- A type says what a value is, by the blocks in F alone. -/
structure Ty where
  ok : Blk → World → Value → Prop
  keep : ∀ {F F' : Blk} {w w' : World} {v : Value}, (∀ k, F k → F' k) → (∀ k, F k → w'.heap[k]? = w.heap[k]?) → ok F w v → ok F' w' v

/-- Owned memory: the blocks fp, which nobody else writes to or reads from. -/
structure Atom where
  fp : Blk
  ok : Blk → World → Prop
  keep : ∀ {F F' : Blk} {w w' : World}, (∀ k, F k → F' k) → (∀ k, F k → w'.heap[k]? = w.heap[k]?) → (∀ k, fp k → w'.heap[k]? = w.heap[k]?) → ok F w → ok F' w'

def free (M : Blk) (w : World) : Blk := fun k => k < w.heap.size ∧ ¬ M k

def get (a : Act) (d : Nat) : Value := a.tmps.getD d undef
theorem put_size (a : Act) (o : Option Nat) (v : Value) : (a.put o v).tmps.size = a.tmps.size := by cases o <;> simp [Act.put]
theorem put_defers' (a : Act) (o : Option Nat) (v : Value) : (a.put o v).defers = a.defers := by cases o <;> rfl
theorem get_put_same (a : Act) (d : Nat) (v : Value) (h : d < a.tmps.size) : get (a.put (some d) v) d = v := by
  simp [get, Act.put, h]
theorem get_put_other (a : Act) (o : Option Nat) (v : Value) (d : Nat) (h : o ≠ some d) : get (a.put o v) d = get a d := by
  cases o with
  | none => rfl
  | some e =>
    have hne : e ≠ d := fun he => h (he ▸ rfl)
    simp [get, Act.put, Array.getElem?_setIfInBounds_ne hne]

/-- What an operation does: it yields a value and a world. -/
def Does (P : Program) (o : Oper) (a : Act) (w : World) (R : Value → World → Prop) : Prop :=
  match (execOp a.eval o).run P w with
  | .ok (.value v) w' => R v w'
  | .ok .skip w' => R undef w'
  | .ok (.enter f args) w' => Calls P f args w' (fun e w'' => ∃ v, e = .returned v ∧ R v w'')
  | _ => False

theorem Does.wp {P : Program} {o : Oper} {a : Act} {w : World} {R : Value → World → Prop} {K : Act → World → Prop} {Q : Exit → Act → World → Prop}
    (h : Does P o a w R) (hk : ∀ v w', R v w' → K (a.put o.dst v) w') : o.wp P a w K Q := by
  unfold Does at h
  unfold Oper.wp
  generalize (execOp a.eval o).run P w = r at h ⊢
  cases r with
  | ok n w' =>
    cases n <;> simp only [Oper.upon] at h ⊢ <;> first
      | exact hk _ _ h
      | exact Calls.mono h (fun e w'' ⟨v, he, hr⟩ => by subst he; exact hk _ _ hr)
      | exact h.elim
  | halt x w' => exact h.elim

theorem Does.mono {P : Program} {o : Oper} {a : Act} {w : World} {R R' : Value → World → Prop} (h : Does P o a w R) (hr : ∀ v w', R v w' → R' v w') : Does P o a w R' := by
  unfold Does at *
  generalize (execOp a.eval o).run P w = r at *
  cases r with
  | ok n w' =>
    cases n <;> simp only at h ⊢ <;> first
      | exact hr _ _ h
      | exact Calls.mono h (fun e w'' ⟨v, he, hv⟩ => ⟨v, he, hr _ _ hv⟩)
  | halt x w' => exact h

/-! The order of a region's operations -/

def ins (S : Nat → Bool) (i : Nat) : Nat → Bool := fun j => j == i || S j

section order
variable {P : Program} {ops : Array Oper} {Q : Exit → Act → World → Prop}

/-- One operation may run where those ahead of it have run. -/
def StepInv (P : Program) (ops : Array Oper) (Q : Exit → Act → World → Prop) (Inv : (Nat → Bool) → Act → World → Prop) : Prop :=
  ∀ (S : Nat → Bool) (i : Nat) (o : Oper) (a : Act) (w : World), ops[i]? = some o → S i = false → (∀ e ∈ o.after, Region.binds .any e = true → S e.on = true) →
    Inv S a w → wpOp P ops Q i (Inv (ins S i)) a w

def Acyc (ops : Array Oper) : Prop := ∀ (i : Nat) (o : Oper), ops[i]? = some o → ∀ e ∈ o.after, Region.binds .any e = true → e.on < i

theorem seq_inv {Inv : (Nat → Bool) → Act → World → Prop} (hs : StepInv P ops Q Inv) (hac : Acyc ops)
    (fin : ∀ S a w, (∀ i, i < ops.size → S i = true) → Inv S a w → Q .normal a w) :
    ∀ (m k : Nat), k + m = ops.size → ∀ a w, Inv (fun j => decide (j < k)) a w → wpOps P ops Q (List.range' k m) a w := by
  intro m
  induction m with
  | zero =>
    intro k hk a w h
    refine fin _ a w (fun i hi => ?_) h
    have : i < k := by omega
    simp [this]
  | succ m ih =>
    intro k hk a w h
    rw [List.range'_succ, wpOps_cons]
    have hlt : k < ops.size := by omega
    have hget : ops[k]? = some ops[k] := Array.getElem?_eq_getElem hlt
    have := hs _ k ops[k] a w hget (by simp) (fun e he hb => by have := hac k _ hget e he hb; simp [this]) h
    refine wpOp_mono (fun a' w' h' => ?_) this
    have e : ins (fun j => decide (j < k)) k = fun j => decide (j < k + 1) := by
      funext j
      simp only [ins]
      rw [Bool.eq_iff_iff]
      simp
      omega
    rw [e] at h'
    exact ih (k + 1) (by omega) a' w' h'

def unlisted (l : Array Bool) : Nat := l.toList.countP (fun b => !b)

theorem unlisted_set : ∀ (l : List Bool) (i : Nat), l[i]? = some false → (l.set i true).countP (fun b => !b) + 1 = l.countP (fun b => !b)
  | [], i, h => by simp at h
  | b :: l, 0, h => by simp at h; subst h; simp
  | b :: l, i + 1, h => by
    have := unlisted_set l i (by simpa using h)
    simp only [List.set_cons_succ, List.countP_cons]
    omega

theorem ready_nil {listed : Array Bool} (hsz : listed.size = ops.size) (hac : Acyc ops) (h : Region.ready .any ops listed = []) : ∀ i, i < ops.size → listed.getD i false = true := by
  intro i
  induction i using Nat.strongRecOn with
  | _ i ih =>
    intro hi
    rcases hb : listed.getD i false with _ | _
    · exfalso
      have hmem : i ∈ Region.ready .any ops listed := by
        unfold Region.ready
        have hget : ops[i]? = some ops[i] := Array.getElem?_eq_getElem hi
        have hl : listed.getD i true = false := by
          have hi' : i < listed.size := by omega
          simp only [Array.getD_eq_getD_getElem?, Array.getElem?_eq_getElem hi', Option.getD_some] at hb ⊢
          exact hb
        simp only [List.mem_filter, List.mem_range, hi, hl, hget, Option.map_some, Option.getD_some, Bool.not_false, Bool.true_and, true_and]
        rw [Array.all_eq_true']
        intro e he
        by_cases hbd : Region.binds .any e = true
        · have hlt := hac i _ hget e he hbd
          have := ih e.on hlt (by omega)
          simp only [this, Bool.or_true]
        · simp [hbd]
      rw [h] at hmem
      simp at hmem
    · rfl

theorem any_inv {Inv : (Nat → Bool) → Act → World → Prop} (hs : StepInv P ops Q Inv) (hac : Acyc ops)
    (fin : ∀ S a w, (∀ i, i < ops.size → S i = true) → Inv S a w → Q .normal a w) :
    ∀ (fuel : Nat) (listed : Array Bool) (a : Act) (w : World), listed.size = ops.size → unlisted listed ≤ fuel → Inv (fun j => listed.getD j false) a w →
      wpAny P .any ops Q fuel listed a w := by
  intro fuel
  induction fuel with
  | zero =>
    intro listed a w hsz hu h
    have hall : ∀ i, i < ops.size → listed.getD i false = true := by
      intro i hi
      have hi' : i < listed.size := by omega
      have h0 : listed.toList.countP (fun b => !b) = 0 := by unfold unlisted at hu; omega
      rw [List.countP_eq_zero] at h0
      have := h0 (listed[i]) (by simp)
      simp only [Array.getD_eq_getD_getElem?, Array.getElem?_eq_getElem hi', Option.getD_some]
      simpa using this
    refine ⟨?_, fin _ a w hall h⟩
    unfold Region.ready
    rw [List.filter_eq_nil_iff]
    intro i hi
    have hi : i < ops.size := by simpa using hi
    have hi' : i < listed.size := by omega
    have := hall i hi
    simp only [Array.getD_eq_getD_getElem?, Array.getElem?_eq_getElem hi', Option.getD_some] at this ⊢
    simp [this]
  | succ fuel ih =>
    intro listed a w hsz hu h
    refine ⟨fun hr => fin _ a w (ready_nil hsz hac hr) h, fun i hi => ?_⟩
    unfold Region.ready at hi
    simp only [List.mem_filter, List.mem_range, Bool.and_eq_true, Bool.not_eq_true'] at hi
    obtain ⟨hi, hl, hr⟩ := hi
    have hget : ops[i]? = some ops[i] := Array.getElem?_eq_getElem hi
    have hi' : i < listed.size := by omega
    have hl' : listed[i] = false := by simpa [Array.getD_eq_getD_getElem?, Array.getElem?_eq_getElem hi'] using hl
    have hSi : listed.getD i false = false := by simp [Array.getD_eq_getD_getElem?, Array.getElem?_eq_getElem hi', hl']
    simp only [hget, Option.map_some, Option.getD_some] at hr
    rw [Array.all_eq_true'] at hr
    have hstep := hs (fun j => listed.getD j false) i ops[i] a w hget hSi (fun e he hb => by have := hr e he; simpa [hb] using this) h
    refine wpOp_mono (fun a' w' h' => ?_) hstep
    refine ih _ a' w' (by simp [hsz]) ?_ ?_
    · have := unlisted_set listed.toList i (by simp [hi', hl'])
      unfold unlisted at hu ⊢
      rw [Array.toList_setIfInBounds]
      omega
    · have e : ins (fun j => listed.getD j false) i = fun j => (listed.setIfInBounds i true).getD j false := by
        funext j
        simp only [ins, Array.getD_eq_getD_getElem?, Array.getElem?_setIfInBounds]
        by_cases hj : i = j
        · subst hj; simp [hi']
        · have : (j == i) = false := by simp; omega
          simp [this, hj]
      rw [e] at h'
      exact h'

/-- A region, in whatever order its edges allow. -/
theorem wp_region_inv {Inv : (Nat → Bool) → Act → World → Prop} {id : Nat} {draw : Bool} {a : Act} {w : World} (hm : draw = true → P.follows .mixedOrders = true)
    (hs : StepInv P ops Q Inv) (hac : Acyc ops) (fin : ∀ S a w, (∀ i, i < ops.size → S i = true) → Inv S a w → Q .normal a w)
    (h0 : ∀ w', w' = w ∨ w' = w.drew → Inv (fun _ => false) a w') : (Code.region id ops draw).wp P Q a w := by
  cases draw with
  | false =>
    refine wp_region ?_
    rw [List.range_eq_range']
    exact seq_inv hs hac fin ops.size 0 (by omega) a w (by simpa using h0 w (.inl rfl))
  | true =>
    refine wp_region_any (hm rfl) ?_
    refine any_inv hs hac fin ops.size _ a _ (by simp) ?_ ?_
    · unfold unlisted
      have := List.countP_le_length (p := fun b => !b) (l := (Array.replicate ops.size false).toList)
      simpa using this
    · have e : (fun j => (Array.replicate ops.size false).getD j false) = fun _ => false := by
        funext j
        simp only [Array.getD_eq_getD_getElem?, Array.getElem?_replicate]
        split <;> rfl
      rw [e]
      exact h0 w.drew (.inr rfl)
end order

end Go.Sim

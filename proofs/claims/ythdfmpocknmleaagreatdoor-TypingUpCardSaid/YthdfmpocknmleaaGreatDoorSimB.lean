/- The logic's second part: the state at a place of the program, judgements on operations, and the rule for a whole region. No condition. -/
import Derived.Test.YthdfmpocknmleaaGreatDoorSimA
namespace Go.Sim

/-- The type of one value. -/
def tv (v : Value) : Ty := ⟨fun _ _ u => u = v, fun _ _ h => h⟩
/-- The type of what a guarded operation leaves. -/
def tcond (c : Bool) (T : Ty) : Ty := ⟨fun F w v => (c = true → T.ok F w v) ∧ (c = false → v = undef), fun hF hh h => ⟨fun hc => T.keep hF hh (h.1 hc), h.2⟩⟩
/-- Whatever. -/
def tany : Ty := ⟨fun _ _ _ => True, fun _ _ _ => trivial⟩

/-- A slot's type may hang on new values: the numbers of the operations that bring them, and how. -/
structure TyN where
  ds : List Nat
  f : List Value → Ty
def TyN.ty (new : Nat → Value) (T : TyN) : Ty := T.f (T.ds.map new)

structure Info where
  ty : TyN
  use : List Nat
  eat : List Nat
  make : List Nat

/-- The atom of a version: it may hang on new values. -/
structure Ver where
  ds : List Nat
  f : List Value → Atom
def Atom.none : Atom := ⟨fun _ => False, fun _ _ => True, fun _ _ _ _ => trivial⟩
def ver (V : List Ver) (u : Nat) (new : Nat → Value) : Atom := match V[u]? with | some p => p.f (p.ds.map new) | none => Atom.none

def eatFp (E : List Atom) : Blk := fun k => ∃ A ∈ E, A.fp k
def next (M : Blk) (E N : List Atom) : Blk := fun k => (M k ∧ ¬ eatFp E k) ∨ eatFp N k
def Apart (As : List Atom) : Prop := As.Pairwise fun A B => ∀ k, A.fp k → ¬ B.fp k

def EnvOk (Γ : List (Nat × Ty)) (xs : Array Operand) (F : Blk) (w : World) (a : Act) : Prop := ∀ p ∈ Γ, Operand.tmp p.1 ∈ xs → p.2.ok F w (get a p.1)

/-- What is made: the atoms N, out of E or new. -/
structure Made (M : Blk) (E N : List Atom) (w w' : World) : Prop where
  apart : Apart N
  place : ∀ A ∈ N, ∀ k, A.fp k → (eatFp E k ∨ w.heap.size ≤ k) ∧ k < w'.heap.size
  ok : ∀ A ∈ N, A.ok (free (next M E N) w') w'

/-- What is given: the atoms E, which the call may change. -/
def Given (M : Blk) (E : List Atom) (w : World) : Prop := ∀ A ∈ E, A.ok (free M w) w ∧ ∀ k, A.fp k → M k

/-- The judgement on one operation: by the facts on its operands, by what it uses (U), takes (E) and makes (N), its result has the type T. -/
def OpJ (P : Program) (o : Oper) (Γ : List (Nat × Ty)) (U E : List Atom) (N : Value → List Atom) (T : Value → Ty) : Prop :=
  ∀ (M : Blk) (w : World) (a : Act), (∀ k, M k → k < w.heap.size) → Given M U w → Given M E w → Apart E → (∀ A ∈ U, ∀ B ∈ E, ∀ k, A.fp k → ¬ B.fp k) → EnvOk Γ o.op.operands (free M w) w a →
    Does P o a w fun v w' => ∃ x, Step (eatFp E) w w' ∧ Made M E (N x) w w' ∧ (T x).ok (free (next M E (N x)) w') w' v

def Grd (Γ : List (Nat × Ty)) (d : Nat) (want : Bool) (c : Bool) : Prop :=
  ∀ (F : Blk) (w : World) (a : Act), (∀ p ∈ Γ, p.1 = d → p.2.ok F w (get a p.1)) → (match get a d with | .bool b => b == want | _ => false) = c

def addD (d : Option Nat) (T : Ty) (Γ : List (Nat × Ty)) : List (Nat × Ty) := match d with | some d => (d, T) :: Γ | none => Γ
def upd (new : Nat → Value) (i : Nat) (x : Value) : Nat → Value := fun j => bif Nat.beq j i then x else new j
theorem upd_same {new : Nat → Value} {i : Nat} {x : Value} : upd new i x i = x := by simp [upd]
theorem upd_other {new : Nat → Value} {i j : Nat} {x : Value} (h : j ≠ i) : upd new i x j = new j := by
  have : Nat.beq j i = false := Bool.eq_false_iff.2 fun hb => h (Nat.eq_of_beq_eq_true hb)
  simp [upd, this]

/-- The judgement on one operation in its region. -/
inductive J (P : Program) (ops : List Oper) (V : List Ver) (new : Nat → Value) (Γ : List (Nat × Ty)) (i : Nat) (o : Oper) (I : Info) : Prop where
  | plain (hg : o.guard = none) (h : OpJ P o Γ (I.use.map fun u => ver V u new) (I.eat.map fun u => ver V u new) (fun x => I.make.map fun u => ver V u (upd new i x)) (fun x => I.ty.ty (upd new i x)))
  | guard (g : Nat) (want : Bool) (dg : Nat) (c : Bool) (T : Ty) (hg : o.guard = some (g, want)) (hd : (ops[g]?).bind (·.dst) = some dg) (hc : Grd Γ dg want c)
      (he : I.eat = []) (hm : I.make = []) (ht : I.ty.ty new = tcond c T) (hds : i ∉ I.ty.ds) (h : c = true → OpJ P o Γ (I.use.map fun u => ver V u new) [] (fun _ => []) (fun _ => T))
  | guardE (g : Nat) (want : Bool) (dg : Nat) (c : Bool) (hg : o.guard = some (g, want)) (hd : (ops[g]?).bind (·.dst) = some dg) (hc : Grd Γ dg want c)
      (h : c = true → OpJ P o Γ (I.use.map fun u => ver V u new) (I.eat.map fun u => ver V u new) (fun x => I.make.map fun u => ver V u (upd new i x)) (fun x => I.ty.ty (upd new i x)))
      (h0 : c = false → (I.make.map fun u => ver V u (upd new i undef)) = (I.eat.map fun u => ver V u new) ∧ ∀ F w, (I.ty.ty (upd new i undef)).ok F w undef)

inductive Run (P : Program) (ops : List Oper) (V : List Ver) (new : Nat → Value) : Nat → List (Nat × Ty) → List Oper → List Info → Prop where
  | nil (i : Nat) (Γ : List (Nat × Ty)) : Run P ops V new i Γ [] []
  | step {i : Nat} {Γ : List (Nat × Ty)} {o : Oper} {I : Info} {os : List Oper} {is : List Info} (h : J P ops V new Γ i o I) (hs : Run P ops V new (i + 1) (addD o.dst (I.ty.ty new) Γ) os is) : Run P ops V new i Γ (o :: os) (I :: is)

theorem Run.length {P : Program} {ops : List Oper} {V : List Ver} {new : Nat → Value} {k : Nat} {Γ : List (Nat × Ty)} {os : List Oper} {is : List Info} (h : Run P ops V new k Γ os is) : is.length = os.length := by
  induction h with
  | nil => rfl
  | step _ _ ih => simp [ih]

theorem Run.get {P : Program} {ops : List Oper} {V : List Ver} {new : Nat → Value} {k : Nat} {Γ : List (Nat × Ty)} {os : List Oper} {is : List Info} (h : Run P ops V new k Γ os is) :
    ∀ (i : Nat) (o : Oper), os[i]? = some o → ∃ I Γ', is[i]? = some I ∧ J P ops V new Γ' (k + i) o I ∧
      ∀ p ∈ Γ', p ∈ Γ ∨ ∃ j oj Ij, j < i ∧ os[j]? = some oj ∧ is[j]? = some Ij ∧ oj.dst = some p.1 ∧ p.2 = Ij.ty.ty new := by
  induction h with
  | nil => intro i o h; simp at h
  | @step k Γ o I os is hj hs ih =>
    intro i o' ho
    cases i with
    | zero =>
      simp at ho; subst ho
      exact ⟨I, Γ, by simp, hj, fun p hp => .inl hp⟩
    | succ i =>
      obtain ⟨I', Γ', hI, hJ, hsub⟩ := ih i o' (by simpa using ho)
      refine ⟨I', Γ', by simpa using hI, by rw [show k + (i + 1) = k + 1 + i by omega]; exact hJ, fun p hp => ?_⟩
      rcases hsub p hp with h | ⟨j, oj, Ij, h1, h2, h3, h4, h5⟩
      · unfold addD at h
        cases hd : o.dst with
        | none => rw [hd] at h; exact .inl h
        | some d =>
          rw [hd] at h
          rcases List.mem_cons.1 h with h | h
          · subst h
            exact .inr ⟨0, o, I, by omega, by simp, by simp, hd, rfl⟩
          · exact .inl h
      · exact .inr ⟨j + 1, oj, Ij, by omega, by simpa using h2, by simpa using h3, h4, h5⟩

/-! The check of a region's edges -/

def maskOf (acc : List Nat) (o : Oper) : Nat := o.after.toList.foldl (fun m e => if Region.binds .any e then m ||| ((1 <<< e.on) ||| acc.getD e.on 0) else m) 0
def masks : List Nat → List Oper → List Nat
  | acc, [] => acc
  | acc, o :: os => masks (acc ++ [maskOf acc o]) os

def bit (ms : List Nat) (i j : Nat) : Bool := (ms.getD i 0).testBit j
def mkOf (is : List Info) (i : Nat) : List Nat := match is[i]? with | some I => I.make | none => []
def eatOf (is : List Info) (i : Nat) : List Nat := match is[i]? with | some I => I.eat | none => []
def distinct : List Nat → Bool | [] => true | x :: xs => !xs.contains x && distinct xs

def chkAcyc (ops : List Oper) : Bool := (List.range ops.length).all fun i => match ops[i]? with | some o => o.after.toList.all fun e => !Region.binds .any e || decide (e.on < i) | none => true
def chkSlots (ops : List Oper) (ms ds : List Nat) (slots0 : List Nat) : Bool :=
  (List.range ops.length).all fun i => match ops[i]? with
    | some o => (o.looksAt ops.toArray).all fun d => (List.range ops.length).all fun j => (ds.getD j 0 != d + 1) || (if j < i then bit ms i j && !slots0.contains d else decide (i < j) && bit ms j i)
    | none => true
def dsts (ops : List Oper) : List Nat := ops.map fun o => match o.dst with | some d => d + 1 | none => 0
def chkUnique (ds : List Nat) : Bool := (List.range ds.length).all fun i => (ds.getD i 0 == 0) || (List.range i).all fun j => ds.getD j 0 != ds.getD i 0
def chkBound (ds : List Nat) (n : Nat) : Bool := ds.all fun d => decide (d ≤ n)
def chkVers (is : List Info) (ms : List Nat) (vd : List (List Nat)) (k0 nV : Nat) : Bool :=
  (List.range is.length).all fun i => match is[i]? with
    | some I => ((I.use ++ I.eat).all fun u => decide (u < nV) && (decide (u < k0) || (List.range is.length).any fun p => (mkOf is p).contains u && bit ms i p) &&
        (List.range is.length).all fun c => !(eatOf is c).contains u || (c == i) || bit ms c i) &&
      (I.make.all fun u => decide (k0 ≤ u) && decide (u < nV) && ((List.range i).all fun j => !(mkOf is j).contains u) && ((vd.getD u []).all fun d => d == i || bit ms i d)) &&
      (I.eat.all fun u => ((List.range i).all fun j => !(eatOf is j).contains u) && !I.use.contains u) &&
      (I.ty.ds.all fun d => d == i || bit ms i d) && distinct I.eat && distinct I.make
    | none => true
def chkMade (is : List Info) (k0 nV : Nat) : Bool := (List.range nV).all fun u => decide (u < k0) || (List.range is.length).any fun p => (mkOf is p).contains u

def chk (ops : List Oper) (is : List Info) (vd : List (List Nat)) (slots0 : List Nat) (k0 nV n : Nat) : Bool :=
  chkAcyc ops && chkSlots ops (masks [] ops) (dsts ops) slots0 && chkUnique (dsts ops) && chkBound (dsts ops) n && chkVers is (masks [] ops) vd k0 nV && chkMade is k0 nV

section
variable {ops : List Oper}

def Down (ops : List Oper) (S : Nat → Bool) : Prop := ∀ (i : Nat) (o : Oper), ops[i]? = some o → S i = true → ∀ e ∈ o.after, Region.binds .any e = true → S e.on = true
def Pre (ops : List Oper) (i : Nat) (S : Nat → Bool) : Prop := ∀ (o : Oper), ops[i]? = some o → ∀ e ∈ o.after, Region.binds .any e = true → S e.on = true

theorem maskOf_bit (acc : List Nat) (o : Oper) (j : Nat) (h : (maskOf acc o).testBit j = true) : ∃ e ∈ o.after, Region.binds .any e = true ∧ (e.on = j ∨ (acc.getD e.on 0).testBit j = true) := by
  unfold maskOf at h
  have key : ∀ (l : List Edge) (m : Nat), (l.foldl (fun m e => if Region.binds .any e then m ||| ((1 <<< e.on) ||| acc.getD e.on 0) else m) m).testBit j = true →
      m.testBit j = true ∨ ∃ e ∈ l, Region.binds .any e = true ∧ (e.on = j ∨ (acc.getD e.on 0).testBit j = true) := by
    intro l
    induction l with
    | nil => intro m h; exact .inl h
    | cons e l ih =>
      intro m h
      simp only [List.foldl_cons] at h
      rcases ih _ h with h | ⟨e', he', r⟩
      · by_cases hb : Region.binds .any e = true
        · rw [if_pos hb] at h
          simp only [Nat.testBit_or, Bool.or_eq_true] at h
          rcases h with h | h | h
          · exact .inl h
          · refine .inr ⟨e, by simp, hb, .inl ?_⟩
            rw [Nat.one_shiftLeft, Nat.testBit_two_pow] at h
            simpa using h
          · exact .inr ⟨e, by simp, hb, .inr h⟩
        · rw [if_neg hb] at h; exact .inl h
      · exact .inr ⟨e', by simp [he'], r⟩
  rcases key o.after.toList 0 h with h | ⟨e, he, r⟩
  · simp at h
  · exact ⟨e, by simpa using he, r⟩

theorem masks_ok : ∀ (os : List Oper) (acc : List Nat) (pre : List Oper), pre ++ os = ops → acc.length = pre.length →
    (∀ i j, (acc.getD i 0).testBit j = true → ∀ S, Down ops S → Pre ops i S → S j = true) →
    ∀ i j, ((masks acc os).getD i 0).testBit j = true → ∀ S, Down ops S → Pre ops i S → S j = true := by
  intro os
  induction os with
  | nil => intro acc pre _ _ h; exact h
  | cons o os ih =>
    intro acc pre hp hl h
    refine ih (acc ++ [maskOf acc o]) (pre ++ [o]) (by simp [hp]) (by simp [hl]) ?_
    intro i j hb S hD hP
    rcases Nat.lt_trichotomy i acc.length with hi | hi | hi
    · rw [List.getD_eq_getElem?_getD, List.getElem?_append_left hi, ← List.getD_eq_getElem?_getD] at hb
      exact h i j hb S hD hP
    · subst hi
      rw [List.getD_eq_getElem?_getD, List.getElem?_append_right (Nat.le_refl _)] at hb
      simp only [Nat.sub_self, List.getElem?_cons_zero, Option.getD_some] at hb
      obtain ⟨e, he, hbd, hj⟩ := maskOf_bit acc o j hb
      have hget : ops[acc.length]? = some o := by rw [← hp, hl, List.getElem?_append_right (Nat.le_refl _)]; simp
      have hS := hP o hget e he hbd
      rcases hj with rfl | hj
      · exact hS
      · exact h e.on j hj S hD (fun o' ho' => hD e.on o' ho' hS)
    · rw [List.getD_eq_getElem?_getD, List.getElem?_eq_none (by simp; omega)] at hb
      simp at hb

theorem bit_ok {i j : Nat} (h : bit (masks [] ops) i j = true) {S : Nat → Bool} (hD : Down ops S) (hP : Pre ops i S) : S j = true :=
  masks_ok ops [] [] rfl rfl (fun i j h => by simp at h) i j h S hD hP

theorem dsts_get {i d : Nat} {o : Oper} (ho : ops[i]? = some o) (hd : o.dst = some d) : (dsts ops).getD i 0 = d + 1 := by
  simp [dsts, List.getD_eq_getElem?_getD, ho, hd]

theorem chkAcyc_ok (h : chkAcyc ops = true) : Acyc ops.toArray := by
  intro i o ho e he hb
  simp only [List.getElem?_toArray] at ho
  have hi : i < ops.length := (List.getElem?_eq_some_iff.1 ho).1
  have := List.all_eq_true.1 h i (by simpa using hi)
  simp only [ho] at this
  have := List.all_eq_true.1 this e (by simpa using he)
  simpa [hb] using this

theorem chkSlots_ok {slots0 : List Nat} (h : chkSlots ops (masks [] ops) (dsts ops) slots0 = true) {i j d : Nat} {o oj : Oper} (ho : ops[i]? = some o) (hd : d ∈ o.looksAt ops.toArray)
    (hj : ops[j]? = some oj) (hdj : oj.dst = some d) : (j < i ∧ bit (masks [] ops) i j = true ∧ d ∉ slots0) ∨ (i < j ∧ bit (masks [] ops) j i = true) := by
  have hi' : i < ops.length := (List.getElem?_eq_some_iff.1 ho).1
  have hj' : j < ops.length := (List.getElem?_eq_some_iff.1 hj).1
  have := List.all_eq_true.1 h i (by simpa using hi')
  simp only [ho] at this
  have := List.all_eq_true.1 (List.all_eq_true.1 this d hd) j (by simpa using hj')
  rw [dsts_get hj hdj] at this
  simp only [bne_self_eq_false, Bool.false_or] at this
  split at this
  · rename_i hlt
    simp only [Bool.and_eq_true, Bool.not_eq_true'] at this
    exact .inl ⟨hlt, this.1, by simpa using this.2⟩
  · simp only [Bool.and_eq_true, decide_eq_true_eq] at this
    exact .inr this

theorem chkUnique_ok (h : chkUnique (dsts ops) = true) {i j d : Nat} {o oj : Oper} (ho : ops[i]? = some o) (hd : o.dst = some d) (hj : ops[j]? = some oj) (hdj : oj.dst = some d) : i = j := by
  have hi' : i < ops.length := (List.getElem?_eq_some_iff.1 ho).1
  have hj' : j < ops.length := (List.getElem?_eq_some_iff.1 hj).1
  have key : ∀ a b : Nat, a < ops.length → b < a → (dsts ops).getD a 0 = d + 1 → (dsts ops).getD b 0 = d + 1 → False := by
    intro a b ha hb ea eb
    have := List.all_eq_true.1 h a (by simpa [dsts] using ha)
    rw [ea] at this
    have h0 : (d + 1 == 0) = false := by simp
    rw [h0, Bool.false_or] at this
    have := List.all_eq_true.1 this b (by simpa using hb)
    rw [eb] at this
    simp at this
  rcases Nat.lt_trichotomy i j with h' | h' | h'
  · exact (key j i hj' h' (dsts_get hj hdj) (dsts_get ho hd)).elim
  · exact h'
  · exact (key i j hi' h' (dsts_get ho hd) (dsts_get hj hdj)).elim

theorem chkBound_ok {n : Nat} (h : chkBound (dsts ops) n = true) {i d : Nat} {o : Oper} (ho : ops[i]? = some o) (hd : o.dst = some d) : d < n := by
  have hmem : d + 1 ∈ dsts ops := by
    have := dsts_get ho hd
    rw [List.getD_eq_getElem?_getD] at this
    cases hx : (dsts ops)[i]? with
    | none => simp [hx] at this
    | some y => simp [hx] at this; subst this; exact List.mem_of_getElem? hx
  have := List.all_eq_true.1 h _ hmem
  simp at this
  omega
end

/-! The state -/

def fps (As : List Atom) : Blk := fun k => ∃ A ∈ As, A.fp k
def hold (M0 : Blk) (As : List Atom) : Blk := fun k => M0 k ∨ fps As k

/-- A call's place: the blocks of others (m), and those that it was given (b). -/
structure Fr where
  m : Blk
  b : Blk

structure St (M : Fr) (w0 : World) (n : Nat) (Γ : List (Nat × Ty)) (As : List Atom) (a : Act) (w : World) : Prop where
  size : a.tmps.size = n
  defers : a.defers = []
  grow : Step M.b w0 w
  m0 : ∀ k, M.m k → k < w0.heap.size ∧ ¬ M.b k
  own : ∀ A ∈ As, A.ok (free (hold M.m As) w) w
  fresh : ∀ A ∈ As, ∀ k, A.fp k → (M.b k ∨ w0.heap.size ≤ k) ∧ k < w.heap.size
  apart : Apart As
  slots : ∀ p ∈ Γ, p.2.ok (free (hold M.m As) w) w (get a p.1)

def eaten (is : List Info) (u : Nat) : Bool := is.any fun I => I.eat.contains u
def outAs (V : List Ver) (is : List Info) (new : Nat → Value) : List Atom := ((List.range V.length).filter fun u => !eaten is u).map fun u => ver V u new
def outG (ops : List Oper) (is : List Info) (Γ : List (Nat × Ty)) (new : Nat → Value) : List (Nat × Ty) :=
  ((ops.zip is).filterMap fun p => p.1.dst.map fun d => (d, p.2.ty.ty new)) ++ Γ.filter fun p => !(dsts ops).contains (p.1 + 1)

end Go.Sim

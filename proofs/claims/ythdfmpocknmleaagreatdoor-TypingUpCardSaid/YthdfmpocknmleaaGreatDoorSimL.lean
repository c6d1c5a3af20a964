/- The logic's twelfth part: tables made and grown, variables that hold slices of the call's own, closures over them, copies, cuts. No condition. -/
import Derived.Test.YthdfmpocknmleaaGreatDoorSimK
namespace Go.Sim

@[reducible] def ti (x : Int) : Ty := tv (.int .i64 x)
@[reducible] def tb (x : Bool) : Ty := tv (.bool x)

section
variable {M : Fr} {w0 : World} {n : Nat} {Γ : List (Nat × Ty)} {As : List Atom} {a : Act} {w : World} {α : Type}

def selA (As : List Atom) (is : List Nat) : List Atom := is.filterMap fun i => As[i]?
theorem apart_sel {As : List Atom} (hap : Apart As) {is : List Nat} (hd : distinct is = true) : Apart (selA As is) := by
  unfold Apart selA at *
  rw [List.pairwise_filterMap]
  refine (show is.Pairwise (· ≠ ·) from distinct_ok hd).imp ?_
  intro i j hij A hA B hB k hk hkB
  rw [List.pairwise_iff_getElem] at hap
  obtain ⟨hi, rfl⟩ := List.getElem?_eq_some_iff.1 hA
  obtain ⟨hj, rfl⟩ := List.getElem?_eq_some_iff.1 hB
  rcases Nat.lt_trichotomy i j with h | h | h
  · exact hap i j hi hj h k hk hkB
  · exact hij h
  · exact hap j i hj hi h k hkB hk
/-- Some atoms, in some order. -/
theorem St.selA (h : St M w0 n Γ As a w) (is : List Nat) (hd : distinct is = true) : St M w0 n Γ (selA As is) a w := by
  have hmem : ∀ A, A ∈ Sim.selA As is → A ∈ As := by
    intro A hA
    obtain ⟨i, _, hi⟩ := List.mem_filterMap.1 hA
    exact List.mem_of_getElem? hi
  have hf : ∀ k, fps (Sim.selA As is) k → fps As k := fun k ⟨A, hA, hk⟩ => ⟨A, hmem A hA, hk⟩
  exact ⟨h.size, h.defers, h.grow, h.m0, fun A hA => A.keep (hold_free hf) (fun _ _ => rfl) (fun _ _ => rfl) (h.own A (hmem A hA)), fun A hA => h.fresh A (hmem A hA), apart_sel h.apart hd,
    fun p hp => p.2.keep (hold_free hf) (fun _ _ => rfl) (h.slots p hp)⟩

theorem St.shareO {R : Rep α} {e : TypeId} {xs : List α} {v : Value} {s : Nat} (i : Nat) (h : St M w0 n Γ (Sim.own R e xs v :: As) a w) (hi : Γ[i]? = some (s, tv v)) : St M w0 n ((s, tsl R xs) :: Γ) As a w := h.share i hi
end

section
variable {Γ : List (Nat × Ty)} {P : Program} {d : Option Tmp} {ty : TypeId} {pos : String} {af : Array Edge} {g : Option (Nat × Bool)} {x y : Operand} {T : Ty} {t e e1 e2 : TypeId} {α : Type} {R : Rep α} {bytes : Nat} {z : Value} {xss : List (List α)} {us : List Value} {v : Value}

theorem zokV : ∀ F w, (rVal.ty nilV).ok F w (.slice none 0 0) := fun _ _ => ⟨rfl, rfl⟩
/-! Variables that hold slices of the call's own -/

theorem op_allocV (hz : TOk P t rVal bytes (.slice none 0 0)) : OpJ P ⟨d, .alloc t, ty, pos, af, g⟩ Γ [] [] (fun p => [box (rVal.cs nilV) p]) (fun p => tv p) := op_alloc (R := rVal) (a := nilV) hz zokV
theorem op_loadBV {q u : Value} (hz : TOk P t rVal bytes z) (hp : Fct Γ x (tv q)) : OpJ P ⟨d, .load t x, ty, pos, af, g⟩ Γ [box (rVal.cs u) q] [] (fun _ => []) (fun _ => tv u) :=
  op_weak (op_loadB (R := rVal) (u := u) hz hp rfl) (fun _ _ _ _ h => h.1)
/-! Closures -/

/-- What was captured as T is seen by the callee as T', where the caller lends U. -/
def LendT (U : List Atom) (T T' : Ty) : Prop := ∀ (F F' : Blk) (w : World) (v : Value), (∀ k, F k → F' k) → (∀ A ∈ U, A.ok F w ∧ ∀ k, A.fp k → F' k) → T.ok F w v → T'.ok F' w v
inductive Lends (U : List Atom) : List Ty → List Ty → Prop where
  | nil : Lends U [] []
  | cons {T T' : Ty} {Tc Tc' : List Ty} (h : LendT U T T') (hs : Lends U Tc Tc') : Lends U (T :: Tc) (T' :: Tc')
theorem Lends.cells {U : List Atom} {Tc Tc' : List Ty} (h : Lends U Tc Tc') {F F' : Blk} {w : World} {vs : List Value} (hF : ∀ k, F k → F' k) (hA : ∀ A ∈ U, A.ok F w ∧ ∀ k, A.fp k → F' k) (hc : Cells Tc F w vs) : Cells Tc' F' w vs := by
  induction h generalizing vs with
  | nil => exact (by have := hc.inv0; subst this; exact .nil)
  | cons h hs ih =>
    obtain ⟨u, us, rfl, h1, h2⟩ := hc.inv
    exact .cons (h F F' w u hF hA h1) (ih h2)

/-- A call of a closure. -/
theorem op_callC {f : Operand} {fid : FuncId} {Tc Ts : List Ty} {xs : List Operand} {ts : Array TypeId} {E : List Atom} {N : Value → List Atom} {T : Value → Ty} (hc : Callable P fid) (hfn : FnOk P fid (Ts ++ Tc) E N T)
    (hf : Fct Γ f (tcloE fid Tc)) (ha : Args Γ [] xs Ts) : OpJ P ⟨d, .call { callee := .value f, args := xs.toArray, argTypes := ts }, ty, pos, af, g⟩ Γ [] E N T := by
  intro M w a hM _ hE hap _ he
  obtain ⟨caps, hfv, hcap⟩ := hf.use (by simp [Op.operands, Call.operands]) he
  have hargs := ha.cells (F := free M w) (F' := free M w) (a := a) (fun _ h => h) (fun A hA => by simp at hA) (fun p hp hx => he p hp (by simp [Op.operands, Call.operands, hx]))
  have hcells := hargs.append hcap
  simp only [Does, run_call hc hfv]
  refine Calls.mono (hfn M w _ hM hE hap hcells) ?_
  rintro e w' ⟨x, v, he, h⟩
  exact ⟨v, he, x, h⟩
/-! Copies -/

theorem own_cellsL {xs : List α} {v : Value} {F : Blk} {w : World} (h : (own R e xs v).ok F w) : ∃ us, Cells (xs.flatMap R.cs) F w us ∧ ((v = .slice none 0 0 ∧ xs = []) ∨ ∃ b cap, v = .slice (some ⟨b, 0, none⟩) xs.length cap ∧ ∀ j u, us[j]? = some u → w.cell? ⟨b, j, none⟩ = some u) := by
  rcases own_cells h with ⟨hv, hx⟩ | ⟨b, cap, cur, hv, hb, h1, h2, h3, h4⟩
  · subst hx; exact ⟨[], .nil, .inl ⟨hv, rfl⟩⟩
  · refine ⟨_, h4, .inr ⟨b, cap, hv, fun j u hu => ?_⟩⟩
    rw [List.getElem?_take] at hu
    split at hu
    · simp only [World.cell?, hb]; simpa using hu
    · cases hu

end

end Go.Sim

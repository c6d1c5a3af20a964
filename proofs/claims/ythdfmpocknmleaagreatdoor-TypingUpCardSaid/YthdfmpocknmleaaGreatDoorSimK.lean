/- The logic's eleventh part: slices of slices that the call owns: a slice of headers, and the rows. No condition. -/
import Derived.Test.YthdfmpocknmleaaGreatDoorSimJ
namespace Go.Sim

/-- A value as it is. -/
def tvs (x : Value) : Ty := ⟨fun _ _ v => v = x ∧ x.oneCell' = true, fun _ _ h => h⟩
@[reducible] def rVal : Rep Value := ⟨fun x => [tvs x], 1, false, fun _ => rfl, fun x T h F w v hv => by simp at h; subst h; obtain ⟨h1, h2⟩ := hv; rw [h1]; exact h2, fun _ => rfl⟩
def nilV : Value := .slice none 0 0
def usAt (us : List Value) (i : Int) : Value := us.getD i.toNat undef

/-- Rows that the call owns: their headers are us. -/
def rows {α : Type} (R : Rep α) (e : TypeId) (xss : List (List α)) (us : List Value) : Atom :=
  ⟨fun k => ∃ u ∈ us, u.ownBlock = some k,
    fun F w => us.length = xss.length ∧ (∀ (i : Nat) xs u, xss[i]? = some xs → us[i]? = some u → (own R e xs u).ok F w) ∧ us.Pairwise (fun (u v : Value) => ∀ k : Nat, u.ownBlock = some k → ¬ v.ownBlock = some k),
    fun hF hh hf ⟨h1, h2, h3⟩ => ⟨h1, fun i xs u hx hu => Atom.keep _ hF hh (fun k hk => hf k ⟨u, List.mem_of_getElem? hu, hk⟩) (h2 i xs u hx hu), h3⟩⟩

/-! A part of an atom -/

/-- A is a part of B; with A' in its place B becomes B'. -/
structure Focus (A A' B B' : Atom) : Prop where
  ok : ∀ F w, B.ok F w → A.ok F w
  sub : ∀ k, A.fp k → B.fp k
  fpA : ∀ k, A'.fp k ↔ A.fp k
  fpB : ∀ k, B'.fp k ↔ B.fp k
  back : ∀ {F F' : Blk} {w w' : World}, B.ok F w → (∀ k, F k → F' k) → (∀ k, F k → w'.heap[k]? = w.heap[k]?) → (∀ k, B.fp k → ¬ A.fp k → w'.heap[k]? = w.heap[k]?) → A'.ok F' w' → B'.ok F' w'

section
variable {P : Program} {o : Oper} {Γ : List (Nat × Ty)} {U : List Atom} {T : Value → Ty}

/-- What is more may be used. -/
theorem OpJ.useMore {U' : List Atom} {E : List Atom} {N : Value → List Atom} (hs : ∀ A ∈ U, A ∈ U') (h : OpJ P o Γ U E N T) : OpJ P o Γ U' E N T :=
  fun M w a hM hU hE hap hUE he => h M w a hM (fun A hA => hU A (hs A hA)) hE hap (fun A hA => hUE A (hs A hA)) he
/-- A fact that hangs on what is used: the judgement may suppose what the used atoms say. -/
theorem OpJ.say {Q : Prop} {A : Atom} {E : List Atom} {N : Value → List Atom} (hA : A ∈ U) (hq : ∀ F w, A.ok F w → Q) (h : Q → OpJ P o Γ U E N T) : OpJ P o Γ U E N T :=
  fun M w a hM hU hE hap hUE he => h (hq _ _ (hU A hA).1) M w a hM hU hE hap hUE he
end

section
variable {α : Type} {R : Rep α} {e : TypeId} {xss : List (List α)} {us : List Value}

theorem idx_lt' {β : Type} {xs : List β} {i : Int} {x : β} (h : idx xs i = some x) : 0 ≤ i ∧ i.toNat < xs.length ∧ xs[i.toNat]? = some x := by
  unfold idx at h
  split at h
  · exact ⟨by assumption, (List.getElem?_eq_some_iff.1 h).1, h⟩
  · cases h
theorem usAt_get {i : Int} {n : Nat} (hl : us.length = n) (hi : i.toNat < n) : us[i.toNat]? = some (usAt us i) := by
  unfold usAt
  rw [List.getD_eq_getElem?_getD, List.getElem?_eq_getElem (by omega)]; rfl
theorem rows_part {i : Int} {xs : List α} (h : idx xss i = some xs) : ∀ F w, (rows R e xss us).ok F w → (own R e xs (usAt us i)).ok F w := by
  intro F w ⟨h1, h2, _⟩
  obtain ⟨_, h4, h5⟩ := idx_lt' h
  exact h2 _ _ _ h5 (usAt_get h1 h4)
theorem rows_sub {i : Int} {xs : List α} : ∀ k, (own R e xs (usAt us i)).fp k → (rows R e xss us).fp k := by
  intro k hk
  have hk' : (usAt us i).ownBlock = some k := hk
  refine ⟨usAt us i, ?_, hk'⟩
  unfold usAt at hk' ⊢
  rw [List.getD_eq_getElem?_getD] at hk' ⊢
  cases hu : us[i.toNat]? with
  | none => rw [hu] at hk'; simp [undef, Value.ownBlock] at hk'
  | some u => exact List.mem_of_getElem? hu
end

/-! Operations on tables -/

section
variable {Γ : List (Nat × Ty)} {P : Program} {d : Option Tmp} {ty : TypeId} {pos : String} {af : Array Edge} {g : Option (Nat × Bool)} {x y : Operand} {T : Ty} {t e e1 e2 : TypeId} {α : Type} {R : Rep α} {bytes : Nat} {z : Value} {xss : List (List α)} {us : List Value} {v : Value}

theorem op_weak {U E : List Atom} {N : Value → List Atom} {o : Oper} {T T' : Value → Ty} (h : OpJ P o Γ U E N T) (hw : ∀ x F w v, (T x).ok F w v → (T' x).ok F w v) : OpJ P o Γ U E N T' :=
  fun M w a hM hU hE hap hUE he => (h M w a hM hU hE hap hUE he).mono fun v w' ⟨x, h1, h2, h3⟩ => ⟨x, h1, h2, hw x _ _ _ h3⟩

/-! Rows of a table -/
end

/-! The state's rules on tables -/

section
variable {M : Fr} {w0 : World} {n : Nat} {Γ : List (Nat × Ty)} {As : List Atom} {a : Act} {w : World} {α : Type}

theorem own_one {R : Rep α} {e : TypeId} {xs : List α} {v : Value} {F : Blk} {w : World} (h : (own R e xs v).ok F w) : v.oneCell' = true := by
  rcases own_cells h with ⟨hv, _⟩ | ⟨b, cap, cur, hv, _⟩ <;> rw [hv] <;> rfl
theorem own_nil_ok {R : Rep α} {e : TypeId} {F : Blk} {w : World} : (own R e ([] : List α) nilV).ok F w := ⟨[], World.ownsRow_nil _ _ _ _, rfl, fun j T u hT => by simp at hT⟩

/-- Two atoms become one, of no more blocks. -/
theorem St.merge {A B C : Atom} (h : St M w0 n Γ (A :: B :: As) a w) (hfp : ∀ k, C.fp k → A.fp k ∨ B.fp k) (hok : ∀ F w, A.ok F w → B.ok F w → (∀ k, A.fp k → ¬ B.fp k) → C.ok F w) : St M w0 n Γ (C :: As) a w := by
  have hap := h.apart
  unfold Apart at hap
  rw [List.pairwise_cons, List.pairwise_cons] at hap
  obtain ⟨h1, h2, h3⟩ := hap
  have hf : ∀ k, fps (C :: As) k → fps (A :: B :: As) k := by
    rintro k ⟨D, hD, hk⟩
    rcases List.mem_cons.1 hD with rfl | hD
    · rcases hfp k hk with h | h
      · exact ⟨A, by simp, h⟩
      · exact ⟨B, by simp, h⟩
    · exact ⟨D, by simp [hD], hk⟩
  refine ⟨h.size, h.defers, h.grow, h.m0, ?_, ?_, ?_, fun p hp => p.2.keep (hold_free hf) (fun _ _ => rfl) (h.slots p hp)⟩
  · intro D hD
    rcases List.mem_cons.1 hD with rfl | hD
    · exact hok _ _ (A.keep (hold_free hf) (fun _ _ => rfl) (fun _ _ => rfl) (h.own A (by simp))) (B.keep (hold_free hf) (fun _ _ => rfl) (fun _ _ => rfl) (h.own B (by simp))) (h1 B (by simp))
    · exact D.keep (hold_free hf) (fun _ _ => rfl) (fun _ _ => rfl) (h.own D (by simp [hD]))
  · intro D hD k hk
    rcases List.mem_cons.1 hD with rfl | hD
    · rcases hfp k hk with hh | hh
      · exact h.fresh A (by simp) k hh
      · exact h.fresh B (by simp) k hh
    · exact h.fresh D (by simp [hD]) k hk
  · refine List.pairwise_cons.2 ⟨fun D hD k hk hkD => ?_, h3⟩
    rcases hfp k hk with hh | hh
    · exact h1 D (by simp [hD]) k hh hkD
    · exact h2 D hD k hh hkD

theorem rows_put {R : Rep α} {e : TypeId} {xs : List α} {u : Value} {xss yss : List (List α)} {us : List Value} {i : Int} {F : Blk} {w : World} (hs : setAt xss i xs = some yss) (hA : (own R e xs u).ok F w) (hB : (rows R e xss us).ok F w)
    (hd : ∀ k, (own R e xs u).fp k → ¬ (rows R e xss us).fp k) : (rows R e yss (us.set i.toNat u)).ok F w := by
  obtain ⟨h1, h2, h3⟩ := hB
  unfold setAt at hs
  split at hs
  · rename_i hc
    obtain rfl := Option.some.inj hs
    have hi : i.toNat < xss.length := by omega
    refine ⟨by simpa using h1, fun j zs u' hj hu' => ?_, ?_⟩
    · rw [List.getElem?_set] at hj hu'
      by_cases hji : i.toNat = j
      · rw [if_pos hji, if_pos (by omega)] at hj hu'
        obtain rfl := Option.some.inj hj
        obtain rfl := Option.some.inj hu'
        exact hA
      · rw [if_neg hji] at hj hu'
        exact h2 j zs u' hj hu'
    · rw [List.pairwise_iff_getElem] at h3 ⊢
      intro p q hp hq hpq k hk hk2
      rw [List.getElem_set] at hk hk2
      simp only [List.length_set] at hp hq
      by_cases hip : i.toNat = p
      · rw [if_pos hip] at hk
        rw [if_neg (by omega)] at hk2
        exact hd k hk ⟨_, List.getElem_mem hq, hk2⟩
      · rw [if_neg hip] at hk
        by_cases hiq : i.toNat = q
        · rw [if_pos hiq] at hk2
          exact hd k hk2 ⟨_, List.getElem_mem hp, hk⟩
        · rw [if_neg hiq] at hk2
          exact h3 p q hp hq hpq k hk hk2
  · cases hs
theorem mem_set_or {l : List Value} {i : Nat} {u v : Value} (h : v ∈ l.set i u) : v = u ∨ v ∈ l := by
  rcases List.mem_or_eq_of_mem_set h with h | h
  · exact .inr h
  · exact .inl h
/-- A row is put into a table. -/
theorem St.put {R : Rep α} {e : TypeId} {xs : List α} {u : Value} {xss yss : List (List α)} {us : List Value} (i : Int) (hs : setAt xss i xs = some yss) (h : St M w0 n Γ (Sim.own R e xs u :: rows R e xss us :: As) a w) : St M w0 n Γ (rows R e yss (us.set i.toNat u) :: As) a w :=
  h.merge (fun k ⟨v, hv, hk⟩ => by
    rcases mem_set_or hv with rfl | hv
    · exact .inl hk
    · exact .inr ⟨v, hv, hk⟩) (fun _ _ hA hB hd => rows_put hs hA hB hd)
/-- A table that the call owned is only read from now on. -/
theorem tsl_of_table {R : Rep α} {e1 e2 : TypeId} {xss : List (List α)} {us : List Value} {v : Value} {F F' : Blk} {w : World} (hF : ∀ k, F k → F' k) (h1 : (own rVal e1 us v).ok F w) (h2 : (rows R e2 xss us).ok F w) (f1 : ∀ k, (own rVal e1 us v).fp k → F' k)
    (f2 : ∀ k, (rows R e2 xss us).fp k → F' k) : (tsl (rSl R) xss).ok F' w v := by
  obtain ⟨hl, hr, _⟩ := h2
  rcases own_cells h1 with ⟨hv, hx⟩ | ⟨b, cap, cur, hv, hb, c1, c2, c3, c4⟩
  · have : xss = [] := List.eq_nil_of_length_eq_zero (by rw [← hl, hx]; rfl)
    subst this
    exact ⟨none, 0, hv, Nat.le_refl _, fun h => (h rfl).elim⟩
  · refine ⟨_, cap, by rw [hv, hl], by omega, fun _ => ⟨b, 0, rfl, f1 b (by rw [hv]; exact own_fp.2 rfl), fun j T hT => ?_⟩⟩
    have hj : j < xss.length := by
      have := (List.getElem?_eq_some_iff.1 hT).1
      rw [flatMap_len] at this
      simpa using this
    have hT2 : T = tsl R xss[j] := by
      have := flatMap_get (rSl R) xss j 0 xss[j] (List.getElem?_eq_getElem hj) Nat.one_pos
      simp only [Nat.mul_one, Nat.add_zero] at this
      rw [this] at hT
      simpa using hT.symm
    subst hT2
    have hju : j < us.length := by omega
    have hju2 : j < (cur.toList.take (us.length * 1)).length := by
      rw [c4.1, flatMap_len]; simpa using hju
    have hT3 : (us.flatMap rVal.cs)[j]? = some (tvs us[j]) := by
      have := flatMap_get rVal us j 0 us[j] (List.getElem?_eq_getElem hju) Nat.one_pos
      simp only [Nat.mul_one, Nat.add_zero] at this
      rw [this]; rfl
    have hcell := c4.2 j _ _ hT3 (List.getElem?_eq_getElem hju2)
    obtain ⟨hval, _⟩ := hcell
    have hcj : j < cur.size := by simp at hju2; omega
    refine ⟨us[j], ?_, ?_⟩
    · rw [← hval]
      simp [World.cell?, hb, hcj]
    · have hown := hr j xss[j] us[j] (List.getElem?_eq_getElem hj) (List.getElem?_eq_getElem hju)
      exact ArgOk.own (x := .const us[j]) (Γ := []) (U := [Sim.own R e2 xss[j] us[j]]) (R := R) (e := e2) (xs := xss[j]) (v := us[j]) .k (by simp) F F' w ⟨#[], []⟩ hF (fun A hA => by
        simp at hA; subst hA
        exact ⟨hown, fun k hk => f2 k ⟨us[j], List.getElem_mem hju, hk⟩⟩) (fun p hp => by simp at hp)
theorem ArgOk.table {U : List Atom} {x : Operand} {R : Rep α} {e1 e2 : TypeId} {xss : List (List α)} {us : List Value} {v : Value} (h : Fct Γ x (tv v)) (h1 : Sim.own rVal e1 us v ∈ U) (h2 : rows R e2 xss us ∈ U) : ArgOk Γ U x (tsl (rSl R) xss) := by
  intro F F' w a hF hA h0
  have hv : a.eval x = v := h F w a h0
  rw [hv]
  exact tsl_of_table hF (hA _ h1).1 (hA _ h2).1 (hA _ h1).2 (hA _ h2).2
theorem ArgOk.row {U : List Atom} {x : Operand} {R : Rep α} {e2 : TypeId} {xss : List (List α)} {xs : List α} {us : List Value} {i : Int} (h : Fct Γ x (tv (usAt us i))) (hi : idx xss i = some xs) (hU : rows R e2 xss us ∈ U) : ArgOk Γ U x (tsl R xs) := by
  intro F F' w a hF hA h0
  have hv : a.eval x = usAt us i := h F w a h0
  obtain ⟨hok, hfp⟩ := hA _ hU
  have := ArgOk.own (x := .const (usAt us i)) (Γ := []) (U := [Sim.own R e2 xs (usAt us i)]) (R := R) (e := e2) (xs := xs) (v := usAt us i) .k (by simp) F F' w ⟨#[], []⟩ hF (fun A hA' => by
    simp at hA'; subst hA'
    exact ⟨rows_part hi _ _ hok, fun k hk => hfp k (rows_sub (xss := xss) k hk)⟩) (fun p hp => by simp at hp)
  rw [hv]; exact this
end

end Go.Sim

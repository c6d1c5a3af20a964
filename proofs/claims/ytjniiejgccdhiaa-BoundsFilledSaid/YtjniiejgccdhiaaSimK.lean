/- The logic's eleventh part: slices of slices that the call owns: a slice of headers, and the rows. No condition. -/
import Derived.Test.YtjniiejgccdhiaaSimJ
namespace Go.Sim

/-- A value as it is. -/
def tvs (x : Value) : Ty := ⟨fun _ _ v => v = x ∧ x.oneCell' = true, fun _ _ h => h⟩
@[reducible] def rVal : Rep Value := ⟨fun x => [tvs x], 1, false, fun _ => rfl, fun x T h F w v hv => by simp at h; subst h; obtain ⟨h1, h2⟩ := hv; rw [h1]; exact h2, fun _ => rfl⟩
def nilV : Value := .slice none 0 0
theorem flat_tvs {x : Value} : FlatT (tvs x) := fun _ _ _ _ h => h

def usAt (us : List Value) (i : Int) : Value := us.getD i.toNat undef

/-- Rows that the call owns: their headers are us. -/
def rows {α : Type} (R : Rep α) (e : TypeId) (xss : List (List α)) (us : List Value) : Atom :=
  ⟨fun k => ∃ u ∈ us, u.ownBlock = some k,
    fun F w => us.length = xss.length ∧ (∀ (i : Nat) xs u, xss[i]? = some xs → us[i]? = some u → (own R e xs u).ok F w) ∧ us.Pairwise (fun (u v : Value) => ∀ k : Nat, u.ownBlock = some k → ¬ v.ownBlock = some k),
    fun hF hh hf ⟨h1, h2, h3⟩ => ⟨h1, fun i xs u hx hu => Atom.keep _ hF hh (fun k hk => hf k ⟨u, List.mem_of_getElem? hu, hk⟩) (h2 i xs u hx hu), h3⟩⟩

/-! A part of an atom -/

/-- A is a part of B; with A' in its place B becomes B'. -/
structure Focus (A A' B B' : Atom) : Prop where
  ok : ∀ F w, B.ok F w → A.ok F w
  sub : ∀ k, A.fp k → B.fp k
  fpA : ∀ k, A'.fp k ↔ A.fp k
  fpB : ∀ k, B'.fp k ↔ B.fp k
  back : ∀ {F F' : Blk} {w w' : World}, B.ok F w → (∀ k, F k → F' k) → (∀ k, F k → w'.heap[k]? = w.heap[k]?) → (∀ k, B.fp k → ¬ A.fp k → w'.heap[k]? = w.heap[k]?) → A'.ok F' w' → B'.ok F' w'

section
variable {P : Program} {o : Oper} {Γ : List (Nat × Ty)} {U : List Atom} {T : Value → Ty}

theorem OpJ.focus {A A' B B' : Atom} (hf : Focus A A' B B') (h : OpJ P o Γ U [A] (fun _ => [A']) T) : OpJ P o Γ U [B] (fun _ => [B']) T := by
  intro M w a hM hU hE _ hUE he
  obtain ⟨hB, hBM⟩ := hE B (List.mem_singleton.2 rfl)
  have hA : Given M [A] w := fun C hC => by obtain rfl := List.mem_singleton.1 hC; exact ⟨hf.ok _ _ hB, fun k hk => hBM k (hf.sub k hk)⟩
  refine (h M w a hM hU hA (List.pairwise_singleton _ _) (fun C hC D hD k hk hkD => ?_) he).mono ?_
  · obtain rfl := List.mem_singleton.1 hD
    exact hUE C hC B (List.mem_singleton.2 rfl) k hk (hf.sub k hkD)
  · rintro v w' ⟨x, hs, hm, ht⟩
    have hfree : ∀ k, free (next M [A] [A']) w' k → free (next M [B] [B']) w' k := by
      rintro k ⟨h1, h2⟩
      refine ⟨h1, ?_⟩
      have hnM : M k → False := fun hk => by
        by_cases hA : A.fp k
        · exact h2 (.inr (eatFp_one.2 ((hf.fpA k).2 hA)))
        · exact h2 (.inl ⟨hk, fun h => hA (eatFp_one.1 h)⟩)
      rintro (⟨hk, _⟩ | hk)
      · exact hnM hk
      · exact hnM (hBM k ((hf.fpB k).1 (eatFp_one.1 hk)))
    refine ⟨x, hs.mono (fun k hk => eatFp_one.2 (hf.sub k (eatFp_one.1 hk))), made_one (fun k hk => ?_) ?_, (T x).keep hfree (fun _ _ => rfl) ht⟩
    · have hkB := (hf.fpB k).1 hk
      exact ⟨.inl (eatFp_one.2 hkB), Nat.lt_of_lt_of_le (hM k (hBM k hkB)) hs.size⟩
    · have hA' := hm.ok A' (List.mem_singleton.2 rfl)
      refine hf.back hB (fun k hk => ?_) (fun k hk => hs.same k hk.1 (fun h => ?_)) (fun k hk hn => hs.same k (hM k (hBM k hk)) (fun h => hn (eatFp_one.1 h))) (A'.keep hfree (fun _ _ => rfl) (fun _ _ => rfl) hA')
      · refine free_next hs.size (fun j hj => hBM j (eatFp_one.1 hj)) (fun C hC j hj => ?_) hk
        obtain rfl := List.mem_singleton.1 hC
        exact .inl (eatFp_one.2 ((hf.fpB j).1 hj))
      · exact hk.2 (hBM k (hf.sub k (eatFp_one.1 h)))

/-- An operation that uses a part of an atom uses the atom. -/
theorem OpJ.usePart {A B : Atom} {E : List Atom} {N : Value → List Atom} (hok : ∀ F w, B.ok F w → A.ok F w) (hsub : ∀ k, A.fp k → B.fp k) (h : OpJ P o Γ (A :: U) E N T) : OpJ P o Γ (B :: U) E N T := by
  intro M w a hM hU hE hap hUE he
  obtain ⟨hB, hBM⟩ := hU B (List.mem_cons_self ..)
  refine h M w a hM (fun C hC => ?_) hE hap (fun C hC D hD k hk hkD => ?_) he
  · rcases List.mem_cons.1 hC with rfl | hC
    · exact ⟨hok _ _ hB, fun k hk => hBM k (hsub k hk)⟩
    · exact hU C (List.mem_cons_of_mem _ hC)
  · rcases List.mem_cons.1 hC with rfl | hC
    · exact hUE B (List.mem_cons_self ..) D hD k (hsub k hk) hkD
    · exact hUE C (List.mem_cons_of_mem _ hC) D hD k hk hkD
/-- What is more may be used. -/
theorem OpJ.useMore {U' : List Atom} {E : List Atom} {N : Value → List Atom} (hs : ∀ A ∈ U, A ∈ U') (h : OpJ P o Γ U E N T) : OpJ P o Γ U' E N T :=
  fun M w a hM hU hE hap hUE he => h M w a hM (fun A hA => hU A (hs A hA)) hE hap (fun A hA => hUE A (hs A hA)) he
/-- A fact that hangs on what is used: the judgement may suppose what the used atoms say. -/
theorem OpJ.say {Q : Prop} {A : Atom} {E : List Atom} {N : Value → List Atom} (hA : A ∈ U) (hq : ∀ F w, A.ok F w → Q) (h : Q → OpJ P o Γ U E N T) : OpJ P o Γ U E N T :=
  fun M w a hM hU hE hap hUE he => h (hq _ _ (hU A hA).1) M w a hM hU hE hap hUE he
end

section
variable {α : Type} {R : Rep α} {e : TypeId} {xss : List (List α)} {us : List Value}

theorem idx_lt' {β : Type} {xs : List β} {i : Int} {x : β} (h : idx xs i = some x) : 0 ≤ i ∧ i.toNat < xs.length ∧ xs[i.toNat]? = some x := by
  unfold idx at h
  split at h
  · exact ⟨by assumption, (List.getElem?_eq_some_iff.1 h).1, h⟩
  · cases h
theorem usAt_get {i : Int} {n : Nat} (hl : us.length = n) (hi : i.toNat < n) : us[i.toNat]? = some (usAt us i) := by
  unfold usAt
  rw [List.getD_eq_getElem?_getD, List.getElem?_eq_getElem (by omega)]; rfl
theorem rows_part {i : Int} {xs : List α} (h : idx xss i = some xs) : ∀ F w, (rows R e xss us).ok F w → (own R e xs (usAt us i)).ok F w := by
  intro F w ⟨h1, h2, _⟩
  obtain ⟨_, h4, h5⟩ := idx_lt' h
  exact h2 _ _ _ h5 (usAt_get h1 h4)
theorem own_none {xs : List α} {F : Blk} {w : World} (h : (own R e xs undef).ok F w) : False := by
  rcases own_cells h with ⟨hv, _⟩ | ⟨b, cap, cur, hv, _⟩ <;> simp [undef] at hv
theorem rows_sub {i : Int} {xs : List α} : ∀ k, (own R e xs (usAt us i)).fp k → (rows R e xss us).fp k := by
  intro k hk
  have hk' : (usAt us i).ownBlock = some k := hk
  refine ⟨usAt us i, ?_, hk'⟩
  unfold usAt at hk' ⊢
  rw [List.getD_eq_getElem?_getD] at hk' ⊢
  cases hu : us[i.toNat]? with
  | none => rw [hu] at hk'; simp [undef, Value.ownBlock] at hk'
  | some u => exact List.mem_of_getElem? hu
theorem rows_focus {i : Int} {xs ys : List α} {yss : List (List α)} (h : idx xss i = some xs) (hs : setAt xss i ys = some yss) : Focus (own R e xs (usAt us i)) (own R e ys (usAt us i)) (rows R e xss us) (rows R e yss us) := by
  obtain ⟨h0, hlt, hx⟩ := idx_lt' h
  have hyss : yss = xss.set i.toNat ys := by
    unfold setAt at hs
    rw [if_pos ⟨h0, by omega⟩] at hs
    exact (Option.some.inj hs).symm
  refine ⟨rows_part h, rows_sub, fun k => Iff.rfl, fun k => Iff.rfl, ?_⟩
  rintro F F' w w' ⟨h1, h2, h3⟩ hF hh hn hA'
  have hu := usAt_get (us := us) (i := i) h1 hlt
  refine ⟨by rw [hyss]; simpa using h1, fun j zs u hj hu' => ?_, h3⟩
  rw [hyss, List.getElem?_set] at hj
  by_cases hji : i.toNat = j
  · subst hji
    rw [if_pos rfl, if_pos hlt] at hj
    obtain rfl := Option.some.inj hj
    rw [hu] at hu'
    obtain rfl := Option.some.inj hu'
    exact hA'
  · rw [if_neg hji] at hj
    refine Atom.keep _ hF hh (fun k hk => hn k ⟨u, List.mem_of_getElem? hu', hk⟩ (fun hk2 => ?_)) (h2 j zs u hj hu')
    have hk' : u.ownBlock = some k := hk
    have hk2' : (usAt us i).ownBlock = some k := hk2
    rw [List.pairwise_iff_getElem] at h3
    obtain ⟨l1, e1⟩ := List.getElem?_eq_some_iff.1 hu
    obtain ⟨l2, e2⟩ := List.getElem?_eq_some_iff.1 hu'
    rcases Nat.lt_trichotomy i.toNat j with hlt2 | he | hgt
    · exact h3 _ _ l1 l2 hlt2 k (by rw [e1]; exact hk2') (by rw [e2]; exact hk')
    · exact hji he
    · exact h3 _ _ l2 l1 hgt k (by rw [e2]; exact hk') (by rw [e1]; exact hk2')
theorem rows_len {F : Blk} {w : World} (h : (rows R e xss us).ok F w) : us.length = xss.length := h.1
end

/-! Operations on tables -/

section
variable {Γ : List (Nat × Ty)} {P : Program} {d : Option Tmp} {ty : TypeId} {pos : String} {af : Array Edge} {g : Option (Nat × Bool)} {x y : Operand} {T : Ty} {t e e1 e2 : TypeId} {α : Type} {R : Rep α} {bytes : Nat} {z : Value} {xss : List (List α)} {us : List Value} {v : Value}

theorem op_weak {U E : List Atom} {N : Value → List Atom} {o : Oper} {T T' : Value → Ty} (h : OpJ P o Γ U E N T) (hw : ∀ x F w v, (T x).ok F w v → (T' x).ok F w v) : OpJ P o Γ U E N T' :=
  fun M w a hM hU hE hap hUE he => (h M w a hM hU hE hap hUE he).mono fun v w' ⟨x, h1, h2, h3⟩ => ⟨x, h1, h2, hw x _ _ _ h3⟩

theorem op_lenT (ht : P.underlying t = some (.slice e)) (hx : Fct Γ x (tv v)) : OpJ P ⟨d, .call { callee := .builtin .len, args := #[x], argTypes := #[t] }, ty, pos, af, g⟩ Γ [own rVal e1 us v, rows R e2 xss us] [] (fun _ => []) (fun _ => tv (.int .i64 xss.length)) :=
  .say (A := rows R e2 xss us) (by simp) (fun _ _ h => rows_len h) fun hl => (hl ▸ (op_lenO (R := rVal) (e' := e1) (xs := us) ht hx).useMore (fun A hA => by simp at hA; simp [hA]))
/-- The address of a row's header. -/
theorem op_indexT {i : Int} {k : IntKind} {xs : List α} (ht : P.underlying t = some (.slice e)) (hz : TOk P e rVal bytes z) (hx : Fct Γ x (tv v)) (hi : Fct Γ y (tv (.int k i))) (h : idx xss i = some xs) :
    OpJ P ⟨d, .indexAddr t x y, ty, pos, af, g⟩ Γ [own rVal e1 us v, rows R e2 xss us] [] (fun _ => []) (fun _ => tv (elemP v (i.toNat * rVal.n))) :=
  .say (A := rows R e2 xss us) (by simp) (fun _ _ h => rows_len h) fun hl => by
    obtain ⟨h0, hlt, _⟩ := idx_lt' h
    exact (op_indexO (R := rVal) (e' := e1) (xs := us) ht hz hx hi h0 (by omega)).useMore (fun A hA => by simp at hA; simp [hA])
theorem op_indexTs {i : Int} {k : IntKind} {xs : List α} {yss : List (List α)} (ht : P.underlying t = some (.slice e)) (hz : TOk P e rVal bytes z) (hx : Fct Γ x (tv v)) (hi : Fct Γ y (tv (.int k i))) (h : setAt xss i xs = some yss) :
    OpJ P ⟨d, .indexAddr t x y, ty, pos, af, g⟩ Γ [own rVal e1 us v, rows R e2 xss us] [] (fun _ => []) (fun _ => tv (elemP v (i.toNat * rVal.n))) := by
  unfold setAt at h
  split at h
  · rename_i hc
    exact op_indexT (xs := xss[i.toNat]'(by omega)) ht hz hx hi (by unfold idx; rw [if_pos hc.1, List.getElem?_eq_getElem (by omega)])
  · cases h
/-- A row's header. -/
theorem op_loadT2 {i : Int} {xs : List α} (hz : TOk P t rVal bytes z) (hp : Fct Γ x (tv (elemP v (i.toNat * rVal.n)))) (h : idx xss i = some xs) : OpJ P ⟨d, .load t x, ty, pos, af, g⟩ Γ [own rVal e1 us v, rows R e2 xss us] [] (fun _ => []) (fun _ => tv (usAt us i)) :=
  .say (A := rows R e2 xss us) (by simp) (fun _ _ h => rows_len h) fun hl => by
    obtain ⟨h0, hlt, _⟩ := idx_lt' h
    have hi : idx us i = some (usAt us i) := by
      unfold idx; rw [if_pos h0]; exact usAt_get hl hlt
    exact (op_weak ((op_loadO (R := rVal) (e := e1) hz hp hi).useMore (fun A hA => by simp at hA; simp [hA])) (fun _ _ _ _ h => h.1))
/-- A row's header is replaced. -/
theorem op_storeT {i : Int} {ws : List Value} {u : Value} (hz : TOk P t rVal bytes z) (hp : Fct Γ x (tv (elemP v (i.toNat * rVal.n)))) (hx : Fct Γ y (tv u)) (hu : u.oneCell' = true) (h : setAt us i u = some ws) :
    OpJ P ⟨d, .store t x y, ty, pos, af, g⟩ Γ [] [own rVal e1 us v] (fun _ => [own rVal e1 ws v]) (fun _ => tany) :=
  op_storeO (R := rVal) hz hp (hx.weak fun _ _ _ h => ⟨h, hu⟩) h

/-! Rows of a table -/
theorem op_lenR {i : Int} {xs : List α} (ht : P.underlying t = some (.slice e)) (hx : Fct Γ x (tv (usAt us i))) (h : idx xss i = some xs) : OpJ P ⟨d, .call { callee := .builtin .len, args := #[x], argTypes := #[t] }, ty, pos, af, g⟩ Γ [rows R e2 xss us] [] (fun _ => []) (fun _ => tv (.int .i64 xs.length)) :=
  .usePart (rows_part h) rows_sub (op_lenO ht hx)
theorem op_indexRi {i j : Int} {k : IntKind} {xs : List α} {u : α} (ht : P.underlying t = some (.slice e)) (hz : TOk P e R bytes z) (hx : Fct Γ x (tv (usAt us i))) (hj : Fct Γ y (tv (.int k j))) (h : idx xss i = some xs) (hu : idx xs j = some u) :
    OpJ P ⟨d, .indexAddr t x y, ty, pos, af, g⟩ Γ [rows R e2 xss us] [] (fun _ => []) (fun _ => tv (elemP (usAt us i) (j.toNat * R.n))) :=
  .usePart (rows_part h) rows_sub (op_indexOi ht hz hx hj hu)
theorem op_indexRs {i j : Int} {k : IntKind} {xs ys : List α} {u : α} (ht : P.underlying t = some (.slice e)) (hz : TOk P e R bytes z) (hx : Fct Γ x (tv (usAt us i))) (hj : Fct Γ y (tv (.int k j))) (h : idx xss i = some xs) (hu : setAt xs j u = some ys) :
    OpJ P ⟨d, .indexAddr t x y, ty, pos, af, g⟩ Γ [rows R e2 xss us] [] (fun _ => []) (fun _ => tv (elemP (usAt us i) (j.toNat * R.n))) :=
  .usePart (rows_part h) rows_sub (op_indexOs ht hz hx hj hu)
theorem op_loadR {i j : Int} {xs : List α} {u : α} (hz : TOk P t R bytes z) (hp : Fct Γ x (tv (elemP (usAt us i) (j.toNat * R.n)))) (h : idx xss i = some xs) (hu : idx xs j = some u) : OpJ P ⟨d, .load t x, ty, pos, af, g⟩ Γ [rows R e2 xss us] [] (fun _ => []) (fun _ => R.ty u) :=
  .usePart (rows_part h) rows_sub (op_loadO hz hp hu)
theorem op_storeR {i j : Int} {xs ys : List α} {yss : List (List α)} {u : α} (hz : TOk P t R bytes z) (hp : Fct Γ x (tv (elemP (usAt us i) (j.toNat * R.n)))) (hx : Fct Γ y (R.ty u)) (h : idx xss i = some xs) (hu : setAt xs j u = some ys) (hs : setAt xss i ys = some yss) :
    OpJ P ⟨d, .store t x y, ty, pos, af, g⟩ Γ [] [rows R e2 xss us] (fun _ => [rows R e2 yss us]) (fun _ => tany) :=
  .focus (rows_focus h hs) (op_storeO hz hp hx hu)
end

/-! The state's rules on tables -/

section
variable {M : Fr} {w0 : World} {n : Nat} {Γ : List (Nat × Ty)} {As : List Atom} {a : Act} {w : World} {α : Type}

theorem own_one {R : Rep α} {e : TypeId} {xs : List α} {v : Value} {F : Blk} {w : World} (h : (own R e xs v).ok F w) : v.oneCell' = true := by
  rcases own_cells h with ⟨hv, _⟩ | ⟨b, cap, cur, hv, _⟩ <;> rw [hv] <;> rfl
theorem own_nil_ok {R : Rep α} {e : TypeId} {F : Blk} {w : World} : (own R e ([] : List α) nilV).ok F w := ⟨[], World.ownsRow_nil _ _ _ _, rfl, fun j T u hT => by simp at hT⟩

/-- Rows of nil. -/
theorem St.rows0 (R : Rep α) (e : TypeId) (m : Nat) (h : St M w0 n Γ As a w) : St M w0 n Γ (rows R e (List.replicate m ([] : List α)) (List.replicate m nilV) :: As) a w := by
  have hfp : ∀ k, ¬ (rows R e (List.replicate m ([] : List α)) (List.replicate m nilV)).fp k := by
    rintro k ⟨u, hu, hk⟩
    obtain ⟨_, rfl⟩ := List.mem_replicate.1 hu
    simp [nilV, Value.ownBlock] at hk
  have hf : ∀ k, fps (rows R e (List.replicate m ([] : List α)) (List.replicate m nilV) :: As) k → fps As k := by
    rintro k ⟨A, hA, hk⟩
    rcases List.mem_cons.1 hA with rfl | hA
    · exact (hfp k hk).elim
    · exact ⟨A, hA, hk⟩
  refine ⟨h.size, h.defers, h.grow, h.m0, ?_, ?_, ?_, fun p hp => p.2.keep (hold_free hf) (fun _ _ => rfl) (h.slots p hp)⟩
  · intro A hA
    rcases List.mem_cons.1 hA with rfl | hA
    · refine ⟨by simp, fun i xs u hx hu => ?_, ?_⟩
      · obtain ⟨_, rfl⟩ := List.mem_replicate.1 (List.mem_of_getElem? hx)
        obtain ⟨_, rfl⟩ := List.mem_replicate.1 (List.mem_of_getElem? hu)
        exact own_nil_ok
      · refine List.Pairwise.imp_of_mem (R := fun _ _ => True) (fun {u v} hu _ _ k hk => ?_) (List.pairwise_of_forall (fun _ _ => trivial))
        obtain ⟨_, rfl⟩ := List.mem_replicate.1 hu
        simp [nilV, Value.ownBlock] at hk
    · exact A.keep (hold_free hf) (fun _ _ => rfl) (fun _ _ => rfl) (h.own A hA)
  · intro A hA k hk
    rcases List.mem_cons.1 hA with rfl | hA
    · exact (hfp k hk).elim
    · exact h.fresh A hA k hk
  · exact List.pairwise_cons.2 ⟨fun B _ k hk => (hfp k hk).elim, h.apart⟩

/-- Two atoms become one, of no more blocks. -/
theorem St.merge {A B C : Atom} (h : St M w0 n Γ (A :: B :: As) a w) (hfp : ∀ k, C.fp k → A.fp k ∨ B.fp k) (hok : ∀ F w, A.ok F w → B.ok F w → (∀ k, A.fp k → ¬ B.fp k) → C.ok F w) : St M w0 n Γ (C :: As) a w := by
  have hap := h.apart
  unfold Apart at hap
  rw [List.pairwise_cons, List.pairwise_cons] at hap
  obtain ⟨h1, h2, h3⟩ := hap
  have hf : ∀ k, fps (C :: As) k → fps (A :: B :: As) k := by
    rintro k ⟨D, hD, hk⟩
    rcases List.mem_cons.1 hD with rfl | hD
    · rcases hfp k hk with h | h
      · exact ⟨A, by simp, h⟩
      · exact ⟨B, by simp, h⟩
    · exact ⟨D, by simp [hD], hk⟩
  refine ⟨h.size, h.defers, h.grow, h.m0, ?_, ?_, ?_, fun p hp => p.2.keep (hold_free hf) (fun _ _ => rfl) (h.slots p hp)⟩
  · intro D hD
    rcases List.mem_cons.1 hD with rfl | hD
    · exact hok _ _ (A.keep (hold_free hf) (fun _ _ => rfl) (fun _ _ => rfl) (h.own A (by simp))) (B.keep (hold_free hf) (fun _ _ => rfl) (fun _ _ => rfl) (h.own B (by simp))) (h1 B (by simp))
    · exact D.keep (hold_free hf) (fun _ _ => rfl) (fun _ _ => rfl) (h.own D (by simp [hD]))
  · intro D hD k hk
    rcases List.mem_cons.1 hD with rfl | hD
    · rcases hfp k hk with hh | hh
      · exact h.fresh A (by simp) k hh
      · exact h.fresh B (by simp) k hh
    · exact h.fresh D (by simp [hD]) k hk
  · refine List.pairwise_cons.2 ⟨fun D hD k hk hkD => ?_, h3⟩
    rcases hfp k hk with hh | hh
    · exact h1 D (by simp [hD]) k hh hkD
    · exact h2 D hD k hh hkD

theorem rows_put {R : Rep α} {e : TypeId} {xs : List α} {u : Value} {xss yss : List (List α)} {us : List Value} {i : Int} {F : Blk} {w : World} (hs : setAt xss i xs = some yss) (hA : (own R e xs u).ok F w) (hB : (rows R e xss us).ok F w)
    (hd : ∀ k, (own R e xs u).fp k → ¬ (rows R e xss us).fp k) : (rows R e yss (us.set i.toNat u)).ok F w := by
  obtain ⟨h1, h2, h3⟩ := hB
  unfold setAt at hs
  split at hs
  · rename_i hc
    obtain rfl := Option.some.inj hs
    have hi : i.toNat < xss.length := by omega
    refine ⟨by simpa using h1, fun j zs u' hj hu' => ?_, ?_⟩
    · rw [List.getElem?_set] at hj hu'
      by_cases hji : i.toNat = j
      · rw [if_pos hji, if_pos (by omega)] at hj hu'
        obtain rfl := Option.some.inj hj
        obtain rfl := Option.some.inj hu'
        exact hA
      · rw [if_neg hji] at hj hu'
        exact h2 j zs u' hj hu'
    · rw [List.pairwise_iff_getElem] at h3 ⊢
      intro p q hp hq hpq k hk hk2
      rw [List.getElem_set] at hk hk2
      simp only [List.length_set] at hp hq
      by_cases hip : i.toNat = p
      · rw [if_pos hip] at hk
        rw [if_neg (by omega)] at hk2
        exact hd k hk ⟨_, List.getElem_mem hq, hk2⟩
      · rw [if_neg hip] at hk
        by_cases hiq : i.toNat = q
        · rw [if_pos hiq] at hk2
          exact hd k hk2 ⟨_, List.getElem_mem hp, hk⟩
        · rw [if_neg hiq] at hk2
          exact h3 p q hp hq hpq k hk hk2
  · cases hs
theorem mem_set_or {l : List Value} {i : Nat} {u v : Value} (h : v ∈ l.set i u) : v = u ∨ v ∈ l := by
  rcases List.mem_or_eq_of_mem_set h with h | h
  · exact .inr h
  · exact .inl h
/-- A row is put into a table. -/
theorem St.put {R : Rep α} {e : TypeId} {xs : List α} {u : Value} {xss yss : List (List α)} {us : List Value} (i : Int) (hs : setAt xss i xs = some yss) (h : St M w0 n Γ (Sim.own R e xs u :: rows R e xss us :: As) a w) : St M w0 n Γ (rows R e yss (us.set i.toNat u) :: As) a w :=
  h.merge (fun k ⟨v, hv, hk⟩ => by
    rcases mem_set_or hv with rfl | hv
    · exact .inl hk
    · exact .inr ⟨v, hv, hk⟩) (fun _ _ hA hB hd => rows_put hs hA hB hd)
/-- A row is put behind a table. -/
theorem St.push {R : Rep α} {e : TypeId} {xs : List α} {u : Value} {xss : List (List α)} {us : List Value} (h : St M w0 n Γ (Sim.own R e xs u :: rows R e xss us :: As) a w) : St M w0 n Γ (rows R e (xss ++ [xs]) (us ++ [u]) :: As) a w :=
  h.merge (fun k ⟨v, hv, hk⟩ => by
    rcases List.mem_append.1 hv with hv | hv
    · exact .inr ⟨v, hv, hk⟩
    · obtain rfl := List.mem_singleton.1 hv
      exact .inl hk) (fun F w hA ⟨h1, h2, h3⟩ hd => by
    refine ⟨by simp [h1], fun j zs u' hj hu' => ?_, ?_⟩
    · by_cases hjl : j < xss.length
      · rw [List.getElem?_append_left hjl] at hj
        rw [List.getElem?_append_left (by omega)] at hu'
        exact h2 j zs u' hj hu'
      · rw [List.getElem?_append_right (by omega)] at hj
        rw [List.getElem?_append_right (by omega), h1] at hu'
        match hq : j - xss.length, hj, hu' with
        | 0, hj, hu' =>
          simp at hj hu'
          subst hj; subst hu'
          exact hA
        | m + 1, hj, _ => simp at hj
    · refine List.pairwise_append.2 ⟨h3, List.pairwise_singleton _ _, fun v hv u' hu' k hk hk2 => ?_⟩
      obtain rfl := List.mem_singleton.1 hu'
      exact hd k hk2 ⟨v, hv, hk⟩)

/-- A table that the call owned is only read from now on. -/
theorem tsl_of_table {R : Rep α} {e1 e2 : TypeId} {xss : List (List α)} {us : List Value} {v : Value} {F F' : Blk} {w : World} (hF : ∀ k, F k → F' k) (h1 : (own rVal e1 us v).ok F w) (h2 : (rows R e2 xss us).ok F w) (f1 : ∀ k, (own rVal e1 us v).fp k → F' k)
    (f2 : ∀ k, (rows R e2 xss us).fp k → F' k) : (tsl (rSl R) xss).ok F' w v := by
  obtain ⟨hl, hr, _⟩ := h2
  rcases own_cells h1 with ⟨hv, hx⟩ | ⟨b, cap, cur, hv, hb, c1, c2, c3, c4⟩
  · have : xss = [] := List.eq_nil_of_length_eq_zero (by rw [← hl, hx]; rfl)
    subst this
    exact ⟨none, 0, hv, Nat.le_refl _, fun h => (h rfl).elim⟩
  · refine ⟨_, cap, by rw [hv, hl], by omega, fun _ => ⟨b, 0, rfl, f1 b (by rw [hv]; exact own_fp.2 rfl), fun j T hT => ?_⟩⟩
    have hj : j < xss.length := by
      have := (List.getElem?_eq_some_iff.1 hT).1
      rw [flatMap_len] at this
      simpa using this
    have hT2 : T = tsl R xss[j] := by
      have := flatMap_get (rSl R) xss j 0 xss[j] (List.getElem?_eq_getElem hj) Nat.one_pos
      simp only [Nat.mul_one, Nat.add_zero] at this
      rw [this] at hT
      simpa using hT.symm
    subst hT2
    have hju : j < us.length := by omega
    have hju2 : j < (cur.toList.take (us.length * 1)).length := by
      rw [c4.1, flatMap_len]; simpa using hju
    have hT3 : (us.flatMap rVal.cs)[j]? = some (tvs us[j]) := by
      have := flatMap_get rVal us j 0 us[j] (List.getElem?_eq_getElem hju) Nat.one_pos
      simp only [Nat.mul_one, Nat.add_zero] at this
      rw [this]; rfl
    have hcell := c4.2 j _ _ hT3 (List.getElem?_eq_getElem hju2)
    obtain ⟨hval, _⟩ := hcell
    have hcj : j < cur.size := by simp at hju2; omega
    refine ⟨us[j], ?_, ?_⟩
    · rw [← hval]
      simp [World.cell?, hb, hcj]
    · have hown := hr j xss[j] us[j] (List.getElem?_eq_getElem hj) (List.getElem?_eq_getElem hju)
      exact ArgOk.own (x := .const us[j]) (Γ := []) (U := [Sim.own R e2 xss[j] us[j]]) (R := R) (e := e2) (xs := xss[j]) (v := us[j]) .k (by simp) F F' w ⟨#[], []⟩ hF (fun A hA => by
        simp at hA; subst hA
        exact ⟨hown, fun k hk => f2 k ⟨us[j], List.getElem_mem hju, hk⟩⟩) (fun p hp => by simp at hp)
theorem ArgOk.table {U : List Atom} {x : Operand} {R : Rep α} {e1 e2 : TypeId} {xss : List (List α)} {us : List Value} {v : Value} (h : Fct Γ x (tv v)) (h1 : Sim.own rVal e1 us v ∈ U) (h2 : rows R e2 xss us ∈ U) : ArgOk Γ U x (tsl (rSl R) xss) := by
  intro F F' w a hF hA h0
  have hv : a.eval x = v := h F w a h0
  rw [hv]
  exact tsl_of_table hF (hA _ h1).1 (hA _ h2).1 (hA _ h1).2 (hA _ h2).2
theorem ArgOk.row {U : List Atom} {x : Operand} {R : Rep α} {e2 : TypeId} {xss : List (List α)} {xs : List α} {us : List Value} {i : Int} (h : Fct Γ x (tv (usAt us i))) (hi : idx xss i = some xs) (hU : rows R e2 xss us ∈ U) : ArgOk Γ U x (tsl R xs) := by
  intro F F' w a hF hA h0
  have hv : a.eval x = usAt us i := h F w a h0
  obtain ⟨hok, hfp⟩ := hA _ hU
  have := ArgOk.own (x := .const (usAt us i)) (Γ := []) (U := [Sim.own R e2 xs (usAt us i)]) (R := R) (e := e2) (xs := xs) (v := usAt us i) .k (by simp) F F' w ⟨#[], []⟩ hF (fun A hA' => by
    simp at hA'; subst hA'
    exact ⟨rows_part hi _ _ hok, fun k hk => hfp k (rows_sub (xss := xss) k hk)⟩) (fun p hp => by simp at hp)
  rw [hv]; exact this
theorem St.shareT {R : Rep α} {e1 e2 : TypeId} {xss : List (List α)} {us : List Value} {v : Value} {s : Nat} (i : Nat) (h : St M w0 n Γ (Sim.own rVal e1 us v :: rows R e2 xss us :: As) a w) (hi : Γ[i]? = some (s, tv v)) : St M w0 n ((s, tsl (rSl R) xss) :: Γ) As a w := by
  have hs := h.sub ((List.sublist_cons_self (rows R e2 xss us) As).trans (List.sublist_cons_self _ _))
  refine ⟨hs.size, hs.defers, hs.grow, hs.m0, hs.own, hs.fresh, hs.apart, fun p hp => ?_⟩
  rcases List.mem_cons.1 hp with rfl | hp
  · have hv : get a s = v := h.slots (s, tv v) (List.mem_of_getElem? hi)
    have hap := h.apart
    unfold Apart at hap
    rw [List.pairwise_cons, List.pairwise_cons] at hap
    obtain ⟨a1, a2, _⟩ := hap
    have hfree : ∀ A, A ∈ (Sim.own rVal e1 us v :: rows R e2 xss us :: As) → (∀ B ∈ As, ∀ k, A.fp k → ¬ B.fp k) → ∀ k, A.fp k → free (hold M.m As) w k := by
      intro A hA hd k hk
      have hfr := h.fresh A hA k hk
      refine ⟨hfr.2, ?_⟩
      rintro (hm | ⟨B, hB, hkB⟩)
      · have := h.m0 k hm
        rcases hfr.1 with hb | hb
        · exact this.2 hb
        · omega
      · exact hd B hB k hk hkB
    show (tsl (rSl R) xss).ok _ _ (get a s)
    rw [hv]
    exact tsl_of_table (hold_free (fun k ⟨A, hA, hk⟩ => ⟨A, by simp [hA], hk⟩)) (h.own _ (by simp)) (h.own _ (by simp)) (hfree _ (by simp) (fun B hB => a1 B (by simp [hB]))) (hfree _ (by simp) a2)
  · exact hs.slots p hp
end

end Go.Sim

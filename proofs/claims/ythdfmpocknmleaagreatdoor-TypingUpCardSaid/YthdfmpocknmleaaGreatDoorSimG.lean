/- The logic's seventh part: appends, parts of slices, structs, calls. No condition. -/
import Derived.Test.YthdfmpocknmleaaGreatDoorSimF
namespace Go.Sim

/-- What a call of a function does: it is given the atoms E, which it may change. -/
def FnOk (P : Program) (f : FuncId) (Ts : List Ty) (E : List Atom) (N : Value → List Atom) (T : Value → Ty) : Prop :=
  ∀ (M : Blk) (w : World) (vs : List Value), (∀ k, M k → k < w.heap.size) → Given M E w → Apart E → Cells Ts (free M w) w vs →
    Calls P f vs.toArray w (fun e w' => ∃ x v, e = .returned v ∧ Step (eatFp E) w w' ∧ Made M E (N x) w w' ∧ (T x).ok (free (next M E (N x)) w') w' v)

/-- A function value, and what it has captured. -/
def tclo (f : FuncId) (caps : List Value) (Tc : List Ty) : Ty :=
  ⟨fun F w v => v = .func (.func f) #[] caps.toArray ∧ Cells Tc F w caps, fun hF hh h => ⟨h.1, Cells.keep hF hh h.2⟩⟩

structure Callable (P : Program) (f : FuncId) : Prop where
  fn : ∃ fn, P.funcs[f]? = some fn ∧ (fn.name == "runtime.NumGoroutine") = false ∧ fn.body.isNone = false

def ArgOk (Γ : List (Nat × Ty)) (U : List Atom) (x : Operand) (T : Ty) : Prop :=
  ∀ (F F' : Blk) (w : World) (a : Act), (∀ k, F k → F' k) → (∀ A ∈ U, A.ok F w ∧ ∀ k, A.fp k → F' k) → (∀ p ∈ Γ, Operand.tmp p.1 = x → p.2.ok F w (get a p.1)) → T.ok F' w (a.eval x)
inductive Args (Γ : List (Nat × Ty)) (U : List Atom) : List Operand → List Ty → Prop where
  | nil : Args Γ U [] []
  | cons {x : Operand} {T : Ty} {xs : List Operand} {Ts : List Ty} (h : ArgOk Γ U x T) (hs : Args Γ U xs Ts) : Args Γ U (x :: xs) (T :: Ts)

def FlatT (T : Ty) : Prop := ∀ (F F' : Blk) (w : World) (v : Value), T.ok F w v → T.ok F' w v
def FlatA (A : Atom) : Prop := ∀ (F F' : Blk) (w : World), A.ok F w → A.ok F' w

theorem Row.flatMap_sub {α : Type} (R : Rep α) (xs : List α) (i m : Nat) (h : i + m ≤ xs.length) : ((xs.drop i).take m).flatMap R.cs = ((xs.flatMap R.cs).drop (i * R.n)).take (m * R.n) := by
  have e1 : xs.flatMap R.cs = (xs.take i).flatMap R.cs ++ ((xs.drop i).take m).flatMap R.cs ++ ((xs.drop i).drop m).flatMap R.cs := by
    rw [← List.flatMap_append, ← List.flatMap_append, List.append_assoc, List.take_append_drop, List.take_append_drop]
  have l1 : ((xs.take i).flatMap R.cs).length = i * R.n := by rw [flatMap_len]; congr 1; simp; omega
  have l2 : (((xs.drop i).take m).flatMap R.cs).length = m * R.n := by rw [flatMap_len]; congr 1; simp; omega
  rw [e1, List.append_assoc, ← l1, List.drop_left, ← l2, List.take_left]

section
variable {Γ : List (Nat × Ty)} {P : Program} {d : Option Tmp} {ty : TypeId} {pos : String} {af : Array Edge} {g : Option (Nat × Bool)} {x y : Operand} {T : Ty} {t e : TypeId} {α : Type} {R : Rep α} {bytes : Nat} {z : Value}

theorem op_max {k : IntKind} {a b : Int} {ts : Array TypeId} (hx : Fct Γ x (tv (.int k a))) (hy : Fct Γ y (tv (.int k b))) : OpJ P ⟨d, .call { callee := .builtin .max, args := #[x, y], argTypes := ts }, ty, pos, af, g⟩ Γ [] [] (fun _ => []) (fun _ => tv (.int k (imax a b))) :=
  opj_pure fun F w A he => by
    have h1 := hx.val (by simp [Op.operands, Call.operands]) he
    have h2 := hy.val (by simp [Op.operands, Call.operands]) he
    exact ⟨_, by simp [execOp, resolve, invoke, builtin, Builtin.max_, Builtin.max2, h1, h2, imax], rfl⟩
theorem op_min {k : IntKind} {a b : Int} {ts : Array TypeId} (hx : Fct Γ x (tv (.int k a))) (hy : Fct Γ y (tv (.int k b))) : OpJ P ⟨d, .call { callee := .builtin .min, args := #[x, y], argTypes := ts }, ty, pos, af, g⟩ Γ [] [] (fun _ => []) (fun _ => tv (.int k (imin a b))) :=
  opj_pure fun F w A he => by
    have h1 := hx.val (by simp [Op.operands, Call.operands]) he
    have h2 := hy.val (by simp [Op.operands, Call.operands]) he
    exact ⟨_, by simp [execOp, resolve, invoke, builtin, Builtin.min_, Builtin.min2, h1, h2, imin], rfl⟩

/-! Parts of a slice -/

/-- A bound of a slice expression: none, or an operand with a number. -/
inductive Bd (Γ : List (Nat × Ty)) : Option Operand → Int → Int → Prop where
  | no (dflt : Int) : Bd Γ none dflt dflt
  | op {x : Operand} {k : IntKind} {i dflt : Int} (h : Fct Γ x (tv (.int k i))) : Bd Γ (some x) dflt i

theorem Bd.use {b : Option Operand} {i dflt : Int} {xs : Array Operand} {F : Blk} {w : World} {A : Act} (h : Bd Γ b dflt i) (hx : ∀ y, b = some y → y ∈ xs) (he : EnvOk Γ xs F w A) : (b.map A.eval = none ∧ i = dflt) ∨ ∃ k, b.map A.eval = some (.int k i) := by
  cases h with
  | no => exact .inl ⟨rfl, rfl⟩
  | op h => exact .inr ⟨_, congrArg some (h.val (hx _ rfl) he)⟩

theorem op_slice {xs ys : List α} {lo hi : Option Operand} {i j : Int} (ht : P.underlying t = some (.slice e)) (hz : TOk P e R bytes z) (hx : Fct Γ x (tsl R xs)) (hlo : Bd Γ lo 0 i) (hhi : Bd Γ hi xs.length j) (h : sub xs i j = some ys) :
    OpJ P ⟨d, .slice t x lo hi none, ty, pos, af, g⟩ Γ [] [] (fun _ => []) (fun _ => tsl R ys) :=
  opj_pure fun F w A he => by
    obtain ⟨ad, cap, hv, hlc, hr⟩ := hx.use (by simp [Op.operands]) he
    obtain ⟨ti, hti, _, hs, _⟩ := hz.info
    unfold sub at h
    split at h
    · rename_i hc
      obtain ⟨c0, c1, c2⟩ := hc
      simp only [Option.some.injEq] at h
      have hb : (Instr.sliceBounds true xs.length cap (lo.map A.eval) (hi.map A.eval) none).run P w = .ok (i.toNat, j.toNat, cap) w := by
        have ej : ((j.toNat : Nat) : Int) = j := by omega
        rcases hlo.use (by rintro y rfl; simp [Op.operands]) he with ⟨e1, e2⟩ | ⟨k1, e1⟩ <;> rcases hhi.use (by rintro y rfl; simp [Op.operands]) he with ⟨f1, f2⟩ | ⟨k2, f1⟩
        · rw [e1, f1, e2, f2]; simp [Instr.sliceBounds]
        · rw [e1, f1, e2]
          simp only [Instr.sliceBounds, Sem.run_bind, Sem.run_pure, Result.andThen_ok, run_sliceBound w k2 j cap _ (by omega) (by omega)]
          rfl
        · rw [e1, f1, f2]
          simp only [Instr.sliceBounds, Sem.run_bind, Sem.run_pure, Result.andThen_ok, run_sliceBound w k1 i xs.length _ c0 (by omega)]
          simp
        · rw [e1, f1]
          simp only [Instr.sliceBounds, Sem.run_bind, Sem.run_pure, Result.andThen_ok, run_sliceBound w k2 j cap _ (by omega) (by omega), run_sliceBound w k1 i j.toNat _ c0 (by omega)]
      refine ⟨.slice (if cap = i.toNat then ad else ad.map (·.add (i.toNat * R.n))) (j.toNat - i.toNat) (cap - i.toNat), ?_, ?_⟩
      · simp [execOp, Instr.sliceAt, run_underlying ht, Instr.slice, hv, hb, sizeOf, typeInfo, hti, hs]
      · have hyl : ys.length = j.toNat - i.toNat := by rw [← h]; simp; omega
        refine ⟨_, cap - i.toNat, by rw [hyl], by omega, fun hne => ?_⟩
        have hpos : 0 < ys.length := by
          rcases Nat.eq_zero_or_pos ys.length with h0 | h0
          · exact (hne (List.eq_nil_of_length_eq_zero h0)).elim
          · exact h0
        obtain ⟨b, off, ha, hb, hrow⟩ := hr (fun hn => by rw [hn] at c2; simp at c2; omega)
        refine ⟨b, off + i.toNat * R.n, ?_, hb, ?_⟩
        · rw [if_neg (by omega), ha]; simp [addr_add]
        · rw [← h, Row.flatMap_sub R xs _ _ (by omega)]
          refine (hrow.part (i.toNat * R.n)).head ?_
          rw [List.length_take, List.take_eq_take_iff]
          simp
    · cases h

/-! Appends -/

theorem own_cells {xs : List α} {v : Value} {F : Blk} {w : World} (h : (own R e xs v).ok F w) :
    (v = .slice none 0 0 ∧ xs = []) ∨ ∃ b cap cur, v = .slice (some ⟨b, 0, none⟩) xs.length cap ∧ w.heap[b]? = some (.cells cur e (0, 0)) ∧ xs.length ≤ cap ∧ cap ≤ maxLen ∧ cur.size = cap * R.n ∧ Cells (xs.flatMap R.cs) F w (cur.toList.take (xs.length * R.n)) := by
  obtain ⟨us, ho, hc⟩ := h
  rcases ho.2 with ⟨hv, hn⟩ | ⟨b, cap, cur, hv, _, hb, h1, h2, h3, h4⟩
  · exact .inl ⟨hv, List.eq_nil_of_length_eq_zero hn⟩
  · exact .inr ⟨b, cap, cur, hv, hb, h1, h2, h3, by rw [h4]; exact hc⟩
theorem own_mk {xs : List α} {b cap : Nat} {cur : Array Value} {F : Blk} {w : World} (hb : w.heap[b]? = some (.cells cur e (0, 0))) (h1 : xs.length ≤ cap) (h2 : cap ≤ maxLen) (h3 : cur.size = cap * R.n) (h4 : Cells (xs.flatMap R.cs) F w (cur.toList.take (xs.length * R.n))) :
    (own R e xs (.slice (some ⟨b, 0, none⟩) xs.length cap)).ok F w :=
  ⟨cur.toList.take (xs.length * R.n), ⟨by rw [h4.1, flatMap_len], .inr ⟨b, cap, cur, rfl, Nat.zero_le _, hb, h1, h2, h3, rfl⟩⟩, h4⟩

theorem Cells.append {Ts Us : List Ty} {F : Blk} {w : World} {us vs : List Value} (h : Cells Ts F w us) (k : Cells Us F w vs) : Cells (Ts ++ Us) F w (us ++ vs) := by
  have e1 := h.1
  refine ⟨by simp [h.1, k.1], fun j T u hT hu => ?_⟩
  by_cases hj : j < Ts.length
  · rw [List.getElem?_append_left hj] at hT
    rw [List.getElem?_append_left (by omega)] at hu
    exact h.2 j T u hT hu
  · rw [List.getElem?_append_right (by omega)] at hT
    rw [List.getElem?_append_right (by omega), e1] at hu
    exact k.2 _ T u hT hu

theorem own_fp {xs : List α} {k b n c : Nat} : (own R e xs (.slice (some ⟨b, 0, none⟩) n c)).fp k ↔ k = b := by
  show some b = some k ↔ k = b
  constructor
  · intro h; cases h; rfl
  · rintro rfl; rfl

theorem run_append {xs ys : List α} {v : Value} {F F' : Blk} {w : World} {ad : Option Addr} {c : Nat} (ht : P.underlying t = some (.slice e)) (hz : TOk P e R bytes z) (hb : bytes ≤ 2048)
    (ho : (own R e xs v).ok F w) (hF : ∀ k, F k → k < w.heap.size ∧ ¬ (own R e xs v).fp k) (hFF : ∀ k, F k → F' k) (hr : ys ≠ [] → ∃ b off, ad = some ⟨b, off, none⟩ ∧ Row (ys.flatMap R.cs) F w b off) (h : rm (xs.length + ys.length) = some ()) :
    ∃ v' w', (Builtin.append_ #[t, t] ty #[v, .slice ad ys.length c]).run P w = .ok v' w' ∧ Step (own R e xs v).fp w w' ∧ (∀ k, (own R e (xs ++ ys) v').fp k → ((own R e xs v).fp k ∨ w.heap.size ≤ k) ∧ k < w'.heap.size) ∧ (own R e (xs ++ ys) v').ok F' w' := by
  obtain ⟨ti, hti, hzz, hs, hbb⟩ := hz.info
  have hroom : xs.length + ys.length ≤ 68719476736 := by unfold rm at h; split at h <;> first | assumption | cases h
  have hlt : ∀ k, (own R e xs v).fp k → k < w.heap.size := by
    intro k hk
    rcases own_cells ho with ⟨hv, _⟩ | ⟨b, cap, cur, hv, hbk, _⟩
    · rw [hv] at hk; cases hk
    · rw [hv] at hk
      rw [own_fp.1 hk]
      exact (Array.getElem?_eq_some_iff.1 hbk).1
  by_cases hy : ys = []
  · subst hy
    refine ⟨v, w, ?_, Step.refl _ _, fun k hk => ⟨.inl hk, hlt k hk⟩, ?_⟩
    · rcases own_cells ho with ⟨hv, hx⟩ | ⟨b, cap, cur, hv, hbk, h1, _⟩
      · subst hv
        cases ad <;> simp [Builtin.append_, run_underlying ht, sizeOf, typeInfo, hti, Builtin.lenOf, Builtin.firstCells, loadCells, loadCellsFrom]
      · subst hv
        cases ad <;> simp [Builtin.append_, run_underlying ht, sizeOf, typeInfo, hti, Builtin.lenOf, Builtin.firstCells, loadCells, loadCellsFrom, h1, storeCells]
    · rw [List.append_nil]
      exact Atom.keep _ hFF (fun _ _ => rfl) (fun _ _ => rfl) ho
  · obtain ⟨b, off, ha, hrow⟩ := hr hy
    subst ha
    obtain ⟨news, hcn, hcell⟩ := row_list _ _ hrow
    have hm : 0 < ys.length := by
      rcases Nat.eq_zero_or_pos ys.length with h0 | h0
      · exact (hy (List.eq_nil_of_length_eq_zero h0)).elim
      · exact h0
    have hnl : news.length = ys.length * ti.size := by rw [hcn.1, flatMap_len, hs]
    have hnews : ∀ j u, news[j]? = some u → w.cell? ((⟨b, off, none⟩ : Addr).add j) = some u := fun j u hu => by rw [addr_add]; exact hcell j u hu
    have hone : ∀ u ∈ news, u.oneCell' = true := by
      intro u hu
      obtain ⟨j, hj⟩ := List.mem_iff_getElem?.1 hu
      have hjl : j < (ys.flatMap R.cs).length := by rw [← hcn.1]; exact (List.getElem?_eq_some_iff.1 hj).1
      have hT := hcn.2 j _ u (List.getElem?_eq_getElem hjl) hj
      obtain ⟨q, _, hq⟩ := List.mem_flatMap.1 (List.getElem_mem hjl)
      exact R.one q _ hq F w u hT
    have hzn : z.cells.size = R.n := hz.zc
    rcases own_cells ho with ⟨hv, hx⟩ | ⟨gb, cap, cur, hv, hbk, h1, h2, h3, h4⟩
    · subst hv; subst hx
      simp only [List.length_nil, Nat.zero_add] at hroom
      have hbyt : ys.length * ti.bytes ≤ 281474976710656 := by
        rw [hbb]
        calc ys.length * bytes ≤ 68719476736 * 2048 := Nat.mul_le_mul hroom hb
          _ ≤ 281474976710656 := by omega
      have hrun := run_append_nil (P := P) w t ty e ti z ht hti hzz ⟨b, off, none⟩ ys.length c news hnl hnews hm (by omega) hbyt
      have hge := grownCap_ge w ys.length 0 e
      have hle := grownCap_le_maxLen w ys.length 0 e (by unfold maxLen; omega)
      refine ⟨_, _, hrun, ⟨rfl, rfl, rfl, by simp, fun k hk _ => Go.RowKit.Below.heap_alloc w.drew _ k hk⟩, ?_, ?_⟩
      · intro k hk
        rw [own_fp.1 hk]
        exact ⟨.inr (Nat.le_refl _), by simp⟩
      · rw [List.nil_append]
        refine own_mk (cur := news.toArray ++ Builtin.zeroCells z.cells (grownCap w ys.length 0 e - ys.length)) (heap_alloc_new w.drew _) hge hle ?_ ?_
        · simp only [Array.size_append, List.size_toArray, size_zeroCells, hnl, hzn, hs, ← Nat.add_mul]
          congr 1; omega
        · have e1 : (news.toArray ++ Builtin.zeroCells z.cells (grownCap w ys.length 0 e - ys.length)).toList.take (ys.length * R.n) = news := by
            rw [Array.toList_append, List.take_left' (by rw [hnl, hs])]
          rw [e1]
          exact hcn.keepE hFF (fun k hk => Go.RowKit.Below.heap_alloc w.drew _ k (hF k hk).1)
    · subst hv
      have holdl : (cur.toList.take (xs.length * R.n)).length = xs.length * ti.size := by rw [h4.1, flatMap_len, hs]
      have hxl : xs.length * R.n ≤ cur.size := by rw [h3]; exact Nat.mul_le_mul_right _ h1
      by_cases hcap : xs.length + ys.length ≤ cap
      · have hfit : xs.length * ti.size + news.length ≤ cur.size := by rw [hnl, h3, hs, ← Nat.add_mul]; exact Nat.mul_le_mul_right _ hcap
        have hrun := run_append_room (P := P) w t ty e ti ht hti gb xs.length cap cur hbk ⟨b, off, none⟩ ys.length c news hnl hnews hone hcap hfit
        refine ⟨_, _, hrun, setRow_step (own_fp.2 rfl), ?_, ?_⟩
        · intro k hk
          rw [own_fp.1 hk]
          exact ⟨.inl (own_fp.2 rfl), by simpa using (Array.getElem?_eq_some_iff.1 hbk).1⟩
        · rw [← List.length_append]
          refine own_mk (setRow_heap w gb cur _ e _ hbk) (by simpa using hcap) h2 ?_ ?_
          · simp only [List.size_toArray, List.length_append, List.length_take, List.length_drop, Array.length_toList, hs]
            rw [hs] at hfit
            omega
          · have e1 : (cur.toList.take (xs.length * ti.size) ++ news ++ cur.toList.drop (xs.length * ti.size + news.length)).take ((xs ++ ys).length * R.n) = cur.toList.take (xs.length * R.n) ++ news := by
              rw [hs]
              refine List.take_left' ?_
              rw [List.length_append, hnl, hs, List.length_take, List.length_append, Nat.add_mul]
              simp; omega
            simp only
            rw [e1, List.flatMap_append]
            refine (h4.append hcn).keepE hFF (fun k hk => setRow_other w gb k _ (fun e => ?_))
            exact (hF k hk).2 (own_fp.2 e)
      · have hbyt : (xs.length + ys.length) * ti.bytes ≤ 140737488355328 := by
          rw [hbb]
          calc (xs.length + ys.length) * bytes ≤ 68719476736 * 2048 := Nat.mul_le_mul hroom hb
            _ ≤ 140737488355328 := by omega
        have holds : ∀ j u, (cur.toList.take (xs.length * R.n))[j]? = some u → w.cell? ((⟨gb, 0, none⟩ : Addr).add j) = some u := by
          intro j u hu
          rw [List.getElem?_take] at hu
          split at hu
          · rw [addr_add, Nat.zero_add]
            simpa [World.cell?, hbk] using hu
          · cases hu
        have hrun := run_append_grow (P := P) w t ty e ti z ht hti hzz ⟨gb, 0, none⟩ xs.length cap _ holdl holds ⟨b, off, none⟩ ys.length c news hnl hnews (by omega) (by omega) (growslice_fits (by omega) hbyt)
        have hge := grownCap_ge w (xs.length + ys.length) cap e
        have hle := grownCap_le_maxLen w (xs.length + ys.length) cap e (by unfold maxLen; omega)
        refine ⟨_, _, hrun, ⟨rfl, rfl, rfl, by simp, fun k hk _ => Go.RowKit.Below.heap_alloc w.drew _ k hk⟩, ?_, ?_⟩
        · intro k hk
          rw [own_fp.1 hk]
          exact ⟨.inr (Nat.le_refl _), by simp⟩
        · have el : xs.length + ys.length = (xs ++ ys).length := by simp
          have hge' := hge
          rw [el] at hge' hle ⊢
          refine own_mk (heap_alloc_new w.drew _) hge' hle ?_ ?_
          · simp only [Array.size_append, List.size_toArray, size_zeroCells, holdl, hnl, hzn, hs, ← Nat.add_mul]
            congr 1; omega
          · have e1 : (((cur.toList.take (xs.length * R.n)).toArray ++ news.toArray ++ Builtin.zeroCells z.cells (grownCap w (xs ++ ys).length cap e - (xs ++ ys).length)).toList).take ((xs ++ ys).length * R.n) = cur.toList.take (xs.length * R.n) ++ news := by
              rw [Array.toList_append, Array.toList_append]
              refine List.take_left' ?_
              simp only [List.length_append, holdl, hnl, hs, Nat.add_mul]
            rw [e1, List.flatMap_append]
            exact (h4.append hcn).keepE hFF (fun k hk => Go.RowKit.Below.heap_alloc w.drew _ k (hF k hk).1)

theorem op_append {xs ys : List α} {v : Value} (ht : P.underlying t = some (.slice e)) (hz : TOk P e R bytes z) (hb : bytes ≤ 2048) (hx : Fct Γ x (tv v)) (hy : Fct Γ y (tsl R ys)) (h : rm (xs.length + ys.length) = some ()) :
    OpJ P ⟨d, .call { callee := .builtin .append, args := #[x, y], argTypes := #[t, t] }, ty, pos, af, g⟩ Γ [] [own R e xs v] (fun v' => [own R e (xs ++ ys) v']) (fun v' => tv v') := by
  intro M w A hM _ hE _ _ he
  obtain ⟨ho, hfp⟩ := hE _ (List.mem_singleton.2 rfl)
  have hgiv := given_fp hE
  have h1 := hx.val (by simp [Op.operands, Call.operands]) he
  obtain ⟨ad, cap, h2, _, hr⟩ := hy.use (by simp [Op.operands, Call.operands]) he
  obtain ⟨v', w', hrun, hstep, hfp', hok⟩ := run_append (ty := ty) (c := cap) (F := free M w) (F' := fun k => k < w.heap.size ∧ ¬ M k) ht hz hb ho (fun k hk => ⟨hk.1, fun hf => hk.2 (hfp k hf)⟩) (fun k hk => hk)
    (fun hne => let ⟨b, off, ha, _, hrow⟩ := hr hne; ⟨b, off, ha, hrow⟩) h
  have hexec : (execOp A.eval (⟨d, .call { callee := .builtin .append, args := #[x, y], argTypes := #[t, t] }, ty, pos, af, g⟩ : Oper)).run P w = .ok (.value v') w' := by
    simp only [execOp, resolve, invoke, builtin, Sem.run_bind, Sem.run_pure, Result.andThen_ok, List.map_toArray, List.map_cons, List.map_nil, h1, h2, hrun]
  simp only [Does, hexec]
  refine ⟨v', hstep.mono (fun k hk => eatFp_one.2 hk), made_one (fun k hk => ⟨(hfp' k hk).1.imp eatFp_one.2 id, (hfp' k hk).2⟩) ?_, rfl⟩
  refine Atom.keep _ (fun k hk => ?_) (fun _ _ => rfl) (fun _ _ => rfl) hok
  refine free_next hstep.size hgiv (fun B hB j hj => ?_) hk
  obtain rfl := List.mem_singleton.1 hB
  exact (hfp' j hj).1.imp eatFp_one.2 id

/-! Calls -/

theorem ArgOk.of {U : List Atom} (h : Fct Γ x T) : ArgOk Γ U x T := fun F _ w a hF _ h0 => T.keep hF (fun _ _ => rfl) (h F w a h0)
theorem ArgOk.own {U : List Atom} {xs : List α} {v : Value} (h : Fct Γ x (tv v)) (hU : own R e xs v ∈ U) : ArgOk Γ U x (tsl R xs) := by
  intro F F' w a hF hA h0
  have hv : a.eval x = v := h F w a h0
  obtain ⟨hok, hfp⟩ := hA _ hU
  rw [hv]
  rcases own_cells hok with ⟨hvv, hx⟩ | ⟨b, cap, cur, hvv, hb, h1, h2, h3, h4⟩
  · subst hx; exact ⟨none, 0, hvv, Nat.le_refl _, fun h => (h rfl).elim⟩
  · refine ⟨_, cap, hvv, h1, fun _ => ⟨b, 0, rfl, hfp b (by rw [hvv]; exact own_fp.2 rfl), fun j T hT => ?_⟩⟩
    have hj : j < (cur.toList.take (xs.length * R.n)).length := by rw [h4.1]; exact (List.getElem?_eq_some_iff.1 hT).1
    refine ⟨(cur.toList.take (xs.length * R.n))[j], ?_, T.keep hF (fun _ _ => rfl) (h4.2 j T _ hT (List.getElem?_eq_getElem hj))⟩
    have hj2 : j < cur.size := by simp at hj; omega
    simp [World.cell?, hb, hj2]
theorem ArgOk.box {U : List Atom} {Ts : List Ty} {q : Value} (h : Fct Γ x (tv q)) (hU : box Ts q ∈ U) : ArgOk Γ U x (tand (tv q) (tptr Ts)) := by
  intro F F' w a hF hA h0
  have hv : a.eval x = q := h F w a h0
  obtain ⟨hok, hfp⟩ := hA _ hU
  obtain ⟨b, hq, hrow⟩ := box_row hok
  refine ⟨hv, b, 0, hv.trans hq, hfp b hq, fun j T hj => ?_⟩
  obtain ⟨u, hu, ht⟩ := hrow j T hj
  exact ⟨u, hu, T.keep hF (fun _ _ => rfl) ht⟩
theorem Fct.fn {f : FuncId} : Fct Γ (.func f) (tclo f [] []) := fun _ _ _ _ => ⟨rfl, rfl, fun j T u h => by simp at h⟩
/-- Values that a closure has captured: variables that the caller owns and lends to be read, variables that it gives, and others. -/
inductive Capt (U : List Atom) : List Value → List Ty → Prop where
  | nil : Capt U [] []
  | box {q : Value} {Ts : List Ty} {qs : List Value} {Tc : List Ty} (hU : Sim.box Ts q ∈ U) (hs : Capt U qs Tc) : Capt U (q :: qs) (tand (tv q) (tptr Ts) :: Tc)
  | val {q : Value} {qs : List Value} {Tc : List Ty} (hs : Capt U qs Tc) : Capt U (q :: qs) (tv q :: Tc)
theorem Capt.cells {U : List Atom} {qs : List Value} {Tc : List Ty} (h : Capt U qs Tc) {F F' : Blk} {w : World} (hF : ∀ k, F k → F' k) (hA : ∀ A ∈ U, A.ok F w ∧ ∀ k, A.fp k → F' k) : Cells Tc F' w qs := by
  induction h with
  | nil => exact ⟨rfl, fun j T u h => by simp at h⟩
  | @box q Ts qs Tc hU hs ih =>
    obtain ⟨hok, hfp⟩ := hA _ hU
    obtain ⟨b, hq, hrow⟩ := box_row hok
    refine ⟨by simp [ih.1], fun j T u hT hu => ?_⟩
    cases j with
    | zero =>
      simp at hT hu
      subst hT; subst hu
      refine ⟨rfl, b, 0, hq, hfp b hq, fun j T hj => ?_⟩
      obtain ⟨u, hu, ht⟩ := hrow j T hj
      exact ⟨u, hu, T.keep hF (fun _ _ => rfl) ht⟩
    | succ j => exact ih.2 j T u (by simpa using hT) (by simpa using hu)
  | @val q qs Tc hs ih =>
    refine ⟨by simp [ih.1], fun j T u hT hu => ?_⟩
    cases j with
    | zero => simp at hT hu; subst hT; subst hu; exact rfl
    | succ j => exact ih.2 j T u (by simpa using hT) (by simpa using hu)
theorem Args.cells {U : List Atom} {xs : List Operand} {Ts : List Ty} {F F' : Blk} {w : World} {a : Act} (h : Args Γ U xs Ts) (hF : ∀ k, F k → F' k) (hU : ∀ A ∈ U, A.ok F w ∧ ∀ k, A.fp k → F' k) (he : ∀ p ∈ Γ, Operand.tmp p.1 ∈ xs → p.2.ok F w (get a p.1)) :
    Cells Ts F' w (xs.map a.eval) := by
  induction h with
  | nil => exact ⟨rfl, fun j T u h => by simp at h⟩
  | @cons x T xs Ts h hs ih =>
    have h1 := h F F' w a hF hU (fun p hp e => he p hp (by rw [e]; simp))
    have h2 := ih (fun p hp e => he p hp (by simp [e]))
    refine ⟨by simp [h2.1], fun j T' u hT hu => ?_⟩
    cases j with
    | zero => simp at hT hu; subst hT; subst hu; exact h1
    | succ j => exact h2.2 j T' u (by simpa using hT) (by simpa using hu)

theorem run_call {f : Operand} {fid : FuncId} {caps : List Value} {xs : List Operand} {ts : Array TypeId} {w : World} {a : Act} (hc : Callable P fid) (hf : a.eval f = .func (.func fid) #[] caps.toArray) :
    (execOp a.eval (⟨d, .call { callee := .value f, args := xs.toArray, argTypes := ts }, ty, pos, af, g⟩ : Oper)).run P w = .ok (.enter fid (xs.map a.eval ++ caps).toArray) w := by
  obtain ⟨fn, h1, h2, h3⟩ := hc
  simp only [execOp, resolve, Deferred.ofValue, hf, invoke, callFunc, Sem.run_bind, Sem.run_pure, run_program, Result.andThen_ok, h1, h2, h3, Bool.false_eq_true, if_false, List.map_toArray]
  simp

theorem op_call {f : Operand} {fid : FuncId} {caps : List Value} {Tc Ts : List Ty} {xs : List Operand} {ts : Array TypeId} {E : List Atom} {N : Value → List Atom} {T : Value → Ty} (hc : Callable P fid) (hfn : FnOk P fid (Ts ++ Tc) E N T)
    (hf : Fct Γ f (tclo fid caps Tc)) (ha : Args Γ [] xs Ts) : OpJ P ⟨d, .call { callee := .value f, args := xs.toArray, argTypes := ts }, ty, pos, af, g⟩ Γ [] E N T := by
  intro M w a hM _ hE hap _ he
  obtain ⟨hfv, hcap⟩ := hf.use (by simp [Op.operands, Call.operands]) he
  have hargs := ha.cells (F := free M w) (F' := free M w) (a := a) (fun _ h => h) (fun A hA => by simp at hA) (fun p hp hx => he p hp (by simp [Op.operands, Call.operands, hx]))
  have hcells := hargs.append hcap
  simp only [Does, run_call hc hfv]
  refine Calls.mono (hfn M w _ hM hE hap hcells) ?_
  rintro e w' ⟨x, v, he, h⟩
  exact ⟨v, he, x, h⟩

/-- A call that reads what the caller owns (U). -/
theorem op_callU {f : Operand} {fid : FuncId} {caps : List Value} {Tc Ts : List Ty} {xs : List Operand} {ts : Array TypeId} {E : List Atom} {N : Value → List Atom} {T : Value → Ty} (U : List Atom) (hc : Callable P fid) (hfn : FnOk P fid (Ts ++ Tc) E N T)
    (hf : ArgOk Γ U f (tclo fid caps Tc)) (ha : Args Γ U xs Ts) (hT : ∀ x, FlatT (T x)) (hN : ∀ x, ∀ A ∈ N x, FlatA A) : OpJ P ⟨d, .call { callee := .value f, args := xs.toArray, argTypes := ts }, ty, pos, af, g⟩ Γ U E N T := by
  intro M w a hM hU hE hap hUE he
  have hM' : ∀ k, (M k ∧ ¬ ∃ A ∈ U, A.fp k) → k < w.heap.size := fun k h => hM k h.1
  have hsub : ∀ k, free M w k → free (fun k => M k ∧ ¬ ∃ A ∈ U, A.fp k) w k := fun k h => ⟨h.1, fun hm => h.2 hm.1⟩
  have hUF : ∀ A ∈ U, A.ok (free M w) w ∧ ∀ k, A.fp k → free (fun k => M k ∧ ¬ ∃ A ∈ U, A.fp k) w k :=
    fun A hA => ⟨(hU A hA).1, fun k hk => ⟨hM k ((hU A hA).2 k hk), fun hm => hm.2 ⟨A, hA, hk⟩⟩⟩
  have hE' : Given (fun k => M k ∧ ¬ ∃ A ∈ U, A.fp k) E w := fun B hB =>
    ⟨B.keep hsub (fun _ _ => rfl) (fun _ _ => rfl) (hE B hB).1, fun k hk => ⟨(hE B hB).2 k hk, fun ⟨A, hA, hkA⟩ => hUE A hA B hB k hkA hk⟩⟩
  obtain ⟨hfv, hcap⟩ := hf (free M w) _ w a hsub hUF (fun p hp hx => he p hp (by simp [Op.operands, Call.operands, hx]))
  have hargs := ha.cells (a := a) hsub hUF (fun p hp hx => he p hp (by simp [Op.operands, Call.operands, hx]))
  have hcells := hargs.append hcap
  simp only [Does, run_call hc hfv]
  refine Calls.mono (hfn _ w _ hM' hE' hap hcells) ?_
  rintro e w' ⟨x, v, he, hg, hN', hT'⟩
  exact ⟨v, he, x, hg, ⟨hN'.apart, hN'.place, fun A hA => hN x A hA _ _ _ (hN'.ok A hA)⟩, hT x _ _ _ _ hT'⟩
end

end Go.Sim

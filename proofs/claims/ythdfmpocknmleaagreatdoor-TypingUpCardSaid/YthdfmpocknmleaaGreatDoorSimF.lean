/- The logic's sixth part: stores, new slices, appends, structs, calls. No condition. -/
import Derived.Test.YthdfmpocknmleaaGreatDoorSimE
namespace Go.Sim

/-! Splicing -/

def splice {β : Type} (l : List β) (off : Nat) (m : List β) : List β := l.take off ++ m ++ l.drop (off + m.length)

theorem splice_len {β : Type} (l m : List β) (off : Nat) (h : off + m.length ≤ l.length) : (splice l off m).length = l.length := by
  simp [splice]; omega
theorem splice_get {β : Type} (l m : List β) (off j : Nat) (h : off + m.length ≤ l.length) : (splice l off m)[j]? = if off ≤ j ∧ j < off + m.length then m[j - off]? else l[j]? := by
  unfold splice
  by_cases h1 : j < off
  · rw [if_neg (by omega), List.append_assoc, List.getElem?_append_left (by simp; omega), List.getElem?_take, if_pos h1]
  · by_cases h2 : j < off + m.length
    · rw [if_pos (by omega), List.append_assoc, List.getElem?_append_right (by simp; omega), List.length_take, List.getElem?_append_left (by omega)]
      congr 1; omega
    · rw [if_neg (by omega), List.getElem?_append_right (by simp; omega), List.getElem?_drop]
      congr 1; simp; omega

theorem Cells.splice {Ts Us : List Ty} {F : Blk} {w : World} {us vs : List Value} {off : Nat} (h : Cells Ts F w us) (k : Cells Us F w vs) (hl : off + Us.length ≤ Ts.length) : Cells (splice Ts off Us) F w (Sim.splice us off vs) := by
  have e1 := h.1
  have e2 := k.1
  refine ⟨by rw [splice_len _ _ _ (by omega), splice_len _ _ _ hl, e1], fun j T u hT hu => ?_⟩
  rw [splice_get _ _ _ _ hl] at hT
  rw [splice_get _ _ _ _ (by omega), e2] at hu
  split at hT
  · rename_i hc
    rw [if_pos hc] at hu
    exact k.2 _ T u hT hu
  · rename_i hc
    rw [if_neg hc] at hu
    exact h.2 j T u hT hu

theorem foldl_set : ∀ (vs : List Value) (i off : Nat) (cs : Array Value), off + i + vs.length ≤ cs.size → ((vs.zipIdx i).foldl (fun cs p => cs.setIfInBounds (off + p.2) p.1) cs).toList = splice cs.toList (off + i) vs := by
  intro vs
  induction vs with
  | nil => intro i off cs _; simp [splice]
  | cons v vs ih =>
    intro i off cs h
    simp only [List.zipIdx_cons, List.foldl_cons]
    have hl : off + i + (vs.length + 1) ≤ cs.size := by simpa using h
    rw [ih (i + 1) off _ (by simp; omega)]
    apply List.ext_getElem?
    intro j
    rw [splice_get _ _ _ _ (by simp; omega), splice_get _ _ _ _ (by simp; omega)]
    simp only [Array.toList_setIfInBounds, List.length_cons, List.getElem?_set, Array.length_toList]
    by_cases h1 : j = off + i
    · subst h1
      rw [if_neg (by omega), if_pos rfl, if_pos (by omega), if_pos (by omega)]
      simp
    · by_cases h2 : off + i ≤ j ∧ j < off + i + (vs.length + 1)
      · rw [if_pos (by omega), if_pos h2]
        have : j - (off + i) = j - (off + (i + 1)) + 1 := by omega
        rw [this]; simp
      · rw [if_neg (by omega), if_neg h2, if_neg (by omega)]

/-! Stores -/

section
variable {Γ : List (Nat × Ty)} {P : Program} {d : Option Tmp} {ty : TypeId} {pos : String} {af : Array Edge} {g : Option (Nat × Bool)} {x y : Operand} {T : Ty} {t e : TypeId} {α : Type} {R : Rep α} {bytes : Nat} {z : Value}

theorem run_storeAt {u : α} {F : Blk} {w : World} {b off : Nat} {cur : Array Value} {v : Value} (hz : TOk P t R bytes z) (hv : (R.ty u).ok F w v) (hb : w.heap[b]? = some (.cells cur e (0, 0))) (hl : off + R.n ≤ cur.size) :
    (Instr.storeAt t (.pointer (some ⟨b, off, none⟩)) v).run P w = .ok () (w.setRow b (splice cur.toList off v.cells.toList).toArray) := by
  obtain ⟨ti, hti, _, hs, _⟩ := hz.info
  obtain ⟨_, h1, hn⟩ := cells_of_ty hv
  have hlen : v.cells.toList.length = R.n := by simpa using hn
  have hst := run_storeCells_at P b off e v.cells.toList 0 cur w hb (by rw [hlen]; omega) h1
  simp only [Nat.add_zero] at hst
  simp [Instr.storeAt, Instr.sureAddr, storeVar, sizeOf, typeInfo, hti, hs, hn, hst, splice]

theorem setRow_step {w : World} {b : Nat} {cs : Array Value} {B : Blk} (hB : B b) : Step B w (w.setRow b cs) :=
  ⟨rfl, rfl, rfl, by simp, fun k _ hk => setRow_other w b k cs (fun e => hk (e ▸ hB))⟩

theorem splice_one {us vs : List Value} {off : Nat} (h : ∀ u ∈ us, u.oneCell' = true) (k : ∀ u ∈ vs, u.oneCell' = true) : ∀ u ∈ splice us off vs, u.oneCell' = true := by
  intro u hu
  unfold splice at hu
  simp only [List.mem_append] at hu
  rcases hu with (hu | hu) | hu
  · exact h u (List.mem_of_mem_take hu)
  · exact k u hu
  · exact h u (List.mem_of_mem_drop hu)

theorem Cells.keepE {Ts : List Ty} {F F' : Blk} {w w' : World} {us : List Value} (h : Cells Ts F w us) (hF : ∀ k, F k → F' k) (hh : ∀ k, F k → w'.heap[k]? = w.heap[k]?) : Cells Ts F' w' us := Cells.keep hF hh h

/-- A store into a variable of the call's own. -/
theorem box_fp {Ts : List Ty} {b k : Nat} : (box Ts (.pointer (some ⟨b, 0, none⟩))).fp k ↔ k = b := by
  show Value.pointer (some ⟨b, 0, none⟩) = .pointer (some ⟨k, 0, none⟩) ↔ k = b
  constructor
  · intro h; simp at h; exact h.symm
  · rintro rfl; rfl
theorem opj_store {a : α} {Ts : List Ty} {q : Value} {off : Nat} (hz : TOk P t R bytes z) (hp : ∀ F w b A, EnvOk Γ (⟨d, .store t x y, ty, pos, af, g⟩ : Oper).op.operands F w A → q = .pointer (some ⟨b, 0, none⟩) → A.eval x = .pointer (some ⟨b, off, none⟩))
    (hx : Fct Γ y (R.ty a)) (hl : off + R.n ≤ Ts.length) : OpJ P ⟨d, .store t x y, ty, pos, af, g⟩ Γ [] [box Ts q] (fun _ => [box (splice Ts off (R.cs a)) q]) (fun _ => tany) := by
  intro M w A hM _ hE _ _ he
  obtain ⟨⟨b, cur, e, hq, hb, hc, h1⟩, hfp⟩ := hE _ (List.mem_singleton.2 rfl)
  have hgiv := given_fp hE
  have hv := hx.use (by simp [Op.operands]) he
  have hpv := hp _ _ b A he hq
  have hsz : cur.size = Ts.length := by simpa using hc.1
  have hr : (execOp A.eval (⟨d, .store t x y, ty, pos, af, g⟩ : Oper)).run P w = .ok .skip (w.setRow b (splice cur.toList off (A.eval y).cells.toList).toArray) := by
    have hrs := run_storeAt (off := off) hz hv hb (by omega)
    simp only [execOp, hpv, Sem.run_bind, hrs, Result.andThen_ok, Sem.run_pure]
  simp only [Does, hr]
  have heat : ∀ k, eatFp [box Ts q] k ↔ k = b := by
    intro k
    rw [eatFp_one, hq, box_fp]
  have hfpb : ∀ {Us : List Ty} k, (box Us q).fp k ↔ k = b := by intro Us k; rw [hq, box_fp]
  refine ⟨undef, setRow_step ((heat b).2 rfl), made_one (fun k hk => ?_) ?_, trivial⟩
  · have hk := (hfpb k).1 hk
    subst hk
    refine ⟨.inl ((heat _).2 rfl), ?_⟩
    have := (Array.getElem?_eq_some_iff.1 hb).1
    simpa using this
  · obtain ⟨hcv, h1v, _⟩ := cells_of_ty hv
    refine ⟨b, _, e, hq, setRow_heap w b cur _ e _ hb, ?_, ?_⟩
    · have hcs := (hc.splice (off := off) hcv (by rw [R.len]; exact hl))
      simp only
      refine hcs.keepE ?_ ?_
      · intro k hk
        refine free_next (by simp) hgiv (fun B hB j hj => ?_) hk
        obtain rfl := List.mem_singleton.1 hB
        exact .inl ((heat j).2 ((hfpb j).1 hj))
      · rintro k ⟨h2, h3⟩
        exact setRow_other w b k _ (fun e => h3 (hgiv k ((heat k).2 e)))
    · simpa using splice_one (off := off) h1 h1v

theorem op_storeB {a : α} {Ts : List Ty} {q : Value} (hz : TOk P t R bytes z) (hp : Fct Γ x (tv q)) (hx : Fct Γ y (R.ty a)) (hl : R.n ≤ Ts.length) :
    OpJ P ⟨d, .store t x y, ty, pos, af, g⟩ Γ [] [box Ts q] (fun _ => [box (splice Ts 0 (R.cs a)) q]) (fun _ => tany) :=
  opj_store hz (fun _ _ _ _ he hq => (hp.val (by simp [Op.operands]) he).trans hq) hx (by omega)
theorem op_storeBf {a : α} {Ts : List Ty} {q : Value} {off : Nat} (hz : TOk P t R bytes z) (hp : Fct Γ x (tv (padd q off))) (hx : Fct Γ y (R.ty a)) (hl : off + R.n ≤ Ts.length) :
    OpJ P ⟨d, .store t x y, ty, pos, af, g⟩ Γ [] [box Ts q] (fun _ => [box (splice Ts off (R.cs a)) q]) (fun _ => tany) :=
  opj_store hz (fun _ _ b _ he hq => by rw [hp.val (by simp [Op.operands]) he, hq]; simp [padd, addr_add]) hx hl

/-- A new variable with its type's zero value. -/
theorem op_alloc {a : α} (hz : TOk P t R bytes z) (h0 : ∀ F w, (R.ty a).ok F w z) : OpJ P ⟨d, .alloc t, ty, pos, af, g⟩ Γ [] [] (fun p => [box (R.cs a) p]) (fun p => tv p) := by
  intro M w A hM _ _ _ _ _
  obtain ⟨ti, hti, hzz, hs, _⟩ := hz.info
  obtain ⟨hc, h1, _⟩ := cells_of_ty (h0 (free M w) w)
  have hr : (execOp A.eval (⟨d, .alloc t, ty, pos, af, g⟩ : Oper)).run P w = .ok (.value (.pointer (some ⟨w.heap.size, 0, none⟩))) (w.alloc (.cells z.cells t)) := by
    simp [execOp, Instr.alloc, zeroValue, typeInfo, hti, hzz, newVar, newRow]
  simp only [Does, hr]
  refine ⟨.pointer (some ⟨w.heap.size, 0, none⟩), (Step.alloc w _).mono (fun _ h => h.elim), ?_, rfl⟩
  have := box_made (e := t) hc h1
  simpa using this

/-! New slices -/

inductive Parts (Γ : List (Nat × Ty)) (R : Rep α) : Nat → List (Nat × Operand) → List α → Prop where
  | nil (i : Nat) : Parts Γ R i [] []
  | cons {i : Nat} {x : Operand} {u : α} {ps : List (Nat × Operand)} {us : List α} (h : Fct Γ x (R.ty u)) (hs : Parts Γ R (i + 1) ps us) : Parts Γ R i ((i, x) :: ps) (u :: us)

theorem Parts.length {i : Nat} {ps : List (Nat × Operand)} {us : List α} (h : Parts Γ R i ps us) : ps.length = us.length := by
  induction h with
  | nil => rfl
  | cons _ _ ih => simp [ih]

theorem fill_parts {F : Blk} {w : World} {A : Act} {i : Nat} {ps : List (Nat × Operand)} {us : List α} (h : Parts Γ R i ps us) (he : ∀ p ∈ Γ, (∃ q ∈ ps, Operand.tmp p.1 = q.2) → p.2.ok F w (get A p.1)) :
    ∀ cs : Array Value, (i + us.length) * R.n ≤ cs.size →
      ∃ vs, Cells (us.flatMap R.cs) F w vs ∧ (∀ u ∈ vs, u.oneCell' = true) ∧ ∃ cs', Instr.fill (fun i => some (i * R.n, R.n)) cs (ps.map fun p => (p.1, A.eval p.2)) = some cs' ∧ cs'.toList = splice cs.toList (i * R.n) vs := by
  induction h with
  | nil i => intro cs _; exact ⟨[], ⟨rfl, fun j T u h => by simp at h⟩, fun u h => by simp at h, cs, rfl, by simp [splice]⟩
  | @cons i x u0 ps us hx hs ih =>
    intro cs hl
    have hv := hx F w A (fun p hp hpx => he p hp ⟨(i, x), by simp, hpx⟩)
    obtain ⟨hc, h1, hn⟩ := cells_of_ty hv
    have hmul : (i + (us.length + 1)) * R.n = i * R.n + (us.length * R.n + R.n) := by rw [Nat.add_mul, Nat.add_mul]; omega
    have hmul2 : (i + 1 + us.length) * R.n = i * R.n + (us.length * R.n + R.n) := by rw [Nat.add_mul, Nat.add_mul]; omega
    have hmul3 : (i + 1) * R.n = i * R.n + R.n := by rw [Nat.add_mul]; omega
    simp only [List.length_cons] at hl
    have hvl : (A.eval x).cells.toList.length = R.n := by simpa using hn
    have hfs := foldl_set (A.eval x).cells.toList 0 (i * R.n) cs (by rw [hvl]; omega)
    obtain ⟨vs, hcv, h1v, cs', hf, hcs'⟩ := ih (fun p hp ⟨q, hq, e⟩ => he p hp ⟨q, by simp [hq], e⟩) ((A.eval x).cells.zipIdx.foldl (fun cs p => cs.setIfInBounds (i * R.n + p.2) p.1) cs) (by
      have : ((A.eval x).cells.zipIdx.foldl (fun cs p => cs.setIfInBounds (i * R.n + p.2) p.1) cs).size = cs.size := by
        rw [← Array.length_toList, ← Array.foldl_toList, Array.toList_zipIdx, hfs, splice_len _ _ _ (by simp; omega)]; simp
      rw [this]; omega)
    refine ⟨(A.eval x).cells.toList ++ vs, ?_, ?_, cs', ?_, ?_⟩
    · rw [List.flatMap_cons]
      refine ⟨by simp [hc.1, hcv.1], fun j T u hT hu => ?_⟩
      have e := hc.1
      by_cases hj : j < (R.cs u0).length
      · rw [List.getElem?_append_left hj] at hT
        rw [List.getElem?_append_left (by omega)] at hu
        exact hc.2 j T u hT hu
      · rw [List.getElem?_append_right (by omega)] at hT
        rw [List.getElem?_append_right (by omega), e] at hu
        exact hcv.2 _ T u hT hu
    · intro u hu
      rcases List.mem_append.1 hu with hu | hu
      · exact h1 u hu
      · exact h1v u hu
    · simp only [List.map_cons, Instr.fill, hn]
      rw [if_neg (by simp; omega)]
      exact hf
    · rw [hcs', ← Array.foldl_toList, Array.toList_zipIdx, hfs]
      have hvl2 : vs.length = us.length * R.n := by rw [hcv.1, flatMap_len]
      have hcl : i * R.n + 0 + (A.eval x).cells.toList.length ≤ cs.toList.length := by simp; omega
      apply List.ext_getElem?
      intro j
      rw [splice_get _ _ _ _ (by rw [splice_len _ _ _ hcl]; simp; omega), splice_get _ _ _ _ hcl, splice_get _ _ _ _ (by simp; omega)]
      simp only [List.length_append, hvl, hvl2, hmul3]
      by_cases hj1 : i * R.n ≤ j ∧ j < i * R.n + (R.n + us.length * R.n)
      · by_cases hj2 : j < i * R.n + R.n
        · rw [if_neg (by omega), if_pos (by omega), if_pos hj1, List.getElem?_append_left (by omega)]
          simp
        · rw [if_pos (by omega), if_pos hj1, List.getElem?_append_right (by omega), hvl]
          congr 1; omega
      · rw [if_neg (by omega), if_neg (by omega), if_neg hj1]

theorem run_buildSlice {F : Blk} {w : World} {A : Act} {len : Nat} {ps : Array (Nat × Operand)} {us : List α} (ht : P.underlying t = some (.slice e)) (hz : TOk P e R bytes z) (hps : Parts Γ R 0 ps.toList us) (hlen : us.length = len) (h24 : len * R.n ≤ 16777216)
    (he : EnvOk Γ (⟨d, .buildSlice t len ps, ty, pos, af, g⟩ : Oper).op.operands F w A) : ∃ vs, Cells (us.flatMap R.cs) F w vs ∧ (∀ u ∈ vs, u.oneCell' = true) ∧
      (execOp A.eval (⟨d, .buildSlice t len ps, ty, pos, af, g⟩ : Oper)).run P w = .ok (.value (.slice (some ⟨w.heap.size, 0, none⟩) len len)) (w.alloc (.cells vs.toArray e)) := by
  obtain ⟨ti, hti, hzz, hs, _⟩ := hz.info
  obtain ⟨vs, hc, h1, cs', hf, hcs⟩ := fill_parts (F := F) (w := w) (A := A) hps (fun p hp ⟨q, hq, e⟩ => he p hp (by simp only [Op.operands, List.mem_toArray, List.mem_map]; exact ⟨q, hq, e.symm⟩)) (madeCells z.cells (len * R.n)) (by rw [size_madeCells, hlen]; simp)
  have hvl : vs.length = len * R.n := by rw [hc.1, flatMap_len, hlen]
  have hcs2 : cs' = vs.toArray := by
    apply Array.toList_inj.1
    rw [hcs]
    simp [splice, hvl, size_madeCells]
  refine ⟨vs, hc, h1, ?_⟩
  subst hcs2
  have h24' : ¬ (16777216 < len * R.n) := by omega
  have hf' : Instr.fill (fun i => some (i * R.n, R.n)) (madeCells z.cells (len * R.n)) (ps.toList.map fun p => (p.1, A.eval p.2)) = some vs.toArray := hf
  unfold madeCells at hf'
  by_cases h0 : len * R.n = 0
  · have e0 : (Array.range (len * R.n)).map (fun x => z.cells[x % z.cells.size]!) = #[] := by rw [h0]; simp
    rw [e0] at hf'
    have e1 : Instr.fill (fun i => some (i * R.n, R.n)) #[] (List.map (fun p => (p.1, A.eval p.2)) ps.toList) = some vs.toArray := hf'
    simp [execOp, Instr.buildSlice, run_underlying ht, sizeOf, typeInfo, hti, hs, h0, newRow, Array.range_zero', e1]
  · have e1 : Instr.fill (fun i => some (i * R.n, R.n)) ((Array.range (len * R.n)).map (fun x => z.cells[x % z.cells.size]!)) (List.map (fun p => (p.1, A.eval p.2)) ps.toList) = some vs.toArray := hf'
    simp [execOp, Instr.buildSlice, run_underlying ht, sizeOf, typeInfo, hti, hs, h24', h0, newRow, zeroValue, hzz, e1]

theorem new_slice {F F' : Blk} {w : World} {us : List α} {vs : List Value} {cap : Nat} (hc : Cells (us.flatMap R.cs) F w vs) (hF : ∀ k, F k → k < w.heap.size) (h1 : ∀ k, F k → F' k) (h2 : F' w.heap.size) (hcap : us.length ≤ cap) :
    (tsl R us).ok F' (w.alloc (.cells vs.toArray e)) (.slice (some ⟨w.heap.size, 0, none⟩) us.length cap) := by
  refine ⟨_, cap, rfl, hcap, fun _ => ⟨w.heap.size, 0, rfl, h2, fun j T hj => ?_⟩⟩
  have hlt : j < vs.length := by rw [hc.1]; exact (List.getElem?_eq_some_iff.1 hj).1
  refine ⟨vs[j], ?_, T.keep h1 (fun k hk => Go.RowKit.Below.heap_alloc w _ k (hF k hk)) (hc.2 j T _ hj (List.getElem?_eq_getElem hlt))⟩
  rw [Nat.zero_add, World.cell?_alloc_new]
  simp [hlt]

theorem op_buildSl {len : Nat} {ps : Array (Nat × Operand)} {us : List α} (ht : P.underlying t = some (.slice e)) (hz : TOk P e R bytes z) (hps : Parts Γ R 0 ps.toList us) (hlen : us.length = len) (h24 : len * R.n ≤ 16777216) :
    OpJ P ⟨d, .buildSlice t len ps, ty, pos, af, g⟩ Γ [] [] (fun _ => []) (fun _ => tsl R us) :=
  opj_new fun F w A hF he => by
    obtain ⟨vs, hc, _, hr⟩ := run_buildSlice ht hz hps hlen h24 he
    refine ⟨_, _, hr, Step.alloc w _, fun F' h1 h2 => ?_⟩
    subst hlen
    exact new_slice hc hF h1 (h2 _ (Nat.le_refl _) (by simp)) (Nat.le_refl _)

theorem own_new {F' : Blk} {w : World} {us : List α} {vs : List Value} {F : Blk} {cap : Nat} (hc : Cells (us.flatMap R.cs) F w vs) (hcap : us.length = cap) (hmax : cap ≤ maxLen) (hF : ∀ k, F k → k < w.heap.size) (h1 : ∀ k, F k → F' k) :
    (own R e us (.slice (some ⟨w.heap.size, 0, none⟩) cap cap)).ok F' (w.alloc (.cells vs.toArray e)) := by
  have hl : vs.length = us.length * R.n := by rw [hc.1, flatMap_len]
  refine ⟨vs, ⟨hl, .inr ⟨w.heap.size, cap, vs.toArray, by rw [hcap], Nat.zero_le _, heap_alloc_new w _, by omega, hmax, by simp [hl, hcap], ?_⟩⟩, hc.keepE h1 (fun k hk => Go.RowKit.Below.heap_alloc w _ k (hF k hk))⟩
  simp [← hl]

theorem own_made {w : World} {us : List α} {vs : List Value} {M : Blk} {cap : Nat} (hc : Cells (us.flatMap R.cs) (free M w) w vs) (hcap : us.length = cap) (hmax : cap ≤ maxLen) :
    Made M [] [own R e us (.slice (some ⟨w.heap.size, 0, none⟩) cap cap)] w (w.alloc (.cells vs.toArray e)) := by
  refine made_one (fun k hk => ?_) (own_new hc hcap hmax (fun k hk => hk.1) fun k hk => ?_)
  · have hk' : some w.heap.size = some k := hk
    cases hk'
    exact ⟨.inr (Nat.le_refl _), by simp⟩
  · refine free_next (by simp) (fun j h => (by rw [eatFp_nil] at h; exact h.elim)) (fun A hA j hj => ?_) hk
    obtain rfl := List.mem_singleton.1 hA
    have hj' : some w.heap.size = some j := hj
    cases hj'
    exact .inr (Nat.le_refl _)
theorem op_buildSlO {len : Nat} {ps : Array (Nat × Operand)} {us : List α} (ht : P.underlying t = some (.slice e)) (hz : TOk P e R bytes z) (hps : Parts Γ R 0 ps.toList us) (hlen : us.length = len) (h24 : len * R.n ≤ 16777216) (hm : len ≤ 16777216) :
    OpJ P ⟨d, .buildSlice t len ps, ty, pos, af, g⟩ Γ [] [] (fun v => [own R e us v]) (fun v => tv v) := by
  intro M w A hM _ _ _ _ he
  obtain ⟨vs, hc, _, hr⟩ := run_buildSlice ht hz hps hlen h24 he
  simp only [Does, hr]
  exact ⟨_, (Step.alloc w _).mono (fun _ h => h.elim), own_made hc hlen (by unfold maxLen; omega), rfl⟩

/-! make -/

theorem made_cells {u0 : α} {F : Blk} {w : World} (h0 : ∀ F w, (R.ty u0).ok F w z) (n : Nat) : Cells ((List.replicate n u0).flatMap R.cs) F w (madeCells z.cells (n * R.n)).toList := by
  obtain ⟨hc, _, hn⟩ := cells_of_ty (h0 F w)
  refine ⟨by rw [flatMap_len]; simp [size_madeCells], fun j T v hT hv => ?_⟩
  have hj : j < n * R.n := by
    have := (List.getElem?_eq_some_iff.1 hT).1
    rw [flatMap_len] at this
    simpa using this
  have hpos : 0 < R.n := by
    rcases Nat.eq_zero_or_pos R.n with h | h
    · rw [h] at hj; omega
    · exact h
  have hdm : j / R.n * R.n + j % R.n = j := by rw [Nat.mul_comm]; exact Nat.div_add_mod j R.n
  have hq : j / R.n < n := Nat.div_lt_of_lt_mul (by rw [Nat.mul_comm]; exact hj)
  rw [← hdm, flatMap_get R _ (j / R.n) (j % R.n) u0 (by simp [hq]) (Nat.mod_lt _ hpos)] at hT
  have hmod : j % R.n < z.cells.size := by rw [hn]; exact Nat.mod_lt _ hpos
  have hv' : v = z.cells[j % R.n] := by
    have : (madeCells z.cells (n * R.n)).toList[j]? = some z.cells[j % R.n] := by
      simp [madeCells, hj, hn]
      exact getElem!_pos z.cells (j % R.n) hmod
    rw [this] at hv
    exact (Option.some.inj hv).symm
  subst hv'
  exact hc.2 _ T _ hT (by simp [hmod])

theorem op_make {n : Int} {k k' : IntKind} {u0 : α} {us : List α} (ht : P.underlying t = some (.slice e)) (hz : TOk P e R bytes z) (h0 : ∀ F w, (R.ty u0).ok F w z) (hb : bytes ≤ 2048)
    (hx : Fct Γ x (tv (.int k n))) (hy : Fct Γ y (tv (.int k' n))) (h : mk n u0 = some us) : OpJ P ⟨d, .makeSlice t x y, ty, pos, af, g⟩ Γ [] [] (fun _ => []) (fun _ => tsl R us) :=
  opj_new fun F w A hF he => by
    unfold mk at h
    split at h
    · rename_i hn
      simp only [Option.some.injEq] at h
      subst h
      obtain ⟨ti, hti, hzz, hs, hbb⟩ := hz.info
      have h1 := hx.val (by simp [Op.operands]) he
      have h2 := hy.val (by simp [Op.operands]) he
      have hbn : (ti.bytes : Int) * n ≤ 281474976710656 := by
        rw [hbb]
        have h5 : (bytes : Int) * n ≤ 2048 * 68719476736 := Int.mul_le_mul (by omega) hn.2 hn.1 (by omega)
        omega
      have hr := run_make (P := P) w t e ti z ht hti hzz k k' n n hn.1 (Int.le_refl _) hbn (by omega)
      rw [hs] at hr
      refine ⟨.slice (some ⟨w.heap.size, 0, none⟩) n.toNat n.toNat, w.alloc (.cells (madeCells z.cells (n.toNat * R.n)) e), by simp only [execOp, h1, h2, Sem.run_bind, hr, Result.andThen_ok, Sem.run_pure], Step.alloc w _, fun F' g1 g2 => ?_⟩
      have hl : (List.replicate n.toNat u0).length = n.toNat := by simp
      have := new_slice (e := e) (F := F) (F' := F') (cap := n.toNat) (made_cells (F := F) (w := w) h0 n.toNat) hF g1 (g2 _ (Nat.le_refl _) (by simp)) (by simp)
      rw [hl] at this
      simpa using this
    · cases h

end

end Go.Sim

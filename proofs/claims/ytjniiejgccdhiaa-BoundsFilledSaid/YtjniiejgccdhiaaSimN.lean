/- The logic's fourteenth part: slices that are nil exactly if they are empty, slices without room, functions as values. No condition. -/
import Derived.Test.YtjniiejgccdhiaaSimM
namespace Go.Sim

theorem Fct.fnE {Γ : List (Nat × Ty)} {f : FuncId} : Fct Γ (.func f) (tcloE f []) := fun F w a h => ⟨[], Fct.fn F w a h⟩

/-- A slice that is nil, if it is empty. -/
def tsn {α : Type} (R : Rep α) (xs : List α) : Ty := tand (tsl R xs) ⟨fun _ _ v => xs = [] → v = .slice none 0 0, fun _ _ h => h⟩
/-- A slice without room. -/
def tslF {α : Type} (R : Rep α) (xs : List α) : Ty := tand (tsl R xs) ⟨fun _ _ v => ∃ ad, v = .slice ad xs.length xs.length ∧ (∀ a, ad = some a → a.spot = none), fun _ _ h => h⟩
def ne {α : Type} (xs : List α) : Option Unit := match xs with | [] => none | _ :: _ => some ()
theorem ne_ok {α : Type} {xs : List α} {u : Unit} (h : ne xs = some u) : xs ≠ [] := by cases xs <;> simp [ne] at h ⊢

section
variable {Γ : List (Nat × Ty)} {P : Program} {d : Option Tmp} {ty : TypeId} {pos : String} {af : Array Edge} {g : Option (Nat × Bool)} {x y : Operand} {T : Ty} {t e : TypeId} {α : Type} {R : Rep α} {bytes : Nat} {z : Value} {xs ys : List α}

theorem Fct.nilsn : Fct Γ (.const (.slice none 0 0)) (tsn R ([] : List α)) := fun F w a h0 => ⟨Fct.nilsl F w a h0, fun _ => rfl⟩
theorem Fct.sn {x : Operand} (h : Fct Γ x (tsl R xs)) (hne : xs ≠ []) : Fct Γ x (tsn R xs) := h.weak fun _ _ _ h => ⟨h, fun e => (hne e).elim⟩
theorem sl_nil {F : Blk} {w : World} {v : Value} (h : (tsn R xs).ok F w v) : ∃ ad n c, v = .slice ad n c ∧ ad.isNone = xs.isEmpty := by
  obtain ⟨⟨ad, cap, hv, _, hr⟩, hn⟩ := h
  refine ⟨ad, xs.length, cap, hv, ?_⟩
  cases xs with
  | nil =>
    have := hn rfl
    rw [hv] at this
    simp only [Value.slice.injEq] at this
    rw [this.1]; rfl
  | cons u us =>
    obtain ⟨b, off, ha, _⟩ := hr (by simp)
    rw [ha]; rfl
theorem op_eqNilX {t2 : TypeId} (ht : P.underlying t = some (.slice e)) (hx : Fct Γ x (tsn R xs)) : OpJ P ⟨d, .binOp .eql t x (.const (.slice none 0 0)) t2, ty, pos, af, g⟩ Γ [] [] (fun _ => []) (fun _ => tv (.bool xs.isEmpty)) :=
  opj_pure fun F w a he => by
    obtain ⟨ad, n, c, hv, hn⟩ := sl_nil (hx.use (by simp [Op.operands]) he)
    refine ⟨.bool ad.isNone, ?_, by rw [hn]; rfl⟩
    simp [execOp, hv, eval_const, eqGuard, binOp, run_equal_nil ht]
theorem op_neNilX {t2 : TypeId} (ht : P.underlying t = some (.slice e)) (hx : Fct Γ x (tsn R xs)) : OpJ P ⟨d, .binOp .neq t x (.const (.slice none 0 0)) t2, ty, pos, af, g⟩ Γ [] [] (fun _ => []) (fun _ => tv (.bool !xs.isEmpty)) :=
  opj_pure fun F w a he => by
    obtain ⟨ad, n, c, hv, hn⟩ := sl_nil (hx.use (by simp [Op.operands]) he)
    refine ⟨.bool !ad.isNone, ?_, by rw [hn]; rfl⟩
    simp [execOp, hv, eval_const, eqGuard, binOp, run_equal_nil ht]

theorem op_buildSlF {len : Nat} {ps : Array (Nat × Operand)} {us : List α} (ht : P.underlying t = some (.slice e)) (hz : TOk P e R bytes z) (hps : Parts Γ R 0 ps.toList us) (hlen : us.length = len) (h24 : len * R.n ≤ 16777216) :
    OpJ P ⟨d, .buildSlice t len ps, ty, pos, af, g⟩ Γ [] [] (fun _ => []) (fun _ => tslF R us) :=
  opj_new fun F w A hF he => by
    obtain ⟨vs, hc, _, hr⟩ := run_buildSlice ht hz hps hlen h24 he
    refine ⟨_, _, hr, Step.alloc w _, fun F' h1 h2 => ?_⟩
    subst hlen
    exact ⟨new_slice hc hF h1 (h2 _ (Nat.le_refl _) (by simp)) (Nat.le_refl _), _, rfl, fun a h => by obtain rfl := Option.some.inj h; rfl⟩

/-- An append to a slice without room: a new slice. -/
theorem op_appendF (ht : P.underlying t = some (.slice e)) (hz : TOk P e R bytes z) (hb : bytes ≤ 2048) (hx : Fct Γ x (tslF R xs)) (hy : Fct Γ y (tsl R ys)) (hne : ys ≠ []) (h : rm (xs.length + ys.length) = some ()) :
    OpJ P ⟨d, .call { callee := .builtin .append, args := #[x, y], argTypes := #[t, t] }, ty, pos, af, g⟩ Γ [] [] (fun v' => [own R e (xs ++ ys) v']) (fun v' => tv v') := by
  intro M w A hM _ hE _ _ he
  obtain ⟨ti, hti, hzz, hs, hbb⟩ := hz.info
  have hroom : xs.length + ys.length ≤ 68719476736 := by unfold rm at h; split at h <;> first | assumption | cases h
  obtain ⟨⟨ad0, cap0, hv0, _, hr0⟩, ad1, hv1, hsp⟩ := hx.use (by simp [Op.operands, Call.operands]) he
  obtain ⟨ad, cap, h2, _, hr⟩ := hy.use (by simp [Op.operands, Call.operands]) he
  have hcap : cap0 = xs.length ∧ ad1 = ad0 := by
    rw [hv0] at hv1
    simp only [Value.slice.injEq] at hv1
    exact ⟨hv1.2.2, hv1.1.symm⟩
  obtain ⟨rfl, rfl⟩ := hcap
  obtain ⟨b, off, ha, _, hrow⟩ := hr hne
  subst ha
  obtain ⟨news, hcn, hcell⟩ := row_list _ _ hrow
  have hm : 0 < ys.length := List.length_pos_iff.2 hne
  have hnl : news.length = ys.length * ti.size := by rw [hcn.1, flatMap_len, hs]
  have hnews : ∀ j u, news[j]? = some u → w.cell? ((⟨b, off, none⟩ : Addr).add j) = some u := fun j u hu => by rw [addr_add]; exact hcell j u hu
  have hzn : z.cells.size = R.n := hz.zc
  obtain ⟨v', w', hrun, hgrow, hok, hpl⟩ : ∃ v' w', (Builtin.append_ #[t, t] ty #[.slice ad1 xs.length xs.length, .slice (some ⟨b, off, none⟩) ys.length cap]).run P w = .ok v' w' ∧ Grow w w' ∧ (∀ F', (∀ k, free M w k → F' k) → (own R e (xs ++ ys) v').ok F' w') ∧ ∀ k, (own R e (xs ++ ys) v').fp k → w.heap.size ≤ k ∧ k < w'.heap.size := by
    by_cases hx0 : xs = [] ∧ ad1 = none
    · obtain ⟨rfl, rfl⟩ := hx0
      simp only [List.length_nil, Nat.zero_add] at hroom
      have hbyt : ys.length * ti.bytes ≤ 281474976710656 := by
        rw [hbb]
        calc ys.length * bytes ≤ 68719476736 * 2048 := Nat.mul_le_mul hroom hb
          _ ≤ 281474976710656 := by omega
      have hrun := run_append_nil (P := P) w t ty e ti z ht hti hzz ⟨b, off, none⟩ ys.length cap news hnl hnews hm (by omega) hbyt
      have hge := grownCap_ge w ys.length 0 e
      have hle := grownCap_le_maxLen w ys.length 0 e (by unfold maxLen; omega)
      refine ⟨_, _, hrun, ⟨rfl, rfl, rfl, by simp, fun k hk _ => Go.RowKit.Below.heap_alloc w.drew _ k hk⟩, fun F' hF' => ?_, fun k hk => ?_⟩
      · rw [List.nil_append]
        refine own_mk (cur := news.toArray ++ Builtin.zeroCells z.cells (grownCap w ys.length 0 e - ys.length)) (heap_alloc_new w.drew _) hge hle ?_ ?_
        · simp only [Array.size_append, List.size_toArray, size_zeroCells, hnl, hzn, hs, ← Nat.add_mul]
          congr 1; omega
        · have e1 : (news.toArray ++ Builtin.zeroCells z.cells (grownCap w ys.length 0 e - ys.length)).toList.take (ys.length * R.n) = news := by
            rw [Array.toList_append, List.take_left' (by rw [hnl, hs])]
          rw [e1]
          exact hcn.keepE hF' (fun k hk => Go.RowKit.Below.heap_alloc w.drew _ k hk.1)
      · rw [own_fp.1 hk]; exact ⟨Nat.le_refl _, by simp⟩
    · obtain ⟨b0, off0, ha0, olds, hco, hcello⟩ : ∃ b0 off0, ad1 = some ⟨b0, off0, none⟩ ∧ ∃ olds, Cells (xs.flatMap R.cs) (free M w) w olds ∧ ∀ j u, olds[j]? = some u → w.cell? ⟨b0, off0 + j, none⟩ = some u := by
        by_cases hxe : xs = []
        · subst hxe
          cases had : ad1 with
          | none => exact (hx0 ⟨rfl, had⟩).elim
          | some a1 =>
            obtain ⟨b1, o1, s1⟩ := a1
            have := hsp _ had
            simp only at this
            subst this
            exact ⟨b1, o1, rfl, [], .nil, fun j u hu => by simp at hu⟩
        · obtain ⟨b0, off0, ha0, _, hrow0⟩ := hr0 hxe
          obtain ⟨olds, hco, hcello⟩ := row_list _ _ hrow0
          exact ⟨b0, off0, ha0, olds, hco, hcello⟩
      subst ha0
      have hbyt : (xs.length + ys.length) * ti.bytes ≤ 140737488355328 := by
        rw [hbb]
        calc (xs.length + ys.length) * bytes ≤ 68719476736 * 2048 := Nat.mul_le_mul hroom hb
          _ ≤ 140737488355328 := by omega
      have holdl : olds.length = xs.length * ti.size := by rw [hco.1, flatMap_len, hs]
      have hrun := run_append_grow (P := P) w t ty e ti z ht hti hzz ⟨b0, off0, none⟩ xs.length xs.length _ holdl (fun j u hu => by rw [addr_add]; exact hcello j u hu) ⟨b, off, none⟩ ys.length cap news hnl hnews (by omega) (by omega) (growslice_fits (by omega) hbyt)
      have hge := grownCap_ge w (xs.length + ys.length) xs.length e
      have hle := grownCap_le_maxLen w (xs.length + ys.length) xs.length e (by unfold maxLen; omega)
      refine ⟨_, _, hrun, ⟨rfl, rfl, rfl, by simp, fun k hk _ => Go.RowKit.Below.heap_alloc w.drew _ k hk⟩, fun F' hF' => ?_, fun k hk => ?_⟩
      · have el : xs.length + ys.length = (xs ++ ys).length := by simp
        have hge' := hge
        rw [el] at hge' hle ⊢
        refine own_mk (heap_alloc_new w.drew _) hge' hle ?_ ?_
        · simp only [Array.size_append, List.size_toArray, size_zeroCells, holdl, hnl, hzn, hs, ← Nat.add_mul]
          congr 1; omega
        · have e1 : ((olds.toArray ++ news.toArray ++ Builtin.zeroCells z.cells (grownCap w (xs ++ ys).length xs.length e - (xs ++ ys).length)).toList).take ((xs ++ ys).length * R.n) = olds ++ news := by
            rw [Array.toList_append, Array.toList_append]
            refine List.take_left' ?_
            simp only [List.length_append, holdl, hnl, hs, Nat.add_mul]
          rw [e1, List.flatMap_append]
          exact (hco.append hcn).keepE hF' (fun k hk => Go.RowKit.Below.heap_alloc w.drew _ k hk.1)
      · rw [own_fp.1 hk]; exact ⟨Nat.le_refl _, by simp⟩
  have hexec : (execOp A.eval (⟨d, .call { callee := .builtin .append, args := #[x, y], argTypes := #[t, t] }, ty, pos, af, g⟩ : Oper)).run P w = .ok (.value v') w' := by
    simp only [execOp, resolve, invoke, builtin, Sem.run_bind, Sem.run_pure, Result.andThen_ok, List.map_toArray, List.map_cons, List.map_nil, hv0, h2, hrun]
  simp only [Does, hexec]
  refine ⟨v', hgrow.mono (fun _ h => h.elim), made_one (fun k hk => ⟨.inr (hpl k hk).1, (hpl k hk).2⟩) (hok _ fun k hk => ?_), rfl⟩
  refine free_next hgrow.size (given_fp hE) (fun B hB j hj => ?_) hk
  obtain rfl := List.mem_singleton.1 hB
  exact .inr (hpl j hj).1

/-- A new slice that is only read. -/
theorem OpJ.ro {o : Oper} (h : OpJ P o Γ [] [] (fun v => [own R e xs v]) (fun v => tv v)) : OpJ P o Γ [] [] (fun _ => []) (fun _ => tsl R xs) := by
  intro M w a hM hU hE hap hUE he
  refine (h M w a hM hU hE hap hUE he).mono ?_
  rintro v w' ⟨x, hs, hm, hv⟩
  have hv : v = x := hv
  subst hv
  have hfp := hm.place _ (List.mem_singleton.2 rfl)
  have hok := hm.ok _ (List.mem_singleton.2 rfl)
  refine ⟨undef, hs, made_nil, ?_⟩
  simp only [next_nil]
  refine ArgOk.own (x := .const v) (Γ := []) (U := [own R e xs v]) (R := R) (e := e) (xs := xs) (v := v) .k (by simp) (free (next M [] [own R e xs v]) w') (free M w') w' ⟨#[], []⟩ (fun k ⟨h1, h2⟩ => ⟨h1, fun hm => h2 (.inl ⟨hm, fun h => (by rw [eatFp_nil] at h; exact h)⟩)⟩) (fun A hA => ?_) (fun p hp => by simp at hp)
  obtain rfl := List.mem_singleton.1 hA
  refine ⟨hok, fun k hk => ⟨(hfp k hk).2, fun hm => ?_⟩⟩
  have := hM k hm
  rcases (hfp k hk).1 with h | h
  · rw [eatFp_nil] at h; exact h
  · omega
end

end Go.Sim

/- The logic's nineteenth part: buffers of bytes, and what strings.Builder does with them. No condition. -/
import Derived.Test.YthdfmpocknmleaaGreatDoorSimR
import Derived.Lib.AppendStr
import Derived.Lib.UnsafeStr
import Derived.Lib.Builder
import Derived.Laws.Externs
namespace Go.Sim

/-- Two atoms as one. -/
def atom2 (A B : Atom) : Atom :=
  ⟨fun k => A.fp k ∨ B.fp k, fun F w => A.ok F w ∧ B.ok F w ∧ ∀ k, A.fp k → ¬ B.fp k,
    fun hF hh hf h => ⟨A.keep hF hh (fun k hk => hf k (.inl hk)) h.1, B.keep hF hh (fun k hk => hf k (.inr hk)) h.2.1, h.2.2⟩⟩
/-- A pointer that is nil, or this one. -/
def tbp (q : Value) : Ty := ⟨fun _ _ v => (v = .pointer none ∨ v = q) ∧ v.oneCell' = true, fun _ _ h => h⟩
/-- A variable whose block is known to be of a type. -/
def boxT (t : TypeId) (Ts : List Ty) (p : Value) : Atom :=
  ⟨fun k => p = .pointer (some ⟨k, 0, none⟩), fun F w => ∃ b cur, p = .pointer (some ⟨b, 0, none⟩) ∧ w.heap[b]? = some (.cells cur t (0, 0)) ∧ Cells Ts F w cur.toList ∧ ∀ u ∈ cur.toList, u.oneCell' = true,
    fun hF hh hf ⟨b, cur, hp, hb, hc, h1⟩ => ⟨b, cur, hp, by rw [hf b hp]; exact hb, hc.keep hF hh, h1⟩⟩
/-- A builder of strings (tb: its type; e: that of bytes): its bytes, where it lies, its buffer. -/
def bldE (tb e : TypeId) (l : Str) (q v : Value) : Atom := atom2 (boxT tb [tbp q, tvs v] q) (own (rInt .u8) e (bytesOf l) v)

section
variable {M : Fr} {M0 : Blk} {w0 : World} {n : Nat} {Γ : List (Nat × Ty)} {As : List Atom} {a : Act} {w : World} {A B : Atom}
theorem fps2 : ∀ k, fps (A :: B :: As) k ↔ fps (atom2 A B :: As) k := by
  intro k
  constructor
  · rintro ⟨C, hC, hk⟩
    rcases List.mem_cons.1 hC with rfl | hC
    · exact ⟨_, List.mem_cons_self, .inl hk⟩
    · rcases List.mem_cons.1 hC with rfl | hC
      · exact ⟨_, List.mem_cons_self, .inr hk⟩
      · exact ⟨C, by simp [hC], hk⟩
  · rintro ⟨C, hC, hk⟩
    rcases List.mem_cons.1 hC with rfl | hC
    · rcases hk with hk | hk
      · exact ⟨A, by simp, hk⟩
      · exact ⟨B, by simp, hk⟩
    · exact ⟨C, by simp [hC], hk⟩
theorem hold2 : hold M0 (A :: B :: As) = hold M0 (atom2 A B :: As) := by
  funext k; exact propext ⟨fun h => h.imp id (fps2 k).1, fun h => h.imp id (fps2 k).2⟩
theorem St.open2 (h : St M w0 n Γ (atom2 A B :: As) a w) : St M w0 n Γ (A :: B :: As) a w := by
  have h1 := h.own _ List.mem_cons_self
  have hap := List.pairwise_cons.1 h.apart
  refine ⟨h.size, h.defers, h.grow, h.m0, ?_, ?_, ?_, ?_⟩
  · rw [hold2]
    intro C hC
    rcases List.mem_cons.1 hC with rfl | hC
    · exact h1.1
    · rcases List.mem_cons.1 hC with rfl | hC
      · exact h1.2.1
      · exact h.own C (by simp [hC])
  · intro C hC k hk
    rcases List.mem_cons.1 hC with rfl | hC
    · exact h.fresh _ List.mem_cons_self k (.inl hk)
    · rcases List.mem_cons.1 hC with rfl | hC
      · exact h.fresh _ List.mem_cons_self k (.inr hk)
      · exact h.fresh C (by simp [hC]) k hk
  · refine List.pairwise_cons.2 ⟨fun C hC k hk => ?_, List.pairwise_cons.2 ⟨fun C hC k hk => hap.1 C hC k (.inr hk), hap.2⟩⟩
    rcases List.mem_cons.1 hC with rfl | hC
    · exact h1.2.2 k hk
    · exact hap.1 C hC k (.inl hk)
  · rw [hold2]; exact h.slots
theorem St.close2 (h : St M w0 n Γ (A :: B :: As) a w) : St M w0 n Γ (atom2 A B :: As) a w := by
  have hap := List.pairwise_cons.1 h.apart
  have hap2 := List.pairwise_cons.1 hap.2
  refine ⟨h.size, h.defers, h.grow, h.m0, ?_, ?_, ?_, ?_⟩
  · rw [← hold2]
    intro C hC
    rcases List.mem_cons.1 hC with rfl | hC
    · exact ⟨h.own A (by simp), h.own B (by simp), hap.1 B (by simp)⟩
    · exact h.own C (by simp [hC])
  · intro C hC k hk
    rcases List.mem_cons.1 hC with rfl | hC
    · rcases hk with hk | hk
      · exact h.fresh A (by simp) k hk
      · exact h.fresh B (by simp) k hk
    · exact h.fresh C (by simp [hC]) k hk
  · refine List.pairwise_cons.2 ⟨fun C hC k hk => ?_, hap2.2⟩
    rcases hk with hk | hk
    · exact hap.1 C (by simp [hC]) k hk
    · exact hap2.1 C hC k hk
  · rw [← hold2]; exact h.slots
theorem St.swap (h : St M w0 n Γ (A :: B :: As) a w) : St M w0 n Γ (B :: A :: As) a w := h.perm (List.Perm.swap B A As)
end

section
variable {Γ : List (Nat × Ty)} {P : Program} {d : Option Tmp} {ty : TypeId} {pos : String} {af : Array Edge} {g : Option (Nat × Bool)} {x y : Operand} {T : Ty} {t t2 e : TypeId} {α : Type} {R : Rep α} {bytes : Nat} {z : Value}

theorem boxT_box {tb : TypeId} {Ts : List Ty} {q : Value} {F : Blk} {w : World} (h : (boxT tb Ts q).ok F w) : (box Ts q).ok F w := by
  obtain ⟨b, cur, hp, hb, r⟩ := h
  exact ⟨b, cur, tb, hp, hb, r⟩
/-- What reads a variable reads one whose type is known. -/
theorem OpJ.rT {o : Oper} {tb : TypeId} {Ts : List Ty} {q : Value} {N : Value → List Atom} {T : Value → Ty} (h : OpJ P o Γ [box Ts q] [] N T) : OpJ P o Γ [boxT tb Ts q] [] N T := by
  intro M w a hM hU hE hap hUE he
  refine h M w a hM (fun A hA => ?_) hE hap (fun A hA B hB => by cases hB) he
  obtain rfl := List.mem_singleton.1 hA
  have := hU _ (List.mem_singleton.2 rfl)
  exact ⟨boxT_box this.1, this.2⟩
theorem op_storeT' {a : α} {Ts : List Ty} {q : Value} {off : Nat} {tb : TypeId} (hz : TOk P t R bytes z) (hp : Fct Γ x (tv (padd q off))) (hx : Fct Γ y (R.ty a)) (hl : off + R.n ≤ Ts.length) :
    OpJ P ⟨d, .store t x y, ty, pos, af, g⟩ Γ [] [boxT tb Ts q] (fun _ => [boxT tb (splice Ts off (R.cs a)) q]) (fun _ => tany) := by
  intro M w A hM _ hE _ _ he
  obtain ⟨⟨b, cur, hq, hb, hc, h1⟩, hfp⟩ := hE _ (List.mem_singleton.2 rfl)
  have hgiv := given_fp hE
  have hv := hx.use (by simp [Op.operands]) he
  have hpv : A.eval x = .pointer (some ⟨b, off, none⟩) := by rw [hp.val (by simp [Op.operands]) he, hq]; simp [padd, addr_add]
  have hsz : cur.size = Ts.length := by simpa using hc.1
  have hr : (execOp A.eval (⟨d, .store t x y, ty, pos, af, g⟩ : Oper)).run P w = .ok .skip (w.setRow b (splice cur.toList off (A.eval y).cells.toList).toArray) := by
    have hrs := run_storeAt (off := off) hz hv hb (by omega)
    simp only [execOp, hpv, Sem.run_bind, hrs, Result.andThen_ok, Sem.run_pure]
  simp only [Does, hr]
  have hfpb : ∀ {Us : List Ty} k, (boxT tb Us q).fp k ↔ k = b := by intro Us k; rw [hq]; exact box_fp (Ts := Us)
  have heat : ∀ k, eatFp [boxT tb Ts q] k ↔ k = b := by
    intro k
    rw [eatFp_one, hfpb]
  refine ⟨undef, setRow_step ((heat b).2 rfl), made_one (fun k hk => ?_) ?_, trivial⟩
  · have hk := (hfpb k).1 hk
    subst hk
    refine ⟨.inl ((heat _).2 rfl), ?_⟩
    have := (Array.getElem?_eq_some_iff.1 hb).1
    simpa using this
  · obtain ⟨hcv, h1v, _⟩ := cells_of_ty hv
    refine ⟨b, _, hq, setRow_heap w b cur _ tb _ hb, ?_, ?_⟩
    · have hcs := (hc.splice (off := off) hcv (by rw [R.len]; exact hl))
      simp only
      refine hcs.keepE ?_ ?_
      · intro k hk
        refine free_next (by simp) hgiv (fun B hB j hj => ?_) hk
        obtain rfl := List.mem_singleton.1 hB
        exact .inl ((heat j).2 ((hfpb j).1 hj))
      · rintro k ⟨h2, h3⟩
        exact setRow_other w b k _ (fun e => h3 (hgiv k ((heat k).2 e)))
    · simpa using splice_one (off := off) h1 h1v
/-- A store of a slice's header. -/
theorem op_storeVT {xs : List α} {Ts : List Ty} {q u' : Value} {off : Nat} {tb : TypeId} (hz : TOk P t rVal bytes z) (hp : Fct Γ x (tv (padd q off))) (hx : Fct Γ y (tv u')) (hl : off + 1 ≤ Ts.length) :
    OpJ P ⟨d, .store t x y, ty, pos, af, g⟩ Γ [own R e xs u'] [boxT tb Ts q] (fun _ => [boxT tb (splice Ts off (rVal.cs u')) q]) (fun _ => tany) :=
  .say (A := own R e xs u') (by simp) (fun _ _ h => own_one h) fun hu => (op_storeT' (R := rVal) (a := u') (Ts := Ts) (off := off) hz hp (hx.weak fun _ _ _ h => ⟨h, hu⟩) hl).useMore (fun A hA => by cases hA)
/-- A new builder. -/
theorem op_allocB {tb be : TypeId} {bs : Nat} (hi : (P.info? tb).map (fun i => (i.zero, i.size, i.bytes)) = some (some (.agg #[.pointer none, .slice none 0 0]), 2, bs)) :
    OpJ P ⟨d, .alloc tb, ty, pos, af, g⟩ Γ [] [] (fun p => [bldE tb be [] p nilV]) (fun p => tv p) := by
  intro M w A hM _ _ _ _ _
  obtain ⟨ti, hti, hzz⟩ : ∃ ti, P.info? tb = some ti ∧ ti.zero = some (.agg #[.pointer none, .slice none 0 0]) := by
    cases hx : P.info? tb with
    | none => simp [hx] at hi
    | some i =>
      simp only [hx, Option.map_some, Option.some.injEq, Prod.mk.injEq] at hi
      exact ⟨i, rfl, hi.1⟩
  have hr : (execOp A.eval (⟨d, .alloc tb, ty, pos, af, g⟩ : Oper)).run P w = .ok (.value (.pointer (some ⟨w.heap.size, 0, none⟩))) (w.alloc (.cells #[.pointer none, .slice none 0 0] tb)) := by
    simp [execOp, Instr.alloc, zeroValue, typeInfo, hti, hzz, newVar, newRow, Value.cells]
  simp only [Does, hr]
  refine ⟨.pointer (some ⟨w.heap.size, 0, none⟩), (Step.alloc w _).mono (fun _ h => h.elim), made_one (fun k hk => ?_) ?_, rfl⟩
  · have hk : k = w.heap.size := by
      rcases hk with hk | hk
      · exact (box_fp (Ts := [])).1 hk
      · cases hk
    subst hk
    exact ⟨.inr (Nat.le_refl _), by simp⟩
  · refine ⟨⟨w.heap.size, _, rfl, heap_alloc_new w _, ?_, ?_⟩, ⟨[], World.ownsRow_nil _ _ _ _, rfl, fun j T u hT => by simp [bytesOf] at hT⟩, fun k _ hk => by cases hk⟩
    · exact .cons ⟨.inl rfl, rfl⟩ (.cons ⟨rfl, rfl⟩ .nil)
    · intro u hu
      simp at hu
      rcases hu with rfl | rfl <;> rfl

/-- Appending a string's bytes. -/
theorem run_appendS {xs : List Int} {v : Value} {F F' : Blk} {w : World} {s : Str} (ht : P.underlying t = some (.slice e)) (hu : P.underlying t2 = some .string) (hz : TOk P e (rInt .u8) 1 (.int .u8 0))
    (ho : (own (rInt .u8) e xs v).ok F w) (hF : ∀ k, F k → k < w.heap.size ∧ ¬ (own (rInt .u8) e xs v).fp k) (hFF : ∀ k, F k → F' k) (h : rm (xs.length + s.length) = some ()) :
    ∃ v' w', (Builtin.append_ #[t, t2] ty #[v, .string (sB s)]).run P w = .ok v' w' ∧ Step (own (rInt .u8) e xs v).fp w w' ∧ (∀ k, (own (rInt .u8) e (xs ++ bytesOf s) v').fp k → ((own (rInt .u8) e xs v).fp k ∨ w.heap.size ≤ k) ∧ k < w'.heap.size) ∧ (own (rInt .u8) e (xs ++ bytesOf s) v').ok F' w' := by
  obtain ⟨ti, hti, hzz, hs, hbb⟩ := hz.info
  have hs1 : ti.size = 1 := hs
  have hroom : xs.length + s.length ≤ 68719476736 := by unfold rm at h; split at h <;> first | assumption | cases h
  have hsz := sB_size s
  have hlen : (bytesOf s).length = s.length := by simp [bytesOf]
  have hnl : (Lib.strCells (sB s)).length = s.length := by rw [Lib.strCells_length, hsz]
  have hcn : ∀ F w, Cells ((bytesOf s).flatMap (rInt .u8).cs) F w (Lib.strCells (sB s)) := by
    intro F w
    rw [bytes_cells]
    refine ⟨by simp [hnl, hlen], fun j T u hT hu => ?_⟩
    simp only [Lib.strCells, bytesOf, sB, List.map_map, List.getElem?_map, Option.map_eq_some_iff] at hT hu
    obtain ⟨c, h1, rfl⟩ := hT
    obtain ⟨c', h2, rfl⟩ := hu
    have : some c = some c' := h1.symm.trans h2
    cases this
    rfl
  have hxf : (xs.flatMap (rInt .u8).cs).length = xs.length := by rw [bytes_cells]; simp
  have hlt : ∀ k, (own (rInt .u8) e xs v).fp k → k < w.heap.size := by
    intro k hk
    rcases own_cells ho with ⟨hv, _⟩ | ⟨b, cap, cur, hv, hbk, _⟩
    · rw [hv] at hk; cases hk
    · rw [hv] at hk
      rw [own_fp.1 hk]
      exact (Array.getElem?_eq_some_iff.1 hbk).1
  have hz1 : (Value.int IntKind.u8 0).cells.size = 1 := rfl
  rcases own_cells ho with ⟨hv, hx⟩ | ⟨gb, cap, cur, hv, hbk, h1, h2, h3, h4⟩
  · subst hv; subst hx
    by_cases hs0 : s = []
    · subst hs0
      refine ⟨.slice none 0 0, w, ?_, Step.refl _ _, fun k hk => (by exact absurd hk (by intro h; cases h)), ?_⟩
      · have hf := Lib.run_firstCells_string (P := P) w 1 (sB [])
        have e0 : (sB []).size = 0 := rfl
        have e4 : (⟨#[]⟩ : ByteArray) = ByteArray.empty := rfl
        rw [e0] at hf
        have e5 : Lib.strCells (sB []) = [] := rfl
        rw [e5] at hf
        simp [Builtin.append_, run_underlying ht, run_underlying hu, sizeOf, typeInfo, hti, hs1, Builtin.lenOf, e0, hf]
      · exact ⟨[], World.ownsRow_nil _ _ _ _, rfl, fun j T u hT => by simp [bytesOf] at hT⟩
    · have hpos : 0 < s.length := by
        rcases s with _ | ⟨b, s⟩
        · exact (hs0 rfl).elim
        · simp
      simp only [List.length_nil, Nat.zero_add] at hroom
      have hrun := run_append_nil_string (P := P) w t t2 ty e ti (.int .u8 0) ht hu hti hzz (sB s) (by rw [hsz]; omega) (by rw [hsz]; omega) (by rw [hsz, hbb]; omega)
      have hge := grownCap_ge w (sB s).size 0 e
      have hle := grownCap_le_maxLen w (sB s).size 0 e (by rw [hsz]; unfold maxLen; omega)
      have e1 : ((sB s).data.map fun b => Value.int .u8 b.toNat) = (Lib.strCells (sB s)).toArray := by
        apply Array.ext'
        simp [Lib.strCells]
      rw [e1] at hrun
      refine ⟨_, _, hrun, ⟨rfl, rfl, rfl, by simp, fun k hk _ => Go.RowKit.Below.heap_alloc w.drew _ k hk⟩, ?_, ?_⟩
      · intro k hk
        rw [own_fp.1 hk]
        exact ⟨.inr (Nat.le_refl _), by simp⟩
      · rw [List.nil_append, hsz, ← hlen]
        rw [hsz, ← hlen] at hge hle
        refine own_mk (heap_alloc_new w.drew _) hge hle ?_ ?_
        · rw [hlen] at hge ⊢
          simp only [Array.size_append, List.size_toArray, size_zeroCells, hz1, hnl]
          show _ = _ * 1
          omega
        · have e2 : ((Lib.strCells (sB s)).toArray ++ Builtin.zeroCells (Value.int .u8 0).cells (grownCap w (bytesOf s).length 0 e - (bytesOf s).length)).toList.take ((bytesOf s).length * 1) = Lib.strCells (sB s) := by
            rw [Array.toList_append, List.take_left' (by rw [List.toList_toArray, hnl, hlen, Nat.mul_one])]
          show Cells _ F' _ (List.take ((bytesOf s).length * 1) _)
          rw [e2]
          exact hcn _ _
  · subst hv
    have h3' : cur.size = cap := by simpa using h3
    by_cases hcap : xs.length + s.length ≤ cap
    · have hrun := Lib.run_append_room_string (P := P) w t t2 ty e ti ht hu hti hs1 gb xs.length cap cur hbk (sB s) (by rw [hsz]; exact hcap) (by rw [hsz, h3']; exact hcap)
      refine ⟨_, _, hrun, setRow_step (own_fp.2 rfl), ?_, ?_⟩
      · intro k hk
        rw [own_fp.1 hk]
        exact ⟨.inl (own_fp.2 rfl), by simpa using (Array.getElem?_eq_some_iff.1 hbk).1⟩
      · have el : xs.length + (sB s).size = (xs ++ bytesOf s).length := by rw [hsz]; simp [hlen]
        rw [el]
        refine own_mk (setRow_heap w gb cur _ e _ hbk) (by rw [← el, hsz]; exact hcap) h2 ?_ ?_
        · simp only [List.size_toArray, List.length_append, List.length_take, List.length_drop, Array.length_toList, hnl, hsz]
          show _ = cap * 1
          omega
        · have e2 : (cur.toList.take xs.length ++ Lib.strCells (sB s) ++ cur.toList.drop (xs ++ bytesOf s).length).take ((xs ++ bytesOf s).length * 1) = cur.toList.take (xs.length * 1) ++ Lib.strCells (sB s) := by
            rw [Nat.mul_one, Nat.mul_one]
            refine List.take_left' ?_
            rw [List.length_append, hnl, List.length_take, ← el, hsz]
            simp; omega
          show Cells _ F' _ (List.take ((xs ++ bytesOf s).length * 1) (List.toArray _).toList)
          rw [List.toList_toArray, e2, List.flatMap_append]
          exact (h4.keepE hFF (fun k hk => setRow_other w gb k _ (fun e => (hF k hk).2 (own_fp.2 e)))).append (hcn _ _)
    · have holds : ∀ j u, (cur.toList.take xs.length)[j]? = some u → w.cell? ((⟨gb, 0, none⟩ : Addr).add j) = some u := by
        intro j u hu
        rw [List.getElem?_take] at hu
        split at hu
        · rw [addr_add, Nat.zero_add]
          simpa [World.cell?, hbk] using hu
        · cases hu
      have holdl : (cur.toList.take xs.length).length = xs.length * ti.size := by rw [hs1]; simp; omega
      have hrun := Lib.run_append_grow_string (P := P) w t t2 ty e ti (.int .u8 0) ht hu hti hzz ⟨gb, 0, none⟩ xs.length cap _ holdl holds (sB s) (by rw [hsz]; omega) (by rw [hsz]; omega) (growslice_fits (by rw [hsz]; omega) (by rw [hbb, hsz]; omega))
      have hge := grownCap_ge w (xs.length + (sB s).size) cap e
      have hle := grownCap_le_maxLen w (xs.length + (sB s).size) cap e (by rw [hsz]; unfold maxLen; omega)
      refine ⟨_, _, hrun, ⟨rfl, rfl, rfl, by simp, fun k hk _ => Go.RowKit.Below.heap_alloc w.drew _ k hk⟩, ?_, ?_⟩
      · intro k hk
        rw [own_fp.1 hk]
        exact ⟨.inr (Nat.le_refl _), by simp⟩
      · have el : xs.length + (sB s).size = (xs ++ bytesOf s).length := by rw [hsz]; simp [hlen]
        rw [el] at hge hle ⊢
        refine own_mk (heap_alloc_new w.drew _) hge hle ?_ ?_
        · simp only [Array.size_append, List.size_toArray, size_zeroCells, hz1, holdl, hnl, hs1, List.length_append, hlen]
          simp only [List.length_append, hlen] at hge
          show _ = _ * 1
          omega
        · have e2 : (((cur.toList.take xs.length).toArray ++ (Lib.strCells (sB s)).toArray ++ Builtin.zeroCells (Value.int .u8 0).cells (grownCap w (xs ++ bytesOf s).length cap e - (xs ++ bytesOf s).length)).toList).take ((xs ++ bytesOf s).length * 1) = cur.toList.take (xs.length * 1) ++ Lib.strCells (sB s) := by
            rw [Array.toList_append, Array.toList_append, Nat.mul_one, Nat.mul_one]
            refine List.take_left' ?_
            simp only [List.length_append, List.toList_toArray, holdl, hnl, hs1, hlen, Nat.mul_one]
          show Cells _ F' _ (List.take ((xs ++ bytesOf s).length * 1) _)
          rw [e2, List.flatMap_append]
          exact (h4.keepE hFF (fun k hk => Go.RowKit.Below.heap_alloc w.drew _ k (hF k hk).1)).append (hcn _ _)

theorem op_appendS {xs : List Int} {v : Value} {s : Str} (ht : P.underlying t = some (.slice e)) (hu : P.underlying t2 = some .string) (hz : TOk P e (rInt .u8) 1 (.int .u8 0)) (hx : Fct Γ x (tv v)) (hy : Fct Γ y (tv (.string (sB s)))) (h : rm (xs.length + s.length) = some ()) :
    OpJ P ⟨d, .call { callee := .builtin .append, args := #[x, y], argTypes := #[t, t2] }, ty, pos, af, g⟩ Γ [] [own (rInt .u8) e xs v] (fun v' => [own (rInt .u8) e (xs ++ bytesOf s) v']) (fun v' => tv v') := by
  intro M w A hM _ hE _ _ he
  obtain ⟨ho, hfp⟩ := hE _ (List.mem_singleton.2 rfl)
  have hgiv := given_fp hE
  have h1 := hx.val (by simp [Op.operands, Call.operands]) he
  have h2 := hy.val (by simp [Op.operands, Call.operands]) he
  obtain ⟨v', w', hrun, hstep, hfp', hok⟩ := run_appendS (ty := ty) (F := free M w) (F' := fun k => k < w.heap.size ∧ ¬ M k) ht hu hz ho (fun k hk => ⟨hk.1, fun hf => hk.2 (hfp k hf)⟩) (fun k hk => hk) h
  have hexec : (execOp A.eval (⟨d, .call { callee := .builtin .append, args := #[x, y], argTypes := #[t, t2] }, ty, pos, af, g⟩ : Oper)).run P w = .ok (.value v') w' := by
    simp only [execOp, resolve, invoke, builtin, Sem.run_bind, Sem.run_pure, Result.andThen_ok, List.map_toArray, List.map_cons, List.map_nil, h1, h2, hrun]
  simp only [Does, hexec]
  refine ⟨v', hstep.mono (fun k hk => eatFp_one.2 hk), made_one (fun k hk => ⟨(hfp' k hk).1.imp eatFp_one.2 id, (hfp' k hk).2⟩) ?_, rfl⟩
  refine Atom.keep _ (fun k hk => ?_) (fun _ _ => rfl) (fun _ _ => rfl) hok
  refine free_next hstep.size hgiv (fun B hB j hj => ?_) hk
  obtain rfl := List.mem_singleton.1 hB
  exact (hfp' j hj).1.imp eatFp_one.2 id

/-- The address of an owned slice's bytes. -/
theorem op_sliceData {xs : List α} {v : Value} (hne : xs ≠ []) (hx : Fct Γ x (tv v)) : OpJ P ⟨d, .call { callee := .builtin .unsafeSliceData, args := #[x], argTypes := #[t] }, ty, pos, af, g⟩ Γ [own R e xs v] [] (fun _ => []) (fun _ => tv (elemP v 0)) :=
  opj_use fun M w A hU he => by
    have h1 := hx.val (by simp [Op.operands, Call.operands]) he
    rcases own_cells (hU _ (List.mem_singleton.2 rfl)) with ⟨_, hn⟩ | ⟨b, cap, cur, hv, _, hl, _⟩
    · exact (hne hn).elim
    · subst hv
      have hc : cap ≠ 0 := by
        have : 0 < xs.length := List.length_pos_iff.2 hne
        omega
      refine ⟨.pointer (some ⟨b, 0, none⟩), by simp only [execOp, resolve, invoke, builtin, Sem.run_bind, Sem.run_pure, Result.andThen_ok, List.map_toArray, List.map_cons, List.map_nil, h1, Lib.run_unsafeSliceData_row (P := P) (w := w) #[t] ty ⟨b, 0, none⟩ xs.length cap hc], ?_⟩
      show _ = _
      simp [elemP, Addr.add]
/-- An owned slice's bytes become a string; nobody writes there again. -/
theorem op_unsafeString {l : Str} {v : Value} {pt it : TypeId} (hp : P.underlying pt = some (.pointer e)) (hc : P.cellsOf e = 1) (hne : l ≠ []) (hx : Fct Γ x (tv (elemP v 0))) (hy : Fct Γ y (tv (.int .i64 ((bytesOf l).length : Int)))) :
    OpJ P ⟨d, .call { callee := .builtin .unsafeString, args := #[x, y], argTypes := #[pt, it] }, ty, pos, af, g⟩ Γ [] [own (rInt .u8) e (bytesOf l) v] (fun _ => []) (fun _ => tv (.string (sB l))) := by
  intro M w A hM _ hE _ _ he
  obtain ⟨ho, hfp⟩ := hE _ (List.mem_singleton.2 rfl)
  have h1 := hx.val (by simp [Op.operands, Call.operands]) he
  have h2 := hy.val (by simp [Op.operands, Call.operands]) he
  have hlen : (bytesOf l).length = l.length := by simp [bytesOf]
  rw [hlen] at h2
  rcases own_cells ho with ⟨_, hn⟩ | ⟨b, cap, cur, hv, hb, hl, hm, hs, hcells⟩
  · have : l.length = 0 := by rw [← hlen, hn]; rfl
    exact (hne (List.eq_nil_of_length_eq_zero this)).elim
  · subst hv
    have hrun := Lib.run_unsafeString_row (P := P) w pt it ty e hp hc b cur.size (by simp [World.shape?, hb]) l hne (by rw [hs, ← hlen]; show _ ≤ cap * 1; omega) (by unfold maxLen at hm; omega) (fun j c hj => by
      rw [addr_add, Nat.zero_add]
      have hj' : j < l.length := (List.getElem?_eq_some_iff.1 hj).1
      have hT : ((bytesOf l).flatMap (rInt .u8).cs)[j]? = some (tv (.int .u8 (c.toNat : Int))) := by
        rw [bytes_cells]; simp [bytesOf, hj]
      have hlt : j < (cur.toList.take ((bytesOf l).length * (rInt .u8).n)).length := by rw [hcells.1]; exact (List.getElem?_eq_some_iff.1 hT).1
      have := hcells.2 j _ _ hT (List.getElem?_eq_getElem hlt)
      have hval : cur.toList[j]? = some (.int .u8 (c.toNat : Int)) := by
        have h3 := List.getElem?_eq_getElem hlt
        rw [show (cur.toList.take ((bytesOf l).length * (rInt .u8).n))[j] = Value.int .u8 (c.toNat : Int) from this] at h3
        rw [List.getElem?_take] at h3
        split at h3
        · exact h3
        · cases h3
      simpa [World.cell?, hb] using hval)
    have hev : elemP (Value.slice (some ⟨b, 0, none⟩) (bytesOf l).length cap) 0 = .pointer (some ⟨b, 0, none⟩) := by simp [elemP, Addr.add]
    have hexec : (execOp A.eval (⟨d, .call { callee := .builtin .unsafeString, args := #[x, y], argTypes := #[pt, it] }, ty, pos, af, g⟩ : Oper)).run P w = .ok (.value (.string ⟨l.toArray⟩)) (w.freeze ⟨b, 0, none⟩ l.length) := by
      simp only [execOp, resolve, invoke, builtin, Sem.run_bind, Sem.run_pure, Result.andThen_ok, List.map_toArray, List.map_cons, List.map_nil, h1, h2, hev, hrun]
    simp only [Does, hexec]
    refine ⟨undef, ?_, made_nil, rfl⟩
    have hne0 : l.length ≠ 0 := fun h => hne (List.eq_nil_of_length_eq_zero h)
    refine ⟨by simp [World.freeze, hne0], by simp [World.freeze, hne0], by simp [World.freeze, hne0], by simp [World.freeze, hne0], fun k hk hnk => ?_⟩
    have hkb : b ≠ k := fun e => hnk (eatFp_one.2 (own_fp.2 e.symm))
    simp [World.freeze, hne0, Array.getElem?_modify, hkb]

end

end Go.Sim

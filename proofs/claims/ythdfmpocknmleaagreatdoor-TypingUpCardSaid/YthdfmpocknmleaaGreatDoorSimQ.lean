/- The logic's seventeenth part: structs in variables some of whose parts are owned, what is given to calls, bytes and strings, function values. No condition. -/
import Derived.Test.YthdfmpocknmleaaGreatDoorSimP
namespace Go.Sim

theorem one_rep {α : Type} (R : Rep α) {x : α} : ∀ T, T ∈ R.cs x → One T := fun T h => R.one x T h
theorem one_app {Ts Us : List Ty} (h : ∀ T, T ∈ Ts → One T) (k : ∀ T, T ∈ Us → One T) : ∀ T, T ∈ Ts ++ Us → One T := fun T hT => (List.mem_append.1 hT).elim (h T) (k T)
/-- Cells of which some are owned. -/
@[reducible] def rAgg (Us : List Ty) (h : ∀ T, T ∈ Us → One T) : Rep Unit := ⟨fun _ => Us, Us.length, true, fun _ => rfl, fun _ => h, fun h => by cases h⟩
theorem tokA {P : Program} {t : TypeId} {α : Type} {R : Rep α} {b : Nat} {z : Value} (hz : TOk P t R b z) {Us : List Ty} (h : ∀ T, T ∈ Us → One T) (hn : Us.length = R.n) (ha : R.agg = true) : TOk P t (rAgg Us h) b z :=
  ⟨by obtain ⟨d, h1, h2⟩ := hz.d; exact ⟨d, h1, h2.trans ha⟩, by show _ = some (some z, Us.length, b); rw [hn]; exact hz.i, by show _ = Us.length; rw [hn]; exact hz.zc⟩
section
variable {Γ : List (Nat × Ty)} {P : Program} {d : Option Tmp} {ty : TypeId} {pos : String} {af : Array Edge} {g : Option (Nat × Bool)} {x y : Operand} {T : Ty} {t e : TypeId} {α : Type} {R : Rep α} {bytes : Nat} {z : Value}

theorem Fct.nilV : Fct Γ (.const (.slice none 0 0)) (rVal.ty nilV) := fun _ _ _ _ => ⟨rfl, rfl⟩
theorem op_loadBVf {Ts : List Ty} {q u : Value} {off : Nat} (hz : TOk P t rVal bytes z) (hp : Fct Γ x (tv (padd q off))) (h : rVal.cs u = (Ts.drop off).take (rVal.cs u).length) : OpJ P ⟨d, .load t x, ty, pos, af, g⟩ Γ [box Ts q] [] (fun _ => []) (fun _ => tv u) :=
  op_weak (op_loadBf (R := rVal) (u := u) hz hp h) (fun _ _ _ _ h => h.1)
theorem op_storeBV2 {q u' : Value} {xs : List α} {Ts : List Ty} (hz : TOk P t rVal bytes z) (hp : Fct Γ x (tv q)) (hx : Fct Γ y (tv u')) (hl : 1 ≤ Ts.length) : OpJ P ⟨d, .store t x y, ty, pos, af, g⟩ Γ [own R e xs u'] [box Ts q] (fun _ => [box (splice Ts 0 (rVal.cs u')) q]) (fun _ => tany) :=
  .say (A := own R e xs u') (by simp) (fun _ _ h => own_one h) fun hu => (op_storeB (R := rVal) (a := u') (Ts := Ts) hz hp (hx.weak fun _ _ _ h => ⟨h, hu⟩) hl).useMore (fun A hA => by cases hA)
theorem op_storeBVf {q u' : Value} {xs : List α} {Ts : List Ty} {off : Nat} (hz : TOk P t rVal bytes z) (hp : Fct Γ x (tv (padd q off))) (hx : Fct Γ y (tv u')) (hl : off + 1 ≤ Ts.length) : OpJ P ⟨d, .store t x y, ty, pos, af, g⟩ Γ [own R e xs u'] [box Ts q] (fun _ => [box (splice Ts off (rVal.cs u')) q]) (fun _ => tany) :=
  .say (A := own R e xs u') (by simp) (fun _ _ h => own_one h) fun hu => (op_storeBf (R := rVal) (a := u') (Ts := Ts) (off := off) hz hp (hx.weak fun _ _ _ h => ⟨h, hu⟩) hl).useMore (fun A hA => by cases hA)
/-- A field of an element of an owned slice. -/
theorem op_loadOf {β : Type} {R2 : Rep β} {f : β} {xs : List α} {u : α} {v : Value} {i : Int} {off : Nat} (hz : TOk P t R2 bytes z) (hp : Fct Γ x (tv (padd (elemP v (i.toNat * R.n)) off))) (h : idx xs i = some u) (hf : R2.cs f = ((R.cs u).drop off).take (R2.cs f).length) :
    OpJ P ⟨d, .load t x, ty, pos, af, g⟩ Γ [own R e xs v] [] (fun _ => []) (fun _ => R2.ty f) :=
  opj_use fun M w a hU he => by
    have hv := hp.val (by simp [Op.operands]) he
    obtain ⟨us, hc, hh⟩ := own_cellsL (hU _ (List.mem_singleton.2 rfl))
    unfold idx at h
    split at h
    · have hlt : i.toNat < xs.length := (List.getElem?_eq_some_iff.1 h).1
      rcases hh with ⟨_, hn⟩ | ⟨b, cap, hvv, hcell⟩
      · rw [hn] at hlt; simp at hlt
      · subst hvv
        have hrow : Row (xs.flatMap R.cs) (free M w) w b 0 := fun j T hj => by
          have hlt : j < us.length := by rw [hc.1]; exact (List.getElem?_eq_some_iff.1 hj).1
          exact ⟨us[j], by rw [Nat.zero_add]; exact hcell j _ (List.getElem?_eq_getElem hlt), hc.2 j T _ hj (List.getElem?_eq_getElem hlt)⟩
        have hr := ((hrow.elem h).part off).head hf
        rw [Nat.zero_add] at hr
        obtain ⟨v', hrun, hty⟩ := run_loadAt hz hr
        refine ⟨v', ?_, hty⟩
        simp only [execOp, hv, elemP, padd, addr_add, Sem.run_bind, Nat.zero_add] at hrun ⊢
        simp only [hrun, Result.andThen_ok, Sem.run_pure]
    · cases h

/-- What would be owned is only read from now on; what was given is gone. -/
theorem OpJ.roE {o : Oper} {U E : List Atom} {xs : List α} (h : OpJ P o Γ U E (fun v => [own R e xs v]) (fun v => tv v)) : OpJ P o Γ U E (fun _ => []) (fun _ => tsl R xs) := by
  intro M w a hM hU hE hap hUE he
  refine (h M w a hM hU hE hap hUE he).mono ?_
  rintro v w' ⟨x, hs, hm, hv⟩
  have hv : v = x := hv
  subst hv
  have hok := hm.ok _ (List.mem_singleton.2 rfl)
  refine ⟨undef, hs, made_nil, ?_⟩
  have hfree : ∀ k, (own R e xs v).fp k → free (next M E []) w' k := by
    intro k hk
    obtain ⟨h1, h2⟩ := hm.place _ (List.mem_singleton.2 rfl) k hk
    refine ⟨h2, ?_⟩
    rintro (⟨hm1, hm2⟩ | ⟨A, hA, _⟩)
    · rcases h1 with h1 | h1
      · exact hm2 h1
      · have := hM k hm1; omega
    · cases hA
  have hsub : ∀ k, free (next M E [own R e xs v]) w' k → free (next M E []) w' k := by
    rintro k ⟨h1, h2⟩
    refine ⟨h1, ?_⟩
    rintro (hm1 | ⟨A, hA, _⟩)
    · exact h2 (.inl hm1)
    · cases hA
  exact ArgOk.own (x := .tmp 0) (Γ := [(0, tv v)]) (U := [own R e xs v]) (R := R) (e := e) (xs := xs) (v := v) (Fct.t 0 rfl) (by simp) _ _ w' ⟨#[v], []⟩ hsub (fun A hA => by simp at hA; subst hA; exact ⟨hok, hfree⟩) (fun p hp _ => by simp at hp; subst hp; rfl)

/-- An atom without blocks may be given to a call and kept. -/
theorem OpJ.gloG {o : Oper} {G : Atom} (h0 : ∀ k, ¬ G.fp k) {U E : List Atom} {N : Value → List Atom} {T : Value → Ty} (h : OpJ P o Γ U (G :: E) N T) : OpJ P o Γ (G :: U) E N T := by
  have e1 : eatFp (G :: E) = eatFp E := by
    funext k
    refine propext ⟨?_, ?_⟩
    · rintro ⟨A, hA, hk⟩
      rcases List.mem_cons.1 hA with rfl | hA
      · exact (h0 k hk).elim
      · exact ⟨A, hA, hk⟩
    · rintro ⟨A, hA, hk⟩
      exact ⟨A, by simp [hA], hk⟩
  intro M w a hM hU hE hap hUE he
  refine (h M w a hM (fun A hA => hU A (by simp [hA])) (fun A hA => ?_) ?_ (fun A hA B hB k hk => ?_) he).mono ?_
  · rcases List.mem_cons.1 hA with rfl | hA
    · exact hU A (by simp)
    · exact hE A hA
  · exact List.pairwise_cons.2 ⟨fun B _ k hk => (h0 k hk).elim, hap⟩
  · rcases List.mem_cons.1 hB with rfl | hB
    · exact h0 k
    · exact hUE A (by simp [hA]) B hB k hk
  · rintro v w' ⟨x, hs, hm, ht⟩
    rw [e1] at hs
    have e2 : ∀ N, next M (G :: E) N = next M E N := fun N => by funext k; simp only [next, e1]
    rw [e2] at ht
    exact ⟨x, hs, ⟨hm.apart, fun A hA k hk => by have := hm.place A hA k hk; rwa [e1] at this, fun A hA => by have := hm.ok A hA; rwa [e2] at this⟩, ht⟩

theorem op_callT {E : List Atom} {A B : Type} {Ts : A → List Ty} {Tr : B → Ty} {p : A → Option B} {f : Operand} {xs : List Operand} {u : A} {b : B} {ts : Array TypeId} (hf : Fct Γ f (tfn P E Ts Tr p)) (ha : Args Γ [] xs (Ts u)) (h : p u = some b) :
    OpJ P ⟨d, .call { callee := .value f, args := xs.toArray, argTypes := ts }, ty, pos, af, g⟩ Γ [] E (fun _ => []) (fun _ => Tr b) := by
  intro M w a hM hU hE hap hUE he
  obtain ⟨fid, Tc, ⟨caps, hv, hcap⟩, hc, hok⟩ := hf.use (by simp [Op.operands, Call.operands]) he
  have hargs := ha.cells (F := free M w) (F' := free M w) (a := a) (fun _ h => h) (fun A hA => by simp at hA) (fun p hp hx => he p hp (by simp [Op.operands, Call.operands, hx]))
  have hr := run_call (ty := ty) (pos := pos) (af := af) (g := g) (d := d) (xs := xs) (ts := ts) (w := w) hc hv
  simp only [Does, hr]
  refine Calls.mono (hok u b h M w _ hM hE hap (hargs.append hcap)) ?_
  rintro en w' ⟨x0, v, hen, h⟩
  exact ⟨v, hen, x0, h⟩

/-! Bytes and strings -/

def bytesOf (s : Str) : List Int := s.map fun b => (b.toNat : Int)
theorem bytes_cells : ∀ (s : List Int), (s.flatMap (rInt .u8).cs) = s.map fun b => tv (.int .u8 b)
  | [] => rfl
  | b :: s => by rw [List.flatMap_cons, bytes_cells s]; rfl
theorem op_s2b {s : Str} {t2 : TypeId} {u : TypeDesc} (hs : P.underlying t = some u) (ht : P.underlying t2 = some (.slice e)) (he : P.underlying e = some (.int .u8)) (hx : Fct Γ x (tv (.string (sB s)))) :
    OpJ P ⟨d, .convert t t2 x, ty, pos, af, g⟩ Γ [] [] (fun _ => []) (fun _ => tsl (rInt .u8) (bytesOf s)) :=
  opj_new fun F w a hF hen => by
    have hv := hx.val (by simp [Op.operands]) hen
    refine ⟨_, _, by simp only [execOp, hv, Sem.run_bind, Lib.run_convert_string_bytes w t t2 e (sB s) hs ht he, Result.andThen_ok, Sem.run_pure]; rfl, ?_, fun F' h1 h2 => ?_⟩
    · exact ⟨rfl, rfl, rfl, by rw [Lib.bytesWorld_size]; omega, fun k hk _ => Lib.bytesWorld_at_old w e (sB s) k hk⟩
    · refine ⟨some ⟨w.heap.size, 0, none⟩, grownCap w (sB s).size 0 e, ?_, ?_, fun _ => ⟨w.heap.size, 0, rfl, h2 _ (Nat.le_refl _) (by rw [Lib.bytesWorld_size]; omega), fun j T hj => ?_⟩⟩
      · simp [bytesOf, sB_size]
      · rw [show (bytesOf s).length = s.length by simp [bytesOf]]
        rw [sB_size]
        exact grownCap_ge _ _ _ _
      · rw [bytes_cells] at hj
        have hj' : j < s.length := by
          have := (List.getElem?_eq_some_iff.1 hj).1
          simpa [bytesOf] using this
        refine ⟨_, by rw [Nat.zero_add]; exact Lib.bytesWorld_cell w e (sB s) j (by rw [sB_size]; exact hj'), ?_⟩
        simp only [bytesOf, List.map_map] at hj
        simp [hj'] at hj
        subst hj
        show _ = _
        simp [sB, List.getD_eq_getElem?_getD, hj']
end

section
variable {M : Fr} {w0 : World} {n : Nat} {Γ : List (Nat × Ty)} {As : List Atom} {a : Act} {w : World}
/-- A part of a variable that the call owned is only read from now on. -/
theorem St.shareC {α : Type} {R : Rep α} {e : TypeId} {xs : List α} {v q : Value} {Ts : List Ty} (k : Nat) (h : St M w0 n Γ (Sim.own R e xs v :: box Ts q :: As) a w) (hk : Ts[k]? = some (tvs v)) : St M w0 n Γ (box (Ts.set k (tsl R xs)) q :: As) a w := by
  have hf : ∀ j, fps (box (Ts.set k (tsl R xs)) q :: As) j → fps (Sim.own R e xs v :: box Ts q :: As) j := by
    rintro j ⟨A, hA, hj⟩
    rcases List.mem_cons.1 hA with rfl | hA
    · exact ⟨box Ts q, by simp, hj⟩
    · exact ⟨A, by simp [hA], hj⟩
  have hfree : ∀ j, free (hold M.m (Sim.own R e xs v :: box Ts q :: As)) w j → free (hold M.m (box (Ts.set k (tsl R xs)) q :: As)) w j := fun j hj => ⟨hj.1, fun hm => hj.2 (hm.imp id (hf j))⟩
  have hown := h.own (Sim.own R e xs v) (by simp)
  have hbox := h.own (box Ts q) (by simp)
  have hap := List.pairwise_cons.1 h.apart
  have hfp : ∀ j, (Sim.own R e xs v).fp j → free (hold M.m (box (Ts.set k (tsl R xs)) q :: As)) w j := by
    intro j hj
    have hfr := h.fresh _ (List.mem_cons_self) j hj
    refine ⟨hfr.2, ?_⟩
    rintro (hm | ⟨A, hA, hkA⟩)
    · have := h.m0 j hm
      rcases hfr.1 with hb | hb
      · exact this.2 hb
      · omega
    · rcases List.mem_cons.1 hA with rfl | hA
      · exact hap.1 (box Ts q) (by simp) j hj hkA
      · exact hap.1 A (by simp [hA]) j hj hkA
  have hsl : (tsl R xs).ok (free (hold M.m (box (Ts.set k (tsl R xs)) q :: As)) w) w v :=
    ArgOk.own (x := .tmp 0) (Γ := [(0, tv v)]) (U := [Sim.own R e xs v]) (R := R) (e := e) (xs := xs) (v := v) (Fct.t 0 rfl) (by simp) _ _ w ⟨#[v], []⟩ hfree (fun A hA => by simp at hA; subst hA; exact ⟨hown, hfp⟩) (fun p hp _ => by simp at hp; subst hp; rfl)
  refine ⟨h.size, h.defers, h.grow, h.m0, ?_, ?_, ?_, fun p hp => p.2.keep hfree (fun _ _ => rfl) (h.slots p hp)⟩
  · intro A hA
    rcases List.mem_cons.1 hA with rfl | hA
    · obtain ⟨b, cur, e', hq, hb, hc, h1⟩ := hbox
      refine ⟨b, cur, e', hq, hb, ⟨by rw [hc.1]; simp, fun j T u hT hu => ?_⟩, h1⟩
      by_cases hj : k = j
      · subst hj
        have hlt : k < Ts.length := (List.getElem?_eq_some_iff.1 hk).1
        simp [List.getElem?_set, hlt] at hT
        subst hT
        have hu' : u = v := (hc.2 k _ u hk hu).1
        rw [hu']; exact hsl
      · rw [List.getElem?_set_ne hj] at hT
        exact T.keep hfree (fun _ _ => rfl) (hc.2 j T u hT hu)
    · exact A.keep hfree (fun _ _ => rfl) (fun _ _ => rfl) (h.own A (by simp [hA]))
  · intro A hA j hj
    rcases List.mem_cons.1 hA with rfl | hA
    · exact h.fresh (box Ts q) (by simp) j hj
    · exact h.fresh A (by simp [hA]) j hj
  · have h2 := List.pairwise_cons.1 hap.2
    exact List.pairwise_cons.2 ⟨fun B hB j hj => h2.1 B hB j hj, h2.2⟩
end

end Go.Sim

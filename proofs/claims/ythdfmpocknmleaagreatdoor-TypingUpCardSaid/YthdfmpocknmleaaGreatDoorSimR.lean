/- The logic's eighteenth part: package variables that are only read, functions in structs and in maps. No condition. -/
import Derived.Test.YthdfmpocknmleaaGreatDoorSimQ
namespace Go.Sim

theorem one_tvs {x : Value} : One (tvs x) := fun F w v hv => by obtain ⟨h1, h2⟩ := hv; rw [h1]; exact h2
/-- A function value that may be nil. -/
def tfo {β : Type} (T : β → Ty) (p : Option β) : Ty := match p with | none => tv .nilFunc | some f => T f
theorem one_tfo {β : Type} {T : β → Ty} {p : Option β} (h : ∀ f, One (T f)) : One (tfo T p) := by
  cases p with
  | none => exact one_tv rfl
  | some f => exact h f
def callO {A B : Type} (p : Option (A → Option B)) (u : A) : Option B := p.bind fun f => f u
theorem ret_stN {P : Program} {M : Fr} {M0 : Blk} {w0 : World} {n : Nat} {Γ : List (Nat × Ty)} {As : List Atom} {a : Act} {w : World} {fn : Func} {rs : List ResultVar} {Ts : List Ty} {E : List Atom} {N : Value → List Atom} {T : Value → Ty} (x : Value) (is : List Nat) (hpl : Placed M0 E M) (hst : St M w0 n Γ As a w) (hrs : fn.results = rs.toArray) (h : ResOk P Γ As rs Ts) (hd : distinct is = true)
    (hN : is.filterMap (fun i => As[i]?) = N x) (hT : T x = resTy Ts) : Ret P fn M0 E w0 N T .normal a w := ret_st x is hpl hst hrs h hd hN hT

/-- Cells that are given by their values. -/
theorem cells_vals {F : Blk} {w : World} : ∀ {Ts : List Ty} {us : List Value} (_ : Cells Ts F w us) (vs : List Value), Ts = vs.map tv → (tv (.agg vs.toArray)).ok F w (.agg us.toArray)
  | Ts, us, hc, vs, h => by
    subst h
    have : us = vs := by
      refine List.ext_getElem? fun j => ?_
      have hl : us.length = vs.length := by simpa using hc.1
      rcases Nat.lt_or_ge j vs.length with hj | hj
      · have := hc.2 j (tv vs[j]) us[j] (by simp [hj]) (List.getElem?_eq_getElem (by omega))
        rw [List.getElem?_eq_getElem (by omega), List.getElem?_eq_getElem hj]
        exact congrArg some this
      · rw [List.getElem?_eq_none (by omega), List.getElem?_eq_none hj]
    subst this
    rfl

/-! Package variables -/

/-- The variables' blocks hold these cells, and nobody writes there. -/
def gloA (l : List (Nat × List Ty)) : Atom :=
  ⟨fun _ => False, fun F w => ∀ p ∈ l, F p.1 ∧ ∃ cur e fz, w.heap[p.1]? = some (.cells cur e fz) ∧ Cells p.2 F w cur.toList,
    fun hF hh _ h p hp => ⟨hF _ (h p hp).1, let ⟨cur, e, fz, h1, h2⟩ := (h p hp).2; ⟨cur, e, fz, by rw [hh _ (h p hp).1]; exact h1, h2.keep hF hh⟩⟩⟩
def GloIs (G : Atom) (g : Nat) (Ts : List Ty) : Prop := ∀ F w, G.ok F w → F g ∧ ∃ cur e fz, w.heap[g]? = some (.cells cur e fz) ∧ Cells Ts F w cur.toList
def GloHas (G : Atom) (g : Nat) (Ts : List Ty) : Prop := ∀ F w, G.ok F w → F g ∧ Row Ts F w g 0
theorem gloA_is {l : List (Nat × List Ty)} {g : Nat} {Ts : List Ty} (h : (g, Ts) ∈ l) : GloIs (gloA l) g Ts := fun _ _ hg => hg (g, Ts) h
theorem GloIs.has {G : Atom} {g : Nat} {Ts : List Ty} (h : GloIs G g Ts) : GloHas G g Ts := fun F w hg => by
  obtain ⟨h1, cur, e, fz, h2, h3⟩ := h F w hg
  refine ⟨h1, fun j T hj => ?_⟩
  have hlt : j < cur.toList.length := by rw [h3.1]; exact (List.getElem?_eq_some_iff.1 hj).1
  refine ⟨cur.toList[j], ?_, h3.2 j T _ hj (List.getElem?_eq_getElem hlt)⟩
  have : j < cur.size := by simpa using hlt
  simp [World.cell?, h2, this]
/-! A look into a map with integer keys -/

def findE : List (Value × Value) → Int → Option Value
  | [], _ => none
  | (.int .i64 k, v) :: es, i => if i = k then some v else findE es i
  | _ :: es, i => findE es i
def intKeys (es : List (Value × Value)) : Bool := es.all fun p => match p.1 with | .int .i64 _ => true | _ => false
/-- A map value in which one finds what one finds in these entries. -/
def tmapC (es : List (Value × Value)) : Ty :=
  ⟨fun F w v => ∃ r ms c, v = .map (some r) ∧ F r ∧ w.heap[r]? = some (.map ms c) ∧ intKeys (ms.toList.map fun e => (e.key, e.val)) = true ∧ ∀ i, findE (ms.toList.map fun e => (e.key, e.val)) i = findE es i,
    fun hF hh ⟨r, ms, c, h1, h2, h3, h4⟩ => ⟨r, ms, c, h1, hF r h2, by rw [hh r h2]; exact h3, h4⟩⟩
theorem one_map {es : List (Value × Value)} : One (tmapC es) := fun _ _ _ ⟨_, _, _, h, _⟩ => by rw [h]; rfl
@[reducible] def rMapC (es : List (Value × Value)) : Rep Unit := ⟨fun _ => [tmapC es], 1, false, fun _ => rfl, fun _ => one_cons one_map one_nil, fun _ => rfl⟩

section
variable {Γ : List (Nat × Ty)} {P : Program} {d : Option Tmp} {ty : TypeId} {pos : String} {af : Array Edge} {g : Option (Nat × Bool)} {x y : Operand} {T : Ty} {t e : TypeId} {α : Type} {R : Rep α} {bytes : Nat} {z : Value} {G : Atom}

/-- A load of a package variable. -/
theorem op_loadG {k : Nat} {u : α} {Ts : List Ty} (hG : GloHas G k Ts) (hz : TOk P t R bytes z) (h : R.cs u = Ts.take (R.cs u).length) : OpJ P ⟨d, .load t (.global k), ty, pos, af, g⟩ Γ [G] [] (fun _ => []) (fun _ => R.ty u) :=
  opj_use fun M w a hU he => by
    obtain ⟨_, hr⟩ := hG _ _ (hU _ (List.mem_singleton.2 rfl))
    obtain ⟨v, hrun, hty⟩ := run_loadAt hz (hr.head h)
    refine ⟨v, ?_, hty⟩
    have e : a.eval (.global k) = .pointer (some ⟨k, 0, none⟩) := rfl
    simp only [execOp, e, Sem.run_bind, hrun, Result.andThen_ok, Sem.run_pure]
/-- An element of a package variable that is an array. -/
theorem op_idxAG {k n : Nat} {kk : IntKind} {i : Int} {xs : List α} {u : α} {Ts : List Ty} (ht : P.underlying t = some (.array n e)) (hz : TOk P e R bytes z) (hG : GloHas G k Ts) (hT : Ts = xs.flatMap R.cs) (hi : Fct Γ y (tv (.int kk i))) (hn : xs.length = n) (h : idx xs i = some u) :
    OpJ P ⟨d, .indexAddr t (.global k) y, ty, pos, af, g⟩ Γ [G] [] (fun _ => []) (fun _ => tptr (R.cs u)) :=
  opj_use fun M w a hU he => by
    obtain ⟨hF, hr⟩ := hG _ _ (hU _ (List.mem_singleton.2 rfl))
    subst hT
    have h2 := hi.val (by simp [Op.operands]) he
    have e : a.eval (.global k) = .pointer (some ⟨k, 0, none⟩) := rfl
    unfold idx at h
    split at h
    · rename_i h0
      have hlt : i.toNat < xs.length := (List.getElem?_eq_some_iff.1 h).1
      refine ⟨_, ?_, k, 0 + i.toNat * R.n, rfl, hF, hr.elem h⟩
      simp only [execOp, e, h2, Sem.run_bind, run_indexArr ht hz w h0 (show i < (n : Int) by omega), Result.andThen_ok, Sem.run_pure]
    · cases h

theorem op_callO {E : List Atom} {A B : Type} {Ts : A → List Ty} {Tr : B → Ty} {β : Type} {q : β → A → Option B} {p : Option β} {f : Operand} {xs : List Operand} {u : A} {b : B} {ts : Array TypeId} (hf : Fct Γ f (tfo (fun r => tfn P E Ts Tr (q r)) p)) (ha : Args Γ [] xs (Ts u)) (h : (p.bind fun r => q r u) = some b) :
    OpJ P ⟨d, .call { callee := .value f, args := xs.toArray, argTypes := ts }, ty, pos, af, g⟩ Γ [] E (fun _ => []) (fun _ => Tr b) := by
  cases p with
  | none => cases h
  | some r => exact op_callT (p := q r) hf ha h

theorem findNow_int (i : Int) : ∀ (ms : List MapEntry) (n : Nat), intKeys (ms.map fun e => (e.key, e.val)) = true →
    (Instr.findNow (.int .i64) (.int .i64 i) ms n).map (Option.map (·.2)) = some (findE (ms.map fun e => (e.key, e.val)) i)
  | [], n, _ => rfl
  | m :: ms, n, h => by
    simp only [List.map_cons, intKeys, List.all_cons, Bool.and_eq_true] at h
    obtain ⟨h1, h2⟩ := h
    have ih := findNow_int i ms (n + 1) h2
    cases hk : m.key with
    | int k j =>
      rw [hk] at h1
      cases k <;> simp at h1
      simp only [Instr.findNow, hk, Instr.sameNow, if_true, List.map_cons, findE]
      by_cases hij : i = j
      · subst hij; simp
      · have : (i == j) = false := by simpa using hij
        simp only [this, if_neg hij]
        exact ih
    | _ => rw [hk] at h1; simp at h1
theorem op_lookC {es : List (Value × Value)} {i : Int} {kt et : TypeId} {V : Option Value → Ty} (ht : P.underlying t = some (.map kt et)) (hk : P.underlying kt = some (.int .i64)) (hz : (P.info? et).bind (·.zero) = some z)
    (hx : Fct Γ x (tmapC es)) (hi : Fct Γ y (tv (.int .i64 i))) (hV : ∀ F w, (V (findE es i)).ok F w ((findE es i).getD z)) : OpJ P ⟨d, .lookup t x y true, ty, pos, af, g⟩ Γ [] [] (fun _ => []) (fun _ => ttup [V (findE es i), tv (.bool (findE es i).isSome)]) :=
  opj_pure fun F w A he => by
    obtain ⟨r, ms, c, hv, _, hh, hks, hms⟩ := hx.use (by simp [Op.operands]) he
    have h2 := hi.val (by simp [Op.operands]) he
    obtain ⟨ti, hti, hzz⟩ : ∃ ti, P.info? et = some ti ∧ ti.zero = some z := by
      cases h : P.info? et with
      | none => simp [h] at hz
      | some ti => exact ⟨ti, rfl, by simpa [h] using hz⟩
    have hzv : (zeroValue et).run P w = .ok z w := by simp [zeroValue, typeInfo, hti, hzz]
    have hf := findNow_int i ms.toList 0 hks
    rw [hms] at hf
    have hck : ∀ b n, (Instr.checkKey b (n + 1) kt (.int .i64 i)).run P w = .ok () w := fun b n => by simp [Instr.checkKey, run_underlying hk]
    have hobj : (getObj r).run P w = .ok (.map ms c) w := by simp [getObj, Sem.run, hh]
    cases hn : Instr.findNow (.int .i64) (.int .i64 i) ms.toList 0 with
    | none => rw [hn] at hf; cases hf
    | some o =>
      rw [hn] at hf
      simp only [Option.map_some, Option.some.injEq] at hf
      refine ⟨.tuple #[(findE es i).getD z, .bool (findE es i).isSome], ?_, [(findE es i).getD z, .bool (findE es i).isSome], rfl, .cons (hV F w) (.cons rfl .nil)⟩
      rw [← hf]
      cases o with
      | none => simp only [execOp, hv, h2, Instr.lookup, Sem.run_bind, run_underlying ht, Result.andThen_ok, hobj, Sem.run_pure, hck _ 9999, Instr.findKey, run_underlying hk, hn, hzv, Option.map_none, Option.getD_none, Option.isSome_none, if_true]
      | some q => simp only [execOp, hv, h2, Instr.lookup, Sem.run_bind, run_underlying ht, Result.andThen_ok, hobj, Sem.run_pure, hck _ 9999, Instr.findKey, run_underlying hk, hn, Option.map_some, Option.getD_some, Option.isSome_some, if_true]
end

end Go.Sim

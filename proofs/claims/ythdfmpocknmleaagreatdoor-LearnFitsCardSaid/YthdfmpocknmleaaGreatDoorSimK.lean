/- The logic's eleventh part: slices of slices that the call owns: a slice of headers, and the rows. No condition. -/
import Derived.Test.YthdfmpocknmleaaGreatDoorSimF
import Derived.Lib.ConvBytes
import Derived.Lib.AppendStr
import Derived.Lib.UnsafeStr
import Derived.Lib.Builder
import Derived.Laws.Externs
namespace Go.Sim

/-- A value as it is. -/
def tvs (x : Value) : Ty := ⟨fun _ _ v => v = x ∧ x.oneCell' = true,fun _ _ h => h⟩
@[reducible] def rVal : Rep Value := ⟨fun x => [tvs x],1,false,fun _ => rfl,fun x T h F w v hv => by simp at h; subst h; obtain ⟨h1,h2⟩ := hv; rw [h1]; exact h2,fun _ => rfl⟩
def nilV : Value := .slice none 0 0
def usAt (us : List Value) (i : Int) : Value := us.getD i.toNat undef

/-- Rows that the call owns: their headers are us. -/
def rows {α : Type} (R : Rep α) (e : TypeId) (xss : List (List α)) (us : List Value) : Atom :=
  ⟨fun k => ∃ u ∈ us,u.ownBlock = some k,
    fun F w => us.length = xss.length ∧ (∀ (i : Nat) xs u,xss[i]? = some xs → us[i]? = some u → (own R e xs u).ok F w) ∧ us.Pairwise (fun (u v : Value) => ∀ k : Nat,u.ownBlock = some k → ¬ v.ownBlock = some k),
    fun hF hh hf ⟨h1,h2,h3⟩ => ⟨h1,fun i xs u hx hu => Atom.keep _ hF hh (fun k hk => hf k ⟨u,List.mem_of_getElem? hu,hk⟩) (h2 i xs u hx hu),h3⟩⟩

/-! A part of an atom -/

/-- A is a part of B; with A' in its place B becomes B'. -/
structure Focus (A A' B B' : Atom) : Prop where
  ok : ∀ F w,B.ok F w → A.ok F w
  sub : ∀ k,A.fp k → B.fp k
  fpA : ∀ k,A'.fp k ↔ A.fp k
  fpB : ∀ k,B'.fp k ↔ B.fp k
  back : ∀ {F F' : Blk} {w w' : World},B.ok F w → (∀ k,F k → F' k) → (∀ k,F k → w'.heap[k]? = w.heap[k]?) → (∀ k,B.fp k → ¬ A.fp k → w'.heap[k]? = w.heap[k]?) → A'.ok F' w' → B'.ok F' w'

section
variable {P : Program} {o : Oper} {Γ : List (Nat × Ty)} {U : List Atom} {T : Value → Ty}

/-- What is more may be used. -/
theorem OpJ.useMore {U' : List Atom} {E : List Atom} {N : Value → List Atom} (hs : ∀ A ∈ U,A ∈ U') (h : OpJ P o Γ U E N T) : OpJ P o Γ U' E N T :=
  fun M w a hM hU hE hap hUE he => h M w a hM (fun A hA => hU A (hs A hA)) hE hap (fun A hA => hUE A (hs A hA)) he
/-- A fact that hangs on what is used: the judgement may suppose what the used atoms say. -/
theorem OpJ.say {Q : Prop} {A : Atom} {E : List Atom} {N : Value → List Atom} (hA : A ∈ U) (hq : ∀ F w,A.ok F w → Q) (h : Q → OpJ P o Γ U E N T) : OpJ P o Γ U E N T :=
  fun M w a hM hU hE hap hUE he => h (hq _ _ (hU A hA).1) M w a hM hU hE hap hUE he
end

section
variable {α : Type} {R : Rep α} {e : TypeId} {xss : List (List α)} {us : List Value}

theorem idx_lt' {β : Type} {xs : List β} {i : Int} {x : β} (h : idx xs i = some x) : 0 ≤ i ∧ i.toNat < xs.length ∧ xs[i.toNat]? = some x := by
  unfold idx at h
  split at h
  · exact ⟨by assumption,(List.getElem?_eq_some_iff.1 h).1,h⟩
  · cases h
theorem usAt_get {i : Int} {n : Nat} (hl : us.length = n) (hi : i.toNat < n) : us[i.toNat]? = some (usAt us i) := by
  unfold usAt
  rw [List.getD_eq_getElem?_getD,List.getElem?_eq_getElem (by omega)]; rfl
theorem rows_part {i : Int} {xs : List α} (h : idx xss i = some xs) : ∀ F w,(rows R e xss us).ok F w → (own R e xs (usAt us i)).ok F w := by
  intro F w ⟨h1,h2,_⟩
  obtain ⟨_,h4,h5⟩ := idx_lt' h
  exact h2 _ _ _ h5 (usAt_get h1 h4)
theorem rows_sub {i : Int} {xs : List α} : ∀ k,(own R e xs (usAt us i)).fp k → (rows R e xss us).fp k := by
  intro k hk
  have hk' : (usAt us i).ownBlock = some k := hk
  refine ⟨usAt us i,?_,hk'⟩
  unfold usAt at hk' ⊢
  rw [List.getD_eq_getElem?_getD] at hk' ⊢
  cases hu : us[i.toNat]? with
  | none => rw [hu] at hk'; simp [undef,Value.ownBlock] at hk'
  | some u => exact List.mem_of_getElem? hu
end

/-! Operations on tables -/

section
variable {Γ : List (Nat × Ty)} {P : Program} {d : Option Tmp} {ty : TypeId} {pos : String} {af : Array Edge} {g : Option (Nat × Bool)} {x y : Operand} {T : Ty} {t e e1 e2 : TypeId} {α : Type} {R : Rep α} {bytes : Nat} {z : Value} {xss : List (List α)} {us : List Value} {v : Value}

theorem op_weak {U E : List Atom} {N : Value → List Atom} {o : Oper} {T T' : Value → Ty} (h : OpJ P o Γ U E N T) (hw : ∀ x F w v,(T x).ok F w v → (T' x).ok F w v) : OpJ P o Γ U E N T' :=
  fun M w a hM hU hE hap hUE he => (h M w a hM hU hE hap hUE he).mono fun _ _ ⟨x,h1,h2,h3⟩ => ⟨x,h1,h2,hw x _ _ _ h3⟩

/-! Rows of a table -/
end

/-! The state's rules on tables -/

section
variable {M : Fr} {w0 : World} {n : Nat} {Γ : List (Nat × Ty)} {As : List Atom} {a : Act} {w : World} {α : Type}

theorem own_one {R : Rep α} {e : TypeId} {xs : List α} {v : Value} {F : Blk} {w : World} (h : (own R e xs v).ok F w) : v.oneCell' = true := by
  rcases own_cells h with ⟨hv,_⟩ | ⟨b,cap,cur,hv,_⟩ <;> rw [hv] <;> rfl
/-- Two atoms become one, of no more blocks. -/
theorem St.merge {A B C : Atom} (h : St M w0 n Γ (A :: B :: As) a w) (hfp : ∀ k,C.fp k → A.fp k ∨ B.fp k) (hok : ∀ F w,A.ok F w → B.ok F w → (∀ k,A.fp k → ¬ B.fp k) → C.ok F w) : St M w0 n Γ (C :: As) a w := by
  have hap := h.apart
  unfold Apart at hap
  rw [List.pairwise_cons,List.pairwise_cons] at hap
  obtain ⟨h1,h2,h3⟩ := hap
  have hf : ∀ k,fps (C :: As) k → fps (A :: B :: As) k := by
    rintro k ⟨D,hD,hk⟩
    rcases List.mem_cons.1 hD with rfl | hD
    · rcases hfp k hk with h | h
      · exact ⟨A,by simp,h⟩
      · exact ⟨B,by simp,h⟩
    · exact ⟨D,by simp [hD],hk⟩
  refine ⟨h.size,h.defers,h.grow,h.m0,?_,?_,?_,fun p hp => p.2.keep (hold_free hf) (fun _ _ => rfl) (h.slots p hp)⟩
  · intro D hD
    rcases List.mem_cons.1 hD with rfl | hD
    · exact hok _ _ (A.keep (hold_free hf) (fun _ _ => rfl) (fun _ _ => rfl) (h.own A (by simp))) (B.keep (hold_free hf) (fun _ _ => rfl) (fun _ _ => rfl) (h.own B (by simp))) (h1 B (by simp))
    · exact D.keep (hold_free hf) (fun _ _ => rfl) (fun _ _ => rfl) (h.own D (by simp [hD]))
  · intro D hD k hk
    rcases List.mem_cons.1 hD with rfl | hD
    · rcases hfp k hk with hh | hh
      · exact h.fresh A (by simp) k hh
      · exact h.fresh B (by simp) k hh
    · exact h.fresh D (by simp [hD]) k hk
  · refine List.pairwise_cons.2 ⟨fun D hD k hk hkD => ?_,h3⟩
    rcases hfp k hk with hh | hh
    · exact h1 D (by simp [hD]) k hh hkD
    · exact h2 D hD k hh hkD

theorem rows_put {R : Rep α} {e : TypeId} {xs : List α} {u : Value} {xss yss : List (List α)} {us : List Value} {i : Int} {F : Blk} {w : World} (hs : setAt xss i xs = some yss) (hA : (own R e xs u).ok F w) (hB : (rows R e xss us).ok F w)
    (hd : ∀ k,(own R e xs u).fp k → ¬ (rows R e xss us).fp k) : (rows R e yss (us.set i.toNat u)).ok F w := by
  obtain ⟨h1,h2,h3⟩ := hB
  unfold setAt at hs
  split at hs
  · rename_i hc
    obtain rfl := Option.some.inj hs
    have hi : i.toNat < xss.length := by omega
    refine ⟨by simpa using h1,fun j zs u' hj hu' => ?_,?_⟩
    · rw [List.getElem?_set] at hj hu'
      by_cases hji : i.toNat = j
      · rw [if_pos hji,if_pos (by omega)] at hj hu'
        obtain rfl := Option.some.inj hj
        obtain rfl := Option.some.inj hu'
        exact hA
      · rw [if_neg hji] at hj hu'
        exact h2 j zs u' hj hu'
    · rw [List.pairwise_iff_getElem] at h3 ⊢
      intro p q hp hq hpq k hk hk2
      rw [List.getElem_set] at hk hk2
      simp only [List.length_set] at hp hq
      by_cases hip : i.toNat = p
      · rw [if_pos hip] at hk
        rw [if_neg (by omega)] at hk2
        exact hd k hk ⟨_,List.getElem_mem hq,hk2⟩
      · rw [if_neg hip] at hk
        by_cases hiq : i.toNat = q
        · rw [if_pos hiq] at hk2
          exact hd k hk2 ⟨_,List.getElem_mem hp,hk⟩
        · rw [if_neg hiq] at hk2
          exact h3 p q hp hq hpq k hk hk2
  · cases hs
theorem mem_set_or {l : List Value} {i : Nat} {u v : Value} (h : v ∈ l.set i u) : v = u ∨ v ∈ l := by
  rcases List.mem_or_eq_of_mem_set h with h | h
  · exact .inr h
  · exact .inl h
/-- A row is put into a table. -/
theorem St.put {R : Rep α} {e : TypeId} {xs : List α} {u : Value} {xss yss : List (List α)} {us : List Value} (i : Int) (hs : setAt xss i xs = some yss) (h : St M w0 n Γ (Sim.own R e xs u :: rows R e xss us :: As) a w) : St M w0 n Γ (rows R e yss (us.set i.toNat u) :: As) a w :=
  h.merge (fun k ⟨v,hv,hk⟩ => by
    rcases mem_set_or hv with rfl | hv
    · exact .inl hk
    · exact .inr ⟨v,hv,hk⟩) (fun _ _ hA hB hd => rows_put hs hA hB hd)
/-- A table that the call owned is only read from now on. -/
theorem tsl_of_table {R : Rep α} {e1 e2 : TypeId} {xss : List (List α)} {us : List Value} {v : Value} {F F' : Blk} {w : World} (hF : ∀ k,F k → F' k) (h1 : (own rVal e1 us v).ok F w) (h2 : (rows R e2 xss us).ok F w) (f1 : ∀ k,(own rVal e1 us v).fp k → F' k)
    (f2 : ∀ k,(rows R e2 xss us).fp k → F' k) : (tsl (rSl R) xss).ok F' w v := by
  obtain ⟨hl,hr,_⟩ := h2
  rcases own_cells h1 with ⟨hv,hx⟩ | ⟨b,cap,cur,hv,hb,c1,c2,c3,c4⟩
  · have : xss = [] := List.eq_nil_of_length_eq_zero (by rw [← hl,hx]; rfl)
    subst this
    exact ⟨none,0,hv,Nat.le_refl _,fun h => (h rfl).elim⟩
  · refine ⟨_,cap,by rw [hv,hl],by omega,fun _ => ⟨b,0,rfl,f1 b (by rw [hv]; exact own_fp.2 rfl),fun j T hT => ?_⟩⟩
    have hj : j < xss.length := by
      have := (List.getElem?_eq_some_iff.1 hT).1
      rw [flatMap_len] at this
      simpa using this
    have hT2 : T = tsl R xss[j] := by
      have := flatMap_get (rSl R) xss j 0 xss[j] (List.getElem?_eq_getElem hj) Nat.one_pos
      simp only [Nat.mul_one,Nat.add_zero] at this
      rw [this] at hT
      simpa using hT.symm
    subst hT2
    have hju : j < us.length := by omega
    have hju2 : j < (cur.toList.take (us.length * 1)).length := by
      rw [c4.1,flatMap_len]; simpa using hju
    have hT3 : (us.flatMap rVal.cs)[j]? = some (tvs us[j]) := by
      have := flatMap_get rVal us j 0 us[j] (List.getElem?_eq_getElem hju) Nat.one_pos
      simp only [Nat.mul_one,Nat.add_zero] at this
      rw [this]; rfl
    have hcell := c4.2 j _ _ hT3 (List.getElem?_eq_getElem hju2)
    obtain ⟨hval,_⟩ := hcell
    have hcj : j < cur.size := by simp at hju2; omega
    refine ⟨us[j],?_,?_⟩
    · rw [← hval]
      simp [World.cell?,hb,hcj]
    · have hown := hr j xss[j] us[j] (List.getElem?_eq_getElem hj) (List.getElem?_eq_getElem hju)
      exact ArgOk.own (x := .const us[j]) (Γ := []) (U := [Sim.own R e2 xss[j] us[j]]) (R := R) (e := e2) (xs := xss[j]) (v := us[j]) .k (by simp) F F' w ⟨#[],[]⟩ hF (fun A hA => by
        simp at hA; subst hA
        exact ⟨hown,fun k hk => f2 k ⟨us[j],List.getElem_mem hju,hk⟩⟩) (fun p hp => by simp at hp)
theorem ArgOk.table {U : List Atom} {x : Operand} {R : Rep α} {e1 e2 : TypeId} {xss : List (List α)} {us : List Value} {v : Value} (h : Fct Γ x (tv v)) (h1 : Sim.own rVal e1 us v ∈ U) (h2 : rows R e2 xss us ∈ U) : ArgOk Γ U x (tsl (rSl R) xss) := by
  intro F F' w a hF hA h0
  have hv : a.eval x = v := h F w a h0
  rw [hv]
  exact tsl_of_table hF (hA _ h1).1 (hA _ h2).1 (hA _ h1).2 (hA _ h2).2
theorem ArgOk.row {U : List Atom} {x : Operand} {R : Rep α} {e2 : TypeId} {xss : List (List α)} {xs : List α} {us : List Value} {i : Int} (h : Fct Γ x (tv (usAt us i))) (hi : idx xss i = some xs) (hU : rows R e2 xss us ∈ U) : ArgOk Γ U x (tsl R xs) := by
  intro F F' w a hF hA h0
  have hv : a.eval x = usAt us i := h F w a h0
  obtain ⟨hok,hfp⟩ := hA _ hU
  have := ArgOk.own (x := .const (usAt us i)) (Γ := []) (U := [Sim.own R e2 xs (usAt us i)]) (R := R) (e := e2) (xs := xs) (v := usAt us i) .k (by simp) F F' w ⟨#[],[]⟩ hF (fun A hA' => by
    simp at hA'; subst hA'
    exact ⟨rows_part hi _ _ hok,fun k hk => hfp k (rows_sub (xss := xss) k hk)⟩) (fun p hp => by simp at hp)
  rw [hv]; exact this
end

end Go.Sim

namespace Go.Sim

@[reducible] def ti (x : Int) : Ty := tv (.int .i64 x)
@[reducible] def tb (x : Bool) : Ty := tv (.bool x)

section
variable {M : Fr} {w0 : World} {n : Nat} {Γ : List (Nat × Ty)} {As : List Atom} {a : Act} {w : World} {α : Type}

def selA (As : List Atom) (is : List Nat) : List Atom := is.filterMap fun i => As[i]?
theorem apart_sel {As : List Atom} (hap : Apart As) {is : List Nat} (hd : distinct is = true) : Apart (selA As is) := by
  unfold Apart selA at *
  rw [List.pairwise_filterMap]
  refine (show is.Pairwise (· ≠ ·) from distinct_ok hd).imp ?_
  intro i j hij A hA B hB k hk hkB
  rw [List.pairwise_iff_getElem] at hap
  obtain ⟨hi,rfl⟩ := List.getElem?_eq_some_iff.1 hA
  obtain ⟨hj,rfl⟩ := List.getElem?_eq_some_iff.1 hB
  rcases Nat.lt_trichotomy i j with h | h | h
  · exact hap i j hi hj h k hk hkB
  · exact hij h
  · exact hap j i hj hi h k hkB hk
/-- Some atoms, in some order. -/
theorem St.selA (h : St M w0 n Γ As a w) (is : List Nat) (hd : distinct is = true) : St M w0 n Γ (selA As is) a w := by
  have hmem : ∀ A,A ∈ Sim.selA As is → A ∈ As := by
    intro A hA
    obtain ⟨i,_,hi⟩ := List.mem_filterMap.1 hA
    exact List.mem_of_getElem? hi
  have hf : ∀ k,fps (Sim.selA As is) k → fps As k := fun k ⟨A,hA,hk⟩ => ⟨A,hmem A hA,hk⟩
  exact ⟨h.size,h.defers,h.grow,h.m0,fun A hA => A.keep (hold_free hf) (fun _ _ => rfl) (fun _ _ => rfl) (h.own A (hmem A hA)),fun A hA => h.fresh A (hmem A hA),apart_sel h.apart hd,
    fun p hp => p.2.keep (hold_free hf) (fun _ _ => rfl) (h.slots p hp)⟩

theorem St.shareO {R : Rep α} {e : TypeId} {xs : List α} {v : Value} {s : Nat} (i : Nat) (h : St M w0 n Γ (Sim.own R e xs v :: As) a w) (hi : Γ[i]? = some (s,tv v)) : St M w0 n ((s,tsl R xs) :: Γ) As a w := h.share i hi
end

section
variable {Γ : List (Nat × Ty)} {P : Program} {d : Option Tmp} {ty : TypeId} {pos : String} {af : Array Edge} {g : Option (Nat × Bool)} {x y : Operand} {T : Ty} {t e e1 e2 : TypeId} {α : Type} {R : Rep α} {bytes : Nat} {z : Value} {xss : List (List α)} {us : List Value} {v : Value}

theorem zokV : ∀ F w,(rVal.ty nilV).ok F w (.slice none 0 0) := fun _ _ => ⟨rfl,rfl⟩
/-! Variables that hold slices of the call's own -/

theorem op_allocV (hz : TOk P t rVal bytes (.slice none 0 0)) : OpJ P ⟨d,.alloc t,ty,pos,af,g⟩ Γ [] [] (fun p => [box (rVal.cs nilV) p]) (fun p => tv p) := op_alloc (R := rVal) (a := nilV) hz zokV
theorem op_loadBV {q u : Value} (hz : TOk P t rVal bytes z) (hp : Fct Γ x (tv q)) : OpJ P ⟨d,.load t x,ty,pos,af,g⟩ Γ [box (rVal.cs u) q] [] (fun _ => []) (fun _ => tv u) :=
  op_weak (op_loadB (R := rVal) (u := u) hz hp rfl) (fun _ _ _ _ h => h.1)
/-! Closures -/

/-- What was captured as T is seen by the callee as T', where the caller lends U. -/
def LendT (U : List Atom) (T T' : Ty) : Prop := ∀ (F F' : Blk) (w : World) (v : Value),(∀ k,F k → F' k) → (∀ A ∈ U,A.ok F w ∧ ∀ k,A.fp k → F' k) → T.ok F w v → T'.ok F' w v
inductive Lends (U : List Atom) : List Ty → List Ty → Prop where
  | nil : Lends U [] []
  | cons {T T' : Ty} {Tc Tc' : List Ty} (h : LendT U T T') (hs : Lends U Tc Tc') : Lends U (T :: Tc) (T' :: Tc')
theorem Lends.cells {U : List Atom} {Tc Tc' : List Ty} (h : Lends U Tc Tc') {F F' : Blk} {w : World} {vs : List Value} (hF : ∀ k,F k → F' k) (hA : ∀ A ∈ U,A.ok F w ∧ ∀ k,A.fp k → F' k) (hc : Cells Tc F w vs) : Cells Tc' F' w vs := by
  induction h generalizing vs with
  | nil => exact (by have := hc.inv0; subst this; exact .nil)
  | cons h hs ih =>
    obtain ⟨u,us,rfl,h1,h2⟩ := hc.inv
    exact .cons (h F F' w u hF hA h1) (ih h2)

/-- A call of a closure. -/
theorem op_callC {f : Operand} {fid : FuncId} {Tc Ts : List Ty} {xs : List Operand} {ts : Array TypeId} {E : List Atom} {N : Value → List Atom} {T : Value → Ty} (hc : Callable P fid) (hfn : FnOk P fid (Ts ++ Tc) E N T)
    (hf : Fct Γ f (tcloE fid Tc)) (ha : Args Γ [] xs Ts) : OpJ P ⟨d,.call { callee := .value f,args := xs.toArray,argTypes := ts },ty,pos,af,g⟩ Γ [] E N T := by
  intro M w a hM _ hE hap _ he
  obtain ⟨caps,hfv,hcap⟩ := hf.use (by simp [Op.operands,Call.operands]) he
  have hargs := ha.cells (F := free M w) (F' := free M w) (a := a) (fun _ h => h) (fun A hA => by simp at hA) (fun p hp hx => he p hp (by simp [Op.operands,Call.operands,hx]))
  have hcells := hargs.append hcap
  simp only [Does,run_call hc hfv]
  refine Calls.mono (hfn M w _ hM hE hap hcells) ?_
  rintro e w' ⟨x,v,he,h⟩
  exact ⟨v,he,x,h⟩
/-! Copies -/

theorem own_cellsL {xs : List α} {v : Value} {F : Blk} {w : World} (h : (own R e xs v).ok F w) : ∃ us,Cells (xs.flatMap R.cs) F w us ∧ ((v = .slice none 0 0 ∧ xs = []) ∨ ∃ b cap,v = .slice (some ⟨b,0,none⟩) xs.length cap ∧ ∀ j u,us[j]? = some u → w.cell? ⟨b,j,none⟩ = some u) := by
  rcases own_cells h with ⟨hv,hx⟩ | ⟨b,cap,cur,hv,hb,h1,h2,h3,h4⟩
  · subst hx; exact ⟨[],.nil,.inl ⟨hv,rfl⟩⟩
  · refine ⟨_,h4,.inr ⟨b,cap,hv,fun j u hu => ?_⟩⟩
    rw [List.getElem?_take] at hu
    split at hu
    · simp only [World.cell?,hb]; simpa using hu
    · cases hu

end

end Go.Sim

namespace Go.Sim

section
variable {Γ : List (Nat × Ty)} {P : Program} {d : Option Tmp} {ty : TypeId} {pos : String} {af : Array Edge} {g : Option (Nat × Bool)} {x y : Operand} {T : Ty} {t t2 e : TypeId} {α : Type} {R : Rep α} {bytes : Nat} {z : Value} {v : Value} {k k2 : IntKind} {a b : Int}

end

/-! Results that are tables -/

/-! Tests of constants -/

end Go.Sim

namespace Go.Sim

theorem Fct.fnE {Γ : List (Nat × Ty)} {f : FuncId} : Fct Γ (.func f) (tcloE f []) := fun F w a h => ⟨[],Fct.fn F w a h⟩

section
variable {Γ : List (Nat × Ty)} {P : Program} {d : Option Tmp} {ty : TypeId} {pos : String} {af : Array Edge} {g : Option (Nat × Bool)} {x y : Operand} {T : Ty} {t e : TypeId} {α : Type} {R : Rep α} {bytes : Nat} {z : Value} {xs ys : List α}

end

end Go.Sim

namespace Go.Sim

abbrev Str := List UInt8
def sB (l : Str) : ByteArray := ⟨l.toArray⟩
theorem ba_size (b : ByteArray) : b.size = b.data.toList.length := rfl
theorem sB_size (l : Str) : (sB l).size = l.length := by simp [sB,ByteArray.size]
theorem ba_toListLoop (b : ByteArray) : ∀ (n i : Nat) (r : List UInt8),b.size - i = n → i ≤ b.size → ByteArray.toList.loop b i r = r.reverse ++ b.data.toList.drop i := by
  intro n
  induction n with
  | zero =>
    intro i r h hi
    unfold ByteArray.toList.loop
    have : ¬ i < b.size := by omega
    rw [if_neg this]
    have h2 : b.data.toList.length ≤ i := by rw [← ba_size]; omega
    rw [List.drop_eq_nil_of_le h2,List.append_nil]
  | succ n ih =>
    intro i r h hi
    unfold ByteArray.toList.loop
    have hlt : i < b.size := by omega
    have hlt' : i < b.data.toList.length := hlt
    rw [if_pos hlt,ih (i+1) _ (by omega) (by omega),List.drop_eq_getElem_cons hlt']
    have : b.get! i = b.data.toList[i] := by
      show b.data[i]! = _
      rw [getElem!_pos b.data i hlt]; rfl
    rw [this]; simp
theorem sB_toList (l : Str) : (sB l).toList = l := by
  unfold ByteArray.toList
  rw [ba_toListLoop (sB l) _ 0 [] rfl (Nat.zero_le _)]
  rfl
theorem sB_append (a b : Str) : sB a ++ sB b = sB (a ++ b) := by
  apply ByteArray.ext
  simp [sB]
theorem sB_extract (l : Str) (i j : Nat) : (sB l).extract i j = sB ((l.drop i).take (j - i)) := by
  apply ByteArray.ext
  simp [sB,List.extract_toArray]
theorem sB_get (l : Str) (i : Nat) : (sB l)[i]? = l[i]? := by
  by_cases h : i < l.length
  · have h' : i < (sB l).size := by rw [sB_size]; exact h
    rw [getElem?_pos (sB l) i h',getElem?_pos l i h]; rfl
  · have h' : ¬ i < (sB l).size := by rw [sB_size]; exact h
    rw [getElem?_neg (sB l) i h',getElem?_neg l i h]
@[reducible] def rS : Rep Str := ⟨fun x => [tv (.string (sB x))],1,false,fun _ => rfl,fun x T h F w v hv => by simp at h; subst h; have : v = _ := hv; subst this; rfl,fun _ => rfl⟩
def cat (n : Nat) : Option Unit := if n ≤ 9223372036854775807 then some () else none

section
variable {Γ : List (Nat × Ty)} {P : Program} {d : Option Tmp} {ty : TypeId} {pos : String} {af : Array Edge} {g : Option (Nat × Bool)} {x y : Operand} {T : Ty} {t t2 e : TypeId} {α : Type} {R : Rep α} {bytes : Nat} {z : Value} {a b : Str}

theorem op_eqlS (hx : Fct Γ x (tv (.string (sB a)))) (hy : Fct Γ y (tv (.string (sB b)))) : OpJ P ⟨d,.binOp .eql t x y t2,ty,pos,af,g⟩ Γ [] [] (fun _ => []) (fun _ => tv (.bool (a == b))) :=
  opj_bin hx hy fun w => by simp [eqGuard,binOp,Op.stringOp,sB_toList]
theorem op_neqS (hx : Fct Γ x (tv (.string (sB a)))) (hy : Fct Γ y (tv (.string (sB b)))) : OpJ P ⟨d,.binOp .neq t x y t2,ty,pos,af,g⟩ Γ [] [] (fun _ => []) (fun _ => tv (.bool (a != b))) :=
  opj_bin hx hy fun w => by simp [eqGuard,binOp,Op.stringOp,sB_toList,bne]
theorem op_addS (hx : Fct Γ x (tv (.string (sB a)))) (hy : Fct Γ y (tv (.string (sB b)))) (h : cat (a.length + b.length) = some ()) : OpJ P ⟨d,.binOp .add t x y t2,ty,pos,af,g⟩ Γ [] [] (fun _ => []) (fun _ => tv (.string (sB (a ++ b)))) :=
  opj_bin hx hy fun w => by
    have hl : ¬ (((sB a).size + (sB b).size : Nat) : Int) > IntKind.i64.max := by
      unfold cat at h
      split at h
      · rename_i h'; rw [sB_size,sB_size]; simp [IntKind.max,IntKind.bits,IntKind.signed]; omega
      · cases h
    simp only [eqGuard,binOp,Op.stringOp]
    rw [if_neg hl,sB_append]
    simp
theorem op_lenS' (ht : P.underlying t = some .string) (hx : Fct Γ x (tv (.string (sB a)))) : OpJ P ⟨d,.call { callee := .builtin .len,args := #[x],argTypes := #[t] },ty,pos,af,g⟩ Γ [] [] (fun _ => []) (fun _ => tv (.int .i64 (a.length : Int))) := by
  have := op_lenS (P := P) (Γ := Γ) (d := d) (ty := ty) (pos := pos) (af := af) (g := g) ht hx
  rwa [sB_size] at this
theorem op_idxS {i : Int} {k : IntKind} {u : UInt8} (ht : P.underlying t = some .string) (hx : Fct Γ x (tv (.string (sB a)))) (hi : Fct Γ y (tv (.int k i))) (h : idx a i = some u) :
    OpJ P ⟨d,.index t x y,ty,pos,af,g⟩ Γ [] [] (fun _ => []) (fun _ => tv (.int .u8 (u.toNat : Int))) :=
  opj_pure fun F w A he => by
    have h1 := hx.val (by simp [Op.operands]) he
    have h2 := hi.val (by simp [Op.operands]) he
    unfold idx at h
    split at h
    · rename_i h0
      refine ⟨_,?_,rfl⟩
      simp [execOp,h1,h2,Instr.index,asIntOf,run_underlying ht,h0,sB_get,h]
    · cases h
theorem op_subS {lo hi : Option Operand} {i j : Int} {r : Str} (ht : P.underlying t = some .string) (hx : Fct Γ x (tv (.string (sB a)))) (hlo : Bd Γ lo 0 i) (hhi : Bd Γ hi (a.length : Int) j) (h : sub a i j = some r) :
    OpJ P ⟨d,.slice t x lo hi none,ty,pos,af,g⟩ Γ [] [] (fun _ => []) (fun _ => tv (.string (sB r))) :=
  opj_pure fun F w A he => by
    have h1 := hx.val (by simp [Op.operands]) he
    have h2 := hlo.use (fun y hy => by simp [Op.operands,hy]) he
    have h3 := hhi.use (fun y hy => by simp [Op.operands,hy]) he
    unfold sub at h
    split at h
    · rename_i h0
      obtain ⟨c1,c2,c3⟩ := h0
      obtain rfl := Option.some.inj h
      refine ⟨_,?_,rfl⟩
      have hj : j ≤ ((sB a).size : Int) := by rw [sB_size]; exact c3
      have c2' : i ≤ (j.toNat : Int) := by omega
      have hj0 : 0 ≤ j := by omega
      have hm : max j 0 = j := by omega
      have c2n : ¬ j < i := by omega
      rcases h2 with ⟨h2,rfl⟩ | ⟨k2,h2⟩ <;> rcases h3 with ⟨h3,rfl⟩ | ⟨k3,h3⟩
      · simp [execOp,h1,h2,h3,Instr.sliceAt,Instr.slice,Instr.sliceBounds,run_underlying ht]
      · simp [execOp,h1,h2,h3,Instr.sliceAt,Instr.slice,Instr.sliceBounds,Instr.sliceBound,asIntOf,run_underlying ht,sB_extract,hj,hj0]
      · simp [execOp,h1,h2,h3,Instr.sliceAt,Instr.slice,Instr.sliceBounds,Instr.sliceBound,asIntOf,run_underlying ht,sB_extract,sB_size,c1,c2]
      · simp [execOp,h1,h2,h3,Instr.sliceAt,Instr.slice,Instr.sliceBounds,Instr.sliceBound,asIntOf,run_underlying ht,sB_extract,hj,hj0,c1,hm,c2]
    · cases h

/-! Pointers that are not nil -/

theorem op_nilB {Ts : List Ty} {q : Value} (hx : Fct Γ x (tv q)) : OpJ P ⟨d,.nilCheck x,ty,pos,af,g⟩ Γ [box Ts q] [] (fun _ => []) (fun _ => tv q) :=
  opj_use fun M w A hU he => by
    have h := hx.val (by simp [Op.operands]) he
    obtain ⟨b,cur,e,hq,_⟩ := hU _ (List.mem_singleton.2 rfl)
    subst hq
    exact ⟨_,by simp [execOp,h],rfl⟩

/-! Arrays behind a pointer -/

theorem run_indexArr {n : Nat} {k : IntKind} {i : Int} {b off : Nat} (ht : P.underlying t = some (.array n e)) (hz : TOk P e R bytes z) (w : World) (h0 : 0 ≤ i) (h1 : i < n) :
    (Instr.indexAt t (.pointer (some ⟨b,off,none⟩)) (.int k i)).run P w = .ok (.pointer (some ⟨b,off + i.toNat * R.n,none⟩)) w := by
  obtain ⟨ti,hti,_,hs,_⟩ := hz.info
  simp [Instr.indexAt,Instr.sureAddr,run_underlying ht,asIntOf,h0,h1,sizeOf,typeInfo,hti,hs,addr_add]
/-- An element of an array of which much is known. -/
theorem op_idxA {n : Nat} {k : IntKind} {i : Int} {Ts : List Ty} (j : Nat) (hj : i = j) (ht : P.underlying t = some (.array n e)) (hz : TOk P e R bytes z) (hx : Fct Γ x (tptr Ts)) (hi : Fct Γ y (tv (.int k i))) (h1 : j < n) :
    OpJ P ⟨d,.indexAddr t x y,ty,pos,af,g⟩ Γ [] [] (fun _ => []) (fun _ => tptr (Ts.drop (j * R.n))) :=
  opj_pure fun F w A he => by
    obtain ⟨b,o,hv,hb,hr⟩ := hx.use (by simp [Op.operands]) he
    have h2 := hi.val (by simp [Op.operands]) he
    subst hj
    refine ⟨_,?_,b,o + j * R.n,rfl,hb,hr.part _⟩
    simp only [execOp,hv,h2,Sem.run_bind,run_indexArr ht hz w (Int.natCast_nonneg j) (Int.ofNat_lt.2 h1),Result.andThen_ok,Sem.run_pure,Int.toNat_natCast]
/-! Values of interfaces that hold a number or a string -/

inductive AnyV where
  | int (n : Int)
  | str (s : Str)
deriving Inhabited
/-- ti, ts: the numbers of the types int and string. -/
def AnyV.val (ti ts : TypeId) : AnyV → Value
  | .int n => .iface ti (.int .i64 n)
  | .str s => .iface ts (.string (sB s))
@[reducible] def rAny (ti ts : TypeId) : Rep AnyV := ⟨fun x => [tv (x.val ti ts)],1,false,fun _ => rfl,fun x T h F w v hv => by simp at h; subst h; have : v = _ := hv; subst this; cases x <;> rfl,fun _ => rfl⟩
def AnyV.asInt : AnyV → Int × Bool | .int n => (n,true) | .str _ => (0,false)
def AnyV.asStr : AnyV → Str × Bool | .int _ => ([],false) | .str s => (s,true)
theorem op_mkI {ti ts : TypeId} {n : Int} (ht : P.underlying ti = some (.int .i64)) (hx : Fct Γ x (tv (.int .i64 n))) : OpJ P ⟨d,.makeInterface ti x,ty,pos,af,g⟩ Γ [] [] (fun _ => []) (fun _ => tv (AnyV.val ti ts (.int n))) :=
  opj_pure fun F w A he => ⟨_,by simp [execOp,Instr.makeInterface,run_underlying ht,hx.val (by simp [Op.operands]) he,AnyV.val],rfl⟩
theorem op_mkS {ti ts : TypeId} {s : Str} (ht : P.underlying ts = some .string) (hx : Fct Γ x (tv (.string (sB s)))) : OpJ P ⟨d,.makeInterface ts x,ty,pos,af,g⟩ Γ [] [] (fun _ => []) (fun _ => tv (AnyV.val ti ts (.str s))) :=
  opj_pure fun F w A he => ⟨_,by simp [execOp,Instr.makeInterface,run_underlying ht,hx.val (by simp [Op.operands]) he,AnyV.val],rfl⟩
theorem op_asI {ti ts : TypeId} {u : AnyV} (hne : ti ≠ ts) (hz : TOk P ti rI 8 (.int .i64 0)) (ht : P.underlying ti = some (.int .i64)) (hx : Fct Γ x (tv (u.val ti ts))) : OpJ P ⟨d,.typeAssert x t ti true,ty,pos,af,g⟩ Γ [] [] (fun _ => []) (fun _ => ttup [tv (.int .i64 u.asInt.1),tv (.bool u.asInt.2)]) :=
  opj_pure fun F w A he => by
    have h := hx.val (by simp [Op.operands]) he
    obtain ⟨i,hi,hz0,_⟩ := hz.info
    cases u with
    | int n => exact ⟨_,by simp [execOp,Instr.typeAssert,h,AnyV.val,run_underlying ht],[.int .i64 n,.bool true],rfl,.cons rfl (.cons rfl .nil)⟩
    | str s => exact ⟨_,by simp [execOp,Instr.typeAssert,h,AnyV.val,run_underlying ht,Ne.symm hne,zeroValue,typeInfo,hi,hz0],[.int .i64 0,.bool false],rfl,.cons rfl (.cons rfl .nil)⟩
theorem op_asS {ti ts : TypeId} {u : AnyV} (hne : ti ≠ ts) (hz : TOk P ts rS 16 (.string .empty)) (ht : P.underlying ts = some .string) (hx : Fct Γ x (tv (u.val ti ts))) : OpJ P ⟨d,.typeAssert x t ts true,ty,pos,af,g⟩ Γ [] [] (fun _ => []) (fun _ => ttup [tv (.string (sB u.asStr.1)),tv (.bool u.asStr.2)]) :=
  opj_pure fun F w A he => by
    have h := hx.val (by simp [Op.operands]) he
    obtain ⟨i,hi,hz0,_⟩ := hz.info
    cases u with
    | int n => exact ⟨_,by simp [execOp,Instr.typeAssert,h,AnyV.val,run_underlying ht,hne,zeroValue,typeInfo,hi,hz0],[.string .empty,.bool false],rfl,.cons rfl (.cons rfl .nil)⟩
    | str s => exact ⟨_,by simp [execOp,Instr.typeAssert,h,AnyV.val,run_underlying ht],[.string (sB s),.bool true],rfl,.cons rfl (.cons rfl .nil)⟩

/-! Function values of any kind -/

/-- A function value that gives p, where it is given what E says besides. -/
def tfn (P : Program) (E : List Atom) {A B : Type} (Ts : A → List Ty) (Tr : B → Ty) (p : A → Option B) : Ty :=
  ⟨fun F w v => ∃ f Tc,(tcloE f Tc).ok F w v ∧ Callable P f ∧ ∀ x b,p x = some b → FnOk P f (Ts x ++ Tc) E (fun _ => []) (fun _ => Tr b),fun hF hh ⟨f,Tc,h,r⟩ => ⟨f,Tc,(tcloE f Tc).keep hF hh h,r⟩⟩
theorem tfn_of {E : List Atom} {A B : Type} {Ts : A → List Ty} {Tr : B → Ty} {p : A → Option B} {f : FuncId} {Tc : List Ty} (hc : Callable P f) (h : ∀ x b,p x = some b → FnOk P f (Ts x ++ Tc) E (fun _ => []) (fun _ => Tr b)) : ∀ F w v,(tcloE f Tc).ok F w v → (tfn P E Ts Tr p).ok F w v :=
  fun _ _ _ hv => ⟨f,Tc,hv,hc,h⟩
theorem one_tfn {E : List Atom} {A B : Type} {Ts : A → List Ty} {Tr : B → Ty} {p : A → Option B} : One (tfn P E Ts Tr p) := fun _ _ _ ⟨_,_,⟨caps,h⟩,_⟩ => by rw [h.1]; rfl
end

end Go.Sim

namespace Go.Sim

theorem one_rep {α : Type} (R : Rep α) {x : α} : ∀ T,T ∈ R.cs x → One T := fun T h => R.one x T h
theorem one_app {Ts Us : List Ty} (h : ∀ T,T ∈ Ts → One T) (k : ∀ T,T ∈ Us → One T) : ∀ T,T ∈ Ts ++ Us → One T := fun T hT => (List.mem_append.1 hT).elim (h T) (k T)
/-- Cells of which some are owned. -/
@[reducible] def rAgg (Us : List Ty) (h : ∀ T,T ∈ Us → One T) : Rep Unit := ⟨fun _ => Us,Us.length,true,fun _ => rfl,fun _ => h,fun h => by cases h⟩
theorem tokA {P : Program} {t : TypeId} {α : Type} {R : Rep α} {b : Nat} {z : Value} (hz : TOk P t R b z) {Us : List Ty} (h : ∀ T,T ∈ Us → One T) (hn : Us.length = R.n) (ha : R.agg = true) : TOk P t (rAgg Us h) b z :=
  ⟨by obtain ⟨d,h1,h2⟩ := hz.d; exact ⟨d,h1,h2.trans ha⟩,by show _ = some (some z,Us.length,b); rw [hn]; exact hz.i,by show _ = Us.length; rw [hn]; exact hz.zc⟩
section
variable {Γ : List (Nat × Ty)} {P : Program} {d : Option Tmp} {ty : TypeId} {pos : String} {af : Array Edge} {g : Option (Nat × Bool)} {x y : Operand} {T : Ty} {t e : TypeId} {α : Type} {R : Rep α} {bytes : Nat} {z : Value}

theorem Fct.nilV : Fct Γ (.const (.slice none 0 0)) (rVal.ty nilV) := fun _ _ _ _ => ⟨rfl,rfl⟩
theorem op_loadBVf {Ts : List Ty} {q u : Value} {off : Nat} (hz : TOk P t rVal bytes z) (hp : Fct Γ x (tv (padd q off))) (h : rVal.cs u = (Ts.drop off).take (rVal.cs u).length) : OpJ P ⟨d,.load t x,ty,pos,af,g⟩ Γ [box Ts q] [] (fun _ => []) (fun _ => tv u) :=
  op_weak (op_loadBf (R := rVal) (u := u) hz hp h) (fun _ _ _ _ h => h.1)
theorem op_storeBV2 {q u' : Value} {xs : List α} {Ts : List Ty} (hz : TOk P t rVal bytes z) (hp : Fct Γ x (tv q)) (hx : Fct Γ y (tv u')) (hl : 1 ≤ Ts.length) : OpJ P ⟨d,.store t x y,ty,pos,af,g⟩ Γ [own R e xs u'] [box Ts q] (fun _ => [box (splice Ts 0 (rVal.cs u')) q]) (fun _ => tany) :=
  .say (A := own R e xs u') (by simp) (fun _ _ h => own_one h) fun hu => (op_storeB (R := rVal) (a := u') (Ts := Ts) hz hp (hx.weak fun _ _ _ h => ⟨h,hu⟩) hl).useMore (fun A hA => by cases hA)
theorem op_storeBVf {q u' : Value} {xs : List α} {Ts : List Ty} {off : Nat} (hz : TOk P t rVal bytes z) (hp : Fct Γ x (tv (padd q off))) (hx : Fct Γ y (tv u')) (hl : off + 1 ≤ Ts.length) : OpJ P ⟨d,.store t x y,ty,pos,af,g⟩ Γ [own R e xs u'] [box Ts q] (fun _ => [box (splice Ts off (rVal.cs u')) q]) (fun _ => tany) :=
  .say (A := own R e xs u') (by simp) (fun _ _ h => own_one h) fun hu => (op_storeBf (R := rVal) (a := u') (Ts := Ts) (off := off) hz hp (hx.weak fun _ _ _ h => ⟨h,hu⟩) hl).useMore (fun A hA => by cases hA)
/-- A field of an element of an owned slice. -/
theorem op_loadOf {β : Type} {R2 : Rep β} {f : β} {xs : List α} {u : α} {v : Value} {i : Int} {off : Nat} (hz : TOk P t R2 bytes z) (hp : Fct Γ x (tv (padd (elemP v (i.toNat * R.n)) off))) (h : idx xs i = some u) (hf : R2.cs f = ((R.cs u).drop off).take (R2.cs f).length) :
    OpJ P ⟨d,.load t x,ty,pos,af,g⟩ Γ [own R e xs v] [] (fun _ => []) (fun _ => R2.ty f) :=
  opj_use fun M w a hU he => by
    have hv := hp.val (by simp [Op.operands]) he
    obtain ⟨us,hc,hh⟩ := own_cellsL (hU _ (List.mem_singleton.2 rfl))
    unfold idx at h
    split at h
    · have hlt : i.toNat < xs.length := (List.getElem?_eq_some_iff.1 h).1
      rcases hh with ⟨_,hn⟩ | ⟨b,cap,hvv,hcell⟩
      · rw [hn] at hlt; simp at hlt
      · subst hvv
        have hrow : Row (xs.flatMap R.cs) (free M w) w b 0 := fun j T hj => by
          have hlt : j < us.length := by rw [hc.1]; exact (List.getElem?_eq_some_iff.1 hj).1
          exact ⟨us[j],by rw [Nat.zero_add]; exact hcell j _ (List.getElem?_eq_getElem hlt),hc.2 j T _ hj (List.getElem?_eq_getElem hlt)⟩
        have hr := ((hrow.elem h).part off).head hf
        rw [Nat.zero_add] at hr
        obtain ⟨v',hrun,hty⟩ := run_loadAt hz hr
        refine ⟨v',?_,hty⟩
        simp only [execOp,hv,elemP,padd,addr_add,Sem.run_bind,Nat.zero_add] at hrun ⊢
        simp only [hrun,Result.andThen_ok,Sem.run_pure]
    · cases h

/-- What would be owned is only read from now on; what was given is gone. -/
theorem OpJ.roE {o : Oper} {U E : List Atom} {xs : List α} (h : OpJ P o Γ U E (fun v => [own R e xs v]) (fun v => tv v)) : OpJ P o Γ U E (fun _ => []) (fun _ => tsl R xs) := by
  intro M w a hM hU hE hap hUE he
  refine (h M w a hM hU hE hap hUE he).mono ?_
  rintro v w' ⟨x,hs,hm,hv⟩
  have hv : v = x := hv
  subst hv
  have hok := hm.ok _ (List.mem_singleton.2 rfl)
  refine ⟨undef,hs,made_nil,?_⟩
  have hfree : ∀ k,(own R e xs v).fp k → free (next M E []) w' k := by
    intro k hk
    obtain ⟨h1,h2⟩ := hm.place _ (List.mem_singleton.2 rfl) k hk
    refine ⟨h2,?_⟩
    rintro (⟨hm1,hm2⟩ | ⟨A,hA,_⟩)
    · rcases h1 with h1 | h1
      · exact hm2 h1
      · have := hM k hm1; omega
    · cases hA
  have hsub : ∀ k,free (next M E [own R e xs v]) w' k → free (next M E []) w' k := by
    rintro k ⟨h1,h2⟩
    refine ⟨h1,?_⟩
    rintro (hm1 | ⟨A,hA,_⟩)
    · exact h2 (.inl hm1)
    · cases hA
  exact ArgOk.own (x := .tmp 0) (Γ := [(0,tv v)]) (U := [own R e xs v]) (R := R) (e := e) (xs := xs) (v := v) (Fct.t 0 rfl) (by simp) _ _ w' ⟨#[v],[]⟩ hsub (fun A hA => by simp at hA; subst hA; exact ⟨hok,hfree⟩) (fun p hp _ => by simp at hp; subst hp; rfl)

/-- An atom without blocks may be given to a call and kept. -/
theorem OpJ.gloG {o : Oper} {G : Atom} (h0 : ∀ k,¬ G.fp k) {U E : List Atom} {N : Value → List Atom} {T : Value → Ty} (h : OpJ P o Γ U (G :: E) N T) : OpJ P o Γ (G :: U) E N T := by
  have e1 : eatFp (G :: E) = eatFp E := by
    funext k
    refine propext ⟨?_,?_⟩
    · rintro ⟨A,hA,hk⟩
      rcases List.mem_cons.1 hA with rfl | hA
      · exact (h0 k hk).elim
      · exact ⟨A,hA,hk⟩
    · rintro ⟨A,hA,hk⟩
      exact ⟨A,by simp [hA],hk⟩
  intro M w a hM hU hE hap hUE he
  refine (h M w a hM (fun A hA => hU A (by simp [hA])) (fun A hA => ?_) ?_ (fun A hA B hB k hk => ?_) he).mono ?_
  · rcases List.mem_cons.1 hA with rfl | hA
    · exact hU A (by simp)
    · exact hE A hA
  · exact List.pairwise_cons.2 ⟨fun B _ k hk => (h0 k hk).elim,hap⟩
  · rcases List.mem_cons.1 hB with rfl | hB
    · exact h0 k
    · exact hUE A (by simp [hA]) B hB k hk
  · rintro v w' ⟨x,hs,hm,ht⟩
    rw [e1] at hs
    have e2 : ∀ N,next M (G :: E) N = next M E N := fun N => by funext k; simp only [next,e1]
    rw [e2] at ht
    exact ⟨x,hs,⟨hm.apart,fun A hA k hk => by have := hm.place A hA k hk; rwa [e1] at this,fun A hA => by have := hm.ok A hA; rwa [e2] at this⟩,ht⟩

theorem op_callT {E : List Atom} {A B : Type} {Ts : A → List Ty} {Tr : B → Ty} {p : A → Option B} {f : Operand} {xs : List Operand} {u : A} {b : B} {ts : Array TypeId} (hf : Fct Γ f (tfn P E Ts Tr p)) (ha : Args Γ [] xs (Ts u)) (h : p u = some b) :
    OpJ P ⟨d,.call { callee := .value f,args := xs.toArray,argTypes := ts },ty,pos,af,g⟩ Γ [] E (fun _ => []) (fun _ => Tr b) := by
  intro M w a hM hU hE hap hUE he
  obtain ⟨fid,Tc,⟨caps,hv,hcap⟩,hc,hok⟩ := hf.use (by simp [Op.operands,Call.operands]) he
  have hargs := ha.cells (F := free M w) (F' := free M w) (a := a) (fun _ h => h) (fun A hA => by simp at hA) (fun p hp hx => he p hp (by simp [Op.operands,Call.operands,hx]))
  have hr := run_call (ty := ty) (pos := pos) (af := af) (g := g) (d := d) (xs := xs) (ts := ts) (w := w) hc hv
  simp only [Does,hr]
  refine Calls.mono (hok u b h M w _ hM hE hap (hargs.append hcap)) ?_
  rintro en w' ⟨x0,v,hen,h⟩
  exact ⟨v,hen,x0,h⟩

/-! Bytes and strings -/

def bytesOf (s : Str) : List Int := s.map fun b => (b.toNat : Int)
theorem bytes_cells : ∀ (s : List Int),(s.flatMap (rInt .u8).cs) = s.map fun b => tv (.int .u8 b)
  | [] => rfl
  | b :: s => by rw [List.flatMap_cons,bytes_cells s]; rfl
theorem op_s2b {s : Str} {t2 : TypeId} {u : TypeDesc} (hs : P.underlying t = some u) (ht : P.underlying t2 = some (.slice e)) (he : P.underlying e = some (.int .u8)) (hx : Fct Γ x (tv (.string (sB s)))) :
    OpJ P ⟨d,.convert t t2 x,ty,pos,af,g⟩ Γ [] [] (fun _ => []) (fun _ => tsl (rInt .u8) (bytesOf s)) :=
  opj_new fun F w a hF hen => by
    have hv := hx.val (by simp [Op.operands]) hen
    refine ⟨_,_,by simp only [execOp,hv,Sem.run_bind,Lib.run_convert_string_bytes w t t2 e (sB s) hs ht he,Result.andThen_ok,Sem.run_pure]; rfl,?_,fun F' h1 h2 => ?_⟩
    · exact ⟨rfl,rfl,rfl,by rw [Lib.bytesWorld_size]; omega,fun k hk _ => Lib.bytesWorld_at_old w e (sB s) k hk⟩
    · refine ⟨some ⟨w.heap.size,0,none⟩,grownCap w (sB s).size 0 e,?_,?_,fun _ => ⟨w.heap.size,0,rfl,h2 _ (Nat.le_refl _) (by rw [Lib.bytesWorld_size]; omega),fun j T hj => ?_⟩⟩
      · simp [bytesOf,sB_size]
      · rw [show (bytesOf s).length = s.length by simp [bytesOf]]
        rw [sB_size]
        exact grownCap_ge _ _ _ _
      · rw [bytes_cells] at hj
        have hj' : j < s.length := by
          have := (List.getElem?_eq_some_iff.1 hj).1
          simpa [bytesOf] using this
        refine ⟨_,by rw [Nat.zero_add]; exact Lib.bytesWorld_cell w e (sB s) j (by rw [sB_size]; exact hj'),?_⟩
        simp only [bytesOf,List.map_map] at hj
        simp [hj'] at hj
        subst hj
        show _ = _
        simp [sB,List.getD_eq_getElem?_getD,hj']
end

section
variable {M : Fr} {w0 : World} {n : Nat} {Γ : List (Nat × Ty)} {As : List Atom} {a : Act} {w : World}
/-- A part of a variable that the call owned is only read from now on. -/
theorem St.shareC {α : Type} {R : Rep α} {e : TypeId} {xs : List α} {v q : Value} {Ts : List Ty} (k : Nat) (h : St M w0 n Γ (Sim.own R e xs v :: box Ts q :: As) a w) (hk : Ts[k]? = some (tvs v)) : St M w0 n Γ (box (Ts.set k (tsl R xs)) q :: As) a w := by
  have hf : ∀ j,fps (box (Ts.set k (tsl R xs)) q :: As) j → fps (Sim.own R e xs v :: box Ts q :: As) j := by
    rintro j ⟨A,hA,hj⟩
    rcases List.mem_cons.1 hA with rfl | hA
    · exact ⟨box Ts q,by simp,hj⟩
    · exact ⟨A,by simp [hA],hj⟩
  have hfree : ∀ j,free (hold M.m (Sim.own R e xs v :: box Ts q :: As)) w j → free (hold M.m (box (Ts.set k (tsl R xs)) q :: As)) w j := fun j hj => ⟨hj.1,fun hm => hj.2 (hm.imp id (hf j))⟩
  have hown := h.own (Sim.own R e xs v) (by simp)
  have hbox := h.own (box Ts q) (by simp)
  have hap := List.pairwise_cons.1 h.apart
  have hfp : ∀ j,(Sim.own R e xs v).fp j → free (hold M.m (box (Ts.set k (tsl R xs)) q :: As)) w j := by
    intro j hj
    have hfr := h.fresh _ (List.mem_cons_self) j hj
    refine ⟨hfr.2,?_⟩
    rintro (hm | ⟨A,hA,hkA⟩)
    · have := h.m0 j hm
      rcases hfr.1 with hb | hb
      · exact this.2 hb
      · omega
    · rcases List.mem_cons.1 hA with rfl | hA
      · exact hap.1 (box Ts q) (by simp) j hj hkA
      · exact hap.1 A (by simp [hA]) j hj hkA
  have hsl : (tsl R xs).ok (free (hold M.m (box (Ts.set k (tsl R xs)) q :: As)) w) w v :=
    ArgOk.own (x := .tmp 0) (Γ := [(0,tv v)]) (U := [Sim.own R e xs v]) (R := R) (e := e) (xs := xs) (v := v) (Fct.t 0 rfl) (by simp) _ _ w ⟨#[v],[]⟩ hfree (fun A hA => by simp at hA; subst hA; exact ⟨hown,hfp⟩) (fun p hp _ => by simp at hp; subst hp; rfl)
  refine ⟨h.size,h.defers,h.grow,h.m0,?_,?_,?_,fun p hp => p.2.keep hfree (fun _ _ => rfl) (h.slots p hp)⟩
  · intro A hA
    rcases List.mem_cons.1 hA with rfl | hA
    · obtain ⟨b,cur,e',hq,hb,hc,h1⟩ := hbox
      refine ⟨b,cur,e',hq,hb,⟨by rw [hc.1]; simp,fun j T u hT hu => ?_⟩,h1⟩
      by_cases hj : k = j
      · subst hj
        have hlt : k < Ts.length := (List.getElem?_eq_some_iff.1 hk).1
        simp [hlt] at hT
        subst hT
        have hu' : u = v := (hc.2 k _ u hk hu).1
        rw [hu']; exact hsl
      · rw [List.getElem?_set_ne hj] at hT
        exact T.keep hfree (fun _ _ => rfl) (hc.2 j T u hT hu)
    · exact A.keep hfree (fun _ _ => rfl) (fun _ _ => rfl) (h.own A (by simp [hA]))
  · intro A hA j hj
    rcases List.mem_cons.1 hA with rfl | hA
    · exact h.fresh (box Ts q) (by simp) j hj
    · exact h.fresh A (by simp [hA]) j hj
  · have h2 := List.pairwise_cons.1 hap.2
    exact List.pairwise_cons.2 ⟨fun B hB j hj => h2.1 B hB j hj,h2.2⟩
end

end Go.Sim

namespace Go.Sim

theorem one_tvs {x : Value} : One (tvs x) := fun F w v hv => by obtain ⟨h1,h2⟩ := hv; rw [h1]; exact h2
/-- A function value that may be nil. -/
def tfo {β : Type} (T : β → Ty) (p : Option β) : Ty := match p with | none => tv .nilFunc | some f => T f
theorem one_tfo {β : Type} {T : β → Ty} {p : Option β} (h : ∀ f,One (T f)) : One (tfo T p) := by
  cases p with
  | none => exact one_tv rfl
  | some f => exact h f
def callO {A B : Type} (p : Option (A → Option B)) (u : A) : Option B := p.bind fun f => f u
theorem ret_stN {P : Program} {M : Fr} {M0 : Blk} {w0 : World} {n : Nat} {Γ : List (Nat × Ty)} {As : List Atom} {a : Act} {w : World} {fn : Func} {rs : List ResultVar} {Ts : List Ty} {E : List Atom} {N : Value → List Atom} {T : Value → Ty} (x : Value) (is : List Nat) (hpl : Placed M0 E M) (hst : St M w0 n Γ As a w) (hrs : fn.results = rs.toArray) (h : ResOk P Γ As rs Ts) (hd : distinct is = true)
    (hN : is.filterMap (fun i => As[i]?) = N x) (hT : T x = resTy Ts) : Ret P fn M0 E w0 N T .normal a w := ret_st x is hpl hst hrs h hd hN hT

/-- Cells that are given by their values. -/
theorem cells_vals {F : Blk} {w : World} : ∀ {Ts : List Ty} {us : List Value} (_ : Cells Ts F w us) (vs : List Value),Ts = vs.map tv → (tv (.agg vs.toArray)).ok F w (.agg us.toArray)
  | Ts,us,hc,vs,h => by
    subst h
    have : us = vs := by
      refine List.ext_getElem? fun j => ?_
      have hl : us.length = vs.length := by simpa using hc.1
      rcases Nat.lt_or_ge j vs.length with hj | hj
      · have := hc.2 j (tv vs[j]) us[j] (by simp [hj]) (List.getElem?_eq_getElem (by omega))
        rw [List.getElem?_eq_getElem (by omega),List.getElem?_eq_getElem hj]
        exact congrArg some this
      · rw [List.getElem?_eq_none (by omega),List.getElem?_eq_none hj]
    subst this
    rfl

/-! Package variables -/

/-- The variables' blocks hold these cells, and nobody writes there. -/
def gloA (l : List (Nat × List Ty)) : Atom :=
  ⟨fun _ => False,fun F w => ∀ p ∈ l,F p.1 ∧ ∃ cur e fz,w.heap[p.1]? = some (.cells cur e fz) ∧ Cells p.2 F w cur.toList,
    fun hF hh _ h p hp => ⟨hF _ (h p hp).1,let ⟨cur,e,fz,h1,h2⟩ := (h p hp).2; ⟨cur,e,fz,by rw [hh _ (h p hp).1]; exact h1,h2.keep hF hh⟩⟩⟩
def GloIs (G : Atom) (g : Nat) (Ts : List Ty) : Prop := ∀ F w,G.ok F w → F g ∧ ∃ cur e fz,w.heap[g]? = some (.cells cur e fz) ∧ Cells Ts F w cur.toList
def GloHas (G : Atom) (g : Nat) (Ts : List Ty) : Prop := ∀ F w,G.ok F w → F g ∧ Row Ts F w g 0
theorem gloA_is {l : List (Nat × List Ty)} {g : Nat} {Ts : List Ty} (h : (g,Ts) ∈ l) : GloIs (gloA l) g Ts := fun _ _ hg => hg (g,Ts) h
theorem GloIs.has {G : Atom} {g : Nat} {Ts : List Ty} (h : GloIs G g Ts) : GloHas G g Ts := fun F w hg => by
  obtain ⟨h1,cur,e,fz,h2,h3⟩ := h F w hg
  refine ⟨h1,fun j T hj => ?_⟩
  have hlt : j < cur.toList.length := by rw [h3.1]; exact (List.getElem?_eq_some_iff.1 hj).1
  refine ⟨cur.toList[j],?_,h3.2 j T _ hj (List.getElem?_eq_getElem hlt)⟩
  have : j < cur.size := by simpa using hlt
  simp [World.cell?,h2,this]
/-! A look into a map with integer keys -/

def findE : List (Value × Value) → Int → Option Value
  | [],_ => none
  | (.int .i64 k,v) :: es,i => if i = k then some v else findE es i
  | _ :: es,i => findE es i
def intKeys (es : List (Value × Value)) : Bool := es.all fun p => match p.1 with | .int .i64 _ => true | _ => false
/-- A map value in which one finds what one finds in these entries. -/
def tmapC (es : List (Value × Value)) : Ty :=
  ⟨fun F w v => ∃ r ms c,v = .map (some r) ∧ F r ∧ w.heap[r]? = some (.map ms c) ∧ intKeys (ms.toList.map fun e => (e.key,e.val)) = true ∧ ∀ i,findE (ms.toList.map fun e => (e.key,e.val)) i = findE es i,
    fun hF hh ⟨r,ms,c,h1,h2,h3,h4⟩ => ⟨r,ms,c,h1,hF r h2,by rw [hh r h2]; exact h3,h4⟩⟩
theorem one_map {es : List (Value × Value)} : One (tmapC es) := fun _ _ _ ⟨_,_,_,h,_⟩ => by rw [h]; rfl
@[reducible] def rMapC (es : List (Value × Value)) : Rep Unit := ⟨fun _ => [tmapC es],1,false,fun _ => rfl,fun _ => one_cons one_map one_nil,fun _ => rfl⟩

section
variable {Γ : List (Nat × Ty)} {P : Program} {d : Option Tmp} {ty : TypeId} {pos : String} {af : Array Edge} {g : Option (Nat × Bool)} {x y : Operand} {T : Ty} {t e : TypeId} {α : Type} {R : Rep α} {bytes : Nat} {z : Value} {G : Atom}

/-- A load of a package variable. -/
theorem op_loadG {k : Nat} {u : α} {Ts : List Ty} (hG : GloHas G k Ts) (hz : TOk P t R bytes z) (h : R.cs u = Ts.take (R.cs u).length) : OpJ P ⟨d,.load t (.global k),ty,pos,af,g⟩ Γ [G] [] (fun _ => []) (fun _ => R.ty u) :=
  opj_use fun M w a hU he => by
    obtain ⟨_,hr⟩ := hG _ _ (hU _ (List.mem_singleton.2 rfl))
    obtain ⟨v,hrun,hty⟩ := run_loadAt hz (hr.head h)
    refine ⟨v,?_,hty⟩
    have e : a.eval (.global k) = .pointer (some ⟨k,0,none⟩) := rfl
    simp only [execOp,e,Sem.run_bind,hrun,Result.andThen_ok,Sem.run_pure]
/-- An element of a package variable that is an array. -/
theorem op_idxAG {k n : Nat} {kk : IntKind} {i : Int} {xs : List α} {u : α} {Ts : List Ty} (ht : P.underlying t = some (.array n e)) (hz : TOk P e R bytes z) (hG : GloHas G k Ts) (hT : Ts = xs.flatMap R.cs) (hi : Fct Γ y (tv (.int kk i))) (hn : xs.length = n) (h : idx xs i = some u) :
    OpJ P ⟨d,.indexAddr t (.global k) y,ty,pos,af,g⟩ Γ [G] [] (fun _ => []) (fun _ => tptr (R.cs u)) :=
  opj_use fun M w a hU he => by
    obtain ⟨hF,hr⟩ := hG _ _ (hU _ (List.mem_singleton.2 rfl))
    subst hT
    have h2 := hi.val (by simp [Op.operands]) he
    have e : a.eval (.global k) = .pointer (some ⟨k,0,none⟩) := rfl
    unfold idx at h
    split at h
    · rename_i h0
      have hlt : i.toNat < xs.length := (List.getElem?_eq_some_iff.1 h).1
      refine ⟨_,?_,k,0 + i.toNat * R.n,rfl,hF,hr.elem h⟩
      simp only [execOp,e,h2,Sem.run_bind,run_indexArr ht hz w h0 (show i < (n : Int) by omega),Result.andThen_ok,Sem.run_pure]
    · cases h

theorem op_callO {E : List Atom} {A B : Type} {Ts : A → List Ty} {Tr : B → Ty} {β : Type} {q : β → A → Option B} {p : Option β} {f : Operand} {xs : List Operand} {u : A} {b : B} {ts : Array TypeId} (hf : Fct Γ f (tfo (fun r => tfn P E Ts Tr (q r)) p)) (ha : Args Γ [] xs (Ts u)) (h : (p.bind fun r => q r u) = some b) :
    OpJ P ⟨d,.call { callee := .value f,args := xs.toArray,argTypes := ts },ty,pos,af,g⟩ Γ [] E (fun _ => []) (fun _ => Tr b) := by
  cases p with
  | none => cases h
  | some r => exact op_callT (p := q r) hf ha h

theorem findNow_int (i : Int) : ∀ (ms : List MapEntry) (n : Nat),intKeys (ms.map fun e => (e.key,e.val)) = true →
    (Instr.findNow (.int .i64) (.int .i64 i) ms n).map (Option.map (·.2)) = some (findE (ms.map fun e => (e.key,e.val)) i)
  | [],n,_ => rfl
  | m :: ms,n,h => by
    simp only [List.map_cons,intKeys,List.all_cons,Bool.and_eq_true] at h
    obtain ⟨h1,h2⟩ := h
    have ih := findNow_int i ms (n + 1) h2
    cases hk : m.key with
    | int k j =>
      rw [hk] at h1
      cases k <;> simp at h1
      simp only [Instr.findNow,hk,Instr.sameNow,if_true,List.map_cons,findE]
      by_cases hij : i = j
      · subst hij; simp
      · have : (i == j) = false := by simpa using hij
        simp only [this,if_neg hij]
        exact ih
    | _ => rw [hk] at h1; simp at h1
theorem op_lookC {es : List (Value × Value)} {i : Int} {kt et : TypeId} {V : Option Value → Ty} (ht : P.underlying t = some (.map kt et)) (hk : P.underlying kt = some (.int .i64)) (hz : (P.info? et).bind (·.zero) = some z)
    (hx : Fct Γ x (tmapC es)) (hi : Fct Γ y (tv (.int .i64 i))) (hV : ∀ F w,(V (findE es i)).ok F w ((findE es i).getD z)) : OpJ P ⟨d,.lookup t x y true,ty,pos,af,g⟩ Γ [] [] (fun _ => []) (fun _ => ttup [V (findE es i),tv (.bool (findE es i).isSome)]) :=
  opj_pure fun F w A he => by
    obtain ⟨r,ms,c,hv,_,hh,hks,hms⟩ := hx.use (by simp [Op.operands]) he
    have h2 := hi.val (by simp [Op.operands]) he
    obtain ⟨ti,hti,hzz⟩ : ∃ ti,P.info? et = some ti ∧ ti.zero = some z := by
      cases h : P.info? et with
      | none => simp [h] at hz
      | some ti => exact ⟨ti,rfl,by simpa [h] using hz⟩
    have hzv : (zeroValue et).run P w = .ok z w := by simp [zeroValue,typeInfo,hti,hzz]
    have hf := findNow_int i ms.toList 0 hks
    rw [hms] at hf
    have hck : ∀ b n,(Instr.checkKey b (n + 1) kt (.int .i64 i)).run P w = .ok () w := fun b n => by simp [Instr.checkKey,run_underlying hk]
    have hobj : (getObj r).run P w = .ok (.map ms c) w := by simp [getObj,Sem.run,hh]
    cases hn : Instr.findNow (.int .i64) (.int .i64 i) ms.toList 0 with
    | none => rw [hn] at hf; cases hf
    | some o =>
      rw [hn] at hf
      simp only [Option.map_some,Option.some.injEq] at hf
      refine ⟨.tuple #[(findE es i).getD z,.bool (findE es i).isSome],?_,[(findE es i).getD z,.bool (findE es i).isSome],rfl,.cons (hV F w) (.cons rfl .nil)⟩
      rw [← hf]
      cases o with
      | none => simp only [execOp,hv,h2,Instr.lookup,Sem.run_bind,run_underlying ht,Result.andThen_ok,hobj,Sem.run_pure,hck _ 9999,Instr.findKey,run_underlying hk,hn,hzv,Option.map_none,Option.getD_none,Option.isSome_none,if_true]
      | some q => simp only [execOp,hv,h2,Instr.lookup,Sem.run_bind,run_underlying ht,Result.andThen_ok,hobj,Sem.run_pure,hck _ 9999,Instr.findKey,run_underlying hk,hn,Option.map_some,Option.getD_some,Option.isSome_some,if_true]
end

end Go.Sim

namespace Go.Sim

/-- Two atoms as one. -/
def atom2 (A B : Atom) : Atom :=
  ⟨fun k => A.fp k ∨ B.fp k,fun F w => A.ok F w ∧ B.ok F w ∧ ∀ k,A.fp k → ¬ B.fp k,
    fun hF hh hf h => ⟨A.keep hF hh (fun k hk => hf k (.inl hk)) h.1,B.keep hF hh (fun k hk => hf k (.inr hk)) h.2.1,h.2.2⟩⟩
/-- A pointer that is nil, or this one. -/
def tbp (q : Value) : Ty := ⟨fun _ _ v => (v = .pointer none ∨ v = q) ∧ v.oneCell' = true,fun _ _ h => h⟩
/-- A variable whose block is known to be of a type. -/
def boxT (t : TypeId) (Ts : List Ty) (p : Value) : Atom :=
  ⟨fun k => p = .pointer (some ⟨k,0,none⟩),fun F w => ∃ b cur,p = .pointer (some ⟨b,0,none⟩) ∧ w.heap[b]? = some (.cells cur t (0,0)) ∧ Cells Ts F w cur.toList ∧ ∀ u ∈ cur.toList,u.oneCell' = true,
    fun hF hh hf ⟨b,cur,hp,hb,hc,h1⟩ => ⟨b,cur,hp,by rw [hf b hp]; exact hb,hc.keep hF hh,h1⟩⟩
/-- A builder of strings (tb: its type; e: that of bytes): its bytes, where it lies, its buffer. -/
def bldE (tb e : TypeId) (l : Str) (q v : Value) : Atom := atom2 (boxT tb [tbp q,tvs v] q) (own (rInt .u8) e (bytesOf l) v)

section
variable {M : Fr} {M0 : Blk} {w0 : World} {n : Nat} {Γ : List (Nat × Ty)} {As : List Atom} {a : Act} {w : World} {A B : Atom}
theorem fps2 : ∀ k,fps (A :: B :: As) k ↔ fps (atom2 A B :: As) k := by
  intro k
  constructor
  · rintro ⟨C,hC,hk⟩
    rcases List.mem_cons.1 hC with rfl | hC
    · exact ⟨_,List.mem_cons_self,.inl hk⟩
    · rcases List.mem_cons.1 hC with rfl | hC
      · exact ⟨_,List.mem_cons_self,.inr hk⟩
      · exact ⟨C,by simp [hC],hk⟩
  · rintro ⟨C,hC,hk⟩
    rcases List.mem_cons.1 hC with rfl | hC
    · rcases hk with hk | hk
      · exact ⟨A,by simp,hk⟩
      · exact ⟨B,by simp,hk⟩
    · exact ⟨C,by simp [hC],hk⟩
theorem hold2 : hold M0 (A :: B :: As) = hold M0 (atom2 A B :: As) := by
  funext k; exact propext ⟨fun h => h.imp id (fps2 k).1,fun h => h.imp id (fps2 k).2⟩
theorem St.open2 (h : St M w0 n Γ (atom2 A B :: As) a w) : St M w0 n Γ (A :: B :: As) a w := by
  have h1 := h.own _ List.mem_cons_self
  have hap := List.pairwise_cons.1 h.apart
  refine ⟨h.size,h.defers,h.grow,h.m0,?_,?_,?_,?_⟩
  · rw [hold2]
    intro C hC
    rcases List.mem_cons.1 hC with rfl | hC
    · exact h1.1
    · rcases List.mem_cons.1 hC with rfl | hC
      · exact h1.2.1
      · exact h.own C (by simp [hC])
  · intro C hC k hk
    rcases List.mem_cons.1 hC with rfl | hC
    · exact h.fresh _ List.mem_cons_self k (.inl hk)
    · rcases List.mem_cons.1 hC with rfl | hC
      · exact h.fresh _ List.mem_cons_self k (.inr hk)
      · exact h.fresh C (by simp [hC]) k hk
  · refine List.pairwise_cons.2 ⟨fun C hC k hk => ?_,List.pairwise_cons.2 ⟨fun C hC k hk => hap.1 C hC k (.inr hk),hap.2⟩⟩
    rcases List.mem_cons.1 hC with rfl | hC
    · exact h1.2.2 k hk
    · exact hap.1 C hC k (.inl hk)
  · rw [hold2]; exact h.slots
theorem St.close2 (h : St M w0 n Γ (A :: B :: As) a w) : St M w0 n Γ (atom2 A B :: As) a w := by
  have hap := List.pairwise_cons.1 h.apart
  have hap2 := List.pairwise_cons.1 hap.2
  refine ⟨h.size,h.defers,h.grow,h.m0,?_,?_,?_,?_⟩
  · rw [← hold2]
    intro C hC
    rcases List.mem_cons.1 hC with rfl | hC
    · exact ⟨h.own A (by simp),h.own B (by simp),hap.1 B (by simp)⟩
    · exact h.own C (by simp [hC])
  · intro C hC k hk
    rcases List.mem_cons.1 hC with rfl | hC
    · rcases hk with hk | hk
      · exact h.fresh A (by simp) k hk
      · exact h.fresh B (by simp) k hk
    · exact h.fresh C (by simp [hC]) k hk
  · refine List.pairwise_cons.2 ⟨fun C hC k hk => ?_,hap2.2⟩
    rcases hk with hk | hk
    · exact hap.1 C (by simp [hC]) k hk
    · exact hap2.1 C hC k hk
  · rw [← hold2]; exact h.slots
theorem St.swap (h : St M w0 n Γ (A :: B :: As) a w) : St M w0 n Γ (B :: A :: As) a w := h.perm (List.Perm.swap B A As)
end

section
variable {Γ : List (Nat × Ty)} {P : Program} {d : Option Tmp} {ty : TypeId} {pos : String} {af : Array Edge} {g : Option (Nat × Bool)} {x y : Operand} {T : Ty} {t t2 e : TypeId} {α : Type} {R : Rep α} {bytes : Nat} {z : Value}

theorem boxT_box {tb : TypeId} {Ts : List Ty} {q : Value} {F : Blk} {w : World} (h : (boxT tb Ts q).ok F w) : (box Ts q).ok F w := by
  obtain ⟨b,cur,hp,hb,r⟩ := h
  exact ⟨b,cur,tb,hp,hb,r⟩
/-- What reads a variable reads one whose type is known. -/
theorem OpJ.rT {o : Oper} {tb : TypeId} {Ts : List Ty} {q : Value} {N : Value → List Atom} {T : Value → Ty} (h : OpJ P o Γ [box Ts q] [] N T) : OpJ P o Γ [boxT tb Ts q] [] N T := by
  intro M w a hM hU hE hap hUE he
  refine h M w a hM (fun A hA => ?_) hE hap (fun A hA B hB => by cases hB) he
  obtain rfl := List.mem_singleton.1 hA
  have := hU _ (List.mem_singleton.2 rfl)
  exact ⟨boxT_box this.1,this.2⟩
theorem op_storeT' {a : α} {Ts : List Ty} {q : Value} {off : Nat} {tb : TypeId} (hz : TOk P t R bytes z) (hp : Fct Γ x (tv (padd q off))) (hx : Fct Γ y (R.ty a)) (hl : off + R.n ≤ Ts.length) :
    OpJ P ⟨d,.store t x y,ty,pos,af,g⟩ Γ [] [boxT tb Ts q] (fun _ => [boxT tb (splice Ts off (R.cs a)) q]) (fun _ => tany) := by
  intro M w A hM _ hE _ _ he
  obtain ⟨⟨b,cur,hq,hb,hc,h1⟩,hfp⟩ := hE _ (List.mem_singleton.2 rfl)
  have hgiv := given_fp hE
  have hv := hx.use (by simp [Op.operands]) he
  have hpv : A.eval x = .pointer (some ⟨b,off,none⟩) := by rw [hp.val (by simp [Op.operands]) he,hq]; simp [padd,addr_add]
  have hsz : cur.size = Ts.length := by simpa using hc.1
  have hr : (execOp A.eval (⟨d,.store t x y,ty,pos,af,g⟩ : Oper)).run P w = .ok .skip (w.setRow b (splice cur.toList off (A.eval y).cells.toList).toArray) := by
    have hrs := run_storeAt (off := off) hz hv hb (by omega)
    simp only [execOp,hpv,Sem.run_bind,hrs,Result.andThen_ok,Sem.run_pure]
  simp only [Does,hr]
  have hfpb : ∀ {Us : List Ty} k,(boxT tb Us q).fp k ↔ k = b := by intro Us k; rw [hq]; exact box_fp (Ts := Us)
  have heat : ∀ k,eatFp [boxT tb Ts q] k ↔ k = b := by
    intro k
    rw [eatFp_one,hfpb]
  refine ⟨undef,setRow_step ((heat b).2 rfl),made_one (fun k hk => ?_) ?_,trivial⟩
  · have hk := (hfpb k).1 hk
    subst hk
    refine ⟨.inl ((heat _).2 rfl),?_⟩
    have := (Array.getElem?_eq_some_iff.1 hb).1
    simpa using this
  · obtain ⟨hcv,h1v,_⟩ := cells_of_ty hv
    refine ⟨b,_,hq,setRow_heap w b cur _ tb _ hb,?_,?_⟩
    · have hcs := (hc.splice (off := off) hcv (by rw [R.len]; exact hl))
      simp only
      refine hcs.keepE ?_ ?_
      · intro k hk
        refine free_next (by simp) hgiv (fun B hB j hj => ?_) hk
        obtain rfl := List.mem_singleton.1 hB
        exact .inl ((heat j).2 ((hfpb j).1 hj))
      · rintro k ⟨h2,h3⟩
        exact setRow_other w b k _ (fun e => h3 (hgiv k ((heat k).2 e)))
    · simpa using splice_one (off := off) h1 h1v
/-- A store of a slice's header. -/
theorem op_storeVT {xs : List α} {Ts : List Ty} {q u' : Value} {off : Nat} {tb : TypeId} (hz : TOk P t rVal bytes z) (hp : Fct Γ x (tv (padd q off))) (hx : Fct Γ y (tv u')) (hl : off + 1 ≤ Ts.length) :
    OpJ P ⟨d,.store t x y,ty,pos,af,g⟩ Γ [own R e xs u'] [boxT tb Ts q] (fun _ => [boxT tb (splice Ts off (rVal.cs u')) q]) (fun _ => tany) :=
  .say (A := own R e xs u') (by simp) (fun _ _ h => own_one h) fun hu => (op_storeT' (R := rVal) (a := u') (Ts := Ts) (off := off) hz hp (hx.weak fun _ _ _ h => ⟨h,hu⟩) hl).useMore (fun A hA => by cases hA)
/-- A new builder. -/
theorem op_allocB {tb be : TypeId} {bs : Nat} (hi : (P.info? tb).map (fun i => (i.zero,i.size,i.bytes)) = some (some (.agg #[.pointer none,.slice none 0 0]),2,bs)) :
    OpJ P ⟨d,.alloc tb,ty,pos,af,g⟩ Γ [] [] (fun p => [bldE tb be [] p nilV]) (fun p => tv p) := by
  intro M w A hM _ _ _ _ _
  obtain ⟨ti,hti,hzz⟩ : ∃ ti,P.info? tb = some ti ∧ ti.zero = some (.agg #[.pointer none,.slice none 0 0]) := by
    cases hx : P.info? tb with
    | none => simp [hx] at hi
    | some i =>
      simp only [hx,Option.map_some,Option.some.injEq,Prod.mk.injEq] at hi
      exact ⟨i,rfl,hi.1⟩
  have hr : (execOp A.eval (⟨d,.alloc tb,ty,pos,af,g⟩ : Oper)).run P w = .ok (.value (.pointer (some ⟨w.heap.size,0,none⟩))) (w.alloc (.cells #[.pointer none,.slice none 0 0] tb)) := by
    simp [execOp,Instr.alloc,zeroValue,typeInfo,hti,hzz,newVar,newRow,Value.cells]
  simp only [Does,hr]
  refine ⟨.pointer (some ⟨w.heap.size,0,none⟩),(Step.alloc w _).mono (fun _ h => h.elim),made_one (fun k hk => ?_) ?_,rfl⟩
  · have hk : k = w.heap.size := by
      rcases hk with hk | hk
      · exact (box_fp (Ts := [])).1 hk
      · cases hk
    subst hk
    exact ⟨.inr (Nat.le_refl _),by simp⟩
  · refine ⟨⟨w.heap.size,_,rfl,heap_alloc_new w _,?_,?_⟩,⟨[],World.ownsRow_nil _ _ _ _,rfl,fun j T u hT => by simp [bytesOf] at hT⟩,fun k _ hk => by cases hk⟩
    · exact .cons ⟨.inl rfl,rfl⟩ (.cons ⟨rfl,rfl⟩ .nil)
    · intro u hu
      simp at hu
      rcases hu with rfl | rfl <;> rfl

/-- Appending a string's bytes. -/
theorem run_appendS {xs : List Int} {v : Value} {F F' : Blk} {w : World} {s : Str} (ht : P.underlying t = some (.slice e)) (hu : P.underlying t2 = some .string) (hz : TOk P e (rInt .u8) 1 (.int .u8 0))
    (ho : (own (rInt .u8) e xs v).ok F w) (hF : ∀ k,F k → k < w.heap.size ∧ ¬ (own (rInt .u8) e xs v).fp k) (hFF : ∀ k,F k → F' k) (h : rm (xs.length + s.length) = some ()) :
    ∃ v' w',(Builtin.append_ #[t,t2] ty #[v,.string (sB s)]).run P w = .ok v' w' ∧ Step (own (rInt .u8) e xs v).fp w w' ∧ (∀ k,(own (rInt .u8) e (xs ++ bytesOf s) v').fp k → ((own (rInt .u8) e xs v).fp k ∨ w.heap.size ≤ k) ∧ k < w'.heap.size) ∧ (own (rInt .u8) e (xs ++ bytesOf s) v').ok F' w' := by
  obtain ⟨ti,hti,hzz,hs,hbb⟩ := hz.info
  have hs1 : ti.size = 1 := hs
  have hroom : xs.length + s.length ≤ 68719476736 := by unfold rm at h; split at h <;> first | assumption | cases h
  have hsz := sB_size s
  have hlen : (bytesOf s).length = s.length := by simp [bytesOf]
  have hnl : (Lib.strCells (sB s)).length = s.length := by rw [Lib.strCells_length,hsz]
  have hcn : ∀ F w,Cells ((bytesOf s).flatMap (rInt .u8).cs) F w (Lib.strCells (sB s)) := by
    intro F w
    rw [bytes_cells]
    refine ⟨by simp [hnl,hlen],fun j T u hT hu => ?_⟩
    simp only [Lib.strCells,bytesOf,sB,List.map_map,List.getElem?_map,Option.map_eq_some_iff] at hT hu
    obtain ⟨c,h1,rfl⟩ := hT
    obtain ⟨c',h2,rfl⟩ := hu
    have : some c = some c' := h1.symm.trans h2
    cases this
    rfl
  have hxf : (xs.flatMap (rInt .u8).cs).length = xs.length := by rw [bytes_cells]; simp
  have hlt : ∀ k,(own (rInt .u8) e xs v).fp k → k < w.heap.size := by
    intro k hk
    rcases own_cells ho with ⟨hv,_⟩ | ⟨b,cap,cur,hv,hbk,_⟩
    · rw [hv] at hk; cases hk
    · rw [hv] at hk
      rw [own_fp.1 hk]
      exact (Array.getElem?_eq_some_iff.1 hbk).1
  have hz1 : (Value.int IntKind.u8 0).cells.size = 1 := rfl
  rcases own_cells ho with ⟨hv,hx⟩ | ⟨gb,cap,cur,hv,hbk,h1,h2,h3,h4⟩
  · subst hv; subst hx
    by_cases hs0 : s = []
    · subst hs0
      refine ⟨.slice none 0 0,w,?_,Step.refl _ _,fun k hk => (by exact absurd hk (by intro h; cases h)),?_⟩
      · have hf := Lib.run_firstCells_string (P := P) w 1 (sB [])
        have e0 : (sB []).size = 0 := rfl
        have e4 : (⟨#[]⟩ : ByteArray) = ByteArray.empty := rfl
        rw [e0] at hf
        have e5 : Lib.strCells (sB []) = [] := rfl
        rw [e5] at hf
        simp [Builtin.append_,run_underlying ht,run_underlying hu,sizeOf,typeInfo,hti,hs1,Builtin.lenOf,e0,hf]
      · exact ⟨[],World.ownsRow_nil _ _ _ _,rfl,fun j T u hT => by simp [bytesOf] at hT⟩
    · have hpos : 0 < s.length := by
        rcases s with _ | ⟨b,s⟩
        · exact (hs0 rfl).elim
        · simp
      simp only [List.length_nil,Nat.zero_add] at hroom
      have hrun := run_append_nil_string (P := P) w t t2 ty e ti (.int .u8 0) ht hu hti hzz (sB s) (by rw [hsz]; omega) (by rw [hsz]; omega) (by rw [hsz,hbb]; omega)
      have hge := grownCap_ge w (sB s).size 0 e
      have hle := grownCap_le_maxLen w (sB s).size 0 e (by rw [hsz]; unfold maxLen; omega)
      have e1 : ((sB s).data.map fun b => Value.int .u8 b.toNat) = (Lib.strCells (sB s)).toArray := by
        apply Array.ext'
        simp [Lib.strCells]
      rw [e1] at hrun
      refine ⟨_,_,hrun,⟨rfl,rfl,rfl,by simp,fun k hk _ => Go.RowKit.Below.heap_alloc w.drew _ k hk⟩,?_,?_⟩
      · intro k hk
        rw [own_fp.1 hk]
        exact ⟨.inr (Nat.le_refl _),by simp⟩
      · rw [List.nil_append,hsz,← hlen]
        rw [hsz,← hlen] at hge hle
        refine own_mk (heap_alloc_new w.drew _) hge hle ?_ ?_
        · rw [hlen] at hge ⊢
          simp only [Array.size_append,List.size_toArray,size_zeroCells,hz1,hnl]
          show _ = _ * 1
          omega
        · have e2 : ((Lib.strCells (sB s)).toArray ++ Builtin.zeroCells (Value.int .u8 0).cells (grownCap w (bytesOf s).length 0 e - (bytesOf s).length)).toList.take ((bytesOf s).length * 1) = Lib.strCells (sB s) := by
            rw [Array.toList_append,List.take_left' (by rw [List.toList_toArray,hnl,hlen,Nat.mul_one])]
          show Cells _ F' _ (List.take ((bytesOf s).length * 1) _)
          rw [e2]
          exact hcn _ _
  · subst hv
    have h3' : cur.size = cap := by simpa using h3
    by_cases hcap : xs.length + s.length ≤ cap
    · have hrun := Lib.run_append_room_string (P := P) w t t2 ty e ti ht hu hti hs1 gb xs.length cap cur hbk (sB s) (by rw [hsz]; exact hcap) (by rw [hsz,h3']; exact hcap)
      refine ⟨_,_,hrun,setRow_step (own_fp.2 rfl),?_,?_⟩
      · intro k hk
        rw [own_fp.1 hk]
        exact ⟨.inl (own_fp.2 rfl),by simpa using (Array.getElem?_eq_some_iff.1 hbk).1⟩
      · have el : xs.length + (sB s).size = (xs ++ bytesOf s).length := by rw [hsz]; simp [hlen]
        rw [el]
        refine own_mk (setRow_heap w gb cur _ e _ hbk) (by rw [← el,hsz]; exact hcap) h2 ?_ ?_
        · simp only [List.size_toArray,List.length_append,List.length_take,List.length_drop,Array.length_toList,hnl]
          show _ = cap * 1
          omega
        · have e2 : (cur.toList.take xs.length ++ Lib.strCells (sB s) ++ cur.toList.drop (xs ++ bytesOf s).length).take ((xs ++ bytesOf s).length * 1) = cur.toList.take (xs.length * 1) ++ Lib.strCells (sB s) := by
            rw [Nat.mul_one,Nat.mul_one]
            refine List.take_left' ?_
            rw [List.length_append,hnl,List.length_take,← el,hsz]
            simp; omega
          show Cells _ F' _ (List.take ((xs ++ bytesOf s).length * 1) (List.toArray _).toList)
          rw [List.toList_toArray,e2,List.flatMap_append]
          exact (h4.keepE hFF (fun k hk => setRow_other w gb k _ (fun e => (hF k hk).2 (own_fp.2 e)))).append (hcn _ _)
    · have holds : ∀ j u,(cur.toList.take xs.length)[j]? = some u → w.cell? ((⟨gb,0,none⟩ : Addr).add j) = some u := by
        intro j u hu
        rw [List.getElem?_take] at hu
        split at hu
        · rw [addr_add,Nat.zero_add]
          simpa [World.cell?,hbk] using hu
        · cases hu
      have holdl : (cur.toList.take xs.length).length = xs.length * ti.size := by rw [hs1]; simp; omega
      have hrun := Lib.run_append_grow_string (P := P) w t t2 ty e ti (.int .u8 0) ht hu hti hzz ⟨gb,0,none⟩ xs.length cap _ holdl holds (sB s) (by rw [hsz]; omega) (by rw [hsz]; omega) (growslice_fits (by rw [hsz]; omega) (by rw [hbb,hsz]; omega))
      have hge := grownCap_ge w (xs.length + (sB s).size) cap e
      have hle := grownCap_le_maxLen w (xs.length + (sB s).size) cap e (by rw [hsz]; unfold maxLen; omega)
      refine ⟨_,_,hrun,⟨rfl,rfl,rfl,by simp,fun k hk _ => Go.RowKit.Below.heap_alloc w.drew _ k hk⟩,?_,?_⟩
      · intro k hk
        rw [own_fp.1 hk]
        exact ⟨.inr (Nat.le_refl _),by simp⟩
      · have el : xs.length + (sB s).size = (xs ++ bytesOf s).length := by rw [hsz]; simp [hlen]
        rw [el] at hge hle ⊢
        refine own_mk (heap_alloc_new w.drew _) hge hle ?_ ?_
        · simp only [Array.size_append,List.size_toArray,size_zeroCells,hz1,holdl,hnl,hs1,List.length_append,hlen]
          simp only [List.length_append,hlen] at hge
          show _ = _ * 1
          omega
        · have e2 : (((cur.toList.take xs.length).toArray ++ (Lib.strCells (sB s)).toArray ++ Builtin.zeroCells (Value.int .u8 0).cells (grownCap w (xs ++ bytesOf s).length cap e - (xs ++ bytesOf s).length)).toList).take ((xs ++ bytesOf s).length * 1) = cur.toList.take (xs.length * 1) ++ Lib.strCells (sB s) := by
            rw [Array.toList_append,Array.toList_append,Nat.mul_one,Nat.mul_one]
            refine List.take_left' ?_
            simp only [List.length_append,holdl,hnl,hs1,hlen,Nat.mul_one]
          show Cells _ F' _ (List.take ((xs ++ bytesOf s).length * 1) _)
          rw [e2,List.flatMap_append]
          exact (h4.keepE hFF (fun k hk => Go.RowKit.Below.heap_alloc w.drew _ k (hF k hk).1)).append (hcn _ _)

theorem op_appendS {xs : List Int} {v : Value} {s : Str} (ht : P.underlying t = some (.slice e)) (hu : P.underlying t2 = some .string) (hz : TOk P e (rInt .u8) 1 (.int .u8 0)) (hx : Fct Γ x (tv v)) (hy : Fct Γ y (tv (.string (sB s)))) (h : rm (xs.length + s.length) = some ()) :
    OpJ P ⟨d,.call { callee := .builtin .append,args := #[x,y],argTypes := #[t,t2] },ty,pos,af,g⟩ Γ [] [own (rInt .u8) e xs v] (fun v' => [own (rInt .u8) e (xs ++ bytesOf s) v']) (fun v' => tv v') := by
  intro M w A hM _ hE _ _ he
  obtain ⟨ho,hfp⟩ := hE _ (List.mem_singleton.2 rfl)
  have hgiv := given_fp hE
  have h1 := hx.val (by simp [Op.operands,Call.operands]) he
  have h2 := hy.val (by simp [Op.operands,Call.operands]) he
  obtain ⟨v',w',hrun,hstep,hfp',hok⟩ := run_appendS (ty := ty) (F := free M w) (F' := fun k => k < w.heap.size ∧ ¬ M k) ht hu hz ho (fun k hk => ⟨hk.1,fun hf => hk.2 (hfp k hf)⟩) (fun k hk => hk) h
  have hexec : (execOp A.eval (⟨d,.call { callee := .builtin .append,args := #[x,y],argTypes := #[t,t2] },ty,pos,af,g⟩ : Oper)).run P w = .ok (.value v') w' := by
    simp only [execOp,resolve,invoke,builtin,Sem.run_bind,Sem.run_pure,Result.andThen_ok,List.map_toArray,List.map_cons,List.map_nil,h1,h2,hrun]
  simp only [Does,hexec]
  refine ⟨v',hstep.mono (fun k hk => eatFp_one.2 hk),made_one (fun k hk => ⟨(hfp' k hk).1.imp eatFp_one.2 id,(hfp' k hk).2⟩) ?_,rfl⟩
  refine Atom.keep _ (fun k hk => ?_) (fun _ _ => rfl) (fun _ _ => rfl) hok
  refine free_next hstep.size hgiv (fun B hB j hj => ?_) hk
  obtain rfl := List.mem_singleton.1 hB
  exact (hfp' j hj).1.imp eatFp_one.2 id

/-- The address of an owned slice's bytes. -/
theorem op_sliceData {xs : List α} {v : Value} (hne : xs ≠ []) (hx : Fct Γ x (tv v)) : OpJ P ⟨d,.call { callee := .builtin .unsafeSliceData,args := #[x],argTypes := #[t] },ty,pos,af,g⟩ Γ [own R e xs v] [] (fun _ => []) (fun _ => tv (elemP v 0)) :=
  opj_use fun M w A hU he => by
    have h1 := hx.val (by simp [Op.operands,Call.operands]) he
    rcases own_cells (hU _ (List.mem_singleton.2 rfl)) with ⟨_,hn⟩ | ⟨b,cap,cur,hv,_,hl,_⟩
    · exact (hne hn).elim
    · subst hv
      have hc : cap ≠ 0 := by
        have : 0 < xs.length := List.length_pos_iff.2 hne
        omega
      refine ⟨.pointer (some ⟨b,0,none⟩),by simp only [execOp,resolve,invoke,builtin,Sem.run_bind,Sem.run_pure,Result.andThen_ok,List.map_toArray,List.map_cons,List.map_nil,h1,Lib.run_unsafeSliceData_row (P := P) (w := w) #[t] ty ⟨b,0,none⟩ xs.length cap hc],?_⟩
      show _ = _
      simp [elemP,Addr.add]
/-- An owned slice's bytes become a string; nobody writes there again. -/
theorem op_unsafeString {l : Str} {v : Value} {pt it : TypeId} (hp : P.underlying pt = some (.pointer e)) (hc : P.cellsOf e = 1) (hne : l ≠ []) (hx : Fct Γ x (tv (elemP v 0))) (hy : Fct Γ y (tv (.int .i64 ((bytesOf l).length : Int)))) :
    OpJ P ⟨d,.call { callee := .builtin .unsafeString,args := #[x,y],argTypes := #[pt,it] },ty,pos,af,g⟩ Γ [] [own (rInt .u8) e (bytesOf l) v] (fun _ => []) (fun _ => tv (.string (sB l))) := by
  intro M w A hM _ hE _ _ he
  obtain ⟨ho,hfp⟩ := hE _ (List.mem_singleton.2 rfl)
  have h1 := hx.val (by simp [Op.operands,Call.operands]) he
  have h2 := hy.val (by simp [Op.operands,Call.operands]) he
  have hlen : (bytesOf l).length = l.length := by simp [bytesOf]
  rw [hlen] at h2
  rcases own_cells ho with ⟨_,hn⟩ | ⟨b,cap,cur,hv,hb,hl,hm,hs,hcells⟩
  · have : l.length = 0 := by rw [← hlen,hn]; rfl
    exact (hne (List.eq_nil_of_length_eq_zero this)).elim
  · subst hv
    have hrun := Lib.run_unsafeString_row (P := P) w pt it ty e hp hc b cur.size (by simp [World.shape?,hb]) l hne (by rw [hs,← hlen]; show _ ≤ cap * 1; omega) (by unfold maxLen at hm; omega) (fun j c hj => by
      rw [addr_add,Nat.zero_add]
      have hj' : j < l.length := (List.getElem?_eq_some_iff.1 hj).1
      have hT : ((bytesOf l).flatMap (rInt .u8).cs)[j]? = some (tv (.int .u8 (c.toNat : Int))) := by
        rw [bytes_cells]; simp [bytesOf,hj]
      have hlt : j < (cur.toList.take ((bytesOf l).length * (rInt .u8).n)).length := by rw [hcells.1]; exact (List.getElem?_eq_some_iff.1 hT).1
      have := hcells.2 j _ _ hT (List.getElem?_eq_getElem hlt)
      have hval : cur.toList[j]? = some (.int .u8 (c.toNat : Int)) := by
        have h3 := List.getElem?_eq_getElem hlt
        rw [show (cur.toList.take ((bytesOf l).length * (rInt .u8).n))[j] = Value.int .u8 (c.toNat : Int) from this] at h3
        rw [List.getElem?_take] at h3
        split at h3
        · exact h3
        · cases h3
      simpa [World.cell?,hb] using hval)
    have hev : elemP (Value.slice (some ⟨b,0,none⟩) (bytesOf l).length cap) 0 = .pointer (some ⟨b,0,none⟩) := by simp [elemP,Addr.add]
    have hexec : (execOp A.eval (⟨d,.call { callee := .builtin .unsafeString,args := #[x,y],argTypes := #[pt,it] },ty,pos,af,g⟩ : Oper)).run P w = .ok (.value (.string ⟨l.toArray⟩)) (w.freeze ⟨b,0,none⟩ l.length) := by
      simp only [execOp,resolve,invoke,builtin,Sem.run_bind,Sem.run_pure,Result.andThen_ok,List.map_toArray,List.map_cons,List.map_nil,h1,h2,hev,hrun]
    simp only [Does,hexec]
    refine ⟨undef,?_,made_nil,rfl⟩
    have hne0 : l.length ≠ 0 := fun h => hne (List.eq_nil_of_length_eq_zero h)
    refine ⟨by simp [World.freeze,hne0],by simp [World.freeze,hne0],by simp [World.freeze,hne0],by simp [World.freeze,hne0],fun k hk hnk => ?_⟩
    have hkb : b ≠ k := fun e => hnk (eatFp_one.2 (own_fp.2 e.symm))
    simp [World.freeze,hne0,Array.getElem?_modify,hkb]

end

end Go.Sim

namespace Go.Sim
theorem sB_beq (a b : Str) : (sB a == sB b) = (a == b) := by
  show (a.toArray == b.toArray) = _
  simp

/-- A datum one of whose cells may be a given value. -/
def rHole {α : Type} (R : Rep α) (k : Nat) : Rep (α × Option Value) :=
  ⟨fun x => match x.2 with | none => R.cs x.1 | some q => (R.cs x.1).set k (tvs q),R.n,R.agg,fun x => by cases x.2 <;> simp [R.len],
    fun x T h F w v hv => by
      obtain ⟨x,o⟩ := x
      cases o with
      | none => exact R.one x T h F w v hv
      | some q =>
        rcases List.mem_or_eq_of_mem_set h with h | h
        · exact R.one x T h F w v hv
        · subst h; exact one_tvs F w v hv,R.sz⟩
/-- A list one of whose elements has such a cell. -/
def holeL {α : Type} (xs : List α) (i : Int) (q : Value) : List (α × Option Value) := match idx xs i with | some u => (xs.map fun x => (x,none)).set i.toNat (u,some q) | none => xs.map fun x => (x,none)
section
variable {α : Type} {R : Rep α} {k : Nat} {xs : List α} {i : Int} {q : Value} {u : α} {v : Value} {e : TypeId}
theorem idx_bound (h : idx xs i = some u) : 0 ≤ i ∧ i.toNat < xs.length ∧ xs[i.toNat]? = some u := by
  unfold idx at h
  split at h
  · exact ⟨by assumption,(List.getElem?_eq_some_iff.1 h).1,h⟩
  · cases h
theorem holeL_eq (h : idx xs i = some u) : holeL xs i q = (xs.map fun x => (x,none)).set i.toNat (u,some q) := by unfold holeL; rw [h]
theorem hole_len (h : idx xs i = some u) : (holeL xs i q).length = xs.length := by rw [holeL_eq h]; simp
theorem hole_at (h : idx xs i = some u) : idx (holeL xs i q) i = some (u,some q) := by
  obtain ⟨h0,h1,h2⟩ := idx_bound h
  rw [holeL_eq h]; unfold idx
  rw [if_pos h0,List.getElem?_set_self (by simpa using h1)]
theorem hole_set (h : idx xs i = some u) : setAt (xs.map fun x => (x,(none : Option Value))) i (u,some q) = some (holeL xs i q) := by
  obtain ⟨h0,h1,h2⟩ := idx_bound h
  rw [holeL_eq h]; unfold setAt
  rw [if_pos ⟨h0,by rw [List.length_map]; omega⟩]
theorem own_holes (R : Rep α) (k : Nat) (e : TypeId) (xs : List α) (v : Value) : own (rHole R k) e (xs.map fun x => (x,none)) v = own R e xs v := by
  have e1 : ((xs.map fun x => (x,(none : Option Value))).flatMap (rHole R k).cs) = xs.flatMap R.cs := by rw [List.flatMap_map]; rfl
  unfold own
  congr 1
  funext F w
  rw [e1,List.length_map]
  rfl
theorem set_splice {β : Type} {l : List β} {k : Nat} {x : β} (h : k < l.length) : l.set k x = splice l k [x] := by
  apply List.ext_getElem?
  intro j
  rw [splice_get _ _ _ _ (by rw [List.length_singleton]; omega),List.getElem?_set]
  simp only [List.length_singleton]
  by_cases hj : k = j
  · subst hj; rw [if_pos rfl,if_pos h,if_pos ⟨Nat.le_refl _,by omega⟩,Nat.sub_self]; rfl
  · rw [if_neg hj,if_neg (by omega)]
section
variable {Γ : List (Nat × Ty)} {P : Program} {d : Option Tmp} {ty : TypeId} {pos : String} {af : Array Edge} {g : Option (Nat × Bool)} {x y : Operand} {t : TypeId} {bytes : Nat} {z : Value} {β : Type} {R2 : Rep β}
theorem tokH {b : Nat} (hz : TOk P t R b z) : TOk P t (rHole R k) b z := ⟨hz.d,hz.i,hz.zc⟩
/-- An owned slice is put into an element of an owned slice. -/
theorem op_storeH {ys : List β} {e2 : TypeId} (hz : TOk P t rVal bytes z) (hp : Fct Γ x (tv (padd (elemP v (i.toNat * R.n)) k))) (hx : Fct Γ y (tv q)) (h : idx xs i = some u) (hk : k + 1 ≤ R.n) :
    OpJ P ⟨d,.store t x y,ty,pos,af,g⟩ Γ [own R2 e2 ys q] [own R e xs v] (fun _ => [own (rHole R k) e (holeL xs i q) v]) (fun _ => tany) :=
  .say (A := own R2 e2 ys q) (by simp) (fun _ _ h => own_one h) fun hu => by
    obtain ⟨h0,h1,h2⟩ := idx_bound h
    have hm : idx (xs.map fun x => (x,(none : Option Value))) i = some (u,none) := by unfold idx; rw [if_pos h0,List.getElem?_map,h2]; rfl
    have := op_storeOf (R := rHole R k) (R2 := rVal) (xs := xs.map fun x => (x,none)) (ys := holeL xs i q) (v := v) (i := i) (off := k) (u0 := (u,none)) (u := (u,some q)) (u2 := q) (e := e) (d := d) (ty := ty) (pos := pos) (af := af) (g := g)
      hz hp (hx.weak fun _ _ _ h => ⟨h,hu⟩) hm (hole_set h) hk (by show (R.cs u).set k (tvs q) = splice (R.cs u) k [tvs q]; exact set_splice (by rw [R.len]; omega))
    rw [own_holes] at this
    exact this.useMore (fun A hA => by cases hA)
theorem op_indexH {e' : TypeId} {j : IntKind} (ht : P.underlying t = some (.slice e)) (hz : TOk P e R bytes z) (hx : Fct Γ x (tv v)) (hi : Fct Γ y (tv (.int j i))) (h : idx xs i = some u) :
    OpJ P ⟨d,.indexAddr t x y,ty,pos,af,g⟩ Γ [own (rHole R k) e' (holeL xs i q) v] [] (fun _ => []) (fun _ => tv (elemP v (i.toNat * R.n))) := op_indexOi (R := rHole R k) ht (tokH hz) hx hi (hole_at h)
theorem op_fieldH {s : TypeId} {f off m : Nat} (hf : FieldAt P s f off) (hp : Fct Γ x (tv (elemP v m))) (h : idx xs i = some u) : OpJ P ⟨d,.fieldAddr s x f,ty,pos,af,g⟩ Γ [own (rHole R k) e (holeL xs i q) v] [] (fun _ => []) (fun _ => tv (padd (elemP v m) off)) :=
  op_fieldO (R := rHole R k) hf hp (idx_ne (hole_at h))
theorem op_loadH (hz : TOk P t rVal bytes z) (hp : Fct Γ x (tv (padd (elemP v (i.toNat * R.n)) k))) (h : idx xs i = some u) (hk : k + 1 ≤ R.n) :
    OpJ P ⟨d,.load t x,ty,pos,af,g⟩ Γ [own (rHole R k) e (holeL xs i q) v] [] (fun _ => []) (fun _ => tv q) :=
  op_weak (op_loadOf (R := rHole R k) (R2 := rVal) (f := q) (off := k) hz hp (hole_at h) (by
    show [tvs q] = (((R.cs u).set k (tvs q)).drop k).take 1
    have hl : k < (R.cs u).length := by rw [R.len]; omega
    rw [List.drop_eq_getElem_cons (by simpa using hl)]
    simp)) (fun _ _ _ _ h => h.1)
end
section
variable {M : Fr} {w0 : World} {n : Nat} {Γ : List (Nat × Ty)} {As : List Atom} {a : Act} {w : World} {β : Type} {R2 : Rep β} {ys : List β} {e2 : TypeId}
/-- What an element held as owned is only read from now on. -/
theorem St.closeH {u' : α} (hi : idx xs i = some u) (h : St M w0 n Γ (Sim.own R2 e2 ys q :: Sim.own (rHole R k) e (holeL xs i q) v :: As) a w) (hk : k + 1 ≤ R.n) (hu : R.cs u' = (R.cs u).set k (tsl R2 ys)) :
    St M w0 n Γ (Sim.own R e (xs.set i.toNat u') v :: As) a w := by
  obtain ⟨h0,h1,h2⟩ := idx_bound hi
  have hf : ∀ j,fps (Sim.own R e (xs.set i.toNat u') v :: As) j → fps (Sim.own R2 e2 ys q :: Sim.own (rHole R k) e (holeL xs i q) v :: As) j := by
    rintro j ⟨A,hA,hj⟩
    rcases List.mem_cons.1 hA with rfl | hA
    · exact ⟨Sim.own (rHole R k) e (holeL xs i q) v,by simp,hj⟩
    · exact ⟨A,by simp [hA],hj⟩
  have hfree : ∀ j,free (hold M.m (Sim.own R2 e2 ys q :: Sim.own (rHole R k) e (holeL xs i q) v :: As)) w j → free (hold M.m (Sim.own R e (xs.set i.toNat u') v :: As)) w j := fun j hj => ⟨hj.1,fun hm => hj.2 (hm.imp id (hf j))⟩
  have hown := h.own (Sim.own R2 e2 ys q) (by simp)
  have hbig := h.own (Sim.own (rHole R k) e (holeL xs i q) v) (by simp)
  have hap := List.pairwise_cons.1 h.apart
  have hfp : ∀ j,(Sim.own R2 e2 ys q).fp j → free (hold M.m (Sim.own R e (xs.set i.toNat u') v :: As)) w j := by
    intro j hj
    have hfr := h.fresh _ (List.mem_cons_self) j hj
    refine ⟨hfr.2,?_⟩
    rintro (hm | ⟨A,hA,hkA⟩)
    · have := h.m0 j hm
      rcases hfr.1 with hb | hb
      · exact this.2 hb
      · omega
    · rcases List.mem_cons.1 hA with rfl | hA
      · exact hap.1 (Sim.own (rHole R k) e (holeL xs i q) v) (by simp) j hj hkA
      · exact hap.1 A (by simp [hA]) j hj hkA
  have hsl : (tsl R2 ys).ok (free (hold M.m (Sim.own R e (xs.set i.toNat u') v :: As)) w) w q :=
    ArgOk.own (x := .tmp 0) (Γ := [(0,tv q)]) (U := [Sim.own R2 e2 ys q]) (R := R2) (e := e2) (xs := ys) (v := q) (Fct.t 0 rfl) (by simp) _ _ w ⟨#[q],[]⟩ hfree (fun A hA => by simp at hA; subst hA; exact ⟨hown,hfp⟩) (fun p hp _ => by simp at hp; subst hp; rfl)
  have hlu : (R.cs u).length = R.n := R.len u
  have hcell : ∀ j T,((xs.set i.toNat u').flatMap R.cs)[j]? = some T → (j = i.toNat * R.n + k ∧ T = tsl R2 ys ∧ ((holeL xs i q).flatMap (rHole R k).cs)[j]? = some (tvs q)) ∨ ((holeL xs i q).flatMap (rHole R k).cs)[j]? = some T := by
    intro j T hT
    have hfl : (xs.flatMap R.cs).length = xs.length * R.n := flatMap_len R xs
    have hfl2 : ((xs.map fun x => (x,(none : Option Value))).flatMap (rHole R k).cs) = xs.flatMap R.cs := by rw [List.flatMap_map]; rfl
    have hin : i.toNat * R.n + R.n ≤ xs.length * R.n := by
      have : (i.toNat + 1) * R.n ≤ xs.length * R.n := Nat.mul_le_mul_right _ h1
      rw [Nat.add_mul] at this; omega
    have e1 := flatMap_set (rHole R k) (xs.map fun x => (x,(none : Option Value))) i.toNat (u,some q) (by simpa using h1)
    rw [hfl2] at e1
    have e1' : ((holeL xs i q).flatMap (rHole R k).cs) = splice (xs.flatMap R.cs) (i.toNat * R.n) ((R.cs u).set k (tvs q)) := by rw [holeL_eq hi]; exact e1
    rw [flatMap_set R xs i.toNat u' h1,hu,splice_get _ _ _ _ (by rw [List.length_set]; omega),List.length_set,hlu] at hT
    rw [e1',splice_get _ _ _ _ (by rw [List.length_set]; omega),List.length_set,hlu]
    by_cases hj : i.toNat * R.n ≤ j ∧ j < i.toNat * R.n + R.n
    · rw [if_pos hj] at hT ⊢
      by_cases hjk : k = j - i.toNat * R.n
      · left
        refine ⟨by omega,?_,?_⟩
        · rw [← hjk,List.getElem?_set_self (by omega)] at hT
          exact (Option.some.inj hT).symm
        · rw [← hjk,List.getElem?_set_self (by omega)]
      · right
        rw [List.getElem?_set_ne hjk] at hT ⊢
        exact hT
    · rw [if_neg hj] at hT ⊢
      exact .inr hT
  refine ⟨h.size,h.defers,h.grow,h.m0,?_,?_,?_,fun p hp => p.2.keep hfree (fun _ _ => rfl) (h.slots p hp)⟩
  · intro A hA
    rcases List.mem_cons.1 hA with rfl | hA
    · obtain ⟨us,ho,hc⟩ := hbig
      have hlen : (holeL xs i q).length = (xs.set i.toNat u').length := by rw [hole_len hi,List.length_set]
      rw [hlen] at ho
      refine ⟨us,ho,?_,fun j T c hT hu' => ?_⟩
      · rw [hc.1,flatMap_len,flatMap_len,hlen]; rfl
      · rcases hcell j T hT with ⟨_,rfl,hq⟩ | hq
        · have hcq : c = q := (hc.2 j _ c hq hu').1
          rw [hcq]; exact hsl
        · exact T.keep hfree (fun _ _ => rfl) (hc.2 j T c hq hu')
    · exact A.keep hfree (fun _ _ => rfl) (fun _ _ => rfl) (h.own A (by simp [hA]))
  · intro A hA j hj
    rcases List.mem_cons.1 hA with rfl | hA
    · exact h.fresh (Sim.own (rHole R k) e (holeL xs i q) v) (by simp) j hj
    · exact h.fresh A (by simp [hA]) j hj
  · have h2 := List.pairwise_cons.1 hap.2
    exact List.pairwise_cons.2 ⟨fun B hB j hj => h2.1 B hB j hj,h2.2⟩
end
end

end Go.Sim

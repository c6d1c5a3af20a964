/- The logic's eighth part: partial functions, the steps of a region's derivation, tests, loops, entering and leaving a function. No condition. -/
import Derived.Test.YthdfmpocknmleaaGreatDoorSimG
namespace Go.Sim

/-! Partial functions by iteration -/

section
variable {σ ρ : Type}
def iter (body : σ → Option (σ ⊕ ρ)) : Nat → σ → Option ρ
  | 0, _ => none
  | n + 1, s => match body s with
    | none => none
    | some (.inl s') => iter body n s'
    | some (.inr r) => some r

theorem iter_det (body : σ → Option (σ ⊕ ρ)) : ∀ (n m : Nat) (s : σ) (r q : ρ), iter body n s = some r → iter body m s = some q → r = q := by
  intro n
  induction n with
  | zero => intro m s r q h; cases h
  | succ n ih =>
    intro m s r q h k
    cases m with
    | zero => cases k
    | succ m =>
      simp only [iter] at h k
      cases hb : body s with
      | none => rw [hb] at h; cases h
      | some o =>
        rw [hb] at h k
        cases o with
        | inl s' => exact ih m s' r q h k
        | inr r' => simp only [Option.some.injEq] at h k; rw [← h, ← k]

open Classical in
noncomputable def tailrec (body : σ → Option (σ ⊕ ρ)) (s : σ) : Option ρ := if h : ∃ r n, iter body n s = some r then some h.choose else none

theorem tailrec_some {body : σ → Option (σ ⊕ ρ)} {s : σ} {r : ρ} : tailrec body s = some r ↔ ∃ n, iter body n s = some r := by
  unfold tailrec
  constructor
  · intro h
    split at h
    · rename_i hx
      simp only [Option.some.injEq] at h
      rw [← h]; exact hx.choose_spec
    · cases h
  · rintro ⟨n, hn⟩
    have hx : ∃ r n, iter body n s = some r := ⟨r, n, hn⟩
    rw [dif_pos hx]
    obtain ⟨m, hm⟩ := hx.choose_spec
    exact congrArg some (iter_det body m n s _ _ hm hn)

theorem tailrec_eq (body : σ → Option (σ ⊕ ρ)) (s : σ) : tailrec body s = match body s with | none => none | some (.inl s') => tailrec body s' | some (.inr r) => some r := by
  cases hb : body s with
  | none =>
    simp only
    cases ht : tailrec body s with
    | none => rfl
    | some r =>
      obtain ⟨n, hn⟩ := tailrec_some.1 ht
      cases n with
      | zero => cases hn
      | succ n => simp [iter, hb] at hn
  | some o =>
    cases o with
    | inr r => exact tailrec_some.2 ⟨1, by simp [iter, hb]⟩
    | inl s' =>
      simp only
      cases ht : tailrec body s' with
      | some r =>
        obtain ⟨n, hn⟩ := tailrec_some.1 ht
        exact tailrec_some.2 ⟨n + 1, by simp [iter, hb, hn]⟩
      | none =>
        cases hs : tailrec body s with
        | none => rfl
        | some r =>
          obtain ⟨n, hn⟩ := tailrec_some.1 hs
          cases n with
          | zero => cases hn
          | succ n =>
            simp only [iter, hb] at hn
            rw [tailrec_some.2 ⟨n, hn⟩] at ht; cases ht
end

theorem bind_some {α β : Type} {x : Option α} {f : α → Option β} {r : β} (h : x.bind f = some r) : ∃ a, x = some a ∧ f a = some r := by
  cases x with
  | none => cases h
  | some a => exact ⟨a, rfl, h⟩
theorem ite_t {α : Type} {b : Bool} {x y : Option α} {r : α} (hb : b = true) (h : (if b = true then x else y) = some r) : x = some r := by rw [if_pos hb] at h; exact h
theorem ite_f {α : Type} {b : Bool} {x y : Option α} {r : α} (hb : b = false) (h : (if b = true then x else y) = some r) : y = some r := by rw [hb] at h; exact h
def opt {α : Type} (c : Bool) (x : Option α) (dflt : α) : Option α := if c = true then x else some dflt
theorem opt_t {α : Type} {c : Bool} {x : Option α} {dflt r : α} (h : opt c x dflt = some r) (hc : c = true) : x = some r := by unfold opt at h; rw [if_pos hc] at h; exact h

/-! The steps of a region's derivation -/

@[reducible] def v0 (A : Atom) : Ver := ⟨[], fun _ => A⟩
@[reducible] def v1 (i : Nat) (f : Value → Atom) : Ver := ⟨[i], fun l => f (l.getD 0 undef)⟩
@[reducible] def v2 (i j : Nat) (f : Value → Value → Atom) : Ver := ⟨[i, j], fun l => f (l.getD 0 undef) (l.getD 1 undef)⟩
@[reducible] def v3 (i j k : Nat) (f : Value → Value → Value → Atom) : Ver := ⟨[i, j, k], fun l => f (l.getD 0 undef) (l.getD 1 undef) (l.getD 2 undef)⟩

section
variable {P : Program} {ops : List Oper} {V : List Ver} {new : Nat → Value} {i : Nat} {Γ : List (Nat × Ty)} {o : Oper} {os : List Oper} {is : List Info}

/-- Any operation. -/
theorem Run.x {U E : List Atom} {N : Value → List Atom} {T' : Value → Ty} {Tn : Ty} (T : TyN) (us es ms : List Nat) (hU : us.map (fun u => ver V u new) = U) (hE : es.map (fun u => ver V u new) = E) (hN : (fun x => ms.map fun u => ver V u (upd new i x)) = N)
    (hT : (fun x => T.ty (upd new i x)) = T') (hTn : T.ty new = Tn) (hg : o.guard = none) (h : OpJ P o Γ U E N T') (hs : Run P ops V new (i + 1) (addD o.dst Tn Γ) os is) : Run P ops V new i Γ (o :: os) (⟨T, us, es, ms⟩ :: is) :=
  .step (.plain hg (by subst hU; subst hE; subst hN; subst hT; exact h)) (by subst hTn; exact hs)
theorem Run.p {T : Ty} (hg : o.guard = none) (h : OpJ P o Γ [] [] (fun _ => []) (fun _ => T)) (hs : Run P ops V new (i + 1) (addD o.dst T Γ) os is) : Run P ops V new i Γ (o :: os) (⟨⟨[], fun _ => T⟩, [], [], []⟩ :: is) :=
  .step (.plain hg h) hs
theorem Run.q {d : Option Tmp} {ty : TypeId} {pos : String} {af : Array Edge} {t : Nat} {T : Ty} (k : Nat) (h : Γ[k]? = some (t, T)) (hs : Run P ops V new (i + 1) (addD d T Γ) os is) : Run P ops V new i Γ (⟨d, .move (.tmp t), ty, pos, af, none⟩ :: os) (⟨⟨[], fun _ => T⟩, [], [], []⟩ :: is) :=
  .p rfl (op_move (.t k h)) hs
theorem Run.u {T : Ty} {U : List Atom} (us : List Nat) (hU : us.map (fun u => ver V u new) = U) (hg : o.guard = none) (h : OpJ P o Γ U [] (fun _ => []) (fun _ => T)) (hs : Run P ops V new (i + 1) (addD o.dst T Γ) os is) :
    Run P ops V new i Γ (o :: os) (⟨⟨[], fun _ => T⟩, us, [], []⟩ :: is) :=
  .step (.plain hg (by subst hU; exact h)) hs
theorem Run.ud {f : Value → Ty} {U : List Atom} (j : Nat) (hj : Nat.beq j i = false) (us : List Nat) (hU : us.map (fun u => ver V u new) = U) (hg : o.guard = none) (h : OpJ P o Γ U [] (fun _ => []) (fun _ => f (new j))) (hs : Run P ops V new (i + 1) (addD o.dst (f (new j)) Γ) os is) :
    Run P ops V new i Γ (o :: os) (⟨⟨[j], fun l => f (l.getD 0 undef)⟩, us, [], []⟩ :: is) :=
  .step (.plain hg (by
    have e : (fun x => TyN.ty (upd new i x) ⟨[j], fun l => f (l.getD 0 undef)⟩) = fun _ => f (new j) := by
      funext x
      show f (upd new i x j) = _
      rw [upd_other (Nat.ne_of_beq_eq_false hj)]
    subst hU; rw [e]; exact h)) hs
theorem Run.e {f : Value → Ty} {U E : List Atom} {N : Value → List Atom} (us es ms : List Nat) (hU : us.map (fun u => ver V u new) = U) (hE : es.map (fun u => ver V u new) = E) (hN : (fun x => ms.map fun u => ver V u (upd new i x)) = N) (hg : o.guard = none) (h : OpJ P o Γ U E N f)
    (hs : Run P ops V new (i + 1) (addD o.dst (f (new i)) Γ) os is) : Run P ops V new i Γ (o :: os) (⟨⟨[i], fun l => f (l.getD 0 undef)⟩, us, es, ms⟩ :: is) :=
  .step (.plain hg (by
    have e : (fun x => TyN.ty (upd new i x) ⟨[i], fun l => f (l.getD 0 undef)⟩) = f := by
      funext x
      show f (upd new i x i) = _
      rw [upd_same]
    subst hU; subst hE; subst hN; rw [e]; exact h)) hs
theorem Run.m {f : Value → Ty} {U : List Atom} {N : Value → List Atom} (us ms : List Nat) (hU : us.map (fun u => ver V u new) = U) (hN : (fun x => ms.map fun u => ver V u (upd new i x)) = N) (hg : o.guard = none) (h : OpJ P o Γ U [] N f)
    (hs : Run P ops V new (i + 1) (addD o.dst (f (new i)) Γ) os is) : Run P ops V new i Γ (o :: os) (⟨⟨[i], fun l => f (l.getD 0 undef)⟩, us, [], ms⟩ :: is) := Run.e us [] ms hU rfl hN hg h hs
theorem Run.g {T : Ty} {g dg : Nat} {want c : Bool} (hg : o.guard = some (g, want)) (hd : (ops[g]?).bind (·.dst) = some dg) (hc : Grd Γ dg want c) (h : c = true → OpJ P o Γ [] [] (fun _ => []) (fun _ => T))
    (hs : Run P ops V new (i + 1) (addD o.dst (tcond c T) Γ) os is) : Run P ops V new i Γ (o :: os) (⟨⟨[], fun _ => tcond c T⟩, [], [], []⟩ :: is) :=
  .step (.guard g want dg c T hg hd hc rfl rfl rfl (by simp) h) hs
theorem Run.gu {T : Ty} {U : List Atom} {g dg : Nat} {want c : Bool} (us : List Nat) (hU : us.map (fun u => ver V u new) = U) (hg : o.guard = some (g, want)) (hd : (ops[g]?).bind (·.dst) = some dg) (hc : Grd Γ dg want c) (h : c = true → OpJ P o Γ U [] (fun _ => []) (fun _ => T))
    (hs : Run P ops V new (i + 1) (addD o.dst (tcond c T) Γ) os is) : Run P ops V new i Γ (o :: os) (⟨⟨[], fun _ => tcond c T⟩, us, [], []⟩ :: is) :=
  .step (.guard g want dg c T hg hd hc rfl rfl rfl (by simp) (by subst hU; exact h)) hs
/-- A guarded operation that takes and makes: where the guard holds it back, all stays. -/
theorem Run.ge {f : Value → Ty} {U E : List Atom} {N : Bool → Value → List Atom} {g dg : Nat} {want c : Bool} (us es ms : List Nat) (hU : us.map (fun u => ver V u new) = U) (hE : es.map (fun u => ver V u new) = E) (hN : (fun x => ms.map fun u => ver V u (upd new i x)) = N c)
    (hg : o.guard = some (g, want)) (hd : (ops[g]?).bind (·.dst) = some dg) (hc : Grd Γ dg want c) (h : c = true → OpJ P o Γ U E (N true) f) (h0 : N false undef = E) (hs : Run P ops V new (i + 1) (addD o.dst (tcond c (f (new i))) Γ) os is) :
    Run P ops V new i Γ (o :: os) (⟨⟨[i], fun l => tcond c (f (l.getD 0 undef))⟩, us, es, ms⟩ :: is) :=
  .step (.guardE g want dg c hg hd hc (fun hct => by
      have e : (fun x => TyN.ty (upd new i x) ⟨[i], fun l => tcond c (f (l.getD 0 undef))⟩) = fun x => tcond c (f x) := by
        funext x
        show tcond c (f (upd new i x i)) = _
        rw [upd_same]
      rw [e]
      simp only [hU, hE, hN]
      intro M w a h1 h2 h3 h4 h5 h6
      have := h hct M w a h1 h2 h3 h4 h5 h6
      rw [hct]
      refine this.mono ?_
      rintro v w' ⟨x, hs, hm, ht⟩
      exact ⟨x, hs, hm, fun _ => ht, fun hf => by cases hf⟩) (fun hcf => by
      have e1 : (ms.map fun u => ver V u (upd new i undef)) = N c undef := congrFun hN undef
      refine ⟨?_, ?_⟩
      · show (ms.map fun u => ver V u (upd new i undef)) = es.map fun u => ver V u new
        rw [e1, hE, hcf, h0]
      · intro F w
        show (tcond c (f (upd new i undef i))).ok F w undef
        rw [hcf]
        exact ⟨fun hf => (by cases hf), fun _ => rfl⟩)) hs
end

def verA (As : List Atom) (Ns : List Ver) : List Ver := As.map v0 ++ Ns
theorem ver_init (As : List Atom) (Ns : List Ver) (u : Nat) (A : Atom) (h : As[u]? = some A) (x : Nat → Value) : ver (verA As Ns) u x = A := by
  have hu : u < As.length := (List.getElem?_eq_some_iff.1 h).1
  have h' : As[u] = A := (List.getElem?_eq_some_iff.1 h).2
  simp [ver, verA, List.getElem?_append_left, hu, h']

/-- A region, by its derivation: Ns are the atoms that it makes. -/
theorem wp_reg {P : Program} {ops : List Oper} {M : Fr} {w0 : World} {n : Nat} {Γ : List (Nat × Ty)} {As : List Atom} {a : Act} {w : World} {id : Nat} {draw : Bool} {Q : Exit → Act → World → Prop} {is : List Info} (hm : P.follows .mixedOrders = true) (Ns : List Ver)
    (hst : St M w0 n Γ As a w) (hrun : ∀ new, Run P ops (verA As Ns) new 0 Γ ops is) (hchk : chk ops is ((verA As Ns).map (·.ds)) (Γ.map (·.1)) As.length (verA As Ns).length n = true)
    (hQ : ∀ new a' w', St M w0 n (outG ops is Γ new) (outAs (verA As Ns) is new) a' w' → Q .normal a' w') : (Code.region id ops.toArray draw).wp P Q a w :=
  wp_region_run _ is hm hst hrun (fun u A h x => ver_init As Ns u A h x) hchk hQ

theorem wr {P : Program} {ops : List Oper} {M : Fr} {w0 : World} {n : Nat} {Γ : List (Nat × Ty)} {As : List Atom} {a : Act} {w : World} {id : Nat} {draw : Bool} {Q : Exit → Act → World → Prop} {is : List Info} (hm : P.follows .mixedOrders = true) (Ns : List Ver)
    (hst : St M w0 n Γ As a w) (hrun : ∀ new, Run P ops (verA As Ns) new 0 Γ ops is) (hQ : ∀ new a' w', St M w0 n (outG ops is Γ new) (outAs (verA As Ns) is new) a' w' → Q .normal a' w')
    (hchk : chk ops is ((verA As Ns).map (·.ds)) (Γ.map (·.1)) As.length (verA As Ns).length n = true := by kernel_rfl) : (Code.region id ops.toArray draw).wp P Q a w := wp_reg hm Ns hst hrun hchk hQ
theorem sr {P : Program} {ops : List Oper} {M : Fr} {w0 : World} {n : Nat} {Γ : List (Nat × Ty)} {As : List Atom} {a : Act} {w : World} {id : Nat} {draw : Bool} {Q : Exit → Act → World → Prop} {is : List Info} {c : Code} (hm : P.follows .mixedOrders = true) (Ns : List Ver)
    (hst : St M w0 n Γ As a w) (hrun : ∀ new, Run P ops (verA As Ns) new 0 Γ ops is) (hQ : ∀ new a' w', St M w0 n (outG ops is Γ new) (outAs (verA As Ns) is new) a' w' → c.wp P Q a' w')
    (hchk : chk ops is ((verA As Ns).map (·.ds)) (Γ.map (·.1)) As.length (verA As Ns).length n = true := by kernel_rfl) : (Code.seq (Code.region id ops.toArray draw) c).wp P Q a w := wp_seq (wp_reg hm Ns hst hrun hchk hQ)
section
variable {P : Program} {s : Nat} {T : Ty} {Γ : List (Nat × Ty)} {e0 e1 e2 e3 e4 e5 e6 e7 e8 e9 e10 e11 e12 e13 e14 e15 e16 e17 e18 e19 e20 e21 e22 e23 e24 e25 e26 e27 e28 e29 : Nat × Ty}
theorem z0 : Fct ((s, T) :: Γ) (.tmp s) T := .t 0 rfl
theorem z1 : Fct (e0 :: (s, T) :: Γ) (.tmp s) T := .t 1 rfl
theorem z2 : Fct (e0 :: e1 :: (s, T) :: Γ) (.tmp s) T := .t 2 rfl
theorem z3 : Fct (e0 :: e1 :: e2 :: (s, T) :: Γ) (.tmp s) T := .t 3 rfl
theorem z4 : Fct (e0 :: e1 :: e2 :: e3 :: (s, T) :: Γ) (.tmp s) T := .t 4 rfl
theorem z5 : Fct (e0 :: e1 :: e2 :: e3 :: e4 :: (s, T) :: Γ) (.tmp s) T := .t 5 rfl
theorem z6 : Fct (e0 :: e1 :: e2 :: e3 :: e4 :: e5 :: (s, T) :: Γ) (.tmp s) T := .t 6 rfl
theorem z7 : Fct (e0 :: e1 :: e2 :: e3 :: e4 :: e5 :: e6 :: (s, T) :: Γ) (.tmp s) T := .t 7 rfl
theorem z8 : Fct (e0 :: e1 :: e2 :: e3 :: e4 :: e5 :: e6 :: e7 :: (s, T) :: Γ) (.tmp s) T := .t 8 rfl
theorem z9 : Fct (e0 :: e1 :: e2 :: e3 :: e4 :: e5 :: e6 :: e7 :: e8 :: (s, T) :: Γ) (.tmp s) T := .t 9 rfl
theorem z10 : Fct (e0 :: e1 :: e2 :: e3 :: e4 :: e5 :: e6 :: e7 :: e8 :: e9 :: (s, T) :: Γ) (.tmp s) T := .t 10 rfl
theorem z11 : Fct (e0 :: e1 :: e2 :: e3 :: e4 :: e5 :: e6 :: e7 :: e8 :: e9 :: e10 :: (s, T) :: Γ) (.tmp s) T := .t 11 rfl
theorem z12 : Fct (e0 :: e1 :: e2 :: e3 :: e4 :: e5 :: e6 :: e7 :: e8 :: e9 :: e10 :: e11 :: (s, T) :: Γ) (.tmp s) T := .t 12 rfl
theorem z13 : Fct (e0 :: e1 :: e2 :: e3 :: e4 :: e5 :: e6 :: e7 :: e8 :: e9 :: e10 :: e11 :: e12 :: (s, T) :: Γ) (.tmp s) T := .t 13 rfl
theorem z14 : Fct (e0 :: e1 :: e2 :: e3 :: e4 :: e5 :: e6 :: e7 :: e8 :: e9 :: e10 :: e11 :: e12 :: e13 :: (s, T) :: Γ) (.tmp s) T := .t 14 rfl
theorem z15 : Fct (e0 :: e1 :: e2 :: e3 :: e4 :: e5 :: e6 :: e7 :: e8 :: e9 :: e10 :: e11 :: e12 :: e13 :: e14 :: (s, T) :: Γ) (.tmp s) T := .t 15 rfl
theorem z16 : Fct (e0 :: e1 :: e2 :: e3 :: e4 :: e5 :: e6 :: e7 :: e8 :: e9 :: e10 :: e11 :: e12 :: e13 :: e14 :: e15 :: (s, T) :: Γ) (.tmp s) T := .t 16 rfl
theorem z17 : Fct (e0 :: e1 :: e2 :: e3 :: e4 :: e5 :: e6 :: e7 :: e8 :: e9 :: e10 :: e11 :: e12 :: e13 :: e14 :: e15 :: e16 :: (s, T) :: Γ) (.tmp s) T := .t 17 rfl
theorem z18 : Fct (e0 :: e1 :: e2 :: e3 :: e4 :: e5 :: e6 :: e7 :: e8 :: e9 :: e10 :: e11 :: e12 :: e13 :: e14 :: e15 :: e16 :: e17 :: (s, T) :: Γ) (.tmp s) T := .t 18 rfl
theorem z19 : Fct (e0 :: e1 :: e2 :: e3 :: e4 :: e5 :: e6 :: e7 :: e8 :: e9 :: e10 :: e11 :: e12 :: e13 :: e14 :: e15 :: e16 :: e17 :: e18 :: (s, T) :: Γ) (.tmp s) T := .t 19 rfl
theorem z20 : Fct (e0 :: e1 :: e2 :: e3 :: e4 :: e5 :: e6 :: e7 :: e8 :: e9 :: e10 :: e11 :: e12 :: e13 :: e14 :: e15 :: e16 :: e17 :: e18 :: e19 :: (s, T) :: Γ) (.tmp s) T := .t 20 rfl
theorem z21 : Fct (e0 :: e1 :: e2 :: e3 :: e4 :: e5 :: e6 :: e7 :: e8 :: e9 :: e10 :: e11 :: e12 :: e13 :: e14 :: e15 :: e16 :: e17 :: e18 :: e19 :: e20 :: (s, T) :: Γ) (.tmp s) T := .t 21 rfl
theorem z22 : Fct (e0 :: e1 :: e2 :: e3 :: e4 :: e5 :: e6 :: e7 :: e8 :: e9 :: e10 :: e11 :: e12 :: e13 :: e14 :: e15 :: e16 :: e17 :: e18 :: e19 :: e20 :: e21 :: (s, T) :: Γ) (.tmp s) T := .t 22 rfl
theorem z23 : Fct (e0 :: e1 :: e2 :: e3 :: e4 :: e5 :: e6 :: e7 :: e8 :: e9 :: e10 :: e11 :: e12 :: e13 :: e14 :: e15 :: e16 :: e17 :: e18 :: e19 :: e20 :: e21 :: e22 :: (s, T) :: Γ) (.tmp s) T := .t 23 rfl
theorem z24 : Fct (e0 :: e1 :: e2 :: e3 :: e4 :: e5 :: e6 :: e7 :: e8 :: e9 :: e10 :: e11 :: e12 :: e13 :: e14 :: e15 :: e16 :: e17 :: e18 :: e19 :: e20 :: e21 :: e22 :: e23 :: (s, T) :: Γ) (.tmp s) T := .t 24 rfl
theorem z25 : Fct (e0 :: e1 :: e2 :: e3 :: e4 :: e5 :: e6 :: e7 :: e8 :: e9 :: e10 :: e11 :: e12 :: e13 :: e14 :: e15 :: e16 :: e17 :: e18 :: e19 :: e20 :: e21 :: e22 :: e23 :: e24 :: (s, T) :: Γ) (.tmp s) T := .t 25 rfl
theorem z27 : Fct (e0 :: e1 :: e2 :: e3 :: e4 :: e5 :: e6 :: e7 :: e8 :: e9 :: e10 :: e11 :: e12 :: e13 :: e14 :: e15 :: e16 :: e17 :: e18 :: e19 :: e20 :: e21 :: e22 :: e23 :: e24 :: e25 :: e26 :: (s, T) :: Γ) (.tmp s) T := .t 27 rfl
theorem z29 : Fct (e0 :: e1 :: e2 :: e3 :: e4 :: e5 :: e6 :: e7 :: e8 :: e9 :: e10 :: e11 :: e12 :: e13 :: e14 :: e15 :: e16 :: e17 :: e18 :: e19 :: e20 :: e21 :: e22 :: e23 :: e24 :: e25 :: e26 :: e27 :: e28 :: (s, T) :: Γ) (.tmp s) T := .t 29 rfl
theorem z30 : Fct (e0 :: e1 :: e2 :: e3 :: e4 :: e5 :: e6 :: e7 :: e8 :: e9 :: e10 :: e11 :: e12 :: e13 :: e14 :: e15 :: e16 :: e17 :: e18 :: e19 :: e20 :: e21 :: e22 :: e23 :: e24 :: e25 :: e26 :: e27 :: e28 :: e29 :: (s, T) :: Γ) (.tmp s) T := .t 30 rfl
end

/-! The state's own rules -/

section
variable {P : Program} {M : Fr} {M0 : Blk} {w0 : World} {n : Nat} {Γ : List (Nat × Ty)} {As : List Atom} {a : Act} {w : World}

theorem hold_free {M0 : Blk} {As Bs : List Atom} (h : ∀ k, fps Bs k → fps As k) : ∀ k, free (hold M0 As) w k → free (hold M0 Bs) w k := fun _ hk => ⟨hk.1, fun hm => hk.2 (hm.imp id (h _))⟩

theorem St.facts {Γ' : List (Nat × Ty)} (h : St M w0 n Γ As a w) (h' : ∀ p ∈ Γ', p ∈ Γ) : St M w0 n Γ' As a w :=
  ⟨h.size, h.defers, h.grow, h.m0, h.own, h.fresh, h.apart, fun p hp => h.slots p (h' p hp)⟩
def pickG (Γ : List (Nat × Ty)) (is : List Nat) : List (Nat × Ty) := is.filterMap fun i => Γ[i]?
/-- Some facts alone. -/
theorem St.pick (h : St M w0 n Γ As a w) (is : List Nat) : St M w0 n (pickG Γ is) As a w :=
  h.facts fun p hp => by
    obtain ⟨i, _, hi⟩ := List.mem_filterMap.1 hp
    exact List.mem_of_getElem? hi

theorem St.sub {Bs : List Atom} (h : St M w0 n Γ As a w) (hs : Bs.Sublist As) : St M w0 n Γ Bs a w := by
  have hf : ∀ k, fps Bs k → fps As k := fun k ⟨A, hA, hk⟩ => ⟨A, hs.subset hA, hk⟩
  exact ⟨h.size, h.defers, h.grow, h.m0, fun A hA => A.keep (hold_free hf) (fun _ _ => rfl) (fun _ _ => rfl) (h.own A (hs.subset hA)), fun A hA => h.fresh A (hs.subset hA), h.apart.sublist hs,
    fun p hp => p.2.keep (hold_free hf) (fun _ _ => rfl) (h.slots p hp)⟩

theorem St.perm {Bs : List Atom} (h : St M w0 n Γ As a w) (hp : As.Perm Bs) : St M w0 n Γ Bs a w := by
  have hf : ∀ k, fps Bs k → fps As k := fun k ⟨A, hA, hk⟩ => ⟨A, hp.mem_iff.2 hA, hk⟩
  exact ⟨h.size, h.defers, h.grow, h.m0, fun A hA => A.keep (hold_free hf) (fun _ _ => rfl) (fun _ _ => rfl) (h.own A (hp.mem_iff.2 hA)), fun A hA => h.fresh A (hp.mem_iff.2 hA), (hp.pairwise_iff (fun {x y} hxy k hk hx => hxy k hx hk)).1 h.apart,
    fun p hp' => p.2.keep (hold_free hf) (fun _ _ => rfl) (h.slots p hp')⟩

theorem St.add {s : Nat} {T U : Ty} (i : Nat) (h : St M w0 n Γ As a w) (hi : Γ[i]? = some (s, T)) (hw : ∀ F w v, T.ok F w v → U.ok F w v) : St M w0 n ((s, U) :: Γ) As a w :=
  ⟨h.size, h.defers, h.grow, h.m0, h.own, h.fresh, h.apart, fun p hp => by
    rcases List.mem_cons.1 hp with rfl | hp
    · exact hw _ _ _ (h.slots (s, T) (List.mem_of_getElem? hi))
    · exact h.slots p hp⟩

/-- An empty slice of the call's own. -/
theorem St.nil {α : Type} (R : Rep α) (e : TypeId) (h : St M w0 n Γ As a w) : St M w0 n Γ (Sim.own R e ([] : List α) (.slice none 0 0) :: As) a w := by
  have hf : ∀ k, fps (Sim.own R e ([] : List α) (.slice none 0 0) :: As) k → fps As k := by
    rintro k ⟨A, hA, hk⟩
    rcases List.mem_cons.1 hA with rfl | hA
    · cases hk
    · exact ⟨A, hA, hk⟩
  refine ⟨h.size, h.defers, h.grow, h.m0, ?_, ?_, ?_, fun p hp => p.2.keep (hold_free hf) (fun _ _ => rfl) (h.slots p hp)⟩
  · intro A hA
    rcases List.mem_cons.1 hA with rfl | hA
    · exact ⟨[], World.ownsRow_nil _ _ _ _, rfl, fun j T u hT => by simp at hT⟩
    · exact A.keep (hold_free hf) (fun _ _ => rfl) (fun _ _ => rfl) (h.own A hA)
  · intro A hA k hk
    rcases List.mem_cons.1 hA with rfl | hA
    · cases hk
    · exact h.fresh A hA k hk
  · refine List.pairwise_cons.2 ⟨fun B _ k hk => ?_, h.apart⟩
    cases hk

/-- A slice that the call owned is only read from now on. -/
theorem St.share {α : Type} {R : Rep α} {e : TypeId} {xs : List α} {v : Value} {s : Nat} (i : Nat) (h : St M w0 n Γ (Sim.own R e xs v :: As) a w) (hi : Γ[i]? = some (s, tv v)) : St M w0 n ((s, tsl R xs) :: Γ) As a w := by
  have hs := h.sub (List.sublist_cons_self (Sim.own R e xs v) As)
  refine ⟨hs.size, hs.defers, hs.grow, hs.m0, hs.own, hs.fresh, hs.apart, fun p hp => ?_⟩
  rcases List.mem_cons.1 hp with rfl | hp
  · have hv : get a s = v := h.slots (s, tv v) (List.mem_of_getElem? hi)
    have hok := h.own (Sim.own R e xs v) (by simp)
    have hfp : ∀ k, (Sim.own R e xs v).fp k → free (hold M.m As) w k := by
      intro k hk
      have hfr := h.fresh _ (by simp) k hk
      refine ⟨hfr.2, ?_⟩
      rintro (hm | ⟨A, hA, hkA⟩)
      · have := h.m0 k hm
        rcases hfr.1 with hb | hb
        · exact this.2 hb
        · omega
      · exact (List.pairwise_cons.1 h.apart).1 A hA k hk hkA
    have := ArgOk.own (x := .tmp s) (Γ := [(s, tv v)]) (U := [Sim.own R e xs v]) (R := R) (e := e) (xs := xs) (v := v) (Fct.t 0 rfl) (by simp) (free (hold M.m (Sim.own R e xs v :: As)) w) (free (hold M.m As) w) w a
      (hold_free (fun k ⟨A, hA, hk⟩ => ⟨A, by simp [hA], hk⟩)) (fun A hA => by simp at hA; subst hA; exact ⟨hok, hfp⟩) (fun p hp _ => by simp at hp; subst hp; exact hv)
    exact this
  · exact hs.slots p hp

theorem box_keep_row {Ts : List Ty} {q : Value} {F F' : Blk} {w : World} (h : (box Ts q).ok F w) (hF : ∀ k, F k → F' k) (hfp : ∀ k, (box Ts q).fp k → F' k) : (tptr Ts).ok F' w q := by
  obtain ⟨b, hq, hr⟩ := box_row h
  exact ⟨b, 0, hq, hfp b hq, fun j T hj => let ⟨u, hu, ht⟩ := hr j T hj; ⟨u, hu, T.keep hF (fun _ _ => rfl) ht⟩⟩
/-- A variable that the call owned is only read from now on. -/
theorem St.shareB {Ts : List Ty} {q : Value} {s : Nat} (i : Nat) (h : St M w0 n Γ (box Ts q :: As) a w) (hi : Γ[i]? = some (s, tv q)) : St M w0 n ((s, tand (tv q) (tptr Ts)) :: Γ) As a w := by
  have hs := h.sub (List.sublist_cons_self (box Ts q) As)
  refine ⟨hs.size, hs.defers, hs.grow, hs.m0, hs.own, hs.fresh, hs.apart, fun p hp => ?_⟩
  rcases List.mem_cons.1 hp with rfl | hp
  · have hv : get a s = q := h.slots (s, tv q) (List.mem_of_getElem? hi)
    refine ⟨hv, ?_⟩
    simp only [hv]
    refine box_keep_row (h.own (box Ts q) (by simp)) (hold_free (fun k ⟨A, hA, hk⟩ => ⟨A, by simp [hA], hk⟩)) (fun k hk => ?_)
    have hfr := h.fresh _ (by simp) k hk
    refine ⟨hfr.2, ?_⟩
    rintro (hm | ⟨A, hA, hkA⟩)
    · have := h.m0 k hm
      rcases hfr.1 with hb | hb
      · exact this.2 hb
      · omega
    · exact (List.pairwise_cons.1 h.apart).1 A hA k hk hkA
  · exact hs.slots p hp

/-! Control -/

theorem wp_test {s : Nat} {b : Bool} {x y : Code} {Q : Exit → Act → World → Prop} (i : Nat) (hst : St M w0 n Γ As a w) (hi : Γ[i]? = some (s, tv (.bool b))) (ht : b = true → x.wp P Q a w) (hf : b = false → y.wp P Q a w) : (Code.cond (.tmp s) x y).wp P Q a w := by
  have hv : a.eval (.tmp s) = .bool b := hst.slots (s, tv (.bool b)) (List.mem_of_getElem? hi)
  exact wp_cond_split hv ht hf

theorem wp_loop_rec {σ ρ : Type} {c : Code} {Q : Exit → Act → World → Prop} (body : σ → Option (σ ⊕ ρ)) (I : σ → Act → World → Prop) (out : ρ) (s0 : σ) (h : tailrec body s0 = some out) (h0 : I s0 a w)
    (round : ∀ s o a w, I s a w → body s = some o → (∀ r, o = .inr r → r = out) → c.wp P (Exit.then (fun a' w' => ∃ s', o = .inl s' ∧ I s' a' w') Q) a w) : (Code.loop c).wp P Q a w := by
  obtain ⟨n, hn⟩ := tailrec_some.1 h
  intro b k cs
  have key : ∀ n s a w, iter body n s = some out → I s a w → ∃ e a' w', Q e a' w' ∧ Arrives P (lone (b.at a (.code c :: .inLoop c :: k)) cs w) b k cs e a' w' := by
    intro n
    induction n with
    | zero => intro s a w h; cases h
    | succ n ih =>
      intro s a w h hI
      simp only [iter] at h
      cases hb : body s with
      | none => rw [hb] at h; cases h
      | some o =>
        rw [hb] at h
        obtain ⟨e, a₁, w₁, hq, harr⟩ := round s o a w hI hb (by
          rintro r rfl
          simpa using h) b (.inLoop c :: k) cs
        cases e with
        | normal =>
          obtain ⟨s', rfl, hI'⟩ := hq
          obtain ⟨e₂, a₂, w₂, hq₂, harr₂⟩ := ih s' a₁ w₁ h hI'
          exact ⟨e₂, a₂, w₂, hq₂, .of_steps (Steps.trans harr (.one step_inLoop)) harr₂⟩
        | exit id => exact ⟨_, a₁, w₁, hq, .pass (x := .inLoop c) rfl (fun _ _ => .inl (by simp)) harr⟩
        | goto l => exact ⟨_, a₁, w₁, hq, .pass (x := .inLoop c) rfl (fun _ _ => .inl (by simp)) harr⟩
        | ret => exact ⟨_, a₁, w₁, hq, .pass (x := .inLoop c) rfl (fun _ _ => .inl (by simp)) harr⟩
        | panic ch => exact ⟨_, a₁, w₁, hq, .pass (x := .inLoop c) rfl (fun _ _ => .inl (by simp)) harr⟩
        | outgrown => exact ⟨_, a₁, w₁, hq, .pass (x := .inLoop c) rfl (fun _ _ => .inl (by simp)) harr⟩
  obtain ⟨e, a', w', hq, harr⟩ := key n s0 a w hn h0
  exact ⟨e, a', w', hq, .of_steps (.one step_loop) harr⟩

/-! Entering and leaving -/

def Ret (P : Program) (fn : Func) (M : Blk) (E : List Atom) (w0 : World) (N : Value → List Atom) (T : Value → Ty) : Exit → Act → World → Prop :=
  bodyPost P fn (fun e w' => ∃ x v, e = .returned v ∧ Step (eatFp E) w0 w' ∧ Made M E (N x) w0 w' ∧ (T x).ok (free (next M E (N x)) w') w' v)

def ents (Ts : List Ty) : List (Nat × Ty) := Ts.zipIdx.map fun p => (p.2, p.1)

/-- What a call is given, as its place says it. -/
structure Placed (M0 : Blk) (E : List Atom) (M : Fr) : Prop where
  b : M.b = eatFp E
  m : ∀ k, M0 k ↔ M.m k ∨ eatFp E k
  d : ∀ k, M.m k → ¬ eatFp E k

theorem FnOk.enter {f : FuncId} {fn : Func} {c : Code} {Ts : List Ty} {E : List Atom} {N : Value → List Atom} {T : Value → Ty} (hf : P.funcs[f]? = some fn) (hb : fn.body = some c) (hn : fn.ntmps = n) (hl : Ts.length ≤ n)
    (h : ∀ M0 M w a, Placed M0 E M → St M w n (ents Ts) E a w → c.wp P (Ret P fn M0 E w N T) a w) : FnOk P f Ts E N T := by
  intro M0 w vs hM hE hap hc
  have hpl : Placed M0 E ⟨fun k => M0 k ∧ ¬ eatFp E k, eatFp E⟩ := by
    refine ⟨rfl, fun k => ⟨fun hk => ?_, ?_⟩, fun k hk => hk.2⟩
    · by_cases he : eatFp E k
      · exact .inr he
      · exact .inl ⟨hk, he⟩
    · rintro (hk | hk)
      · exact hk.1
      · exact given_fp hE k hk
  have hF : ∀ k, free M0 w k → free (hold (fun k => M0 k ∧ ¬ eatFp E k) E) w k := by
    rintro k ⟨h1, h2⟩
    refine ⟨h1, ?_⟩
    rintro (hm | hm)
    · exact h2 hm.1
    · exact h2 (given_fp hE k hm)
  refine calls_of_wp hf hb (h M0 _ w _ hpl ?_)
  have hvl := hc.1
  refine ⟨by simp [hn]; omega, rfl, Step.refl _ _, fun k hk => ⟨hM k hk.1, hk.2⟩, fun A hA => A.keep hF (fun _ _ => rfl) (fun _ _ => rfl) (hE A hA).1, fun A hA k hk => ⟨.inl ⟨A, hA, hk⟩, hM k ((hE A hA).2 k hk)⟩, hap, ?_⟩
  intro p hp
  obtain ⟨⟨T', i⟩, hmem, rfl⟩ := List.mem_map.1 hp
  obtain ⟨j, hj⟩ := List.mem_iff_getElem?.1 hmem
  rw [List.getElem?_zipIdx] at hj
  cases hT : Ts[j]? with
  | none => simp [hT] at hj
  | some T'' =>
    simp only [hT, Option.map_some, Option.some.injEq, Prod.mk.injEq] at hj
    obtain ⟨rfl, rfl⟩ := hj
    have hlt : j < vs.length := by rw [hvl]; exact (List.getElem?_eq_some_iff.1 hT).1
    have hget : get { tmps := vs.toArray ++ Array.replicate (fn.ntmps - vs.toArray.size) undef, defers := [] } (0 + j) = vs[j] := by
      unfold get
      simp [Array.getElem?_append, hlt]
    show T''.ok _ _ (get _ (0 + j))
    rw [hget]
    exact T''.keep hF (fun _ _ => rfl) (hc.2 j T'' vs[j] hT (List.getElem?_eq_getElem hlt))

inductive ResOk (P : Program) (Γ : List (Nat × Ty)) (As : List Atom) : List ResultVar → List Ty → Prop where
  | nil : ResOk P Γ As [] []
  | tmp {t : Nat} {T : Ty} {rs : List ResultVar} {Ts : List Ty} (h : Fct Γ (.tmp t) T) (hs : ResOk P Γ As rs Ts) : ResOk P Γ As (.tmp t :: rs) (T :: Ts)
  | cell {p : Nat} {t : TypeId} {q : Value} {α : Type} {R : Rep α} {u : α} {bytes : Nat} {z : Value} {Us : List Ty} {rs : List ResultVar} {Ts : List Ty} (hz : TOk P t R bytes z) (hp : Fct Γ (.tmp p) (tv q)) (i : Nat) (hA : As[i]? = some (box Us q)) (hU : R.cs u = Us.take (R.cs u).length)
      (hs : ResOk P Γ As rs Ts) : ResOk P Γ As (.cell p t :: rs) (R.ty u :: Ts)

def resTy : List Ty → Ty | [T] => T | Ts => ttup Ts

def resOf (tmps : Array Value) : ResultVar → Sem Value
  | .tmp t => pure (tmps.getD t undef)
  | .cell a t => do loadVar t (← asAddr (tmps.getD a undef))
theorem results_eq (fn : Func) (tmps : Array Value) : results fn tmps = (do let vs ← fn.results.mapM (resOf tmps); pure (if h : vs.size = 1 then vs[0] else .tuple vs)) := rfl

theorem res_run {rs : List ResultVar} {Ts : List Ty} (h : ResOk P Γ As rs Ts) (hst : St M w0 n Γ As a w) :
    ∃ vs, (rs.mapM (resOf a.tmps)).run P w = .ok vs w ∧ Cells Ts (free (hold M.m As) w) w vs := by
  have hfct : ∀ {t : Nat} {T : Ty}, Fct Γ (.tmp t) T → T.ok (free (hold M.m As) w) w (get a t) := fun h => h _ w a (fun p hp _ => hst.slots p hp)
  induction h with
  | nil => exact ⟨[], rfl, rfl, fun j T u h => by simp at h⟩
  | @tmp t T rs Ts h hs ih =>
    obtain ⟨vs, hr, hc⟩ := ih
    refine ⟨get a t :: vs, ?_, by simp [hc.1], fun j T' u hT hu => ?_⟩
    · rw [List.mapM_cons]
      simp only [resOf, Sem.run_bind, Sem.run_pure, Result.andThen_ok, hr]
      rfl
    · cases j with
      | zero => simp at hT hu; subst hT; subst hu; exact hfct h
      | succ j => exact hc.2 j T' u (by simpa using hT) (by simpa using hu)
  | @cell p t q α R u bytes z Us rs Ts hz hp i hA hU hs ih =>
    obtain ⟨vs, hr, hc⟩ := ih
    have hq : get a p = q := hfct hp
    obtain ⟨b, hqb, hrow⟩ := box_row (hst.own _ (List.mem_of_getElem? hA))
    obtain ⟨v, hrun, hty⟩ := run_loadAt hz (hrow.head hU)
    refine ⟨v :: vs, ?_, by simp [hc.1], fun j T' u' hT hu => ?_⟩
    · rw [List.mapM_cons]
      have e : a.tmps.getD p undef = .pointer (some ⟨b, 0, none⟩) := hq.trans hqb
      have e2 : (loadVar t ⟨b, 0, none⟩).run P w = .ok v w := by
        simpa [Instr.loadAt, Instr.sureAddr] using hrun
      have e3 : (asAddr (a.tmps.getD p undef)).run P w = .ok ⟨b, 0, none⟩ w := by rw [e]; rfl
      simp only [resOf, Sem.run_bind, Sem.run_pure, Result.andThen_ok, e3, e2]
      rw [hr]; rfl
    · cases j with
      | zero => simp at hT hu; subst hT; subst hu; exact hty
      | succ j => exact hc.2 j T' u' (by simpa using hT) (by simpa using hu)

theorem ret_st {fn : Func} {rs : List ResultVar} {Ts : List Ty} {E : List Atom} {N : Value → List Atom} {T : Value → Ty} (x : Value) (is : List Nat) (hpl : Placed M0 E M) (hst : St M w0 n Γ As a w) (hrs : fn.results = rs.toArray) (h : ResOk P Γ As rs Ts) (hd : distinct is = true)
    (hN : is.filterMap (fun i => As[i]?) = N x) (hT : T x = resTy Ts) : Ret P fn M0 E w0 N T .ret a w := by
  obtain ⟨vs, hrun, hc⟩ := res_run h hst
  have hmem : ∀ A, A ∈ N x → A ∈ As := by
    intro A hA
    rw [← hN] at hA
    obtain ⟨i, _, hi⟩ := List.mem_filterMap.1 hA
    exact List.mem_of_getElem? hi
  have hnext : ∀ k, free (hold M.m As) w k → free (next M0 E (N x)) w k := by
    rintro k ⟨h1, h2⟩
    refine ⟨h1, ?_⟩
    rintro (⟨hm, hne⟩ | ⟨A, hA, hk⟩)
    · rcases (hpl.m k).1 hm with hm | hm
      · exact h2 (.inl hm)
      · exact hne hm
    · exact h2 (.inr ⟨A, hmem A hA, hk⟩)
  have hmap : (results fn a.tmps).run P w = .ok (if h : vs.toArray.size = 1 then vs.toArray[0] else .tuple vs.toArray) w := by
    rw [results_eq, hrs, List.mapM_toArray]
    simp only [Sem.run_bind, Sem.run_map, hrun, Result.andThen_ok]
    rfl
  refine ⟨hst.defers, _, hmap, x, _, rfl, by rw [← hpl.b]; exact hst.grow, ⟨?_, fun A hA k hk => ?_, fun A hA => Atom.keep _ hnext (fun _ _ => rfl) (fun _ _ => rfl) (hst.own _ (hmem A hA))⟩, ?_⟩
  · rw [← hN]
    have hap := hst.apart
    unfold Apart at hap ⊢
    rw [List.pairwise_filterMap]
    refine (show is.Pairwise (· ≠ ·) from distinct_ok hd).imp ?_
    intro i j hij A hA B hB k hk hkB
    rw [List.pairwise_iff_getElem] at hap
    obtain ⟨hi, rfl⟩ := List.getElem?_eq_some_iff.1 hA
    obtain ⟨hj, rfl⟩ := List.getElem?_eq_some_iff.1 hB
    rcases Nat.lt_trichotomy i j with h | h | h
    · exact hap i j hi hj h k hk hkB
    · exact hij h
    · exact hap j i hj hi h k hkB hk
  · have := hst.fresh A (hmem A hA) k hk
    rw [hpl.b] at this
    exact this
  · rw [hT]
    have hl := hc.1
    by_cases h1 : vs.toArray.size = 1
    · rw [dif_pos h1]
      have h1' : vs.length = 1 := by simpa using h1
      obtain ⟨v, rfl⟩ := List.length_eq_one_iff.1 h1'
      obtain ⟨T', rfl⟩ := List.length_eq_one_iff.1 (hl.symm.trans h1')
      exact T'.keep hnext (fun _ _ => rfl) (hc.2 0 T' v rfl rfl)
    · rw [dif_neg h1]
      have h1' : vs.length ≠ 1 := by simpa using h1
      have e : resTy Ts = ttup Ts := by
        match Ts, hl with
        | [], _ => rfl
        | [T'], hl => exact (h1' (by simpa using hl)).elim
        | T1 :: T2 :: Ts, _ => rfl
      rw [e]
      exact ⟨vs, rfl, hc.keepE hnext (fun _ _ => rfl)⟩
end

end Go.Sim

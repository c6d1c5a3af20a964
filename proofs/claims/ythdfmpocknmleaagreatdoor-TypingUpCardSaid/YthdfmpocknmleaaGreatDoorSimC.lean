/- The logic's third part: the rule for a whole region, drawn or not. No condition. -/
import Derived.Test.YthdfmpocknmleaaGreatDoorSimB
namespace Go.Sim

section
variable {P : Program} {ops : List Oper} {V : List Ver} {is : List Info} {M : Fr} {w0 : World} {n k0 : Nat} {Γ : List (Nat × Ty)}

def avail (V : List Ver) (is : List Info) (k0 : Nat) (S : Nat → Bool) (u : Nat) : Prop :=
  u < V.length ∧ (u < k0 ∨ ∃ p, u ∈ mkOf is p ∧ S p = true) ∧ ∀ c, u ∈ eatOf is c → S c = false

def MS (V : List Ver) (is : List Info) (k0 : Nat) (M0 : Blk) (S : Nat → Bool) (new : Nat → Value) : Blk := fun k => M0 k ∨ ∃ u, avail V is k0 S u ∧ (ver V u new).fp k

structure Inv (ops : List Oper) (V : List Ver) (is : List Info) (M : Fr) (w0 : World) (n k0 : Nat) (Γ : List (Nat × Ty)) (new : Nat → Value) (S : Nat → Bool) (a : Act) (w : World) : Prop where
  size : a.tmps.size = n
  defers : a.defers = []
  grow : Step M.b w0 w
  m0 : ∀ k, M.m k → k < w0.heap.size ∧ ¬ M.b k
  down : Down ops S
  old : ∀ p ∈ Γ, (∀ j o, ops[j]? = some o → o.dst = some p.1 → S j = false) → p.2.ok (free (MS V is k0 M.m S new) w) w (get a p.1)
  nw : ∀ i o I d, ops[i]? = some o → is[i]? = some I → S i = true → o.dst = some d → (I.ty.ty new).ok (free (MS V is k0 M.m S new) w) w (get a d)
  own : ∀ u, avail V is k0 S u → (ver V u new).ok (free (MS V is k0 M.m S new) w) w
  fresh : ∀ u, avail V is k0 S u → ∀ k, (ver V u new).fp k → (M.b k ∨ w0.heap.size ≤ k) ∧ k < w.heap.size
  apart : ∀ u v, avail V is k0 S u → avail V is k0 S v → u ≠ v → ∀ k, (ver V u new).fp k → ¬ (ver V v new).fp k

theorem mem_of_eatOf {c u : Nat} (h : u ∈ eatOf is c) : ∃ I, is[c]? = some I ∧ u ∈ I.eat := by
  unfold eatOf at h
  cases hI : is[c]? with
  | none => simp [hI] at h
  | some I => exact ⟨I, rfl, by simpa [hI] using h⟩
theorem mem_of_mkOf {c u : Nat} (h : u ∈ mkOf is c) : ∃ I, is[c]? = some I ∧ u ∈ I.make := by
  unfold mkOf at h
  cases hI : is[c]? with
  | none => simp [hI] at h
  | some I => exact ⟨I, rfl, by simpa [hI] using h⟩

theorem distinct_ok : ∀ {l : List Nat}, distinct l = true → l.Nodup
  | [], _ => List.nodup_nil
  | x :: xs, h => by
    simp only [distinct, Bool.and_eq_true, Bool.not_eq_true', List.contains_eq_mem, decide_eq_false_iff_not] at h
    exact List.nodup_cons.2 ⟨h.1, distinct_ok h.2⟩

structure Vers (is : List Info) (ms : List Nat) (vd : List (List Nat)) (k0 nV : Nat) (i : Nat) (I : Info) : Prop where
  lt : ∀ u, u ∈ I.use ∨ u ∈ I.eat → u < nV
  made : ∀ u, u ∈ I.use ∨ u ∈ I.eat → u < k0 ∨ ∃ p, u ∈ mkOf is p ∧ bit ms i p = true
  alone : ∀ u, u ∈ I.use ∨ u ∈ I.eat → ∀ c, u ∈ eatOf is c → c = i ∨ bit ms c i = true
  make : ∀ u, u ∈ I.make → k0 ≤ u ∧ u < nV
  mk1 : ∀ u, u ∈ I.make → ∀ j, j < i → u ∉ mkOf is j
  vdep : ∀ u, u ∈ I.make → ∀ d, d ∈ vd.getD u [] → d = i ∨ bit ms i d = true
  eat1 : ∀ u, u ∈ I.eat → ∀ j, j < i → u ∉ eatOf is j
  eatu : ∀ u, u ∈ I.eat → u ∉ I.use
  dep : ∀ d, d ∈ I.ty.ds → d = i ∨ bit ms i d = true
  eatd : I.eat.Nodup
  maked : I.make.Nodup

theorem lt_of_eatOf {c u : Nat} (h : u ∈ eatOf is c) : c < is.length := by
  obtain ⟨I, hI, _⟩ := mem_of_eatOf h
  exact (List.getElem?_eq_some_iff.1 hI).1

theorem chkVers_ok {ms : List Nat} {vd : List (List Nat)} {nV : Nat} (h : chkVers is ms vd k0 nV = true) {i : Nat} {I : Info} (hI : is[i]? = some I) : Vers is ms vd k0 nV i I := by
  have hi : i < is.length := (List.getElem?_eq_some_iff.1 hI).1
  have := List.all_eq_true.1 h i (by simpa using hi)
  simp only [hI] at this
  simp only [Bool.and_eq_true] at this
  obtain ⟨⟨⟨⟨⟨h1, h2⟩, h3⟩, h4⟩, h5⟩, h6⟩ := this
  have g : ∀ u, u ∈ I.use ∨ u ∈ I.eat → (u < nV ∧ (u < k0 ∨ ∃ p, u ∈ mkOf is p ∧ bit ms i p = true)) ∧ ∀ c, u ∈ eatOf is c → c = i ∨ bit ms c i = true := by
    intro u hu
    have := List.all_eq_true.1 h1 u (by rcases hu with hu | hu <;> simp [hu])
    simp only [Bool.and_eq_true, decide_eq_true_eq, Bool.or_eq_true] at this
    refine ⟨⟨this.1.1, ?_⟩, fun c hc => ?_⟩
    · rcases this.1.2 with h | h
      · exact .inl h
      · obtain ⟨p, _, hp⟩ := List.any_eq_true.1 h
        simp only [Bool.and_eq_true, List.contains_eq_mem, decide_eq_true_eq] at hp
        exact .inr ⟨p, hp⟩
    · have := List.all_eq_true.1 this.2 c (by simpa using lt_of_eatOf hc)
      simpa [hc] using this
  have m : ∀ u, u ∈ I.make → ((k0 ≤ u ∧ u < nV) ∧ ∀ j, j < i → u ∉ mkOf is j) ∧ ∀ d, d ∈ vd.getD u [] → d = i ∨ bit ms i d = true := by
    intro u hu
    have := List.all_eq_true.1 h2 u hu
    simp only [Bool.and_eq_true, decide_eq_true_eq] at this
    refine ⟨⟨this.1.1, fun j hj => ?_⟩, fun d hd => ?_⟩
    · have := List.all_eq_true.1 this.1.2 j (by simpa using hj)
      simpa using this
    · have := List.all_eq_true.1 this.2 d hd
      simpa using this
  have e : ∀ u, u ∈ I.eat → (∀ j, j < i → u ∉ eatOf is j) ∧ u ∉ I.use := by
    intro u hu
    have := List.all_eq_true.1 h3 u hu
    simp only [Bool.and_eq_true] at this
    refine ⟨fun j hj => ?_, by simpa using this.2⟩
    have := List.all_eq_true.1 this.1 j (by simpa using hj)
    simpa using this
  exact ⟨fun u hu => (g u hu).1.1, fun u hu => (g u hu).1.2, fun u hu => (g u hu).2, fun u hu => (m u hu).1.1, fun u hu => (m u hu).1.2, fun u hu => (m u hu).2, fun u hu => (e u hu).1, fun u hu => (e u hu).2,
    fun d hd => by have := List.all_eq_true.1 h4 d hd; simpa using this, distinct_ok h5, distinct_ok h6⟩

theorem ty_upd {T : TyN} {new : Nat → Value} {i : Nat} {x : Value} (h : i ∉ T.ds) : T.ty (upd new i x) = T.ty new := by
  unfold TyN.ty
  congr 1
  exact List.map_congr_left fun d hd => upd_other (fun e => h (e ▸ hd))
theorem ver_upd {u : Nat} {new : Nat → Value} {i : Nat} {x : Value} (h : i ∉ (V.map (·.ds)).getD u []) : ver V u (upd new i x) = ver V u new := by
  unfold ver
  cases hV : V[u]? with
  | none => rfl
  | some p =>
    have : (V.map (·.ds)).getD u [] = p.ds := by simp [List.getD_eq_getElem?_getD, hV]
    rw [this] at h
    simp only
    congr 1
    exact List.map_congr_left fun d hd => upd_other (fun e => h (e ▸ hd))

theorem looks_operand {o : Oper} {d : Nat} (h : Operand.tmp d ∈ o.op.operands) (A : Array Oper) : d ∈ o.looksAt A := by
  unfold Oper.looksAt
  refine List.mem_append.2 (.inl ?_)
  rw [List.mem_filterMap]
  exact ⟨.tmp d, by simpa using h, rfl⟩
theorem looks_guard {o : Oper} {d g : Nat} {b : Bool} (h : o.guard = some (g, b)) (hd : (ops[g]?).bind (·.dst) = some d) : d ∈ o.looksAt ops.toArray := by
  unfold Oper.looksAt
  refine List.mem_append.2 (.inr ?_)
  simp [h, hd]

/-- The facts that an operation's judgement rests on hold when it runs. -/
theorem facts_ok (hchk : chk ops is (V.map (·.ds)) (Γ.map (·.1)) k0 V.length n = true) {new : Nat → Value} {S : Nat → Bool} {a : Act} {w : World} (hi : Inv ops V is M w0 n k0 Γ new S a w)
    {i : Nat} {o : Oper} (ho : ops[i]? = some o) (hS : S i = false) (hpre : Pre ops i S) {Γ' : List (Nat × Ty)}
    (hsub : ∀ p ∈ Γ', p ∈ Γ ∨ ∃ j oj Ij, j < i ∧ ops[j]? = some oj ∧ is[j]? = some Ij ∧ oj.dst = some p.1 ∧ p.2 = Ij.ty.ty new) :
    ∀ p ∈ Γ', p.1 ∈ o.looksAt ops.toArray → p.2.ok (free (MS V is k0 M.m S new) w) w (get a p.1) := by
  simp only [chk, Bool.and_eq_true] at hchk
  intro p hp hl
  rcases hsub p hp with h | ⟨j, oj, Ij, hji, hoj, hIj, hdj, he⟩
  · refine hi.old p h (fun j oj hoj hdj => ?_)
    rcases chkSlots_ok hchk.1.1.1.1.2 ho hl hoj hdj with ⟨_, _, hn⟩ | ⟨_, hb⟩
    · exact (hn (List.mem_map.2 ⟨p, h, rfl⟩)).elim
    · rcases hs : S j with _ | _
      · rfl
      · have := bit_ok hb hi.down (fun o' ho' => hi.down j o' ho' hs)
        rw [hS] at this; cases this
  · rw [he]
    refine hi.nw j oj Ij p.1 hoj hIj ?_ hdj
    rcases chkSlots_ok hchk.1.1.1.1.2 ho hl hoj hdj with ⟨_, hb, _⟩ | ⟨hlt, _⟩
    · exact bit_ok hb hi.down hpre
    · omega

theorem avail_of (hchk : chk ops is (V.map (·.ds)) (Γ.map (·.1)) k0 V.length n = true) {new : Nat → Value} {S : Nat → Bool} {a : Act} {w : World} (hi : Inv ops V is M w0 n k0 Γ new S a w)
    {i : Nat} {I : Info} (hI : is[i]? = some I) (hS : S i = false) (hpre : Pre ops i S) {u : Nat} (hu : u ∈ I.use ∨ u ∈ I.eat) : avail V is k0 S u := by
  simp only [chk, Bool.and_eq_true] at hchk
  have hV := chkVers_ok hchk.1.2 hI
  refine ⟨hV.lt u hu, ?_, fun c hc => ?_⟩
  · rcases hV.made u hu with h | ⟨p, hp, hb⟩
    · exact .inl h
    · exact .inr ⟨p, hp, bit_ok hb hi.down hpre⟩
  · rcases hV.alone u hu c hc with rfl | hb
    · exact hS
    · rcases hs : S c with _ | _
      · rfl
      · have := bit_ok hb hi.down (fun o' ho' => hi.down c o' ho' hs)
        rw [hS] at this; cases this

theorem MS_lt {new : Nat → Value} {S : Nat → Bool} {a : Act} {w : World} (hi : Inv ops V is M w0 n k0 Γ new S a w) : ∀ k, MS V is k0 M.m S new k → k < w.heap.size := by
  rintro k (hk | ⟨u, hu, hk⟩)
  · exact Nat.lt_of_lt_of_le (hi.m0 k hk).1 hi.grow.size
  · exact (hi.fresh u hu k hk).2

theorem step_inv {Q : Exit → Act → World → Prop} (hinit : ∀ u, u < k0 → ∀ new new', ver V u new = ver V u new') (hchk : chk ops is (V.map (·.ds)) (Γ.map (·.1)) k0 V.length n = true) (hrun : ∀ new, Run P ops V new 0 Γ ops is) :
    StepInv P ops.toArray Q (fun S a w => ∃ new, Inv ops V is M w0 n k0 Γ new S a w) := by
  intro S i o a w ho0 hS hpre0 ⟨new, hi⟩
  have ho : ops[i]? = some o := by simpa using ho0
  have hpre : Pre ops i S := fun o' ho' => by rw [ho] at ho'; cases ho'; exact hpre0
  obtain ⟨I, Γ', hI, hJ, hsub⟩ := (hrun new).get i o ho
  rw [Nat.zero_add] at hJ
  have hfacts := facts_ok hchk hi ho hS hpre hsub
  have hchk' := hchk
  simp only [chk, Bool.and_eq_true] at hchk'
  have hV := chkVers_ok hchk'.1.2 hI
  have hmkI : mkOf is i = I.make := by simp [mkOf, hI]
  have heatI : eatOf is i = I.eat := by simp [eatOf, hI]
  have hdown : Down ops (ins S i) := by
    intro j oj hoj hj e he hb
    simp only [ins, Bool.or_eq_true, beq_iff_eq] at hj ⊢
    rcases hj with rfl | hj
    · exact .inr (hpre oj hoj e he hb)
    · exact .inr (hi.down j oj hoj hj e he hb)
  have hrest : ∀ p ∈ Γ, (∀ j oj, ops[j]? = some oj → oj.dst = some p.1 → ins S i j = false) → (∀ j oj, ops[j]? = some oj → oj.dst = some p.1 → S j = false) ∧ o.dst ≠ some p.1 := by
    intro p hp h
    refine ⟨fun j oj hoj hdj => ?_, fun hd => ?_⟩
    · have := h j oj hoj hdj
      simp only [ins, Bool.or_eq_false_iff] at this
      exact this.2
    · have := h i o ho hd
      simp [ins] at this
  have hother : ∀ j oj d, ops[j]? = some oj → ins S i j = true → oj.dst = some d → j ≠ i → S j = true ∧ o.dst ≠ some d := by
    intro j oj d hoj hj hd hne
    refine ⟨?_, fun hd' => hne (chkUnique_ok hchk'.1.1.1.2 hoj hd ho hd')⟩
    simp only [ins, Bool.or_eq_true, beq_iff_eq] at hj
    exact hj.resolve_left hne
  have hdep : ∀ j d, S j = true → (d = j ∨ bit (masks [] ops) j d = true) → d ≠ i := by
    rintro j d hj hd rfl
    rcases hd with rfl | hb
    · rw [hS] at hj; cases hj
    · have := bit_ok hb hi.down (fun o' ho' => hi.down j o' ho' hj)
      rw [hS] at this; cases this
  have hty_old : ∀ x j Ij, is[j]? = some Ij → S j = true → Ij.ty.ty (upd new i x) = Ij.ty.ty new :=
    fun x j Ij hIj hSj => ty_upd (fun hd => hdep j i hSj ((chkVers_ok hchk'.1.2 hIj).dep i hd) rfl)
  have hkeepV : ∀ x u, avail V is k0 S u → ver V u (upd new i x) = ver V u new := by
    rintro x u ⟨_, h2, _⟩
    rcases h2 with h | ⟨p, hp, hs⟩
    · exact hinit u h _ _
    · refine ver_upd (fun hd => ?_)
      obtain ⟨Ip, hIp, hmp⟩ := mem_of_mkOf hp
      exact hdep p i hs ((chkVers_ok hchk'.1.2 hIp).vdep u hmp i hd) rfl
  have hMw := MS_lt hi
  have havu : ∀ u, u ∈ I.use ∨ u ∈ I.eat → avail V is k0 S u := fun u hu => avail_of hchk hi hI hS hpre hu
  have main : ∀ v w' x, Step (eatFp (I.eat.map fun u => ver V u new)) w w' → Made (MS V is k0 M.m S new) (I.eat.map fun u => ver V u new) (I.make.map fun u => ver V u (upd new i x)) w w' →
      (I.ty.ty (upd new i x)).ok (free (next (MS V is k0 M.m S new) (I.eat.map fun u => ver V u new) (I.make.map fun u => ver V u (upd new i x))) w') w' v → ∃ new, Inv ops V is M w0 n k0 Γ new (ins S i) (a.put o.dst v) w' := by
    intro v w' x hstep hmk hty
    refine ⟨upd new i x, ?_⟩
    have heatM : ∀ k, eatFp (I.eat.map fun u => ver V u new) k → ∃ u, u ∈ I.eat ∧ avail V is k0 S u ∧ (ver V u new).fp k := by
      rintro k ⟨A, hA, hk⟩
      obtain ⟨u, hu, rfl⟩ := List.mem_map.1 hA
      exact ⟨u, hu, havu u (.inr hu), hk⟩
    have hav' : ∀ u, avail V is k0 (ins S i) u → (avail V is k0 S u ∧ u ∉ I.eat ∧ u ∉ I.make) ∨ u ∈ I.make := by
      rintro u ⟨h1, h2, h3⟩
      by_cases hmu : u ∈ I.make
      · exact .inr hmu
      refine .inl ⟨⟨h1, ?_, fun c hc => ?_⟩, fun hE => ?_, hmu⟩
      · rcases h2 with h | ⟨p, hp, hs⟩
        · exact .inl h
        · refine .inr ⟨p, hp, ?_⟩
          simp only [ins, Bool.or_eq_true, beq_iff_eq] at hs
          rcases hs with rfl | hs
          · rw [hmkI] at hp; exact (hmu hp).elim
          · exact hs
      · have := h3 c hc
        simp only [ins, Bool.or_eq_false_iff] at this
        exact this.2
      · have := h3 i (heatI ▸ hE)
        simp [ins] at this
    have hmkfp : ∀ u, u ∈ I.make → ∀ k, (ver V u (upd new i x)).fp k → eatFp (I.make.map fun u => ver V u (upd new i x)) k :=
      fun u hu k hk => ⟨_, List.mem_map.2 ⟨u, hu, rfl⟩, hk⟩
    have hmkbd : ∀ u, u ∈ I.make → ∀ k, (ver V u (upd new i x)).fp k → (eatFp (I.eat.map fun u => ver V u new) k ∨ w.heap.size ≤ k) ∧ k < w'.heap.size :=
      fun u hu => hmk.place _ (List.mem_map.2 ⟨u, hu, rfl⟩)
    have hsub2 : ∀ k, MS V is k0 M.m (ins S i) (upd new i x) k → next (MS V is k0 M.m S new) (I.eat.map fun u => ver V u new) (I.make.map fun u => ver V u (upd new i x)) k := by
      rintro k (hk | ⟨u, hu, hk⟩)
      · refine .inl ⟨.inl hk, fun he => ?_⟩
        obtain ⟨u, _, hav, hfp⟩ := heatM k he
        have h1 := (hi.fresh u hav k hfp).1
        have h2 := hi.m0 k hk
        rcases h1 with h1 | h1
        · exact h2.2 h1
        · omega
      · rcases hav' u hu with ⟨hav, hne, hmu⟩ | hmu
        · rw [hkeepV x u hav] at hk
          refine .inl ⟨.inr ⟨u, hav, hk⟩, fun he => ?_⟩
          obtain ⟨v, hv, hav2, hfp⟩ := heatM k he
          exact hi.apart u v hav hav2 (fun e => hne (e ▸ hv)) k hk hfp
        · exact .inr (hmkfp u hmu k hk)
    have hkeepF : ∀ k, free (MS V is k0 M.m S new) w k → free (MS V is k0 M.m (ins S i) (upd new i x)) w' k := by
      rintro k ⟨h1, h2⟩
      refine ⟨Nat.lt_of_lt_of_le h1 hstep.size, fun hm => ?_⟩
      rcases hsub2 k hm with ⟨h, _⟩ | ⟨A, hA, hk⟩
      · exact h2 h
      · obtain ⟨u, hu, rfl⟩ := List.mem_map.1 hA
        rcases (hmkbd u hu k hk).1 with he | he
        · obtain ⟨v, _, hav, hfp⟩ := heatM k he
          exact h2 (.inr ⟨v, hav, hfp⟩)
        · omega
    have hsame : ∀ k, free (MS V is k0 M.m S new) w k → w'.heap[k]? = w.heap[k]? := by
      rintro k ⟨h1, h2⟩
      refine hstep.same k h1 (fun he => ?_)
      obtain ⟨u, _, hav, hfp⟩ := heatM k he
      exact h2 (.inr ⟨u, hav, hfp⟩)
    have hup : ∀ k, free (next (MS V is k0 M.m S new) (I.eat.map fun u => ver V u new) (I.make.map fun u => ver V u (upd new i x))) w' k → free (MS V is k0 M.m (ins S i) (upd new i x)) w' k :=
      fun k ⟨h1, h2⟩ => ⟨h1, fun hm => h2 (hsub2 k hm)⟩
    constructor
    · rw [put_size]; exact hi.size
    · rw [put_defers']; exact hi.defers
    · refine ⟨hstep.os.trans hi.grow.os, hstep.tape.trans hi.grow.tape, hstep.output.trans hi.grow.output, Nat.le_trans hi.grow.size hstep.size, fun k hk hb => ?_⟩
      refine (hstep.same k (Nat.lt_of_lt_of_le hk hi.grow.size) (fun he => ?_)).trans (hi.grow.same k hk hb)
      obtain ⟨u, _, hav, hfp⟩ := heatM k he
      rcases (hi.fresh u hav k hfp).1 with h | h
      · exact hb h
      · omega
    · exact hi.m0
    · exact hdown
    · intro p hp h
      obtain ⟨h1, h2⟩ := hrest p hp h
      rw [get_put_other _ _ _ _ h2]
      exact p.2.keep hkeepF hsame (hi.old p hp h1)
    · intro j oj Ij d hoj hIj hj hd
      by_cases hji : j = i
      · subst hji
        rw [ho] at hoj; cases hoj
        rw [hI] at hIj; cases hIj
        rw [hd, get_put_same _ _ _ (by rw [hi.size]; exact chkBound_ok hchk'.1.1.2 ho hd)]
        exact Ty.keep _ hup (fun _ _ => rfl) hty
      · obtain ⟨h1, h2⟩ := hother j oj d hoj hj hd hji
        rw [get_put_other _ _ _ _ h2, hty_old x j Ij hIj h1]
        exact Ty.keep _ hkeepF hsame (hi.nw j oj Ij d hoj hIj h1 hd)
    · intro u hu
      rcases hav' u hu with ⟨hav, hne, hmu⟩ | hmu
      · rw [hkeepV x u hav]
        refine Atom.keep _ hkeepF hsame (fun k hk => ?_) (hi.own u hav)
        refine hstep.same k (hi.fresh u hav k hk).2 (fun he => ?_)
        obtain ⟨v, hv, hav2, hfp⟩ := heatM k he
        exact hi.apart u v hav hav2 (fun e => hne (e ▸ hv)) k hk hfp
      · exact Atom.keep _ hup (fun _ _ => rfl) (fun _ _ => rfl) (hmk.ok _ (List.mem_map.2 ⟨u, hmu, rfl⟩))
    · intro u hu k hk
      rcases hav' u hu with ⟨hav, hne, hmu⟩ | hmu
      · rw [hkeepV x u hav] at hk
        have := hi.fresh u hav k hk
        exact ⟨this.1, Nat.lt_of_lt_of_le this.2 hstep.size⟩
      · obtain ⟨h1, h2⟩ := hmkbd u hmu k hk
        refine ⟨?_, h2⟩
        rcases h1 with he | he
        · obtain ⟨v, _, hav, hfp⟩ := heatM k he
          exact (hi.fresh v hav k hfp).1
        · exact .inr (Nat.le_trans hi.grow.size he)
    · have one : ∀ u v, avail V is k0 (ins S i) v → u ∈ I.make → u ≠ v → ∀ k, (ver V u (upd new i x)).fp k → ¬ (ver V v (upd new i x)).fp k := by
        intro u v hv hmu hne k hk hk2
        rcases hav' v hv with ⟨hav, hne2, hmv⟩ | hmv
        · rw [hkeepV x v hav] at hk2
          rcases (hmkbd u hmu k hk).1 with he | he
          · obtain ⟨y, hy, hav2, hfp⟩ := heatM k he
            exact hi.apart v y hav hav2 (fun e => hne2 (e ▸ hy)) k hk2 hfp
          · have := (hi.fresh v hav k hk2).2; omega
        · have hp := hmk.apart
          unfold Apart at hp
          rw [List.pairwise_map, List.pairwise_iff_getElem] at hp
          obtain ⟨iu, hiu, rfl⟩ := List.getElem_of_mem hmu
          obtain ⟨iv, hiv, rfl⟩ := List.getElem_of_mem hmv
          rcases Nat.lt_trichotomy iu iv with h | h | h
          · exact hp iu iv hiu hiv h k hk hk2
          · subst h; exact hne rfl
          · exact hp iv iu hiv hiu h k hk2 hk
      intro u v hu hv hne k hk hk2
      rcases hav' u hu with ⟨hav, hne1, hmu⟩ | hmu
      · rcases hav' v hv with ⟨hav2, hne2, hmv⟩ | hmv
        · rw [hkeepV x u hav] at hk
          rw [hkeepV x v hav2] at hk2
          exact hi.apart u v hav hav2 hne k hk hk2
        · exact one v u hu hmv (Ne.symm hne) k hk2 hk
      · exact one u v hv hmu hne k hk hk2
  have hyieldG : ∀ (g : Nat) (want : Bool) (dg : Nat) (c : Bool), o.guard = some (g, want) → (ops[g]?).bind (·.dst) = some dg → Grd Γ' dg want c → ((yielded ops.toArray a.tmps g = some want) = (c = true)) := by
    intro g want dg c hg hdg hc
    have := hc (free (MS V is k0 M.m S new) w) w a (fun p hp hpd => hfacts p hp (hpd ▸ looks_guard hg hdg))
    unfold yielded
    have e : ((ops.toArray[g]?).bind (·.dst)) = some dg := by simpa using hdg
    rw [e]
    simp only [Option.bind_some]
    have hgd : get a dg = (a.tmps[dg]?).getD undef := by simp [get, Array.getD_eq_getD_getElem?]
    rw [hgd] at this
    cases hx : a.tmps[dg]? with
    | none => rw [hx] at this; simp [undef] at this; simp [← this]
    | some y =>
      rw [hx] at this
      simp only [Option.getD_some] at this
      cases y <;> simp_all
      rename_i b
      rw [← this]; simp
  unfold wpOp
  rw [ho0]
  simp only
  rcases hJ with ⟨hg, hop⟩ | ⟨g, want, dg, c, T, hg, hdg, hc, he, hm, ht, hds, hop⟩ | ⟨g, want, dg, c, hg, hdg, hc, hop, hno⟩
  · rw [if_pos (by simp [Region.wanted, hg])]
    refine .inl (Does.wp (hop (MS V is k0 M.m S new) w a hMw ?_ ?_ ?_ ?_ ?_) ?_)
    · intro A hA
      obtain ⟨u, hu, rfl⟩ := List.mem_map.1 hA
      exact ⟨hi.own u (havu u (.inl hu)), fun k hk => .inr ⟨u, havu u (.inl hu), hk⟩⟩
    · intro A hA
      obtain ⟨u, hu, rfl⟩ := List.mem_map.1 hA
      exact ⟨hi.own u (havu u (.inr hu)), fun k hk => .inr ⟨u, havu u (.inr hu), hk⟩⟩
    · unfold Apart
      rw [List.pairwise_map]
      exact hV.eatd.imp_of_mem fun hu hv hne => hi.apart _ _ (havu _ (.inr hu)) (havu _ (.inr hv)) hne
    · intro A hA B hB
      obtain ⟨u, hu, rfl⟩ := List.mem_map.1 hA
      obtain ⟨v, hv, rfl⟩ := List.mem_map.1 hB
      exact hi.apart u v (havu u (.inl hu)) (havu v (.inr hv)) (fun e => hV.eatu v hv (e ▸ hu))
    · intro p hp hmem
      exact hfacts p hp (looks_operand hmem _)
    · rintro v w' ⟨x, hstep, hmk, hty⟩
      exact main v w' x hstep hmk hty
  · have hyield := hyieldG g want dg c hg hdg hc
    have havE : ∀ u, avail V is k0 (ins S i) u ↔ avail V is k0 S u := by
      intro u
      have hp : ∀ p, u ∈ mkOf is p → (ins S i p = true ↔ S p = true) := by
        intro p hp
        by_cases hpi : p = i
        · subst hpi; rw [hmkI, hm] at hp; cases hp
        · simp [ins, hpi]
      have hq : ∀ p, u ∈ eatOf is p → (ins S i p = false ↔ S p = false) := by
        intro p hpe
        by_cases hpi : p = i
        · subst hpi; rw [heatI, he] at hpe; cases hpe
        · simp [ins, hpi]
      constructor
      · rintro ⟨h1, h2, h3⟩
        exact ⟨h1, h2.imp id (fun ⟨p, ha, hb⟩ => ⟨p, ha, (hp p ha).1 hb⟩), fun c hc => (hq c hc).1 (h3 c hc)⟩
      · rintro ⟨h1, h2, h3⟩
        exact ⟨h1, h2.imp id (fun ⟨p, ha, hb⟩ => ⟨p, ha, (hp p ha).2 hb⟩), fun c hc => (hq c hc).2 (h3 c hc)⟩
    have hsubM : MS V is k0 M.m (ins S i) new = MS V is k0 M.m S new := by
      funext k
      exact propext ⟨fun h => h.imp id (fun ⟨u, hu, hk⟩ => ⟨u, (havE u).1 hu, hk⟩), fun h => h.imp id (fun ⟨u, hu, hk⟩ => ⟨u, (havE u).2 hu, hk⟩)⟩
    have finish : ∀ v w', Grow w w' → (I.ty.ty new).ok (free (MS V is k0 M.m S new) w') w' v → ∃ new, Inv ops V is M w0 n k0 Γ new (ins S i) (a.put o.dst v) w' := by
      intro v w' hstep hty
      have hkeepF : ∀ k, free (MS V is k0 M.m S new) w k → free (MS V is k0 M.m S new) w' k := fun k ⟨h1, h2⟩ => ⟨Nat.lt_of_lt_of_le h1 hstep.size, h2⟩
      have hsame : ∀ k, free (MS V is k0 M.m S new) w k → w'.heap[k]? = w.heap[k]? := fun k ⟨h1, _⟩ => hstep.same k h1 (fun h => h)
      refine ⟨new, ?_⟩
      constructor
      · rw [put_size]; exact hi.size
      · rw [put_defers']; exact hi.defers
      · exact ⟨hstep.os.trans hi.grow.os, hstep.tape.trans hi.grow.tape, hstep.output.trans hi.grow.output, Nat.le_trans hi.grow.size hstep.size, fun k hk hb => (hstep.same k (Nat.lt_of_lt_of_le hk hi.grow.size) (fun h => h)).trans (hi.grow.same k hk hb)⟩
      · exact hi.m0
      · exact hdown
      · intro p hp h
        obtain ⟨h1, h2⟩ := hrest p hp h
        rw [get_put_other _ _ _ _ h2, hsubM]
        exact p.2.keep hkeepF hsame (hi.old p hp h1)
      · intro j oj Ij d hoj hIj hj hd
        rw [hsubM]
        by_cases hji : j = i
        · subst hji
          rw [ho] at hoj; cases hoj
          rw [hI] at hIj; cases hIj
          rw [hd, get_put_same _ _ _ (by rw [hi.size]; exact chkBound_ok hchk'.1.1.2 ho hd)]
          exact hty
        · obtain ⟨h1, h2⟩ := hother j oj d hoj hj hd hji
          rw [get_put_other _ _ _ _ h2]
          exact Ty.keep _ hkeepF hsame (hi.nw j oj Ij d hoj hIj h1 hd)
      · intro u hu
        rw [hsubM]
        refine Atom.keep _ hkeepF hsame (fun k hk => ?_) (hi.own u ((havE u).1 hu))
        exact hstep.same k (hi.fresh u ((havE u).1 hu) k hk).2 (fun h => h)
      · intro u hu k hk
        have := hi.fresh u ((havE u).1 hu) k hk
        exact ⟨this.1, Nat.lt_of_lt_of_le this.2 hstep.size⟩
      · intro u v hu hv hne
        exact hi.apart u v ((havE u).1 hu) ((havE v).1 hv) hne
    by_cases hw : Region.wanted o (yielded ops.toArray a.tmps) = true
    · rw [if_pos hw]
      have hct : c = true := by
        rw [← hyield]
        simpa [Region.wanted, hg] using hw
      have hdoes := hop hct (MS V is k0 M.m S new) w a hMw ?_ (fun A hA => by cases hA) List.Pairwise.nil (fun A _ B hB => by cases hB) (fun p hp hmem => hfacts p hp (looks_operand hmem _))
      · refine .inl (Does.wp hdoes ?_)
        rintro v w' ⟨x, hstep, _, hty⟩
        have e1 : next (MS V is k0 M.m S new) [] [] = MS V is k0 M.m S new := by
          funext k
          simp [next, eatFp]
        rw [e1] at hty
        refine finish v w' (hstep.mono (fun k hk => by obtain ⟨A, hA, _⟩ := hk; cases hA)) ?_
        rw [ht]
        exact ⟨fun _ => hty, fun hf => (by rw [hct] at hf; cases hf)⟩
      · intro A hA
        obtain ⟨u, hu, rfl⟩ := List.mem_map.1 hA
        exact ⟨hi.own u (havu u (.inl hu)), fun k hk => .inr ⟨u, havu u (.inl hu), hk⟩⟩
    · rw [if_neg hw]
      have hcf : c = false := by
        cases hcc : c with
        | false => rfl
        | true =>
          rw [hcc] at hyield
          have := hyield.symm ▸ (rfl : true = true)
          exact (hw (by simpa [Region.wanted, hg] using this)).elim
      refine finish undef w (Step.refl _ _) ?_
      rw [ht]
      exact ⟨fun h => (by rw [hcf] at h; cases h), fun _ => rfl⟩
  · have hyield := hyieldG g want dg c hg hdg hc
    by_cases hw : Region.wanted o (yielded ops.toArray a.tmps) = true
    · rw [if_pos hw]
      have hct : c = true := by
        rw [← hyield]
        simpa [Region.wanted, hg] using hw
      refine .inl (Does.wp (hop hct (MS V is k0 M.m S new) w a hMw ?_ ?_ ?_ ?_ ?_) ?_)
      · intro A hA
        obtain ⟨u, hu, rfl⟩ := List.mem_map.1 hA
        exact ⟨hi.own u (havu u (.inl hu)), fun k hk => .inr ⟨u, havu u (.inl hu), hk⟩⟩
      · intro A hA
        obtain ⟨u, hu, rfl⟩ := List.mem_map.1 hA
        exact ⟨hi.own u (havu u (.inr hu)), fun k hk => .inr ⟨u, havu u (.inr hu), hk⟩⟩
      · unfold Apart
        rw [List.pairwise_map]
        exact hV.eatd.imp_of_mem fun hu hv hne => hi.apart _ _ (havu _ (.inr hu)) (havu _ (.inr hv)) hne
      · intro A hA B hB
        obtain ⟨u, hu, rfl⟩ := List.mem_map.1 hA
        obtain ⟨v, hv, rfl⟩ := List.mem_map.1 hB
        exact hi.apart u v (havu u (.inl hu)) (havu v (.inr hv)) (fun e => hV.eatu v hv (e ▸ hu))
      · intro p hp hmem
        exact hfacts p hp (looks_operand hmem _)
      · rintro v w' ⟨x, hstep, hmk, hty⟩
        exact main v w' x hstep hmk hty
    · rw [if_neg hw]
      have hcf : c = false := by
        cases hcc : c with
        | false => rfl
        | true =>
          rw [hcc] at hyield
          have := hyield.symm ▸ (rfl : true = true)
          exact (hw (by simpa [Region.wanted, hg] using this)).elim
      obtain ⟨hN, hT⟩ := hno hcf
      refine main undef w undef (Step.refl _ _) ?_ (hT _ _)
      rw [hN]
      refine ⟨?_, ?_, ?_⟩
      · unfold Apart
        rw [List.pairwise_map]
        exact hV.eatd.imp_of_mem fun hu hv hne => hi.apart _ _ (havu _ (.inr hu)) (havu _ (.inr hv)) hne
      · intro A hA k hk
        refine ⟨.inl ⟨A, hA, hk⟩, ?_⟩
        obtain ⟨u, hu, rfl⟩ := List.mem_map.1 hA
        exact (hi.fresh u (havu u (.inr hu)) k hk).2
      · intro A hA
        obtain ⟨u, hu, rfl⟩ := List.mem_map.1 hA
        refine Atom.keep _ (fun k hk => ⟨hk.1, ?_⟩) (fun _ _ => rfl) (fun _ _ => rfl) (hi.own u (havu u (.inr hu)))
        rintro (⟨hm, _⟩ | ⟨B, hB, hkB⟩)
        · exact hk.2 hm
        · obtain ⟨v, hv, rfl⟩ := List.mem_map.1 hB
          exact hk.2 (.inr ⟨v, havu v (.inr hv), hkB⟩)

theorem outG_ok {new : Nat → Value} {S : Nat → Bool} {a : Act} {w : World} (hi : Inv ops V is M w0 n k0 Γ new S a w) (hall : ∀ i, i < ops.length → S i = true) :
    ∀ p ∈ outG ops is Γ new, p.2.ok (free (MS V is k0 M.m S new) w) w (get a p.1) := by
  intro p hp
  unfold outG at hp
  rcases List.mem_append.1 hp with h | h
  · obtain ⟨⟨o, I⟩, hoI, he⟩ := List.mem_filterMap.1 h
    cases hd : o.dst with
    | none => simp [hd] at he
    | some d =>
      simp only [hd, Option.map_some, Option.some.injEq] at he
      subst he
      obtain ⟨i, hi'⟩ := List.mem_iff_getElem?.1 hoI
      rw [List.getElem?_zip_eq_some] at hi'
      exact hi.nw i o I d hi'.1 hi'.2 (hall i (List.getElem?_eq_some_iff.1 hi'.1).1) hd
  · obtain ⟨h1, h2⟩ := List.mem_filter.1 h
    refine hi.old p h1 (fun j o ho hd => ?_)
    have hmem : p.1 + 1 ∈ dsts ops := by
      have := dsts_get ho hd
      rw [List.getD_eq_getElem?_getD] at this
      cases hx : (dsts ops)[j]? with
      | none => simp [hx] at this
      | some y => simp [hx] at this; subst this; exact List.mem_of_getElem? hx
    simp [hmem] at h2

/-- A region, drawn or not, by a judgement on each of its operations. -/
theorem wp_region_run {As : List Atom} {a : Act} {w : World} {id : Nat} {draw : Bool} {Q : Exit → Act → World → Prop} (V : List Ver) (is : List Info)
    (hm : P.follows .mixedOrders = true) (hst : St M w0 n Γ As a w) (hrun : ∀ new, Run P ops V new 0 Γ ops is)
    (hV0 : ∀ (u : Nat) (A : Atom), As[u]? = some A → ∀ x, ver V u x = A) (hchk : chk ops is (V.map (·.ds)) (Γ.map (·.1)) As.length V.length n = true)
    (hQ : ∀ new a' w', St M w0 n (outG ops is Γ new) (outAs V is new) a' w' → Q .normal a' w') : (Code.region id ops.toArray draw).wp P Q a w := by
  have hchk' := hchk
  simp only [chk, Bool.and_eq_true] at hchk'
  have hlen := (hrun (fun _ => undef)).length
  have hk0 : ∀ u, u < As.length → ∃ A, As[u]? = some A ∧ ∀ x, ver V u x = A := fun u hu => ⟨As[u], List.getElem?_eq_getElem hu, hV0 u _ (List.getElem?_eq_getElem hu)⟩
  have heat : ∀ u, eaten is u = true ↔ ∃ c, u ∈ eatOf is c := by
    intro u
    unfold eaten
    rw [List.any_eq_true]
    constructor
    · rintro ⟨I, hI, he⟩
      obtain ⟨c, hc⟩ := List.mem_iff_getElem?.1 hI
      exact ⟨c, by simp [eatOf, hc]; simpa using he⟩
    · rintro ⟨c, hc⟩
      obtain ⟨I, hI, he⟩ := mem_of_eatOf hc
      exact ⟨I, List.mem_of_getElem? hI, by simpa using he⟩
  refine wp_region_inv (Inv := fun S a w => ∃ new, Inv ops V is M w0 n As.length Γ new S a w) (fun _ => hm) (step_inv (fun u hu x y => by obtain ⟨A, _, hA⟩ := hk0 u hu; rw [hA, hA]) hchk hrun) (chkAcyc_ok hchk'.1.1.1.1.1) ?_ ?_
  · rintro S a' w' hall ⟨new, hi⟩
    have hall' : ∀ i, i < ops.length → S i = true := fun i h => hall i (by simpa using h)
    have hav : ∀ u, avail V is As.length S u ↔ u < V.length ∧ eaten is u = false := by
      intro u
      constructor
      · rintro ⟨h1, _, h3⟩
        refine ⟨h1, ?_⟩
        cases he : eaten is u with
        | false => rfl
        | true =>
          obtain ⟨c, hc⟩ := (heat u).1 he
          have := h3 c hc
          rw [hall' c (by have := lt_of_eatOf hc; omega)] at this
          cases this
      · rintro ⟨h1, h2⟩
        refine ⟨h1, ?_, fun c hc => ?_⟩
        · have := List.all_eq_true.1 hchk'.2 u (by simpa using h1)
          simp only [Bool.or_eq_true, decide_eq_true_eq] at this
          rcases this with h | h
          · exact .inl h
          · obtain ⟨p, hp, he⟩ := List.any_eq_true.1 h
            exact .inr ⟨p, by simpa using he, hall' p (by simp at hp; omega)⟩
        · rw [(heat u).2 ⟨c, hc⟩] at h2; cases h2
    have hfps : ∀ k, hold M.m (outAs V is new) k ↔ MS V is As.length M.m S new k := by
      intro k
      unfold hold MS fps outAs
      constructor
      · rintro (h | ⟨A, hA, hk⟩)
        · exact .inl h
        · obtain ⟨u, hu, rfl⟩ := List.mem_map.1 hA
          obtain ⟨h1, h2⟩ := List.mem_filter.1 hu
          exact .inr ⟨u, (hav u).2 ⟨by simpa using h1, by simpa using h2⟩, hk⟩
      · rintro (h | ⟨u, hu, hk⟩)
        · exact .inl h
        · have := (hav u).1 hu
          exact .inr ⟨_, List.mem_map.2 ⟨u, List.mem_filter.2 ⟨by simpa using this.1, by simpa using this.2⟩, rfl⟩, hk⟩
    have hfree : ∀ k, free (MS V is As.length M.m S new) w' k → free (hold M.m (outAs V is new)) w' k := fun k ⟨h1, h2⟩ => ⟨h1, fun h => h2 ((hfps k).1 h)⟩
    refine hQ new a' w' ⟨hi.size, hi.defers, hi.grow, hi.m0, ?_, ?_, ?_, ?_⟩
    · intro A hA
      obtain ⟨u, hu, rfl⟩ := List.mem_map.1 hA
      obtain ⟨h1, h2⟩ := List.mem_filter.1 hu
      exact Atom.keep _ hfree (fun _ _ => rfl) (fun _ _ => rfl) (hi.own u ((hav u).2 ⟨by simpa using h1, by simpa using h2⟩))
    · intro A hA k hk
      obtain ⟨u, hu, rfl⟩ := List.mem_map.1 hA
      obtain ⟨h1, h2⟩ := List.mem_filter.1 hu
      exact hi.fresh u ((hav u).2 ⟨by simpa using h1, by simpa using h2⟩) k hk
    · unfold outAs Apart
      rw [List.pairwise_map]
      refine List.Pairwise.imp_of_mem ?_ (List.Pairwise.filter _ List.nodup_range)
      intro u v hu hv hne
      obtain ⟨h1, h2⟩ := List.mem_filter.1 hu
      obtain ⟨h3, h4⟩ := List.mem_filter.1 hv
      exact hi.apart u v ((hav u).2 ⟨by simpa using h1, by simpa using h2⟩) ((hav v).2 ⟨by simpa using h3, by simpa using h4⟩) hne
    · intro p hp
      exact p.2.keep hfree (fun _ _ => rfl) (outG_ok hi hall' p hp)
  · intro w' hw'
    have hheap : w'.heap = w.heap := by rcases hw' with rfl | rfl <;> rfl
    have hav : ∀ u, avail V is As.length (fun _ => false) u → u < As.length := by
      rintro u ⟨h1, h2, _⟩
      rcases h2 with h | ⟨p, _, hp⟩
      · exact h
      · cases hp
    have hMS : ∀ k, MS V is As.length M.m (fun _ => false) (fun _ => undef) k → hold M.m As k := by
      rintro k (h | ⟨u, hu, hk⟩)
      · exact .inl h
      · obtain ⟨A, hA, hv⟩ := hk0 u (hav u hu)
        rw [hv] at hk
        exact .inr ⟨A, List.mem_of_getElem? hA, hk⟩
    have hfree : ∀ k, free (hold M.m As) w k → free (MS V is As.length M.m (fun _ => false) (fun _ => undef)) w' k := fun k ⟨h1, h2⟩ => ⟨by rw [hheap]; exact h1, fun h => h2 (hMS k h)⟩
    refine ⟨fun _ => undef, ⟨hst.size, hst.defers, ?_, hst.m0, ?_, ?_, ?_, ?_, ?_, ?_⟩⟩
    · rcases hw' with rfl | rfl
      · exact hst.grow
      · exact hst.grow.drew
    · intro i o ho hS; cases hS
    · intro p hp _
      exact p.2.keep hfree (fun k _ => by rw [hheap]) (hst.slots p hp)
    · intro i o I d _ _ hS; cases hS
    · intro u hu
      obtain ⟨A, hA, hv⟩ := hk0 u (hav u hu)
      rw [hv]
      exact A.keep hfree (fun k _ => by rw [hheap]) (fun k _ => by rw [hheap]) (hst.own A (List.mem_of_getElem? hA))
    · intro u hu k hk
      obtain ⟨A, hA, hv⟩ := hk0 u (hav u hu)
      rw [hv] at hk
      have := hst.fresh A (List.mem_of_getElem? hA) k hk
      rw [hheap]
      exact this
    · intro u v hu hv hne k hk hk2
      obtain ⟨A, hA, hvA⟩ := hk0 u (hav u hu)
      obtain ⟨B, hB, hvB⟩ := hk0 v (hav v hv)
      rw [hvA] at hk
      rw [hvB] at hk2
      have hp := hst.apart
      unfold Apart at hp
      rw [List.pairwise_iff_getElem] at hp
      obtain ⟨hu', rfl⟩ := List.getElem?_eq_some_iff.1 hA
      obtain ⟨hv', rfl⟩ := List.getElem?_eq_some_iff.1 hB
      rcases Nat.lt_trichotomy u v with h | h | h
      · exact hp u v hu' hv' h k hk hk2
      · exact hne h
      · exact hp v u hv' hu' h k hk2 hk
end

end Go.Sim

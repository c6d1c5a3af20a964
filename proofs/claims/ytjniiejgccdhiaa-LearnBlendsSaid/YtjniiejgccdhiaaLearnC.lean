/- Package learn: blends; package ratio. No condition. -/
import Derived.Test.YtjniiejgccdhiaaLearnB
namespace Go.Proofs.Ytjniiejgccdhiaa
open Go.Sim

theorem size_is {n : Int} (h : I64 n) : fsize n = some ((n.natAbs : Nat) : Int) := by
  unfold I64 at h
  unfold fsize
  by_cases h0 : n < 0
  · rw [if_pos (by simpa using h0), IntKind.wrap_u64, IntKind.wrap_u64]
    congr 1; omega
  · rw [if_neg (by simpa using h0), IntKind.wrap_u64]
    congr 1; omega
theorem sizeR_is {n : Int} (h : I64 n) : fSizeR n = some ((n.natAbs : Nat) : Int) := by
  unfold I64 at h
  unfold fSizeR
  by_cases h0 : n < 0
  · rw [if_pos (by simpa using h0), w64 (n := n + 1) (by omega) (by omega), w64 (by omega) (by omega), IntKind.wrap_u64, IntKind.wrap_u64]
    congr 1; omega
  · rw [if_neg (by simpa using h0), IntKind.wrap_u64]
    congr 1; omega

def vb (a : SRatio) : Bool := (((decide (a.Q ≥ 1) && decide (a.Q ≤ 2147483648)) && decide (a.P ≥ -2147483648)) && decide (a.P ≤ 2147483648))
def va (a : SRatio) : Bool := (a.P == 0 && a.Q == 0) || (vb a && ((Nat.gcd a.P.natAbs a.Q.natAbs : Nat) : Int) == 1)
theorem valid_is (a : SRatio) : fValid a = some (va a) := by
  unfold fValid va
  by_cases h0 : eqlR a (SRatio.mk 0 0) = true
  · rw [if_pos h0]
    have : (a.P == 0 && a.Q == 0) = true := h0
    rw [this]; rfl
  · rw [if_neg h0]
    have : (a.P == 0 && a.Q == 0) = false := by simpa [eqlR] using h0
    rw [this, Bool.false_or]
    change (opt (vb a == true) (fsize a.P) default).bind (fun t27 => (opt (vb a == true) (fsize a.Q) default).bind fun t30 => (opt (vb a == true) (fgcdU t27 t30) default).bind fun t31 => some (vb a && (t31 == (1:Int)))) = _
    cases hb : vb a with
    | false => rfl
    | true =>
      simp only [vb, Bool.and_eq_true, decide_eq_true_eq] at hb
      simp only [beq_self_eq_true, opt_true]
      rw [size_is (by unfold I64; omega), size_is (by unfold I64; omega)]
      simp only [Option.bind_some]
      rw [gcdU_nat]
      rfl
theorem validR_is (a : SRatio) : fValidR a = some (va a) := by
  unfold fValidR va
  by_cases h0 : (a.P == 0 && a.Q == 0) = true
  · rw [if_pos h0, h0]; rfl
  · rw [if_neg h0]
    rw [Bool.not_eq_true] at h0
    rw [h0, Bool.false_or]
    by_cases hb : vb a = true
    · rw [hb]
      simp only [vb, Bool.and_eq_true, decide_eq_true_eq] at hb
      rw [if_neg (by simp; omega), sizeR_is (by unfold I64; omega), sizeR_is (by unfold I64; omega)]
      simp only [Option.bind_some]
      rw [common_nat]
      rfl
    · rw [if_pos]
      · rw [Bool.not_eq_true] at hb; rw [hb]; rfl
      · simp only [vb, Bool.and_eq_true, decide_eq_true_eq] at hb
        simp only [Bool.or_eq_true, decide_eq_true_eq]
        omega

theorem both_is (a b : List Int) (ha : a.length < 1000000) (hb : b.length < 1000000) : fboth a b = some (if a.length ≠ b.length then 1 else if (ri a && ri b) = true then 0 else 5) := by
  unfold fboth
  rw [right_is a ha, right_is b hb]
  simp only [Option.bind_some]
  by_cases hl : a.length = b.length
  · rw [if_neg (by simp [hl]), if_neg (show ¬ a.length ≠ b.length from fun h => h hl)]
    cases ri a <;> cases ri b <;> rfl
  · rw [if_pos (by simp; omega), if_pos hl]

theorem max_is (l : List Int) (h0 : 0 < l.length) (hl : l.length < 1000000) : ∃ m, fMax l = some m ∧ ∀ B, (decide (m > B)) = !(l.all (fun x => decide (x ≤ B))) := by
  unfold fMax
  rw [if_neg (by simp; omega), show (0 : Int) = ((0 : Nat) : Int) from rfl, idx_lt h0]
  simp only [Option.bind_some]
  obtain ⟨r, h1, h2⟩ : ∃ r, tailrec (fun (s12 : Int × Int) => ((if (decide (s12.1 < (l.length : Int))) = true then (idx l s12.1).bind fun t21 => (some (.inl ((IntKind.i64.wrap (s12.1 + (1:Int))), (imax s12.2 t21)))) else (some (.inr s12.2))) : Option ((Int × Int) ⊕ ((Int))))) ((1:Int), l[0]) = some r ∧ ∀ B, (decide (r > B)) = !(l.all (fun x => decide (x ≤ B))) := by
    refine loop_ex (l.length - 1) (fun k s => s.1 = ((k + 1 : Nat) : Int) ∧ ∀ B, (decide (s.2 > B)) = !((l.take (k + 1)).all (fun x => decide (x ≤ B)))) (fun m => ∀ B, (decide (m > B)) = !(l.all (fun x => decide (x ≤ B)))) ?_ ?_ ?_
    · refine ⟨rfl, fun B => ?_⟩
      rw [List.take_succ_eq_append_getElem h0]
      simp only [List.take_zero, List.nil_append, List.all_cons, List.all_nil, Bool.and_true]
      by_cases h : l[0] ≤ B
      · simp [h, Int.not_lt.2 h]
      · simp [h, Int.not_le.1 h]
    · intro k s hk ⟨e, hB⟩
      obtain ⟨s1, s2⟩ := s
      simp only at e hB
      subst e
      have hk' : k + 1 < l.length := by omega
      refine ⟨_, by simp only; rw [if_pos (by simp; omega), idx_lt hk']; rfl, ?_, fun B => ?_⟩
      · simp only
        rw [w64_succ hk' (by omega)]
      · simp only
        rw [List.take_succ_eq_append_getElem hk', List.all_append]
        simp only [List.all_cons, List.all_nil, Bool.and_true, Bool.not_and]
        rw [← hB B]
        unfold imax
        by_cases h : l[k + 1] ≤ B
        · have h' : decide (l[k + 1] ≤ B) = true := by simpa using h
          rw [h', Bool.not_true, Bool.or_false]
          split
          · simp; omega
          · rfl
        · have h' : decide (l[k + 1] ≤ B) = false := by simpa using h
          rw [h', Bool.not_false, Bool.or_true]
          split
          · simp; omega
          · simp; omega
    · rintro ⟨s1, s2⟩ ⟨e, hB⟩
      simp only at e hB
      subst e
      refine ⟨s2, by simp only; rw [if_neg (by simp; omega)], fun B => ?_⟩
      rw [hB B, show l.length - 1 + 1 = l.length by omega, List.take_length]
  exact ⟨r, by rw [h1]; rfl, h2⟩

/-! Blends -/

def bq (sh : SRatio) : Int := imax sh.Q 1
def bE (a b : List Int) (sh : SRatio) : List Int := List.zipWith (fun x y => (bq sh - sh.P) * x * b.sum + sh.P * y * a.sum) a b
def bad (a b : List Int) (sh : SRatio) : Bool := ((((((!ri a) || (!ri b)) || (!va sh)) || decide (sh.P < 0)) || decide (sh.P > bq sh)) || decide (bq sh > 1024))
def blS (a b : List Int) (sh : SRatio) : List Int × Int :=
  if a.length ≠ b.length then ([], 1) else if bad a b sh = true then ([], 5) else if (!wi (low (bE a b sh)) 1048576) = true then ([], 5) else (low (bE a b sh), 0)

theorem mul_bound {x y X Y : Int} (hx : 0 ≤ x ∧ x ≤ X) (hy : 0 ≤ y ∧ y ≤ Y) : 0 ≤ x * y ∧ x * y ≤ X * Y :=
  ⟨Int.mul_nonneg hx.1 hy.1, Int.mul_le_mul hx.2 hy.2 hy.1 (by omega)⟩

structure Good (a b : List Int) (sh : SRatio) : Prop where
  len : a.length = b.length
  l1 : 1 ≤ a.length
  l12 : a.length ≤ 12
  sa : Sm a 1048576
  sb : Sm b 1048576
  pa : 0 < a.sum
  pb : 0 < b.sum
  p0 : 0 ≤ sh.P
  pq : sh.P ≤ bq sh
  q1 : bq sh ≤ 1024
theorem good_of {a b : List Int} {sh : SRatio} (hl : a.length = b.length) (h : ¬ bad a b sh = true) : Good a b sh := by
  simp only [bad, ri, Bool.or_eq_true, Bool.not_eq_true', decide_eq_true_eq, not_or, Bool.not_eq_false, Bool.and_eq_true, wi_iff] at h
  obtain ⟨⟨⟨⟨⟨⟨⟨h1, h2, h3⟩, h4⟩, ⟨⟨h5, h6, h7⟩, h8⟩⟩, _⟩, h9⟩, h10⟩, h11⟩ := h
  exact ⟨hl, h1, h2, h3, h7, h4, h8, by omega, by omega, by omega⟩
theorem Good.bounds {a b : List Int} {sh : SRatio} (g : Good a b sh) {k : Nat} (hk : k < a.length) (hk' : k < b.length) :
    (0 ≤ (bq sh - sh.P) * a[k] ∧ (bq sh - sh.P) * a[k] ≤ 1073741824) ∧ (0 ≤ (bq sh - sh.P) * a[k] * b.sum ∧ (bq sh - sh.P) * a[k] * b.sum ≤ 13510798882111488) ∧
      (0 ≤ sh.P * b[k] ∧ sh.P * b[k] ≤ 1073741824) ∧ (0 ≤ sh.P * b[k] * a.sum ∧ sh.P * b[k] * a.sum ≤ 13510798882111488) ∧ a.sum ≤ 12582912 ∧ b.sum ≤ 12582912 := by
  have hA : 0 ≤ a.sum ∧ a.sum ≤ 12582912 := ⟨by have := g.pa; omega, by have := g.sa.sum_le g.l12 (by omega); omega⟩
  have hB : 0 ≤ b.sum ∧ b.sum ≤ 12582912 := ⟨by have := g.pb; omega, by have := g.sb.sum_le (by rw [← g.len]; exact g.l12) (by omega); omega⟩
  have h1 := mul_bound (x := bq sh - sh.P) (X := 1024) ⟨by have := g.pq; omega, by have := g.q1; have := g.p0; omega⟩ (g.sa _ (List.getElem_mem hk))
  have h2 := mul_bound (x := sh.P) (X := 1024) ⟨g.p0, by have := g.q1; have := g.pq; omega⟩ (g.sb _ (List.getElem_mem hk'))
  have h3 := mul_bound h1 hB
  have h4 := mul_bound h2 hA
  refine ⟨by omega, by omega, by omega, by omega, hA.2, hB.2⟩
theorem Good.sm {a b : List Int} {sh : SRatio} (g : Good a b sh) : Sm (bE a b sh) 27021597764222976 := by
  intro x hx
  obtain ⟨k, hk, rfl⟩ := List.getElem_of_mem hx
  have h1 : k < a.length := by simp [bE] at hk; omega
  have h2 : k < b.length := by simp [bE] at hk; omega
  have := g.bounds h1 h2
  simp only [bE, List.getElem_zipWith]
  omega
theorem Good.elen {a b : List Int} {sh : SRatio} (g : Good a b sh) : (bE a b sh).length = a.length := by simp [bE, g.len]
theorem Good.wrapped {a b : List Int} {sh : SRatio} (g : Good a b sh) {k : Nat} (hk : k < a.length) (hk' : k < b.length) :
    IntKind.i64.wrap ((IntKind.i64.wrap ((IntKind.i64.wrap ((IntKind.i64.wrap (bq sh - sh.P)) * a[k])) * b.sum)) + (IntKind.i64.wrap ((IntKind.i64.wrap (sh.P * b[k])) * a.sum))) = (bE a b sh)[k]'(by rw [g.elen]; exact hk) := by
  have h := g.bounds hk hk'
  have h1 := g.pq
  have h2 := g.q1
  have h3 := g.p0
  rw [w64 (n := bq sh - sh.P) (by omega) (by omega), w64 (n := (bq sh - sh.P) * a[k]) (by omega) (by omega), w64 (n := (bq sh - sh.P) * a[k] * b.sum) (by omega) (by omega),
    w64 (n := sh.P * b[k]) (by omega) (by omega), w64 (n := sh.P * b[k] * a.sum) (by omega) (by omega), w64 (by omega) (by omega)]
  simp [bE]

theorem blend_is (a b : List Int) (sh : SRatio) (ha : a.length < 1000000) (hb : b.length < 1000000) : fBlend a b sh = some (blS a b sh) := by
  unfold fBlend blS
  rw [both_is a b ha hb]
  simp only [Option.bind_some]
  by_cases hl : a.length = b.length
  · rw [if_neg (show ¬ a.length ≠ b.length from fun h => h hl), if_neg (show ¬ a.length ≠ b.length from fun h => h hl)]
    by_cases hr : (ri a && ri b) = true
    · rw [if_pos hr]
      rw [if_neg (by decide), valid_is]
      simp only [Option.bind_some]
      have hr' := hr
      rw [Bool.and_eq_true] at hr'
      have ebad : ((((!va sh) || (decide (sh.P < (0:Int)))) || (decide (sh.P > (imax sh.Q (1:Int))))) || (decide ((imax sh.Q (1:Int)) > (1024:Int)))) = bad a b sh := by
        simp [bad, hr'.1, hr'.2, bq]
      rw [ebad]
      by_cases hbad : bad a b sh = true
      · rw [if_pos hbad, if_pos hbad]
      · rw [if_neg hbad, if_neg hbad]
        have g := good_of hl hbad
        have g2 : Sm b 1048576 := g.sb
        rw [sum_is (by have := g.l12; omega) g.sa (by omega) (by omega), sum_is (by have := g.l12; omega) g.sb (by omega) (by omega), mk_nat _ _ (by omega)]
        simp only [Option.bind_some, List.length_replicate]
        refine for_bind a.length (fun k => ((k : Int), (bE a b sh).take k ++ (List.replicate a.length (0 : Int)).drop k) : Nat → Int × List Int) (bE a b sh) (by simp) ?_ ?_ ?_
        · intro k hk
          have hk' : k < b.length := by omega
          have hke : k < (bE a b sh).length := by rw [g.elen]; exact hk
          simp only
          rw [if_pos (by simpa using hk), idx_lt hk, idx_lt hk']
          simp only [Option.bind_some]
          have := g.wrapped hk hk'
          unfold bq at this
          rw [this, setAt_lt (by rw [fill_len _ _ (by rw [g.elen]; simp)]; simpa using hk), fill_set _ _ hke (by simpa using hk)]
          simp only [Option.bind_some]
          rw [w64_succ hk (by omega)]
        · simp only
          rw [if_neg (by simp), ← g.elen, List.take_length]
          simp
        · rw [lowest_is g.sm (by omega) (by rw [g.elen]; exact ha)]
          simp only [Option.bind_some]
          have hll : (low (bE a b sh)).length = a.length := by rw [low_len, g.elen]
          obtain ⟨m, h1, h2⟩ := max_is (low (bE a b sh)) (by rw [hll]; have := g.l1; omega) (by rw [hll]; exact ha)
          rw [h1]
          simp only [Option.bind_some]
          have : decide (m > 1048576) = !wi (low (bE a b sh)) 1048576 := by
            rw [h2]
            congr 1
            unfold wi
            rw [hll]
            have e1 : decide ((a.length : Int) ≥ 1) = true := by have := g.l1; simp; omega
            have e2 : decide ((a.length : Int) ≤ 12) = true := by have := g.l12; simp; omega
            rw [e1, e2, Bool.and_self, Bool.true_and]
            apply Bool.eq_iff_iff.2
            simp only [List.all_eq_true, Bool.and_eq_true, decide_eq_true_eq]
            exact ⟨fun h x hx => ⟨(low_sm g.sm x hx).1, h x hx⟩, fun h x hx => (h x hx).2⟩
          rw [this]
          split <;> rfl
    · rw [if_neg hr]
      rw [if_pos (by decide)]
      have hbad : bad a b sh = true := by
        simp only [bad]
        cases hra : ri a <;> cases hrb : ri b <;> simp_all
      rw [if_pos hbad]
  · rw [if_pos hl, if_pos hl, if_pos (by decide)]

theorem blendR_is (a b : List Int) (sh : SRatio) (ha : a.length < 1000000) (hb : b.length < 1000000) : fBlendR a b sh = some (blS a b sh) := by
  unfold fBlendR blS
  by_cases hl : a.length = b.length
  · rw [if_neg (by simp [hl]), if_neg (show ¬ a.length ≠ b.length from fun h => h hl), rightR_is a ha, rightR_is b hb, validR_is]
    simp only [Option.bind_some]
    have key : ∀ (F : Bool → Option (List Int × Int)), ((opt ((!ri a) == false) (some (ri b)) default).bind fun t24 => (opt (((!ri a) || (!t24)) == false) (some (va sh)) default).bind fun t29 => F ((((((!ri a) || (!t24)) || (!t29)) || (decide (sh.P < (0:Int)))) || (decide (sh.P > (imax sh.Q (1:Int))))) || (decide ((imax sh.Q (1:Int)) > (1024:Int))))) = F (bad a b sh) := by
      intro F
      simp only [bad, bq]
      cases ri a <;> cases ri b <;> cases va sh <;> rfl
    refine (key (fun c => if c = true then _ else _)).trans ?_
    by_cases hbad : bad a b sh = true
    · rw [if_pos hbad, if_pos hbad]
    · rw [if_neg hbad, if_neg hbad]
      have g := good_of hl hbad
      rw [sumR_is (by have := g.l12; omega) g.sa (by omega) (by omega), sumR_is (by have := g.l12; omega) g.sb (by omega) (by omega)]
      refine for_bind a.length (fun k => ((k : Int), (bE a b sh).take k) : Nat → Int × List Int) (bE a b sh) (by simp) ?_ ?_ ?_
      · intro k hk
        have hk' : k < b.length := by omega
        have hke : k < (bE a b sh).length := by rw [g.elen]; exact hk
        simp only
        rw [if_pos (by simpa using hk), idx_lt hk, idx_lt hk']
        simp only [Option.bind_some]
        have := g.wrapped hk hk'
        unfold bq at this
        rw [this, rm_le (by simp; omega)]
        simp only [Option.bind_some]
        rw [w64_succ hk (by omega), List.take_succ_eq_append_getElem hke]
      · simp only
        rw [if_neg (by simp), ← g.elen, List.take_length]
      · rw [lowestR_is g.sm (by omega) (by rw [g.elen]; exact ha)]
        simp only [Option.bind_some]
        rw [withinR_is _ _ (by rw [low_len, g.elen]; exact ha)]
        simp only [Option.bind_some]
        split <;> rfl
  · rw [if_pos (by simp; omega), if_pos hl]

end Go.Proofs.Ytjniiejgccdhiaa

/- LearnBetween and LearnBlends hold of the Lean functions. No condition. -/
import Derived.Test.YtjniiejgccdhiaaLearnG
namespace Go.Proofs.Ytjniiejgccdhiaa
open Go.Sim

theorem cancel {k x y : Int} (hk : 0 < k) (h : k * x = k * y) : x = y := Int.eq_of_mul_eq_mul_left (by omega) h

theorem between_cross {A B C D E g s p xP xQ yP yQ wP wQ : Int} (hA : 0 < A) (hB : 0 < B) (hs : 0 < s) (hx : 0 < xQ)
    (h1 : g * C = s * A * B) (h2 : g * E = p * A * D) (hX : xP * (2 * A * B) = D * xQ) (hY : yP * (2 * A * C) = E * yQ) (hW : wP * (xQ * s) = (xP * p) * wQ) : yP * wQ = wP * yQ := by
  have e1 : A * (yP * (2 * s * A * B)) = A * (p * D * yQ) := by
    have : A * (yP * (2 * s * A * B)) = g * (yP * (2 * A * C)) := by grind
    rw [this, hY]; grind
  have e2 := cancel hA e1
  have e3 : (2 * A * B) * (yP * s * xQ) = (2 * A * B) * (p * xP * yQ) := by
    have : (2 * A * B) * (yP * s * xQ) = (yP * (2 * s * A * B)) * xQ := by grind
    rw [this, e2]; grind
  have e4 := cancel (Int.mul_pos (Int.mul_pos (by omega) hA) hB) e3
  have e5 : (xQ * s) * (yP * wQ) = (xQ * s) * (wP * yQ) := by grind
  exact cancel (Int.mul_pos hx hs) e5

theorem low_g {l : List Int} {B : Int} (h : Sm l B) (hs : 0 < l.sum) {k : Nat} (hk : k < l.length) : ((lg l : Nat) : Int) * (low l)[k]'(by rw [low_len]; exact hk) = l[k] := by
  have hg := lg_pos hs
  rw [low_get hk, show max (lg l) 1 = lg l by omega, Int.mul_ediv_cancel' (lg_dvd (List.getElem_mem hk) (h _ (List.getElem_mem hk)).1)]

theorem small_of {m : List Int} {n : Nat} {most : Int} (h1 : m.length = n) (hn : 1 ≤ n) (hn2 : n ≤ 8) (h2 : Sm m (most - 1)) (hm : most ≤ 61) (h3 : 0 < m.sum) : Small m n := ⟨h1, hn, hn2, h2.mono (by omega), h3⟩

theorem learnBetween_true (l m : List Int) (n p q : Int) (hl : ∀ x ∈ l, I64 x) (hm : ∀ x ∈ m, I64 x) (hn : I64 n) (hp : I64 p) (hq : I64 q) : fLearnBetween l m n p q = some true := by
  unfold fLearnBetween
  obtain ⟨r, hr, r0, r1⟩ := around_is n 5 hn (by omega)
  rw [hr]
  simp only [Option.bind_some]
  rw [w64 (n := 1 + r) (by omega) (by omega)]
  obtain ⟨k, hk⟩ : ∃ k : Nat, 1 + r = (k : Int) := ⟨_, (Int.toNat_of_nonneg (by omega)).symm⟩
  rw [hk]
  obtain ⟨a, ha, al, asm, ap⟩ := made_is l k 12 hl (by omega) (by omega) (by omega) (by omega)
  obtain ⟨b, hb, bl, bs, bp⟩ := made_is m k 12 hm (by omega) (by omega) (by omega) (by omega)
  rw [ha, hb]
  simp only [Option.bind_some]
  have sa : Small a k := ⟨al, by omega, by omega, asm.mono (by omega), ap⟩
  have sb : Small b k := ⟨bl, by omega, by omega, bs.mono (by omega), bp⟩
  obtain ⟨d0, hd, d1, d2⟩ := around_is q 12 hq (by omega)
  rw [hd]
  simp only [Option.bind_some]
  rw [w64 (n := 1 + d0) (by omega) (by omega)]
  obtain ⟨d, hdd⟩ : ∃ d : Nat, 1 + d0 = (d : Int) := ⟨_, (Int.toNat_of_nonneg (by omega)).symm⟩
  rw [hdd, w64 (n := (d : Int) + 1) (by omega) (by omega)]
  obtain ⟨p0, hp0, p1, p2⟩ := around_is p ((d : Int) + 1) hp (by omega)
  rw [hp0]
  simp only [Option.bind_some]
  obtain ⟨e, he⟩ : ∃ e : Nat, p0 = (e : Int) := ⟨_, (Int.toNat_of_nonneg (by omega)).symm⟩
  rw [he, make_small e d (by omega) (by omega) (by omega)]
  simp only [Option.bind_some]
  have sh : Share (mkR e d) := share_of (by omega) (by omega) (by omega)
  have q12 : (mkR e d).Q ≤ 12 := by
    have := Nat.div_le_self d (Nat.gcd e d)
    show ((d / Nat.gcd e d : Nat) : Int) ≤ 12
    exact Int.le_trans (Int.ofNat_le.2 this) (by omega)
  generalize mkR e d = z at sh q12
  rw [blend_is a b z (by omega) (by omega), small_blend sa sb sh]
  simp only [Option.bind_some]
  have hA : a.sum ≤ 55 := by
    have := asm.sum_le (n := 5) (by omega) (by omega); omega
  have hB : b.sum ≤ 55 := by
    have := bs.sum_le (n := 5) (by omega) (by omega); omega
  have hAB := mul_bound (x := a.sum) (y := b.sum) (X := 55) (Y := 55) ⟨by omega, hA⟩ ⟨by omega, hB⟩
  have hABp := Int.mul_pos ap bp
  have e2AB : 2 * a.sum * b.sum = 2 * (a.sum * b.sum) := Int.mul_assoc _ _ _
  obtain ⟨x, hx, xE, xP, xQ, xP1, xQ1, xv, _⟩ := far_is a b sa.ri sb.ri (al.trans bl.symm) (by omega)
  rw [hx]
  simp only [Option.bind_some]
  have hlen : a.length = b.length := al.trans bl.symm
  have g := good_of (sh := z) hlen (by rw [small_good sa sb sh]; simp)
  have ebq : bq z = z.Q := imax_one sh.q1
  have hS := bE_sum z hlen
  rw [ebq] at hS
  have hSp : 0 < (bE a b z).sum := by rw [hS]; exact Int.mul_pos (Int.mul_pos (by have := sh.q1; omega) ap) bp
  have hsm := small_bE sa sb sh
  have hlp := low_pos hsm hSp
  have hls := low_sum hsm hSp
  have hg := lg_pos hSp
  have cl : (low (bE a b z)).length = a.length := by rw [low_len, g.elen]
  have hC : (low (bE a b z)).sum ≤ 36300 := by
    have h1 : (low (bE a b z)).sum ≤ (bE a b z).sum := by
      rw [← hls]
      have := Int.mul_le_mul_of_nonneg_left (a := 1) (b := ((lg (bE a b z) : Nat) : Int)) (c := (low (bE a b z)).sum) (by omega) (by omega)
      omega
    have h2 : (bE a b z).sum ≤ 12 * 3025 := by
      rw [hS, Int.mul_assoc]
      exact (mul_bound (x := z.Q) (y := a.sum * b.sum) (X := 12) (Y := 3025) ⟨by have := sh.q1; omega, q12⟩ ⟨by omega, by omega⟩).2
    omega
  have rc : ri (low (bE a b z)) = true := by
    unfold ri
    rw [Bool.and_eq_true, wi_iff]
    exact ⟨⟨by rw [cl, al]; omega, by rw [cl, al]; omega, (low_sm hsm).mono (by omega)⟩, by simpa using hlp⟩
  have hAC := mul_bound (x := a.sum) (y := (low (bE a b z)).sum) (X := 55) (Y := 36300) ⟨by omega, hA⟩ ⟨by omega, hC⟩
  have e2AC : 2 * a.sum * (low (bE a b z)).sum = 2 * (a.sum * (low (bE a b z)).sum) := Int.mul_assoc _ _ _
  obtain ⟨y, hy, yE, yP, yQ, yP1, yQ1, yv, _⟩ := far_is a (low (bE a b z)) sa.ri rc cl.symm (by omega)
  rw [hy]
  simp only [Option.bind_some]
  obtain ⟨w, hw, wE, wQ, wv⟩ := mul_is xQ (by have := sh.q1; omega) xv sh.v xP sh.p0
    (by
      have := mul_bound (x := x.P) (y := z.P) (X := 6050) (Y := 12) ⟨xP, by omega⟩ ⟨sh.p0, by have := sh.pq; omega⟩
      omega)
    (by
      have := mul_bound (x := x.Q) (y := z.Q) (X := 6050) (Y := 12) ⟨by omega, by omega⟩ ⟨by have := sh.q1; omega, q12⟩
      omega)
  rw [hw]
  simp only [Option.bind_some, bne_self_eq_false, Bool.or_false]
  rw [if_neg (by simp)]
  have hcross : y.P * w.Q = w.P * y.Q := by
    refine between_cross (A := a.sum) (B := b.sum) (C := (low (bE a b z)).sum) (g := ((lg (bE a b z) : Nat) : Int)) (s := z.Q) (p := z.P) ap bp (by have := sh.q1; omega) xQ ?_ ?_ xE yE wE
    · rw [← hS, ← hls]; exact Int.mul_comm _ _
    · refine dist_low (s := z.Q) sh.p0 (by omega) (by omega) ?_ a b _ hlen cl.symm ?_
      · rw [← hS, ← hls]; exact Int.mul_comm _ _
      · intro i h1 h2 h3
        rw [low_g hsm hSp (by rw [g.elen]; exact h1)]
        simp only [bE, List.getElem_zipWith, ebq]
  rw [compare_is yQ wQ yv wv hcross, lives_is]
  rfl

/-! Blends -/

theorem blS_right (a b : List Int) (sh : SRatio) (h : (blS a b sh).2 = 0) : ri (blS a b sh).1 = true := by
  unfold blS at h ⊢
  by_cases h1 : a.length = b.length
  · rw [if_neg (show ¬ a.length ≠ b.length from fun h => h h1)] at h ⊢
    by_cases h2 : bad a b sh = true
    · rw [if_pos h2] at h; cases h
    · rw [if_neg h2] at h ⊢
      by_cases h3 : (!wi (low (bE a b sh)) 1048576) = true
      · rw [if_pos h3] at h; cases h
      · rw [if_neg h3]
        have g := good_of h1 h2
        have hs : 0 < (bE a b sh).sum := by
          rw [bE_sum sh h1]
          exact Int.mul_pos (Int.mul_pos (by unfold bq imax; split <;> omega) g.pa) g.pb
        have := low_pos g.sm hs
        have h4 : wi (low (bE a b sh)) 1048576 = true := by simpa using h3
        simp only [ri, h4, Bool.true_and, decide_eq_true_eq]
        exact this
  · rw [if_pos h1] at h; cases h

theorem bE_first (a b : List Int) (hl : a.length = b.length) (sh : SRatio) (h1 : sh.P = 0) (h2 : bq sh = 1) : bE a b sh = a.map (· * b.sum) := by
  apply List.ext_getElem
  · simp [bE, hl]
  · intro i h3 h4
    simp only [bE, List.getElem_zipWith, List.getElem_map, h1, h2]
    grind
theorem bE_second (a b : List Int) (hl : a.length = b.length) (sh : SRatio) (h1 : sh.P = 1) (h2 : bq sh = 1) : bE a b sh = b.map (· * a.sum) := by
  apply List.ext_getElem
  · simp [bE, hl]
  · intro i h3 h4
    simp only [bE, List.getElem_zipWith, List.getElem_map, h1, h2]
    grind
theorem bE_same (a : List Int) (sh : SRatio) : bE a a sh = a.map (· * (bq sh * a.sum)) := by
  apply List.ext_getElem
  · simp [bE]
  · intro i h3 h4
    simp only [bE, List.getElem_zipWith, List.getElem_map]
    grind

theorem blend_small {a b : List Int} {n : Nat} {sh : SRatio} (ha : Small a n) (hb : Small b n) (hs : Share sh) : fBlend a b sh = some (low (bE a b sh), 0) := by
  rw [blend_is a b sh (by have := ha.len; have := ha.l8; omega) (by have := hb.len; have := hb.l8; omega), small_blend ha hb hs]

theorem share0 : blS [1] [1] ⟨0, 0⟩ = ([1], 0) := by kernel_rfl
theorem small_blend0 {a b : List Int} {n : Nat} (ha : Small a n) (hb : Small b n) : blS a b ⟨0, 0⟩ = (low a, 0) := by
  have hl : a.length = b.length := ha.len.trans hb.len.symm
  have e : bq ⟨0, 0⟩ = 1 := by decide
  have hg : bad a b ⟨0, 0⟩ = false := by
    unfold bad
    rw [ha.ri, hb.ri, e]; rfl
  have hsum := ha.pos
  have hsumb := hb.pos
  unfold blS
  rw [if_neg (show ¬ a.length ≠ b.length from fun h => h hl), if_neg (by rw [hg]; simp), bE_first a b hl _ rfl e, low_mul ha.sm ha.pos hb.pos]
  have hw : wi (low a) 1048576 = true := wi_iff.2 ⟨by rw [low_len, ha.len]; exact ha.l1, by rw [low_len, ha.len]; have := ha.l8; omega, (low_sm ha.sm).mono (by omega)⟩
  rw [hw]; rfl
theorem small_blend1 {a b : List Int} {n : Nat} (ha : Small a n) (hb : Small b n) : blS a b ⟨1, 1⟩ = (low b, 0) := by
  have hl : a.length = b.length := ha.len.trans hb.len.symm
  have e : bq ⟨1, 1⟩ = 1 := by decide
  have hg : bad a b ⟨1, 1⟩ = false := by
    unfold bad
    rw [ha.ri, hb.ri, e]; rfl
  unfold blS
  rw [if_neg (show ¬ a.length ≠ b.length from fun h => h hl), if_neg (by rw [hg]; simp), bE_second a b hl _ rfl e, low_mul hb.sm hb.pos ha.pos]
  have hw : wi (low b) 1048576 = true := wi_iff.2 ⟨by rw [low_len, hb.len]; exact hb.l1, by rw [low_len, hb.len]; have := hb.l8; omega, (low_sm hb.sm).mono (by omega)⟩
  rw [hw]; rfl
theorem small_same {a : List Int} {n : Nat} {sh : SRatio} (ha : Small a n) (hs : Share sh) : blS a a sh = (low a, 0) := by
  rw [small_blend ha ha hs, bE_same, low_mul ha.sm ha.pos]
  exact Int.mul_pos (by unfold bq imax; split <;> omega) ha.pos

theorem pick6 {a b c d e f : List Int} {k : Nat} (h : k < 6) {N : Nat} (ha : a.length < N) (hb : b.length < N) (hc : c.length < N) (hd : d.length < N) (he : e.length < N) (hf : f.length < N) (h0 : 0 < N) :
    ∃ x y z, idx [[a, b], [c, b], [a, d], [[], []], [e, f], [a, a]] (k : Int) = some z ∧ idx z (0:Int) = some x ∧ idx z (1:Int) = some y ∧ x.length < N ∧ y.length < N := by
  match k, h with
  | 0, _ => exact ⟨_, _, _, rfl, rfl, rfl, ha, hb⟩
  | 1, _ => exact ⟨_, _, _, rfl, rfl, rfl, hc, hb⟩
  | 2, _ => exact ⟨_, _, _, rfl, rfl, rfl, ha, hd⟩
  | 3, _ => exact ⟨_, _, _, rfl, rfl, rfl, h0, h0⟩
  | 4, _ => exact ⟨_, _, _, rfl, rfl, rfl, he, hf⟩
  | 5, _ => exact ⟨_, _, _, rfl, rfl, rfl, ha, ha⟩

theorem learnBlends_true (l m : List Int) (n p q at_ by_ : Int) (hl : ∀ x ∈ l, I64 x) (hm : ∀ x ∈ m, I64 x) (hn : I64 n) (hp : I64 p) (hq : I64 q) (hat : I64 at_) (hby : I64 by_) : fLearnBlends l m n p q at_ by_ = some true := by
  unfold fLearnBlends
  obtain ⟨r, hr, r0, r1⟩ := around_is n 6 hn (by omega)
  rw [hr]
  simp only [Option.bind_some]
  rw [w64 (n := 1 + r) (by omega) (by omega)]
  obtain ⟨k, hk⟩ : ∃ k : Nat, 1 + r = (k : Int) := ⟨_, (Int.toNat_of_nonneg (by omega)).symm⟩
  rw [hk]
  obtain ⟨a, ha, al, asm, ap⟩ := made_is l k 40 hl (by omega) (by omega) (by omega) (by omega)
  obtain ⟨b, hb, bl, bs, bp⟩ := made_is m k 40 hm (by omega) (by omega) (by omega) (by omega)
  rw [ha, hb]
  simp only [Option.bind_some]
  have sa : Small a k := ⟨al, by omega, by omega, asm.mono (by omega), ap⟩
  have sb : Small b k := ⟨bl, by omega, by omega, bs.mono (by omega), bp⟩
  obtain ⟨c, hc, cl⟩ := odd_is a at_ by_ (by omega) hat hby
  obtain ⟨f, hf, fl⟩ := odd_is b at_ by_ (by omega) hat hby
  rw [hc, hf]
  simp only [Option.bind_some]
  have hsh : ∃ z, Share z ∧ fshares p q = some [z, (SRatio.mk (0:Int) (0:Int)), (SRatio.mk (1:Int) (1:Int)), (SRatio.mk (3:Int) (2:Int)), (SRatio.mk (-1:Int) (2:Int)), (SRatio.mk (2:Int) (4:Int)), (SRatio.mk (1:Int) (1024:Int)), (SRatio.mk (1:Int) (1025:Int))] := by
    unfold fshares
    obtain ⟨d0, hd, d1, d2⟩ := around_is q 20 hq (by omega)
    rw [hd]
    simp only [Option.bind_some]
    rw [w64 (n := 1 + d0) (by omega) (by omega)]
    obtain ⟨d, hdd⟩ : ∃ d : Nat, 1 + d0 = (d : Int) := ⟨_, (Int.toNat_of_nonneg (by omega)).symm⟩
    rw [hdd, w64 (n := (d : Int) + 1) (by omega) (by omega)]
    obtain ⟨p0, hp0, p1, p2⟩ := around_is p ((d : Int) + 1) hp (by omega)
    rw [hp0]
    simp only [Option.bind_some]
    obtain ⟨e, he⟩ : ∃ e : Nat, p0 = (e : Int) := ⟨_, (Int.toNat_of_nonneg (by omega)).symm⟩
    rw [he, make_small e d (by omega) (by omega) (by omega)]
    exact ⟨_, share_of (p := e) (d := d) (by omega) (by omega) (by omega), rfl⟩
  obtain ⟨z, hz, hsh⟩ := hsh
  rw [hsh]
  simp only [Option.bind_some]
  refine for_bind 6 (fun k => (k : Int)) (.inl ()) rfl ?_ (by rfl) ?_
  · intro i hi
    rw [if_pos (by simp; omega)]
    obtain ⟨x, y, t, ht, hx, hy, xl, yl⟩ := pick6 (a := a) (b := b) (c := c) (d := f) (e := c) (f := f) hi (N := 1000000) (by omega) (by omega) (by omega) (by omega) (by omega) (by omega) (by omega)
    rw [ht]
    simp only [Option.bind_some]
    rw [hx, hy]
    simp only [Option.bind_some]
    refine for_bind 8 (fun k => (k : Int)) (.inl ()) rfl ?_ (by rfl) ?_
    · intro j hj
      rw [if_pos (by simp; omega)]
      generalize hL : [z, (SRatio.mk (0:Int) (0:Int)), (SRatio.mk (1:Int) (1:Int)), (SRatio.mk (3:Int) (2:Int)), (SRatio.mk (-1:Int) (2:Int)), (SRatio.mk (2:Int) (4:Int)), (SRatio.mk (1:Int) (1024:Int)), (SRatio.mk (1:Int) (1025:Int))] = L
      obtain ⟨s, hs⟩ : ∃ s, idx L (j : Int) = some s := by
        rw [idx_nat, List.getElem?_eq_getElem (by rw [← hL]; simpa using hj)]
        exact ⟨_, rfl⟩
      rw [hs]
      simp only [Option.bind_some]
      rw [blend_is x y s xl yl, blendR_is x y s xl yl]
      simp only [Option.bind_some]
      have hbl : (blS x y s).1.length < 1000000 := by
        unfold blS
        split
        · simp
        · split
          · simp
          · split
            · simp
            · rw [low_len]; simp [bE]; omega
      rw [sameInts_is _ _ hbl, rightR_is _ hbl]
      simp only [bne_self_eq_false, beq_self_eq_true, opt_true, Option.bind_some, decide_true, Bool.not_true, Bool.false_or, Bool.true_and]
      cases he : ((blS x y s).2 == 0) with
      | false =>
        simp only [Bool.false_and]
        rw [show ((false == true) = false) from rfl, opt_false]
        simp only [Option.bind_some]
        rw [if_neg (by simp), w64_succ (n := 8) hj (by omega)]
      | true =>
        rw [beq_self_eq_true, opt_true]
        simp only [Option.bind_some]
        rw [blS_right x y s (by simpa using he), if_neg (by simp), w64_succ (n := 8) hj (by omega)]
    · simp only
      rw [w64_succ (n := 6) hi (by omega)]
  · simp only
    rw [blend_is a b _ (by omega) (by omega), blend_is a b _ (by omega) (by omega), small_blend0 sa sb, small_blend1 sa sb]
    simp only [Option.bind_some]
    rw [show idx [z, (SRatio.mk (0:Int) (0:Int)), (SRatio.mk (1:Int) (1:Int)), (SRatio.mk (3:Int) (2:Int)), (SRatio.mk (-1:Int) (2:Int)), (SRatio.mk (2:Int) (4:Int)), (SRatio.mk (1:Int) (1024:Int)), (SRatio.mk (1:Int) (1025:Int))] (0:Int) = some z from rfl]
    simp only [Option.bind_some]
    rw [blend_is a a _ (by omega) (by omega), small_same sa hz]
    simp only [Option.bind_some]
    rw [if_neg (by simp), lowestR_is sa.sm (by omega) (by omega)]
    simp only [Option.bind_some]
    rw [sameInts_is _ _ (by rw [low_len]; omega)]
    simp only [decide_true, beq_self_eq_true, opt_true, Option.bind_some, Bool.true_and]
    rw [lowestR_is sb.sm (by omega) (by omega)]
    simp only [Option.bind_some]
    rw [sameInts_is _ _ (by rw [low_len]; omega)]
    simp only [decide_true, beq_self_eq_true, opt_true, Option.bind_some, Bool.true_and]
    rw [sameInts_is _ _ (by rw [low_len]; omega)]
    simp only [decide_true, beq_self_eq_true, opt_true, Option.bind_some, Bool.true_and]
    rw [lives_is]
    rfl

end Go.Proofs.Ytjniiejgccdhiaa

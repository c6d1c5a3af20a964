/- CountsClashes, its plain law. No condition. -/
import Derived.Test.YtcdccjagknlmpaaGreatDoorCtA
import Derived.Test.YtcdccjagknlmpaaGreatDoorEvalA
import Derived.Test.YtcdccjagknlmpaaGreatDoorGenAll
import Derived.Test.YtcdccjagknlmpaaGreatDoorOk
namespace Go.Proofs.YtcdccjagknlmpaaGreatDoor
open Go.Sim

theorem QmX (S : List Nat) : (ints S).length = S.length := by simp [ints]
/-! Clash -/

theorem Qmc : Sat [] := ⟨[0, 0, 0, 0, 0, 0], KInv.zero.vec (L := []), fun y hy => by cases hy⟩
theorem QoR {L : List Qb} : ∀ (m : Nat) (S : List Nat) (f : Nat), f + m = L.length → ¬ Sat (sel L (S ++ List.range' f (L.length - f))) → QaZ L m S f ≠ []
 | 0, S, f, h, hn => by
  have e : L.length - f = 0 := by omega
  rw [e, List.range'_zero, List.append_nil] at hn
  show (if tell (Sat (sel L S)) = true then [] else S) ≠ []
  rw [if_neg (fun hh => hn (QdE.1 hh))]
  rintro rfl
  exact hn Qmc
 | m + 1, S, f, h, hn => by
  show (if tell (Sat (sel L (S ++ List.range' f (L.length - f)))) = true then [] else tryS (fun i => QaZ L m (S ++ [i]) (i + 1)) (List.range' f (L.length + 1 - (m + 1) - f))) ≠ []
  rw [if_neg (fun hh => hn (QdE.1 hh)), show L.length + 1 - (m + 1) - f = 1 by omega]
  have ih := QoR (L := L) m (S ++ [f]) (f + 1) (by omega) (by
   rw [List.append_assoc]
   have e : L.length - f = (L.length - (f + 1)) + 1 := by omega
   rw [e, List.range'_succ] at hn
   exact hn)
  show (if QaZ L m (S ++ [f]) (f + 1) ≠ [] then QaZ L m (S ++ [f]) (f + 1) else []) ≠ []
  rw [if_pos ih]; exact ih
/-- The smallest set of limits that no numbers keep. -/
noncomputable def Q0 (L : List Qb) : List Nat := tryS (fun m => QaZ L m [] 0) (List.range' 1 L.length)
theorem Qon {f : Nat → List Nat} : ∀ {l : List Nat} {i : Nat}, i ∈ l → f i ≠ [] → tryS f l ≠ []
 | j :: l, i, hi, h => by
  show (if f j ≠ [] then f j else tryS f l) ≠ []
  by_cases hj : f j ≠ []
  ·rw [if_pos hj]; exact hj
  ·rw [if_neg hj]
   rcases List.mem_cons.1 hi with rfl | hi
   ·exact (hj h).elim
   ·exact Qon hi h
theorem QmY {f : Nat → List Nat} : ∀ {l : List Nat}, tryS f l ≠ [] → ∃ i ∈ l, tryS f l = f i
 | [], h => (h rfl).elim
 | j :: l, h => by
  by_cases hj : f j ≠ []
  ·exact ⟨j, List.mem_cons_self .., if_pos hj⟩
  ·have e : tryS f (j :: l) = tryS f l := if_neg hj
   rw [e] at h ⊢
   obtain ⟨i, hi, h1⟩ := QmY h
   exact ⟨i, List.mem_cons_of_mem _ hi, h1⟩
theorem QvY (L : List Qb) : sel L (List.range' 0 L.length) = L := by
 apply List.ext_getElem
 ·simp [sel]
 ·intro i h1 h2
  simp [sel, List.getD_eq_getElem?_getD, h2]
theorem QlK {L : List Qb} (h : ¬ Sat L) : Q0 L ≠ [] := by
 have hpos : 0 < L.length := by
  refine Nat.pos_of_ne_zero fun h0 => h ?_
  rw [List.length_eq_zero_iff.1 h0]; exact Qmc
 refine Qon (i := L.length) (List.mem_range'_1.2 ⟨hpos, by omega⟩) (QoR _ _ _ (by omega) ?_)
 rw [List.nil_append, Nat.sub_zero, QvY]; exact h
theorem QlL {L : List Qb} : ∀ (m : Nat) (S : List Nat) (f : Nat), QeP L S f → QaZ L m S f ≠ [] → ∃ g, QeP L (QaZ L m S f) g ∧ ¬ Sat (sel L (QaZ L m S f)) ∧ (QaZ L m S f).length = S.length + m
 | 0, S, f, hS, h => by
  have e : QaZ L 0 S f = if tell (Sat (sel L S)) = true then [] else S := rfl
  by_cases hs : tell (Sat (sel L S)) = true
  ·rw [e, if_pos hs] at h; exact (h rfl).elim
  ·rw [e, if_neg hs]
   exact ⟨f, hS, fun hh => hs (QdE.2 hh), rfl⟩
 | m + 1, S, f, hS, h => by
  have e : QaZ L (m + 1) S f = if tell (Sat (sel L (S ++ List.range' f (L.length - f)))) = true then [] else tryS (fun i => QaZ L m (S ++ [i]) (i + 1)) (List.range' f (L.length + 1 - (m + 1) - f)) := rfl
  by_cases hs : tell (Sat (sel L (S ++ List.range' f (L.length - f)))) = true
  ·rw [e, if_pos hs] at h; exact (h rfl).elim
  ·rw [e, if_neg hs] at h ⊢
   obtain ⟨i, hi, h1⟩ := QmY h
   rw [h1] at h ⊢
   have hi' := List.mem_range'_1.1 hi
   obtain ⟨g, g1, g2, g3⟩ := QlL m (S ++ [i]) (i + 1) (hS.snoc hi'.1 (by omega)) h
   exact ⟨g, g1, g2, by rw [g3]; simp; omega⟩
theorem Qmd (L : List Qb) : QeP L [] 0 := ⟨List.Pairwise.nil, fun i hi => (by cases hi), Nat.zero_le _⟩
theorem QjN {L : List Qb} (h : ¬ Sat L) : ∃ g m, QeP L (Q0 L) g ∧ ¬ Sat (sel L (Q0 L)) ∧ (Q0 L).length = m ∧ 1 ≤ m ∧ m ≤ L.length := by
 have hne := QlK h
 obtain ⟨m, hm, e⟩ := QmY (show tryS (fun m => QaZ L m [] 0) (List.range' 1 L.length) ≠ [] from hne)
 have e : Q0 L = QaZ L m [] 0 := e
 rw [e] at hne ⊢
 obtain ⟨g, g1, g2, g3⟩ := QlL m [] 0 (Qmd L) hne
 have hm := List.mem_range'_1.1 hm
 exact ⟨g, m, g1, g2, by rw [g3]; simp, hm.1, by omega⟩

noncomputable def Qqc (n : Int) (L : List Qb) : List Int × Int :=
 if n < 1 ∨ 6 < n then ([], 1) else if (L.all fun y => QgJ y n) = false then ([], 1) else if 24 < L.length then ([], 4) else if tell (Sat L) = true then ([], 6) else (ints (Q0 L), 0)
theorem vl6 {y : Qb} {n : Int} (h : VL y n) (hn : n ≤ 6) : VL y 6 := ⟨h.a0, by have := h.a1; omega, h.b0, by have := h.b1; omega, h.m0, h.m1⟩
theorem QoS {g : Nat → List Nat} {body : Int × Int → Option ((Int × Int) ⊕ Int)} : ∀ (c m : Nat), (∀ i, m ≤ i → i < m + c → body ((i : Int), 0) = some (.inl (((i + 1 : Nat) : Int), ((num (g i) : Nat) : Int)))) →
  (∀ i (x : Int), x ≠ 0 → body (i, x) = some (.inr x)) → tryS g (List.range' m c) ≠ [] → QI body ((m : Int), 0) = some ((num (tryS g (List.range' m c)) : Nat) : Int)
 | 0, m, _, _, h => (h rfl).elim
 | c + 1, m, hb, he, h => by
  rw [List.range'_succ] at h ⊢
  rw [QbE, hb m (Nat.le_refl _) (by omega)]
  by_cases hj : g m ≠ []
  ·have e : tryS g (m :: List.range' (m + 1) c) = g m := if_pos hj
   rw [e]
   show QI body (((m + 1 : Nat) : Int), ((num (g m) : Nat) : Int)) = _
   rw [QbE, he _ _ (by have := (not_congr (QkX (S := g m))).2 hj; omega)]
  ·have e : tryS g (m :: List.range' (m + 1) c) = tryS g (List.range' (m + 1) c) := if_neg hj
   rw [e] at h ⊢
   show QI body (((m + 1 : Nat) : Int), ((num (g m) : Nat) : Int)) = _
   rw [QkX.2 (Classical.not_not.1 hj)]
   exact QoS c (m + 1) (fun i h1 h2 => hb i (by omega) (by omega)) he h

theorem Qt8 {L : List Qb} {n : Int} (hl : L.length ≤ 1000000) : Qbz n L = some (Qqc n L) := by
 unfold Qbz Qqc
 have hany : Qah L (fun x0 => QcL x0 n) = some (L.any fun y => !QgJ y n) := Qp8 (f := fun x0 => QcL x0 n) hl (fun y hy => rfl)
 by_cases hn : n < 1 ∨ 6 < n
 ·have e : (decide (n < 1) || decide (n > 6)) = true := by simpa using hn
  rw [if_pos hn, e]
  rfl
 ·have e : (decide (n < 1) || decide (n > 6)) = false := by simp; omega
  rw [if_neg hn, e, show (false == false) = true from rfl, Qfg, hany]
  simp only [Option.bind_some, Bool.false_or]
  have hva : (L.any fun y => !QgJ y n) = !(L.all fun y => QgJ y n) := by rw [List.all_eq_not_any_not]; simp
  rw [hva]
  cases hv : (L.all fun y => QgJ y n) with
  | false => rfl
  | true =>
   have hv6 : ∀ y ∈ L, VL y 6 := fun y hy => vl6 (Qi1.1 (List.all_eq_true.1 hv y hy)) (by omega)
   rw [if_neg (show ¬ ((!true) = true) by decide), if_neg (show ¬ (true = false) by decide)]
   by_cases h24 : 24 < L.length
   ·rw [if_pos (by simp; omega), if_pos h24]
   ·rw [if_neg (by simp; omega), if_neg h24, Qoj hl hv6]
    simp only [Option.bind_some]
    cases hs : tell (Sat L) with
    | true => rfl
    | false =>
     rw [if_neg (show ¬ (false = true) by decide), if_neg (show ¬ (false = true) by decide)]
     have hns := tell_f.1 hs
     obtain ⟨g, k, g1, g2, g3, g4, g5⟩ := QjN hns
     have hg := QoS (g := fun m => QaZ L m [] 0) (body := (fun (s12 : Int × Int) => ((if (s12.2 == (0:Int)) = true then (Qec L (0:Int) (0:Int) s12.1).bind fun t34 => (some (.inl ((IntKind.i64.wrap (s12.1 + (1:Int))), t34))) else (some (.inr s12.2))) : Option ((Int × Int) ⊕ ((Int)))))) L.length 1 (fun i h1 h2 => ?_) (fun i x hx => ?_) (QlK hns)
     ·have hg' : QI (fun (s12 : Int × Int) => ((if (s12.2 == (0:Int)) = true then (Qec L (0:Int) (0:Int) s12.1).bind fun t34 => (some (.inl ((IntKind.i64.wrap (s12.1 + (1:Int))), t34))) else (some (.inr s12.2))) : Option ((Int × Int) ⊕ ((Int))))) ((1:Int), (0:Int)) = some ((num (Q0 L) : Nat) : Int) := hg
      rw [hg']
      simp only [Option.bind_some]
      have hin := g1.in
      rw [QoQ (Q0 L) g1.up (fun j hj => by have := hin j hj; omega) (fun i => (i : Int)) (fun i T acc hi ha hup hlt => ?_) (fun acc => if_neg (by simp))]
      ·rfl
      ·have hf := QoP hup hlt
       have hp := Qoh (i := i) (S := T)
       dsimp only
       rw [if_pos (by simp; omega), hf.1, hf.2]
       simp only [Option.bind_some]
       rw [Qgn (by simp; omega)]
       rfl
     ·dsimp only
      have h0 := QmA (L := L) (by omega) hv6 i ((i : Int).natAbs + 2) [] 0 (by omega) (Qmd L) (by omega)
      rw [if_pos (show ((0:Int) == (0:Int)) = true from rfl)]
      show ((QbB ((i : Int).natAbs + 2) L (0:Int) (0:Int) (i : Int)).bind fun t34 => some (Sum.inl (IntKind.i64.wrap ((i : Int) + 1), t34))) = _
      have h0' : QbB ((i : Int).natAbs + 2) L (0:Int) (0:Int) (i : Int) = some ((num (QaZ L i [] 0) : Nat) : Int) := h0
      rw [h0']
      simp only [Option.bind_some]
      rw [Qab (n := i + 1) (by omega) (by omega)]
     ·dsimp only
      rw [if_neg (by simpa using hx)]
end Go.Proofs.YtcdccjagknlmpaaGreatDoor

namespace Go.Proofs.YtcdccjagknlmpaaGreatDoor
open Go.Sim

theorem QsR {p n : Int} (hp : I64 p) : Ok (Qbn p n) (fun r => 0 ≤ r ∧ (1 ≤ n → r < n) ∧ (n ≤ 0 → r = 0)) := by
 have hp' := hp
 unfold I64 at hp'
 have key : ∀ q : Int,0 ≤ q → Ok (if decide (n < 1) = true then some 0 else (nz n).bind fun _ => some (Int.tmod q n)) (fun r => 0 ≤ r ∧ (1 ≤ n → r < n) ∧ (n ≤ 0 → r = 0)) := fun q hq => by
  refine Ok.ite (fun h => ?_) (fun h => ?_)
  ·have : n < 1 := of_decide_eq_true h
   exact Ok.mk ⟨Int.le_refl _,fun h => by omega,fun _ => rfl⟩
  ·have : ¬ n < 1 := of_decide_eq_false h
   rw [QrI (by omega)]
   exact Ok.mk ⟨Int.tmod_nonneg _ hq,fun _ => Int.tmod_lt_of_pos _ (by omega),fun h => by omega⟩
 unfold Qbn
 refine Ok.bind (P := fun q => 0 ≤ q) (Ok.ite (fun h => ?_) (fun h => ?_)) (fun q hq => key q hq)
 ·have : p < 0 := of_decide_eq_true h
  refine Ok.mk ?_
  have e1 : IntKind.i64.wrap (p + 1) = p + 1 := w64 (by omega) (by omega)
  rw [e1,w64 (by omega) (by omega)]; omega
 ·have : ¬ p < 0 := of_decide_eq_false h
  exact Ok.mk (by omega)

section
variable {β : Type} {Q : β → Prop}
theorem Ok.around {p n : Int} {f : Int → Option β} (hp : I64 p) (hn : 1 ≤ n) (k : ∀ r,0 ≤ r → r < n → Ok (f r) Q) : Ok ((Qbn p n).bind f) Q :=
 (QsR hp).bind fun r h => k r h.1 (h.2.1 hn)
def MOk (m : Qv) : Prop := ∀ x ∈ m.L,I64 x
theorem Qd3 {m : Qv} {n : Int} (hm : MOk m) (hn : 1 ≤ n) : Ok (QA m n) (fun r => 0 ≤ r.1 ∧ r.1 < n ∧ MOk r.2) := by
 unfold QA Qe4
 refine Ok.bind (P := fun r => 0 ≤ r ∧ r < n) (Ok.ite (fun h => Ok.mk ⟨Int.le_refl _,by omega⟩) (fun h => ?_)) (fun r hr => Ok.mk ⟨hr.1,hr.2,hm⟩)
 simp only [Bool.or_eq_false_iff,decide_eq_false_iff_not] at h
 refine Ok.idx (by omega) (by omega) fun v hv _ => ?_
 exact Ok.around (hm v hv) hn fun r h0 h1 => Ok.mk ⟨h0,h1⟩
theorem Ok.take {m : Qv} {n : Int} {f : Int × Qv → Option β} (hm : MOk m) (hn : 1 ≤ n) (k : ∀ r m',0 ≤ r → r < n → MOk m' → Ok (f (r,m')) Q) : Ok ((QA m n).bind f) Q :=
 (Qd3 hm hn).bind fun r h => k r.1 r.2 h.1 h.2.1 h.2.2
end

/-- A name of the generators: it is short and does not begin with a z. -/
def SN (s : Str) : Prop := s.length ≤ 20 ∧ s.head? ≠ some 122
/-- The names of a field. -/
def FN (f : Qc) : Prop := SN f.Name ∧ SN f.Of ∧ SN f.Up
/-- A field of the generators. -/
def FOk (f : Qc) : Prop := f.Words.length ≤ 6 ∧ f.Weights.length ≤ 6 ∧ FN f
/-- A kind of the generators, with at most n fields. -/
def KOk (n : Nat) (k : Qi) : Prop := k.Fields.length ≤ n ∧ (∀ f ∈ k.Fields,FOk f) ∧ SN k.Name

theorem QiE {l : List Qc} {name : Str} (hl : l.length ≤ 1000) : Ok (Qc9 l name) (fun r => -1 ≤ r ∧ r < l.length) := by
 unfold Qc9
 refine Ok.bind (P := fun e => match e with | .inl _ => True | .inr r => 0 ≤ r ∧ r < l.length) (Ok.loop (fun k s => 0 ≤ s ∧ s + k = l.length) l.length ⟨by omega,by omega⟩ fun k s hs => ?_) (fun e he => ?_)
 ·refine Ok.ite (fun h => ?_) (fun h => Ok.mk trivial)
  have h' : s < l.length := of_decide_eq_true h
  refine Ok.idx hs.1 h' fun v _ _ => Ok.ite (fun _ => Ok.mk ⟨hs.1,h'⟩) (fun _ => Ok.mk ?_)
  rw [w64 (by omega) (by omega)]
  exact ⟨k - 1,by omega,by omega,by omega⟩
 ·rcases e with e | e
  ·exact Ok.mk ⟨by omega,by omega⟩
  ·exact Ok.mk ⟨by omega,he.2⟩
theorem QoT {k : Qi} (hl : k.Fields.length ≤ 1000) : Ok (Qdz k) (fun r => -1 ≤ r ∧ r < k.Fields.length) := by
 unfold Qdz
 refine Ok.bind (P := fun e => match e with | .inl _ => True | .inr r => 0 ≤ r ∧ r < k.Fields.length) (Ok.loop (fun n s => 0 ≤ s ∧ s + n = k.Fields.length) k.Fields.length ⟨by omega,by omega⟩ fun n s hs => ?_) (fun e he => ?_)
 ·refine Ok.ite (fun h => ?_) (fun h => Ok.mk trivial)
  have h' : s < k.Fields.length := of_decide_eq_true h
  refine Ok.idx hs.1 h' fun v _ _ => Ok.ite (fun _ => Ok.mk ⟨hs.1,h'⟩) (fun _ => Ok.mk ?_)
  rw [w64 (by omega) (by omega)]
  exact ⟨n - 1,by omega,by omega,by omega⟩
 ·rcases e with e | e
  ·exact Ok.mk ⟨by omega,by omega⟩
  ·exact Ok.mk ⟨by omega,he.2⟩

theorem Qqd {m : Qv} (hm : MOk m) : Ok (QaN m) (fun r => r.1.length ≤ 2 ∧ (∀ f ∈ r.1,FOk f) ∧ MOk r.2) := by
 unfold QaN
 refine Ok.take hm (by decide) fun r m1 _ _ h1 => ?_
 refine Ok.ite (fun _ => ?_) (fun _ => ?_)
 ·refine Ok.take h1 (by decide) fun r2 m2 _ _ h2 => Ok.take h2 (by decide) fun r3 m3 _ _ h3 => Ok.mk ⟨by simp,by simp [FOk,FN,SN],h3⟩
 refine Ok.ite (fun _ => ?_) (fun _ => ?_)
 ·refine Ok.take h1 (by decide) fun r2 m2 h20 h21 h2 => ?_
  have hr2 : IntKind.i64.wrap (1 + r2) = 1 + r2 := w64 (by omega) (by omega)
  refine Ok.sub (by decide) (by dsimp only; rw [hr2]; omega) (by dsimp only; rw [hr2]; simp; omega) fun w hw _ => ?_
  dsimp only at hw
  rw [hr2] at hw
  have hwl : 1 ≤ w.length ∧ w.length ≤ 3 := by omega
  refine Ok.bind (P := fun r => r.1.length = w.length ∧ MOk r.2) (Ok.loop (fun k s => 0 ≤ s.1 ∧ s.1 + k = w.length ∧ s.2.1.length = s.1 ∧ MOk s.2.2) w.length ⟨Int.le_refl _,by simp,by simp,h2⟩ fun k s hs => ?_) (fun p hp => ?_)
  ·obtain ⟨i,ws,m3⟩ := s
   obtain ⟨e1,e2,e3,e4⟩ := hs
   dsimp only at e1 e2 e3 e4
   refine Ok.ite (fun h => ?_) (fun h => ?_)
   ·have h' : i < w.length := of_decide_eq_true h
    refine Ok.take e4 (by decide) fun r4 m4 _ _ h4 => Ok.rm (by simp; omega) (Ok.mk ?_)
    dsimp only
    rw [w64 (by omega) (by omega)]
    exact ⟨k - 1,by omega,by omega,by omega,by simp; omega,h4⟩
   ·have h' : ¬ i < w.length := of_decide_eq_false h
    exact Ok.mk ⟨by dsimp only; omega,e4⟩
  ·refine Ok.take hp.2 (by omega) fun r4 m4 h40 h41 h4 => Ok.take h4 (by decide) fun r5 m5 _ _ h5 => ?_
   refine Ok.setAt h40 (by dsimp only; omega) (Ok.mk ⟨by simp,?_,h5⟩)
   intro f hf
   rw [List.mem_singleton] at hf
   subst hf
   exact ⟨by dsimp only; omega,by simp only [List.length_set]; omega,by simp [FN,SN]⟩
 refine Ok.ite (fun _ => ?_) (fun _ => ?_)
 ·refine Ok.take h1 (by decide) fun r2 m2 _ _ h2 => Ok.take h2 (by decide) fun r3 m3 _ _ h3 => Ok.take h3 (by decide) fun r4 m4 _ _ h4 => Ok.take h4 (by decide) fun r5 m5 _ _ h5 => Ok.mk ⟨by simp,by simp [FOk,FN,SN],h5⟩
 refine Ok.ite (fun _ => ?_) (fun _ => ?_)
 ·refine Ok.take h1 (by decide) fun r2 m2 _ _ h2 => Ok.take h2 (by decide) fun r3 m3 _ _ h3 => Ok.mk ⟨by simp,by simp [FOk,FN,SN],h3⟩
 refine Ok.ite (fun _ => ?_) (fun _ => ?_)
 ·refine Ok.take h1 (by decide) fun r2 m2 _ _ h2 => Ok.take h2 (by decide) fun r3 m3 _ _ h3 => Ok.take h3 (by decide) fun r4 m4 _ _ h4 => Ok.take h4 (by decide) fun r5 m5 _ _ h5 => Ok.mk ⟨by simp,by simp [FOk,FN,SN],h5⟩
 ·exact Ok.mk ⟨by simp,by simp,h1⟩

end Go.Proofs.YtcdccjagknlmpaaGreatDoor

namespace Go.Proofs.YtcdccjagknlmpaaGreatDoor
open Go.Sim

/-- A kind of the generator: its name is not empty. -/
def GOk (n : Nat) (k : Qi) : Prop := KOk n k ∧ 1 ≤ k.Name.length ∧ k.Name.length ≤ 6
theorem GOk.weak {a b : Nat} {k : Qi} (h : GOk a k) (hab : a ≤ b) : GOk b k := ⟨⟨by have := h.1.1; omega,h.1.2⟩,h.2⟩
theorem fok {n o u : Str} {k lo hi : Int} (h1 : SN n) (h2 : SN o) (h3 : SN u) : FOk ⟨n,o,u,k,lo,hi,[],[]⟩ := ⟨by simp,by simp,h1,h2,h3⟩
theorem QnK : SN [] := by simp [SN]
theorem QdH {c : Bool} {a b : Qv} (h : c = true → MOk a) (k : MOk b) : MOk (bif c == true then a else b) := by
 cases c with
 | true => exact h rfl
 | false => exact k
set_option maxHeartbeats 1000000 in
theorem QvZ {m : Qv} {l : List Qi} {N : Nat} (hm : MOk m) (hl : l.length ≤ 2) (hN : N ≤ 20) (hk : ∀ k ∈ l,GOk N k) :
  Ok (Qbk m l) (fun r => GOk 9 r.1 ∧ MOk r.2.1 ∧ r.2.2.length = l.length ∧ ∀ k ∈ r.2.2,GOk (N + 1) k) := by
 unfold Qbk
 refine Ok.take hm (by decide) fun r1 m1 a1 b1 h1 => ?_
 refine Ok.idx a1 (by simpa using b1) fun lo _ _ => ?_
 refine Ok.idx (by omega) (by simp; omega) fun name hname _ => ?_
 have hn : 1 ≤ name.length ∧ name.length ≤ 6 := by
  simp only [List.mem_cons,List.not_mem_nil,or_false] at hname
  rcases hname with rfl | rfl | rfl <;> decide
 have hsn : SN name := by
  simp only [List.mem_cons,List.not_mem_nil,or_false] at hname
  rcases hname with rfl | rfl | rfl <;> simp [SN]
 refine Ok.take h1 (by decide) fun r2 m2 _ _ h2 => ?_
 refine Ok.take h2 (by decide) fun r3 m3 a3 b3 h3 => ?_
 refine Ok.idx a3 (by simpa using b3) fun id0 _ _ => ?_
 refine Ok.rm (by simp) ?_
 refine Ok.bind (P := fun p : Qv × List Qc × List Qi => MOk p.1 ∧ p.2.1.length ≤ 4 ∧ (∀ f ∈ p.2.1,FOk f) ∧ p.2.2.length = l.length ∧ ∀ k ∈ p.2.2,GOk (N + 1) k)
  (Ok.ite (fun hpos => ?_) (fun _ => Ok.mk ⟨h3,by simp,by simp [FOk,FN,SN],rfl,fun k h => (hk k h).weak (by omega)⟩)) fun p hp => ?_
 ·have hpos' : (0:Int) < l.length := of_decide_eq_true hpos
  refine Ok.take h3 (by omega) fun to m4 a4 b4 h4 => ?_
  refine Ok.idx a4 b4 fun kt hkt ekt => ?_
  refine Ok.take h4 (by decide) fun r5 m5 a5 b5 h5 => ?_
  refine Ok.idx a5 (by simpa using b5) fun hi _ _ => ?_
  refine Ok.take h5 (by decide) fun r6 m6 _ _ h6 => ?_
  have skt := (hk kt hkt).1.2.2
  refine Ok.bind (P := FOk) (Ok.ite (fun _ => Ok.mk (fok (by simp [SN]) skt QnK)) (fun _ => Ok.mk (fok (by simp [SN]) skt QnK))) fun f hf => ?_
  refine Ok.rm (by simp) ?_
  refine Ok.idx a4 b4 fun kt1 hkt1 _ => ?_
  refine (QoT (by have := (hk _ hkt1).1.1; omega)).bind fun c hc => ?_
  refine Ok.opt (P := fun r : Int × Qv => MOk r.2) (fun h => (Qd3 h6 (by decide)).weak fun r h => h.2.2) fun r7 h7 => ?_
  have m7 : MOk (bif (decide (c ≥ (0:Int))) == true then r7.2 else m6) := QdH (fun h => h7 (by rw [h]; rfl)) h6
  refine Ok.bind (P := fun p : List Qc => p.length ≤ 3 ∧ ∀ f ∈ p,FOk f) (Ok.ite (fun h => ?_) (fun _ => Ok.mk ⟨by simp,?_⟩)) fun fs hfs => ?_
  ·simp only [Bool.and_eq_true,decide_eq_true_eq] at h
   refine Ok.idx a4 b4 fun kt2 hkt2 ekt2 => ?_
   have e : kt2 = kt1 := by simp_all
   subst e
   refine Ok.idx h.1 hc.2 fun g hg _ => Ok.rm (by simp) (Ok.mk ⟨by simp,?_⟩)
   have sg := ((hk _ hkt1).1.2.1 g hg).2.2.1
   intro x hx
   simp only [List.nil_append,List.cons_append,List.mem_cons,List.not_mem_nil,or_false] at hx
   rcases hx with rfl | rfl | rfl
   ·simp [FOk,FN,SN]
   ·exact hf
   ·exact fok (by simp [SN]) sg (by simp [SN])
  ·intro x hx
   simp only [List.nil_append,List.cons_append,List.mem_cons,List.not_mem_nil,or_false] at hx
   rcases hx with rfl | rfl
   ·simp [FOk,FN,SN]
   ·exact hf
  ·refine Ok.idx a4 b4 fun kt3 hkt3 ekt3 => ?_
   refine (QiE (by have := (hk _ hkt3).1.1; omega)).bind fun tot htot => ?_
   refine Ok.opt (P := fun r : Int × Qv => MOk r.2) (fun h => (Qd3 m7 (by decide)).weak fun r h => h.2.2) fun r8 h8 => ?_
   have m8 : MOk (bif (decide (tot < (0:Int))) == true then r8.2 else (bif (decide (c ≥ (0:Int))) == true then r7.2 else m6)) := QdH (fun h => h8 (by rw [h]; rfl)) m7
   refine Ok.bind (P := fun p : Qv × List Qc × List Qi => MOk p.1 ∧ p.2.1.length ≤ 4 ∧ (∀ f ∈ p.2.1,FOk f) ∧ p.2.2.length = l.length ∧ ∀ k ∈ p.2.2,GOk (N + 1) k)
    (Ok.ite (fun h => ?_) (fun _ => Ok.mk ⟨m8,by have := hfs.1; dsimp only; omega,hfs.2,rfl,fun k h => (hk k h).weak (by omega)⟩)) fun p hp => Ok.mk hp
   refine Ok.take m8 (by decide) fun r9 m9 _ _ h9 => Ok.take h9 (by decide) fun r10 m10 _ _ h10 => ?_
   refine Ok.rm (by have := hfs.1; simp; omega) ?_
   refine Ok.idx a4 b4 fun kt4 hkt4 ekt4 => ?_
   have hk4 := hk _ hkt4
   have hk41 := hk4.1.1
   refine Ok.rm (by simp; omega) (Ok.rm (by simp; omega) ?_)
   refine Ok.idx a4 b4 fun kt5 hkt5 ekt5 => ?_
   have e : kt5 = kt4 := by simp_all
   subst e
   refine Ok.setAt a4 b4 (Ok.mk ⟨h10,?_,?_,?_,?_⟩)
   ·have := hfs.1; simp; omega
   ·intro x hx
    rcases List.mem_append.1 hx with hx | hx
    ·exact hfs.2 x hx
    ·rw [List.mem_singleton] at hx; subst hx; simp [FOk,FN,SN]
   ·simp
   ·intro k hkm
    rcases List.mem_or_eq_of_mem_set hkm with hkm | rfl
    ·exact (hk k hkm).weak (by omega)
    ·refine ⟨⟨?_,?_,hk4.1.2.2⟩,hk4.2⟩
     ·simp; omega
     ·intro x hx
      rcases List.mem_append.1 hx with hx | hx
      ·exact hk4.1.2.1 x (by simpa using hx)
      ·rw [List.mem_singleton] at hx; subst hx; exact fok (by simp [SN]) hsn QnK
 ·obtain ⟨q1,q2,q3,q4,q5⟩ := hp
  refine Ok.opt (P := fun r : Int × Qv => MOk r.2) (fun h => (Qd3 q1 (by decide)).weak fun r h => h.2.2) fun r11 h11 => ?_
  have m11 : MOk (bif (decide ((l.length : Int) > (1:Int))) == true then r11.2 else p.1) := QdH (fun h => h11 (by rw [h]; rfl)) q1
  refine Ok.bind (P := fun p : List Qc => p.length ≤ 5 ∧ ∀ f ∈ p,FOk f) (Ok.ite (fun h => ?_) (fun _ => Ok.mk ⟨by omega,q3⟩)) fun fs hfs => ?_
  ·simp only [Bool.and_eq_true,decide_eq_true_eq] at h
   refine Ok.idx (by decide) (by omega) fun k0 hk0 _ => Ok.rm (by simp; omega) (Ok.mk ⟨by simp; omega,?_⟩)
   intro x hx
   rcases List.mem_append.1 hx with hx | hx
   ·exact q3 x hx
   ·rw [List.mem_singleton] at hx; subst hx; exact fok (by simp [SN]) (q5 k0 hk0).1.2.2 QnK
  ·refine (Qqd m11).bind fun r12 h12 => ?_
   obtain ⟨c1,c2,c3⟩ := h12
   obtain ⟨f1,f2⟩ := hfs
   refine Ok.rm (by omega) ?_
   refine Ok.take c3 (by decide) fun r13 m13 _ _ h13 => ?_
   have all7 : ∀ f ∈ fs ++ r12.1,FOk f := fun x hx => (List.mem_append.1 hx).elim (f2 x) (c2 x)
   have len7 : (fs ++ r12.1).length ≤ 7 := by simp; omega
   refine Ok.bind (P := fun p : Qv × List Qc => MOk p.1 ∧ p.2.length ≤ 9 ∧ ∀ f ∈ p.2,FOk f) (Ok.ite (fun h => ?_) (fun _ => Ok.mk ⟨h13,by dsimp only; omega,all7⟩)) fun p52 hp52 => Ok.mk ⟨⟨⟨hp52.2.1,hp52.2.2,hsn⟩,hn⟩,hp52.1,q4,q5⟩
   refine (Qqd h13).bind fun r14 h14 => ?_
   obtain ⟨d1,d2,d3⟩ := h14
   refine Ok.opt (P := fun _ => True) (fun h => ?_) fun g _ => ?_
   ·have h' : (r14.1.length : Int) > 0 := by simpa using h
    exact (Ok.idx (by decide) (by omega) fun v _ _ => Ok.mk trivial : Ok ((idx r14.1 0).bind some) _).weak (fun _ h => h) |> fun h => by simpa using h
   refine Ok.opt (P := fun _ => True) (fun h => (QiE (by omega)).weak fun _ _ => trivial) fun g2 _ => ?_
   refine Ok.bind (P := fun p : List Qc => p.length ≤ 9 ∧ ∀ f ∈ p,FOk f) (Ok.ite (fun h => Ok.rm (by omega) (Ok.mk ⟨by rw [List.length_append]; omega,fun x hx => (List.mem_append.1 hx).elim (all7 x) (d2 x)⟩)) (fun _ => Ok.mk ⟨by omega,all7⟩)) fun p64 hp64 => Ok.mk ⟨d3,hp64.1,hp64.2⟩

end Go.Proofs.YtcdccjagknlmpaaGreatDoor

namespace Go.Proofs.YtcdccjagknlmpaaGreatDoor
open Go.Sim

/-- The names of a rule. -/
def RN (r : Qo) : Prop := SN r.Name ∧ SN r.Kind ∧ SN r.A ∧ SN r.B
theorem Qqe {a r : Str} (h1 : 1 ≤ a.length) (h2 : a.length ≤ 10) (h : a.head? ≠ some 122) (hr : r.length = 1) : SN (a ++ r) := by
 refine ⟨by rw [List.length_append]; omega,?_⟩
 cases a with
 | nil => simp at h1
 | cons c a => simpa using h
theorem Qv0 {m : Qv} {k : Qi} (hm : MOk m) (hk : GOk 12 k) : Ok (Qbl m k) (fun r => RN r.1 ∧ MOk r.2.2) := by
 unfold Qbl
 obtain ⟨⟨k1,k2,ks⟩,k3,k4⟩ := hk
 refine (QiE (by omega)).bind fun a ha => (QiE (by omega)).bind fun b hb => ?_
 refine Ok.opt (P := fun r : Int × Qv => MOk r.2) (fun h => (Qd3 hm (by decide)).weak fun r h => h.2.2) fun r1 h1 => ?_
 have m1 : MOk (bif (decide (a ≥ (0:Int))) == true then r1.2 else m) := QdH (fun h => h1 (by rw [h]; rfl)) hm
 have nm : ∀ {β : Type} {Q : β → Prop} {f : Str → Option β},(∀ r : Str,r.length = 1 → Ok (f r) Q) → Ok ((sub k.Name 0 1).bind f) Q := fun h => Ok.sub (by decide) (by decide) (by omega) fun r hr _ => h r (by simpa using hr)
 refine Ok.ite (fun _ => nm fun r hr => Ok.cat (by simp; omega) (Ok.take m1 (by decide) fun _ m2 _ _ h2 => Ok.mk ⟨⟨Qqe (by simp) (by simp) (by simp) hr,ks,by simp [SN],by simp [SN]⟩,h2⟩)) (fun _ => ?_)
 refine Ok.ite (fun _ => Ok.mk ⟨by simp [RN,SN],m1⟩) (fun h => ?_)
 have hb0 : ¬ b < 0 := of_decide_eq_false h
 refine Ok.idx (by omega) hb.2 fun f _ _ => Ok.take m1 (by decide) fun r2 m2 _ _ h2 => ?_
 refine Ok.ite (fun _ => nm fun r hr => Ok.cat (by simp; omega) (Ok.take h2 (by decide) fun _ m2 _ _ h2 => Ok.mk ⟨⟨Qqe (by simp) (by simp) (by simp) hr,ks,by simp [SN],by simp [SN]⟩,h2⟩)) (fun _ => nm fun r hr => Ok.cat (by simp; omega) (Ok.take h2 (by decide) fun _ m2 _ _ h2 => Ok.mk ⟨⟨Qqe (by simp) (by simp) (by simp) hr,ks,by simp [SN],by simp [SN]⟩,h2⟩))

/-- A schema of the generators. -/
def SOk (n : Nat) (x : Qg) : Prop := x.Kinds.length ≤ 3 ∧ (∀ k ∈ x.Kinds,KOk 14 k) ∧ x.Lives.length ≤ 1 ∧ (∀ m ∈ x.Lives,m.States.length ≤ 6 ∧ m.Moves.length ≤ 8 ∧ SN m.Name) ∧ x.Rules.length ≤ n ∧ ∀ r ∈ x.Rules,RN r
theorem SOk.weak {a b : Nat} {x : Qg} (h : SOk a x) (hab : a ≤ b) : SOk b x := ⟨h.1,h.2.1,h.2.2.1,h.2.2.2.1,Nat.le_trans h.2.2.2.2.1 hab,h.2.2.2.2.2⟩

theorem QsS {l : List Int} (hl : ∀ x ∈ l,I64 x) : Ok (QbY l) (SOk 2) := by
 unfold QbY
 refine Ok.sub (by decide) (by unfold imin; split <;> omega) (by unfold imin; split <;> omega) fun w _ hw => ?_
 have h0 : MOk (Qv.mk w 0) := fun x hx => hl x (hw x hx)
 refine Ok.take h0 (by decide) fun v m1 _ _ h1 => Ok.take h1 (by decide) fun n m2 a2 b2 h2 => ?_
 have en : IntKind.i64.wrap (1 + n) = 1 + n := w64 (by omega) (by omega)
 refine Ok.bind (P := fun p : List Qi × Qv => p.1.length = 1 + n ∧ (∀ k ∈ p.1,GOk 12 k) ∧ MOk p.2)
  (Ok.loop (fun k s => 0 ≤ s.1 ∧ s.1 + k = 1 + n ∧ s.2.1.length = s.1 ∧ (∀ q ∈ s.2.1,GOk (9 + s.1.toNat) q) ∧ MOk s.2.2) (1 + n).toNat ⟨Int.le_refl _,by dsimp only; omega,by simp,by simp,h2⟩ fun k s hs => ?_) (fun p hp => ?_)
 ·obtain ⟨i,ks,m3⟩ := s
  obtain ⟨e1,e2,e3,e4,e5⟩ := hs
  dsimp only at e1 e2 e3 e4 e5
  refine Ok.ite (fun h => ?_) (fun h => ?_)
  ·have h' : i < 1 + n := by have := of_decide_eq_true h; rwa [en] at this
   refine (QvZ (N := 9 + i.toNat) e5 (by omega) (by omega) e4).bind fun r hr => ?_
   obtain ⟨r1,r2,r3,r4⟩ := hr
   refine Ok.rm (by simp; omega) (Ok.mk ?_)
   have ei : IntKind.i64.wrap (i + 1) = i + 1 := w64 (by omega) (by omega)
   refine ⟨k - 1,by omega,?_⟩
   dsimp only
   rw [ei]
   refine ⟨by omega,by omega,by simp; omega,fun q hq => ?_,r2⟩
   rcases List.mem_append.1 hq with hq | hq
   ·exact (r4 q hq).weak (by omega)
   ·rw [List.mem_singleton] at hq; subst hq; exact r1.weak (by omega)
  ·have h' : ¬ i < 1 + n := by have := of_decide_eq_false h; rwa [en] at this
   refine Ok.mk ⟨by dsimp only; omega,fun q hq => (e4 q hq).weak (by omega),e5⟩
 obtain ⟨p1,p2,p3⟩ := hp
 refine Ok.take p3 (by decide) fun t m4 a4 b4 h4 => ?_
 have et : IntKind.i64.wrap (2 + t) = 2 + t := w64 (by omega) (by omega)
 refine Ok.sub (by decide) (by dsimp only; rw [et]; omega) (by dsimp only; rw [et]; simp; omega) fun st hst _ => ?_
 dsimp only at hst
 rw [et] at hst
 have hsl : 2 ≤ st.length ∧ st.length ≤ 4 := by omega
 refine Ok.bind (P := fun p : List QK => p.length ≤ 3) (Ok.loop (fun k s => 0 ≤ s.1 ∧ s.1 + 1 + k = st.length ∧ s.2.length = s.1) (st.length - 1) ⟨Int.le_refl _,by dsimp only; omega,by simp⟩ fun k s hs => ?_) (fun mv hmv => ?_)
 ·obtain ⟨i,ms⟩ := s
  obtain ⟨e1,e2,e3⟩ := hs
  dsimp only at e1 e2 e3
  have ei : IntKind.i64.wrap (i + 1) = i + 1 := w64 (by omega) (by omega)
  refine Ok.ite (fun h => ?_) (fun h => ?_)
  ·have h' : i + 1 < st.length := by have := of_decide_eq_true h; rwa [ei] at this
   refine Ok.rm (by simp; omega) (Ok.mk ⟨k - 1,by omega,?_⟩)
   dsimp only
   rw [ei]
   exact ⟨by omega,by omega,by simp; omega⟩
  ·have h' : ¬ i + 1 < st.length := by have := of_decide_eq_false h; rwa [ei] at this
   exact Ok.mk (by dsimp only; omega)
 refine Ok.take h4 (by decide) fun r5 m5 _ _ h5 => ?_
 refine Ok.bind (P := fun p : List QK => p.length ≤ 4) (Ok.ite (fun _ => Ok.rm (by simp; omega) (Ok.mk (by simp; omega))) (fun _ => Ok.mk (by omega))) fun mv2 hmv2 => ?_
 refine Ok.take h5 (by decide) fun r6 m6 _ _ h6 => ?_
 refine Ok.bind (P := fun p : List QK => p.length ≤ 5) (Ok.ite (fun _ => Ok.rm (by simp; omega) (Ok.mk (by simp; omega))) (fun _ => Ok.mk (by omega))) fun mv3 hmv3 => ?_
 refine Ok.rm (by simp) ?_
 refine Ok.bind (P := fun p : List Qo => p.length ≤ 2 ∧ ∀ r ∈ p,RN r) (Ok.loop (fun k s => 0 ≤ s.1 ∧ s.1 + k = 1 + n ∧ (s.2.1.length ≤ 2 ∧ ∀ r ∈ s.2.1,RN r) ∧ MOk s.2.2) (1 + n).toNat ⟨Int.le_refl _,by dsimp only; omega,by simp,h6⟩ fun k s hs => ?_) (fun rs hrs => ?_)
 ·obtain ⟨i,rs,m7⟩ := s
  obtain ⟨e1,e2,e3,e4⟩ := hs
  dsimp only at e1 e2 e3 e4
  refine Ok.ite (fun h => ?_) (fun h => Ok.mk e3)
  simp only [Bool.and_eq_true,decide_eq_true_eq,en] at h
  refine Ok.idx e1 (by omega) fun q hq _ => (Qv0 e4 (p2 q hq)).bind fun r hr => ?_
  refine Ok.bind (P := fun p : List Qo => p.length ≤ 2 ∧ ∀ r ∈ p,RN r) (Ok.ite (fun _ => Ok.rm (by simp; omega) (Ok.mk ⟨by simp; omega,fun y hy => (List.mem_append.1 hy).elim (e3.2 y) fun hy => by rw [List.mem_singleton] at hy; subst hy; exact hr.1⟩)) (fun _ => Ok.mk e3)) fun rs2 hrs2 => Ok.mk ⟨k - 1,by omega,?_⟩
  dsimp only
  rw [w64 (n := i + 1) (by omega) (by omega)]
  exact ⟨by omega,by omega,hrs2,hr.2⟩
 ·refine Ok.mk ⟨by dsimp only; omega,fun q hq => ⟨by have := (p2 q hq).1.1; omega,(p2 q hq).1.2⟩,by simp,?_,hrs⟩
  intro q hq
  simp only [List.nil_append,List.mem_singleton] at hq
  subst hq
  exact ⟨by dsimp only; omega,by dsimp only; omega,by simp [SN]⟩

end Go.Proofs.YtcdccjagknlmpaaGreatDoor

namespace Go.Proofs.YtcdccjagknlmpaaGreatDoor
open Go.Sim

theorem Ok.same {β : Type} {x : Option β} {Q : β → Prop} (h : Ok x Q) : Ok (x.bind fun p => some p) Q := h.bind fun _ hr => Ok.mk hr
end Go.Proofs.YtcdccjagknlmpaaGreatDoor

namespace Go.Proofs.YtcdccjagknlmpaaGreatDoor
open Go.Sim

def FZ (f : Qc) : Prop := f.Words.length ≤ 7 ∧ f.Weights.length ≤ 7 ∧ FN f
def KA (l : List Qi) : Prop := l.length ≤ 3 ∧ ∀ k ∈ l,k.Fields.length ≤ 14 ∧ (∀ f ∈ k.Fields,FZ f) ∧ SN k.Name
def LA (l : List Qu) : Prop := l.length ≤ 1 ∧ ∀ m ∈ l,m.States.length ≤ 7 ∧ m.Moves.length ≤ 9 ∧ SN m.Name
/-- A schema of the laws. -/
def RA (l : List Qo) : Prop := l.length ≤ 4 ∧ ∀ r ∈ l,RN r
def Sz (x : Qg) : Prop := KA x.Kinds ∧ LA x.Lives ∧ RA x.Rules
theorem FOk.z {f : Qc} (h : FOk f) : FZ f := ⟨by have := h.1; omega,by have := h.2.1; omega,h.2.2⟩
theorem SOk.sz {n : Nat} {x : Qg} (h : SOk n x) (hn : n ≤ 4) : Sz x :=
 ⟨⟨h.1,fun k hk => ⟨(h.2.1 k hk).1,fun f hf => ((h.2.1 k hk).2.1 f hf).z,(h.2.1 k hk).2.2⟩⟩,⟨h.2.2.1,fun m hm => ⟨by have := (h.2.2.2.1 m hm).1; omega,by have := (h.2.2.2.1 m hm).2.1; omega,(h.2.2.2.1 m hm).2.2⟩⟩,Nat.le_trans h.2.2.2.2.1 hn,h.2.2.2.2.2⟩

end Go.Proofs.YtcdccjagknlmpaaGreatDoor

namespace Go.Proofs.YtcdccjagknlmpaaGreatDoor
open Go.Sim

/-- The index of the first element that is so; -1: none is. -/
def QaU {α : Type} (s : List α) (p : α → Bool) : Int := match s.findIdx? p with | some k => (k : Int) | none => -1
theorem Qoo {α : Type} (s : List α) (p : α → Bool) : -1 ≤ QaU s p ∧ QaU s p < s.length := by
 unfold QaU
 cases h : s.findIdx? p with
 | none => exact ⟨by decide,by show (-1:Int) < _; omega⟩
 | some k =>
  have := (List.findIdx?_eq_some_iff_getElem.1 h).1
  exact ⟨by show (-1:Int) ≤ (k:Int); omega,by show (k:Int) < _; omega⟩
theorem QdI {α : Type} (s : List α) (p : α → Bool) {body : Int → Option (Int ⊕ (Unit ⊕ Int))}
  (hb : ∀ k (h : k < s.length),body (k : Int) = if p s[k] = true then some (.inr (.inr (k : Int))) else some (.inl ((k + 1 : Nat) : Int))) (he : body (s.length : Int) = some (.inr (.inl ()))) :
  QI body (0 : Int) = some (match s.findIdx? p with | some k => .inr (k : Int) | none => .inl ()) := by
 obtain ⟨q,hq⟩ : ∃ q : Nat → Bool,∀ k (h : k < s.length),q k = p s[k] := ⟨fun k => if h : k < s.length then p s[k] else false,fun k h => dif_pos h⟩
 rcases QlJ (ρ := Unit ⊕ Int) s.length q (.inl ()) (fun k => .inr (k : Int))
  (fun k hk hp => by rw [hb k hk,if_neg (by rw [← hq k hk,hp]; decide)]) (fun k hk hp => by rw [hb k hk,if_pos (by rw [← hq k hk,hp])]) he with ⟨k,hk,hp,hj,e⟩ | ⟨hp,e⟩
 ·have : s.findIdx? p = some k := by
   rw [List.findIdx?_eq_some_iff_getElem]
   refine ⟨hk,by rw [← hq k hk,hp],fun j hj' => ?_⟩
   have := hj j hj'
   rw [hq j (by omega)] at this
   simp [this]
  rw [e,this]
 ·have : s.findIdx? p = none := by
   rw [List.findIdx?_eq_none_iff]
   intro x hx
   obtain ⟨k,hk,rfl⟩ := List.getElem_of_mem hx
   have := hp k hk
   rwa [hq k hk] at this
  rw [e,this]

section
variable {p : Qi → Bool} {q : Qc → Bool}
theorem QoU {s : List Qi} {f : Qi → Option Bool} (hs : s.length ≤ 1000000) (hf : ∀ x ∈ s,f x = some (p x)) : QaO s f = some (QaU s p) := by
 unfold QaO
 rw [QdI s p (fun k hk => ?_) ?_]
 ·unfold QaU; cases s.findIdx? p <;> rfl
 ·rw [if_neg (by simp)]
 ·rw [if_pos (by simpa using hk),Qak hk]
  show (f s[k]).bind _ = _
  rw [hf _ (List.getElem_mem hk),Qab hk (by omega)]; rfl
theorem QnL {s : List Qc} {f : Qc → Option Bool} (hs : s.length ≤ 1000000) (hf : ∀ x ∈ s,f x = some (q x)) : QaI s f = some (QaU s q) := by
 unfold QaI
 rw [QdI s q (fun k hk => ?_) ?_]
 ·unfold QaU; cases s.findIdx? q <;> rfl
 ·rw [if_neg (by simp)]
 ·rw [if_pos (by simpa using hk),Qak hk]
  show (f s[k]).bind _ = _
  rw [hf _ (List.getElem_mem hk),Qab hk (by omega)]; rfl
end

/-- The kind, the field with a name. -/
def Qaa (x : Qg) (n : Str) : Int := QaU x.Kinds fun k => k.Name == n
def Qbf (k : Qi) (n : Str) : Int := QaU k.Fields fun f => f.Name == n
theorem Qd4 {x : Qg} {n : Str} (hx : x.Kinds.length ≤ 1000000) : Qby x n = some (Qaa x n) := by
 unfold Qby
 rw [QoU (f := fun x0 => QdZ x0 n) (p := fun k => k.Name == n) hx (fun k _ => rfl)]; rfl
theorem QeD {k : Qi} {n : Str} (hx : k.Fields.length ≤ 1000000) : Qbo k n = some (Qbf k n) := by
 unfold Qbo
 rw [QnL (f := fun x0 => Qdr x0 n) (q := fun k => k.Name == n) hx (fun k _ => rfl)]; rfl
/-- The field of a schema, if there is one. -/
def field? (x : Qg) (k j : Int) : Option Qc := if 0 ≤ k ∧ 0 ≤ j then x.Kinds[k.toNat]?.bind fun q => q.Fields[j.toNat]? else none
def Qe7 : Qc := Qc.mk [] [] [] 0 0 0 [] []
theorem QhQ {x : Qg} {k j : Int} {f : Qc} (h : field? x k j = some f) : ∃ q,0 ≤ k ∧ 0 ≤ j ∧ idx x.Kinds k = some q ∧ idx q.Fields j = some f ∧ q ∈ x.Kinds ∧ k < x.Kinds.length ∧ j < q.Fields.length := by
 unfold field? at h
 split at h
 ·rename_i hk
  obtain ⟨q,h1,h2⟩ := Option.bind_eq_some_iff.1 h
  refine ⟨q,hk.1,hk.2,by rw [Qib _ hk.1,h1],by rw [Qib _ hk.2,h2],List.mem_of_getElem? h1,?_,?_⟩
  ·have := (List.getElem?_eq_some_iff.1 h1).1; omega
  ·have := (List.getElem?_eq_some_iff.1 h2).1; omega
 ·cases h
theorem QmZ {x : Qg} {k j : Int} {q : Qi} {f : Qc} (hk : 0 ≤ k) (hj : 0 ≤ j) (h1 : idx x.Kinds k = some q) (h2 : idx q.Fields j = some f) : field? x k j = some f := by
 rw [Qib _ hk] at h1; rw [Qib _ hj] at h2
 unfold field?
 rw [if_pos ⟨hk,hj⟩,h1]; exact h2
theorem Qjy {α : Type} {l : List α} {i : Int} (h0 : 0 ≤ i) (h1 : i < l.length) : ∃ v,idx l i = some v ∧ v ∈ l := by
 have hlt : i.toNat < l.length := by omega
 exact ⟨l[i.toNat],by rw [Qib l h0,List.getElem?_eq_getElem hlt],List.getElem_mem hlt⟩
theorem Qk0 (x : Qg) (k j : Int) : Qcn x k j = some (match field? x k j with | some f => (f,true) | none => (Qe7,false)) := by
 unfold Qcn
 by_cases hc : (0 ≤ k ∧ k < x.Kinds.length) ∧ 0 ≤ j
 ·obtain ⟨⟨h1,h2⟩,h3⟩ := hc
  obtain ⟨q,hq,_⟩ := Qjy h1 h2
  have c : ((decide (k < 0) || decide (k ≥ (x.Kinds.length : Int))) || decide (j < 0)) = false := by simp; omega
  rw [c,hq]
  show (if (false || decide (j ≥ (q.Fields.length : Int))) = true then _ else _) = _
  by_cases h4 : j < q.Fields.length
  ·obtain ⟨f,hf,_⟩ := Qjy h3 h4
   rw [if_neg (by simp; omega),QmZ h1 h3 hq hf]
   show (idx q.Fields j).bind _ = _
   rw [hf]; rfl
  ·rw [if_pos (by simp; omega)]
   have : field? x k j = none := by
    cases h : field? x k j with
    | none => rfl
    | some f =>
     obtain ⟨q',_,_,e1,e2,_,_,e3⟩ := QhQ h
     rw [hq] at e1; cases e1; exact (h4 e3).elim
   rw [this]; rfl
 ·have c : ((decide (k < 0) || decide (k ≥ (x.Kinds.length : Int))) || decide (j < 0)) = true := by simp; omega
  rw [c]
  have : field? x k j = none := by
   cases h : field? x k j with
   | none => rfl
   | some f =>
    obtain ⟨q',e1,e2,_,_,_,e3,_⟩ := QhQ h
    exact (hc ⟨⟨e1,e3⟩,e2⟩).elim
  rw [this]; rfl
end Go.Proofs.YtcdccjagknlmpaaGreatDoor

namespace Go.Proofs.YtcdccjagknlmpaaGreatDoor
open Go.Sim

/-- What the way up needs of a schema: it is small. -/
def Few (x : Qg) : Prop := x.Kinds.length ≤ 1000 ∧ ∀ k ∈ x.Kinds,k.Fields.length ≤ 1000
theorem Sz.few {x : Qg} (h : Sz x) : Few x := ⟨by have := h.1.1; omega,fun k hk => by have := (h.1.2 k hk).1; omega⟩

def QhR (x : Qg) (k : Int) (g : Qc) : Int := if Qaa x g.Of < k then Qaa x g.Of else -1
/-- The kind to which a field leads. -/
def upIx (x : Qg) (k j : Int) : Int :=
 match field? x k j with
 | none => -1
 | some f =>
  if f.Kind = 7 ∨ f.Kind = 8 then
   match idx x.Kinds k with
   | none => -1
   | some q => if Qbf q f.Up < j then (match field? x k (Qbf q f.Up) with | some g => if g.Kind = 1 then QhR x k g else -1 | none => -1) else -1
  else if f.Kind = 1 then QhR x k f else -1

theorem Qri {x : Qg} {k j : Int} {g : Qc} {self : Qg → Int → Int → Option Int} (hx : Few x) (h : field? x k j = some g) (hg : g.Kind = 1) : QcF self x k j = some (QhR x k g) := by
 unfold QcF
 rw [Qk0,h]
 simp only [Option.bind_some,Bool.not_true,hg]
 rw [if_neg (by decide),if_neg (by decide),if_neg (by decide),Qd4 (by have := hx.1; omega)]
 simp only [Option.bind_some,QhR]
 by_cases hl : Qaa x g.Of < k
 ·rw [if_pos (by simpa using hl),if_pos hl]
 ·rw [if_neg (by simpa using hl),if_neg hl]
theorem upS_is {x : Qg} {k j : Int} {self : Qg → Int → Int → Option Int} (hx : Few x) (hs : ∀ u g,field? x k u = some g → g.Kind = 1 → self x k u = some (QhR x k g)) : QcF self x k j = some (upIx x k j) := by
 cases hf : field? x k j with
 | none =>
  unfold QcF upIx
  rw [Qk0,hf]; rfl
 | some f =>
  by_cases h1 : f.Kind = 1
  ·rw [Qri hx hf h1]
   unfold upIx
   rw [hf]
   simp [h1]
  unfold QcF upIx
  rw [Qk0,hf]
  simp only [Option.bind_some,Bool.not_true]
  rw [if_neg (by decide)]
  by_cases c : f.Kind = 7 ∨ f.Kind = 8
  ·obtain ⟨q,hk,hj,hq,hqf,hqm,_,_⟩ := QhQ hf
   rw [if_pos (by simpa using c),if_pos c,hq]
   simp only [Option.bind_some]
   rw [QeD (by have := hx.2 q hqm; omega)]
   simp only [Option.bind_some]
   rw [Qk0]
   simp only [Option.bind_some]
   cases hg : field? x k (Qbf q f.Up) with
   | none => simp
   | some g =>
    simp only
    by_cases hu : Qbf q f.Up < j
    ·by_cases hg1 : g.Kind = 1
     ·rw [if_pos (by simp [hu,hg1]),hs _ g hg hg1,if_pos hu,if_pos hg1]; rfl
     ·rw [if_neg (by simp [hg1]),if_pos hu,if_neg hg1]
    ·rw [if_neg (by simp [hu]),if_neg hu]
  ·rw [if_neg (by simpa using c),if_neg c,if_pos (by simpa using h1),if_neg h1]
theorem Qjz {x : Qg} {k j : Int} (hx : Few x) : Qfe x k j = some (upIx x k j) := by
 unfold Qfe
 exact upS_is hx fun u g h hg => Qri hx h hg
/-! Shares -/
theorem QsT (p : Nat → Bool) (k : Nat) : ((List.range (k + 1)).filter p).map Int.ofNat = if p k = true then ((List.range k).filter p).map Int.ofNat ++ [(k : Int)] else ((List.range k).filter p).map Int.ofNat := by
 rw [List.range_succ,List.filter_append,List.map_append]
 by_cases h : p k = true
 ·rw [if_pos h]; simp [h]
 ·rw [if_neg h]; simp [h]
theorem Qt9 (p : Nat → Bool) (k : Nat) : (((List.range k).filter p).map Int.ofNat).length ≤ k := by
 rw [List.length_map]
 have := List.length_filter_le p (List.range k)
 simpa using this
def QjA (x : Qg) (o k : Int) (nm : Str) (fs : List Qc) (i : Nat) : Bool := match fs[i]? with | some g => g.Kind == 7 && g.Of == nm && upIx x o (i : Int) == k | none => false
def shl (x : Qg) (o k : Int) (nm : Str) : List Int := match idx x.Kinds o with | some q => ((List.range q.Fields.length).filter (QjA x o k nm q.Fields)).map Int.ofNat | none => []
def Qme (x : Qg) (k : Int) (f : Qc) : Int × List Int := if f.Kind ≠ 6 ∨ Qaa x f.Of ≤ k then (-1,[]) else (Qaa x f.Of,shl x (Qaa x f.Of) k f.Name)
theorem QlM (x : Qg) (n : Str) : -1 ≤ Qaa x n ∧ Qaa x n < x.Kinds.length := Qoo _ _

theorem QsU {x : Qg} {k : Int} {f : Qc} (hx : Few x) (hk : 0 ≤ k) : Qc3 x k f = some (Qme x k f) := by
 unfold Qc3
 rw [Qd4 (by have := hx.1; omega)]
 simp only [Option.bind_some]
 unfold Qme
 by_cases c : f.Kind ≠ 6 ∨ Qaa x f.Of ≤ k
 ·rw [if_pos (by simpa using c),if_pos c]
 rw [if_neg (by simpa using c),if_neg c]
 have c' : k < Qaa x f.Of := by
  rcases Int.lt_or_le k (Qaa x f.Of) with h | h
  ·exact h
  ·exact (c (.inr h)).elim
 obtain ⟨q,hq,hqm⟩ := Qjy (l := x.Kinds) (i := Qaa x f.Of) (by omega) (QlM x f.Of).2
 have hl := hx.2 q hqm
 rw [hq]
 simp only [Option.bind_some]
 refine QgW q.Fields.length (fun n => ((n : Int),((List.range n).filter (QjA x (Qaa x f.Of) k f.Name q.Fields)).map Int.ofNat)) _ rfl (fun n hn => ?_) (if_neg (by simp)) ?_
 ·rw [if_pos (by simpa using hn),Qak hn]
  simp only [Option.bind_some]
  rw [Qjz hx]
  have e : QjA x (Qaa x f.Of) k f.Name q.Fields n = (q.Fields[n].Kind == 7 && q.Fields[n].Of == f.Name && upIx x (Qaa x f.Of) (n : Int) == k) := by
   unfold QjA; rw [List.getElem?_eq_getElem hn]
  have hle := Qt9 (QjA x (Qaa x f.Of) k f.Name q.Fields) n
  rw [QsT,e,Qab hn (by omega)]
  cases h1 : (q.Fields[n].Kind == 7 && q.Fields[n].Of == f.Name) with
  | false => rfl
  | true =>
   simp only [Sim.opt,Bool.true_and,if_true,beq_self_eq_true,Option.bind_some]
   cases h2 : upIx x (Qaa x f.Of) (n : Int) == k with
   | false => rfl
   | true =>
    rw [if_pos rfl,if_pos rfl,Qgn (by rw [List.length_singleton]; omega)]
    rfl
 ·unfold shl; rw [hq]

end Go.Proofs.YtcdccjagknlmpaaGreatDoor

namespace Go.Proofs.YtcdccjagknlmpaaGreatDoor
open Go.Sim

theorem Qef {α : Type} (s : List α) (p : α → Bool) : decide (QaU s p ≥ 0) = s.any p := by
 unfold QaU
 cases h : s.findIdx? p with
 | none =>
  have := List.findIdx?_eq_none_iff.1 h
  rw [Eq.comm,List.any_eq_false.2 (fun x hx => by simp [this x hx])]
  rfl
 | some k =>
  obtain ⟨hk,hp,_⟩ := List.findIdx?_eq_some_iff_getElem.1 h
  rw [Eq.comm,List.any_eq_true.2 ⟨_,List.getElem_mem hk,hp⟩,Eq.comm]
  exact decide_eq_true (Int.natCast_nonneg k)
theorem Qio {α : Type} (s : List α) (p : α → Bool) : (!s.any fun x => !p x) = s.all p := by
 induction s with
 | nil => rfl
 | cons a s ih => simp only [List.any_cons,List.all_cons,Bool.not_or,Bool.not_not,ih]

theorem QsV {s : List Qu} {f : Qu → Option Bool} {p : Qu → Bool} (hs : s.length ≤ 1000000) (hf : ∀ x ∈ s,f x = some (p x)) : Qbb s f = some (QaU s p) := by
 unfold Qbb
 rw [QdI s p (fun k hk => ?_) ?_]
 ·unfold QaU; cases s.findIdx? p <;> rfl
 ·rw [if_neg (by simp)]
 ·rw [if_pos (by simpa using hk),Qak hk]
  show (f s[k]).bind _ = _
  rw [hf _ (List.getElem_mem hk),Qab hk (by omega)]; rfl
theorem QsW {s : List Qo} {f : Qo → Option Bool} {p : Qo → Bool} (hs : s.length ≤ 1000000) (hf : ∀ x ∈ s,f x = some (p x)) : Qbc s f = some (QaU s p) := by
 unfold Qbc
 rw [QdI s p (fun k hk => ?_) ?_]
 ·unfold QaU; cases s.findIdx? p <;> rfl
 ·rw [if_neg (by simp)]
 ·rw [if_pos (by simpa using hk),Qak hk]
  show (f s[k]).bind _ = _
  rw [hf _ (List.getElem_mem hk),Qab hk (by omega)]; rfl
theorem QsX {s : List Int} {f : Int → Option Bool} {p : Int → Bool} (hs : s.length ≤ 1000000) (hf : ∀ x ∈ s,f x = some (p x)) : Qba s f = some (QaU s p) := by
 unfold Qba
 rw [QdI s p (fun k hk => ?_) ?_]
 ·unfold QaU; cases s.findIdx? p <;> rfl
 ·rw [if_neg (by simp)]
 ·rw [if_pos (by simpa using hk),Qak hk]
  show (f s[k]).bind _ = _
  rw [hf _ (List.getElem_mem hk),Qab hk (by omega)]; rfl
theorem QqI {s : List Str} {f : Str → Option Bool} {p : Str → Bool} (hs : s.length ≤ 1000000) (hf : ∀ x ∈ s,f x = some (p x)) : QaS s f = some (QaU s p) := by
 unfold QaS
 rw [QdI s p (fun k hk => ?_) ?_]
 ·unfold QaU; cases s.findIdx? p <;> rfl
 ·rw [if_neg (by simp)]
 ·rw [if_pos (by simpa using hk),Qak hk]
  show (f s[k]).bind _ = _
  rw [hf _ (List.getElem_mem hk),Qab hk (by omega)]; rfl
theorem QqJ {s : List QK} {f : QK → Option Bool} {p : QK → Bool} (hs : s.length ≤ 1000000) (hf : ∀ x ∈ s,f x = some (p x)) : QaT s f = some (QaU s p) := by
 unfold QaT
 rw [QdI s p (fun k hk => ?_) ?_]
 ·unfold QaU; cases s.findIdx? p <;> rfl
 ·rw [if_neg (by simp)]
 ·rw [if_pos (by simpa using hk),Qak hk]
  show (f s[k]).bind _ = _
  rw [hf _ (List.getElem_mem hk),Qab hk (by omega)]; rfl
theorem Qqf {s : List Qi} {f : Qi → Option Bool} {p : Qi → Bool} (hs : s.length ≤ 1000000) (hf : ∀ x ∈ s,f x = some (p x)) : QaK s f = some (s.any p) := by
 unfold QaK
 rw [QoU hs hf,← Qef]; rfl
theorem Qv1 {s : List Qi} {f : Qi → Option Bool} {p : Qi → Bool} (hs : s.length ≤ 1000000) (hf : ∀ x ∈ s,f x = some (p x)) : Qcp s f = some (s.all p) := by
 unfold Qcp
 rw [Qqf (p := fun x => !p x) hs (fun x hx => by show (f x).bind _ = _; rw [hf x hx]; rfl),← Qio]; rfl
theorem Qpk {s : List Qc} {f : Qc → Option Bool} {p : Qc → Bool} (hs : s.length ≤ 1000000) (hf : ∀ x ∈ s,f x = some (p x)) : QaH s f = some (s.any p) := by
 unfold QaH
 rw [QnL hs hf,← Qef]; rfl
theorem Qua {s : List Qc} {f : Qc → Option Bool} {p : Qc → Bool} (hs : s.length ≤ 1000000) (hf : ∀ x ∈ s,f x = some (p x)) : Qb4 s f = some (s.all p) := by
 unfold Qb4
 rw [Qpk (p := fun x => !p x) hs (fun x hx => by show (f x).bind _ = _; rw [hf x hx]; rfl),← Qio]; rfl
theorem QjB {s : List Qu} {f : Qu → Option Bool} {p : Qu → Bool} (hs : s.length ≤ 1000000) (hf : ∀ x ∈ s,f x = some (p x)) : Qaq s f = some (s.any p) := by
 unfold Qaq
 rw [QsV hs hf,← Qef]; rfl
theorem Qv2 {s : List Qu} {f : Qu → Option Bool} {p : Qu → Bool} (hs : s.length ≤ 1000000) (hf : ∀ x ∈ s,f x = some (p x)) : Qcr s f = some (s.all p) := by
 unfold Qcr
 rw [QjB (p := fun x => !p x) hs (fun x hx => by show (f x).bind _ = _; rw [hf x hx]; rfl),← Qio]; rfl
theorem QlN {s : List Qo} {f : Qo → Option Bool} {p : Qo → Bool} (hs : s.length ≤ 1000000) (hf : ∀ x ∈ s,f x = some (p x)) : Qaw s f = some (s.any p) := by
 unfold Qaw
 rw [QsW hs hf,← Qef]; rfl
theorem Qv3 {s : List Qo} {f : Qo → Option Bool} {p : Qo → Bool} (hs : s.length ≤ 1000000) (hf : ∀ x ∈ s,f x = some (p x)) : Qct s f = some (s.all p) := by
 unfold Qct
 rw [QlN (p := fun x => !p x) hs (fun x hx => by show (f x).bind _ = _; rw [hf x hx]; rfl),← Qio]; rfl
theorem Qqg {s : List Int} {f : Int → Option Bool} {p : Int → Bool} (hs : s.length ≤ 1000000) (hf : ∀ x ∈ s,f x = some (p x)) : QaL s f = some (s.any p) := by
 unfold QaL
 rw [QsX hs hf,← Qef]; rfl
theorem Qop {s : List Str} {f : Str → Option Bool} {p : Str → Bool} (hs : s.length ≤ 1000000) (hf : ∀ x ∈ s,f x = some (p x)) : QaB s f = some (s.any p) := by
 unfold QaB
 rw [QqI hs hf,← Qef]; rfl
theorem QoV {s : List Str} {f : Str → Option Bool} {p : Str → Bool} (hs : s.length ≤ 1000000) (hf : ∀ x ∈ s,f x = some (p x)) : Qbt s f = some (s.all p) := by
 unfold Qbt
 rw [Qop (p := fun x => !p x) hs (fun x hx => by show (f x).bind _ = _; rw [hf x hx]; rfl),← Qio]; rfl
theorem Qoq {s : List QK} {f : QK → Option Bool} {p : QK → Bool} (hs : s.length ≤ 1000000) (hf : ∀ x ∈ s,f x = some (p x)) : QaC s f = some (s.any p) := by
 unfold QaC
 rw [QqJ hs hf,← Qef]; rfl
theorem QsY {s : List QK} {f : QK → Option Bool} {p : QK → Bool} (hs : s.length ≤ 1000000) (hf : ∀ x ∈ s,f x = some (p x)) : QbO s f = some (s.all p) := by
 unfold QbO
 rw [Qoq (p := fun x => !p x) hs (fun x hx => by show (f x).bind _ = _; rw [hf x hx]; rfl),← Qio]; rfl

def inW (n a b : Int) : Bool := decide (n ≥ a) && decide (n ≤ b)
theorem QcC {n a b : Int} (h : inW n a b = true) : a ≤ n ∧ n ≤ b := by simpa [inW] using h
def QfF (c : Int) : Bool := inW c 97 122
def Qks (c : Int) : Bool := inW c 48 57
def Qgq (lo hi a b : Int) : Bool := (decide (lo ≥ a) && decide (lo ≤ hi)) && decide (hi ≤ b)
/-- A name. -/
def Q2 (s : Str) : Bool := inW (s.length : Int) 1 12 && (QfF ((s.headD 0).toNat : Int) && (QQ s).all fun c => QfF c || Qks c)
theorem Qf5 (s : Str) : Q6 s = some (Q2 s) := by
 unfold Q6 Q2
 cases s with
 | nil => rfl
 | cons c s =>
  show (some (inW ((c :: s).length : Int) 1 12)).bind _ = _
  simp only [Option.bind_some]
  cases h : inW ((c :: s).length : Int) 1 12 with
  | false => rfl
  | true =>
   have hl := (QcC h).2
   rw [show idx (c :: s) (0 : Int) = some c from rfl]
   simp only [Sim.opt,Bool.not_true,beq_self_eq_true,if_true,Option.bind_some]
   rw [show Qcq (c.toNat : Int) = some (QfF (c.toNat : Int)) from rfl]
   simp only [Option.bind_some]
   cases hc : QfF (c.toNat : Int) with
   | false => simp [hc]
   | true =>
    rw [if_neg (by decide),Qqg (p := fun c => !(QfF c || Qks c)) (by simp only [QQ,List.length_map]; omega) (fun x _ => ?_)]
    ·simp only [Option.bind_some]
     rw [Qio]
     simp [hc]
    ·show (some (QfF x)).bind _ = _
     simp only [Option.bind_some]
     cases h1 : QfF x with
     | true => rfl
     | false => show some (true && !Qks x) = _; rfl

theorem Qub {a b : List Str} (ha : a.length ≤ 1000000) : Qbx a b = some (decide (a = b)) := by
 unfold Qbx
 by_cases hl : a.length = b.length
 ·rw [if_neg (by simp [hl])]
  have : Ok ((QI (fun (s7 : Int) => ((if (decide (s7 < (a.length : Int))) = true then (idx a s7).bind fun t18 => (idx b s7).bind fun t22 => (if (t18 != t22) = true then (some (.inr (.inr false))) else (some (.inl (IntKind.i64.wrap (s7 + (1:Int)))))) else (some (.inr (.inl ())))) : Option ((Int) ⊕ ((Unit) ⊕ (Bool))))) (0:Int)).bind fun (e8 : (Unit) ⊕ (Bool)) => (match e8 with | .inl _ => (some true) | .inr p26 => (some p26))) (fun r => r = decide (a = b)) := by
   refine Ok.bind (P := fun e : Unit ⊕ Bool => (match e with | .inl _ => true | .inr p => p) = decide (a = b)) (Ok.loop (fun m s => 0 ≤ s ∧ s + m = a.length ∧ a.take s.toNat = b.take s.toNat) a.length ⟨Int.le_refl _,by omega,by simp⟩ fun m s hs => ?_) fun e he => by cases e <;> exact Ok.mk he
   obtain ⟨h1,h2,h3⟩ := hs
   obtain ⟨k,rfl⟩ := Int.eq_ofNat_of_zero_le h1
   simp only [Int.toNat_natCast] at h3
   refine Ok.ite (fun hk => ?_) (fun hk => ?_)
   ·have hk' : k < a.length := by simpa using hk
    rw [Qak hk',Qak (by omega)]
    simp only [Option.bind_some]
    refine Ok.ite (fun hne => Ok.mk ?_) (fun heq => Ok.mk ⟨m - 1,by omega,?_⟩)
    ·show false = _
     rw [Eq.comm,decide_eq_false_iff_not]
     rintro rfl
     simp at hne
    ·have heq' : a[k] = b[k] := by simpa using heq
     rw [Qab hk' (by omega)]
     refine ⟨by omega,by omega,?_⟩
     rw [Int.toNat_natCast,List.take_succ_eq_append_getElem hk',List.take_succ_eq_append_getElem (by omega),h3,heq']
   ·have hk' : ¬ k < a.length := by simpa using hk
    refine Ok.mk ?_
    show true = _
    rw [List.take_of_length_le (by omega),List.take_of_length_le (by omega)] at h3
    simp [h3]
  obtain ⟨r,hr,rfl⟩ := this
  exact hr
 ·rw [if_pos (by simp; omega)]
  have : a ≠ b := fun h => hl (by rw [h])
  simp [this]
theorem eqInt {a b : List Int} (ha : a.length ≤ 1000000) : Qb5 a b = some (decide (a = b)) := by
 unfold Qb5
 by_cases hl : a.length = b.length
 ·rw [if_neg (by simp [hl])]
  have : Ok ((QI (fun (s7 : Int) => ((if (decide (s7 < (a.length : Int))) = true then (idx a s7).bind fun t18 => (idx b s7).bind fun t22 => (if (t18 != t22) = true then (some (.inr (.inr false))) else (some (.inl (IntKind.i64.wrap (s7 + (1:Int)))))) else (some (.inr (.inl ())))) : Option ((Int) ⊕ ((Unit) ⊕ (Bool))))) (0:Int)).bind fun (e8 : (Unit) ⊕ (Bool)) => (match e8 with | .inl _ => (some true) | .inr p26 => (some p26))) (fun r => r = decide (a = b)) := by
   refine Ok.bind (P := fun e : Unit ⊕ Bool => (match e with | .inl _ => true | .inr p => p) = decide (a = b)) (Ok.loop (fun m s => 0 ≤ s ∧ s + m = a.length ∧ a.take s.toNat = b.take s.toNat) a.length ⟨Int.le_refl _,by omega,by simp⟩ fun m s hs => ?_) fun e he => by cases e <;> exact Ok.mk he
   obtain ⟨h1,h2,h3⟩ := hs
   obtain ⟨k,rfl⟩ := Int.eq_ofNat_of_zero_le h1
   simp only [Int.toNat_natCast] at h3
   refine Ok.ite (fun hk => ?_) (fun hk => ?_)
   ·have hk' : k < a.length := by simpa using hk
    rw [Qak hk',Qak (by omega)]
    simp only [Option.bind_some]
    refine Ok.ite (fun hne => Ok.mk ?_) (fun heq => Ok.mk ⟨m - 1,by omega,?_⟩)
    ·show false = _
     rw [Eq.comm,decide_eq_false_iff_not]
     rintro rfl
     simp at hne
    ·have heq' : a[k] = b[k] := by simpa using heq
     rw [Qab hk' (by omega)]
     refine ⟨by omega,by omega,?_⟩
     rw [Int.toNat_natCast,List.take_succ_eq_append_getElem hk',List.take_succ_eq_append_getElem (by omega),h3,heq']
   ·have hk' : ¬ k < a.length := by simpa using hk
    refine Ok.mk ?_
    show true = _
    rw [List.take_of_length_le (by omega),List.take_of_length_le (by omega)] at h3
    simp [h3]
  obtain ⟨r,hr,rfl⟩ := this
  exact hr
 ·rw [if_pos (by simp; omega)]
  have : a ≠ b := fun h => hl (by rw [h])
  simp [this]

end Go.Proofs.YtcdccjagknlmpaaGreatDoor

namespace Go.Proofs.YtcdccjagknlmpaaGreatDoor
open Go.Sim

theorem QsZ (l : List Int) {k : Nat} (h : k < l.length) : (l.take (k + 1)).sum = (l.take k).sum + l[k] := by
  rw [List.take_succ_eq_append_getElem h,List.sum_append]; simp
/-- Words and weights are right. -/
def Qi6 (ws : List Str) (gs : List Int) : Bool := (gs.all fun g => inW g 0 1048576) && (((inW (ws.length : Int) 1 12 && ((ws.length : Int) == (gs.length : Int))) && decide (gs.sum > 0)) && ws.all Q2)
theorem Qs0 {ws : List Str} {gs : List Int} (hw : ws.length ≤ 1000000) (hg : gs.length ≤ 1000000) : Qcy ws gs = some (Qi6 ws gs) := by
  have key : Ok (Qcy ws gs) (fun r => r = Qi6 ws gs) := by
    unfold Qcy
    refine Ok.bind (P := fun e : Int ⊕ Bool => match e with | .inl s => (gs.all fun g => inW g 0 1048576) = true ∧ s = gs.sum | .inr p => p = false ∧ (gs.all fun g => inW g 0 1048576) = false)
      (Ok.loop (fun m s => 0 ≤ s.1 ∧ s.1 + m = gs.length ∧ ((gs.take s.1.toNat).all fun g => inW g 0 1048576) = true ∧ s.2 = (gs.take s.1.toNat).sum ∧ 0 ≤ s.2 ∧ s.2 ≤ s.1 * 1048576) gs.length ⟨Int.le_refl _,by dsimp only; omega,by simp,by simp,by simp,by simp⟩ fun m s hs => ?_) fun e he => ?_
    · obtain ⟨i,t⟩ := s
      obtain ⟨h1,h2,h3,h4,h5,h6⟩ := hs
      dsimp only at h1 h2 h3 h4 h5 h6
      obtain ⟨k,rfl⟩ := Int.eq_ofNat_of_zero_le h1
      simp only [Int.toNat_natCast] at h3 h4
      refine Ok.ite (fun hk => ?_) (fun hk => ?_)
      · have hk' : k < gs.length := by simpa using hk
        dsimp only
        rw [Qak hk']
        simp only [Option.bind_some]
        show Ok ((some (inW gs[k] 0 1048576)).bind _) _
        simp only [Option.bind_some]
        refine Ok.ite (fun hn => Ok.mk ⟨rfl,?_⟩) (fun hy => Ok.mk ⟨m - 1,by omega,?_⟩)
        · rw [List.all_eq_false]
          exact ⟨_,List.getElem_mem hk',by simpa using hn⟩
        · have hy' : inW gs[k] 0 1048576 = true := by simpa using hy
          have hb := QcC hy'
          dsimp only
          rw [Qab hk' (by omega),w64 (n := t + gs[k]) (by omega) (by omega)]
          refine ⟨by omega,by omega,?_,?_,by omega,by omega⟩
          · rw [Int.toNat_natCast,List.take_succ_eq_append_getElem hk',List.all_append,h3]; simp [hy']
          · rw [Int.toNat_natCast,QsZ gs hk',h4]
      · have hk' : ¬ k < gs.length := by simpa using hk
        rw [List.take_of_length_le (by omega)] at h3 h4
        exact Ok.mk ⟨h3,h4⟩
    · cases e with
      | inr p => obtain ⟨rfl,hp⟩ := he; refine Ok.mk ?_; unfold Qi6; rw [hp]; rfl
      | inl s =>
        obtain ⟨hp,rfl⟩ := he
        dsimp only
        show Ok ((some (inW (ws.length : Int) 1 12)).bind _) _
        simp only [Option.bind_some]
        rw [QoV (p := Q2) hw (fun x _ => Qf5 x)]
        unfold Qi6
        rw [hp,Bool.true_and]
        cases (inW (ws.length : Int) 1 12 && ((ws.length : Int) == (gs.length : Int))) && decide (gs.sum > 0) with
        | false => exact Ok.mk rfl
        | true => exact Ok.mk rfl
  obtain ⟨r,hr,rfl⟩ := key
  exact hr

/-- A field with what its kind uses alone. -/
def Qgr (f : Qc) : Qc :=
  if f.Kind = 0 then ⟨f.Name,[],[],f.Kind,f.Lo,0,[],[]⟩
  else if f.Kind = 1 ∨ f.Kind = 4 ∨ f.Kind = 5 then ⟨f.Name,f.Of,[],f.Kind,f.Lo,f.Hi,[],[]⟩
  else if f.Kind = 2 then ⟨f.Name,[],[],f.Kind,f.Lo,f.Hi,[],[]⟩
  else if f.Kind = 3 then ⟨f.Name,[],[],f.Kind,0,0,f.Words,f.Weights⟩
  else if f.Kind = 6 then ⟨f.Name,f.Of,[],f.Kind,0,0,[],[]⟩
  else if f.Kind = 7 then ⟨f.Name,f.Of,f.Up,f.Kind,f.Lo,f.Hi,[],[]⟩
  else if f.Kind = 8 then ⟨f.Name,f.Of,f.Up,f.Kind,0,0,[],[]⟩
  else ⟨f.Name,[],[],f.Kind,0,0,[],[]⟩
theorem Qv4 (f : Qc) : Qd9 f = some (Qgr f) := by
  obtain ⟨n,o,u,k,lo,hi,w,g⟩ := f
  unfold Qd9 Qgr
  by_cases h0 : k = 0
  · subst h0; rfl
  by_cases h1 : k = 1
  · subst h1; rfl
  by_cases h4 : k = 4
  · subst h4; rfl
  by_cases h5 : k = 5
  · subst h5; rfl
  by_cases h2 : k = 2
  · subst h2; rfl
  by_cases h3 : k = 3
  · subst h3; rfl
  by_cases h6 : k = 6
  · subst h6; rfl
  by_cases h7 : k = 7
  · subst h7; rfl
  by_cases h8 : k = 8
  · subst h8; rfl
  simp [h0,h1,h2,h3,h4,h5,h6,h7,h8]
/-- Two fields are equal. -/
def Qgs (a b : Qc) : Bool := (((((((a.Name == b.Name) && (a.Of == b.Of)) && (a.Up == b.Up)) && (a.Kind == b.Kind)) && (a.Lo == b.Lo)) && (a.Hi == b.Hi)) && decide (a.Words = b.Words)) && decide (a.Weights = b.Weights)
theorem Qqh {a b : Qc} (h1 : a.Words.length ≤ 1000000) (h2 : a.Weights.length ≤ 1000000) : Qb6 a b = some (Qgs a b) := by
  unfold Qb6 Qgs
  rw [Qub h1,eqInt h2]
  cases ((((((a.Name == b.Name) && (a.Of == b.Of)) && (a.Up == b.Up)) && (a.Kind == b.Kind)) && (a.Lo == b.Lo)) && (a.Hi == b.Hi)) with
  | false => rfl
  | true =>
    simp only [Sim.opt,Bool.true_and,beq_self_eq_true,if_true,Option.bind_some]
    cases decide (a.Words = b.Words) <;> rfl
def QfS (f : Qc) : Bool :=
  if f.Kind = 0 then inW f.Lo (-1048576) 1048576
  else if f.Kind = 1 then Q2 f.Of && Qgq f.Lo f.Hi 0 65536
  else if f.Kind = 2 then Qgq f.Lo f.Hi (-1048576) 1048576
  else if f.Kind = 3 then Qi6 f.Words f.Weights
  else if f.Kind = 4 then ((f.Of == []) || Q2 f.Of) && Qgq f.Lo f.Hi (-1048576) 1048576
  else if f.Kind = 5 then Q2 f.Of && Qgq f.Lo f.Hi 0 32
  else if f.Kind = 6 then Q2 f.Of
  else if f.Kind = 7 then (Q2 f.Of && Q2 f.Up) && Qgq f.Lo f.Hi 0 1048576
  else if f.Kind = 8 then Q2 f.Of && Q2 f.Up
  else false
/-- A field is valid. -/
def QbH (f : Qc) : Bool := (Q2 f.Name && Qgs f (Qgr f)) && QfS f
theorem QrL {f : Qc} (h1 : f.Words.length ≤ 1000000) (h2 : f.Weights.length ≤ 1000000) : QcJ f = some (QbH f) := by
  unfold QcJ QbH
  rw [Qf5,Qv4]
  simp only [Option.bind_some]
  cases Q2 f.Name with
  | false => rfl
  | true =>
    simp only [Sim.opt,Bool.not_true,beq_self_eq_true,if_true,Option.bind_some]
    rw [Qqh h1 h2]
    simp only [Option.bind_some]
    cases Qgs f (Qgr f) with
    | false => rfl
    | true =>
      simp only [Qf5,Qs0 h1 h2,Bool.true_and,Bool.not_true,Bool.or_self]
      rw [if_neg (by decide)]
      unfold QfS
      by_cases c0 : f.Kind = 0
      · rw [if_pos (by simp [c0]),if_pos c0]; rfl
      rw [if_neg (by simpa using c0),if_neg c0]
      by_cases c1 : f.Kind = 1
      · rw [if_pos (by simp [c1]),if_pos c1]; cases Q2 f.Of <;> rfl
      rw [if_neg (by simpa using c1),if_neg c1]
      by_cases c2 : f.Kind = 2
      · rw [if_pos (by simp [c2]),if_pos c2]; rfl
      rw [if_neg (by simpa using c2),if_neg c2]
      by_cases c3 : f.Kind = 3
      · rw [if_pos (by simp [c3]),if_pos c3]; rfl
      rw [if_neg (by simpa using c3),if_neg c3]
      by_cases c4 : f.Kind = 4
      · rw [if_pos (by simp [c4]),if_pos c4]; cases (f.Of == []) <;> cases Q2 f.Of <;> rfl
      rw [if_neg (by simpa using c4),if_neg c4]
      by_cases c5 : f.Kind = 5
      · rw [if_pos (by simp [c5]),if_pos c5]; cases Q2 f.Of <;> rfl
      rw [if_neg (by simpa using c5),if_neg c5]
      by_cases c6 : f.Kind = 6
      · rw [if_pos (by simp [c6]),if_pos c6]; rfl
      rw [if_neg (by simpa using c6),if_neg c6]
      by_cases c7 : f.Kind = 7
      · rw [if_pos (by simp [c7]),if_pos c7]; cases Q2 f.Of <;> cases Q2 f.Up <;> rfl
      rw [if_neg (by simpa using c7),if_neg c7]
      by_cases c8 : f.Kind = 8
      · rw [if_pos (by simp [c8]),if_pos c8]; cases Q2 f.Of <;> rfl
      rw [if_neg (by simpa using c8),if_neg c8]

/-- A kind, a life, a rule is valid. -/
def QdS (k : Qi) : Bool := ((Q2 k.Name && Qgq k.Lo k.Hi 0 65536) && decide ((k.Fields.length : Int) ≤ 10)) && k.Fields.all QbH
def QoW (l : List Qc) : Prop := l.length ≤ 1000000 ∧ ∀ f ∈ l,f.Words.length ≤ 1000000 ∧ f.Weights.length ≤ 1000000
theorem Qs1 {k : Qi} (h : QoW k.Fields) : QcZ k = some (QdS k) := by
  unfold QcZ QdS
  rw [Qf5,Qua (p := QbH) h.1 (fun f hf => QrL (h.2 f hf).1 (h.2 f hf).2)]
  simp only [Option.bind_some]
  cases Q2 k.Name with
  | false => rfl
  | true =>
    show (opt true (some (Qgq k.Lo k.Hi 0 65536)) default).bind _ = _
    simp only [Sim.opt,Bool.true_and,if_true,Option.bind_some]
    cases Qgq k.Lo k.Hi 0 65536 with
    | false => rfl
    | true =>
      cases hd : decide ((k.Fields.length : Int) ≤ 10) with
      | false => rfl
      | true => rfl
def QeQ (n : Int) (m : QK) : Bool := inW m.a0 0 (n - 1) && inW m.a1 0 (n - 1)
def Qgt (x : Qu) : Bool := (((Q2 x.Name && inW (x.States.length : Int) 1 12) && x.States.all Q2) && decide ((x.Moves.length : Int) ≤ 32)) && x.Moves.all (QeQ (x.States.length : Int))
theorem Qs2 {x : Qu} (h1 : x.States.length ≤ 1000000) (h2 : x.Moves.length ≤ 1000000) : Qc0 x = some (Qgt x) := by
  have hm : ∀ m ∈ x.Moves,Qcs m (x.States.length : Int) = some (QeQ (x.States.length : Int) m) := fun m _ => by
    unfold Qcs QeQ
    rw [w64 (by omega) (by omega)]
    show (some (inW m.a0 0 ((x.States.length : Int) - 1))).bind _ = _
    simp only [Option.bind_some]
    cases inW m.a0 0 ((x.States.length : Int) - 1) <;> rfl
  unfold Qc0 Qgt
  rw [Qf5,QoV (p := Q2) h1 (fun s _ => Qf5 s),QsY (p := QeQ (x.States.length : Int)) h2 hm]
  simp only [Option.bind_some]
  cases Q2 x.Name with
  | false => rfl
  | true =>
    show (opt true (some (inW (x.States.length : Int) 1 12)) default).bind _ = _
    simp only [Sim.opt,Bool.true_and,if_true,Option.bind_some]
    cases inW (x.States.length : Int) 1 12 with
    | false => rfl
    | true =>
      simp only [Bool.true_and,beq_self_eq_true,if_true,Option.bind_some]
      cases x.States.all Q2 with
      | false => rfl
      | true => cases decide ((x.Moves.length : Int) ≤ 32) <;> rfl
def QeE (r : Qo) : Bool := ((((Q2 r.Name && Q2 r.Kind) && ((r.A == []) || Q2 r.A)) && ((r.B == []) || Q2 r.B)) && (r.A ++ r.B != [])) && inW r.N (-1048576) 1048576
theorem Qf6 {s : Str} (h : Q2 s = true) : s.length ≤ 12 := by
  unfold Q2 at h
  simp only [Bool.and_eq_true] at h
  have := (QcC h.1).2
  omega
theorem Qs3 (r : Qo) : Qc1 r = some (QeE r) := by
  have len : ∀ s : Str,((s == []) || Q2 s) = true → s.length ≤ 12 := fun s h => by
    rcases Bool.or_eq_true _ _ |>.mp h with h | h
    · have : s = [] := by simpa using h
      subst this; simp
    · exact Qf6 h
  unfold Qc1 QeE
  simp only [Qf5]
  simp only [Option.bind_some]
  cases Q2 r.Name with
  | false => rfl
  | true =>
    simp only [Sim.opt,Bool.true_and,beq_self_eq_true,if_true,Option.bind_some]
    cases Q2 r.Kind with
    | false => rfl
    | true =>
      simp only [Bool.true_and,beq_self_eq_true,Bool.true_and]
      have la := len r.A
      have lb := len r.B
      cases ha : (r.A == []) <;> cases hna : Q2 r.A <;> cases hb : (r.B == []) <;> cases hnb : Q2 r.B <;> first
        | rfl
        | (rw [ha,hna] at la; rw [hb,hnb] at lb
           have e : cat (r.A.length + r.B.length) = some () := if_pos (by have := la rfl; have := lb rfl; omega)
           simp only [e,Bool.false_or,Bool.or_false,Bool.true_or,Bool.or_true,Bool.and_true,Bool.true_and,Bool.and_self,beq_self_eq_true,if_true,Option.bind_some]
           cases (r.A ++ r.B != []) <;> rfl)

end Go.Proofs.YtcdccjagknlmpaaGreatDoor

namespace Go.Proofs.YtcdccjagknlmpaaGreatDoor
open Go.Sim

theorem QhS : ∀ (k u : Nat),u < 10 ^ (k + 1) → (Lib.decDigits u).length ≤ k + 1
 | 0,u,h => by rw [Lib.decDigits,dif_pos (by simpa using h)]; simp
 | k + 1,u,h => by
  rw [Lib.decDigits]
  split
  ·simp
  ·have := QhS k (u / 10) (by rw [Nat.pow_succ] at h; omega)
   rw [List.length_append,List.length_singleton]; omega
theorem Qqi {n : Int} (h : I64 n) : (Lib.itoa n).length ≤ 20 := by
 unfold I64 at h
 unfold Lib.itoa
 split
 ·have := QhS 18 n.natAbs (by omega)
  rw [List.length_cons]; omega
 ·have := QhS 18 n.toNat (by omega)
  omega
theorem Qv5 {n : Int} (h : I64 n) : QkQ n = some (Lib.itoa n) := if_pos h

/-- The text of a value. -/
def Qmf : AnyV → Str
 | .int n => Lib.itoa n
 | .str s => s
def VOk : AnyV → Prop
 | .int n => I64 n
 | .str s => s.length ≤ 100
theorem Qqj {v : AnyV} (h : VOk v) : (Qmf v).length ≤ 100 := by
 cases v with
 | int n => have := Qqi h; show (Lib.itoa n).length ≤ 100; omega
 | str s => exact h
/-- A blank and a value, for each. -/
def toks (l : List AnyV) : Str := l.flatMap fun v => 32 :: Qmf v
theorem Qm0 {l : List AnyV} (h : ∀ v ∈ l,VOk v) : (toks l).length ≤ l.length * 101 := by
 induction l with
 | nil => simp [toks]
 | cons v l ih =>
  have h1 := ih fun u hu => h u (List.mem_cons_of_mem _ hu)
  have h2 := Qqj (h v List.mem_cons_self)
  have e : toks (v :: l) = (32 :: Qmf v) ++ toks l := rfl
  rw [e,List.length_append,List.length_cons,List.length_cons]
  omega
def QeR (w : Str) (l : List AnyV) : Str := w ++ toks l ++ [10]
theorem Qfv {a b : Str} (h : a.length + b.length ≤ 68719476736) : Qad a b = some (a ++ b) := if_pos h
theorem Qjh {w : Str} {l : List AnyV} (h1 : 1 ≤ w.length) (h2 : w.length ≤ 10) (hl : l.length ≤ 1000) (hv : ∀ v ∈ l,VOk v) : Qan w l = some (QeR w l) := by
 have key : Ok (Qan w l) (fun r => r = QeR w l) := by
  unfold Qan
  rw [Qfv (by simp; omega)]
  simp only [Option.bind_some,List.nil_append]
  refine Ok.bind (P := fun r => r = w ++ toks l) (Ok.loop (fun m s => 0 ≤ s.1 ∧ s.1 + m = l.length ∧ s.2 = w ++ toks (l.take s.1.toNat)) l.length ⟨Int.le_refl _,by dsimp only; omega,by simp [toks]⟩ fun m s hs => ?_) fun r hr => ?_
  ·obtain ⟨i,t⟩ := s
   obtain ⟨e1,e2,e3⟩ := hs
   dsimp only at e1 e2 e3
   obtain ⟨k,rfl⟩ := Int.eq_ofNat_of_zero_le e1
   rw [Int.toNat_natCast] at e3
   subst e3
   refine Ok.ite (fun hk => ?_) (fun hk => ?_)
   ·have hk' : k < l.length := by simpa using hk
    have hvk := hv _ (List.getElem_mem hk')
    have hlen := Qm0 (l := l.take k) fun v hm => hv v (List.mem_of_mem_take hm)
    have htl := Qqj hvk
    have hlk : (l.take k).length ≤ 1000 := by rw [List.length_take]; omega
    dsimp only
    rw [Qak hk']
    simp only [Option.bind_some]
    have eb : QgG (w ++ toks (l.take k)) 32 = some (w ++ toks (l.take k) ++ [32]) := if_pos ⟨by decide,by decide,by rw [List.length_append]; omega⟩
    rw [eb]
    simp only [Option.bind_some]
    refine Ok.bind (P := fun p => p = w ++ toks (l.take k) ++ [32] ++ Qmf l[k]) ?_ fun p hp => Ok.mk ⟨m - 1,by omega,?_⟩
    ·cases hk2 : l[k] with
     | int n =>
      rw [hk2] at hvk htl
      show Ok (if true = true then _ else _) _
      rw [if_pos rfl]
      show Ok ((QkQ n).bind _) _
      rw [Qv5 hvk]
      simp only [Option.bind_some]
      have hi := Qqi hvk
      rw [Qfv (by simp only [List.length_append,List.length_singleton]; omega)]
      exact Ok.mk rfl
     | str s =>
      rw [hk2] at hvk htl
      show Ok (if false = true then _ else ((if true = true then (Qad (w ++ toks (l.take k) ++ [32]) s).bind _ else _)).bind _) _
      rw [if_neg (by decide),if_pos rfl]
      have hs : s.length ≤ 100 := hvk
      rw [Qfv (by simp only [List.length_append,List.length_singleton]; omega)]
      exact Ok.mk rfl
    ·subst hp
     dsimp only
     rw [Qab hk' (by omega)]
     refine ⟨by omega,by omega,?_⟩
     rw [Int.toNat_natCast,List.take_succ_eq_append_getElem hk']
     simp only [toks,List.flatMap_append,List.flatMap_cons,List.flatMap_nil,List.append_nil,List.append_assoc,List.cons_append,List.nil_append]
   ·have hk' : ¬ k < l.length := by simpa using hk
    refine Ok.mk ?_
    dsimp only
    rw [List.take_of_length_le (by omega)]
  ·subst hr
   have hlen := Qm0 hv
   have eb : Qfd (w ++ toks l) = some (w ++ toks l) := if_neg fun h => by
    have := congrArg List.length h
    rw [List.length_append,List.length_nil] at this; omega
   rw [eb]
   simp only [Option.bind_some]
   exact Ok.cat (by rw [List.length_append,List.length_singleton]; omega) (Ok.mk rfl)
 obtain ⟨r,hr,rfl⟩ := key
 exact hr
theorem Qf7 {w : Str} {l : List AnyV} (h2 : w.length ≤ 10) (hv : ∀ v ∈ l,VOk v) : (QeR w l).length ≤ 11 + l.length * 101 := by
 have := Qm0 hv
 unfold QeR
 rw [List.length_append,List.length_append,List.length_singleton]; omega

/-- The token of a name that may be empty. -/
def Qdn (s : Str) : Str := if s = [] then [45] else s
theorem Qm1 (s : Str) : Qcm s = some (Qdn s) := by
 unfold Qcm QdY
 have key : ∀ body : Int → Option (Int ⊕ (Unit ⊕ Str)),(body 0 = if (s != []) = true then some (.inr (.inr s)) else some (.inl 1)) → body 1 = some (.inr (.inr [45])) →
   QI body 0 = some (.inr (Qdn s)) := fun body h0 h1 => by
  rw [QbE,h0]
  unfold Qdn
  by_cases hs : s = []
  ·rw [if_neg (by simp [hs]),if_pos hs]
   show QI body 1 = _
   rw [QbE,h1]
  ·rw [if_pos (by simpa using hs),if_neg hs]
 rw [key _ rfl rfl]; rfl

/-- What a line of a field says. -/
def Q5 (f : Qc) : List AnyV :=
 if f.Kind = 0 then [.str f.Name,.int f.Lo]
 else if f.Kind = 2 then [.str f.Name,.int f.Lo,.int f.Hi]
 else if f.Kind = 3 then [.str f.Name,.int (f.Words.length : Int)] ++ (f.Words.zip f.Weights).flatMap fun p => [.str p.1,.int p.2]
 else if f.Kind = 6 then [.str f.Name,.str f.Of]
 else if f.Kind = 7 then [.str f.Name,.str f.Up,.str f.Of,.int f.Lo,.int f.Hi]
 else if f.Kind = 8 then [.str f.Name,.str f.Up,.str f.Of]
 else [.str f.Name,.str (Qdn f.Of),.int f.Lo,.int f.Hi]
def Qk1 (f : Qc) : Str := Qjl[f.Kind.toNat]?.getD []
/-- The line of a field. -/
def QdU (f : Qc) : Str := QeR (Qk1 f) (Q5 f)

end Go.Proofs.YtcdccjagknlmpaaGreatDoor

namespace Go.Proofs.YtcdccjagknlmpaaGreatDoor
open Go.Sim

theorem Qe0 {s : Str} (h : Q2 s = true) : VOk (.str s) := by have := Qf6 h; show s.length ≤ 100; omega
theorem Qkt {s : Str} (h : ((s == []) || Q2 s) = true) : VOk (.str (Qdn s)) := by
 unfold Qdn
 by_cases hs : s = []
 ·rw [if_pos hs]; show ([45] : Str).length ≤ 100; decide
 ·rw [if_neg hs]
  have : Q2 s = true := by simpa [hs] using h
  exact Qe0 this
theorem QbM {n : Int} (h : -100000000 ≤ n ∧ n ≤ 100000000) : VOk (.int n) := by show I64 n; unfold I64; omega
theorem Qs4 {l : List Str} {g : List Int} (h : l.length = g.length) (k : Nat) (hk : k < l.length) : (((l.zip g).take k).flatMap fun p => [AnyV.str p.1,AnyV.int p.2]) ++ [AnyV.str l[k],AnyV.int (g[k]'(by omega))] = ((l.zip g).take (k + 1)).flatMap fun p => [AnyV.str p.1,AnyV.int p.2] := by
 rw [List.take_succ_eq_append_getElem (by rw [List.length_zip]; omega),List.flatMap_append,List.getElem_zip]
 rfl
theorem QlO (l : List (Str × Int)) : (l.flatMap fun p => [AnyV.str p.1,AnyV.int p.2]).length = 2 * l.length := by
 induction l with
 | nil => rfl
 | cons a l ih => rw [List.flatMap_cons,List.length_append,ih]; simp; omega
/-- What a valid field is. -/
structure Qor (f : Qc) : Prop where
 kind : 0 ≤ f.Kind ∧ f.Kind ≤ 8
 items : ∀ v ∈ Q5 f,VOk v
 count : (Q5 f).length ≤ 30
 pick : f.Kind = 3 → f.Words.length = f.Weights.length ∧ f.Words.length ≤ 12
theorem QcS {lo hi a b : Int} (h : Qgq lo hi a b = true) : a ≤ lo ∧ lo ≤ hi ∧ hi ≤ b := by
 simp only [Qgq,Bool.and_eq_true,decide_eq_true_eq] at h; omega
theorem QjO {f : Qc} (h : QbH f = true) : Qor f := by
 unfold QbH at h
 simp only [Bool.and_eq_true] at h
 obtain ⟨⟨hn,_⟩,hp⟩ := h
 have hnv := Qe0 hn
 unfold QfS at hp
 by_cases c0 : f.Kind = 0
 ·rw [if_pos c0] at hp
  have e : Q5 f = [.str f.Name,.int f.Lo] := by unfold Q5; rw [if_pos c0]
  refine ⟨by omega,?_,by rw [e]; simp,fun h => by omega⟩
  have := QcC hp
  rw [e]; simp only [List.mem_cons,List.not_mem_nil,or_false,forall_eq_or_imp,forall_eq]
  exact ⟨hnv,QbM (by omega)⟩
 rw [if_neg c0] at hp
 by_cases c1 : f.Kind = 1
 ·rw [if_pos c1] at hp
  simp only [Bool.and_eq_true] at hp
  have e : Q5 f = [.str f.Name,.str (Qdn f.Of),.int f.Lo,.int f.Hi] := by unfold Q5; simp [c1]
  have := QcS hp.2
  refine ⟨by omega,?_,by rw [e]; simp,fun h => by omega⟩
  rw [e]; simp only [List.mem_cons,List.not_mem_nil,or_false,forall_eq_or_imp,forall_eq]
  exact ⟨hnv,Qkt (by rw [hp.1]; simp),QbM (by omega),QbM (by omega)⟩
 rw [if_neg c1] at hp
 by_cases c2 : f.Kind = 2
 ·rw [if_pos c2] at hp
  have e : Q5 f = [.str f.Name,.int f.Lo,.int f.Hi] := by unfold Q5; simp [c2]
  have := QcS hp
  refine ⟨by omega,?_,by rw [e]; simp,fun h => by omega⟩
  rw [e]; simp only [List.mem_cons,List.not_mem_nil,or_false,forall_eq_or_imp,forall_eq]
  exact ⟨hnv,QbM (by omega),QbM (by omega)⟩
 rw [if_neg c2] at hp
 by_cases c3 : f.Kind = 3
 ·rw [if_pos c3] at hp
  simp only [Qi6,Bool.and_eq_true,List.all_eq_true,beq_iff_eq] at hp
  obtain ⟨hg,⟨⟨hw,hl⟩,_⟩,hws⟩ := hp
  have hw' := (QcC hw).2
  have hl' : f.Words.length = f.Weights.length := by omega
  have e : Q5 f = [.str f.Name,.int (f.Words.length : Int)] ++ (f.Words.zip f.Weights).flatMap fun p => [.str p.1,.int p.2] := by unfold Q5; simp [c3]
  refine ⟨by omega,?_,?_,fun _ => ⟨hl',by omega⟩⟩
  ·rw [e]
   intro v hv
   rcases List.mem_append.1 hv with hv | hv
   ·simp only [List.mem_cons,List.not_mem_nil,or_false] at hv
    rcases hv with rfl | rfl
    ·exact hnv
    ·exact QbM (by omega)
   ·obtain ⟨p,hp,hv⟩ := List.mem_flatMap.1 hv
    obtain ⟨a,b⟩ := p
    have hz := List.of_mem_zip hp
    simp only [List.mem_cons,List.not_mem_nil,or_false] at hv
    rcases hv with rfl | rfl
    ·exact Qe0 (hws _ hz.1)
    ·have := QcC (hg _ hz.2); exact QbM (by omega)
  ·rw [e,List.length_append,QlO,List.length_zip]
   simp only [List.length_cons,List.length_nil]
   omega
 rw [if_neg c3] at hp
 by_cases c4 : f.Kind = 4
 ·rw [if_pos c4] at hp
  simp only [Bool.and_eq_true] at hp
  have e : Q5 f = [.str f.Name,.str (Qdn f.Of),.int f.Lo,.int f.Hi] := by unfold Q5; simp [c4]
  have := QcS hp.2
  refine ⟨by omega,?_,by rw [e]; simp,fun h => by omega⟩
  rw [e]; simp only [List.mem_cons,List.not_mem_nil,or_false,forall_eq_or_imp,forall_eq]
  exact ⟨hnv,Qkt hp.1,QbM (by omega),QbM (by omega)⟩
 rw [if_neg c4] at hp
 by_cases c5 : f.Kind = 5
 ·rw [if_pos c5] at hp
  simp only [Bool.and_eq_true] at hp
  have e : Q5 f = [.str f.Name,.str (Qdn f.Of),.int f.Lo,.int f.Hi] := by unfold Q5; simp [c5]
  have := QcS hp.2
  refine ⟨by omega,?_,by rw [e]; simp,fun h => by omega⟩
  rw [e]; simp only [List.mem_cons,List.not_mem_nil,or_false,forall_eq_or_imp,forall_eq]
  exact ⟨hnv,Qkt (by rw [hp.1]; simp),QbM (by omega),QbM (by omega)⟩
 rw [if_neg c5] at hp
 by_cases c6 : f.Kind = 6
 ·rw [if_pos c6] at hp
  have e : Q5 f = [.str f.Name,.str f.Of] := by unfold Q5; simp [c6]
  refine ⟨by omega,?_,by rw [e]; simp,fun h => by omega⟩
  rw [e]; simp only [List.mem_cons,List.not_mem_nil,or_false,forall_eq_or_imp,forall_eq]
  exact ⟨hnv,Qe0 hp⟩
 rw [if_neg c6] at hp
 by_cases c7 : f.Kind = 7
 ·rw [if_pos c7] at hp
  simp only [Bool.and_eq_true] at hp
  have e : Q5 f = [.str f.Name,.str f.Up,.str f.Of,.int f.Lo,.int f.Hi] := by unfold Q5; simp [c7]
  have := QcS hp.2
  refine ⟨by omega,?_,by rw [e]; simp,fun h => by omega⟩
  rw [e]; simp only [List.mem_cons,List.not_mem_nil,or_false,forall_eq_or_imp,forall_eq]
  exact ⟨hnv,Qe0 hp.1.2,Qe0 hp.1.1,QbM (by omega),QbM (by omega)⟩
 rw [if_neg c7] at hp
 by_cases c8 : f.Kind = 8
 ·rw [if_pos c8] at hp
  simp only [Bool.and_eq_true] at hp
  have e : Q5 f = [.str f.Name,.str f.Up,.str f.Of] := by unfold Q5; simp [c8]
  refine ⟨by omega,?_,by rw [e]; simp,fun h => by omega⟩
  rw [e]; simp only [List.mem_cons,List.not_mem_nil,or_false,forall_eq_or_imp,forall_eq]
  exact ⟨hnv,Qe0 hp.2,Qe0 hp.1⟩
 rw [if_neg c8] at hp
 cases hp
theorem QlP {f : Qc} (h : 0 ≤ f.Kind ∧ f.Kind ≤ 8) : idx Qjl f.Kind = some (Qk1 f) ∧ 1 ≤ (Qk1 f).length ∧ (Qk1 f).length ≤ 10 := by
 obtain ⟨k,hk⟩ := Int.eq_ofNat_of_zero_le h.1
 have hk8 : k ≤ 8 := by omega
 unfold Qk1
 rw [hk,QfD,Int.toNat_natCast]
 have : k = 0 ∨ k = 1 ∨ k = 2 ∨ k = 3 ∨ k = 4 ∨ k = 5 ∨ k = 6 ∨ k = 7 ∨ k = 8 := by omega
 rcases this with rfl | rfl | rfl | rfl | rfl | rfl | rfl | rfl | rfl <;> exact ⟨rfl,by decide,by decide⟩
theorem Quc {f : Qc} (h : Qor f) : QdA f = some (QdU f) := by
 obtain ⟨e0,w1,w2⟩ := QlP h.kind
 have fin : Qan (Qk1 f) (Q5 f) = some (QdU f) := Qjh w1 w2 (by have := h.count; omega) h.items
 unfold QdA
 rw [e0]
 simp only [Option.bind_some]
 by_cases c0 : f.Kind = 0
 ·rw [if_pos (by simp [c0])]
  have e : Q5 f = [.str f.Name,.int f.Lo] := by unfold Q5; simp [c0]
  rw [← e,fin]; rfl
 rw [if_neg (by simpa using c0)]
 by_cases c2 : f.Kind = 2
 ·rw [if_pos (by simp [c2])]
  have e : Q5 f = [.str f.Name,.int f.Lo,.int f.Hi] := by unfold Q5; simp [c2]
  rw [← e,fin]; rfl
 rw [if_neg (by simpa using c2)]
 by_cases c3 : f.Kind = 3
 ·rw [if_pos (by simp [c3])]
  obtain ⟨p1,p2⟩ := h.pick c3
  have e : Q5 f = [.str f.Name,.int (f.Words.length : Int)] ++ (f.Words.zip f.Weights).flatMap fun p => [.str p.1,.int p.2] := by unfold Q5; simp [c3]
  refine QgW f.Words.length (fun n => ((n : Int),[.str f.Name,.int (f.Words.length : Int)] ++ ((f.Words.zip f.Weights).take n).flatMap fun p => [.str p.1,.int p.2])) _ (by simp) (fun n hn => ?_) (if_neg (by simp)) ?_
  ·have hlen : (((f.Words.zip f.Weights).take n).flatMap fun p => [AnyV.str p.1,AnyV.int p.2]).length ≤ 100 := by
    rw [QlO,List.length_take,List.length_zip]; omega
   rw [if_pos (by simpa using hn)]
   dsimp only
   rw [Qak hn,Qak (by omega)]
   simp only [Option.bind_some]
   rw [Qgn (by simp only [List.length_append,List.length_cons,List.length_nil]; omega),Qab hn (by omega),← Qs4 p1 n hn,List.append_assoc]
   rfl
  ·dsimp only
   rw [List.take_of_length_le (by rw [List.length_zip]; omega),← e,fin]; rfl
 rw [if_neg (by simpa using c3)]
 by_cases c6 : f.Kind = 6
 ·rw [if_pos (by simp [c6])]
  have e : Q5 f = [.str f.Name,.str f.Of] := by unfold Q5; simp [c6]
  rw [← e,fin]; rfl
 rw [if_neg (by simpa using c6)]
 by_cases c7 : f.Kind = 7
 ·rw [if_pos (by simp [c7])]
  have e : Q5 f = [.str f.Name,.str f.Up,.str f.Of,.int f.Lo,.int f.Hi] := by unfold Q5; simp [c7]
  rw [← e,fin]; rfl
 rw [if_neg (by simpa using c7)]
 by_cases c8 : f.Kind = 8
 ·rw [if_pos (by simp [c8])]
  have e : Q5 f = [.str f.Name,.str f.Up,.str f.Of] := by unfold Q5; simp [c8]
  rw [← e,fin]; rfl
 rw [if_neg (by simpa using c8),Qm1]
 simp only [Option.bind_some]
 have e : Q5 f = [.str f.Name,.str (Qdn f.Of),.int f.Lo,.int f.Hi] := by unfold Q5; simp [c0,c2,c3,c6,c7,c8]
 rw [← e,fin]; rfl
theorem QiU {f : Qc} (h : Qor f) : (QdU f).length ≤ 4000 := by
 have := Qf7 (QlP h.kind).2.2 h.items
 have := h.count
 unfold QdU
 omega

end Go.Proofs.YtcdccjagknlmpaaGreatDoor

namespace Go.Proofs.YtcdccjagknlmpaaGreatDoor
open Go.Sim

/-- A loop that appends. -/
theorem QjC {α : Type} (l : List α) (g : α → Str) (B : Nat) (hB : ∀ a ∈ l,(g a).length ≤ B) (a0 : Str) {body : Int × Str → Option ((Int × Str) ⊕ Str)}
  (hs : ∀ k (h : k < l.length) acc,acc.length ≤ a0.length + k * B → body ((k : Int),acc) = some (.inl (((k + 1 : Nat) : Int),acc ++ g l[k]))) (he : ∀ acc,body ((l.length : Int),acc) = some (.inr acc)) :
  QI body ((0 : Int),a0) = some (a0 ++ l.flatMap g) := by
 have hlen : ∀ n,n ≤ l.length → ((l.take n).flatMap g).length ≤ n * B := fun n => by
  induction n with
  | zero => intro _; simp
  | succ n ih =>
   intro hn
   rw [List.take_succ_eq_append_getElem (by omega),List.flatMap_append,List.length_append,Nat.succ_mul]
   have h1 := ih (by omega)
   have h2 := hB _ (List.getElem_mem (show n < l.length by omega))
   simp only [List.flatMap_cons,List.flatMap_nil,List.append_nil]
   omega
 have h := QfC (body := body) l.length (fun n => ((n : Int),a0 ++ (l.take n).flatMap g)) (a0 ++ l.flatMap g) (fun k hk => ?_) ?_
 ·simpa using h
 ·rw [hs k hk _ (by rw [List.length_append]; have := hlen k (by omega); omega),List.take_succ_eq_append_getElem hk,List.flatMap_append]
  simp
 ·rw [he]; simp

def Qe1 (k : Qi) : Str := QeR [107,105,110,100] [.str k.Name,.int k.Lo,.int k.Hi] ++ k.Fields.flatMap QdU
def Qhh (m : QK) : Str := QeR [109,111,118,101] [.int m.a0,.int m.a1]
def QfG (l : Qu) : Str := QeR [108,105,102,101] ([.str l.Name,.int (l.States.length : Int)] ++ l.States.map .str) ++ l.Moves.flatMap Qhh
def QeF (r : Qo) : List AnyV := [.str r.Name,.str r.Kind,.str (Qdn r.A),.str (Qdn r.B),.int r.N]
def Qhi (r : Qo) : Str := QeR [114,117,108,101] (QeF r)
/-- The source. -/
def srcS (x : Qg) : Str := QeR [115,99,104,101,109,97] [.int x.Version] ++ x.Kinds.flatMap Qe1 ++ x.Lives.flatMap QfG ++ x.Rules.flatMap Qhi

theorem Qku {k : Qi} (h : QdS k = true) : (∀ v ∈ [AnyV.str k.Name,.int k.Lo,.int k.Hi],VOk v) ∧ k.Fields.length ≤ 10 ∧ ∀ f ∈ k.Fields,QbH f = true := by
 simp only [QdS,Bool.and_eq_true,List.all_eq_true,decide_eq_true_eq] at h
 obtain ⟨⟨⟨h1,h2⟩,h3⟩,h4⟩ := h
 have := QcS h2
 refine ⟨?_,by omega,h4⟩
 simp only [List.mem_cons,List.not_mem_nil,or_false,forall_eq_or_imp,forall_eq]
 exact ⟨Qe0 h1,QbM (by omega),QbM (by omega)⟩
theorem Qfw {α : Type} {l : List α} {g : α → Str} {B : Nat} (h : ∀ a ∈ l,(g a).length ≤ B) : (l.flatMap g).length ≤ l.length * B := by
 induction l with
 | nil => simp
 | cons a l ih =>
  have h1 := ih fun b hb => h b (List.mem_cons_of_mem _ hb)
  have h2 := h a List.mem_cons_self
  rw [List.flatMap_cons,List.length_append,List.length_cons,Nat.succ_mul]; omega
theorem QmB {k : Qi} (h : QdS k = true) : (Qe1 k).length ≤ 50000 := by
 obtain ⟨h1,h2,h3⟩ := Qku h
 have e1 := Qf7 (w := [107,105,110,100]) (by decide) h1
 have e2 := Qfw (l := k.Fields) (g := QdU) (B := 4000) fun f hf => QiU (QjO (h3 f hf))
 unfold Qe1
 rw [List.length_append]
 simp only [List.length_cons,List.length_nil] at e1
 omega
theorem move_v {n : Int} (hn : n ≤ 1000) {m : QK} (h : QeQ n m = true) : ∀ v ∈ [AnyV.int m.a0,.int m.a1],VOk v := by
 simp only [QeQ,Bool.and_eq_true] at h
 have h1 := QcC h.1
 have h2 := QcC h.2
 simp only [List.mem_cons,List.not_mem_nil,or_false,forall_eq_or_imp,forall_eq]
 exact ⟨QbM (by omega),QbM (by omega)⟩
theorem Qs5 {l : Qu} (h : Qgt l = true) : (∀ v ∈ [AnyV.str l.Name,.int (l.States.length : Int)] ++ l.States.map .str,VOk v) ∧ l.States.length ≤ 12 ∧ l.Moves.length ≤ 32 ∧ ∀ m ∈ l.Moves,∀ v ∈ [AnyV.int m.a0,.int m.a1],VOk v := by
 simp only [Qgt,Bool.and_eq_true,List.all_eq_true,decide_eq_true_eq] at h
 obtain ⟨⟨⟨⟨h1,h2⟩,h3⟩,h4⟩,h5⟩ := h
 have hl := (QcC h2).2
 refine ⟨fun v hv => ?_,by omega,by omega,fun m hm => move_v (by omega) (h5 m hm)⟩
 rcases List.mem_append.1 hv with hv | hv
 ·simp only [List.mem_cons,List.not_mem_nil,or_false] at hv
  rcases hv with rfl | rfl
  ·exact Qe0 h1
  ·exact QbM (by omega)
 ·obtain ⟨s,hs,rfl⟩ := List.mem_map.1 hv
  exact Qe0 (h3 s hs)
theorem Qj4 {m : QK} (h : ∀ v ∈ [AnyV.int m.a0,.int m.a1],VOk v) : (Qhh m).length ≤ 300 := by
 have := Qf7 (w := [109,111,118,101]) (by decide) h
 simp only [List.length_cons,List.length_nil] at this
 unfold Qhh; omega
theorem Qj5 {l : Qu} (h : Qgt l = true) : (QfG l).length ≤ 20000 := by
 obtain ⟨h1,h2,h3,h4⟩ := Qs5 h
 have e1 := Qf7 (w := [108,105,102,101]) (by decide) h1
 have e2 := Qfw (l := l.Moves) (g := Qhh) (B := 300) fun m hm => Qj4 (h4 m hm)
 unfold QfG
 rw [List.length_append]
 simp only [List.length_append,List.length_cons,List.length_nil,List.length_map] at e1
 omega
theorem Qs6 {r : Qo} (h : QeE r = true) : ∀ v ∈ QeF r,VOk v := by
 simp only [QeE,Bool.and_eq_true] at h
 obtain ⟨⟨⟨⟨⟨h1,h2⟩,h3⟩,h4⟩,_⟩,h5⟩ := h
 have := QcC h5
 unfold QeF
 simp only [List.mem_cons,List.not_mem_nil,or_false,forall_eq_or_imp,forall_eq]
 exact ⟨Qe0 h1,Qe0 h2,Qkt h3,Qkt h4,QbM (by omega)⟩
theorem QmC {r : Qo} (h : QeE r = true) : (Qhi r).length ≤ 1000 := by
 have := Qf7 (w := [114,117,108,101]) (by decide) (Qs6 h)
 have e : (QeF r).length = 5 := rfl
 unfold Qhi; omega

/-- A schema is valid, apart from the length of its source. -/
def QfA (x : Qg) : Bool := ((((inW x.Version 0 1048576 && decide ((x.Kinds.length : Int) ≤ 6)) && decide ((x.Lives.length : Int) ≤ 6)) && decide ((x.Rules.length : Int) ≤ 16)) && x.Kinds.all QdS) && x.Lives.all Qgt && x.Rules.all QeE
structure Qmg (x : Qg) : Prop where
 version : 0 ≤ x.Version ∧ x.Version ≤ 1048576
 kinds : x.Kinds.length ≤ 6
 lives : x.Lives.length ≤ 6
 rules : x.Rules.length ≤ 16
 kind : ∀ k ∈ x.Kinds,QdS k = true
 life : ∀ l ∈ x.Lives,Qgt l = true
 rule : ∀ r ∈ x.Rules,QeE r = true
theorem QlQ {x : Qg} (h : QfA x = true) : Qmg x := by
 simp only [QfA,Bool.and_eq_true,List.all_eq_true,decide_eq_true_eq] at h
 obtain ⟨⟨⟨⟨⟨⟨h1,h2⟩,h3⟩,h4⟩,h5⟩,h6⟩,h7⟩ := h
 exact ⟨QcC h1,by omega,by omega,by omega,h5,h6,h7⟩

theorem Qs7 {x : Qg} (h : Qmg x) : Qc2 x = some (srcS x) := by
 have hv := h.version
 have v0 : ∀ v ∈ [AnyV.int x.Version],VOk v := by simp only [List.mem_cons,List.not_mem_nil,or_false,forall_eq]; exact QbM (by omega)
 have l0 := Qf7 (w := [115,99,104,101,109,97]) (by decide) v0
 simp only [List.length_cons,List.length_nil] at l0
 have lk := Qfw (l := x.Kinds) (g := Qe1) (B := 50000) fun k hk => QmB (h.kind k hk)
 have ll := Qfw (l := x.Lives) (g := QfG) (B := 20000) fun k hk => Qj5 (h.life k hk)
 have nk := h.kinds
 have nl := h.lives
 have nr := h.rules
 unfold Qc2
 rw [Qjh (by decide) (by decide) (by simp) v0]
 simp only [Option.bind_some]
 rw [Qfv (by rw [List.length_nil]; omega)]
 simp only [Option.bind_some,List.nil_append]
 rw [QjC x.Kinds Qe1 50000 (fun k hk => QmB (h.kind k hk)) (QeR [115,99,104,101,109,97] [.int x.Version]) (fun k hk acc hacc => ?_) (fun acc => if_neg (by simp))]
 ·simp only [Option.bind_some]
  rw [QjC x.Lives QfG 20000 (fun k hk => Qj5 (h.life k hk)) (QeR [115,99,104,101,109,97] [.int x.Version] ++ x.Kinds.flatMap Qe1) (fun k hk acc hacc => ?_) (fun acc => if_neg (by simp))]
  ·simp only [Option.bind_some]
   rw [QjC x.Rules Qhi 1000 (fun k hk => QmC (h.rule k hk)) (QeR [115,99,104,101,109,97] [.int x.Version] ++ x.Kinds.flatMap Qe1 ++ x.Lives.flatMap QfG) (fun k hk acc hacc => ?_) (fun acc => if_neg (by simp))]
   ·simp only [Option.bind_some]
    have e : Qfd (srcS x) = some (srcS x) := if_neg fun h => by
     have := congrArg List.length h
     simp only [srcS,QeR,List.length_append,List.length_cons,List.length_nil] at this; omega
    show (Qfd (srcS x)).bind _ = _
    rw [e]; rfl
   ·have hr := h.rule _ (List.getElem_mem hk)
    have hrl := QmC hr
    rw [if_pos (by simpa using hk)]
    dsimp only
    rw [Qak hk]
    simp only [Option.bind_some]
    rw [Qm1,Qm1]
    simp only [Option.bind_some]
    show (Qan [114,117,108,101] (QeF x.Rules[k])).bind _ = _
    rw [Qjh (by decide) (by decide) (by simp [QeF]) (Qs6 hr)]
    simp only [Option.bind_some]
    rw [List.length_append,List.length_append] at hacc
    rw [Qfv (by show acc.length + (Qhi x.Rules[k]).length ≤ _; omega),Qab hk (by omega)]
    rfl
  ·have hl := h.life _ (List.getElem_mem hk)
   obtain ⟨w1,w2,w3,w4⟩ := Qs5 hl
   have hll := Qj5 hl
   rw [if_pos (by simpa using hk)]
   dsimp only
   rw [Qak hk]
   simp only [Option.bind_some]
   have hst : ∀ n,n ≤ x.Lives[k].States.length → ([AnyV.str x.Lives[k].Name,.int (x.Lives[k].States.length : Int)] ++ (x.Lives[k].States.take n).map AnyV.str).length ≤ 100 := fun n hn => by
    simp only [List.length_append,List.length_cons,List.length_nil,List.length_map,List.length_take]; omega
   refine QgW x.Lives[k].States.length (fun n => ((n : Int),[AnyV.str x.Lives[k].Name,.int (x.Lives[k].States.length : Int)] ++ (x.Lives[k].States.take n).map AnyV.str)) _ (by simp) (fun n hn => ?_) (if_neg (by simp)) ?_
   ·rw [if_pos (by simpa using hn)]
    dsimp only
    rw [Qak hn]
    simp only [Option.bind_some]
    rw [Qgn (by have := hst n (by omega); rw [List.length_singleton]; omega),Qab hn (by omega),List.take_succ_eq_append_getElem hn,List.map_append,← List.append_assoc]
    rfl
   ·dsimp only
    rw [List.take_of_length_le (Nat.le_refl _),Qjh (by decide) (by decide) (by have := hst _ (Nat.le_refl _); rw [List.take_of_length_le (Nat.le_refl _)] at this; omega) w1]
    simp only [Option.bind_some]
    have l1 := Qf7 (w := [108,105,102,101]) (by decide) w1
    simp only [List.length_append,List.length_cons,List.length_nil,List.length_map] at l1
    rw [List.length_append] at hacc
    rw [Qfv (by omega)]
    simp only [Option.bind_some]
    rw [QjC x.Lives[k].Moves Qhh 300 (fun m hm => Qj4 (w4 m hm)) _ (fun q hq acc2 hacc2 => ?_) (fun acc => if_neg (by simp))]
    ·simp only [Option.bind_some]
     rw [Qab hk (by omega)]
     simp [QfG]
    ·have hm := w4 _ (List.getElem_mem hq)
     have hml := Qj4 hm
     rw [if_pos (by simpa using hq)]
     dsimp only
     rw [Qak hq]
     simp only [Option.bind_some]
     rw [Qjh (by decide) (by decide) (by simp) hm]
     simp only [Option.bind_some]
     rw [List.length_append] at hacc2
     rw [Qfv (by show acc2.length + (Qhh x.Lives[k].Moves[q]).length ≤ _; omega),Qab hq (by omega)]
     rfl
 ·have hk' := h.kind _ (List.getElem_mem hk)
  obtain ⟨w1,w2,w3⟩ := Qku hk'
  have l1 := Qf7 (w := [107,105,110,100]) (by decide) w1
  simp only [List.length_cons,List.length_nil] at l1
  rw [if_pos (by simpa using hk)]
  dsimp only
  rw [Qak hk]
  simp only [Option.bind_some]
  rw [Qjh (by decide) (by decide) (by simp) w1]
  simp only [Option.bind_some]
  rw [Qfv (by omega)]
  simp only [Option.bind_some]
  rw [QjC x.Kinds[k].Fields QdU 4000 (fun f hf => QiU (QjO (w3 f hf))) _ (fun q hq acc2 hacc2 => ?_) (fun acc => if_neg (by simp))]
  ·simp only [Option.bind_some]
   rw [Qab hk (by omega)]
   simp [Qe1]
  ·have hf := QjO (w3 _ (List.getElem_mem hq))
   have hfl := QiU hf
   rw [if_pos (by simpa using hq)]
   dsimp only
   rw [Qak hq]
   simp only [Option.bind_some]
   rw [Quc hf]
   simp only [Option.bind_some]
   rw [List.length_append] at hacc2
   rw [Qfv (by omega),Qab hq (by omega)]
   rfl

/-- What Valid returns. -/
def QgM (x : Qg) : Int := if QfA x = true then (if (srcS x).length > 8192 then 4 else 0) else 1
/-- A schema whose lists are not huge. -/
def Fine (x : Qg) : Prop := (x.Kinds.length ≤ 1000000 ∧ ∀ k ∈ x.Kinds,QoW k.Fields) ∧ (x.Lives.length ≤ 1000000 ∧ ∀ l ∈ x.Lives,l.States.length ≤ 1000000 ∧ l.Moves.length ≤ 1000000) ∧ x.Rules.length ≤ 1000000
theorem Sz.fine {x : Qg} (h : Sz x) : Fine x := by
 obtain ⟨⟨a1,a2⟩,⟨b1,b2⟩,c,_⟩ := h
 refine ⟨⟨by omega,fun k hk => ⟨by have := (a2 k hk).1; omega,fun f hf => ?_⟩⟩,⟨by omega,fun l hl => ?_⟩,by omega⟩
 ·have := (a2 k hk).2.1 f hf
  exact ⟨by have := this.1; omega,by have := this.2.1; omega⟩
 ·have := b2 l hl
  exact ⟨by omega,by omega⟩
theorem Qud {x : Qg} (h : Fine x) : QdB x = some (QgM x) := by
 obtain ⟨⟨a1,a2⟩,⟨b1,b2⟩,c⟩ := h
 unfold QdB
 rw [Qv1 (p := QdS) a1 (fun k hk => Qs1 (a2 k hk)),Qv2 (p := Qgt) b1 (fun l hl => Qs2 (b2 l hl).1 (b2 l hl).2),Qv3 (p := QeE) c (fun r _ => Qs3 r)]
 show (some (inW x.Version 0 1048576)).bind _ = _
 simp only [Option.bind_some]
 have n1 : ∀ (n : Nat) (m : Int),decide ((n : Int) > m) = !decide ((n : Int) ≤ m) := fun n m => by
  by_cases h : (n : Int) ≤ m
  ·rw [decide_eq_true h,decide_eq_false (by omega)]; rfl
  ·rw [decide_eq_false h,decide_eq_true (by omega)]; rfl
 rw [n1,n1,n1]
 unfold QgM
 cases hv : QfA x with
 | true =>
  have hs := Qs7 (QlQ hv)
  simp only [QfA,Bool.and_eq_true] at hv
  obtain ⟨⟨⟨⟨⟨⟨h1,h2⟩,h3⟩,h4⟩,h5⟩,h6⟩,h7⟩ := hv
  simp only [h1,h2,h3,h4,h5,h6,h7,Sim.opt,Bool.not_true,Bool.or_self,beq_self_eq_true,if_true,Option.bind_some]
  rw [if_neg (by decide),hs]
  simp only [Option.bind_some]
  by_cases hl : (srcS x).length > 8192
  ·rw [if_pos (by simp; omega),if_pos hl]
  ·rw [if_neg (by simp; omega),if_neg hl]
 | false =>
  rw [if_neg (by decide)]
  unfold QfA at hv
  cases h1 : inW x.Version 0 1048576 <;> cases h2 : decide ((x.Kinds.length : Int) ≤ 6) <;> cases h3 : decide ((x.Lives.length : Int) ≤ 6) <;> cases h4 : decide ((x.Rules.length : Int) ≤ 16) <;>
   cases h5 : x.Kinds.all QdS <;> cases h6 : x.Lives.all Qgt <;> cases h7 : x.Rules.all QeE <;> first | rfl | (rw [h1,h2,h3,h4,h5,h6,h7] at hv; cases hv)

end Go.Proofs.YtcdccjagknlmpaaGreatDoor

namespace Go.Proofs.YtcdccjagknlmpaaGreatDoor
open Go.Sim

def Qa0 : List Qq → Int
 | [] => 0
 | f :: r => if f.is = true then f.code else Qa0 r
theorem Qg5 {l : List Qq} (hl : l.length ≤ 1000) : Qae l = some (Qa0 l) := by
 have key : Ok (Qae l) (fun r => r = Qa0 l) := by
  unfold Qae
  refine Ok.bind (P := fun e : Unit ⊕ Int => (match e with | .inl _ => 0 | .inr r => r) = Qa0 l) (Ok.loop (fun m s => 0 ≤ s ∧ s + m = l.length ∧ Qa0 (l.drop s.toNat) = Qa0 l) l.length ⟨Int.le_refl _,by omega,by simp⟩ fun m s hs => ?_) fun e he => by cases e <;> exact Ok.mk he
  obtain ⟨h1,h2,h3⟩ := hs
  obtain ⟨k,rfl⟩ := Int.eq_ofNat_of_zero_le h1
  rw [Int.toNat_natCast] at h3
  refine Ok.ite (fun hk => ?_) (fun hk => ?_)
  ·have hk' : k < l.length := by simpa using hk
   rw [Qak hk']
   simp only [Option.bind_some]
   rw [List.drop_eq_getElem_cons hk',Qa0] at h3
   refine Ok.ite (fun hi => Ok.mk ?_) (fun hi => Ok.mk ⟨m - 1,by omega,?_⟩)
   ·rw [if_pos hi] at h3; exact h3
   ·rw [if_neg (by rw [hi]; decide)] at h3
    rw [Qab hk' (by omega)]
    exact ⟨by omega,by omega,by rw [Int.toNat_natCast]; exact h3⟩
  ·have hk' : ¬ k < l.length := by simpa using hk
   rw [List.drop_of_length_le (by omega)] at h3
   exact Ok.mk h3
 obtain ⟨r,hr,rfl⟩ := key
 exact hr

/-- The field above to which Of leads. -/
def topS (x : Qg) (k j : Int) (f : Qc) : Qc × Bool :=
 if upIx x k j < 0 then (Qe7,false)
 else match idx x.Kinds (upIx x k j) with
  | none => (Qe7,false)
  | some q => match field? x (upIx x k j) (Qbf q f.Of) with | some g => (g,true) | none => (Qe7,false)
def Qs8 (g : Qc) : Bool := ((((g.Kind == 2) || (g.Kind == 3)) || (g.Kind == 4)) || (g.Kind == 5)) || (g.Kind == 8)
/-- The error of a field whose name is not there twice. -/
def Qiu (x : Qg) (q : Qi) (k j : Int) (f : Qc) : Int :=
 if f.Kind = 0 then Qa0 [⟨decide (j > 0),13⟩]
 else if f.Kind = 1 then Qa0 [⟨decide (upIx x k j < 0),12⟩]
 else if f.Kind = 4 then Qa0 [⟨(f.Of != []) && (((decide (Qbf q f.Of < 0)) || (decide (Qbf q f.Of ≥ j))) || ((match field? x k (Qbf q f.Of) with | some g => (g,true) | none => (Qe7,false)).1.Kind != 4)),12⟩]
 else if f.Kind = 5 then Qa0 [⟨!(x.Lives.any fun l => l.Name == f.Of),12⟩]
 else if f.Kind = 6 then Qa0 [⟨decide ((Qme x k f).1 < 0),12⟩,⟨((Qme x k f).2.length : Int) != 1,11⟩]
 else if f.Kind = 7 then Qa0 [⟨decide (upIx x k j < 0),12⟩,⟨((!(topS x k j f).2) || ((topS x k j f).1.Kind != 6)) || (Qaa x (topS x k j f).1.Of != k),13⟩]
 else if f.Kind = 8 then Qa0 [⟨decide (upIx x k j < 0),12⟩,⟨(!(topS x k j f).2) || (!Qs8 (topS x k j f).1),13⟩]
 else 0
theorem Qv6 (x : Qg) (k j : Int) (hk : 0 ≤ k) : upIx x k j < k ∧ -1 ≤ upIx x k j := by
 have hr : ∀ g,QhR x k g < k ∧ -1 ≤ QhR x k g := fun g => by
  have := QlM x g.Of
  unfold QhR; split <;> omega
 unfold upIx
 cases field? x k j with
 | none => exact ⟨by dsimp only; omega,by dsimp only; omega⟩
 | some f =>
  dsimp only
  split
  ·split
   ·omega
   ·split
    ·split
     ·split
      ·exact hr _
      ·omega
     ·omega
    ·omega
  ·split
   ·exact hr _
   ·omega
theorem Qs9 {x : Qg} {k j : Int} {f : Qc} (hx : Few x) (hk : 0 ≤ k) (hkl : k < x.Kinds.length) : QbU ⟨x,k,j,f⟩ = some (topS x k j f) := by
 unfold QbU topS
 rw [Qjz hx]
 simp only [Option.bind_some]
 by_cases hu : upIx x k j < 0
 ·rw [if_pos (by simpa using hu),if_pos hu]; rfl
 ·rw [if_neg (by simpa using hu),if_neg hu]
  have h1 := Qv6 x k j hk
  obtain ⟨q,hq,hqm⟩ := Qjy (l := x.Kinds) (i := upIx x k j) (by omega) (by omega)
  rw [hq]
  simp only [Option.bind_some]
  rw [QeD (by have := hx.2 q hqm; omega)]
  simp only [Option.bind_some]
  rw [Qk0]
  cases field? x (upIx x k j) (Qbf q f.Of) <;> rfl
theorem Qos {x : Qg} {k j : Int} {f : Qc} (hx : Few x) : Qbm ⟨x,k,j,f⟩ = some (decide (upIx x k j < 0)) := by
 unfold Qbm
 rw [Qjz hx]; rfl
theorem Que {x : Qg} {k j : Int} {q : Qi} {f : Qc} (hx : Few x) (hl : x.Lives.length ≤ 1000) (hq : idx x.Kinds k = some q) (hf : field? x k j = some f) (h : (Qbe f.Kind).isSome = true) : QkH (Qb3.mk (Qbe f.Kind)).check ⟨x,k,j,f⟩ = some (Qiu x q k j f) := by
 obtain ⟨q',hk,hj,hq',hqf,hqm,hkl,hjl⟩ := QhQ hf
 rw [hq] at hq'; cases hq'
 have one : ∀ a,Qae [a] = some (Qa0 [a]) := fun a => Qg5 (by simp)
 have two : ∀ a b,Qae [a,b] = some (Qa0 [a,b]) := fun a b => Qg5 (by simp)
 unfold Qiu
 dsimp only
 by_cases c0 : f.Kind = 0
 ·rw [if_pos c0,c0]
  show QbP _ = _
  unfold QbP; rw [one]; rfl
 rw [if_neg c0]
 by_cases c1 : f.Kind = 1
 ·rw [if_pos c1,c1]
  show QbQ _ = _
  unfold QbQ; rw [Qos hx]; simp only [Option.bind_some]; rw [one]; rfl
 rw [if_neg c1]
 by_cases c4 : f.Kind = 4
 ·rw [if_pos c4,c4]
  show QbR _ = _
  unfold QbR
  dsimp only
  rw [hq]
  simp only [Option.bind_some]
  rw [QeD (by have := hx.2 q hqm; omega)]
  simp only [Option.bind_some]
  rw [Qk0]
  simp only [Option.bind_some]
  rw [one]; rfl
 rw [if_neg c4]
 by_cases c5 : f.Kind = 5
 ·rw [if_pos c5,c5]
  show QbS _ = _
  unfold QbS
  dsimp only
  rw [QjB (s := x.Lives) (f := fun x0 => Qcz x0 ⟨x,k,j,f⟩) (p := fun l => l.Name == f.Of) (by omega) (fun l _ => rfl)]
  simp only [Option.bind_some]
  rw [one]; rfl
 rw [if_neg c5]
 by_cases c6 : f.Kind = 6
 ·rw [if_pos c6]
  show QkH (Qbe f.Kind) _ = _
  rw [c6]
  show QbT _ = _
  unfold QbT
  dsimp only
  rw [QsU hx hk]
  simp only [Option.bind_some]
  rw [two]; rfl
 rw [if_neg c6]
 by_cases c7 : f.Kind = 7
 ·rw [if_pos c7]
  show QkH (Qbe f.Kind) _ = _
  rw [c7]
  show QbV _ = _
  unfold QbV
  rw [Qs9 hx hk hkl,Qos hx]
  simp only [Option.bind_some]
  rw [Qd4 (by have := hx.1; omega)]
  cases hc : ((!(topS x k j f).2) || ((topS x k j f).1.Kind != 6)) with
  | true =>
   simp only [Sim.opt,Bool.true_or]
   show (Qae _).bind _ = _
   rw [two]; rfl
  | false =>
   simp only [Sim.opt,beq_self_eq_true,if_true,Option.bind_some]
   rw [two]; rfl
 rw [if_neg c7]
 by_cases c8 : f.Kind = 8
 ·rw [if_pos c8]
  show QkH (Qbe f.Kind) _ = _
  rw [c8]
  show QbW _ = _
  unfold QbW
  rw [Qs9 hx hk hkl,Qos hx]
  simp only [Option.bind_some]
  rw [two]; rfl
 rw [Qbe,if_neg c0,if_neg c1,if_neg c4,if_neg c5,if_neg c6,if_neg c7,if_neg c8] at h
 cases h
theorem Quf {x : Qg} {k j : Int} {q : Qi} {f : Qc} (h : (Qbe f.Kind).isSome = false) : Qiu x q k j f = 0 := by
 unfold Qiu
 by_cases c0 : f.Kind = 0
 ·rw [c0] at h; cases h
 by_cases c1 : f.Kind = 1
 ·rw [c1] at h; cases h
 by_cases c4 : f.Kind = 4
 ·rw [c4] at h; cases h
 by_cases c5 : f.Kind = 5
 ·rw [c5] at h; cases h
 by_cases c6 : f.Kind = 6
 ·rw [c6] at h; cases h
 by_cases c7 : f.Kind = 7
 ·rw [c7] at h; cases h
 by_cases c8 : f.Kind = 8
 ·rw [c8] at h; cases h
 rw [if_neg c0,if_neg c1,if_neg c4,if_neg c5,if_neg c6,if_neg c7,if_neg c8]

/-- The error of a kind. -/
def Qmh (x : Qg) (i : Int) (q : Qi) : Int := Qa0 [⟨decide (Qaa x q.Name < i),7⟩,⟨((q.Fields.length : Int) == 0) || ((q.Fields.headD Qe7).Kind != 0),11⟩]
theorem Qv7 {x : Qg} {i : Int} {q : Qi} (hx : Few x) (hq : idx x.Kinds i = some q) : Qea x i = some (Qmh x i q) := by
 unfold Qea Qmh
 rw [hq]
 simp only [Option.bind_some]
 rw [Qd4 (by have := hx.1; omega)]
 simp only [Option.bind_some]
 cases hf : q.Fields with
 | nil =>
  show (Qae _).bind _ = _
  rw [Qg5 (by simp)]; rfl
 | cons f fs =>
  have e : (((f :: fs).length : Int) == 0) = false := by simp; omega
  rw [e]
  simp only [Sim.opt,beq_self_eq_true,if_true]
  rw [show idx (f :: fs) (0:Int) = some f from rfl]
  simp only [Option.bind_some]
  rw [Qg5 (by simp)]; rfl

/-- The error of a rule. -/
def Qkv (x : Qg) (k : Int) (n : Str) : Qc × Bool := match idx x.Kinds k with | none => (Qe7,false) | some q => match field? x k (Qbf q n) with | some g => (g,true) | none => (Qe7,false)
def Qgu (x : Qg) (k : Int) (n : Str) : Bool := !((n == []) || decide (k < 0)) && !(Qkv x k n).2
def Qe2 (x : Qg) (k : Int) (n : Str) : Bool := !((n == []) || decide (k < 0)) && (((Qkv x k n).1.Kind != 2) && ((Qkv x k n).1.Kind != 4))
def QnM (x : Qg) (i : Nat) (r : Qo) : Int :=
 Qa0 [⟨(x.Rules.take i).any fun s => s.Name == r.Name,7⟩,⟨(decide (Qaa x r.Kind < 0) || Qgu x (Qaa x r.Kind) r.A) || Qgu x (Qaa x r.Kind) r.B,12⟩,⟨Qe2 x (Qaa x r.Kind) r.A || Qe2 x (Qaa x r.Kind) r.B,13⟩,⟨r.A == r.B,1⟩]
theorem QoX {β : Type} {x : Qg} {k : Int} {n : Str} {a b : Bool} (hx : Few x) (hk : k < x.Kinds.length) (g : Bool × Bool → β) :
  (if ((n == ([] : Str)) || (decide (k < 0))) = true then some (g (a,b)) else (idx x.Kinds k).bind fun t53 => (Qbo t53 n).bind fun t56 => (Qcn x k t56).bind fun t57 => some (g ((a || (!t57.2)),(b || ((t57.1.Kind != 2) && (t57.1.Kind != 4)))))) = some (g (a || Qgu x k n,b || Qe2 x k n)) := by
 unfold Qgu Qe2
 cases hc : ((n == ([] : Str)) || (decide (k < 0))) with
 | true => rw [if_pos rfl]; simp
 | false =>
  rw [if_neg (by decide)]
  simp only [Bool.or_eq_false_iff,decide_eq_false_iff_not] at hc
  obtain ⟨q,hq,hqm⟩ := Qjy (l := x.Kinds) (i := k) (by omega) hk
  unfold Qkv
  rw [hq]
  simp only [Option.bind_some]
  rw [QeD (by have := hx.2 q hqm; omega)]
  simp only [Option.bind_some]
  rw [Qk0]
  cases field? x k (Qbf q n) <;> simp

end Go.Proofs.YtcdccjagknlmpaaGreatDoor

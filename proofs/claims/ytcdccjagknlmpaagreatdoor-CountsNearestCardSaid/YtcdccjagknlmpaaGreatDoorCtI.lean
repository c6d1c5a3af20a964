/- CountsLimits: the limits of a schema, both ways, and the plain law. No condition. -/
import Derived.Test.YtcdccjagknlmpaaGreatDoorGwB
import Derived.Test.YtcdccjagknlmpaaGreatDoorEvalA
import Derived.Test.YtcdccjagknlmpaaGreatDoorGenAll
import Derived.Test.YtcdccjagknlmpaaGreatDoorOk
namespace Go.Proofs.YtcdccjagknlmpaaGreatDoor
open Go.Sim

/-- A loop that collects twice. -/
theorem QpD {β γ : Type} (n : Nat) (g : Nat → List β) (h : Nat → List γ) (B : Nat) (hB : ∀ k, k < n → (g k).length ≤ B ∧ (h k).length ≤ B) (a0 : List β) (b0 : List γ) {body : Int × List β × List γ → Option ((Int × List β × List γ) ⊕ (List β × List γ))}
  (hs : ∀ k, k < n → ∀ (p : List β) (q : List γ), p.length ≤ a0.length + k * B → q.length ≤ b0.length + k * B → body ((k : Int), p, q) = some (.inl (((k + 1 : Nat) : Int), p ++ g k, q ++ h k))) (he : ∀ p q, body ((n : Int), p, q) = some (.inr (p, q))) :
  QK body ((0 : Int), a0, b0) = some (a0 ++ (List.range n).flatMap g, b0 ++ (List.range n).flatMap h) := by
 have hlen : ∀ m, m ≤ n → ((List.range m).flatMap g).length ≤ m * B ∧ ((List.range m).flatMap h).length ≤ m * B := fun m hm =>
  ⟨Qex m g B fun k hk => (hB k (by omega)).1, Qex m h B fun k hk => (hB k (by omega)).2⟩
 have key := Qig (body := body) n (fun m => ((m : Int), a0 ++ (List.range m).flatMap g, b0 ++ (List.range m).flatMap h)) (a0 ++ (List.range n).flatMap g, b0 ++ (List.range n).flatMap h) (fun k hk => ?_) ?_
 ·simpa using key
 ·have := hlen k (by omega)
  rw [hs k hk _ _ (by rw [List.length_append]; omega) (by rw [List.length_append]; omega), List.range_succ, List.flatMap_append, List.flatMap_append]
  simp
 ·rw [he]

def leastT : Str := [32, 108, 101, 97, 115, 116]
def mostT : Str := [32, 109, 111, 115, 116]
section
variable {τ : Type} (mk : Int → Int → Int → Bool → τ)
def Qii (i j lo hi : Int) : List τ := [mk i j lo true, mk i j hi false]
def fldL (x : Qg) (i : Nat) (q : Qi) (j : Nat) : List τ := match q.Fields[j]? with | some f => if (f.Kind == 1) = true then Qii mk (i : Int) (Qab x f.Of) f.Lo f.Hi else [] | none => []
def kndL (x : Qg) (i : Nat) : List τ := match x.Kinds[i]? with | some q => Qii mk (i : Int) (-1) q.Lo q.Hi ++ (List.range q.Fields.length).flatMap (fldL mk x i q) | none => []
def limL (x : Qg) : List τ := (List.range x.Kinds.length).flatMap (kndL mk x)
end
def QjF (s : Str) : List Str := [s ++ leastT, s ++ mostT]
def fldN (q : Qi) (j : Nat) : List Str := match q.Fields[j]? with | some f => if (f.Kind == 1) = true then QjF ((q.Name ++ [46]) ++ f.Name) else [] | none => []
def kndN (x : Qg) (i : Nat) : List Str := match x.Kinds[i]? with | some q => QjF q.Name ++ (List.range q.Fields.length).flatMap (fldN q) | none => []
def namL (x : Qg) : List Str := (List.range x.Kinds.length).flatMap (kndN x)
theorem Qn4 {τ : Type} (mk : Int → Int → Int → Bool → τ) (x : Qg) (i : Nat) (q : Qi) (j : Nat) : (fldL mk x i q j).length ≤ 2 ∧ (fldN q j).length ≤ 2 := by
 unfold fldL fldN
 cases q.Fields[j]? with
 | none => simp
 | some f => dsimp only; constructor <;> split <;> simp [Qii, QjF]
theorem Ql7 {τ : Type} (mk : Int → Int → Int → Bool → τ) {x : Qg} (hv : Ql1 x) (i : Nat) : (kndL mk x i).length ≤ 22 ∧ (kndN x i).length ≤ 22 := by
 unfold kndL kndN
 cases hq : x.Kinds[i]? with
 | none => simp
 | some q =>
  have hf := (Qkc (hv.kind q (List.mem_of_getElem? hq))).2.1
  have h1 := Qex q.Fields.length (fldL mk x i q) 2 fun j _ => (Qn4 mk x i q j).1
  have h2 := Qex q.Fields.length (fldN q) 2 fun j _ => (Qn4 mk x i q j).2
  simp only [List.length_append, Qii, QjF, List.length_cons, List.length_nil]
  omega

theorem Qth {x : Qg} {p : Qn} (h : p ∈ QcG x) : p.Code ≠ 0 := by
 have hp : ∀ {k j r e : Int}, p ∈ prob k j r e → p.Code ≠ 0 := fun {k j r e} h => by
  unfold prob at h
  split at h
  ·cases h
  ·rw [List.mem_singleton.1 h]; assumption
 unfold QcG at h
 split at h
 ·simp only [List.mem_append] at h
  rcases h with (h | h) | h
  ·obtain ⟨i, _, h⟩ := List.mem_flatMap.1 h
   unfold QiT at h
   split at h
   ·exact hp h
   ·cases h
  ·obtain ⟨i, _, h⟩ := List.mem_flatMap.1 h
   unfold QiU at h
   split at h
   ·rcases List.mem_append.1 h with h | h
    ·exact hp h
    ·obtain ⟨j, _, h⟩ := List.mem_flatMap.1 h
     unfold Qhv at h
     split at h
     ·exact hp h
     ·cases h
   ·cases h
  ·obtain ⟨i, _, h⟩ := List.mem_flatMap.1 h
   unfold QkN at h
   split at h
   ·exact hp h
   ·cases h
 ·rw [List.mem_singleton.1 h]; assumption
theorem QgE {x : Qg} (h : QcG x = []) : Ql1 x := by
 unfold QcG at h
 by_cases hv : QgA x = 0
 ·unfold QgA at hv
  by_cases hs : QfX x = true
  ·exact QlD hs
  ·rw [if_neg hs] at hv; cases hv
 ·rw [if_neg hv] at h; cases h
theorem Qsf {q : Qi} (h : Qec q = true) : q.Name.length ≤ 12 := by
 simp only [Qec, Bool.and_eq_true] at h
 exact QfV h.1.1.1
theorem QqZ {f : Qb} (h : Qbz f = true) : f.Name.length ≤ 12 := by
 simp only [Qbz, Bool.and_eq_true] at h
 exact QfV h.1.1
theorem Qny {n : Nat} (h : n ≤ 1000000) : cat n = some () := by unfold cat; rw [if_pos (by omega)]
theorem add13 {s : Str} {a b lo hi : Int} {c0 : List Qd} {c1 : List Str} (hs : s.length ≤ 1000) (h0 : c0.length ≤ 1000000) (h1 : c1.length ≤ 1000000) :
  QbP s a b lo hi c0 c1 = some (c0 ++ Qii Qd.mk a b lo hi, c1 ++ QjF s) := by
 unfold QbP
 rw [QjC (by simp; omega), Qny (by simp; omega), Qny (by simp; omega), QjC (by simp; omega)]
 rfl
theorem Qti {x : Qg} (h : Ql6 x) : Qdr x = some (match QcG x with | [] => 0 | p :: _ => p.Code) := by
 unfold Qdr
 rw [QpC h]
 simp only [Option.bind_some]
 cases QcG x with
 | nil => rfl
 | cons p l =>
  rw [if_pos (by simp)]
  rfl
noncomputable def limR {τ : Type} (mk : Int → Int → Int → Bool → τ) (x : Qg) : List τ × List Str × Int := match QcG x with | [] => (limL mk x, namL x, 0) | p :: _ => ([], [], p.Code)
theorem Qos {x : Qg} (h : Ql6 x) : QaU x = some (limR Qd.mk x) := by
 unfold QaU limR
 rw [Qti h]
 simp only [Option.bind_some]
 cases hc : QcG x with
 | cons p l =>
  have := Qth (x := x) (p := p) (by rw [hc]; exact List.mem_cons_self ..)
  dsimp only
  rw [if_pos (by simpa using this)]
 | nil =>
  have hv := QgE hc
  have hk := hv.kinds
  dsimp only
  rw [if_neg (by simp)]
  refine (congrArg (Option.bind · _) (QpD x.Kinds.length (kndN x) (kndL Qd.mk x) 22 (fun i _ => ⟨(Ql7 Qd.mk hv i).2, (Ql7 Qd.mk hv i).1⟩) [] [] (fun i hi p q hp hq => ?_) (fun p q => by rw [if_neg (by simp)]))).trans ?_
  ·simp only [List.length_nil, Nat.zero_add] at hp hq
   have hib : i * 22 ≤ 132 := by omega
   rw [if_pos (by simpa using hi), Qak hi]
   have hK := hv.kind _ (List.getElem_mem hi)
   have hf10 := (Qkc hK).2.1
   have hnm := Qsf hK
   simp only [Option.bind_some]
   rw [add13 (by omega) (by omega) (by omega)]
   simp only [Option.bind_some]
   rw [QpD x.Kinds[i].Fields.length (fldL Qd.mk x i x.Kinds[i]) (fldN x.Kinds[i]) 2 (fun j _ => Qn4 _ _ _ _ _) _ _ (fun j hj p' q' hp' hq' => ?_) (fun p' q' => by rw [if_neg (by simp)])]
   ·simp only [Option.bind_some]
    have e1 : kndL Qd.mk x i = Qii Qd.mk (i : Int) (-1) x.Kinds[i].Lo x.Kinds[i].Hi ++ (List.range x.Kinds[i].Fields.length).flatMap (fldL Qd.mk x i x.Kinds[i]) := by unfold kndL; rw [List.getElem?_eq_getElem hi]
    have e2 : kndN x i = QjF x.Kinds[i].Name ++ (List.range x.Kinds[i].Fields.length).flatMap (fldN x.Kinds[i]) := by unfold kndN; rw [List.getElem?_eq_getElem hi]
    rw [e1, e2, Qad hi (by omega), List.append_assoc, List.append_assoc]
   ·simp only [List.length_append, Qii, QjF, List.length_cons, List.length_nil] at hp' hq'
    have hfn := QqZ ((Qkc hK).2.2 _ (List.getElem_mem hj))
    rw [if_pos (by simpa using hj), Qak hj]
    simp only [Option.bind_some]
    have e1 : fldL Qd.mk x i x.Kinds[i] j = if (x.Kinds[i].Fields[j].Kind == 1) = true then Qii Qd.mk (i : Int) (Qab x x.Kinds[i].Fields[j].Of) x.Kinds[i].Fields[j].Lo x.Kinds[i].Fields[j].Hi else [] := by unfold fldL; rw [List.getElem?_eq_getElem hj]
    have e2 : fldN x.Kinds[i] j = if (x.Kinds[i].Fields[j].Kind == 1) = true then QjF ((x.Kinds[i].Name ++ [46]) ++ x.Kinds[i].Fields[j].Name) else [] := by unfold fldN; rw [List.getElem?_eq_getElem hj]
    rw [e1, e2, Qad hj (by omega)]
    cases (x.Kinds[i].Fields[j].Kind == 1) with
    | false => simp
    | true =>
     rw [if_pos rfl, if_pos rfl, if_pos rfl, Qny (by simp; omega), Qny (by simp; omega), QdS (by omega)]
     simp only [Option.bind_some]
     rw [add13 (by simp; omega) (by omega) (by omega)]
     rfl
  ·rfl
theorem QpE {τ : Type} (mk : Int → Int → Int → Bool → τ) (x : Qg) : (limR mk x).1.length ≤ 1000 ∧ (limR mk x).2.1.length ≤ 1000 := by
 unfold limR
 cases hc : QcG x with
 | cons p l => simp
 | nil =>
  have hv := QgE hc
  have hk := hv.kinds
  have h1 := Qex x.Kinds.length (kndL mk x) 22 fun i _ => (Ql7 mk hv i).1
  have h2 := Qex x.Kinds.length (kndN x) 22 fun i _ => (Ql7 mk hv i).2
  refine ⟨?_, ?_⟩
  ·show (limL mk x).length ≤ _; unfold limL; omega
  ·show (namL x).length ≤ _; unfold namL; omega
end Go.Proofs.YtcdccjagknlmpaaGreatDoor

namespace Go.Proofs.YtcdccjagknlmpaaGreatDoor
open Go.Sim

theorem QuW {p n : Int} (hp : I64 p) : Ok (Qcg p n) (fun r => 0 ≤ r ∧ (1 ≤ n → r < n)) := by
 have hp' := hp
 unfold I64 at hp'
 have key : ∀ q : Int, 0 ≤ q → Ok (if decide (n < 1) = true then some 0 else (nz n).bind fun _ => some (Int.tmod q n)) (fun r => 0 ≤ r ∧ (1 ≤ n → r < n)) := fun q hq => by
  refine Ok.ite (fun h => ?_) (fun h => ?_)
  ·have : n < 1 := of_decide_eq_true h
   exact Ok.mk ⟨Int.le_refl _, fun h => by omega⟩
  ·have : ¬ n < 1 := of_decide_eq_false h
   rw [nz_of (by omega)]
   exact Ok.mk ⟨Int.tmod_nonneg _ hq, fun _ => Int.tmod_lt_of_pos _ (by omega)⟩
 unfold Qcg
 refine Ok.bind (P := fun q => 0 ≤ q) (Ok.ite (fun h => ?_) (fun h => ?_)) (fun q hq => key q hq)
 ·have : p < 0 := of_decide_eq_true h
  refine Ok.mk ?_
  have e1 : IntKind.i64.wrap (p + 1) = p + 1 := w64 (by omega) (by omega)
  rw [e1, w64 (by omega) (by omega)]; omega
 ·have : ¬ p < 0 := of_decide_eq_false h
  exact Ok.mk (by omega)
section
variable {β : Type} {Q : β → Prop}
theorem Ok.arnd {p n : Int} {f : Int → Option β} (hp : I64 p) (hn : 1 ≤ n) (k : ∀ r, 0 ≤ r → r < n → Ok (f r) Q) : Ok ((Qcg p n).bind f) Q :=
 (QuW hp).bind fun r h => k r h.1 (h.2 hn)
theorem at_ok {l : List Int} {i n : Int} (hl : ∀ x ∈ l, I64 x) (hn : 1 ≤ n) : Ok (Qe2 l i n) (fun r => 0 ≤ r ∧ r < n) := by
 unfold Qe2
 refine Ok.ite (fun h => Ok.mk ⟨Int.le_refl _, by omega⟩) (fun h => ?_)
 simp only [Bool.or_eq_false_iff, decide_eq_false_iff_not] at h
 refine Ok.idx (by omega) (by omega) fun v hv _ => ?_
 exact Ok.arnd (hl v hv) hn fun r h0 h1 => Ok.mk ⟨h0, h1⟩
theorem Ok.at1 {l : List Int} {i n : Int} {f : Int → Option β} (hl : ∀ x ∈ l, I64 x) (hn : 1 ≤ n) (k : ∀ r, 0 ≤ r → r < n → Ok (f r) Q) : Ok ((Qe2 l i n).bind f) Q :=
 (at_ok hl hn).bind fun r h => k r h.1 h.2
end
theorem Qot {l : List Int} {n : Int} (hl : ∀ x ∈ l, I64 x) (h0 : 0 ≤ n) (hn : n ≤ 1000) : Ok (QdJ l n) (fun r => (r.length : Int) = n ∧ ∀ x ∈ r, 0 ≤ x ∧ x < 12) := by
 unfold QdJ
 refine Ok.bind (P := fun r : List Int => (r.length : Int) = n ∧ ∀ x ∈ r, 0 ≤ x ∧ x < 12) (Ok.loop (fun m s => s.1 = s.2.length ∧ s.1 + m = n ∧ ∀ x ∈ s.2, 0 ≤ x ∧ x < 12) n.toNat ⟨rfl, by simp; omega, fun x hx => by cases hx⟩ fun m s hs => ?_) (fun r hr => Ok.mk hr)
 obtain ⟨h1, h2, h3⟩ := hs
 refine Ok.ite (fun h => ?_) (fun h => ?_)
 ·have h : s.1 < n := of_decide_eq_true h
  refine Ok.at1 hl (by decide) fun r r0 r1 => ?_
  refine Ok.rm (by simp; omega) (Ok.mk ⟨m - 1, by omega, ?_, ?_, ?_⟩)
  ·rw [w64 (by omega) (by omega)]; simp; omega
  ·rw [w64 (by omega) (by omega)]; omega
  ·intro x hx
   rcases List.mem_append.1 hx with hx | hx
   ·exact h3 x hx
   ·rw [List.mem_singleton.1 hx]; exact ⟨r0, r1⟩
 ·have h : ¬ s.1 < n := of_decide_eq_false h
  exact Ok.mk ⟨by omega, h3⟩

/-! Holds -/

def QlH (l : Qd) (n : Int) : Bool := (((((decide (l.A ≥ 0)) && (decide (l.A < n))) && (decide (l.B ≥ -1))) && (decide (l.B < n))) && (decide (l.Mul ≥ 0))) && (decide (l.Mul ≤ 65536))
def isN (x : Int) : Bool := decide (0 ≤ x) && decide (x ≤ 65536)
def numL (c : List Int) : Bool := c.all isN
def nth (c : List Int) (i : Int) : Int := c.getD i.toNat 0
def bndS (l : Qd) (c : List Int) : Int := if l.B < 0 then l.Mul else l.Mul * nth c l.B
def QeO (l : Qd) (c : List Int) : Bool := if l.Least = true then decide (nth c l.A ≥ bndS l c) else decide (nth c l.A ≤ bndS l c)
def QbU (l : Qd) (c : List Int) : Bool := (QlH l c.length && numL c) && QeO l c

structure VL (l : Qd) (n : Int) : Prop where
 a0 : 0 ≤ l.A
 a1 : l.A < n
 b0 : -1 ≤ l.B
 b1 : l.B < n
 m0 : 0 ≤ l.Mul
 m1 : l.Mul ≤ 65536
theorem Qnz {l : Qd} {n : Int} : QlH l n = true ↔ VL l n := by
 simp only [QlH, Bool.and_eq_true, decide_eq_true_eq]
 exact ⟨fun ⟨⟨⟨⟨⟨h1, h2⟩, h3⟩, h4⟩, h5⟩, h6⟩ => ⟨h1, h2, h3, h4, h5, h6⟩, fun h => ⟨⟨⟨⟨⟨h.a0, h.a1⟩, h.b0⟩, h.b1⟩, h.m0⟩, h.m1⟩⟩
theorem Qqt {x : Int} : isN x = true ↔ 0 ≤ x ∧ x ≤ 65536 := by simp [isN]
theorem Qtj {c : List Int} : numL c = true ↔ ∀ x ∈ c, 0 ≤ x ∧ x ≤ 65536 := by
 unfold numL
 rw [List.all_eq_true]
 exact ⟨fun h x hx => Qqt.1 (h x hx), fun h x hx => Qqt.2 (h x hx)⟩
theorem Qg7 {c : List Int} {i : Int} (h0 : 0 ≤ i) (h1 : i < c.length) : idx c i = some (nth c i) := by
 have hlt : i.toNat < c.length := by omega
 rw [QhV c h0, List.getElem?_eq_getElem hlt]
 unfold nth
 rw [List.getD_eq_getElem?_getD, List.getElem?_eq_getElem hlt]
 rfl
theorem QuX {c : List Int} {i : Int} (h0 : 0 ≤ i) (h1 : i < c.length) : nth c i ∈ c := by
 have hlt : i.toNat < c.length := by omega
 unfold nth
 rw [List.getD_eq_getElem?_getD, List.getElem?_eq_getElem hlt]
 exact List.getElem_mem hlt
theorem Qqu {c : List Int} {i : Int} (hc : ∀ x ∈ c, 0 ≤ x ∧ x ≤ 65536) (h0 : 0 ≤ i) (h1 : i < c.length) : 0 ≤ nth c i ∧ nth c i ≤ 65536 := hc _ (QuX h0 h1)
theorem QuY {a b : Int} (a0 : 0 ≤ a) (a1 : a ≤ 65536) (b0 : 0 ≤ b) (b1 : b ≤ 65536) : 0 ≤ a * b ∧ a * b ≤ 4294967296 :=
 ⟨Int.mul_nonneg a0 b0, Int.le_trans (Int.mul_le_mul a1 b1 b0 (by decide)) (by decide)⟩
theorem QpF {l : Qd} {c : List Int} (hv : VL l c.length) (hc : ∀ x ∈ c, 0 ≤ x ∧ x ≤ 65536) : QaC l c = some (bndS l c) := by
 unfold QaC bndS
 by_cases hb : l.B < 0
 ·rw [if_pos (by simpa using hb), if_pos hb]
 ·have hb0 : 0 ≤ l.B := by omega
  rw [if_neg (by simpa using hb), if_neg hb, Qg7 hb0 hv.b1]
  have hm := QuY hv.m0 hv.m1 (Qqu hc hb0 hv.b1).1 (Qqu hc hb0 hv.b1).2
  show some (IntKind.i64.wrap (l.Mul * nth c l.B)) = _
  rw [w64 (by omega) (by omega)]
theorem Qtk {l : Qd} {c : List Int} (hv : VL l c.length) (hc : ∀ x ∈ c, 0 ≤ x ∧ x ≤ 65536) : Qbe l c = some (QeO l c) := by
 unfold Qbe QeO
 rw [Qg7 hv.a0 hv.a1, QpF hv hc]
 cases l.Least <;> rfl

/-- The index of the first element that is so; -1: none is. -/
def fIx {α : Type} (s : List α) (p : α → Bool) : Int := match s.findIdx? p with | some k => (k : Int) | none => -1
theorem QuZ {α : Type} (s : List α) (p : α → Bool) : decide (fIx s p ≥ 0) = s.any p := by
 unfold fIx
 cases h : s.findIdx? p with
 | none =>
  rw [List.findIdx?_eq_none_iff] at h
  have : s.any p = false := by rw [List.any_eq_false]; intro x hx; simpa using h x hx
  rw [this]; rfl
 | some k =>
  obtain ⟨hk, hp, _⟩ := List.findIdx?_eq_some_iff_getElem.1 h
  have : s.any p = true := List.any_eq_true.2 ⟨_, List.getElem_mem hk, hp⟩
  rw [this]
  exact decide_eq_true (Int.natCast_nonneg k)
theorem Qq0 {α : Type} (s : List α) (p : α → Bool) {body : Int → Option (Int ⊕ (Unit ⊕ Int))}
  (hb : ∀ k (h : k < s.length), body (k : Int) = if p s[k] = true then some (.inr (.inr (k : Int))) else some (.inl ((k + 1 : Nat) : Int))) (he : body (s.length : Int) = some (.inr (.inl ()))) :
  QK body (0 : Int) = some (match s.findIdx? p with | some k => .inr (k : Int) | none => .inl ()) := by
 obtain ⟨q, hq⟩ : ∃ q : Nat → Bool, ∀ k (h : k < s.length), q k = p s[k] := ⟨fun k => if h : k < s.length then p s[k] else false, fun k h => dif_pos h⟩
 rcases Qly (ρ := Unit ⊕ Int) s.length q (.inl ()) (fun k => .inr (k : Int))
  (fun k hk hp => by rw [hb k hk, if_neg (by rw [← hq k hk, hp]; decide)]) (fun k hk hp => by rw [hb k hk, if_pos (by rw [← hq k hk, hp])]) he with ⟨k, hk, hp, hj, e⟩ | ⟨hp, e⟩
 ·have : s.findIdx? p = some k := by
   rw [List.findIdx?_eq_some_iff_getElem]
   refine ⟨hk, by rw [← hq k hk, hp], fun j hj' => ?_⟩
   have := hj j hj'
   rw [hq j (by omega)] at this
   simp [this]
  rw [e, this]
 ·have : s.findIdx? p = none := by
   rw [List.findIdx?_eq_none_iff]
   intro x hx
   obtain ⟨k, hk, rfl⟩ := List.getElem_of_mem hx
   have := hp k hk
   rwa [hq k hk] at this
  rw [e, this]
theorem Qsg {s : List Int} {f : Int → Option Bool} {p : Int → Bool} (hs : s.length ≤ 1000000) (hf : ∀ x ∈ s, f x = some (p x)) : QaB s f = some (s.any p) := by
 unfold QaB QbC
 rw [Qq0 s p (fun k hk => ?_) ?_]
 ·rw [← QuZ]; unfold fIx; cases s.findIdx? p <;> rfl
 ·rw [if_neg (by simp)]
 ·rw [if_pos (by simpa using hk), Qak hk]
  show (f s[k]).bind _ = _
  rw [hf _ (List.getElem_mem hk), Qad hk (by omega)]; rfl
theorem Qu0 (c : List Int) : (c.any fun x => !isN x) = !numL c := by
 unfold numL
 rw [List.all_eq_not_any_not]
 simp
theorem Qtl {l : Qd} {c : List Int} (hc : c.length ≤ 1000000) : QaV l c = some (QbU l c) := by
 unfold QaV
 have h1 : Qbx l (c.length : Int) = some (QlH l c.length) := rfl
 rw [h1]
 simp only [Option.bind_some]
 unfold QbU
 cases hv : QlH l c.length with
 | false => rfl
 | true =>
  rw [show (true == true) = true from rfl, Qff, Qsg (f := fun x0 => Qdl x0) (p := fun x => !isN x) hc (fun x _ => rfl)]
  simp only [Option.bind_some, Qu0, Bool.not_not, Bool.true_and]
  cases hn : numL c with
  | false => rfl
  | true =>
   rw [show (true == true) = true from rfl, Qff, Qtk (Qnz.1 hv) (Qtj.1 hn)]
   rfl
end Go.Proofs.YtcdccjagknlmpaaGreatDoor

namespace Go.Proofs.YtcdccjagknlmpaaGreatDoor
open Go.Sim

def padV (p : List Int) : Qm := ⟨nth p 0, nth p 1, nth p 2, nth p 3, nth p 4, nth p 5⟩
theorem Qn5 {p : List Int} {v : Int} {j : Int} (h0 : 0 ≤ j) : nth (p ++ [v]) j = if j = (p.length : Int) then v else nth p j := by
 obtain ⟨k, rfl⟩ := Int.eq_ofNat_of_zero_le h0
 unfold nth
 simp only [Int.toNat_natCast, List.getD_eq_getElem?_getD]
 by_cases h : k < p.length
 ·rw [List.getElem?_append_left h, if_neg (by omega)]
 ·by_cases h2 : k = p.length
  ·subst h2; rw [if_pos rfl]; simp
  ·rw [if_neg (by omega), List.getElem?_eq_none (by simp; omega), List.getElem?_eq_none (by omega)]
theorem Qu1 {p : List Int} {j : Int} (h : (p.length : Int) ≤ j) : nth p j = 0 := by
 unfold nth
 rw [List.getD_eq_getElem?_getD, List.getElem?_eq_none (by omega)]; rfl
theorem Qqv {p : List Int} {i : Int} (h0 : 0 ≤ i) (h1 : i < 6) : nth (padV p).L i = nth p i := by
 obtain ⟨k, rfl⟩ := Int.eq_ofNat_of_zero_le h0
 match k, (show k < 6 by omega) with
 | 0, _ => rfl
 | 1, _ => rfl
 | 2, _ => rfl
 | 3, _ => rfl
 | 4, _ => rfl
 | 5, _ => rfl
theorem Qkm {p : List Int} {v : Int} (h : p.length < 6) : (padV p).setI (p.length : Int) v = padV (p ++ [v]) := by
 have e : ∀ j : Nat, nth (p ++ [v]) (j : Int) = if j = p.length then v else nth p (j : Int) := fun j => by
  rw [Qn5 (Int.natCast_nonneg j)]
  by_cases hj : j = p.length
  ·rw [if_pos hj, if_pos (by omega)]
  ·rw [if_neg hj, if_neg (by omega)]
 have e0 := e 0; have e1 := e 1; have e2 := e 2; have e3 := e 3; have e4 := e 4; have e5 := e 5
 unfold padV Qm.setI
 match hk : p.length, h with
 | 0, _ => rw [hk] at e0 e1 e2 e3 e4 e5; simp at e0 e1 e2 e3 e4 e5; simp [e0, e1, e2, e3, e4, e5]
 | 1, _ => rw [hk] at e0 e1 e2 e3 e4 e5; simp at e0 e1 e2 e3 e4 e5; simp [e0, e1, e2, e3, e4, e5]
 | 2, _ => rw [hk] at e0 e1 e2 e3 e4 e5; simp at e0 e1 e2 e3 e4 e5; simp [e0, e1, e2, e3, e4, e5]
 | 3, _ => rw [hk] at e0 e1 e2 e3 e4 e5; simp at e0 e1 e2 e3 e4 e5; simp [e0, e1, e2, e3, e4, e5]
 | 4, _ => rw [hk] at e0 e1 e2 e3 e4 e5; simp at e0 e1 e2 e3 e4 e5; simp [e0, e1, e2, e3, e4, e5]
 | 5, _ => rw [hk] at e0 e1 e2 e3 e4 e5; simp at e0 e1 e2 e3 e4 e5; simp [e0, e1, e2, e3, e4, e5]
theorem QmH (p : List Int) : padV (p ++ [0]) = padV p := by
 have e : ∀ j : Int, 0 ≤ j → nth (p ++ [0]) j = nth p j := fun j hj => by
  rw [Qn5 hj]
  split
  ·rename_i hh; rw [hh, Qu1 (Int.le_refl _)]
  ·rfl
 unfold padV
 rw [e 0 (by decide), e 1 (by decide), e 2 (by decide), e 3 (by decide), e 4 (by decide), e 5 (by decide)]
theorem Qtm {p : List Int} {v : Int} (h : p.length < 6) : (padV (p ++ [v])).setI (p.length : Int) 0 = padV p := by
 have h0 := QmH p
 rw [← h0, ← Qkm h, ← Qkm h]
 unfold Qm.setI
 match p.length, h with
 | 0, _ => rfl
 | 1, _ => rfl
 | 2, _ => rfl
 | 3, _ => rfl
 | 4, _ => rfl
 | 5, _ => rfl

/-- The least and the greatest number of the next kind. -/
def Qas (L : List Qd) (p : List Int) : Int × Int :=
 L.foldl (fun r l => if (l.A != (p.length : Int) || decide (l.B ≥ (p.length : Int))) = true then r else if l.Least = true then (imax r.1 (bndS l p), r.2) else (r.1, imin r.2 (bndS l p))) (0, 65536)
def farS (a b : Int) : Int := imax (a - b) (b - a)
/-- The distance of some first numbers. -/
def dst (W p : List Int) : Int := (List.zipWith farS p W).sum
def seqI (lo hi : Int) : List Int := (List.range (hi - lo + 1).toNat).map fun i : Nat => lo + (i : Int)
/-- All numbers that are tried, behind some first ones. -/
def Qax (L : List Qd) (W : List Int) (D : List Bool) : Nat → List Int → List (List Int)
 | 0, p => [p]
 | m + 1, p => if (Qas L p).2 < (Qas L p).1 then [] else if D.getD p.length false = true then (seqI (Qas L p).1 (Qas L p).2).flatMap fun v => Qax L W D m (p ++ [v]) else Qax L W D m (p ++ [imin (imax (nth W (p.length : Int)) (Qas L p).1) (Qas L p).2])
def cmpL : List Int → List Int → Int
 | x :: a, y :: b => if x < y then -1 else if y < x then 1 else cmpL a b
 | _, _ => 0
theorem Qsh (x y : Int) (a b : List Int) : cmpL (x :: a) (y :: b) = if x < y then -1 else if y < x then 1 else cmpL a b := by rw [cmpL]
/-- The better one. -/
def upd (W : List Int) (b : Qm × Int) (x : List Int) : Qm × Int :=
 if b.2 < 0 ∨ dst W x < b.2 ∨ (dst W x = b.2 ∧ cmpL (padV x).L b.1.L < 0) then (padV x, dst W x) else b

theorem far_is (a b : Int) (ha : 0 ≤ a ∧ a ≤ 65536) (hb : 0 ≤ b ∧ b ≤ 65536) : QcA a b = some (farS a b) := by
 unfold QcA farS
 rw [w64 (by omega) (by omega), w64 (by omega) (by omega)]
theorem Qkn (a b : Int) : 0 ≤ farS a b := by unfold farS imax; split <;> omega
theorem Qn6 {a b : Int} (ha : 0 ≤ a ∧ a ≤ 65536) (hb : 0 ≤ b ∧ b ≤ 65536) : farS a b ≤ 65536 := by unfold farS imax; split <;> omega
theorem Qia : ∀ (W p : List Int) (v : Int), p.length < W.length → dst W (p ++ [v]) = dst W p + farS v (nth W (p.length : Int))
 | [], p, v, h => by simp at h
 | w :: W, [], v, _ => by simp [dst, nth]
 | w :: W, x :: p, v, h => by
  have ih := Qia W p v (by simpa using h)
  unfold dst at *
  simp only [List.cons_append, List.zipWith_cons_cons, List.sum_cons, ih]
  have : nth (w :: W) ((x :: p).length : Int) = nth W (p.length : Int) := by simp [nth]
  rw [this]; omega
theorem Qjt (W p : List Int) : 0 ≤ dst W p := by
 unfold dst
 have : ∀ (p W : List Int), 0 ≤ (List.zipWith farS p W).sum := by
  intro p
  induction p with
  | nil => intro W; simp
  | cons x p ih =>
   intro W
   cases W with
   | nil => simp
   | cons w W => simp only [List.zipWith_cons_cons, List.sum_cons]; have := ih W; have := Qkn x w; omega
 exact this p W
theorem Qsi {W p : List Int} (hp : ∀ z ∈ p, 0 ≤ z ∧ z ≤ 65536) (hW : ∀ z ∈ W, 0 ≤ z ∧ z ≤ 65536) : dst W p ≤ p.length * 65536 := by
 unfold dst
 induction p generalizing W with
 | nil => simp
 | cons x p ih =>
  cases W with
  | nil => simp; omega
  | cons w W =>
   have h1 := ih (fun z hz => hp z (List.mem_cons_of_mem _ hz)) (fun z hz => hW z (List.mem_cons_of_mem _ hz))
   have h2 := Qn6 (hp x (List.mem_cons_self ..)) (hW w (List.mem_cons_self ..))
   simp only [List.zipWith_cons_cons, List.sum_cons, List.length_cons]
   omega
/-- What lies behind some first numbers is not nearer. -/
theorem QnA {L : List Qd} {W : List Int} {D : List Bool} : ∀ (m : Nat) (p : List Int), p.length + m = W.length → ∀ x ∈ Qax L W D m p, dst W p ≤ dst W x
 | 0, p, _, x, hx => by rw [List.mem_singleton.1 hx]; exact Int.le_refl _
 | m + 1, p, h, x, hx => by
  have step : ∀ v, x ∈ Qax L W D m (p ++ [v]) → dst W p ≤ dst W x := fun v hv => by
   have h1 := QnA m (p ++ [v]) (by simp; omega) x hv
   rw [Qia W p v (by omega)] at h1
   have := Qkn v (nth W (p.length : Int))
   omega
  unfold Qax at hx
  split at hx
  ·cases hx
  ·split at hx
   ·obtain ⟨v, _, hv⟩ := List.mem_flatMap.1 hx
    exact step v hv
   ·exact step _ hx
theorem Qu2 {W : List Int} {b : Qm × Int} {l : List (List Int)} (hb : 0 ≤ b.2) (h : ∀ x ∈ l, b.2 < dst W x) : l.foldl (upd W) b = b := by
 induction l with
 | nil => rfl
 | cons x l ih =>
  have hx := h x (List.mem_cons_self ..)
  have e : upd W b x = b := by unfold upd; rw [if_neg]; rintro (h | h | ⟨h, _⟩) <;> omega
  rw [List.foldl_cons, e]
  exact ih fun y hy => h y (List.mem_cons_of_mem _ hy)

theorem Qq1 : ∀ (a b : List Int), a.length = b.length → a.length ≤ 1000000 → Qbc a b = some (cmpL a b) := by
 intro a b hl hn
 have key : Ok (Qbc a b) (fun r => r = cmpL a b) := by
  unfold Qbc
  refine Ok.bind (P := fun e : Unit ⊕ Int => (match e with | .inl _ => (0:Int) | .inr r => r) = cmpL a b) (Ok.loop (fun m s => 0 ≤ s ∧ s + m = a.length ∧ cmpL (a.drop s.toNat) (b.drop s.toNat) = cmpL a b) a.length ⟨Int.le_refl _, by omega, by simp⟩ fun m s hs => ?_) (fun e he => ?_)
  ·obtain ⟨h1, h2, h3⟩ := hs
   obtain ⟨k, rfl⟩ := Int.eq_ofNat_of_zero_le h1
   rw [Int.toNat_natCast] at h3
   refine Ok.ite (fun hc => ?_) (fun hc => ?_)
   ·have hk : k < a.length := by simpa using hc
    have hk2 : k < b.length := by omega
    rw [Qak hk]
    simp only [Option.bind_some]
    rw [if_neg (by simp; omega), Qak hk2]
    rw [List.drop_eq_getElem_cons hk, List.drop_eq_getElem_cons hk2] at h3
    simp only [Option.bind_some]
    unfold Qc0 QcZ
    simp only [Option.bind_some, bne_self_eq_false]
    rw [Qsh] at h3
    by_cases e1 : a[k] < b[k]
    ·rw [if_pos e1] at h3
     simp only [Bool.false_eq_true, if_false, e1, decide_true, if_true, Option.bind_some]
     exact Ok.mk h3
    ·rw [if_neg e1] at h3
     by_cases e2 : b[k] < a[k]
     ·rw [if_pos e2] at h3
      simp only [Bool.false_eq_true, if_false, e1, decide_false, gt_iff_lt, e2, decide_true, if_true, Option.bind_some]
      exact Ok.mk h3
     ·rw [if_neg e2] at h3
      simp only [Bool.false_eq_true, if_false, e1, decide_false, gt_iff_lt, e2, Option.bind_some, bne_self_eq_false]
      rw [Qad hk (by omega)]
      exact Ok.mk ⟨m - 1, by omega, by omega, by omega, by rw [Int.toNat_natCast]; exact h3⟩
   ·have hk : ¬ k < a.length := by simpa using hc
    rw [List.drop_eq_nil_of_le (by omega), List.drop_eq_nil_of_le (by omega)] at h3
    exact Ok.mk h3
  ·cases e with
   | inl u =>
    show Ok (if _ then _ else _) _
    rw [if_neg (by simp; omega)]
    exact Ok.mk he
   | inr r => exact Ok.mk he
 obtain ⟨r, hr, rfl⟩ := key
 exact hr

end Go.Proofs.YtcdccjagknlmpaaGreatDoor

namespace Go.Proofs.YtcdccjagknlmpaaGreatDoor
open Go.Sim

/-- What is known of a search: the limits are valid, the wanted numbers are numbers. -/
structure SrOk (L : List Qd) (W : List Int) (D : List Bool) : Prop where
 few : L.length ≤ 1000000
 lim : ∀ y ∈ L, VL y 6
 want : ∀ z ∈ W, 0 ≤ z ∧ z ≤ 65536
 six : W.length ≤ 6
 leads : D.length = W.length
def NumP (p : List Int) : Prop := ∀ z ∈ p, 0 ≤ z ∧ z ≤ 65536
theorem QmI {p : List Int} (h : NumP p) (j : Int) : 0 ≤ nth p j ∧ nth p j ≤ 65536 := by
 unfold nth
 rw [List.getD_eq_getElem?_getD]
 cases hj : p[j.toNat]? with
 | none => simp
 | some x => exact h x (List.mem_of_getElem? hj)
theorem Qu3 {y : Qd} {p : List Int} (hy : VL y 6) : bndS y (padV p).L = bndS y p := by
 unfold bndS
 by_cases hb : y.B < 0
 ·rw [if_pos hb, if_pos hb]
 ·rw [if_neg hb, if_neg hb, Qqv (by omega) hy.b1]
theorem Qu4 {p : List Int} (h : NumP p) : ∀ z ∈ (padV p).L, 0 ≤ z ∧ z ≤ 65536 := by
 intro z hz
 simp only [padV, Qm.L, List.mem_cons, List.not_mem_nil, or_false] at hz
 rcases hz with rfl | rfl | rfl | rfl | rfl | rfl <;> exact QmI h _
theorem Qu5 {L : List Qd} {W : List Int} {D : List Bool} (h : SrOk L W D) {p : List Int} (hp : NumP p) (hl : p.length ≤ 6) (best : Qm) (cost : Int) :
  Qbd ⟨L, W, D, padV p, best, cost⟩ (p.length : Int) = some (Qas L p) := by
 let st : Nat → Int × Int := fun k => (L.take k).foldl (fun r l => if (l.A != (p.length : Int) || decide (l.B ≥ (p.length : Int))) = true then r else if l.Least = true then (imax r.1 (bndS l p), r.2) else (r.1, imin r.2 (bndS l p))) (0, 65536)
 unfold Qbd
 refine Qfe L.length (fun k => ((k : Int), (st k).1, (st k).2)) ((st L.length).1, (st L.length).2) rfl (fun k hk => ?_) ?_ ?_
 ·dsimp only
  have hy := h.lim _ (List.getElem_mem hk)
  have es : st (k + 1) = if (L[k].A != (p.length : Int) || decide (L[k].B ≥ (p.length : Int))) = true then st k else if L[k].Least = true then (imax (st k).1 (bndS L[k] p), (st k).2) else ((st k).1, imin (st k).2 (bndS L[k] p)) := by
   show (L.take (k + 1)).foldl _ _ = _
   rw [List.take_succ_eq_append_getElem hk, List.foldl_append]
   rfl
  rw [if_pos (by simpa using hk), Qak hk]
  have hb : QaC L[k] (padV p).L = some (bndS L[k] p) := by
   rw [QpF (hy) (Qu4 hp), Qu3 hy]
  simp only [Option.bind_some, hb, es, Qad hk (show L.length ≤ 9223372036854775807 by have := h.few; omega)]
  cases (L[k].A != (p.length : Int) || decide (L[k].B ≥ (p.length : Int))) with
  | true => rfl
  | false =>
   simp only [Bool.false_eq_true, if_false]
   cases L[k].Least <;> rfl
 ·dsimp only
  rw [if_neg (by simp)]
 ·show some ((st L.length).1, (st L.length).2) = _
  have : st L.length = Qas L p := by show (L.take L.length).foldl _ _ = _; rw [List.take_length]; rfl
  rw [this]
/-- The numbers that are tried are numbers. -/
theorem Qtn {L : List Qd} {W : List Int} {D : List Bool} (h : SrOk L W D) {p : List Int} (hp : NumP p) : 0 ≤ (Qas L p).1 ∧ (Qas L p).2 ≤ 65536 := by
 unfold Qas
 have key : ∀ (L' : List Qd) (r : Int × Int), (∀ y ∈ L', VL y 6) → 0 ≤ r.1 ∧ r.2 ≤ 65536 →
   0 ≤ (L'.foldl (fun r l => if (l.A != (p.length : Int) || decide (l.B ≥ (p.length : Int))) = true then r else if l.Least = true then (imax r.1 (bndS l p), r.2) else (r.1, imin r.2 (bndS l p))) r).1 ∧
   (L'.foldl (fun r l => if (l.A != (p.length : Int) || decide (l.B ≥ (p.length : Int))) = true then r else if l.Least = true then (imax r.1 (bndS l p), r.2) else (r.1, imin r.2 (bndS l p))) r).2 ≤ 65536 := by
  intro L'
  induction L' with
  | nil => intro r _ hr; exact hr
  | cons y L' ih =>
   intro r hL hr
   rw [List.foldl_cons]
   refine ih _ (fun z hz => hL z (List.mem_cons_of_mem _ hz)) ?_
   split
   ·exact hr
   ·split
    ·exact ⟨by unfold imax; split <;> omega, hr.2⟩
    ·exact ⟨hr.1, by unfold imin; split <;> omega⟩
 exact key L (0, 65536) h.lim ⟨Int.le_refl _, Int.le_refl _⟩

theorem Qto {lo hi : Int} (h : hi < lo) : seqI lo hi = [] := by
 unfold seqI
 rw [show (hi - lo + 1).toNat = 0 by omega]; rfl
theorem Qsj {lo hi : Int} (h : lo ≤ hi) : seqI lo hi = lo :: seqI (lo + 1) hi := by
 unfold seqI
 rw [show (hi - lo + 1).toNat = (hi - (lo + 1) + 1).toNat + 1 by omega, List.range_succ_eq_map, List.map_cons, List.map_map]
 congr 1
 ·simp
 ·refine List.map_congr_left fun i _ => ?_
  show lo + ((i + 1 : Nat) : Int) = lo + 1 + (i : Int)
  omega
/-- A loop over numbers that changes a state. -/
theorem Qou {S : Type} {hi : Int} {Y : S → Int → Option S} (F : S → Int → S) (I : S → Prop) (hhi : hi ≤ 65536) : ∀ (c : Nat) (lo : Int) (s : S), (hi - lo + 1).toNat = c → 0 ≤ lo → lo ≤ 65537 → I s →
  (∀ s v, I s → lo ≤ v → v ≤ hi → Y s v = some (F s v) ∧ I (F s v)) →
  QK (fun (s5 : Int × S) => ((opt (decide (s5.1 ≤ hi)) (Y s5.2 s5.1) s5.2).bind fun t38 => (if (decide (s5.1 ≤ hi)) = true then (some (.inl (IntKind.i64.wrap (s5.1 + (1:Int)), t38))) else (some (.inr t38))))) (lo, s) = some ((seqI lo hi).foldl F s)
 | 0, lo, s, hc, h0, h1, hI, hY => by
  rw [Qc2]
  have e : decide (lo ≤ hi) = false := by simp; omega
  dsimp only
  rw [e, QrP, Qto (by omega)]
  rfl
 | c + 1, lo, s, hc, h0, h1, hI, hY => by
  rw [Qc2]
  have hle : lo ≤ hi := by omega
  have e : decide (lo ≤ hi) = true := by simp; omega
  obtain ⟨y1, y2⟩ := hY s lo hI (Int.le_refl _) hle
  dsimp only
  rw [e, Qff, y1]
  simp only [Option.bind_some, if_true]
  rw [w64 (by omega) (by omega), Qou F I hhi c (lo + 1) (F s lo) (by omega) (by omega) (by omega) y2 (fun s v hs h2 h3 => hY s v hs (by omega) h3), Qsj hle]
  rfl

theorem Qu6 {a : Qm} {k : Nat} {u v : Int} (h : k < 6) : (a.setI (k : Int) v).setI (k : Int) u = a.setI (k : Int) u := by
 unfold Qm.setI
 match k, h with
 | 0, _ => rfl
 | 1, _ => rfl
 | 2, _ => rfl
 | 3, _ => rfl
 | 4, _ => rfl
 | 5, _ => rfl
theorem getD_lt' {α : Type} {l : List α} {z : α} {i : Nat} (h : i < l.length) : l.getD i z = l[i] := by simp [List.getD_eq_getElem?_getD, h]
theorem Qsk {L : List Qd} {W : List Int} {D : List Bool} (h : SrOk L W D) : ∀ (m N : Nat) (p : List Int) (b : Qm × Int), m < N → p.length + m = W.length → NumP p →
  QaQ N ⟨L, W, D, padV p, b.1, b.2⟩ (p.length : Int) (dst W p) = some ⟨L, W, D, padV p, ((Qax L W D m p).foldl (upd W) b).1, ((Qax L W D m p).foldl (upd W) b).2⟩
 | m, 0, p, b, hm, _, _ => absurd hm (Nat.not_lt_zero _)
 | m, N + 1, p, b, hm, hl, hp => by
  show Qbw (QaQ N) ⟨L, W, D, padV p, b.1, b.2⟩ (p.length : Int) (dst W p) = _
  have h6 := h.six
  have d0 := Qjt W p
  have d1 := Qsi hp h.want
  unfold Qbw
  by_cases hpr : 0 ≤ b.2 ∧ b.2 < dst W p
  ·rw [if_pos (by simpa using hpr), Qu2 hpr.1 fun x hx => Int.lt_of_lt_of_le hpr.2 (QnA m p hl x hx)]
  ·rw [if_neg (by simpa using hpr)]
   cases m with
   | zero =>
    have hlen : p.length = W.length := by omega
    rw [if_pos (by simp [hlen])]
    show _ = some (⟨L, W, D, padV p, (upd W b p).1, (upd W b p).2⟩ : Qp)
    have hc := Qq1 (padV p).L b.1.L rfl (by simp [Qm.L])
    by_cases h1 : b.2 < 0 ∨ dst W p < b.2
    ·have e1 : (decide (b.2 < 0) || decide (dst W p < b.2)) = true := by simpa using h1
     have e2 : upd W b p = (padV p, dst W p) := if_pos (by rcases h1 with h1 | h1 <;> simp [h1])
     rw [e1, e2]
     rfl
    ·have e1 : (decide (b.2 < 0) || decide (dst W p < b.2)) = false := by simp; omega
     have heq : dst W p = b.2 := by omega
     rw [e1]
     simp only [Bool.false_or, show (false == false) = true from rfl, Bool.true_and]
     by_cases hne : Qbf (padV p) b.1 = true
     ·have hsame : padV p = b.1 := by
       simp only [Qbf, Bool.and_eq_true, beq_iff_eq] at hne
       obtain ⟨⟨⟨⟨⟨q0, q1⟩, q2⟩, q3⟩, q4⟩, q5⟩ := hne
       cases hb : b.1
       rw [hb] at q0 q1 q2 q3 q4 q5
       simp only [padV] at *
       simp [q0, q1, q2, q3, q4, q5]
      have hu : upd W b p = b := by
       unfold upd
       split
       ·exact Prod.ext hsame heq
       ·rfl
      rw [hne, hu]
      rfl
     ·have hne' : Qbf (padV p) b.1 = false := by simpa using hne
      rw [hne']
      simp only [Bool.not_false, show (true == true) = true from rfl, Qff, hc, Option.bind_some, Bool.true_and]
      by_cases hl0 : cmpL (padV p).L b.1.L < 0
      ·have hu : upd W b p = (padV p, dst W p) := if_pos (.inr (.inr ⟨heq, hl0⟩))
       rw [if_pos (by simpa using hl0), hu]
       rfl
      ·have hu : upd W b p = b := if_neg (by rintro (g | g | ⟨_, g⟩) <;> omega)
       rw [if_neg (by simpa using hl0), hu]
       rfl
   | succ m =>
    have hlt : p.length < W.length := by omega
    have hp6 : p.length < 6 := by omega
    rw [if_neg (by simp; omega), Qu5 h hp (by omega)]
    simp only [Option.bind_some]
    obtain ⟨r0, r1⟩ := Qtn h hp
    have hW := QmI (p := W) h.want (p.length : Int)
    have hset : ∀ v, (padV p).setI (p.length : Int) v = padV (p ++ [v]) := fun v => Qkm hp6
    have pset : ∀ v u, (padV (p ++ [v])).setI (p.length : Int) u = padV (p ++ [u]) := fun v u => by
     rw [← Qkm hp6, ← Qkm hp6]
     exact Qu6 hp6
    -- one round
    have round0 : ∀ (b : Qm × Int) (now : Qm) (v : Int), 0 ≤ v → v ≤ 65536 → (∀ u, now.setI (p.length : Int) u = padV (p ++ [u])) →
      (((idx (now).L (p.length : Int)).bind fun t83 => (QcA v (nth W (p.length : Int))).bind fun t96 => (QaQ N (Qp.mk L W D ((now).setI (p.length : Int) v) b.1 b.2) (IntKind.i64.wrap ((p.length : Int) + (1:Int))) (IntKind.i64.wrap (dst W p + t96))).bind fun t98 => (some t98))) =
      some ⟨L, W, D, padV (p ++ [v]), ((Qax L W D m (p ++ [v])).foldl (upd W) b).1, ((Qax L W D m (p ++ [v])).foldl (upd W) b).2⟩ := by
     intro b now v v0 v1 hnow
     have hnp : NumP (p ++ [v]) := fun z hz => by
      rcases List.mem_append.1 hz with hz | hz
      ·exact hp z hz
      ·rw [List.mem_singleton.1 hz]; exact ⟨v0, v1⟩
     have hf := Qn6 (a := v) (b := nth W (p.length : Int)) ⟨v0, v1⟩ hW
     have hf0 := Qkn v (nth W (p.length : Int))
     rw [Qg7 (by omega) (by simp [Qm.L]; omega)]
     simp only [Option.bind_some]
     rw [far_is _ _ ⟨v0, v1⟩ hW]
     simp only [Option.bind_some]
     have hb6 : (p.length : Int) * 65536 ≤ 393216 := by omega
     rw [hnow, w64 (by omega) (by omega), w64 (by omega) (by omega), ← Qia W p v hlt]
     have ih := Qsk h m N (p ++ [v]) b (by omega) (by simp; omega) hnp
     rw [show (((p ++ [v]).length : Nat) : Int) = (p.length : Int) + 1 by simp] at ih
     rw [ih]
     rfl
    have round : ∀ (b : Qm × Int) (now : Qm) (v : Int), 0 ≤ v → v ≤ 65536 → (∀ u, now.setI (p.length : Int) u = padV (p ++ [u])) →
      (((idx (now).L (p.length : Int)).bind fun t83 => (idx W (p.length : Int)).bind fun t94 => (QcA v t94).bind fun t96 => (QaQ N (Qp.mk L W D ((now).setI (p.length : Int) v) b.1 b.2) (IntKind.i64.wrap ((p.length : Int) + (1:Int))) (IntKind.i64.wrap (dst W p + t96))).bind fun t98 => (some t98))) =
      some ⟨L, W, D, padV (p ++ [v]), ((Qax L W D m (p ++ [v])).foldl (upd W) b).1, ((Qax L W D m (p ++ [v])).foldl (upd W) b).2⟩ := by
     intro b now v v0 v1 hnow
     rw [Qg7 (c := W) (by omega) (by omega)]
     exact round0 b now v v0 v1 hnow
    have hleaf : Qax L W D (m + 1) p = if (Qas L p).2 < (Qas L p).1 then [] else if D.getD p.length false = true then (seqI (Qas L p).1 (Qas L p).2).flatMap fun v => Qax L W D m (p ++ [v]) else Qax L W D m (p ++ [imin (imax (nth W (p.length : Int)) (Qas L p).1) (Qas L p).2]) := rfl
    unfold Qbq
    by_cases hgt : (Qas L p).2 < (Qas L p).1
    ·rw [if_pos (by simpa using hgt), hleaf, if_pos hgt]
     simp only [Option.bind_some]
     rw [Qg7 (by omega) (by simp [Qm.L]; omega)]
     simp only [Option.bind_some]
     rw [hset, QmH]
     rfl
    ·rw [if_neg (by simpa using hgt), hleaf, if_neg hgt]
     have hD : idx D (p.length : Int) = some (D.getD p.length false) := by
      have : p.length < D.length := by have := h.leads; omega
      rw [Qak this, getD_lt' this]
     rw [hD]
     simp only [Option.bind_some]
     cases hd : D.getD p.length false with
     | false =>
      rw [if_pos (by decide), if_neg (by decide), Qg7 (by omega) (by omega)]
      simp only [Option.bind_some]
      have hv : 0 ≤ imin (imax (nth W (p.length : Int)) (Qas L p).1) (Qas L p).2 ∧ imin (imax (nth W (p.length : Int)) (Qas L p).1) (Qas L p).2 ≤ 65536 := by
       constructor <;> (unfold imin imax; split <;> first | omega | (split <;> omega))
      rw [round0 b (padV p) _ hv.1 hv.2 hset]
      simp only [Option.bind_some]
      rw [Qg7 (by omega) (by simp [Qm.L]; omega)]
      simp only [Option.bind_some]
      rw [Qtm hp6]
     | true =>
      rw [if_neg (by decide), if_pos rfl]
      let F : Qp → Int → Qp := fun s v => ⟨L, W, D, padV (p ++ [v]), ((Qax L W D m (p ++ [v])).foldl (upd W) (s.best, s.cost)).1, ((Qax L W D m (p ++ [v])).foldl (upd W) (s.best, s.cost)).2⟩
      have hfold : ∀ (l : List Int) (b : Qm × Int) (now : Qm), (∀ u, now.setI (p.length : Int) u = padV (p ++ [u])) → ∃ now', l.foldl F ⟨L, W, D, now, b.1, b.2⟩ = ⟨L, W, D, now', ((l.flatMap fun v => Qax L W D m (p ++ [v])).foldl (upd W) b).1, ((l.flatMap fun v => Qax L W D m (p ++ [v])).foldl (upd W) b).2⟩ ∧ ∀ u, now'.setI (p.length : Int) u = padV (p ++ [u]) := by
       intro l
       induction l with
       | nil => intro b now hn; exact ⟨now, rfl, hn⟩
       | cons v l ih =>
        intro b now hn
        rw [List.foldl_cons, List.flatMap_cons, List.foldl_append]
        exact ih _ _ (pset v)
      rw [Qou (S := Qp) (Y := fun s v => (idx (s).now.L (p.length : Int)).bind fun t83 => (idx s.want (p.length : Int)).bind fun t94 => (QcA v t94).bind fun t96 => (QaQ N (Qp.mk s.limits s.want s.leads ((s).now.setI (p.length : Int) v) s.best s.cost) (IntKind.i64.wrap ((p.length : Int) + (1:Int))) (IntKind.i64.wrap (dst W p + t96))).bind fun t98 => (some t98)) F (fun s => ∃ (b : Qm × Int) (now : Qm), s = ⟨L, W, D, now, b.1, b.2⟩ ∧ ∀ u, now.setI (p.length : Int) u = padV (p ++ [u])) r1 _ _ _ rfl r0 (by omega) ⟨b, padV p, rfl, hset⟩ (fun s v hs hv0 hv1 => ?_)]
      ·obtain ⟨now', e1, e2⟩ := hfold (seqI (Qas L p).1 (Qas L p).2) b (padV p) hset
       rw [e1]
       simp only [Option.bind_some]
       rw [Qg7 (by omega) (by simp [Qm.L]; omega)]
       simp only [Option.bind_some]
       rw [e2, QmH]
      ·obtain ⟨b', now, rfl, hn⟩ := hs
       exact ⟨round b' now v (by omega) (by omega) hn, ⟨_, _, rfl, pset v⟩⟩

end Go.Proofs.YtcdccjagknlmpaaGreatDoor

namespace Go.Proofs.YtcdccjagknlmpaaGreatDoor
open Go.Sim

/-- A number is within the room that the numbers before it leave. -/
def Qko (L : List Qd) (x : List Int) (i : Nat) : Prop := (Qas L (x.take i)).1 ≤ nth x (i : Int) ∧ nth x (i : Int) ≤ (Qas L (x.take i)).2
def Qkp (y : Qd) (p : List Int) (v : Int) : Prop := if y.Least = true then bndS y p ≤ v else v ≤ bndS y p

theorem Qov {p : List Int} {v : Int} : ∀ (L : List Qd) (r : Int × Int),
  (let s := L.foldl (fun r l => if (l.A != (p.length : Int) || decide (l.B ≥ (p.length : Int))) = true then r else if l.Least = true then (imax r.1 (bndS l p), r.2) else (r.1, imin r.2 (bndS l p))) r; (s.1 ≤ v ∧ v ≤ s.2)) ↔
  ((r.1 ≤ v ∧ v ≤ r.2) ∧ ∀ y ∈ L, y.A = (p.length : Int) → y.B < (p.length : Int) → Qkp y p v)
 | [], r => by simp
 | y :: L, r => by
  rw [List.foldl_cons]
  refine (Qov L _).trans ?_
  by_cases hs : (y.A != (p.length : Int) || decide (y.B ≥ (p.length : Int))) = true
  ·rw [if_pos hs]
   have hs' : ¬ (y.A = (p.length : Int) ∧ y.B < (p.length : Int)) := by
    simp only [Bool.or_eq_true, bne_iff_ne, ne_eq, decide_eq_true_eq] at hs
    omega
   constructor
   ·rintro ⟨h1, h2⟩
    refine ⟨h1, fun z hz ha hb => ?_⟩
    rcases List.mem_cons.1 hz with rfl | hz
    ·exact absurd ⟨ha, hb⟩ hs'
    ·exact h2 z hz ha hb
   ·rintro ⟨h1, h2⟩
    exact ⟨h1, fun z hz => h2 z (List.mem_cons_of_mem _ hz)⟩
  ·rw [if_neg hs]
   have hs' : y.A = (p.length : Int) ∧ y.B < (p.length : Int) := by
    simp only [Bool.or_eq_true, bne_iff_ne, ne_eq, decide_eq_true_eq] at hs
    omega
   have hk : ((if y.Least = true then (imax r.1 (bndS y p), r.2) else (r.1, imin r.2 (bndS y p)) : Int × Int).1 ≤ v ∧ v ≤ (if y.Least = true then (imax r.1 (bndS y p), r.2) else (r.1, imin r.2 (bndS y p)) : Int × Int).2) ↔ ((r.1 ≤ v ∧ v ≤ r.2) ∧ Qkp y p v) := by
    unfold Qkp imax imin
    cases y.Least <;> simp only [Bool.false_eq_true, if_false, if_true] <;> split <;> omega
   rw [hk]
   constructor
   ·rintro ⟨⟨h1, h3⟩, h2⟩
    refine ⟨h1, fun z hz ha hb => ?_⟩
    rcases List.mem_cons.1 hz with rfl | hz
    ·exact h3
    ·exact h2 z hz ha hb
   ·rintro ⟨h1, h2⟩
    exact ⟨⟨h1, h2 y (List.mem_cons_self ..) hs'.1 hs'.2⟩, fun z hz => h2 z (List.mem_cons_of_mem _ hz)⟩
theorem QmJ (L : List Qd) (p : List Int) (v : Int) : ((Qas L p).1 ≤ v ∧ v ≤ (Qas L p).2) ↔ ((0 ≤ v ∧ v ≤ 65536) ∧ ∀ y ∈ L, y.A = (p.length : Int) → y.B < (p.length : Int) → Qkp y p v) :=
 Qov L (0, 65536)
theorem Qsl {p q : List Int} (hl : p.length = q.length) : ∀ (L : List Qd), (∀ y ∈ L, y.A = (p.length : Int) → y.B < (p.length : Int) → bndS y p = bndS y q) → Qas L p = Qas L q := by
 unfold Qas
 rw [← hl]
 generalize ((0, 65536) : Int × Int) = r
 intro L
 induction L generalizing r with
 | nil => intro _; rfl
 | cons y L ih =>
  intro h
  rw [List.foldl_cons, List.foldl_cons, ih _ (fun z hz => h z (List.mem_cons_of_mem _ hz))]
  by_cases hs : (y.A != (p.length : Int) || decide (y.B ≥ (p.length : Int))) = true
  ·rw [if_pos hs, if_pos hs]
  ·rw [if_neg hs, if_neg hs]
   simp only [Bool.or_eq_true, bne_iff_ne, ne_eq, decide_eq_true_eq] at hs
   rw [h y (List.mem_cons_self ..) (by omega) (by omega)]

theorem Qtp {lo hi v : Int} : v ∈ seqI lo hi ↔ lo ≤ v ∧ v ≤ hi := by
 unfold seqI
 simp only [List.mem_map, List.mem_range]
 constructor
 ·rintro ⟨i, h, rfl⟩; omega
 ·intro h; exact ⟨(v - lo).toNat, by omega, by omega⟩
def Qix (L : List Qd) (W p : List Int) : Int := imin (imax (nth W (p.length : Int)) (Qas L p).1) (Qas L p).2
/-- One step of the search. -/
theorem Qow {L : List Qd} {W : List Int} {D : List Bool} {m : Nat} {p x : List Int} : x ∈ Qax L W D (m + 1) p ↔
  ∃ v, ((Qas L p).1 ≤ v ∧ v ≤ (Qas L p).2) ∧ (D.getD p.length false = true ∨ v = Qix L W p) ∧ x ∈ Qax L W D m (p ++ [v]) := by
 have e : Qax L W D (m + 1) p = if (Qas L p).2 < (Qas L p).1 then [] else if D.getD p.length false = true then (seqI (Qas L p).1 (Qas L p).2).flatMap fun v => Qax L W D m (p ++ [v]) else Qax L W D m (p ++ [Qix L W p]) := rfl
 rw [e]
 by_cases h : (Qas L p).2 < (Qas L p).1
 ·rw [if_pos h]
  constructor
  ·intro h'; simp at h'
  ·rintro ⟨v, h', _⟩; omega
 ·rw [if_neg h]
  by_cases hd : D.getD p.length false = true
  ·rw [if_pos hd]
   simp only [List.mem_flatMap, Qtp]
   constructor
   ·rintro ⟨v, hv, hx⟩; exact ⟨v, hv, .inl hd, hx⟩
   ·rintro ⟨v, hv, _, hx⟩; exact ⟨v, hv, hx⟩
  ·rw [if_neg hd]
   constructor
   ·intro hx
    refine ⟨Qix L W p, ?_, .inr rfl, hx⟩
    unfold Qix
    constructor <;> (unfold imin imax; split <;> first | omega | (split <;> omega))
   ·rintro ⟨v, _, hv, hx⟩
    rcases hv with hv | rfl
    ·exact absurd hv hd
    ·exact hx

theorem QpG {x : List Int} {i : Nat} {j : Int} (h0 : 0 ≤ j) (h1 : j < (i : Int)) : nth (x.take i) j = nth x j := by
 unfold nth
 rw [List.getD_eq_getElem?_getD, List.getD_eq_getElem?_getD, List.getElem?_take_of_lt (by omega)]
theorem Qox {x : List Int} {i : Nat} (h : i < x.length) : x.take (i + 1) = x.take i ++ [nth x (i : Int)] := by
 rw [List.take_succ_eq_append_getElem h]
 unfold nth
 rw [Int.toNat_natCast, getD_lt' h]

theorem Qqw {L : List Qd} {W : List Int} {D : List Bool} : ∀ (m : Nat) (p : List Int), p.length + m = W.length → ∀ x ∈ Qax L W D m p,
  x.length = W.length ∧ x.take p.length = p ∧ ∀ i, p.length ≤ i → i < W.length → Qko L x i
 | 0, p, h, x, hx => by
  have : x = p := by simpa [Qax] using hx
  subst this
  exact ⟨by omega, List.take_length, fun i h1 h2 => by omega⟩
 | m + 1, p, h, x, hx => by
  obtain ⟨v, hv, _, hx⟩ := Qow.1 hx
  obtain ⟨h1, h2, h3⟩ := Qqw m (p ++ [v]) (by simp; omega) x hx
  rw [show (p ++ [v]).length = p.length + 1 by simp] at h2 h3
  have h4 : x.take p.length = p := by
   have := congrArg (List.take p.length) h2
   rw [List.take_take, List.take_append_of_le_length (Nat.le_refl _), List.take_length, show min p.length (p.length + 1) = p.length by omega] at this
   exact this
  have h5 : nth x (p.length : Int) = v := by
   have e := Qox (x := x) (i := p.length) (by omega)
   rw [h2, h4] at e
   exact ((List.cons.inj (List.append_cancel_left e)).1).symm
  refine ⟨h1, h4, fun i h6 h7 => ?_⟩
  by_cases h8 : i = p.length
  ·subst h8
   unfold Qko
   rw [h4, h5]
   exact hv
  ·exact h3 i (by omega) h7

/-- None that keep all limits are nearer than the nearest leaf. -/
theorem Qoy {L : List Qd} {W : List Int} {D : List Bool} (hD : ∀ y ∈ L, 0 ≤ y.B → D.getD y.B.toNat false = true) {o : List Int} (ho : o.length = W.length) :
  ∀ (m : Nat) (p : List Int), p.length + m = W.length → (∀ j : Nat, j < p.length → D.getD j false = true → nth p (j : Int) = nth o (j : Int)) → dst W p ≤ dst W (o.take p.length) →
   (∀ i, p.length ≤ i → i < W.length → Qko L o i) → ∃ x ∈ Qax L W D m p, dst W x ≤ dst W o
 | 0, p, h, _, hd, _ => by
  refine ⟨p, by simp [Qax], ?_⟩
  rw [List.take_of_length_le (by omega)] at hd
  exact hd
 | m + 1, p, h, hp, hd, hr => by
  have hlt : p.length < o.length := by omega
  have hl : (o.take p.length).length = p.length := by rw [List.length_take]; omega
  have hroom : Qas L p = Qas L (o.take p.length) := Qsl hl.symm L fun y hy _ hb => by
   unfold bndS
   by_cases h0 : y.B < 0
   ·rw [if_pos h0, if_pos h0]
   ·rw [if_neg h0, if_neg h0, QpG (by omega) hb]
    have := hp y.B.toNat (by omega) (hD y hy (by omega))
    rw [Int.toNat_of_nonneg (by omega)] at this
    rw [this]
  have hin := hr p.length (Nat.le_refl _) (by omega)
  unfold Qko at hin
  rw [← hroom] at hin
  have key : ∃ v, ((Qas L p).1 ≤ v ∧ v ≤ (Qas L p).2) ∧ (D.getD p.length false = true ∨ v = Qix L W p) ∧ (D.getD p.length false = true → v = nth o (p.length : Int)) ∧ farS v (nth W (p.length : Int)) ≤ farS (nth o (p.length : Int)) (nth W (p.length : Int)) := by
   by_cases hd : D.getD p.length false = true
   ·exact ⟨_, hin, .inl hd, fun _ => rfl, Int.le_refl _⟩
   ·refine ⟨Qix L W p, ?_, .inr rfl, fun h => absurd h hd, ?_⟩
    ·unfold Qix
     constructor <;> (unfold imin imax; split <;> first | omega | (split <;> omega))
    ·unfold Qix farS imin imax
     split <;> split <;> split <;> split <;> omega
  obtain ⟨v, k1, k2, k3, k4⟩ := key
  obtain ⟨x, hx, hx'⟩ := Qoy hD ho m (p ++ [v]) (by simp; omega) (fun j hj hdj => by
   rw [Qn5 (by omega)]
   by_cases e : j = p.length
   ·subst e; rw [if_pos rfl]; exact k3 hdj
   ·rw [if_neg (by omega)]
    have : j < p.length := by simp at hj; omega
    exact hp j this hdj) (by
   rw [show (p ++ [v]).length = p.length + 1 by simp, Qox hlt, Qia W p v (by omega), Qia W (o.take p.length) _ (by omega), hl]
   omega) (fun i hi hi' => hr i (by simp at hi; omega) hi')
  exact ⟨x, Qow.2 ⟨v, k1, k2, hx⟩, hx'⟩

theorem Qmm {y : Qd} {x : List Int} (h0 : 0 ≤ y.A) (hBA : y.B < y.A) : Qkp y (x.take y.A.toNat) (nth x y.A) ↔ QeO y x = true := by
 have e : bndS y (x.take y.A.toNat) = bndS y x := by
  unfold bndS
  by_cases hb : y.B < 0
  ·rw [if_pos hb, if_pos hb]
  ·rw [if_neg hb, if_neg hb, QpG (by omega) (by omega)]
 unfold Qkp QeO
 rw [e]
 cases y.Least <;> simp

/-- Numbers within their rooms are the ones that keep all limits. -/
theorem Qoz {L : List Qd} {x : List Int} (hv : ∀ y ∈ L, VL y (x.length : Int)) (hBA : ∀ y ∈ L, y.B < y.A) : (∀ i, i < x.length → Qko L x i) ↔ (NumP x ∧ ∀ y ∈ L, QeO y x = true) := by
 constructor
 ·intro h
  refine ⟨fun z hz => ?_, fun y hy => ?_⟩
  ·obtain ⟨i, hi, rfl⟩ := List.getElem_of_mem hz
   have := ((QmJ _ _ _).1 (h i hi)).1
   unfold nth at this
   rw [Int.toNat_natCast, getD_lt' hi] at this
   exact this
  ·have a0 := (hv y hy).a0
   have a1 := (hv y hy).a1
   have hi : y.A.toNat < x.length := by omega
   have hl : (x.take y.A.toNat).length = y.A.toNat := by rw [List.length_take]; omega
   have := ((QmJ _ _ _).1 (h _ hi)).2 y hy (by rw [hl]; omega) (by rw [hl]; have := hBA y hy; omega)
   rw [Int.toNat_of_nonneg a0] at this
   exact (Qmm a0 (hBA y hy)).1 this
 ·rintro ⟨h1, h2⟩ i hi
  refine (QmJ _ _ _).2 ⟨QmI h1 _, fun y hy ha _ => ?_⟩
  have hl : (x.take i).length = i := by rw [List.length_take]; omega
  rw [hl] at ha
  have := (Qmm (x := x) (hv y hy).a0 (hBA y hy)).2 (h2 y hy)
  rw [ha, Int.toNat_natCast] at this
  exact this

end Go.Proofs.YtcdccjagknlmpaaGreatDoor

namespace Go.Proofs.YtcdccjagknlmpaaGreatDoor
open Go.Sim

/-- The best of some lists of numbers. -/
theorem Ql8 {W : List Int} : ∀ (l : List (List Int)) (b : Qm × Int), 0 ≤ b.2 →
  0 ≤ (l.foldl (upd W) b).2 ∧ (l.foldl (upd W) b).2 ≤ b.2 ∧ (∀ x ∈ l, (l.foldl (upd W) b).2 ≤ dst W x) ∧ (l.foldl (upd W) b = b ∨ ∃ x ∈ l, l.foldl (upd W) b = (padV x, dst W x))
 | [], b, h => ⟨h, Int.le_refl _, by simp, .inl rfl⟩
 | x :: l, b, h => by
  rw [List.foldl_cons]
  have hx := Qjt W x
  by_cases hc : b.2 < 0 ∨ dst W x < b.2 ∨ (dst W x = b.2 ∧ cmpL (padV x).L b.1.L < 0)
  ·have e : upd W b x = (padV x, dst W x) := if_pos hc
   rw [e]
   obtain ⟨h1, h2, h3, h4⟩ := Ql8 (W := W) l (padV x, dst W x) hx
   dsimp only at h2
   refine ⟨h1, by omega, fun z hz => ?_, .inr ?_⟩
   ·rcases List.mem_cons.1 hz with rfl | hz
    ·exact h2
    ·exact h3 z hz
   ·rcases h4 with h4 | ⟨z, hz, h4⟩
    ·exact ⟨x, List.mem_cons_self .., h4⟩
    ·exact ⟨z, List.mem_cons_of_mem _ hz, h4⟩
  ·have e : upd W b x = b := if_neg hc
   rw [e]
   obtain ⟨h1, h2, h3, h4⟩ := Ql8 (W := W) l b h
   refine ⟨h1, h2, fun z hz => ?_, ?_⟩
   ·rcases List.mem_cons.1 hz with rfl | hz
    ·omega
    ·exact h3 z hz
   ·rcases h4 with h4 | ⟨z, hz, h4⟩
    ·exact .inl h4
    ·exact .inr ⟨z, List.mem_cons_of_mem _ hz, h4⟩
/-- What the search finds. -/
def QcM (L : List Qd) (W : List Int) (D : List Bool) : Qm × Int := (Qax L W D W.length []).foldl (upd W) (padV [], -1)
theorem Qsm {L : List Qd} {W : List Int} {D : List Bool} : (QcM L W D).2 < 0 ↔ Qax L W D W.length [] = [] := by
 unfold QcM
 cases Qax L W D W.length [] with
 | nil => simp
 | cons x l =>
  rw [List.foldl_cons]
  have e : upd W (padV [], -1) x = (padV x, dst W x) := if_pos (.inl (by decide))
  rw [e]
  have := (Ql8 (W := W) l (padV x, dst W x) (Qjt W x)).1
  simp only [List.cons_ne_nil, iff_false]
  omega
theorem Qsn {L : List Qd} {W : List Int} {D : List Bool} (h : 0 ≤ (QcM L W D).2) : ∃ x ∈ Qax L W D W.length [], QcM L W D = (padV x, dst W x) ∧ ∀ z ∈ Qax L W D W.length [], dst W x ≤ dst W z := by
 unfold QcM at h ⊢
 cases hl : Qax L W D W.length [] with
 | nil => rw [hl] at h; simp at h
 | cons x l =>
  rw [List.foldl_cons]
  have e : upd W (padV [], -1) x = (padV x, dst W x) := if_pos (.inl (by decide))
  rw [e]
  obtain ⟨h1, h2, h3, h4⟩ := Ql8 (W := W) l (padV x, dst W x) (Qjt W x)
  dsimp only at h2
  rcases h4 with h4 | ⟨z, hz, h4⟩
  ·rw [h4] at h3
   refine ⟨x, List.mem_cons_self .., h4, fun z hz => ?_⟩
   rcases List.mem_cons.1 hz with rfl | hz
   ·exact Int.le_refl _
   ·exact h3 z hz
  ·rw [h4] at h2 h3
   refine ⟨z, List.mem_cons_of_mem _ hz, h4, fun y hy => ?_⟩
   rcases List.mem_cons.1 hy with rfl | hy
   ·exact h2
   ·exact h3 y hy

/-- Which kinds lead. -/
def Qcd (L : List Qd) (n : Nat) : List Bool := L.foldl (fun d y => if y.B ≥ 0 then d.set y.B.toNat true else d) (List.replicate n false)
theorem QoA : ∀ (L : List Qd) (d : List Bool), (L.foldl (fun d y => if y.B ≥ 0 then d.set y.B.toNat true else d) d).length = d.length
 | [], d => rfl
 | y :: L, d => by
  rw [List.foldl_cons, QoA L]
  split
  ·exact List.length_set
  ·rfl
theorem QnB : ∀ (L : List Qd) (d : List Bool) (j : Nat), d.getD j false = true → (L.foldl (fun d y => if y.B ≥ 0 then d.set y.B.toNat true else d) d).getD j false = true
 | [], d, j, h => h
 | y :: L, d, j, h => by
  rw [List.foldl_cons]
  refine QnB L _ j ?_
  split
  ·rw [List.getD_eq_getElem?_getD, List.getElem?_set]
   rw [List.getD_eq_getElem?_getD] at h
   by_cases e : y.B.toNat = j
   ·subst e
    rw [if_pos rfl]
    split
    ·rfl
    ·rename_i hh
     rw [List.getElem?_eq_none (by omega)] at h
     exact h
   ·rw [if_neg e]; exact h
  ·exact h
theorem QnC : ∀ (L : List Qd) (d : List Bool), (∀ y ∈ L, y.B < (d.length : Int)) → ∀ y ∈ L, 0 ≤ y.B → (L.foldl (fun d y => if y.B ≥ 0 then d.set y.B.toNat true else d) d).getD y.B.toNat false = true
 | [], d, _, y, hy, _ => by cases hy
 | z :: L, d, hL, y, hy, hb => by
  rw [List.foldl_cons]
  rcases List.mem_cons.1 hy with rfl | hy
  ·refine QnB L _ _ ?_
   rw [if_pos hb]
   have := hL y (List.mem_cons_self ..)
   rw [List.getD_eq_getElem?_getD, List.getElem?_set, if_pos rfl, if_pos (by omega)]
   rfl
  ·refine QnC L _ (fun w hw => ?_) y hy hb
   have := hL w (List.mem_cons_of_mem _ hw)
   split
   ·rw [List.length_set]; exact this
   ·exact this
/-- How many lists of numbers may be tried. -/
def Qdn (x : Qg) (d : List Bool) : Nat → Int
 | 0 => 1
 | k + 1 => match x.Kinds[k]? with
  | some q => if (d.getD k false && decide (Qdn x d k ≤ 131072)) = true then Qdn x d k * (q.Hi - q.Lo + 1) else Qdn x d k
  | none => Qdn x d k
noncomputable def QoV (x : Qg) (L : List Qd) (want : List Int) : List Int × Int :=
 if want.length ≠ x.Kinds.length ∨ numL want = false then ([], 1)
 else if 131072 < Qdn x (Qcd L want.length) x.Kinds.length then ([], 4)
 else if (QcM L want (Qcd L want.length)).2 < 0 then ([], 14)
 else ((QcM L want (Qcd L want.length)).1.L.take want.length, 0)
theorem VL.weak {y : Qd} {a b : Int} (h : VL y a) (hab : a ≤ b) : VL y b := ⟨h.a0, by have := h.a1; omega, h.b0, by have := h.b1; omega, h.m0, h.m1⟩
theorem Qn7 {c : List Int} : numL c = true ↔ NumP c := by
 unfold numL NumP isN
 simp [List.all_eq_true]
theorem Qu7 {x : Qg} {want : List Int} {L : List Qd} {nm : List Str} (hLim : QaU x = some (L, nm, 0)) (hk : x.Kinds.length ≤ 6) (hK : ∀ k ∈ x.Kinds, 0 ≤ k.Lo ∧ k.Lo ≤ k.Hi ∧ k.Hi ≤ 65536)
  (hL : ∀ y ∈ L, VL y (x.Kinds.length : Int)) (hf : L.length ≤ 1000000) (hw : want.length ≤ 1000000) : Qbv x want = some (QoV x L want) := by
 unfold Qbv
 rw [hLim]
 simp only [Option.bind_some]
 rw [if_neg (by decide)]
 unfold QoV
 have hq : ∀ z ∈ want, QcY z = some (!isN z) := fun z _ => by
  unfold QcY
  rfl
 by_cases hn : want.length = x.Kinds.length
 ·have e0 : ((want.length : Int) != (x.Kinds.length : Int)) = false := by simp [hn]
  rw [e0]
  simp only [show (false == false) = true from rfl, Qff, Bool.false_or]
  rw [Qsg hw hq]
  simp only [Option.bind_some]
  by_cases ha : numL want = true
  ·have ea : (want.any fun z => !isN z) = false := by
    unfold numL at ha
    rw [List.any_eq_false]
    intro z hz
    have := List.all_eq_true.1 ha z hz
    simp [this]
   have hW := Qn7.1 ha
   rw [ea, if_neg (by decide), if_neg (by simp [hn, ha]), mk_nat _ _ (by omega)]
   simp only [Option.bind_some]
   let st : Nat → List Bool := fun k => (L.take k).foldl (fun d y => if y.B ≥ 0 then d.set y.B.toNat true else d) (List.replicate want.length false)
   have hst : ∀ k, (st k).length = want.length := fun k => by
    exact (QoA (L.take k) _).trans List.length_replicate
   refine Qfe L.length (fun k => ((k : Int), st k)) (st L.length) rfl (fun k hk' => ?_) ?_ ?_
   ·dsimp only
    have es : st (k + 1) = if L[k].B ≥ 0 then (st k).set L[k].B.toNat true else st k := by
     show (L.take (k + 1)).foldl _ _ = _
     rw [List.take_succ_eq_append_getElem hk', List.foldl_append]
     rfl
    rw [if_pos (by simpa using hk'), Qak hk']
    simp only [Option.bind_some, es, Qad hk' (show L.length ≤ 9223372036854775807 by omega)]
    have hb1 := (hL _ (List.getElem_mem hk')).b1
    by_cases hb : L[k].B ≥ 0
    ·rw [if_pos (by simpa using hb), if_pos hb]
     have hs : setAt (st k) L[k].B true = some ((st k).set L[k].B.toNat true) := by
      unfold setAt
      rw [if_pos ⟨hb, by rw [hst]; omega⟩]
     rw [hs]
     rfl
    ·rw [if_neg (by simpa using hb), if_neg hb]
     rfl
   ·dsimp only
    rw [if_neg (by simp)]
   ·have eD : st L.length = Qcd L want.length := by show (L.take L.length).foldl _ _ = _; rw [List.take_length]; rfl
    rw [eD]
    have hDl : (Qcd L want.length).length = want.length := by rw [← eD]; exact hst _
    generalize hD : Qcd L want.length = D at hDl ⊢
    have hp : ∀ k, k ≤ x.Kinds.length → 0 ≤ Qdn x D k ∧ Qdn x D k ≤ 131072 * 65537 := by
     intro k
     induction k with
     | zero => intro _; exact ⟨show (0:Int) ≤ 1 by decide, show (1:Int) ≤ 131072 * 65537 by decide⟩
     | succ k ih =>
      intro h
      obtain ⟨i1, i2⟩ := ih (by omega)
      have hq := hK _ (List.getElem_mem (show k < x.Kinds.length by omega))
      unfold Qdn
      rw [List.getElem?_eq_getElem (by omega)]
      dsimp only
      split
      ·rename_i hc
       simp only [Bool.and_eq_true, decide_eq_true_eq] at hc
       refine ⟨Int.mul_nonneg i1 (by omega), ?_⟩
       exact Int.mul_le_mul hc.2 (by omega) (by omega) (by decide)
      ·exact ⟨i1, i2⟩
    refine Qfe x.Kinds.length (fun k => ((k : Int), Qdn x D k)) (Qdn x D x.Kinds.length) rfl (fun k hk' => ?_) ?_ ?_
    ·dsimp only
     have hkD : k < D.length := by omega
     obtain ⟨i1, i2⟩ := hp k (by omega)
     obtain ⟨j1, j2⟩ := hp (k + 1) (by omega)
     have hq := hK _ (List.getElem_mem hk')
     have es : Qdn x D (k + 1) = if (D.getD k false && decide (Qdn x D k ≤ 131072)) = true then Qdn x D k * (x.Kinds[k].Hi - x.Kinds[k].Lo + 1) else Qdn x D k := by
      rw [Qdn, List.getElem?_eq_getElem hk']
     rw [if_pos (by simpa using hk'), Qak hk', Qak hkD, ← getD_lt' (z := false) hkD]
     simp only [Option.bind_some, Qad hk' (show x.Kinds.length ≤ 9223372036854775807 by omega)]
     rw [es] at j1 j2 ⊢
     by_cases hc : (D.getD k false && decide (Qdn x D k ≤ 131072)) = true
     ·rw [if_pos hc] at j1 j2
      rw [if_pos hc, if_pos hc, w64 (n := x.Kinds[k].Hi - x.Kinds[k].Lo) (by omega) (by omega), w64 (n := x.Kinds[k].Hi - x.Kinds[k].Lo + 1) (by omega) (by omega), w64 (by omega) (by omega)]
      rfl
     ·rw [if_neg hc, if_neg hc]
      rfl
    ·dsimp only
     rw [if_neg (by simp)]
    ·by_cases hpr : 131072 < Qdn x D x.Kinds.length
     ·rw [if_pos (by simpa using hpr), if_pos hpr]
     ·rw [if_neg (by simpa using hpr), if_neg hpr]
      have hS : SrOk L want D := ⟨hf, fun y hy => (hL y hy).weak (by omega), hW, by omega, hDl⟩
      have ht := Qsk hS want.length (want.length + 2) [] (padV [], -1) (by omega) (by simp) (fun z hz => by cases hz)
      have e0 : dst want [] = 0 := by simp [dst]
      rw [e0] at ht
      unfold Qer
      rw [show zz6 = padV [] from rfl]
      refine (congrArg (Option.bind · _) ht).trans ?_
      simp only [Option.bind_some]
      show (if decide ((QcM L want D).2 < 0) = true then _ else _) = _
      by_cases hc : (QcM L want D).2 < 0
      ·rw [if_pos (by simpa using hc), if_pos hc]
      ·rw [if_neg (by simpa using hc), if_neg hc]
       have hs : sub (QcM L want D).1.L 0 (want.length : Int) = some ((QcM L want D).1.L.take want.length) := by
        unfold sub
        rw [if_pos ⟨by omega, by omega, by simp [Qm.L]; omega⟩]
        simp
       refine (congrArg (Option.bind · _) hs).trans ?_
       simp only [Option.bind_some]
       unfold QcI
       rw [QjC (by simp; omega)]
       rfl
  ·have ea : (want.any fun z => !isN z) = true := by
    simp only [numL, List.all_eq_true] at ha
    rw [List.any_eq_true]
    simp only [Classical.not_forall] at ha
    obtain ⟨z, hz, hh⟩ := ha
    exact ⟨z, hz, by simpa using hh⟩
   rw [ea, if_pos rfl, if_pos (.inr (by simpa using ha))]
 ·have e0 : ((want.length : Int) != (x.Kinds.length : Int)) = true := by simp; omega
  rw [e0, if_pos (.inl hn)]
  rfl

end Go.Proofs.YtcdccjagknlmpaaGreatDoor

namespace Go.Proofs.YtcdccjagknlmpaaGreatDoor
open Go.Sim

theorem Qtq {k j r e : Int} (h : prob k j r e = []) : e = 0 := by
 unfold prob at h
 split at h
 ·assumption
 ·cases h
theorem clean {x : Qg} (hc : QcG x = []) {k j : Int} {q : Qi} {f : Qb} (hq : idx x.Kinds k = some q) (hf : field? x k j = some f) : Qih x q k j f = 0 := by
 obtain ⟨q',hk,hj,hq',hqf,_,hkl,hjl⟩ := Qhp hf
 rw [hq] at hq'; cases hq'
 obtain ⟨i,rfl⟩ := Int.eq_ofNat_of_zero_le hk
 obtain ⟨n,rfl⟩ := Int.eq_ofNat_of_zero_le hj
 rw [QfB] at hq hqf
 unfold QcG at hc
 split at hc
 ·simp only [List.append_eq_nil_iff] at hc
  have h1 := hc.1.2
  unfold Qit at h1
  rw [List.flatMap_eq_nil_iff] at h1
  have h2 := h1 i (List.mem_range.2 (by omega))
  unfold QiU at h2
  rw [hq] at h2
  dsimp only at h2
  rw [List.append_eq_nil_iff] at h2
  have h3 := h2.2
  unfold Qkg at h3
  rw [List.flatMap_eq_nil_iff] at h3
  have h4 := h3 n (List.mem_range.2 (by omega))
  unfold Qhv at h4
  rw [hqf] at h4
  have h5 := Qtq h4
  unfold QlG at h5
  split at h5
  ·cases h5
  ·exact h5
 ·cases hc
theorem QkR {a : Bool} {c : Int} {r : List Qq} (h : QaS (⟨a,c⟩ :: r) = 0) (hc : c ≠ 0) : a = false ∧ QaS r = 0 := by
 unfold QaS at h
 cases a with
 | true => exact (hc h).elim
 | false => exact ⟨rfl,h⟩
theorem Qtr {x : Qg} {q : Qi} {k j : Int} {f : Qb} (h : Qih x q k j f = 0) (hk : f.Kind = 1 ∨ f.Kind = 7 ∨ f.Kind = 8) : 0 ≤ upIx x k j := by
 unfold Qih at h
 rcases hk with hk | hk | hk
 ·rw [if_neg (by omega),if_pos hk] at h
  have := (QkR h (by decide)).1
  simpa using this
 ·rw [if_neg (by omega),if_neg (by omega),if_neg (by omega),if_neg (by omega),if_neg (by omega),if_pos hk] at h
  have := (QkR h (by decide)).1
  simpa using this
 ·rw [if_neg (by omega),if_neg (by omega),if_neg (by omega),if_neg (by omega),if_neg (by omega),if_neg (by omega),if_pos hk] at h
  have := (QkR h (by decide)).1
  simpa using this
end Go.Proofs.YtcdccjagknlmpaaGreatDoor

namespace Go.Proofs.YtcdccjagknlmpaaGreatDoor
open Go.Sim

theorem Qqx {i j lo hi n : Int} {y : Qd} (h : y ∈ Qii Qd.mk i j lo hi) (h0 : 0 ≤ i) (h1 : i < n) (j0 : -1 ≤ j) (j1 : j < i) (hl : 0 ≤ lo ∧ lo ≤ hi ∧ hi ≤ 65536) : VL y n ∧ y.B < y.A := by
 simp only [Qii, List.mem_cons, List.not_mem_nil, or_false] at h
 rcases h with rfl | rfl
 ·exact ⟨⟨h0, h1, j0, by dsimp only; omega, hl.1, by dsimp only; omega⟩, j1⟩
 ·exact ⟨⟨h0, h1, j0, by dsimp only; omega, by dsimp only; omega, hl.2.2⟩, j1⟩
theorem Qp2 {x : Qg} (hc : QcG x = []) {i j : Nat} (hi : i < x.Kinds.length) (hj : j < x.Kinds[i].Fields.length) (hk : x.Kinds[i].Fields[j].Kind = 1) : 0 ≤ Qab x x.Kinds[i].Fields[j].Of ∧ Qab x x.Kinds[i].Fields[j].Of < (i : Int) := by
 have hf : field? x (i : Int) (j : Int) = some x.Kinds[i].Fields[j] := by
  unfold field?
  rw [if_pos ⟨by omega, by omega⟩, Int.toNat_natCast, Int.toNat_natCast, List.getElem?_eq_getElem hi, Option.bind_some, List.getElem?_eq_getElem hj]
 have h := Qtr (clean hc (Qak hi) hf) (.inl hk)
 unfold upIx at h
 rw [hf] at h
 dsimp only at h
 rw [if_neg (by omega), if_pos hk] at h
 unfold Qhq at h
 split at h
 ·exact ⟨h, by assumption⟩
 ·omega
theorem QoB {x : Qg} (hc : QcG x = []) : ∀ y ∈ limL Qd.mk x, VL y (x.Kinds.length : Int) ∧ y.B < y.A := by
 intro y hy
 have hv := QgE hc
 unfold limL at hy
 obtain ⟨i, hi, hy⟩ := List.mem_flatMap.1 hy
 rw [List.mem_range] at hi
 have hK := hv.kind _ (List.getElem_mem hi)
 unfold kndL at hy
 rw [List.getElem?_eq_getElem hi] at hy
 dsimp only at hy
 rcases List.mem_append.1 hy with hy | hy
 ·have hs := hK
  simp only [Qec, Bool.and_eq_true] at hs
  exact Qqx hy (by omega) (by omega) (Int.le_refl _) (by omega) (QcJ hs.1.1.2)
 ·obtain ⟨j, hj, hy⟩ := List.mem_flatMap.1 hy
  rw [List.mem_range] at hj
  unfold fldL at hy
  rw [List.getElem?_eq_getElem hj] at hy
  dsimp only at hy
  by_cases hk : x.Kinds[i].Fields[j].Kind = 1
  ·rw [if_pos (by simpa using hk)] at hy
   obtain ⟨r0, r1⟩ := Qp2 hc hi hj hk
   have hF := (Qkc hK).2.2 _ (List.getElem_mem hj)
   simp only [Qbz, Bool.and_eq_true] at hF
   have hp := hF.2
   unfold QfM at hp
   rw [if_neg (by omega), if_pos hk, Bool.and_eq_true] at hp
   exact Qqx hy (by omega) (by omega) (by omega) r1 (QcJ hp.2)
  ·rw [if_neg (by simpa using hk)] at hy
   cases hy
/-- What Plan gives for a schema without problems. -/
theorem Qu8 {x : Qg} (hs : Ql6 x) (hc : QcG x = []) {want : List Int} (hw : want.length ≤ 1000000) : Qbv x want = some (QoV x (limL Qd.mk x) want) := by
 have hv := QgE hc
 have hl : QaU x = some (limL Qd.mk x, namL x, 0) := by
  rw [Qos hs]
  unfold limR
  rw [hc]
 have hn := (QpE Qd.mk x).1
 unfold limR at hn
 rw [hc] at hn
 dsimp only at hn
 refine Qu7 hl hv.kinds (fun k hk => ?_) (fun y hy => (QoB hc y hy).1) (by omega) hw
 have h := hv.kind k hk
 simp only [Qec, Bool.and_eq_true] at h
 exact QcJ h.1.1.2

end Go.Proofs.YtcdccjagknlmpaaGreatDoor

namespace Go.Proofs.YtcdccjagknlmpaaGreatDoor
open Go.Sim

theorem Qts {x : List Int} (h : x.length ≤ 6) : (padV x).L.take x.length = x := by
 refine List.ext_getElem (by simp [Qm.L]; omega) fun i h1 h2 => ?_
 rw [List.getElem_take]
 have e := Qqv (p := x) (i := (i : Int)) (by omega) (by omega)
 unfold nth at e
 rw [Int.toNat_natCast, getD_lt' (by simp [Qm.L]; omega), getD_lt' h2] at e
 exact e
theorem Qso {a b : Int} (h : farS a b = 0) : a = b := by
 unfold farS imax at h
 split at h <;> omega
theorem Qsp (a : Int) : farS a a = 0 := by
 unfold farS imax
 split <;> omega
theorem Qsq (a b : Int) : farS a b = farS b a := by
 unfold farS imax
 split <;> split <;> omega
theorem QpH : ∀ W : List Int, dst W W = 0
 | [] => rfl
 | a :: W => by
  have := QpH W
  unfold dst at this ⊢
  rw [List.zipWith_cons_cons, List.sum_cons, this, Qsp]
  rfl
theorem QpI : ∀ (W x : List Int), x.length = W.length → dst W x = 0 → x = W
 | [], x, h, _ => List.length_eq_zero_iff.1 h
 | a :: W, [], h, _ => by cases h
 | a :: W, b :: x, h, hd => by
  have h1 := Qjt W x
  have h2 := Qkn b a
  have e : dst (a :: W) (b :: x) = farS b a + dst W x := by
   unfold dst
   rw [List.zipWith_cons_cons, List.sum_cons]
  rw [e] at hd
  rw [Qso (show farS b a = 0 by omega), QpI W x (by simpa using h) (by omega)]

section
variable {L : List Qd} {W : List Int} (hv : ∀ y ∈ L, VL y (W.length : Int) ∧ y.B < y.A)
include hv
theorem Qtt {o : List Int} (ho : o.length = W.length) (hn : NumP o) (hk : ∀ y ∈ L, QeO y o = true) : ∀ i, i < o.length → Qko L o i :=
 (Qoz (fun y hy => by rw [ho]; exact (hv y hy).1) (fun y hy => (hv y hy).2)).2 ⟨hn, hk⟩
theorem QpJ {o : List Int} (ho : o.length = W.length) (hn : NumP o) (hk : ∀ y ∈ L, QeO y o = true) : ∃ x ∈ Qax L W (Qcd L W.length) W.length [], dst W x ≤ dst W o := by
 refine Qoy (fun y hy h0 => ?_) ho W.length [] (by simp) (fun j hj => by simp at hj) (by simp) (fun i _ hi => Qtt hv ho hn hk i (by omega))
 unfold Qcd
 exact QnC L _ (fun z hz => by have := (hv z hz).1.b1; rw [List.length_replicate]; omega) y hy h0
/-- There are none: no numbers keep all limits. -/
theorem Qsr (h : (QcM L W (Qcd L W.length)).2 < 0) {o : List Int} (ho : o.length = W.length) (hn : NumP o) : ¬ ∀ y ∈ L, QeO y o = true := by
 intro hk
 obtain ⟨x, hx, _⟩ := QpJ hv ho hn hk
 rw [Qsm.1 h] at hx
 cases hx
/-- There are some: they keep all limits, and are the nearest. -/
theorem Qss (h6 : W.length ≤ 6) (h : ¬ (QcM L W (Qcd L W.length)).2 < 0) :
  ((QcM L W (Qcd L W.length)).1.L.take W.length).length = W.length ∧ NumP ((QcM L W (Qcd L W.length)).1.L.take W.length) ∧ (∀ y ∈ L, QeO y ((QcM L W (Qcd L W.length)).1.L.take W.length) = true) ∧
  ∀ o : List Int, o.length = W.length → NumP o → (∀ y ∈ L, QeO y o = true) → dst W ((QcM L W (Qcd L W.length)).1.L.take W.length) ≤ dst W o := by
 obtain ⟨x, hx, he, hm⟩ := Qsn (L := L) (W := W) (D := Qcd L W.length) (by omega)
 obtain ⟨h1, _, h3⟩ := Qqw W.length [] (by simp) x hx
 rw [he]
 have e : (padV x).L.take W.length = x := by rw [← h1]; exact Qts (by omega)
 dsimp only
 rw [e]
 have hk := (Qoz (L := L) (x := x) (fun y hy => by rw [h1]; exact (hv y hy).1) (fun y hy => (hv y hy).2)).1 (fun i hi => h3 i (Nat.zero_le _) (by omega))
 refine ⟨h1, hk.1, hk.2, fun o ho hn hko => ?_⟩
 obtain ⟨z, hz, hd⟩ := QpJ hv ho hn hko
 exact Int.le_trans (hm z hz) hd
end

end Go.Proofs.YtcdccjagknlmpaaGreatDoor

namespace Go.Proofs.YtcdccjagknlmpaaGreatDoor
open Go.Sim

structure QnD (x : Qg) : Prop where
  short : Ql6 x
  clean : QcG x = []
  few : x.Kinds.length ≤ 3
  narrow : ∀ k ∈ x.Kinds, k.Hi - k.Lo ≤ 29
theorem QnE {x : Qg} (h : ∀ k ∈ x.Kinds, 0 ≤ k.Hi - k.Lo ∧ k.Hi - k.Lo ≤ 29) (d : List Bool) : ∀ k : Nat, 0 ≤ Qdn x d k ∧ Qdn x d k ≤ 30 ^ k
  | 0 => ⟨show (0:Int) ≤ 1 by decide, show (1:Int) ≤ 30 ^ 0 by decide⟩
  | k + 1 => by
    obtain ⟨i1, i2⟩ := QnE h d k
    have e : (30:Int) ^ (k + 1) = 30 ^ k * 30 := Int.pow_succ 30 k
    unfold Qdn
    cases hq : x.Kinds[k]? with
    | none => exact ⟨i1, by dsimp only; omega⟩
    | some q =>
      obtain ⟨j1, j2⟩ := h q (List.mem_of_getElem? hq)
      dsimp only
      split
      · refine ⟨Int.mul_nonneg i1 (by omega), ?_⟩
        rw [e]
        exact Int.mul_le_mul i2 (by omega) (by omega) (by omega)
      · exact ⟨i1, by omega⟩
theorem QpK {x : Qg} (h : QnD x) : QaU x = some (limL Qd.mk x, namL x, 0) ∧ (limL Qd.mk x).length ≤ 1000 := by
  have hn := (QpE Qd.mk x).1
  have hl := Qos h.short
  unfold limR at hn hl
  rw [h.clean] at hn hl
  exact ⟨hl, hn⟩
theorem Qq2 {x : Qg} (h : QnD x) {W : List Int} (hl : W.length = x.Kinds.length) (hW : NumP W) : Qbv x W = some (if (QcM (limL Qd.mk x) W (Qcd (limL Qd.mk x) W.length)).2 < 0 then ([], 14) else ((QcM (limL Qd.mk x) W (Qcd (limL Qd.mk x) W.length)).1.L.take W.length, 0)) := by
  have h3 := h.few
  rw [Qu8 h.short h.clean (by omega)]
  unfold QoV
  have hv := QgE h.clean
  have hK : ∀ k ∈ x.Kinds, 0 ≤ k.Hi - k.Lo ∧ k.Hi - k.Lo ≤ 29 := fun k hk => by
    have hs := hv.kind k hk
    simp only [Qec, Bool.and_eq_true] at hs
    have := QcJ hs.1.1.2
    have := h.narrow k hk
    omega
  have hp := (QnE hK (Qcd (limL Qd.mk x) W.length) x.Kinds.length).2
  have h30 : (30:Int) ^ x.Kinds.length ≤ 27000 := by
    have : x.Kinds.length = 0 ∨ x.Kinds.length = 1 ∨ x.Kinds.length = 2 ∨ x.Kinds.length = 3 := by omega
    rcases this with e | e | e | e <;> rw [e] <;> decide
  rw [if_neg (by rw [Qn7.2 hW]; simp [hl]), if_neg (by omega)]
theorem Qmn {a b : List Int} (hl : a.length = b.length) (hn : a.length ≤ 1000) (ha : NumP a) (hb : NumP b) : Qb4 a b = some (dst b a) := by
  unfold Qb4
  refine Qfe a.length (fun k => ((k : Int), dst b (a.take k))) (dst b a) (by simp [dst]) (fun k hk => ?_) ?_ rfl
  · dsimp only
    have hkb : k < b.length := by omega
    have h1 := Qsi (W := b) (p := a.take k) (fun z hz => ha z (List.mem_of_mem_take hz)) hb
    have h2 := Qjt b (a.take k)
    have hlt : (a.take k).length = k := by rw [List.length_take]; omega
    rw [hlt] at h1
    have a1 := ha _ (List.getElem_mem hk)
    have b1 := hb _ (List.getElem_mem hkb)
    have hf := Qn6 a1 b1
    have hf0 := Qkn a[k] b[k]
    have es : dst b (a.take (k + 1)) = dst b (a.take k) + farS a[k] b[k] := by
      rw [List.take_succ_eq_append_getElem hk, Qia b _ _ (by omega), hlt]
      unfold nth
      rw [Int.toNat_natCast, getD_lt' hkb]
    rw [if_pos (by simp; omega), Qak hk, Qak hkb]
    simp only [Option.bind_some]
    rw [w64 (n := a[k] - b[k]) (by omega) (by omega), w64 (n := b[k] - a[k]) (by omega) (by omega), es, Qad hk (by omega)]
    rw [show imax (a[k] - b[k]) (b[k] - a[k]) = farS a[k] b[k] from rfl, w64 (by omega) (by omega)]
  · dsimp only
    rw [if_neg (by simp), List.take_length]
theorem QmK : ∀ (a b : List Int), dst a b = dst b a
  | [], b => by cases b <;> rfl
  | a :: l, [] => rfl
  | a :: l, b :: m => by
    have := QmK l m
    unfold dst at this ⊢
    rw [List.zipWith_cons_cons, List.zipWith_cons_cons, List.sum_cons, List.sum_cons, this, Qsq]
theorem Qq3 {a : List Int} (ha : a.length ≤ 1000000) : Qa2 a a = some true := by
  unfold Qa2
  rw [if_neg (by simp), Qs3 a (fun _ => true) false (fun k hk => ?_) (if_neg (by simp))]
  · rw [if_pos (by simp)]
    rfl
  · rw [if_pos rfl, if_pos (by simpa using hk), Qak hk]
    simp only [Option.bind_some]
    rw [if_neg (by simp), Qad hk (by omega)]
theorem QkS {y : Qd} {c : List Int} (hv : VL y (c.length : Int)) (hn : NumP c) : QbU y c = QeO y c := by
  unfold QbU
  rw [Qnz.2 hv, Qn7.2 hn]
  rfl
theorem QoC {L : List Qd} {c : List Int} (hv : ∀ y ∈ L, VL y (c.length : Int)) (hn : NumP c) : (L.all fun y => QbU y c) = true ↔ ∀ y ∈ L, QeO y c = true := by
  rw [List.all_eq_true]
  exact ⟨fun h y hy => by rw [← QkS (hv y hy) hn]; exact h y hy, fun h y hy => by rw [QkS (hv y hy) hn]; exact h y hy⟩

theorem QoL {x : Qg} (h : QnD x) {W O : List Int} (hW : W.length = x.Kinds.length) (nW : NumP W) (hO : O.length = x.Kinds.length) (nO : NumP O) {l w o : List Int} (e0 : Qbt l = some x) (e1 : QdJ w (x.Kinds.length : Int) = some W) (e2 : QdJ o (x.Kinds.length : Int) = some O) : QcF l w o = some true := by
  obtain ⟨hL, hn⟩ := QpK h
  have h3 := h.few
  have hv := QoB h.clean
  unfold QcF
  rw [e0]
  simp only [Option.bind_some]
  rw [e1]
  simp only [Option.bind_some]
  rw [e2]
  simp only [Option.bind_some]
  rw [hL]
  simp only [Option.bind_some]
  rw [Qq2 h hW nW]
  simp only [Option.bind_some, bne_self_eq_false, Bool.false_or, show (false == false) = true from rfl, Qff, QpC h.short, h.clean, List.length_nil]
  rw [← hW] at hv hO ⊢
  generalize hLe : limL Qd.mk x = L at *
  have hP : ∃ P : List Int × Int, (if (QcM L W (Qcd L W.length)).2 < 0 then ([], 14) else ((QcM L W (Qcd L W.length)).1.L.take W.length, 0)) = P ∧
      ((P = ([], 14) ∧ ∀ c : List Int, c.length = W.length → NumP c → ¬ ∀ y ∈ L, QeO y c = true) ∨
       (P.2 = 0 ∧ P.1.length = W.length ∧ NumP P.1 ∧ (∀ y ∈ L, QeO y P.1 = true) ∧ ∀ c : List Int, c.length = W.length → NumP c → (∀ y ∈ L, QeO y c = true) → dst W P.1 ≤ dst W c)) := by
    refine ⟨_, rfl, ?_⟩
    by_cases hb : (QcM L W (Qcd L W.length)).2 < 0
    · rw [if_pos hb]
      exact .inl ⟨rfl, fun c hc nc => Qsr hv hb hc nc⟩
    · rw [if_neg hb]
      exact .inr ⟨rfl, Qss hv (by omega) hb⟩
  obtain ⟨P, hPe, hP⟩ := hP
  rw [hPe]
  have hP1 : P.1.length ≤ 1000000 := by
    rcases hP with ⟨rfl, _⟩ | ⟨_, hl, _⟩
    · simp
    · omega
  have hPz : (P.2 == 0) = true → ∀ y ∈ L, QbU y P.1 = true := by
    intro hz y hy
    rcases hP with ⟨rfl, _⟩ | ⟨_, hl, hnp, hk, _⟩
    · cases hz
    · rw [QkS (by rw [hl]; exact (hv y hy).1) hnp]
      exact hk y hy
  have hc : ¬ (decide (((0 : Nat) : Int) > 0) || ((P.2 != 0) && (P.2 != 14))) = true := by
    rcases hP with ⟨rfl, _⟩ | ⟨hz, _⟩
    · decide
    · rw [hz]; decide
  rw [if_neg (by simpa using hc)]
  refine Qfe L.length (fun k => ((k : Int), ((L.take k).all fun y => QbU y W), ((L.take k).all fun y => QbU y O))) (.inl ((L.all fun y => QbU y W), (L.all fun y => QbU y O))) rfl (fun k hk => ?_) ?_ ?_
  · dsimp only
    have t1 : ∀ c : List Int, ((L.take (k + 1)).all fun y => QbU y c) = (((L.take k).all fun y => QbU y c) && QbU L[k] c) := fun c => by
      rw [List.take_succ_eq_append_getElem hk, List.all_append]
      simp
    have hz := hPz
    rw [if_pos (by simpa using hk), Qak hk, t1, t1, Qad hk (by omega)]
    generalize ((L.take k).all fun y => QbU y W) = a
    generalize ((L.take k).all fun y => QbU y O) = b
    have hh : ∀ (c : Bool) (z : List Int), z.length ≤ 1000000 → ((opt (c == true) (some L[k]) default).bind fun t => (opt (c == true) (QaV t z) default)) = some (c && QbU L[k] z) := fun c z hz => by
      cases c
      · rfl
      · simp only [show (true == true) = true from rfl, Qff, Option.bind_some, Qtl hz, Bool.true_and]
    have hh' : ∀ (c : Bool) (z : List Int) (β : Type) (f : Bool → Option β), z.length ≤ 1000000 → ((opt (c == true) (some L[k]) default).bind fun t => (opt (c == true) (QaV t z) default).bind f) = f (c && QbU L[k] z) := fun c z β f hz => by
      rw [← Option.bind_assoc, hh c z hz]
      rfl
    rw [hh' b O _ _ (by omega), hh' a W _ _ (by omega), hh' (P.2 == 0) P.1 _ _ hP1]
    have e3 : ((P.2 == 0) && !((P.2 == 0) && QbU L[k] P.1)) = false := by
      cases hq : (P.2 == 0)
      · rfl
      · rw [hz hq _ (List.getElem_mem hk)]; rfl
    rw [e3, if_neg (by decide)]
    cases a <;> cases b <;> rfl
  · dsimp only
    rw [if_neg (by simp), List.take_length]
  · dsimp only
    have aW : (L.all fun y => QbU y W) = true ↔ _ := QoC (fun y hy => (hv y hy).1) nW
    have aO : (L.all fun y => QbU y O) = true ↔ _ := QoC (fun y hy => by rw [hO]; exact (hv y hy).1) nO
    generalize (L.all fun y => QbU y W) = a at aW ⊢
    generalize (L.all fun y => QbU y O) = b at aO ⊢
    rcases hP with ⟨rfl, hno⟩ | ⟨hz, hl, hnp, hk, hd⟩
    · have ea : a = false := by
        cases a
        · rfl
        · exact absurd (aW.1 rfl) (hno W rfl nW)
      have eb : b = false := by
        cases b
        · rfl
        · exact absurd (aO.1 rfl) (hno O hO nO)
      subst ea; subst eb
      rw [if_pos (by decide)]
      show (Qcc.bind fun t => some t) = some true
      rw [QkQ]; rfl
    · rw [hz, if_neg (by decide)]
      have el : ((P.1.length : Int) != (W.length : Int)) = false := by rw [hl]; simp
      rw [el]
      have hs : a = true → P.1 = W := fun ha => by
        subst ha
        have := hd W rfl nW (aW.1 rfl)
        rw [QpH] at this
        have := Qjt W P.1
        exact QpI W P.1 hl (by omega)
      have e4 : ((opt (((false : Bool) == false) && (a == true)) (Qa2 P.1 W) default)) = some a := by
        cases a
        · rfl
        · rw [hs rfl]
          simp only [show (((false : Bool) == false) && (true == true)) = true from rfl, Qff]
          exact Qq3 (by omega)
      rw [e4]
      simp only [Option.bind_some]
      rw [if_neg (by cases a <;> decide)]
      cases b with
      | false =>
        show (Qcc.bind fun t => some t) = some true
        rw [QkQ]; rfl
      | true =>
        have hle := hd O hO nO (aO.1 rfl)
        have d1 : Qb4 W P.1 = some (dst W P.1) := by rw [Qmn hl.symm (by omega) nW hnp, QmK]
        have d2 : Qb4 W O = some (dst W O) := by rw [Qmn hO.symm (by omega) nW nO, QmK]
        simp only [Bool.not_true, show (false == false) = true from rfl, Qff, d1, d2, Option.bind_some, Bool.false_or]
        rw [show decide (dst W P.1 ≤ dst W O) = true by simpa using hle]
        show (Qcc.bind fun t => some t) = some true
        rw [QkQ]; rfl

end Go.Proofs.YtcdccjagknlmpaaGreatDoor

namespace Go.Proofs.YtcdccjagknlmpaaGreatDoor
open Go.Sim

theorem Qmo {α : Type} {s : List α} {f : α → Str} (hn : (s.map f).Nodup) {k : Nat} {a : α} (h : s[k]? = some a) : QaP s (fun b => f b == f a) = (k : Int) := by
 unfold QaP
 obtain ⟨hk,e⟩ := List.getElem?_eq_some_iff.1 h
 have : s.findIdx? (fun b => f b == f a) = some k := by
  rw [List.findIdx?_eq_some_iff_getElem]
  refine ⟨hk,by rw [e]; simp,fun j hj => ?_⟩
  have := List.pairwise_iff_getElem.1 hn j k (by simp; omega) (by simpa using hk) hj
  rw [List.getElem_map,List.getElem_map,e] at this
  simpa using this
 rw [this]
section
variable {x : Qg}
theorem QeA (hC : QbF (x.Kinds.map ks)) {k : Nat} {t : Ks} (h : (x.Kinds.map ks)[k]? = some t) : ∃ q,x.Kinds[k]? = some q ∧ ks q = t ∧ Qab x t.1 = (k : Int) := by
 rw [List.getElem?_map] at h
 obtain ⟨q,hq,rfl⟩ := Option.map_eq_some_iff.1 h
 have e : (x.Kinds.map ks).map Prod.fst = x.Kinds.map Qi.Name := by rw [List.map_map]; rfl
 have hn : (x.Kinds.map Qi.Name).Nodup := by
  rw [← e,hC.names.2]
  exact List.Nodup.sublist (List.take_sublist _ _) (by decide)
 exact ⟨q,hq,rfl,Qmo hn hq⟩
theorem Qc6 {q : Qi} (hn : ((ks q).2.map Prod.fst).Nodup) {j : Nat} {g : Sg} (h : (ks q).2[j]? = some g) : ∃ f,q.Fields[j]? = some f ∧ sg f = g ∧ Qba q g.1 = (j : Int) := by
 unfold ks at h hn
 dsimp only at h hn
 rw [List.getElem?_map] at h
 obtain ⟨f,hf,rfl⟩ := Option.map_eq_some_iff.1 h
 rw [List.map_map] at hn
 exact ⟨f,hf,rfl,Qmo (f := Qb.Name) hn hf⟩
theorem Qg8 {k j : Nat} {q : Qi} {f : Qb} (hq : x.Kinds[k]? = some q) (hf : q.Fields[j]? = some f) : field? x (k : Int) (j : Int) = some f :=
 QmE (by omega) (by omega) (by rw [QfB]; exact hq) (by rw [QfB]; exact hf)
theorem Qju (_ : QbF (x.Kinds.map ks)) {k : Nat} {q : Qi} (hq : x.Kinds[k]? = some q) : (x.Kinds.map ks)[k]? = some (ks q) := by rw [List.getElem?_map,hq]; rfl
theorem Qq4 (hC : QbF (x.Kinds.map ks)) {k j to : Nat} {q : Qi} {f : Qb} {t : Ks} (hq : x.Kinds[k]? = some q) (hf : q.Fields[j]? = some f) (hk : f.Kind = 7 ∨ f.Kind = 8) (hu : f.Up = nOf)
  (h1 : (ks q).2[1]? = some (sOf t.1)) (ht : (x.Kinds.map ks)[to]? = some t) (hto : to < k) : upIx x (k : Int) (j : Int) = (to : Int) := by
 obtain ⟨hn,r,hr,_⟩ := hC.fields _ (List.mem_of_getElem? (Qju hC hq))
 obtain ⟨g,hg,eg,e1⟩ := Qc6 hn h1
 obtain ⟨qt,hqt,rfl,e2⟩ := QeA hC ht
 have hs : (ks q).2[j]? = some (sg f) := by unfold ks; dsimp only; rw [List.getElem?_map,hf]; rfl
 have hj : 1 < j := by
  rcases Nat.lt_or_ge 1 j with h | h
  ·exact h
  ·have : j = 0 ∨ j = 1 := by omega
   rcases this with rfl | rfl
   ·rw [hr] at hs
    have e0 : sId = sg f := Option.some.inj hs
    have : sId.2.1 = f.Kind := by rw [e0]; rfl
    have h0 : sId.2.1 = 0 := rfl
    omega
   ·rw [h1] at hs
    have e0 : sOf (ks qt).1 = sg f := Option.some.inj hs
    have : (sOf (ks qt).1).2.1 = f.Kind := by rw [e0]; rfl
    have h0 : (sOf (ks qt).1).2.1 = 1 := rfl
    omega
 have gk : g.Kind = 1 := congrArg (fun s : Sg => s.2.1) eg
 have go : g.Of = (ks qt).1 := congrArg (fun s : Sg => s.2.2.1) eg
 have e1' : Qba q nOf = 1 := e1
 unfold upIx
 rw [Qg8 hq hf]
 dsimp only
 rw [if_pos hk,QfB,hq]
 dsimp only
 have hg1 : field? x (k : Int) 1 = some g := Qg8 (j := 1) hq hg
 rw [hu,e1',if_pos (by omega),hg1]
 dsimp only
 rw [if_pos gk]
 unfold Qhq
 rw [go,e2,if_pos (by omega)]
theorem Qst {k j to i : Nat} {qt : Qi} {f g : Qb} (hu : upIx x (k : Int) (j : Int) = (to : Int)) (hqt : x.Kinds[to]? = some qt) (hg : qt.Fields[i]? = some g) (hi : Qba qt f.Of = (i : Int)) : topS x (k : Int) (j : Int) f = (g,true) := by
 unfold topS
 rw [hu,if_neg (by omega),QfB,hqt]
 dsimp only
 rw [hi,Qg8 hqt hg]
theorem QpL (p : Nat → Bool) (a : Nat) : ∀ n,a < n → p a = true → (∀ i,i < n → p i = true → i = a) → ((List.range n).filter p).length = 1
 | 0,h,_,_ => by omega
 | n + 1,h,ha,hu => by
  rw [List.range_succ,List.filter_append,List.length_append]
  by_cases e : a = n
  ·subst e
   have h0 : (List.range a).filter p = [] := by
    rw [List.filter_eq_nil_iff]
    intro i hi hp
    have hi' := List.mem_range.1 hi
    have := hu i (by omega) hp
    omega
   rw [h0]
   simp [ha]
  ·have h1 := QpL p a n (by omega) ha fun i hi hp => hu i (by omega) hp
   have h2 : p n = false := by
    cases hp : p n with
    | false => rfl
    | true => exact absurd (hu n (by omega) hp).symm e
   rw [h1]
   simp [h2]
theorem fst0 {a : Bool} {c : Int} {r : List Qq} (ha : a = false) (hr : QaS r = 0) : QaS (⟨a,c⟩ :: r) = 0 := by
 subst ha; exact hr
theorem Qu9 (hC : QbF (x.Kinds.map ks)) {k : Nat} {q : Qi} (hq : x.Kinds[k]? = some q) {i j : Nat} {f g : Qb} (hi : q.Fields[i]? = some f) (hj : q.Fields[j]? = some g) (e : f.Name = g.Name) : i = j := by
 obtain ⟨hn,_⟩ := hC.fields _ (List.mem_of_getElem? (Qju hC hq))
 have s1 : (ks q).2[i]? = some (sg f) := by unfold ks; dsimp only; rw [List.getElem?_map,hi]; rfl
 have s2 : (ks q).2[j]? = some (sg g) := by unfold ks; dsimp only; rw [List.getElem?_map,hj]; rfl
 obtain ⟨_,_,_,e1⟩ := Qc6 hn s1
 obtain ⟨_,_,_,e2⟩ := Qc6 hn s2
 have : Qba q (sg f).1 = Qba q (sg g).1 := congrArg _ e
 omega
theorem Qq5 (hC : QbF (x.Kinds.map ks)) (hL : ∃ L,x.Lives = [L] ∧ L.Name = Qnu) {k j : Nat} {q : Qi} {f : Qb} (hq : x.Kinds[k]? = some q) (hf : q.Fields[j]? = some f) : Qih x q (k : Int) (j : Int) f = 0 := by
 have hsg := Qju hC hq
 obtain ⟨hn,hd⟩ := hC.fields _ (List.mem_of_getElem? hsg)
 have inv := hC.inv k _ hsg
 have hs : (ks q).2[j]? = some (sg f) := by unfold ks; dsimp only; rw [List.getElem?_map,hf]; rfl
 have hm := List.mem_of_getElem? hs
 have fk : (sg f).2.1 = f.Kind := rfl
 unfold Qih
 by_cases c0 : f.Kind = 0
 ·rw [if_pos c0]
  refine fst0 ?_ rfl
  obtain ⟨r,hr,hr0⟩ := hd
  match j,hs with
  | 0,_ => rfl
  | j + 1,hs =>
   rw [hr,List.getElem?_cons_succ] at hs
   exact absurd c0 (hr0 _ (List.mem_of_getElem? hs))
 rw [if_neg c0]
 by_cases c1 : f.Kind = 1
 ·rw [if_pos c1]
  refine fst0 ?_ rfl
  obtain ⟨t,ht,et⟩ := hC.refs k _ hsg (sg f) hm c1
  have hkl := (List.getElem?_eq_some_iff.1 hsg).1
  have htl : t < (x.Kinds.map ks).length := by omega
  have ht2 := List.getElem?_eq_getElem htl
  have e3 := hC.name_at ht2
  rw [et] at e3
  obtain ⟨_,_,_,e2⟩ := QeA hC ht2
  rw [← Option.some.inj e3] at e2
  have e4 : Qab x f.Of = (t : Int) := e2
  have eu : upIx x (k : Int) (j : Int) = (t : Int) := by
   unfold upIx
   rw [Qg8 hq hf]
   dsimp only
   rw [if_neg (by omega),if_pos c1]
   unfold Qhq
   rw [e4,if_pos (by omega)]
  rw [eu]
  simp
 rw [if_neg c1]
 by_cases c4 : f.Kind = 4
 ·rw [if_pos c4]
  refine fst0 ?_ rfl
  rcases inv.piece.days j _ hs c4 with h | ⟨i,g,hi,hg,e1,e2⟩
  ·have h' : f.Of = [] := h
   rw [h']; rfl
  ·obtain ⟨g',hg',rfl,e3⟩ := Qc6 hn hg
   have e4 : Qba q f.Of = (i : Int) := by
    have : (sg f).2.2.1 = f.Of := rfl
    rw [← this,← e1]; exact e3
   have gk : g'.Kind = 4 := e2
   rw [e4,Qg8 hq hg']
   dsimp only
   rw [gk]
   rw [show decide ((i : Int) < 0) = false by simp,show decide ((i : Int) ≥ (j : Int)) = false by simp; omega]
   simp
 rw [if_neg c4]
 by_cases c5 : f.Kind = 5
 ·rw [if_pos c5]
  refine fst0 ?_ rfl
  obtain ⟨L,hL,hLn⟩ := hL
  have h := inv.piece.fok _ hm
  unfold fokB at h
  simp only [Bool.and_eq_true] at h
  have h2 := h.2.1
  rw [fk,c5] at h2
  have h3 : f.Of = Qnu := by simpa [sg] using h2
  rw [hL,h3]
  simp [hLn]
 rw [if_neg c5]
 by_cases c6 : f.Kind = 6
 ·rw [if_pos c6]
  obtain ⟨o,p,ef,ho,hp,hpart,h1⟩ := inv.k6 _ hm c6
  obtain ⟨qo,hqo,rfl,eo⟩ := QeA hC hp
  have efo : f.Of = (ks qo).1 := congrArg (fun s : Sg => s.2.2.1) ef
  have efn : f.Name = QgB := congrArg (fun s : Sg => s.1) ef
  have es : QlZ x (k : Int) f = ((o : Int),shl x (o : Int) (k : Int) f.Name) := by
   unfold QlZ
   rw [efo,eo,if_neg (by omega)]
  have hno := (hC.fields _ (List.mem_of_getElem? hp)).1
  obtain ⟨jp,hjp⟩ := List.mem_iff_getElem?.1 hpart
  obtain ⟨g,hg,eg,_⟩ := Qc6 hno hjp
  have gk : g.Kind = 7 := congrArg (fun s : Sg => s.2.1) eg
  have go : g.Of = QgB := congrArg (fun s : Sg => s.2.2.1) eg
  have gu : g.Up = nOf := congrArg (fun s : Sg => s.2.2.2) eg
  have gn : g.Name = Qht.1 := congrArg (fun s : Sg => s.1) eg
  have hl : (shl x (o : Int) (k : Int) f.Name).length = 1 := by
   unfold shl
   rw [QfB,hqo]
   dsimp only
   rw [List.length_map]
   refine QpL _ jp _ (List.getElem?_eq_some_iff.1 hg).1 ?_ fun i hi hsh => ?_
   ·unfold Qjk
    rw [hg]
    dsimp only
    rw [gk,go,efn,Qq4 hC hqo hg (.inl gk) gu h1 hsg ho]
    simp
   ·unfold Qjk at hsh
    rw [List.getElem?_eq_getElem hi] at hsh
    simp only [Bool.and_eq_true,beq_iff_eq] at hsh
    have hi' := List.getElem?_eq_getElem hi
    have hs2 : (ks qo).2[i]? = some (sg qo.Fields[i]) := by unfold ks; dsimp only; rw [List.getElem?_map,hi']; rfl
    obtain ⟨e7,_⟩ := (hC.inv o _ hp).k7 _ (List.mem_of_getElem? hs2) hsh.1.1
    refine Qu9 hC hqo hi' hg ?_
    rw [gn]
    exact congrArg (fun s : Sg => s.1) e7
  rw [es]
  refine fst0 (by simp) (fst0 ?_ rfl)
  dsimp only
  rw [hl]; rfl
 rw [if_neg c6]
 by_cases c7 : f.Kind = 7
 ·rw [if_pos c7]
  obtain ⟨ef,to,t,hto,ht,h1,hT⟩ := inv.k7 _ hm c7
  have efo : f.Of = QgB := congrArg (fun s : Sg => s.2.2.1) ef
  have efu : f.Up = nOf := congrArg (fun s : Sg => s.2.2.2) ef
  have hu := Qq4 hC hq hf (.inl c7) efu h1 ht hto
  obtain ⟨qt,hqt,rfl,_⟩ := QeA hC ht
  have hnt := (hC.fields _ (List.mem_of_getElem? ht)).1
  obtain ⟨i,hi⟩ := List.mem_iff_getElem?.1 hT
  obtain ⟨g,hg,eg,e3⟩ := Qc6 hnt hi
  have gk : g.Kind = 6 := congrArg (fun s : Sg => s.2.1) eg
  have go : g.Of = (ks q).1 := congrArg (fun s : Sg => s.2.2.1) eg
  have ht := Qst (f := f) hu hqt hg (by rw [efo]; exact e3)
  obtain ⟨_,_,_,ek⟩ := QeA hC hsg
  rw [ht,hu]
  refine fst0 (by simp) (fst0 ?_ rfl)
  dsimp only
  rw [gk,go,ek]
  simp
 rw [if_neg c7]
 by_cases c8 : f.Kind = 8
 ·rw [if_pos c8]
  obtain ⟨n,to,t,ef,hto,ht,h1,h,hh,hn8,hr⟩ := inv.k8 _ hm c8
  have efo : f.Of = n := congrArg (fun s : Sg => s.2.2.1) ef
  have efu : f.Up = nOf := congrArg (fun s : Sg => s.2.2.2) ef
  have hu := Qq4 hC hq hf (.inr c8) efu h1 ht hto
  have invt := hC.inv to _ ht
  obtain ⟨qt,hqt,rfl,_⟩ := QeA hC ht
  have hnt := (hC.fields _ (List.mem_of_getElem? ht)).1
  obtain ⟨i,hi⟩ := List.mem_iff_getElem?.1 hh
  obtain ⟨g,hg,eg,e3⟩ := Qc6 hnt hi
  have ht := Qst (f := f) hu hqt hg (by rw [efo,← hn8]; exact e3)
  rw [ht,hu]
  refine fst0 (by simp) (fst0 ?_ rfl)
  have hf8 := invt.piece.fok _ hh
  unfold fokB at hf8
  simp only [Bool.and_eq_true,decide_eq_true_eq] at hf8
  obtain ⟨r1,r2,r3,r4⟩ := hr
  have gk : g.Kind = h.2.1 := congrArg (fun s : Sg => s.2.1) eg
  have : g.Kind = 2 ∨ g.Kind = 3 ∨ g.Kind = 4 ∨ g.Kind = 5 ∨ g.Kind = 8 := by omega
  unfold Qsc
  rcases this with e | e | e | e | e <;> rw [e] <;> rfl
 rw [if_neg c8]
theorem QhH (hC : QbF (x.Kinds.map ks)) {k : Nat} {q : Qi} (hq : x.Kinds[k]? = some q) {n : Str} (h : ∃ g ∈ (ks q).2,g.1 = n) (hn : (n = nLow ∨ n = QkL) ∨ n = Ql2) : Qgm x (k : Int) n = false ∧ QeY x (k : Int) n = false := by
 have hsg := Qju hC hq
 obtain ⟨hnd,_⟩ := hC.fields _ (List.mem_of_getElem? hsg)
 obtain ⟨g,hg,rfl⟩ := h
 have hf := (hC.inv k _ hsg).piece.fok _ hg
 obtain ⟨i,hi⟩ := List.mem_iff_getElem?.1 hg
 obtain ⟨f,hf',eg,e3⟩ := Qc6 hnd hi
 have e : Qkf x (k : Int) g.1 = (f,true) := by
  unfold Qkf
  rw [QfB,hq]
  dsimp only
  rw [e3,Qg8 hq hf']
 have fk : f.Kind = 2 := by
  have gk : f.Kind = g.2.1 := congrArg (fun s : Sg => s.2.1) eg
  unfold fokB at hf
  simp only [Bool.and_eq_true] at hf
  have h2 := hf.2.2
  have h3 : ((g.1 == nLow || g.1 == QkL) || g.1 == Ql2) = true := by simpa [or_assoc] using hn
  rw [h3] at h2
  rw [gk]
  simpa using h2
 unfold Qgm QeY
 rw [e]
 dsimp only
 rw [fk]
 simp
theorem QpM (k : Int) : Qgm x k [] = false ∧ QeY x k [] = false := ⟨rfl,rfl⟩
theorem Qq6 (hC : QbF (x.Kinds.map ks)) {n : Int} (hR : Qis x.Kinds n x.Rules) {i : Nat} {r : Qo} (hr : x.Rules[i]? = some r) : Qnv x i r = 0 := by
 obtain ⟨ps,e1,e2,e3⟩ := hR
 have nm : ∀ (j : Nat) (s : Qo),x.Rules[j]? = some s → ∃ kk,(ps.map Prod.fst)[j]? = some kk ∧ ∃ q,x.Kinds[kk]? = some q ∧ QqV (ks q) s := fun j s hs => by
  rw [← e1,List.getElem?_map] at hs
  obtain ⟨p,hp,rfl⟩ := Option.map_eq_some_iff.1 hs
  obtain ⟨_,q,hq,h⟩ := e3 p (List.mem_of_getElem? hp)
  exact ⟨p.1,by rw [List.getElem?_map,hp]; rfl,q,hq,h⟩
 obtain ⟨kk,hkk,q,hq,hrule⟩ := nm i r hr
 obtain ⟨hrk,⟨pr,hpr⟩,hcase⟩ := hrule
 have hsg := Qju hC hq
 obtain ⟨_,_,_,ek⟩ := QeA hC hsg
 have ek' : Qab x r.Kind = (kk : Int) := by rw [hrk]; exact ek
 have hlow := (hC.inv kk _ hsg).piece.low
 have h2 : (Qgm x (kk : Int) r.A = false ∧ QeY x (kk : Int) r.A = false) ∧ (Qgm x (kk : Int) r.B = false ∧ QeY x (kk : Int) r.B = false) ∧ (r.A == r.B) = false := by
  rcases hcase with ⟨ea,eb,hg⟩ | ⟨hg,⟨ea,eb⟩ | ⟨ea,eb⟩⟩
  ·rw [ea,eb]
   exact ⟨QhH hC hq hg (.inl (.inl rfl)),QhH hC hq (hlow hg) (.inl (.inr rfl)),by decide⟩
  ·rw [ea,eb]
   exact ⟨QhH hC hq hg (.inr rfl),QpM _,by decide⟩
  ·rw [ea,eb]
   exact ⟨QpM _,QhH hC hq hg (.inr rfl),by decide⟩
 obtain ⟨⟨a1,a2⟩,⟨b1,b2⟩,ab⟩ := h2
 unfold Qnv
 rw [ek',a1,a2,b1,b2,ab]
 refine fst0 ?_ (fst0 (by simp) (fst0 rfl (fst0 rfl rfl)))
 rw [List.any_eq_false]
 intro s hs
 obtain ⟨j,hj⟩ := List.mem_iff_getElem?.1 hs
 rw [List.getElem?_take] at hj
 split at hj
 ·rename_i hji
  obtain ⟨k2,hk2,q2,hq2,_,⟨ps2,hps2⟩,_⟩ := nm j s hj
  obtain ⟨l1,g1⟩ := List.getElem?_eq_some_iff.1 hk2
  obtain ⟨l2,g2⟩ := List.getElem?_eq_some_iff.1 hkk
  have hlt := List.pairwise_iff_getElem.1 e2 j i l1 l2 hji
  rw [g1,g2] at hlt
  have n1 := hC.name_at hsg
  have n2 := hC.name_at (Qju hC hq2)
  have hl : (x.Kinds.map ks).length ≤ 3 := hC.names.1
  have hk3 := (List.getElem?_eq_some_iff.1 hsg).1
  intro e
  have e' : s.Name = r.Name := by simpa using e
  rw [hps2,hpr] at e'
  have key : ∀ a b : Nat,a < b → b < 3 → ∀ u v : Str,Qir[a]? = some u → Qir[b]? = some v → (u.take 1).length = (v.take 1).length ∧ u.take 1 ≠ v.take 1 := by
   intro a b hab hb u v hu hv
   have : (a = 0 ∧ b = 1) ∨ (a = 0 ∧ b = 2) ∨ (a = 1 ∧ b = 2) := by omega
   rcases this with ⟨rfl,rfl⟩ | ⟨rfl,rfl⟩ | ⟨rfl,rfl⟩ <;> cases hu <;> cases hv <;> decide
  obtain ⟨m1,m2⟩ := key k2 kk hlt (by omega) _ _ n2 n1
  exact m2 (List.append_inj' e' m1).2
 ·cases hj
theorem QjG {k j r e : Int} (h : e = 0) : prob k j r e = [] := if_pos h
theorem Qp3 (hC : QbF (x.Kinds.map ks)) (hL : ∃ L,x.Lives = [L] ∧ L.Name = Qnu) {n : Int} (hR : Qis x.Kinds n x.Rules) (hv : QgA x = 0) : QcG x = [] := by
 unfold QcG
 rw [if_pos hv]
 have h1 : QgC x = [] := by
  obtain ⟨L,hL,_⟩ := hL
  unfold QgC
  rw [List.flatMap_eq_nil_iff]
  intro i hi
  have hi' := List.mem_range.1 hi
  rw [hL] at hi'
  have : i = 0 := by simpa using hi'
  subst this
  unfold QiT
  rw [hL]
  exact QjG rfl
 have h2 : Qit x = [] := by
  unfold Qit
  rw [List.flatMap_eq_nil_iff]
  intro i hi
  unfold QiU
  cases hq : x.Kinds[i]? with
  | none => rfl
  | some q =>
   dsimp only
   have hsg := Qju hC hq
   obtain ⟨hn,r,hr,_⟩ := hC.fields _ (List.mem_of_getElem? hsg)
   obtain ⟨_,_,_,ek⟩ := QeA hC hsg
   rw [QjG,List.nil_append]
   ·unfold Qkg
    rw [List.flatMap_eq_nil_iff]
    intro j hj
    unfold Qhv
    cases hf : q.Fields[j]? with
    | none => rfl
    | some f =>
     refine QjG ?_
     unfold QlG
     have hs : (ks q).2[j]? = some (sg f) := by unfold ks; dsimp only; rw [List.getElem?_map,hf]; rfl
     obtain ⟨_,_,_,e1⟩ := Qc6 hn hs
     have e2 : Qba q f.Name = (j : Int) := e1
     rw [e2,if_neg (by omega)]
     exact Qq5 hC hL hq hf
   ·unfold Ql5
    have ek' : Qab x q.Name = (i : Int) := ek
    refine fst0 (by rw [ek']; simp) (fst0 ?_ rfl)
    unfold ks at hr
    dsimp only at hr
    cases hq2 : q.Fields with
    | nil => rw [hq2] at hr; cases hr
    | cons f fs =>
     rw [hq2,List.map_cons] at hr
     have e0 : sg f = sId := (List.cons.inj hr).1
     have : f.Kind = 0 := congrArg (fun s : Sg => s.2.1) e0
     simp [this]
     omega
 have h3 : QpB x = [] := by
  unfold QpB
  rw [List.flatMap_eq_nil_iff]
  intro i hi
  unfold QkN
  cases hr : x.Rules[i]? with
  | none => rfl
  | some r => exact QjG (Qq6 hC hR hr)
 rw [h1,h2,h3]
 rfl
end
/-- A schema of the generator, or one like it, with other numbers of records. -/
structure GenS (x : Qg) : Prop where
 sz : Sz x
 tiny : Tiny x
 valid : QfX x = true
 chain : QbF (x.Kinds.map ks)
 narrow : ∀ k ∈ x.Kinds,k.Hi - k.Lo ≤ 29
 pos : 1 ≤ x.Kinds.length
 life : ∃ L,x.Lives = [L] ∧ L.Name = Qnu
 rules : ∃ n,Qis x.Kinds n x.Rules
theorem GenS.clean {x : Qg} (h : GenS x) : QnD x := by
 obtain ⟨n,hR⟩ := h.rules
 exact ⟨h.sz.short,Qp3 h.chain h.life hR (QqT h.tiny h.valid),h.tiny.kinds,h.narrow⟩
theorem Qq7 {l : List Int} (hl : ∀ x ∈ l,I64 x) : Ok (Qbt l) GenS := by
 refine (Ok.and (QrR hl) (Ok.and (Qtc hl) (Qtd hl))).weak fun x hx => ?_
 obtain ⟨h1,⟨h2,h3,h4⟩,⟨h5,h6,h9⟩,h7,h8⟩ := hx
 exact ⟨h1.sz (by decide),h2,h3,h5,h6,h9,h7,h8⟩

end Go.Proofs.YtcdccjagknlmpaaGreatDoor

namespace Go.Proofs.YtcdccjagknlmpaaGreatDoor
open Go.Sim

theorem QpN (l w o : List Int) (i0 : ∀ x ∈ l, I64 x) (i1 : ∀ x ∈ w, I64 x) (i2 : ∀ x ∈ o, I64 x) : QcF l w o = some true := by
 obtain ⟨x, ex, hg⟩ := Qq7 i0
 have hx := hg.clean
 have h3 := hx.few
 obtain ⟨W, eW, hW, nW⟩ := Qot (n := (x.Kinds.length : Int)) i1 (by omega) (by omega)
 obtain ⟨O, eO, hO, nO⟩ := Qot (n := (x.Kinds.length : Int)) i2 (by omega) (by omega)
 exact QoL hx (by omega) (fun z hz => by have := nW z hz; omega) (by omega) (fun z hz => by have := nO z hz; omega) ex eW eO

end Go.Proofs.YtcdccjagknlmpaaGreatDoor

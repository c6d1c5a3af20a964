/- CountsLimits: the limits of a schema, both ways, and the plain law. No condition. -/
import Derived.Test.YtcdccjagknlmpaaGreatDoorTyO
import Derived.Test.YtcdccjagknlmpaaGreatDoorEvalA
namespace Go.Proofs.YtcdccjagknlmpaaGreatDoor
open Go.Sim

/-- A loop that collects twice. -/
theorem QlX {β γ : Type} (n : Nat) (g : Nat → List β) (h : Nat → List γ) (B : Nat) (hB : ∀ k, k < n → (g k).length ≤ B ∧ (h k).length ≤ B) (a0 : List β) (b0 : List γ) {body : Int × List β × List γ → Option ((Int × List β × List γ) ⊕ (List β × List γ))}
  (hs : ∀ k, k < n → ∀ (p : List β) (q : List γ), p.length ≤ a0.length + k * B → q.length ≤ b0.length + k * B → body ((k : Int), p, q) = some (.inl (((k + 1 : Nat) : Int), p ++ g k, q ++ h k))) (he : ∀ p q, body ((n : Int), p, q) = some (.inr (p, q))) :
  QF body ((0 : Int), a0, b0) = some (a0 ++ (List.range n).flatMap g, b0 ++ (List.range n).flatMap h) := by
 have hlen : ∀ m, m ≤ n → ((List.range m).flatMap g).length ≤ m * B ∧ ((List.range m).flatMap h).length ≤ m * B := fun m hm =>
  ⟨QdB m g B fun k hk => (hB k (by omega)).1, QdB m h B fun k hk => (hB k (by omega)).2⟩
 have key := Qjl (body := body) n (fun m => ((m : Int), a0 ++ (List.range m).flatMap g, b0 ++ (List.range m).flatMap h)) (a0 ++ (List.range n).flatMap g, b0 ++ (List.range n).flatMap h) (fun k hk => ?_) ?_
 ·simpa using key
 ·have := hlen k (by omega)
  rw [hs k hk _ _ (by rw [List.length_append]; omega) (by rw [List.length_append]; omega), List.range_succ, List.flatMap_append, List.flatMap_append]
  simp
 ·rw [he]

def leastT : Str := [32, 108, 101, 97, 115, 116]
def mostT : Str := [32, 109, 111, 115, 116]
section
variable {τ : Type} (mk : Int → Int → Int → Bool → τ)
def Qjr (i j lo hi : Int) : List τ := [mk i j lo true, mk i j hi false]
def fldL (x : Qh) (i : Nat) (q : Qj) (j : Nat) : List τ := match q.Fields[j]? with | some f => if (f.Kind == 1) = true then Qjr mk (i : Int) (Q5 x f.Of) f.Lo f.Hi else [] | none => []
def kndL (x : Qh) (i : Nat) : List τ := match x.Kinds[i]? with | some q => Qjr mk (i : Int) (-1) q.Lo q.Hi ++ (List.range q.Fields.length).flatMap (fldL mk x i q) | none => []
def limL (x : Qh) : List τ := (List.range x.Kinds.length).flatMap (kndL mk x)
end
def Qjs (s : Str) : List Str := [s ++ leastT, s ++ mostT]
def fldN (q : Qj) (j : Nat) : List Str := match q.Fields[j]? with | some f => if (f.Kind == 1) = true then Qjs ((q.Name ++ [46]) ++ f.Name) else [] | none => []
def kndN (x : Qh) (i : Nat) : List Str := match x.Kinds[i]? with | some q => Qjs q.Name ++ (List.range q.Fields.length).flatMap (fldN q) | none => []
def namL (x : Qh) : List Str := (List.range x.Kinds.length).flatMap (kndN x)
theorem Qm1 {τ : Type} (mk : Int → Int → Int → Bool → τ) (x : Qh) (i : Nat) (q : Qj) (j : Nat) : (fldL mk x i q j).length ≤ 2 ∧ (fldN q j).length ≤ 2 := by
 unfold fldL fldN
 cases q.Fields[j]? with
 | none => simp
 | some f => dsimp only; constructor <;> split <;> simp [Qjr, Qjs]
theorem Qkg {τ : Type} (mk : Int → Int → Int → Bool → τ) {x : Qh} (hv : Qlm x) (i : Nat) : (kndL mk x i).length ≤ 22 ∧ (kndN x i).length ≤ 22 := by
 unfold kndL kndN
 cases hq : x.Kinds[i]? with
 | none => simp
 | some q =>
  have hf := (QjD (hv.kind q (List.mem_of_getElem? hq))).2.1
  have h1 := QdB q.Fields.length (fldL mk x i q) 2 fun j _ => (Qm1 mk x i q j).1
  have h2 := QdB q.Fields.length (fldN q) 2 fun j _ => (Qm1 mk x i q j).2
  simp only [List.length_append, Qjr, Qjs, List.length_cons, List.length_nil]
  omega

theorem Qtn {x : Qh} {p : Qs} (h : p ∈ QeD x) : p.Code ≠ 0 := by
 have hp : ∀ {k j r e : Int}, p ∈ prob k j r e → p.Code ≠ 0 := fun {k j r e} h => by
  unfold prob at h
  split at h
  ·cases h
  ·rw [List.mem_singleton.1 h]; assumption
 unfold QeD at h
 split at h
 ·simp only [List.mem_append] at h
  rcases h with (h | h) | h
  ·obtain ⟨i, _, h⟩ := List.mem_flatMap.1 h
   unfold QgI at h
   split at h
   ·exact hp h
   ·cases h
  ·obtain ⟨i, _, h⟩ := List.mem_flatMap.1 h
   unfold Qhl at h
   split at h
   ·rcases List.mem_append.1 h with h | h
    ·exact hp h
    ·obtain ⟨j, _, h⟩ := List.mem_flatMap.1 h
     unfold QiA at h
     split at h
     ·exact hp h
     ·cases h
   ·cases h
  ·obtain ⟨i, _, h⟩ := List.mem_flatMap.1 h
   unfold QkM at h
   split at h
   ·exact hp h
   ·cases h
 ·rw [List.mem_singleton.1 h]; assumption
theorem Qk4 {x : Qh} (h : QeD x = []) : Qlm x := by
 unfold QeD at h
 by_cases hv : Qgo x = 0
 ·unfold Qgo at hv
  by_cases hs : QhB x = true
  ·exact QkL hs
  ·rw [if_neg hs] at hv; cases hv
 ·rw [if_neg hv] at h; cases h
theorem Qpp {q : Qj} (h : Qfe q = true) : q.Name.length ≤ 12 := by
 simp only [Qfe, Bool.and_eq_true] at h
 exact QbI h.1.1.1
theorem Qot {f : Qc} (h : QaT f = true) : f.Name.length ≤ 12 := by
 simp only [QaT, Bool.and_eq_true] at h
 exact QbI h.1.1
theorem QhE {n : Nat} (h : n ≤ 1000000) : cat n = some () := by unfold cat; rw [if_pos (by omega)]
theorem add13 {s : Str} {a b lo hi : Int} {c0 : List Qi} {c1 : List Str} (hs : s.length ≤ 1000) (h0 : c0.length ≤ 1000000) (h1 : c1.length ≤ 1000000) :
  Qb1 s a b lo hi c0 c1 = some (c0 ++ Qjr Qi.mk a b lo hi, c1 ++ Qjs s) := by
 unfold Qb1
 rw [Qhh (by simp; omega), QhE (by simp; omega), QhE (by simp; omega), Qhh (by simp; omega)]
 rfl
theorem Qto {x : Qh} (h : QlT x) : QdR x = some (match QeD x with | [] => 0 | p :: _ => p.Code) := by
 unfold QdR
 rw [Qtf h]
 simp only [Option.bind_some]
 cases QeD x with
 | nil => rfl
 | cons p l =>
  rw [if_pos (by simp)]
  rfl
noncomputable def limR {τ : Type} (mk : Int → Int → Int → Bool → τ) (x : Qh) : List τ × List Str × Int := match QeD x with | [] => (limL mk x, namL x, 0) | p :: _ => ([], [], p.Code)
theorem Qsy {x : Qh} (h : QlT x) : Qb5 x = some (limR Qi.mk x) := by
 unfold Qb5 limR
 rw [Qto h]
 simp only [Option.bind_some]
 cases hc : QeD x with
 | cons p l =>
  have := Qtn (x := x) (p := p) (by rw [hc]; exact List.mem_cons_self ..)
  dsimp only
  rw [if_pos (by simpa using this)]
 | nil =>
  have hv := Qk4 hc
  have hk := hv.kinds
  dsimp only
  rw [if_neg (by simp)]
  refine (congrArg (Option.bind · _) (QlX x.Kinds.length (kndN x) (kndL Qi.mk x) 22 (fun i _ => ⟨(Qkg Qi.mk hv i).2, (Qkg Qi.mk hv i).1⟩) [] [] (fun i hi p q hp hq => ?_) (fun p q => by rw [if_neg (by simp)]))).trans ?_
  ·simp only [List.length_nil, Nat.zero_add] at hp hq
   have hib : i * 22 ≤ 132 := by omega
   rw [if_pos (by simpa using hi), Qak hi]
   have hK := hv.kind _ (List.getElem_mem hi)
   have hf10 := (QjD hK).2.1
   have hnm := Qpp hK
   simp only [Option.bind_some]
   rw [add13 (by omega) (by omega) (by omega)]
   simp only [Option.bind_some]
   rw [QlX x.Kinds[i].Fields.length (fldL Qi.mk x i x.Kinds[i]) (fldN x.Kinds[i]) 2 (fun j _ => Qm1 _ _ _ _ _) _ _ (fun j hj p' q' hp' hq' => ?_) (fun p' q' => by rw [if_neg (by simp)])]
   ·simp only [Option.bind_some]
    have e1 : kndL Qi.mk x i = Qjr Qi.mk (i : Int) (-1) x.Kinds[i].Lo x.Kinds[i].Hi ++ (List.range x.Kinds[i].Fields.length).flatMap (fldL Qi.mk x i x.Kinds[i]) := by unfold kndL; rw [List.getElem?_eq_getElem hi]
    have e2 : kndN x i = Qjs x.Kinds[i].Name ++ (List.range x.Kinds[i].Fields.length).flatMap (fldN x.Kinds[i]) := by unfold kndN; rw [List.getElem?_eq_getElem hi]
    rw [e1, e2, Q8 hi (by omega), List.append_assoc, List.append_assoc]
   ·simp only [List.length_append, Qjr, Qjs, List.length_cons, List.length_nil] at hp' hq'
    have hfn := Qot ((QjD hK).2.2 _ (List.getElem_mem hj))
    rw [if_pos (by simpa using hj), Qak hj]
    simp only [Option.bind_some]
    have e1 : fldL Qi.mk x i x.Kinds[i] j = if (x.Kinds[i].Fields[j].Kind == 1) = true then Qjr Qi.mk (i : Int) (Q5 x x.Kinds[i].Fields[j].Of) x.Kinds[i].Fields[j].Lo x.Kinds[i].Fields[j].Hi else [] := by unfold fldL; rw [List.getElem?_eq_getElem hj]
    have e2 : fldN x.Kinds[i] j = if (x.Kinds[i].Fields[j].Kind == 1) = true then Qjs ((x.Kinds[i].Name ++ [46]) ++ x.Kinds[i].Fields[j].Name) else [] := by unfold fldN; rw [List.getElem?_eq_getElem hj]
    rw [e1, e2, Q8 hj (by omega)]
    cases (x.Kinds[i].Fields[j].Kind == 1) with
    | false => simp
    | true =>
     rw [if_pos rfl, if_pos rfl, if_pos rfl, QhE (by simp; omega), QhE (by simp; omega), Qek (by omega)]
     simp only [Option.bind_some]
     rw [add13 (by simp; omega) (by omega) (by omega)]
     rfl
  ·rfl
theorem Qrs {x : Qh} (h : QlT x) : Qgl x = some (limR QD.mk x) := by
 unfold Qgl limR
 rw [Qsx h]
 simp only [Option.bind_some]
 cases hc : QeD x with
 | cons p l =>
  rw [if_pos (by simp)]
  rfl
 | nil =>
  have hv := Qk4 hc
  have hk := hv.kinds
  rw [if_neg (by simp)]
  refine (congrArg (Option.bind · _) (QlX x.Kinds.length (kndN x) (kndL QD.mk x) 22 (fun i _ => ⟨(Qkg QD.mk hv i).2, (Qkg QD.mk hv i).1⟩) [] [] (fun i hi p q hp hq => ?_) (fun p q => by rw [if_neg (by simp)]))).trans ?_
  ·simp only [List.length_nil, Nat.zero_add] at hp hq
   have hib : i * 22 ≤ 132 := by omega
   rw [if_pos (by simpa using hi), Qak hi]
   have hK := hv.kind _ (List.getElem_mem hi)
   have hf10 := (QjD hK).2.1
   have hnm := Qpp hK
   simp only [Option.bind_some]
   rw [Qhh (by simp; omega), QhE (by simp; omega), QhE (by simp; omega), Qhh (by simp; omega)]
   simp only [Option.bind_some]
   rw [QlX x.Kinds[i].Fields.length (fldL QD.mk x i x.Kinds[i]) (fldN x.Kinds[i]) 2 (fun j _ => Qm1 _ _ _ _ _) _ _ (fun j hj p' q' hp' hq' => ?_) (fun p' q' => by rw [if_neg (by simp)])]
   ·simp only [Option.bind_some]
    have e1 : kndL QD.mk x i = Qjr QD.mk (i : Int) (-1) x.Kinds[i].Lo x.Kinds[i].Hi ++ (List.range x.Kinds[i].Fields.length).flatMap (fldL QD.mk x i x.Kinds[i]) := by unfold kndL; rw [List.getElem?_eq_getElem hi]
    have e2 : kndN x i = Qjs x.Kinds[i].Name ++ (List.range x.Kinds[i].Fields.length).flatMap (fldN x.Kinds[i]) := by unfold kndN; rw [List.getElem?_eq_getElem hi]
    rw [e1, e2, Q8 hi (by omega), List.append_assoc, List.append_assoc]
    rfl
   ·simp only [List.length_append, List.length_cons, List.length_nil] at hp' hq'
    have hfn := Qot ((QjD hK).2.2 _ (List.getElem_mem hj))
    rw [if_pos (by simpa using hj), Qak hj]
    simp only [Option.bind_some]
    have e1 : fldL QD.mk x i x.Kinds[i] j = if (x.Kinds[i].Fields[j].Kind == 1) = true then Qjr QD.mk (i : Int) (Q5 x x.Kinds[i].Fields[j].Of) x.Kinds[i].Fields[j].Lo x.Kinds[i].Fields[j].Hi else [] := by unfold fldL; rw [List.getElem?_eq_getElem hj]
    have e2 : fldN x.Kinds[i] j = if (x.Kinds[i].Fields[j].Kind == 1) = true then Qjs ((x.Kinds[i].Name ++ [46]) ++ x.Kinds[i].Fields[j].Name) else [] := by unfold fldN; rw [List.getElem?_eq_getElem hj]
    rw [e1, e2, Q8 hj (by omega)]
    cases (x.Kinds[i].Fields[j].Kind == 1) with
    | false => simp
    | true =>
     rw [if_pos rfl, if_pos rfl, if_pos rfl, Qe4 (by omega)]
     simp only [Option.bind_some]
     rw [Qhh (by simp; omega), QhE (by simp; omega), QhE (by simp; omega), QhE (by simp; omega), QhE (by simp; omega), Qhh (by simp; omega)]
     rfl
  ·rfl

def Qm2 (l : Qi) : QD := ⟨l.A, l.B, l.Mul, l.Least⟩
theorem Qu4 (x : Qh) : (limL Qi.mk x).map Qm2 = limL QD.mk x := by
 unfold limL
 rw [List.map_flatMap]
 congr 1
 funext i
 unfold kndL
 cases x.Kinds[i]? with
 | none => rfl
 | some q =>
  dsimp only
  rw [List.map_append, List.map_flatMap]
  congr 1
  congr 1
  funext j
  unfold fldL
  cases q.Fields[j]? with
  | none => rfl
  | some f => dsimp only; split <;> rfl
theorem Qtp (x : Qh) : (limR Qi.mk x).1.map Qm2 = (limR QD.mk x).1 ∧ (limR Qi.mk x).2 = (limR QD.mk x).2 := by
 unfold limR
 cases QeD x with
 | nil => exact ⟨Qu4 x, rfl⟩
 | cons p l => exact ⟨rfl, rfl⟩
theorem Qtq {τ : Type} (mk : Int → Int → Int → Bool → τ) (x : Qh) : (limR mk x).1.length ≤ 1000 ∧ (limR mk x).2.1.length ≤ 1000 := by
 unfold limR
 cases hc : QeD x with
 | cons p l => simp
 | nil =>
  have hv := Qk4 hc
  have hk := hv.kinds
  have h1 := QdB x.Kinds.length (kndL mk x) 22 fun i _ => (Qkg mk hv i).1
  have h2 := QdB x.Kinds.length (kndN x) 22 fun i _ => (Qkg mk hv i).2
  refine ⟨?_, ?_⟩
  ·show (limL mk x).length ≤ _; unfold limL; omega
  ·show (namL x).length ≤ _; unfold namL; omega
theorem Qo2 {a : List Str} (ha : a.length ≤ 1000000) : Qew a a = some true := by
 unfold Qew
 rw [if_neg (by simp), QdS a (fun _ => true) false (fun k hk => ?_) (if_neg (by simp))]
 ·rw [if_pos (by simp)]
  rfl
 ·rw [if_pos rfl, if_pos (by simpa using hk), Qak hk]
  simp only [Option.bind_some]
  rw [if_neg (by simp), Q8 hk (by omega)]

theorem QqB (l : List Int) (a h b : Int) (i0 : ∀ x ∈ l, I64 x) (i1 : I64 a) (i2 : I64 h) (i3 : I64 b) : Qdi l a h b = some true := by
 have key : Ok (Qdi l a h b) (fun r => r = true) := by
  unfold Qdi
  refine (Qr7 i0).bind fun x hx => ?_
  refine (Qr8 hx i1 i2 i3).bind fun y hy => ?_
  obtain ⟨C, hC⟩ : ∃ C, [x, y, (Qh.mk (0:Int) ([] : (List Qj)) ([] : (List Qo)) ([] : (List Qn)))] = C := ⟨_, rfl⟩
  have hCs : ∀ z ∈ C, QlT z := by
   rw [← hC]
   intro z hz
   simp only [List.mem_cons, List.not_mem_nil, or_false] at hz
   rcases hz with rfl | rfl | rfl
   ·exact (hx.sz (by decide)).short
   ·exact hy.short
   ·exact ⟨⟨by simp, fun k hk => by cases hk⟩, ⟨⟨by simp, fun k hk => by cases hk⟩, ⟨by simp, fun k hk => by cases hk⟩, by simp⟩, by simp, by simp⟩
  have hCn : C.length = 3 := by rw [← hC]; rfl
  rw [hC]
  rw [QdS C (fun _ => true) false (fun j hj => ?_) (if_neg (by rw [hCn]; simp))]
  ·rw [if_pos (by simp)]
   show Ok (QeB.bind fun t83 => some t83) _
   rw [Qrr]; exact Ok.mk rfl
  ·rw [if_pos rfl, if_pos (by simp; omega), Qak hj]
   have hz := hCs _ (List.getElem_mem hj)
   obtain ⟨e1, e2⟩ := Qtp C[j]
   obtain ⟨n1, n2⟩ := Qtq Qi.mk C[j]
   have el : (limR QD.mk C[j]).1.length = (limR Qi.mk C[j]).1.length := by rw [← e1, List.length_map]
   simp only [Option.bind_some, Qsy hz, Qrs hz, ← e2, el, bne_self_eq_false, Bool.or_self, show (false == false) = true from rfl, Qs8, Qo2 (show (limR Qi.mk C[j]).2.1.length ≤ 1000000 by omega), Bool.not_true]
   rw [if_neg (by decide)]
   rw [QdS (limR Qi.mk C[j]).1 (fun _ => true) false (fun i hi => ?_) (if_neg (by simp))]
   ·rw [if_pos (by simp), Q8 hj (by omega)]
    rfl
   ·have hi2 : i < (limR QD.mk C[j]).1.length := by omega
    have ep : (limR QD.mk C[j]).1[i] = Qm2 (limR Qi.mk C[j]).1[i] := by simp [← e1]
    rw [if_pos rfl, if_pos (by simpa using hi), Qak hi, Qak hi2]
    have ef : Qiv (limR Qi.mk C[j]).1[i] = some (Qm2 (limR Qi.mk C[j]).1[i]) := rfl
    simp only [Option.bind_some, ef, ep]
    rw [if_neg (by simp [Qhd]), Q8 hi (by omega)]
 obtain ⟨r, hr, rfl⟩ := key
 exact hr

end Go.Proofs.YtcdccjagknlmpaaGreatDoor

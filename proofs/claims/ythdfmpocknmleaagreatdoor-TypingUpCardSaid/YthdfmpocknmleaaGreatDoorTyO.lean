/- typing.Check, as a plain function. No condition. -/
import Derived.Test.YthdfmpocknmleaaGreatDoorTyN
namespace Go.Proofs.YthdfmpocknmleaaGreatDoor
open Go.Sim

theorem rule_is {x : Sapi_Schema} {i : Nat} {r : Sapi_Rule} (hx : Few x) (hl : x.Rules.length ≤ 1000) (hi : i < x.Rules.length) (hr : x.Rules[i]? = some r) : ftyping_rule x (i : Int) = some (ruleE x i r) := by
  unfold ftyping_rule
  rw [idx_nat, hr]
  simp only [Option.bind_some]
  have hs : Sim.sub x.Rules 0 (i : Int) = some (x.Rules.take i) := by
    unfold Sim.sub
    rw [if_pos ⟨by decide, by omega, by omega⟩]; simp
  rw [hs]
  simp only [Option.bind_some]
  rw [containsRule (f := fun x0 => ftyping_ruleq1 x0 r) (p := fun s => s.Name == r.Name) (by rw [List.length_take]; omega) (fun s _ => rfl)]
  simp only [Option.bind_some]
  rw [typing_Kind_is (by have := hx.1; omega)]
  simp only [Option.bind_some]
  have hk := (kindIx_lt x r.Kind).2
  let st : Nat → Int × Bool × Bool := fun n => match n with
    | 0 => (0, decide (kindIx x r.Kind < 0), false)
    | 1 => (1, decide (kindIx x r.Kind < 0) || missS x (kindIx x r.Kind) r.A, false || wrongS x (kindIx x r.Kind) r.A)
    | _ => (2, (decide (kindIx x r.Kind < 0) || missS x (kindIx x r.Kind) r.A) || missS x (kindIx x r.Kind) r.B, (false || wrongS x (kindIx x r.Kind) r.A) || wrongS x (kindIx x r.Kind) r.B)
  refine for_bind 2 st ((st 2).2.1, (st 2).2.2) rfl (fun n hn => ?_) rfl ?_
  · have : n = 0 ∨ n = 1 := by omega
    rcases this with rfl | rfl
    · have h := rule_step (x := x) (k := kindIx x r.Kind) (n := r.A) (a := decide (kindIx x r.Kind < 0)) (b := false) hx hk id
      show (Option.bind (if _ then _ else _) _ : Option _) = _
      exact (congrArg (fun o => Option.bind o (fun p55 : Bool × Bool => some (Sum.inl ((IntKind.i64.wrap ((0:Int) + (1:Int))), p55.1, p55.2)))) h : _)
    · have h := rule_step (x := x) (k := kindIx x r.Kind) (n := r.B) (a := decide (kindIx x r.Kind < 0) || missS x (kindIx x r.Kind) r.A) (b := false || wrongS x (kindIx x r.Kind) r.A) hx hk id
      show (Option.bind (if _ then _ else _) _ : Option _) = _
      exact (congrArg (fun o => Option.bind o (fun p55 : Bool × Bool => some (Sum.inl ((IntKind.i64.wrap ((1:Int) + (1:Int))), p55.1, p55.2)))) h : _)
  · dsimp only
    rw [first_is (by simp)]
    simp [st, ruleE]

/-- A loop that collects. -/
theorem col_loop {β : Type} (n : Nat) (g : Nat → List β) (B : Nat) (hB : ∀ k, k < n → (g k).length ≤ B) (a0 : List β) {body : Int × List β → Option ((Int × List β) ⊕ List β)}
    (hs : ∀ k, k < n → ∀ acc : List β, acc.length ≤ a0.length + k * B → body ((k : Int), acc) = some (.inl (((k + 1 : Nat) : Int), acc ++ g k))) (he : ∀ acc, body ((n : Int), acc) = some (.inr acc)) :
    tailrec body ((0 : Int), a0) = some (a0 ++ (List.range n).flatMap g) := by
  have hlen : ∀ m, m ≤ n → ((List.range m).flatMap g).length ≤ m * B := fun m => by
    induction m with
    | zero => intro _; simp
    | succ m ih =>
      intro hm
      rw [List.range_succ, List.flatMap_append, List.length_append, Nat.succ_mul]
      have h1 := ih (by omega)
      have h2 := hB m (by omega)
      simp only [List.flatMap_cons, List.flatMap_nil, List.append_nil]
      omega
  have h := tailrec_for (body := body) n (fun m => ((m : Int), a0 ++ (List.range m).flatMap g)) (a0 ++ (List.range n).flatMap g) (fun k hk => ?_) ?_
  · simpa using h
  · rw [hs k hk _ (by rw [List.length_append]; have := hlen k (by omega); omega), List.range_succ, List.flatMap_append]
    simp
  · rw [he]

def prob (k j r e : Int) : List Styping_Problem := if e = 0 then [] else [⟨k, j, r, e⟩]
theorem prob_len (k j r e : Int) : (prob k j r e).length ≤ 1 := by unfold prob; split <;> simp
theorem add_is {k j r e : Int} {l : List Styping_Problem} (h : l.length ≤ 1000000000) : ftyping_Checkq1 k j r e l = some (l ++ prob k j r e) := by
  unfold ftyping_Checkq1 prob
  by_cases he : e = 0
  · rw [if_neg (by simp [he]), if_pos he, List.append_nil]; rfl
  · rw [if_pos (by simpa using he), if_neg he, rm_le (by rw [List.length_singleton]; omega)]; rfl
def lifeE (x : Sapi_Schema) (i : Nat) (l : Sapi_Life) : Int := firstS [⟨(x.Lives.take i).any fun m => m.Name == l.Name, 7⟩]
def fieldE (x : Sapi_Schema) (q : Sapi_Kind) (k j : Int) (f : Sapi_Field) : Int := if fieldIx q f.Name < j then 7 else leadE x q k j f
def lifeP (x : Sapi_Schema) (i : Nat) : List Styping_Problem := match x.Lives[i]? with | some l => prob (-1) (i : Int) (-1) (lifeE x i l) | none => []
def fieldP (x : Sapi_Schema) (i : Nat) (q : Sapi_Kind) (j : Nat) : List Styping_Problem := match q.Fields[j]? with | some f => prob (i : Int) (j : Int) (-1) (fieldE x q (i : Int) (j : Int) f) | none => []
def fieldsP (x : Sapi_Schema) (i : Nat) (q : Sapi_Kind) : List Styping_Problem := (List.range q.Fields.length).flatMap (fieldP x i q)
def kindP (x : Sapi_Schema) (i : Nat) : List Styping_Problem := match x.Kinds[i]? with | some q => prob (i : Int) (-1) (-1) (kindE x (i : Int) q) ++ fieldsP x i q | none => []
def ruleP (x : Sapi_Schema) (i : Nat) : List Styping_Problem := match x.Rules[i]? with | some r => prob (-1) (-1) (i : Int) (ruleE x i r) | none => []
def livesP (x : Sapi_Schema) : List Styping_Problem := (List.range x.Lives.length).flatMap (lifeP x)
def kindsP (x : Sapi_Schema) : List Styping_Problem := (List.range x.Kinds.length).flatMap (kindP x)
def rulesP (x : Sapi_Schema) : List Styping_Problem := (List.range x.Rules.length).flatMap (ruleP x)
theorem lifeP_len (x : Sapi_Schema) (i : Nat) : (lifeP x i).length ≤ 1 := by unfold lifeP; cases x.Lives[i]? with | none => simp | some f => exact prob_len _ _ _ _
theorem fieldP_len (x : Sapi_Schema) (i : Nat) (q : Sapi_Kind) (j : Nat) : (fieldP x i q j).length ≤ 1 := by unfold fieldP; cases q.Fields[j]? with | none => simp | some f => exact prob_len _ _ _ _
theorem ruleP_len (x : Sapi_Schema) (i : Nat) : (ruleP x i).length ≤ 1 := by unfold ruleP; cases x.Rules[i]? with | none => simp | some f => exact prob_len _ _ _ _
/-- All problems. -/
def checkS (x : Sapi_Schema) : List Styping_Problem := if validE x = 0 then livesP x ++ kindsP x ++ rulesP x else [⟨-1, -1, -1, validE x⟩]
theorem range_len {β : Type} (n : Nat) (g : Nat → List β) (B : Nat) (hB : ∀ k, k < n → (g k).length ≤ B) : ((List.range n).flatMap g).length ≤ n * B := by
  induction n with
  | zero => simp
  | succ n ih =>
    rw [List.range_succ, List.flatMap_append, List.length_append, Nat.succ_mul]
    have h1 := ih fun k hk => hB k (by omega)
    have h2 := hB n (by omega)
    simp only [List.flatMap_cons, List.flatMap_nil, List.append_nil]
    omega
/-- What Check needs of a schema: its lists are short. -/
structure Short (x : Sapi_Schema) : Prop where
  few : Few x
  fine : Fine x
  lives : x.Lives.length ≤ 1000
  rules : x.Rules.length ≤ 1000
theorem Sz.short {x : Sapi_Schema} (h : Sz x) : Short x := ⟨h.few, h.fine, by have := h.2.1.1; omega, by have := h.2.2; omega⟩
theorem fieldsP_len {x : Sapi_Schema} {i : Nat} {q : Sapi_Kind} (h : q.Fields.length ≤ 1000) : (fieldsP x i q).length ≤ 1000 := by
  have := range_len q.Fields.length (fieldP x i q) 1 (fun j _ => fieldP_len x i q j)
  unfold fieldsP; omega
theorem Check_is {x : Sapi_Schema} (h : Short x) : ftyping_Check x = some (checkS x) := by
  obtain ⟨hx, hfine, hlv, hrl⟩ := h
  unfold ftyping_Check
  rw [Valid_is hfine]
  simp only [Option.bind_some]
  unfold checkS
  by_cases hv : validE x = 0
  · rw [if_neg (by simp [hv]), if_pos hv]
    have b1 : (livesP x).length ≤ 1000 := by
      have := range_len x.Lives.length (lifeP x) 1 (fun j _ => lifeP_len x j)
      unfold livesP; omega
    have kl : ∀ k, k < x.Kinds.length → (kindP x k).length ≤ 1001 := fun k hk => by
      unfold kindP
      rw [List.getElem?_eq_getElem hk]
      dsimp only
      have := fieldsP_len (x := x) (i := k) (hx.2 _ (List.getElem_mem hk))
      have := prob_len k (-1) (-1) (kindE x k x.Kinds[k])
      rw [List.length_append]; omega
    have b2 : (kindsP x).length ≤ 1001000 := by
      have := range_len x.Kinds.length _ 1001 kl
      have := hx.1
      unfold kindsP; omega
    have hk1 := hx.1
    rw [col_loop x.Lives.length (lifeP x) 1 (fun j _ => lifeP_len x j) [] (fun k hk acc hacc => ?_) (fun acc => if_neg (by simp))]
    · rw [show ([] : List Styping_Problem) ++ (List.range x.Lives.length).flatMap (lifeP x) = livesP x from rfl]
      simp only [Option.bind_some]
      rw [col_loop x.Kinds.length (kindP x) 1001 kl (livesP x) (fun k hk acc hacc => ?_) (fun acc => if_neg (by simp))]
      · rw [show livesP x ++ (List.range x.Kinds.length).flatMap (kindP x) = livesP x ++ kindsP x from rfl]
        simp only [Option.bind_some]
        rw [col_loop x.Rules.length (ruleP x) 1 (fun j _ => ruleP_len x j) (livesP x ++ kindsP x) (fun k hk acc hacc => ?_) (fun acc => if_neg (by simp))]
        · rfl
        · rw [List.length_append] at hacc
          rw [if_pos (by simpa using hk)]
          dsimp only
          rw [rule_is hx hrl hk (List.getElem?_eq_getElem hk)]
          simp only [Option.bind_some]
          rw [add_is (by omega)]
          simp only [Option.bind_some]
          unfold ruleP
          rw [w64_succ hk (by omega), List.getElem?_eq_getElem hk]
      · have hq := idx_lt hk
        have hqf := hx.2 _ (List.getElem_mem hk)
        rw [if_pos (by simpa using hk)]
        dsimp only
        rw [hq]
        simp only [Option.bind_some]
        rw [kind_is hx hq]
        simp only [Option.bind_some]
        rw [add_is (by omega)]
        simp only [Option.bind_some]
        have pl := prob_len k (-1) (-1) (kindE x k x.Kinds[k])
        rw [col_loop x.Kinds[k].Fields.length (fieldP x k x.Kinds[k]) 1 (fun j _ => fieldP_len x k _ j) _ (fun j hj acc2 hacc2 => ?_) (fun acc => if_neg (by simp))]
        · simp only [Option.bind_some]
          unfold kindP
          rw [w64_succ hk (by omega), List.getElem?_eq_getElem hk, List.append_assoc]
          rfl
        · rw [List.length_append] at hacc2
          rw [if_pos (by simpa using hj)]
          dsimp only
          rw [idx_lt hj]
          simp only [Option.bind_some]
          rw [typing_Field_is (by omega)]
          simp only [Option.bind_some]
          rw [first_is (by simp)]
          simp only [Option.bind_some]
          have hf : field? x (k : Int) (j : Int) = some x.Kinds[k].Fields[j] := field_of (by omega) (by omega) hq (idx_lt hj)
          have e : (if ((fChecks x.Kinds[k].Fields[j].Kind).isSome && (firstS [⟨decide (fieldIx x.Kinds[k] x.Kinds[k].Fields[j].Name < (j : Int)), 7⟩] == 0)) = true then (callO (SX_check.mk (fChecks x.Kinds[k].Fields[j].Kind)).check ⟨x, k, j, x.Kinds[k].Fields[j]⟩).bind fun t97 => some t97 else some (firstS [⟨decide (fieldIx x.Kinds[k] x.Kinds[k].Fields[j].Name < (j : Int)), 7⟩])) = some (fieldE x x.Kinds[k] k j x.Kinds[k].Fields[j]) := by
            unfold fieldE
            by_cases hd : fieldIx x.Kinds[k] x.Kinds[k].Fields[j].Name < (j : Int)
            · rw [if_pos hd, if_neg (by simp [firstS, hd])]
              simp [firstS, hd]
            · rw [if_neg hd]
              have e0 : firstS [⟨decide (fieldIx x.Kinds[k] x.Kinds[k].Fields[j].Name < (j : Int)), 7⟩] = 0 := by simp [firstS, hd]
              rw [e0]
              cases hs : (fChecks x.Kinds[k].Fields[j].Kind).isSome with
              | true => rw [if_pos (by simp), chk_some hx hlv hq hf hs]; rfl
              | false => rw [if_neg (by simp), chk_none hs]
          rw [e]
          simp only [Option.bind_some]
          rw [add_is (by omega)]
          simp only [Option.bind_some]
          unfold fieldP
          rw [w64_succ hj (by omega), List.getElem?_eq_getElem hj]
    · rw [List.length_nil] at hacc
      rw [if_pos (by simpa using hk)]
      dsimp only
      rw [idx_lt hk]
      simp only [Option.bind_some]
      have hs : Sim.sub x.Lives 0 (k : Int) = some (x.Lives.take k) := by
        unfold Sim.sub
        rw [if_pos ⟨by decide, by omega, by omega⟩]; simp
      rw [hs]
      simp only [Option.bind_some]
      rw [containsLife (f := fun x0 => ftyping_Checkq2 x0 x.Lives[k]) (p := fun m => m.Name == x.Lives[k].Name) (by rw [List.length_take]; omega) (fun l _ => rfl)]
      simp only [Option.bind_some]
      rw [first_is (by simp)]
      simp only [Option.bind_some]
      rw [add_is (by omega)]
      simp only [Option.bind_some]
      unfold lifeP
      rw [w64_succ hk (by omega), List.getElem?_eq_getElem hk]
      rfl
  · rw [if_pos (by simpa using hv), if_neg hv]

end Go.Proofs.YthdfmpocknmleaaGreatDoor

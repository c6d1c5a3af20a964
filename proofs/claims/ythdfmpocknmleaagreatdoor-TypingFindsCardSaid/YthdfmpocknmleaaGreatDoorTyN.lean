/- typing.Check: the error of a field, of a kind, of a rule, as plain functions. No condition. -/
import Derived.Test.YthdfmpocknmleaaGreatDoorTyA
namespace Go.Proofs.YthdfmpocknmleaaGreatDoor
open Go.Sim

def firstS : List Styping_fault → Int
  | [] => 0
  | f :: r => if f.is = true then f.code else firstS r
theorem first_is {l : List Styping_fault} (hl : l.length ≤ 1000) : ftyping_first l = some (firstS l) := by
  have key : Ok (ftyping_first l) (fun r => r = firstS l) := by
    unfold ftyping_first
    refine Ok.bind (P := fun e : Unit ⊕ Int => (match e with | .inl _ => 0 | .inr r => r) = firstS l) (Ok.loop (fun m s => 0 ≤ s ∧ s + m = l.length ∧ firstS (l.drop s.toNat) = firstS l) l.length ⟨Int.le_refl _,by omega,by simp⟩ fun m s hs => ?_) fun e he => by cases e <;> exact Ok.mk he
    obtain ⟨h1,h2,h3⟩ := hs
    obtain ⟨k,rfl⟩ := Int.eq_ofNat_of_zero_le h1
    rw [Int.toNat_natCast] at h3
    refine Ok.ite (fun hk => ?_) (fun hk => ?_)
    · have hk' : k < l.length := by simpa using hk
      rw [idx_lt hk']
      simp only [Option.bind_some]
      rw [List.drop_eq_getElem_cons hk',firstS] at h3
      refine Ok.ite (fun hi => Ok.mk ?_) (fun hi => Ok.mk ⟨m - 1,by omega,?_⟩)
      · rw [if_pos hi] at h3; exact h3
      · rw [if_neg (by rw [hi]; decide)] at h3
        rw [w64_succ hk' (by omega)]
        exact ⟨by omega,by omega,by rw [Int.toNat_natCast]; exact h3⟩
    · have hk' : ¬ k < l.length := by simpa using hk
      rw [List.drop_of_length_le (by omega)] at h3
      exact Ok.mk h3
  obtain ⟨r,hr,rfl⟩ := key
  exact hr

/-- The field above to which Of leads. -/
def topS (x : Sapi_Schema) (k j : Int) (f : Sapi_Field) : Sapi_Field × Bool :=
  if upIx x k j < 0 then (zeroField,false)
  else match idx x.Kinds (upIx x k j) with
    | none => (zeroField,false)
    | some q => match field? x (upIx x k j) (fieldIx q f.Of) with | some g => (g,true) | none => (zeroField,false)
def rightS (g : Sapi_Field) : Bool := ((((g.Kind == 2) || (g.Kind == 3)) || (g.Kind == 4)) || (g.Kind == 5)) || (g.Kind == 8)
/-- The error of a field whose name is not there twice. -/
def leadE (x : Sapi_Schema) (q : Sapi_Kind) (k j : Int) (f : Sapi_Field) : Int :=
  if f.Kind = 0 then firstS [⟨decide (j > 0),13⟩]
  else if f.Kind = 1 then firstS [⟨decide (upIx x k j < 0),12⟩]
  else if f.Kind = 4 then firstS [⟨(f.Of != []) && (((decide (fieldIx q f.Of < 0)) || (decide (fieldIx q f.Of ≥ j))) || ((match field? x k (fieldIx q f.Of) with | some g => (g,true) | none => (zeroField,false)).1.Kind != 4)),12⟩]
  else if f.Kind = 5 then firstS [⟨!(x.Lives.any fun l => l.Name == f.Of),12⟩]
  else if f.Kind = 6 then firstS [⟨decide ((sumIx x k f).1 < 0),12⟩,⟨((sumIx x k f).2.length : Int) != 1,11⟩]
  else if f.Kind = 7 then firstS [⟨decide (upIx x k j < 0),12⟩,⟨((!(topS x k j f).2) || ((topS x k j f).1.Kind != 6)) || (kindIx x (topS x k j f).1.Of != k),13⟩]
  else if f.Kind = 8 then firstS [⟨decide (upIx x k j < 0),12⟩,⟨(!(topS x k j f).2) || (!rightS (topS x k j f).1),13⟩]
  else 0
theorem upIx_lt (x : Sapi_Schema) (k j : Int) (hk : 0 ≤ k) : upIx x k j < k ∧ -1 ≤ upIx x k j := by
  have hr : ∀ g,refIx x k g < k ∧ -1 ≤ refIx x k g := fun g => by
    have := kindIx_lt x g.Of
    unfold refIx; split <;> omega
  unfold upIx
  cases field? x k j with
  | none => exact ⟨by dsimp only; omega,by dsimp only; omega⟩
  | some f =>
    dsimp only
    split
    · split
      · omega
      · split
        · split
          · split
            · exact hr _
            · omega
          · omega
        · omega
    · split
      · exact hr _
      · omega
theorem top_is {x : Sapi_Schema} {k j : Int} {f : Sapi_Field} (hx : Few x) (hk : 0 ≤ k) (hkl : k < x.Kinds.length) : ftyping_spot_top ⟨x,k,j,f⟩ = some (topS x k j f) := by
  unfold ftyping_spot_top topS
  rw [typing_Up_is hx]
  simp only [Option.bind_some]
  by_cases hu : upIx x k j < 0
  · rw [if_pos (by simpa using hu),if_pos hu]; rfl
  · rw [if_neg (by simpa using hu),if_neg hu]
    have h1 := upIx_lt x k j hk
    obtain ⟨q,hq,hqm⟩ := idx_some (l := x.Kinds) (i := upIx x k j) (by omega) (by omega)
    rw [hq]
    simp only [Option.bind_some]
    rw [typing_Field_is (by have := hx.2 q hqm; omega)]
    simp only [Option.bind_some]
    rw [at_is]
    cases field? x (upIx x k j) (fieldIx q f.Of) <;> rfl
theorem lost_is {x : Sapi_Schema} {k j : Int} {f : Sapi_Field} (hx : Few x) : ftyping_spot_lost ⟨x,k,j,f⟩ = some (decide (upIx x k j < 0)) := by
  unfold ftyping_spot_lost
  rw [typing_Up_is hx]; rfl
theorem chk_some {x : Sapi_Schema} {k j : Int} {q : Sapi_Kind} {f : Sapi_Field} (hx : Few x) (hl : x.Lives.length ≤ 1000) (hq : idx x.Kinds k = some q) (hf : field? x k j = some f) (h : (fChecks f.Kind).isSome = true) : callO (SX_check.mk (fChecks f.Kind)).check ⟨x,k,j,f⟩ = some (leadE x q k j f) := by
  obtain ⟨q',hk,hj,hq',hqf,hqm,hkl,hjl⟩ := field_some hf
  rw [hq] at hq'; cases hq'
  have one : ∀ a,ftyping_first [a] = some (firstS [a]) := fun a => first_is (by simp)
  have two : ∀ a b,ftyping_first [a,b] = some (firstS [a,b]) := fun a b => first_is (by simp)
  unfold leadE
  dsimp only
  by_cases c0 : f.Kind = 0
  · rw [if_pos c0,c0]
    show ftyping_checksq1 _ = _
    unfold ftyping_checksq1; rw [one]; rfl
  rw [if_neg c0]
  by_cases c1 : f.Kind = 1
  · rw [if_pos c1,c1]
    show ftyping_checksq2 _ = _
    unfold ftyping_checksq2; rw [lost_is hx]; simp only [Option.bind_some]; rw [one]; rfl
  rw [if_neg c1]
  by_cases c4 : f.Kind = 4
  · rw [if_pos c4,c4]
    show ftyping_checksq3 _ = _
    unfold ftyping_checksq3
    dsimp only
    rw [hq]
    simp only [Option.bind_some]
    rw [typing_Field_is (by have := hx.2 q hqm; omega)]
    simp only [Option.bind_some]
    rw [at_is]
    simp only [Option.bind_some]
    rw [one]; rfl
  rw [if_neg c4]
  by_cases c5 : f.Kind = 5
  · rw [if_pos c5,c5]
    show ftyping_checksq4 _ = _
    unfold ftyping_checksq4
    dsimp only
    rw [containsLife (s := x.Lives) (f := fun x0 => ftyping_checksq4q1 x0 ⟨x,k,j,f⟩) (p := fun l => l.Name == f.Of) (by omega) (fun l _ => rfl)]
    simp only [Option.bind_some]
    rw [one]; rfl
  rw [if_neg c5]
  by_cases c6 : f.Kind = 6
  · rw [if_pos c6]
    show callO (fChecks f.Kind) _ = _
    rw [c6]
    show ftyping_checksq5 _ = _
    unfold ftyping_checksq5
    dsimp only
    rw [shares_is hx hk]
    simp only [Option.bind_some]
    rw [two]; rfl
  rw [if_neg c6]
  by_cases c7 : f.Kind = 7
  · rw [if_pos c7]
    show callO (fChecks f.Kind) _ = _
    rw [c7]
    show ftyping_checksq6 _ = _
    unfold ftyping_checksq6
    rw [top_is hx hk hkl,lost_is hx]
    simp only [Option.bind_some]
    rw [typing_Kind_is (by have := hx.1; omega)]
    cases hc : ((!(topS x k j f).2) || ((topS x k j f).1.Kind != 6)) with
    | true =>
      simp only [Sim.opt,Bool.true_or]
      show (ftyping_first _).bind _ = _
      rw [two]; rfl
    | false =>
      simp only [Sim.opt,beq_self_eq_true,if_true,Option.bind_some]
      rw [two]; rfl
  rw [if_neg c7]
  by_cases c8 : f.Kind = 8
  · rw [if_pos c8]
    show callO (fChecks f.Kind) _ = _
    rw [c8]
    show ftyping_checksq7 _ = _
    unfold ftyping_checksq7
    rw [top_is hx hk hkl,lost_is hx]
    simp only [Option.bind_some]
    rw [two]; rfl
  rw [fChecks,if_neg c0,if_neg c1,if_neg c4,if_neg c5,if_neg c6,if_neg c7,if_neg c8] at h
  cases h
theorem chk_none {x : Sapi_Schema} {k j : Int} {q : Sapi_Kind} {f : Sapi_Field} (h : (fChecks f.Kind).isSome = false) : leadE x q k j f = 0 := by
  unfold leadE
  by_cases c0 : f.Kind = 0
  · rw [c0] at h; cases h
  by_cases c1 : f.Kind = 1
  · rw [c1] at h; cases h
  by_cases c4 : f.Kind = 4
  · rw [c4] at h; cases h
  by_cases c5 : f.Kind = 5
  · rw [c5] at h; cases h
  by_cases c6 : f.Kind = 6
  · rw [c6] at h; cases h
  by_cases c7 : f.Kind = 7
  · rw [c7] at h; cases h
  by_cases c8 : f.Kind = 8
  · rw [c8] at h; cases h
  rw [if_neg c0,if_neg c1,if_neg c4,if_neg c5,if_neg c6,if_neg c7,if_neg c8]

/-- The error of a kind. -/
def kindE (x : Sapi_Schema) (i : Int) (q : Sapi_Kind) : Int := firstS [⟨decide (kindIx x q.Name < i),7⟩,⟨((q.Fields.length : Int) == 0) || ((q.Fields.headD zeroField).Kind != 0),11⟩]
theorem kind_is {x : Sapi_Schema} {i : Int} {q : Sapi_Kind} (hx : Few x) (hq : idx x.Kinds i = some q) : ftyping_kind x i = some (kindE x i q) := by
  unfold ftyping_kind kindE
  rw [hq]
  simp only [Option.bind_some]
  rw [typing_Kind_is (by have := hx.1; omega)]
  simp only [Option.bind_some]
  cases hf : q.Fields with
  | nil =>
    show (ftyping_first _).bind _ = _
    rw [first_is (by simp)]; rfl
  | cons f fs =>
    have e : (((f :: fs).length : Int) == 0) = false := by simp; omega
    rw [e]
    simp only [Sim.opt,beq_self_eq_true,if_true]
    rw [show idx (f :: fs) (0:Int) = some f from rfl]
    simp only [Option.bind_some]
    rw [first_is (by simp)]; rfl

/-- The error of a rule. -/
def ruleAt (x : Sapi_Schema) (k : Int) (n : Str) : Sapi_Field × Bool := match idx x.Kinds k with | none => (zeroField,false) | some q => match field? x k (fieldIx q n) with | some g => (g,true) | none => (zeroField,false)
def missS (x : Sapi_Schema) (k : Int) (n : Str) : Bool := !((n == []) || decide (k < 0)) && !(ruleAt x k n).2
def wrongS (x : Sapi_Schema) (k : Int) (n : Str) : Bool := !((n == []) || decide (k < 0)) && (((ruleAt x k n).1.Kind != 2) && ((ruleAt x k n).1.Kind != 4))
def ruleE (x : Sapi_Schema) (i : Nat) (r : Sapi_Rule) : Int :=
  firstS [⟨(x.Rules.take i).any fun s => s.Name == r.Name,7⟩,⟨(decide (kindIx x r.Kind < 0) || missS x (kindIx x r.Kind) r.A) || missS x (kindIx x r.Kind) r.B,12⟩,⟨wrongS x (kindIx x r.Kind) r.A || wrongS x (kindIx x r.Kind) r.B,13⟩,⟨r.A == r.B,1⟩]
theorem rule_step {β : Type} {x : Sapi_Schema} {k : Int} {n : Str} {a b : Bool} (hx : Few x) (hk : k < x.Kinds.length) (g : Bool × Bool → β) :
    (if ((n == ([] : Str)) || (decide (k < 0))) = true then some (g (a,b)) else (idx x.Kinds k).bind fun t53 => (ftyping_Field t53 n).bind fun t56 => (ftyping_at x k t56).bind fun t57 => some (g ((a || (!t57.2)),(b || ((t57.1.Kind != 2) && (t57.1.Kind != 4)))))) = some (g (a || missS x k n,b || wrongS x k n)) := by
  unfold missS wrongS
  cases hc : ((n == ([] : Str)) || (decide (k < 0))) with
  | true => rw [if_pos rfl]; simp
  | false =>
    rw [if_neg (by decide)]
    simp only [Bool.or_eq_false_iff,decide_eq_false_iff_not] at hc
    obtain ⟨q,hq,hqm⟩ := idx_some (l := x.Kinds) (i := k) (by omega) hk
    unfold ruleAt
    rw [hq]
    simp only [Option.bind_some]
    rw [typing_Field_is (by have := hx.2 q hqm; omega)]
    simp only [Option.bind_some]
    rw [at_is]
    cases field? x k (fieldIx q n) <;> simp

end Go.Proofs.YthdfmpocknmleaaGreatDoor

namespace Go.Proofs.YthdfmpocknmleaaGreatDoor
open Go.Sim

theorem rule_is {x : Sapi_Schema} {i : Nat} {r : Sapi_Rule} (hx : Few x) (hl : x.Rules.length ≤ 1000) (hi : i < x.Rules.length) (hr : x.Rules[i]? = some r) : ftyping_rule x (i : Int) = some (ruleE x i r) := by
  unfold ftyping_rule
  rw [idx_nat,hr]
  simp only [Option.bind_some]
  have hs : Sim.sub x.Rules 0 (i : Int) = some (x.Rules.take i) := by
    unfold Sim.sub
    rw [if_pos ⟨by decide,by omega,by omega⟩]; simp
  rw [hs]
  simp only [Option.bind_some]
  rw [containsRule (f := fun x0 => ftyping_ruleq1 x0 r) (p := fun s => s.Name == r.Name) (by rw [List.length_take]; omega) (fun s _ => rfl)]
  simp only [Option.bind_some]
  rw [typing_Kind_is (by have := hx.1; omega)]
  simp only [Option.bind_some]
  have hk := (kindIx_lt x r.Kind).2
  let st : Nat → Int × Bool × Bool := fun n => match n with
    | 0 => (0,decide (kindIx x r.Kind < 0),false)
    | 1 => (1,decide (kindIx x r.Kind < 0) || missS x (kindIx x r.Kind) r.A,false || wrongS x (kindIx x r.Kind) r.A)
    | _ => (2,(decide (kindIx x r.Kind < 0) || missS x (kindIx x r.Kind) r.A) || missS x (kindIx x r.Kind) r.B,(false || wrongS x (kindIx x r.Kind) r.A) || wrongS x (kindIx x r.Kind) r.B)
  refine for_bind 2 st ((st 2).2.1,(st 2).2.2) rfl (fun n hn => ?_) rfl ?_
  · have : n = 0 ∨ n = 1 := by omega
    rcases this with rfl | rfl
    · have h := rule_step (x := x) (k := kindIx x r.Kind) (n := r.A) (a := decide (kindIx x r.Kind < 0)) (b := false) hx hk id
      show (Option.bind (if _ then _ else _) _ : Option _) = _
      exact (congrArg (fun o => Option.bind o (fun p55 : Bool × Bool => some (Sum.inl ((IntKind.i64.wrap ((0:Int) + (1:Int))),p55.1,p55.2)))) h : _)
    · have h := rule_step (x := x) (k := kindIx x r.Kind) (n := r.B) (a := decide (kindIx x r.Kind < 0) || missS x (kindIx x r.Kind) r.A) (b := false || wrongS x (kindIx x r.Kind) r.A) hx hk id
      show (Option.bind (if _ then _ else _) _ : Option _) = _
      exact (congrArg (fun o => Option.bind o (fun p55 : Bool × Bool => some (Sum.inl ((IntKind.i64.wrap ((1:Int) + (1:Int))),p55.1,p55.2)))) h : _)
  · dsimp only
    rw [first_is (by simp)]
    simp [st,ruleE]

/-- A loop that collects. -/
theorem col_loop {β : Type} (n : Nat) (g : Nat → List β) (B : Nat) (hB : ∀ k,k < n → (g k).length ≤ B) (a0 : List β) {body : Int × List β → Option ((Int × List β) ⊕ List β)}
    (hs : ∀ k,k < n → ∀ acc : List β,acc.length ≤ a0.length + k * B → body ((k : Int),acc) = some (.inl (((k + 1 : Nat) : Int),acc ++ g k))) (he : ∀ acc,body ((n : Int),acc) = some (.inr acc)) :
    tailrec body ((0 : Int),a0) = some (a0 ++ (List.range n).flatMap g) := by
  have hlen : ∀ m,m ≤ n → ((List.range m).flatMap g).length ≤ m * B := fun m => by
    induction m with
    | zero => intro _; simp
    | succ m ih =>
      intro hm
      rw [List.range_succ,List.flatMap_append,List.length_append,Nat.succ_mul]
      have h1 := ih (by omega)
      have h2 := hB m (by omega)
      simp only [List.flatMap_cons,List.flatMap_nil,List.append_nil]
      omega
  have h := tailrec_for (body := body) n (fun m => ((m : Int),a0 ++ (List.range m).flatMap g)) (a0 ++ (List.range n).flatMap g) (fun k hk => ?_) ?_
  · simpa using h
  · rw [hs k hk _ (by rw [List.length_append]; have := hlen k (by omega); omega),List.range_succ,List.flatMap_append]
    simp
  · rw [he]

def prob (k j r e : Int) : List Styping_Problem := if e = 0 then [] else [⟨k,j,r,e⟩]
theorem prob_len (k j r e : Int) : (prob k j r e).length ≤ 1 := by unfold prob; split <;> simp
theorem add_is {k j r e : Int} {l : List Styping_Problem} (h : l.length ≤ 1000000000) : ftyping_Checkq1 k j r e l = some (l ++ prob k j r e) := by
  unfold ftyping_Checkq1 prob
  by_cases he : e = 0
  · rw [if_neg (by simp [he]),if_pos he,List.append_nil]; rfl
  · rw [if_pos (by simpa using he),if_neg he,rm_le (by rw [List.length_singleton]; omega)]; rfl
def lifeE (x : Sapi_Schema) (i : Nat) (l : Sapi_Life) : Int := firstS [⟨(x.Lives.take i).any fun m => m.Name == l.Name,7⟩]
def fieldE (x : Sapi_Schema) (q : Sapi_Kind) (k j : Int) (f : Sapi_Field) : Int := if fieldIx q f.Name < j then 7 else leadE x q k j f
def lifeP (x : Sapi_Schema) (i : Nat) : List Styping_Problem := match x.Lives[i]? with | some l => prob (-1) (i : Int) (-1) (lifeE x i l) | none => []
def fieldP (x : Sapi_Schema) (i : Nat) (q : Sapi_Kind) (j : Nat) : List Styping_Problem := match q.Fields[j]? with | some f => prob (i : Int) (j : Int) (-1) (fieldE x q (i : Int) (j : Int) f) | none => []
def fieldsP (x : Sapi_Schema) (i : Nat) (q : Sapi_Kind) : List Styping_Problem := (List.range q.Fields.length).flatMap (fieldP x i q)
def kindP (x : Sapi_Schema) (i : Nat) : List Styping_Problem := match x.Kinds[i]? with | some q => prob (i : Int) (-1) (-1) (kindE x (i : Int) q) ++ fieldsP x i q | none => []
def ruleP (x : Sapi_Schema) (i : Nat) : List Styping_Problem := match x.Rules[i]? with | some r => prob (-1) (-1) (i : Int) (ruleE x i r) | none => []
def livesP (x : Sapi_Schema) : List Styping_Problem := (List.range x.Lives.length).flatMap (lifeP x)
def kindsP (x : Sapi_Schema) : List Styping_Problem := (List.range x.Kinds.length).flatMap (kindP x)
def rulesP (x : Sapi_Schema) : List Styping_Problem := (List.range x.Rules.length).flatMap (ruleP x)
theorem lifeP_len (x : Sapi_Schema) (i : Nat) : (lifeP x i).length ≤ 1 := by unfold lifeP; cases x.Lives[i]? with | none => simp | some f => exact prob_len _ _ _ _
theorem fieldP_len (x : Sapi_Schema) (i : Nat) (q : Sapi_Kind) (j : Nat) : (fieldP x i q j).length ≤ 1 := by unfold fieldP; cases q.Fields[j]? with | none => simp | some f => exact prob_len _ _ _ _
theorem ruleP_len (x : Sapi_Schema) (i : Nat) : (ruleP x i).length ≤ 1 := by unfold ruleP; cases x.Rules[i]? with | none => simp | some f => exact prob_len _ _ _ _
/-- All problems. -/
def checkS (x : Sapi_Schema) : List Styping_Problem := if validE x = 0 then livesP x ++ kindsP x ++ rulesP x else [⟨-1,-1,-1,validE x⟩]
theorem range_len {β : Type} (n : Nat) (g : Nat → List β) (B : Nat) (hB : ∀ k,k < n → (g k).length ≤ B) : ((List.range n).flatMap g).length ≤ n * B := by
  induction n with
  | zero => simp
  | succ n ih =>
    rw [List.range_succ,List.flatMap_append,List.length_append,Nat.succ_mul]
    have h1 := ih fun k hk => hB k (by omega)
    have h2 := hB n (by omega)
    simp only [List.flatMap_cons,List.flatMap_nil,List.append_nil]
    omega
/-- What Check needs of a schema: its lists are short. -/
structure Short (x : Sapi_Schema) : Prop where
  few : Few x
  fine : Fine x
  lives : x.Lives.length ≤ 1000
  rules : x.Rules.length ≤ 1000
theorem Sz.short {x : Sapi_Schema} (h : Sz x) : Short x := ⟨h.few,h.fine,by have := h.2.1.1; omega,by have := h.2.2.1; omega⟩
theorem fieldsP_len {x : Sapi_Schema} {i : Nat} {q : Sapi_Kind} (h : q.Fields.length ≤ 1000) : (fieldsP x i q).length ≤ 1000 := by
  have := range_len q.Fields.length (fieldP x i q) 1 (fun j _ => fieldP_len x i q j)
  unfold fieldsP; omega
theorem Check_is {x : Sapi_Schema} (h : Short x) : ftyping_Check x = some (checkS x) := by
  obtain ⟨hx,hfine,hlv,hrl⟩ := h
  unfold ftyping_Check
  rw [Valid_is hfine]
  simp only [Option.bind_some]
  unfold checkS
  by_cases hv : validE x = 0
  · rw [if_neg (by simp [hv]),if_pos hv]
    have b1 : (livesP x).length ≤ 1000 := by
      have := range_len x.Lives.length (lifeP x) 1 (fun j _ => lifeP_len x j)
      unfold livesP; omega
    have kl : ∀ k,k < x.Kinds.length → (kindP x k).length ≤ 1001 := fun k hk => by
      unfold kindP
      rw [List.getElem?_eq_getElem hk]
      dsimp only
      have := fieldsP_len (x := x) (i := k) (hx.2 _ (List.getElem_mem hk))
      have := prob_len k (-1) (-1) (kindE x k x.Kinds[k])
      rw [List.length_append]; omega
    have b2 : (kindsP x).length ≤ 1001000 := by
      have := range_len x.Kinds.length _ 1001 kl
      have := hx.1
      unfold kindsP; omega
    have hk1 := hx.1
    rw [col_loop x.Lives.length (lifeP x) 1 (fun j _ => lifeP_len x j) [] (fun k hk acc hacc => ?_) (fun acc => if_neg (by simp))]
    · rw [show ([] : List Styping_Problem) ++ (List.range x.Lives.length).flatMap (lifeP x) = livesP x from rfl]
      simp only [Option.bind_some]
      rw [col_loop x.Kinds.length (kindP x) 1001 kl (livesP x) (fun k hk acc hacc => ?_) (fun acc => if_neg (by simp))]
      · rw [show livesP x ++ (List.range x.Kinds.length).flatMap (kindP x) = livesP x ++ kindsP x from rfl]
        simp only [Option.bind_some]
        rw [col_loop x.Rules.length (ruleP x) 1 (fun j _ => ruleP_len x j) (livesP x ++ kindsP x) (fun k hk acc hacc => ?_) (fun acc => if_neg (by simp))]
        · rfl
        · rw [List.length_append] at hacc
          rw [if_pos (by simpa using hk)]
          dsimp only
          rw [rule_is hx hrl hk (List.getElem?_eq_getElem hk)]
          simp only [Option.bind_some]
          rw [add_is (by omega)]
          simp only [Option.bind_some]
          unfold ruleP
          rw [w64_succ hk (by omega),List.getElem?_eq_getElem hk]
      · have hq := idx_lt hk
        have hqf := hx.2 _ (List.getElem_mem hk)
        rw [if_pos (by simpa using hk)]
        dsimp only
        rw [hq]
        simp only [Option.bind_some]
        rw [kind_is hx hq]
        simp only [Option.bind_some]
        rw [add_is (by omega)]
        simp only [Option.bind_some]
        have pl := prob_len k (-1) (-1) (kindE x k x.Kinds[k])
        rw [col_loop x.Kinds[k].Fields.length (fieldP x k x.Kinds[k]) 1 (fun j _ => fieldP_len x k _ j) _ (fun j hj acc2 hacc2 => ?_) (fun acc => if_neg (by simp))]
        · simp only [Option.bind_some]
          unfold kindP
          rw [w64_succ hk (by omega),List.getElem?_eq_getElem hk,List.append_assoc]
          rfl
        · rw [List.length_append] at hacc2
          rw [if_pos (by simpa using hj)]
          dsimp only
          rw [idx_lt hj]
          simp only [Option.bind_some]
          rw [typing_Field_is (by omega)]
          simp only [Option.bind_some]
          rw [first_is (by simp)]
          simp only [Option.bind_some]
          have hf : field? x (k : Int) (j : Int) = some x.Kinds[k].Fields[j] := field_of (by omega) (by omega) hq (idx_lt hj)
          have e : (if ((fChecks x.Kinds[k].Fields[j].Kind).isSome && (firstS [⟨decide (fieldIx x.Kinds[k] x.Kinds[k].Fields[j].Name < (j : Int)),7⟩] == 0)) = true then (callO (SX_check.mk (fChecks x.Kinds[k].Fields[j].Kind)).check ⟨x,k,j,x.Kinds[k].Fields[j]⟩).bind fun t97 => some t97 else some (firstS [⟨decide (fieldIx x.Kinds[k] x.Kinds[k].Fields[j].Name < (j : Int)),7⟩])) = some (fieldE x x.Kinds[k] k j x.Kinds[k].Fields[j]) := by
            unfold fieldE
            by_cases hd : fieldIx x.Kinds[k] x.Kinds[k].Fields[j].Name < (j : Int)
            · rw [if_pos hd,if_neg (by simp [firstS,hd])]
              simp [firstS,hd]
            · rw [if_neg hd]
              have e0 : firstS [⟨decide (fieldIx x.Kinds[k] x.Kinds[k].Fields[j].Name < (j : Int)),7⟩] = 0 := by simp [firstS,hd]
              rw [e0]
              cases hs : (fChecks x.Kinds[k].Fields[j].Kind).isSome with
              | true => rw [if_pos (by simp),chk_some hx hlv hq hf hs]; rfl
              | false => rw [if_neg (by simp),chk_none hs]
          rw [e]
          simp only [Option.bind_some]
          rw [add_is (by omega)]
          simp only [Option.bind_some]
          unfold fieldP
          rw [w64_succ hj (by omega),List.getElem?_eq_getElem hj]
    · rw [List.length_nil] at hacc
      rw [if_pos (by simpa using hk)]
      dsimp only
      rw [idx_lt hk]
      simp only [Option.bind_some]
      have hs : Sim.sub x.Lives 0 (k : Int) = some (x.Lives.take k) := by
        unfold Sim.sub
        rw [if_pos ⟨by decide,by omega,by omega⟩]; simp
      rw [hs]
      simp only [Option.bind_some]
      rw [containsLife (f := fun x0 => ftyping_Checkq2 x0 x.Lives[k]) (p := fun m => m.Name == x.Lives[k].Name) (by rw [List.length_take]; omega) (fun l _ => rfl)]
      simp only [Option.bind_some]
      rw [first_is (by simp)]
      simp only [Option.bind_some]
      rw [add_is (by omega)]
      simp only [Option.bind_some]
      unfold lifeP
      rw [w64_succ hk (by omega),List.getElem?_eq_getElem hk]
      rfl
  · rw [if_pos (by simpa using hv),if_neg hv]

end Go.Proofs.YthdfmpocknmleaaGreatDoor

namespace Go.Proofs.YthdfmpocknmleaaGreatDoor
open Go.Sim

/-- A loop that looks whether all are so. -/
theorem scan_all {α ρ : Type} (l : List α) (p : α → Bool) (bad : ρ) {body : Int → Option (Int ⊕ (Unit ⊕ ρ))}
    (hb : ∀ k (h : k < l.length),body (k : Int) = if p l[k] = true then some (.inl ((k + 1 : Nat) : Int)) else some (.inr (.inr bad))) (he : body (l.length : Int) = some (.inr (.inl ()))) :
    tailrec body (0 : Int) = some (if l.all p = true then .inl () else .inr bad) := by
  have key : Ok (tailrec body (0 : Int)) (fun r => r = if l.all p = true then .inl () else .inr bad) := by
    refine Ok.loop (fun m s => 0 ≤ s ∧ s + m = l.length ∧ (l.take s.toNat).all p = true) l.length ⟨Int.le_refl _,by omega,by simp⟩ fun m s hs => ?_
    obtain ⟨h1,h2,h3⟩ := hs
    obtain ⟨k,rfl⟩ := Int.eq_ofNat_of_zero_le h1
    rw [Int.toNat_natCast] at h3
    by_cases hk : k < l.length
    · rw [hb k hk]
      by_cases hp : p l[k] = true
      · rw [if_pos hp]
        refine Ok.mk ⟨m - 1,by omega,by omega,by omega,?_⟩
        rw [Int.toNat_natCast,List.take_succ_eq_append_getElem hk,List.all_append,h3]; simp [hp]
      · rw [if_neg hp]
        refine Ok.mk ?_
        dsimp only
        rw [if_neg]
        intro ha
        exact hp (List.all_eq_true.1 ha _ (List.getElem_mem hk))
    · have : k = l.length := by omega
      subst this
      rw [he]
      rw [List.take_of_length_le (Nat.le_refl _)] at h3
      exact Ok.mk (by dsimp only; rw [if_pos h3])
  obtain ⟨r,hr,rfl⟩ := key
  exact hr

theorem out_or (n : Nat) : ((decide ((n : Int) < 1)) || (decide ((n : Int) > 12))) = !inW (n : Int) 1 12 := by
  unfold inW
  by_cases h1 : (n : Int) < 1
  · rw [decide_eq_true h1,decide_eq_false (by omega : ¬ (n : Int) ≥ 1)]; rfl
  · rw [decide_eq_false h1,decide_eq_true (by omega : (n : Int) ≥ 1)]
    by_cases h2 : (n : Int) > 12
    · rw [decide_eq_true h2,decide_eq_false (by omega : ¬ (n : Int) ≤ 12)]; rfl
    · rw [decide_eq_false h2,decide_eq_true (by omega : (n : Int) ≤ 12)]; rfl
theorem IsName_is (s : Str) : fref09_IsName s = some (nameS s) := by
  unfold fref09_IsName nameS
  rw [out_or]
  cases s with
  | nil => rfl
  | cons c s =>
    cases h : inW ((c :: s).length : Int) 1 12 with
    | false => rfl
    | true =>
      have hl := (inW_le h).2
      rw [show idx (c :: s) (0 : Int) = some c from rfl]
      simp only [Sim.opt,Bool.not_true,beq_self_eq_true,if_true,Option.bind_some]
      rw [show fref09_letter (c.toNat : Int) = some (letterS (c.toNat : Int)) from rfl]
      simp only [Option.bind_some]
      cases hc : letterS (c.toNat : Int) with
      | false => simp [hc]
      | true =>
        rw [if_neg (by decide),scan_all (c :: s) (fun b => letterS (b.toNat : Int) || digitS (b.toNat : Int)) false (fun k hk => ?_) (if_neg (by simp))]
        · have e : (bytesOf (c :: s)).all (fun c => letterS c || digitS c) = (c :: s).all (fun b => letterS (b.toNat : Int) || digitS (b.toNat : Int)) := by
            unfold bytesOf; rw [List.all_map]; rfl
          rw [e]
          simp only [List.headD_cons,hc,Bool.true_and,Option.bind_some]
          cases (c :: s).all (fun b => letterS (b.toNat : Int) || digitS (b.toNat : Int)) <;> rfl
        · rw [if_pos (decide_eq_true (Int.ofNat_lt.2 hk)),idx_lt hk]
          simp only [Option.bind_some]
          rw [show fref09_letter (((c :: s)[k]).toNat : Int) = some (letterS (((c :: s)[k]).toNat : Int)) from rfl]
          simp only [Option.bind_some]
          rw [w64_succ hk (by omega)]
          cases letterS (((c :: s)[k]).toNat : Int) with
          | true => rfl
          | false =>
            simp only [Bool.not_false,beq_self_eq_true,if_true,Option.bind_some,Bool.true_and,Bool.false_or]
            rw [show fref09_digit (((c :: s)[k]).toNat : Int) = some (digitS (((c :: s)[k]).toNat : Int)) from rfl]
            simp only [Option.bind_some]
            cases digitS (((c :: s)[k]).toNat : Int) <;> rfl
theorem names_is {l : List Str} (hl : l.length ≤ 1000000) : fref09_names l = some (l.all nameS) := by
  unfold fref09_names
  rw [scan_all l nameS false (fun k hk => ?_) (if_neg (by simp))]
  · cases l.all nameS <;> rfl
  · rw [if_pos (by simpa using hk),idx_lt hk]
    simp only [Option.bind_some]
    rw [IsName_is]
    simp only [Option.bind_some]
    rw [w64_succ hk (by omega)]
    cases nameS l[k] <;> rfl

end Go.Proofs.YthdfmpocknmleaaGreatDoor

namespace Go.Proofs.YthdfmpocknmleaaGreatDoor
open Go.Sim

theorem rLife_is {x : Sapi_Life} (h1 : x.States.length ≤ 1000000) (h2 : x.Moves.length ≤ 1000000) : fref09_isLife x = some (lifeS x) := by
  unfold fref09_isLife lifeS
  rw [IsName_is]
  simp only [Option.bind_some]
  cases nameS x.Name with
  | false => rfl
  | true =>
    rw [show fref09_within (x.States.length : Int) 1 12 = some (inW (x.States.length : Int) 1 12) from rfl]
    simp only [Sim.opt,Bool.not_true,beq_self_eq_true,if_true,Option.bind_some,Bool.true_and,Bool.false_or]
    cases inW (x.States.length : Int) 1 12 with
    | false => rfl
    | true =>
      rw [names_is h1]
      simp only [Bool.not_true,beq_self_eq_true,if_true,Option.bind_some,Bool.true_and,Bool.false_or]
      cases x.States.all nameS with
      | false => rfl
      | true =>
        by_cases hm : (x.Moves.length : Int) ≤ 32
        · rw [if_neg (by simp; omega),decide_eq_true hm,scan_all x.Moves (moveS (x.States.length : Int)) false (fun k hk => ?_) (if_neg (by simp))]
          · simp only [Bool.true_and,Option.bind_some]
            cases x.Moves.all (moveS (x.States.length : Int)) <;> rfl
          · rw [if_pos (decide_eq_true (Int.ofNat_lt.2 hk)),idx_lt hk,w64 (n := (x.States.length : Int) - 1) (by omega) (by omega)]
            simp only [Option.bind_some]
            rw [show fref09_within x.Moves[k].a0 0 ((x.States.length : Int) - 1) = some (inW x.Moves[k].a0 0 ((x.States.length : Int) - 1)) from rfl]
            simp only [Option.bind_some]
            rw [w64_succ hk (by omega)]
            unfold moveS
            cases inW x.Moves[k].a0 0 ((x.States.length : Int) - 1) with
            | false => rfl
            | true =>
              simp only [Bool.not_true,beq_self_eq_true,if_true,Option.bind_some,Bool.true_and,Bool.false_or]
              rw [show fref09_within x.Moves[k].a1 0 ((x.States.length : Int) - 1) = some (inW x.Moves[k].a1 0 ((x.States.length : Int) - 1)) from rfl]
              simp only [Option.bind_some]
              cases inW x.Moves[k].a1 0 ((x.States.length : Int) - 1) <;> rfl
        · rw [if_pos (by simp; omega),decide_eq_false hm]; rfl
theorem rRule_is (r : Sapi_Rule) : fref09_isRule r = some (ruleS r) := by
  unfold fref09_isRule ruleS
  simp only [IsName_is]
  rw [show fref09_within r.N (-1048576) 1048576 = some (inW r.N (-1048576) 1048576) from rfl]
  have ne : ∀ s : Str,(s != ([] : Str)) = !(s == []) := fun s => rfl
  have ap : ∀ a b : Str,((a ++ b) != ([] : Str)) = !((a == []) && (b == [])) := fun a b => by cases a <;> cases b <;> rfl
  rw [ne,ne,ap]
  cases (r.A == []) <;> cases (r.B == []) <;> cases nameS r.A <;> cases nameS r.B <;> cases nameS r.Name <;> cases nameS r.Kind <;> rfl

end Go.Proofs.YthdfmpocknmleaaGreatDoor

namespace Go.Proofs.YthdfmpocknmleaaGreatDoor
open Go.Sim

theorem rPick_is {f : Sapi_Field} (hw : f.Words.length ≤ 1000000) (hg : f.Weights.length ≤ 1000000) : fref09_isPick f = some (pickS f.Words f.Weights) := by
  rw [← isPick_is hw hg]
  unfold fref09_isPick fschema_isPick
  have e : (fun s5 : Int × Int => ((if (decide (s5.1 < (f.Weights.length : Int))) = true then (idx f.Weights s5.1).bind fun t15 => (fref09_within t15 (0:Int) (1048576:Int)).bind fun t17 => (if (!t17) = true then (some (.inr (.inr false))) else (idx f.Weights s5.1).bind fun t23 => (some (.inl ((IntKind.i64.wrap (s5.1 + (1:Int))),(IntKind.i64.wrap (s5.2 + t23)))))) else (some (.inr (.inl s5.2)))) : Option ((Int × Int) ⊕ ((Int) ⊕ (Bool))))) =
      fun s5 : Int × Int => ((if (decide (s5.1 < (f.Weights.length : Int))) = true then (idx f.Weights s5.1).bind fun t12 => (fschema_within t12 (0:Int) (1048576:Int)).bind fun t15 => (if (!t15) = true then (some (.inr (.inr false))) else (some (.inl ((IntKind.i64.wrap (s5.1 + (1:Int))),(IntKind.i64.wrap (s5.2 + t12)))))) else (some (.inr (.inl s5.2)))) : Option ((Int × Int) ⊕ ((Int) ⊕ (Bool)))) := by
    funext s
    split
    · cases hi : idx f.Weights s.1 with
      | none => rfl
      | some v => rfl
    · rfl
  rw [e]
  congr 1
  funext o
  cases o with
  | inr p => rfl
  | inl p =>
    dsimp only
    rw [names_is hw,allstring (p := nameS) hw (fun s _ => isName_is s)]
    rfl

end Go.Proofs.YthdfmpocknmleaaGreatDoor

namespace Go.Proofs.YthdfmpocknmleaaGreatDoor
open Go.Sim

theorem two_len {w : List Str} {g : List Int} (hw : w.length ≤ 1000000) (hg : g.length ≤ 1000000) : decide (IntKind.i64.wrap ((w.length : Int) + (g.length : Int)) > 0) = !(decide (w = []) && decide (g = [])) := by
  rw [w64 (by omega) (by omega)]
  cases w with
  | nil => cases g with
    | nil => rfl
    | cons b g => simp
  | cons a w => simp; omega
theorem rField_is {f : Sapi_Field} (hw : f.Words.length ≤ 1000000) (hg : f.Weights.length ≤ 1000000) : fref09_isField f = some (fieldS f) := by
  have e1 := two_len hw hg
  have hp := rPick_is hw hg
  unfold fref09_isField
  rw [e1,hp]
  clear e1 hp hw hg
  obtain ⟨n,o,u,k,lo,hi,w,g⟩ := f
  simp only [fref09_Uses,IsName_is,Option.bind_some]
  have ne : ∀ s : Str,(s != ([] : Str)) = !(s == []) := fun s => rfl
  have ni : ∀ a : Int,(a != 0) = !(a == 0) := fun a => rfl
  by_cases k0 : k = 0
  · subst k0
    have e : fieldS ⟨n,o,u,0,lo,hi,w,g⟩ = ((nameS n && (((((o == []) && (u == [])) && (hi == 0)) && decide (w = [])) && decide (g = []))) && inW lo (-1048576) 1048576) := by
      unfold fieldS sameS onlyS partS
      simp
    rw [e]
    simp only [ne,ni]
    cases nameS n <;> cases (o == []) <;> cases (u == []) <;> cases (hi == 0) <;> cases decide (w = []) <;> cases decide (g = []) <;> rfl
  by_cases k1 : k = 1
  · subst k1
    have e : fieldS ⟨n,o,u,1,lo,hi,w,g⟩ = ((nameS n && (((u == []) && decide (w = [])) && decide (g = []))) && (nameS o && spanS lo hi 0 65536)) := by
      unfold fieldS sameS onlyS partS
      simp
    rw [e]
    simp only [ne,ni]
    cases nameS n <;> cases (u == []) <;> cases decide (w = []) <;> cases decide (g = []) <;> cases nameS o <;> rfl
  by_cases k2 : k = 2
  · subst k2
    have e : fieldS ⟨n,o,u,2,lo,hi,w,g⟩ = ((nameS n && ((((o == []) && (u == [])) && decide (w = [])) && decide (g = []))) && spanS lo hi (-1048576) 1048576) := by
      unfold fieldS sameS onlyS partS
      simp
    rw [e]
    simp only [ne,ni]
    cases nameS n <;> cases (o == []) <;> cases (u == []) <;> cases decide (w = []) <;> cases decide (g = []) <;> rfl
  by_cases k3 : k = 3
  · subst k3
    have e : fieldS ⟨n,o,u,3,lo,hi,w,g⟩ = ((nameS n && ((((o == []) && (u == [])) && (lo == 0)) && (hi == 0))) && pickS w g) := by
      unfold fieldS sameS onlyS partS
      simp
    rw [e]
    simp only [ne,ni]
    cases nameS n <;> cases (o == []) <;> cases (u == []) <;> cases (lo == 0) <;> cases (hi == 0) <;> rfl
  by_cases k4 : k = 4
  · subst k4
    have e : fieldS ⟨n,o,u,4,lo,hi,w,g⟩ = ((nameS n && (((u == []) && decide (w = [])) && decide (g = []))) && (((o == []) || nameS o) && spanS lo hi (-1048576) 1048576)) := by
      unfold fieldS sameS onlyS partS
      simp
    rw [e]
    simp only [ne,ni]
    cases nameS n <;> cases (u == []) <;> cases decide (w = []) <;> cases decide (g = []) <;> cases nameS o <;> cases (o == []) <;> rfl
  by_cases k5 : k = 5
  · subst k5
    have e : fieldS ⟨n,o,u,5,lo,hi,w,g⟩ = ((nameS n && (((u == []) && decide (w = [])) && decide (g = []))) && (nameS o && spanS lo hi 0 32)) := by
      unfold fieldS sameS onlyS partS
      simp
    rw [e]
    simp only [ne,ni]
    cases nameS n <;> cases (u == []) <;> cases decide (w = []) <;> cases decide (g = []) <;> cases nameS o <;> rfl
  by_cases k6 : k = 6
  · subst k6
    have e : fieldS ⟨n,o,u,6,lo,hi,w,g⟩ = ((nameS n && (((((u == []) && (lo == 0)) && (hi == 0)) && decide (w = [])) && decide (g = []))) && nameS o) := by
      unfold fieldS sameS onlyS partS
      simp
    rw [e]
    simp only [ne,ni]
    cases nameS n <;> cases (u == []) <;> cases (lo == 0) <;> cases (hi == 0) <;> cases decide (w = []) <;> cases decide (g = []) <;> cases nameS o <;> rfl
  by_cases k7 : k = 7
  · subst k7
    have e : fieldS ⟨n,o,u,7,lo,hi,w,g⟩ = ((nameS n && (decide (w = []) && decide (g = []))) && ((nameS o && nameS u) && spanS lo hi 0 1048576)) := by
      unfold fieldS sameS onlyS partS
      simp
    rw [e]
    simp only [ne,ni]
    cases nameS n <;> cases decide (w = []) <;> cases decide (g = []) <;> cases nameS o <;> cases nameS u <;> rfl
  by_cases k8 : k = 8
  · subst k8
    have e : fieldS ⟨n,o,u,8,lo,hi,w,g⟩ = ((nameS n && ((((lo == 0) && (hi == 0)) && decide (w = [])) && decide (g = []))) && (nameS o && nameS u)) := by
      unfold fieldS sameS onlyS partS
      simp
    rw [e]
    simp only [ne,ni]
    cases nameS n <;> cases (lo == 0) <;> cases (hi == 0) <;> cases decide (w = []) <;> cases decide (g = []) <;> cases nameS o <;> cases nameS u <;> rfl
  have hr : ((decide (k < 0)) || (decide (k ≥ 9))) = true := by simp; omega
  have e : fieldS ⟨n,o,u,k,lo,hi,w,g⟩ = false := by
    unfold fieldS partS
    simp [k0,k1,k2,k3,k4,k5,k6,k7,k8]
  rw [e,hr]
  rfl

end Go.Proofs.YthdfmpocknmleaaGreatDoor

namespace Go.Proofs.YthdfmpocknmleaaGreatDoor
open Go.Sim

theorem rKind_is {k : Sapi_Kind} (h : FieldsFew k.Fields) : fref09_isKind k = some (kindS k) := by
  unfold fref09_isKind kindS
  rw [IsName_is]
  simp only [Option.bind_some]
  cases nameS k.Name with
  | false => rfl
  | true =>
    rw [show fref09_span k.Lo k.Hi 0 65536 = some (spanS k.Lo k.Hi 0 65536) from rfl]
    simp only [Sim.opt,Bool.not_true,beq_self_eq_true,if_true,Option.bind_some,Bool.true_and,Bool.false_or]
    cases spanS k.Lo k.Hi 0 65536 with
    | false => rfl
    | true =>
      by_cases hm : (k.Fields.length : Int) ≤ 10
      · rw [if_neg (by simp; omega),decide_eq_true hm,scan_all k.Fields fieldS false (fun i hi => ?_) (if_neg (by simp))]
        · simp only [Bool.true_and,Option.bind_some]
          cases k.Fields.all fieldS <;> rfl
        · have hf := h.2 _ (List.getElem_mem hi)
          have hl := h.1
          rw [if_pos (decide_eq_true (Int.ofNat_lt.2 hi)),idx_lt hi]
          simp only [Option.bind_some]
          rw [rField_is hf.1 hf.2]
          simp only [Option.bind_some]
          rw [w64_succ hi (by omega)]
          cases fieldS k.Fields[i] <;> rfl
      · rw [if_pos (by simp; omega),decide_eq_false hm]; rfl

end Go.Proofs.YthdfmpocknmleaaGreatDoor

namespace Go.Proofs.YthdfmpocknmleaaGreatDoor
open Go.Sim

theorem digit_of {u : Nat} (h : u < 10) : strOf [IntKind.u8.wrap (IntKind.i64.wrap ((48:Int) + (u : Int)))] = [UInt8.ofNat (48 + u)] := by
  have : u = 0 ∨ u = 1 ∨ u = 2 ∨ u = 3 ∨ u = 4 ∨ u = 5 ∨ u = 6 ∨ u = 7 ∨ u = 8 ∨ u = 9 := by omega
  rcases this with rfl | rfl | rfl | rfl | rfl | rfl | rfl | rfl | rfl | rfl <;> rfl
theorem decN : ∀ (k u : Nat),k ≤ 1000000000000 → u < 10 ^ (k + 1) → u ≤ 1000000000 → gref09_DecimalN (k + 1) (u : Int) = some (Lib.decDigits u)
  | k,u,hk,hu,hb => by
    show fref09_DecimalS (gref09_DecimalN k) (u : Int) = _
    unfold fref09_DecimalS
    rw [if_neg (by simp)]
    rw [Lib.decDigits]
    by_cases h : u < 10
    · rw [if_pos (by simp; omega),dif_pos h,digit_of h]
    · rw [if_neg (by simp; omega),dif_neg h]
      cases k with
      | zero => simp at hu; omega
      | succ k =>
        have e1 : IntKind.i64.wrap (Int.tdiv (u : Int) 10) = ((u / 10 : Nat) : Int) := by
          rw [Int.tdiv_eq_ediv_of_nonneg (by omega),w64 (by omega) (by omega)]; rfl
        have e2 : Int.tmod (u : Int) 10 = ((u % 10 : Nat) : Int) := by rw [Int.tmod_eq_emod_of_nonneg (by omega)]; rfl
        rw [e1,e2,decN k (u / 10) (by omega) (by rw [Nat.pow_succ] at hu; omega) (by omega)]
        simp only [Option.bind_some]
        rw [digit_of (by omega)]
        have hl := digits_len 18 (u / 10) (by omega)
        have ec : cat ((Lib.decDigits (u / 10)).length + ([UInt8.ofNat (48 + u % 10)] : Str).length) = some () := if_pos (by rw [List.length_singleton]; omega)
        rw [ec]; rfl

theorem lt_ten_pow (u : Nat) : u < 10 ^ (u + 1) := by
  have h : u + 1 < 10 ^ (u + 1) := Nat.lt_pow_self (by decide)
  omega
theorem Decimal_is {n : Int} (h : -1000000000 ≤ n ∧ n ≤ 1000000000) : fref09_Decimal n = some (Lib.itoa n) := by
  unfold fref09_Decimal Lib.itoa
  by_cases hn : n < 0
  · show fref09_DecimalS (gref09_DecimalN (n.natAbs + 1)) n = _
    unfold fref09_DecimalS
    have e : IntKind.i64.wrap (0 - n) = (n.natAbs : Int) := by rw [w64 (by omega) (by omega)]; omega
    rw [if_pos (decide_eq_true hn),if_pos hn,e,decN n.natAbs n.natAbs (by omega) (lt_ten_pow _) (by omega)]
    simp only [Option.bind_some]
    have hl := digits_len 18 n.natAbs (by omega)
    have ec : cat (([45] : Str).length + (Lib.decDigits n.natAbs).length) = some () := if_pos (by rw [List.length_singleton]; omega)
    rw [ec]; rfl
  · rw [if_neg hn]
    have e : n = (n.toNat : Int) := by omega
    have e2 : n.natAbs + 2 = (n.natAbs + 1) + 1 := rfl
    rw [e2]
    have := decN (n.natAbs + 1) n.toNat (by omega) (Nat.lt_of_lt_of_le (lt_ten_pow n.toNat) (Nat.pow_le_pow_right (by decide) (by omega))) (by omega)
    rw [← e] at this
    exact this

end Go.Proofs.YthdfmpocknmleaaGreatDoor

namespace Go.Proofs.YthdfmpocknmleaaGreatDoor
open Go.Sim

theorem cat_is {n : Nat} (h : n ≤ 1000000000000) : cat n = some () := if_pos (by omega)
theorem and_is {s : Str} {n : Int} (hs : s.length ≤ 100000000000) (h : -1000000000 ≤ n ∧ n ≤ 1000000000) : fref09_and s n = some (s ++ (32 :: Lib.itoa n)) := by
  have hl := itoa_len (n := n) (by unfold I64; omega)
  unfold fref09_and
  rw [cat_is (by rw [List.length_singleton]; omega)]
  simp only [Option.bind_some]
  rw [Decimal_is h]
  simp only [Option.bind_some]
  rw [cat_is (by rw [List.length_append,List.length_singleton]; omega)]
  simp
theorem rNamed_is (s : Str) : fref09_named s = some (namedS s) := by
  unfold fref09_named namedS
  by_cases h : s = []
  · rw [if_pos (by simp [h]),if_pos h]
  · rw [if_neg (by simpa using h),if_neg h]

end Go.Proofs.YthdfmpocknmleaaGreatDoor

namespace Go.Proofs.YthdfmpocknmleaaGreatDoor
open Go.Sim

/-- A valid field whose names are not empty where they must not be. -/
theorem named_id {s : Str} (h : nameS s = true) : namedS s = s := by
  unfold namedS
  rw [if_neg]
  rintro rfl
  cases h
theorem rLine0 {n o u : Str} {lo hi : Int} {w : List Str} {g : List Int} (hn : n.length ≤ 12) (hlo : -1000000000 ≤ lo ∧ lo ≤ 1000000000) : fref09_line ⟨n,o,u,0,lo,hi,w,g⟩ = some (10 :: ([107,101,121] ++ toks [.str n,.int lo])) := by
  unfold fref09_line fref09_Uses fref09_Words
  simp only [Option.bind_some]
  rw [show idx ([([107,101,121] : Str),([114,101,102] : Str),([110,117,109] : Str),([112,105,99,107] : Str),([100,97,121] : Str),([115,116,101,112] : Str),([115,117,109] : Str),([115,104,97,114,101] : Str),([99,111,112,121] : Str)]) (0 : Int) = some [107,101,121] from rfl]
  simp only [Option.bind_some]
  rw [cat_is (by simp),cat_is (by simp only [List.length_append,List.length_cons,List.length_nil]; omega),cat_is (by simp only [List.length_append,List.length_cons,List.length_nil]; omega)]
  simp only [Option.bind_some]
  rw [if_neg (by decide)]
  simp only [Option.bind_some]
  rw [if_neg (by decide)]
  simp only [Option.bind_some]
  have l1 := itoa_len (n := lo) (by unfold I64; omega)
  rw [if_pos (by decide),and_is (by simp only [List.length_append,List.length_cons,List.length_nil]; omega) hlo]
  simp only [Option.bind_some]
  rw [if_neg (by decide)]
  simp only [Option.bind_some]
  rw [if_neg (by decide)]
  simp [toks,textS]
theorem rLine1 {n o u : Str} {lo hi : Int} {w : List Str} {g : List Int} (hn : n.length ≤ 12) (ho : (namedS o).length ≤ 12) (hlo : -1000000000 ≤ lo ∧ lo ≤ 1000000000) (hhi : -1000000000 ≤ hi ∧ hi ≤ 1000000000) : fref09_line ⟨n,o,u,1,lo,hi,w,g⟩ = some (10 :: ([114,101,102] ++ toks [.str n,.str (namedS o),.int lo,.int hi])) := by
  unfold fref09_line fref09_Uses fref09_Words
  simp only [Option.bind_some]
  rw [show idx ([([107,101,121] : Str),([114,101,102] : Str),([110,117,109] : Str),([112,105,99,107] : Str),([100,97,121] : Str),([115,116,101,112] : Str),([115,117,109] : Str),([115,104,97,114,101] : Str),([99,111,112,121] : Str)]) (1 : Int) = some [114,101,102] from rfl]
  simp only [Option.bind_some]
  rw [cat_is (by simp),cat_is (by simp only [List.length_append,List.length_cons,List.length_nil]; omega),cat_is (by simp only [List.length_append,List.length_cons,List.length_nil]; omega)]
  simp only [Option.bind_some]
  rw [if_neg (by decide)]
  simp only [Option.bind_some]
  rw [if_pos (by decide),cat_is (by simp only [List.length_append,List.length_cons,List.length_nil]; omega),rNamed_is]
  simp only [Option.bind_some]
  rw [cat_is (by simp only [List.length_append,List.length_cons,List.length_nil]; omega)]
  simp only [Option.bind_some]
  have l1 := itoa_len (n := lo) (by unfold I64; omega)
  rw [if_pos (by decide),and_is (by simp only [List.length_append,List.length_cons,List.length_nil]; omega) hlo]
  simp only [Option.bind_some]
  rw [if_pos (by decide),and_is (by simp only [List.length_append,List.length_cons,List.length_nil]; omega) hhi]
  simp only [Option.bind_some]
  rw [if_neg (by decide)]
  simp [toks,textS]
theorem rLine2 {n o u : Str} {lo hi : Int} {w : List Str} {g : List Int} (hn : n.length ≤ 12) (hlo : -1000000000 ≤ lo ∧ lo ≤ 1000000000) (hhi : -1000000000 ≤ hi ∧ hi ≤ 1000000000) : fref09_line ⟨n,o,u,2,lo,hi,w,g⟩ = some (10 :: ([110,117,109] ++ toks [.str n,.int lo,.int hi])) := by
  unfold fref09_line fref09_Uses fref09_Words
  simp only [Option.bind_some]
  rw [show idx ([([107,101,121] : Str),([114,101,102] : Str),([110,117,109] : Str),([112,105,99,107] : Str),([100,97,121] : Str),([115,116,101,112] : Str),([115,117,109] : Str),([115,104,97,114,101] : Str),([99,111,112,121] : Str)]) (2 : Int) = some [110,117,109] from rfl]
  simp only [Option.bind_some]
  rw [cat_is (by simp),cat_is (by simp only [List.length_append,List.length_cons,List.length_nil]; omega),cat_is (by simp only [List.length_append,List.length_cons,List.length_nil]; omega)]
  simp only [Option.bind_some]
  rw [if_neg (by decide)]
  simp only [Option.bind_some]
  rw [if_neg (by decide)]
  simp only [Option.bind_some]
  have l1 := itoa_len (n := lo) (by unfold I64; omega)
  rw [if_pos (by decide),and_is (by simp only [List.length_append,List.length_cons,List.length_nil]; omega) hlo]
  simp only [Option.bind_some]
  rw [if_pos (by decide),and_is (by simp only [List.length_append,List.length_cons,List.length_nil]; omega) hhi]
  simp only [Option.bind_some]
  rw [if_neg (by decide)]
  simp [toks,textS]
theorem rLine4 {n o u : Str} {lo hi : Int} {w : List Str} {g : List Int} (hn : n.length ≤ 12) (ho : (namedS o).length ≤ 12) (hlo : -1000000000 ≤ lo ∧ lo ≤ 1000000000) (hhi : -1000000000 ≤ hi ∧ hi ≤ 1000000000) : fref09_line ⟨n,o,u,4,lo,hi,w,g⟩ = some (10 :: ([100,97,121] ++ toks [.str n,.str (namedS o),.int lo,.int hi])) := by
  unfold fref09_line fref09_Uses fref09_Words
  simp only [Option.bind_some]
  rw [show idx ([([107,101,121] : Str),([114,101,102] : Str),([110,117,109] : Str),([112,105,99,107] : Str),([100,97,121] : Str),([115,116,101,112] : Str),([115,117,109] : Str),([115,104,97,114,101] : Str),([99,111,112,121] : Str)]) (4 : Int) = some [100,97,121] from rfl]
  simp only [Option.bind_some]
  rw [cat_is (by simp),cat_is (by simp only [List.length_append,List.length_cons,List.length_nil]; omega),cat_is (by simp only [List.length_append,List.length_cons,List.length_nil]; omega)]
  simp only [Option.bind_some]
  rw [if_neg (by decide)]
  simp only [Option.bind_some]
  rw [if_pos (by decide),cat_is (by simp only [List.length_append,List.length_cons,List.length_nil]; omega),rNamed_is]
  simp only [Option.bind_some]
  rw [cat_is (by simp only [List.length_append,List.length_cons,List.length_nil]; omega)]
  simp only [Option.bind_some]
  have l1 := itoa_len (n := lo) (by unfold I64; omega)
  rw [if_pos (by decide),and_is (by simp only [List.length_append,List.length_cons,List.length_nil]; omega) hlo]
  simp only [Option.bind_some]
  rw [if_pos (by decide),and_is (by simp only [List.length_append,List.length_cons,List.length_nil]; omega) hhi]
  simp only [Option.bind_some]
  rw [if_neg (by decide)]
  simp [toks,textS]
theorem rLine5 {n o u : Str} {lo hi : Int} {w : List Str} {g : List Int} (hn : n.length ≤ 12) (ho : (namedS o).length ≤ 12) (hlo : -1000000000 ≤ lo ∧ lo ≤ 1000000000) (hhi : -1000000000 ≤ hi ∧ hi ≤ 1000000000) : fref09_line ⟨n,o,u,5,lo,hi,w,g⟩ = some (10 :: ([115,116,101,112] ++ toks [.str n,.str (namedS o),.int lo,.int hi])) := by
  unfold fref09_line fref09_Uses fref09_Words
  simp only [Option.bind_some]
  rw [show idx ([([107,101,121] : Str),([114,101,102] : Str),([110,117,109] : Str),([112,105,99,107] : Str),([100,97,121] : Str),([115,116,101,112] : Str),([115,117,109] : Str),([115,104,97,114,101] : Str),([99,111,112,121] : Str)]) (5 : Int) = some [115,116,101,112] from rfl]
  simp only [Option.bind_some]
  rw [cat_is (by simp),cat_is (by simp only [List.length_append,List.length_cons,List.length_nil]; omega),cat_is (by simp only [List.length_append,List.length_cons,List.length_nil]; omega)]
  simp only [Option.bind_some]
  rw [if_neg (by decide)]
  simp only [Option.bind_some]
  rw [if_pos (by decide),cat_is (by simp only [List.length_append,List.length_cons,List.length_nil]; omega),rNamed_is]
  simp only [Option.bind_some]
  rw [cat_is (by simp only [List.length_append,List.length_cons,List.length_nil]; omega)]
  simp only [Option.bind_some]
  have l1 := itoa_len (n := lo) (by unfold I64; omega)
  rw [if_pos (by decide),and_is (by simp only [List.length_append,List.length_cons,List.length_nil]; omega) hlo]
  simp only [Option.bind_some]
  rw [if_pos (by decide),and_is (by simp only [List.length_append,List.length_cons,List.length_nil]; omega) hhi]
  simp only [Option.bind_some]
  rw [if_neg (by decide)]
  simp [toks,textS]
theorem rLine6 {n o u : Str} {lo hi : Int} {w : List Str} {g : List Int} (hn : n.length ≤ 12) (ho : (namedS o).length ≤ 12) (hno : namedS o = o) : fref09_line ⟨n,o,u,6,lo,hi,w,g⟩ = some (10 :: ([115,117,109] ++ toks [.str n,.str o])) := by
  unfold fref09_line fref09_Uses fref09_Words
  simp only [Option.bind_some]
  rw [show idx ([([107,101,121] : Str),([114,101,102] : Str),([110,117,109] : Str),([112,105,99,107] : Str),([100,97,121] : Str),([115,116,101,112] : Str),([115,117,109] : Str),([115,104,97,114,101] : Str),([99,111,112,121] : Str)]) (6 : Int) = some [115,117,109] from rfl]
  simp only [Option.bind_some]
  rw [cat_is (by simp),cat_is (by simp only [List.length_append,List.length_cons,List.length_nil]; omega),cat_is (by simp only [List.length_append,List.length_cons,List.length_nil]; omega)]
  simp only [Option.bind_some]
  rw [if_neg (by decide)]
  simp only [Option.bind_some]
  rw [if_pos (by decide),cat_is (by simp only [List.length_append,List.length_cons,List.length_nil]; omega),rNamed_is]
  simp only [Option.bind_some]
  rw [cat_is (by simp only [List.length_append,List.length_cons,List.length_nil]; omega)]
  simp only [Option.bind_some]
  rw [if_neg (by decide)]
  simp only [Option.bind_some]
  rw [if_neg (by decide)]
  simp only [Option.bind_some]
  rw [if_neg (by decide)]
  simp [toks,textS,hno]
theorem rLine7 {n o u : Str} {lo hi : Int} {w : List Str} {g : List Int} (hn : n.length ≤ 12) (hu : u.length ≤ 12) (ho : (namedS o).length ≤ 12) (hno : namedS o = o) (hlo : -1000000000 ≤ lo ∧ lo ≤ 1000000000) (hhi : -1000000000 ≤ hi ∧ hi ≤ 1000000000) : fref09_line ⟨n,o,u,7,lo,hi,w,g⟩ = some (10 :: ([115,104,97,114,101] ++ toks [.str n,.str u,.str o,.int lo,.int hi])) := by
  unfold fref09_line fref09_Uses fref09_Words
  simp only [Option.bind_some]
  rw [show idx ([([107,101,121] : Str),([114,101,102] : Str),([110,117,109] : Str),([112,105,99,107] : Str),([100,97,121] : Str),([115,116,101,112] : Str),([115,117,109] : Str),([115,104,97,114,101] : Str),([99,111,112,121] : Str)]) (7 : Int) = some [115,104,97,114,101] from rfl]
  simp only [Option.bind_some]
  rw [cat_is (by simp),cat_is (by simp only [List.length_append,List.length_cons,List.length_nil]; omega),cat_is (by simp only [List.length_append,List.length_cons,List.length_nil]; omega)]
  simp only [Option.bind_some]
  rw [if_pos (by decide),cat_is (by simp only [List.length_append,List.length_cons,List.length_nil]; omega),cat_is (by simp only [List.length_append,List.length_cons,List.length_nil]; omega)]
  simp only [Option.bind_some]
  rw [if_pos (by decide),cat_is (by simp only [List.length_append,List.length_cons,List.length_nil]; omega),rNamed_is]
  simp only [Option.bind_some]
  rw [cat_is (by simp only [List.length_append,List.length_cons,List.length_nil]; omega)]
  simp only [Option.bind_some]
  have l1 := itoa_len (n := lo) (by unfold I64; omega)
  rw [if_pos (by decide),and_is (by simp only [List.length_append,List.length_cons,List.length_nil]; omega) hlo]
  simp only [Option.bind_some]
  rw [if_pos (by decide),and_is (by simp only [List.length_append,List.length_cons,List.length_nil]; omega) hhi]
  simp only [Option.bind_some]
  rw [if_neg (by decide)]
  simp [toks,textS,hno]
theorem rLine8 {n o u : Str} {lo hi : Int} {w : List Str} {g : List Int} (hn : n.length ≤ 12) (hu : u.length ≤ 12) (ho : (namedS o).length ≤ 12) (hno : namedS o = o) : fref09_line ⟨n,o,u,8,lo,hi,w,g⟩ = some (10 :: ([99,111,112,121] ++ toks [.str n,.str u,.str o])) := by
  unfold fref09_line fref09_Uses fref09_Words
  simp only [Option.bind_some]
  rw [show idx ([([107,101,121] : Str),([114,101,102] : Str),([110,117,109] : Str),([112,105,99,107] : Str),([100,97,121] : Str),([115,116,101,112] : Str),([115,117,109] : Str),([115,104,97,114,101] : Str),([99,111,112,121] : Str)]) (8 : Int) = some [99,111,112,121] from rfl]
  simp only [Option.bind_some]
  rw [cat_is (by simp),cat_is (by simp only [List.length_append,List.length_cons,List.length_nil]; omega),cat_is (by simp only [List.length_append,List.length_cons,List.length_nil]; omega)]
  simp only [Option.bind_some]
  rw [if_pos (by decide),cat_is (by simp only [List.length_append,List.length_cons,List.length_nil]; omega),cat_is (by simp only [List.length_append,List.length_cons,List.length_nil]; omega)]
  simp only [Option.bind_some]
  rw [if_pos (by decide),cat_is (by simp only [List.length_append,List.length_cons,List.length_nil]; omega),rNamed_is]
  simp only [Option.bind_some]
  rw [cat_is (by simp only [List.length_append,List.length_cons,List.length_nil]; omega)]
  simp only [Option.bind_some]
  rw [if_neg (by decide)]
  simp only [Option.bind_some]
  rw [if_neg (by decide)]
  simp only [Option.bind_some]
  rw [if_neg (by decide)]
  simp [toks,textS,hno]

end Go.Proofs.YthdfmpocknmleaaGreatDoor

namespace Go.Proofs.YthdfmpocknmleaaGreatDoor
open Go.Sim

/-- A line of a field without its end. -/
def bodyS (f : Sapi_Field) : Str := wordS f ++ toks (itemsS f)
theorem toks_pairs (l : List (Str × Int)) : toks (l.flatMap fun p => [AnyV.str p.1,AnyV.int p.2]) = l.flatMap fun p => (32 :: p.1) ++ (32 :: Lib.itoa p.2) := by
  induction l with
  | nil => rfl
  | cons a l ih =>
    rw [List.flatMap_cons,List.flatMap_cons,← ih]
    simp [toks,textS]
theorem rLine3 {n o u : Str} {lo hi : Int} {w : List Str} {g : List Int} (hn : n.length ≤ 12) (hl : w.length = g.length) (h12 : w.length ≤ 12) (hw : ∀ s ∈ w,s.length ≤ 12) (hg : ∀ x ∈ g,0 ≤ x ∧ x ≤ 1048576) :
    fref09_line ⟨n,o,u,3,lo,hi,w,g⟩ = some (10 :: ([112,105,99,107] ++ toks ([.str n,.int (w.length : Int)] ++ (w.zip g).flatMap fun p => [.str p.1,.int p.2]))) := by
  have hz : (w.zip g).length = w.length := by rw [List.length_zip]; omega
  unfold fref09_line fref09_Uses fref09_Words
  simp only [Option.bind_some]
  rw [show idx ([([107,101,121] : Str),([114,101,102] : Str),([110,117,109] : Str),([112,105,99,107] : Str),([100,97,121] : Str),([115,116,101,112] : Str),([115,117,109] : Str),([115,104,97,114,101] : Str),([99,111,112,121] : Str)]) (3 : Int) = some [112,105,99,107] from rfl]
  simp only [Option.bind_some]
  rw [cat_is (by simp),cat_is (by simp only [List.length_append,List.length_cons,List.length_nil]; omega),cat_is (by simp only [List.length_append,List.length_cons,List.length_nil]; omega)]
  simp only [Option.bind_some]
  rw [if_neg (by decide)]
  simp only [Option.bind_some]
  rw [if_neg (by decide)]
  simp only [Option.bind_some]
  rw [if_neg (by decide)]
  simp only [Option.bind_some]
  rw [if_neg (by decide)]
  simp only [Option.bind_some]
  have l1 := itoa_len (n := (w.length : Int)) (by unfold I64; omega)
  rw [if_pos (by decide),and_is (by simp only [List.length_append,List.length_cons,List.length_nil]; omega) (by omega)]
  simp only [Option.bind_some]
  have lp : ∀ p ∈ w.zip g,p.1.length ≤ 12 ∧ 0 ≤ p.2 ∧ p.2 ≤ 1048576 ∧ (Lib.itoa p.2).length ≤ 20 := fun p hp => by
    obtain ⟨a,b⟩ := p
    have h := List.of_mem_zip hp
    have h2 := hg b h.2
    exact ⟨hw a h.1,h2.1,h2.2,itoa_len (by unfold I64; dsimp only; omega)⟩
  rw [app_loop (w.zip g) (fun p => (32 :: p.1) ++ (32 :: Lib.itoa p.2)) 40 (fun p hp => ?_) _ (fun k hk acc hacc => ?_) (fun acc => ?_)]
  · simp only [Option.bind_some]
    have e : ∀ a b : List AnyV,toks (a ++ b) = toks a ++ toks b := fun a b => by unfold toks; rw [List.flatMap_append]
    rw [e,toks_pairs]
    simp [toks,textS]
  · have := lp p hp
    simp only [List.length_append,List.length_cons]; omega
  · have hk' : k < w.length := by omega
    have hp := lp _ (List.getElem_mem hk)
    rw [List.getElem_zip] at hp ⊢
    dsimp only at hp ⊢
    simp only [List.length_append,List.length_cons,List.length_nil] at hacc
    rw [if_pos (decide_eq_true (Int.ofNat_lt.2 hk')),cat_is (by rw [List.length_singleton]; omega),idx_lt hk',idx_lt (show k < g.length by omega)]
    simp only [Option.bind_some]
    rw [cat_is (by rw [List.length_append,List.length_singleton]; omega)]
    simp only [Option.bind_some]
    rw [and_is (by rw [List.length_append,List.length_append,List.length_singleton]; omega) (by omega),w64_succ hk' (by omega)]
    simp
  · rw [hz,if_neg (by simp)]
theorem rLine_is {f : Sapi_Field} (h : fieldS f = true) : fref09_line f = some (10 :: bodyS f) := by
  unfold fieldS at h
  simp only [Bool.and_eq_true] at h
  obtain ⟨⟨hn,_⟩,hp⟩ := h
  have hnl := nameS_len hn
  obtain ⟨n,o,u,k,lo,hi,w,g⟩ := f
  have nl : ∀ {s : Str},nameS s = true → (namedS s).length ≤ 12 := fun {s} hs => by rw [named_id hs]; exact nameS_len hs
  unfold partS at hp
  dsimp only at hp hn hnl
  by_cases c0 : k = 0
  · subst c0
    rw [if_pos rfl] at hp
    have := inW_le hp
    rw [rLine0 hnl (by omega)]; rfl
  rw [if_neg c0] at hp
  by_cases c1 : k = 1
  · subst c1
    rw [if_pos rfl] at hp
    simp only [Bool.and_eq_true] at hp
    have := span_le hp.2
    rw [rLine1 hnl (nl hp.1) (by omega) (by omega)]; rfl
  rw [if_neg c1] at hp
  by_cases c2 : k = 2
  · subst c2
    rw [if_pos rfl] at hp
    have := span_le hp
    rw [rLine2 hnl (by omega) (by omega)]; rfl
  rw [if_neg c2] at hp
  by_cases c3 : k = 3
  · subst c3
    rw [if_pos rfl] at hp
    simp only [pickS,Bool.and_eq_true,List.all_eq_true,beq_iff_eq] at hp
    obtain ⟨hg,⟨⟨hw,hl⟩,_⟩,hws⟩ := hp
    have hw' := (inW_le hw).2
    rw [rLine3 hnl (by omega) (by omega) (fun s hs => nameS_len (hws s hs)) (fun x hx => inW_le (hg x hx))]; rfl
  rw [if_neg c3] at hp
  by_cases c4 : k = 4
  · subst c4
    rw [if_pos rfl] at hp
    simp only [Bool.and_eq_true] at hp
    have := span_le hp.2
    have ho : (namedS o).length ≤ 12 := by
      by_cases hs : o = []
      · subst hs; decide
      · exact nl (by simpa [hs] using hp.1)
    rw [rLine4 hnl ho (by omega) (by omega)]; rfl
  rw [if_neg c4] at hp
  by_cases c5 : k = 5
  · subst c5
    rw [if_pos rfl] at hp
    simp only [Bool.and_eq_true] at hp
    have := span_le hp.2
    rw [rLine5 hnl (nl hp.1) (by omega) (by omega)]; rfl
  rw [if_neg c5] at hp
  by_cases c6 : k = 6
  · subst c6
    rw [if_pos rfl] at hp
    rw [rLine6 hnl (nl hp) (named_id hp)]; rfl
  rw [if_neg c6] at hp
  by_cases c7 : k = 7
  · subst c7
    rw [if_pos rfl] at hp
    simp only [Bool.and_eq_true] at hp
    have := span_le hp.2
    rw [rLine7 hnl (nameS_len hp.1.2) (nl hp.1.1) (named_id hp.1.1) (by omega) (by omega)]; rfl
  rw [if_neg c7] at hp
  by_cases c8 : k = 8
  · subst c8
    rw [if_pos rfl] at hp
    simp only [Bool.and_eq_true] at hp
    rw [rLine8 hnl (nameS_len hp.2) (nl hp.1) (named_id hp.1)]; rfl
  rw [if_neg c8] at hp
  cases hp

end Go.Proofs.YthdfmpocknmleaaGreatDoor

namespace Go.Proofs.YthdfmpocknmleaaGreatDoor
open Go.Sim

def kindR (k : Sapi_Kind) : Str := (10 :: ([107,105,110,100] ++ toks [.str k.Name,.int k.Lo,.int k.Hi])) ++ k.Fields.flatMap fun f => 10 :: bodyS f
def moveR (m : A2_Int) : Str := 10 :: ([109,111,118,101] ++ toks [.int m.a0,.int m.a1])
def lifeR (l : Sapi_Life) : Str := (10 :: ([108,105,102,101] ++ toks ([.str l.Name,.int (l.States.length : Int)] ++ l.States.map .str))) ++ l.Moves.flatMap moveR
def ruleR (r : Sapi_Rule) : Str := 10 :: ([114,117,108,101] ++ toks (ruleItems r))
def headR (x : Sapi_Schema) : Str := [115,99,104,101,109,97] ++ (32 :: Lib.itoa x.Version)
/-- The source without its end. -/
def srcR (x : Sapi_Schema) : Str := headR x ++ x.Kinds.flatMap kindR ++ x.Lives.flatMap lifeR ++ x.Rules.flatMap ruleR
theorem shift {α : Type} {l : List α} {g h : α → Str} (e : ∀ a ∈ l,[10] ++ g a = h a ++ [10]) : [10] ++ l.flatMap g = l.flatMap h ++ [10] := by
  induction l with
  | nil => rfl
  | cons a l ih =>
    rw [List.flatMap_cons,List.flatMap_cons,← List.append_assoc,e a List.mem_cons_self,List.append_assoc,ih fun b hb => e b (List.mem_cons_of_mem _ hb),List.append_assoc]
theorem kind_shift (k : Sapi_Kind) : [10] ++ kindSrc k = kindR k ++ [10] := by
  have := shift (l := k.Fields) (g := fieldLine) (h := fun f => 10 :: bodyS f) fun f _ => rfl
  unfold kindSrc kindR lineS
  rw [List.append_assoc _ [10],this]
  simp
theorem life_shift (l : Sapi_Life) : [10] ++ lifeSrc l = lifeR l ++ [10] := by
  have := shift (l := l.Moves) (g := moveSrc) (h := moveR) fun m _ => rfl
  unfold lifeSrc lifeR lineS
  rw [List.append_assoc _ [10],this]
  simp
theorem src_shift (x : Sapi_Schema) : srcS x = srcR x ++ [10] := by
  have e1 := shift (l := x.Kinds) (g := kindSrc) (h := kindR) fun k _ => kind_shift k
  have e2 := shift (l := x.Lives) (g := lifeSrc) (h := lifeR) fun k _ => life_shift k
  have e3 := shift (l := x.Rules) (g := ruleSrc) (h := ruleR) fun k _ => rfl
  have e0 : lineS [115,99,104,101,109,97] [.int x.Version] = headR x ++ [10] := by simp [lineS,headR,toks,textS]
  unfold srcS srcR
  rw [e0,List.append_assoc (headR x),e1,← List.append_assoc,List.append_assoc _ [10],e2,← List.append_assoc,List.append_assoc _ [10],e3]
  simp
theorem shift_len {a b : Str} (h : [10] ++ a = b ++ [10]) : a.length = b.length := by
  have := congrArg List.length h
  simp only [List.length_append,List.length_cons,List.length_nil] at this
  omega

theorem rSource_is {x : Sapi_Schema} (h : ValidOk x) : fref09_Source x = some (srcR x ++ [10]) := by
  have hv := h.version
  have l0 : (headR x).length ≤ 30 := by
    have := itoa_len (n := x.Version) (by unfold I64; omega)
    unfold headR
    simp only [List.length_append,List.length_cons,List.length_nil]; omega
  have kl : ∀ k ∈ x.Kinds,(kindR k).length ≤ 50000 := fun k hk => by rw [← shift_len (kind_shift k)]; exact kindSrc_len (h.kind k hk)
  have ll : ∀ k ∈ x.Lives,(lifeR k).length ≤ 20000 := fun k hk => by rw [← shift_len (life_shift k)]; exact lifeSrc_len (h.life k hk)
  have rl : ∀ k ∈ x.Rules,(ruleR k).length ≤ 1000 := fun k hk => by
    have e : [10] ++ ruleSrc k = ruleR k ++ [10] := rfl
    rw [← shift_len e]; exact ruleSrc_len (h.rule k hk)
  have lk := flat_len kl
  have ll' := flat_len ll
  have lr := flat_len rl
  have nk := h.kinds
  have nl := h.lives
  have nr := h.rules
  unfold fref09_Source
  have e0 : fref09_and [115,99,104,101,109,97] x.Version = some (headR x) := and_is (by decide) (by omega)
  rw [e0]
  simp only [Option.bind_some]
  rw [app_loop x.Kinds kindR 50000 kl (headR x) (fun k hk acc hacc => ?_) (fun acc => if_neg (by simp))]
  · simp only [Option.bind_some]
    rw [app_loop x.Lives lifeR 20000 ll (headR x ++ x.Kinds.flatMap kindR) (fun k hk acc hacc => ?_) (fun acc => if_neg (by simp))]
    · simp only [Option.bind_some]
      rw [app_loop x.Rules ruleR 1000 rl (headR x ++ x.Kinds.flatMap kindR ++ x.Lives.flatMap lifeR) (fun k hk acc hacc => ?_) (fun acc => if_neg (by simp))]
      · simp only [Option.bind_some]
        rw [cat_is (by simp only [List.length_append,List.length_cons,List.length_nil]; omega)]
        rfl
      · have hr := h.rule _ (List.getElem_mem hk)
        simp only [ruleS,Bool.and_eq_true] at hr
        obtain ⟨⟨⟨⟨⟨h1,h2⟩,h3⟩,h4⟩,_⟩,h5⟩ := hr
        have hN := inW_le h5
        have n1 := nameS_len h1
        have n2 := nameS_len h2
        have na := text_len (named_v h3)
        have nb := text_len (named_v h4)
        have na' : (namedS x.Rules[k].A).length ≤ 100 := na
        have nb' : (namedS x.Rules[k].B).length ≤ 100 := nb
        simp only [List.length_append] at hacc
        rw [if_pos (decide_eq_true (Int.ofNat_lt.2 hk))]
        dsimp only
        rw [idx_lt hk]
        simp only [Option.bind_some]
        rw [rNamed_is,rNamed_is]
        simp only [Option.bind_some]
        rw [cat_is (by simp only [List.length_cons,List.length_nil]; omega),cat_is (by simp only [List.length_append,List.length_cons,List.length_nil]; omega),
          cat_is (by simp only [List.length_append,List.length_cons,List.length_nil]; omega),cat_is (by simp only [List.length_append,List.length_cons,List.length_nil]; omega),
          cat_is (by simp only [List.length_append,List.length_cons,List.length_nil]; omega),cat_is (by simp only [List.length_append,List.length_cons,List.length_nil]; omega),
          cat_is (by simp only [List.length_append,List.length_cons,List.length_nil]; omega),cat_is (by simp only [List.length_append,List.length_cons,List.length_nil]; omega)]
        simp only [Option.bind_some]
        rw [and_is (by simp only [List.length_append,List.length_cons,List.length_nil]; omega) (by omega),w64_succ hk (by omega)]
        simp [ruleR,ruleItems,toks,textS]
    · have hl := h.life _ (List.getElem_mem hk)
      simp only [lifeS,Bool.and_eq_true,List.all_eq_true,decide_eq_true_eq] at hl
      obtain ⟨⟨⟨⟨h1,h2⟩,h3⟩,h4⟩,h5⟩ := hl
      have hS := inW_le h2
      have n1 := nameS_len h1
      have l1 := itoa_len (n := (x.Lives[k].States.length : Int)) (by unfold I64; omega)
      simp only [List.length_append] at hacc
      rw [if_pos (decide_eq_true (Int.ofNat_lt.2 hk))]
      dsimp only
      rw [idx_lt hk]
      simp only [Option.bind_some]
      rw [cat_is (by simp only [List.length_cons,List.length_nil]; omega),cat_is (by simp only [List.length_append,List.length_cons,List.length_nil]; omega)]
      simp only [Option.bind_some]
      rw [and_is (by simp only [List.length_append,List.length_cons,List.length_nil]; omega) (by omega)]
      simp only [Option.bind_some]
      rw [app_loop x.Lives[k].States (fun s => 32 :: s) 20 (fun s hs => by have := nameS_len (h3 s hs); rw [List.length_cons]; omega) _ (fun q hq acc2 hacc2 => ?_) (fun acc => if_neg (by simp))]
      · simp only [Option.bind_some]
        have ls := flat_len (l := x.Lives[k].States) (g := fun s => 32 :: s) (B := 20) (fun s hs => by have := nameS_len (h3 s hs); rw [List.length_cons]; omega)
        rw [app_loop x.Lives[k].Moves moveR 300 (fun m hm => ?_) _ (fun q hq acc2 hacc2 => ?_) (fun acc => if_neg (by simp))]
        · simp only [Option.bind_some]
          rw [w64_succ hk (by omega)]
          have e : (x.Lives[k].States.map AnyV.str).flatMap (fun v => 32 :: textS v) = x.Lives[k].States.flatMap fun s => 32 :: s := by
            rw [List.flatMap_map]; rfl
          simp [lifeR,toks,textS,← e]
        · have e : [10] ++ moveSrc m = moveR m ++ [10] := rfl
          rw [← shift_len e]; exact moveSrc_len (move_v (by omega) (h5 m hm))
        · have hm := h5 _ (List.getElem_mem hq)
          simp only [moveS,Bool.and_eq_true] at hm
          have m1 := inW_le hm.1
          have m2 := inW_le hm.2
          have i1 := itoa_len (n := x.Lives[k].Moves[q].a0) (by unfold I64; omega)
          simp only [List.length_append,List.length_cons,List.length_nil] at hacc2
          rw [if_pos (decide_eq_true (Int.ofNat_lt.2 hq))]
          dsimp only
          rw [cat_is (by simp only [List.length_cons,List.length_nil]; omega),idx_lt hq]
          simp only [Option.bind_some]
          rw [and_is (by simp only [List.length_append,List.length_cons,List.length_nil]; omega) (by omega)]
          simp only [Option.bind_some]
          rw [and_is (by simp only [List.length_append,List.length_cons,List.length_nil]; omega) (by omega),w64_succ hq (by omega)]
          simp [moveR,toks,textS]
      · have hs := nameS_len (h3 _ (List.getElem_mem hq))
        simp only [List.length_append,List.length_cons,List.length_nil] at hacc2
        rw [if_pos (decide_eq_true (Int.ofNat_lt.2 hq))]
        dsimp only
        rw [cat_is (by simp only [List.length_cons,List.length_nil]; omega),idx_lt hq]
        simp only [Option.bind_some]
        rw [cat_is (by simp only [List.length_append,List.length_cons,List.length_nil]; omega),w64_succ hq (by omega)]
        simp
  · have hk' := h.kind _ (List.getElem_mem hk)
    simp only [kindS,Bool.and_eq_true,List.all_eq_true,decide_eq_true_eq] at hk'
    obtain ⟨⟨⟨h1,h2⟩,h3⟩,h4⟩ := hk'
    have hS := span_le h2
    have n1 := nameS_len h1
    have l1 := itoa_len (n := x.Kinds[k].Lo) (by unfold I64; omega)
    have l2 := itoa_len (n := x.Kinds[k].Hi) (by unfold I64; omega)
    rw [if_pos (decide_eq_true (Int.ofNat_lt.2 hk))]
    dsimp only
    rw [idx_lt hk]
    simp only [Option.bind_some]
    rw [cat_is (by simp only [List.length_cons,List.length_nil]; omega),cat_is (by simp only [List.length_append,List.length_cons,List.length_nil]; omega)]
    simp only [Option.bind_some]
    rw [and_is (by simp only [List.length_append,List.length_cons,List.length_nil]; omega) (by omega)]
    simp only [Option.bind_some]
    rw [and_is (by simp only [List.length_append,List.length_cons,List.length_nil]; omega) (by omega)]
    simp only [Option.bind_some]
    have fl : ∀ f ∈ x.Kinds[k].Fields,(10 :: bodyS f).length ≤ 4000 := fun f hf => by
      have e : [10] ++ fieldLine f = (10 :: bodyS f) ++ [10] := rfl
      rw [← shift_len e]; exact fieldLine_len (fieldS_ok (h4 f hf))
    rw [app_loop x.Kinds[k].Fields (fun f => 10 :: bodyS f) 4000 fl _ (fun q hq acc2 hacc2 => ?_) (fun acc => if_neg (by simp))]
    · simp only [Option.bind_some]
      rw [w64_succ hk (by omega)]
      simp [kindR,toks,textS]
    · have hf := fl _ (List.getElem_mem hq)
      simp only [List.length_append,List.length_cons,List.length_nil] at hacc2
      rw [if_pos (decide_eq_true (Int.ofNat_lt.2 hq))]
      dsimp only
      rw [idx_lt hq]
      simp only [Option.bind_some]
      rw [rLine_is (h4 _ (List.getElem_mem hq))]
      simp only [Option.bind_some]
      rw [cat_is (by omega),w64_succ hq (by omega)]
      rfl

theorem rValid_is {x : Sapi_Schema} (h : Fine x) : fref09_Valid x = some (validE x) := by
  obtain ⟨⟨a1,a2⟩,⟨b1,b2⟩,c⟩ := h
  have n1 : ∀ (n : Nat) (m : Int),decide ((n : Int) > m) = !decide ((n : Int) ≤ m) := fun n m => by
    by_cases h : (n : Int) ≤ m
    · rw [decide_eq_true h,decide_eq_false (by omega)]; rfl
    · rw [decide_eq_false h,decide_eq_true (by omega)]; rfl
  unfold fref09_Valid
  rw [show fref09_within x.Version 0 1048576 = some (inW x.Version 0 1048576) from rfl]
  simp only [Option.bind_some]
  rw [n1,n1,n1,scan_all x.Kinds kindS 1 (fun k hk => ?_) (if_neg (by simp)),scan_all x.Lives lifeS 1 (fun k hk => ?_) (if_neg (by simp)),scan_all x.Rules ruleS 1 (fun k hk => ?_) (if_neg (by simp))]
  · unfold validE
    cases hv : validS x with
    | true =>
      have hs := rSource_is (validS_ok hv)
      rw [← src_shift] at hs
      simp only [validS,Bool.and_eq_true] at hv
      obtain ⟨⟨⟨⟨⟨⟨h1,h2⟩,h3⟩,h4⟩,h5⟩,h6⟩,h7⟩ := hv
      rw [h1,h2,h3,h4,h5,h6,h7,hs]
      simp only [Bool.not_true,Bool.or_self,if_true,Option.bind_some]
      rw [if_neg (by decide)]
      by_cases hl : (srcS x).length > 8192
      · rw [if_pos (by simp; omega),if_pos hl]
      · rw [if_neg (by simp; omega),if_neg hl]
    | false =>
      show _ = some (1 : Int)
      unfold validS at hv
      cases h1 : inW x.Version 0 1048576 <;> cases h2 : decide ((x.Kinds.length : Int) ≤ 6) <;> cases h3 : decide ((x.Lives.length : Int) ≤ 6) <;> cases h4 : decide ((x.Rules.length : Int) ≤ 16) <;>
        cases h5 : x.Kinds.all kindS <;> cases h6 : x.Lives.all lifeS <;> cases h7 : x.Rules.all ruleS <;> first | rfl | (rw [h1,h2,h3,h4,h5,h6,h7] at hv; cases hv)
  · rw [if_pos (decide_eq_true (Int.ofNat_lt.2 hk)),idx_lt hk]
    simp only [Option.bind_some]
    rw [rRule_is]
    simp only [Option.bind_some]
    rw [w64_succ hk (by omega)]
    cases ruleS x.Rules[k] <;> rfl
  · have hl := b2 _ (List.getElem_mem hk)
    rw [if_pos (decide_eq_true (Int.ofNat_lt.2 hk)),idx_lt hk]
    simp only [Option.bind_some]
    rw [rLife_is hl.1 hl.2]
    simp only [Option.bind_some]
    rw [w64_succ hk (by omega)]
    cases lifeS x.Lives[k] <;> rfl
  · rw [if_pos (decide_eq_true (Int.ofNat_lt.2 hk)),idx_lt hk]
    simp only [Option.bind_some]
    rw [rKind_is (a2 _ (List.getElem_mem hk))]
    simp only [Option.bind_some]
    rw [w64_succ hk (by omega)]
    cases kindS x.Kinds[k] <;> rfl

end Go.Proofs.YthdfmpocknmleaaGreatDoor

namespace Go.Proofs.YthdfmpocknmleaaGreatDoor
open Go.Sim

theorem field_neg {x : Sapi_Schema} {k j : Int} (h : j < 0) : field? x k j = none := by
  unfold field?; rw [if_neg (by omega)]
theorem field_mem {x : Sapi_Schema} {k j : Int} {f : Sapi_Field} (h : field? x k j = some f) : ∃ q ∈ x.Kinds,f ∈ q.Fields := by
  obtain ⟨q,_,hj,_,hf,hm,_⟩ := field_some h
  rw [idx_int _ hj] at hf
  exact ⟨q,hm,List.mem_of_getElem? hf⟩
theorem rAbove_is {x : Sapi_Schema} {k j : Int} {q : Sapi_Kind} {f : Sapi_Field} (hx : Few x) (hq : idx x.Kinds k = some q) (hf : field? x k j = some f) :
    fref10_Above x k j = some (if (topS x k j f).2 = true then ((topS x k j f).1.Kind,(topS x k j f).1) else (-1,zeroField)) := by
  obtain ⟨q',hk,hj,hq',hqf,hqm,hkl,hjl⟩ := field_some hf
  rw [hq] at hq'; cases hq'
  unfold fref10_Above topS
  rw [ref10_Up_is hx]
  simp only [Option.bind_some]
  by_cases hu : upIx x k j < 0
  · rw [if_pos (by simpa using hu),if_pos hu]; rfl
  · rw [if_neg (by simpa using hu),if_neg hu]
    have h1 := upIx_lt x k j hk
    obtain ⟨r,hr,hrm⟩ := idx_some (l := x.Kinds) (i := upIx x k j) (by omega) (by omega)
    rw [hr,hq]
    simp only [Option.bind_some]
    rw [hqf]
    simp only [Option.bind_some]
    rw [ref10_Field_is (by have := hx.2 r hrm; omega)]
    simp only [Option.bind_some]
    have hrange := firstIdx_range r.Fields fun g => g.Name == f.Of
    have hr2 : fieldIx r f.Of < r.Fields.length := hrange.2
    by_cases hi : fieldIx r f.Of < 0
    · rw [if_pos (by simpa using hi),field_neg hi]; rfl
    · rw [if_neg (by simpa using hi)]
      obtain ⟨g,hg,_⟩ := idx_some (l := r.Fields) (i := fieldIx r f.Of) (by omega) hr2
      rw [field_of (by omega) (by omega) hr hg,hg]; rfl
theorem top_mem {x : Sapi_Schema} {k j : Int} {f : Sapi_Field} (h : (topS x k j f).2 = true) : ∃ q ∈ x.Kinds,(topS x k j f).1 ∈ q.Fields := by
  unfold topS at h ⊢
  split at h
  · cases h
  · rename_i hu
    rw [if_neg hu]
    split at h
    · cases h
    · rename_i q hq
      cases hf : field? x (upIx x k j) (fieldIx q f.Of) with
      | none => rw [hf] at h; cases h
      | some g => exact field_mem hf

/-- The kinds of fields are known. -/
def Known (x : Sapi_Schema) : Prop := ∀ q ∈ x.Kinds,∀ g ∈ q.Fields,0 ≤ g.Kind ∧ g.Kind ≤ 8
theorem valid_known {x : Sapi_Schema} (h : validE x = 0) : Known x := by
  intro q hq g hg
  unfold validE at h
  split at h
  · rename_i hv
    exact (fieldS_ok ((kind_v ((validS_ok hv).kind q hq)).2.2 g hg)).kind
  · cases h
theorem first1 (a : Bool) (c : Int) : firstS [⟨a,c⟩] = if a = true then c else 0 := rfl
theorem first2 (a b : Bool) (c d : Int) : firstS [⟨a,c⟩,⟨b,d⟩] = if a = true then c else if b = true then d else 0 := rfl
theorem rLeads_is {x : Sapi_Schema} {k j : Int} {q : Sapi_Kind} {f : Sapi_Field} (hx : Few x) (hl : x.Lives.length ≤ 1000) (hn : Known x) (hq : idx x.Kinds k = some q) (hf : field? x k j = some f) : fref10_leads x k j = some (leadE x q k j f) := by
  obtain ⟨q',hk,hj,hq',hqf,hqm,hkl,hjl⟩ := field_some hf
  rw [hq] at hq'; cases hq'
  have hab := rAbove_is hx hq hf
  have hkind : 0 ≤ f.Kind ∧ f.Kind ≤ 8 := by rw [idx_int _ hj] at hqf; exact hn q hqm f (List.mem_of_getElem? hqf)
  unfold fref10_leads
  rw [hq]
  simp only [Option.bind_some]
  rw [hqf]
  simp only [Option.bind_some]
  rw [ref10_Up_is hx,ref10_Field_is (by have := hx.2 q hqm; omega),sums_is hx hf]
  simp only [Option.bind_some]
  unfold jn
  dsimp only
  unfold leadE
  by_cases c0 : f.Kind = 0
  · rw [if_pos c0,first1,c0]
    by_cases hj0 : j > 0
    · rw [decide_eq_true hj0]; rfl
    · rw [decide_eq_false hj0]; rfl
  have n0 : (f.Kind == 0) = false := by simpa using c0
  rw [if_neg c0,n0]
  simp only [Bool.false_and]
  rw [if_neg (by decide),if_neg (by decide)]
  by_cases c1 : f.Kind = 1
  · rw [if_pos c1,first1,c1]
    show (if decide (upIx x k j < 0) = true then some 12 else some 0) = _
    by_cases hu : upIx x k j < 0
    · rw [if_pos (by simpa using hu),if_pos (by simpa using hu)]
    · rw [if_neg (by simpa using hu),if_neg (by simpa using hu)]
  rw [if_neg c1]
  by_cases c2 : f.Kind = 2
  · rw [c2]; rfl
  by_cases c3 : f.Kind = 3
  · rw [c3]; rfl
  have n1 : (f.Kind == 1) = false := by simpa using c1
  have n2 : (f.Kind == 2) = false := by simpa using c2
  have n3 : (f.Kind == 3) = false := by simpa using c3
  rw [n1,n2,n3]
  simp only [Bool.false_eq_true,if_false,Option.bind_some]
  by_cases c4 : f.Kind = 4
  · rw [if_pos c4,first1,if_pos (by simp [c4])]
    by_cases ho : f.Of = []
    · rw [if_pos (by simp [ho]),if_neg (by simp [ho])]
    · rw [if_neg (by simpa using ho)]
      have ho' : (f.Of != []) = true := by simpa using ho
      rw [ho',Bool.true_and]
      by_cases hr : fieldIx q f.Of < 0 ∨ fieldIx q f.Of ≥ j
      · have : (decide (fieldIx q f.Of < 0) || decide (fieldIx q f.Of ≥ j)) = true := by simpa using hr
        rw [this,Bool.true_or]; rfl
      · have e : (decide (fieldIx q f.Of < 0) || decide (fieldIx q f.Of ≥ j)) = false := by
          rw [Bool.eq_false_iff]; simpa using hr
        obtain ⟨g,hg,_⟩ := idx_some (l := q.Fields) (i := fieldIx q f.Of) (by omega) (by omega)
        rw [e,Bool.false_or,field_of hk (by omega) hq hg,hg]
        rw [if_neg (by decide)]
        simp only [Option.bind_some]
        cases g.Kind != 4 <;> rfl
  have n4 : (f.Kind == 4) = false := by simpa using c4
  rw [if_neg c4,n4,if_neg (by decide)]
  by_cases c5 : f.Kind = 5
  · rw [if_pos c5,first1,if_pos (by simp [c5]),scan_all x.Lives (fun l => !(l.Name == f.Of)) (0 : Int) (fun n hn => ?_) (if_neg (by simp))]
    · simp only [Option.bind_some]
      have e : (x.Lives.all fun l => !(l.Name == f.Of)) = !(x.Lives.any fun l => l.Name == f.Of) := by
        rw [List.not_any_eq_all_not]
      rw [e]
      cases (x.Lives.any fun l => l.Name == f.Of) <;> rfl
    · rw [if_pos (decide_eq_true (Int.ofNat_lt.2 hn)),idx_lt hn]
      simp only [Option.bind_some]
      rw [w64_succ hn (by omega)]
      cases x.Lives[n].Name == f.Of <;> rfl
  have n5 : (f.Kind == 5) = false := by simpa using c5
  rw [if_neg c5,n5,if_neg (by decide)]
  by_cases c6 : f.Kind = 6
  · rw [if_pos c6,first2,if_pos (by simp [c6])]
    cases decide ((sumIx x k f).1 < 0) <;> cases ((sumIx x k f).2.length : Int) != 1 <;> rfl
  have n6 : (f.Kind == 6) = false := by simpa using c6
  rw [if_neg c6,n6,if_neg (by decide)]
  unfold fref10_above
  rw [hab,hq]
  simp only [Option.bind_some]
  rw [hqf]
  simp only [Option.bind_some]
  by_cases hu : upIx x k j < 0
  · rw [if_pos (by simpa using hu)]
    by_cases c7 : f.Kind = 7
    · rw [if_pos c7,first2,if_pos (by simpa using hu)]; rfl
    · have c8 : f.Kind = 8 := by omega
      rw [if_neg c7,if_pos c8,first2,if_pos (by simpa using hu)]; rfl
  rw [if_neg (by simpa using hu)]
  have hud : decide (upIx x k j < 0) = false := by simpa using hu
  by_cases c7 : f.Kind = 7
  · have e7 : (f.Kind == 7) = true := by simp [c7]
    rw [if_pos c7,first2,hud,e7]
    cases ht : (topS x k j f).2 with
    | false => rfl
    | true =>
      simp only [Bool.false_eq_true,if_false,if_true]
      rw [ref10_Kind_is (by have := hx.1; omega)]
      cases h6 : ((topS x k j f).1.Kind != 6) with
      | true => rfl
      | false =>
        simp only [Sim.opt,beq_self_eq_true,if_true,Option.bind_some]
        cases kindIx x (topS x k j f).1.Of != k <;> rfl
  · have c8 : f.Kind = 8 := by omega
    have n7 : (f.Kind == 7) = false := by simpa using c7
    rw [if_neg c7,if_pos c8,first2,hud,n7]
    cases ht : (topS x k j f).2 with
    | false => rfl
    | true =>
      obtain ⟨r,hr,hg⟩ := top_mem ht
      have hgk := hn r hr _ hg
      have hz : (topS x k j f).1.Kind = 0 ∨ (topS x k j f).1.Kind = 1 ∨ (topS x k j f).1.Kind = 2 ∨ (topS x k j f).1.Kind = 3 ∨ (topS x k j f).1.Kind = 4 ∨ (topS x k j f).1.Kind = 5 ∨ (topS x k j f).1.Kind = 6 ∨ (topS x k j f).1.Kind = 7 ∨ (topS x k j f).1.Kind = 8 := by omega
      simp only [Bool.false_eq_true,if_false,if_true]
      unfold rightS
      rcases hz with h | h | h | h | h | h | h | h | h <;> rw [h] <;> rfl

end Go.Proofs.YthdfmpocknmleaaGreatDoor

namespace Go.Proofs.YthdfmpocknmleaaGreatDoor
open Go.Sim

theorem rRule_miss {x : Sapi_Schema} {k : Int} {q : Sapi_Kind} {n : Str} (hk : 0 ≤ k) (hq : idx x.Kinds k = some q) (hn : (n == ([] : Str)) = false) :
    (missS x k n = true ∧ fieldIx q n < 0) ∨ ∃ g,missS x k n = false ∧ 0 ≤ fieldIx q n ∧ idx q.Fields (fieldIx q n) = some g ∧ wrongS x k n = ((g.Kind != 2) && (g.Kind != 4)) := by
  have hd : decide (k < 0) = false := decide_eq_false (by omega)
  have hr2 : fieldIx q n < q.Fields.length := (firstIdx_range q.Fields fun g => g.Name == n).2
  unfold missS wrongS ruleAt
  rw [hq,hn,hd]
  dsimp only
  by_cases hi : fieldIx q n < 0
  · rw [field_neg hi]; exact .inl ⟨rfl,hi⟩
  · obtain ⟨g,hg,_⟩ := idx_some (l := q.Fields) (i := fieldIx q n) (by omega) hr2
    rw [field_of hk (by omega) hq hg]
    exact .inr ⟨g,rfl,by omega,hg,by simp⟩
theorem rRules_is {x : Sapi_Schema} {i : Nat} {r : Sapi_Rule} (hx : Few x) (hl : x.Rules.length ≤ 1000) (hi : i < x.Rules.length) (hr : x.Rules[i]? = some r) : fref10_rules x (i : Int) = some (ruleE x i r) := by
  unfold fref10_rules
  rw [idx_nat,hr]
  simp only [Option.bind_some]
  have hil : (x.Rules.take i).length = i := by rw [List.length_take]; omega
  rw [scan_all (x.Rules.take i) (fun s => !(s.Name == r.Name)) (7 : Int) (fun n hn => ?_) (by rw [hil]; exact if_neg (by simp))]
  · simp only [Option.bind_some]
    have e : ((x.Rules.take i).all fun s => !(s.Name == r.Name)) = !((x.Rules.take i).any fun s => s.Name == r.Name) := by
      rw [List.not_any_eq_all_not]
    rw [e]
    unfold ruleE
    cases hany : ((x.Rules.take i).any fun s => s.Name == r.Name) with
    | true => rfl
    | false =>
      simp only [Bool.not_false,if_true]
      rw [ref10_Kind_is (by have := hx.1; omega)]
      simp only [Option.bind_some]
      by_cases hk : kindIx x r.Kind < 0
      · rw [if_pos (by simpa using hk),decide_eq_true hk]; rfl
      · rw [if_neg (by simpa using hk),decide_eq_false hk]
        obtain ⟨q,hq,hqm⟩ := idx_some (l := x.Kinds) (i := kindIx x r.Kind) (by omega) (kindIx_lt x r.Kind).2
        rw [hq]
        unfold jn
        dsimp only
        have fin : ∀ {body : Int × Bool → Option ((Int × Bool) ⊕ (Bool ⊕ Int))},(∀ b,body (0,b) = if missS x (kindIx x r.Kind) r.A = true then some (.inr (.inr 12)) else some (.inl (1,b || wrongS x (kindIx x r.Kind) r.A))) →
            (∀ b,body (1,b) = if missS x (kindIx x r.Kind) r.B = true then some (.inr (.inr 12)) else some (.inl (2,b || wrongS x (kindIx x r.Kind) r.B))) → (∀ b,body (2,b) = some (.inr (.inl b))) →
            tailrec body (0,false) = some (if (missS x (kindIx x r.Kind) r.A || missS x (kindIx x r.Kind) r.B) = true then .inr 12 else .inl (wrongS x (kindIx x r.Kind) r.A || wrongS x (kindIx x r.Kind) r.B)) := fun h0 h1 h2 => by
          rw [tailrec_eq,h0]
          cases missS x (kindIx x r.Kind) r.A with
          | true => rfl
          | false =>
            rw [if_neg (by decide)]
            dsimp only
            rw [tailrec_eq,h1]
            cases missS x (kindIx x r.Kind) r.B with
            | true => rfl
            | false =>
              rw [if_neg (by decide)]
              dsimp only
              rw [tailrec_eq,h2]
              simp
        have step : ∀ (n : Str) (b : Bool) (c : Bool → Option ((Int × Bool) ⊕ (Bool ⊕ Int))),(if (n == ([] : Str)) = true then c b else (Option.some q).bind fun t55 => (Option.some n).bind fun t59 => (fref10_Field t55 t59).bind fun t61 => if decide (t61 < 0) = true then some (.inr (.inr 12)) else (Option.some q).bind fun t67 => (idx t67.Fields t61).bind fun t71 => c (b || ((t71.Kind != 2) && (t71.Kind != 4)))) =
            if missS x (kindIx x r.Kind) n = true then some (.inr (.inr 12)) else c (b || wrongS x (kindIx x r.Kind) n) := fun n b c => by
          cases hn : (n == ([] : Str)) with
          | true =>
            have hm : missS x (kindIx x r.Kind) n = false := by unfold missS; rw [hn]; rfl
            have hw : wrongS x (kindIx x r.Kind) n = false := by unfold wrongS; rw [hn]; rfl
            rw [hm,hw,if_pos rfl,if_neg (by decide),Bool.or_false]
          | false =>
            rw [if_neg (by decide)]
            simp only [Option.bind_some]
            rw [ref10_Field_is (by have := hx.2 q hqm; omega)]
            simp only [Option.bind_some]
            rcases rRule_miss (by omega) hq hn with ⟨hm,hi⟩ | ⟨g,hm,hi,hg,hw⟩
            · rw [hm,if_pos (by simpa using hi),if_pos rfl]
            · rw [hm,hw,if_neg (by simp; omega),if_neg (by decide),hg]; rfl
        rw [fin (fun b => (step r.A b fun p => some (.inl (1,p)))) (fun b => (step r.B b fun p => some (.inl (2,p)))) (fun b => rfl)]
        simp only [Option.bind_some]
        cases missS x (kindIx x r.Kind) r.A <;> cases missS x (kindIx x r.Kind) r.B <;> cases wrongS x (kindIx x r.Kind) r.A <;> cases wrongS x (kindIx x r.Kind) r.B <;> cases (r.A == r.B) <;> rfl
  · have hn' : n < i := by omega
    rw [if_pos (decide_eq_true (Int.ofNat_lt.2 hn')),idx_lt (show n < x.Rules.length by omega)]
    simp only [Option.bind_some]
    rw [w64_succ hn' (by omega),List.getElem_take]
    cases x.Rules[n].Name == r.Name <;> rfl

def toR (p : Styping_Problem) : Sref10_Problem := ⟨p.Kind,p.Field,p.Rule,p.Code⟩
theorem rAdd_is {k j r e : Int} {l : List Sref10_Problem} (h : l.length ≤ 1000000000) : fref10_add l k j r e = some (l ++ (prob k j r e).map toR) := by
  unfold fref10_add prob
  by_cases he : e = 0
  · rw [if_pos (by simp [he]),if_pos he,List.map_nil,List.append_nil]
  · rw [if_neg (by simpa using he),if_neg he,rm_le (by rw [List.length_singleton]; omega)]; rfl
theorem keyed_is (l : List Sapi_Field) : fref10_keyed l = some (!(((l.length : Int) == 0) || ((l.headD zeroField).Kind != 0))) := by
  unfold fref10_keyed
  cases l with
  | nil => rfl
  | cons f l =>
    have e : (((f :: l).length : Int) == 0) = false := by simp; omega
    rw [e,show idx (f :: l) (0 : Int) = some f from rfl,if_neg (by decide)]
    simp [bne]
theorem rCheck_is {x : Sapi_Schema} (h : Short x) : fref10_Check x = some ((checkS x).map toR) := by
  obtain ⟨hx,hfine,hlv,hrl⟩ := h
  unfold fref10_Check
  rw [rValid_is hfine]
  simp only [Option.bind_some]
  unfold checkS
  by_cases hv : validE x = 0
  · rw [if_neg (by simp [hv]),if_pos hv]
    have hn := valid_known hv
    have one : ∀ k j r e,((prob k j r e).map toR).length ≤ 1 := fun k j r e => by rw [List.length_map]; exact prob_len k j r e
    have b0 : ∀ j,((lifeP x j).map toR).length ≤ 1 := fun j => by rw [List.length_map]; exact lifeP_len x j
    have b1 : ((livesP x).map toR).length ≤ 1000 := by
      have := range_len x.Lives.length (lifeP x) 1 (fun j _ => lifeP_len x j)
      rw [List.length_map]
      unfold livesP; omega
    have kl : ∀ k,k < x.Kinds.length → ((kindP x k).map toR).length ≤ 1001 := fun k hk => by
      rw [List.length_map]
      unfold kindP
      rw [List.getElem?_eq_getElem hk]
      dsimp only
      have := fieldsP_len (x := x) (i := k) (hx.2 _ (List.getElem_mem hk))
      have := prob_len k (-1) (-1) (kindE x k x.Kinds[k])
      rw [List.length_append]; omega
    have b2 : ((kindsP x).map toR).length ≤ 1001000 := by
      have := range_len x.Kinds.length (fun k => (kindP x k).map toR) 1001 kl
      have := hx.1
      unfold kindsP
      rw [List.map_flatMap]
      omega
    have hk1 := hx.1
    rw [col_loop x.Lives.length (fun k => (lifeP x k).map toR) 1 (fun j _ => b0 j) [] (fun k hk acc hacc => ?_) (fun acc => if_neg (by simp))]
    · rw [show ([] : List Sref10_Problem) ++ (List.range x.Lives.length).flatMap (fun k => (lifeP x k).map toR) = (livesP x).map toR by unfold livesP; rw [List.map_flatMap]; rfl]
      simp only [Option.bind_some]
      rw [col_loop x.Kinds.length (fun k => (kindP x k).map toR) 1001 kl ((livesP x).map toR) (fun k hk acc hacc => ?_) (fun acc => if_neg (by simp))]
      · rw [show (livesP x).map toR ++ (List.range x.Kinds.length).flatMap (fun k => (kindP x k).map toR) = (livesP x).map toR ++ (kindsP x).map toR by unfold kindsP; rw [List.map_flatMap]]
        simp only [Option.bind_some]
        rw [col_loop x.Rules.length (fun k => (ruleP x k).map toR) 1 (fun j _ => by rw [List.length_map]; exact ruleP_len x j) ((livesP x).map toR ++ (kindsP x).map toR) (fun k hk acc hacc => ?_) (fun acc => if_neg (by simp))]
        · simp only [Option.bind_some]
          rw [List.map_append,List.map_append]
          unfold rulesP
          rw [List.map_flatMap]
        · rw [List.length_append] at hacc
          rw [if_pos (decide_eq_true (Int.ofNat_lt.2 hk))]
          dsimp only
          rw [rRules_is hx hrl hk (List.getElem?_eq_getElem hk)]
          simp only [Option.bind_some]
          rw [rAdd_is (by omega)]
          simp only [Option.bind_some]
          unfold ruleP
          rw [w64_succ hk (by omega),List.getElem?_eq_getElem hk]
      · have hq := idx_lt hk
        have hqf := hx.2 _ (List.getElem_mem hk)
        rw [if_pos (decide_eq_true (Int.ofNat_lt.2 hk))]
        dsimp only
        rw [hq]
        simp only [Option.bind_some]
        rw [ref10_Kind_is (by omega),keyed_is]
        simp only [Option.bind_some]
        have ek : (if decide (kindIx x x.Kinds[k].Name < (k : Int)) = true then (fref10_add acc (k : Int) (-1) (-1) 7).bind fun t70 => some t70 else (if (!!(((x.Kinds[k].Fields.length : Int) == 0) || ((x.Kinds[k].Fields.headD zeroField).Kind != 0))) = true then (fref10_add acc (k : Int) (-1) (-1) 11).bind fun t76 => some t76 else some acc).bind fun p320 => some p320) =
            some (acc ++ (prob (k : Int) (-1) (-1) (kindE x k x.Kinds[k])).map toR) := by
          unfold kindE
          rw [first2,rAdd_is (by omega),rAdd_is (by omega),Bool.not_not]
          cases decide (kindIx x x.Kinds[k].Name < (k : Int)) with
          | true => rfl
          | false =>
            cases (((x.Kinds[k].Fields.length : Int) == 0) || ((x.Kinds[k].Fields.headD zeroField).Kind != 0)) with
            | true => rfl
            | false => simp [prob]
        rw [ek]
        simp only [Option.bind_some]
        have pl := one k (-1) (-1) (kindE x k x.Kinds[k])
        rw [col_loop x.Kinds[k].Fields.length (fun j => (fieldP x k x.Kinds[k] j).map toR) 1 (fun j _ => by rw [List.length_map]; exact fieldP_len x k _ j) _ (fun j hj acc2 hacc2 => ?_) (fun acc => if_neg (by simp))]
        · simp only [Option.bind_some]
          unfold kindP
          rw [w64_succ hk (by omega),List.getElem?_eq_getElem hk,List.append_assoc,List.map_append]
          unfold fieldsP
          rw [List.map_flatMap]
        · rw [List.length_append] at hacc2
          rw [if_pos (decide_eq_true (Int.ofNat_lt.2 hj))]
          dsimp only
          rw [idx_lt hj]
          simp only [Option.bind_some]
          rw [ref10_Field_is (by omega)]
          simp only [Option.bind_some]
          have hf : field? x (k : Int) (j : Int) = some x.Kinds[k].Fields[j] := field_of (by omega) (by omega) hq (idx_lt hj)
          rw [rLeads_is hx hlv hn hq hf]
          simp only [Option.bind_some]
          rw [rAdd_is (by omega),rAdd_is (by omega)]
          simp only [Option.bind_some]
          unfold fieldP fieldE
          rw [w64_succ hj (by omega),List.getElem?_eq_getElem hj]
          dsimp only
          by_cases hd : fieldIx x.Kinds[k] x.Kinds[k].Fields[j].Name < (j : Int)
          · rw [if_pos (by simpa using hd),if_pos hd]; rfl
          · rw [if_neg (by simpa using hd),if_neg hd]; rfl
    · rw [List.length_nil] at hacc
      rw [if_pos (decide_eq_true (Int.ofNat_lt.2 hk))]
      dsimp only
      rw [rAdd_is (by omega)]
      simp only [Option.bind_some]
      have hil : (x.Lives.take k).length = k := by rw [List.length_take]; omega
      have hget : ∀ n,n < k → ∀ h : n < x.Lives.length,(x.Lives.take k)[n]? = some x.Lives[n] := fun n hn h => by
        rw [List.getElem?_take,if_pos hn,List.getElem?_eq_getElem h]
      refine scan_bind k (fun n => match x.Lives[n]? with | some m => m.Name == x.Lives[k].Name | none => false) acc (fun _ => acc ++ (prob (-1) (k : Int) (-1) 7).map toR) (fun n hn hp => ?_) (fun n hn hp => ?_) (if_neg (by simp)) (fun hp => ?_) (fun n hn hp => ?_)
      · rw [List.getElem?_eq_getElem (show n < x.Lives.length by omega)] at hp
        dsimp only at hp
        rw [if_pos (decide_eq_true (Int.ofNat_lt.2 hn)),idx_lt (show n < x.Lives.length by omega),idx_lt hk]
        simp only [Option.bind_some]
        rw [hp,if_neg (by decide),w64_succ hn (by omega)]
      · rw [List.getElem?_eq_getElem (show n < x.Lives.length by omega)] at hp
        dsimp only at hp
        rw [if_pos (decide_eq_true (Int.ofNat_lt.2 hn)),idx_lt (show n < x.Lives.length by omega),idx_lt hk]
        simp only [Option.bind_some]
        rw [hp,if_pos rfl]
      · have e : ((x.Lives.take k).any fun m => m.Name == x.Lives[k].Name) = false := by
          rw [List.any_eq_false]
          intro m hm
          obtain ⟨n,hn,rfl⟩ := List.getElem_of_mem hm
          have h1 := hp n (by omega)
          rw [List.getElem?_eq_getElem (show n < x.Lives.length by omega)] at h1
          dsimp only at h1
          rw [List.getElem_take,h1]; decide
        rw [w64_succ hk (by omega)]
        unfold lifeP lifeE
        rw [List.getElem?_eq_getElem hk]
        dsimp only
        rw [e]
        simp [firstS,prob]
      · have e : ((x.Lives.take k).any fun m => m.Name == x.Lives[k].Name) = true := by
          rw [List.getElem?_eq_getElem (show n < x.Lives.length by omega)] at hp
          exact List.any_eq_true.2 ⟨x.Lives[n],List.mem_of_getElem? (hget n hn (by omega)),hp⟩
        rw [w64_succ hk (by omega)]
        unfold lifeP lifeE
        rw [List.getElem?_eq_getElem hk]
        dsimp only
        rw [e]
        rfl
  · rw [if_pos (by simpa using hv),if_neg hv,rAdd_is (by simp)]
    unfold prob
    rw [if_neg hv]; rfl

end Go.Proofs.YthdfmpocknmleaaGreatDoor

/- typing.Check, as a plain function. No condition. -/
import Derived.Test.YthdfmpocknmleaaDoorTyA
namespace Go.Proofs.YthdfmpocknmleaaDoor
open Go.Sim

theorem rule_is {x : Sapi_Schema} {i : Nat} {r : Sapi_Rule} (hx : Few x) (hl : x.Rules.length ≤ 1000) (hi : i < x.Rules.length) (hr : x.Rules[i]? = some r) : ftyping_rule x (i : Int) = some (ruleE x i r) := by
  unfold ftyping_rule
  rw [idx_nat,hr]
  simp only [Option.bind_some]
  have hs : Sim.sub x.Rules 0 (i : Int) = some (x.Rules.take i) := by
    unfold Sim.sub
    rw [if_pos ⟨by decide,by omega,by omega⟩]; simp
  rw [hs]
  simp only [Option.bind_some]
  rw [containsRule (f := fun x0 => ftyping_ruleq1 x0 r) (p := fun s => s.Name == r.Name) (by rw [List.length_take]; omega) (fun s _ => rfl)]
  simp only [Option.bind_some]
  rw [typing_Kind_is (by have := hx.1; omega)]
  simp only [Option.bind_some]
  have hk := (kindIx_lt x r.Kind).2
  let st : Nat → Int × Bool × Bool := fun n => match n with
    | 0 => (0,decide (kindIx x r.Kind < 0),false)
    | 1 => (1,decide (kindIx x r.Kind < 0) || missS x (kindIx x r.Kind) r.A,false || wrongS x (kindIx x r.Kind) r.A)
    | _ => (2,(decide (kindIx x r.Kind < 0) || missS x (kindIx x r.Kind) r.A) || missS x (kindIx x r.Kind) r.B,(false || wrongS x (kindIx x r.Kind) r.A) || wrongS x (kindIx x r.Kind) r.B)
  refine for_bind 2 st ((st 2).2.1,(st 2).2.2) rfl (fun n hn => ?_) rfl ?_
  · have : n = 0 ∨ n = 1 := by omega
    rcases this with rfl | rfl
    · have h := rule_step (x := x) (k := kindIx x r.Kind) (n := r.A) (a := decide (kindIx x r.Kind < 0)) (b := false) hx hk id
      show (Option.bind (if _ then _ else _) _ : Option _) = _
      exact (congrArg (fun o => Option.bind o (fun p55 : Bool × Bool => some (Sum.inl ((IntKind.i64.wrap ((0:Int) + (1:Int))),p55.1,p55.2)))) h : _)
    · have h := rule_step (x := x) (k := kindIx x r.Kind) (n := r.B) (a := decide (kindIx x r.Kind < 0) || missS x (kindIx x r.Kind) r.A) (b := false || wrongS x (kindIx x r.Kind) r.A) hx hk id
      show (Option.bind (if _ then _ else _) _ : Option _) = _
      exact (congrArg (fun o => Option.bind o (fun p55 : Bool × Bool => some (Sum.inl ((IntKind.i64.wrap ((1:Int) + (1:Int))),p55.1,p55.2)))) h : _)
  · dsimp only
    rw [first_is (by simp)]
    simp [st,ruleE]

/-- A loop that collects. -/
theorem col_loop {β : Type} (n : Nat) (g : Nat → List β) (B : Nat) (hB : ∀ k,k < n → (g k).length ≤ B) (a0 : List β) {body : Int × List β → Option ((Int × List β) ⊕ List β)}
    (hs : ∀ k,k < n → ∀ acc : List β,acc.length ≤ a0.length + k * B → body ((k : Int),acc) = some (.inl (((k + 1 : Nat) : Int),acc ++ g k))) (he : ∀ acc,body ((n : Int),acc) = some (.inr acc)) :
    tailrec body ((0 : Int),a0) = some (a0 ++ (List.range n).flatMap g) := by
  have hlen : ∀ m,m ≤ n → ((List.range m).flatMap g).length ≤ m * B := fun m => by
    induction m with
    | zero => intro _; simp
    | succ m ih =>
      intro hm
      rw [List.range_succ,List.flatMap_append,List.length_append,Nat.succ_mul]
      have h1 := ih (by omega)
      have h2 := hB m (by omega)
      simp only [List.flatMap_cons,List.flatMap_nil,List.append_nil]
      omega
  have h := tailrec_for (body := body) n (fun m => ((m : Int),a0 ++ (List.range m).flatMap g)) (a0 ++ (List.range n).flatMap g) (fun k hk => ?_) ?_
  · simpa using h
  · rw [hs k hk _ (by rw [List.length_append]; have := hlen k (by omega); omega),List.range_succ,List.flatMap_append]
    simp
  · rw [he]

def prob (k j r e : Int) : List Styping_Problem := if e = 0 then [] else [⟨k,j,r,e⟩]
theorem prob_len (k j r e : Int) : (prob k j r e).length ≤ 1 := by unfold prob; split <;> simp
theorem add_is {k j r e : Int} {l : List Styping_Problem} (h : l.length ≤ 1000000000) : ftyping_Checkq1 k j r e l = some (l ++ prob k j r e) := by
  unfold ftyping_Checkq1 prob
  by_cases he : e = 0
  · rw [if_neg (by simp [he]),if_pos he,List.append_nil]; rfl
  · rw [if_pos (by simpa using he),if_neg he,rm_le (by rw [List.length_singleton]; omega)]; rfl
def lifeE (x : Sapi_Schema) (i : Nat) (l : Sapi_Life) : Int := firstS [⟨(x.Lives.take i).any fun m => m.Name == l.Name,7⟩]
def fieldE (x : Sapi_Schema) (q : Sapi_Kind) (k j : Int) (f : Sapi_Field) : Int := if fieldIx q f.Name < j then 7 else leadE x q k j f
def lifeP (x : Sapi_Schema) (i : Nat) : List Styping_Problem := match x.Lives[i]? with | some l => prob (-1) (i : Int) (-1) (lifeE x i l) | none => []
def fieldP (x : Sapi_Schema) (i : Nat) (q : Sapi_Kind) (j : Nat) : List Styping_Problem := match q.Fields[j]? with | some f => prob (i : Int) (j : Int) (-1) (fieldE x q (i : Int) (j : Int) f) | none => []
def fieldsP (x : Sapi_Schema) (i : Nat) (q : Sapi_Kind) : List Styping_Problem := (List.range q.Fields.length).flatMap (fieldP x i q)
def kindP (x : Sapi_Schema) (i : Nat) : List Styping_Problem := match x.Kinds[i]? with | some q => prob (i : Int) (-1) (-1) (kindE x (i : Int) q) ++ fieldsP x i q | none => []
def ruleP (x : Sapi_Schema) (i : Nat) : List Styping_Problem := match x.Rules[i]? with | some r => prob (-1) (-1) (i : Int) (ruleE x i r) | none => []
def livesP (x : Sapi_Schema) : List Styping_Problem := (List.range x.Lives.length).flatMap (lifeP x)
def kindsP (x : Sapi_Schema) : List Styping_Problem := (List.range x.Kinds.length).flatMap (kindP x)
def rulesP (x : Sapi_Schema) : List Styping_Problem := (List.range x.Rules.length).flatMap (ruleP x)
theorem lifeP_len (x : Sapi_Schema) (i : Nat) : (lifeP x i).length ≤ 1 := by unfold lifeP; cases x.Lives[i]? with | none => simp | some f => exact prob_len _ _ _ _
theorem fieldP_len (x : Sapi_Schema) (i : Nat) (q : Sapi_Kind) (j : Nat) : (fieldP x i q j).length ≤ 1 := by unfold fieldP; cases q.Fields[j]? with | none => simp | some f => exact prob_len _ _ _ _
theorem ruleP_len (x : Sapi_Schema) (i : Nat) : (ruleP x i).length ≤ 1 := by unfold ruleP; cases x.Rules[i]? with | none => simp | some f => exact prob_len _ _ _ _
/-- All problems. -/
def checkS (x : Sapi_Schema) : List Styping_Problem := if validE x = 0 then livesP x ++ kindsP x ++ rulesP x else [⟨-1,-1,-1,validE x⟩]
theorem range_len {β : Type} (n : Nat) (g : Nat → List β) (B : Nat) (hB : ∀ k,k < n → (g k).length ≤ B) : ((List.range n).flatMap g).length ≤ n * B := by
  induction n with
  | zero => simp
  | succ n ih =>
    rw [List.range_succ,List.flatMap_append,List.length_append,Nat.succ_mul]
    have h1 := ih fun k hk => hB k (by omega)
    have h2 := hB n (by omega)
    simp only [List.flatMap_cons,List.flatMap_nil,List.append_nil]
    omega
/-- What Check needs of a schema: its lists are short. -/
structure Short (x : Sapi_Schema) : Prop where
  few : Few x
  fine : Fine x
  lives : x.Lives.length ≤ 1000
  rules : x.Rules.length ≤ 1000
theorem Sz.short {x : Sapi_Schema} (h : Sz x) : Short x := ⟨h.few,h.fine,by have := h.2.1.1; omega,by have := h.2.2.1; omega⟩
theorem fieldsP_len {x : Sapi_Schema} {i : Nat} {q : Sapi_Kind} (h : q.Fields.length ≤ 1000) : (fieldsP x i q).length ≤ 1000 := by
  have := range_len q.Fields.length (fieldP x i q) 1 (fun j _ => fieldP_len x i q j)
  unfold fieldsP; omega
theorem Check_is {x : Sapi_Schema} (h : Short x) : ftyping_Check x = some (checkS x) := by
  obtain ⟨hx,hfine,hlv,hrl⟩ := h
  unfold ftyping_Check
  rw [Valid_is hfine]
  simp only [Option.bind_some]
  unfold checkS
  by_cases hv : validE x = 0
  · rw [if_neg (by simp [hv]),if_pos hv]
    have b1 : (livesP x).length ≤ 1000 := by
      have := range_len x.Lives.length (lifeP x) 1 (fun j _ => lifeP_len x j)
      unfold livesP; omega
    have kl : ∀ k,k < x.Kinds.length → (kindP x k).length ≤ 1001 := fun k hk => by
      unfold kindP
      rw [List.getElem?_eq_getElem hk]
      dsimp only
      have := fieldsP_len (x := x) (i := k) (hx.2 _ (List.getElem_mem hk))
      have := prob_len k (-1) (-1) (kindE x k x.Kinds[k])
      rw [List.length_append]; omega
    have b2 : (kindsP x).length ≤ 1001000 := by
      have := range_len x.Kinds.length _ 1001 kl
      have := hx.1
      unfold kindsP; omega
    have hk1 := hx.1
    rw [col_loop x.Lives.length (lifeP x) 1 (fun j _ => lifeP_len x j) [] (fun k hk acc hacc => ?_) (fun acc => if_neg (by simp))]
    · rw [show ([] : List Styping_Problem) ++ (List.range x.Lives.length).flatMap (lifeP x) = livesP x from rfl]
      simp only [Option.bind_some]
      rw [col_loop x.Kinds.length (kindP x) 1001 kl (livesP x) (fun k hk acc hacc => ?_) (fun acc => if_neg (by simp))]
      · rw [show livesP x ++ (List.range x.Kinds.length).flatMap (kindP x) = livesP x ++ kindsP x from rfl]
        simp only [Option.bind_some]
        rw [col_loop x.Rules.length (ruleP x) 1 (fun j _ => ruleP_len x j) (livesP x ++ kindsP x) (fun k hk acc hacc => ?_) (fun acc => if_neg (by simp))]
        · rfl
        · rw [List.length_append] at hacc
          rw [if_pos (by simpa using hk)]
          dsimp only
          rw [rule_is hx hrl hk (List.getElem?_eq_getElem hk)]
          simp only [Option.bind_some]
          rw [add_is (by omega)]
          simp only [Option.bind_some]
          unfold ruleP
          rw [w64_succ hk (by omega),List.getElem?_eq_getElem hk]
      · have hq := idx_lt hk
        have hqf := hx.2 _ (List.getElem_mem hk)
        rw [if_pos (by simpa using hk)]
        dsimp only
        rw [hq]
        simp only [Option.bind_some]
        rw [kind_is hx hq]
        simp only [Option.bind_some]
        rw [add_is (by omega)]
        simp only [Option.bind_some]
        have pl := prob_len k (-1) (-1) (kindE x k x.Kinds[k])
        rw [col_loop x.Kinds[k].Fields.length (fieldP x k x.Kinds[k]) 1 (fun j _ => fieldP_len x k _ j) _ (fun j hj acc2 hacc2 => ?_) (fun acc => if_neg (by simp))]
        · simp only [Option.bind_some]
          unfold kindP
          rw [w64_succ hk (by omega),List.getElem?_eq_getElem hk,List.append_assoc]
          rfl
        · rw [List.length_append] at hacc2
          rw [if_pos (by simpa using hj)]
          dsimp only
          rw [idx_lt hj]
          simp only [Option.bind_some]
          rw [typing_Field_is (by omega)]
          simp only [Option.bind_some]
          rw [first_is (by simp)]
          simp only [Option.bind_some]
          have hf : field? x (k : Int) (j : Int) = some x.Kinds[k].Fields[j] := field_of (by omega) (by omega) hq (idx_lt hj)
          have e : (if ((fChecks x.Kinds[k].Fields[j].Kind).isSome && (firstS [⟨decide (fieldIx x.Kinds[k] x.Kinds[k].Fields[j].Name < (j : Int)),7⟩] == 0)) = true then (callO (SX_check.mk (fChecks x.Kinds[k].Fields[j].Kind)).check ⟨x,k,j,x.Kinds[k].Fields[j]⟩).bind fun t97 => some t97 else some (firstS [⟨decide (fieldIx x.Kinds[k] x.Kinds[k].Fields[j].Name < (j : Int)),7⟩])) = some (fieldE x x.Kinds[k] k j x.Kinds[k].Fields[j]) := by
            unfold fieldE
            by_cases hd : fieldIx x.Kinds[k] x.Kinds[k].Fields[j].Name < (j : Int)
            · rw [if_pos hd,if_neg (by simp [firstS,hd])]
              simp [firstS,hd]
            · rw [if_neg hd]
              have e0 : firstS [⟨decide (fieldIx x.Kinds[k] x.Kinds[k].Fields[j].Name < (j : Int)),7⟩] = 0 := by simp [firstS,hd]
              rw [e0]
              cases hs : (fChecks x.Kinds[k].Fields[j].Kind).isSome with
              | true => rw [if_pos (by simp),chk_some hx hlv hq hf hs]; rfl
              | false => rw [if_neg (by simp),chk_none hs]
          rw [e]
          simp only [Option.bind_some]
          rw [add_is (by omega)]
          simp only [Option.bind_some]
          unfold fieldP
          rw [w64_succ hj (by omega),List.getElem?_eq_getElem hj]
    · rw [List.length_nil] at hacc
      rw [if_pos (by simpa using hk)]
      dsimp only
      rw [idx_lt hk]
      simp only [Option.bind_some]
      have hs : Sim.sub x.Lives 0 (k : Int) = some (x.Lives.take k) := by
        unfold Sim.sub
        rw [if_pos ⟨by decide,by omega,by omega⟩]; simp
      rw [hs]
      simp only [Option.bind_some]
      rw [containsLife (f := fun x0 => ftyping_Checkq2 x0 x.Lives[k]) (p := fun m => m.Name == x.Lives[k].Name) (by rw [List.length_take]; omega) (fun l _ => rfl)]
      simp only [Option.bind_some]
      rw [first_is (by simp)]
      simp only [Option.bind_some]
      rw [add_is (by omega)]
      simp only [Option.bind_some]
      unfold lifeP
      rw [w64_succ hk (by omega),List.getElem?_eq_getElem hk]
      rfl
  · rw [if_pos (by simpa using hv),if_neg hv]

end Go.Proofs.YthdfmpocknmleaaDoor

namespace Go.Proofs.YthdfmpocknmleaaDoor
open Go.Sim

/-- A way to rename: different names stay different, the empty one stays. -/
structure Re (r : Str → Str) : Prop where
  inj : ∀ a b,r a = r b → a = b
  nil : r [] = []
theorem Re.eq {r : Str → Str} (h : Re r) (a b : Str) : (r a == r b) = (a == b) := by
  by_cases e : a = b
  · subst e; simp
  · have e' : r a ≠ r b := fun h' => e (h.inj a b h')
    rw [beq_eq_false_iff_ne.2 e,beq_eq_false_iff_ne.2 e']
theorem Re.zero {r : Str → Str} (h : Re r) (a : Str) : (r a == []) = (a == []) := by
  have := h.eq a []
  rwa [h.nil] at this

def fkey (r : Str → Str) (f : Sapi_Field) : Str × Str × Str × Int := (r f.Name,r f.Of,r f.Up,f.Kind)
def kkey (r : Str → Str) (k : Sapi_Kind) : Str × List (Str × Str × Str × Int) := (r k.Name,k.Fields.map (fkey r))
def rkey (r : Str → Str) (x : Sapi_Rule) : Str × Str × Str × Str := (r x.Name,r x.Kind,r x.A,r x.B)
/-- y is x with other names and numbers. -/
structure Ren (r : Str → Str) (x y : Sapi_Schema) : Prop where
  re : Re r
  kinds : y.Kinds.map (kkey id) = x.Kinds.map (kkey r)
  lives : y.Lives.map (·.Name) = x.Lives.map fun l => r l.Name
  rules : y.Rules.map (rkey id) = x.Rules.map (rkey r)

theorem map_idx {α β γ : Type} {l : List α} {m : List β} {g : α → γ} {h : β → γ} (e : l.map g = m.map h) (i : Int) : (idx l i = none ∧ idx m i = none) ∨ ∃ a b,idx l i = some a ∧ idx m i = some b ∧ g a = h b := by
  have hl : l.length = m.length := by simpa using congrArg List.length e
  by_cases hi : 0 ≤ i
  · rw [idx_int _ hi,idx_int _ hi]
    have := congrArg (·[i.toNat]?) e
    simp only [List.getElem?_map] at this
    cases h1 : l[i.toNat]? with
    | none =>
      rw [h1] at this
      left
      refine ⟨rfl,?_⟩
      cases h2 : m[i.toNat]? with
      | none => rfl
      | some b => rw [h2] at this; cases this
    | some a =>
      rw [h1] at this
      cases h2 : m[i.toNat]? with
      | none => rw [h2] at this; cases this
      | some b =>
        rw [h2] at this
        exact .inr ⟨a,b,rfl,rfl,by simpa using this⟩
  · left; unfold idx; rw [if_neg hi,if_neg hi]; exact ⟨rfl,rfl⟩
theorem map_first {α β γ : Type} {l : List α} {m : List β} {g : α → γ} {h : β → γ} {p : α → Bool} {q : β → Bool} (s : γ → Bool) (e : l.map g = m.map h) (hp : ∀ a,p a = s (g a)) (hq : ∀ b,q b = s (h b)) : firstIdx l p = firstIdx m q := by
  have e1 : l.findIdx? p = (l.map g).findIdx? s := by rw [List.findIdx?_map]; congr; funext a; exact hp a
  have e2 : m.findIdx? q = (m.map h).findIdx? s := by rw [List.findIdx?_map]; congr; funext a; exact hq a
  unfold firstIdx
  rw [e1,e2,e]
theorem map_any {α β γ : Type} {l : List α} {m : List β} {g : α → γ} {h : β → γ} {p : α → Bool} {q : β → Bool} (s : γ → Bool) (e : l.map g = m.map h) (hp : ∀ a,p a = s (g a)) (hq : ∀ b,q b = s (h b)) : l.any p = m.any q := by
  have e1 : l.any p = (l.map g).any s := by rw [List.any_map]; congr; funext a; exact hp a
  have e2 : m.any q = (m.map h).any s := by rw [List.any_map]; congr; funext a; exact hq a
  rw [e1,e2,e]
theorem map_take {α β γ : Type} {l : List α} {m : List β} {g : α → γ} {h : β → γ} (e : l.map g = m.map h) (i : Nat) : (l.take i).map g = (m.take i).map h := by
  rw [List.map_take,List.map_take,e]

section
variable {r : Str → Str} {x y : Sapi_Schema}
theorem Ren.kind (h : Ren r x y) (n : Str) : kindIx y (r n) = kindIx x n :=
  map_first (fun t => t.1 == r n) h.kinds (fun _ => rfl) (fun b => (h.re.eq b.Name n).symm)
/-- Two kinds, two fields, but for names and numbers. -/
def KR (r : Str → Str) (q q' : Sapi_Kind) : Prop := q'.Name = r q.Name ∧ q'.Fields.map (fkey id) = q.Fields.map (fkey r)
def FR (r : Str → Str) (f f' : Sapi_Field) : Prop := f'.Name = r f.Name ∧ f'.Of = r f.Of ∧ f'.Up = r f.Up ∧ f'.Kind = f.Kind
theorem key_fr {f f' : Sapi_Field} (h : fkey id f' = fkey r f) : FR r f f' := by
  unfold fkey at h
  simp only [Prod.mk.injEq,id] at h
  exact h
theorem Ren.idx (h : Ren r x y) (k : Int) : (Sim.idx y.Kinds k = none ∧ Sim.idx x.Kinds k = none) ∨ ∃ q' q,Sim.idx y.Kinds k = some q' ∧ Sim.idx x.Kinds k = some q ∧ KR r q q' := by
  rcases map_idx h.kinds k with h1 | ⟨a,b,h1,h2,h3⟩
  · exact .inl h1
  · refine .inr ⟨a,b,h1,h2,?_⟩
    unfold kkey at h3
    simp only [Prod.mk.injEq,id] at h3
    exact h3
theorem KR.field (hr : Re r) {q q' : Sapi_Kind} (h : KR r q q') (n : Str) : fieldIx q' (r n) = fieldIx q n :=
  map_first (fun t => t.1 == r n) h.2 (fun _ => rfl) (fun b => (hr.eq b.Name n).symm)
theorem KR.idx {q q' : Sapi_Kind} (h : KR r q q') (j : Int) : (Sim.idx q'.Fields j = none ∧ Sim.idx q.Fields j = none) ∨ ∃ f' f,Sim.idx q'.Fields j = some f' ∧ Sim.idx q.Fields j = some f ∧ FR r f f' := by
  rcases map_idx h.2 j with h1 | ⟨a,b,h1,h2,h3⟩
  · exact .inl h1
  · exact .inr ⟨a,b,h1,h2,key_fr h3⟩
theorem KR.len {q q' : Sapi_Kind} (h : KR r q q') : q'.Fields.length = q.Fields.length := by simpa using congrArg List.length h.2
theorem field_idx (x : Sapi_Schema) (k j : Int) : field? x k j = (Sim.idx x.Kinds k).bind fun q => Sim.idx q.Fields j := by
  unfold field?
  by_cases hk : 0 ≤ k
  · by_cases hj : 0 ≤ j
    · rw [if_pos ⟨hk,hj⟩,idx_int _ hk]; congr 1; funext q; rw [idx_int _ hj]
    · rw [if_neg (by omega)]
      cases Sim.idx x.Kinds k with
      | none => rfl
      | some q => simp [Sim.idx,hj]
  · rw [if_neg (by omega)]
    simp [Sim.idx,hk]
theorem Ren.field (h : Ren r x y) (k j : Int) : (field? y k j = none ∧ field? x k j = none) ∨ ∃ f' f,field? y k j = some f' ∧ field? x k j = some f ∧ FR r f f' := by
  rw [field_idx,field_idx]
  rcases h.idx k with ⟨h1,h2⟩ | ⟨q',q,h1,h2,hq⟩
  · rw [h1,h2]; exact .inl ⟨rfl,rfl⟩
  · rw [h1,h2]; exact hq.idx j
theorem Ren.ref (h : Ren r x y) {f f' : Sapi_Field} (hf : FR r f f') (k : Int) : refIx y k f' = refIx x k f := by
  unfold refIx
  rw [hf.2.1,h.kind]
theorem Ren.up (h : Ren r x y) (k j : Int) : upIx y k j = upIx x k j := by
  unfold upIx
  rcases h.field k j with ⟨h1,h2⟩ | ⟨f',f,h1,h2,hf⟩
  · rw [h1,h2]
  · rw [h1,h2]
    dsimp only
    rw [hf.2.2.2,h.ref hf]
    split
    · rcases h.idx k with ⟨e1,e2⟩ | ⟨q',q,e1,e2,hq⟩
      · rw [e1,e2]
      · rw [e1,e2]
        dsimp only
        rw [hf.2.2.1,hq.field h.re]
        split
        · rcases h.field k (fieldIx q f.Up) with ⟨h1,h2⟩ | ⟨g',g,h1,h2,hg⟩
          · rw [h1,h2]
          · rw [h1,h2]
            dsimp only
            rw [hg.2.2.2,h.ref hg]
        · rfl
    · rfl
theorem Ren.shl (h : Ren r x y) (o k : Int) (n : Str) : shl y o k (r n) = shl x o k n := by
  unfold Go.Proofs.YthdfmpocknmleaaDoor.shl
  rcases h.idx o with ⟨e1,e2⟩ | ⟨q',q,e1,e2,hq⟩
  · rw [e1,e2]
  · rw [e1,e2]
    dsimp only
    rw [hq.len]
    congr 2
    funext i
    unfold shareQ
    have := hq.idx (i : Int)
    rw [idx_nat,idx_nat] at this
    rcases this with ⟨h1,h2⟩ | ⟨f',f,h1,h2,hf⟩
    · rw [h1,h2]
    · rw [h1,h2]
      dsimp only
      rw [hf.2.2.2,hf.2.1,h.re.eq,h.up]
theorem Ren.sum (h : Ren r x y) {f f' : Sapi_Field} (hf : FR r f f') (k : Int) : sumIx y k f' = sumIx x k f := by
  unfold sumIx
  rw [hf.2.2.2,hf.2.1,h.kind,hf.1,h.shl]
theorem zero_fr (h : Re r) : FR r zeroField zeroField := ⟨h.nil.symm,h.nil.symm,h.nil.symm,rfl⟩
theorem Ren.top (h : Ren r x y) {f f' : Sapi_Field} (hf : FR r f f') (k j : Int) : (topS y k j f').2 = (topS x k j f).2 ∧ FR r (topS x k j f).1 (topS y k j f').1 := by
  unfold topS
  rw [h.up]
  split
  · exact ⟨rfl,zero_fr h.re⟩
  · rcases h.idx (upIx x k j) with ⟨e1,e2⟩ | ⟨q',q,e1,e2,hq⟩
    · rw [e1,e2]; exact ⟨rfl,zero_fr h.re⟩
    · rw [e1,e2]
      dsimp only
      rw [hf.2.1,hq.field h.re]
      rcases h.field (upIx x k j) (fieldIx q f.Of) with ⟨h1,h2⟩ | ⟨g',g,h1,h2,hg⟩
      · rw [h1,h2]; exact ⟨rfl,zero_fr h.re⟩
      · rw [h1,h2]; exact ⟨rfl,hg⟩
theorem Ren.lead (h : Ren r x y) {f f' : Sapi_Field} {q q' : Sapi_Kind} (hf : FR r f f') (hq : KR r q q') (k j : Int) : leadE y q' k j f' = leadE x q k j f := by
  obtain ⟨t1,t2⟩ := h.top hf k j
  have hl : (y.Lives.any fun l => l.Name == r f.Of) = x.Lives.any fun l => l.Name == f.Of :=
    map_any (fun t => t == r f.Of) h.lives (fun _ => rfl) (fun b => (h.re.eq b.Name f.Of).symm)
  have ho : (r f.Of != []) = (f.Of != []) := congrArg not (h.re.zero f.Of)
  unfold leadE rightS
  rw [h.sum hf,t1,t2.2.1,h.kind,hf.2.2.2,hf.2.1,h.up,hl,ho,hq.field h.re,t2.2.2.2]
  rcases h.field k (fieldIx q f.Of) with ⟨h1,h2⟩ | ⟨g',g,h1,h2,hg⟩
  · rw [h1,h2]
  · rw [h1,h2]
    dsimp only
    rw [hg.2.2.2]
theorem Ren.kindE (h : Ren r x y) {q q' : Sapi_Kind} (hq : KR r q q') (i : Int) : kindE y i q' = kindE x i q := by
  unfold Go.Proofs.YthdfmpocknmleaaDoor.kindE
  have : (q'.Fields.headD zeroField).Kind = (q.Fields.headD zeroField).Kind := by
    have e := hq.2
    cases h1 : q'.Fields with
    | nil => rw [h1] at e; cases h2 : q.Fields with
      | nil => rfl
      | cons b l => rw [h2] at e; cases e
    | cons a l => rw [h1] at e; cases h2 : q.Fields with
      | nil => rw [h2] at e; cases e
      | cons b m =>
        rw [h2] at e
        simp only [List.map_cons,List.cons.injEq] at e
        exact (key_fr e.1).2.2.2
  rw [hq.1,h.kind,hq.len,this]
theorem Ren.ruleAt (h : Ren r x y) (k : Int) (n : Str) : (ruleAt y k (r n)).2 = (ruleAt x k n).2 ∧ (ruleAt y k (r n)).1.Kind = (ruleAt x k n).1.Kind := by
  unfold Go.Proofs.YthdfmpocknmleaaDoor.ruleAt
  rcases h.idx k with ⟨e1,e2⟩ | ⟨q',q,e1,e2,hq⟩
  · rw [e1,e2]; exact ⟨rfl,rfl⟩
  · rw [e1,e2]
    dsimp only
    rw [hq.field h.re]
    rcases h.field k (fieldIx q n) with ⟨h1,h2⟩ | ⟨g',g,h1,h2,hg⟩
    · rw [h1,h2]; exact ⟨rfl,rfl⟩
    · rw [h1,h2]; exact ⟨rfl,hg.2.2.2⟩
theorem Ren.rule (h : Ren r x y) {a b : Sapi_Rule} (hk : rkey id b = rkey r a) (i : Nat) : ruleE y i b = ruleE x i a := by
  unfold rkey at hk
  simp only [Prod.mk.injEq,id] at hk
  obtain ⟨h1,h2,h3,h4⟩ := hk
  have ha : ((y.Rules.take i).any fun s => s.Name == r a.Name) = (x.Rules.take i).any fun s => s.Name == a.Name :=
    map_any (fun t => t.1 == r a.Name) (map_take h.rules i) (fun _ => rfl) (fun b => (h.re.eq b.Name a.Name).symm)
  unfold ruleE missS wrongS
  rw [h1,h2,h3,h4,h.kind,ha,(h.ruleAt _ a.A).1,(h.ruleAt _ a.A).2,(h.ruleAt _ a.B).1,(h.ruleAt _ a.B).2,h.re.zero,h.re.zero,h.re.eq]
theorem range_congr {β : Type} {n : Nat} {f g : Nat → List β} (h : ∀ k,k < n → f k = g k) : (List.range n).flatMap f = (List.range n).flatMap g := by
  induction n with
  | zero => rfl
  | succ n ih =>
    rw [List.range_succ,List.flatMap_append,List.flatMap_append,ih fun k hk => h k (by omega)]
    simp only [List.flatMap_cons,List.flatMap_nil]
    rw [h n (by omega)]
theorem Ren.check (h : Ren r x y) (hx : validE x = 0) (hy : validE y = 0) : checkS y = checkS x := by
  have lk : y.Kinds.length = x.Kinds.length := by simpa using congrArg List.length h.kinds
  have ll : y.Lives.length = x.Lives.length := by simpa using congrArg List.length h.lives
  have lr : y.Rules.length = x.Rules.length := by simpa using congrArg List.length h.rules
  unfold checkS
  rw [if_pos hx,if_pos hy]
  unfold livesP kindsP rulesP
  rw [lk,ll,lr]
  congr 1
  · congr 1
    · refine range_congr fun i _ => ?_
      unfold lifeP
      have := map_idx h.lives (i : Int)
      rw [idx_nat,idx_nat] at this
      rcases this with ⟨h1,h2⟩ | ⟨a,b,h1,h2,h3⟩
      · rw [h1,h2]
      · rw [h1,h2]
        dsimp only
        unfold lifeE
        rw [h3,map_any (q := fun m => m.Name == b.Name) (fun t => t == r b.Name) (map_take h.lives i) (fun _ => rfl) (fun c => (h.re.eq c.Name b.Name).symm)]
    · refine range_congr fun i _ => ?_
      unfold kindP
      have := h.idx (i : Int)
      rw [idx_nat,idx_nat] at this
      rcases this with ⟨h1,h2⟩ | ⟨q',q,h1,h2,hq⟩
      · rw [h1,h2]
      · rw [h1,h2]
        dsimp only
        rw [h.kindE hq]
        unfold fieldsP
        rw [hq.len]
        congr 1
        refine range_congr fun j _ => ?_
        unfold fieldP
        have := hq.idx (j : Int)
        rw [idx_nat,idx_nat] at this
        rcases this with ⟨h1,h2⟩ | ⟨f',f,h1,h2,hf⟩
        · rw [h1,h2]
        · rw [h1,h2]
          dsimp only
          unfold fieldE
          rw [hf.1,hq.field h.re,h.lead hf hq]
  · refine range_congr fun i _ => ?_
    unfold ruleP
    have := map_idx h.rules (i : Int)
    rw [idx_nat,idx_nat] at this
    rcases this with ⟨h1,h2⟩ | ⟨a,b,h1,h2,h3⟩
    · rw [h1,h2]
    · rw [h1,h2]
      dsimp only
      rw [h.rule h3]
end

end Go.Proofs.YthdfmpocknmleaaDoor

namespace Go.Proofs.YthdfmpocknmleaaDoor
open Go.Sim

def toR (p : Styping_Problem) : Sref10_Problem := ⟨p.Kind,p.Field,p.Rule,p.Code⟩
theorem plain_is {l : List Styping_Problem} (h : l.length ≤ 1000000000) : flaw10_plain l = some (l.map toR) := by
  unfold flaw10_plain
  refine for_bind l.length (fun n => ((n : Int),(l.take n).map toR)) _ (by simp) (fun n hn => ?_) (if_neg (by simp)) ?_
  · rw [if_pos (decide_eq_true (Int.ofNat_lt.2 hn))]
    dsimp only
    rw [idx_lt hn]
    simp only [Option.bind_some]
    rw [rm_le (by rw [List.length_map,List.length_take,List.length_singleton]; omega),w64_succ hn (by omega),← take_map_succ toR l hn]
    rfl
  · rw [List.take_of_length_le (Nat.le_refl _)]
theorem same_refl {l : List Sref10_Problem} (h : l.length ≤ 1000000000) : fref10_Same l l = some true := by
  unfold fref10_Same
  rw [if_neg (by simp),scan_all l (fun _ => true) false (fun k hk => ?_) (if_neg (by simp))]
  · rw [if_pos (by simp)]; rfl
  · rw [if_pos (decide_eq_true (Int.ofNat_lt.2 hk)),idx_lt hk]
    simp only [Option.bind_some]
    rw [w64_succ hk (by omega),if_neg (by simp [eqSref10_Problem])]; simp
theorem check_len {x : Sapi_Schema} (h : Short x) : (checkS x).length ≤ 1010000 := by
  obtain ⟨hx,_,hlv,hrl⟩ := h
  unfold checkS
  split
  · have b1 := range_len x.Lives.length (lifeP x) 1 (fun j _ => lifeP_len x j)
    have b3 := range_len x.Rules.length (ruleP x) 1 (fun j _ => ruleP_len x j)
    have kl : ∀ k,k < x.Kinds.length → (kindP x k).length ≤ 1001 := fun k hk => by
      unfold kindP
      rw [List.getElem?_eq_getElem hk]
      dsimp only
      have := fieldsP_len (x := x) (i := k) (hx.2 _ (List.getElem_mem hk))
      have := prob_len k (-1) (-1) (kindE x k x.Kinds[k])
      rw [List.length_append]; omega
    have b2 := range_len x.Kinds.length _ 1001 kl
    have := hx.1
    unfold livesP kindsP rulesP
    rw [List.length_append,List.length_append]; omega
  · simp

end Go.Proofs.YthdfmpocknmleaaDoor

/- Problems do not hang on numbers, nor on how names are written. No condition. -/
import Derived.Test.YthdfmpocknmleaaGreatDoorLfA
namespace Go.Proofs.YthdfmpocknmleaaGreatDoor
open Go.Sim

/-- A way to rename: different names stay different, the empty one stays. -/
structure Re (r : Str → Str) : Prop where
  inj : ∀ a b,r a = r b → a = b
  nil : r [] = []
theorem Re.eq {r : Str → Str} (h : Re r) (a b : Str) : (r a == r b) = (a == b) := by
  by_cases e : a = b
  · subst e; simp
  · have e' : r a ≠ r b := fun h' => e (h.inj a b h')
    rw [beq_eq_false_iff_ne.2 e,beq_eq_false_iff_ne.2 e']
theorem Re.zero {r : Str → Str} (h : Re r) (a : Str) : (r a == []) = (a == []) := by
  have := h.eq a []
  rwa [h.nil] at this

def fkey (r : Str → Str) (f : Sapi_Field) : Str × Str × Str × Int := (r f.Name,r f.Of,r f.Up,f.Kind)
def kkey (r : Str → Str) (k : Sapi_Kind) : Str × List (Str × Str × Str × Int) := (r k.Name,k.Fields.map (fkey r))
def rkey (r : Str → Str) (x : Sapi_Rule) : Str × Str × Str × Str := (r x.Name,r x.Kind,r x.A,r x.B)
/-- y is x with other names and numbers. -/
structure Ren (r : Str → Str) (x y : Sapi_Schema) : Prop where
  re : Re r
  kinds : y.Kinds.map (kkey id) = x.Kinds.map (kkey r)
  lives : y.Lives.map (·.Name) = x.Lives.map fun l => r l.Name
  rules : y.Rules.map (rkey id) = x.Rules.map (rkey r)

theorem map_idx {α β γ : Type} {l : List α} {m : List β} {g : α → γ} {h : β → γ} (e : l.map g = m.map h) (i : Int) : (idx l i = none ∧ idx m i = none) ∨ ∃ a b,idx l i = some a ∧ idx m i = some b ∧ g a = h b := by
  have hl : l.length = m.length := by simpa using congrArg List.length e
  by_cases hi : 0 ≤ i
  · rw [idx_int _ hi,idx_int _ hi]
    have := congrArg (·[i.toNat]?) e
    simp only [List.getElem?_map] at this
    cases h1 : l[i.toNat]? with
    | none =>
      rw [h1] at this
      left
      refine ⟨rfl,?_⟩
      cases h2 : m[i.toNat]? with
      | none => rfl
      | some b => rw [h2] at this; cases this
    | some a =>
      rw [h1] at this
      cases h2 : m[i.toNat]? with
      | none => rw [h2] at this; cases this
      | some b =>
        rw [h2] at this
        exact .inr ⟨a,b,rfl,rfl,by simpa using this⟩
  · left; unfold idx; rw [if_neg hi,if_neg hi]; exact ⟨rfl,rfl⟩
theorem map_first {α β γ : Type} {l : List α} {m : List β} {g : α → γ} {h : β → γ} {p : α → Bool} {q : β → Bool} (s : γ → Bool) (e : l.map g = m.map h) (hp : ∀ a,p a = s (g a)) (hq : ∀ b,q b = s (h b)) : firstIdx l p = firstIdx m q := by
  have e1 : l.findIdx? p = (l.map g).findIdx? s := by rw [List.findIdx?_map]; congr; funext a; exact hp a
  have e2 : m.findIdx? q = (m.map h).findIdx? s := by rw [List.findIdx?_map]; congr; funext a; exact hq a
  unfold firstIdx
  rw [e1,e2,e]
theorem map_any {α β γ : Type} {l : List α} {m : List β} {g : α → γ} {h : β → γ} {p : α → Bool} {q : β → Bool} (s : γ → Bool) (e : l.map g = m.map h) (hp : ∀ a,p a = s (g a)) (hq : ∀ b,q b = s (h b)) : l.any p = m.any q := by
  have e1 : l.any p = (l.map g).any s := by rw [List.any_map]; congr; funext a; exact hp a
  have e2 : m.any q = (m.map h).any s := by rw [List.any_map]; congr; funext a; exact hq a
  rw [e1,e2,e]
theorem map_take {α β γ : Type} {l : List α} {m : List β} {g : α → γ} {h : β → γ} (e : l.map g = m.map h) (i : Nat) : (l.take i).map g = (m.take i).map h := by
  rw [List.map_take,List.map_take,e]

section
variable {r : Str → Str} {x y : Sapi_Schema}
theorem Ren.kind (h : Ren r x y) (n : Str) : kindIx y (r n) = kindIx x n :=
  map_first (fun t => t.1 == r n) h.kinds (fun _ => rfl) (fun b => (h.re.eq b.Name n).symm)
/-- Two kinds, two fields, but for names and numbers. -/
def KR (r : Str → Str) (q q' : Sapi_Kind) : Prop := q'.Name = r q.Name ∧ q'.Fields.map (fkey id) = q.Fields.map (fkey r)
def FR (r : Str → Str) (f f' : Sapi_Field) : Prop := f'.Name = r f.Name ∧ f'.Of = r f.Of ∧ f'.Up = r f.Up ∧ f'.Kind = f.Kind
theorem key_fr {f f' : Sapi_Field} (h : fkey id f' = fkey r f) : FR r f f' := by
  unfold fkey at h
  simp only [Prod.mk.injEq,id] at h
  exact h
theorem Ren.idx (h : Ren r x y) (k : Int) : (Sim.idx y.Kinds k = none ∧ Sim.idx x.Kinds k = none) ∨ ∃ q' q,Sim.idx y.Kinds k = some q' ∧ Sim.idx x.Kinds k = some q ∧ KR r q q' := by
  rcases map_idx h.kinds k with h1 | ⟨a,b,h1,h2,h3⟩
  · exact .inl h1
  · refine .inr ⟨a,b,h1,h2,?_⟩
    unfold kkey at h3
    simp only [Prod.mk.injEq,id] at h3
    exact h3
theorem KR.field (hr : Re r) {q q' : Sapi_Kind} (h : KR r q q') (n : Str) : fieldIx q' (r n) = fieldIx q n :=
  map_first (fun t => t.1 == r n) h.2 (fun _ => rfl) (fun b => (hr.eq b.Name n).symm)
theorem KR.idx {q q' : Sapi_Kind} (h : KR r q q') (j : Int) : (Sim.idx q'.Fields j = none ∧ Sim.idx q.Fields j = none) ∨ ∃ f' f,Sim.idx q'.Fields j = some f' ∧ Sim.idx q.Fields j = some f ∧ FR r f f' := by
  rcases map_idx h.2 j with h1 | ⟨a,b,h1,h2,h3⟩
  · exact .inl h1
  · exact .inr ⟨a,b,h1,h2,key_fr h3⟩
theorem KR.len {q q' : Sapi_Kind} (h : KR r q q') : q'.Fields.length = q.Fields.length := by simpa using congrArg List.length h.2
theorem field_idx (x : Sapi_Schema) (k j : Int) : field? x k j = (Sim.idx x.Kinds k).bind fun q => Sim.idx q.Fields j := by
  unfold field?
  by_cases hk : 0 ≤ k
  · by_cases hj : 0 ≤ j
    · rw [if_pos ⟨hk,hj⟩,idx_int _ hk]; congr 1; funext q; rw [idx_int _ hj]
    · rw [if_neg (by omega)]
      cases Sim.idx x.Kinds k with
      | none => rfl
      | some q => simp [Sim.idx,hj]
  · rw [if_neg (by omega)]
    simp [Sim.idx,hk]
theorem Ren.field (h : Ren r x y) (k j : Int) : (field? y k j = none ∧ field? x k j = none) ∨ ∃ f' f,field? y k j = some f' ∧ field? x k j = some f ∧ FR r f f' := by
  rw [field_idx,field_idx]
  rcases h.idx k with ⟨h1,h2⟩ | ⟨q',q,h1,h2,hq⟩
  · rw [h1,h2]; exact .inl ⟨rfl,rfl⟩
  · rw [h1,h2]; exact hq.idx j
theorem Ren.ref (h : Ren r x y) {f f' : Sapi_Field} (hf : FR r f f') (k : Int) : refIx y k f' = refIx x k f := by
  unfold refIx
  rw [hf.2.1,h.kind]
theorem Ren.up (h : Ren r x y) (k j : Int) : upIx y k j = upIx x k j := by
  unfold upIx
  rcases h.field k j with ⟨h1,h2⟩ | ⟨f',f,h1,h2,hf⟩
  · rw [h1,h2]
  · rw [h1,h2]
    dsimp only
    rw [hf.2.2.2,h.ref hf]
    split
    · rcases h.idx k with ⟨e1,e2⟩ | ⟨q',q,e1,e2,hq⟩
      · rw [e1,e2]
      · rw [e1,e2]
        dsimp only
        rw [hf.2.2.1,hq.field h.re]
        split
        · rcases h.field k (fieldIx q f.Up) with ⟨h1,h2⟩ | ⟨g',g,h1,h2,hg⟩
          · rw [h1,h2]
          · rw [h1,h2]
            dsimp only
            rw [hg.2.2.2,h.ref hg]
        · rfl
    · rfl
theorem Ren.shl (h : Ren r x y) (o k : Int) (n : Str) : shl y o k (r n) = shl x o k n := by
  unfold Go.Proofs.YthdfmpocknmleaaGreatDoor.shl
  rcases h.idx o with ⟨e1,e2⟩ | ⟨q',q,e1,e2,hq⟩
  · rw [e1,e2]
  · rw [e1,e2]
    dsimp only
    rw [hq.len]
    congr 2
    funext i
    unfold shareQ
    have := hq.idx (i : Int)
    rw [idx_nat,idx_nat] at this
    rcases this with ⟨h1,h2⟩ | ⟨f',f,h1,h2,hf⟩
    · rw [h1,h2]
    · rw [h1,h2]
      dsimp only
      rw [hf.2.2.2,hf.2.1,h.re.eq,h.up]
theorem Ren.sum (h : Ren r x y) {f f' : Sapi_Field} (hf : FR r f f') (k : Int) : sumIx y k f' = sumIx x k f := by
  unfold sumIx
  rw [hf.2.2.2,hf.2.1,h.kind,hf.1,h.shl]
theorem zero_fr (h : Re r) : FR r zeroField zeroField := ⟨h.nil.symm,h.nil.symm,h.nil.symm,rfl⟩
theorem Ren.top (h : Ren r x y) {f f' : Sapi_Field} (hf : FR r f f') (k j : Int) : (topS y k j f').2 = (topS x k j f).2 ∧ FR r (topS x k j f).1 (topS y k j f').1 := by
  unfold topS
  rw [h.up]
  split
  · exact ⟨rfl,zero_fr h.re⟩
  · rcases h.idx (upIx x k j) with ⟨e1,e2⟩ | ⟨q',q,e1,e2,hq⟩
    · rw [e1,e2]; exact ⟨rfl,zero_fr h.re⟩
    · rw [e1,e2]
      dsimp only
      rw [hf.2.1,hq.field h.re]
      rcases h.field (upIx x k j) (fieldIx q f.Of) with ⟨h1,h2⟩ | ⟨g',g,h1,h2,hg⟩
      · rw [h1,h2]; exact ⟨rfl,zero_fr h.re⟩
      · rw [h1,h2]; exact ⟨rfl,hg⟩
theorem Ren.lead (h : Ren r x y) {f f' : Sapi_Field} {q q' : Sapi_Kind} (hf : FR r f f') (hq : KR r q q') (k j : Int) : leadE y q' k j f' = leadE x q k j f := by
  obtain ⟨t1,t2⟩ := h.top hf k j
  have hl : (y.Lives.any fun l => l.Name == r f.Of) = x.Lives.any fun l => l.Name == f.Of :=
    map_any (fun t => t == r f.Of) h.lives (fun _ => rfl) (fun b => (h.re.eq b.Name f.Of).symm)
  have ho : (r f.Of != []) = (f.Of != []) := congrArg not (h.re.zero f.Of)
  unfold leadE rightS
  rw [h.sum hf,t1,t2.2.1,h.kind,hf.2.2.2,hf.2.1,h.up,hl,ho,hq.field h.re,t2.2.2.2]
  rcases h.field k (fieldIx q f.Of) with ⟨h1,h2⟩ | ⟨g',g,h1,h2,hg⟩
  · rw [h1,h2]
  · rw [h1,h2]
    dsimp only
    rw [hg.2.2.2]
theorem Ren.kindE (h : Ren r x y) {q q' : Sapi_Kind} (hq : KR r q q') (i : Int) : kindE y i q' = kindE x i q := by
  unfold Go.Proofs.YthdfmpocknmleaaGreatDoor.kindE
  have : (q'.Fields.headD zeroField).Kind = (q.Fields.headD zeroField).Kind := by
    have e := hq.2
    cases h1 : q'.Fields with
    | nil => rw [h1] at e; cases h2 : q.Fields with
      | nil => rfl
      | cons b l => rw [h2] at e; cases e
    | cons a l => rw [h1] at e; cases h2 : q.Fields with
      | nil => rw [h2] at e; cases e
      | cons b m =>
        rw [h2] at e
        simp only [List.map_cons,List.cons.injEq] at e
        exact (key_fr e.1).2.2.2
  rw [hq.1,h.kind,hq.len,this]
theorem Ren.ruleAt (h : Ren r x y) (k : Int) (n : Str) : (ruleAt y k (r n)).2 = (ruleAt x k n).2 ∧ (ruleAt y k (r n)).1.Kind = (ruleAt x k n).1.Kind := by
  unfold Go.Proofs.YthdfmpocknmleaaGreatDoor.ruleAt
  rcases h.idx k with ⟨e1,e2⟩ | ⟨q',q,e1,e2,hq⟩
  · rw [e1,e2]; exact ⟨rfl,rfl⟩
  · rw [e1,e2]
    dsimp only
    rw [hq.field h.re]
    rcases h.field k (fieldIx q n) with ⟨h1,h2⟩ | ⟨g',g,h1,h2,hg⟩
    · rw [h1,h2]; exact ⟨rfl,rfl⟩
    · rw [h1,h2]; exact ⟨rfl,hg.2.2.2⟩
theorem Ren.rule (h : Ren r x y) {a b : Sapi_Rule} (hk : rkey id b = rkey r a) (i : Nat) : ruleE y i b = ruleE x i a := by
  unfold rkey at hk
  simp only [Prod.mk.injEq,id] at hk
  obtain ⟨h1,h2,h3,h4⟩ := hk
  have ha : ((y.Rules.take i).any fun s => s.Name == r a.Name) = (x.Rules.take i).any fun s => s.Name == a.Name :=
    map_any (fun t => t.1 == r a.Name) (map_take h.rules i) (fun _ => rfl) (fun b => (h.re.eq b.Name a.Name).symm)
  unfold ruleE missS wrongS
  rw [h1,h2,h3,h4,h.kind,ha,(h.ruleAt _ a.A).1,(h.ruleAt _ a.A).2,(h.ruleAt _ a.B).1,(h.ruleAt _ a.B).2,h.re.zero,h.re.zero,h.re.eq]
theorem range_congr {β : Type} {n : Nat} {f g : Nat → List β} (h : ∀ k,k < n → f k = g k) : (List.range n).flatMap f = (List.range n).flatMap g := by
  induction n with
  | zero => rfl
  | succ n ih =>
    rw [List.range_succ,List.flatMap_append,List.flatMap_append,ih fun k hk => h k (by omega)]
    simp only [List.flatMap_cons,List.flatMap_nil]
    rw [h n (by omega)]
theorem Ren.check (h : Ren r x y) (hx : validE x = 0) (hy : validE y = 0) : checkS y = checkS x := by
  have lk : y.Kinds.length = x.Kinds.length := by simpa using congrArg List.length h.kinds
  have ll : y.Lives.length = x.Lives.length := by simpa using congrArg List.length h.lives
  have lr : y.Rules.length = x.Rules.length := by simpa using congrArg List.length h.rules
  unfold checkS
  rw [if_pos hx,if_pos hy]
  unfold livesP kindsP rulesP
  rw [lk,ll,lr]
  congr 1
  · congr 1
    · refine range_congr fun i _ => ?_
      unfold lifeP
      have := map_idx h.lives (i : Int)
      rw [idx_nat,idx_nat] at this
      rcases this with ⟨h1,h2⟩ | ⟨a,b,h1,h2,h3⟩
      · rw [h1,h2]
      · rw [h1,h2]
        dsimp only
        unfold lifeE
        rw [h3,map_any (q := fun m => m.Name == b.Name) (fun t => t == r b.Name) (map_take h.lives i) (fun _ => rfl) (fun c => (h.re.eq c.Name b.Name).symm)]
    · refine range_congr fun i _ => ?_
      unfold kindP
      have := h.idx (i : Int)
      rw [idx_nat,idx_nat] at this
      rcases this with ⟨h1,h2⟩ | ⟨q',q,h1,h2,hq⟩
      · rw [h1,h2]
      · rw [h1,h2]
        dsimp only
        rw [h.kindE hq]
        unfold fieldsP
        rw [hq.len]
        congr 1
        refine range_congr fun j _ => ?_
        unfold fieldP
        have := hq.idx (j : Int)
        rw [idx_nat,idx_nat] at this
        rcases this with ⟨h1,h2⟩ | ⟨f',f,h1,h2,hf⟩
        · rw [h1,h2]
        · rw [h1,h2]
          dsimp only
          unfold fieldE
          rw [hf.1,hq.field h.re,h.lead hf hq]
  · refine range_congr fun i _ => ?_
    unfold ruleP
    have := map_idx h.rules (i : Int)
    rw [idx_nat,idx_nat] at this
    rcases this with ⟨h1,h2⟩ | ⟨a,b,h1,h2,h3⟩
    · rw [h1,h2]
    · rw [h1,h2]
      dsimp only
      rw [h.rule h3]
end

end Go.Proofs.YthdfmpocknmleaaGreatDoor

namespace Go.Proofs.YthdfmpocknmleaaGreatDoor
open Go.Sim

theorem itoa_len8 {n : Int} (h : -9999999 ≤ n ∧ n ≤ 9999999) : (Lib.itoa n).length ≤ 8 := by
  unfold Lib.itoa
  split
  · have := digits_len 6 n.natAbs (by omega)
    rw [List.length_cons]; omega
  · have := digits_len 6 n.toNat (by omega)
    omega
/-- A short value. -/
def VT : AnyV → Prop
  | .int n => -9999999 ≤ n ∧ n ≤ 9999999
  | .str s => s.length ≤ 12
theorem text_t {v : AnyV} (h : VT v) : (textS v).length ≤ 12 := by
  cases v with
  | int n => have := itoa_len8 h; show (Lib.itoa n).length ≤ 12; omega
  | str s => exact h
theorem toks_t {l : List AnyV} (h : ∀ v ∈ l,VT v) : (toks l).length ≤ l.length * 13 := by
  induction l with
  | nil => simp [toks]
  | cons v l ih =>
    have h1 := ih fun u hu => h u (List.mem_cons_of_mem _ hu)
    have h2 := text_t (h v List.mem_cons_self)
    have e : toks (v :: l) = (32 :: textS v) ++ toks l := rfl
    rw [e,List.length_append,List.length_cons,List.length_cons]
    omega
theorem line_t {w : Str} {l : List AnyV} (h : ∀ v ∈ l,VT v) : (lineS w l).length ≤ w.length + 1 + l.length * 13 := by
  have := toks_t h
  unfold lineS
  rw [List.length_append,List.length_append,List.length_singleton]; omega
theorem name_t {s : Str} (h : nameS s = true) : VT (.str s) := nameS_len h
theorem named_t {s : Str} (h : ((s == []) || nameS s) = true) : VT (.str (namedS s)) := by
  unfold namedS
  by_cases hs : s = []
  · rw [if_pos hs]; show ([45] : Str).length ≤ 12; decide
  · rw [if_neg hs]
    have : nameS s = true := by simpa [hs] using h
    exact name_t this
theorem small_t {n : Int} (h : -9999999 ≤ n ∧ n ≤ 9999999) : VT (.int n) := h
theorem fieldS_t {f : Sapi_Field} (h : fieldS f = true) (hw3 : f.Words.length ≤ 3) : (∀ v ∈ itemsS f,VT v) ∧ (itemsS f).length ≤ 8 := by
  unfold fieldS at h
  simp only [Bool.and_eq_true] at h
  obtain ⟨⟨hn,_⟩,hp⟩ := h
  have hnv := name_t hn
  unfold partS at hp
  by_cases c0 : f.Kind = 0
  · rw [if_pos c0] at hp
    have e : itemsS f = [.str f.Name,.int f.Lo] := by unfold itemsS; rw [if_pos c0]
    refine ⟨?_,by rw [e]; simp⟩
    have := inW_le hp
    rw [e]; simp only [List.mem_cons,List.not_mem_nil,or_false,forall_eq_or_imp,forall_eq]
    exact ⟨hnv,small_t (by omega)⟩
  rw [if_neg c0] at hp
  by_cases c1 : f.Kind = 1
  · rw [if_pos c1] at hp
    simp only [Bool.and_eq_true] at hp
    have e : itemsS f = [.str f.Name,.str (namedS f.Of),.int f.Lo,.int f.Hi] := by unfold itemsS; simp [c1]
    have := span_le hp.2
    refine ⟨?_,by rw [e]; simp⟩
    rw [e]; simp only [List.mem_cons,List.not_mem_nil,or_false,forall_eq_or_imp,forall_eq]
    exact ⟨hnv,named_t (by rw [hp.1]; simp),small_t (by omega),small_t (by omega)⟩
  rw [if_neg c1] at hp
  by_cases c2 : f.Kind = 2
  · rw [if_pos c2] at hp
    have e : itemsS f = [.str f.Name,.int f.Lo,.int f.Hi] := by unfold itemsS; simp [c2]
    have := span_le hp
    refine ⟨?_,by rw [e]; simp⟩
    rw [e]; simp only [List.mem_cons,List.not_mem_nil,or_false,forall_eq_or_imp,forall_eq]
    exact ⟨hnv,small_t (by omega),small_t (by omega)⟩
  rw [if_neg c2] at hp
  by_cases c3 : f.Kind = 3
  · rw [if_pos c3] at hp
    simp only [pickS,Bool.and_eq_true,List.all_eq_true,beq_iff_eq] at hp
    obtain ⟨hg,⟨⟨hw,hl⟩,_⟩,hws⟩ := hp
    have hw' := (inW_le hw).2
    have hl' : f.Words.length = f.Weights.length := by omega
    have e : itemsS f = [.str f.Name,.int (f.Words.length : Int)] ++ (f.Words.zip f.Weights).flatMap fun p => [.str p.1,.int p.2] := by unfold itemsS; simp [c3]
    refine ⟨?_,?_⟩
    · rw [e]
      intro v hv
      rcases List.mem_append.1 hv with hv | hv
      · simp only [List.mem_cons,List.not_mem_nil,or_false] at hv
        rcases hv with rfl | rfl
        · exact hnv
        · exact small_t (by omega)
      · obtain ⟨p,hp,hv⟩ := List.mem_flatMap.1 hv
        obtain ⟨a,b⟩ := p
        have hz := List.of_mem_zip hp
        simp only [List.mem_cons,List.not_mem_nil,or_false] at hv
        rcases hv with rfl | rfl
        · exact name_t (hws _ hz.1)
        · have := inW_le (hg _ hz.2); exact small_t (by omega)
    · rw [e,List.length_append,pairs_len,List.length_zip]
      simp only [List.length_cons,List.length_nil]
      omega
  rw [if_neg c3] at hp
  by_cases c4 : f.Kind = 4
  · rw [if_pos c4] at hp
    simp only [Bool.and_eq_true] at hp
    have e : itemsS f = [.str f.Name,.str (namedS f.Of),.int f.Lo,.int f.Hi] := by unfold itemsS; simp [c4]
    have := span_le hp.2
    refine ⟨?_,by rw [e]; simp⟩
    rw [e]; simp only [List.mem_cons,List.not_mem_nil,or_false,forall_eq_or_imp,forall_eq]
    exact ⟨hnv,named_t hp.1,small_t (by omega),small_t (by omega)⟩
  rw [if_neg c4] at hp
  by_cases c5 : f.Kind = 5
  · rw [if_pos c5] at hp
    simp only [Bool.and_eq_true] at hp
    have e : itemsS f = [.str f.Name,.str (namedS f.Of),.int f.Lo,.int f.Hi] := by unfold itemsS; simp [c5]
    have := span_le hp.2
    refine ⟨?_,by rw [e]; simp⟩
    rw [e]; simp only [List.mem_cons,List.not_mem_nil,or_false,forall_eq_or_imp,forall_eq]
    exact ⟨hnv,named_t (by rw [hp.1]; simp),small_t (by omega),small_t (by omega)⟩
  rw [if_neg c5] at hp
  by_cases c6 : f.Kind = 6
  · rw [if_pos c6] at hp
    have e : itemsS f = [.str f.Name,.str f.Of] := by unfold itemsS; simp [c6]
    refine ⟨?_,by rw [e]; simp⟩
    rw [e]; simp only [List.mem_cons,List.not_mem_nil,or_false,forall_eq_or_imp,forall_eq]
    exact ⟨hnv,name_t hp⟩
  rw [if_neg c6] at hp
  by_cases c7 : f.Kind = 7
  · rw [if_pos c7] at hp
    simp only [Bool.and_eq_true] at hp
    have e : itemsS f = [.str f.Name,.str f.Up,.str f.Of,.int f.Lo,.int f.Hi] := by unfold itemsS; simp [c7]
    have := span_le hp.2
    refine ⟨?_,by rw [e]; simp⟩
    rw [e]; simp only [List.mem_cons,List.not_mem_nil,or_false,forall_eq_or_imp,forall_eq]
    exact ⟨hnv,name_t hp.1.2,name_t hp.1.1,small_t (by omega),small_t (by omega)⟩
  rw [if_neg c7] at hp
  by_cases c8 : f.Kind = 8
  · rw [if_pos c8] at hp
    simp only [Bool.and_eq_true] at hp
    have e : itemsS f = [.str f.Name,.str f.Up,.str f.Of] := by unfold itemsS; simp [c8]
    refine ⟨?_,by rw [e]; simp⟩
    rw [e]; simp only [List.mem_cons,List.not_mem_nil,or_false,forall_eq_or_imp,forall_eq]
    exact ⟨hnv,name_t hp.2,name_t hp.1⟩
  rw [if_neg c8] at hp
  cases hp
theorem fieldLine_t {f : Sapi_Field} (h : fieldS f = true) (hw : f.Words.length ≤ 3) : (fieldLine f).length ≤ 115 := by
  obtain ⟨h1,h2⟩ := fieldS_t h hw
  have := line_t (w := wordS f) h1
  have := (wordS_len (fieldS_ok h).kind).2.2
  unfold fieldLine; omega
/-- A schema of at most three kinds. -/
structure Tiny (x : Sapi_Schema) : Prop where
  kinds : x.Kinds.length ≤ 3
  words : ∀ k ∈ x.Kinds,∀ f ∈ k.Fields,f.Words.length ≤ 3
  lives : x.Lives.length ≤ 1
  life : ∀ l ∈ x.Lives,l.States.length ≤ 4 ∧ l.Moves.length ≤ 5
  rules : x.Rules.length ≤ 2
theorem kind_t {k : Sapi_Kind} (h : kindS k = true) (hw : ∀ f ∈ k.Fields,f.Words.length ≤ 3) : (kindSrc k).length ≤ 1200 := by
  simp only [kindS,Bool.and_eq_true,List.all_eq_true,decide_eq_true_eq] at h
  obtain ⟨⟨⟨h1,h2⟩,h3⟩,h4⟩ := h
  have := span_le h2
  have hv : ∀ v ∈ [AnyV.str k.Name,.int k.Lo,.int k.Hi],VT v := by
    simp only [List.mem_cons,List.not_mem_nil,or_false,forall_eq_or_imp,forall_eq]
    exact ⟨name_t h1,small_t (by omega),small_t (by omega)⟩
  have e1 := line_t (w := [107,105,110,100]) hv
  have e2 := flat_len (l := k.Fields) (g := fieldLine) (B := 115) fun f hf => fieldLine_t (h4 f hf) (hw f hf)
  unfold kindSrc
  rw [List.length_append]
  simp only [List.length_cons,List.length_nil] at e1
  omega
theorem life_t {l : Sapi_Life} (h : lifeS l = true) (hs : l.States.length ≤ 4) (hm : l.Moves.length ≤ 5) : (lifeSrc l).length ≤ 300 := by
  simp only [lifeS,Bool.and_eq_true,List.all_eq_true,decide_eq_true_eq] at h
  obtain ⟨⟨⟨⟨h1,h2⟩,h3⟩,h4⟩,h5⟩ := h
  have hl := (inW_le h2).2
  have hv : ∀ v ∈ [AnyV.str l.Name,.int (l.States.length : Int)] ++ l.States.map .str,VT v := fun v hv => by
    rcases List.mem_append.1 hv with hv | hv
    · simp only [List.mem_cons,List.not_mem_nil,or_false] at hv
      rcases hv with rfl | rfl
      · exact name_t h1
      · exact small_t (by omega)
    · obtain ⟨s,hs,rfl⟩ := List.mem_map.1 hv
      exact name_t (h3 s hs)
  have hmv : ∀ m ∈ l.Moves,(moveSrc m).length ≤ 31 := fun m hm => by
    have h6 := h5 m hm
    simp only [moveS,Bool.and_eq_true] at h6
    have a1 := inW_le h6.1
    have a2 := inW_le h6.2
    have := line_t (w := [109,111,118,101]) (l := [AnyV.int m.a0,.int m.a1]) (by
      simp only [List.mem_cons,List.not_mem_nil,or_false,forall_eq_or_imp,forall_eq]
      exact ⟨small_t (by omega),small_t (by omega)⟩)
    simp only [List.length_cons,List.length_nil] at this
    unfold moveSrc; omega
  have e1 := line_t (w := [108,105,102,101]) hv
  have e2 := flat_len hmv
  unfold lifeSrc
  rw [List.length_append]
  simp only [List.length_append,List.length_cons,List.length_nil,List.length_map] at e1
  omega
theorem rule_t {r : Sapi_Rule} (h : ruleS r = true) : (ruleSrc r).length ≤ 70 := by
  simp only [ruleS,Bool.and_eq_true] at h
  obtain ⟨⟨⟨⟨⟨h1,h2⟩,h3⟩,h4⟩,_⟩,h5⟩ := h
  have := inW_le h5
  have := line_t (w := [114,117,108,101]) (l := ruleItems r) (by
    unfold ruleItems
    simp only [List.mem_cons,List.not_mem_nil,or_false,forall_eq_or_imp,forall_eq]
    exact ⟨name_t h1,name_t h2,named_t h3,named_t h4,small_t (by omega)⟩)
  have e : (ruleItems r).length = 5 := rfl
  simp only [List.length_cons,List.length_nil] at this
  unfold ruleSrc; omega
theorem tiny_valid {x : Sapi_Schema} (h : Tiny x) (hv : validS x = true) : validE x = 0 := by
  obtain ⟨t1,t2,t3,t4,t5⟩ := h
  have hok := validS_ok hv
  have e0 := line_t (w := [115,99,104,101,109,97]) (l := [AnyV.int x.Version]) (by
    simp only [List.mem_cons,List.not_mem_nil,or_false,forall_eq]
    have := hok.version
    exact small_t (by omega))
  have e1 := flat_len (l := x.Kinds) (g := kindSrc) (B := 1200) fun k hk => kind_t (hok.kind k hk) (t2 k hk)
  have e2 := flat_len (l := x.Lives) (g := lifeSrc) (B := 300) fun l hl => life_t (hok.life l hl) (t4 l hl).1 (t4 l hl).2
  have e3 := flat_len (l := x.Rules) (g := ruleSrc) (B := 70) fun r hr => rule_t (hok.rule r hr)
  simp only [List.length_cons,List.length_nil] at e0
  unfold validE
  rw [if_pos hv,if_neg]
  unfold srcS
  simp only [List.length_append]
  omega

end Go.Proofs.YthdfmpocknmleaaGreatDoor

namespace Go.Proofs.YthdfmpocknmleaaGreatDoor
open Go.Sim

/-- A valid field of the generator. -/
def VF (f : Sapi_Field) : Prop := fieldS f = true ∧ f.Words.length ≤ 3 ∧ (-1000 ≤ f.Lo ∧ f.Lo ≤ 1000) ∧ (-1000 ≤ f.Hi ∧ f.Hi ≤ 1000)
/-- A valid kind of the generator. -/
def KV (n : Nat) (k : Sapi_Kind) : Prop := k.Fields.length ≤ n ∧ (∀ f ∈ k.Fields,VF f) ∧ nameS k.Name = true ∧ (0 ≤ k.Lo ∧ k.Lo ≤ k.Hi ∧ k.Hi ≤ 65536)
theorem KV.weak {a b : Nat} {k : Sapi_Kind} (h : KV a k) (hab : a ≤ b) : KV b k := ⟨Nat.le_trans h.1 hab,h.2⟩
theorem span_of {lo hi a b : Int} (h : a ≤ lo ∧ lo ≤ hi ∧ hi ≤ b) : spanS lo hi a b = true := by
  unfold spanS; simp only [Bool.and_eq_true,decide_eq_true_eq]; omega
theorem inW_of {n a b : Int} (h : a ≤ n ∧ n ≤ b) : inW n a b = true := by
  unfold inW; simp only [Bool.and_eq_true,decide_eq_true_eq]; omega
section
variable {n o u : Str} {lo hi : Int}
theorem vf_key (hn : nameS n = true) (h : -1000 ≤ lo ∧ lo ≤ 1000) : VF ⟨n,[],[],0,lo,0,[],[]⟩ := by
  refine ⟨?_,by simp,h,by simp⟩
  have := inW_of (n := lo) (a := -1048576) (b := 1048576) (by omega)
  simp [fieldS,sameS,onlyS,partS,hn,this]
theorem vf_ref (hn : nameS n = true) (ho : nameS o = true) (h : 0 ≤ lo ∧ lo ≤ hi ∧ hi ≤ 1000) : VF ⟨n,o,[],1,lo,hi,[],[]⟩ := by
  refine ⟨?_,by simp,by dsimp only; omega,by dsimp only; omega⟩
  have := span_of (lo := lo) (hi := hi) (a := 0) (b := 65536) (by omega)
  simp [fieldS,sameS,onlyS,partS,hn,ho,this]
theorem vf_num (hn : nameS n = true) (h : -1000 ≤ lo ∧ lo ≤ hi ∧ hi ≤ 1000) : VF ⟨n,[],[],2,lo,hi,[],[]⟩ := by
  refine ⟨?_,by simp,by dsimp only; omega,by dsimp only; omega⟩
  have := span_of (lo := lo) (hi := hi) (a := -1048576) (b := 1048576) (by omega)
  simp [fieldS,sameS,onlyS,partS,hn,this]
theorem vf_pick {w : List Str} {g : List Int} (hn : nameS n = true) (h : pickS w g = true) (hw : w.length ≤ 3) : VF ⟨n,[],[],3,0,0,w,g⟩ := by
  refine ⟨?_,hw,by simp,by simp⟩
  simp [fieldS,sameS,onlyS,partS,hn,h]
theorem vf_day (hn : nameS n = true) (ho : ((o == []) || nameS o) = true) (h : -1000 ≤ lo ∧ lo ≤ hi ∧ hi ≤ 1000) : VF ⟨n,o,[],4,lo,hi,[],[]⟩ := by
  refine ⟨?_,by simp,by dsimp only; omega,by dsimp only; omega⟩
  have := span_of (lo := lo) (hi := hi) (a := -1048576) (b := 1048576) (by omega)
  simp [fieldS,sameS,onlyS,partS,hn,this]
  simpa using ho
theorem vf_step (hn : nameS n = true) (ho : nameS o = true) (h : 0 ≤ lo ∧ lo ≤ hi ∧ hi ≤ 32) : VF ⟨n,o,[],5,lo,hi,[],[]⟩ := by
  refine ⟨?_,by simp,by dsimp only; omega,by dsimp only; omega⟩
  have := span_of (lo := lo) (hi := hi) (a := 0) (b := 32) (by omega)
  simp [fieldS,sameS,onlyS,partS,hn,ho,this]
theorem vf_sum (hn : nameS n = true) (ho : nameS o = true) : VF ⟨n,o,[],6,0,0,[],[]⟩ := by
  refine ⟨?_,by simp,by simp,by simp⟩
  simp [fieldS,sameS,onlyS,partS,hn,ho]
theorem vf_share (hn : nameS n = true) (ho : nameS o = true) (hu : nameS u = true) (h : 0 ≤ lo ∧ lo ≤ hi ∧ hi ≤ 1000) : VF ⟨n,o,u,7,lo,hi,[],[]⟩ := by
  refine ⟨?_,by simp,by dsimp only; omega,by dsimp only; omega⟩
  have := span_of (lo := lo) (hi := hi) (a := 0) (b := 1048576) (by omega)
  simp [fieldS,sameS,onlyS,partS,hn,ho,hu,this]
theorem vf_copy (hn : nameS n = true) (ho : nameS o = true) (hu : nameS u = true) : VF ⟨n,o,u,8,0,0,[],[]⟩ := by
  refine ⟨?_,by simp,by simp,by simp⟩
  simp [fieldS,sameS,onlyS,partS,hn,ho,hu]
end
theorem VF.name {f : Sapi_Field} (h : VF f) : nameS f.Name = true := by
  have := h.1
  unfold fieldS at this
  simp only [Bool.and_eq_true] at this
  exact this.1.1

theorem plain_v {m : Sref09_Maker} (hm : MOk m) : Ok (fref09_Maker_plain m) (fun r => r.1.length ≤ 2 ∧ (∀ f ∈ r.1,VF f) ∧ MOk r.2) := by
  unfold fref09_Maker_plain
  refine Ok.take hm (by decide) fun r m1 _ _ h1 => ?_
  refine Ok.ite (fun _ => ?_) (fun _ => ?_)
  · refine Ok.take h1 (by decide) fun r2 m2 a2 b2 h2 => Ok.take h2 (by decide) fun r3 m3 a3 b3 h3 => Ok.mk ⟨by simp,?_,h3⟩
    dsimp only
    rw [w64 (n := r2 - 5) (by omega) (by omega),w64 (n := r2 - 5 + r3) (by omega) (by omega)]
    intro f hf
    rw [List.mem_singleton] at hf; subst hf
    exact vf_num (by decide) (by omega)
  refine Ok.ite (fun _ => ?_) (fun _ => ?_)
  · refine Ok.take h1 (by decide) fun r2 m2 h20 h21 h2 => ?_
    have hr2 : IntKind.i64.wrap (1 + r2) = 1 + r2 := w64 (by omega) (by omega)
    refine Ok.sub (by decide) (by dsimp only; rw [hr2]; omega) (by dsimp only; rw [hr2]; simp; omega) fun w hw hwm => ?_
    dsimp only at hw
    rw [hr2] at hw
    have hwl : 1 ≤ w.length ∧ w.length ≤ 3 := by omega
    have hws : w.all nameS = true := by
      rw [List.all_eq_true]
      intro s hs
      have := hwm s hs
      simp only [List.mem_cons,List.not_mem_nil,or_false] at this
      rcases this with rfl | rfl | rfl <;> decide
    refine Ok.bind (P := fun r => (r.1.length = w.length ∧ ∀ g ∈ r.1,0 ≤ g ∧ g ≤ 10) ∧ MOk r.2) (Ok.loop (fun k s => 0 ≤ s.1 ∧ s.1 + k = w.length ∧ s.2.1.length = s.1 ∧ (∀ g ∈ s.2.1,0 ≤ g ∧ g ≤ 10) ∧ MOk s.2.2) w.length ⟨Int.le_refl _,by simp,by simp,by simp,h2⟩ fun k s hs => ?_) (fun p hp => ?_)
    · obtain ⟨i,ws,m3⟩ := s
      obtain ⟨e1,e2,e3,e5,e4⟩ := hs
      dsimp only at e1 e2 e3 e4 e5
      refine Ok.ite (fun h => ?_) (fun h => ?_)
      · have h' : i < w.length := of_decide_eq_true h
        refine Ok.take e4 (by decide) fun r4 m4 a4 b4 h4 => Ok.rm (by simp; omega) (Ok.mk ?_)
        dsimp only
        rw [w64 (by omega) (by omega)]
        refine ⟨k - 1,by omega,by omega,by omega,by simp; omega,fun g hg => ?_,h4⟩
        rcases List.mem_append.1 hg with hg | hg
        · exact e5 g hg
        · rw [List.mem_singleton] at hg; omega
      · have h' : ¬ i < w.length := of_decide_eq_false h
        exact Ok.mk ⟨⟨by dsimp only; omega,e5⟩,e4⟩
    · obtain ⟨⟨p1,p2⟩,p3⟩ := hp
      refine Ok.take p3 (by omega) fun r4 m4 h40 h41 h4 => Ok.take h4 (by decide) fun r5 m5 a5 b5 h5 => ?_
      refine Ok.setAt h40 (by dsimp only; omega) (Ok.mk ⟨by simp,?_,h5⟩)
      dsimp only
      rw [w64 (n := 1 + r5) (by omega) (by omega)]
      intro f hf
      rw [List.mem_singleton] at hf
      subst hf
      have hall : ∀ g ∈ p.1.set r4.toNat (1 + r5),0 ≤ g ∧ g ≤ 10 := fun g hg => by
        rcases List.mem_or_eq_of_mem_set hg with hg | hg
        · exact p2 g hg
        · omega
      have hmem : (1 + r5) ∈ p.1.set r4.toNat (1 + r5) := List.mem_set (by omega) _
      have hsum : ∀ l : List Int,(∀ g ∈ l,0 ≤ g ∧ g ≤ 10) → ∀ v ∈ l,v ≤ l.sum ∧ 0 ≤ l.sum := fun l => by
        induction l with
        | nil => intro _ v hv; cases hv
        | cons a l ih =>
          intro hl v hv
          have ha := hl a List.mem_cons_self
          have hs : 0 ≤ l.sum := by
            have : ∀ l : List Int,(∀ g ∈ l,0 ≤ g ∧ g ≤ 10) → 0 ≤ l.sum := fun l => by
              induction l with
              | nil => intro _; simp
              | cons b l ih2 => intro h; have h1 := h b List.mem_cons_self; have h2 := ih2 fun g hg => h g (List.mem_cons_of_mem _ hg); simp only [List.sum_cons]; omega
            exact this l fun g hg => hl g (List.mem_cons_of_mem _ hg)
          simp only [List.sum_cons]
          rcases List.mem_cons.1 hv with rfl | hv
          · omega
          · have := (ih (fun g hg => hl g (List.mem_cons_of_mem _ hg)) v hv).1; omega
      refine vf_pick (by decide) ?_ (by omega)
      unfold pickS
      simp only [Bool.and_eq_true,List.all_eq_true,beq_iff_eq,decide_eq_true_eq]
      refine ⟨fun g hg => inW_of (by have := hall g hg; omega),⟨⟨inW_of (by omega),by rw [List.length_set]; omega⟩,?_⟩,fun s hs => List.all_eq_true.1 hws s hs⟩
      have := (hsum _ hall _ hmem).1
      omega
  refine Ok.ite (fun _ => ?_) (fun _ => ?_)
  · refine Ok.take h1 (by decide) fun r2 m2 a2 b2 h2 => Ok.take h2 (by decide) fun r3 m3 a3 b3 h3 => Ok.take h3 (by decide) fun r4 m4 a4 b4 h4 => Ok.take h4 (by decide) fun r5 m5 a5 b5 h5 => Ok.mk ⟨by simp,?_,h5⟩
    dsimp only
    rw [w64 (n := r2 - 200) (by omega) (by omega),w64 (n := r2 - 200 + r3) (by omega) (by omega),w64 (n := 3 + r5) (by omega) (by omega)]
    intro f hf
    simp only [List.mem_cons,List.not_mem_nil,or_false] at hf
    rcases hf with rfl | rfl
    · exact vf_day (by decide) (by decide) (by omega)
    · exact vf_day (by decide) (by decide) (by omega)
  refine Ok.ite (fun _ => ?_) (fun _ => ?_)
  · refine Ok.take h1 (by decide) fun r2 m2 a2 b2 h2 => Ok.take h2 (by decide) fun r3 m3 a3 b3 h3 => Ok.mk ⟨by simp,?_,h3⟩
    dsimp only
    rw [w64 (n := r2 + r3) (by omega) (by omega)]
    intro f hf
    rw [List.mem_singleton] at hf; subst hf
    exact vf_step (by decide) (by decide) (by omega)
  refine Ok.ite (fun _ => ?_) (fun _ => ?_)
  · refine Ok.take h1 (by decide) fun r2 m2 a2 b2 h2 => Ok.take h2 (by decide) fun r3 m3 a3 b3 h3 => Ok.take h3 (by decide) fun r4 m4 a4 b4 h4 => Ok.take h4 (by decide) fun r5 m5 a5 b5 h5 => Ok.mk ⟨by simp,?_,h5⟩
    dsimp only
    rw [w64 (n := 5 + r3) (by omega) (by omega),w64 (n := 10 + r5) (by omega) (by omega)]
    intro f hf
    simp only [List.mem_cons,List.not_mem_nil,or_false] at hf
    rcases hf with rfl | rfl
    · exact vf_num (by decide) (by omega)
    · exact vf_num (by decide) (by omega)
  · exact Ok.mk ⟨by simp,by simp,h1⟩

end Go.Proofs.YthdfmpocknmleaaGreatDoor

namespace Go.Proofs.YthdfmpocknmleaaGreatDoor
open Go.Sim

set_option maxHeartbeats 1000000 in
theorem kind_gv {m : Sref09_Maker} {l : List Sapi_Kind} {N : Nat} (hm : MOk m) (hl : l.length ≤ 2) (hN : N ≤ 20) (hk : ∀ k ∈ l,KV N k) :
    Ok (fref09_Maker_kind m l) (fun r => (KV 9 r.1 ∧ (l.length ≤ 1 → KV 8 r.1) ∧ (l.length = 0 → KV 5 r.1)) ∧ MOk r.2.1 ∧ r.2.2.length = l.length ∧ ∀ k ∈ r.2.2,KV (N + 1) k) := by
  unfold fref09_Maker_kind
  refine Ok.take hm (by decide) fun r1 m1 a1 b1 h1 => ?_
  refine Ok.idx a1 (by simpa using b1) fun lo hlo _ => ?_
  refine Ok.idx (by omega) (by simp; omega) fun name hname _ => ?_
  have hsn : nameS name = true := by
    simp only [List.mem_cons,List.not_mem_nil,or_false] at hname
    rcases hname with rfl | rfl | rfl <;> decide
  have hlo2 : 0 ≤ lo ∧ lo ≤ 4 := by
    simp only [List.mem_cons,List.not_mem_nil,or_false] at hlo
    omega
  refine Ok.take h1 (by decide) fun r2 m2 a2 b2 h2 => ?_
  refine Ok.take h2 (by decide) fun r3 m3 a3 b3 h3 => ?_
  refine Ok.idx a3 (by simpa using b3) fun id0 hid _ => ?_
  have hid2 : VF ⟨[105,100],[],[],0,id0,0,[],[]⟩ := by
    simp only [List.mem_cons,List.not_mem_nil,or_false] at hid
    exact vf_key (by decide) (by omega)
  have hone : ∀ f ∈ ([⟨[105,100],[],[],0,id0,0,[],[]⟩] : List Sapi_Field),VF f := fun f hf => by rw [List.mem_singleton] at hf; subst hf; exact hid2
  refine Ok.rm (by simp) ?_
  refine Ok.bind (P := fun p : Sref09_Maker × List Sapi_Field × List Sapi_Kind => MOk p.1 ∧ (p.2.1.length ≤ 4 ∧ (l.length = 0 → p.2.1.length ≤ 1)) ∧ (∀ f ∈ p.2.1,VF f) ∧ p.2.2.length = l.length ∧ ∀ k ∈ p.2.2,KV (N + 1) k)
    (Ok.ite (fun hpos => ?_) (fun _ => Ok.mk ⟨h3,⟨by simp,by simp⟩,hone,rfl,fun k h => (hk k h).weak (by omega)⟩)) fun p hp => ?_
  · have hpos' : (0:Int) < l.length := of_decide_eq_true hpos
    refine Ok.take h3 (by omega) fun to m4 a4 b4 h4 => ?_
    refine Ok.idx a4 b4 fun kt hkt ekt => ?_
    refine Ok.take h4 (by decide) fun r5 m5 a5 b5 h5 => ?_
    refine Ok.idx a5 (by simpa using b5) fun hi hhi _ => ?_
    have hhi2 : 2 ≤ hi ∧ hi ≤ 8 := by
      simp only [List.mem_cons,List.not_mem_nil,or_false] at hhi
      omega
    refine Ok.take h5 (by decide) fun r6 m6 _ _ h6 => ?_
    have skt := (hk kt hkt).2.2.1
    refine Ok.bind (P := VF) (Ok.ite (fun _ => Ok.mk (vf_ref (by decide) skt (by omega))) (fun _ => Ok.mk (vf_ref (by decide) skt (by omega)))) fun f hf => ?_
    refine Ok.rm (by simp) ?_
    refine Ok.idx a4 b4 fun kt1 hkt1 _ => ?_
    refine (copied_ok (by have := (hk _ hkt1).1; omega)).bind fun c hc => ?_
    refine Ok.opt (P := fun r : Int × Sref09_Maker => MOk r.2) (fun h => (take_ok h6 (by decide)).weak fun r h => h.2.2) fun r7 h7 => ?_
    have m7 : MOk (bif (decide (c ≥ (0:Int))) == true then r7.2 else m6) := mok_cond (fun h => h7 (by rw [h]; rfl)) h6
    refine Ok.bind (P := fun p : List Sapi_Field => p.length ≤ 3 ∧ ∀ f ∈ p,VF f) (Ok.ite (fun h => ?_) (fun _ => Ok.mk ⟨by simp,?_⟩)) fun fs hfs => ?_
    · simp only [Bool.and_eq_true,decide_eq_true_eq] at h
      refine Ok.idx a4 b4 fun kt2 hkt2 ekt2 => ?_
      have e : kt2 = kt1 := by simp_all
      subst e
      refine Ok.idx h.1 hc.2 fun g hg _ => Ok.rm (by simp) (Ok.mk ⟨by simp,?_⟩)
      have sg := ((hk _ hkt1).2.1 g hg).name
      intro x hx
      simp only [List.nil_append,List.cons_append,List.mem_cons,List.not_mem_nil,or_false] at hx
      rcases hx with rfl | rfl | rfl
      · exact hid2
      · exact hf
      · exact vf_copy (by decide) sg (by decide)
    · intro x hx
      simp only [List.nil_append,List.cons_append,List.mem_cons,List.not_mem_nil,or_false] at hx
      rcases hx with rfl | rfl
      · exact hid2
      · exact hf
    · refine Ok.idx a4 b4 fun kt3 hkt3 ekt3 => ?_
      refine (has_ok (by have := (hk _ hkt3).1; omega)).bind fun tot htot => ?_
      refine Ok.opt (P := fun r : Int × Sref09_Maker => MOk r.2) (fun h => (take_ok m7 (by decide)).weak fun r h => h.2.2) fun r8 h8 => ?_
      have m8 : MOk (bif (decide (tot < (0:Int))) == true then r8.2 else (bif (decide (c ≥ (0:Int))) == true then r7.2 else m6)) := mok_cond (fun h => h8 (by rw [h]; rfl)) m7
      refine Ok.bind (P := fun p : Sref09_Maker × List Sapi_Field × List Sapi_Kind => MOk p.1 ∧ (p.2.1.length ≤ 4 ∧ (l.length = 0 → p.2.1.length ≤ 1)) ∧ (∀ f ∈ p.2.1,VF f) ∧ p.2.2.length = l.length ∧ ∀ k ∈ p.2.2,KV (N + 1) k)
        (Ok.ite (fun h => ?_) (fun _ => Ok.mk ⟨m8,⟨by have := hfs.1; dsimp only; omega,fun h0 => by omega⟩,hfs.2,rfl,fun k h => (hk k h).weak (by omega)⟩)) fun p hp => Ok.mk hp
      refine Ok.take m8 (by decide) fun r9 m9 a9 b9 h9 => Ok.take h9 (by decide) fun r10 m10 a10 b10 h10 => ?_
      refine Ok.rm (by have := hfs.1; simp; omega) ?_
      refine Ok.idx a4 b4 fun kt4 hkt4 ekt4 => ?_
      have hk4 := hk _ hkt4
      have hk41 := hk4.1
      refine Ok.rm (by simp; omega) (Ok.rm (by simp; omega) ?_)
      refine Ok.idx a4 b4 fun kt5 hkt5 ekt5 => ?_
      have e : kt5 = kt4 := by simp_all
      subst e
      refine Ok.setAt a4 b4 (Ok.mk ⟨h10,⟨?_,fun h0 => by omega⟩,?_,?_,?_⟩)
      · have := hfs.1; simp; omega
      · intro x hx
        rcases List.mem_append.1 hx with hx | hx
        · exact hfs.2 x hx
        · rw [List.mem_singleton] at hx; subst hx
          rw [w64 (n := r9 + r10) (by omega) (by omega)]
          exact vf_share (by decide) (by decide) (by decide) (by omega)
      · simp
      · intro k hkm
        rcases List.mem_or_eq_of_mem_set hkm with hkm | rfl
        · exact (hk k hkm).weak (by omega)
        · refine ⟨?_,?_,hk4.2.2⟩
          · simp; omega
          · intro x hx
            rcases List.mem_append.1 hx with hx | hx
            · exact hk4.2.1 x (by simpa using hx)
            · rw [List.mem_singleton] at hx; subst hx; exact vf_sum (by decide) hsn
  · obtain ⟨q1,⟨q2,q6⟩,q3,q4,q5⟩ := hp
    refine Ok.opt (P := fun r : Int × Sref09_Maker => MOk r.2) (fun h => (take_ok q1 (by decide)).weak fun r h => h.2.2) fun r11 h11 => ?_
    have m11 : MOk (bif (decide ((l.length : Int) > (1:Int))) == true then r11.2 else p.1) := mok_cond (fun h => h11 (by rw [h]; rfl)) q1
    refine Ok.bind (P := fun p : List Sapi_Field => (p.length ≤ 5 ∧ (l.length ≤ 1 → p.length ≤ 4) ∧ (l.length = 0 → p.length ≤ 1)) ∧ ∀ f ∈ p,VF f) (Ok.ite (fun h => ?_) (fun _ => Ok.mk ⟨⟨by omega,fun _ => q2,q6⟩,q3⟩)) fun fs hfs => ?_
    · simp only [Bool.and_eq_true,decide_eq_true_eq] at h
      refine Ok.idx (by decide) (by omega) fun k0 hk0 _ => Ok.rm (by simp; omega) (Ok.mk ⟨⟨by simp; omega,fun h1 => by omega,fun h1 => by omega⟩,?_⟩)
      intro x hx
      rcases List.mem_append.1 hx with hx | hx
      · exact q3 x hx
      · rw [List.mem_singleton] at hx; subst hx; exact vf_ref (by decide) (q5 k0 hk0).2.2.1 (by decide)
    · refine (plain_v m11).bind fun r12 h12 => ?_
      obtain ⟨c1,c2,c3⟩ := h12
      obtain ⟨⟨f1,f3,f4⟩,f2⟩ := hfs
      refine Ok.rm (by omega) ?_
      refine Ok.take c3 (by decide) fun r13 m13 _ _ h13 => ?_
      have all7 : ∀ f ∈ fs ++ r12.1,VF f := fun x hx => (List.mem_append.1 hx).elim (f2 x) (c2 x)
      have len7 : (fs ++ r12.1).length ≤ 7 ∧ (l.length ≤ 1 → (fs ++ r12.1).length ≤ 6) ∧ (l.length = 0 → (fs ++ r12.1).length ≤ 3) := by
        rw [List.length_append]
        exact ⟨by omega,fun h => by have := f3 h; omega,fun h => by have := f4 h; omega⟩
      obtain ⟨len7,len6,len3⟩ := len7
      have eh : IntKind.i64.wrap (lo + r2) = lo + r2 := w64 (by omega) (by omega)
      refine Ok.bind (P := fun p : Sref09_Maker × List Sapi_Field => MOk p.1 ∧ (p.2.length ≤ 9 ∧ (l.length ≤ 1 → p.2.length ≤ 8) ∧ (l.length = 0 → p.2.length ≤ 5)) ∧ ∀ f ∈ p.2,VF f) (Ok.ite (fun h => ?_) (fun _ => Ok.mk ⟨h13,⟨by dsimp only; omega,fun h => by have := len6 h; dsimp only; omega,fun h => by have := len3 h; dsimp only; omega⟩,all7⟩)) fun p52 hp52 => Ok.mk ⟨⟨⟨hp52.2.1.1,hp52.2.2,hsn,?_⟩,fun h => ⟨hp52.2.1.2.1 h,hp52.2.2,hsn,?_⟩,fun h => ⟨hp52.2.1.2.2 h,hp52.2.2,hsn,?_⟩⟩,hp52.1,q4,q5⟩
      rotate_left
      · dsimp only; rw [eh]; omega
      · dsimp only; rw [eh]; omega
      · dsimp only; rw [eh]; omega
      refine (plain_v h13).bind fun r14 h14 => ?_
      obtain ⟨d1,d2,d3⟩ := h14
      refine Ok.opt (P := fun _ => True) (fun h => ?_) fun g _ => ?_
      · have h' : (r14.1.length : Int) > 0 := by simpa using h
        exact (Ok.idx (by decide) (by omega) fun v _ _ => Ok.mk trivial : Ok ((idx r14.1 0).bind some) _).weak (fun _ h => h) |> fun h => by simpa using h
      refine Ok.opt (P := fun _ => True) (fun h => (has_ok (by omega)).weak fun _ _ => trivial) fun g2 _ => ?_
      refine Ok.bind (P := fun p : List Sapi_Field => (p.length ≤ 9 ∧ (l.length ≤ 1 → p.length ≤ 8) ∧ (l.length = 0 → p.length ≤ 5)) ∧ ∀ f ∈ p,VF f) (Ok.ite (fun h => Ok.rm (by omega) (Ok.mk ⟨⟨by rw [List.length_append]; omega,fun h => by rw [List.length_append]; have := len6 h; omega,fun h => by rw [List.length_append]; have := len3 h; omega⟩,fun x hx => (List.mem_append.1 hx).elim (all7 x) (d2 x)⟩)) (fun _ => Ok.mk ⟨⟨by omega,fun h => by have := len6 h; omega,fun h => by have := len3 h; omega⟩,all7⟩)) fun p64 hp64 => Ok.mk ⟨d3,hp64.1,hp64.2⟩

end Go.Proofs.YthdfmpocknmleaaGreatDoor

namespace Go.Proofs.YthdfmpocknmleaaGreatDoor
open Go.Sim

theorem nameS_mem {s : Str} (h : nameS s = true) : ∀ c ∈ s,(letterS (c.toNat : Int) || digitS (c.toNat : Int)) = true := by
  unfold nameS at h
  simp only [Bool.and_eq_true] at h
  intro c hc
  have h3 := h.2.2
  unfold bytesOf at h3
  rw [List.all_map] at h3
  exact List.all_eq_true.1 h3 c hc
theorem nameS_pre {a r : Str} (ha : nameS a = true) (hl : a.length ≤ 10) (hr : r.length = 1) (hm : ∀ c ∈ r,(letterS (c.toNat : Int) || digitS (c.toNat : Int)) = true) : nameS (a ++ r) = true := by
  cases a with
  | nil => cases ha
  | cons b a =>
    have hall := nameS_mem ha
    unfold nameS at ha ⊢
    simp only [Bool.and_eq_true,List.cons_append] at ha ⊢
    refine ⟨inW_of (by simp only [List.length_cons,List.length_append] at hl ⊢; omega),ha.2.1,?_⟩
    unfold bytesOf
    rw [List.all_map,List.all_eq_true]
    intro c hc
    rw [← List.cons_append] at hc
    rcases List.mem_append.1 hc with hc | hc
    · exact hall c hc
    · exact hm c hc
theorem rule_gv {m : Sref09_Maker} {k : Sapi_Kind} (hm : MOk m) (hk : KV 9 k) : Ok (fref09_Maker_rule m k) (fun r => (r.2.1 = true → ruleS r.1 = true) ∧ MOk r.2.2) := by
  unfold fref09_Maker_rule
  obtain ⟨k1,k2,ks,_⟩ := hk
  have kl := nameS_len ks
  have k0 : 1 ≤ k.Name.length := by
    unfold nameS at ks
    simp only [Bool.and_eq_true] at ks
    have := (inW_le ks.1).1
    omega
  refine (has_ok (by omega)).bind fun a ha => (has_ok (by omega)).bind fun b hb => ?_
  refine Ok.opt (P := fun r : Int × Sref09_Maker => MOk r.2) (fun h => (take_ok hm (by decide)).weak fun r h => h.2.2) fun r1 h1 => ?_
  have m1 : MOk (bif (decide (a ≥ (0:Int))) == true then r1.2 else m) := mok_cond (fun h => h1 (by rw [h]; rfl)) hm
  have nm : ∀ {β : Type} {Q : β → Prop} {f : Str → Option β},(∀ r : Str,r.length = 1 → (∀ c ∈ r,(letterS (c.toNat : Int) || digitS (c.toNat : Int)) = true) → Ok (f r) Q) → Ok ((sub k.Name 0 1).bind f) Q :=
    fun h => Ok.sub (by decide) (by decide) (by omega) fun r hr hrm => h r (by simpa using hr) fun c hc => nameS_mem ks c (hrm c hc)
  have fin : ∀ {n a b : Str} {v : Int},nameS n = true → ((a == []) || nameS a) = true → ((b == []) || nameS b) = true → (a ++ b != []) = true → -2000 ≤ v ∧ v ≤ 2000 → ruleS ⟨n,k.Name,a,b,v⟩ = true := fun h1 h2 h3 h4 h5 => by
    unfold ruleS
    simp only [h1,ks,h2,h3,h4,Bool.true_and,Bool.and_self]
    exact inW_of (by omega)
  refine Ok.ite (fun _ => nm fun r hr hm => Ok.cat (by simp; omega) (Ok.take m1 (by decide) fun v m2 a2 b2 h2 => Ok.mk ⟨fun _ => ?_,h2⟩)) (fun _ => ?_)
  · dsimp only
    rw [w64 (n := v - 2) (by omega) (by omega)]
    exact fin (nameS_pre (by decide) (by decide) hr hm) (by decide) (by decide) (by decide) (by omega)
  refine Ok.ite (fun _ => Ok.mk ⟨fun h => (by cases h),m1⟩) (fun h => ?_)
  have hb0 : ¬ b < 0 := of_decide_eq_false h
  refine Ok.idx (by omega) hb.2 fun f hf _ => Ok.take m1 (by decide) fun r2 m2 _ _ h2 => ?_
  obtain ⟨_,_,hlo,hhi⟩ := k2 f hf
  refine Ok.ite (fun _ => nm fun r hr hm => Ok.cat (by simp; omega) (Ok.take h2 (by decide) fun v m2 a2 b2 h2 => Ok.mk ⟨fun _ => ?_,h2⟩)) (fun _ => nm fun r hr hm => Ok.cat (by simp; omega) (Ok.take h2 (by decide) fun v m2 a2 b2 h2 => Ok.mk ⟨fun _ => ?_,h2⟩))
  · dsimp only
    rw [w64 (n := f.Lo + v) (by omega) (by omega)]
    exact fin (nameS_pre (by decide) (by decide) hr hm) (by decide) (by decide) (by decide) (by omega)
  · dsimp only
    rw [w64 (n := v - f.Hi) (by omega) (by omega)]
    exact fin (nameS_pre (by decide) (by decide) hr hm) (by decide) (by decide) (by decide) (by omega)

/-- How many fields a kind may have, when so many kinds are made. -/
def bdN (n : Nat) : Nat := if n ≤ 1 then 5 else if n ≤ 2 then 8 else 9
theorem schema_v {l : List Int} (hl : ∀ x ∈ l,I64 x) : Ok (fref09_Schema l) (fun x => Tiny x ∧ validS x = true ∧ ∀ k ∈ x.Kinds,KV 9 k) := by
  unfold fref09_Schema
  refine Ok.sub (by decide) (by unfold imin; split <;> omega) (by unfold imin; split <;> omega) fun w _ hw => ?_
  have h0 : MOk (Sref09_Maker.mk w 0) := fun x hx => hl x (hw x hx)
  refine Ok.take h0 (by decide) fun v m1 av bv h1 => Ok.take h1 (by decide) fun n m2 a2 b2 h2 => ?_
  have en : IntKind.i64.wrap (1 + n) = 1 + n := w64 (by omega) (by omega)
  refine Ok.bind (P := fun p : List Sapi_Kind × Sref09_Maker => p.1.length = 1 + n ∧ (∀ k ∈ p.1,KV 9 k) ∧ MOk p.2)
    (Ok.loop (fun k s => 0 ≤ s.1 ∧ s.1 + k = 1 + n ∧ s.2.1.length = s.1 ∧ (∀ q ∈ s.2.1,KV (bdN s.1.toNat) q) ∧ MOk s.2.2) (1 + n).toNat ⟨Int.le_refl _,by dsimp only; omega,by simp,by simp,h2⟩ fun k s hs => ?_) (fun p hp => ?_)
  · obtain ⟨i,ks,m3⟩ := s
    obtain ⟨e1,e2,e3,e4,e5⟩ := hs
    dsimp only at e1 e2 e3 e4 e5
    have hbd : bdN i.toNat ≤ 9 := by unfold bdN; split <;> (try split) <;> omega
    refine Ok.ite (fun h => ?_) (fun h => ?_)
    · have h' : i < 1 + n := by have := of_decide_eq_true h; rwa [en] at this
      refine (kind_gv (N := bdN i.toNat) e5 (by omega) (by omega) e4).bind fun r hr => ?_
      obtain ⟨⟨r1,r5,r6⟩,r2,r3,r4⟩ := hr
      refine Ok.rm (by simp; omega) (Ok.mk ?_)
      have ei : IntKind.i64.wrap (i + 1) = i + 1 := w64 (by omega) (by omega)
      refine ⟨k - 1,by omega,?_⟩
      dsimp only
      rw [ei]
      refine ⟨by omega,by omega,by simp; omega,fun q hq => ?_,r2⟩
      have hi : i = 0 ∨ i = 1 ∨ i = 2 := by omega
      rcases List.mem_append.1 hq with hq | hq
      · refine (r4 q hq).weak ?_
        rcases hi with rfl | rfl | rfl
        · have : ks.length = 0 := by omega
          rw [List.length_eq_zero_iff.1 (by rw [r3,this] : r.2.2.length = 0)] at hq
          cases hq
        · decide
        · decide
      · rw [List.mem_singleton] at hq; subst hq
        rcases hi with rfl | rfl | rfl
        · exact r6 (by omega)
        · exact r5 (by omega)
        · exact r1
    · have h' : ¬ i < 1 + n := by have := of_decide_eq_false h; rwa [en] at this
      refine Ok.mk ⟨by dsimp only; omega,fun q hq => (e4 q hq).weak hbd,e5⟩
  obtain ⟨p1,p2,p3⟩ := hp
  refine Ok.take p3 (by decide) fun t m4 a4 b4 h4 => ?_
  have et : IntKind.i64.wrap (2 + t) = 2 + t := w64 (by omega) (by omega)
  refine Ok.sub (by decide) (by dsimp only; rw [et]; omega) (by dsimp only; rw [et]; simp; omega) fun st hst hsm => ?_
  dsimp only at hst
  rw [et] at hst
  have hsl : 2 ≤ st.length ∧ st.length ≤ 4 := by omega
  have hsn : st.all nameS = true := by
    rw [List.all_eq_true]
    intro s hs
    have := hsm s hs
    simp only [List.mem_cons,List.not_mem_nil,or_false] at this
    rcases this with rfl | rfl | rfl | rfl <;> decide
  have mv : ∀ {a b : Int},0 ≤ a ∧ a < st.length → 0 ≤ b ∧ b < st.length → moveS (st.length : Int) ⟨a,b⟩ = true := fun h1 h2 => by
    unfold moveS
    rw [inW_of (by dsimp only; omega),inW_of (by dsimp only; omega)]; rfl
  refine Ok.bind (P := fun p : List A2_Int => p.length ≤ 3 ∧ ∀ m ∈ p,moveS (st.length : Int) m = true) (Ok.loop (fun k s => 0 ≤ s.1 ∧ s.1 + 1 + k = st.length ∧ s.2.length = s.1 ∧ ∀ m ∈ s.2,moveS (st.length : Int) m = true) (st.length - 1) ⟨Int.le_refl _,by dsimp only; omega,by simp,by simp⟩ fun k s hs => ?_) (fun mvs hmv => ?_)
  · obtain ⟨i,ms⟩ := s
    obtain ⟨e1,e2,e3,e4⟩ := hs
    dsimp only at e1 e2 e3 e4
    have ei : IntKind.i64.wrap (i + 1) = i + 1 := w64 (by omega) (by omega)
    refine Ok.ite (fun h => ?_) (fun h => ?_)
    · have h' : i + 1 < st.length := by have := of_decide_eq_true h; rwa [ei] at this
      refine Ok.rm (by simp; omega) (Ok.mk ⟨k - 1,by omega,?_⟩)
      dsimp only
      rw [ei]
      refine ⟨by omega,by omega,by simp; omega,fun q hq => ?_⟩
      rcases List.mem_append.1 hq with hq | hq
      · exact e4 q hq
      · rw [List.mem_singleton] at hq; subst hq; exact mv (by omega) (by omega)
    · have h' : ¬ i + 1 < st.length := by have := of_decide_eq_false h; rwa [ei] at this
      exact Ok.mk ⟨by dsimp only; omega,e4⟩
  obtain ⟨hmv,hmm⟩ := hmv
  have addm : ∀ {ms : List A2_Int} {m : A2_Int},(∀ q ∈ ms,moveS (st.length : Int) q = true) → moveS (st.length : Int) m = true → ∀ q ∈ ms ++ [m],moveS (st.length : Int) q = true := fun h1 h2 q hq => by
    rcases List.mem_append.1 hq with hq | hq
    · exact h1 q hq
    · rw [List.mem_singleton] at hq; subst hq; exact h2
  refine Ok.take h4 (by decide) fun r5 m5 _ _ h5 => ?_
  refine Ok.bind (P := fun p : List A2_Int => p.length ≤ 4 ∧ ∀ m ∈ p,moveS (st.length : Int) m = true) (Ok.ite (fun _ => Ok.rm (by simp; omega) (Ok.mk ⟨by simp; omega,addm hmm (mv (by omega) (by omega))⟩)) (fun _ => Ok.mk ⟨by omega,hmm⟩)) fun mv2 hmv2 => ?_
  obtain ⟨hmv2,hmm2⟩ := hmv2
  refine Ok.take h5 (by decide) fun r6 m6 _ _ h6 => ?_
  have es : IntKind.i64.wrap ((st.length : Int) - 1) = (st.length : Int) - 1 := w64 (by omega) (by omega)
  refine Ok.bind (P := fun p : List A2_Int => p.length ≤ 5 ∧ ∀ m ∈ p,moveS (st.length : Int) m = true) (Ok.ite (fun _ => Ok.rm (by simp; omega) (Ok.mk ⟨by simp; omega,by rw [es]; exact addm hmm2 (mv (by omega) (by omega))⟩)) (fun _ => Ok.mk ⟨by omega,hmm2⟩)) fun mv3 hmv3 => ?_
  obtain ⟨hmv3,hmm3⟩ := hmv3
  refine Ok.rm (by simp) ?_
  refine Ok.bind (P := fun p : List Sapi_Rule => p.length ≤ 2 ∧ ∀ r ∈ p,ruleS r = true) (Ok.loop (fun k s => 0 ≤ s.1 ∧ s.1 + k = 1 + n ∧ (s.2.1.length ≤ 2 ∧ ∀ r ∈ s.2.1,ruleS r = true) ∧ MOk s.2.2) (1 + n).toNat ⟨Int.le_refl _,by dsimp only; omega,by simp,h6⟩ fun k s hs => ?_) (fun rs hrs => ?_)
  · obtain ⟨i,rs,m7⟩ := s
    obtain ⟨e1,e2,e3,e4⟩ := hs
    dsimp only at e1 e2 e3 e4
    refine Ok.ite (fun h => ?_) (fun h => Ok.mk e3)
    simp only [Bool.and_eq_true,decide_eq_true_eq,en] at h
    refine Ok.idx e1 (by omega) fun q hq _ => (rule_gv e4 (p2 q hq)).bind fun r hr => ?_
    refine Ok.bind (P := fun p : List Sapi_Rule => p.length ≤ 2 ∧ ∀ r ∈ p,ruleS r = true) (Ok.ite (fun hy => Ok.rm (by simp; omega) (Ok.mk ⟨by simp; omega,fun y hy2 => (List.mem_append.1 hy2).elim (e3.2 y) fun hy3 => by rw [List.mem_singleton] at hy3; subst hy3; exact hr.1 hy⟩)) (fun _ => Ok.mk e3)) fun rs2 hrs2 => Ok.mk ⟨k - 1,by omega,?_⟩
    dsimp only
    rw [w64 (n := i + 1) (by omega) (by omega)]
    exact ⟨by omega,by omega,hrs2,hr.2⟩
  · refine Ok.mk ⟨⟨by dsimp only; omega,fun k hk f hf => ((p2 k hk).2.1 f hf).2.1,by simp,?_,hrs.1⟩,?_,p2⟩
    · intro q hq
      simp only [List.nil_append,List.mem_singleton] at hq
      subst hq
      exact ⟨by dsimp only; omega,by dsimp only; omega⟩
    · have hk : p.1.all kindS = true := by
        rw [List.all_eq_true]
        intro k hk
        obtain ⟨c1,c2,c3,c4⟩ := p2 k hk
        unfold kindS
        simp only [Bool.and_eq_true,decide_eq_true_eq,List.all_eq_true]
        exact ⟨⟨⟨c3,span_of c4⟩,by omega⟩,fun f hf => (c2 f hf).1⟩
      have hlf : lifeS ⟨[108,105,102,101],st,mv3⟩ = true := by
        unfold lifeS
        simp only [Bool.and_eq_true,decide_eq_true_eq]
        exact ⟨⟨⟨⟨by decide,inW_of (by omega)⟩,hsn⟩,by omega⟩,List.all_eq_true.2 hmm3⟩
      unfold validS
      simp only [Bool.and_eq_true,decide_eq_true_eq]
      refine ⟨⟨⟨⟨⟨⟨inW_of (by omega),by omega⟩,by simp⟩,by have := hrs.1; omega⟩,hk⟩,?_⟩,List.all_eq_true.2 hrs.2⟩
      simp [hlf]

end Go.Proofs.YthdfmpocknmleaaGreatDoor

namespace Go.Proofs.YthdfmpocknmleaaGreatDoor
open Go.Sim

def badN (n : Int) : Bool := decide (n < 0) || decide (n > 524288)
theorem indexInt {s : List Int} {f : Int → Option Bool} {p : Int → Bool} (hs : s.length ≤ 1000000) (hf : ∀ x ∈ s,f x = some (p x)) : fslices_IndexFunc_int s f = some (firstIdx s p) := by
  unfold fslices_IndexFunc_int
  rw [tailrec_first s p (fun k hk => ?_) ?_]
  · unfold firstIdx; cases s.findIdx? p <;> rfl
  · rw [if_neg (by simp)]
  · rw [if_pos (by simpa using hk),idx_lt hk]
    show (f s[k]).bind _ = _
    rw [hf _ (List.getElem_mem hk),w64_succ hk (by omega)]; rfl
theorem contains_bad {l : List Int} (hl : l.length ≤ 1000000) : fslices_ContainsFunc_int l (fun x0 => flearn_Fitq1 x0) = some (l.any badN) := by
  unfold fslices_ContainsFunc_int
  rw [indexInt (f := fun x0 => flearn_Fitq1 x0) (p := badN) hl (fun _ _ => rfl),← firstIdx_any]; rfl
theorem cloneK_is (l : List Sapi_Kind) (hl : l.length ≤ 1000000) : fslices_Clone_Kind l = some l := by
  unfold fslices_Clone_Kind
  rw [rm_le (by simp; omega)]
  rfl
theorem cloneF_is (l : List Sapi_Field) (hl : l.length ≤ 1000000) : fslices_Clone_Field l = some l := by
  unfold fslices_Clone_Field
  rw [rm_le (by simp; omega)]
  rfl
theorem setAt_in {α : Type} {l : List α} {i : Int} {x : α} (h0 : 0 ≤ i) (h1 : i < l.length) : setAt l i x = some (l.set i.toNat x) := by
  unfold Sim.setAt; rw [if_pos ⟨h0,h1⟩]

def setW (f : Sapi_Field) (ws : List Int) : Sapi_Field := ⟨f.Name,f.Of,f.Up,f.Kind,f.Lo,f.Hi,f.Words,ws⟩
def fitX (x : Sapi_Schema) (k j : Int) (q : Sapi_Kind) (f : Sapi_Field) (ws : List Int) : Sapi_Schema :=
  ⟨x.Version,x.Kinds.set k.toNat ⟨q.Name,q.Lo,q.Hi,q.Fields.set j.toNat (setW f ws)⟩,x.Lives,x.Rules⟩
def zeroX : Sapi_Schema := ⟨0,[],[],[]⟩
def fitF (x : Sapi_Schema) (k j : Int) (l : List Int) (q : Sapi_Kind) (f : Sapi_Field) : Sapi_Schema × Int :=
  if f.Kind ≠ 3 then (zeroX,13) else if (l.length : Int) ≠ f.Words.length then (zeroX,1) else if l.any badN = true then (zeroX,5) else if l.sum = 0 then (x,0) else (fitX x k j q f (low l),0)
/-- What Fit gives. -/
def fitS (x : Sapi_Schema) (k j : Int) (l : List Int) : Sapi_Schema × Int :=
  match idx x.Kinds k with
  | none => (zeroX,12)
  | some q => match idx q.Fields j with
    | none => (zeroX,12)
    | some f => fitF x k j l q f

theorem fit_none {x : Sapi_Schema} {k j : Int} {l : List Int} (h : ((decide (k < 0) || decide (k ≥ (x.Kinds.length : Int))) || decide (j < 0)) = true) : fitS x k j l = (zeroX,12) := by
  simp only [Bool.or_eq_true,decide_eq_true_eq] at h
  unfold fitS
  cases hq : idx x.Kinds k with
  | none => rfl
  | some q =>
    dsimp only
    have hq' := idx_lt' hq
    have : ¬ 0 ≤ j := by omega
    unfold idx
    rw [if_neg this]
theorem fit_some {x : Sapi_Schema} {k j : Int} {l : List Int} {q : Sapi_Kind} {f : Sapi_Field} (hq : idx x.Kinds k = some q) (hf : idx q.Fields j = some f) : fitS x k j l = fitF x k j l q f := by
  unfold fitS; rw [hq]; dsimp only; rw [hf]
theorem fit_high {x : Sapi_Schema} {k j : Int} {l : List Int} {q : Sapi_Kind} (hq : idx x.Kinds k = some q) (hj : ¬ j < q.Fields.length) : fitS x k j l = (zeroX,12) := by
  unfold fitS; rw [hq]; dsimp only
  cases hf : idx q.Fields j with
  | none => rfl
  | some f => have := idx_lt' hf; omega
theorem sm_of {l : List Int} (h : l.any badN = false) : Sm l 524288 := by
  intro a ha
  have := List.any_eq_false.1 h a ha
  simp only [badN,Bool.or_eq_true,decide_eq_true_eq] at this
  omega

theorem learn_Fit_is {x : Sapi_Schema} {k j : Int} {l : List Int} (hx : Few x) (hl : l.length ≤ 100) : flearn_Fit x k j l = some (fitS x k j l) := by
  unfold flearn_Fit
  cases hc : ((decide (k < 0) || decide (k ≥ (x.Kinds.length : Int))) || decide (j < 0)) with
  | true => rw [fit_none hc]; rfl
  | false =>
    have hc' := hc
    simp only [Bool.or_eq_false_iff,decide_eq_false_iff_not] at hc'
    obtain ⟨q,hq,hqm⟩ := idx_some (l := x.Kinds) (i := k) (by omega) (by omega)
    have hx2 := hx.2 q hqm
    rw [hq]
    show (if (false || decide (j ≥ (q.Fields.length : Int))) = true then _ else _) = _
    by_cases hj : j < q.Fields.length
    · obtain ⟨f,hf,hfm⟩ := idx_some (l := q.Fields) (i := j) (by omega) hj
      have e : decide (j ≥ (q.Fields.length : Int)) = false := decide_eq_false (by omega)
      rw [e,fit_some hq hf]
      show (idx q.Fields j).bind _ = _
      rw [hf]
      show (if (f.Kind != (3:Int)) = true then _ else _) = _
      unfold fitF
      by_cases h3 : f.Kind = 3
      · rw [if_neg (show ¬ (f.Kind != (3:Int)) = true by simp [h3]),if_neg (show ¬ f.Kind ≠ 3 by simp [h3])]
        by_cases h4 : (l.length : Int) = f.Words.length
        · rw [if_neg (show ¬ ((l.length : Int) != (f.Words.length : Int)) = true by simpa using h4),if_neg (show ¬ (l.length : Int) ≠ f.Words.length by simpa using h4)]
          rw [contains_bad (by omega)]
          show (if l.any badN = true then _ else _) = _
          by_cases h5 : l.any badN = true
          · rw [if_pos h5,if_pos h5]; rfl
          · rw [if_neg h5,if_neg h5]
            have hs := sm_of (by simpa using h5)
            rw [sum_is hl hs (by decide) (by decide)]
            show (if (l.sum == (0:Int)) = true then _ else _) = _
            by_cases h6 : l.sum = 0
            · rw [if_pos (show (l.sum == (0:Int)) = true by simpa using h6),if_pos h6]
            · rw [if_neg (show ¬ (l.sum == (0:Int)) = true by simpa using h6),if_neg h6]
              rw [lowest_is hs (by decide) (by omega),cloneK_is _ (by have := hx.1; omega)]
              simp only [Option.bind_some]
              rw [hq]
              simp only [Option.bind_some]
              rw [cloneF_is _ (by omega)]
              simp only [Option.bind_some]
              rw [setAt_in (by omega) hj]
              rfl
        · rw [if_pos (show ((l.length : Int) != (f.Words.length : Int)) = true by simpa using h4),if_pos (show (l.length : Int) ≠ f.Words.length from h4)]; rfl
      · rw [if_pos (show (f.Kind != (3:Int)) = true by simpa using h3),if_pos (show f.Kind ≠ 3 from h3)]; rfl
    · have e : decide (j ≥ (q.Fields.length : Int)) = true := decide_eq_true (by omega)
      rw [e,fit_high hq hj]; rfl

theorem set_self {α : Type} {l : List α} {i : Nat} {a : α} (h : l[i]? = some a) : l.set i a = l := by
  obtain ⟨hi,e⟩ := List.getElem?_eq_some_iff.1 h
  rw [← e,List.set_getElem_self]
theorem fitX_self {x : Sapi_Schema} {k j : Int} {q : Sapi_Kind} {f : Sapi_Field} (hq : x.Kinds[k.toNat]? = some q) (hf : q.Fields[j.toNat]? = some f) : (⟨x.Version,x.Kinds.set k.toNat ⟨q.Name,q.Lo,q.Hi,q.Fields.set j.toNat f⟩,x.Lives,x.Rules⟩ : Sapi_Schema) = x := by
  rw [set_self hf]
  show (⟨x.Version,x.Kinds.set k.toNat q,x.Lives,x.Rules⟩ : Sapi_Schema) = x
  rw [set_self hq]
theorem ref_Fit_is {x : Sapi_Schema} {k j : Int} {l : List Int} (hx : Few x) (hl : l.length ≤ 100) : fref27_Fit x k j l = some (fitS x k j l) := by
  unfold fref27_Fit
  cases hc : ((decide (k < 0) || decide (k ≥ (x.Kinds.length : Int))) || decide (j < 0)) with
  | true => rw [fit_none hc]; rfl
  | false =>
    have hc' := hc
    simp only [Bool.or_eq_false_iff,decide_eq_false_iff_not] at hc'
    have hkl : k < x.Kinds.length := by omega
    obtain ⟨q,hq,hqm⟩ := idx_some (l := x.Kinds) (i := k) (by omega) hkl
    have hx2 := hx.2 q hqm
    have hx1 := hx.1
    rw [if_neg (by decide),hq]
    simp only [Option.bind_some]
    by_cases hj : j < q.Fields.length
    · obtain ⟨f,hf,hfm⟩ := idx_some (l := q.Fields) (i := j) (by omega) hj
      rw [if_neg (show ¬ decide (j ≥ (q.Fields.length : Int)) = true by simp; omega),fit_some hq hf,hf]
      simp only [Option.bind_some]
      unfold fitF
      by_cases h3 : f.Kind = 3
      · rw [if_neg (show ¬ (f.Kind != (3:Int)) = true by simp [h3]),if_neg (show ¬ f.Kind ≠ 3 by simp [h3])]
        by_cases h4 : (l.length : Int) = f.Words.length
        · rw [if_neg (show ¬ ((l.length : Int) != (f.Words.length : Int)) = true by simpa using h4),if_neg (show ¬ (l.length : Int) ≠ f.Words.length by simpa using h4)]
          rw [scan_all l (fun a => !badN a) (5 : Int) (fun i hi => ?_) (if_neg (by simp))]
          · by_cases h5 : l.any badN = true
            · have h5' : ¬ (l.all fun a => !badN a) = true := by
                rw [← List.not_any_eq_all_not,h5]; decide
              rw [if_pos h5,if_neg h5']; rfl
            · have h5' : (l.all fun a => !badN a) = true := by
                rw [← List.not_any_eq_all_not]; simpa using h5
              rw [if_neg h5,if_pos h5']
              simp only [Option.bind_some]
              have hs := sm_of (by simpa using h5)
              have hs0 := hs.sum.1
              rw [sumR_is hl hs (by decide) (by decide)]
              simp only [Option.bind_some,List.nil_append,List.length_nil,Nat.zero_add]
              by_cases h6 : l.sum = 0
              · rw [if_neg (show ¬ decide (l.sum > 0) = true by simp [h6]),if_pos h6]
                simp only [Option.bind_some]
                rw [rm_le (by omega)]
                simp only [Option.bind_some]
                rw [hq]
                simp only [Option.bind_some]
                rw [rm_le (by omega)]
                simp only [Option.bind_some]
                rw [setAt_in (by omega) hj]
                simp only [Option.bind_some]
                rw [fitX_self (idx_lt' hq).2.2 (idx_lt' hf).2.2]
              · rw [if_pos (show decide (l.sum > 0) = true by simp; omega),if_neg h6]
                rw [lowestR_is hs (by decide) (by omega)]
                simp only [Option.bind_some]
                rw [rm_le (by omega)]
                simp only [Option.bind_some]
                rw [hq]
                simp only [Option.bind_some]
                rw [rm_le (by omega)]
                simp only [Option.bind_some]
                rw [setAt_in (by omega) hj]
                rfl
          · rw [if_pos (decide_eq_true (Int.ofNat_lt.2 hi)),idx_lt hi]
            simp only [Option.bind_some]
            rw [w64_succ hi (by omega)]
            unfold badN
            cases h7 : decide (l[i] < 0) with
            | true => rfl
            | false =>
              show (if (false || decide (l[i] > 524288)) = true then _ else _) = _
              cases h8 : decide (l[i] > 524288) with
              | true => rfl
              | false => rfl
        · rw [if_pos (show ((l.length : Int) != (f.Words.length : Int)) = true by simpa using h4),if_pos (show (l.length : Int) ≠ f.Words.length from h4)]; rfl
      · rw [if_pos (show (f.Kind != (3:Int)) = true by simpa using h3),if_pos (show f.Kind ≠ 3 from h3)]; rfl
    · rw [if_pos (show decide (j ≥ (q.Fields.length : Int)) = true by simp; omega),fit_high hq hj]; rfl

theorem weights_len {f : Sapi_Field} (h : fieldS f = true) : f.Weights.length ≤ 12 := by
  by_cases h3 : f.Kind = 3
  · have := (fieldS_ok h).pick h3; omega
  · unfold fieldS at h
    simp only [Bool.and_eq_true] at h
    have h2 := h.1.2
    unfold sameS at h2
    simp only [Bool.and_eq_true,decide_eq_true_eq] at h2
    have e := h2.2
    have : (onlyS f).Weights = [] := by
      unfold onlyS
      repeat' (first | rfl | contradiction | split)
    rw [e,this]; simp
theorem tiny_short {x : Sapi_Schema} (ht : Tiny x) (hv : validS x = true) : Short x := by
  obtain ⟨t1,t2,t3,t4,t5⟩ := ht
  have hok := validS_ok hv
  have hf : ∀ k ∈ x.Kinds,k.Fields.length ≤ 10 ∧ ∀ f ∈ k.Fields,fieldS f = true := fun k hk => (kind_v (hok.kind k hk)).2
  refine ⟨⟨by omega,fun k hk => by have := (hf k hk).1; omega⟩,⟨⟨by omega,fun k hk => ⟨by have := (hf k hk).1; omega,fun f hm => ⟨by have := t2 k hk f hm; omega,by have := weights_len ((hf k hk).2 f hm); omega⟩⟩⟩,⟨by omega,fun l hl => ⟨by have := (t4 l hl).1; omega,by have := (t4 l hl).2; omega⟩⟩,by omega⟩,by omega,by omega⟩

theorem set_map {α γ : Type} {l : List α} {g : α → γ} {i : Nat} {a b : α} (h : l[i]? = some a) (e : g b = g a) : (l.set i b).map g = l.map g := by
  obtain ⟨hi,e2⟩ := List.getElem?_eq_some_iff.1 h
  rw [List.map_set,e]
  apply set_self
  rw [List.getElem?_map,h]; rfl
theorem fitX_ren {x : Sapi_Schema} {k j : Int} {q : Sapi_Kind} {f : Sapi_Field} {ws : List Int} (hq : x.Kinds[k.toNat]? = some q) (hf : q.Fields[j.toNat]? = some f) : Ren id x (fitX x k j q f ws) := by
  refine ⟨⟨fun _ _ h => h,rfl⟩,?_,rfl,rfl⟩
  refine set_map hq ?_
  show (q.Name,(q.Fields.set j.toNat (setW f ws)).map (fkey id)) = (q.Name,q.Fields.map (fkey id))
  rw [set_map (g := fkey id) (b := setW f ws) hf rfl]
/-- A fitted schema is valid, and has the same problems. -/
theorem fit_ok {x : Sapi_Schema} {k j : Int} {l : List Int} (ht : Tiny x) (hv : validS x = true) (h0 : (fitS x k j l).2 = 0) : Tiny (fitS x k j l).1 ∧ validS (fitS x k j l).1 = true ∧ checkS (fitS x k j l).1 = checkS x := by
  cases hq : idx x.Kinds k with
  | none => unfold fitS at h0; rw [hq] at h0; cases h0
  | some q =>
  cases hf : idx q.Fields j with
  | none => unfold fitS at h0; rw [hq] at h0; dsimp only at h0; rw [hf] at h0; cases h0
  | some f =>
  rw [fit_some hq hf] at h0 ⊢
  unfold fitF at h0 ⊢
  by_cases h3 : f.Kind = 3
  · rw [if_neg (show ¬ f.Kind ≠ 3 by simp [h3])] at h0 ⊢
    by_cases h4 : (l.length : Int) = f.Words.length
    · rw [if_neg (show ¬ (l.length : Int) ≠ f.Words.length by simpa using h4)] at h0 ⊢
      by_cases h5 : l.any badN = true
      · rw [if_pos h5] at h0; cases h0
      rw [if_neg h5] at h0 ⊢
      by_cases h6 : l.sum = 0
      · rw [if_pos h6]; exact ⟨ht,hv,rfl⟩
      rw [if_neg h6]
      dsimp only
      have hs := sm_of (by simpa using h5)
      have hs0 := hs.sum.1
      have hq' := (idx_lt' hq).2.2
      have hf' := (idx_lt' hf).2.2
      have hqm := List.mem_of_getElem? hq'
      have hfm := List.mem_of_getElem? hf'
      have hok := validS_ok hv
      have hkq := hok.kind q hqm
      have hlow := low_sm hs
      have hpos := low_pos hs (by omega)
      have hfw : fieldS (setW f (low l)) = true := by
        have h := (kind_v hkq).2.2 f hfm
        unfold fieldS at h ⊢
        simp only [Bool.and_eq_true] at h ⊢
        obtain ⟨⟨a1,a2⟩,a3⟩ := h
        refine ⟨⟨a1,?_⟩,?_⟩
        · have eo : ∀ g : Sapi_Field,g.Kind = 3 → onlyS g = ⟨g.Name,[],[],g.Kind,0,0,g.Words,g.Weights⟩ := fun g hg => by
            unfold onlyS
            rw [if_neg (by omega),if_neg (by omega),if_neg (by omega),if_pos hg]
          rw [eo f h3] at a2
          rw [eo (setW f (low l)) h3]
          unfold sameS at a2 ⊢
          simp only [Bool.and_eq_true,decide_eq_true_eq,beq_iff_eq,setW] at a2 ⊢
          exact ⟨⟨a2.1.1,trivial⟩,trivial⟩
        · have ep : ∀ g : Sapi_Field,g.Kind = 3 → partS g = pickS g.Words g.Weights := fun g hg => by
            unfold partS
            rw [if_neg (by omega),if_neg (by omega),if_neg (by omega),if_pos hg]
          rw [ep f h3] at a3
          rw [ep (setW f (low l)) h3]
          show pickS f.Words (low l) = true
          unfold pickS at a3 ⊢
          simp only [Bool.and_eq_true,decide_eq_true_eq,beq_iff_eq] at a3 ⊢
          obtain ⟨b1,⟨⟨b2,b3⟩,b4⟩,b5⟩ := a3
          refine ⟨List.all_eq_true.2 fun g hg => inW_of (by have := hlow g hg; omega),⟨⟨b2,?_⟩,hpos⟩,b5⟩
          rw [low_len,h4]
      have hk2 : kindS ⟨q.Name,q.Lo,q.Hi,q.Fields.set j.toNat (setW f (low l))⟩ = true := by
        unfold kindS at hkq ⊢
        simp only [Bool.and_eq_true,decide_eq_true_eq,List.all_eq_true,List.length_set] at hkq ⊢
        refine ⟨hkq.1,fun g hg => ?_⟩
        rcases List.mem_or_eq_of_mem_set hg with hg | rfl
        · exact hkq.2 g hg
        · exact hfw
      have htx : Tiny (fitX x k j q f (low l)) := by
        obtain ⟨t1,t2,t3,t4,t5⟩ := ht
        refine ⟨by show (x.Kinds.set _ _).length ≤ 3; rw [List.length_set]; exact t1,fun k' hk' g hg => ?_,t3,t4,t5⟩
        rcases List.mem_or_eq_of_mem_set (show k' ∈ x.Kinds.set _ _ from hk') with hk' | rfl
        · exact t2 k' hk' g hg
        · rcases List.mem_or_eq_of_mem_set (show g ∈ q.Fields.set _ _ from hg) with hg | rfl
          · exact t2 q hqm g hg
          · exact t2 q hqm f hfm
      have hvx : validS (fitX x k j q f (low l)) = true := by
        unfold validS at hv ⊢
        simp only [Bool.and_eq_true,decide_eq_true_eq] at hv ⊢
        obtain ⟨⟨⟨⟨⟨⟨v1,v2⟩,v3⟩,v4⟩,v5⟩,v6⟩,v7⟩ := hv
        refine ⟨⟨⟨⟨⟨⟨v1,?_⟩,v3⟩,v4⟩,?_⟩,v6⟩,v7⟩
        · show ((x.Kinds.set _ _).length : Int) ≤ 6
          rw [List.length_set]; exact v2
        · rw [List.all_eq_true] at v5 ⊢
          intro k' hk'
          rcases List.mem_or_eq_of_mem_set (show k' ∈ x.Kinds.set _ _ from hk') with hk' | rfl
          · exact v5 k' hk'
          · exact hk2
      exact ⟨htx,hvx,(fitX_ren hq' hf').check (tiny_valid ht hv) (tiny_valid htx hvx)⟩
    · rw [if_pos (show (l.length : Int) ≠ f.Words.length from h4)] at h0; cases h0
  · rw [if_pos (show f.Kind ≠ 3 from h3)] at h0; cases h0
theorem zero_short : Short zeroX := ⟨⟨by decide,fun _ h => by cases h⟩,⟨⟨by decide,fun _ h => by cases h⟩,⟨by decide,fun _ h => by cases h⟩,by decide⟩,by decide,by decide⟩
/-- A fitted schema is not large. -/
theorem fit_short {x : Sapi_Schema} {k j : Int} {l : List Int} (ht : Tiny x) (hv : validS x = true) : Short (fitS x k j l).1 := by
  by_cases h0 : (fitS x k j l).2 = 0
  · obtain ⟨h1,h2,_⟩ := fit_ok ht hv h0
    exact tiny_short h1 h2
  · have : (fitS x k j l).1 = zeroX := by
      unfold fitS at h0 ⊢
      cases hq : idx x.Kinds k with
      | none => rfl
      | some q =>
        rw [hq] at h0
        dsimp only at h0 ⊢
        cases hf : idx q.Fields j with
        | none => rfl
        | some f =>
          rw [hf] at h0
          dsimp only at h0 ⊢
          unfold fitF at h0 ⊢
          split
          · rfl
          · rename_i a; rw [if_neg a] at h0
            split
            · rfl
            · rename_i a; rw [if_neg a] at h0
              split
              · rfl
              · rename_i a; rw [if_neg a] at h0
                split at h0 <;> exact absurd rfl h0
    rw [this]; exact zero_short

end Go.Proofs.YthdfmpocknmleaaGreatDoor

/- Package learn and its reference: sums, divisors, lowest terms. No condition. -/
import Derived.Test.YthdfmpocknmleaaGreatDoorGenAll
import Derived.Test.YthdfmpocknmleaaGreatDoorOk
namespace Go.Proofs.YthdfmpocknmleaaGreatDoor
open Go.Sim

theorem sumR_wrap (l : List Int) (hl : l.length < 1000000) : fref27_Sum l = some (IntKind.i64.wrap l.sum) := by
  unfold fref27_Sum
  refine for_bind l.length (fun k => ((k : Int),IntKind.i64.wrap (l.take k).sum) : Nat → Int × Int) (IntKind.i64.wrap l.sum) ?_ ?_ ?_ rfl
  · simp [w64_zero]
  · intro k hk
    simp only
    rw [if_pos (by simpa using hk),idx_lt hk]
    simp only [Option.bind_some,Option.some.injEq,Sum.inl.injEq,Prod.mk.injEq]
    exact ⟨w64_succ hk (by omega),by rw [w64_add,sum_take_succ l hk]⟩
  · simp
theorem sumR_is {l : List Int} (hl : l.length ≤ 100) {B : Int} (h : Sm l B) (hB : B ≤ 70000000000000000) (h0 : 0 ≤ B) : fref27_Sum l = some l.sum := by
  have h1 := h.sum
  have h2 := h.sum_le hl h0
  rw [sumR_wrap l (by omega),w64 (by omega) (by omega)]
theorem sum_eq (l : List Int) : flearn_sum l = fref27_Sum l := rfl
theorem sum_is {l : List Int} (hl : l.length ≤ 100) {B : Int} (h : Sm l B) (hB : B ≤ 70000000000000000) (h0 : 0 ≤ B) : flearn_sum l = some l.sum := by rw [sum_eq]; exact sumR_is hl h hB h0
theorem ggcd1_nat : ∀ (n a b : Nat),b < n → glearn_gcdq1N n (a : Int) (b : Int) = some ((Nat.gcd a b : Nat) : Int) := by
  intro n
  induction n with
  | zero => intro a b h; omega
  | succ n ih =>
    intro a b h
    show flearn_gcdq1S (glearn_gcdq1N n) a b = _
    unfold flearn_gcdq1S
    by_cases hb : b = 0
    · subst hb; simp
    · rw [if_neg (by simpa using hb),nz_of (by omega)]
      simp only [Option.bind_some]
      have e : Int.tmod (a : Int) (b : Int) = ((a % b : Nat) : Int) := by rw [Int.tmod_eq_emod_of_nonneg (by omega)]; rfl
      rw [e,ih b (a % b) (by have := Nat.mod_lt a (Nat.pos_of_ne_zero hb); omega)]
      simp only [Option.bind_some]
      rw [gcd_step]
theorem gcd1_nat (a b : Nat) : flearn_gcdq1 (a : Int) (b : Int) = some ((Nat.gcd a b : Nat) : Int) := ggcd1_nat _ a b (by simp)
theorem gcdLoop_nat (body : Int × Int → Option ((Int × Int) ⊕ Int)) (h0 : ∀ a : Nat,body ((a : Int),0) = some (.inr (a : Int))) (h1 : ∀ a b : Nat,0 < b → body ((a : Int),(b : Int)) = some (.inl ((b : Int),((a % b : Nat) : Int)))) :
    ∀ (n a b : Nat),b < n → tailrec body ((a : Int),(b : Int)) = some ((Nat.gcd a b : Nat) : Int) := by
  intro n
  induction n with
  | zero => intro a b h; omega
  | succ n ih =>
    intro a b h
    rw [tailrec_eq]
    by_cases hb : b = 0
    · subst hb
      rw [show ((0 : Nat) : Int) = 0 from rfl,h0]; simp
    · rw [h1 a b (by omega)]
      simp only
      rw [ih b (a % b) (by have := Nat.mod_lt a (Nat.pos_of_ne_zero hb); omega),gcd_step]
theorem gcdR_nat (a b : Nat) : fref27_Gcd (a : Int) (b : Int) = some ((Nat.gcd a b : Nat) : Int) := by
  unfold fref27_Gcd
  rw [gcdLoop_nat _ ?_ ?_ (b + 1) a b (by omega)]
  · rfl
  · intro a; simp
  · intro a b hb
    simp only
    rw [if_pos (by simpa using hb),nz_of (by omega)]
    simp only [Option.bind_some]
    rw [Int.tmod_eq_emod_of_nonneg (by omega)]; rfl
theorem lg_take_succ (l : List Int) {k : Nat} (h : k < l.length) : lg (l.take (k + 1)) = Nat.gcd l[k].toNat (lg (l.take k)) := by
  unfold lg
  rw [List.take_succ_eq_append_getElem h,List.foldl_append]; rfl
theorem gcd_is {l : List Int} {B : Int} (h : Sm l B) (hl : l.length < 1000000) : flearn_gcd l = some ((lg l : Nat) : Int) := by
  unfold flearn_gcd
  refine for_bind l.length (fun k => ((k : Int),((lg (l.take k) : Nat) : Int)) : Nat → Int × Int) ((lg l : Nat) : Int) ?_ ?_ ?_ rfl
  · simp [lg]
  · intro k hk
    simp only
    rw [if_pos (by simpa using hk),idx_lt hk]
    have e : l[k] = ((l[k].toNat : Nat) : Int) := (Int.toNat_of_nonneg (h _ (List.getElem_mem hk)).1).symm
    simp only [Option.bind_some]
    rw [lg_take_succ l hk]
    rw [e,gcd1_nat]
    simp only [Option.bind_some,Option.some.injEq,Sum.inl.injEq,Prod.mk.injEq]
    exact ⟨w64_succ hk (by omega),by rw [Int.toNat_natCast]⟩
  · simp
theorem clone_is (l : List Int) (hl : l.length ≤ 1000000) : fslices_Clone_int l = some l := by
  unfold fslices_Clone_int
  rw [rm_le (by simp; omega)]
  rfl
theorem low_get {l : List Int} {k : Nat} (h : k < l.length) : (low l)[k]'(by rw [low_len]; exact h) = l[k] / ((max (lg l) 1 : Nat) : Int) := by simp [low]
theorem low_one {l : List Int} (h : lg l ≤ 1) : low l = l := by
  unfold low
  rw [show max (lg l) 1 = 1 by omega]
  simp
theorem wrap_quo {x g : Int} (h : 0 ≤ x) (hx : x ≤ 9223372036854775807) (hg : 0 < g) : IntKind.i64.wrap (Int.tdiv x g) = x / g := by
  rw [Int.tdiv_eq_ediv_of_nonneg h,w64]
  · have := Int.ediv_nonneg h (Int.le_of_lt hg); omega
  · have := Int.ediv_le_self g h; omega
theorem lowest_is {l : List Int} {B : Int} (h : Sm l B) (hB : B ≤ 9000000000000000000) (hl : l.length < 1000000) : flearn_lowest l = some (low l) := by
  unfold flearn_lowest
  rw [clone_is l (by omega),gcd_is h hl]
  simp only [Option.bind_some]
  by_cases hg : 1 < lg l
  · rw [if_pos (by simp; omega)]
    have e1 : max (lg l) 1 = lg l := by omega
    have key : (tailrec (fun (s44 : Int × List Int) => ((if (decide (s44.1 < (l.length : Int))) = true then (idx s44.2 s44.1).bind fun t19 => (nz ((lg l : Nat) : Int)).bind fun u22 => (setAt s44.2 s44.1 (IntKind.i64.wrap (Int.tdiv t19 ((lg l : Nat) : Int)))).bind fun t23s => (some (.inl ((IntKind.i64.wrap (s44.1 + (1:Int))),t23s))) else (some (.inr s44.2))) : Option ((Int × List Int) ⊕ ((List Int))))) ((0:Int),l)) = some (low l) := by
      have := for_bind (body := (fun (s44 : Int × List Int) => ((if (decide (s44.1 < (l.length : Int))) = true then (idx s44.2 s44.1).bind fun t19 => (nz ((lg l : Nat) : Int)).bind fun u22 => (setAt s44.2 s44.1 (IntKind.i64.wrap (Int.tdiv t19 ((lg l : Nat) : Int)))).bind fun t23s => (some (.inl ((IntKind.i64.wrap (s44.1 + (1:Int))),t23s))) else (some (.inr s44.2))) : Option ((Int × List Int) ⊕ ((List Int))))))
        (g := some) (out := some (low l)) (s0 := ((0:Int),l)) l.length (fun k => ((k : Int),(low l).take k ++ l.drop k)) (low l) (by simp) ?_ ?_ rfl
      · simpa using this
      · intro k hk
        have hk' : k < (low l).length := by rw [low_len]; exact hk
        have hm := h _ (List.getElem_mem hk)
        simp only
        rw [if_pos (by simpa using hk),idx_nat,fill_get _ _ hk' hk,nz_of (by omega)]
        simp only [Option.bind_some]
        rw [setAt_lt (by rw [fill_len _ _ (low_len l)]; exact hk)]
        have e : IntKind.i64.wrap (Int.tdiv l[k] ((lg l : Nat) : Int)) = (low l)[k] := by
          rw [low_get hk,e1,wrap_quo hm.1 (by omega) (by omega)]
        rw [e,fill_set _ _ hk' hk]
        simp only [Option.bind_some]
        rw [w64_succ hk (by omega)]
      · simp only
        rw [if_neg (by simp)]
        rw [← low_len l,List.take_length,low_len,List.drop_length,List.append_nil]
    rw [key]; rfl
  · rw [if_neg (by simp; omega),low_one (by omega)]; rfl
theorem lowestR_is {l : List Int} {B : Int} (h : Sm l B) (hB : B ≤ 9000000000000000000) (hl : l.length < 1000000) : fref27_Lowest l = some (low l) := by
  unfold fref27_Lowest
  refine for_bind l.length (fun k => ((k : Int),((lg (l.take k) : Nat) : Int)) : Nat → Int × Int) ((lg l : Nat) : Int) (by simp [lg]) ?_ ?_ ?_
  · intro k hk
    simp only
    rw [if_pos (by simpa using hk),idx_lt hk]
    have e : l[k] = ((l[k].toNat : Nat) : Int) := (Int.toNat_of_nonneg (h _ (List.getElem_mem hk)).1).symm
    simp only [Option.bind_some]
    rw [lg_take_succ l hk]
    rw [e,gcdR_nat]
    simp only [Option.bind_some,Option.some.injEq,Sum.inl.injEq,Prod.mk.injEq]
    exact ⟨w64_succ hk (by omega),by rw [Int.toNat_natCast,Nat.gcd_comm]⟩
  · simp
  · have em : imax ((lg l : Nat) : Int) 1 = ((max (lg l) 1 : Nat) : Int) := by unfold imax; split <;> omega
    refine for_bind l.length (fun k => ((k : Int),(low l).take k) : Nat → Int × List Int) (low l) (by simp) ?_ ?_ rfl
    · intro k hk
      have hk' : k < (low l).length := by rw [low_len]; exact hk
      have hm := h _ (List.getElem_mem hk)
      simp only
      rw [if_pos (by simpa using hk),idx_lt hk,em]
      simp only [Option.bind_some]
      rw [nz_of (by omega)]
      simp only [Option.bind_some]
      rw [rm_le (by simp; omega)]
      simp only [Option.bind_some,Option.some.injEq,Sum.inl.injEq,Prod.mk.injEq]
      refine ⟨w64_succ hk (by omega),?_⟩
      rw [List.take_succ_eq_append_getElem hk',low_get hk,wrap_quo hm.1 (by omega) (by omega)]
    · simp only
      rw [if_neg (by simp),← low_len l,List.take_length]

end Go.Proofs.YthdfmpocknmleaaGreatDoor

namespace Go.Proofs.YthdfmpocknmleaaGreatDoor
open Go.Sim

theorem around_ok {p n : Int} (hp : I64 p) : Ok (fref01_Around p n) (fun r => 0 ≤ r ∧ (1 ≤ n → r < n) ∧ (n ≤ 0 → r = 0)) := by
  have hp' := hp
  unfold I64 at hp'
  have key : ∀ q : Int,0 ≤ q → Ok (if decide (n < 1) = true then some 0 else (nz n).bind fun _ => some (Int.tmod q n)) (fun r => 0 ≤ r ∧ (1 ≤ n → r < n) ∧ (n ≤ 0 → r = 0)) := fun q hq => by
    refine Ok.ite (fun h => ?_) (fun h => ?_)
    · have : n < 1 := of_decide_eq_true h
      exact Ok.mk ⟨Int.le_refl _,fun h => by omega,fun _ => rfl⟩
    · have : ¬ n < 1 := of_decide_eq_false h
      rw [nz_of (by omega)]
      exact Ok.mk ⟨Int.tmod_nonneg _ hq,fun _ => Int.tmod_lt_of_pos _ (by omega),fun h => by omega⟩
  unfold fref01_Around
  refine Ok.bind (P := fun q => 0 ≤ q) (Ok.ite (fun h => ?_) (fun h => ?_)) (fun q hq => key q hq)
  · have : p < 0 := of_decide_eq_true h
    refine Ok.mk ?_
    have e1 : IntKind.i64.wrap (p + 1) = p + 1 := w64 (by omega) (by omega)
    rw [e1,w64 (by omega) (by omega)]; omega
  · have : ¬ p < 0 := of_decide_eq_false h
    exact Ok.mk (by omega)

section
variable {β : Type} {Q : β → Prop}
theorem Ok.around {p n : Int} {f : Int → Option β} (hp : I64 p) (hn : 1 ≤ n) (k : ∀ r,0 ≤ r → r < n → Ok (f r) Q) : Ok ((fref01_Around p n).bind f) Q :=
  (around_ok hp).bind fun r h => k r h.1 (h.2.1 hn)
def MOk (m : Sref09_Maker) : Prop := ∀ x ∈ m.L,I64 x
theorem take_ok {m : Sref09_Maker} {n : Int} (hm : MOk m) (hn : 1 ≤ n) : Ok (fref09_Maker_Take m n) (fun r => 0 ≤ r.1 ∧ r.1 < n ∧ MOk r.2) := by
  unfold fref09_Maker_Take fref01_At
  refine Ok.bind (P := fun r => 0 ≤ r ∧ r < n) (Ok.ite (fun h => Ok.mk ⟨Int.le_refl _,by omega⟩) (fun h => ?_)) (fun r hr => Ok.mk ⟨hr.1,hr.2,hm⟩)
  simp only [Bool.or_eq_false_iff,decide_eq_false_iff_not] at h
  refine Ok.idx (by omega) (by omega) fun v hv _ => ?_
  exact Ok.around (hm v hv) hn fun r h0 h1 => Ok.mk ⟨h0,h1⟩
theorem Ok.take {m : Sref09_Maker} {n : Int} {f : Int × Sref09_Maker → Option β} (hm : MOk m) (hn : 1 ≤ n) (k : ∀ r m',0 ≤ r → r < n → MOk m' → Ok (f (r,m')) Q) : Ok ((fref09_Maker_Take m n).bind f) Q :=
  (take_ok hm hn).bind fun r h => k r.1 r.2 h.1 h.2.1 h.2.2
end

/-- A name of the generators: it is short and does not begin with a z. -/
def SN (s : Str) : Prop := s.length ≤ 20 ∧ s.head? ≠ some 122
/-- The names of a field. -/
def FN (f : Sapi_Field) : Prop := SN f.Name ∧ SN f.Of ∧ SN f.Up
/-- A field of the generators. -/
def FOk (f : Sapi_Field) : Prop := f.Words.length ≤ 6 ∧ f.Weights.length ≤ 6 ∧ FN f
/-- A kind of the generators, with at most n fields. -/
def KOk (n : Nat) (k : Sapi_Kind) : Prop := k.Fields.length ≤ n ∧ (∀ f ∈ k.Fields,FOk f) ∧ SN k.Name

theorem has_ok {l : List Sapi_Field} {name : Str} (hl : l.length ≤ 1000) : Ok (fref09_has l name) (fun r => -1 ≤ r ∧ r < l.length) := by
  unfold fref09_has
  refine Ok.bind (P := fun e => match e with | .inl _ => True | .inr r => 0 ≤ r ∧ r < l.length) (Ok.loop (fun k s => 0 ≤ s ∧ s + k = l.length) l.length ⟨by omega,by omega⟩ fun k s hs => ?_) (fun e he => ?_)
  · refine Ok.ite (fun h => ?_) (fun h => Ok.mk trivial)
    have h' : s < l.length := of_decide_eq_true h
    refine Ok.idx hs.1 h' fun v _ _ => Ok.ite (fun _ => Ok.mk ⟨hs.1,h'⟩) (fun _ => Ok.mk ?_)
    rw [w64 (by omega) (by omega)]
    exact ⟨k - 1,by omega,by omega,by omega⟩
  · rcases e with e | e
    · exact Ok.mk ⟨by omega,by omega⟩
    · exact Ok.mk ⟨by omega,he.2⟩
theorem copied_ok {k : Sapi_Kind} (hl : k.Fields.length ≤ 1000) : Ok (fref09_Copied k) (fun r => -1 ≤ r ∧ r < k.Fields.length) := by
  unfold fref09_Copied
  refine Ok.bind (P := fun e => match e with | .inl _ => True | .inr r => 0 ≤ r ∧ r < k.Fields.length) (Ok.loop (fun n s => 0 ≤ s ∧ s + n = k.Fields.length) k.Fields.length ⟨by omega,by omega⟩ fun n s hs => ?_) (fun e he => ?_)
  · refine Ok.ite (fun h => ?_) (fun h => Ok.mk trivial)
    have h' : s < k.Fields.length := of_decide_eq_true h
    refine Ok.idx hs.1 h' fun v _ _ => Ok.ite (fun _ => Ok.mk ⟨hs.1,h'⟩) (fun _ => Ok.mk ?_)
    rw [w64 (by omega) (by omega)]
    exact ⟨n - 1,by omega,by omega,by omega⟩
  · rcases e with e | e
    · exact Ok.mk ⟨by omega,by omega⟩
    · exact Ok.mk ⟨by omega,he.2⟩

end Go.Proofs.YthdfmpocknmleaaGreatDoor

namespace Go.Proofs.YthdfmpocknmleaaGreatDoor
open Go.Sim

/-- A kind of the generator: its name is not empty. -/
def GOk (n : Nat) (k : Sapi_Kind) : Prop := KOk n k ∧ 1 ≤ k.Name.length ∧ k.Name.length ≤ 6
theorem GOk.weak {a b : Nat} {k : Sapi_Kind} (h : GOk a k) (hab : a ≤ b) : GOk b k := ⟨⟨by have := h.1.1; omega,h.1.2⟩,h.2⟩
theorem mok_cond {c : Bool} {a b : Sref09_Maker} (h : c = true → MOk a) (k : MOk b) : MOk (bif c == true then a else b) := by
  cases c with
  | true => exact h rfl
  | false => exact k
end Go.Proofs.YthdfmpocknmleaaGreatDoor

namespace Go.Proofs.YthdfmpocknmleaaGreatDoor
open Go.Sim

/-- The names of a rule. -/
def RN (r : Sapi_Rule) : Prop := SN r.Name ∧ SN r.Kind ∧ SN r.A ∧ SN r.B
/-- A schema of the generators. -/
def SOk (n : Nat) (x : Sapi_Schema) : Prop := x.Kinds.length ≤ 3 ∧ (∀ k ∈ x.Kinds,KOk 14 k) ∧ x.Lives.length ≤ 1 ∧ (∀ m ∈ x.Lives,m.States.length ≤ 6 ∧ m.Moves.length ≤ 8 ∧ SN m.Name) ∧ x.Rules.length ≤ n ∧ ∀ r ∈ x.Rules,RN r
theorem SOk.weak {a b : Nat} {x : Sapi_Schema} (h : SOk a x) (hab : a ≤ b) : SOk b x := ⟨h.1,h.2.1,h.2.2.1,h.2.2.2.1,Nat.le_trans h.2.2.2.2.1 hab,h.2.2.2.2.2⟩

end Go.Proofs.YthdfmpocknmleaaGreatDoor

namespace Go.Proofs.YthdfmpocknmleaaGreatDoor
open Go.Sim

theorem Ok.same {β : Type} {x : Option β} {Q : β → Prop} (h : Ok x Q) : Ok (x.bind fun p => some p) Q := h.bind fun _ hr => Ok.mk hr
end Go.Proofs.YthdfmpocknmleaaGreatDoor

namespace Go.Proofs.YthdfmpocknmleaaGreatDoor
open Go.Sim

def FZ (f : Sapi_Field) : Prop := f.Words.length ≤ 7 ∧ f.Weights.length ≤ 7 ∧ FN f
def KA (l : List Sapi_Kind) : Prop := l.length ≤ 3 ∧ ∀ k ∈ l,k.Fields.length ≤ 14 ∧ (∀ f ∈ k.Fields,FZ f) ∧ SN k.Name
def LA (l : List Sapi_Life) : Prop := l.length ≤ 1 ∧ ∀ m ∈ l,m.States.length ≤ 7 ∧ m.Moves.length ≤ 9 ∧ SN m.Name
/-- A schema of the laws. -/
def RA (l : List Sapi_Rule) : Prop := l.length ≤ 4 ∧ ∀ r ∈ l,RN r
def Sz (x : Sapi_Schema) : Prop := KA x.Kinds ∧ LA x.Lives ∧ RA x.Rules
theorem FOk.z {f : Sapi_Field} (h : FOk f) : FZ f := ⟨by have := h.1; omega,by have := h.2.1; omega,h.2.2⟩
theorem SOk.sz {n : Nat} {x : Sapi_Schema} (h : SOk n x) (hn : n ≤ 4) : Sz x :=
  ⟨⟨h.1,fun k hk => ⟨(h.2.1 k hk).1,fun f hf => ((h.2.1 k hk).2.1 f hf).z,(h.2.1 k hk).2.2⟩⟩,⟨h.2.2.1,fun m hm => ⟨by have := (h.2.2.2.1 m hm).1; omega,by have := (h.2.2.2.1 m hm).2.1; omega,(h.2.2.2.1 m hm).2.2⟩⟩,Nat.le_trans h.2.2.2.2.1 hn,h.2.2.2.2.2⟩

end Go.Proofs.YthdfmpocknmleaaGreatDoor

namespace Go.Proofs.YthdfmpocknmleaaGreatDoor
open Go.Sim

/-- The index of the first element that is so; -1: none is. -/
def firstIdx {α : Type} (s : List α) (p : α → Bool) : Int := match s.findIdx? p with | some k => (k : Int) | none => -1
theorem firstIdx_range {α : Type} (s : List α) (p : α → Bool) : -1 ≤ firstIdx s p ∧ firstIdx s p < s.length := by
  unfold firstIdx
  cases h : s.findIdx? p with
  | none => exact ⟨by decide,by show (-1:Int) < _; omega⟩
  | some k =>
    have := (List.findIdx?_eq_some_iff_getElem.1 h).1
    exact ⟨by show (-1:Int) ≤ (k:Int); omega,by show (k:Int) < _; omega⟩
theorem tailrec_first {α : Type} (s : List α) (p : α → Bool) {body : Int → Option (Int ⊕ (Unit ⊕ Int))}
    (hb : ∀ k (h : k < s.length),body (k : Int) = if p s[k] = true then some (.inr (.inr (k : Int))) else some (.inl ((k + 1 : Nat) : Int))) (he : body (s.length : Int) = some (.inr (.inl ()))) :
    tailrec body (0 : Int) = some (match s.findIdx? p with | some k => .inr (k : Int) | none => .inl ()) := by
  obtain ⟨q,hq⟩ : ∃ q : Nat → Bool,∀ k (h : k < s.length),q k = p s[k] := ⟨fun k => if h : k < s.length then p s[k] else false,fun k h => dif_pos h⟩
  rcases tailrec_scan (ρ := Unit ⊕ Int) s.length q (.inl ()) (fun k => .inr (k : Int))
    (fun k hk hp => by rw [hb k hk,if_neg (by rw [← hq k hk,hp]; decide)]) (fun k hk hp => by rw [hb k hk,if_pos (by rw [← hq k hk,hp])]) he with ⟨k,hk,hp,hj,e⟩ | ⟨hp,e⟩
  · have : s.findIdx? p = some k := by
      rw [List.findIdx?_eq_some_iff_getElem]
      refine ⟨hk,by rw [← hq k hk,hp],fun j hj' => ?_⟩
      have := hj j hj'
      rw [hq j (by omega)] at this
      simp [this]
    rw [e,this]
  · have : s.findIdx? p = none := by
      rw [List.findIdx?_eq_none_iff]
      intro x hx
      obtain ⟨k,hk,rfl⟩ := List.getElem_of_mem hx
      have := hp k hk
      rwa [hq k hk] at this
    rw [e,this]

section
variable {p : Sapi_Kind → Bool} {q : Sapi_Field → Bool}
theorem indexKind {s : List Sapi_Kind} {f : Sapi_Kind → Option Bool} (hs : s.length ≤ 1000000) (hf : ∀ x ∈ s,f x = some (p x)) : fslices_IndexFunc_Kind s f = some (firstIdx s p) := by
  unfold fslices_IndexFunc_Kind
  rw [tailrec_first s p (fun k hk => ?_) ?_]
  · unfold firstIdx; cases s.findIdx? p <;> rfl
  · rw [if_neg (by simp)]
  · rw [if_pos (by simpa using hk),idx_lt hk]
    show (f s[k]).bind _ = _
    rw [hf _ (List.getElem_mem hk),w64_succ hk (by omega)]; rfl
theorem indexField {s : List Sapi_Field} {f : Sapi_Field → Option Bool} (hs : s.length ≤ 1000000) (hf : ∀ x ∈ s,f x = some (q x)) : fslices_IndexFunc_Field s f = some (firstIdx s q) := by
  unfold fslices_IndexFunc_Field
  rw [tailrec_first s q (fun k hk => ?_) ?_]
  · unfold firstIdx; cases s.findIdx? q <;> rfl
  · rw [if_neg (by simp)]
  · rw [if_pos (by simpa using hk),idx_lt hk]
    show (f s[k]).bind _ = _
    rw [hf _ (List.getElem_mem hk),w64_succ hk (by omega)]; rfl
end

/-- The kind, the field with a name. -/
def kindIx (x : Sapi_Schema) (n : Str) : Int := firstIdx x.Kinds fun k => k.Name == n
def fieldIx (k : Sapi_Kind) (n : Str) : Int := firstIdx k.Fields fun f => f.Name == n
theorem typing_Kind_is {x : Sapi_Schema} {n : Str} (hx : x.Kinds.length ≤ 1000000) : ftyping_Kind x n = some (kindIx x n) := by
  unfold ftyping_Kind
  rw [indexKind (f := fun x0 => ftyping_Kindq1 x0 n) (p := fun k => k.Name == n) hx (fun k _ => rfl)]; rfl
theorem typing_Field_is {k : Sapi_Kind} {n : Str} (hx : k.Fields.length ≤ 1000000) : ftyping_Field k n = some (fieldIx k n) := by
  unfold ftyping_Field
  rw [indexField (f := fun x0 => ftyping_Fieldq1 x0 n) (q := fun k => k.Name == n) hx (fun k _ => rfl)]; rfl
/-- The field of a schema, if there is one. -/
def field? (x : Sapi_Schema) (k j : Int) : Option Sapi_Field := if 0 ≤ k ∧ 0 ≤ j then x.Kinds[k.toNat]?.bind fun q => q.Fields[j.toNat]? else none
def zeroField : Sapi_Field := Sapi_Field.mk [] [] [] 0 0 0 [] []
theorem field_some {x : Sapi_Schema} {k j : Int} {f : Sapi_Field} (h : field? x k j = some f) : ∃ q,0 ≤ k ∧ 0 ≤ j ∧ idx x.Kinds k = some q ∧ idx q.Fields j = some f ∧ q ∈ x.Kinds ∧ k < x.Kinds.length ∧ j < q.Fields.length := by
  unfold field? at h
  split at h
  · rename_i hk
    obtain ⟨q,h1,h2⟩ := Option.bind_eq_some_iff.1 h
    refine ⟨q,hk.1,hk.2,by rw [idx_int _ hk.1,h1],by rw [idx_int _ hk.2,h2],List.mem_of_getElem? h1,?_,?_⟩
    · have := (List.getElem?_eq_some_iff.1 h1).1; omega
    · have := (List.getElem?_eq_some_iff.1 h2).1; omega
  · cases h
theorem field_of {x : Sapi_Schema} {k j : Int} {q : Sapi_Kind} {f : Sapi_Field} (hk : 0 ≤ k) (hj : 0 ≤ j) (h1 : idx x.Kinds k = some q) (h2 : idx q.Fields j = some f) : field? x k j = some f := by
  rw [idx_int _ hk] at h1; rw [idx_int _ hj] at h2
  unfold field?
  rw [if_pos ⟨hk,hj⟩,h1]; exact h2
theorem idx_some {α : Type} {l : List α} {i : Int} (h0 : 0 ≤ i) (h1 : i < l.length) : ∃ v,idx l i = some v ∧ v ∈ l := by
  have hlt : i.toNat < l.length := by omega
  exact ⟨l[i.toNat],by rw [idx_int l h0,List.getElem?_eq_getElem hlt],List.getElem_mem hlt⟩
theorem at_is (x : Sapi_Schema) (k j : Int) : ftyping_at x k j = some (match field? x k j with | some f => (f,true) | none => (zeroField,false)) := by
  unfold ftyping_at
  by_cases hc : (0 ≤ k ∧ k < x.Kinds.length) ∧ 0 ≤ j
  · obtain ⟨⟨h1,h2⟩,h3⟩ := hc
    obtain ⟨q,hq,_⟩ := idx_some h1 h2
    have c : ((decide (k < 0) || decide (k ≥ (x.Kinds.length : Int))) || decide (j < 0)) = false := by simp; omega
    rw [c,hq]
    show (if (false || decide (j ≥ (q.Fields.length : Int))) = true then _ else _) = _
    by_cases h4 : j < q.Fields.length
    · obtain ⟨f,hf,_⟩ := idx_some h3 h4
      rw [if_neg (by simp; omega),field_of h1 h3 hq hf]
      show (idx q.Fields j).bind _ = _
      rw [hf]; rfl
    · rw [if_pos (by simp; omega)]
      have : field? x k j = none := by
        cases h : field? x k j with
        | none => rfl
        | some f =>
          obtain ⟨q',_,_,e1,e2,_,_,e3⟩ := field_some h
          rw [hq] at e1; cases e1; exact (h4 e3).elim
      rw [this]; rfl
  · have c : ((decide (k < 0) || decide (k ≥ (x.Kinds.length : Int))) || decide (j < 0)) = true := by simp; omega
    rw [c]
    have : field? x k j = none := by
      cases h : field? x k j with
      | none => rfl
      | some f =>
        obtain ⟨q',e1,e2,_,_,_,e3,_⟩ := field_some h
        exact (hc ⟨⟨e1,e3⟩,e2⟩).elim
    rw [this]; rfl
end Go.Proofs.YthdfmpocknmleaaGreatDoor

namespace Go.Proofs.YthdfmpocknmleaaGreatDoor
open Go.Sim

/-- What the way up needs of a schema: it is small. -/
def Few (x : Sapi_Schema) : Prop := x.Kinds.length ≤ 1000 ∧ ∀ k ∈ x.Kinds,k.Fields.length ≤ 1000
theorem Sz.few {x : Sapi_Schema} (h : Sz x) : Few x := ⟨by have := h.1.1; omega,fun k hk => by have := (h.1.2 k hk).1; omega⟩

def refIx (x : Sapi_Schema) (k : Int) (g : Sapi_Field) : Int := if kindIx x g.Of < k then kindIx x g.Of else -1
/-- The kind to which a field leads. -/
def upIx (x : Sapi_Schema) (k j : Int) : Int :=
  match field? x k j with
  | none => -1
  | some f =>
    if f.Kind = 7 ∨ f.Kind = 8 then
      match idx x.Kinds k with
      | none => -1
      | some q => if fieldIx q f.Up < j then (match field? x k (fieldIx q f.Up) with | some g => if g.Kind = 1 then refIx x k g else -1 | none => -1) else -1
    else if f.Kind = 1 then refIx x k f else -1

theorem upS_ref {x : Sapi_Schema} {k j : Int} {g : Sapi_Field} {self : Sapi_Schema → Int → Int → Option Int} (hx : Few x) (h : field? x k j = some g) (hg : g.Kind = 1) : ftyping_UpS self x k j = some (refIx x k g) := by
  unfold ftyping_UpS
  rw [at_is,h]
  simp only [Option.bind_some,Bool.not_true,hg]
  rw [if_neg (by decide),if_neg (by decide),if_neg (by decide),typing_Kind_is (by have := hx.1; omega)]
  simp only [Option.bind_some,refIx]
  by_cases hl : kindIx x g.Of < k
  · rw [if_pos (by simpa using hl),if_pos hl]
  · rw [if_neg (by simpa using hl),if_neg hl]
theorem upS_is {x : Sapi_Schema} {k j : Int} {self : Sapi_Schema → Int → Int → Option Int} (hx : Few x) (hs : ∀ u g,field? x k u = some g → g.Kind = 1 → self x k u = some (refIx x k g)) : ftyping_UpS self x k j = some (upIx x k j) := by
  cases hf : field? x k j with
  | none =>
    unfold ftyping_UpS upIx
    rw [at_is,hf]; rfl
  | some f =>
    by_cases h1 : f.Kind = 1
    · rw [upS_ref hx hf h1]
      unfold upIx
      rw [hf]
      simp [h1]
    unfold ftyping_UpS upIx
    rw [at_is,hf]
    simp only [Option.bind_some,Bool.not_true]
    rw [if_neg (by decide)]
    by_cases c : f.Kind = 7 ∨ f.Kind = 8
    · obtain ⟨q,hk,hj,hq,hqf,hqm,_,_⟩ := field_some hf
      rw [if_pos (by simpa using c),if_pos c,hq]
      simp only [Option.bind_some]
      rw [typing_Field_is (by have := hx.2 q hqm; omega)]
      simp only [Option.bind_some]
      rw [at_is]
      simp only [Option.bind_some]
      cases hg : field? x k (fieldIx q f.Up) with
      | none => simp
      | some g =>
        simp only
        by_cases hu : fieldIx q f.Up < j
        · by_cases hg1 : g.Kind = 1
          · rw [if_pos (by simp [hu,hg1]),hs _ g hg hg1,if_pos hu,if_pos hg1]; rfl
          · rw [if_neg (by simp [hg1]),if_pos hu,if_neg hg1]
        · rw [if_neg (by simp [hu]),if_neg hu]
    · rw [if_neg (by simpa using c),if_neg c,if_pos (by simpa using h1),if_neg h1]
theorem typing_Up_is {x : Sapi_Schema} {k j : Int} (hx : Few x) : ftyping_Up x k j = some (upIx x k j) := by
  unfold ftyping_Up
  exact upS_is hx fun u g h hg => upS_ref hx h hg
/-! Shares -/
theorem filt_succ (p : Nat → Bool) (k : Nat) : ((List.range (k + 1)).filter p).map Int.ofNat = if p k = true then ((List.range k).filter p).map Int.ofNat ++ [(k : Int)] else ((List.range k).filter p).map Int.ofNat := by
  rw [List.range_succ,List.filter_append,List.map_append]
  by_cases h : p k = true
  · rw [if_pos h]; simp [h]
  · rw [if_neg h]; simp [h]
theorem filt_len (p : Nat → Bool) (k : Nat) : (((List.range k).filter p).map Int.ofNat).length ≤ k := by
  rw [List.length_map]
  have := List.length_filter_le p (List.range k)
  simpa using this
def shareQ (x : Sapi_Schema) (o k : Int) (nm : Str) (fs : List Sapi_Field) (i : Nat) : Bool := match fs[i]? with | some g => g.Kind == 7 && g.Of == nm && upIx x o (i : Int) == k | none => false
def shl (x : Sapi_Schema) (o k : Int) (nm : Str) : List Int := match idx x.Kinds o with | some q => ((List.range q.Fields.length).filter (shareQ x o k nm q.Fields)).map Int.ofNat | none => []
def sumIx (x : Sapi_Schema) (k : Int) (f : Sapi_Field) : Int × List Int := if f.Kind ≠ 6 ∨ kindIx x f.Of ≤ k then (-1,[]) else (kindIx x f.Of,shl x (kindIx x f.Of) k f.Name)
theorem kindIx_lt (x : Sapi_Schema) (n : Str) : -1 ≤ kindIx x n ∧ kindIx x n < x.Kinds.length := firstIdx_range _ _

theorem shares_is {x : Sapi_Schema} {k : Int} {f : Sapi_Field} (hx : Few x) (hk : 0 ≤ k) : ftyping_shares x k f = some (sumIx x k f) := by
  unfold ftyping_shares
  rw [typing_Kind_is (by have := hx.1; omega)]
  simp only [Option.bind_some]
  unfold sumIx
  by_cases c : f.Kind ≠ 6 ∨ kindIx x f.Of ≤ k
  · rw [if_pos (by simpa using c),if_pos c]
  rw [if_neg (by simpa using c),if_neg c]
  have c' : k < kindIx x f.Of := by
    rcases Int.lt_or_le k (kindIx x f.Of) with h | h
    · exact h
    · exact (c (.inr h)).elim
  obtain ⟨q,hq,hqm⟩ := idx_some (l := x.Kinds) (i := kindIx x f.Of) (by omega) (kindIx_lt x f.Of).2
  have hl := hx.2 q hqm
  rw [hq]
  simp only [Option.bind_some]
  refine for_bind q.Fields.length (fun n => ((n : Int),((List.range n).filter (shareQ x (kindIx x f.Of) k f.Name q.Fields)).map Int.ofNat)) _ rfl (fun n hn => ?_) (if_neg (by simp)) ?_
  · rw [if_pos (by simpa using hn),idx_lt hn]
    simp only [Option.bind_some]
    rw [typing_Up_is hx]
    have e : shareQ x (kindIx x f.Of) k f.Name q.Fields n = (q.Fields[n].Kind == 7 && q.Fields[n].Of == f.Name && upIx x (kindIx x f.Of) (n : Int) == k) := by
      unfold shareQ; rw [List.getElem?_eq_getElem hn]
    have hle := filt_len (shareQ x (kindIx x f.Of) k f.Name q.Fields) n
    rw [filt_succ,e,w64_succ hn (by omega)]
    cases h1 : (q.Fields[n].Kind == 7 && q.Fields[n].Of == f.Name) with
    | false => rfl
    | true =>
      simp only [Sim.opt,Bool.true_and,if_true,beq_self_eq_true,Option.bind_some]
      cases h2 : upIx x (kindIx x f.Of) (n : Int) == k with
      | false => rfl
      | true =>
        rw [if_pos rfl,if_pos rfl,rm_le (by rw [List.length_singleton]; omega)]
        rfl
  · unfold shl; rw [hq]

end Go.Proofs.YthdfmpocknmleaaGreatDoor

namespace Go.Proofs.YthdfmpocknmleaaGreatDoor
open Go.Sim

theorem firstIdx_any {α : Type} (s : List α) (p : α → Bool) : decide (firstIdx s p ≥ 0) = s.any p := by
  unfold firstIdx
  cases h : s.findIdx? p with
  | none =>
    have := List.findIdx?_eq_none_iff.1 h
    rw [Eq.comm,List.any_eq_false.2 (fun x hx => by simp [this x hx])]
    rfl
  | some k =>
    obtain ⟨hk,hp,_⟩ := List.findIdx?_eq_some_iff_getElem.1 h
    rw [Eq.comm,List.any_eq_true.2 ⟨_,List.getElem_mem hk,hp⟩,Eq.comm]
    exact decide_eq_true (Int.natCast_nonneg k)
theorem any_not {α : Type} (s : List α) (p : α → Bool) : (!s.any fun x => !p x) = s.all p := by
  induction s with
  | nil => rfl
  | cons a s ih => simp only [List.any_cons,List.all_cons,Bool.not_or,Bool.not_not,ih]

theorem indexLife {s : List Sapi_Life} {f : Sapi_Life → Option Bool} {p : Sapi_Life → Bool} (hs : s.length ≤ 1000000) (hf : ∀ x ∈ s,f x = some (p x)) : fslices_IndexFunc_Life s f = some (firstIdx s p) := by
  unfold fslices_IndexFunc_Life
  rw [tailrec_first s p (fun k hk => ?_) ?_]
  · unfold firstIdx; cases s.findIdx? p <;> rfl
  · rw [if_neg (by simp)]
  · rw [if_pos (by simpa using hk),idx_lt hk]
    show (f s[k]).bind _ = _
    rw [hf _ (List.getElem_mem hk),w64_succ hk (by omega)]; rfl
theorem indexRule {s : List Sapi_Rule} {f : Sapi_Rule → Option Bool} {p : Sapi_Rule → Bool} (hs : s.length ≤ 1000000) (hf : ∀ x ∈ s,f x = some (p x)) : fslices_IndexFunc_Rule s f = some (firstIdx s p) := by
  unfold fslices_IndexFunc_Rule
  rw [tailrec_first s p (fun k hk => ?_) ?_]
  · unfold firstIdx; cases s.findIdx? p <;> rfl
  · rw [if_neg (by simp)]
  · rw [if_pos (by simpa using hk),idx_lt hk]
    show (f s[k]).bind _ = _
    rw [hf _ (List.getElem_mem hk),w64_succ hk (by omega)]; rfl
theorem indexbyte {s : List Int} {f : Int → Option Bool} {p : Int → Bool} (hs : s.length ≤ 1000000) (hf : ∀ x ∈ s,f x = some (p x)) : fslices_IndexFunc_byte s f = some (firstIdx s p) := by
  unfold fslices_IndexFunc_byte
  rw [tailrec_first s p (fun k hk => ?_) ?_]
  · unfold firstIdx; cases s.findIdx? p <;> rfl
  · rw [if_neg (by simp)]
  · rw [if_pos (by simpa using hk),idx_lt hk]
    show (f s[k]).bind _ = _
    rw [hf _ (List.getElem_mem hk),w64_succ hk (by omega)]; rfl
theorem indexstring {s : List Str} {f : Str → Option Bool} {p : Str → Bool} (hs : s.length ≤ 1000000) (hf : ∀ x ∈ s,f x = some (p x)) : fslices_IndexFunc_string s f = some (firstIdx s p) := by
  unfold fslices_IndexFunc_string
  rw [tailrec_first s p (fun k hk => ?_) ?_]
  · unfold firstIdx; cases s.findIdx? p <;> rfl
  · rw [if_neg (by simp)]
  · rw [if_pos (by simpa using hk),idx_lt hk]
    show (f s[k]).bind _ = _
    rw [hf _ (List.getElem_mem hk),w64_succ hk (by omega)]; rfl
theorem indexTwoint {s : List A2_Int} {f : A2_Int → Option Bool} {p : A2_Int → Bool} (hs : s.length ≤ 1000000) (hf : ∀ x ∈ s,f x = some (p x)) : fslices_IndexFunc_Twoint s f = some (firstIdx s p) := by
  unfold fslices_IndexFunc_Twoint
  rw [tailrec_first s p (fun k hk => ?_) ?_]
  · unfold firstIdx; cases s.findIdx? p <;> rfl
  · rw [if_neg (by simp)]
  · rw [if_pos (by simpa using hk),idx_lt hk]
    show (f s[k]).bind _ = _
    rw [hf _ (List.getElem_mem hk),w64_succ hk (by omega)]; rfl
theorem containsKind {s : List Sapi_Kind} {f : Sapi_Kind → Option Bool} {p : Sapi_Kind → Bool} (hs : s.length ≤ 1000000) (hf : ∀ x ∈ s,f x = some (p x)) : fslices_ContainsFunc_Kind s f = some (s.any p) := by
  unfold fslices_ContainsFunc_Kind
  rw [indexKind hs hf,← firstIdx_any]; rfl
theorem allKind {s : List Sapi_Kind} {f : Sapi_Kind → Option Bool} {p : Sapi_Kind → Bool} (hs : s.length ≤ 1000000) (hf : ∀ x ∈ s,f x = some (p x)) : fschema_all_Kind s f = some (s.all p) := by
  unfold fschema_all_Kind
  rw [containsKind (p := fun x => !p x) hs (fun x hx => by show (f x).bind _ = _; rw [hf x hx]; rfl),← any_not]; rfl
theorem containsField {s : List Sapi_Field} {f : Sapi_Field → Option Bool} {p : Sapi_Field → Bool} (hs : s.length ≤ 1000000) (hf : ∀ x ∈ s,f x = some (p x)) : fslices_ContainsFunc_Field s f = some (s.any p) := by
  unfold fslices_ContainsFunc_Field
  rw [indexField hs hf,← firstIdx_any]; rfl
theorem allField {s : List Sapi_Field} {f : Sapi_Field → Option Bool} {p : Sapi_Field → Bool} (hs : s.length ≤ 1000000) (hf : ∀ x ∈ s,f x = some (p x)) : fschema_all_Field s f = some (s.all p) := by
  unfold fschema_all_Field
  rw [containsField (p := fun x => !p x) hs (fun x hx => by show (f x).bind _ = _; rw [hf x hx]; rfl),← any_not]; rfl
theorem containsLife {s : List Sapi_Life} {f : Sapi_Life → Option Bool} {p : Sapi_Life → Bool} (hs : s.length ≤ 1000000) (hf : ∀ x ∈ s,f x = some (p x)) : fslices_ContainsFunc_Life s f = some (s.any p) := by
  unfold fslices_ContainsFunc_Life
  rw [indexLife hs hf,← firstIdx_any]; rfl
theorem allLife {s : List Sapi_Life} {f : Sapi_Life → Option Bool} {p : Sapi_Life → Bool} (hs : s.length ≤ 1000000) (hf : ∀ x ∈ s,f x = some (p x)) : fschema_all_Life s f = some (s.all p) := by
  unfold fschema_all_Life
  rw [containsLife (p := fun x => !p x) hs (fun x hx => by show (f x).bind _ = _; rw [hf x hx]; rfl),← any_not]; rfl
theorem containsRule {s : List Sapi_Rule} {f : Sapi_Rule → Option Bool} {p : Sapi_Rule → Bool} (hs : s.length ≤ 1000000) (hf : ∀ x ∈ s,f x = some (p x)) : fslices_ContainsFunc_Rule s f = some (s.any p) := by
  unfold fslices_ContainsFunc_Rule
  rw [indexRule hs hf,← firstIdx_any]; rfl
theorem allRule {s : List Sapi_Rule} {f : Sapi_Rule → Option Bool} {p : Sapi_Rule → Bool} (hs : s.length ≤ 1000000) (hf : ∀ x ∈ s,f x = some (p x)) : fschema_all_Rule s f = some (s.all p) := by
  unfold fschema_all_Rule
  rw [containsRule (p := fun x => !p x) hs (fun x hx => by show (f x).bind _ = _; rw [hf x hx]; rfl),← any_not]; rfl
theorem containsbyte {s : List Int} {f : Int → Option Bool} {p : Int → Bool} (hs : s.length ≤ 1000000) (hf : ∀ x ∈ s,f x = some (p x)) : fslices_ContainsFunc_byte s f = some (s.any p) := by
  unfold fslices_ContainsFunc_byte
  rw [indexbyte hs hf,← firstIdx_any]; rfl
theorem containsstring {s : List Str} {f : Str → Option Bool} {p : Str → Bool} (hs : s.length ≤ 1000000) (hf : ∀ x ∈ s,f x = some (p x)) : fslices_ContainsFunc_string s f = some (s.any p) := by
  unfold fslices_ContainsFunc_string
  rw [indexstring hs hf,← firstIdx_any]; rfl
theorem allstring {s : List Str} {f : Str → Option Bool} {p : Str → Bool} (hs : s.length ≤ 1000000) (hf : ∀ x ∈ s,f x = some (p x)) : fschema_all_string s f = some (s.all p) := by
  unfold fschema_all_string
  rw [containsstring (p := fun x => !p x) hs (fun x hx => by show (f x).bind _ = _; rw [hf x hx]; rfl),← any_not]; rfl
theorem containsTwoint {s : List A2_Int} {f : A2_Int → Option Bool} {p : A2_Int → Bool} (hs : s.length ≤ 1000000) (hf : ∀ x ∈ s,f x = some (p x)) : fslices_ContainsFunc_Twoint s f = some (s.any p) := by
  unfold fslices_ContainsFunc_Twoint
  rw [indexTwoint hs hf,← firstIdx_any]; rfl
theorem allTwoint {s : List A2_Int} {f : A2_Int → Option Bool} {p : A2_Int → Bool} (hs : s.length ≤ 1000000) (hf : ∀ x ∈ s,f x = some (p x)) : fschema_all_Twoint s f = some (s.all p) := by
  unfold fschema_all_Twoint
  rw [containsTwoint (p := fun x => !p x) hs (fun x hx => by show (f x).bind _ = _; rw [hf x hx]; rfl),← any_not]; rfl

def inW (n a b : Int) : Bool := decide (n ≥ a) && decide (n ≤ b)
theorem inW_le {n a b : Int} (h : inW n a b = true) : a ≤ n ∧ n ≤ b := by simpa [inW] using h
def letterS (c : Int) : Bool := inW c 97 122
def digitS (c : Int) : Bool := inW c 48 57
def spanS (lo hi a b : Int) : Bool := (decide (lo ≥ a) && decide (lo ≤ hi)) && decide (hi ≤ b)
/-- A name. -/
def nameS (s : Str) : Bool := inW (s.length : Int) 1 12 && (letterS ((s.headD 0).toNat : Int) && (bytesOf s).all fun c => letterS c || digitS c)
theorem isName_is (s : Str) : fschema_isName s = some (nameS s) := by
  unfold fschema_isName nameS
  cases s with
  | nil => rfl
  | cons c s =>
    show (some (inW ((c :: s).length : Int) 1 12)).bind _ = _
    simp only [Option.bind_some]
    cases h : inW ((c :: s).length : Int) 1 12 with
    | false => rfl
    | true =>
      have hl := (inW_le h).2
      rw [show idx (c :: s) (0 : Int) = some c from rfl]
      simp only [Sim.opt,Bool.not_true,beq_self_eq_true,if_true,Option.bind_some]
      rw [show fschema_isLetter (c.toNat : Int) = some (letterS (c.toNat : Int)) from rfl]
      simp only [Option.bind_some]
      cases hc : letterS (c.toNat : Int) with
      | false => simp [hc]
      | true =>
        rw [if_neg (by decide),containsbyte (p := fun c => !(letterS c || digitS c)) (by simp only [bytesOf,List.length_map]; omega) (fun x _ => ?_)]
        · simp only [Option.bind_some]
          rw [any_not]
          simp [hc]
        · show (some (letterS x)).bind _ = _
          simp only [Option.bind_some]
          cases h1 : letterS x with
          | true => rfl
          | false => show some (true && !digitS x) = _; rfl

theorem eqString {a b : List Str} (ha : a.length ≤ 1000000) : fslices_Equal_string a b = some (decide (a = b)) := by
  unfold fslices_Equal_string
  by_cases hl : a.length = b.length
  · rw [if_neg (by simp [hl])]
    have : Ok ((tailrec (fun (s7 : Int) => ((if (decide (s7 < (a.length : Int))) = true then (idx a s7).bind fun t18 => (idx b s7).bind fun t22 => (if (t18 != t22) = true then (some (.inr (.inr false))) else (some (.inl (IntKind.i64.wrap (s7 + (1:Int)))))) else (some (.inr (.inl ())))) : Option ((Int) ⊕ ((Unit) ⊕ (Bool))))) (0:Int)).bind fun (e8 : (Unit) ⊕ (Bool)) => (match e8 with | .inl _ => (some true) | .inr p26 => (some p26))) (fun r => r = decide (a = b)) := by
      refine Ok.bind (P := fun e : Unit ⊕ Bool => (match e with | .inl _ => true | .inr p => p) = decide (a = b)) (Ok.loop (fun m s => 0 ≤ s ∧ s + m = a.length ∧ a.take s.toNat = b.take s.toNat) a.length ⟨Int.le_refl _,by omega,by simp⟩ fun m s hs => ?_) fun e he => by cases e <;> exact Ok.mk he
      obtain ⟨h1,h2,h3⟩ := hs
      obtain ⟨k,rfl⟩ := Int.eq_ofNat_of_zero_le h1
      simp only [Int.toNat_natCast] at h3
      refine Ok.ite (fun hk => ?_) (fun hk => ?_)
      · have hk' : k < a.length := by simpa using hk
        rw [idx_lt hk',idx_lt (by omega)]
        simp only [Option.bind_some]
        refine Ok.ite (fun hne => Ok.mk ?_) (fun heq => Ok.mk ⟨m - 1,by omega,?_⟩)
        · show false = _
          rw [Eq.comm,decide_eq_false_iff_not]
          rintro rfl
          simp at hne
        · have heq' : a[k] = b[k] := by simpa using heq
          rw [w64_succ hk' (by omega)]
          refine ⟨by omega,by omega,?_⟩
          rw [Int.toNat_natCast,List.take_succ_eq_append_getElem hk',List.take_succ_eq_append_getElem (by omega),h3,heq']
      · have hk' : ¬ k < a.length := by simpa using hk
        refine Ok.mk ?_
        show true = _
        rw [List.take_of_length_le (by omega),List.take_of_length_le (by omega)] at h3
        simp [h3]
    obtain ⟨r,hr,rfl⟩ := this
    exact hr
  · rw [if_pos (by simp; omega)]
    have : a ≠ b := fun h => hl (by rw [h])
    simp [this]
theorem eqInt {a b : List Int} (ha : a.length ≤ 1000000) : fslices_Equal_int a b = some (decide (a = b)) := by
  unfold fslices_Equal_int
  by_cases hl : a.length = b.length
  · rw [if_neg (by simp [hl])]
    have : Ok ((tailrec (fun (s7 : Int) => ((if (decide (s7 < (a.length : Int))) = true then (idx a s7).bind fun t18 => (idx b s7).bind fun t22 => (if (t18 != t22) = true then (some (.inr (.inr false))) else (some (.inl (IntKind.i64.wrap (s7 + (1:Int)))))) else (some (.inr (.inl ())))) : Option ((Int) ⊕ ((Unit) ⊕ (Bool))))) (0:Int)).bind fun (e8 : (Unit) ⊕ (Bool)) => (match e8 with | .inl _ => (some true) | .inr p26 => (some p26))) (fun r => r = decide (a = b)) := by
      refine Ok.bind (P := fun e : Unit ⊕ Bool => (match e with | .inl _ => true | .inr p => p) = decide (a = b)) (Ok.loop (fun m s => 0 ≤ s ∧ s + m = a.length ∧ a.take s.toNat = b.take s.toNat) a.length ⟨Int.le_refl _,by omega,by simp⟩ fun m s hs => ?_) fun e he => by cases e <;> exact Ok.mk he
      obtain ⟨h1,h2,h3⟩ := hs
      obtain ⟨k,rfl⟩ := Int.eq_ofNat_of_zero_le h1
      simp only [Int.toNat_natCast] at h3
      refine Ok.ite (fun hk => ?_) (fun hk => ?_)
      · have hk' : k < a.length := by simpa using hk
        rw [idx_lt hk',idx_lt (by omega)]
        simp only [Option.bind_some]
        refine Ok.ite (fun hne => Ok.mk ?_) (fun heq => Ok.mk ⟨m - 1,by omega,?_⟩)
        · show false = _
          rw [Eq.comm,decide_eq_false_iff_not]
          rintro rfl
          simp at hne
        · have heq' : a[k] = b[k] := by simpa using heq
          rw [w64_succ hk' (by omega)]
          refine ⟨by omega,by omega,?_⟩
          rw [Int.toNat_natCast,List.take_succ_eq_append_getElem hk',List.take_succ_eq_append_getElem (by omega),h3,heq']
      · have hk' : ¬ k < a.length := by simpa using hk
        refine Ok.mk ?_
        show true = _
        rw [List.take_of_length_le (by omega),List.take_of_length_le (by omega)] at h3
        simp [h3]
    obtain ⟨r,hr,rfl⟩ := this
    exact hr
  · rw [if_pos (by simp; omega)]
    have : a ≠ b := fun h => hl (by rw [h])
    simp [this]

end Go.Proofs.YthdfmpocknmleaaGreatDoor

namespace Go.Proofs.YthdfmpocknmleaaGreatDoor
open Go.Sim

theorem sum_take1 (l : List Int) {k : Nat} (h : k < l.length) : (l.take (k + 1)).sum = (l.take k).sum + l[k] := by
  rw [List.take_succ_eq_append_getElem h,List.sum_append]; simp
/-- Words and weights are right. -/
def pickS (ws : List Str) (gs : List Int) : Bool := (gs.all fun g => inW g 0 1048576) && (((inW (ws.length : Int) 1 12 && ((ws.length : Int) == (gs.length : Int))) && decide (gs.sum > 0)) && ws.all nameS)
theorem isPick_is {ws : List Str} {gs : List Int} (hw : ws.length ≤ 1000000) (hg : gs.length ≤ 1000000) : fschema_isPick ws gs = some (pickS ws gs) := by
  have key : Ok (fschema_isPick ws gs) (fun r => r = pickS ws gs) := by
    unfold fschema_isPick
    refine Ok.bind (P := fun e : Int ⊕ Bool => match e with | .inl s => (gs.all fun g => inW g 0 1048576) = true ∧ s = gs.sum | .inr p => p = false ∧ (gs.all fun g => inW g 0 1048576) = false)
      (Ok.loop (fun m s => 0 ≤ s.1 ∧ s.1 + m = gs.length ∧ ((gs.take s.1.toNat).all fun g => inW g 0 1048576) = true ∧ s.2 = (gs.take s.1.toNat).sum ∧ 0 ≤ s.2 ∧ s.2 ≤ s.1 * 1048576) gs.length ⟨Int.le_refl _,by dsimp only; omega,by simp,by simp,by simp,by simp⟩ fun m s hs => ?_) fun e he => ?_
    · obtain ⟨i,t⟩ := s
      obtain ⟨h1,h2,h3,h4,h5,h6⟩ := hs
      dsimp only at h1 h2 h3 h4 h5 h6
      obtain ⟨k,rfl⟩ := Int.eq_ofNat_of_zero_le h1
      simp only [Int.toNat_natCast] at h3 h4
      refine Ok.ite (fun hk => ?_) (fun hk => ?_)
      · have hk' : k < gs.length := by simpa using hk
        dsimp only
        rw [idx_lt hk']
        simp only [Option.bind_some]
        show Ok ((some (inW gs[k] 0 1048576)).bind _) _
        simp only [Option.bind_some]
        refine Ok.ite (fun hn => Ok.mk ⟨rfl,?_⟩) (fun hy => Ok.mk ⟨m - 1,by omega,?_⟩)
        · rw [List.all_eq_false]
          exact ⟨_,List.getElem_mem hk',by simpa using hn⟩
        · have hy' : inW gs[k] 0 1048576 = true := by simpa using hy
          have hb := inW_le hy'
          dsimp only
          rw [w64_succ hk' (by omega),w64 (n := t + gs[k]) (by omega) (by omega)]
          refine ⟨by omega,by omega,?_,?_,by omega,by omega⟩
          · rw [Int.toNat_natCast,List.take_succ_eq_append_getElem hk',List.all_append,h3]; simp [hy']
          · rw [Int.toNat_natCast,sum_take1 gs hk',h4]
      · have hk' : ¬ k < gs.length := by simpa using hk
        rw [List.take_of_length_le (by omega)] at h3 h4
        exact Ok.mk ⟨h3,h4⟩
    · cases e with
      | inr p => obtain ⟨rfl,hp⟩ := he; refine Ok.mk ?_; unfold pickS; rw [hp]; rfl
      | inl s =>
        obtain ⟨hp,rfl⟩ := he
        dsimp only
        show Ok ((some (inW (ws.length : Int) 1 12)).bind _) _
        simp only [Option.bind_some]
        rw [allstring (p := nameS) hw (fun x _ => isName_is x)]
        unfold pickS
        rw [hp,Bool.true_and]
        cases (inW (ws.length : Int) 1 12 && ((ws.length : Int) == (gs.length : Int))) && decide (gs.sum > 0) with
        | false => exact Ok.mk rfl
        | true => exact Ok.mk rfl
  obtain ⟨r,hr,rfl⟩ := key
  exact hr

/-- A field with what its kind uses alone. -/
def onlyS (f : Sapi_Field) : Sapi_Field :=
  if f.Kind = 0 then ⟨f.Name,[],[],f.Kind,f.Lo,0,[],[]⟩
  else if f.Kind = 1 ∨ f.Kind = 4 ∨ f.Kind = 5 then ⟨f.Name,f.Of,[],f.Kind,f.Lo,f.Hi,[],[]⟩
  else if f.Kind = 2 then ⟨f.Name,[],[],f.Kind,f.Lo,f.Hi,[],[]⟩
  else if f.Kind = 3 then ⟨f.Name,[],[],f.Kind,0,0,f.Words,f.Weights⟩
  else if f.Kind = 6 then ⟨f.Name,f.Of,[],f.Kind,0,0,[],[]⟩
  else if f.Kind = 7 then ⟨f.Name,f.Of,f.Up,f.Kind,f.Lo,f.Hi,[],[]⟩
  else if f.Kind = 8 then ⟨f.Name,f.Of,f.Up,f.Kind,0,0,[],[]⟩
  else ⟨f.Name,[],[],f.Kind,0,0,[],[]⟩
theorem only_is (f : Sapi_Field) : fschema_only f = some (onlyS f) := by
  obtain ⟨n,o,u,k,lo,hi,w,g⟩ := f
  unfold fschema_only onlyS
  by_cases h0 : k = 0
  · subst h0; rfl
  by_cases h1 : k = 1
  · subst h1; rfl
  by_cases h4 : k = 4
  · subst h4; rfl
  by_cases h5 : k = 5
  · subst h5; rfl
  by_cases h2 : k = 2
  · subst h2; rfl
  by_cases h3 : k = 3
  · subst h3; rfl
  by_cases h6 : k = 6
  · subst h6; rfl
  by_cases h7 : k = 7
  · subst h7; rfl
  by_cases h8 : k = 8
  · subst h8; rfl
  simp [h0,h1,h2,h3,h4,h5,h6,h7,h8]
/-- Two fields are equal. -/
def sameS (a b : Sapi_Field) : Bool := (((((((a.Name == b.Name) && (a.Of == b.Of)) && (a.Up == b.Up)) && (a.Kind == b.Kind)) && (a.Lo == b.Lo)) && (a.Hi == b.Hi)) && decide (a.Words = b.Words)) && decide (a.Weights = b.Weights)
theorem sameField_is {a b : Sapi_Field} (h1 : a.Words.length ≤ 1000000) (h2 : a.Weights.length ≤ 1000000) : fschema_sameField a b = some (sameS a b) := by
  unfold fschema_sameField sameS
  rw [eqString h1,eqInt h2]
  cases ((((((a.Name == b.Name) && (a.Of == b.Of)) && (a.Up == b.Up)) && (a.Kind == b.Kind)) && (a.Lo == b.Lo)) && (a.Hi == b.Hi)) with
  | false => rfl
  | true =>
    simp only [Sim.opt,Bool.true_and,beq_self_eq_true,if_true,Option.bind_some]
    cases decide (a.Words = b.Words) <;> rfl
def partS (f : Sapi_Field) : Bool :=
  if f.Kind = 0 then inW f.Lo (-1048576) 1048576
  else if f.Kind = 1 then nameS f.Of && spanS f.Lo f.Hi 0 65536
  else if f.Kind = 2 then spanS f.Lo f.Hi (-1048576) 1048576
  else if f.Kind = 3 then pickS f.Words f.Weights
  else if f.Kind = 4 then ((f.Of == []) || nameS f.Of) && spanS f.Lo f.Hi (-1048576) 1048576
  else if f.Kind = 5 then nameS f.Of && spanS f.Lo f.Hi 0 32
  else if f.Kind = 6 then nameS f.Of
  else if f.Kind = 7 then (nameS f.Of && nameS f.Up) && spanS f.Lo f.Hi 0 1048576
  else if f.Kind = 8 then nameS f.Of && nameS f.Up
  else false
/-- A field is valid. -/
def fieldS (f : Sapi_Field) : Bool := (nameS f.Name && sameS f (onlyS f)) && partS f
theorem isField_is {f : Sapi_Field} (h1 : f.Words.length ≤ 1000000) (h2 : f.Weights.length ≤ 1000000) : fschema_isField f = some (fieldS f) := by
  unfold fschema_isField fieldS
  rw [isName_is,only_is]
  simp only [Option.bind_some]
  cases nameS f.Name with
  | false => rfl
  | true =>
    simp only [Sim.opt,Bool.not_true,beq_self_eq_true,if_true,Option.bind_some]
    rw [sameField_is h1 h2]
    simp only [Option.bind_some]
    cases sameS f (onlyS f) with
    | false => rfl
    | true =>
      simp only [isName_is,isPick_is h1 h2,Bool.true_and,Bool.not_true,Bool.or_self]
      rw [if_neg (by decide)]
      unfold partS
      by_cases c0 : f.Kind = 0
      · rw [if_pos (by simp [c0]),if_pos c0]; rfl
      rw [if_neg (by simpa using c0),if_neg c0]
      by_cases c1 : f.Kind = 1
      · rw [if_pos (by simp [c1]),if_pos c1]; cases nameS f.Of <;> rfl
      rw [if_neg (by simpa using c1),if_neg c1]
      by_cases c2 : f.Kind = 2
      · rw [if_pos (by simp [c2]),if_pos c2]; rfl
      rw [if_neg (by simpa using c2),if_neg c2]
      by_cases c3 : f.Kind = 3
      · rw [if_pos (by simp [c3]),if_pos c3]; rfl
      rw [if_neg (by simpa using c3),if_neg c3]
      by_cases c4 : f.Kind = 4
      · rw [if_pos (by simp [c4]),if_pos c4]; cases (f.Of == []) <;> cases nameS f.Of <;> rfl
      rw [if_neg (by simpa using c4),if_neg c4]
      by_cases c5 : f.Kind = 5
      · rw [if_pos (by simp [c5]),if_pos c5]; cases nameS f.Of <;> rfl
      rw [if_neg (by simpa using c5),if_neg c5]
      by_cases c6 : f.Kind = 6
      · rw [if_pos (by simp [c6]),if_pos c6]; rfl
      rw [if_neg (by simpa using c6),if_neg c6]
      by_cases c7 : f.Kind = 7
      · rw [if_pos (by simp [c7]),if_pos c7]; cases nameS f.Of <;> cases nameS f.Up <;> rfl
      rw [if_neg (by simpa using c7),if_neg c7]
      by_cases c8 : f.Kind = 8
      · rw [if_pos (by simp [c8]),if_pos c8]; cases nameS f.Of <;> rfl
      rw [if_neg (by simpa using c8),if_neg c8]

/-- A kind, a life, a rule is valid. -/
def kindS (k : Sapi_Kind) : Bool := ((nameS k.Name && spanS k.Lo k.Hi 0 65536) && decide ((k.Fields.length : Int) ≤ 10)) && k.Fields.all fieldS
def FieldsFew (l : List Sapi_Field) : Prop := l.length ≤ 1000000 ∧ ∀ f ∈ l,f.Words.length ≤ 1000000 ∧ f.Weights.length ≤ 1000000
theorem isKind_is {k : Sapi_Kind} (h : FieldsFew k.Fields) : fschema_isKind k = some (kindS k) := by
  unfold fschema_isKind kindS
  rw [isName_is,allField (p := fieldS) h.1 (fun f hf => isField_is (h.2 f hf).1 (h.2 f hf).2)]
  simp only [Option.bind_some]
  cases nameS k.Name with
  | false => rfl
  | true =>
    show (opt true (some (spanS k.Lo k.Hi 0 65536)) default).bind _ = _
    simp only [Sim.opt,Bool.true_and,if_true,Option.bind_some]
    cases spanS k.Lo k.Hi 0 65536 with
    | false => rfl
    | true =>
      cases hd : decide ((k.Fields.length : Int) ≤ 10) with
      | false => rfl
      | true => rfl
def moveS (n : Int) (m : A2_Int) : Bool := inW m.a0 0 (n - 1) && inW m.a1 0 (n - 1)
def lifeS (x : Sapi_Life) : Bool := (((nameS x.Name && inW (x.States.length : Int) 1 12) && x.States.all nameS) && decide ((x.Moves.length : Int) ≤ 32)) && x.Moves.all (moveS (x.States.length : Int))
theorem isLife_is {x : Sapi_Life} (h1 : x.States.length ≤ 1000000) (h2 : x.Moves.length ≤ 1000000) : fschema_isLife x = some (lifeS x) := by
  have hm : ∀ m ∈ x.Moves,fschema_isLifeq1 m (x.States.length : Int) = some (moveS (x.States.length : Int) m) := fun m _ => by
    unfold fschema_isLifeq1 moveS
    rw [w64 (by omega) (by omega)]
    show (some (inW m.a0 0 ((x.States.length : Int) - 1))).bind _ = _
    simp only [Option.bind_some]
    cases inW m.a0 0 ((x.States.length : Int) - 1) <;> rfl
  unfold fschema_isLife lifeS
  rw [isName_is,allstring (p := nameS) h1 (fun s _ => isName_is s),allTwoint (p := moveS (x.States.length : Int)) h2 hm]
  simp only [Option.bind_some]
  cases nameS x.Name with
  | false => rfl
  | true =>
    show (opt true (some (inW (x.States.length : Int) 1 12)) default).bind _ = _
    simp only [Sim.opt,Bool.true_and,if_true,Option.bind_some]
    cases inW (x.States.length : Int) 1 12 with
    | false => rfl
    | true =>
      simp only [Bool.true_and,beq_self_eq_true,if_true,Option.bind_some]
      cases x.States.all nameS with
      | false => rfl
      | true => cases decide ((x.Moves.length : Int) ≤ 32) <;> rfl
def ruleS (r : Sapi_Rule) : Bool := ((((nameS r.Name && nameS r.Kind) && ((r.A == []) || nameS r.A)) && ((r.B == []) || nameS r.B)) && (r.A ++ r.B != [])) && inW r.N (-1048576) 1048576
theorem nameS_len {s : Str} (h : nameS s = true) : s.length ≤ 12 := by
  unfold nameS at h
  simp only [Bool.and_eq_true] at h
  have := (inW_le h.1).2
  omega
theorem isRule_is (r : Sapi_Rule) : fschema_isRule r = some (ruleS r) := by
  have len : ∀ s : Str,((s == []) || nameS s) = true → s.length ≤ 12 := fun s h => by
    rcases Bool.or_eq_true _ _ |>.mp h with h | h
    · have : s = [] := by simpa using h
      subst this; simp
    · exact nameS_len h
  unfold fschema_isRule ruleS
  simp only [isName_is]
  simp only [Option.bind_some]
  cases nameS r.Name with
  | false => rfl
  | true =>
    simp only [Sim.opt,Bool.true_and,beq_self_eq_true,if_true,Option.bind_some]
    cases nameS r.Kind with
    | false => rfl
    | true =>
      simp only [Bool.true_and,beq_self_eq_true,Bool.true_and]
      have la := len r.A
      have lb := len r.B
      cases ha : (r.A == []) <;> cases hna : nameS r.A <;> cases hb : (r.B == []) <;> cases hnb : nameS r.B <;> first
        | rfl
        | (rw [ha,hna] at la; rw [hb,hnb] at lb
           have e : cat (r.A.length + r.B.length) = some () := if_pos (by have := la rfl; have := lb rfl; omega)
           simp only [e,Bool.false_or,Bool.or_false,Bool.true_or,Bool.or_true,Bool.and_true,Bool.true_and,Bool.and_self,beq_self_eq_true,if_true,Option.bind_some]
           cases (r.A ++ r.B != []) <;> rfl)

end Go.Proofs.YthdfmpocknmleaaGreatDoor

namespace Go.Proofs.YthdfmpocknmleaaGreatDoor
open Go.Sim

theorem digits_len : ∀ (k u : Nat),u < 10 ^ (k + 1) → (Lib.decDigits u).length ≤ k + 1
  | 0,u,h => by rw [Lib.decDigits,dif_pos (by simpa using h)]; simp
  | k + 1,u,h => by
    rw [Lib.decDigits]
    split
    · simp
    · have := digits_len k (u / 10) (by rw [Nat.pow_succ] at h; omega)
      rw [List.length_append,List.length_singleton]; omega
theorem itoa_len {n : Int} (h : I64 n) : (Lib.itoa n).length ≤ 20 := by
  unfold I64 at h
  unfold Lib.itoa
  split
  · have := digits_len 18 n.natAbs (by omega)
    rw [List.length_cons]; omega
  · have := digits_len 18 n.toNat (by omega)
    omega
theorem Itoa_is {n : Int} (h : I64 n) : fItoa n = some (Lib.itoa n) := if_pos h

/-- The text of a value. -/
def textS : AnyV → Str
  | .int n => Lib.itoa n
  | .str s => s
def VOk : AnyV → Prop
  | .int n => I64 n
  | .str s => s.length ≤ 100
theorem text_len {v : AnyV} (h : VOk v) : (textS v).length ≤ 100 := by
  cases v with
  | int n => have := itoa_len h; show (Lib.itoa n).length ≤ 100; omega
  | str s => exact h
/-- A blank and a value, for each. -/
def toks (l : List AnyV) : Str := l.flatMap fun v => 32 :: textS v
theorem toks_len {l : List AnyV} (h : ∀ v ∈ l,VOk v) : (toks l).length ≤ l.length * 101 := by
  induction l with
  | nil => simp [toks]
  | cons v l ih =>
    have h1 := ih fun u hu => h u (List.mem_cons_of_mem _ hu)
    have h2 := text_len (h v List.mem_cons_self)
    have e : toks (v :: l) = (32 :: textS v) ++ toks l := rfl
    rw [e,List.length_append,List.length_cons,List.length_cons]
    omega
def lineS (w : Str) (l : List AnyV) : Str := w ++ toks l ++ [10]
theorem write_is {a b : Str} (h : a.length + b.length ≤ 68719476736) : fBWriteString a b = some (a ++ b) := if_pos h
theorem line_is {w : Str} {l : List AnyV} (h1 : 1 ≤ w.length) (h2 : w.length ≤ 10) (hl : l.length ≤ 1000) (hv : ∀ v ∈ l,VOk v) : fschema_line w l = some (lineS w l) := by
  have key : Ok (fschema_line w l) (fun r => r = lineS w l) := by
    unfold fschema_line
    rw [write_is (by simp; omega)]
    simp only [Option.bind_some,List.nil_append]
    refine Ok.bind (P := fun r => r = w ++ toks l) (Ok.loop (fun m s => 0 ≤ s.1 ∧ s.1 + m = l.length ∧ s.2 = w ++ toks (l.take s.1.toNat)) l.length ⟨Int.le_refl _,by dsimp only; omega,by simp [toks]⟩ fun m s hs => ?_) fun r hr => ?_
    · obtain ⟨i,t⟩ := s
      obtain ⟨e1,e2,e3⟩ := hs
      dsimp only at e1 e2 e3
      obtain ⟨k,rfl⟩ := Int.eq_ofNat_of_zero_le e1
      rw [Int.toNat_natCast] at e3
      subst e3
      refine Ok.ite (fun hk => ?_) (fun hk => ?_)
      · have hk' : k < l.length := by simpa using hk
        have hvk := hv _ (List.getElem_mem hk')
        have hlen := toks_len (l := l.take k) fun v hm => hv v (List.mem_of_mem_take hm)
        have htl := text_len hvk
        have hlk : (l.take k).length ≤ 1000 := by rw [List.length_take]; omega
        dsimp only
        rw [idx_lt hk']
        simp only [Option.bind_some]
        have eb : fBWriteByte (w ++ toks (l.take k)) 32 = some (w ++ toks (l.take k) ++ [32]) := if_pos ⟨by decide,by decide,by rw [List.length_append]; omega⟩
        rw [eb]
        simp only [Option.bind_some]
        refine Ok.bind (P := fun p => p = w ++ toks (l.take k) ++ [32] ++ textS l[k]) ?_ fun p hp => Ok.mk ⟨m - 1,by omega,?_⟩
        · cases hk2 : l[k] with
          | int n =>
            rw [hk2] at hvk htl
            show Ok (if true = true then _ else _) _
            rw [if_pos rfl]
            show Ok ((fItoa n).bind _) _
            rw [Itoa_is hvk]
            simp only [Option.bind_some]
            have hi := itoa_len hvk
            rw [write_is (by simp only [List.length_append,List.length_singleton]; omega)]
            exact Ok.mk rfl
          | str s =>
            rw [hk2] at hvk htl
            show Ok (if false = true then _ else ((if true = true then (fBWriteString (w ++ toks (l.take k) ++ [32]) s).bind _ else _)).bind _) _
            rw [if_neg (by decide),if_pos rfl]
            have hs : s.length ≤ 100 := hvk
            rw [write_is (by simp only [List.length_append,List.length_singleton]; omega)]
            exact Ok.mk rfl
        · subst hp
          dsimp only
          rw [w64_succ hk' (by omega)]
          refine ⟨by omega,by omega,?_⟩
          rw [Int.toNat_natCast,List.take_succ_eq_append_getElem hk']
          simp only [toks,List.flatMap_append,List.flatMap_cons,List.flatMap_nil,List.append_nil,List.append_assoc,List.cons_append,List.nil_append]
      · have hk' : ¬ k < l.length := by simpa using hk
        refine Ok.mk ?_
        dsimp only
        rw [List.take_of_length_le (by omega)]
    · subst hr
      have hlen := toks_len hv
      have eb : fBString (w ++ toks l) = some (w ++ toks l) := if_neg fun h => by
        have := congrArg List.length h
        rw [List.length_append,List.length_nil] at this; omega
      rw [eb]
      simp only [Option.bind_some]
      exact Ok.cat (by rw [List.length_append,List.length_singleton]; omega) (Ok.mk rfl)
  obtain ⟨r,hr,rfl⟩ := key
  exact hr
theorem line_len {w : Str} {l : List AnyV} (h2 : w.length ≤ 10) (hv : ∀ v ∈ l,VOk v) : (lineS w l).length ≤ 11 + l.length * 101 := by
  have := toks_len hv
  unfold lineS
  rw [List.length_append,List.length_append,List.length_singleton]; omega

/-- The token of a name that may be empty. -/
def namedS (s : Str) : Str := if s = [] then [45] else s
theorem named_is (s : Str) : fschema_named s = some (namedS s) := by
  unfold fschema_named fcmp_Or_string
  have key : ∀ body : Int → Option (Int ⊕ (Unit ⊕ Str)),(body 0 = if (s != []) = true then some (.inr (.inr s)) else some (.inl 1)) → body 1 = some (.inr (.inr [45])) →
      tailrec body 0 = some (.inr (namedS s)) := fun body h0 h1 => by
    rw [tailrec_eq,h0]
    unfold namedS
    by_cases hs : s = []
    · rw [if_neg (by simp [hs]),if_pos hs]
      show tailrec body 1 = _
      rw [tailrec_eq,h1]
    · rw [if_pos (by simpa using hs),if_neg hs]
  rw [key _ rfl rfl]; rfl

/-- What a line of a field says. -/
def itemsS (f : Sapi_Field) : List AnyV :=
  if f.Kind = 0 then [.str f.Name,.int f.Lo]
  else if f.Kind = 2 then [.str f.Name,.int f.Lo,.int f.Hi]
  else if f.Kind = 3 then [.str f.Name,.int (f.Words.length : Int)] ++ (f.Words.zip f.Weights).flatMap fun p => [.str p.1,.int p.2]
  else if f.Kind = 6 then [.str f.Name,.str f.Of]
  else if f.Kind = 7 then [.str f.Name,.str f.Up,.str f.Of,.int f.Lo,.int f.Hi]
  else if f.Kind = 8 then [.str f.Name,.str f.Up,.str f.Of]
  else [.str f.Name,.str (namedS f.Of),.int f.Lo,.int f.Hi]
def wordS (f : Sapi_Field) : Str := wordsL[f.Kind.toNat]?.getD []
/-- The line of a field. -/
def fieldLine (f : Sapi_Field) : Str := lineS (wordS f) (itemsS f)

end Go.Proofs.YthdfmpocknmleaaGreatDoor

namespace Go.Proofs.YthdfmpocknmleaaGreatDoor
open Go.Sim

theorem name_v {s : Str} (h : nameS s = true) : VOk (.str s) := by have := nameS_len h; show s.length ≤ 100; omega
theorem named_v {s : Str} (h : ((s == []) || nameS s) = true) : VOk (.str (namedS s)) := by
  unfold namedS
  by_cases hs : s = []
  · rw [if_pos hs]; show ([45] : Str).length ≤ 100; decide
  · rw [if_neg hs]
    have : nameS s = true := by simpa [hs] using h
    exact name_v this
theorem small_v {n : Int} (h : -100000000 ≤ n ∧ n ≤ 100000000) : VOk (.int n) := by show I64 n; unfold I64; omega
theorem zip_pairs {l : List Str} {g : List Int} (h : l.length = g.length) (k : Nat) (hk : k < l.length) : (((l.zip g).take k).flatMap fun p => [AnyV.str p.1,AnyV.int p.2]) ++ [AnyV.str l[k],AnyV.int (g[k]'(by omega))] = ((l.zip g).take (k + 1)).flatMap fun p => [AnyV.str p.1,AnyV.int p.2] := by
  rw [List.take_succ_eq_append_getElem (by rw [List.length_zip]; omega),List.flatMap_append,List.getElem_zip]
  rfl
theorem pairs_len (l : List (Str × Int)) : (l.flatMap fun p => [AnyV.str p.1,AnyV.int p.2]).length = 2 * l.length := by
  induction l with
  | nil => rfl
  | cons a l ih => rw [List.flatMap_cons,List.length_append,ih]; simp; omega
/-- What a valid field is. -/
structure FieldOk (f : Sapi_Field) : Prop where
  kind : 0 ≤ f.Kind ∧ f.Kind ≤ 8
  items : ∀ v ∈ itemsS f,VOk v
  count : (itemsS f).length ≤ 30
  pick : f.Kind = 3 → f.Words.length = f.Weights.length ∧ f.Words.length ≤ 12
theorem span_le {lo hi a b : Int} (h : spanS lo hi a b = true) : a ≤ lo ∧ lo ≤ hi ∧ hi ≤ b := by
  simp only [spanS,Bool.and_eq_true,decide_eq_true_eq] at h; omega
theorem fieldS_ok {f : Sapi_Field} (h : fieldS f = true) : FieldOk f := by
  unfold fieldS at h
  simp only [Bool.and_eq_true] at h
  obtain ⟨⟨hn,_⟩,hp⟩ := h
  have hnv := name_v hn
  unfold partS at hp
  by_cases c0 : f.Kind = 0
  · rw [if_pos c0] at hp
    have e : itemsS f = [.str f.Name,.int f.Lo] := by unfold itemsS; rw [if_pos c0]
    refine ⟨by omega,?_,by rw [e]; simp,fun h => by omega⟩
    have := inW_le hp
    rw [e]; simp only [List.mem_cons,List.not_mem_nil,or_false,forall_eq_or_imp,forall_eq]
    exact ⟨hnv,small_v (by omega)⟩
  rw [if_neg c0] at hp
  by_cases c1 : f.Kind = 1
  · rw [if_pos c1] at hp
    simp only [Bool.and_eq_true] at hp
    have e : itemsS f = [.str f.Name,.str (namedS f.Of),.int f.Lo,.int f.Hi] := by unfold itemsS; simp [c1]
    have := span_le hp.2
    refine ⟨by omega,?_,by rw [e]; simp,fun h => by omega⟩
    rw [e]; simp only [List.mem_cons,List.not_mem_nil,or_false,forall_eq_or_imp,forall_eq]
    exact ⟨hnv,named_v (by rw [hp.1]; simp),small_v (by omega),small_v (by omega)⟩
  rw [if_neg c1] at hp
  by_cases c2 : f.Kind = 2
  · rw [if_pos c2] at hp
    have e : itemsS f = [.str f.Name,.int f.Lo,.int f.Hi] := by unfold itemsS; simp [c2]
    have := span_le hp
    refine ⟨by omega,?_,by rw [e]; simp,fun h => by omega⟩
    rw [e]; simp only [List.mem_cons,List.not_mem_nil,or_false,forall_eq_or_imp,forall_eq]
    exact ⟨hnv,small_v (by omega),small_v (by omega)⟩
  rw [if_neg c2] at hp
  by_cases c3 : f.Kind = 3
  · rw [if_pos c3] at hp
    simp only [pickS,Bool.and_eq_true,List.all_eq_true,beq_iff_eq] at hp
    obtain ⟨hg,⟨⟨hw,hl⟩,_⟩,hws⟩ := hp
    have hw' := (inW_le hw).2
    have hl' : f.Words.length = f.Weights.length := by omega
    have e : itemsS f = [.str f.Name,.int (f.Words.length : Int)] ++ (f.Words.zip f.Weights).flatMap fun p => [.str p.1,.int p.2] := by unfold itemsS; simp [c3]
    refine ⟨by omega,?_,?_,fun _ => ⟨hl',by omega⟩⟩
    · rw [e]
      intro v hv
      rcases List.mem_append.1 hv with hv | hv
      · simp only [List.mem_cons,List.not_mem_nil,or_false] at hv
        rcases hv with rfl | rfl
        · exact hnv
        · exact small_v (by omega)
      · obtain ⟨p,hp,hv⟩ := List.mem_flatMap.1 hv
        obtain ⟨a,b⟩ := p
        have hz := List.of_mem_zip hp
        simp only [List.mem_cons,List.not_mem_nil,or_false] at hv
        rcases hv with rfl | rfl
        · exact name_v (hws _ hz.1)
        · have := inW_le (hg _ hz.2); exact small_v (by omega)
    · rw [e,List.length_append,pairs_len,List.length_zip]
      simp only [List.length_cons,List.length_nil]
      omega
  rw [if_neg c3] at hp
  by_cases c4 : f.Kind = 4
  · rw [if_pos c4] at hp
    simp only [Bool.and_eq_true] at hp
    have e : itemsS f = [.str f.Name,.str (namedS f.Of),.int f.Lo,.int f.Hi] := by unfold itemsS; simp [c4]
    have := span_le hp.2
    refine ⟨by omega,?_,by rw [e]; simp,fun h => by omega⟩
    rw [e]; simp only [List.mem_cons,List.not_mem_nil,or_false,forall_eq_or_imp,forall_eq]
    exact ⟨hnv,named_v hp.1,small_v (by omega),small_v (by omega)⟩
  rw [if_neg c4] at hp
  by_cases c5 : f.Kind = 5
  · rw [if_pos c5] at hp
    simp only [Bool.and_eq_true] at hp
    have e : itemsS f = [.str f.Name,.str (namedS f.Of),.int f.Lo,.int f.Hi] := by unfold itemsS; simp [c5]
    have := span_le hp.2
    refine ⟨by omega,?_,by rw [e]; simp,fun h => by omega⟩
    rw [e]; simp only [List.mem_cons,List.not_mem_nil,or_false,forall_eq_or_imp,forall_eq]
    exact ⟨hnv,named_v (by rw [hp.1]; simp),small_v (by omega),small_v (by omega)⟩
  rw [if_neg c5] at hp
  by_cases c6 : f.Kind = 6
  · rw [if_pos c6] at hp
    have e : itemsS f = [.str f.Name,.str f.Of] := by unfold itemsS; simp [c6]
    refine ⟨by omega,?_,by rw [e]; simp,fun h => by omega⟩
    rw [e]; simp only [List.mem_cons,List.not_mem_nil,or_false,forall_eq_or_imp,forall_eq]
    exact ⟨hnv,name_v hp⟩
  rw [if_neg c6] at hp
  by_cases c7 : f.Kind = 7
  · rw [if_pos c7] at hp
    simp only [Bool.and_eq_true] at hp
    have e : itemsS f = [.str f.Name,.str f.Up,.str f.Of,.int f.Lo,.int f.Hi] := by unfold itemsS; simp [c7]
    have := span_le hp.2
    refine ⟨by omega,?_,by rw [e]; simp,fun h => by omega⟩
    rw [e]; simp only [List.mem_cons,List.not_mem_nil,or_false,forall_eq_or_imp,forall_eq]
    exact ⟨hnv,name_v hp.1.2,name_v hp.1.1,small_v (by omega),small_v (by omega)⟩
  rw [if_neg c7] at hp
  by_cases c8 : f.Kind = 8
  · rw [if_pos c8] at hp
    simp only [Bool.and_eq_true] at hp
    have e : itemsS f = [.str f.Name,.str f.Up,.str f.Of] := by unfold itemsS; simp [c8]
    refine ⟨by omega,?_,by rw [e]; simp,fun h => by omega⟩
    rw [e]; simp only [List.mem_cons,List.not_mem_nil,or_false,forall_eq_or_imp,forall_eq]
    exact ⟨hnv,name_v hp.2,name_v hp.1⟩
  rw [if_neg c8] at hp
  cases hp
theorem wordS_len {f : Sapi_Field} (h : 0 ≤ f.Kind ∧ f.Kind ≤ 8) : idx wordsL f.Kind = some (wordS f) ∧ 1 ≤ (wordS f).length ∧ (wordS f).length ≤ 10 := by
  obtain ⟨k,hk⟩ := Int.eq_ofNat_of_zero_le h.1
  have hk8 : k ≤ 8 := by omega
  unfold wordS
  rw [hk,idx_nat,Int.toNat_natCast]
  have : k = 0 ∨ k = 1 ∨ k = 2 ∨ k = 3 ∨ k = 4 ∨ k = 5 ∨ k = 6 ∨ k = 7 ∨ k = 8 := by omega
  rcases this with rfl | rfl | rfl | rfl | rfl | rfl | rfl | rfl | rfl <;> exact ⟨rfl,by decide,by decide⟩
theorem field_is {f : Sapi_Field} (h : FieldOk f) : fschema_field f = some (fieldLine f) := by
  obtain ⟨e0,w1,w2⟩ := wordS_len h.kind
  have fin : fschema_line (wordS f) (itemsS f) = some (fieldLine f) := line_is w1 w2 (by have := h.count; omega) h.items
  unfold fschema_field
  rw [e0]
  simp only [Option.bind_some]
  by_cases c0 : f.Kind = 0
  · rw [if_pos (by simp [c0])]
    have e : itemsS f = [.str f.Name,.int f.Lo] := by unfold itemsS; simp [c0]
    rw [← e,fin]; rfl
  rw [if_neg (by simpa using c0)]
  by_cases c2 : f.Kind = 2
  · rw [if_pos (by simp [c2])]
    have e : itemsS f = [.str f.Name,.int f.Lo,.int f.Hi] := by unfold itemsS; simp [c2]
    rw [← e,fin]; rfl
  rw [if_neg (by simpa using c2)]
  by_cases c3 : f.Kind = 3
  · rw [if_pos (by simp [c3])]
    obtain ⟨p1,p2⟩ := h.pick c3
    have e : itemsS f = [.str f.Name,.int (f.Words.length : Int)] ++ (f.Words.zip f.Weights).flatMap fun p => [.str p.1,.int p.2] := by unfold itemsS; simp [c3]
    refine for_bind f.Words.length (fun n => ((n : Int),[.str f.Name,.int (f.Words.length : Int)] ++ ((f.Words.zip f.Weights).take n).flatMap fun p => [.str p.1,.int p.2])) _ (by simp) (fun n hn => ?_) (if_neg (by simp)) ?_
    · have hlen : (((f.Words.zip f.Weights).take n).flatMap fun p => [AnyV.str p.1,AnyV.int p.2]).length ≤ 100 := by
        rw [pairs_len,List.length_take,List.length_zip]; omega
      rw [if_pos (by simpa using hn)]
      dsimp only
      rw [idx_lt hn,idx_lt (by omega)]
      simp only [Option.bind_some]
      rw [rm_le (by simp only [List.length_append,List.length_cons,List.length_nil]; omega),w64_succ hn (by omega),← zip_pairs p1 n hn,List.append_assoc]
      rfl
    · dsimp only
      rw [List.take_of_length_le (by rw [List.length_zip]; omega),← e,fin]; rfl
  rw [if_neg (by simpa using c3)]
  by_cases c6 : f.Kind = 6
  · rw [if_pos (by simp [c6])]
    have e : itemsS f = [.str f.Name,.str f.Of] := by unfold itemsS; simp [c6]
    rw [← e,fin]; rfl
  rw [if_neg (by simpa using c6)]
  by_cases c7 : f.Kind = 7
  · rw [if_pos (by simp [c7])]
    have e : itemsS f = [.str f.Name,.str f.Up,.str f.Of,.int f.Lo,.int f.Hi] := by unfold itemsS; simp [c7]
    rw [← e,fin]; rfl
  rw [if_neg (by simpa using c7)]
  by_cases c8 : f.Kind = 8
  · rw [if_pos (by simp [c8])]
    have e : itemsS f = [.str f.Name,.str f.Up,.str f.Of] := by unfold itemsS; simp [c8]
    rw [← e,fin]; rfl
  rw [if_neg (by simpa using c8),named_is]
  simp only [Option.bind_some]
  have e : itemsS f = [.str f.Name,.str (namedS f.Of),.int f.Lo,.int f.Hi] := by unfold itemsS; simp [c0,c2,c3,c6,c7,c8]
  rw [← e,fin]; rfl
theorem fieldLine_len {f : Sapi_Field} (h : FieldOk f) : (fieldLine f).length ≤ 4000 := by
  have := line_len (wordS_len h.kind).2.2 h.items
  have := h.count
  unfold fieldLine
  omega

end Go.Proofs.YthdfmpocknmleaaGreatDoor

namespace Go.Proofs.YthdfmpocknmleaaGreatDoor
open Go.Sim

/-- A loop that appends. -/
theorem app_loop {α : Type} (l : List α) (g : α → Str) (B : Nat) (hB : ∀ a ∈ l,(g a).length ≤ B) (a0 : Str) {body : Int × Str → Option ((Int × Str) ⊕ Str)}
    (hs : ∀ k (h : k < l.length) acc,acc.length ≤ a0.length + k * B → body ((k : Int),acc) = some (.inl (((k + 1 : Nat) : Int),acc ++ g l[k]))) (he : ∀ acc,body ((l.length : Int),acc) = some (.inr acc)) :
    tailrec body ((0 : Int),a0) = some (a0 ++ l.flatMap g) := by
  have hlen : ∀ n,n ≤ l.length → ((l.take n).flatMap g).length ≤ n * B := fun n => by
    induction n with
    | zero => intro _; simp
    | succ n ih =>
      intro hn
      rw [List.take_succ_eq_append_getElem (by omega),List.flatMap_append,List.length_append,Nat.succ_mul]
      have h1 := ih (by omega)
      have h2 := hB _ (List.getElem_mem (show n < l.length by omega))
      simp only [List.flatMap_cons,List.flatMap_nil,List.append_nil]
      omega
  have h := tailrec_for (body := body) l.length (fun n => ((n : Int),a0 ++ (l.take n).flatMap g)) (a0 ++ l.flatMap g) (fun k hk => ?_) ?_
  · simpa using h
  · rw [hs k hk _ (by rw [List.length_append]; have := hlen k (by omega); omega),List.take_succ_eq_append_getElem hk,List.flatMap_append]
    simp
  · rw [he]; simp

def kindSrc (k : Sapi_Kind) : Str := lineS [107,105,110,100] [.str k.Name,.int k.Lo,.int k.Hi] ++ k.Fields.flatMap fieldLine
def moveSrc (m : A2_Int) : Str := lineS [109,111,118,101] [.int m.a0,.int m.a1]
def lifeSrc (l : Sapi_Life) : Str := lineS [108,105,102,101] ([.str l.Name,.int (l.States.length : Int)] ++ l.States.map .str) ++ l.Moves.flatMap moveSrc
def ruleItems (r : Sapi_Rule) : List AnyV := [.str r.Name,.str r.Kind,.str (namedS r.A),.str (namedS r.B),.int r.N]
def ruleSrc (r : Sapi_Rule) : Str := lineS [114,117,108,101] (ruleItems r)
/-- The source. -/
def srcS (x : Sapi_Schema) : Str := lineS [115,99,104,101,109,97] [.int x.Version] ++ x.Kinds.flatMap kindSrc ++ x.Lives.flatMap lifeSrc ++ x.Rules.flatMap ruleSrc

theorem kind_v {k : Sapi_Kind} (h : kindS k = true) : (∀ v ∈ [AnyV.str k.Name,.int k.Lo,.int k.Hi],VOk v) ∧ k.Fields.length ≤ 10 ∧ ∀ f ∈ k.Fields,fieldS f = true := by
  simp only [kindS,Bool.and_eq_true,List.all_eq_true,decide_eq_true_eq] at h
  obtain ⟨⟨⟨h1,h2⟩,h3⟩,h4⟩ := h
  have := span_le h2
  refine ⟨?_,by omega,h4⟩
  simp only [List.mem_cons,List.not_mem_nil,or_false,forall_eq_or_imp,forall_eq]
  exact ⟨name_v h1,small_v (by omega),small_v (by omega)⟩
theorem flat_len {α : Type} {l : List α} {g : α → Str} {B : Nat} (h : ∀ a ∈ l,(g a).length ≤ B) : (l.flatMap g).length ≤ l.length * B := by
  induction l with
  | nil => simp
  | cons a l ih =>
    have h1 := ih fun b hb => h b (List.mem_cons_of_mem _ hb)
    have h2 := h a List.mem_cons_self
    rw [List.flatMap_cons,List.length_append,List.length_cons,Nat.succ_mul]; omega
theorem kindSrc_len {k : Sapi_Kind} (h : kindS k = true) : (kindSrc k).length ≤ 50000 := by
  obtain ⟨h1,h2,h3⟩ := kind_v h
  have e1 := line_len (w := [107,105,110,100]) (by decide) h1
  have e2 := flat_len (l := k.Fields) (g := fieldLine) (B := 4000) fun f hf => fieldLine_len (fieldS_ok (h3 f hf))
  unfold kindSrc
  rw [List.length_append]
  simp only [List.length_cons,List.length_nil] at e1
  omega
theorem move_v {n : Int} (hn : n ≤ 1000) {m : A2_Int} (h : moveS n m = true) : ∀ v ∈ [AnyV.int m.a0,.int m.a1],VOk v := by
  simp only [moveS,Bool.and_eq_true] at h
  have h1 := inW_le h.1
  have h2 := inW_le h.2
  simp only [List.mem_cons,List.not_mem_nil,or_false,forall_eq_or_imp,forall_eq]
  exact ⟨small_v (by omega),small_v (by omega)⟩
theorem life_v {l : Sapi_Life} (h : lifeS l = true) : (∀ v ∈ [AnyV.str l.Name,.int (l.States.length : Int)] ++ l.States.map .str,VOk v) ∧ l.States.length ≤ 12 ∧ l.Moves.length ≤ 32 ∧ ∀ m ∈ l.Moves,∀ v ∈ [AnyV.int m.a0,.int m.a1],VOk v := by
  simp only [lifeS,Bool.and_eq_true,List.all_eq_true,decide_eq_true_eq] at h
  obtain ⟨⟨⟨⟨h1,h2⟩,h3⟩,h4⟩,h5⟩ := h
  have hl := (inW_le h2).2
  refine ⟨fun v hv => ?_,by omega,by omega,fun m hm => move_v (by omega) (h5 m hm)⟩
  rcases List.mem_append.1 hv with hv | hv
  · simp only [List.mem_cons,List.not_mem_nil,or_false] at hv
    rcases hv with rfl | rfl
    · exact name_v h1
    · exact small_v (by omega)
  · obtain ⟨s,hs,rfl⟩ := List.mem_map.1 hv
    exact name_v (h3 s hs)
theorem moveSrc_len {m : A2_Int} (h : ∀ v ∈ [AnyV.int m.a0,.int m.a1],VOk v) : (moveSrc m).length ≤ 300 := by
  have := line_len (w := [109,111,118,101]) (by decide) h
  simp only [List.length_cons,List.length_nil] at this
  unfold moveSrc; omega
theorem lifeSrc_len {l : Sapi_Life} (h : lifeS l = true) : (lifeSrc l).length ≤ 20000 := by
  obtain ⟨h1,h2,h3,h4⟩ := life_v h
  have e1 := line_len (w := [108,105,102,101]) (by decide) h1
  have e2 := flat_len (l := l.Moves) (g := moveSrc) (B := 300) fun m hm => moveSrc_len (h4 m hm)
  unfold lifeSrc
  rw [List.length_append]
  simp only [List.length_append,List.length_cons,List.length_nil,List.length_map] at e1
  omega
theorem rule_v {r : Sapi_Rule} (h : ruleS r = true) : ∀ v ∈ ruleItems r,VOk v := by
  simp only [ruleS,Bool.and_eq_true] at h
  obtain ⟨⟨⟨⟨⟨h1,h2⟩,h3⟩,h4⟩,_⟩,h5⟩ := h
  have := inW_le h5
  unfold ruleItems
  simp only [List.mem_cons,List.not_mem_nil,or_false,forall_eq_or_imp,forall_eq]
  exact ⟨name_v h1,name_v h2,named_v h3,named_v h4,small_v (by omega)⟩
theorem ruleSrc_len {r : Sapi_Rule} (h : ruleS r = true) : (ruleSrc r).length ≤ 1000 := by
  have := line_len (w := [114,117,108,101]) (by decide) (rule_v h)
  have e : (ruleItems r).length = 5 := rfl
  unfold ruleSrc; omega

/-- A schema is valid, apart from the length of its source. -/
def validS (x : Sapi_Schema) : Bool := ((((inW x.Version 0 1048576 && decide ((x.Kinds.length : Int) ≤ 6)) && decide ((x.Lives.length : Int) ≤ 6)) && decide ((x.Rules.length : Int) ≤ 16)) && x.Kinds.all kindS) && x.Lives.all lifeS && x.Rules.all ruleS
structure ValidOk (x : Sapi_Schema) : Prop where
  version : 0 ≤ x.Version ∧ x.Version ≤ 1048576
  kinds : x.Kinds.length ≤ 6
  lives : x.Lives.length ≤ 6
  rules : x.Rules.length ≤ 16
  kind : ∀ k ∈ x.Kinds,kindS k = true
  life : ∀ l ∈ x.Lives,lifeS l = true
  rule : ∀ r ∈ x.Rules,ruleS r = true
theorem validS_ok {x : Sapi_Schema} (h : validS x = true) : ValidOk x := by
  simp only [validS,Bool.and_eq_true,List.all_eq_true,decide_eq_true_eq] at h
  obtain ⟨⟨⟨⟨⟨⟨h1,h2⟩,h3⟩,h4⟩,h5⟩,h6⟩,h7⟩ := h
  exact ⟨inW_le h1,by omega,by omega,by omega,h5,h6,h7⟩

theorem source_is {x : Sapi_Schema} (h : ValidOk x) : fschema_source x = some (srcS x) := by
  have hv := h.version
  have v0 : ∀ v ∈ [AnyV.int x.Version],VOk v := by simp only [List.mem_cons,List.not_mem_nil,or_false,forall_eq]; exact small_v (by omega)
  have l0 := line_len (w := [115,99,104,101,109,97]) (by decide) v0
  simp only [List.length_cons,List.length_nil] at l0
  have lk := flat_len (l := x.Kinds) (g := kindSrc) (B := 50000) fun k hk => kindSrc_len (h.kind k hk)
  have ll := flat_len (l := x.Lives) (g := lifeSrc) (B := 20000) fun k hk => lifeSrc_len (h.life k hk)
  have nk := h.kinds
  have nl := h.lives
  have nr := h.rules
  unfold fschema_source
  rw [line_is (by decide) (by decide) (by simp) v0]
  simp only [Option.bind_some]
  rw [write_is (by rw [List.length_nil]; omega)]
  simp only [Option.bind_some,List.nil_append]
  rw [app_loop x.Kinds kindSrc 50000 (fun k hk => kindSrc_len (h.kind k hk)) (lineS [115,99,104,101,109,97] [.int x.Version]) (fun k hk acc hacc => ?_) (fun acc => if_neg (by simp))]
  · simp only [Option.bind_some]
    rw [app_loop x.Lives lifeSrc 20000 (fun k hk => lifeSrc_len (h.life k hk)) (lineS [115,99,104,101,109,97] [.int x.Version] ++ x.Kinds.flatMap kindSrc) (fun k hk acc hacc => ?_) (fun acc => if_neg (by simp))]
    · simp only [Option.bind_some]
      rw [app_loop x.Rules ruleSrc 1000 (fun k hk => ruleSrc_len (h.rule k hk)) (lineS [115,99,104,101,109,97] [.int x.Version] ++ x.Kinds.flatMap kindSrc ++ x.Lives.flatMap lifeSrc) (fun k hk acc hacc => ?_) (fun acc => if_neg (by simp))]
      · simp only [Option.bind_some]
        have e : fBString (srcS x) = some (srcS x) := if_neg fun h => by
          have := congrArg List.length h
          simp only [srcS,lineS,List.length_append,List.length_cons,List.length_nil] at this; omega
        show (fBString (srcS x)).bind _ = _
        rw [e]; rfl
      · have hr := h.rule _ (List.getElem_mem hk)
        have hrl := ruleSrc_len hr
        rw [if_pos (by simpa using hk)]
        dsimp only
        rw [idx_lt hk]
        simp only [Option.bind_some]
        rw [named_is,named_is]
        simp only [Option.bind_some]
        show (fschema_line [114,117,108,101] (ruleItems x.Rules[k])).bind _ = _
        rw [line_is (by decide) (by decide) (by simp [ruleItems]) (rule_v hr)]
        simp only [Option.bind_some]
        rw [List.length_append,List.length_append] at hacc
        rw [write_is (by show acc.length + (ruleSrc x.Rules[k]).length ≤ _; omega),w64_succ hk (by omega)]
        rfl
    · have hl := h.life _ (List.getElem_mem hk)
      obtain ⟨w1,w2,w3,w4⟩ := life_v hl
      have hll := lifeSrc_len hl
      rw [if_pos (by simpa using hk)]
      dsimp only
      rw [idx_lt hk]
      simp only [Option.bind_some]
      have hst : ∀ n,n ≤ x.Lives[k].States.length → ([AnyV.str x.Lives[k].Name,.int (x.Lives[k].States.length : Int)] ++ (x.Lives[k].States.take n).map AnyV.str).length ≤ 100 := fun n hn => by
        simp only [List.length_append,List.length_cons,List.length_nil,List.length_map,List.length_take]; omega
      refine for_bind x.Lives[k].States.length (fun n => ((n : Int),[AnyV.str x.Lives[k].Name,.int (x.Lives[k].States.length : Int)] ++ (x.Lives[k].States.take n).map AnyV.str)) _ (by simp) (fun n hn => ?_) (if_neg (by simp)) ?_
      · rw [if_pos (by simpa using hn)]
        dsimp only
        rw [idx_lt hn]
        simp only [Option.bind_some]
        rw [rm_le (by have := hst n (by omega); rw [List.length_singleton]; omega),w64_succ hn (by omega),List.take_succ_eq_append_getElem hn,List.map_append,← List.append_assoc]
        rfl
      · dsimp only
        rw [List.take_of_length_le (Nat.le_refl _),line_is (by decide) (by decide) (by have := hst _ (Nat.le_refl _); rw [List.take_of_length_le (Nat.le_refl _)] at this; omega) w1]
        simp only [Option.bind_some]
        have l1 := line_len (w := [108,105,102,101]) (by decide) w1
        simp only [List.length_append,List.length_cons,List.length_nil,List.length_map] at l1
        rw [List.length_append] at hacc
        rw [write_is (by omega)]
        simp only [Option.bind_some]
        rw [app_loop x.Lives[k].Moves moveSrc 300 (fun m hm => moveSrc_len (w4 m hm)) _ (fun q hq acc2 hacc2 => ?_) (fun acc => if_neg (by simp))]
        · simp only [Option.bind_some]
          rw [w64_succ hk (by omega)]
          simp [lifeSrc]
        · have hm := w4 _ (List.getElem_mem hq)
          have hml := moveSrc_len hm
          rw [if_pos (by simpa using hq)]
          dsimp only
          rw [idx_lt hq]
          simp only [Option.bind_some]
          rw [line_is (by decide) (by decide) (by simp) hm]
          simp only [Option.bind_some]
          rw [List.length_append] at hacc2
          rw [write_is (by show acc2.length + (moveSrc x.Lives[k].Moves[q]).length ≤ _; omega),w64_succ hq (by omega)]
          rfl
  · have hk' := h.kind _ (List.getElem_mem hk)
    obtain ⟨w1,w2,w3⟩ := kind_v hk'
    have l1 := line_len (w := [107,105,110,100]) (by decide) w1
    simp only [List.length_cons,List.length_nil] at l1
    rw [if_pos (by simpa using hk)]
    dsimp only
    rw [idx_lt hk]
    simp only [Option.bind_some]
    rw [line_is (by decide) (by decide) (by simp) w1]
    simp only [Option.bind_some]
    rw [write_is (by omega)]
    simp only [Option.bind_some]
    rw [app_loop x.Kinds[k].Fields fieldLine 4000 (fun f hf => fieldLine_len (fieldS_ok (w3 f hf))) _ (fun q hq acc2 hacc2 => ?_) (fun acc => if_neg (by simp))]
    · simp only [Option.bind_some]
      rw [w64_succ hk (by omega)]
      simp [kindSrc]
    · have hf := fieldS_ok (w3 _ (List.getElem_mem hq))
      have hfl := fieldLine_len hf
      rw [if_pos (by simpa using hq)]
      dsimp only
      rw [idx_lt hq]
      simp only [Option.bind_some]
      rw [field_is hf]
      simp only [Option.bind_some]
      rw [List.length_append] at hacc2
      rw [write_is (by omega),w64_succ hq (by omega)]
      rfl

/-- What Valid returns. -/
def validE (x : Sapi_Schema) : Int := if validS x = true then (if (srcS x).length > 8192 then 4 else 0) else 1
/-- A schema whose lists are not huge. -/
def Fine (x : Sapi_Schema) : Prop := (x.Kinds.length ≤ 1000000 ∧ ∀ k ∈ x.Kinds,FieldsFew k.Fields) ∧ (x.Lives.length ≤ 1000000 ∧ ∀ l ∈ x.Lives,l.States.length ≤ 1000000 ∧ l.Moves.length ≤ 1000000) ∧ x.Rules.length ≤ 1000000
theorem Sz.fine {x : Sapi_Schema} (h : Sz x) : Fine x := by
  obtain ⟨⟨a1,a2⟩,⟨b1,b2⟩,c,_⟩ := h
  refine ⟨⟨by omega,fun k hk => ⟨by have := (a2 k hk).1; omega,fun f hf => ?_⟩⟩,⟨by omega,fun l hl => ?_⟩,by omega⟩
  · have := (a2 k hk).2.1 f hf
    exact ⟨by have := this.1; omega,by have := this.2.1; omega⟩
  · have := b2 l hl
    exact ⟨by omega,by omega⟩
theorem Valid_is {x : Sapi_Schema} (h : Fine x) : fschema_Valid x = some (validE x) := by
  obtain ⟨⟨a1,a2⟩,⟨b1,b2⟩,c⟩ := h
  unfold fschema_Valid
  rw [allKind (p := kindS) a1 (fun k hk => isKind_is (a2 k hk)),allLife (p := lifeS) b1 (fun l hl => isLife_is (b2 l hl).1 (b2 l hl).2),allRule (p := ruleS) c (fun r _ => isRule_is r)]
  show (some (inW x.Version 0 1048576)).bind _ = _
  simp only [Option.bind_some]
  have n1 : ∀ (n : Nat) (m : Int),decide ((n : Int) > m) = !decide ((n : Int) ≤ m) := fun n m => by
    by_cases h : (n : Int) ≤ m
    · rw [decide_eq_true h,decide_eq_false (by omega)]; rfl
    · rw [decide_eq_false h,decide_eq_true (by omega)]; rfl
  rw [n1,n1,n1]
  unfold validE
  cases hv : validS x with
  | true =>
    have hs := source_is (validS_ok hv)
    simp only [validS,Bool.and_eq_true] at hv
    obtain ⟨⟨⟨⟨⟨⟨h1,h2⟩,h3⟩,h4⟩,h5⟩,h6⟩,h7⟩ := hv
    simp only [h1,h2,h3,h4,h5,h6,h7,Sim.opt,Bool.not_true,Bool.or_self,beq_self_eq_true,if_true,Option.bind_some]
    rw [if_neg (by decide),hs]
    simp only [Option.bind_some]
    by_cases hl : (srcS x).length > 8192
    · rw [if_pos (by simp; omega),if_pos hl]
    · rw [if_neg (by simp; omega),if_neg hl]
  | false =>
    rw [if_neg (by decide)]
    unfold validS at hv
    cases h1 : inW x.Version 0 1048576 <;> cases h2 : decide ((x.Kinds.length : Int) ≤ 6) <;> cases h3 : decide ((x.Lives.length : Int) ≤ 6) <;> cases h4 : decide ((x.Rules.length : Int) ≤ 16) <;>
      cases h5 : x.Kinds.all kindS <;> cases h6 : x.Lives.all lifeS <;> cases h7 : x.Rules.all ruleS <;> first | rfl | (rw [h1,h2,h3,h4,h5,h6,h7] at hv; cases hv)

end Go.Proofs.YthdfmpocknmleaaGreatDoor

namespace Go.Proofs.YthdfmpocknmleaaGreatDoor
open Go.Sim

def firstS : List Styping_fault → Int
  | [] => 0
  | f :: r => if f.is = true then f.code else firstS r
theorem first_is {l : List Styping_fault} (hl : l.length ≤ 1000) : ftyping_first l = some (firstS l) := by
  have key : Ok (ftyping_first l) (fun r => r = firstS l) := by
    unfold ftyping_first
    refine Ok.bind (P := fun e : Unit ⊕ Int => (match e with | .inl _ => 0 | .inr r => r) = firstS l) (Ok.loop (fun m s => 0 ≤ s ∧ s + m = l.length ∧ firstS (l.drop s.toNat) = firstS l) l.length ⟨Int.le_refl _,by omega,by simp⟩ fun m s hs => ?_) fun e he => by cases e <;> exact Ok.mk he
    obtain ⟨h1,h2,h3⟩ := hs
    obtain ⟨k,rfl⟩ := Int.eq_ofNat_of_zero_le h1
    rw [Int.toNat_natCast] at h3
    refine Ok.ite (fun hk => ?_) (fun hk => ?_)
    · have hk' : k < l.length := by simpa using hk
      rw [idx_lt hk']
      simp only [Option.bind_some]
      rw [List.drop_eq_getElem_cons hk',firstS] at h3
      refine Ok.ite (fun hi => Ok.mk ?_) (fun hi => Ok.mk ⟨m - 1,by omega,?_⟩)
      · rw [if_pos hi] at h3; exact h3
      · rw [if_neg (by rw [hi]; decide)] at h3
        rw [w64_succ hk' (by omega)]
        exact ⟨by omega,by omega,by rw [Int.toNat_natCast]; exact h3⟩
    · have hk' : ¬ k < l.length := by simpa using hk
      rw [List.drop_of_length_le (by omega)] at h3
      exact Ok.mk h3
  obtain ⟨r,hr,rfl⟩ := key
  exact hr

/-- The field above to which Of leads. -/
def topS (x : Sapi_Schema) (k j : Int) (f : Sapi_Field) : Sapi_Field × Bool :=
  if upIx x k j < 0 then (zeroField,false)
  else match idx x.Kinds (upIx x k j) with
    | none => (zeroField,false)
    | some q => match field? x (upIx x k j) (fieldIx q f.Of) with | some g => (g,true) | none => (zeroField,false)
def rightS (g : Sapi_Field) : Bool := ((((g.Kind == 2) || (g.Kind == 3)) || (g.Kind == 4)) || (g.Kind == 5)) || (g.Kind == 8)
/-- The error of a field whose name is not there twice. -/
def leadE (x : Sapi_Schema) (q : Sapi_Kind) (k j : Int) (f : Sapi_Field) : Int :=
  if f.Kind = 0 then firstS [⟨decide (j > 0),13⟩]
  else if f.Kind = 1 then firstS [⟨decide (upIx x k j < 0),12⟩]
  else if f.Kind = 4 then firstS [⟨(f.Of != []) && (((decide (fieldIx q f.Of < 0)) || (decide (fieldIx q f.Of ≥ j))) || ((match field? x k (fieldIx q f.Of) with | some g => (g,true) | none => (zeroField,false)).1.Kind != 4)),12⟩]
  else if f.Kind = 5 then firstS [⟨!(x.Lives.any fun l => l.Name == f.Of),12⟩]
  else if f.Kind = 6 then firstS [⟨decide ((sumIx x k f).1 < 0),12⟩,⟨((sumIx x k f).2.length : Int) != 1,11⟩]
  else if f.Kind = 7 then firstS [⟨decide (upIx x k j < 0),12⟩,⟨((!(topS x k j f).2) || ((topS x k j f).1.Kind != 6)) || (kindIx x (topS x k j f).1.Of != k),13⟩]
  else if f.Kind = 8 then firstS [⟨decide (upIx x k j < 0),12⟩,⟨(!(topS x k j f).2) || (!rightS (topS x k j f).1),13⟩]
  else 0
theorem upIx_lt (x : Sapi_Schema) (k j : Int) (hk : 0 ≤ k) : upIx x k j < k ∧ -1 ≤ upIx x k j := by
  have hr : ∀ g,refIx x k g < k ∧ -1 ≤ refIx x k g := fun g => by
    have := kindIx_lt x g.Of
    unfold refIx; split <;> omega
  unfold upIx
  cases field? x k j with
  | none => exact ⟨by dsimp only; omega,by dsimp only; omega⟩
  | some f =>
    dsimp only
    split
    · split
      · omega
      · split
        · split
          · split
            · exact hr _
            · omega
          · omega
        · omega
    · split
      · exact hr _
      · omega
theorem top_is {x : Sapi_Schema} {k j : Int} {f : Sapi_Field} (hx : Few x) (hk : 0 ≤ k) (hkl : k < x.Kinds.length) : ftyping_spot_top ⟨x,k,j,f⟩ = some (topS x k j f) := by
  unfold ftyping_spot_top topS
  rw [typing_Up_is hx]
  simp only [Option.bind_some]
  by_cases hu : upIx x k j < 0
  · rw [if_pos (by simpa using hu),if_pos hu]; rfl
  · rw [if_neg (by simpa using hu),if_neg hu]
    have h1 := upIx_lt x k j hk
    obtain ⟨q,hq,hqm⟩ := idx_some (l := x.Kinds) (i := upIx x k j) (by omega) (by omega)
    rw [hq]
    simp only [Option.bind_some]
    rw [typing_Field_is (by have := hx.2 q hqm; omega)]
    simp only [Option.bind_some]
    rw [at_is]
    cases field? x (upIx x k j) (fieldIx q f.Of) <;> rfl
theorem lost_is {x : Sapi_Schema} {k j : Int} {f : Sapi_Field} (hx : Few x) : ftyping_spot_lost ⟨x,k,j,f⟩ = some (decide (upIx x k j < 0)) := by
  unfold ftyping_spot_lost
  rw [typing_Up_is hx]; rfl
theorem chk_some {x : Sapi_Schema} {k j : Int} {q : Sapi_Kind} {f : Sapi_Field} (hx : Few x) (hl : x.Lives.length ≤ 1000) (hq : idx x.Kinds k = some q) (hf : field? x k j = some f) (h : (fChecks f.Kind).isSome = true) : callO (SX_check.mk (fChecks f.Kind)).check ⟨x,k,j,f⟩ = some (leadE x q k j f) := by
  obtain ⟨q',hk,hj,hq',hqf,hqm,hkl,hjl⟩ := field_some hf
  rw [hq] at hq'; cases hq'
  have one : ∀ a,ftyping_first [a] = some (firstS [a]) := fun a => first_is (by simp)
  have two : ∀ a b,ftyping_first [a,b] = some (firstS [a,b]) := fun a b => first_is (by simp)
  unfold leadE
  dsimp only
  by_cases c0 : f.Kind = 0
  · rw [if_pos c0,c0]
    show ftyping_checksq1 _ = _
    unfold ftyping_checksq1; rw [one]; rfl
  rw [if_neg c0]
  by_cases c1 : f.Kind = 1
  · rw [if_pos c1,c1]
    show ftyping_checksq2 _ = _
    unfold ftyping_checksq2; rw [lost_is hx]; simp only [Option.bind_some]; rw [one]; rfl
  rw [if_neg c1]
  by_cases c4 : f.Kind = 4
  · rw [if_pos c4,c4]
    show ftyping_checksq3 _ = _
    unfold ftyping_checksq3
    dsimp only
    rw [hq]
    simp only [Option.bind_some]
    rw [typing_Field_is (by have := hx.2 q hqm; omega)]
    simp only [Option.bind_some]
    rw [at_is]
    simp only [Option.bind_some]
    rw [one]; rfl
  rw [if_neg c4]
  by_cases c5 : f.Kind = 5
  · rw [if_pos c5,c5]
    show ftyping_checksq4 _ = _
    unfold ftyping_checksq4
    dsimp only
    rw [containsLife (s := x.Lives) (f := fun x0 => ftyping_checksq4q1 x0 ⟨x,k,j,f⟩) (p := fun l => l.Name == f.Of) (by omega) (fun l _ => rfl)]
    simp only [Option.bind_some]
    rw [one]; rfl
  rw [if_neg c5]
  by_cases c6 : f.Kind = 6
  · rw [if_pos c6]
    show callO (fChecks f.Kind) _ = _
    rw [c6]
    show ftyping_checksq5 _ = _
    unfold ftyping_checksq5
    dsimp only
    rw [shares_is hx hk]
    simp only [Option.bind_some]
    rw [two]; rfl
  rw [if_neg c6]
  by_cases c7 : f.Kind = 7
  · rw [if_pos c7]
    show callO (fChecks f.Kind) _ = _
    rw [c7]
    show ftyping_checksq6 _ = _
    unfold ftyping_checksq6
    rw [top_is hx hk hkl,lost_is hx]
    simp only [Option.bind_some]
    rw [typing_Kind_is (by have := hx.1; omega)]
    cases hc : ((!(topS x k j f).2) || ((topS x k j f).1.Kind != 6)) with
    | true =>
      simp only [Sim.opt,Bool.true_or]
      show (ftyping_first _).bind _ = _
      rw [two]; rfl
    | false =>
      simp only [Sim.opt,beq_self_eq_true,if_true,Option.bind_some]
      rw [two]; rfl
  rw [if_neg c7]
  by_cases c8 : f.Kind = 8
  · rw [if_pos c8]
    show callO (fChecks f.Kind) _ = _
    rw [c8]
    show ftyping_checksq7 _ = _
    unfold ftyping_checksq7
    rw [top_is hx hk hkl,lost_is hx]
    simp only [Option.bind_some]
    rw [two]; rfl
  rw [fChecks,if_neg c0,if_neg c1,if_neg c4,if_neg c5,if_neg c6,if_neg c7,if_neg c8] at h
  cases h
theorem chk_none {x : Sapi_Schema} {k j : Int} {q : Sapi_Kind} {f : Sapi_Field} (h : (fChecks f.Kind).isSome = false) : leadE x q k j f = 0 := by
  unfold leadE
  by_cases c0 : f.Kind = 0
  · rw [c0] at h; cases h
  by_cases c1 : f.Kind = 1
  · rw [c1] at h; cases h
  by_cases c4 : f.Kind = 4
  · rw [c4] at h; cases h
  by_cases c5 : f.Kind = 5
  · rw [c5] at h; cases h
  by_cases c6 : f.Kind = 6
  · rw [c6] at h; cases h
  by_cases c7 : f.Kind = 7
  · rw [c7] at h; cases h
  by_cases c8 : f.Kind = 8
  · rw [c8] at h; cases h
  rw [if_neg c0,if_neg c1,if_neg c4,if_neg c5,if_neg c6,if_neg c7,if_neg c8]

/-- The error of a kind. -/
def kindE (x : Sapi_Schema) (i : Int) (q : Sapi_Kind) : Int := firstS [⟨decide (kindIx x q.Name < i),7⟩,⟨((q.Fields.length : Int) == 0) || ((q.Fields.headD zeroField).Kind != 0),11⟩]
theorem kind_is {x : Sapi_Schema} {i : Int} {q : Sapi_Kind} (hx : Few x) (hq : idx x.Kinds i = some q) : ftyping_kind x i = some (kindE x i q) := by
  unfold ftyping_kind kindE
  rw [hq]
  simp only [Option.bind_some]
  rw [typing_Kind_is (by have := hx.1; omega)]
  simp only [Option.bind_some]
  cases hf : q.Fields with
  | nil =>
    show (ftyping_first _).bind _ = _
    rw [first_is (by simp)]; rfl
  | cons f fs =>
    have e : (((f :: fs).length : Int) == 0) = false := by simp; omega
    rw [e]
    simp only [Sim.opt,beq_self_eq_true,if_true]
    rw [show idx (f :: fs) (0:Int) = some f from rfl]
    simp only [Option.bind_some]
    rw [first_is (by simp)]; rfl

/-- The error of a rule. -/
def ruleAt (x : Sapi_Schema) (k : Int) (n : Str) : Sapi_Field × Bool := match idx x.Kinds k with | none => (zeroField,false) | some q => match field? x k (fieldIx q n) with | some g => (g,true) | none => (zeroField,false)
def missS (x : Sapi_Schema) (k : Int) (n : Str) : Bool := !((n == []) || decide (k < 0)) && !(ruleAt x k n).2
def wrongS (x : Sapi_Schema) (k : Int) (n : Str) : Bool := !((n == []) || decide (k < 0)) && (((ruleAt x k n).1.Kind != 2) && ((ruleAt x k n).1.Kind != 4))
def ruleE (x : Sapi_Schema) (i : Nat) (r : Sapi_Rule) : Int :=
  firstS [⟨(x.Rules.take i).any fun s => s.Name == r.Name,7⟩,⟨(decide (kindIx x r.Kind < 0) || missS x (kindIx x r.Kind) r.A) || missS x (kindIx x r.Kind) r.B,12⟩,⟨wrongS x (kindIx x r.Kind) r.A || wrongS x (kindIx x r.Kind) r.B,13⟩,⟨r.A == r.B,1⟩]
theorem rule_step {β : Type} {x : Sapi_Schema} {k : Int} {n : Str} {a b : Bool} (hx : Few x) (hk : k < x.Kinds.length) (g : Bool × Bool → β) :
    (if ((n == ([] : Str)) || (decide (k < 0))) = true then some (g (a,b)) else (idx x.Kinds k).bind fun t53 => (ftyping_Field t53 n).bind fun t56 => (ftyping_at x k t56).bind fun t57 => some (g ((a || (!t57.2)),(b || ((t57.1.Kind != 2) && (t57.1.Kind != 4)))))) = some (g (a || missS x k n,b || wrongS x k n)) := by
  unfold missS wrongS
  cases hc : ((n == ([] : Str)) || (decide (k < 0))) with
  | true => rw [if_pos rfl]; simp
  | false =>
    rw [if_neg (by decide)]
    simp only [Bool.or_eq_false_iff,decide_eq_false_iff_not] at hc
    obtain ⟨q,hq,hqm⟩ := idx_some (l := x.Kinds) (i := k) (by omega) hk
    unfold ruleAt
    rw [hq]
    simp only [Option.bind_some]
    rw [typing_Field_is (by have := hx.2 q hqm; omega)]
    simp only [Option.bind_some]
    rw [at_is]
    cases field? x k (fieldIx q n) <;> simp

end Go.Proofs.YthdfmpocknmleaaGreatDoor

namespace Go.Proofs.YthdfmpocknmleaaGreatDoor
open Go.Sim

theorem rule_is {x : Sapi_Schema} {i : Nat} {r : Sapi_Rule} (hx : Few x) (hl : x.Rules.length ≤ 1000) (hi : i < x.Rules.length) (hr : x.Rules[i]? = some r) : ftyping_rule x (i : Int) = some (ruleE x i r) := by
  unfold ftyping_rule
  rw [idx_nat,hr]
  simp only [Option.bind_some]
  have hs : Sim.sub x.Rules 0 (i : Int) = some (x.Rules.take i) := by
    unfold Sim.sub
    rw [if_pos ⟨by decide,by omega,by omega⟩]; simp
  rw [hs]
  simp only [Option.bind_some]
  rw [containsRule (f := fun x0 => ftyping_ruleq1 x0 r) (p := fun s => s.Name == r.Name) (by rw [List.length_take]; omega) (fun s _ => rfl)]
  simp only [Option.bind_some]
  rw [typing_Kind_is (by have := hx.1; omega)]
  simp only [Option.bind_some]
  have hk := (kindIx_lt x r.Kind).2
  let st : Nat → Int × Bool × Bool := fun n => match n with
    | 0 => (0,decide (kindIx x r.Kind < 0),false)
    | 1 => (1,decide (kindIx x r.Kind < 0) || missS x (kindIx x r.Kind) r.A,false || wrongS x (kindIx x r.Kind) r.A)
    | _ => (2,(decide (kindIx x r.Kind < 0) || missS x (kindIx x r.Kind) r.A) || missS x (kindIx x r.Kind) r.B,(false || wrongS x (kindIx x r.Kind) r.A) || wrongS x (kindIx x r.Kind) r.B)
  refine for_bind 2 st ((st 2).2.1,(st 2).2.2) rfl (fun n hn => ?_) rfl ?_
  · have : n = 0 ∨ n = 1 := by omega
    rcases this with rfl | rfl
    · have h := rule_step (x := x) (k := kindIx x r.Kind) (n := r.A) (a := decide (kindIx x r.Kind < 0)) (b := false) hx hk id
      show (Option.bind (if _ then _ else _) _ : Option _) = _
      exact (congrArg (fun o => Option.bind o (fun p55 : Bool × Bool => some (Sum.inl ((IntKind.i64.wrap ((0:Int) + (1:Int))),p55.1,p55.2)))) h : _)
    · have h := rule_step (x := x) (k := kindIx x r.Kind) (n := r.B) (a := decide (kindIx x r.Kind < 0) || missS x (kindIx x r.Kind) r.A) (b := false || wrongS x (kindIx x r.Kind) r.A) hx hk id
      show (Option.bind (if _ then _ else _) _ : Option _) = _
      exact (congrArg (fun o => Option.bind o (fun p55 : Bool × Bool => some (Sum.inl ((IntKind.i64.wrap ((1:Int) + (1:Int))),p55.1,p55.2)))) h : _)
  · dsimp only
    rw [first_is (by simp)]
    simp [st,ruleE]

/-- A loop that collects. -/
theorem col_loop {β : Type} (n : Nat) (g : Nat → List β) (B : Nat) (hB : ∀ k,k < n → (g k).length ≤ B) (a0 : List β) {body : Int × List β → Option ((Int × List β) ⊕ List β)}
    (hs : ∀ k,k < n → ∀ acc : List β,acc.length ≤ a0.length + k * B → body ((k : Int),acc) = some (.inl (((k + 1 : Nat) : Int),acc ++ g k))) (he : ∀ acc,body ((n : Int),acc) = some (.inr acc)) :
    tailrec body ((0 : Int),a0) = some (a0 ++ (List.range n).flatMap g) := by
  have hlen : ∀ m,m ≤ n → ((List.range m).flatMap g).length ≤ m * B := fun m => by
    induction m with
    | zero => intro _; simp
    | succ m ih =>
      intro hm
      rw [List.range_succ,List.flatMap_append,List.length_append,Nat.succ_mul]
      have h1 := ih (by omega)
      have h2 := hB m (by omega)
      simp only [List.flatMap_cons,List.flatMap_nil,List.append_nil]
      omega
  have h := tailrec_for (body := body) n (fun m => ((m : Int),a0 ++ (List.range m).flatMap g)) (a0 ++ (List.range n).flatMap g) (fun k hk => ?_) ?_
  · simpa using h
  · rw [hs k hk _ (by rw [List.length_append]; have := hlen k (by omega); omega),List.range_succ,List.flatMap_append]
    simp
  · rw [he]

def prob (k j r e : Int) : List Styping_Problem := if e = 0 then [] else [⟨k,j,r,e⟩]
theorem prob_len (k j r e : Int) : (prob k j r e).length ≤ 1 := by unfold prob; split <;> simp
theorem add_is {k j r e : Int} {l : List Styping_Problem} (h : l.length ≤ 1000000000) : ftyping_Checkq1 k j r e l = some (l ++ prob k j r e) := by
  unfold ftyping_Checkq1 prob
  by_cases he : e = 0
  · rw [if_neg (by simp [he]),if_pos he,List.append_nil]; rfl
  · rw [if_pos (by simpa using he),if_neg he,rm_le (by rw [List.length_singleton]; omega)]; rfl
def lifeE (x : Sapi_Schema) (i : Nat) (l : Sapi_Life) : Int := firstS [⟨(x.Lives.take i).any fun m => m.Name == l.Name,7⟩]
def fieldE (x : Sapi_Schema) (q : Sapi_Kind) (k j : Int) (f : Sapi_Field) : Int := if fieldIx q f.Name < j then 7 else leadE x q k j f
def lifeP (x : Sapi_Schema) (i : Nat) : List Styping_Problem := match x.Lives[i]? with | some l => prob (-1) (i : Int) (-1) (lifeE x i l) | none => []
def fieldP (x : Sapi_Schema) (i : Nat) (q : Sapi_Kind) (j : Nat) : List Styping_Problem := match q.Fields[j]? with | some f => prob (i : Int) (j : Int) (-1) (fieldE x q (i : Int) (j : Int) f) | none => []
def fieldsP (x : Sapi_Schema) (i : Nat) (q : Sapi_Kind) : List Styping_Problem := (List.range q.Fields.length).flatMap (fieldP x i q)
def kindP (x : Sapi_Schema) (i : Nat) : List Styping_Problem := match x.Kinds[i]? with | some q => prob (i : Int) (-1) (-1) (kindE x (i : Int) q) ++ fieldsP x i q | none => []
def ruleP (x : Sapi_Schema) (i : Nat) : List Styping_Problem := match x.Rules[i]? with | some r => prob (-1) (-1) (i : Int) (ruleE x i r) | none => []
def livesP (x : Sapi_Schema) : List Styping_Problem := (List.range x.Lives.length).flatMap (lifeP x)
def kindsP (x : Sapi_Schema) : List Styping_Problem := (List.range x.Kinds.length).flatMap (kindP x)
def rulesP (x : Sapi_Schema) : List Styping_Problem := (List.range x.Rules.length).flatMap (ruleP x)
theorem lifeP_len (x : Sapi_Schema) (i : Nat) : (lifeP x i).length ≤ 1 := by unfold lifeP; cases x.Lives[i]? with | none => simp | some f => exact prob_len _ _ _ _
theorem fieldP_len (x : Sapi_Schema) (i : Nat) (q : Sapi_Kind) (j : Nat) : (fieldP x i q j).length ≤ 1 := by unfold fieldP; cases q.Fields[j]? with | none => simp | some f => exact prob_len _ _ _ _
theorem ruleP_len (x : Sapi_Schema) (i : Nat) : (ruleP x i).length ≤ 1 := by unfold ruleP; cases x.Rules[i]? with | none => simp | some f => exact prob_len _ _ _ _
/-- All problems. -/
def checkS (x : Sapi_Schema) : List Styping_Problem := if validE x = 0 then livesP x ++ kindsP x ++ rulesP x else [⟨-1,-1,-1,validE x⟩]
theorem range_len {β : Type} (n : Nat) (g : Nat → List β) (B : Nat) (hB : ∀ k,k < n → (g k).length ≤ B) : ((List.range n).flatMap g).length ≤ n * B := by
  induction n with
  | zero => simp
  | succ n ih =>
    rw [List.range_succ,List.flatMap_append,List.length_append,Nat.succ_mul]
    have h1 := ih fun k hk => hB k (by omega)
    have h2 := hB n (by omega)
    simp only [List.flatMap_cons,List.flatMap_nil,List.append_nil]
    omega
/-- What Check needs of a schema: its lists are short. -/
structure Short (x : Sapi_Schema) : Prop where
  few : Few x
  fine : Fine x
  lives : x.Lives.length ≤ 1000
  rules : x.Rules.length ≤ 1000
theorem Sz.short {x : Sapi_Schema} (h : Sz x) : Short x := ⟨h.few,h.fine,by have := h.2.1.1; omega,by have := h.2.2.1; omega⟩
theorem fieldsP_len {x : Sapi_Schema} {i : Nat} {q : Sapi_Kind} (h : q.Fields.length ≤ 1000) : (fieldsP x i q).length ≤ 1000 := by
  have := range_len q.Fields.length (fieldP x i q) 1 (fun j _ => fieldP_len x i q j)
  unfold fieldsP; omega
theorem Check_is {x : Sapi_Schema} (h : Short x) : ftyping_Check x = some (checkS x) := by
  obtain ⟨hx,hfine,hlv,hrl⟩ := h
  unfold ftyping_Check
  rw [Valid_is hfine]
  simp only [Option.bind_some]
  unfold checkS
  by_cases hv : validE x = 0
  · rw [if_neg (by simp [hv]),if_pos hv]
    have b1 : (livesP x).length ≤ 1000 := by
      have := range_len x.Lives.length (lifeP x) 1 (fun j _ => lifeP_len x j)
      unfold livesP; omega
    have kl : ∀ k,k < x.Kinds.length → (kindP x k).length ≤ 1001 := fun k hk => by
      unfold kindP
      rw [List.getElem?_eq_getElem hk]
      dsimp only
      have := fieldsP_len (x := x) (i := k) (hx.2 _ (List.getElem_mem hk))
      have := prob_len k (-1) (-1) (kindE x k x.Kinds[k])
      rw [List.length_append]; omega
    have b2 : (kindsP x).length ≤ 1001000 := by
      have := range_len x.Kinds.length _ 1001 kl
      have := hx.1
      unfold kindsP; omega
    have hk1 := hx.1
    rw [col_loop x.Lives.length (lifeP x) 1 (fun j _ => lifeP_len x j) [] (fun k hk acc hacc => ?_) (fun acc => if_neg (by simp))]
    · rw [show ([] : List Styping_Problem) ++ (List.range x.Lives.length).flatMap (lifeP x) = livesP x from rfl]
      simp only [Option.bind_some]
      rw [col_loop x.Kinds.length (kindP x) 1001 kl (livesP x) (fun k hk acc hacc => ?_) (fun acc => if_neg (by simp))]
      · rw [show livesP x ++ (List.range x.Kinds.length).flatMap (kindP x) = livesP x ++ kindsP x from rfl]
        simp only [Option.bind_some]
        rw [col_loop x.Rules.length (ruleP x) 1 (fun j _ => ruleP_len x j) (livesP x ++ kindsP x) (fun k hk acc hacc => ?_) (fun acc => if_neg (by simp))]
        · rfl
        · rw [List.length_append] at hacc
          rw [if_pos (by simpa using hk)]
          dsimp only
          rw [rule_is hx hrl hk (List.getElem?_eq_getElem hk)]
          simp only [Option.bind_some]
          rw [add_is (by omega)]
          simp only [Option.bind_some]
          unfold ruleP
          rw [w64_succ hk (by omega),List.getElem?_eq_getElem hk]
      · have hq := idx_lt hk
        have hqf := hx.2 _ (List.getElem_mem hk)
        rw [if_pos (by simpa using hk)]
        dsimp only
        rw [hq]
        simp only [Option.bind_some]
        rw [kind_is hx hq]
        simp only [Option.bind_some]
        rw [add_is (by omega)]
        simp only [Option.bind_some]
        have pl := prob_len k (-1) (-1) (kindE x k x.Kinds[k])
        rw [col_loop x.Kinds[k].Fields.length (fieldP x k x.Kinds[k]) 1 (fun j _ => fieldP_len x k _ j) _ (fun j hj acc2 hacc2 => ?_) (fun acc => if_neg (by simp))]
        · simp only [Option.bind_some]
          unfold kindP
          rw [w64_succ hk (by omega),List.getElem?_eq_getElem hk,List.append_assoc]
          rfl
        · rw [List.length_append] at hacc2
          rw [if_pos (by simpa using hj)]
          dsimp only
          rw [idx_lt hj]
          simp only [Option.bind_some]
          rw [typing_Field_is (by omega)]
          simp only [Option.bind_some]
          rw [first_is (by simp)]
          simp only [Option.bind_some]
          have hf : field? x (k : Int) (j : Int) = some x.Kinds[k].Fields[j] := field_of (by omega) (by omega) hq (idx_lt hj)
          have e : (if ((fChecks x.Kinds[k].Fields[j].Kind).isSome && (firstS [⟨decide (fieldIx x.Kinds[k] x.Kinds[k].Fields[j].Name < (j : Int)),7⟩] == 0)) = true then (callO (SX_check.mk (fChecks x.Kinds[k].Fields[j].Kind)).check ⟨x,k,j,x.Kinds[k].Fields[j]⟩).bind fun t97 => some t97 else some (firstS [⟨decide (fieldIx x.Kinds[k] x.Kinds[k].Fields[j].Name < (j : Int)),7⟩])) = some (fieldE x x.Kinds[k] k j x.Kinds[k].Fields[j]) := by
            unfold fieldE
            by_cases hd : fieldIx x.Kinds[k] x.Kinds[k].Fields[j].Name < (j : Int)
            · rw [if_pos hd,if_neg (by simp [firstS,hd])]
              simp [firstS,hd]
            · rw [if_neg hd]
              have e0 : firstS [⟨decide (fieldIx x.Kinds[k] x.Kinds[k].Fields[j].Name < (j : Int)),7⟩] = 0 := by simp [firstS,hd]
              rw [e0]
              cases hs : (fChecks x.Kinds[k].Fields[j].Kind).isSome with
              | true => rw [if_pos (by simp),chk_some hx hlv hq hf hs]; rfl
              | false => rw [if_neg (by simp),chk_none hs]
          rw [e]
          simp only [Option.bind_some]
          rw [add_is (by omega)]
          simp only [Option.bind_some]
          unfold fieldP
          rw [w64_succ hj (by omega),List.getElem?_eq_getElem hj]
    · rw [List.length_nil] at hacc
      rw [if_pos (by simpa using hk)]
      dsimp only
      rw [idx_lt hk]
      simp only [Option.bind_some]
      have hs : Sim.sub x.Lives 0 (k : Int) = some (x.Lives.take k) := by
        unfold Sim.sub
        rw [if_pos ⟨by decide,by omega,by omega⟩]; simp
      rw [hs]
      simp only [Option.bind_some]
      rw [containsLife (f := fun x0 => ftyping_Checkq2 x0 x.Lives[k]) (p := fun m => m.Name == x.Lives[k].Name) (by rw [List.length_take]; omega) (fun l _ => rfl)]
      simp only [Option.bind_some]
      rw [first_is (by simp)]
      simp only [Option.bind_some]
      rw [add_is (by omega)]
      simp only [Option.bind_some]
      unfold lifeP
      rw [w64_succ hk (by omega),List.getElem?_eq_getElem hk]
      rfl
  · rw [if_pos (by simpa using hv),if_neg hv]

end Go.Proofs.YthdfmpocknmleaaGreatDoor

namespace Go.Proofs.YthdfmpocknmleaaGreatDoor
open Go.Sim

theorem eqKind_refl {l : List Sapi_Kind} {f : Sapi_Kind → Sapi_Kind → Option Bool} (hl : l.length ≤ 1000000) (hf : ∀ x ∈ l,f x x = some true) : fslices_EqualFunc_Kind l l f = some true := by
  unfold fslices_EqualFunc_Kind
  rw [if_neg (by simp),scan_all l (fun _ => true) false (fun k hk => ?_) (if_neg (by simp))]
  · rw [if_pos (by simp)]; rfl
  · rw [if_pos (decide_eq_true (Int.ofNat_lt.2 hk)),idx_lt hk]
    simp only [Option.bind_some]
    rw [hf _ (List.getElem_mem hk),w64_succ hk (by omega)]; rfl
theorem eqField_refl {l : List Sapi_Field} {f : Sapi_Field → Sapi_Field → Option Bool} (hl : l.length ≤ 1000000) (hf : ∀ x ∈ l,f x x = some true) : fslices_EqualFunc_Field l l f = some true := by
  unfold fslices_EqualFunc_Field
  rw [if_neg (by simp),scan_all l (fun _ => true) false (fun k hk => ?_) (if_neg (by simp))]
  · rw [if_pos (by simp)]; rfl
  · rw [if_pos (decide_eq_true (Int.ofNat_lt.2 hk)),idx_lt hk]
    simp only [Option.bind_some]
    rw [hf _ (List.getElem_mem hk),w64_succ hk (by omega)]; rfl
theorem eqLife_refl {l : List Sapi_Life} {f : Sapi_Life → Sapi_Life → Option Bool} (hl : l.length ≤ 1000000) (hf : ∀ x ∈ l,f x x = some true) : fslices_EqualFunc_Life l l f = some true := by
  unfold fslices_EqualFunc_Life
  rw [if_neg (by simp),scan_all l (fun _ => true) false (fun k hk => ?_) (if_neg (by simp))]
  · rw [if_pos (by simp)]; rfl
  · rw [if_pos (decide_eq_true (Int.ofNat_lt.2 hk)),idx_lt hk]
    simp only [Option.bind_some]
    rw [hf _ (List.getElem_mem hk),w64_succ hk (by omega)]; rfl
theorem eqMoves_refl {l : List A2_Int} (hl : l.length ≤ 1000000) : fslices_Equal_Twoint l l = some true := by
  unfold fslices_Equal_Twoint
  rw [if_neg (by simp),scan_all l (fun _ => true) false (fun k hk => ?_) (if_neg (by simp))]
  · rw [if_pos (by simp)]; rfl
  · rw [if_pos (decide_eq_true (Int.ofNat_lt.2 hk)),idx_lt hk]
    simp only [Option.bind_some]
    rw [w64_succ hk (by omega),if_neg (by simp [eqA2_Int])]; simp
theorem eqRules_refl {l : List Sapi_Rule} (hl : l.length ≤ 1000000) : fslices_Equal_Rule l l = some true := by
  unfold fslices_Equal_Rule
  rw [if_neg (by simp),scan_all l (fun _ => true) false (fun k hk => ?_) (if_neg (by simp))]
  · rw [if_pos (by simp)]; rfl
  · rw [if_pos (decide_eq_true (Int.ofNat_lt.2 hk)),idx_lt hk]
    simp only [Option.bind_some]
    rw [w64_succ hk (by omega),if_neg (by simp [eqSapi_Rule])]; simp
theorem same_is {x : Sapi_Schema} (h : Fine x) : fschema_Same x x = some true := by
  obtain ⟨⟨a1,a2⟩,⟨b1,b2⟩,c⟩ := h
  have hf : ∀ k ∈ x.Kinds,∀ f ∈ k.Fields,fschema_sameField f f = some true := fun k hk f hf => by
    rw [sameField_is ((a2 k hk).2 f hf).1 ((a2 k hk).2 f hf).2]
    simp [sameS]
  have hk : ∀ k ∈ x.Kinds,fschema_Sameq1 k k = some true := fun k hk => by
    unfold fschema_Sameq1
    rw [eqField_refl (a2 k hk).1 (hf k hk)]
    simp [Sim.opt]
  have hl : ∀ l ∈ x.Lives,fschema_Sameq2 l l = some true := fun l hl => by
    unfold fschema_Sameq2
    rw [eqString (b2 l hl).1,eqMoves_refl (b2 l hl).2]
    simp [Sim.opt]
  unfold fschema_Same
  rw [eqKind_refl a1 hk,eqLife_refl b1 hl,eqRules_refl c]
  simp [Sim.opt]

end Go.Proofs.YthdfmpocknmleaaGreatDoor

/- typing.Check, as a plain function. No condition. -/
import Derived.Test.YtcdccjagknlmpaaGreatDoorCtH
import Derived.Test.YtcdccjagknlmpaaGreatDoorEvalA
import Derived.Test.YtcdccjagknlmpaaGreatDoorCtA
namespace Go.Proofs.YtcdccjagknlmpaaGreatDoor
open Go.Sim

theorem Qv8 {x : Qg} {i : Nat} {r : Qo} (hx : Few x) (hl : x.Rules.length ≤ 1000) (hi : i < x.Rules.length) (hr : x.Rules[i]? = some r) : Qeb x (i : Int) = some (QnM x i r) := by
 unfold Qeb
 rw [QfD,hr]
 simp only [Option.bind_some]
 have hs : Sim.sub x.Rules 0 (i : Int) = some (x.Rules.take i) := by
  unfold Sim.sub
  rw [if_pos ⟨by decide,by omega,by omega⟩]; simp
 rw [hs]
 simp only [Option.bind_some]
 rw [QlN (f := fun x0 => Qd1 x0 r) (p := fun s => s.Name == r.Name) (by rw [List.length_take]; omega) (fun s _ => rfl)]
 simp only [Option.bind_some]
 rw [Qd4 (by have := hx.1; omega)]
 simp only [Option.bind_some]
 have hk := (QlM x r.Kind).2
 let st : Nat → Int × Bool × Bool := fun n => match n with
  | 0 => (0,decide (Qaa x r.Kind < 0),false)
  | 1 => (1,decide (Qaa x r.Kind < 0) || Qgu x (Qaa x r.Kind) r.A,false || Qe2 x (Qaa x r.Kind) r.A)
  | _ => (2,(decide (Qaa x r.Kind < 0) || Qgu x (Qaa x r.Kind) r.A) || Qgu x (Qaa x r.Kind) r.B,(false || Qe2 x (Qaa x r.Kind) r.A) || Qe2 x (Qaa x r.Kind) r.B)
 refine QgW 2 st ((st 2).2.1,(st 2).2.2) rfl (fun n hn => ?_) rfl ?_
 ·have : n = 0 ∨ n = 1 := by omega
  rcases this with rfl | rfl
  ·have h := QoX (x := x) (k := Qaa x r.Kind) (n := r.A) (a := decide (Qaa x r.Kind < 0)) (b := false) hx hk id
   show (Option.bind (if _ then _ else _) _ : Option _) = _
   exact (congrArg (fun o => Option.bind o (fun p55 : Bool × Bool => some (Sum.inl ((IntKind.i64.wrap ((0:Int) + (1:Int))),p55.1,p55.2)))) h : _)
  ·have h := QoX (x := x) (k := Qaa x r.Kind) (n := r.B) (a := decide (Qaa x r.Kind < 0) || Qgu x (Qaa x r.Kind) r.A) (b := false || Qe2 x (Qaa x r.Kind) r.A) hx hk id
   show (Option.bind (if _ then _ else _) _ : Option _) = _
   exact (congrArg (fun o => Option.bind o (fun p55 : Bool × Bool => some (Sum.inl ((IntKind.i64.wrap ((1:Int) + (1:Int))),p55.1,p55.2)))) h : _)
 ·dsimp only
  rw [Qg5 (by simp)]
  simp [st,QnM]

/-- A loop that collects. -/
theorem Qk2 {β : Type} (n : Nat) (g : Nat → List β) (B : Nat) (hB : ∀ k,k < n → (g k).length ≤ B) (a0 : List β) {body : Int × List β → Option ((Int × List β) ⊕ List β)}
  (hs : ∀ k,k < n → ∀ acc : List β,acc.length ≤ a0.length + k * B → body ((k : Int),acc) = some (.inl (((k + 1 : Nat) : Int),acc ++ g k))) (he : ∀ acc,body ((n : Int),acc) = some (.inr acc)) :
  QI body ((0 : Int),a0) = some (a0 ++ (List.range n).flatMap g) := by
 have hlen : ∀ m,m ≤ n → ((List.range m).flatMap g).length ≤ m * B := fun m => by
  induction m with
  | zero => intro _; simp
  | succ m ih =>
   intro hm
   rw [List.range_succ,List.flatMap_append,List.length_append,Nat.succ_mul]
   have h1 := ih (by omega)
   have h2 := hB m (by omega)
   simp only [List.flatMap_cons,List.flatMap_nil,List.append_nil]
   omega
 have h := QfC (body := body) n (fun m => ((m : Int),a0 ++ (List.range m).flatMap g)) (a0 ++ (List.range n).flatMap g) (fun k hk => ?_) ?_
 ·simpa using h
 ·rw [hs k hk _ (by rw [List.length_append]; have := hlen k (by omega); omega),List.range_succ,List.flatMap_append]
  simp
 ·rw [he]

def prob (k j r e : Int) : List Qn := if e = 0 then [] else [⟨k,j,r,e⟩]
theorem QjD (k j r e : Int) : (prob k j r e).length ≤ 1 := by unfold prob; split <;> simp
theorem QnN {k j r e : Int} {l : List Qn} (h : l.length ≤ 1000000000) : Qbs k j r e l = some (l ++ prob k j r e) := by
 unfold Qbs prob
 by_cases he : e = 0
 ·rw [if_neg (by simp [he]),if_pos he,List.append_nil]; rfl
 ·rw [if_pos (by simpa using he),if_neg he,Qgn (by rw [List.length_singleton]; omega)]; rfl
def lifeE (x : Qg) (i : Nat) (l : Qu) : Int := Qa0 [⟨(x.Lives.take i).any fun m => m.Name == l.Name,7⟩]
def QlR (x : Qg) (q : Qi) (k j : Int) (f : Qc) : Int := if Qbf q f.Name < j then 7 else Qiu x q k j f
def Qi7 (x : Qg) (i : Nat) : List Qn := match x.Lives[i]? with | some l => prob (-1) (i : Int) (-1) (lifeE x i l) | none => []
def QhT (x : Qg) (i : Nat) (q : Qi) (j : Nat) : List Qn := match q.Fields[j]? with | some f => prob (i : Int) (j : Int) (-1) (QlR x q (i : Int) (j : Int) f) | none => []
def Qkw (x : Qg) (i : Nat) (q : Qi) : List Qn := (List.range q.Fields.length).flatMap (QhT x i q)
def Qi8 (x : Qg) (i : Nat) : List Qn := match x.Kinds[i]? with | some q => prob (i : Int) (-1) (-1) (Qmh x (i : Int) q) ++ Qkw x i q | none => []
def Qk3 (x : Qg) (i : Nat) : List Qn := match x.Rules[i]? with | some r => prob (-1) (-1) (i : Int) (QnM x i r) | none => []
def QgN (x : Qg) : List Qn := (List.range x.Lives.length).flatMap (Qi7 x)
def QiF (x : Qg) : List Qn := (List.range x.Kinds.length).flatMap (Qi8 x)
def Qqk (x : Qg) : List Qn := (List.range x.Rules.length).flatMap (Qk3 x)
theorem QoY (x : Qg) (i : Nat) : (Qi7 x i).length ≤ 1 := by unfold Qi7; cases x.Lives[i]? with | none => simp | some f => exact QjD _ _ _ _
theorem QnO (x : Qg) (i : Nat) (q : Qi) (j : Nat) : (QhT x i q j).length ≤ 1 := by unfold QhT; cases q.Fields[j]? with | none => simp | some f => exact QjD _ _ _ _
theorem Qta (x : Qg) (i : Nat) : (Qk3 x i).length ≤ 1 := by unfold Qk3; cases x.Rules[i]? with | none => simp | some f => exact QjD _ _ _ _
/-- All problems. -/
def QcP (x : Qg) : List Qn := if QgM x = 0 then QgN x ++ QiF x ++ Qqk x else [⟨-1,-1,-1,QgM x⟩]
theorem QdV {β : Type} (n : Nat) (g : Nat → List β) (B : Nat) (hB : ∀ k,k < n → (g k).length ≤ B) : ((List.range n).flatMap g).length ≤ n * B := by
 induction n with
 | zero => simp
 | succ n ih =>
  rw [List.range_succ,List.flatMap_append,List.length_append,Nat.succ_mul]
  have h1 := ih fun k hk => hB k (by omega)
  have h2 := hB n (by omega)
  simp only [List.flatMap_cons,List.flatMap_nil,List.append_nil]
  omega
/-- What Check needs of a schema: its lists are short. -/
structure Qmi (x : Qg) : Prop where
 few : Few x
 fine : Fine x
 lives : x.Lives.length ≤ 1000
 rules : x.Rules.length ≤ 1000
theorem Sz.short {x : Qg} (h : Sz x) : Qmi x := ⟨h.few,h.fine,by have := h.2.1.1; omega,by have := h.2.2.1; omega⟩
theorem QqK {x : Qg} {i : Nat} {q : Qi} (h : q.Fields.length ≤ 1000) : (Qkw x i q).length ≤ 1000 := by
 have := QdV q.Fields.length (QhT x i q) 1 (fun j _ => QnO x i q j)
 unfold Qkw; omega
theorem Qug {x : Qg} (h : Qmi x) : QdC x = some (QcP x) := by
 obtain ⟨hx,hfine,hlv,hrl⟩ := h
 unfold QdC
 rw [Qud hfine]
 simp only [Option.bind_some]
 unfold QcP
 by_cases hv : QgM x = 0
 ·rw [if_neg (by simp [hv]),if_pos hv]
  have b1 : (QgN x).length ≤ 1000 := by
   have := QdV x.Lives.length (Qi7 x) 1 (fun j _ => QoY x j)
   unfold QgN; omega
  have kl : ∀ k,k < x.Kinds.length → (Qi8 x k).length ≤ 1001 := fun k hk => by
   unfold Qi8
   rw [List.getElem?_eq_getElem hk]
   dsimp only
   have := QqK (x := x) (i := k) (hx.2 _ (List.getElem_mem hk))
   have := QjD k (-1) (-1) (Qmh x k x.Kinds[k])
   rw [List.length_append]; omega
  have b2 : (QiF x).length ≤ 1001000 := by
   have := QdV x.Kinds.length _ 1001 kl
   have := hx.1
   unfold QiF; omega
  have hk1 := hx.1
  rw [Qk2 x.Lives.length (Qi7 x) 1 (fun j _ => QoY x j) [] (fun k hk acc hacc => ?_) (fun acc => if_neg (by simp))]
  ·rw [show ([] : List Qn) ++ (List.range x.Lives.length).flatMap (Qi7 x) = QgN x from rfl]
   simp only [Option.bind_some]
   rw [Qk2 x.Kinds.length (Qi8 x) 1001 kl (QgN x) (fun k hk acc hacc => ?_) (fun acc => if_neg (by simp))]
   ·rw [show QgN x ++ (List.range x.Kinds.length).flatMap (Qi8 x) = QgN x ++ QiF x from rfl]
    simp only [Option.bind_some]
    rw [Qk2 x.Rules.length (Qk3 x) 1 (fun j _ => Qta x j) (QgN x ++ QiF x) (fun k hk acc hacc => ?_) (fun acc => if_neg (by simp))]
    ·rfl
    ·rw [List.length_append] at hacc
     rw [if_pos (by simpa using hk)]
     dsimp only
     rw [Qv8 hx hrl hk (List.getElem?_eq_getElem hk)]
     simp only [Option.bind_some]
     rw [QnN (by omega)]
     simp only [Option.bind_some]
     unfold Qk3
     rw [Qab hk (by omega),List.getElem?_eq_getElem hk]
   ·have hq := Qak hk
    have hqf := hx.2 _ (List.getElem_mem hk)
    rw [if_pos (by simpa using hk)]
    dsimp only
    rw [hq]
    simp only [Option.bind_some]
    rw [Qv7 hx hq]
    simp only [Option.bind_some]
    rw [QnN (by omega)]
    simp only [Option.bind_some]
    have pl := QjD k (-1) (-1) (Qmh x k x.Kinds[k])
    rw [Qk2 x.Kinds[k].Fields.length (QhT x k x.Kinds[k]) 1 (fun j _ => QnO x k _ j) _ (fun j hj acc2 hacc2 => ?_) (fun acc => if_neg (by simp))]
    ·simp only [Option.bind_some]
     unfold Qi8
     rw [Qab hk (by omega),List.getElem?_eq_getElem hk,List.append_assoc]
     rfl
    ·rw [List.length_append] at hacc2
     rw [if_pos (by simpa using hj)]
     dsimp only
     rw [Qak hj]
     simp only [Option.bind_some]
     rw [QeD (by omega)]
     simp only [Option.bind_some]
     rw [Qg5 (by simp)]
     simp only [Option.bind_some]
     have hf : field? x (k : Int) (j : Int) = some x.Kinds[k].Fields[j] := QmZ (by omega) (by omega) hq (Qak hj)
     have e : (if ((Qbe x.Kinds[k].Fields[j].Kind).isSome && (Qa0 [⟨decide (Qbf x.Kinds[k] x.Kinds[k].Fields[j].Name < (j : Int)),7⟩] == 0)) = true then (QkH (Qb3.mk (Qbe x.Kinds[k].Fields[j].Kind)).check ⟨x,k,j,x.Kinds[k].Fields[j]⟩).bind fun t97 => some t97 else some (Qa0 [⟨decide (Qbf x.Kinds[k] x.Kinds[k].Fields[j].Name < (j : Int)),7⟩])) = some (QlR x x.Kinds[k] k j x.Kinds[k].Fields[j]) := by
      unfold QlR
      by_cases hd : Qbf x.Kinds[k] x.Kinds[k].Fields[j].Name < (j : Int)
      ·rw [if_pos hd,if_neg (by simp [Qa0,hd])]
       simp [Qa0,hd]
      ·rw [if_neg hd]
       have e0 : Qa0 [⟨decide (Qbf x.Kinds[k] x.Kinds[k].Fields[j].Name < (j : Int)),7⟩] = 0 := by simp [Qa0,hd]
       rw [e0]
       cases hs : (Qbe x.Kinds[k].Fields[j].Kind).isSome with
       | true => rw [if_pos (by simp),Que hx hlv hq hf hs]; rfl
       | false => rw [if_neg (by simp),Quf hs]
     rw [e]
     simp only [Option.bind_some]
     rw [QnN (by omega)]
     simp only [Option.bind_some]
     unfold QhT
     rw [Qab hj (by omega),List.getElem?_eq_getElem hj]
  ·rw [List.length_nil] at hacc
   rw [if_pos (by simpa using hk)]
   dsimp only
   rw [Qak hk]
   simp only [Option.bind_some]
   have hs : Sim.sub x.Lives 0 (k : Int) = some (x.Lives.take k) := by
    unfold Sim.sub
    rw [if_pos ⟨by decide,by omega,by omega⟩]; simp
   rw [hs]
   simp only [Option.bind_some]
   rw [QjB (f := fun x0 => Qdq x0 x.Lives[k]) (p := fun m => m.Name == x.Lives[k].Name) (by rw [List.length_take]; omega) (fun l _ => rfl)]
   simp only [Option.bind_some]
   rw [Qg5 (by simp)]
   simp only [Option.bind_some]
   rw [QnN (by omega)]
   simp only [Option.bind_some]
   unfold Qi7
   rw [Qab hk (by omega),List.getElem?_eq_getElem hk]
   rfl
 ·rw [if_pos (by simpa using hv),if_neg hv]

end Go.Proofs.YtcdccjagknlmpaaGreatDoor

namespace Go.Proofs.YtcdccjagknlmpaaGreatDoor
open Go.Sim

end Go.Proofs.YtcdccjagknlmpaaGreatDoor

namespace Go.Proofs.YtcdccjagknlmpaaGreatDoor
open Go.Sim

end Go.Proofs.YtcdccjagknlmpaaGreatDoor

namespace Go.Proofs.YtcdccjagknlmpaaGreatDoor
open Go.Sim

end Go.Proofs.YtcdccjagknlmpaaGreatDoor

namespace Go.Proofs.YtcdccjagknlmpaaGreatDoor
open Go.Sim

end Go.Proofs.YtcdccjagknlmpaaGreatDoor

namespace Go.Proofs.YtcdccjagknlmpaaGreatDoor
open Go.Sim

end Go.Proofs.YtcdccjagknlmpaaGreatDoor

namespace Go.Proofs.YtcdccjagknlmpaaGreatDoor
open Go.Sim

end Go.Proofs.YtcdccjagknlmpaaGreatDoor

namespace Go.Proofs.YtcdccjagknlmpaaGreatDoor
open Go.Sim

end Go.Proofs.YtcdccjagknlmpaaGreatDoor

namespace Go.Proofs.YtcdccjagknlmpaaGreatDoor
open Go.Sim

end Go.Proofs.YtcdccjagknlmpaaGreatDoor

namespace Go.Proofs.YtcdccjagknlmpaaGreatDoor
open Go.Sim

end Go.Proofs.YtcdccjagknlmpaaGreatDoor

namespace Go.Proofs.YtcdccjagknlmpaaGreatDoor
open Go.Sim

theorem shift {α : Type} {l : List α} {g h : α → Str} (e : ∀ a ∈ l,[10] ++ g a = h a ++ [10]) : [10] ++ l.flatMap g = l.flatMap h ++ [10] := by
 induction l with
 | nil => rfl
 | cons a l ih =>
  rw [List.flatMap_cons,List.flatMap_cons,← List.append_assoc,e a List.mem_cons_self,List.append_assoc,ih fun b hb => e b (List.mem_cons_of_mem _ hb),List.append_assoc]
end Go.Proofs.YtcdccjagknlmpaaGreatDoor

namespace Go.Proofs.YtcdccjagknlmpaaGreatDoor
open Go.Sim

end Go.Proofs.YtcdccjagknlmpaaGreatDoor

namespace Go.Proofs.YtcdccjagknlmpaaGreatDoor
open Go.Sim

end Go.Proofs.YtcdccjagknlmpaaGreatDoor

namespace Go.Proofs.YtcdccjagknlmpaaGreatDoor
open Go.Sim

end Go.Proofs.YtcdccjagknlmpaaGreatDoor

namespace Go.Proofs.YtcdccjagknlmpaaGreatDoor
open Go.Sim

end Go.Proofs.YtcdccjagknlmpaaGreatDoor

namespace Go.Proofs.YtcdccjagknlmpaaGreatDoor
open Go.Sim

end Go.Proofs.YtcdccjagknlmpaaGreatDoor

namespace Go.Proofs.YtcdccjagknlmpaaGreatDoor
open Go.Sim

/-- A loop that collects twice. -/
theorem Qql {β γ : Type} (n : Nat) (g : Nat → List β) (h : Nat → List γ) (B : Nat) (hB : ∀ k, k < n → (g k).length ≤ B ∧ (h k).length ≤ B) (a0 : List β) (b0 : List γ) {body : Int × List β × List γ → Option ((Int × List β × List γ) ⊕ (List β × List γ))}
  (hs : ∀ k, k < n → ∀ (p : List β) (q : List γ), p.length ≤ a0.length + k * B → q.length ≤ b0.length + k * B → body ((k : Int), p, q) = some (.inl (((k + 1 : Nat) : Int), p ++ g k, q ++ h k))) (he : ∀ p q, body ((n : Int), p, q) = some (.inr (p, q))) :
  QI body ((0 : Int), a0, b0) = some (a0 ++ (List.range n).flatMap g, b0 ++ (List.range n).flatMap h) := by
 have hlen : ∀ m, m ≤ n → ((List.range m).flatMap g).length ≤ m * B ∧ ((List.range m).flatMap h).length ≤ m * B := fun m hm =>
  ⟨QdV m g B fun k hk => (hB k (by omega)).1, QdV m h B fun k hk => (hB k (by omega)).2⟩
 have key := QfC (body := body) n (fun m => ((m : Int), a0 ++ (List.range m).flatMap g, b0 ++ (List.range m).flatMap h)) (a0 ++ (List.range n).flatMap g, b0 ++ (List.range n).flatMap h) (fun k hk => ?_) ?_
 ·simpa using key
 ·have := hlen k (by omega)
  rw [hs k hk _ _ (by rw [List.length_append]; omega) (by rw [List.length_append]; omega), List.range_succ, List.flatMap_append, List.flatMap_append]
  simp
 ·rw [he]

def leastT : Str := [32, 108, 101, 97, 115, 116]
def mostT : Str := [32, 109, 111, 115, 116]
section
variable {τ : Type} (mk : Int → Int → Int → Bool → τ)
def QgS (i j lo hi : Int) : List τ := [mk i j lo true, mk i j hi false]
def fldL (x : Qg) (i : Nat) (q : Qi) (j : Nat) : List τ := match q.Fields[j]? with | some f => if (f.Kind == 1) = true then QgS mk (i : Int) (Qaa x f.Of) f.Lo f.Hi else [] | none => []
def kndL (x : Qg) (i : Nat) : List τ := match x.Kinds[i]? with | some q => QgS mk (i : Int) (-1) q.Lo q.Hi ++ (List.range q.Fields.length).flatMap (fldL mk x i q) | none => []
def limL (x : Qg) : List τ := (List.range x.Kinds.length).flatMap (kndL mk x)
end
def QjP (s : Str) : List Str := [s ++ leastT, s ++ mostT]
def fldN (q : Qi) (j : Nat) : List Str := match q.Fields[j]? with | some f => if (f.Kind == 1) = true then QjP ((q.Name ++ [46]) ++ f.Name) else [] | none => []
def kndN (x : Qg) (i : Nat) : List Str := match x.Kinds[i]? with | some q => QjP q.Name ++ (List.range q.Fields.length).flatMap (fldN q) | none => []
def namL (x : Qg) : List Str := (List.range x.Kinds.length).flatMap (kndN x)
theorem Qot {τ : Type} (mk : Int → Int → Int → Bool → τ) (x : Qg) (i : Nat) (q : Qi) (j : Nat) : (fldL mk x i q j).length ≤ 2 ∧ (fldN q j).length ≤ 2 := by
 unfold fldL fldN
 cases q.Fields[j]? with
 | none => simp
 | some f => dsimp only; constructor <;> split <;> simp [QgS, QjP]
theorem Qmj {τ : Type} (mk : Int → Int → Int → Bool → τ) {x : Qg} (hv : Qmg x) (i : Nat) : (kndL mk x i).length ≤ 22 ∧ (kndN x i).length ≤ 22 := by
 unfold kndL kndN
 cases hq : x.Kinds[i]? with
 | none => simp
 | some q =>
  have hf := (Qku (hv.kind q (List.mem_of_getElem? hq))).2.1
  have h1 := QdV q.Fields.length (fldL mk x i q) 2 fun j _ => (Qot mk x i q j).1
  have h2 := QdV q.Fields.length (fldN q) 2 fun j _ => (Qot mk x i q j).2
  simp only [List.length_append, QgS, QjP, List.length_cons, List.length_nil]
  omega

theorem Quh {x : Qg} {p : Qn} (h : p ∈ QcP x) : p.Code ≠ 0 := by
 have hp : ∀ {k j r e : Int}, p ∈ prob k j r e → p.Code ≠ 0 := fun {k j r e} h => by
  unfold prob at h
  split at h
  ·cases h
  ·rw [List.mem_singleton.1 h]; assumption
 unfold QcP at h
 split at h
 ·simp only [List.mem_append] at h
  rcases h with (h | h) | h
  ·obtain ⟨i, _, h⟩ := List.mem_flatMap.1 h
   unfold Qi7 at h
   split at h
   ·exact hp h
   ·cases h
  ·obtain ⟨i, _, h⟩ := List.mem_flatMap.1 h
   unfold Qi8 at h
   split at h
   ·rcases List.mem_append.1 h with h | h
    ·exact hp h
    ·obtain ⟨j, _, h⟩ := List.mem_flatMap.1 h
     unfold QhT at h
     split at h
     ·exact hp h
     ·cases h
   ·cases h
  ·obtain ⟨i, _, h⟩ := List.mem_flatMap.1 h
   unfold Qk3 at h
   split at h
   ·exact hp h
   ·cases h
 ·rw [List.mem_singleton.1 h]; assumption
theorem QgO {x : Qg} (h : QcP x = []) : Qmg x := by
 unfold QcP at h
 by_cases hv : QgM x = 0
 ·unfold QgM at hv
  by_cases hs : QfA x = true
  ·exact QlQ hs
  ·rw [if_neg hs] at hv; cases hv
 ·rw [if_neg hv] at h; cases h
theorem Qtb {q : Qi} (h : QdS q = true) : q.Name.length ≤ 12 := by
 simp only [QdS, Bool.and_eq_true] at h
 exact Qf6 h.1.1.1
theorem QrM {f : Qc} (h : QbH f = true) : f.Name.length ≤ 12 := by
 simp only [QbH, Bool.and_eq_true] at h
 exact Qf6 h.1.1
theorem QnP {n : Nat} (h : n ≤ 1000000) : cat n = some () := by unfold cat; rw [if_pos (by omega)]
theorem add13 {s : Str} {a b lo hi : Int} {c0 : List Qb} {c1 : List Str} (hs : s.length ≤ 1000) (h0 : c0.length ≤ 1000000) (h1 : c1.length ≤ 1000000) :
  QbX s a b lo hi c0 c1 = some (c0 ++ QgS Qb.mk a b lo hi, c1 ++ QjP s) := by
 unfold QbX
 rw [Qgn (by simp; omega), QnP (by simp; omega), QnP (by simp; omega), Qgn (by simp; omega)]
 rfl
theorem Qui {x : Qg} (h : Qmi x) : QdD x = some (match QcP x with | [] => 0 | p :: _ => p.Code) := by
 unfold QdD
 rw [Qug h]
 simp only [Option.bind_some]
 cases QcP x with
 | nil => rfl
 | cons p l =>
  rw [if_pos (by simp)]
  rfl
noncomputable def limR {τ : Type} (mk : Int → Int → Int → Bool → τ) (x : Qg) : List τ × List Str × Int := match QcP x with | [] => (limL mk x, namL x, 0) | p :: _ => ([], [], p.Code)
theorem QoZ {x : Qg} (h : Qmi x) : Qa2 x = some (limR Qb.mk x) := by
 unfold Qa2 limR
 rw [Qui h]
 simp only [Option.bind_some]
 cases hc : QcP x with
 | cons p l =>
  have := Quh (x := x) (p := p) (by rw [hc]; exact List.mem_cons_self ..)
  dsimp only
  rw [if_pos (by simpa using this)]
 | nil =>
  have hv := QgO hc
  have hk := hv.kinds
  dsimp only
  rw [if_neg (by simp)]
  refine (congrArg (Option.bind · _) (Qql x.Kinds.length (kndN x) (kndL Qb.mk x) 22 (fun i _ => ⟨(Qmj Qb.mk hv i).2, (Qmj Qb.mk hv i).1⟩) [] [] (fun i hi p q hp hq => ?_) (fun p q => by rw [if_neg (by simp)]))).trans ?_
  ·simp only [List.length_nil, Nat.zero_add] at hp hq
   have hib : i * 22 ≤ 132 := by omega
   rw [if_pos (by simpa using hi), Qak hi]
   have hK := hv.kind _ (List.getElem_mem hi)
   have hf10 := (Qku hK).2.1
   have hnm := Qtb hK
   simp only [Option.bind_some]
   rw [add13 (by omega) (by omega) (by omega)]
   simp only [Option.bind_some]
   rw [Qql x.Kinds[i].Fields.length (fldL Qb.mk x i x.Kinds[i]) (fldN x.Kinds[i]) 2 (fun j _ => Qot _ _ _ _ _) _ _ (fun j hj p' q' hp' hq' => ?_) (fun p' q' => by rw [if_neg (by simp)])]
   ·simp only [Option.bind_some]
    have e1 : kndL Qb.mk x i = QgS Qb.mk (i : Int) (-1) x.Kinds[i].Lo x.Kinds[i].Hi ++ (List.range x.Kinds[i].Fields.length).flatMap (fldL Qb.mk x i x.Kinds[i]) := by unfold kndL; rw [List.getElem?_eq_getElem hi]
    have e2 : kndN x i = QjP x.Kinds[i].Name ++ (List.range x.Kinds[i].Fields.length).flatMap (fldN x.Kinds[i]) := by unfold kndN; rw [List.getElem?_eq_getElem hi]
    rw [e1, e2, Qab hi (by omega), List.append_assoc, List.append_assoc]
   ·simp only [List.length_append, QgS, QjP, List.length_cons, List.length_nil] at hp' hq'
    have hfn := QrM ((Qku hK).2.2 _ (List.getElem_mem hj))
    rw [if_pos (by simpa using hj), Qak hj]
    simp only [Option.bind_some]
    have e1 : fldL Qb.mk x i x.Kinds[i] j = if (x.Kinds[i].Fields[j].Kind == 1) = true then QgS Qb.mk (i : Int) (Qaa x x.Kinds[i].Fields[j].Of) x.Kinds[i].Fields[j].Lo x.Kinds[i].Fields[j].Hi else [] := by unfold fldL; rw [List.getElem?_eq_getElem hj]
    have e2 : fldN x.Kinds[i] j = if (x.Kinds[i].Fields[j].Kind == 1) = true then QjP ((x.Kinds[i].Name ++ [46]) ++ x.Kinds[i].Fields[j].Name) else [] := by unfold fldN; rw [List.getElem?_eq_getElem hj]
    rw [e1, e2, Qab hj (by omega)]
    cases (x.Kinds[i].Fields[j].Kind == 1) with
    | false => simp
    | true =>
     rw [if_pos rfl, if_pos rfl, if_pos rfl, QnP (by simp; omega), QnP (by simp; omega), Qd4 (by omega)]
     simp only [Option.bind_some]
     rw [add13 (by simp; omega) (by omega) (by omega)]
     rfl
  ·rfl
theorem Qqm {τ : Type} (mk : Int → Int → Int → Bool → τ) (x : Qg) : (limR mk x).1.length ≤ 1000 ∧ (limR mk x).2.1.length ≤ 1000 := by
 unfold limR
 cases hc : QcP x with
 | cons p l => simp
 | nil =>
  have hv := QgO hc
  have hk := hv.kinds
  have h1 := QdV x.Kinds.length (kndL mk x) 22 fun i _ => (Qmj mk hv i).1
  have h2 := QdV x.Kinds.length (kndN x) 22 fun i _ => (Qmj mk hv i).2
  refine ⟨?_, ?_⟩
  ·show (limL mk x).length ≤ _; unfold limL; omega
  ·show (namL x).length ≤ _; unfold namL; omega
end Go.Proofs.YtcdccjagknlmpaaGreatDoor

namespace Go.Proofs.YtcdccjagknlmpaaGreatDoor
open Go.Sim

def padV (p : List Int) : Ql := ⟨nth p 0, nth p 1, nth p 2, nth p 3, nth p 4, nth p 5⟩
theorem Qou {p : List Int} {v : Int} {j : Int} (h0 : 0 ≤ j) : nth (p ++ [v]) j = if j = (p.length : Int) then v else nth p j := by
 obtain ⟨k, rfl⟩ := Int.eq_ofNat_of_zero_le h0
 unfold nth
 simp only [Int.toNat_natCast, List.getD_eq_getElem?_getD]
 by_cases h : k < p.length
 ·rw [List.getElem?_append_left h, if_neg (by omega)]
 ·by_cases h2 : k = p.length
  ·subst h2; rw [if_pos rfl]; simp
  ·rw [if_neg (by omega), List.getElem?_eq_none (by simp; omega), List.getElem?_eq_none (by omega)]
theorem Qv9 {p : List Int} {j : Int} (h : (p.length : Int) ≤ j) : nth p j = 0 := by
 unfold nth
 rw [List.getD_eq_getElem?_getD, List.getElem?_eq_none (by omega)]; rfl
theorem Qov {p : List Int} {i : Int} (h0 : 0 ≤ i) (h1 : i < 6) : nth (padV p).L i = nth p i := by
 obtain ⟨k, rfl⟩ := Int.eq_ofNat_of_zero_le h0
 match k, (show k < 6 by omega) with
 | 0, _ => rfl
 | 1, _ => rfl
 | 2, _ => rfl
 | 3, _ => rfl
 | 4, _ => rfl
 | 5, _ => rfl
theorem Qkx {p : List Int} {v : Int} (h : p.length < 6) : (padV p).setI (p.length : Int) v = padV (p ++ [v]) := by
 have e : ∀ j : Nat, nth (p ++ [v]) (j : Int) = if j = p.length then v else nth p (j : Int) := fun j => by
  rw [Qou (Int.natCast_nonneg j)]
  by_cases hj : j = p.length
  ·rw [if_pos hj, if_pos (by omega)]
  ·rw [if_neg hj, if_neg (by omega)]
 have e0 := e 0; have e1 := e 1; have e2 := e 2; have e3 := e 3; have e4 := e 4; have e5 := e 5
 unfold padV Ql.setI
 match hk : p.length, h with
 | 0, _ => rw [hk] at e0 e1 e2 e3 e4 e5; simp at e0 e1 e2 e3 e4 e5; simp [e0, e1, e2, e3, e4, e5]
 | 1, _ => rw [hk] at e0 e1 e2 e3 e4 e5; simp at e0 e1 e2 e3 e4 e5; simp [e0, e1, e2, e3, e4, e5]
 | 2, _ => rw [hk] at e0 e1 e2 e3 e4 e5; simp at e0 e1 e2 e3 e4 e5; simp [e0, e1, e2, e3, e4, e5]
 | 3, _ => rw [hk] at e0 e1 e2 e3 e4 e5; simp at e0 e1 e2 e3 e4 e5; simp [e0, e1, e2, e3, e4, e5]
 | 4, _ => rw [hk] at e0 e1 e2 e3 e4 e5; simp at e0 e1 e2 e3 e4 e5; simp [e0, e1, e2, e3, e4, e5]
 | 5, _ => rw [hk] at e0 e1 e2 e3 e4 e5; simp at e0 e1 e2 e3 e4 e5; simp [e0, e1, e2, e3, e4, e5]
theorem Qm2 (p : List Int) : padV (p ++ [0]) = padV p := by
 have e : ∀ j : Int, 0 ≤ j → nth (p ++ [0]) j = nth p j := fun j hj => by
  rw [Qou hj]
  split
  ·rename_i hh; rw [hh, Qv9 (Int.le_refl _)]
  ·rfl
 unfold padV
 rw [e 0 (by decide), e 1 (by decide), e 2 (by decide), e 3 (by decide), e 4 (by decide), e 5 (by decide)]
theorem Quj {p : List Int} {v : Int} (h : p.length < 6) : (padV (p ++ [v])).setI (p.length : Int) 0 = padV p := by
 have h0 := Qm2 p
 rw [← h0, ← Qkx h, ← Qkx h]
 unfold Ql.setI
 match p.length, h with
 | 0, _ => rfl
 | 1, _ => rfl
 | 2, _ => rfl
 | 3, _ => rfl
 | 4, _ => rfl
 | 5, _ => rfl

/-- The least and the greatest number of the next kind. -/
def Qau (L : List Qb) (p : List Int) : Int × Int :=
 L.foldl (fun r l => if (l.A != (p.length : Int) || decide (l.B ≥ (p.length : Int))) = true then r else if l.Least = true then (imax r.1 (bndS l p), r.2) else (r.1, imin r.2 (bndS l p))) (0, 65536)
def farS (a b : Int) : Int := imax (a - b) (b - a)
/-- The distance of some first numbers. -/
def dst (W p : List Int) : Int := (List.zipWith farS p W).sum
def seqI (lo hi : Int) : List Int := (List.range (hi - lo + 1).toNat).map fun i : Nat => lo + (i : Int)
/-- All numbers that are tried, behind some first ones. -/
def Qaz (L : List Qb) (W : List Int) (D : List Bool) : Nat → List Int → List (List Int)
 | 0, p => [p]
 | m + 1, p => if (Qau L p).2 < (Qau L p).1 then [] else if D.getD p.length false = true then (seqI (Qau L p).1 (Qau L p).2).flatMap fun v => Qaz L W D m (p ++ [v]) else Qaz L W D m (p ++ [imin (imax (nth W (p.length : Int)) (Qau L p).1) (Qau L p).2])
def cmpL : List Int → List Int → Int
 | x :: a, y :: b => if x < y then -1 else if y < x then 1 else cmpL a b
 | _, _ => 0
theorem Qtc (x y : Int) (a b : List Int) : cmpL (x :: a) (y :: b) = if x < y then -1 else if y < x then 1 else cmpL a b := by rw [cmpL]
/-- The better one. -/
def upd (W : List Int) (b : Ql × Int) (x : List Int) : Ql × Int :=
 if b.2 < 0 ∨ dst W x < b.2 ∨ (dst W x = b.2 ∧ cmpL (padV x).L b.1.L < 0) then (padV x, dst W x) else b

theorem far_is (a b : Int) (ha : 0 ≤ a ∧ a ≤ 65536) (hb : 0 ≤ b ∧ b ≤ 65536) : QcG a b = some (farS a b) := by
 unfold QcG farS
 rw [w64 (by omega) (by omega), w64 (by omega) (by omega)]
theorem Qow (a b : Int) : 0 ≤ farS a b := by unfold farS imax; split <;> omega
theorem Qrj {a b : Int} (ha : 0 ≤ a ∧ a ≤ 65536) (hb : 0 ≤ b ∧ b ≤ 65536) : farS a b ≤ 65536 := by unfold farS imax; split <;> omega
theorem QjE : ∀ (W p : List Int) (v : Int), p.length < W.length → dst W (p ++ [v]) = dst W p + farS v (nth W (p.length : Int))
 | [], p, v, h => by simp at h
 | w :: W, [], v, _ => by simp [dst, nth]
 | w :: W, x :: p, v, h => by
  have ih := QjE W p v (by simpa using h)
  unfold dst at *
  simp only [List.cons_append, List.zipWith_cons_cons, List.sum_cons, ih]
  have : nth (w :: W) ((x :: p).length : Int) = nth W (p.length : Int) := by simp [nth]
  rw [this]; omega
theorem QnQ (W p : List Int) : 0 ≤ dst W p := by
 unfold dst
 have : ∀ (p W : List Int), 0 ≤ (List.zipWith farS p W).sum := by
  intro p
  induction p with
  | nil => intro W; simp
  | cons x p ih =>
   intro W
   cases W with
   | nil => simp
   | cons w W => simp only [List.zipWith_cons_cons, List.sum_cons]; have := ih W; have := Qow x w; omega
 exact this p W
theorem dst_le {W p : List Int} (hp : ∀ z ∈ p, 0 ≤ z ∧ z ≤ 65536) (hW : ∀ z ∈ W, 0 ≤ z ∧ z ≤ 65536) : dst W p ≤ p.length * 65536 := by
 unfold dst
 induction p generalizing W with
 | nil => simp
 | cons x p ih =>
  cases W with
  | nil => simp; omega
  | cons w W =>
   have h1 := ih (fun z hz => hp z (List.mem_cons_of_mem _ hz)) (fun z hz => hW z (List.mem_cons_of_mem _ hz))
   have h2 := Qrj (hp x (List.mem_cons_self ..)) (hW w (List.mem_cons_self ..))
   simp only [List.zipWith_cons_cons, List.sum_cons, List.length_cons]
   omega
/-- What lies behind some first numbers is not nearer. -/
theorem QnR {L : List Qb} {W : List Int} {D : List Bool} : ∀ (m : Nat) (p : List Int), p.length + m = W.length → ∀ x ∈ Qaz L W D m p, dst W p ≤ dst W x
 | 0, p, _, x, hx => by rw [List.mem_singleton.1 hx]; exact Int.le_refl _
 | m + 1, p, h, x, hx => by
  have step : ∀ v, x ∈ Qaz L W D m (p ++ [v]) → dst W p ≤ dst W x := fun v hv => by
   have h1 := QnR m (p ++ [v]) (by simp; omega) x hv
   rw [QjE W p v (by omega)] at h1
   have := Qow v (nth W (p.length : Int))
   omega
  unfold Qaz at hx
  split at hx
  ·cases hx
  ·split at hx
   ·obtain ⟨v, _, hv⟩ := List.mem_flatMap.1 hx
    exact step v hv
   ·exact step _ hx
theorem Qwa {W : List Int} {b : Ql × Int} {l : List (List Int)} (hb : 0 ≤ b.2) (h : ∀ x ∈ l, b.2 < dst W x) : l.foldl (upd W) b = b := by
 induction l with
 | nil => rfl
 | cons x l ih =>
  have hx := h x (List.mem_cons_self ..)
  have e : upd W b x = b := by unfold upd; rw [if_neg]; rintro (h | h | ⟨h, _⟩) <;> omega
  rw [List.foldl_cons, e]
  exact ih fun y hy => h y (List.mem_cons_of_mem _ hy)

theorem QrN : ∀ (a b : List Int), a.length = b.length → a.length ≤ 1000000 → Qbg a b = some (cmpL a b) := by
 intro a b hl hn
 have key : Ok (Qbg a b) (fun r => r = cmpL a b) := by
  unfold Qbg
  refine Ok.bind (P := fun e : Unit ⊕ Int => (match e with | .inl _ => (0:Int) | .inr r => r) = cmpL a b) (Ok.loop (fun m s => 0 ≤ s ∧ s + m = a.length ∧ cmpL (a.drop s.toNat) (b.drop s.toNat) = cmpL a b) a.length ⟨Int.le_refl _, by omega, by simp⟩ fun m s hs => ?_) (fun e he => ?_)
  ·obtain ⟨h1, h2, h3⟩ := hs
   obtain ⟨k, rfl⟩ := Int.eq_ofNat_of_zero_le h1
   rw [Int.toNat_natCast] at h3
   refine Ok.ite (fun hc => ?_) (fun hc => ?_)
   ·have hk : k < a.length := by simpa using hc
    have hk2 : k < b.length := by omega
    rw [Qak hk]
    simp only [Option.bind_some]
    rw [if_neg (by simp; omega), Qak hk2]
    rw [List.drop_eq_getElem_cons hk, List.drop_eq_getElem_cons hk2] at h3
    simp only [Option.bind_some]
    unfold Qc6 Qc5
    simp only [Option.bind_some, bne_self_eq_false]
    rw [Qtc] at h3
    by_cases e1 : a[k] < b[k]
    ·rw [if_pos e1] at h3
     simp only [Bool.false_eq_true, if_false, e1, decide_true, if_true, Option.bind_some]
     exact Ok.mk h3
    ·rw [if_neg e1] at h3
     by_cases e2 : b[k] < a[k]
     ·rw [if_pos e2] at h3
      simp only [Bool.false_eq_true, if_false, e1, decide_false, gt_iff_lt, e2, decide_true, if_true, Option.bind_some]
      exact Ok.mk h3
     ·rw [if_neg e2] at h3
      simp only [Bool.false_eq_true, if_false, e1, decide_false, gt_iff_lt, e2, Option.bind_some, bne_self_eq_false]
      rw [Qab hk (by omega)]
      exact Ok.mk ⟨m - 1, by omega, by omega, by omega, by rw [Int.toNat_natCast]; exact h3⟩
   ·have hk : ¬ k < a.length := by simpa using hc
    rw [List.drop_eq_nil_of_le (by omega), List.drop_eq_nil_of_le (by omega)] at h3
    exact Ok.mk h3
  ·cases e with
   | inl u =>
    show Ok (if _ then _ else _) _
    rw [if_neg (by simp; omega)]
    exact Ok.mk he
   | inr r => exact Ok.mk he
 obtain ⟨r, hr, rfl⟩ := key
 exact hr

end Go.Proofs.YtcdccjagknlmpaaGreatDoor

namespace Go.Proofs.YtcdccjagknlmpaaGreatDoor
open Go.Sim

/-- What is known of a search: the limits are valid, the wanted numbers are numbers. -/
structure SrOk (L : List Qb) (W : List Int) (D : List Bool) : Prop where
 few : L.length ≤ 1000000
 lim : ∀ y ∈ L, VL y 6
 want : ∀ z ∈ W, 0 ≤ z ∧ z ≤ 65536
 six : W.length ≤ 6
 leads : D.length = W.length
def NumP (p : List Int) : Prop := ∀ z ∈ p, 0 ≤ z ∧ z ≤ 65536
theorem Qm3 {p : List Int} (h : NumP p) (j : Int) : 0 ≤ nth p j ∧ nth p j ≤ 65536 := by
 unfold nth
 rw [List.getD_eq_getElem?_getD]
 cases hj : p[j.toNat]? with
 | none => simp
 | some x => exact h x (List.mem_of_getElem? hj)
theorem Qwb {y : Qb} {p : List Int} (hy : VL y 6) : bndS y (padV p).L = bndS y p := by
 unfold bndS
 by_cases hb : y.B < 0
 ·rw [if_pos hb, if_pos hb]
 ·rw [if_neg hb, if_neg hb, Qov (by omega) hy.b1]
theorem Qrk {p : List Int} (h : NumP p) : ∀ z ∈ (padV p).L, 0 ≤ z ∧ z ≤ 65536 := by
 intro z hz
 simp only [padV, Ql.L, List.mem_cons, List.not_mem_nil, or_false] at hz
 rcases hz with rfl | rfl | rfl | rfl | rfl | rfl <;> exact Qm3 h _
theorem Qwc {L : List Qb} {W : List Int} {D : List Bool} (h : SrOk L W D) {p : List Int} (hp : NumP p) (hl : p.length ≤ 6) (best : Ql) (cost : Int) :
  Qbh ⟨L, W, D, padV p, best, cost⟩ (p.length : Int) = some (Qau L p) := by
 let st : Nat → Int × Int := fun k => (L.take k).foldl (fun r l => if (l.A != (p.length : Int) || decide (l.B ≥ (p.length : Int))) = true then r else if l.Least = true then (imax r.1 (bndS l p), r.2) else (r.1, imin r.2 (bndS l p))) (0, 65536)
 unfold Qbh
 refine QgW L.length (fun k => ((k : Int), (st k).1, (st k).2)) ((st L.length).1, (st L.length).2) rfl (fun k hk => ?_) ?_ ?_
 ·dsimp only
  have hy := h.lim _ (List.getElem_mem hk)
  have es : st (k + 1) = if (L[k].A != (p.length : Int) || decide (L[k].B ≥ (p.length : Int))) = true then st k else if L[k].Least = true then (imax (st k).1 (bndS L[k] p), (st k).2) else ((st k).1, imin (st k).2 (bndS L[k] p)) := by
   show (L.take (k + 1)).foldl _ _ = _
   rw [List.take_succ_eq_append_getElem hk, List.foldl_append]
   rfl
  rw [if_pos (by simpa using hk), Qak hk]
  have hb : QaF L[k] (padV p).L = some (bndS L[k] p) := by
   rw [Qp5 (hy) (Qrk hp), Qwb hy]
  simp only [Option.bind_some, hb, es, Qab hk (show L.length ≤ 9223372036854775807 by have := h.few; omega)]
  cases (L[k].A != (p.length : Int) || decide (L[k].B ≥ (p.length : Int))) with
  | true => rfl
  | false =>
   simp only [Bool.false_eq_true, if_false]
   cases L[k].Least <;> rfl
 ·dsimp only
  rw [if_neg (by simp)]
 ·show some ((st L.length).1, (st L.length).2) = _
  have : st L.length = Qau L p := by show (L.take L.length).foldl _ _ = _; rw [List.take_length]; rfl
  rw [this]
/-- The numbers that are tried are numbers. -/
theorem Quk {L : List Qb} {W : List Int} {D : List Bool} (h : SrOk L W D) {p : List Int} (hp : NumP p) : 0 ≤ (Qau L p).1 ∧ (Qau L p).2 ≤ 65536 := by
 unfold Qau
 have key : ∀ (L' : List Qb) (r : Int × Int), (∀ y ∈ L', VL y 6) → 0 ≤ r.1 ∧ r.2 ≤ 65536 →
   0 ≤ (L'.foldl (fun r l => if (l.A != (p.length : Int) || decide (l.B ≥ (p.length : Int))) = true then r else if l.Least = true then (imax r.1 (bndS l p), r.2) else (r.1, imin r.2 (bndS l p))) r).1 ∧
   (L'.foldl (fun r l => if (l.A != (p.length : Int) || decide (l.B ≥ (p.length : Int))) = true then r else if l.Least = true then (imax r.1 (bndS l p), r.2) else (r.1, imin r.2 (bndS l p))) r).2 ≤ 65536 := by
  intro L'
  induction L' with
  | nil => intro r _ hr; exact hr
  | cons y L' ih =>
   intro r hL hr
   rw [List.foldl_cons]
   refine ih _ (fun z hz => hL z (List.mem_cons_of_mem _ hz)) ?_
   split
   ·exact hr
   ·split
    ·exact ⟨by unfold imax; split <;> omega, hr.2⟩
    ·exact ⟨hr.1, by unfold imin; split <;> omega⟩
 exact key L (0, 65536) h.lim ⟨Int.le_refl _, Int.le_refl _⟩

theorem Qul {lo hi : Int} (h : hi < lo) : seqI lo hi = [] := by
 unfold seqI
 rw [show (hi - lo + 1).toNat = 0 by omega]; rfl
theorem Qtd {lo hi : Int} (h : lo ≤ hi) : seqI lo hi = lo :: seqI (lo + 1) hi := by
 unfold seqI
 rw [show (hi - lo + 1).toNat = (hi - (lo + 1) + 1).toNat + 1 by omega, List.range_succ_eq_map, List.map_cons, List.map_map]
 congr 1
 ·simp
 ·refine List.map_congr_left fun i _ => ?_
  show lo + ((i + 1 : Nat) : Int) = lo + 1 + (i : Int)
  omega
/-- A loop over numbers that changes a state. -/
theorem Qo0 {S : Type} {hi : Int} {Y : S → Int → Option S} (F : S → Int → S) (I : S → Prop) (hhi : hi ≤ 65536) : ∀ (c : Nat) (lo : Int) (s : S), (hi - lo + 1).toNat = c → 0 ≤ lo → lo ≤ 65537 → I s →
  (∀ s v, I s → lo ≤ v → v ≤ hi → Y s v = some (F s v) ∧ I (F s v)) →
  QI (fun (s5 : Int × S) => ((opt (decide (s5.1 ≤ hi)) (Y s5.2 s5.1) s5.2).bind fun t38 => (if (decide (s5.1 ≤ hi)) = true then (some (.inl (IntKind.i64.wrap (s5.1 + (1:Int)), t38))) else (some (.inr t38))))) (lo, s) = some ((seqI lo hi).foldl F s)
 | 0, lo, s, hc, h0, h1, hI, hY => by
  rw [QbE]
  have e : decide (lo ≤ hi) = false := by simp; omega
  dsimp only
  rw [e, QsH, Qul (by omega)]
  rfl
 | c + 1, lo, s, hc, h0, h1, hI, hY => by
  rw [QbE]
  have hle : lo ≤ hi := by omega
  have e : decide (lo ≤ hi) = true := by simp; omega
  obtain ⟨y1, y2⟩ := hY s lo hI (Int.le_refl _) hle
  dsimp only
  rw [e, Qfg, y1]
  simp only [Option.bind_some, if_true]
  rw [w64 (by omega) (by omega), Qo0 F I hhi c (lo + 1) (F s lo) (by omega) (by omega) (by omega) y2 (fun s v hs h2 h3 => hY s v hs (by omega) h3), Qtd hle]
  rfl

theorem set_set {a : Ql} {k : Nat} {u v : Int} (h : k < 6) : (a.setI (k : Int) v).setI (k : Int) u = a.setI (k : Int) u := by
 unfold Ql.setI
 match k, h with
 | 0, _ => rfl
 | 1, _ => rfl
 | 2, _ => rfl
 | 3, _ => rfl
 | 4, _ => rfl
 | 5, _ => rfl
theorem getD_lt' {α : Type} {l : List α} {z : α} {i : Nat} (h : i < l.length) : l.getD i z = l[i] := by simp [List.getD_eq_getElem?_getD, h]
theorem Qte {L : List Qb} {W : List Int} {D : List Bool} (h : SrOk L W D) : ∀ (m N : Nat) (p : List Int) (b : Ql × Int), m < N → p.length + m = W.length → NumP p →
  QaV N ⟨L, W, D, padV p, b.1, b.2⟩ (p.length : Int) (dst W p) = some ⟨L, W, D, padV p, ((Qaz L W D m p).foldl (upd W) b).1, ((Qaz L W D m p).foldl (upd W) b).2⟩
 | m, 0, p, b, hm, _, _ => absurd hm (Nat.not_lt_zero _)
 | m, N + 1, p, b, hm, hl, hp => by
  show QbC (QaV N) ⟨L, W, D, padV p, b.1, b.2⟩ (p.length : Int) (dst W p) = _
  have h6 := h.six
  have d0 := QnQ W p
  have d1 := dst_le hp h.want
  unfold QbC
  by_cases hpr : 0 ≤ b.2 ∧ b.2 < dst W p
  ·rw [if_pos (by simpa using hpr), Qwa hpr.1 fun x hx => Int.lt_of_lt_of_le hpr.2 (QnR m p hl x hx)]
  ·rw [if_neg (by simpa using hpr)]
   cases m with
   | zero =>
    have hlen : p.length = W.length := by omega
    rw [if_pos (by simp [hlen])]
    show _ = some (⟨L, W, D, padV p, (upd W b p).1, (upd W b p).2⟩ : Qp)
    have hc := QrN (padV p).L b.1.L rfl (by simp [Ql.L])
    by_cases h1 : b.2 < 0 ∨ dst W p < b.2
    ·have e1 : (decide (b.2 < 0) || decide (dst W p < b.2)) = true := by simpa using h1
     have e2 : upd W b p = (padV p, dst W p) := if_pos (by rcases h1 with h1 | h1 <;> simp [h1])
     rw [e1, e2]
     rfl
    ·have e1 : (decide (b.2 < 0) || decide (dst W p < b.2)) = false := by simp; omega
     have heq : dst W p = b.2 := by omega
     rw [e1]
     simp only [Bool.false_or, show (false == false) = true from rfl, Bool.true_and]
     by_cases hne : Qbj (padV p) b.1 = true
     ·have hsame : padV p = b.1 := by
       simp only [Qbj, Bool.and_eq_true, beq_iff_eq] at hne
       obtain ⟨⟨⟨⟨⟨q0, q1⟩, q2⟩, q3⟩, q4⟩, q5⟩ := hne
       cases hb : b.1
       rw [hb] at q0 q1 q2 q3 q4 q5
       simp only [padV] at *
       simp [q0, q1, q2, q3, q4, q5]
      have hu : upd W b p = b := by
       unfold upd
       split
       ·exact Prod.ext hsame heq
       ·rfl
      rw [hne, hu]
      rfl
     ·have hne' : Qbj (padV p) b.1 = false := by simpa using hne
      rw [hne']
      simp only [Bool.not_false, show (true == true) = true from rfl, Qfg, hc, Option.bind_some, Bool.true_and]
      by_cases hl0 : cmpL (padV p).L b.1.L < 0
      ·have hu : upd W b p = (padV p, dst W p) := if_pos (.inr (.inr ⟨heq, hl0⟩))
       rw [if_pos (by simpa using hl0), hu]
       rfl
      ·have hu : upd W b p = b := if_neg (by rintro (g | g | ⟨_, g⟩) <;> omega)
       rw [if_neg (by simpa using hl0), hu]
       rfl
   | succ m =>
    have hlt : p.length < W.length := by omega
    have hp6 : p.length < 6 := by omega
    rw [if_neg (by simp; omega), Qwc h hp (by omega)]
    simp only [Option.bind_some]
    obtain ⟨r0, r1⟩ := Quk h hp
    have hW := Qm3 (p := W) h.want (p.length : Int)
    have hset : ∀ v, (padV p).setI (p.length : Int) v = padV (p ++ [v]) := fun v => Qkx hp6
    have pset : ∀ v u, (padV (p ++ [v])).setI (p.length : Int) u = padV (p ++ [u]) := fun v u => by
     rw [← Qkx hp6, ← Qkx hp6]
     exact set_set hp6
    -- one round
    have round0 : ∀ (b : Ql × Int) (now : Ql) (v : Int), 0 ≤ v → v ≤ 65536 → (∀ u, now.setI (p.length : Int) u = padV (p ++ [u])) →
      (((idx (now).L (p.length : Int)).bind fun t83 => (QcG v (nth W (p.length : Int))).bind fun t96 => (QaV N (Qp.mk L W D ((now).setI (p.length : Int) v) b.1 b.2) (IntKind.i64.wrap ((p.length : Int) + (1:Int))) (IntKind.i64.wrap (dst W p + t96))).bind fun t98 => (some t98))) =
      some ⟨L, W, D, padV (p ++ [v]), ((Qaz L W D m (p ++ [v])).foldl (upd W) b).1, ((Qaz L W D m (p ++ [v])).foldl (upd W) b).2⟩ := by
     intro b now v v0 v1 hnow
     have hnp : NumP (p ++ [v]) := fun z hz => by
      rcases List.mem_append.1 hz with hz | hz
      ·exact hp z hz
      ·rw [List.mem_singleton.1 hz]; exact ⟨v0, v1⟩
     have hf := Qrj (a := v) (b := nth W (p.length : Int)) ⟨v0, v1⟩ hW
     have hf0 := Qow v (nth W (p.length : Int))
     rw [QfE (by omega) (by simp [Ql.L]; omega)]
     simp only [Option.bind_some]
     rw [far_is _ _ ⟨v0, v1⟩ hW]
     simp only [Option.bind_some]
     have hb6 : (p.length : Int) * 65536 ≤ 393216 := by omega
     rw [hnow, w64 (by omega) (by omega), w64 (by omega) (by omega), ← QjE W p v hlt]
     have ih := Qte h m N (p ++ [v]) b (by omega) (by simp; omega) hnp
     rw [show (((p ++ [v]).length : Nat) : Int) = (p.length : Int) + 1 by simp] at ih
     rw [ih]
     rfl
    have round : ∀ (b : Ql × Int) (now : Ql) (v : Int), 0 ≤ v → v ≤ 65536 → (∀ u, now.setI (p.length : Int) u = padV (p ++ [u])) →
      (((idx (now).L (p.length : Int)).bind fun t83 => (idx W (p.length : Int)).bind fun t94 => (QcG v t94).bind fun t96 => (QaV N (Qp.mk L W D ((now).setI (p.length : Int) v) b.1 b.2) (IntKind.i64.wrap ((p.length : Int) + (1:Int))) (IntKind.i64.wrap (dst W p + t96))).bind fun t98 => (some t98))) =
      some ⟨L, W, D, padV (p ++ [v]), ((Qaz L W D m (p ++ [v])).foldl (upd W) b).1, ((Qaz L W D m (p ++ [v])).foldl (upd W) b).2⟩ := by
     intro b now v v0 v1 hnow
     rw [QfE (c := W) (by omega) (by omega)]
     exact round0 b now v v0 v1 hnow
    have hleaf : Qaz L W D (m + 1) p = if (Qau L p).2 < (Qau L p).1 then [] else if D.getD p.length false = true then (seqI (Qau L p).1 (Qau L p).2).flatMap fun v => Qaz L W D m (p ++ [v]) else Qaz L W D m (p ++ [imin (imax (nth W (p.length : Int)) (Qau L p).1) (Qau L p).2]) := rfl
    unfold Qbu
    by_cases hgt : (Qau L p).2 < (Qau L p).1
    ·rw [if_pos (by simpa using hgt), hleaf, if_pos hgt]
     simp only [Option.bind_some]
     rw [QfE (by omega) (by simp [Ql.L]; omega)]
     simp only [Option.bind_some]
     rw [hset, Qm2]
     rfl
    ·rw [if_neg (by simpa using hgt), hleaf, if_neg hgt]
     have hD : idx D (p.length : Int) = some (D.getD p.length false) := by
      have : p.length < D.length := by have := h.leads; omega
      rw [Qak this, getD_lt' this]
     rw [hD]
     simp only [Option.bind_some]
     cases hd : D.getD p.length false with
     | false =>
      rw [if_pos (by decide), if_neg (by decide), QfE (by omega) (by omega)]
      simp only [Option.bind_some]
      have hv : 0 ≤ imin (imax (nth W (p.length : Int)) (Qau L p).1) (Qau L p).2 ∧ imin (imax (nth W (p.length : Int)) (Qau L p).1) (Qau L p).2 ≤ 65536 := by
       constructor <;> (unfold imin imax; split <;> first | omega | (split <;> omega))
      rw [round0 b (padV p) _ hv.1 hv.2 hset]
      simp only [Option.bind_some]
      rw [QfE (by omega) (by simp [Ql.L]; omega)]
      simp only [Option.bind_some]
      rw [Quj hp6]
     | true =>
      rw [if_neg (by decide), if_pos rfl]
      let F : Qp → Int → Qp := fun s v => ⟨L, W, D, padV (p ++ [v]), ((Qaz L W D m (p ++ [v])).foldl (upd W) (s.best, s.cost)).1, ((Qaz L W D m (p ++ [v])).foldl (upd W) (s.best, s.cost)).2⟩
      have hfold : ∀ (l : List Int) (b : Ql × Int) (now : Ql), (∀ u, now.setI (p.length : Int) u = padV (p ++ [u])) → ∃ now', l.foldl F ⟨L, W, D, now, b.1, b.2⟩ = ⟨L, W, D, now', ((l.flatMap fun v => Qaz L W D m (p ++ [v])).foldl (upd W) b).1, ((l.flatMap fun v => Qaz L W D m (p ++ [v])).foldl (upd W) b).2⟩ ∧ ∀ u, now'.setI (p.length : Int) u = padV (p ++ [u]) := by
       intro l
       induction l with
       | nil => intro b now hn; exact ⟨now, rfl, hn⟩
       | cons v l ih =>
        intro b now hn
        rw [List.foldl_cons, List.flatMap_cons, List.foldl_append]
        exact ih _ _ (pset v)
      rw [Qo0 (S := Qp) (Y := fun s v => (idx (s).now.L (p.length : Int)).bind fun t83 => (idx s.want (p.length : Int)).bind fun t94 => (QcG v t94).bind fun t96 => (QaV N (Qp.mk s.limits s.want s.leads ((s).now.setI (p.length : Int) v) s.best s.cost) (IntKind.i64.wrap ((p.length : Int) + (1:Int))) (IntKind.i64.wrap (dst W p + t96))).bind fun t98 => (some t98)) F (fun s => ∃ (b : Ql × Int) (now : Ql), s = ⟨L, W, D, now, b.1, b.2⟩ ∧ ∀ u, now.setI (p.length : Int) u = padV (p ++ [u])) r1 _ _ _ rfl r0 (by omega) ⟨b, padV p, rfl, hset⟩ (fun s v hs hv0 hv1 => ?_)]
      ·obtain ⟨now', e1, e2⟩ := hfold (seqI (Qau L p).1 (Qau L p).2) b (padV p) hset
       rw [e1]
       simp only [Option.bind_some]
       rw [QfE (by omega) (by simp [Ql.L]; omega)]
       simp only [Option.bind_some]
       rw [e2, Qm2]
      ·obtain ⟨b', now, rfl, hn⟩ := hs
       exact ⟨round b' now v (by omega) (by omega) hn, ⟨_, _, rfl, pset v⟩⟩

end Go.Proofs.YtcdccjagknlmpaaGreatDoor

namespace Go.Proofs.YtcdccjagknlmpaaGreatDoor
open Go.Sim

/-- A number is within the room that the numbers before it leave. -/
def Qky (L : List Qb) (x : List Int) (i : Nat) : Prop := (Qau L (x.take i)).1 ≤ nth x (i : Int) ∧ nth x (i : Int) ≤ (Qau L (x.take i)).2
def Qkz (y : Qb) (p : List Int) (v : Int) : Prop := if y.Least = true then bndS y p ≤ v else v ≤ bndS y p

theorem Qo1 {p : List Int} {v : Int} : ∀ (L : List Qb) (r : Int × Int),
  (let s := L.foldl (fun r l => if (l.A != (p.length : Int) || decide (l.B ≥ (p.length : Int))) = true then r else if l.Least = true then (imax r.1 (bndS l p), r.2) else (r.1, imin r.2 (bndS l p))) r; (s.1 ≤ v ∧ v ≤ s.2)) ↔
  ((r.1 ≤ v ∧ v ≤ r.2) ∧ ∀ y ∈ L, y.A = (p.length : Int) → y.B < (p.length : Int) → Qkz y p v)
 | [], r => by simp
 | y :: L, r => by
  rw [List.foldl_cons]
  refine (Qo1 L _).trans ?_
  by_cases hs : (y.A != (p.length : Int) || decide (y.B ≥ (p.length : Int))) = true
  ·rw [if_pos hs]
   have hs' : ¬ (y.A = (p.length : Int) ∧ y.B < (p.length : Int)) := by
    simp only [Bool.or_eq_true, bne_iff_ne, ne_eq, decide_eq_true_eq] at hs
    omega
   constructor
   ·rintro ⟨h1, h2⟩
    refine ⟨h1, fun z hz ha hb => ?_⟩
    rcases List.mem_cons.1 hz with rfl | hz
    ·exact absurd ⟨ha, hb⟩ hs'
    ·exact h2 z hz ha hb
   ·rintro ⟨h1, h2⟩
    exact ⟨h1, fun z hz => h2 z (List.mem_cons_of_mem _ hz)⟩
  ·rw [if_neg hs]
   have hs' : y.A = (p.length : Int) ∧ y.B < (p.length : Int) := by
    simp only [Bool.or_eq_true, bne_iff_ne, ne_eq, decide_eq_true_eq] at hs
    omega
   have hk : ((if y.Least = true then (imax r.1 (bndS y p), r.2) else (r.1, imin r.2 (bndS y p)) : Int × Int).1 ≤ v ∧ v ≤ (if y.Least = true then (imax r.1 (bndS y p), r.2) else (r.1, imin r.2 (bndS y p)) : Int × Int).2) ↔ ((r.1 ≤ v ∧ v ≤ r.2) ∧ Qkz y p v) := by
    unfold Qkz imax imin
    cases y.Least <;> simp only [Bool.false_eq_true, if_false, if_true] <;> split <;> omega
   rw [hk]
   constructor
   ·rintro ⟨⟨h1, h3⟩, h2⟩
    refine ⟨h1, fun z hz ha hb => ?_⟩
    rcases List.mem_cons.1 hz with rfl | hz
    ·exact h3
    ·exact h2 z hz ha hb
   ·rintro ⟨h1, h2⟩
    exact ⟨⟨h1, h2 y (List.mem_cons_self ..) hs'.1 hs'.2⟩, fun z hz => h2 z (List.mem_cons_of_mem _ hz)⟩
theorem Qm4 (L : List Qb) (p : List Int) (v : Int) : ((Qau L p).1 ≤ v ∧ v ≤ (Qau L p).2) ↔ ((0 ≤ v ∧ v ≤ 65536) ∧ ∀ y ∈ L, y.A = (p.length : Int) → y.B < (p.length : Int) → Qkz y p v) :=
 Qo1 L (0, 65536)
theorem Qtf {p q : List Int} (hl : p.length = q.length) : ∀ (L : List Qb), (∀ y ∈ L, y.A = (p.length : Int) → y.B < (p.length : Int) → bndS y p = bndS y q) → Qau L p = Qau L q := by
 unfold Qau
 rw [← hl]
 generalize ((0, 65536) : Int × Int) = r
 intro L
 induction L generalizing r with
 | nil => intro _; rfl
 | cons y L ih =>
  intro h
  rw [List.foldl_cons, List.foldl_cons, ih _ (fun z hz => h z (List.mem_cons_of_mem _ hz))]
  by_cases hs : (y.A != (p.length : Int) || decide (y.B ≥ (p.length : Int))) = true
  ·rw [if_pos hs, if_pos hs]
  ·rw [if_neg hs, if_neg hs]
   simp only [Bool.or_eq_true, bne_iff_ne, ne_eq, decide_eq_true_eq] at hs
   rw [h y (List.mem_cons_self ..) (by omega) (by omega)]

theorem Qum {lo hi v : Int} : v ∈ seqI lo hi ↔ lo ≤ v ∧ v ≤ hi := by
 unfold seqI
 simp only [List.mem_map, List.mem_range]
 constructor
 ·rintro ⟨i, h, rfl⟩; omega
 ·intro h; exact ⟨(v - lo).toNat, by omega, by omega⟩
def QiG (L : List Qb) (W p : List Int) : Int := imin (imax (nth W (p.length : Int)) (Qau L p).1) (Qau L p).2
/-- One step of the search. -/
theorem Qo2 {L : List Qb} {W : List Int} {D : List Bool} {m : Nat} {p x : List Int} : x ∈ Qaz L W D (m + 1) p ↔
  ∃ v, ((Qau L p).1 ≤ v ∧ v ≤ (Qau L p).2) ∧ (D.getD p.length false = true ∨ v = QiG L W p) ∧ x ∈ Qaz L W D m (p ++ [v]) := by
 have e : Qaz L W D (m + 1) p = if (Qau L p).2 < (Qau L p).1 then [] else if D.getD p.length false = true then (seqI (Qau L p).1 (Qau L p).2).flatMap fun v => Qaz L W D m (p ++ [v]) else Qaz L W D m (p ++ [QiG L W p]) := rfl
 rw [e]
 by_cases h : (Qau L p).2 < (Qau L p).1
 ·rw [if_pos h]
  constructor
  ·intro h'; simp at h'
  ·rintro ⟨v, h', _⟩; omega
 ·rw [if_neg h]
  by_cases hd : D.getD p.length false = true
  ·rw [if_pos hd]
   simp only [List.mem_flatMap, Qum]
   constructor
   ·rintro ⟨v, hv, hx⟩; exact ⟨v, hv, .inl hd, hx⟩
   ·rintro ⟨v, hv, _, hx⟩; exact ⟨v, hv, hx⟩
  ·rw [if_neg hd]
   constructor
   ·intro hx
    refine ⟨QiG L W p, ?_, .inr rfl, hx⟩
    unfold QiG
    constructor <;> (unfold imin imax; split <;> first | omega | (split <;> omega))
   ·rintro ⟨v, _, hv, hx⟩
    rcases hv with hv | rfl
    ·exact absurd hv hd
    ·exact hx

theorem Qqn {x : List Int} {i : Nat} {j : Int} (h0 : 0 ≤ j) (h1 : j < (i : Int)) : nth (x.take i) j = nth x j := by
 unfold nth
 rw [List.getD_eq_getElem?_getD, List.getD_eq_getElem?_getD, List.getElem?_take_of_lt (by omega)]
theorem Qo3 {x : List Int} {i : Nat} (h : i < x.length) : x.take (i + 1) = x.take i ++ [nth x (i : Int)] := by
 rw [List.take_succ_eq_append_getElem h]
 unfold nth
 rw [Int.toNat_natCast, getD_lt' h]

theorem Qrl {L : List Qb} {W : List Int} {D : List Bool} : ∀ (m : Nat) (p : List Int), p.length + m = W.length → ∀ x ∈ Qaz L W D m p,
  x.length = W.length ∧ x.take p.length = p ∧ ∀ i, p.length ≤ i → i < W.length → Qky L x i
 | 0, p, h, x, hx => by
  have : x = p := by simpa [Qaz] using hx
  subst this
  exact ⟨by omega, List.take_length, fun i h1 h2 => by omega⟩
 | m + 1, p, h, x, hx => by
  obtain ⟨v, hv, _, hx⟩ := Qo2.1 hx
  obtain ⟨h1, h2, h3⟩ := Qrl m (p ++ [v]) (by simp; omega) x hx
  rw [show (p ++ [v]).length = p.length + 1 by simp] at h2 h3
  have h4 : x.take p.length = p := by
   have := congrArg (List.take p.length) h2
   rw [List.take_take, List.take_append_of_le_length (Nat.le_refl _), List.take_length, show min p.length (p.length + 1) = p.length by omega] at this
   exact this
  have h5 : nth x (p.length : Int) = v := by
   have e := Qo3 (x := x) (i := p.length) (by omega)
   rw [h2, h4] at e
   exact ((List.cons.inj (List.append_cancel_left e)).1).symm
  refine ⟨h1, h4, fun i h6 h7 => ?_⟩
  by_cases h8 : i = p.length
  ·subst h8
   unfold Qky
   rw [h4, h5]
   exact hv
  ·exact h3 i (by omega) h7

/-- None that keep all limits are nearer than the nearest leaf. -/
theorem Qo4 {L : List Qb} {W : List Int} {D : List Bool} (hD : ∀ y ∈ L, 0 ≤ y.B → D.getD y.B.toNat false = true) {o : List Int} (ho : o.length = W.length) :
  ∀ (m : Nat) (p : List Int), p.length + m = W.length → (∀ j : Nat, j < p.length → D.getD j false = true → nth p (j : Int) = nth o (j : Int)) → dst W p ≤ dst W (o.take p.length) →
   (∀ i, p.length ≤ i → i < W.length → Qky L o i) → ∃ x ∈ Qaz L W D m p, dst W x ≤ dst W o
 | 0, p, h, _, hd, _ => by
  refine ⟨p, by simp [Qaz], ?_⟩
  rw [List.take_of_length_le (by omega)] at hd
  exact hd
 | m + 1, p, h, hp, hd, hr => by
  have hlt : p.length < o.length := by omega
  have hl : (o.take p.length).length = p.length := by rw [List.length_take]; omega
  have hroom : Qau L p = Qau L (o.take p.length) := Qtf hl.symm L fun y hy _ hb => by
   unfold bndS
   by_cases h0 : y.B < 0
   ·rw [if_pos h0, if_pos h0]
   ·rw [if_neg h0, if_neg h0, Qqn (by omega) hb]
    have := hp y.B.toNat (by omega) (hD y hy (by omega))
    rw [Int.toNat_of_nonneg (by omega)] at this
    rw [this]
  have hin := hr p.length (Nat.le_refl _) (by omega)
  unfold Qky at hin
  rw [← hroom] at hin
  have key : ∃ v, ((Qau L p).1 ≤ v ∧ v ≤ (Qau L p).2) ∧ (D.getD p.length false = true ∨ v = QiG L W p) ∧ (D.getD p.length false = true → v = nth o (p.length : Int)) ∧ farS v (nth W (p.length : Int)) ≤ farS (nth o (p.length : Int)) (nth W (p.length : Int)) := by
   by_cases hd : D.getD p.length false = true
   ·exact ⟨_, hin, .inl hd, fun _ => rfl, Int.le_refl _⟩
   ·refine ⟨QiG L W p, ?_, .inr rfl, fun h => absurd h hd, ?_⟩
    ·unfold QiG
     constructor <;> (unfold imin imax; split <;> first | omega | (split <;> omega))
    ·unfold QiG farS imin imax
     split <;> split <;> split <;> split <;> omega
  obtain ⟨v, k1, k2, k3, k4⟩ := key
  obtain ⟨x, hx, hx'⟩ := Qo4 hD ho m (p ++ [v]) (by simp; omega) (fun j hj hdj => by
   rw [Qou (by omega)]
   by_cases e : j = p.length
   ·subst e; rw [if_pos rfl]; exact k3 hdj
   ·rw [if_neg (by omega)]
    have : j < p.length := by simp at hj; omega
    exact hp j this hdj) (by
   rw [show (p ++ [v]).length = p.length + 1 by simp, Qo3 hlt, QjE W p v (by omega), QjE W (o.take p.length) _ (by omega), hl]
   omega) (fun i hi hi' => hr i (by simp at hi; omega) hi')
  exact ⟨x, Qo2.2 ⟨v, k1, k2, hx⟩, hx'⟩

theorem QmD {y : Qb} {x : List Int} (h0 : 0 ≤ y.A) (hBA : y.B < y.A) : Qkz y (x.take y.A.toNat) (nth x y.A) ↔ Qcc y x = true := by
 have e : bndS y (x.take y.A.toNat) = bndS y x := by
  unfold bndS
  by_cases hb : y.B < 0
  ·rw [if_pos hb, if_pos hb]
  ·rw [if_neg hb, if_neg hb, Qqn (by omega) (by omega)]
 unfold Qkz Qcc
 rw [e]
 cases y.Least <;> simp

/-- Numbers within their rooms are the ones that keep all limits. -/
theorem Qo5 {L : List Qb} {x : List Int} (hv : ∀ y ∈ L, VL y (x.length : Int)) (hBA : ∀ y ∈ L, y.B < y.A) : (∀ i, i < x.length → Qky L x i) ↔ (NumP x ∧ ∀ y ∈ L, Qcc y x = true) := by
 constructor
 ·intro h
  refine ⟨fun z hz => ?_, fun y hy => ?_⟩
  ·obtain ⟨i, hi, rfl⟩ := List.getElem_of_mem hz
   have := ((Qm4 _ _ _).1 (h i hi)).1
   unfold nth at this
   rw [Int.toNat_natCast, getD_lt' hi] at this
   exact this
  ·have a0 := (hv y hy).a0
   have a1 := (hv y hy).a1
   have hi : y.A.toNat < x.length := by omega
   have hl : (x.take y.A.toNat).length = y.A.toNat := by rw [List.length_take]; omega
   have := ((Qm4 _ _ _).1 (h _ hi)).2 y hy (by rw [hl]; omega) (by rw [hl]; have := hBA y hy; omega)
   rw [Int.toNat_of_nonneg a0] at this
   exact (QmD a0 (hBA y hy)).1 this
 ·rintro ⟨h1, h2⟩ i hi
  refine (Qm4 _ _ _).2 ⟨Qm3 h1 _, fun y hy ha _ => ?_⟩
  have hl : (x.take i).length = i := by rw [List.length_take]; omega
  rw [hl] at ha
  have := (QmD (x := x) (hv y hy).a0 (hBA y hy)).2 (h2 y hy)
  rw [ha, Int.toNat_natCast] at this
  exact this

end Go.Proofs.YtcdccjagknlmpaaGreatDoor

namespace Go.Proofs.YtcdccjagknlmpaaGreatDoor
open Go.Sim

/-- The best of some lists of numbers. -/
theorem Qmk {W : List Int} : ∀ (l : List (List Int)) (b : Ql × Int), 0 ≤ b.2 →
  0 ≤ (l.foldl (upd W) b).2 ∧ (l.foldl (upd W) b).2 ≤ b.2 ∧ (∀ x ∈ l, (l.foldl (upd W) b).2 ≤ dst W x) ∧ (l.foldl (upd W) b = b ∨ ∃ x ∈ l, l.foldl (upd W) b = (padV x, dst W x))
 | [], b, h => ⟨h, Int.le_refl _, by simp, .inl rfl⟩
 | x :: l, b, h => by
  rw [List.foldl_cons]
  have hx := QnQ W x
  by_cases hc : b.2 < 0 ∨ dst W x < b.2 ∨ (dst W x = b.2 ∧ cmpL (padV x).L b.1.L < 0)
  ·have e : upd W b x = (padV x, dst W x) := if_pos hc
   rw [e]
   obtain ⟨h1, h2, h3, h4⟩ := Qmk (W := W) l (padV x, dst W x) hx
   dsimp only at h2
   refine ⟨h1, by omega, fun z hz => ?_, .inr ?_⟩
   ·rcases List.mem_cons.1 hz with rfl | hz
    ·exact h2
    ·exact h3 z hz
   ·rcases h4 with h4 | ⟨z, hz, h4⟩
    ·exact ⟨x, List.mem_cons_self .., h4⟩
    ·exact ⟨z, List.mem_cons_of_mem _ hz, h4⟩
  ·have e : upd W b x = b := if_neg hc
   rw [e]
   obtain ⟨h1, h2, h3, h4⟩ := Qmk (W := W) l b h
   refine ⟨h1, h2, fun z hz => ?_, ?_⟩
   ·rcases List.mem_cons.1 hz with rfl | hz
    ·omega
    ·exact h3 z hz
   ·rcases h4 with h4 | ⟨z, hz, h4⟩
    ·exact .inl h4
    ·exact .inr ⟨z, List.mem_cons_of_mem _ hz, h4⟩
/-- What the search finds. -/
def Qdv (L : List Qb) (W : List Int) (D : List Bool) : Ql × Int := (Qaz L W D W.length []).foldl (upd W) (padV [], -1)
theorem Qtg {L : List Qb} {W : List Int} {D : List Bool} : (Qdv L W D).2 < 0 ↔ Qaz L W D W.length [] = [] := by
 unfold Qdv
 cases Qaz L W D W.length [] with
 | nil => simp
 | cons x l =>
  rw [List.foldl_cons]
  have e : upd W (padV [], -1) x = (padV x, dst W x) := if_pos (.inl (by decide))
  rw [e]
  have := (Qmk (W := W) l (padV x, dst W x) (QnQ W x)).1
  simp only [List.cons_ne_nil, iff_false]
  omega
theorem Qth {L : List Qb} {W : List Int} {D : List Bool} (h : 0 ≤ (Qdv L W D).2) : ∃ x ∈ Qaz L W D W.length [], Qdv L W D = (padV x, dst W x) ∧ ∀ z ∈ Qaz L W D W.length [], dst W x ≤ dst W z := by
 unfold Qdv at h ⊢
 cases hl : Qaz L W D W.length [] with
 | nil => rw [hl] at h; simp at h
 | cons x l =>
  rw [List.foldl_cons]
  have e : upd W (padV [], -1) x = (padV x, dst W x) := if_pos (.inl (by decide))
  rw [e]
  obtain ⟨h1, h2, h3, h4⟩ := Qmk (W := W) l (padV x, dst W x) (QnQ W x)
  dsimp only at h2
  rcases h4 with h4 | ⟨z, hz, h4⟩
  ·rw [h4] at h3
   refine ⟨x, List.mem_cons_self .., h4, fun z hz => ?_⟩
   rcases List.mem_cons.1 hz with rfl | hz
   ·exact Int.le_refl _
   ·exact h3 z hz
  ·rw [h4] at h2 h3
   refine ⟨z, List.mem_cons_of_mem _ hz, h4, fun y hy => ?_⟩
   rcases List.mem_cons.1 hy with rfl | hy
   ·exact h2
   ·exact h3 y hy

/-- Which kinds lead. -/
def QcQ (L : List Qb) (n : Nat) : List Bool := L.foldl (fun d y => if y.B ≥ 0 then d.set y.B.toNat true else d) (List.replicate n false)
theorem Qo6 : ∀ (L : List Qb) (d : List Bool), (L.foldl (fun d y => if y.B ≥ 0 then d.set y.B.toNat true else d) d).length = d.length
 | [], d => rfl
 | y :: L, d => by
  rw [List.foldl_cons, Qo6 L]
  split
  ·exact List.length_set
  ·rfl
theorem QnS : ∀ (L : List Qb) (d : List Bool) (j : Nat), d.getD j false = true → (L.foldl (fun d y => if y.B ≥ 0 then d.set y.B.toNat true else d) d).getD j false = true
 | [], d, j, h => h
 | y :: L, d, j, h => by
  rw [List.foldl_cons]
  refine QnS L _ j ?_
  split
  ·rw [List.getD_eq_getElem?_getD, List.getElem?_set]
   rw [List.getD_eq_getElem?_getD] at h
   by_cases e : y.B.toNat = j
   ·subst e
    rw [if_pos rfl]
    split
    ·rfl
    ·rename_i hh
     rw [List.getElem?_eq_none (by omega)] at h
     exact h
   ·rw [if_neg e]; exact h
  ·exact h
theorem QnT : ∀ (L : List Qb) (d : List Bool), (∀ y ∈ L, y.B < (d.length : Int)) → ∀ y ∈ L, 0 ≤ y.B → (L.foldl (fun d y => if y.B ≥ 0 then d.set y.B.toNat true else d) d).getD y.B.toNat false = true
 | [], d, _, y, hy, _ => by cases hy
 | z :: L, d, hL, y, hy, hb => by
  rw [List.foldl_cons]
  rcases List.mem_cons.1 hy with rfl | hy
  ·refine QnS L _ _ ?_
   rw [if_pos hb]
   have := hL y (List.mem_cons_self ..)
   rw [List.getD_eq_getElem?_getD, List.getElem?_set, if_pos rfl, if_pos (by omega)]
   rfl
  ·refine QnT L _ (fun w hw => ?_) y hy hb
   have := hL w (List.mem_cons_of_mem _ hw)
   split
   ·rw [List.length_set]; exact this
   ·exact this
/-- How many lists of numbers may be tried. -/
def Qdw (x : Qg) (d : List Bool) : Nat → Int
 | 0 => 1
 | k + 1 => match x.Kinds[k]? with
  | some q => if (d.getD k false && decide (Qdw x d k ≤ 131072)) = true then Qdw x d k * (q.Hi - q.Lo + 1) else Qdw x d k
  | none => Qdw x d k
noncomputable def Qpu (x : Qg) (L : List Qb) (want : List Int) : List Int × Int :=
 if want.length ≠ x.Kinds.length ∨ numL want = false then ([], 1)
 else if 131072 < Qdw x (QcQ L want.length) x.Kinds.length then ([], 4)
 else if (Qdv L want (QcQ L want.length)).2 < 0 then ([], 14)
 else ((Qdv L want (QcQ L want.length)).1.L.take want.length, 0)
theorem VL.weak {y : Qb} {a b : Int} (h : VL y a) (hab : a ≤ b) : VL y b := ⟨h.a0, by have := h.a1; omega, h.b0, by have := h.b1; omega, h.m0, h.m1⟩
theorem Qox {c : List Int} : numL c = true ↔ NumP c := by
 unfold numL NumP isN
 simp [List.all_eq_true]
theorem Qwd {x : Qg} {want : List Int} {L : List Qb} {nm : List Str} (hLim : Qa2 x = some (L, nm, 0)) (hk : x.Kinds.length ≤ 6) (hK : ∀ k ∈ x.Kinds, 0 ≤ k.Lo ∧ k.Lo ≤ k.Hi ∧ k.Hi ≤ 65536)
  (hL : ∀ y ∈ L, VL y (x.Kinds.length : Int)) (hf : L.length ≤ 1000000) (hw : want.length ≤ 1000000) : Qbq x want = some (Qpu x L want) := by
 unfold Qbq
 rw [hLim]
 simp only [Option.bind_some]
 rw [if_neg (by decide)]
 unfold Qpu
 have hq : ∀ z ∈ want, Qc4 z = some (!isN z) := fun z _ => by
  unfold Qc4
  rfl
 by_cases hn : want.length = x.Kinds.length
 ·have e0 : ((want.length : Int) != (x.Kinds.length : Int)) = false := by simp [hn]
  rw [e0]
  simp only [show (false == false) = true from rfl, Qfg, Bool.false_or]
  rw [QsJ hw hq]
  simp only [Option.bind_some]
  by_cases ha : numL want = true
  ·have ea : (want.any fun z => !isN z) = false := by
    unfold numL at ha
    rw [List.any_eq_false]
    intro z hz
    have := List.all_eq_true.1 ha z hz
    simp [this]
   have hW := Qox.1 ha
   rw [ea, if_neg (by decide), if_neg (by simp [hn, ha]), QsG _ _ (by omega)]
   simp only [Option.bind_some]
   let st : Nat → List Bool := fun k => (L.take k).foldl (fun d y => if y.B ≥ 0 then d.set y.B.toNat true else d) (List.replicate want.length false)
   have hst : ∀ k, (st k).length = want.length := fun k => by
    exact (Qo6 (L.take k) _).trans List.length_replicate
   refine QgW L.length (fun k => ((k : Int), st k)) (st L.length) rfl (fun k hk' => ?_) ?_ ?_
   ·dsimp only
    have es : st (k + 1) = if L[k].B ≥ 0 then (st k).set L[k].B.toNat true else st k := by
     show (L.take (k + 1)).foldl _ _ = _
     rw [List.take_succ_eq_append_getElem hk', List.foldl_append]
     rfl
    rw [if_pos (by simpa using hk'), Qak hk']
    simp only [Option.bind_some, es, Qab hk' (show L.length ≤ 9223372036854775807 by omega)]
    have hb1 := (hL _ (List.getElem_mem hk')).b1
    by_cases hb : L[k].B ≥ 0
    ·rw [if_pos (by simpa using hb), if_pos hb]
     have hs : setAt (st k) L[k].B true = some ((st k).set L[k].B.toNat true) := by
      unfold setAt
      rw [if_pos ⟨hb, by rw [hst]; omega⟩]
     rw [hs]
     rfl
    ·rw [if_neg (by simpa using hb), if_neg hb]
     rfl
   ·dsimp only
    rw [if_neg (by simp)]
   ·have eD : st L.length = QcQ L want.length := by show (L.take L.length).foldl _ _ = _; rw [List.take_length]; rfl
    rw [eD]
    have hDl : (QcQ L want.length).length = want.length := by rw [← eD]; exact hst _
    generalize hD : QcQ L want.length = D at hDl ⊢
    have hp : ∀ k, k ≤ x.Kinds.length → 0 ≤ Qdw x D k ∧ Qdw x D k ≤ 131072 * 65537 := by
     intro k
     induction k with
     | zero => intro _; exact ⟨show (0:Int) ≤ 1 by decide, show (1:Int) ≤ 131072 * 65537 by decide⟩
     | succ k ih =>
      intro h
      obtain ⟨i1, i2⟩ := ih (by omega)
      have hq := hK _ (List.getElem_mem (show k < x.Kinds.length by omega))
      unfold Qdw
      rw [List.getElem?_eq_getElem (by omega)]
      dsimp only
      split
      ·rename_i hc
       simp only [Bool.and_eq_true, decide_eq_true_eq] at hc
       refine ⟨Int.mul_nonneg i1 (by omega), ?_⟩
       exact Int.mul_le_mul hc.2 (by omega) (by omega) (by decide)
      ·exact ⟨i1, i2⟩
    refine QgW x.Kinds.length (fun k => ((k : Int), Qdw x D k)) (Qdw x D x.Kinds.length) rfl (fun k hk' => ?_) ?_ ?_
    ·dsimp only
     have hkD : k < D.length := by omega
     obtain ⟨i1, i2⟩ := hp k (by omega)
     obtain ⟨j1, j2⟩ := hp (k + 1) (by omega)
     have hq := hK _ (List.getElem_mem hk')
     have es : Qdw x D (k + 1) = if (D.getD k false && decide (Qdw x D k ≤ 131072)) = true then Qdw x D k * (x.Kinds[k].Hi - x.Kinds[k].Lo + 1) else Qdw x D k := by
      rw [Qdw, List.getElem?_eq_getElem hk']
     rw [if_pos (by simpa using hk'), Qak hk', Qak hkD, ← getD_lt' (z := false) hkD]
     simp only [Option.bind_some, Qab hk' (show x.Kinds.length ≤ 9223372036854775807 by omega)]
     rw [es] at j1 j2 ⊢
     by_cases hc : (D.getD k false && decide (Qdw x D k ≤ 131072)) = true
     ·rw [if_pos hc] at j1 j2
      rw [if_pos hc, if_pos hc, w64 (n := x.Kinds[k].Hi - x.Kinds[k].Lo) (by omega) (by omega), w64 (n := x.Kinds[k].Hi - x.Kinds[k].Lo + 1) (by omega) (by omega), w64 (by omega) (by omega)]
      rfl
     ·rw [if_neg hc, if_neg hc]
      rfl
    ·dsimp only
     rw [if_neg (by simp)]
    ·by_cases hpr : 131072 < Qdw x D x.Kinds.length
     ·rw [if_pos (by simpa using hpr), if_pos hpr]
     ·rw [if_neg (by simpa using hpr), if_neg hpr]
      have hS : SrOk L want D := ⟨hf, fun y hy => (hL y hy).weak (by omega), hW, by omega, hDl⟩
      have ht := Qte hS want.length (want.length + 2) [] (padV [], -1) (by omega) (by simp) (fun z hz => by cases hz)
      have e0 : dst want [] = 0 := by simp [dst]
      rw [e0] at ht
      unfold QeA
      rw [show zz6 = padV [] from rfl]
      refine (congrArg (Option.bind · _) ht).trans ?_
      simp only [Option.bind_some]
      show (if decide ((Qdv L want D).2 < 0) = true then _ else _) = _
      by_cases hc : (Qdv L want D).2 < 0
      ·rw [if_pos (by simpa using hc), if_pos hc]
      ·rw [if_neg (by simpa using hc), if_neg hc]
       have hs : sub (Qdv L want D).1.L 0 (want.length : Int) = some ((Qdv L want D).1.L.take want.length) := by
        unfold sub
        rw [if_pos ⟨by omega, by omega, by simp [Ql.L]; omega⟩]
        simp
       refine (congrArg (Option.bind · _) hs).trans ?_
       simp only [Option.bind_some]
       unfold QcR
       rw [Qgn (by simp; omega)]
       rfl
  ·have ea : (want.any fun z => !isN z) = true := by
    simp only [numL, List.all_eq_true] at ha
    rw [List.any_eq_true]
    simp only [Classical.not_forall] at ha
    obtain ⟨z, hz, hh⟩ := ha
    exact ⟨z, hz, by simpa using hh⟩
   rw [ea, if_pos rfl, if_pos (.inr (by simpa using ha))]
 ·have e0 : ((want.length : Int) != (x.Kinds.length : Int)) = true := by simp; omega
  rw [e0, if_pos (.inl hn)]
  rfl

end Go.Proofs.YtcdccjagknlmpaaGreatDoor

namespace Go.Proofs.YtcdccjagknlmpaaGreatDoor
open Go.Sim

theorem Qun {k j r e : Int} (h : prob k j r e = []) : e = 0 := by
 unfold prob at h
 split at h
 ·assumption
 ·cases h
theorem clean {x : Qg} (hc : QcP x = []) {k j : Int} {q : Qi} {f : Qc} (hq : idx x.Kinds k = some q) (hf : field? x k j = some f) : Qiu x q k j f = 0 := by
 obtain ⟨q',hk,hj,hq',hqf,_,hkl,hjl⟩ := QhQ hf
 rw [hq] at hq'; cases hq'
 obtain ⟨i,rfl⟩ := Int.eq_ofNat_of_zero_le hk
 obtain ⟨n,rfl⟩ := Int.eq_ofNat_of_zero_le hj
 rw [QfD] at hq hqf
 unfold QcP at hc
 split at hc
 ·simp only [List.append_eq_nil_iff] at hc
  have h1 := hc.1.2
  unfold QiF at h1
  rw [List.flatMap_eq_nil_iff] at h1
  have h2 := h1 i (List.mem_range.2 (by omega))
  unfold Qi8 at h2
  rw [hq] at h2
  dsimp only at h2
  rw [List.append_eq_nil_iff] at h2
  have h3 := h2.2
  unfold Qkw at h3
  rw [List.flatMap_eq_nil_iff] at h3
  have h4 := h3 n (List.mem_range.2 (by omega))
  unfold QhT at h4
  rw [hqf] at h4
  have h5 := Qun h4
  unfold QlR at h5
  split at h5
  ·cases h5
  ·exact h5
 ·cases hc
theorem Qk4 {a : Bool} {c : Int} {r : List Qq} (h : Qa0 (⟨a,c⟩ :: r) = 0) (hc : c ≠ 0) : a = false ∧ Qa0 r = 0 := by
 unfold Qa0 at h
 cases a with
 | true => exact (hc h).elim
 | false => exact ⟨rfl,h⟩
theorem Quo {x : Qg} {q : Qi} {k j : Int} {f : Qc} (h : Qiu x q k j f = 0) (hk : f.Kind = 1 ∨ f.Kind = 7 ∨ f.Kind = 8) : 0 ≤ upIx x k j := by
 unfold Qiu at h
 rcases hk with hk | hk | hk
 ·rw [if_neg (by omega),if_pos hk] at h
  have := (Qk4 h (by decide)).1
  simpa using this
 ·rw [if_neg (by omega),if_neg (by omega),if_neg (by omega),if_neg (by omega),if_neg (by omega),if_pos hk] at h
  have := (Qk4 h (by decide)).1
  simpa using this
 ·rw [if_neg (by omega),if_neg (by omega),if_neg (by omega),if_neg (by omega),if_neg (by omega),if_neg (by omega),if_pos hk] at h
  have := (Qk4 h (by decide)).1
  simpa using this
end Go.Proofs.YtcdccjagknlmpaaGreatDoor

namespace Go.Proofs.YtcdccjagknlmpaaGreatDoor
open Go.Sim

theorem Qrm {i j lo hi n : Int} {y : Qb} (h : y ∈ QgS Qb.mk i j lo hi) (h0 : 0 ≤ i) (h1 : i < n) (j0 : -1 ≤ j) (j1 : j < i) (hl : 0 ≤ lo ∧ lo ≤ hi ∧ hi ≤ 65536) : VL y n ∧ y.B < y.A := by
 simp only [QgS, List.mem_cons, List.not_mem_nil, or_false] at h
 rcases h with rfl | rfl
 ·exact ⟨⟨h0, h1, j0, by dsimp only; omega, hl.1, by dsimp only; omega⟩, j1⟩
 ·exact ⟨⟨h0, h1, j0, by dsimp only; omega, by dsimp only; omega, hl.2.2⟩, j1⟩
theorem QqL {x : Qg} (hc : QcP x = []) {i j : Nat} (hi : i < x.Kinds.length) (hj : j < x.Kinds[i].Fields.length) (hk : x.Kinds[i].Fields[j].Kind = 1) : 0 ≤ Qaa x x.Kinds[i].Fields[j].Of ∧ Qaa x x.Kinds[i].Fields[j].Of < (i : Int) := by
 have hf : field? x (i : Int) (j : Int) = some x.Kinds[i].Fields[j] := by
  unfold field?
  rw [if_pos ⟨by omega, by omega⟩, Int.toNat_natCast, Int.toNat_natCast, List.getElem?_eq_getElem hi, Option.bind_some, List.getElem?_eq_getElem hj]
 have h := Quo (clean hc (Qak hi) hf) (.inl hk)
 unfold upIx at h
 rw [hf] at h
 dsimp only at h
 rw [if_neg (by omega), if_pos hk] at h
 unfold QhR at h
 split at h
 ·exact ⟨h, by assumption⟩
 ·omega
theorem QlS {x : Qg} (hc : QcP x = []) : ∀ y ∈ limL Qb.mk x, VL y (x.Kinds.length : Int) ∧ y.B < y.A := by
 intro y hy
 have hv := QgO hc
 unfold limL at hy
 obtain ⟨i, hi, hy⟩ := List.mem_flatMap.1 hy
 rw [List.mem_range] at hi
 have hK := hv.kind _ (List.getElem_mem hi)
 unfold kndL at hy
 rw [List.getElem?_eq_getElem hi] at hy
 dsimp only at hy
 rcases List.mem_append.1 hy with hy | hy
 ·have hs := hK
  simp only [QdS, Bool.and_eq_true] at hs
  exact Qrm hy (by omega) (by omega) (Int.le_refl _) (by omega) (QcS hs.1.1.2)
 ·obtain ⟨j, hj, hy⟩ := List.mem_flatMap.1 hy
  rw [List.mem_range] at hj
  unfold fldL at hy
  rw [List.getElem?_eq_getElem hj] at hy
  dsimp only at hy
  by_cases hk : x.Kinds[i].Fields[j].Kind = 1
  ·rw [if_pos (by simpa using hk)] at hy
   obtain ⟨r0, r1⟩ := QqL hc hi hj hk
   have hF := (Qku hK).2.2 _ (List.getElem_mem hj)
   simp only [QbH, Bool.and_eq_true] at hF
   have hp := hF.2
   unfold QfS at hp
   rw [if_neg (by omega), if_pos hk, Bool.and_eq_true] at hp
   exact Qrm hy (by omega) (by omega) (by omega) r1 (QcS hp.2)
  ·rw [if_neg (by simpa using hk)] at hy
   cases hy
/-- What Plan gives for a schema without problems. -/
theorem Qwe {x : Qg} (hs : Qmi x) (hc : QcP x = []) {want : List Int} (hw : want.length ≤ 1000000) : Qbq x want = some (Qpu x (limL Qb.mk x) want) := by
 have hv := QgO hc
 have hl : Qa2 x = some (limL Qb.mk x, namL x, 0) := by
  rw [QoZ hs]
  unfold limR
  rw [hc]
 have hn := (Qqm Qb.mk x).1
 unfold limR at hn
 rw [hc] at hn
 dsimp only at hn
 refine Qwd hl hv.kinds (fun k hk => ?_) (fun y hy => (QlS hc y hy).1) (by omega) hw
 have h := hv.kind k hk
 simp only [QdS, Bool.and_eq_true] at h
 exact QcS h.1.1.2

end Go.Proofs.YtcdccjagknlmpaaGreatDoor

namespace Go.Proofs.YtcdccjagknlmpaaGreatDoor
open Go.Sim

theorem Qup {x : List Int} (h : x.length ≤ 6) : (padV x).L.take x.length = x := by
 refine List.ext_getElem (by simp [Ql.L]; omega) fun i h1 h2 => ?_
 rw [List.getElem_take]
 have e := Qov (p := x) (i := (i : Int)) (by omega) (by omega)
 unfold nth at e
 rw [Int.toNat_natCast, getD_lt' (by simp [Ql.L]; omega), getD_lt' h2] at e
 exact e
section
variable {L : List Qb} {W : List Int} (hv : ∀ y ∈ L, VL y (W.length : Int) ∧ y.B < y.A)
include hv
theorem Quq {o : List Int} (ho : o.length = W.length) (hn : NumP o) (hk : ∀ y ∈ L, Qcc y o = true) : ∀ i, i < o.length → Qky L o i :=
 (Qo5 (fun y hy => by rw [ho]; exact (hv y hy).1) (fun y hy => (hv y hy).2)).2 ⟨hn, hk⟩
theorem Qqo {o : List Int} (ho : o.length = W.length) (hn : NumP o) (hk : ∀ y ∈ L, Qcc y o = true) : ∃ x ∈ Qaz L W (QcQ L W.length) W.length [], dst W x ≤ dst W o := by
 refine Qo4 (fun y hy h0 => ?_) ho W.length [] (by simp) (fun j hj => by simp at hj) (by simp) (fun i _ hi => Quq hv ho hn hk i (by omega))
 unfold QcQ
 exact QnT L _ (fun z hz => by have := (hv z hz).1.b1; rw [List.length_replicate]; omega) y hy h0
/-- There are none: no numbers keep all limits. -/
theorem Qti (h : (Qdv L W (QcQ L W.length)).2 < 0) {o : List Int} (ho : o.length = W.length) (hn : NumP o) : ¬ ∀ y ∈ L, Qcc y o = true := by
 intro hk
 obtain ⟨x, hx, _⟩ := Qqo hv ho hn hk
 rw [Qtg.1 h] at hx
 cases hx
/-- There are some: they keep all limits, and are the nearest. -/
theorem Qtj (h6 : W.length ≤ 6) (h : ¬ (Qdv L W (QcQ L W.length)).2 < 0) :
  ((Qdv L W (QcQ L W.length)).1.L.take W.length).length = W.length ∧ NumP ((Qdv L W (QcQ L W.length)).1.L.take W.length) ∧ (∀ y ∈ L, Qcc y ((Qdv L W (QcQ L W.length)).1.L.take W.length) = true) ∧
  ∀ o : List Int, o.length = W.length → NumP o → (∀ y ∈ L, Qcc y o = true) → dst W ((Qdv L W (QcQ L W.length)).1.L.take W.length) ≤ dst W o := by
 obtain ⟨x, hx, he, hm⟩ := Qth (L := L) (W := W) (D := QcQ L W.length) (by omega)
 obtain ⟨h1, _, h3⟩ := Qrl W.length [] (by simp) x hx
 rw [he]
 have e : (padV x).L.take W.length = x := by rw [← h1]; exact Qup (by omega)
 dsimp only
 rw [e]
 have hk := (Qo5 (L := L) (x := x) (fun y hy => by rw [h1]; exact (hv y hy).1) (fun y hy => (hv y hy).2)).1 (fun i hi => h3 i (Nat.zero_le _) (by omega))
 refine ⟨h1, hk.1, hk.2, fun o ho hn hko => ?_⟩
 obtain ⟨z, hz, hd⟩ := Qqo hv ho hn hko
 exact Int.le_trans (hm z hz) hd
end

end Go.Proofs.YtcdccjagknlmpaaGreatDoor

namespace Go.Proofs.YtcdccjagknlmpaaGreatDoor
open Go.Sim

structure Qqp (x : Qg) : Prop where
  short : Qmi x
  clean : QcP x = []
  few : x.Kinds.length ≤ 3
  narrow : ∀ k ∈ x.Kinds, k.Hi - k.Lo ≤ 29
theorem QnU {x : Qg} (h : ∀ k ∈ x.Kinds, 0 ≤ k.Hi - k.Lo ∧ k.Hi - k.Lo ≤ 29) (d : List Bool) : ∀ k : Nat, 0 ≤ Qdw x d k ∧ Qdw x d k ≤ 30 ^ k
  | 0 => ⟨show (0:Int) ≤ 1 by decide, show (1:Int) ≤ 30 ^ 0 by decide⟩
  | k + 1 => by
    obtain ⟨i1, i2⟩ := QnU h d k
    have e : (30:Int) ^ (k + 1) = 30 ^ k * 30 := Int.pow_succ 30 k
    unfold Qdw
    cases hq : x.Kinds[k]? with
    | none => exact ⟨i1, by dsimp only; omega⟩
    | some q =>
      obtain ⟨j1, j2⟩ := h q (List.mem_of_getElem? hq)
      dsimp only
      split
      · refine ⟨Int.mul_nonneg i1 (by omega), ?_⟩
        rw [e]
        exact Int.mul_le_mul i2 (by omega) (by omega) (by omega)
      · exact ⟨i1, by omega⟩
theorem Qqq {x : Qg} (h : Qqp x) : Qa2 x = some (limL Qb.mk x, namL x, 0) ∧ (limL Qb.mk x).length ≤ 1000 := by
  have hn := (Qqm Qb.mk x).1
  have hl := QoZ h.short
  unfold limR at hn hl
  rw [h.clean] at hn hl
  exact ⟨hl, hn⟩
theorem QrO {x : Qg} (h : Qqp x) {W : List Int} (hl : W.length = x.Kinds.length) (hW : NumP W) : Qbq x W = some (if (Qdv (limL Qb.mk x) W (QcQ (limL Qb.mk x) W.length)).2 < 0 then ([], 14) else ((Qdv (limL Qb.mk x) W (QcQ (limL Qb.mk x) W.length)).1.L.take W.length, 0)) := by
  have h3 := h.few
  rw [Qwe h.short h.clean (by omega)]
  unfold Qpu
  have hv := QgO h.clean
  have hK : ∀ k ∈ x.Kinds, 0 ≤ k.Hi - k.Lo ∧ k.Hi - k.Lo ≤ 29 := fun k hk => by
    have hs := hv.kind k hk
    simp only [QdS, Bool.and_eq_true] at hs
    have := QcS hs.1.1.2
    have := h.narrow k hk
    omega
  have hp := (QnU hK (QcQ (limL Qb.mk x) W.length) x.Kinds.length).2
  have h30 : (30:Int) ^ x.Kinds.length ≤ 27000 := by
    have : x.Kinds.length = 0 ∨ x.Kinds.length = 1 ∨ x.Kinds.length = 2 ∨ x.Kinds.length = 3 := by omega
    rcases this with e | e | e | e <;> rw [e] <;> decide
  rw [if_neg (by rw [Qox.2 hW]; simp [hl]), if_neg (by omega)]
theorem QrP {y : Qb} {c : List Int} (hv : VL y (c.length : Int)) (hn : NumP c) : QgK y c = Qcc y c := by
  unfold QgK
  rw [Qi1.2 hv, Qox.2 hn]
  rfl
end Go.Proofs.YtcdccjagknlmpaaGreatDoor

namespace Go.Proofs.YtcdccjagknlmpaaGreatDoor
open Go.Sim

theorem QnV {y : Qb} {n : Int} {c d : List Int} (hv : VL y n) (h : ∀ i, 0 ≤ i → i < n → nth c i = nth d i) : Qcc y c = Qcc y d := by
 have hA := h y.A hv.a0 hv.a1
 have hB : bndS y c = bndS y d := by
  unfold bndS
  split
  ·rfl
  ·rw [h y.B (by omega) hv.b1]
 unfold Qcc
 rw [hA, hB]
theorem Qoy {L : List Qb} {n : Nat} (hn : n ≤ 6) (hv : ∀ y ∈ L, VL y (n : Int)) : Sat L ↔ ∃ c : List Int, c.length = n ∧ NumP c ∧ ∀ y ∈ L, Qcc y c = true := by
 constructor
 ·rintro ⟨x, hx⟩
  refine ⟨x.take n, by rw [List.length_take, hx.vec.len]; omega, fun z hz => hx.vec.num z (List.mem_of_mem_take hz), fun y hy => ?_⟩
  rw [← hx.keep y hy]
  refine QnV (hv y hy) fun i h0 h1 => ?_
  unfold nth
  rw [List.getD_eq_getElem?_getD, List.getD_eq_getElem?_getD, List.getElem?_take, if_pos (by omega)]
 ·rintro ⟨c, hc, nc, hk⟩
  refine ⟨(padV c).L, ⟨rfl, Qrk nc⟩, fun y hy => ?_⟩
  rw [← hk y hy]
  exact QnV (hv y hy) fun i h0 h1 => Qov h0 (by omega)

theorem QmE {L : List Qb} : ∀ (m : Nat) (S : List Nat) (f : Nat), QeP L S f → ∀ T : List Nat, Up T → (∀ i ∈ T, f ≤ i ∧ i < L.length) → T.length = m → ¬ Sat (sel L (S ++ T)) → QaZ L m S f ≠ []
 | 0, S, f, _, T, _, _, hl, h => by
  rw [List.length_eq_zero_iff.1 hl, List.append_nil] at h
  show (if tell (Sat (sel L S)) = true then [] else S) ≠ []
  rw [if_neg (fun e => h (QdE.1 e))]
  intro e
  rw [e] at h
  exact h Qmc
 | m + 1, S, f, hS, T, hu, hin, hl, h => by
  match T, hl, hu, hin, h with
  | i :: T, hl, hu, hin, h =>
   have hi := hin i (List.mem_cons_self ..)
   have hp := List.pairwise_cons.1 hu
   have hT : ∀ j ∈ T, i + 1 ≤ j ∧ j < L.length := fun j hj => ⟨hp.1 j hj, (hin j (List.mem_cons_of_mem _ hj)).2⟩
   have hlen := up_len' (S := T) (k := i + 1) hp.2 hT hi.2
   have hm : T.length = m := by simpa using hl
   show (if tell (Sat (sel L (S ++ List.range' f (L.length - f)))) = true then [] else tryS (fun i => QaZ L m (S ++ [i]) (i + 1)) (List.range' f (L.length + 1 - (m + 1) - f))) ≠ []
   have hns : ¬ tell (Sat (sel L (S ++ List.range' f (L.length - f)))) = true := fun e => h ((QdE.1 e).sub (Qrf fun j hj => by
    rcases List.mem_append.1 hj with hj | hj
    ·exact List.mem_append_left _ hj
    ·exact List.mem_append_right _ (List.mem_range'_1.2 ⟨(hin j hj).1, by have := (hin j hj).2; omega⟩)))
   rw [if_neg hns]
   refine Qon (i := i) (List.mem_range'_1.2 ⟨hi.1, by omega⟩) (QmE m (S ++ [i]) (i + 1) (hS.snoc hi.1 hi.2) T hp.2 hT hm ?_)
   rw [List.append_assoc]
   exact h
theorem QnW {f : Nat → List Nat} : ∀ (c a i : Nat), i ∈ List.range' a c → f i ≠ [] → ∃ j, j ≤ i ∧ tryS f (List.range' a c) = f j
 | 0, a, i, h, _ => by simp at h
 | c + 1, a, i, h, hne => by
  rw [List.range'_succ] at h ⊢
  by_cases ha : f a ≠ []
  ·refine ⟨a, ?_, if_pos ha⟩
   rcases List.mem_cons.1 h with rfl | h
   ·exact Nat.le_refl _
   ·have := (List.mem_range'_1.1 h).1; omega
  ·have e : tryS f (a :: List.range' (a + 1) c) = tryS f (List.range' (a + 1) c) := if_neg ha
   rw [e]
   rcases List.mem_cons.1 h with rfl | h
   ·exact (ha hne).elim
   ·exact QnW c (a + 1) i h hne
/-- A set of fewer limits can be kept. -/
theorem Qtk {L : List Qb} (hns : ¬ Sat L) {S : List Nat} (hu : Up S) (hin : ∀ i ∈ S, i < L.length) (hlt : S.length < (Q0 L).length) : Sat (sel L S) := by
 by_cases hs : Sat (sel L S)
 ·exact hs
 have hne : QaZ L S.length [] 0 ≠ [] := QmE S.length [] 0 (Qmd L) S hu (fun i hi => ⟨Nat.zero_le _, hin i hi⟩) rfl (by rw [List.nil_append]; exact hs)
 have hpos : 0 < S.length := by
  refine Nat.pos_of_ne_zero fun h0 => hs ?_
  rw [List.length_eq_zero_iff.1 h0]
  exact Qmc
 have hle := QsP hu hin
 obtain ⟨j, hj, e⟩ := QnW (f := fun m => QaZ L m [] 0) L.length 1 S.length (List.mem_range'_1.2 ⟨hpos, by omega⟩) hne
 have e' : Q0 L = QaZ L j [] 0 := e
 have hc := QlK hns
 rw [e'] at hc hlt
 obtain ⟨_, _, _, hl⟩ := QlL j [] 0 (Qmd L) hc
 rw [hl] at hlt
 simp at hlt
 omega
theorem Qwf (L : List Qb) (S T : List Nat) : sel L (S ++ T) = sel L S ++ sel L T := List.map_append
theorem Qml (L : List Qb) (S : List Nat) : (sel L S).length = S.length := by simp [sel]
theorem QrQ {S : List Nat} (h : Up S) (i : Nat) : Up (S.take i ++ S.drop (i + 1)) := by
 refine List.Pairwise.sublist ?_ h
 conv => rhs; rw [← List.take_append_drop i S]
 exact List.Sublist.append (List.Sublist.refl _) (by rw [show i + 1 = i + 1 from rfl, ← List.drop_drop]; exact List.drop_sublist _ _)

end Go.Proofs.YtcdccjagknlmpaaGreatDoor

namespace Go.Proofs.YtcdccjagknlmpaaGreatDoor
open Go.Sim

theorem Qtl {n : Int} (h : -9999999 ≤ n ∧ n ≤ 9999999) : (Lib.itoa n).length ≤ 8 := by
 unfold Lib.itoa
 split
 ·have := QhS 6 n.natAbs (by omega)
  rw [List.length_cons]; omega
 ·have := QhS 6 n.toNat (by omega)
  omega
/-- A short value. -/
def VT : AnyV → Prop
 | .int n => -9999999 ≤ n ∧ n ≤ 9999999
 | .str s => s.length ≤ 12
theorem text_t {v : AnyV} (h : VT v) : (Qmf v).length ≤ 12 := by
 cases v with
 | int n => have := Qtl h; show (Lib.itoa n).length ≤ 12; omega
 | str s => exact h
theorem toks_t {l : List AnyV} (h : ∀ v ∈ l,VT v) : (toks l).length ≤ l.length * 13 := by
 induction l with
 | nil => simp [toks]
 | cons v l ih =>
  have h1 := ih fun u hu => h u (List.mem_cons_of_mem _ hu)
  have h2 := text_t (h v List.mem_cons_self)
  have e : toks (v :: l) = (32 :: Qmf v) ++ toks l := rfl
  rw [e,List.length_append,List.length_cons,List.length_cons]
  omega
theorem QkA {w : Str} {l : List AnyV} (h : ∀ v ∈ l,VT v) : (QeR w l).length ≤ w.length + 1 + l.length * 13 := by
 have := toks_t h
 unfold QeR
 rw [List.length_append,List.length_append,List.length_singleton]; omega
theorem Qe3 {s : Str} (h : Q2 s = true) : VT (.str s) := Qf6 h
theorem QkB {s : Str} (h : ((s == []) || Q2 s) = true) : VT (.str (Qdn s)) := by
 unfold Qdn
 by_cases hs : s = []
 ·rw [if_pos hs]; show ([45] : Str).length ≤ 12; decide
 ·rw [if_neg hs]
  have : Q2 s = true := by simpa [hs] using h
  exact Qe3 this
theorem QbN {n : Int} (h : -9999999 ≤ n ∧ n ≤ 9999999) : VT (.int n) := h
theorem Qur {f : Qc} (h : QbH f = true) (hw3 : f.Words.length ≤ 3) : (∀ v ∈ Q5 f,VT v) ∧ (Q5 f).length ≤ 8 := by
 unfold QbH at h
 simp only [Bool.and_eq_true] at h
 obtain ⟨⟨hn,_⟩,hp⟩ := h
 have hnv := Qe3 hn
 unfold QfS at hp
 by_cases c0 : f.Kind = 0
 ·rw [if_pos c0] at hp
  have e : Q5 f = [.str f.Name,.int f.Lo] := by unfold Q5; rw [if_pos c0]
  refine ⟨?_,by rw [e]; simp⟩
  have := QcC hp
  rw [e]; simp only [List.mem_cons,List.not_mem_nil,or_false,forall_eq_or_imp,forall_eq]
  exact ⟨hnv,QbN (by omega)⟩
 rw [if_neg c0] at hp
 by_cases c1 : f.Kind = 1
 ·rw [if_pos c1] at hp
  simp only [Bool.and_eq_true] at hp
  have e : Q5 f = [.str f.Name,.str (Qdn f.Of),.int f.Lo,.int f.Hi] := by unfold Q5; simp [c1]
  have := QcS hp.2
  refine ⟨?_,by rw [e]; simp⟩
  rw [e]; simp only [List.mem_cons,List.not_mem_nil,or_false,forall_eq_or_imp,forall_eq]
  exact ⟨hnv,QkB (by rw [hp.1]; simp),QbN (by omega),QbN (by omega)⟩
 rw [if_neg c1] at hp
 by_cases c2 : f.Kind = 2
 ·rw [if_pos c2] at hp
  have e : Q5 f = [.str f.Name,.int f.Lo,.int f.Hi] := by unfold Q5; simp [c2]
  have := QcS hp
  refine ⟨?_,by rw [e]; simp⟩
  rw [e]; simp only [List.mem_cons,List.not_mem_nil,or_false,forall_eq_or_imp,forall_eq]
  exact ⟨hnv,QbN (by omega),QbN (by omega)⟩
 rw [if_neg c2] at hp
 by_cases c3 : f.Kind = 3
 ·rw [if_pos c3] at hp
  simp only [Qi6,Bool.and_eq_true,List.all_eq_true,beq_iff_eq] at hp
  obtain ⟨hg,⟨⟨hw,hl⟩,_⟩,hws⟩ := hp
  have hw' := (QcC hw).2
  have hl' : f.Words.length = f.Weights.length := by omega
  have e : Q5 f = [.str f.Name,.int (f.Words.length : Int)] ++ (f.Words.zip f.Weights).flatMap fun p => [.str p.1,.int p.2] := by unfold Q5; simp [c3]
  refine ⟨?_,?_⟩
  ·rw [e]
   intro v hv
   rcases List.mem_append.1 hv with hv | hv
   ·simp only [List.mem_cons,List.not_mem_nil,or_false] at hv
    rcases hv with rfl | rfl
    ·exact hnv
    ·exact QbN (by omega)
   ·obtain ⟨p,hp,hv⟩ := List.mem_flatMap.1 hv
    obtain ⟨a,b⟩ := p
    have hz := List.of_mem_zip hp
    simp only [List.mem_cons,List.not_mem_nil,or_false] at hv
    rcases hv with rfl | rfl
    ·exact Qe3 (hws _ hz.1)
    ·have := QcC (hg _ hz.2); exact QbN (by omega)
  ·rw [e,List.length_append,QlO,List.length_zip]
   simp only [List.length_cons,List.length_nil]
   omega
 rw [if_neg c3] at hp
 by_cases c4 : f.Kind = 4
 ·rw [if_pos c4] at hp
  simp only [Bool.and_eq_true] at hp
  have e : Q5 f = [.str f.Name,.str (Qdn f.Of),.int f.Lo,.int f.Hi] := by unfold Q5; simp [c4]
  have := QcS hp.2
  refine ⟨?_,by rw [e]; simp⟩
  rw [e]; simp only [List.mem_cons,List.not_mem_nil,or_false,forall_eq_or_imp,forall_eq]
  exact ⟨hnv,QkB hp.1,QbN (by omega),QbN (by omega)⟩
 rw [if_neg c4] at hp
 by_cases c5 : f.Kind = 5
 ·rw [if_pos c5] at hp
  simp only [Bool.and_eq_true] at hp
  have e : Q5 f = [.str f.Name,.str (Qdn f.Of),.int f.Lo,.int f.Hi] := by unfold Q5; simp [c5]
  have := QcS hp.2
  refine ⟨?_,by rw [e]; simp⟩
  rw [e]; simp only [List.mem_cons,List.not_mem_nil,or_false,forall_eq_or_imp,forall_eq]
  exact ⟨hnv,QkB (by rw [hp.1]; simp),QbN (by omega),QbN (by omega)⟩
 rw [if_neg c5] at hp
 by_cases c6 : f.Kind = 6
 ·rw [if_pos c6] at hp
  have e : Q5 f = [.str f.Name,.str f.Of] := by unfold Q5; simp [c6]
  refine ⟨?_,by rw [e]; simp⟩
  rw [e]; simp only [List.mem_cons,List.not_mem_nil,or_false,forall_eq_or_imp,forall_eq]
  exact ⟨hnv,Qe3 hp⟩
 rw [if_neg c6] at hp
 by_cases c7 : f.Kind = 7
 ·rw [if_pos c7] at hp
  simp only [Bool.and_eq_true] at hp
  have e : Q5 f = [.str f.Name,.str f.Up,.str f.Of,.int f.Lo,.int f.Hi] := by unfold Q5; simp [c7]
  have := QcS hp.2
  refine ⟨?_,by rw [e]; simp⟩
  rw [e]; simp only [List.mem_cons,List.not_mem_nil,or_false,forall_eq_or_imp,forall_eq]
  exact ⟨hnv,Qe3 hp.1.2,Qe3 hp.1.1,QbN (by omega),QbN (by omega)⟩
 rw [if_neg c7] at hp
 by_cases c8 : f.Kind = 8
 ·rw [if_pos c8] at hp
  simp only [Bool.and_eq_true] at hp
  have e : Q5 f = [.str f.Name,.str f.Up,.str f.Of] := by unfold Q5; simp [c8]
  refine ⟨?_,by rw [e]; simp⟩
  rw [e]; simp only [List.mem_cons,List.not_mem_nil,or_false,forall_eq_or_imp,forall_eq]
  exact ⟨hnv,Qe3 hp.2,Qe3 hp.1⟩
 rw [if_neg c8] at hp
 cases hp
theorem QqM {f : Qc} (h : QbH f = true) (hw : f.Words.length ≤ 3) : (QdU f).length ≤ 115 := by
 obtain ⟨h1,h2⟩ := Qur h hw
 have := QkA (w := Qk1 f) h1
 have := (QlP (QjO h).kind).2.2
 unfold QdU; omega
/-- A schema of at most three kinds. -/
structure Tiny (x : Qg) : Prop where
 kinds : x.Kinds.length ≤ 3
 words : ∀ k ∈ x.Kinds,∀ f ∈ k.Fields,f.Words.length ≤ 3
 lives : x.Lives.length ≤ 1
 life : ∀ l ∈ x.Lives,l.States.length ≤ 4 ∧ l.Moves.length ≤ 5
 rules : x.Rules.length ≤ 2
theorem kind_t {k : Qi} (h : QdS k = true) (hw : ∀ f ∈ k.Fields,f.Words.length ≤ 3) : (Qe1 k).length ≤ 1200 := by
 simp only [QdS,Bool.and_eq_true,List.all_eq_true,decide_eq_true_eq] at h
 obtain ⟨⟨⟨h1,h2⟩,h3⟩,h4⟩ := h
 have := QcS h2
 have hv : ∀ v ∈ [AnyV.str k.Name,.int k.Lo,.int k.Hi],VT v := by
  simp only [List.mem_cons,List.not_mem_nil,or_false,forall_eq_or_imp,forall_eq]
  exact ⟨Qe3 h1,QbN (by omega),QbN (by omega)⟩
 have e1 := QkA (w := [107,105,110,100]) hv
 have e2 := Qfw (l := k.Fields) (g := QdU) (B := 115) fun f hf => QqM (h4 f hf) (hw f hf)
 unfold Qe1
 rw [List.length_append]
 simp only [List.length_cons,List.length_nil] at e1
 omega
theorem life_t {l : Qu} (h : Qgt l = true) (hs : l.States.length ≤ 4) (hm : l.Moves.length ≤ 5) : (QfG l).length ≤ 300 := by
 simp only [Qgt,Bool.and_eq_true,List.all_eq_true,decide_eq_true_eq] at h
 obtain ⟨⟨⟨⟨h1,h2⟩,h3⟩,h4⟩,h5⟩ := h
 have hl := (QcC h2).2
 have hv : ∀ v ∈ [AnyV.str l.Name,.int (l.States.length : Int)] ++ l.States.map .str,VT v := fun v hv => by
  rcases List.mem_append.1 hv with hv | hv
  ·simp only [List.mem_cons,List.not_mem_nil,or_false] at hv
   rcases hv with rfl | rfl
   ·exact Qe3 h1
   ·exact QbN (by omega)
  ·obtain ⟨s,hs,rfl⟩ := List.mem_map.1 hv
   exact Qe3 (h3 s hs)
 have hmv : ∀ m ∈ l.Moves,(Qhh m).length ≤ 31 := fun m hm => by
  have h6 := h5 m hm
  simp only [QeQ,Bool.and_eq_true] at h6
  have a1 := QcC h6.1
  have a2 := QcC h6.2
  have := QkA (w := [109,111,118,101]) (l := [AnyV.int m.a0,.int m.a1]) (by
   simp only [List.mem_cons,List.not_mem_nil,or_false,forall_eq_or_imp,forall_eq]
   exact ⟨QbN (by omega),QbN (by omega)⟩)
  simp only [List.length_cons,List.length_nil] at this
  unfold Qhh; omega
 have e1 := QkA (w := [108,105,102,101]) hv
 have e2 := Qfw hmv
 unfold QfG
 rw [List.length_append]
 simp only [List.length_append,List.length_cons,List.length_nil,List.length_map] at e1
 omega
theorem rule_t {r : Qo} (h : QeE r = true) : (Qhi r).length ≤ 70 := by
 simp only [QeE,Bool.and_eq_true] at h
 obtain ⟨⟨⟨⟨⟨h1,h2⟩,h3⟩,h4⟩,_⟩,h5⟩ := h
 have := QcC h5
 have := QkA (w := [114,117,108,101]) (l := QeF r) (by
  unfold QeF
  simp only [List.mem_cons,List.not_mem_nil,or_false,forall_eq_or_imp,forall_eq]
  exact ⟨Qe3 h1,Qe3 h2,QkB h3,QkB h4,QbN (by omega)⟩)
 have e : (QeF r).length = 5 := rfl
 simp only [List.length_cons,List.length_nil] at this
 unfold Qhi; omega
theorem QrR {x : Qg} (h : Tiny x) (hv : QfA x = true) : QgM x = 0 := by
 obtain ⟨t1,t2,t3,t4,t5⟩ := h
 have hok := QlQ hv
 have e0 := QkA (w := [115,99,104,101,109,97]) (l := [AnyV.int x.Version]) (by
  simp only [List.mem_cons,List.not_mem_nil,or_false,forall_eq]
  have := hok.version
  exact QbN (by omega))
 have e1 := Qfw (l := x.Kinds) (g := Qe1) (B := 1200) fun k hk => kind_t (hok.kind k hk) (t2 k hk)
 have e2 := Qfw (l := x.Lives) (g := QfG) (B := 300) fun l hl => life_t (hok.life l hl) (t4 l hl).1 (t4 l hl).2
 have e3 := Qfw (l := x.Rules) (g := Qhi) (B := 70) fun r hr => rule_t (hok.rule r hr)
 simp only [List.length_cons,List.length_nil] at e0
 unfold QgM
 rw [if_pos hv,if_neg]
 unfold srcS
 simp only [List.length_append]
 omega

end Go.Proofs.YtcdccjagknlmpaaGreatDoor

namespace Go.Proofs.YtcdccjagknlmpaaGreatDoor
open Go.Sim

/-- A valid field of the generator. -/
def VF (f : Qc) : Prop := QbH f = true ∧ f.Words.length ≤ 3 ∧ (-1000 ≤ f.Lo ∧ f.Lo ≤ 1000) ∧ (-1000 ≤ f.Hi ∧ f.Hi ≤ 1000)
/-- A valid kind of the generator. -/
def KV (n : Nat) (k : Qi) : Prop := k.Fields.length ≤ n ∧ (∀ f ∈ k.Fields,VF f) ∧ Q2 k.Name = true ∧ (0 ≤ k.Lo ∧ k.Lo ≤ k.Hi ∧ k.Hi ≤ 65536)
theorem KV.weak {a b : Nat} {k : Qi} (h : KV a k) (hab : a ≤ b) : KV b k := ⟨Nat.le_trans h.1 hab,h.2⟩
theorem Qji {lo hi a b : Int} (h : a ≤ lo ∧ lo ≤ hi ∧ hi ≤ b) : Qgq lo hi a b = true := by
 unfold Qgq; simp only [Bool.and_eq_true,decide_eq_true_eq]; omega
theorem QhU {n a b : Int} (h : a ≤ n ∧ n ≤ b) : inW n a b = true := by
 unfold inW; simp only [Bool.and_eq_true,decide_eq_true_eq]; omega
section
variable {n o u : Str} {lo hi : Int}
theorem vf_key (hn : Q2 n = true) (h : -1000 ≤ lo ∧ lo ≤ 1000) : VF ⟨n,[],[],0,lo,0,[],[]⟩ := by
 refine ⟨?_,by simp,h,by simp⟩
 have := QhU (n := lo) (a := -1048576) (b := 1048576) (by omega)
 simp [QbH,Qgs,Qgr,QfS,hn,this]
theorem Qqr (hn : Q2 n = true) (ho : Q2 o = true) (h : 0 ≤ lo ∧ lo ≤ hi ∧ hi ≤ 1000) : VF ⟨n,o,[],1,lo,hi,[],[]⟩ := by
 refine ⟨?_,by simp,by dsimp only; omega,by dsimp only; omega⟩
 have := Qji (lo := lo) (hi := hi) (a := 0) (b := 65536) (by omega)
 simp [QbH,Qgs,Qgr,QfS,hn,ho,this]
theorem Qqs (hn : Q2 n = true) (h : -1000 ≤ lo ∧ lo ≤ hi ∧ hi ≤ 1000) : VF ⟨n,[],[],2,lo,hi,[],[]⟩ := by
 refine ⟨?_,by simp,by dsimp only; omega,by dsimp only; omega⟩
 have := Qji (lo := lo) (hi := hi) (a := -1048576) (b := 1048576) (by omega)
 simp [QbH,Qgs,Qgr,QfS,hn,this]
theorem Qwg {w : List Str} {g : List Int} (hn : Q2 n = true) (h : Qi6 w g = true) (hw : w.length ≤ 3) : VF ⟨n,[],[],3,0,0,w,g⟩ := by
 refine ⟨?_,hw,by simp,by simp⟩
 simp [QbH,Qgs,Qgr,QfS,hn,h]
theorem Qtm (hn : Q2 n = true) (ho : ((o == []) || Q2 o) = true) (h : -1000 ≤ lo ∧ lo ≤ hi ∧ hi ≤ 1000) : VF ⟨n,o,[],4,lo,hi,[],[]⟩ := by
 refine ⟨?_,by simp,by dsimp only; omega,by dsimp only; omega⟩
 have := Qji (lo := lo) (hi := hi) (a := -1048576) (b := 1048576) (by omega)
 simp [QbH,Qgs,Qgr,QfS,hn,this]
 simpa using ho
theorem Qwh (hn : Q2 n = true) (ho : Q2 o = true) (h : 0 ≤ lo ∧ lo ≤ hi ∧ hi ≤ 32) : VF ⟨n,o,[],5,lo,hi,[],[]⟩ := by
 refine ⟨?_,by simp,by dsimp only; omega,by dsimp only; omega⟩
 have := Qji (lo := lo) (hi := hi) (a := 0) (b := 32) (by omega)
 simp [QbH,Qgs,Qgr,QfS,hn,ho,this]
theorem vf_sum (hn : Q2 n = true) (ho : Q2 o = true) : VF ⟨n,o,[],6,0,0,[],[]⟩ := by
 refine ⟨?_,by simp,by simp,by simp⟩
 simp [QbH,Qgs,Qgr,QfS,hn,ho]
theorem Qus (hn : Q2 n = true) (ho : Q2 o = true) (hu : Q2 u = true) (h : 0 ≤ lo ∧ lo ≤ hi ∧ hi ≤ 1000) : VF ⟨n,o,u,7,lo,hi,[],[]⟩ := by
 refine ⟨?_,by simp,by dsimp only; omega,by dsimp only; omega⟩
 have := Qji (lo := lo) (hi := hi) (a := 0) (b := 1048576) (by omega)
 simp [QbH,Qgs,Qgr,QfS,hn,ho,hu,this]
theorem Qwi (hn : Q2 n = true) (ho : Q2 o = true) (hu : Q2 u = true) : VF ⟨n,o,u,8,0,0,[],[]⟩ := by
 refine ⟨?_,by simp,by simp,by simp⟩
 simp [QbH,Qgs,Qgr,QfS,hn,ho,hu]
end
theorem VF.name {f : Qc} (h : VF f) : Q2 f.Name = true := by
 have := h.1
 unfold QbH at this
 simp only [Bool.and_eq_true] at this
 exact this.1.1

theorem Qrn {m : Qv} (hm : MOk m) : Ok (QaN m) (fun r => r.1.length ≤ 2 ∧ (∀ f ∈ r.1,VF f) ∧ MOk r.2) := by
 unfold QaN
 refine Ok.take hm (by decide) fun r m1 _ _ h1 => ?_
 refine Ok.ite (fun _ => ?_) (fun _ => ?_)
 ·refine Ok.take h1 (by decide) fun r2 m2 a2 b2 h2 => Ok.take h2 (by decide) fun r3 m3 a3 b3 h3 => Ok.mk ⟨by simp,?_,h3⟩
  dsimp only
  rw [w64 (n := r2 - 5) (by omega) (by omega),w64 (n := r2 - 5 + r3) (by omega) (by omega)]
  intro f hf
  rw [List.mem_singleton] at hf; subst hf
  exact Qqs (by decide) (by omega)
 refine Ok.ite (fun _ => ?_) (fun _ => ?_)
 ·refine Ok.take h1 (by decide) fun r2 m2 h20 h21 h2 => ?_
  have hr2 : IntKind.i64.wrap (1 + r2) = 1 + r2 := w64 (by omega) (by omega)
  refine Ok.sub (by decide) (by dsimp only; rw [hr2]; omega) (by dsimp only; rw [hr2]; simp; omega) fun w hw hwm => ?_
  dsimp only at hw
  rw [hr2] at hw
  have hwl : 1 ≤ w.length ∧ w.length ≤ 3 := by omega
  have hws : w.all Q2 = true := by
   rw [List.all_eq_true]
   intro s hs
   have := hwm s hs
   simp only [List.mem_cons,List.not_mem_nil,or_false] at this
   rcases this with rfl | rfl | rfl <;> decide
  refine Ok.bind (P := fun r => (r.1.length = w.length ∧ ∀ g ∈ r.1,0 ≤ g ∧ g ≤ 10) ∧ MOk r.2) (Ok.loop (fun k s => 0 ≤ s.1 ∧ s.1 + k = w.length ∧ s.2.1.length = s.1 ∧ (∀ g ∈ s.2.1,0 ≤ g ∧ g ≤ 10) ∧ MOk s.2.2) w.length ⟨Int.le_refl _,by simp,by simp,by simp,h2⟩ fun k s hs => ?_) (fun p hp => ?_)
  ·obtain ⟨i,ws,m3⟩ := s
   obtain ⟨e1,e2,e3,e5,e4⟩ := hs
   dsimp only at e1 e2 e3 e4 e5
   refine Ok.ite (fun h => ?_) (fun h => ?_)
   ·have h' : i < w.length := of_decide_eq_true h
    refine Ok.take e4 (by decide) fun r4 m4 a4 b4 h4 => Ok.rm (by simp; omega) (Ok.mk ?_)
    dsimp only
    rw [w64 (by omega) (by omega)]
    refine ⟨k - 1,by omega,by omega,by omega,by simp; omega,fun g hg => ?_,h4⟩
    rcases List.mem_append.1 hg with hg | hg
    ·exact e5 g hg
    ·rw [List.mem_singleton] at hg; omega
   ·have h' : ¬ i < w.length := of_decide_eq_false h
    exact Ok.mk ⟨⟨by dsimp only; omega,e5⟩,e4⟩
  ·obtain ⟨⟨p1,p2⟩,p3⟩ := hp
   refine Ok.take p3 (by omega) fun r4 m4 h40 h41 h4 => Ok.take h4 (by decide) fun r5 m5 a5 b5 h5 => ?_
   refine Ok.setAt h40 (by dsimp only; omega) (Ok.mk ⟨by simp,?_,h5⟩)
   dsimp only
   rw [w64 (n := 1 + r5) (by omega) (by omega)]
   intro f hf
   rw [List.mem_singleton] at hf
   subst hf
   have hall : ∀ g ∈ p.1.set r4.toNat (1 + r5),0 ≤ g ∧ g ≤ 10 := fun g hg => by
    rcases List.mem_or_eq_of_mem_set hg with hg | hg
    ·exact p2 g hg
    ·omega
   have hmem : (1 + r5) ∈ p.1.set r4.toNat (1 + r5) := List.mem_set (by omega) _
   have hsum : ∀ l : List Int,(∀ g ∈ l,0 ≤ g ∧ g ≤ 10) → ∀ v ∈ l,v ≤ l.sum ∧ 0 ≤ l.sum := fun l => by
    induction l with
    | nil => intro _ v hv; cases hv
    | cons a l ih =>
     intro hl v hv
     have ha := hl a List.mem_cons_self
     have hs : 0 ≤ l.sum := by
      have : ∀ l : List Int,(∀ g ∈ l,0 ≤ g ∧ g ≤ 10) → 0 ≤ l.sum := fun l => by
       induction l with
       | nil => intro _; simp
       | cons b l ih2 => intro h; have h1 := h b List.mem_cons_self; have h2 := ih2 fun g hg => h g (List.mem_cons_of_mem _ hg); simp only [List.sum_cons]; omega
      exact this l fun g hg => hl g (List.mem_cons_of_mem _ hg)
     simp only [List.sum_cons]
     rcases List.mem_cons.1 hv with rfl | hv
     ·omega
     ·have := (ih (fun g hg => hl g (List.mem_cons_of_mem _ hg)) v hv).1; omega
   refine Qwg (by decide) ?_ (by omega)
   unfold Qi6
   simp only [Bool.and_eq_true,List.all_eq_true,beq_iff_eq,decide_eq_true_eq]
   refine ⟨fun g hg => QhU (by have := hall g hg; omega),⟨⟨QhU (by omega),by rw [List.length_set]; omega⟩,?_⟩,fun s hs => List.all_eq_true.1 hws s hs⟩
   have := (hsum _ hall _ hmem).1
   omega
 refine Ok.ite (fun _ => ?_) (fun _ => ?_)
 ·refine Ok.take h1 (by decide) fun r2 m2 a2 b2 h2 => Ok.take h2 (by decide) fun r3 m3 a3 b3 h3 => Ok.take h3 (by decide) fun r4 m4 a4 b4 h4 => Ok.take h4 (by decide) fun r5 m5 a5 b5 h5 => Ok.mk ⟨by simp,?_,h5⟩
  dsimp only
  rw [w64 (n := r2 - 200) (by omega) (by omega),w64 (n := r2 - 200 + r3) (by omega) (by omega),w64 (n := 3 + r5) (by omega) (by omega)]
  intro f hf
  simp only [List.mem_cons,List.not_mem_nil,or_false] at hf
  rcases hf with rfl | rfl
  ·exact Qtm (by decide) (by decide) (by omega)
  ·exact Qtm (by decide) (by decide) (by omega)
 refine Ok.ite (fun _ => ?_) (fun _ => ?_)
 ·refine Ok.take h1 (by decide) fun r2 m2 a2 b2 h2 => Ok.take h2 (by decide) fun r3 m3 a3 b3 h3 => Ok.mk ⟨by simp,?_,h3⟩
  dsimp only
  rw [w64 (n := r2 + r3) (by omega) (by omega)]
  intro f hf
  rw [List.mem_singleton] at hf; subst hf
  exact Qwh (by decide) (by decide) (by omega)
 refine Ok.ite (fun _ => ?_) (fun _ => ?_)
 ·refine Ok.take h1 (by decide) fun r2 m2 a2 b2 h2 => Ok.take h2 (by decide) fun r3 m3 a3 b3 h3 => Ok.take h3 (by decide) fun r4 m4 a4 b4 h4 => Ok.take h4 (by decide) fun r5 m5 a5 b5 h5 => Ok.mk ⟨by simp,?_,h5⟩
  dsimp only
  rw [w64 (n := 5 + r3) (by omega) (by omega),w64 (n := 10 + r5) (by omega) (by omega)]
  intro f hf
  simp only [List.mem_cons,List.not_mem_nil,or_false] at hf
  rcases hf with rfl | rfl
  ·exact Qqs (by decide) (by omega)
  ·exact Qqs (by decide) (by omega)
 ·exact Ok.mk ⟨by simp,by simp,h1⟩

end Go.Proofs.YtcdccjagknlmpaaGreatDoor

namespace Go.Proofs.YtcdccjagknlmpaaGreatDoor
open Go.Sim

/-- What a check looks at of a field: its name, its kind, what it is of, and what it goes up by. -/
abbrev Sg := Str × Int × Str × Str
def sg (f : Qc) : Sg := (f.Name,f.Kind,f.Of,f.Up)
def sSize : Sg := ([115,105,122,101],2,[],[])
def sTag : Sg := ([116,97,103],3,[],[])
def QrS : Sg := ([98,111,114,110],4,[],[])
def sLeft : Sg := ([108,101,102,116],4,[98,111,114,110],[])
def Qtn : Sg := ([115,116,97,116,101],5,[108,105,102,101],[])
def sLow : Sg := ([108,111,119],2,[],[])
def sHigh : Sg := ([104,105,103,104],2,[],[])
def Qa4 : List (List Sg) := [[],[sSize],[sTag],[QrS,sLeft],[Qtn],[sLow,sHigh]]

theorem Ok.and {α : Type} {x : Option α} {P Q : α → Prop} (h : Ok x P) (k : Ok x Q) : Ok x (fun r => P r ∧ Q r) := by
 obtain ⟨r,e,p⟩ := h
 obtain ⟨s,f,q⟩ := k
 rw [e] at f
 cases f
 exact ⟨r,e,p,q⟩
theorem Qro {m : Qv} (hm : MOk m) : Ok (QaN m) (fun r => r.1.map sg ∈ Qa4 ∧ MOk r.2) := by
 unfold QaN
 refine Ok.take hm (by decide) fun r m1 _ _ h1 => ?_
 refine Ok.ite (fun _ => ?_) (fun _ => ?_)
 ·exact Ok.take h1 (by decide) fun r2 m2 a2 b2 h2 => Ok.take h2 (by decide) fun r3 m3 a3 b3 h3 => Ok.mk ⟨by simp [Qa4,sg,sSize],h3⟩
 refine Ok.ite (fun _ => ?_) (fun _ => ?_)
 ·refine Ok.take h1 (by decide) fun r2 m2 h20 h21 h2 => ?_
  have hr2 : IntKind.i64.wrap (1 + r2) = 1 + r2 := w64 (by omega) (by omega)
  refine Ok.sub (by decide) (by dsimp only; rw [hr2]; omega) (by dsimp only; rw [hr2]; simp; omega) fun w hw hwm => ?_
  dsimp only at hw
  rw [hr2] at hw
  have hwl : 1 ≤ w.length ∧ w.length ≤ 3 := by omega
  refine Ok.bind (P := fun r => r.1.length = w.length ∧ MOk r.2) (Ok.loop (fun k s => 0 ≤ s.1 ∧ s.1 + k = w.length ∧ s.2.1.length = s.1 ∧ MOk s.2.2) w.length ⟨Int.le_refl _,by simp,by simp,h2⟩ fun k s hs => ?_) (fun p hp => ?_)
  ·obtain ⟨i,ws,m3⟩ := s
   obtain ⟨e1,e2,e3,e4⟩ := hs
   dsimp only at e1 e2 e3 e4
   refine Ok.ite (fun h => ?_) (fun h => ?_)
   ·have h' : i < w.length := of_decide_eq_true h
    refine Ok.take e4 (by decide) fun r4 m4 a4 b4 h4 => Ok.rm (by simp; omega) (Ok.mk ?_)
    dsimp only
    rw [w64 (by omega) (by omega)]
    exact ⟨k - 1,by omega,by omega,by omega,by simp; omega,h4⟩
   ·have h' : ¬ i < w.length := of_decide_eq_false h
    exact Ok.mk ⟨by dsimp only; omega,e4⟩
  ·obtain ⟨p1,p3⟩ := hp
   refine Ok.take p3 (by omega) fun r4 m4 h40 h41 h4 => Ok.take h4 (by decide) fun r5 m5 a5 b5 h5 => ?_
   exact Ok.setAt h40 (by dsimp only; omega) (Ok.mk ⟨by simp [Qa4,sg,sTag],h5⟩)
 refine Ok.ite (fun _ => ?_) (fun _ => ?_)
 ·exact Ok.take h1 (by decide) fun r2 m2 a2 b2 h2 => Ok.take h2 (by decide) fun r3 m3 a3 b3 h3 => Ok.take h3 (by decide) fun r4 m4 a4 b4 h4 => Ok.take h4 (by decide) fun r5 m5 a5 b5 h5 => Ok.mk ⟨by simp [Qa4,sg,QrS,sLeft],h5⟩
 refine Ok.ite (fun _ => ?_) (fun _ => ?_)
 ·exact Ok.take h1 (by decide) fun r2 m2 a2 b2 h2 => Ok.take h2 (by decide) fun r3 m3 a3 b3 h3 => Ok.mk ⟨by simp [Qa4,sg,Qtn],h3⟩
 refine Ok.ite (fun _ => ?_) (fun _ => ?_)
 ·exact Ok.take h1 (by decide) fun r2 m2 a2 b2 h2 => Ok.take h2 (by decide) fun r3 m3 a3 b3 h3 => Ok.take h3 (by decide) fun r4 m4 a4 b4 h4 => Ok.take h4 (by decide) fun r5 m5 a5 b5 h5 => Ok.mk ⟨by simp [Qa4,sg,sLow,sHigh],h5⟩
 ·exact Ok.mk ⟨by simp [Qa4],h1⟩
theorem Qpv {l : List Qc} {name : Str} (hl : l.length ≤ 1000) : Ok (Qc9 l name) (fun r => (-1 ≤ r ∧ r < l.length) ∧ (r < 0 → ∀ f ∈ l,f.Name ≠ name) ∧ (0 ≤ r → ∃ f ∈ l,f.Name = name)) := by
 unfold Qc9
 refine Ok.bind (P := fun e => match e with | .inl _ => ∀ f ∈ l,f.Name ≠ name | .inr r => (0 ≤ r ∧ r < l.length) ∧ ∃ f ∈ l,f.Name = name) (Ok.loop (fun k s => 0 ≤ s ∧ s + k = l.length ∧ ∀ f ∈ l.take s.toNat,f.Name ≠ name) l.length ⟨by omega,by omega,by simp⟩ fun k s hs => ?_) (fun e he => ?_)
 ·obtain ⟨h0,h1,h2⟩ := hs
  refine Ok.ite (fun h => ?_) (fun h => Ok.mk ?_)
  ·have h' : s < l.length := of_decide_eq_true h
   refine Ok.idx h0 h' fun v hm hv => Ok.ite (fun he => Ok.mk ⟨⟨h0,h'⟩,v,hm,by simpa using he⟩) (fun hne => Ok.mk ?_)
   rw [w64 (by omega) (by omega)]
   refine ⟨k - 1,by omega,by omega,by omega,?_⟩
   rw [show (s + 1).toNat = s.toNat + 1 by omega,List.take_add_one,hv]
   intro f hf
   rcases List.mem_append.1 hf with hf | hf
   ·exact h2 f hf
   ·simp only [Option.toList_some,List.mem_singleton] at hf
    subst hf
    simpa using hne
  ·have h' : ¬ s < l.length := of_decide_eq_false h
   show ∀ f ∈ l,f.Name ≠ name
   rw [List.take_of_length_le (by omega)] at h2
   exact h2
 ·rcases e with e | e
  ·exact Ok.mk ⟨⟨by omega,by omega⟩,fun _ => he,fun h => by omega⟩
  ·exact Ok.mk ⟨⟨by omega,he.1.2⟩,fun h => by omega,fun _ => he.2⟩
theorem Qut {k : Qi} (hl : k.Fields.length ≤ 1000) : Ok (Qdz k) (fun r => (-1 ≤ r ∧ r < k.Fields.length) ∧ (0 ≤ r → ∃ f,k.Fields[r.toNat]? = some f ∧ f.Kind ≠ 0 ∧ f.Kind ≠ 1 ∧ f.Kind ≠ 6 ∧ f.Kind ≠ 7)) := by
 unfold Qdz
 refine Ok.bind (P := fun e => match e with | .inl _ => True | .inr r => (0 ≤ r ∧ r < k.Fields.length) ∧ ∃ f,k.Fields[r.toNat]? = some f ∧ f.Kind ≠ 0 ∧ f.Kind ≠ 1 ∧ f.Kind ≠ 6 ∧ f.Kind ≠ 7) (Ok.loop (fun n s => 0 ≤ s ∧ s + n = k.Fields.length) k.Fields.length ⟨by omega,by omega⟩ fun n s hs => ?_) (fun e he => ?_)
 ·refine Ok.ite (fun h => ?_) (fun h => Ok.mk trivial)
  have h' : s < k.Fields.length := of_decide_eq_true h
  refine Ok.idx hs.1 h' fun v _ hv => Ok.ite (fun hk => Ok.mk ⟨⟨hs.1,h'⟩,v,hv,?_⟩) (fun _ => Ok.mk ?_)
  ·simp only [Bool.and_eq_true,bne_iff_ne,ne_eq] at hk
   exact ⟨hk.1.1.1,hk.1.1.2,hk.1.2,hk.2⟩
  ·rw [w64 (by omega) (by omega)]
   exact ⟨n - 1,by omega,by omega,by omega⟩
 ·rcases e with e | e
  ·exact Ok.mk ⟨⟨by omega,by omega⟩,fun h => by omega⟩
  ·exact Ok.mk ⟨⟨by omega,he.1.2⟩,fun _ => he.2⟩

/-! What a new kind looks like, and what it does to the earlier ones. -/

abbrev Ks := Str × List Sg
def ks (k : Qi) : Ks := (k.Name,k.Fields.map sg)
def nOf : Str := [111,102]
def QgP : Str := [116,111,116,97,108]
def sId : Sg := ([105,100],0,[],[])
def sOf (n : Str) : Sg := (nOf,1,n,[])
def Qi9 (n : Str) : Sg := ([115,97,109,101],8,n,nOf)
def QhV : Sg := ([112,97,114,116],7,QgP,nOf)
def QhW (n : Str) : Sg := (QgP,6,n,[])
def sBy (n : Str) : Sg := ([98,121],1,n,[])
/-- The first fields of a new kind of name nm behind the kinds T; T' is T behind it. -/
def PreS (T : List Ks) (nm : Str) (F : List Sg) (T' : List Ks) : Prop :=
 (T.length = 0 ∧ F = [sId] ∧ T' = T) ∨
 ∃ (to : Nat) (t : Ks) (cp pt : List Sg),T[to]? = some t ∧ F = sId :: sOf t.1 :: (cp ++ pt) ∧
  (cp = [] ∨ ∃ g ∈ t.2,(g.2.1 ≠ 0 ∧ g.2.1 ≠ 1 ∧ g.2.1 ≠ 6 ∧ g.2.1 ≠ 7) ∧ cp = [Qi9 g.1]) ∧
  ((pt = [] ∧ T' = T) ∨ ((∀ g ∈ t.2,g.1 ≠ QgP) ∧ pt = [QhV] ∧ T' = T.set to (t.1,t.2 ++ [QhW nm])))
/-- All fields of a new kind. -/
def Qdx (T : List Ks) (q : Ks) (T' : List Ks) : Prop :=
 ∃ (F by' p1 p2 : List Sg),PreS T q.1 F T' ∧ (by' = [] ∨ (1 < T.length ∧ ∃ t,T'[0]? = some t ∧ by' = [sBy t.1])) ∧ p1 ∈ Qa4 ∧ (p2 = [] ∨ (p2 ∈ Qa4 ∧ ∀ g,p2[0]? = some g → ∀ f ∈ F ++ by' ++ p1,f.1 ≠ g.1)) ∧ q.2 = F ++ by' ++ p1 ++ p2

end Go.Proofs.YtcdccjagknlmpaaGreatDoor

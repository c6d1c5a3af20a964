/- typing.Check, as a plain function. No condition. -/
import Derived.Test.YtcdccjagknlmpaaGreatDoorTyA
namespace Go.Proofs.YtcdccjagknlmpaaGreatDoor
open Go.Sim

theorem Qu0 {x : Qh} {i : Nat} {r : Qn} (hx : Few x) (hl : x.Rules.length ≤ 1000) (hi : i < x.Rules.length) (hr : x.Rules[i]? = some r) : Qet x (i : Int) = some (Qol x i r) := by
 unfold Qet
 rw [QmX,hr]
 simp only [Option.bind_some]
 have hs : Sim.sub x.Rules 0 (i : Int) = some (x.Rules.take i) := by
  unfold Sim.sub
  rw [if_pos ⟨by decide,by omega,by omega⟩]; simp
 rw [hs]
 simp only [Option.bind_some]
 rw [QmF (f := fun x0 => Qei x0 r) (p := fun s => s.Name == r.Name) (by rw [List.length_take]; omega) (fun s _ => rfl)]
 simp only [Option.bind_some]
 rw [Qek (by have := hx.1; omega)]
 simp only [Option.bind_some]
 have hk := (QjB x r.Kind).2
 let st : Nat → Int × Bool × Bool := fun n => match n with
  | 0 => (0,decide (Q5 x r.Kind < 0),false)
  | 1 => (1,decide (Q5 x r.Kind < 0) || Qdd x (Q5 x r.Kind) r.A,false || Qc6 x (Q5 x r.Kind) r.A)
  | _ => (2,(decide (Q5 x r.Kind < 0) || Qdd x (Q5 x r.Kind) r.A) || Qdd x (Q5 x r.Kind) r.B,(false || Qc6 x (Q5 x r.Kind) r.A) || Qc6 x (Q5 x r.Kind) r.B)
 refine Qkt 2 st ((st 2).2.1,(st 2).2.2) rfl (fun n hn => ?_) rfl ?_
 ·have : n = 0 ∨ n = 1 := by omega
  rcases this with rfl | rfl
  ·have h := Qpm (x := x) (k := Q5 x r.Kind) (n := r.A) (a := decide (Q5 x r.Kind < 0)) (b := false) hx hk id
   show (Option.bind (if _ then _ else _) _ : Option _) = _
   exact (congrArg (fun o => Option.bind o (fun p55 : Bool × Bool => some (Sum.inl ((IntKind.i64.wrap ((0:Int) + (1:Int))),p55.1,p55.2)))) h : _)
  ·have h := Qpm (x := x) (k := Q5 x r.Kind) (n := r.B) (a := decide (Q5 x r.Kind < 0) || Qdd x (Q5 x r.Kind) r.A) (b := false || Qc6 x (Q5 x r.Kind) r.A) hx hk id
   show (Option.bind (if _ then _ else _) _ : Option _) = _
   exact (congrArg (fun o => Option.bind o (fun p55 : Bool × Bool => some (Sum.inl ((IntKind.i64.wrap ((1:Int) + (1:Int))),p55.1,p55.2)))) h : _)
 ·dsimp only
  rw [QhL (by simp)]
  simp [st,Qol]

/-- A loop that collects. -/
theorem Qg1 {β : Type} (n : Nat) (g : Nat → List β) (B : Nat) (hB : ∀ k,k < n → (g k).length ≤ B) (a0 : List β) {body : Int × List β → Option ((Int × List β) ⊕ List β)}
  (hs : ∀ k,k < n → ∀ acc : List β,acc.length ≤ a0.length + k * B → body ((k : Int),acc) = some (.inl (((k + 1 : Nat) : Int),acc ++ g k))) (he : ∀ acc,body ((n : Int),acc) = some (.inr acc)) :
  QF body ((0 : Int),a0) = some (a0 ++ (List.range n).flatMap g) := by
 have hlen : ∀ m,m ≤ n → ((List.range m).flatMap g).length ≤ m * B := fun m => by
  induction m with
  | zero => intro _; simp
  | succ m ih =>
   intro hm
   rw [List.range_succ,List.flatMap_append,List.length_append,Nat.succ_mul]
   have h1 := ih (by omega)
   have h2 := hB m (by omega)
   simp only [List.flatMap_cons,List.flatMap_nil,List.append_nil]
   omega
 have h := Qjl (body := body) n (fun m => ((m : Int),a0 ++ (List.range m).flatMap g)) (a0 ++ (List.range n).flatMap g) (fun k hk => ?_) ?_
 ·simpa using h
 ·rw [hs k hk _ (by rw [List.length_append]; have := hlen k (by omega); omega),List.range_succ,List.flatMap_append]
  simp
 ·rw [he]

def prob (k j r e : Int) : List Qs := if e = 0 then [] else [⟨k,j,r,e⟩]
theorem QhM (k j r e : Int) : (prob k j r e).length ≤ 1 := by unfold prob; split <;> simp
theorem Qom {k j r e : Int} {l : List Qs} (h : l.length ≤ 1000000000) : Qbz k j r e l = some (l ++ prob k j r e) := by
 unfold Qbz prob
 by_cases he : e = 0
 ·rw [if_neg (by simp [he]),if_pos he,List.append_nil]; rfl
 ·rw [if_pos (by simpa using he),if_neg he,Qhh (by rw [List.length_singleton]; omega)]; rfl
def Qrk (x : Qh) (i : Nat) (l : Qo) : Int := Qbq [⟨(x.Lives.take i).any fun m => m.Name == l.Name,7⟩]
def Qon (x : Qh) (q : Qj) (k j : Int) (f : Qc) : Int := if Qat q f.Name < j then 7 else QlR x q k j f
def QgI (x : Qh) (i : Nat) : List Qs := match x.Lives[i]? with | some l => prob (-1) (i : Int) (-1) (Qrk x i l) | none => []
def QiA (x : Qh) (i : Nat) (q : Qj) (j : Nat) : List Qs := match q.Fields[j]? with | some f => prob (i : Int) (j : Int) (-1) (Qon x q (i : Int) (j : Int) f) | none => []
def QmY (x : Qh) (i : Nat) (q : Qj) : List Qs := (List.range q.Fields.length).flatMap (QiA x i q)
def Qhl (x : Qh) (i : Nat) : List Qs := match x.Kinds[i]? with | some q => prob (i : Int) (-1) (-1) (Qj2 x (i : Int) q) ++ QmY x i q | none => []
def QkM (x : Qh) (i : Nat) : List Qs := match x.Rules[i]? with | some r => prob (-1) (-1) (i : Int) (Qol x i r) | none => []
def Qd3 (x : Qh) : List Qs := (List.range x.Lives.length).flatMap (QgI x)
def QhC (x : Qh) : List Qs := (List.range x.Kinds.length).flatMap (Qhl x)
def Qsp (x : Qh) : List Qs := (List.range x.Rules.length).flatMap (QkM x)
theorem QkN (x : Qh) (i : Nat) : (QgI x i).length ≤ 1 := by unfold QgI; cases x.Lives[i]? with | none => simp | some f => exact QhM _ _ _ _
theorem QlS (x : Qh) (i : Nat) (q : Qj) (j : Nat) : (QiA x i q j).length ≤ 1 := by unfold QiA; cases q.Fields[j]? with | none => simp | some f => exact QhM _ _ _ _
theorem Qpn (x : Qh) (i : Nat) : (QkM x i).length ≤ 1 := by unfold QkM; cases x.Rules[i]? with | none => simp | some f => exact QhM _ _ _ _
/-- All problems. -/
def QeD (x : Qh) : List Qs := if Qgo x = 0 then Qd3 x ++ QhC x ++ Qsp x else [⟨-1,-1,-1,Qgo x⟩]
theorem QdB {β : Type} (n : Nat) (g : Nat → List β) (B : Nat) (hB : ∀ k,k < n → (g k).length ≤ B) : ((List.range n).flatMap g).length ≤ n * B := by
 induction n with
 | zero => simp
 | succ n ih =>
  rw [List.range_succ,List.flatMap_append,List.length_append,Nat.succ_mul]
  have h1 := ih fun k hk => hB k (by omega)
  have h2 := hB n (by omega)
  simp only [List.flatMap_cons,List.flatMap_nil,List.append_nil]
  omega
/-- What Check needs of a schema: its lists are short. -/
structure QlT (x : Qh) : Prop where
 few : Few x
 fine : Fine x
 lives : x.Lives.length ≤ 1000
 rules : x.Rules.length ≤ 1000
theorem Sz.short {x : Qh} (h : Sz x) : QlT x := ⟨h.few,h.fine,by have := h.2.1.1; omega,by have := h.2.2.1; omega⟩
theorem Qne {x : Qh} {i : Nat} {q : Qj} (h : q.Fields.length ≤ 1000) : (QmY x i q).length ≤ 1000 := by
 have := QdB q.Fields.length (QiA x i q) 1 (fun j _ => QlS x i q j)
 unfold QmY; omega
theorem Qtf {x : Qh} (h : QlT x) : QdQ x = some (QeD x) := by
 obtain ⟨hx,hfine,hlv,hrl⟩ := h
 unfold QdQ
 rw [Qtc hfine]
 simp only [Option.bind_some]
 unfold QeD
 by_cases hv : Qgo x = 0
 ·rw [if_neg (by simp [hv]),if_pos hv]
  have b1 : (Qd3 x).length ≤ 1000 := by
   have := QdB x.Lives.length (QgI x) 1 (fun j _ => QkN x j)
   unfold Qd3; omega
  have kl : ∀ k,k < x.Kinds.length → (Qhl x k).length ≤ 1001 := fun k hk => by
   unfold Qhl
   rw [List.getElem?_eq_getElem hk]
   dsimp only
   have := Qne (x := x) (i := k) (hx.2 _ (List.getElem_mem hk))
   have := QhM k (-1) (-1) (Qj2 x k x.Kinds[k])
   rw [List.length_append]; omega
  have b2 : (QhC x).length ≤ 1001000 := by
   have := QdB x.Kinds.length _ 1001 kl
   have := hx.1
   unfold QhC; omega
  have hk1 := hx.1
  rw [Qg1 x.Lives.length (QgI x) 1 (fun j _ => QkN x j) [] (fun k hk acc hacc => ?_) (fun acc => if_neg (by simp))]
  ·rw [show ([] : List Qs) ++ (List.range x.Lives.length).flatMap (QgI x) = Qd3 x from rfl]
   simp only [Option.bind_some]
   rw [Qg1 x.Kinds.length (Qhl x) 1001 kl (Qd3 x) (fun k hk acc hacc => ?_) (fun acc => if_neg (by simp))]
   ·rw [show Qd3 x ++ (List.range x.Kinds.length).flatMap (Qhl x) = Qd3 x ++ QhC x from rfl]
    simp only [Option.bind_some]
    rw [Qg1 x.Rules.length (QkM x) 1 (fun j _ => Qpn x j) (Qd3 x ++ QhC x) (fun k hk acc hacc => ?_) (fun acc => if_neg (by simp))]
    ·rfl
    ·rw [List.length_append] at hacc
     rw [if_pos (by simpa using hk)]
     dsimp only
     rw [Qu0 hx hrl hk (List.getElem?_eq_getElem hk)]
     simp only [Option.bind_some]
     rw [Qom (by omega)]
     simp only [Option.bind_some]
     unfold QkM
     rw [Q8 hk (by omega),List.getElem?_eq_getElem hk]
   ·have hq := Qak hk
    have hqf := hx.2 _ (List.getElem_mem hk)
    rw [if_pos (by simpa using hk)]
    dsimp only
    rw [hq]
    simp only [Option.bind_some]
    rw [QuZ hx hq]
    simp only [Option.bind_some]
    rw [Qom (by omega)]
    simp only [Option.bind_some]
    have pl := QhM k (-1) (-1) (Qj2 x k x.Kinds[k])
    rw [Qg1 x.Kinds[k].Fields.length (QiA x k x.Kinds[k]) 1 (fun j _ => QlS x k _ j) _ (fun j hj acc2 hacc2 => ?_) (fun acc => if_neg (by simp))]
    ·simp only [Option.bind_some]
     unfold Qhl
     rw [Q8 hk (by omega),List.getElem?_eq_getElem hk,List.append_assoc]
     rfl
    ·rw [List.length_append] at hacc2
     rw [if_pos (by simpa using hj)]
     dsimp only
     rw [Qak hj]
     simp only [Option.bind_some]
     rw [Qfc (by omega)]
     simp only [Option.bind_some]
     rw [QhL (by simp)]
     simp only [Option.bind_some]
     have hf : field? x (k : Int) (j : Int) = some x.Kinds[k].Fields[j] := QgY (by omega) (by omega) hq (Qak hj)
     have e : (if ((Qbp x.Kinds[k].Fields[j].Kind).isSome && (Qbq [⟨decide (Qat x.Kinds[k] x.Kinds[k].Fields[j].Name < (j : Int)),7⟩] == 0)) = true then (Qly (Qcb.mk (Qbp x.Kinds[k].Fields[j].Kind)).check ⟨x,k,j,x.Kinds[k].Fields[j]⟩).bind fun t97 => some t97 else some (Qbq [⟨decide (Qat x.Kinds[k] x.Kinds[k].Fields[j].Name < (j : Int)),7⟩])) = some (Qon x x.Kinds[k] k j x.Kinds[k].Fields[j]) := by
      unfold Qon
      by_cases hd : Qat x.Kinds[k] x.Kinds[k].Fields[j].Name < (j : Int)
      ·rw [if_pos hd,if_neg (by simp [Qbq,hd])]
       simp [Qbq,hd]
      ·rw [if_neg hd]
       have e0 : Qbq [⟨decide (Qat x.Kinds[k] x.Kinds[k].Fields[j].Name < (j : Int)),7⟩] = 0 := by simp [Qbq,hd]
       rw [e0]
       cases hs : (Qbp x.Kinds[k].Fields[j].Kind).isSome with
       | true => rw [if_pos (by simp),Qtd hx hlv hq hf hs]; rfl
       | false => rw [if_neg (by simp),Qte hs]
     rw [e]
     simp only [Option.bind_some]
     rw [Qom (by omega)]
     simp only [Option.bind_some]
     unfold QiA
     rw [Q8 hj (by omega),List.getElem?_eq_getElem hj]
  ·rw [List.length_nil] at hacc
   rw [if_pos (by simpa using hk)]
   dsimp only
   rw [Qak hk]
   simp only [Option.bind_some]
   have hs : Sim.sub x.Lives 0 (k : Int) = some (x.Lives.take k) := by
    unfold Sim.sub
    rw [if_pos ⟨by decide,by omega,by omega⟩]; simp
   rw [hs]
   simp only [Option.bind_some]
   rw [Qkv (f := fun x0 => QdH x0 x.Lives[k]) (p := fun m => m.Name == x.Lives[k].Name) (by rw [List.length_take]; omega) (fun l _ => rfl)]
   simp only [Option.bind_some]
   rw [QhL (by simp)]
   simp only [Option.bind_some]
   rw [Qom (by omega)]
   simp only [Option.bind_some]
   unfold QgI
   rw [Q8 hk (by omega),List.getElem?_eq_getElem hk]
   rfl
 ·rw [if_pos (by simpa using hv),if_neg hv]

end Go.Proofs.YtcdccjagknlmpaaGreatDoor

namespace Go.Proofs.YtcdccjagknlmpaaGreatDoor
open Go.Sim

theorem out_or (n : Nat) : ((decide ((n : Int) < 1)) || (decide ((n : Int) > 12))) = !inW (n : Int) 1 12 := by
 unfold inW
 by_cases h1 : (n : Int) < 1
 ·rw [decide_eq_true h1,decide_eq_false (by omega : ¬ (n : Int) ≥ 1)]; rfl
 ·rw [decide_eq_false h1,decide_eq_true (by omega : (n : Int) ≥ 1)]
  by_cases h2 : (n : Int) > 12
  ·rw [decide_eq_true h2,decide_eq_false (by omega : ¬ (n : Int) ≤ 12)]; rfl
  ·rw [decide_eq_false h2,decide_eq_true (by omega : (n : Int) ≤ 12)]; rfl
theorem QjE (s : Str) : Qa8 s = some (Q7 s) := by
 unfold Qa8 Q7
 rw [out_or]
 cases s with
 | nil => rfl
 | cons c s =>
  cases h : inW ((c :: s).length : Int) 1 12 with
  | false => rfl
  | true =>
   have hl := (Qc5 h).2
   rw [show idx (c :: s) (0 : Int) = some c from rfl]
   simp only [Sim.opt,Bool.not_true,beq_self_eq_true,if_true,Option.bind_some]
   rw [show QeZ (c.toNat : Int) = some (Qdq (c.toNat : Int)) from rfl]
   simp only [Option.bind_some]
   cases hc : Qdq (c.toNat : Int) with
   | false => simp [hc]
   | true =>
    rw [if_neg (by decide),QdS (c :: s) (fun b => Qdq (b.toNat : Int) || Qiy (b.toNat : Int)) false (fun k hk => ?_) (if_neg (by simp))]
    ·have e : (Q4 (c :: s)).all (fun c => Qdq c || Qiy c) = (c :: s).all (fun b => Qdq (b.toNat : Int) || Qiy (b.toNat : Int)) := by
      unfold Q4; rw [List.all_map]; rfl
     rw [e]
     simp only [List.headD_cons,hc,Bool.true_and,Option.bind_some]
     cases (c :: s).all (fun b => Qdq (b.toNat : Int) || Qiy (b.toNat : Int)) <;> rfl
    ·rw [if_pos (decide_eq_true (Int.ofNat_lt.2 hk)),Qak hk]
     simp only [Option.bind_some]
     rw [show QeZ (((c :: s)[k]).toNat : Int) = some (Qdq (((c :: s)[k]).toNat : Int)) from rfl]
     simp only [Option.bind_some]
     rw [Q8 hk (by omega)]
     cases Qdq (((c :: s)[k]).toNat : Int) with
     | true => rfl
     | false =>
      simp only [Bool.not_false,beq_self_eq_true,if_true,Option.bind_some,Bool.true_and,Bool.false_or]
      rw [show Qis (((c :: s)[k]).toNat : Int) = some (Qiy (((c :: s)[k]).toNat : Int)) from rfl]
      simp only [Option.bind_some]
      cases Qiy (((c :: s)[k]).toNat : Int) <;> rfl
theorem Qql {l : List Str} (hl : l.length ≤ 1000000) : Qfu l = some (l.all Q7) := by
 unfold Qfu
 rw [QdS l Q7 false (fun k hk => ?_) (if_neg (by simp))]
 ·cases l.all Q7 <;> rfl
 ·rw [if_pos (by simpa using hk),Qak hk]
  simp only [Option.bind_some]
  rw [QjE]
  simp only [Option.bind_some]
  rw [Q8 hk (by omega)]
  cases Q7 l[k] <;> rfl

end Go.Proofs.YtcdccjagknlmpaaGreatDoor

namespace Go.Proofs.YtcdccjagknlmpaaGreatDoor
open Go.Sim

theorem Qtg {x : Qo} (h1 : x.States.length ≤ 1000000) (h2 : x.Moves.length ≤ 1000000) : Qgi x = some (QfW x) := by
 unfold Qgi QfW
 rw [QjE]
 simp only [Option.bind_some]
 cases Q7 x.Name with
 | false => rfl
 | true =>
  rw [show QaP (x.States.length : Int) 1 12 = some (inW (x.States.length : Int) 1 12) from rfl]
  simp only [Sim.opt,Bool.not_true,beq_self_eq_true,if_true,Option.bind_some,Bool.true_and,Bool.false_or]
  cases inW (x.States.length : Int) 1 12 with
  | false => rfl
  | true =>
   rw [Qql h1]
   simp only [Bool.not_true,beq_self_eq_true,if_true,Option.bind_some,Bool.true_and,Bool.false_or]
   cases x.States.all Q7 with
   | false => rfl
   | true =>
    by_cases hm : (x.Moves.length : Int) ≤ 32
    ·rw [if_neg (by simp; omega),decide_eq_true hm,QdS x.Moves (Qjn (x.States.length : Int)) false (fun k hk => ?_) (if_neg (by simp))]
     ·simp only [Bool.true_and,Option.bind_some]
      cases x.Moves.all (Qjn (x.States.length : Int)) <;> rfl
     ·rw [if_pos (decide_eq_true (Int.ofNat_lt.2 hk)),Qak hk,w64 (n := (x.States.length : Int) - 1) (by omega) (by omega)]
      simp only [Option.bind_some]
      rw [show QaP x.Moves[k].a0 0 ((x.States.length : Int) - 1) = some (inW x.Moves[k].a0 0 ((x.States.length : Int) - 1)) from rfl]
      simp only [Option.bind_some]
      rw [Q8 hk (by omega)]
      unfold Qjn
      cases inW x.Moves[k].a0 0 ((x.States.length : Int) - 1) with
      | false => rfl
      | true =>
       simp only [Bool.not_true,beq_self_eq_true,if_true,Option.bind_some,Bool.true_and,Bool.false_or]
       rw [show QaP x.Moves[k].a1 0 ((x.States.length : Int) - 1) = some (inW x.Moves[k].a1 0 ((x.States.length : Int) - 1)) from rfl]
       simp only [Option.bind_some]
       cases inW x.Moves[k].a1 0 ((x.States.length : Int) - 1) <;> rfl
    ·rw [if_pos (by simp; omega),decide_eq_false hm]; rfl
theorem Qth (r : Qn) : Qgj r = some (QfX r) := by
 unfold Qgj QfX
 simp only [QjE]
 rw [show QaP r.N (-1048576) 1048576 = some (inW r.N (-1048576) 1048576) from rfl]
 have ne : ∀ s : Str,(s != ([] : Str)) = !(s == []) := fun s => rfl
 have ap : ∀ a b : Str,((a ++ b) != ([] : Str)) = !((a == []) && (b == [])) := fun a b => by cases a <;> cases b <;> rfl
 rw [ne,ne,ap]
 cases (r.A == []) <;> cases (r.B == []) <;> cases Q7 r.A <;> cases Q7 r.B <;> cases Q7 r.Name <;> cases Q7 r.Kind <;> rfl

end Go.Proofs.YtcdccjagknlmpaaGreatDoor

namespace Go.Proofs.YtcdccjagknlmpaaGreatDoor
open Go.Sim

theorem Qti {f : Qc} (hw : f.Words.length ≤ 1000000) (hg : f.Weights.length ≤ 1000000) : Qgg f = some (Qj1 f.Words f.Weights) := by
 rw [← Qpj hw hg]
 unfold Qgg Qb4
 have e : (fun s5 : Int × Int => ((if (decide (s5.1 < (f.Weights.length : Int))) = true then (idx f.Weights s5.1).bind fun t15 => (QaP t15 (0:Int) (1048576:Int)).bind fun t17 => (if (!t17) = true then (some (.inr (.inr false))) else (idx f.Weights s5.1).bind fun t23 => (some (.inl ((IntKind.i64.wrap (s5.1 + (1:Int))),(IntKind.i64.wrap (s5.2 + t23)))))) else (some (.inr (.inl s5.2)))) : Option ((Int × Int) ⊕ ((Int) ⊕ (Bool))))) =
   fun s5 : Int × Int => ((if (decide (s5.1 < (f.Weights.length : Int))) = true then (idx f.Weights s5.1).bind fun t12 => (QaW t12 (0:Int) (1048576:Int)).bind fun t15 => (if (!t15) = true then (some (.inr (.inr false))) else (some (.inl ((IntKind.i64.wrap (s5.1 + (1:Int))),(IntKind.i64.wrap (s5.2 + t12)))))) else (some (.inr (.inl s5.2)))) : Option ((Int × Int) ⊕ ((Int) ⊕ (Bool)))) := by
  funext s
  split
  ·cases hi : idx f.Weights s.1 with
   | none => rfl
   | some v => rfl
  ·rfl
 rw [e]
 congr 1
 funext o
 cases o with
 | inr p => rfl
 | inl p =>
  dsimp only
  rw [Qql hw,QmG (p := Q7) hw (fun s _ => QfJ s)]
  rfl

end Go.Proofs.YtcdccjagknlmpaaGreatDoor

namespace Go.Proofs.YtcdccjagknlmpaaGreatDoor
open Go.Sim

theorem Qu1 {w : List Str} {g : List Int} (hw : w.length ≤ 1000000) (hg : g.length ≤ 1000000) : decide (IntKind.i64.wrap ((w.length : Int) + (g.length : Int)) > 0) = !(decide (w = []) && decide (g = [])) := by
 rw [w64 (by omega) (by omega)]
 cases w with
 | nil => cases g with
  | nil => rfl
  | cons b g => simp
 | cons a w => simp; omega
theorem Qsq {f : Qc} (hw : f.Words.length ≤ 1000000) (hg : f.Weights.length ≤ 1000000) : Qfv f = some (QaT f) := by
 have e1 := Qu1 hw hg
 have hp := Qti hw hg
 unfold Qfv
 rw [e1,hp]
 clear e1 hp hw hg
 obtain ⟨n,o,u,k,lo,hi,w,g⟩ := f
 simp only [QbB,QjE,Option.bind_some]
 have ne : ∀ s : Str,(s != ([] : Str)) = !(s == []) := fun s => rfl
 have ni : ∀ a : Int,(a != 0) = !(a == 0) := fun a => rfl
 by_cases k0 : k = 0
 ·subst k0
  have e : QaT ⟨n,o,u,0,lo,hi,w,g⟩ = ((Q7 n && (((((o == []) && (u == [])) && (hi == 0)) && decide (w = [])) && decide (g = []))) && inW lo (-1048576) 1048576) := by
   unfold QaT Qhk Qhj QgH
   simp
  rw [e]
  simp only [ne,ni]
  cases Q7 n <;> cases (o == []) <;> cases (u == []) <;> cases (hi == 0) <;> cases decide (w = []) <;> cases decide (g = []) <;> rfl
 by_cases k1 : k = 1
 ·subst k1
  have e : QaT ⟨n,o,u,1,lo,hi,w,g⟩ = ((Q7 n && (((u == []) && decide (w = [])) && decide (g = []))) && (Q7 o && Qfd lo hi 0 65536)) := by
   unfold QaT Qhk Qhj QgH
   simp
  rw [e]
  simp only [ne,ni]
  cases Q7 n <;> cases (u == []) <;> cases decide (w = []) <;> cases decide (g = []) <;> cases Q7 o <;> rfl
 by_cases k2 : k = 2
 ·subst k2
  have e : QaT ⟨n,o,u,2,lo,hi,w,g⟩ = ((Q7 n && ((((o == []) && (u == [])) && decide (w = [])) && decide (g = []))) && Qfd lo hi (-1048576) 1048576) := by
   unfold QaT Qhk Qhj QgH
   simp
  rw [e]
  simp only [ne,ni]
  cases Q7 n <;> cases (o == []) <;> cases (u == []) <;> cases decide (w = []) <;> cases decide (g = []) <;> rfl
 by_cases k3 : k = 3
 ·subst k3
  have e : QaT ⟨n,o,u,3,lo,hi,w,g⟩ = ((Q7 n && ((((o == []) && (u == [])) && (lo == 0)) && (hi == 0))) && Qj1 w g) := by
   unfold QaT Qhk Qhj QgH
   simp
  rw [e]
  simp only [ne,ni]
  cases Q7 n <;> cases (o == []) <;> cases (u == []) <;> cases (lo == 0) <;> cases (hi == 0) <;> rfl
 by_cases k4 : k = 4
 ·subst k4
  have e : QaT ⟨n,o,u,4,lo,hi,w,g⟩ = ((Q7 n && (((u == []) && decide (w = [])) && decide (g = []))) && (((o == []) || Q7 o) && Qfd lo hi (-1048576) 1048576)) := by
   unfold QaT Qhk Qhj QgH
   simp
  rw [e]
  simp only [ne,ni]
  cases Q7 n <;> cases (u == []) <;> cases decide (w = []) <;> cases decide (g = []) <;> cases Q7 o <;> cases (o == []) <;> rfl
 by_cases k5 : k = 5
 ·subst k5
  have e : QaT ⟨n,o,u,5,lo,hi,w,g⟩ = ((Q7 n && (((u == []) && decide (w = [])) && decide (g = []))) && (Q7 o && Qfd lo hi 0 32)) := by
   unfold QaT Qhk Qhj QgH
   simp
  rw [e]
  simp only [ne,ni]
  cases Q7 n <;> cases (u == []) <;> cases decide (w = []) <;> cases decide (g = []) <;> cases Q7 o <;> rfl
 by_cases k6 : k = 6
 ·subst k6
  have e : QaT ⟨n,o,u,6,lo,hi,w,g⟩ = ((Q7 n && (((((u == []) && (lo == 0)) && (hi == 0)) && decide (w = [])) && decide (g = []))) && Q7 o) := by
   unfold QaT Qhk Qhj QgH
   simp
  rw [e]
  simp only [ne,ni]
  cases Q7 n <;> cases (u == []) <;> cases (lo == 0) <;> cases (hi == 0) <;> cases decide (w = []) <;> cases decide (g = []) <;> cases Q7 o <;> rfl
 by_cases k7 : k = 7
 ·subst k7
  have e : QaT ⟨n,o,u,7,lo,hi,w,g⟩ = ((Q7 n && (decide (w = []) && decide (g = []))) && ((Q7 o && Q7 u) && Qfd lo hi 0 1048576)) := by
   unfold QaT Qhk Qhj QgH
   simp
  rw [e]
  simp only [ne,ni]
  cases Q7 n <;> cases decide (w = []) <;> cases decide (g = []) <;> cases Q7 o <;> cases Q7 u <;> rfl
 by_cases k8 : k = 8
 ·subst k8
  have e : QaT ⟨n,o,u,8,lo,hi,w,g⟩ = ((Q7 n && ((((lo == 0) && (hi == 0)) && decide (w = [])) && decide (g = []))) && (Q7 o && Q7 u)) := by
   unfold QaT Qhk Qhj QgH
   simp
  rw [e]
  simp only [ne,ni]
  cases Q7 n <;> cases (lo == 0) <;> cases (hi == 0) <;> cases decide (w = []) <;> cases decide (g = []) <;> cases Q7 o <;> cases Q7 u <;> rfl
 have hr : ((decide (k < 0)) || (decide (k ≥ 9))) = true := by simp; omega
 have e : QaT ⟨n,o,u,k,lo,hi,w,g⟩ = false := by
  unfold QaT QgH
  simp [k0,k1,k2,k3,k4,k5,k6,k7,k8]
 rw [e,hr]
 rfl

end Go.Proofs.YtcdccjagknlmpaaGreatDoor

namespace Go.Proofs.YtcdccjagknlmpaaGreatDoor
open Go.Sim

theorem Qtj {k : Qj} (h : QmH k.Fields) : Qgh k = some (Qfe k) := by
 unfold Qgh Qfe
 rw [QjE]
 simp only [Option.bind_some]
 cases Q7 k.Name with
 | false => rfl
 | true =>
  rw [show Qdt k.Lo k.Hi 0 65536 = some (Qfd k.Lo k.Hi 0 65536) from rfl]
  simp only [Sim.opt,Bool.not_true,beq_self_eq_true,if_true,Option.bind_some,Bool.true_and,Bool.false_or]
  cases Qfd k.Lo k.Hi 0 65536 with
  | false => rfl
  | true =>
   by_cases hm : (k.Fields.length : Int) ≤ 10
   ·rw [if_neg (by simp; omega),decide_eq_true hm,QdS k.Fields QaT false (fun i hi => ?_) (if_neg (by simp))]
    ·simp only [Bool.true_and,Option.bind_some]
     cases k.Fields.all QaT <;> rfl
    ·have hf := h.2 _ (List.getElem_mem hi)
     have hl := h.1
     rw [if_pos (decide_eq_true (Int.ofNat_lt.2 hi)),Qak hi]
     simp only [Option.bind_some]
     rw [Qsq hf.1 hf.2]
     simp only [Option.bind_some]
     rw [Q8 hi (by omega)]
     cases QaT k.Fields[i] <;> rfl
   ·rw [if_pos (by simp; omega),decide_eq_false hm]; rfl

end Go.Proofs.YtcdccjagknlmpaaGreatDoor

namespace Go.Proofs.YtcdccjagknlmpaaGreatDoor
open Go.Sim

theorem Qqm {u : Nat} (h : u < 10) : QjX [IntKind.u8.wrap (IntKind.i64.wrap ((48:Int) + (u : Int)))] = [UInt8.ofNat (48 + u)] := by
 have : u = 0 ∨ u = 1 ∨ u = 2 ∨ u = 3 ∨ u = 4 ∨ u = 5 ∨ u = 6 ∨ u = 7 ∨ u = 8 ∨ u = 9 := by omega
 rcases this with rfl | rfl | rfl | rfl | rfl | rfl | rfl | rfl | rfl | rfl <;> rfl
theorem decN : ∀ (k u : Nat),k ≤ 1000000000000 → u < 10 ^ (k + 1) → u ≤ 1000000000 → QdJ (k + 1) (u : Int) = some (Lib.decDigits u)
 | k,u,hk,hu,hb => by
  show Qc2 (QdJ k) (u : Int) = _
  unfold Qc2
  rw [if_neg (by simp)]
  rw [Lib.decDigits]
  by_cases h : u < 10
  ·rw [if_pos (by simp; omega),dif_pos h,Qqm h]
  ·rw [if_neg (by simp; omega),dif_neg h]
   cases k with
   | zero => simp at hu; omega
   | succ k =>
    have e1 : IntKind.i64.wrap (Int.tdiv (u : Int) 10) = ((u / 10 : Nat) : Int) := by
     rw [Int.tdiv_eq_ediv_of_nonneg (by omega),w64 (by omega) (by omega)]; rfl
    have e2 : Int.tmod (u : Int) 10 = ((u % 10 : Nat) : Int) := by rw [Int.tmod_eq_emod_of_nonneg (by omega)]; rfl
    rw [e1,e2,decN k (u / 10) (by omega) (by rw [Nat.pow_succ] at hu; omega) (by omega)]
    simp only [Option.bind_some]
    rw [Qqm (by omega)]
    have hl := Qiz 18 (u / 10) (by omega)
    have ec : cat ((Lib.decDigits (u / 10)).length + ([UInt8.ofNat (48 + u % 10)] : Str).length) = some () := if_pos (by rw [List.length_singleton]; omega)
    rw [ec]; rfl

theorem Qoo (u : Nat) : u < 10 ^ (u + 1) := by
 have h : u + 1 < 10 ^ (u + 1) := Nat.lt_pow_self (by decide)
 omega
theorem Qrl {n : Int} (h : -1000000000 ≤ n ∧ n ≤ 1000000000) : Qhg n = some (Lib.itoa n) := by
 unfold Qhg Lib.itoa
 by_cases hn : n < 0
 ·show Qc2 (QdJ (n.natAbs + 1)) n = _
  unfold Qc2
  have e : IntKind.i64.wrap (0 - n) = (n.natAbs : Int) := by rw [w64 (by omega) (by omega)]; omega
  rw [if_pos (decide_eq_true hn),if_pos hn,e,decN n.natAbs n.natAbs (by omega) (Qoo _) (by omega)]
  simp only [Option.bind_some]
  have hl := Qiz 18 n.natAbs (by omega)
  have ec : cat (([45] : Str).length + (Lib.decDigits n.natAbs).length) = some () := if_pos (by rw [List.length_singleton]; omega)
  rw [ec]; rfl
 ·rw [if_neg hn]
  have e : n = (n.toNat : Int) := by omega
  have e2 : n.natAbs + 2 = (n.natAbs + 1) + 1 := rfl
  rw [e2]
  have := decN (n.natAbs + 1) n.toNat (by omega) (Nat.lt_of_lt_of_le (Qoo n.toNat) (Nat.pow_le_pow_right (by decide) (by omega))) (by omega)
  rw [← e] at this
  exact this

end Go.Proofs.YtcdccjagknlmpaaGreatDoor

namespace Go.Proofs.YtcdccjagknlmpaaGreatDoor
open Go.Sim

theorem Qai {n : Nat} (h : n ≤ 1000000000000) : cat n = some () := if_pos (by omega)
theorem QcT {s : Str} {n : Int} (hs : s.length ≤ 100000000000) (h : -1000000000 ≤ n ∧ n ≤ 1000000000) : Qbs s n = some (s ++ (32 :: Lib.itoa n)) := by
 have hl := Qcf (n := n) (by unfold I64; omega)
 unfold Qbs
 rw [Qai (by rw [List.length_singleton]; omega)]
 simp only [Option.bind_some]
 rw [Qrl h]
 simp only [Option.bind_some]
 rw [Qai (by rw [List.length_append,List.length_singleton]; omega)]
 simp
theorem QfL (s : Str) : Qeu s = some (Qa5 s) := by
 unfold Qeu Qa5
 by_cases h : s = []
 ·rw [if_pos (by simp [h]),if_pos h]
 ·rw [if_neg (by simpa using h),if_neg h]

end Go.Proofs.YtcdccjagknlmpaaGreatDoor

namespace Go.Proofs.YtcdccjagknlmpaaGreatDoor
open Go.Sim

/-- A valid field whose names are not empty where they must not be. -/
theorem QlU {s : Str} (h : Q7 s = true) : Qa5 s = s := by
 unfold Qa5
 rw [if_neg]
 rintro rfl
 cases h
theorem rLine0 {n o u : Str} {lo hi : Int} {w : List Str} {g : List Int} (hn : n.length ≤ 12) (hlo : -1000000000 ≤ lo ∧ lo ≤ 1000000000) : QaD ⟨n,o,u,0,lo,hi,w,g⟩ = some (10 :: ([107,101,121] ++ toks [.str n,.int lo])) := by
 unfold QaD QbB QbG
 simp only [Option.bind_some]
 rw [show idx ([([107,101,121] : Str),([114,101,102] : Str),([110,117,109] : Str),([112,105,99,107] : Str),([100,97,121] : Str),([115,116,101,112] : Str),([115,117,109] : Str),([115,104,97,114,101] : Str),([99,111,112,121] : Str)]) (0 : Int) = some [107,101,121] from rfl]
 simp only [Option.bind_some]
 rw [Qai (by simp),Qai (by simp only [List.length_append,List.length_cons,List.length_nil]; omega),Qai (by simp only [List.length_append,List.length_cons,List.length_nil]; omega)]
 simp only [Option.bind_some]
 rw [if_neg (by decide)]
 simp only [Option.bind_some]
 rw [if_neg (by decide)]
 simp only [Option.bind_some]
 have l1 := Qcf (n := lo) (by unfold I64; omega)
 rw [if_pos (by decide),QcT (by simp only [List.length_append,List.length_cons,List.length_nil]; omega) hlo]
 simp only [Option.bind_some]
 rw [if_neg (by decide)]
 simp only [Option.bind_some]
 rw [if_neg (by decide)]
 simp [toks,QdL]
theorem rLine1 {n o u : Str} {lo hi : Int} {w : List Str} {g : List Int} (hn : n.length ≤ 12) (ho : (Qa5 o).length ≤ 12) (hlo : -1000000000 ≤ lo ∧ lo ≤ 1000000000) (hhi : -1000000000 ≤ hi ∧ hi ≤ 1000000000) : QaD ⟨n,o,u,1,lo,hi,w,g⟩ = some (10 :: ([114,101,102] ++ toks [.str n,.str (Qa5 o),.int lo,.int hi])) := by
 unfold QaD QbB QbG
 simp only [Option.bind_some]
 rw [show idx ([([107,101,121] : Str),([114,101,102] : Str),([110,117,109] : Str),([112,105,99,107] : Str),([100,97,121] : Str),([115,116,101,112] : Str),([115,117,109] : Str),([115,104,97,114,101] : Str),([99,111,112,121] : Str)]) (1 : Int) = some [114,101,102] from rfl]
 simp only [Option.bind_some]
 rw [Qai (by simp),Qai (by simp only [List.length_append,List.length_cons,List.length_nil]; omega),Qai (by simp only [List.length_append,List.length_cons,List.length_nil]; omega)]
 simp only [Option.bind_some]
 rw [if_neg (by decide)]
 simp only [Option.bind_some]
 rw [if_pos (by decide),Qai (by simp only [List.length_append,List.length_cons,List.length_nil]; omega),QfL]
 simp only [Option.bind_some]
 rw [Qai (by simp only [List.length_append,List.length_cons,List.length_nil]; omega)]
 simp only [Option.bind_some]
 have l1 := Qcf (n := lo) (by unfold I64; omega)
 rw [if_pos (by decide),QcT (by simp only [List.length_append,List.length_cons,List.length_nil]; omega) hlo]
 simp only [Option.bind_some]
 rw [if_pos (by decide),QcT (by simp only [List.length_append,List.length_cons,List.length_nil]; omega) hhi]
 simp only [Option.bind_some]
 rw [if_neg (by decide)]
 simp [toks,QdL]
theorem rLine2 {n o u : Str} {lo hi : Int} {w : List Str} {g : List Int} (hn : n.length ≤ 12) (hlo : -1000000000 ≤ lo ∧ lo ≤ 1000000000) (hhi : -1000000000 ≤ hi ∧ hi ≤ 1000000000) : QaD ⟨n,o,u,2,lo,hi,w,g⟩ = some (10 :: ([110,117,109] ++ toks [.str n,.int lo,.int hi])) := by
 unfold QaD QbB QbG
 simp only [Option.bind_some]
 rw [show idx ([([107,101,121] : Str),([114,101,102] : Str),([110,117,109] : Str),([112,105,99,107] : Str),([100,97,121] : Str),([115,116,101,112] : Str),([115,117,109] : Str),([115,104,97,114,101] : Str),([99,111,112,121] : Str)]) (2 : Int) = some [110,117,109] from rfl]
 simp only [Option.bind_some]
 rw [Qai (by simp),Qai (by simp only [List.length_append,List.length_cons,List.length_nil]; omega),Qai (by simp only [List.length_append,List.length_cons,List.length_nil]; omega)]
 simp only [Option.bind_some]
 rw [if_neg (by decide)]
 simp only [Option.bind_some]
 rw [if_neg (by decide)]
 simp only [Option.bind_some]
 have l1 := Qcf (n := lo) (by unfold I64; omega)
 rw [if_pos (by decide),QcT (by simp only [List.length_append,List.length_cons,List.length_nil]; omega) hlo]
 simp only [Option.bind_some]
 rw [if_pos (by decide),QcT (by simp only [List.length_append,List.length_cons,List.length_nil]; omega) hhi]
 simp only [Option.bind_some]
 rw [if_neg (by decide)]
 simp [toks,QdL]
theorem rLine4 {n o u : Str} {lo hi : Int} {w : List Str} {g : List Int} (hn : n.length ≤ 12) (ho : (Qa5 o).length ≤ 12) (hlo : -1000000000 ≤ lo ∧ lo ≤ 1000000000) (hhi : -1000000000 ≤ hi ∧ hi ≤ 1000000000) : QaD ⟨n,o,u,4,lo,hi,w,g⟩ = some (10 :: ([100,97,121] ++ toks [.str n,.str (Qa5 o),.int lo,.int hi])) := by
 unfold QaD QbB QbG
 simp only [Option.bind_some]
 rw [show idx ([([107,101,121] : Str),([114,101,102] : Str),([110,117,109] : Str),([112,105,99,107] : Str),([100,97,121] : Str),([115,116,101,112] : Str),([115,117,109] : Str),([115,104,97,114,101] : Str),([99,111,112,121] : Str)]) (4 : Int) = some [100,97,121] from rfl]
 simp only [Option.bind_some]
 rw [Qai (by simp),Qai (by simp only [List.length_append,List.length_cons,List.length_nil]; omega),Qai (by simp only [List.length_append,List.length_cons,List.length_nil]; omega)]
 simp only [Option.bind_some]
 rw [if_neg (by decide)]
 simp only [Option.bind_some]
 rw [if_pos (by decide),Qai (by simp only [List.length_append,List.length_cons,List.length_nil]; omega),QfL]
 simp only [Option.bind_some]
 rw [Qai (by simp only [List.length_append,List.length_cons,List.length_nil]; omega)]
 simp only [Option.bind_some]
 have l1 := Qcf (n := lo) (by unfold I64; omega)
 rw [if_pos (by decide),QcT (by simp only [List.length_append,List.length_cons,List.length_nil]; omega) hlo]
 simp only [Option.bind_some]
 rw [if_pos (by decide),QcT (by simp only [List.length_append,List.length_cons,List.length_nil]; omega) hhi]
 simp only [Option.bind_some]
 rw [if_neg (by decide)]
 simp [toks,QdL]
theorem rLine5 {n o u : Str} {lo hi : Int} {w : List Str} {g : List Int} (hn : n.length ≤ 12) (ho : (Qa5 o).length ≤ 12) (hlo : -1000000000 ≤ lo ∧ lo ≤ 1000000000) (hhi : -1000000000 ≤ hi ∧ hi ≤ 1000000000) : QaD ⟨n,o,u,5,lo,hi,w,g⟩ = some (10 :: ([115,116,101,112] ++ toks [.str n,.str (Qa5 o),.int lo,.int hi])) := by
 unfold QaD QbB QbG
 simp only [Option.bind_some]
 rw [show idx ([([107,101,121] : Str),([114,101,102] : Str),([110,117,109] : Str),([112,105,99,107] : Str),([100,97,121] : Str),([115,116,101,112] : Str),([115,117,109] : Str),([115,104,97,114,101] : Str),([99,111,112,121] : Str)]) (5 : Int) = some [115,116,101,112] from rfl]
 simp only [Option.bind_some]
 rw [Qai (by simp),Qai (by simp only [List.length_append,List.length_cons,List.length_nil]; omega),Qai (by simp only [List.length_append,List.length_cons,List.length_nil]; omega)]
 simp only [Option.bind_some]
 rw [if_neg (by decide)]
 simp only [Option.bind_some]
 rw [if_pos (by decide),Qai (by simp only [List.length_append,List.length_cons,List.length_nil]; omega),QfL]
 simp only [Option.bind_some]
 rw [Qai (by simp only [List.length_append,List.length_cons,List.length_nil]; omega)]
 simp only [Option.bind_some]
 have l1 := Qcf (n := lo) (by unfold I64; omega)
 rw [if_pos (by decide),QcT (by simp only [List.length_append,List.length_cons,List.length_nil]; omega) hlo]
 simp only [Option.bind_some]
 rw [if_pos (by decide),QcT (by simp only [List.length_append,List.length_cons,List.length_nil]; omega) hhi]
 simp only [Option.bind_some]
 rw [if_neg (by decide)]
 simp [toks,QdL]
theorem rLine6 {n o u : Str} {lo hi : Int} {w : List Str} {g : List Int} (hn : n.length ≤ 12) (ho : (Qa5 o).length ≤ 12) (hno : Qa5 o = o) : QaD ⟨n,o,u,6,lo,hi,w,g⟩ = some (10 :: ([115,117,109] ++ toks [.str n,.str o])) := by
 unfold QaD QbB QbG
 simp only [Option.bind_some]
 rw [show idx ([([107,101,121] : Str),([114,101,102] : Str),([110,117,109] : Str),([112,105,99,107] : Str),([100,97,121] : Str),([115,116,101,112] : Str),([115,117,109] : Str),([115,104,97,114,101] : Str),([99,111,112,121] : Str)]) (6 : Int) = some [115,117,109] from rfl]
 simp only [Option.bind_some]
 rw [Qai (by simp),Qai (by simp only [List.length_append,List.length_cons,List.length_nil]; omega),Qai (by simp only [List.length_append,List.length_cons,List.length_nil]; omega)]
 simp only [Option.bind_some]
 rw [if_neg (by decide)]
 simp only [Option.bind_some]
 rw [if_pos (by decide),Qai (by simp only [List.length_append,List.length_cons,List.length_nil]; omega),QfL]
 simp only [Option.bind_some]
 rw [Qai (by simp only [List.length_append,List.length_cons,List.length_nil]; omega)]
 simp only [Option.bind_some]
 rw [if_neg (by decide)]
 simp only [Option.bind_some]
 rw [if_neg (by decide)]
 simp only [Option.bind_some]
 rw [if_neg (by decide)]
 simp [toks,QdL,hno]
theorem rLine7 {n o u : Str} {lo hi : Int} {w : List Str} {g : List Int} (hn : n.length ≤ 12) (hu : u.length ≤ 12) (ho : (Qa5 o).length ≤ 12) (hno : Qa5 o = o) (hlo : -1000000000 ≤ lo ∧ lo ≤ 1000000000) (hhi : -1000000000 ≤ hi ∧ hi ≤ 1000000000) : QaD ⟨n,o,u,7,lo,hi,w,g⟩ = some (10 :: ([115,104,97,114,101] ++ toks [.str n,.str u,.str o,.int lo,.int hi])) := by
 unfold QaD QbB QbG
 simp only [Option.bind_some]
 rw [show idx ([([107,101,121] : Str),([114,101,102] : Str),([110,117,109] : Str),([112,105,99,107] : Str),([100,97,121] : Str),([115,116,101,112] : Str),([115,117,109] : Str),([115,104,97,114,101] : Str),([99,111,112,121] : Str)]) (7 : Int) = some [115,104,97,114,101] from rfl]
 simp only [Option.bind_some]
 rw [Qai (by simp),Qai (by simp only [List.length_append,List.length_cons,List.length_nil]; omega),Qai (by simp only [List.length_append,List.length_cons,List.length_nil]; omega)]
 simp only [Option.bind_some]
 rw [if_pos (by decide),Qai (by simp only [List.length_append,List.length_cons,List.length_nil]; omega),Qai (by simp only [List.length_append,List.length_cons,List.length_nil]; omega)]
 simp only [Option.bind_some]
 rw [if_pos (by decide),Qai (by simp only [List.length_append,List.length_cons,List.length_nil]; omega),QfL]
 simp only [Option.bind_some]
 rw [Qai (by simp only [List.length_append,List.length_cons,List.length_nil]; omega)]
 simp only [Option.bind_some]
 have l1 := Qcf (n := lo) (by unfold I64; omega)
 rw [if_pos (by decide),QcT (by simp only [List.length_append,List.length_cons,List.length_nil]; omega) hlo]
 simp only [Option.bind_some]
 rw [if_pos (by decide),QcT (by simp only [List.length_append,List.length_cons,List.length_nil]; omega) hhi]
 simp only [Option.bind_some]
 rw [if_neg (by decide)]
 simp [toks,QdL,hno]
theorem rLine8 {n o u : Str} {lo hi : Int} {w : List Str} {g : List Int} (hn : n.length ≤ 12) (hu : u.length ≤ 12) (ho : (Qa5 o).length ≤ 12) (hno : Qa5 o = o) : QaD ⟨n,o,u,8,lo,hi,w,g⟩ = some (10 :: ([99,111,112,121] ++ toks [.str n,.str u,.str o])) := by
 unfold QaD QbB QbG
 simp only [Option.bind_some]
 rw [show idx ([([107,101,121] : Str),([114,101,102] : Str),([110,117,109] : Str),([112,105,99,107] : Str),([100,97,121] : Str),([115,116,101,112] : Str),([115,117,109] : Str),([115,104,97,114,101] : Str),([99,111,112,121] : Str)]) (8 : Int) = some [99,111,112,121] from rfl]
 simp only [Option.bind_some]
 rw [Qai (by simp),Qai (by simp only [List.length_append,List.length_cons,List.length_nil]; omega),Qai (by simp only [List.length_append,List.length_cons,List.length_nil]; omega)]
 simp only [Option.bind_some]
 rw [if_pos (by decide),Qai (by simp only [List.length_append,List.length_cons,List.length_nil]; omega),Qai (by simp only [List.length_append,List.length_cons,List.length_nil]; omega)]
 simp only [Option.bind_some]
 rw [if_pos (by decide),Qai (by simp only [List.length_append,List.length_cons,List.length_nil]; omega),QfL]
 simp only [Option.bind_some]
 rw [Qai (by simp only [List.length_append,List.length_cons,List.length_nil]; omega)]
 simp only [Option.bind_some]
 rw [if_neg (by decide)]
 simp only [Option.bind_some]
 rw [if_neg (by decide)]
 simp only [Option.bind_some]
 rw [if_neg (by decide)]
 simp [toks,QdL,hno]

end Go.Proofs.YtcdccjagknlmpaaGreatDoor

namespace Go.Proofs.YtcdccjagknlmpaaGreatDoor
open Go.Sim

/-- A line of a field without its end. -/
def QmZ (f : Qc) : Str := QlQ f ++ toks (QaL f)
theorem Qrm (l : List (Str × Int)) : toks (l.flatMap fun p => [AnyV.str p.1,AnyV.int p.2]) = l.flatMap fun p => (32 :: p.1) ++ (32 :: Lib.itoa p.2) := by
 induction l with
 | nil => rfl
 | cons a l ih =>
  rw [List.flatMap_cons,List.flatMap_cons,← ih]
  simp [toks,QdL]
theorem rLine3 {n o u : Str} {lo hi : Int} {w : List Str} {g : List Int} (hn : n.length ≤ 12) (hl : w.length = g.length) (h12 : w.length ≤ 12) (hw : ∀ s ∈ w,s.length ≤ 12) (hg : ∀ x ∈ g,0 ≤ x ∧ x ≤ 1048576) :
  QaD ⟨n,o,u,3,lo,hi,w,g⟩ = some (10 :: ([112,105,99,107] ++ toks ([.str n,.int (w.length : Int)] ++ (w.zip g).flatMap fun p => [.str p.1,.int p.2]))) := by
 have hz : (w.zip g).length = w.length := by rw [List.length_zip]; omega
 unfold QaD QbB QbG
 simp only [Option.bind_some]
 rw [show idx ([([107,101,121] : Str),([114,101,102] : Str),([110,117,109] : Str),([112,105,99,107] : Str),([100,97,121] : Str),([115,116,101,112] : Str),([115,117,109] : Str),([115,104,97,114,101] : Str),([99,111,112,121] : Str)]) (3 : Int) = some [112,105,99,107] from rfl]
 simp only [Option.bind_some]
 rw [Qai (by simp),Qai (by simp only [List.length_append,List.length_cons,List.length_nil]; omega),Qai (by simp only [List.length_append,List.length_cons,List.length_nil]; omega)]
 simp only [Option.bind_some]
 rw [if_neg (by decide)]
 simp only [Option.bind_some]
 rw [if_neg (by decide)]
 simp only [Option.bind_some]
 rw [if_neg (by decide)]
 simp only [Option.bind_some]
 rw [if_neg (by decide)]
 simp only [Option.bind_some]
 have l1 := Qcf (n := (w.length : Int)) (by unfold I64; omega)
 rw [if_pos (by decide),QcT (by simp only [List.length_append,List.length_cons,List.length_nil]; omega) (by omega)]
 simp only [Option.bind_some]
 have lp : ∀ p ∈ w.zip g,p.1.length ≤ 12 ∧ 0 ≤ p.2 ∧ p.2 ≤ 1048576 ∧ (Lib.itoa p.2).length ≤ 20 := fun p hp => by
  obtain ⟨a,b⟩ := p
  have h := List.of_mem_zip hp
  have h2 := hg b h.2
  exact ⟨hw a h.1,h2.1,h2.2,Qcf (by unfold I64; dsimp only; omega)⟩
 rw [QdT (w.zip g) (fun p => (32 :: p.1) ++ (32 :: Lib.itoa p.2)) 40 (fun p hp => ?_) _ (fun k hk acc hacc => ?_) (fun acc => ?_)]
 ·simp only [Option.bind_some]
  have e : ∀ a b : List AnyV,toks (a ++ b) = toks a ++ toks b := fun a b => by unfold toks; rw [List.flatMap_append]
  rw [e,Qrm]
  simp [toks,QdL]
 ·have := lp p hp
  simp only [List.length_append,List.length_cons]; omega
 ·have hk' : k < w.length := by omega
  have hp := lp _ (List.getElem_mem hk)
  rw [List.getElem_zip] at hp ⊢
  dsimp only at hp ⊢
  simp only [List.length_append,List.length_cons,List.length_nil] at hacc
  rw [if_pos (decide_eq_true (Int.ofNat_lt.2 hk')),Qai (by rw [List.length_singleton]; omega),Qak hk',Qak (show k < g.length by omega)]
  simp only [Option.bind_some]
  rw [Qai (by rw [List.length_append,List.length_singleton]; omega)]
  simp only [Option.bind_some]
  rw [QcT (by rw [List.length_append,List.length_append,List.length_singleton]; omega) (by omega),Q8 hk' (by omega)]
  simp
 ·rw [hz,if_neg (by simp)]
theorem Qtk {f : Qc} (h : QaT f = true) : QaD f = some (10 :: QmZ f) := by
 unfold QaT at h
 simp only [Bool.and_eq_true] at h
 obtain ⟨⟨hn,_⟩,hp⟩ := h
 have hnl := QbI hn
 obtain ⟨n,o,u,k,lo,hi,w,g⟩ := f
 have nl : ∀ {s : Str},Q7 s = true → (Qa5 s).length ≤ 12 := fun {s} hs => by rw [QlU hs]; exact QbI hs
 unfold QgH at hp
 dsimp only at hp hn hnl
 by_cases c0 : k = 0
 ·subst c0
  rw [if_pos rfl] at hp
  have := Qc5 hp
  rw [rLine0 hnl (by omega)]; rfl
 rw [if_neg c0] at hp
 by_cases c1 : k = 1
 ·subst c1
  rw [if_pos rfl] at hp
  simp only [Bool.and_eq_true] at hp
  have := Qe3 hp.2
  rw [rLine1 hnl (nl hp.1) (by omega) (by omega)]; rfl
 rw [if_neg c1] at hp
 by_cases c2 : k = 2
 ·subst c2
  rw [if_pos rfl] at hp
  have := Qe3 hp
  rw [rLine2 hnl (by omega) (by omega)]; rfl
 rw [if_neg c2] at hp
 by_cases c3 : k = 3
 ·subst c3
  rw [if_pos rfl] at hp
  simp only [Qj1,Bool.and_eq_true,List.all_eq_true,beq_iff_eq] at hp
  obtain ⟨hg,⟨⟨hw,hl⟩,_⟩,hws⟩ := hp
  have hw' := (Qc5 hw).2
  rw [rLine3 hnl (by omega) (by omega) (fun s hs => QbI (hws s hs)) (fun x hx => Qc5 (hg x hx))]; rfl
 rw [if_neg c3] at hp
 by_cases c4 : k = 4
 ·subst c4
  rw [if_pos rfl] at hp
  simp only [Bool.and_eq_true] at hp
  have := Qe3 hp.2
  have ho : (Qa5 o).length ≤ 12 := by
   by_cases hs : o = []
   ·subst hs; decide
   ·exact nl (by simpa [hs] using hp.1)
  rw [rLine4 hnl ho (by omega) (by omega)]; rfl
 rw [if_neg c4] at hp
 by_cases c5 : k = 5
 ·subst c5
  rw [if_pos rfl] at hp
  simp only [Bool.and_eq_true] at hp
  have := Qe3 hp.2
  rw [rLine5 hnl (nl hp.1) (by omega) (by omega)]; rfl
 rw [if_neg c5] at hp
 by_cases c6 : k = 6
 ·subst c6
  rw [if_pos rfl] at hp
  rw [rLine6 hnl (nl hp) (QlU hp)]; rfl
 rw [if_neg c6] at hp
 by_cases c7 : k = 7
 ·subst c7
  rw [if_pos rfl] at hp
  simp only [Bool.and_eq_true] at hp
  have := Qe3 hp.2
  rw [rLine7 hnl (QbI hp.1.2) (nl hp.1.1) (QlU hp.1.1) (by omega) (by omega)]; rfl
 rw [if_neg c7] at hp
 by_cases c8 : k = 8
 ·subst c8
  rw [if_pos rfl] at hp
  simp only [Bool.and_eq_true] at hp
  rw [rLine8 hnl (QbI hp.2) (nl hp.1) (QlU hp.1)]; rfl
 rw [if_neg c8] at hp
 cases hp

end Go.Proofs.YtcdccjagknlmpaaGreatDoor

namespace Go.Proofs.YtcdccjagknlmpaaGreatDoor
open Go.Sim

def Qj3 (k : Qj) : Str := (10 :: ([107,105,110,100] ++ toks [.str k.Name,.int k.Lo,.int k.Hi])) ++ k.Fields.flatMap fun f => 10 :: QmZ f
def Qop (m : QT) : Str := 10 :: ([109,111,118,101] ++ toks [.int m.a0,.int m.a1])
def QkO (l : Qo) : Str := (10 :: ([108,105,102,101] ++ toks ([.str l.Name,.int (l.States.length : Int)] ++ l.States.map .str))) ++ l.Moves.flatMap Qop
def Qm0 (r : Qn) : Str := 10 :: ([114,117,108,101] ++ toks (QfK r))
def Qjq (x : Qh) : Str := [115,99,104,101,109,97] ++ (32 :: Lib.itoa x.Version)
/-- The source without its end. -/
def srcR (x : Qh) : Str := Qjq x ++ x.Kinds.flatMap Qj3 ++ x.Lives.flatMap QkO ++ x.Rules.flatMap Qm0
theorem shift {α : Type} {l : List α} {g h : α → Str} (e : ∀ a ∈ l,[10] ++ g a = h a ++ [10]) : [10] ++ l.flatMap g = l.flatMap h ++ [10] := by
 induction l with
 | nil => rfl
 | cons a l ih =>
  rw [List.flatMap_cons,List.flatMap_cons,← List.append_assoc,e a List.mem_cons_self,List.append_assoc,ih fun b hb => e b (List.mem_cons_of_mem _ hb),List.append_assoc]
theorem Qoq (k : Qj) : [10] ++ QfC k = Qj3 k ++ [10] := by
 have := shift (l := k.Fields) (g := Qff) (h := fun f => 10 :: QmZ f) fun f _ => rfl
 unfold QfC Qj3 QeN
 rw [List.append_assoc _ [10],this]
 simp
theorem Qor (l : Qo) : [10] ++ Qgy l = QkO l ++ [10] := by
 have := shift (l := l.Moves) (g := Qh8) (h := Qop) fun m _ => rfl
 unfold Qgy QkO QeN
 rw [List.append_assoc _ [10],this]
 simp
theorem Qsr (x : Qh) : srcS x = srcR x ++ [10] := by
 have e1 := shift (l := x.Kinds) (g := QfC) (h := Qj3) fun k _ => Qoq k
 have e2 := shift (l := x.Lives) (g := Qgy) (h := QkO) fun k _ => Qor k
 have e3 := shift (l := x.Rules) (g := Qi2) (h := Qm0) fun k _ => rfl
 have e0 : QeN [115,99,104,101,109,97] [.int x.Version] = Qjq x ++ [10] := by simp [QeN,Qjq,toks,QdL]
 unfold srcS srcR
 rw [e0,List.append_assoc (Qjq x),e1,← List.append_assoc,List.append_assoc _ [10],e2,← List.append_assoc,List.append_assoc _ [10],e3]
 simp
theorem QjF {a b : Str} (h : [10] ++ a = b ++ [10]) : a.length = b.length := by
 have := congrArg List.length h
 simp only [List.length_append,List.length_cons,List.length_nil] at this
 omega

theorem Qrn {x : Qh} (h : Qlm x) : Qgk x = some (srcR x ++ [10]) := by
 have hv := h.version
 have l0 : (Qjq x).length ≤ 30 := by
  have := Qcf (n := x.Version) (by unfold I64; omega)
  unfold Qjq
  simp only [List.length_append,List.length_cons,List.length_nil]; omega
 have kl : ∀ k ∈ x.Kinds,(Qj3 k).length ≤ 50000 := fun k hk => by rw [← QjF (Qoq k)]; exact QkW (h.kind k hk)
 have ll : ∀ k ∈ x.Lives,(QkO k).length ≤ 20000 := fun k hk => by rw [← QjF (Qor k)]; exact Qjp (h.life k hk)
 have rl : ∀ k ∈ x.Rules,(Qm0 k).length ≤ 1000 := fun k hk => by
  have e : [10] ++ Qi2 k = Qm0 k ++ [10] := rfl
  rw [← QjF e]; exact QkX (h.rule k hk)
 have lk := Qg0 kl
 have ll' := Qg0 ll
 have lr := Qg0 rl
 have nk := h.kinds
 have nl := h.lives
 have nr := h.rules
 unfold Qgk
 have e0 : Qbs [115,99,104,101,109,97] x.Version = some (Qjq x) := QcT (by decide) (by omega)
 rw [e0]
 simp only [Option.bind_some]
 rw [QdT x.Kinds Qj3 50000 kl (Qjq x) (fun k hk acc hacc => ?_) (fun acc => if_neg (by simp))]
 ·simp only [Option.bind_some]
  rw [QdT x.Lives QkO 20000 ll (Qjq x ++ x.Kinds.flatMap Qj3) (fun k hk acc hacc => ?_) (fun acc => if_neg (by simp))]
  ·simp only [Option.bind_some]
   rw [QdT x.Rules Qm0 1000 rl (Qjq x ++ x.Kinds.flatMap Qj3 ++ x.Lives.flatMap QkO) (fun k hk acc hacc => ?_) (fun acc => if_neg (by simp))]
   ·simp only [Option.bind_some]
    rw [Qai (by simp only [List.length_append,List.length_cons,List.length_nil]; omega)]
    rfl
   ·have hr := h.rule _ (List.getElem_mem hk)
    simp only [QfX,Bool.and_eq_true] at hr
    obtain ⟨⟨⟨⟨⟨h1,h2⟩,h3⟩,h4⟩,_⟩,h5⟩ := hr
    have hN := Qc5 h5
    have n1 := QbI h1
    have n2 := QbI h2
    have na := QlP (Qi1 h3)
    have nb := QlP (Qi1 h4)
    have na' : (Qa5 x.Rules[k].A).length ≤ 100 := na
    have nb' : (Qa5 x.Rules[k].B).length ≤ 100 := nb
    simp only [List.length_append] at hacc
    rw [if_pos (decide_eq_true (Int.ofNat_lt.2 hk))]
    dsimp only
    rw [Qak hk]
    simp only [Option.bind_some]
    rw [QfL,QfL]
    simp only [Option.bind_some]
    rw [Qai (by simp only [List.length_cons,List.length_nil]; omega),Qai (by simp only [List.length_append,List.length_cons,List.length_nil]; omega),
     Qai (by simp only [List.length_append,List.length_cons,List.length_nil]; omega),Qai (by simp only [List.length_append,List.length_cons,List.length_nil]; omega),
     Qai (by simp only [List.length_append,List.length_cons,List.length_nil]; omega),Qai (by simp only [List.length_append,List.length_cons,List.length_nil]; omega),
     Qai (by simp only [List.length_append,List.length_cons,List.length_nil]; omega),Qai (by simp only [List.length_append,List.length_cons,List.length_nil]; omega)]
    simp only [Option.bind_some]
    rw [QcT (by simp only [List.length_append,List.length_cons,List.length_nil]; omega) (by omega),Q8 hk (by omega)]
    simp [Qm0,QfK,toks,QdL]
  ·have hl := h.life _ (List.getElem_mem hk)
   simp only [QfW,Bool.and_eq_true,List.all_eq_true,decide_eq_true_eq] at hl
   obtain ⟨⟨⟨⟨h1,h2⟩,h3⟩,h4⟩,h5⟩ := hl
   have hS := Qc5 h2
   have n1 := QbI h1
   have l1 := Qcf (n := (x.Lives[k].States.length : Int)) (by unfold I64; omega)
   simp only [List.length_append] at hacc
   rw [if_pos (decide_eq_true (Int.ofNat_lt.2 hk))]
   dsimp only
   rw [Qak hk]
   simp only [Option.bind_some]
   rw [Qai (by simp only [List.length_cons,List.length_nil]; omega),Qai (by simp only [List.length_append,List.length_cons,List.length_nil]; omega)]
   simp only [Option.bind_some]
   rw [QcT (by simp only [List.length_append,List.length_cons,List.length_nil]; omega) (by omega)]
   simp only [Option.bind_some]
   rw [QdT x.Lives[k].States (fun s => 32 :: s) 20 (fun s hs => by have := QbI (h3 s hs); rw [List.length_cons]; omega) _ (fun q hq acc2 hacc2 => ?_) (fun acc => if_neg (by simp))]
   ·simp only [Option.bind_some]
    have ls := Qg0 (l := x.Lives[k].States) (g := fun s => 32 :: s) (B := 20) (fun s hs => by have := QbI (h3 s hs); rw [List.length_cons]; omega)
    rw [QdT x.Lives[k].Moves Qop 300 (fun m hm => ?_) _ (fun q hq acc2 hacc2 => ?_) (fun acc => if_neg (by simp))]
    ·simp only [Option.bind_some]
     rw [Q8 hk (by omega)]
     have e : (x.Lives[k].States.map AnyV.str).flatMap (fun v => 32 :: QdL v) = x.Lives[k].States.flatMap fun s => 32 :: s := by
      rw [List.flatMap_map]; rfl
     simp [QkO,toks,QdL,← e]
    ·have e : [10] ++ Qh8 m = Qop m ++ [10] := rfl
     rw [← QjF e]; exact Qjo (Qsj (by omega) (h5 m hm))
    ·have hm := h5 _ (List.getElem_mem hq)
     simp only [Qjn,Bool.and_eq_true] at hm
     have m1 := Qc5 hm.1
     have m2 := Qc5 hm.2
     have i1 := Qcf (n := x.Lives[k].Moves[q].a0) (by unfold I64; omega)
     simp only [List.length_append,List.length_cons,List.length_nil] at hacc2
     rw [if_pos (decide_eq_true (Int.ofNat_lt.2 hq))]
     dsimp only
     rw [Qai (by simp only [List.length_cons,List.length_nil]; omega),Qak hq]
     simp only [Option.bind_some]
     rw [QcT (by simp only [List.length_append,List.length_cons,List.length_nil]; omega) (by omega)]
     simp only [Option.bind_some]
     rw [QcT (by simp only [List.length_append,List.length_cons,List.length_nil]; omega) (by omega),Q8 hq (by omega)]
     simp [Qop,toks,QdL]
   ·have hs := QbI (h3 _ (List.getElem_mem hq))
    simp only [List.length_append,List.length_cons,List.length_nil] at hacc2
    rw [if_pos (decide_eq_true (Int.ofNat_lt.2 hq))]
    dsimp only
    rw [Qai (by simp only [List.length_cons,List.length_nil]; omega),Qak hq]
    simp only [Option.bind_some]
    rw [Qai (by simp only [List.length_append,List.length_cons,List.length_nil]; omega),Q8 hq (by omega)]
    simp
 ·have hk' := h.kind _ (List.getElem_mem hk)
  simp only [Qfe,Bool.and_eq_true,List.all_eq_true,decide_eq_true_eq] at hk'
  obtain ⟨⟨⟨h1,h2⟩,h3⟩,h4⟩ := hk'
  have hS := Qe3 h2
  have n1 := QbI h1
  have l1 := Qcf (n := x.Kinds[k].Lo) (by unfold I64; omega)
  have l2 := Qcf (n := x.Kinds[k].Hi) (by unfold I64; omega)
  rw [if_pos (decide_eq_true (Int.ofNat_lt.2 hk))]
  dsimp only
  rw [Qak hk]
  simp only [Option.bind_some]
  rw [Qai (by simp only [List.length_cons,List.length_nil]; omega),Qai (by simp only [List.length_append,List.length_cons,List.length_nil]; omega)]
  simp only [Option.bind_some]
  rw [QcT (by simp only [List.length_append,List.length_cons,List.length_nil]; omega) (by omega)]
  simp only [Option.bind_some]
  rw [QcT (by simp only [List.length_append,List.length_cons,List.length_nil]; omega) (by omega)]
  simp only [Option.bind_some]
  have fl : ∀ f ∈ x.Kinds[k].Fields,(10 :: QmZ f).length ≤ 4000 := fun f hf => by
   have e : [10] ++ Qff f = (10 :: QmZ f) ++ [10] := rfl
   rw [← QjF e]; exact QhG (QjC (h4 f hf))
  rw [QdT x.Kinds[k].Fields (fun f => 10 :: QmZ f) 4000 fl _ (fun q hq acc2 hacc2 => ?_) (fun acc => if_neg (by simp))]
  ·simp only [Option.bind_some]
   rw [Q8 hk (by omega)]
   simp [Qj3,toks,QdL]
  ·have hf := fl _ (List.getElem_mem hq)
   simp only [List.length_append,List.length_cons,List.length_nil] at hacc2
   rw [if_pos (decide_eq_true (Int.ofNat_lt.2 hq))]
   dsimp only
   rw [Qak hq]
   simp only [Option.bind_some]
   rw [Qtk (h4 _ (List.getElem_mem hq))]
   simp only [Option.bind_some]
   rw [Qai (by omega),Q8 hq (by omega)]
   rfl

theorem Qss {x : Qh} (h : Fine x) : QgQ x = some (Qgo x) := by
 obtain ⟨⟨a1,a2⟩,⟨b1,b2⟩,c⟩ := h
 have n1 : ∀ (n : Nat) (m : Int),decide ((n : Int) > m) = !decide ((n : Int) ≤ m) := fun n m => by
  by_cases h : (n : Int) ≤ m
  ·rw [decide_eq_true h,decide_eq_false (by omega)]; rfl
  ·rw [decide_eq_false h,decide_eq_true (by omega)]; rfl
 unfold QgQ
 rw [show QaP x.Version 0 1048576 = some (inW x.Version 0 1048576) from rfl]
 simp only [Option.bind_some]
 rw [n1,n1,n1,QdS x.Kinds Qfe 1 (fun k hk => ?_) (if_neg (by simp)),QdS x.Lives QfW 1 (fun k hk => ?_) (if_neg (by simp)),QdS x.Rules QfX 1 (fun k hk => ?_) (if_neg (by simp))]
 ·unfold Qgo
  cases hv : QhB x with
  | true =>
   have hs := Qrn (QkL hv)
   rw [← Qsr] at hs
   simp only [QhB,Bool.and_eq_true] at hv
   obtain ⟨⟨⟨⟨⟨⟨h1,h2⟩,h3⟩,h4⟩,h5⟩,h6⟩,h7⟩ := hv
   rw [h1,h2,h3,h4,h5,h6,h7,hs]
   simp only [Bool.not_true,Bool.or_self,if_true,Option.bind_some]
   rw [if_neg (by decide)]
   by_cases hl : (srcS x).length > 8192
   ·rw [if_pos (by simp; omega),if_pos hl]
   ·rw [if_neg (by simp; omega),if_neg hl]
  | false =>
   show _ = some (1 : Int)
   unfold QhB at hv
   cases h1 : inW x.Version 0 1048576 <;> cases h2 : decide ((x.Kinds.length : Int) ≤ 6) <;> cases h3 : decide ((x.Lives.length : Int) ≤ 6) <;> cases h4 : decide ((x.Rules.length : Int) ≤ 16) <;>
    cases h5 : x.Kinds.all Qfe <;> cases h6 : x.Lives.all QfW <;> cases h7 : x.Rules.all QfX <;> first | rfl | (rw [h1,h2,h3,h4,h5,h6,h7] at hv; cases hv)
 ·rw [if_pos (decide_eq_true (Int.ofNat_lt.2 hk)),Qak hk]
  simp only [Option.bind_some]
  rw [Qth]
  simp only [Option.bind_some]
  rw [Q8 hk (by omega)]
  cases QfX x.Rules[k] <;> rfl
 ·have hl := b2 _ (List.getElem_mem hk)
  rw [if_pos (decide_eq_true (Int.ofNat_lt.2 hk)),Qak hk]
  simp only [Option.bind_some]
  rw [Qtg hl.1 hl.2]
  simp only [Option.bind_some]
  rw [Q8 hk (by omega)]
  cases QfW x.Lives[k] <;> rfl
 ·rw [if_pos (decide_eq_true (Int.ofNat_lt.2 hk)),Qak hk]
  simp only [Option.bind_some]
  rw [Qtj (a2 _ (List.getElem_mem hk))]
  simp only [Option.bind_some]
  rw [Q8 hk (by omega)]
  cases Qfe x.Kinds[k] <;> rfl

end Go.Proofs.YtcdccjagknlmpaaGreatDoor

namespace Go.Proofs.YtcdccjagknlmpaaGreatDoor
open Go.Sim

theorem Qe4 {x : Qh} {n : Str} (hx : x.Kinds.length ≤ 1000000) : Qct x n = some (Q5 x n) := by
 unfold Qct
 rw [QcB x.Kinds (fun k => k.Name == n) (fun k hk => ?_) ?_]
 ·unfold Q5 Qbb; cases x.Kinds.findIdx? _ <;> rfl
 ·rw [if_neg (by simp)]
 ·rw [if_pos (by simpa using hk),Qak hk,Q8 hk (by omega)]; rfl
theorem QfD {q : Qj} {n : Str} (hx : q.Fields.length ≤ 1000000) : Qcu q n = some (Qat q n) := by
 unfold Qcu
 rw [QcB q.Fields (fun k => k.Name == n) (fun k hk => ?_) ?_]
 ·unfold Qat Qbb; cases q.Fields.findIdx? _ <;> rfl
 ·rw [if_neg (by simp)]
 ·rw [if_pos (by simpa using hk),Qak hk,Q8 hk (by omega)]; rfl
theorem has_is (x : Qh) (k j : Int) : Qit x k j = some (field? x k j).isSome := by
 unfold Qit
 by_cases hc : (0 ≤ k ∧ k < x.Kinds.length) ∧ 0 ≤ j
 ·obtain ⟨⟨h1,h2⟩,h3⟩ := hc
  obtain ⟨q,hq,_⟩ := Qc4 h1 h2
  rw [if_neg (by simp; omega),hq]
  show some (decide (j < (q.Fields.length : Int))) = _
  by_cases h4 : j < q.Fields.length
  ·obtain ⟨f,hf,_⟩ := Qc4 h3 h4
   rw [QgY h1 h3 hq hf]; simpa using h4
  ·cases h : field? x k j with
   | none => simpa using h4
   | some f =>
    obtain ⟨q',_,_,e1,e2,_,_,e3⟩ := QcC h
    rw [hq] at e1; cases e1; exact (h4 e3).elim
 ·rw [if_pos (by simp; omega)]
  cases h : field? x k j with
  | none => rfl
  | some f =>
   obtain ⟨q',e1,e2,_,_,_,e3,_⟩ := QcC h
   exact (hc ⟨⟨e1,e3⟩,e2⟩).elim

end Go.Proofs.YtcdccjagknlmpaaGreatDoor

namespace Go.Proofs.YtcdccjagknlmpaaGreatDoor
open Go.Sim

theorem QkY {x : Qh} {k j : Int} (hx : Few x) : QgS x k j = some (upIx x k j) := by
 have fin : ∀ g : Qc,(if (g.Kind != 1) = true then some (-1) else (Qct x g.Of).bind fun t62 => if decide (t62 ≥ k) = true then some (-1) else some t62) = some (if g.Kind = 1 then Qjm x k g else -1) := fun g => by
  by_cases hg : g.Kind = 1
  ·rw [if_neg (by simp [hg]),if_pos hg,Qe4 (by have := hx.1; omega)]
   show (if decide (Q5 x g.Of ≥ k) = true then some (-1) else some (Q5 x g.Of)) = _
   unfold Qjm
   by_cases hk : Q5 x g.Of < k
   ·rw [if_neg (by simp; omega),if_pos hk]
   ·rw [if_pos (by simp; omega),if_neg hk]
  ·rw [if_pos (by simp [hg]),if_neg hg]
 unfold QgS
 rw [has_is]
 unfold upIx
 cases hf : field? x k j with
 | none => rfl
 | some f =>
  obtain ⟨q,hk,hj,hq,hqf,hqm,_,hjl⟩ := QcC hf
  simp only [Option.bind_some,Option.isSome_some,Bool.not_true]
  rw [if_neg (by decide),hq]
  simp only [Option.bind_some]
  rw [hqf]
  simp only [Option.bind_some]
  unfold jn
  dsimp only
  by_cases c : f.Kind = 7 ∨ f.Kind = 8
  ·rw [if_pos (by simpa using c),if_pos c]
   rw [QfD (by have := hx.2 q hqm; omega)]
   simp only [Option.bind_some]
   have hr := Qhi q.Fields fun g => g.Name == f.Up
   have hr1 : -1 ≤ Qat q f.Up := hr.1
   have hr2 : Qat q f.Up < q.Fields.length := hr.2
   by_cases hu : 0 ≤ Qat q f.Up ∧ Qat q f.Up < j
   ·obtain ⟨g,hg,_⟩ := Qc4 hu.1 hr2
    rw [if_neg (by simp; omega),if_pos hu.2,QgY hk hu.1 hq hg,hg]
    exact fin g
   ·rw [if_pos (by simp; omega)]
    by_cases hu2 : Qat q f.Up < j
    ·rw [if_pos hu2]
     have : field? x k (Qat q f.Up) = none := by
      cases hg : field? x k (Qat q f.Up) with
      | none => rfl
      | some g => obtain ⟨_,_,e,_⟩ := QcC hg; exact (hu ⟨e,hu2⟩).elim
     rw [this]
    ·rw [if_neg hu2]
  ·rw [if_neg (by simpa using c),if_neg c]
   exact fin f
theorem Qu2 {x : Qh} {k j : Int} {f : Qc} (hx : Few x) (hf : field? x k j = some f) : Qhy x k j = some (QkK x k f) := by
 obtain ⟨q0,hk,hj,hq0,hqf,hqm0,_,hjl⟩ := QcC hf
 unfold Qhy
 rw [hq0]
 simp only [Option.bind_some]
 rw [hqf]
 simp only [Option.bind_some]
 rw [Qe4 (by have := hx.1; omega)]
 simp only [Option.bind_some]
 unfold QkK
 by_cases c : f.Kind ≠ 6 ∨ Q5 x f.Of ≤ k
 ·rw [if_pos (by simpa using c),if_pos c]
 rw [if_neg (by simpa using c),if_neg c]
 have c' : k < Q5 x f.Of := by
  rcases Int.lt_or_le k (Q5 x f.Of) with h | h
  ·exact h
  ·exact (c (.inr h)).elim
 obtain ⟨q,hq,hqm⟩ := Qc4 (l := x.Kinds) (i := Q5 x f.Of) (by omega) (QjB x f.Of).2
 have hl := hx.2 q hqm
 rw [hq]
 simp only [Option.bind_some]
 refine Qkt q.Fields.length (fun n => ((n : Int),((List.range n).filter (Qix x (Q5 x f.Of) k f.Name q.Fields)).map Int.ofNat)) _ rfl (fun n hn => ?_) (if_neg (by simp)) ?_
 ·rw [if_pos (by simpa using hn),Qak hn]
  simp only [Option.bind_some]
  rw [QkY hx]
  have e : Qix x (Q5 x f.Of) k f.Name q.Fields n = (q.Fields[n].Kind == 7 && q.Fields[n].Of == f.Name && upIx x (Q5 x f.Of) (n : Int) == k) := by
   unfold Qix; rw [List.getElem?_eq_getElem hn]
  have hle := Qqh (Qix x (Q5 x f.Of) k f.Name q.Fields) n
  rw [Qpi,e,Q8 hn (by omega)]
  cases h0 : (q.Fields[n].Kind == 7) with
  | false => rfl
  | true =>
   simp only [Sim.opt,Bool.true_and,if_true,beq_self_eq_true,Option.bind_some]
   cases h1 : (q.Fields[n].Of == f.Name) with
   | false => rfl
   | true =>
    simp only [Bool.true_and,if_true,beq_self_eq_true,Option.bind_some]
    cases h2 : upIx x (Q5 x f.Of) (n : Int) == k with
    | false => rfl
    | true =>
     rw [if_pos rfl,if_pos rfl,Qhh (by rw [List.length_singleton]; omega)]
     rfl
 ·unfold shl; rw [hq]

end Go.Proofs.YtcdccjagknlmpaaGreatDoor

namespace Go.Proofs.YtcdccjagknlmpaaGreatDoor
open Go.Sim

theorem Qpo {x : Qh} {k j : Int} (h : j < 0) : field? x k j = none := by
 unfold field?; rw [if_neg (by omega)]
theorem Qst {x : Qh} {k j : Int} {f : Qc} (h : field? x k j = some f) : ∃ q ∈ x.Kinds,f ∈ q.Fields := by
 obtain ⟨q,_,hj,_,hf,hm,_⟩ := QcC h
 rw [Qh7 _ hj] at hf
 exact ⟨q,hm,List.mem_of_getElem? hf⟩
theorem Qsu {x : Qh} {k j : Int} {q : Qj} {f : Qc} (hx : Few x) (hq : idx x.Kinds k = some q) (hf : field? x k j = some f) :
  QgT x k j = some (if (topS x k j f).2 = true then ((topS x k j f).1.Kind,(topS x k j f).1) else (-1,Qdb)) := by
 obtain ⟨q',hk,hj,hq',hqf,hqm,hkl,hjl⟩ := QcC hf
 rw [hq] at hq'; cases hq'
 unfold QgT topS
 rw [QkY hx]
 simp only [Option.bind_some]
 by_cases hu : upIx x k j < 0
 ·rw [if_pos (by simpa using hu),if_pos hu]; rfl
 ·rw [if_neg (by simpa using hu),if_neg hu]
  have h1 := QqZ x k j hk
  obtain ⟨r,hr,hrm⟩ := Qc4 (l := x.Kinds) (i := upIx x k j) (by omega) (by omega)
  rw [hr,hq]
  simp only [Option.bind_some]
  rw [hqf]
  simp only [Option.bind_some]
  rw [QfD (by have := hx.2 r hrm; omega)]
  simp only [Option.bind_some]
  have hrange := Qhi r.Fields fun g => g.Name == f.Of
  have hr2 : Qat r f.Of < r.Fields.length := hrange.2
  by_cases hi : Qat r f.Of < 0
  ·rw [if_pos (by simpa using hi),Qpo hi]; rfl
  ·rw [if_neg (by simpa using hi)]
   obtain ⟨g,hg,_⟩ := Qc4 (l := r.Fields) (i := Qat r f.Of) (by omega) hr2
   rw [QgY (by omega) (by omega) hr hg,hg]; rfl
theorem Qu3 {x : Qh} {k j : Int} {f : Qc} (h : (topS x k j f).2 = true) : ∃ q ∈ x.Kinds,(topS x k j f).1 ∈ q.Fields := by
 unfold topS at h ⊢
 split at h
 ·cases h
 ·rename_i hu
  rw [if_neg hu]
  split at h
  ·cases h
  ·rename_i q hq
   cases hf : field? x (upIx x k j) (Qat q f.Of) with
   | none => rw [hf] at h; cases h
   | some g => exact Qst hf

/-- The kinds of fields are known. -/
def Known (x : Qh) : Prop := ∀ q ∈ x.Kinds,∀ g ∈ q.Fields,0 ≤ g.Kind ∧ g.Kind ≤ 8
theorem QqA {x : Qh} (h : Qgo x = 0) : Known x := by
 intro q hq g hg
 unfold Qgo at h
 split at h
 ·rename_i hv
  exact (QjC ((QjD ((QkL hv).kind q hq)).2.2 g hg)).kind
 ·cases h
theorem Qos (a : Bool) (c : Int) : Qbq [⟨a,c⟩] = if a = true then c else 0 := rfl
theorem Qln (a b : Bool) (c d : Int) : Qbq [⟨a,c⟩,⟨b,d⟩] = if a = true then c else if b = true then d else 0 := rfl
theorem Qsv {x : Qh} {k j : Int} {q : Qj} {f : Qc} (hx : Few x) (hl : x.Lives.length ≤ 1000) (hn : Known x) (hq : idx x.Kinds k = some q) (hf : field? x k j = some f) : QgU x k j = some (QlR x q k j f) := by
 obtain ⟨q',hk,hj,hq',hqf,hqm,hkl,hjl⟩ := QcC hf
 rw [hq] at hq'; cases hq'
 have hab := Qsu hx hq hf
 have hkind : 0 ≤ f.Kind ∧ f.Kind ≤ 8 := by rw [Qh7 _ hj] at hqf; exact hn q hqm f (List.mem_of_getElem? hqf)
 unfold QgU
 rw [hq]
 simp only [Option.bind_some]
 rw [hqf]
 simp only [Option.bind_some]
 rw [QkY hx,QfD (by have := hx.2 q hqm; omega),Qu2 hx hf]
 simp only [Option.bind_some]
 unfold jn
 dsimp only
 unfold QlR
 by_cases c0 : f.Kind = 0
 ·rw [if_pos c0,Qos,c0]
  by_cases hj0 : j > 0
  ·rw [decide_eq_true hj0]; rfl
  ·rw [decide_eq_false hj0]; rfl
 have n0 : (f.Kind == 0) = false := by simpa using c0
 rw [if_neg c0,n0]
 simp only [Bool.false_and]
 rw [if_neg (by decide),if_neg (by decide)]
 by_cases c1 : f.Kind = 1
 ·rw [if_pos c1,Qos,c1]
  show (if decide (upIx x k j < 0) = true then some 12 else some 0) = _
  by_cases hu : upIx x k j < 0
  ·rw [if_pos (by simpa using hu),if_pos (by simpa using hu)]
  ·rw [if_neg (by simpa using hu),if_neg (by simpa using hu)]
 rw [if_neg c1]
 by_cases c2 : f.Kind = 2
 ·rw [c2]; rfl
 by_cases c3 : f.Kind = 3
 ·rw [c3]; rfl
 have n1 : (f.Kind == 1) = false := by simpa using c1
 have n2 : (f.Kind == 2) = false := by simpa using c2
 have n3 : (f.Kind == 3) = false := by simpa using c3
 rw [n1,n2,n3]
 simp only [Bool.false_eq_true,if_false,Option.bind_some]
 by_cases c4 : f.Kind = 4
 ·rw [if_pos c4,Qos,if_pos (by simp [c4])]
  by_cases ho : f.Of = []
  ·rw [if_pos (by simp [ho]),if_neg (by simp [ho])]
  ·rw [if_neg (by simpa using ho)]
   have ho' : (f.Of != []) = true := by simpa using ho
   rw [ho',Bool.true_and]
   by_cases hr : Qat q f.Of < 0 ∨ Qat q f.Of ≥ j
   ·have : (decide (Qat q f.Of < 0) || decide (Qat q f.Of ≥ j)) = true := by simpa using hr
    rw [this,Bool.true_or]; rfl
   ·have e : (decide (Qat q f.Of < 0) || decide (Qat q f.Of ≥ j)) = false := by
     rw [Bool.eq_false_iff]; simpa using hr
    obtain ⟨g,hg,_⟩ := Qc4 (l := q.Fields) (i := Qat q f.Of) (by omega) (by omega)
    rw [e,Bool.false_or,QgY hk (by omega) hq hg,hg]
    rw [if_neg (by decide)]
    simp only [Option.bind_some]
    cases g.Kind != 4 <;> rfl
 have n4 : (f.Kind == 4) = false := by simpa using c4
 rw [if_neg c4,n4,if_neg (by decide)]
 by_cases c5 : f.Kind = 5
 ·rw [if_pos c5,Qos,if_pos (by simp [c5]),QdS x.Lives (fun l => !(l.Name == f.Of)) (0 : Int) (fun n hn => ?_) (if_neg (by simp))]
  ·simp only [Option.bind_some]
   have e : (x.Lives.all fun l => !(l.Name == f.Of)) = !(x.Lives.any fun l => l.Name == f.Of) := by
    rw [List.not_any_eq_all_not]
   rw [e]
   cases (x.Lives.any fun l => l.Name == f.Of) <;> rfl
  ·rw [if_pos (decide_eq_true (Int.ofNat_lt.2 hn)),Qak hn]
   simp only [Option.bind_some]
   rw [Q8 hn (by omega)]
   cases x.Lives[n].Name == f.Of <;> rfl
 have n5 : (f.Kind == 5) = false := by simpa using c5
 rw [if_neg c5,n5,if_neg (by decide)]
 by_cases c6 : f.Kind = 6
 ·rw [if_pos c6,Qln,if_pos (by simp [c6])]
  cases decide ((QkK x k f).1 < 0) <;> cases ((QkK x k f).2.length : Int) != 1 <;> rfl
 have n6 : (f.Kind == 6) = false := by simpa using c6
 rw [if_neg c6,n6,if_neg (by decide)]
 unfold Qiu
 rw [hab,hq]
 simp only [Option.bind_some]
 rw [hqf]
 simp only [Option.bind_some]
 by_cases hu : upIx x k j < 0
 ·rw [if_pos (by simpa using hu)]
  by_cases c7 : f.Kind = 7
  ·rw [if_pos c7,Qln,if_pos (by simpa using hu)]; rfl
  ·have c8 : f.Kind = 8 := by omega
   rw [if_neg c7,if_pos c8,Qln,if_pos (by simpa using hu)]; rfl
 rw [if_neg (by simpa using hu)]
 have hud : decide (upIx x k j < 0) = false := by simpa using hu
 by_cases c7 : f.Kind = 7
 ·have e7 : (f.Kind == 7) = true := by simp [c7]
  rw [if_pos c7,Qln,hud,e7]
  cases ht : (topS x k j f).2 with
  | false => rfl
  | true =>
   simp only [Bool.false_eq_true,if_false,if_true]
   rw [Qe4 (by have := hx.1; omega)]
   cases h6 : ((topS x k j f).1.Kind != 6) with
   | true => rfl
   | false =>
    simp only [Sim.opt,beq_self_eq_true,if_true,Option.bind_some]
    cases Q5 x (topS x k j f).1.Of != k <;> rfl
 ·have c8 : f.Kind = 8 := by omega
  have n7 : (f.Kind == 7) = false := by simpa using c7
  rw [if_neg c7,if_pos c8,Qln,hud,n7]
  cases ht : (topS x k j f).2 with
  | false => rfl
  | true =>
   obtain ⟨r,hr,hg⟩ := Qu3 ht
   have hgk := hn r hr _ hg
   have hz : (topS x k j f).1.Kind = 0 ∨ (topS x k j f).1.Kind = 1 ∨ (topS x k j f).1.Kind = 2 ∨ (topS x k j f).1.Kind = 3 ∨ (topS x k j f).1.Kind = 4 ∨ (topS x k j f).1.Kind = 5 ∨ (topS x k j f).1.Kind = 6 ∨ (topS x k j f).1.Kind = 7 ∨ (topS x k j f).1.Kind = 8 := by omega
   simp only [Bool.false_eq_true,if_false,if_true]
   unfold Qsn
   rcases hz with h | h | h | h | h | h | h | h | h <;> rw [h] <;> rfl

end Go.Proofs.YtcdccjagknlmpaaGreatDoor

namespace Go.Proofs.YtcdccjagknlmpaaGreatDoor
open Go.Sim

def toR (p : Qs) : QO := ⟨p.Kind,p.Field,p.Rule,p.Code⟩
end Go.Proofs.YtcdccjagknlmpaaGreatDoor

namespace Go.Proofs.YtcdccjagknlmpaaGreatDoor
open Go.Sim

theorem Qro {x : Qh} {k : Int} {q : Qj} {n : Str} (hk : 0 ≤ k) (hq : idx x.Kinds k = some q) (hn : (n == ([] : Str)) = false) :
  (Qdd x k n = true ∧ Qat q n < 0) ∨ ∃ g,Qdd x k n = false ∧ 0 ≤ Qat q n ∧ idx q.Fields (Qat q n) = some g ∧ Qc6 x k n = ((g.Kind != 2) && (g.Kind != 4)) := by
 have hd : decide (k < 0) = false := decide_eq_false (by omega)
 have hr2 : Qat q n < q.Fields.length := (Qhi q.Fields fun g => g.Name == n).2
 unfold Qdd Qc6 QmI
 rw [hq,hn,hd]
 dsimp only
 by_cases hi : Qat q n < 0
 ·rw [Qpo hi]; exact .inl ⟨rfl,hi⟩
 ·obtain ⟨g,hg,_⟩ := Qc4 (l := q.Fields) (i := Qat q n) (by omega) hr2
  rw [QgY hk (by omega) hq hg]
  exact .inr ⟨g,rfl,by omega,hg,by simp⟩
theorem Qsw {x : Qh} {i : Nat} {r : Qn} (hx : Few x) (hl : x.Rules.length ≤ 1000) (hi : i < x.Rules.length) (hr : x.Rules[i]? = some r) : QgV x (i : Int) = some (Qol x i r) := by
 unfold QgV
 rw [QmX,hr]
 simp only [Option.bind_some]
 have hil : (x.Rules.take i).length = i := by rw [List.length_take]; omega
 rw [QdS (x.Rules.take i) (fun s => !(s.Name == r.Name)) (7 : Int) (fun n hn => ?_) (by rw [hil]; exact if_neg (by simp))]
 ·simp only [Option.bind_some]
  have e : ((x.Rules.take i).all fun s => !(s.Name == r.Name)) = !((x.Rules.take i).any fun s => s.Name == r.Name) := by
   rw [List.not_any_eq_all_not]
  rw [e]
  unfold Qol
  cases hany : ((x.Rules.take i).any fun s => s.Name == r.Name) with
  | true => rfl
  | false =>
   simp only [Bool.not_false,if_true]
   rw [Qe4 (by have := hx.1; omega)]
   simp only [Option.bind_some]
   by_cases hk : Q5 x r.Kind < 0
   ·rw [if_pos (by simpa using hk),decide_eq_true hk]; rfl
   ·rw [if_neg (by simpa using hk),decide_eq_false hk]
    obtain ⟨q,hq,hqm⟩ := Qc4 (l := x.Kinds) (i := Q5 x r.Kind) (by omega) (QjB x r.Kind).2
    rw [hq]
    unfold jn
    dsimp only
    have fin : ∀ {body : Int × Bool → Option ((Int × Bool) ⊕ (Bool ⊕ Int))},(∀ b,body (0,b) = if Qdd x (Q5 x r.Kind) r.A = true then some (.inr (.inr 12)) else some (.inl (1,b || Qc6 x (Q5 x r.Kind) r.A))) →
      (∀ b,body (1,b) = if Qdd x (Q5 x r.Kind) r.B = true then some (.inr (.inr 12)) else some (.inl (2,b || Qc6 x (Q5 x r.Kind) r.B))) → (∀ b,body (2,b) = some (.inr (.inl b))) →
      QF body (0,false) = some (if (Qdd x (Q5 x r.Kind) r.A || Qdd x (Q5 x r.Kind) r.B) = true then .inr 12 else .inl (Qc6 x (Q5 x r.Kind) r.A || Qc6 x (Q5 x r.Kind) r.B)) := fun h0 h1 h2 => by
     rw [QcY,h0]
     cases Qdd x (Q5 x r.Kind) r.A with
     | true => rfl
     | false =>
      rw [if_neg (by decide)]
      dsimp only
      rw [QcY,h1]
      cases Qdd x (Q5 x r.Kind) r.B with
      | true => rfl
      | false =>
       rw [if_neg (by decide)]
       dsimp only
       rw [QcY,h2]
       simp
    have step : ∀ (n : Str) (b : Bool) (c : Bool → Option ((Int × Bool) ⊕ (Bool ⊕ Int))),(if (n == ([] : Str)) = true then c b else (Option.some q).bind fun t55 => (Option.some n).bind fun t59 => (Qcu t55 t59).bind fun t61 => if decide (t61 < 0) = true then some (.inr (.inr 12)) else (Option.some q).bind fun t67 => (idx t67.Fields t61).bind fun t71 => c (b || ((t71.Kind != 2) && (t71.Kind != 4)))) =
      if Qdd x (Q5 x r.Kind) n = true then some (.inr (.inr 12)) else c (b || Qc6 x (Q5 x r.Kind) n) := fun n b c => by
     cases hn : (n == ([] : Str)) with
     | true =>
      have hm : Qdd x (Q5 x r.Kind) n = false := by unfold Qdd; rw [hn]; rfl
      have hw : Qc6 x (Q5 x r.Kind) n = false := by unfold Qc6; rw [hn]; rfl
      rw [hm,hw,if_pos rfl,if_neg (by decide),Bool.or_false]
     | false =>
      rw [if_neg (by decide)]
      simp only [Option.bind_some]
      rw [QfD (by have := hx.2 q hqm; omega)]
      simp only [Option.bind_some]
      rcases Qro (by omega) hq hn with ⟨hm,hi⟩ | ⟨g,hm,hi,hg,hw⟩
      ·rw [hm,if_pos (by simpa using hi),if_pos rfl]
      ·rw [hm,hw,if_neg (by simp; omega),if_neg (by decide),hg]; rfl
    rw [fin (fun b => (step r.A b fun p => some (.inl (1,p)))) (fun b => (step r.B b fun p => some (.inl (2,p)))) (fun b => rfl)]
    simp only [Option.bind_some]
    cases Qdd x (Q5 x r.Kind) r.A <;> cases Qdd x (Q5 x r.Kind) r.B <;> cases Qc6 x (Q5 x r.Kind) r.A <;> cases Qc6 x (Q5 x r.Kind) r.B <;> cases (r.A == r.B) <;> rfl
 ·have hn' : n < i := by omega
  rw [if_pos (decide_eq_true (Int.ofNat_lt.2 hn')),Qak (show n < x.Rules.length by omega)]
  simp only [Option.bind_some]
  rw [Q8 hn' (by omega),List.getElem_take]
  cases x.Rules[n].Name == r.Name <;> rfl

theorem Qi3 {k j r e : Int} {l : List QO} (h : l.length ≤ 1000000000) : Qb6 l k j r e = some (l ++ (prob k j r e).map toR) := by
 unfold Qb6 prob
 by_cases he : e = 0
 ·rw [if_pos (by simp [he]),if_pos he,List.map_nil,List.append_nil]
 ·rw [if_neg (by simpa using he),if_neg he,Qhh (by rw [List.length_singleton]; omega)]; rfl
theorem Qtl (l : List Qc) : QgR l = some (!(((l.length : Int) == 0) || ((l.headD Qdb).Kind != 0))) := by
 unfold QgR
 cases l with
 | nil => rfl
 | cons f l =>
  have e : (((f :: l).length : Int) == 0) = false := by simp; omega
  rw [e,show idx (f :: l) (0 : Int) = some f from rfl,if_neg (by decide)]
  simp [bne]
theorem Qsx {x : Qh} (h : QlT x) : QgW x = some ((QeD x).map toR) := by
 obtain ⟨hx,hfine,hlv,hrl⟩ := h
 unfold QgW
 rw [Qss hfine]
 simp only [Option.bind_some]
 unfold QeD
 by_cases hv : Qgo x = 0
 ·rw [if_neg (by simp [hv]),if_pos hv]
  have hn := QqA hv
  have one : ∀ k j r e,((prob k j r e).map toR).length ≤ 1 := fun k j r e => by rw [List.length_map]; exact QhM k j r e
  have b0 : ∀ j,((QgI x j).map toR).length ≤ 1 := fun j => by rw [List.length_map]; exact QkN x j
  have b1 : ((Qd3 x).map toR).length ≤ 1000 := by
   have := QdB x.Lives.length (QgI x) 1 (fun j _ => QkN x j)
   rw [List.length_map]
   unfold Qd3; omega
  have kl : ∀ k,k < x.Kinds.length → ((Qhl x k).map toR).length ≤ 1001 := fun k hk => by
   rw [List.length_map]
   unfold Qhl
   rw [List.getElem?_eq_getElem hk]
   dsimp only
   have := Qne (x := x) (i := k) (hx.2 _ (List.getElem_mem hk))
   have := QhM k (-1) (-1) (Qj2 x k x.Kinds[k])
   rw [List.length_append]; omega
  have b2 : ((QhC x).map toR).length ≤ 1001000 := by
   have := QdB x.Kinds.length (fun k => (Qhl x k).map toR) 1001 kl
   have := hx.1
   unfold QhC
   rw [List.map_flatMap]
   omega
  have hk1 := hx.1
  rw [Qg1 x.Lives.length (fun k => (QgI x k).map toR) 1 (fun j _ => b0 j) [] (fun k hk acc hacc => ?_) (fun acc => if_neg (by simp))]
  ·rw [show ([] : List QO) ++ (List.range x.Lives.length).flatMap (fun k => (QgI x k).map toR) = (Qd3 x).map toR by unfold Qd3; rw [List.map_flatMap]; rfl]
   simp only [Option.bind_some]
   rw [Qg1 x.Kinds.length (fun k => (Qhl x k).map toR) 1001 kl ((Qd3 x).map toR) (fun k hk acc hacc => ?_) (fun acc => if_neg (by simp))]
   ·rw [show (Qd3 x).map toR ++ (List.range x.Kinds.length).flatMap (fun k => (Qhl x k).map toR) = (Qd3 x).map toR ++ (QhC x).map toR by unfold QhC; rw [List.map_flatMap]]
    simp only [Option.bind_some]
    rw [Qg1 x.Rules.length (fun k => (QkM x k).map toR) 1 (fun j _ => by rw [List.length_map]; exact Qpn x j) ((Qd3 x).map toR ++ (QhC x).map toR) (fun k hk acc hacc => ?_) (fun acc => if_neg (by simp))]
    ·simp only [Option.bind_some]
     rw [List.map_append,List.map_append]
     unfold Qsp
     rw [List.map_flatMap]
    ·rw [List.length_append] at hacc
     rw [if_pos (decide_eq_true (Int.ofNat_lt.2 hk))]
     dsimp only
     rw [Qsw hx hrl hk (List.getElem?_eq_getElem hk)]
     simp only [Option.bind_some]
     rw [Qi3 (by omega)]
     simp only [Option.bind_some]
     unfold QkM
     rw [Q8 hk (by omega),List.getElem?_eq_getElem hk]
   ·have hq := Qak hk
    have hqf := hx.2 _ (List.getElem_mem hk)
    rw [if_pos (decide_eq_true (Int.ofNat_lt.2 hk))]
    dsimp only
    rw [hq]
    simp only [Option.bind_some]
    rw [Qe4 (by omega),Qtl]
    simp only [Option.bind_some]
    have ek : (if decide (Q5 x x.Kinds[k].Name < (k : Int)) = true then (Qb6 acc (k : Int) (-1) (-1) 7).bind fun t70 => some t70 else (if (!!(((x.Kinds[k].Fields.length : Int) == 0) || ((x.Kinds[k].Fields.headD Qdb).Kind != 0))) = true then (Qb6 acc (k : Int) (-1) (-1) 11).bind fun t76 => some t76 else some acc).bind fun p320 => some p320) =
      some (acc ++ (prob (k : Int) (-1) (-1) (Qj2 x k x.Kinds[k])).map toR) := by
     unfold Qj2
     rw [Qln,Qi3 (by omega),Qi3 (by omega),Bool.not_not]
     cases decide (Q5 x x.Kinds[k].Name < (k : Int)) with
     | true => rfl
     | false =>
      cases (((x.Kinds[k].Fields.length : Int) == 0) || ((x.Kinds[k].Fields.headD Qdb).Kind != 0)) with
      | true => rfl
      | false => simp [prob]
    rw [ek]
    simp only [Option.bind_some]
    have pl := one k (-1) (-1) (Qj2 x k x.Kinds[k])
    rw [Qg1 x.Kinds[k].Fields.length (fun j => (QiA x k x.Kinds[k] j).map toR) 1 (fun j _ => by rw [List.length_map]; exact QlS x k _ j) _ (fun j hj acc2 hacc2 => ?_) (fun acc => if_neg (by simp))]
    ·simp only [Option.bind_some]
     unfold Qhl
     rw [Q8 hk (by omega),List.getElem?_eq_getElem hk,List.append_assoc,List.map_append]
     unfold QmY
     rw [List.map_flatMap]
    ·rw [List.length_append] at hacc2
     rw [if_pos (decide_eq_true (Int.ofNat_lt.2 hj))]
     dsimp only
     rw [Qak hj]
     simp only [Option.bind_some]
     rw [QfD (by omega)]
     simp only [Option.bind_some]
     have hf : field? x (k : Int) (j : Int) = some x.Kinds[k].Fields[j] := QgY (by omega) (by omega) hq (Qak hj)
     rw [Qsv hx hlv hn hq hf]
     simp only [Option.bind_some]
     rw [Qi3 (by omega),Qi3 (by omega)]
     simp only [Option.bind_some]
     unfold QiA Qon
     rw [Q8 hj (by omega),List.getElem?_eq_getElem hj]
     dsimp only
     by_cases hd : Qat x.Kinds[k] x.Kinds[k].Fields[j].Name < (j : Int)
     ·rw [if_pos (by simpa using hd),if_pos hd]; rfl
     ·rw [if_neg (by simpa using hd),if_neg hd]; rfl
  ·rw [List.length_nil] at hacc
   rw [if_pos (decide_eq_true (Int.ofNat_lt.2 hk))]
   dsimp only
   rw [Qi3 (by omega)]
   simp only [Option.bind_some]
   have hil : (x.Lives.take k).length = k := by rw [List.length_take]; omega
   have hget : ∀ n,n < k → ∀ h : n < x.Lives.length,(x.Lives.take k)[n]? = some x.Lives[n] := fun n hn h => by
    rw [List.getElem?_take,if_pos hn,List.getElem?_eq_getElem h]
   refine Qr5 k (fun n => match x.Lives[n]? with | some m => m.Name == x.Lives[k].Name | none => false) acc (fun _ => acc ++ (prob (-1) (k : Int) (-1) 7).map toR) (fun n hn hp => ?_) (fun n hn hp => ?_) (if_neg (by simp)) (fun hp => ?_) (fun n hn hp => ?_)
   ·rw [List.getElem?_eq_getElem (show n < x.Lives.length by omega)] at hp
    dsimp only at hp
    rw [if_pos (decide_eq_true (Int.ofNat_lt.2 hn)),Qak (show n < x.Lives.length by omega),Qak hk]
    simp only [Option.bind_some]
    rw [hp,if_neg (by decide),Q8 hn (by omega)]
   ·rw [List.getElem?_eq_getElem (show n < x.Lives.length by omega)] at hp
    dsimp only at hp
    rw [if_pos (decide_eq_true (Int.ofNat_lt.2 hn)),Qak (show n < x.Lives.length by omega),Qak hk]
    simp only [Option.bind_some]
    rw [hp,if_pos rfl]
   ·have e : ((x.Lives.take k).any fun m => m.Name == x.Lives[k].Name) = false := by
     rw [List.any_eq_false]
     intro m hm
     obtain ⟨n,hn,rfl⟩ := List.getElem_of_mem hm
     have h1 := hp n (by omega)
     rw [List.getElem?_eq_getElem (show n < x.Lives.length by omega)] at h1
     dsimp only at h1
     rw [List.getElem_take,h1]; decide
    rw [Q8 hk (by omega)]
    unfold QgI Qrk
    rw [List.getElem?_eq_getElem hk]
    dsimp only
    rw [e]
    simp [Qbq,prob]
   ·have e : ((x.Lives.take k).any fun m => m.Name == x.Lives[k].Name) = true := by
     rw [List.getElem?_eq_getElem (show n < x.Lives.length by omega)] at hp
     exact List.any_eq_true.2 ⟨x.Lives[n],List.mem_of_getElem? (hget n hn (by omega)),hp⟩
    rw [Q8 hk (by omega)]
    unfold QgI Qrk
    rw [List.getElem?_eq_getElem hk]
    dsimp only
    rw [e]
    rfl
 ·rw [if_pos (by simpa using hv),if_neg hv,Qi3 (by simp)]
  unfold prob
  rw [if_neg hv]; rfl

end Go.Proofs.YtcdccjagknlmpaaGreatDoor

/- The generators of schemas give a result. No condition. -/
import Derived.Test.YtcdccjagknlmpaaGreatDoorGenAll
import Derived.Test.YtcdccjagknlmpaaGreatDoorOk
namespace Go.Proofs.YtcdccjagknlmpaaGreatDoor
open Go.Sim

theorem QrQ {p n : Int} (hp : I64 p) : Ok (Qcg p n) (fun r => 0 ≤ r ∧ (1 ≤ n → r < n) ∧ (n ≤ 0 → r = 0)) := by
 have hp' := hp
 unfold I64 at hp'
 have key : ∀ q : Int,0 ≤ q → Ok (if decide (n < 1) = true then some 0 else (nz n).bind fun _ => some (Int.tmod q n)) (fun r => 0 ≤ r ∧ (1 ≤ n → r < n) ∧ (n ≤ 0 → r = 0)) := fun q hq => by
  refine Ok.ite (fun h => ?_) (fun h => ?_)
  ·have : n < 1 := of_decide_eq_true h
   exact Ok.mk ⟨Int.le_refl _,fun h => by omega,fun _ => rfl⟩
  ·have : ¬ n < 1 := of_decide_eq_false h
   rw [nz_of (by omega)]
   exact Ok.mk ⟨Int.tmod_nonneg _ hq,fun _ => Int.tmod_lt_of_pos _ (by omega),fun h => by omega⟩
 unfold Qcg
 refine Ok.bind (P := fun q => 0 ≤ q) (Ok.ite (fun h => ?_) (fun h => ?_)) (fun q hq => key q hq)
 ·have : p < 0 := of_decide_eq_true h
  refine Ok.mk ?_
  have e1 : IntKind.i64.wrap (p + 1) = p + 1 := w64 (by omega) (by omega)
  rw [e1,w64 (by omega) (by omega)]; omega
 ·have : ¬ p < 0 := of_decide_eq_false h
  exact Ok.mk (by omega)

section
variable {β : Type} {Q : β → Prop}
theorem Ok.around {p n : Int} {f : Int → Option β} (hp : I64 p) (hn : 1 ≤ n) (k : ∀ r,0 ≤ r → r < n → Ok (f r) Q) : Ok ((Qcg p n).bind f) Q :=
 (QrQ hp).bind fun r h => k r h.1 (h.2.1 hn)
def MOk (m : Qv) : Prop := ∀ x ∈ m.L,I64 x
theorem QdR {m : Qv} {n : Int} (hm : MOk m) (hn : 1 ≤ n) : Ok (Qz m n) (fun r => 0 ≤ r.1 ∧ r.1 < n ∧ MOk r.2) := by
 unfold Qz Qe2
 refine Ok.bind (P := fun r => 0 ≤ r ∧ r < n) (Ok.ite (fun h => Ok.mk ⟨Int.le_refl _,by omega⟩) (fun h => ?_)) (fun r hr => Ok.mk ⟨hr.1,hr.2,hm⟩)
 simp only [Bool.or_eq_false_iff,decide_eq_false_iff_not] at h
 refine Ok.idx (by omega) (by omega) fun v hv _ => ?_
 exact Ok.around (hm v hv) hn fun r h0 h1 => Ok.mk ⟨h0,h1⟩
theorem Ok.take {m : Qv} {n : Int} {f : Int × Qv → Option β} (hm : MOk m) (hn : 1 ≤ n) (k : ∀ r m',0 ≤ r → r < n → MOk m' → Ok (f (r,m')) Q) : Ok ((Qz m n).bind f) Q :=
 (QdR hm hn).bind fun r h => k r.1 r.2 h.1 h.2.1 h.2.2
end

/-- A name of the generators: it is short and does not begin with a z. -/
def SN (s : Str) : Prop := s.length ≤ 20 ∧ s.head? ≠ some 122
/-- The names of a field. -/
def FN (f : Qb) : Prop := SN f.Name ∧ SN f.Of ∧ SN f.Up
/-- A field of the generators. -/
def FOk (f : Qb) : Prop := f.Words.length ≤ 6 ∧ f.Weights.length ≤ 6 ∧ FN f
/-- A kind of the generators, with at most n fields. -/
def KOk (n : Nat) (k : Qi) : Prop := k.Fields.length ≤ n ∧ (∀ f ∈ k.Fields,FOk f) ∧ SN k.Name

theorem Qiq {l : List Qb} {name : Str} (hl : l.length ≤ 1000) : Ok (Qc4 l name) (fun r => -1 ≤ r ∧ r < l.length) := by
 unfold Qc4
 refine Ok.bind (P := fun e => match e with | .inl _ => True | .inr r => 0 ≤ r ∧ r < l.length) (Ok.loop (fun k s => 0 ≤ s ∧ s + k = l.length) l.length ⟨by omega,by omega⟩ fun k s hs => ?_) (fun e he => ?_)
 ·refine Ok.ite (fun h => ?_) (fun h => Ok.mk trivial)
  have h' : s < l.length := of_decide_eq_true h
  refine Ok.idx hs.1 h' fun v _ _ => Ok.ite (fun _ => Ok.mk ⟨hs.1,h'⟩) (fun _ => Ok.mk ?_)
  rw [w64 (by omega) (by omega)]
  exact ⟨k - 1,by omega,by omega,by omega⟩
 ·rcases e with e | e
  ·exact Ok.mk ⟨by omega,by omega⟩
  ·exact Ok.mk ⟨by omega,he.2⟩
theorem Qol {k : Qi} (hl : k.Fields.length ≤ 1000) : Ok (Qdo k) (fun r => -1 ≤ r ∧ r < k.Fields.length) := by
 unfold Qdo
 refine Ok.bind (P := fun e => match e with | .inl _ => True | .inr r => 0 ≤ r ∧ r < k.Fields.length) (Ok.loop (fun n s => 0 ≤ s ∧ s + n = k.Fields.length) k.Fields.length ⟨by omega,by omega⟩ fun n s hs => ?_) (fun e he => ?_)
 ·refine Ok.ite (fun h => ?_) (fun h => Ok.mk trivial)
  have h' : s < k.Fields.length := of_decide_eq_true h
  refine Ok.idx hs.1 h' fun v _ _ => Ok.ite (fun _ => Ok.mk ⟨hs.1,h'⟩) (fun _ => Ok.mk ?_)
  rw [w64 (by omega) (by omega)]
  exact ⟨n - 1,by omega,by omega,by omega⟩
 ·rcases e with e | e
  ·exact Ok.mk ⟨by omega,by omega⟩
  ·exact Ok.mk ⟨by omega,he.2⟩

theorem Qpr {m : Qv} (hm : MOk m) : Ok (QaJ m) (fun r => r.1.length ≤ 2 ∧ (∀ f ∈ r.1,FOk f) ∧ MOk r.2) := by
 unfold QaJ
 refine Ok.take hm (by decide) fun r m1 _ _ h1 => ?_
 refine Ok.ite (fun _ => ?_) (fun _ => ?_)
 ·refine Ok.take h1 (by decide) fun r2 m2 _ _ h2 => Ok.take h2 (by decide) fun r3 m3 _ _ h3 => Ok.mk ⟨by simp,by simp [FOk,FN,SN],h3⟩
 refine Ok.ite (fun _ => ?_) (fun _ => ?_)
 ·refine Ok.take h1 (by decide) fun r2 m2 h20 h21 h2 => ?_
  have hr2 : IntKind.i64.wrap (1 + r2) = 1 + r2 := w64 (by omega) (by omega)
  refine Ok.sub (by decide) (by dsimp only; rw [hr2]; omega) (by dsimp only; rw [hr2]; simp; omega) fun w hw _ => ?_
  dsimp only at hw
  rw [hr2] at hw
  have hwl : 1 ≤ w.length ∧ w.length ≤ 3 := by omega
  refine Ok.bind (P := fun r => r.1.length = w.length ∧ MOk r.2) (Ok.loop (fun k s => 0 ≤ s.1 ∧ s.1 + k = w.length ∧ s.2.1.length = s.1 ∧ MOk s.2.2) w.length ⟨Int.le_refl _,by simp,by simp,h2⟩ fun k s hs => ?_) (fun p hp => ?_)
  ·obtain ⟨i,ws,m3⟩ := s
   obtain ⟨e1,e2,e3,e4⟩ := hs
   dsimp only at e1 e2 e3 e4
   refine Ok.ite (fun h => ?_) (fun h => ?_)
   ·have h' : i < w.length := of_decide_eq_true h
    refine Ok.take e4 (by decide) fun r4 m4 _ _ h4 => Ok.rm (by simp; omega) (Ok.mk ?_)
    dsimp only
    rw [w64 (by omega) (by omega)]
    exact ⟨k - 1,by omega,by omega,by omega,by simp; omega,h4⟩
   ·have h' : ¬ i < w.length := of_decide_eq_false h
    exact Ok.mk ⟨by dsimp only; omega,e4⟩
  ·refine Ok.take hp.2 (by omega) fun r4 m4 h40 h41 h4 => Ok.take h4 (by decide) fun r5 m5 _ _ h5 => ?_
   refine Ok.setAt h40 (by dsimp only; omega) (Ok.mk ⟨by simp,?_,h5⟩)
   intro f hf
   rw [List.mem_singleton] at hf
   subst hf
   exact ⟨by dsimp only; omega,by simp only [List.length_set]; omega,by simp [FN,SN]⟩
 refine Ok.ite (fun _ => ?_) (fun _ => ?_)
 ·refine Ok.take h1 (by decide) fun r2 m2 _ _ h2 => Ok.take h2 (by decide) fun r3 m3 _ _ h3 => Ok.take h3 (by decide) fun r4 m4 _ _ h4 => Ok.take h4 (by decide) fun r5 m5 _ _ h5 => Ok.mk ⟨by simp,by simp [FOk,FN,SN],h5⟩
 refine Ok.ite (fun _ => ?_) (fun _ => ?_)
 ·refine Ok.take h1 (by decide) fun r2 m2 _ _ h2 => Ok.take h2 (by decide) fun r3 m3 _ _ h3 => Ok.mk ⟨by simp,by simp [FOk,FN,SN],h3⟩
 refine Ok.ite (fun _ => ?_) (fun _ => ?_)
 ·refine Ok.take h1 (by decide) fun r2 m2 _ _ h2 => Ok.take h2 (by decide) fun r3 m3 _ _ h3 => Ok.take h3 (by decide) fun r4 m4 _ _ h4 => Ok.take h4 (by decide) fun r5 m5 _ _ h5 => Ok.mk ⟨by simp,by simp [FOk,FN,SN],h5⟩
 ·exact Ok.mk ⟨by simp,by simp,h1⟩

end Go.Proofs.YtcdccjagknlmpaaGreatDoor

namespace Go.Proofs.YtcdccjagknlmpaaGreatDoor
open Go.Sim

/-- A kind of the generator: its name is not empty. -/
def GOk (n : Nat) (k : Qi) : Prop := KOk n k ∧ 1 ≤ k.Name.length ∧ k.Name.length ≤ 6
theorem GOk.weak {a b : Nat} {k : Qi} (h : GOk a k) (hab : a ≤ b) : GOk b k := ⟨⟨by have := h.1.1; omega,h.1.2⟩,h.2⟩
theorem fok {n o u : Str} {k lo hi : Int} (h1 : SN n) (h2 : SN o) (h3 : SN u) : FOk ⟨n,o,u,k,lo,hi,[],[]⟩ := ⟨by simp,by simp,h1,h2,h3⟩
theorem Qnq : SN [] := by simp [SN]
theorem Qds {c : Bool} {a b : Qv} (h : c = true → MOk a) (k : MOk b) : MOk (bif c == true then a else b) := by
 cases c with
 | true => exact h rfl
 | false => exact k
set_option maxHeartbeats 1000000 in
theorem QuH {m : Qv} {l : List Qi} {N : Nat} (hm : MOk m) (hl : l.length ≤ 2) (hN : N ≤ 20) (hk : ∀ k ∈ l,GOk N k) :
  Ok (Qbg m l) (fun r => GOk 9 r.1 ∧ MOk r.2.1 ∧ r.2.2.length = l.length ∧ ∀ k ∈ r.2.2,GOk (N + 1) k) := by
 unfold Qbg
 refine Ok.take hm (by decide) fun r1 m1 a1 b1 h1 => ?_
 refine Ok.idx a1 (by simpa using b1) fun lo _ _ => ?_
 refine Ok.idx (by omega) (by simp; omega) fun name hname _ => ?_
 have hn : 1 ≤ name.length ∧ name.length ≤ 6 := by
  simp only [List.mem_cons,List.not_mem_nil,or_false] at hname
  rcases hname with rfl | rfl | rfl <;> decide
 have hsn : SN name := by
  simp only [List.mem_cons,List.not_mem_nil,or_false] at hname
  rcases hname with rfl | rfl | rfl <;> simp [SN]
 refine Ok.take h1 (by decide) fun r2 m2 _ _ h2 => ?_
 refine Ok.take h2 (by decide) fun r3 m3 a3 b3 h3 => ?_
 refine Ok.idx a3 (by simpa using b3) fun id0 _ _ => ?_
 refine Ok.rm (by simp) ?_
 refine Ok.bind (P := fun p : Qv × List Qb × List Qi => MOk p.1 ∧ p.2.1.length ≤ 4 ∧ (∀ f ∈ p.2.1,FOk f) ∧ p.2.2.length = l.length ∧ ∀ k ∈ p.2.2,GOk (N + 1) k)
  (Ok.ite (fun hpos => ?_) (fun _ => Ok.mk ⟨h3,by simp,by simp [FOk,FN,SN],rfl,fun k h => (hk k h).weak (by omega)⟩)) fun p hp => ?_
 ·have hpos' : (0:Int) < l.length := of_decide_eq_true hpos
  refine Ok.take h3 (by omega) fun to m4 a4 b4 h4 => ?_
  refine Ok.idx a4 b4 fun kt hkt ekt => ?_
  refine Ok.take h4 (by decide) fun r5 m5 a5 b5 h5 => ?_
  refine Ok.idx a5 (by simpa using b5) fun hi _ _ => ?_
  refine Ok.take h5 (by decide) fun r6 m6 _ _ h6 => ?_
  have skt := (hk kt hkt).1.2.2
  refine Ok.bind (P := FOk) (Ok.ite (fun _ => Ok.mk (fok (by simp [SN]) skt Qnq)) (fun _ => Ok.mk (fok (by simp [SN]) skt Qnq))) fun f hf => ?_
  refine Ok.rm (by simp) ?_
  refine Ok.idx a4 b4 fun kt1 hkt1 _ => ?_
  refine (Qol (by have := (hk _ hkt1).1.1; omega)).bind fun c hc => ?_
  refine Ok.opt (P := fun r : Int × Qv => MOk r.2) (fun h => (QdR h6 (by decide)).weak fun r h => h.2.2) fun r7 h7 => ?_
  have m7 : MOk (bif (decide (c ≥ (0:Int))) == true then r7.2 else m6) := Qds (fun h => h7 (by rw [h]; rfl)) h6
  refine Ok.bind (P := fun p : List Qb => p.length ≤ 3 ∧ ∀ f ∈ p,FOk f) (Ok.ite (fun h => ?_) (fun _ => Ok.mk ⟨by simp,?_⟩)) fun fs hfs => ?_
  ·simp only [Bool.and_eq_true,decide_eq_true_eq] at h
   refine Ok.idx a4 b4 fun kt2 hkt2 ekt2 => ?_
   have e : kt2 = kt1 := by simp_all
   subst e
   refine Ok.idx h.1 hc.2 fun g hg _ => Ok.rm (by simp) (Ok.mk ⟨by simp,?_⟩)
   have sg := ((hk _ hkt1).1.2.1 g hg).2.2.1
   intro x hx
   simp only [List.nil_append,List.cons_append,List.mem_cons,List.not_mem_nil,or_false] at hx
   rcases hx with rfl | rfl | rfl
   ·simp [FOk,FN,SN]
   ·exact hf
   ·exact fok (by simp [SN]) sg (by simp [SN])
  ·intro x hx
   simp only [List.nil_append,List.cons_append,List.mem_cons,List.not_mem_nil,or_false] at hx
   rcases hx with rfl | rfl
   ·simp [FOk,FN,SN]
   ·exact hf
  ·refine Ok.idx a4 b4 fun kt3 hkt3 ekt3 => ?_
   refine (Qiq (by have := (hk _ hkt3).1.1; omega)).bind fun tot htot => ?_
   refine Ok.opt (P := fun r : Int × Qv => MOk r.2) (fun h => (QdR m7 (by decide)).weak fun r h => h.2.2) fun r8 h8 => ?_
   have m8 : MOk (bif (decide (tot < (0:Int))) == true then r8.2 else (bif (decide (c ≥ (0:Int))) == true then r7.2 else m6)) := Qds (fun h => h8 (by rw [h]; rfl)) m7
   refine Ok.bind (P := fun p : Qv × List Qb × List Qi => MOk p.1 ∧ p.2.1.length ≤ 4 ∧ (∀ f ∈ p.2.1,FOk f) ∧ p.2.2.length = l.length ∧ ∀ k ∈ p.2.2,GOk (N + 1) k)
    (Ok.ite (fun h => ?_) (fun _ => Ok.mk ⟨m8,by have := hfs.1; dsimp only; omega,hfs.2,rfl,fun k h => (hk k h).weak (by omega)⟩)) fun p hp => Ok.mk hp
   refine Ok.take m8 (by decide) fun r9 m9 _ _ h9 => Ok.take h9 (by decide) fun r10 m10 _ _ h10 => ?_
   refine Ok.rm (by have := hfs.1; simp; omega) ?_
   refine Ok.idx a4 b4 fun kt4 hkt4 ekt4 => ?_
   have hk4 := hk _ hkt4
   have hk41 := hk4.1.1
   refine Ok.rm (by simp; omega) (Ok.rm (by simp; omega) ?_)
   refine Ok.idx a4 b4 fun kt5 hkt5 ekt5 => ?_
   have e : kt5 = kt4 := by simp_all
   subst e
   refine Ok.setAt a4 b4 (Ok.mk ⟨h10,?_,?_,?_,?_⟩)
   ·have := hfs.1; simp; omega
   ·intro x hx
    rcases List.mem_append.1 hx with hx | hx
    ·exact hfs.2 x hx
    ·rw [List.mem_singleton] at hx; subst hx; simp [FOk,FN,SN]
   ·simp
   ·intro k hkm
    rcases List.mem_or_eq_of_mem_set hkm with hkm | rfl
    ·exact (hk k hkm).weak (by omega)
    ·refine ⟨⟨?_,?_,hk4.1.2.2⟩,hk4.2⟩
     ·simp; omega
     ·intro x hx
      rcases List.mem_append.1 hx with hx | hx
      ·exact hk4.1.2.1 x (by simpa using hx)
      ·rw [List.mem_singleton] at hx; subst hx; exact fok (by simp [SN]) hsn Qnq
 ·obtain ⟨q1,q2,q3,q4,q5⟩ := hp
  refine Ok.opt (P := fun r : Int × Qv => MOk r.2) (fun h => (QdR q1 (by decide)).weak fun r h => h.2.2) fun r11 h11 => ?_
  have m11 : MOk (bif (decide ((l.length : Int) > (1:Int))) == true then r11.2 else p.1) := Qds (fun h => h11 (by rw [h]; rfl)) q1
  refine Ok.bind (P := fun p : List Qb => p.length ≤ 5 ∧ ∀ f ∈ p,FOk f) (Ok.ite (fun h => ?_) (fun _ => Ok.mk ⟨by omega,q3⟩)) fun fs hfs => ?_
  ·simp only [Bool.and_eq_true,decide_eq_true_eq] at h
   refine Ok.idx (by decide) (by omega) fun k0 hk0 _ => Ok.rm (by simp; omega) (Ok.mk ⟨by simp; omega,?_⟩)
   intro x hx
   rcases List.mem_append.1 hx with hx | hx
   ·exact q3 x hx
   ·rw [List.mem_singleton] at hx; subst hx; exact fok (by simp [SN]) (q5 k0 hk0).1.2.2 Qnq
  ·refine (Qpr m11).bind fun r12 h12 => ?_
   obtain ⟨c1,c2,c3⟩ := h12
   obtain ⟨f1,f2⟩ := hfs
   refine Ok.rm (by omega) ?_
   refine Ok.take c3 (by decide) fun r13 m13 _ _ h13 => ?_
   have all7 : ∀ f ∈ fs ++ r12.1,FOk f := fun x hx => (List.mem_append.1 hx).elim (f2 x) (c2 x)
   have len7 : (fs ++ r12.1).length ≤ 7 := by simp; omega
   refine Ok.bind (P := fun p : Qv × List Qb => MOk p.1 ∧ p.2.length ≤ 9 ∧ ∀ f ∈ p.2,FOk f) (Ok.ite (fun h => ?_) (fun _ => Ok.mk ⟨h13,by dsimp only; omega,all7⟩)) fun p52 hp52 => Ok.mk ⟨⟨⟨hp52.2.1,hp52.2.2,hsn⟩,hn⟩,hp52.1,q4,q5⟩
   refine (Qpr h13).bind fun r14 h14 => ?_
   obtain ⟨d1,d2,d3⟩ := h14
   refine Ok.opt (P := fun _ => True) (fun h => ?_) fun g _ => ?_
   ·have h' : (r14.1.length : Int) > 0 := by simpa using h
    exact (Ok.idx (by decide) (by omega) fun v _ _ => Ok.mk trivial : Ok ((idx r14.1 0).bind some) _).weak (fun _ h => h) |> fun h => by simpa using h
   refine Ok.opt (P := fun _ => True) (fun h => (Qiq (by omega)).weak fun _ _ => trivial) fun g2 _ => ?_
   refine Ok.bind (P := fun p : List Qb => p.length ≤ 9 ∧ ∀ f ∈ p,FOk f) (Ok.ite (fun h => Ok.rm (by omega) (Ok.mk ⟨by rw [List.length_append]; omega,fun x hx => (List.mem_append.1 hx).elim (all7 x) (d2 x)⟩)) (fun _ => Ok.mk ⟨by omega,all7⟩)) fun p64 hp64 => Ok.mk ⟨d3,hp64.1,hp64.2⟩

end Go.Proofs.YtcdccjagknlmpaaGreatDoor

namespace Go.Proofs.YtcdccjagknlmpaaGreatDoor
open Go.Sim

/-- The names of a rule. -/
def RN (r : Qo) : Prop := SN r.Name ∧ SN r.Kind ∧ SN r.A ∧ SN r.B
theorem Qps {a r : Str} (h1 : 1 ≤ a.length) (h2 : a.length ≤ 10) (h : a.head? ≠ some 122) (hr : r.length = 1) : SN (a ++ r) := by
 refine ⟨by rw [List.length_append]; omega,?_⟩
 cases a with
 | nil => simp at h1
 | cons c a => simpa using h
theorem QuI {m : Qv} {k : Qi} (hm : MOk m) (hk : GOk 12 k) : Ok (Qbh m k) (fun r => RN r.1 ∧ MOk r.2.2) := by
 unfold Qbh
 obtain ⟨⟨k1,k2,ks⟩,k3,k4⟩ := hk
 refine (Qiq (by omega)).bind fun a ha => (Qiq (by omega)).bind fun b hb => ?_
 refine Ok.opt (P := fun r : Int × Qv => MOk r.2) (fun h => (QdR hm (by decide)).weak fun r h => h.2.2) fun r1 h1 => ?_
 have m1 : MOk (bif (decide (a ≥ (0:Int))) == true then r1.2 else m) := Qds (fun h => h1 (by rw [h]; rfl)) hm
 have nm : ∀ {β : Type} {Q : β → Prop} {f : Str → Option β},(∀ r : Str,r.length = 1 → Ok (f r) Q) → Ok ((sub k.Name 0 1).bind f) Q := fun h => Ok.sub (by decide) (by decide) (by omega) fun r hr _ => h r (by simpa using hr)
 refine Ok.ite (fun _ => nm fun r hr => Ok.cat (by simp; omega) (Ok.take m1 (by decide) fun _ m2 _ _ h2 => Ok.mk ⟨⟨Qps (by simp) (by simp) (by simp) hr,ks,by simp [SN],by simp [SN]⟩,h2⟩)) (fun _ => ?_)
 refine Ok.ite (fun _ => Ok.mk ⟨by simp [RN,SN],m1⟩) (fun h => ?_)
 have hb0 : ¬ b < 0 := of_decide_eq_false h
 refine Ok.idx (by omega) hb.2 fun f _ _ => Ok.take m1 (by decide) fun r2 m2 _ _ h2 => ?_
 refine Ok.ite (fun _ => nm fun r hr => Ok.cat (by simp; omega) (Ok.take h2 (by decide) fun _ m2 _ _ h2 => Ok.mk ⟨⟨Qps (by simp) (by simp) (by simp) hr,ks,by simp [SN],by simp [SN]⟩,h2⟩)) (fun _ => nm fun r hr => Ok.cat (by simp; omega) (Ok.take h2 (by decide) fun _ m2 _ _ h2 => Ok.mk ⟨⟨Qps (by simp) (by simp) (by simp) hr,ks,by simp [SN],by simp [SN]⟩,h2⟩))

/-- A schema of the generators. -/
def SOk (n : Nat) (x : Qg) : Prop := x.Kinds.length ≤ 3 ∧ (∀ k ∈ x.Kinds,KOk 14 k) ∧ x.Lives.length ≤ 1 ∧ (∀ m ∈ x.Lives,m.States.length ≤ 6 ∧ m.Moves.length ≤ 8 ∧ SN m.Name) ∧ x.Rules.length ≤ n ∧ ∀ r ∈ x.Rules,RN r
theorem SOk.weak {a b : Nat} {x : Qg} (h : SOk a x) (hab : a ≤ b) : SOk b x := ⟨h.1,h.2.1,h.2.2.1,h.2.2.2.1,Nat.le_trans h.2.2.2.2.1 hab,h.2.2.2.2.2⟩

theorem QrR {l : List Int} (hl : ∀ x ∈ l,I64 x) : Ok (Qbt l) (SOk 2) := by
 unfold Qbt
 refine Ok.sub (by decide) (by unfold imin; split <;> omega) (by unfold imin; split <;> omega) fun w _ hw => ?_
 have h0 : MOk (Qv.mk w 0) := fun x hx => hl x (hw x hx)
 refine Ok.take h0 (by decide) fun v m1 _ _ h1 => Ok.take h1 (by decide) fun n m2 a2 b2 h2 => ?_
 have en : IntKind.i64.wrap (1 + n) = 1 + n := w64 (by omega) (by omega)
 refine Ok.bind (P := fun p : List Qi × Qv => p.1.length = 1 + n ∧ (∀ k ∈ p.1,GOk 12 k) ∧ MOk p.2)
  (Ok.loop (fun k s => 0 ≤ s.1 ∧ s.1 + k = 1 + n ∧ s.2.1.length = s.1 ∧ (∀ q ∈ s.2.1,GOk (9 + s.1.toNat) q) ∧ MOk s.2.2) (1 + n).toNat ⟨Int.le_refl _,by dsimp only; omega,by simp,by simp,h2⟩ fun k s hs => ?_) (fun p hp => ?_)
 ·obtain ⟨i,ks,m3⟩ := s
  obtain ⟨e1,e2,e3,e4,e5⟩ := hs
  dsimp only at e1 e2 e3 e4 e5
  refine Ok.ite (fun h => ?_) (fun h => ?_)
  ·have h' : i < 1 + n := by have := of_decide_eq_true h; rwa [en] at this
   refine (QuH (N := 9 + i.toNat) e5 (by omega) (by omega) e4).bind fun r hr => ?_
   obtain ⟨r1,r2,r3,r4⟩ := hr
   refine Ok.rm (by simp; omega) (Ok.mk ?_)
   have ei : IntKind.i64.wrap (i + 1) = i + 1 := w64 (by omega) (by omega)
   refine ⟨k - 1,by omega,?_⟩
   dsimp only
   rw [ei]
   refine ⟨by omega,by omega,by simp; omega,fun q hq => ?_,r2⟩
   rcases List.mem_append.1 hq with hq | hq
   ·exact (r4 q hq).weak (by omega)
   ·rw [List.mem_singleton] at hq; subst hq; exact r1.weak (by omega)
  ·have h' : ¬ i < 1 + n := by have := of_decide_eq_false h; rwa [en] at this
   refine Ok.mk ⟨by dsimp only; omega,fun q hq => (e4 q hq).weak (by omega),e5⟩
 obtain ⟨p1,p2,p3⟩ := hp
 refine Ok.take p3 (by decide) fun t m4 a4 b4 h4 => ?_
 have et : IntKind.i64.wrap (2 + t) = 2 + t := w64 (by omega) (by omega)
 refine Ok.sub (by decide) (by dsimp only; rw [et]; omega) (by dsimp only; rw [et]; simp; omega) fun st hst _ => ?_
 dsimp only at hst
 rw [et] at hst
 have hsl : 2 ≤ st.length ∧ st.length ≤ 4 := by omega
 refine Ok.bind (P := fun p : List QJ => p.length ≤ 3) (Ok.loop (fun k s => 0 ≤ s.1 ∧ s.1 + 1 + k = st.length ∧ s.2.length = s.1) (st.length - 1) ⟨Int.le_refl _,by dsimp only; omega,by simp⟩ fun k s hs => ?_) (fun mv hmv => ?_)
 ·obtain ⟨i,ms⟩ := s
  obtain ⟨e1,e2,e3⟩ := hs
  dsimp only at e1 e2 e3
  have ei : IntKind.i64.wrap (i + 1) = i + 1 := w64 (by omega) (by omega)
  refine Ok.ite (fun h => ?_) (fun h => ?_)
  ·have h' : i + 1 < st.length := by have := of_decide_eq_true h; rwa [ei] at this
   refine Ok.rm (by simp; omega) (Ok.mk ⟨k - 1,by omega,?_⟩)
   dsimp only
   rw [ei]
   exact ⟨by omega,by omega,by simp; omega⟩
  ·have h' : ¬ i + 1 < st.length := by have := of_decide_eq_false h; rwa [ei] at this
   exact Ok.mk (by dsimp only; omega)
 refine Ok.take h4 (by decide) fun r5 m5 _ _ h5 => ?_
 refine Ok.bind (P := fun p : List QJ => p.length ≤ 4) (Ok.ite (fun _ => Ok.rm (by simp; omega) (Ok.mk (by simp; omega))) (fun _ => Ok.mk (by omega))) fun mv2 hmv2 => ?_
 refine Ok.take h5 (by decide) fun r6 m6 _ _ h6 => ?_
 refine Ok.bind (P := fun p : List QJ => p.length ≤ 5) (Ok.ite (fun _ => Ok.rm (by simp; omega) (Ok.mk (by simp; omega))) (fun _ => Ok.mk (by omega))) fun mv3 hmv3 => ?_
 refine Ok.rm (by simp) ?_
 refine Ok.bind (P := fun p : List Qo => p.length ≤ 2 ∧ ∀ r ∈ p,RN r) (Ok.loop (fun k s => 0 ≤ s.1 ∧ s.1 + k = 1 + n ∧ (s.2.1.length ≤ 2 ∧ ∀ r ∈ s.2.1,RN r) ∧ MOk s.2.2) (1 + n).toNat ⟨Int.le_refl _,by dsimp only; omega,by simp,h6⟩ fun k s hs => ?_) (fun rs hrs => ?_)
 ·obtain ⟨i,rs,m7⟩ := s
  obtain ⟨e1,e2,e3,e4⟩ := hs
  dsimp only at e1 e2 e3 e4
  refine Ok.ite (fun h => ?_) (fun h => Ok.mk e3)
  simp only [Bool.and_eq_true,decide_eq_true_eq,en] at h
  refine Ok.idx e1 (by omega) fun q hq _ => (QuI e4 (p2 q hq)).bind fun r hr => ?_
  refine Ok.bind (P := fun p : List Qo => p.length ≤ 2 ∧ ∀ r ∈ p,RN r) (Ok.ite (fun _ => Ok.rm (by simp; omega) (Ok.mk ⟨by simp; omega,fun y hy => (List.mem_append.1 hy).elim (e3.2 y) fun hy => by rw [List.mem_singleton] at hy; subst hy; exact hr.1⟩)) (fun _ => Ok.mk e3)) fun rs2 hrs2 => Ok.mk ⟨k - 1,by omega,?_⟩
  dsimp only
  rw [w64 (n := i + 1) (by omega) (by omega)]
  exact ⟨by omega,by omega,hrs2,hr.2⟩
 ·refine Ok.mk ⟨by dsimp only; omega,fun q hq => ⟨by have := (p2 q hq).1.1; omega,(p2 q hq).1.2⟩,by simp,?_,hrs⟩
  intro q hq
  simp only [List.nil_append,List.mem_singleton] at hq
  subst hq
  exact ⟨by dsimp only; omega,by dsimp only; omega,by simp [SN]⟩

end Go.Proofs.YtcdccjagknlmpaaGreatDoor

namespace Go.Proofs.YtcdccjagknlmpaaGreatDoor
open Go.Sim

theorem Ok.same {β : Type} {x : Option β} {Q : β → Prop} (h : Ok x Q) : Ok (x.bind fun p => some p) Q := h.bind fun _ hr => Ok.mk hr
end Go.Proofs.YtcdccjagknlmpaaGreatDoor

namespace Go.Proofs.YtcdccjagknlmpaaGreatDoor
open Go.Sim

def FZ (f : Qb) : Prop := f.Words.length ≤ 7 ∧ f.Weights.length ≤ 7 ∧ FN f
def KA (l : List Qi) : Prop := l.length ≤ 3 ∧ ∀ k ∈ l,k.Fields.length ≤ 14 ∧ (∀ f ∈ k.Fields,FZ f) ∧ SN k.Name
def LA (l : List Qu) : Prop := l.length ≤ 1 ∧ ∀ m ∈ l,m.States.length ≤ 7 ∧ m.Moves.length ≤ 9 ∧ SN m.Name
/-- A schema of the laws. -/
def RA (l : List Qo) : Prop := l.length ≤ 4 ∧ ∀ r ∈ l,RN r
def Sz (x : Qg) : Prop := KA x.Kinds ∧ LA x.Lives ∧ RA x.Rules
theorem FOk.z {f : Qb} (h : FOk f) : FZ f := ⟨by have := h.1; omega,by have := h.2.1; omega,h.2.2⟩
theorem SOk.sz {n : Nat} {x : Qg} (h : SOk n x) (hn : n ≤ 4) : Sz x :=
 ⟨⟨h.1,fun k hk => ⟨(h.2.1 k hk).1,fun f hf => ((h.2.1 k hk).2.1 f hf).z,(h.2.1 k hk).2.2⟩⟩,⟨h.2.2.1,fun m hm => ⟨by have := (h.2.2.2.1 m hm).1; omega,by have := (h.2.2.2.1 m hm).2.1; omega,(h.2.2.2.1 m hm).2.2⟩⟩,Nat.le_trans h.2.2.2.2.1 hn,h.2.2.2.2.2⟩

end Go.Proofs.YtcdccjagknlmpaaGreatDoor

namespace Go.Proofs.YtcdccjagknlmpaaGreatDoor
open Go.Sim

/-- The index of the first element that is so; -1: none is. -/
def QaP {α : Type} (s : List α) (p : α → Bool) : Int := match s.findIdx? p with | some k => (k : Int) | none => -1
theorem QnV {α : Type} (s : List α) (p : α → Bool) : -1 ≤ QaP s p ∧ QaP s p < s.length := by
 unfold QaP
 cases h : s.findIdx? p with
 | none => exact ⟨by decide,by show (-1:Int) < _; omega⟩
 | some k =>
  have := (List.findIdx?_eq_some_iff_getElem.1 h).1
  exact ⟨by show (-1:Int) ≤ (k:Int); omega,by show (k:Int) < _; omega⟩
theorem Qdt {α : Type} (s : List α) (p : α → Bool) {body : Int → Option (Int ⊕ (Unit ⊕ Int))}
  (hb : ∀ k (h : k < s.length),body (k : Int) = if p s[k] = true then some (.inr (.inr (k : Int))) else some (.inl ((k + 1 : Nat) : Int))) (he : body (s.length : Int) = some (.inr (.inl ()))) :
  QK body (0 : Int) = some (match s.findIdx? p with | some k => .inr (k : Int) | none => .inl ()) := by
 obtain ⟨q,hq⟩ : ∃ q : Nat → Bool,∀ k (h : k < s.length),q k = p s[k] := ⟨fun k => if h : k < s.length then p s[k] else false,fun k h => dif_pos h⟩
 rcases Qly (ρ := Unit ⊕ Int) s.length q (.inl ()) (fun k => .inr (k : Int))
  (fun k hk hp => by rw [hb k hk,if_neg (by rw [← hq k hk,hp]; decide)]) (fun k hk hp => by rw [hb k hk,if_pos (by rw [← hq k hk,hp])]) he with ⟨k,hk,hp,hj,e⟩ | ⟨hp,e⟩
 ·have : s.findIdx? p = some k := by
   rw [List.findIdx?_eq_some_iff_getElem]
   refine ⟨hk,by rw [← hq k hk,hp],fun j hj' => ?_⟩
   have := hj j hj'
   rw [hq j (by omega)] at this
   simp [this]
  rw [e,this]
 ·have : s.findIdx? p = none := by
   rw [List.findIdx?_eq_none_iff]
   intro x hx
   obtain ⟨k,hk,rfl⟩ := List.getElem_of_mem hx
   have := hp k hk
   rwa [hq k hk] at this
  rw [e,this]

section
variable {p : Qi → Bool} {q : Qb → Bool}
theorem Qom {s : List Qi} {f : Qi → Option Bool} (hs : s.length ≤ 1000000) (hf : ∀ x ∈ s,f x = some (p x)) : QaK s f = some (QaP s p) := by
 unfold QaK
 rw [Qdt s p (fun k hk => ?_) ?_]
 ·unfold QaP; cases s.findIdx? p <;> rfl
 ·rw [if_neg (by simp)]
 ·rw [if_pos (by simpa using hk),Qak hk]
  show (f s[k]).bind _ = _
  rw [hf _ (List.getElem_mem hk),Qad hk (by omega)]; rfl
theorem Qnr {s : List Qb} {f : Qb → Option Bool} (hs : s.length ≤ 1000000) (hf : ∀ x ∈ s,f x = some (q x)) : QaF s f = some (QaP s q) := by
 unfold QaF
 rw [Qdt s q (fun k hk => ?_) ?_]
 ·unfold QaP; cases s.findIdx? q <;> rfl
 ·rw [if_neg (by simp)]
 ·rw [if_pos (by simpa using hk),Qak hk]
  show (f s[k]).bind _ = _
  rw [hf _ (List.getElem_mem hk),Qad hk (by omega)]; rfl
end

/-- The kind, the field with a name. -/
def Qab (x : Qg) (n : Str) : Int := QaP x.Kinds fun k => k.Name == n
def Qba (k : Qi) (n : Str) : Int := QaP k.Fields fun f => f.Name == n
theorem QdS {x : Qg} {n : Str} (hx : x.Kinds.length ≤ 1000000) : Qbu x n = some (Qab x n) := by
 unfold Qbu
 rw [Qom (f := fun x0 => QdO x0 n) (p := fun k => k.Name == n) hx (fun k _ => rfl)]; rfl
theorem Qeu {k : Qi} {n : Str} (hx : k.Fields.length ≤ 1000000) : Qbj k n = some (Qba k n) := by
 unfold Qbj
 rw [Qnr (f := fun x0 => Qdj x0 n) (q := fun k => k.Name == n) hx (fun k _ => rfl)]; rfl
/-- The field of a schema, if there is one. -/
def field? (x : Qg) (k j : Int) : Option Qb := if 0 ≤ k ∧ 0 ≤ j then x.Kinds[k.toNat]?.bind fun q => q.Fields[j.toNat]? else none
def Qe4 : Qb := Qb.mk [] [] [] 0 0 0 [] []
theorem Qhp {x : Qg} {k j : Int} {f : Qb} (h : field? x k j = some f) : ∃ q,0 ≤ k ∧ 0 ≤ j ∧ idx x.Kinds k = some q ∧ idx q.Fields j = some f ∧ q ∈ x.Kinds ∧ k < x.Kinds.length ∧ j < q.Fields.length := by
 unfold field? at h
 split at h
 ·rename_i hk
  obtain ⟨q,h1,h2⟩ := Option.bind_eq_some_iff.1 h
  refine ⟨q,hk.1,hk.2,by rw [QhV _ hk.1,h1],by rw [QhV _ hk.2,h2],List.mem_of_getElem? h1,?_,?_⟩
  ·have := (List.getElem?_eq_some_iff.1 h1).1; omega
  ·have := (List.getElem?_eq_some_iff.1 h2).1; omega
 ·cases h
theorem QmE {x : Qg} {k j : Int} {q : Qi} {f : Qb} (hk : 0 ≤ k) (hj : 0 ≤ j) (h1 : idx x.Kinds k = some q) (h2 : idx q.Fields j = some f) : field? x k j = some f := by
 rw [QhV _ hk] at h1; rw [QhV _ hj] at h2
 unfold field?
 rw [if_pos ⟨hk,hj⟩,h1]; exact h2
theorem Qji {α : Type} {l : List α} {i : Int} (h0 : 0 ≤ i) (h1 : i < l.length) : ∃ v,idx l i = some v ∧ v ∈ l := by
 have hlt : i.toNat < l.length := by omega
 exact ⟨l[i.toNat],by rw [QhV l h0,List.getElem?_eq_getElem hlt],List.getElem_mem hlt⟩
theorem QkJ (x : Qg) (k j : Int) : Qci x k j = some (match field? x k j with | some f => (f,true) | none => (Qe4,false)) := by
 unfold Qci
 by_cases hc : (0 ≤ k ∧ k < x.Kinds.length) ∧ 0 ≤ j
 ·obtain ⟨⟨h1,h2⟩,h3⟩ := hc
  obtain ⟨q,hq,_⟩ := Qji h1 h2
  have c : ((decide (k < 0) || decide (k ≥ (x.Kinds.length : Int))) || decide (j < 0)) = false := by simp; omega
  rw [c,hq]
  show (if (false || decide (j ≥ (q.Fields.length : Int))) = true then _ else _) = _
  by_cases h4 : j < q.Fields.length
  ·obtain ⟨f,hf,_⟩ := Qji h3 h4
   rw [if_neg (by simp; omega),QmE h1 h3 hq hf]
   show (idx q.Fields j).bind _ = _
   rw [hf]; rfl
  ·rw [if_pos (by simp; omega)]
   have : field? x k j = none := by
    cases h : field? x k j with
    | none => rfl
    | some f =>
     obtain ⟨q',_,_,e1,e2,_,_,e3⟩ := Qhp h
     rw [hq] at e1; cases e1; exact (h4 e3).elim
   rw [this]; rfl
 ·have c : ((decide (k < 0) || decide (k ≥ (x.Kinds.length : Int))) || decide (j < 0)) = true := by simp; omega
  rw [c]
  have : field? x k j = none := by
   cases h : field? x k j with
   | none => rfl
   | some f =>
    obtain ⟨q',e1,e2,_,_,_,e3,_⟩ := Qhp h
    exact (hc ⟨⟨e1,e3⟩,e2⟩).elim
  rw [this]; rfl
end Go.Proofs.YtcdccjagknlmpaaGreatDoor

namespace Go.Proofs.YtcdccjagknlmpaaGreatDoor
open Go.Sim

/-- What the way up needs of a schema: it is small. -/
def Few (x : Qg) : Prop := x.Kinds.length ≤ 1000 ∧ ∀ k ∈ x.Kinds,k.Fields.length ≤ 1000
theorem Sz.few {x : Qg} (h : Sz x) : Few x := ⟨by have := h.1.1; omega,fun k hk => by have := (h.1.2 k hk).1; omega⟩

def Qhq (x : Qg) (k : Int) (g : Qb) : Int := if Qab x g.Of < k then Qab x g.Of else -1
/-- The kind to which a field leads. -/
def upIx (x : Qg) (k j : Int) : Int :=
 match field? x k j with
 | none => -1
 | some f =>
  if f.Kind = 7 ∨ f.Kind = 8 then
   match idx x.Kinds k with
   | none => -1
   | some q => if Qba q f.Up < j then (match field? x k (Qba q f.Up) with | some g => if g.Kind = 1 then Qhq x k g else -1 | none => -1) else -1
  else if f.Kind = 1 then Qhq x k f else -1

theorem Qqp {x : Qg} {k j : Int} {g : Qb} {self : Qg → Int → Int → Option Int} (hx : Few x) (h : field? x k j = some g) (hg : g.Kind = 1) : Qcz self x k j = some (Qhq x k g) := by
 unfold Qcz
 rw [QkJ,h]
 simp only [Option.bind_some,Bool.not_true,hg]
 rw [if_neg (by decide),if_neg (by decide),if_neg (by decide),QdS (by have := hx.1; omega)]
 simp only [Option.bind_some,Qhq]
 by_cases hl : Qab x g.Of < k
 ·rw [if_pos (by simpa using hl),if_pos hl]
 ·rw [if_neg (by simpa using hl),if_neg hl]
theorem upS_is {x : Qg} {k j : Int} {self : Qg → Int → Int → Option Int} (hx : Few x) (hs : ∀ u g,field? x k u = some g → g.Kind = 1 → self x k u = some (Qhq x k g)) : Qcz self x k j = some (upIx x k j) := by
 cases hf : field? x k j with
 | none =>
  unfold Qcz upIx
  rw [QkJ,hf]; rfl
 | some f =>
  by_cases h1 : f.Kind = 1
  ·rw [Qqp hx hf h1]
   unfold upIx
   rw [hf]
   simp [h1]
  unfold Qcz upIx
  rw [QkJ,hf]
  simp only [Option.bind_some,Bool.not_true]
  rw [if_neg (by decide)]
  by_cases c : f.Kind = 7 ∨ f.Kind = 8
  ·obtain ⟨q,hk,hj,hq,hqf,hqm,_,_⟩ := Qhp hf
   rw [if_pos (by simpa using c),if_pos c,hq]
   simp only [Option.bind_some]
   rw [Qeu (by have := hx.2 q hqm; omega)]
   simp only [Option.bind_some]
   rw [QkJ]
   simp only [Option.bind_some]
   cases hg : field? x k (Qba q f.Up) with
   | none => simp
   | some g =>
    simp only
    by_cases hu : Qba q f.Up < j
    ·by_cases hg1 : g.Kind = 1
     ·rw [if_pos (by simp [hu,hg1]),hs _ g hg hg1,if_pos hu,if_pos hg1]; rfl
     ·rw [if_neg (by simp [hg1]),if_pos hu,if_neg hg1]
    ·rw [if_neg (by simp [hu]),if_neg hu]
  ·rw [if_neg (by simpa using c),if_neg c,if_pos (by simpa using h1),if_neg h1]
theorem Qjj {x : Qg} {k j : Int} (hx : Few x) : Qfc x k j = some (upIx x k j) := by
 unfold Qfc
 exact upS_is hx fun u g h hg => Qqp hx h hg
/-! Shares -/
theorem QrS (p : Nat → Bool) (k : Nat) : ((List.range (k + 1)).filter p).map Int.ofNat = if p k = true then ((List.range k).filter p).map Int.ofNat ++ [(k : Int)] else ((List.range k).filter p).map Int.ofNat := by
 rw [List.range_succ,List.filter_append,List.map_append]
 by_cases h : p k = true
 ·rw [if_pos h]; simp [h]
 ·rw [if_neg h]; simp [h]
theorem Qs4 (p : Nat → Bool) (k : Nat) : (((List.range k).filter p).map Int.ofNat).length ≤ k := by
 rw [List.length_map]
 have := List.length_filter_le p (List.range k)
 simpa using this
def Qjk (x : Qg) (o k : Int) (nm : Str) (fs : List Qb) (i : Nat) : Bool := match fs[i]? with | some g => g.Kind == 7 && g.Of == nm && upIx x o (i : Int) == k | none => false
def shl (x : Qg) (o k : Int) (nm : Str) : List Int := match idx x.Kinds o with | some q => ((List.range q.Fields.length).filter (Qjk x o k nm q.Fields)).map Int.ofNat | none => []
def QlZ (x : Qg) (k : Int) (f : Qb) : Int × List Int := if f.Kind ≠ 6 ∨ Qab x f.Of ≤ k then (-1,[]) else (Qab x f.Of,shl x (Qab x f.Of) k f.Name)
theorem Qlz (x : Qg) (n : Str) : -1 ≤ Qab x n ∧ Qab x n < x.Kinds.length := QnV _ _

theorem QrT {x : Qg} {k : Int} {f : Qb} (hx : Few x) (hk : 0 ≤ k) : QcX x k f = some (QlZ x k f) := by
 unfold QcX
 rw [QdS (by have := hx.1; omega)]
 simp only [Option.bind_some]
 unfold QlZ
 by_cases c : f.Kind ≠ 6 ∨ Qab x f.Of ≤ k
 ·rw [if_pos (by simpa using c),if_pos c]
 rw [if_neg (by simpa using c),if_neg c]
 have c' : k < Qab x f.Of := by
  rcases Int.lt_or_le k (Qab x f.Of) with h | h
  ·exact h
  ·exact (c (.inr h)).elim
 obtain ⟨q,hq,hqm⟩ := Qji (l := x.Kinds) (i := Qab x f.Of) (by omega) (Qlz x f.Of).2
 have hl := hx.2 q hqm
 rw [hq]
 simp only [Option.bind_some]
 refine Qfe q.Fields.length (fun n => ((n : Int),((List.range n).filter (Qjk x (Qab x f.Of) k f.Name q.Fields)).map Int.ofNat)) _ rfl (fun n hn => ?_) (if_neg (by simp)) ?_
 ·rw [if_pos (by simpa using hn),Qak hn]
  simp only [Option.bind_some]
  rw [Qjj hx]
  have e : Qjk x (Qab x f.Of) k f.Name q.Fields n = (q.Fields[n].Kind == 7 && q.Fields[n].Of == f.Name && upIx x (Qab x f.Of) (n : Int) == k) := by
   unfold Qjk; rw [List.getElem?_eq_getElem hn]
  have hle := Qs4 (Qjk x (Qab x f.Of) k f.Name q.Fields) n
  rw [QrS,e,Qad hn (by omega)]
  cases h1 : (q.Fields[n].Kind == 7 && q.Fields[n].Of == f.Name) with
  | false => rfl
  | true =>
   simp only [Sim.opt,Bool.true_and,if_true,beq_self_eq_true,Option.bind_some]
   cases h2 : upIx x (Qab x f.Of) (n : Int) == k with
   | false => rfl
   | true =>
    rw [if_pos rfl,if_pos rfl,QjC (by rw [List.length_singleton]; omega)]
    rfl
 ·unfold shl; rw [hq]

end Go.Proofs.YtcdccjagknlmpaaGreatDoor

namespace Go.Proofs.YtcdccjagknlmpaaGreatDoor
open Go.Sim

theorem Qd3 {α : Type} (s : List α) (p : α → Bool) : decide (QaP s p ≥ 0) = s.any p := by
 unfold QaP
 cases h : s.findIdx? p with
 | none =>
  have := List.findIdx?_eq_none_iff.1 h
  rw [Eq.comm,List.any_eq_false.2 (fun x hx => by simp [this x hx])]
  rfl
 | some k =>
  obtain ⟨hk,hp,_⟩ := List.findIdx?_eq_some_iff_getElem.1 h
  rw [Eq.comm,List.any_eq_true.2 ⟨_,List.getElem_mem hk,hp⟩,Eq.comm]
  exact decide_eq_true (Int.natCast_nonneg k)
theorem QhW {α : Type} (s : List α) (p : α → Bool) : (!s.any fun x => !p x) = s.all p := by
 induction s with
 | nil => rfl
 | cons a s ih => simp only [List.any_cons,List.all_cons,Bool.not_or,Bool.not_not,ih]

theorem QrU {s : List Qu} {f : Qu → Option Bool} {p : Qu → Bool} (hs : s.length ≤ 1000000) (hf : ∀ x ∈ s,f x = some (p x)) : Qa6 s f = some (QaP s p) := by
 unfold Qa6
 rw [Qdt s p (fun k hk => ?_) ?_]
 ·unfold QaP; cases s.findIdx? p <;> rfl
 ·rw [if_neg (by simp)]
 ·rw [if_pos (by simpa using hk),Qak hk]
  show (f s[k]).bind _ = _
  rw [hf _ (List.getElem_mem hk),Qad hk (by omega)]; rfl
theorem QrV {s : List Qo} {f : Qo → Option Bool} {p : Qo → Bool} (hs : s.length ≤ 1000000) (hf : ∀ x ∈ s,f x = some (p x)) : Qa7 s f = some (QaP s p) := by
 unfold Qa7
 rw [Qdt s p (fun k hk => ?_) ?_]
 ·unfold QaP; cases s.findIdx? p <;> rfl
 ·rw [if_neg (by simp)]
 ·rw [if_pos (by simpa using hk),Qak hk]
  show (f s[k]).bind _ = _
  rw [hf _ (List.getElem_mem hk),Qad hk (by omega)]; rfl
theorem QrW {s : List Int} {f : Int → Option Bool} {p : Int → Bool} (hs : s.length ≤ 1000000) (hf : ∀ x ∈ s,f x = some (p x)) : Qa5 s f = some (QaP s p) := by
 unfold Qa5
 rw [Qdt s p (fun k hk => ?_) ?_]
 ·unfold QaP; cases s.findIdx? p <;> rfl
 ·rw [if_neg (by simp)]
 ·rw [if_pos (by simpa using hk),Qak hk]
  show (f s[k]).bind _ = _
  rw [hf _ (List.getElem_mem hk),Qad hk (by omega)]; rfl
theorem QpY {s : List Str} {f : Str → Option Bool} {p : Str → Bool} (hs : s.length ≤ 1000000) (hf : ∀ x ∈ s,f x = some (p x)) : QaN s f = some (QaP s p) := by
 unfold QaN
 rw [Qdt s p (fun k hk => ?_) ?_]
 ·unfold QaP; cases s.findIdx? p <;> rfl
 ·rw [if_neg (by simp)]
 ·rw [if_pos (by simpa using hk),Qak hk]
  show (f s[k]).bind _ = _
  rw [hf _ (List.getElem_mem hk),Qad hk (by omega)]; rfl
theorem QpZ {s : List QJ} {f : QJ → Option Bool} {p : QJ → Bool} (hs : s.length ≤ 1000000) (hf : ∀ x ∈ s,f x = some (p x)) : QaO s f = some (QaP s p) := by
 unfold QaO
 rw [Qdt s p (fun k hk => ?_) ?_]
 ·unfold QaP; cases s.findIdx? p <;> rfl
 ·rw [if_neg (by simp)]
 ·rw [if_pos (by simpa using hk),Qak hk]
  show (f s[k]).bind _ = _
  rw [hf _ (List.getElem_mem hk),Qad hk (by omega)]; rfl
theorem Qpt {s : List Qi} {f : Qi → Option Bool} {p : Qi → Bool} (hs : s.length ≤ 1000000) (hf : ∀ x ∈ s,f x = some (p x)) : QaH s f = some (s.any p) := by
 unfold QaH
 rw [Qom hs hf,← Qd3]; rfl
theorem QuJ {s : List Qi} {f : Qi → Option Bool} {p : Qi → Bool} (hs : s.length ≤ 1000000) (hf : ∀ x ∈ s,f x = some (p x)) : Qck s f = some (s.all p) := by
 unfold Qck
 rw [Qpt (p := fun x => !p x) hs (fun x hx => by show (f x).bind _ = _; rw [hf x hx]; rfl),← QhW]; rfl
theorem QoK {s : List Qb} {f : Qb → Option Bool} {p : Qb → Bool} (hs : s.length ≤ 1000000) (hf : ∀ x ∈ s,f x = some (p x)) : QaE s f = some (s.any p) := by
 unfold QaE
 rw [Qnr hs hf,← Qd3]; rfl
theorem Qs5 {s : List Qb} {f : Qb → Option Bool} {p : Qb → Bool} (hs : s.length ≤ 1000000) (hf : ∀ x ∈ s,f x = some (p x)) : QbX s f = some (s.all p) := by
 unfold QbX
 rw [QoK (p := fun x => !p x) hs (fun x hx => by show (f x).bind _ = _; rw [hf x hx]; rfl),← QhW]; rfl
theorem Qjl {s : List Qu} {f : Qu → Option Bool} {p : Qu → Bool} (hs : s.length ≤ 1000000) (hf : ∀ x ∈ s,f x = some (p x)) : Qap s f = some (s.any p) := by
 unfold Qap
 rw [QrU hs hf,← Qd3]; rfl
theorem QuK {s : List Qu} {f : Qu → Option Bool} {p : Qu → Bool} (hs : s.length ≤ 1000000) (hf : ∀ x ∈ s,f x = some (p x)) : Qcm s f = some (s.all p) := by
 unfold Qcm
 rw [Qjl (p := fun x => !p x) hs (fun x hx => by show (f x).bind _ = _; rw [hf x hx]; rfl),← QhW]; rfl
theorem QlA {s : List Qo} {f : Qo → Option Bool} {p : Qo → Bool} (hs : s.length ≤ 1000000) (hf : ∀ x ∈ s,f x = some (p x)) : Qau s f = some (s.any p) := by
 unfold Qau
 rw [QrV hs hf,← Qd3]; rfl
theorem QuL {s : List Qo} {f : Qo → Option Bool} {p : Qo → Bool} (hs : s.length ≤ 1000000) (hf : ∀ x ∈ s,f x = some (p x)) : Qco s f = some (s.all p) := by
 unfold Qco
 rw [QlA (p := fun x => !p x) hs (fun x hx => by show (f x).bind _ = _; rw [hf x hx]; rfl),← QhW]; rfl
theorem Qpu {s : List Int} {f : Int → Option Bool} {p : Int → Bool} (hs : s.length ≤ 1000000) (hf : ∀ x ∈ s,f x = some (p x)) : QaI s f = some (s.any p) := by
 unfold QaI
 rw [QrW hs hf,← Qd3]; rfl
theorem QnW {s : List Str} {f : Str → Option Bool} {p : Str → Bool} (hs : s.length ≤ 1000000) (hf : ∀ x ∈ s,f x = some (p x)) : Qaz s f = some (s.any p) := by
 unfold Qaz
 rw [QpY hs hf,← Qd3]; rfl
theorem Qon {s : List Str} {f : Str → Option Bool} {p : Str → Bool} (hs : s.length ≤ 1000000) (hf : ∀ x ∈ s,f x = some (p x)) : Qbo s f = some (s.all p) := by
 unfold Qbo
 rw [QnW (p := fun x => !p x) hs (fun x hx => by show (f x).bind _ = _; rw [hf x hx]; rfl),← QhW]; rfl
theorem QnX {s : List QJ} {f : QJ → Option Bool} {p : QJ → Bool} (hs : s.length ≤ 1000000) (hf : ∀ x ∈ s,f x = some (p x)) : QaA s f = some (s.any p) := by
 unfold QaA
 rw [QpZ hs hf,← Qd3]; rfl
theorem QrX {s : List QJ} {f : QJ → Option Bool} {p : QJ → Bool} (hs : s.length ≤ 1000000) (hf : ∀ x ∈ s,f x = some (p x)) : QbG s f = some (s.all p) := by
 unfold QbG
 rw [QnX (p := fun x => !p x) hs (fun x hx => by show (f x).bind _ = _; rw [hf x hx]; rfl),← QhW]; rfl

def inW (n a b : Int) : Bool := decide (n ≥ a) && decide (n ≤ b)
theorem Qcw {n a b : Int} (h : inW n a b = true) : a ≤ n ∧ n ≤ b := by simpa [inW] using h
def QfC (c : Int) : Bool := inW c 97 122
def Qka (c : Int) : Bool := inW c 48 57
def QgG (lo hi a b : Int) : Bool := (decide (lo ≥ a) && decide (lo ≤ hi)) && decide (hi ≤ b)
/-- A name. -/
def Q1 (s : Str) : Bool := inW (s.length : Int) 1 12 && (QfC ((s.headD 0).toNat : Int) && (QP s).all fun c => QfC c || Qka c)
theorem QfU (s : Str) : Q5 s = some (Q1 s) := by
 unfold Q5 Q1
 cases s with
 | nil => rfl
 | cons c s =>
  show (some (inW ((c :: s).length : Int) 1 12)).bind _ = _
  simp only [Option.bind_some]
  cases h : inW ((c :: s).length : Int) 1 12 with
  | false => rfl
  | true =>
   have hl := (Qcw h).2
   rw [show idx (c :: s) (0 : Int) = some c from rfl]
   simp only [Sim.opt,Bool.not_true,beq_self_eq_true,if_true,Option.bind_some]
   rw [show Qcl (c.toNat : Int) = some (QfC (c.toNat : Int)) from rfl]
   simp only [Option.bind_some]
   cases hc : QfC (c.toNat : Int) with
   | false => simp [hc]
   | true =>
    rw [if_neg (by decide),Qpu (p := fun c => !(QfC c || Qka c)) (by simp only [QP,List.length_map]; omega) (fun x _ => ?_)]
    ·simp only [Option.bind_some]
     rw [QhW]
     simp [hc]
    ·show (some (QfC x)).bind _ = _
     simp only [Option.bind_some]
     cases h1 : QfC x with
     | true => rfl
     | false => show some (true && !Qka x) = _; rfl

theorem Qs6 {a b : List Str} (ha : a.length ≤ 1000000) : Qbs a b = some (decide (a = b)) := by
 unfold Qbs
 by_cases hl : a.length = b.length
 ·rw [if_neg (by simp [hl])]
  have : Ok ((QK (fun (s7 : Int) => ((if (decide (s7 < (a.length : Int))) = true then (idx a s7).bind fun t18 => (idx b s7).bind fun t22 => (if (t18 != t22) = true then (some (.inr (.inr false))) else (some (.inl (IntKind.i64.wrap (s7 + (1:Int)))))) else (some (.inr (.inl ())))) : Option ((Int) ⊕ ((Unit) ⊕ (Bool))))) (0:Int)).bind fun (e8 : (Unit) ⊕ (Bool)) => (match e8 with | .inl _ => (some true) | .inr p26 => (some p26))) (fun r => r = decide (a = b)) := by
   refine Ok.bind (P := fun e : Unit ⊕ Bool => (match e with | .inl _ => true | .inr p => p) = decide (a = b)) (Ok.loop (fun m s => 0 ≤ s ∧ s + m = a.length ∧ a.take s.toNat = b.take s.toNat) a.length ⟨Int.le_refl _,by omega,by simp⟩ fun m s hs => ?_) fun e he => by cases e <;> exact Ok.mk he
   obtain ⟨h1,h2,h3⟩ := hs
   obtain ⟨k,rfl⟩ := Int.eq_ofNat_of_zero_le h1
   simp only [Int.toNat_natCast] at h3
   refine Ok.ite (fun hk => ?_) (fun hk => ?_)
   ·have hk' : k < a.length := by simpa using hk
    rw [Qak hk',Qak (by omega)]
    simp only [Option.bind_some]
    refine Ok.ite (fun hne => Ok.mk ?_) (fun heq => Ok.mk ⟨m - 1,by omega,?_⟩)
    ·show false = _
     rw [Eq.comm,decide_eq_false_iff_not]
     rintro rfl
     simp at hne
    ·have heq' : a[k] = b[k] := by simpa using heq
     rw [Qad hk' (by omega)]
     refine ⟨by omega,by omega,?_⟩
     rw [Int.toNat_natCast,List.take_succ_eq_append_getElem hk',List.take_succ_eq_append_getElem (by omega),h3,heq']
   ·have hk' : ¬ k < a.length := by simpa using hk
    refine Ok.mk ?_
    show true = _
    rw [List.take_of_length_le (by omega),List.take_of_length_le (by omega)] at h3
    simp [h3]
  obtain ⟨r,hr,rfl⟩ := this
  exact hr
 ·rw [if_pos (by simp; omega)]
  have : a ≠ b := fun h => hl (by rw [h])
  simp [this]
theorem eqInt {a b : List Int} (ha : a.length ≤ 1000000) : QbY a b = some (decide (a = b)) := by
 unfold QbY
 by_cases hl : a.length = b.length
 ·rw [if_neg (by simp [hl])]
  have : Ok ((QK (fun (s7 : Int) => ((if (decide (s7 < (a.length : Int))) = true then (idx a s7).bind fun t18 => (idx b s7).bind fun t22 => (if (t18 != t22) = true then (some (.inr (.inr false))) else (some (.inl (IntKind.i64.wrap (s7 + (1:Int)))))) else (some (.inr (.inl ())))) : Option ((Int) ⊕ ((Unit) ⊕ (Bool))))) (0:Int)).bind fun (e8 : (Unit) ⊕ (Bool)) => (match e8 with | .inl _ => (some true) | .inr p26 => (some p26))) (fun r => r = decide (a = b)) := by
   refine Ok.bind (P := fun e : Unit ⊕ Bool => (match e with | .inl _ => true | .inr p => p) = decide (a = b)) (Ok.loop (fun m s => 0 ≤ s ∧ s + m = a.length ∧ a.take s.toNat = b.take s.toNat) a.length ⟨Int.le_refl _,by omega,by simp⟩ fun m s hs => ?_) fun e he => by cases e <;> exact Ok.mk he
   obtain ⟨h1,h2,h3⟩ := hs
   obtain ⟨k,rfl⟩ := Int.eq_ofNat_of_zero_le h1
   simp only [Int.toNat_natCast] at h3
   refine Ok.ite (fun hk => ?_) (fun hk => ?_)
   ·have hk' : k < a.length := by simpa using hk
    rw [Qak hk',Qak (by omega)]
    simp only [Option.bind_some]
    refine Ok.ite (fun hne => Ok.mk ?_) (fun heq => Ok.mk ⟨m - 1,by omega,?_⟩)
    ·show false = _
     rw [Eq.comm,decide_eq_false_iff_not]
     rintro rfl
     simp at hne
    ·have heq' : a[k] = b[k] := by simpa using heq
     rw [Qad hk' (by omega)]
     refine ⟨by omega,by omega,?_⟩
     rw [Int.toNat_natCast,List.take_succ_eq_append_getElem hk',List.take_succ_eq_append_getElem (by omega),h3,heq']
   ·have hk' : ¬ k < a.length := by simpa using hk
    refine Ok.mk ?_
    show true = _
    rw [List.take_of_length_le (by omega),List.take_of_length_le (by omega)] at h3
    simp [h3]
  obtain ⟨r,hr,rfl⟩ := this
  exact hr
 ·rw [if_pos (by simp; omega)]
  have : a ≠ b := fun h => hl (by rw [h])
  simp [this]

end Go.Proofs.YtcdccjagknlmpaaGreatDoor

namespace Go.Proofs.YtcdccjagknlmpaaGreatDoor
open Go.Sim

theorem QrY (l : List Int) {k : Nat} (h : k < l.length) : (l.take (k + 1)).sum = (l.take k).sum + l[k] := by
  rw [List.take_succ_eq_append_getElem h,List.sum_append]; simp
/-- Words and weights are right. -/
def QiR (ws : List Str) (gs : List Int) : Bool := (gs.all fun g => inW g 0 1048576) && (((inW (ws.length : Int) 1 12 && ((ws.length : Int) == (gs.length : Int))) && decide (gs.sum > 0)) && ws.all Q1)
theorem QrZ {ws : List Str} {gs : List Int} (hw : ws.length ≤ 1000000) (hg : gs.length ≤ 1000000) : Qcs ws gs = some (QiR ws gs) := by
  have key : Ok (Qcs ws gs) (fun r => r = QiR ws gs) := by
    unfold Qcs
    refine Ok.bind (P := fun e : Int ⊕ Bool => match e with | .inl s => (gs.all fun g => inW g 0 1048576) = true ∧ s = gs.sum | .inr p => p = false ∧ (gs.all fun g => inW g 0 1048576) = false)
      (Ok.loop (fun m s => 0 ≤ s.1 ∧ s.1 + m = gs.length ∧ ((gs.take s.1.toNat).all fun g => inW g 0 1048576) = true ∧ s.2 = (gs.take s.1.toNat).sum ∧ 0 ≤ s.2 ∧ s.2 ≤ s.1 * 1048576) gs.length ⟨Int.le_refl _,by dsimp only; omega,by simp,by simp,by simp,by simp⟩ fun m s hs => ?_) fun e he => ?_
    · obtain ⟨i,t⟩ := s
      obtain ⟨h1,h2,h3,h4,h5,h6⟩ := hs
      dsimp only at h1 h2 h3 h4 h5 h6
      obtain ⟨k,rfl⟩ := Int.eq_ofNat_of_zero_le h1
      simp only [Int.toNat_natCast] at h3 h4
      refine Ok.ite (fun hk => ?_) (fun hk => ?_)
      · have hk' : k < gs.length := by simpa using hk
        dsimp only
        rw [Qak hk']
        simp only [Option.bind_some]
        show Ok ((some (inW gs[k] 0 1048576)).bind _) _
        simp only [Option.bind_some]
        refine Ok.ite (fun hn => Ok.mk ⟨rfl,?_⟩) (fun hy => Ok.mk ⟨m - 1,by omega,?_⟩)
        · rw [List.all_eq_false]
          exact ⟨_,List.getElem_mem hk',by simpa using hn⟩
        · have hy' : inW gs[k] 0 1048576 = true := by simpa using hy
          have hb := Qcw hy'
          dsimp only
          rw [Qad hk' (by omega),w64 (n := t + gs[k]) (by omega) (by omega)]
          refine ⟨by omega,by omega,?_,?_,by omega,by omega⟩
          · rw [Int.toNat_natCast,List.take_succ_eq_append_getElem hk',List.all_append,h3]; simp [hy']
          · rw [Int.toNat_natCast,QrY gs hk',h4]
      · have hk' : ¬ k < gs.length := by simpa using hk
        rw [List.take_of_length_le (by omega)] at h3 h4
        exact Ok.mk ⟨h3,h4⟩
    · cases e with
      | inr p => obtain ⟨rfl,hp⟩ := he; refine Ok.mk ?_; unfold QiR; rw [hp]; rfl
      | inl s =>
        obtain ⟨hp,rfl⟩ := he
        dsimp only
        show Ok ((some (inW (ws.length : Int) 1 12)).bind _) _
        simp only [Option.bind_some]
        rw [Qon (p := Q1) hw (fun x _ => QfU x)]
        unfold QiR
        rw [hp,Bool.true_and]
        cases (inW (ws.length : Int) 1 12 && ((ws.length : Int) == (gs.length : Int))) && decide (gs.sum > 0) with
        | false => exact Ok.mk rfl
        | true => exact Ok.mk rfl
  obtain ⟨r,hr,rfl⟩ := key
  exact hr

/-- A field with what its kind uses alone. -/
def Qgj (f : Qb) : Qb :=
  if f.Kind = 0 then ⟨f.Name,[],[],f.Kind,f.Lo,0,[],[]⟩
  else if f.Kind = 1 ∨ f.Kind = 4 ∨ f.Kind = 5 then ⟨f.Name,f.Of,[],f.Kind,f.Lo,f.Hi,[],[]⟩
  else if f.Kind = 2 then ⟨f.Name,[],[],f.Kind,f.Lo,f.Hi,[],[]⟩
  else if f.Kind = 3 then ⟨f.Name,[],[],f.Kind,0,0,f.Words,f.Weights⟩
  else if f.Kind = 6 then ⟨f.Name,f.Of,[],f.Kind,0,0,[],[]⟩
  else if f.Kind = 7 then ⟨f.Name,f.Of,f.Up,f.Kind,f.Lo,f.Hi,[],[]⟩
  else if f.Kind = 8 then ⟨f.Name,f.Of,f.Up,f.Kind,0,0,[],[]⟩
  else ⟨f.Name,[],[],f.Kind,0,0,[],[]⟩
theorem QuM (f : Qb) : QdY f = some (Qgj f) := by
  obtain ⟨n,o,u,k,lo,hi,w,g⟩ := f
  unfold QdY Qgj
  by_cases h0 : k = 0
  · subst h0; rfl
  by_cases h1 : k = 1
  · subst h1; rfl
  by_cases h4 : k = 4
  · subst h4; rfl
  by_cases h5 : k = 5
  · subst h5; rfl
  by_cases h2 : k = 2
  · subst h2; rfl
  by_cases h3 : k = 3
  · subst h3; rfl
  by_cases h6 : k = 6
  · subst h6; rfl
  by_cases h7 : k = 7
  · subst h7; rfl
  by_cases h8 : k = 8
  · subst h8; rfl
  simp [h0,h1,h2,h3,h4,h5,h6,h7,h8]
/-- Two fields are equal. -/
def Qgk (a b : Qb) : Bool := (((((((a.Name == b.Name) && (a.Of == b.Of)) && (a.Up == b.Up)) && (a.Kind == b.Kind)) && (a.Lo == b.Lo)) && (a.Hi == b.Hi)) && decide (a.Words = b.Words)) && decide (a.Weights = b.Weights)
theorem Qpv {a b : Qb} (h1 : a.Words.length ≤ 1000000) (h2 : a.Weights.length ≤ 1000000) : QbZ a b = some (Qgk a b) := by
  unfold QbZ Qgk
  rw [Qs6 h1,eqInt h2]
  cases ((((((a.Name == b.Name) && (a.Of == b.Of)) && (a.Up == b.Up)) && (a.Kind == b.Kind)) && (a.Lo == b.Lo)) && (a.Hi == b.Hi)) with
  | false => rfl
  | true =>
    simp only [Sim.opt,Bool.true_and,beq_self_eq_true,if_true,Option.bind_some]
    cases decide (a.Words = b.Words) <;> rfl
def QfM (f : Qb) : Bool :=
  if f.Kind = 0 then inW f.Lo (-1048576) 1048576
  else if f.Kind = 1 then Q1 f.Of && QgG f.Lo f.Hi 0 65536
  else if f.Kind = 2 then QgG f.Lo f.Hi (-1048576) 1048576
  else if f.Kind = 3 then QiR f.Words f.Weights
  else if f.Kind = 4 then ((f.Of == []) || Q1 f.Of) && QgG f.Lo f.Hi (-1048576) 1048576
  else if f.Kind = 5 then Q1 f.Of && QgG f.Lo f.Hi 0 32
  else if f.Kind = 6 then Q1 f.Of
  else if f.Kind = 7 then (Q1 f.Of && Q1 f.Up) && QgG f.Lo f.Hi 0 1048576
  else if f.Kind = 8 then Q1 f.Of && Q1 f.Up
  else false
/-- A field is valid. -/
def Qbz (f : Qb) : Bool := (Q1 f.Name && Qgk f (Qgj f)) && QfM f
theorem QqS {f : Qb} (h1 : f.Words.length ≤ 1000000) (h2 : f.Weights.length ≤ 1000000) : QcD f = some (Qbz f) := by
  unfold QcD Qbz
  rw [QfU,QuM]
  simp only [Option.bind_some]
  cases Q1 f.Name with
  | false => rfl
  | true =>
    simp only [Sim.opt,Bool.not_true,beq_self_eq_true,if_true,Option.bind_some]
    rw [Qpv h1 h2]
    simp only [Option.bind_some]
    cases Qgk f (Qgj f) with
    | false => rfl
    | true =>
      simp only [QfU,QrZ h1 h2,Bool.true_and,Bool.not_true,Bool.or_self]
      rw [if_neg (by decide)]
      unfold QfM
      by_cases c0 : f.Kind = 0
      · rw [if_pos (by simp [c0]),if_pos c0]; rfl
      rw [if_neg (by simpa using c0),if_neg c0]
      by_cases c1 : f.Kind = 1
      · rw [if_pos (by simp [c1]),if_pos c1]; cases Q1 f.Of <;> rfl
      rw [if_neg (by simpa using c1),if_neg c1]
      by_cases c2 : f.Kind = 2
      · rw [if_pos (by simp [c2]),if_pos c2]; rfl
      rw [if_neg (by simpa using c2),if_neg c2]
      by_cases c3 : f.Kind = 3
      · rw [if_pos (by simp [c3]),if_pos c3]; rfl
      rw [if_neg (by simpa using c3),if_neg c3]
      by_cases c4 : f.Kind = 4
      · rw [if_pos (by simp [c4]),if_pos c4]; cases (f.Of == []) <;> cases Q1 f.Of <;> rfl
      rw [if_neg (by simpa using c4),if_neg c4]
      by_cases c5 : f.Kind = 5
      · rw [if_pos (by simp [c5]),if_pos c5]; cases Q1 f.Of <;> rfl
      rw [if_neg (by simpa using c5),if_neg c5]
      by_cases c6 : f.Kind = 6
      · rw [if_pos (by simp [c6]),if_pos c6]; rfl
      rw [if_neg (by simpa using c6),if_neg c6]
      by_cases c7 : f.Kind = 7
      · rw [if_pos (by simp [c7]),if_pos c7]; cases Q1 f.Of <;> cases Q1 f.Up <;> rfl
      rw [if_neg (by simpa using c7),if_neg c7]
      by_cases c8 : f.Kind = 8
      · rw [if_pos (by simp [c8]),if_pos c8]; cases Q1 f.Of <;> rfl
      rw [if_neg (by simpa using c8),if_neg c8]

/-- A kind, a life, a rule is valid. -/
def Qec (k : Qi) : Bool := ((Q1 k.Name && QgG k.Lo k.Hi 0 65536) && decide ((k.Fields.length : Int) ≤ 10)) && k.Fields.all Qbz
def Qoo (l : List Qb) : Prop := l.length ≤ 1000000 ∧ ∀ f ∈ l,f.Words.length ≤ 1000000 ∧ f.Weights.length ≤ 1000000
theorem Qr0 {k : Qi} (h : Qoo k.Fields) : QcT k = some (Qec k) := by
  unfold QcT Qec
  rw [QfU,Qs5 (p := Qbz) h.1 (fun f hf => QqS (h.2 f hf).1 (h.2 f hf).2)]
  simp only [Option.bind_some]
  cases Q1 k.Name with
  | false => rfl
  | true =>
    show (opt true (some (QgG k.Lo k.Hi 0 65536)) default).bind _ = _
    simp only [Sim.opt,Bool.true_and,if_true,Option.bind_some]
    cases QgG k.Lo k.Hi 0 65536 with
    | false => rfl
    | true =>
      cases hd : decide ((k.Fields.length : Int) ≤ 10) with
      | false => rfl
      | true => rfl
def QeM (n : Int) (m : QJ) : Bool := inW m.a0 0 (n - 1) && inW m.a1 0 (n - 1)
def Qgl (x : Qu) : Bool := (((Q1 x.Name && inW (x.States.length : Int) 1 12) && x.States.all Q1) && decide ((x.Moves.length : Int) ≤ 32)) && x.Moves.all (QeM (x.States.length : Int))
theorem Qr1 {x : Qu} (h1 : x.States.length ≤ 1000000) (h2 : x.Moves.length ≤ 1000000) : QcU x = some (Qgl x) := by
  have hm : ∀ m ∈ x.Moves,Qcn m (x.States.length : Int) = some (QeM (x.States.length : Int) m) := fun m _ => by
    unfold Qcn QeM
    rw [w64 (by omega) (by omega)]
    show (some (inW m.a0 0 ((x.States.length : Int) - 1))).bind _ = _
    simp only [Option.bind_some]
    cases inW m.a0 0 ((x.States.length : Int) - 1) <;> rfl
  unfold QcU Qgl
  rw [QfU,Qon (p := Q1) h1 (fun s _ => QfU s),QrX (p := QeM (x.States.length : Int)) h2 hm]
  simp only [Option.bind_some]
  cases Q1 x.Name with
  | false => rfl
  | true =>
    show (opt true (some (inW (x.States.length : Int) 1 12)) default).bind _ = _
    simp only [Sim.opt,Bool.true_and,if_true,Option.bind_some]
    cases inW (x.States.length : Int) 1 12 with
    | false => rfl
    | true =>
      simp only [Bool.true_and,beq_self_eq_true,if_true,Option.bind_some]
      cases x.States.all Q1 with
      | false => rfl
      | true => cases decide ((x.Moves.length : Int) ≤ 32) <;> rfl
def Qev (r : Qo) : Bool := ((((Q1 r.Name && Q1 r.Kind) && ((r.A == []) || Q1 r.A)) && ((r.B == []) || Q1 r.B)) && (r.A ++ r.B != [])) && inW r.N (-1048576) 1048576
theorem QfV {s : Str} (h : Q1 s = true) : s.length ≤ 12 := by
  unfold Q1 at h
  simp only [Bool.and_eq_true] at h
  have := (Qcw h.1).2
  omega
theorem Qr2 (r : Qo) : QcV r = some (Qev r) := by
  have len : ∀ s : Str,((s == []) || Q1 s) = true → s.length ≤ 12 := fun s h => by
    rcases Bool.or_eq_true _ _ |>.mp h with h | h
    · have : s = [] := by simpa using h
      subst this; simp
    · exact QfV h
  unfold QcV Qev
  simp only [QfU]
  simp only [Option.bind_some]
  cases Q1 r.Name with
  | false => rfl
  | true =>
    simp only [Sim.opt,Bool.true_and,beq_self_eq_true,if_true,Option.bind_some]
    cases Q1 r.Kind with
    | false => rfl
    | true =>
      simp only [Bool.true_and,beq_self_eq_true,Bool.true_and]
      have la := len r.A
      have lb := len r.B
      cases ha : (r.A == []) <;> cases hna : Q1 r.A <;> cases hb : (r.B == []) <;> cases hnb : Q1 r.B <;> first
        | rfl
        | (rw [ha,hna] at la; rw [hb,hnb] at lb
           have e : cat (r.A.length + r.B.length) = some () := if_pos (by have := la rfl; have := lb rfl; omega)
           simp only [e,Bool.false_or,Bool.or_false,Bool.true_or,Bool.or_true,Bool.and_true,Bool.true_and,Bool.and_self,beq_self_eq_true,if_true,Option.bind_some]
           cases (r.A ++ r.B != []) <;> rfl)

end Go.Proofs.YtcdccjagknlmpaaGreatDoor

namespace Go.Proofs.YtcdccjagknlmpaaGreatDoor
open Go.Sim

theorem Qhr : ∀ (k u : Nat),u < 10 ^ (k + 1) → (Lib.decDigits u).length ≤ k + 1
 | 0,u,h => by rw [Lib.decDigits,dif_pos (by simpa using h)]; simp
 | k + 1,u,h => by
  rw [Lib.decDigits]
  split
  ·simp
  ·have := Qhr k (u / 10) (by rw [Nat.pow_succ] at h; omega)
   rw [List.length_append,List.length_singleton]; omega
theorem Qpw {n : Int} (h : I64 n) : (Lib.itoa n).length ≤ 20 := by
 unfold I64 at h
 unfold Lib.itoa
 split
 ·have := Qhr 18 n.natAbs (by omega)
  rw [List.length_cons]; omega
 ·have := Qhr 18 n.toNat (by omega)
  omega
theorem QuN {n : Int} (h : I64 n) : QkC n = some (Lib.itoa n) := if_pos h

/-- The text of a value. -/
def Ql0 : AnyV → Str
 | .int n => Lib.itoa n
 | .str s => s
def VOk : AnyV → Prop
 | .int n => I64 n
 | .str s => s.length ≤ 100
theorem Qpx {v : AnyV} (h : VOk v) : (Ql0 v).length ≤ 100 := by
 cases v with
 | int n => have := Qpw h; show (Lib.itoa n).length ≤ 100; omega
 | str s => exact h
/-- A blank and a value, for each. -/
def toks (l : List AnyV) : Str := l.flatMap fun v => 32 :: Ql0 v
theorem QmF {l : List AnyV} (h : ∀ v ∈ l,VOk v) : (toks l).length ≤ l.length * 101 := by
 induction l with
 | nil => simp [toks]
 | cons v l ih =>
  have h1 := ih fun u hu => h u (List.mem_cons_of_mem _ hu)
  have h2 := Qpx (h v List.mem_cons_self)
  have e : toks (v :: l) = (32 :: Ql0 v) ++ toks l := rfl
  rw [e,List.length_append,List.length_cons,List.length_cons]
  omega
def QeN (w : Str) (l : List AnyV) : Str := w ++ toks l ++ [10]
theorem Qfg {a b : Str} (h : a.length + b.length ≤ 68719476736) : Q9 a b = some (a ++ b) := if_pos h
theorem Qi5 {w : Str} {l : List AnyV} (h1 : 1 ≤ w.length) (h2 : w.length ≤ 10) (hl : l.length ≤ 1000) (hv : ∀ v ∈ l,VOk v) : Qai w l = some (QeN w l) := by
 have key : Ok (Qai w l) (fun r => r = QeN w l) := by
  unfold Qai
  rw [Qfg (by simp; omega)]
  simp only [Option.bind_some,List.nil_append]
  refine Ok.bind (P := fun r => r = w ++ toks l) (Ok.loop (fun m s => 0 ≤ s.1 ∧ s.1 + m = l.length ∧ s.2 = w ++ toks (l.take s.1.toNat)) l.length ⟨Int.le_refl _,by dsimp only; omega,by simp [toks]⟩ fun m s hs => ?_) fun r hr => ?_
  ·obtain ⟨i,t⟩ := s
   obtain ⟨e1,e2,e3⟩ := hs
   dsimp only at e1 e2 e3
   obtain ⟨k,rfl⟩ := Int.eq_ofNat_of_zero_le e1
   rw [Int.toNat_natCast] at e3
   subst e3
   refine Ok.ite (fun hk => ?_) (fun hk => ?_)
   ·have hk' : k < l.length := by simpa using hk
    have hvk := hv _ (List.getElem_mem hk')
    have hlen := QmF (l := l.take k) fun v hm => hv v (List.mem_of_mem_take hm)
    have htl := Qpx hvk
    have hlk : (l.take k).length ≤ 1000 := by rw [List.length_take]; omega
    dsimp only
    rw [Qak hk']
    simp only [Option.bind_some]
    have eb : Qgy (w ++ toks (l.take k)) 32 = some (w ++ toks (l.take k) ++ [32]) := if_pos ⟨by decide,by decide,by rw [List.length_append]; omega⟩
    rw [eb]
    simp only [Option.bind_some]
    refine Ok.bind (P := fun p => p = w ++ toks (l.take k) ++ [32] ++ Ql0 l[k]) ?_ fun p hp => Ok.mk ⟨m - 1,by omega,?_⟩
    ·cases hk2 : l[k] with
     | int n =>
      rw [hk2] at hvk htl
      show Ok (if true = true then _ else _) _
      rw [if_pos rfl]
      show Ok ((QkC n).bind _) _
      rw [QuN hvk]
      simp only [Option.bind_some]
      have hi := Qpw hvk
      rw [Qfg (by simp only [List.length_append,List.length_singleton]; omega)]
      exact Ok.mk rfl
     | str s =>
      rw [hk2] at hvk htl
      show Ok (if false = true then _ else ((if true = true then (Q9 (w ++ toks (l.take k) ++ [32]) s).bind _ else _)).bind _) _
      rw [if_neg (by decide),if_pos rfl]
      have hs : s.length ≤ 100 := hvk
      rw [Qfg (by simp only [List.length_append,List.length_singleton]; omega)]
      exact Ok.mk rfl
    ·subst hp
     dsimp only
     rw [Qad hk' (by omega)]
     refine ⟨by omega,by omega,?_⟩
     rw [Int.toNat_natCast,List.take_succ_eq_append_getElem hk']
     simp only [toks,List.flatMap_append,List.flatMap_cons,List.flatMap_nil,List.append_nil,List.append_assoc,List.cons_append,List.nil_append]
   ·have hk' : ¬ k < l.length := by simpa using hk
    refine Ok.mk ?_
    dsimp only
    rw [List.take_of_length_le (by omega)]
  ·subst hr
   have hlen := QmF hv
   have eb : Qfb (w ++ toks l) = some (w ++ toks l) := if_neg fun h => by
    have := congrArg List.length h
    rw [List.length_append,List.length_nil] at this; omega
   rw [eb]
   simp only [Option.bind_some]
   exact Ok.cat (by rw [List.length_append,List.length_singleton]; omega) (Ok.mk rfl)
 obtain ⟨r,hr,rfl⟩ := key
 exact hr
theorem QfW {w : Str} {l : List AnyV} (h2 : w.length ≤ 10) (hv : ∀ v ∈ l,VOk v) : (QeN w l).length ≤ 11 + l.length * 101 := by
 have := QmF hv
 unfold QeN
 rw [List.length_append,List.length_append,List.length_singleton]; omega

/-- The token of a name that may be empty. -/
def Qdc (s : Str) : Str := if s = [] then [45] else s
theorem QmG (s : Str) : Qch s = some (Qdc s) := by
 unfold Qch QdN
 have key : ∀ body : Int → Option (Int ⊕ (Unit ⊕ Str)),(body 0 = if (s != []) = true then some (.inr (.inr s)) else some (.inl 1)) → body 1 = some (.inr (.inr [45])) →
   QK body 0 = some (.inr (Qdc s)) := fun body h0 h1 => by
  rw [Qc2,h0]
  unfold Qdc
  by_cases hs : s = []
  ·rw [if_neg (by simp [hs]),if_pos hs]
   show QK body 1 = _
   rw [Qc2,h1]
  ·rw [if_pos (by simpa using hs),if_neg hs]
 rw [key _ rfl rfl]; rfl

/-- What a line of a field says. -/
def Q4 (f : Qb) : List AnyV :=
 if f.Kind = 0 then [.str f.Name,.int f.Lo]
 else if f.Kind = 2 then [.str f.Name,.int f.Lo,.int f.Hi]
 else if f.Kind = 3 then [.str f.Name,.int (f.Words.length : Int)] ++ (f.Words.zip f.Weights).flatMap fun p => [.str p.1,.int p.2]
 else if f.Kind = 6 then [.str f.Name,.str f.Of]
 else if f.Kind = 7 then [.str f.Name,.str f.Up,.str f.Of,.int f.Lo,.int f.Hi]
 else if f.Kind = 8 then [.str f.Name,.str f.Up,.str f.Of]
 else [.str f.Name,.str (Qdc f.Of),.int f.Lo,.int f.Hi]
def QkK (f : Qb) : Str := Qja[f.Kind.toNat]?.getD []
/-- The line of a field. -/
def QdK (f : Qb) : Str := QeN (QkK f) (Q4 f)

end Go.Proofs.YtcdccjagknlmpaaGreatDoor

namespace Go.Proofs.YtcdccjagknlmpaaGreatDoor
open Go.Sim

theorem QeV {s : Str} (h : Q1 s = true) : VOk (.str s) := by have := QfV h; show s.length ≤ 100; omega
theorem Qkb {s : Str} (h : ((s == []) || Q1 s) = true) : VOk (.str (Qdc s)) := by
 unfold Qdc
 by_cases hs : s = []
 ·rw [if_pos hs]; show ([45] : Str).length ≤ 100; decide
 ·rw [if_neg hs]
  have : Q1 s = true := by simpa [hs] using h
  exact QeV this
theorem QbD {n : Int} (h : -100000000 ≤ n ∧ n ≤ 100000000) : VOk (.int n) := by show I64 n; unfold I64; omega
theorem Qr3 {l : List Str} {g : List Int} (h : l.length = g.length) (k : Nat) (hk : k < l.length) : (((l.zip g).take k).flatMap fun p => [AnyV.str p.1,AnyV.int p.2]) ++ [AnyV.str l[k],AnyV.int (g[k]'(by omega))] = ((l.zip g).take (k + 1)).flatMap fun p => [AnyV.str p.1,AnyV.int p.2] := by
 rw [List.take_succ_eq_append_getElem (by rw [List.length_zip]; omega),List.flatMap_append,List.getElem_zip]
 rfl
theorem QlB (l : List (Str × Int)) : (l.flatMap fun p => [AnyV.str p.1,AnyV.int p.2]).length = 2 * l.length := by
 induction l with
 | nil => rfl
 | cons a l ih => rw [List.flatMap_cons,List.length_append,ih]; simp; omega
/-- What a valid field is. -/
structure QnY (f : Qb) : Prop where
 kind : 0 ≤ f.Kind ∧ f.Kind ≤ 8
 items : ∀ v ∈ Q4 f,VOk v
 count : (Q4 f).length ≤ 30
 pick : f.Kind = 3 → f.Words.length = f.Weights.length ∧ f.Words.length ≤ 12
theorem QcJ {lo hi a b : Int} (h : QgG lo hi a b = true) : a ≤ lo ∧ lo ≤ hi ∧ hi ≤ b := by
 simp only [QgG,Bool.and_eq_true,decide_eq_true_eq] at h; omega
theorem QjD {f : Qb} (h : Qbz f = true) : QnY f := by
 unfold Qbz at h
 simp only [Bool.and_eq_true] at h
 obtain ⟨⟨hn,_⟩,hp⟩ := h
 have hnv := QeV hn
 unfold QfM at hp
 by_cases c0 : f.Kind = 0
 ·rw [if_pos c0] at hp
  have e : Q4 f = [.str f.Name,.int f.Lo] := by unfold Q4; rw [if_pos c0]
  refine ⟨by omega,?_,by rw [e]; simp,fun h => by omega⟩
  have := Qcw hp
  rw [e]; simp only [List.mem_cons,List.not_mem_nil,or_false,forall_eq_or_imp,forall_eq]
  exact ⟨hnv,QbD (by omega)⟩
 rw [if_neg c0] at hp
 by_cases c1 : f.Kind = 1
 ·rw [if_pos c1] at hp
  simp only [Bool.and_eq_true] at hp
  have e : Q4 f = [.str f.Name,.str (Qdc f.Of),.int f.Lo,.int f.Hi] := by unfold Q4; simp [c1]
  have := QcJ hp.2
  refine ⟨by omega,?_,by rw [e]; simp,fun h => by omega⟩
  rw [e]; simp only [List.mem_cons,List.not_mem_nil,or_false,forall_eq_or_imp,forall_eq]
  exact ⟨hnv,Qkb (by rw [hp.1]; simp),QbD (by omega),QbD (by omega)⟩
 rw [if_neg c1] at hp
 by_cases c2 : f.Kind = 2
 ·rw [if_pos c2] at hp
  have e : Q4 f = [.str f.Name,.int f.Lo,.int f.Hi] := by unfold Q4; simp [c2]
  have := QcJ hp
  refine ⟨by omega,?_,by rw [e]; simp,fun h => by omega⟩
  rw [e]; simp only [List.mem_cons,List.not_mem_nil,or_false,forall_eq_or_imp,forall_eq]
  exact ⟨hnv,QbD (by omega),QbD (by omega)⟩
 rw [if_neg c2] at hp
 by_cases c3 : f.Kind = 3
 ·rw [if_pos c3] at hp
  simp only [QiR,Bool.and_eq_true,List.all_eq_true,beq_iff_eq] at hp
  obtain ⟨hg,⟨⟨hw,hl⟩,_⟩,hws⟩ := hp
  have hw' := (Qcw hw).2
  have hl' : f.Words.length = f.Weights.length := by omega
  have e : Q4 f = [.str f.Name,.int (f.Words.length : Int)] ++ (f.Words.zip f.Weights).flatMap fun p => [.str p.1,.int p.2] := by unfold Q4; simp [c3]
  refine ⟨by omega,?_,?_,fun _ => ⟨hl',by omega⟩⟩
  ·rw [e]
   intro v hv
   rcases List.mem_append.1 hv with hv | hv
   ·simp only [List.mem_cons,List.not_mem_nil,or_false] at hv
    rcases hv with rfl | rfl
    ·exact hnv
    ·exact QbD (by omega)
   ·obtain ⟨p,hp,hv⟩ := List.mem_flatMap.1 hv
    obtain ⟨a,b⟩ := p
    have hz := List.of_mem_zip hp
    simp only [List.mem_cons,List.not_mem_nil,or_false] at hv
    rcases hv with rfl | rfl
    ·exact QeV (hws _ hz.1)
    ·have := Qcw (hg _ hz.2); exact QbD (by omega)
  ·rw [e,List.length_append,QlB,List.length_zip]
   simp only [List.length_cons,List.length_nil]
   omega
 rw [if_neg c3] at hp
 by_cases c4 : f.Kind = 4
 ·rw [if_pos c4] at hp
  simp only [Bool.and_eq_true] at hp
  have e : Q4 f = [.str f.Name,.str (Qdc f.Of),.int f.Lo,.int f.Hi] := by unfold Q4; simp [c4]
  have := QcJ hp.2
  refine ⟨by omega,?_,by rw [e]; simp,fun h => by omega⟩
  rw [e]; simp only [List.mem_cons,List.not_mem_nil,or_false,forall_eq_or_imp,forall_eq]
  exact ⟨hnv,Qkb hp.1,QbD (by omega),QbD (by omega)⟩
 rw [if_neg c4] at hp
 by_cases c5 : f.Kind = 5
 ·rw [if_pos c5] at hp
  simp only [Bool.and_eq_true] at hp
  have e : Q4 f = [.str f.Name,.str (Qdc f.Of),.int f.Lo,.int f.Hi] := by unfold Q4; simp [c5]
  have := QcJ hp.2
  refine ⟨by omega,?_,by rw [e]; simp,fun h => by omega⟩
  rw [e]; simp only [List.mem_cons,List.not_mem_nil,or_false,forall_eq_or_imp,forall_eq]
  exact ⟨hnv,Qkb (by rw [hp.1]; simp),QbD (by omega),QbD (by omega)⟩
 rw [if_neg c5] at hp
 by_cases c6 : f.Kind = 6
 ·rw [if_pos c6] at hp
  have e : Q4 f = [.str f.Name,.str f.Of] := by unfold Q4; simp [c6]
  refine ⟨by omega,?_,by rw [e]; simp,fun h => by omega⟩
  rw [e]; simp only [List.mem_cons,List.not_mem_nil,or_false,forall_eq_or_imp,forall_eq]
  exact ⟨hnv,QeV hp⟩
 rw [if_neg c6] at hp
 by_cases c7 : f.Kind = 7
 ·rw [if_pos c7] at hp
  simp only [Bool.and_eq_true] at hp
  have e : Q4 f = [.str f.Name,.str f.Up,.str f.Of,.int f.Lo,.int f.Hi] := by unfold Q4; simp [c7]
  have := QcJ hp.2
  refine ⟨by omega,?_,by rw [e]; simp,fun h => by omega⟩
  rw [e]; simp only [List.mem_cons,List.not_mem_nil,or_false,forall_eq_or_imp,forall_eq]
  exact ⟨hnv,QeV hp.1.2,QeV hp.1.1,QbD (by omega),QbD (by omega)⟩
 rw [if_neg c7] at hp
 by_cases c8 : f.Kind = 8
 ·rw [if_pos c8] at hp
  simp only [Bool.and_eq_true] at hp
  have e : Q4 f = [.str f.Name,.str f.Up,.str f.Of] := by unfold Q4; simp [c8]
  refine ⟨by omega,?_,by rw [e]; simp,fun h => by omega⟩
  rw [e]; simp only [List.mem_cons,List.not_mem_nil,or_false,forall_eq_or_imp,forall_eq]
  exact ⟨hnv,QeV hp.2,QeV hp.1⟩
 rw [if_neg c8] at hp
 cases hp
theorem QlC {f : Qb} (h : 0 ≤ f.Kind ∧ f.Kind ≤ 8) : idx Qja f.Kind = some (QkK f) ∧ 1 ≤ (QkK f).length ∧ (QkK f).length ≤ 10 := by
 obtain ⟨k,hk⟩ := Int.eq_ofNat_of_zero_le h.1
 have hk8 : k ≤ 8 := by omega
 unfold QkK
 rw [hk,QfB,Int.toNat_natCast]
 have : k = 0 ∨ k = 1 ∨ k = 2 ∨ k = 3 ∨ k = 4 ∨ k = 5 ∨ k = 6 ∨ k = 7 ∨ k = 8 := by omega
 rcases this with rfl | rfl | rfl | rfl | rfl | rfl | rfl | rfl | rfl <;> exact ⟨rfl,by decide,by decide⟩
theorem Qs7 {f : Qb} (h : QnY f) : Qdp f = some (QdK f) := by
 obtain ⟨e0,w1,w2⟩ := QlC h.kind
 have fin : Qai (QkK f) (Q4 f) = some (QdK f) := Qi5 w1 w2 (by have := h.count; omega) h.items
 unfold Qdp
 rw [e0]
 simp only [Option.bind_some]
 by_cases c0 : f.Kind = 0
 ·rw [if_pos (by simp [c0])]
  have e : Q4 f = [.str f.Name,.int f.Lo] := by unfold Q4; simp [c0]
  rw [← e,fin]; rfl
 rw [if_neg (by simpa using c0)]
 by_cases c2 : f.Kind = 2
 ·rw [if_pos (by simp [c2])]
  have e : Q4 f = [.str f.Name,.int f.Lo,.int f.Hi] := by unfold Q4; simp [c2]
  rw [← e,fin]; rfl
 rw [if_neg (by simpa using c2)]
 by_cases c3 : f.Kind = 3
 ·rw [if_pos (by simp [c3])]
  obtain ⟨p1,p2⟩ := h.pick c3
  have e : Q4 f = [.str f.Name,.int (f.Words.length : Int)] ++ (f.Words.zip f.Weights).flatMap fun p => [.str p.1,.int p.2] := by unfold Q4; simp [c3]
  refine Qfe f.Words.length (fun n => ((n : Int),[.str f.Name,.int (f.Words.length : Int)] ++ ((f.Words.zip f.Weights).take n).flatMap fun p => [.str p.1,.int p.2])) _ (by simp) (fun n hn => ?_) (if_neg (by simp)) ?_
  ·have hlen : (((f.Words.zip f.Weights).take n).flatMap fun p => [AnyV.str p.1,AnyV.int p.2]).length ≤ 100 := by
    rw [QlB,List.length_take,List.length_zip]; omega
   rw [if_pos (by simpa using hn)]
   dsimp only
   rw [Qak hn,Qak (by omega)]
   simp only [Option.bind_some]
   rw [QjC (by simp only [List.length_append,List.length_cons,List.length_nil]; omega),Qad hn (by omega),← Qr3 p1 n hn,List.append_assoc]
   rfl
  ·dsimp only
   rw [List.take_of_length_le (by rw [List.length_zip]; omega),← e,fin]; rfl
 rw [if_neg (by simpa using c3)]
 by_cases c6 : f.Kind = 6
 ·rw [if_pos (by simp [c6])]
  have e : Q4 f = [.str f.Name,.str f.Of] := by unfold Q4; simp [c6]
  rw [← e,fin]; rfl
 rw [if_neg (by simpa using c6)]
 by_cases c7 : f.Kind = 7
 ·rw [if_pos (by simp [c7])]
  have e : Q4 f = [.str f.Name,.str f.Up,.str f.Of,.int f.Lo,.int f.Hi] := by unfold Q4; simp [c7]
  rw [← e,fin]; rfl
 rw [if_neg (by simpa using c7)]
 by_cases c8 : f.Kind = 8
 ·rw [if_pos (by simp [c8])]
  have e : Q4 f = [.str f.Name,.str f.Up,.str f.Of] := by unfold Q4; simp [c8]
  rw [← e,fin]; rfl
 rw [if_neg (by simpa using c8),QmG]
 simp only [Option.bind_some]
 have e : Q4 f = [.str f.Name,.str (Qdc f.Of),.int f.Lo,.int f.Hi] := by unfold Q4; simp [c0,c2,c3,c6,c7,c8]
 rw [← e,fin]; rfl
theorem QiC {f : Qb} (h : QnY f) : (QdK f).length ≤ 4000 := by
 have := QfW (QlC h.kind).2.2 h.items
 have := h.count
 unfold QdK
 omega

end Go.Proofs.YtcdccjagknlmpaaGreatDoor

namespace Go.Proofs.YtcdccjagknlmpaaGreatDoor
open Go.Sim

/-- A loop that appends. -/
theorem Qjm {α : Type} (l : List α) (g : α → Str) (B : Nat) (hB : ∀ a ∈ l,(g a).length ≤ B) (a0 : Str) {body : Int × Str → Option ((Int × Str) ⊕ Str)}
  (hs : ∀ k (h : k < l.length) acc,acc.length ≤ a0.length + k * B → body ((k : Int),acc) = some (.inl (((k + 1 : Nat) : Int),acc ++ g l[k]))) (he : ∀ acc,body ((l.length : Int),acc) = some (.inr acc)) :
  QK body ((0 : Int),a0) = some (a0 ++ l.flatMap g) := by
 have hlen : ∀ n,n ≤ l.length → ((l.take n).flatMap g).length ≤ n * B := fun n => by
  induction n with
  | zero => intro _; simp
  | succ n ih =>
   intro hn
   rw [List.take_succ_eq_append_getElem (by omega),List.flatMap_append,List.length_append,Nat.succ_mul]
   have h1 := ih (by omega)
   have h2 := hB _ (List.getElem_mem (show n < l.length by omega))
   simp only [List.flatMap_cons,List.flatMap_nil,List.append_nil]
   omega
 have h := Qig (body := body) l.length (fun n => ((n : Int),a0 ++ (l.take n).flatMap g)) (a0 ++ l.flatMap g) (fun k hk => ?_) ?_
 ·simpa using h
 ·rw [hs k hk _ (by rw [List.length_append]; have := hlen k (by omega); omega),List.take_succ_eq_append_getElem hk,List.flatMap_append]
  simp
 ·rw [he]; simp

def QeW (k : Qi) : Str := QeN [107,105,110,100] [.str k.Name,.int k.Lo,.int k.Hi] ++ k.Fields.flatMap QdK
def Qg3 (m : QJ) : Str := QeN [109,111,118,101] [.int m.a0,.int m.a1]
def QfD (l : Qu) : Str := QeN [108,105,102,101] ([.str l.Name,.int (l.States.length : Int)] ++ l.States.map .str) ++ l.Moves.flatMap Qg3
def Qew (r : Qo) : List AnyV := [.str r.Name,.str r.Kind,.str (Qdc r.A),.str (Qdc r.B),.int r.N]
def Qg4 (r : Qo) : Str := QeN [114,117,108,101] (Qew r)
/-- The source. -/
def srcS (x : Qg) : Str := QeN [115,99,104,101,109,97] [.int x.Version] ++ x.Kinds.flatMap QeW ++ x.Lives.flatMap QfD ++ x.Rules.flatMap Qg4

theorem Qkc {k : Qi} (h : Qec k = true) : (∀ v ∈ [AnyV.str k.Name,.int k.Lo,.int k.Hi],VOk v) ∧ k.Fields.length ≤ 10 ∧ ∀ f ∈ k.Fields,Qbz f = true := by
 simp only [Qec,Bool.and_eq_true,List.all_eq_true,decide_eq_true_eq] at h
 obtain ⟨⟨⟨h1,h2⟩,h3⟩,h4⟩ := h
 have := QcJ h2
 refine ⟨?_,by omega,h4⟩
 simp only [List.mem_cons,List.not_mem_nil,or_false,forall_eq_or_imp,forall_eq]
 exact ⟨QeV h1,QbD (by omega),QbD (by omega)⟩
theorem Qfh {α : Type} {l : List α} {g : α → Str} {B : Nat} (h : ∀ a ∈ l,(g a).length ≤ B) : (l.flatMap g).length ≤ l.length * B := by
 induction l with
 | nil => simp
 | cons a l ih =>
  have h1 := ih fun b hb => h b (List.mem_cons_of_mem _ hb)
  have h2 := h a List.mem_cons_self
  rw [List.flatMap_cons,List.length_append,List.length_cons,Nat.succ_mul]; omega
theorem Qmk {k : Qi} (h : Qec k = true) : (QeW k).length ≤ 50000 := by
 obtain ⟨h1,h2,h3⟩ := Qkc h
 have e1 := QfW (w := [107,105,110,100]) (by decide) h1
 have e2 := Qfh (l := k.Fields) (g := QdK) (B := 4000) fun f hf => QiC (QjD (h3 f hf))
 unfold QeW
 rw [List.length_append]
 simp only [List.length_cons,List.length_nil] at e1
 omega
theorem move_v {n : Int} (hn : n ≤ 1000) {m : QJ} (h : QeM n m = true) : ∀ v ∈ [AnyV.int m.a0,.int m.a1],VOk v := by
 simp only [QeM,Bool.and_eq_true] at h
 have h1 := Qcw h.1
 have h2 := Qcw h.2
 simp only [List.mem_cons,List.not_mem_nil,or_false,forall_eq_or_imp,forall_eq]
 exact ⟨QbD (by omega),QbD (by omega)⟩
theorem Qr4 {l : Qu} (h : Qgl l = true) : (∀ v ∈ [AnyV.str l.Name,.int (l.States.length : Int)] ++ l.States.map .str,VOk v) ∧ l.States.length ≤ 12 ∧ l.Moves.length ≤ 32 ∧ ∀ m ∈ l.Moves,∀ v ∈ [AnyV.int m.a0,.int m.a1],VOk v := by
 simp only [Qgl,Bool.and_eq_true,List.all_eq_true,decide_eq_true_eq] at h
 obtain ⟨⟨⟨⟨h1,h2⟩,h3⟩,h4⟩,h5⟩ := h
 have hl := (Qcw h2).2
 refine ⟨fun v hv => ?_,by omega,by omega,fun m hm => move_v (by omega) (h5 m hm)⟩
 rcases List.mem_append.1 hv with hv | hv
 ·simp only [List.mem_cons,List.not_mem_nil,or_false] at hv
  rcases hv with rfl | rfl
  ·exact QeV h1
  ·exact QbD (by omega)
 ·obtain ⟨s,hs,rfl⟩ := List.mem_map.1 hv
  exact QeV (h3 s hs)
theorem QjP {m : QJ} (h : ∀ v ∈ [AnyV.int m.a0,.int m.a1],VOk v) : (Qg3 m).length ≤ 300 := by
 have := QfW (w := [109,111,118,101]) (by decide) h
 simp only [List.length_cons,List.length_nil] at this
 unfold Qg3; omega
theorem QjQ {l : Qu} (h : Qgl l = true) : (QfD l).length ≤ 20000 := by
 obtain ⟨h1,h2,h3,h4⟩ := Qr4 h
 have e1 := QfW (w := [108,105,102,101]) (by decide) h1
 have e2 := Qfh (l := l.Moves) (g := Qg3) (B := 300) fun m hm => QjP (h4 m hm)
 unfold QfD
 rw [List.length_append]
 simp only [List.length_append,List.length_cons,List.length_nil,List.length_map] at e1
 omega
theorem Qr5 {r : Qo} (h : Qev r = true) : ∀ v ∈ Qew r,VOk v := by
 simp only [Qev,Bool.and_eq_true] at h
 obtain ⟨⟨⟨⟨⟨h1,h2⟩,h3⟩,h4⟩,_⟩,h5⟩ := h
 have := Qcw h5
 unfold Qew
 simp only [List.mem_cons,List.not_mem_nil,or_false,forall_eq_or_imp,forall_eq]
 exact ⟨QeV h1,QeV h2,Qkb h3,Qkb h4,QbD (by omega)⟩
theorem Qml {r : Qo} (h : Qev r = true) : (Qg4 r).length ≤ 1000 := by
 have := QfW (w := [114,117,108,101]) (by decide) (Qr5 h)
 have e : (Qew r).length = 5 := rfl
 unfold Qg4; omega

/-- A schema is valid, apart from the length of its source. -/
def QfX (x : Qg) : Bool := ((((inW x.Version 0 1048576 && decide ((x.Kinds.length : Int) ≤ 6)) && decide ((x.Lives.length : Int) ≤ 6)) && decide ((x.Rules.length : Int) ≤ 16)) && x.Kinds.all Qec) && x.Lives.all Qgl && x.Rules.all Qev
structure Ql1 (x : Qg) : Prop where
 version : 0 ≤ x.Version ∧ x.Version ≤ 1048576
 kinds : x.Kinds.length ≤ 6
 lives : x.Lives.length ≤ 6
 rules : x.Rules.length ≤ 16
 kind : ∀ k ∈ x.Kinds,Qec k = true
 life : ∀ l ∈ x.Lives,Qgl l = true
 rule : ∀ r ∈ x.Rules,Qev r = true
theorem QlD {x : Qg} (h : QfX x = true) : Ql1 x := by
 simp only [QfX,Bool.and_eq_true,List.all_eq_true,decide_eq_true_eq] at h
 obtain ⟨⟨⟨⟨⟨⟨h1,h2⟩,h3⟩,h4⟩,h5⟩,h6⟩,h7⟩ := h
 exact ⟨Qcw h1,by omega,by omega,by omega,h5,h6,h7⟩

theorem Qr6 {x : Qg} (h : Ql1 x) : QcW x = some (srcS x) := by
 have hv := h.version
 have v0 : ∀ v ∈ [AnyV.int x.Version],VOk v := by simp only [List.mem_cons,List.not_mem_nil,or_false,forall_eq]; exact QbD (by omega)
 have l0 := QfW (w := [115,99,104,101,109,97]) (by decide) v0
 simp only [List.length_cons,List.length_nil] at l0
 have lk := Qfh (l := x.Kinds) (g := QeW) (B := 50000) fun k hk => Qmk (h.kind k hk)
 have ll := Qfh (l := x.Lives) (g := QfD) (B := 20000) fun k hk => QjQ (h.life k hk)
 have nk := h.kinds
 have nl := h.lives
 have nr := h.rules
 unfold QcW
 rw [Qi5 (by decide) (by decide) (by simp) v0]
 simp only [Option.bind_some]
 rw [Qfg (by rw [List.length_nil]; omega)]
 simp only [Option.bind_some,List.nil_append]
 rw [Qjm x.Kinds QeW 50000 (fun k hk => Qmk (h.kind k hk)) (QeN [115,99,104,101,109,97] [.int x.Version]) (fun k hk acc hacc => ?_) (fun acc => if_neg (by simp))]
 ·simp only [Option.bind_some]
  rw [Qjm x.Lives QfD 20000 (fun k hk => QjQ (h.life k hk)) (QeN [115,99,104,101,109,97] [.int x.Version] ++ x.Kinds.flatMap QeW) (fun k hk acc hacc => ?_) (fun acc => if_neg (by simp))]
  ·simp only [Option.bind_some]
   rw [Qjm x.Rules Qg4 1000 (fun k hk => Qml (h.rule k hk)) (QeN [115,99,104,101,109,97] [.int x.Version] ++ x.Kinds.flatMap QeW ++ x.Lives.flatMap QfD) (fun k hk acc hacc => ?_) (fun acc => if_neg (by simp))]
   ·simp only [Option.bind_some]
    have e : Qfb (srcS x) = some (srcS x) := if_neg fun h => by
     have := congrArg List.length h
     simp only [srcS,QeN,List.length_append,List.length_cons,List.length_nil] at this; omega
    show (Qfb (srcS x)).bind _ = _
    rw [e]; rfl
   ·have hr := h.rule _ (List.getElem_mem hk)
    have hrl := Qml hr
    rw [if_pos (by simpa using hk)]
    dsimp only
    rw [Qak hk]
    simp only [Option.bind_some]
    rw [QmG,QmG]
    simp only [Option.bind_some]
    show (Qai [114,117,108,101] (Qew x.Rules[k])).bind _ = _
    rw [Qi5 (by decide) (by decide) (by simp [Qew]) (Qr5 hr)]
    simp only [Option.bind_some]
    rw [List.length_append,List.length_append] at hacc
    rw [Qfg (by show acc.length + (Qg4 x.Rules[k]).length ≤ _; omega),Qad hk (by omega)]
    rfl
  ·have hl := h.life _ (List.getElem_mem hk)
   obtain ⟨w1,w2,w3,w4⟩ := Qr4 hl
   have hll := QjQ hl
   rw [if_pos (by simpa using hk)]
   dsimp only
   rw [Qak hk]
   simp only [Option.bind_some]
   have hst : ∀ n,n ≤ x.Lives[k].States.length → ([AnyV.str x.Lives[k].Name,.int (x.Lives[k].States.length : Int)] ++ (x.Lives[k].States.take n).map AnyV.str).length ≤ 100 := fun n hn => by
    simp only [List.length_append,List.length_cons,List.length_nil,List.length_map,List.length_take]; omega
   refine Qfe x.Lives[k].States.length (fun n => ((n : Int),[AnyV.str x.Lives[k].Name,.int (x.Lives[k].States.length : Int)] ++ (x.Lives[k].States.take n).map AnyV.str)) _ (by simp) (fun n hn => ?_) (if_neg (by simp)) ?_
   ·rw [if_pos (by simpa using hn)]
    dsimp only
    rw [Qak hn]
    simp only [Option.bind_some]
    rw [QjC (by have := hst n (by omega); rw [List.length_singleton]; omega),Qad hn (by omega),List.take_succ_eq_append_getElem hn,List.map_append,← List.append_assoc]
    rfl
   ·dsimp only
    rw [List.take_of_length_le (Nat.le_refl _),Qi5 (by decide) (by decide) (by have := hst _ (Nat.le_refl _); rw [List.take_of_length_le (Nat.le_refl _)] at this; omega) w1]
    simp only [Option.bind_some]
    have l1 := QfW (w := [108,105,102,101]) (by decide) w1
    simp only [List.length_append,List.length_cons,List.length_nil,List.length_map] at l1
    rw [List.length_append] at hacc
    rw [Qfg (by omega)]
    simp only [Option.bind_some]
    rw [Qjm x.Lives[k].Moves Qg3 300 (fun m hm => QjP (w4 m hm)) _ (fun q hq acc2 hacc2 => ?_) (fun acc => if_neg (by simp))]
    ·simp only [Option.bind_some]
     rw [Qad hk (by omega)]
     simp [QfD]
    ·have hm := w4 _ (List.getElem_mem hq)
     have hml := QjP hm
     rw [if_pos (by simpa using hq)]
     dsimp only
     rw [Qak hq]
     simp only [Option.bind_some]
     rw [Qi5 (by decide) (by decide) (by simp) hm]
     simp only [Option.bind_some]
     rw [List.length_append] at hacc2
     rw [Qfg (by show acc2.length + (Qg3 x.Lives[k].Moves[q]).length ≤ _; omega),Qad hq (by omega)]
     rfl
 ·have hk' := h.kind _ (List.getElem_mem hk)
  obtain ⟨w1,w2,w3⟩ := Qkc hk'
  have l1 := QfW (w := [107,105,110,100]) (by decide) w1
  simp only [List.length_cons,List.length_nil] at l1
  rw [if_pos (by simpa using hk)]
  dsimp only
  rw [Qak hk]
  simp only [Option.bind_some]
  rw [Qi5 (by decide) (by decide) (by simp) w1]
  simp only [Option.bind_some]
  rw [Qfg (by omega)]
  simp only [Option.bind_some]
  rw [Qjm x.Kinds[k].Fields QdK 4000 (fun f hf => QiC (QjD (w3 f hf))) _ (fun q hq acc2 hacc2 => ?_) (fun acc => if_neg (by simp))]
  ·simp only [Option.bind_some]
   rw [Qad hk (by omega)]
   simp [QeW]
  ·have hf := QjD (w3 _ (List.getElem_mem hq))
   have hfl := QiC hf
   rw [if_pos (by simpa using hq)]
   dsimp only
   rw [Qak hq]
   simp only [Option.bind_some]
   rw [Qs7 hf]
   simp only [Option.bind_some]
   rw [List.length_append] at hacc2
   rw [Qfg (by omega),Qad hq (by omega)]
   rfl

/-- What Valid returns. -/
def QgA (x : Qg) : Int := if QfX x = true then (if (srcS x).length > 8192 then 4 else 0) else 1
/-- A schema whose lists are not huge. -/
def Fine (x : Qg) : Prop := (x.Kinds.length ≤ 1000000 ∧ ∀ k ∈ x.Kinds,Qoo k.Fields) ∧ (x.Lives.length ≤ 1000000 ∧ ∀ l ∈ x.Lives,l.States.length ≤ 1000000 ∧ l.Moves.length ≤ 1000000) ∧ x.Rules.length ≤ 1000000
theorem Sz.fine {x : Qg} (h : Sz x) : Fine x := by
 obtain ⟨⟨a1,a2⟩,⟨b1,b2⟩,c,_⟩ := h
 refine ⟨⟨by omega,fun k hk => ⟨by have := (a2 k hk).1; omega,fun f hf => ?_⟩⟩,⟨by omega,fun l hl => ?_⟩,by omega⟩
 ·have := (a2 k hk).2.1 f hf
  exact ⟨by have := this.1; omega,by have := this.2.1; omega⟩
 ·have := b2 l hl
  exact ⟨by omega,by omega⟩
theorem Qs8 {x : Qg} (h : Fine x) : Qdq x = some (QgA x) := by
 obtain ⟨⟨a1,a2⟩,⟨b1,b2⟩,c⟩ := h
 unfold Qdq
 rw [QuJ (p := Qec) a1 (fun k hk => Qr0 (a2 k hk)),QuK (p := Qgl) b1 (fun l hl => Qr1 (b2 l hl).1 (b2 l hl).2),QuL (p := Qev) c (fun r _ => Qr2 r)]
 show (some (inW x.Version 0 1048576)).bind _ = _
 simp only [Option.bind_some]
 have n1 : ∀ (n : Nat) (m : Int),decide ((n : Int) > m) = !decide ((n : Int) ≤ m) := fun n m => by
  by_cases h : (n : Int) ≤ m
  ·rw [decide_eq_true h,decide_eq_false (by omega)]; rfl
  ·rw [decide_eq_false h,decide_eq_true (by omega)]; rfl
 rw [n1,n1,n1]
 unfold QgA
 cases hv : QfX x with
 | true =>
  have hs := Qr6 (QlD hv)
  simp only [QfX,Bool.and_eq_true] at hv
  obtain ⟨⟨⟨⟨⟨⟨h1,h2⟩,h3⟩,h4⟩,h5⟩,h6⟩,h7⟩ := hv
  simp only [h1,h2,h3,h4,h5,h6,h7,Sim.opt,Bool.not_true,Bool.or_self,beq_self_eq_true,if_true,Option.bind_some]
  rw [if_neg (by decide),hs]
  simp only [Option.bind_some]
  by_cases hl : (srcS x).length > 8192
  ·rw [if_pos (by simp; omega),if_pos hl]
  ·rw [if_neg (by simp; omega),if_neg hl]
 | false =>
  rw [if_neg (by decide)]
  unfold QfX at hv
  cases h1 : inW x.Version 0 1048576 <;> cases h2 : decide ((x.Kinds.length : Int) ≤ 6) <;> cases h3 : decide ((x.Lives.length : Int) ≤ 6) <;> cases h4 : decide ((x.Rules.length : Int) ≤ 16) <;>
   cases h5 : x.Kinds.all Qec <;> cases h6 : x.Lives.all Qgl <;> cases h7 : x.Rules.all Qev <;> first | rfl | (rw [h1,h2,h3,h4,h5,h6,h7] at hv; cases hv)

end Go.Proofs.YtcdccjagknlmpaaGreatDoor

namespace Go.Proofs.YtcdccjagknlmpaaGreatDoor
open Go.Sim

theorem Qr7 {n : Int} (h : -9999999 ≤ n ∧ n ≤ 9999999) : (Lib.itoa n).length ≤ 8 := by
 unfold Lib.itoa
 split
 ·have := Qhr 6 n.natAbs (by omega)
  rw [List.length_cons]; omega
 ·have := Qhr 6 n.toNat (by omega)
  omega
/-- A short value. -/
def VT : AnyV → Prop
 | .int n => -9999999 ≤ n ∧ n ≤ 9999999
 | .str s => s.length ≤ 12
theorem text_t {v : AnyV} (h : VT v) : (Ql0 v).length ≤ 12 := by
 cases v with
 | int n => have := Qr7 h; show (Lib.itoa n).length ≤ 12; omega
 | str s => exact h
theorem toks_t {l : List AnyV} (h : ∀ v ∈ l,VT v) : (toks l).length ≤ l.length * 13 := by
 induction l with
 | nil => simp [toks]
 | cons v l ih =>
  have h1 := ih fun u hu => h u (List.mem_cons_of_mem _ hu)
  have h2 := text_t (h v List.mem_cons_self)
  have e : toks (v :: l) = (32 :: Ql0 v) ++ toks l := rfl
  rw [e,List.length_append,List.length_cons,List.length_cons]
  omega
theorem Qkd {w : Str} {l : List AnyV} (h : ∀ v ∈ l,VT v) : (QeN w l).length ≤ w.length + 1 + l.length * 13 := by
 have := toks_t h
 unfold QeN
 rw [List.length_append,List.length_append,List.length_singleton]; omega
theorem QeX {s : Str} (h : Q1 s = true) : VT (.str s) := QfV h
theorem Qke {s : Str} (h : ((s == []) || Q1 s) = true) : VT (.str (Qdc s)) := by
 unfold Qdc
 by_cases hs : s = []
 ·rw [if_pos hs]; show ([45] : Str).length ≤ 12; decide
 ·rw [if_neg hs]
  have : Q1 s = true := by simpa [hs] using h
  exact QeX this
theorem QbE {n : Int} (h : -9999999 ≤ n ∧ n ≤ 9999999) : VT (.int n) := h
theorem Qs9 {f : Qb} (h : Qbz f = true) (hw3 : f.Words.length ≤ 3) : (∀ v ∈ Q4 f,VT v) ∧ (Q4 f).length ≤ 8 := by
 unfold Qbz at h
 simp only [Bool.and_eq_true] at h
 obtain ⟨⟨hn,_⟩,hp⟩ := h
 have hnv := QeX hn
 unfold QfM at hp
 by_cases c0 : f.Kind = 0
 ·rw [if_pos c0] at hp
  have e : Q4 f = [.str f.Name,.int f.Lo] := by unfold Q4; rw [if_pos c0]
  refine ⟨?_,by rw [e]; simp⟩
  have := Qcw hp
  rw [e]; simp only [List.mem_cons,List.not_mem_nil,or_false,forall_eq_or_imp,forall_eq]
  exact ⟨hnv,QbE (by omega)⟩
 rw [if_neg c0] at hp
 by_cases c1 : f.Kind = 1
 ·rw [if_pos c1] at hp
  simp only [Bool.and_eq_true] at hp
  have e : Q4 f = [.str f.Name,.str (Qdc f.Of),.int f.Lo,.int f.Hi] := by unfold Q4; simp [c1]
  have := QcJ hp.2
  refine ⟨?_,by rw [e]; simp⟩
  rw [e]; simp only [List.mem_cons,List.not_mem_nil,or_false,forall_eq_or_imp,forall_eq]
  exact ⟨hnv,Qke (by rw [hp.1]; simp),QbE (by omega),QbE (by omega)⟩
 rw [if_neg c1] at hp
 by_cases c2 : f.Kind = 2
 ·rw [if_pos c2] at hp
  have e : Q4 f = [.str f.Name,.int f.Lo,.int f.Hi] := by unfold Q4; simp [c2]
  have := QcJ hp
  refine ⟨?_,by rw [e]; simp⟩
  rw [e]; simp only [List.mem_cons,List.not_mem_nil,or_false,forall_eq_or_imp,forall_eq]
  exact ⟨hnv,QbE (by omega),QbE (by omega)⟩
 rw [if_neg c2] at hp
 by_cases c3 : f.Kind = 3
 ·rw [if_pos c3] at hp
  simp only [QiR,Bool.and_eq_true,List.all_eq_true,beq_iff_eq] at hp
  obtain ⟨hg,⟨⟨hw,hl⟩,_⟩,hws⟩ := hp
  have hw' := (Qcw hw).2
  have hl' : f.Words.length = f.Weights.length := by omega
  have e : Q4 f = [.str f.Name,.int (f.Words.length : Int)] ++ (f.Words.zip f.Weights).flatMap fun p => [.str p.1,.int p.2] := by unfold Q4; simp [c3]
  refine ⟨?_,?_⟩
  ·rw [e]
   intro v hv
   rcases List.mem_append.1 hv with hv | hv
   ·simp only [List.mem_cons,List.not_mem_nil,or_false] at hv
    rcases hv with rfl | rfl
    ·exact hnv
    ·exact QbE (by omega)
   ·obtain ⟨p,hp,hv⟩ := List.mem_flatMap.1 hv
    obtain ⟨a,b⟩ := p
    have hz := List.of_mem_zip hp
    simp only [List.mem_cons,List.not_mem_nil,or_false] at hv
    rcases hv with rfl | rfl
    ·exact QeX (hws _ hz.1)
    ·have := Qcw (hg _ hz.2); exact QbE (by omega)
  ·rw [e,List.length_append,QlB,List.length_zip]
   simp only [List.length_cons,List.length_nil]
   omega
 rw [if_neg c3] at hp
 by_cases c4 : f.Kind = 4
 ·rw [if_pos c4] at hp
  simp only [Bool.and_eq_true] at hp
  have e : Q4 f = [.str f.Name,.str (Qdc f.Of),.int f.Lo,.int f.Hi] := by unfold Q4; simp [c4]
  have := QcJ hp.2
  refine ⟨?_,by rw [e]; simp⟩
  rw [e]; simp only [List.mem_cons,List.not_mem_nil,or_false,forall_eq_or_imp,forall_eq]
  exact ⟨hnv,Qke hp.1,QbE (by omega),QbE (by omega)⟩
 rw [if_neg c4] at hp
 by_cases c5 : f.Kind = 5
 ·rw [if_pos c5] at hp
  simp only [Bool.and_eq_true] at hp
  have e : Q4 f = [.str f.Name,.str (Qdc f.Of),.int f.Lo,.int f.Hi] := by unfold Q4; simp [c5]
  have := QcJ hp.2
  refine ⟨?_,by rw [e]; simp⟩
  rw [e]; simp only [List.mem_cons,List.not_mem_nil,or_false,forall_eq_or_imp,forall_eq]
  exact ⟨hnv,Qke (by rw [hp.1]; simp),QbE (by omega),QbE (by omega)⟩
 rw [if_neg c5] at hp
 by_cases c6 : f.Kind = 6
 ·rw [if_pos c6] at hp
  have e : Q4 f = [.str f.Name,.str f.Of] := by unfold Q4; simp [c6]
  refine ⟨?_,by rw [e]; simp⟩
  rw [e]; simp only [List.mem_cons,List.not_mem_nil,or_false,forall_eq_or_imp,forall_eq]
  exact ⟨hnv,QeX hp⟩
 rw [if_neg c6] at hp
 by_cases c7 : f.Kind = 7
 ·rw [if_pos c7] at hp
  simp only [Bool.and_eq_true] at hp
  have e : Q4 f = [.str f.Name,.str f.Up,.str f.Of,.int f.Lo,.int f.Hi] := by unfold Q4; simp [c7]
  have := QcJ hp.2
  refine ⟨?_,by rw [e]; simp⟩
  rw [e]; simp only [List.mem_cons,List.not_mem_nil,or_false,forall_eq_or_imp,forall_eq]
  exact ⟨hnv,QeX hp.1.2,QeX hp.1.1,QbE (by omega),QbE (by omega)⟩
 rw [if_neg c7] at hp
 by_cases c8 : f.Kind = 8
 ·rw [if_pos c8] at hp
  simp only [Bool.and_eq_true] at hp
  have e : Q4 f = [.str f.Name,.str f.Up,.str f.Of] := by unfold Q4; simp [c8]
  refine ⟨?_,by rw [e]; simp⟩
  rw [e]; simp only [List.mem_cons,List.not_mem_nil,or_false,forall_eq_or_imp,forall_eq]
  exact ⟨hnv,QeX hp.2,QeX hp.1⟩
 rw [if_neg c8] at hp
 cases hp
theorem Qp0 {f : Qb} (h : Qbz f = true) (hw : f.Words.length ≤ 3) : (QdK f).length ≤ 115 := by
 obtain ⟨h1,h2⟩ := Qs9 h hw
 have := Qkd (w := QkK f) h1
 have := (QlC (QjD h).kind).2.2
 unfold QdK; omega
/-- A schema of at most three kinds. -/
structure Tiny (x : Qg) : Prop where
 kinds : x.Kinds.length ≤ 3
 words : ∀ k ∈ x.Kinds,∀ f ∈ k.Fields,f.Words.length ≤ 3
 lives : x.Lives.length ≤ 1
 life : ∀ l ∈ x.Lives,l.States.length ≤ 4 ∧ l.Moves.length ≤ 5
 rules : x.Rules.length ≤ 2
theorem kind_t {k : Qi} (h : Qec k = true) (hw : ∀ f ∈ k.Fields,f.Words.length ≤ 3) : (QeW k).length ≤ 1200 := by
 simp only [Qec,Bool.and_eq_true,List.all_eq_true,decide_eq_true_eq] at h
 obtain ⟨⟨⟨h1,h2⟩,h3⟩,h4⟩ := h
 have := QcJ h2
 have hv : ∀ v ∈ [AnyV.str k.Name,.int k.Lo,.int k.Hi],VT v := by
  simp only [List.mem_cons,List.not_mem_nil,or_false,forall_eq_or_imp,forall_eq]
  exact ⟨QeX h1,QbE (by omega),QbE (by omega)⟩
 have e1 := Qkd (w := [107,105,110,100]) hv
 have e2 := Qfh (l := k.Fields) (g := QdK) (B := 115) fun f hf => Qp0 (h4 f hf) (hw f hf)
 unfold QeW
 rw [List.length_append]
 simp only [List.length_cons,List.length_nil] at e1
 omega
theorem life_t {l : Qu} (h : Qgl l = true) (hs : l.States.length ≤ 4) (hm : l.Moves.length ≤ 5) : (QfD l).length ≤ 300 := by
 simp only [Qgl,Bool.and_eq_true,List.all_eq_true,decide_eq_true_eq] at h
 obtain ⟨⟨⟨⟨h1,h2⟩,h3⟩,h4⟩,h5⟩ := h
 have hl := (Qcw h2).2
 have hv : ∀ v ∈ [AnyV.str l.Name,.int (l.States.length : Int)] ++ l.States.map .str,VT v := fun v hv => by
  rcases List.mem_append.1 hv with hv | hv
  ·simp only [List.mem_cons,List.not_mem_nil,or_false] at hv
   rcases hv with rfl | rfl
   ·exact QeX h1
   ·exact QbE (by omega)
  ·obtain ⟨s,hs,rfl⟩ := List.mem_map.1 hv
   exact QeX (h3 s hs)
 have hmv : ∀ m ∈ l.Moves,(Qg3 m).length ≤ 31 := fun m hm => by
  have h6 := h5 m hm
  simp only [QeM,Bool.and_eq_true] at h6
  have a1 := Qcw h6.1
  have a2 := Qcw h6.2
  have := Qkd (w := [109,111,118,101]) (l := [AnyV.int m.a0,.int m.a1]) (by
   simp only [List.mem_cons,List.not_mem_nil,or_false,forall_eq_or_imp,forall_eq]
   exact ⟨QbE (by omega),QbE (by omega)⟩)
  simp only [List.length_cons,List.length_nil] at this
  unfold Qg3; omega
 have e1 := Qkd (w := [108,105,102,101]) hv
 have e2 := Qfh hmv
 unfold QfD
 rw [List.length_append]
 simp only [List.length_append,List.length_cons,List.length_nil,List.length_map] at e1
 omega
theorem rule_t {r : Qo} (h : Qev r = true) : (Qg4 r).length ≤ 70 := by
 simp only [Qev,Bool.and_eq_true] at h
 obtain ⟨⟨⟨⟨⟨h1,h2⟩,h3⟩,h4⟩,_⟩,h5⟩ := h
 have := Qcw h5
 have := Qkd (w := [114,117,108,101]) (l := Qew r) (by
  unfold Qew
  simp only [List.mem_cons,List.not_mem_nil,or_false,forall_eq_or_imp,forall_eq]
  exact ⟨QeX h1,QeX h2,Qke h3,Qke h4,QbE (by omega)⟩)
 have e : (Qew r).length = 5 := rfl
 simp only [List.length_cons,List.length_nil] at this
 unfold Qg4; omega
theorem QqT {x : Qg} (h : Tiny x) (hv : QfX x = true) : QgA x = 0 := by
 obtain ⟨t1,t2,t3,t4,t5⟩ := h
 have hok := QlD hv
 have e0 := Qkd (w := [115,99,104,101,109,97]) (l := [AnyV.int x.Version]) (by
  simp only [List.mem_cons,List.not_mem_nil,or_false,forall_eq]
  have := hok.version
  exact QbE (by omega))
 have e1 := Qfh (l := x.Kinds) (g := QeW) (B := 1200) fun k hk => kind_t (hok.kind k hk) (t2 k hk)
 have e2 := Qfh (l := x.Lives) (g := QfD) (B := 300) fun l hl => life_t (hok.life l hl) (t4 l hl).1 (t4 l hl).2
 have e3 := Qfh (l := x.Rules) (g := Qg4) (B := 70) fun r hr => rule_t (hok.rule r hr)
 simp only [List.length_cons,List.length_nil] at e0
 unfold QgA
 rw [if_pos hv,if_neg]
 unfold srcS
 simp only [List.length_append]
 omega

end Go.Proofs.YtcdccjagknlmpaaGreatDoor

namespace Go.Proofs.YtcdccjagknlmpaaGreatDoor
open Go.Sim

/-- A valid field of the generator. -/
def VF (f : Qb) : Prop := Qbz f = true ∧ f.Words.length ≤ 3 ∧ (-1000 ≤ f.Lo ∧ f.Lo ≤ 1000) ∧ (-1000 ≤ f.Hi ∧ f.Hi ≤ 1000)
/-- A valid kind of the generator. -/
def KV (n : Nat) (k : Qi) : Prop := k.Fields.length ≤ n ∧ (∀ f ∈ k.Fields,VF f) ∧ Q1 k.Name = true ∧ (0 ≤ k.Lo ∧ k.Lo ≤ k.Hi ∧ k.Hi ≤ 65536)
theorem KV.weak {a b : Nat} {k : Qi} (h : KV a k) (hab : a ≤ b) : KV b k := ⟨Nat.le_trans h.1 hab,h.2⟩
theorem Qi6 {lo hi a b : Int} (h : a ≤ lo ∧ lo ≤ hi ∧ hi ≤ b) : QgG lo hi a b = true := by
 unfold QgG; simp only [Bool.and_eq_true,decide_eq_true_eq]; omega
theorem Qhs {n a b : Int} (h : a ≤ n ∧ n ≤ b) : inW n a b = true := by
 unfold inW; simp only [Bool.and_eq_true,decide_eq_true_eq]; omega
section
variable {n o u : Str} {lo hi : Int}
theorem vf_key (hn : Q1 n = true) (h : -1000 ≤ lo ∧ lo ≤ 1000) : VF ⟨n,[],[],0,lo,0,[],[]⟩ := by
 refine ⟨?_,by simp,h,by simp⟩
 have := Qhs (n := lo) (a := -1048576) (b := 1048576) (by omega)
 simp [Qbz,Qgk,Qgj,QfM,hn,this]
theorem Qpy (hn : Q1 n = true) (ho : Q1 o = true) (h : 0 ≤ lo ∧ lo ≤ hi ∧ hi ≤ 1000) : VF ⟨n,o,[],1,lo,hi,[],[]⟩ := by
 refine ⟨?_,by simp,by dsimp only; omega,by dsimp only; omega⟩
 have := Qi6 (lo := lo) (hi := hi) (a := 0) (b := 65536) (by omega)
 simp [Qbz,Qgk,Qgj,QfM,hn,ho,this]
theorem Qpz (hn : Q1 n = true) (h : -1000 ≤ lo ∧ lo ≤ hi ∧ hi ≤ 1000) : VF ⟨n,[],[],2,lo,hi,[],[]⟩ := by
 refine ⟨?_,by simp,by dsimp only; omega,by dsimp only; omega⟩
 have := Qi6 (lo := lo) (hi := hi) (a := -1048576) (b := 1048576) (by omega)
 simp [Qbz,Qgk,Qgj,QfM,hn,this]
theorem QuO {w : List Str} {g : List Int} (hn : Q1 n = true) (h : QiR w g = true) (hw : w.length ≤ 3) : VF ⟨n,[],[],3,0,0,w,g⟩ := by
 refine ⟨?_,hw,by simp,by simp⟩
 simp [Qbz,Qgk,Qgj,QfM,hn,h]
theorem Qr8 (hn : Q1 n = true) (ho : ((o == []) || Q1 o) = true) (h : -1000 ≤ lo ∧ lo ≤ hi ∧ hi ≤ 1000) : VF ⟨n,o,[],4,lo,hi,[],[]⟩ := by
 refine ⟨?_,by simp,by dsimp only; omega,by dsimp only; omega⟩
 have := Qi6 (lo := lo) (hi := hi) (a := -1048576) (b := 1048576) (by omega)
 simp [Qbz,Qgk,Qgj,QfM,hn,this]
 simpa using ho
theorem QuP (hn : Q1 n = true) (ho : Q1 o = true) (h : 0 ≤ lo ∧ lo ≤ hi ∧ hi ≤ 32) : VF ⟨n,o,[],5,lo,hi,[],[]⟩ := by
 refine ⟨?_,by simp,by dsimp only; omega,by dsimp only; omega⟩
 have := Qi6 (lo := lo) (hi := hi) (a := 0) (b := 32) (by omega)
 simp [Qbz,Qgk,Qgj,QfM,hn,ho,this]
theorem vf_sum (hn : Q1 n = true) (ho : Q1 o = true) : VF ⟨n,o,[],6,0,0,[],[]⟩ := by
 refine ⟨?_,by simp,by simp,by simp⟩
 simp [Qbz,Qgk,Qgj,QfM,hn,ho]
theorem Qta (hn : Q1 n = true) (ho : Q1 o = true) (hu : Q1 u = true) (h : 0 ≤ lo ∧ lo ≤ hi ∧ hi ≤ 1000) : VF ⟨n,o,u,7,lo,hi,[],[]⟩ := by
 refine ⟨?_,by simp,by dsimp only; omega,by dsimp only; omega⟩
 have := Qi6 (lo := lo) (hi := hi) (a := 0) (b := 1048576) (by omega)
 simp [Qbz,Qgk,Qgj,QfM,hn,ho,hu,this]
theorem QuQ (hn : Q1 n = true) (ho : Q1 o = true) (hu : Q1 u = true) : VF ⟨n,o,u,8,0,0,[],[]⟩ := by
 refine ⟨?_,by simp,by simp,by simp⟩
 simp [Qbz,Qgk,Qgj,QfM,hn,ho,hu]
end
theorem VF.name {f : Qb} (h : VF f) : Q1 f.Name = true := by
 have := h.1
 unfold Qbz at this
 simp only [Bool.and_eq_true] at this
 exact this.1.1

theorem Qqq {m : Qv} (hm : MOk m) : Ok (QaJ m) (fun r => r.1.length ≤ 2 ∧ (∀ f ∈ r.1,VF f) ∧ MOk r.2) := by
 unfold QaJ
 refine Ok.take hm (by decide) fun r m1 _ _ h1 => ?_
 refine Ok.ite (fun _ => ?_) (fun _ => ?_)
 ·refine Ok.take h1 (by decide) fun r2 m2 a2 b2 h2 => Ok.take h2 (by decide) fun r3 m3 a3 b3 h3 => Ok.mk ⟨by simp,?_,h3⟩
  dsimp only
  rw [w64 (n := r2 - 5) (by omega) (by omega),w64 (n := r2 - 5 + r3) (by omega) (by omega)]
  intro f hf
  rw [List.mem_singleton] at hf; subst hf
  exact Qpz (by decide) (by omega)
 refine Ok.ite (fun _ => ?_) (fun _ => ?_)
 ·refine Ok.take h1 (by decide) fun r2 m2 h20 h21 h2 => ?_
  have hr2 : IntKind.i64.wrap (1 + r2) = 1 + r2 := w64 (by omega) (by omega)
  refine Ok.sub (by decide) (by dsimp only; rw [hr2]; omega) (by dsimp only; rw [hr2]; simp; omega) fun w hw hwm => ?_
  dsimp only at hw
  rw [hr2] at hw
  have hwl : 1 ≤ w.length ∧ w.length ≤ 3 := by omega
  have hws : w.all Q1 = true := by
   rw [List.all_eq_true]
   intro s hs
   have := hwm s hs
   simp only [List.mem_cons,List.not_mem_nil,or_false] at this
   rcases this with rfl | rfl | rfl <;> decide
  refine Ok.bind (P := fun r => (r.1.length = w.length ∧ ∀ g ∈ r.1,0 ≤ g ∧ g ≤ 10) ∧ MOk r.2) (Ok.loop (fun k s => 0 ≤ s.1 ∧ s.1 + k = w.length ∧ s.2.1.length = s.1 ∧ (∀ g ∈ s.2.1,0 ≤ g ∧ g ≤ 10) ∧ MOk s.2.2) w.length ⟨Int.le_refl _,by simp,by simp,by simp,h2⟩ fun k s hs => ?_) (fun p hp => ?_)
  ·obtain ⟨i,ws,m3⟩ := s
   obtain ⟨e1,e2,e3,e5,e4⟩ := hs
   dsimp only at e1 e2 e3 e4 e5
   refine Ok.ite (fun h => ?_) (fun h => ?_)
   ·have h' : i < w.length := of_decide_eq_true h
    refine Ok.take e4 (by decide) fun r4 m4 a4 b4 h4 => Ok.rm (by simp; omega) (Ok.mk ?_)
    dsimp only
    rw [w64 (by omega) (by omega)]
    refine ⟨k - 1,by omega,by omega,by omega,by simp; omega,fun g hg => ?_,h4⟩
    rcases List.mem_append.1 hg with hg | hg
    ·exact e5 g hg
    ·rw [List.mem_singleton] at hg; omega
   ·have h' : ¬ i < w.length := of_decide_eq_false h
    exact Ok.mk ⟨⟨by dsimp only; omega,e5⟩,e4⟩
  ·obtain ⟨⟨p1,p2⟩,p3⟩ := hp
   refine Ok.take p3 (by omega) fun r4 m4 h40 h41 h4 => Ok.take h4 (by decide) fun r5 m5 a5 b5 h5 => ?_
   refine Ok.setAt h40 (by dsimp only; omega) (Ok.mk ⟨by simp,?_,h5⟩)
   dsimp only
   rw [w64 (n := 1 + r5) (by omega) (by omega)]
   intro f hf
   rw [List.mem_singleton] at hf
   subst hf
   have hall : ∀ g ∈ p.1.set r4.toNat (1 + r5),0 ≤ g ∧ g ≤ 10 := fun g hg => by
    rcases List.mem_or_eq_of_mem_set hg with hg | hg
    ·exact p2 g hg
    ·omega
   have hmem : (1 + r5) ∈ p.1.set r4.toNat (1 + r5) := List.mem_set (by omega) _
   have hsum : ∀ l : List Int,(∀ g ∈ l,0 ≤ g ∧ g ≤ 10) → ∀ v ∈ l,v ≤ l.sum ∧ 0 ≤ l.sum := fun l => by
    induction l with
    | nil => intro _ v hv; cases hv
    | cons a l ih =>
     intro hl v hv
     have ha := hl a List.mem_cons_self
     have hs : 0 ≤ l.sum := by
      have : ∀ l : List Int,(∀ g ∈ l,0 ≤ g ∧ g ≤ 10) → 0 ≤ l.sum := fun l => by
       induction l with
       | nil => intro _; simp
       | cons b l ih2 => intro h; have h1 := h b List.mem_cons_self; have h2 := ih2 fun g hg => h g (List.mem_cons_of_mem _ hg); simp only [List.sum_cons]; omega
      exact this l fun g hg => hl g (List.mem_cons_of_mem _ hg)
     simp only [List.sum_cons]
     rcases List.mem_cons.1 hv with rfl | hv
     ·omega
     ·have := (ih (fun g hg => hl g (List.mem_cons_of_mem _ hg)) v hv).1; omega
   refine QuO (by decide) ?_ (by omega)
   unfold QiR
   simp only [Bool.and_eq_true,List.all_eq_true,beq_iff_eq,decide_eq_true_eq]
   refine ⟨fun g hg => Qhs (by have := hall g hg; omega),⟨⟨Qhs (by omega),by rw [List.length_set]; omega⟩,?_⟩,fun s hs => List.all_eq_true.1 hws s hs⟩
   have := (hsum _ hall _ hmem).1
   omega
 refine Ok.ite (fun _ => ?_) (fun _ => ?_)
 ·refine Ok.take h1 (by decide) fun r2 m2 a2 b2 h2 => Ok.take h2 (by decide) fun r3 m3 a3 b3 h3 => Ok.take h3 (by decide) fun r4 m4 a4 b4 h4 => Ok.take h4 (by decide) fun r5 m5 a5 b5 h5 => Ok.mk ⟨by simp,?_,h5⟩
  dsimp only
  rw [w64 (n := r2 - 200) (by omega) (by omega),w64 (n := r2 - 200 + r3) (by omega) (by omega),w64 (n := 3 + r5) (by omega) (by omega)]
  intro f hf
  simp only [List.mem_cons,List.not_mem_nil,or_false] at hf
  rcases hf with rfl | rfl
  ·exact Qr8 (by decide) (by decide) (by omega)
  ·exact Qr8 (by decide) (by decide) (by omega)
 refine Ok.ite (fun _ => ?_) (fun _ => ?_)
 ·refine Ok.take h1 (by decide) fun r2 m2 a2 b2 h2 => Ok.take h2 (by decide) fun r3 m3 a3 b3 h3 => Ok.mk ⟨by simp,?_,h3⟩
  dsimp only
  rw [w64 (n := r2 + r3) (by omega) (by omega)]
  intro f hf
  rw [List.mem_singleton] at hf; subst hf
  exact QuP (by decide) (by decide) (by omega)
 refine Ok.ite (fun _ => ?_) (fun _ => ?_)
 ·refine Ok.take h1 (by decide) fun r2 m2 a2 b2 h2 => Ok.take h2 (by decide) fun r3 m3 a3 b3 h3 => Ok.take h3 (by decide) fun r4 m4 a4 b4 h4 => Ok.take h4 (by decide) fun r5 m5 a5 b5 h5 => Ok.mk ⟨by simp,?_,h5⟩
  dsimp only
  rw [w64 (n := 5 + r3) (by omega) (by omega),w64 (n := 10 + r5) (by omega) (by omega)]
  intro f hf
  simp only [List.mem_cons,List.not_mem_nil,or_false] at hf
  rcases hf with rfl | rfl
  ·exact Qpz (by decide) (by omega)
  ·exact Qpz (by decide) (by omega)
 ·exact Ok.mk ⟨by simp,by simp,h1⟩

end Go.Proofs.YtcdccjagknlmpaaGreatDoor

namespace Go.Proofs.YtcdccjagknlmpaaGreatDoor
open Go.Sim

/-- What a check looks at of a field: its name, its kind, what it is of, and what it goes up by. -/
abbrev Sg := Str × Int × Str × Str
def sg (f : Qb) : Sg := (f.Name,f.Kind,f.Of,f.Up)
def sSize : Sg := ([115,105,122,101],2,[],[])
def sTag : Sg := ([116,97,103],3,[],[])
def QqU : Sg := ([98,111,114,110],4,[],[])
def sLeft : Sg := ([108,101,102,116],4,[98,111,114,110],[])
def Qr9 : Sg := ([115,116,97,116,101],5,[108,105,102,101],[])
def sLow : Sg := ([108,111,119],2,[],[])
def sHigh : Sg := ([104,105,103,104],2,[],[])
def Qbb : List (List Sg) := [[],[sSize],[sTag],[QqU,sLeft],[Qr9],[sLow,sHigh]]

theorem Ok.and {α : Type} {x : Option α} {P Q : α → Prop} (h : Ok x P) (k : Ok x Q) : Ok x (fun r => P r ∧ Q r) := by
 obtain ⟨r,e,p⟩ := h
 obtain ⟨s,f,q⟩ := k
 rw [e] at f
 cases f
 exact ⟨r,e,p,q⟩
theorem Qqr {m : Qv} (hm : MOk m) : Ok (QaJ m) (fun r => r.1.map sg ∈ Qbb ∧ MOk r.2) := by
 unfold QaJ
 refine Ok.take hm (by decide) fun r m1 _ _ h1 => ?_
 refine Ok.ite (fun _ => ?_) (fun _ => ?_)
 ·exact Ok.take h1 (by decide) fun r2 m2 a2 b2 h2 => Ok.take h2 (by decide) fun r3 m3 a3 b3 h3 => Ok.mk ⟨by simp [Qbb,sg,sSize],h3⟩
 refine Ok.ite (fun _ => ?_) (fun _ => ?_)
 ·refine Ok.take h1 (by decide) fun r2 m2 h20 h21 h2 => ?_
  have hr2 : IntKind.i64.wrap (1 + r2) = 1 + r2 := w64 (by omega) (by omega)
  refine Ok.sub (by decide) (by dsimp only; rw [hr2]; omega) (by dsimp only; rw [hr2]; simp; omega) fun w hw hwm => ?_
  dsimp only at hw
  rw [hr2] at hw
  have hwl : 1 ≤ w.length ∧ w.length ≤ 3 := by omega
  refine Ok.bind (P := fun r => r.1.length = w.length ∧ MOk r.2) (Ok.loop (fun k s => 0 ≤ s.1 ∧ s.1 + k = w.length ∧ s.2.1.length = s.1 ∧ MOk s.2.2) w.length ⟨Int.le_refl _,by simp,by simp,h2⟩ fun k s hs => ?_) (fun p hp => ?_)
  ·obtain ⟨i,ws,m3⟩ := s
   obtain ⟨e1,e2,e3,e4⟩ := hs
   dsimp only at e1 e2 e3 e4
   refine Ok.ite (fun h => ?_) (fun h => ?_)
   ·have h' : i < w.length := of_decide_eq_true h
    refine Ok.take e4 (by decide) fun r4 m4 a4 b4 h4 => Ok.rm (by simp; omega) (Ok.mk ?_)
    dsimp only
    rw [w64 (by omega) (by omega)]
    exact ⟨k - 1,by omega,by omega,by omega,by simp; omega,h4⟩
   ·have h' : ¬ i < w.length := of_decide_eq_false h
    exact Ok.mk ⟨by dsimp only; omega,e4⟩
  ·obtain ⟨p1,p3⟩ := hp
   refine Ok.take p3 (by omega) fun r4 m4 h40 h41 h4 => Ok.take h4 (by decide) fun r5 m5 a5 b5 h5 => ?_
   exact Ok.setAt h40 (by dsimp only; omega) (Ok.mk ⟨by simp [Qbb,sg,sTag],h5⟩)
 refine Ok.ite (fun _ => ?_) (fun _ => ?_)
 ·exact Ok.take h1 (by decide) fun r2 m2 a2 b2 h2 => Ok.take h2 (by decide) fun r3 m3 a3 b3 h3 => Ok.take h3 (by decide) fun r4 m4 a4 b4 h4 => Ok.take h4 (by decide) fun r5 m5 a5 b5 h5 => Ok.mk ⟨by simp [Qbb,sg,QqU,sLeft],h5⟩
 refine Ok.ite (fun _ => ?_) (fun _ => ?_)
 ·exact Ok.take h1 (by decide) fun r2 m2 a2 b2 h2 => Ok.take h2 (by decide) fun r3 m3 a3 b3 h3 => Ok.mk ⟨by simp [Qbb,sg,Qr9],h3⟩
 refine Ok.ite (fun _ => ?_) (fun _ => ?_)
 ·exact Ok.take h1 (by decide) fun r2 m2 a2 b2 h2 => Ok.take h2 (by decide) fun r3 m3 a3 b3 h3 => Ok.take h3 (by decide) fun r4 m4 a4 b4 h4 => Ok.take h4 (by decide) fun r5 m5 a5 b5 h5 => Ok.mk ⟨by simp [Qbb,sg,sLow,sHigh],h5⟩
 ·exact Ok.mk ⟨by simp [Qbb],h1⟩
theorem QoU {l : List Qb} {name : Str} (hl : l.length ≤ 1000) : Ok (Qc4 l name) (fun r => (-1 ≤ r ∧ r < l.length) ∧ (r < 0 → ∀ f ∈ l,f.Name ≠ name) ∧ (0 ≤ r → ∃ f ∈ l,f.Name = name)) := by
 unfold Qc4
 refine Ok.bind (P := fun e => match e with | .inl _ => ∀ f ∈ l,f.Name ≠ name | .inr r => (0 ≤ r ∧ r < l.length) ∧ ∃ f ∈ l,f.Name = name) (Ok.loop (fun k s => 0 ≤ s ∧ s + k = l.length ∧ ∀ f ∈ l.take s.toNat,f.Name ≠ name) l.length ⟨by omega,by omega,by simp⟩ fun k s hs => ?_) (fun e he => ?_)
 ·obtain ⟨h0,h1,h2⟩ := hs
  refine Ok.ite (fun h => ?_) (fun h => Ok.mk ?_)
  ·have h' : s < l.length := of_decide_eq_true h
   refine Ok.idx h0 h' fun v hm hv => Ok.ite (fun he => Ok.mk ⟨⟨h0,h'⟩,v,hm,by simpa using he⟩) (fun hne => Ok.mk ?_)
   rw [w64 (by omega) (by omega)]
   refine ⟨k - 1,by omega,by omega,by omega,?_⟩
   rw [show (s + 1).toNat = s.toNat + 1 by omega,List.take_add_one,hv]
   intro f hf
   rcases List.mem_append.1 hf with hf | hf
   ·exact h2 f hf
   ·simp only [Option.toList_some,List.mem_singleton] at hf
    subst hf
    simpa using hne
  ·have h' : ¬ s < l.length := of_decide_eq_false h
   show ∀ f ∈ l,f.Name ≠ name
   rw [List.take_of_length_le (by omega)] at h2
   exact h2
 ·rcases e with e | e
  ·exact Ok.mk ⟨⟨by omega,by omega⟩,fun _ => he,fun h => by omega⟩
  ·exact Ok.mk ⟨⟨by omega,he.1.2⟩,fun h => by omega,fun _ => he.2⟩
theorem Qtb {k : Qi} (hl : k.Fields.length ≤ 1000) : Ok (Qdo k) (fun r => (-1 ≤ r ∧ r < k.Fields.length) ∧ (0 ≤ r → ∃ f,k.Fields[r.toNat]? = some f ∧ f.Kind ≠ 0 ∧ f.Kind ≠ 1 ∧ f.Kind ≠ 6 ∧ f.Kind ≠ 7)) := by
 unfold Qdo
 refine Ok.bind (P := fun e => match e with | .inl _ => True | .inr r => (0 ≤ r ∧ r < k.Fields.length) ∧ ∃ f,k.Fields[r.toNat]? = some f ∧ f.Kind ≠ 0 ∧ f.Kind ≠ 1 ∧ f.Kind ≠ 6 ∧ f.Kind ≠ 7) (Ok.loop (fun n s => 0 ≤ s ∧ s + n = k.Fields.length) k.Fields.length ⟨by omega,by omega⟩ fun n s hs => ?_) (fun e he => ?_)
 ·refine Ok.ite (fun h => ?_) (fun h => Ok.mk trivial)
  have h' : s < k.Fields.length := of_decide_eq_true h
  refine Ok.idx hs.1 h' fun v _ hv => Ok.ite (fun hk => Ok.mk ⟨⟨hs.1,h'⟩,v,hv,?_⟩) (fun _ => Ok.mk ?_)
  ·simp only [Bool.and_eq_true,bne_iff_ne,ne_eq] at hk
   exact ⟨hk.1.1.1,hk.1.1.2,hk.1.2,hk.2⟩
  ·rw [w64 (by omega) (by omega)]
   exact ⟨n - 1,by omega,by omega,by omega⟩
 ·rcases e with e | e
  ·exact Ok.mk ⟨⟨by omega,by omega⟩,fun h => by omega⟩
  ·exact Ok.mk ⟨⟨by omega,he.1.2⟩,fun _ => he.2⟩

/-! What a new kind looks like, and what it does to the earlier ones. -/

abbrev Ks := Str × List Sg
def ks (k : Qi) : Ks := (k.Name,k.Fields.map sg)
def nOf : Str := [111,102]
def QgB : Str := [116,111,116,97,108]
def sId : Sg := ([105,100],0,[],[])
def sOf (n : Str) : Sg := (nOf,1,n,[])
def QiS (n : Str) : Sg := ([115,97,109,101],8,n,nOf)
def Qht : Sg := ([112,97,114,116],7,QgB,nOf)
def Qhu (n : Str) : Sg := (QgB,6,n,[])
def sBy (n : Str) : Sg := ([98,121],1,n,[])
/-- The first fields of a new kind of name nm behind the kinds T; T' is T behind it. -/
def PreS (T : List Ks) (nm : Str) (F : List Sg) (T' : List Ks) : Prop :=
 (T.length = 0 ∧ F = [sId] ∧ T' = T) ∨
 ∃ (to : Nat) (t : Ks) (cp pt : List Sg),T[to]? = some t ∧ F = sId :: sOf t.1 :: (cp ++ pt) ∧
  (cp = [] ∨ ∃ g ∈ t.2,(g.2.1 ≠ 0 ∧ g.2.1 ≠ 1 ∧ g.2.1 ≠ 6 ∧ g.2.1 ≠ 7) ∧ cp = [QiS g.1]) ∧
  ((pt = [] ∧ T' = T) ∨ ((∀ g ∈ t.2,g.1 ≠ QgB) ∧ pt = [Qht] ∧ T' = T.set to (t.1,t.2 ++ [Qhu nm])))
/-- All fields of a new kind. -/
def Qed (T : List Ks) (q : Ks) (T' : List Ks) : Prop :=
 ∃ (F by' p1 p2 : List Sg),PreS T q.1 F T' ∧ (by' = [] ∨ (1 < T.length ∧ ∃ t,T'[0]? = some t ∧ by' = [sBy t.1])) ∧ p1 ∈ Qbb ∧ (p2 = [] ∨ (p2 ∈ Qbb ∧ ∀ g,p2[0]? = some g → ∀ f ∈ F ++ by' ++ p1,f.1 ≠ g.1)) ∧ q.2 = F ++ by' ++ p1 ++ p2

end Go.Proofs.YtcdccjagknlmpaaGreatDoor

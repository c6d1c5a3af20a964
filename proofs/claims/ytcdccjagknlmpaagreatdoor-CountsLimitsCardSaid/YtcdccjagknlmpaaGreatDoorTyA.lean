/- The generators of schemas give a result. No condition. -/
import Derived.Test.YtcdccjagknlmpaaGreatDoorGenAll
import Derived.Test.YtcdccjagknlmpaaGreatDoorOk
namespace Go.Proofs.YtcdccjagknlmpaaGreatDoor
open Go.Sim

theorem Qpg {p n : Int} (hp : I64 p) : Ok (Qah p n) (fun r => 0 ≤ r ∧ (1 ≤ n → r < n) ∧ (n ≤ 0 → r = 0)) := by
 have hp' := hp
 unfold I64 at hp'
 have key : ∀ q : Int,0 ≤ q → Ok (if decide (n < 1) = true then some 0 else (nz n).bind fun _ => some (Int.tmod q n)) (fun r => 0 ≤ r ∧ (1 ≤ n → r < n) ∧ (n ≤ 0 → r = 0)) := fun q hq => by
  refine Ok.ite (fun h => ?_) (fun h => ?_)
  ·have : n < 1 := of_decide_eq_true h
   exact Ok.mk ⟨Int.le_refl _,fun h => by omega,fun _ => rfl⟩
  ·have : ¬ n < 1 := of_decide_eq_false h
   rw [nz_of (by omega)]
   exact Ok.mk ⟨Int.tmod_nonneg _ hq,fun _ => Int.tmod_lt_of_pos _ (by omega),fun h => by omega⟩
 unfold Qah
 refine Ok.bind (P := fun q => 0 ≤ q) (Ok.ite (fun h => ?_) (fun h => ?_)) (fun q hq => key q hq)
 ·have : p < 0 := of_decide_eq_true h
  refine Ok.mk ?_
  have e1 : IntKind.i64.wrap (p + 1) = p + 1 := w64 (by omega) (by omega)
  rw [e1,w64 (by omega) (by omega)]; omega
 ·have : ¬ p < 0 := of_decide_eq_false h
  exact Ok.mk (by omega)

section
variable {β : Type} {Q : β → Prop}
theorem Ok.around {p n : Int} {f : Int → Option β} (hp : I64 p) (hn : 1 ≤ n) (k : ∀ r,0 ≤ r → r < n → Ok (f r) Q) : Ok ((Qah p n).bind f) Q :=
 (Qpg hp).bind fun r h => k r h.1 (h.2.1 hn)
theorem Ok.around0 {p n : Int} {f : Int → Option β} (hp : I64 p) (k : ∀ r,0 ≤ r → (1 ≤ n → r < n) → Ok (f r) Q) : Ok ((Qah p n).bind f) Q :=
 (Qpg hp).bind fun r h => k r h.1 h.2.1

def MOk (m : QK) : Prop := ∀ x ∈ m.L,I64 x
theorem Qll {m : QK} {n : Int} (hm : MOk m) (hn : 1 ≤ n) : Ok (QH m n) (fun r => 0 ≤ r.1 ∧ r.1 < n ∧ MOk r.2) := by
 unfold QH QkH
 refine Ok.bind (P := fun r => 0 ≤ r ∧ r < n) (Ok.ite (fun h => Ok.mk ⟨Int.le_refl _,by omega⟩) (fun h => ?_)) (fun r hr => Ok.mk ⟨hr.1,hr.2,hm⟩)
 simp only [Bool.or_eq_false_iff,decide_eq_false_iff_not] at h
 refine Ok.idx (by omega) (by omega) fun v hv _ => ?_
 exact Ok.around (hm v hv) hn fun r h0 h1 => Ok.mk ⟨h0,h1⟩
theorem Ok.take {m : QK} {n : Int} {f : Int × QK → Option β} (hm : MOk m) (hn : 1 ≤ n) (k : ∀ r m',0 ≤ r → r < n → MOk m' → Ok (f (r,m')) Q) : Ok ((QH m n).bind f) Q :=
 (Qll hm hn).bind fun r h => k r.1 r.2 h.1 h.2.1 h.2.2
end

/-- A name of the generators: it is short and does not begin with a z. -/
def SN (s : Str) : Prop := s.length ≤ 20 ∧ s.head? ≠ some 122
/-- The names of a field. -/
def FN (f : Qc) : Prop := SN f.Name ∧ SN f.Of ∧ SN f.Up
/-- A field of the generators. -/
def FOk (f : Qc) : Prop := f.Words.length ≤ 6 ∧ f.Weights.length ≤ 6 ∧ FN f
/-- A kind of the generators, with at most n fields. -/
def KOk (n : Nat) (k : Qj) : Prop := k.Fields.length ≤ n ∧ (∀ f ∈ k.Fields,FOk f) ∧ SN k.Name

theorem Qoi {l : List Qc} {name : Str} (hl : l.length ≤ 1000) : Ok (Qe7 l name) (fun r => -1 ≤ r ∧ r < l.length) := by
 unfold Qe7
 refine Ok.bind (P := fun e => match e with | .inl _ => True | .inr r => 0 ≤ r ∧ r < l.length) (Ok.loop (fun k s => 0 ≤ s ∧ s + k = l.length) l.length ⟨by omega,by omega⟩ fun k s hs => ?_) (fun e he => ?_)
 ·refine Ok.ite (fun h => ?_) (fun h => Ok.mk trivial)
  have h' : s < l.length := of_decide_eq_true h
  refine Ok.idx hs.1 h' fun v _ _ => Ok.ite (fun _ => Ok.mk ⟨hs.1,h'⟩) (fun _ => Ok.mk ?_)
  rw [w64 (by omega) (by omega)]
  exact ⟨k - 1,by omega,by omega,by omega⟩
 ·rcases e with e | e
  ·exact Ok.mk ⟨by omega,by omega⟩
  ·exact Ok.mk ⟨by omega,he.2⟩
theorem Qr6 {k : Qj} (hl : k.Fields.length ≤ 1000) : Ok (Qgd k) (fun r => -1 ≤ r ∧ r < k.Fields.length) := by
 unfold Qgd
 refine Ok.bind (P := fun e => match e with | .inl _ => True | .inr r => 0 ≤ r ∧ r < k.Fields.length) (Ok.loop (fun n s => 0 ≤ s ∧ s + n = k.Fields.length) k.Fields.length ⟨by omega,by omega⟩ fun n s hs => ?_) (fun e he => ?_)
 ·refine Ok.ite (fun h => ?_) (fun h => Ok.mk trivial)
  have h' : s < k.Fields.length := of_decide_eq_true h
  refine Ok.idx hs.1 h' fun v _ _ => Ok.ite (fun _ => Ok.mk ⟨hs.1,h'⟩) (fun _ => Ok.mk ?_)
  rw [w64 (by omega) (by omega)]
  exact ⟨n - 1,by omega,by omega,by omega⟩
 ·rcases e with e | e
  ·exact Ok.mk ⟨by omega,by omega⟩
  ·exact Ok.mk ⟨by omega,he.2⟩

theorem Qqf {m : QK} (hm : MOk m) : Ok (QcO m) (fun r => r.1.length ≤ 2 ∧ (∀ f ∈ r.1,FOk f) ∧ MOk r.2) := by
 unfold QcO
 refine Ok.take hm (by decide) fun r m1 _ _ h1 => ?_
 refine Ok.ite (fun _ => ?_) (fun _ => ?_)
 ·refine Ok.take h1 (by decide) fun r2 m2 _ _ h2 => Ok.take h2 (by decide) fun r3 m3 _ _ h3 => Ok.mk ⟨by simp,by simp [FOk,FN,SN],h3⟩
 refine Ok.ite (fun _ => ?_) (fun _ => ?_)
 ·refine Ok.take h1 (by decide) fun r2 m2 h20 h21 h2 => ?_
  have hr2 : IntKind.i64.wrap (1 + r2) = 1 + r2 := w64 (by omega) (by omega)
  refine Ok.sub (by decide) (by dsimp only; rw [hr2]; omega) (by dsimp only; rw [hr2]; simp; omega) fun w hw _ => ?_
  dsimp only at hw
  rw [hr2] at hw
  have hwl : 1 ≤ w.length ∧ w.length ≤ 3 := by omega
  refine Ok.bind (P := fun r => r.1.length = w.length ∧ MOk r.2) (Ok.loop (fun k s => 0 ≤ s.1 ∧ s.1 + k = w.length ∧ s.2.1.length = s.1 ∧ MOk s.2.2) w.length ⟨Int.le_refl _,by simp,by simp,h2⟩ fun k s hs => ?_) (fun p hp => ?_)
  ·obtain ⟨i,ws,m3⟩ := s
   obtain ⟨e1,e2,e3,e4⟩ := hs
   dsimp only at e1 e2 e3 e4
   refine Ok.ite (fun h => ?_) (fun h => ?_)
   ·have h' : i < w.length := of_decide_eq_true h
    refine Ok.take e4 (by decide) fun r4 m4 _ _ h4 => Ok.rm (by simp; omega) (Ok.mk ?_)
    dsimp only
    rw [w64 (by omega) (by omega)]
    exact ⟨k - 1,by omega,by omega,by omega,by simp; omega,h4⟩
   ·have h' : ¬ i < w.length := of_decide_eq_false h
    exact Ok.mk ⟨by dsimp only; omega,e4⟩
  ·refine Ok.take hp.2 (by omega) fun r4 m4 h40 h41 h4 => Ok.take h4 (by decide) fun r5 m5 _ _ h5 => ?_
   refine Ok.setAt h40 (by dsimp only; omega) (Ok.mk ⟨by simp,?_,h5⟩)
   intro f hf
   rw [List.mem_singleton] at hf
   subst hf
   exact ⟨by dsimp only; omega,by simp only [List.length_set]; omega,by simp [FN,SN]⟩
 refine Ok.ite (fun _ => ?_) (fun _ => ?_)
 ·refine Ok.take h1 (by decide) fun r2 m2 _ _ h2 => Ok.take h2 (by decide) fun r3 m3 _ _ h3 => Ok.take h3 (by decide) fun r4 m4 _ _ h4 => Ok.take h4 (by decide) fun r5 m5 _ _ h5 => Ok.mk ⟨by simp,by simp [FOk,FN,SN],h5⟩
 refine Ok.ite (fun _ => ?_) (fun _ => ?_)
 ·refine Ok.take h1 (by decide) fun r2 m2 _ _ h2 => Ok.take h2 (by decide) fun r3 m3 _ _ h3 => Ok.mk ⟨by simp,by simp [FOk,FN,SN],h3⟩
 refine Ok.ite (fun _ => ?_) (fun _ => ?_)
 ·refine Ok.take h1 (by decide) fun r2 m2 _ _ h2 => Ok.take h2 (by decide) fun r3 m3 _ _ h3 => Ok.take h3 (by decide) fun r4 m4 _ _ h4 => Ok.take h4 (by decide) fun r5 m5 _ _ h5 => Ok.mk ⟨by simp,by simp [FOk,FN,SN],h5⟩
 ·exact Ok.mk ⟨by simp,by simp,h1⟩

end Go.Proofs.YtcdccjagknlmpaaGreatDoor

namespace Go.Proofs.YtcdccjagknlmpaaGreatDoor
open Go.Sim

/-- A kind of the generator: its name is not empty. -/
def GOk (n : Nat) (k : Qj) : Prop := KOk n k ∧ 1 ≤ k.Name.length ∧ k.Name.length ≤ 6
theorem GOk.weak {a b : Nat} {k : Qj} (h : GOk a k) (hab : a ≤ b) : GOk b k := ⟨⟨by have := h.1.1; omega,h.1.2⟩,h.2⟩
theorem fok {n o u : Str} {k lo hi : Int} (h1 : SN n) (h2 : SN o) (h3 : SN u) : FOk ⟨n,o,u,k,lo,hi,[],[]⟩ := ⟨by simp,by simp,h1,h2,h3⟩
theorem Qoj : SN [] := by simp [SN]
theorem QlN {c : Bool} {a b : QK} (h : c = true → MOk a) (k : MOk b) : MOk (bif c == true then a else b) := by
 cases c with
 | true => exact h rfl
 | false => exact k
set_option maxHeartbeats 1000000 in
theorem QuS {m : QK} {l : List Qj} {N : Nat} (hm : MOk m) (hl : l.length ≤ 2) (hN : N ≤ 20) (hk : ∀ k ∈ l,GOk N k) :
  Ok (QdZ m l) (fun r => GOk 9 r.1 ∧ MOk r.2.1 ∧ r.2.2.length = l.length ∧ ∀ k ∈ r.2.2,GOk (N + 1) k) := by
 unfold QdZ
 refine Ok.take hm (by decide) fun r1 m1 a1 b1 h1 => ?_
 refine Ok.idx a1 (by simpa using b1) fun lo _ _ => ?_
 refine Ok.idx (by omega) (by simp; omega) fun name hname _ => ?_
 have hn : 1 ≤ name.length ∧ name.length ≤ 6 := by
  simp only [List.mem_cons,List.not_mem_nil,or_false] at hname
  rcases hname with rfl | rfl | rfl <;> decide
 have hsn : SN name := by
  simp only [List.mem_cons,List.not_mem_nil,or_false] at hname
  rcases hname with rfl | rfl | rfl <;> simp [SN]
 refine Ok.take h1 (by decide) fun r2 m2 _ _ h2 => ?_
 refine Ok.take h2 (by decide) fun r3 m3 a3 b3 h3 => ?_
 refine Ok.idx a3 (by simpa using b3) fun id0 _ _ => ?_
 refine Ok.rm (by simp) ?_
 refine Ok.bind (P := fun p : QK × List Qc × List Qj => MOk p.1 ∧ p.2.1.length ≤ 4 ∧ (∀ f ∈ p.2.1,FOk f) ∧ p.2.2.length = l.length ∧ ∀ k ∈ p.2.2,GOk (N + 1) k)
  (Ok.ite (fun hpos => ?_) (fun _ => Ok.mk ⟨h3,by simp,by simp [FOk,FN,SN],rfl,fun k h => (hk k h).weak (by omega)⟩)) fun p hp => ?_
 ·have hpos' : (0:Int) < l.length := of_decide_eq_true hpos
  refine Ok.take h3 (by omega) fun to m4 a4 b4 h4 => ?_
  refine Ok.idx a4 b4 fun kt hkt ekt => ?_
  refine Ok.take h4 (by decide) fun r5 m5 a5 b5 h5 => ?_
  refine Ok.idx a5 (by simpa using b5) fun hi _ _ => ?_
  refine Ok.take h5 (by decide) fun r6 m6 _ _ h6 => ?_
  have skt := (hk kt hkt).1.2.2
  refine Ok.bind (P := FOk) (Ok.ite (fun _ => Ok.mk (fok (by simp [SN]) skt Qoj)) (fun _ => Ok.mk (fok (by simp [SN]) skt Qoj))) fun f hf => ?_
  refine Ok.rm (by simp) ?_
  refine Ok.idx a4 b4 fun kt1 hkt1 _ => ?_
  refine (Qr6 (by have := (hk _ hkt1).1.1; omega)).bind fun c hc => ?_
  refine Ok.opt (P := fun r : Int × QK => MOk r.2) (fun h => (Qll h6 (by decide)).weak fun r h => h.2.2) fun r7 h7 => ?_
  have m7 : MOk (bif (decide (c ≥ (0:Int))) == true then r7.2 else m6) := QlN (fun h => h7 (by rw [h]; rfl)) h6
  refine Ok.bind (P := fun p : List Qc => p.length ≤ 3 ∧ ∀ f ∈ p,FOk f) (Ok.ite (fun h => ?_) (fun _ => Ok.mk ⟨by simp,?_⟩)) fun fs hfs => ?_
  ·simp only [Bool.and_eq_true,decide_eq_true_eq] at h
   refine Ok.idx a4 b4 fun kt2 hkt2 ekt2 => ?_
   have e : kt2 = kt1 := by simp_all
   subst e
   refine Ok.idx h.1 hc.2 fun g hg _ => Ok.rm (by simp) (Ok.mk ⟨by simp,?_⟩)
   have sg := ((hk _ hkt1).1.2.1 g hg).2.2.1
   intro x hx
   simp only [List.nil_append,List.cons_append,List.mem_cons,List.not_mem_nil,or_false] at hx
   rcases hx with rfl | rfl | rfl
   ·simp [FOk,FN,SN]
   ·exact hf
   ·exact fok (by simp [SN]) sg (by simp [SN])
  ·intro x hx
   simp only [List.nil_append,List.cons_append,List.mem_cons,List.not_mem_nil,or_false] at hx
   rcases hx with rfl | rfl
   ·simp [FOk,FN,SN]
   ·exact hf
  ·refine Ok.idx a4 b4 fun kt3 hkt3 ekt3 => ?_
   refine (Qoi (by have := (hk _ hkt3).1.1; omega)).bind fun tot htot => ?_
   refine Ok.opt (P := fun r : Int × QK => MOk r.2) (fun h => (Qll m7 (by decide)).weak fun r h => h.2.2) fun r8 h8 => ?_
   have m8 : MOk (bif (decide (tot < (0:Int))) == true then r8.2 else (bif (decide (c ≥ (0:Int))) == true then r7.2 else m6)) := QlN (fun h => h8 (by rw [h]; rfl)) m7
   refine Ok.bind (P := fun p : QK × List Qc × List Qj => MOk p.1 ∧ p.2.1.length ≤ 4 ∧ (∀ f ∈ p.2.1,FOk f) ∧ p.2.2.length = l.length ∧ ∀ k ∈ p.2.2,GOk (N + 1) k)
    (Ok.ite (fun h => ?_) (fun _ => Ok.mk ⟨m8,by have := hfs.1; dsimp only; omega,hfs.2,rfl,fun k h => (hk k h).weak (by omega)⟩)) fun p hp => Ok.mk hp
   refine Ok.take m8 (by decide) fun r9 m9 _ _ h9 => Ok.take h9 (by decide) fun r10 m10 _ _ h10 => ?_
   refine Ok.rm (by have := hfs.1; simp; omega) ?_
   refine Ok.idx a4 b4 fun kt4 hkt4 ekt4 => ?_
   have hk4 := hk _ hkt4
   have hk41 := hk4.1.1
   refine Ok.rm (by simp; omega) (Ok.rm (by simp; omega) ?_)
   refine Ok.idx a4 b4 fun kt5 hkt5 ekt5 => ?_
   have e : kt5 = kt4 := by simp_all
   subst e
   refine Ok.setAt a4 b4 (Ok.mk ⟨h10,?_,?_,?_,?_⟩)
   ·have := hfs.1; simp; omega
   ·intro x hx
    rcases List.mem_append.1 hx with hx | hx
    ·exact hfs.2 x hx
    ·rw [List.mem_singleton] at hx; subst hx; simp [FOk,FN,SN]
   ·simp
   ·intro k hkm
    rcases List.mem_or_eq_of_mem_set hkm with hkm | rfl
    ·exact (hk k hkm).weak (by omega)
    ·refine ⟨⟨?_,?_,hk4.1.2.2⟩,hk4.2⟩
     ·simp; omega
     ·intro x hx
      rcases List.mem_append.1 hx with hx | hx
      ·exact hk4.1.2.1 x (by simpa using hx)
      ·rw [List.mem_singleton] at hx; subst hx; exact fok (by simp [SN]) hsn Qoj
 ·obtain ⟨q1,q2,q3,q4,q5⟩ := hp
  refine Ok.opt (P := fun r : Int × QK => MOk r.2) (fun h => (Qll q1 (by decide)).weak fun r h => h.2.2) fun r11 h11 => ?_
  have m11 : MOk (bif (decide ((l.length : Int) > (1:Int))) == true then r11.2 else p.1) := QlN (fun h => h11 (by rw [h]; rfl)) q1
  refine Ok.bind (P := fun p : List Qc => p.length ≤ 5 ∧ ∀ f ∈ p,FOk f) (Ok.ite (fun h => ?_) (fun _ => Ok.mk ⟨by omega,q3⟩)) fun fs hfs => ?_
  ·simp only [Bool.and_eq_true,decide_eq_true_eq] at h
   refine Ok.idx (by decide) (by omega) fun k0 hk0 _ => Ok.rm (by simp; omega) (Ok.mk ⟨by simp; omega,?_⟩)
   intro x hx
   rcases List.mem_append.1 hx with hx | hx
   ·exact q3 x hx
   ·rw [List.mem_singleton] at hx; subst hx; exact fok (by simp [SN]) (q5 k0 hk0).1.2.2 Qoj
  ·refine (Qqf m11).bind fun r12 h12 => ?_
   obtain ⟨c1,c2,c3⟩ := h12
   obtain ⟨f1,f2⟩ := hfs
   refine Ok.rm (by omega) ?_
   refine Ok.take c3 (by decide) fun r13 m13 _ _ h13 => ?_
   have all7 : ∀ f ∈ fs ++ r12.1,FOk f := fun x hx => (List.mem_append.1 hx).elim (f2 x) (c2 x)
   have len7 : (fs ++ r12.1).length ≤ 7 := by simp; omega
   refine Ok.bind (P := fun p : QK × List Qc => MOk p.1 ∧ p.2.length ≤ 9 ∧ ∀ f ∈ p.2,FOk f) (Ok.ite (fun h => ?_) (fun _ => Ok.mk ⟨h13,by dsimp only; omega,all7⟩)) fun p52 hp52 => Ok.mk ⟨⟨⟨hp52.2.1,hp52.2.2,hsn⟩,hn⟩,hp52.1,q4,q5⟩
   refine (Qqf h13).bind fun r14 h14 => ?_
   obtain ⟨d1,d2,d3⟩ := h14
   refine Ok.opt (P := fun _ => True) (fun h => ?_) fun g _ => ?_
   ·have h' : (r14.1.length : Int) > 0 := by simpa using h
    exact (Ok.idx (by decide) (by omega) fun v _ _ => Ok.mk trivial : Ok ((idx r14.1 0).bind some) _).weak (fun _ h => h) |> fun h => by simpa using h
   refine Ok.opt (P := fun _ => True) (fun h => (Qoi (by omega)).weak fun _ _ => trivial) fun g2 _ => ?_
   refine Ok.bind (P := fun p : List Qc => p.length ≤ 9 ∧ ∀ f ∈ p,FOk f) (Ok.ite (fun h => Ok.rm (by omega) (Ok.mk ⟨by rw [List.length_append]; omega,fun x hx => (List.mem_append.1 hx).elim (all7 x) (d2 x)⟩)) (fun _ => Ok.mk ⟨by omega,all7⟩)) fun p64 hp64 => Ok.mk ⟨d3,hp64.1,hp64.2⟩

end Go.Proofs.YtcdccjagknlmpaaGreatDoor

namespace Go.Proofs.YtcdccjagknlmpaaGreatDoor
open Go.Sim

/-- The names of a rule. -/
def RN (r : Qn) : Prop := SN r.Name ∧ SN r.Kind ∧ SN r.A ∧ SN r.B
theorem Qqg {a r : Str} (h1 : 1 ≤ a.length) (h2 : a.length ≤ 10) (h : a.head? ≠ some 122) (hr : r.length = 1) : SN (a ++ r) := by
 refine ⟨by rw [List.length_append]; omega,?_⟩
 cases a with
 | nil => simp at h1
 | cons c a => simpa using h
theorem QuT {m : QK} {k : Qj} (hm : MOk m) (hk : GOk 12 k) : Ok (Qd0 m k) (fun r => RN r.1 ∧ MOk r.2.2) := by
 unfold Qd0
 obtain ⟨⟨k1,k2,ks⟩,k3,k4⟩ := hk
 refine (Qoi (by omega)).bind fun a ha => (Qoi (by omega)).bind fun b hb => ?_
 refine Ok.opt (P := fun r : Int × QK => MOk r.2) (fun h => (Qll hm (by decide)).weak fun r h => h.2.2) fun r1 h1 => ?_
 have m1 : MOk (bif (decide (a ≥ (0:Int))) == true then r1.2 else m) := QlN (fun h => h1 (by rw [h]; rfl)) hm
 have nm : ∀ {β : Type} {Q : β → Prop} {f : Str → Option β},(∀ r : Str,r.length = 1 → Ok (f r) Q) → Ok ((sub k.Name 0 1).bind f) Q := fun h => Ok.sub (by decide) (by decide) (by omega) fun r hr _ => h r (by simpa using hr)
 refine Ok.ite (fun _ => nm fun r hr => Ok.cat (by simp; omega) (Ok.take m1 (by decide) fun _ m2 _ _ h2 => Ok.mk ⟨⟨Qqg (by simp) (by simp) (by simp) hr,ks,by simp [SN],by simp [SN]⟩,h2⟩)) (fun _ => ?_)
 refine Ok.ite (fun _ => Ok.mk ⟨by simp [RN,SN],m1⟩) (fun h => ?_)
 have hb0 : ¬ b < 0 := of_decide_eq_false h
 refine Ok.idx (by omega) hb.2 fun f _ _ => Ok.take m1 (by decide) fun r2 m2 _ _ h2 => ?_
 refine Ok.ite (fun _ => nm fun r hr => Ok.cat (by simp; omega) (Ok.take h2 (by decide) fun _ m2 _ _ h2 => Ok.mk ⟨⟨Qqg (by simp) (by simp) (by simp) hr,ks,by simp [SN],by simp [SN]⟩,h2⟩)) (fun _ => nm fun r hr => Ok.cat (by simp; omega) (Ok.take h2 (by decide) fun _ m2 _ _ h2 => Ok.mk ⟨⟨Qqg (by simp) (by simp) (by simp) hr,ks,by simp [SN],by simp [SN]⟩,h2⟩))

/-- A schema of the generators. -/
def SOk (n : Nat) (x : Qh) : Prop := x.Kinds.length ≤ 3 ∧ (∀ k ∈ x.Kinds,KOk 14 k) ∧ x.Lives.length ≤ 1 ∧ (∀ m ∈ x.Lives,m.States.length ≤ 6 ∧ m.Moves.length ≤ 8 ∧ SN m.Name) ∧ x.Rules.length ≤ n ∧ ∀ r ∈ x.Rules,RN r
theorem SOk.weak {a b : Nat} {x : Qh} (h : SOk a x) (hab : a ≤ b) : SOk b x := ⟨h.1,h.2.1,h.2.2.1,h.2.2.2.1,Nat.le_trans h.2.2.2.2.1 hab,h.2.2.2.2.2⟩

theorem Qr7 {l : List Int} (hl : ∀ x ∈ l,I64 x) : Ok (Qge l) (SOk 2) := by
 unfold Qge
 refine Ok.sub (by decide) (by unfold imin; split <;> omega) (by unfold imin; split <;> omega) fun w _ hw => ?_
 have h0 : MOk (QK.mk w 0) := fun x hx => hl x (hw x hx)
 refine Ok.take h0 (by decide) fun v m1 _ _ h1 => Ok.take h1 (by decide) fun n m2 a2 b2 h2 => ?_
 have en : IntKind.i64.wrap (1 + n) = 1 + n := w64 (by omega) (by omega)
 refine Ok.bind (P := fun p : List Qj × QK => p.1.length = 1 + n ∧ (∀ k ∈ p.1,GOk 12 k) ∧ MOk p.2)
  (Ok.loop (fun k s => 0 ≤ s.1 ∧ s.1 + k = 1 + n ∧ s.2.1.length = s.1 ∧ (∀ q ∈ s.2.1,GOk (9 + s.1.toNat) q) ∧ MOk s.2.2) (1 + n).toNat ⟨Int.le_refl _,by dsimp only; omega,by simp,by simp,h2⟩ fun k s hs => ?_) (fun p hp => ?_)
 ·obtain ⟨i,ks,m3⟩ := s
  obtain ⟨e1,e2,e3,e4,e5⟩ := hs
  dsimp only at e1 e2 e3 e4 e5
  refine Ok.ite (fun h => ?_) (fun h => ?_)
  ·have h' : i < 1 + n := by have := of_decide_eq_true h; rwa [en] at this
   refine (QuS (N := 9 + i.toNat) e5 (by omega) (by omega) e4).bind fun r hr => ?_
   obtain ⟨r1,r2,r3,r4⟩ := hr
   refine Ok.rm (by simp; omega) (Ok.mk ?_)
   have ei : IntKind.i64.wrap (i + 1) = i + 1 := w64 (by omega) (by omega)
   refine ⟨k - 1,by omega,?_⟩
   dsimp only
   rw [ei]
   refine ⟨by omega,by omega,by simp; omega,fun q hq => ?_,r2⟩
   rcases List.mem_append.1 hq with hq | hq
   ·exact (r4 q hq).weak (by omega)
   ·rw [List.mem_singleton] at hq; subst hq; exact r1.weak (by omega)
  ·have h' : ¬ i < 1 + n := by have := of_decide_eq_false h; rwa [en] at this
   refine Ok.mk ⟨by dsimp only; omega,fun q hq => (e4 q hq).weak (by omega),e5⟩
 obtain ⟨p1,p2,p3⟩ := hp
 refine Ok.take p3 (by decide) fun t m4 a4 b4 h4 => ?_
 have et : IntKind.i64.wrap (2 + t) = 2 + t := w64 (by omega) (by omega)
 refine Ok.sub (by decide) (by dsimp only; rw [et]; omega) (by dsimp only; rw [et]; simp; omega) fun st hst _ => ?_
 dsimp only at hst
 rw [et] at hst
 have hsl : 2 ≤ st.length ∧ st.length ≤ 4 := by omega
 refine Ok.bind (P := fun p : List QT => p.length ≤ 3) (Ok.loop (fun k s => 0 ≤ s.1 ∧ s.1 + 1 + k = st.length ∧ s.2.length = s.1) (st.length - 1) ⟨Int.le_refl _,by dsimp only; omega,by simp⟩ fun k s hs => ?_) (fun mv hmv => ?_)
 ·obtain ⟨i,ms⟩ := s
  obtain ⟨e1,e2,e3⟩ := hs
  dsimp only at e1 e2 e3
  have ei : IntKind.i64.wrap (i + 1) = i + 1 := w64 (by omega) (by omega)
  refine Ok.ite (fun h => ?_) (fun h => ?_)
  ·have h' : i + 1 < st.length := by have := of_decide_eq_true h; rwa [ei] at this
   refine Ok.rm (by simp; omega) (Ok.mk ⟨k - 1,by omega,?_⟩)
   dsimp only
   rw [ei]
   exact ⟨by omega,by omega,by simp; omega⟩
  ·have h' : ¬ i + 1 < st.length := by have := of_decide_eq_false h; rwa [ei] at this
   exact Ok.mk (by dsimp only; omega)
 refine Ok.take h4 (by decide) fun r5 m5 _ _ h5 => ?_
 refine Ok.bind (P := fun p : List QT => p.length ≤ 4) (Ok.ite (fun _ => Ok.rm (by simp; omega) (Ok.mk (by simp; omega))) (fun _ => Ok.mk (by omega))) fun mv2 hmv2 => ?_
 refine Ok.take h5 (by decide) fun r6 m6 _ _ h6 => ?_
 refine Ok.bind (P := fun p : List QT => p.length ≤ 5) (Ok.ite (fun _ => Ok.rm (by simp; omega) (Ok.mk (by simp; omega))) (fun _ => Ok.mk (by omega))) fun mv3 hmv3 => ?_
 refine Ok.rm (by simp) ?_
 refine Ok.bind (P := fun p : List Qn => p.length ≤ 2 ∧ ∀ r ∈ p,RN r) (Ok.loop (fun k s => 0 ≤ s.1 ∧ s.1 + k = 1 + n ∧ (s.2.1.length ≤ 2 ∧ ∀ r ∈ s.2.1,RN r) ∧ MOk s.2.2) (1 + n).toNat ⟨Int.le_refl _,by dsimp only; omega,by simp,h6⟩ fun k s hs => ?_) (fun rs hrs => ?_)
 ·obtain ⟨i,rs,m7⟩ := s
  obtain ⟨e1,e2,e3,e4⟩ := hs
  dsimp only at e1 e2 e3 e4
  refine Ok.ite (fun h => ?_) (fun h => Ok.mk e3)
  simp only [Bool.and_eq_true,decide_eq_true_eq,en] at h
  refine Ok.idx e1 (by omega) fun q hq _ => (QuT e4 (p2 q hq)).bind fun r hr => ?_
  refine Ok.bind (P := fun p : List Qn => p.length ≤ 2 ∧ ∀ r ∈ p,RN r) (Ok.ite (fun _ => Ok.rm (by simp; omega) (Ok.mk ⟨by simp; omega,fun y hy => (List.mem_append.1 hy).elim (e3.2 y) fun hy => by rw [List.mem_singleton] at hy; subst hy; exact hr.1⟩)) (fun _ => Ok.mk e3)) fun rs2 hrs2 => Ok.mk ⟨k - 1,by omega,?_⟩
  dsimp only
  rw [w64 (n := i + 1) (by omega) (by omega)]
  exact ⟨by omega,by omega,hrs2,hr.2⟩
 ·refine Ok.mk ⟨by dsimp only; omega,fun q hq => ⟨by have := (p2 q hq).1.1; omega,(p2 q hq).1.2⟩,by simp,?_,hrs⟩
  intro q hq
  simp only [List.nil_append,List.mem_singleton] at hq
  subst hq
  exact ⟨by dsimp only; omega,by dsimp only; omega,by simp [SN]⟩

end Go.Proofs.YtcdccjagknlmpaaGreatDoor

namespace Go.Proofs.YtcdccjagknlmpaaGreatDoor
open Go.Sim

theorem Ok.same {β : Type} {x : Option β} {Q : β → Prop} (h : Ok x Q) : Ok (x.bind fun p => some p) Q := h.bind fun _ hr => Ok.mk hr
theorem QiZ {α : Type} {P : α → Prop} {l : List α} {i : Nat} {x : α} (h : ∀ y ∈ l,P y) (hx : P x) : ∀ y ∈ l.set i x,P y := fun y hy => (List.mem_or_eq_of_mem_set hy).elim (h y) fun e => e ▸ hx

theorem QoV {f : Qc} {h b : Int} (hf : FOk f) (hh : I64 h) (hb : I64 b) : Ok (Qdw f h b) (fun g => g.Words.length ≤ 7 ∧ g.Weights.length ≤ 7 ∧ FN g) := by
 obtain ⟨f1,f2,f3⟩ := hf
 unfold Qdw
 simp only [List.nil_append,List.length_nil,Nat.zero_add]
 have out : f.Words.length ≤ 7 ∧ f.Weights.length ≤ 7 ∧ FN f := ⟨by omega,by omega,f3⟩
 have sn : ∀ {l : List Str} {s : Str},s ∈ l → (∀ n ∈ l,SN n) → SN s := fun h k => k _ h
 refine Ok.around hh (by decide) fun w w0 w1 => Ok.same (Ok.ite (fun _ => ?_) (fun _ => Ok.same (Ok.ite (fun _ => ?_) (fun _ => Ok.same (Ok.ite (fun _ => ?_) (fun _ => Ok.same (Ok.ite (fun _ => ?_) (fun _ => Ok.same (Ok.ite (fun _ => ?_) (fun _ => Ok.same (Ok.ite (fun _ => ?_) (fun _ => Ok.same (Ok.ite (fun _ => ?_) (fun _ => ?_))))))))))))))
 ·exact Ok.around hb (by decide) fun _ _ _ => Ok.mk out
 ·exact Ok.around hb (by decide) fun i i0 i1 => Ok.idx i0 (by simpa using i1) fun _ hs _ => Ok.mk ⟨out.1,out.2.1,sn hs (by simp [SN]),f3.2⟩
 ·exact Ok.around hb (by decide) fun i i0 i1 => Ok.idx i0 (by simpa using i1) fun _ hs _ => Ok.mk ⟨out.1,out.2.1,f3.1,sn hs (by simp [SN]),f3.2.2⟩
 ·exact Ok.around hb (by decide) fun i i0 i1 => Ok.idx i0 (by simpa using i1) fun _ hs _ => Ok.mk ⟨out.1,out.2.1,f3.1,f3.2.1,sn hs (by simp [SN])⟩
 ·exact Ok.around hb (by decide) fun i i0 i1 => Ok.idx i0 (by simpa using i1) fun _ _ _ => Ok.mk out
 ·exact Ok.around hb (by decide) fun i i0 i1 => Ok.idx i0 (by simpa using i1) fun _ _ _ => Ok.mk out
 ·exact Ok.rm (by omega) (Ok.around hb (by decide) fun i i0 i1 => Ok.idx i0 (by simpa using i1) fun _ _ _ => Ok.rm (by simp; omega) (Ok.rm (by omega) (Ok.around (Qh6 _) (by decide) fun i i0 i1 => Ok.idx i0 (by simpa using i1) fun _ _ _ => Ok.rm (by simp; omega) (Ok.mk ⟨by simp; omega,by simp; omega,f3⟩))))
 ·exact Ok.mk' (by omega) (by omega) (Ok.mk ⟨out.1,by simp; omega,f3⟩)

end Go.Proofs.YtcdccjagknlmpaaGreatDoor

namespace Go.Proofs.YtcdccjagknlmpaaGreatDoor
open Go.Sim

def FZ (f : Qc) : Prop := f.Words.length ≤ 7 ∧ f.Weights.length ≤ 7 ∧ FN f
def KA (l : List Qj) : Prop := l.length ≤ 3 ∧ ∀ k ∈ l,k.Fields.length ≤ 14 ∧ (∀ f ∈ k.Fields,FZ f) ∧ SN k.Name
def LA (l : List Qo) : Prop := l.length ≤ 1 ∧ ∀ m ∈ l,m.States.length ≤ 7 ∧ m.Moves.length ≤ 9 ∧ SN m.Name
/-- A schema of the laws. -/
def RA (l : List Qn) : Prop := l.length ≤ 4 ∧ ∀ r ∈ l,RN r
def Sz (x : Qh) : Prop := KA x.Kinds ∧ LA x.Lives ∧ RA x.Rules
theorem FOk.z {f : Qc} (h : FOk f) : FZ f := ⟨by have := h.1; omega,by have := h.2.1; omega,h.2.2⟩
theorem SOk.sz {n : Nat} {x : Qh} (h : SOk n x) (hn : n ≤ 4) : Sz x :=
 ⟨⟨h.1,fun k hk => ⟨(h.2.1 k hk).1,fun f hf => ((h.2.1 k hk).2.1 f hf).z,(h.2.1 k hk).2.2⟩⟩,⟨h.2.2.1,fun m hm => ⟨by have := (h.2.2.2.1 m hm).1; omega,by have := (h.2.2.2.1 m hm).2.1; omega,(h.2.2.2.1 m hm).2.2⟩⟩,Nat.le_trans h.2.2.2.2.1 hn,h.2.2.2.2.2⟩

theorem Qr8 {x : Qh} {a h b : Int} (hx : SOk 2 x) (ha : I64 a) (hh : I64 h) (hb : I64 b) : Ok (Qgf x a h b) Sz := by
 have hz := hx.sz (by decide)
 obtain ⟨x1,x2,x3,x4,x5,x6⟩ := hx
 obtain ⟨zk,zl,zr⟩ := hz
 have sn : ∀ {l : List Str} {s : Str},s ∈ l → (∀ n ∈ l,SN n) → SN s := fun h k => k _ h
 unfold Qgf
 simp only [List.nil_append,List.length_nil,Nat.zero_add]
 refine Ok.rm (by omega) (Ok.rm (by omega) (Ok.rm (by omega) ?_))
 refine Ok.around0 ha fun i i0 i1 => Ok.around hh (by decide) fun w w0 w1 => ?_
 refine Ok.bind (P := fun p : List Qj × List Qo × List Qn × Int => KA p.1 ∧ LA p.2.1 ∧ RA p.2.2.1) (Ok.ite (fun _ => ?_) (fun _ => ?_)) fun p hp => Ok.mk hp
 ·exact Ok.around hb (by decide) fun j j0 j1 => Ok.idx j0 (by simpa using j1) fun _ _ _ => Ok.mk ⟨zk,zl,zr⟩
 refine Ok.bind (P := fun p : List Qo × List Qn × List Qj => KA p.2.2 ∧ LA p.1 ∧ RA p.2.1) (Ok.ite (fun _ => ?_) (fun _ => ?_)) fun p hp => Ok.mk hp
 ·refine Ok.bind (P := KA) (Ok.ite (fun hc => ?_) (fun _ => Ok.mk zk)) fun p hp => Ok.mk ⟨hp,zl,zr⟩
  have hc' : i < x.Kinds.length := of_decide_eq_true hc
  exact Ok.around hb (by decide) fun j j0 j1 => Ok.idx j0 (by simpa using j1) fun _ hs _ => Ok.idx i0 hc' fun k hk _ => Ok.setAt i0 hc' (Ok.mk ⟨by simpa using x1,QiZ zk.2 (⟨(zk.2 k hk).1,(zk.2 k hk).2.1,sn hs (by simp [SN])⟩)⟩)
 refine Ok.bind (P := fun p : List Qo × List Qn × List Qj => KA p.2.2 ∧ LA p.1 ∧ RA p.2.1) (Ok.ite (fun _ => ?_) (fun _ => ?_)) fun p hp => Ok.mk hp
 ·refine Ok.bind (P := KA) (Ok.ite (fun hc => ?_) (fun _ => Ok.mk zk)) fun p hp => Ok.mk ⟨hp,zl,zr⟩
  have hc' : i < x.Kinds.length := of_decide_eq_true hc
  exact Ok.around hb (by decide) fun j j0 j1 => Ok.idx j0 (by simpa using j1) fun _ _ _ => Ok.idx i0 hc' fun k hk _ => Ok.setAt i0 hc' (Ok.mk ⟨by simpa using x1,QiZ zk.2 (zk.2 k hk)⟩)
 refine Ok.bind (P := fun p : List Qo × List Qn × List Qj => KA p.2.2 ∧ LA p.1 ∧ RA p.2.1) (Ok.ite (fun _ => ?_) (fun _ => ?_)) fun p hp => Ok.mk hp
 ·refine Ok.bind (P := KA) (Ok.ite (fun hc => ?_) (fun _ => Ok.mk zk)) fun p hp => Ok.mk ⟨hp,zl,zr⟩
  have hc' : i < x.Kinds.length := of_decide_eq_true hc
  exact Ok.around hb (by decide) fun j j0 j1 => Ok.idx j0 (by simpa using j1) fun _ _ _ => Ok.idx i0 hc' fun k hk _ => Ok.setAt i0 hc' (Ok.mk ⟨by simpa using x1,QiZ zk.2 (zk.2 k hk)⟩)
 refine Ok.bind (P := fun p : List Qj × List Qn × List Qo => KA p.1 ∧ LA p.2.2 ∧ RA p.2.1) (Ok.ite (fun _ => ?_) (fun _ => ?_)) fun p hp => Ok.mk hp
 ·refine Ok.bind (P := LA) (Ok.ite (fun hc => ?_) (fun _ => Ok.mk zl)) fun p hp => Ok.mk ⟨zk,hp,zr⟩
  have hc' : (0:Int) < x.Lives.length := of_decide_eq_true hc
  refine Ok.idx (by decide) hc' fun m hm _ => ?_
  have hm' := x4 m hm
  exact Ok.rm (by omega) (Ok.around hb (by decide) fun j j0 j1 => Ok.around (Qh6 _) (by decide) fun q q0 q1 => Ok.rm (by simp; omega) (Ok.idx (by decide) hc' fun m2 hm2 _ => Ok.setAt (by decide) hc' (Ok.mk ⟨by simpa using x3,QiZ zl.2 ⟨(zl.2 m2 hm2).1,by simp; omega,(zl.2 m2 hm2).2.2⟩⟩)))
 refine Ok.bind (P := fun p : List Qj × List Qo × List Qn => KA p.1 ∧ LA p.2.1 ∧ RA p.2.2) (Ok.ite (fun _ => ?_) (fun _ => ?_)) fun p hp => Ok.mk hp
 ·exact Ok.around hb (by decide) fun j j0 j1 => Ok.idx j0 (by simpa using j1) fun _ s1 _ => Ok.around (Qh6 _) (by decide) fun j j0 j1 => Ok.idx j0 (by simpa using j1) fun _ s2 _ => Ok.around (Qh6 _) (by decide) fun j j0 j1 => Ok.idx j0 (by simpa using j1) fun _ s3 _ => Ok.around hb (by decide) fun _ _ _ => Ok.rm (by simp; omega) (Ok.mk ⟨zk,zl,by simp; omega,fun y hy => (List.mem_append.1 hy).elim (x6 y) fun hy => by rw [List.mem_singleton] at hy; subst hy; exact ⟨by simp [SN],sn s1 (by simp [SN]),sn s2 (by simp [SN]),sn s3 (by simp [SN])⟩⟩)
 refine Ok.bind (P := fun p : List Qj × List Qo => KA p.1 ∧ LA p.2) (Ok.ite (fun _ => ?_) (fun _ => ?_)) fun p hp => Ok.mk ⟨hp.1,hp.2,zr⟩
 ·refine Ok.bind (P := LA) (Ok.ite (fun hc => ?_) (fun _ => Ok.mk zl)) fun p hp => Ok.mk ⟨zk,hp⟩
  have hc' : (0:Int) < x.Lives.length := of_decide_eq_true hc
  refine Ok.idx (by decide) hc' fun m hm _ => ?_
  have hm' := x4 m hm
  exact Ok.rm (by omega) (Ok.around hb (by decide) fun j j0 j1 => Ok.idx j0 (by simpa using j1) fun _ _ _ => Ok.rm (by simp; omega) (Ok.idx (by decide) hc' fun m2 hm2 _ => Ok.setAt (by decide) hc' (Ok.mk ⟨by simpa using x3,QiZ zl.2 ⟨by simp; omega,(zl.2 m2 hm2).2⟩⟩)))
 refine Ok.bind (P := KA) (Ok.ite (fun hc => ?_) (fun _ => Ok.mk zk)) fun p hp => Ok.mk ⟨hp,zl⟩
 have hc' : i < x.Kinds.length := of_decide_eq_true hc
 refine Ok.idx i0 hc' fun k hk _ => ?_
 have hk' := x2 k hk
 have hk1 := hk'.1
 refine Ok.rm (by omega) (Ok.around0 (Qh6 _) fun j j0 _ => ?_)
 refine Ok.bind (P := fun p : List Qc => p.length ≤ 14 ∧ ∀ f ∈ p,FZ f) (Ok.ite (fun hj => ?_) (fun _ => Ok.mk ⟨(zk.2 k hk).1,(zk.2 k hk).2.1⟩)) fun fs hfs => Ok.idx i0 hc' fun k2 hk2 _ => Ok.setAt i0 hc' (Ok.mk ⟨by simpa using x1,QiZ zk.2 ⟨hfs.1,hfs.2,(zk.2 k2 hk2).2.2⟩⟩)
 have hj' : j < k.Fields.length := of_decide_eq_true hj
 exact Ok.idx j0 hj' fun f hf _ => (QoV (hk'.2.1 f hf) (Qh6 _) hb).bind fun g hg => Ok.setAt j0 hj' (Ok.mk ⟨by simpa using hk1,QiZ (zk.2 k hk).2.1 hg⟩)

end Go.Proofs.YtcdccjagknlmpaaGreatDoor

namespace Go.Proofs.YtcdccjagknlmpaaGreatDoor
open Go.Sim

/-- The index of the first element that is so; -1: none is. -/
def Qbb {α : Type} (s : List α) (p : α → Bool) : Int := match s.findIdx? p with | some k => (k : Int) | none => -1
theorem Qhi {α : Type} (s : List α) (p : α → Bool) : -1 ≤ Qbb s p ∧ Qbb s p < s.length := by
 unfold Qbb
 cases h : s.findIdx? p with
 | none => exact ⟨by decide,by show (-1:Int) < _; omega⟩
 | some k =>
  have := (List.findIdx?_eq_some_iff_getElem.1 h).1
  exact ⟨by show (-1:Int) ≤ (k:Int); omega,by show (k:Int) < _; omega⟩
theorem QcB {α : Type} (s : List α) (p : α → Bool) {body : Int → Option (Int ⊕ (Unit ⊕ Int))}
  (hb : ∀ k (h : k < s.length),body (k : Int) = if p s[k] = true then some (.inr (.inr (k : Int))) else some (.inl ((k + 1 : Nat) : Int))) (he : body (s.length : Int) = some (.inr (.inl ()))) :
  QF body (0 : Int) = some (match s.findIdx? p with | some k => .inr (k : Int) | none => .inl ()) := by
 obtain ⟨q,hq⟩ : ∃ q : Nat → Bool,∀ k (h : k < s.length),q k = p s[k] := ⟨fun k => if h : k < s.length then p s[k] else false,fun k h => dif_pos h⟩
 rcases QmE (ρ := Unit ⊕ Int) s.length q (.inl ()) (fun k => .inr (k : Int))
  (fun k hk hp => by rw [hb k hk,if_neg (by rw [← hq k hk,hp]; decide)]) (fun k hk hp => by rw [hb k hk,if_pos (by rw [← hq k hk,hp])]) he with ⟨k,hk,hp,hj,e⟩ | ⟨hp,e⟩
 ·have : s.findIdx? p = some k := by
   rw [List.findIdx?_eq_some_iff_getElem]
   refine ⟨hk,by rw [← hq k hk,hp],fun j hj' => ?_⟩
   have := hj j hj'
   rw [hq j (by omega)] at this
   simp [this]
  rw [e,this]
 ·have : s.findIdx? p = none := by
   rw [List.findIdx?_eq_none_iff]
   intro x hx
   obtain ⟨k,hk,rfl⟩ := List.getElem_of_mem hx
   have := hp k hk
   rwa [hq k hk] at this
  rw [e,this]

section
variable {p : Qj → Bool} {q : Qc → Bool}
theorem Qph {s : List Qj} {f : Qj → Option Bool} (hs : s.length ≤ 1000000) (hf : ∀ x ∈ s,f x = some (p x)) : Qa4 s f = some (Qbb s p) := by
 unfold Qa4
 rw [QcB s p (fun k hk => ?_) ?_]
 ·unfold Qbb; cases s.findIdx? p <;> rfl
 ·rw [if_neg (by simp)]
 ·rw [if_pos (by simpa using hk),Qak hk]
  show (f s[k]).bind _ = _
  rw [hf _ (List.getElem_mem hk),Q8 hk (by omega)]; rfl
theorem Qok {s : List Qc} {f : Qc → Option Bool} (hs : s.length ≤ 1000000) (hf : ∀ x ∈ s,f x = some (q x)) : QaZ s f = some (Qbb s q) := by
 unfold QaZ
 rw [QcB s q (fun k hk => ?_) ?_]
 ·unfold Qbb; cases s.findIdx? q <;> rfl
 ·rw [if_neg (by simp)]
 ·rw [if_pos (by simpa using hk),Qak hk]
  show (f s[k]).bind _ = _
  rw [hf _ (List.getElem_mem hk),Q8 hk (by omega)]; rfl
end

/-- The kind, the field with a name. -/
def Q5 (x : Qh) (n : Str) : Int := Qbb x.Kinds fun k => k.Name == n
def Qat (k : Qj) (n : Str) : Int := Qbb k.Fields fun f => f.Name == n
theorem Qek {x : Qh} {n : Str} (hx : x.Kinds.length ≤ 1000000) : QbF x n = some (Q5 x n) := by
 unfold QbF
 rw [Qph (f := fun x0 => Qeg x0 n) (p := fun k => k.Name == n) hx (fun k _ => rfl)]; rfl
theorem Qfc {k : Qj} {n : Str} (hx : k.Fields.length ≤ 1000000) : Qbt k n = some (Qat k n) := by
 unfold Qbt
 rw [Qok (f := fun x0 => QdI x0 n) (q := fun k => k.Name == n) hx (fun k _ => rfl)]; rfl
/-- The field of a schema, if there is one. -/
def field? (x : Qh) (k j : Int) : Option Qc := if 0 ≤ k ∧ 0 ≤ j then x.Kinds[k.toNat]?.bind fun q => q.Fields[j.toNat]? else none
def Qdb : Qc := Qc.mk [] [] [] 0 0 0 [] []
theorem QcC {x : Qh} {k j : Int} {f : Qc} (h : field? x k j = some f) : ∃ q,0 ≤ k ∧ 0 ≤ j ∧ idx x.Kinds k = some q ∧ idx q.Fields j = some f ∧ q ∈ x.Kinds ∧ k < x.Kinds.length ∧ j < q.Fields.length := by
 unfold field? at h
 split at h
 ·rename_i hk
  obtain ⟨q,h1,h2⟩ := Option.bind_eq_some_iff.1 h
  refine ⟨q,hk.1,hk.2,by rw [Qh7 _ hk.1,h1],by rw [Qh7 _ hk.2,h2],List.mem_of_getElem? h1,?_,?_⟩
  ·have := (List.getElem?_eq_some_iff.1 h1).1; omega
  ·have := (List.getElem?_eq_some_iff.1 h2).1; omega
 ·cases h
theorem QgY {x : Qh} {k j : Int} {q : Qj} {f : Qc} (hk : 0 ≤ k) (hj : 0 ≤ j) (h1 : idx x.Kinds k = some q) (h2 : idx q.Fields j = some f) : field? x k j = some f := by
 rw [Qh7 _ hk] at h1; rw [Qh7 _ hj] at h2
 unfold field?
 rw [if_pos ⟨hk,hj⟩,h1]; exact h2
theorem Qc4 {α : Type} {l : List α} {i : Int} (h0 : 0 ≤ i) (h1 : i < l.length) : ∃ v,idx l i = some v ∧ v ∈ l := by
 have hlt : i.toNat < l.length := by omega
 exact ⟨l[i.toNat],by rw [Qh7 l h0,List.getElem?_eq_getElem hlt],List.getElem_mem hlt⟩
theorem QlO (x : Qh) (k j : Int) : QcA x k j = some (match field? x k j with | some f => (f,true) | none => (Qdb,false)) := by
 unfold QcA
 by_cases hc : (0 ≤ k ∧ k < x.Kinds.length) ∧ 0 ≤ j
 ·obtain ⟨⟨h1,h2⟩,h3⟩ := hc
  obtain ⟨q,hq,_⟩ := Qc4 h1 h2
  have c : ((decide (k < 0) || decide (k ≥ (x.Kinds.length : Int))) || decide (j < 0)) = false := by simp; omega
  rw [c,hq]
  show (if (false || decide (j ≥ (q.Fields.length : Int))) = true then _ else _) = _
  by_cases h4 : j < q.Fields.length
  ·obtain ⟨f,hf,_⟩ := Qc4 h3 h4
   rw [if_neg (by simp; omega),QgY h1 h3 hq hf]
   show (idx q.Fields j).bind _ = _
   rw [hf]; rfl
  ·rw [if_pos (by simp; omega)]
   have : field? x k j = none := by
    cases h : field? x k j with
    | none => rfl
    | some f =>
     obtain ⟨q',_,_,e1,e2,_,_,e3⟩ := QcC h
     rw [hq] at e1; cases e1; exact (h4 e3).elim
   rw [this]; rfl
 ·have c : ((decide (k < 0) || decide (k ≥ (x.Kinds.length : Int))) || decide (j < 0)) = true := by simp; omega
  rw [c]
  have : field? x k j = none := by
   cases h : field? x k j with
   | none => rfl
   | some f =>
    obtain ⟨q',e1,e2,_,_,_,e3,_⟩ := QcC h
    exact (hc ⟨⟨e1,e3⟩,e2⟩).elim
  rw [this]; rfl
end Go.Proofs.YtcdccjagknlmpaaGreatDoor

namespace Go.Proofs.YtcdccjagknlmpaaGreatDoor
open Go.Sim

/-- What the way up needs of a schema: it is small. -/
def Few (x : Qh) : Prop := x.Kinds.length ≤ 1000 ∧ ∀ k ∈ x.Kinds,k.Fields.length ≤ 1000
theorem Sz.few {x : Qh} (h : Sz x) : Few x := ⟨by have := h.1.1; omega,fun k hk => by have := (h.1.2 k hk).1; omega⟩

def Qjm (x : Qh) (k : Int) (g : Qc) : Int := if Q5 x g.Of < k then Q5 x g.Of else -1
/-- The kind to which a field leads. -/
def upIx (x : Qh) (k j : Int) : Int :=
 match field? x k j with
 | none => -1
 | some f =>
  if f.Kind = 7 ∨ f.Kind = 8 then
   match idx x.Kinds k with
   | none => -1
   | some q => if Qat q f.Up < j then (match field? x k (Qat q f.Up) with | some g => if g.Kind = 1 then Qjm x k g else -1 | none => -1) else -1
  else if f.Kind = 1 then Qjm x k f else -1

theorem QqY {x : Qh} {k j : Int} {g : Qc} {self : Qh → Int → Int → Option Int} (hx : Few x) (h : field? x k j = some g) (hg : g.Kind = 1) : QcW self x k j = some (Qjm x k g) := by
 unfold QcW
 rw [QlO,h]
 simp only [Option.bind_some,Bool.not_true,hg]
 rw [if_neg (by decide),if_neg (by decide),if_neg (by decide),Qek (by have := hx.1; omega)]
 simp only [Option.bind_some,Qjm]
 by_cases hl : Q5 x g.Of < k
 ·rw [if_pos (by simpa using hl),if_pos hl]
 ·rw [if_neg (by simpa using hl),if_neg hl]
theorem upS_is {x : Qh} {k j : Int} {self : Qh → Int → Int → Option Int} (hx : Few x) (hs : ∀ u g,field? x k u = some g → g.Kind = 1 → self x k u = some (Qjm x k g)) : QcW self x k j = some (upIx x k j) := by
 cases hf : field? x k j with
 | none =>
  unfold QcW upIx
  rw [QlO,hf]; rfl
 | some f =>
  by_cases h1 : f.Kind = 1
  ·rw [QqY hx hf h1]
   unfold upIx
   rw [hf]
   simp [h1]
  unfold QcW upIx
  rw [QlO,hf]
  simp only [Option.bind_some,Bool.not_true]
  rw [if_neg (by decide)]
  by_cases c : f.Kind = 7 ∨ f.Kind = 8
  ·obtain ⟨q,hk,hj,hq,hqf,hqm,_,_⟩ := QcC hf
   rw [if_pos (by simpa using c),if_pos c,hq]
   simp only [Option.bind_some]
   rw [Qfc (by have := hx.2 q hqm; omega)]
   simp only [Option.bind_some]
   rw [QlO]
   simp only [Option.bind_some]
   cases hg : field? x k (Qat q f.Up) with
   | none => simp
   | some g =>
    simp only
    by_cases hu : Qat q f.Up < j
    ·by_cases hg1 : g.Kind = 1
     ·rw [if_pos (by simp [hu,hg1]),hs _ g hg hg1,if_pos hu,if_pos hg1]; rfl
     ·rw [if_neg (by simp [hg1]),if_pos hu,if_neg hg1]
    ·rw [if_neg (by simp [hu]),if_neg hu]
  ·rw [if_neg (by simpa using c),if_neg c,if_pos (by simpa using h1),if_neg h1]
theorem Qku {x : Qh} {k j : Int} (hx : Few x) : QfU x k j = some (upIx x k j) := by
 unfold QfU
 exact upS_is hx fun u g h hg => QqY hx h hg
/-! Shares -/
theorem Qpi (p : Nat → Bool) (k : Nat) : ((List.range (k + 1)).filter p).map Int.ofNat = if p k = true then ((List.range k).filter p).map Int.ofNat ++ [(k : Int)] else ((List.range k).filter p).map Int.ofNat := by
 rw [List.range_succ,List.filter_append,List.map_append]
 by_cases h : p k = true
 ·rw [if_pos h]; simp [h]
 ·rw [if_neg h]; simp [h]
theorem Qqh (p : Nat → Bool) (k : Nat) : (((List.range k).filter p).map Int.ofNat).length ≤ k := by
 rw [List.length_map]
 have := List.length_filter_le p (List.range k)
 simpa using this
def Qix (x : Qh) (o k : Int) (nm : Str) (fs : List Qc) (i : Nat) : Bool := match fs[i]? with | some g => g.Kind == 7 && g.Of == nm && upIx x o (i : Int) == k | none => false
def shl (x : Qh) (o k : Int) (nm : Str) : List Int := match idx x.Kinds o with | some q => ((List.range q.Fields.length).filter (Qix x o k nm q.Fields)).map Int.ofNat | none => []
def QkK (x : Qh) (k : Int) (f : Qc) : Int × List Int := if f.Kind ≠ 6 ∨ Q5 x f.Of ≤ k then (-1,[]) else (Q5 x f.Of,shl x (Q5 x f.Of) k f.Name)
theorem QjB (x : Qh) (n : Str) : -1 ≤ Q5 x n ∧ Q5 x n < x.Kinds.length := Qhi _ _

theorem Qr9 {x : Qh} {k : Int} {f : Qc} (hx : Few x) (hk : 0 ≤ k) : Qdp x k f = some (QkK x k f) := by
 unfold Qdp
 rw [Qek (by have := hx.1; omega)]
 simp only [Option.bind_some]
 unfold QkK
 by_cases c : f.Kind ≠ 6 ∨ Q5 x f.Of ≤ k
 ·rw [if_pos (by simpa using c),if_pos c]
 rw [if_neg (by simpa using c),if_neg c]
 have c' : k < Q5 x f.Of := by
  rcases Int.lt_or_le k (Q5 x f.Of) with h | h
  ·exact h
  ·exact (c (.inr h)).elim
 obtain ⟨q,hq,hqm⟩ := Qc4 (l := x.Kinds) (i := Q5 x f.Of) (by omega) (QjB x f.Of).2
 have hl := hx.2 q hqm
 rw [hq]
 simp only [Option.bind_some]
 refine Qkt q.Fields.length (fun n => ((n : Int),((List.range n).filter (Qix x (Q5 x f.Of) k f.Name q.Fields)).map Int.ofNat)) _ rfl (fun n hn => ?_) (if_neg (by simp)) ?_
 ·rw [if_pos (by simpa using hn),Qak hn]
  simp only [Option.bind_some]
  rw [Qku hx]
  have e : Qix x (Q5 x f.Of) k f.Name q.Fields n = (q.Fields[n].Kind == 7 && q.Fields[n].Of == f.Name && upIx x (Q5 x f.Of) (n : Int) == k) := by
   unfold Qix; rw [List.getElem?_eq_getElem hn]
  have hle := Qqh (Qix x (Q5 x f.Of) k f.Name q.Fields) n
  rw [Qpi,e,Q8 hn (by omega)]
  cases h1 : (q.Fields[n].Kind == 7 && q.Fields[n].Of == f.Name) with
  | false => rfl
  | true =>
   simp only [Sim.opt,Bool.true_and,if_true,beq_self_eq_true,Option.bind_some]
   cases h2 : upIx x (Q5 x f.Of) (n : Int) == k with
   | false => rfl
   | true =>
    rw [if_pos rfl,if_pos rfl,Qhh (by rw [List.length_singleton]; omega)]
    rfl
 ·unfold shl; rw [hq]

end Go.Proofs.YtcdccjagknlmpaaGreatDoor

namespace Go.Proofs.YtcdccjagknlmpaaGreatDoor
open Go.Sim

theorem QeC {α : Type} (s : List α) (p : α → Bool) : decide (Qbb s p ≥ 0) = s.any p := by
 unfold Qbb
 cases h : s.findIdx? p with
 | none =>
  have := List.findIdx?_eq_none_iff.1 h
  rw [Eq.comm,List.any_eq_false.2 (fun x hx => by simp [this x hx])]
  rfl
 | some k =>
  obtain ⟨hk,hp,_⟩ := List.findIdx?_eq_some_iff_getElem.1 h
  rw [Eq.comm,List.any_eq_true.2 ⟨_,List.getElem_mem hk,hp⟩,Eq.comm]
  exact decide_eq_true (Int.natCast_nonneg k)
theorem Qi0 {α : Type} (s : List α) (p : α → Bool) : (!s.any fun x => !p x) = s.all p := by
 induction s with
 | nil => rfl
 | cons a s ih => simp only [List.any_cons,List.all_cons,Bool.not_or,Bool.not_not,ih]

theorem Qsa {s : List Qo} {f : Qo → Option Bool} {p : Qo → Bool} (hs : s.length ≤ 1000000) (hf : ∀ x ∈ s,f x = some (p x)) : Qbl s f = some (Qbb s p) := by
 unfold Qbl
 rw [QcB s p (fun k hk => ?_) ?_]
 ·unfold Qbb; cases s.findIdx? p <;> rfl
 ·rw [if_neg (by simp)]
 ·rw [if_pos (by simpa using hk),Qak hk]
  show (f s[k]).bind _ = _
  rw [hf _ (List.getElem_mem hk),Q8 hk (by omega)]; rfl
theorem Qsb {s : List Qn} {f : Qn → Option Bool} {p : Qn → Bool} (hs : s.length ≤ 1000000) (hf : ∀ x ∈ s,f x = some (p x)) : Qbm s f = some (Qbb s p) := by
 unfold Qbm
 rw [QcB s p (fun k hk => ?_) ?_]
 ·unfold Qbb; cases s.findIdx? p <;> rfl
 ·rw [if_neg (by simp)]
 ·rw [if_pos (by simpa using hk),Qak hk]
  show (f s[k]).bind _ = _
  rw [hf _ (List.getElem_mem hk),Q8 hk (by omega)]; rfl
theorem Qsc {s : List Int} {f : Int → Option Bool} {p : Int → Bool} (hs : s.length ≤ 1000000) (hf : ∀ x ∈ s,f x = some (p x)) : Qbk s f = some (Qbb s p) := by
 unfold Qbk
 rw [QcB s p (fun k hk => ?_) ?_]
 ·unfold Qbb; cases s.findIdx? p <;> rfl
 ·rw [if_neg (by simp)]
 ·rw [if_pos (by simpa using hk),Qak hk]
  show (f s[k]).bind _ = _
  rw [hf _ (List.getElem_mem hk),Q8 hk (by omega)]; rfl
theorem Qqy {s : List Str} {f : Str → Option Bool} {p : Str → Bool} (hs : s.length ≤ 1000000) (hf : ∀ x ∈ s,f x = some (p x)) : Qa9 s f = some (Qbb s p) := by
 unfold Qa9
 rw [QcB s p (fun k hk => ?_) ?_]
 ·unfold Qbb; cases s.findIdx? p <;> rfl
 ·rw [if_neg (by simp)]
 ·rw [if_pos (by simpa using hk),Qak hk]
  show (f s[k]).bind _ = _
  rw [hf _ (List.getElem_mem hk),Q8 hk (by omega)]; rfl
theorem Qqz {s : List QT} {f : QT → Option Bool} {p : QT → Bool} (hs : s.length ≤ 1000000) (hf : ∀ x ∈ s,f x = some (p x)) : Qba s f = some (Qbb s p) := by
 unfold Qba
 rw [QcB s p (fun k hk => ?_) ?_]
 ·unfold Qbb; cases s.findIdx? p <;> rfl
 ·rw [if_neg (by simp)]
 ·rw [if_pos (by simpa using hk),Qak hk]
  show (f s[k]).bind _ = _
  rw [hf _ (List.getElem_mem hk),Q8 hk (by omega)]; rfl
theorem Qqi {s : List Qj} {f : Qj → Option Bool} {p : Qj → Bool} (hs : s.length ≤ 1000000) (hf : ∀ x ∈ s,f x = some (p x)) : Qa2 s f = some (s.any p) := by
 unfold Qa2
 rw [Qph hs hf,← QeC]; rfl
theorem QuU {s : List Qj} {f : Qj → Option Bool} {p : Qj → Bool} (hs : s.length ≤ 1000000) (hf : ∀ x ∈ s,f x = some (p x)) : QcE s f = some (s.all p) := by
 unfold QcE
 rw [Qqi (p := fun x => !p x) hs (fun x hx => by show (f x).bind _ = _; rw [hf x hx]; rfl),← Qi0]; rfl
theorem QpA {s : List Qc} {f : Qc → Option Bool} {p : Qc → Bool} (hs : s.length ≤ 1000000) (hf : ∀ x ∈ s,f x = some (p x)) : QaY s f = some (s.any p) := by
 unfold QaY
 rw [Qok hs hf,← QeC]; rfl
theorem Qs9 {s : List Qc} {f : Qc → Option Bool} {p : Qc → Bool} (hs : s.length ≤ 1000000) (hf : ∀ x ∈ s,f x = some (p x)) : Qcc s f = some (s.all p) := by
 unfold Qcc
 rw [QpA (p := fun x => !p x) hs (fun x hx => by show (f x).bind _ = _; rw [hf x hx]; rfl),← Qi0]; rfl
theorem Qkv {s : List Qo} {f : Qo → Option Bool} {p : Qo → Bool} (hs : s.length ≤ 1000000) (hf : ∀ x ∈ s,f x = some (p x)) : QaG s f = some (s.any p) := by
 unfold QaG
 rw [Qsa hs hf,← QeC]; rfl
theorem QuV {s : List Qo} {f : Qo → Option Bool} {p : Qo → Bool} (hs : s.length ≤ 1000000) (hf : ∀ x ∈ s,f x = some (p x)) : QcG s f = some (s.all p) := by
 unfold QcG
 rw [Qkv (p := fun x => !p x) hs (fun x hx => by show (f x).bind _ = _; rw [hf x hx]; rfl),← Qi0]; rfl
theorem QmF {s : List Qn} {f : Qn → Option Bool} {p : Qn → Bool} (hs : s.length ≤ 1000000) (hf : ∀ x ∈ s,f x = some (p x)) : QaM s f = some (s.any p) := by
 unfold QaM
 rw [Qsb hs hf,← QeC]; rfl
theorem QuW {s : List Qn} {f : Qn → Option Bool} {p : Qn → Bool} (hs : s.length ≤ 1000000) (hf : ∀ x ∈ s,f x = some (p x)) : QcI s f = some (s.all p) := by
 unfold QcI
 rw [QmF (p := fun x => !p x) hs (fun x hx => by show (f x).bind _ = _; rw [hf x hx]; rfl),← Qi0]; rfl
theorem Qqj {s : List Int} {f : Int → Option Bool} {p : Int → Bool} (hs : s.length ≤ 1000000) (hf : ∀ x ∈ s,f x = some (p x)) : Qa3 s f = some (s.any p) := by
 unfold Qa3
 rw [Qsc hs hf,← QeC]; rfl
theorem QoW {s : List Str} {f : Str → Option Bool} {p : Str → Bool} (hs : s.length ≤ 1000000) (hf : ∀ x ∈ s,f x = some (p x)) : QaR s f = some (s.any p) := by
 unfold QaR
 rw [Qqy hs hf,← QeC]; rfl
theorem QmG {s : List Str} {f : Str → Option Bool} {p : Str → Bool} (hs : s.length ≤ 1000000) (hf : ∀ x ∈ s,f x = some (p x)) : QbC s f = some (s.all p) := by
 unfold QbC
 rw [QoW (p := fun x => !p x) hs (fun x hx => by show (f x).bind _ = _; rw [hf x hx]; rfl),← Qi0]; rfl
theorem QoX {s : List QT} {f : QT → Option Bool} {p : QT → Bool} (hs : s.length ≤ 1000000) (hf : ∀ x ∈ s,f x = some (p x)) : QaS s f = some (s.any p) := by
 unfold QaS
 rw [Qqz hs hf,← QeC]; rfl
theorem Qsd {s : List QT} {f : QT → Option Bool} {p : QT → Bool} (hs : s.length ≤ 1000000) (hf : ∀ x ∈ s,f x = some (p x)) : QbS s f = some (s.all p) := by
 unfold QbS
 rw [QoX (p := fun x => !p x) hs (fun x hx => by show (f x).bind _ = _; rw [hf x hx]; rfl),← Qi0]; rfl

def inW (n a b : Int) : Bool := decide (n ≥ a) && decide (n ≤ b)
theorem Qc5 {n a b : Int} (h : inW n a b = true) : a ≤ n ∧ n ≤ b := by simpa [inW] using h
def Qdq (c : Int) : Bool := inW c 97 122
def Qiy (c : Int) : Bool := inW c 48 57
def Qfd (lo hi a b : Int) : Bool := (decide (lo ≥ a) && decide (lo ≤ hi)) && decide (hi ≤ b)
/-- A name. -/
def Q7 (s : Str) : Bool := inW (s.length : Int) 1 12 && (Qdq ((s.headD 0).toNat : Int) && (Q4 s).all fun c => Qdq c || Qiy c)
theorem QfJ (s : Str) : Qap s = some (Q7 s) := by
 unfold Qap Q7
 cases s with
 | nil => rfl
 | cons c s =>
  show (some (inW ((c :: s).length : Int) 1 12)).bind _ = _
  simp only [Option.bind_some]
  cases h : inW ((c :: s).length : Int) 1 12 with
  | false => rfl
  | true =>
   have hl := (Qc5 h).2
   rw [show idx (c :: s) (0 : Int) = some c from rfl]
   simp only [Sim.opt,Bool.not_true,beq_self_eq_true,if_true,Option.bind_some]
   rw [show QcF (c.toNat : Int) = some (Qdq (c.toNat : Int)) from rfl]
   simp only [Option.bind_some]
   cases hc : Qdq (c.toNat : Int) with
   | false => simp [hc]
   | true =>
    rw [if_neg (by decide),Qqj (p := fun c => !(Qdq c || Qiy c)) (by simp only [Q4,List.length_map]; omega) (fun x _ => ?_)]
    ·simp only [Option.bind_some]
     rw [Qi0]
     simp [hc]
    ·show (some (Qdq x)).bind _ = _
     simp only [Option.bind_some]
     cases h1 : Qdq x with
     | true => rfl
     | false => show some (true && !Qiy x) = _; rfl

theorem Qta {a b : List Str} (ha : a.length ≤ 1000000) : QbE a b = some (decide (a = b)) := by
 unfold QbE
 by_cases hl : a.length = b.length
 ·rw [if_neg (by simp [hl])]
  have : Ok ((QF (fun (s7 : Int) => ((if (decide (s7 < (a.length : Int))) = true then (idx a s7).bind fun t18 => (idx b s7).bind fun t22 => (if (t18 != t22) = true then (some (.inr (.inr false))) else (some (.inl (IntKind.i64.wrap (s7 + (1:Int)))))) else (some (.inr (.inl ())))) : Option ((Int) ⊕ ((Unit) ⊕ (Bool))))) (0:Int)).bind fun (e8 : (Unit) ⊕ (Bool)) => (match e8 with | .inl _ => (some true) | .inr p26 => (some p26))) (fun r => r = decide (a = b)) := by
   refine Ok.bind (P := fun e : Unit ⊕ Bool => (match e with | .inl _ => true | .inr p => p) = decide (a = b)) (Ok.loop (fun m s => 0 ≤ s ∧ s + m = a.length ∧ a.take s.toNat = b.take s.toNat) a.length ⟨Int.le_refl _,by omega,by simp⟩ fun m s hs => ?_) fun e he => by cases e <;> exact Ok.mk he
   obtain ⟨h1,h2,h3⟩ := hs
   obtain ⟨k,rfl⟩ := Int.eq_ofNat_of_zero_le h1
   simp only [Int.toNat_natCast] at h3
   refine Ok.ite (fun hk => ?_) (fun hk => ?_)
   ·have hk' : k < a.length := by simpa using hk
    rw [Qak hk',Qak (by omega)]
    simp only [Option.bind_some]
    refine Ok.ite (fun hne => Ok.mk ?_) (fun heq => Ok.mk ⟨m - 1,by omega,?_⟩)
    ·show false = _
     rw [Eq.comm,decide_eq_false_iff_not]
     rintro rfl
     simp at hne
    ·have heq' : a[k] = b[k] := by simpa using heq
     rw [Q8 hk' (by omega)]
     refine ⟨by omega,by omega,?_⟩
     rw [Int.toNat_natCast,List.take_succ_eq_append_getElem hk',List.take_succ_eq_append_getElem (by omega),h3,heq']
   ·have hk' : ¬ k < a.length := by simpa using hk
    refine Ok.mk ?_
    show true = _
    rw [List.take_of_length_le (by omega),List.take_of_length_le (by omega)] at h3
    simp [h3]
  obtain ⟨r,hr,rfl⟩ := this
  exact hr
 ·rw [if_pos (by simp; omega)]
  have : a ≠ b := fun h => hl (by rw [h])
  simp [this]
theorem eqInt {a b : List Int} (ha : a.length ≤ 1000000) : Qcd a b = some (decide (a = b)) := by
 unfold Qcd
 by_cases hl : a.length = b.length
 ·rw [if_neg (by simp [hl])]
  have : Ok ((QF (fun (s7 : Int) => ((if (decide (s7 < (a.length : Int))) = true then (idx a s7).bind fun t18 => (idx b s7).bind fun t22 => (if (t18 != t22) = true then (some (.inr (.inr false))) else (some (.inl (IntKind.i64.wrap (s7 + (1:Int)))))) else (some (.inr (.inl ())))) : Option ((Int) ⊕ ((Unit) ⊕ (Bool))))) (0:Int)).bind fun (e8 : (Unit) ⊕ (Bool)) => (match e8 with | .inl _ => (some true) | .inr p26 => (some p26))) (fun r => r = decide (a = b)) := by
   refine Ok.bind (P := fun e : Unit ⊕ Bool => (match e with | .inl _ => true | .inr p => p) = decide (a = b)) (Ok.loop (fun m s => 0 ≤ s ∧ s + m = a.length ∧ a.take s.toNat = b.take s.toNat) a.length ⟨Int.le_refl _,by omega,by simp⟩ fun m s hs => ?_) fun e he => by cases e <;> exact Ok.mk he
   obtain ⟨h1,h2,h3⟩ := hs
   obtain ⟨k,rfl⟩ := Int.eq_ofNat_of_zero_le h1
   simp only [Int.toNat_natCast] at h3
   refine Ok.ite (fun hk => ?_) (fun hk => ?_)
   ·have hk' : k < a.length := by simpa using hk
    rw [Qak hk',Qak (by omega)]
    simp only [Option.bind_some]
    refine Ok.ite (fun hne => Ok.mk ?_) (fun heq => Ok.mk ⟨m - 1,by omega,?_⟩)
    ·show false = _
     rw [Eq.comm,decide_eq_false_iff_not]
     rintro rfl
     simp at hne
    ·have heq' : a[k] = b[k] := by simpa using heq
     rw [Q8 hk' (by omega)]
     refine ⟨by omega,by omega,?_⟩
     rw [Int.toNat_natCast,List.take_succ_eq_append_getElem hk',List.take_succ_eq_append_getElem (by omega),h3,heq']
   ·have hk' : ¬ k < a.length := by simpa using hk
    refine Ok.mk ?_
    show true = _
    rw [List.take_of_length_le (by omega),List.take_of_length_le (by omega)] at h3
    simp [h3]
  obtain ⟨r,hr,rfl⟩ := this
  exact hr
 ·rw [if_pos (by simp; omega)]
  have : a ≠ b := fun h => hl (by rw [h])
  simp [this]

end Go.Proofs.YtcdccjagknlmpaaGreatDoor

namespace Go.Proofs.YtcdccjagknlmpaaGreatDoor
open Go.Sim

theorem Qse (l : List Int) {k : Nat} (h : k < l.length) : (l.take (k + 1)).sum = (l.take k).sum + l[k] := by
  rw [List.take_succ_eq_append_getElem h,List.sum_append]; simp
/-- Words and weights are right. -/
def Qj1 (ws : List Str) (gs : List Int) : Bool := (gs.all fun g => inW g 0 1048576) && (((inW (ws.length : Int) 1 12 && ((ws.length : Int) == (gs.length : Int))) && decide (gs.sum > 0)) && ws.all Q7)
theorem Qpj {ws : List Str} {gs : List Int} (hw : ws.length ≤ 1000000) (hg : gs.length ≤ 1000000) : Qb4 ws gs = some (Qj1 ws gs) := by
  have key : Ok (Qb4 ws gs) (fun r => r = Qj1 ws gs) := by
    unfold Qb4
    refine Ok.bind (P := fun e : Int ⊕ Bool => match e with | .inl s => (gs.all fun g => inW g 0 1048576) = true ∧ s = gs.sum | .inr p => p = false ∧ (gs.all fun g => inW g 0 1048576) = false)
      (Ok.loop (fun m s => 0 ≤ s.1 ∧ s.1 + m = gs.length ∧ ((gs.take s.1.toNat).all fun g => inW g 0 1048576) = true ∧ s.2 = (gs.take s.1.toNat).sum ∧ 0 ≤ s.2 ∧ s.2 ≤ s.1 * 1048576) gs.length ⟨Int.le_refl _,by dsimp only; omega,by simp,by simp,by simp,by simp⟩ fun m s hs => ?_) fun e he => ?_
    · obtain ⟨i,t⟩ := s
      obtain ⟨h1,h2,h3,h4,h5,h6⟩ := hs
      dsimp only at h1 h2 h3 h4 h5 h6
      obtain ⟨k,rfl⟩ := Int.eq_ofNat_of_zero_le h1
      simp only [Int.toNat_natCast] at h3 h4
      refine Ok.ite (fun hk => ?_) (fun hk => ?_)
      · have hk' : k < gs.length := by simpa using hk
        dsimp only
        rw [Qak hk']
        simp only [Option.bind_some]
        show Ok ((some (inW gs[k] 0 1048576)).bind _) _
        simp only [Option.bind_some]
        refine Ok.ite (fun hn => Ok.mk ⟨rfl,?_⟩) (fun hy => Ok.mk ⟨m - 1,by omega,?_⟩)
        · rw [List.all_eq_false]
          exact ⟨_,List.getElem_mem hk',by simpa using hn⟩
        · have hy' : inW gs[k] 0 1048576 = true := by simpa using hy
          have hb := Qc5 hy'
          dsimp only
          rw [Q8 hk' (by omega),w64 (n := t + gs[k]) (by omega) (by omega)]
          refine ⟨by omega,by omega,?_,?_,by omega,by omega⟩
          · rw [Int.toNat_natCast,List.take_succ_eq_append_getElem hk',List.all_append,h3]; simp [hy']
          · rw [Int.toNat_natCast,Qse gs hk',h4]
      · have hk' : ¬ k < gs.length := by simpa using hk
        rw [List.take_of_length_le (by omega)] at h3 h4
        exact Ok.mk ⟨h3,h4⟩
    · cases e with
      | inr p => obtain ⟨rfl,hp⟩ := he; refine Ok.mk ?_; unfold Qj1; rw [hp]; rfl
      | inl s =>
        obtain ⟨hp,rfl⟩ := he
        dsimp only
        show Ok ((some (inW (ws.length : Int) 1 12)).bind _) _
        simp only [Option.bind_some]
        rw [QmG (p := Q7) hw (fun x _ => QfJ x)]
        unfold Qj1
        rw [hp,Bool.true_and]
        cases (inW (ws.length : Int) 1 12 && ((ws.length : Int) == (gs.length : Int))) && decide (gs.sum > 0) with
        | false => exact Ok.mk rfl
        | true => exact Ok.mk rfl
  obtain ⟨r,hr,rfl⟩ := key
  exact hr

/-- A field with what its kind uses alone. -/
def Qhj (f : Qc) : Qc :=
  if f.Kind = 0 then ⟨f.Name,[],[],f.Kind,f.Lo,0,[],[]⟩
  else if f.Kind = 1 ∨ f.Kind = 4 ∨ f.Kind = 5 then ⟨f.Name,f.Of,[],f.Kind,f.Lo,f.Hi,[],[]⟩
  else if f.Kind = 2 then ⟨f.Name,[],[],f.Kind,f.Lo,f.Hi,[],[]⟩
  else if f.Kind = 3 then ⟨f.Name,[],[],f.Kind,0,0,f.Words,f.Weights⟩
  else if f.Kind = 6 then ⟨f.Name,f.Of,[],f.Kind,0,0,[],[]⟩
  else if f.Kind = 7 then ⟨f.Name,f.Of,f.Up,f.Kind,f.Lo,f.Hi,[],[]⟩
  else if f.Kind = 8 then ⟨f.Name,f.Of,f.Up,f.Kind,0,0,[],[]⟩
  else ⟨f.Name,[],[],f.Kind,0,0,[],[]⟩
theorem QuX (f : Qc) : Qer f = some (Qhj f) := by
  obtain ⟨n,o,u,k,lo,hi,w,g⟩ := f
  unfold Qer Qhj
  by_cases h0 : k = 0
  · subst h0; rfl
  by_cases h1 : k = 1
  · subst h1; rfl
  by_cases h4 : k = 4
  · subst h4; rfl
  by_cases h5 : k = 5
  · subst h5; rfl
  by_cases h2 : k = 2
  · subst h2; rfl
  by_cases h3 : k = 3
  · subst h3; rfl
  by_cases h6 : k = 6
  · subst h6; rfl
  by_cases h7 : k = 7
  · subst h7; rfl
  by_cases h8 : k = 8
  · subst h8; rfl
  simp [h0,h1,h2,h3,h4,h5,h6,h7,h8]
/-- Two fields are equal. -/
def Qhk (a b : Qc) : Bool := (((((((a.Name == b.Name) && (a.Of == b.Of)) && (a.Up == b.Up)) && (a.Kind == b.Kind)) && (a.Lo == b.Lo)) && (a.Hi == b.Hi)) && decide (a.Words = b.Words)) && decide (a.Weights = b.Weights)
theorem Qqk {a b : Qc} (h1 : a.Words.length ≤ 1000000) (h2 : a.Weights.length ≤ 1000000) : Qce a b = some (Qhk a b) := by
  unfold Qce Qhk
  rw [Qta h1,eqInt h2]
  cases ((((((a.Name == b.Name) && (a.Of == b.Of)) && (a.Up == b.Up)) && (a.Kind == b.Kind)) && (a.Lo == b.Lo)) && (a.Hi == b.Hi)) with
  | false => rfl
  | true =>
    simp only [Sim.opt,Bool.true_and,beq_self_eq_true,if_true,Option.bind_some]
    cases decide (a.Words = b.Words) <;> rfl
def QgH (f : Qc) : Bool :=
  if f.Kind = 0 then inW f.Lo (-1048576) 1048576
  else if f.Kind = 1 then Q7 f.Of && Qfd f.Lo f.Hi 0 65536
  else if f.Kind = 2 then Qfd f.Lo f.Hi (-1048576) 1048576
  else if f.Kind = 3 then Qj1 f.Words f.Weights
  else if f.Kind = 4 then ((f.Of == []) || Q7 f.Of) && Qfd f.Lo f.Hi (-1048576) 1048576
  else if f.Kind = 5 then Q7 f.Of && Qfd f.Lo f.Hi 0 32
  else if f.Kind = 6 then Q7 f.Of
  else if f.Kind = 7 then (Q7 f.Of && Q7 f.Up) && Qfd f.Lo f.Hi 0 1048576
  else if f.Kind = 8 then Q7 f.Of && Q7 f.Up
  else false
/-- A field is valid. -/
def QaT (f : Qc) : Bool := (Q7 f.Name && Qhk f (Qhj f)) && QgH f
theorem Qrj {f : Qc} (h1 : f.Words.length ≤ 1000000) (h2 : f.Weights.length ≤ 1000000) : Qc0 f = some (QaT f) := by
  unfold Qc0 QaT
  rw [QfJ,QuX]
  simp only [Option.bind_some]
  cases Q7 f.Name with
  | false => rfl
  | true =>
    simp only [Sim.opt,Bool.not_true,beq_self_eq_true,if_true,Option.bind_some]
    rw [Qqk h1 h2]
    simp only [Option.bind_some]
    cases Qhk f (Qhj f) with
    | false => rfl
    | true =>
      simp only [QfJ,Qpj h1 h2,Bool.true_and,Bool.not_true,Bool.or_self]
      rw [if_neg (by decide)]
      unfold QgH
      by_cases c0 : f.Kind = 0
      · rw [if_pos (by simp [c0]),if_pos c0]; rfl
      rw [if_neg (by simpa using c0),if_neg c0]
      by_cases c1 : f.Kind = 1
      · rw [if_pos (by simp [c1]),if_pos c1]; cases Q7 f.Of <;> rfl
      rw [if_neg (by simpa using c1),if_neg c1]
      by_cases c2 : f.Kind = 2
      · rw [if_pos (by simp [c2]),if_pos c2]; rfl
      rw [if_neg (by simpa using c2),if_neg c2]
      by_cases c3 : f.Kind = 3
      · rw [if_pos (by simp [c3]),if_pos c3]; rfl
      rw [if_neg (by simpa using c3),if_neg c3]
      by_cases c4 : f.Kind = 4
      · rw [if_pos (by simp [c4]),if_pos c4]; cases (f.Of == []) <;> cases Q7 f.Of <;> rfl
      rw [if_neg (by simpa using c4),if_neg c4]
      by_cases c5 : f.Kind = 5
      · rw [if_pos (by simp [c5]),if_pos c5]; cases Q7 f.Of <;> rfl
      rw [if_neg (by simpa using c5),if_neg c5]
      by_cases c6 : f.Kind = 6
      · rw [if_pos (by simp [c6]),if_pos c6]; rfl
      rw [if_neg (by simpa using c6),if_neg c6]
      by_cases c7 : f.Kind = 7
      · rw [if_pos (by simp [c7]),if_pos c7]; cases Q7 f.Of <;> cases Q7 f.Up <;> rfl
      rw [if_neg (by simpa using c7),if_neg c7]
      by_cases c8 : f.Kind = 8
      · rw [if_pos (by simp [c8]),if_pos c8]; cases Q7 f.Of <;> rfl
      rw [if_neg (by simpa using c8),if_neg c8]

/-- A kind, a life, a rule is valid. -/
def Qfe (k : Qj) : Bool := ((Q7 k.Name && Qfd k.Lo k.Hi 0 65536) && decide ((k.Fields.length : Int) ≤ 10)) && k.Fields.all QaT
def QmH (l : List Qc) : Prop := l.length ≤ 1000000 ∧ ∀ f ∈ l,f.Words.length ≤ 1000000 ∧ f.Weights.length ≤ 1000000
theorem Qsf {k : Qj} (h : QmH k.Fields) : Qdl k = some (Qfe k) := by
  unfold Qdl Qfe
  rw [QfJ,Qs9 (p := QaT) h.1 (fun f hf => Qrj (h.2 f hf).1 (h.2 f hf).2)]
  simp only [Option.bind_some]
  cases Q7 k.Name with
  | false => rfl
  | true =>
    show (opt true (some (Qfd k.Lo k.Hi 0 65536)) default).bind _ = _
    simp only [Sim.opt,Bool.true_and,if_true,Option.bind_some]
    cases Qfd k.Lo k.Hi 0 65536 with
    | false => rfl
    | true =>
      cases hd : decide ((k.Fields.length : Int) ≤ 10) with
      | false => rfl
      | true => rfl
def Qjn (n : Int) (m : QT) : Bool := inW m.a0 0 (n - 1) && inW m.a1 0 (n - 1)
def QfW (x : Qo) : Bool := (((Q7 x.Name && inW (x.States.length : Int) 1 12) && x.States.all Q7) && decide ((x.Moves.length : Int) ≤ 32)) && x.Moves.all (Qjn (x.States.length : Int))
theorem Qsg {x : Qo} (h1 : x.States.length ≤ 1000000) (h2 : x.Moves.length ≤ 1000000) : Qdm x = some (QfW x) := by
  have hm : ∀ m ∈ x.Moves,QcH m (x.States.length : Int) = some (Qjn (x.States.length : Int) m) := fun m _ => by
    unfold QcH Qjn
    rw [w64 (by omega) (by omega)]
    show (some (inW m.a0 0 ((x.States.length : Int) - 1))).bind _ = _
    simp only [Option.bind_some]
    cases inW m.a0 0 ((x.States.length : Int) - 1) <;> rfl
  unfold Qdm QfW
  rw [QfJ,QmG (p := Q7) h1 (fun s _ => QfJ s),Qsd (p := Qjn (x.States.length : Int)) h2 hm]
  simp only [Option.bind_some]
  cases Q7 x.Name with
  | false => rfl
  | true =>
    show (opt true (some (inW (x.States.length : Int) 1 12)) default).bind _ = _
    simp only [Sim.opt,Bool.true_and,if_true,Option.bind_some]
    cases inW (x.States.length : Int) 1 12 with
    | false => rfl
    | true =>
      simp only [Bool.true_and,beq_self_eq_true,if_true,Option.bind_some]
      cases x.States.all Q7 with
      | false => rfl
      | true => cases decide ((x.Moves.length : Int) ≤ 32) <;> rfl
def QfX (r : Qn) : Bool := ((((Q7 r.Name && Q7 r.Kind) && ((r.A == []) || Q7 r.A)) && ((r.B == []) || Q7 r.B)) && (r.A ++ r.B != [])) && inW r.N (-1048576) 1048576
theorem QbI {s : Str} (h : Q7 s = true) : s.length ≤ 12 := by
  unfold Q7 at h
  simp only [Bool.and_eq_true] at h
  have := (Qc5 h.1).2
  omega
theorem Qsh (r : Qn) : Qdn r = some (QfX r) := by
  have len : ∀ s : Str,((s == []) || Q7 s) = true → s.length ≤ 12 := fun s h => by
    rcases Bool.or_eq_true _ _ |>.mp h with h | h
    · have : s = [] := by simpa using h
      subst this; simp
    · exact QbI h
  unfold Qdn QfX
  simp only [QfJ]
  simp only [Option.bind_some]
  cases Q7 r.Name with
  | false => rfl
  | true =>
    simp only [Sim.opt,Bool.true_and,beq_self_eq_true,if_true,Option.bind_some]
    cases Q7 r.Kind with
    | false => rfl
    | true =>
      simp only [Bool.true_and,beq_self_eq_true,Bool.true_and]
      have la := len r.A
      have lb := len r.B
      cases ha : (r.A == []) <;> cases hna : Q7 r.A <;> cases hb : (r.B == []) <;> cases hnb : Q7 r.B <;> first
        | rfl
        | (rw [ha,hna] at la; rw [hb,hnb] at lb
           have e : cat (r.A.length + r.B.length) = some () := if_pos (by have := la rfl; have := lb rfl; omega)
           simp only [e,Bool.false_or,Bool.or_false,Bool.true_or,Bool.or_true,Bool.and_true,Bool.true_and,Bool.and_self,beq_self_eq_true,if_true,Option.bind_some]
           cases (r.A ++ r.B != []) <;> rfl)

end Go.Proofs.YtcdccjagknlmpaaGreatDoor

namespace Go.Proofs.YtcdccjagknlmpaaGreatDoor
open Go.Sim

theorem Qiz : ∀ (k u : Nat),u < 10 ^ (k + 1) → (Lib.decDigits u).length ≤ k + 1
 | 0,u,h => by rw [Lib.decDigits,dif_pos (by simpa using h)]; simp
 | k + 1,u,h => by
  rw [Lib.decDigits]
  split
  ·simp
  ·have := Qiz k (u / 10) (by rw [Nat.pow_succ] at h; omega)
   rw [List.length_append,List.length_singleton]; omega
theorem Qcf {n : Int} (h : I64 n) : (Lib.itoa n).length ≤ 20 := by
 unfold I64 at h
 unfold Lib.itoa
 split
 ·have := Qiz 18 n.natAbs (by omega)
  rw [List.length_cons]; omega
 ·have := Qiz 18 n.toNat (by omega)
  omega
theorem QuY {n : Int} (h : I64 n) : QlF n = some (Lib.itoa n) := if_pos h

/-- The text of a value. -/
def QdL : AnyV → Str
 | .int n => Lib.itoa n
 | .str s => s
def VOk : AnyV → Prop
 | .int n => I64 n
 | .str s => s.length ≤ 100
theorem QlP {v : AnyV} (h : VOk v) : (QdL v).length ≤ 100 := by
 cases v with
 | int n => have := Qcf h; show (Lib.itoa n).length ≤ 100; omega
 | str s => exact h
/-- A blank and a value, for each. -/
def toks (l : List AnyV) : Str := l.flatMap fun v => 32 :: QdL v
theorem Qnv {l : List AnyV} (h : ∀ v ∈ l,VOk v) : (toks l).length ≤ l.length * 101 := by
 induction l with
 | nil => simp [toks]
 | cons v l ih =>
  have h1 := ih fun u hu => h u (List.mem_cons_of_mem _ hu)
  have h2 := QlP (h v List.mem_cons_self)
  have e : toks (v :: l) = (32 :: QdL v) ++ toks l := rfl
  rw [e,List.length_append,List.length_cons,List.length_cons]
  omega
def QeN (w : Str) (l : List AnyV) : Str := w ++ toks l ++ [10]
theorem QfY {a b : Str} (h : a.length + b.length ≤ 68719476736) : Qaw a b = some (a ++ b) := if_pos h
theorem Qkf {w : Str} {l : List AnyV} (h1 : 1 ≤ w.length) (h2 : w.length ≤ 10) (hl : l.length ≤ 1000) (hv : ∀ v ∈ l,VOk v) : QaC w l = some (QeN w l) := by
 have key : Ok (QaC w l) (fun r => r = QeN w l) := by
  unfold QaC
  rw [QfY (by simp; omega)]
  simp only [Option.bind_some,List.nil_append]
  refine Ok.bind (P := fun r => r = w ++ toks l) (Ok.loop (fun m s => 0 ≤ s.1 ∧ s.1 + m = l.length ∧ s.2 = w ++ toks (l.take s.1.toNat)) l.length ⟨Int.le_refl _,by dsimp only; omega,by simp [toks]⟩ fun m s hs => ?_) fun r hr => ?_
  ·obtain ⟨i,t⟩ := s
   obtain ⟨e1,e2,e3⟩ := hs
   dsimp only at e1 e2 e3
   obtain ⟨k,rfl⟩ := Int.eq_ofNat_of_zero_le e1
   rw [Int.toNat_natCast] at e3
   subst e3
   refine Ok.ite (fun hk => ?_) (fun hk => ?_)
   ·have hk' : k < l.length := by simpa using hk
    have hvk := hv _ (List.getElem_mem hk')
    have hlen := Qnv (l := l.take k) fun v hm => hv v (List.mem_of_mem_take hm)
    have htl := QlP hvk
    have hlk : (l.take k).length ≤ 1000 := by rw [List.length_take]; omega
    dsimp only
    rw [Qak hk']
    simp only [Option.bind_some]
    have eb : Qhx (w ++ toks (l.take k)) 32 = some (w ++ toks (l.take k) ++ [32]) := if_pos ⟨by decide,by decide,by rw [List.length_append]; omega⟩
    rw [eb]
    simp only [Option.bind_some]
    refine Ok.bind (P := fun p => p = w ++ toks (l.take k) ++ [32] ++ QdL l[k]) ?_ fun p hp => Ok.mk ⟨m - 1,by omega,?_⟩
    ·cases hk2 : l[k] with
     | int n =>
      rw [hk2] at hvk htl
      show Ok (if true = true then _ else _) _
      rw [if_pos rfl]
      show Ok ((QlF n).bind _) _
      rw [QuY hvk]
      simp only [Option.bind_some]
      have hi := Qcf hvk
      rw [QfY (by simp only [List.length_append,List.length_singleton]; omega)]
      exact Ok.mk rfl
     | str s =>
      rw [hk2] at hvk htl
      show Ok (if false = true then _ else ((if true = true then (Qaw (w ++ toks (l.take k) ++ [32]) s).bind _ else _)).bind _) _
      rw [if_neg (by decide),if_pos rfl]
      have hs : s.length ≤ 100 := hvk
      rw [QfY (by simp only [List.length_append,List.length_singleton]; omega)]
      exact Ok.mk rfl
    ·subst hp
     dsimp only
     rw [Q8 hk' (by omega)]
     refine ⟨by omega,by omega,?_⟩
     rw [Int.toNat_natCast,List.take_succ_eq_append_getElem hk']
     simp only [toks,List.flatMap_append,List.flatMap_cons,List.flatMap_nil,List.append_nil,List.append_assoc,List.cons_append,List.nil_append]
   ·have hk' : ¬ k < l.length := by simpa using hk
    refine Ok.mk ?_
    dsimp only
    rw [List.take_of_length_le (by omega)]
  ·subst hr
   have hlen := Qnv hv
   have eb : QfT (w ++ toks l) = some (w ++ toks l) := if_neg fun h => by
    have := congrArg List.length h
    rw [List.length_append,List.length_nil] at this; omega
   rw [eb]
   simp only [Option.bind_some]
   exact Ok.cat (by rw [List.length_append,List.length_singleton]; omega) (Ok.mk rfl)
 obtain ⟨r,hr,rfl⟩ := key
 exact hr
theorem QgZ {w : Str} {l : List AnyV} (h2 : w.length ≤ 10) (hv : ∀ v ∈ l,VOk v) : (QeN w l).length ≤ 11 + l.length * 101 := by
 have := Qnv hv
 unfold QeN
 rw [List.length_append,List.length_append,List.length_singleton]; omega

/-- The token of a name that may be empty. -/
def Qa5 (s : Str) : Str := if s = [] then [45] else s
theorem Qnw (s : Str) : Qcz s = some (Qa5 s) := by
 unfold Qcz Qef
 have key : ∀ body : Int → Option (Int ⊕ (Unit ⊕ Str)),(body 0 = if (s != []) = true then some (.inr (.inr s)) else some (.inl 1)) → body 1 = some (.inr (.inr [45])) →
   QF body 0 = some (.inr (Qa5 s)) := fun body h0 h1 => by
  rw [QcY,h0]
  unfold Qa5
  by_cases hs : s = []
  ·rw [if_neg (by simp [hs]),if_pos hs]
   show QF body 1 = _
   rw [QcY,h1]
  ·rw [if_pos (by simpa using hs),if_neg hs]
 rw [key _ rfl rfl]; rfl

/-- What a line of a field says. -/
def QaL (f : Qc) : List AnyV :=
 if f.Kind = 0 then [.str f.Name,.int f.Lo]
 else if f.Kind = 2 then [.str f.Name,.int f.Lo,.int f.Hi]
 else if f.Kind = 3 then [.str f.Name,.int (f.Words.length : Int)] ++ (f.Words.zip f.Weights).flatMap fun p => [.str p.1,.int p.2]
 else if f.Kind = 6 then [.str f.Name,.str f.Of]
 else if f.Kind = 7 then [.str f.Name,.str f.Up,.str f.Of,.int f.Lo,.int f.Hi]
 else if f.Kind = 8 then [.str f.Name,.str f.Up,.str f.Of]
 else [.str f.Name,.str (Qa5 f.Of),.int f.Lo,.int f.Hi]
def QlQ (f : Qc) : Str := Qkk[f.Kind.toNat]?.getD []
/-- The line of a field. -/
def Qff (f : Qc) : Str := QeN (QlQ f) (QaL f)

end Go.Proofs.YtcdccjagknlmpaaGreatDoor

namespace Go.Proofs.YtcdccjagknlmpaaGreatDoor
open Go.Sim

theorem QfB {s : Str} (h : Q7 s = true) : VOk (.str s) := by have := QbI h; show s.length ≤ 100; omega
theorem Qi1 {s : Str} (h : ((s == []) || Q7 s) = true) : VOk (.str (Qa5 s)) := by
 unfold Qa5
 by_cases hs : s = []
 ·rw [if_pos hs]; show ([45] : Str).length ≤ 100; decide
 ·rw [if_neg hs]
  have : Q7 s = true := by simpa [hs] using h
  exact QfB this
theorem QbP {n : Int} (h : -100000000 ≤ n ∧ n ≤ 100000000) : VOk (.int n) := by show I64 n; unfold I64; omega
theorem Qsi {l : List Str} {g : List Int} (h : l.length = g.length) (k : Nat) (hk : k < l.length) : (((l.zip g).take k).flatMap fun p => [AnyV.str p.1,AnyV.int p.2]) ++ [AnyV.str l[k],AnyV.int (g[k]'(by omega))] = ((l.zip g).take (k + 1)).flatMap fun p => [AnyV.str p.1,AnyV.int p.2] := by
 rw [List.take_succ_eq_append_getElem (by rw [List.length_zip]; omega),List.flatMap_append,List.getElem_zip]
 rfl
theorem Qpk (l : List (Str × Int)) : (l.flatMap fun p => [AnyV.str p.1,AnyV.int p.2]).length = 2 * l.length := by
 induction l with
 | nil => rfl
 | cons a l ih => rw [List.flatMap_cons,List.length_append,ih]; simp; omega
/-- What a valid field is. -/
structure QoY (f : Qc) : Prop where
 kind : 0 ≤ f.Kind ∧ f.Kind ≤ 8
 items : ∀ v ∈ QaL f,VOk v
 count : (QaL f).length ≤ 30
 pick : f.Kind = 3 → f.Words.length = f.Weights.length ∧ f.Words.length ≤ 12
theorem Qe3 {lo hi a b : Int} (h : Qfd lo hi a b = true) : a ≤ lo ∧ lo ≤ hi ∧ hi ≤ b := by
 simp only [Qfd,Bool.and_eq_true,decide_eq_true_eq] at h; omega
theorem QjC {f : Qc} (h : QaT f = true) : QoY f := by
 unfold QaT at h
 simp only [Bool.and_eq_true] at h
 obtain ⟨⟨hn,_⟩,hp⟩ := h
 have hnv := QfB hn
 unfold QgH at hp
 by_cases c0 : f.Kind = 0
 ·rw [if_pos c0] at hp
  have e : QaL f = [.str f.Name,.int f.Lo] := by unfold QaL; rw [if_pos c0]
  refine ⟨by omega,?_,by rw [e]; simp,fun h => by omega⟩
  have := Qc5 hp
  rw [e]; simp only [List.mem_cons,List.not_mem_nil,or_false,forall_eq_or_imp,forall_eq]
  exact ⟨hnv,QbP (by omega)⟩
 rw [if_neg c0] at hp
 by_cases c1 : f.Kind = 1
 ·rw [if_pos c1] at hp
  simp only [Bool.and_eq_true] at hp
  have e : QaL f = [.str f.Name,.str (Qa5 f.Of),.int f.Lo,.int f.Hi] := by unfold QaL; simp [c1]
  have := Qe3 hp.2
  refine ⟨by omega,?_,by rw [e]; simp,fun h => by omega⟩
  rw [e]; simp only [List.mem_cons,List.not_mem_nil,or_false,forall_eq_or_imp,forall_eq]
  exact ⟨hnv,Qi1 (by rw [hp.1]; simp),QbP (by omega),QbP (by omega)⟩
 rw [if_neg c1] at hp
 by_cases c2 : f.Kind = 2
 ·rw [if_pos c2] at hp
  have e : QaL f = [.str f.Name,.int f.Lo,.int f.Hi] := by unfold QaL; simp [c2]
  have := Qe3 hp
  refine ⟨by omega,?_,by rw [e]; simp,fun h => by omega⟩
  rw [e]; simp only [List.mem_cons,List.not_mem_nil,or_false,forall_eq_or_imp,forall_eq]
  exact ⟨hnv,QbP (by omega),QbP (by omega)⟩
 rw [if_neg c2] at hp
 by_cases c3 : f.Kind = 3
 ·rw [if_pos c3] at hp
  simp only [Qj1,Bool.and_eq_true,List.all_eq_true,beq_iff_eq] at hp
  obtain ⟨hg,⟨⟨hw,hl⟩,_⟩,hws⟩ := hp
  have hw' := (Qc5 hw).2
  have hl' : f.Words.length = f.Weights.length := by omega
  have e : QaL f = [.str f.Name,.int (f.Words.length : Int)] ++ (f.Words.zip f.Weights).flatMap fun p => [.str p.1,.int p.2] := by unfold QaL; simp [c3]
  refine ⟨by omega,?_,?_,fun _ => ⟨hl',by omega⟩⟩
  ·rw [e]
   intro v hv
   rcases List.mem_append.1 hv with hv | hv
   ·simp only [List.mem_cons,List.not_mem_nil,or_false] at hv
    rcases hv with rfl | rfl
    ·exact hnv
    ·exact QbP (by omega)
   ·obtain ⟨p,hp,hv⟩ := List.mem_flatMap.1 hv
    obtain ⟨a,b⟩ := p
    have hz := List.of_mem_zip hp
    simp only [List.mem_cons,List.not_mem_nil,or_false] at hv
    rcases hv with rfl | rfl
    ·exact QfB (hws _ hz.1)
    ·have := Qc5 (hg _ hz.2); exact QbP (by omega)
  ·rw [e,List.length_append,Qpk,List.length_zip]
   simp only [List.length_cons,List.length_nil]
   omega
 rw [if_neg c3] at hp
 by_cases c4 : f.Kind = 4
 ·rw [if_pos c4] at hp
  simp only [Bool.and_eq_true] at hp
  have e : QaL f = [.str f.Name,.str (Qa5 f.Of),.int f.Lo,.int f.Hi] := by unfold QaL; simp [c4]
  have := Qe3 hp.2
  refine ⟨by omega,?_,by rw [e]; simp,fun h => by omega⟩
  rw [e]; simp only [List.mem_cons,List.not_mem_nil,or_false,forall_eq_or_imp,forall_eq]
  exact ⟨hnv,Qi1 hp.1,QbP (by omega),QbP (by omega)⟩
 rw [if_neg c4] at hp
 by_cases c5 : f.Kind = 5
 ·rw [if_pos c5] at hp
  simp only [Bool.and_eq_true] at hp
  have e : QaL f = [.str f.Name,.str (Qa5 f.Of),.int f.Lo,.int f.Hi] := by unfold QaL; simp [c5]
  have := Qe3 hp.2
  refine ⟨by omega,?_,by rw [e]; simp,fun h => by omega⟩
  rw [e]; simp only [List.mem_cons,List.not_mem_nil,or_false,forall_eq_or_imp,forall_eq]
  exact ⟨hnv,Qi1 (by rw [hp.1]; simp),QbP (by omega),QbP (by omega)⟩
 rw [if_neg c5] at hp
 by_cases c6 : f.Kind = 6
 ·rw [if_pos c6] at hp
  have e : QaL f = [.str f.Name,.str f.Of] := by unfold QaL; simp [c6]
  refine ⟨by omega,?_,by rw [e]; simp,fun h => by omega⟩
  rw [e]; simp only [List.mem_cons,List.not_mem_nil,or_false,forall_eq_or_imp,forall_eq]
  exact ⟨hnv,QfB hp⟩
 rw [if_neg c6] at hp
 by_cases c7 : f.Kind = 7
 ·rw [if_pos c7] at hp
  simp only [Bool.and_eq_true] at hp
  have e : QaL f = [.str f.Name,.str f.Up,.str f.Of,.int f.Lo,.int f.Hi] := by unfold QaL; simp [c7]
  have := Qe3 hp.2
  refine ⟨by omega,?_,by rw [e]; simp,fun h => by omega⟩
  rw [e]; simp only [List.mem_cons,List.not_mem_nil,or_false,forall_eq_or_imp,forall_eq]
  exact ⟨hnv,QfB hp.1.2,QfB hp.1.1,QbP (by omega),QbP (by omega)⟩
 rw [if_neg c7] at hp
 by_cases c8 : f.Kind = 8
 ·rw [if_pos c8] at hp
  simp only [Bool.and_eq_true] at hp
  have e : QaL f = [.str f.Name,.str f.Up,.str f.Of] := by unfold QaL; simp [c8]
  refine ⟨by omega,?_,by rw [e]; simp,fun h => by omega⟩
  rw [e]; simp only [List.mem_cons,List.not_mem_nil,or_false,forall_eq_or_imp,forall_eq]
  exact ⟨hnv,QfB hp.2,QfB hp.1⟩
 rw [if_neg c8] at hp
 cases hp
theorem Qpl {f : Qc} (h : 0 ≤ f.Kind ∧ f.Kind ≤ 8) : idx Qkk f.Kind = some (QlQ f) ∧ 1 ≤ (QlQ f).length ∧ (QlQ f).length ≤ 10 := by
 obtain ⟨k,hk⟩ := Int.eq_ofNat_of_zero_le h.1
 have hk8 : k ≤ 8 := by omega
 unfold QlQ
 rw [hk,QmX,Int.toNat_natCast]
 have : k = 0 ∨ k = 1 ∨ k = 2 ∨ k = 3 ∨ k = 4 ∨ k = 5 ∨ k = 6 ∨ k = 7 ∨ k = 8 := by omega
 rcases this with rfl | rfl | rfl | rfl | rfl | rfl | rfl | rfl | rfl <;> exact ⟨rfl,by decide,by decide⟩
theorem Qtb {f : Qc} (h : QoY f) : QdO f = some (Qff f) := by
 obtain ⟨e0,w1,w2⟩ := Qpl h.kind
 have fin : QaC (QlQ f) (QaL f) = some (Qff f) := Qkf w1 w2 (by have := h.count; omega) h.items
 unfold QdO
 rw [e0]
 simp only [Option.bind_some]
 by_cases c0 : f.Kind = 0
 ·rw [if_pos (by simp [c0])]
  have e : QaL f = [.str f.Name,.int f.Lo] := by unfold QaL; simp [c0]
  rw [← e,fin]; rfl
 rw [if_neg (by simpa using c0)]
 by_cases c2 : f.Kind = 2
 ·rw [if_pos (by simp [c2])]
  have e : QaL f = [.str f.Name,.int f.Lo,.int f.Hi] := by unfold QaL; simp [c2]
  rw [← e,fin]; rfl
 rw [if_neg (by simpa using c2)]
 by_cases c3 : f.Kind = 3
 ·rw [if_pos (by simp [c3])]
  obtain ⟨p1,p2⟩ := h.pick c3
  have e : QaL f = [.str f.Name,.int (f.Words.length : Int)] ++ (f.Words.zip f.Weights).flatMap fun p => [.str p.1,.int p.2] := by unfold QaL; simp [c3]
  refine Qkt f.Words.length (fun n => ((n : Int),[.str f.Name,.int (f.Words.length : Int)] ++ ((f.Words.zip f.Weights).take n).flatMap fun p => [.str p.1,.int p.2])) _ (by simp) (fun n hn => ?_) (if_neg (by simp)) ?_
  ·have hlen : (((f.Words.zip f.Weights).take n).flatMap fun p => [AnyV.str p.1,AnyV.int p.2]).length ≤ 100 := by
    rw [Qpk,List.length_take,List.length_zip]; omega
   rw [if_pos (by simpa using hn)]
   dsimp only
   rw [Qak hn,Qak (by omega)]
   simp only [Option.bind_some]
   rw [Qhh (by simp only [List.length_append,List.length_cons,List.length_nil]; omega),Q8 hn (by omega),← Qsi p1 n hn,List.append_assoc]
   rfl
  ·dsimp only
   rw [List.take_of_length_le (by rw [List.length_zip]; omega),← e,fin]; rfl
 rw [if_neg (by simpa using c3)]
 by_cases c6 : f.Kind = 6
 ·rw [if_pos (by simp [c6])]
  have e : QaL f = [.str f.Name,.str f.Of] := by unfold QaL; simp [c6]
  rw [← e,fin]; rfl
 rw [if_neg (by simpa using c6)]
 by_cases c7 : f.Kind = 7
 ·rw [if_pos (by simp [c7])]
  have e : QaL f = [.str f.Name,.str f.Up,.str f.Of,.int f.Lo,.int f.Hi] := by unfold QaL; simp [c7]
  rw [← e,fin]; rfl
 rw [if_neg (by simpa using c7)]
 by_cases c8 : f.Kind = 8
 ·rw [if_pos (by simp [c8])]
  have e : QaL f = [.str f.Name,.str f.Up,.str f.Of] := by unfold QaL; simp [c8]
  rw [← e,fin]; rfl
 rw [if_neg (by simpa using c8),Qnw]
 simp only [Option.bind_some]
 have e : QaL f = [.str f.Name,.str (Qa5 f.Of),.int f.Lo,.int f.Hi] := by unfold QaL; simp [c0,c2,c3,c6,c7,c8]
 rw [← e,fin]; rfl
theorem QhG {f : Qc} (h : QoY f) : (Qff f).length ≤ 4000 := by
 have := QgZ (Qpl h.kind).2.2 h.items
 have := h.count
 unfold Qff
 omega

end Go.Proofs.YtcdccjagknlmpaaGreatDoor

namespace Go.Proofs.YtcdccjagknlmpaaGreatDoor
open Go.Sim

/-- A loop that appends. -/
theorem QdT {α : Type} (l : List α) (g : α → Str) (B : Nat) (hB : ∀ a ∈ l,(g a).length ≤ B) (a0 : Str) {body : Int × Str → Option ((Int × Str) ⊕ Str)}
  (hs : ∀ k (h : k < l.length) acc,acc.length ≤ a0.length + k * B → body ((k : Int),acc) = some (.inl (((k + 1 : Nat) : Int),acc ++ g l[k]))) (he : ∀ acc,body ((l.length : Int),acc) = some (.inr acc)) :
  QF body ((0 : Int),a0) = some (a0 ++ l.flatMap g) := by
 have hlen : ∀ n,n ≤ l.length → ((l.take n).flatMap g).length ≤ n * B := fun n => by
  induction n with
  | zero => intro _; simp
  | succ n ih =>
   intro hn
   rw [List.take_succ_eq_append_getElem (by omega),List.flatMap_append,List.length_append,Nat.succ_mul]
   have h1 := ih (by omega)
   have h2 := hB _ (List.getElem_mem (show n < l.length by omega))
   simp only [List.flatMap_cons,List.flatMap_nil,List.append_nil]
   omega
 have h := Qjl (body := body) l.length (fun n => ((n : Int),a0 ++ (l.take n).flatMap g)) (a0 ++ l.flatMap g) (fun k hk => ?_) ?_
 ·simpa using h
 ·rw [hs k hk _ (by rw [List.length_append]; have := hlen k (by omega); omega),List.take_succ_eq_append_getElem hk,List.flatMap_append]
  simp
 ·rw [he]; simp

def QfC (k : Qj) : Str := QeN [107,105,110,100] [.str k.Name,.int k.Lo,.int k.Hi] ++ k.Fields.flatMap Qff
def Qh8 (m : QT) : Str := QeN [109,111,118,101] [.int m.a0,.int m.a1]
def Qgy (l : Qo) : Str := QeN [108,105,102,101] ([.str l.Name,.int (l.States.length : Int)] ++ l.States.map .str) ++ l.Moves.flatMap Qh8
def QfK (r : Qn) : List AnyV := [.str r.Name,.str r.Kind,.str (Qa5 r.A),.str (Qa5 r.B),.int r.N]
def Qi2 (r : Qn) : Str := QeN [114,117,108,101] (QfK r)
/-- The source. -/
def srcS (x : Qh) : Str := QeN [115,99,104,101,109,97] [.int x.Version] ++ x.Kinds.flatMap QfC ++ x.Lives.flatMap Qgy ++ x.Rules.flatMap Qi2

theorem QjD {k : Qj} (h : Qfe k = true) : (∀ v ∈ [AnyV.str k.Name,.int k.Lo,.int k.Hi],VOk v) ∧ k.Fields.length ≤ 10 ∧ ∀ f ∈ k.Fields,QaT f = true := by
 simp only [Qfe,Bool.and_eq_true,List.all_eq_true,decide_eq_true_eq] at h
 obtain ⟨⟨⟨h1,h2⟩,h3⟩,h4⟩ := h
 have := Qe3 h2
 refine ⟨?_,by omega,h4⟩
 simp only [List.mem_cons,List.not_mem_nil,or_false,forall_eq_or_imp,forall_eq]
 exact ⟨QfB h1,QbP (by omega),QbP (by omega)⟩
theorem Qg0 {α : Type} {l : List α} {g : α → Str} {B : Nat} (h : ∀ a ∈ l,(g a).length ≤ B) : (l.flatMap g).length ≤ l.length * B := by
 induction l with
 | nil => simp
 | cons a l ih =>
  have h1 := ih fun b hb => h b (List.mem_cons_of_mem _ hb)
  have h2 := h a List.mem_cons_self
  rw [List.flatMap_cons,List.length_append,List.length_cons,Nat.succ_mul]; omega
theorem QkW {k : Qj} (h : Qfe k = true) : (QfC k).length ≤ 50000 := by
 obtain ⟨h1,h2,h3⟩ := QjD h
 have e1 := QgZ (w := [107,105,110,100]) (by decide) h1
 have e2 := Qg0 (l := k.Fields) (g := Qff) (B := 4000) fun f hf => QhG (QjC (h3 f hf))
 unfold QfC
 rw [List.length_append]
 simp only [List.length_cons,List.length_nil] at e1
 omega
theorem Qsj {n : Int} (hn : n ≤ 1000) {m : QT} (h : Qjn n m = true) : ∀ v ∈ [AnyV.int m.a0,.int m.a1],VOk v := by
 simp only [Qjn,Bool.and_eq_true] at h
 have h1 := Qc5 h.1
 have h2 := Qc5 h.2
 simp only [List.mem_cons,List.not_mem_nil,or_false,forall_eq_or_imp,forall_eq]
 exact ⟨QbP (by omega),QbP (by omega)⟩
theorem Qsk {l : Qo} (h : QfW l = true) : (∀ v ∈ [AnyV.str l.Name,.int (l.States.length : Int)] ++ l.States.map .str,VOk v) ∧ l.States.length ≤ 12 ∧ l.Moves.length ≤ 32 ∧ ∀ m ∈ l.Moves,∀ v ∈ [AnyV.int m.a0,.int m.a1],VOk v := by
 simp only [QfW,Bool.and_eq_true,List.all_eq_true,decide_eq_true_eq] at h
 obtain ⟨⟨⟨⟨h1,h2⟩,h3⟩,h4⟩,h5⟩ := h
 have hl := (Qc5 h2).2
 refine ⟨fun v hv => ?_,by omega,by omega,fun m hm => Qsj (by omega) (h5 m hm)⟩
 rcases List.mem_append.1 hv with hv | hv
 ·simp only [List.mem_cons,List.not_mem_nil,or_false] at hv
  rcases hv with rfl | rfl
  ·exact QfB h1
  ·exact QbP (by omega)
 ·obtain ⟨s,hs,rfl⟩ := List.mem_map.1 hv
  exact QfB (h3 s hs)
theorem Qjo {m : QT} (h : ∀ v ∈ [AnyV.int m.a0,.int m.a1],VOk v) : (Qh8 m).length ≤ 300 := by
 have := QgZ (w := [109,111,118,101]) (by decide) h
 simp only [List.length_cons,List.length_nil] at this
 unfold Qh8; omega
theorem Qjp {l : Qo} (h : QfW l = true) : (Qgy l).length ≤ 20000 := by
 obtain ⟨h1,h2,h3,h4⟩ := Qsk h
 have e1 := QgZ (w := [108,105,102,101]) (by decide) h1
 have e2 := Qg0 (l := l.Moves) (g := Qh8) (B := 300) fun m hm => Qjo (h4 m hm)
 unfold Qgy
 rw [List.length_append]
 simp only [List.length_append,List.length_cons,List.length_nil,List.length_map] at e1
 omega
theorem Qsl {r : Qn} (h : QfX r = true) : ∀ v ∈ QfK r,VOk v := by
 simp only [QfX,Bool.and_eq_true] at h
 obtain ⟨⟨⟨⟨⟨h1,h2⟩,h3⟩,h4⟩,_⟩,h5⟩ := h
 have := Qc5 h5
 unfold QfK
 simp only [List.mem_cons,List.not_mem_nil,or_false,forall_eq_or_imp,forall_eq]
 exact ⟨QfB h1,QfB h2,Qi1 h3,Qi1 h4,QbP (by omega)⟩
theorem QkX {r : Qn} (h : QfX r = true) : (Qi2 r).length ≤ 1000 := by
 have := QgZ (w := [114,117,108,101]) (by decide) (Qsl h)
 have e : (QfK r).length = 5 := rfl
 unfold Qi2; omega

/-- A schema is valid, apart from the length of its source. -/
def QhB (x : Qh) : Bool := ((((inW x.Version 0 1048576 && decide ((x.Kinds.length : Int) ≤ 6)) && decide ((x.Lives.length : Int) ≤ 6)) && decide ((x.Rules.length : Int) ≤ 16)) && x.Kinds.all Qfe) && x.Lives.all QfW && x.Rules.all QfX
structure Qlm (x : Qh) : Prop where
 version : 0 ≤ x.Version ∧ x.Version ≤ 1048576
 kinds : x.Kinds.length ≤ 6
 lives : x.Lives.length ≤ 6
 rules : x.Rules.length ≤ 16
 kind : ∀ k ∈ x.Kinds,Qfe k = true
 life : ∀ l ∈ x.Lives,QfW l = true
 rule : ∀ r ∈ x.Rules,QfX r = true
theorem QkL {x : Qh} (h : QhB x = true) : Qlm x := by
 simp only [QhB,Bool.and_eq_true,List.all_eq_true,decide_eq_true_eq] at h
 obtain ⟨⟨⟨⟨⟨⟨h1,h2⟩,h3⟩,h4⟩,h5⟩,h6⟩,h7⟩ := h
 exact ⟨Qc5 h1,by omega,by omega,by omega,h5,h6,h7⟩

theorem Qsm {x : Qh} (h : Qlm x) : Qdo x = some (srcS x) := by
 have hv := h.version
 have v0 : ∀ v ∈ [AnyV.int x.Version],VOk v := by simp only [List.mem_cons,List.not_mem_nil,or_false,forall_eq]; exact QbP (by omega)
 have l0 := QgZ (w := [115,99,104,101,109,97]) (by decide) v0
 simp only [List.length_cons,List.length_nil] at l0
 have lk := Qg0 (l := x.Kinds) (g := QfC) (B := 50000) fun k hk => QkW (h.kind k hk)
 have ll := Qg0 (l := x.Lives) (g := Qgy) (B := 20000) fun k hk => Qjp (h.life k hk)
 have nk := h.kinds
 have nl := h.lives
 have nr := h.rules
 unfold Qdo
 rw [Qkf (by decide) (by decide) (by simp) v0]
 simp only [Option.bind_some]
 rw [QfY (by rw [List.length_nil]; omega)]
 simp only [Option.bind_some,List.nil_append]
 rw [QdT x.Kinds QfC 50000 (fun k hk => QkW (h.kind k hk)) (QeN [115,99,104,101,109,97] [.int x.Version]) (fun k hk acc hacc => ?_) (fun acc => if_neg (by simp))]
 ·simp only [Option.bind_some]
  rw [QdT x.Lives Qgy 20000 (fun k hk => Qjp (h.life k hk)) (QeN [115,99,104,101,109,97] [.int x.Version] ++ x.Kinds.flatMap QfC) (fun k hk acc hacc => ?_) (fun acc => if_neg (by simp))]
  ·simp only [Option.bind_some]
   rw [QdT x.Rules Qi2 1000 (fun k hk => QkX (h.rule k hk)) (QeN [115,99,104,101,109,97] [.int x.Version] ++ x.Kinds.flatMap QfC ++ x.Lives.flatMap Qgy) (fun k hk acc hacc => ?_) (fun acc => if_neg (by simp))]
   ·simp only [Option.bind_some]
    have e : QfT (srcS x) = some (srcS x) := if_neg fun h => by
     have := congrArg List.length h
     simp only [srcS,QeN,List.length_append,List.length_cons,List.length_nil] at this; omega
    show (QfT (srcS x)).bind _ = _
    rw [e]; rfl
   ·have hr := h.rule _ (List.getElem_mem hk)
    have hrl := QkX hr
    rw [if_pos (by simpa using hk)]
    dsimp only
    rw [Qak hk]
    simp only [Option.bind_some]
    rw [Qnw,Qnw]
    simp only [Option.bind_some]
    show (QaC [114,117,108,101] (QfK x.Rules[k])).bind _ = _
    rw [Qkf (by decide) (by decide) (by simp [QfK]) (Qsl hr)]
    simp only [Option.bind_some]
    rw [List.length_append,List.length_append] at hacc
    rw [QfY (by show acc.length + (Qi2 x.Rules[k]).length ≤ _; omega),Q8 hk (by omega)]
    rfl
  ·have hl := h.life _ (List.getElem_mem hk)
   obtain ⟨w1,w2,w3,w4⟩ := Qsk hl
   have hll := Qjp hl
   rw [if_pos (by simpa using hk)]
   dsimp only
   rw [Qak hk]
   simp only [Option.bind_some]
   have hst : ∀ n,n ≤ x.Lives[k].States.length → ([AnyV.str x.Lives[k].Name,.int (x.Lives[k].States.length : Int)] ++ (x.Lives[k].States.take n).map AnyV.str).length ≤ 100 := fun n hn => by
    simp only [List.length_append,List.length_cons,List.length_nil,List.length_map,List.length_take]; omega
   refine Qkt x.Lives[k].States.length (fun n => ((n : Int),[AnyV.str x.Lives[k].Name,.int (x.Lives[k].States.length : Int)] ++ (x.Lives[k].States.take n).map AnyV.str)) _ (by simp) (fun n hn => ?_) (if_neg (by simp)) ?_
   ·rw [if_pos (by simpa using hn)]
    dsimp only
    rw [Qak hn]
    simp only [Option.bind_some]
    rw [Qhh (by have := hst n (by omega); rw [List.length_singleton]; omega),Q8 hn (by omega),List.take_succ_eq_append_getElem hn,List.map_append,← List.append_assoc]
    rfl
   ·dsimp only
    rw [List.take_of_length_le (Nat.le_refl _),Qkf (by decide) (by decide) (by have := hst _ (Nat.le_refl _); rw [List.take_of_length_le (Nat.le_refl _)] at this; omega) w1]
    simp only [Option.bind_some]
    have l1 := QgZ (w := [108,105,102,101]) (by decide) w1
    simp only [List.length_append,List.length_cons,List.length_nil,List.length_map] at l1
    rw [List.length_append] at hacc
    rw [QfY (by omega)]
    simp only [Option.bind_some]
    rw [QdT x.Lives[k].Moves Qh8 300 (fun m hm => Qjo (w4 m hm)) _ (fun q hq acc2 hacc2 => ?_) (fun acc => if_neg (by simp))]
    ·simp only [Option.bind_some]
     rw [Q8 hk (by omega)]
     simp [Qgy]
    ·have hm := w4 _ (List.getElem_mem hq)
     have hml := Qjo hm
     rw [if_pos (by simpa using hq)]
     dsimp only
     rw [Qak hq]
     simp only [Option.bind_some]
     rw [Qkf (by decide) (by decide) (by simp) hm]
     simp only [Option.bind_some]
     rw [List.length_append] at hacc2
     rw [QfY (by show acc2.length + (Qh8 x.Lives[k].Moves[q]).length ≤ _; omega),Q8 hq (by omega)]
     rfl
 ·have hk' := h.kind _ (List.getElem_mem hk)
  obtain ⟨w1,w2,w3⟩ := QjD hk'
  have l1 := QgZ (w := [107,105,110,100]) (by decide) w1
  simp only [List.length_cons,List.length_nil] at l1
  rw [if_pos (by simpa using hk)]
  dsimp only
  rw [Qak hk]
  simp only [Option.bind_some]
  rw [Qkf (by decide) (by decide) (by simp) w1]
  simp only [Option.bind_some]
  rw [QfY (by omega)]
  simp only [Option.bind_some]
  rw [QdT x.Kinds[k].Fields Qff 4000 (fun f hf => QhG (QjC (w3 f hf))) _ (fun q hq acc2 hacc2 => ?_) (fun acc => if_neg (by simp))]
  ·simp only [Option.bind_some]
   rw [Q8 hk (by omega)]
   simp [QfC]
  ·have hf := QjC (w3 _ (List.getElem_mem hq))
   have hfl := QhG hf
   rw [if_pos (by simpa using hq)]
   dsimp only
   rw [Qak hq]
   simp only [Option.bind_some]
   rw [Qtb hf]
   simp only [Option.bind_some]
   rw [List.length_append] at hacc2
   rw [QfY (by omega),Q8 hq (by omega)]
   rfl

/-- What Valid returns. -/
def Qgo (x : Qh) : Int := if QhB x = true then (if (srcS x).length > 8192 then 4 else 0) else 1
/-- A schema whose lists are not huge. -/
def Fine (x : Qh) : Prop := (x.Kinds.length ≤ 1000000 ∧ ∀ k ∈ x.Kinds,QmH k.Fields) ∧ (x.Lives.length ≤ 1000000 ∧ ∀ l ∈ x.Lives,l.States.length ≤ 1000000 ∧ l.Moves.length ≤ 1000000) ∧ x.Rules.length ≤ 1000000
theorem Sz.fine {x : Qh} (h : Sz x) : Fine x := by
 obtain ⟨⟨a1,a2⟩,⟨b1,b2⟩,c,_⟩ := h
 refine ⟨⟨by omega,fun k hk => ⟨by have := (a2 k hk).1; omega,fun f hf => ?_⟩⟩,⟨by omega,fun l hl => ?_⟩,by omega⟩
 ·have := (a2 k hk).2.1 f hf
  exact ⟨by have := this.1; omega,by have := this.2.1; omega⟩
 ·have := b2 l hl
  exact ⟨by omega,by omega⟩
theorem Qtc {x : Qh} (h : Fine x) : QdP x = some (Qgo x) := by
 obtain ⟨⟨a1,a2⟩,⟨b1,b2⟩,c⟩ := h
 unfold QdP
 rw [QuU (p := Qfe) a1 (fun k hk => Qsf (a2 k hk)),QuV (p := QfW) b1 (fun l hl => Qsg (b2 l hl).1 (b2 l hl).2),QuW (p := QfX) c (fun r _ => Qsh r)]
 show (some (inW x.Version 0 1048576)).bind _ = _
 simp only [Option.bind_some]
 have n1 : ∀ (n : Nat) (m : Int),decide ((n : Int) > m) = !decide ((n : Int) ≤ m) := fun n m => by
  by_cases h : (n : Int) ≤ m
  ·rw [decide_eq_true h,decide_eq_false (by omega)]; rfl
  ·rw [decide_eq_false h,decide_eq_true (by omega)]; rfl
 rw [n1,n1,n1]
 unfold Qgo
 cases hv : QhB x with
 | true =>
  have hs := Qsm (QkL hv)
  simp only [QhB,Bool.and_eq_true] at hv
  obtain ⟨⟨⟨⟨⟨⟨h1,h2⟩,h3⟩,h4⟩,h5⟩,h6⟩,h7⟩ := hv
  simp only [h1,h2,h3,h4,h5,h6,h7,Sim.opt,Bool.not_true,Bool.or_self,beq_self_eq_true,if_true,Option.bind_some]
  rw [if_neg (by decide),hs]
  simp only [Option.bind_some]
  by_cases hl : (srcS x).length > 8192
  ·rw [if_pos (by simp; omega),if_pos hl]
  ·rw [if_neg (by simp; omega),if_neg hl]
 | false =>
  rw [if_neg (by decide)]
  unfold QhB at hv
  cases h1 : inW x.Version 0 1048576 <;> cases h2 : decide ((x.Kinds.length : Int) ≤ 6) <;> cases h3 : decide ((x.Lives.length : Int) ≤ 6) <;> cases h4 : decide ((x.Rules.length : Int) ≤ 16) <;>
   cases h5 : x.Kinds.all Qfe <;> cases h6 : x.Lives.all QfW <;> cases h7 : x.Rules.all QfX <;> first | rfl | (rw [h1,h2,h3,h4,h5,h6,h7] at hv; cases hv)

end Go.Proofs.YtcdccjagknlmpaaGreatDoor

namespace Go.Proofs.YtcdccjagknlmpaaGreatDoor
open Go.Sim

def Qbq : List Qv → Int
 | [] => 0
 | f :: r => if f.is = true then f.code else Qbq r
theorem QhL {l : List Qv} (hl : l.length ≤ 1000) : Qax l = some (Qbq l) := by
 have key : Ok (Qax l) (fun r => r = Qbq l) := by
  unfold Qax
  refine Ok.bind (P := fun e : Unit ⊕ Int => (match e with | .inl _ => 0 | .inr r => r) = Qbq l) (Ok.loop (fun m s => 0 ≤ s ∧ s + m = l.length ∧ Qbq (l.drop s.toNat) = Qbq l) l.length ⟨Int.le_refl _,by omega,by simp⟩ fun m s hs => ?_) fun e he => by cases e <;> exact Ok.mk he
  obtain ⟨h1,h2,h3⟩ := hs
  obtain ⟨k,rfl⟩ := Int.eq_ofNat_of_zero_le h1
  rw [Int.toNat_natCast] at h3
  refine Ok.ite (fun hk => ?_) (fun hk => ?_)
  ·have hk' : k < l.length := by simpa using hk
   rw [Qak hk']
   simp only [Option.bind_some]
   rw [List.drop_eq_getElem_cons hk',Qbq] at h3
   refine Ok.ite (fun hi => Ok.mk ?_) (fun hi => Ok.mk ⟨m - 1,by omega,?_⟩)
   ·rw [if_pos hi] at h3; exact h3
   ·rw [if_neg (by rw [hi]; decide)] at h3
    rw [Q8 hk' (by omega)]
    exact ⟨by omega,by omega,by rw [Int.toNat_natCast]; exact h3⟩
  ·have hk' : ¬ k < l.length := by simpa using hk
   rw [List.drop_of_length_le (by omega)] at h3
   exact Ok.mk h3
 obtain ⟨r,hr,rfl⟩ := key
 exact hr

/-- The field above to which Of leads. -/
def topS (x : Qh) (k j : Int) (f : Qc) : Qc × Bool :=
 if upIx x k j < 0 then (Qdb,false)
 else match idx x.Kinds (upIx x k j) with
  | none => (Qdb,false)
  | some q => match field? x (upIx x k j) (Qat q f.Of) with | some g => (g,true) | none => (Qdb,false)
def Qsn (g : Qc) : Bool := ((((g.Kind == 2) || (g.Kind == 3)) || (g.Kind == 4)) || (g.Kind == 5)) || (g.Kind == 8)
/-- The error of a field whose name is not there twice. -/
def QlR (x : Qh) (q : Qj) (k j : Int) (f : Qc) : Int :=
 if f.Kind = 0 then Qbq [⟨decide (j > 0),13⟩]
 else if f.Kind = 1 then Qbq [⟨decide (upIx x k j < 0),12⟩]
 else if f.Kind = 4 then Qbq [⟨(f.Of != []) && (((decide (Qat q f.Of < 0)) || (decide (Qat q f.Of ≥ j))) || ((match field? x k (Qat q f.Of) with | some g => (g,true) | none => (Qdb,false)).1.Kind != 4)),12⟩]
 else if f.Kind = 5 then Qbq [⟨!(x.Lives.any fun l => l.Name == f.Of),12⟩]
 else if f.Kind = 6 then Qbq [⟨decide ((QkK x k f).1 < 0),12⟩,⟨((QkK x k f).2.length : Int) != 1,11⟩]
 else if f.Kind = 7 then Qbq [⟨decide (upIx x k j < 0),12⟩,⟨((!(topS x k j f).2) || ((topS x k j f).1.Kind != 6)) || (Q5 x (topS x k j f).1.Of != k),13⟩]
 else if f.Kind = 8 then Qbq [⟨decide (upIx x k j < 0),12⟩,⟨(!(topS x k j f).2) || (!Qsn (topS x k j f).1),13⟩]
 else 0
theorem QqZ (x : Qh) (k j : Int) (hk : 0 ≤ k) : upIx x k j < k ∧ -1 ≤ upIx x k j := by
 have hr : ∀ g,Qjm x k g < k ∧ -1 ≤ Qjm x k g := fun g => by
  have := QjB x g.Of
  unfold Qjm; split <;> omega
 unfold upIx
 cases field? x k j with
 | none => exact ⟨by dsimp only; omega,by dsimp only; omega⟩
 | some f =>
  dsimp only
  split
  ·split
   ·omega
   ·split
    ·split
     ·split
      ·exact hr _
      ·omega
     ·omega
    ·omega
  ·split
   ·exact hr _
   ·omega
theorem Qso {x : Qh} {k j : Int} {f : Qc} (hx : Few x) (hk : 0 ≤ k) (hkl : k < x.Kinds.length) : QbY ⟨x,k,j,f⟩ = some (topS x k j f) := by
 unfold QbY topS
 rw [Qku hx]
 simp only [Option.bind_some]
 by_cases hu : upIx x k j < 0
 ·rw [if_pos (by simpa using hu),if_pos hu]; rfl
 ·rw [if_neg (by simpa using hu),if_neg hu]
  have h1 := QqZ x k j hk
  obtain ⟨q,hq,hqm⟩ := Qc4 (l := x.Kinds) (i := upIx x k j) (by omega) (by omega)
  rw [hq]
  simp only [Option.bind_some]
  rw [Qfc (by have := hx.2 q hqm; omega)]
  simp only [Option.bind_some]
  rw [QlO]
  cases field? x (upIx x k j) (Qat q f.Of) <;> rfl
theorem QoZ {x : Qh} {k j : Int} {f : Qc} (hx : Few x) : Qbr ⟨x,k,j,f⟩ = some (decide (upIx x k j < 0)) := by
 unfold Qbr
 rw [Qku hx]; rfl
theorem Qtd {x : Qh} {k j : Int} {q : Qj} {f : Qc} (hx : Few x) (hl : x.Lives.length ≤ 1000) (hq : idx x.Kinds k = some q) (hf : field? x k j = some f) (h : (Qbp f.Kind).isSome = true) : Qly (Qcb.mk (Qbp f.Kind)).check ⟨x,k,j,f⟩ = some (QlR x q k j f) := by
 obtain ⟨q',hk,hj,hq',hqf,hqm,hkl,hjl⟩ := QcC hf
 rw [hq] at hq'; cases hq'
 have one : ∀ a,Qax [a] = some (Qbq [a]) := fun a => QhL (by simp)
 have two : ∀ a b,Qax [a,b] = some (Qbq [a,b]) := fun a b => QhL (by simp)
 unfold QlR
 dsimp only
 by_cases c0 : f.Kind = 0
 ·rw [if_pos c0,c0]
  show QbT _ = _
  unfold QbT; rw [one]; rfl
 rw [if_neg c0]
 by_cases c1 : f.Kind = 1
 ·rw [if_pos c1,c1]
  show QbU _ = _
  unfold QbU; rw [QoZ hx]; simp only [Option.bind_some]; rw [one]; rfl
 rw [if_neg c1]
 by_cases c4 : f.Kind = 4
 ·rw [if_pos c4,c4]
  show QbV _ = _
  unfold QbV
  dsimp only
  rw [hq]
  simp only [Option.bind_some]
  rw [Qfc (by have := hx.2 q hqm; omega)]
  simp only [Option.bind_some]
  rw [QlO]
  simp only [Option.bind_some]
  rw [one]; rfl
 rw [if_neg c4]
 by_cases c5 : f.Kind = 5
 ·rw [if_pos c5,c5]
  show QbW _ = _
  unfold QbW
  dsimp only
  rw [Qkv (s := x.Lives) (f := fun x0 => QcP x0 ⟨x,k,j,f⟩) (p := fun l => l.Name == f.Of) (by omega) (fun l _ => rfl)]
  simp only [Option.bind_some]
  rw [one]; rfl
 rw [if_neg c5]
 by_cases c6 : f.Kind = 6
 ·rw [if_pos c6]
  show Qly (Qbp f.Kind) _ = _
  rw [c6]
  show QbX _ = _
  unfold QbX
  dsimp only
  rw [Qr9 hx hk]
  simp only [Option.bind_some]
  rw [two]; rfl
 rw [if_neg c6]
 by_cases c7 : f.Kind = 7
 ·rw [if_pos c7]
  show Qly (Qbp f.Kind) _ = _
  rw [c7]
  show QbZ _ = _
  unfold QbZ
  rw [Qso hx hk hkl,QoZ hx]
  simp only [Option.bind_some]
  rw [Qek (by have := hx.1; omega)]
  cases hc : ((!(topS x k j f).2) || ((topS x k j f).1.Kind != 6)) with
  | true =>
   simp only [Sim.opt,Bool.true_or]
   show (Qax _).bind _ = _
   rw [two]; rfl
  | false =>
   simp only [Sim.opt,beq_self_eq_true,if_true,Option.bind_some]
   rw [two]; rfl
 rw [if_neg c7]
 by_cases c8 : f.Kind = 8
 ·rw [if_pos c8]
  show Qly (Qbp f.Kind) _ = _
  rw [c8]
  show Qb0 _ = _
  unfold Qb0
  rw [Qso hx hk hkl,QoZ hx]
  simp only [Option.bind_some]
  rw [two]; rfl
 rw [Qbp,if_neg c0,if_neg c1,if_neg c4,if_neg c5,if_neg c6,if_neg c7,if_neg c8] at h
 cases h
theorem Qte {x : Qh} {k j : Int} {q : Qj} {f : Qc} (h : (Qbp f.Kind).isSome = false) : QlR x q k j f = 0 := by
 unfold QlR
 by_cases c0 : f.Kind = 0
 ·rw [c0] at h; cases h
 by_cases c1 : f.Kind = 1
 ·rw [c1] at h; cases h
 by_cases c4 : f.Kind = 4
 ·rw [c4] at h; cases h
 by_cases c5 : f.Kind = 5
 ·rw [c5] at h; cases h
 by_cases c6 : f.Kind = 6
 ·rw [c6] at h; cases h
 by_cases c7 : f.Kind = 7
 ·rw [c7] at h; cases h
 by_cases c8 : f.Kind = 8
 ·rw [c8] at h; cases h
 rw [if_neg c0,if_neg c1,if_neg c4,if_neg c5,if_neg c6,if_neg c7,if_neg c8]

/-- The error of a kind. -/
def Qj2 (x : Qh) (i : Int) (q : Qj) : Int := Qbq [⟨decide (Q5 x q.Name < i),7⟩,⟨((q.Fields.length : Int) == 0) || ((q.Fields.headD Qdb).Kind != 0),11⟩]
theorem QuZ {x : Qh} {i : Int} {q : Qj} (hx : Few x) (hq : idx x.Kinds i = some q) : Qes x i = some (Qj2 x i q) := by
 unfold Qes Qj2
 rw [hq]
 simp only [Option.bind_some]
 rw [Qek (by have := hx.1; omega)]
 simp only [Option.bind_some]
 cases hf : q.Fields with
 | nil =>
  show (Qax _).bind _ = _
  rw [QhL (by simp)]; rfl
 | cons f fs =>
  have e : (((f :: fs).length : Int) == 0) = false := by simp; omega
  rw [e]
  simp only [Sim.opt,beq_self_eq_true,if_true]
  rw [show idx (f :: fs) (0:Int) = some f from rfl]
  simp only [Option.bind_some]
  rw [QhL (by simp)]; rfl

/-- The error of a rule. -/
def QmI (x : Qh) (k : Int) (n : Str) : Qc × Bool := match idx x.Kinds k with | none => (Qdb,false) | some q => match field? x k (Qat q n) with | some g => (g,true) | none => (Qdb,false)
def Qdd (x : Qh) (k : Int) (n : Str) : Bool := !((n == []) || decide (k < 0)) && !(QmI x k n).2
def Qc6 (x : Qh) (k : Int) (n : Str) : Bool := !((n == []) || decide (k < 0)) && (((QmI x k n).1.Kind != 2) && ((QmI x k n).1.Kind != 4))
def Qol (x : Qh) (i : Nat) (r : Qn) : Int :=
 Qbq [⟨(x.Rules.take i).any fun s => s.Name == r.Name,7⟩,⟨(decide (Q5 x r.Kind < 0) || Qdd x (Q5 x r.Kind) r.A) || Qdd x (Q5 x r.Kind) r.B,12⟩,⟨Qc6 x (Q5 x r.Kind) r.A || Qc6 x (Q5 x r.Kind) r.B,13⟩,⟨r.A == r.B,1⟩]
theorem Qpm {β : Type} {x : Qh} {k : Int} {n : Str} {a b : Bool} (hx : Few x) (hk : k < x.Kinds.length) (g : Bool × Bool → β) :
  (if ((n == ([] : Str)) || (decide (k < 0))) = true then some (g (a,b)) else (idx x.Kinds k).bind fun t53 => (Qbt t53 n).bind fun t56 => (QcA x k t56).bind fun t57 => some (g ((a || (!t57.2)),(b || ((t57.1.Kind != 2) && (t57.1.Kind != 4)))))) = some (g (a || Qdd x k n,b || Qc6 x k n)) := by
 unfold Qdd Qc6
 cases hc : ((n == ([] : Str)) || (decide (k < 0))) with
 | true => rw [if_pos rfl]; simp
 | false =>
  rw [if_neg (by decide)]
  simp only [Bool.or_eq_false_iff,decide_eq_false_iff_not] at hc
  obtain ⟨q,hq,hqm⟩ := Qc4 (l := x.Kinds) (i := k) (by omega) hk
  unfold QmI
  rw [hq]
  simp only [Option.bind_some]
  rw [Qfc (by have := hx.2 q hqm; omega)]
  simp only [Option.bind_some]
  rw [QlO]
  cases field? x k (Qat q n) <;> simp

end Go.Proofs.YtcdccjagknlmpaaGreatDoor

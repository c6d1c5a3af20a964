/- The generator of schemas gives a result. No condition. -/
import Derived.Test.YthdfmpocknmleaaGreatDoorTyA
namespace Go.Proofs.YthdfmpocknmleaaGreatDoor
open Go.Sim

/-- A kind of the generator: its name is not empty. -/
def GOk (n : Nat) (k : Sapi_Kind) : Prop := KOk n k ∧ 1 ≤ k.Name.length ∧ k.Name.length ≤ 6
theorem GOk.weak {a b : Nat} {k : Sapi_Kind} (h : GOk a k) (hab : a ≤ b) : GOk b k := ⟨⟨by have := h.1.1; omega, h.1.2⟩, h.2⟩
theorem mok_cond {c : Bool} {a b : Sref09_Maker} (h : c = true → MOk a) (k : MOk b) : MOk (bif c == true then a else b) := by
  cases c with
  | true => exact h rfl
  | false => exact k
set_option maxHeartbeats 1000000 in
theorem kind_ok {m : Sref09_Maker} {l : List Sapi_Kind} {N : Nat} (hm : MOk m) (hl : l.length ≤ 2) (hN : N ≤ 20) (hk : ∀ k ∈ l, GOk N k) :
    Ok (fref09_Maker_kind m l) (fun r => GOk 9 r.1 ∧ MOk r.2.1 ∧ r.2.2.length = l.length ∧ ∀ k ∈ r.2.2, GOk (N + 1) k) := by
  unfold fref09_Maker_kind
  refine Ok.take hm (by decide) fun r1 m1 a1 b1 h1 => ?_
  refine Ok.idx a1 (by simpa using b1) fun lo _ _ => ?_
  refine Ok.idx (by omega) (by simp; omega) fun name hname _ => ?_
  have hn : 1 ≤ name.length ∧ name.length ≤ 6 := by
    simp only [List.mem_cons, List.not_mem_nil, or_false] at hname
    rcases hname with rfl | rfl | rfl <;> decide
  refine Ok.take h1 (by decide) fun r2 m2 _ _ h2 => ?_
  refine Ok.take h2 (by decide) fun r3 m3 a3 b3 h3 => ?_
  refine Ok.idx a3 (by simpa using b3) fun id0 _ _ => ?_
  refine Ok.rm (by simp) ?_
  refine Ok.bind (P := fun p : Sref09_Maker × List Sapi_Field × List Sapi_Kind => MOk p.1 ∧ p.2.1.length ≤ 4 ∧ (∀ f ∈ p.2.1, FOk f) ∧ p.2.2.length = l.length ∧ ∀ k ∈ p.2.2, GOk (N + 1) k)
    (Ok.ite (fun hpos => ?_) (fun _ => Ok.mk ⟨h3, by simp, by simp [FOk], rfl, fun k h => (hk k h).weak (by omega)⟩)) fun p hp => ?_
  · have hpos' : (0:Int) < l.length := of_decide_eq_true hpos
    refine Ok.take h3 (by omega) fun to m4 a4 b4 h4 => ?_
    refine Ok.idx a4 b4 fun kt hkt ekt => ?_
    refine Ok.take h4 (by decide) fun r5 m5 a5 b5 h5 => ?_
    refine Ok.idx a5 (by simpa using b5) fun hi _ _ => ?_
    refine Ok.take h5 (by decide) fun r6 m6 _ _ h6 => ?_
    refine Ok.bind (P := FOk) (Ok.ite (fun _ => Ok.mk (by simp [FOk])) (fun _ => Ok.mk (by simp [FOk]))) fun f hf => ?_
    refine Ok.rm (by simp) ?_
    refine Ok.idx a4 b4 fun kt1 hkt1 _ => ?_
    refine (copied_ok (by have := (hk _ hkt1).1.1; omega)).bind fun c hc => ?_
    refine Ok.opt (P := fun r : Int × Sref09_Maker => MOk r.2) (fun h => (take_ok h6 (by decide)).weak fun r h => h.2.2) fun r7 h7 => ?_
    have m7 : MOk (bif (decide (c ≥ (0:Int))) == true then r7.2 else m6) := mok_cond (fun h => h7 (by rw [h]; rfl)) h6
    refine Ok.bind (P := fun p : List Sapi_Field => p.length ≤ 3 ∧ ∀ f ∈ p, FOk f) (Ok.ite (fun h => ?_) (fun _ => Ok.mk ⟨by simp, ?_⟩)) fun fs hfs => ?_
    · simp only [Bool.and_eq_true, decide_eq_true_eq] at h
      refine Ok.idx a4 b4 fun kt2 hkt2 ekt2 => ?_
      have e : kt2 = kt1 := by simp_all
      subst e
      refine Ok.idx h.1 hc.2 fun g _ _ => Ok.rm (by simp) (Ok.mk ⟨by simp, ?_⟩)
      intro x hx
      simp only [List.nil_append, List.cons_append, List.mem_cons, List.not_mem_nil, or_false] at hx
      rcases hx with rfl | rfl | rfl
      · simp [FOk]
      · exact hf
      · simp [FOk]
    · intro x hx
      simp only [List.nil_append, List.cons_append, List.mem_cons, List.not_mem_nil, or_false] at hx
      rcases hx with rfl | rfl
      · simp [FOk]
      · exact hf
    · refine Ok.idx a4 b4 fun kt3 hkt3 ekt3 => ?_
      refine (has_ok (by have := (hk _ hkt3).1.1; omega)).bind fun tot htot => ?_
      refine Ok.opt (P := fun r : Int × Sref09_Maker => MOk r.2) (fun h => (take_ok m7 (by decide)).weak fun r h => h.2.2) fun r8 h8 => ?_
      have m8 : MOk (bif (decide (tot < (0:Int))) == true then r8.2 else (bif (decide (c ≥ (0:Int))) == true then r7.2 else m6)) := mok_cond (fun h => h8 (by rw [h]; rfl)) m7
      refine Ok.bind (P := fun p : Sref09_Maker × List Sapi_Field × List Sapi_Kind => MOk p.1 ∧ p.2.1.length ≤ 4 ∧ (∀ f ∈ p.2.1, FOk f) ∧ p.2.2.length = l.length ∧ ∀ k ∈ p.2.2, GOk (N + 1) k)
        (Ok.ite (fun h => ?_) (fun _ => Ok.mk ⟨m8, by have := hfs.1; dsimp only; omega, hfs.2, rfl, fun k h => (hk k h).weak (by omega)⟩)) fun p hp => Ok.mk hp
      refine Ok.take m8 (by decide) fun r9 m9 _ _ h9 => Ok.take h9 (by decide) fun r10 m10 _ _ h10 => ?_
      refine Ok.rm (by have := hfs.1; simp; omega) ?_
      refine Ok.idx a4 b4 fun kt4 hkt4 ekt4 => ?_
      have hk4 := hk _ hkt4
      have hk41 := hk4.1.1
      refine Ok.rm (by simp; omega) (Ok.rm (by simp; omega) ?_)
      refine Ok.idx a4 b4 fun kt5 hkt5 ekt5 => ?_
      have e : kt5 = kt4 := by simp_all
      subst e
      refine Ok.setAt a4 b4 (Ok.mk ⟨h10, ?_, ?_, ?_, ?_⟩)
      · have := hfs.1; simp; omega
      · intro x hx
        rcases List.mem_append.1 hx with hx | hx
        · exact hfs.2 x hx
        · rw [List.mem_singleton] at hx; subst hx; simp [FOk]
      · simp
      · intro k hkm
        rcases List.mem_or_eq_of_mem_set hkm with hkm | rfl
        · exact (hk k hkm).weak (by omega)
        · refine ⟨⟨?_, ?_⟩, hk4.2⟩
          · simp; omega
          · intro x hx
            rcases List.mem_append.1 hx with hx | hx
            · exact hk4.1.2 x (by simpa using hx)
            · rw [List.mem_singleton] at hx; subst hx; simp [FOk]
  · obtain ⟨q1, q2, q3, q4, q5⟩ := hp
    refine Ok.opt (P := fun r : Int × Sref09_Maker => MOk r.2) (fun h => (take_ok q1 (by decide)).weak fun r h => h.2.2) fun r11 h11 => ?_
    have m11 : MOk (bif (decide ((l.length : Int) > (1:Int))) == true then r11.2 else p.1) := mok_cond (fun h => h11 (by rw [h]; rfl)) q1
    refine Ok.bind (P := fun p : List Sapi_Field => p.length ≤ 5 ∧ ∀ f ∈ p, FOk f) (Ok.ite (fun h => ?_) (fun _ => Ok.mk ⟨by omega, q3⟩)) fun fs hfs => ?_
    · simp only [Bool.and_eq_true, decide_eq_true_eq] at h
      refine Ok.idx (by decide) (by omega) fun k0 _ _ => Ok.rm (by simp; omega) (Ok.mk ⟨by simp; omega, ?_⟩)
      intro x hx
      rcases List.mem_append.1 hx with hx | hx
      · exact q3 x hx
      · rw [List.mem_singleton] at hx; subst hx; simp [FOk]
    · refine (plain_ok m11).bind fun r12 h12 => ?_
      obtain ⟨c1, c2, c3⟩ := h12
      obtain ⟨f1, f2⟩ := hfs
      refine Ok.rm (by omega) ?_
      refine Ok.take c3 (by decide) fun r13 m13 _ _ h13 => ?_
      have all7 : ∀ f ∈ fs ++ r12.1, FOk f := fun x hx => (List.mem_append.1 hx).elim (f2 x) (c2 x)
      have len7 : (fs ++ r12.1).length ≤ 7 := by simp; omega
      refine Ok.bind (P := fun p : Sref09_Maker × List Sapi_Field => MOk p.1 ∧ p.2.length ≤ 9 ∧ ∀ f ∈ p.2, FOk f) (Ok.ite (fun h => ?_) (fun _ => Ok.mk ⟨h13, by dsimp only; omega, all7⟩)) fun p52 hp52 => Ok.mk ⟨⟨⟨hp52.2.1, hp52.2.2⟩, hn⟩, hp52.1, q4, q5⟩
      refine (plain_ok h13).bind fun r14 h14 => ?_
      obtain ⟨d1, d2, d3⟩ := h14
      refine Ok.opt (P := fun _ => True) (fun h => ?_) fun g _ => ?_
      · have h' : (r14.1.length : Int) > 0 := by simpa using h
        exact (Ok.idx (by decide) (by omega) fun v _ _ => Ok.mk trivial : Ok ((idx r14.1 0).bind some) _).weak (fun _ h => h) |> fun h => by simpa using h
      refine Ok.opt (P := fun _ => True) (fun h => (has_ok (by omega)).weak fun _ _ => trivial) fun g2 _ => ?_
      refine Ok.bind (P := fun p : List Sapi_Field => p.length ≤ 9 ∧ ∀ f ∈ p, FOk f) (Ok.ite (fun h => Ok.rm (by omega) (Ok.mk ⟨by rw [List.length_append]; omega, fun x hx => (List.mem_append.1 hx).elim (all7 x) (d2 x)⟩)) (fun _ => Ok.mk ⟨by omega, all7⟩)) fun p64 hp64 => Ok.mk ⟨d3, hp64.1, hp64.2⟩

end Go.Proofs.YthdfmpocknmleaaGreatDoor

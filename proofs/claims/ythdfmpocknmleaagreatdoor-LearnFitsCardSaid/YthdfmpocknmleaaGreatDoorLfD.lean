/- LearnFits: what the law's function gives. No condition. -/
import Derived.Test.YthdfmpocknmleaaGreatDoorTyZE
import Derived.Test.YthdfmpocknmleaaGreatDoorEvalA
namespace Go.Proofs.YthdfmpocknmleaaGreatDoor
open Go.Sim

theorem at_ok {l : List Int} {i n : Int} (hl : ∀ x ∈ l,I64 x) (hn : 1 ≤ n) : Ok (fref01_At l i n) (fun r => 0 ≤ r ∧ r < n) := by
  unfold fref01_At
  refine Ok.ite (fun _ => Ok.mk ⟨Int.le_refl _,by omega⟩) (fun h => ?_)
  simp only [Bool.or_eq_false_iff,decide_eq_false_iff_not] at h
  exact Ok.idx (by omega) (by omega) fun v hv _ => Ok.around (hl v hv) hn fun r r0 r1 => Ok.mk ⟨r0,r1⟩
theorem made_ok {l : List Int} {n : Int} (hl : ∀ x ∈ l,I64 x) (h0 : 0 ≤ n) (h1 : n ≤ 20) : Ok (fref27_Made l n 9) (fun r => (r.length : Int) = n) := by
  unfold fref27_Made
  refine Ok.bind (P := fun r => (r.length : Int) = n ∧ Sm r 8) (Ok.loop (fun k s => 0 ≤ s.1 ∧ s.1 + k = n ∧ (s.2.length : Int) = s.1 ∧ Sm s.2 8) n.toNat ⟨Int.le_refl _,by dsimp only; omega,by simp,fun _ h => by cases h⟩ fun k s hs => ?_) fun r hr => ?_
  · obtain ⟨i,ms⟩ := s
    obtain ⟨e1,e2,e3,e4⟩ := hs
    dsimp only at e1 e2 e3 e4
    refine Ok.ite (fun h => ?_) (fun h => ?_)
    · have h' : i < n := of_decide_eq_true h
      refine (at_ok hl (by decide)).bind fun v hv => Ok.rm (by simp; omega) (Ok.mk ⟨k - 1,by omega,?_⟩)
      dsimp only
      rw [w64 (n := i + 1) (by omega) (by omega)]
      refine ⟨by omega,by omega,by simp; omega,fun x hx => ?_⟩
      rcases List.mem_append.1 hx with hx | hx
      · exact e4 x hx
      · rw [List.mem_singleton] at hx; subst hx; omega
    · have h' : ¬ i < n := of_decide_eq_false h
      exact Ok.mk ⟨by dsimp only; omega,e4⟩
  · obtain ⟨r1,r2⟩ := hr
    rw [sumR_is (by omega) r2 (by decide) (by decide)]
    simp only [Option.bind_some]
    refine Ok.bind (P := fun r => (r.length : Int) = n) (Ok.ite (fun hc => ?_) (fun _ => Ok.mk r1)) fun r hr => Ok.mk hr
    simp only [Bool.and_eq_true,decide_eq_true_eq] at hc
    refine (at_ok hl (by omega)).bind fun v hv => Ok.setAt hv.1 (by omega) (Ok.mk ?_)
    rw [List.length_set]; exact r1
theorem odd_ok {l : List Int} {a b : Int} (ha : I64 a) (hb : I64 b) (hl : l.length ≤ 20) : Ok (flaw27_odd l a b) (fun r => r.length ≤ 21) := by
  unfold flaw27_odd
  simp only [List.nil_append]
  refine Ok.rm (by simp; omega) (Ok.ite (fun _ => Ok.rm (by simp; omega) (Ok.mk (by simp; omega))) fun h => ?_)
  simp only [Bool.or_eq_false_iff,beq_eq_false_iff_ne] at h
  refine Ok.around ha (by omega) fun i i0 i1 => Ok.around hb (by decide) fun m m0 m1 => Ok.idx m0 (by simpa using m1) fun v _ _ => Ok.setAt i0 i1 (Ok.mk ?_)
  rw [List.length_set]; omega
theorem has_is {x : Sapi_Schema} {k j : Int} : Ok (fref10_Has x k j) (fun r => r = true → ∃ q f,idx x.Kinds k = some q ∧ q ∈ x.Kinds ∧ idx q.Fields j = some f ∧ f ∈ q.Fields) := by
  unfold fref10_Has
  refine Ok.ite (fun _ => Ok.mk fun h => (by cases h)) (fun h => ?_)
  simp only [Bool.or_eq_false_iff,decide_eq_false_iff_not] at h
  obtain ⟨q,hq,hqm⟩ := idx_some (l := x.Kinds) (i := k) (by omega) (by omega)
  rw [hq]
  refine Ok.mk fun hj => ?_
  obtain ⟨f,hf,hfm⟩ := idx_some (l := q.Fields) (i := j) (by omega) (of_decide_eq_true hj)
  exact ⟨q,f,rfl,hqm,hf,hfm⟩

/-- One comparison of the law, once its parts are known. -/
theorem fit_step {A : Type} {V : Option Int} {C D : Option (List A)} {L : List A} {n : Int} {c : Bool} (h : c = false ∨ (V = some 0 ∧ C = some L ∧ D = some L)) :
    ((opt true (some true) default).bind fun t101 => (opt (((false || (!t101)) == false) && (c == true)) V default).bind fun t109 => (opt ((((false || (!t101)) == false) && (c == true)) && ((t109 != (0:Int)) == false)) C default).bind fun t113 => (opt ((((false || (!t101)) == false) && (c == true)) && ((t109 != (0:Int)) == false)) D default).bind fun t116 => (if ((false || (!t101)) || (c && ((t109 != (0:Int)) || (decide ((t113.length : Int) > (t116.length : Int)))))) = true then (some (.inr (.inr false))) else (some (.inl n)) : Option (Int ⊕ (Unit ⊕ Bool)))) = some (.inl n) := by
  rcases h with rfl | ⟨rfl,rfl,rfl⟩
  · rfl
  · cases c with
    | false => rfl
    | true => simp [opt]

theorem fits_true (l : List Int) (kind field : Int) (m : List Int) (a b : Int) (i0 : ∀ x ∈ l,I64 x) (_ : I64 kind) (_ : I64 field) (i3 : ∀ x ∈ m,I64 x) (i4 : I64 a) (i5 : I64 b) : flaw27_LearnFits l kind field m a b = some true := by
  have key : Ok (flaw27_LearnFits l kind field m a b) (fun r => r = true) := by
    unfold flaw27_LearnFits
    refine (schema_v i0).bind fun x hx => ?_
    obtain ⟨ht,hv,hkv⟩ := hx
    have hsh := tiny_short ht hv
    have hk3 := ht.kinds
    refine Ok.bind (P := fun e => e = .inl ()) (Ok.loop (fun k s => -1 ≤ s ∧ s + k = x.Kinds.length + 1) (x.Kinds.length + 2) ⟨Int.le_refl _,by omega⟩ fun k s hs => ?_) fun e he => ?_
    · refine Ok.ite (fun hc => ?_) (fun _ => Ok.mk rfl)
      have hc' : s ≤ x.Kinds.length := of_decide_eq_true hc
      refine Ok.bind (P := fun e => e = .inl ()) (Ok.loop (fun k s => -1 ≤ s ∧ s + k = 11) 12 ⟨Int.le_refl _,by omega⟩ fun k2 j hj => ?_) fun e he => ?_
      · refine Ok.ite (fun hc2 => ?_) (fun _ => Ok.mk rfl)
        have hc2' : j ≤ 10 := of_decide_eq_true hc2
        refine has_is.bind fun h hh => ?_
        refine Ok.bind (P := fun n : Int => 0 ≤ n ∧ n ≤ 3) (Ok.ite (fun hy => ?_) (fun _ => Ok.mk ⟨by decide,by decide⟩)) fun n hn => ?_
        · obtain ⟨q,f,hq,hqm,hf,hfm⟩ := hh hy
          rw [hq]
          simp only [Option.bind_some]
          rw [hf]
          have := ht.words q hqm f hfm
          exact Ok.mk ⟨by omega,by omega⟩
        · refine (made_ok i3 hn.1 (by omega)).bind fun l1 hl1 => (odd_ok i4 i5 (by omega)).bind fun l2 hl2 => Ok.mk' hn.1 (by omega) ?_
          have hlen : ∀ y ∈ [l1,l2,List.replicate n.toNat (0 : Int)],y.length ≤ 100 := by
            intro y hy
            simp only [List.mem_cons,List.not_mem_nil,or_false] at hy
            rcases hy with rfl | rfl | rfl
            · omega
            · omega
            · rw [List.length_replicate]; omega
          refine Ok.bind (P := fun e => e = .inl ()) (Ok.loop (fun k s => 0 ≤ s ∧ s + k = 3) 3 ⟨Int.le_refl _,by omega⟩ fun k3 i hi => ?_) fun e he => ?_
          · refine Ok.ite (fun hc3 => ?_) (fun _ => Ok.mk rfl)
            have hc3' : i < 3 := by have := of_decide_eq_true hc3; simpa using this
            obtain ⟨y,hy,hym⟩ := idx_some (l := [l1,l2,List.replicate n.toNat (0 : Int)]) (i := i) hi.1 (by simpa using hc3')
            have hyl := hlen y hym
            rw [hy]
            simp only [Option.bind_some]
            rw [learn_Fit_is hsh.few hyl]
            simp only [Option.bind_some]
            rw [ref_Fit_is hsh.few hyl]
            simp only [Option.bind_some,bne_self_eq_false,beq_self_eq_true]
            have hfs := fit_short (x := x) (k := s) (j := j) (l := y) ht hv
            rw [same_is hfs.fine,w64 (n := i + 1) (by omega) (by omega)]
            refine ⟨_,fit_step (L := checkS x) ?_,k3 - 1,by omega,by omega,by omega⟩
            by_cases h0 : (fitS x s j y).2 = 0
            · obtain ⟨f1,f2,f3⟩ := fit_ok ht hv h0
              exact .inr ⟨by rw [Valid_is hfs.fine,tiny_valid f1 f2],by rw [Check_is hfs,f3],Check_is hsh⟩
            · exact .inl (by simpa using h0)
          · subst he
            refine Ok.mk ⟨k2 - 1,by omega,?_⟩
            rw [w64 (n := j + 1) (by omega) (by omega)]
            omega
      · subst he
        refine Ok.mk ⟨k - 1,by omega,?_⟩
        rw [w64 (n := s + 1) (by omega) (by omega)]
        omega
    · subst he
      dsimp only
      rw [learn_Fit_is hsh.few (by simp),ref_Fit_is hsh.few (by simp)]
      simp only [Option.bind_some,beq_self_eq_true,Sim.opt,if_true,Bool.true_and]
      rw [lives_true]
      exact Ok.mk rfl
  obtain ⟨r,hr,rfl⟩ := key
  exact hr

end Go.Proofs.YthdfmpocknmleaaGreatDoor

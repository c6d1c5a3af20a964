/- TypingFinds: what the law's function gives. No condition. -/
import Derived.Test.YthdfmpocknmleaaGreatDoorTyN
import Derived.Test.YthdfmpocknmleaaGreatDoorEvalA
namespace Go.Proofs.YthdfmpocknmleaaGreatDoor
open Go.Sim

theorem plain_is {l : List Styping_Problem} (h : l.length ≤ 1000000000) : flaw10_plain l = some (l.map toR) := by
  unfold flaw10_plain
  refine for_bind l.length (fun n => ((n : Int),(l.take n).map toR)) _ (by simp) (fun n hn => ?_) (if_neg (by simp)) ?_
  · rw [if_pos (decide_eq_true (Int.ofNat_lt.2 hn))]
    dsimp only
    rw [idx_lt hn]
    simp only [Option.bind_some]
    rw [rm_le (by rw [List.length_map,List.length_take,List.length_singleton]; omega),w64_succ hn (by omega),← take_map_succ toR l hn]
    rfl
  · rw [List.take_of_length_le (Nat.le_refl _)]
theorem same_refl {l : List Sref10_Problem} (h : l.length ≤ 1000000000) : fref10_Same l l = some true := by
  unfold fref10_Same
  rw [if_neg (by simp),scan_all l (fun _ => true) false (fun k hk => ?_) (if_neg (by simp))]
  · rw [if_pos (by simp)]; rfl
  · rw [if_pos (decide_eq_true (Int.ofNat_lt.2 hk)),idx_lt hk]
    simp only [Option.bind_some]
    rw [w64_succ hk (by omega),if_neg (by simp [eqSref10_Problem])]; simp
theorem check_len {x : Sapi_Schema} (h : Short x) : (checkS x).length ≤ 1010000 := by
  obtain ⟨hx,_,hlv,hrl⟩ := h
  unfold checkS
  split
  · have b1 := range_len x.Lives.length (lifeP x) 1 (fun j _ => lifeP_len x j)
    have b3 := range_len x.Rules.length (ruleP x) 1 (fun j _ => ruleP_len x j)
    have kl : ∀ k,k < x.Kinds.length → (kindP x k).length ≤ 1001 := fun k hk => by
      unfold kindP
      rw [List.getElem?_eq_getElem hk]
      dsimp only
      have := fieldsP_len (x := x) (i := k) (hx.2 _ (List.getElem_mem hk))
      have := prob_len k (-1) (-1) (kindE x k x.Kinds[k])
      rw [List.length_append]; omega
    have b2 := range_len x.Kinds.length _ 1001 kl
    have := hx.1
    unfold livesP kindsP rulesP
    rw [List.length_append,List.length_append]; omega
  · simp
theorem finds_true (l : List Int) (a h b : Int) (i0 : ∀ x ∈ l,I64 x) (i1 : I64 a) (i2 : I64 h) (i3 : I64 b) : flaw10_TypingFinds l a h b = some true := by
  have key : Ok (flaw10_TypingFinds l a h b) (fun r => r = true) := by
    unfold flaw10_TypingFinds
    refine (some_ok i0 i1 i2 i3).bind fun xs hxs => ?_
    obtain ⟨hx5,hsz⟩ := hxs
    refine Ok.bind (P := fun e => e = .inl ()) (Ok.loop (fun k s => 0 ≤ s ∧ s + k = xs.length) xs.length ⟨Int.le_refl _,by omega⟩ fun m s hs => ?_) fun e he => by subst he; dsimp only; rw [lives_true]; exact Ok.mk rfl
    refine Ok.ite (fun hc => ?_) (fun _ => Ok.mk rfl)
    have hc' : s < xs.length := of_decide_eq_true hc
    obtain ⟨x,hx,hxm⟩ := idx_some hs.1 hc'
    have hz := (hsz x hxm).short
    have hl := check_len hz
    rw [hx]
    simp only [Option.bind_some]
    rw [Check_is hz,rCheck_is hz]
    simp only [Option.bind_some]
    rw [plain_is (by omega)]
    simp only [Option.bind_some]
    rw [same_refl (by rw [List.length_map]; omega)]
    simp only [Option.bind_some]
    rw [if_neg (by decide),w64 (n := s + 1) (by omega) (by omega)]
    exact Ok.mk ⟨m - 1,by omega,by omega,by omega⟩
  obtain ⟨r,hr,rfl⟩ := key
  exact hr

end Go.Proofs.YthdfmpocknmleaaGreatDoor

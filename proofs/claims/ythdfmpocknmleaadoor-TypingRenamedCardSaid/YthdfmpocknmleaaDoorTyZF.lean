/- TypingRenamed: what the law's function gives. No condition. -/
import Derived.Test.YthdfmpocknmleaaDoorTyO
import Derived.Test.YthdfmpocknmleaaDoorEvalA
namespace Go.Proofs.YthdfmpocknmleaaDoor
open Go.Sim

/-- A name with a letter added. -/
def renS (s : Str) : Str := if s = [] then [] else s ++ [113]
theorem renS_re : Re renS := by
  refine ⟨fun a b h => ?_,rfl⟩
  unfold renS at h
  by_cases ha : a = [] <;> by_cases hb : b = []
  · rw [ha,hb]
  · rw [if_pos ha,if_neg hb] at h
    have := congrArg List.length h
    simp at this
  · rw [if_neg ha,if_pos hb] at h
    have := congrArg List.length h
    simp at this
  · rw [if_neg ha,if_neg hb] at h
    exact List.append_cancel_right h
theorem renamed_is {s : Str} (h : s.length ≤ 1000) : flaw10_renamed s = some (renS s) := by
  unfold flaw10_renamed renS
  by_cases hs : s = []
  · subst hs; rfl
  · rw [if_neg (by simpa using hs),if_neg hs,show cat (s.length + ([113] : Str).length) = some () from if_pos (by rw [List.length_singleton]; omega)]; rfl
def renF (f : Sapi_Field) : Sapi_Field := ⟨renS f.Name,renS f.Of,renS f.Up,f.Kind,f.Lo,f.Hi,f.Words,f.Weights⟩
def renK (k : Sapi_Kind) : Sapi_Kind := ⟨renS k.Name,k.Lo,k.Hi,k.Fields.map renF⟩
def renL (l : Sapi_Life) : Sapi_Life := ⟨renS l.Name,l.States,l.Moves⟩
def renR (r : Sapi_Rule) : Sapi_Rule := ⟨renS r.Name,renS r.Kind,renS r.A,renS r.B,r.N⟩
def renX (x : Sapi_Schema) : Sapi_Schema := ⟨x.Version,x.Kinds.map renK,x.Lives.map renL,x.Rules.map renR⟩
theorem renX_ren (x : Sapi_Schema) : Ren renS x (renX x) := by
  refine ⟨renS_re,?_,?_,?_⟩
  · show (x.Kinds.map renK).map (kkey id) = _
    rw [List.map_map]
    apply List.map_congr_left
    intro k _
    show (renS k.Name,(k.Fields.map renF).map (fkey id)) = (renS k.Name,k.Fields.map (fkey renS))
    rw [List.map_map]; rfl
  · show (x.Lives.map renL).map (·.Name) = _
    rw [List.map_map]; rfl
  · show (x.Rules.map renR).map (rkey id) = _
    rw [List.map_map]; rfl
theorem renX_short {x : Sapi_Schema} (h : Short x) : Short (renX x) := by
  obtain ⟨⟨a1,a2⟩,⟨⟨b1,b2⟩,⟨c1,c2⟩,d⟩,e,f⟩ := h
  refine ⟨⟨by simpa [renX] using a1,fun k hk => ?_⟩,⟨⟨by simpa [renX] using b1,fun k hk => ?_⟩,⟨by simpa [renX] using c1,fun l hl => ?_⟩,by simpa [renX] using d⟩,by simpa [renX] using e,by simpa [renX] using f⟩
  · obtain ⟨q,hq,rfl⟩ := List.mem_map.1 (show k ∈ x.Kinds.map renK from hk)
    simpa [renK] using a2 q hq
  · obtain ⟨q,hq,rfl⟩ := List.mem_map.1 (show k ∈ x.Kinds.map renK from hk)
    refine ⟨by simpa [renK] using (b2 q hq).1,fun f hf => ?_⟩
    obtain ⟨g,hg,rfl⟩ := List.mem_map.1 (show f ∈ q.Fields.map renF from hf)
    exact (b2 q hq).2 g hg
  · obtain ⟨q,hq,rfl⟩ := List.mem_map.1 (show l ∈ x.Lives.map renL from hl)
    exact c2 q hq

theorem renamed_true (l : List Int) (a h b : Int) (i0 : ∀ x ∈ l,I64 x) (i1 : I64 a) (i2 : I64 h) (i3 : I64 b) : flaw10_TypingRenamed l a h b = some true := by
  have key : Ok (flaw10_TypingRenamed l a h b) (fun r => r = true) := by
    unfold flaw10_TypingRenamed
    refine (some_ok i0 i1 i2 i3).bind fun xs hxs => ?_
    obtain ⟨hx5,hsz⟩ := hxs
    refine Ok.bind (P := fun e => e = .inl ()) (Ok.loop (fun k s => 0 ≤ s ∧ s + k = xs.length) xs.length ⟨Int.le_refl _,by omega⟩ fun m s hs => ?_) fun e he => by subst he; dsimp only; rw [lives_true]; exact Ok.mk rfl
    refine Ok.ite (fun hc => ?_) (fun _ => Ok.mk rfl)
    have hc' : s < xs.length := of_decide_eq_true hc
    obtain ⟨x,hx,hxm⟩ := idx_some hs.1 hc'
    have hz := hsz x hxm
    have hsh := hz.short
    obtain ⟨⟨hk1,hk2⟩,⟨hl1,hl2⟩,hr1,hr2⟩ := hz
    unfold jn
    dsimp only
    rw [hx]
    simp only [Option.bind_some]
    rw [map_loop x.Kinds renK (fun k hk acc hacc => ?_) (fun acc => if_neg (by simp))]
    · simp only [Option.bind_some]
      rw [map_loop x.Lives renL (fun k hk acc hacc => ?_) (fun acc => if_neg (by simp))]
      · simp only [Option.bind_some]
        rw [map_loop x.Rules renR (fun k hk acc hacc => ?_) (fun acc => if_neg (by simp))]
        · simp only [Option.bind_some]
          have hy := renX_short hsh
          have e : (Sapi_Schema.mk x.Version (x.Kinds.map renK) (x.Lives.map renL) (x.Rules.map renR)) = renX x := rfl
          rw [e,Valid_is hsh.fine,Valid_is hy.fine,w64 (n := s + 1) (by omega) (by omega)]
          simp only [Option.bind_some]
          refine Ok.opt (P := fun r => r = validE (renX x)) (fun _ => Ok.mk rfl) fun r hr => ?_
          refine Ok.ite (fun _ => Ok.mk ⟨m - 1,by omega,by omega,by omega⟩) (fun hv => ?_)
          simp only [Bool.or_eq_false_iff,bne_eq_false_iff_eq] at hv
          have hvx := hv.1
          have hvy : validE (renX x) = 0 := by
            have := hr (by rw [hvx]; rfl)
            rw [← this]; exact hv.2
          have hc := (renX_ren x).check hvx hvy
          have hl := check_len hsh
          rw [Check_is hsh,Check_is hy,hc]
          simp only [Option.bind_some]
          rw [plain_is (by omega)]
          simp only [Option.bind_some]
          rw [same_refl (by rw [List.length_map]; omega)]
          simp only [Option.bind_some]
          rw [if_neg (by decide)]
          exact Ok.mk ⟨m - 1,by omega,by omega,by omega⟩
        · have hn := hr2 _ (List.getElem_mem hk)
          rw [if_pos (decide_eq_true (Int.ofNat_lt.2 hk))]
          dsimp only
          rw [idx_lt hk]
          simp only [Option.bind_some]
          rw [renamed_is (by have := hn.1.1; omega),renamed_is (by have := hn.2.1.1; omega),renamed_is (by have := hn.2.2.1.1; omega),renamed_is (by have := hn.2.2.2.1; omega)]
          simp only [Option.bind_some]
          rw [rm_le (by rw [List.length_singleton]; omega),w64_succ hk (by omega)]; rfl
      · have hn := (hl2 _ (List.getElem_mem hk)).2.2
        rw [if_pos (decide_eq_true (Int.ofNat_lt.2 hk))]
        dsimp only
        rw [idx_lt hk]
        simp only [Option.bind_some]
        rw [renamed_is (by have := hn.1; omega)]
        simp only [Option.bind_some]
        rw [rm_le (by rw [List.length_singleton]; omega),w64_succ hk (by omega)]; rfl
    · obtain ⟨n1,n2,n3⟩ := hk2 _ (List.getElem_mem hk)
      rw [if_pos (decide_eq_true (Int.ofNat_lt.2 hk))]
      dsimp only
      rw [idx_lt hk]
      simp only [Option.bind_some]
      rw [renamed_is (by have := n3.1; omega)]
      simp only [Option.bind_some]
      rw [map_loop x.Kinds[k].Fields renF (fun j hj acc2 hacc2 => ?_) (fun acc => if_neg (by simp))]
      · simp only [Option.bind_some]
        rw [rm_le (by rw [List.length_singleton]; omega),w64_succ hk (by omega)]; rfl
      · have hf := (n2 _ (List.getElem_mem hj)).2.2
        rw [if_pos (decide_eq_true (Int.ofNat_lt.2 hj))]
        dsimp only
        rw [idx_lt hj]
        simp only [Option.bind_some]
        rw [renamed_is (by have := hf.1.1; omega),renamed_is (by have := hf.2.1.1; omega),renamed_is (by have := hf.2.2.1; omega)]
        simp only [Option.bind_some]
        rw [rm_le (by rw [List.length_singleton]; omega),w64_succ hj (by omega)]; rfl
  obtain ⟨r,hr,rfl⟩ := key
  exact hr

end Go.Proofs.YthdfmpocknmleaaDoor

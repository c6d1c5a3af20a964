/- TypingNumbers: what the law's function gives. No condition. -/
import Derived.Test.YthdfmpocknmleaaDoorTyO
import Derived.Test.YthdfmpocknmleaaDoorEvalA
namespace Go.Proofs.YthdfmpocknmleaaDoor
open Go.Sim

theorem re_id : Re id := ⟨fun _ _ h => h,rfl⟩
/-- A field, a kind with other numbers. -/
def numF (n : Int) (f : Sapi_Field) : Sapi_Field := if f.Hi > 0 then ⟨f.Name,f.Of,f.Up,f.Kind,0,IntKind.i64.wrap (1 + n),f.Words,f.Weights⟩ else f
def numK (n : Int) (k : Sapi_Kind) : Sapi_Kind := ⟨k.Name,0,n,k.Fields.map (numF n)⟩
def numX (n : Int) (x : Sapi_Schema) : Sapi_Schema := ⟨n,x.Kinds.map (numK n),x.Lives,x.Rules⟩
theorem numX_ren (n : Int) (x : Sapi_Schema) : Ren id x (numX n x) := by
  refine ⟨re_id,?_,rfl,rfl⟩
  show (x.Kinds.map (numK n)).map (kkey id) = x.Kinds.map (kkey id)
  rw [List.map_map]
  apply List.map_congr_left
  intro k _
  show (k.Name,(k.Fields.map (numF n)).map (fkey id)) = (k.Name,k.Fields.map (fkey id))
  rw [List.map_map]
  congr 1
  apply List.map_congr_left
  intro f _
  show fkey id (numF n f) = fkey id f
  unfold numF
  split <;> rfl
theorem numX_short {n : Int} {x : Sapi_Schema} (h : Short x) : Short (numX n x) := by
  obtain ⟨⟨a1,a2⟩,⟨⟨b1,b2⟩,⟨c1,c2⟩,d⟩,e,f⟩ := h
  refine ⟨⟨by simpa [numX] using a1,fun k hk => ?_⟩,⟨⟨by simpa [numX] using b1,fun k hk => ?_⟩,⟨c1,c2⟩,d⟩,e,f⟩
  · obtain ⟨q,hq,rfl⟩ := List.mem_map.1 (show k ∈ x.Kinds.map (numK n) from hk)
    simpa [numK] using a2 q hq
  · obtain ⟨q,hq,rfl⟩ := List.mem_map.1 (show k ∈ x.Kinds.map (numK n) from hk)
    refine ⟨by simpa [numK] using (b2 q hq).1,fun f hf => ?_⟩
    obtain ⟨g,hg,rfl⟩ := List.mem_map.1 (show f ∈ q.Fields.map (numF n) from hf)
    have := (b2 q hq).2 g hg
    unfold numF
    split
    · exact this
    · exact this

/-- A loop that changes each element of a list in its place. -/
theorem upd_loop {α : Type} (l : List α) (g : α → α) {body : Int × List α → Option ((Int × List α) ⊕ List α)}
    (hs : ∀ k (h : k < l.length) (xs : List α),xs.length = l.length → xs[k]? = some l[k] → body ((k : Int),xs) = some (.inl (((k + 1 : Nat) : Int),xs.set k (g l[k])))) (he : ∀ xs : List α,xs.length = l.length → body ((l.length : Int),xs) = some (.inr xs)) :
    tailrec body ((0 : Int),l) = some (l.map g) := by
  have h := tailrec_for (body := body) l.length (fun n => ((n : Int),(l.take n).map g ++ l.drop n)) (l.map g) (fun k hk => ?_) ?_
  · simpa using h
  · rw [hs k hk _ (front_len g l k) (front_get g l hk),front_set g l hk]
  · rw [he _ (front_len g l l.length)]; simp

theorem numbers_true (l : List Int) (a h b : Int) (i0 : ∀ x ∈ l,I64 x) (i1 : I64 a) (i2 : I64 h) (i3 : I64 b) : flaw10_TypingNumbers l a h b = some true := by
  have key : Ok (flaw10_TypingNumbers l a h b) (fun r => r = true) := by
    unfold flaw10_TypingNumbers
    refine (some_ok i0 i1 i2 i3).bind fun xs hxs => ?_
    obtain ⟨hx5,hsz⟩ := hxs
    refine Ok.around i3 (by decide) fun n n0 n1 => ?_
    refine Ok.bind (P := fun e => e = .inl ()) (Ok.loop (fun k s => 0 ≤ s ∧ s + k = xs.length) xs.length ⟨Int.le_refl _,by omega⟩ fun m s hs => ?_) fun e he => by subst he; dsimp only; rw [lives_true]; exact Ok.mk rfl
    refine Ok.ite (fun hc => ?_) (fun _ => Ok.mk rfl)
    have hc' : s < xs.length := of_decide_eq_true hc
    obtain ⟨x,hx,hxm⟩ := idx_some hs.1 hc'
    have hz := hsz x hxm
    have hsh := hz.short
    obtain ⟨⟨hk1,hk2⟩,_⟩ := hz
    unfold jn
    dsimp only
    rw [hx]
    simp only [Option.bind_some,List.nil_append,List.length_nil,Nat.zero_add]
    rw [rm_le (by omega)]
    simp only [Option.bind_some]
    rw [upd_loop x.Kinds (numK n) (fun k hk ks hks hget => ?_) (fun ks hks => if_neg (by rw [hks]; simp))]
    · simp only [Option.bind_some]
      have hy := numX_short (n := n) hsh
      have e : (Sapi_Schema.mk n (x.Kinds.map (numK n)) x.Lives x.Rules) = numX n x := rfl
      rw [e,Valid_is hsh.fine,Valid_is hy.fine,w64 (n := s + 1) (by omega) (by omega)]
      simp only [Option.bind_some]
      refine Ok.opt (P := fun r => r = validE (numX n x)) (fun _ => Ok.mk rfl) fun r hr => ?_
      refine Ok.ite (fun _ => Ok.mk ⟨m - 1,by omega,by omega,by omega⟩) (fun hv => ?_)
      simp only [Bool.or_eq_false_iff,bne_eq_false_iff_eq] at hv
      have hvx := hv.1
      have hvy : validE (numX n x) = 0 := by
        have := hr (by rw [hvx]; rfl)
        rw [← this]; exact hv.2
      have hcc := (numX_ren n x).check hvx hvy
      have hl := check_len hsh
      rw [Check_is hsh,Check_is hy,hcc]
      simp only [Option.bind_some]
      rw [plain_is (by omega)]
      simp only [Option.bind_some]
      rw [same_refl (by rw [List.length_map]; omega)]
      simp only [Option.bind_some]
      rw [if_neg (by decide)]
      exact Ok.mk ⟨m - 1,by omega,by omega,by omega⟩
    · have hkl : k < ks.length := by omega
      have hn2 := hk2 _ (List.getElem_mem hk)
      have hset : ∀ (ys : List Sapi_Kind) (v : Sapi_Kind),ys.length = ks.length → setAt ys (k : Int) v = some (ys.set k v) ∧ idx (ys.set k v) (k : Int) = some v := fun ys v hy => by
        refine ⟨setAt_lt (by omega) v,?_⟩
        rw [idx_nat,List.getElem?_set_self (by omega)]
      rw [if_pos (decide_eq_true (Int.ofNat_lt.2 hkl))]
      dsimp only
      rw [idx_nat,hget]
      simp only [Option.bind_some]
      rw [(hset ks _ rfl).1]
      simp only [Option.bind_some]
      rw [(hset ks _ rfl).2]
      simp only [Option.bind_some]
      rw [(hset (ks.set k _) _ (by simp)).1]
      simp only [Option.bind_some]
      rw [(hset (ks.set k _) _ (by simp)).2]
      simp only [Option.bind_some]
      rw [rm_le (by omega)]
      simp only [Option.bind_some]
      rw [upd_loop x.Kinds[k].Fields (numF n) (fun j hj fs hfs hgf => ?_) (fun fs hfs => if_neg (by rw [hfs]; simp))]
      · simp only [Option.bind_some]
        rw [w64_succ hk (by omega)]
        simp [numK]
      · have hjl : j < fs.length := by omega
        have fset : ∀ (ys : List Sapi_Field) (v : Sapi_Field),ys.length = fs.length → setAt ys (j : Int) v = some (ys.set j v) ∧ idx (ys.set j v) (j : Int) = some v := fun ys v hy => by
          refine ⟨setAt_lt (by omega) v,?_⟩
          rw [idx_nat,List.getElem?_set_self (by omega)]
        rw [if_pos (decide_eq_true (Int.ofNat_lt.2 hjl))]
        dsimp only
        rw [idx_nat,hgf]
        simp only [Option.bind_some]
        rw [w64_succ hj (by omega)]
        unfold numF
        by_cases hh : x.Kinds[k].Fields[j].Hi > 0
        · rw [if_pos (decide_eq_true hh),if_pos hh,(fset fs _ rfl).1]
          simp only [Option.bind_some]
          rw [(fset fs _ rfl).2]
          simp only [Option.bind_some]
          rw [(fset (fs.set j _) _ (by simp)).1]
          simp
        · rw [if_neg (by simpa using hh),if_neg hh]
          simp only [Option.bind_some]
          have e : fs[j] = x.Kinds[k].Fields[j] := by
            have := List.getElem?_eq_getElem hjl
            rw [hgf] at this
            exact (Option.some.inj this).symm
          rw [← e,List.set_getElem_self]
  obtain ⟨r,hr,rfl⟩ := key
  exact hr

end Go.Proofs.YthdfmpocknmleaaDoor

/- TypingFewer: what the law's function gives. No condition. -/
import Derived.Test.YthdfmpocknmleaaDoorTyO
import Derived.Test.YthdfmpocknmleaaDoorEvalA
namespace Go.Proofs.YthdfmpocknmleaaDoor
open Go.Sim

/-! Without rules -/
def noR (x : Sapi_Schema) : Sapi_Schema := ⟨x.Version,x.Kinds,x.Lives,[]⟩
theorem noR_valid {x : Sapi_Schema} (h : validE x = 0) : validE (noR x) = 0 := by
  unfold validE at h ⊢
  split at h
  · rename_i hv
    split at h
    · cases h
    · rename_i hl
      have h1 : validS (noR x) = true := by
        unfold validS at hv ⊢
        simp only [Bool.and_eq_true,decide_eq_true_eq] at hv ⊢
        obtain ⟨⟨⟨⟨⟨⟨h1,h2⟩,h3⟩,h4⟩,h5⟩,h6⟩,h7⟩ := hv
        exact ⟨⟨⟨⟨⟨⟨h1,h2⟩,h3⟩,by simp [noR]⟩,h5⟩,h6⟩,by simp [noR]⟩
      have h2 : (srcS (noR x)).length ≤ (srcS x).length := by
        unfold srcS noR
        simp only [List.length_append,List.flatMap_nil,List.length_nil]; omega
      rw [if_pos h1,if_neg (by omega)]
  · cases h
theorem noR_check {x : Sapi_Schema} (h : validE x = 0) : checkS (noR x) = livesP x ++ kindsP x := by
  unfold checkS
  rw [if_pos (noR_valid h),show rulesP (noR x) = [] from rfl,List.append_nil]
  rfl
theorem noR_short {x : Sapi_Schema} (h : Short x) : Short (noR x) := by
  obtain ⟨⟨a1,a2⟩,⟨⟨b1,b2⟩,⟨c1,c2⟩,d⟩,e,f⟩ := h
  exact ⟨⟨a1,a2⟩,⟨⟨b1,b2⟩,⟨c1,c2⟩,by simp [noR]⟩,e,by simp [noR]⟩
theorem prob_rule {k j r e : Int} {p : Styping_Problem} (h : p ∈ prob k j r e) : p.Rule = r := by
  unfold prob at h
  split at h
  · cases h
  · rw [List.mem_singleton] at h; rw [h]
theorem part_rule {x : Sapi_Schema} : (∀ p ∈ livesP x ++ kindsP x,p.Rule < 0) ∧ ∀ p ∈ rulesP x,0 ≤ p.Rule := by
  refine ⟨fun p hp => ?_,fun p hp => ?_⟩
  · rcases List.mem_append.1 hp with hp | hp
    · obtain ⟨i,_,hp⟩ := List.mem_flatMap.1 hp
      unfold lifeP at hp
      split at hp
      · rw [prob_rule hp]; decide
      · cases hp
    · obtain ⟨i,_,hp⟩ := List.mem_flatMap.1 hp
      unfold kindP at hp
      split at hp
      · rcases List.mem_append.1 hp with hp | hp
        · rw [prob_rule hp]; decide
        · obtain ⟨j,_,hp⟩ := List.mem_flatMap.1 hp
          unfold fieldP at hp
          split at hp
          · rw [prob_rule hp]; decide
          · cases hp
      · cases hp
  · obtain ⟨i,_,hp⟩ := List.mem_flatMap.1 hp
    unfold ruleP at hp
    split at hp
    · rw [prob_rule hp]; omega
    · cases hp
theorem fewer_filter {x : Sapi_Schema} (h : validE x = 0) : ((checkS x).map toR).filter (fun p => decide (p.Rule < 0)) = (checkS (noR x)).map toR := by
  obtain ⟨h1,h2⟩ := part_rule (x := x)
  rw [noR_check h]
  unfold checkS
  rw [if_pos h,List.map_append,List.filter_append,List.filter_eq_self.2,List.filter_eq_nil_iff.2,List.append_nil]
  · intro p hp
    obtain ⟨q,hq,rfl⟩ := List.mem_map.1 hp
    have := h2 q hq
    exact fun hd => by have h3 : q.Rule < 0 := of_decide_eq_true hd; omega
  · intro p hp
    obtain ⟨q,hq,rfl⟩ := List.mem_map.1 hp
    exact decide_eq_true (h1 q hq)

/-! With one more kind -/
def zName : Str := [122,102,117,114,116,104,101,114]
def zKind : Sapi_Kind := ⟨zName,0,0,[⟨[122,107,101,121],[],[],0,0,0,[],[]⟩]⟩
def addX (x : Sapi_Schema) : Sapi_Schema := ⟨x.Version,x.Kinds ++ [zKind],x.Lives,x.Rules⟩
theorem SN.ne {s : Str} (h : SN s) : s ≠ zName := by rintro rfl; exact h.2 rfl
/-- No name of it is that of the new kind. -/
structure NZ (x : Sapi_Schema) : Prop where
  kind : ∀ q ∈ x.Kinds,q.Name ≠ zName
  field : ∀ q ∈ x.Kinds,∀ f ∈ q.Fields,f.Of ≠ zName
  rule : ∀ r ∈ x.Rules,r.Kind ≠ zName
theorem Sz.nz {x : Sapi_Schema} (h : Sz x) : NZ x :=
  ⟨fun q hq => (h.1.2 q hq).2.2.ne,fun q hq f hf => ((h.1.2 q hq).2.1 f hf).2.2.2.1.ne,fun r hr => (h.2.2.2 r hr).2.1.ne⟩
theorem member {x : Sapi_Schema} {k j : Int} {f : Sapi_Field} (h : field? x k j = some f) : ∃ q ∈ x.Kinds,f ∈ q.Fields := by
  obtain ⟨q,_,hj,_,hf,hm,_⟩ := field_some h
  rw [idx_int _ hj] at hf
  exact ⟨q,hm,List.mem_of_getElem? hf⟩
section
variable {x : Sapi_Schema}
theorem NZ.of (h : NZ x) {k j : Int} {f : Sapi_Field} (hf : field? x k j = some f) : f.Of ≠ zName := by
  obtain ⟨q,hq,hm⟩ := member hf
  exact h.field q hq f hm
theorem add_kind {n : Str} (hn : n ≠ zName) : kindIx (addX x) n = kindIx x n := by
  have e : (zKind.Name == n) = false := by simpa [zKind] using fun h => hn h.symm
  unfold kindIx firstIdx addX
  dsimp only
  rw [List.findIdx?_append]
  cases x.Kinds.findIdx? (fun k => k.Name == n) with
  | some i => rfl
  | none => simp [List.findIdx?_cons,e]
theorem add_idx {k : Int} (hk : k < x.Kinds.length) : idx (addX x).Kinds k = idx x.Kinds k := by
  unfold idx addX
  dsimp only
  split
  · rw [List.getElem?_append_left (by omega)]
  · rfl
theorem add_field {k : Int} (hk : k < x.Kinds.length) (j : Int) : field? (addX x) k j = field? x k j := by
  rw [field_idx,field_idx,add_idx hk]
theorem add_ref {f : Sapi_Field} (hf : f.Of ≠ zName) (k : Int) : refIx (addX x) k f = refIx x k f := by
  unfold refIx; rw [add_kind hf]
theorem add_up (h : NZ x) {k : Int} (hk : k < x.Kinds.length) (j : Int) : upIx (addX x) k j = upIx x k j := by
  unfold upIx
  rw [add_field hk]
  cases hf : field? x k j with
  | none => rfl
  | some f =>
    dsimp only
    rw [add_ref (h.of hf),add_idx hk]
    cases hq : idx x.Kinds k with
    | none => rfl
    | some q =>
      dsimp only
      rw [add_field hk]
      cases hg : field? x k (fieldIx q f.Up) with
      | none => rfl
      | some g =>
        dsimp only
        rw [add_ref (h.of hg)]
theorem add_shl (h : NZ x) {o : Int} (ho : o < x.Kinds.length) (k : Int) (n : Str) : shl (addX x) o k n = shl x o k n := by
  unfold shl
  rw [add_idx ho]
  cases idx x.Kinds o with
  | none => rfl
  | some q =>
    dsimp only
    congr 2
    funext i
    unfold shareQ
    rw [add_up h ho]
theorem add_sum (h : NZ x) {f : Sapi_Field} (hf : f.Of ≠ zName) (k : Int) : sumIx (addX x) k f = sumIx x k f := by
  unfold sumIx
  rw [add_kind hf,add_shl h (kindIx_lt x f.Of).2]
theorem add_top (h : NZ x) {k : Int} (hk0 : 0 ≤ k) (hk : k < x.Kinds.length) (j : Int) (f : Sapi_Field) : topS (addX x) k j f = topS x k j f := by
  have hu := upIx_lt x k j hk0
  unfold topS
  rw [add_up h hk,add_idx (k := upIx x k j) (by omega)]
  split
  · rfl
  · cases idx x.Kinds (upIx x k j) with
    | none => rfl
    | some q =>
      dsimp only
      rw [add_field (k := upIx x k j) (by omega)]
theorem top_of (h : NZ x) (k j : Int) (f : Sapi_Field) : (topS x k j f).1.Of ≠ zName := by
  have hz : zeroField.Of ≠ zName := by decide
  unfold topS
  split
  · exact hz
  · split
    · exact hz
    · split
      · rename_i g hg
        exact h.of hg
      · exact hz
theorem add_lead (h : NZ x) {k j : Int} {q : Sapi_Kind} {f : Sapi_Field} (hf : field? x k j = some f) : leadE (addX x) q k j f = leadE x q k j f := by
  obtain ⟨_,hk,_,_,_,_,hkl,_⟩ := field_some hf
  unfold leadE
  rw [add_up h hkl,add_field hkl,add_sum h (h.of hf),add_top h hk hkl,add_kind (top_of h k j f)]
  rfl
theorem add_ruleAt {k : Int} (hk : k < x.Kinds.length) (n : Str) : ruleAt (addX x) k n = ruleAt x k n := by
  unfold ruleAt
  rw [add_idx hk]
  cases idx x.Kinds k with
  | none => rfl
  | some q =>
    dsimp only
    rw [add_field hk]
theorem add_rule {r : Sapi_Rule} (hr : r.Kind ≠ zName) (i : Nat) : ruleE (addX x) i r = ruleE x i r := by
  have hk := (kindIx_lt x r.Kind).2
  unfold ruleE missS wrongS
  rw [add_kind hr,add_ruleAt hk,add_ruleAt hk]
  rfl
theorem add_check (h : NZ x) (hx : validE x = 0) (hy : validE (addX x) = 0) : checkS (addX x) = checkS x := by
  have lk : (addX x).Kinds.length = x.Kinds.length + 1 := by simp [addX]
  unfold checkS
  rw [if_pos hx,if_pos hy,show livesP (addX x) = livesP x from rfl]
  have e1 : kindsP (addX x) = kindsP x := by
    unfold kindsP
    rw [lk,List.range_succ,List.flatMap_append]
    have e0 : kindP (addX x) x.Kinds.length = [] := by
      have hq : (addX x).Kinds[x.Kinds.length]? = some zKind := by simp [addX]
      have hz : kindIx (addX x) zName = (x.Kinds.length : Int) := by
        have hn : x.Kinds.findIdx? (fun k => k.Name == zName) = none := by
          rw [List.findIdx?_eq_none_iff]
          intro q hq
          simpa using h.kind q hq
        unfold kindIx firstIdx addX
        dsimp only
        rw [List.findIdx?_append,hn]
        simp [List.findIdx?_cons,zKind]
      unfold kindP
      rw [hq]
      dsimp only
      have a1 : kindE (addX x) (x.Kinds.length : Int) zKind = 0 := by
        unfold kindE
        rw [show zKind.Name = zName from rfl,hz,decide_eq_false (by omega)]
        rfl
      have a2 : fieldsP (addX x) x.Kinds.length zKind = [] := by
        show (List.range 1).flatMap (fieldP (addX x) x.Kinds.length zKind) = []
        show fieldP (addX x) x.Kinds.length zKind 0 ++ [] = []
        rfl
      rw [a1,a2]; rfl
    rw [List.flatMap_cons,e0]
    simp only [List.flatMap_nil,List.append_nil]
    refine range_congr fun i hi => ?_
    have hi' : (i : Int) < x.Kinds.length := by omega
    unfold kindP
    have := add_idx hi'
    rw [idx_nat,idx_nat] at this
    rw [this,List.getElem?_eq_getElem hi]
    dsimp only
    have hm := List.getElem_mem hi
    have a1 : kindE (addX x) (i : Int) x.Kinds[i] = kindE x (i : Int) x.Kinds[i] := by
      unfold kindE
      rw [add_kind (h.kind _ hm)]
    rw [a1]
    congr 1
    refine range_congr fun j hj => ?_
    unfold fieldP
    rw [List.getElem?_eq_getElem hj]
    dsimp only
    unfold fieldE
    rw [add_lead h (field_of (by omega) (by omega) (idx_lt hi) (idx_lt hj))]
  have e2 : rulesP (addX x) = rulesP x := by
    refine range_congr fun i hi => ?_
    have hi' : i < x.Rules.length := hi
    unfold ruleP
    rw [show (addX x).Rules = x.Rules from rfl,List.getElem?_eq_getElem hi']
    dsimp only
    rw [add_rule (h.rule _ (List.getElem_mem hi'))]
  rw [e1,e2]
theorem addX_short (h : Short x) (hk : x.Kinds.length ≤ 900) : Short (addX x) := by
  obtain ⟨⟨_,a2⟩,⟨⟨_,b2⟩,⟨c1,c2⟩,d⟩,e,f⟩ := h
  refine ⟨⟨by simp [addX]; omega,fun k hk => ?_⟩,⟨⟨by simp [addX]; omega,fun k hk => ?_⟩,⟨c1,c2⟩,d⟩,e,f⟩
  · rcases List.mem_append.1 (show k ∈ x.Kinds ++ [zKind] from hk) with hk | hk
    · exact a2 k hk
    · rw [List.mem_singleton] at hk; subst hk; decide
  · rcases List.mem_append.1 (show k ∈ x.Kinds ++ [zKind] from hk) with hk | hk
    · exact b2 k hk
    · rw [List.mem_singleton] at hk; subst hk
      refine ⟨by decide,fun f hf => ?_⟩
      rw [show zKind.Fields = [⟨[122,107,101,121],[],[],0,0,0,[],[]⟩] from rfl,List.mem_singleton] at hf
      subst hf; exact ⟨by decide,by decide⟩
end

theorem fewer_true (l : List Int) (a h b : Int) (i0 : ∀ x ∈ l,I64 x) (i1 : I64 a) (i2 : I64 h) (i3 : I64 b) : flaw10_TypingFewer l a h b = some true := by
  have key : Ok (flaw10_TypingFewer l a h b) (fun r => r = true) := by
    unfold flaw10_TypingFewer
    refine (some_ok i0 i1 i2 i3).bind fun xs hxs => ?_
    obtain ⟨hx5,hsz⟩ := hxs
    refine Ok.bind (P := fun e => e = .inl ()) (Ok.loop (fun k s => 0 ≤ s ∧ s + k = xs.length) xs.length ⟨Int.le_refl _,by omega⟩ fun m s hs => ?_) fun e he => by subst he; dsimp only; rw [lives_true]; exact Ok.mk rfl
    refine Ok.ite (fun hc => ?_) (fun _ => Ok.mk rfl)
    have hc' : s < xs.length := of_decide_eq_true hc
    obtain ⟨x,hx,hxm⟩ := idx_some hs.1 hc'
    have hz := hsz x hxm
    have hsh := hz.short
    have hnz := hz.nz
    have hk := hz.1.1
    have hy := noR_short hsh
    have hw := addX_short hsh (by omega)
    unfold jn
    dsimp only
    rw [hx]
    simp only [Option.bind_some,List.nil_append,List.length_nil,Nat.zero_add]
    rw [rm_le (by omega),rm_le (by rw [List.length_singleton]; omega)]
    simp only [Option.bind_some]
    have e1 : (Sapi_Schema.mk x.Version (x.Kinds ++ [(Sapi_Kind.mk ([122,102,117,114,116,104,101,114] : Str) (0:Int) (0:Int) [(Sapi_Field.mk ([122,107,101,121] : Str) ([] : Str) ([] : Str) (0:Int) (0:Int) (0:Int) ([] : (List Str)) ([] : (List Int)))])]) x.Lives x.Rules) = addX x := rfl
    have e2 : (Sapi_Schema.mk x.Version x.Kinds x.Lives []) = noR x := rfl
    rw [e1,e2,Valid_is hsh.fine,Valid_is hw.fine,w64 (n := s + 1) (by omega) (by omega)]
    simp only [Option.bind_some]
    refine Ok.opt (P := fun r => r = validE (addX x)) (fun _ => Ok.mk rfl) fun r hr => ?_
    refine Ok.ite (fun _ => Ok.mk ⟨m - 1,by omega,by omega,by omega⟩) (fun hv => ?_)
    simp only [Bool.or_eq_false_iff,bne_eq_false_iff_eq] at hv
    have hvx := hv.1
    have hvw : validE (addX x) = 0 := by
      have := hr (by rw [hvx]; rfl)
      rw [← this]; exact hv.2
    have hl := check_len hsh
    have hly := check_len hy
    rw [Check_is hsh,Check_is hy,Check_is hw,add_check hnz hvx hvw]
    simp only [Option.bind_some]
    rw [plain_is (by omega),plain_is (l := checkS (noR x)) (by omega)]
    simp only [Option.bind_some]
    rw [filter_loop ((checkS x).map toR) (fun p => decide (p.Rule < 0)) (fun k hk acc hacc => ?_) (fun acc => if_neg (by simp)),fewer_filter hvx]
    · simp only [Option.bind_some]
      rw [same_refl (by rw [List.length_map]; omega)]
      simp only [Option.bind_some,Bool.not_true,beq_self_eq_true,Sim.opt,if_true]
      rw [plain_is (by omega)]
      simp only [Option.bind_some]
      rw [same_refl (by rw [List.length_map]; omega)]
      exact Ok.mk ⟨m - 1,by omega,by omega,by omega⟩
    · rw [List.length_map] at hk
      rw [if_pos (by simpa using hk)]
      dsimp only
      rw [idx_lt (by rw [List.length_map]; exact hk)]
      simp only [Option.bind_some]
      rw [rm_le (by rw [List.length_singleton]; omega),w64_succ hk (by omega)]
      cases decide ((((checkS x).map toR)[k]'(by rw [List.length_map]; exact hk)).Rule < 0) <;> rfl
  obtain ⟨r,hr,rfl⟩ := key
  exact hr

end Go.Proofs.YthdfmpocknmleaaDoor

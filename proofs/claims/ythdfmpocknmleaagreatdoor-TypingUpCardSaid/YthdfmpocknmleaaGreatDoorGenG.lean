/- Go functions as Lean functions, and the proofs that they compute them, written by a program. No condition. -/
import Derived.Test.YthdfmpocknmleaaGreatDoorGenF
namespace Go.Proofs.YthdfmpocknmleaaGreatDoor
open Go.Sim

/- diorama/dioramaref10.Same -/
noncomputable def fref10_Same (a_ : (List Sref10_Problem)) (b_ : (List Sref10_Problem)) : Option (Bool) := (if ((a_.length : Int) != (b_.length : Int)) = true then (some false) else (tailrec (fun (s7 : Int) => ((if (decide (s7 < (a_.length : Int))) = true then (idx a_ s7).bind fun t19 => (idx b_ s7).bind fun t23 => (if (!eqSref10_Problem t19 t23) = true then (some (.inr (.inr false))) else (some (.inl (IntKind.i64.wrap (s7 + (1:Int)))))) else (some (.inr (.inl ())))) : Option ((Int) ⊕ ((Unit) ⊕ (Bool))))) (0:Int)).bind fun (e8 : (Unit) ⊕ (Bool)) => (match e8 with | .inl _ => (some true) | .inr p24 => (some p24)))
set_option maxRecDepth 100000 in
set_option maxHeartbeats 4000000 in
theorem ref10_Same_ok {a_ : (List Sref10_Problem)} {b_ : (List Sref10_Problem)} {r : Bool} (h : fref10_Same a_ b_ = some r) : FnOk Tryz.prog 8 [tsl rSref10_Problem a_,tsl rSref10_Problem b_] [] (fun _ => []) (fun _ => tb r) := by
 unfold fref10_Same at h
 refine FnOk.enter Tryz.func8 rfl Tryz.ntmps8 (leb rfl) (fun M0 M w0 a hpl hst => ?_)
 replace hst : St M w0 26 [(0,tsl rSref10_Problem a_),(1,tsl rSref10_Problem b_)] [] a w0 := hst
 refine sr mixed [] hst (fun _ => .p rfl (op_assign .k) <| .nil _ _) fun n0 a w hst => ?_
 replace hst : St _ _ _ [_,_] [] _ _ := hst.pick [1,2]
 refine wp_seq_k (fun K2 hK2 => ?_)
 refine sr mixed [] hst (fun _ => .q 0 rfl <| .p rfl (op_len Tryz.underlying26 z0) <| .q 3 rfl <| .p rfl (op_len Tryz.underlying26 z0) <| .p rfl (op_neq z2 z0) <| .nil _ _) fun n1 a w hst => ?_
 replace hst : St _ _ _ [_,_,_] [] _ _ := hst.pick [4,5,6]
 refine wp_test 0 hst rfl (fun b34 => ?_) (fun b34 => ?_)
 ·replace h := ite_t b34 h
  refine sr mixed [] hst (fun _ => .p rfl (op_assign .k) <| .nil _ _) fun n2 a w hst => ?_
  replace hst : St _ _ _ [_] [] _ _ := hst.pick [0]
  refine wp_ret ?_
  obtain rfl := sj h
  exact ret_st undef [] hpl hst rfl (.tmp z0 .nil) rfl rfl rfl
 ·replace h := ite_f b34 h
  refine wp_skip ?_
  refine hK2 _ _ ?_
  try clear hK2 K2
  refine wp_seq_k (fun K5 hK5 => ?_)
  refine sr mixed [] hst (fun _ => .p rfl (op_assign .k) <| .nil _ _) fun n3 a w hst => ?_
  replace hst : St _ _ _ [_,_,_] [] _ _ := hst.pick [0,2,3]
  obtain ⟨e8,he8,h⟩ := bind_some h
  have hJp23 : ∀ (p23 : Unit) a w,(.inl p23) = e8 → St M w0 26 [] [] a w → K5 a w := by
   intro p23 a w he hst
   subst he
   simp only at h
   refine hK5 _ _ ?_
   try clear hK5 K5
   refine sr mixed [] hst (fun _ => .p rfl (op_assign .k) <| .nil _ _) fun n8 a w hst => ?_
   replace hst : St _ _ _ [_] [] _ _ := hst.pick [0]
   refine wp_ret ?_
   obtain rfl := sj h
   exact ret_st undef [] hpl hst rfl (.tmp z0 .nil) rfl rfl rfl
  have hJp24 : ∀ (p24 : Bool) a w,(.inr p24) = e8 → St M w0 26 [(4,tb p24)] [] a w → Ret Tryz.prog Tryz.f8 M0 [] w0 (fun _ => []) (fun _ => tb r) .ret a w := by
   intro p24 a w he hst
   subst he
   simp only at h
   obtain rfl := sj h
   exact ret_st undef [] hpl hst rfl (.tmp z0 .nil) rfl rfl rfl
  refine wp_block ?_
  refine wp_loopK _ (fun (s7 : Int) a w => St M w0 26 [(5,ti s7),(0,tsl rSref10_Problem a_),(1,tsl rSref10_Problem b_)] [] a w) _ _ he8 (hst.pick [0,1,2]) ?_
  clear h
  intro s7 o a w K26 hI h ho hK26
  have hst := hI
  clear hI
  refine wp_seq_k (fun K27 hK27 => ?_)
  refine sr mixed [] hst (fun _ => .q 0 rfl <| .q 2 rfl <| .p rfl (op_len Tryz.underlying26 z0) <| .p rfl (op_lss z2 z0) <| .nil _ _) fun n4 a w hst => ?_
  replace hst : St _ _ _ [_,_,_,_] [] _ _ := hst.pick [3,4,5,6]
  refine wp_test 0 hst rfl (fun b33 => ?_) (fun b33 => ?_)
  ·replace h := ite_t b33 h
   refine wp_skip ?_
   refine hK27 _ _ ?_
   try clear hK27 K27
   refine wp_seq_k (fun K29 hK29 => ?_)
   refine wp_block ?_
   obtain ⟨t19,ht19,h⟩ := bind_some h
   obtain ⟨t23,ht23,h⟩ := bind_some h
   refine sr mixed [] hst (fun _ => .q 2 rfl <| .q 2 rfl <| .p rfl (op_index Tryz.underlying26 tok62 z1 z0 ht19) <| .p rfl (op_load tok62 z0) <| .q 7 rfl <| .q 6 rfl <| .p rfl (op_index Tryz.underlying26 tok62 z1 z0 ht23) <| .p rfl (op_load tok62 z0) <| .p rfl (op_neq_t62 z4 z0) <| .nil _ _) fun n6 a w hst => ?_
   replace hst : St _ _ _ [_,_,_,_] [] _ _ := hst.pick [8,10,11,12]
   refine wp_test 0 hst rfl (fun b32 => ?_) (fun b32 => ?_)
   ·replace h := ite_t b32 h
    refine sr mixed [] hst (fun _ => .p rfl (op_assign .k) <| .nil _ _) fun n7 a w hst => ?_
    replace hst : St _ _ _ [_] [] _ _ := hst.pick [0]
    refine wp_ret ?_
    exact hJp24 _ _ _ (ho _ (sj h).symm) (hst.pick [0])
   ·replace h := ite_f b32 h
    refine wp_skip ?_
    refine hK29 _ _ ?_
    try clear hK29 K29
    refine wr mixed [] hst (fun _ => .q 1 rfl <| .p rfl (op_add z0 .k) <| .p rfl (op_assign z0) <| .nil _ _) fun n5 a w hst => ?_
    replace hst : St _ _ _ [_,_,_] [] _ _ := hst.pick [2,4,5]
    exact hK26 _ _ _ (sj h).symm (hst.pick [0,1,2])
  ·replace h := ite_f b33 h
   refine wp_exit ?_
   exact hJp23 _ _ _ (ho _ (sj h).symm) (hst.pick [])

/- diorama/dioramalaw10.lives -/
noncomputable def flaw10_lives  : Option (Bool) := (flaw10_example false false).bind fun t4 => (ftyping_Check t4).bind fun t5 => (flaw10_plain t5).bind fun t6 => (flaw10_example true false).bind fun t7 => (ftyping_Check t7).bind fun t8 => (flaw10_plain t8).bind fun t9 => (flaw10_example true true).bind fun t10 => (ftyping_Check t10).bind fun t11 => (flaw10_plain t11).bind fun t12 => (fref10_Same t6 [(Sref10_Problem.mk (1:Int) (2:Int) (-1:Int) (13:Int))]).bind fun t16 => (opt ((t16 && ((t9.length : Int) == (0:Int))) == true) (fref10_Same t12 [(Sref10_Problem.mk (0:Int) (1:Int) (-1:Int) (12:Int)),(Sref10_Problem.mk (0:Int) (2:Int) (-1:Int) (12:Int))]) default).bind fun t27 => (some ((t16 && ((t9.length : Int) == (0:Int))) && t27))
set_option maxRecDepth 100000 in
set_option maxHeartbeats 4000000 in
theorem law10_lives_ok {r : Bool} (h : flaw10_lives  = some r) : FnOk Tryz.prog 12 [] [glo] (fun _ => []) (fun _ => tb r) := by
 unfold flaw10_lives at h
 refine FnOk.enter Tryz.func12 rfl Tryz.ntmps12 (leb rfl) (fun M0 M w0 a hpl hst => ?_)
 replace hst : St M w0 29 [] [glo] a w0 := hst
 refine sr mixed [] hst (fun _ => .p rfl (op_assign .k) <| .nil _ _) fun n0 a w hst => ?_
 replace hst : St _ _ _ [] [_] _ _ := hst.pick []
 obtain ⟨t4,ht4,h⟩ := bind_some h
 obtain ⟨t5,ht5,h⟩ := bind_some h
 obtain ⟨t6,ht6,h⟩ := bind_some h
 refine sr mixed [] hst (fun _ => .p rfl (op_callF call43 (law10_example_ok ht4) (.cons (.of .k) <| .cons (.of .k) <| .nil)) <| .u [0] rfl rfl ((op_callF call10 (typing_Check_ok ht5) (.cons (.of z0) <| .nil)).glo) <| .p rfl (op_callF call9 (law10_plain_ok ht6) (.cons (.of z0) <| .nil)) <| .p rfl (op_assign z0) <| .nil _ _) fun n1 a w hst => ?_
 replace hst : St _ _ _ [_] [_] _ _ := hst.pick [3]
 obtain ⟨t7,ht7,h⟩ := bind_some h
 obtain ⟨t8,ht8,h⟩ := bind_some h
 obtain ⟨t9,ht9,h⟩ := bind_some h
 refine sr mixed [] hst (fun _ => .p rfl (op_callF call43 (law10_example_ok ht7) (.cons (.of .k) <| .cons (.of .k) <| .nil)) <| .u [0] rfl rfl ((op_callF call10 (typing_Check_ok ht8) (.cons (.of z0) <| .nil)).glo) <| .p rfl (op_callF call9 (law10_plain_ok ht9) (.cons (.of z0) <| .nil)) <| .p rfl (op_assign z0) <| .nil _ _) fun n2 a w hst => ?_
 replace hst : St _ _ _ [_,_] [_] _ _ := hst.pick [3,4]
 obtain ⟨t10,ht10,h⟩ := bind_some h
 obtain ⟨t11,ht11,h⟩ := bind_some h
 obtain ⟨t12,ht12,h⟩ := bind_some h
 refine sr mixed [] hst (fun _ => .p rfl (op_callF call43 (law10_example_ok ht10) (.cons (.of .k) <| .cons (.of .k) <| .nil)) <| .u [0] rfl rfl ((op_callF call10 (typing_Check_ok ht11) (.cons (.of z0) <| .nil)).glo) <| .p rfl (op_callF call9 (law10_plain_ok ht12) (.cons (.of z0) <| .nil)) <| .p rfl (op_assign z0) <| .nil _ _) fun n3 a w hst => ?_
 replace hst : St _ _ _ [_,_,_] [_] _ _ := hst.pick [3,4,5]
 obtain ⟨t16,ht16,h⟩ := bind_some h
 obtain ⟨t27,ht27,h⟩ := bind_some h
 refine sr mixed [] hst (fun _ => .q 2 rfl <| .p (T := rSref10_Problem.ty (Sref10_Problem.mk (1:Int) (2:Int) (-1:Int) (13:Int))) rfl (op_build Tryz.underlying62 pl62 zv62 zc62 (.cons (R := rI) (u := (1:Int)) rfl .k (leb rfl) <| .cons (R := rI) (u := (2:Int)) rfl .k (leb rfl) <| .cons (R := rI) (u := (-1:Int)) rfl .k (leb rfl) <| .cons (R := rI) (u := (13:Int)) rfl .k (leb rfl) <| .nil _)) <| .p rfl (op_buildSl (R := rSref10_Problem) (us := [(Sref10_Problem.mk (1:Int) (2:Int) (-1:Int) (13:Int))]) Tryz.underlying26 tok62 (.cons z0 <| .nil _) rfl (leb rfl)) <| .p rfl (op_callF call8 (ref10_Same_ok ht16) (.cons (.of z2) <| .cons (.of z0) <| .nil)) <| .q 0 rfl <| .g rfl rfl (.b 0 rfl) (fun _ => op_move z6) <| .g rfl rfl (.b 1 rfl) (fun hc => op_len Tryz.underlying26 (.cond z0 hc)) <| .g rfl rfl (.b 2 rfl) (fun hc => op_eql (.cond z0 hc) .k) <| .p rfl (op_and z3 (fun hp => (.cond z0 (beqT hp)))) <| .q 0 rfl <| .g rfl rfl (.b 0 rfl) (fun _ => op_move z10) <| .g (T := rSref10_Problem.ty (Sref10_Problem.mk (0:Int) (1:Int) (-1:Int) (12:Int))) rfl rfl (.b 1 rfl) (fun _ => op_build Tryz.underlying62 pl62 zv62 zc62 (.cons (R := rI) (u := (1:Int)) rfl .k (leb rfl) <| .cons (R := rI) (u := (-1:Int)) rfl .k (leb rfl) <| .cons (R := rI) (u := (12:Int)) rfl .k (leb rfl) <| .nil _)) <| .g (T := rSref10_Problem.ty (Sref10_Problem.mk (0:Int) (2:Int) (-1:Int) (12:Int))) rfl rfl (.b 2 rfl) (fun _ => op_build Tryz.underlying62 pl62 zv62 zc62 (.cons (R := rI) (u := (2:Int)) rfl .k (leb rfl) <| .cons (R := rI) (u := (-1:Int)) rfl .k (leb rfl) <| .cons (R := rI) (u := (12:Int)) rfl .k (leb rfl) <| .nil _)) <| .g rfl rfl (.b 3 rfl) (fun hc => op_buildSl (R := rSref10_Problem) (us := [(Sref10_Problem.mk (0:Int) (1:Int) (-1:Int) (12:Int)),(Sref10_Problem.mk (0:Int) (2:Int) (-1:Int) (12:Int))]) Tryz.underlying26 tok62 (.cons (.cond z1 hc) <| .cons (.cond z0 hc) <| .nil _) rfl (leb rfl)) <| .g rfl rfl (.b 4 rfl) (fun hc => op_callF call8 (ref10_Same_ok (opt_t ht27 hc)) (.cons (.of (.cond z3 hc)) <| .cons (.of (.cond z0 hc)) <| .nil)) <| .p rfl (op_and z5 (fun hp => (.cond z0 (beqT hp)))) <| .p rfl (op_assign z0) <| .nil _ _) fun n4 a w hst => ?_
 replace hst : St _ _ _ [_] [_] _ _ := hst.pick [16]
 refine wp_ret ?_
 obtain rfl := sj h
 exact ret_st undef [] hpl hst rfl (.tmp z0 .nil) rfl rfl rfl

/- diorama/dioramalaw10.TypingUp -/
noncomputable def flaw10_TypingUp (l_ : (List Int)) (at_ : Int) (how_ : Int) (by_ : Int) : Option (Bool) := (flaw10_some l_ at_ how_ by_).bind fun t23 => (tailrec (fun (s5 : Int) => ((if (decide (s5 < (t23.length : Int))) = true then (jn (fun (_ : Unit) => (some (.inl (IntKind.i64.wrap (s5 + (1:Int)))))) fun j560 => (idx t23 s5).bind fun t32 => (ftyping_Check t32).bind fun t35 => (if (decide ((t35.length : Int) > (0:Int))) = true then (j560 ()) else (tailrec (fun (s566 : Int) => ((if (decide (s566 < ((t32).Kinds.length : Int))) = true then (tailrec (fun (s617 : Int) => ((idx (t32).Kinds s566).bind fun t49 => (if (decide (s617 < ((t49).Fields.length : Int))) = true then (idx (t32).Kinds s566).bind fun t59 => (idx (t59).Fields s617).bind fun t63 => (ftyping_Up t32 s566 s617).bind fun t68 => (if ((((((t63).Kind == (1:Int)) || ((t63).Kind == (7:Int))) || ((t63).Kind == (8:Int))) && ((decide (t68 < (0:Int))) || (decide (t68 ≥ s566)))) || ((!((((t63).Kind == (1:Int)) || ((t63).Kind == (7:Int))) || ((t63).Kind == (8:Int)))) && (t68 != (-1:Int)))) = true then (some (.inr (.inr false))) else (ftyping_Shares t32 s566 s617).bind fun t104 => (opt ((((t63).Kind == (6:Int)) == true) && ((decide (t104.1 ≤ s566)) == false)) (ftyping_Up t32 t104.1 t104.2) default).bind fun t118 => (if ((((t63).Kind == (6:Int)) && ((decide (t104.1 ≤ s566)) || (t118 != s566))) || (((t63).Kind != (6:Int)) && ((t104.1 != (-1:Int)) || (t104.2 != (-1:Int))))) = true then (some (.inr (.inr false))) else (some (.inl (IntKind.i64.wrap (s617 + (1:Int))))))) else (some (.inr (.inl ())))) : Option ((Int) ⊕ ((Unit) ⊕ (Bool))))) (0:Int)).bind fun (e618 : (Unit) ⊕ (Bool)) => (match e618 with | .inl _ => (some (.inl (IntKind.i64.wrap (s566 + (1:Int))))) | .inr p636 => (some (.inr (.inr p636)))) else (some (.inr (.inl ())))) : Option ((Int) ⊕ ((Unit) ⊕ (Bool))))) (0:Int)).bind fun (e567 : (Unit) ⊕ (Bool)) => (match e567 with | .inl _ => (j560 ()) | .inr p611 => (some (.inr (.inr p611)))))) else (some (.inr (.inl ())))) : Option ((Int) ⊕ ((Unit) ⊕ (Bool))))) (0:Int)).bind fun (e6 : (Unit) ⊕ (Bool)) => (match e6 with | .inl _ => (flaw10_lives).bind fun t136 => (some t136) | .inr p458 => (some p458))
set_option maxRecDepth 100000 in
set_option maxHeartbeats 4000000 in
theorem law10_TypingUp_ok {l_ : (List Int)} {at_ : Int} {how_ : Int} {by_ : Int} {r : Bool} (h : flaw10_TypingUp l_ at_ how_ by_ = some r) : FnOk Tryz.prog 5 [tsl rI l_,ti at_,ti how_,ti by_] [glo] (fun _ => []) (fun _ => tb r) := by
 unfold flaw10_TypingUp at h
 refine FnOk.enter Tryz.func5 rfl Tryz.ntmps5 (leb rfl) (fun M0 M w0 a hpl hst => ?_)
 replace hst : St M w0 137 [(0,tsl rI l_),(1,ti at_),(2,ti how_),(3,ti by_)] [glo] a w0 := hst
 refine sr mixed [] hst (fun _ => .p rfl (op_assign .k) <| .nil _ _) fun n0 a w hst => ?_
 replace hst : St _ _ _ [_,_,_,_] [_] _ _ := hst.pick [1,2,3,4]
 obtain ⟨t23,ht23,h⟩ := bind_some h
 refine sr mixed [] hst (fun _ => .q 0 rfl <| .q 2 rfl <| .q 4 rfl <| .q 6 rfl <| .p rfl (op_callF call7 (law10_some_ok ht23) (.cons (.of z3) <| .cons (.of z2) <| .cons (.of z1) <| .cons (.of z0) <| .nil)) <| .p rfl (op_assign z0) <| .nil _ _) fun n1 a w hst => ?_
 replace hst : St _ _ _ [_] [_] _ _ := hst.pick [5]
 refine wp_seq_k (fun K3 hK3 => ?_)
 refine sr mixed [] hst (fun _ => .p rfl (op_assign .k) <| .nil _ _) fun n2 a w hst => ?_
 replace hst : St _ _ _ [_,_] [_] _ _ := hst.pick [0,1]
 obtain ⟨e6,he6,h⟩ := bind_some h
 have hJp457 : ∀ (p457 : Unit) a w,(.inl p457) = e6 → St M w0 137 [] [glo] a w → K3 a w := by
  intro p457 a w he hst
  subst he
  simp only at h
  refine hK3 _ _ ?_
  try clear hK3 K3
  obtain ⟨t136,ht136,h⟩ := bind_some h
  refine sr mixed [] hst (fun _ => .u [0] rfl rfl ((op_callF call12 (law10_lives_ok ht136) (.nil)).glo) <| .p rfl (op_assign z0) <| .nil _ _) fun n21 a w hst => ?_
  replace hst : St _ _ _ [_] [_] _ _ := hst.pick [1]
  refine wp_ret ?_
  obtain rfl := sj h
  exact ret_st undef [] hpl hst rfl (.tmp z0 .nil) rfl rfl rfl
 have hJp458 : ∀ (p458 : Bool) a w,(.inr p458) = e6 → St M w0 137 [(8,tb p458)] [glo] a w → Ret Tryz.prog Tryz.f5 M0 [glo] w0 (fun _ => []) (fun _ => tb r) .ret a w := by
  intro p458 a w he hst
  subst he
  simp only at h
  obtain rfl := sj h
  exact ret_st undef [] hpl hst rfl (.tmp z0 .nil) rfl rfl rfl
 refine wp_block ?_
 refine wp_loopK _ (fun (s5 : Int) a w => St M w0 137 [(10,ti s5),(9,tsl rSapi_Schema t23)] [glo] a w) _ _ he6 (hst.pick [0,1]) ?_
 clear h
 intro s5 o a w K460 hI h ho hK460
 have hst := hI
 clear hI
 refine wp_seq_k (fun K461 hK461 => ?_)
 refine sr mixed [] hst (fun _ => .q 0 rfl <| .q 2 rfl <| .p rfl (op_len Tryz.underlying23 z0) <| .p rfl (op_lss z2 z0) <| .nil _ _) fun n3 a w hst => ?_
 replace hst : St _ _ _ [_,_,_] [_] _ _ := hst.pick [3,4,5]
 refine wp_test 0 hst rfl (fun b656 => ?_) (fun b656 => ?_)
 ·replace h := ite_t b656 h
  refine wp_skip ?_
  refine hK461 _ _ ?_
  try clear hK461 K461
  refine wp_seq_k (fun K463 hK463 => ?_)
  obtain ⟨j560,hj560,h⟩ := jn_elim h
  have hJp464 : ∀ (p464 : Unit) a w,j560 p464 = some o → St M w0 137 [(10,ti s5),(9,tsl rSapi_Schema t23)] [glo] a w → K463 a w := by
   intro p464 a w h hst
   rw [hj560] at h
   clear hj560
   refine hK463 _ _ ?_
   try clear hK463 K463
   refine wr mixed [] hst (fun _ => .q 0 rfl <| .p rfl (op_add z0 .k) <| .p rfl (op_assign z0) <| .nil _ _) fun n4 a w hst => ?_
   replace hst : St _ _ _ [_,_] [_] _ _ := hst.pick [2,3]
   exact hK460 _ _ _ (sj h).symm (hst.pick [0,1])
  clear hj560
  refine wp_block ?_
  obtain ⟨t32,ht32,h⟩ := bind_some h
  refine sr mixed [v1 4 (fun v0 => box (rSapi_Schema.cs (Sapi_Schema.mk (0:Int) ([] : (List Sapi_Kind)) ([] : (List Sapi_Life)) ([] : (List Sapi_Rule)))) v0),v1 4 (fun v0 => box (rSapi_Schema.cs t32) v0)] hst (fun _ => .q 2 rfl <| .q 2 rfl <| .p rfl (op_index Tryz.underlying23 tok34 z1 z0 ht32) <| .p rfl (op_load tok34 z0) <| .m [] [1] rfl rfl rfl (op_alloc (R := rSapi_Schema) (a := (Sapi_Schema.mk (0:Int) ([] : (List Sapi_Kind)) ([] : (List Sapi_Life)) ([] : (List Sapi_Rule)))) tok34 zok34) <| .e [] [1] [2] rfl rfl rfl rfl (op_storeB (R := rSapi_Schema) (a := t32) tok34 z0 z1 (leb rfl)) <| .nil _ _) fun n5 a w hst => ?_
  replace hst : St _ _ _ [_,_,_] [_] _ _ := ((((hst.pick [4,6,7]).selA [1,0] rfl).shareB 0 rfl).add 0 rfl (fun _ _ _ h => h.2)).pick [0,3,4]
  refine wp_seq_k (fun K563 hK563 => ?_)
  obtain ⟨t35,ht35,h⟩ := bind_some h
  refine sr mixed [] hst (fun _ => .p rfl (op_load tok34 z0) <| .u [0] rfl rfl ((op_callF call10 (typing_Check_ok ht35) (.cons (.of z0) <| .nil)).glo) <| .p rfl (op_len Tryz.underlying28 z0) <| .p rfl (op_gtr z0 .k) <| .nil _ _) fun n6 a w hst => ?_
  replace hst : St _ _ _ [_,_,_,_] [_] _ _ := hst.pick [3,4,5,6]
  refine wp_test 0 hst rfl (fun b655 => ?_) (fun b655 => ?_)
  ·replace h := ite_t b655 h
   refine wp_exit ?_
   exact hJp464 _ _ _ h (hst.pick [2,3])
  ·replace h := ite_f b655 h
   refine wp_skip ?_
   refine hK563 _ _ ?_
   try clear hK563 K563
   refine sr mixed [] hst (fun _ => .p rfl (op_assign .k) <| .nil _ _) fun n7 a w hst => ?_
   replace hst : St _ _ _ [_,_,_,_] [_] _ _ := hst.pick [0,2,3,4]
   obtain ⟨e567,he567,h⟩ := bind_some h
   have hJp610 : ∀ (p610 : Unit) a w,(.inl p610) = e567 → St M w0 137 [(10,ti s5),(9,tsl rSapi_Schema t23)] [glo] a w → K463 a w := by
    intro p610 a w he hst
    subst he
    simp only at h
    exact hJp464 _ _ _ h (hst.pick [0,1])
   have hJp611 : ∀ (p611 : Bool) a w,(.inr p611) = e567 → St M w0 137 [(8,tb p611)] [glo] a w → Ret Tryz.prog Tryz.f5 M0 [glo] w0 (fun _ => []) (fun _ => tb r) .ret a w := by
    intro p611 a w he hst
    subst he
    simp only at h
    exact hJp458 _ _ _ (ho _ (sj h).symm) (hst.pick [0])
   refine wp_block ?_
   refine wp_loopK _ (fun (s566 : Int) a w => St M w0 137 [(12,ti s566),(11,tptr (rSapi_Schema.cs t32)),(10,ti s5),(9,tsl rSapi_Schema t23)] [glo] a w) _ _ he567 (hst.pick [0,1,2,3]) ?_
   clear h
   intro s566 o a w K612 hI h ho hK612
   have hst := hI
   clear hI
   refine wp_seq_k (fun K613 hK613 => ?_)
   refine sr mixed [] hst (fun _ => .q 0 rfl <| .p rfl (op_field fld34_1 z2) <| .p rfl (op_loadT (R := (rSl rSapi_Kind)) (u := (t32).Kinds) tok30 z0 rfl) <| .p rfl (op_len Tryz.underlying30 z0) <| .p rfl (op_lss z3 z0) <| .nil _ _) fun n8 a w hst => ?_
   replace hst : St _ _ _ [_,_,_,_,_] [_] _ _ := hst.pick [4,5,6,7,8]
   refine wp_test 0 hst rfl (fun b654 => ?_) (fun b654 => ?_)
   ·replace h := ite_t b654 h
    refine wp_skip ?_
    refine hK613 _ _ ?_
    try clear hK613 K613
    refine wp_seq_k (fun K615 hK615 => ?_)
    refine wp_block ?_
    refine sr mixed [] hst (fun _ => .p rfl (op_assign .k) <| .nil _ _) fun n10 a w hst => ?_
    replace hst : St _ _ _ [_,_,_,_,_] [_] _ _ := hst.pick [0,2,3,4,5]
    obtain ⟨e618,he618,h⟩ := bind_some h
    have hJp635 : ∀ (p635 : Unit) a w,(.inl p635) = e618 → St M w0 137 [(12,ti s566),(11,tptr (rSapi_Schema.cs t32)),(10,ti s5),(9,tsl rSapi_Schema t23)] [glo] a w → K615 a w := by
     intro p635 a w he hst
     subst he
     simp only at h
     refine hK615 _ _ ?_
     try clear hK615 K615
     refine wr mixed [] hst (fun _ => .q 0 rfl <| .p rfl (op_add z0 .k) <| .p rfl (op_assign z0) <| .nil _ _) fun n9 a w hst => ?_
     replace hst : St _ _ _ [_,_,_,_] [_] _ _ := hst.pick [2,3,4,5]
     exact hK612 _ _ _ (sj h).symm (hst.pick [0,1,2,3])
    have hJp636 : ∀ (p636 : Bool) a w,(.inr p636) = e618 → St M w0 137 [(8,tb p636)] [glo] a w → Ret Tryz.prog Tryz.f5 M0 [glo] w0 (fun _ => []) (fun _ => tb r) .ret a w := by
     intro p636 a w he hst
     subst he
     simp only at h
     exact hJp611 _ _ _ (ho _ (sj h).symm) (hst.pick [0])
    refine wp_block ?_
    refine wp_loopK _ (fun (s617 : Int) a w => St M w0 137 [(13,ti s617),(12,ti s566),(11,tptr (rSapi_Schema.cs t32)),(10,ti s5),(9,tsl rSapi_Schema t23)] [glo] a w) _ _ he618 (hst.pick [0,1,2,3,4]) ?_
    clear h
    intro s617 o a w K637 hI h ho hK637
    have hst := hI
    clear hI
    refine wp_seq_k (fun K638 hK638 => ?_)
    obtain ⟨t49,ht49,h⟩ := bind_some h
    refine sr mixed [] hst (fun _ => .q 0 rfl <| .p rfl (op_field fld34_1 z3) <| .p rfl (op_loadT (R := (rSl rSapi_Kind)) (u := (t32).Kinds) tok30 z0 rfl) <| .q 4 rfl <| .p rfl (op_index Tryz.underlying30 tok47 z1 z0 ht49) <| .p rfl (op_field fld47_3 z0) <| .p rfl (op_loadT (R := (rSl rSapi_Field)) (u := (t49).Fields) tok45 z0 rfl) <| .p rfl (op_len Tryz.underlying45 z0) <| .p rfl (op_lss z7 z0) <| .nil _ _) fun n11 a w hst => ?_
    replace hst : St _ _ _ [_,_,_,_,_,_] [_] _ _ := hst.pick [8,9,10,11,12,13]
    refine wp_test 0 hst rfl (fun b653 => ?_) (fun b653 => ?_)
    ·replace h := ite_t b653 h
     refine wp_skip ?_
     refine hK638 _ _ ?_
     try clear hK638 K638
     refine wp_seq_k (fun K640 hK640 => ?_)
     refine wp_block ?_
     obtain ⟨t59,ht59,h⟩ := bind_some h
     obtain ⟨t63,ht63,h⟩ := bind_some h
     refine sr mixed [v1 9 (fun v0 => box (rSapi_Field.cs (Sapi_Field.mk ([] : Str) ([] : Str) ([] : Str) (0:Int) (0:Int) (0:Int) ([] : (List Str)) ([] : (List Int)))) v0),v1 9 (fun v0 => box (rSapi_Field.cs t63) v0)] hst (fun _ => .p rfl (op_field fld34_1 z3) <| .p rfl (op_loadT (R := (rSl rSapi_Kind)) (u := (t32).Kinds) tok30 z0 rfl) <| .q 4 rfl <| .p rfl (op_index Tryz.underlying30 tok47 z1 z0 ht59) <| .p rfl (op_field fld47_3 z0) <| .p rfl (op_loadT (R := (rSl rSapi_Field)) (u := (t59).Fields) tok45 z0 rfl) <| .q 7 rfl <| .p rfl (op_index Tryz.underlying45 tok44 z1 z0 ht63) <| .p rfl (op_load tok44 z0) <| .m [] [1] rfl rfl rfl (op_alloc (R := rSapi_Field) (a := (Sapi_Field.mk ([] : Str) ([] : Str) ([] : Str) (0:Int) (0:Int) (0:Int) ([] : (List Str)) ([] : (List Int)))) tok44 zok44) <| .e [] [1] [2] rfl rfl rfl rfl (op_storeB (R := rSapi_Field) (a := t63) tok44 z0 z1 (leb rfl)) <| .nil _ _) fun n13 a w hst => ?_
     replace hst : St _ _ _ [_,_,_,_,_,_] [_] _ _ := ((((hst.pick [9,11,12,13,14,15]).selA [1,0] rfl).shareB 0 rfl).add 0 rfl (fun _ _ _ h => h.2)).pick [0,3,4,5,6,7]
     obtain ⟨t68,ht68,h⟩ := bind_some h
     refine sr mixed [] hst (fun _ => .p rfl (op_load tok34 z3) <| .q 3 rfl <| .q 3 rfl <| .p rfl (op_callF call15 (typing_Up_ok ht68) (.cons (.of z2) <| .cons (.of z1) <| .cons (.of z0) <| .nil)) <| .p rfl (op_assign z0) <| .nil _ _) fun n14 a w hst => ?_
     replace hst : St _ _ _ [_,_,_,_,_,_,_] [_] _ _ := hst.pick [4,5,6,7,8,9,10]
     refine sr mixed [] hst (fun _ => .p rfl (op_field fld44_3 z1) <| .p rfl (op_loadT (R := rI) (u := (t63).Kind) tok3 z0 rfl) <| .p rfl (op_eql z0 .k) <| .q 0 rfl <| .g rfl rfl (.b 0 rfl) (fun _ => op_field fld44_3 z5) <| .g rfl rfl (.b 1 rfl) (fun hc => op_loadT (R := rI) (u := (t63).Kind) tok3 (.cond z0 hc) rfl) <| .g rfl rfl (.b 2 rfl) (fun hc => op_eql (.cond z0 hc) .k) <| .p rfl (op_or z3 (fun hp => (.cond z0 (beqF hp)))) <| .q 0 rfl <| .g rfl rfl (.b 0 rfl) (fun _ => op_field fld44_3 z10) <| .g rfl rfl (.b 1 rfl) (fun hc => op_loadT (R := rI) (u := (t63).Kind) tok3 (.cond z0 hc) rfl) <| .g rfl rfl (.b 2 rfl) (fun hc => op_eql (.cond z0 hc) .k) <| .p rfl (op_or z3 (fun hp => (.cond z0 (beqF hp)))) <| .p rfl (op_assign z0) <| .nil _ _) fun n15 a w hst => ?_
     replace hst : St _ _ _ [_,_,_,_,_,_,_,_] [_] _ _ := hst.pick [13,14,15,16,17,18,19,20]
     refine wp_seq_k (fun K645 hK645 => ?_)
     refine sr mixed [] hst (fun _ => .q 0 rfl <| .q 0 rfl <| .g rfl rfl (.b 0 rfl) (fun _ => op_move z3) <| .g rfl rfl (.b 1 rfl) (fun hc => op_lss (.cond z0 hc) .k) <| .g rfl rfl (.b 2 rfl) (fun hc => op_move (.cond z0 hc)) <| .g rfl rfl (.c 0 rfl) (fun _ => op_move z6) <| .g rfl rfl (.c 1 rfl) (fun _ => op_move z10) <| .g rfl rfl (.c 2 rfl) (fun hc => op_geq (.cond z1 hc) (.cond z0 hc)) <| .g rfl rfl (.b 6 rfl) (fun hc => op_or (.cond z3 hc) (fun hp => (.cond z0 (band_mk hc (beqF hp))))) <| .p rfl (op_and z7 (fun hp => (.cond z0 (beqT hp)))) <| .q 0 rfl <| .g rfl rfl (.b 0 rfl) (fun _ => op_move z11) <| .g rfl rfl (.b 1 rfl) (fun hc => op_not (.cond z0 hc)) <| .g rfl rfl (.b 2 rfl) (fun hc => op_move (.cond z0 hc)) <| .g rfl rfl (.c 0 rfl) (fun _ => op_move z15) <| .g rfl rfl (.c 1 rfl) (fun hc => op_neq (.cond z0 hc) .k) <| .g rfl rfl (.b 5 rfl) (fun hc => op_and (.cond z2 hc) (fun hp => (.cond z0 (band_mk hc (beqT hp))))) <| .p rfl (op_or z6 (fun hp => (.cond z0 (beqF hp)))) <| .nil _ _) fun n16 a w hst => ?_
     replace hst : St _ _ _ [_,_,_,_,_,_,_] [_] _ _ := hst.pick [17,20,21,22,23,24,25]
     refine wp_test 0 hst rfl (fun b652 => ?_) (fun b652 => ?_)
     ·replace h := ite_t b652 h
      refine sr mixed [] hst (fun _ => .p rfl (op_assign .k) <| .nil _ _) fun n17 a w hst => ?_
      replace hst : St _ _ _ [_] [_] _ _ := hst.pick [0]
      refine wp_ret ?_
      exact hJp636 _ _ _ (ho _ (sj h).symm) (hst.pick [0])
     ·replace h := ite_f b652 h
      refine wp_skip ?_
      refine hK645 _ _ ?_
      try clear hK645 K645
      obtain ⟨t104,ht104,h⟩ := bind_some h
      refine sr mixed [] hst (fun _ => .p rfl (op_load tok34 z4) <| .q 4 rfl <| .q 4 rfl <| .p rfl (op_callF call13 (typing_Shares_ok ht104) (.cons (.of z2) <| .cons (.of z1) <| .cons (.of z0) <| .nil)) <| .q 0 rfl <| .p rfl (op_extract z0 rfl) <| .p rfl (op_extract z1 rfl) <| .p rfl (op_assign z1) <| .p rfl (op_assign z1) <| .nil _ _) fun n18 a w hst => ?_
      replace hst : St _ _ _ [_,_,_,_,_,_,_,_] [_] _ _ := hst.pick [7,8,10,11,12,13,14,15]
      obtain ⟨t118,ht118,h⟩ := bind_some h
      refine sr mixed [] hst (fun _ => .p rfl (op_field fld44_3 z2) <| .p rfl (op_loadT (R := rI) (u := (t63).Kind) tok3 z0 rfl) <| .p rfl (op_eql z0 .k) <| .q 0 rfl <| .g rfl rfl (.b 0 rfl) (fun _ => op_move z4) <| .g rfl rfl (.b 1 rfl) (fun _ => op_move z9) <| .g rfl rfl (.b 2 rfl) (fun hc => op_leq (.cond z1 hc) (.cond z0 hc)) <| .g rfl rfl (.b 3 rfl) (fun hc => op_move (.cond z0 hc)) <| .g rfl rfl (.c 0 rfl) (fun _ => op_load tok34 z13) <| .g rfl rfl (.c 1 rfl) (fun _ => op_move z9) <| .g rfl rfl (.c 2 rfl) (fun _ => op_move z11) <| .g rfl rfl (.c 3 rfl) (fun hc => op_callF call15 (typing_Up_ok (opt_t ht118 hc)) (.cons (.of (.cond z2 hc)) <| .cons (.of (.cond z1 hc)) <| .cons (.of (.cond z0 hc)) <| .nil)) <| .g rfl rfl (.c 4 rfl) (fun _ => op_move z16) <| .g rfl rfl (.c 5 rfl) (fun hc => op_neq (.cond z1 hc) (.cond z0 hc)) <| .g rfl rfl (.b 10 rfl) (fun hc => op_or (.cond z6 hc) (fun hp => (.cond z0 (band_mk hc (beqF hp))))) <| .p rfl (op_and z11 (fun hp => (.cond z0 (beqT hp)))) <| .q 0 rfl <| .g rfl rfl (.b 0 rfl) (fun _ => op_field fld44_3 z19) <| .g rfl rfl (.b 1 rfl) (fun hc => op_loadT (R := rI) (u := (t63).Kind) tok3 (.cond z0 hc) rfl) <| .g rfl rfl (.b 2 rfl) (fun hc => op_neq (.cond z0 hc) .k) <| .g rfl rfl (.b 3 rfl) (fun hc => op_move (.cond z0 hc)) <| .g rfl rfl (.c 0 rfl) (fun _ => op_move z21) <| .g rfl rfl (.c 1 rfl) (fun hc => op_neq (.cond z0 hc) .k) <| .g rfl rfl (.c 2 rfl) (fun hc => op_move (.cond z0 hc)) <| .g rfl rfl (.c 0 rfl) (fun _ => op_move z25) <| .g rfl rfl (.c 1 rfl) (fun hc => op_neq (.cond z0 hc) .k) <| .g rfl rfl (.c 5 rfl) (fun hc => op_or (.cond z2 hc) (fun hp => (.cond z0 (band_mk hc (beqF hp))))) <| .g rfl rfl (.b 10 rfl) (fun hc => op_and (.cond z6 hc) (fun hp => (.cond z0 (band_mk hc (beqT hp))))) <| .p rfl (op_or z11 (fun hp => (.cond z0 (beqF hp)))) <| .nil _ _) fun n19 a w hst => ?_
      replace hst : St _ _ _ [_,_,_,_,_,_] [_] _ _ := hst.pick [28,32,33,34,35,36]
      refine wp_test 0 hst rfl (fun b651 => ?_) (fun b651 => ?_)
      ·replace h := ite_t b651 h
       refine sr mixed [] hst (fun _ => .p rfl (op_assign .k) <| .nil _ _) fun n20 a w hst => ?_
       replace hst : St _ _ _ [_] [_] _ _ := hst.pick [0]
       refine wp_ret ?_
       exact hJp636 _ _ _ (ho _ (sj h).symm) (hst.pick [0])
      ·replace h := ite_f b651 h
       refine wp_skip ?_
       refine hK640 _ _ ?_
       try clear hK640 K640
       refine wr mixed [] hst (fun _ => .q 1 rfl <| .p rfl (op_add z0 .k) <| .p rfl (op_assign z0) <| .nil _ _) fun n12 a w hst => ?_
       replace hst : St _ _ _ [_,_,_,_,_] [_] _ _ := hst.pick [2,4,5,6,7]
       exact hK637 _ _ _ (sj h).symm (hst.pick [0,1,2,3,4])
    ·replace h := ite_f b653 h
     refine wp_exit ?_
     exact hJp635 _ _ _ (ho _ (sj h).symm) (hst.pick [2,3,4,5])
   ·replace h := ite_f b654 h
    refine wp_exit ?_
    exact hJp610 _ _ _ (ho _ (sj h).symm) (hst.pick [3,4])
 ·replace h := ite_f b656 h
  refine wp_exit ?_
  exact hJp457 _ _ _ (ho _ (sj h).symm) (hst.pick [])

end Go.Proofs.YthdfmpocknmleaaGreatDoor

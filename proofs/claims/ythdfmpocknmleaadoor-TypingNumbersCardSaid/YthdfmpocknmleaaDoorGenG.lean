/- Go functions as Lean functions, and the proofs that they compute them, written by a program. No condition. -/
import Derived.Test.YthdfmpocknmleaaDoorGenF
namespace Go.Proofs.YthdfmpocknmleaaDoor
open Go.Sim

/- diorama/dioramalaw10.lives -/
noncomputable def flaw10_lives  : Option (Bool) := (flaw10_example false false).bind fun t4 => (ftyping_Check t4).bind fun t5 => (flaw10_plain t5).bind fun t6 => (flaw10_example true false).bind fun t7 => (ftyping_Check t7).bind fun t8 => (flaw10_plain t8).bind fun t9 => (flaw10_example true true).bind fun t10 => (ftyping_Check t10).bind fun t11 => (flaw10_plain t11).bind fun t12 => (fref10_Same t6 [(Sref10_Problem.mk (1:Int) (2:Int) (-1:Int) (13:Int))]).bind fun t16 => (opt ((t16 && ((t9.length : Int) == (0:Int))) == true) (fref10_Same t12 [(Sref10_Problem.mk (0:Int) (1:Int) (-1:Int) (12:Int)),(Sref10_Problem.mk (0:Int) (2:Int) (-1:Int) (12:Int))]) default).bind fun t27 => (some ((t16 && ((t9.length : Int) == (0:Int))) && t27))
set_option maxRecDepth 100000 in
set_option maxHeartbeats 4000000 in
theorem law10_lives_ok {r : Bool} (h : flaw10_lives  = some r) : FnOk Tryd.prog 12 [] [glo] (fun _ => []) (fun _ => tb r) := by
 unfold flaw10_lives at h
 refine FnOk.enter Tryd.func12 rfl Tryd.ntmps12 (leb rfl) (fun M0 M w0 a hpl hst => ?_)
 replace hst : St M w0 29 [] [glo] a w0 := hst
 refine sr mixed [] hst (fun _ => .o (op_assign .k) <| .n) fun n0 a w hst => ?_
 replace hst := hst.to [] [] [_] rfl rfl
 obtain ⟨t4,ht4,h⟩ := bind_some h
 obtain ⟨t5,ht5,h⟩ := bind_some h
 obtain ⟨t6,ht6,h⟩ := bind_some h
 refine sr mixed [] hst (fun _ => .o (op_callF call32 (law10_example_ok ht4) (.cons (.of .k) <| .cons (.of .k) <| .nil)) <| .u [0] rfl rfl ((op_callF call11 (typing_Check_ok ht5) (.cons (.of z0) <| .nil)).glo) <| .o (op_callF call10 (law10_plain_ok ht6) (.cons (.of z0) <| .nil)) <| .o (op_assign z0) <| .n) fun n1 a w hst => ?_
 replace hst := hst.to [3] [_] [_] rfl rfl
 obtain ⟨t7,ht7,h⟩ := bind_some h
 obtain ⟨t8,ht8,h⟩ := bind_some h
 obtain ⟨t9,ht9,h⟩ := bind_some h
 refine sr mixed [] hst (fun _ => .o (op_callF call32 (law10_example_ok ht7) (.cons (.of .k) <| .cons (.of .k) <| .nil)) <| .u [0] rfl rfl ((op_callF call11 (typing_Check_ok ht8) (.cons (.of z0) <| .nil)).glo) <| .o (op_callF call10 (law10_plain_ok ht9) (.cons (.of z0) <| .nil)) <| .o (op_assign z0) <| .n) fun n2 a w hst => ?_
 replace hst := hst.to [3,4] [_,_] [_] rfl rfl
 obtain ⟨t10,ht10,h⟩ := bind_some h
 obtain ⟨t11,ht11,h⟩ := bind_some h
 obtain ⟨t12,ht12,h⟩ := bind_some h
 refine sr mixed [] hst (fun _ => .o (op_callF call32 (law10_example_ok ht10) (.cons (.of .k) <| .cons (.of .k) <| .nil)) <| .u [0] rfl rfl ((op_callF call11 (typing_Check_ok ht11) (.cons (.of z0) <| .nil)).glo) <| .o (op_callF call10 (law10_plain_ok ht12) (.cons (.of z0) <| .nil)) <| .o (op_assign z0) <| .n) fun n3 a w hst => ?_
 replace hst := hst.to [3,4,5] [_,_,_] [_] rfl rfl
 obtain ⟨t16,ht16,h⟩ := bind_some h
 obtain ⟨t27,ht27,h⟩ := bind_some h
 refine sr mixed [] hst (fun _ => .q 2 rfl <| .p (T := rSref10_Problem.ty (Sref10_Problem.mk (1:Int) (2:Int) (-1:Int) (13:Int))) rfl (op_build ud52 pl52 zv52 zc52 (.cons (R := rI) (u := (1:Int)) rfl .k (leb rfl) <| .cons (R := rI) (u := (2:Int)) rfl .k (leb rfl) <| .cons (R := rI) (u := (-1:Int)) rfl .k (leb rfl) <| .cons (R := rI) (u := (13:Int)) rfl .k (leb rfl) <| .nil _)) <| .o (op_buildSl (R := rSref10_Problem) (us := [(Sref10_Problem.mk (1:Int) (2:Int) (-1:Int) (13:Int))]) ud45 tok52 (.cons z0 <| .nil _) rfl (leb rfl)) <| .o (op_callF call9 (ref10_Same_ok ht16) (.cons (.of z2) <| .cons (.of z0) <| .nil)) <| .q 0 rfl <| .g rfl rfl (.b 0 rfl) (fun _ => op_move z6) <| .g rfl rfl (.b 1 rfl) (fun hc => op_len ud45 (.cond z0 hc)) <| .g rfl rfl (.b 2 rfl) (fun hc => op_eql (.cond z0 hc) .k) <| .o (op_and z3 (fun hp => (.cond z0 (beqT hp)))) <| .q 0 rfl <| .g rfl rfl (.b 0 rfl) (fun _ => op_move z10) <| .g (T := rSref10_Problem.ty (Sref10_Problem.mk (0:Int) (1:Int) (-1:Int) (12:Int))) rfl rfl (.b 1 rfl) (fun _ => op_build ud52 pl52 zv52 zc52 (.cons (R := rI) (u := (1:Int)) rfl .k (leb rfl) <| .cons (R := rI) (u := (-1:Int)) rfl .k (leb rfl) <| .cons (R := rI) (u := (12:Int)) rfl .k (leb rfl) <| .nil _)) <| .g (T := rSref10_Problem.ty (Sref10_Problem.mk (0:Int) (2:Int) (-1:Int) (12:Int))) rfl rfl (.b 2 rfl) (fun _ => op_build ud52 pl52 zv52 zc52 (.cons (R := rI) (u := (2:Int)) rfl .k (leb rfl) <| .cons (R := rI) (u := (-1:Int)) rfl .k (leb rfl) <| .cons (R := rI) (u := (12:Int)) rfl .k (leb rfl) <| .nil _)) <| .g rfl rfl (.b 3 rfl) (fun hc => op_buildSl (R := rSref10_Problem) (us := [(Sref10_Problem.mk (0:Int) (1:Int) (-1:Int) (12:Int)),(Sref10_Problem.mk (0:Int) (2:Int) (-1:Int) (12:Int))]) ud45 tok52 (.cons (.cond z1 hc) <| .cons (.cond z0 hc) <| .nil _) rfl (leb rfl)) <| .g rfl rfl (.b 4 rfl) (fun hc => op_callF call9 (ref10_Same_ok (opt_t ht27 hc)) (.cons (.of (.cond z3 hc)) <| .cons (.of (.cond z0 hc)) <| .nil)) <| .o (op_and z5 (fun hp => (.cond z0 (beqT hp)))) <| .o (op_assign z0) <| .n) fun n4 a w hst => ?_
 replace hst := hst.to [16] [_] [_] rfl rfl
 refine wp_ret ?_
 obtain rfl := sj h
 exact ret_st undef [] hpl hst rfl (.tmp z0 .nil) rfl rfl rfl

/- diorama/dioramalaw10.TypingNumbers -/
noncomputable def flaw10_TypingNumbers (l_ : (List Int)) (at_ : Int) (how_ : Int) (by_ : Int) : Option (Bool) := (flaw10_some l_ at_ how_ by_).bind fun t20 => (fref01_Around by_ (30:Int)).bind fun t22 => (tailrec (fun (s6 : Int) => ((if (decide (s6 < (t20.length : Int))) = true then (jn (fun (_ : Unit) => (some (.inl (IntKind.i64.wrap (s6 + (1:Int)))))) fun j768 => (idx t20 s6).bind fun t31 => (rm (([] : List Sapi_Kind).length + (t31).Kinds.length)).bind fun _ => (tailrec (fun (s778 : Int × List Sapi_Kind) => ((if (decide (s778.1 < (s778.2.length : Int))) = true then (idx s778.2 s778.1).bind fun t51 => (setAt s778.2 s778.1 { t51 with Lo := (0:Int) }).bind fun t51s => (idx t51s s778.1).bind fun t57 => (setAt t51s s778.1 { t57 with Hi := t22 }).bind fun t57s => (idx t57s s778.1).bind fun t66 => (rm (([] : List Sapi_Field).length + (t66).Fields.length)).bind fun _ => (idx t57s s778.1).bind fun t70 => (tailrec (fun (s882 : Int × List Sapi_Field) => ((if (decide (s882.1 < (s882.2.length : Int))) = true then (idx s882.2 s882.1).bind fun t90 => ((if (decide ((t90).Hi > (0:Int))) = true then (idx s882.2 s882.1).bind fun t101 => (setAt s882.2 s882.1 { t101 with Lo := (0:Int) }).bind fun t101s => (idx t101s s882.1).bind fun t112 => (setAt t101s s882.1 { t112 with Hi := (IntKind.i64.wrap ((1:Int) + t22)) }).bind fun t112s => (some t112s) else (some s882.2))).bind fun (p910 : List Sapi_Field) => (some (.inl ((IntKind.i64.wrap (s882.1 + (1:Int))),p910))) else (some (.inr s882.2))) : Option ((Int × List Sapi_Field) ⊕ ((List Sapi_Field))))) ((0:Int),(([] : List Sapi_Field) ++ (t66).Fields))).bind fun (p904 : (List Sapi_Field)) => (some (.inl ((IntKind.i64.wrap (s778.1 + (1:Int))),(t57s.set (s778.1).toNat (Sapi_Kind.mk (t70).Name (t70).Lo (t70).Hi p904))))) else (some (.inr s778.2))) : Option ((Int × List Sapi_Kind) ⊕ ((List Sapi_Kind))))) ((0:Int),(([] : List Sapi_Kind) ++ (t31).Kinds))).bind fun (p866 : (List Sapi_Kind)) => (fschema_Valid t31).bind fun t115 => (opt ((t115 != (0:Int)) == false) (fschema_Valid (Sapi_Schema.mk t22 p866 (t31).Lives (t31).Rules)) default).bind fun t119 => (if ((t115 != (0:Int)) || (t119 != (0:Int))) = true then (j768 ()) else (ftyping_Check t31).bind fun t123 => (flaw10_plain t123).bind fun t124 => (ftyping_Check (Sapi_Schema.mk t22 p866 (t31).Lives (t31).Rules)).bind fun t126 => (flaw10_plain t126).bind fun t127 => (fref10_Same t124 t127).bind fun t128 => (if (!t128) = true then (some (.inr (.inr false))) else (j768 ())))) else (some (.inr (.inl ())))) : Option ((Int) ⊕ ((Unit) ⊕ (Bool))))) (0:Int)).bind fun (e7 : (Unit) ⊕ (Bool)) => (match e7 with | .inl _ => (flaw10_lives).bind fun t130 => (some t130) | .inr p613 => (some p613))
set_option maxRecDepth 100000 in
set_option maxHeartbeats 4000000 in
theorem law10_TypingNumbers_ok {l_ : (List Int)} {at_ : Int} {how_ : Int} {by_ : Int} {r : Bool} (h : flaw10_TypingNumbers l_ at_ how_ by_ = some r) : FnOk Tryd.prog 5 [tsl rI l_,ti at_,ti how_,ti by_] [glo] (fun _ => []) (fun _ => tb r) := by
 unfold flaw10_TypingNumbers at h
 refine FnOk.enter Tryd.func5 rfl Tryd.ntmps5 (leb rfl) (fun M0 M w0 a hpl hst => ?_)
 replace hst : St M w0 131 [(0,tsl rI l_),(1,ti at_),(2,ti how_),(3,ti by_)] [glo] a w0 := hst
 refine sr mixed [] hst (fun _ => .o (op_assign .k) <| .n) fun n0 a w hst => ?_
 replace hst := hst.to [1,2,3,4] [_,_,_,_] [_] rfl rfl
 obtain ⟨t20,ht20,h⟩ := bind_some h
 refine sr mixed [] hst (fun _ => .q 0 rfl <| .q 2 rfl <| .q 4 rfl <| .q 6 rfl <| .o (op_callF call6 (law10_some_ok ht20) (.cons (.of z3) <| .cons (.of z2) <| .cons (.of z1) <| .cons (.of z0) <| .nil)) <| .o (op_assign z0) <| .n) fun n1 a w hst => ?_
 replace hst := hst.to [5,9] [_,_] [_] rfl rfl
 obtain ⟨t22,ht22,h⟩ := bind_some h
 refine sr mixed [] hst (fun _ => .q 1 rfl <| .o (op_callF call13 (ref01_Around_ok ht22) (.cons (.of z0) <| .cons (.of .k) <| .nil)) <| .o (op_assign z0) <| .n) fun n2 a w hst => ?_
 replace hst := hst.to [2,3] [_,_] [_] rfl rfl
 refine wp_seq_k (fun K4 hK4 => ?_)
 refine sr mixed [] hst (fun _ => .o (op_assign .k) <| .n) fun n3 a w hst => ?_
 replace hst := hst.to [0,1,2] [_,_,_] [_] rfl rfl
 obtain ⟨e7,he7,h⟩ := bind_some h
 have hJp612 : ∀ (p612 : Unit) a w,(.inl p612) = e7 → St M w0 131 [] [glo] a w → K4 a w := by
  intro p612 a w he hst
  subst he
  simp only at h
  refine hK4 _ _ ?_
  try clear hK4 K4
  obtain ⟨t130,ht130,h⟩ := bind_some h
  refine sr mixed [] hst (fun _ => .u [0] rfl rfl ((op_callF call12 (law10_lives_ok ht130) (.nil)).glo) <| .o (op_assign z0) <| .n) fun n25 a w hst => ?_
  replace hst := hst.to [1] [_] [_] rfl rfl
  refine wp_ret ?_
  obtain rfl := sj h
  exact ret_st undef [] hpl hst rfl (.tmp z0 .nil) rfl rfl rfl
 have hJp613 : ∀ (p613 : Bool) a w,(.inr p613) = e7 → St M w0 131 [(8,tb p613)] [glo] a w → Ret Tryd.prog Tryd.f5 M0 [glo] w0 (fun _ => []) (fun _ => tb r) .ret a w := by
  intro p613 a w he hst
  subst he
  simp only at h
  obtain rfl := sj h
  exact ret_st undef [] hpl hst rfl (.tmp z0 .nil) rfl rfl rfl
 refine wp_block ?_
 refine wp_loopK _ (fun (s6 : Int) a w => St M w0 131 [(11,ti s6),(10,ti t22),(9,tsl rSapi_Schema t20)] [glo] a w) _ _ he7 (hst.pick [0,1,2]) ?_
 clear h
 intro s6 o a w K615 hI h ho hK615
 have hst := hI
 clear hI
 refine wp_seq_k (fun K616 hK616 => ?_)
 refine sr mixed [] hst (fun _ => .q 0 rfl <| .q 3 rfl <| .o (op_len Tryd.underlying23 z0) <| .o (op_lss z2 z0) <| .n) fun n4 a w hst => ?_
 replace hst := hst.to [3,4,5,6] [_,_,_,_] [_] rfl rfl
 refine wt hst (fun b917 => ?_) (fun b917 => ?_)
 ·replace h := ite_t b917 h
  refine wp_skip ?_
  refine hK616 _ _ ?_
  try clear hK616 K616
  refine wp_seq_k (fun K618 hK618 => ?_)
  obtain ⟨j768,hj768,h⟩ := jn_elim h
  have hJp619 : ∀ (p619 : Unit) a w,j768 p619 = some o → St M w0 131 [(11,ti s6),(10,ti t22),(9,tsl rSapi_Schema t20)] [glo] a w → K618 a w := by
   intro p619 a w h hst
   rw [hj768] at h
   clear hj768
   refine hK618 _ _ ?_
   try clear hK618 K618
   refine wr mixed [] hst (fun _ => .q 0 rfl <| .o (op_add z0 .k) <| .o (op_assign z0) <| .n) fun n5 a w hst => ?_
   replace hst := hst.to [2,3,4] [_,_,_] [_] rfl rfl
   exact hK615 _ _ _ (sj h).symm (hst.pick [0,1,2])
  clear hj768
  refine wp_block ?_
  obtain ⟨t31,ht31,h⟩ := bind_some h
  refine sr mixed [v1 4 (fun v0 => box (rSapi_Schema.cs zz4) v0),v1 4 (fun v0 => box (rSapi_Schema.cs t31) v0)] hst (fun _ => .q 3 rfl <| .q 2 rfl <| .o (op_index Tryd.underlying23 tok29 z1 z0 ht31) <| .o (op_load tok29 z0) <| .m [] [1] rfl rfl rfl (op_alloc (R := rSapi_Schema) (a := zz4) tok29 zok29) <| .e [] [1] [2] rfl rfl rfl rfl (op_storeB (R := rSapi_Schema) (a := t31) tok29 z0 z1 (leb rfl)) <| .n) fun n6 a w hst => ?_
  replace hst : St _ _ _ [_,_,_,_] [_] _ _ := ((((hst.pick [4,6,7,8]).selA [1,0] rfl).shareB 0 rfl).add 0 rfl (fun _ _ _ h => h.2)).pick [0,3,4,5]
  refine sr mixed [v1 1 (fun v0 => box (rSapi_Schema.cs zz4) v0),v1 1 (fun v0 => box (rSapi_Schema.cs t31) v0)] hst (fun _ => .o (op_load tok29 z0) <| .m [] [1] rfl rfl rfl (op_alloc (R := rSapi_Schema) (a := zz4) tok29 zok29) <| .e [] [1] [2] rfl rfl rfl rfl (op_storeB (R := rSapi_Schema) (a := t31) tok29 z0 z1 (leb rfl)) <| .n) fun n7 a w hst => ?_
  replace hst := hst.to [1,2,3,4,5] [_,_,_,_,_] [_,_] rfl rfl
  refine sr mixed [v0 (box (rSapi_Schema.cs (Sapi_Schema.mk t22 (t31).Kinds (t31).Lives (t31).Rules)) (n7 1))] hst (fun _ => .q 3 rfl <| .u [1] rfl rfl (op_fieldB fld29_0 z1) <| .e [] [1] [2] rfl rfl rfl rfl (op_storeBf (R := rI) (a := t22) (Ts := (rSapi_Schema.cs t31)) (off := 0) tok3 z0 z1 (leb rfl)) <| .n) fun n8 a w hst => ?_
  replace hst := hst.to [2,3,4,5,6] [_,_,_,_,_] [_,_] rfl rfl
  refine wp_seq_k (fun K774 hK774 => ?_)
  obtain ⟨u39,hu39,h⟩ := bind_some h
  refine wr mixed [v1 0 (fun v0 => own rSapi_Kind 32 ([] : List Sapi_Kind) v0),v1 3 (fun v0 => own rSapi_Kind 32 (([] : List Sapi_Kind) ++ (t31).Kinds) v0),v1 3 (fun v0 => box ([ti t22,tvs v0,tsl rSapi_Life (t31).Lives,tsl rSapi_Rule (t31).Rules]) (n7 1))] hst (fun _ => .m [] [2] rfl rfl rfl (op_buildSlO (R := rSapi_Kind) (us := ([] : List Sapi_Kind)) ud25 tok32 (.nil _) rfl (leb rfl) (leb rfl)) <| .o (op_field fld29_1 z2) <| .o (op_loadT (R := (rSl rSapi_Kind)) (u := (t31).Kinds) tok25 z0 rfl) <| .e [] [2] [3] rfl rfl rfl rfl (op_append (R := rSapi_Kind) ud25 tok32 (leb rfl) z2 z0 hu39) <| .u [1] rfl rfl (op_fieldB fld29_1 z4) <| .e [3] [1] [4] rfl rfl rfl rfl (op_storeBVf (R := rSapi_Kind) (e := 32) (Ts := (rSapi_Schema.cs (Sapi_Schema.mk t22 (t31).Kinds (t31).Lives (t31).Rules))) (off := 1) tokV25 z0 z1 (leb rfl)) <| .n) fun n9 a w hst => ?_
  replace hst := hst.to [3,5,6,7,8,9] [_,_,_,_,_,_] [_,_,_] rfl rfl
  refine hK774 _ _ ?_
  try clear hK774 K774
  refine wp_seq_k (fun K776 hK776 => ?_)
  refine sr mixed [] hst (fun _ => .o (op_assign .k) <| .n) fun n10 a w hst => ?_
  replace hst := hst.to [0,1,2,3,4,5,6] [_,_,_,_,_,_,_] [_,_,_] rfl rfl
  obtain ⟨e779,he779,h⟩ := bind_some h
  have hJp866 : ∀ (p866 : List Sapi_Kind) a w,p866 = e779 → St M w0 131 [(13,tv (n7 1)),(12,tptr (rSapi_Schema.cs t31)),(11,ti s6),(10,ti t22),(9,tsl rSapi_Schema t20)] [glo,own rSapi_Kind 32 p866 (n9 3),box ([ti t22,tvs (n9 3),tsl rSapi_Life (t31).Lives,tsl rSapi_Rule (t31).Rules]) (n7 1)] a w → K776 a w := by
   intro p866 a w he hst
   subst he
   refine hK776 _ _ ?_
   try clear hK776 K776
   refine wp_seq_k (fun K867 hK867 => ?_)
   refine wp_seq_k (fun K868 hK868 => ?_)
   replace hst : St _ _ _ [_,_,_,_,_] [_,_] _ _ := ((hst.pick [0,1,2,3,4]).selA [1,2,0] rfl).shareC 1 rfl
   obtain ⟨t115,ht115,h⟩ := bind_some h
   obtain ⟨t119,ht119,h⟩ := bind_some h
   refine wr mixed [] hst (fun _ => .o (op_load tok29 z1) <| .u [1] rfl rfl ((op_callF call8 (schema_Valid_ok ht115) (.cons (.of z0) <| .nil)).glo) <| .o (op_neq z0 .k) <| .q 0 rfl <| .gu [0] rfl rfl rfl (.b 0 rfl) (fun _ => op_loadB (R := rSapi_Schema) (u := (Sapi_Schema.mk t22 p866 (t31).Lives (t31).Rules)) tok29 z4 rfl) <| .gu [1] rfl rfl rfl (.b 1 rfl) (fun hc => (op_callF call8 (schema_Valid_ok (opt_t ht119 hc)) (.cons (.of (.cond z0 hc)) <| .nil)).glo) <| .g rfl rfl (.b 2 rfl) (fun hc => op_neq (.cond z0 hc) .k) <| .o (op_or z3 (fun hp => (.cond z0 (beqF hp)))) <| .n) fun n22 a w hst => ?_
   replace hst := hst.to [7,8,9,10,11,12] [_,_,_,_,_,_] [_,_] rfl rfl
   refine hK868 _ _ ?_
   try clear hK868 K868
   refine wt hst (fun b872 => ?_) (fun b872 => ?_)
   ·replace h := ite_t b872 h
    refine wp_exit ?_
    exact hJp619 _ _ _ h ((hst.pick [3,4,5]).selA [1] rfl)
   ·replace h := ite_f b872 h
    refine wp_skip ?_
    refine hK867 _ _ ?_
    try clear hK867 K867
    obtain ⟨t123,ht123,h⟩ := bind_some h
    obtain ⟨t124,ht124,h⟩ := bind_some h
    obtain ⟨t126,ht126,h⟩ := bind_some h
    obtain ⟨t127,ht127,h⟩ := bind_some h
    obtain ⟨t128,ht128,h⟩ := bind_some h
    refine sr mixed [] hst (fun _ => .o (op_load tok29 z2) <| .u [1] rfl rfl ((op_callF call11 (typing_Check_ok ht123) (.cons (.of z0) <| .nil)).glo) <| .o (op_callF call10 (law10_plain_ok ht124) (.cons (.of z0) <| .nil)) <| .u [0] rfl rfl (op_loadB (R := rSapi_Schema) (u := (Sapi_Schema.mk t22 p866 (t31).Lives (t31).Rules)) tok29 z4 rfl) <| .u [1] rfl rfl ((op_callF call11 (typing_Check_ok ht126) (.cons (.of z0) <| .nil)).glo) <| .o (op_callF call10 (law10_plain_ok ht127) (.cons (.of z0) <| .nil)) <| .o (op_callF call9 (ref10_Same_ok ht128) (.cons (.of z3) <| .cons (.of z0) <| .nil)) <| .o (op_not z0) <| .n) fun n23 a w hst => ?_
    replace hst : St _ _ _ [_,_,_,_] [_] _ _ := (hst.pick [7,11,12,13]).selA [1] rfl
    refine wt hst (fun b871 => ?_) (fun b871 => ?_)
    ·replace h := ite_t b871 h
     refine sr mixed [] hst (fun _ => .o (op_assign .k) <| .n) fun n24 a w hst => ?_
     replace hst := hst.to [0] [_] [_] rfl rfl
     refine wp_ret ?_
     exact hJp613 _ _ _ (ho _ (sj h).symm) (hst.pick [0])
    ·replace h := ite_f b871 h
     refine wp_skip ?_
     exact hJp619 _ _ _ h (hst.pick [1,2,3])
  refine wp_block ?_
  refine wp_loopK _ (fun (s778 : Int × List Sapi_Kind) a w => St M w0 131 [(14,ti s778.1),(13,tv (n7 1)),(12,tptr (rSapi_Schema.cs t31)),(11,ti s6),(10,ti t22),(9,tsl rSapi_Schema t20)] [glo,own rSapi_Kind 32 s778.2 (n9 3),box ([ti t22,tvs (n9 3),tsl rSapi_Life (t31).Lives,tsl rSapi_Rule (t31).Rules]) (n7 1)] a w) _ _ he779 (hst.pick [0,2,3,4,5,6]) ?_
  clear h
  intro s778 o a w K873 hI h ho hK873
  have hst := hI
  clear hI
  refine wp_seq_k (fun K874 hK874 => ?_)
  refine sr mixed [] hst (fun _ => .q 0 rfl <| .u [2] rfl rfl (op_fieldB fld29_1 z2) <| .u [2] rfl rfl (op_loadBVf (u := (n9 3)) tokV25 z0 rfl) <| .u [1] rfl rfl (op_lenO ud25 z0) <| .o (op_lss z3 z0) <| .n) fun n11 a w hst => ?_
  replace hst := hst.to [2,4,5,6,7,8,9,10] [_,_,_,_,_,_,_,_] [_,_,_] rfl rfl
  refine wp_test 1 hst rfl (fun b916 => ?_) (fun b916 => ?_)
  ·replace h := ite_t b916 h
   refine wp_skip ?_
   refine hK874 _ _ ?_
   try clear hK874 K874
   refine wp_seq_k (fun K876 hK876 => ?_)
   refine wp_block ?_
   obtain ⟨t51,ht51,h⟩ := bind_some h
   obtain ⟨t51s,ht51s,h⟩ := bind_some h
   refine sr mixed [v0 (own rSapi_Kind 32 t51s (n9 3))] hst (fun _ => .u [2] rfl rfl (op_fieldB fld29_1 z3) <| .u [2] rfl rfl (op_loadBVf (u := (n9 3)) tokV25 z0 rfl) <| .q 4 rfl <| .u [1] rfl rfl (op_indexOi ud25 tok32 z1 z0 ht51) <| .u [1] rfl rfl (op_fieldO fld32_1 z0 (idx_ne ht51)) <| .e [] [1] [3] rfl rfl rfl rfl (op_storeOf (u := { t51 with Lo := (0:Int) }) tok3 z0 .k ht51 ht51s (leb rfl) rfl) <| .n) fun n13 a w hst => ?_
   replace hst := hst.to [1,5,7,8,9,10,11,12] [_,_,_,_,_,_,_,_] [_,_,_] rfl rfl
   obtain ⟨t57,ht57,h⟩ := bind_some h
   obtain ⟨t57s,ht57s,h⟩ := bind_some h
   refine sr mixed [v0 (own rSapi_Kind 32 t57s (n9 3))] hst (fun _ => .u [1] rfl rfl (op_fieldB fld29_1 z3) <| .u [1] rfl rfl (op_loadBVf (u := (n9 3)) tokV25 z0 rfl) <| .q 4 rfl <| .q 9 rfl <| .u [2] rfl rfl (op_indexOi ud25 tok32 z2 z1 ht57) <| .u [2] rfl rfl (op_fieldO fld32_2 z0 (idx_ne ht57)) <| .e [] [2] [3] rfl rfl rfl rfl (op_storeOf (u := { t57 with Hi := t22 }) tok3 z0 z2 ht57 ht57s (leb rfl) rfl) <| .n) fun n14 a w hst => ?_
   replace hst := hst.to [1,6,7,8,9,10,11,12,13] [_,_,_,_,_,_,_,_,_] [_,_,_] rfl rfl
   refine wp_seq_k (fun K879 hK879 => ?_)
   obtain ⟨t66,ht66,h⟩ := bind_some h
   obtain ⟨u69,hu69,h⟩ := bind_some h
   obtain ⟨t70,ht70,h⟩ := bind_some h
   refine wr mixed [v1 3 (fun v0 => own rSapi_Field 36 ([] : List Sapi_Field) v0),v1 10 (fun v0 => own rSapi_Field 36 (([] : List Sapi_Field) ++ (t66).Fields) v0),v1 10 (fun v0 => own (rHole rSapi_Kind 3) 32 (holeL t57s s778.1 v0) (n9 3))] hst (fun _ => .u [1] rfl rfl (op_fieldB fld29_1 z4) <| .u [1] rfl rfl (op_loadBVf (u := (n9 3)) tokV25 z0 rfl) <| .q 5 rfl <| .m [] [3] rfl rfl rfl (op_buildSlO (R := rSapi_Field) (us := ([] : List Sapi_Field)) ud30 tok36 (.nil _) rfl (leb rfl) (leb rfl)) <| .u [1] rfl rfl (op_fieldB fld29_1 z8) <| .u [1] rfl rfl (op_loadBVf (u := (n9 3)) tokV25 z0 rfl) <| .q 9 rfl <| .u [2] rfl rfl (op_indexOi ud25 tok32 z1 z0 ht66) <| .u [2] rfl rfl (op_fieldO fld32_3 z0 (idx_ne ht66)) <| .u [2] rfl rfl (op_loadOf (R2 := (rSl rSapi_Field)) (f := (t66).Fields) tok30 z0 ht66 rfl) <| .e [] [3] [4] rfl rfl rfl rfl (op_append (R := rSapi_Field) ud30 tok36 (leb rfl) z6 z0 hu69) <| .u [2] rfl rfl (op_indexOi ud25 tok32 z9 z8 ht70) <| .u [2] rfl rfl (op_fieldO fld32_3 z0 (idx_ne ht70)) <| .e [4] [2] [5] rfl rfl rfl rfl (op_storeH (R := rSapi_Kind) (R2 := rSapi_Field) (e2 := 36) (ys := (([] : List Sapi_Field) ++ (t66).Fields)) tokV30 z0 z2 ht70 (leb rfl)) <| .n) fun n15 a w hst => ?_
   replace hst := hst.to [1,5,10,13,14,15,16,17,18,19,20,21] [_,_,_,_,_,_,_,_,_,_,_,_] [_,_,_,_] rfl rfl
   refine hK879 _ _ ?_
   try clear hK879 K879
   refine sr mixed [] hst (fun _ => .o (op_assign .k) <| .n) fun n16 a w hst => ?_
   replace hst := hst.to [0,1,2,3,4,5,6,7,8,9,10,11,12] [_,_,_,_,_,_,_,_,_,_,_,_,_] [_,_,_,_] rfl rfl
   obtain ⟨e883,he883,h⟩ := bind_some h
   have hJp904 : ∀ (p904 : List Sapi_Field) a w,p904 = e883 → St M w0 131 [(14,ti s778.1),(13,tv (n7 1)),(12,tptr (rSapi_Schema.cs t31)),(11,ti s6),(10,ti t22),(9,tsl rSapi_Schema t20)] [glo,box ([ti t22,tvs (n9 3),tsl rSapi_Life (t31).Lives,tsl rSapi_Rule (t31).Rules]) (n7 1),own rSapi_Field 36 p904 (n15 10),own (rHole rSapi_Kind 3) 32 (holeL t57s s778.1 (n15 10)) (n9 3)] a w → K876 a w := by
    intro p904 a w he hst
    subst he
    refine hK876 _ _ ?_
    try clear hK876 K876
    refine wr mixed [] hst (fun _ => .q 0 rfl <| .o (op_add z0 .k) <| .o (op_assign z0) <| .n) fun n12 a w hst => ?_
    replace hst := hst.to [2,3,4,5,6,7] [_,_,_,_,_,_] [_,_,_,_] rfl rfl
    replace hst : St _ _ _ [_,_,_,_,_,_] [_,_,_] _ _ := ((hst.pick [0,1,2,3,4,5]).selA [2,3,0,1] rfl).closeH (u' := (Sapi_Kind.mk (t70).Name (t70).Lo (t70).Hi p904)) ht70 (leb rfl) rfl
    exact hK873 _ _ _ (sj h).symm ((hst.pick [0,1,2,3,4,5]).selA [1,0,2] rfl)
   refine wp_block ?_
   refine wp_loopK _ (fun (s882 : Int × List Sapi_Field) a w => St M w0 131 [(15,ti s882.1),(14,ti s778.1),(13,tv (n7 1)),(12,tptr (rSapi_Schema.cs t31)),(11,ti s6),(10,ti t22),(9,tsl rSapi_Schema t20)] [glo,box ([ti t22,tvs (n9 3),tsl rSapi_Life (t31).Lives,tsl rSapi_Rule (t31).Rules]) (n7 1),own rSapi_Field 36 s882.2 (n15 10),own (rHole rSapi_Kind 3) 32 (holeL t57s s778.1 (n15 10)) (n9 3)] a w) _ _ he883 (hst.pick [0,7,8,9,10,11,12]) ?_
   clear h
   intro s882 o a w K905 hI h ho hK905
   have hst := hI
   clear hI
   refine wp_seq_k (fun K906 hK906 => ?_)
   refine sr mixed [] hst (fun _ => .q 0 rfl <| .u [1] rfl rfl (op_fieldB fld29_1 z3) <| .u [1] rfl rfl (op_loadBVf (u := (n9 3)) tokV25 z0 rfl) <| .q 4 rfl <| .u [3] rfl rfl (op_indexH ud25 tok32 z1 z0 ht70) <| .u [3] rfl rfl (op_fieldH fld32_3 z0 ht70) <| .u [3] rfl rfl (op_loadH (R := rSapi_Kind) (k := 3) tokV30 z0 ht70 (leb rfl)) <| .u [2] rfl rfl (op_lenO ud30 z0) <| .o (op_lss z7 z0) <| .n) fun n17 a w hst => ?_
   replace hst := hst.to [2,6,8,9,10,11,12,13,14,15] [_,_,_,_,_,_,_,_,_,_] [_,_,_,_] rfl rfl
   refine wp_test 2 hst rfl (fun b915 => ?_) (fun b915 => ?_)
   ·replace h := ite_t b915 h
    refine wp_skip ?_
    refine hK906 _ _ ?_
    try clear hK906 K906
    refine wp_seq_k (fun K908 hK908 => ?_)
    refine wp_block ?_
    obtain ⟨t90,ht90,h⟩ := bind_some h
    refine sr mixed [] hst (fun _ => .u [1] rfl rfl (op_fieldB fld29_1 z5) <| .u [1] rfl rfl (op_loadBVf (u := (n9 3)) tokV25 z0 rfl) <| .q 6 rfl <| .u [3] rfl rfl (op_indexH ud25 tok32 z1 z0 ht70) <| .u [3] rfl rfl (op_fieldH fld32_3 z0 ht70) <| .u [3] rfl rfl (op_loadH (R := rSapi_Kind) (k := 3) tokV30 z0 ht70 (leb rfl)) <| .q 9 rfl <| .u [2] rfl rfl (op_indexOi ud30 tok36 z1 z0 ht90) <| .u [2] rfl rfl (op_fieldO fld36_5 z0 (idx_ne ht90)) <| .u [2] rfl rfl (op_loadOf (R2 := rI) (f := (t90).Hi) tok3 z0 ht90 rfl) <| .o (op_gtr z0 .k) <| .n) fun n19 a w hst => ?_
    replace hst := hst.to [1,5,10,11,12,14,15,16,17,18,19,20] [_,_,_,_,_,_,_,_,_,_,_,_] [_,_,_,_] rfl rfl
    obtain ⟨p910,hp910,h⟩ := bind_some h
    have hJp910 : ∀ a w,St M w0 131 [(15,ti s882.1),(14,ti s778.1),(13,tv (n7 1)),(12,tptr (rSapi_Schema.cs t31)),(11,ti s6),(10,ti t22),(9,tsl rSapi_Schema t20)] [glo,box ([ti t22,tvs (n9 3),tsl rSapi_Life (t31).Lives,tsl rSapi_Rule (t31).Rules]) (n7 1),own (rHole rSapi_Kind 3) 32 (holeL t57s s778.1 (n15 10)) (n9 3),own rSapi_Field 36 p910 (n15 10)] a w → K908 a w := by
     intro a w hst
     refine hK908 _ _ ?_
     try clear hK908 K908
     refine wr mixed [] hst (fun _ => .q 0 rfl <| .o (op_add z0 .k) <| .o (op_assign z0) <| .n) fun n18 a w hst => ?_
     replace hst := hst.to [2,3,4,5,6,7,8] [_,_,_,_,_,_,_] [_,_,_,_] rfl rfl
     exact hK905 _ _ _ (sj h).symm ((hst.pick [0,1,2,3,4,5,6]).selA [0,1,3,2] rfl)
    replace h := hp910
    clear hp910
    refine wp_test 2 hst rfl (fun b914 => ?_) (fun b914 => ?_)
    ·replace h := ite_t b914 h
     obtain ⟨t101,ht101,h⟩ := bind_some h
     obtain ⟨t101s,ht101s,h⟩ := bind_some h
     refine sr mixed [v0 (own rSapi_Field 36 t101s (n15 10))] hst (fun _ => .u [1] rfl rfl (op_fieldB fld29_1 z7) <| .u [1] rfl rfl (op_loadBVf (u := (n9 3)) tokV25 z0 rfl) <| .q 8 rfl <| .u [3] rfl rfl (op_indexH ud25 tok32 z1 z0 ht70) <| .u [3] rfl rfl (op_fieldH fld32_3 z0 ht70) <| .u [3] rfl rfl (op_loadH (R := rSapi_Kind) (k := 3) tokV30 z0 ht70 (leb rfl)) <| .q 11 rfl <| .u [2] rfl rfl (op_indexOi ud30 tok36 z1 z0 ht101) <| .u [2] rfl rfl (op_fieldO fld36_4 z0 (idx_ne ht101)) <| .e [] [2] [4] rfl rfl rfl rfl (op_storeOf (u := { t101 with Lo := (0:Int) }) tok3 z0 .k ht101 ht101s (leb rfl) rfl) <| .n) fun n20 a w hst => ?_
     replace hst := hst.to [1,5,9,10,12,13,14,15,16,17,18,19,20] [_,_,_,_,_,_,_,_,_,_,_,_,_] [_,_,_,_] rfl rfl
     obtain ⟨t112,ht112,h⟩ := bind_some h
     obtain ⟨t112s,ht112s,h⟩ := bind_some h
     refine wr mixed [v0 (own rSapi_Field 36 t112s (n15 10))] hst (fun _ => .u [1] rfl rfl (op_fieldB fld29_1 z8) <| .u [1] rfl rfl (op_loadBVf (u := (n9 3)) tokV25 z0 rfl) <| .q 9 rfl <| .u [2] rfl rfl (op_indexH ud25 tok32 z1 z0 ht70) <| .u [2] rfl rfl (op_fieldH fld32_3 z0 ht70) <| .u [2] rfl rfl (op_loadH (R := rSapi_Kind) (k := 3) tokV30 z0 ht70 (leb rfl)) <| .q 12 rfl <| .q 18 rfl <| .o (op_add .k z0) <| .u [3] rfl rfl (op_indexOi ud30 tok36 z3 z2 ht112) <| .u [3] rfl rfl (op_fieldO fld36_5 z0 (idx_ne ht112)) <| .e [] [3] [4] rfl rfl rfl rfl (op_storeOf (u := { t112 with Hi := (IntKind.i64.wrap ((1:Int) + t22)) }) tok3 z0 z2 ht112 ht112s (leb rfl) rfl) <| .n) fun n21 a w hst => ?_
     replace hst := hst.to [1,5,11,12,13,14,15,16,17,18,19,20,21,22,23] [_,_,_,_,_,_,_,_,_,_,_,_,_,_,_] [_,_,_,_] rfl rfl
     obtain rfl := sj h
     exact hJp910 _ _ (hst.pick [8,9,10,11,12,13,14])
    ·replace h := ite_f b914 h
     refine wp_skip ?_
     obtain rfl := sj h
     exact hJp910 _ _ ((hst.pick [5,6,7,8,9,10,11]).selA [0,1,3,2] rfl)
   ·replace h := ite_f b915 h
    refine wp_exit ?_
    exact hJp904 _ _ _ (ho _ (sj h).symm) (hst.pick [4,5,6,7,8,9])
  ·replace h := ite_f b916 h
   refine wp_exit ?_
   exact hJp866 _ _ _ (ho _ (sj h).symm) (hst.pick [3,4,5,6,7])
 ·replace h := ite_f b917 h
  refine wp_exit ?_
  exact hJp612 _ _ _ (ho _ (sj h).symm) (hst.pick [])

end Go.Proofs.YthdfmpocknmleaaDoor

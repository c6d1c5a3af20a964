/- Go functions as Lean functions, and the proofs that they compute them, written by a program. No condition. -/
import Derived.Test.YthdfmpocknmleaaDoorGenF
namespace Go.Proofs.YthdfmpocknmleaaDoor
open Go.Sim

/- diorama/dioramalaw10.lives -/
noncomputable def flaw10_lives  : Option (Bool) := (flaw10_example false false).bind fun t4 => (ftyping_Check t4).bind fun t5 => (flaw10_plain t5).bind fun t6 => (flaw10_example true false).bind fun t7 => (ftyping_Check t7).bind fun t8 => (flaw10_plain t8).bind fun t9 => (flaw10_example true true).bind fun t10 => (ftyping_Check t10).bind fun t11 => (flaw10_plain t11).bind fun t12 => (fref10_Same t6 [(Sref10_Problem.mk (1:Int) (2:Int) (-1:Int) (13:Int))]).bind fun t16 => (opt ((t16 && ((t9.length : Int) == (0:Int))) == true) (fref10_Same t12 [(Sref10_Problem.mk (0:Int) (1:Int) (-1:Int) (12:Int)),(Sref10_Problem.mk (0:Int) (2:Int) (-1:Int) (12:Int))]) default).bind fun t27 => (some ((t16 && ((t9.length : Int) == (0:Int))) && t27))
set_option maxRecDepth 100000 in
set_option maxHeartbeats 4000000 in
theorem law10_lives_ok {r : Bool} (h : flaw10_lives  = some r) : FnOk Tryd.prog 12 [] [glo] (fun _ => []) (fun _ => tb r) := by
 unfold flaw10_lives at h
 refine FnOk.enter Tryd.func12 rfl Tryd.ntmps12 (leb rfl) (fun M0 M w0 a hpl hst => ?_)
 replace hst : St M w0 29 [] [glo] a w0 := hst
 refine sr mixed [] hst (fun _ => .o (op_assign .k) <| .n) fun n0 a w hst => ?_
 replace hst := hst.to [] [] [_] rfl rfl
 obtain ⟨t4,ht4,h⟩ := bind_some h
 obtain ⟨t5,ht5,h⟩ := bind_some h
 obtain ⟨t6,ht6,h⟩ := bind_some h
 refine sr mixed [] hst (fun _ => .o (op_callF call32 (law10_example_ok ht4) (.cons (.of .k) <| .cons (.of .k) <| .nil)) <| .u [0] rfl rfl ((op_callF call11 (typing_Check_ok ht5) (.cons (.of z0) <| .nil)).glo) <| .o (op_callF call10 (law10_plain_ok ht6) (.cons (.of z0) <| .nil)) <| .o (op_assign z0) <| .n) fun n1 a w hst => ?_
 replace hst := hst.to [3] [_] [_] rfl rfl
 obtain ⟨t7,ht7,h⟩ := bind_some h
 obtain ⟨t8,ht8,h⟩ := bind_some h
 obtain ⟨t9,ht9,h⟩ := bind_some h
 refine sr mixed [] hst (fun _ => .o (op_callF call32 (law10_example_ok ht7) (.cons (.of .k) <| .cons (.of .k) <| .nil)) <| .u [0] rfl rfl ((op_callF call11 (typing_Check_ok ht8) (.cons (.of z0) <| .nil)).glo) <| .o (op_callF call10 (law10_plain_ok ht9) (.cons (.of z0) <| .nil)) <| .o (op_assign z0) <| .n) fun n2 a w hst => ?_
 replace hst := hst.to [3,4] [_,_] [_] rfl rfl
 obtain ⟨t10,ht10,h⟩ := bind_some h
 obtain ⟨t11,ht11,h⟩ := bind_some h
 obtain ⟨t12,ht12,h⟩ := bind_some h
 refine sr mixed [] hst (fun _ => .o (op_callF call32 (law10_example_ok ht10) (.cons (.of .k) <| .cons (.of .k) <| .nil)) <| .u [0] rfl rfl ((op_callF call11 (typing_Check_ok ht11) (.cons (.of z0) <| .nil)).glo) <| .o (op_callF call10 (law10_plain_ok ht12) (.cons (.of z0) <| .nil)) <| .o (op_assign z0) <| .n) fun n3 a w hst => ?_
 replace hst := hst.to [3,4,5] [_,_,_] [_] rfl rfl
 obtain ⟨t16,ht16,h⟩ := bind_some h
 obtain ⟨t27,ht27,h⟩ := bind_some h
 refine sr mixed [] hst (fun _ => .q 2 rfl <| .p (T := rSref10_Problem.ty (Sref10_Problem.mk (1:Int) (2:Int) (-1:Int) (13:Int))) rfl (op_build ud52 pl52 zv52 zc52 (.cons (R := rI) (u := (1:Int)) rfl .k (leb rfl) <| .cons (R := rI) (u := (2:Int)) rfl .k (leb rfl) <| .cons (R := rI) (u := (-1:Int)) rfl .k (leb rfl) <| .cons (R := rI) (u := (13:Int)) rfl .k (leb rfl) <| .nil _)) <| .o (op_buildSl (R := rSref10_Problem) (us := [(Sref10_Problem.mk (1:Int) (2:Int) (-1:Int) (13:Int))]) ud45 tok52 (.cons z0 <| .nil _) rfl (leb rfl)) <| .o (op_callF call9 (ref10_Same_ok ht16) (.cons (.of z2) <| .cons (.of z0) <| .nil)) <| .q 0 rfl <| .g rfl rfl (.b 0 rfl) (fun _ => op_move z6) <| .g rfl rfl (.b 1 rfl) (fun hc => op_len ud45 (.cond z0 hc)) <| .g rfl rfl (.b 2 rfl) (fun hc => op_eql (.cond z0 hc) .k) <| .o (op_and z3 (fun hp => (.cond z0 (beqT hp)))) <| .q 0 rfl <| .g rfl rfl (.b 0 rfl) (fun _ => op_move z10) <| .g (T := rSref10_Problem.ty (Sref10_Problem.mk (0:Int) (1:Int) (-1:Int) (12:Int))) rfl rfl (.b 1 rfl) (fun _ => op_build ud52 pl52 zv52 zc52 (.cons (R := rI) (u := (1:Int)) rfl .k (leb rfl) <| .cons (R := rI) (u := (-1:Int)) rfl .k (leb rfl) <| .cons (R := rI) (u := (12:Int)) rfl .k (leb rfl) <| .nil _)) <| .g (T := rSref10_Problem.ty (Sref10_Problem.mk (0:Int) (2:Int) (-1:Int) (12:Int))) rfl rfl (.b 2 rfl) (fun _ => op_build ud52 pl52 zv52 zc52 (.cons (R := rI) (u := (2:Int)) rfl .k (leb rfl) <| .cons (R := rI) (u := (-1:Int)) rfl .k (leb rfl) <| .cons (R := rI) (u := (12:Int)) rfl .k (leb rfl) <| .nil _)) <| .g rfl rfl (.b 3 rfl) (fun hc => op_buildSl (R := rSref10_Problem) (us := [(Sref10_Problem.mk (0:Int) (1:Int) (-1:Int) (12:Int)),(Sref10_Problem.mk (0:Int) (2:Int) (-1:Int) (12:Int))]) ud45 tok52 (.cons (.cond z1 hc) <| .cons (.cond z0 hc) <| .nil _) rfl (leb rfl)) <| .g rfl rfl (.b 4 rfl) (fun hc => op_callF call9 (ref10_Same_ok (opt_t ht27 hc)) (.cons (.of (.cond z3 hc)) <| .cons (.of (.cond z0 hc)) <| .nil)) <| .o (op_and z5 (fun hp => (.cond z0 (beqT hp)))) <| .o (op_assign z0) <| .n) fun n4 a w hst => ?_
 replace hst := hst.to [16] [_] [_] rfl rfl
 refine wp_ret ?_
 obtain rfl := sj h
 exact ret_st undef [] hpl hst rfl (.tmp z0 .nil) rfl rfl rfl

/- diorama/dioramalaw10.TypingFewer -/
noncomputable def flaw10_TypingFewer (l_ : (List Int)) (at_ : Int) (how_ : Int) (by_ : Int) : Option (Bool) := (flaw10_some l_ at_ how_ by_).bind fun t21 => (tailrec (fun (s5 : Int) => ((if (decide (s5 < (t21.length : Int))) = true then (jn (fun (_ : Unit) => (some (.inl (IntKind.i64.wrap (s5 + (1:Int)))))) fun j292 => (idx t21 s5).bind fun t30 => (rm (([] : List Sapi_Kind).length + (t30).Kinds.length)).bind fun _ => (rm ((([] : List Sapi_Kind) ++ (t30).Kinds).length + [(Sapi_Kind.mk ([122,102,117,114,116,104,101,114] : Str) (0:Int) (0:Int) [(Sapi_Field.mk ([122,107,101,121] : Str) ([] : Str) ([] : Str) (0:Int) (0:Int) (0:Int) ([] : (List Str)) ([] : (List Int)))])].length)).bind fun _ => (fschema_Valid t30).bind fun t46 => (opt ((t46 != (0:Int)) == false) (fschema_Valid (Sapi_Schema.mk (t30).Version ((([] : List Sapi_Kind) ++ (t30).Kinds) ++ [(Sapi_Kind.mk ([122,102,117,114,116,104,101,114] : Str) (0:Int) (0:Int) [(Sapi_Field.mk ([122,107,101,121] : Str) ([] : Str) ([] : Str) (0:Int) (0:Int) (0:Int) ([] : (List Str)) ([] : (List Int)))])]) (t30).Lives (t30).Rules)) default).bind fun t50 => (if ((t46 != (0:Int)) || (t50 != (0:Int))) = true then (j292 ()) else (ftyping_Check t30).bind fun t54 => (flaw10_plain t54).bind fun t55 => (tailrec (fun (s309 : Int × List Sref10_Problem) => ((if (decide (s309.1 < (t55.length : Int))) = true then (idx t55 s309.1).bind fun t64 => ((if (decide ((t64).Rule < (0:Int))) = true then (idx t55 s309.1).bind fun t71 => (rm (s309.2.length + [t71].length)).bind fun _ => (some (s309.2 ++ [t71])) else (some s309.2))).bind fun (p340 : List Sref10_Problem) => (some (.inl ((IntKind.i64.wrap (s309.1 + (1:Int))),p340))) else (some (.inr s309.2))) : Option ((Int × List Sref10_Problem) ⊕ ((List Sref10_Problem))))) ((0:Int),([] : List Sref10_Problem))).bind fun (p330 : (List Sref10_Problem)) => (ftyping_Check (Sapi_Schema.mk (t30).Version (t30).Kinds (t30).Lives ([] : List Sapi_Rule))).bind fun t76 => (flaw10_plain t76).bind fun t77 => (fref10_Same t77 p330).bind fun t79 => (opt ((!t79) == false) (ftyping_Check (Sapi_Schema.mk (t30).Version ((([] : List Sapi_Kind) ++ (t30).Kinds) ++ [(Sapi_Kind.mk ([122,102,117,114,116,104,101,114] : Str) (0:Int) (0:Int) [(Sapi_Field.mk ([122,107,101,121] : Str) ([] : Str) ([] : Str) (0:Int) (0:Int) (0:Int) ([] : (List Str)) ([] : (List Int)))])]) (t30).Lives (t30).Rules)) default).bind fun t83 => (opt ((!t79) == false) (flaw10_plain t83) default).bind fun t84 => (opt ((!t79) == false) (fref10_Same t84 t55) default).bind fun t86 => (if ((!t79) || (!t86)) = true then (some (.inr (.inr false))) else (j292 ())))) else (some (.inr (.inl ())))) : Option ((Int) ⊕ ((Unit) ⊕ (Bool))))) (0:Int)).bind fun (e6 : (Unit) ⊕ (Bool)) => (match e6 with | .inl _ => (flaw10_lives).bind fun t89 => (some t89) | .inr p232 => (some p232))
set_option maxRecDepth 100000 in
set_option maxHeartbeats 4000000 in
theorem law10_TypingFewer_ok {l_ : (List Int)} {at_ : Int} {how_ : Int} {by_ : Int} {r : Bool} (h : flaw10_TypingFewer l_ at_ how_ by_ = some r) : FnOk Tryd.prog 4 [tsl rI l_,ti at_,ti how_,ti by_] [glo] (fun _ => []) (fun _ => tb r) := by
 unfold flaw10_TypingFewer at h
 refine FnOk.enter Tryd.func4 rfl Tryd.ntmps4 (leb rfl) (fun M0 M w0 a hpl hst => ?_)
 replace hst : St M w0 90 [(0,tsl rI l_),(1,ti at_),(2,ti how_),(3,ti by_)] [glo] a w0 := hst
 refine sr mixed [] hst (fun _ => .o (op_assign .k) <| .n) fun n0 a w hst => ?_
 replace hst := hst.to [1,2,3,4] [_,_,_,_] [_] rfl rfl
 obtain ⟨t21,ht21,h⟩ := bind_some h
 refine sr mixed [] hst (fun _ => .q 0 rfl <| .q 2 rfl <| .q 4 rfl <| .q 6 rfl <| .o (op_callF call6 (law10_some_ok ht21) (.cons (.of z3) <| .cons (.of z2) <| .cons (.of z1) <| .cons (.of z0) <| .nil)) <| .o (op_assign z0) <| .n) fun n1 a w hst => ?_
 replace hst := hst.to [5] [_] [_] rfl rfl
 refine wp_seq_k (fun K3 hK3 => ?_)
 refine sr mixed [] hst (fun _ => .o (op_assign .k) <| .n) fun n2 a w hst => ?_
 replace hst := hst.to [0,1] [_,_] [_] rfl rfl
 obtain ⟨e6,he6,h⟩ := bind_some h
 have hJp231 : ∀ (p231 : Unit) a w,(.inl p231) = e6 → St M w0 90 [] [glo] a w → K3 a w := by
  intro p231 a w he hst
  subst he
  simp only at h
  refine hK3 _ _ ?_
  try clear hK3 K3
  obtain ⟨t89,ht89,h⟩ := bind_some h
  refine sr mixed [] hst (fun _ => .u [0] rfl rfl ((op_callF call12 (law10_lives_ok ht89) (.nil)).glo) <| .o (op_assign z0) <| .n) fun n20 a w hst => ?_
  replace hst := hst.to [1] [_] [_] rfl rfl
  refine wp_ret ?_
  obtain rfl := sj h
  exact ret_st undef [] hpl hst rfl (.tmp z0 .nil) rfl rfl rfl
 have hJp232 : ∀ (p232 : Bool) a w,(.inr p232) = e6 → St M w0 90 [(8,tb p232)] [glo] a w → Ret Tryd.prog Tryd.f4 M0 [glo] w0 (fun _ => []) (fun _ => tb r) .ret a w := by
  intro p232 a w he hst
  subst he
  simp only at h
  obtain rfl := sj h
  exact ret_st undef [] hpl hst rfl (.tmp z0 .nil) rfl rfl rfl
 refine wp_block ?_
 refine wp_loopK _ (fun (s5 : Int) a w => St M w0 90 [(10,ti s5),(9,tsl rSapi_Schema t21)] [glo] a w) _ _ he6 (hst.pick [0,1]) ?_
 clear h
 intro s5 o a w K234 hI h ho hK234
 have hst := hI
 clear hI
 refine wp_seq_k (fun K235 hK235 => ?_)
 refine sr mixed [] hst (fun _ => .q 0 rfl <| .q 2 rfl <| .o (op_len Tryd.underlying23 z0) <| .o (op_lss z2 z0) <| .n) fun n3 a w hst => ?_
 replace hst := hst.to [3,4,5] [_,_,_] [_] rfl rfl
 refine wt hst (fun b346 => ?_) (fun b346 => ?_)
 ·replace h := ite_t b346 h
  refine wp_skip ?_
  refine hK235 _ _ ?_
  try clear hK235 K235
  refine wp_seq_k (fun K237 hK237 => ?_)
  obtain ⟨j292,hj292,h⟩ := jn_elim h
  have hJp238 : ∀ (p238 : Unit) a w,j292 p238 = some o → St M w0 90 [(10,ti s5),(9,tsl rSapi_Schema t21)] [glo] a w → K237 a w := by
   intro p238 a w h hst
   rw [hj292] at h
   clear hj292
   refine hK237 _ _ ?_
   try clear hK237 K237
   refine wr mixed [] hst (fun _ => .q 0 rfl <| .o (op_add z0 .k) <| .o (op_assign z0) <| .n) fun n4 a w hst => ?_
   replace hst := hst.to [2,3] [_,_] [_] rfl rfl
   exact hK234 _ _ _ (sj h).symm (hst.pick [0,1])
  clear hj292
  refine wp_block ?_
  obtain ⟨t30,ht30,h⟩ := bind_some h
  refine sr mixed [v1 4 (fun v0 => box (rSapi_Schema.cs zz4) v0),v1 4 (fun v0 => box (rSapi_Schema.cs t30) v0)] hst (fun _ => .q 2 rfl <| .q 2 rfl <| .o (op_index Tryd.underlying23 tok29 z1 z0 ht30) <| .o (op_load tok29 z0) <| .m [] [1] rfl rfl rfl (op_alloc (R := rSapi_Schema) (a := zz4) tok29 zok29) <| .e [] [1] [2] rfl rfl rfl rfl (op_storeB (R := rSapi_Schema) (a := t30) tok29 z0 z1 (leb rfl)) <| .n) fun n5 a w hst => ?_
  replace hst : St _ _ _ [_,_,_] [_] _ _ := ((((hst.pick [4,6,7]).selA [1,0] rfl).shareB 0 rfl).add 0 rfl (fun _ _ _ h => h.2)).pick [0,3,4]
  refine sr mixed [v1 1 (fun v0 => box (rSapi_Schema.cs zz4) v0),v1 1 (fun v0 => box (rSapi_Schema.cs t30) v0)] hst (fun _ => .o (op_load tok29 z0) <| .m [] [1] rfl rfl rfl (op_alloc (R := rSapi_Schema) (a := zz4) tok29 zok29) <| .e [] [1] [2] rfl rfl rfl rfl (op_storeB (R := rSapi_Schema) (a := t30) tok29 z0 z1 (leb rfl)) <| .n) fun n6 a w hst => ?_
  replace hst := hst.to [1,2,3,4] [_,_,_,_] [_,_] rfl rfl
  refine sr mixed [v0 (box (rSapi_Schema.cs (Sapi_Schema.mk (t30).Version (t30).Kinds (t30).Lives ([] : List Sapi_Rule))) (n6 1))] hst (fun _ => .u [1] rfl rfl (op_fieldB fld29_3 z0) <| .e [] [1] [2] rfl rfl rfl rfl (op_storeBf (R := (rSl rSapi_Rule)) (a := ([] : List Sapi_Rule)) (Ts := (rSapi_Schema.cs t30)) (off := 3) tok27 z0 .nilsl (leb rfl)) <| .n) fun n7 a w hst => ?_
  replace hst := hst.to [1,2,3,4] [_,_,_,_] [_,_] rfl rfl
  refine sr mixed [v1 1 (fun v0 => box (rSapi_Schema.cs zz4) v0),v1 1 (fun v0 => box (rSapi_Schema.cs t30) v0)] hst (fun _ => .o (op_load tok29 z1) <| .m [] [2] rfl rfl rfl (op_alloc (R := rSapi_Schema) (a := zz4) tok29 zok29) <| .e [] [2] [3] rfl rfl rfl rfl (op_storeB (R := rSapi_Schema) (a := t30) tok29 z0 z1 (leb rfl)) <| .n) fun n8 a w hst => ?_
  replace hst := hst.to [1,2,3,4,5] [_,_,_,_,_] [_,_,_] rfl rfl
  refine wp_seq_k (fun K300 hK300 => ?_)
  obtain ⟨u38,hu38,h⟩ := bind_some h
  obtain ⟨u43,hu43,h⟩ := bind_some h
  refine wr mixed [v1 0 (fun v0 => own rSapi_Kind 32 ([] : List Sapi_Kind) v0),v1 3 (fun v0 => own rSapi_Kind 32 (([] : List Sapi_Kind) ++ (t30).Kinds) v0),v0 (box (rSapi_Schema.cs (Sapi_Schema.mk (t30).Version ((([] : List Sapi_Kind) ++ (t30).Kinds) ++ [(Sapi_Kind.mk ([122,102,117,114,116,104,101,114] : Str) (0:Int) (0:Int) [(Sapi_Field.mk ([122,107,101,121] : Str) ([] : Str) ([] : Str) (0:Int) (0:Int) (0:Int) ([] : (List Str)) ([] : (List Int)))])]) (t30).Lives (t30).Rules)) (n8 1))] hst (fun _ => .m [] [3] rfl rfl rfl (op_buildSlO (R := rSapi_Kind) (us := ([] : List Sapi_Kind)) ud25 tok32 (.nil _) rfl (leb rfl) (leb rfl)) <| .o (op_field fld29_1 z3) <| .o (op_loadT (R := (rSl rSapi_Kind)) (u := (t30).Kinds) tok25 z0 rfl) <| .e [] [3] [4] rfl rfl rfl rfl (op_append (R := rSapi_Kind) ud25 tok32 (leb rfl) z2 z0 hu38) <| .p (T := rSapi_Field.ty (Sapi_Field.mk ([122,107,101,121] : Str) ([] : Str) ([] : Str) (0:Int) (0:Int) (0:Int) ([] : (List Str)) ([] : (List Int)))) rfl (op_build ud36 pl36 zv36 zc36 (.cons (R := rS) (u := ([122,107,101,121] : Str)) rfl .k (leb rfl) <| .nil _)) <| .o (op_buildSl (R := rSapi_Field) (us := [(Sapi_Field.mk ([122,107,101,121] : Str) ([] : Str) ([] : Str) (0:Int) (0:Int) (0:Int) ([] : (List Str)) ([] : (List Int)))]) ud30 tok36 (.cons z0 <| .nil _) rfl (leb rfl)) <| .p (T := rSapi_Kind.ty (Sapi_Kind.mk ([122,102,117,114,116,104,101,114] : Str) (0:Int) (0:Int) [(Sapi_Field.mk ([122,107,101,121] : Str) ([] : Str) ([] : Str) (0:Int) (0:Int) (0:Int) ([] : (List Str)) ([] : (List Int)))])) rfl (op_build ud32 pl32 zv32 zc32 (.cons (R := rS) (u := ([122,102,117,114,116,104,101,114] : Str)) rfl .k (leb rfl) <| .cons (R := (rSl rSapi_Field)) (u := [(Sapi_Field.mk ([122,107,101,121] : Str) ([] : Str) ([] : Str) (0:Int) (0:Int) (0:Int) ([] : (List Str)) ([] : (List Int)))]) rfl z0 (leb rfl) <| .nil _)) <| .o (op_buildSl (R := rSapi_Kind) (us := [(Sapi_Kind.mk ([122,102,117,114,116,104,101,114] : Str) (0:Int) (0:Int) [(Sapi_Field.mk ([122,107,101,121] : Str) ([] : Str) ([] : Str) (0:Int) (0:Int) (0:Int) ([] : (List Str)) ([] : (List Int)))])]) ud25 tok32 (.cons z0 <| .nil _) rfl (leb rfl)) <| .e [] [4] [] rfl rfl rfl rfl (.roE (op_append (R := rSapi_Kind) ud25 tok32 (leb rfl) z4 z0 hu43)) <| .u [2] rfl rfl (op_fieldB fld29_1 z9) <| .e [] [2] [5] rfl rfl rfl rfl (op_storeBf (R := (rSl rSapi_Kind)) (a := ((([] : List Sapi_Kind) ++ (t30).Kinds) ++ [(Sapi_Kind.mk ([122,102,117,114,116,104,101,114] : Str) (0:Int) (0:Int) [(Sapi_Field.mk ([122,107,101,121] : Str) ([] : Str) ([] : Str) (0:Int) (0:Int) (0:Int) ([] : (List Str)) ([] : (List Int)))])])) (Ts := (rSapi_Schema.cs t30)) (off := 1) tok25 z0 z1 (leb rfl)) <| .n) fun n9 a w hst => ?_
  replace hst := hst.to [10,11,12,13,14] [_,_,_,_,_] [_,_,_] rfl rfl
  refine hK300 _ _ ?_
  try clear hK300 K300
  refine wp_seq_k (fun K302 hK302 => ?_)
  obtain ⟨t46,ht46,h⟩ := bind_some h
  obtain ⟨t50,ht50,h⟩ := bind_some h
  refine sr mixed [] hst (fun _ => .o (op_load tok29 z2) <| .u [0] rfl rfl ((op_callF call8 (schema_Valid_ok ht46) (.cons (.of z0) <| .nil)).glo) <| .o (op_neq z0 .k) <| .q 0 rfl <| .gu [2] rfl rfl rfl (.b 0 rfl) (fun _ => op_loadB (R := rSapi_Schema) (u := (Sapi_Schema.mk (t30).Version ((([] : List Sapi_Kind) ++ (t30).Kinds) ++ [(Sapi_Kind.mk ([122,102,117,114,116,104,101,114] : Str) (0:Int) (0:Int) [(Sapi_Field.mk ([122,107,101,121] : Str) ([] : Str) ([] : Str) (0:Int) (0:Int) (0:Int) ([] : (List Str)) ([] : (List Int)))])]) (t30).Lives (t30).Rules)) tok29 z4 rfl) <| .gu [0] rfl rfl rfl (.b 1 rfl) (fun hc => (op_callF call8 (schema_Valid_ok (opt_t ht50 hc)) (.cons (.of (.cond z0 hc)) <| .nil)).glo) <| .g rfl rfl (.b 2 rfl) (fun hc => op_neq (.cond z0 hc) .k) <| .o (op_or z3 (fun hp => (.cond z0 (beqF hp)))) <| .n) fun n10 a w hst => ?_
  replace hst := hst.to [7,8,9,10,11,12] [_,_,_,_,_,_] [_,_,_] rfl rfl
  refine wt hst (fun b345 => ?_) (fun b345 => ?_)
  ·replace h := ite_t b345 h
   refine wp_exit ?_
   exact hJp238 _ _ _ h ((hst.pick [4,5]).selA [0] rfl)
  ·replace h := ite_f b345 h
   refine wp_skip ?_
   refine hK302 _ _ ?_
   try clear hK302 K302
   obtain ⟨t54,ht54,h⟩ := bind_some h
   obtain ⟨t55,ht55,h⟩ := bind_some h
   refine sr mixed [] hst (fun _ => .o (op_load tok29 z3) <| .u [0] rfl rfl ((op_callF call11 (typing_Check_ok ht54) (.cons (.of z0) <| .nil)).glo) <| .o (op_callF call10 (law10_plain_ok ht55) (.cons (.of z0) <| .nil)) <| .o (op_assign z0) <| .n) fun n11 a w hst => ?_
   replace hst := hst.to [3,5,6,8,9] [_,_,_,_,_] [_,_,_] rfl rfl
   refine sr mixed [] hst (fun _ => .o (op_assign .k) <| .n) fun n12 a w hst => ?_
   replace hst : St _ _ _ [_,_,_,_,_,_] [_,_,_,_] _ _ := (hst.pick [0,1,2,3,4,5]).nil (rSref10_Problem) 52
   refine wp_seq_k (fun K307 hK307 => ?_)
   refine sr mixed [] hst (fun _ => .o (op_assign .k) <| .n) fun n13 a w hst => ?_
   replace hst := hst.to [0,1,2,3,4,5,6] [_,_,_,_,_,_,_] [_,_,_,_] rfl rfl
   obtain ⟨e310,he310,h⟩ := bind_some h
   have hJp330 : ∀ (p330 : List Sref10_Problem) (v331 : Value) a w,p330 = e310 → St M w0 90 [(15,tv v331),(14,tsl rSref10_Problem t55),(13,tv (n8 1)),(12,tv (n6 1)),(10,ti s5),(9,tsl rSapi_Schema t21)] [own rSref10_Problem 52 p330 v331,glo,box (rSapi_Schema.cs (Sapi_Schema.mk (t30).Version (t30).Kinds (t30).Lives ([] : List Sapi_Rule))) (n6 1),box (rSapi_Schema.cs (Sapi_Schema.mk (t30).Version ((([] : List Sapi_Kind) ++ (t30).Kinds) ++ [(Sapi_Kind.mk ([122,102,117,114,116,104,101,114] : Str) (0:Int) (0:Int) [(Sapi_Field.mk ([122,107,101,121] : Str) ([] : Str) ([] : Str) (0:Int) (0:Int) (0:Int) ([] : (List Str)) ([] : (List Int)))])]) (t30).Lives (t30).Rules)) (n8 1)] a w → K307 a w := by
    intro p330 v331 a w he hst
    subst he
    refine hK307 _ _ ?_
    try clear hK307 K307
    obtain ⟨t76,ht76,h⟩ := bind_some h
    obtain ⟨t77,ht77,h⟩ := bind_some h
    obtain ⟨t79,ht79,h⟩ := bind_some h
    obtain ⟨t83,ht83,h⟩ := bind_some h
    obtain ⟨t84,ht84,h⟩ := bind_some h
    obtain ⟨t86,ht86,h⟩ := bind_some h
    refine sr mixed [] hst (fun _ => .u [2] rfl rfl (op_loadB (R := rSapi_Schema) (u := (Sapi_Schema.mk (t30).Version (t30).Kinds (t30).Lives ([] : List Sapi_Rule))) tok29 z3 rfl) <| .u [1] rfl rfl ((op_callF call11 (typing_Check_ok ht76) (.cons (.of z0) <| .nil)).glo) <| .o (op_callF call10 (law10_plain_ok ht77) (.cons (.of z0) <| .nil)) <| .q 3 rfl <| .u [0] rfl rfl (op_callFU [own rSref10_Problem 52 p330 v331] call9 (ref10_Same_ok ht79) (.cons (.of z1) <| .cons (.own z0 (.head _)) <| .nil) (fun _ => flat_tv) (fun _ => flatN0 (x := undef))) <| .o (op_not z0) <| .q 0 rfl <| .gu [3] rfl rfl rfl (.b 0 rfl) (fun _ => op_loadB (R := rSapi_Schema) (u := (Sapi_Schema.mk (t30).Version ((([] : List Sapi_Kind) ++ (t30).Kinds) ++ [(Sapi_Kind.mk ([122,102,117,114,116,104,101,114] : Str) (0:Int) (0:Int) [(Sapi_Field.mk ([122,107,101,121] : Str) ([] : Str) ([] : Str) (0:Int) (0:Int) (0:Int) ([] : (List Str)) ([] : (List Int)))])]) (t30).Lives (t30).Rules)) tok29 z9 rfl) <| .gu [1] rfl rfl rfl (.b 1 rfl) (fun hc => (op_callF call11 (typing_Check_ok (opt_t ht83 hc)) (.cons (.of (.cond z0 hc)) <| .nil)).glo) <| .g rfl rfl (.b 2 rfl) (fun hc => op_callF call10 (law10_plain_ok (opt_t ht84 hc)) (.cons (.of (.cond z0 hc)) <| .nil)) <| .g rfl rfl (.b 3 rfl) (fun _ => op_move z11) <| .g rfl rfl (.b 4 rfl) (fun hc => op_callF call9 (ref10_Same_ok (opt_t ht86 hc)) (.cons (.of (.cond z1 hc)) <| .cons (.of (.cond z0 hc)) <| .nil)) <| .g rfl rfl (.b 5 rfl) (fun hc => op_not (.cond z0 hc)) <| .o (op_or z6 (fun hp => (.cond z0 (beqF hp)))) <| .n) fun n18 a w hst => ?_
    replace hst : St _ _ _ [_,_,_,_,_] [_,_] _ _ := (hst.pick [3,13,14,18,19]).selA [0,1] rfl
    refine wp_test 1 hst rfl (fun b334 => ?_) (fun b334 => ?_)
    ·replace h := ite_t b334 h
     refine sr mixed [] hst (fun _ => .o (op_assign .k) <| .n) fun n19 a w hst => ?_
     replace hst := hst.to [0,1,3] [_,_,_] [_,_] rfl rfl
     refine wp_ret ?_
     exact hJp232 _ _ _ (ho _ (sj h).symm) ((hst.pick [0]).selA [1] rfl)
    ·replace h := ite_f b334 h
     refine wp_skip ?_
     exact hJp238 _ _ _ h ((hst.pick [3,4]).selA [1] rfl)
   refine wp_block ?_
   refine wp_loopK _ (fun (s309 : Int × List Sref10_Problem) a w => ∃ v320 : Value,St M w0 90 [(16,ti s309.1),(15,tv v320),(14,tsl rSref10_Problem t55),(13,tv (n8 1)),(12,tv (n6 1)),(10,ti s5),(9,tsl rSapi_Schema t21)] [own rSref10_Problem 52 s309.2 v320,glo,box (rSapi_Schema.cs (Sapi_Schema.mk (t30).Version (t30).Kinds (t30).Lives ([] : List Sapi_Rule))) (n6 1),box (rSapi_Schema.cs (Sapi_Schema.mk (t30).Version ((([] : List Sapi_Kind) ++ (t30).Kinds) ++ [(Sapi_Kind.mk ([122,102,117,114,116,104,101,114] : Str) (0:Int) (0:Int) [(Sapi_Field.mk ([122,107,101,121] : Str) ([] : Str) ([] : Str) (0:Int) (0:Int) (0:Int) ([] : (List Str)) ([] : (List Int)))])]) (t30).Lives (t30).Rules)) (n8 1)] a w) _ _ he310 ⟨(.slice none 0 0),hst.pick [0,1,2,3,4,5,6]⟩ ?_
   clear h
   intro s309 o a w K335 hI h ho hK335
   obtain ⟨v320,hst⟩ := hI
   refine wp_seq_k (fun K336 hK336 => ?_)
   refine sr mixed [] hst (fun _ => .q 0 rfl <| .q 3 rfl <| .o (op_len ud45 z0) <| .o (op_lss z2 z0) <| .n) fun n14 a w hst => ?_
   replace hst := hst.to [3,4,5,6,7,8,9,10] [_,_,_,_,_,_,_,_] [_,_,_,_] rfl rfl
   refine wt hst (fun b344 => ?_) (fun b344 => ?_)
   ·replace h := ite_t b344 h
    refine wp_skip ?_
    refine hK336 _ _ ?_
    try clear hK336 K336
    refine wp_seq_k (fun K338 hK338 => ?_)
    refine wp_block ?_
    obtain ⟨t64,ht64,h⟩ := bind_some h
    refine sr mixed [] hst (fun _ => .q 3 rfl <| .q 2 rfl <| .o (op_index ud45 tok52 z1 z0 ht64) <| .o (op_field fld52_2 z0) <| .o (op_loadT (R := rI) (u := (t64).Rule) tok3 z0 rfl) <| .o (op_lss z0 .k) <| .n) fun n16 a w hst => ?_
    replace hst := hst.to [5,7,8,9,10,11,12,13] [_,_,_,_,_,_,_,_] [_,_,_,_] rfl rfl
    obtain ⟨p340,hp340,h⟩ := bind_some h
    have hJp340 : ∀ (v342 : Value) a w,St M w0 90 [(15,tv v342),(16,ti s309.1),(14,tsl rSref10_Problem t55),(13,tv (n8 1)),(12,tv (n6 1)),(10,ti s5),(9,tsl rSapi_Schema t21)] [glo,box (rSapi_Schema.cs (Sapi_Schema.mk (t30).Version (t30).Kinds (t30).Lives ([] : List Sapi_Rule))) (n6 1),box (rSapi_Schema.cs (Sapi_Schema.mk (t30).Version ((([] : List Sapi_Kind) ++ (t30).Kinds) ++ [(Sapi_Kind.mk ([122,102,117,114,116,104,101,114] : Str) (0:Int) (0:Int) [(Sapi_Field.mk ([122,107,101,121] : Str) ([] : Str) ([] : Str) (0:Int) (0:Int) (0:Int) ([] : (List Str)) ([] : (List Int)))])]) (t30).Lives (t30).Rules)) (n8 1),own rSref10_Problem 52 p340 v342] a w → K338 a w := by
     intro v342 a w hst
     refine hK338 _ _ ?_
     try clear hK338 K338
     refine wr mixed [] hst (fun _ => .q 1 rfl <| .o (op_add z0 .k) <| .o (op_assign z0) <| .n) fun n15 a w hst => ?_
     replace hst := hst.to [2,3,4,5,6,7,8] [_,_,_,_,_,_,_] [_,_,_,_] rfl rfl
     exact hK335 _ _ _ (sj h).symm ⟨v342,(hst.pick [0,1,2,3,4,5,6]).selA [3,0,1,2] rfl⟩
    replace h := hp340
    clear hp340
    refine wt hst (fun b343 => ?_) (fun b343 => ?_)
    ·replace h := ite_t b343 h
     obtain ⟨t71,ht71,h⟩ := bind_some h
     obtain ⟨u74,hu74,h⟩ := bind_some h
     refine wr mixed [v1 6 (fun v0 => own rSref10_Problem 52 (s309.2 ++ [t71]) v0)] hst (fun _ => .q 2 rfl <| .q 4 rfl <| .q 3 rfl <| .o (op_index ud45 tok52 z1 z0 ht71) <| .o (op_load tok52 z0) <| .o (op_buildSl (R := rSref10_Problem) (us := [t71]) ud45 tok52 (.cons z0 <| .nil _) rfl (leb rfl)) <| .e [] [0] [4] rfl rfl rfl rfl (op_append (R := rSref10_Problem) ud45 tok52 (leb rfl) z5 z0 hu74) <| .ud (f := fun v => tv v) 6 rfl [] rfl rfl (op_assign z0) <| .n) fun n17 a w hst => ?_
     replace hst := hst.to [6,7,9,10,11,12,13,14] [_,_,_,_,_,_,_,_] [_,_,_,_] rfl rfl
     obtain rfl := sj h
     exact hJp340 (n17 6) _ _ (hst.pick [1,2,3,4,5,6,7])
    ·replace h := ite_f b343 h
     refine wp_skip ?_
     obtain rfl := sj h
     exact hJp340 v320 _ _ ((hst.pick [2,1,3,4,5,6,7]).selA [1,2,3,0] rfl)
   ·replace h := ite_f b344 h
    refine wp_exit ?_
    exact hJp330 _ v320 _ _ (ho _ (sj h).symm) (hst.pick [2,3,4,5,6,7])
 ·replace h := ite_f b346 h
  refine wp_exit ?_
  exact hJp231 _ _ _ (ho _ (sj h).symm) (hst.pick [])

end Go.Proofs.YthdfmpocknmleaaDoor

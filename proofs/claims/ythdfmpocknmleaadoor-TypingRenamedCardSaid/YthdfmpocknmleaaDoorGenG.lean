/- Go functions as Lean functions, and the proofs that they compute them, written by a program. No condition. -/
import Derived.Test.YthdfmpocknmleaaDoorGenF
namespace Go.Proofs.YthdfmpocknmleaaDoor
open Go.Sim

/- diorama/dioramalaw10.lives -/
noncomputable def flaw10_lives  : Option (Bool) := (flaw10_example false false).bind fun t4 => (ftyping_Check t4).bind fun t5 => (flaw10_plain t5).bind fun t6 => (flaw10_example true false).bind fun t7 => (ftyping_Check t7).bind fun t8 => (flaw10_plain t8).bind fun t9 => (flaw10_example true true).bind fun t10 => (ftyping_Check t10).bind fun t11 => (flaw10_plain t11).bind fun t12 => (fref10_Same t6 [(Sref10_Problem.mk (1:Int) (2:Int) (-1:Int) (13:Int))]).bind fun t16 => (opt ((t16 && ((t9.length : Int) == (0:Int))) == true) (fref10_Same t12 [(Sref10_Problem.mk (0:Int) (1:Int) (-1:Int) (12:Int)),(Sref10_Problem.mk (0:Int) (2:Int) (-1:Int) (12:Int))]) default).bind fun t27 => (some ((t16 && ((t9.length : Int) == (0:Int))) && t27))
set_option maxRecDepth 100000 in
set_option maxHeartbeats 4000000 in
theorem law10_lives_ok {r : Bool} (h : flaw10_lives  = some r) : FnOk Tryd.prog 12 [] [glo] (fun _ => []) (fun _ => tb r) := by
 unfold flaw10_lives at h
 refine FnOk.enter Tryd.func12 rfl Tryd.ntmps12 (leb rfl) (fun M0 M w0 a hpl hst => ?_)
 replace hst : St M w0 29 [] [glo] a w0 := hst
 refine sr mixed [] hst (fun _ => .o (op_assign .k) <| .n) fun n0 a w hst => ?_
 replace hst := hst.to [] [] [_] rfl rfl
 obtain ⟨t4,ht4,h⟩ := bind_some h
 obtain ⟨t5,ht5,h⟩ := bind_some h
 obtain ⟨t6,ht6,h⟩ := bind_some h
 refine sr mixed [] hst (fun _ => .o (op_callF call32 (law10_example_ok ht4) (.cons (.of .k) <| .cons (.of .k) <| .nil)) <| .u [0] rfl rfl ((op_callF call11 (typing_Check_ok ht5) (.cons (.of z0) <| .nil)).glo) <| .o (op_callF call10 (law10_plain_ok ht6) (.cons (.of z0) <| .nil)) <| .o (op_assign z0) <| .n) fun n1 a w hst => ?_
 replace hst := hst.to [3] [_] [_] rfl rfl
 obtain ⟨t7,ht7,h⟩ := bind_some h
 obtain ⟨t8,ht8,h⟩ := bind_some h
 obtain ⟨t9,ht9,h⟩ := bind_some h
 refine sr mixed [] hst (fun _ => .o (op_callF call32 (law10_example_ok ht7) (.cons (.of .k) <| .cons (.of .k) <| .nil)) <| .u [0] rfl rfl ((op_callF call11 (typing_Check_ok ht8) (.cons (.of z0) <| .nil)).glo) <| .o (op_callF call10 (law10_plain_ok ht9) (.cons (.of z0) <| .nil)) <| .o (op_assign z0) <| .n) fun n2 a w hst => ?_
 replace hst := hst.to [3,4] [_,_] [_] rfl rfl
 obtain ⟨t10,ht10,h⟩ := bind_some h
 obtain ⟨t11,ht11,h⟩ := bind_some h
 obtain ⟨t12,ht12,h⟩ := bind_some h
 refine sr mixed [] hst (fun _ => .o (op_callF call32 (law10_example_ok ht10) (.cons (.of .k) <| .cons (.of .k) <| .nil)) <| .u [0] rfl rfl ((op_callF call11 (typing_Check_ok ht11) (.cons (.of z0) <| .nil)).glo) <| .o (op_callF call10 (law10_plain_ok ht12) (.cons (.of z0) <| .nil)) <| .o (op_assign z0) <| .n) fun n3 a w hst => ?_
 replace hst := hst.to [3,4,5] [_,_,_] [_] rfl rfl
 obtain ⟨t16,ht16,h⟩ := bind_some h
 obtain ⟨t27,ht27,h⟩ := bind_some h
 refine sr mixed [] hst (fun _ => .q 2 rfl <| .p (T := rSref10_Problem.ty (Sref10_Problem.mk (1:Int) (2:Int) (-1:Int) (13:Int))) rfl (op_build ud52 pl52 zv52 zc52 (.cons (R := rI) (u := (1:Int)) rfl .k (leb rfl) <| .cons (R := rI) (u := (2:Int)) rfl .k (leb rfl) <| .cons (R := rI) (u := (-1:Int)) rfl .k (leb rfl) <| .cons (R := rI) (u := (13:Int)) rfl .k (leb rfl) <| .nil _)) <| .o (op_buildSl (R := rSref10_Problem) (us := [(Sref10_Problem.mk (1:Int) (2:Int) (-1:Int) (13:Int))]) ud45 tok52 (.cons z0 <| .nil _) rfl (leb rfl)) <| .o (op_callF call9 (ref10_Same_ok ht16) (.cons (.of z2) <| .cons (.of z0) <| .nil)) <| .q 0 rfl <| .g rfl rfl (.b 0 rfl) (fun _ => op_move z6) <| .g rfl rfl (.b 1 rfl) (fun hc => op_len ud45 (.cond z0 hc)) <| .g rfl rfl (.b 2 rfl) (fun hc => op_eql (.cond z0 hc) .k) <| .o (op_and z3 (fun hp => (.cond z0 (beqT hp)))) <| .q 0 rfl <| .g rfl rfl (.b 0 rfl) (fun _ => op_move z10) <| .g (T := rSref10_Problem.ty (Sref10_Problem.mk (0:Int) (1:Int) (-1:Int) (12:Int))) rfl rfl (.b 1 rfl) (fun _ => op_build ud52 pl52 zv52 zc52 (.cons (R := rI) (u := (1:Int)) rfl .k (leb rfl) <| .cons (R := rI) (u := (-1:Int)) rfl .k (leb rfl) <| .cons (R := rI) (u := (12:Int)) rfl .k (leb rfl) <| .nil _)) <| .g (T := rSref10_Problem.ty (Sref10_Problem.mk (0:Int) (2:Int) (-1:Int) (12:Int))) rfl rfl (.b 2 rfl) (fun _ => op_build ud52 pl52 zv52 zc52 (.cons (R := rI) (u := (2:Int)) rfl .k (leb rfl) <| .cons (R := rI) (u := (-1:Int)) rfl .k (leb rfl) <| .cons (R := rI) (u := (12:Int)) rfl .k (leb rfl) <| .nil _)) <| .g rfl rfl (.b 3 rfl) (fun hc => op_buildSl (R := rSref10_Problem) (us := [(Sref10_Problem.mk (0:Int) (1:Int) (-1:Int) (12:Int)),(Sref10_Problem.mk (0:Int) (2:Int) (-1:Int) (12:Int))]) ud45 tok52 (.cons (.cond z1 hc) <| .cons (.cond z0 hc) <| .nil _) rfl (leb rfl)) <| .g rfl rfl (.b 4 rfl) (fun hc => op_callF call9 (ref10_Same_ok (opt_t ht27 hc)) (.cons (.of (.cond z3 hc)) <| .cons (.of (.cond z0 hc)) <| .nil)) <| .o (op_and z5 (fun hp => (.cond z0 (beqT hp)))) <| .o (op_assign z0) <| .n) fun n4 a w hst => ?_
 replace hst := hst.to [16] [_] [_] rfl rfl
 refine wp_ret ?_
 obtain rfl := sj h
 exact ret_st undef [] hpl hst rfl (.tmp z0 .nil) rfl rfl rfl

/- diorama/dioramalaw10.TypingRenamed -/
noncomputable def flaw10_TypingRenamed (l_ : (List Int)) (at_ : Int) (how_ : Int) (by_ : Int) : Option (Bool) := (flaw10_some l_ at_ how_ by_).bind fun t25 => (tailrec (fun (s5 : Int) => ((if (decide (s5 < (t25.length : Int))) = true then (jn (fun (_ : Unit) => (some (.inl (IntKind.i64.wrap (s5 + (1:Int)))))) fun j1067 => (idx t25 s5).bind fun t34 => (tailrec (fun (s1077 : Int × List Sapi_Kind) => ((if (decide (s1077.1 < ((t34).Kinds.length : Int))) = true then (idx (t34).Kinds s1077.1).bind fun t49 => (flaw10_renamed (t49).Name).bind fun t53 => (tailrec (fun (s1242 : Int × List Sapi_Field) => ((idx (t34).Kinds s1077.1).bind fun t60 => (if (decide (s1242.1 < ((t60).Fields.length : Int))) = true then (idx (t34).Kinds s1077.1).bind fun t70 => (idx (t70).Fields s1242.1).bind fun t74 => (flaw10_renamed (t74).Name).bind fun t78 => (flaw10_renamed (t74).Of).bind fun t82 => (flaw10_renamed (t74).Up).bind fun t86 => (rm (s1242.2.length + [(Sapi_Field.mk t78 t82 t86 (t74).Kind (t74).Lo (t74).Hi (t74).Words (t74).Weights)].length)).bind fun _ => (some (.inl ((IntKind.i64.wrap (s1242.1 + (1:Int))),(s1242.2 ++ [(Sapi_Field.mk t78 t82 t86 (t74).Kind (t74).Lo (t74).Hi (t74).Words (t74).Weights)])))) else (some (.inr s1242.2))) : Option ((Int × List Sapi_Field) ⊕ ((List Sapi_Field))))) ((0:Int),([] : List Sapi_Field))).bind fun (p1263 : (List Sapi_Field)) => (rm (s1077.2.length + [(Sapi_Kind.mk t53 (t49).Lo (t49).Hi p1263)].length)).bind fun _ => (some (.inl ((IntKind.i64.wrap (s1077.1 + (1:Int))),(s1077.2 ++ [(Sapi_Kind.mk t53 (t49).Lo (t49).Hi p1263)])))) else (some (.inr s1077.2))) : Option ((Int × List Sapi_Kind) ⊕ ((List Sapi_Kind))))) ((0:Int),([] : List Sapi_Kind))).bind fun (p1168 : (List Sapi_Kind)) => (tailrec (fun (s1172 : Int × List Sapi_Life) => ((if (decide (s1172.1 < ((t34).Lives.length : Int))) = true then (idx (t34).Lives s1172.1).bind fun t110 => (flaw10_renamed (t110).Name).bind fun t114 => (rm (s1172.2.length + [(Sapi_Life.mk t114 (t110).States (t110).Moves)].length)).bind fun _ => (some (.inl ((IntKind.i64.wrap (s1172.1 + (1:Int))),(s1172.2 ++ [(Sapi_Life.mk t114 (t110).States (t110).Moves)])))) else (some (.inr s1172.2))) : Option ((Int × List Sapi_Life) ⊕ ((List Sapi_Life))))) ((0:Int),([] : List Sapi_Life))).bind fun (p1189 : (List Sapi_Life)) => (tailrec (fun (s1193 : Int × List Sapi_Rule) => ((if (decide (s1193.1 < ((t34).Rules.length : Int))) = true then (idx (t34).Rules s1193.1).bind fun t132 => (flaw10_renamed (t132).Name).bind fun t138 => (flaw10_renamed (t132).Kind).bind fun t141 => (flaw10_renamed (t132).A).bind fun t144 => (flaw10_renamed (t132).B).bind fun t147 => (rm (s1193.2.length + [(Sapi_Rule.mk t138 t141 t144 t147 (t132).N)].length)).bind fun _ => (some (.inl ((IntKind.i64.wrap (s1193.1 + (1:Int))),(s1193.2 ++ [(Sapi_Rule.mk t138 t141 t144 t147 (t132).N)])))) else (some (.inr s1193.2))) : Option ((Int × List Sapi_Rule) ⊕ ((List Sapi_Rule))))) ((0:Int),([] : List Sapi_Rule))).bind fun (p1208 : (List Sapi_Rule)) => (fschema_Valid t34).bind fun t155 => (opt ((t155 != (0:Int)) == false) (fschema_Valid (Sapi_Schema.mk (t34).Version p1168 p1189 p1208)) default).bind fun t159 => (if ((t155 != (0:Int)) || (t159 != (0:Int))) = true then (j1067 ()) else (ftyping_Check t34).bind fun t163 => (flaw10_plain t163).bind fun t164 => (ftyping_Check (Sapi_Schema.mk (t34).Version p1168 p1189 p1208)).bind fun t166 => (flaw10_plain t166).bind fun t167 => (fref10_Same t164 t167).bind fun t168 => (if (!t168) = true then (some (.inr (.inr false))) else (j1067 ())))) else (some (.inr (.inl ())))) : Option ((Int) ⊕ ((Unit) ⊕ (Bool))))) (0:Int)).bind fun (e6 : (Unit) ⊕ (Bool)) => (match e6 with | .inl _ => (flaw10_lives).bind fun t170 => (some t170) | .inr p852 => (some p852))
set_option maxRecDepth 100000 in
set_option maxHeartbeats 4000000 in
theorem law10_TypingRenamed_ok {l_ : (List Int)} {at_ : Int} {how_ : Int} {by_ : Int} {r : Bool} (h : flaw10_TypingRenamed l_ at_ how_ by_ = some r) : FnOk Tryd.prog 3 [tsl rI l_,ti at_,ti how_,ti by_] [glo] (fun _ => []) (fun _ => tb r) := by
 unfold flaw10_TypingRenamed at h
 refine FnOk.enter Tryd.func3 rfl Tryd.ntmps3 (leb rfl) (fun M0 M w0 a hpl hst => ?_)
 replace hst : St M w0 171 [(0,tsl rI l_),(1,ti at_),(2,ti how_),(3,ti by_)] [glo] a w0 := hst
 refine sr mixed [] hst (fun _ => .o (op_assign .k) <| .n) fun n0 a w hst => ?_
 replace hst := hst.to [1,2,3,4] [_,_,_,_] [_] rfl rfl
 obtain ⟨t25,ht25,h⟩ := bind_some h
 refine sr mixed [] hst (fun _ => .q 0 rfl <| .q 2 rfl <| .q 4 rfl <| .q 6 rfl <| .o (op_callF call6 (law10_some_ok ht25) (.cons (.of z3) <| .cons (.of z2) <| .cons (.of z1) <| .cons (.of z0) <| .nil)) <| .o (op_assign z0) <| .n) fun n1 a w hst => ?_
 replace hst := hst.to [5] [_] [_] rfl rfl
 refine wp_seq_k (fun K3 hK3 => ?_)
 refine sr mixed [] hst (fun _ => .o (op_assign .k) <| .n) fun n2 a w hst => ?_
 replace hst := hst.to [0,1] [_,_] [_] rfl rfl
 obtain ⟨e6,he6,h⟩ := bind_some h
 have hJp851 : ∀ (p851 : Unit) a w,(.inl p851) = e6 → St M w0 171 [] [glo] a w → K3 a w := by
  intro p851 a w he hst
  subst he
  simp only at h
  refine hK3 _ _ ?_
  try clear hK3 K3
  obtain ⟨t170,ht170,h⟩ := bind_some h
  refine sr mixed [] hst (fun _ => .u [0] rfl rfl ((op_callF call12 (law10_lives_ok ht170) (.nil)).glo) <| .o (op_assign z0) <| .n) fun n36 a w hst => ?_
  replace hst := hst.to [1] [_] [_] rfl rfl
  refine wp_ret ?_
  obtain rfl := sj h
  exact ret_st undef [] hpl hst rfl (.tmp z0 .nil) rfl rfl rfl
 have hJp852 : ∀ (p852 : Bool) a w,(.inr p852) = e6 → St M w0 171 [(8,tb p852)] [glo] a w → Ret Tryd.prog Tryd.f3 M0 [glo] w0 (fun _ => []) (fun _ => tb r) .ret a w := by
  intro p852 a w he hst
  subst he
  simp only at h
  obtain rfl := sj h
  exact ret_st undef [] hpl hst rfl (.tmp z0 .nil) rfl rfl rfl
 refine wp_block ?_
 refine wp_loopK _ (fun (s5 : Int) a w => St M w0 171 [(10,ti s5),(9,tsl rSapi_Schema t25)] [glo] a w) _ _ he6 (hst.pick [0,1]) ?_
 clear h
 intro s5 o a w K854 hI h ho hK854
 have hst := hI
 clear hI
 refine wp_seq_k (fun K855 hK855 => ?_)
 refine sr mixed [] hst (fun _ => .q 0 rfl <| .q 2 rfl <| .o (op_len Tryd.underlying23 z0) <| .o (op_lss z2 z0) <| .n) fun n3 a w hst => ?_
 replace hst := hst.to [3,4,5] [_,_,_] [_] rfl rfl
 refine wt hst (fun b1276 => ?_) (fun b1276 => ?_)
 ·replace h := ite_t b1276 h
  refine wp_skip ?_
  refine hK855 _ _ ?_
  try clear hK855 K855
  refine wp_seq_k (fun K857 hK857 => ?_)
  obtain ⟨j1067,hj1067,h⟩ := jn_elim h
  have hJp858 : ∀ (p858 : Unit) a w,j1067 p858 = some o → St M w0 171 [(10,ti s5),(9,tsl rSapi_Schema t25)] [glo] a w → K857 a w := by
   intro p858 a w h hst
   rw [hj1067] at h
   clear hj1067
   refine hK857 _ _ ?_
   try clear hK857 K857
   refine wr mixed [] hst (fun _ => .q 0 rfl <| .o (op_add z0 .k) <| .o (op_assign z0) <| .n) fun n4 a w hst => ?_
   replace hst := hst.to [2,3] [_,_] [_] rfl rfl
   exact hK854 _ _ _ (sj h).symm (hst.pick [0,1])
  clear hj1067
  refine wp_block ?_
  obtain ⟨t34,ht34,h⟩ := bind_some h
  refine sr mixed [v1 4 (fun v0 => box (rSapi_Schema.cs zz4) v0),v1 4 (fun v0 => box (rSapi_Schema.cs t34) v0)] hst (fun _ => .q 2 rfl <| .q 2 rfl <| .o (op_index Tryd.underlying23 tok29 z1 z0 ht34) <| .o (op_load tok29 z0) <| .m [] [1] rfl rfl rfl (op_alloc (R := rSapi_Schema) (a := zz4) tok29 zok29) <| .e [] [1] [2] rfl rfl rfl rfl (op_storeB (R := rSapi_Schema) (a := t34) tok29 z0 z1 (leb rfl)) <| .n) fun n5 a w hst => ?_
  replace hst : St _ _ _ [_,_,_] [_] _ _ := ((((hst.pick [4,6,7]).selA [1,0] rfl).shareB 0 rfl).add 0 rfl (fun _ _ _ h => h.2)).pick [0,3,4]
  refine sr mixed [v1 3 (fun v0 => box (rSapi_Schema.cs zz4) v0),v1 3 (fun v0 => box ([ti (t34).Version,tvs nilV,tvs nilV,tvs nilV]) v0)] hst (fun _ => .o (op_field fld29_0 z0) <| .o (op_loadT (R := rI) (u := (t34).Version) tok3 z0 rfl) <| .p (T := tagg ([ti (t34).Version,tvs nilV,tvs nilV,tvs nilV])) rfl (op_build ud29 pl29 zv29 (zagg29_1_2_3).1 (.cons (R := rI) (u := (t34).Version) rfl z0 (leb rfl) <| .nil _)) <| .m [] [1] rfl rfl rfl (op_alloc (R := rSapi_Schema) (a := zz4) tok29 zok29) <| .e [] [1] [2] rfl rfl rfl rfl (op_storeB (R := (rAgg ([ti (t34).Version,tvs nilV,tvs nilV,tvs nilV]) (one_cons (one_tv rfl) (one_cons one_tvs (one_cons one_tvs (one_cons one_tvs one_nil)))))) (a := ()) (tokA tok29 (one_cons (one_tv rfl) (one_cons one_tvs (one_cons one_tvs (one_cons one_tvs one_nil)))) rfl rfl) z0 z1 (leb rfl)) <| .n) fun n6 a w hst => ?_
  replace hst : St _ _ _ [_,_,_,_] [_,_,_,_,_] _ _ := (((hst.pick [3,4,5,6]).nil (rSapi_Kind) 32).nil (rSapi_Life) 39).nil (rSapi_Rule) 41
  refine wp_seq_k (fun K1075 hK1075 => ?_)
  refine sr mixed [] hst (fun _ => .o (op_assign .k) <| .n) fun n7 a w hst => ?_
  replace hst := hst.to [0,1,2,3,4] [_,_,_,_,_] [_,_,_,_,_] rfl rfl
  obtain ⟨e1078,he1078,h⟩ := bind_some h
  have hJp1168 : ∀ (p1168 : List Sapi_Kind) (v1169 : Value) a w,p1168 = e1078 → St M w0 171 [(12,tv (n6 3)),(11,tptr (rSapi_Schema.cs t34)),(10,ti s5),(9,tsl rSapi_Schema t25)] [own rSapi_Rule 41 ([] : List Sapi_Rule) nilV,own rSapi_Life 39 ([] : List Sapi_Life) nilV,own rSapi_Kind 32 p1168 v1169,glo,box ([ti (t34).Version,tvs v1169,tvs nilV,tvs nilV]) (n6 3)] a w → K1075 a w := by
   intro p1168 v1169 a w he hst
   subst he
   refine hK1075 _ _ ?_
   try clear hK1075 K1075
   refine wp_seq_k (fun K1170 hK1170 => ?_)
   refine sr mixed [] hst (fun _ => .o (op_assign .k) <| .n) fun n22 a w hst => ?_
   replace hst := hst.to [0,1,2,3,4] [_,_,_,_,_] [_,_,_,_,_] rfl rfl
   obtain ⟨e1173,he1173,h⟩ := bind_some h
   have hJp1189 : ∀ (p1189 : List Sapi_Life) (v1190 : Value) a w,p1189 = e1173 → St M w0 171 [(12,tv (n6 3)),(11,tptr (rSapi_Schema.cs t34)),(10,ti s5),(9,tsl rSapi_Schema t25)] [own rSapi_Rule 41 ([] : List Sapi_Rule) nilV,own rSapi_Life 39 p1189 v1190,own rSapi_Kind 32 p1168 v1169,glo,box ([ti (t34).Version,tvs v1169,tvs v1190,tvs nilV]) (n6 3)] a w → K1170 a w := by
    intro p1189 v1190 a w he hst
    subst he
    refine hK1170 _ _ ?_
    try clear hK1170 K1170
    refine wp_seq_k (fun K1191 hK1191 => ?_)
    refine sr mixed [] hst (fun _ => .o (op_assign .k) <| .n) fun n28 a w hst => ?_
    replace hst := hst.to [0,1,2,3,4] [_,_,_,_,_] [_,_,_,_,_] rfl rfl
    obtain ⟨e1194,he1194,h⟩ := bind_some h
    have hJp1208 : ∀ (p1208 : List Sapi_Rule) (v1209 : Value) a w,p1208 = e1194 → St M w0 171 [(12,tv (n6 3)),(11,tptr (rSapi_Schema.cs t34)),(10,ti s5),(9,tsl rSapi_Schema t25)] [own rSapi_Rule 41 p1208 v1209,own rSapi_Life 39 p1189 v1190,own rSapi_Kind 32 p1168 v1169,glo,box ([ti (t34).Version,tvs v1169,tvs v1190,tvs v1209]) (n6 3)] a w → K1191 a w := by
     intro p1208 v1209 a w he hst
     subst he
     refine hK1191 _ _ ?_
     try clear hK1191 K1191
     refine wp_seq_k (fun K1210 hK1210 => ?_)
     refine wp_seq_k (fun K1211 hK1211 => ?_)
     replace hst : St _ _ _ [_,_,_,_] [_,_,_,_] _ _ := ((hst.pick [0,1,2,3]).selA [2,4,0,1,3] rfl).shareC 1 rfl
     replace hst : St _ _ _ [_,_,_,_] [_,_,_] _ _ := ((hst.pick [0,1,2,3]).selA [2,0,1,3] rfl).shareC 2 rfl
     replace hst : St _ _ _ [_,_,_,_] [_,_] _ _ := ((hst.pick [0,1,2,3]).selA [1,0,2] rfl).shareC 3 rfl
     obtain ⟨t155,ht155,h⟩ := bind_some h
     obtain ⟨t159,ht159,h⟩ := bind_some h
     refine wr mixed [] hst (fun _ => .o (op_load tok29 z1) <| .u [1] rfl rfl ((op_callF call8 (schema_Valid_ok ht155) (.cons (.of z0) <| .nil)).glo) <| .o (op_neq z0 .k) <| .q 0 rfl <| .gu [0] rfl rfl rfl (.b 0 rfl) (fun _ => op_loadB (R := rSapi_Schema) (u := (Sapi_Schema.mk (t34).Version p1168 p1189 p1208)) tok29 z4 rfl) <| .gu [1] rfl rfl rfl (.b 1 rfl) (fun hc => (op_callF call8 (schema_Valid_ok (opt_t ht159 hc)) (.cons (.of (.cond z0 hc)) <| .nil)).glo) <| .g rfl rfl (.b 2 rfl) (fun hc => op_neq (.cond z0 hc) .k) <| .o (op_or z3 (fun hp => (.cond z0 (beqF hp)))) <| .n) fun n33 a w hst => ?_
     replace hst := hst.to [7,8,9,10,11] [_,_,_,_,_] [_,_] rfl rfl
     refine hK1211 _ _ ?_
     try clear hK1211 K1211
     refine wt hst (fun b1215 => ?_) (fun b1215 => ?_)
     ·replace h := ite_t b1215 h
      refine wp_exit ?_
      exact hJp858 _ _ _ h ((hst.pick [3,4]).selA [1] rfl)
     ·replace h := ite_f b1215 h
      refine wp_skip ?_
      refine hK1210 _ _ ?_
      try clear hK1210 K1210
      obtain ⟨t163,ht163,h⟩ := bind_some h
      obtain ⟨t164,ht164,h⟩ := bind_some h
      obtain ⟨t166,ht166,h⟩ := bind_some h
      obtain ⟨t167,ht167,h⟩ := bind_some h
      obtain ⟨t168,ht168,h⟩ := bind_some h
      refine sr mixed [] hst (fun _ => .o (op_load tok29 z2) <| .u [1] rfl rfl ((op_callF call11 (typing_Check_ok ht163) (.cons (.of z0) <| .nil)).glo) <| .o (op_callF call10 (law10_plain_ok ht164) (.cons (.of z0) <| .nil)) <| .u [0] rfl rfl (op_loadB (R := rSapi_Schema) (u := (Sapi_Schema.mk (t34).Version p1168 p1189 p1208)) tok29 z4 rfl) <| .u [1] rfl rfl ((op_callF call11 (typing_Check_ok ht166) (.cons (.of z0) <| .nil)).glo) <| .o (op_callF call10 (law10_plain_ok ht167) (.cons (.of z0) <| .nil)) <| .o (op_callF call9 (ref10_Same_ok ht168) (.cons (.of z3) <| .cons (.of z0) <| .nil)) <| .o (op_not z0) <| .n) fun n34 a w hst => ?_
      replace hst : St _ _ _ [_,_,_] [_] _ _ := (hst.pick [7,11,12]).selA [1] rfl
      refine wt hst (fun b1214 => ?_) (fun b1214 => ?_)
      ·replace h := ite_t b1214 h
       refine sr mixed [] hst (fun _ => .o (op_assign .k) <| .n) fun n35 a w hst => ?_
       replace hst := hst.to [0] [_] [_] rfl rfl
       refine wp_ret ?_
       exact hJp852 _ _ _ (ho _ (sj h).symm) (hst.pick [0])
      ·replace h := ite_f b1214 h
       refine wp_skip ?_
       exact hJp858 _ _ _ h (hst.pick [1,2])
    refine wp_block ?_
    refine wp_loopK _ (fun (s1193 : Int × List Sapi_Rule) a w => ∃ v1201 : Value,St M w0 171 [(19,ti s1193.1),(12,tv (n6 3)),(11,tptr (rSapi_Schema.cs t34)),(10,ti s5),(9,tsl rSapi_Schema t25)] [own rSapi_Rule 41 s1193.2 v1201,own rSapi_Life 39 p1189 v1190,own rSapi_Kind 32 p1168 v1169,glo,box ([ti (t34).Version,tvs v1169,tvs v1190,tvs v1201]) (n6 3)] a w) _ _ he1194 ⟨nilV,hst.pick [0,1,2,3,4]⟩ ?_
    clear h
    intro s1193 o a w K1216 hI h ho hK1216
    obtain ⟨v1201,hst⟩ := hI
    refine wp_seq_k (fun K1217 hK1217 => ?_)
    refine sr mixed [] hst (fun _ => .q 0 rfl <| .o (op_field fld29_3 z3) <| .o (op_loadT (R := (rSl rSapi_Rule)) (u := (t34).Rules) tok27 z0 rfl) <| .o (op_len ud27 z0) <| .o (op_lss z3 z0) <| .n) fun n29 a w hst => ?_
    replace hst := hst.to [4,5,6,7,8,9] [_,_,_,_,_,_] [_,_,_,_,_] rfl rfl
    refine wt hst (fun b1222 => ?_) (fun b1222 => ?_)
    ·replace h := ite_t b1222 h
     refine wp_skip ?_
     refine hK1217 _ _ ?_
     try clear hK1217 K1217
     refine wp_seq_k (fun K1219 hK1219 => ?_)
     refine wp_block ?_
     obtain ⟨t132,ht132,h⟩ := bind_some h
     refine sr mixed [v1 5 (fun v0 => box (rSapi_Rule.cs zz3) v0),v1 5 (fun v0 => box (rSapi_Rule.cs t132) v0)] hst (fun _ => .o (op_field fld29_3 z3) <| .o (op_loadT (R := (rSl rSapi_Rule)) (u := (t34).Rules) tok27 z0 rfl) <| .q 3 rfl <| .o (op_index ud27 tok41 z1 z0 ht132) <| .o (op_load tok41 z0) <| .m [] [5] rfl rfl rfl (op_alloc (R := rSapi_Rule) (a := zz3) tok41 zok41) <| .e [] [5] [6] rfl rfl rfl rfl (op_storeB (R := rSapi_Rule) (a := t132) tok41 z0 z1 (leb rfl)) <| .n) fun n31 a w hst => ?_
     replace hst : St _ _ _ [_,_,_,_,_,_] [_,_,_,_,_] _ _ := ((((hst.pick [5,7,8,9,10,11]).selA [5,0,1,2,3,4] rfl).shareB 0 rfl).add 0 rfl (fun _ _ _ h => h.2)).pick [0,3,4,5,6,7]
     obtain ⟨t138,ht138,h⟩ := bind_some h
     obtain ⟨t141,ht141,h⟩ := bind_some h
     obtain ⟨t144,ht144,h⟩ := bind_some h
     obtain ⟨t147,ht147,h⟩ := bind_some h
     obtain ⟨u152,hu152,h⟩ := bind_some h
     refine wr mixed [v1 18 (fun v0 => own rSapi_Rule 41 (s1193.2 ++ [(Sapi_Rule.mk t138 t141 t144 t147 (t132).N)]) v0),v1 18 (fun v0 => box ([ti (t34).Version,tvs v1169,tvs v1190,tvs v0]) (n6 3))] hst (fun _ => .u [4] rfl rfl (op_fieldB fld29_3 z2) <| .u [4] rfl rfl (op_loadBVf (u := v1201) tokV27 z0 rfl) <| .o (op_field fld41_0 z2) <| .o (op_loadT (R := rS) (u := (t132).Name) tok9 z0 rfl) <| .o (op_callF call7 (law10_renamed_ok ht138) (.cons (.of z0) <| .nil)) <| .o (op_field fld41_1 z5) <| .o (op_loadT (R := rS) (u := (t132).Kind) tok9 z0 rfl) <| .o (op_callF call7 (law10_renamed_ok ht141) (.cons (.of z0) <| .nil)) <| .o (op_field fld41_2 z8) <| .o (op_loadT (R := rS) (u := (t132).A) tok9 z0 rfl) <| .o (op_callF call7 (law10_renamed_ok ht144) (.cons (.of z0) <| .nil)) <| .o (op_field fld41_3 z11) <| .o (op_loadT (R := rS) (u := (t132).B) tok9 z0 rfl) <| .o (op_callF call7 (law10_renamed_ok ht147) (.cons (.of z0) <| .nil)) <| .o (op_field fld41_4 z14) <| .o (op_loadT (R := rI) (u := (t132).N) tok3 z0 rfl) <| .p (T := rSapi_Rule.ty (Sapi_Rule.mk t138 t141 t144 t147 (t132).N)) rfl (op_build ud41 pl41 zv41 zc41 (.cons (R := rS) (u := t138) rfl z11 (leb rfl) <| .cons (R := rS) (u := t141) rfl z8 (leb rfl) <| .cons (R := rS) (u := t144) rfl z5 (leb rfl) <| .cons (R := rS) (u := t147) rfl z2 (leb rfl) <| .cons (R := rI) (u := (t132).N) rfl z0 (leb rfl) <| .nil _)) <| .o (op_buildSl (R := rSapi_Rule) (us := [(Sapi_Rule.mk t138 t141 t144 t147 (t132).N)]) ud27 tok41 (.cons z0 <| .nil _) rfl (leb rfl)) <| .e [] [0] [5] rfl rfl rfl rfl (op_append (R := rSapi_Rule) ud27 tok41 (leb rfl) z16 z0 hu152) <| .u [4] rfl rfl (op_fieldB fld29_3 z21) <| .e [5] [4] [6] rfl rfl rfl rfl (op_storeBVf (R := rSapi_Rule) (e := 41) (Ts := ([ti (t34).Version,tvs v1169,tvs v1190,tvs v1201])) (off := 3) tokV27 z0 z1 (leb rfl)) <| .n) fun n32 a w hst => ?_
     replace hst := hst.to [18,21,22,23,24,25] [_,_,_,_,_,_] [_,_,_,_,_] rfl rfl
     refine hK1219 _ _ ?_
     try clear hK1219 K1219
     refine wr mixed [] hst (fun _ => .q 1 rfl <| .o (op_add z0 .k) <| .o (op_assign z0) <| .n) fun n30 a w hst => ?_
     replace hst := hst.to [2,3,4,5,6,7] [_,_,_,_,_,_] [_,_,_,_,_] rfl rfl
     exact hK1216 _ _ _ (sj h).symm ⟨(n32 18),(hst.pick [0,2,3,4,5]).selA [3,0,1,2,4] rfl⟩
    ·replace h := ite_f b1222 h
     refine wp_exit ?_
     exact hJp1208 _ v1201 _ _ (ho _ (sj h).symm) (hst.pick [2,3,4,5])
   refine wp_block ?_
   refine wp_loopK _ (fun (s1172 : Int × List Sapi_Life) a w => ∃ v1181 : Value,St M w0 171 [(17,ti s1172.1),(12,tv (n6 3)),(11,tptr (rSapi_Schema.cs t34)),(10,ti s5),(9,tsl rSapi_Schema t25)] [own rSapi_Rule 41 ([] : List Sapi_Rule) nilV,own rSapi_Life 39 s1172.2 v1181,own rSapi_Kind 32 p1168 v1169,glo,box ([ti (t34).Version,tvs v1169,tvs v1181,tvs nilV]) (n6 3)] a w) _ _ he1173 ⟨nilV,hst.pick [0,1,2,3,4]⟩ ?_
   clear h
   intro s1172 o a w K1223 hI h ho hK1223
   obtain ⟨v1181,hst⟩ := hI
   refine wp_seq_k (fun K1224 hK1224 => ?_)
   refine sr mixed [] hst (fun _ => .q 0 rfl <| .o (op_field fld29_2 z3) <| .o (op_loadT (R := (rSl rSapi_Life)) (u := (t34).Lives) tok26 z0 rfl) <| .o (op_len ud26 z0) <| .o (op_lss z3 z0) <| .n) fun n23 a w hst => ?_
   replace hst := hst.to [4,5,6,7,8,9] [_,_,_,_,_,_] [_,_,_,_,_] rfl rfl
   refine wt hst (fun b1230 => ?_) (fun b1230 => ?_)
   ·replace h := ite_t b1230 h
    refine wp_skip ?_
    refine hK1224 _ _ ?_
    try clear hK1224 K1224
    refine wp_seq_k (fun K1226 hK1226 => ?_)
    refine wp_block ?_
    obtain ⟨t110,ht110,h⟩ := bind_some h
    refine sr mixed [v1 5 (fun v0 => box (rSapi_Life.cs zz2) v0),v1 5 (fun v0 => box (rSapi_Life.cs t110) v0)] hst (fun _ => .o (op_field fld29_2 z3) <| .o (op_loadT (R := (rSl rSapi_Life)) (u := (t34).Lives) tok26 z0 rfl) <| .q 3 rfl <| .o (op_index ud26 tok39 z1 z0 ht110) <| .o (op_load tok39 z0) <| .m [] [5] rfl rfl rfl (op_alloc (R := rSapi_Life) (a := zz2) tok39 zok39) <| .e [] [5] [6] rfl rfl rfl rfl (op_storeB (R := rSapi_Life) (a := t110) tok39 z0 z1 (leb rfl)) <| .n) fun n25 a w hst => ?_
    replace hst := hst.to [5,7,8,9,10,11] [_,_,_,_,_,_] [_,_,_,_,_,_] rfl rfl
    obtain ⟨t114,ht114,h⟩ := bind_some h
    refine sr mixed [v0 (box (rSapi_Life.cs (Sapi_Life.mk t114 (t110).States (t110).Moves)) (n25 5))] hst (fun _ => .u [5] rfl rfl (op_fieldB fld39_0 z0) <| .u [5] rfl rfl (op_loadBf (R := rS) (u := (t110).Name) tok9 z0 rfl) <| .o (op_callF call7 (law10_renamed_ok ht114) (.cons (.of z0) <| .nil)) <| .u [5] rfl rfl (op_fieldB fld39_0 z3) <| .e [] [5] [6] rfl rfl rfl rfl (op_storeBf (R := rS) (a := t114) (Ts := (rSapi_Life.cs t110)) (off := 0) tok9 z0 z1 (leb rfl)) <| .n) fun n26 a w hst => ?_
    replace hst := hst.to [4,5,6,7,8,9] [_,_,_,_,_,_] [_,_,_,_,_,_] rfl rfl
    obtain ⟨u120,hu120,h⟩ := bind_some h
    refine wr mixed [v1 4 (fun v0 => own rSapi_Life 39 (s1172.2 ++ [(Sapi_Life.mk t114 (t110).States (t110).Moves)]) v0),v1 4 (fun v0 => box ([ti (t34).Version,tvs v1169,tvs v0,tvs nilV]) (n6 3))] hst (fun _ => .u [4] rfl rfl (op_fieldB fld29_2 z2) <| .u [4] rfl rfl (op_loadBVf (u := v1181) tokV26 z0 rfl) <| .u [5] rfl rfl (op_loadB (R := rSapi_Life) (u := (Sapi_Life.mk t114 (t110).States (t110).Moves)) tok39 z2 rfl) <| .o (op_buildSl (R := rSapi_Life) (us := [(Sapi_Life.mk t114 (t110).States (t110).Moves)]) ud26 tok39 (.cons z0 <| .nil _) rfl (leb rfl)) <| .e [] [1] [6] rfl rfl rfl rfl (op_append (R := rSapi_Life) ud26 tok39 (leb rfl) z2 z0 hu120) <| .u [4] rfl rfl (op_fieldB fld29_2 z7) <| .e [6] [4] [7] rfl rfl rfl rfl (op_storeBVf (R := rSapi_Life) (e := 39) (Ts := ([ti (t34).Version,tvs v1169,tvs v1181,tvs nilV])) (off := 2) tokV26 z0 z1 (leb rfl)) <| .n) fun n27 a w hst => ?_
    replace hst : St _ _ _ [_,_,_,_,_,_] [_,_,_,_,_] _ _ := (hst.pick [4,7,8,9,10,11]).selA [0,1,2,4,5] rfl
    refine hK1226 _ _ ?_
    try clear hK1226 K1226
    refine wr mixed [] hst (fun _ => .q 1 rfl <| .o (op_add z0 .k) <| .o (op_assign z0) <| .n) fun n24 a w hst => ?_
    replace hst := hst.to [2,3,4,5,6,7] [_,_,_,_,_,_] [_,_,_,_,_] rfl rfl
    exact hK1223 _ _ _ (sj h).symm ⟨(n27 4),(hst.pick [0,2,3,4,5]).selA [0,3,1,2,4] rfl⟩
   ·replace h := ite_f b1230 h
    refine wp_exit ?_
    exact hJp1189 _ v1181 _ _ (ho _ (sj h).symm) (hst.pick [2,3,4,5])
  refine wp_block ?_
  refine wp_loopK _ (fun (s1077 : Int × List Sapi_Kind) a w => ∃ v1123 : Value,St M w0 171 [(13,ti s1077.1),(12,tv (n6 3)),(11,tptr (rSapi_Schema.cs t34)),(10,ti s5),(9,tsl rSapi_Schema t25)] [own rSapi_Rule 41 ([] : List Sapi_Rule) nilV,own rSapi_Life 39 ([] : List Sapi_Life) nilV,own rSapi_Kind 32 s1077.2 v1123,glo,box ([ti (t34).Version,tvs v1123,tvs nilV,tvs nilV]) (n6 3)] a w) _ _ he1078 ⟨nilV,hst.pick [0,1,2,3,4]⟩ ?_
  clear h
  intro s1077 o a w K1231 hI h ho hK1231
  obtain ⟨v1123,hst⟩ := hI
  refine wp_seq_k (fun K1232 hK1232 => ?_)
  refine sr mixed [] hst (fun _ => .q 0 rfl <| .o (op_field fld29_1 z3) <| .o (op_loadT (R := (rSl rSapi_Kind)) (u := (t34).Kinds) tok25 z0 rfl) <| .o (op_len ud25 z0) <| .o (op_lss z3 z0) <| .n) fun n8 a w hst => ?_
  replace hst := hst.to [4,5,6,7,8,9] [_,_,_,_,_,_] [_,_,_,_,_] rfl rfl
  refine wt hst (fun b1275 => ?_) (fun b1275 => ?_)
  ·replace h := ite_t b1275 h
   refine wp_skip ?_
   refine hK1232 _ _ ?_
   try clear hK1232 K1232
   refine wp_seq_k (fun K1234 hK1234 => ?_)
   refine wp_block ?_
   obtain ⟨t49,ht49,h⟩ := bind_some h
   refine sr mixed [v1 5 (fun v0 => box (rSapi_Kind.cs zz1) v0),v1 5 (fun v0 => box (rSapi_Kind.cs t49) v0)] hst (fun _ => .o (op_field fld29_1 z3) <| .o (op_loadT (R := (rSl rSapi_Kind)) (u := (t34).Kinds) tok25 z0 rfl) <| .q 3 rfl <| .o (op_index ud25 tok32 z1 z0 ht49) <| .o (op_load tok32 z0) <| .m [] [5] rfl rfl rfl (op_alloc (R := rSapi_Kind) (a := zz1) tok32 zok32) <| .e [] [5] [6] rfl rfl rfl rfl (op_storeB (R := rSapi_Kind) (a := t49) tok32 z0 z1 (leb rfl)) <| .n) fun n10 a w hst => ?_
   replace hst := hst.to [5,7,8,9,10,11] [_,_,_,_,_,_] [_,_,_,_,_,_] rfl rfl
   obtain ⟨t53,ht53,h⟩ := bind_some h
   refine sr mixed [v0 (box (rSapi_Kind.cs (Sapi_Kind.mk t53 (t49).Lo (t49).Hi (t49).Fields)) (n10 5))] hst (fun _ => .u [5] rfl rfl (op_fieldB fld32_0 z0) <| .u [5] rfl rfl (op_loadBf (R := rS) (u := (t49).Name) tok9 z0 rfl) <| .o (op_callF call7 (law10_renamed_ok ht53) (.cons (.of z0) <| .nil)) <| .u [5] rfl rfl (op_fieldB fld32_0 z3) <| .e [] [5] [6] rfl rfl rfl rfl (op_storeBf (R := rS) (a := t53) (Ts := (rSapi_Kind.cs t49)) (off := 0) tok9 z0 z1 (leb rfl)) <| .n) fun n11 a w hst => ?_
   replace hst := hst.to [4,5,6,7,8,9] [_,_,_,_,_,_] [_,_,_,_,_,_] rfl rfl
   refine sr mixed [v0 (box ([tv (.string (sB t53)),ti (t49).Lo,ti (t49).Hi,tvs nilV]) (n10 5))] hst (fun _ => .u [5] rfl rfl (op_fieldB fld32_3 z0) <| .e [] [5] [6] rfl rfl rfl rfl (op_storeBf (R := rVal) (a := nilV) (Ts := (rSapi_Kind.cs (Sapi_Kind.mk t53 (t49).Lo (t49).Hi (t49).Fields))) (off := 3) tokV30 z0 .nilV (leb rfl)) <| .n) fun n12 a w hst => ?_
   replace hst : St _ _ _ [_,_,_,_,_,_] [_,_,_,_,_,_,_] _ _ := (hst.pick [1,2,3,4,5,6]).nil (rSapi_Field) 36
   refine wp_seq_k (fun K1240 hK1240 => ?_)
   refine sr mixed [] hst (fun _ => .o (op_assign .k) <| .n) fun n13 a w hst => ?_
   replace hst := hst.to [0,1,2,3,4,5,6] [_,_,_,_,_,_,_] [_,_,_,_,_,_,_] rfl rfl
   obtain ⟨e1243,he1243,h⟩ := bind_some h
   have hJp1263 : ∀ (p1263 : List Sapi_Field) (v1264 : Value) a w,p1263 = e1243 → St M w0 171 [(14,tv (n10 5)),(13,ti s1077.1),(12,tv (n6 3)),(11,tptr (rSapi_Schema.cs t34)),(10,ti s5),(9,tsl rSapi_Schema t25)] [own rSapi_Field 36 p1263 v1264,own rSapi_Rule 41 ([] : List Sapi_Rule) nilV,own rSapi_Life 39 ([] : List Sapi_Life) nilV,own rSapi_Kind 32 s1077.2 v1123,glo,box ([ti (t34).Version,tvs v1123,tvs nilV,tvs nilV]) (n6 3),box ([tv (.string (sB t53)),ti (t49).Lo,ti (t49).Hi,tvs v1264]) (n10 5)] a w → K1240 a w := by
    intro p1263 v1264 a w he hst
    subst he
    refine hK1240 _ _ ?_
    try clear hK1240 K1240
    replace hst : St _ _ _ [_,_,_,_,_,_] [_,_,_,_,_,_] _ _ := ((hst.pick [0,1,2,3,4,5]).selA [0,6,1,2,3,4,5] rfl).shareC 3 rfl
    obtain ⟨u98,hu98,h⟩ := bind_some h
    refine wr mixed [v1 4 (fun v0 => own rSapi_Kind 32 (s1077.2 ++ [(Sapi_Kind.mk t53 (t49).Lo (t49).Hi p1263)]) v0),v1 4 (fun v0 => box ([ti (t34).Version,tvs v0,tvs nilV,tvs nilV]) (n6 3))] hst (fun _ => .u [5] rfl rfl (op_fieldB fld29_1 z2) <| .u [5] rfl rfl (op_loadBVf (u := v1123) tokV25 z0 rfl) <| .u [0] rfl rfl (op_loadB (R := rSapi_Kind) (u := (Sapi_Kind.mk t53 (t49).Lo (t49).Hi p1263)) tok32 z2 rfl) <| .o (op_buildSl (R := rSapi_Kind) (us := [(Sapi_Kind.mk t53 (t49).Lo (t49).Hi p1263)]) ud25 tok32 (.cons z0 <| .nil _) rfl (leb rfl)) <| .e [] [3] [6] rfl rfl rfl rfl (op_append (R := rSapi_Kind) ud25 tok32 (leb rfl) z2 z0 hu98) <| .u [5] rfl rfl (op_fieldB fld29_1 z7) <| .e [6] [5] [7] rfl rfl rfl rfl (op_storeBVf (R := rSapi_Kind) (e := 32) (Ts := ([ti (t34).Version,tvs v1123,tvs nilV,tvs nilV])) (off := 1) tokV25 z0 z1 (leb rfl)) <| .n) fun n21 a w hst => ?_
    replace hst : St _ _ _ [_,_,_,_,_,_] [_,_,_,_,_] _ _ := (hst.pick [4,7,8,9,10,11]).selA [1,2,3,4,5] rfl
    refine hK1234 _ _ ?_
    try clear hK1234 K1234
    refine wr mixed [] hst (fun _ => .q 1 rfl <| .o (op_add z0 .k) <| .o (op_assign z0) <| .n) fun n9 a w hst => ?_
    replace hst := hst.to [2,3,4,5,6,7] [_,_,_,_,_,_] [_,_,_,_,_] rfl rfl
    exact hK1231 _ _ _ (sj h).symm ⟨(n21 4),(hst.pick [0,2,3,4,5]).selA [0,1,3,2,4] rfl⟩
   refine wp_block ?_
   refine wp_loopK _ (fun (s1242 : Int × List Sapi_Field) a w => ∃ v1253 : Value,St M w0 171 [(15,ti s1242.1),(14,tv (n10 5)),(13,ti s1077.1),(12,tv (n6 3)),(11,tptr (rSapi_Schema.cs t34)),(10,ti s5),(9,tsl rSapi_Schema t25)] [own rSapi_Field 36 s1242.2 v1253,own rSapi_Rule 41 ([] : List Sapi_Rule) nilV,own rSapi_Life 39 ([] : List Sapi_Life) nilV,own rSapi_Kind 32 s1077.2 v1123,glo,box ([ti (t34).Version,tvs v1123,tvs nilV,tvs nilV]) (n6 3),box ([tv (.string (sB t53)),ti (t49).Lo,ti (t49).Hi,tvs v1253]) (n10 5)] a w) _ _ he1243 ⟨nilV,hst.pick [0,1,2,3,4,5,6]⟩ ?_
   clear h
   intro s1242 o a w K1265 hI h ho hK1265
   obtain ⟨v1253,hst⟩ := hI
   refine wp_seq_k (fun K1266 hK1266 => ?_)
   obtain ⟨t60,ht60,h⟩ := bind_some h
   refine sr mixed [] hst (fun _ => .q 0 rfl <| .o (op_field fld29_1 z5) <| .o (op_loadT (R := (rSl rSapi_Kind)) (u := (t34).Kinds) tok25 z0 rfl) <| .q 5 rfl <| .o (op_index ud25 tok32 z1 z0 ht60) <| .o (op_field fld32_3 z0) <| .o (op_loadT (R := (rSl rSapi_Field)) (u := (t60).Fields) tok30 z0 rfl) <| .o (op_len ud30 z0) <| .o (op_lss z7 z0) <| .n) fun n14 a w hst => ?_
   replace hst := hst.to [8,9,10,11,12,13,14,15] [_,_,_,_,_,_,_,_] [_,_,_,_,_,_,_] rfl rfl
   refine wt hst (fun b1274 => ?_) (fun b1274 => ?_)
   ·replace h := ite_t b1274 h
    refine wp_skip ?_
    refine hK1266 _ _ ?_
    try clear hK1266 K1266
    refine wp_seq_k (fun K1268 hK1268 => ?_)
    refine wp_block ?_
    obtain ⟨t70,ht70,h⟩ := bind_some h
    obtain ⟨t74,ht74,h⟩ := bind_some h
    refine sr mixed [v1 9 (fun v0 => box (rSapi_Field.cs zz0) v0),v1 9 (fun v0 => box (rSapi_Field.cs t74) v0)] hst (fun _ => .o (op_field fld29_1 z5) <| .o (op_loadT (R := (rSl rSapi_Kind)) (u := (t34).Kinds) tok25 z0 rfl) <| .q 5 rfl <| .o (op_index ud25 tok32 z1 z0 ht70) <| .o (op_field fld32_3 z0) <| .o (op_loadT (R := (rSl rSapi_Field)) (u := (t70).Fields) tok30 z0 rfl) <| .q 7 rfl <| .o (op_index ud30 tok36 z1 z0 ht74) <| .o (op_load tok36 z0) <| .m [] [7] rfl rfl rfl (op_alloc (R := rSapi_Field) (a := zz0) tok36 zok36) <| .e [] [7] [8] rfl rfl rfl rfl (op_storeB (R := rSapi_Field) (a := t74) tok36 z0 z1 (leb rfl)) <| .n) fun n16 a w hst => ?_
    replace hst := hst.to [9,11,12,13,14,15,16,17] [_,_,_,_,_,_,_,_] [_,_,_,_,_,_,_,_] rfl rfl
    obtain ⟨t78,ht78,h⟩ := bind_some h
    refine sr mixed [v0 (box (rSapi_Field.cs (Sapi_Field.mk t78 (t74).Of (t74).Up (t74).Kind (t74).Lo (t74).Hi (t74).Words (t74).Weights)) (n16 9))] hst (fun _ => .u [7] rfl rfl (op_fieldB fld36_0 z0) <| .u [7] rfl rfl (op_loadBf (R := rS) (u := (t74).Name) tok9 z0 rfl) <| .o (op_callF call7 (law10_renamed_ok ht78) (.cons (.of z0) <| .nil)) <| .u [7] rfl rfl (op_fieldB fld36_0 z3) <| .e [] [7] [8] rfl rfl rfl rfl (op_storeBf (R := rS) (a := t78) (Ts := (rSapi_Field.cs t74)) (off := 0) tok9 z0 z1 (leb rfl)) <| .n) fun n17 a w hst => ?_
    replace hst := hst.to [4,5,6,7,8,9,10,11] [_,_,_,_,_,_,_,_] [_,_,_,_,_,_,_,_] rfl rfl
    obtain ⟨t82,ht82,h⟩ := bind_some h
    refine sr mixed [v0 (box (rSapi_Field.cs (Sapi_Field.mk t78 t82 (t74).Up (t74).Kind (t74).Lo (t74).Hi (t74).Words (t74).Weights)) (n16 9))] hst (fun _ => .u [7] rfl rfl (op_fieldB fld36_1 z0) <| .u [7] rfl rfl (op_loadBf (R := rS) (u := (t74).Of) tok9 z0 rfl) <| .o (op_callF call7 (law10_renamed_ok ht82) (.cons (.of z0) <| .nil)) <| .u [7] rfl rfl (op_fieldB fld36_1 z3) <| .e [] [7] [8] rfl rfl rfl rfl (op_storeBf (R := rS) (a := t82) (Ts := (rSapi_Field.cs (Sapi_Field.mk t78 (t74).Of (t74).Up (t74).Kind (t74).Lo (t74).Hi (t74).Words (t74).Weights))) (off := 1) tok9 z0 z1 (leb rfl)) <| .n) fun n18 a w hst => ?_
    replace hst := hst.to [4,5,6,7,8,9,10,11] [_,_,_,_,_,_,_,_] [_,_,_,_,_,_,_,_] rfl rfl
    obtain ⟨t86,ht86,h⟩ := bind_some h
    refine sr mixed [v0 (box (rSapi_Field.cs (Sapi_Field.mk t78 t82 t86 (t74).Kind (t74).Lo (t74).Hi (t74).Words (t74).Weights)) (n16 9))] hst (fun _ => .u [7] rfl rfl (op_fieldB fld36_2 z0) <| .u [7] rfl rfl (op_loadBf (R := rS) (u := (t74).Up) tok9 z0 rfl) <| .o (op_callF call7 (law10_renamed_ok ht86) (.cons (.of z0) <| .nil)) <| .u [7] rfl rfl (op_fieldB fld36_2 z3) <| .e [] [7] [8] rfl rfl rfl rfl (op_storeBf (R := rS) (a := t86) (Ts := (rSapi_Field.cs (Sapi_Field.mk t78 t82 (t74).Up (t74).Kind (t74).Lo (t74).Hi (t74).Words (t74).Weights))) (off := 2) tok9 z0 z1 (leb rfl)) <| .n) fun n19 a w hst => ?_
    replace hst := hst.to [4,5,6,7,8,9,10,11] [_,_,_,_,_,_,_,_] [_,_,_,_,_,_,_,_] rfl rfl
    obtain ⟨u92,hu92,h⟩ := bind_some h
    refine wr mixed [v1 4 (fun v0 => own rSapi_Field 36 (s1242.2 ++ [(Sapi_Field.mk t78 t82 t86 (t74).Kind (t74).Lo (t74).Hi (t74).Words (t74).Weights)]) v0),v1 4 (fun v0 => box ([tv (.string (sB t53)),ti (t49).Lo,ti (t49).Hi,tvs v0]) (n10 5))] hst (fun _ => .u [6] rfl rfl (op_fieldB fld32_3 z2) <| .u [6] rfl rfl (op_loadBVf (u := v1253) tokV30 z0 rfl) <| .u [7] rfl rfl (op_loadB (R := rSapi_Field) (u := (Sapi_Field.mk t78 t82 t86 (t74).Kind (t74).Lo (t74).Hi (t74).Words (t74).Weights)) tok36 z2 rfl) <| .o (op_buildSl (R := rSapi_Field) (us := [(Sapi_Field.mk t78 t82 t86 (t74).Kind (t74).Lo (t74).Hi (t74).Words (t74).Weights)]) ud30 tok36 (.cons z0 <| .nil _) rfl (leb rfl)) <| .e [] [0] [8] rfl rfl rfl rfl (op_append (R := rSapi_Field) ud30 tok36 (leb rfl) z2 z0 hu92) <| .u [6] rfl rfl (op_fieldB fld32_3 z7) <| .e [8] [6] [9] rfl rfl rfl rfl (op_storeBVf (R := rSapi_Field) (e := 36) (Ts := ([tv (.string (sB t53)),ti (t49).Lo,ti (t49).Hi,tvs v1253])) (off := 3) tokV30 z0 z1 (leb rfl)) <| .n) fun n20 a w hst => ?_
    replace hst : St _ _ _ [_,_,_,_,_,_,_,_] [_,_,_,_,_,_,_] _ _ := (hst.pick [4,7,8,9,10,11,12,13]).selA [0,1,2,3,4,6,7] rfl
    refine hK1268 _ _ ?_
    try clear hK1268 K1268
    refine wr mixed [] hst (fun _ => .q 1 rfl <| .o (op_add z0 .k) <| .o (op_assign z0) <| .n) fun n15 a w hst => ?_
    replace hst := hst.to [2,3,4,5,6,7,8,9] [_,_,_,_,_,_,_,_] [_,_,_,_,_,_,_] rfl rfl
    exact hK1265 _ _ _ (sj h).symm ⟨(n20 4),(hst.pick [0,2,3,4,5,6,7]).selA [5,0,1,2,3,4,6] rfl⟩
   ·replace h := ite_f b1274 h
    refine wp_exit ?_
    exact hJp1263 _ v1253 _ _ (ho _ (sj h).symm) (hst.pick [2,3,4,5,6,7])
  ·replace h := ite_f b1275 h
   refine wp_exit ?_
   exact hJp1168 _ v1123 _ _ (ho _ (sj h).symm) (hst.pick [2,3,4,5])
 ·replace h := ite_f b1276 h
  refine wp_exit ?_
  exact hJp851 _ _ _ (ho _ (sj h).symm) (hst.pick [])

end Go.Proofs.YthdfmpocknmleaaDoor

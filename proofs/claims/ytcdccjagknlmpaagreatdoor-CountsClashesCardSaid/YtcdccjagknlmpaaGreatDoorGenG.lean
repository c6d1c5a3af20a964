/- Go functions as Lean functions, and the proofs that they compute them, written by a program. No condition. -/
import Derived.Test.YtcdccjagknlmpaaGreatDoorGenF
namespace Go.Proofs.YtcdccjagknlmpaaGreatDoor
open Go.Sim

/- diorama/dioramalaw13.CountsClashes -/
noncomputable def flaw13_CountsClashes (l_ : (List Int)) (n_ : Int) (odd_ : Scounts_Limit) (many_ : Int) : Option (Bool) := (fref01_Around n_ (4:Int)).bind fun t21 => (fref13_Made l_ (IntKind.i64.wrap ((1:Int) + t21))).bind fun t25 => (fref01_Around many_ (8:Int)).bind fun t27 => (mk (IntKind.i64.wrap ((20:Int) + t27)) zz6).bind fun t29 => (rm (([] : List Sref13_Limit).length + t25.length)).bind fun _ => (flaw13_plain odd_).bind fun t35 => (rm ((([] : List Sref13_Limit) ++ t25).length + [t35].length)).bind fun _ => (tailrec (fun (s9 : Int) => ((if (decide (s9 < ([t25,((([] : List Sref13_Limit) ++ t25) ++ [t35]),t29,([] : (List Sref13_Limit))].length : Int))) = true then (fref01_Around many_ (9:Int)).bind fun t49 => (tailrec (fun (s87 : Int) => ((if (decide (s87 < (3:Int))) = true then (idx [(IntKind.i64.wrap ((1:Int) + t21)),n_,(IntKind.i64.wrap (t49 - (1:Int)))] s87).bind fun t59 => (idx [t25,((([] : List Sref13_Limit) ++ t25) ++ [t35]),t29,([] : (List Sref13_Limit))] s9).bind fun t63 => (flaw13_given t63).bind fun t65 => (fcounts_Clash t59 t65).bind fun t66 => (idx [(IntKind.i64.wrap ((1:Int) + t21)),n_,(IntKind.i64.wrap (t49 - (1:Int)))] s87).bind fun t72 => (idx [t25,((([] : List Sref13_Limit) ++ t25) ++ [t35]),t29,([] : (List Sref13_Limit))] s9).bind fun t76 => (fref13_Clash t72 t76).bind fun t78 => (opt ((t66.2 != t78.2) == false) (fref01_SameInts t66.1 t78.1) default).bind fun t87 => (if ((t66.2 != t78.2) || (!t87)) = true then (some (.inr (.inr false))) else (some (.inl (IntKind.i64.wrap (s87 + (1:Int)))))) else (some (.inr (.inl ())))) : Option ((Int) ⊕ ((Unit) ⊕ (Bool))))) (0:Int)).bind fun (e88 : (Unit) ⊕ (Bool)) => (match e88 with | .inl _ => (some (.inl (IntKind.i64.wrap (s9 + (1:Int))))) | .inr p99 => (some (.inr (.inr p99)))) else (some (.inr (.inl ())))) : Option ((Int) ⊕ ((Unit) ⊕ (Bool))))) (0:Int)).bind fun (e10 : (Unit) ⊕ (Bool)) => (match e10 with | .inl _ => (flaw13_lives).bind fun t90 => (some t90) | .inr p79 => (some p79))
set_option maxRecDepth 100000 in
set_option maxHeartbeats 4000000 in
theorem law13_CountsClashes_ok {l_ : (List Int)} {n_ : Int} {odd_ : Scounts_Limit} {many_ : Int} {r : Bool} (h : flaw13_CountsClashes l_ n_ odd_ many_ = some r) : FnOk Tryz.prog 6 [tsl rI l_,ti n_,rScounts_Limit.ty odd_,ti many_] [glo] (fun _ => []) (fun _ => tb r) := by
 unfold flaw13_CountsClashes at h
 refine FnOk.enter Tryz.func6 rfl Tryz.ntmps6 (leb rfl) (fun M0 M w0 a hpl hst => ?_)
 replace hst : St M w0 91 [(0,tsl rI l_),(1,ti n_),(2,rScounts_Limit.ty odd_),(3,ti many_)] [glo] a w0 := hst
 refine sr mixed [] hst (fun _ => .o (op_boxR (R := rScounts_Limit) (u := odd_) z2) <| .o (op_assign .k) <| .n) fun n0 a w hst => ?_
 replace hst := hst.to [0,2,3,5] [_,_,_,_] [_] rfl rfl
 obtain ⟨t21,ht21,h⟩ := bind_some h
 refine sr mixed [] hst (fun _ => .q 2 rfl <| .o (op_callF call17 (ref01_Around_ok ht21) (.cons (.of z0) <| .cons (.of .k) <| .nil)) <| .o (op_add .k z0) <| .o (op_assign z0) <| .n) fun n1 a w hst => ?_
 replace hst := hst.to [3,4,5,6,7] [_,_,_,_,_] [_] rfl rfl
 obtain ⟨t25,ht25,h⟩ := bind_some h
 refine sr mixed [] hst (fun _ => .q 2 rfl <| .q 1 rfl <| .o (op_callF call18 ((ref13_Made_ok ht25).ro ro_self) (.cons (.of z1) <| .cons (.of z0) <| .nil)) <| .o (op_assign z0) <| .n) fun n2 a w hst => ?_
 replace hst := hst.to [3,4,5,7,8] [_,_,_,_,_] [_] rfl rfl
 obtain ⟨t27,ht27,h⟩ := bind_some h
 obtain ⟨t29,ht29,h⟩ := bind_some h
 refine sr mixed [] hst (fun _ => .q 4 rfl <| .o (op_callF call17 (ref01_Around_ok ht27) (.cons (.of z0) <| .cons (.of .k) <| .nil)) <| .o (op_add .k z0) <| .o (op_make (R := rSref13_Limit) ud36 tok41 zok41 (leb rfl) z0 z0 ht29) <| .o (op_assign z0) <| .n) fun n3 a w hst => ?_
 replace hst := hst.to [4,5,6,7,8,9] [_,_,_,_,_,_] [_] rfl rfl
 refine wp_seq_k (fun K5 hK5 => ?_)
 obtain ⟨u33,hu33,h⟩ := bind_some h
 obtain ⟨t35,ht35,h⟩ := bind_some h
 obtain ⟨u37,hu37,h⟩ := bind_some h
 refine wr mixed [v1 1 (fun v0 => own rSref13_Limit 41 ([] : List Sref13_Limit) v0),v1 3 (fun v0 => own rSref13_Limit 41 (([] : List Sref13_Limit) ++ t25) v0)] hst (fun _ => .q 1 rfl <| .m [] [1] rfl rfl rfl (op_buildSlO (R := rSref13_Limit) (us := ([] : List Sref13_Limit)) ud36 tok41 (.nil _) rfl (leb rfl) (leb rfl)) <| .q 3 rfl <| .e [] [1] [2] rfl rfl rfl rfl (op_append (R := rSref13_Limit) ud36 tok41 (leb rfl) z1 z0 hu33) <| .o (op_load tok43 z7) <| .o (op_callF call15 (law13_plain_ok ht35) (.cons (.of z0) <| .nil)) <| .o (op_buildSl (R := rSref13_Limit) (us := [t35]) ud36 tok41 (.cons z0 <| .nil _) rfl (leb rfl)) <| .e [] [2] [] rfl rfl rfl rfl (.roE (op_append (R := rSref13_Limit) ud36 tok41 (leb rfl) z3 z0 hu37)) <| .q 8 rfl <| .o (op_buildSl (R := (rSl rSref13_Limit)) (us := [t25,((([] : List Sref13_Limit) ++ t25) ++ [t35]),t29,([] : (List Sref13_Limit))]) ud63 tok36 (.cons z8 <| .cons z1 <| .cons z0 <| .cons .nilsl <| .nil _) rfl (leb rfl)) <| .o (op_assign z0) <| .n) fun n4 a w hst => ?_
 replace hst := hst.to [10,13,15,16] [_,_,_,_] [_] rfl rfl
 refine hK5 _ _ ?_
 try clear hK5 K5
 refine wp_seq_k (fun K7 hK7 => ?_)
 refine sr mixed [] hst (fun _ => .o (op_assign .k) <| .n) fun n5 a w hst => ?_
 replace hst := hst.to [0,1,2,3,4] [_,_,_,_,_] [_] rfl rfl
 obtain ⟨e10,he10,h⟩ := bind_some h
 have hJp78 : ∀ (p78 : Unit) a w,(.inl p78) = e10 → St M w0 91 [] [glo] a w → K7 a w := by
  intro p78 a w he hst
  subst he
  simp only at h
  refine hK7 _ _ ?_
  try clear hK7 K7
  obtain ⟨t90,ht90,h⟩ := bind_some h
  refine sr mixed [] hst (fun _ => .u [0] rfl rfl ((op_callF call16 (law13_lives_ok ht90) (.nil)).glo) <| .o (op_assign z0) <| .n) fun n16 a w hst => ?_
  replace hst := hst.to [1] [_] [_] rfl rfl
  refine wp_ret ?_
  obtain rfl := sj h
  exact ret_st undef [] hpl hst rfl (.tmp z0 .nil) rfl rfl rfl
 have hJp79 : ∀ (p79 : Bool) a w,(.inr p79) = e10 → St M w0 91 [(8,tb p79)] [glo] a w → Ret Tryz.prog Tryz.f6 M0 [glo] w0 (fun _ => []) (fun _ => tb r) .ret a w := by
  intro p79 a w he hst
  subst he
  simp only at h
  obtain rfl := sj h
  exact ret_st undef [] hpl hst rfl (.tmp z0 .nil) rfl rfl rfl
 refine wp_block ?_
 refine wp_loopK _ (fun (s9 : Int) a w => St M w0 91 [(13,ti s9),(12,tsl (rSl rSref13_Limit) [t25,((([] : List Sref13_Limit) ++ t25) ++ [t35]),t29,([] : (List Sref13_Limit))]),(9,ti (IntKind.i64.wrap ((1:Int) + t21))),(1,ti n_),(3,ti many_)] [glo] a w) _ _ he10 (hst.pick [0,1,2,3,4]) ?_
 clear h
 intro s9 o a w K81 hI h ho hK81
 have hst := hI
 clear hI
 refine wp_seq_k (fun K82 hK82 => ?_)
 refine sr mixed [] hst (fun _ => .q 0 rfl <| .q 2 rfl <| .o (op_len ud63 z0) <| .o (op_lss z2 z0) <| .n) fun n6 a w hst => ?_
 replace hst := hst.to [3,4,5,6,7,8] [_,_,_,_,_,_] [_] rfl rfl
 refine wt hst (fun b110 => ?_) (fun b110 => ?_)
 ·replace h := ite_t b110 h
  refine wp_skip ?_
  refine hK82 _ _ ?_
  try clear hK82 K82
  refine wp_seq_k (fun K84 hK84 => ?_)
  refine wp_block ?_
  obtain ⟨t49,ht49,h⟩ := bind_some h
  refine sr mixed [] hst (fun _ => .q 3 rfl <| .q 5 rfl <| .q 7 rfl <| .o (op_callF call17 (ref01_Around_ok ht49) (.cons (.of z0) <| .cons (.of .k) <| .nil)) <| .o (op_sub z0 .k) <| .o (op_buildSl (R := rI) (us := [(IntKind.i64.wrap ((1:Int) + t21)),n_,(IntKind.i64.wrap (t49 - (1:Int)))]) ud22 tok3 (.cons z4 <| .cons z3 <| .cons z0 <| .nil _) rfl (leb rfl)) <| .o (op_assign z0) <| .n) fun n8 a w hst => ?_
  replace hst := hst.to [6,8,9,10,11,12] [_,_,_,_,_,_] [_] rfl rfl
  refine sr mixed [] hst (fun _ => .o (op_assign .k) <| .n) fun n9 a w hst => ?_
  replace hst := hst.to [0,1,2,3,4,5,6] [_,_,_,_,_,_,_] [_] rfl rfl
  obtain ⟨e88,he88,h⟩ := bind_some h
  have hJp98 : ∀ (p98 : Unit) a w,(.inl p98) = e88 → St M w0 91 [(13,ti s9),(12,tsl (rSl rSref13_Limit) [t25,((([] : List Sref13_Limit) ++ t25) ++ [t35]),t29,([] : (List Sref13_Limit))]),(9,ti (IntKind.i64.wrap ((1:Int) + t21))),(1,ti n_),(3,ti many_)] [glo] a w → K84 a w := by
   intro p98 a w he hst
   subst he
   simp only at h
   refine hK84 _ _ ?_
   try clear hK84 K84
   refine wr mixed [] hst (fun _ => .q 0 rfl <| .o (op_add z0 .k) <| .o (op_assign z0) <| .n) fun n7 a w hst => ?_
   replace hst := hst.to [2,3,4,5,6] [_,_,_,_,_] [_] rfl rfl
   exact hK81 _ _ _ (sj h).symm (hst.pick [0,1,2,3,4])
  have hJp99 : ∀ (p99 : Bool) a w,(.inr p99) = e88 → St M w0 91 [(8,tb p99)] [glo] a w → Ret Tryz.prog Tryz.f6 M0 [glo] w0 (fun _ => []) (fun _ => tb r) .ret a w := by
   intro p99 a w he hst
   subst he
   simp only at h
   exact hJp79 _ _ _ (ho _ (sj h).symm) (hst.pick [0])
  refine wp_block ?_
  refine wp_loopK _ (fun (s87 : Int) a w => St M w0 91 [(15,ti s87),(14,tsl rI [(IntKind.i64.wrap ((1:Int) + t21)),n_,(IntKind.i64.wrap (t49 - (1:Int)))]),(13,ti s9),(12,tsl (rSl rSref13_Limit) [t25,((([] : List Sref13_Limit) ++ t25) ++ [t35]),t29,([] : (List Sref13_Limit))]),(9,ti (IntKind.i64.wrap ((1:Int) + t21))),(1,ti n_),(3,ti many_)] [glo] a w) _ _ he88 (hst.pick [0,1,2,3,4,5,6]) ?_
  clear h
  intro s87 o a w K100 hI h ho hK100
  have hst := hI
  clear hI
  refine wp_seq_k (fun K101 hK101 => ?_)
  refine sr mixed [] hst (fun _ => .q 0 rfl <| .o (op_lss z0 .k) <| .n) fun n10 a w hst => ?_
  replace hst := hst.to [1,2,3,4,5,6,7,8] [_,_,_,_,_,_,_,_] [_] rfl rfl
  refine wt hst (fun b109 => ?_) (fun b109 => ?_)
  ·replace h := ite_t b109 h
   refine wp_skip ?_
   refine hK101 _ _ ?_
   try clear hK101 K101
   refine wp_seq_k (fun K103 hK103 => ?_)
   refine wp_block ?_
   obtain ⟨t59,ht59,h⟩ := bind_some h
   obtain ⟨t63,ht63,h⟩ := bind_some h
   obtain ⟨t65,ht65,h⟩ := bind_some h
   obtain ⟨t66,ht66,h⟩ := bind_some h
   refine sr mixed [] hst (fun _ => .q 2 rfl <| .q 2 rfl <| .o (op_index ud22 tok3 z1 z0 ht59) <| .o (op_load tok3 z0) <| .q 8 rfl <| .q 8 rfl <| .o (op_index ud63 tok36 z1 z0 ht63) <| .o (op_load tok36 z0) <| .o (op_callF call28 (law13_given_ok ht65) (.cons (.of z0) <| .nil)) <| .u [0] rfl rfl ((op_callF call27 (counts_Clash_ok ht66) (.cons (.of z5) <| .cons (.of z0) <| .nil)).glo) <| .q 0 rfl <| .o (op_extract z0 rfl) <| .o (op_extract z1 rfl) <| .o (op_assign z1) <| .o (op_assign z1) <| .n) fun n12 a w hst => ?_
   replace hst := hst.to [13,14,16,17,18,19,20,21,22] [_,_,_,_,_,_,_,_,_] [_] rfl rfl
   obtain ⟨t72,ht72,h⟩ := bind_some h
   obtain ⟨t76,ht76,h⟩ := bind_some h
   obtain ⟨t78,ht78,h⟩ := bind_some h
   refine sr mixed [] hst (fun _ => .q 3 rfl <| .q 3 rfl <| .o (op_index ud22 tok3 z1 z0 ht72) <| .o (op_load tok3 z0) <| .q 9 rfl <| .q 9 rfl <| .o (op_index ud63 tok36 z1 z0 ht76) <| .o (op_load tok36 z0) <| .o (op_callF call29 (ref13_Clash_ok ht78) (.cons (.of z4) <| .cons (.of z0) <| .nil)) <| .q 0 rfl <| .o (op_extract z0 rfl) <| .o (op_extract z1 rfl) <| .o (op_assign z1) <| .o (op_assign z1) <| .n) fun n13 a w hst => ?_
   replace hst := hst.to [12,13,14,15,16,17,18,19,20,21,22] [_,_,_,_,_,_,_,_,_,_,_] [_] rfl rfl
   obtain ⟨t87,ht87,h⟩ := bind_some h
   refine sr mixed [] hst (fun _ => .q 3 rfl <| .q 2 rfl <| .o (op_neq z1 z0) <| .q 0 rfl <| .g rfl rfl (.b 0 rfl) (fun _ => op_move z6) <| .g rfl rfl (.b 1 rfl) (fun _ => op_move z5) <| .g rfl rfl (.b 2 rfl) (fun hc => op_callF call25 (ref01_SameInts_ok (opt_t ht87 hc)) (.cons (.of (.cond z1 hc)) <| .cons (.of (.cond z0 hc)) <| .nil)) <| .g rfl rfl (.b 3 rfl) (fun hc => op_not (.cond z0 hc)) <| .o (op_or z4 (fun hp => (.cond z0 (beqF hp)))) <| .n) fun n14 a w hst => ?_
   replace hst := hst.to [8,13,14,15,16,17,18,19] [_,_,_,_,_,_,_,_] [_] rfl rfl
   refine wt hst (fun b108 => ?_) (fun b108 => ?_)
   ·replace h := ite_t b108 h
    refine sr mixed [] hst (fun _ => .o (op_assign .k) <| .n) fun n15 a w hst => ?_
    replace hst := hst.to [0] [_] [_] rfl rfl
    refine wp_ret ?_
    exact hJp99 _ _ _ (ho _ (sj h).symm) (hst.pick [0])
   ·replace h := ite_f b108 h
    refine wp_skip ?_
    refine hK103 _ _ ?_
    try clear hK103 K103
    refine wr mixed [] hst (fun _ => .q 1 rfl <| .o (op_add z0 .k) <| .o (op_assign z0) <| .n) fun n11 a w hst => ?_
    replace hst := hst.to [2,4,5,6,7,8,9] [_,_,_,_,_,_,_] [_] rfl rfl
    exact hK100 _ _ _ (sj h).symm (hst.pick [0,1,2,3,4,5,6])
  ·replace h := ite_f b109 h
   refine wp_exit ?_
   exact hJp98 _ _ _ (ho _ (sj h).symm) (hst.pick [3,4,5,6,7])
 ·replace h := ite_f b110 h
  refine wp_exit ?_
  exact hJp78 _ _ _ (ho _ (sj h).symm) (hst.pick [])

end Go.Proofs.YtcdccjagknlmpaaGreatDoor

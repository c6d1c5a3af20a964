/- Go functions as Lean functions, and the proofs that they compute them, written by a program. No condition. -/
import Derived.Test.YtcdccjagknlmpaaGreatDoorLib
namespace Go.Proofs.YtcdccjagknlmpaaGreatDoor
open Go.Sim

/- diorama/dioramaref01.Around -/
noncomputable def fref01_Around (n_ : Int) (most_ : Int) : Option (Int) := ((if (decide (n_ < (0:Int))) = true then (some (IntKind.i64.wrap (0 - (IntKind.i64.wrap (n_ + (1:Int)))))) else (some n_))).bind fun (p4 : Int) => (if (decide (most_ < (1:Int))) = true then (some (0:Int)) else (nz most_).bind fun _ => (some (Int.tmod p4 most_)))
set_option maxRecDepth 100000 in
set_option maxHeartbeats 4000000 in
theorem ref01_Around_ok {n_ : Int} {most_ : Int} {r : Int} (h : fref01_Around n_ most_ = some r) : FnOk Tryz.prog 17 [ti n_,ti most_] [] (fun _ => []) (fun _ => ti r) := by
 unfold fref01_Around at h
 refine FnOk.enter Tryz.func17 rfl Tryz.ntmps17 (leb rfl) (fun M0 M w0 a hpl hst => ?_)
 replace hst : St M w0 15 [(0,ti n_),(1,ti most_)] [] a w0 := hst
 refine sr mixed [] hst (fun _ => .o (op_assign .k) <| .n) fun n0 a w hst => ?_
 replace hst := hst.to [1,2] [_,_] [] rfl rfl
 refine wp_seq_k (fun K2 hK2 => ?_)
 refine sr mixed [] hst (fun _ => .q 0 rfl <| .o (op_lss z0 .k) <| .n) fun n1 a w hst => ?_
 replace hst := hst.to [1,2,3] [_,_,_] [] rfl rfl
 obtain ⟨p4,hp4,h⟩ := bind_some h
 have hJp4 : ∀ a w,St M w0 15 [(0,ti p4),(1,ti most_)] [] a w → K2 a w := by
  intro a w hst
  refine hK2 _ _ ?_
  try clear hK2 K2
  refine wp_seq_k (fun K6 hK6 => ?_)
  refine sr mixed [] hst (fun _ => .q 1 rfl <| .o (op_lss z0 .k) <| .n) fun n3 a w hst => ?_
  replace hst := hst.to [1,2,3] [_,_,_] [] rfl rfl
  refine wt hst (fun b10 => ?_) (fun b10 => ?_)
  ·replace h := ite_t b10 h
   refine sr mixed [] hst (fun _ => .o (op_assign .k) <| .n) fun n4 a w hst => ?_
   replace hst := hst.to [0] [_] [] rfl rfl
   refine wp_ret ?_
   obtain rfl := sj h
   exact ret_st undef [] hpl hst rfl (.tmp z0 .nil) rfl rfl rfl
  ·replace h := ite_f b10 h
   refine wp_skip ?_
   refine hK6 _ _ ?_
   try clear hK6 K6
   refine wp_seq_k (fun K9 hK9 => ?_)
   obtain ⟨u14,hu14,h⟩ := bind_some h
   refine wr mixed [] hst (fun _ => .q 1 rfl <| .q 3 rfl <| .o (op_rem z1 z0 (nz_ne hu14)) <| .o (op_assign z0) <| .n) fun n5 a w hst => ?_
   replace hst := hst.to [3] [_] [] rfl rfl
   refine hK9 _ _ ?_
   try clear hK9 K9
   refine wp_ret ?_
   obtain rfl := sj h
   exact ret_st undef [] hpl hst rfl (.tmp z0 .nil) rfl rfl rfl
 replace h := hp4
 clear hp4
 refine wt hst (fun b11 => ?_) (fun b11 => ?_)
 ·replace h := ite_t b11 h
  refine wr mixed [] hst (fun _ => .q 1 rfl <| .o (op_add z0 .k) <| .o (op_neg z0) <| .o (op_assign z0) <| .n) fun n2 a w hst => ?_
  replace hst := hst.to [3,5] [_,_] [] rfl rfl
  obtain rfl := sj h
  exact hJp4 _ _ (hst.pick [0,1])
 ·replace h := ite_f b11 h
  refine wp_skip ?_
  obtain rfl := sj h
  exact hJp4 _ _ (hst.pick [1,2])

/- diorama/dioramaref01.At -/
noncomputable def fref01_At (l_ : (List Int)) (i_ : Int) (most_ : Int) : Option (Int) := (if ((decide (i_ < (0:Int))) || (decide (i_ ≥ (l_.length : Int)))) = true then (some (0:Int)) else (idx l_ i_).bind fun t17 => (fref01_Around t17 most_).bind fun t20 => (some t20))
set_option maxRecDepth 100000 in
set_option maxHeartbeats 4000000 in
theorem ref01_At_ok {l_ : (List Int)} {i_ : Int} {most_ : Int} {r : Int} (h : fref01_At l_ i_ most_ = some r) : FnOk Tryz.prog 41 [tsl rI l_,ti i_,ti most_] [] (fun _ => []) (fun _ => ti r) := by
 unfold fref01_At at h
 refine FnOk.enter Tryz.func41 rfl Tryz.ntmps41 (leb rfl) (fun M0 M w0 a hpl hst => ?_)
 replace hst : St M w0 21 [(0,tsl rI l_),(1,ti i_),(2,ti most_)] [] a w0 := hst
 refine sr mixed [] hst (fun _ => .o (op_assign .k) <| .n) fun n0 a w hst => ?_
 replace hst := hst.to [1,2,3] [_,_,_] [] rfl rfl
 refine wp_seq_k (fun K2 hK2 => ?_)
 refine sr mixed [] hst (fun _ => .q 1 rfl <| .o (op_lss z0 .k) <| .q 0 rfl <| .g rfl rfl (.b 0 rfl) (fun _ => op_move z4) <| .g rfl rfl (.b 1 rfl) (fun _ => op_move z4) <| .g rfl rfl (.b 2 rfl) (fun hc => op_len ud22 (.cond z0 hc)) <| .g rfl rfl (.b 3 rfl) (fun hc => op_geq (.cond z2 hc) (.cond z0 hc)) <| .o (op_or z4 (fun hp => (.cond z0 (beqF hp)))) <| .n) fun n1 a w hst => ?_
 replace hst := hst.to [7,8,9,10] [_,_,_,_] [] rfl rfl
 refine wt hst (fun b6 => ?_) (fun b6 => ?_)
 ·replace h := ite_t b6 h
  refine sr mixed [] hst (fun _ => .o (op_assign .k) <| .n) fun n2 a w hst => ?_
  replace hst := hst.to [0] [_] [] rfl rfl
  refine wp_ret ?_
  obtain rfl := sj h
  exact ret_st undef [] hpl hst rfl (.tmp z0 .nil) rfl rfl rfl
 ·replace h := ite_f b6 h
  refine wp_skip ?_
  refine hK2 _ _ ?_
  try clear hK2 K2
  obtain ⟨t17,ht17,h⟩ := bind_some h
  obtain ⟨t20,ht20,h⟩ := bind_some h
  refine sr mixed [] hst (fun _ => .q 1 rfl <| .q 3 rfl <| .o (op_index ud22 tok3 z1 z0 ht17) <| .o (op_load tok3 z0) <| .q 7 rfl <| .o (op_callF call17 (ref01_Around_ok ht20) (.cons (.of z1) <| .cons (.of z0) <| .nil)) <| .o (op_assign z0) <| .n) fun n3 a w hst => ?_
  replace hst := hst.to [6] [_] [] rfl rfl
  refine wp_ret ?_
  obtain rfl := sj h
  exact ret_st undef [] hpl hst rfl (.tmp z0 .nil) rfl rfl rfl

/- diorama/dioramaref13.Made -/
noncomputable def fref13_Made (l_ : (List Int)) (n_ : Int) : Option ((List Sref13_Limit)) := (tailrec (fun (s6 : Int × List Sref13_Limit) => ((if ((decide ((IntKind.i64.wrap ((3:Int) * s6.1)) < (l_.length : Int))) && (decide (s6.1 < (10:Int)))) = true then (fref01_At l_ (IntKind.i64.wrap ((3:Int) * s6.1)) n_).bind fun t23 => (fref01_At l_ (IntKind.i64.wrap ((IntKind.i64.wrap ((3:Int) * s6.1)) + (1:Int))) (IntKind.i64.wrap (n_ + (1:Int)))).bind fun t30 => (fref01_At l_ (IntKind.i64.wrap ((IntKind.i64.wrap ((3:Int) * s6.1)) + (2:Int))) (8:Int)).bind fun t37 => (idx [(0:Int),(1:Int),(2:Int),(3:Int),(5:Int),(1:Int),(2:Int),(4:Int)] t37).bind fun t38 => (fref01_At l_ (IntKind.i64.wrap ((IntKind.i64.wrap ((3:Int) * s6.1)) + (2:Int))) (16:Int)).bind fun t44 => (rm (s6.2.length + [(Sref13_Limit.mk t23 (IntKind.i64.wrap (t30 - (1:Int))) t38 (decide (t44 < (8:Int))))].length)).bind fun _ => (some (.inl ((IntKind.i64.wrap (s6.1 + (1:Int))),(s6.2 ++ [(Sref13_Limit.mk t23 (IntKind.i64.wrap (t30 - (1:Int))) t38 (decide (t44 < (8:Int))))])))) else (some (.inr s6.2))) : Option ((Int × List Sref13_Limit) ⊕ ((List Sref13_Limit))))) ((0:Int),([] : List Sref13_Limit))).bind fun (p21 : (List Sref13_Limit)) => (some p21)
set_option maxRecDepth 100000 in
set_option maxHeartbeats 4000000 in
theorem ref13_Made_ok {l_ : (List Int)} {n_ : Int} {r : (List Sref13_Limit)} (h : fref13_Made l_ n_ = some r) : FnOk Tryz.prog 18 [tsl rI l_,ti n_] [] (fun v => [own rSref13_Limit 41 r v]) (fun v => tv v) := by
 unfold fref13_Made at h
 refine FnOk.enter Tryz.func18 rfl Tryz.ntmps18 (leb rfl) (fun M0 M w0 a hpl hst => ?_)
 replace hst : St M w0 52 [(0,tsl rI l_),(1,ti n_)] [] a w0 := hst
 refine sr mixed [] hst (fun _ => .o (op_assign .k) <| .n) fun n0 a w hst => ?_
 replace hst := hst.to [1,2] [_,_] [] rfl rfl
 refine sr mixed [] hst (fun _ => .o (op_assign .k) <| .n) fun n1 a w hst => ?_
 replace hst : St _ _ _ [_,_,_] [_] _ _ := (hst.pick [0,1,2]).nil (rSref13_Limit) 41
 refine wp_seq_k (fun K4 hK4 => ?_)
 refine sr mixed [] hst (fun _ => .o (op_assign .k) <| .n) fun n2 a w hst => ?_
 replace hst := hst.to [0,1,2,3] [_,_,_,_] [_] rfl rfl
 obtain ⟨e7,he7,h⟩ := bind_some h
 have hJp21 : ∀ (p21 : List Sref13_Limit) (v22 : Value) a w,p21 = e7 → St M w0 52 [(5,tv v22)] [own rSref13_Limit 41 p21 v22] a w → K4 a w := by
  intro p21 v22 a w he hst
  subst he
  refine hK4 _ _ ?_
  try clear hK4 K4
  refine sr mixed [] hst (fun _ => .q 0 rfl <| .o (op_assign z0) <| .n) fun n7 a w hst => ?_
  replace hst := hst.to [0,1,2] [_,_,_] [_] rfl rfl
  refine wp_ret ?_
  obtain rfl := sj h
  exact ret_st v22 [0] hpl hst rfl (.tmp z1 .nil) rfl rfl rfl
 refine wp_block ?_
 refine wp_loopK _ (fun (s6 : Int × List Sref13_Limit) a w => ∃ v14 : Value,St M w0 52 [(6,ti s6.1),(5,tv v14),(0,tsl rI l_),(1,ti n_)] [own rSref13_Limit 41 s6.2 v14] a w) _ _ he7 ⟨(.slice none 0 0),hst.pick [0,1,2,3]⟩ ?_
 clear h
 intro s6 o a w K24 hI h ho hK24
 obtain ⟨v14,hst⟩ := hI
 refine wp_seq_k (fun K25 hK25 => ?_)
 refine sr mixed [] hst (fun _ => .q 0 rfl <| .o (op_mul .k z0) <| .q 4 rfl <| .o (op_len ud22 z0) <| .o (op_lss z2 z0) <| .q 0 rfl <| .g rfl rfl (.b 0 rfl) (fun _ => op_move z6) <| .g rfl rfl (.b 1 rfl) (fun hc => op_lss (.cond z0 hc) .k) <| .o (op_and z2 (fun hp => (.cond z0 (beqT hp)))) <| .n) fun n3 a w hst => ?_
 replace hst := hst.to [8,9,10,11,12] [_,_,_,_,_] [_] rfl rfl
 refine wt hst (fun b30 => ?_) (fun b30 => ?_)
 ·replace h := ite_t b30 h
  refine wp_skip ?_
  refine hK25 _ _ ?_
  try clear hK25 K25
  refine wp_seq_k (fun K27 hK27 => ?_)
  refine wp_block ?_
  obtain ⟨t23,ht23,h⟩ := bind_some h
  obtain ⟨t30,ht30,h⟩ := bind_some h
  obtain ⟨t37,ht37,h⟩ := bind_some h
  obtain ⟨t38,ht38,h⟩ := bind_some h
  obtain ⟨t44,ht44,h⟩ := bind_some h
  refine sr mixed [v1 28 (fun v0 => box (rSref13_Limit.cs zz6) v0),v1 28 (fun v0 => box (rSref13_Limit.cs (Sref13_Limit.mk t23 (IntKind.i64.wrap (t30 - (1:Int))) t38 (decide (t44 < (8:Int))))) v0)] hst (fun _ => .q 3 rfl <| .q 2 rfl <| .o (op_mul .k z0) <| .q 7 rfl <| .o (op_callF call41 (ref01_At_ok ht23) (.cons (.of z3) <| .cons (.of z1) <| .cons (.of z0) <| .nil)) <| .q 8 rfl <| .q 7 rfl <| .o (op_mul .k z0) <| .o (op_add z0 .k) <| .q 13 rfl <| .o (op_add z0 .k) <| .o (op_callF call41 (ref01_At_ok ht30) (.cons (.of z5) <| .cons (.of z2) <| .cons (.of z0) <| .nil)) <| .o (op_sub z0 .k) <| .o (op_buildSl (R := rI) (us := [(0:Int),(1:Int),(2:Int),(3:Int),(5:Int),(1:Int),(2:Int),(4:Int)]) ud22 tok3 (.cons .k <| .cons .k <| .cons .k <| .cons .k <| .cons .k <| .cons .k <| .cons .k <| .cons .k <| .nil _) rfl (leb rfl)) <| .q 17 rfl <| .q 16 rfl <| .o (op_mul .k z0) <| .o (op_add z0 .k) <| .o (op_callF call41 (ref01_At_ok ht37) (.cons (.of z3) <| .cons (.of z0) <| .cons (.of .k) <| .nil)) <| .o (op_index ud22 tok3 z5 z0 ht38) <| .o (op_load tok3 z0) <| .q 24 rfl <| .q 23 rfl <| .o (op_mul .k z0) <| .o (op_add z0 .k) <| .o (op_callF call41 (ref01_At_ok ht44) (.cons (.of z3) <| .cons (.of z0) <| .cons (.of .k) <| .nil)) <| .o (op_lss z0 .k) <| .p (T := rSref13_Limit.ty (Sref13_Limit.mk t23 (IntKind.i64.wrap (t30 - (1:Int))) t38 (decide (t44 < (8:Int))))) rfl (op_build Tryz.underlying41 pl41 zv41 zc41 (.cons (R := rI) (u := t23) rfl z22 (leb rfl) <| .cons (R := rI) (u := (IntKind.i64.wrap (t30 - (1:Int)))) rfl z14 (leb rfl) <| .cons (R := rI) (u := t38) rfl z6 (leb rfl) <| .cons (R := rBool) (u := (decide (t44 < (8:Int)))) rfl z0 (leb rfl) <| .nil _)) <| .m [] [1] rfl rfl rfl (op_alloc (R := rSref13_Limit) (a := zz6) tok41 zok41) <| .e [] [1] [2] rfl rfl rfl rfl (op_storeB (R := rSref13_Limit) (a := (Sref13_Limit.mk t23 (IntKind.i64.wrap (t30 - (1:Int))) t38 (decide (t44 < (8:Int))))) tok41 z0 z1 (leb rfl)) <| .n) fun n5 a w hst => ?_
  replace hst : St _ _ _ [_,_,_,_,_] [_] _ _ := ((((hst.pick [28,30,31,32,33]).selA [1,0] rfl).shareB 0 rfl).add 0 rfl (fun _ _ _ h => h.2)).pick [0,3,4,5,6]
  obtain ⟨u50,hu50,h⟩ := bind_some h
  refine wr mixed [v1 3 (fun v0 => own rSref13_Limit 41 (s6.2 ++ [(Sref13_Limit.mk t23 (IntKind.i64.wrap (t30 - (1:Int))) t38 (decide (t44 < (8:Int))))]) v0)] hst (fun _ => .q 2 rfl <| .o (op_load tok41 z1) <| .o (op_buildSl (R := rSref13_Limit) (us := [(Sref13_Limit.mk t23 (IntKind.i64.wrap (t30 - (1:Int))) t38 (decide (t44 < (8:Int))))]) ud36 tok41 (.cons z0 <| .nil _) rfl (leb rfl)) <| .e [] [0] [1] rfl rfl rfl rfl (op_append (R := rSref13_Limit) ud36 tok41 (leb rfl) z2 z0 hu50) <| .ud (f := fun v => tv v) 3 rfl [] rfl rfl (op_assign z0) <| .n) fun n6 a w hst => ?_
  replace hst := hst.to [3,4,6,7,8] [_,_,_,_,_] [_] rfl rfl
  refine hK27 _ _ ?_
  try clear hK27 K27
  refine wr mixed [] hst (fun _ => .q 2 rfl <| .o (op_add z0 .k) <| .o (op_assign z0) <| .n) fun n4 a w hst => ?_
  replace hst := hst.to [2,3,4,5,6] [_,_,_,_,_] [_] rfl rfl
  exact hK24 _ _ _ (sj h).symm ⟨(n6 3),hst.pick [0,2,3,4]⟩
 ·replace h := ite_f b30 h
  refine wp_exit ?_
  exact hJp21 _ v14 _ _ (ho _ (sj h).symm) (hst.pick [2])

/- diorama/dioramalaw13.plain -/
noncomputable def flaw13_plain (l_ : Scounts_Limit) : Option (Sref13_Limit) := (some (Sref13_Limit.mk (l_).A (l_).B (l_).Mul (l_).Least))
set_option maxRecDepth 100000 in
set_option maxHeartbeats 4000000 in
theorem law13_plain_ok {l_ : Scounts_Limit} {r : Sref13_Limit} (h : flaw13_plain l_ = some r) : FnOk Tryz.prog 15 [rScounts_Limit.ty l_] [] (fun _ => []) (fun _ => rSref13_Limit.ty r) := by
 unfold flaw13_plain at h
 refine FnOk.enter Tryz.func15 rfl Tryz.ntmps15 (leb rfl) (fun M0 M w0 a hpl hst => ?_)
 replace hst : St M w0 12 [(0,rScounts_Limit.ty l_)] [] a w0 := hst
 refine sr mixed [v1 1 (fun v0 => box (rSref13_Limit.cs zz6) v0)] hst (fun _ => .o (op_boxR (R := rScounts_Limit) (u := l_) z0) <| .m [] [0] rfl rfl rfl (op_alloc (R := rSref13_Limit) (a := zz6) tok41 zok41) <| .n) fun n0 a w hst => ?_
 replace hst := hst.to [0,1] [_,_] [_] rfl rfl
 refine sr mixed [v0 (box (rSref13_Limit.cs (Sref13_Limit.mk (l_).A (l_).B (l_).Mul (l_).Least)) (n0 1))] hst (fun _ => .o (op_field fld43_0 z0) <| .o (op_loadT (R := rI) (u := (l_).A) tok3 z0 rfl) <| .o (op_field fld43_1 z2) <| .o (op_loadT (R := rI) (u := (l_).B) tok3 z0 rfl) <| .o (op_field fld43_2 z4) <| .o (op_loadT (R := rI) (u := (l_).Mul) tok3 z0 rfl) <| .o (op_field fld43_3 z6) <| .o (op_loadT (R := rBool) (u := (l_).Least) tok4 z0 rfl) <| .p (T := rSref13_Limit.ty (Sref13_Limit.mk (l_).A (l_).B (l_).Mul (l_).Least)) rfl (op_build Tryz.underlying41 pl41 zv41 zc41 (.cons (R := rI) (u := (l_).A) rfl z6 (leb rfl) <| .cons (R := rI) (u := (l_).B) rfl z4 (leb rfl) <| .cons (R := rI) (u := (l_).Mul) rfl z2 (leb rfl) <| .cons (R := rBool) (u := (l_).Least) rfl z0 (leb rfl) <| .nil _)) <| .e [] [0] [1] rfl rfl rfl rfl (op_storeB (R := rSref13_Limit) (a := (Sref13_Limit.mk (l_).A (l_).B (l_).Mul (l_).Least)) tok41 z10 z0 (leb rfl)) <| .n) fun n1 a w hst => ?_
 replace hst := hst.to [10] [_] [_] rfl rfl
 refine wp_ret ?_
 obtain rfl := sj h
 exact ret_st undef [] hpl hst rfl (.cell (R := rSref13_Limit) (u := (Sref13_Limit.mk (l_).A (l_).B (l_).Mul (l_).Least)) tok41 z0 0 rfl rfl .nil) rfl rfl rfl

/- diorama/dioramalaw13.given -/
noncomputable def flaw13_given (l_ : (List Sref13_Limit)) : Option ((List Scounts_Limit)) := (tailrec (fun (s6 : Int × List Scounts_Limit) => ((if (decide (s6.1 < (l_.length : Int))) = true then (idx l_ s6.1).bind fun t14 => (idx l_ s6.1).bind fun t19 => (idx l_ s6.1).bind fun t24 => (idx l_ s6.1).bind fun t29 => (rm (s6.2.length + [(Scounts_Limit.mk (t14).A (t19).B (t24).Mul (t29).Least)].length)).bind fun _ => (some (.inl ((IntKind.i64.wrap (s6.1 + (1:Int))),(s6.2 ++ [(Scounts_Limit.mk (t14).A (t19).B (t24).Mul (t29).Least)])))) else (some (.inr s6.2))) : Option ((Int × List Scounts_Limit) ⊕ ((List Scounts_Limit))))) ((0:Int),([] : List Scounts_Limit))).bind fun (p17 : (List Scounts_Limit)) => (some p17)
set_option maxRecDepth 100000 in
set_option maxHeartbeats 4000000 in
theorem law13_given_ok {l_ : (List Sref13_Limit)} {r : (List Scounts_Limit)} (h : flaw13_given l_ = some r) : FnOk Tryz.prog 28 [tsl rSref13_Limit l_] [] (fun _ => []) (fun _ => tsl rScounts_Limit r) := by
 unfold flaw13_given at h
 refine FnOk.enter Tryz.func28 rfl Tryz.ntmps28 (leb rfl) (fun M0 M w0 a hpl hst => ?_)
 replace hst : St M w0 36 [(0,tsl rSref13_Limit l_)] [] a w0 := hst
 refine sr mixed [] hst (fun _ => .o (op_assign (.nilsl (R := rScounts_Limit))) <| .n) fun n0 a w hst => ?_
 replace hst := hst.to [1] [_] [] rfl rfl
 refine sr mixed [] hst (fun _ => .o (op_assign .k) <| .n) fun n1 a w hst => ?_
 replace hst : St _ _ _ [_,_] [_] _ _ := (hst.pick [0,1]).nil (rScounts_Limit) 43
 refine wp_seq_k (fun K4 hK4 => ?_)
 refine sr mixed [] hst (fun _ => .o (op_assign .k) <| .n) fun n2 a w hst => ?_
 replace hst := hst.to [0,1,2] [_,_,_] [_] rfl rfl
 obtain ⟨e7,he7,h⟩ := bind_some h
 have hJp17 : ∀ (p17 : List Scounts_Limit) (v18 : Value) a w,p17 = e7 → St M w0 36 [(3,tv v18)] [own rScounts_Limit 43 p17 v18] a w → K4 a w := by
  intro p17 v18 a w he hst
  subst he
  refine hK4 _ _ ?_
  try clear hK4 K4
  refine sr mixed [] hst (fun _ => .q 0 rfl <| .o (op_assign z0) <| .n) fun n6 a w hst => ?_
  replace hst := hst.to [0,1,2] [_,_,_] [_] rfl rfl
  refine wp_ret ?_
  replace hst : St _ _ _ [_] [] _ _ := (hst.shareO 1 rfl).pick [0]
  obtain rfl := sj h
  exact ret_st undef [] hpl hst rfl (.tmp z0 .nil) rfl rfl rfl
 refine wp_block ?_
 refine wp_loopK _ (fun (s6 : Int × List Scounts_Limit) a w => ∃ v12 : Value,St M w0 36 [(4,ti s6.1),(3,tv v12),(0,tsl rSref13_Limit l_)] [own rScounts_Limit 43 s6.2 v12] a w) _ _ he7 ⟨(.slice none 0 0),hst.pick [0,1,2]⟩ ?_
 clear h
 intro s6 o a w K20 hI h ho hK20
 obtain ⟨v12,hst⟩ := hI
 refine wp_seq_k (fun K21 hK21 => ?_)
 refine sr mixed [] hst (fun _ => .q 0 rfl <| .q 3 rfl <| .o (op_len ud36 z0) <| .o (op_lss z2 z0) <| .n) fun n3 a w hst => ?_
 replace hst := hst.to [3,4,5,6] [_,_,_,_] [_] rfl rfl
 refine wt hst (fun b24 => ?_) (fun b24 => ?_)
 ·replace h := ite_t b24 h
  refine wp_skip ?_
  refine hK21 _ _ ?_
  try clear hK21 K21
  refine wp_seq_k (fun K23 hK23 => ?_)
  refine wp_block ?_
  obtain ⟨t14,ht14,h⟩ := bind_some h
  obtain ⟨t19,ht19,h⟩ := bind_some h
  obtain ⟨t24,ht24,h⟩ := bind_some h
  obtain ⟨t29,ht29,h⟩ := bind_some h
  obtain ⟨u34,hu34,h⟩ := bind_some h
  refine wr mixed [v1 23 (fun v0 => own rScounts_Limit 43 (s6.2 ++ [(Scounts_Limit.mk (t14).A (t19).B (t24).Mul (t29).Least)]) v0)] hst (fun _ => .q 2 rfl <| .q 4 rfl <| .q 3 rfl <| .o (op_index ud36 tok41 z1 z0 ht14) <| .o (op_field fld41_0 z0) <| .o (op_loadT (R := rI) (u := (t14).A) tok3 z0 rfl) <| .q 9 rfl <| .q 8 rfl <| .o (op_index ud36 tok41 z1 z0 ht19) <| .o (op_field fld41_1 z0) <| .o (op_loadT (R := rI) (u := (t19).B) tok3 z0 rfl) <| .q 14 rfl <| .q 13 rfl <| .o (op_index ud36 tok41 z1 z0 ht24) <| .o (op_field fld41_2 z0) <| .o (op_loadT (R := rI) (u := (t24).Mul) tok3 z0 rfl) <| .q 19 rfl <| .q 18 rfl <| .o (op_index ud36 tok41 z1 z0 ht29) <| .o (op_field fld41_3 z0) <| .o (op_loadT (R := rBool) (u := (t29).Least) tok4 z0 rfl) <| .p (T := rScounts_Limit.ty (Scounts_Limit.mk (t14).A (t19).B (t24).Mul (t29).Least)) rfl (op_build Tryz.underlying43 pl43 zv43 zc43 (.cons (R := rI) (u := (t14).A) rfl z15 (leb rfl) <| .cons (R := rI) (u := (t19).B) rfl z10 (leb rfl) <| .cons (R := rI) (u := (t24).Mul) rfl z5 (leb rfl) <| .cons (R := rBool) (u := (t29).Least) rfl z0 (leb rfl) <| .nil _)) <| .o (op_buildSl (R := rScounts_Limit) (us := [(Scounts_Limit.mk (t14).A (t19).B (t24).Mul (t29).Least)]) ud31 tok43 (.cons z0 <| .nil _) rfl (leb rfl)) <| .e [] [0] [1] rfl rfl rfl rfl (op_append (R := rScounts_Limit) ud31 tok43 (leb rfl) z22 z0 hu34) <| .ud (f := fun v => tv v) 23 rfl [] rfl rfl (op_assign z0) <| .n) fun n5 a w hst => ?_
  replace hst := hst.to [23,24,26,27] [_,_,_,_] [_] rfl rfl
  refine hK23 _ _ ?_
  try clear hK23 K23
  refine wr mixed [] hst (fun _ => .q 2 rfl <| .o (op_add z0 .k) <| .o (op_assign z0) <| .n) fun n4 a w hst => ?_
  replace hst := hst.to [2,3,4,5] [_,_,_,_] [_] rfl rfl
  exact hK20 _ _ _ (sj h).symm ⟨(n5 23),hst.pick [0,2,3]⟩
 ·replace h := ite_f b24 h
  refine wp_exit ?_
  exact hJp17 _ v12 _ _ (ho _ (sj h).symm) (hst.pick [2])

/- (diorama/counts.Limit).valid -/
noncomputable def fcounts_Limit_valid (l_ : Scounts_Limit) (n_ : Int) : Option (Bool) := (some ((((((decide ((l_).A ≥ (0:Int))) && (decide ((l_).A < n_))) && (decide ((l_).B ≥ (-1:Int)))) && (decide ((l_).B < n_))) && (decide ((l_).Mul ≥ (0:Int)))) && (decide ((l_).Mul ≤ (65536:Int)))))
set_option maxRecDepth 100000 in
set_option maxHeartbeats 4000000 in
theorem counts_Limit_valid_ok {l_ : Scounts_Limit} {n_ : Int} {r : Bool} (h : fcounts_Limit_valid l_ n_ = some r) : FnOk Tryz.prog 42 [rScounts_Limit.ty l_,ti n_] [] (fun _ => []) (fun _ => tb r) := by
 unfold fcounts_Limit_valid at h
 refine FnOk.enter Tryz.func42 rfl Tryz.ntmps42 (leb rfl) (fun M0 M w0 a hpl hst => ?_)
 replace hst : St M w0 35 [(0,rScounts_Limit.ty l_),(1,ti n_)] [] a w0 := hst
 refine sr mixed [] hst (fun _ => .o (op_boxR (R := rScounts_Limit) (u := l_) z0) <| .o (op_assign .k) <| .n) fun n0 a w hst => ?_
 replace hst := hst.to [0,3] [_,_] [] rfl rfl
 refine sr mixed [] hst (fun _ => .o (op_field fld43_0 z0) <| .o (op_loadT (R := rI) (u := (l_).A) tok3 z0 rfl) <| .o (op_geq z0 .k) <| .q 0 rfl <| .g rfl rfl (.b 0 rfl) (fun _ => op_field fld43_0 z4) <| .g rfl rfl (.b 1 rfl) (fun hc => op_loadT (R := rI) (u := (l_).A) tok3 (.cond z0 hc) rfl) <| .g rfl rfl (.b 2 rfl) (fun _ => op_move z7) <| .g rfl rfl (.b 3 rfl) (fun hc => op_lss (.cond z1 hc) (.cond z0 hc)) <| .o (op_and z4 (fun hp => (.cond z0 (beqT hp)))) <| .q 0 rfl <| .g rfl rfl (.b 0 rfl) (fun _ => op_field fld43_1 z10) <| .g rfl rfl (.b 1 rfl) (fun hc => op_loadT (R := rI) (u := (l_).B) tok3 (.cond z0 hc) rfl) <| .g rfl rfl (.b 2 rfl) (fun hc => op_geq (.cond z0 hc) .k) <| .o (op_and z3 (fun hp => (.cond z0 (beqT hp)))) <| .q 0 rfl <| .g rfl rfl (.b 0 rfl) (fun _ => op_field fld43_1 z15) <| .g rfl rfl (.b 1 rfl) (fun hc => op_loadT (R := rI) (u := (l_).B) tok3 (.cond z0 hc) rfl) <| .g rfl rfl (.b 2 rfl) (fun _ => op_move z18) <| .g rfl rfl (.b 3 rfl) (fun hc => op_lss (.cond z1 hc) (.cond z0 hc)) <| .o (op_and z4 (fun hp => (.cond z0 (beqT hp)))) <| .q 0 rfl <| .g rfl rfl (.b 0 rfl) (fun _ => op_field fld43_2 z21) <| .g rfl rfl (.b 1 rfl) (fun hc => op_loadT (R := rI) (u := (l_).Mul) tok3 (.cond z0 hc) rfl) <| .g rfl rfl (.b 2 rfl) (fun hc => op_geq (.cond z0 hc) .k) <| .o (op_and z3 (fun hp => (.cond z0 (beqT hp)))) <| .q 0 rfl <| .g rfl rfl (.b 0 rfl) (fun _ => op_field fld43_2 z26) <| .g rfl rfl (.b 1 rfl) (fun hc => op_loadT (R := rI) (u := (l_).Mul) tok3 (.cond z0 hc) rfl) <| .g rfl rfl (.b 2 rfl) (fun hc => op_leq (.cond z0 hc) .k) <| .o (op_and z3 (fun hp => (.cond z0 (beqT hp)))) <| .o (op_assign z0) <| .n) fun n1 a w hst => ?_
 replace hst := hst.to [30] [_] [] rfl rfl
 refine wp_ret ?_
 obtain rfl := sj h
 exact ret_st undef [] hpl hst rfl (.tmp z0 .nil) rfl rfl rfl

/- diorama/counts.Clash$1 -/
noncomputable def fcounts_Clashq1 (x_ : Scounts_Limit) (c0_ : Int) : Option (Bool) := (fcounts_Limit_valid x_ c0_).bind fun t6 => (some (!t6))
set_option maxRecDepth 100000 in
set_option maxHeartbeats 4000000 in
theorem counts_Clashq1_ok {x_ : Scounts_Limit} {c0_ : Int} {r : Bool} (h : fcounts_Clashq1 x_ c0_ = some r) : FnOk Tryz.prog 56 [rScounts_Limit.ty x_,tptr (rI.cs c0_)] [] (fun _ => []) (fun _ => tb r) := by
 unfold fcounts_Clashq1 at h
 refine FnOk.enter Tryz.func56 rfl Tryz.ntmps56 (leb rfl) (fun M0 M w0 a hpl hst => ?_)
 replace hst : St M w0 8 [(0,rScounts_Limit.ty x_),(1,tptr (rI.cs c0_))] [] a w0 := hst
 refine sr mixed [] hst (fun _ => .o (op_boxR (R := rScounts_Limit) (u := x_) z0) <| .o (op_assign .k) <| .n) fun n0 a w hst => ?_
 replace hst := hst.to [0,3] [_,_] [] rfl rfl
 obtain ⟨t6,ht6,h⟩ := bind_some h
 refine sr mixed [] hst (fun _ => .o (op_load tok43 z0) <| .o (op_load tok3 z2) <| .o (op_callF call42 (counts_Limit_valid_ok ht6) (.cons (.of z1) <| .cons (.of z0) <| .nil)) <| .o (op_not z0) <| .o (op_assign z0) <| .n) fun n1 a w hst => ?_
 replace hst := hst.to [4] [_] [] rfl rfl
 refine wp_ret ?_
 obtain rfl := sj h
 exact ret_st undef [] hpl hst rfl (.tmp z0 .nil) rfl rfl rfl

/- slices.IndexFunc[[]diorama/counts.Limit,diorama/counts.Limit] -/
noncomputable def fslices_IndexFunc_Limit (s_ : (List Scounts_Limit)) (f_ : (Scounts_Limit → Option Bool)) : Option (Int) := (tailrec (fun (s4 : Int) => ((if (decide (s4 < (s_.length : Int))) = true then (idx s_ s4).bind fun t14 => (f_ t14).bind fun t16 => (if t16 = true then (some (.inr (.inr s4))) else (some (.inl (IntKind.i64.wrap (s4 + (1:Int)))))) else (some (.inr (.inl ())))) : Option ((Int) ⊕ ((Unit) ⊕ (Int))))) (0:Int)).bind fun (e5 : (Unit) ⊕ (Int)) => (match e5 with | .inl _ => (some (-1:Int)) | .inr p23 => (some p23))
set_option maxRecDepth 100000 in
set_option maxHeartbeats 4000000 in
theorem slices_IndexFunc_Limit_ok {s_ : (List Scounts_Limit)} {f_ : (Scounts_Limit → Option Bool)} {r : Int} (h : fslices_IndexFunc_Limit s_ f_ = some r) : FnOk Tryz.prog 88 [tsl rScounts_Limit s_,rF112.ty f_] [] (fun _ => []) (fun _ => ti r) := by
 unfold fslices_IndexFunc_Limit at h
 refine FnOk.enter Tryz.func88 rfl Tryz.ntmps88 (leb rfl) (fun M0 M w0 a hpl hst => ?_)
 replace hst : St M w0 19 [(0,tsl rScounts_Limit s_),(1,rF112.ty f_)] [] a w0 := hst
 refine sr mixed [] hst (fun _ => .o (op_assign .k) <| .n) fun n0 a w hst => ?_
 replace hst := hst.to [1,2] [_,_] [] rfl rfl
 refine wp_seq_k (fun K2 hK2 => ?_)
 refine sr mixed [] hst (fun _ => .q 0 rfl <| .o (op_len ud31 z0) <| .o (op_move .k) <| .n) fun n1 a w hst => ?_
 replace hst := hst.to [1,2,3,4] [_,_,_,_] [] rfl rfl
 obtain ⟨e5,he5,h⟩ := bind_some h
 have hJp22 : ∀ (p22 : Unit) a w,(.inl p22) = e5 → St M w0 19 [] [] a w → K2 a w := by
  intro p22 a w he hst
  subst he
  simp only at h
  refine hK2 _ _ ?_
  try clear hK2 K2
  refine sr mixed [] hst (fun _ => .o (op_assign .k) <| .n) fun n7 a w hst => ?_
  replace hst := hst.to [0] [_] [] rfl rfl
  refine wp_ret ?_
  obtain rfl := sj h
  exact ret_st undef [] hpl hst rfl (.tmp z0 .nil) rfl rfl rfl
 have hJp23 : ∀ (p23 : Int) a w,(.inr p23) = e5 → St M w0 19 [(4,ti p23)] [] a w → Ret Tryz.prog Tryz.f88 M0 [] w0 (fun _ => []) (fun _ => ti r) .ret a w := by
  intro p23 a w he hst
  subst he
  simp only at h
  obtain rfl := sj h
  exact ret_st undef [] hpl hst rfl (.tmp z0 .nil) rfl rfl rfl
 refine wp_block ?_
 refine wp_loopK _ (fun (s4 : Int) a w => St M w0 19 [(7,ti (s_.length : Int)),(8,ti s4),(0,tsl rScounts_Limit s_),(1,rF112.ty f_)] [] a w) _ _ he5 (hst.pick [0,1,2,3]) ?_
 clear h
 intro s4 o a w K25 hI h ho hK25
 have hst := hI
 clear hI
 refine sr mixed [] hst (fun _ => .o (op_lss z1 z0) <| .n) fun n2 a w hst => ?_
 replace hst := hst.to [0,1,2,3,4] [_,_,_,_,_] [] rfl rfl
 refine wp_seq_k (fun K27 hK27 => ?_)
 refine wt hst (fun b33 => ?_) (fun b33 => ?_)
 ·replace h := ite_t b33 h
  refine wp_skip ?_
  refine hK27 _ _ ?_
  try clear hK27 K27
  refine wp_seq_k (fun K28 hK28 => ?_)
  refine wp_block ?_
  refine sr mixed [] hst (fun _ => .q 2 rfl <| .o (op_assign z0) <| .n) fun n3 a w hst => ?_
  replace hst := hst.to [1,3,4,5,6] [_,_,_,_,_] [] rfl rfl
  obtain ⟨t14,ht14,h⟩ := bind_some h
  obtain ⟨t16,ht16,h⟩ := bind_some h
  refine sr mixed [] hst (fun _ => .q 4 rfl <| .q 4 rfl <| .q 2 rfl <| .o (op_index ud31 tok43 z1 z0 ht14) <| .o (op_load tok43 z0) <| .o (op_callT (u := t14) z4 (.cons (.of z0) <| .nil) ht16) <| .n) fun n4 a w hst => ?_
  replace hst := hst.to [5,6,7,8,9,10] [_,_,_,_,_,_] [] rfl rfl
  refine wt hst (fun b32 => ?_) (fun b32 => ?_)
  ·replace h := ite_t b32 h
   refine sr mixed [] hst (fun _ => .q 1 rfl <| .o (op_assign z0) <| .n) fun n5 a w hst => ?_
   replace hst := hst.to [1] [_] [] rfl rfl
   refine wp_ret ?_
   exact hJp23 _ _ _ (ho _ (sj h).symm) (hst.pick [0])
  ·replace h := ite_f b32 h
   refine wp_skip ?_
   refine hK28 _ _ ?_
   try clear hK28 K28
   refine wr mixed [] hst (fun _ => .o (op_add z3 .k) <| .q 0 rfl <| .n) fun n6 a w hst => ?_
   replace hst := hst.to [1,4,5,6] [_,_,_,_] [] rfl rfl
   exact hK25 _ _ _ (sj h).symm (hst.pick [1,0,2,3])
 ·replace h := ite_f b33 h
  refine wp_exit ?_
  exact hJp22 _ _ _ (ho _ (sj h).symm) (hst.pick [])

/- slices.ContainsFunc[[]diorama/counts.Limit,diorama/counts.Limit] -/
noncomputable def fslices_ContainsFunc_Limit (s_ : (List Scounts_Limit)) (f_ : (Scounts_Limit → Option Bool)) : Option (Bool) := (fslices_IndexFunc_Limit s_ f_).bind fun t7 => (some (decide (t7 ≥ (0:Int))))
set_option maxRecDepth 100000 in
set_option maxHeartbeats 4000000 in
theorem slices_ContainsFunc_Limit_ok {s_ : (List Scounts_Limit)} {f_ : (Scounts_Limit → Option Bool)} {r : Bool} (h : fslices_ContainsFunc_Limit s_ f_ = some r) : FnOk Tryz.prog 55 [tsl rScounts_Limit s_,rF112.ty f_] [] (fun _ => []) (fun _ => tb r) := by
 unfold fslices_ContainsFunc_Limit at h
 refine FnOk.enter Tryz.func55 rfl Tryz.ntmps55 (leb rfl) (fun M0 M w0 a hpl hst => ?_)
 replace hst : St M w0 9 [(0,tsl rScounts_Limit s_),(1,rF112.ty f_)] [] a w0 := hst
 refine sr mixed [] hst (fun _ => .o (op_assign .k) <| .n) fun n0 a w hst => ?_
 replace hst := hst.to [1,2] [_,_] [] rfl rfl
 obtain ⟨t7,ht7,h⟩ := bind_some h
 refine sr mixed [] hst (fun _ => .q 0 rfl <| .q 2 rfl <| .o (op_callF call88 (slices_IndexFunc_Limit_ok ht7) (.cons (.of z1) <| .cons (.of z0) <| .nil)) <| .o (op_geq z0 .k) <| .o (op_assign z0) <| .n) fun n1 a w hst => ?_
 replace hst := hst.to [4] [_] [] rfl rfl
 refine wp_ret ?_
 obtain rfl := sj h
 exact ret_st undef [] hpl hst rfl (.tmp z0 .nil) rfl rfl rfl

/- (diorama/counts.Limit).up -/
noncomputable def fcounts_Limit_up (l_ : Scounts_Limit) (at_ : Scounts_numbers) : Option (Int × Int) := (if ((decide ((l_).B < (0:Int))) && (l_).Least) = true then (some ((l_).A,(l_).Mul)) else (if (l_).Least = true then (idx (at_).L (l_).B).bind fun t27 => (some ((l_).A,(IntKind.i64.wrap ((l_).Mul * t27)))) else (if ((decide ((l_).B ≥ (0:Int))) && (decide ((l_).Mul > (0:Int)))) = true then (idx (at_).L (l_).A).bind fun t43 => (nz (l_).Mul).bind fun _ => (some ((l_).B,(IntKind.i64.wrap (Int.tdiv (IntKind.i64.wrap ((IntKind.i64.wrap (t43 + (l_).Mul)) - (1:Int))) (l_).Mul)))) else (some ((l_).A,(0:Int))))))
set_option maxRecDepth 100000 in
set_option maxHeartbeats 4000000 in
theorem counts_Limit_up_ok {l_ : Scounts_Limit} {at_ : Scounts_numbers} {r : Int × Int} (h : fcounts_Limit_up l_ at_ = some r) : FnOk Tryz.prog 89 [rScounts_Limit.ty l_,rScounts_numbers.ty at_] [] (fun _ => []) (fun _ => ttup [ti r.1,ti r.2]) := by
 unfold fcounts_Limit_up at h
 refine FnOk.enter Tryz.func89 rfl Tryz.ntmps89 (leb rfl) (fun M0 M w0 a hpl hst => ?_)
 replace hst : St M w0 54 [(0,rScounts_Limit.ty l_),(1,rScounts_numbers.ty at_)] [] a w0 := hst
 refine sr mixed [] hst (fun _ => .o (op_boxR (R := rScounts_Limit) (u := l_) z0) <| .o (op_boxR (R := rScounts_numbers) (u := at_) z2) <| .o (op_assign .k) <| .o (op_assign .k) <| .n) fun n0 a w hst => ?_
 replace hst := hst.to [0,1] [_,_] [] rfl rfl
 refine wp_seq_k (fun K2 hK2 => ?_)
 refine wp_block ?_
 refine sr mixed [] hst (fun _ => .o (op_field fld43_1 z0) <| .o (op_loadT (R := rI) (u := (l_).B) tok3 z0 rfl) <| .o (op_lss z0 .k) <| .q 0 rfl <| .g rfl rfl (.b 0 rfl) (fun _ => op_field fld43_3 z4) <| .g rfl rfl (.b 1 rfl) (fun hc => op_loadT (R := rBool) (u := (l_).Least) tok4 (.cond z0 hc) rfl) <| .o (op_and z2 (fun hp => (.cond z0 (beqT hp)))) <| .o (op_assign z0) <| .n) fun n1 a w hst => ?_
 replace hst := hst.to [7,8,9] [_,_,_] [] rfl rfl
 refine wt hst (fun b12 => ?_) (fun b12 => ?_)
 ·replace h := ite_t b12 h
  refine sr mixed [] hst (fun _ => .o (op_field fld43_0 z1) <| .o (op_loadT (R := rI) (u := (l_).A) tok3 z0 rfl) <| .o (op_field fld43_2 z3) <| .o (op_loadT (R := rI) (u := (l_).Mul) tok3 z0 rfl) <| .o (op_assign z2) <| .o (op_assign z1) <| .n) fun n2 a w hst => ?_
  replace hst := hst.to [4,5] [_,_] [] rfl rfl
  refine wp_ret ?_
  obtain rfl := sj h
  exact ret_st undef [] hpl hst rfl (.tmp z0 (.tmp z1 .nil)) rfl rfl rfl
 ·replace h := ite_f b12 h
  refine sr mixed [] hst (fun _ => .o (op_field fld43_3 z1) <| .o (op_loadT (R := rBool) (u := (l_).Least) tok4 z0 rfl) <| .o (op_assign z0) <| .n) fun n3 a w hst => ?_
  replace hst := hst.to [2,4,5] [_,_,_] [] rfl rfl
  refine wt hst (fun b11 => ?_) (fun b11 => ?_)
  ·replace h := ite_t b11 h
   obtain ⟨t27,ht27,h⟩ := bind_some h
   refine sr mixed [] hst (fun _ => .o (op_field fld43_0 z1) <| .o (op_loadT (R := rI) (u := (l_).A) tok3 z0 rfl) <| .o (op_field fld43_2 z3) <| .o (op_loadT (R := rI) (u := (l_).Mul) tok3 z0 rfl) <| .o (op_field fld43_1 z5) <| .o (op_loadT (R := rI) (u := (l_).B) tok3 z0 rfl) <| .o (op_idxAD (xs := (at_).L) ud103 tok3 z8 z0 rfl ht27) <| .o (op_load tok3 z0) <| .o (op_mul z4 z0) <| .o (op_assign z7) <| .o (op_assign z1) <| .n) fun n4 a w hst => ?_
   replace hst := hst.to [9,10] [_,_] [] rfl rfl
   refine wp_ret ?_
   obtain rfl := sj h
   exact ret_st undef [] hpl hst rfl (.tmp z0 (.tmp z1 .nil)) rfl rfl rfl
  ·replace h := ite_f b11 h
   refine sr mixed [] hst (fun _ => .o (op_field fld43_1 z1) <| .o (op_loadT (R := rI) (u := (l_).B) tok3 z0 rfl) <| .o (op_geq z0 .k) <| .q 0 rfl <| .g rfl rfl (.b 0 rfl) (fun _ => op_field fld43_2 z5) <| .g rfl rfl (.b 1 rfl) (fun hc => op_loadT (R := rI) (u := (l_).Mul) tok3 (.cond z0 hc) rfl) <| .g rfl rfl (.b 2 rfl) (fun hc => op_gtr (.cond z0 hc) .k) <| .o (op_and z3 (fun hp => (.cond z0 (beqT hp)))) <| .o (op_assign z0) <| .n) fun n5 a w hst => ?_
   replace hst := hst.to [8,10,11] [_,_,_] [] rfl rfl
   refine wt hst (fun b10 => ?_) (fun b10 => ?_)
   ·replace h := ite_t b10 h
    refine wp_seq_k (fun K8 hK8 => ?_)
    obtain ⟨t43,ht43,h⟩ := bind_some h
    obtain ⟨u51,hu51,h⟩ := bind_some h
    refine wr mixed [] hst (fun _ => .o (op_field fld43_1 z1) <| .o (op_loadT (R := rI) (u := (l_).B) tok3 z0 rfl) <| .o (op_field fld43_0 z3) <| .o (op_loadT (R := rI) (u := (l_).A) tok3 z0 rfl) <| .o (op_idxAD (xs := (at_).L) ud103 tok3 z6 z0 rfl ht43) <| .o (op_load tok3 z0) <| .o (op_field fld43_2 z7) <| .o (op_loadT (R := rI) (u := (l_).Mul) tok3 z0 rfl) <| .o (op_add z2 z0) <| .o (op_sub z0 .k) <| .o (op_field fld43_2 z11) <| .o (op_loadT (R := rI) (u := (l_).Mul) tok3 z0 rfl) <| .o (op_quo z2 z0 (nz_ne hu51)) <| .o (op_assign z11) <| .o (op_assign z1) <| .n) fun n6 a w hst => ?_
    replace hst := hst.to [13,14] [_,_] [] rfl rfl
    refine hK8 _ _ ?_
    try clear hK8 K8
    refine wp_ret ?_
    obtain rfl := sj h
    exact ret_st undef [] hpl hst rfl (.tmp z0 (.tmp z1 .nil)) rfl rfl rfl
   ·replace h := ite_f b10 h
    refine wp_skip ?_
    refine hK2 _ _ ?_
    try clear hK2 K2
    refine sr mixed [] hst (fun _ => .o (op_field fld43_0 z1) <| .o (op_loadT (R := rI) (u := (l_).A) tok3 z0 rfl) <| .o (op_assign z0) <| .o (op_assign .k) <| .n) fun n7 a w hst => ?_
    replace hst := hst.to [2,3] [_,_] [] rfl rfl
    refine wp_ret ?_
    obtain rfl := sj h
    exact ret_st undef [] hpl hst rfl (.tmp z0 (.tmp z1 .nil)) rfl rfl rfl

/- (diorama/counts.Limit).bound -/
noncomputable def fcounts_Limit_bound (l_ : Scounts_Limit) (counts_ : (List Int)) : Option (Int) := (if (decide ((l_).B < (0:Int))) = true then (some (l_).Mul) else (idx counts_ (l_).B).bind fun t15 => (some (IntKind.i64.wrap ((l_).Mul * t15))))
set_option maxRecDepth 100000 in
set_option maxHeartbeats 4000000 in
theorem counts_Limit_bound_ok {l_ : Scounts_Limit} {counts_ : (List Int)} {r : Int} (h : fcounts_Limit_bound l_ counts_ = some r) : FnOk Tryz.prog 82 [rScounts_Limit.ty l_,tsl rI counts_] [] (fun _ => []) (fun _ => ti r) := by
 unfold fcounts_Limit_bound at h
 refine FnOk.enter Tryz.func82 rfl Tryz.ntmps82 (leb rfl) (fun M0 M w0 a hpl hst => ?_)
 replace hst : St M w0 18 [(0,rScounts_Limit.ty l_),(1,tsl rI counts_)] [] a w0 := hst
 refine sr mixed [] hst (fun _ => .o (op_boxR (R := rScounts_Limit) (u := l_) z0) <| .o (op_assign .k) <| .n) fun n0 a w hst => ?_
 replace hst := hst.to [0,3] [_,_] [] rfl rfl
 refine wp_seq_k (fun K2 hK2 => ?_)
 refine sr mixed [] hst (fun _ => .o (op_field fld43_1 z0) <| .o (op_loadT (R := rI) (u := (l_).B) tok3 z0 rfl) <| .o (op_lss z0 .k) <| .n) fun n1 a w hst => ?_
 replace hst := hst.to [2,3,4] [_,_,_] [] rfl rfl
 refine wt hst (fun b6 => ?_) (fun b6 => ?_)
 ·replace h := ite_t b6 h
  refine sr mixed [] hst (fun _ => .o (op_field fld43_2 z1) <| .o (op_loadT (R := rI) (u := (l_).Mul) tok3 z0 rfl) <| .o (op_assign z0) <| .n) fun n2 a w hst => ?_
  replace hst := hst.to [2] [_] [] rfl rfl
  refine wp_ret ?_
  obtain rfl := sj h
  exact ret_st undef [] hpl hst rfl (.tmp z0 .nil) rfl rfl rfl
 ·replace h := ite_f b6 h
  refine wp_skip ?_
  refine hK2 _ _ ?_
  try clear hK2 K2
  obtain ⟨t15,ht15,h⟩ := bind_some h
  refine sr mixed [] hst (fun _ => .o (op_field fld43_2 z1) <| .o (op_loadT (R := rI) (u := (l_).Mul) tok3 z0 rfl) <| .q 4 rfl <| .o (op_field fld43_1 z4) <| .o (op_loadT (R := rI) (u := (l_).B) tok3 z0 rfl) <| .o (op_index ud22 tok3 z2 z0 ht15) <| .o (op_load tok3 z0) <| .o (op_mul z5 z0) <| .o (op_assign z0) <| .n) fun n3 a w hst => ?_
  replace hst := hst.to [8] [_] [] rfl rfl
  refine wp_ret ?_
  obtain rfl := sj h
  exact ret_st undef [] hpl hst rfl (.tmp z0 .nil) rfl rfl rfl

/- (diorama/counts.Limit).holds -/
noncomputable def fcounts_Limit_holds (l_ : Scounts_Limit) (counts_ : (List Int)) : Option (Bool) := (if (l_).Least = true then (idx counts_ (l_).A).bind fun t10 => (fcounts_Limit_bound l_ counts_).bind fun t14 => (some (decide (t10 ≥ t14))) else (idx counts_ (l_).A).bind fun t19 => (fcounts_Limit_bound l_ counts_).bind fun t23 => (some (decide (t19 ≤ t23))))
set_option maxRecDepth 100000 in
set_option maxHeartbeats 4000000 in
theorem counts_Limit_holds_ok {l_ : Scounts_Limit} {counts_ : (List Int)} {r : Bool} (h : fcounts_Limit_holds l_ counts_ = some r) : FnOk Tryz.prog 46 [rScounts_Limit.ty l_,tsl rI counts_] [] (fun _ => []) (fun _ => tb r) := by
 unfold fcounts_Limit_holds at h
 refine FnOk.enter Tryz.func46 rfl Tryz.ntmps46 (leb rfl) (fun M0 M w0 a hpl hst => ?_)
 replace hst : St M w0 25 [(0,rScounts_Limit.ty l_),(1,tsl rI counts_)] [] a w0 := hst
 refine sr mixed [] hst (fun _ => .o (op_boxR (R := rScounts_Limit) (u := l_) z0) <| .o (op_assign .k) <| .n) fun n0 a w hst => ?_
 replace hst := hst.to [0,3] [_,_] [] rfl rfl
 refine wp_seq_k (fun K2 hK2 => ?_)
 refine sr mixed [] hst (fun _ => .o (op_field fld43_3 z0) <| .o (op_loadT (R := rBool) (u := (l_).Least) tok4 z0 rfl) <| .n) fun n1 a w hst => ?_
 replace hst := hst.to [1,2,3] [_,_,_] [] rfl rfl
 refine wt hst (fun b6 => ?_) (fun b6 => ?_)
 ·replace h := ite_t b6 h
  obtain ⟨t10,ht10,h⟩ := bind_some h
  obtain ⟨t14,ht14,h⟩ := bind_some h
  refine sr mixed [] hst (fun _ => .q 2 rfl <| .o (op_field fld43_0 z2) <| .o (op_loadT (R := rI) (u := (l_).A) tok3 z0 rfl) <| .o (op_index ud22 tok3 z2 z0 ht10) <| .o (op_load tok3 z0) <| .o (op_load tok43 z6) <| .q 8 rfl <| .o (op_callF call82 (counts_Limit_bound_ok ht14) (.cons (.of z1) <| .cons (.of z0) <| .nil)) <| .o (op_geq z3 z0) <| .o (op_assign z0) <| .n) fun n2 a w hst => ?_
  replace hst := hst.to [9] [_] [] rfl rfl
  refine wp_ret ?_
  obtain rfl := sj h
  exact ret_st undef [] hpl hst rfl (.tmp z0 .nil) rfl rfl rfl
 ·replace h := ite_f b6 h
  refine wp_skip ?_
  refine hK2 _ _ ?_
  try clear hK2 K2
  obtain ⟨t19,ht19,h⟩ := bind_some h
  obtain ⟨t23,ht23,h⟩ := bind_some h
  refine sr mixed [] hst (fun _ => .q 2 rfl <| .o (op_field fld43_0 z2) <| .o (op_loadT (R := rI) (u := (l_).A) tok3 z0 rfl) <| .o (op_index ud22 tok3 z2 z0 ht19) <| .o (op_load tok3 z0) <| .o (op_load tok43 z6) <| .q 8 rfl <| .o (op_callF call82 (counts_Limit_bound_ok ht23) (.cons (.of z1) <| .cons (.of z0) <| .nil)) <| .o (op_leq z3 z0) <| .o (op_assign z0) <| .n) fun n3 a w hst => ?_
  replace hst := hst.to [9] [_] [] rfl rfl
  refine wp_ret ?_
  obtain rfl := sj h
  exact ret_st undef [] hpl hst rfl (.tmp z0 .nil) rfl rfl rfl

/- (diorama/counts.numbers).broken -/
noncomputable def fcounts_numbers_broken (at_ : Scounts_numbers) (l_ : Scounts_Limit) : Option (Bool) := (fcounts_Limit_holds l_ (at_).L).bind fun t7 => (some (!t7))
set_option maxRecDepth 100000 in
set_option maxHeartbeats 4000000 in
theorem counts_numbers_broken_ok {at_ : Scounts_numbers} {l_ : Scounts_Limit} {r : Bool} (h : fcounts_numbers_broken at_ l_ = some r) : FnOk Tryz.prog 90 [rScounts_numbers.ty at_,rScounts_Limit.ty l_] [] (fun _ => []) (fun _ => tb r) := by
 unfold fcounts_numbers_broken at h
 refine FnOk.enter Tryz.func90 rfl Tryz.ntmps90 (leb rfl) (fun M0 M w0 a hpl hst => ?_)
 replace hst : St M w0 9 [(0,rScounts_numbers.ty at_),(1,rScounts_Limit.ty l_)] [] a w0 := hst
 refine sr mixed [] hst (fun _ => .o (op_boxR (R := rScounts_numbers) (u := at_) z0) <| .o (op_boxR (R := rScounts_Limit) (u := l_) z2) <| .o (op_assign .k) <| .n) fun n0 a w hst => ?_
 replace hst := hst.to [0,1] [_,_] [] rfl rfl
 obtain ⟨t7,ht7,h⟩ := bind_some h
 refine sr mixed [] hst (fun _ => .o (op_load tok43 z1) <| .o (op_sliceAR (L := (at_).L) ud103 tok3 z1 rfl (by decide) rfl) <| .o (op_callF call46 (counts_Limit_holds_ok ht7) (.cons (.of z1) <| .cons (.of z0) <| .nil)) <| .o (op_not z0) <| .o (op_assign z0) <| .n) fun n1 a w hst => ?_
 replace hst := hst.to [4] [_] [] rfl rfl
 refine wp_ret ?_
 obtain rfl := sj h
 exact ret_st undef [] hpl hst rfl (.tmp z0 .nil) rfl rfl rfl

/- diorama/counts.kept -/
noncomputable def fcounts_kept (l_ : (List Scounts_Limit)) : Option (Bool) := (tailrec (fun (s6 : Bool × Scounts_numbers) => ((if s6.1 = true then (tailrec (fun (s126 : Int × Bool × Scounts_numbers) => ((if (decide (s126.1 < (l_.length : Int))) = true then (idx l_ s126.1).bind fun t14 => (fcounts_Limit_up t14 s126.2.2).bind fun t19 => (if (decide (t19.2 > (65536:Int))) = true then (some (.inr (.inr false))) else (idx (s126.2.2).L t19.1).bind fun t26 => ((if (decide (t19.2 > t26)) = true then (idx (s126.2.2).L t19.1).bind fun t31 => (some (true,((s126.2.2).setI t19.1 t19.2))) else (some (s126.2.1,s126.2.2)))).bind fun (p171 : Bool × Scounts_numbers) => (some (.inl ((IntKind.i64.wrap (s126.1 + (1:Int))),p171.1,p171.2)))) else (some (.inr (.inl (s126.2.1,s126.2.2))))) : Option ((Int × Bool × Scounts_numbers) ⊕ ((Bool × Scounts_numbers) ⊕ (Bool))))) ((0:Int),false,s6.2)).bind fun (e127 : (Bool × Scounts_numbers) ⊕ (Bool)) => (match e127 with | .inl p158 => (some (.inl (p158.1,p158.2))) | .inr p159 => (some (.inr (.inr p159)))) else (some (.inr (.inl s6.2)))) : Option ((Bool × Scounts_numbers) ⊕ ((Scounts_numbers) ⊕ (Bool))))) (true,zz5)).bind fun (e7 : (Scounts_numbers) ⊕ (Bool)) => (match e7 with | .inl p118 => (fslices_ContainsFunc_Limit l_ (fun x0 => fcounts_numbers_broken p118 x0)).bind fun t36 => (some (!t36)) | .inr p119 => (some p119))
set_option maxRecDepth 100000 in
set_option maxHeartbeats 4000000 in
theorem counts_kept_ok {l_ : (List Scounts_Limit)} {r : Bool} (h : fcounts_kept l_ = some r) : FnOk Tryz.prog 57 [tsl rScounts_Limit l_] [] (fun _ => []) (fun _ => tb r) := by
 unfold fcounts_kept at h
 refine FnOk.enter Tryz.func57 rfl Tryz.ntmps57 (leb rfl) (fun M0 M w0 a hpl hst => ?_)
 replace hst : St M w0 38 [(0,tsl rScounts_Limit l_)] [] a w0 := hst
 refine sr mixed [] hst (fun _ => .o (op_assign .k) <| .n) fun n0 a w hst => ?_
 replace hst := hst.to [1] [_] [] rfl rfl
 refine sr mixed [v1 0 (fun v0 => box (rScounts_numbers.cs zz5) v0)] hst (fun _ => .m [] [0] rfl rfl rfl (op_alloc (R := rScounts_numbers) (a := zz5) tok103 zok103) <| .n) fun n1 a w hst => ?_
 replace hst := hst.to [0,1] [_,_] [_] rfl rfl
 refine wp_seq_k (fun K4 hK4 => ?_)
 refine sr mixed [] hst (fun _ => .o (op_assign .k) <| .n) fun n2 a w hst => ?_
 replace hst := hst.to [0,1,2] [_,_,_] [_] rfl rfl
 obtain ⟨e7,he7,h⟩ := bind_some h
 have hJp118 : ∀ (p118 : Scounts_numbers) a w,(.inl p118) = e7 → St M w0 38 [(3,tv (n1 0)),(0,tsl rScounts_Limit l_)] [box (rScounts_numbers.cs p118) (n1 0)] a w → K4 a w := by
  intro p118 a w he hst
  subst he
  simp only at h
  refine hK4 _ _ ?_
  try clear hK4 K4
  obtain ⟨t36,ht36,h⟩ := bind_some h
  refine sr mixed [] hst (fun _ => .q 1 rfl <| .u [0] rfl rfl (op_loadB (R := rScounts_numbers) (u := p118) tok103 z1 rfl) <| .o (op_meth (.cons z0 <| .nil)) <| .o (op_callF call55 (slices_ContainsFunc_Limit_ok ht36) (.cons (.of z2) <| .cons (.of (Fct.weak z0 (tfn_bm call90 (fun _ _ hq => counts_numbers_broken_ok hq)))) <| .nil)) <| .o (op_not z0) <| .o (op_assign z0) <| .n) fun n14 a w hst => ?_
  replace hst : St _ _ _ [_] [] _ _ := (hst.pick [5]).selA [] rfl
  refine wp_ret ?_
  obtain rfl := sj h
  exact ret_st undef [] hpl hst rfl (.tmp z0 .nil) rfl rfl rfl
 have hJp119 : ∀ (p119 : Bool) a w,(.inr p119) = e7 → St M w0 38 [(2,tb p119)] [] a w → Ret Tryz.prog Tryz.f57 M0 [] w0 (fun _ => []) (fun _ => tb r) .ret a w := by
  intro p119 a w he hst
  subst he
  simp only at h
  obtain rfl := sj h
  exact ret_st undef [] hpl hst rfl (.tmp z0 .nil) rfl rfl rfl
 refine wp_block ?_
 refine wp_loopK _ (fun (s6 : Bool × Scounts_numbers) a w => St M w0 38 [(4,tb s6.1),(3,tv (n1 0)),(0,tsl rScounts_Limit l_)] [box (rScounts_numbers.cs s6.2) (n1 0)] a w) _ _ he7 (hst.pick [0,1,2]) ?_
 clear h
 intro s6 o a w K121 hI h ho hK121
 have hst := hI
 clear hI
 refine wp_seq_k (fun K122 hK122 => ?_)
 refine sr mixed [] hst (fun _ => .q 0 rfl <| .n) fun n3 a w hst => ?_
 replace hst := hst.to [0,2,3] [_,_,_] [_] rfl rfl
 refine wt hst (fun b176 => ?_) (fun b176 => ?_)
 ·replace h := ite_t b176 h
  refine wp_skip ?_
  refine hK122 _ _ ?_
  try clear hK122 K122
  refine wp_block ?_
  refine sr mixed [] hst (fun _ => .o (op_assign .k) <| .n) fun n4 a w hst => ?_
  replace hst := hst.to [0,2,3] [_,_,_] [_] rfl rfl
  refine sr mixed [] hst (fun _ => .q 2 rfl <| .o (op_len ud31 z0) <| .o (op_move .k) <| .n) fun n5 a w hst => ?_
  replace hst := hst.to [0,1,2,3,4,5] [_,_,_,_,_,_] [_] rfl rfl
  obtain ⟨e127,he127,h⟩ := bind_some h
  have hJp158 : ∀ (p158 : Bool × Scounts_numbers) a w,(.inl p158) = e127 → St M w0 38 [(4,tb p158.1),(3,tv (n1 0)),(0,tsl rScounts_Limit l_)] [box (rScounts_numbers.cs p158.2) (n1 0)] a w → K121 a w := by
   intro p158 a w he hst
   subst he
   simp only at h
   exact hK121 _ _ _ (sj h).symm (hst.pick [0,1,2])
  have hJp159 : ∀ (p159 : Bool) a w,(.inr p159) = e127 → St M w0 38 [(2,tb p159)] [] a w → Ret Tryz.prog Tryz.f57 M0 [] w0 (fun _ => []) (fun _ => tb r) .ret a w := by
   intro p159 a w he hst
   subst he
   simp only at h
   exact hJp119 _ _ _ (ho _ (sj h).symm) (hst.pick [0])
  refine wp_block ?_
  refine wp_loopK _ (fun (s126 : Int × Bool × Scounts_numbers) a w => St M w0 38 [(10,tsl rScounts_Limit l_),(11,ti (l_.length : Int)),(12,ti s126.1),(4,tb s126.2.1),(3,tv (n1 0)),(0,tsl rScounts_Limit l_)] [box (rScounts_numbers.cs s126.2.2) (n1 0)] a w) _ _ he127 (hst.pick [0,1,2,3,4,5]) ?_
  clear h
  intro s126 o a w K160 hI h ho hK160
  have hst := hI
  clear hI
  refine sr mixed [] hst (fun _ => .o (op_lss z2 z1) <| .n) fun n6 a w hst => ?_
  replace hst := hst.to [0,1,2,3,4,5,6] [_,_,_,_,_,_,_] [_] rfl rfl
  refine wp_seq_k (fun K162 hK162 => ?_)
  refine wt hst (fun b175 => ?_) (fun b175 => ?_)
  ·replace h := ite_t b175 h
   refine wp_skip ?_
   refine hK162 _ _ ?_
   try clear hK162 K162
   refine wp_seq_k (fun K163 hK163 => ?_)
   refine wp_block ?_
   obtain ⟨t14,ht14,h⟩ := bind_some h
   refine sr mixed [v1 2 (fun v0 => box (rScounts_Limit.cs zz4) v0),v1 2 (fun v0 => box (rScounts_Limit.cs t14) v0)] hst (fun _ => .o (op_index ud31 tok43 z1 z3 ht14) <| .o (op_load tok43 z0) <| .m [] [1] rfl rfl rfl (op_alloc (R := rScounts_Limit) (a := zz4) tok43 zok43) <| .e [] [1] [2] rfl rfl rfl rfl (op_storeB (R := rScounts_Limit) (a := t14) tok43 z0 z1 (leb rfl)) <| .n) fun n7 a w hst => ?_
   replace hst : St _ _ _ [_,_,_,_,_,_,_] [_] _ _ := ((((hst.pick [2,4,5,6,7,8,9]).selA [1,0] rfl).shareB 0 rfl).add 0 rfl (fun _ _ _ h => h.2)).pick [0,3,4,5,6,7,8]
   obtain ⟨t19,ht19,h⟩ := bind_some h
   refine sr mixed [] hst (fun _ => .o (op_load tok43 z0) <| .u [0] rfl rfl (op_loadB (R := rScounts_numbers) (u := s126.2.2) tok103 z6 rfl) <| .o (op_callF call89 (counts_Limit_up_ok ht19) (.cons (.of z1) <| .cons (.of z0) <| .nil)) <| .q 0 rfl <| .o (op_extract z0 rfl) <| .o (op_extract z1 rfl) <| .o (op_assign z1) <| .o (op_assign z1) <| .n) fun n8 a w hst => ?_
   replace hst := hst.to [6,7,9,10,11,12,13,14] [_,_,_,_,_,_,_,_] [_] rfl rfl
   refine wp_seq_k (fun K167 hK167 => ?_)
   refine sr mixed [] hst (fun _ => .q 1 rfl <| .o (op_gtr z0 .k) <| .n) fun n9 a w hst => ?_
   replace hst := hst.to [1,2,3,4,5,6,7,8,9] [_,_,_,_,_,_,_,_,_] [_] rfl rfl
   refine wt hst (fun b174 => ?_) (fun b174 => ?_)
   ·replace h := ite_t b174 h
    refine sr mixed [] hst (fun _ => .o (op_assign .k) <| .n) fun n10 a w hst => ?_
    replace hst : St _ _ _ [_] [] _ _ := (hst.pick [0]).selA [] rfl
    refine wp_ret ?_
    exact hJp159 _ _ _ (ho _ (sj h).symm) (hst.pick [0])
   ·replace h := ite_f b174 h
    refine wp_skip ?_
    refine hK167 _ _ ?_
    try clear hK167 K167
    obtain ⟨t26,ht26,h⟩ := bind_some h
    refine sr mixed [] hst (fun _ => .q 2 rfl <| .q 2 rfl <| .u [0] rfl rfl (op_idxABd0 (L := (s126.2.2).L) ud103 tok3 rfl z9 z0 rfl ht26) <| .u [0] rfl rfl (op_loadBd (o := 0) (L := (s126.2.2).L) tok3 rfl z0 rfl ht26) <| .o (op_gtr z3 z0) <| .n) fun n11 a w hst => ?_
    replace hst := hst.to [4,6,7,8,9,10,11,12,13] [_,_,_,_,_,_,_,_,_] [_] rfl rfl
    obtain ⟨p171,hp171,h⟩ := bind_some h
    have hJp171 : ∀ a w,St M w0 38 [(4,tb p171.1),(10,tsl rScounts_Limit l_),(11,ti (l_.length : Int)),(12,ti s126.1),(3,tv (n1 0)),(0,tsl rScounts_Limit l_)] [box (rScounts_numbers.cs p171.2) (n1 0)] a w → K163 a w := by
     intro a w hst
     refine hK163 _ _ ?_
     try clear hK163 K163
     refine wr mixed [] hst (fun _ => .o (op_add z3 .k) <| .q 0 rfl <| .n) fun n13 a w hst => ?_
     replace hst := hst.to [1,2,3,4,5,6] [_,_,_,_,_,_] [_] rfl rfl
     exact hK160 _ _ _ (sj h).symm (hst.pick [2,3,0,1,4,5])
    replace h := hp171
    clear hp171
    refine wt hst (fun b173 => ?_) (fun b173 => ?_)
    ·replace h := ite_t b173 h
     obtain ⟨t31,ht31,h⟩ := bind_some h
     refine wr mixed [v0 (box (rScounts_numbers.cs ((s126.2.2).setI t19.1 t19.2)) (n1 0))] hst (fun _ => .q 1 rfl <| .q 3 rfl <| .u [0] rfl rfl (op_idxABd0 (L := (s126.2.2).L) ud103 tok3 rfl z9 z1 rfl ht31) <| .e [] [0] [1] rfl rfl rfl rfl (op_storeBd (a := t19.2) (Ts := (rScounts_numbers.cs s126.2.2)) (o := 0) (L := (s126.2.2).L) tok3 rfl z0 z1 ht31 (leb rfl) (Scounts_numbers.spl (pre := List.take 0 (rScounts_numbers.cs s126.2.2)) (post := List.drop 6 (rScounts_numbers.cs s126.2.2)) rfl ht31)) <| .o (op_assign .k) <| .n) fun n12 a w hst => ?_
     replace hst := hst.to [3,7,8,9,10,11] [_,_,_,_,_,_] [_] rfl rfl
     obtain rfl := sj h
     exact hJp171 _ _ (hst.pick [0,1,2,3,4,5])
    ·replace h := ite_f b173 h
     refine wp_skip ?_
     obtain rfl := sj h
     exact hJp171 _ _ (hst.pick [6,3,4,5,7,8])
  ·replace h := ite_f b175 h
   refine wp_exit ?_
   exact hJp158 _ _ _ (ho _ (sj h).symm) (hst.pick [4,5,6])
 ·replace h := ite_f b176 h
  refine wp_exit ?_
  exact hJp118 _ _ _ (ho _ (sj h).symm) (hst.pick [1,2])

/- math/bits.TrailingZeros32 -/
/- math/bits.TrailingZeros64 -/
noncomputable def fbits_TrailingZeros64 (x_ : Int) : Option (Int) := (if (x_ == (0:Int)) = true then (some (64:Int)) else (idx dB64L (ishr .u64 (IntKind.u64.wrap ((iand .u64 x_ (IntKind.u64.wrap (0 - x_))) * (285870213051353865:Int))) (58:Int))).bind fun t11 => (some (IntKind.i64.wrap t11)))
set_option maxRecDepth 100000 in
set_option maxHeartbeats 4000000 in
theorem bits_TrailingZeros64_ok {x_ : Int} {r : Int} (h : fbits_TrailingZeros64 x_ = some r) : FnOk Tryz.prog 93 [tv (.int .u64 x_)] [glo] (fun _ => []) (fun _ => ti r) := by
 unfold fbits_TrailingZeros64 at h
 refine FnOk.enter Tryz.func93 rfl Tryz.ntmps93 (leb rfl) (fun M0 M w0 a hpl hst => ?_)
 replace hst : St M w0 14 [(0,tv (.int .u64 x_))] [glo] a w0 := hst
 refine sr mixed [] hst (fun _ => .o (op_assign .k) <| .n) fun n0 a w hst => ?_
 replace hst := hst.to [1] [_] [_] rfl rfl
 refine wp_seq_k (fun K2 hK2 => ?_)
 refine sr mixed [] hst (fun _ => .q 0 rfl <| .o (op_eql z0 .k) <| .n) fun n1 a w hst => ?_
 replace hst := hst.to [1,2] [_,_] [_] rfl rfl
 refine wt hst (fun b6 => ?_) (fun b6 => ?_)
 ·replace h := ite_t b6 h
  refine sr mixed [] hst (fun _ => .o (op_assign .k) <| .n) fun n2 a w hst => ?_
  replace hst := hst.to [0] [_] [_] rfl rfl
  refine wp_ret ?_
  obtain rfl := sj h
  exact ret_st undef [] hpl hst rfl (.tmp z0 .nil) rfl rfl rfl
 ·replace h := ite_f b6 h
  refine wp_skip ?_
  refine hK2 _ _ ?_
  try clear hK2 K2
  obtain ⟨t11,ht11,h⟩ := bind_some h
  refine sr mixed [] hst (fun _ => .q 1 rfl <| .q 2 rfl <| .o (op_neg z0) <| .o (op_iand z2 z0) <| .o (op_mul z0 .k) <| .o (op_ishr z0 .k (by decide)) <| .u [0] rfl rfl (op_idxAG Tryz.underlying177 tok5 glo_has2 rfl z0 rfl ht11) <| .o (op_load tok5 z0) <| .o (op_conv Tryz.underlying5 ud3 z0) <| .o (op_assign z0) <| .n) fun n3 a w hst => ?_
  replace hst := hst.to [9] [_] [_] rfl rfl
  refine wp_ret ?_
  obtain rfl := sj h
  exact ret_st undef [] hpl hst rfl (.tmp z0 .nil) rfl rfl rfl

/- math/bits.TrailingZeros -/
noncomputable def fbits_TrailingZeros (x_ : Int) : Option (Int) := (fbits_TrailingZeros64 x_).bind fun t7 => (some t7)
set_option maxRecDepth 100000 in
set_option maxHeartbeats 4000000 in
theorem bits_TrailingZeros_ok {x_ : Int} {r : Int} (h : fbits_TrailingZeros x_ = some r) : FnOk Tryz.prog 59 [tv (.int .u64 x_)] [glo] (fun _ => []) (fun _ => ti r) := by
 unfold fbits_TrailingZeros at h
 refine FnOk.enter Tryz.func59 rfl Tryz.ntmps59 (leb rfl) (fun M0 M w0 a hpl hst => ?_)
 replace hst : St M w0 8 [(0,tv (.int .u64 x_))] [glo] a w0 := hst
 refine sr mixed [] hst (fun _ => .o (op_assign .k) <| .n) fun n0 a w hst => ?_
 replace hst := hst.to [1] [_] [_] rfl rfl
 refine wp_seq_k (fun K2 hK2 => ?_)
 refine wp_constF ?_
 refine wp_skip ?_
 refine hK2 _ _ ?_
 try clear hK2 K2
 obtain ⟨t7,ht7,h⟩ := bind_some h
 refine sr mixed [] hst (fun _ => .q 0 rfl <| .u [0] rfl rfl ((op_callF call93 (bits_TrailingZeros64_ok ht7) (.cons (.of z0) <| .nil)).glo) <| .o (op_assign z0) <| .n) fun n2 a w hst => ?_
 replace hst := hst.to [2] [_] [_] rfl rfl
 refine wp_ret ?_
 obtain rfl := sj h
 exact ret_st undef [] hpl hst rfl (.tmp z0 .nil) rfl rfl rfl

/- diorama/counts.some -/
noncomputable def fcounts_some (l_ : (List Scounts_Limit)) (set_ : Int) : Option ((List Scounts_Limit)) := (tailrec (fun (s6 : Int × List Scounts_Limit) => ((if (s6.1 != (0:Int)) = true then (fbits_TrailingZeros s6.1).bind fun t17 => (idx l_ t17).bind fun t18 => (rm (s6.2.length + [t18].length)).bind fun _ => (some (.inl ((iand .u64 s6.1 (IntKind.u64.wrap (s6.1 - (1:Int)))),(s6.2 ++ [t18])))) else (some (.inr s6.2))) : Option ((Int × List Scounts_Limit) ⊕ ((List Scounts_Limit))))) (set_,([] : List Scounts_Limit))).bind fun (p17 : (List Scounts_Limit)) => (some p17)
set_option maxRecDepth 100000 in
set_option maxHeartbeats 4000000 in
theorem counts_some_ok {l_ : (List Scounts_Limit)} {set_ : Int} {r : (List Scounts_Limit)} (h : fcounts_some l_ set_ = some r) : FnOk Tryz.prog 91 [tsl rScounts_Limit l_,tv (.int .u64 set_)] [glo] (fun _ => []) (fun _ => tsl rScounts_Limit r) := by
 unfold fcounts_some at h
 refine FnOk.enter Tryz.func91 rfl Tryz.ntmps91 (leb rfl) (fun M0 M w0 a hpl hst => ?_)
 replace hst : St M w0 23 [(0,tsl rScounts_Limit l_),(1,tv (.int .u64 set_))] [glo] a w0 := hst
 refine sr mixed [] hst (fun _ => .o (op_assign (.nilsl (R := rScounts_Limit))) <| .n) fun n0 a w hst => ?_
 replace hst := hst.to [1,2] [_,_] [_] rfl rfl
 refine sr mixed [] hst (fun _ => .o (op_assign .k) <| .n) fun n1 a w hst => ?_
 replace hst : St _ _ _ [_,_,_] [_,_] _ _ := (hst.pick [0,1,2]).nil (rScounts_Limit) 43
 refine wp_seq_k (fun K4 hK4 => ?_)
 refine sr mixed [] hst (fun _ => .q 2 rfl <| .o (op_assign z0) <| .n) fun n2 a w hst => ?_
 replace hst := hst.to [1,2,3] [_,_,_] [_,_] rfl rfl
 obtain ⟨e7,he7,h⟩ := bind_some h
 have hJp17 : ∀ (p17 : List Scounts_Limit) (v18 : Value) a w,p17 = e7 → St M w0 23 [(5,tv v18)] [own rScounts_Limit 43 p17 v18,glo] a w → K4 a w := by
  intro p17 v18 a w he hst
  subst he
  refine hK4 _ _ ?_
  try clear hK4 K4
  refine sr mixed [] hst (fun _ => .q 0 rfl <| .o (op_assign z0) <| .n) fun n6 a w hst => ?_
  replace hst := hst.to [0,1,2] [_,_,_] [_,_] rfl rfl
  refine wp_ret ?_
  replace hst : St _ _ _ [_] [_] _ _ := (hst.shareO 1 rfl).pick [0]
  obtain rfl := sj h
  exact ret_st undef [] hpl hst rfl (.tmp z0 .nil) rfl rfl rfl
 refine wp_block ?_
 refine wp_loopK _ (fun (s6 : Int × List Scounts_Limit) a w => ∃ v12 : Value,St M w0 23 [(6,tv (.int .u64 s6.1)),(5,tv v12),(0,tsl rScounts_Limit l_)] [own rScounts_Limit 43 s6.2 v12,glo] a w) _ _ he7 ⟨(.slice none 0 0),hst.pick [0,1,2]⟩ ?_
 clear h
 intro s6 o a w K20 hI h ho hK20
 obtain ⟨v12,hst⟩ := hI
 refine wp_seq_k (fun K21 hK21 => ?_)
 refine sr mixed [] hst (fun _ => .q 0 rfl <| .o (op_neq z0 .k) <| .n) fun n3 a w hst => ?_
 replace hst := hst.to [1,2,3,4] [_,_,_,_] [_,_] rfl rfl
 refine wt hst (fun b24 => ?_) (fun b24 => ?_)
 ·replace h := ite_t b24 h
  refine wp_skip ?_
  refine hK21 _ _ ?_
  try clear hK21 K21
  refine wp_seq_k (fun K23 hK23 => ?_)
  refine wp_block ?_
  obtain ⟨t17,ht17,h⟩ := bind_some h
  obtain ⟨t18,ht18,h⟩ := bind_some h
  obtain ⟨u21,hu21,h⟩ := bind_some h
  refine wr mixed [v1 7 (fun v0 => own rScounts_Limit 43 (s6.2 ++ [t18]) v0)] hst (fun _ => .q 2 rfl <| .q 4 rfl <| .q 3 rfl <| .u [1] rfl rfl ((op_callF call59 (bits_TrailingZeros_ok ht17) (.cons (.of z0) <| .nil)).glo) <| .o (op_index ud31 tok43 z2 z0 ht18) <| .o (op_load tok43 z0) <| .o (op_buildSl (R := rScounts_Limit) (us := [t18]) ud31 tok43 (.cons z0 <| .nil _) rfl (leb rfl)) <| .e [] [0] [2] rfl rfl rfl rfl (op_append (R := rScounts_Limit) ud31 tok43 (leb rfl) z6 z0 hu21) <| .ud (f := fun v => tv v) 7 rfl [] rfl rfl (op_assign z0) <| .n) fun n5 a w hst => ?_
  replace hst := hst.to [7,8,10,11] [_,_,_,_] [_,_] rfl rfl
  refine hK23 _ _ ?_
  try clear hK23 K23
  refine wr mixed [] hst (fun _ => .q 2 rfl <| .q 3 rfl <| .o (op_sub z0 .k) <| .o (op_iand z2 z0) <| .o (op_assign z0) <| .n) fun n4 a w hst => ?_
  replace hst := hst.to [4,5,6,7] [_,_,_,_] [_,_] rfl rfl
  exact hK20 _ _ _ (sj h).symm ⟨(n5 7),(hst.pick [0,2,3]).selA [1,0] rfl⟩
 ·replace h := ite_f b24 h
  refine wp_exit ?_
  exact hJp17 _ v12 _ _ (ho _ (sj h).symm) (hst.pick [2])

/- diorama/counts.smallest -/
noncomputable def fcounts_smallestS (self : (List Scounts_Limit) → Int → Int → Int → Option (Int)) (l_ : (List Scounts_Limit)) (set_ : Int) (from_ : Int) (many_ : Int) : Option (Int) := (nn (IntKind.i64.wrap ((64:Int) - (l_.length : Int)))).bind fun _ => (nn from_).bind fun _ => (nn from_).bind fun _ => (fcounts_some l_ (ior .u64 set_ (ishl .u64 (ishr .u64 (ishr .u64 (18446744073709551615:Int) (IntKind.i64.wrap ((64:Int) - (l_.length : Int)))) from_) from_))).bind fun t24 => (fcounts_kept t24).bind fun t25 => (if t25 = true then (some (0:Int)) else (if (many_ == (0:Int)) = true then (fcounts_some l_ set_).bind fun t30 => (fcounts_kept t30).bind fun t31 => (if t31 = true then (some (0:Int)) else (some set_)) else (tailrec (fun (s15 : Int) => ((if (decide ((IntKind.i64.wrap (s15 + many_)) ≤ (l_.length : Int))) = true then (nn s15).bind fun _ => (self l_ (ior .u64 set_ (ishl .u64 (1:Int) s15)) (IntKind.i64.wrap (s15 + (1:Int))) (IntKind.i64.wrap (many_ - (1:Int)))).bind fun t51 => (if (t51 != (0:Int)) = true then (some (.inr (.inr t51))) else (some (.inl (IntKind.i64.wrap (s15 + (1:Int)))))) else (some (.inr (.inl ())))) : Option ((Int) ⊕ ((Unit) ⊕ (Int))))) from_).bind fun (e16 : (Unit) ⊕ (Int)) => (match e16 with | .inl _ => (some (0:Int)) | .inr p34 => (some p34))))
set_option maxRecDepth 100000 in
set_option maxHeartbeats 4000000 in
theorem counts_smallest_okS {self : (List Scounts_Limit) → Int → Int → Int → Option (Int)} (hself : ∀ (l_ : (List Scounts_Limit)) (set_ : Int) (from_ : Int) (many_ : Int) (r : Int),self l_ set_ from_ many_ = some r → FnOk Tryz.prog 58 [tsl rScounts_Limit l_,tv (.int .u64 set_),ti from_,ti many_] [glo] (fun _ => []) (fun _ => tv (.int .u64 r))) {l_ : (List Scounts_Limit)} {set_ : Int} {from_ : Int} {many_ : Int} {r : Int} (h : fcounts_smallestS self l_ set_ from_ many_ = some r) : FnOk Tryz.prog 58 [tsl rScounts_Limit l_,tv (.int .u64 set_),ti from_,ti many_] [glo] (fun _ => []) (fun _ => tv (.int .u64 r)) := by
 unfold fcounts_smallestS at h
 refine FnOk.enter Tryz.func58 rfl Tryz.ntmps58 (leb rfl) (fun M0 M w0 a hpl hst => ?_)
 replace hst : St M w0 55 [(0,tsl rScounts_Limit l_),(1,tv (.int .u64 set_)),(2,ti from_),(3,ti many_)] [glo] a w0 := hst
 refine sr mixed [] hst (fun _ => .o (op_assign .k) <| .n) fun n0 a w hst => ?_
 replace hst := hst.to [1,2,3,4] [_,_,_,_] [_] rfl rfl
 refine wp_seq_k (fun K2 hK2 => ?_)
 obtain ⟨u15,hu15,h⟩ := bind_some h
 obtain ⟨u17,hu17,h⟩ := bind_some h
 obtain ⟨u19,hu19,h⟩ := bind_some h
 refine wr mixed [] hst (fun _ => .q 0 rfl <| .o (op_len ud31 z0) <| .o (op_sub .k z0) <| .o (op_ishr .k z0 (nn_le hu15)) <| .q 6 rfl <| .o (op_ishr z1 z0 (nn_le hu17)) <| .q 8 rfl <| .o (op_ishl z1 z0 (nn_le hu19)) <| .o (op_assign z0) <| .n) fun n1 a w hst => ?_
 replace hst := hst.to [8,9,10,11,12] [_,_,_,_,_] [_] rfl rfl
 refine hK2 _ _ ?_
 try clear hK2 K2
 refine wp_seq_k (fun K3 hK3 => ?_)
 obtain ⟨t24,ht24,h⟩ := bind_some h
 obtain ⟨t25,ht25,h⟩ := bind_some h
 refine sr mixed [] hst (fun _ => .q 1 rfl <| .q 3 rfl <| .q 2 rfl <| .o (op_ior z1 z0) <| .u [0] rfl rfl ((op_callF call91 (counts_some_ok ht24) (.cons (.of z3) <| .cons (.of z0) <| .nil)).glo) <| .o (op_callF call57 (counts_kept_ok ht25) (.cons (.of z0) <| .nil)) <| .n) fun n2 a w hst => ?_
 replace hst := hst.to [5,7,8,9,10] [_,_,_,_,_] [_] rfl rfl
 refine wt hst (fun b46 => ?_) (fun b46 => ?_)
 ·replace h := ite_t b46 h
  refine sr mixed [] hst (fun _ => .o (op_assign .k) <| .n) fun n3 a w hst => ?_
  replace hst := hst.to [0] [_] [_] rfl rfl
  refine wp_ret ?_
  obtain rfl := sj h
  exact ret_st undef [] hpl hst rfl (.tmp z0 .nil) rfl rfl rfl
 ·replace h := ite_f b46 h
  refine wp_skip ?_
  refine hK3 _ _ ?_
  try clear hK3 K3
  refine wp_seq_k (fun K6 hK6 => ?_)
  refine sr mixed [] hst (fun _ => .q 4 rfl <| .o (op_eql z0 .k) <| .n) fun n4 a w hst => ?_
  replace hst := hst.to [1,3,4,5,6] [_,_,_,_,_] [_] rfl rfl
  refine wt hst (fun b45 => ?_) (fun b45 => ?_)
  ·replace h := ite_t b45 h
   refine wp_seq_k (fun K8 hK8 => ?_)
   obtain ⟨t30,ht30,h⟩ := bind_some h
   obtain ⟨t31,ht31,h⟩ := bind_some h
   refine sr mixed [] hst (fun _ => .q 1 rfl <| .q 3 rfl <| .u [0] rfl rfl ((op_callF call91 (counts_some_ok ht30) (.cons (.of z1) <| .cons (.of z0) <| .nil)).glo) <| .o (op_callF call57 (counts_kept_ok ht31) (.cons (.of z0) <| .nil)) <| .n) fun n5 a w hst => ?_
   replace hst := hst.to [3,6] [_,_] [_] rfl rfl
   refine wt hst (fun b12 => ?_) (fun b12 => ?_)
   ·replace h := ite_t b12 h
    refine sr mixed [] hst (fun _ => .o (op_assign .k) <| .n) fun n6 a w hst => ?_
    replace hst := hst.to [0] [_] [_] rfl rfl
    refine wp_ret ?_
    obtain rfl := sj h
    exact ret_st undef [] hpl hst rfl (.tmp z0 .nil) rfl rfl rfl
   ·replace h := ite_f b12 h
    refine wp_skip ?_
    refine hK8 _ _ ?_
    try clear hK8 K8
    refine sr mixed [] hst (fun _ => .q 1 rfl <| .o (op_assign z0) <| .n) fun n7 a w hst => ?_
    replace hst := hst.to [1] [_] [_] rfl rfl
    refine wp_ret ?_
    obtain rfl := sj h
    exact ret_st undef [] hpl hst rfl (.tmp z0 .nil) rfl rfl rfl
  ·replace h := ite_f b45 h
   refine wp_skip ?_
   refine hK6 _ _ ?_
   try clear hK6 K6
   refine wp_seq_k (fun K13 hK13 => ?_)
   refine sr mixed [] hst (fun _ => .q 3 rfl <| .o (op_assign z0) <| .n) fun n8 a w hst => ?_
   replace hst := hst.to [1,3,4,6] [_,_,_,_] [_] rfl rfl
   obtain ⟨e16,he16,h⟩ := bind_some h
   have hJp33 : ∀ (p33 : Unit) a w,(.inl p33) = e16 → St M w0 55 [] [glo] a w → K13 a w := by
    intro p33 a w he hst
    subst he
    simp only at h
    refine hK13 _ _ ?_
    try clear hK13 K13
    refine sr mixed [] hst (fun _ => .o (op_assign .k) <| .n) fun n14 a w hst => ?_
    replace hst := hst.to [0] [_] [_] rfl rfl
    refine wp_ret ?_
    obtain rfl := sj h
    exact ret_st undef [] hpl hst rfl (.tmp z0 .nil) rfl rfl rfl
   have hJp34 : ∀ (p34 : Int) a w,(.inr p34) = e16 → St M w0 55 [(8,tv (.int .u64 p34))] [glo] a w → Ret Tryz.prog Tryz.f58 M0 [glo] w0 (fun _ => []) (fun _ => tv (.int .u64 r)) .ret a w := by
    intro p34 a w he hst
    subst he
    simp only at h
    obtain rfl := sj h
    exact ret_st undef [] hpl hst rfl (.tmp z0 .nil) rfl rfl rfl
   refine wp_block ?_
   refine wp_loopK _ (fun (s15 : Int) a w => St M w0 55 [(10,ti s15),(0,tsl rScounts_Limit l_),(1,tv (.int .u64 set_)),(3,ti many_)] [glo] a w) _ _ he16 (hst.pick [0,1,2,3]) ?_
   clear h
   intro s15 o a w K36 hI h ho hK36
   have hst := hI
   clear hI
   refine wp_seq_k (fun K37 hK37 => ?_)
   refine sr mixed [] hst (fun _ => .q 0 rfl <| .q 4 rfl <| .o (op_add z1 z0) <| .q 4 rfl <| .o (op_len ud31 z0) <| .o (op_leq z2 z0) <| .n) fun n9 a w hst => ?_
   replace hst := hst.to [5,6,7,8,9] [_,_,_,_,_] [_] rfl rfl
   refine wt hst (fun b44 => ?_) (fun b44 => ?_)
   ·replace h := ite_t b44 h
    refine wp_skip ?_
    refine hK37 _ _ ?_
    try clear hK37 K37
    refine wp_seq_k (fun K39 hK39 => ?_)
    refine wp_block ?_
    refine wp_seq_k (fun K40 hK40 => ?_)
    obtain ⟨u45,hu45,h⟩ := bind_some h
    obtain ⟨t51,ht51,h⟩ := bind_some h
    refine wr mixed [] hst (fun _ => .q 2 rfl <| .q 4 rfl <| .q 3 rfl <| .o (op_ishl .k z0 (nn_le hu45)) <| .o (op_ior z2 z0) <| .q 6 rfl <| .o (op_add z0 .k) <| .q 11 rfl <| .o (op_sub z0 .k) <| .u [0] rfl rfl ((op_callF call58 (hself _ _ _ _ _ ht51) (.cons (.of z8) <| .cons (.of z4) <| .cons (.of z2) <| .cons (.of z0) <| .nil)).glo) <| .o (op_assign z0) <| .n) fun n11 a w hst => ?_
    replace hst := hst.to [10,12,13,14,15] [_,_,_,_,_] [_] rfl rfl
    refine hK40 _ _ ?_
    try clear hK40 K40
    refine sr mixed [] hst (fun _ => .q 0 rfl <| .o (op_neq z0 .k) <| .n) fun n12 a w hst => ?_
    replace hst := hst.to [1,2,3,4,5,6] [_,_,_,_,_,_] [_] rfl rfl
    refine wt hst (fun b43 => ?_) (fun b43 => ?_)
    ·replace h := ite_t b43 h
     refine sr mixed [] hst (fun _ => .q 1 rfl <| .o (op_assign z0) <| .n) fun n13 a w hst => ?_
     replace hst := hst.to [1] [_] [_] rfl rfl
     refine wp_ret ?_
     exact hJp34 _ _ _ (ho _ (sj h).symm) (hst.pick [0])
    ·replace h := ite_f b43 h
     refine wp_skip ?_
     refine hK39 _ _ ?_
     try clear hK39 K39
     refine wr mixed [] hst (fun _ => .q 2 rfl <| .o (op_add z0 .k) <| .o (op_assign z0) <| .n) fun n10 a w hst => ?_
     replace hst := hst.to [2,5,6,7] [_,_,_,_] [_] rfl rfl
     exact hK36 _ _ _ (sj h).symm (hst.pick [0,1,2,3])
   ·replace h := ite_f b44 h
    refine wp_exit ?_
    exact hJp33 _ _ _ (ho _ (sj h).symm) (hst.pick [])
noncomputable def gcounts_smallestN : Nat → (List Scounts_Limit) → Int → Int → Int → Option (Int)
 | 0 => fun _ _ _ _ => none
 | n + 1 => fcounts_smallestS (gcounts_smallestN n)
theorem gcounts_smallestN_ok : ∀ (n : Nat) (l_ : (List Scounts_Limit)) (set_ : Int) (from_ : Int) (many_ : Int) (r : Int),gcounts_smallestN n l_ set_ from_ many_ = some r → FnOk Tryz.prog 58 [tsl rScounts_Limit l_,tv (.int .u64 set_),ti from_,ti many_] [glo] (fun _ => []) (fun _ => tv (.int .u64 r))
 | 0,_,_,_,_,r,h => by cases h
 | n + 1,l_,set_,from_,many_,r,h => counts_smallest_okS (fun l_ set_ from_ many_ r h => gcounts_smallestN_ok n l_ set_ from_ many_ r h) h
noncomputable def fcounts_smallest (l_ : (List Scounts_Limit)) (set_ : Int) (from_ : Int) (many_ : Int) : Option (Int) := gcounts_smallestN (many_.natAbs + 2) l_ set_ from_ many_
theorem counts_smallest_ok {l_ : (List Scounts_Limit)} {set_ : Int} {from_ : Int} {many_ : Int} {r : Int} (h : fcounts_smallest l_ set_ from_ many_ = some r) : FnOk Tryz.prog 58 [tsl rScounts_Limit l_,tv (.int .u64 set_),ti from_,ti many_] [glo] (fun _ => []) (fun _ => tv (.int .u64 r)) := gcounts_smallestN_ok _ _ _ _ _ _ h

/- diorama/counts.Clash -/
noncomputable def fcounts_Clash (n_ : Int) (l_ : (List Scounts_Limit)) : Option ((List Int) × Int) := (opt (((decide (n_ < (1:Int))) || (decide (n_ > (6:Int)))) == false) (fslices_ContainsFunc_Limit l_ (fun x0 => fcounts_Clashq1 x0 n_)) default).bind fun t19 => (if (((decide (n_ < (1:Int))) || (decide (n_ > (6:Int)))) || t19) = true then (some (([] : List Int),(1:Int))) else (if (decide ((l_.length : Int) > (24:Int))) = true then (some (([] : List Int),(4:Int))) else (fcounts_kept l_).bind fun t27 => (if t27 = true then (some (([] : List Int),(6:Int))) else (tailrec (fun (s12 : Int × Int) => ((if (s12.2 == (0:Int)) = true then (fcounts_smallest l_ (0:Int) (0:Int) s12.1).bind fun t34 => (some (.inl ((IntKind.i64.wrap (s12.1 + (1:Int))),t34))) else (some (.inr s12.2))) : Option ((Int × Int) ⊕ ((Int))))) ((1:Int),(0:Int))).bind fun (p22 : (Int)) => (tailrec (fun (s26 : Int × List Int) => ((if (s26.1 != (0:Int)) = true then (fbits_TrailingZeros s26.1).bind fun t43 => (rm (s26.2.length + [t43].length)).bind fun _ => (some (.inl ((iand .u64 s26.1 (IntKind.u64.wrap (s26.1 - (1:Int)))),(s26.2 ++ [t43])))) else (some (.inr s26.2))) : Option ((Int × List Int) ⊕ ((List Int))))) (p22,([] : List Int))).bind fun (p37 : (List Int)) => (some (p37,(0:Int))))))
set_option maxRecDepth 100000 in
set_option maxHeartbeats 4000000 in
theorem counts_Clash_ok {n_ : Int} {l_ : (List Scounts_Limit)} {r : (List Int) × Int} (h : fcounts_Clash n_ l_ = some r) : FnOk Tryz.prog 27 [ti n_,tsl rScounts_Limit l_] [glo] (fun _ => []) (fun _ => ttup [tsl rI r.1,ti r.2]) := by
 unfold fcounts_Clash at h
 refine FnOk.enter Tryz.func27 rfl Tryz.ntmps27 (leb rfl) (fun M0 M w0 a hpl hst => ?_)
 replace hst : St M w0 47 [(0,ti n_),(1,tsl rScounts_Limit l_)] [glo] a w0 := hst
 refine sr mixed [] hst (fun _ => .o (op_boxR (R := rI) (u := n_) z0) <| .o (op_assign (.nilsl (R := rI))) <| .o (op_assign .k) <| .n) fun n0 a w hst => ?_
 replace hst := hst.to [0,4] [_,_] [_] rfl rfl
 refine wp_seq_k (fun K2 hK2 => ?_)
 refine wp_block ?_
 obtain ⟨t19,ht19,h⟩ := bind_some h
 refine sr mixed [] hst (fun _ => .o (op_load tok3 z0) <| .o (op_lss z0 .k) <| .q 0 rfl <| .g rfl rfl (.b 0 rfl) (fun _ => op_load tok3 z3) <| .g rfl rfl (.b 1 rfl) (fun hc => op_gtr (.cond z0 hc) .k) <| .o (op_or z2 (fun hp => (.cond z0 (beqF hp)))) <| .q 0 rfl <| .g rfl rfl (.b 0 rfl) (fun _ => op_move z8) <| .g rfl rfl (.b 1 rfl) (fun _ => op_clo (.cons z8 <| .nil)) <| .g rfl rfl (.b 2 rfl) (fun hc => op_callF call55 (slices_ContainsFunc_Limit_ok (opt_t ht19 hc)) (.cons (.of (.cond z1 hc)) <| .cons (.of (Fct.weak (.cond z0 hc) (tfn_of call56 (fun _ _ hq => counts_Clashq1_ok hq)))) <| .nil)) <| .o (op_or z3 (fun hp => (.cond z0 (beqF hp)))) <| .o (op_assign z0) <| .n) fun n1 a w hst => ?_
 replace hst := hst.to [11,13] [_,_] [_] rfl rfl
 refine wt hst (fun b52 => ?_) (fun b52 => ?_)
 ·replace h := ite_t b52 h
  refine sr mixed [] hst (fun _ => .o (op_assign (.nilsl (R := rI))) <| .o (op_assign .k) <| .n) fun n2 a w hst => ?_
  replace hst := hst.to [0,1] [_,_] [_] rfl rfl
  refine wp_ret ?_
  obtain rfl := sj h
  exact ret_st undef [] hpl hst rfl (.tmp z0 (.tmp z1 .nil)) rfl rfl rfl
 ·replace h := ite_f b52 h
  refine sr mixed [] hst (fun _ => .q 1 rfl <| .o (op_len ud31 z0) <| .o (op_gtr z0 .k) <| .o (op_assign z0) <| .n) fun n3 a w hst => ?_
  replace hst := hst.to [3,5] [_,_] [_] rfl rfl
  refine wt hst (fun b51 => ?_) (fun b51 => ?_)
  ·replace h := ite_t b51 h
   refine sr mixed [] hst (fun _ => .o (op_assign (.nilsl (R := rI))) <| .o (op_assign .k) <| .n) fun n4 a w hst => ?_
   replace hst := hst.to [0,1] [_,_] [_] rfl rfl
   refine wp_ret ?_
   obtain rfl := sj h
   exact ret_st undef [] hpl hst rfl (.tmp z0 (.tmp z1 .nil)) rfl rfl rfl
  ·replace h := ite_f b51 h
   obtain ⟨t27,ht27,h⟩ := bind_some h
   refine sr mixed [] hst (fun _ => .q 1 rfl <| .o (op_callF call57 (counts_kept_ok ht27) (.cons (.of z0) <| .nil)) <| .o (op_assign z0) <| .n) fun n5 a w hst => ?_
   replace hst := hst.to [2,4] [_,_] [_] rfl rfl
   refine wt hst (fun b50 => ?_) (fun b50 => ?_)
   ·replace h := ite_t b50 h
    refine sr mixed [] hst (fun _ => .o (op_assign (.nilsl (R := rI))) <| .o (op_assign .k) <| .n) fun n6 a w hst => ?_
    replace hst := hst.to [0,1] [_,_] [_] rfl rfl
    refine wp_ret ?_
    obtain rfl := sj h
    exact ret_st undef [] hpl hst rfl (.tmp z0 (.tmp z1 .nil)) rfl rfl rfl
   ·replace h := ite_f b50 h
    refine wp_skip ?_
    refine hK2 _ _ ?_
    try clear hK2 K2
    refine sr mixed [] hst (fun _ => .o (op_assign .k) <| .n) fun n7 a w hst => ?_
    replace hst := hst.to [0,2] [_,_] [_] rfl rfl
    refine wp_seq_k (fun K10 hK10 => ?_)
    refine sr mixed [] hst (fun _ => .o (op_assign .k) <| .n) fun n8 a w hst => ?_
    replace hst := hst.to [0,1,2] [_,_,_] [_] rfl rfl
    obtain ⟨e13,he13,h⟩ := bind_some h
    have hJp22 : ∀ (p22 : Int) a w,p22 = e13 → St M w0 47 [(6,tv (.int .u64 p22))] [glo] a w → K10 a w := by
     intro p22 a w he hst
     subst he
     refine hK10 _ _ ?_
     try clear hK10 K10
     refine sr mixed [] hst (fun _ => .o (op_assign .k) <| .n) fun n12 a w hst => ?_
     replace hst : St _ _ _ [_,_] [_,_] _ _ := (hst.pick [0,1]).nil (rI) 3
     refine wp_seq_k (fun K25 hK25 => ?_)
     obtain ⟨e27,he27,h⟩ := bind_some h
     have hJp37 : ∀ (p37 : List Int) (v38 : Value) a w,p37 = e27 → St M w0 47 [(8,tv v38)] [own rI 3 p37 v38,glo] a w → K25 a w := by
      intro p37 v38 a w he hst
      subst he
      refine hK25 _ _ ?_
      try clear hK25 K25
      refine sr mixed [] hst (fun _ => .q 0 rfl <| .o (op_assign z0) <| .o (op_assign .k) <| .n) fun n16 a w hst => ?_
      replace hst := hst.to [0,1,2,3] [_,_,_,_] [_,_] rfl rfl
      refine wp_ret ?_
      replace hst : St _ _ _ [_,_] [_] _ _ := (hst.shareO 1 rfl).pick [0,3]
      obtain rfl := sj h
      exact ret_st undef [] hpl hst rfl (.tmp z0 (.tmp z1 .nil)) rfl rfl rfl
     refine wp_block ?_
     refine wp_loopK _ (fun (s26 : Int × List Int) a w => ∃ v32 : Value,St M w0 47 [(8,tv v32),(6,tv (.int .u64 s26.1))] [own rI 3 s26.2 v32,glo] a w) _ _ he27 ⟨(.slice none 0 0),hst.pick [0,1]⟩ ?_
     clear h
     intro s26 o a w K40 hI h ho hK40
     obtain ⟨v32,hst⟩ := hI
     refine wp_seq_k (fun K41 hK41 => ?_)
     refine sr mixed [] hst (fun _ => .q 1 rfl <| .o (op_neq z0 .k) <| .n) fun n13 a w hst => ?_
     replace hst := hst.to [1,2,3] [_,_,_] [_,_] rfl rfl
     refine wt hst (fun b44 => ?_) (fun b44 => ?_)
     ·replace h := ite_t b44 h
      refine wp_skip ?_
      refine hK41 _ _ ?_
      try clear hK41 K41
      refine wp_seq_k (fun K43 hK43 => ?_)
      refine wp_block ?_
      obtain ⟨t43,ht43,h⟩ := bind_some h
      obtain ⟨u45,hu45,h⟩ := bind_some h
      refine wr mixed [v1 4 (fun v0 => own rI 3 (s26.2 ++ [t43]) v0)] hst (fun _ => .q 1 rfl <| .q 3 rfl <| .u [1] rfl rfl ((op_callF call59 (bits_TrailingZeros_ok ht43) (.cons (.of z0) <| .nil)).glo) <| .o (op_buildSl (R := rI) (us := [t43]) ud22 tok3 (.cons z0 <| .nil _) rfl (leb rfl)) <| .e [] [0] [2] rfl rfl rfl rfl (op_append (R := rI) ud22 tok3 (leb rfl) z3 z0 hu45) <| .ud (f := fun v => tv v) 4 rfl [] rfl rfl (op_assign z0) <| .n) fun n15 a w hst => ?_
      replace hst := hst.to [4,5,7] [_,_,_] [_,_] rfl rfl
      refine hK43 _ _ ?_
      try clear hK43 K43
      refine wr mixed [] hst (fun _ => .q 2 rfl <| .q 3 rfl <| .o (op_sub z0 .k) <| .o (op_iand z2 z0) <| .o (op_assign z0) <| .n) fun n14 a w hst => ?_
      replace hst := hst.to [4,5,6] [_,_,_] [_,_] rfl rfl
      exact hK40 _ _ _ (sj h).symm ⟨(n15 4),(hst.pick [2,0]).selA [1,0] rfl⟩
     ·replace h := ite_f b44 h
      refine wp_exit ?_
      exact hJp37 _ v32 _ _ (ho _ (sj h).symm) (hst.pick [1])
    refine wp_block ?_
    refine wp_loopK _ (fun (s12 : Int × Int) a w => St M w0 47 [(7,ti s12.1),(6,tv (.int .u64 s12.2)),(1,tsl rScounts_Limit l_)] [glo] a w) _ _ he13 (hst.pick [0,1,2]) ?_
    clear h
    intro s12 o a w K45 hI h ho hK45
    have hst := hI
    clear hI
    refine wp_seq_k (fun K46 hK46 => ?_)
    refine sr mixed [] hst (fun _ => .q 1 rfl <| .o (op_eql z0 .k) <| .n) fun n9 a w hst => ?_
    replace hst := hst.to [1,2,3,4] [_,_,_,_] [_] rfl rfl
    refine wt hst (fun b49 => ?_) (fun b49 => ?_)
    ·replace h := ite_t b49 h
     refine wp_skip ?_
     refine hK46 _ _ ?_
     try clear hK46 K46
     refine wp_seq_k (fun K48 hK48 => ?_)
     refine wp_block ?_
     obtain ⟨t34,ht34,h⟩ := bind_some h
     refine wr mixed [] hst (fun _ => .q 3 rfl <| .q 2 rfl <| .u [0] rfl rfl ((op_callF call58 (counts_smallest_ok ht34) (.cons (.of z1) <| .cons (.of .k) <| .cons (.of .k) <| .cons (.of z0) <| .nil)).glo) <| .o (op_assign z0) <| .n) fun n11 a w hst => ?_
     replace hst := hst.to [3,5,6] [_,_,_] [_] rfl rfl
     refine hK48 _ _ ?_
     try clear hK48 K48
     refine wr mixed [] hst (fun _ => .q 1 rfl <| .o (op_add z0 .k) <| .o (op_assign z0) <| .n) fun n10 a w hst => ?_
     replace hst := hst.to [2,3,4] [_,_,_] [_] rfl rfl
     exact hK45 _ _ _ (sj h).symm (hst.pick [0,1,2])
    ·replace h := ite_f b49 h
     refine wp_exit ?_
     exact hJp22 _ _ _ (ho _ (sj h).symm) (hst.pick [2])

/- diorama/dioramaref13.Valid -/
noncomputable def fref13_Valid (l_ : Sref13_Limit) (n_ : Int) : Option (Bool) := (some ((((((decide ((l_).A ≥ (0:Int))) && (decide ((l_).A < n_))) && (decide ((l_).B ≥ (-1:Int)))) && (decide ((l_).B < n_))) && (decide ((l_).Mul ≥ (0:Int)))) && (decide ((l_).Mul ≤ (65536:Int)))))
set_option maxRecDepth 100000 in
set_option maxHeartbeats 4000000 in
theorem ref13_Valid_ok {l_ : Sref13_Limit} {n_ : Int} {r : Bool} (h : fref13_Valid l_ n_ = some r) : FnOk Tryz.prog 47 [rSref13_Limit.ty l_,ti n_] [] (fun _ => []) (fun _ => tb r) := by
 unfold fref13_Valid at h
 refine FnOk.enter Tryz.func47 rfl Tryz.ntmps47 (leb rfl) (fun M0 M w0 a hpl hst => ?_)
 replace hst : St M w0 35 [(0,rSref13_Limit.ty l_),(1,ti n_)] [] a w0 := hst
 refine sr mixed [] hst (fun _ => .o (op_boxR (R := rSref13_Limit) (u := l_) z0) <| .o (op_assign .k) <| .n) fun n0 a w hst => ?_
 replace hst := hst.to [0,3] [_,_] [] rfl rfl
 refine sr mixed [] hst (fun _ => .o (op_field fld41_0 z0) <| .o (op_loadT (R := rI) (u := (l_).A) tok3 z0 rfl) <| .o (op_geq z0 .k) <| .q 0 rfl <| .g rfl rfl (.b 0 rfl) (fun _ => op_field fld41_0 z4) <| .g rfl rfl (.b 1 rfl) (fun hc => op_loadT (R := rI) (u := (l_).A) tok3 (.cond z0 hc) rfl) <| .g rfl rfl (.b 2 rfl) (fun _ => op_move z7) <| .g rfl rfl (.b 3 rfl) (fun hc => op_lss (.cond z1 hc) (.cond z0 hc)) <| .o (op_and z4 (fun hp => (.cond z0 (beqT hp)))) <| .q 0 rfl <| .g rfl rfl (.b 0 rfl) (fun _ => op_field fld41_1 z10) <| .g rfl rfl (.b 1 rfl) (fun hc => op_loadT (R := rI) (u := (l_).B) tok3 (.cond z0 hc) rfl) <| .g rfl rfl (.b 2 rfl) (fun hc => op_geq (.cond z0 hc) .k) <| .o (op_and z3 (fun hp => (.cond z0 (beqT hp)))) <| .q 0 rfl <| .g rfl rfl (.b 0 rfl) (fun _ => op_field fld41_1 z15) <| .g rfl rfl (.b 1 rfl) (fun hc => op_loadT (R := rI) (u := (l_).B) tok3 (.cond z0 hc) rfl) <| .g rfl rfl (.b 2 rfl) (fun _ => op_move z18) <| .g rfl rfl (.b 3 rfl) (fun hc => op_lss (.cond z1 hc) (.cond z0 hc)) <| .o (op_and z4 (fun hp => (.cond z0 (beqT hp)))) <| .q 0 rfl <| .g rfl rfl (.b 0 rfl) (fun _ => op_field fld41_2 z21) <| .g rfl rfl (.b 1 rfl) (fun hc => op_loadT (R := rI) (u := (l_).Mul) tok3 (.cond z0 hc) rfl) <| .g rfl rfl (.b 2 rfl) (fun hc => op_geq (.cond z0 hc) .k) <| .o (op_and z3 (fun hp => (.cond z0 (beqT hp)))) <| .q 0 rfl <| .g rfl rfl (.b 0 rfl) (fun _ => op_field fld41_2 z26) <| .g rfl rfl (.b 1 rfl) (fun hc => op_loadT (R := rI) (u := (l_).Mul) tok3 (.cond z0 hc) rfl) <| .g rfl rfl (.b 2 rfl) (fun hc => op_leq (.cond z0 hc) .k) <| .o (op_and z3 (fun hp => (.cond z0 (beqT hp)))) <| .o (op_assign z0) <| .n) fun n1 a w hst => ?_
 replace hst := hst.to [30] [_] [] rfl rfl
 refine wp_ret ?_
 obtain rfl := sj h
 exact ret_st undef [] hpl hst rfl (.tmp z0 .nil) rfl rfl rfl

/- diorama/dioramaref13.demand -/
noncomputable def fref13_demand (l_ : Sref13_Limit) (at_ : (List Int)) : Option (Int × Int) := (if ((l_).Least && (decide ((l_).B < (0:Int)))) = true then (some ((l_).A,(l_).Mul)) else (if (l_).Least = true then (idx at_ (l_).B).bind fun t26 => (some ((l_).A,(IntKind.i64.wrap ((l_).Mul * t26)))) else (if ((decide ((l_).B ≥ (0:Int))) && (decide ((l_).Mul > (0:Int)))) = true then (idx at_ (l_).A).bind fun t42 => (nz (l_).Mul).bind fun _ => (some ((l_).B,(IntKind.i64.wrap (Int.tdiv (IntKind.i64.wrap ((IntKind.i64.wrap (t42 + (l_).Mul)) - (1:Int))) (l_).Mul)))) else (some ((l_).A,(0:Int))))))
set_option maxRecDepth 100000 in
set_option maxHeartbeats 4000000 in
theorem ref13_demand_ok {l_ : Sref13_Limit} {at_ : (List Int)} {r : Int × Int} (h : fref13_demand l_ at_ = some r) : FnOk Tryz.prog 94 [rSref13_Limit.ty l_,tsl rI at_] [] (fun _ => []) (fun _ => ttup [ti r.1,ti r.2]) := by
 unfold fref13_demand at h
 refine FnOk.enter Tryz.func94 rfl Tryz.ntmps94 (leb rfl) (fun M0 M w0 a hpl hst => ?_)
 replace hst : St M w0 53 [(0,rSref13_Limit.ty l_),(1,tsl rI at_)] [] a w0 := hst
 refine sr mixed [] hst (fun _ => .o (op_boxR (R := rSref13_Limit) (u := l_) z0) <| .o (op_assign .k) <| .o (op_assign .k) <| .n) fun n0 a w hst => ?_
 replace hst := hst.to [0,4] [_,_] [] rfl rfl
 refine wp_seq_k (fun K2 hK2 => ?_)
 refine sr mixed [] hst (fun _ => .o (op_field fld41_3 z0) <| .o (op_loadT (R := rBool) (u := (l_).Least) tok4 z0 rfl) <| .q 0 rfl <| .g rfl rfl (.b 0 rfl) (fun _ => op_field fld41_1 z3) <| .g rfl rfl (.b 1 rfl) (fun hc => op_loadT (R := rI) (u := (l_).B) tok3 (.cond z0 hc) rfl) <| .g rfl rfl (.b 2 rfl) (fun hc => op_lss (.cond z0 hc) .k) <| .o (op_and z3 (fun hp => (.cond z0 (beqT hp)))) <| .n) fun n1 a w hst => ?_
 replace hst := hst.to [6,7,8] [_,_,_] [] rfl rfl
 refine wt hst (fun b14 => ?_) (fun b14 => ?_)
 ·replace h := ite_t b14 h
  refine sr mixed [] hst (fun _ => .o (op_field fld41_0 z1) <| .o (op_loadT (R := rI) (u := (l_).A) tok3 z0 rfl) <| .o (op_field fld41_2 z3) <| .o (op_loadT (R := rI) (u := (l_).Mul) tok3 z0 rfl) <| .o (op_assign z2) <| .o (op_assign z1) <| .n) fun n2 a w hst => ?_
  replace hst := hst.to [4,5] [_,_] [] rfl rfl
  refine wp_ret ?_
  obtain rfl := sj h
  exact ret_st undef [] hpl hst rfl (.tmp z0 (.tmp z1 .nil)) rfl rfl rfl
 ·replace h := ite_f b14 h
  refine wp_skip ?_
  refine hK2 _ _ ?_
  try clear hK2 K2
  refine wp_seq_k (fun K5 hK5 => ?_)
  refine sr mixed [] hst (fun _ => .o (op_field fld41_3 z1) <| .o (op_loadT (R := rBool) (u := (l_).Least) tok4 z0 rfl) <| .n) fun n3 a w hst => ?_
  replace hst := hst.to [1,3,4] [_,_,_] [] rfl rfl
  refine wt hst (fun b13 => ?_) (fun b13 => ?_)
  ·replace h := ite_t b13 h
   obtain ⟨t26,ht26,h⟩ := bind_some h
   refine sr mixed [] hst (fun _ => .o (op_field fld41_0 z1) <| .o (op_loadT (R := rI) (u := (l_).A) tok3 z0 rfl) <| .o (op_field fld41_2 z3) <| .o (op_loadT (R := rI) (u := (l_).Mul) tok3 z0 rfl) <| .q 6 rfl <| .o (op_field fld41_1 z6) <| .o (op_loadT (R := rI) (u := (l_).B) tok3 z0 rfl) <| .o (op_index ud22 tok3 z2 z0 ht26) <| .o (op_load tok3 z0) <| .o (op_mul z5 z0) <| .o (op_assign z8) <| .o (op_assign z1) <| .n) fun n4 a w hst => ?_
   replace hst := hst.to [10,11] [_,_] [] rfl rfl
   refine wp_ret ?_
   obtain rfl := sj h
   exact ret_st undef [] hpl hst rfl (.tmp z0 (.tmp z1 .nil)) rfl rfl rfl
  ·replace h := ite_f b13 h
   refine wp_skip ?_
   refine hK5 _ _ ?_
   try clear hK5 K5
   refine wp_seq_k (fun K8 hK8 => ?_)
   refine sr mixed [] hst (fun _ => .o (op_field fld41_1 z1) <| .o (op_loadT (R := rI) (u := (l_).B) tok3 z0 rfl) <| .o (op_geq z0 .k) <| .q 0 rfl <| .g rfl rfl (.b 0 rfl) (fun _ => op_field fld41_2 z5) <| .g rfl rfl (.b 1 rfl) (fun hc => op_loadT (R := rI) (u := (l_).Mul) tok3 (.cond z0 hc) rfl) <| .g rfl rfl (.b 2 rfl) (fun hc => op_gtr (.cond z0 hc) .k) <| .o (op_and z3 (fun hp => (.cond z0 (beqT hp)))) <| .n) fun n5 a w hst => ?_
   replace hst := hst.to [7,9,10] [_,_,_] [] rfl rfl
   refine wt hst (fun b12 => ?_) (fun b12 => ?_)
   ·replace h := ite_t b12 h
    refine wp_seq_k (fun K10 hK10 => ?_)
    obtain ⟨t42,ht42,h⟩ := bind_some h
    obtain ⟨u50,hu50,h⟩ := bind_some h
    refine wr mixed [] hst (fun _ => .o (op_field fld41_1 z1) <| .o (op_loadT (R := rI) (u := (l_).B) tok3 z0 rfl) <| .q 4 rfl <| .o (op_field fld41_0 z4) <| .o (op_loadT (R := rI) (u := (l_).A) tok3 z0 rfl) <| .o (op_index ud22 tok3 z2 z0 ht42) <| .o (op_load tok3 z0) <| .o (op_field fld41_2 z8) <| .o (op_loadT (R := rI) (u := (l_).Mul) tok3 z0 rfl) <| .o (op_add z2 z0) <| .o (op_sub z0 .k) <| .o (op_field fld41_2 z12) <| .o (op_loadT (R := rI) (u := (l_).Mul) tok3 z0 rfl) <| .o (op_quo z2 z0 (nz_ne hu50)) <| .o (op_assign z12) <| .o (op_assign z1) <| .n) fun n6 a w hst => ?_
    replace hst := hst.to [14,15] [_,_] [] rfl rfl
    refine hK10 _ _ ?_
    try clear hK10 K10
    refine wp_ret ?_
    obtain rfl := sj h
    exact ret_st undef [] hpl hst rfl (.tmp z0 (.tmp z1 .nil)) rfl rfl rfl
   ·replace h := ite_f b12 h
    refine wp_skip ?_
    refine hK8 _ _ ?_
    try clear hK8 K8
    refine sr mixed [] hst (fun _ => .o (op_field fld41_0 z1) <| .o (op_loadT (R := rI) (u := (l_).A) tok3 z0 rfl) <| .o (op_assign z0) <| .o (op_assign .k) <| .n) fun n7 a w hst => ?_
    replace hst := hst.to [2,3] [_,_] [] rfl rfl
    refine wp_ret ?_
    obtain rfl := sj h
    exact ret_st undef [] hpl hst rfl (.tmp z0 (.tmp z1 .nil)) rfl rfl rfl

end Go.Proofs.YtcdccjagknlmpaaGreatDoor

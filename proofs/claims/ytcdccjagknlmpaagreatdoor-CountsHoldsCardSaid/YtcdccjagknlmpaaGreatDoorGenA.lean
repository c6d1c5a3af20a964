/- Go functions as Lean functions, and the proofs that they compute them, written by a program. No condition. -/
import Derived.Test.YtcdccjagknlmpaaGreatDoorLib
namespace Go.Proofs.YtcdccjagknlmpaaGreatDoor
open Go.Sim

/- diorama/dioramaref01.Around -/
noncomputable def fref01_Around (n_ : Int) (most_ : Int) : Option (Int) := ((if (decide (n_ < (0:Int))) = true then (some (IntKind.i64.wrap (0 - (IntKind.i64.wrap (n_ + (1:Int)))))) else (some n_))).bind fun (p4 : Int) => (if (decide (most_ < (1:Int))) = true then (some (0:Int)) else (nz most_).bind fun _ => (some (Int.tmod p4 most_)))
set_option maxRecDepth 100000 in
set_option maxHeartbeats 4000000 in
theorem ref01_Around_ok {n_ : Int} {most_ : Int} {r : Int} (h : fref01_Around n_ most_ = some r) : FnOk Tryz.prog 17 [ti n_,ti most_] [] (fun _ => []) (fun _ => ti r) := by
 unfold fref01_Around at h
 refine FnOk.enter Tryz.func17 rfl Tryz.ntmps17 (leb rfl) (fun M0 M w0 a hpl hst => ?_)
 replace hst : St M w0 15 [(0,ti n_),(1,ti most_)] [] a w0 := hst
 refine sr mixed [] hst (fun _ => .o (op_assign .k) <| .n) fun n0 a w hst => ?_
 replace hst := hst.to [1,2] [_,_] [] rfl rfl
 refine wp_seq_k (fun K2 hK2 => ?_)
 refine sr mixed [] hst (fun _ => .q 0 rfl <| .o (op_lss z0 .k) <| .n) fun n1 a w hst => ?_
 replace hst := hst.to [1,2,3] [_,_,_] [] rfl rfl
 obtain ⟨p4,hp4,h⟩ := bind_some h
 have hJp4 : ∀ a w,St M w0 15 [(0,ti p4),(1,ti most_)] [] a w → K2 a w := by
  intro a w hst
  refine hK2 _ _ ?_
  try clear hK2 K2
  refine wp_seq_k (fun K6 hK6 => ?_)
  refine sr mixed [] hst (fun _ => .q 1 rfl <| .o (op_lss z0 .k) <| .n) fun n3 a w hst => ?_
  replace hst := hst.to [1,2,3] [_,_,_] [] rfl rfl
  refine wt hst (fun b10 => ?_) (fun b10 => ?_)
  ·replace h := ite_t b10 h
   refine sr mixed [] hst (fun _ => .o (op_assign .k) <| .n) fun n4 a w hst => ?_
   replace hst := hst.to [0] [_] [] rfl rfl
   refine wp_ret ?_
   obtain rfl := sj h
   exact ret_st undef [] hpl hst rfl (.tmp z0 .nil) rfl rfl rfl
  ·replace h := ite_f b10 h
   refine wp_skip ?_
   refine hK6 _ _ ?_
   try clear hK6 K6
   refine wp_seq_k (fun K9 hK9 => ?_)
   obtain ⟨u14,hu14,h⟩ := bind_some h
   refine wr mixed [] hst (fun _ => .q 1 rfl <| .q 3 rfl <| .o (op_rem z1 z0 (nz_ne hu14)) <| .o (op_assign z0) <| .n) fun n5 a w hst => ?_
   replace hst := hst.to [3] [_] [] rfl rfl
   refine hK9 _ _ ?_
   try clear hK9 K9
   refine wp_ret ?_
   obtain rfl := sj h
   exact ret_st undef [] hpl hst rfl (.tmp z0 .nil) rfl rfl rfl
 replace h := hp4
 clear hp4
 refine wt hst (fun b11 => ?_) (fun b11 => ?_)
 ·replace h := ite_t b11 h
  refine wr mixed [] hst (fun _ => .q 1 rfl <| .o (op_add z0 .k) <| .o (op_neg z0) <| .o (op_assign z0) <| .n) fun n2 a w hst => ?_
  replace hst := hst.to [3,5] [_,_] [] rfl rfl
  obtain rfl := sj h
  exact hJp4 _ _ (hst.pick [0,1])
 ·replace h := ite_f b11 h
  refine wp_skip ?_
  obtain rfl := sj h
  exact hJp4 _ _ (hst.pick [1,2])

/- diorama/dioramaref01.At -/
noncomputable def fref01_At (l_ : (List Int)) (i_ : Int) (most_ : Int) : Option (Int) := (if ((decide (i_ < (0:Int))) || (decide (i_ ≥ (l_.length : Int)))) = true then (some (0:Int)) else (idx l_ i_).bind fun t17 => (fref01_Around t17 most_).bind fun t20 => (some t20))
set_option maxRecDepth 100000 in
set_option maxHeartbeats 4000000 in
theorem ref01_At_ok {l_ : (List Int)} {i_ : Int} {most_ : Int} {r : Int} (h : fref01_At l_ i_ most_ = some r) : FnOk Tryz.prog 41 [tsl rI l_,ti i_,ti most_] [] (fun _ => []) (fun _ => ti r) := by
 unfold fref01_At at h
 refine FnOk.enter Tryz.func41 rfl Tryz.ntmps41 (leb rfl) (fun M0 M w0 a hpl hst => ?_)
 replace hst : St M w0 21 [(0,tsl rI l_),(1,ti i_),(2,ti most_)] [] a w0 := hst
 refine sr mixed [] hst (fun _ => .o (op_assign .k) <| .n) fun n0 a w hst => ?_
 replace hst := hst.to [1,2,3] [_,_,_] [] rfl rfl
 refine wp_seq_k (fun K2 hK2 => ?_)
 refine sr mixed [] hst (fun _ => .q 1 rfl <| .o (op_lss z0 .k) <| .q 0 rfl <| .g rfl rfl (.b 0 rfl) (fun _ => op_move z4) <| .g rfl rfl (.b 1 rfl) (fun _ => op_move z4) <| .g rfl rfl (.b 2 rfl) (fun hc => op_len ud22 (.cond z0 hc)) <| .g rfl rfl (.b 3 rfl) (fun hc => op_geq (.cond z2 hc) (.cond z0 hc)) <| .o (op_or z4 (fun hp => (.cond z0 (beqF hp)))) <| .n) fun n1 a w hst => ?_
 replace hst := hst.to [7,8,9,10] [_,_,_,_] [] rfl rfl
 refine wt hst (fun b6 => ?_) (fun b6 => ?_)
 ·replace h := ite_t b6 h
  refine sr mixed [] hst (fun _ => .o (op_assign .k) <| .n) fun n2 a w hst => ?_
  replace hst := hst.to [0] [_] [] rfl rfl
  refine wp_ret ?_
  obtain rfl := sj h
  exact ret_st undef [] hpl hst rfl (.tmp z0 .nil) rfl rfl rfl
 ·replace h := ite_f b6 h
  refine wp_skip ?_
  refine hK2 _ _ ?_
  try clear hK2 K2
  obtain ⟨t17,ht17,h⟩ := bind_some h
  obtain ⟨t20,ht20,h⟩ := bind_some h
  refine sr mixed [] hst (fun _ => .q 1 rfl <| .q 3 rfl <| .o (op_index ud22 tok3 z1 z0 ht17) <| .o (op_load tok3 z0) <| .q 7 rfl <| .o (op_callF call17 (ref01_Around_ok ht20) (.cons (.of z1) <| .cons (.of z0) <| .nil)) <| .o (op_assign z0) <| .n) fun n3 a w hst => ?_
  replace hst := hst.to [6] [_] [] rfl rfl
  refine wp_ret ?_
  obtain rfl := sj h
  exact ret_st undef [] hpl hst rfl (.tmp z0 .nil) rfl rfl rfl

/- diorama/dioramaref13.Made -/
noncomputable def fref13_Made (l_ : (List Int)) (n_ : Int) : Option ((List Sref13_Limit)) := (tailrec (fun (s6 : Int × List Sref13_Limit) => ((if ((decide ((IntKind.i64.wrap ((3:Int) * s6.1)) < (l_.length : Int))) && (decide (s6.1 < (10:Int)))) = true then (fref01_At l_ (IntKind.i64.wrap ((3:Int) * s6.1)) n_).bind fun t23 => (fref01_At l_ (IntKind.i64.wrap ((IntKind.i64.wrap ((3:Int) * s6.1)) + (1:Int))) (IntKind.i64.wrap (n_ + (1:Int)))).bind fun t30 => (fref01_At l_ (IntKind.i64.wrap ((IntKind.i64.wrap ((3:Int) * s6.1)) + (2:Int))) (8:Int)).bind fun t37 => (idx [(0:Int),(1:Int),(2:Int),(3:Int),(5:Int),(1:Int),(2:Int),(4:Int)] t37).bind fun t38 => (fref01_At l_ (IntKind.i64.wrap ((IntKind.i64.wrap ((3:Int) * s6.1)) + (2:Int))) (16:Int)).bind fun t44 => (rm (s6.2.length + [(Sref13_Limit.mk t23 (IntKind.i64.wrap (t30 - (1:Int))) t38 (decide (t44 < (8:Int))))].length)).bind fun _ => (some (.inl ((IntKind.i64.wrap (s6.1 + (1:Int))),(s6.2 ++ [(Sref13_Limit.mk t23 (IntKind.i64.wrap (t30 - (1:Int))) t38 (decide (t44 < (8:Int))))])))) else (some (.inr s6.2))) : Option ((Int × List Sref13_Limit) ⊕ ((List Sref13_Limit))))) ((0:Int),([] : List Sref13_Limit))).bind fun (p21 : (List Sref13_Limit)) => (some p21)
set_option maxRecDepth 100000 in
set_option maxHeartbeats 4000000 in
theorem ref13_Made_ok {l_ : (List Int)} {n_ : Int} {r : (List Sref13_Limit)} (h : fref13_Made l_ n_ = some r) : FnOk Tryz.prog 18 [tsl rI l_,ti n_] [] (fun v => [own rSref13_Limit 41 r v]) (fun v => tv v) := by
 unfold fref13_Made at h
 refine FnOk.enter Tryz.func18 rfl Tryz.ntmps18 (leb rfl) (fun M0 M w0 a hpl hst => ?_)
 replace hst : St M w0 52 [(0,tsl rI l_),(1,ti n_)] [] a w0 := hst
 refine sr mixed [] hst (fun _ => .o (op_assign .k) <| .n) fun n0 a w hst => ?_
 replace hst := hst.to [1,2] [_,_] [] rfl rfl
 refine sr mixed [] hst (fun _ => .o (op_assign .k) <| .n) fun n1 a w hst => ?_
 replace hst : St _ _ _ [_,_,_] [_] _ _ := (hst.pick [0,1,2]).nil (rSref13_Limit) 41
 refine wp_seq_k (fun K4 hK4 => ?_)
 refine sr mixed [] hst (fun _ => .o (op_assign .k) <| .n) fun n2 a w hst => ?_
 replace hst := hst.to [0,1,2,3] [_,_,_,_] [_] rfl rfl
 obtain ⟨e7,he7,h⟩ := bind_some h
 have hJp21 : ∀ (p21 : List Sref13_Limit) (v22 : Value) a w,p21 = e7 → St M w0 52 [(5,tv v22)] [own rSref13_Limit 41 p21 v22] a w → K4 a w := by
  intro p21 v22 a w he hst
  subst he
  refine hK4 _ _ ?_
  try clear hK4 K4
  refine sr mixed [] hst (fun _ => .q 0 rfl <| .o (op_assign z0) <| .n) fun n7 a w hst => ?_
  replace hst := hst.to [0,1,2] [_,_,_] [_] rfl rfl
  refine wp_ret ?_
  obtain rfl := sj h
  exact ret_st v22 [0] hpl hst rfl (.tmp z1 .nil) rfl rfl rfl
 refine wp_block ?_
 refine wp_loopK _ (fun (s6 : Int × List Sref13_Limit) a w => ∃ v14 : Value,St M w0 52 [(6,ti s6.1),(5,tv v14),(0,tsl rI l_),(1,ti n_)] [own rSref13_Limit 41 s6.2 v14] a w) _ _ he7 ⟨(.slice none 0 0),hst.pick [0,1,2,3]⟩ ?_
 clear h
 intro s6 o a w K24 hI h ho hK24
 obtain ⟨v14,hst⟩ := hI
 refine wp_seq_k (fun K25 hK25 => ?_)
 refine sr mixed [] hst (fun _ => .q 0 rfl <| .o (op_mul .k z0) <| .q 4 rfl <| .o (op_len ud22 z0) <| .o (op_lss z2 z0) <| .q 0 rfl <| .g rfl rfl (.b 0 rfl) (fun _ => op_move z6) <| .g rfl rfl (.b 1 rfl) (fun hc => op_lss (.cond z0 hc) .k) <| .o (op_and z2 (fun hp => (.cond z0 (beqT hp)))) <| .n) fun n3 a w hst => ?_
 replace hst := hst.to [8,9,10,11,12] [_,_,_,_,_] [_] rfl rfl
 refine wt hst (fun b30 => ?_) (fun b30 => ?_)
 ·replace h := ite_t b30 h
  refine wp_skip ?_
  refine hK25 _ _ ?_
  try clear hK25 K25
  refine wp_seq_k (fun K27 hK27 => ?_)
  refine wp_block ?_
  obtain ⟨t23,ht23,h⟩ := bind_some h
  obtain ⟨t30,ht30,h⟩ := bind_some h
  obtain ⟨t37,ht37,h⟩ := bind_some h
  obtain ⟨t38,ht38,h⟩ := bind_some h
  obtain ⟨t44,ht44,h⟩ := bind_some h
  refine sr mixed [v1 28 (fun v0 => box (rSref13_Limit.cs zz6) v0),v1 28 (fun v0 => box (rSref13_Limit.cs (Sref13_Limit.mk t23 (IntKind.i64.wrap (t30 - (1:Int))) t38 (decide (t44 < (8:Int))))) v0)] hst (fun _ => .q 3 rfl <| .q 2 rfl <| .o (op_mul .k z0) <| .q 7 rfl <| .o (op_callF call41 (ref01_At_ok ht23) (.cons (.of z3) <| .cons (.of z1) <| .cons (.of z0) <| .nil)) <| .q 8 rfl <| .q 7 rfl <| .o (op_mul .k z0) <| .o (op_add z0 .k) <| .q 13 rfl <| .o (op_add z0 .k) <| .o (op_callF call41 (ref01_At_ok ht30) (.cons (.of z5) <| .cons (.of z2) <| .cons (.of z0) <| .nil)) <| .o (op_sub z0 .k) <| .o (op_buildSl (R := rI) (us := [(0:Int),(1:Int),(2:Int),(3:Int),(5:Int),(1:Int),(2:Int),(4:Int)]) ud22 tok3 (.cons .k <| .cons .k <| .cons .k <| .cons .k <| .cons .k <| .cons .k <| .cons .k <| .cons .k <| .nil _) rfl (leb rfl)) <| .q 17 rfl <| .q 16 rfl <| .o (op_mul .k z0) <| .o (op_add z0 .k) <| .o (op_callF call41 (ref01_At_ok ht37) (.cons (.of z3) <| .cons (.of z0) <| .cons (.of .k) <| .nil)) <| .o (op_index ud22 tok3 z5 z0 ht38) <| .o (op_load tok3 z0) <| .q 24 rfl <| .q 23 rfl <| .o (op_mul .k z0) <| .o (op_add z0 .k) <| .o (op_callF call41 (ref01_At_ok ht44) (.cons (.of z3) <| .cons (.of z0) <| .cons (.of .k) <| .nil)) <| .o (op_lss z0 .k) <| .p (T := rSref13_Limit.ty (Sref13_Limit.mk t23 (IntKind.i64.wrap (t30 - (1:Int))) t38 (decide (t44 < (8:Int))))) rfl (op_build ud41 pl41 zv41 zc41 (.cons (R := rI) (u := t23) rfl z22 (leb rfl) <| .cons (R := rI) (u := (IntKind.i64.wrap (t30 - (1:Int)))) rfl z14 (leb rfl) <| .cons (R := rI) (u := t38) rfl z6 (leb rfl) <| .cons (R := rBool) (u := (decide (t44 < (8:Int)))) rfl z0 (leb rfl) <| .nil _)) <| .m [] [1] rfl rfl rfl (op_alloc (R := rSref13_Limit) (a := zz6) tok41 zok41) <| .e [] [1] [2] rfl rfl rfl rfl (op_storeB (R := rSref13_Limit) (a := (Sref13_Limit.mk t23 (IntKind.i64.wrap (t30 - (1:Int))) t38 (decide (t44 < (8:Int))))) tok41 z0 z1 (leb rfl)) <| .n) fun n5 a w hst => ?_
  replace hst : St _ _ _ [_,_,_,_,_] [_] _ _ := ((((hst.pick [28,30,31,32,33]).selA [1,0] rfl).shareB 0 rfl).add 0 rfl (fun _ _ _ h => h.2)).pick [0,3,4,5,6]
  obtain ⟨u50,hu50,h⟩ := bind_some h
  refine wr mixed [v1 3 (fun v0 => own rSref13_Limit 41 (s6.2 ++ [(Sref13_Limit.mk t23 (IntKind.i64.wrap (t30 - (1:Int))) t38 (decide (t44 < (8:Int))))]) v0)] hst (fun _ => .q 2 rfl <| .o (op_load tok41 z1) <| .o (op_buildSl (R := rSref13_Limit) (us := [(Sref13_Limit.mk t23 (IntKind.i64.wrap (t30 - (1:Int))) t38 (decide (t44 < (8:Int))))]) ud36 tok41 (.cons z0 <| .nil _) rfl (leb rfl)) <| .e [] [0] [1] rfl rfl rfl rfl (op_append (R := rSref13_Limit) ud36 tok41 (leb rfl) z2 z0 hu50) <| .ud (f := fun v => tv v) 3 rfl [] rfl rfl (op_assign z0) <| .n) fun n6 a w hst => ?_
  replace hst := hst.to [3,4,6,7,8] [_,_,_,_,_] [_] rfl rfl
  refine hK27 _ _ ?_
  try clear hK27 K27
  refine wr mixed [] hst (fun _ => .q 2 rfl <| .o (op_add z0 .k) <| .o (op_assign z0) <| .n) fun n4 a w hst => ?_
  replace hst := hst.to [2,3,4,5,6] [_,_,_,_,_] [_] rfl rfl
  exact hK24 _ _ _ (sj h).symm ⟨(n6 3),hst.pick [0,2,3,4]⟩
 ·replace h := ite_f b30 h
  refine wp_exit ?_
  exact hJp21 _ v14 _ _ (ho _ (sj h).symm) (hst.pick [2])

/- diorama/dioramalaw13.plain -/
noncomputable def flaw13_plain (l_ : Scounts_Limit) : Option (Sref13_Limit) := (some (Sref13_Limit.mk (l_).A (l_).B (l_).Mul (l_).Least))
set_option maxRecDepth 100000 in
set_option maxHeartbeats 4000000 in
theorem law13_plain_ok {l_ : Scounts_Limit} {r : Sref13_Limit} (h : flaw13_plain l_ = some r) : FnOk Tryz.prog 15 [rScounts_Limit.ty l_] [] (fun _ => []) (fun _ => rSref13_Limit.ty r) := by
 unfold flaw13_plain at h
 refine FnOk.enter Tryz.func15 rfl Tryz.ntmps15 (leb rfl) (fun M0 M w0 a hpl hst => ?_)
 replace hst : St M w0 12 [(0,rScounts_Limit.ty l_)] [] a w0 := hst
 refine sr mixed [v1 1 (fun v0 => box (rSref13_Limit.cs zz6) v0)] hst (fun _ => .o (op_boxR (R := rScounts_Limit) (u := l_) z0) <| .m [] [0] rfl rfl rfl (op_alloc (R := rSref13_Limit) (a := zz6) tok41 zok41) <| .n) fun n0 a w hst => ?_
 replace hst := hst.to [0,1] [_,_] [_] rfl rfl
 refine sr mixed [v0 (box (rSref13_Limit.cs (Sref13_Limit.mk (l_).A (l_).B (l_).Mul (l_).Least)) (n0 1))] hst (fun _ => .o (op_field fld43_0 z0) <| .o (op_loadT (R := rI) (u := (l_).A) tok3 z0 rfl) <| .o (op_field fld43_1 z2) <| .o (op_loadT (R := rI) (u := (l_).B) tok3 z0 rfl) <| .o (op_field fld43_2 z4) <| .o (op_loadT (R := rI) (u := (l_).Mul) tok3 z0 rfl) <| .o (op_field fld43_3 z6) <| .o (op_loadT (R := rBool) (u := (l_).Least) tok4 z0 rfl) <| .p (T := rSref13_Limit.ty (Sref13_Limit.mk (l_).A (l_).B (l_).Mul (l_).Least)) rfl (op_build ud41 pl41 zv41 zc41 (.cons (R := rI) (u := (l_).A) rfl z6 (leb rfl) <| .cons (R := rI) (u := (l_).B) rfl z4 (leb rfl) <| .cons (R := rI) (u := (l_).Mul) rfl z2 (leb rfl) <| .cons (R := rBool) (u := (l_).Least) rfl z0 (leb rfl) <| .nil _)) <| .e [] [0] [1] rfl rfl rfl rfl (op_storeB (R := rSref13_Limit) (a := (Sref13_Limit.mk (l_).A (l_).B (l_).Mul (l_).Least)) tok41 z10 z0 (leb rfl)) <| .n) fun n1 a w hst => ?_
 replace hst := hst.to [10] [_] [_] rfl rfl
 refine wp_ret ?_
 obtain rfl := sj h
 exact ret_st undef [] hpl hst rfl (.cell (R := rSref13_Limit) (u := (Sref13_Limit.mk (l_).A (l_).B (l_).Mul (l_).Least)) tok41 z0 0 rfl rfl .nil) rfl rfl rfl

/- diorama/dioramalaw13.some -/
noncomputable def flaw13_some (l_ : (List Int)) (n_ : Int) : Option ((List Int)) := (tailrec (fun (s6 : Int × List Int) => ((if (decide (s6.1 < n_)) = true then (fref01_At l_ s6.1 (12:Int)).bind fun t15 => (rm (s6.2.length + [t15].length)).bind fun _ => (some (.inl ((IntKind.i64.wrap (s6.1 + (1:Int))),(s6.2 ++ [t15])))) else (some (.inr s6.2))) : Option ((Int × List Int) ⊕ ((List Int))))) ((0:Int),([] : List Int))).bind fun (p17 : (List Int)) => (some p17)
set_option maxRecDepth 100000 in
set_option maxHeartbeats 4000000 in
theorem law13_some_ok {l_ : (List Int)} {n_ : Int} {r : (List Int)} (h : flaw13_some l_ n_ = some r) : FnOk Tryz.prog 19 [tsl rI l_,ti n_] [] (fun _ => []) (fun _ => tsl rI r) := by
 unfold flaw13_some at h
 refine FnOk.enter Tryz.func19 rfl Tryz.ntmps19 (leb rfl) (fun M0 M w0 a hpl hst => ?_)
 replace hst : St M w0 19 [(0,tsl rI l_),(1,ti n_)] [] a w0 := hst
 refine sr mixed [] hst (fun _ => .o (op_assign (.nilsl (R := rI))) <| .n) fun n0 a w hst => ?_
 replace hst := hst.to [1,2] [_,_] [] rfl rfl
 refine sr mixed [] hst (fun _ => .o (op_assign .k) <| .n) fun n1 a w hst => ?_
 replace hst : St _ _ _ [_,_,_] [_] _ _ := (hst.pick [0,1,2]).nil (rI) 3
 refine wp_seq_k (fun K4 hK4 => ?_)
 refine sr mixed [] hst (fun _ => .o (op_assign .k) <| .n) fun n2 a w hst => ?_
 replace hst := hst.to [0,1,2,3] [_,_,_,_] [_] rfl rfl
 obtain ⟨e7,he7,h⟩ := bind_some h
 have hJp17 : ∀ (p17 : List Int) (v18 : Value) a w,p17 = e7 → St M w0 19 [(5,tv v18)] [own rI 3 p17 v18] a w → K4 a w := by
  intro p17 v18 a w he hst
  subst he
  refine hK4 _ _ ?_
  try clear hK4 K4
  refine sr mixed [] hst (fun _ => .q 0 rfl <| .o (op_assign z0) <| .n) fun n6 a w hst => ?_
  replace hst := hst.to [0,1,2] [_,_,_] [_] rfl rfl
  refine wp_ret ?_
  replace hst : St _ _ _ [_] [] _ _ := (hst.shareO 1 rfl).pick [0]
  obtain rfl := sj h
  exact ret_st undef [] hpl hst rfl (.tmp z0 .nil) rfl rfl rfl
 refine wp_block ?_
 refine wp_loopK _ (fun (s6 : Int × List Int) a w => ∃ v12 : Value,St M w0 19 [(6,ti s6.1),(5,tv v12),(0,tsl rI l_),(1,ti n_)] [own rI 3 s6.2 v12] a w) _ _ he7 ⟨(.slice none 0 0),hst.pick [0,1,2,3]⟩ ?_
 clear h
 intro s6 o a w K20 hI h ho hK20
 obtain ⟨v12,hst⟩ := hI
 refine wp_seq_k (fun K21 hK21 => ?_)
 refine sr mixed [] hst (fun _ => .q 0 rfl <| .q 4 rfl <| .o (op_lss z1 z0) <| .n) fun n3 a w hst => ?_
 replace hst := hst.to [2,3,4,5,6] [_,_,_,_,_] [_] rfl rfl
 refine wt hst (fun b24 => ?_) (fun b24 => ?_)
 ·replace h := ite_t b24 h
  refine wp_skip ?_
  refine hK21 _ _ ?_
  try clear hK21 K21
  refine wp_seq_k (fun K23 hK23 => ?_)
  refine wp_block ?_
  obtain ⟨t15,ht15,h⟩ := bind_some h
  obtain ⟨u17,hu17,h⟩ := bind_some h
  refine wr mixed [v1 5 (fun v0 => own rI 3 (s6.2 ++ [t15]) v0)] hst (fun _ => .q 2 rfl <| .q 4 rfl <| .q 3 rfl <| .o (op_callF call41 (ref01_At_ok ht15) (.cons (.of z1) <| .cons (.of z0) <| .cons (.of .k) <| .nil)) <| .o (op_buildSl (R := rI) (us := [t15]) ud22 tok3 (.cons z0 <| .nil _) rfl (leb rfl)) <| .e [] [0] [1] rfl rfl rfl rfl (op_append (R := rI) ud22 tok3 (leb rfl) z4 z0 hu17) <| .ud (f := fun v => tv v) 5 rfl [] rfl rfl (op_assign z0) <| .n) fun n5 a w hst => ?_
  replace hst := hst.to [5,6,8,9,10] [_,_,_,_,_] [_] rfl rfl
  refine hK23 _ _ ?_
  try clear hK23 K23
  refine wr mixed [] hst (fun _ => .q 2 rfl <| .o (op_add z0 .k) <| .o (op_assign z0) <| .n) fun n4 a w hst => ?_
  replace hst := hst.to [2,3,4,5,6] [_,_,_,_,_] [_] rfl rfl
  exact hK20 _ _ _ (sj h).symm ⟨(n5 5),hst.pick [0,2,3,4]⟩
 ·replace h := ite_f b24 h
  refine wp_exit ?_
  exact hJp17 _ v12 _ _ (ho _ (sj h).symm) (hst.pick [2])

/- diorama/dioramaref01.Take -/
noncomputable def fref01_Take (l_ : (List Int)) (most_ : Int) : Option ((List Int)) := (sub l_ (0:Int) (imin (l_.length : Int) most_)).bind fun t12 => (rm (([] : List Int).length + t12.length)).bind fun _ => (some (([] : List Int) ++ t12))
set_option maxRecDepth 100000 in
set_option maxHeartbeats 4000000 in
theorem ref01_Take_ok {l_ : (List Int)} {most_ : Int} {r : (List Int)} (h : fref01_Take l_ most_ = some r) : FnOk Tryz.prog 20 [tsl rI l_,ti most_] [] (fun _ => []) (fun _ => tsl rI r) := by
 unfold fref01_Take at h
 refine FnOk.enter Tryz.func20 rfl Tryz.ntmps20 (leb rfl) (fun M0 M w0 a hpl hst => ?_)
 replace hst : St M w0 14 [(0,tsl rI l_),(1,ti most_)] [] a w0 := hst
 refine sr mixed [] hst (fun _ => .o (op_assign (.nilsl (R := rI))) <| .n) fun n0 a w hst => ?_
 replace hst := hst.to [1,2] [_,_] [] rfl rfl
 refine sr mixed [] hst (fun _ => .o (op_assign .k) <| .n) fun n1 a w hst => ?_
 replace hst : St _ _ _ [_,_,_] [_] _ _ := (hst.pick [0,1,2]).nil (rI) 3
 refine wp_seq_k (fun K4 hK4 => ?_)
 obtain ⟨t12,ht12,h⟩ := bind_some h
 obtain ⟨u13,hu13,h⟩ := bind_some h
 refine wr mixed [] hst (fun _ => .q 0 rfl <| .q 2 rfl <| .q 3 rfl <| .o (op_len ud22 z0) <| .q 6 rfl <| .o (op_min z1 z0) <| .o (op_slice ud22 tok3 z4 (.no _) (.op z0) ht12) <| .e [] [0] [] rfl rfl rfl rfl (.roE (op_append (R := rI) ud22 tok3 (leb rfl) z6 z0 hu13)) <| .o (op_assign z0) <| .n) fun n2 a w hst => ?_
 replace hst := hst.to [8] [_] [] rfl rfl
 refine hK4 _ _ ?_
 try clear hK4 K4
 refine wp_ret ?_
 obtain rfl := sj h
 exact ret_st undef [] hpl hst rfl (.tmp z0 .nil) rfl rfl rfl

/- (diorama/counts.Limit).valid -/
noncomputable def fcounts_Limit_valid (l_ : Scounts_Limit) (n_ : Int) : Option (Bool) := (some ((((((decide ((l_).A ≥ (0:Int))) && (decide ((l_).A < n_))) && (decide ((l_).B ≥ (-1:Int)))) && (decide ((l_).B < n_))) && (decide ((l_).Mul ≥ (0:Int)))) && (decide ((l_).Mul ≤ (65536:Int)))))
set_option maxRecDepth 100000 in
set_option maxHeartbeats 4000000 in
theorem counts_Limit_valid_ok {l_ : Scounts_Limit} {n_ : Int} {r : Bool} (h : fcounts_Limit_valid l_ n_ = some r) : FnOk Tryz.prog 42 [rScounts_Limit.ty l_,ti n_] [] (fun _ => []) (fun _ => tb r) := by
 unfold fcounts_Limit_valid at h
 refine FnOk.enter Tryz.func42 rfl Tryz.ntmps42 (leb rfl) (fun M0 M w0 a hpl hst => ?_)
 replace hst : St M w0 35 [(0,rScounts_Limit.ty l_),(1,ti n_)] [] a w0 := hst
 refine sr mixed [] hst (fun _ => .o (op_boxR (R := rScounts_Limit) (u := l_) z0) <| .o (op_assign .k) <| .n) fun n0 a w hst => ?_
 replace hst := hst.to [0,3] [_,_] [] rfl rfl
 refine sr mixed [] hst (fun _ => .o (op_field fld43_0 z0) <| .o (op_loadT (R := rI) (u := (l_).A) tok3 z0 rfl) <| .o (op_geq z0 .k) <| .q 0 rfl <| .g rfl rfl (.b 0 rfl) (fun _ => op_field fld43_0 z4) <| .g rfl rfl (.b 1 rfl) (fun hc => op_loadT (R := rI) (u := (l_).A) tok3 (.cond z0 hc) rfl) <| .g rfl rfl (.b 2 rfl) (fun _ => op_move z7) <| .g rfl rfl (.b 3 rfl) (fun hc => op_lss (.cond z1 hc) (.cond z0 hc)) <| .o (op_and z4 (fun hp => (.cond z0 (beqT hp)))) <| .q 0 rfl <| .g rfl rfl (.b 0 rfl) (fun _ => op_field fld43_1 z10) <| .g rfl rfl (.b 1 rfl) (fun hc => op_loadT (R := rI) (u := (l_).B) tok3 (.cond z0 hc) rfl) <| .g rfl rfl (.b 2 rfl) (fun hc => op_geq (.cond z0 hc) .k) <| .o (op_and z3 (fun hp => (.cond z0 (beqT hp)))) <| .q 0 rfl <| .g rfl rfl (.b 0 rfl) (fun _ => op_field fld43_1 z15) <| .g rfl rfl (.b 1 rfl) (fun hc => op_loadT (R := rI) (u := (l_).B) tok3 (.cond z0 hc) rfl) <| .g rfl rfl (.b 2 rfl) (fun _ => op_move z18) <| .g rfl rfl (.b 3 rfl) (fun hc => op_lss (.cond z1 hc) (.cond z0 hc)) <| .o (op_and z4 (fun hp => (.cond z0 (beqT hp)))) <| .q 0 rfl <| .g rfl rfl (.b 0 rfl) (fun _ => op_field fld43_2 z21) <| .g rfl rfl (.b 1 rfl) (fun hc => op_loadT (R := rI) (u := (l_).Mul) tok3 (.cond z0 hc) rfl) <| .g rfl rfl (.b 2 rfl) (fun hc => op_geq (.cond z0 hc) .k) <| .o (op_and z3 (fun hp => (.cond z0 (beqT hp)))) <| .q 0 rfl <| .g rfl rfl (.b 0 rfl) (fun _ => op_field fld43_2 z26) <| .g rfl rfl (.b 1 rfl) (fun hc => op_loadT (R := rI) (u := (l_).Mul) tok3 (.cond z0 hc) rfl) <| .g rfl rfl (.b 2 rfl) (fun hc => op_leq (.cond z0 hc) .k) <| .o (op_and z3 (fun hp => (.cond z0 (beqT hp)))) <| .o (op_assign z0) <| .n) fun n1 a w hst => ?_
 replace hst := hst.to [30] [_] [] rfl rfl
 refine wp_ret ?_
 obtain rfl := sj h
 exact ret_st undef [] hpl hst rfl (.tmp z0 .nil) rfl rfl rfl

/- slices.IndexFunc[[]int,int] -/
noncomputable def fslices_IndexFunc_int (s_ : (List Int)) (f_ : (Int → Option Bool)) : Option (Int) := (tailrec (fun (s4 : Int) => ((if (decide (s4 < (s_.length : Int))) = true then (idx s_ s4).bind fun t14 => (f_ t14).bind fun t16 => (if t16 = true then (some (.inr (.inr s4))) else (some (.inl (IntKind.i64.wrap (s4 + (1:Int)))))) else (some (.inr (.inl ())))) : Option ((Int) ⊕ ((Unit) ⊕ (Int))))) (0:Int)).bind fun (e5 : (Unit) ⊕ (Int)) => (match e5 with | .inl _ => (some (-1:Int)) | .inr p23 => (some p23))
set_option maxRecDepth 100000 in
set_option maxHeartbeats 4000000 in
theorem slices_IndexFunc_int_ok {s_ : (List Int)} {f_ : (Int → Option Bool)} {r : Int} (h : fslices_IndexFunc_int s_ f_ = some r) : FnOk Tryz.prog 81 [tsl rI s_,rF96.ty f_] [] (fun _ => []) (fun _ => ti r) := by
 unfold fslices_IndexFunc_int at h
 refine FnOk.enter Tryz.func81 rfl Tryz.ntmps81 (leb rfl) (fun M0 M w0 a hpl hst => ?_)
 replace hst : St M w0 19 [(0,tsl rI s_),(1,rF96.ty f_)] [] a w0 := hst
 refine sr mixed [] hst (fun _ => .o (op_assign .k) <| .n) fun n0 a w hst => ?_
 replace hst := hst.to [1,2] [_,_] [] rfl rfl
 refine wp_seq_k (fun K2 hK2 => ?_)
 refine sr mixed [] hst (fun _ => .q 0 rfl <| .o (op_len ud22 z0) <| .o (op_move .k) <| .n) fun n1 a w hst => ?_
 replace hst := hst.to [1,2,3,4] [_,_,_,_] [] rfl rfl
 obtain ⟨e5,he5,h⟩ := bind_some h
 have hJp22 : ∀ (p22 : Unit) a w,(.inl p22) = e5 → St M w0 19 [] [] a w → K2 a w := by
  intro p22 a w he hst
  subst he
  simp only at h
  refine hK2 _ _ ?_
  try clear hK2 K2
  refine sr mixed [] hst (fun _ => .o (op_assign .k) <| .n) fun n7 a w hst => ?_
  replace hst := hst.to [0] [_] [] rfl rfl
  refine wp_ret ?_
  obtain rfl := sj h
  exact ret_st undef [] hpl hst rfl (.tmp z0 .nil) rfl rfl rfl
 have hJp23 : ∀ (p23 : Int) a w,(.inr p23) = e5 → St M w0 19 [(4,ti p23)] [] a w → Ret Tryz.prog Tryz.f81 M0 [] w0 (fun _ => []) (fun _ => ti r) .ret a w := by
  intro p23 a w he hst
  subst he
  simp only at h
  obtain rfl := sj h
  exact ret_st undef [] hpl hst rfl (.tmp z0 .nil) rfl rfl rfl
 refine wp_block ?_
 refine wp_loopK _ (fun (s4 : Int) a w => St M w0 19 [(7,ti (s_.length : Int)),(8,ti s4),(0,tsl rI s_),(1,rF96.ty f_)] [] a w) _ _ he5 (hst.pick [0,1,2,3]) ?_
 clear h
 intro s4 o a w K25 hI h ho hK25
 have hst := hI
 clear hI
 refine sr mixed [] hst (fun _ => .o (op_lss z1 z0) <| .n) fun n2 a w hst => ?_
 replace hst := hst.to [0,1,2,3,4] [_,_,_,_,_] [] rfl rfl
 refine wp_seq_k (fun K27 hK27 => ?_)
 refine wt hst (fun b33 => ?_) (fun b33 => ?_)
 ·replace h := ite_t b33 h
  refine wp_skip ?_
  refine hK27 _ _ ?_
  try clear hK27 K27
  refine wp_seq_k (fun K28 hK28 => ?_)
  refine wp_block ?_
  refine sr mixed [] hst (fun _ => .q 2 rfl <| .o (op_assign z0) <| .n) fun n3 a w hst => ?_
  replace hst := hst.to [1,3,4,5,6] [_,_,_,_,_] [] rfl rfl
  obtain ⟨t14,ht14,h⟩ := bind_some h
  obtain ⟨t16,ht16,h⟩ := bind_some h
  refine sr mixed [] hst (fun _ => .q 4 rfl <| .q 4 rfl <| .q 2 rfl <| .o (op_index ud22 tok3 z1 z0 ht14) <| .o (op_load tok3 z0) <| .o (op_callT (u := t14) z4 (.cons (.of z0) <| .nil) ht16) <| .n) fun n4 a w hst => ?_
  replace hst := hst.to [5,6,7,8,9,10] [_,_,_,_,_,_] [] rfl rfl
  refine wt hst (fun b32 => ?_) (fun b32 => ?_)
  ·replace h := ite_t b32 h
   refine sr mixed [] hst (fun _ => .q 1 rfl <| .o (op_assign z0) <| .n) fun n5 a w hst => ?_
   replace hst := hst.to [1] [_] [] rfl rfl
   refine wp_ret ?_
   exact hJp23 _ _ _ (ho _ (sj h).symm) (hst.pick [0])
  ·replace h := ite_f b32 h
   refine wp_skip ?_
   refine hK28 _ _ ?_
   try clear hK28 K28
   refine wr mixed [] hst (fun _ => .o (op_add z3 .k) <| .q 0 rfl <| .n) fun n6 a w hst => ?_
   replace hst := hst.to [1,4,5,6] [_,_,_,_] [] rfl rfl
   exact hK25 _ _ _ (sj h).symm (hst.pick [1,0,2,3])
 ·replace h := ite_f b33 h
  refine wp_exit ?_
  exact hJp22 _ _ _ (ho _ (sj h).symm) (hst.pick [])

/- slices.ContainsFunc[[]int,int] -/
noncomputable def fslices_ContainsFunc_int (s_ : (List Int)) (f_ : (Int → Option Bool)) : Option (Bool) := (fslices_IndexFunc_int s_ f_).bind fun t7 => (some (decide (t7 ≥ (0:Int))))
set_option maxRecDepth 100000 in
set_option maxHeartbeats 4000000 in
theorem slices_ContainsFunc_int_ok {s_ : (List Int)} {f_ : (Int → Option Bool)} {r : Bool} (h : fslices_ContainsFunc_int s_ f_ = some r) : FnOk Tryz.prog 43 [tsl rI s_,rF96.ty f_] [] (fun _ => []) (fun _ => tb r) := by
 unfold fslices_ContainsFunc_int at h
 refine FnOk.enter Tryz.func43 rfl Tryz.ntmps43 (leb rfl) (fun M0 M w0 a hpl hst => ?_)
 replace hst : St M w0 9 [(0,tsl rI s_),(1,rF96.ty f_)] [] a w0 := hst
 refine sr mixed [] hst (fun _ => .o (op_assign .k) <| .n) fun n0 a w hst => ?_
 replace hst := hst.to [1,2] [_,_] [] rfl rfl
 obtain ⟨t7,ht7,h⟩ := bind_some h
 refine sr mixed [] hst (fun _ => .q 0 rfl <| .q 2 rfl <| .o (op_callF call81 (slices_IndexFunc_int_ok ht7) (.cons (.of z1) <| .cons (.of z0) <| .nil)) <| .o (op_geq z0 .k) <| .o (op_assign z0) <| .n) fun n1 a w hst => ?_
 replace hst := hst.to [4] [_] [] rfl rfl
 refine wp_ret ?_
 obtain rfl := sj h
 exact ret_st undef [] hpl hst rfl (.tmp z0 .nil) rfl rfl rfl

/- diorama/counts.isCount -/
noncomputable def fcounts_isCount (n_ : Int) : Option (Bool) := (some ((decide (n_ ≥ (0:Int))) && (decide (n_ ≤ (65536:Int)))))
set_option maxRecDepth 100000 in
set_option maxHeartbeats 4000000 in
theorem counts_isCount_ok {n_ : Int} {r : Bool} (h : fcounts_isCount n_ = some r) : FnOk Tryz.prog 45 [ti n_] [] (fun _ => []) (fun _ => tb r) := by
 unfold fcounts_isCount at h
 refine FnOk.enter Tryz.func45 rfl Tryz.ntmps45 (leb rfl) (fun M0 M w0 a hpl hst => ?_)
 replace hst : St M w0 9 [(0,ti n_)] [] a w0 := hst
 refine sr mixed [] hst (fun _ => .o (op_assign .k) <| .n) fun n0 a w hst => ?_
 replace hst := hst.to [1] [_] [] rfl rfl
 refine sr mixed [] hst (fun _ => .q 0 rfl <| .o (op_geq z0 .k) <| .q 0 rfl <| .g rfl rfl (.b 0 rfl) (fun _ => op_move z3) <| .g rfl rfl (.b 1 rfl) (fun hc => op_leq (.cond z0 hc) .k) <| .o (op_and z2 (fun hp => (.cond z0 (beqT hp)))) <| .o (op_assign z0) <| .n) fun n1 a w hst => ?_
 replace hst := hst.to [6] [_] [] rfl rfl
 refine wp_ret ?_
 obtain rfl := sj h
 exact ret_st undef [] hpl hst rfl (.tmp z0 .nil) rfl rfl rfl

/- diorama/counts.Holds$1 -/
noncomputable def fcounts_Holdsq1 (n_ : Int) : Option (Bool) := (fcounts_isCount n_).bind fun t4 => (some (!t4))
set_option maxRecDepth 100000 in
set_option maxHeartbeats 4000000 in
theorem counts_Holdsq1_ok {n_ : Int} {r : Bool} (h : fcounts_Holdsq1 n_ = some r) : FnOk Tryz.prog 44 [ti n_] [] (fun _ => []) (fun _ => tb r) := by
 unfold fcounts_Holdsq1 at h
 refine FnOk.enter Tryz.func44 rfl Tryz.ntmps44 (leb rfl) (fun M0 M w0 a hpl hst => ?_)
 replace hst : St M w0 6 [(0,ti n_)] [] a w0 := hst
 refine sr mixed [] hst (fun _ => .o (op_assign .k) <| .n) fun n0 a w hst => ?_
 replace hst := hst.to [1] [_] [] rfl rfl
 obtain ⟨t4,ht4,h⟩ := bind_some h
 refine sr mixed [] hst (fun _ => .q 0 rfl <| .o (op_callF call45 (counts_isCount_ok ht4) (.cons (.of z0) <| .nil)) <| .o (op_not z0) <| .o (op_assign z0) <| .n) fun n1 a w hst => ?_
 replace hst := hst.to [3] [_] [] rfl rfl
 refine wp_ret ?_
 obtain rfl := sj h
 exact ret_st undef [] hpl hst rfl (.tmp z0 .nil) rfl rfl rfl

/- (diorama/counts.Limit).bound -/
noncomputable def fcounts_Limit_bound (l_ : Scounts_Limit) (counts_ : (List Int)) : Option (Int) := (if (decide ((l_).B < (0:Int))) = true then (some (l_).Mul) else (idx counts_ (l_).B).bind fun t15 => (some (IntKind.i64.wrap ((l_).Mul * t15))))
set_option maxRecDepth 100000 in
set_option maxHeartbeats 4000000 in
theorem counts_Limit_bound_ok {l_ : Scounts_Limit} {counts_ : (List Int)} {r : Int} (h : fcounts_Limit_bound l_ counts_ = some r) : FnOk Tryz.prog 82 [rScounts_Limit.ty l_,tsl rI counts_] [] (fun _ => []) (fun _ => ti r) := by
 unfold fcounts_Limit_bound at h
 refine FnOk.enter Tryz.func82 rfl Tryz.ntmps82 (leb rfl) (fun M0 M w0 a hpl hst => ?_)
 replace hst : St M w0 18 [(0,rScounts_Limit.ty l_),(1,tsl rI counts_)] [] a w0 := hst
 refine sr mixed [] hst (fun _ => .o (op_boxR (R := rScounts_Limit) (u := l_) z0) <| .o (op_assign .k) <| .n) fun n0 a w hst => ?_
 replace hst := hst.to [0,3] [_,_] [] rfl rfl
 refine wp_seq_k (fun K2 hK2 => ?_)
 refine sr mixed [] hst (fun _ => .o (op_field fld43_1 z0) <| .o (op_loadT (R := rI) (u := (l_).B) tok3 z0 rfl) <| .o (op_lss z0 .k) <| .n) fun n1 a w hst => ?_
 replace hst := hst.to [2,3,4] [_,_,_] [] rfl rfl
 refine wt hst (fun b6 => ?_) (fun b6 => ?_)
 ·replace h := ite_t b6 h
  refine sr mixed [] hst (fun _ => .o (op_field fld43_2 z1) <| .o (op_loadT (R := rI) (u := (l_).Mul) tok3 z0 rfl) <| .o (op_assign z0) <| .n) fun n2 a w hst => ?_
  replace hst := hst.to [2] [_] [] rfl rfl
  refine wp_ret ?_
  obtain rfl := sj h
  exact ret_st undef [] hpl hst rfl (.tmp z0 .nil) rfl rfl rfl
 ·replace h := ite_f b6 h
  refine wp_skip ?_
  refine hK2 _ _ ?_
  try clear hK2 K2
  obtain ⟨t15,ht15,h⟩ := bind_some h
  refine sr mixed [] hst (fun _ => .o (op_field fld43_2 z1) <| .o (op_loadT (R := rI) (u := (l_).Mul) tok3 z0 rfl) <| .q 4 rfl <| .o (op_field fld43_1 z4) <| .o (op_loadT (R := rI) (u := (l_).B) tok3 z0 rfl) <| .o (op_index ud22 tok3 z2 z0 ht15) <| .o (op_load tok3 z0) <| .o (op_mul z5 z0) <| .o (op_assign z0) <| .n) fun n3 a w hst => ?_
  replace hst := hst.to [8] [_] [] rfl rfl
  refine wp_ret ?_
  obtain rfl := sj h
  exact ret_st undef [] hpl hst rfl (.tmp z0 .nil) rfl rfl rfl

/- (diorama/counts.Limit).holds -/
noncomputable def fcounts_Limit_holds (l_ : Scounts_Limit) (counts_ : (List Int)) : Option (Bool) := (if (l_).Least = true then (idx counts_ (l_).A).bind fun t10 => (fcounts_Limit_bound l_ counts_).bind fun t14 => (some (decide (t10 ≥ t14))) else (idx counts_ (l_).A).bind fun t19 => (fcounts_Limit_bound l_ counts_).bind fun t23 => (some (decide (t19 ≤ t23))))
set_option maxRecDepth 100000 in
set_option maxHeartbeats 4000000 in
theorem counts_Limit_holds_ok {l_ : Scounts_Limit} {counts_ : (List Int)} {r : Bool} (h : fcounts_Limit_holds l_ counts_ = some r) : FnOk Tryz.prog 46 [rScounts_Limit.ty l_,tsl rI counts_] [] (fun _ => []) (fun _ => tb r) := by
 unfold fcounts_Limit_holds at h
 refine FnOk.enter Tryz.func46 rfl Tryz.ntmps46 (leb rfl) (fun M0 M w0 a hpl hst => ?_)
 replace hst : St M w0 25 [(0,rScounts_Limit.ty l_),(1,tsl rI counts_)] [] a w0 := hst
 refine sr mixed [] hst (fun _ => .o (op_boxR (R := rScounts_Limit) (u := l_) z0) <| .o (op_assign .k) <| .n) fun n0 a w hst => ?_
 replace hst := hst.to [0,3] [_,_] [] rfl rfl
 refine wp_seq_k (fun K2 hK2 => ?_)
 refine sr mixed [] hst (fun _ => .o (op_field fld43_3 z0) <| .o (op_loadT (R := rBool) (u := (l_).Least) tok4 z0 rfl) <| .n) fun n1 a w hst => ?_
 replace hst := hst.to [1,2,3] [_,_,_] [] rfl rfl
 refine wt hst (fun b6 => ?_) (fun b6 => ?_)
 ·replace h := ite_t b6 h
  obtain ⟨t10,ht10,h⟩ := bind_some h
  obtain ⟨t14,ht14,h⟩ := bind_some h
  refine sr mixed [] hst (fun _ => .q 2 rfl <| .o (op_field fld43_0 z2) <| .o (op_loadT (R := rI) (u := (l_).A) tok3 z0 rfl) <| .o (op_index ud22 tok3 z2 z0 ht10) <| .o (op_load tok3 z0) <| .o (op_load tok43 z6) <| .q 8 rfl <| .o (op_callF call82 (counts_Limit_bound_ok ht14) (.cons (.of z1) <| .cons (.of z0) <| .nil)) <| .o (op_geq z3 z0) <| .o (op_assign z0) <| .n) fun n2 a w hst => ?_
  replace hst := hst.to [9] [_] [] rfl rfl
  refine wp_ret ?_
  obtain rfl := sj h
  exact ret_st undef [] hpl hst rfl (.tmp z0 .nil) rfl rfl rfl
 ·replace h := ite_f b6 h
  refine wp_skip ?_
  refine hK2 _ _ ?_
  try clear hK2 K2
  obtain ⟨t19,ht19,h⟩ := bind_some h
  obtain ⟨t23,ht23,h⟩ := bind_some h
  refine sr mixed [] hst (fun _ => .q 2 rfl <| .o (op_field fld43_0 z2) <| .o (op_loadT (R := rI) (u := (l_).A) tok3 z0 rfl) <| .o (op_index ud22 tok3 z2 z0 ht19) <| .o (op_load tok3 z0) <| .o (op_load tok43 z6) <| .q 8 rfl <| .o (op_callF call82 (counts_Limit_bound_ok ht23) (.cons (.of z1) <| .cons (.of z0) <| .nil)) <| .o (op_leq z3 z0) <| .o (op_assign z0) <| .n) fun n3 a w hst => ?_
  replace hst := hst.to [9] [_] [] rfl rfl
  refine wp_ret ?_
  obtain rfl := sj h
  exact ret_st undef [] hpl hst rfl (.tmp z0 .nil) rfl rfl rfl

/- diorama/counts.Holds -/
noncomputable def fcounts_Holds (l_ : Scounts_Limit) (counts_ : (List Int)) : Option (Bool) := (fcounts_Limit_valid l_ (counts_.length : Int)).bind fun t8 => (opt (t8 == true) (fslices_ContainsFunc_int counts_ (fun x0 => fcounts_Holdsq1 x0)) default).bind fun t11 => (opt ((t8 && (!t11)) == true) (fcounts_Limit_holds l_ counts_) default).bind fun t17 => (some ((t8 && (!t11)) && t17))
set_option maxRecDepth 100000 in
set_option maxHeartbeats 4000000 in
theorem counts_Holds_ok {l_ : Scounts_Limit} {counts_ : (List Int)} {r : Bool} (h : fcounts_Holds l_ counts_ = some r) : FnOk Tryz.prog 21 [rScounts_Limit.ty l_,tsl rI counts_] [] (fun _ => []) (fun _ => tb r) := by
 unfold fcounts_Holds at h
 refine FnOk.enter Tryz.func21 rfl Tryz.ntmps21 (leb rfl) (fun M0 M w0 a hpl hst => ?_)
 replace hst : St M w0 19 [(0,rScounts_Limit.ty l_),(1,tsl rI counts_)] [] a w0 := hst
 refine sr mixed [] hst (fun _ => .o (op_boxR (R := rScounts_Limit) (u := l_) z0) <| .o (op_assign .k) <| .n) fun n0 a w hst => ?_
 replace hst := hst.to [0,3] [_,_] [] rfl rfl
 obtain ⟨t8,ht8,h⟩ := bind_some h
 obtain ⟨t11,ht11,h⟩ := bind_some h
 obtain ⟨t17,ht17,h⟩ := bind_some h
 refine sr mixed [] hst (fun _ => .o (op_load tok43 z0) <| .q 2 rfl <| .o (op_len ud22 z0) <| .o (op_callF call42 (counts_Limit_valid_ok ht8) (.cons (.of z2) <| .cons (.of z0) <| .nil)) <| .q 0 rfl <| .g rfl rfl (.b 0 rfl) (fun _ => op_move z6) <| .g rfl rfl (.b 1 rfl) (fun hc => op_callF call43 (slices_ContainsFunc_int_ok (opt_t ht11 hc)) (.cons (.of (.cond z0 hc)) <| .cons (.of (Fct.weak .fnE (tfn_of call44 (fun _ _ hq => counts_Holdsq1_ok hq)))) <| .nil)) <| .g rfl rfl (.b 2 rfl) (fun hc => op_not (.cond z0 hc)) <| .o (op_and z3 (fun hp => (.cond z0 (beqT hp)))) <| .q 0 rfl <| .g rfl rfl (.b 0 rfl) (fun _ => op_load tok43 z10) <| .g rfl rfl (.b 1 rfl) (fun _ => op_move z12) <| .g rfl rfl (.b 2 rfl) (fun hc => op_callF call46 (counts_Limit_holds_ok (opt_t ht17 hc)) (.cons (.of (.cond z1 hc)) <| .cons (.of (.cond z0 hc)) <| .nil)) <| .o (op_and z3 (fun hp => (.cond z0 (beqT hp)))) <| .o (op_assign z0) <| .n) fun n1 a w hst => ?_
 replace hst := hst.to [14] [_] [] rfl rfl
 refine wp_ret ?_
 obtain rfl := sj h
 exact ret_st undef [] hpl hst rfl (.tmp z0 .nil) rfl rfl rfl

/- diorama/dioramaref13.Valid -/
noncomputable def fref13_Valid (l_ : Sref13_Limit) (n_ : Int) : Option (Bool) := (some ((((((decide ((l_).A ≥ (0:Int))) && (decide ((l_).A < n_))) && (decide ((l_).B ≥ (-1:Int)))) && (decide ((l_).B < n_))) && (decide ((l_).Mul ≥ (0:Int)))) && (decide ((l_).Mul ≤ (65536:Int)))))
set_option maxRecDepth 100000 in
set_option maxHeartbeats 4000000 in
theorem ref13_Valid_ok {l_ : Sref13_Limit} {n_ : Int} {r : Bool} (h : fref13_Valid l_ n_ = some r) : FnOk Tryz.prog 47 [rSref13_Limit.ty l_,ti n_] [] (fun _ => []) (fun _ => tb r) := by
 unfold fref13_Valid at h
 refine FnOk.enter Tryz.func47 rfl Tryz.ntmps47 (leb rfl) (fun M0 M w0 a hpl hst => ?_)
 replace hst : St M w0 35 [(0,rSref13_Limit.ty l_),(1,ti n_)] [] a w0 := hst
 refine sr mixed [] hst (fun _ => .o (op_boxR (R := rSref13_Limit) (u := l_) z0) <| .o (op_assign .k) <| .n) fun n0 a w hst => ?_
 replace hst := hst.to [0,3] [_,_] [] rfl rfl
 refine sr mixed [] hst (fun _ => .o (op_field fld41_0 z0) <| .o (op_loadT (R := rI) (u := (l_).A) tok3 z0 rfl) <| .o (op_geq z0 .k) <| .q 0 rfl <| .g rfl rfl (.b 0 rfl) (fun _ => op_field fld41_0 z4) <| .g rfl rfl (.b 1 rfl) (fun hc => op_loadT (R := rI) (u := (l_).A) tok3 (.cond z0 hc) rfl) <| .g rfl rfl (.b 2 rfl) (fun _ => op_move z7) <| .g rfl rfl (.b 3 rfl) (fun hc => op_lss (.cond z1 hc) (.cond z0 hc)) <| .o (op_and z4 (fun hp => (.cond z0 (beqT hp)))) <| .q 0 rfl <| .g rfl rfl (.b 0 rfl) (fun _ => op_field fld41_1 z10) <| .g rfl rfl (.b 1 rfl) (fun hc => op_loadT (R := rI) (u := (l_).B) tok3 (.cond z0 hc) rfl) <| .g rfl rfl (.b 2 rfl) (fun hc => op_geq (.cond z0 hc) .k) <| .o (op_and z3 (fun hp => (.cond z0 (beqT hp)))) <| .q 0 rfl <| .g rfl rfl (.b 0 rfl) (fun _ => op_field fld41_1 z15) <| .g rfl rfl (.b 1 rfl) (fun hc => op_loadT (R := rI) (u := (l_).B) tok3 (.cond z0 hc) rfl) <| .g rfl rfl (.b 2 rfl) (fun _ => op_move z18) <| .g rfl rfl (.b 3 rfl) (fun hc => op_lss (.cond z1 hc) (.cond z0 hc)) <| .o (op_and z4 (fun hp => (.cond z0 (beqT hp)))) <| .q 0 rfl <| .g rfl rfl (.b 0 rfl) (fun _ => op_field fld41_2 z21) <| .g rfl rfl (.b 1 rfl) (fun hc => op_loadT (R := rI) (u := (l_).Mul) tok3 (.cond z0 hc) rfl) <| .g rfl rfl (.b 2 rfl) (fun hc => op_geq (.cond z0 hc) .k) <| .o (op_and z3 (fun hp => (.cond z0 (beqT hp)))) <| .q 0 rfl <| .g rfl rfl (.b 0 rfl) (fun _ => op_field fld41_2 z26) <| .g rfl rfl (.b 1 rfl) (fun hc => op_loadT (R := rI) (u := (l_).Mul) tok3 (.cond z0 hc) rfl) <| .g rfl rfl (.b 2 rfl) (fun hc => op_leq (.cond z0 hc) .k) <| .o (op_and z3 (fun hp => (.cond z0 (beqT hp)))) <| .o (op_assign z0) <| .n) fun n1 a w hst => ?_
 replace hst := hst.to [30] [_] [] rfl rfl
 refine wp_ret ?_
 obtain rfl := sj h
 exact ret_st undef [] hpl hst rfl (.tmp z0 .nil) rfl rfl rfl

/- diorama/dioramaref13.Numbers -/
noncomputable def fref13_Numbers (l_ : (List Int)) : Option (Bool) := (tailrec (fun (s4 : Int) => ((if (decide (s4 < (l_.length : Int))) = true then (idx l_ s4).bind fun t12 => (opt ((decide (t12 < (0:Int))) == false) (idx l_ s4) default).bind fun t18 => (if ((decide (t12 < (0:Int))) || (decide (t18 > (65536:Int)))) = true then (some (.inr (.inr false))) else (some (.inl (IntKind.i64.wrap (s4 + (1:Int)))))) else (some (.inr (.inl ())))) : Option ((Int) ⊕ ((Unit) ⊕ (Bool))))) (0:Int)).bind fun (e5 : (Unit) ⊕ (Bool)) => (match e5 with | .inl _ => (some true) | .inr p21 => (some p21))
set_option maxRecDepth 100000 in
set_option maxHeartbeats 4000000 in
theorem ref13_Numbers_ok {l_ : (List Int)} {r : Bool} (h : fref13_Numbers l_ = some r) : FnOk Tryz.prog 48 [tsl rI l_] [] (fun _ => []) (fun _ => tb r) := by
 unfold fref13_Numbers at h
 refine FnOk.enter Tryz.func48 rfl Tryz.ntmps48 (leb rfl) (fun M0 M w0 a hpl hst => ?_)
 replace hst : St M w0 22 [(0,tsl rI l_)] [] a w0 := hst
 refine sr mixed [] hst (fun _ => .o (op_assign .k) <| .n) fun n0 a w hst => ?_
 replace hst := hst.to [1] [_] [] rfl rfl
 refine wp_seq_k (fun K2 hK2 => ?_)
 refine sr mixed [] hst (fun _ => .o (op_assign .k) <| .n) fun n1 a w hst => ?_
 replace hst := hst.to [0,1] [_,_] [] rfl rfl
 obtain ⟨e5,he5,h⟩ := bind_some h
 have hJp20 : ∀ (p20 : Unit) a w,(.inl p20) = e5 → St M w0 22 [] [] a w → K2 a w := by
  intro p20 a w he hst
  subst he
  simp only at h
  refine hK2 _ _ ?_
  try clear hK2 K2
  refine sr mixed [] hst (fun _ => .o (op_assign .k) <| .n) fun n6 a w hst => ?_
  replace hst := hst.to [0] [_] [] rfl rfl
  refine wp_ret ?_
  obtain rfl := sj h
  exact ret_st undef [] hpl hst rfl (.tmp z0 .nil) rfl rfl rfl
 have hJp21 : ∀ (p21 : Bool) a w,(.inr p21) = e5 → St M w0 22 [(2,tb p21)] [] a w → Ret Tryz.prog Tryz.f48 M0 [] w0 (fun _ => []) (fun _ => tb r) .ret a w := by
  intro p21 a w he hst
  subst he
  simp only at h
  obtain rfl := sj h
  exact ret_st undef [] hpl hst rfl (.tmp z0 .nil) rfl rfl rfl
 refine wp_block ?_
 refine wp_loopK _ (fun (s4 : Int) a w => St M w0 22 [(3,ti s4),(0,tsl rI l_)] [] a w) _ _ he5 (hst.pick [0,1]) ?_
 clear h
 intro s4 o a w K23 hI h ho hK23
 have hst := hI
 clear hI
 refine wp_seq_k (fun K24 hK24 => ?_)
 refine sr mixed [] hst (fun _ => .q 0 rfl <| .q 2 rfl <| .o (op_len ud22 z0) <| .o (op_lss z2 z0) <| .n) fun n2 a w hst => ?_
 replace hst := hst.to [3,4,5] [_,_,_] [] rfl rfl
 refine wt hst (fun b30 => ?_) (fun b30 => ?_)
 ·replace h := ite_t b30 h
  refine wp_skip ?_
  refine hK24 _ _ ?_
  try clear hK24 K24
  refine wp_seq_k (fun K26 hK26 => ?_)
  refine wp_block ?_
  obtain ⟨t12,ht12,h⟩ := bind_some h
  obtain ⟨t18,ht18,h⟩ := bind_some h
  refine sr mixed [] hst (fun _ => .q 2 rfl <| .q 2 rfl <| .o (op_index ud22 tok3 z1 z0 ht12) <| .o (op_load tok3 z0) <| .o (op_lss z0 .k) <| .q 0 rfl <| .g rfl rfl (.b 0 rfl) (fun _ => op_move z8) <| .g rfl rfl (.b 1 rfl) (fun _ => op_move z8) <| .g rfl rfl (.b 2 rfl) (fun hc => op_index ud22 tok3 (.cond z1 hc) (.cond z0 hc) (opt_t ht18 hc)) <| .g rfl rfl (.b 3 rfl) (fun hc => op_load tok3 (.cond z0 hc)) <| .g rfl rfl (.b 4 rfl) (fun hc => op_gtr (.cond z0 hc) .k) <| .o (op_or z5 (fun hp => (.cond z0 (beqF hp)))) <| .n) fun n4 a w hst => ?_
  replace hst := hst.to [11,13,14] [_,_,_] [] rfl rfl
  refine wt hst (fun b29 => ?_) (fun b29 => ?_)
  ·replace h := ite_t b29 h
   refine sr mixed [] hst (fun _ => .o (op_assign .k) <| .n) fun n5 a w hst => ?_
   replace hst := hst.to [0] [_] [] rfl rfl
   refine wp_ret ?_
   exact hJp21 _ _ _ (ho _ (sj h).symm) (hst.pick [0])
  ·replace h := ite_f b29 h
   refine wp_skip ?_
   refine hK26 _ _ ?_
   try clear hK26 K26
   refine wr mixed [] hst (fun _ => .q 1 rfl <| .o (op_add z0 .k) <| .o (op_assign z0) <| .n) fun n3 a w hst => ?_
   replace hst := hst.to [2,4] [_,_] [] rfl rfl
   exact hK23 _ _ _ (sj h).symm (hst.pick [0,1])
 ·replace h := ite_f b30 h
  refine wp_exit ?_
  exact hJp20 _ _ _ (ho _ (sj h).symm) (hst.pick [])

/- diorama/dioramaref13.Holds -/
noncomputable def fref13_Holds (l_ : Sref13_Limit) (counts_ : (List Int)) : Option (Bool) := (fref13_Valid l_ (counts_.length : Int)).bind fun t9 => (opt ((!t9) == false) (fref13_Numbers counts_) default).bind fun t13 => (if ((!t9) || (!t13)) = true then (some false) else ((if (decide ((l_).B ≥ (0:Int))) = true then (idx counts_ (l_).B).bind fun t26 => (some (IntKind.i64.wrap ((l_).Mul * t26))) else (some (l_).Mul))).bind fun (p8 : Int) => (if (l_).Least = true then (idx counts_ (l_).A).bind fun t34 => (some (decide (t34 ≥ p8))) else (idx counts_ (l_).A).bind fun t41 => (some (decide (t41 ≤ p8)))))
set_option maxRecDepth 100000 in
set_option maxHeartbeats 4000000 in
theorem ref13_Holds_ok {l_ : Sref13_Limit} {counts_ : (List Int)} {r : Bool} (h : fref13_Holds l_ counts_ = some r) : FnOk Tryz.prog 22 [rSref13_Limit.ty l_,tsl rI counts_] [] (fun _ => []) (fun _ => tb r) := by
 unfold fref13_Holds at h
 refine FnOk.enter Tryz.func22 rfl Tryz.ntmps22 (leb rfl) (fun M0 M w0 a hpl hst => ?_)
 replace hst : St M w0 45 [(0,rSref13_Limit.ty l_),(1,tsl rI counts_)] [] a w0 := hst
 refine sr mixed [] hst (fun _ => .o (op_boxR (R := rSref13_Limit) (u := l_) z0) <| .o (op_assign .k) <| .n) fun n0 a w hst => ?_
 replace hst := hst.to [0,3] [_,_] [] rfl rfl
 refine wp_seq_k (fun K2 hK2 => ?_)
 obtain ⟨t9,ht9,h⟩ := bind_some h
 obtain ⟨t13,ht13,h⟩ := bind_some h
 refine sr mixed [] hst (fun _ => .o (op_load tok41 z0) <| .q 2 rfl <| .o (op_len ud22 z0) <| .o (op_callF call47 (ref13_Valid_ok ht9) (.cons (.of z2) <| .cons (.of z0) <| .nil)) <| .o (op_not z0) <| .q 0 rfl <| .g rfl rfl (.b 0 rfl) (fun _ => op_move z7) <| .g rfl rfl (.b 1 rfl) (fun hc => op_callF call48 (ref13_Numbers_ok (opt_t ht13 hc)) (.cons (.of (.cond z0 hc)) <| .nil)) <| .g rfl rfl (.b 2 rfl) (fun hc => op_not (.cond z0 hc)) <| .o (op_or z3 (fun hp => (.cond z0 (beqF hp)))) <| .n) fun n1 a w hst => ?_
 replace hst := hst.to [9,10,11] [_,_,_] [] rfl rfl
 refine wt hst (fun b16 => ?_) (fun b16 => ?_)
 ·replace h := ite_t b16 h
  refine sr mixed [] hst (fun _ => .o (op_assign .k) <| .n) fun n2 a w hst => ?_
  replace hst := hst.to [0] [_] [] rfl rfl
  refine wp_ret ?_
  obtain rfl := sj h
  exact ret_st undef [] hpl hst rfl (.tmp z0 .nil) rfl rfl rfl
 ·replace h := ite_f b16 h
  refine wp_skip ?_
  refine hK2 _ _ ?_
  try clear hK2 K2
  refine sr mixed [] hst (fun _ => .o (op_field fld41_2 z1) <| .o (op_loadT (R := rI) (u := (l_).Mul) tok3 z0 rfl) <| .o (op_assign z0) <| .n) fun n3 a w hst => ?_
  replace hst := hst.to [2,4,5] [_,_,_] [] rfl rfl
  refine wp_seq_k (fun K6 hK6 => ?_)
  refine sr mixed [] hst (fun _ => .o (op_field fld41_1 z1) <| .o (op_loadT (R := rI) (u := (l_).B) tok3 z0 rfl) <| .o (op_geq z0 .k) <| .n) fun n4 a w hst => ?_
  replace hst := hst.to [2,3,4,5] [_,_,_,_] [] rfl rfl
  obtain ⟨p8,hp8,h⟩ := bind_some h
  have hJp8 : ∀ a w,St M w0 45 [(5,ti p8),(2,tptr (rSref13_Limit.cs l_)),(1,tsl rI counts_)] [] a w → K6 a w := by
   intro a w hst
   refine hK6 _ _ ?_
   try clear hK6 K6
   refine wp_seq_k (fun K10 hK10 => ?_)
   refine sr mixed [] hst (fun _ => .o (op_field fld41_3 z1) <| .o (op_loadT (R := rBool) (u := (l_).Least) tok4 z0 rfl) <| .n) fun n6 a w hst => ?_
   replace hst := hst.to [1,2,3,4] [_,_,_,_] [] rfl rfl
   refine wt hst (fun b14 => ?_) (fun b14 => ?_)
   ·replace h := ite_t b14 h
    obtain ⟨t34,ht34,h⟩ := bind_some h
    refine sr mixed [] hst (fun _ => .q 3 rfl <| .o (op_field fld41_0 z3) <| .o (op_loadT (R := rI) (u := (l_).A) tok3 z0 rfl) <| .o (op_index ud22 tok3 z2 z0 ht34) <| .o (op_load tok3 z0) <| .q 6 rfl <| .o (op_geq z1 z0) <| .o (op_assign z0) <| .n) fun n7 a w hst => ?_
    replace hst := hst.to [7] [_] [] rfl rfl
    refine wp_ret ?_
    obtain rfl := sj h
    exact ret_st undef [] hpl hst rfl (.tmp z0 .nil) rfl rfl rfl
   ·replace h := ite_f b14 h
    refine wp_skip ?_
    refine hK10 _ _ ?_
    try clear hK10 K10
    obtain ⟨t41,ht41,h⟩ := bind_some h
    refine sr mixed [] hst (fun _ => .q 3 rfl <| .o (op_field fld41_0 z3) <| .o (op_loadT (R := rI) (u := (l_).A) tok3 z0 rfl) <| .o (op_index ud22 tok3 z2 z0 ht41) <| .o (op_load tok3 z0) <| .q 6 rfl <| .o (op_leq z1 z0) <| .o (op_assign z0) <| .n) fun n8 a w hst => ?_
    replace hst := hst.to [7] [_] [] rfl rfl
    refine wp_ret ?_
    obtain rfl := sj h
    exact ret_st undef [] hpl hst rfl (.tmp z0 .nil) rfl rfl rfl
  replace h := hp8
  clear hp8
  refine wt hst (fun b15 => ?_) (fun b15 => ?_)
  ·replace h := ite_t b15 h
   obtain ⟨t26,ht26,h⟩ := bind_some h
   refine wr mixed [] hst (fun _ => .o (op_field fld41_2 z2) <| .o (op_loadT (R := rI) (u := (l_).Mul) tok3 z0 rfl) <| .q 5 rfl <| .o (op_field fld41_1 z5) <| .o (op_loadT (R := rI) (u := (l_).B) tok3 z0 rfl) <| .o (op_index ud22 tok3 z2 z0 ht26) <| .o (op_load tok3 z0) <| .o (op_mul z5 z0) <| .o (op_assign z0) <| .n) fun n5 a w hst => ?_
   replace hst := hst.to [8,10,11] [_,_,_] [] rfl rfl
   obtain rfl := sj h
   exact hJp8 _ _ (hst.pick [0,1,2])
  ·replace h := ite_f b15 h
   refine wp_skip ?_
   obtain rfl := sj h
   exact hJp8 _ _ (hst.pick [1,2,3])

/- diorama/dioramalaw13.example -/
noncomputable def flaw13_example (least_ : Int) : Option (Sapi_Schema) := (some (Sapi_Schema.mk (0:Int) [(Sapi_Kind.mk ([97] : Str) (1:Int) (2:Int) [(Sapi_Field.mk ([105,100] : Str) ([] : Str) ([] : Str) (0:Int) (0:Int) (0:Int) ([] : (List Str)) ([] : (List Int)))]),(Sapi_Kind.mk ([98] : Str) least_ (9:Int) [(Sapi_Field.mk ([105,100] : Str) ([] : Str) ([] : Str) (0:Int) (0:Int) (0:Int) ([] : (List Str)) ([] : (List Int))),(Sapi_Field.mk ([111,102] : Str) ([97] : Str) ([] : Str) (1:Int) (0:Int) (4:Int) ([] : (List Str)) ([] : (List Int)))])] ([] : (List Sapi_Life)) ([] : (List Sapi_Rule))))
set_option maxRecDepth 100000 in
set_option maxHeartbeats 4000000 in
theorem law13_example_ok {least_ : Int} {r : Sapi_Schema} (h : flaw13_example least_ = some r) : FnOk Tryz.prog 26 [ti least_] [] (fun _ => []) (fun _ => rSapi_Schema.ty r) := by
 unfold flaw13_example at h
 refine FnOk.enter Tryz.func26 rfl Tryz.ntmps26 (leb rfl) (fun M0 M w0 a hpl hst => ?_)
 replace hst : St M w0 17 [(0,ti least_)] [] a w0 := hst
 refine sr mixed [v1 0 (fun v0 => box (rSapi_Schema.cs (Sapi_Schema.mk (0:Int) ([] : (List Sapi_Kind)) ([] : (List Sapi_Life)) ([] : (List Sapi_Rule)))) v0)] hst (fun _ => .m [] [0] rfl rfl rfl (op_alloc (R := rSapi_Schema) (a := (Sapi_Schema.mk (0:Int) ([] : (List Sapi_Kind)) ([] : (List Sapi_Life)) ([] : (List Sapi_Rule)))) tok27 zok27) <| .n) fun n0 a w hst => ?_
 replace hst := hst.to [0,1] [_,_] [_] rfl rfl
 refine sr mixed [v1 3 (fun v0 => box (rSapi_Kind.cs zz1) v0),v1 3 (fun v0 => box (rSapi_Kind.cs (Sapi_Kind.mk ([97] : Str) (1:Int) (2:Int) [(Sapi_Field.mk ([105,100] : Str) ([] : Str) ([] : Str) (0:Int) (0:Int) (0:Int) ([] : (List Str)) ([] : (List Int)))])) v0)] hst (fun _ => .p (T := rSapi_Field.ty (Sapi_Field.mk ([105,100] : Str) ([] : Str) ([] : Str) (0:Int) (0:Int) (0:Int) ([] : (List Str)) ([] : (List Int)))) rfl (op_build ud61 pl61 zv61 zc61 (.cons (R := rS) (u := ([105,100] : Str)) rfl .k (leb rfl) <| .nil _)) <| .o (op_buildSl (R := rSapi_Field) (us := [(Sapi_Field.mk ([105,100] : Str) ([] : Str) ([] : Str) (0:Int) (0:Int) (0:Int) ([] : (List Str)) ([] : (List Int)))]) ud53 tok61 (.cons z0 <| .nil _) rfl (leb rfl)) <| .p (T := rSapi_Kind.ty (Sapi_Kind.mk ([97] : Str) (1:Int) (2:Int) [(Sapi_Field.mk ([105,100] : Str) ([] : Str) ([] : Str) (0:Int) (0:Int) (0:Int) ([] : (List Str)) ([] : (List Int)))])) rfl (op_build Tryz.underlying55 pl55 zv55 zc55 (.cons (R := rS) (u := ([97] : Str)) rfl .k (leb rfl) <| .cons (R := rI) (u := (1:Int)) rfl .k (leb rfl) <| .cons (R := rI) (u := (2:Int)) rfl .k (leb rfl) <| .cons (R := (rSl rSapi_Field)) (u := [(Sapi_Field.mk ([105,100] : Str) ([] : Str) ([] : Str) (0:Int) (0:Int) (0:Int) ([] : (List Str)) ([] : (List Int)))]) rfl z0 (leb rfl) <| .nil _)) <| .m [] [1] rfl rfl rfl (op_alloc (R := rSapi_Kind) (a := zz1) tok55 zok55) <| .e [] [1] [2] rfl rfl rfl rfl (op_storeB (R := rSapi_Kind) (a := (Sapi_Kind.mk ([97] : Str) (1:Int) (2:Int) [(Sapi_Field.mk ([105,100] : Str) ([] : Str) ([] : Str) (0:Int) (0:Int) (0:Int) ([] : (List Str)) ([] : (List Int)))])) tok55 z0 z1 (leb rfl)) <| .n) fun n1 a w hst => ?_
 replace hst : St _ _ _ [_,_,_] [_] _ _ := ((((hst.pick [3,4,5]).selA [1,0] rfl).shareB 0 rfl).add 0 rfl (fun _ _ _ h => h.2)).pick [0,3,4]
 refine sr mixed [v1 5 (fun v0 => box (rSapi_Kind.cs zz1) v0),v1 5 (fun v0 => box (rSapi_Kind.cs (Sapi_Kind.mk ([98] : Str) least_ (9:Int) [(Sapi_Field.mk ([105,100] : Str) ([] : Str) ([] : Str) (0:Int) (0:Int) (0:Int) ([] : (List Str)) ([] : (List Int))),(Sapi_Field.mk ([111,102] : Str) ([97] : Str) ([] : Str) (1:Int) (0:Int) (4:Int) ([] : (List Str)) ([] : (List Int)))])) v0)] hst (fun _ => .q 2 rfl <| .p (T := rSapi_Field.ty (Sapi_Field.mk ([105,100] : Str) ([] : Str) ([] : Str) (0:Int) (0:Int) (0:Int) ([] : (List Str)) ([] : (List Int)))) rfl (op_build ud61 pl61 zv61 zc61 (.cons (R := rS) (u := ([105,100] : Str)) rfl .k (leb rfl) <| .nil _)) <| .p (T := rSapi_Field.ty (Sapi_Field.mk ([111,102] : Str) ([97] : Str) ([] : Str) (1:Int) (0:Int) (4:Int) ([] : (List Str)) ([] : (List Int)))) rfl (op_build ud61 pl61 zv61 zc61 (.cons (R := rS) (u := ([111,102] : Str)) rfl .k (leb rfl) <| .cons (R := rI) (u := (1:Int)) rfl .k (leb rfl) <| .cons (R := rS) (u := ([97] : Str)) rfl .k (leb rfl) <| .cons (R := rI) (u := (4:Int)) rfl .k (leb rfl) <| .nil _)) <| .o (op_buildSl (R := rSapi_Field) (us := [(Sapi_Field.mk ([105,100] : Str) ([] : Str) ([] : Str) (0:Int) (0:Int) (0:Int) ([] : (List Str)) ([] : (List Int))),(Sapi_Field.mk ([111,102] : Str) ([97] : Str) ([] : Str) (1:Int) (0:Int) (4:Int) ([] : (List Str)) ([] : (List Int)))]) ud53 tok61 (.cons z1 <| .cons z0 <| .nil _) rfl (leb rfl)) <| .p (T := rSapi_Kind.ty (Sapi_Kind.mk ([98] : Str) least_ (9:Int) [(Sapi_Field.mk ([105,100] : Str) ([] : Str) ([] : Str) (0:Int) (0:Int) (0:Int) ([] : (List Str)) ([] : (List Int))),(Sapi_Field.mk ([111,102] : Str) ([97] : Str) ([] : Str) (1:Int) (0:Int) (4:Int) ([] : (List Str)) ([] : (List Int)))])) rfl (op_build Tryz.underlying55 pl55 zv55 zc55 (.cons (R := rS) (u := ([98] : Str)) rfl .k (leb rfl) <| .cons (R := rI) (u := least_) rfl z3 (leb rfl) <| .cons (R := rI) (u := (9:Int)) rfl .k (leb rfl) <| .cons (R := (rSl rSapi_Field)) (u := [(Sapi_Field.mk ([105,100] : Str) ([] : Str) ([] : Str) (0:Int) (0:Int) (0:Int) ([] : (List Str)) ([] : (List Int))),(Sapi_Field.mk ([111,102] : Str) ([97] : Str) ([] : Str) (1:Int) (0:Int) (4:Int) ([] : (List Str)) ([] : (List Int)))]) rfl z0 (leb rfl) <| .nil _)) <| .m [] [1] rfl rfl rfl (op_alloc (R := rSapi_Kind) (a := zz1) tok55 zok55) <| .e [] [1] [2] rfl rfl rfl rfl (op_storeB (R := rSapi_Kind) (a := (Sapi_Kind.mk ([98] : Str) least_ (9:Int) [(Sapi_Field.mk ([105,100] : Str) ([] : Str) ([] : Str) (0:Int) (0:Int) (0:Int) ([] : (List Str)) ([] : (List Int))),(Sapi_Field.mk ([111,102] : Str) ([97] : Str) ([] : Str) (1:Int) (0:Int) (4:Int) ([] : (List Str)) ([] : (List Int)))])) tok55 z0 z1 (leb rfl)) <| .n) fun n2 a w hst => ?_
 replace hst : St _ _ _ [_,_,_] [_] _ _ := ((((hst.pick [5,6,7]).selA [1,0] rfl).shareB 0 rfl).add 0 rfl (fun _ _ _ h => h.2)).pick [0,3,4]
 refine sr mixed [v0 (box (rSapi_Schema.cs (Sapi_Schema.mk (0:Int) [(Sapi_Kind.mk ([97] : Str) (1:Int) (2:Int) [(Sapi_Field.mk ([105,100] : Str) ([] : Str) ([] : Str) (0:Int) (0:Int) (0:Int) ([] : (List Str)) ([] : (List Int)))]),(Sapi_Kind.mk ([98] : Str) least_ (9:Int) [(Sapi_Field.mk ([105,100] : Str) ([] : Str) ([] : Str) (0:Int) (0:Int) (0:Int) ([] : (List Str)) ([] : (List Int))),(Sapi_Field.mk ([111,102] : Str) ([97] : Str) ([] : Str) (1:Int) (0:Int) (4:Int) ([] : (List Str)) ([] : (List Int)))])] ([] : (List Sapi_Life)) ([] : (List Sapi_Rule)))) (n0 0))] hst (fun _ => .o (op_load tok55 z1) <| .o (op_load tok55 z1) <| .o (op_buildSl (R := rSapi_Kind) (us := [(Sapi_Kind.mk ([97] : Str) (1:Int) (2:Int) [(Sapi_Field.mk ([105,100] : Str) ([] : Str) ([] : Str) (0:Int) (0:Int) (0:Int) ([] : (List Str)) ([] : (List Int)))]),(Sapi_Kind.mk ([98] : Str) least_ (9:Int) [(Sapi_Field.mk ([105,100] : Str) ([] : Str) ([] : Str) (0:Int) (0:Int) (0:Int) ([] : (List Str)) ([] : (List Int))),(Sapi_Field.mk ([111,102] : Str) ([97] : Str) ([] : Str) (1:Int) (0:Int) (4:Int) ([] : (List Str)) ([] : (List Int)))])]) ud23 tok55 (.cons z1 <| .cons z0 <| .nil _) rfl (leb rfl)) <| .p (T := rSapi_Schema.ty (Sapi_Schema.mk (0:Int) [(Sapi_Kind.mk ([97] : Str) (1:Int) (2:Int) [(Sapi_Field.mk ([105,100] : Str) ([] : Str) ([] : Str) (0:Int) (0:Int) (0:Int) ([] : (List Str)) ([] : (List Int)))]),(Sapi_Kind.mk ([98] : Str) least_ (9:Int) [(Sapi_Field.mk ([105,100] : Str) ([] : Str) ([] : Str) (0:Int) (0:Int) (0:Int) ([] : (List Str)) ([] : (List Int))),(Sapi_Field.mk ([111,102] : Str) ([97] : Str) ([] : Str) (1:Int) (0:Int) (4:Int) ([] : (List Str)) ([] : (List Int)))])] ([] : (List Sapi_Life)) ([] : (List Sapi_Rule)))) rfl (op_build Tryz.underlying27 pl27 zv27 zc27 (.cons (R := (rSl rSapi_Kind)) (u := [(Sapi_Kind.mk ([97] : Str) (1:Int) (2:Int) [(Sapi_Field.mk ([105,100] : Str) ([] : Str) ([] : Str) (0:Int) (0:Int) (0:Int) ([] : (List Str)) ([] : (List Int)))]),(Sapi_Kind.mk ([98] : Str) least_ (9:Int) [(Sapi_Field.mk ([105,100] : Str) ([] : Str) ([] : Str) (0:Int) (0:Int) (0:Int) ([] : (List Str)) ([] : (List Int))),(Sapi_Field.mk ([111,102] : Str) ([97] : Str) ([] : Str) (1:Int) (0:Int) (4:Int) ([] : (List Str)) ([] : (List Int)))])]) rfl z0 (leb rfl) <| .nil _)) <| .e [] [0] [1] rfl rfl rfl rfl (op_storeB (R := rSapi_Schema) (a := (Sapi_Schema.mk (0:Int) [(Sapi_Kind.mk ([97] : Str) (1:Int) (2:Int) [(Sapi_Field.mk ([105,100] : Str) ([] : Str) ([] : Str) (0:Int) (0:Int) (0:Int) ([] : (List Str)) ([] : (List Int)))]),(Sapi_Kind.mk ([98] : Str) least_ (9:Int) [(Sapi_Field.mk ([105,100] : Str) ([] : Str) ([] : Str) (0:Int) (0:Int) (0:Int) ([] : (List Str)) ([] : (List Int))),(Sapi_Field.mk ([111,102] : Str) ([97] : Str) ([] : Str) (1:Int) (0:Int) (4:Int) ([] : (List Str)) ([] : (List Int)))])] ([] : (List Sapi_Life)) ([] : (List Sapi_Rule)))) tok27 z6 z0 (leb rfl)) <| .n) fun n3 a w hst => ?_
 replace hst := hst.to [6] [_] [_] rfl rfl
 refine wp_ret ?_
 obtain rfl := sj h
 exact ret_st undef [] hpl hst rfl (.cell (R := rSapi_Schema) (u := (Sapi_Schema.mk (0:Int) [(Sapi_Kind.mk ([97] : Str) (1:Int) (2:Int) [(Sapi_Field.mk ([105,100] : Str) ([] : Str) ([] : Str) (0:Int) (0:Int) (0:Int) ([] : (List Str)) ([] : (List Int)))]),(Sapi_Kind.mk ([98] : Str) least_ (9:Int) [(Sapi_Field.mk ([105,100] : Str) ([] : Str) ([] : Str) (0:Int) (0:Int) (0:Int) ([] : (List Str)) ([] : (List Int))),(Sapi_Field.mk ([111,102] : Str) ([97] : Str) ([] : Str) (1:Int) (0:Int) (4:Int) ([] : (List Str)) ([] : (List Int)))])] ([] : (List Sapi_Life)) ([] : (List Sapi_Rule)))) tok27 z0 0 rfl rfl .nil) rfl rfl rfl

/- diorama/schema.within -/
noncomputable def fschema_within (n_ : Int) (least_ : Int) (most_ : Int) : Option (Bool) := (some ((decide (n_ ≥ least_)) && (decide (n_ ≤ most_))))
set_option maxRecDepth 100000 in
set_option maxHeartbeats 4000000 in
theorem schema_within_ok {n_ : Int} {least_ : Int} {most_ : Int} {r : Bool} (h : fschema_within n_ least_ most_ = some r) : FnOk Tryz.prog 97 [ti n_,ti least_,ti most_] [] (fun _ => []) (fun _ => tb r) := by
 unfold fschema_within at h
 refine FnOk.enter Tryz.func97 rfl Tryz.ntmps97 (leb rfl) (fun M0 M w0 a hpl hst => ?_)
 replace hst : St M w0 15 [(0,ti n_),(1,ti least_),(2,ti most_)] [] a w0 := hst
 refine sr mixed [] hst (fun _ => .o (op_assign .k) <| .n) fun n0 a w hst => ?_
 replace hst := hst.to [1,2,3] [_,_,_] [] rfl rfl
 refine sr mixed [] hst (fun _ => .q 0 rfl <| .q 2 rfl <| .o (op_geq z1 z0) <| .q 0 rfl <| .g rfl rfl (.b 0 rfl) (fun _ => op_move z4) <| .g rfl rfl (.b 1 rfl) (fun _ => op_move z7) <| .g rfl rfl (.b 2 rfl) (fun hc => op_leq (.cond z1 hc) (.cond z0 hc)) <| .o (op_and z3 (fun hp => (.cond z0 (beqT hp)))) <| .o (op_assign z0) <| .n) fun n1 a w hst => ?_
 replace hst := hst.to [8] [_] [] rfl rfl
 refine wp_ret ?_
 obtain rfl := sj h
 exact ret_st undef [] hpl hst rfl (.tmp z0 .nil) rfl rfl rfl

/- diorama/schema.all[diorama/api.Kind]$1 -/
noncomputable def fschema_all_Kindq1 (x_ : Sapi_Kind) (c0_ : (Sapi_Kind → Option Bool)) : Option (Bool) := (c0_ x_).bind fun t6 => (some (!t6))
set_option maxRecDepth 100000 in
set_option maxHeartbeats 4000000 in
theorem schema_all_Kindq1_ok {x_ : Sapi_Kind} {c0_ : (Sapi_Kind → Option Bool)} {r : Bool} (h : fschema_all_Kindq1 x_ c0_ = some r) : FnOk Tryz.prog 124 [rSapi_Kind.ty x_,tptr (rF138.cs c0_)] [] (fun _ => []) (fun _ => tb r) := by
 unfold fschema_all_Kindq1 at h
 refine FnOk.enter Tryz.func124 rfl Tryz.ntmps124 (leb rfl) (fun M0 M w0 a hpl hst => ?_)
 replace hst : St M w0 8 [(0,rSapi_Kind.ty x_),(1,tptr (rF138.cs c0_))] [] a w0 := hst
 refine sr mixed [] hst (fun _ => .o (op_boxR (R := rSapi_Kind) (u := x_) z0) <| .o (op_assign .k) <| .n) fun n0 a w hst => ?_
 replace hst := hst.to [0,3] [_,_] [] rfl rfl
 obtain ⟨t6,ht6,h⟩ := bind_some h
 refine sr mixed [] hst (fun _ => .o (op_load tok138 z1) <| .o (op_load tok55 z1) <| .o (op_callT (u := x_) z1 (.cons (.of z0) <| .nil) ht6) <| .o (op_not z0) <| .o (op_assign z0) <| .n) fun n1 a w hst => ?_
 replace hst := hst.to [4] [_] [] rfl rfl
 refine wp_ret ?_
 obtain rfl := sj h
 exact ret_st undef [] hpl hst rfl (.tmp z0 .nil) rfl rfl rfl

/- slices.IndexFunc[[]diorama/api.Kind,diorama/api.Kind] -/
noncomputable def fslices_IndexFunc_Kind (s_ : (List Sapi_Kind)) (f_ : (Sapi_Kind → Option Bool)) : Option (Int) := (tailrec (fun (s4 : Int) => ((if (decide (s4 < (s_.length : Int))) = true then (idx s_ s4).bind fun t14 => (f_ t14).bind fun t16 => (if t16 = true then (some (.inr (.inr s4))) else (some (.inl (IntKind.i64.wrap (s4 + (1:Int)))))) else (some (.inr (.inl ())))) : Option ((Int) ⊕ ((Unit) ⊕ (Int))))) (0:Int)).bind fun (e5 : (Unit) ⊕ (Int)) => (match e5 with | .inl _ => (some (-1:Int)) | .inr p23 => (some p23))
set_option maxRecDepth 100000 in
set_option maxHeartbeats 4000000 in
theorem slices_IndexFunc_Kind_ok {s_ : (List Sapi_Kind)} {f_ : (Sapi_Kind → Option Bool)} {r : Int} (h : fslices_IndexFunc_Kind s_ f_ = some r) : FnOk Tryz.prog 73 [tsl rSapi_Kind s_,rF138.ty f_] [] (fun _ => []) (fun _ => ti r) := by
 unfold fslices_IndexFunc_Kind at h
 refine FnOk.enter Tryz.func73 rfl Tryz.ntmps73 (leb rfl) (fun M0 M w0 a hpl hst => ?_)
 replace hst : St M w0 19 [(0,tsl rSapi_Kind s_),(1,rF138.ty f_)] [] a w0 := hst
 refine sr mixed [] hst (fun _ => .o (op_assign .k) <| .n) fun n0 a w hst => ?_
 replace hst := hst.to [1,2] [_,_] [] rfl rfl
 refine wp_seq_k (fun K2 hK2 => ?_)
 refine sr mixed [] hst (fun _ => .q 0 rfl <| .o (op_len ud23 z0) <| .o (op_move .k) <| .n) fun n1 a w hst => ?_
 replace hst := hst.to [1,2,3,4] [_,_,_,_] [] rfl rfl
 obtain ⟨e5,he5,h⟩ := bind_some h
 have hJp22 : ∀ (p22 : Unit) a w,(.inl p22) = e5 → St M w0 19 [] [] a w → K2 a w := by
  intro p22 a w he hst
  subst he
  simp only at h
  refine hK2 _ _ ?_
  try clear hK2 K2
  refine sr mixed [] hst (fun _ => .o (op_assign .k) <| .n) fun n7 a w hst => ?_
  replace hst := hst.to [0] [_] [] rfl rfl
  refine wp_ret ?_
  obtain rfl := sj h
  exact ret_st undef [] hpl hst rfl (.tmp z0 .nil) rfl rfl rfl
 have hJp23 : ∀ (p23 : Int) a w,(.inr p23) = e5 → St M w0 19 [(4,ti p23)] [] a w → Ret Tryz.prog Tryz.f73 M0 [] w0 (fun _ => []) (fun _ => ti r) .ret a w := by
  intro p23 a w he hst
  subst he
  simp only at h
  obtain rfl := sj h
  exact ret_st undef [] hpl hst rfl (.tmp z0 .nil) rfl rfl rfl
 refine wp_block ?_
 refine wp_loopK _ (fun (s4 : Int) a w => St M w0 19 [(7,ti (s_.length : Int)),(8,ti s4),(0,tsl rSapi_Kind s_),(1,rF138.ty f_)] [] a w) _ _ he5 (hst.pick [0,1,2,3]) ?_
 clear h
 intro s4 o a w K25 hI h ho hK25
 have hst := hI
 clear hI
 refine sr mixed [] hst (fun _ => .o (op_lss z1 z0) <| .n) fun n2 a w hst => ?_
 replace hst := hst.to [0,1,2,3,4] [_,_,_,_,_] [] rfl rfl
 refine wp_seq_k (fun K27 hK27 => ?_)
 refine wt hst (fun b33 => ?_) (fun b33 => ?_)
 ·replace h := ite_t b33 h
  refine wp_skip ?_
  refine hK27 _ _ ?_
  try clear hK27 K27
  refine wp_seq_k (fun K28 hK28 => ?_)
  refine wp_block ?_
  refine sr mixed [] hst (fun _ => .q 2 rfl <| .o (op_assign z0) <| .n) fun n3 a w hst => ?_
  replace hst := hst.to [1,3,4,5,6] [_,_,_,_,_] [] rfl rfl
  obtain ⟨t14,ht14,h⟩ := bind_some h
  obtain ⟨t16,ht16,h⟩ := bind_some h
  refine sr mixed [] hst (fun _ => .q 4 rfl <| .q 4 rfl <| .q 2 rfl <| .o (op_index ud23 tok55 z1 z0 ht14) <| .o (op_load tok55 z0) <| .o (op_callT (u := t14) z4 (.cons (.of z0) <| .nil) ht16) <| .n) fun n4 a w hst => ?_
  replace hst := hst.to [5,6,7,8,9,10] [_,_,_,_,_,_] [] rfl rfl
  refine wt hst (fun b32 => ?_) (fun b32 => ?_)
  ·replace h := ite_t b32 h
   refine sr mixed [] hst (fun _ => .q 1 rfl <| .o (op_assign z0) <| .n) fun n5 a w hst => ?_
   replace hst := hst.to [1] [_] [] rfl rfl
   refine wp_ret ?_
   exact hJp23 _ _ _ (ho _ (sj h).symm) (hst.pick [0])
  ·replace h := ite_f b32 h
   refine wp_skip ?_
   refine hK28 _ _ ?_
   try clear hK28 K28
   refine wr mixed [] hst (fun _ => .o (op_add z3 .k) <| .q 0 rfl <| .n) fun n6 a w hst => ?_
   replace hst := hst.to [1,4,5,6] [_,_,_,_] [] rfl rfl
   exact hK25 _ _ _ (sj h).symm (hst.pick [1,0,2,3])
 ·replace h := ite_f b33 h
  refine wp_exit ?_
  exact hJp22 _ _ _ (ho _ (sj h).symm) (hst.pick [])

/- slices.ContainsFunc[[]diorama/api.Kind,diorama/api.Kind] -/
noncomputable def fslices_ContainsFunc_Kind (s_ : (List Sapi_Kind)) (f_ : (Sapi_Kind → Option Bool)) : Option (Bool) := (fslices_IndexFunc_Kind s_ f_).bind fun t7 => (some (decide (t7 ≥ (0:Int))))
set_option maxRecDepth 100000 in
set_option maxHeartbeats 4000000 in
theorem slices_ContainsFunc_Kind_ok {s_ : (List Sapi_Kind)} {f_ : (Sapi_Kind → Option Bool)} {r : Bool} (h : fslices_ContainsFunc_Kind s_ f_ = some r) : FnOk Tryz.prog 123 [tsl rSapi_Kind s_,rF138.ty f_] [] (fun _ => []) (fun _ => tb r) := by
 unfold fslices_ContainsFunc_Kind at h
 refine FnOk.enter Tryz.func123 rfl Tryz.ntmps123 (leb rfl) (fun M0 M w0 a hpl hst => ?_)
 replace hst : St M w0 9 [(0,tsl rSapi_Kind s_),(1,rF138.ty f_)] [] a w0 := hst
 refine sr mixed [] hst (fun _ => .o (op_assign .k) <| .n) fun n0 a w hst => ?_
 replace hst := hst.to [1,2] [_,_] [] rfl rfl
 obtain ⟨t7,ht7,h⟩ := bind_some h
 refine sr mixed [] hst (fun _ => .q 0 rfl <| .q 2 rfl <| .o (op_callF call73 (slices_IndexFunc_Kind_ok ht7) (.cons (.of z1) <| .cons (.of z0) <| .nil)) <| .o (op_geq z0 .k) <| .o (op_assign z0) <| .n) fun n1 a w hst => ?_
 replace hst := hst.to [4] [_] [] rfl rfl
 refine wp_ret ?_
 obtain rfl := sj h
 exact ret_st undef [] hpl hst rfl (.tmp z0 .nil) rfl rfl rfl

/- diorama/schema.all[diorama/api.Kind] -/
noncomputable def fschema_all_Kind (l_ : (List Sapi_Kind)) (right_ : (Sapi_Kind → Option Bool)) : Option (Bool) := (fslices_ContainsFunc_Kind l_ (fun x0 => fschema_all_Kindq1 x0 right_)).bind fun t7 => (some (!t7))
set_option maxRecDepth 100000 in
set_option maxHeartbeats 4000000 in
theorem schema_all_Kind_ok {l_ : (List Sapi_Kind)} {right_ : (Sapi_Kind → Option Bool)} {r : Bool} (h : fschema_all_Kind l_ right_ = some r) : FnOk Tryz.prog 98 [tsl rSapi_Kind l_,rF138.ty right_] [] (fun _ => []) (fun _ => tb r) := by
 unfold fschema_all_Kind at h
 refine FnOk.enter Tryz.func98 rfl Tryz.ntmps98 (leb rfl) (fun M0 M w0 a hpl hst => ?_)
 replace hst : St M w0 9 [(0,tsl rSapi_Kind l_),(1,rF138.ty right_)] [] a w0 := hst
 refine sr mixed [] hst (fun _ => .o (op_boxR (R := rF138) (u := right_) z1) <| .o (op_assign .k) <| .n) fun n0 a w hst => ?_
 replace hst := hst.to [0,2] [_,_] [] rfl rfl
 obtain ⟨t7,ht7,h⟩ := bind_some h
 refine sr mixed [] hst (fun _ => .q 1 rfl <| .o (op_clo (.cons z1 <| .nil)) <| .o (op_callF call123 (slices_ContainsFunc_Kind_ok ht7) (.cons (.of z1) <| .cons (.of (Fct.weak z0 (tfn_of call124 (fun _ _ hq => schema_all_Kindq1_ok hq)))) <| .nil)) <| .o (op_not z0) <| .o (op_assign z0) <| .n) fun n1 a w hst => ?_
 replace hst := hst.to [4] [_] [] rfl rfl
 refine wp_ret ?_
 obtain rfl := sj h
 exact ret_st undef [] hpl hst rfl (.tmp z0 .nil) rfl rfl rfl

/- diorama/schema.isLetter -/
noncomputable def fschema_isLetter (c_ : Int) : Option (Bool) := (some ((decide (c_ ≥ (97:Int))) && (decide (c_ ≤ (122:Int)))))
set_option maxRecDepth 100000 in
set_option maxHeartbeats 4000000 in
theorem schema_isLetter_ok {c_ : Int} {r : Bool} (h : fschema_isLetter c_ = some r) : FnOk Tryz.prog 150 [tv (.int .u8 c_)] [] (fun _ => []) (fun _ => tb r) := by
 unfold fschema_isLetter at h
 refine FnOk.enter Tryz.func150 rfl Tryz.ntmps150 (leb rfl) (fun M0 M w0 a hpl hst => ?_)
 replace hst : St M w0 9 [(0,tv (.int .u8 c_))] [] a w0 := hst
 refine sr mixed [] hst (fun _ => .o (op_assign .k) <| .n) fun n0 a w hst => ?_
 replace hst := hst.to [1] [_] [] rfl rfl
 refine sr mixed [] hst (fun _ => .q 0 rfl <| .o (op_geq z0 .k) <| .q 0 rfl <| .g rfl rfl (.b 0 rfl) (fun _ => op_move z3) <| .g rfl rfl (.b 1 rfl) (fun hc => op_leq (.cond z0 hc) .k) <| .o (op_and z2 (fun hp => (.cond z0 (beqT hp)))) <| .o (op_assign z0) <| .n) fun n1 a w hst => ?_
 replace hst := hst.to [6] [_] [] rfl rfl
 refine wp_ret ?_
 obtain rfl := sj h
 exact ret_st undef [] hpl hst rfl (.tmp z0 .nil) rfl rfl rfl

/- slices.IndexFunc[[]byte,byte] -/
noncomputable def fslices_IndexFunc_byte (s_ : (List Int)) (f_ : (Int → Option Bool)) : Option (Int) := (tailrec (fun (s4 : Int) => ((if (decide (s4 < (s_.length : Int))) = true then (idx s_ s4).bind fun t14 => (f_ t14).bind fun t16 => (if t16 = true then (some (.inr (.inr s4))) else (some (.inl (IntKind.i64.wrap (s4 + (1:Int)))))) else (some (.inr (.inl ())))) : Option ((Int) ⊕ ((Unit) ⊕ (Int))))) (0:Int)).bind fun (e5 : (Unit) ⊕ (Int)) => (match e5 with | .inl _ => (some (-1:Int)) | .inr p23 => (some p23))
set_option maxRecDepth 100000 in
set_option maxHeartbeats 4000000 in
theorem slices_IndexFunc_byte_ok {s_ : (List Int)} {f_ : (Int → Option Bool)} {r : Int} (h : fslices_IndexFunc_byte s_ f_ = some r) : FnOk Tryz.prog 173 [tsl (rInt .u8) s_,rF203.ty f_] [] (fun _ => []) (fun _ => ti r) := by
 unfold fslices_IndexFunc_byte at h
 refine FnOk.enter Tryz.func173 rfl Tryz.ntmps173 (leb rfl) (fun M0 M w0 a hpl hst => ?_)
 replace hst : St M w0 19 [(0,tsl (rInt .u8) s_),(1,rF203.ty f_)] [] a w0 := hst
 refine sr mixed [] hst (fun _ => .o (op_assign .k) <| .n) fun n0 a w hst => ?_
 replace hst := hst.to [1,2] [_,_] [] rfl rfl
 refine wp_seq_k (fun K2 hK2 => ?_)
 refine sr mixed [] hst (fun _ => .q 0 rfl <| .o (op_len Tryz.underlying185 z0) <| .o (op_move .k) <| .n) fun n1 a w hst => ?_
 replace hst := hst.to [1,2,3,4] [_,_,_,_] [] rfl rfl
 obtain ⟨e5,he5,h⟩ := bind_some h
 have hJp22 : ∀ (p22 : Unit) a w,(.inl p22) = e5 → St M w0 19 [] [] a w → K2 a w := by
  intro p22 a w he hst
  subst he
  simp only at h
  refine hK2 _ _ ?_
  try clear hK2 K2
  refine sr mixed [] hst (fun _ => .o (op_assign .k) <| .n) fun n7 a w hst => ?_
  replace hst := hst.to [0] [_] [] rfl rfl
  refine wp_ret ?_
  obtain rfl := sj h
  exact ret_st undef [] hpl hst rfl (.tmp z0 .nil) rfl rfl rfl
 have hJp23 : ∀ (p23 : Int) a w,(.inr p23) = e5 → St M w0 19 [(4,ti p23)] [] a w → Ret Tryz.prog Tryz.f173 M0 [] w0 (fun _ => []) (fun _ => ti r) .ret a w := by
  intro p23 a w he hst
  subst he
  simp only at h
  obtain rfl := sj h
  exact ret_st undef [] hpl hst rfl (.tmp z0 .nil) rfl rfl rfl
 refine wp_block ?_
 refine wp_loopK _ (fun (s4 : Int) a w => St M w0 19 [(7,ti (s_.length : Int)),(8,ti s4),(0,tsl (rInt .u8) s_),(1,rF203.ty f_)] [] a w) _ _ he5 (hst.pick [0,1,2,3]) ?_
 clear h
 intro s4 o a w K25 hI h ho hK25
 have hst := hI
 clear hI
 refine sr mixed [] hst (fun _ => .o (op_lss z1 z0) <| .n) fun n2 a w hst => ?_
 replace hst := hst.to [0,1,2,3,4] [_,_,_,_,_] [] rfl rfl
 refine wp_seq_k (fun K27 hK27 => ?_)
 refine wt hst (fun b33 => ?_) (fun b33 => ?_)
 ·replace h := ite_t b33 h
  refine wp_skip ?_
  refine hK27 _ _ ?_
  try clear hK27 K27
  refine wp_seq_k (fun K28 hK28 => ?_)
  refine wp_block ?_
  refine sr mixed [] hst (fun _ => .q 2 rfl <| .o (op_assign z0) <| .n) fun n3 a w hst => ?_
  replace hst := hst.to [1,3,4,5,6] [_,_,_,_,_] [] rfl rfl
  obtain ⟨t14,ht14,h⟩ := bind_some h
  obtain ⟨t16,ht16,h⟩ := bind_some h
  refine sr mixed [] hst (fun _ => .q 4 rfl <| .q 4 rfl <| .q 2 rfl <| .o (op_index Tryz.underlying185 tok5 z1 z0 ht14) <| .o (op_load tok5 z0) <| .o (op_callT (u := t14) z4 (.cons (.of z0) <| .nil) ht16) <| .n) fun n4 a w hst => ?_
  replace hst := hst.to [5,6,7,8,9,10] [_,_,_,_,_,_] [] rfl rfl
  refine wt hst (fun b32 => ?_) (fun b32 => ?_)
  ·replace h := ite_t b32 h
   refine sr mixed [] hst (fun _ => .q 1 rfl <| .o (op_assign z0) <| .n) fun n5 a w hst => ?_
   replace hst := hst.to [1] [_] [] rfl rfl
   refine wp_ret ?_
   exact hJp23 _ _ _ (ho _ (sj h).symm) (hst.pick [0])
  ·replace h := ite_f b32 h
   refine wp_skip ?_
   refine hK28 _ _ ?_
   try clear hK28 K28
   refine wr mixed [] hst (fun _ => .o (op_add z3 .k) <| .q 0 rfl <| .n) fun n6 a w hst => ?_
   replace hst := hst.to [1,4,5,6] [_,_,_,_] [] rfl rfl
   exact hK25 _ _ _ (sj h).symm (hst.pick [1,0,2,3])
 ·replace h := ite_f b33 h
  refine wp_exit ?_
  exact hJp22 _ _ _ (ho _ (sj h).symm) (hst.pick [])

/- slices.ContainsFunc[[]byte,byte] -/
noncomputable def fslices_ContainsFunc_byte (s_ : (List Int)) (f_ : (Int → Option Bool)) : Option (Bool) := (fslices_IndexFunc_byte s_ f_).bind fun t7 => (some (decide (t7 ≥ (0:Int))))
set_option maxRecDepth 100000 in
set_option maxHeartbeats 4000000 in
theorem slices_ContainsFunc_byte_ok {s_ : (List Int)} {f_ : (Int → Option Bool)} {r : Bool} (h : fslices_ContainsFunc_byte s_ f_ = some r) : FnOk Tryz.prog 151 [tsl (rInt .u8) s_,rF203.ty f_] [] (fun _ => []) (fun _ => tb r) := by
 unfold fslices_ContainsFunc_byte at h
 refine FnOk.enter Tryz.func151 rfl Tryz.ntmps151 (leb rfl) (fun M0 M w0 a hpl hst => ?_)
 replace hst : St M w0 9 [(0,tsl (rInt .u8) s_),(1,rF203.ty f_)] [] a w0 := hst
 refine sr mixed [] hst (fun _ => .o (op_assign .k) <| .n) fun n0 a w hst => ?_
 replace hst := hst.to [1,2] [_,_] [] rfl rfl
 obtain ⟨t7,ht7,h⟩ := bind_some h
 refine sr mixed [] hst (fun _ => .q 0 rfl <| .q 2 rfl <| .o (op_callF call173 (slices_IndexFunc_byte_ok ht7) (.cons (.of z1) <| .cons (.of z0) <| .nil)) <| .o (op_geq z0 .k) <| .o (op_assign z0) <| .n) fun n1 a w hst => ?_
 replace hst := hst.to [4] [_] [] rfl rfl
 refine wp_ret ?_
 obtain rfl := sj h
 exact ret_st undef [] hpl hst rfl (.tmp z0 .nil) rfl rfl rfl

/- diorama/schema.isDigit -/
noncomputable def fschema_isDigit (c_ : Int) : Option (Bool) := (some ((decide (c_ ≥ (48:Int))) && (decide (c_ ≤ (57:Int)))))
set_option maxRecDepth 100000 in
set_option maxHeartbeats 4000000 in
theorem schema_isDigit_ok {c_ : Int} {r : Bool} (h : fschema_isDigit c_ = some r) : FnOk Tryz.prog 153 [tv (.int .u8 c_)] [] (fun _ => []) (fun _ => tb r) := by
 unfold fschema_isDigit at h
 refine FnOk.enter Tryz.func153 rfl Tryz.ntmps153 (leb rfl) (fun M0 M w0 a hpl hst => ?_)
 replace hst : St M w0 9 [(0,tv (.int .u8 c_))] [] a w0 := hst
 refine sr mixed [] hst (fun _ => .o (op_assign .k) <| .n) fun n0 a w hst => ?_
 replace hst := hst.to [1] [_] [] rfl rfl
 refine sr mixed [] hst (fun _ => .q 0 rfl <| .o (op_geq z0 .k) <| .q 0 rfl <| .g rfl rfl (.b 0 rfl) (fun _ => op_move z3) <| .g rfl rfl (.b 1 rfl) (fun hc => op_leq (.cond z0 hc) .k) <| .o (op_and z2 (fun hp => (.cond z0 (beqT hp)))) <| .o (op_assign z0) <| .n) fun n1 a w hst => ?_
 replace hst := hst.to [6] [_] [] rfl rfl
 refine wp_ret ?_
 obtain rfl := sj h
 exact ret_st undef [] hpl hst rfl (.tmp z0 .nil) rfl rfl rfl

/- diorama/schema.isName$1 -/
noncomputable def fschema_isNameq1 (c_ : Int) : Option (Bool) := (fschema_isLetter c_).bind fun t4 => (opt ((!t4) == true) (fschema_isDigit c_) default).bind fun t8 => (some ((!t4) && (!t8)))
set_option maxRecDepth 100000 in
set_option maxHeartbeats 4000000 in
theorem schema_isNameq1_ok {c_ : Int} {r : Bool} (h : fschema_isNameq1 c_ = some r) : FnOk Tryz.prog 152 [tv (.int .u8 c_)] [] (fun _ => []) (fun _ => tb r) := by
 unfold fschema_isNameq1 at h
 refine FnOk.enter Tryz.func152 rfl Tryz.ntmps152 (leb rfl) (fun M0 M w0 a hpl hst => ?_)
 replace hst : St M w0 11 [(0,tv (.int .u8 c_))] [] a w0 := hst
 refine sr mixed [] hst (fun _ => .o (op_assign .k) <| .n) fun n0 a w hst => ?_
 replace hst := hst.to [1] [_] [] rfl rfl
 obtain ⟨t4,ht4,h⟩ := bind_some h
 obtain ⟨t8,ht8,h⟩ := bind_some h
 refine sr mixed [] hst (fun _ => .q 0 rfl <| .o (op_callF call150 (schema_isLetter_ok ht4) (.cons (.of z0) <| .nil)) <| .o (op_not z0) <| .q 0 rfl <| .g rfl rfl (.b 0 rfl) (fun _ => op_move z4) <| .g rfl rfl (.b 1 rfl) (fun hc => op_callF call153 (schema_isDigit_ok (opt_t ht8 hc)) (.cons (.of (.cond z0 hc)) <| .nil)) <| .g rfl rfl (.b 2 rfl) (fun hc => op_not (.cond z0 hc)) <| .o (op_and z3 (fun hp => (.cond z0 (beqT hp)))) <| .o (op_assign z0) <| .n) fun n1 a w hst => ?_
 replace hst := hst.to [8] [_] [] rfl rfl
 refine wp_ret ?_
 obtain rfl := sj h
 exact ret_st undef [] hpl hst rfl (.tmp z0 .nil) rfl rfl rfl

/- diorama/schema.isName -/
noncomputable def fschema_isName (s_ : Str) : Option (Bool) := (fschema_within (s_.length : Int) (1:Int) (12:Int)).bind fun t5 => (opt ((!t5) == false) (idx s_ (0:Int)) default).bind fun t9 => (opt ((!t5) == false) (fschema_isLetter ((t9).toNat : Int)) default).bind fun t10 => (if ((!t5) || (!t10)) = true then (some false) else (fslices_ContainsFunc_byte (bytesOf s_) (fun x0 => fschema_isNameq1 x0)).bind fun t15 => (some (!t15)))
set_option maxRecDepth 100000 in
set_option maxHeartbeats 4000000 in
theorem schema_isName_ok {s_ : Str} {r : Bool} (h : fschema_isName s_ = some r) : FnOk Tryz.prog 125 [tv (.string (sB s_))] [] (fun _ => []) (fun _ => tb r) := by
 unfold fschema_isName at h
 refine FnOk.enter Tryz.func125 rfl Tryz.ntmps125 (leb rfl) (fun M0 M w0 a hpl hst => ?_)
 replace hst : St M w0 17 [(0,tv (.string (sB s_)))] [] a w0 := hst
 refine sr mixed [] hst (fun _ => .o (op_assign .k) <| .n) fun n0 a w hst => ?_
 replace hst := hst.to [1] [_] [] rfl rfl
 refine wp_seq_k (fun K2 hK2 => ?_)
 obtain ⟨t5,ht5,h⟩ := bind_some h
 obtain ⟨t9,ht9,h⟩ := bind_some h
 obtain ⟨t10,ht10,h⟩ := bind_some h
 refine sr mixed [] hst (fun _ => .q 0 rfl <| .o (op_lenS' ud9 z0) <| .o (op_callF call97 (schema_within_ok ht5) (.cons (.of z0) <| .cons (.of .k) <| .cons (.of .k) <| .nil)) <| .o (op_not z0) <| .q 0 rfl <| .g rfl rfl (.b 0 rfl) (fun _ => op_move z5) <| .g rfl rfl (.b 1 rfl) (fun hc => op_idxS ud9 (.cond z0 hc) .k (opt_t ht9 hc)) <| .g rfl rfl (.b 2 rfl) (fun hc => op_callF call150 (schema_isLetter_ok (opt_t ht10 hc)) (.cons (.of (.cond z0 hc)) <| .nil)) <| .g rfl rfl (.b 3 rfl) (fun hc => op_not (.cond z0 hc)) <| .o (op_or z4 (fun hp => (.cond z0 (beqF hp)))) <| .n) fun n1 a w hst => ?_
 replace hst := hst.to [9,10] [_,_] [] rfl rfl
 refine wt hst (fun b6 => ?_) (fun b6 => ?_)
 ·replace h := ite_t b6 h
  refine sr mixed [] hst (fun _ => .o (op_assign .k) <| .n) fun n2 a w hst => ?_
  replace hst := hst.to [0] [_] [] rfl rfl
  refine wp_ret ?_
  obtain rfl := sj h
  exact ret_st undef [] hpl hst rfl (.tmp z0 .nil) rfl rfl rfl
 ·replace h := ite_f b6 h
  refine wp_skip ?_
  refine hK2 _ _ ?_
  try clear hK2 K2
  obtain ⟨t15,ht15,h⟩ := bind_some h
  refine sr mixed [] hst (fun _ => .q 1 rfl <| .o (op_s2b ud9 Tryz.underlying185 Tryz.underlying5 z0) <| .o (op_callF call151 (slices_ContainsFunc_byte_ok ht15) (.cons (.of z0) <| .cons (.of (Fct.weak .fnE (tfn_of call152 (fun _ _ hq => schema_isNameq1_ok hq)))) <| .nil)) <| .o (op_not z0) <| .o (op_assign z0) <| .n) fun n3 a w hst => ?_
  replace hst := hst.to [4] [_] [] rfl rfl
  refine wp_ret ?_
  obtain rfl := sj h
  exact ret_st undef [] hpl hst rfl (.tmp z0 .nil) rfl rfl rfl

/- diorama/schema.span -/
noncomputable def fschema_span (lo_ : Int) (hi_ : Int) (least_ : Int) (most_ : Int) : Option (Bool) := (some (((decide (lo_ ≥ least_)) && (decide (lo_ ≤ hi_))) && (decide (hi_ ≤ most_))))
set_option maxRecDepth 100000 in
set_option maxHeartbeats 4000000 in
theorem schema_span_ok {lo_ : Int} {hi_ : Int} {least_ : Int} {most_ : Int} {r : Bool} (h : fschema_span lo_ hi_ least_ most_ = some r) : FnOk Tryz.prog 126 [ti lo_,ti hi_,ti least_,ti most_] [] (fun _ => []) (fun _ => tb r) := by
 unfold fschema_span at h
 refine FnOk.enter Tryz.func126 rfl Tryz.ntmps126 (leb rfl) (fun M0 M w0 a hpl hst => ?_)
 replace hst : St M w0 22 [(0,ti lo_),(1,ti hi_),(2,ti least_),(3,ti most_)] [] a w0 := hst
 refine sr mixed [] hst (fun _ => .o (op_assign .k) <| .n) fun n0 a w hst => ?_
 replace hst := hst.to [1,2,3,4] [_,_,_,_] [] rfl rfl
 refine sr mixed [] hst (fun _ => .q 0 rfl <| .q 3 rfl <| .o (op_geq z1 z0) <| .q 0 rfl <| .g rfl rfl (.b 0 rfl) (fun _ => op_move z4) <| .g rfl rfl (.b 1 rfl) (fun _ => op_move z6) <| .g rfl rfl (.b 2 rfl) (fun hc => op_leq (.cond z1 hc) (.cond z0 hc)) <| .o (op_and z3 (fun hp => (.cond z0 (beqT hp)))) <| .q 0 rfl <| .g rfl rfl (.b 0 rfl) (fun _ => op_move z10) <| .g rfl rfl (.b 1 rfl) (fun _ => op_move z13) <| .g rfl rfl (.b 2 rfl) (fun hc => op_leq (.cond z1 hc) (.cond z0 hc)) <| .o (op_and z3 (fun hp => (.cond z0 (beqT hp)))) <| .o (op_assign z0) <| .n) fun n1 a w hst => ?_
 replace hst := hst.to [13] [_] [] rfl rfl
 refine wp_ret ?_
 obtain rfl := sj h
 exact ret_st undef [] hpl hst rfl (.tmp z0 .nil) rfl rfl rfl

/- diorama/schema.all[diorama/api.Field]$1 -/
noncomputable def fschema_all_Fieldq1 (x_ : Sapi_Field) (c0_ : (Sapi_Field → Option Bool)) : Option (Bool) := (c0_ x_).bind fun t6 => (some (!t6))
set_option maxRecDepth 100000 in
set_option maxHeartbeats 4000000 in
theorem schema_all_Fieldq1_ok {x_ : Sapi_Field} {c0_ : (Sapi_Field → Option Bool)} {r : Bool} (h : fschema_all_Fieldq1 x_ c0_ = some r) : FnOk Tryz.prog 155 [rSapi_Field.ty x_,tptr (rF168.cs c0_)] [] (fun _ => []) (fun _ => tb r) := by
 unfold fschema_all_Fieldq1 at h
 refine FnOk.enter Tryz.func155 rfl Tryz.ntmps155 (leb rfl) (fun M0 M w0 a hpl hst => ?_)
 replace hst : St M w0 8 [(0,rSapi_Field.ty x_),(1,tptr (rF168.cs c0_))] [] a w0 := hst
 refine sr mixed [] hst (fun _ => .o (op_boxR (R := rSapi_Field) (u := x_) z0) <| .o (op_assign .k) <| .n) fun n0 a w hst => ?_
 replace hst := hst.to [0,3] [_,_] [] rfl rfl
 obtain ⟨t6,ht6,h⟩ := bind_some h
 refine sr mixed [] hst (fun _ => .o (op_load tok168 z1) <| .o (op_load tok61 z1) <| .o (op_callT (u := x_) z1 (.cons (.of z0) <| .nil) ht6) <| .o (op_not z0) <| .o (op_assign z0) <| .n) fun n1 a w hst => ?_
 replace hst := hst.to [4] [_] [] rfl rfl
 refine wp_ret ?_
 obtain rfl := sj h
 exact ret_st undef [] hpl hst rfl (.tmp z0 .nil) rfl rfl rfl

/- slices.IndexFunc[[]diorama/api.Field,diorama/api.Field] -/
noncomputable def fslices_IndexFunc_Field (s_ : (List Sapi_Field)) (f_ : (Sapi_Field → Option Bool)) : Option (Int) := (tailrec (fun (s4 : Int) => ((if (decide (s4 < (s_.length : Int))) = true then (idx s_ s4).bind fun t14 => (f_ t14).bind fun t16 => (if t16 = true then (some (.inr (.inr s4))) else (some (.inl (IntKind.i64.wrap (s4 + (1:Int)))))) else (some (.inr (.inl ())))) : Option ((Int) ⊕ ((Unit) ⊕ (Int))))) (0:Int)).bind fun (e5 : (Unit) ⊕ (Int)) => (match e5 with | .inl _ => (some (-1:Int)) | .inr p23 => (some p23))
set_option maxRecDepth 100000 in
set_option maxHeartbeats 4000000 in
theorem slices_IndexFunc_Field_ok {s_ : (List Sapi_Field)} {f_ : (Sapi_Field → Option Bool)} {r : Int} (h : fslices_IndexFunc_Field s_ f_ = some r) : FnOk Tryz.prog 106 [tsl rSapi_Field s_,rF168.ty f_] [] (fun _ => []) (fun _ => ti r) := by
 unfold fslices_IndexFunc_Field at h
 refine FnOk.enter Tryz.func106 rfl Tryz.ntmps106 (leb rfl) (fun M0 M w0 a hpl hst => ?_)
 replace hst : St M w0 19 [(0,tsl rSapi_Field s_),(1,rF168.ty f_)] [] a w0 := hst
 refine sr mixed [] hst (fun _ => .o (op_assign .k) <| .n) fun n0 a w hst => ?_
 replace hst := hst.to [1,2] [_,_] [] rfl rfl
 refine wp_seq_k (fun K2 hK2 => ?_)
 refine sr mixed [] hst (fun _ => .q 0 rfl <| .o (op_len ud53 z0) <| .o (op_move .k) <| .n) fun n1 a w hst => ?_
 replace hst := hst.to [1,2,3,4] [_,_,_,_] [] rfl rfl
 obtain ⟨e5,he5,h⟩ := bind_some h
 have hJp22 : ∀ (p22 : Unit) a w,(.inl p22) = e5 → St M w0 19 [] [] a w → K2 a w := by
  intro p22 a w he hst
  subst he
  simp only at h
  refine hK2 _ _ ?_
  try clear hK2 K2
  refine sr mixed [] hst (fun _ => .o (op_assign .k) <| .n) fun n7 a w hst => ?_
  replace hst := hst.to [0] [_] [] rfl rfl
  refine wp_ret ?_
  obtain rfl := sj h
  exact ret_st undef [] hpl hst rfl (.tmp z0 .nil) rfl rfl rfl
 have hJp23 : ∀ (p23 : Int) a w,(.inr p23) = e5 → St M w0 19 [(4,ti p23)] [] a w → Ret Tryz.prog Tryz.f106 M0 [] w0 (fun _ => []) (fun _ => ti r) .ret a w := by
  intro p23 a w he hst
  subst he
  simp only at h
  obtain rfl := sj h
  exact ret_st undef [] hpl hst rfl (.tmp z0 .nil) rfl rfl rfl
 refine wp_block ?_
 refine wp_loopK _ (fun (s4 : Int) a w => St M w0 19 [(7,ti (s_.length : Int)),(8,ti s4),(0,tsl rSapi_Field s_),(1,rF168.ty f_)] [] a w) _ _ he5 (hst.pick [0,1,2,3]) ?_
 clear h
 intro s4 o a w K25 hI h ho hK25
 have hst := hI
 clear hI
 refine sr mixed [] hst (fun _ => .o (op_lss z1 z0) <| .n) fun n2 a w hst => ?_
 replace hst := hst.to [0,1,2,3,4] [_,_,_,_,_] [] rfl rfl
 refine wp_seq_k (fun K27 hK27 => ?_)
 refine wt hst (fun b33 => ?_) (fun b33 => ?_)
 ·replace h := ite_t b33 h
  refine wp_skip ?_
  refine hK27 _ _ ?_
  try clear hK27 K27
  refine wp_seq_k (fun K28 hK28 => ?_)
  refine wp_block ?_
  refine sr mixed [] hst (fun _ => .q 2 rfl <| .o (op_assign z0) <| .n) fun n3 a w hst => ?_
  replace hst := hst.to [1,3,4,5,6] [_,_,_,_,_] [] rfl rfl
  obtain ⟨t14,ht14,h⟩ := bind_some h
  obtain ⟨t16,ht16,h⟩ := bind_some h
  refine sr mixed [] hst (fun _ => .q 4 rfl <| .q 4 rfl <| .q 2 rfl <| .o (op_index ud53 tok61 z1 z0 ht14) <| .o (op_load tok61 z0) <| .o (op_callT (u := t14) z4 (.cons (.of z0) <| .nil) ht16) <| .n) fun n4 a w hst => ?_
  replace hst := hst.to [5,6,7,8,9,10] [_,_,_,_,_,_] [] rfl rfl
  refine wt hst (fun b32 => ?_) (fun b32 => ?_)
  ·replace h := ite_t b32 h
   refine sr mixed [] hst (fun _ => .q 1 rfl <| .o (op_assign z0) <| .n) fun n5 a w hst => ?_
   replace hst := hst.to [1] [_] [] rfl rfl
   refine wp_ret ?_
   exact hJp23 _ _ _ (ho _ (sj h).symm) (hst.pick [0])
  ·replace h := ite_f b32 h
   refine wp_skip ?_
   refine hK28 _ _ ?_
   try clear hK28 K28
   refine wr mixed [] hst (fun _ => .o (op_add z3 .k) <| .q 0 rfl <| .n) fun n6 a w hst => ?_
   replace hst := hst.to [1,4,5,6] [_,_,_,_] [] rfl rfl
   exact hK25 _ _ _ (sj h).symm (hst.pick [1,0,2,3])
 ·replace h := ite_f b33 h
  refine wp_exit ?_
  exact hJp22 _ _ _ (ho _ (sj h).symm) (hst.pick [])

/- slices.ContainsFunc[[]diorama/api.Field,diorama/api.Field] -/
noncomputable def fslices_ContainsFunc_Field (s_ : (List Sapi_Field)) (f_ : (Sapi_Field → Option Bool)) : Option (Bool) := (fslices_IndexFunc_Field s_ f_).bind fun t7 => (some (decide (t7 ≥ (0:Int))))
set_option maxRecDepth 100000 in
set_option maxHeartbeats 4000000 in
theorem slices_ContainsFunc_Field_ok {s_ : (List Sapi_Field)} {f_ : (Sapi_Field → Option Bool)} {r : Bool} (h : fslices_ContainsFunc_Field s_ f_ = some r) : FnOk Tryz.prog 154 [tsl rSapi_Field s_,rF168.ty f_] [] (fun _ => []) (fun _ => tb r) := by
 unfold fslices_ContainsFunc_Field at h
 refine FnOk.enter Tryz.func154 rfl Tryz.ntmps154 (leb rfl) (fun M0 M w0 a hpl hst => ?_)
 replace hst : St M w0 9 [(0,tsl rSapi_Field s_),(1,rF168.ty f_)] [] a w0 := hst
 refine sr mixed [] hst (fun _ => .o (op_assign .k) <| .n) fun n0 a w hst => ?_
 replace hst := hst.to [1,2] [_,_] [] rfl rfl
 obtain ⟨t7,ht7,h⟩ := bind_some h
 refine sr mixed [] hst (fun _ => .q 0 rfl <| .q 2 rfl <| .o (op_callF call106 (slices_IndexFunc_Field_ok ht7) (.cons (.of z1) <| .cons (.of z0) <| .nil)) <| .o (op_geq z0 .k) <| .o (op_assign z0) <| .n) fun n1 a w hst => ?_
 replace hst := hst.to [4] [_] [] rfl rfl
 refine wp_ret ?_
 obtain rfl := sj h
 exact ret_st undef [] hpl hst rfl (.tmp z0 .nil) rfl rfl rfl

/- diorama/schema.all[diorama/api.Field] -/
noncomputable def fschema_all_Field (l_ : (List Sapi_Field)) (right_ : (Sapi_Field → Option Bool)) : Option (Bool) := (fslices_ContainsFunc_Field l_ (fun x0 => fschema_all_Fieldq1 x0 right_)).bind fun t7 => (some (!t7))
set_option maxRecDepth 100000 in
set_option maxHeartbeats 4000000 in
theorem schema_all_Field_ok {l_ : (List Sapi_Field)} {right_ : (Sapi_Field → Option Bool)} {r : Bool} (h : fschema_all_Field l_ right_ = some r) : FnOk Tryz.prog 127 [tsl rSapi_Field l_,rF168.ty right_] [] (fun _ => []) (fun _ => tb r) := by
 unfold fschema_all_Field at h
 refine FnOk.enter Tryz.func127 rfl Tryz.ntmps127 (leb rfl) (fun M0 M w0 a hpl hst => ?_)
 replace hst : St M w0 9 [(0,tsl rSapi_Field l_),(1,rF168.ty right_)] [] a w0 := hst
 refine sr mixed [] hst (fun _ => .o (op_boxR (R := rF168) (u := right_) z1) <| .o (op_assign .k) <| .n) fun n0 a w hst => ?_
 replace hst := hst.to [0,2] [_,_] [] rfl rfl
 obtain ⟨t7,ht7,h⟩ := bind_some h
 refine sr mixed [] hst (fun _ => .q 1 rfl <| .o (op_clo (.cons z1 <| .nil)) <| .o (op_callF call154 (slices_ContainsFunc_Field_ok ht7) (.cons (.of z1) <| .cons (.of (Fct.weak z0 (tfn_of call155 (fun _ _ hq => schema_all_Fieldq1_ok hq)))) <| .nil)) <| .o (op_not z0) <| .o (op_assign z0) <| .n) fun n1 a w hst => ?_
 replace hst := hst.to [4] [_] [] rfl rfl
 refine wp_ret ?_
 obtain rfl := sj h
 exact ret_st undef [] hpl hst rfl (.tmp z0 .nil) rfl rfl rfl

end Go.Proofs.YtcdccjagknlmpaaGreatDoor

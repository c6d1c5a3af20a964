/- Go functions as Lean functions, and the proofs that they compute them, written by a program. No condition. -/
import Derived.Test.YtcdccjagknlmpaaGreatDoorGenA
namespace Go.Proofs.YtcdccjagknlmpaaGreatDoor
open Go.Sim

/- diorama/dioramaref13.Numbers -/
noncomputable def fref13_Numbers (l_ : (List Int)) : Option (Bool) := (tailrec (fun (s4 : Int) => ((if (decide (s4 < (l_.length : Int))) = true then (idx l_ s4).bind fun t12 => (opt ((decide (t12 < (0:Int))) == false) (idx l_ s4) default).bind fun t18 => (if ((decide (t12 < (0:Int))) || (decide (t18 > (65536:Int)))) = true then (some (.inr (.inr false))) else (some (.inl (IntKind.i64.wrap (s4 + (1:Int)))))) else (some (.inr (.inl ())))) : Option ((Int) ⊕ ((Unit) ⊕ (Bool))))) (0:Int)).bind fun (e5 : (Unit) ⊕ (Bool)) => (match e5 with | .inl _ => (some true) | .inr p21 => (some p21))
set_option maxRecDepth 100000 in
set_option maxHeartbeats 4000000 in
theorem ref13_Numbers_ok {l_ : (List Int)} {r : Bool} (h : fref13_Numbers l_ = some r) : FnOk Tryz.prog 48 [tsl rI l_] [] (fun _ => []) (fun _ => tb r) := by
 unfold fref13_Numbers at h
 refine FnOk.enter Tryz.func48 rfl Tryz.ntmps48 (leb rfl) (fun M0 M w0 a hpl hst => ?_)
 replace hst : St M w0 22 [(0,tsl rI l_)] [] a w0 := hst
 refine sr mixed [] hst (fun _ => .o (op_assign .k) <| .n) fun n0 a w hst => ?_
 replace hst := hst.to [1] [_] [] rfl rfl
 refine wp_seq_k (fun K2 hK2 => ?_)
 refine sr mixed [] hst (fun _ => .o (op_assign .k) <| .n) fun n1 a w hst => ?_
 replace hst := hst.to [0,1] [_,_] [] rfl rfl
 obtain ⟨e5,he5,h⟩ := bind_some h
 have hJp20 : ∀ (p20 : Unit) a w,(.inl p20) = e5 → St M w0 22 [] [] a w → K2 a w := by
  intro p20 a w he hst
  subst he
  simp only at h
  refine hK2 _ _ ?_
  try clear hK2 K2
  refine sr mixed [] hst (fun _ => .o (op_assign .k) <| .n) fun n6 a w hst => ?_
  replace hst := hst.to [0] [_] [] rfl rfl
  refine wp_ret ?_
  obtain rfl := sj h
  exact ret_st undef [] hpl hst rfl (.tmp z0 .nil) rfl rfl rfl
 have hJp21 : ∀ (p21 : Bool) a w,(.inr p21) = e5 → St M w0 22 [(2,tb p21)] [] a w → Ret Tryz.prog Tryz.f48 M0 [] w0 (fun _ => []) (fun _ => tb r) .ret a w := by
  intro p21 a w he hst
  subst he
  simp only at h
  obtain rfl := sj h
  exact ret_st undef [] hpl hst rfl (.tmp z0 .nil) rfl rfl rfl
 refine wp_block ?_
 refine wp_loopK _ (fun (s4 : Int) a w => St M w0 22 [(3,ti s4),(0,tsl rI l_)] [] a w) _ _ he5 (hst.pick [0,1]) ?_
 clear h
 intro s4 o a w K23 hI h ho hK23
 have hst := hI
 clear hI
 refine wp_seq_k (fun K24 hK24 => ?_)
 refine sr mixed [] hst (fun _ => .q 0 rfl <| .q 2 rfl <| .o (op_len ud22 z0) <| .o (op_lss z2 z0) <| .n) fun n2 a w hst => ?_
 replace hst := hst.to [3,4,5] [_,_,_] [] rfl rfl
 refine wt hst (fun b30 => ?_) (fun b30 => ?_)
 ·replace h := ite_t b30 h
  refine wp_skip ?_
  refine hK24 _ _ ?_
  try clear hK24 K24
  refine wp_seq_k (fun K26 hK26 => ?_)
  refine wp_block ?_
  obtain ⟨t12,ht12,h⟩ := bind_some h
  obtain ⟨t18,ht18,h⟩ := bind_some h
  refine sr mixed [] hst (fun _ => .q 2 rfl <| .q 2 rfl <| .o (op_index ud22 tok3 z1 z0 ht12) <| .o (op_load tok3 z0) <| .o (op_lss z0 .k) <| .q 0 rfl <| .g rfl rfl (.b 0 rfl) (fun _ => op_move z8) <| .g rfl rfl (.b 1 rfl) (fun _ => op_move z8) <| .g rfl rfl (.b 2 rfl) (fun hc => op_index ud22 tok3 (.cond z1 hc) (.cond z0 hc) (opt_t ht18 hc)) <| .g rfl rfl (.b 3 rfl) (fun hc => op_load tok3 (.cond z0 hc)) <| .g rfl rfl (.b 4 rfl) (fun hc => op_gtr (.cond z0 hc) .k) <| .o (op_or z5 (fun hp => (.cond z0 (beqF hp)))) <| .n) fun n4 a w hst => ?_
  replace hst := hst.to [11,13,14] [_,_,_] [] rfl rfl
  refine wt hst (fun b29 => ?_) (fun b29 => ?_)
  ·replace h := ite_t b29 h
   refine sr mixed [] hst (fun _ => .o (op_assign .k) <| .n) fun n5 a w hst => ?_
   replace hst := hst.to [0] [_] [] rfl rfl
   refine wp_ret ?_
   exact hJp21 _ _ _ (ho _ (sj h).symm) (hst.pick [0])
  ·replace h := ite_f b29 h
   refine wp_skip ?_
   refine hK26 _ _ ?_
   try clear hK26 K26
   refine wr mixed [] hst (fun _ => .q 1 rfl <| .o (op_add z0 .k) <| .o (op_assign z0) <| .n) fun n3 a w hst => ?_
   replace hst := hst.to [2,4] [_,_] [] rfl rfl
   exact hK23 _ _ _ (sj h).symm (hst.pick [0,1])
 ·replace h := ite_f b30 h
  refine wp_exit ?_
  exact hJp20 _ _ _ (ho _ (sj h).symm) (hst.pick [])

/- diorama/dioramaref13.Holds -/
noncomputable def fref13_Holds (l_ : Sref13_Limit) (counts_ : (List Int)) : Option (Bool) := (fref13_Valid l_ (counts_.length : Int)).bind fun t9 => (opt ((!t9) == false) (fref13_Numbers counts_) default).bind fun t13 => (if ((!t9) || (!t13)) = true then (some false) else ((if (decide ((l_).B ≥ (0:Int))) = true then (idx counts_ (l_).B).bind fun t26 => (some (IntKind.i64.wrap ((l_).Mul * t26))) else (some (l_).Mul))).bind fun (p8 : Int) => (if (l_).Least = true then (idx counts_ (l_).A).bind fun t34 => (some (decide (t34 ≥ p8))) else (idx counts_ (l_).A).bind fun t41 => (some (decide (t41 ≤ p8)))))
set_option maxRecDepth 100000 in
set_option maxHeartbeats 4000000 in
theorem ref13_Holds_ok {l_ : Sref13_Limit} {counts_ : (List Int)} {r : Bool} (h : fref13_Holds l_ counts_ = some r) : FnOk Tryz.prog 22 [rSref13_Limit.ty l_,tsl rI counts_] [] (fun _ => []) (fun _ => tb r) := by
 unfold fref13_Holds at h
 refine FnOk.enter Tryz.func22 rfl Tryz.ntmps22 (leb rfl) (fun M0 M w0 a hpl hst => ?_)
 replace hst : St M w0 45 [(0,rSref13_Limit.ty l_),(1,tsl rI counts_)] [] a w0 := hst
 refine sr mixed [] hst (fun _ => .o (op_boxR (R := rSref13_Limit) (u := l_) z0) <| .o (op_assign .k) <| .n) fun n0 a w hst => ?_
 replace hst := hst.to [0,3] [_,_] [] rfl rfl
 refine wp_seq_k (fun K2 hK2 => ?_)
 obtain ⟨t9,ht9,h⟩ := bind_some h
 obtain ⟨t13,ht13,h⟩ := bind_some h
 refine sr mixed [] hst (fun _ => .o (op_load tok41 z0) <| .q 2 rfl <| .o (op_len ud22 z0) <| .o (op_callF call47 (ref13_Valid_ok ht9) (.cons (.of z2) <| .cons (.of z0) <| .nil)) <| .o (op_not z0) <| .q 0 rfl <| .g rfl rfl (.b 0 rfl) (fun _ => op_move z7) <| .g rfl rfl (.b 1 rfl) (fun hc => op_callF call48 (ref13_Numbers_ok (opt_t ht13 hc)) (.cons (.of (.cond z0 hc)) <| .nil)) <| .g rfl rfl (.b 2 rfl) (fun hc => op_not (.cond z0 hc)) <| .o (op_or z3 (fun hp => (.cond z0 (beqF hp)))) <| .n) fun n1 a w hst => ?_
 replace hst := hst.to [9,10,11] [_,_,_] [] rfl rfl
 refine wt hst (fun b16 => ?_) (fun b16 => ?_)
 ·replace h := ite_t b16 h
  refine sr mixed [] hst (fun _ => .o (op_assign .k) <| .n) fun n2 a w hst => ?_
  replace hst := hst.to [0] [_] [] rfl rfl
  refine wp_ret ?_
  obtain rfl := sj h
  exact ret_st undef [] hpl hst rfl (.tmp z0 .nil) rfl rfl rfl
 ·replace h := ite_f b16 h
  refine wp_skip ?_
  refine hK2 _ _ ?_
  try clear hK2 K2
  refine sr mixed [] hst (fun _ => .o (op_field fld41_2 z1) <| .o (op_loadT (R := rI) (u := (l_).Mul) tok3 z0 rfl) <| .o (op_assign z0) <| .n) fun n3 a w hst => ?_
  replace hst := hst.to [2,4,5] [_,_,_] [] rfl rfl
  refine wp_seq_k (fun K6 hK6 => ?_)
  refine sr mixed [] hst (fun _ => .o (op_field fld41_1 z1) <| .o (op_loadT (R := rI) (u := (l_).B) tok3 z0 rfl) <| .o (op_geq z0 .k) <| .n) fun n4 a w hst => ?_
  replace hst := hst.to [2,3,4,5] [_,_,_,_] [] rfl rfl
  obtain ⟨p8,hp8,h⟩ := bind_some h
  have hJp8 : ∀ a w,St M w0 45 [(5,ti p8),(2,tptr (rSref13_Limit.cs l_)),(1,tsl rI counts_)] [] a w → K6 a w := by
   intro a w hst
   refine hK6 _ _ ?_
   try clear hK6 K6
   refine wp_seq_k (fun K10 hK10 => ?_)
   refine sr mixed [] hst (fun _ => .o (op_field fld41_3 z1) <| .o (op_loadT (R := rBool) (u := (l_).Least) tok4 z0 rfl) <| .n) fun n6 a w hst => ?_
   replace hst := hst.to [1,2,3,4] [_,_,_,_] [] rfl rfl
   refine wt hst (fun b14 => ?_) (fun b14 => ?_)
   ·replace h := ite_t b14 h
    obtain ⟨t34,ht34,h⟩ := bind_some h
    refine sr mixed [] hst (fun _ => .q 3 rfl <| .o (op_field fld41_0 z3) <| .o (op_loadT (R := rI) (u := (l_).A) tok3 z0 rfl) <| .o (op_index ud22 tok3 z2 z0 ht34) <| .o (op_load tok3 z0) <| .q 6 rfl <| .o (op_geq z1 z0) <| .o (op_assign z0) <| .n) fun n7 a w hst => ?_
    replace hst := hst.to [7] [_] [] rfl rfl
    refine wp_ret ?_
    obtain rfl := sj h
    exact ret_st undef [] hpl hst rfl (.tmp z0 .nil) rfl rfl rfl
   ·replace h := ite_f b14 h
    refine wp_skip ?_
    refine hK10 _ _ ?_
    try clear hK10 K10
    obtain ⟨t41,ht41,h⟩ := bind_some h
    refine sr mixed [] hst (fun _ => .q 3 rfl <| .o (op_field fld41_0 z3) <| .o (op_loadT (R := rI) (u := (l_).A) tok3 z0 rfl) <| .o (op_index ud22 tok3 z2 z0 ht41) <| .o (op_load tok3 z0) <| .q 6 rfl <| .o (op_leq z1 z0) <| .o (op_assign z0) <| .n) fun n8 a w hst => ?_
    replace hst := hst.to [7] [_] [] rfl rfl
    refine wp_ret ?_
    obtain rfl := sj h
    exact ret_st undef [] hpl hst rfl (.tmp z0 .nil) rfl rfl rfl
  replace h := hp8
  clear hp8
  refine wt hst (fun b15 => ?_) (fun b15 => ?_)
  ·replace h := ite_t b15 h
   obtain ⟨t26,ht26,h⟩ := bind_some h
   refine wr mixed [] hst (fun _ => .o (op_field fld41_2 z2) <| .o (op_loadT (R := rI) (u := (l_).Mul) tok3 z0 rfl) <| .q 5 rfl <| .o (op_field fld41_1 z5) <| .o (op_loadT (R := rI) (u := (l_).B) tok3 z0 rfl) <| .o (op_index ud22 tok3 z2 z0 ht26) <| .o (op_load tok3 z0) <| .o (op_mul z5 z0) <| .o (op_assign z0) <| .n) fun n5 a w hst => ?_
   replace hst := hst.to [8,10,11] [_,_,_] [] rfl rfl
   obtain rfl := sj h
   exact hJp8 _ _ (hst.pick [0,1,2])
  ·replace h := ite_f b15 h
   refine wp_skip ?_
   obtain rfl := sj h
   exact hJp8 _ _ (hst.pick [1,2,3])

/- diorama/dioramaref13.All -/
noncomputable def fref13_All (l_ : (List Sref13_Limit)) (counts_ : (List Int)) : Option (Bool) := (tailrec (fun (s4 : Int) => ((if (decide (s4 < (l_.length : Int))) = true then (idx l_ s4).bind fun t14 => (fref13_Holds t14 counts_).bind fun t17 => (if (!t17) = true then (some (.inr (.inr false))) else (some (.inl (IntKind.i64.wrap (s4 + (1:Int)))))) else (some (.inr (.inl ())))) : Option ((Int) ⊕ ((Unit) ⊕ (Bool))))) (0:Int)).bind fun (e5 : (Unit) ⊕ (Bool)) => (match e5 with | .inl _ => (some true) | .inr p21 => (some p21))
set_option maxRecDepth 100000 in
set_option maxHeartbeats 4000000 in
theorem ref13_All_ok {l_ : (List Sref13_Limit)} {counts_ : (List Int)} {r : Bool} (h : fref13_All l_ counts_ = some r) : FnOk Tryz.prog 95 [tsl rSref13_Limit l_,tsl rI counts_] [] (fun _ => []) (fun _ => tb r) := by
 unfold fref13_All at h
 refine FnOk.enter Tryz.func95 rfl Tryz.ntmps95 (leb rfl) (fun M0 M w0 a hpl hst => ?_)
 replace hst : St M w0 19 [(0,tsl rSref13_Limit l_),(1,tsl rI counts_)] [] a w0 := hst
 refine sr mixed [] hst (fun _ => .o (op_assign .k) <| .n) fun n0 a w hst => ?_
 replace hst := hst.to [1,2] [_,_] [] rfl rfl
 refine wp_seq_k (fun K2 hK2 => ?_)
 refine sr mixed [] hst (fun _ => .o (op_assign .k) <| .n) fun n1 a w hst => ?_
 replace hst := hst.to [0,1,2] [_,_,_] [] rfl rfl
 obtain ⟨e5,he5,h⟩ := bind_some h
 have hJp20 : ∀ (p20 : Unit) a w,(.inl p20) = e5 → St M w0 19 [] [] a w → K2 a w := by
  intro p20 a w he hst
  subst he
  simp only at h
  refine hK2 _ _ ?_
  try clear hK2 K2
  refine sr mixed [] hst (fun _ => .o (op_assign .k) <| .n) fun n6 a w hst => ?_
  replace hst := hst.to [0] [_] [] rfl rfl
  refine wp_ret ?_
  obtain rfl := sj h
  exact ret_st undef [] hpl hst rfl (.tmp z0 .nil) rfl rfl rfl
 have hJp21 : ∀ (p21 : Bool) a w,(.inr p21) = e5 → St M w0 19 [(4,tb p21)] [] a w → Ret Tryz.prog Tryz.f95 M0 [] w0 (fun _ => []) (fun _ => tb r) .ret a w := by
  intro p21 a w he hst
  subst he
  simp only at h
  obtain rfl := sj h
  exact ret_st undef [] hpl hst rfl (.tmp z0 .nil) rfl rfl rfl
 refine wp_block ?_
 refine wp_loopK _ (fun (s4 : Int) a w => St M w0 19 [(5,ti s4),(0,tsl rSref13_Limit l_),(1,tsl rI counts_)] [] a w) _ _ he5 (hst.pick [0,1,2]) ?_
 clear h
 intro s4 o a w K23 hI h ho hK23
 have hst := hI
 clear hI
 refine wp_seq_k (fun K24 hK24 => ?_)
 refine sr mixed [] hst (fun _ => .q 0 rfl <| .q 2 rfl <| .o (op_len ud36 z0) <| .o (op_lss z2 z0) <| .n) fun n2 a w hst => ?_
 replace hst := hst.to [3,4,5,6] [_,_,_,_] [] rfl rfl
 refine wt hst (fun b30 => ?_) (fun b30 => ?_)
 ·replace h := ite_t b30 h
  refine wp_skip ?_
  refine hK24 _ _ ?_
  try clear hK24 K24
  refine wp_seq_k (fun K26 hK26 => ?_)
  refine wp_block ?_
  obtain ⟨t14,ht14,h⟩ := bind_some h
  obtain ⟨t17,ht17,h⟩ := bind_some h
  refine sr mixed [] hst (fun _ => .q 2 rfl <| .q 2 rfl <| .o (op_index ud36 tok41 z1 z0 ht14) <| .o (op_load tok41 z0) <| .q 7 rfl <| .o (op_callF call22 (ref13_Holds_ok ht17) (.cons (.of z1) <| .cons (.of z0) <| .nil)) <| .o (op_not z0) <| .n) fun n4 a w hst => ?_
  replace hst := hst.to [6,8,9,10] [_,_,_,_] [] rfl rfl
  refine wt hst (fun b29 => ?_) (fun b29 => ?_)
  ·replace h := ite_t b29 h
   refine sr mixed [] hst (fun _ => .o (op_assign .k) <| .n) fun n5 a w hst => ?_
   replace hst := hst.to [0] [_] [] rfl rfl
   refine wp_ret ?_
   exact hJp21 _ _ _ (ho _ (sj h).symm) (hst.pick [0])
  ·replace h := ite_f b29 h
   refine wp_skip ?_
   refine hK26 _ _ ?_
   try clear hK26 K26
   refine wr mixed [] hst (fun _ => .q 1 rfl <| .o (op_add z0 .k) <| .o (op_assign z0) <| .n) fun n3 a w hst => ?_
   replace hst := hst.to [2,4,5] [_,_,_] [] rfl rfl
   exact hK23 _ _ _ (sj h).symm (hst.pick [0,1,2])
 ·replace h := ite_f b30 h
  refine wp_exit ?_
  exact hJp20 _ _ _ (ho _ (sj h).symm) (hst.pick [])

/- diorama/dioramaref13.Kept -/
noncomputable def fref13_Kept (l_ : (List Sref13_Limit)) : Option (Bool) := (mk (6:Int) (0:Int)).bind fun t8 => (tailrec (fun (s6 : Bool × List Int) => ((if s6.1 = true then (tailrec (fun (s126 : Int × Bool × List Int) => ((if (decide (s126.1 < (l_.length : Int))) = true then (idx l_ s126.1).bind fun t19 => (fref13_demand t19 s126.2.2).bind fun t22 => (if (decide (t22.2 > (65536:Int))) = true then (some (.inr (.inr false))) else (idx s126.2.2 t22.1).bind fun t30 => ((if (decide (t22.2 > t30)) = true then (setAt s126.2.2 t22.1 t22.2).bind fun t36s => (some (true,t36s)) else (some (s126.2.1,s126.2.2)))).bind fun (p169 : Bool × List Int) => (some (.inl ((IntKind.i64.wrap (s126.1 + (1:Int))),p169.1,p169.2)))) else (some (.inr (.inl (s126.2.1,s126.2.2))))) : Option ((Int × Bool × List Int) ⊕ ((Bool × List Int) ⊕ (Bool))))) ((0:Int),false,s6.2)).bind fun (e127 : (Bool × List Int) ⊕ (Bool)) => (match e127 with | .inl p158 => (some (.inl (p158.1,p158.2))) | .inr p159 => (some (.inr (.inr p159)))) else (some (.inr (.inl s6.2)))) : Option ((Bool × List Int) ⊕ ((List Int) ⊕ (Bool))))) (true,t8)).bind fun (e7 : (List Int) ⊕ (Bool)) => (match e7 with | .inl p118 => (fref13_All l_ p118).bind fun t39 => (some t39) | .inr p119 => (some p119))
set_option maxRecDepth 100000 in
set_option maxHeartbeats 4000000 in
theorem ref13_Kept_ok {l_ : (List Sref13_Limit)} {r : Bool} (h : fref13_Kept l_ = some r) : FnOk Tryz.prog 60 [tsl rSref13_Limit l_] [] (fun _ => []) (fun _ => tb r) := by
 unfold fref13_Kept at h
 refine FnOk.enter Tryz.func60 rfl Tryz.ntmps60 (leb rfl) (fun M0 M w0 a hpl hst => ?_)
 replace hst : St M w0 40 [(0,tsl rSref13_Limit l_)] [] a w0 := hst
 refine sr mixed [] hst (fun _ => .o (op_assign .k) <| .n) fun n0 a w hst => ?_
 replace hst := hst.to [1] [_] [] rfl rfl
 obtain ⟨t8,ht8,h⟩ := bind_some h
 refine sr mixed [v1 0 (fun v0 => own rI 3 t8 v0)] hst (fun _ => .m [] [0] rfl rfl rfl (op_makeO (R := rI) ud22 tok3 zok3 (leb rfl) .k .k ht8) <| .ud (f := fun v => tv v) 0 rfl [] rfl rfl (op_assign z0) <| .n) fun n1 a w hst => ?_
 replace hst := hst.to [0,1,2] [_,_,_] [_] rfl rfl
 refine sr mixed [] hst (fun _ => .o (op_assign .k) <| .n) fun n2 a w hst => ?_
 replace hst := hst.to [0,1,2,3] [_,_,_,_] [_] rfl rfl
 refine wp_seq_k (fun K5 hK5 => ?_)
 obtain ⟨e7,he7,h⟩ := bind_some h
 have hJp118 : ∀ (p118 : List Int) a w,(.inl p118) = e7 → St M w0 40 [(3,tv (n1 0)),(0,tsl rSref13_Limit l_)] [own rI 3 p118 (n1 0)] a w → K5 a w := by
  intro p118 a w he hst
  subst he
  simp only at h
  refine hK5 _ _ ?_
  try clear hK5 K5
  obtain ⟨t39,ht39,h⟩ := bind_some h
  refine sr mixed [] hst (fun _ => .q 1 rfl <| .q 1 rfl <| .u [0] rfl rfl (op_callFU [own rI 3 p118 (n1 0)] call95 (ref13_All_ok ht39) (.cons (.of z1) <| .cons (.own z0 (.head _)) <| .nil) (fun _ => flat_tv) (fun _ => flatN0 (x := undef))) <| .o (op_assign z0) <| .n) fun n14 a w hst => ?_
  replace hst := hst.to [1,3,4] [_,_,_] [_] rfl rfl
  refine wp_ret ?_
  obtain rfl := sj h
  exact ret_st undef [] hpl hst rfl (.tmp z1 .nil) rfl rfl rfl
 have hJp119 : ∀ (p119 : Bool) a w,(.inr p119) = e7 → St M w0 40 [(2,tb p119)] [] a w → Ret Tryz.prog Tryz.f60 M0 [] w0 (fun _ => []) (fun _ => tb r) .ret a w := by
  intro p119 a w he hst
  subst he
  simp only at h
  obtain rfl := sj h
  exact ret_st undef [] hpl hst rfl (.tmp z0 .nil) rfl rfl rfl
 refine wp_block ?_
 refine wp_loopK _ (fun (s6 : Bool × List Int) a w => St M w0 40 [(4,tb s6.1),(3,tv (n1 0)),(0,tsl rSref13_Limit l_)] [own rI 3 s6.2 (n1 0)] a w) _ _ he7 (hst.pick [0,2,3]) ?_
 clear h
 intro s6 o a w K121 hI h ho hK121
 have hst := hI
 clear hI
 refine wp_seq_k (fun K122 hK122 => ?_)
 refine sr mixed [] hst (fun _ => .q 0 rfl <| .n) fun n3 a w hst => ?_
 replace hst := hst.to [0,2,3] [_,_,_] [_] rfl rfl
 refine wt hst (fun b176 => ?_) (fun b176 => ?_)
 ·replace h := ite_t b176 h
  refine wp_skip ?_
  refine hK122 _ _ ?_
  try clear hK122 K122
  refine wp_block ?_
  refine sr mixed [] hst (fun _ => .o (op_assign .k) <| .n) fun n4 a w hst => ?_
  replace hst := hst.to [0,2,3] [_,_,_] [_] rfl rfl
  refine sr mixed [] hst (fun _ => .o (op_assign .k) <| .n) fun n5 a w hst => ?_
  replace hst := hst.to [0,1,2,3] [_,_,_,_] [_] rfl rfl
  obtain ⟨e127,he127,h⟩ := bind_some h
  have hJp158 : ∀ (p158 : Bool × List Int) a w,(.inl p158) = e127 → St M w0 40 [(4,tb p158.1),(3,tv (n1 0)),(0,tsl rSref13_Limit l_)] [own rI 3 p158.2 (n1 0)] a w → K121 a w := by
   intro p158 a w he hst
   subst he
   simp only at h
   exact hK121 _ _ _ (sj h).symm (hst.pick [0,1,2])
  have hJp159 : ∀ (p159 : Bool) a w,(.inr p159) = e127 → St M w0 40 [(2,tb p159)] [] a w → Ret Tryz.prog Tryz.f60 M0 [] w0 (fun _ => []) (fun _ => tb r) .ret a w := by
   intro p159 a w he hst
   subst he
   simp only at h
   exact hJp119 _ _ _ (ho _ (sj h).symm) (hst.pick [0])
  refine wp_block ?_
  refine wp_loopK _ (fun (s126 : Int × Bool × List Int) a w => St M w0 40 [(5,ti s126.1),(4,tb s126.2.1),(3,tv (n1 0)),(0,tsl rSref13_Limit l_)] [own rI 3 s126.2.2 (n1 0)] a w) _ _ he127 (hst.pick [0,1,2,3]) ?_
  clear h
  intro s126 o a w K160 hI h ho hK160
  have hst := hI
  clear hI
  refine wp_seq_k (fun K161 hK161 => ?_)
  refine sr mixed [] hst (fun _ => .q 0 rfl <| .q 4 rfl <| .o (op_len ud36 z0) <| .o (op_lss z2 z0) <| .n) fun n6 a w hst => ?_
  replace hst := hst.to [3,4,5,6,7] [_,_,_,_,_] [_] rfl rfl
  refine wt hst (fun b175 => ?_) (fun b175 => ?_)
  ·replace h := ite_t b175 h
   refine wp_skip ?_
   refine hK161 _ _ ?_
   try clear hK161 K161
   refine wp_seq_k (fun K163 hK163 => ?_)
   refine wp_block ?_
   obtain ⟨t19,ht19,h⟩ := bind_some h
   obtain ⟨t22,ht22,h⟩ := bind_some h
   refine sr mixed [] hst (fun _ => .q 4 rfl <| .q 2 rfl <| .o (op_index ud36 tok41 z1 z0 ht19) <| .o (op_load tok41 z0) <| .q 7 rfl <| .u [0] rfl rfl (op_callFU [own rI 3 s126.2.2 (n1 0)] call94 (ref13_demand_ok ht22) (.cons (.of z1) <| .cons (.own z0 (.head _)) <| .nil) (fun _ => (flat_tup (flat_cons flat_tv (flat_cons flat_tv flat_nil)))) (fun _ => flatN0 (x := undef))) <| .q 0 rfl <| .o (op_extract z0 rfl) <| .o (op_extract z1 rfl) <| .o (op_assign z1) <| .o (op_assign z1) <| .n) fun n8 a w hst => ?_
   replace hst := hst.to [4,9,10,12,13,14,15] [_,_,_,_,_,_,_] [_] rfl rfl
   refine wp_seq_k (fun K165 hK165 => ?_)
   refine sr mixed [] hst (fun _ => .q 2 rfl <| .o (op_gtr z0 .k) <| .n) fun n9 a w hst => ?_
   replace hst := hst.to [1,2,3,4,5,6,7,8] [_,_,_,_,_,_,_,_] [_] rfl rfl
   refine wt hst (fun b174 => ?_) (fun b174 => ?_)
   ·replace h := ite_t b174 h
    refine sr mixed [] hst (fun _ => .o (op_assign .k) <| .n) fun n10 a w hst => ?_
    replace hst := hst.to [0,2,7] [_,_,_] [_] rfl rfl
    refine wp_ret ?_
    exact hJp159 _ _ _ (ho _ (sj h).symm) ((hst.pick [0]).selA [] rfl)
   ·replace h := ite_f b174 h
    refine wp_skip ?_
    refine hK165 _ _ ?_
    try clear hK165 K165
    obtain ⟨t30,ht30,h⟩ := bind_some h
    refine sr mixed [] hst (fun _ => .q 3 rfl <| .q 7 rfl <| .q 4 rfl <| .u [0] rfl rfl (op_indexOi ud22 tok3 z1 z0 ht30) <| .u [0] rfl rfl (op_loadO tok3 z0 ht30) <| .o (op_gtr z4 z0) <| .n) fun n11 a w hst => ?_
    replace hst := hst.to [1,5,7,8,9,10,11,12,13] [_,_,_,_,_,_,_,_,_] [_] rfl rfl
    obtain ⟨p169,hp169,h⟩ := bind_some h
    have hJp169 : ∀ a w,St M w0 40 [(4,tb p169.1),(5,ti s126.1),(3,tv (n1 0)),(0,tsl rSref13_Limit l_)] [own rI 3 p169.2 (n1 0)] a w → K163 a w := by
     intro a w hst
     refine hK163 _ _ ?_
     try clear hK163 K163
     refine wr mixed [] hst (fun _ => .q 1 rfl <| .o (op_add z0 .k) <| .o (op_assign z0) <| .n) fun n7 a w hst => ?_
     replace hst := hst.to [2,3,4,5] [_,_,_,_] [_] rfl rfl
     exact hK160 _ _ _ (sj h).symm (hst.pick [0,1,2,3])
    replace h := hp169
    clear hp169
    refine wp_test 1 hst rfl (fun b173 => ?_) (fun b173 => ?_)
    ·replace h := ite_t b173 h
     obtain ⟨t36s,ht36s,h⟩ := bind_some h
     refine sr mixed [v0 (own rI 3 t36s (n1 0))] hst (fun _ => .q 7 rfl <| .q 4 rfl <| .q 6 rfl <| .u [0] rfl rfl (op_indexOs ud22 tok3 z2 z1 ht36s) <| .e [] [0] [1] rfl rfl rfl rfl (op_storeO tok3 z0 z1 ht36s) <| .n) fun n12 a w hst => ?_
     replace hst := hst.to [0,4,6,9,11,12] [_,_,_,_,_,_] [_] rfl rfl
     refine wr mixed [] hst (fun _ => .o (op_assign .k) <| .n) fun n13 a w hst => ?_
     replace hst := hst.to [0,1,2,3,4,5,6] [_,_,_,_,_,_,_] [_] rfl rfl
     obtain rfl := sj h
     exact hJp169 _ _ (hst.pick [0,4,5,6])
    ·replace h := ite_f b173 h
     refine wp_skip ?_
     obtain rfl := sj h
     exact hJp169 _ _ (hst.pick [6,5,7,8])
  ·replace h := ite_f b175 h
   refine wp_exit ?_
   exact hJp158 _ _ _ (ho _ (sj h).symm) (hst.pick [2,3,4])
 ·replace h := ite_f b176 h
  refine wp_exit ?_
  exact hJp118 _ _ _ (ho _ (sj h).symm) (hst.pick [1,2])

/- diorama/dioramaref13.Some -/
noncomputable def fref13_Some (l_ : (List Sref13_Limit)) (set_ : (List Int)) : Option ((List Sref13_Limit)) := (tailrec (fun (s6 : Int × List Sref13_Limit) => ((if (decide (s6.1 < (set_.length : Int))) = true then (idx set_ s6.1).bind fun t17 => (idx l_ t17).bind fun t19 => (rm (s6.2.length + [t19].length)).bind fun _ => (some (.inl ((IntKind.i64.wrap (s6.1 + (1:Int))),(s6.2 ++ [t19])))) else (some (.inr s6.2))) : Option ((Int × List Sref13_Limit) ⊕ ((List Sref13_Limit))))) ((0:Int),([] : List Sref13_Limit))).bind fun (p17 : (List Sref13_Limit)) => (some p17)
set_option maxRecDepth 100000 in
set_option maxHeartbeats 4000000 in
theorem ref13_Some_ok {l_ : (List Sref13_Limit)} {set_ : (List Int)} {r : (List Sref13_Limit)} (h : fref13_Some l_ set_ = some r) : FnOk Tryz.prog 96 [tsl rSref13_Limit l_,tsl rI set_] [] (fun _ => []) (fun _ => tsl rSref13_Limit r) := by
 unfold fref13_Some at h
 refine FnOk.enter Tryz.func96 rfl Tryz.ntmps96 (leb rfl) (fun M0 M w0 a hpl hst => ?_)
 replace hst : St M w0 24 [(0,tsl rSref13_Limit l_),(1,tsl rI set_)] [] a w0 := hst
 refine sr mixed [] hst (fun _ => .o (op_assign (.nilsl (R := rSref13_Limit))) <| .n) fun n0 a w hst => ?_
 replace hst := hst.to [1,2] [_,_] [] rfl rfl
 refine sr mixed [] hst (fun _ => .o (op_assign .k) <| .n) fun n1 a w hst => ?_
 replace hst : St _ _ _ [_,_,_] [_] _ _ := (hst.pick [0,1,2]).nil (rSref13_Limit) 41
 refine wp_seq_k (fun K4 hK4 => ?_)
 refine sr mixed [] hst (fun _ => .o (op_assign .k) <| .n) fun n2 a w hst => ?_
 replace hst := hst.to [0,1,2,3] [_,_,_,_] [_] rfl rfl
 obtain ⟨e7,he7,h⟩ := bind_some h
 have hJp17 : ∀ (p17 : List Sref13_Limit) (v18 : Value) a w,p17 = e7 → St M w0 24 [(5,tv v18)] [own rSref13_Limit 41 p17 v18] a w → K4 a w := by
  intro p17 v18 a w he hst
  subst he
  refine hK4 _ _ ?_
  try clear hK4 K4
  refine sr mixed [] hst (fun _ => .q 0 rfl <| .o (op_assign z0) <| .n) fun n6 a w hst => ?_
  replace hst := hst.to [0,1,2] [_,_,_] [_] rfl rfl
  refine wp_ret ?_
  replace hst : St _ _ _ [_] [] _ _ := (hst.shareO 1 rfl).pick [0]
  obtain rfl := sj h
  exact ret_st undef [] hpl hst rfl (.tmp z0 .nil) rfl rfl rfl
 refine wp_block ?_
 refine wp_loopK _ (fun (s6 : Int × List Sref13_Limit) a w => ∃ v12 : Value,St M w0 24 [(6,ti s6.1),(5,tv v12),(0,tsl rSref13_Limit l_),(1,tsl rI set_)] [own rSref13_Limit 41 s6.2 v12] a w) _ _ he7 ⟨(.slice none 0 0),hst.pick [0,1,2,3]⟩ ?_
 clear h
 intro s6 o a w K20 hI h ho hK20
 obtain ⟨v12,hst⟩ := hI
 refine wp_seq_k (fun K21 hK21 => ?_)
 refine sr mixed [] hst (fun _ => .q 0 rfl <| .q 4 rfl <| .o (op_len ud22 z0) <| .o (op_lss z2 z0) <| .n) fun n3 a w hst => ?_
 replace hst := hst.to [3,4,5,6,7] [_,_,_,_,_] [_] rfl rfl
 refine wt hst (fun b24 => ?_) (fun b24 => ?_)
 ·replace h := ite_t b24 h
  refine wp_skip ?_
  refine hK21 _ _ ?_
  try clear hK21 K21
  refine wp_seq_k (fun K23 hK23 => ?_)
  refine wp_block ?_
  obtain ⟨t17,ht17,h⟩ := bind_some h
  obtain ⟨t19,ht19,h⟩ := bind_some h
  obtain ⟨u22,hu22,h⟩ := bind_some h
  refine wr mixed [v1 9 (fun v0 => own rSref13_Limit 41 (s6.2 ++ [t19]) v0)] hst (fun _ => .q 2 rfl <| .q 4 rfl <| .q 6 rfl <| .q 4 rfl <| .o (op_index ud22 tok3 z1 z0 ht17) <| .o (op_load tok3 z0) <| .o (op_index ud36 tok41 z4 z0 ht19) <| .o (op_load tok41 z0) <| .o (op_buildSl (R := rSref13_Limit) (us := [t19]) ud36 tok41 (.cons z0 <| .nil _) rfl (leb rfl)) <| .e [] [0] [1] rfl rfl rfl rfl (op_append (R := rSref13_Limit) ud36 tok41 (leb rfl) z8 z0 hu22) <| .ud (f := fun v => tv v) 9 rfl [] rfl rfl (op_assign z0) <| .n) fun n5 a w hst => ?_
  replace hst := hst.to [9,10,12,13,14] [_,_,_,_,_] [_] rfl rfl
  refine hK23 _ _ ?_
  try clear hK23 K23
  refine wr mixed [] hst (fun _ => .q 2 rfl <| .o (op_add z0 .k) <| .o (op_assign z0) <| .n) fun n4 a w hst => ?_
  replace hst := hst.to [2,3,4,5,6] [_,_,_,_,_] [_] rfl rfl
  exact hK20 _ _ _ (sj h).symm ⟨(n5 9),hst.pick [0,2,3,4]⟩
 ·replace h := ite_f b24 h
  refine wp_exit ?_
  exact hJp17 _ v12 _ _ (ho _ (sj h).symm) (hst.pick [2])

/- diorama/dioramaref13.first -/
noncomputable def fref13_firstS (self : (List Sref13_Limit) → (List Int) → Int → Int → Option ((List Int))) (l_ : (List Sref13_Limit)) (set_ : (List Int)) (from_ : Int) (many_ : Int) : Option ((List Int)) := (if (many_ == (0:Int)) = true then (fref13_Some l_ set_).bind fun t17 => (fref13_Kept t17).bind fun t18 => (if t18 = true then (some ([] : List Int)) else (some set_)) else (rm (([] : List Int).length + set_.length)).bind fun _ => (tailrec (fun (s14 : Int × List Int) => ((if (decide (s14.1 < (l_.length : Int))) = true then (rm (s14.2.length + [s14.1].length)).bind fun _ => (some (.inl ((IntKind.i64.wrap (s14.1 + (1:Int))),(s14.2 ++ [s14.1])))) else (some (.inr s14.2))) : Option ((Int × List Int) ⊕ ((List Int))))) (from_,(([] : List Int) ++ set_))).bind fun (p25 : (List Int)) => (fref13_Some l_ p25).bind fun t36 => (fref13_Kept t36).bind fun t37 => (if t37 = true then (some ([] : List Int)) else (tailrec (fun (s32 : Int) => ((if (decide ((IntKind.i64.wrap (s32 + many_)) ≤ (l_.length : Int))) = true then (rm (([] : List Int).length + set_.length)).bind fun _ => (rm ((([] : List Int) ++ set_).length + [s32].length)).bind fun _ => (self l_ ((([] : List Int) ++ set_) ++ [s32]) (IntKind.i64.wrap (s32 + (1:Int))) (IntKind.i64.wrap (many_ - (1:Int)))).bind fun t58 => (if (decide ((t58.length : Int) > (0:Int))) = true then (some (.inr (.inr t58))) else (some (.inl (IntKind.i64.wrap (s32 + (1:Int)))))) else (some (.inr (.inl ())))) : Option ((Int) ⊕ ((Unit) ⊕ ((List Int)))))) from_).bind fun (e33 : (Unit) ⊕ ((List Int))) => (match e33 with | .inl _ => (some ([] : List Int)) | .inr p53 => (some p53))))
set_option maxRecDepth 100000 in
set_option maxHeartbeats 4000000 in
theorem ref13_first_okS {self : (List Sref13_Limit) → (List Int) → Int → Int → Option ((List Int))} (hself : ∀ (l_ : (List Sref13_Limit)) (set_ : (List Int)) (from_ : Int) (many_ : Int) (r : (List Int)),self l_ set_ from_ many_ = some r → FnOk Tryz.prog 61 [tsl rSref13_Limit l_,tsl rI set_,ti from_,ti many_] [] (fun _ => []) (fun _ => tsl rI r)) {l_ : (List Sref13_Limit)} {set_ : (List Int)} {from_ : Int} {many_ : Int} {r : (List Int)} (h : fref13_firstS self l_ set_ from_ many_ = some r) : FnOk Tryz.prog 61 [tsl rSref13_Limit l_,tsl rI set_,ti from_,ti many_] [] (fun _ => []) (fun _ => tsl rI r) := by
 unfold fref13_firstS at h
 refine FnOk.enter Tryz.func61 rfl Tryz.ntmps61 (leb rfl) (fun M0 M w0 a hpl hst => ?_)
 replace hst : St M w0 63 [(0,tsl rSref13_Limit l_),(1,tsl rI set_),(2,ti from_),(3,ti many_)] [] a w0 := hst
 refine sr mixed [] hst (fun _ => .o (op_assign (.nilsl (R := rI))) <| .n) fun n0 a w hst => ?_
 replace hst := hst.to [1,2,3,4] [_,_,_,_] [] rfl rfl
 refine wp_seq_k (fun K2 hK2 => ?_)
 refine sr mixed [] hst (fun _ => .q 3 rfl <| .o (op_eql z0 .k) <| .n) fun n1 a w hst => ?_
 replace hst := hst.to [1,2,3,4,5] [_,_,_,_,_] [] rfl rfl
 refine wt hst (fun b71 => ?_) (fun b71 => ?_)
 ·replace h := ite_t b71 h
  refine wp_seq_k (fun K4 hK4 => ?_)
  obtain ⟨t17,ht17,h⟩ := bind_some h
  obtain ⟨t18,ht18,h⟩ := bind_some h
  refine sr mixed [] hst (fun _ => .q 1 rfl <| .q 3 rfl <| .o (op_callF call96 (ref13_Some_ok ht17) (.cons (.of z1) <| .cons (.of z0) <| .nil)) <| .o (op_callF call60 (ref13_Kept_ok ht18) (.cons (.of z0) <| .nil)) <| .n) fun n2 a w hst => ?_
  replace hst := hst.to [3,6] [_,_] [] rfl rfl
  refine wt hst (fun b8 => ?_) (fun b8 => ?_)
  ·replace h := ite_t b8 h
   refine sr mixed [] hst (fun _ => .o (op_assign (.nilsl (R := rI))) <| .n) fun n3 a w hst => ?_
   replace hst := hst.to [0] [_] [] rfl rfl
   refine wp_ret ?_
   obtain rfl := sj h
   exact ret_st undef [] hpl hst rfl (.tmp z0 .nil) rfl rfl rfl
  ·replace h := ite_f b8 h
   refine wp_skip ?_
   refine hK4 _ _ ?_
   try clear hK4 K4
   refine sr mixed [] hst (fun _ => .q 1 rfl <| .o (op_assign z0) <| .n) fun n4 a w hst => ?_
   replace hst := hst.to [1] [_] [] rfl rfl
   refine wp_ret ?_
   obtain rfl := sj h
   exact ret_st undef [] hpl hst rfl (.tmp z0 .nil) rfl rfl rfl
 ·replace h := ite_f b71 h
  refine wp_skip ?_
  refine hK2 _ _ ?_
  try clear hK2 K2
  refine sr mixed [] hst (fun _ => .o (op_assign .k) <| .n) fun n5 a w hst => ?_
  replace hst : St _ _ _ [_,_,_,_,_] [_] _ _ := (hst.pick [0,2,3,4,5]).nil (rI) 3
  refine wp_seq_k (fun K11 hK11 => ?_)
  obtain ⟨u22,hu22,h⟩ := bind_some h
  refine wr mixed [v1 2 (fun v0 => own rI 3 (([] : List Int) ++ set_) v0)] hst (fun _ => .q 0 rfl <| .q 3 rfl <| .e [] [0] [1] rfl rfl rfl rfl (op_append (R := rI) ud22 tok3 (leb rfl) z1 z0 hu22) <| .ud (f := fun v => tv v) 2 rfl [] rfl rfl (op_assign z0) <| .n) fun n6 a w hst => ?_
  replace hst := hst.to [2,3,4,5,6,7] [_,_,_,_,_,_] [_] rfl rfl
  refine hK11 _ _ ?_
  try clear hK11 K11
  refine wp_seq_k (fun K12 hK12 => ?_)
  refine sr mixed [] hst (fun _ => .q 4 rfl <| .o (op_assign z0) <| .n) fun n7 a w hst => ?_
  replace hst := hst.to [1,2,3,4,5,6,7] [_,_,_,_,_,_,_] [_] rfl rfl
  obtain ⟨e15,he15,h⟩ := bind_some h
  have hJp25 : ∀ (p25 : List Int) (v26 : Value) a w,p25 = e15 → St M w0 63 [(9,tv v26),(0,tsl rSref13_Limit l_),(1,tsl rI set_),(2,ti from_),(3,ti many_)] [own rI 3 p25 v26] a w → K12 a w := by
   intro p25 v26 a w he hst
   subst he
   refine hK12 _ _ ?_
   try clear hK12 K12
   refine wp_seq_k (fun K27 hK27 => ?_)
   refine wp_seq_k (fun K28 hK28 => ?_)
   replace hst : St _ _ _ [_,_,_,_,_] [] _ _ := (hst.shareO 0 rfl).pick [0,2,3,4,5]
   obtain ⟨t36,ht36,h⟩ := bind_some h
   obtain ⟨t37,ht37,h⟩ := bind_some h
   refine wr mixed [] hst (fun _ => .q 1 rfl <| .q 1 rfl <| .o (op_callF call96 (ref13_Some_ok ht36) (.cons (.of z1) <| .cons (.of z0) <| .nil)) <| .o (op_callF call60 (ref13_Kept_ok ht37) (.cons (.of z0) <| .nil)) <| .n) fun n11 a w hst => ?_
   replace hst := hst.to [3,5,6,7,8] [_,_,_,_,_] [] rfl rfl
   refine hK28 _ _ ?_
   try clear hK28 K28
   refine wt hst (fun b65 => ?_) (fun b65 => ?_)
   ·replace h := ite_t b65 h
    refine sr mixed [] hst (fun _ => .o (op_assign (.nilsl (R := rI))) <| .n) fun n12 a w hst => ?_
    replace hst := hst.to [0] [_] [] rfl rfl
    refine wp_ret ?_
    obtain rfl := sj h
    exact ret_st undef [] hpl hst rfl (.tmp z0 .nil) rfl rfl rfl
   ·replace h := ite_f b65 h
    refine wp_skip ?_
    refine hK27 _ _ ?_
    try clear hK27 K27
    refine wp_seq_k (fun K30 hK30 => ?_)
    refine sr mixed [] hst (fun _ => .q 3 rfl <| .o (op_assign z0) <| .n) fun n13 a w hst => ?_
    replace hst := hst.to [1,3,4,6] [_,_,_,_] [] rfl rfl
    obtain ⟨e33,he33,h⟩ := bind_some h
    have hJp52 : ∀ (p52 : Unit) a w,(.inl p52) = e33 → St M w0 63 [] [] a w → K30 a w := by
     intro p52 a w he hst
     subst he
     simp only at h
     refine hK30 _ _ ?_
     try clear hK30 K30
     refine sr mixed [] hst (fun _ => .o (op_assign (.nilsl (R := rI))) <| .n) fun n19 a w hst => ?_
     replace hst := hst.to [0] [_] [] rfl rfl
     refine wp_ret ?_
     obtain rfl := sj h
     exact ret_st undef [] hpl hst rfl (.tmp z0 .nil) rfl rfl rfl
    have hJp53 : ∀ (p53 : (List Int)) a w,(.inr p53) = e33 → St M w0 63 [(8,tsl rI p53)] [] a w → Ret Tryz.prog Tryz.f61 M0 [] w0 (fun _ => []) (fun _ => tsl rI r) .ret a w := by
     intro p53 a w he hst
     subst he
     simp only at h
     obtain rfl := sj h
     exact ret_st undef [] hpl hst rfl (.tmp z0 .nil) rfl rfl rfl
    refine wp_block ?_
    refine wp_loopK _ (fun (s32 : Int) a w => St M w0 63 [(11,ti s32),(0,tsl rSref13_Limit l_),(1,tsl rI set_),(3,ti many_)] [] a w) _ _ he33 (hst.pick [0,1,2,3]) ?_
    clear h
    intro s32 o a w K55 hI h ho hK55
    have hst := hI
    clear hI
    refine wp_seq_k (fun K56 hK56 => ?_)
    refine sr mixed [] hst (fun _ => .q 0 rfl <| .q 4 rfl <| .o (op_add z1 z0) <| .q 4 rfl <| .o (op_len ud36 z0) <| .o (op_leq z2 z0) <| .n) fun n14 a w hst => ?_
    replace hst := hst.to [5,6,7,8,9] [_,_,_,_,_] [] rfl rfl
    refine wt hst (fun b64 => ?_) (fun b64 => ?_)
    ·replace h := ite_t b64 h
     refine wp_skip ?_
     refine hK56 _ _ ?_
     try clear hK56 K56
     refine wp_seq_k (fun K58 hK58 => ?_)
     refine wp_block ?_
     refine wp_seq_k (fun K59 hK59 => ?_)
     obtain ⟨u50,hu50,h⟩ := bind_some h
     obtain ⟨u53,hu53,h⟩ := bind_some h
     obtain ⟨t58,ht58,h⟩ := bind_some h
     refine wr mixed [v1 1 (fun v0 => own rI 3 ([] : List Int) v0),v1 3 (fun v0 => own rI 3 (([] : List Int) ++ set_) v0)] hst (fun _ => .q 2 rfl <| .m [] [0] rfl rfl rfl (op_buildSlO (R := rI) (us := ([] : List Int)) ud22 tok3 (.nil _) rfl (leb rfl) (leb rfl)) <| .q 5 rfl <| .e [] [0] [1] rfl rfl rfl rfl (op_append (R := rI) ud22 tok3 (leb rfl) z1 z0 hu50) <| .q 5 rfl <| .o (op_buildSl (R := rI) (us := [s32]) ud22 tok3 (.cons z0 <| .nil _) rfl (leb rfl)) <| .e [] [1] [] rfl rfl rfl rfl (.roE (op_append (R := rI) ud22 tok3 (leb rfl) z2 z0 hu53)) <| .q 8 rfl <| .o (op_add z0 .k) <| .q 13 rfl <| .o (op_sub z0 .k) <| .o (op_callF call61 (hself _ _ _ _ _ ht58) (.cons (.of z10) <| .cons (.of z4) <| .cons (.of z2) <| .cons (.of z0) <| .nil)) <| .o (op_assign z0) <| .n) fun n16 a w hst => ?_
     replace hst := hst.to [12,14,15,16,17] [_,_,_,_,_] [] rfl rfl
     refine hK59 _ _ ?_
     try clear hK59 K59
     refine sr mixed [] hst (fun _ => .q 0 rfl <| .o (op_len ud22 z0) <| .o (op_gtr z0 .k) <| .n) fun n17 a w hst => ?_
     replace hst := hst.to [2,3,4,5,6,7] [_,_,_,_,_,_] [] rfl rfl
     refine wt hst (fun b63 => ?_) (fun b63 => ?_)
     ·replace h := ite_t b63 h
      refine sr mixed [] hst (fun _ => .q 1 rfl <| .o (op_assign z0) <| .n) fun n18 a w hst => ?_
      replace hst := hst.to [1] [_] [] rfl rfl
      refine wp_ret ?_
      exact hJp53 _ _ _ (ho _ (sj h).symm) (hst.pick [0])
     ·replace h := ite_f b63 h
      refine wp_skip ?_
      refine hK58 _ _ ?_
      try clear hK58 K58
      refine wr mixed [] hst (fun _ => .q 2 rfl <| .o (op_add z0 .k) <| .o (op_assign z0) <| .n) fun n15 a w hst => ?_
      replace hst := hst.to [2,5,6,7] [_,_,_,_] [] rfl rfl
      exact hK55 _ _ _ (sj h).symm (hst.pick [0,1,2,3])
    ·replace h := ite_f b64 h
     refine wp_exit ?_
     exact hJp52 _ _ _ (ho _ (sj h).symm) (hst.pick [])
  refine wp_block ?_
  refine wp_loopK _ (fun (s14 : Int × List Int) a w => ∃ v20 : Value,St M w0 63 [(10,ti s14.1),(9,tv v20),(0,tsl rSref13_Limit l_),(1,tsl rI set_),(2,ti from_),(3,ti many_)] [own rI 3 s14.2 v20] a w) _ _ he15 ⟨(n6 2),hst.pick [0,2,3,4,5,6]⟩ ?_
  clear h
  intro s14 o a w K66 hI h ho hK66
  obtain ⟨v20,hst⟩ := hI
  refine wp_seq_k (fun K67 hK67 => ?_)
  refine sr mixed [] hst (fun _ => .q 0 rfl <| .q 3 rfl <| .o (op_len ud36 z0) <| .o (op_lss z2 z0) <| .n) fun n8 a w hst => ?_
  replace hst := hst.to [3,4,5,6,7,8,9] [_,_,_,_,_,_,_] [_] rfl rfl
  refine wt hst (fun b70 => ?_) (fun b70 => ?_)
  ·replace h := ite_t b70 h
   refine wp_skip ?_
   refine hK67 _ _ ?_
   try clear hK67 K67
   refine wp_seq_k (fun K69 hK69 => ?_)
   refine wp_block ?_
   obtain ⟨u33,hu33,h⟩ := bind_some h
   refine wr mixed [v1 3 (fun v0 => own rI 3 (s14.2 ++ [s14.1]) v0)] hst (fun _ => .q 2 rfl <| .q 2 rfl <| .o (op_buildSl (R := rI) (us := [s14.1]) ud22 tok3 (.cons z0 <| .nil _) rfl (leb rfl)) <| .e [] [0] [1] rfl rfl rfl rfl (op_append (R := rI) ud22 tok3 (leb rfl) z2 z0 hu33) <| .ud (f := fun v => tv v) 3 rfl [] rfl rfl (op_assign z0) <| .n) fun n10 a w hst => ?_
   replace hst := hst.to [3,4,6,7,8,9,10] [_,_,_,_,_,_,_] [_] rfl rfl
   refine hK69 _ _ ?_
   try clear hK69 K69
   refine wr mixed [] hst (fun _ => .q 2 rfl <| .o (op_add z0 .k) <| .o (op_assign z0) <| .n) fun n9 a w hst => ?_
   replace hst := hst.to [2,3,4,5,6,7,8] [_,_,_,_,_,_,_] [_] rfl rfl
   exact hK66 _ _ _ (sj h).symm ⟨(n10 3),hst.pick [0,2,3,4,5,6]⟩
  ·replace h := ite_f b70 h
   refine wp_exit ?_
   exact hJp25 _ v20 _ _ (ho _ (sj h).symm) (hst.pick [2,3,4,5,6])
noncomputable def gref13_firstN : Nat → (List Sref13_Limit) → (List Int) → Int → Int → Option ((List Int))
 | 0 => fun _ _ _ _ => none
 | n + 1 => fref13_firstS (gref13_firstN n)
theorem gref13_firstN_ok : ∀ (n : Nat) (l_ : (List Sref13_Limit)) (set_ : (List Int)) (from_ : Int) (many_ : Int) (r : (List Int)),gref13_firstN n l_ set_ from_ many_ = some r → FnOk Tryz.prog 61 [tsl rSref13_Limit l_,tsl rI set_,ti from_,ti many_] [] (fun _ => []) (fun _ => tsl rI r)
 | 0,_,_,_,_,r,h => by cases h
 | n + 1,l_,set_,from_,many_,r,h => ref13_first_okS (fun l_ set_ from_ many_ r h => gref13_firstN_ok n l_ set_ from_ many_ r h) h
noncomputable def fref13_first (l_ : (List Sref13_Limit)) (set_ : (List Int)) (from_ : Int) (many_ : Int) : Option ((List Int)) := gref13_firstN (many_.natAbs + 2) l_ set_ from_ many_
theorem ref13_first_ok {l_ : (List Sref13_Limit)} {set_ : (List Int)} {from_ : Int} {many_ : Int} {r : (List Int)} (h : fref13_first l_ set_ from_ many_ = some r) : FnOk Tryz.prog 61 [tsl rSref13_Limit l_,tsl rI set_,ti from_,ti many_] [] (fun _ => []) (fun _ => tsl rI r) := gref13_firstN_ok _ _ _ _ _ _ h

/- diorama/dioramaref13.Clash -/
noncomputable def fref13_Clash (n_ : Int) (l_ : (List Sref13_Limit)) : Option ((List Int) × Int) := (if ((decide (n_ < (1:Int))) || (decide (n_ > (6:Int)))) = true then (some (([] : List Int),(1:Int))) else (tailrec (fun (s7 : Int) => ((if (decide (s7 < (l_.length : Int))) = true then (idx l_ s7).bind fun t23 => (fref13_Valid t23 n_).bind fun t26 => (if (!t26) = true then (some (.inr (.inr (([] : List Int),(1:Int))))) else (some (.inl (IntKind.i64.wrap (s7 + (1:Int)))))) else (some (.inr (.inl ())))) : Option ((Int) ⊕ ((Unit) ⊕ ((List Int) × Int))))) (0:Int)).bind fun (e8 : (Unit) ⊕ ((List Int) × Int)) => (match e8 with | .inl _ => (if (decide ((l_.length : Int) > (24:Int))) = true then (some (([] : List Int),(4:Int))) else (fref13_Kept l_).bind fun t32 => (if t32 = true then (some (([] : List Int),(6:Int))) else (tailrec (fun (s33 : Int) => ((if (decide (s33 ≤ (l_.length : Int))) = true then (fref13_first l_ ([] : (List Int)) (0:Int) s33).bind fun t41 => (if (decide ((t41.length : Int) > (0:Int))) = true then (some (.inr (.inr (t41,(0:Int))))) else (some (.inl (IntKind.i64.wrap (s33 + (1:Int)))))) else (some (.inr (.inl ())))) : Option ((Int) ⊕ ((Unit) ⊕ ((List Int) × Int))))) (1:Int)).bind fun (e34 : (Unit) ⊕ ((List Int) × Int)) => (match e34 with | .inl _ => (some (([] : List Int),(6:Int))) | .inr p52 => (some (p52.1,p52.2))))) | .inr p24 => (some (p24.1,p24.2))))
set_option maxRecDepth 100000 in
set_option maxHeartbeats 4000000 in
theorem ref13_Clash_ok {n_ : Int} {l_ : (List Sref13_Limit)} {r : (List Int) × Int} (h : fref13_Clash n_ l_ = some r) : FnOk Tryz.prog 29 [ti n_,tsl rSref13_Limit l_] [] (fun _ => []) (fun _ => ttup [tsl rI r.1,ti r.2]) := by
 unfold fref13_Clash at h
 refine FnOk.enter Tryz.func29 rfl Tryz.ntmps29 (leb rfl) (fun M0 M w0 a hpl hst => ?_)
 replace hst : St M w0 46 [(0,ti n_),(1,tsl rSref13_Limit l_)] [] a w0 := hst
 refine sr mixed [] hst (fun _ => .o (op_assign (.nilsl (R := rI))) <| .o (op_assign .k) <| .n) fun n0 a w hst => ?_
 replace hst := hst.to [2,3] [_,_] [] rfl rfl
 refine wp_seq_k (fun K2 hK2 => ?_)
 refine sr mixed [] hst (fun _ => .q 0 rfl <| .o (op_lss z0 .k) <| .q 0 rfl <| .g rfl rfl (.b 0 rfl) (fun _ => op_move z3) <| .g rfl rfl (.b 1 rfl) (fun hc => op_gtr (.cond z0 hc) .k) <| .o (op_or z2 (fun hp => (.cond z0 (beqF hp)))) <| .n) fun n1 a w hst => ?_
 replace hst := hst.to [5,6,7] [_,_,_] [] rfl rfl
 refine wt hst (fun b73 => ?_) (fun b73 => ?_)
 ·replace h := ite_t b73 h
  refine sr mixed [] hst (fun _ => .o (op_assign (.nilsl (R := rI))) <| .o (op_assign .k) <| .n) fun n2 a w hst => ?_
  replace hst := hst.to [0,1] [_,_] [] rfl rfl
  refine wp_ret ?_
  obtain rfl := sj h
  exact ret_st undef [] hpl hst rfl (.tmp z0 (.tmp z1 .nil)) rfl rfl rfl
 ·replace h := ite_f b73 h
  refine wp_skip ?_
  refine hK2 _ _ ?_
  try clear hK2 K2
  refine wp_seq_k (fun K5 hK5 => ?_)
  refine sr mixed [] hst (fun _ => .o (op_assign .k) <| .n) fun n3 a w hst => ?_
  replace hst := hst.to [0,2,3] [_,_,_] [] rfl rfl
  obtain ⟨e8,he8,h⟩ := bind_some h
  have hJp23 : ∀ (p23 : Unit) a w,(.inl p23) = e8 → St M w0 46 [(1,tsl rSref13_Limit l_)] [] a w → K5 a w := by
   intro p23 a w he hst
   subst he
   simp only at h
   refine hK5 _ _ ?_
   try clear hK5 K5
   refine wp_seq_k (fun K25 hK25 => ?_)
   refine sr mixed [] hst (fun _ => .q 0 rfl <| .o (op_len ud36 z0) <| .o (op_gtr z0 .k) <| .n) fun n8 a w hst => ?_
   replace hst := hst.to [2,3] [_,_] [] rfl rfl
   refine wt hst (fun b64 => ?_) (fun b64 => ?_)
   ·replace h := ite_t b64 h
    refine sr mixed [] hst (fun _ => .o (op_assign (.nilsl (R := rI))) <| .o (op_assign .k) <| .n) fun n9 a w hst => ?_
    replace hst := hst.to [0,1] [_,_] [] rfl rfl
    refine wp_ret ?_
    obtain rfl := sj h
    exact ret_st undef [] hpl hst rfl (.tmp z0 (.tmp z1 .nil)) rfl rfl rfl
   ·replace h := ite_f b64 h
    refine wp_skip ?_
    refine hK25 _ _ ?_
    try clear hK25 K25
    refine wp_seq_k (fun K28 hK28 => ?_)
    obtain ⟨t32,ht32,h⟩ := bind_some h
    refine sr mixed [] hst (fun _ => .q 1 rfl <| .o (op_callF call60 (ref13_Kept_ok ht32) (.cons (.of z0) <| .nil)) <| .n) fun n10 a w hst => ?_
    replace hst := hst.to [1,3] [_,_] [] rfl rfl
    refine wt hst (fun b63 => ?_) (fun b63 => ?_)
    ·replace h := ite_t b63 h
     refine sr mixed [] hst (fun _ => .o (op_assign (.nilsl (R := rI))) <| .o (op_assign .k) <| .n) fun n11 a w hst => ?_
     replace hst := hst.to [0,1] [_,_] [] rfl rfl
     refine wp_ret ?_
     obtain rfl := sj h
     exact ret_st undef [] hpl hst rfl (.tmp z0 (.tmp z1 .nil)) rfl rfl rfl
    ·replace h := ite_f b63 h
     refine wp_skip ?_
     refine hK28 _ _ ?_
     try clear hK28 K28
     refine wp_seq_k (fun K31 hK31 => ?_)
     refine sr mixed [] hst (fun _ => .o (op_assign .k) <| .n) fun n12 a w hst => ?_
     replace hst := hst.to [0,2] [_,_] [] rfl rfl
     obtain ⟨e34,he34,h⟩ := bind_some h
     have hJp51 : ∀ (p51 : Unit) a w,(.inl p51) = e34 → St M w0 46 [] [] a w → K31 a w := by
      intro p51 a w he hst
      subst he
      simp only at h
      refine hK31 _ _ ?_
      try clear hK31 K31
      refine sr mixed [] hst (fun _ => .o (op_assign (.nilsl (R := rI))) <| .o (op_assign .k) <| .n) fun n18 a w hst => ?_
      replace hst := hst.to [0,1] [_,_] [] rfl rfl
      refine wp_ret ?_
      obtain rfl := sj h
      exact ret_st undef [] hpl hst rfl (.tmp z0 (.tmp z1 .nil)) rfl rfl rfl
     have hJp52 : ∀ (p52 : (List Int) × Int) a w,(.inr p52) = e34 → St M w0 46 [(4,tsl rI p52.1),(5,ti p52.2)] [] a w → Ret Tryz.prog Tryz.f29 M0 [] w0 (fun _ => []) (fun _ => ttup [tsl rI r.1,ti r.2]) .ret a w := by
      intro p52 a w he hst
      subst he
      simp only at h
      obtain rfl := sj h
      exact ret_st undef [] hpl hst rfl (.tmp z0 (.tmp z1 .nil)) rfl rfl rfl
     refine wp_block ?_
     refine wp_loopK _ (fun (s33 : Int) a w => St M w0 46 [(7,ti s33),(1,tsl rSref13_Limit l_)] [] a w) _ _ he34 (hst.pick [0,1]) ?_
     clear h
     intro s33 o a w K54 hI h ho hK54
     have hst := hI
     clear hI
     refine wp_seq_k (fun K55 hK55 => ?_)
     refine sr mixed [] hst (fun _ => .q 0 rfl <| .q 2 rfl <| .o (op_len ud36 z0) <| .o (op_leq z2 z0) <| .n) fun n13 a w hst => ?_
     replace hst := hst.to [3,4,5] [_,_,_] [] rfl rfl
     refine wt hst (fun b62 => ?_) (fun b62 => ?_)
     ·replace h := ite_t b62 h
      refine wp_skip ?_
      refine hK55 _ _ ?_
      try clear hK55 K55
      refine wp_seq_k (fun K57 hK57 => ?_)
      refine wp_block ?_
      obtain ⟨t41,ht41,h⟩ := bind_some h
      refine sr mixed [] hst (fun _ => .q 2 rfl <| .q 2 rfl <| .o (op_callF call61 (ref13_first_ok ht41) (.cons (.of z1) <| .cons (.of .nilsl) <| .cons (.of .k) <| .cons (.of z0) <| .nil)) <| .o (op_assign z0) <| .n) fun n15 a w hst => ?_
      replace hst := hst.to [3,5,6] [_,_,_] [] rfl rfl
      refine sr mixed [] hst (fun _ => .q 0 rfl <| .o (op_len ud22 z0) <| .o (op_gtr z0 .k) <| .n) fun n16 a w hst => ?_
      replace hst := hst.to [2,3,4,5] [_,_,_,_] [] rfl rfl
      refine wt hst (fun b61 => ?_) (fun b61 => ?_)
      ·replace h := ite_t b61 h
       refine sr mixed [] hst (fun _ => .q 1 rfl <| .o (op_assign z0) <| .o (op_assign .k) <| .n) fun n17 a w hst => ?_
       replace hst := hst.to [1,2] [_,_] [] rfl rfl
       refine wp_ret ?_
       exact hJp52 _ _ _ (ho _ (sj h).symm) (hst.pick [0,1])
      ·replace h := ite_f b61 h
       refine wp_skip ?_
       refine hK57 _ _ ?_
       try clear hK57 K57
       refine wr mixed [] hst (fun _ => .q 2 rfl <| .o (op_add z0 .k) <| .o (op_assign z0) <| .n) fun n14 a w hst => ?_
       replace hst := hst.to [2,5] [_,_] [] rfl rfl
       exact hK54 _ _ _ (sj h).symm (hst.pick [0,1])
     ·replace h := ite_f b62 h
      refine wp_exit ?_
      exact hJp51 _ _ _ (ho _ (sj h).symm) (hst.pick [])
  have hJp24 : ∀ (p24 : (List Int) × Int) a w,(.inr p24) = e8 → St M w0 46 [(4,tsl rI p24.1),(5,ti p24.2)] [] a w → Ret Tryz.prog Tryz.f29 M0 [] w0 (fun _ => []) (fun _ => ttup [tsl rI r.1,ti r.2]) .ret a w := by
   intro p24 a w he hst
   subst he
   simp only at h
   obtain rfl := sj h
   exact ret_st undef [] hpl hst rfl (.tmp z0 (.tmp z1 .nil)) rfl rfl rfl
  refine wp_block ?_
  refine wp_loopK _ (fun (s7 : Int) a w => St M w0 46 [(6,ti s7),(0,ti n_),(1,tsl rSref13_Limit l_)] [] a w) _ _ he8 (hst.pick [0,1,2]) ?_
  clear h
  intro s7 o a w K65 hI h ho hK65
  have hst := hI
  clear hI
  refine wp_seq_k (fun K66 hK66 => ?_)
  refine sr mixed [] hst (fun _ => .q 0 rfl <| .q 3 rfl <| .o (op_len ud36 z0) <| .o (op_lss z2 z0) <| .n) fun n4 a w hst => ?_
  replace hst := hst.to [3,4,5,6] [_,_,_,_] [] rfl rfl
  refine wt hst (fun b72 => ?_) (fun b72 => ?_)
  ·replace h := ite_t b72 h
   refine wp_skip ?_
   refine hK66 _ _ ?_
   try clear hK66 K66
   refine wp_seq_k (fun K68 hK68 => ?_)
   refine wp_block ?_
   obtain ⟨t23,ht23,h⟩ := bind_some h
   obtain ⟨t26,ht26,h⟩ := bind_some h
   refine sr mixed [] hst (fun _ => .q 3 rfl <| .q 2 rfl <| .o (op_index ud36 tok41 z1 z0 ht23) <| .o (op_load tok41 z0) <| .q 6 rfl <| .o (op_callF call47 (ref13_Valid_ok ht26) (.cons (.of z1) <| .cons (.of z0) <| .nil)) <| .o (op_not z0) <| .n) fun n6 a w hst => ?_
   replace hst := hst.to [6,8,9,10] [_,_,_,_] [] rfl rfl
   refine wt hst (fun b71 => ?_) (fun b71 => ?_)
   ·replace h := ite_t b71 h
    refine sr mixed [] hst (fun _ => .o (op_assign (.nilsl (R := rI))) <| .o (op_assign .k) <| .n) fun n7 a w hst => ?_
    replace hst := hst.to [0,1] [_,_] [] rfl rfl
    refine wp_ret ?_
    exact hJp24 _ _ _ (ho _ (sj h).symm) (hst.pick [0,1])
   ·replace h := ite_f b71 h
    refine wp_skip ?_
    refine hK68 _ _ ?_
    try clear hK68 K68
    refine wr mixed [] hst (fun _ => .q 1 rfl <| .o (op_add z0 .k) <| .o (op_assign z0) <| .n) fun n5 a w hst => ?_
    replace hst := hst.to [2,4,5] [_,_,_] [] rfl rfl
    exact hK65 _ _ _ (sj h).symm (hst.pick [0,1,2])
  ·replace h := ite_f b72 h
   refine wp_exit ?_
   exact hJp23 _ _ _ (ho _ (sj h).symm) (hst.pick [3])

/- diorama/dioramaref01.SameInts -/
noncomputable def fref01_SameInts (a_ : (List Int)) (b_ : (List Int)) : Option (Bool) := (if ((a_.length : Int) != (b_.length : Int)) = true then (some false) else (tailrec (fun (s7 : Int) => ((if (decide (s7 < (a_.length : Int))) = true then (idx a_ s7).bind fun t19 => (idx b_ s7).bind fun t23 => (if (t19 != t23) = true then (some (.inr (.inr false))) else (some (.inl (IntKind.i64.wrap (s7 + (1:Int)))))) else (some (.inr (.inl ())))) : Option ((Int) ⊕ ((Unit) ⊕ (Bool))))) (0:Int)).bind fun (e8 : (Unit) ⊕ (Bool)) => (match e8 with | .inl _ => (some true) | .inr p24 => (some p24)))
set_option maxRecDepth 100000 in
set_option maxHeartbeats 4000000 in
theorem ref01_SameInts_ok {a_ : (List Int)} {b_ : (List Int)} {r : Bool} (h : fref01_SameInts a_ b_ = some r) : FnOk Tryz.prog 25 [tsl rI a_,tsl rI b_] [] (fun _ => []) (fun _ => tb r) := by
 unfold fref01_SameInts at h
 refine FnOk.enter Tryz.func25 rfl Tryz.ntmps25 (leb rfl) (fun M0 M w0 a hpl hst => ?_)
 replace hst : St M w0 26 [(0,tsl rI a_),(1,tsl rI b_)] [] a w0 := hst
 refine sr mixed [] hst (fun _ => .o (op_assign .k) <| .n) fun n0 a w hst => ?_
 replace hst := hst.to [1,2] [_,_] [] rfl rfl
 refine wp_seq_k (fun K2 hK2 => ?_)
 refine sr mixed [] hst (fun _ => .q 0 rfl <| .o (op_len ud22 z0) <| .q 3 rfl <| .o (op_len ud22 z0) <| .o (op_neq z2 z0) <| .n) fun n1 a w hst => ?_
 replace hst := hst.to [4,5,6] [_,_,_] [] rfl rfl
 refine wt hst (fun b34 => ?_) (fun b34 => ?_)
 ·replace h := ite_t b34 h
  refine sr mixed [] hst (fun _ => .o (op_assign .k) <| .n) fun n2 a w hst => ?_
  replace hst := hst.to [0] [_] [] rfl rfl
  refine wp_ret ?_
  obtain rfl := sj h
  exact ret_st undef [] hpl hst rfl (.tmp z0 .nil) rfl rfl rfl
 ·replace h := ite_f b34 h
  refine wp_skip ?_
  refine hK2 _ _ ?_
  try clear hK2 K2
  refine wp_seq_k (fun K5 hK5 => ?_)
  refine sr mixed [] hst (fun _ => .o (op_assign .k) <| .n) fun n3 a w hst => ?_
  replace hst := hst.to [0,2,3] [_,_,_] [] rfl rfl
  obtain ⟨e8,he8,h⟩ := bind_some h
  have hJp23 : ∀ (p23 : Unit) a w,(.inl p23) = e8 → St M w0 26 [] [] a w → K5 a w := by
   intro p23 a w he hst
   subst he
   simp only at h
   refine hK5 _ _ ?_
   try clear hK5 K5
   refine sr mixed [] hst (fun _ => .o (op_assign .k) <| .n) fun n8 a w hst => ?_
   replace hst := hst.to [0] [_] [] rfl rfl
   refine wp_ret ?_
   obtain rfl := sj h
   exact ret_st undef [] hpl hst rfl (.tmp z0 .nil) rfl rfl rfl
  have hJp24 : ∀ (p24 : Bool) a w,(.inr p24) = e8 → St M w0 26 [(4,tb p24)] [] a w → Ret Tryz.prog Tryz.f25 M0 [] w0 (fun _ => []) (fun _ => tb r) .ret a w := by
   intro p24 a w he hst
   subst he
   simp only at h
   obtain rfl := sj h
   exact ret_st undef [] hpl hst rfl (.tmp z0 .nil) rfl rfl rfl
  refine wp_block ?_
  refine wp_loopK _ (fun (s7 : Int) a w => St M w0 26 [(5,ti s7),(0,tsl rI a_),(1,tsl rI b_)] [] a w) _ _ he8 (hst.pick [0,1,2]) ?_
  clear h
  intro s7 o a w K26 hI h ho hK26
  have hst := hI
  clear hI
  refine wp_seq_k (fun K27 hK27 => ?_)
  refine sr mixed [] hst (fun _ => .q 0 rfl <| .q 2 rfl <| .o (op_len ud22 z0) <| .o (op_lss z2 z0) <| .n) fun n4 a w hst => ?_
  replace hst := hst.to [3,4,5,6] [_,_,_,_] [] rfl rfl
  refine wt hst (fun b33 => ?_) (fun b33 => ?_)
  ·replace h := ite_t b33 h
   refine wp_skip ?_
   refine hK27 _ _ ?_
   try clear hK27 K27
   refine wp_seq_k (fun K29 hK29 => ?_)
   refine wp_block ?_
   obtain ⟨t19,ht19,h⟩ := bind_some h
   obtain ⟨t23,ht23,h⟩ := bind_some h
   refine sr mixed [] hst (fun _ => .q 2 rfl <| .q 2 rfl <| .o (op_index ud22 tok3 z1 z0 ht19) <| .o (op_load tok3 z0) <| .q 7 rfl <| .q 6 rfl <| .o (op_index ud22 tok3 z1 z0 ht23) <| .o (op_load tok3 z0) <| .o (op_neq z4 z0) <| .n) fun n6 a w hst => ?_
   replace hst := hst.to [8,10,11,12] [_,_,_,_] [] rfl rfl
   refine wt hst (fun b32 => ?_) (fun b32 => ?_)
   ·replace h := ite_t b32 h
    refine sr mixed [] hst (fun _ => .o (op_assign .k) <| .n) fun n7 a w hst => ?_
    replace hst := hst.to [0] [_] [] rfl rfl
    refine wp_ret ?_
    exact hJp24 _ _ _ (ho _ (sj h).symm) (hst.pick [0])
   ·replace h := ite_f b32 h
    refine wp_skip ?_
    refine hK29 _ _ ?_
    try clear hK29 K29
    refine wr mixed [] hst (fun _ => .q 1 rfl <| .o (op_add z0 .k) <| .o (op_assign z0) <| .n) fun n5 a w hst => ?_
    replace hst := hst.to [2,4,5] [_,_,_] [] rfl rfl
    exact hK26 _ _ _ (sj h).symm (hst.pick [0,1,2])
  ·replace h := ite_f b33 h
   refine wp_exit ?_
   exact hJp23 _ _ _ (ho _ (sj h).symm) (hst.pick [])

/- diorama/dioramalaw13.example -/
noncomputable def flaw13_example (least_ : Int) : Option (Sapi_Schema) := (some (Sapi_Schema.mk (0:Int) [(Sapi_Kind.mk ([97] : Str) (1:Int) (2:Int) [(Sapi_Field.mk ([105,100] : Str) ([] : Str) ([] : Str) (0:Int) (0:Int) (0:Int) ([] : (List Str)) ([] : (List Int)))]),(Sapi_Kind.mk ([98] : Str) least_ (9:Int) [(Sapi_Field.mk ([105,100] : Str) ([] : Str) ([] : Str) (0:Int) (0:Int) (0:Int) ([] : (List Str)) ([] : (List Int))),(Sapi_Field.mk ([111,102] : Str) ([97] : Str) ([] : Str) (1:Int) (0:Int) (4:Int) ([] : (List Str)) ([] : (List Int)))])] ([] : (List Sapi_Life)) ([] : (List Sapi_Rule))))
set_option maxRecDepth 100000 in
set_option maxHeartbeats 4000000 in
theorem law13_example_ok {least_ : Int} {r : Sapi_Schema} (h : flaw13_example least_ = some r) : FnOk Tryz.prog 26 [ti least_] [] (fun _ => []) (fun _ => rSapi_Schema.ty r) := by
 unfold flaw13_example at h
 refine FnOk.enter Tryz.func26 rfl Tryz.ntmps26 (leb rfl) (fun M0 M w0 a hpl hst => ?_)
 replace hst : St M w0 17 [(0,ti least_)] [] a w0 := hst
 refine sr mixed [v1 0 (fun v0 => box (rSapi_Schema.cs (Sapi_Schema.mk (0:Int) ([] : (List Sapi_Kind)) ([] : (List Sapi_Life)) ([] : (List Sapi_Rule)))) v0)] hst (fun _ => .m [] [0] rfl rfl rfl (op_alloc (R := rSapi_Schema) (a := (Sapi_Schema.mk (0:Int) ([] : (List Sapi_Kind)) ([] : (List Sapi_Life)) ([] : (List Sapi_Rule)))) tok27 zok27) <| .n) fun n0 a w hst => ?_
 replace hst := hst.to [0,1] [_,_] [_] rfl rfl
 refine sr mixed [v1 3 (fun v0 => box (rSapi_Kind.cs zz1) v0),v1 3 (fun v0 => box (rSapi_Kind.cs (Sapi_Kind.mk ([97] : Str) (1:Int) (2:Int) [(Sapi_Field.mk ([105,100] : Str) ([] : Str) ([] : Str) (0:Int) (0:Int) (0:Int) ([] : (List Str)) ([] : (List Int)))])) v0)] hst (fun _ => .p (T := rSapi_Field.ty (Sapi_Field.mk ([105,100] : Str) ([] : Str) ([] : Str) (0:Int) (0:Int) (0:Int) ([] : (List Str)) ([] : (List Int)))) rfl (op_build ud61 pl61 zv61 zc61 (.cons (R := rS) (u := ([105,100] : Str)) rfl .k (leb rfl) <| .nil _)) <| .o (op_buildSl (R := rSapi_Field) (us := [(Sapi_Field.mk ([105,100] : Str) ([] : Str) ([] : Str) (0:Int) (0:Int) (0:Int) ([] : (List Str)) ([] : (List Int)))]) ud53 tok61 (.cons z0 <| .nil _) rfl (leb rfl)) <| .p (T := rSapi_Kind.ty (Sapi_Kind.mk ([97] : Str) (1:Int) (2:Int) [(Sapi_Field.mk ([105,100] : Str) ([] : Str) ([] : Str) (0:Int) (0:Int) (0:Int) ([] : (List Str)) ([] : (List Int)))])) rfl (op_build Tryz.underlying55 pl55 zv55 zc55 (.cons (R := rS) (u := ([97] : Str)) rfl .k (leb rfl) <| .cons (R := rI) (u := (1:Int)) rfl .k (leb rfl) <| .cons (R := rI) (u := (2:Int)) rfl .k (leb rfl) <| .cons (R := (rSl rSapi_Field)) (u := [(Sapi_Field.mk ([105,100] : Str) ([] : Str) ([] : Str) (0:Int) (0:Int) (0:Int) ([] : (List Str)) ([] : (List Int)))]) rfl z0 (leb rfl) <| .nil _)) <| .m [] [1] rfl rfl rfl (op_alloc (R := rSapi_Kind) (a := zz1) tok55 zok55) <| .e [] [1] [2] rfl rfl rfl rfl (op_storeB (R := rSapi_Kind) (a := (Sapi_Kind.mk ([97] : Str) (1:Int) (2:Int) [(Sapi_Field.mk ([105,100] : Str) ([] : Str) ([] : Str) (0:Int) (0:Int) (0:Int) ([] : (List Str)) ([] : (List Int)))])) tok55 z0 z1 (leb rfl)) <| .n) fun n1 a w hst => ?_
 replace hst : St _ _ _ [_,_,_] [_] _ _ := ((((hst.pick [3,4,5]).selA [1,0] rfl).shareB 0 rfl).add 0 rfl (fun _ _ _ h => h.2)).pick [0,3,4]
 refine sr mixed [v1 5 (fun v0 => box (rSapi_Kind.cs zz1) v0),v1 5 (fun v0 => box (rSapi_Kind.cs (Sapi_Kind.mk ([98] : Str) least_ (9:Int) [(Sapi_Field.mk ([105,100] : Str) ([] : Str) ([] : Str) (0:Int) (0:Int) (0:Int) ([] : (List Str)) ([] : (List Int))),(Sapi_Field.mk ([111,102] : Str) ([97] : Str) ([] : Str) (1:Int) (0:Int) (4:Int) ([] : (List Str)) ([] : (List Int)))])) v0)] hst (fun _ => .q 2 rfl <| .p (T := rSapi_Field.ty (Sapi_Field.mk ([105,100] : Str) ([] : Str) ([] : Str) (0:Int) (0:Int) (0:Int) ([] : (List Str)) ([] : (List Int)))) rfl (op_build ud61 pl61 zv61 zc61 (.cons (R := rS) (u := ([105,100] : Str)) rfl .k (leb rfl) <| .nil _)) <| .p (T := rSapi_Field.ty (Sapi_Field.mk ([111,102] : Str) ([97] : Str) ([] : Str) (1:Int) (0:Int) (4:Int) ([] : (List Str)) ([] : (List Int)))) rfl (op_build ud61 pl61 zv61 zc61 (.cons (R := rS) (u := ([111,102] : Str)) rfl .k (leb rfl) <| .cons (R := rI) (u := (1:Int)) rfl .k (leb rfl) <| .cons (R := rS) (u := ([97] : Str)) rfl .k (leb rfl) <| .cons (R := rI) (u := (4:Int)) rfl .k (leb rfl) <| .nil _)) <| .o (op_buildSl (R := rSapi_Field) (us := [(Sapi_Field.mk ([105,100] : Str) ([] : Str) ([] : Str) (0:Int) (0:Int) (0:Int) ([] : (List Str)) ([] : (List Int))),(Sapi_Field.mk ([111,102] : Str) ([97] : Str) ([] : Str) (1:Int) (0:Int) (4:Int) ([] : (List Str)) ([] : (List Int)))]) ud53 tok61 (.cons z1 <| .cons z0 <| .nil _) rfl (leb rfl)) <| .p (T := rSapi_Kind.ty (Sapi_Kind.mk ([98] : Str) least_ (9:Int) [(Sapi_Field.mk ([105,100] : Str) ([] : Str) ([] : Str) (0:Int) (0:Int) (0:Int) ([] : (List Str)) ([] : (List Int))),(Sapi_Field.mk ([111,102] : Str) ([97] : Str) ([] : Str) (1:Int) (0:Int) (4:Int) ([] : (List Str)) ([] : (List Int)))])) rfl (op_build Tryz.underlying55 pl55 zv55 zc55 (.cons (R := rS) (u := ([98] : Str)) rfl .k (leb rfl) <| .cons (R := rI) (u := least_) rfl z3 (leb rfl) <| .cons (R := rI) (u := (9:Int)) rfl .k (leb rfl) <| .cons (R := (rSl rSapi_Field)) (u := [(Sapi_Field.mk ([105,100] : Str) ([] : Str) ([] : Str) (0:Int) (0:Int) (0:Int) ([] : (List Str)) ([] : (List Int))),(Sapi_Field.mk ([111,102] : Str) ([97] : Str) ([] : Str) (1:Int) (0:Int) (4:Int) ([] : (List Str)) ([] : (List Int)))]) rfl z0 (leb rfl) <| .nil _)) <| .m [] [1] rfl rfl rfl (op_alloc (R := rSapi_Kind) (a := zz1) tok55 zok55) <| .e [] [1] [2] rfl rfl rfl rfl (op_storeB (R := rSapi_Kind) (a := (Sapi_Kind.mk ([98] : Str) least_ (9:Int) [(Sapi_Field.mk ([105,100] : Str) ([] : Str) ([] : Str) (0:Int) (0:Int) (0:Int) ([] : (List Str)) ([] : (List Int))),(Sapi_Field.mk ([111,102] : Str) ([97] : Str) ([] : Str) (1:Int) (0:Int) (4:Int) ([] : (List Str)) ([] : (List Int)))])) tok55 z0 z1 (leb rfl)) <| .n) fun n2 a w hst => ?_
 replace hst : St _ _ _ [_,_,_] [_] _ _ := ((((hst.pick [5,6,7]).selA [1,0] rfl).shareB 0 rfl).add 0 rfl (fun _ _ _ h => h.2)).pick [0,3,4]
 refine sr mixed [v0 (box (rSapi_Schema.cs (Sapi_Schema.mk (0:Int) [(Sapi_Kind.mk ([97] : Str) (1:Int) (2:Int) [(Sapi_Field.mk ([105,100] : Str) ([] : Str) ([] : Str) (0:Int) (0:Int) (0:Int) ([] : (List Str)) ([] : (List Int)))]),(Sapi_Kind.mk ([98] : Str) least_ (9:Int) [(Sapi_Field.mk ([105,100] : Str) ([] : Str) ([] : Str) (0:Int) (0:Int) (0:Int) ([] : (List Str)) ([] : (List Int))),(Sapi_Field.mk ([111,102] : Str) ([97] : Str) ([] : Str) (1:Int) (0:Int) (4:Int) ([] : (List Str)) ([] : (List Int)))])] ([] : (List Sapi_Life)) ([] : (List Sapi_Rule)))) (n0 0))] hst (fun _ => .o (op_load tok55 z1) <| .o (op_load tok55 z1) <| .o (op_buildSl (R := rSapi_Kind) (us := [(Sapi_Kind.mk ([97] : Str) (1:Int) (2:Int) [(Sapi_Field.mk ([105,100] : Str) ([] : Str) ([] : Str) (0:Int) (0:Int) (0:Int) ([] : (List Str)) ([] : (List Int)))]),(Sapi_Kind.mk ([98] : Str) least_ (9:Int) [(Sapi_Field.mk ([105,100] : Str) ([] : Str) ([] : Str) (0:Int) (0:Int) (0:Int) ([] : (List Str)) ([] : (List Int))),(Sapi_Field.mk ([111,102] : Str) ([97] : Str) ([] : Str) (1:Int) (0:Int) (4:Int) ([] : (List Str)) ([] : (List Int)))])]) ud23 tok55 (.cons z1 <| .cons z0 <| .nil _) rfl (leb rfl)) <| .p (T := rSapi_Schema.ty (Sapi_Schema.mk (0:Int) [(Sapi_Kind.mk ([97] : Str) (1:Int) (2:Int) [(Sapi_Field.mk ([105,100] : Str) ([] : Str) ([] : Str) (0:Int) (0:Int) (0:Int) ([] : (List Str)) ([] : (List Int)))]),(Sapi_Kind.mk ([98] : Str) least_ (9:Int) [(Sapi_Field.mk ([105,100] : Str) ([] : Str) ([] : Str) (0:Int) (0:Int) (0:Int) ([] : (List Str)) ([] : (List Int))),(Sapi_Field.mk ([111,102] : Str) ([97] : Str) ([] : Str) (1:Int) (0:Int) (4:Int) ([] : (List Str)) ([] : (List Int)))])] ([] : (List Sapi_Life)) ([] : (List Sapi_Rule)))) rfl (op_build Tryz.underlying27 pl27 zv27 zc27 (.cons (R := (rSl rSapi_Kind)) (u := [(Sapi_Kind.mk ([97] : Str) (1:Int) (2:Int) [(Sapi_Field.mk ([105,100] : Str) ([] : Str) ([] : Str) (0:Int) (0:Int) (0:Int) ([] : (List Str)) ([] : (List Int)))]),(Sapi_Kind.mk ([98] : Str) least_ (9:Int) [(Sapi_Field.mk ([105,100] : Str) ([] : Str) ([] : Str) (0:Int) (0:Int) (0:Int) ([] : (List Str)) ([] : (List Int))),(Sapi_Field.mk ([111,102] : Str) ([97] : Str) ([] : Str) (1:Int) (0:Int) (4:Int) ([] : (List Str)) ([] : (List Int)))])]) rfl z0 (leb rfl) <| .nil _)) <| .e [] [0] [1] rfl rfl rfl rfl (op_storeB (R := rSapi_Schema) (a := (Sapi_Schema.mk (0:Int) [(Sapi_Kind.mk ([97] : Str) (1:Int) (2:Int) [(Sapi_Field.mk ([105,100] : Str) ([] : Str) ([] : Str) (0:Int) (0:Int) (0:Int) ([] : (List Str)) ([] : (List Int)))]),(Sapi_Kind.mk ([98] : Str) least_ (9:Int) [(Sapi_Field.mk ([105,100] : Str) ([] : Str) ([] : Str) (0:Int) (0:Int) (0:Int) ([] : (List Str)) ([] : (List Int))),(Sapi_Field.mk ([111,102] : Str) ([97] : Str) ([] : Str) (1:Int) (0:Int) (4:Int) ([] : (List Str)) ([] : (List Int)))])] ([] : (List Sapi_Life)) ([] : (List Sapi_Rule)))) tok27 z6 z0 (leb rfl)) <| .n) fun n3 a w hst => ?_
 replace hst := hst.to [6] [_] [_] rfl rfl
 refine wp_ret ?_
 obtain rfl := sj h
 exact ret_st undef [] hpl hst rfl (.cell (R := rSapi_Schema) (u := (Sapi_Schema.mk (0:Int) [(Sapi_Kind.mk ([97] : Str) (1:Int) (2:Int) [(Sapi_Field.mk ([105,100] : Str) ([] : Str) ([] : Str) (0:Int) (0:Int) (0:Int) ([] : (List Str)) ([] : (List Int)))]),(Sapi_Kind.mk ([98] : Str) least_ (9:Int) [(Sapi_Field.mk ([105,100] : Str) ([] : Str) ([] : Str) (0:Int) (0:Int) (0:Int) ([] : (List Str)) ([] : (List Int))),(Sapi_Field.mk ([111,102] : Str) ([97] : Str) ([] : Str) (1:Int) (0:Int) (4:Int) ([] : (List Str)) ([] : (List Int)))])] ([] : (List Sapi_Life)) ([] : (List Sapi_Rule)))) tok27 z0 0 rfl rfl .nil) rfl rfl rfl

/- diorama/schema.within -/
noncomputable def fschema_within (n_ : Int) (least_ : Int) (most_ : Int) : Option (Bool) := (some ((decide (n_ ≥ least_)) && (decide (n_ ≤ most_))))
set_option maxRecDepth 100000 in
set_option maxHeartbeats 4000000 in
theorem schema_within_ok {n_ : Int} {least_ : Int} {most_ : Int} {r : Bool} (h : fschema_within n_ least_ most_ = some r) : FnOk Tryz.prog 97 [ti n_,ti least_,ti most_] [] (fun _ => []) (fun _ => tb r) := by
 unfold fschema_within at h
 refine FnOk.enter Tryz.func97 rfl Tryz.ntmps97 (leb rfl) (fun M0 M w0 a hpl hst => ?_)
 replace hst : St M w0 15 [(0,ti n_),(1,ti least_),(2,ti most_)] [] a w0 := hst
 refine sr mixed [] hst (fun _ => .o (op_assign .k) <| .n) fun n0 a w hst => ?_
 replace hst := hst.to [1,2,3] [_,_,_] [] rfl rfl
 refine sr mixed [] hst (fun _ => .q 0 rfl <| .q 2 rfl <| .o (op_geq z1 z0) <| .q 0 rfl <| .g rfl rfl (.b 0 rfl) (fun _ => op_move z4) <| .g rfl rfl (.b 1 rfl) (fun _ => op_move z7) <| .g rfl rfl (.b 2 rfl) (fun hc => op_leq (.cond z1 hc) (.cond z0 hc)) <| .o (op_and z3 (fun hp => (.cond z0 (beqT hp)))) <| .o (op_assign z0) <| .n) fun n1 a w hst => ?_
 replace hst := hst.to [8] [_] [] rfl rfl
 refine wp_ret ?_
 obtain rfl := sj h
 exact ret_st undef [] hpl hst rfl (.tmp z0 .nil) rfl rfl rfl

/- diorama/schema.all[diorama/api.Kind]$1 -/
noncomputable def fschema_all_Kindq1 (x_ : Sapi_Kind) (c0_ : (Sapi_Kind → Option Bool)) : Option (Bool) := (c0_ x_).bind fun t6 => (some (!t6))
set_option maxRecDepth 100000 in
set_option maxHeartbeats 4000000 in
theorem schema_all_Kindq1_ok {x_ : Sapi_Kind} {c0_ : (Sapi_Kind → Option Bool)} {r : Bool} (h : fschema_all_Kindq1 x_ c0_ = some r) : FnOk Tryz.prog 124 [rSapi_Kind.ty x_,tptr (rF138.cs c0_)] [] (fun _ => []) (fun _ => tb r) := by
 unfold fschema_all_Kindq1 at h
 refine FnOk.enter Tryz.func124 rfl Tryz.ntmps124 (leb rfl) (fun M0 M w0 a hpl hst => ?_)
 replace hst : St M w0 8 [(0,rSapi_Kind.ty x_),(1,tptr (rF138.cs c0_))] [] a w0 := hst
 refine sr mixed [] hst (fun _ => .o (op_boxR (R := rSapi_Kind) (u := x_) z0) <| .o (op_assign .k) <| .n) fun n0 a w hst => ?_
 replace hst := hst.to [0,3] [_,_] [] rfl rfl
 obtain ⟨t6,ht6,h⟩ := bind_some h
 refine sr mixed [] hst (fun _ => .o (op_load tok138 z1) <| .o (op_load tok55 z1) <| .o (op_callT (u := x_) z1 (.cons (.of z0) <| .nil) ht6) <| .o (op_not z0) <| .o (op_assign z0) <| .n) fun n1 a w hst => ?_
 replace hst := hst.to [4] [_] [] rfl rfl
 refine wp_ret ?_
 obtain rfl := sj h
 exact ret_st undef [] hpl hst rfl (.tmp z0 .nil) rfl rfl rfl

/- slices.IndexFunc[[]diorama/api.Kind,diorama/api.Kind] -/
noncomputable def fslices_IndexFunc_Kind (s_ : (List Sapi_Kind)) (f_ : (Sapi_Kind → Option Bool)) : Option (Int) := (tailrec (fun (s4 : Int) => ((if (decide (s4 < (s_.length : Int))) = true then (idx s_ s4).bind fun t14 => (f_ t14).bind fun t16 => (if t16 = true then (some (.inr (.inr s4))) else (some (.inl (IntKind.i64.wrap (s4 + (1:Int)))))) else (some (.inr (.inl ())))) : Option ((Int) ⊕ ((Unit) ⊕ (Int))))) (0:Int)).bind fun (e5 : (Unit) ⊕ (Int)) => (match e5 with | .inl _ => (some (-1:Int)) | .inr p23 => (some p23))
set_option maxRecDepth 100000 in
set_option maxHeartbeats 4000000 in
theorem slices_IndexFunc_Kind_ok {s_ : (List Sapi_Kind)} {f_ : (Sapi_Kind → Option Bool)} {r : Int} (h : fslices_IndexFunc_Kind s_ f_ = some r) : FnOk Tryz.prog 73 [tsl rSapi_Kind s_,rF138.ty f_] [] (fun _ => []) (fun _ => ti r) := by
 unfold fslices_IndexFunc_Kind at h
 refine FnOk.enter Tryz.func73 rfl Tryz.ntmps73 (leb rfl) (fun M0 M w0 a hpl hst => ?_)
 replace hst : St M w0 19 [(0,tsl rSapi_Kind s_),(1,rF138.ty f_)] [] a w0 := hst
 refine sr mixed [] hst (fun _ => .o (op_assign .k) <| .n) fun n0 a w hst => ?_
 replace hst := hst.to [1,2] [_,_] [] rfl rfl
 refine wp_seq_k (fun K2 hK2 => ?_)
 refine sr mixed [] hst (fun _ => .q 0 rfl <| .o (op_len ud23 z0) <| .o (op_move .k) <| .n) fun n1 a w hst => ?_
 replace hst := hst.to [1,2,3,4] [_,_,_,_] [] rfl rfl
 obtain ⟨e5,he5,h⟩ := bind_some h
 have hJp22 : ∀ (p22 : Unit) a w,(.inl p22) = e5 → St M w0 19 [] [] a w → K2 a w := by
  intro p22 a w he hst
  subst he
  simp only at h
  refine hK2 _ _ ?_
  try clear hK2 K2
  refine sr mixed [] hst (fun _ => .o (op_assign .k) <| .n) fun n7 a w hst => ?_
  replace hst := hst.to [0] [_] [] rfl rfl
  refine wp_ret ?_
  obtain rfl := sj h
  exact ret_st undef [] hpl hst rfl (.tmp z0 .nil) rfl rfl rfl
 have hJp23 : ∀ (p23 : Int) a w,(.inr p23) = e5 → St M w0 19 [(4,ti p23)] [] a w → Ret Tryz.prog Tryz.f73 M0 [] w0 (fun _ => []) (fun _ => ti r) .ret a w := by
  intro p23 a w he hst
  subst he
  simp only at h
  obtain rfl := sj h
  exact ret_st undef [] hpl hst rfl (.tmp z0 .nil) rfl rfl rfl
 refine wp_block ?_
 refine wp_loopK _ (fun (s4 : Int) a w => St M w0 19 [(7,ti (s_.length : Int)),(8,ti s4),(0,tsl rSapi_Kind s_),(1,rF138.ty f_)] [] a w) _ _ he5 (hst.pick [0,1,2,3]) ?_
 clear h
 intro s4 o a w K25 hI h ho hK25
 have hst := hI
 clear hI
 refine sr mixed [] hst (fun _ => .o (op_lss z1 z0) <| .n) fun n2 a w hst => ?_
 replace hst := hst.to [0,1,2,3,4] [_,_,_,_,_] [] rfl rfl
 refine wp_seq_k (fun K27 hK27 => ?_)
 refine wt hst (fun b33 => ?_) (fun b33 => ?_)
 ·replace h := ite_t b33 h
  refine wp_skip ?_
  refine hK27 _ _ ?_
  try clear hK27 K27
  refine wp_seq_k (fun K28 hK28 => ?_)
  refine wp_block ?_
  refine sr mixed [] hst (fun _ => .q 2 rfl <| .o (op_assign z0) <| .n) fun n3 a w hst => ?_
  replace hst := hst.to [1,3,4,5,6] [_,_,_,_,_] [] rfl rfl
  obtain ⟨t14,ht14,h⟩ := bind_some h
  obtain ⟨t16,ht16,h⟩ := bind_some h
  refine sr mixed [] hst (fun _ => .q 4 rfl <| .q 4 rfl <| .q 2 rfl <| .o (op_index ud23 tok55 z1 z0 ht14) <| .o (op_load tok55 z0) <| .o (op_callT (u := t14) z4 (.cons (.of z0) <| .nil) ht16) <| .n) fun n4 a w hst => ?_
  replace hst := hst.to [5,6,7,8,9,10] [_,_,_,_,_,_] [] rfl rfl
  refine wt hst (fun b32 => ?_) (fun b32 => ?_)
  ·replace h := ite_t b32 h
   refine sr mixed [] hst (fun _ => .q 1 rfl <| .o (op_assign z0) <| .n) fun n5 a w hst => ?_
   replace hst := hst.to [1] [_] [] rfl rfl
   refine wp_ret ?_
   exact hJp23 _ _ _ (ho _ (sj h).symm) (hst.pick [0])
  ·replace h := ite_f b32 h
   refine wp_skip ?_
   refine hK28 _ _ ?_
   try clear hK28 K28
   refine wr mixed [] hst (fun _ => .o (op_add z3 .k) <| .q 0 rfl <| .n) fun n6 a w hst => ?_
   replace hst := hst.to [1,4,5,6] [_,_,_,_] [] rfl rfl
   exact hK25 _ _ _ (sj h).symm (hst.pick [1,0,2,3])
 ·replace h := ite_f b33 h
  refine wp_exit ?_
  exact hJp22 _ _ _ (ho _ (sj h).symm) (hst.pick [])

/- slices.ContainsFunc[[]diorama/api.Kind,diorama/api.Kind] -/
noncomputable def fslices_ContainsFunc_Kind (s_ : (List Sapi_Kind)) (f_ : (Sapi_Kind → Option Bool)) : Option (Bool) := (fslices_IndexFunc_Kind s_ f_).bind fun t7 => (some (decide (t7 ≥ (0:Int))))
set_option maxRecDepth 100000 in
set_option maxHeartbeats 4000000 in
theorem slices_ContainsFunc_Kind_ok {s_ : (List Sapi_Kind)} {f_ : (Sapi_Kind → Option Bool)} {r : Bool} (h : fslices_ContainsFunc_Kind s_ f_ = some r) : FnOk Tryz.prog 123 [tsl rSapi_Kind s_,rF138.ty f_] [] (fun _ => []) (fun _ => tb r) := by
 unfold fslices_ContainsFunc_Kind at h
 refine FnOk.enter Tryz.func123 rfl Tryz.ntmps123 (leb rfl) (fun M0 M w0 a hpl hst => ?_)
 replace hst : St M w0 9 [(0,tsl rSapi_Kind s_),(1,rF138.ty f_)] [] a w0 := hst
 refine sr mixed [] hst (fun _ => .o (op_assign .k) <| .n) fun n0 a w hst => ?_
 replace hst := hst.to [1,2] [_,_] [] rfl rfl
 obtain ⟨t7,ht7,h⟩ := bind_some h
 refine sr mixed [] hst (fun _ => .q 0 rfl <| .q 2 rfl <| .o (op_callF call73 (slices_IndexFunc_Kind_ok ht7) (.cons (.of z1) <| .cons (.of z0) <| .nil)) <| .o (op_geq z0 .k) <| .o (op_assign z0) <| .n) fun n1 a w hst => ?_
 replace hst := hst.to [4] [_] [] rfl rfl
 refine wp_ret ?_
 obtain rfl := sj h
 exact ret_st undef [] hpl hst rfl (.tmp z0 .nil) rfl rfl rfl

/- diorama/schema.all[diorama/api.Kind] -/
noncomputable def fschema_all_Kind (l_ : (List Sapi_Kind)) (right_ : (Sapi_Kind → Option Bool)) : Option (Bool) := (fslices_ContainsFunc_Kind l_ (fun x0 => fschema_all_Kindq1 x0 right_)).bind fun t7 => (some (!t7))
set_option maxRecDepth 100000 in
set_option maxHeartbeats 4000000 in
theorem schema_all_Kind_ok {l_ : (List Sapi_Kind)} {right_ : (Sapi_Kind → Option Bool)} {r : Bool} (h : fschema_all_Kind l_ right_ = some r) : FnOk Tryz.prog 98 [tsl rSapi_Kind l_,rF138.ty right_] [] (fun _ => []) (fun _ => tb r) := by
 unfold fschema_all_Kind at h
 refine FnOk.enter Tryz.func98 rfl Tryz.ntmps98 (leb rfl) (fun M0 M w0 a hpl hst => ?_)
 replace hst : St M w0 9 [(0,tsl rSapi_Kind l_),(1,rF138.ty right_)] [] a w0 := hst
 refine sr mixed [] hst (fun _ => .o (op_boxR (R := rF138) (u := right_) z1) <| .o (op_assign .k) <| .n) fun n0 a w hst => ?_
 replace hst := hst.to [0,2] [_,_] [] rfl rfl
 obtain ⟨t7,ht7,h⟩ := bind_some h
 refine sr mixed [] hst (fun _ => .q 1 rfl <| .o (op_clo (.cons z1 <| .nil)) <| .o (op_callF call123 (slices_ContainsFunc_Kind_ok ht7) (.cons (.of z1) <| .cons (.of (Fct.weak z0 (tfn_of call124 (fun _ _ hq => schema_all_Kindq1_ok hq)))) <| .nil)) <| .o (op_not z0) <| .o (op_assign z0) <| .n) fun n1 a w hst => ?_
 replace hst := hst.to [4] [_] [] rfl rfl
 refine wp_ret ?_
 obtain rfl := sj h
 exact ret_st undef [] hpl hst rfl (.tmp z0 .nil) rfl rfl rfl

/- diorama/schema.isLetter -/
noncomputable def fschema_isLetter (c_ : Int) : Option (Bool) := (some ((decide (c_ ≥ (97:Int))) && (decide (c_ ≤ (122:Int)))))
set_option maxRecDepth 100000 in
set_option maxHeartbeats 4000000 in
theorem schema_isLetter_ok {c_ : Int} {r : Bool} (h : fschema_isLetter c_ = some r) : FnOk Tryz.prog 150 [tv (.int .u8 c_)] [] (fun _ => []) (fun _ => tb r) := by
 unfold fschema_isLetter at h
 refine FnOk.enter Tryz.func150 rfl Tryz.ntmps150 (leb rfl) (fun M0 M w0 a hpl hst => ?_)
 replace hst : St M w0 9 [(0,tv (.int .u8 c_))] [] a w0 := hst
 refine sr mixed [] hst (fun _ => .o (op_assign .k) <| .n) fun n0 a w hst => ?_
 replace hst := hst.to [1] [_] [] rfl rfl
 refine sr mixed [] hst (fun _ => .q 0 rfl <| .o (op_geq z0 .k) <| .q 0 rfl <| .g rfl rfl (.b 0 rfl) (fun _ => op_move z3) <| .g rfl rfl (.b 1 rfl) (fun hc => op_leq (.cond z0 hc) .k) <| .o (op_and z2 (fun hp => (.cond z0 (beqT hp)))) <| .o (op_assign z0) <| .n) fun n1 a w hst => ?_
 replace hst := hst.to [6] [_] [] rfl rfl
 refine wp_ret ?_
 obtain rfl := sj h
 exact ret_st undef [] hpl hst rfl (.tmp z0 .nil) rfl rfl rfl

/- slices.IndexFunc[[]byte,byte] -/
noncomputable def fslices_IndexFunc_byte (s_ : (List Int)) (f_ : (Int → Option Bool)) : Option (Int) := (tailrec (fun (s4 : Int) => ((if (decide (s4 < (s_.length : Int))) = true then (idx s_ s4).bind fun t14 => (f_ t14).bind fun t16 => (if t16 = true then (some (.inr (.inr s4))) else (some (.inl (IntKind.i64.wrap (s4 + (1:Int)))))) else (some (.inr (.inl ())))) : Option ((Int) ⊕ ((Unit) ⊕ (Int))))) (0:Int)).bind fun (e5 : (Unit) ⊕ (Int)) => (match e5 with | .inl _ => (some (-1:Int)) | .inr p23 => (some p23))
set_option maxRecDepth 100000 in
set_option maxHeartbeats 4000000 in
theorem slices_IndexFunc_byte_ok {s_ : (List Int)} {f_ : (Int → Option Bool)} {r : Int} (h : fslices_IndexFunc_byte s_ f_ = some r) : FnOk Tryz.prog 173 [tsl (rInt .u8) s_,rF203.ty f_] [] (fun _ => []) (fun _ => ti r) := by
 unfold fslices_IndexFunc_byte at h
 refine FnOk.enter Tryz.func173 rfl Tryz.ntmps173 (leb rfl) (fun M0 M w0 a hpl hst => ?_)
 replace hst : St M w0 19 [(0,tsl (rInt .u8) s_),(1,rF203.ty f_)] [] a w0 := hst
 refine sr mixed [] hst (fun _ => .o (op_assign .k) <| .n) fun n0 a w hst => ?_
 replace hst := hst.to [1,2] [_,_] [] rfl rfl
 refine wp_seq_k (fun K2 hK2 => ?_)
 refine sr mixed [] hst (fun _ => .q 0 rfl <| .o (op_len Tryz.underlying185 z0) <| .o (op_move .k) <| .n) fun n1 a w hst => ?_
 replace hst := hst.to [1,2,3,4] [_,_,_,_] [] rfl rfl
 obtain ⟨e5,he5,h⟩ := bind_some h
 have hJp22 : ∀ (p22 : Unit) a w,(.inl p22) = e5 → St M w0 19 [] [] a w → K2 a w := by
  intro p22 a w he hst
  subst he
  simp only at h
  refine hK2 _ _ ?_
  try clear hK2 K2
  refine sr mixed [] hst (fun _ => .o (op_assign .k) <| .n) fun n7 a w hst => ?_
  replace hst := hst.to [0] [_] [] rfl rfl
  refine wp_ret ?_
  obtain rfl := sj h
  exact ret_st undef [] hpl hst rfl (.tmp z0 .nil) rfl rfl rfl
 have hJp23 : ∀ (p23 : Int) a w,(.inr p23) = e5 → St M w0 19 [(4,ti p23)] [] a w → Ret Tryz.prog Tryz.f173 M0 [] w0 (fun _ => []) (fun _ => ti r) .ret a w := by
  intro p23 a w he hst
  subst he
  simp only at h
  obtain rfl := sj h
  exact ret_st undef [] hpl hst rfl (.tmp z0 .nil) rfl rfl rfl
 refine wp_block ?_
 refine wp_loopK _ (fun (s4 : Int) a w => St M w0 19 [(7,ti (s_.length : Int)),(8,ti s4),(0,tsl (rInt .u8) s_),(1,rF203.ty f_)] [] a w) _ _ he5 (hst.pick [0,1,2,3]) ?_
 clear h
 intro s4 o a w K25 hI h ho hK25
 have hst := hI
 clear hI
 refine sr mixed [] hst (fun _ => .o (op_lss z1 z0) <| .n) fun n2 a w hst => ?_
 replace hst := hst.to [0,1,2,3,4] [_,_,_,_,_] [] rfl rfl
 refine wp_seq_k (fun K27 hK27 => ?_)
 refine wt hst (fun b33 => ?_) (fun b33 => ?_)
 ·replace h := ite_t b33 h
  refine wp_skip ?_
  refine hK27 _ _ ?_
  try clear hK27 K27
  refine wp_seq_k (fun K28 hK28 => ?_)
  refine wp_block ?_
  refine sr mixed [] hst (fun _ => .q 2 rfl <| .o (op_assign z0) <| .n) fun n3 a w hst => ?_
  replace hst := hst.to [1,3,4,5,6] [_,_,_,_,_] [] rfl rfl
  obtain ⟨t14,ht14,h⟩ := bind_some h
  obtain ⟨t16,ht16,h⟩ := bind_some h
  refine sr mixed [] hst (fun _ => .q 4 rfl <| .q 4 rfl <| .q 2 rfl <| .o (op_index Tryz.underlying185 tok5 z1 z0 ht14) <| .o (op_load tok5 z0) <| .o (op_callT (u := t14) z4 (.cons (.of z0) <| .nil) ht16) <| .n) fun n4 a w hst => ?_
  replace hst := hst.to [5,6,7,8,9,10] [_,_,_,_,_,_] [] rfl rfl
  refine wt hst (fun b32 => ?_) (fun b32 => ?_)
  ·replace h := ite_t b32 h
   refine sr mixed [] hst (fun _ => .q 1 rfl <| .o (op_assign z0) <| .n) fun n5 a w hst => ?_
   replace hst := hst.to [1] [_] [] rfl rfl
   refine wp_ret ?_
   exact hJp23 _ _ _ (ho _ (sj h).symm) (hst.pick [0])
  ·replace h := ite_f b32 h
   refine wp_skip ?_
   refine hK28 _ _ ?_
   try clear hK28 K28
   refine wr mixed [] hst (fun _ => .o (op_add z3 .k) <| .q 0 rfl <| .n) fun n6 a w hst => ?_
   replace hst := hst.to [1,4,5,6] [_,_,_,_] [] rfl rfl
   exact hK25 _ _ _ (sj h).symm (hst.pick [1,0,2,3])
 ·replace h := ite_f b33 h
  refine wp_exit ?_
  exact hJp22 _ _ _ (ho _ (sj h).symm) (hst.pick [])

/- slices.ContainsFunc[[]byte,byte] -/
noncomputable def fslices_ContainsFunc_byte (s_ : (List Int)) (f_ : (Int → Option Bool)) : Option (Bool) := (fslices_IndexFunc_byte s_ f_).bind fun t7 => (some (decide (t7 ≥ (0:Int))))
set_option maxRecDepth 100000 in
set_option maxHeartbeats 4000000 in
theorem slices_ContainsFunc_byte_ok {s_ : (List Int)} {f_ : (Int → Option Bool)} {r : Bool} (h : fslices_ContainsFunc_byte s_ f_ = some r) : FnOk Tryz.prog 151 [tsl (rInt .u8) s_,rF203.ty f_] [] (fun _ => []) (fun _ => tb r) := by
 unfold fslices_ContainsFunc_byte at h
 refine FnOk.enter Tryz.func151 rfl Tryz.ntmps151 (leb rfl) (fun M0 M w0 a hpl hst => ?_)
 replace hst : St M w0 9 [(0,tsl (rInt .u8) s_),(1,rF203.ty f_)] [] a w0 := hst
 refine sr mixed [] hst (fun _ => .o (op_assign .k) <| .n) fun n0 a w hst => ?_
 replace hst := hst.to [1,2] [_,_] [] rfl rfl
 obtain ⟨t7,ht7,h⟩ := bind_some h
 refine sr mixed [] hst (fun _ => .q 0 rfl <| .q 2 rfl <| .o (op_callF call173 (slices_IndexFunc_byte_ok ht7) (.cons (.of z1) <| .cons (.of z0) <| .nil)) <| .o (op_geq z0 .k) <| .o (op_assign z0) <| .n) fun n1 a w hst => ?_
 replace hst := hst.to [4] [_] [] rfl rfl
 refine wp_ret ?_
 obtain rfl := sj h
 exact ret_st undef [] hpl hst rfl (.tmp z0 .nil) rfl rfl rfl

/- diorama/schema.isDigit -/
noncomputable def fschema_isDigit (c_ : Int) : Option (Bool) := (some ((decide (c_ ≥ (48:Int))) && (decide (c_ ≤ (57:Int)))))
set_option maxRecDepth 100000 in
set_option maxHeartbeats 4000000 in
theorem schema_isDigit_ok {c_ : Int} {r : Bool} (h : fschema_isDigit c_ = some r) : FnOk Tryz.prog 153 [tv (.int .u8 c_)] [] (fun _ => []) (fun _ => tb r) := by
 unfold fschema_isDigit at h
 refine FnOk.enter Tryz.func153 rfl Tryz.ntmps153 (leb rfl) (fun M0 M w0 a hpl hst => ?_)
 replace hst : St M w0 9 [(0,tv (.int .u8 c_))] [] a w0 := hst
 refine sr mixed [] hst (fun _ => .o (op_assign .k) <| .n) fun n0 a w hst => ?_
 replace hst := hst.to [1] [_] [] rfl rfl
 refine sr mixed [] hst (fun _ => .q 0 rfl <| .o (op_geq z0 .k) <| .q 0 rfl <| .g rfl rfl (.b 0 rfl) (fun _ => op_move z3) <| .g rfl rfl (.b 1 rfl) (fun hc => op_leq (.cond z0 hc) .k) <| .o (op_and z2 (fun hp => (.cond z0 (beqT hp)))) <| .o (op_assign z0) <| .n) fun n1 a w hst => ?_
 replace hst := hst.to [6] [_] [] rfl rfl
 refine wp_ret ?_
 obtain rfl := sj h
 exact ret_st undef [] hpl hst rfl (.tmp z0 .nil) rfl rfl rfl

/- diorama/schema.isName$1 -/
noncomputable def fschema_isNameq1 (c_ : Int) : Option (Bool) := (fschema_isLetter c_).bind fun t4 => (opt ((!t4) == true) (fschema_isDigit c_) default).bind fun t8 => (some ((!t4) && (!t8)))
set_option maxRecDepth 100000 in
set_option maxHeartbeats 4000000 in
theorem schema_isNameq1_ok {c_ : Int} {r : Bool} (h : fschema_isNameq1 c_ = some r) : FnOk Tryz.prog 152 [tv (.int .u8 c_)] [] (fun _ => []) (fun _ => tb r) := by
 unfold fschema_isNameq1 at h
 refine FnOk.enter Tryz.func152 rfl Tryz.ntmps152 (leb rfl) (fun M0 M w0 a hpl hst => ?_)
 replace hst : St M w0 11 [(0,tv (.int .u8 c_))] [] a w0 := hst
 refine sr mixed [] hst (fun _ => .o (op_assign .k) <| .n) fun n0 a w hst => ?_
 replace hst := hst.to [1] [_] [] rfl rfl
 obtain ⟨t4,ht4,h⟩ := bind_some h
 obtain ⟨t8,ht8,h⟩ := bind_some h
 refine sr mixed [] hst (fun _ => .q 0 rfl <| .o (op_callF call150 (schema_isLetter_ok ht4) (.cons (.of z0) <| .nil)) <| .o (op_not z0) <| .q 0 rfl <| .g rfl rfl (.b 0 rfl) (fun _ => op_move z4) <| .g rfl rfl (.b 1 rfl) (fun hc => op_callF call153 (schema_isDigit_ok (opt_t ht8 hc)) (.cons (.of (.cond z0 hc)) <| .nil)) <| .g rfl rfl (.b 2 rfl) (fun hc => op_not (.cond z0 hc)) <| .o (op_and z3 (fun hp => (.cond z0 (beqT hp)))) <| .o (op_assign z0) <| .n) fun n1 a w hst => ?_
 replace hst := hst.to [8] [_] [] rfl rfl
 refine wp_ret ?_
 obtain rfl := sj h
 exact ret_st undef [] hpl hst rfl (.tmp z0 .nil) rfl rfl rfl

/- diorama/schema.isName -/
noncomputable def fschema_isName (s_ : Str) : Option (Bool) := (fschema_within (s_.length : Int) (1:Int) (12:Int)).bind fun t5 => (opt ((!t5) == false) (idx s_ (0:Int)) default).bind fun t9 => (opt ((!t5) == false) (fschema_isLetter ((t9).toNat : Int)) default).bind fun t10 => (if ((!t5) || (!t10)) = true then (some false) else (fslices_ContainsFunc_byte (bytesOf s_) (fun x0 => fschema_isNameq1 x0)).bind fun t15 => (some (!t15)))
set_option maxRecDepth 100000 in
set_option maxHeartbeats 4000000 in
theorem schema_isName_ok {s_ : Str} {r : Bool} (h : fschema_isName s_ = some r) : FnOk Tryz.prog 125 [tv (.string (sB s_))] [] (fun _ => []) (fun _ => tb r) := by
 unfold fschema_isName at h
 refine FnOk.enter Tryz.func125 rfl Tryz.ntmps125 (leb rfl) (fun M0 M w0 a hpl hst => ?_)
 replace hst : St M w0 17 [(0,tv (.string (sB s_)))] [] a w0 := hst
 refine sr mixed [] hst (fun _ => .o (op_assign .k) <| .n) fun n0 a w hst => ?_
 replace hst := hst.to [1] [_] [] rfl rfl
 refine wp_seq_k (fun K2 hK2 => ?_)
 obtain ⟨t5,ht5,h⟩ := bind_some h
 obtain ⟨t9,ht9,h⟩ := bind_some h
 obtain ⟨t10,ht10,h⟩ := bind_some h
 refine sr mixed [] hst (fun _ => .q 0 rfl <| .o (op_lenS' ud9 z0) <| .o (op_callF call97 (schema_within_ok ht5) (.cons (.of z0) <| .cons (.of .k) <| .cons (.of .k) <| .nil)) <| .o (op_not z0) <| .q 0 rfl <| .g rfl rfl (.b 0 rfl) (fun _ => op_move z5) <| .g rfl rfl (.b 1 rfl) (fun hc => op_idxS ud9 (.cond z0 hc) .k (opt_t ht9 hc)) <| .g rfl rfl (.b 2 rfl) (fun hc => op_callF call150 (schema_isLetter_ok (opt_t ht10 hc)) (.cons (.of (.cond z0 hc)) <| .nil)) <| .g rfl rfl (.b 3 rfl) (fun hc => op_not (.cond z0 hc)) <| .o (op_or z4 (fun hp => (.cond z0 (beqF hp)))) <| .n) fun n1 a w hst => ?_
 replace hst := hst.to [9,10] [_,_] [] rfl rfl
 refine wt hst (fun b6 => ?_) (fun b6 => ?_)
 ·replace h := ite_t b6 h
  refine sr mixed [] hst (fun _ => .o (op_assign .k) <| .n) fun n2 a w hst => ?_
  replace hst := hst.to [0] [_] [] rfl rfl
  refine wp_ret ?_
  obtain rfl := sj h
  exact ret_st undef [] hpl hst rfl (.tmp z0 .nil) rfl rfl rfl
 ·replace h := ite_f b6 h
  refine wp_skip ?_
  refine hK2 _ _ ?_
  try clear hK2 K2
  obtain ⟨t15,ht15,h⟩ := bind_some h
  refine sr mixed [] hst (fun _ => .q 1 rfl <| .o (op_s2b ud9 Tryz.underlying185 Tryz.underlying5 z0) <| .o (op_callF call151 (slices_ContainsFunc_byte_ok ht15) (.cons (.of z0) <| .cons (.of (Fct.weak .fnE (tfn_of call152 (fun _ _ hq => schema_isNameq1_ok hq)))) <| .nil)) <| .o (op_not z0) <| .o (op_assign z0) <| .n) fun n3 a w hst => ?_
  replace hst := hst.to [4] [_] [] rfl rfl
  refine wp_ret ?_
  obtain rfl := sj h
  exact ret_st undef [] hpl hst rfl (.tmp z0 .nil) rfl rfl rfl

/- diorama/schema.span -/
noncomputable def fschema_span (lo_ : Int) (hi_ : Int) (least_ : Int) (most_ : Int) : Option (Bool) := (some (((decide (lo_ ≥ least_)) && (decide (lo_ ≤ hi_))) && (decide (hi_ ≤ most_))))
set_option maxRecDepth 100000 in
set_option maxHeartbeats 4000000 in
theorem schema_span_ok {lo_ : Int} {hi_ : Int} {least_ : Int} {most_ : Int} {r : Bool} (h : fschema_span lo_ hi_ least_ most_ = some r) : FnOk Tryz.prog 126 [ti lo_,ti hi_,ti least_,ti most_] [] (fun _ => []) (fun _ => tb r) := by
 unfold fschema_span at h
 refine FnOk.enter Tryz.func126 rfl Tryz.ntmps126 (leb rfl) (fun M0 M w0 a hpl hst => ?_)
 replace hst : St M w0 22 [(0,ti lo_),(1,ti hi_),(2,ti least_),(3,ti most_)] [] a w0 := hst
 refine sr mixed [] hst (fun _ => .o (op_assign .k) <| .n) fun n0 a w hst => ?_
 replace hst := hst.to [1,2,3,4] [_,_,_,_] [] rfl rfl
 refine sr mixed [] hst (fun _ => .q 0 rfl <| .q 3 rfl <| .o (op_geq z1 z0) <| .q 0 rfl <| .g rfl rfl (.b 0 rfl) (fun _ => op_move z4) <| .g rfl rfl (.b 1 rfl) (fun _ => op_move z6) <| .g rfl rfl (.b 2 rfl) (fun hc => op_leq (.cond z1 hc) (.cond z0 hc)) <| .o (op_and z3 (fun hp => (.cond z0 (beqT hp)))) <| .q 0 rfl <| .g rfl rfl (.b 0 rfl) (fun _ => op_move z10) <| .g rfl rfl (.b 1 rfl) (fun _ => op_move z13) <| .g rfl rfl (.b 2 rfl) (fun hc => op_leq (.cond z1 hc) (.cond z0 hc)) <| .o (op_and z3 (fun hp => (.cond z0 (beqT hp)))) <| .o (op_assign z0) <| .n) fun n1 a w hst => ?_
 replace hst := hst.to [13] [_] [] rfl rfl
 refine wp_ret ?_
 obtain rfl := sj h
 exact ret_st undef [] hpl hst rfl (.tmp z0 .nil) rfl rfl rfl

/- diorama/schema.all[diorama/api.Field]$1 -/
noncomputable def fschema_all_Fieldq1 (x_ : Sapi_Field) (c0_ : (Sapi_Field → Option Bool)) : Option (Bool) := (c0_ x_).bind fun t6 => (some (!t6))
set_option maxRecDepth 100000 in
set_option maxHeartbeats 4000000 in
theorem schema_all_Fieldq1_ok {x_ : Sapi_Field} {c0_ : (Sapi_Field → Option Bool)} {r : Bool} (h : fschema_all_Fieldq1 x_ c0_ = some r) : FnOk Tryz.prog 155 [rSapi_Field.ty x_,tptr (rF168.cs c0_)] [] (fun _ => []) (fun _ => tb r) := by
 unfold fschema_all_Fieldq1 at h
 refine FnOk.enter Tryz.func155 rfl Tryz.ntmps155 (leb rfl) (fun M0 M w0 a hpl hst => ?_)
 replace hst : St M w0 8 [(0,rSapi_Field.ty x_),(1,tptr (rF168.cs c0_))] [] a w0 := hst
 refine sr mixed [] hst (fun _ => .o (op_boxR (R := rSapi_Field) (u := x_) z0) <| .o (op_assign .k) <| .n) fun n0 a w hst => ?_
 replace hst := hst.to [0,3] [_,_] [] rfl rfl
 obtain ⟨t6,ht6,h⟩ := bind_some h
 refine sr mixed [] hst (fun _ => .o (op_load tok168 z1) <| .o (op_load tok61 z1) <| .o (op_callT (u := x_) z1 (.cons (.of z0) <| .nil) ht6) <| .o (op_not z0) <| .o (op_assign z0) <| .n) fun n1 a w hst => ?_
 replace hst := hst.to [4] [_] [] rfl rfl
 refine wp_ret ?_
 obtain rfl := sj h
 exact ret_st undef [] hpl hst rfl (.tmp z0 .nil) rfl rfl rfl

/- slices.IndexFunc[[]diorama/api.Field,diorama/api.Field] -/
noncomputable def fslices_IndexFunc_Field (s_ : (List Sapi_Field)) (f_ : (Sapi_Field → Option Bool)) : Option (Int) := (tailrec (fun (s4 : Int) => ((if (decide (s4 < (s_.length : Int))) = true then (idx s_ s4).bind fun t14 => (f_ t14).bind fun t16 => (if t16 = true then (some (.inr (.inr s4))) else (some (.inl (IntKind.i64.wrap (s4 + (1:Int)))))) else (some (.inr (.inl ())))) : Option ((Int) ⊕ ((Unit) ⊕ (Int))))) (0:Int)).bind fun (e5 : (Unit) ⊕ (Int)) => (match e5 with | .inl _ => (some (-1:Int)) | .inr p23 => (some p23))
set_option maxRecDepth 100000 in
set_option maxHeartbeats 4000000 in
theorem slices_IndexFunc_Field_ok {s_ : (List Sapi_Field)} {f_ : (Sapi_Field → Option Bool)} {r : Int} (h : fslices_IndexFunc_Field s_ f_ = some r) : FnOk Tryz.prog 106 [tsl rSapi_Field s_,rF168.ty f_] [] (fun _ => []) (fun _ => ti r) := by
 unfold fslices_IndexFunc_Field at h
 refine FnOk.enter Tryz.func106 rfl Tryz.ntmps106 (leb rfl) (fun M0 M w0 a hpl hst => ?_)
 replace hst : St M w0 19 [(0,tsl rSapi_Field s_),(1,rF168.ty f_)] [] a w0 := hst
 refine sr mixed [] hst (fun _ => .o (op_assign .k) <| .n) fun n0 a w hst => ?_
 replace hst := hst.to [1,2] [_,_] [] rfl rfl
 refine wp_seq_k (fun K2 hK2 => ?_)
 refine sr mixed [] hst (fun _ => .q 0 rfl <| .o (op_len ud53 z0) <| .o (op_move .k) <| .n) fun n1 a w hst => ?_
 replace hst := hst.to [1,2,3,4] [_,_,_,_] [] rfl rfl
 obtain ⟨e5,he5,h⟩ := bind_some h
 have hJp22 : ∀ (p22 : Unit) a w,(.inl p22) = e5 → St M w0 19 [] [] a w → K2 a w := by
  intro p22 a w he hst
  subst he
  simp only at h
  refine hK2 _ _ ?_
  try clear hK2 K2
  refine sr mixed [] hst (fun _ => .o (op_assign .k) <| .n) fun n7 a w hst => ?_
  replace hst := hst.to [0] [_] [] rfl rfl
  refine wp_ret ?_
  obtain rfl := sj h
  exact ret_st undef [] hpl hst rfl (.tmp z0 .nil) rfl rfl rfl
 have hJp23 : ∀ (p23 : Int) a w,(.inr p23) = e5 → St M w0 19 [(4,ti p23)] [] a w → Ret Tryz.prog Tryz.f106 M0 [] w0 (fun _ => []) (fun _ => ti r) .ret a w := by
  intro p23 a w he hst
  subst he
  simp only at h
  obtain rfl := sj h
  exact ret_st undef [] hpl hst rfl (.tmp z0 .nil) rfl rfl rfl
 refine wp_block ?_
 refine wp_loopK _ (fun (s4 : Int) a w => St M w0 19 [(7,ti (s_.length : Int)),(8,ti s4),(0,tsl rSapi_Field s_),(1,rF168.ty f_)] [] a w) _ _ he5 (hst.pick [0,1,2,3]) ?_
 clear h
 intro s4 o a w K25 hI h ho hK25
 have hst := hI
 clear hI
 refine sr mixed [] hst (fun _ => .o (op_lss z1 z0) <| .n) fun n2 a w hst => ?_
 replace hst := hst.to [0,1,2,3,4] [_,_,_,_,_] [] rfl rfl
 refine wp_seq_k (fun K27 hK27 => ?_)
 refine wt hst (fun b33 => ?_) (fun b33 => ?_)
 ·replace h := ite_t b33 h
  refine wp_skip ?_
  refine hK27 _ _ ?_
  try clear hK27 K27
  refine wp_seq_k (fun K28 hK28 => ?_)
  refine wp_block ?_
  refine sr mixed [] hst (fun _ => .q 2 rfl <| .o (op_assign z0) <| .n) fun n3 a w hst => ?_
  replace hst := hst.to [1,3,4,5,6] [_,_,_,_,_] [] rfl rfl
  obtain ⟨t14,ht14,h⟩ := bind_some h
  obtain ⟨t16,ht16,h⟩ := bind_some h
  refine sr mixed [] hst (fun _ => .q 4 rfl <| .q 4 rfl <| .q 2 rfl <| .o (op_index ud53 tok61 z1 z0 ht14) <| .o (op_load tok61 z0) <| .o (op_callT (u := t14) z4 (.cons (.of z0) <| .nil) ht16) <| .n) fun n4 a w hst => ?_
  replace hst := hst.to [5,6,7,8,9,10] [_,_,_,_,_,_] [] rfl rfl
  refine wt hst (fun b32 => ?_) (fun b32 => ?_)
  ·replace h := ite_t b32 h
   refine sr mixed [] hst (fun _ => .q 1 rfl <| .o (op_assign z0) <| .n) fun n5 a w hst => ?_
   replace hst := hst.to [1] [_] [] rfl rfl
   refine wp_ret ?_
   exact hJp23 _ _ _ (ho _ (sj h).symm) (hst.pick [0])
  ·replace h := ite_f b32 h
   refine wp_skip ?_
   refine hK28 _ _ ?_
   try clear hK28 K28
   refine wr mixed [] hst (fun _ => .o (op_add z3 .k) <| .q 0 rfl <| .n) fun n6 a w hst => ?_
   replace hst := hst.to [1,4,5,6] [_,_,_,_] [] rfl rfl
   exact hK25 _ _ _ (sj h).symm (hst.pick [1,0,2,3])
 ·replace h := ite_f b33 h
  refine wp_exit ?_
  exact hJp22 _ _ _ (ho _ (sj h).symm) (hst.pick [])

/- slices.ContainsFunc[[]diorama/api.Field,diorama/api.Field] -/
noncomputable def fslices_ContainsFunc_Field (s_ : (List Sapi_Field)) (f_ : (Sapi_Field → Option Bool)) : Option (Bool) := (fslices_IndexFunc_Field s_ f_).bind fun t7 => (some (decide (t7 ≥ (0:Int))))
set_option maxRecDepth 100000 in
set_option maxHeartbeats 4000000 in
theorem slices_ContainsFunc_Field_ok {s_ : (List Sapi_Field)} {f_ : (Sapi_Field → Option Bool)} {r : Bool} (h : fslices_ContainsFunc_Field s_ f_ = some r) : FnOk Tryz.prog 154 [tsl rSapi_Field s_,rF168.ty f_] [] (fun _ => []) (fun _ => tb r) := by
 unfold fslices_ContainsFunc_Field at h
 refine FnOk.enter Tryz.func154 rfl Tryz.ntmps154 (leb rfl) (fun M0 M w0 a hpl hst => ?_)
 replace hst : St M w0 9 [(0,tsl rSapi_Field s_),(1,rF168.ty f_)] [] a w0 := hst
 refine sr mixed [] hst (fun _ => .o (op_assign .k) <| .n) fun n0 a w hst => ?_
 replace hst := hst.to [1,2] [_,_] [] rfl rfl
 obtain ⟨t7,ht7,h⟩ := bind_some h
 refine sr mixed [] hst (fun _ => .q 0 rfl <| .q 2 rfl <| .o (op_callF call106 (slices_IndexFunc_Field_ok ht7) (.cons (.of z1) <| .cons (.of z0) <| .nil)) <| .o (op_geq z0 .k) <| .o (op_assign z0) <| .n) fun n1 a w hst => ?_
 replace hst := hst.to [4] [_] [] rfl rfl
 refine wp_ret ?_
 obtain rfl := sj h
 exact ret_st undef [] hpl hst rfl (.tmp z0 .nil) rfl rfl rfl

/- diorama/schema.all[diorama/api.Field] -/
noncomputable def fschema_all_Field (l_ : (List Sapi_Field)) (right_ : (Sapi_Field → Option Bool)) : Option (Bool) := (fslices_ContainsFunc_Field l_ (fun x0 => fschema_all_Fieldq1 x0 right_)).bind fun t7 => (some (!t7))
set_option maxRecDepth 100000 in
set_option maxHeartbeats 4000000 in
theorem schema_all_Field_ok {l_ : (List Sapi_Field)} {right_ : (Sapi_Field → Option Bool)} {r : Bool} (h : fschema_all_Field l_ right_ = some r) : FnOk Tryz.prog 127 [tsl rSapi_Field l_,rF168.ty right_] [] (fun _ => []) (fun _ => tb r) := by
 unfold fschema_all_Field at h
 refine FnOk.enter Tryz.func127 rfl Tryz.ntmps127 (leb rfl) (fun M0 M w0 a hpl hst => ?_)
 replace hst : St M w0 9 [(0,tsl rSapi_Field l_),(1,rF168.ty right_)] [] a w0 := hst
 refine sr mixed [] hst (fun _ => .o (op_boxR (R := rF168) (u := right_) z1) <| .o (op_assign .k) <| .n) fun n0 a w hst => ?_
 replace hst := hst.to [0,2] [_,_] [] rfl rfl
 obtain ⟨t7,ht7,h⟩ := bind_some h
 refine sr mixed [] hst (fun _ => .q 1 rfl <| .o (op_clo (.cons z1 <| .nil)) <| .o (op_callF call154 (slices_ContainsFunc_Field_ok ht7) (.cons (.of z1) <| .cons (.of (Fct.weak z0 (tfn_of call155 (fun _ _ hq => schema_all_Fieldq1_ok hq)))) <| .nil)) <| .o (op_not z0) <| .o (op_assign z0) <| .n) fun n1 a w hst => ?_
 replace hst := hst.to [4] [_] [] rfl rfl
 refine wp_ret ?_
 obtain rfl := sj h
 exact ret_st undef [] hpl hst rfl (.tmp z0 .nil) rfl rfl rfl

/- diorama/schema.only -/
noncomputable def fschema_only (f_ : Sapi_Field) : Option (Sapi_Field) := ((if ((f_).Kind == (0:Int)) = true then (some (Sapi_Field.mk (f_).Name ([] : Str) ([] : Str) (f_).Kind (f_).Lo (0:Int) ([] : (List Str)) ([] : (List Int)))) else ((if ((f_).Kind == (1:Int)) = true then (some ((f_).Kind == (1:Int))) else ((if ((f_).Kind == (4:Int)) = true then (some ((f_).Kind == (4:Int))) else (some ((f_).Kind == (5:Int))))).bind fun (p535 : Bool) => (some p535))).bind fun (p277 : Bool) => ((if p277 = true then (some (Sapi_Field.mk (f_).Name (f_).Of ([] : Str) (f_).Kind (f_).Lo (f_).Hi ([] : (List Str)) ([] : (List Int)))) else ((if ((f_).Kind == (2:Int)) = true then (some (Sapi_Field.mk (f_).Name ([] : Str) ([] : Str) (f_).Kind (f_).Lo (f_).Hi ([] : (List Str)) ([] : (List Int)))) else ((if ((f_).Kind == (3:Int)) = true then (some (Sapi_Field.mk (f_).Name ([] : Str) ([] : Str) (f_).Kind (0:Int) (0:Int) (f_).Words (f_).Weights)) else ((if ((f_).Kind == (6:Int)) = true then (some (Sapi_Field.mk (f_).Name (f_).Of ([] : Str) (f_).Kind (0:Int) (0:Int) ([] : (List Str)) ([] : (List Int)))) else ((if ((f_).Kind == (7:Int)) = true then (some (Sapi_Field.mk (f_).Name (f_).Of (f_).Up (f_).Kind (f_).Lo (f_).Hi ([] : (List Str)) ([] : (List Int)))) else ((if ((f_).Kind == (8:Int)) = true then (some (Sapi_Field.mk (f_).Name (f_).Of (f_).Up (f_).Kind (0:Int) (0:Int) ([] : (List Str)) ([] : (List Int)))) else (some (Sapi_Field.mk (f_).Name ([] : Str) ([] : Str) (f_).Kind (0:Int) (0:Int) ([] : (List Str)) ([] : (List Int)))))).bind fun (p526 : Sapi_Field) => (some p526))).bind fun (p519 : Sapi_Field) => (some p519))).bind fun (p504 : Sapi_Field) => (some p504))).bind fun (p473 : Sapi_Field) => (some p473))).bind fun (p410 : Sapi_Field) => (some p410))).bind fun (p283 : Sapi_Field) => (some p283))).bind fun (p8 : Sapi_Field) => (some p8)
set_option maxRecDepth 100000 in
set_option maxHeartbeats 4000000 in
theorem schema_only_ok {f_ : Sapi_Field} {r : Sapi_Field} (h : fschema_only f_ = some r) : FnOk Tryz.prog 157 [rSapi_Field.ty f_] [] (fun _ => []) (fun _ => rSapi_Field.ty r) := by
 unfold fschema_only at h
 refine FnOk.enter Tryz.func157 rfl Tryz.ntmps157 (leb rfl) (fun M0 M w0 a hpl hst => ?_)
 replace hst : St M w0 73 [(0,rSapi_Field.ty f_)] [] a w0 := hst
 refine sr mixed [v1 1 (fun v0 => box (rSapi_Field.cs zz0) v0)] hst (fun _ => .o (op_boxR (R := rSapi_Field) (u := f_) z0) <| .m [] [0] rfl rfl rfl (op_alloc (R := rSapi_Field) (a := zz0) tok61 zok61) <| .n) fun n0 a w hst => ?_
 replace hst := hst.to [0,1] [_,_] [_] rfl rfl
 refine sr mixed [v1 5 (fun v0 => box (rSapi_Field.cs zz0) v0),v1 5 (fun v0 => box (rSapi_Field.cs (Sapi_Field.mk (f_).Name ([] : Str) ([] : Str) (f_).Kind (0:Int) (0:Int) ([] : (List Str)) ([] : (List Int)))) v0)] hst (fun _ => .o (op_field fld61_0 z0) <| .o (op_loadT (R := rS) (u := (f_).Name) tok9 z0 rfl) <| .o (op_field fld61_3 z2) <| .o (op_loadT (R := rI) (u := (f_).Kind) tok3 z0 rfl) <| .p (T := rSapi_Field.ty (Sapi_Field.mk (f_).Name ([] : Str) ([] : Str) (f_).Kind (0:Int) (0:Int) ([] : (List Str)) ([] : (List Int)))) rfl (op_build ud61 pl61 zv61 zc61 (.cons (R := rS) (u := (f_).Name) rfl z2 (leb rfl) <| .cons (R := rI) (u := (f_).Kind) rfl z0 (leb rfl) <| .nil _)) <| .m [] [1] rfl rfl rfl (op_alloc (R := rSapi_Field) (a := zz0) tok61 zok61) <| .e [] [1] [2] rfl rfl rfl rfl (op_storeB (R := rSapi_Field) (a := (Sapi_Field.mk (f_).Name ([] : Str) ([] : Str) (f_).Kind (0:Int) (0:Int) ([] : (List Str)) ([] : (List Int)))) tok61 z0 z1 (leb rfl)) <| .n) fun n1 a w hst => ?_
 replace hst := hst.to [5,6,7] [_,_,_] [_,_] rfl rfl
 refine wp_seq_k (fun K5 hK5 => ?_)
 refine sr mixed [] hst (fun _ => .o (op_field fld61_3 z1) <| .o (op_loadT (R := rI) (u := (f_).Kind) tok3 z0 rfl) <| .n) fun n2 a w hst => ?_
 replace hst := hst.to [1,2,3,4] [_,_,_,_] [_,_] rfl rfl
 refine wp_block ?_
 refine sr mixed [] hst (fun _ => .o (op_eql z0 .k) <| .o (op_assign z0) <| .n) fun n3 a w hst => ?_
 replace hst := hst.to [1,2,3,4,5] [_,_,_,_,_] [_,_] rfl rfl
 obtain ⟨p8,hp8,h⟩ := bind_some h
 have hJp8 : ∀ a w,St M w0 73 [(3,tv (n1 5)),(2,tv (n0 1))] [box (rSapi_Field.cs zz0) (n0 1),box (rSapi_Field.cs p8) (n1 5)] a w → K5 a w := by
  intro a w hst
  refine hK5 _ _ ?_
  try clear hK5 K5
  refine sr mixed [v0 (box (rSapi_Field.cs p8) (n0 1))] hst (fun _ => .u [1] rfl rfl (op_loadB (R := rSapi_Field) (u := p8) tok61 z0 rfl) <| .e [] [0] [2] rfl rfl rfl rfl (op_storeB (R := rSapi_Field) (a := p8) tok61 z2 z0 (leb rfl)) <| .n) fun n19 a w hst => ?_
  replace hst : St _ _ _ [_] [_] _ _ := (hst.pick [2]).selA [1] rfl
  refine wp_ret ?_
  obtain rfl := sj h
  exact ret_st undef [] hpl hst rfl (.cell (R := rSapi_Field) (u := p8) tok61 z0 0 rfl rfl .nil) rfl rfl rfl
 replace h := hp8
 clear hp8
 refine wt hst (fun b539 => ?_) (fun b539 => ?_)
 ·replace h := ite_t b539 h
  refine wr mixed [v0 (box (rSapi_Field.cs (Sapi_Field.mk (f_).Name ([] : Str) ([] : Str) (f_).Kind (f_).Lo (0:Int) ([] : (List Str)) ([] : (List Int)))) (n1 5))] hst (fun _ => .o (op_field fld61_4 z3) <| .o (op_loadT (R := rI) (u := (f_).Lo) tok3 z0 rfl) <| .u [1] rfl rfl (op_fieldB fld61_4 z4) <| .e [] [1] [2] rfl rfl rfl rfl (op_storeBf (R := rI) (a := (f_).Lo) (Ts := (rSapi_Field.cs (Sapi_Field.mk (f_).Name ([] : Str) ([] : Str) (f_).Kind (0:Int) (0:Int) ([] : (List Str)) ([] : (List Int))))) (off := 4) tok3 z0 z1 (leb rfl)) <| .n) fun n4 a w hst => ?_
  replace hst := hst.to [5,7] [_,_] [_,_] rfl rfl
  obtain rfl := sj h
  exact hJp8 _ _ (hst.pick [0,1])
 ·replace h := ite_f b539 h
  refine wp_seq_k (fun K275 hK275 => ?_)
  refine sr mixed [] hst (fun _ => .o (op_eql z1 .k) <| .o (op_assign z0) <| .n) fun n5 a w hst => ?_
  replace hst := hst.to [1,3,4,5,6] [_,_,_,_,_] [_,_] rfl rfl
  obtain ⟨p277,hp277,h⟩ := bind_some h
  have hJp277 : ∀ a w,St M w0 73 [(16,tb p277),(10,ti (f_).Kind),(3,tv (n1 5)),(1,tptr (rSapi_Field.cs f_)),(2,tv (n0 1))] [box (rSapi_Field.cs zz0) (n0 1),box (rSapi_Field.cs (Sapi_Field.mk (f_).Name ([] : Str) ([] : Str) (f_).Kind (0:Int) (0:Int) ([] : (List Str)) ([] : (List Int)))) (n1 5)] a w → K275 a w := by
   intro a w hst
   refine hK275 _ _ ?_
   try clear hK275 K275
   obtain ⟨p283,hp283,h⟩ := bind_some h
   have hJp283 : ∀ a w,St M w0 73 [(3,tv (n1 5)),(2,tv (n0 1))] [box (rSapi_Field.cs zz0) (n0 1),box (rSapi_Field.cs p283) (n1 5)] a w → K5 a w := by
    intro a w hst
    obtain rfl := sj h
    exact hJp8 _ _ (hst.pick [0,1])
   replace h := hp283
   clear hp283
   refine wt hst (fun b533 => ?_) (fun b533 => ?_)
   ·replace h := ite_t b533 h
    refine wr mixed [v0 (box (rSapi_Field.cs (Sapi_Field.mk (f_).Name (f_).Of ([] : Str) (f_).Kind (0:Int) (0:Int) ([] : (List Str)) ([] : (List Int)))) (n1 5)),v0 (box (rSapi_Field.cs (Sapi_Field.mk (f_).Name (f_).Of ([] : Str) (f_).Kind (f_).Lo (0:Int) ([] : (List Str)) ([] : (List Int)))) (n1 5)),v0 (box (rSapi_Field.cs (Sapi_Field.mk (f_).Name (f_).Of ([] : Str) (f_).Kind (f_).Lo (f_).Hi ([] : (List Str)) ([] : (List Int)))) (n1 5))] hst (fun _ => .o (op_field fld61_1 z3) <| .o (op_loadT (R := rS) (u := (f_).Of) tok9 z0 rfl) <| .o (op_field fld61_4 z5) <| .o (op_loadT (R := rI) (u := (f_).Lo) tok3 z0 rfl) <| .o (op_field fld61_5 z7) <| .o (op_loadT (R := rI) (u := (f_).Hi) tok3 z0 rfl) <| .u [1] rfl rfl (op_fieldB fld61_1 z8) <| .e [] [1] [2] rfl rfl rfl rfl (op_storeBf (R := rS) (a := (f_).Of) (Ts := (rSapi_Field.cs (Sapi_Field.mk (f_).Name ([] : Str) ([] : Str) (f_).Kind (0:Int) (0:Int) ([] : (List Str)) ([] : (List Int))))) (off := 1) tok9 z0 z5 (leb rfl)) <| .u [2] rfl rfl (op_fieldB fld61_4 z9) <| .e [] [2] [3] rfl rfl rfl rfl (op_storeBf (R := rI) (a := (f_).Lo) (Ts := (rSapi_Field.cs (Sapi_Field.mk (f_).Name (f_).Of ([] : Str) (f_).Kind (0:Int) (0:Int) ([] : (List Str)) ([] : (List Int))))) (off := 4) tok3 z0 z4 (leb rfl)) <| .u [3] rfl rfl (op_fieldB fld61_5 z10) <| .e [] [3] [4] rfl rfl rfl rfl (op_storeBf (R := rI) (a := (f_).Hi) (Ts := (rSapi_Field.cs (Sapi_Field.mk (f_).Name (f_).Of ([] : Str) (f_).Kind (f_).Lo (0:Int) ([] : (List Str)) ([] : (List Int))))) (off := 5) tok3 z0 z3 (leb rfl)) <| .n) fun n8 a w hst => ?_
    replace hst := hst.to [11,13] [_,_] [_,_] rfl rfl
    obtain rfl := sj h
    exact hJp283 _ _ (hst.pick [0,1])
   ·replace h := ite_f b533 h
    refine sr mixed [] hst (fun _ => .o (op_eql z1 .k) <| .o (op_assign z0) <| .n) fun n9 a w hst => ?_
    replace hst := hst.to [1,3,4,5,6] [_,_,_,_,_] [_,_] rfl rfl
    obtain ⟨p410,hp410,h⟩ := bind_some h
    have hJp410 : ∀ a w,St M w0 73 [(3,tv (n1 5)),(2,tv (n0 1))] [box (rSapi_Field.cs zz0) (n0 1),box (rSapi_Field.cs p410) (n1 5)] a w → K5 a w := by
     intro a w hst
     obtain rfl := sj h
     exact hJp283 _ _ (hst.pick [0,1])
    replace h := hp410
    clear hp410
    refine wt hst (fun b532 => ?_) (fun b532 => ?_)
    ·replace h := ite_t b532 h
     refine wr mixed [v0 (box (rSapi_Field.cs (Sapi_Field.mk (f_).Name ([] : Str) ([] : Str) (f_).Kind (f_).Lo (0:Int) ([] : (List Str)) ([] : (List Int)))) (n1 5)),v0 (box (rSapi_Field.cs (Sapi_Field.mk (f_).Name ([] : Str) ([] : Str) (f_).Kind (f_).Lo (f_).Hi ([] : (List Str)) ([] : (List Int)))) (n1 5))] hst (fun _ => .o (op_field fld61_4 z3) <| .o (op_loadT (R := rI) (u := (f_).Lo) tok3 z0 rfl) <| .o (op_field fld61_5 z5) <| .o (op_loadT (R := rI) (u := (f_).Hi) tok3 z0 rfl) <| .u [1] rfl rfl (op_fieldB fld61_4 z6) <| .e [] [1] [2] rfl rfl rfl rfl (op_storeBf (R := rI) (a := (f_).Lo) (Ts := (rSapi_Field.cs (Sapi_Field.mk (f_).Name ([] : Str) ([] : Str) (f_).Kind (0:Int) (0:Int) ([] : (List Str)) ([] : (List Int))))) (off := 4) tok3 z0 z3 (leb rfl)) <| .u [2] rfl rfl (op_fieldB fld61_5 z7) <| .e [] [2] [3] rfl rfl rfl rfl (op_storeBf (R := rI) (a := (f_).Hi) (Ts := (rSapi_Field.cs (Sapi_Field.mk (f_).Name ([] : Str) ([] : Str) (f_).Kind (f_).Lo (0:Int) ([] : (List Str)) ([] : (List Int))))) (off := 5) tok3 z0 z2 (leb rfl)) <| .n) fun n10 a w hst => ?_
     replace hst := hst.to [8,10] [_,_] [_,_] rfl rfl
     obtain rfl := sj h
     exact hJp410 _ _ (hst.pick [0,1])
    ·replace h := ite_f b532 h
     refine sr mixed [] hst (fun _ => .o (op_eql z1 .k) <| .o (op_assign z0) <| .n) fun n11 a w hst => ?_
     replace hst := hst.to [1,3,4,5,6] [_,_,_,_,_] [_,_] rfl rfl
     obtain ⟨p473,hp473,h⟩ := bind_some h
     have hJp473 : ∀ a w,St M w0 73 [(3,tv (n1 5)),(2,tv (n0 1))] [box (rSapi_Field.cs zz0) (n0 1),box (rSapi_Field.cs p473) (n1 5)] a w → K5 a w := by
      intro a w hst
      obtain rfl := sj h
      exact hJp410 _ _ (hst.pick [0,1])
     replace h := hp473
     clear hp473
     refine wt hst (fun b531 => ?_) (fun b531 => ?_)
     ·replace h := ite_t b531 h
      refine wr mixed [v0 (box (rSapi_Field.cs (Sapi_Field.mk (f_).Name ([] : Str) ([] : Str) (f_).Kind (0:Int) (0:Int) (f_).Words ([] : (List Int)))) (n1 5)),v0 (box (rSapi_Field.cs (Sapi_Field.mk (f_).Name ([] : Str) ([] : Str) (f_).Kind (0:Int) (0:Int) (f_).Words (f_).Weights)) (n1 5))] hst (fun _ => .o (op_field fld61_6 z3) <| .o (op_loadT (R := (rSl rS)) (u := (f_).Words) tok32 z0 rfl) <| .o (op_field fld61_7 z5) <| .o (op_loadT (R := (rSl rI)) (u := (f_).Weights) tok22 z0 rfl) <| .u [1] rfl rfl (op_fieldB fld61_6 z6) <| .e [] [1] [2] rfl rfl rfl rfl (op_storeBf (R := (rSl rS)) (a := (f_).Words) (Ts := (rSapi_Field.cs (Sapi_Field.mk (f_).Name ([] : Str) ([] : Str) (f_).Kind (0:Int) (0:Int) ([] : (List Str)) ([] : (List Int))))) (off := 6) tok32 z0 z3 (leb rfl)) <| .u [2] rfl rfl (op_fieldB fld61_7 z7) <| .e [] [2] [3] rfl rfl rfl rfl (op_storeBf (R := (rSl rI)) (a := (f_).Weights) (Ts := (rSapi_Field.cs (Sapi_Field.mk (f_).Name ([] : Str) ([] : Str) (f_).Kind (0:Int) (0:Int) (f_).Words ([] : (List Int))))) (off := 7) tok22 z0 z2 (leb rfl)) <| .n) fun n12 a w hst => ?_
      replace hst := hst.to [8,10] [_,_] [_,_] rfl rfl
      obtain rfl := sj h
      exact hJp473 _ _ (hst.pick [0,1])
     ·replace h := ite_f b531 h
      refine sr mixed [] hst (fun _ => .o (op_eql z1 .k) <| .o (op_assign z0) <| .n) fun n13 a w hst => ?_
      replace hst := hst.to [1,3,4,5,6] [_,_,_,_,_] [_,_] rfl rfl
      obtain ⟨p504,hp504,h⟩ := bind_some h
      have hJp504 : ∀ a w,St M w0 73 [(3,tv (n1 5)),(2,tv (n0 1))] [box (rSapi_Field.cs zz0) (n0 1),box (rSapi_Field.cs p504) (n1 5)] a w → K5 a w := by
       intro a w hst
       obtain rfl := sj h
       exact hJp473 _ _ (hst.pick [0,1])
      replace h := hp504
      clear hp504
      refine wt hst (fun b530 => ?_) (fun b530 => ?_)
      ·replace h := ite_t b530 h
       refine wr mixed [v0 (box (rSapi_Field.cs (Sapi_Field.mk (f_).Name (f_).Of ([] : Str) (f_).Kind (0:Int) (0:Int) ([] : (List Str)) ([] : (List Int)))) (n1 5))] hst (fun _ => .o (op_field fld61_1 z3) <| .o (op_loadT (R := rS) (u := (f_).Of) tok9 z0 rfl) <| .u [1] rfl rfl (op_fieldB fld61_1 z4) <| .e [] [1] [2] rfl rfl rfl rfl (op_storeBf (R := rS) (a := (f_).Of) (Ts := (rSapi_Field.cs (Sapi_Field.mk (f_).Name ([] : Str) ([] : Str) (f_).Kind (0:Int) (0:Int) ([] : (List Str)) ([] : (List Int))))) (off := 1) tok9 z0 z1 (leb rfl)) <| .n) fun n14 a w hst => ?_
       replace hst := hst.to [5,7] [_,_] [_,_] rfl rfl
       obtain rfl := sj h
       exact hJp504 _ _ (hst.pick [0,1])
      ·replace h := ite_f b530 h
       refine sr mixed [] hst (fun _ => .o (op_eql z1 .k) <| .o (op_assign z0) <| .n) fun n15 a w hst => ?_
       replace hst := hst.to [1,3,4,5,6] [_,_,_,_,_] [_,_] rfl rfl
       obtain ⟨p519,hp519,h⟩ := bind_some h
       have hJp519 : ∀ a w,St M w0 73 [(3,tv (n1 5)),(2,tv (n0 1))] [box (rSapi_Field.cs zz0) (n0 1),box (rSapi_Field.cs p519) (n1 5)] a w → K5 a w := by
        intro a w hst
        obtain rfl := sj h
        exact hJp504 _ _ (hst.pick [0,1])
       replace h := hp519
       clear hp519
       refine wt hst (fun b529 => ?_) (fun b529 => ?_)
       ·replace h := ite_t b529 h
        refine wr mixed [v0 (box (rSapi_Field.cs (Sapi_Field.mk (f_).Name (f_).Of ([] : Str) (f_).Kind (0:Int) (0:Int) ([] : (List Str)) ([] : (List Int)))) (n1 5)),v0 (box (rSapi_Field.cs (Sapi_Field.mk (f_).Name (f_).Of (f_).Up (f_).Kind (0:Int) (0:Int) ([] : (List Str)) ([] : (List Int)))) (n1 5)),v0 (box (rSapi_Field.cs (Sapi_Field.mk (f_).Name (f_).Of (f_).Up (f_).Kind (f_).Lo (0:Int) ([] : (List Str)) ([] : (List Int)))) (n1 5)),v0 (box (rSapi_Field.cs (Sapi_Field.mk (f_).Name (f_).Of (f_).Up (f_).Kind (f_).Lo (f_).Hi ([] : (List Str)) ([] : (List Int)))) (n1 5))] hst (fun _ => .o (op_field fld61_1 z3) <| .o (op_loadT (R := rS) (u := (f_).Of) tok9 z0 rfl) <| .o (op_field fld61_2 z5) <| .o (op_loadT (R := rS) (u := (f_).Up) tok9 z0 rfl) <| .o (op_field fld61_4 z7) <| .o (op_loadT (R := rI) (u := (f_).Lo) tok3 z0 rfl) <| .o (op_field fld61_5 z9) <| .o (op_loadT (R := rI) (u := (f_).Hi) tok3 z0 rfl) <| .u [1] rfl rfl (op_fieldB fld61_1 z10) <| .e [] [1] [2] rfl rfl rfl rfl (op_storeBf (R := rS) (a := (f_).Of) (Ts := (rSapi_Field.cs (Sapi_Field.mk (f_).Name ([] : Str) ([] : Str) (f_).Kind (0:Int) (0:Int) ([] : (List Str)) ([] : (List Int))))) (off := 1) tok9 z0 z7 (leb rfl)) <| .u [2] rfl rfl (op_fieldB fld61_2 z11) <| .e [] [2] [3] rfl rfl rfl rfl (op_storeBf (R := rS) (a := (f_).Up) (Ts := (rSapi_Field.cs (Sapi_Field.mk (f_).Name (f_).Of ([] : Str) (f_).Kind (0:Int) (0:Int) ([] : (List Str)) ([] : (List Int))))) (off := 2) tok9 z0 z6 (leb rfl)) <| .u [3] rfl rfl (op_fieldB fld61_4 z12) <| .e [] [3] [4] rfl rfl rfl rfl (op_storeBf (R := rI) (a := (f_).Lo) (Ts := (rSapi_Field.cs (Sapi_Field.mk (f_).Name (f_).Of (f_).Up (f_).Kind (0:Int) (0:Int) ([] : (List Str)) ([] : (List Int))))) (off := 4) tok3 z0 z5 (leb rfl)) <| .u [4] rfl rfl (op_fieldB fld61_5 z13) <| .e [] [4] [5] rfl rfl rfl rfl (op_storeBf (R := rI) (a := (f_).Hi) (Ts := (rSapi_Field.cs (Sapi_Field.mk (f_).Name (f_).Of (f_).Up (f_).Kind (f_).Lo (0:Int) ([] : (List Str)) ([] : (List Int))))) (off := 5) tok3 z0 z4 (leb rfl)) <| .n) fun n16 a w hst => ?_
        replace hst := hst.to [14,16] [_,_] [_,_] rfl rfl
        obtain rfl := sj h
        exact hJp519 _ _ (hst.pick [0,1])
       ·replace h := ite_f b529 h
        refine sr mixed [] hst (fun _ => .o (op_eql z1 .k) <| .o (op_assign z0) <| .n) fun n17 a w hst => ?_
        replace hst := hst.to [1,4,5,6] [_,_,_,_] [_,_] rfl rfl
        obtain ⟨p526,hp526,h⟩ := bind_some h
        have hJp526 : ∀ a w,St M w0 73 [(3,tv (n1 5)),(2,tv (n0 1))] [box (rSapi_Field.cs zz0) (n0 1),box (rSapi_Field.cs p526) (n1 5)] a w → K5 a w := by
         intro a w hst
         obtain rfl := sj h
         exact hJp519 _ _ (hst.pick [0,1])
        replace h := hp526
        clear hp526
        refine wt hst (fun b528 => ?_) (fun b528 => ?_)
        ·replace h := ite_t b528 h
         refine wr mixed [v0 (box (rSapi_Field.cs (Sapi_Field.mk (f_).Name (f_).Of ([] : Str) (f_).Kind (0:Int) (0:Int) ([] : (List Str)) ([] : (List Int)))) (n1 5)),v0 (box (rSapi_Field.cs (Sapi_Field.mk (f_).Name (f_).Of (f_).Up (f_).Kind (0:Int) (0:Int) ([] : (List Str)) ([] : (List Int)))) (n1 5))] hst (fun _ => .o (op_field fld61_1 z2) <| .o (op_loadT (R := rS) (u := (f_).Of) tok9 z0 rfl) <| .o (op_field fld61_2 z4) <| .o (op_loadT (R := rS) (u := (f_).Up) tok9 z0 rfl) <| .u [1] rfl rfl (op_fieldB fld61_1 z5) <| .e [] [1] [2] rfl rfl rfl rfl (op_storeBf (R := rS) (a := (f_).Of) (Ts := (rSapi_Field.cs (Sapi_Field.mk (f_).Name ([] : Str) ([] : Str) (f_).Kind (0:Int) (0:Int) ([] : (List Str)) ([] : (List Int))))) (off := 1) tok9 z0 z3 (leb rfl)) <| .u [2] rfl rfl (op_fieldB fld61_2 z6) <| .e [] [2] [3] rfl rfl rfl rfl (op_storeBf (R := rS) (a := (f_).Up) (Ts := (rSapi_Field.cs (Sapi_Field.mk (f_).Name (f_).Of ([] : Str) (f_).Kind (0:Int) (0:Int) ([] : (List Str)) ([] : (List Int))))) (off := 2) tok9 z0 z2 (leb rfl)) <| .n) fun n18 a w hst => ?_
         replace hst := hst.to [7,9] [_,_] [_,_] rfl rfl
         obtain rfl := sj h
         exact hJp526 _ _ (hst.pick [0,1])
        ·replace h := ite_f b528 h
         refine wp_skip ?_
         obtain rfl := sj h
         exact hJp526 _ _ (hst.pick [1,3])
  replace h := hp277
  clear hp277
  refine wt hst (fun b538 => ?_) (fun b538 => ?_)
  ·replace h := ite_t b538 h
   refine wp_skip ?_
   obtain rfl := sj h
   exact hJp277 _ _ (hst.pick [0,1,2,3,4])
  ·replace h := ite_f b538 h
   refine sr mixed [] hst (fun _ => .o (op_eql z1 .k) <| .o (op_assign z0) <| .n) fun n6 a w hst => ?_
   replace hst := hst.to [1,2,3,4,5] [_,_,_,_,_] [_,_] rfl rfl
   obtain ⟨p535,hp535,h⟩ := bind_some h
   have hJp535 : ∀ a w,St M w0 73 [(16,tb p535),(10,ti (f_).Kind),(3,tv (n1 5)),(1,tptr (rSapi_Field.cs f_)),(2,tv (n0 1))] [box (rSapi_Field.cs zz0) (n0 1),box (rSapi_Field.cs (Sapi_Field.mk (f_).Name ([] : Str) ([] : Str) (f_).Kind (0:Int) (0:Int) ([] : (List Str)) ([] : (List Int)))) (n1 5)] a w → K275 a w := by
    intro a w hst
    obtain rfl := sj h
    exact hJp277 _ _ (hst.pick [0,1,2,3,4])
   replace h := hp535
   clear hp535
   refine wt hst (fun b537 => ?_) (fun b537 => ?_)
   ·replace h := ite_t b537 h
    refine wp_skip ?_
    obtain rfl := sj h
    exact hJp535 _ _ (hst.pick [0,1,2,3,4])
   ·replace h := ite_f b537 h
    refine wr mixed [] hst (fun _ => .o (op_eql z1 .k) <| .o (op_assign z0) <| .n) fun n7 a w hst => ?_
    replace hst := hst.to [1,2,3,4,5] [_,_,_,_,_] [_,_] rfl rfl
    obtain rfl := sj h
    exact hJp535 _ _ (hst.pick [0,1,2,3,4])

/- slices.Equal[[]string,string] -/
noncomputable def fslices_Equal_string (s1_ : (List Str)) (s2_ : (List Str)) : Option (Bool) := (if ((s1_.length : Int) != (s2_.length : Int)) = true then (some false) else (tailrec (fun (s7 : Int) => ((if (decide (s7 < (s1_.length : Int))) = true then (idx s1_ s7).bind fun t18 => (idx s2_ s7).bind fun t22 => (if (t18 != t22) = true then (some (.inr (.inr false))) else (some (.inl (IntKind.i64.wrap (s7 + (1:Int)))))) else (some (.inr (.inl ())))) : Option ((Int) ⊕ ((Unit) ⊕ (Bool))))) (0:Int)).bind fun (e8 : (Unit) ⊕ (Bool)) => (match e8 with | .inl _ => (some true) | .inr p26 => (some p26)))
set_option maxRecDepth 100000 in
set_option maxHeartbeats 4000000 in
theorem slices_Equal_string_ok {s1_ : (List Str)} {s2_ : (List Str)} {r : Bool} (h : fslices_Equal_string s1_ s2_ = some r) : FnOk Tryz.prog 174 [tsl rS s1_,tsl rS s2_] [] (fun _ => []) (fun _ => tb r) := by
 unfold fslices_Equal_string at h
 refine FnOk.enter Tryz.func174 rfl Tryz.ntmps174 (leb rfl) (fun M0 M w0 a hpl hst => ?_)
 replace hst : St M w0 26 [(0,tsl rS s1_),(1,tsl rS s2_)] [] a w0 := hst
 refine sr mixed [] hst (fun _ => .o (op_assign .k) <| .n) fun n0 a w hst => ?_
 replace hst := hst.to [1,2] [_,_] [] rfl rfl
 refine wp_seq_k (fun K2 hK2 => ?_)
 refine sr mixed [] hst (fun _ => .q 0 rfl <| .o (op_len ud32 z0) <| .q 3 rfl <| .o (op_len ud32 z0) <| .o (op_neq z2 z0) <| .n) fun n1 a w hst => ?_
 replace hst := hst.to [4,5,6] [_,_,_] [] rfl rfl
 refine wt hst (fun b37 => ?_) (fun b37 => ?_)
 ·replace h := ite_t b37 h
  refine sr mixed [] hst (fun _ => .o (op_assign .k) <| .n) fun n2 a w hst => ?_
  replace hst := hst.to [0] [_] [] rfl rfl
  refine wp_ret ?_
  obtain rfl := sj h
  exact ret_st undef [] hpl hst rfl (.tmp z0 .nil) rfl rfl rfl
 ·replace h := ite_f b37 h
  refine wp_skip ?_
  refine hK2 _ _ ?_
  try clear hK2 K2
  refine wp_seq_k (fun K5 hK5 => ?_)
  refine sr mixed [] hst (fun _ => .q 1 rfl <| .o (op_len ud32 z0) <| .o (op_move .k) <| .n) fun n3 a w hst => ?_
  replace hst := hst.to [1,2,4,5] [_,_,_,_] [] rfl rfl
  obtain ⟨e8,he8,h⟩ := bind_some h
  have hJp25 : ∀ (p25 : Unit) a w,(.inl p25) = e8 → St M w0 26 [] [] a w → K5 a w := by
   intro p25 a w he hst
   subst he
   simp only at h
   refine hK5 _ _ ?_
   try clear hK5 K5
   refine sr mixed [] hst (fun _ => .o (op_assign .k) <| .n) fun n9 a w hst => ?_
   replace hst := hst.to [0] [_] [] rfl rfl
   refine wp_ret ?_
   obtain rfl := sj h
   exact ret_st undef [] hpl hst rfl (.tmp z0 .nil) rfl rfl rfl
  have hJp26 : ∀ (p26 : Bool) a w,(.inr p26) = e8 → St M w0 26 [(4,tb p26)] [] a w → Ret Tryz.prog Tryz.f174 M0 [] w0 (fun _ => []) (fun _ => tb r) .ret a w := by
   intro p26 a w he hst
   subst he
   simp only at h
   obtain rfl := sj h
   exact ret_st undef [] hpl hst rfl (.tmp z0 .nil) rfl rfl rfl
  refine wp_block ?_
  refine wp_loopK _ (fun (s7 : Int) a w => St M w0 26 [(12,ti (s1_.length : Int)),(13,ti s7),(0,tsl rS s1_),(1,tsl rS s2_)] [] a w) _ _ he8 (hst.pick [0,1,2,3]) ?_
  clear h
  intro s7 o a w K28 hI h ho hK28
  have hst := hI
  clear hI
  refine sr mixed [] hst (fun _ => .o (op_lss z1 z0) <| .n) fun n4 a w hst => ?_
  replace hst := hst.to [0,1,2,3,4] [_,_,_,_,_] [] rfl rfl
  refine wp_seq_k (fun K30 hK30 => ?_)
  refine wt hst (fun b36 => ?_) (fun b36 => ?_)
  ·replace h := ite_t b36 h
   refine wp_skip ?_
   refine hK30 _ _ ?_
   try clear hK30 K30
   refine wp_seq_k (fun K31 hK31 => ?_)
   refine wp_block ?_
   refine sr mixed [] hst (fun _ => .q 2 rfl <| .o (op_assign z0) <| .n) fun n5 a w hst => ?_
   replace hst := hst.to [1,3,4,5,6] [_,_,_,_,_] [] rfl rfl
   obtain ⟨t18,ht18,h⟩ := bind_some h
   obtain ⟨t22,ht22,h⟩ := bind_some h
   refine sr mixed [] hst (fun _ => .q 3 rfl <| .q 1 rfl <| .o (op_index ud32 tok9 z1 z0 ht18) <| .o (op_load tok9 z0) <| .q 8 rfl <| .q 5 rfl <| .o (op_index ud32 tok9 z1 z0 ht22) <| .o (op_load tok9 z0) <| .o (op_neqS z4 z0) <| .n) fun n6 a w hst => ?_
   replace hst := hst.to [8,10,11,12,13] [_,_,_,_,_] [] rfl rfl
   refine wt hst (fun b35 => ?_) (fun b35 => ?_)
   ·replace h := ite_t b35 h
    refine sr mixed [] hst (fun _ => .o (op_assign .k) <| .n) fun n7 a w hst => ?_
    replace hst := hst.to [0] [_] [] rfl rfl
    refine wp_ret ?_
    exact hJp26 _ _ _ (ho _ (sj h).symm) (hst.pick [0])
   ·replace h := ite_f b35 h
    refine wp_skip ?_
    refine hK31 _ _ ?_
    try clear hK31 K31
    refine wr mixed [] hst (fun _ => .o (op_add z2 .k) <| .q 0 rfl <| .n) fun n8 a w hst => ?_
    replace hst := hst.to [1,3,4,5] [_,_,_,_] [] rfl rfl
    exact hK28 _ _ _ (sj h).symm (hst.pick [1,0,2,3])
  ·replace h := ite_f b36 h
   refine wp_exit ?_
   exact hJp25 _ _ _ (ho _ (sj h).symm) (hst.pick [])

end Go.Proofs.YtcdccjagknlmpaaGreatDoor

/- Go functions as Lean functions, and the proofs that they compute them, written by a program. No condition. -/
import Derived.Test.YthdfmpocknmleaaGreatDoorGenH
namespace Go.Proofs.YthdfmpocknmleaaGreatDoor
open Go.Sim

/- diorama/dioramaref10.leads -/
noncomputable def fref10_leads (x_ : Sapi_Schema) (kind_ : Int) (field_ : Int) : Option (Int) := (idx (x_).Kinds kind_).bind fun t16 => (idx (t16).Fields field_).bind fun t20 => (fref10_Up x_ kind_ field_).bind fun t25 => (if (((t20).Kind == (0:Int)) && (decide (field_ > (0:Int)))) = true then (some (13:Int)) else ((if ((t20).Kind == (0:Int)) = true then (some ((t20).Kind == (0:Int))) else ((if ((t20).Kind == (2:Int)) = true then (some ((t20).Kind == (2:Int))) else (some ((t20).Kind == (3:Int))))).bind fun (p238 : Bool) => (some p238))).bind fun (p12 : Bool) => (if p12 = true then (some (0:Int)) else (jn (fun (_ : Unit) => (some (0:Int))) fun j131 => (if ((t20).Kind == (1:Int)) = true then (if (decide (t25 < (0:Int))) = true then (some (12:Int)) else (j131 ())) else (jn (fun (_ : Unit) => (j131 ())) fun j186 => (if ((t20).Kind == (4:Int)) = true then (idx (x_).Kinds kind_).bind fun t53 => (fref10_Field t53 (t20).Of).bind fun t57 => (if ((t20).Of == ([] : Str)) = true then (some (0:Int)) else (if ((decide (t57 < (0:Int))) || (decide (t57 ≥ field_))) = true then (some (12:Int)) else (idx (x_).Kinds kind_).bind fun t71 => (idx (t71).Fields t57).bind fun t75 => (if ((t75).Kind != (4:Int)) = true then (some (12:Int)) else (j186 ())))) else (if ((t20).Kind == (5:Int)) = true then (tailrec (fun (s202 : Int) => ((if (decide (s202 < ((x_).Lives.length : Int))) = true then (idx (x_).Lives s202).bind fun t91 => (if ((t91).Name == (t20).Of) = true then (some (.inr (.inr (0:Int)))) else (some (.inl (IntKind.i64.wrap (s202 + (1:Int)))))) else (some (.inr (.inl ())))) : Option ((Int) ⊕ ((Unit) ⊕ (Int))))) (0:Int)).bind fun (e203 : (Unit) ⊕ (Int)) => (match e203 with | .inl _ => (some (12:Int)) | .inr p212 => (some p212)) else (if ((t20).Kind == (6:Int)) = true then (fref10_Sums x_ kind_ field_).bind fun t103 => (if (decide (t103.1 < (0:Int))) = true then (some (12:Int)) else (if ((t103.2.length : Int) != (1:Int)) = true then (some (11:Int)) else (j186 ()))) else (fref10_above x_ kind_ field_ t25).bind fun t39 => (some t39)))))))))
set_option maxRecDepth 100000 in
set_option maxHeartbeats 4000000 in
theorem ref10_leads_ok {x_ : Sapi_Schema} {kind_ : Int} {field_ : Int} {r : Int} (h : fref10_leads x_ kind_ field_ = some r) : FnOk Tryz.prog 41 [rSapi_Schema.ty x_,ti kind_,ti field_] [] (fun _ => []) (fun _ => ti r) := by
 unfold fref10_leads at h
 refine FnOk.enter Tryz.func41 rfl Tryz.ntmps41 (leb rfl) (fun M0 M w0 a hpl hst => ?_)
 replace hst : St M w0 111 [(0,rSapi_Schema.ty x_),(1,ti kind_),(2,ti field_)] [] a w0 := hst
 refine sr mixed [] hst (fun _ => .o (op_boxR (R := rSapi_Schema) (u := x_) z0) <| .o (op_assign .k) <| .n) fun n0 a w hst => ?_
 replace hst := hst.to [0,3,4] [_,_,_] [] rfl rfl
 obtain ⟨t16,ht16,h⟩ := bind_some h
 obtain ⟨t20,ht20,h⟩ := bind_some h
 refine sr mixed [v1 9 (fun v0 => box (rSapi_Field.cs zz0) v0),v1 9 (fun v0 => box (rSapi_Field.cs t20) v0)] hst (fun _ => .o (op_field fld34_1 z0) <| .o (op_loadT (R := (rSl rSapi_Kind)) (u := (x_).Kinds) tok30 z0 rfl) <| .q 3 rfl <| .o (op_index ud30 tok47 z1 z0 ht16) <| .o (op_field fld47_3 z0) <| .o (op_loadT (R := (rSl rSapi_Field)) (u := (t16).Fields) tok45 z0 rfl) <| .q 8 rfl <| .o (op_index ud45 tok44 z1 z0 ht20) <| .o (op_load tok44 z0) <| .m [] [0] rfl rfl rfl (op_alloc (R := rSapi_Field) (a := zz0) tok44 zok44) <| .e [] [0] [1] rfl rfl rfl rfl (op_storeB (R := rSapi_Field) (a := t20) tok44 z0 z1 (leb rfl)) <| .n) fun n1 a w hst => ?_
 replace hst : St _ _ _ [_,_,_,_] [] _ _ := (((hst.pick [9,10,11,12]).shareB 0 rfl).add 0 rfl (fun _ _ _ h => h.2)).pick [0,3,4,5]
 obtain ⟨t25,ht25,h⟩ := bind_some h
 refine sr mixed [] hst (fun _ => .o (op_load tok34 z1) <| .q 3 rfl <| .q 5 rfl <| .o (op_callF call16 (ref10_Up_ok ht25) (.cons (.of z2) <| .cons (.of z1) <| .cons (.of z0) <| .nil)) <| .o (op_assign z0) <| .n) fun n2 a w hst => ?_
 replace hst := hst.to [4,5,6,7,8] [_,_,_,_,_] [] rfl rfl
 refine wp_seq_k (fun K5 hK5 => ?_)
 refine sr mixed [] hst (fun _ => .o (op_field fld44_3 z1) <| .o (op_loadT (R := rI) (u := (t20).Kind) tok3 z0 rfl) <| .o (op_eql z0 .k) <| .q 0 rfl <| .g rfl rfl (.b 0 rfl) (fun _ => op_move z8) <| .g rfl rfl (.b 1 rfl) (fun hc => op_gtr (.cond z0 hc) .k) <| .o (op_and z2 (fun hp => (.cond z0 (beqT hp)))) <| .n) fun n3 a w hst => ?_
 replace hst := hst.to [6,7,8,9,10,11] [_,_,_,_,_,_] [] rfl rfl
 refine wt hst (fun b242 => ?_) (fun b242 => ?_)
 ·replace h := ite_t b242 h
  refine sr mixed [] hst (fun _ => .o (op_assign .k) <| .n) fun n4 a w hst => ?_
  replace hst := hst.to [0] [_] [] rfl rfl
  refine wp_ret ?_
  obtain rfl := sj h
  exact ret_st undef [] hpl hst rfl (.tmp z0 .nil) rfl rfl rfl
 ·replace h := ite_f b242 h
  refine wp_skip ?_
  refine hK5 _ _ ?_
  try clear hK5 K5
  refine wp_seq_k (fun K8 hK8 => ?_)
  refine sr mixed [] hst (fun _ => .o (op_field fld44_3 z2) <| .o (op_loadT (R := rI) (u := (t20).Kind) tok3 z0 rfl) <| .n) fun n5 a w hst => ?_
  replace hst := hst.to [1,3,4,5,6,7] [_,_,_,_,_,_] [] rfl rfl
  refine wp_block ?_
  refine wp_seq_k (fun K10 hK10 => ?_)
  refine sr mixed [] hst (fun _ => .o (op_eql z0 .k) <| .o (op_assign z0) <| .n) fun n7 a w hst => ?_
  replace hst := hst.to [1,2,3,4,5,6,7] [_,_,_,_,_,_,_] [] rfl rfl
  obtain ⟨p12,hp12,h⟩ := bind_some h
  have hJp12 : ∀ a w,St M w0 111 [(40,tb p12),(34,ti (t20).Kind),(8,ti t25),(7,tptr (rSapi_Field.cs t20)),(3,tptr (rSapi_Schema.cs x_)),(1,ti kind_),(2,ti field_)] [] a w → K10 a w := by
   intro a w hst
   refine hK10 _ _ ?_
   try clear hK10 K10
   refine wt hst (fun b236 => ?_) (fun b236 => ?_)
   ·replace h := ite_t b236 h
    refine sr mixed [] hst (fun _ => .o (op_assign .k) <| .n) fun n10 a w hst => ?_
    replace hst := hst.to [0] [_] [] rfl rfl
    refine wp_ret ?_
    obtain rfl := sj h
    exact ret_st undef [] hpl hst rfl (.tmp z0 .nil) rfl rfl rfl
   ·replace h := ite_f b236 h
    refine sr mixed [] hst (fun _ => .o (op_eql z1 .k) <| .o (op_assign z0) <| .n) fun n11 a w hst => ?_
    replace hst := hst.to [1,3,4,5,6,7,8] [_,_,_,_,_,_,_] [] rfl rfl
    obtain ⟨j131,hj131,h⟩ := jn_elim h
    have hJp20 : ∀ (p20 : Unit) a w,j131 p20 = some r → St M w0 111 [] [] a w → K8 a w := by
     intro p20 a w h hst
     rw [hj131] at h
     clear hj131
     refine hK8 _ _ ?_
     try clear hK8 K8
     refine sr mixed [] hst (fun _ => .o (op_assign .k) <| .n) fun n35 a w hst => ?_
     replace hst := hst.to [0] [_] [] rfl rfl
     refine wp_ret ?_
     obtain rfl := sj h
     exact ret_st undef [] hpl hst rfl (.tmp z0 .nil) rfl rfl rfl
    clear hj131
    refine wt hst (fun b235 => ?_) (fun b235 => ?_)
    ·replace h := ite_t b235 h
     refine sr mixed [] hst (fun _ => .q 2 rfl <| .o (op_lss z0 .k) <| .n) fun n12 a w hst => ?_
     replace hst := hst.to [1] [_] [] rfl rfl
     refine wt hst (fun b135 => ?_) (fun b135 => ?_)
     ·replace h := ite_t b135 h
      refine sr mixed [] hst (fun _ => .o (op_assign .k) <| .n) fun n13 a w hst => ?_
      replace hst := hst.to [0] [_] [] rfl rfl
      refine wp_ret ?_
      obtain rfl := sj h
      exact ret_st undef [] hpl hst rfl (.tmp z0 .nil) rfl rfl rfl
     ·replace h := ite_f b135 h
      refine wp_skip ?_
      exact hJp20 _ _ _ h (hst.pick [])
    ·replace h := ite_f b235 h
     refine sr mixed [] hst (fun _ => .o (op_eql z1 .k) <| .o (op_assign z0) <| .n) fun n14 a w hst => ?_
     replace hst := hst.to [1,3,4,5,6,7,8] [_,_,_,_,_,_,_] [] rfl rfl
     obtain ⟨j186,hj186,h⟩ := jn_elim h
     have hJp137 : ∀ (p137 : Unit) a w,j186 p137 = some r → St M w0 111 [] [] a w → K8 a w := by
      intro p137 a w h hst
      rw [hj186] at h
      clear hj186
      exact hJp20 _ _ _ h (hst.pick [])
     clear hj186
     refine wt hst (fun b234 => ?_) (fun b234 => ?_)
     ·replace h := ite_t b234 h
      obtain ⟨t53,ht53,h⟩ := bind_some h
      obtain ⟨t57,ht57,h⟩ := bind_some h
      refine sr mixed [] hst (fun _ => .o (op_field fld34_1 z4) <| .o (op_loadT (R := (rSl rSapi_Kind)) (u := (x_).Kinds) tok30 z0 rfl) <| .q 7 rfl <| .o (op_index ud30 tok47 z1 z0 ht53) <| .o (op_load tok47 z0) <| .o (op_field fld44_1 z8) <| .o (op_loadT (R := rS) (u := (t20).Of) tok9 z0 rfl) <| .o (op_callF call21 (ref10_Field_ok ht57) (.cons (.of z2) <| .cons (.of z0) <| .nil)) <| .o (op_assign z0) <| .n) fun n15 a w hst => ?_
      replace hst := hst.to [8,12,13,14,15] [_,_,_,_,_] [] rfl rfl
      refine wp_seq_k (fun K188 hK188 => ?_)
      refine sr mixed [] hst (fun _ => .o (op_field fld44_1 z1) <| .o (op_loadT (R := rS) (u := (t20).Of) tok9 z0 rfl) <| .o (op_eqlS z0 .k) <| .n) fun n16 a w hst => ?_
      replace hst := hst.to [2,3,5,6,7] [_,_,_,_,_] [] rfl rfl
      refine wt hst (fun b198 => ?_) (fun b198 => ?_)
      ·replace h := ite_t b198 h
       refine sr mixed [] hst (fun _ => .o (op_assign .k) <| .n) fun n17 a w hst => ?_
       replace hst := hst.to [0] [_] [] rfl rfl
       refine wp_ret ?_
       obtain rfl := sj h
       exact ret_st undef [] hpl hst rfl (.tmp z0 .nil) rfl rfl rfl
      ·replace h := ite_f b198 h
       refine wp_skip ?_
       refine hK188 _ _ ?_
       try clear hK188 K188
       refine wp_seq_k (fun K191 hK191 => ?_)
       refine sr mixed [] hst (fun _ => .q 1 rfl <| .o (op_lss z0 .k) <| .q 0 rfl <| .g rfl rfl (.b 0 rfl) (fun _ => op_move z4) <| .g rfl rfl (.b 1 rfl) (fun _ => op_move z8) <| .g rfl rfl (.b 2 rfl) (fun hc => op_geq (.cond z1 hc) (.cond z0 hc)) <| .o (op_or z3 (fun hp => (.cond z0 (beqF hp)))) <| .n) fun n18 a w hst => ?_
       replace hst := hst.to [6,8,9,10] [_,_,_,_] [] rfl rfl
       refine wt hst (fun b197 => ?_) (fun b197 => ?_)
       ·replace h := ite_t b197 h
        refine sr mixed [] hst (fun _ => .o (op_assign .k) <| .n) fun n19 a w hst => ?_
        replace hst := hst.to [0] [_] [] rfl rfl
        refine wp_ret ?_
        obtain rfl := sj h
        exact ret_st undef [] hpl hst rfl (.tmp z0 .nil) rfl rfl rfl
       ·replace h := ite_f b197 h
        refine wp_skip ?_
        refine hK191 _ _ ?_
        try clear hK191 K191
        obtain ⟨t71,ht71,h⟩ := bind_some h
        obtain ⟨t75,ht75,h⟩ := bind_some h
        refine sr mixed [] hst (fun _ => .o (op_field fld34_1 z2) <| .o (op_loadT (R := (rSl rSapi_Kind)) (u := (x_).Kinds) tok30 z0 rfl) <| .q 5 rfl <| .o (op_index ud30 tok47 z1 z0 ht71) <| .o (op_field fld47_3 z0) <| .o (op_loadT (R := (rSl rSapi_Field)) (u := (t71).Fields) tok45 z0 rfl) <| .q 7 rfl <| .o (op_index ud45 tok44 z1 z0 ht75) <| .o (op_field fld44_3 z0) <| .o (op_loadT (R := rI) (u := (t75).Kind) tok3 z0 rfl) <| .o (op_neq z0 .k) <| .n) fun n20 a w hst => ?_
        replace hst := hst.to [10] [_] [] rfl rfl
        refine wt hst (fun b196 => ?_) (fun b196 => ?_)
        ·replace h := ite_t b196 h
         refine sr mixed [] hst (fun _ => .o (op_assign .k) <| .n) fun n21 a w hst => ?_
         replace hst := hst.to [0] [_] [] rfl rfl
         refine wp_ret ?_
         obtain rfl := sj h
         exact ret_st undef [] hpl hst rfl (.tmp z0 .nil) rfl rfl rfl
        ·replace h := ite_f b196 h
         refine wp_skip ?_
         exact hJp137 _ _ _ h (hst.pick [])
     ·replace h := ite_f b234 h
      refine sr mixed [] hst (fun _ => .o (op_eql z1 .k) <| .o (op_assign z0) <| .n) fun n22 a w hst => ?_
      replace hst := hst.to [1,3,4,5,6,7,8] [_,_,_,_,_,_,_] [] rfl rfl
      refine wt hst (fun b233 => ?_) (fun b233 => ?_)
      ·replace h := ite_t b233 h
       refine wp_seq_k (fun K200 hK200 => ?_)
       refine sr mixed [] hst (fun _ => .o (op_assign .k) <| .n) fun n23 a w hst => ?_
       replace hst := hst.to [0,4,5] [_,_,_] [] rfl rfl
       obtain ⟨e203,he203,h⟩ := bind_some h
       have hJp211 : ∀ (p211 : Unit) a w,(.inl p211) = e203 → St M w0 111 [] [] a w → K200 a w := by
        intro p211 a w he hst
        subst he
        simp only at h
        refine hK200 _ _ ?_
        try clear hK200 K200
        refine sr mixed [] hst (fun _ => .o (op_assign .k) <| .n) fun n28 a w hst => ?_
        replace hst := hst.to [0] [_] [] rfl rfl
        refine wp_ret ?_
        obtain rfl := sj h
        exact ret_st undef [] hpl hst rfl (.tmp z0 .nil) rfl rfl rfl
       have hJp212 : ∀ (p212 : Int) a w,(.inr p212) = e203 → St M w0 111 [(6,ti p212)] [] a w → Ret Tryz.prog Tryz.f41 M0 [] w0 (fun _ => []) (fun _ => ti r) .ret a w := by
        intro p212 a w he hst
        subst he
        simp only at h
        obtain rfl := sj h
        exact ret_st undef [] hpl hst rfl (.tmp z0 .nil) rfl rfl rfl
       refine wp_block ?_
       refine wp_loopK _ (fun (s202 : Int) a w => St M w0 111 [(10,ti s202),(7,tptr (rSapi_Field.cs t20)),(3,tptr (rSapi_Schema.cs x_))] [] a w) _ _ he203 (hst.pick [0,1,2]) ?_
       clear h
       intro s202 o a w K214 hI h ho hK214
       have hst := hI
       clear hI
       refine wp_seq_k (fun K215 hK215 => ?_)
       refine sr mixed [] hst (fun _ => .q 0 rfl <| .o (op_field fld34_2 z3) <| .o (op_loadT (R := (rSl rSapi_Life)) (u := (x_).Lives) tok31 z0 rfl) <| .o (op_len ud31 z0) <| .o (op_lss z3 z0) <| .n) fun n24 a w hst => ?_
       replace hst := hst.to [4,5,6,7] [_,_,_,_] [] rfl rfl
       refine wt hst (fun b221 => ?_) (fun b221 => ?_)
       ·replace h := ite_t b221 h
        refine wp_skip ?_
        refine hK215 _ _ ?_
        try clear hK215 K215
        refine wp_seq_k (fun K217 hK217 => ?_)
        refine wp_block ?_
        obtain ⟨t91,ht91,h⟩ := bind_some h
        refine sr mixed [] hst (fun _ => .o (op_field fld34_2 z3) <| .o (op_loadT (R := (rSl rSapi_Life)) (u := (x_).Lives) tok31 z0 rfl) <| .q 3 rfl <| .o (op_index ud31 tok67 z1 z0 ht91) <| .o (op_field fld67_0 z0) <| .o (op_loadT (R := rS) (u := (t91).Name) tok9 z0 rfl) <| .o (op_field fld44_1 z8) <| .o (op_loadT (R := rS) (u := (t20).Of) tok9 z0 rfl) <| .o (op_eqlS z2 z0) <| .n) fun n26 a w hst => ?_
        replace hst := hst.to [8,10,11,12] [_,_,_,_] [] rfl rfl
        refine wt hst (fun b220 => ?_) (fun b220 => ?_)
        ·replace h := ite_t b220 h
         refine sr mixed [] hst (fun _ => .o (op_assign .k) <| .n) fun n27 a w hst => ?_
         replace hst := hst.to [0] [_] [] rfl rfl
         refine wp_ret ?_
         exact hJp212 _ _ _ (ho _ (sj h).symm) (hst.pick [0])
        ·replace h := ite_f b220 h
         refine wp_skip ?_
         refine hK217 _ _ ?_
         try clear hK217 K217
         refine wr mixed [] hst (fun _ => .q 1 rfl <| .o (op_add z0 .k) <| .o (op_assign z0) <| .n) fun n25 a w hst => ?_
         replace hst := hst.to [2,4,5] [_,_,_] [] rfl rfl
         exact hK214 _ _ _ (sj h).symm (hst.pick [0,1,2])
       ·replace h := ite_f b221 h
        refine wp_exit ?_
        exact hJp211 _ _ _ (ho _ (sj h).symm) (hst.pick [])
      ·replace h := ite_f b233 h
       refine sr mixed [] hst (fun _ => .o (op_eql z1 .k) <| .o (op_assign z0) <| .n) fun n29 a w hst => ?_
       replace hst := hst.to [1,4,6,7,8] [_,_,_,_,_] [] rfl rfl
       refine wt hst (fun b232 => ?_) (fun b232 => ?_)
       ·replace h := ite_t b232 h
        obtain ⟨t103,ht103,h⟩ := bind_some h
        refine sr mixed [] hst (fun _ => .o (op_load tok34 z2) <| .q 4 rfl <| .q 6 rfl <| .o (op_callF call46 (ref10_Sums_ok ht103) (.cons (.of z2) <| .cons (.of z1) <| .cons (.of z0) <| .nil)) <| .q 0 rfl <| .o (op_extract z0 rfl) <| .o (op_extract z1 rfl) <| .o (op_assign z1) <| .o (op_assign z1) <| .n) fun n30 a w hst => ?_
        replace hst := hst.to [7,8] [_,_] [] rfl rfl
        refine wp_seq_k (fun K224 hK224 => ?_)
        refine sr mixed [] hst (fun _ => .q 0 rfl <| .o (op_lss z0 .k) <| .n) fun n31 a w hst => ?_
        replace hst := hst.to [1,3] [_,_] [] rfl rfl
        refine wt hst (fun b230 => ?_) (fun b230 => ?_)
        ·replace h := ite_t b230 h
         refine sr mixed [] hst (fun _ => .o (op_assign .k) <| .n) fun n32 a w hst => ?_
         replace hst := hst.to [0] [_] [] rfl rfl
         refine wp_ret ?_
         obtain rfl := sj h
         exact ret_st undef [] hpl hst rfl (.tmp z0 .nil) rfl rfl rfl
        ·replace h := ite_f b230 h
         refine wp_skip ?_
         refine hK224 _ _ ?_
         try clear hK224 K224
         refine sr mixed [] hst (fun _ => .q 1 rfl <| .o (op_len ud22 z0) <| .o (op_neq z0 .k) <| .n) fun n33 a w hst => ?_
         replace hst := hst.to [2] [_] [] rfl rfl
         refine wt hst (fun b229 => ?_) (fun b229 => ?_)
         ·replace h := ite_t b229 h
          refine sr mixed [] hst (fun _ => .o (op_assign .k) <| .n) fun n34 a w hst => ?_
          replace hst := hst.to [0] [_] [] rfl rfl
          refine wp_ret ?_
          obtain rfl := sj h
          exact ret_st undef [] hpl hst rfl (.tmp z0 .nil) rfl rfl rfl
         ·replace h := ite_f b229 h
          refine wp_skip ?_
          exact hJp137 _ _ _ h (hst.pick [])
       ·replace h := ite_f b232 h
        obtain ⟨t39,ht39,h⟩ := bind_some h
        refine sr mixed [] hst (fun _ => .o (op_load tok34 z2) <| .q 4 rfl <| .q 6 rfl <| .q 4 rfl <| .o (op_callF call94 (ref10_above_ok ht39) (.cons (.of z3) <| .cons (.of z2) <| .cons (.of z1) <| .cons (.of z0) <| .nil)) <| .o (op_assign z0) <| .n) fun n6 a w hst => ?_
        replace hst := hst.to [5] [_] [] rfl rfl
        refine wp_ret ?_
        obtain rfl := sj h
        exact ret_st undef [] hpl hst rfl (.tmp z0 .nil) rfl rfl rfl
  replace h := hp12
  clear hp12
  refine wt hst (fun b241 => ?_) (fun b241 => ?_)
  ·replace h := ite_t b241 h
   refine wp_skip ?_
   obtain rfl := sj h
   exact hJp12 _ _ (hst.pick [0,1,2,3,4,5,6])
  ·replace h := ite_f b241 h
   refine sr mixed [] hst (fun _ => .o (op_eql z1 .k) <| .o (op_assign z0) <| .n) fun n8 a w hst => ?_
   replace hst := hst.to [1,2,3,4,5,6,7] [_,_,_,_,_,_,_] [] rfl rfl
   obtain ⟨p238,hp238,h⟩ := bind_some h
   have hJp238 : ∀ a w,St M w0 111 [(40,tb p238),(34,ti (t20).Kind),(8,ti t25),(7,tptr (rSapi_Field.cs t20)),(3,tptr (rSapi_Schema.cs x_)),(1,ti kind_),(2,ti field_)] [] a w → K10 a w := by
    intro a w hst
    obtain rfl := sj h
    exact hJp12 _ _ (hst.pick [0,1,2,3,4,5,6])
   replace h := hp238
   clear hp238
   refine wt hst (fun b240 => ?_) (fun b240 => ?_)
   ·replace h := ite_t b240 h
    refine wp_skip ?_
    obtain rfl := sj h
    exact hJp238 _ _ (hst.pick [0,1,2,3,4,5,6])
   ·replace h := ite_f b240 h
    refine wr mixed [] hst (fun _ => .o (op_eql z1 .k) <| .o (op_assign z0) <| .n) fun n9 a w hst => ?_
    replace hst := hst.to [1,2,3,4,5,6,7] [_,_,_,_,_,_,_] [] rfl rfl
    obtain rfl := sj h
    exact hJp238 _ _ (hst.pick [0,1,2,3,4,5,6])

/- diorama/dioramaref10.rules -/
noncomputable def fref10_rules (x_ : Sapi_Schema) (i_ : Int) : Option (Int) := (idx (x_).Rules i_).bind fun t16 => (tailrec (fun (s6 : Int) => ((if (decide (s6 < i_)) = true then (idx (x_).Rules s6).bind fun t26 => (if ((t26).Name == (t16).Name) = true then (some (.inr (.inr (7:Int)))) else (some (.inl (IntKind.i64.wrap (s6 + (1:Int)))))) else (some (.inr (.inl ())))) : Option ((Int) ⊕ ((Unit) ⊕ (Int))))) (0:Int)).bind fun (e7 : (Unit) ⊕ (Int)) => (match e7 with | .inl _ => (fref10_Kind x_ (t16).Kind).bind fun t35 => (if (decide (t35 < (0:Int))) = true then (some (12:Int)) else (tailrec (fun (s32 : Int × Bool) => ((if (decide (s32.1 < (2:Int))) = true then (jn (fun (p97 : Bool) => (some (.inl ((IntKind.i64.wrap (s32.1 + (1:Int))),p97)))) fun j107 => (idx [(t16).A,(t16).B] s32.1).bind fun t49 => (if (t49 == ([] : Str)) = true then (j107 s32.2) else (idx (x_).Kinds t35).bind fun t55 => (idx [(t16).A,(t16).B] s32.1).bind fun t59 => (fref10_Field t55 t59).bind fun t61 => (if (decide (t61 < (0:Int))) = true then (some (.inr (.inr (12:Int)))) else (idx (x_).Kinds t35).bind fun t67 => (idx (t67).Fields t61).bind fun t71 => (j107 (s32.2 || (((t71).Kind != (2:Int)) && ((t71).Kind != (4:Int)))))))) else (some (.inr (.inl s32.2)))) : Option ((Int × Bool) ⊕ ((Bool) ⊕ (Int))))) ((0:Int),false)).bind fun (e33 : (Bool) ⊕ (Int)) => (match e33 with | .inl p82 => (if p82 = true then (some (13:Int)) else (if ((t16).A == (t16).B) = true then (some (1:Int)) else (some (0:Int)))) | .inr p83 => (some p83))) | .inr p23 => (some p23))
set_option maxRecDepth 100000 in
set_option maxHeartbeats 4000000 in
theorem ref10_rules_ok {x_ : Sapi_Schema} {i_ : Int} {r : Int} (h : fref10_rules x_ i_ = some r) : FnOk Tryz.prog 42 [rSapi_Schema.ty x_,ti i_] [] (fun _ => []) (fun _ => ti r) := by
 unfold fref10_rules at h
 refine FnOk.enter Tryz.func42 rfl Tryz.ntmps42 (leb rfl) (fun M0 M w0 a hpl hst => ?_)
 replace hst : St M w0 89 [(0,rSapi_Schema.ty x_),(1,ti i_)] [] a w0 := hst
 refine sr mixed [] hst (fun _ => .o (op_boxR (R := rSapi_Schema) (u := x_) z0) <| .o (op_assign .k) <| .n) fun n0 a w hst => ?_
 replace hst := hst.to [0,3] [_,_] [] rfl rfl
 obtain ⟨t16,ht16,h⟩ := bind_some h
 refine sr mixed [v1 5 (fun v0 => box (rSapi_Rule.cs zz3) v0),v1 5 (fun v0 => box (rSapi_Rule.cs t16) v0)] hst (fun _ => .o (op_field fld34_3 z0) <| .o (op_loadT (R := (rSl rSapi_Rule)) (u := (x_).Rules) tok32 z0 rfl) <| .q 3 rfl <| .o (op_index ud32 tok100 z1 z0 ht16) <| .o (op_load tok100 z0) <| .m [] [0] rfl rfl rfl (op_alloc (R := rSapi_Rule) (a := zz3) tok100 zok100) <| .e [] [0] [1] rfl rfl rfl rfl (op_storeB (R := rSapi_Rule) (a := t16) tok100 z0 z1 (leb rfl)) <| .n) fun n1 a w hst => ?_
 replace hst : St _ _ _ [_,_,_] [] _ _ := (((hst.pick [5,6,7]).shareB 0 rfl).add 0 rfl (fun _ _ _ h => h.2)).pick [0,3,4]
 refine wp_seq_k (fun K4 hK4 => ?_)
 refine sr mixed [] hst (fun _ => .o (op_assign .k) <| .n) fun n2 a w hst => ?_
 replace hst := hst.to [0,1,2,3] [_,_,_,_] [] rfl rfl
 obtain ⟨e7,he7,h⟩ := bind_some h
 have hJp22 : ∀ (p22 : Unit) a w,(.inl p22) = e7 → St M w0 89 [(5,tptr (rSapi_Rule.cs t16)),(2,tptr (rSapi_Schema.cs x_))] [] a w → K4 a w := by
  intro p22 a w he hst
  subst he
  simp only at h
  refine hK4 _ _ ?_
  try clear hK4 K4
  obtain ⟨t35,ht35,h⟩ := bind_some h
  refine sr mixed [] hst (fun _ => .o (op_load tok34 z1) <| .o (op_field fld100_1 z1) <| .o (op_loadT (R := rS) (u := (t16).Kind) tok9 z0 rfl) <| .o (op_callF call19 (ref10_Kind_ok ht35) (.cons (.of z2) <| .cons (.of z0) <| .nil)) <| .o (op_assign z0) <| .n) fun n7 a w hst => ?_
  replace hst := hst.to [4,5,6] [_,_,_] [] rfl rfl
  refine wp_seq_k (fun K25 hK25 => ?_)
  refine sr mixed [] hst (fun _ => .q 0 rfl <| .o (op_lss z0 .k) <| .n) fun n8 a w hst => ?_
  replace hst := hst.to [1,2,3,4] [_,_,_,_] [] rfl rfl
  refine wt hst (fun b118 => ?_) (fun b118 => ?_)
  ·replace h := ite_t b118 h
   refine sr mixed [] hst (fun _ => .o (op_assign .k) <| .n) fun n9 a w hst => ?_
   replace hst := hst.to [0] [_] [] rfl rfl
   refine wp_ret ?_
   obtain rfl := sj h
   exact ret_st undef [] hpl hst rfl (.tmp z0 .nil) rfl rfl rfl
  ·replace h := ite_f b118 h
   refine wp_skip ?_
   refine hK25 _ _ ?_
   try clear hK25 K25
   refine sr mixed [] hst (fun _ => .o (op_field fld100_2 z2) <| .o (op_loadT (R := rS) (u := (t16).A) tok9 z0 rfl) <| .o (op_field fld100_3 z4) <| .o (op_loadT (R := rS) (u := (t16).B) tok9 z0 rfl) <| .o (op_buildSl (R := rS) (us := [(t16).A,(t16).B]) ud38 tok9 (.cons z2 <| .cons z0 <| .nil _) rfl (leb rfl)) <| .o (op_assign z0) <| .n) fun n10 a w hst => ?_
   replace hst := hst.to [5,7,8,9] [_,_,_,_] [] rfl rfl
   refine sr mixed [] hst (fun _ => .o (op_assign .k) <| .n) fun n11 a w hst => ?_
   replace hst := hst.to [0,1,2,3,4] [_,_,_,_,_] [] rfl rfl
   refine wp_seq_k (fun K30 hK30 => ?_)
   refine sr mixed [] hst (fun _ => .o (op_assign .k) <| .n) fun n12 a w hst => ?_
   replace hst := hst.to [0,1,2,3,4,5] [_,_,_,_,_,_] [] rfl rfl
   obtain ⟨e33,he33,h⟩ := bind_some h
   have hJp82 : ∀ (p82 : Bool) a w,(.inl p82) = e33 → St M w0 89 [(9,tb p82),(5,tptr (rSapi_Rule.cs t16))] [] a w → K30 a w := by
    intro p82 a w he hst
    subst he
    simp only at h
    refine hK30 _ _ ?_
    try clear hK30 K30
    refine wp_seq_k (fun K84 hK84 => ?_)
    refine sr mixed [] hst (fun _ => .q 0 rfl <| .n) fun n21 a w hst => ?_
    replace hst := hst.to [0,2] [_,_] [] rfl rfl
    refine wt hst (fun b92 => ?_) (fun b92 => ?_)
    ·replace h := ite_t b92 h
     refine sr mixed [] hst (fun _ => .o (op_assign .k) <| .n) fun n22 a w hst => ?_
     replace hst := hst.to [0] [_] [] rfl rfl
     refine wp_ret ?_
     obtain rfl := sj h
     exact ret_st undef [] hpl hst rfl (.tmp z0 .nil) rfl rfl rfl
    ·replace h := ite_f b92 h
     refine wp_skip ?_
     refine hK84 _ _ ?_
     try clear hK84 K84
     refine wp_seq_k (fun K87 hK87 => ?_)
     refine sr mixed [] hst (fun _ => .o (op_field fld100_2 z1) <| .o (op_loadT (R := rS) (u := (t16).A) tok9 z0 rfl) <| .o (op_field fld100_3 z3) <| .o (op_loadT (R := rS) (u := (t16).B) tok9 z0 rfl) <| .o (op_eqlS z2 z0) <| .n) fun n23 a w hst => ?_
     replace hst := hst.to [4] [_] [] rfl rfl
     refine wt hst (fun b91 => ?_) (fun b91 => ?_)
     ·replace h := ite_t b91 h
      refine sr mixed [] hst (fun _ => .o (op_assign .k) <| .n) fun n24 a w hst => ?_
      replace hst := hst.to [0] [_] [] rfl rfl
      refine wp_ret ?_
      obtain rfl := sj h
      exact ret_st undef [] hpl hst rfl (.tmp z0 .nil) rfl rfl rfl
     ·replace h := ite_f b91 h
      refine wp_skip ?_
      refine hK87 _ _ ?_
      try clear hK87 K87
      refine sr mixed [] hst (fun _ => .o (op_assign .k) <| .n) fun n25 a w hst => ?_
      replace hst := hst.to [0] [_] [] rfl rfl
      refine wp_ret ?_
      obtain rfl := sj h
      exact ret_st undef [] hpl hst rfl (.tmp z0 .nil) rfl rfl rfl
   have hJp83 : ∀ (p83 : Int) a w,(.inr p83) = e33 → St M w0 89 [(4,ti p83)] [] a w → Ret Tryz.prog Tryz.f42 M0 [] w0 (fun _ => []) (fun _ => ti r) .ret a w := by
    intro p83 a w he hst
    subst he
    simp only at h
    obtain rfl := sj h
    exact ret_st undef [] hpl hst rfl (.tmp z0 .nil) rfl rfl rfl
   refine wp_block ?_
   refine wp_loopK _ (fun (s32 : Int × Bool) a w => St M w0 89 [(10,ti s32.1),(9,tb s32.2),(8,tsl rS [(t16).A,(t16).B]),(7,ti t35),(5,tptr (rSapi_Rule.cs t16)),(2,tptr (rSapi_Schema.cs x_))] [] a w) _ _ he33 (hst.pick [0,1,2,3,4,5]) ?_
   clear h
   intro s32 o a w K93 hI h ho hK93
   have hst := hI
   clear hI
   refine wp_seq_k (fun K94 hK94 => ?_)
   refine sr mixed [] hst (fun _ => .q 0 rfl <| .o (op_lss z0 .k) <| .n) fun n13 a w hst => ?_
   replace hst := hst.to [1,2,3,4,5,6,7] [_,_,_,_,_,_,_] [] rfl rfl
   refine wt hst (fun b117 => ?_) (fun b117 => ?_)
   ·replace h := ite_t b117 h
    refine wp_skip ?_
    refine hK94 _ _ ?_
    try clear hK94 K94
    refine wp_seq_k (fun K96 hK96 => ?_)
    obtain ⟨j107,hj107,h⟩ := jn_elim h
    have hJp97 : ∀ (p97 : Bool) a w,j107 p97 = some o → St M w0 89 [(10,ti s32.1),(9,tb p97),(8,tsl rS [(t16).A,(t16).B]),(7,ti t35),(5,tptr (rSapi_Rule.cs t16)),(2,tptr (rSapi_Schema.cs x_))] [] a w → K96 a w := by
     intro p97 a w h hst
     rw [hj107] at h
     clear hj107
     refine hK96 _ _ ?_
     try clear hK96 K96
     refine wr mixed [] hst (fun _ => .q 0 rfl <| .o (op_add z0 .k) <| .o (op_assign z0) <| .n) fun n14 a w hst => ?_
     replace hst := hst.to [2,3,4,5,6,7] [_,_,_,_,_,_] [] rfl rfl
     exact hK93 _ _ _ (sj h).symm (hst.pick [0,1,2,3,4,5])
    clear hj107
    refine wp_block ?_
    refine wp_seq_k (fun K108 hK108 => ?_)
    obtain ⟨t49,ht49,h⟩ := bind_some h
    refine sr mixed [] hst (fun _ => .q 3 rfl <| .q 2 rfl <| .o (op_index ud38 tok9 z1 z0 ht49) <| .o (op_load tok9 z0) <| .o (op_eqlS z0 .k) <| .n) fun n15 a w hst => ?_
    replace hst := hst.to [4,6,7,8,9,10,11] [_,_,_,_,_,_,_] [] rfl rfl
    refine wt hst (fun b116 => ?_) (fun b116 => ?_)
    ·replace h := ite_t b116 h
     refine wp_exit ?_
     exact hJp97 _ _ _ h (hst.pick [1,2,3,4,5,6])
    ·replace h := ite_f b116 h
     refine wp_skip ?_
     refine hK108 _ _ ?_
     try clear hK108 K108
     obtain ⟨t55,ht55,h⟩ := bind_some h
     obtain ⟨t59,ht59,h⟩ := bind_some h
     obtain ⟨t61,ht61,h⟩ := bind_some h
     refine sr mixed [] hst (fun _ => .o (op_field fld34_1 z6) <| .o (op_loadT (R := (rSl rSapi_Kind)) (u := (x_).Kinds) tok30 z0 rfl) <| .q 6 rfl <| .o (op_index ud30 tok47 z1 z0 ht55) <| .o (op_load tok47 z0) <| .q 8 rfl <| .q 7 rfl <| .o (op_index ud38 tok9 z1 z0 ht59) <| .o (op_load tok9 z0) <| .o (op_callF call21 (ref10_Field_ok ht61) (.cons (.of z4) <| .cons (.of z0) <| .nil)) <| .o (op_assign z0) <| .n) fun n16 a w hst => ?_
     replace hst := hst.to [10,12,13,14,15,16,17] [_,_,_,_,_,_,_] [] rfl rfl
     refine wp_seq_k (fun K111 hK111 => ?_)
     refine sr mixed [] hst (fun _ => .q 0 rfl <| .o (op_lss z0 .k) <| .n) fun n17 a w hst => ?_
     replace hst := hst.to [1,2,3,4,5,6,7,8] [_,_,_,_,_,_,_,_] [] rfl rfl
     refine wt hst (fun b115 => ?_) (fun b115 => ?_)
     ·replace h := ite_t b115 h
      refine sr mixed [] hst (fun _ => .o (op_assign .k) <| .n) fun n18 a w hst => ?_
      replace hst := hst.to [0] [_] [] rfl rfl
      refine wp_ret ?_
      exact hJp83 _ _ _ (ho _ (sj h).symm) (hst.pick [0])
     ·replace h := ite_f b115 h
      refine wp_skip ?_
      refine hK111 _ _ ?_
      try clear hK111 K111
      obtain ⟨t67,ht67,h⟩ := bind_some h
      obtain ⟨t71,ht71,h⟩ := bind_some h
      refine sr mixed [] hst (fun _ => .o (op_field fld34_1 z7) <| .o (op_loadT (R := (rSl rSapi_Kind)) (u := (x_).Kinds) tok30 z0 rfl) <| .q 7 rfl <| .o (op_index ud30 tok47 z1 z0 ht67) <| .o (op_field fld47_3 z0) <| .o (op_loadT (R := (rSl rSapi_Field)) (u := (t67).Fields) tok45 z0 rfl) <| .q 7 rfl <| .o (op_index ud45 tok44 z1 z0 ht71) <| .o (op_field fld44_3 z0) <| .o (op_loadT (R := rI) (u := (t71).Kind) tok3 z0 rfl) <| .o (op_assign z0) <| .n) fun n19 a w hst => ?_
      replace hst := hst.to [10,13,14,15,16,17,18] [_,_,_,_,_,_,_] [] rfl rfl
      refine wr mixed [] hst (fun _ => .q 2 rfl <| .q 0 rfl <| .g rfl rfl (.b 0 rfl) (fun _ => op_move z2) <| .g rfl rfl (.b 1 rfl) (fun hc => op_neq (.cond z0 hc) .k) <| .g rfl rfl (.b 2 rfl) (fun hc => op_move (.cond z0 hc)) <| .g rfl rfl (.c 0 rfl) (fun _ => op_move z5) <| .g rfl rfl (.c 1 rfl) (fun hc => op_neq (.cond z0 hc) .k) <| .g rfl rfl (.b 5 rfl) (fun hc => op_and (.cond z2 hc) (fun hp => (.cond z0 (band_mk hc (beqT hp))))) <| .o (op_or z6 (fun hp => (.cond z0 (beqF hp)))) <| .o (op_assign z0) <| .n) fun n20 a w hst => ?_
      replace hst := hst.to [9,11,12,13,14,15] [_,_,_,_,_,_] [] rfl rfl
      exact hJp97 _ _ _ h (hst.pick [1,0,2,3,4,5])
   ·replace h := ite_f b117 h
    refine wp_exit ?_
    exact hJp82 _ _ _ (ho _ (sj h).symm) (hst.pick [2,5])
 have hJp23 : ∀ (p23 : Int) a w,(.inr p23) = e7 → St M w0 89 [(4,ti p23)] [] a w → Ret Tryz.prog Tryz.f42 M0 [] w0 (fun _ => []) (fun _ => ti r) .ret a w := by
  intro p23 a w he hst
  subst he
  simp only at h
  obtain rfl := sj h
  exact ret_st undef [] hpl hst rfl (.tmp z0 .nil) rfl rfl rfl
 refine wp_block ?_
 refine wp_loopK _ (fun (s6 : Int) a w => St M w0 89 [(6,ti s6),(5,tptr (rSapi_Rule.cs t16)),(2,tptr (rSapi_Schema.cs x_)),(1,ti i_)] [] a w) _ _ he7 (hst.pick [0,1,2,3]) ?_
 clear h
 intro s6 o a w K119 hI h ho hK119
 have hst := hI
 clear hI
 refine wp_seq_k (fun K120 hK120 => ?_)
 refine sr mixed [] hst (fun _ => .q 0 rfl <| .q 4 rfl <| .o (op_lss z1 z0) <| .n) fun n3 a w hst => ?_
 replace hst := hst.to [2,3,4,5,6] [_,_,_,_,_] [] rfl rfl
 refine wt hst (fun b126 => ?_) (fun b126 => ?_)
 ·replace h := ite_t b126 h
  refine wp_skip ?_
  refine hK120 _ _ ?_
  try clear hK120 K120
  refine wp_seq_k (fun K122 hK122 => ?_)
  refine wp_block ?_
  obtain ⟨t26,ht26,h⟩ := bind_some h
  refine sr mixed [] hst (fun _ => .o (op_field fld34_3 z3) <| .o (op_loadT (R := (rSl rSapi_Rule)) (u := (x_).Rules) tok32 z0 rfl) <| .q 3 rfl <| .o (op_index ud32 tok100 z1 z0 ht26) <| .o (op_field fld100_0 z0) <| .o (op_loadT (R := rS) (u := (t26).Name) tok9 z0 rfl) <| .o (op_field fld100_0 z8) <| .o (op_loadT (R := rS) (u := (t16).Name) tok9 z0 rfl) <| .o (op_eqlS z2 z0) <| .n) fun n5 a w hst => ?_
  replace hst := hst.to [8,10,11,12,13] [_,_,_,_,_] [] rfl rfl
  refine wt hst (fun b125 => ?_) (fun b125 => ?_)
  ·replace h := ite_t b125 h
   refine sr mixed [] hst (fun _ => .o (op_assign .k) <| .n) fun n6 a w hst => ?_
   replace hst := hst.to [0] [_] [] rfl rfl
   refine wp_ret ?_
   exact hJp23 _ _ _ (ho _ (sj h).symm) (hst.pick [0])
  ·replace h := ite_f b125 h
   refine wp_skip ?_
   refine hK122 _ _ ?_
   try clear hK122 K122
   refine wr mixed [] hst (fun _ => .q 1 rfl <| .o (op_add z0 .k) <| .o (op_assign z0) <| .n) fun n4 a w hst => ?_
   replace hst := hst.to [2,4,5,6] [_,_,_,_] [] rfl rfl
   exact hK119 _ _ _ (sj h).symm (hst.pick [0,1,2,3])
 ·replace h := ite_f b126 h
  refine wp_exit ?_
  exact hJp22 _ _ _ (ho _ (sj h).symm) (hst.pick [2,3])

/- diorama/dioramaref10.Check -/
noncomputable def fref10_Check (x_ : Sapi_Schema) : Option ((List Sref10_Problem)) := (fref09_Valid x_).bind fun t12 => (if (t12 != (0:Int)) = true then (fref10_add ([] : List Sref10_Problem) (-1:Int) (-1:Int) (-1:Int) t12).bind fun t16 => (some t16) else (tailrec (fun (s12 : Int × List Sref10_Problem) => ((if (decide (s12.1 < ((x_).Lives.length : Int))) = true then (tailrec (fun (s333 : Int) => ((if (decide (s333 < s12.1)) = true then (idx (x_).Lives s333).bind fun t32 => (idx (x_).Lives s12.1).bind fun t38 => (if ((t32).Name == (t38).Name) = true then (fref10_add s12.2 (-1:Int) s12.1 (-1:Int) (7:Int)).bind fun t44 => (some (.inr t44)) else (some (.inl (IntKind.i64.wrap (s333 + (1:Int)))))) else (some (.inr s12.2))) : Option ((Int) ⊕ ((List Sref10_Problem))))) (0:Int)).bind fun (p343 : (List Sref10_Problem)) => (some (.inl ((IntKind.i64.wrap (s12.1 + (1:Int))),p343))) else (some (.inr s12.2))) : Option ((Int × List Sref10_Problem) ⊕ ((List Sref10_Problem))))) ((0:Int),([] : List Sref10_Problem))).bind fun (p75 : (List Sref10_Problem)) => (tailrec (fun (s79 : Int × List Sref10_Problem) => ((if (decide (s79.1 < ((x_).Kinds.length : Int))) = true then (idx (x_).Kinds s79.1).bind fun t55 => (idx (x_).Kinds s79.1).bind fun t62 => (fref10_Kind x_ (t62).Name).bind fun t65 => ((if (decide (t65 < s79.1)) = true then (fref10_add s79.2 s79.1 (-1:Int) (-1:Int) (7:Int)).bind fun t70 => (some t70) else (fref10_keyed (t55).Fields).bind fun t72 => ((if (!t72) = true then (fref10_add s79.2 s79.1 (-1:Int) (-1:Int) (11:Int)).bind fun t76 => (some t76) else (some s79.2))).bind fun (p320 : List Sref10_Problem) => (some p320))).bind fun (p261 : List Sref10_Problem) => (tailrec (fun (s273 : Int × List Sref10_Problem) => ((if (decide (s273.1 < ((t55).Fields.length : Int))) = true then (idx (x_).Kinds s79.1).bind fun t86 => (idx (t55).Fields s273.1).bind fun t90 => (fref10_Field t86 (t90).Name).bind fun t93 => ((if (decide (t93 < s273.1)) = true then (fref10_add s273.2 s79.1 s273.1 (-1:Int) (7:Int)).bind fun t99 => (some t99) else (fref10_leads x_ s79.1 s273.1).bind fun t106 => (fref10_add s273.2 s79.1 s273.1 (-1:Int) t106).bind fun t107 => (some t107))).bind fun (p309 : List Sref10_Problem) => (some (.inl ((IntKind.i64.wrap (s273.1 + (1:Int))),p309))) else (some (.inr s273.2))) : Option ((Int × List Sref10_Problem) ⊕ ((List Sref10_Problem))))) ((0:Int),p261)).bind fun (p302 : (List Sref10_Problem)) => (some (.inl ((IntKind.i64.wrap (s79.1 + (1:Int))),p302))) else (some (.inr s79.2))) : Option ((Int × List Sref10_Problem) ⊕ ((List Sref10_Problem))))) ((0:Int),p75)).bind fun (p228 : (List Sref10_Problem)) => (tailrec (fun (s232 : Int × List Sref10_Problem) => ((if (decide (s232.1 < ((x_).Rules.length : Int))) = true then (fref10_rules x_ s232.1).bind fun t119 => (fref10_add s232.2 (-1:Int) (-1:Int) s232.1 t119).bind fun t120 => (some (.inl ((IntKind.i64.wrap (s232.1 + (1:Int))),t120))) else (some (.inr s232.2))) : Option ((Int × List Sref10_Problem) ⊕ ((List Sref10_Problem))))) ((0:Int),p228)).bind fun (p245 : (List Sref10_Problem)) => (some p245))
set_option maxRecDepth 100000 in
set_option maxHeartbeats 4000000 in
theorem ref10_Check_ok {x_ : Sapi_Schema} {r : (List Sref10_Problem)} (h : fref10_Check x_ = some r) : FnOk Tryz.prog 11 [rSapi_Schema.ty x_] [] (fun _ => []) (fun _ => tsl rSref10_Problem r) := by
 unfold fref10_Check at h
 refine FnOk.enter Tryz.func11 rfl Tryz.ntmps11 (leb rfl) (fun M0 M w0 a hpl hst => ?_)
 replace hst : St M w0 122 [(0,rSapi_Schema.ty x_)] [] a w0 := hst
 refine sr mixed [] hst (fun _ => .o (op_boxR (R := rSapi_Schema) (u := x_) z0) <| .o (op_assign (.nilsl (R := rSref10_Problem))) <| .n) fun n0 a w hst => ?_
 replace hst := hst.to [0] [_] [] rfl rfl
 obtain ⟨t12,ht12,h⟩ := bind_some h
 refine sr mixed [] hst (fun _ => .o (op_load tok34 z0) <| .o (op_callF call38 (ref09_Valid_ok ht12) (.cons (.of z0) <| .nil)) <| .o (op_assign z0) <| .n) fun n1 a w hst => ?_
 replace hst := hst.to [2,3] [_,_] [] rfl rfl
 refine wp_seq_k (fun K3 hK3 => ?_)
 refine sr mixed [] hst (fun _ => .q 0 rfl <| .o (op_neq z0 .k) <| .n) fun n2 a w hst => ?_
 replace hst := hst.to [1,2,3] [_,_,_] [] rfl rfl
 refine wt hst (fun b355 => ?_) (fun b355 => ?_)
 ·replace h := ite_t b355 h
  refine wp_seq_k (fun K5 hK5 => ?_)
  replace hst : St _ _ _ [_,_,_] [_] _ _ := hst.nil (rSref10_Problem) 62
  obtain ⟨t16,ht16,h⟩ := bind_some h
  refine wr mixed [v1 1 (fun v0 => own rSref10_Problem 62 t16 v0)] hst (fun _ => .q 1 rfl <| .e [] [0] [1] rfl rfl rfl rfl (op_callF call39 (ref10_add_ok ht16) (.cons (.of .k) <| .cons (.of .k) <| .cons (.of .k) <| .cons (.of .k) <| .cons (.of z0) <| .nil)) <| .ud (f := fun v => tv v) 1 rfl [] rfl rfl (op_assign z0) <| .n) fun n3 a w hst => ?_
  replace hst := hst.to [1,2] [_,_] [_] rfl rfl
  refine hK5 _ _ ?_
  try clear hK5 K5
  refine wp_ret ?_
  replace hst : St _ _ _ [_] [] _ _ := (hst.shareO 1 rfl).pick [0]
  obtain rfl := sj h
  exact ret_st undef [] hpl hst rfl (.tmp z0 .nil) rfl rfl rfl
 ·replace h := ite_f b355 h
  refine wp_skip ?_
  refine hK3 _ _ ?_
  try clear hK3 K3
  refine sr mixed [] hst (fun _ => .o (op_assign .k) <| .n) fun n4 a w hst => ?_
  replace hst : St _ _ _ [_,_] [_] _ _ := (hst.pick [0,3]).nil (rSref10_Problem) 62
  refine wp_seq_k (fun K10 hK10 => ?_)
  refine sr mixed [] hst (fun _ => .o (op_assign .k) <| .n) fun n5 a w hst => ?_
  replace hst := hst.to [0,1,2] [_,_,_] [_] rfl rfl
  obtain ⟨e13,he13,h⟩ := bind_some h
  have hJp75 : ∀ (p75 : List Sref10_Problem) (v76 : Value) a w,p75 = e13 → St M w0 122 [(4,tv v76),(1,tptr (rSapi_Schema.cs x_))] [own rSref10_Problem 62 p75 v76] a w → K10 a w := by
   intro p75 v76 a w he hst
   subst he
   refine hK10 _ _ ?_
   try clear hK10 K10
   refine wp_seq_k (fun K77 hK77 => ?_)
   refine sr mixed [] hst (fun _ => .o (op_assign .k) <| .n) fun n13 a w hst => ?_
   replace hst := hst.to [0,1,2] [_,_,_] [_] rfl rfl
   obtain ⟨e80,he80,h⟩ := bind_some h
   have hJp228 : ∀ (p228 : List Sref10_Problem) (v229 : Value) a w,p228 = e80 → St M w0 122 [(4,tv v229),(1,tptr (rSapi_Schema.cs x_))] [own rSref10_Problem 62 p228 v229] a w → K77 a w := by
    intro p228 v229 a w he hst
    subst he
    refine hK77 _ _ ?_
    try clear hK77 K77
    refine wp_seq_k (fun K230 hK230 => ?_)
    refine sr mixed [] hst (fun _ => .o (op_assign .k) <| .n) fun n27 a w hst => ?_
    replace hst := hst.to [0,1,2] [_,_,_] [_] rfl rfl
    obtain ⟨e233,he233,h⟩ := bind_some h
    have hJp245 : ∀ (p245 : List Sref10_Problem) (v246 : Value) a w,p245 = e233 → St M w0 122 [(4,tv v246)] [own rSref10_Problem 62 p245 v246] a w → K230 a w := by
     intro p245 v246 a w he hst
     subst he
     refine hK230 _ _ ?_
     try clear hK230 K230
     refine sr mixed [] hst (fun _ => .q 0 rfl <| .o (op_assign z0) <| .n) fun n31 a w hst => ?_
     replace hst := hst.to [0,1,2] [_,_,_] [_] rfl rfl
     refine wp_ret ?_
     replace hst : St _ _ _ [_] [] _ _ := (hst.shareO 1 rfl).pick [0]
     obtain rfl := sj h
     exact ret_st undef [] hpl hst rfl (.tmp z0 .nil) rfl rfl rfl
    refine wp_block ?_
    refine wp_loopK _ (fun (s232 : Int × List Sref10_Problem) a w => ∃ v239 : Value,St M w0 122 [(10,ti s232.1),(4,tv v239),(1,tptr (rSapi_Schema.cs x_))] [own rSref10_Problem 62 s232.2 v239] a w) _ _ he233 ⟨v229,hst.pick [0,1,2]⟩ ?_
    clear h
    intro s232 o a w K248 hI h ho hK248
    obtain ⟨v239,hst⟩ := hI
    refine wp_seq_k (fun K249 hK249 => ?_)
    refine sr mixed [] hst (fun _ => .q 0 rfl <| .o (op_field fld34_3 z3) <| .o (op_loadT (R := (rSl rSapi_Rule)) (u := (x_).Rules) tok32 z0 rfl) <| .o (op_len ud32 z0) <| .o (op_lss z3 z0) <| .n) fun n28 a w hst => ?_
    replace hst := hst.to [4,5,6,7] [_,_,_,_] [_] rfl rfl
    refine wt hst (fun b253 => ?_) (fun b253 => ?_)
    ·replace h := ite_t b253 h
     refine wp_skip ?_
     refine hK249 _ _ ?_
     try clear hK249 K249
     refine wp_seq_k (fun K251 hK251 => ?_)
     refine wp_block ?_
     obtain ⟨t119,ht119,h⟩ := bind_some h
     obtain ⟨t120,ht120,h⟩ := bind_some h
     refine wr mixed [v1 5 (fun v0 => own rSref10_Problem 62 t120 v0)] hst (fun _ => .q 2 rfl <| .q 2 rfl <| .o (op_load tok34 z5) <| .q 4 rfl <| .o (op_callF call42 (ref10_rules_ok ht119) (.cons (.of z1) <| .cons (.of z0) <| .nil)) <| .e [] [0] [1] rfl rfl rfl rfl (op_callF call39 (ref10_add_ok ht120) (.cons (.of z4) <| .cons (.of .k) <| .cons (.of .k) <| .cons (.of z3) <| .cons (.of z0) <| .nil)) <| .ud (f := fun v => tv v) 5 rfl [] rfl rfl (op_assign z0) <| .n) fun n30 a w hst => ?_
     replace hst := hst.to [5,6,8,9] [_,_,_,_] [_] rfl rfl
     refine hK251 _ _ ?_
     try clear hK251 K251
     refine wr mixed [] hst (fun _ => .q 2 rfl <| .o (op_add z0 .k) <| .o (op_assign z0) <| .n) fun n29 a w hst => ?_
     replace hst := hst.to [2,3,4,5] [_,_,_,_] [_] rfl rfl
     exact hK248 _ _ _ (sj h).symm ⟨(n30 5),hst.pick [0,2,3]⟩
    ·replace h := ite_f b253 h
     refine wp_exit ?_
     exact hJp245 _ v239 _ _ (ho _ (sj h).symm) (hst.pick [2])
   refine wp_block ?_
   refine wp_loopK _ (fun (s79 : Int × List Sref10_Problem) a w => ∃ v154 : Value,St M w0 122 [(7,ti s79.1),(4,tv v154),(1,tptr (rSapi_Schema.cs x_))] [own rSref10_Problem 62 s79.2 v154] a w) _ _ he80 ⟨v76,hst.pick [0,1,2]⟩ ?_
   clear h
   intro s79 o a w K254 hI h ho hK254
   obtain ⟨v154,hst⟩ := hI
   refine wp_seq_k (fun K255 hK255 => ?_)
   refine sr mixed [] hst (fun _ => .q 0 rfl <| .o (op_field fld34_1 z3) <| .o (op_loadT (R := (rSl rSapi_Kind)) (u := (x_).Kinds) tok30 z0 rfl) <| .o (op_len ud30 z0) <| .o (op_lss z3 z0) <| .n) fun n14 a w hst => ?_
   replace hst := hst.to [4,5,6,7] [_,_,_,_] [_] rfl rfl
   refine wt hst (fun b327 => ?_) (fun b327 => ?_)
   ·replace h := ite_t b327 h
    refine wp_skip ?_
    refine hK255 _ _ ?_
    try clear hK255 K255
    refine wp_seq_k (fun K257 hK257 => ?_)
    refine wp_block ?_
    obtain ⟨t55,ht55,h⟩ := bind_some h
    refine sr mixed [] hst (fun _ => .o (op_field fld34_1 z3) <| .o (op_loadT (R := (rSl rSapi_Kind)) (u := (x_).Kinds) tok30 z0 rfl) <| .q 3 rfl <| .o (op_index ud30 tok47 z1 z0 ht55) <| .o (op_field fld47_3 z0) <| .o (op_loadT (R := (rSl rSapi_Field)) (u := (t55).Fields) tok45 z0 rfl) <| .o (op_assign z0) <| .n) fun n16 a w hst => ?_
    replace hst := hst.to [6,8,9,10] [_,_,_,_] [_] rfl rfl
    refine wp_seq_k (fun K259 hK259 => ?_)
    obtain ⟨t62,ht62,h⟩ := bind_some h
    obtain ⟨t65,ht65,h⟩ := bind_some h
    refine sr mixed [] hst (fun _ => .o (op_load tok34 z3) <| .o (op_field fld34_1 z4) <| .o (op_loadT (R := (rSl rSapi_Kind)) (u := (x_).Kinds) tok30 z0 rfl) <| .q 4 rfl <| .o (op_index ud30 tok47 z1 z0 ht62) <| .o (op_field fld47_0 z0) <| .o (op_loadT (R := rS) (u := (t62).Name) tok9 z0 rfl) <| .o (op_callF call19 (ref10_Kind_ok ht65) (.cons (.of z6) <| .cons (.of z0) <| .nil)) <| .q 9 rfl <| .o (op_lss z1 z0) <| .n) fun n17 a w hst => ?_
    replace hst := hst.to [9,10,11,12,13] [_,_,_,_,_] [_] rfl rfl
    obtain ⟨p261,hp261,h⟩ := bind_some h
    have hJp261 : ∀ (v271 : Value) a w,St M w0 122 [(4,tv v271),(8,tsl rSapi_Field (t55).Fields),(7,ti s79.1),(1,tptr (rSapi_Schema.cs x_))] [own rSref10_Problem 62 p261 v271] a w → K259 a w := by
     intro v271 a w hst
     refine hK259 _ _ ?_
     try clear hK259 K259
     refine sr mixed [] hst (fun _ => .o (op_assign .k) <| .n) fun n21 a w hst => ?_
     replace hst := hst.to [0,1,2,3,4] [_,_,_,_,_] [_] rfl rfl
     obtain ⟨e274,he274,h⟩ := bind_some h
     have hJp302 : ∀ (p302 : List Sref10_Problem) (v303 : Value) a w,p302 = e274 → St M w0 122 [(4,tv v303),(7,ti s79.1),(1,tptr (rSapi_Schema.cs x_))] [own rSref10_Problem 62 p302 v303] a w → K257 a w := by
      intro p302 v303 a w he hst
      subst he
      refine hK257 _ _ ?_
      try clear hK257 K257
      refine wr mixed [] hst (fun _ => .q 1 rfl <| .o (op_add z0 .k) <| .o (op_assign z0) <| .n) fun n15 a w hst => ?_
      replace hst := hst.to [2,3,4] [_,_,_] [_] rfl rfl
      exact hK254 _ _ _ (sj h).symm ⟨v303,hst.pick [0,1,2]⟩
     refine wp_block ?_
     refine wp_loopK _ (fun (s273 : Int × List Sref10_Problem) a w => ∃ v288 : Value,St M w0 122 [(9,ti s273.1),(4,tv v288),(8,tsl rSapi_Field (t55).Fields),(7,ti s79.1),(1,tptr (rSapi_Schema.cs x_))] [own rSref10_Problem 62 s273.2 v288] a w) _ _ he274 ⟨v271,hst.pick [0,1,2,3,4]⟩ ?_
     clear h
     intro s273 o a w K304 hI h ho hK304
     obtain ⟨v288,hst⟩ := hI
     refine wp_seq_k (fun K305 hK305 => ?_)
     refine sr mixed [] hst (fun _ => .q 0 rfl <| .q 3 rfl <| .o (op_len ud45 z0) <| .o (op_lss z2 z0) <| .n) fun n22 a w hst => ?_
     replace hst := hst.to [3,4,5,6,7,8] [_,_,_,_,_,_] [_] rfl rfl
     refine wt hst (fun b317 => ?_) (fun b317 => ?_)
     ·replace h := ite_t b317 h
      refine wp_skip ?_
      refine hK305 _ _ ?_
      try clear hK305 K305
      refine wp_seq_k (fun K307 hK307 => ?_)
      refine wp_block ?_
      obtain ⟨t86,ht86,h⟩ := bind_some h
      obtain ⟨t90,ht90,h⟩ := bind_some h
      obtain ⟨t93,ht93,h⟩ := bind_some h
      refine sr mixed [] hst (fun _ => .o (op_field fld34_1 z5) <| .o (op_loadT (R := (rSl rSapi_Kind)) (u := (x_).Kinds) tok30 z0 rfl) <| .q 6 rfl <| .o (op_index ud30 tok47 z1 z0 ht86) <| .o (op_load tok47 z0) <| .q 8 rfl <| .q 7 rfl <| .o (op_index ud45 tok44 z1 z0 ht90) <| .o (op_field fld44_0 z0) <| .o (op_loadT (R := rS) (u := (t90).Name) tok9 z0 rfl) <| .o (op_callF call21 (ref10_Field_ok ht93) (.cons (.of z5) <| .cons (.of z0) <| .nil)) <| .q 12 rfl <| .o (op_lss z1 z0) <| .n) fun n24 a w hst => ?_
      replace hst := hst.to [12,14,15,16,17,18] [_,_,_,_,_,_] [_] rfl rfl
      obtain ⟨p309,hp309,h⟩ := bind_some h
      have hJp309 : ∀ (v313 : Value) a w,St M w0 122 [(4,tv v313),(9,ti s273.1),(8,tsl rSapi_Field (t55).Fields),(7,ti s79.1),(1,tptr (rSapi_Schema.cs x_))] [own rSref10_Problem 62 p309 v313] a w → K307 a w := by
       intro v313 a w hst
       refine hK307 _ _ ?_
       try clear hK307 K307
       refine wr mixed [] hst (fun _ => .q 1 rfl <| .o (op_add z0 .k) <| .o (op_assign z0) <| .n) fun n23 a w hst => ?_
       replace hst := hst.to [2,3,4,5,6] [_,_,_,_,_] [_] rfl rfl
       exact hK304 _ _ _ (sj h).symm ⟨v313,hst.pick [0,1,2,3,4]⟩
      replace h := hp309
      clear hp309
      refine wt hst (fun b316 => ?_) (fun b316 => ?_)
      ·replace h := ite_t b316 h
       obtain ⟨t99,ht99,h⟩ := bind_some h
       refine wr mixed [v1 3 (fun v0 => own rSref10_Problem 62 t99 v0)] hst (fun _ => .q 2 rfl <| .q 5 rfl <| .q 3 rfl <| .e [] [0] [1] rfl rfl rfl rfl (op_callF call39 (ref10_add_ok ht99) (.cons (.of z2) <| .cons (.of z1) <| .cons (.of z0) <| .cons (.of .k) <| .cons (.of .k) <| .nil)) <| .ud (f := fun v => tv v) 3 rfl [] rfl rfl (op_assign z0) <| .n) fun n25 a w hst => ?_
       replace hst := hst.to [3,4,6,7,8,9] [_,_,_,_,_,_] [_] rfl rfl
       obtain rfl := sj h
       exact hJp309 (n25 3) _ _ (hst.pick [1,2,3,4,5])
      ·replace h := ite_f b316 h
       obtain ⟨t106,ht106,h⟩ := bind_some h
       obtain ⟨t107,ht107,h⟩ := bind_some h
       refine wr mixed [v1 7 (fun v0 => own rSref10_Problem 62 t107 v0)] hst (fun _ => .q 2 rfl <| .q 5 rfl <| .q 3 rfl <| .o (op_load tok34 z8) <| .q 8 rfl <| .q 6 rfl <| .o (op_callF call41 (ref10_leads_ok ht106) (.cons (.of z2) <| .cons (.of z1) <| .cons (.of z0) <| .nil)) <| .e [] [0] [1] rfl rfl rfl rfl (op_callF call39 (ref10_add_ok ht107) (.cons (.of z6) <| .cons (.of z5) <| .cons (.of z4) <| .cons (.of .k) <| .cons (.of z0) <| .nil)) <| .ud (f := fun v => tv v) 7 rfl [] rfl rfl (op_assign z0) <| .n) fun n26 a w hst => ?_
       replace hst := hst.to [7,8,10,11,12,13] [_,_,_,_,_,_] [_] rfl rfl
       obtain rfl := sj h
       exact hJp309 (n26 7) _ _ (hst.pick [1,2,3,4,5])
     ·replace h := ite_f b317 h
      refine wp_exit ?_
      exact hJp302 _ v288 _ _ (ho _ (sj h).symm) (hst.pick [2,4,5])
    replace h := hp261
    clear hp261
    refine wt hst (fun b326 => ?_) (fun b326 => ?_)
    ·replace h := ite_t b326 h
     obtain ⟨t70,ht70,h⟩ := bind_some h
     refine wr mixed [v1 2 (fun v0 => own rSref10_Problem 62 t70 v0)] hst (fun _ => .q 3 rfl <| .q 3 rfl <| .e [] [0] [1] rfl rfl rfl rfl (op_callF call39 (ref10_add_ok ht70) (.cons (.of z1) <| .cons (.of z0) <| .cons (.of .k) <| .cons (.of .k) <| .cons (.of .k) <| .nil)) <| .ud (f := fun v => tv v) 2 rfl [] rfl rfl (op_assign z0) <| .n) fun n18 a w hst => ?_
     replace hst := hst.to [2,3,5,6,7] [_,_,_,_,_] [_] rfl rfl
     obtain rfl := sj h
     exact hJp261 (n18 2) _ _ (hst.pick [1,2,3,4])
    ·replace h := ite_f b326 h
     obtain ⟨t72,ht72,h⟩ := bind_some h
     refine sr mixed [] hst (fun _ => .q 1 rfl <| .o (op_callF call40 (ref10_keyed_ok ht72) (.cons (.of z0) <| .nil)) <| .o (op_not z0) <| .n) fun n19 a w hst => ?_
     replace hst := hst.to [2,4,5,6,7] [_,_,_,_,_] [_] rfl rfl
     obtain ⟨p320,hp320,h⟩ := bind_some h
     have hJp320 : ∀ (v323 : Value) a w,St M w0 122 [(4,tv v323),(8,tsl rSapi_Field (t55).Fields),(7,ti s79.1),(1,tptr (rSapi_Schema.cs x_))] [own rSref10_Problem 62 p320 v323] a w → K259 a w := by
      intro v323 a w hst
      obtain rfl := sj h
      exact hJp261 v323 _ _ (hst.pick [0,1,2,3])
     replace h := hp320
     clear hp320
     refine wt hst (fun b325 => ?_) (fun b325 => ?_)
     ·replace h := ite_t b325 h
      obtain ⟨t76,ht76,h⟩ := bind_some h
      refine wr mixed [v1 2 (fun v0 => own rSref10_Problem 62 t76 v0)] hst (fun _ => .q 3 rfl <| .q 3 rfl <| .e [] [0] [1] rfl rfl rfl rfl (op_callF call39 (ref10_add_ok ht76) (.cons (.of z1) <| .cons (.of z0) <| .cons (.of .k) <| .cons (.of .k) <| .cons (.of .k) <| .nil)) <| .ud (f := fun v => tv v) 2 rfl [] rfl rfl (op_assign z0) <| .n) fun n20 a w hst => ?_
      replace hst := hst.to [2,3,5,6,7] [_,_,_,_,_] [_] rfl rfl
      obtain rfl := sj h
      exact hJp320 (n20 2) _ _ (hst.pick [1,2,3,4])
     ·replace h := ite_f b325 h
      refine wp_skip ?_
      obtain rfl := sj h
      exact hJp320 v154 _ _ (hst.pick [3,1,2,4])
   ·replace h := ite_f b327 h
    refine wp_exit ?_
    exact hJp228 _ v154 _ _ (ho _ (sj h).symm) (hst.pick [2,3])
  refine wp_block ?_
  refine wp_loopK _ (fun (s12 : Int × List Sref10_Problem) a w => ∃ v48 : Value,St M w0 122 [(5,ti s12.1),(4,tv v48),(1,tptr (rSapi_Schema.cs x_))] [own rSref10_Problem 62 s12.2 v48] a w) _ _ he13 ⟨(.slice none 0 0),hst.pick [0,1,2]⟩ ?_
  clear h
  intro s12 o a w K328 hI h ho hK328
  obtain ⟨v48,hst⟩ := hI
  refine wp_seq_k (fun K329 hK329 => ?_)
  refine sr mixed [] hst (fun _ => .q 0 rfl <| .o (op_field fld34_2 z3) <| .o (op_loadT (R := (rSl rSapi_Life)) (u := (x_).Lives) tok31 z0 rfl) <| .o (op_len ud31 z0) <| .o (op_lss z3 z0) <| .n) fun n6 a w hst => ?_
  replace hst := hst.to [4,5,6,7] [_,_,_,_] [_] rfl rfl
  refine wt hst (fun b354 => ?_) (fun b354 => ?_)
  ·replace h := ite_t b354 h
   refine wp_skip ?_
   refine hK329 _ _ ?_
   try clear hK329 K329
   refine wp_seq_k (fun K331 hK331 => ?_)
   refine wp_block ?_
   refine sr mixed [] hst (fun _ => .o (op_assign .k) <| .n) fun n8 a w hst => ?_
   replace hst := hst.to [0,2,3,4] [_,_,_,_] [_] rfl rfl
   obtain ⟨e334,he334,h⟩ := bind_some h
   have hJp343 : ∀ (p343 : List Sref10_Problem) (v344 : Value) a w,p343 = e334 → St M w0 122 [(4,tv v344),(5,ti s12.1),(1,tptr (rSapi_Schema.cs x_))] [own rSref10_Problem 62 p343 v344] a w → K331 a w := by
    intro p343 v344 a w he hst
    subst he
    refine hK331 _ _ ?_
    try clear hK331 K331
    refine wr mixed [] hst (fun _ => .q 1 rfl <| .o (op_add z0 .k) <| .o (op_assign z0) <| .n) fun n7 a w hst => ?_
    replace hst := hst.to [2,3,4] [_,_,_] [_] rfl rfl
    exact hK328 _ _ _ (sj h).symm ⟨v344,hst.pick [0,1,2]⟩
   refine wp_block ?_
   refine wp_loopK _ (fun (s333 : Int) a w => St M w0 122 [(6,ti s333),(5,ti s12.1),(4,tv v48),(1,tptr (rSapi_Schema.cs x_))] [own rSref10_Problem 62 s12.2 v48] a w) _ _ he334 (hst.pick [0,1,2,3]) ?_
   clear h
   intro s333 o a w K345 hI h ho hK345
   have hst := hI
   clear hI
   refine wp_seq_k (fun K346 hK346 => ?_)
   refine sr mixed [] hst (fun _ => .q 0 rfl <| .q 2 rfl <| .o (op_lss z1 z0) <| .n) fun n9 a w hst => ?_
   replace hst := hst.to [2,3,4,5,6] [_,_,_,_,_] [_] rfl rfl
   refine wt hst (fun b353 => ?_) (fun b353 => ?_)
   ·replace h := ite_t b353 h
    refine wp_skip ?_
    refine hK346 _ _ ?_
    try clear hK346 K346
    refine wp_seq_k (fun K348 hK348 => ?_)
    refine wp_block ?_
    obtain ⟨t32,ht32,h⟩ := bind_some h
    obtain ⟨t38,ht38,h⟩ := bind_some h
    refine sr mixed [] hst (fun _ => .o (op_field fld34_2 z4) <| .o (op_loadT (R := (rSl rSapi_Life)) (u := (x_).Lives) tok31 z0 rfl) <| .q 3 rfl <| .o (op_index ud31 tok67 z1 z0 ht32) <| .o (op_field fld67_0 z0) <| .o (op_loadT (R := rS) (u := (t32).Name) tok9 z0 rfl) <| .o (op_field fld34_2 z10) <| .o (op_loadT (R := (rSl rSapi_Life)) (u := (x_).Lives) tok31 z0 rfl) <| .q 10 rfl <| .o (op_index ud31 tok67 z1 z0 ht38) <| .o (op_field fld67_0 z0) <| .o (op_loadT (R := rS) (u := (t38).Name) tok9 z0 rfl) <| .o (op_eqlS z6 z0) <| .n) fun n11 a w hst => ?_
    replace hst := hst.to [12,14,15,16,17] [_,_,_,_,_] [_] rfl rfl
    refine wt hst (fun b352 => ?_) (fun b352 => ?_)
    ·replace h := ite_t b352 h
     obtain ⟨t44,ht44,h⟩ := bind_some h
     refine sr mixed [v1 2 (fun v0 => own rSref10_Problem 62 t44 v0)] hst (fun _ => .q 3 rfl <| .q 3 rfl <| .e [] [0] [1] rfl rfl rfl rfl (op_callF call39 (ref10_add_ok ht44) (.cons (.of z1) <| .cons (.of .k) <| .cons (.of z0) <| .cons (.of .k) <| .cons (.of .k) <| .nil)) <| .ud (f := fun v => tv v) 2 rfl [] rfl rfl (op_assign z0) <| .n) fun n12 a w hst => ?_
     replace hst := hst.to [2,3,6,7] [_,_,_,_] [_] rfl rfl
     refine wp_exit ?_
     exact hJp343 _ (n12 2) _ _ (ho _ (sj h).symm) (hst.pick [1,2,3])
    ·replace h := ite_f b352 h
     refine wp_skip ?_
     refine hK348 _ _ ?_
     try clear hK348 K348
     refine wr mixed [] hst (fun _ => .q 1 rfl <| .o (op_add z0 .k) <| .o (op_assign z0) <| .n) fun n10 a w hst => ?_
     replace hst := hst.to [2,4,5,6] [_,_,_,_] [_] rfl rfl
     exact hK345 _ _ _ (sj h).symm (hst.pick [0,1,2,3])
   ·replace h := ite_f b353 h
    refine wp_exit ?_
    exact hJp343 _ v48 _ _ (ho _ (sj h).symm) (hst.pick [3,2,4])
  ·replace h := ite_f b354 h
   refine wp_exit ?_
   exact hJp75 _ v48 _ _ (ho _ (sj h).symm) (hst.pick [2,3])

/- diorama/dioramaref10.Same -/
noncomputable def fref10_Same (a_ : (List Sref10_Problem)) (b_ : (List Sref10_Problem)) : Option (Bool) := (if ((a_.length : Int) != (b_.length : Int)) = true then (some false) else (tailrec (fun (s7 : Int) => ((if (decide (s7 < (a_.length : Int))) = true then (idx a_ s7).bind fun t19 => (idx b_ s7).bind fun t23 => (if (!eqSref10_Problem t19 t23) = true then (some (.inr (.inr false))) else (some (.inl (IntKind.i64.wrap (s7 + (1:Int)))))) else (some (.inr (.inl ())))) : Option ((Int) ⊕ ((Unit) ⊕ (Bool))))) (0:Int)).bind fun (e8 : (Unit) ⊕ (Bool)) => (match e8 with | .inl _ => (some true) | .inr p24 => (some p24)))
set_option maxRecDepth 100000 in
set_option maxHeartbeats 4000000 in
theorem ref10_Same_ok {a_ : (List Sref10_Problem)} {b_ : (List Sref10_Problem)} {r : Bool} (h : fref10_Same a_ b_ = some r) : FnOk Tryz.prog 8 [tsl rSref10_Problem a_,tsl rSref10_Problem b_] [] (fun _ => []) (fun _ => tb r) := by
 unfold fref10_Same at h
 refine FnOk.enter Tryz.func8 rfl Tryz.ntmps8 (leb rfl) (fun M0 M w0 a hpl hst => ?_)
 replace hst : St M w0 26 [(0,tsl rSref10_Problem a_),(1,tsl rSref10_Problem b_)] [] a w0 := hst
 refine sr mixed [] hst (fun _ => .o (op_assign .k) <| .n) fun n0 a w hst => ?_
 replace hst := hst.to [1,2] [_,_] [] rfl rfl
 refine wp_seq_k (fun K2 hK2 => ?_)
 refine sr mixed [] hst (fun _ => .q 0 rfl <| .o (op_len ud26 z0) <| .q 3 rfl <| .o (op_len ud26 z0) <| .o (op_neq z2 z0) <| .n) fun n1 a w hst => ?_
 replace hst := hst.to [4,5,6] [_,_,_] [] rfl rfl
 refine wt hst (fun b34 => ?_) (fun b34 => ?_)
 ·replace h := ite_t b34 h
  refine sr mixed [] hst (fun _ => .o (op_assign .k) <| .n) fun n2 a w hst => ?_
  replace hst := hst.to [0] [_] [] rfl rfl
  refine wp_ret ?_
  obtain rfl := sj h
  exact ret_st undef [] hpl hst rfl (.tmp z0 .nil) rfl rfl rfl
 ·replace h := ite_f b34 h
  refine wp_skip ?_
  refine hK2 _ _ ?_
  try clear hK2 K2
  refine wp_seq_k (fun K5 hK5 => ?_)
  refine sr mixed [] hst (fun _ => .o (op_assign .k) <| .n) fun n3 a w hst => ?_
  replace hst := hst.to [0,2,3] [_,_,_] [] rfl rfl
  obtain ⟨e8,he8,h⟩ := bind_some h
  have hJp23 : ∀ (p23 : Unit) a w,(.inl p23) = e8 → St M w0 26 [] [] a w → K5 a w := by
   intro p23 a w he hst
   subst he
   simp only at h
   refine hK5 _ _ ?_
   try clear hK5 K5
   refine sr mixed [] hst (fun _ => .o (op_assign .k) <| .n) fun n8 a w hst => ?_
   replace hst := hst.to [0] [_] [] rfl rfl
   refine wp_ret ?_
   obtain rfl := sj h
   exact ret_st undef [] hpl hst rfl (.tmp z0 .nil) rfl rfl rfl
  have hJp24 : ∀ (p24 : Bool) a w,(.inr p24) = e8 → St M w0 26 [(4,tb p24)] [] a w → Ret Tryz.prog Tryz.f8 M0 [] w0 (fun _ => []) (fun _ => tb r) .ret a w := by
   intro p24 a w he hst
   subst he
   simp only at h
   obtain rfl := sj h
   exact ret_st undef [] hpl hst rfl (.tmp z0 .nil) rfl rfl rfl
  refine wp_block ?_
  refine wp_loopK _ (fun (s7 : Int) a w => St M w0 26 [(5,ti s7),(0,tsl rSref10_Problem a_),(1,tsl rSref10_Problem b_)] [] a w) _ _ he8 (hst.pick [0,1,2]) ?_
  clear h
  intro s7 o a w K26 hI h ho hK26
  have hst := hI
  clear hI
  refine wp_seq_k (fun K27 hK27 => ?_)
  refine sr mixed [] hst (fun _ => .q 0 rfl <| .q 2 rfl <| .o (op_len ud26 z0) <| .o (op_lss z2 z0) <| .n) fun n4 a w hst => ?_
  replace hst := hst.to [3,4,5,6] [_,_,_,_] [] rfl rfl
  refine wt hst (fun b33 => ?_) (fun b33 => ?_)
  ·replace h := ite_t b33 h
   refine wp_skip ?_
   refine hK27 _ _ ?_
   try clear hK27 K27
   refine wp_seq_k (fun K29 hK29 => ?_)
   refine wp_block ?_
   obtain ⟨t19,ht19,h⟩ := bind_some h
   obtain ⟨t23,ht23,h⟩ := bind_some h
   refine sr mixed [] hst (fun _ => .q 2 rfl <| .q 2 rfl <| .o (op_index ud26 tok62 z1 z0 ht19) <| .o (op_load tok62 z0) <| .q 7 rfl <| .q 6 rfl <| .o (op_index ud26 tok62 z1 z0 ht23) <| .o (op_load tok62 z0) <| .o (op_neq_t62 z4 z0) <| .n) fun n6 a w hst => ?_
   replace hst := hst.to [8,10,11,12] [_,_,_,_] [] rfl rfl
   refine wt hst (fun b32 => ?_) (fun b32 => ?_)
   ·replace h := ite_t b32 h
    refine sr mixed [] hst (fun _ => .o (op_assign .k) <| .n) fun n7 a w hst => ?_
    replace hst := hst.to [0] [_] [] rfl rfl
    refine wp_ret ?_
    exact hJp24 _ _ _ (ho _ (sj h).symm) (hst.pick [0])
   ·replace h := ite_f b32 h
    refine wp_skip ?_
    refine hK29 _ _ ?_
    try clear hK29 K29
    refine wr mixed [] hst (fun _ => .q 1 rfl <| .o (op_add z0 .k) <| .o (op_assign z0) <| .n) fun n5 a w hst => ?_
    replace hst := hst.to [2,4,5] [_,_,_] [] rfl rfl
    exact hK26 _ _ _ (sj h).symm (hst.pick [0,1,2])
  ·replace h := ite_f b33 h
   refine wp_exit ?_
   exact hJp23 _ _ _ (ho _ (sj h).symm) (hst.pick [])

/- diorama/dioramalaw10.example -/
noncomputable def flaw10_example (num_ : Bool) (turned_ : Bool) : Option (Sapi_Schema) := ((if num_ = true then (idx [(Sapi_Field.mk ([107] : Str) ([] : Str) ([] : Str) (0:Int) (0:Int) (0:Int) ([] : (List Str)) ([] : (List Int))),(Sapi_Field.mk ([114] : Str) ([97] : Str) ([] : Str) (1:Int) (0:Int) (3:Int) ([] : (List Str)) ([] : (List Int))),(Sapi_Field.mk ([99] : Str) ([107] : Str) ([114] : Str) (8:Int) (0:Int) (0:Int) ([] : (List Str)) ([] : (List Int)))] (2:Int)).bind fun t19 => (setAt [(Sapi_Field.mk ([107] : Str) ([] : Str) ([] : Str) (0:Int) (0:Int) (0:Int) ([] : (List Str)) ([] : (List Int))),(Sapi_Field.mk ([114] : Str) ([97] : Str) ([] : Str) (1:Int) (0:Int) (3:Int) ([] : (List Str)) ([] : (List Int))),(Sapi_Field.mk ([99] : Str) ([107] : Str) ([114] : Str) (8:Int) (0:Int) (0:Int) ([] : (List Str)) ([] : (List Int)))] (2:Int) { t19 with Of := ([110] : Str) }).bind fun t19s => (some t19s) else (some [(Sapi_Field.mk ([107] : Str) ([] : Str) ([] : Str) (0:Int) (0:Int) (0:Int) ([] : (List Str)) ([] : (List Int))),(Sapi_Field.mk ([114] : Str) ([97] : Str) ([] : Str) (1:Int) (0:Int) (3:Int) ([] : (List Str)) ([] : (List Int))),(Sapi_Field.mk ([99] : Str) ([107] : Str) ([114] : Str) (8:Int) (0:Int) (0:Int) ([] : (List Str)) ([] : (List Int)))]))).bind fun (p10 : List Sapi_Field) => (if turned_ = true then (some (Sapi_Schema.mk (0:Int) [(Sapi_Kind.mk ([98] : Str) (0:Int) (9:Int) p10),(Sapi_Kind.mk ([97] : Str) (0:Int) (9:Int) [(Sapi_Field.mk ([107] : Str) ([] : Str) ([] : Str) (0:Int) (0:Int) (0:Int) ([] : (List Str)) ([] : (List Int))),(Sapi_Field.mk ([110] : Str) ([] : Str) ([] : Str) (2:Int) (0:Int) (5:Int) ([] : (List Str)) ([] : (List Int)))])] ([] : (List Sapi_Life)) ([] : (List Sapi_Rule)))) else (some (Sapi_Schema.mk (0:Int) [(Sapi_Kind.mk ([97] : Str) (0:Int) (9:Int) [(Sapi_Field.mk ([107] : Str) ([] : Str) ([] : Str) (0:Int) (0:Int) (0:Int) ([] : (List Str)) ([] : (List Int))),(Sapi_Field.mk ([110] : Str) ([] : Str) ([] : Str) (2:Int) (0:Int) (5:Int) ([] : (List Str)) ([] : (List Int)))]),(Sapi_Kind.mk ([98] : Str) (0:Int) (9:Int) p10)] ([] : (List Sapi_Life)) ([] : (List Sapi_Rule)))))
set_option maxRecDepth 100000 in
set_option maxHeartbeats 4000000 in
theorem law10_example_ok {num_ : Bool} {turned_ : Bool} {r : Sapi_Schema} (h : flaw10_example num_ turned_ = some r) : FnOk Tryz.prog 43 [tb num_,tb turned_] [] (fun _ => []) (fun _ => rSapi_Schema.ty r) := by
 unfold flaw10_example at h
 refine FnOk.enter Tryz.func43 rfl Tryz.ntmps43 (leb rfl) (fun M0 M w0 a hpl hst => ?_)
 replace hst : St M w0 30 [(0,tb num_),(1,tb turned_)] [] a w0 := hst
 refine sr mixed [v1 0 (fun v0 => box (rSapi_Schema.cs zz4) v0)] hst (fun _ => .m [] [0] rfl rfl rfl (op_alloc (R := rSapi_Schema) (a := zz4) tok34 zok34) <| .n) fun n0 a w hst => ?_
 replace hst := hst.to [0,1,2] [_,_,_] [_] rfl rfl
 refine sr mixed [v1 4 (fun v0 => box (rSapi_Kind.cs zz1) v0),v1 4 (fun v0 => box (rSapi_Kind.cs (Sapi_Kind.mk ([97] : Str) (0:Int) (9:Int) [(Sapi_Field.mk ([107] : Str) ([] : Str) ([] : Str) (0:Int) (0:Int) (0:Int) ([] : (List Str)) ([] : (List Int))),(Sapi_Field.mk ([110] : Str) ([] : Str) ([] : Str) (2:Int) (0:Int) (5:Int) ([] : (List Str)) ([] : (List Int)))])) v0)] hst (fun _ => .p (T := rSapi_Field.ty (Sapi_Field.mk ([107] : Str) ([] : Str) ([] : Str) (0:Int) (0:Int) (0:Int) ([] : (List Str)) ([] : (List Int)))) rfl (op_build ud44 pl44 zv44 zc44 (.cons (R := rS) (u := ([107] : Str)) rfl .k (leb rfl) <| .nil _)) <| .p (T := rSapi_Field.ty (Sapi_Field.mk ([110] : Str) ([] : Str) ([] : Str) (2:Int) (0:Int) (5:Int) ([] : (List Str)) ([] : (List Int)))) rfl (op_build ud44 pl44 zv44 zc44 (.cons (R := rS) (u := ([110] : Str)) rfl .k (leb rfl) <| .cons (R := rI) (u := (2:Int)) rfl .k (leb rfl) <| .cons (R := rI) (u := (5:Int)) rfl .k (leb rfl) <| .nil _)) <| .o (op_buildSl (R := rSapi_Field) (us := [(Sapi_Field.mk ([107] : Str) ([] : Str) ([] : Str) (0:Int) (0:Int) (0:Int) ([] : (List Str)) ([] : (List Int))),(Sapi_Field.mk ([110] : Str) ([] : Str) ([] : Str) (2:Int) (0:Int) (5:Int) ([] : (List Str)) ([] : (List Int)))]) ud45 tok44 (.cons z1 <| .cons z0 <| .nil _) rfl (leb rfl)) <| .p (T := rSapi_Kind.ty (Sapi_Kind.mk ([97] : Str) (0:Int) (9:Int) [(Sapi_Field.mk ([107] : Str) ([] : Str) ([] : Str) (0:Int) (0:Int) (0:Int) ([] : (List Str)) ([] : (List Int))),(Sapi_Field.mk ([110] : Str) ([] : Str) ([] : Str) (2:Int) (0:Int) (5:Int) ([] : (List Str)) ([] : (List Int)))])) rfl (op_build Tryz.underlying47 pl47 zv47 zc47 (.cons (R := rS) (u := ([97] : Str)) rfl .k (leb rfl) <| .cons (R := rI) (u := (9:Int)) rfl .k (leb rfl) <| .cons (R := (rSl rSapi_Field)) (u := [(Sapi_Field.mk ([107] : Str) ([] : Str) ([] : Str) (0:Int) (0:Int) (0:Int) ([] : (List Str)) ([] : (List Int))),(Sapi_Field.mk ([110] : Str) ([] : Str) ([] : Str) (2:Int) (0:Int) (5:Int) ([] : (List Str)) ([] : (List Int)))]) rfl z0 (leb rfl) <| .nil _)) <| .m [] [1] rfl rfl rfl (op_alloc (R := rSapi_Kind) (a := zz1) tok47 zok47) <| .e [] [1] [2] rfl rfl rfl rfl (op_storeB (R := rSapi_Kind) (a := (Sapi_Kind.mk ([97] : Str) (0:Int) (9:Int) [(Sapi_Field.mk ([107] : Str) ([] : Str) ([] : Str) (0:Int) (0:Int) (0:Int) ([] : (List Str)) ([] : (List Int))),(Sapi_Field.mk ([110] : Str) ([] : Str) ([] : Str) (2:Int) (0:Int) (5:Int) ([] : (List Str)) ([] : (List Int)))])) tok47 z0 z1 (leb rfl)) <| .n) fun n1 a w hst => ?_
 replace hst : St _ _ _ [_,_,_,_] [_] _ _ := ((((hst.pick [4,5,6,7]).selA [1,0] rfl).shareB 0 rfl).add 0 rfl (fun _ _ _ h => h.2)).pick [0,3,4,5]
 refine wp_seq_k (fun K5 hK5 => ?_)
 refine wp_reg mixed [v1 3 (fun v0 => own rSapi_Field 44 [(Sapi_Field.mk ([107] : Str) ([] : Str) ([] : Str) (0:Int) (0:Int) (0:Int) ([] : (List Str)) ([] : (List Int))),(Sapi_Field.mk ([114] : Str) ([97] : Str) ([] : Str) (1:Int) (0:Int) (3:Int) ([] : (List Str)) ([] : (List Int))),(Sapi_Field.mk ([99] : Str) ([107] : Str) ([114] : Str) (8:Int) (0:Int) (0:Int) ([] : (List Str)) ([] : (List Int)))] v0),v1 5 (fun v0 => box (rSapi_Kind.cs zz1) v0),v2 3 5 (fun v0 v1 => box ([tv (.string (sB ([98] : Str))),ti (0:Int),ti (9:Int),tvs v0]) v1)] hst (fun n2 => .p (T := rSapi_Field.ty (Sapi_Field.mk ([107] : Str) ([] : Str) ([] : Str) (0:Int) (0:Int) (0:Int) ([] : (List Str)) ([] : (List Int)))) rfl (op_build ud44 pl44 zv44 zc44 (.cons (R := rS) (u := ([107] : Str)) rfl .k (leb rfl) <| .nil _)) <| .p (T := rSapi_Field.ty (Sapi_Field.mk ([114] : Str) ([97] : Str) ([] : Str) (1:Int) (0:Int) (3:Int) ([] : (List Str)) ([] : (List Int)))) rfl (op_build ud44 pl44 zv44 zc44 (.cons (R := rS) (u := ([114] : Str)) rfl .k (leb rfl) <| .cons (R := rS) (u := ([97] : Str)) rfl .k (leb rfl) <| .cons (R := rI) (u := (1:Int)) rfl .k (leb rfl) <| .cons (R := rI) (u := (3:Int)) rfl .k (leb rfl) <| .nil _)) <| .p (T := rSapi_Field.ty (Sapi_Field.mk ([99] : Str) ([107] : Str) ([114] : Str) (8:Int) (0:Int) (0:Int) ([] : (List Str)) ([] : (List Int)))) rfl (op_build ud44 pl44 zv44 zc44 (.cons (R := rS) (u := ([99] : Str)) rfl .k (leb rfl) <| .cons (R := rS) (u := ([107] : Str)) rfl .k (leb rfl) <| .cons (R := rS) (u := ([114] : Str)) rfl .k (leb rfl) <| .cons (R := rI) (u := (8:Int)) rfl .k (leb rfl) <| .nil _)) <| .m [] [1] rfl rfl rfl (op_buildSlO (R := rSapi_Field) (us := [(Sapi_Field.mk ([107] : Str) ([] : Str) ([] : Str) (0:Int) (0:Int) (0:Int) ([] : (List Str)) ([] : (List Int))),(Sapi_Field.mk ([114] : Str) ([97] : Str) ([] : Str) (1:Int) (0:Int) (3:Int) ([] : (List Str)) ([] : (List Int))),(Sapi_Field.mk ([99] : Str) ([107] : Str) ([114] : Str) (8:Int) (0:Int) (0:Int) ([] : (List Str)) ([] : (List Int)))]) ud45 tok44 (.cons z2 <| .cons z1 <| .cons z0 <| .nil _) rfl (leb rfl) (leb rfl)) <| .ud (f := fun v => tagg ([tv (.string (sB ([98] : Str))),ti (0:Int),ti (9:Int),tvs v])) 3 rfl [1] rfl rfl (.say (A := own rSapi_Field 44 [(Sapi_Field.mk ([107] : Str) ([] : Str) ([] : Str) (0:Int) (0:Int) (0:Int) ([] : (List Str)) ([] : (List Int))),(Sapi_Field.mk ([114] : Str) ([97] : Str) ([] : Str) (1:Int) (0:Int) (3:Int) ([] : (List Str)) ([] : (List Int))),(Sapi_Field.mk ([99] : Str) ([107] : Str) ([114] : Str) (8:Int) (0:Int) (0:Int) ([] : (List Str)) ([] : (List Int)))] (n2 3)) (.head _) (fun _ _ h => own_one h) fun hu1 => OpJ.useMore (U := []) (fun A hA => by cases hA) (op_build Tryz.underlying47 pl47 zv47 zc47 (.cons (R := rS) (u := ([98] : Str)) rfl .k (leb rfl) <| .cons (R := rI) (u := (9:Int)) rfl .k (leb rfl) <| .cons (R := rVal) (u := (n2 3)) rfl (Fct.weak z0 fun _ _ _ h => ⟨h,hu1⟩) (leb rfl) <| .nil _))) <| .m [] [2] rfl rfl rfl (op_alloc (R := rSapi_Kind) (a := zz1) tok47 zok47) <| .e [] [2] [3] rfl rfl rfl rfl (op_storeB (R := (rAgg ([tv (.string (sB ([98] : Str))),ti (0:Int),ti (9:Int),tvs (n2 3)]) (one_cons (one_tv rfl) (one_cons (one_tv rfl) (one_cons (one_tv rfl) (one_cons one_tvs one_nil)))))) (a := ()) (tokA tok47 (one_cons (one_tv rfl) (one_cons (one_tv rfl) (one_cons (one_tv rfl) (one_cons one_tvs one_nil)))) rfl rfl) z0 z1 (leb rfl)) <| .nil _ _) (by kernel_rfl) (fun n2 a w hst => ?_)
 replace hst := hst.to [3,5,6,7,8,9] [_,_,_,_,_,_] [_,_,_] rfl rfl
 refine hK5 _ _ ?_
 try clear hK5 K5
 refine wp_seq_k (fun K8 hK8 => ?_)
 refine sr mixed [] hst (fun _ => .q 4 rfl <| .n) fun n3 a w hst => ?_
 replace hst := hst.to [0,1,2,3,4,6] [_,_,_,_,_,_] [_,_,_] rfl rfl
 obtain ⟨p10,hp10,h⟩ := bind_some h
 have hJp10 : ∀ a w,St M w0 30 [(6,tv (n2 5)),(5,tptr (rSapi_Kind.cs (Sapi_Kind.mk ([97] : Str) (0:Int) (9:Int) [(Sapi_Field.mk ([107] : Str) ([] : Str) ([] : Str) (0:Int) (0:Int) (0:Int) ([] : (List Str)) ([] : (List Int))),(Sapi_Field.mk ([110] : Str) ([] : Str) ([] : Str) (2:Int) (0:Int) (5:Int) ([] : (List Str)) ([] : (List Int)))]))),(4,tv (n0 0)),(1,tb turned_)] [box (rSapi_Schema.cs zz4) (n0 0),box ([tv (.string (sB ([98] : Str))),ti (0:Int),ti (9:Int),tvs (n2 3)]) (n2 5),own rSapi_Field 44 p10 (n2 3)] a w → K8 a w := by
  intro a w hst
  refine hK8 _ _ ?_
  try clear hK8 K8
  refine wp_seq_k (fun K12 hK12 => ?_)
  refine sr mixed [] hst (fun _ => .q 3 rfl <| .n) fun n5 a w hst => ?_
  replace hst := hst.to [0,1,2,3] [_,_,_,_] [_,_,_] rfl rfl
  refine wt hst (fun b16 => ?_) (fun b16 => ?_)
  ·replace h := ite_t b16 h
   refine wp_seq_k (fun K14 hK14 => ?_)
   replace hst : St _ _ _ [_,_,_,_] [_,_] _ _ := ((hst.pick [0,1,2,3]).selA [2,1,0] rfl).shareC 3 rfl
   refine wr mixed [v0 (box (rSapi_Schema.cs (Sapi_Schema.mk (0:Int) [(Sapi_Kind.mk ([98] : Str) (0:Int) (9:Int) p10),(Sapi_Kind.mk ([97] : Str) (0:Int) (9:Int) [(Sapi_Field.mk ([107] : Str) ([] : Str) ([] : Str) (0:Int) (0:Int) (0:Int) ([] : (List Str)) ([] : (List Int))),(Sapi_Field.mk ([110] : Str) ([] : Str) ([] : Str) (2:Int) (0:Int) (5:Int) ([] : (List Str)) ([] : (List Int)))])] ([] : (List Sapi_Life)) ([] : (List Sapi_Rule)))) (n0 0))] hst (fun _ => .u [0] rfl rfl (op_loadB (R := rSapi_Kind) (u := (Sapi_Kind.mk ([98] : Str) (0:Int) (9:Int) p10)) tok47 z1 rfl) <| .o (op_load tok47 z3) <| .o (op_buildSl (R := rSapi_Kind) (us := [(Sapi_Kind.mk ([98] : Str) (0:Int) (9:Int) p10),(Sapi_Kind.mk ([97] : Str) (0:Int) (9:Int) [(Sapi_Field.mk ([107] : Str) ([] : Str) ([] : Str) (0:Int) (0:Int) (0:Int) ([] : (List Str)) ([] : (List Int))),(Sapi_Field.mk ([110] : Str) ([] : Str) ([] : Str) (2:Int) (0:Int) (5:Int) ([] : (List Str)) ([] : (List Int)))])]) ud30 tok47 (.cons z1 <| .cons z0 <| .nil _) rfl (leb rfl)) <| .p (T := rSapi_Schema.ty (Sapi_Schema.mk (0:Int) [(Sapi_Kind.mk ([98] : Str) (0:Int) (9:Int) p10),(Sapi_Kind.mk ([97] : Str) (0:Int) (9:Int) [(Sapi_Field.mk ([107] : Str) ([] : Str) ([] : Str) (0:Int) (0:Int) (0:Int) ([] : (List Str)) ([] : (List Int))),(Sapi_Field.mk ([110] : Str) ([] : Str) ([] : Str) (2:Int) (0:Int) (5:Int) ([] : (List Str)) ([] : (List Int)))])] ([] : (List Sapi_Life)) ([] : (List Sapi_Rule)))) rfl (op_build ud34 pl34 zv34 zc34 (.cons (R := (rSl rSapi_Kind)) (u := [(Sapi_Kind.mk ([98] : Str) (0:Int) (9:Int) p10),(Sapi_Kind.mk ([97] : Str) (0:Int) (9:Int) [(Sapi_Field.mk ([107] : Str) ([] : Str) ([] : Str) (0:Int) (0:Int) (0:Int) ([] : (List Str)) ([] : (List Int))),(Sapi_Field.mk ([110] : Str) ([] : Str) ([] : Str) (2:Int) (0:Int) (5:Int) ([] : (List Str)) ([] : (List Int)))])]) rfl z0 (leb rfl) <| .nil _)) <| .e [] [1] [2] rfl rfl rfl rfl (op_storeB (R := rSapi_Schema) (a := (Sapi_Schema.mk (0:Int) [(Sapi_Kind.mk ([98] : Str) (0:Int) (9:Int) p10),(Sapi_Kind.mk ([97] : Str) (0:Int) (9:Int) [(Sapi_Field.mk ([107] : Str) ([] : Str) ([] : Str) (0:Int) (0:Int) (0:Int) ([] : (List Str)) ([] : (List Int))),(Sapi_Field.mk ([110] : Str) ([] : Str) ([] : Str) (2:Int) (0:Int) (5:Int) ([] : (List Str)) ([] : (List Int)))])] ([] : (List Sapi_Life)) ([] : (List Sapi_Rule)))) tok34 z7 z0 (leb rfl)) <| .n) fun n6 a w hst => ?_
   replace hst : St _ _ _ [_] [_] _ _ := (hst.pick [7]).selA [1] rfl
   refine hK14 _ _ ?_
   try clear hK14 K14
   refine wp_ret ?_
   obtain rfl := sj h
   exact ret_st undef [] hpl hst rfl (.cell (R := rSapi_Schema) (u := (Sapi_Schema.mk (0:Int) [(Sapi_Kind.mk ([98] : Str) (0:Int) (9:Int) p10),(Sapi_Kind.mk ([97] : Str) (0:Int) (9:Int) [(Sapi_Field.mk ([107] : Str) ([] : Str) ([] : Str) (0:Int) (0:Int) (0:Int) ([] : (List Str)) ([] : (List Int))),(Sapi_Field.mk ([110] : Str) ([] : Str) ([] : Str) (2:Int) (0:Int) (5:Int) ([] : (List Str)) ([] : (List Int)))])] ([] : (List Sapi_Life)) ([] : (List Sapi_Rule)))) tok34 z0 0 rfl rfl .nil) rfl rfl rfl
  ·replace h := ite_f b16 h
   refine wp_skip ?_
   refine hK12 _ _ ?_
   try clear hK12 K12
   refine wp_seq_k (fun K15 hK15 => ?_)
   replace hst : St _ _ _ [_,_,_,_] [_,_] _ _ := ((hst.pick [0,1,2,3]).selA [2,1,0] rfl).shareC 3 rfl
   refine wr mixed [v0 (box (rSapi_Schema.cs (Sapi_Schema.mk (0:Int) [(Sapi_Kind.mk ([97] : Str) (0:Int) (9:Int) [(Sapi_Field.mk ([107] : Str) ([] : Str) ([] : Str) (0:Int) (0:Int) (0:Int) ([] : (List Str)) ([] : (List Int))),(Sapi_Field.mk ([110] : Str) ([] : Str) ([] : Str) (2:Int) (0:Int) (5:Int) ([] : (List Str)) ([] : (List Int)))]),(Sapi_Kind.mk ([98] : Str) (0:Int) (9:Int) p10)] ([] : (List Sapi_Life)) ([] : (List Sapi_Rule)))) (n0 0))] hst (fun _ => .o (op_load tok47 z2) <| .u [0] rfl rfl (op_loadB (R := rSapi_Kind) (u := (Sapi_Kind.mk ([98] : Str) (0:Int) (9:Int) p10)) tok47 z2 rfl) <| .o (op_buildSl (R := rSapi_Kind) (us := [(Sapi_Kind.mk ([97] : Str) (0:Int) (9:Int) [(Sapi_Field.mk ([107] : Str) ([] : Str) ([] : Str) (0:Int) (0:Int) (0:Int) ([] : (List Str)) ([] : (List Int))),(Sapi_Field.mk ([110] : Str) ([] : Str) ([] : Str) (2:Int) (0:Int) (5:Int) ([] : (List Str)) ([] : (List Int)))]),(Sapi_Kind.mk ([98] : Str) (0:Int) (9:Int) p10)]) ud30 tok47 (.cons z1 <| .cons z0 <| .nil _) rfl (leb rfl)) <| .p (T := rSapi_Schema.ty (Sapi_Schema.mk (0:Int) [(Sapi_Kind.mk ([97] : Str) (0:Int) (9:Int) [(Sapi_Field.mk ([107] : Str) ([] : Str) ([] : Str) (0:Int) (0:Int) (0:Int) ([] : (List Str)) ([] : (List Int))),(Sapi_Field.mk ([110] : Str) ([] : Str) ([] : Str) (2:Int) (0:Int) (5:Int) ([] : (List Str)) ([] : (List Int)))]),(Sapi_Kind.mk ([98] : Str) (0:Int) (9:Int) p10)] ([] : (List Sapi_Life)) ([] : (List Sapi_Rule)))) rfl (op_build ud34 pl34 zv34 zc34 (.cons (R := (rSl rSapi_Kind)) (u := [(Sapi_Kind.mk ([97] : Str) (0:Int) (9:Int) [(Sapi_Field.mk ([107] : Str) ([] : Str) ([] : Str) (0:Int) (0:Int) (0:Int) ([] : (List Str)) ([] : (List Int))),(Sapi_Field.mk ([110] : Str) ([] : Str) ([] : Str) (2:Int) (0:Int) (5:Int) ([] : (List Str)) ([] : (List Int)))]),(Sapi_Kind.mk ([98] : Str) (0:Int) (9:Int) p10)]) rfl z0 (leb rfl) <| .nil _)) <| .e [] [1] [2] rfl rfl rfl rfl (op_storeB (R := rSapi_Schema) (a := (Sapi_Schema.mk (0:Int) [(Sapi_Kind.mk ([97] : Str) (0:Int) (9:Int) [(Sapi_Field.mk ([107] : Str) ([] : Str) ([] : Str) (0:Int) (0:Int) (0:Int) ([] : (List Str)) ([] : (List Int))),(Sapi_Field.mk ([110] : Str) ([] : Str) ([] : Str) (2:Int) (0:Int) (5:Int) ([] : (List Str)) ([] : (List Int)))]),(Sapi_Kind.mk ([98] : Str) (0:Int) (9:Int) p10)] ([] : (List Sapi_Life)) ([] : (List Sapi_Rule)))) tok34 z7 z0 (leb rfl)) <| .n) fun n7 a w hst => ?_
   replace hst : St _ _ _ [_] [_] _ _ := (hst.pick [7]).selA [1] rfl
   refine hK15 _ _ ?_
   try clear hK15 K15
   refine wp_ret ?_
   obtain rfl := sj h
   exact ret_st undef [] hpl hst rfl (.cell (R := rSapi_Schema) (u := (Sapi_Schema.mk (0:Int) [(Sapi_Kind.mk ([97] : Str) (0:Int) (9:Int) [(Sapi_Field.mk ([107] : Str) ([] : Str) ([] : Str) (0:Int) (0:Int) (0:Int) ([] : (List Str)) ([] : (List Int))),(Sapi_Field.mk ([110] : Str) ([] : Str) ([] : Str) (2:Int) (0:Int) (5:Int) ([] : (List Str)) ([] : (List Int)))]),(Sapi_Kind.mk ([98] : Str) (0:Int) (9:Int) p10)] ([] : (List Sapi_Life)) ([] : (List Sapi_Rule)))) tok34 z0 0 rfl rfl .nil) rfl rfl rfl
 replace h := hp10
 clear hp10
 refine wt hst (fun b17 => ?_) (fun b17 => ?_)
 ·replace h := ite_t b17 h
  obtain ⟨t19,ht19,h⟩ := bind_some h
  obtain ⟨t19s,ht19s,h⟩ := bind_some h
  refine wr mixed [v0 (own rSapi_Field 44 t19s (n2 3))] hst (fun _ => .u [2] rfl rfl (op_fieldB fld47_3 z2) <| .u [2] rfl rfl (op_loadBVf (u := (n2 3)) tokV45 z0 rfl) <| .u [1] rfl rfl (op_indexOi ud45 tok44 z0 .k ht19) <| .u [1] rfl rfl (op_fieldO fld44_1 z0 (idx_ne ht19)) <| .e [] [1] [3] rfl rfl rfl rfl (op_storeOf (u := { t19 with Of := ([110] : Str) }) tok9 z0 .k ht19 ht19s (leb rfl) rfl) <| .n) fun n4 a w hst => ?_
  replace hst := hst.to [1,5,6,7,8,9] [_,_,_,_,_,_] [_,_,_] rfl rfl
  obtain rfl := sj h
  exact hJp10 _ _ (hst.pick [2,3,4,5])
 ·replace h := ite_f b17 h
  refine wp_skip ?_
  obtain rfl := sj h
  exact hJp10 _ _ ((hst.pick [2,3,4,5]).selA [0,2,1] rfl)

/- diorama/dioramalaw10.lives -/
noncomputable def flaw10_lives  : Option (Bool) := (flaw10_example false false).bind fun t4 => (ftyping_Check t4).bind fun t5 => (flaw10_plain t5).bind fun t6 => (flaw10_example true false).bind fun t7 => (ftyping_Check t7).bind fun t8 => (flaw10_plain t8).bind fun t9 => (flaw10_example true true).bind fun t10 => (ftyping_Check t10).bind fun t11 => (flaw10_plain t11).bind fun t12 => (fref10_Same t6 [(Sref10_Problem.mk (1:Int) (2:Int) (-1:Int) (13:Int))]).bind fun t16 => (opt ((t16 && ((t9.length : Int) == (0:Int))) == true) (fref10_Same t12 [(Sref10_Problem.mk (0:Int) (1:Int) (-1:Int) (12:Int)),(Sref10_Problem.mk (0:Int) (2:Int) (-1:Int) (12:Int))]) default).bind fun t27 => (some ((t16 && ((t9.length : Int) == (0:Int))) && t27))
set_option maxRecDepth 100000 in
set_option maxHeartbeats 4000000 in
theorem law10_lives_ok {r : Bool} (h : flaw10_lives  = some r) : FnOk Tryz.prog 12 [] [glo] (fun _ => []) (fun _ => tb r) := by
 unfold flaw10_lives at h
 refine FnOk.enter Tryz.func12 rfl Tryz.ntmps12 (leb rfl) (fun M0 M w0 a hpl hst => ?_)
 replace hst : St M w0 29 [] [glo] a w0 := hst
 refine sr mixed [] hst (fun _ => .o (op_assign .k) <| .n) fun n0 a w hst => ?_
 replace hst := hst.to [] [] [_] rfl rfl
 obtain ⟨t4,ht4,h⟩ := bind_some h
 obtain ⟨t5,ht5,h⟩ := bind_some h
 obtain ⟨t6,ht6,h⟩ := bind_some h
 refine sr mixed [] hst (fun _ => .o (op_callF call43 (law10_example_ok ht4) (.cons (.of .k) <| .cons (.of .k) <| .nil)) <| .u [0] rfl rfl ((op_callF call10 (typing_Check_ok ht5) (.cons (.of z0) <| .nil)).glo) <| .o (op_callF call9 (law10_plain_ok ht6) (.cons (.of z0) <| .nil)) <| .o (op_assign z0) <| .n) fun n1 a w hst => ?_
 replace hst := hst.to [3] [_] [_] rfl rfl
 obtain ⟨t7,ht7,h⟩ := bind_some h
 obtain ⟨t8,ht8,h⟩ := bind_some h
 obtain ⟨t9,ht9,h⟩ := bind_some h
 refine sr mixed [] hst (fun _ => .o (op_callF call43 (law10_example_ok ht7) (.cons (.of .k) <| .cons (.of .k) <| .nil)) <| .u [0] rfl rfl ((op_callF call10 (typing_Check_ok ht8) (.cons (.of z0) <| .nil)).glo) <| .o (op_callF call9 (law10_plain_ok ht9) (.cons (.of z0) <| .nil)) <| .o (op_assign z0) <| .n) fun n2 a w hst => ?_
 replace hst := hst.to [3,4] [_,_] [_] rfl rfl
 obtain ⟨t10,ht10,h⟩ := bind_some h
 obtain ⟨t11,ht11,h⟩ := bind_some h
 obtain ⟨t12,ht12,h⟩ := bind_some h
 refine sr mixed [] hst (fun _ => .o (op_callF call43 (law10_example_ok ht10) (.cons (.of .k) <| .cons (.of .k) <| .nil)) <| .u [0] rfl rfl ((op_callF call10 (typing_Check_ok ht11) (.cons (.of z0) <| .nil)).glo) <| .o (op_callF call9 (law10_plain_ok ht12) (.cons (.of z0) <| .nil)) <| .o (op_assign z0) <| .n) fun n3 a w hst => ?_
 replace hst := hst.to [3,4,5] [_,_,_] [_] rfl rfl
 obtain ⟨t16,ht16,h⟩ := bind_some h
 obtain ⟨t27,ht27,h⟩ := bind_some h
 refine sr mixed [] hst (fun _ => .q 2 rfl <| .p (T := rSref10_Problem.ty (Sref10_Problem.mk (1:Int) (2:Int) (-1:Int) (13:Int))) rfl (op_build ud62 pl62 zv62 zc62 (.cons (R := rI) (u := (1:Int)) rfl .k (leb rfl) <| .cons (R := rI) (u := (2:Int)) rfl .k (leb rfl) <| .cons (R := rI) (u := (-1:Int)) rfl .k (leb rfl) <| .cons (R := rI) (u := (13:Int)) rfl .k (leb rfl) <| .nil _)) <| .o (op_buildSl (R := rSref10_Problem) (us := [(Sref10_Problem.mk (1:Int) (2:Int) (-1:Int) (13:Int))]) ud26 tok62 (.cons z0 <| .nil _) rfl (leb rfl)) <| .o (op_callF call8 (ref10_Same_ok ht16) (.cons (.of z2) <| .cons (.of z0) <| .nil)) <| .q 0 rfl <| .g rfl rfl (.b 0 rfl) (fun _ => op_move z6) <| .g rfl rfl (.b 1 rfl) (fun hc => op_len ud26 (.cond z0 hc)) <| .g rfl rfl (.b 2 rfl) (fun hc => op_eql (.cond z0 hc) .k) <| .o (op_and z3 (fun hp => (.cond z0 (beqT hp)))) <| .q 0 rfl <| .g rfl rfl (.b 0 rfl) (fun _ => op_move z10) <| .g (T := rSref10_Problem.ty (Sref10_Problem.mk (0:Int) (1:Int) (-1:Int) (12:Int))) rfl rfl (.b 1 rfl) (fun _ => op_build ud62 pl62 zv62 zc62 (.cons (R := rI) (u := (1:Int)) rfl .k (leb rfl) <| .cons (R := rI) (u := (-1:Int)) rfl .k (leb rfl) <| .cons (R := rI) (u := (12:Int)) rfl .k (leb rfl) <| .nil _)) <| .g (T := rSref10_Problem.ty (Sref10_Problem.mk (0:Int) (2:Int) (-1:Int) (12:Int))) rfl rfl (.b 2 rfl) (fun _ => op_build ud62 pl62 zv62 zc62 (.cons (R := rI) (u := (2:Int)) rfl .k (leb rfl) <| .cons (R := rI) (u := (-1:Int)) rfl .k (leb rfl) <| .cons (R := rI) (u := (12:Int)) rfl .k (leb rfl) <| .nil _)) <| .g rfl rfl (.b 3 rfl) (fun hc => op_buildSl (R := rSref10_Problem) (us := [(Sref10_Problem.mk (0:Int) (1:Int) (-1:Int) (12:Int)),(Sref10_Problem.mk (0:Int) (2:Int) (-1:Int) (12:Int))]) ud26 tok62 (.cons (.cond z1 hc) <| .cons (.cond z0 hc) <| .nil _) rfl (leb rfl)) <| .g rfl rfl (.b 4 rfl) (fun hc => op_callF call8 (ref10_Same_ok (opt_t ht27 hc)) (.cons (.of (.cond z3 hc)) <| .cons (.of (.cond z0 hc)) <| .nil)) <| .o (op_and z5 (fun hp => (.cond z0 (beqT hp)))) <| .o (op_assign z0) <| .n) fun n4 a w hst => ?_
 replace hst := hst.to [16] [_] [_] rfl rfl
 refine wp_ret ?_
 obtain rfl := sj h
 exact ret_st undef [] hpl hst rfl (.tmp z0 .nil) rfl rfl rfl

/- diorama/dioramalaw10.TypingFinds -/
noncomputable def flaw10_TypingFinds (l_ : (List Int)) (at_ : Int) (how_ : Int) (by_ : Int) : Option (Bool) := (flaw10_some l_ at_ how_ by_).bind fun t15 => (tailrec (fun (s5 : Int) => ((if (decide (s5 < (t15.length : Int))) = true then (idx t15 s5).bind fun t24 => (ftyping_Check t24).bind fun t26 => (flaw10_plain t26).bind fun t27 => (idx t15 s5).bind fun t30 => (fref10_Check t30).bind fun t32 => (fref10_Same t27 t32).bind fun t33 => (if (!t33) = true then (some (.inr (.inr false))) else (some (.inl (IntKind.i64.wrap (s5 + (1:Int)))))) else (some (.inr (.inl ())))) : Option ((Int) ⊕ ((Unit) ⊕ (Bool))))) (0:Int)).bind fun (e6 : (Unit) ⊕ (Bool)) => (match e6 with | .inl _ => (flaw10_lives).bind fun t35 => (some t35) | .inr p22 => (some p22))
set_option maxRecDepth 100000 in
set_option maxHeartbeats 4000000 in
theorem law10_TypingFinds_ok {l_ : (List Int)} {at_ : Int} {how_ : Int} {by_ : Int} {r : Bool} (h : flaw10_TypingFinds l_ at_ how_ by_ = some r) : FnOk Tryz.prog 3 [tsl rI l_,ti at_,ti how_,ti by_] [glo] (fun _ => []) (fun _ => tb r) := by
 unfold flaw10_TypingFinds at h
 refine FnOk.enter Tryz.func3 rfl Tryz.ntmps3 (leb rfl) (fun M0 M w0 a hpl hst => ?_)
 replace hst : St M w0 36 [(0,tsl rI l_),(1,ti at_),(2,ti how_),(3,ti by_)] [glo] a w0 := hst
 refine sr mixed [] hst (fun _ => .o (op_assign .k) <| .n) fun n0 a w hst => ?_
 replace hst := hst.to [1,2,3,4] [_,_,_,_] [_] rfl rfl
 obtain ⟨t15,ht15,h⟩ := bind_some h
 refine sr mixed [] hst (fun _ => .q 0 rfl <| .q 2 rfl <| .q 4 rfl <| .q 6 rfl <| .o (op_callF call7 (law10_some_ok ht15) (.cons (.of z3) <| .cons (.of z2) <| .cons (.of z1) <| .cons (.of z0) <| .nil)) <| .o (op_assign z0) <| .n) fun n1 a w hst => ?_
 replace hst := hst.to [5] [_] [_] rfl rfl
 refine wp_seq_k (fun K3 hK3 => ?_)
 refine sr mixed [] hst (fun _ => .o (op_assign .k) <| .n) fun n2 a w hst => ?_
 replace hst := hst.to [0,1] [_,_] [_] rfl rfl
 obtain ⟨e6,he6,h⟩ := bind_some h
 have hJp21 : ∀ (p21 : Unit) a w,(.inl p21) = e6 → St M w0 36 [] [glo] a w → K3 a w := by
  intro p21 a w he hst
  subst he
  simp only at h
  refine hK3 _ _ ?_
  try clear hK3 K3
  obtain ⟨t35,ht35,h⟩ := bind_some h
  refine sr mixed [] hst (fun _ => .u [0] rfl rfl ((op_callF call12 (law10_lives_ok ht35) (.nil)).glo) <| .o (op_assign z0) <| .n) fun n7 a w hst => ?_
  replace hst := hst.to [1] [_] [_] rfl rfl
  refine wp_ret ?_
  obtain rfl := sj h
  exact ret_st undef [] hpl hst rfl (.tmp z0 .nil) rfl rfl rfl
 have hJp22 : ∀ (p22 : Bool) a w,(.inr p22) = e6 → St M w0 36 [(8,tb p22)] [glo] a w → Ret Tryz.prog Tryz.f3 M0 [glo] w0 (fun _ => []) (fun _ => tb r) .ret a w := by
  intro p22 a w he hst
  subst he
  simp only at h
  obtain rfl := sj h
  exact ret_st undef [] hpl hst rfl (.tmp z0 .nil) rfl rfl rfl
 refine wp_block ?_
 refine wp_loopK _ (fun (s5 : Int) a w => St M w0 36 [(10,ti s5),(9,tsl rSapi_Schema t15)] [glo] a w) _ _ he6 (hst.pick [0,1]) ?_
 clear h
 intro s5 o a w K24 hI h ho hK24
 have hst := hI
 clear hI
 refine wp_seq_k (fun K25 hK25 => ?_)
 refine sr mixed [] hst (fun _ => .q 0 rfl <| .q 2 rfl <| .o (op_len ud23 z0) <| .o (op_lss z2 z0) <| .n) fun n3 a w hst => ?_
 replace hst := hst.to [3,4,5] [_,_,_] [_] rfl rfl
 refine wt hst (fun b31 => ?_) (fun b31 => ?_)
 ·replace h := ite_t b31 h
  refine wp_skip ?_
  refine hK25 _ _ ?_
  try clear hK25 K25
  refine wp_seq_k (fun K27 hK27 => ?_)
  refine wp_block ?_
  obtain ⟨t24,ht24,h⟩ := bind_some h
  obtain ⟨t26,ht26,h⟩ := bind_some h
  obtain ⟨t27,ht27,h⟩ := bind_some h
  obtain ⟨t30,ht30,h⟩ := bind_some h
  obtain ⟨t32,ht32,h⟩ := bind_some h
  obtain ⟨t33,ht33,h⟩ := bind_some h
  refine sr mixed [] hst (fun _ => .q 2 rfl <| .q 2 rfl <| .o (op_index ud23 tok34 z1 z0 ht24) <| .o (op_load tok34 z0) <| .u [0] rfl rfl ((op_callF call10 (typing_Check_ok ht26) (.cons (.of z0) <| .nil)).glo) <| .o (op_callF call9 (law10_plain_ok ht27) (.cons (.of z0) <| .nil)) <| .q 8 rfl <| .q 8 rfl <| .o (op_index ud23 tok34 z1 z0 ht30) <| .o (op_load tok34 z0) <| .o (op_callF call11 (ref10_Check_ok ht32) (.cons (.of z0) <| .nil)) <| .o (op_callF call8 (ref10_Same_ok ht33) (.cons (.of z5) <| .cons (.of z0) <| .nil)) <| .o (op_not z0) <| .n) fun n5 a w hst => ?_
  replace hst := hst.to [12,14,15] [_,_,_] [_] rfl rfl
  refine wt hst (fun b30 => ?_) (fun b30 => ?_)
  ·replace h := ite_t b30 h
   refine sr mixed [] hst (fun _ => .o (op_assign .k) <| .n) fun n6 a w hst => ?_
   replace hst := hst.to [0] [_] [_] rfl rfl
   refine wp_ret ?_
   exact hJp22 _ _ _ (ho _ (sj h).symm) (hst.pick [0])
  ·replace h := ite_f b30 h
   refine wp_skip ?_
   refine hK27 _ _ ?_
   try clear hK27 K27
   refine wr mixed [] hst (fun _ => .q 1 rfl <| .o (op_add z0 .k) <| .o (op_assign z0) <| .n) fun n4 a w hst => ?_
   replace hst := hst.to [2,4] [_,_] [_] rfl rfl
   exact hK24 _ _ _ (sj h).symm (hst.pick [0,1])
 ·replace h := ite_f b31 h
  refine wp_exit ?_
  exact hJp21 _ _ _ (ho _ (sj h).symm) (hst.pick [])

end Go.Proofs.YthdfmpocknmleaaGreatDoor

/- Go functions as Lean functions, and the proofs that they compute them, written by a program. No condition. -/
import Derived.Test.YthdfmpocknmleaaGreatDoorGenB
namespace Go.Proofs.YthdfmpocknmleaaGreatDoor
open Go.Sim

/- diorama/dioramaref27.Fit -/
noncomputable def fref27_Fit (x_ : Sapi_Schema) (kind_ : Int) (field_ : Int) (counts_ : (List Int)) : Option (Sapi_Schema × Int) := (if (((decide (kind_ < (0:Int))) || (decide (kind_ ≥ ((x_).Kinds.length : Int)))) || (decide (field_ < (0:Int)))) = true then (some (zz4,(12:Int))) else (idx (x_).Kinds kind_).bind fun t30 => (if (decide (field_ ≥ ((t30).Fields.length : Int))) = true then (some (zz4,(12:Int))) else (idx (x_).Kinds kind_).bind fun t39 => (idx (t39).Fields field_).bind fun t43 => (if ((t43).Kind != (3:Int)) = true then (some (zz4,(13:Int))) else (if ((counts_.length : Int) != ((t43).Words.length : Int)) = true then (some (zz4,(1:Int))) else (tailrec (fun (s20 : Int) => ((if (decide (s20 < (counts_.length : Int))) = true then (idx counts_ s20).bind fun t64 => (opt ((decide (t64 < (0:Int))) == false) (idx counts_ s20) default).bind fun t70 => (if ((decide (t64 < (0:Int))) || (decide (t70 > (524288:Int)))) = true then (some (.inr (.inr (5:Int)))) else (some (.inl (IntKind.i64.wrap (s20 + (1:Int)))))) else (some (.inr (.inl ())))) : Option ((Int) ⊕ ((Unit) ⊕ (Int))))) (0:Int)).bind fun (e21 : (Unit) ⊕ (Int)) => (match e21 with | .inl _ => (fref27_Sum counts_).bind fun t76 => ((if (decide (t76 > (0:Int))) = true then (fref27_Lowest counts_).bind fun t79 => (some (Sapi_Field.mk (t43).Name (t43).Of (t43).Up (t43).Kind (t43).Lo (t43).Hi (t43).Words t79)) else (some t43))).bind fun (p40 : Sapi_Field) => (rm (([] : List Sapi_Kind).length + (x_).Kinds.length)).bind fun _ => (idx (([] : List Sapi_Kind) ++ (x_).Kinds) kind_).bind fun t93 => (rm (([] : List Sapi_Field).length + (t93).Fields.length)).bind fun _ => (idx (([] : List Sapi_Kind) ++ (x_).Kinds) kind_).bind fun t97 => (setAt (([] : List Sapi_Field) ++ (t93).Fields) field_ p40).bind fun t107s => (some ((Sapi_Schema.mk (x_).Version ((([] : List Sapi_Kind) ++ (x_).Kinds).set (kind_).toNat (Sapi_Kind.mk (t97).Name (t97).Lo (t97).Hi t107s)) (x_).Lives (x_).Rules),(0:Int))) | .inr p37 => (some (zz4,p37)))))))
set_option maxRecDepth 100000 in
set_option maxHeartbeats 4000000 in
theorem ref27_Fit_ok {x_ : Sapi_Schema} {kind_ : Int} {field_ : Int} {counts_ : (List Int)} {r : Sapi_Schema × Int} (h : fref27_Fit x_ kind_ field_ counts_ = some r) : FnOk Tryz.prog 26 [rSapi_Schema.ty x_,ti kind_,ti field_,tsl rI counts_] [] (fun _ => []) (fun _ => ttup [rSapi_Schema.ty r.1,ti r.2]) := by
 unfold fref27_Fit at h
 refine FnOk.enter Tryz.func26 rfl Tryz.ntmps26 (leb rfl) (fun M0 M w0 a hpl hst => ?_)
 replace hst : St M w0 109 [(0,rSapi_Schema.ty x_),(1,ti kind_),(2,ti field_),(3,tsl rI counts_)] [] a w0 := hst
 refine sr mixed [v1 0 (fun v0 => box (rSapi_Schema.cs x_) v0),v1 1 (fun v0 => box (rSapi_Schema.cs zz4) v0)] hst (fun _ => .m [] [0] rfl rfl rfl (op_box (R := rSapi_Schema) (u := x_) z0) <| .m [] [1] rfl rfl rfl (op_alloc (R := rSapi_Schema) (a := zz4) tok34 zok34) <| .o (op_assign .k) <| .n) fun n0 a w hst => ?_
 replace hst := hst.to [0,1,4,5,6] [_,_,_,_,_] [_,_] rfl rfl
 refine wp_seq_k (fun K4 hK4 => ?_)
 refine sr mixed [] hst (fun _ => .q 2 rfl <| .o (op_lss z0 .k) <| .q 0 rfl <| .g rfl rfl (.b 0 rfl) (fun _ => op_move z5) <| .gu [0] rfl rfl rfl (.b 1 rfl) (fun _ => op_fieldB fld34_1 z4) <| .gu [0] rfl rfl rfl (.b 2 rfl) (fun hc => op_loadBf (R := (rSl rSapi_Kind)) (u := (x_).Kinds) tok30 (.cond z0 hc) rfl) <| .g rfl rfl (.b 3 rfl) (fun hc => op_len ud30 (.cond z0 hc)) <| .g rfl rfl (.b 4 rfl) (fun hc => op_geq (.cond z3 hc) (.cond z0 hc)) <| .o (op_or z5 (fun hp => (.cond z0 (beqF hp)))) <| .q 0 rfl <| .g rfl rfl (.b 0 rfl) (fun _ => op_move z13) <| .g rfl rfl (.b 1 rfl) (fun hc => op_lss (.cond z0 hc) .k) <| .o (op_or z2 (fun hp => (.cond z0 (beqF hp)))) <| .n) fun n1 a w hst => ?_
 replace hst := hst.to [12,13,14,15,16,17] [_,_,_,_,_,_] [_,_] rfl rfl
 refine wt hst (fun b60 => ?_) (fun b60 => ?_)
 ·replace h := ite_t b60 h
  refine sr mixed [v0 (box (rSapi_Schema.cs zz4) (n0 1))] hst (fun _ => .p (T := rSapi_Schema.ty zz4) rfl (op_build ud34 pl34 zv34 zc34 (.nil _)) <| .e [] [1] [2] rfl rfl rfl rfl (op_storeB (R := rSapi_Schema) (a := zz4) tok34 z3 z0 (leb rfl)) <| .o (op_assign .k) <| .n) fun n2 a w hst => ?_
  replace hst : St _ _ _ [_,_] [_] _ _ := (hst.pick [1,4]).selA [1] rfl
  refine wp_ret ?_
  obtain rfl := sj h
  exact ret_st undef [] hpl hst rfl (.cell (R := rSapi_Schema) (u := zz4) tok34 z1 0 rfl rfl (.tmp z0 .nil)) rfl rfl rfl
 ·replace h := ite_f b60 h
  refine wp_skip ?_
  refine hK4 _ _ ?_
  try clear hK4 K4
  refine wp_seq_k (fun K7 hK7 => ?_)
  obtain ⟨t30,ht30,h⟩ := bind_some h
  refine sr mixed [] hst (fun _ => .q 4 rfl <| .u [0] rfl rfl (op_fieldB fld34_1 z2) <| .u [0] rfl rfl (op_loadBf (R := (rSl rSapi_Kind)) (u := (x_).Kinds) tok30 z0 rfl) <| .q 6 rfl <| .o (op_index ud30 tok47 z1 z0 ht30) <| .o (op_field fld47_3 z0) <| .o (op_loadT (R := (rSl rSapi_Field)) (u := (t30).Fields) tok45 z0 rfl) <| .o (op_len ud45 z0) <| .o (op_geq z7 z0) <| .n) fun n3 a w hst => ?_
  replace hst := hst.to [8,10,11,12,13,14] [_,_,_,_,_,_] [_,_] rfl rfl
  refine wt hst (fun b59 => ?_) (fun b59 => ?_)
  ·replace h := ite_t b59 h
   refine sr mixed [v0 (box (rSapi_Schema.cs zz4) (n0 1))] hst (fun _ => .p (T := rSapi_Schema.ty zz4) rfl (op_build ud34 pl34 zv34 zc34 (.nil _)) <| .e [] [1] [2] rfl rfl rfl rfl (op_storeB (R := rSapi_Schema) (a := zz4) tok34 z3 z0 (leb rfl)) <| .o (op_assign .k) <| .n) fun n4 a w hst => ?_
   replace hst : St _ _ _ [_,_] [_] _ _ := (hst.pick [1,4]).selA [1] rfl
   refine wp_ret ?_
   obtain rfl := sj h
   exact ret_st undef [] hpl hst rfl (.cell (R := rSapi_Schema) (u := zz4) tok34 z1 0 rfl rfl (.tmp z0 .nil)) rfl rfl rfl
  ·replace h := ite_f b59 h
   refine wp_skip ?_
   refine hK7 _ _ ?_
   try clear hK7 K7
   obtain ⟨t39,ht39,h⟩ := bind_some h
   obtain ⟨t43,ht43,h⟩ := bind_some h
   refine sr mixed [v1 9 (fun v0 => box (rSapi_Field.cs zz0) v0),v1 9 (fun v0 => box (rSapi_Field.cs t43) v0)] hst (fun _ => .u [0] rfl rfl (op_fieldB fld34_1 z1) <| .u [0] rfl rfl (op_loadBf (R := (rSl rSapi_Kind)) (u := (x_).Kinds) tok30 z0 rfl) <| .q 5 rfl <| .o (op_index ud30 tok47 z1 z0 ht39) <| .o (op_field fld47_3 z0) <| .o (op_loadT (R := (rSl rSapi_Field)) (u := (t39).Fields) tok45 z0 rfl) <| .q 10 rfl <| .o (op_index ud45 tok44 z1 z0 ht43) <| .o (op_load tok44 z0) <| .m [] [2] rfl rfl rfl (op_alloc (R := rSapi_Field) (a := zz0) tok44 zok44) <| .e [] [2] [3] rfl rfl rfl rfl (op_storeB (R := rSapi_Field) (a := t43) tok44 z0 z1 (leb rfl)) <| .n) fun n5 a w hst => ?_
   replace hst := hst.to [9,11,12,13,14,15] [_,_,_,_,_,_] [_,_,_] rfl rfl
   refine wp_seq_k (fun K12 hK12 => ?_)
   refine sr mixed [] hst (fun _ => .u [2] rfl rfl (op_fieldB fld44_3 z0) <| .u [2] rfl rfl (op_loadBf (R := rI) (u := (t43).Kind) tok3 z0 rfl) <| .o (op_neq z0 .k) <| .n) fun n6 a w hst => ?_
   replace hst := hst.to [2,3,4,5,6,7,8] [_,_,_,_,_,_,_] [_,_,_] rfl rfl
   refine wt hst (fun b58 => ?_) (fun b58 => ?_)
   ·replace h := ite_t b58 h
    refine sr mixed [v0 (box (rSapi_Schema.cs zz4) (n0 1))] hst (fun _ => .p (T := rSapi_Schema.ty zz4) rfl (op_build ud34 pl34 zv34 zc34 (.nil _)) <| .e [] [1] [3] rfl rfl rfl rfl (op_storeB (R := rSapi_Schema) (a := zz4) tok34 z4 z0 (leb rfl)) <| .o (op_assign .k) <| .n) fun n7 a w hst => ?_
    replace hst : St _ _ _ [_,_] [_] _ _ := (hst.pick [1,5]).selA [2] rfl
    refine wp_ret ?_
    obtain rfl := sj h
    exact ret_st undef [] hpl hst rfl (.cell (R := rSapi_Schema) (u := zz4) tok34 z1 0 rfl rfl (.tmp z0 .nil)) rfl rfl rfl
   ·replace h := ite_f b58 h
    refine wp_skip ?_
    refine hK12 _ _ ?_
    try clear hK12 K12
    refine wp_seq_k (fun K15 hK15 => ?_)
    refine sr mixed [] hst (fun _ => .q 6 rfl <| .o (op_len ud22 z0) <| .u [2] rfl rfl (op_fieldB fld44_6 z3) <| .u [2] rfl rfl (op_loadBf (R := (rSl rS)) (u := (t43).Words) tok38 z0 rfl) <| .o (op_len ud38 z0) <| .o (op_neq z3 z0) <| .n) fun n8 a w hst => ?_
    replace hst := hst.to [5,7,8,9,10,11,12] [_,_,_,_,_,_,_] [_,_,_] rfl rfl
    refine wt hst (fun b57 => ?_) (fun b57 => ?_)
    ·replace h := ite_t b57 h
     refine sr mixed [v0 (box (rSapi_Schema.cs zz4) (n0 1))] hst (fun _ => .p (T := rSapi_Schema.ty zz4) rfl (op_build ud34 pl34 zv34 zc34 (.nil _)) <| .e [] [1] [3] rfl rfl rfl rfl (op_storeB (R := rSapi_Schema) (a := zz4) tok34 z4 z0 (leb rfl)) <| .o (op_assign .k) <| .n) fun n9 a w hst => ?_
     replace hst : St _ _ _ [_,_] [_] _ _ := (hst.pick [1,5]).selA [2] rfl
     refine wp_ret ?_
     obtain rfl := sj h
     exact ret_st undef [] hpl hst rfl (.cell (R := rSapi_Schema) (u := zz4) tok34 z1 0 rfl rfl (.tmp z0 .nil)) rfl rfl rfl
    ·replace h := ite_f b57 h
     refine wp_skip ?_
     refine hK15 _ _ ?_
     try clear hK15 K15
     refine wp_seq_k (fun K18 hK18 => ?_)
     refine sr mixed [] hst (fun _ => .o (op_assign .k) <| .n) fun n10 a w hst => ?_
     replace hst := hst.to [0,2,3,4,5,6,7] [_,_,_,_,_,_,_] [_,_,_] rfl rfl
     obtain ⟨e21,he21,h⟩ := bind_some h
     have hJp36 : ∀ (p36 : Unit) a w,(.inl p36) = e21 → St M w0 109 [(10,tv (n5 9)),(4,tv (n0 0)),(8,tv (n0 1)),(1,ti kind_),(2,ti field_),(3,tsl rI counts_)] [box (rSapi_Schema.cs x_) (n0 0),box (rSapi_Schema.cs zz4) (n0 1),box (rSapi_Field.cs t43) (n5 9)] a w → K18 a w := by
      intro p36 a w he hst
      subst he
      simp only at h
      refine hK18 _ _ ?_
      try clear hK18 K18
      refine wp_seq_k (fun K38 hK38 => ?_)
      obtain ⟨t76,ht76,h⟩ := bind_some h
      refine sr mixed [] hst (fun _ => .q 5 rfl <| .o (op_callF call55 (ref27_Sum_ok ht76) (.cons (.of z0) <| .nil)) <| .o (op_gtr z0 .k) <| .n) fun n15 a w hst => ?_
      replace hst := hst.to [2,3,4,5,6,7,8] [_,_,_,_,_,_,_] [_,_,_] rfl rfl
      obtain ⟨p40,hp40,h⟩ := bind_some h
      have hJp40 : ∀ a w,St M w0 109 [(10,tv (n5 9)),(4,tv (n0 0)),(8,tv (n0 1)),(1,ti kind_),(2,ti field_)] [box (rSapi_Schema.cs x_) (n0 0),box (rSapi_Schema.cs zz4) (n0 1),box (rSapi_Field.cs p40) (n5 9)] a w → K38 a w := by
       intro a w hst
       refine hK38 _ _ ?_
       try clear hK38 K38
       refine wp_seq_k (fun K42 hK42 => ?_)
       obtain ⟨u84,hu84,h⟩ := bind_some h
       refine wr mixed [v1 0 (fun v0 => own rSapi_Kind 47 ([] : List Sapi_Kind) v0),v1 3 (fun v0 => own rSapi_Kind 47 (([] : List Sapi_Kind) ++ (x_).Kinds) v0),v1 3 (fun v0 => box ([ti (x_).Version,tvs v0,tsl rSapi_Life (x_).Lives,tsl rSapi_Rule (x_).Rules]) (n0 0))] hst (fun _ => .m [] [3] rfl rfl rfl (op_buildSlO (R := rSapi_Kind) (us := ([] : List Sapi_Kind)) ud30 tok47 (.nil _) rfl (leb rfl) (leb rfl)) <| .u [0] rfl rfl (op_fieldB fld34_1 z2) <| .u [0] rfl rfl (op_loadBf (R := (rSl rSapi_Kind)) (u := (x_).Kinds) tok30 z0 rfl) <| .e [] [3] [4] rfl rfl rfl rfl (op_append (R := rSapi_Kind) ud30 tok47 (leb rfl) z2 z0 hu84) <| .u [0] rfl rfl (op_fieldB fld34_1 z5) <| .e [4] [0] [5] rfl rfl rfl rfl (op_storeBVf (R := rSapi_Kind) (e := 47) (Ts := (rSapi_Schema.cs x_)) (off := 1) tokV30 z0 z1 (leb rfl)) <| .n) fun n17 a w hst => ?_
       replace hst := hst.to [3,5,6,7,8,9] [_,_,_,_,_,_] [_,_,_,_] rfl rfl
       refine hK42 _ _ ?_
       try clear hK42 K42
       refine wp_seq_k (fun K44 hK44 => ?_)
       obtain ⟨t93,ht93,h⟩ := bind_some h
       obtain ⟨u96,hu96,h⟩ := bind_some h
       obtain ⟨t97,ht97,h⟩ := bind_some h
       refine wr mixed [v1 3 (fun v0 => own rSapi_Field 44 ([] : List Sapi_Field) v0),v1 10 (fun v0 => own rSapi_Field 44 (([] : List Sapi_Field) ++ (t93).Fields) v0),v1 10 (fun v0 => own (rHole rSapi_Kind 3) 47 (holeL (([] : List Sapi_Kind) ++ (x_).Kinds) kind_ v0) (n17 3))] hst (fun _ => .u [3] rfl rfl (op_fieldB fld34_1 z2) <| .u [3] rfl rfl (op_loadBVf (u := (n17 3)) tokV30 z0 rfl) <| .q 6 rfl <| .m [] [4] rfl rfl rfl (op_buildSlO (R := rSapi_Field) (us := ([] : List Sapi_Field)) ud45 tok44 (.nil _) rfl (leb rfl) (leb rfl)) <| .u [3] rfl rfl (op_fieldB fld34_1 z6) <| .u [3] rfl rfl (op_loadBVf (u := (n17 3)) tokV30 z0 rfl) <| .q 10 rfl <| .u [2] rfl rfl (op_indexOi ud30 tok47 z1 z0 ht93) <| .u [2] rfl rfl (op_fieldO fld47_3 z0 (idx_ne ht93)) <| .u [2] rfl rfl (op_loadOf (R2 := (rSl rSapi_Field)) (f := (t93).Fields) tok45 z0 ht93 rfl) <| .e [] [4] [5] rfl rfl rfl rfl (op_append (R := rSapi_Field) ud45 tok44 (leb rfl) z6 z0 hu96) <| .u [2] rfl rfl (op_indexOi ud30 tok47 z9 z8 ht97) <| .u [2] rfl rfl (op_fieldO fld47_3 z0 (idx_ne ht97)) <| .e [5] [2] [6] rfl rfl rfl rfl (op_storeH (R := rSapi_Kind) (R2 := rSapi_Field) (e2 := 44) (ys := (([] : List Sapi_Field) ++ (t93).Fields)) tokV45 z0 z2 ht97 (leb rfl)) <| .n) fun n18 a w hst => ?_
       replace hst := hst.to [1,5,10,13,14,15,16,17,18] [_,_,_,_,_,_,_,_,_] [_,_,_,_,_] rfl rfl
       refine hK44 _ _ ?_
       try clear hK44 K44
       obtain ⟨t107s,ht107s,h⟩ := bind_some h
       refine sr mixed [v0 (own rSapi_Field 44 t107s (n18 10))] hst (fun _ => .u [2] rfl rfl (op_fieldB fld34_1 z5) <| .u [2] rfl rfl (op_loadBVf (u := (n17 3)) tokV30 z0 rfl) <| .q 9 rfl <| .u [4] rfl rfl (op_indexH ud30 tok47 z1 z0 ht97) <| .u [4] rfl rfl (op_fieldH fld47_3 z0 ht97) <| .u [4] rfl rfl (op_loadH (R := rSapi_Kind) (k := 3) tokV45 z0 ht97 (leb rfl)) <| .q 14 rfl <| .u [1] rfl rfl (op_loadB (R := rSapi_Field) (u := p40) tok44 z11 rfl) <| .u [3] rfl rfl (op_indexOs ud45 tok44 z2 z1 ht107s) <| .e [] [3] [5] rfl rfl rfl rfl (op_storeO tok44 z0 z1 ht107s) <| .n) fun n19 a w hst => ?_
       replace hst : St _ _ _ [_,_,_,_,_,_,_,_] [_,_,_,_] _ _ := (hst.pick [1,5,9,10,11,12,14,15]).selA [0,2,3,4] rfl
       refine wp_seq_k (fun K47 hK47 => ?_)
       replace hst : St _ _ _ [_,_,_,_,_,_] [_,_,_] _ _ := ((hst.pick [0,2,3,5,6,7]).selA [3,2,0,1] rfl).closeH (u' := (Sapi_Kind.mk (t97).Name (t97).Lo (t97).Hi t107s)) ht97 (leb rfl) rfl
       replace hst : St _ _ _ [_,_] [_,_] _ _ := ((hst.pick [4,5]).selA [0,2,1] rfl).shareC 1 rfl
       refine wr mixed [v0 (box (rSapi_Schema.cs (Sapi_Schema.mk (x_).Version ((([] : List Sapi_Kind) ++ (x_).Kinds).set (kind_).toNat (Sapi_Kind.mk (t97).Name (t97).Lo (t97).Hi t107s)) (x_).Lives (x_).Rules)) (n0 1))] hst (fun _ => .u [0] rfl rfl (op_loadB (R := rSapi_Schema) (u := (Sapi_Schema.mk (x_).Version ((([] : List Sapi_Kind) ++ (x_).Kinds).set (kind_).toNat (Sapi_Kind.mk (t97).Name (t97).Lo (t97).Hi t107s)) (x_).Lives (x_).Rules)) tok34 z0 rfl) <| .e [] [1] [2] rfl rfl rfl rfl (op_storeB (R := rSapi_Schema) (a := (Sapi_Schema.mk (x_).Version ((([] : List Sapi_Kind) ++ (x_).Kinds).set (kind_).toNat (Sapi_Kind.mk (t97).Name (t97).Lo (t97).Hi t107s)) (x_).Lives (x_).Rules)) tok34 z2 z0 (leb rfl)) <| .o (op_assign .k) <| .n) fun n20 a w hst => ?_
       replace hst : St _ _ _ [_,_] [_] _ _ := (hst.pick [1,3]).selA [1] rfl
       refine hK47 _ _ ?_
       try clear hK47 K47
       refine wp_ret ?_
       obtain rfl := sj h
       exact ret_st undef [] hpl hst rfl (.cell (R := rSapi_Schema) (u := (Sapi_Schema.mk (x_).Version ((([] : List Sapi_Kind) ++ (x_).Kinds).set (kind_).toNat (Sapi_Kind.mk (t97).Name (t97).Lo (t97).Hi t107s)) (x_).Lives (x_).Rules)) tok34 z1 0 rfl rfl (.tmp z0 .nil)) rfl rfl rfl
      replace h := hp40
      clear hp40
      refine wt hst (fun b48 => ?_) (fun b48 => ?_)
      ·replace h := ite_t b48 h
       obtain ⟨t79,ht79,h⟩ := bind_some h
       refine wr mixed [v0 (box (rSapi_Field.cs (Sapi_Field.mk (t43).Name (t43).Of (t43).Up (t43).Kind (t43).Lo (t43).Hi (t43).Words t79)) (n5 9))] hst (fun _ => .q 6 rfl <| .o (op_callF call63 (ref27_Lowest_ok ht79) (.cons (.of z0) <| .nil)) <| .u [2] rfl rfl (op_fieldB fld44_7 z3) <| .e [] [2] [3] rfl rfl rfl rfl (op_storeBf (R := (rSl rI)) (a := t79) (Ts := (rSapi_Field.cs t43)) (off := 7) tok22 z0 z1 (leb rfl)) <| .n) fun n16 a w hst => ?_
       replace hst := hst.to [4,5,6,7,8] [_,_,_,_,_] [_,_,_] rfl rfl
       obtain rfl := sj h
       exact hJp40 _ _ (hst.pick [0,1,2,3,4])
      ·replace h := ite_f b48 h
       refine wp_skip ?_
       obtain rfl := sj h
       exact hJp40 _ _ (hst.pick [1,2,3,4,5])
     have hJp37 : ∀ (p37 : Int) a w,(.inr p37) = e21 → St M w0 109 [(9,ti p37),(8,tv (n0 1))] [box (rSapi_Schema.cs zz4) (n0 1)] a w → Ret Tryz.prog Tryz.f26 M0 [] w0 (fun _ => []) (fun _ => ttup [rSapi_Schema.ty r.1,ti r.2]) .ret a w := by
      intro p37 a w he hst
      subst he
      simp only at h
      obtain rfl := sj h
      exact ret_st undef [] hpl hst rfl (.cell (R := rSapi_Schema) (u := zz4) tok34 z1 0 rfl rfl (.tmp z0 .nil)) rfl rfl rfl
     refine wp_block ?_
     refine wp_loopK _ (fun (s20 : Int) a w => St M w0 109 [(11,ti s20),(10,tv (n5 9)),(4,tv (n0 0)),(8,tv (n0 1)),(1,ti kind_),(2,ti field_),(3,tsl rI counts_)] [box (rSapi_Schema.cs x_) (n0 0),box (rSapi_Schema.cs zz4) (n0 1),box (rSapi_Field.cs t43) (n5 9)] a w) _ _ he21 (hst.pick [0,1,2,3,4,5,6]) ?_
     clear h
     intro s20 o a w K49 hI h ho hK49
     have hst := hI
     clear hI
     refine wp_seq_k (fun K50 hK50 => ?_)
     refine sr mixed [] hst (fun _ => .q 0 rfl <| .q 7 rfl <| .o (op_len ud22 z0) <| .o (op_lss z2 z0) <| .n) fun n11 a w hst => ?_
     replace hst := hst.to [3,4,5,6,7,8,9,10] [_,_,_,_,_,_,_,_] [_,_,_] rfl rfl
     refine wt hst (fun b56 => ?_) (fun b56 => ?_)
     ·replace h := ite_t b56 h
      refine wp_skip ?_
      refine hK50 _ _ ?_
      try clear hK50 K50
      refine wp_seq_k (fun K52 hK52 => ?_)
      refine wp_block ?_
      obtain ⟨t64,ht64,h⟩ := bind_some h
      obtain ⟨t70,ht70,h⟩ := bind_some h
      refine sr mixed [] hst (fun _ => .q 7 rfl <| .q 2 rfl <| .o (op_index ud22 tok3 z1 z0 ht64) <| .o (op_load tok3 z0) <| .o (op_lss z0 .k) <| .q 0 rfl <| .g rfl rfl (.b 0 rfl) (fun _ => op_move z13) <| .g rfl rfl (.b 1 rfl) (fun _ => op_move z8) <| .g rfl rfl (.b 2 rfl) (fun hc => op_index ud22 tok3 (.cond z1 hc) (.cond z0 hc) (opt_t ht70 hc)) <| .g rfl rfl (.b 3 rfl) (fun hc => op_load tok3 (.cond z0 hc)) <| .g rfl rfl (.b 4 rfl) (fun hc => op_gtr (.cond z0 hc) .k) <| .o (op_or z5 (fun hp => (.cond z0 (beqF hp)))) <| .n) fun n13 a w hst => ?_
      replace hst := hst.to [11,13,14,15,16,17,18,19] [_,_,_,_,_,_,_,_] [_,_,_] rfl rfl
      refine wt hst (fun b55 => ?_) (fun b55 => ?_)
      ·replace h := ite_t b55 h
       refine sr mixed [v0 (box (rSapi_Schema.cs zz4) (n0 1))] hst (fun _ => .p (T := rSapi_Schema.ty zz4) rfl (op_build ud34 pl34 zv34 zc34 (.nil _)) <| .e [] [1] [3] rfl rfl rfl rfl (op_storeB (R := rSapi_Schema) (a := zz4) tok34 z5 z0 (leb rfl)) <| .o (op_assign .k) <| .n) fun n14 a w hst => ?_
       replace hst : St _ _ _ [_,_] [_] _ _ := (hst.pick [1,6]).selA [2] rfl
       refine wp_ret ?_
       exact hJp37 _ _ _ (ho _ (sj h).symm) (hst.pick [0,1])
      ·replace h := ite_f b55 h
       refine wp_skip ?_
       refine hK52 _ _ ?_
       try clear hK52 K52
       refine wr mixed [] hst (fun _ => .q 1 rfl <| .o (op_add z0 .k) <| .o (op_assign z0) <| .n) fun n12 a w hst => ?_
       replace hst := hst.to [2,4,5,6,7,8,9] [_,_,_,_,_,_,_] [_,_,_] rfl rfl
       exact hK49 _ _ _ (sj h).symm (hst.pick [0,1,2,3,4,5,6])
     ·replace h := ite_f b56 h
      refine wp_exit ?_
      exact hJp36 _ _ _ (ho _ (sj h).symm) (hst.pick [2,3,4,5,6,7])

/- slices.EqualFunc[[]diorama/api.Kind,[]diorama/api.Kind,diorama/api.Kind,diorama/api.Kind] -/
noncomputable def fslices_EqualFunc_Kind (s1_ : (List Sapi_Kind)) (s2_ : (List Sapi_Kind)) (eq_ : (Sapi_Kind → Sapi_Kind → Option Bool)) : Option (Bool) := (if ((s1_.length : Int) != (s2_.length : Int)) = true then (some false) else (tailrec (fun (s7 : Int) => ((if (decide (s7 < (s1_.length : Int))) = true then (idx s1_ s7).bind fun t20 => (idx s2_ s7).bind fun t24 => (eq_ t20 t24).bind fun t29 => (if (!t29) = true then (some (.inr (.inr false))) else (some (.inl (IntKind.i64.wrap (s7 + (1:Int)))))) else (some (.inr (.inl ())))) : Option ((Int) ⊕ ((Unit) ⊕ (Bool))))) (0:Int)).bind fun (e8 : (Unit) ⊕ (Bool)) => (match e8 with | .inl _ => (some true) | .inr p32 => (some p32)))
set_option maxRecDepth 100000 in
set_option maxHeartbeats 4000000 in
theorem slices_EqualFunc_Kind_ok {s1_ : (List Sapi_Kind)} {s2_ : (List Sapi_Kind)} {eq_ : (Sapi_Kind → Sapi_Kind → Option Bool)} {r : Bool} (h : fslices_EqualFunc_Kind s1_ s2_ eq_ = some r) : FnOk Tryz.prog 64 [tsl rSapi_Kind s1_,tsl rSapi_Kind s2_,rF114.ty eq_] [] (fun _ => []) (fun _ => tb r) := by
 unfold fslices_EqualFunc_Kind at h
 refine FnOk.enter Tryz.func64 rfl Tryz.ntmps64 (leb rfl) (fun M0 M w0 a hpl hst => ?_)
 replace hst : St M w0 32 [(0,tsl rSapi_Kind s1_),(1,tsl rSapi_Kind s2_),(2,rF114.ty eq_)] [] a w0 := hst
 refine sr mixed [] hst (fun _ => .o (op_assign .k) <| .n) fun n0 a w hst => ?_
 replace hst := hst.to [1,2,3] [_,_,_] [] rfl rfl
 refine wp_seq_k (fun K2 hK2 => ?_)
 refine sr mixed [] hst (fun _ => .q 0 rfl <| .o (op_len ud30 z0) <| .q 3 rfl <| .o (op_len ud30 z0) <| .o (op_neq z2 z0) <| .n) fun n1 a w hst => ?_
 replace hst := hst.to [4,5,6,7] [_,_,_,_] [] rfl rfl
 refine wt hst (fun b46 => ?_) (fun b46 => ?_)
 ·replace h := ite_t b46 h
  refine sr mixed [] hst (fun _ => .o (op_assign .k) <| .n) fun n2 a w hst => ?_
  replace hst := hst.to [0] [_] [] rfl rfl
  refine wp_ret ?_
  obtain rfl := sj h
  exact ret_st undef [] hpl hst rfl (.tmp z0 .nil) rfl rfl rfl
 ·replace h := ite_f b46 h
  refine wp_skip ?_
  refine hK2 _ _ ?_
  try clear hK2 K2
  refine wp_seq_k (fun K5 hK5 => ?_)
  refine sr mixed [] hst (fun _ => .q 1 rfl <| .o (op_len ud30 z0) <| .o (op_move .k) <| .n) fun n3 a w hst => ?_
  replace hst := hst.to [0,1,2,5,6] [_,_,_,_,_] [] rfl rfl
  obtain ⟨e8,he8,h⟩ := bind_some h
  have hJp31 : ∀ (p31 : Unit) a w,(.inl p31) = e8 → St M w0 32 [] [] a w → K5 a w := by
   intro p31 a w he hst
   subst he
   simp only at h
   refine hK5 _ _ ?_
   try clear hK5 K5
   refine sr mixed [] hst (fun _ => .o (op_assign .k) <| .n) fun n10 a w hst => ?_
   replace hst := hst.to [0] [_] [] rfl rfl
   refine wp_ret ?_
   obtain rfl := sj h
   exact ret_st undef [] hpl hst rfl (.tmp z0 .nil) rfl rfl rfl
  have hJp32 : ∀ (p32 : Bool) a w,(.inr p32) = e8 → St M w0 32 [(6,tb p32)] [] a w → Ret Tryz.prog Tryz.f64 M0 [] w0 (fun _ => []) (fun _ => tb r) .ret a w := by
   intro p32 a w he hst
   subst he
   simp only at h
   obtain rfl := sj h
   exact ret_st undef [] hpl hst rfl (.tmp z0 .nil) rfl rfl rfl
  refine wp_block ?_
  refine wp_loopK _ (fun (s7 : Int) a w => St M w0 32 [(15,tsl rSapi_Kind s1_),(16,ti (s1_.length : Int)),(17,ti s7),(1,tsl rSapi_Kind s2_),(2,rF114.ty eq_)] [] a w) _ _ he8 (hst.pick [0,1,2,3,4]) ?_
  clear h
  intro s7 o a w K34 hI h ho hK34
  have hst := hI
  clear hI
  refine sr mixed [] hst (fun _ => .o (op_lss z2 z1) <| .n) fun n4 a w hst => ?_
  replace hst := hst.to [0,1,2,3,4,5] [_,_,_,_,_,_] [] rfl rfl
  refine wp_seq_k (fun K36 hK36 => ?_)
  refine wt hst (fun b45 => ?_) (fun b45 => ?_)
  ·replace h := ite_t b45 h
   refine wp_skip ?_
   refine hK36 _ _ ?_
   try clear hK36 K36
   refine wp_seq_k (fun K37 hK37 => ?_)
   refine wp_block ?_
   obtain ⟨t20,ht20,h⟩ := bind_some h
   refine sr mixed [v1 3 (fun v0 => box (rSapi_Kind.cs zz1) v0),v1 3 (fun v0 => box (rSapi_Kind.cs t20) v0)] hst (fun _ => .q 3 rfl <| .o (op_index ud30 tok47 z2 z4 ht20) <| .o (op_load tok47 z0) <| .m [] [0] rfl rfl rfl (op_alloc (R := rSapi_Kind) (a := zz1) tok47 zok47) <| .o (op_assign z3) <| .e [] [0] [1] rfl rfl rfl rfl (op_storeB (R := rSapi_Kind) (a := t20) tok47 z1 z2 (leb rfl)) <| .n) fun n5 a w hst => ?_
   replace hst : St _ _ _ [_,_,_,_,_,_,_] [] _ _ := (((hst.pick [3,4,6,7,8,9,10]).shareB 0 rfl).add 0 rfl (fun _ _ _ h => h.2)).pick [0,3,4,5,6,7,8]
   obtain ⟨t24,ht24,h⟩ := bind_some h
   refine sr mixed [v1 4 (fun v0 => box (rSapi_Kind.cs zz1) v0),v1 4 (fun v0 => box (rSapi_Kind.cs t24) v0)] hst (fun _ => .q 5 rfl <| .q 2 rfl <| .o (op_index ud30 tok47 z1 z0 ht24) <| .o (op_load tok47 z0) <| .m [] [0] rfl rfl rfl (op_alloc (R := rSapi_Kind) (a := zz1) tok47 zok47) <| .e [] [0] [1] rfl rfl rfl rfl (op_storeB (R := rSapi_Kind) (a := t24) tok47 z0 z1 (leb rfl)) <| .n) fun n6 a w hst => ?_
   replace hst : St _ _ _ [_,_,_,_,_,_,_] [] _ _ := (((hst.pick [4,5,7,8,9,10,11]).shareB 0 rfl).add 0 rfl (fun _ _ _ h => h.2)).pick [0,3,4,5,6,7,8]
   obtain ⟨t29,ht29,h⟩ := bind_some h
   refine sr mixed [] hst (fun _ => .q 6 rfl <| .o (op_load tok47 z2) <| .o (op_load tok47 z2) <| .o (op_callT (u := (t20,t24)) z2 (.cons (.of z1) <| .cons (.of z0) <| .nil) ht29) <| .o (op_not z0) <| .n) fun n7 a w hst => ?_
   replace hst := hst.to [4,7,8,9,10,11] [_,_,_,_,_,_] [] rfl rfl
   refine wt hst (fun b44 => ?_) (fun b44 => ?_)
   ·replace h := ite_t b44 h
    refine sr mixed [] hst (fun _ => .o (op_assign .k) <| .n) fun n8 a w hst => ?_
    replace hst := hst.to [0] [_] [] rfl rfl
    refine wp_ret ?_
    exact hJp32 _ _ _ (ho _ (sj h).symm) (hst.pick [0])
   ·replace h := ite_f b44 h
    refine wp_skip ?_
    refine hK37 _ _ ?_
    try clear hK37 K37
    refine wr mixed [] hst (fun _ => .o (op_add z3 .k) <| .q 0 rfl <| .n) fun n9 a w hst => ?_
    replace hst := hst.to [1,3,4,5,6] [_,_,_,_,_] [] rfl rfl
    exact hK34 _ _ _ (sj h).symm (hst.pick [1,2,0,3,4])
  ·replace h := ite_f b45 h
   refine wp_exit ?_
   exact hJp31 _ _ _ (ho _ (sj h).symm) (hst.pick [])

/- slices.EqualFunc[[]diorama/api.Field,[]diorama/api.Field,diorama/api.Field,diorama/api.Field] -/
noncomputable def fslices_EqualFunc_Field (s1_ : (List Sapi_Field)) (s2_ : (List Sapi_Field)) (eq_ : (Sapi_Field → Sapi_Field → Option Bool)) : Option (Bool) := (if ((s1_.length : Int) != (s2_.length : Int)) = true then (some false) else (tailrec (fun (s7 : Int) => ((if (decide (s7 < (s1_.length : Int))) = true then (idx s1_ s7).bind fun t20 => (idx s2_ s7).bind fun t24 => (eq_ t20 t24).bind fun t29 => (if (!t29) = true then (some (.inr (.inr false))) else (some (.inl (IntKind.i64.wrap (s7 + (1:Int)))))) else (some (.inr (.inl ())))) : Option ((Int) ⊕ ((Unit) ⊕ (Bool))))) (0:Int)).bind fun (e8 : (Unit) ⊕ (Bool)) => (match e8 with | .inl _ => (some true) | .inr p32 => (some p32)))
set_option maxRecDepth 100000 in
set_option maxHeartbeats 4000000 in
theorem slices_EqualFunc_Field_ok {s1_ : (List Sapi_Field)} {s2_ : (List Sapi_Field)} {eq_ : (Sapi_Field → Sapi_Field → Option Bool)} {r : Bool} (h : fslices_EqualFunc_Field s1_ s2_ eq_ = some r) : FnOk Tryz.prog 66 [tsl rSapi_Field s1_,tsl rSapi_Field s2_,rF113.ty eq_] [] (fun _ => []) (fun _ => tb r) := by
 unfold fslices_EqualFunc_Field at h
 refine FnOk.enter Tryz.func66 rfl Tryz.ntmps66 (leb rfl) (fun M0 M w0 a hpl hst => ?_)
 replace hst : St M w0 32 [(0,tsl rSapi_Field s1_),(1,tsl rSapi_Field s2_),(2,rF113.ty eq_)] [] a w0 := hst
 refine sr mixed [] hst (fun _ => .o (op_assign .k) <| .n) fun n0 a w hst => ?_
 replace hst := hst.to [1,2,3] [_,_,_] [] rfl rfl
 refine wp_seq_k (fun K2 hK2 => ?_)
 refine sr mixed [] hst (fun _ => .q 0 rfl <| .o (op_len ud45 z0) <| .q 3 rfl <| .o (op_len ud45 z0) <| .o (op_neq z2 z0) <| .n) fun n1 a w hst => ?_
 replace hst := hst.to [4,5,6,7] [_,_,_,_] [] rfl rfl
 refine wt hst (fun b46 => ?_) (fun b46 => ?_)
 ·replace h := ite_t b46 h
  refine sr mixed [] hst (fun _ => .o (op_assign .k) <| .n) fun n2 a w hst => ?_
  replace hst := hst.to [0] [_] [] rfl rfl
  refine wp_ret ?_
  obtain rfl := sj h
  exact ret_st undef [] hpl hst rfl (.tmp z0 .nil) rfl rfl rfl
 ·replace h := ite_f b46 h
  refine wp_skip ?_
  refine hK2 _ _ ?_
  try clear hK2 K2
  refine wp_seq_k (fun K5 hK5 => ?_)
  refine sr mixed [] hst (fun _ => .q 1 rfl <| .o (op_len ud45 z0) <| .o (op_move .k) <| .n) fun n3 a w hst => ?_
  replace hst := hst.to [0,1,2,5,6] [_,_,_,_,_] [] rfl rfl
  obtain ⟨e8,he8,h⟩ := bind_some h
  have hJp31 : ∀ (p31 : Unit) a w,(.inl p31) = e8 → St M w0 32 [] [] a w → K5 a w := by
   intro p31 a w he hst
   subst he
   simp only at h
   refine hK5 _ _ ?_
   try clear hK5 K5
   refine sr mixed [] hst (fun _ => .o (op_assign .k) <| .n) fun n10 a w hst => ?_
   replace hst := hst.to [0] [_] [] rfl rfl
   refine wp_ret ?_
   obtain rfl := sj h
   exact ret_st undef [] hpl hst rfl (.tmp z0 .nil) rfl rfl rfl
  have hJp32 : ∀ (p32 : Bool) a w,(.inr p32) = e8 → St M w0 32 [(6,tb p32)] [] a w → Ret Tryz.prog Tryz.f66 M0 [] w0 (fun _ => []) (fun _ => tb r) .ret a w := by
   intro p32 a w he hst
   subst he
   simp only at h
   obtain rfl := sj h
   exact ret_st undef [] hpl hst rfl (.tmp z0 .nil) rfl rfl rfl
  refine wp_block ?_
  refine wp_loopK _ (fun (s7 : Int) a w => St M w0 32 [(15,tsl rSapi_Field s1_),(16,ti (s1_.length : Int)),(17,ti s7),(1,tsl rSapi_Field s2_),(2,rF113.ty eq_)] [] a w) _ _ he8 (hst.pick [0,1,2,3,4]) ?_
  clear h
  intro s7 o a w K34 hI h ho hK34
  have hst := hI
  clear hI
  refine sr mixed [] hst (fun _ => .o (op_lss z2 z1) <| .n) fun n4 a w hst => ?_
  replace hst := hst.to [0,1,2,3,4,5] [_,_,_,_,_,_] [] rfl rfl
  refine wp_seq_k (fun K36 hK36 => ?_)
  refine wt hst (fun b45 => ?_) (fun b45 => ?_)
  ·replace h := ite_t b45 h
   refine wp_skip ?_
   refine hK36 _ _ ?_
   try clear hK36 K36
   refine wp_seq_k (fun K37 hK37 => ?_)
   refine wp_block ?_
   obtain ⟨t20,ht20,h⟩ := bind_some h
   refine sr mixed [v1 3 (fun v0 => box (rSapi_Field.cs zz0) v0),v1 3 (fun v0 => box (rSapi_Field.cs t20) v0)] hst (fun _ => .q 3 rfl <| .o (op_index ud45 tok44 z2 z4 ht20) <| .o (op_load tok44 z0) <| .m [] [0] rfl rfl rfl (op_alloc (R := rSapi_Field) (a := zz0) tok44 zok44) <| .o (op_assign z3) <| .e [] [0] [1] rfl rfl rfl rfl (op_storeB (R := rSapi_Field) (a := t20) tok44 z1 z2 (leb rfl)) <| .n) fun n5 a w hst => ?_
   replace hst : St _ _ _ [_,_,_,_,_,_,_] [] _ _ := (((hst.pick [3,4,6,7,8,9,10]).shareB 0 rfl).add 0 rfl (fun _ _ _ h => h.2)).pick [0,3,4,5,6,7,8]
   obtain ⟨t24,ht24,h⟩ := bind_some h
   refine sr mixed [v1 4 (fun v0 => box (rSapi_Field.cs zz0) v0),v1 4 (fun v0 => box (rSapi_Field.cs t24) v0)] hst (fun _ => .q 5 rfl <| .q 2 rfl <| .o (op_index ud45 tok44 z1 z0 ht24) <| .o (op_load tok44 z0) <| .m [] [0] rfl rfl rfl (op_alloc (R := rSapi_Field) (a := zz0) tok44 zok44) <| .e [] [0] [1] rfl rfl rfl rfl (op_storeB (R := rSapi_Field) (a := t24) tok44 z0 z1 (leb rfl)) <| .n) fun n6 a w hst => ?_
   replace hst : St _ _ _ [_,_,_,_,_,_,_] [] _ _ := (((hst.pick [4,5,7,8,9,10,11]).shareB 0 rfl).add 0 rfl (fun _ _ _ h => h.2)).pick [0,3,4,5,6,7,8]
   obtain ⟨t29,ht29,h⟩ := bind_some h
   refine sr mixed [] hst (fun _ => .q 6 rfl <| .o (op_load tok44 z2) <| .o (op_load tok44 z2) <| .o (op_callT (u := (t20,t24)) z2 (.cons (.of z1) <| .cons (.of z0) <| .nil) ht29) <| .o (op_not z0) <| .n) fun n7 a w hst => ?_
   replace hst := hst.to [4,7,8,9,10,11] [_,_,_,_,_,_] [] rfl rfl
   refine wt hst (fun b44 => ?_) (fun b44 => ?_)
   ·replace h := ite_t b44 h
    refine sr mixed [] hst (fun _ => .o (op_assign .k) <| .n) fun n8 a w hst => ?_
    replace hst := hst.to [0] [_] [] rfl rfl
    refine wp_ret ?_
    exact hJp32 _ _ _ (ho _ (sj h).symm) (hst.pick [0])
   ·replace h := ite_f b44 h
    refine wp_skip ?_
    refine hK37 _ _ ?_
    try clear hK37 K37
    refine wr mixed [] hst (fun _ => .o (op_add z3 .k) <| .q 0 rfl <| .n) fun n9 a w hst => ?_
    replace hst := hst.to [1,3,4,5,6] [_,_,_,_,_] [] rfl rfl
    exact hK34 _ _ _ (sj h).symm (hst.pick [1,2,0,3,4])
  ·replace h := ite_f b45 h
   refine wp_exit ?_
   exact hJp31 _ _ _ (ho _ (sj h).symm) (hst.pick [])

/- slices.Equal[[]string,string] -/
noncomputable def fslices_Equal_string (s1_ : (List Str)) (s2_ : (List Str)) : Option (Bool) := (if ((s1_.length : Int) != (s2_.length : Int)) = true then (some false) else (tailrec (fun (s7 : Int) => ((if (decide (s7 < (s1_.length : Int))) = true then (idx s1_ s7).bind fun t18 => (idx s2_ s7).bind fun t22 => (if (t18 != t22) = true then (some (.inr (.inr false))) else (some (.inl (IntKind.i64.wrap (s7 + (1:Int)))))) else (some (.inr (.inl ())))) : Option ((Int) ⊕ ((Unit) ⊕ (Bool))))) (0:Int)).bind fun (e8 : (Unit) ⊕ (Bool)) => (match e8 with | .inl _ => (some true) | .inr p26 => (some p26)))
set_option maxRecDepth 100000 in
set_option maxHeartbeats 4000000 in
theorem slices_Equal_string_ok {s1_ : (List Str)} {s2_ : (List Str)} {r : Bool} (h : fslices_Equal_string s1_ s2_ = some r) : FnOk Tryz.prog 70 [tsl rS s1_,tsl rS s2_] [] (fun _ => []) (fun _ => tb r) := by
 unfold fslices_Equal_string at h
 refine FnOk.enter Tryz.func70 rfl Tryz.ntmps70 (leb rfl) (fun M0 M w0 a hpl hst => ?_)
 replace hst : St M w0 26 [(0,tsl rS s1_),(1,tsl rS s2_)] [] a w0 := hst
 refine sr mixed [] hst (fun _ => .o (op_assign .k) <| .n) fun n0 a w hst => ?_
 replace hst := hst.to [1,2] [_,_] [] rfl rfl
 refine wp_seq_k (fun K2 hK2 => ?_)
 refine sr mixed [] hst (fun _ => .q 0 rfl <| .o (op_len ud38 z0) <| .q 3 rfl <| .o (op_len ud38 z0) <| .o (op_neq z2 z0) <| .n) fun n1 a w hst => ?_
 replace hst := hst.to [4,5,6] [_,_,_] [] rfl rfl
 refine wt hst (fun b37 => ?_) (fun b37 => ?_)
 ·replace h := ite_t b37 h
  refine sr mixed [] hst (fun _ => .o (op_assign .k) <| .n) fun n2 a w hst => ?_
  replace hst := hst.to [0] [_] [] rfl rfl
  refine wp_ret ?_
  obtain rfl := sj h
  exact ret_st undef [] hpl hst rfl (.tmp z0 .nil) rfl rfl rfl
 ·replace h := ite_f b37 h
  refine wp_skip ?_
  refine hK2 _ _ ?_
  try clear hK2 K2
  refine wp_seq_k (fun K5 hK5 => ?_)
  refine sr mixed [] hst (fun _ => .q 1 rfl <| .o (op_len ud38 z0) <| .o (op_move .k) <| .n) fun n3 a w hst => ?_
  replace hst := hst.to [1,2,4,5] [_,_,_,_] [] rfl rfl
  obtain ⟨e8,he8,h⟩ := bind_some h
  have hJp25 : ∀ (p25 : Unit) a w,(.inl p25) = e8 → St M w0 26 [] [] a w → K5 a w := by
   intro p25 a w he hst
   subst he
   simp only at h
   refine hK5 _ _ ?_
   try clear hK5 K5
   refine sr mixed [] hst (fun _ => .o (op_assign .k) <| .n) fun n9 a w hst => ?_
   replace hst := hst.to [0] [_] [] rfl rfl
   refine wp_ret ?_
   obtain rfl := sj h
   exact ret_st undef [] hpl hst rfl (.tmp z0 .nil) rfl rfl rfl
  have hJp26 : ∀ (p26 : Bool) a w,(.inr p26) = e8 → St M w0 26 [(4,tb p26)] [] a w → Ret Tryz.prog Tryz.f70 M0 [] w0 (fun _ => []) (fun _ => tb r) .ret a w := by
   intro p26 a w he hst
   subst he
   simp only at h
   obtain rfl := sj h
   exact ret_st undef [] hpl hst rfl (.tmp z0 .nil) rfl rfl rfl
  refine wp_block ?_
  refine wp_loopK _ (fun (s7 : Int) a w => St M w0 26 [(12,ti (s1_.length : Int)),(13,ti s7),(0,tsl rS s1_),(1,tsl rS s2_)] [] a w) _ _ he8 (hst.pick [0,1,2,3]) ?_
  clear h
  intro s7 o a w K28 hI h ho hK28
  have hst := hI
  clear hI
  refine sr mixed [] hst (fun _ => .o (op_lss z1 z0) <| .n) fun n4 a w hst => ?_
  replace hst := hst.to [0,1,2,3,4] [_,_,_,_,_] [] rfl rfl
  refine wp_seq_k (fun K30 hK30 => ?_)
  refine wt hst (fun b36 => ?_) (fun b36 => ?_)
  ·replace h := ite_t b36 h
   refine wp_skip ?_
   refine hK30 _ _ ?_
   try clear hK30 K30
   refine wp_seq_k (fun K31 hK31 => ?_)
   refine wp_block ?_
   refine sr mixed [] hst (fun _ => .q 2 rfl <| .o (op_assign z0) <| .n) fun n5 a w hst => ?_
   replace hst := hst.to [1,3,4,5,6] [_,_,_,_,_] [] rfl rfl
   obtain ⟨t18,ht18,h⟩ := bind_some h
   obtain ⟨t22,ht22,h⟩ := bind_some h
   refine sr mixed [] hst (fun _ => .q 3 rfl <| .q 1 rfl <| .o (op_index ud38 tok9 z1 z0 ht18) <| .o (op_load tok9 z0) <| .q 8 rfl <| .q 5 rfl <| .o (op_index ud38 tok9 z1 z0 ht22) <| .o (op_load tok9 z0) <| .o (op_neqS z4 z0) <| .n) fun n6 a w hst => ?_
   replace hst := hst.to [8,10,11,12,13] [_,_,_,_,_] [] rfl rfl
   refine wt hst (fun b35 => ?_) (fun b35 => ?_)
   ·replace h := ite_t b35 h
    refine sr mixed [] hst (fun _ => .o (op_assign .k) <| .n) fun n7 a w hst => ?_
    replace hst := hst.to [0] [_] [] rfl rfl
    refine wp_ret ?_
    exact hJp26 _ _ _ (ho _ (sj h).symm) (hst.pick [0])
   ·replace h := ite_f b35 h
    refine wp_skip ?_
    refine hK31 _ _ ?_
    try clear hK31 K31
    refine wr mixed [] hst (fun _ => .o (op_add z2 .k) <| .q 0 rfl <| .n) fun n8 a w hst => ?_
    replace hst := hst.to [1,3,4,5] [_,_,_,_] [] rfl rfl
    exact hK28 _ _ _ (sj h).symm (hst.pick [1,0,2,3])
  ·replace h := ite_f b36 h
   refine wp_exit ?_
   exact hJp25 _ _ _ (ho _ (sj h).symm) (hst.pick [])

/- slices.Equal[[]int,int] -/
noncomputable def fslices_Equal_int (s1_ : (List Int)) (s2_ : (List Int)) : Option (Bool) := (if ((s1_.length : Int) != (s2_.length : Int)) = true then (some false) else (tailrec (fun (s7 : Int) => ((if (decide (s7 < (s1_.length : Int))) = true then (idx s1_ s7).bind fun t18 => (idx s2_ s7).bind fun t22 => (if (t18 != t22) = true then (some (.inr (.inr false))) else (some (.inl (IntKind.i64.wrap (s7 + (1:Int)))))) else (some (.inr (.inl ())))) : Option ((Int) ⊕ ((Unit) ⊕ (Bool))))) (0:Int)).bind fun (e8 : (Unit) ⊕ (Bool)) => (match e8 with | .inl _ => (some true) | .inr p26 => (some p26)))
set_option maxRecDepth 100000 in
set_option maxHeartbeats 4000000 in
theorem slices_Equal_int_ok {s1_ : (List Int)} {s2_ : (List Int)} {r : Bool} (h : fslices_Equal_int s1_ s2_ = some r) : FnOk Tryz.prog 102 [tsl rI s1_,tsl rI s2_] [] (fun _ => []) (fun _ => tb r) := by
 unfold fslices_Equal_int at h
 refine FnOk.enter Tryz.func102 rfl Tryz.ntmps102 (leb rfl) (fun M0 M w0 a hpl hst => ?_)
 replace hst : St M w0 26 [(0,tsl rI s1_),(1,tsl rI s2_)] [] a w0 := hst
 refine sr mixed [] hst (fun _ => .o (op_assign .k) <| .n) fun n0 a w hst => ?_
 replace hst := hst.to [1,2] [_,_] [] rfl rfl
 refine wp_seq_k (fun K2 hK2 => ?_)
 refine sr mixed [] hst (fun _ => .q 0 rfl <| .o (op_len ud22 z0) <| .q 3 rfl <| .o (op_len ud22 z0) <| .o (op_neq z2 z0) <| .n) fun n1 a w hst => ?_
 replace hst := hst.to [4,5,6] [_,_,_] [] rfl rfl
 refine wt hst (fun b37 => ?_) (fun b37 => ?_)
 ·replace h := ite_t b37 h
  refine sr mixed [] hst (fun _ => .o (op_assign .k) <| .n) fun n2 a w hst => ?_
  replace hst := hst.to [0] [_] [] rfl rfl
  refine wp_ret ?_
  obtain rfl := sj h
  exact ret_st undef [] hpl hst rfl (.tmp z0 .nil) rfl rfl rfl
 ·replace h := ite_f b37 h
  refine wp_skip ?_
  refine hK2 _ _ ?_
  try clear hK2 K2
  refine wp_seq_k (fun K5 hK5 => ?_)
  refine sr mixed [] hst (fun _ => .q 1 rfl <| .o (op_len ud22 z0) <| .o (op_move .k) <| .n) fun n3 a w hst => ?_
  replace hst := hst.to [1,2,4,5] [_,_,_,_] [] rfl rfl
  obtain ⟨e8,he8,h⟩ := bind_some h
  have hJp25 : ∀ (p25 : Unit) a w,(.inl p25) = e8 → St M w0 26 [] [] a w → K5 a w := by
   intro p25 a w he hst
   subst he
   simp only at h
   refine hK5 _ _ ?_
   try clear hK5 K5
   refine sr mixed [] hst (fun _ => .o (op_assign .k) <| .n) fun n9 a w hst => ?_
   replace hst := hst.to [0] [_] [] rfl rfl
   refine wp_ret ?_
   obtain rfl := sj h
   exact ret_st undef [] hpl hst rfl (.tmp z0 .nil) rfl rfl rfl
  have hJp26 : ∀ (p26 : Bool) a w,(.inr p26) = e8 → St M w0 26 [(4,tb p26)] [] a w → Ret Tryz.prog Tryz.f102 M0 [] w0 (fun _ => []) (fun _ => tb r) .ret a w := by
   intro p26 a w he hst
   subst he
   simp only at h
   obtain rfl := sj h
   exact ret_st undef [] hpl hst rfl (.tmp z0 .nil) rfl rfl rfl
  refine wp_block ?_
  refine wp_loopK _ (fun (s7 : Int) a w => St M w0 26 [(12,ti (s1_.length : Int)),(13,ti s7),(0,tsl rI s1_),(1,tsl rI s2_)] [] a w) _ _ he8 (hst.pick [0,1,2,3]) ?_
  clear h
  intro s7 o a w K28 hI h ho hK28
  have hst := hI
  clear hI
  refine sr mixed [] hst (fun _ => .o (op_lss z1 z0) <| .n) fun n4 a w hst => ?_
  replace hst := hst.to [0,1,2,3,4] [_,_,_,_,_] [] rfl rfl
  refine wp_seq_k (fun K30 hK30 => ?_)
  refine wt hst (fun b36 => ?_) (fun b36 => ?_)
  ·replace h := ite_t b36 h
   refine wp_skip ?_
   refine hK30 _ _ ?_
   try clear hK30 K30
   refine wp_seq_k (fun K31 hK31 => ?_)
   refine wp_block ?_
   refine sr mixed [] hst (fun _ => .q 2 rfl <| .o (op_assign z0) <| .n) fun n5 a w hst => ?_
   replace hst := hst.to [1,3,4,5,6] [_,_,_,_,_] [] rfl rfl
   obtain ⟨t18,ht18,h⟩ := bind_some h
   obtain ⟨t22,ht22,h⟩ := bind_some h
   refine sr mixed [] hst (fun _ => .q 3 rfl <| .q 1 rfl <| .o (op_index ud22 tok3 z1 z0 ht18) <| .o (op_load tok3 z0) <| .q 8 rfl <| .q 5 rfl <| .o (op_index ud22 tok3 z1 z0 ht22) <| .o (op_load tok3 z0) <| .o (op_neq z4 z0) <| .n) fun n6 a w hst => ?_
   replace hst := hst.to [8,10,11,12,13] [_,_,_,_,_] [] rfl rfl
   refine wt hst (fun b35 => ?_) (fun b35 => ?_)
   ·replace h := ite_t b35 h
    refine sr mixed [] hst (fun _ => .o (op_assign .k) <| .n) fun n7 a w hst => ?_
    replace hst := hst.to [0] [_] [] rfl rfl
    refine wp_ret ?_
    exact hJp26 _ _ _ (ho _ (sj h).symm) (hst.pick [0])
   ·replace h := ite_f b35 h
    refine wp_skip ?_
    refine hK31 _ _ ?_
    try clear hK31 K31
    refine wr mixed [] hst (fun _ => .o (op_add z2 .k) <| .q 0 rfl <| .n) fun n8 a w hst => ?_
    replace hst := hst.to [1,3,4,5] [_,_,_,_] [] rfl rfl
    exact hK28 _ _ _ (sj h).symm (hst.pick [1,0,2,3])
  ·replace h := ite_f b36 h
   refine wp_exit ?_
   exact hJp25 _ _ _ (ho _ (sj h).symm) (hst.pick [])

/- diorama/schema.sameField -/
noncomputable def fschema_sameField (a_ : Sapi_Field) (b_ : Sapi_Field) : Option (Bool) := (opt ((((((((a_).Name == (b_).Name) && ((a_).Of == (b_).Of)) && ((a_).Up == (b_).Up)) && ((a_).Kind == (b_).Kind)) && ((a_).Lo == (b_).Lo)) && ((a_).Hi == (b_).Hi)) == true) (fslices_Equal_string (a_).Words (b_).Words) default).bind fun t50 => (opt (((((((((a_).Name == (b_).Name) && ((a_).Of == (b_).Of)) && ((a_).Up == (b_).Up)) && ((a_).Kind == (b_).Kind)) && ((a_).Lo == (b_).Lo)) && ((a_).Hi == (b_).Hi)) && t50) == true) (fslices_Equal_int (a_).Weights (b_).Weights) default).bind fun t57 => (some (((((((((a_).Name == (b_).Name) && ((a_).Of == (b_).Of)) && ((a_).Up == (b_).Up)) && ((a_).Kind == (b_).Kind)) && ((a_).Lo == (b_).Lo)) && ((a_).Hi == (b_).Hi)) && t50) && t57))
set_option maxRecDepth 100000 in
set_option maxHeartbeats 4000000 in
theorem schema_sameField_ok {a_ : Sapi_Field} {b_ : Sapi_Field} {r : Bool} (h : fschema_sameField a_ b_ = some r) : FnOk Tryz.prog 67 [rSapi_Field.ty a_,rSapi_Field.ty b_] [] (fun _ => []) (fun _ => tb r) := by
 unfold fschema_sameField at h
 refine FnOk.enter Tryz.func67 rfl Tryz.ntmps67 (leb rfl) (fun M0 M w0 a hpl hst => ?_)
 replace hst : St M w0 59 [(0,rSapi_Field.ty a_),(1,rSapi_Field.ty b_)] [] a w0 := hst
 refine sr mixed [] hst (fun _ => .o (op_boxR (R := rSapi_Field) (u := a_) z0) <| .o (op_boxR (R := rSapi_Field) (u := b_) z2) <| .o (op_assign .k) <| .n) fun n0 a w hst => ?_
 replace hst := hst.to [0,1] [_,_] [] rfl rfl
 obtain ⟨t50,ht50,h⟩ := bind_some h
 obtain ⟨t57,ht57,h⟩ := bind_some h
 refine sr mixed [] hst (fun _ => .o (op_field fld44_0 z0) <| .o (op_loadT (R := rS) (u := (a_).Name) tok9 z0 rfl) <| .o (op_field fld44_0 z3) <| .o (op_loadT (R := rS) (u := (b_).Name) tok9 z0 rfl) <| .o (op_eqlS z2 z0) <| .q 0 rfl <| .g rfl rfl (.b 0 rfl) (fun _ => op_field fld44_1 z6) <| .g rfl rfl (.b 1 rfl) (fun hc => op_loadT (R := rS) (u := (a_).Of) tok9 (.cond z0 hc) rfl) <| .g rfl rfl (.b 2 rfl) (fun _ => op_field fld44_1 z9) <| .g rfl rfl (.b 3 rfl) (fun hc => op_loadT (R := rS) (u := (b_).Of) tok9 (.cond z0 hc) rfl) <| .g rfl rfl (.b 4 rfl) (fun hc => op_eqlS (.cond z2 hc) (.cond z0 hc)) <| .o (op_and z5 (fun hp => (.cond z0 (beqT hp)))) <| .q 0 rfl <| .g rfl rfl (.b 0 rfl) (fun _ => op_field fld44_2 z13) <| .g rfl rfl (.b 1 rfl) (fun hc => op_loadT (R := rS) (u := (a_).Up) tok9 (.cond z0 hc) rfl) <| .g rfl rfl (.b 2 rfl) (fun _ => op_field fld44_2 z16) <| .g rfl rfl (.b 3 rfl) (fun hc => op_loadT (R := rS) (u := (b_).Up) tok9 (.cond z0 hc) rfl) <| .g rfl rfl (.b 4 rfl) (fun hc => op_eqlS (.cond z2 hc) (.cond z0 hc)) <| .o (op_and z5 (fun hp => (.cond z0 (beqT hp)))) <| .q 0 rfl <| .g rfl rfl (.b 0 rfl) (fun _ => op_field fld44_3 z20) <| .g rfl rfl (.b 1 rfl) (fun hc => op_loadT (R := rI) (u := (a_).Kind) tok3 (.cond z0 hc) rfl) <| .g rfl rfl (.b 2 rfl) (fun _ => op_field fld44_3 z23) <| .g rfl rfl (.b 3 rfl) (fun hc => op_loadT (R := rI) (u := (b_).Kind) tok3 (.cond z0 hc) rfl) <| .g rfl rfl (.b 4 rfl) (fun hc => op_eql (.cond z2 hc) (.cond z0 hc)) <| .o (op_and z5 (fun hp => (.cond z0 (beqT hp)))) <| .q 0 rfl <| .g rfl rfl (.b 0 rfl) (fun _ => op_field fld44_4 z27) <| .g rfl rfl (.b 1 rfl) (fun hc => op_loadT (R := rI) (u := (a_).Lo) tok3 (.cond z0 hc) rfl) <| .g rfl rfl (.b 2 rfl) (fun _ => op_field fld44_4 z30) <| .g rfl rfl (.b 3 rfl) (fun hc => op_loadT (R := rI) (u := (b_).Lo) tok3 (.cond z0 hc) rfl) <| .g rfl rfl (.b 4 rfl) (fun hc => op_eql (.cond z2 hc) (.cond z0 hc)) <| .o (op_and z5 (fun hp => (.cond z0 (beqT hp)))) <| .q 0 rfl <| .g rfl rfl (.b 0 rfl) (fun _ => op_field fld44_5 (.t 34 rfl)) <| .g rfl rfl (.b 1 rfl) (fun hc => op_loadT (R := rI) (u := (a_).Hi) tok3 (.cond z0 hc) rfl) <| .g rfl rfl (.b 2 rfl) (fun _ => op_field fld44_5 (.t 37 rfl)) <| .g rfl rfl (.b 3 rfl) (fun hc => op_loadT (R := rI) (u := (b_).Hi) tok3 (.cond z0 hc) rfl) <| .g rfl rfl (.b 4 rfl) (fun hc => op_eql (.cond z2 hc) (.cond z0 hc)) <| .o (op_and z5 (fun hp => (.cond z0 (beqT hp)))) <| .q 0 rfl <| .g rfl rfl (.b 0 rfl) (fun _ => op_field fld44_6 (.t 41 rfl)) <| .g rfl rfl (.b 1 rfl) (fun hc => op_loadT (R := (rSl rS)) (u := (a_).Words) tok38 (.cond z0 hc) rfl) <| .g rfl rfl (.b 2 rfl) (fun _ => op_field fld44_6 (.t 44 rfl)) <| .g rfl rfl (.b 3 rfl) (fun hc => op_loadT (R := (rSl rS)) (u := (b_).Words) tok38 (.cond z0 hc) rfl) <| .g rfl rfl (.b 4 rfl) (fun hc => op_callF call70 (slices_Equal_string_ok (opt_t ht50 hc)) (.cons (.of (.cond z2 hc)) <| .cons (.of (.cond z0 hc)) <| .nil)) <| .o (op_and z5 (fun hp => (.cond z0 (beqT hp)))) <| .q 0 rfl <| .g rfl rfl (.b 0 rfl) (fun _ => op_field fld44_7 (.t 48 rfl)) <| .g rfl rfl (.b 1 rfl) (fun hc => op_loadT (R := (rSl rI)) (u := (a_).Weights) tok22 (.cond z0 hc) rfl) <| .g rfl rfl (.b 2 rfl) (fun _ => op_field fld44_7 (.t 51 rfl)) <| .g rfl rfl (.b 3 rfl) (fun hc => op_loadT (R := (rSl rI)) (u := (b_).Weights) tok22 (.cond z0 hc) rfl) <| .g rfl rfl (.b 4 rfl) (fun hc => op_callF call102 (slices_Equal_int_ok (opt_t ht57 hc)) (.cons (.of (.cond z2 hc)) <| .cons (.of (.cond z0 hc)) <| .nil)) <| .o (op_and z5 (fun hp => (.cond z0 (beqT hp)))) <| .o (op_assign z0) <| .n) fun n1 a w hst => ?_
 replace hst := hst.to [54] [_] [] rfl rfl
 refine wp_ret ?_
 obtain rfl := sj h
 exact ret_st undef [] hpl hst rfl (.tmp z0 .nil) rfl rfl rfl

/- diorama/schema.Same$1 -/
noncomputable def fschema_Sameq1 (x_ : Sapi_Kind) (y_ : Sapi_Kind) : Option (Bool) := (opt (((((x_).Name == (y_).Name) && ((x_).Lo == (y_).Lo)) && ((x_).Hi == (y_).Hi)) == true) (fslices_EqualFunc_Field (x_).Fields (y_).Fields (fun x0 x1 => fschema_sameField x0 x1)) default).bind fun t29 => (some (((((x_).Name == (y_).Name) && ((x_).Lo == (y_).Lo)) && ((x_).Hi == (y_).Hi)) && t29))
set_option maxRecDepth 100000 in
set_option maxHeartbeats 4000000 in
theorem schema_Sameq1_ok {x_ : Sapi_Kind} {y_ : Sapi_Kind} {r : Bool} (h : fschema_Sameq1 x_ y_ = some r) : FnOk Tryz.prog 65 [rSapi_Kind.ty x_,rSapi_Kind.ty y_] [] (fun _ => []) (fun _ => tb r) := by
 unfold fschema_Sameq1 at h
 refine FnOk.enter Tryz.func65 rfl Tryz.ntmps65 (leb rfl) (fun M0 M w0 a hpl hst => ?_)
 replace hst : St M w0 31 [(0,rSapi_Kind.ty x_),(1,rSapi_Kind.ty y_)] [] a w0 := hst
 refine sr mixed [] hst (fun _ => .o (op_boxR (R := rSapi_Kind) (u := x_) z0) <| .o (op_boxR (R := rSapi_Kind) (u := y_) z2) <| .o (op_assign .k) <| .n) fun n0 a w hst => ?_
 replace hst := hst.to [0,1] [_,_] [] rfl rfl
 obtain ⟨t29,ht29,h⟩ := bind_some h
 refine sr mixed [] hst (fun _ => .o (op_field fld47_0 z0) <| .o (op_loadT (R := rS) (u := (x_).Name) tok9 z0 rfl) <| .o (op_field fld47_0 z3) <| .o (op_loadT (R := rS) (u := (y_).Name) tok9 z0 rfl) <| .o (op_eqlS z2 z0) <| .q 0 rfl <| .g rfl rfl (.b 0 rfl) (fun _ => op_field fld47_1 z6) <| .g rfl rfl (.b 1 rfl) (fun hc => op_loadT (R := rI) (u := (x_).Lo) tok3 (.cond z0 hc) rfl) <| .g rfl rfl (.b 2 rfl) (fun _ => op_field fld47_1 z9) <| .g rfl rfl (.b 3 rfl) (fun hc => op_loadT (R := rI) (u := (y_).Lo) tok3 (.cond z0 hc) rfl) <| .g rfl rfl (.b 4 rfl) (fun hc => op_eql (.cond z2 hc) (.cond z0 hc)) <| .o (op_and z5 (fun hp => (.cond z0 (beqT hp)))) <| .q 0 rfl <| .g rfl rfl (.b 0 rfl) (fun _ => op_field fld47_2 z13) <| .g rfl rfl (.b 1 rfl) (fun hc => op_loadT (R := rI) (u := (x_).Hi) tok3 (.cond z0 hc) rfl) <| .g rfl rfl (.b 2 rfl) (fun _ => op_field fld47_2 z16) <| .g rfl rfl (.b 3 rfl) (fun hc => op_loadT (R := rI) (u := (y_).Hi) tok3 (.cond z0 hc) rfl) <| .g rfl rfl (.b 4 rfl) (fun hc => op_eql (.cond z2 hc) (.cond z0 hc)) <| .o (op_and z5 (fun hp => (.cond z0 (beqT hp)))) <| .q 0 rfl <| .g rfl rfl (.b 0 rfl) (fun _ => op_field fld47_3 z20) <| .g rfl rfl (.b 1 rfl) (fun hc => op_loadT (R := (rSl rSapi_Field)) (u := (x_).Fields) tok45 (.cond z0 hc) rfl) <| .g rfl rfl (.b 2 rfl) (fun _ => op_field fld47_3 z23) <| .g rfl rfl (.b 3 rfl) (fun hc => op_loadT (R := (rSl rSapi_Field)) (u := (y_).Fields) tok45 (.cond z0 hc) rfl) <| .g rfl rfl (.b 4 rfl) (fun hc => op_callF call66 (slices_EqualFunc_Field_ok (opt_t ht29 hc)) (.cons (.of (.cond z2 hc)) <| .cons (.of (.cond z0 hc)) <| .cons (.of (Fct.weak .fnE (tfn_of call67 (fun _ _ hq => schema_sameField_ok hq)))) <| .nil)) <| .o (op_and z5 (fun hp => (.cond z0 (beqT hp)))) <| .o (op_assign z0) <| .n) fun n1 a w hst => ?_
 replace hst := hst.to [26] [_] [] rfl rfl
 refine wp_ret ?_
 obtain rfl := sj h
 exact ret_st undef [] hpl hst rfl (.tmp z0 .nil) rfl rfl rfl

/- slices.EqualFunc[[]diorama/api.Life,[]diorama/api.Life,diorama/api.Life,diorama/api.Life] -/
noncomputable def fslices_EqualFunc_Life (s1_ : (List Sapi_Life)) (s2_ : (List Sapi_Life)) (eq_ : (Sapi_Life → Sapi_Life → Option Bool)) : Option (Bool) := (if ((s1_.length : Int) != (s2_.length : Int)) = true then (some false) else (tailrec (fun (s7 : Int) => ((if (decide (s7 < (s1_.length : Int))) = true then (idx s1_ s7).bind fun t20 => (idx s2_ s7).bind fun t24 => (eq_ t20 t24).bind fun t29 => (if (!t29) = true then (some (.inr (.inr false))) else (some (.inl (IntKind.i64.wrap (s7 + (1:Int)))))) else (some (.inr (.inl ())))) : Option ((Int) ⊕ ((Unit) ⊕ (Bool))))) (0:Int)).bind fun (e8 : (Unit) ⊕ (Bool)) => (match e8 with | .inl _ => (some true) | .inr p32 => (some p32)))
set_option maxRecDepth 100000 in
set_option maxHeartbeats 4000000 in
theorem slices_EqualFunc_Life_ok {s1_ : (List Sapi_Life)} {s2_ : (List Sapi_Life)} {eq_ : (Sapi_Life → Sapi_Life → Option Bool)} {r : Bool} (h : fslices_EqualFunc_Life s1_ s2_ eq_ = some r) : FnOk Tryz.prog 68 [tsl rSapi_Life s1_,tsl rSapi_Life s2_,rF118.ty eq_] [] (fun _ => []) (fun _ => tb r) := by
 unfold fslices_EqualFunc_Life at h
 refine FnOk.enter Tryz.func68 rfl Tryz.ntmps68 (leb rfl) (fun M0 M w0 a hpl hst => ?_)
 replace hst : St M w0 32 [(0,tsl rSapi_Life s1_),(1,tsl rSapi_Life s2_),(2,rF118.ty eq_)] [] a w0 := hst
 refine sr mixed [] hst (fun _ => .o (op_assign .k) <| .n) fun n0 a w hst => ?_
 replace hst := hst.to [1,2,3] [_,_,_] [] rfl rfl
 refine wp_seq_k (fun K2 hK2 => ?_)
 refine sr mixed [] hst (fun _ => .q 0 rfl <| .o (op_len ud31 z0) <| .q 3 rfl <| .o (op_len ud31 z0) <| .o (op_neq z2 z0) <| .n) fun n1 a w hst => ?_
 replace hst := hst.to [4,5,6,7] [_,_,_,_] [] rfl rfl
 refine wt hst (fun b46 => ?_) (fun b46 => ?_)
 ·replace h := ite_t b46 h
  refine sr mixed [] hst (fun _ => .o (op_assign .k) <| .n) fun n2 a w hst => ?_
  replace hst := hst.to [0] [_] [] rfl rfl
  refine wp_ret ?_
  obtain rfl := sj h
  exact ret_st undef [] hpl hst rfl (.tmp z0 .nil) rfl rfl rfl
 ·replace h := ite_f b46 h
  refine wp_skip ?_
  refine hK2 _ _ ?_
  try clear hK2 K2
  refine wp_seq_k (fun K5 hK5 => ?_)
  refine sr mixed [] hst (fun _ => .q 1 rfl <| .o (op_len ud31 z0) <| .o (op_move .k) <| .n) fun n3 a w hst => ?_
  replace hst := hst.to [0,1,2,5,6] [_,_,_,_,_] [] rfl rfl
  obtain ⟨e8,he8,h⟩ := bind_some h
  have hJp31 : ∀ (p31 : Unit) a w,(.inl p31) = e8 → St M w0 32 [] [] a w → K5 a w := by
   intro p31 a w he hst
   subst he
   simp only at h
   refine hK5 _ _ ?_
   try clear hK5 K5
   refine sr mixed [] hst (fun _ => .o (op_assign .k) <| .n) fun n10 a w hst => ?_
   replace hst := hst.to [0] [_] [] rfl rfl
   refine wp_ret ?_
   obtain rfl := sj h
   exact ret_st undef [] hpl hst rfl (.tmp z0 .nil) rfl rfl rfl
  have hJp32 : ∀ (p32 : Bool) a w,(.inr p32) = e8 → St M w0 32 [(6,tb p32)] [] a w → Ret Tryz.prog Tryz.f68 M0 [] w0 (fun _ => []) (fun _ => tb r) .ret a w := by
   intro p32 a w he hst
   subst he
   simp only at h
   obtain rfl := sj h
   exact ret_st undef [] hpl hst rfl (.tmp z0 .nil) rfl rfl rfl
  refine wp_block ?_
  refine wp_loopK _ (fun (s7 : Int) a w => St M w0 32 [(15,tsl rSapi_Life s1_),(16,ti (s1_.length : Int)),(17,ti s7),(1,tsl rSapi_Life s2_),(2,rF118.ty eq_)] [] a w) _ _ he8 (hst.pick [0,1,2,3,4]) ?_
  clear h
  intro s7 o a w K34 hI h ho hK34
  have hst := hI
  clear hI
  refine sr mixed [] hst (fun _ => .o (op_lss z2 z1) <| .n) fun n4 a w hst => ?_
  replace hst := hst.to [0,1,2,3,4,5] [_,_,_,_,_,_] [] rfl rfl
  refine wp_seq_k (fun K36 hK36 => ?_)
  refine wt hst (fun b45 => ?_) (fun b45 => ?_)
  ·replace h := ite_t b45 h
   refine wp_skip ?_
   refine hK36 _ _ ?_
   try clear hK36 K36
   refine wp_seq_k (fun K37 hK37 => ?_)
   refine wp_block ?_
   obtain ⟨t20,ht20,h⟩ := bind_some h
   refine sr mixed [v1 3 (fun v0 => box (rSapi_Life.cs zz2) v0),v1 3 (fun v0 => box (rSapi_Life.cs t20) v0)] hst (fun _ => .q 3 rfl <| .o (op_index ud31 tok67 z2 z4 ht20) <| .o (op_load tok67 z0) <| .m [] [0] rfl rfl rfl (op_alloc (R := rSapi_Life) (a := zz2) tok67 zok67) <| .o (op_assign z3) <| .e [] [0] [1] rfl rfl rfl rfl (op_storeB (R := rSapi_Life) (a := t20) tok67 z1 z2 (leb rfl)) <| .n) fun n5 a w hst => ?_
   replace hst : St _ _ _ [_,_,_,_,_,_,_] [] _ _ := (((hst.pick [3,4,6,7,8,9,10]).shareB 0 rfl).add 0 rfl (fun _ _ _ h => h.2)).pick [0,3,4,5,6,7,8]
   obtain ⟨t24,ht24,h⟩ := bind_some h
   refine sr mixed [v1 4 (fun v0 => box (rSapi_Life.cs zz2) v0),v1 4 (fun v0 => box (rSapi_Life.cs t24) v0)] hst (fun _ => .q 5 rfl <| .q 2 rfl <| .o (op_index ud31 tok67 z1 z0 ht24) <| .o (op_load tok67 z0) <| .m [] [0] rfl rfl rfl (op_alloc (R := rSapi_Life) (a := zz2) tok67 zok67) <| .e [] [0] [1] rfl rfl rfl rfl (op_storeB (R := rSapi_Life) (a := t24) tok67 z0 z1 (leb rfl)) <| .n) fun n6 a w hst => ?_
   replace hst : St _ _ _ [_,_,_,_,_,_,_] [] _ _ := (((hst.pick [4,5,7,8,9,10,11]).shareB 0 rfl).add 0 rfl (fun _ _ _ h => h.2)).pick [0,3,4,5,6,7,8]
   obtain ⟨t29,ht29,h⟩ := bind_some h
   refine sr mixed [] hst (fun _ => .q 6 rfl <| .o (op_load tok67 z2) <| .o (op_load tok67 z2) <| .o (op_callT (u := (t20,t24)) z2 (.cons (.of z1) <| .cons (.of z0) <| .nil) ht29) <| .o (op_not z0) <| .n) fun n7 a w hst => ?_
   replace hst := hst.to [4,7,8,9,10,11] [_,_,_,_,_,_] [] rfl rfl
   refine wt hst (fun b44 => ?_) (fun b44 => ?_)
   ·replace h := ite_t b44 h
    refine sr mixed [] hst (fun _ => .o (op_assign .k) <| .n) fun n8 a w hst => ?_
    replace hst := hst.to [0] [_] [] rfl rfl
    refine wp_ret ?_
    exact hJp32 _ _ _ (ho _ (sj h).symm) (hst.pick [0])
   ·replace h := ite_f b44 h
    refine wp_skip ?_
    refine hK37 _ _ ?_
    try clear hK37 K37
    refine wr mixed [] hst (fun _ => .o (op_add z3 .k) <| .q 0 rfl <| .n) fun n9 a w hst => ?_
    replace hst := hst.to [1,3,4,5,6] [_,_,_,_,_] [] rfl rfl
    exact hK34 _ _ _ (sj h).symm (hst.pick [1,2,0,3,4])
  ·replace h := ite_f b45 h
   refine wp_exit ?_
   exact hJp31 _ _ _ (ho _ (sj h).symm) (hst.pick [])

/- slices.Equal[[][2]int,[2]int] -/
noncomputable def fslices_Equal_Twoint (s1_ : (List A2_Int)) (s2_ : (List A2_Int)) : Option (Bool) := (if ((s1_.length : Int) != (s2_.length : Int)) = true then (some false) else (tailrec (fun (s7 : Int) => ((if (decide (s7 < (s1_.length : Int))) = true then (idx s1_ s7).bind fun t18 => (idx s2_ s7).bind fun t22 => (if (!eqA2_Int t18 t22) = true then (some (.inr (.inr false))) else (some (.inl (IntKind.i64.wrap (s7 + (1:Int)))))) else (some (.inr (.inl ())))) : Option ((Int) ⊕ ((Unit) ⊕ (Bool))))) (0:Int)).bind fun (e8 : (Unit) ⊕ (Bool)) => (match e8 with | .inl _ => (some true) | .inr p26 => (some p26)))
set_option maxRecDepth 100000 in
set_option maxHeartbeats 4000000 in
theorem slices_Equal_Twoint_ok {s1_ : (List A2_Int)} {s2_ : (List A2_Int)} {r : Bool} (h : fslices_Equal_Twoint s1_ s2_ = some r) : FnOk Tryz.prog 71 [tsl rA2_Int s1_,tsl rA2_Int s2_] [] (fun _ => []) (fun _ => tb r) := by
 unfold fslices_Equal_Twoint at h
 refine FnOk.enter Tryz.func71 rfl Tryz.ntmps71 (leb rfl) (fun M0 M w0 a hpl hst => ?_)
 replace hst : St M w0 26 [(0,tsl rA2_Int s1_),(1,tsl rA2_Int s2_)] [] a w0 := hst
 refine sr mixed [] hst (fun _ => .o (op_assign .k) <| .n) fun n0 a w hst => ?_
 replace hst := hst.to [1,2] [_,_] [] rfl rfl
 refine wp_seq_k (fun K2 hK2 => ?_)
 refine sr mixed [] hst (fun _ => .q 0 rfl <| .o (op_len ud65 z0) <| .q 3 rfl <| .o (op_len ud65 z0) <| .o (op_neq z2 z0) <| .n) fun n1 a w hst => ?_
 replace hst := hst.to [4,5,6] [_,_,_] [] rfl rfl
 refine wt hst (fun b37 => ?_) (fun b37 => ?_)
 ·replace h := ite_t b37 h
  refine sr mixed [] hst (fun _ => .o (op_assign .k) <| .n) fun n2 a w hst => ?_
  replace hst := hst.to [0] [_] [] rfl rfl
  refine wp_ret ?_
  obtain rfl := sj h
  exact ret_st undef [] hpl hst rfl (.tmp z0 .nil) rfl rfl rfl
 ·replace h := ite_f b37 h
  refine wp_skip ?_
  refine hK2 _ _ ?_
  try clear hK2 K2
  refine wp_seq_k (fun K5 hK5 => ?_)
  refine sr mixed [] hst (fun _ => .q 1 rfl <| .o (op_len ud65 z0) <| .o (op_move .k) <| .n) fun n3 a w hst => ?_
  replace hst := hst.to [1,2,4,5] [_,_,_,_] [] rfl rfl
  obtain ⟨e8,he8,h⟩ := bind_some h
  have hJp25 : ∀ (p25 : Unit) a w,(.inl p25) = e8 → St M w0 26 [] [] a w → K5 a w := by
   intro p25 a w he hst
   subst he
   simp only at h
   refine hK5 _ _ ?_
   try clear hK5 K5
   refine sr mixed [] hst (fun _ => .o (op_assign .k) <| .n) fun n9 a w hst => ?_
   replace hst := hst.to [0] [_] [] rfl rfl
   refine wp_ret ?_
   obtain rfl := sj h
   exact ret_st undef [] hpl hst rfl (.tmp z0 .nil) rfl rfl rfl
  have hJp26 : ∀ (p26 : Bool) a w,(.inr p26) = e8 → St M w0 26 [(4,tb p26)] [] a w → Ret Tryz.prog Tryz.f71 M0 [] w0 (fun _ => []) (fun _ => tb r) .ret a w := by
   intro p26 a w he hst
   subst he
   simp only at h
   obtain rfl := sj h
   exact ret_st undef [] hpl hst rfl (.tmp z0 .nil) rfl rfl rfl
  refine wp_block ?_
  refine wp_loopK _ (fun (s7 : Int) a w => St M w0 26 [(12,ti (s1_.length : Int)),(13,ti s7),(0,tsl rA2_Int s1_),(1,tsl rA2_Int s2_)] [] a w) _ _ he8 (hst.pick [0,1,2,3]) ?_
  clear h
  intro s7 o a w K28 hI h ho hK28
  have hst := hI
  clear hI
  refine sr mixed [] hst (fun _ => .o (op_lss z1 z0) <| .n) fun n4 a w hst => ?_
  replace hst := hst.to [0,1,2,3,4] [_,_,_,_,_] [] rfl rfl
  refine wp_seq_k (fun K30 hK30 => ?_)
  refine wt hst (fun b36 => ?_) (fun b36 => ?_)
  ·replace h := ite_t b36 h
   refine wp_skip ?_
   refine hK30 _ _ ?_
   try clear hK30 K30
   refine wp_seq_k (fun K31 hK31 => ?_)
   refine wp_block ?_
   refine sr mixed [] hst (fun _ => .q 2 rfl <| .o (op_assign z0) <| .n) fun n5 a w hst => ?_
   replace hst := hst.to [1,3,4,5,6] [_,_,_,_,_] [] rfl rfl
   obtain ⟨t18,ht18,h⟩ := bind_some h
   obtain ⟨t22,ht22,h⟩ := bind_some h
   refine sr mixed [] hst (fun _ => .q 3 rfl <| .q 1 rfl <| .o (op_index ud65 tok98 z1 z0 ht18) <| .o (op_load tok98 z0) <| .q 8 rfl <| .q 5 rfl <| .o (op_index ud65 tok98 z1 z0 ht22) <| .o (op_load tok98 z0) <| .o (op_neq_t98 z4 z0) <| .n) fun n6 a w hst => ?_
   replace hst := hst.to [8,10,11,12,13] [_,_,_,_,_] [] rfl rfl
   refine wt hst (fun b35 => ?_) (fun b35 => ?_)
   ·replace h := ite_t b35 h
    refine sr mixed [] hst (fun _ => .o (op_assign .k) <| .n) fun n7 a w hst => ?_
    replace hst := hst.to [0] [_] [] rfl rfl
    refine wp_ret ?_
    exact hJp26 _ _ _ (ho _ (sj h).symm) (hst.pick [0])
   ·replace h := ite_f b35 h
    refine wp_skip ?_
    refine hK31 _ _ ?_
    try clear hK31 K31
    refine wr mixed [] hst (fun _ => .o (op_add z2 .k) <| .q 0 rfl <| .n) fun n8 a w hst => ?_
    replace hst := hst.to [1,3,4,5] [_,_,_,_] [] rfl rfl
    exact hK28 _ _ _ (sj h).symm (hst.pick [1,0,2,3])
  ·replace h := ite_f b36 h
   refine wp_exit ?_
   exact hJp25 _ _ _ (ho _ (sj h).symm) (hst.pick [])

/- diorama/schema.Same$2 -/
noncomputable def fschema_Sameq2 (x_ : Sapi_Life) (y_ : Sapi_Life) : Option (Bool) := (opt (((x_).Name == (y_).Name) == true) (fslices_Equal_string (x_).States (y_).States) default).bind fun t15 => (opt ((((x_).Name == (y_).Name) && t15) == true) (fslices_Equal_Twoint (x_).Moves (y_).Moves) default).bind fun t22 => (some ((((x_).Name == (y_).Name) && t15) && t22))
set_option maxRecDepth 100000 in
set_option maxHeartbeats 4000000 in
theorem schema_Sameq2_ok {x_ : Sapi_Life} {y_ : Sapi_Life} {r : Bool} (h : fschema_Sameq2 x_ y_ = some r) : FnOk Tryz.prog 69 [rSapi_Life.ty x_,rSapi_Life.ty y_] [] (fun _ => []) (fun _ => tb r) := by
 unfold fschema_Sameq2 at h
 refine FnOk.enter Tryz.func69 rfl Tryz.ntmps69 (leb rfl) (fun M0 M w0 a hpl hst => ?_)
 replace hst : St M w0 24 [(0,rSapi_Life.ty x_),(1,rSapi_Life.ty y_)] [] a w0 := hst
 refine sr mixed [] hst (fun _ => .o (op_boxR (R := rSapi_Life) (u := x_) z0) <| .o (op_boxR (R := rSapi_Life) (u := y_) z2) <| .o (op_assign .k) <| .n) fun n0 a w hst => ?_
 replace hst := hst.to [0,1] [_,_] [] rfl rfl
 obtain ⟨t15,ht15,h⟩ := bind_some h
 obtain ⟨t22,ht22,h⟩ := bind_some h
 refine sr mixed [] hst (fun _ => .o (op_field fld67_0 z0) <| .o (op_loadT (R := rS) (u := (x_).Name) tok9 z0 rfl) <| .o (op_field fld67_0 z3) <| .o (op_loadT (R := rS) (u := (y_).Name) tok9 z0 rfl) <| .o (op_eqlS z2 z0) <| .q 0 rfl <| .g rfl rfl (.b 0 rfl) (fun _ => op_field fld67_1 z6) <| .g rfl rfl (.b 1 rfl) (fun hc => op_loadT (R := (rSl rS)) (u := (x_).States) tok38 (.cond z0 hc) rfl) <| .g rfl rfl (.b 2 rfl) (fun _ => op_field fld67_1 z9) <| .g rfl rfl (.b 3 rfl) (fun hc => op_loadT (R := (rSl rS)) (u := (y_).States) tok38 (.cond z0 hc) rfl) <| .g rfl rfl (.b 4 rfl) (fun hc => op_callF call70 (slices_Equal_string_ok (opt_t ht15 hc)) (.cons (.of (.cond z2 hc)) <| .cons (.of (.cond z0 hc)) <| .nil)) <| .o (op_and z5 (fun hp => (.cond z0 (beqT hp)))) <| .q 0 rfl <| .g rfl rfl (.b 0 rfl) (fun _ => op_field fld67_2 z13) <| .g rfl rfl (.b 1 rfl) (fun hc => op_loadT (R := (rSl rA2_Int)) (u := (x_).Moves) tok65 (.cond z0 hc) rfl) <| .g rfl rfl (.b 2 rfl) (fun _ => op_field fld67_2 z16) <| .g rfl rfl (.b 3 rfl) (fun hc => op_loadT (R := (rSl rA2_Int)) (u := (y_).Moves) tok65 (.cond z0 hc) rfl) <| .g rfl rfl (.b 4 rfl) (fun hc => op_callF call71 (slices_Equal_Twoint_ok (opt_t ht22 hc)) (.cons (.of (.cond z2 hc)) <| .cons (.of (.cond z0 hc)) <| .nil)) <| .o (op_and z5 (fun hp => (.cond z0 (beqT hp)))) <| .o (op_assign z0) <| .n) fun n1 a w hst => ?_
 replace hst := hst.to [19] [_] [] rfl rfl
 refine wp_ret ?_
 obtain rfl := sj h
 exact ret_st undef [] hpl hst rfl (.tmp z0 .nil) rfl rfl rfl

/- slices.Equal[[]diorama/api.Rule,diorama/api.Rule] -/
noncomputable def fslices_Equal_Rule (s1_ : (List Sapi_Rule)) (s2_ : (List Sapi_Rule)) : Option (Bool) := (if ((s1_.length : Int) != (s2_.length : Int)) = true then (some false) else (tailrec (fun (s7 : Int) => ((if (decide (s7 < (s1_.length : Int))) = true then (idx s1_ s7).bind fun t18 => (idx s2_ s7).bind fun t22 => (if (!eqSapi_Rule t18 t22) = true then (some (.inr (.inr false))) else (some (.inl (IntKind.i64.wrap (s7 + (1:Int)))))) else (some (.inr (.inl ())))) : Option ((Int) ⊕ ((Unit) ⊕ (Bool))))) (0:Int)).bind fun (e8 : (Unit) ⊕ (Bool)) => (match e8 with | .inl _ => (some true) | .inr p26 => (some p26)))
set_option maxRecDepth 100000 in
set_option maxHeartbeats 4000000 in
theorem slices_Equal_Rule_ok {s1_ : (List Sapi_Rule)} {s2_ : (List Sapi_Rule)} {r : Bool} (h : fslices_Equal_Rule s1_ s2_ = some r) : FnOk Tryz.prog 72 [tsl rSapi_Rule s1_,tsl rSapi_Rule s2_] [] (fun _ => []) (fun _ => tb r) := by
 unfold fslices_Equal_Rule at h
 refine FnOk.enter Tryz.func72 rfl Tryz.ntmps72 (leb rfl) (fun M0 M w0 a hpl hst => ?_)
 replace hst : St M w0 26 [(0,tsl rSapi_Rule s1_),(1,tsl rSapi_Rule s2_)] [] a w0 := hst
 refine sr mixed [] hst (fun _ => .o (op_assign .k) <| .n) fun n0 a w hst => ?_
 replace hst := hst.to [1,2] [_,_] [] rfl rfl
 refine wp_seq_k (fun K2 hK2 => ?_)
 refine sr mixed [] hst (fun _ => .q 0 rfl <| .o (op_len ud32 z0) <| .q 3 rfl <| .o (op_len ud32 z0) <| .o (op_neq z2 z0) <| .n) fun n1 a w hst => ?_
 replace hst := hst.to [4,5,6] [_,_,_] [] rfl rfl
 refine wt hst (fun b37 => ?_) (fun b37 => ?_)
 ·replace h := ite_t b37 h
  refine sr mixed [] hst (fun _ => .o (op_assign .k) <| .n) fun n2 a w hst => ?_
  replace hst := hst.to [0] [_] [] rfl rfl
  refine wp_ret ?_
  obtain rfl := sj h
  exact ret_st undef [] hpl hst rfl (.tmp z0 .nil) rfl rfl rfl
 ·replace h := ite_f b37 h
  refine wp_skip ?_
  refine hK2 _ _ ?_
  try clear hK2 K2
  refine wp_seq_k (fun K5 hK5 => ?_)
  refine sr mixed [] hst (fun _ => .q 1 rfl <| .o (op_len ud32 z0) <| .o (op_move .k) <| .n) fun n3 a w hst => ?_
  replace hst := hst.to [1,2,4,5] [_,_,_,_] [] rfl rfl
  obtain ⟨e8,he8,h⟩ := bind_some h
  have hJp25 : ∀ (p25 : Unit) a w,(.inl p25) = e8 → St M w0 26 [] [] a w → K5 a w := by
   intro p25 a w he hst
   subst he
   simp only at h
   refine hK5 _ _ ?_
   try clear hK5 K5
   refine sr mixed [] hst (fun _ => .o (op_assign .k) <| .n) fun n9 a w hst => ?_
   replace hst := hst.to [0] [_] [] rfl rfl
   refine wp_ret ?_
   obtain rfl := sj h
   exact ret_st undef [] hpl hst rfl (.tmp z0 .nil) rfl rfl rfl
  have hJp26 : ∀ (p26 : Bool) a w,(.inr p26) = e8 → St M w0 26 [(4,tb p26)] [] a w → Ret Tryz.prog Tryz.f72 M0 [] w0 (fun _ => []) (fun _ => tb r) .ret a w := by
   intro p26 a w he hst
   subst he
   simp only at h
   obtain rfl := sj h
   exact ret_st undef [] hpl hst rfl (.tmp z0 .nil) rfl rfl rfl
  refine wp_block ?_
  refine wp_loopK _ (fun (s7 : Int) a w => St M w0 26 [(12,ti (s1_.length : Int)),(13,ti s7),(0,tsl rSapi_Rule s1_),(1,tsl rSapi_Rule s2_)] [] a w) _ _ he8 (hst.pick [0,1,2,3]) ?_
  clear h
  intro s7 o a w K28 hI h ho hK28
  have hst := hI
  clear hI
  refine sr mixed [] hst (fun _ => .o (op_lss z1 z0) <| .n) fun n4 a w hst => ?_
  replace hst := hst.to [0,1,2,3,4] [_,_,_,_,_] [] rfl rfl
  refine wp_seq_k (fun K30 hK30 => ?_)
  refine wt hst (fun b36 => ?_) (fun b36 => ?_)
  ·replace h := ite_t b36 h
   refine wp_skip ?_
   refine hK30 _ _ ?_
   try clear hK30 K30
   refine wp_seq_k (fun K31 hK31 => ?_)
   refine wp_block ?_
   refine sr mixed [] hst (fun _ => .q 2 rfl <| .o (op_assign z0) <| .n) fun n5 a w hst => ?_
   replace hst := hst.to [1,3,4,5,6] [_,_,_,_,_] [] rfl rfl
   obtain ⟨t18,ht18,h⟩ := bind_some h
   obtain ⟨t22,ht22,h⟩ := bind_some h
   refine sr mixed [] hst (fun _ => .q 3 rfl <| .q 1 rfl <| .o (op_index ud32 tok100 z1 z0 ht18) <| .o (op_load tok100 z0) <| .q 8 rfl <| .q 5 rfl <| .o (op_index ud32 tok100 z1 z0 ht22) <| .o (op_load tok100 z0) <| .o (op_neq_t100 z4 z0) <| .n) fun n6 a w hst => ?_
   replace hst := hst.to [8,10,11,12,13] [_,_,_,_,_] [] rfl rfl
   refine wt hst (fun b35 => ?_) (fun b35 => ?_)
   ·replace h := ite_t b35 h
    refine sr mixed [] hst (fun _ => .o (op_assign .k) <| .n) fun n7 a w hst => ?_
    replace hst := hst.to [0] [_] [] rfl rfl
    refine wp_ret ?_
    exact hJp26 _ _ _ (ho _ (sj h).symm) (hst.pick [0])
   ·replace h := ite_f b35 h
    refine wp_skip ?_
    refine hK31 _ _ ?_
    try clear hK31 K31
    refine wr mixed [] hst (fun _ => .o (op_add z2 .k) <| .q 0 rfl <| .n) fun n8 a w hst => ?_
    replace hst := hst.to [1,3,4,5] [_,_,_,_] [] rfl rfl
    exact hK28 _ _ _ (sj h).symm (hst.pick [1,0,2,3])
  ·replace h := ite_f b36 h
   refine wp_exit ?_
   exact hJp25 _ _ _ (ho _ (sj h).symm) (hst.pick [])

/- diorama/schema.Same -/
noncomputable def fschema_Same (a_ : Sapi_Schema) (b_ : Sapi_Schema) : Option (Bool) := (opt (((a_).Version == (b_).Version) == true) (fslices_EqualFunc_Kind (a_).Kinds (b_).Kinds (fun x0 x1 => fschema_Sameq1 x0 x1)) default).bind fun t15 => (opt ((((a_).Version == (b_).Version) && t15) == true) (fslices_EqualFunc_Life (a_).Lives (b_).Lives (fun x0 x1 => fschema_Sameq2 x0 x1)) default).bind fun t22 => (opt (((((a_).Version == (b_).Version) && t15) && t22) == true) (fslices_Equal_Rule (a_).Rules (b_).Rules) default).bind fun t29 => (some (((((a_).Version == (b_).Version) && t15) && t22) && t29))
set_option maxRecDepth 100000 in
set_option maxHeartbeats 4000000 in
theorem schema_Same_ok {a_ : Sapi_Schema} {b_ : Sapi_Schema} {r : Bool} (h : fschema_Same a_ b_ = some r) : FnOk Tryz.prog 27 [rSapi_Schema.ty a_,rSapi_Schema.ty b_] [] (fun _ => []) (fun _ => tb r) := by
 unfold fschema_Same at h
 refine FnOk.enter Tryz.func27 rfl Tryz.ntmps27 (leb rfl) (fun M0 M w0 a hpl hst => ?_)
 replace hst : St M w0 31 [(0,rSapi_Schema.ty a_),(1,rSapi_Schema.ty b_)] [] a w0 := hst
 refine sr mixed [] hst (fun _ => .o (op_boxR (R := rSapi_Schema) (u := a_) z0) <| .o (op_boxR (R := rSapi_Schema) (u := b_) z2) <| .o (op_assign .k) <| .n) fun n0 a w hst => ?_
 replace hst := hst.to [0,1] [_,_] [] rfl rfl
 obtain ⟨t15,ht15,h⟩ := bind_some h
 obtain ⟨t22,ht22,h⟩ := bind_some h
 obtain ⟨t29,ht29,h⟩ := bind_some h
 refine sr mixed [] hst (fun _ => .o (op_field fld34_0 z0) <| .o (op_loadT (R := rI) (u := (a_).Version) tok3 z0 rfl) <| .o (op_field fld34_0 z3) <| .o (op_loadT (R := rI) (u := (b_).Version) tok3 z0 rfl) <| .o (op_eql z2 z0) <| .q 0 rfl <| .g rfl rfl (.b 0 rfl) (fun _ => op_field fld34_1 z6) <| .g rfl rfl (.b 1 rfl) (fun hc => op_loadT (R := (rSl rSapi_Kind)) (u := (a_).Kinds) tok30 (.cond z0 hc) rfl) <| .g rfl rfl (.b 2 rfl) (fun _ => op_field fld34_1 z9) <| .g rfl rfl (.b 3 rfl) (fun hc => op_loadT (R := (rSl rSapi_Kind)) (u := (b_).Kinds) tok30 (.cond z0 hc) rfl) <| .g rfl rfl (.b 4 rfl) (fun hc => op_callF call64 (slices_EqualFunc_Kind_ok (opt_t ht15 hc)) (.cons (.of (.cond z2 hc)) <| .cons (.of (.cond z0 hc)) <| .cons (.of (Fct.weak .fnE (tfn_of call65 (fun _ _ hq => schema_Sameq1_ok hq)))) <| .nil)) <| .o (op_and z5 (fun hp => (.cond z0 (beqT hp)))) <| .q 0 rfl <| .g rfl rfl (.b 0 rfl) (fun _ => op_field fld34_2 z13) <| .g rfl rfl (.b 1 rfl) (fun hc => op_loadT (R := (rSl rSapi_Life)) (u := (a_).Lives) tok31 (.cond z0 hc) rfl) <| .g rfl rfl (.b 2 rfl) (fun _ => op_field fld34_2 z16) <| .g rfl rfl (.b 3 rfl) (fun hc => op_loadT (R := (rSl rSapi_Life)) (u := (b_).Lives) tok31 (.cond z0 hc) rfl) <| .g rfl rfl (.b 4 rfl) (fun hc => op_callF call68 (slices_EqualFunc_Life_ok (opt_t ht22 hc)) (.cons (.of (.cond z2 hc)) <| .cons (.of (.cond z0 hc)) <| .cons (.of (Fct.weak .fnE (tfn_of call69 (fun _ _ hq => schema_Sameq2_ok hq)))) <| .nil)) <| .o (op_and z5 (fun hp => (.cond z0 (beqT hp)))) <| .q 0 rfl <| .g rfl rfl (.b 0 rfl) (fun _ => op_field fld34_3 z20) <| .g rfl rfl (.b 1 rfl) (fun hc => op_loadT (R := (rSl rSapi_Rule)) (u := (a_).Rules) tok32 (.cond z0 hc) rfl) <| .g rfl rfl (.b 2 rfl) (fun _ => op_field fld34_3 z23) <| .g rfl rfl (.b 3 rfl) (fun hc => op_loadT (R := (rSl rSapi_Rule)) (u := (b_).Rules) tok32 (.cond z0 hc) rfl) <| .g rfl rfl (.b 4 rfl) (fun hc => op_callF call72 (slices_Equal_Rule_ok (opt_t ht29 hc)) (.cons (.of (.cond z2 hc)) <| .cons (.of (.cond z0 hc)) <| .nil)) <| .o (op_and z5 (fun hp => (.cond z0 (beqT hp)))) <| .o (op_assign z0) <| .n) fun n1 a w hst => ?_
 replace hst := hst.to [26] [_] [] rfl rfl
 refine wp_ret ?_
 obtain rfl := sj h
 exact ret_st undef [] hpl hst rfl (.tmp z0 .nil) rfl rfl rfl

/- diorama/schema.within -/
noncomputable def fschema_within (n_ : Int) (least_ : Int) (most_ : Int) : Option (Bool) := (some ((decide (n_ ≥ least_)) && (decide (n_ ≤ most_))))
set_option maxRecDepth 100000 in
set_option maxHeartbeats 4000000 in
theorem schema_within_ok {n_ : Int} {least_ : Int} {most_ : Int} {r : Bool} (h : fschema_within n_ least_ most_ = some r) : FnOk Tryz.prog 73 [ti n_,ti least_,ti most_] [] (fun _ => []) (fun _ => tb r) := by
 unfold fschema_within at h
 refine FnOk.enter Tryz.func73 rfl Tryz.ntmps73 (leb rfl) (fun M0 M w0 a hpl hst => ?_)
 replace hst : St M w0 15 [(0,ti n_),(1,ti least_),(2,ti most_)] [] a w0 := hst
 refine sr mixed [] hst (fun _ => .o (op_assign .k) <| .n) fun n0 a w hst => ?_
 replace hst := hst.to [1,2,3] [_,_,_] [] rfl rfl
 refine sr mixed [] hst (fun _ => .q 0 rfl <| .q 2 rfl <| .o (op_geq z1 z0) <| .q 0 rfl <| .g rfl rfl (.b 0 rfl) (fun _ => op_move z4) <| .g rfl rfl (.b 1 rfl) (fun _ => op_move z7) <| .g rfl rfl (.b 2 rfl) (fun hc => op_leq (.cond z1 hc) (.cond z0 hc)) <| .o (op_and z3 (fun hp => (.cond z0 (beqT hp)))) <| .o (op_assign z0) <| .n) fun n1 a w hst => ?_
 replace hst := hst.to [8] [_] [] rfl rfl
 refine wp_ret ?_
 obtain rfl := sj h
 exact ret_st undef [] hpl hst rfl (.tmp z0 .nil) rfl rfl rfl

/- diorama/schema.all[diorama/api.Kind]$1 -/
noncomputable def fschema_all_Kindq1 (x_ : Sapi_Kind) (c0_ : (Sapi_Kind → Option Bool)) : Option (Bool) := (c0_ x_).bind fun t6 => (some (!t6))
set_option maxRecDepth 100000 in
set_option maxHeartbeats 4000000 in
theorem schema_all_Kindq1_ok {x_ : Sapi_Kind} {c0_ : (Sapi_Kind → Option Bool)} {r : Bool} (h : fschema_all_Kindq1 x_ c0_ = some r) : FnOk Tryz.prog 104 [rSapi_Kind.ty x_,tptr (rF90.cs c0_)] [] (fun _ => []) (fun _ => tb r) := by
 unfold fschema_all_Kindq1 at h
 refine FnOk.enter Tryz.func104 rfl Tryz.ntmps104 (leb rfl) (fun M0 M w0 a hpl hst => ?_)
 replace hst : St M w0 8 [(0,rSapi_Kind.ty x_),(1,tptr (rF90.cs c0_))] [] a w0 := hst
 refine sr mixed [] hst (fun _ => .o (op_boxR (R := rSapi_Kind) (u := x_) z0) <| .o (op_assign .k) <| .n) fun n0 a w hst => ?_
 replace hst := hst.to [0,3] [_,_] [] rfl rfl
 obtain ⟨t6,ht6,h⟩ := bind_some h
 refine sr mixed [] hst (fun _ => .o (op_load tok90 z1) <| .o (op_load tok47 z1) <| .o (op_callT (u := x_) z1 (.cons (.of z0) <| .nil) ht6) <| .o (op_not z0) <| .o (op_assign z0) <| .n) fun n1 a w hst => ?_
 replace hst := hst.to [4] [_] [] rfl rfl
 refine wp_ret ?_
 obtain rfl := sj h
 exact ret_st undef [] hpl hst rfl (.tmp z0 .nil) rfl rfl rfl

/- slices.IndexFunc[[]diorama/api.Kind,diorama/api.Kind] -/
noncomputable def fslices_IndexFunc_Kind (s_ : (List Sapi_Kind)) (f_ : (Sapi_Kind → Option Bool)) : Option (Int) := (tailrec (fun (s4 : Int) => ((if (decide (s4 < (s_.length : Int))) = true then (idx s_ s4).bind fun t14 => (f_ t14).bind fun t16 => (if t16 = true then (some (.inr (.inr s4))) else (some (.inl (IntKind.i64.wrap (s4 + (1:Int)))))) else (some (.inr (.inl ())))) : Option ((Int) ⊕ ((Unit) ⊕ (Int))))) (0:Int)).bind fun (e5 : (Unit) ⊕ (Int)) => (match e5 with | .inl _ => (some (-1:Int)) | .inr p23 => (some p23))
set_option maxRecDepth 100000 in
set_option maxHeartbeats 4000000 in
theorem slices_IndexFunc_Kind_ok {s_ : (List Sapi_Kind)} {f_ : (Sapi_Kind → Option Bool)} {r : Int} (h : fslices_IndexFunc_Kind s_ f_ = some r) : FnOk Tryz.prog 47 [tsl rSapi_Kind s_,rF90.ty f_] [] (fun _ => []) (fun _ => ti r) := by
 unfold fslices_IndexFunc_Kind at h
 refine FnOk.enter Tryz.func47 rfl Tryz.ntmps47 (leb rfl) (fun M0 M w0 a hpl hst => ?_)
 replace hst : St M w0 19 [(0,tsl rSapi_Kind s_),(1,rF90.ty f_)] [] a w0 := hst
 refine sr mixed [] hst (fun _ => .o (op_assign .k) <| .n) fun n0 a w hst => ?_
 replace hst := hst.to [1,2] [_,_] [] rfl rfl
 refine wp_seq_k (fun K2 hK2 => ?_)
 refine sr mixed [] hst (fun _ => .q 0 rfl <| .o (op_len ud30 z0) <| .o (op_move .k) <| .n) fun n1 a w hst => ?_
 replace hst := hst.to [1,2,3,4] [_,_,_,_] [] rfl rfl
 obtain ⟨e5,he5,h⟩ := bind_some h
 have hJp22 : ∀ (p22 : Unit) a w,(.inl p22) = e5 → St M w0 19 [] [] a w → K2 a w := by
  intro p22 a w he hst
  subst he
  simp only at h
  refine hK2 _ _ ?_
  try clear hK2 K2
  refine sr mixed [] hst (fun _ => .o (op_assign .k) <| .n) fun n7 a w hst => ?_
  replace hst := hst.to [0] [_] [] rfl rfl
  refine wp_ret ?_
  obtain rfl := sj h
  exact ret_st undef [] hpl hst rfl (.tmp z0 .nil) rfl rfl rfl
 have hJp23 : ∀ (p23 : Int) a w,(.inr p23) = e5 → St M w0 19 [(4,ti p23)] [] a w → Ret Tryz.prog Tryz.f47 M0 [] w0 (fun _ => []) (fun _ => ti r) .ret a w := by
  intro p23 a w he hst
  subst he
  simp only at h
  obtain rfl := sj h
  exact ret_st undef [] hpl hst rfl (.tmp z0 .nil) rfl rfl rfl
 refine wp_block ?_
 refine wp_loopK _ (fun (s4 : Int) a w => St M w0 19 [(7,ti (s_.length : Int)),(8,ti s4),(0,tsl rSapi_Kind s_),(1,rF90.ty f_)] [] a w) _ _ he5 (hst.pick [0,1,2,3]) ?_
 clear h
 intro s4 o a w K25 hI h ho hK25
 have hst := hI
 clear hI
 refine sr mixed [] hst (fun _ => .o (op_lss z1 z0) <| .n) fun n2 a w hst => ?_
 replace hst := hst.to [0,1,2,3,4] [_,_,_,_,_] [] rfl rfl
 refine wp_seq_k (fun K27 hK27 => ?_)
 refine wt hst (fun b33 => ?_) (fun b33 => ?_)
 ·replace h := ite_t b33 h
  refine wp_skip ?_
  refine hK27 _ _ ?_
  try clear hK27 K27
  refine wp_seq_k (fun K28 hK28 => ?_)
  refine wp_block ?_
  refine sr mixed [] hst (fun _ => .q 2 rfl <| .o (op_assign z0) <| .n) fun n3 a w hst => ?_
  replace hst := hst.to [1,3,4,5,6] [_,_,_,_,_] [] rfl rfl
  obtain ⟨t14,ht14,h⟩ := bind_some h
  obtain ⟨t16,ht16,h⟩ := bind_some h
  refine sr mixed [] hst (fun _ => .q 4 rfl <| .q 4 rfl <| .q 2 rfl <| .o (op_index ud30 tok47 z1 z0 ht14) <| .o (op_load tok47 z0) <| .o (op_callT (u := t14) z4 (.cons (.of z0) <| .nil) ht16) <| .n) fun n4 a w hst => ?_
  replace hst := hst.to [5,6,7,8,9,10] [_,_,_,_,_,_] [] rfl rfl
  refine wt hst (fun b32 => ?_) (fun b32 => ?_)
  ·replace h := ite_t b32 h
   refine sr mixed [] hst (fun _ => .q 1 rfl <| .o (op_assign z0) <| .n) fun n5 a w hst => ?_
   replace hst := hst.to [1] [_] [] rfl rfl
   refine wp_ret ?_
   exact hJp23 _ _ _ (ho _ (sj h).symm) (hst.pick [0])
  ·replace h := ite_f b32 h
   refine wp_skip ?_
   refine hK28 _ _ ?_
   try clear hK28 K28
   refine wr mixed [] hst (fun _ => .o (op_add z3 .k) <| .q 0 rfl <| .n) fun n6 a w hst => ?_
   replace hst := hst.to [1,4,5,6] [_,_,_,_] [] rfl rfl
   exact hK25 _ _ _ (sj h).symm (hst.pick [1,0,2,3])
 ·replace h := ite_f b33 h
  refine wp_exit ?_
  exact hJp22 _ _ _ (ho _ (sj h).symm) (hst.pick [])

/- slices.ContainsFunc[[]diorama/api.Kind,diorama/api.Kind] -/
noncomputable def fslices_ContainsFunc_Kind (s_ : (List Sapi_Kind)) (f_ : (Sapi_Kind → Option Bool)) : Option (Bool) := (fslices_IndexFunc_Kind s_ f_).bind fun t7 => (some (decide (t7 ≥ (0:Int))))
set_option maxRecDepth 100000 in
set_option maxHeartbeats 4000000 in
theorem slices_ContainsFunc_Kind_ok {s_ : (List Sapi_Kind)} {f_ : (Sapi_Kind → Option Bool)} {r : Bool} (h : fslices_ContainsFunc_Kind s_ f_ = some r) : FnOk Tryz.prog 103 [tsl rSapi_Kind s_,rF90.ty f_] [] (fun _ => []) (fun _ => tb r) := by
 unfold fslices_ContainsFunc_Kind at h
 refine FnOk.enter Tryz.func103 rfl Tryz.ntmps103 (leb rfl) (fun M0 M w0 a hpl hst => ?_)
 replace hst : St M w0 9 [(0,tsl rSapi_Kind s_),(1,rF90.ty f_)] [] a w0 := hst
 refine sr mixed [] hst (fun _ => .o (op_assign .k) <| .n) fun n0 a w hst => ?_
 replace hst := hst.to [1,2] [_,_] [] rfl rfl
 obtain ⟨t7,ht7,h⟩ := bind_some h
 refine sr mixed [] hst (fun _ => .q 0 rfl <| .q 2 rfl <| .o (op_callF call47 (slices_IndexFunc_Kind_ok ht7) (.cons (.of z1) <| .cons (.of z0) <| .nil)) <| .o (op_geq z0 .k) <| .o (op_assign z0) <| .n) fun n1 a w hst => ?_
 replace hst := hst.to [4] [_] [] rfl rfl
 refine wp_ret ?_
 obtain rfl := sj h
 exact ret_st undef [] hpl hst rfl (.tmp z0 .nil) rfl rfl rfl

/- diorama/schema.all[diorama/api.Kind] -/
noncomputable def fschema_all_Kind (l_ : (List Sapi_Kind)) (right_ : (Sapi_Kind → Option Bool)) : Option (Bool) := (fslices_ContainsFunc_Kind l_ (fun x0 => fschema_all_Kindq1 x0 right_)).bind fun t7 => (some (!t7))
set_option maxRecDepth 100000 in
set_option maxHeartbeats 4000000 in
theorem schema_all_Kind_ok {l_ : (List Sapi_Kind)} {right_ : (Sapi_Kind → Option Bool)} {r : Bool} (h : fschema_all_Kind l_ right_ = some r) : FnOk Tryz.prog 74 [tsl rSapi_Kind l_,rF90.ty right_] [] (fun _ => []) (fun _ => tb r) := by
 unfold fschema_all_Kind at h
 refine FnOk.enter Tryz.func74 rfl Tryz.ntmps74 (leb rfl) (fun M0 M w0 a hpl hst => ?_)
 replace hst : St M w0 9 [(0,tsl rSapi_Kind l_),(1,rF90.ty right_)] [] a w0 := hst
 refine sr mixed [] hst (fun _ => .o (op_boxR (R := rF90) (u := right_) z1) <| .o (op_assign .k) <| .n) fun n0 a w hst => ?_
 replace hst := hst.to [0,2] [_,_] [] rfl rfl
 obtain ⟨t7,ht7,h⟩ := bind_some h
 refine sr mixed [] hst (fun _ => .q 1 rfl <| .o (op_clo (.cons z1 <| .nil)) <| .o (op_callF call103 (slices_ContainsFunc_Kind_ok ht7) (.cons (.of z1) <| .cons (.of (Fct.weak z0 (tfn_of call104 (fun _ _ hq => schema_all_Kindq1_ok hq)))) <| .nil)) <| .o (op_not z0) <| .o (op_assign z0) <| .n) fun n1 a w hst => ?_
 replace hst := hst.to [4] [_] [] rfl rfl
 refine wp_ret ?_
 obtain rfl := sj h
 exact ret_st undef [] hpl hst rfl (.tmp z0 .nil) rfl rfl rfl

/- diorama/schema.isLetter -/
noncomputable def fschema_isLetter (c_ : Int) : Option (Bool) := (some ((decide (c_ ≥ (97:Int))) && (decide (c_ ≤ (122:Int)))))
set_option maxRecDepth 100000 in
set_option maxHeartbeats 4000000 in
theorem schema_isLetter_ok {c_ : Int} {r : Bool} (h : fschema_isLetter c_ = some r) : FnOk Tryz.prog 134 [tv (.int .u8 c_)] [] (fun _ => []) (fun _ => tb r) := by
 unfold fschema_isLetter at h
 refine FnOk.enter Tryz.func134 rfl Tryz.ntmps134 (leb rfl) (fun M0 M w0 a hpl hst => ?_)
 replace hst : St M w0 9 [(0,tv (.int .u8 c_))] [] a w0 := hst
 refine sr mixed [] hst (fun _ => .o (op_assign .k) <| .n) fun n0 a w hst => ?_
 replace hst := hst.to [1] [_] [] rfl rfl
 refine sr mixed [] hst (fun _ => .q 0 rfl <| .o (op_geq z0 .k) <| .q 0 rfl <| .g rfl rfl (.b 0 rfl) (fun _ => op_move z3) <| .g rfl rfl (.b 1 rfl) (fun hc => op_leq (.cond z0 hc) .k) <| .o (op_and z2 (fun hp => (.cond z0 (beqT hp)))) <| .o (op_assign z0) <| .n) fun n1 a w hst => ?_
 replace hst := hst.to [6] [_] [] rfl rfl
 refine wp_ret ?_
 obtain rfl := sj h
 exact ret_st undef [] hpl hst rfl (.tmp z0 .nil) rfl rfl rfl

/- slices.IndexFunc[[]byte,byte] -/
noncomputable def fslices_IndexFunc_byte (s_ : (List Int)) (f_ : (Int → Option Bool)) : Option (Int) := (tailrec (fun (s4 : Int) => ((if (decide (s4 < (s_.length : Int))) = true then (idx s_ s4).bind fun t14 => (f_ t14).bind fun t16 => (if t16 = true then (some (.inr (.inr s4))) else (some (.inl (IntKind.i64.wrap (s4 + (1:Int)))))) else (some (.inr (.inl ())))) : Option ((Int) ⊕ ((Unit) ⊕ (Int))))) (0:Int)).bind fun (e5 : (Unit) ⊕ (Int)) => (match e5 with | .inl _ => (some (-1:Int)) | .inr p23 => (some p23))
set_option maxRecDepth 100000 in
set_option maxHeartbeats 4000000 in
theorem slices_IndexFunc_byte_ok {s_ : (List Int)} {f_ : (Int → Option Bool)} {r : Int} (h : fslices_IndexFunc_byte s_ f_ = some r) : FnOk Tryz.prog 160 [tsl (rInt .u8) s_,rF170.ty f_] [] (fun _ => []) (fun _ => ti r) := by
 unfold fslices_IndexFunc_byte at h
 refine FnOk.enter Tryz.func160 rfl Tryz.ntmps160 (leb rfl) (fun M0 M w0 a hpl hst => ?_)
 replace hst : St M w0 19 [(0,tsl (rInt .u8) s_),(1,rF170.ty f_)] [] a w0 := hst
 refine sr mixed [] hst (fun _ => .o (op_assign .k) <| .n) fun n0 a w hst => ?_
 replace hst := hst.to [1,2] [_,_] [] rfl rfl
 refine wp_seq_k (fun K2 hK2 => ?_)
 refine sr mixed [] hst (fun _ => .q 0 rfl <| .o (op_len Tryz.underlying149 z0) <| .o (op_move .k) <| .n) fun n1 a w hst => ?_
 replace hst := hst.to [1,2,3,4] [_,_,_,_] [] rfl rfl
 obtain ⟨e5,he5,h⟩ := bind_some h
 have hJp22 : ∀ (p22 : Unit) a w,(.inl p22) = e5 → St M w0 19 [] [] a w → K2 a w := by
  intro p22 a w he hst
  subst he
  simp only at h
  refine hK2 _ _ ?_
  try clear hK2 K2
  refine sr mixed [] hst (fun _ => .o (op_assign .k) <| .n) fun n7 a w hst => ?_
  replace hst := hst.to [0] [_] [] rfl rfl
  refine wp_ret ?_
  obtain rfl := sj h
  exact ret_st undef [] hpl hst rfl (.tmp z0 .nil) rfl rfl rfl
 have hJp23 : ∀ (p23 : Int) a w,(.inr p23) = e5 → St M w0 19 [(4,ti p23)] [] a w → Ret Tryz.prog Tryz.f160 M0 [] w0 (fun _ => []) (fun _ => ti r) .ret a w := by
  intro p23 a w he hst
  subst he
  simp only at h
  obtain rfl := sj h
  exact ret_st undef [] hpl hst rfl (.tmp z0 .nil) rfl rfl rfl
 refine wp_block ?_
 refine wp_loopK _ (fun (s4 : Int) a w => St M w0 19 [(7,ti (s_.length : Int)),(8,ti s4),(0,tsl (rInt .u8) s_),(1,rF170.ty f_)] [] a w) _ _ he5 (hst.pick [0,1,2,3]) ?_
 clear h
 intro s4 o a w K25 hI h ho hK25
 have hst := hI
 clear hI
 refine sr mixed [] hst (fun _ => .o (op_lss z1 z0) <| .n) fun n2 a w hst => ?_
 replace hst := hst.to [0,1,2,3,4] [_,_,_,_,_] [] rfl rfl
 refine wp_seq_k (fun K27 hK27 => ?_)
 refine wt hst (fun b33 => ?_) (fun b33 => ?_)
 ·replace h := ite_t b33 h
  refine wp_skip ?_
  refine hK27 _ _ ?_
  try clear hK27 K27
  refine wp_seq_k (fun K28 hK28 => ?_)
  refine wp_block ?_
  refine sr mixed [] hst (fun _ => .q 2 rfl <| .o (op_assign z0) <| .n) fun n3 a w hst => ?_
  replace hst := hst.to [1,3,4,5,6] [_,_,_,_,_] [] rfl rfl
  obtain ⟨t14,ht14,h⟩ := bind_some h
  obtain ⟨t16,ht16,h⟩ := bind_some h
  refine sr mixed [] hst (fun _ => .q 4 rfl <| .q 4 rfl <| .q 2 rfl <| .o (op_index Tryz.underlying149 tok5 z1 z0 ht14) <| .o (op_load tok5 z0) <| .o (op_callT (u := t14) z4 (.cons (.of z0) <| .nil) ht16) <| .n) fun n4 a w hst => ?_
  replace hst := hst.to [5,6,7,8,9,10] [_,_,_,_,_,_] [] rfl rfl
  refine wt hst (fun b32 => ?_) (fun b32 => ?_)
  ·replace h := ite_t b32 h
   refine sr mixed [] hst (fun _ => .q 1 rfl <| .o (op_assign z0) <| .n) fun n5 a w hst => ?_
   replace hst := hst.to [1] [_] [] rfl rfl
   refine wp_ret ?_
   exact hJp23 _ _ _ (ho _ (sj h).symm) (hst.pick [0])
  ·replace h := ite_f b32 h
   refine wp_skip ?_
   refine hK28 _ _ ?_
   try clear hK28 K28
   refine wr mixed [] hst (fun _ => .o (op_add z3 .k) <| .q 0 rfl <| .n) fun n6 a w hst => ?_
   replace hst := hst.to [1,4,5,6] [_,_,_,_] [] rfl rfl
   exact hK25 _ _ _ (sj h).symm (hst.pick [1,0,2,3])
 ·replace h := ite_f b33 h
  refine wp_exit ?_
  exact hJp22 _ _ _ (ho _ (sj h).symm) (hst.pick [])

/- slices.ContainsFunc[[]byte,byte] -/
noncomputable def fslices_ContainsFunc_byte (s_ : (List Int)) (f_ : (Int → Option Bool)) : Option (Bool) := (fslices_IndexFunc_byte s_ f_).bind fun t7 => (some (decide (t7 ≥ (0:Int))))
set_option maxRecDepth 100000 in
set_option maxHeartbeats 4000000 in
theorem slices_ContainsFunc_byte_ok {s_ : (List Int)} {f_ : (Int → Option Bool)} {r : Bool} (h : fslices_ContainsFunc_byte s_ f_ = some r) : FnOk Tryz.prog 135 [tsl (rInt .u8) s_,rF170.ty f_] [] (fun _ => []) (fun _ => tb r) := by
 unfold fslices_ContainsFunc_byte at h
 refine FnOk.enter Tryz.func135 rfl Tryz.ntmps135 (leb rfl) (fun M0 M w0 a hpl hst => ?_)
 replace hst : St M w0 9 [(0,tsl (rInt .u8) s_),(1,rF170.ty f_)] [] a w0 := hst
 refine sr mixed [] hst (fun _ => .o (op_assign .k) <| .n) fun n0 a w hst => ?_
 replace hst := hst.to [1,2] [_,_] [] rfl rfl
 obtain ⟨t7,ht7,h⟩ := bind_some h
 refine sr mixed [] hst (fun _ => .q 0 rfl <| .q 2 rfl <| .o (op_callF call160 (slices_IndexFunc_byte_ok ht7) (.cons (.of z1) <| .cons (.of z0) <| .nil)) <| .o (op_geq z0 .k) <| .o (op_assign z0) <| .n) fun n1 a w hst => ?_
 replace hst := hst.to [4] [_] [] rfl rfl
 refine wp_ret ?_
 obtain rfl := sj h
 exact ret_st undef [] hpl hst rfl (.tmp z0 .nil) rfl rfl rfl

/- diorama/schema.isDigit -/
noncomputable def fschema_isDigit (c_ : Int) : Option (Bool) := (some ((decide (c_ ≥ (48:Int))) && (decide (c_ ≤ (57:Int)))))
set_option maxRecDepth 100000 in
set_option maxHeartbeats 4000000 in
theorem schema_isDigit_ok {c_ : Int} {r : Bool} (h : fschema_isDigit c_ = some r) : FnOk Tryz.prog 137 [tv (.int .u8 c_)] [] (fun _ => []) (fun _ => tb r) := by
 unfold fschema_isDigit at h
 refine FnOk.enter Tryz.func137 rfl Tryz.ntmps137 (leb rfl) (fun M0 M w0 a hpl hst => ?_)
 replace hst : St M w0 9 [(0,tv (.int .u8 c_))] [] a w0 := hst
 refine sr mixed [] hst (fun _ => .o (op_assign .k) <| .n) fun n0 a w hst => ?_
 replace hst := hst.to [1] [_] [] rfl rfl
 refine sr mixed [] hst (fun _ => .q 0 rfl <| .o (op_geq z0 .k) <| .q 0 rfl <| .g rfl rfl (.b 0 rfl) (fun _ => op_move z3) <| .g rfl rfl (.b 1 rfl) (fun hc => op_leq (.cond z0 hc) .k) <| .o (op_and z2 (fun hp => (.cond z0 (beqT hp)))) <| .o (op_assign z0) <| .n) fun n1 a w hst => ?_
 replace hst := hst.to [6] [_] [] rfl rfl
 refine wp_ret ?_
 obtain rfl := sj h
 exact ret_st undef [] hpl hst rfl (.tmp z0 .nil) rfl rfl rfl

/- diorama/schema.isName$1 -/
noncomputable def fschema_isNameq1 (c_ : Int) : Option (Bool) := (fschema_isLetter c_).bind fun t4 => (opt ((!t4) == true) (fschema_isDigit c_) default).bind fun t8 => (some ((!t4) && (!t8)))
set_option maxRecDepth 100000 in
set_option maxHeartbeats 4000000 in
theorem schema_isNameq1_ok {c_ : Int} {r : Bool} (h : fschema_isNameq1 c_ = some r) : FnOk Tryz.prog 136 [tv (.int .u8 c_)] [] (fun _ => []) (fun _ => tb r) := by
 unfold fschema_isNameq1 at h
 refine FnOk.enter Tryz.func136 rfl Tryz.ntmps136 (leb rfl) (fun M0 M w0 a hpl hst => ?_)
 replace hst : St M w0 11 [(0,tv (.int .u8 c_))] [] a w0 := hst
 refine sr mixed [] hst (fun _ => .o (op_assign .k) <| .n) fun n0 a w hst => ?_
 replace hst := hst.to [1] [_] [] rfl rfl
 obtain ⟨t4,ht4,h⟩ := bind_some h
 obtain ⟨t8,ht8,h⟩ := bind_some h
 refine sr mixed [] hst (fun _ => .q 0 rfl <| .o (op_callF call134 (schema_isLetter_ok ht4) (.cons (.of z0) <| .nil)) <| .o (op_not z0) <| .q 0 rfl <| .g rfl rfl (.b 0 rfl) (fun _ => op_move z4) <| .g rfl rfl (.b 1 rfl) (fun hc => op_callF call137 (schema_isDigit_ok (opt_t ht8 hc)) (.cons (.of (.cond z0 hc)) <| .nil)) <| .g rfl rfl (.b 2 rfl) (fun hc => op_not (.cond z0 hc)) <| .o (op_and z3 (fun hp => (.cond z0 (beqT hp)))) <| .o (op_assign z0) <| .n) fun n1 a w hst => ?_
 replace hst := hst.to [8] [_] [] rfl rfl
 refine wp_ret ?_
 obtain rfl := sj h
 exact ret_st undef [] hpl hst rfl (.tmp z0 .nil) rfl rfl rfl

/- diorama/schema.isName -/
noncomputable def fschema_isName (s_ : Str) : Option (Bool) := (fschema_within (s_.length : Int) (1:Int) (12:Int)).bind fun t5 => (opt ((!t5) == false) (idx s_ (0:Int)) default).bind fun t9 => (opt ((!t5) == false) (fschema_isLetter ((t9).toNat : Int)) default).bind fun t10 => (if ((!t5) || (!t10)) = true then (some false) else (fslices_ContainsFunc_byte (bytesOf s_) (fun x0 => fschema_isNameq1 x0)).bind fun t15 => (some (!t15)))
set_option maxRecDepth 100000 in
set_option maxHeartbeats 4000000 in
theorem schema_isName_ok {s_ : Str} {r : Bool} (h : fschema_isName s_ = some r) : FnOk Tryz.prog 105 [tv (.string (sB s_))] [] (fun _ => []) (fun _ => tb r) := by
 unfold fschema_isName at h
 refine FnOk.enter Tryz.func105 rfl Tryz.ntmps105 (leb rfl) (fun M0 M w0 a hpl hst => ?_)
 replace hst : St M w0 17 [(0,tv (.string (sB s_)))] [] a w0 := hst
 refine sr mixed [] hst (fun _ => .o (op_assign .k) <| .n) fun n0 a w hst => ?_
 replace hst := hst.to [1] [_] [] rfl rfl
 refine wp_seq_k (fun K2 hK2 => ?_)
 obtain ⟨t5,ht5,h⟩ := bind_some h
 obtain ⟨t9,ht9,h⟩ := bind_some h
 obtain ⟨t10,ht10,h⟩ := bind_some h
 refine sr mixed [] hst (fun _ => .q 0 rfl <| .o (op_lenS' ud9 z0) <| .o (op_callF call73 (schema_within_ok ht5) (.cons (.of z0) <| .cons (.of .k) <| .cons (.of .k) <| .nil)) <| .o (op_not z0) <| .q 0 rfl <| .g rfl rfl (.b 0 rfl) (fun _ => op_move z5) <| .g rfl rfl (.b 1 rfl) (fun hc => op_idxS ud9 (.cond z0 hc) .k (opt_t ht9 hc)) <| .g rfl rfl (.b 2 rfl) (fun hc => op_callF call134 (schema_isLetter_ok (opt_t ht10 hc)) (.cons (.of (.cond z0 hc)) <| .nil)) <| .g rfl rfl (.b 3 rfl) (fun hc => op_not (.cond z0 hc)) <| .o (op_or z4 (fun hp => (.cond z0 (beqF hp)))) <| .n) fun n1 a w hst => ?_
 replace hst := hst.to [9,10] [_,_] [] rfl rfl
 refine wt hst (fun b6 => ?_) (fun b6 => ?_)
 ·replace h := ite_t b6 h
  refine sr mixed [] hst (fun _ => .o (op_assign .k) <| .n) fun n2 a w hst => ?_
  replace hst := hst.to [0] [_] [] rfl rfl
  refine wp_ret ?_
  obtain rfl := sj h
  exact ret_st undef [] hpl hst rfl (.tmp z0 .nil) rfl rfl rfl
 ·replace h := ite_f b6 h
  refine wp_skip ?_
  refine hK2 _ _ ?_
  try clear hK2 K2
  obtain ⟨t15,ht15,h⟩ := bind_some h
  refine sr mixed [] hst (fun _ => .q 1 rfl <| .o (op_s2b ud9 Tryz.underlying149 Tryz.underlying5 z0) <| .o (op_callF call135 (slices_ContainsFunc_byte_ok ht15) (.cons (.of z0) <| .cons (.of (Fct.weak .fnE (tfn_of call136 (fun _ _ hq => schema_isNameq1_ok hq)))) <| .nil)) <| .o (op_not z0) <| .o (op_assign z0) <| .n) fun n3 a w hst => ?_
  replace hst := hst.to [4] [_] [] rfl rfl
  refine wp_ret ?_
  obtain rfl := sj h
  exact ret_st undef [] hpl hst rfl (.tmp z0 .nil) rfl rfl rfl

/- diorama/schema.span -/
noncomputable def fschema_span (lo_ : Int) (hi_ : Int) (least_ : Int) (most_ : Int) : Option (Bool) := (some (((decide (lo_ ≥ least_)) && (decide (lo_ ≤ hi_))) && (decide (hi_ ≤ most_))))
set_option maxRecDepth 100000 in
set_option maxHeartbeats 4000000 in
theorem schema_span_ok {lo_ : Int} {hi_ : Int} {least_ : Int} {most_ : Int} {r : Bool} (h : fschema_span lo_ hi_ least_ most_ = some r) : FnOk Tryz.prog 106 [ti lo_,ti hi_,ti least_,ti most_] [] (fun _ => []) (fun _ => tb r) := by
 unfold fschema_span at h
 refine FnOk.enter Tryz.func106 rfl Tryz.ntmps106 (leb rfl) (fun M0 M w0 a hpl hst => ?_)
 replace hst : St M w0 22 [(0,ti lo_),(1,ti hi_),(2,ti least_),(3,ti most_)] [] a w0 := hst
 refine sr mixed [] hst (fun _ => .o (op_assign .k) <| .n) fun n0 a w hst => ?_
 replace hst := hst.to [1,2,3,4] [_,_,_,_] [] rfl rfl
 refine sr mixed [] hst (fun _ => .q 0 rfl <| .q 3 rfl <| .o (op_geq z1 z0) <| .q 0 rfl <| .g rfl rfl (.b 0 rfl) (fun _ => op_move z4) <| .g rfl rfl (.b 1 rfl) (fun _ => op_move z6) <| .g rfl rfl (.b 2 rfl) (fun hc => op_leq (.cond z1 hc) (.cond z0 hc)) <| .o (op_and z3 (fun hp => (.cond z0 (beqT hp)))) <| .q 0 rfl <| .g rfl rfl (.b 0 rfl) (fun _ => op_move z10) <| .g rfl rfl (.b 1 rfl) (fun _ => op_move z13) <| .g rfl rfl (.b 2 rfl) (fun hc => op_leq (.cond z1 hc) (.cond z0 hc)) <| .o (op_and z3 (fun hp => (.cond z0 (beqT hp)))) <| .o (op_assign z0) <| .n) fun n1 a w hst => ?_
 replace hst := hst.to [13] [_] [] rfl rfl
 refine wp_ret ?_
 obtain rfl := sj h
 exact ret_st undef [] hpl hst rfl (.tmp z0 .nil) rfl rfl rfl

/- diorama/schema.all[diorama/api.Field]$1 -/
noncomputable def fschema_all_Fieldq1 (x_ : Sapi_Field) (c0_ : (Sapi_Field → Option Bool)) : Option (Bool) := (c0_ x_).bind fun t6 => (some (!t6))
set_option maxRecDepth 100000 in
set_option maxHeartbeats 4000000 in
theorem schema_all_Fieldq1_ok {x_ : Sapi_Field} {c0_ : (Sapi_Field → Option Bool)} {r : Bool} (h : fschema_all_Fieldq1 x_ c0_ = some r) : FnOk Tryz.prog 139 [rSapi_Field.ty x_,tptr (rF92.cs c0_)] [] (fun _ => []) (fun _ => tb r) := by
 unfold fschema_all_Fieldq1 at h
 refine FnOk.enter Tryz.func139 rfl Tryz.ntmps139 (leb rfl) (fun M0 M w0 a hpl hst => ?_)
 replace hst : St M w0 8 [(0,rSapi_Field.ty x_),(1,tptr (rF92.cs c0_))] [] a w0 := hst
 refine sr mixed [] hst (fun _ => .o (op_boxR (R := rSapi_Field) (u := x_) z0) <| .o (op_assign .k) <| .n) fun n0 a w hst => ?_
 replace hst := hst.to [0,3] [_,_] [] rfl rfl
 obtain ⟨t6,ht6,h⟩ := bind_some h
 refine sr mixed [] hst (fun _ => .o (op_load tok92 z1) <| .o (op_load tok44 z1) <| .o (op_callT (u := x_) z1 (.cons (.of z0) <| .nil) ht6) <| .o (op_not z0) <| .o (op_assign z0) <| .n) fun n1 a w hst => ?_
 replace hst := hst.to [4] [_] [] rfl rfl
 refine wp_ret ?_
 obtain rfl := sj h
 exact ret_st undef [] hpl hst rfl (.tmp z0 .nil) rfl rfl rfl

/- slices.IndexFunc[[]diorama/api.Field,diorama/api.Field] -/
noncomputable def fslices_IndexFunc_Field (s_ : (List Sapi_Field)) (f_ : (Sapi_Field → Option Bool)) : Option (Int) := (tailrec (fun (s4 : Int) => ((if (decide (s4 < (s_.length : Int))) = true then (idx s_ s4).bind fun t14 => (f_ t14).bind fun t16 => (if t16 = true then (some (.inr (.inr s4))) else (some (.inl (IntKind.i64.wrap (s4 + (1:Int)))))) else (some (.inr (.inl ())))) : Option ((Int) ⊕ ((Unit) ⊕ (Int))))) (0:Int)).bind fun (e5 : (Unit) ⊕ (Int)) => (match e5 with | .inl _ => (some (-1:Int)) | .inr p23 => (some p23))
set_option maxRecDepth 100000 in
set_option maxHeartbeats 4000000 in
theorem slices_IndexFunc_Field_ok {s_ : (List Sapi_Field)} {f_ : (Sapi_Field → Option Bool)} {r : Int} (h : fslices_IndexFunc_Field s_ f_ = some r) : FnOk Tryz.prog 49 [tsl rSapi_Field s_,rF92.ty f_] [] (fun _ => []) (fun _ => ti r) := by
 unfold fslices_IndexFunc_Field at h
 refine FnOk.enter Tryz.func49 rfl Tryz.ntmps49 (leb rfl) (fun M0 M w0 a hpl hst => ?_)
 replace hst : St M w0 19 [(0,tsl rSapi_Field s_),(1,rF92.ty f_)] [] a w0 := hst
 refine sr mixed [] hst (fun _ => .o (op_assign .k) <| .n) fun n0 a w hst => ?_
 replace hst := hst.to [1,2] [_,_] [] rfl rfl
 refine wp_seq_k (fun K2 hK2 => ?_)
 refine sr mixed [] hst (fun _ => .q 0 rfl <| .o (op_len ud45 z0) <| .o (op_move .k) <| .n) fun n1 a w hst => ?_
 replace hst := hst.to [1,2,3,4] [_,_,_,_] [] rfl rfl
 obtain ⟨e5,he5,h⟩ := bind_some h
 have hJp22 : ∀ (p22 : Unit) a w,(.inl p22) = e5 → St M w0 19 [] [] a w → K2 a w := by
  intro p22 a w he hst
  subst he
  simp only at h
  refine hK2 _ _ ?_
  try clear hK2 K2
  refine sr mixed [] hst (fun _ => .o (op_assign .k) <| .n) fun n7 a w hst => ?_
  replace hst := hst.to [0] [_] [] rfl rfl
  refine wp_ret ?_
  obtain rfl := sj h
  exact ret_st undef [] hpl hst rfl (.tmp z0 .nil) rfl rfl rfl
 have hJp23 : ∀ (p23 : Int) a w,(.inr p23) = e5 → St M w0 19 [(4,ti p23)] [] a w → Ret Tryz.prog Tryz.f49 M0 [] w0 (fun _ => []) (fun _ => ti r) .ret a w := by
  intro p23 a w he hst
  subst he
  simp only at h
  obtain rfl := sj h
  exact ret_st undef [] hpl hst rfl (.tmp z0 .nil) rfl rfl rfl
 refine wp_block ?_
 refine wp_loopK _ (fun (s4 : Int) a w => St M w0 19 [(7,ti (s_.length : Int)),(8,ti s4),(0,tsl rSapi_Field s_),(1,rF92.ty f_)] [] a w) _ _ he5 (hst.pick [0,1,2,3]) ?_
 clear h
 intro s4 o a w K25 hI h ho hK25
 have hst := hI
 clear hI
 refine sr mixed [] hst (fun _ => .o (op_lss z1 z0) <| .n) fun n2 a w hst => ?_
 replace hst := hst.to [0,1,2,3,4] [_,_,_,_,_] [] rfl rfl
 refine wp_seq_k (fun K27 hK27 => ?_)
 refine wt hst (fun b33 => ?_) (fun b33 => ?_)
 ·replace h := ite_t b33 h
  refine wp_skip ?_
  refine hK27 _ _ ?_
  try clear hK27 K27
  refine wp_seq_k (fun K28 hK28 => ?_)
  refine wp_block ?_
  refine sr mixed [] hst (fun _ => .q 2 rfl <| .o (op_assign z0) <| .n) fun n3 a w hst => ?_
  replace hst := hst.to [1,3,4,5,6] [_,_,_,_,_] [] rfl rfl
  obtain ⟨t14,ht14,h⟩ := bind_some h
  obtain ⟨t16,ht16,h⟩ := bind_some h
  refine sr mixed [] hst (fun _ => .q 4 rfl <| .q 4 rfl <| .q 2 rfl <| .o (op_index ud45 tok44 z1 z0 ht14) <| .o (op_load tok44 z0) <| .o (op_callT (u := t14) z4 (.cons (.of z0) <| .nil) ht16) <| .n) fun n4 a w hst => ?_
  replace hst := hst.to [5,6,7,8,9,10] [_,_,_,_,_,_] [] rfl rfl
  refine wt hst (fun b32 => ?_) (fun b32 => ?_)
  ·replace h := ite_t b32 h
   refine sr mixed [] hst (fun _ => .q 1 rfl <| .o (op_assign z0) <| .n) fun n5 a w hst => ?_
   replace hst := hst.to [1] [_] [] rfl rfl
   refine wp_ret ?_
   exact hJp23 _ _ _ (ho _ (sj h).symm) (hst.pick [0])
  ·replace h := ite_f b32 h
   refine wp_skip ?_
   refine hK28 _ _ ?_
   try clear hK28 K28
   refine wr mixed [] hst (fun _ => .o (op_add z3 .k) <| .q 0 rfl <| .n) fun n6 a w hst => ?_
   replace hst := hst.to [1,4,5,6] [_,_,_,_] [] rfl rfl
   exact hK25 _ _ _ (sj h).symm (hst.pick [1,0,2,3])
 ·replace h := ite_f b33 h
  refine wp_exit ?_
  exact hJp22 _ _ _ (ho _ (sj h).symm) (hst.pick [])

end Go.Proofs.YthdfmpocknmleaaGreatDoor

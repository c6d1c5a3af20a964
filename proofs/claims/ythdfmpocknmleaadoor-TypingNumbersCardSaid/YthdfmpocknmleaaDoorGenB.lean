/- Go functions as Lean functions, and the proofs that they compute them, written by a program. No condition. -/
import Derived.Test.YthdfmpocknmleaaDoorGenA
namespace Go.Proofs.YthdfmpocknmleaaDoor
open Go.Sim

/- diorama/dioramaref09.Schema -/
noncomputable def fref09_Schema (l_ : (List Int)) : Option (Sapi_Schema) := (sub l_ (0:Int) (imin (l_.length : Int) (200:Int))).bind fun t17 => (fref09_Maker_Take (Sref09_Maker.mk t17 (0:Int)) (4:Int)).bind fun t21 => (fref09_Maker_Take t21.2 (3:Int)).bind fun t24 => (tailrec (fun (s13 : Int × List Sapi_Kind × Sref09_Maker) => ((if (decide (s13.1 < (IntKind.i64.wrap ((1:Int) + t24.1)))) = true then (fref09_Maker_kind s13.2.2 s13.2.1).bind fun t36 => (rm (t36.2.2.length + [t36.1].length)).bind fun _ => (some (.inl ((IntKind.i64.wrap (s13.1 + (1:Int))),(t36.2.2 ++ [t36.1]),t36.2.1))) else (some (.inr (s13.2.1,s13.2.2)))) : Option ((Int × List Sapi_Kind × Sref09_Maker) ⊕ ((List Sapi_Kind × Sref09_Maker))))) ((0:Int),([] : List Sapi_Kind),t24.2)).bind fun (p24 : (List Sapi_Kind × Sref09_Maker)) => (fref09_Maker_Take p24.2 (3:Int)).bind fun t42 => (sub [([110,101,119] : Str),([111,112,101,110] : Str),([100,111,110,101] : Str),([115,104,117,116] : Str)] (0:Int) (IntKind.i64.wrap ((2:Int) + t42.1))).bind fun t44 => (tailrec (fun (s32 : Int × List A2_Int) => ((if (decide ((IntKind.i64.wrap (s32.1 + (1:Int))) < (t44.length : Int))) = true then (rm (s32.2.length + [(A2_Int.mk s32.1 (IntKind.i64.wrap (s32.1 + (1:Int))))].length)).bind fun _ => (some (.inl ((IntKind.i64.wrap (s32.1 + (1:Int))),(s32.2 ++ [(A2_Int.mk s32.1 (IntKind.i64.wrap (s32.1 + (1:Int))))])))) else (some (.inr s32.2))) : Option ((Int × List A2_Int) ⊕ ((List A2_Int))))) ((0:Int),([] : List A2_Int))).bind fun (p43 : (List A2_Int)) => (fref09_Maker_Take t42.2 (2:Int)).bind fun t64 => ((if (t64.1 == (0:Int)) = true then (rm (p43.length + [(A2_Int.mk (1:Int) (0:Int))].length)).bind fun _ => (some (p43 ++ [(A2_Int.mk (1:Int) (0:Int))])) else (some p43))).bind fun (p47 : List A2_Int) => (fref09_Maker_Take t64.2 (3:Int)).bind fun t73 => ((if (t73.1 == (0:Int)) = true then (rm (p47.length + [(A2_Int.mk (0:Int) (IntKind.i64.wrap ((t44.length : Int) - (1:Int))))].length)).bind fun _ => (some (p47 ++ [(A2_Int.mk (0:Int) (IntKind.i64.wrap ((t44.length : Int) - (1:Int))))])) else (some p47))).bind fun (p52 : List A2_Int) => (rm (([] : List Sapi_Life).length + [(Sapi_Life.mk ([108,105,102,101] : Str) t44 p52)].length)).bind fun _ => (tailrec (fun (s58 : Int × List Sapi_Rule × Sref09_Maker) => ((if ((decide (s58.1 < (IntKind.i64.wrap ((1:Int) + t24.1)))) && (decide ((s58.2.1.length : Int) < (2:Int)))) = true then (idx p24.1 s58.1).bind fun t106 => (fref09_Maker_rule s58.2.2 t106).bind fun t108 => ((if t108.2.1 = true then (rm (s58.2.1.length + [t108.1].length)).bind fun _ => (some (s58.2.1 ++ [t108.1])) else (some s58.2.1))).bind fun (p93 : List Sapi_Rule) => (some (.inl ((IntKind.i64.wrap (s58.1 + (1:Int))),p93,t108.2.2))) else (some (.inr s58.2.1))) : Option ((Int × List Sapi_Rule × Sref09_Maker) ⊕ ((List Sapi_Rule))))) ((0:Int),([] : List Sapi_Rule),t73.2)).bind fun (p83 : (List Sapi_Rule)) => (some (Sapi_Schema.mk t21.1 p24.1 (([] : List Sapi_Life) ++ [(Sapi_Life.mk ([108,105,102,101] : Str) t44 p52)]) p83))
set_option maxRecDepth 100000 in
set_option maxHeartbeats 4000000 in
theorem ref09_Schema_ok {l_ : (List Int)} {r : Sapi_Schema} (h : fref09_Schema l_ = some r) : FnOk Tryd.prog 14 [tsl rI l_] [] (fun _ => []) (fun _ => rSapi_Schema.ty r) := by
 unfold fref09_Schema at h
 refine FnOk.enter Tryd.func14 rfl Tryd.ntmps14 (leb rfl) (fun M0 M w0 a hpl hst => ?_)
 replace hst : St M w0 119 [(0,tsl rI l_)] [] a w0 := hst
 refine sr mixed [v1 0 (fun v0 => box (rSapi_Schema.cs zz4) v0)] hst (fun _ => .m [] [0] rfl rfl rfl (op_alloc (R := rSapi_Schema) (a := zz4) tok29 zok29) <| .n) fun n0 a w hst => ?_
 replace hst := hst.to [0,1] [_,_] [_] rfl rfl
 obtain ⟨t17,ht17,h⟩ := bind_some h
 refine sr mixed [v1 6 (fun v0 => box (rSref09_Maker.cs (Sref09_Maker.mk t17 (0:Int))) v0)] hst (fun _ => .q 1 rfl <| .q 2 rfl <| .o (op_len ud22 z0) <| .o (op_min z0 .k) <| .o (op_slice ud22 tok3 z3 (.no _) (.op z0) ht17) <| .p (T := rSref09_Maker.ty (Sref09_Maker.mk t17 (0:Int))) rfl (op_build Tryd.underlying80 pl80 zv80 zc80 (.cons (R := (rSl rI)) (u := t17) rfl z0 (leb rfl) <| .nil _)) <| .m [] [1] rfl rfl rfl (op_box (R := rSref09_Maker) (u := (Sref09_Maker.mk t17 (0:Int))) z0) <| .ud (f := fun v => tv v) 6 rfl [] rfl rfl (op_assign z0) <| .n) fun n1 a w hst => ?_
 replace hst := hst.to [7,8] [_,_] [_,_] rfl rfl
 obtain ⟨t21,ht21,h⟩ := bind_some h
 refine sr mixed [v0 (box (rSref09_Maker.cs t21.2) (n1 6)),v1 3 (fun v0 => box (rSapi_Schema.cs zz4) v0),v1 3 (fun v0 => box ([ti t21.1,tvs nilV,tvs nilV,tvs nilV]) v0)] hst (fun _ => .q 0 rfl <| .e [] [1] [2] rfl rfl rfl rfl (op_callF call33 (ref09_Maker_Take_ok ht21) (.cons (.of z0) <| .cons (.of .k) <| .nil)) <| .p (T := tagg ([ti t21.1,tvs nilV,tvs nilV,tvs nilV])) rfl (op_build ud29 pl29 zv29 (zagg29_1_2_3).1 (.cons (R := rI) (u := t21.1) rfl z0 (leb rfl) <| .nil _)) <| .m [] [3] rfl rfl rfl (op_alloc (R := rSapi_Schema) (a := zz4) tok29 zok29) <| .e [] [3] [4] rfl rfl rfl rfl (op_storeB (R := (rAgg ([ti t21.1,tvs nilV,tvs nilV,tvs nilV]) (one_cons (one_tv rfl) (one_cons one_tvs (one_cons one_tvs (one_cons one_tvs one_nil)))))) (a := ()) (tokA tok29 (one_cons (one_tv rfl) (one_cons one_tvs (one_cons one_tvs (one_cons one_tvs one_nil)))) rfl rfl) z0 z1 (leb rfl)) <| .n) fun n2 a w hst => ?_
 replace hst : St _ _ _ [_,_,_] [_,_,_,_,_,_] _ _ := (((hst.pick [3,4,5]).nil (rSapi_Kind) 32).nil (rSapi_Life) 39).nil (rSapi_Rule) 41
 obtain ⟨t24,ht24,h⟩ := bind_some h
 refine sr mixed [v0 (box (rSref09_Maker.cs t24.2) (n1 6))] hst (fun _ => .q 1 rfl <| .e [] [4] [6] rfl rfl rfl rfl (op_callF call33 (ref09_Maker_Take_ok ht24) (.cons (.of z0) <| .cons (.of .k) <| .nil)) <| .o (op_add .k z0) <| .o (op_assign z0) <| .n) fun n3 a w hst => ?_
 replace hst := hst.to [3,4,5,6] [_,_,_,_] [_,_,_,_,_,_] rfl rfl
 refine wp_seq_k (fun K11 hK11 => ?_)
 refine sr mixed [] hst (fun _ => .o (op_assign .k) <| .n) fun n4 a w hst => ?_
 replace hst := hst.to [0,1,2,3,4] [_,_,_,_,_] [_,_,_,_,_,_] rfl rfl
 obtain ⟨e14,he14,h⟩ := bind_some h
 have hJp24 : ∀ (p24 : List Sapi_Kind × Sref09_Maker) (v25 : Value) a w,p24 = e14 → St M w0 119 [(5,ti (IntKind.i64.wrap ((1:Int) + t24.1))),(4,tv (n2 3)),(3,tv (n1 6)),(2,tv (n0 0))] [own rSapi_Rule 41 ([] : List Sapi_Rule) nilV,own rSapi_Life 39 ([] : List Sapi_Life) nilV,own rSapi_Kind 32 p24.1 v25,box (rSapi_Schema.cs zz4) (n0 0),box ([ti t21.1,tvs v25,tvs nilV,tvs nilV]) (n2 3),box (rSref09_Maker.cs p24.2) (n1 6)] a w → K11 a w := by
  intro p24 v25 a w he hst
  subst he
  refine hK11 _ _ ?_
  try clear hK11 K11
  obtain ⟨t42,ht42,h⟩ := bind_some h
  obtain ⟨t44,ht44,h⟩ := bind_some h
  refine sr mixed [v0 (box (rSref09_Maker.cs t42.2) (n1 6))] hst (fun _ => .o (op_buildSl (R := rS) (us := [([110,101,119] : Str),([111,112,101,110] : Str),([100,111,110,101] : Str),([115,104,117,116] : Str)]) ud34 tok9 (.cons .k <| .cons .k <| .cons .k <| .cons .k <| .nil _) rfl (leb rfl)) <| .q 3 rfl <| .e [] [5] [6] rfl rfl rfl rfl (op_callF call33 (ref09_Maker_Take_ok ht42) (.cons (.of z0) <| .cons (.of .k) <| .nil)) <| .o (op_add .k z0) <| .o (op_slice ud34 tok9 z3 (.no _) (.op z0) ht44) <| .o (op_assign z0) <| .n) fun n8 a w hst => ?_
  replace hst := hst.to [5,6,7,8,9] [_,_,_,_,_] [_,_,_,_,_,_] rfl rfl
  refine sr mixed [v1 2 (fun v0 => box (rSapi_Life.cs zz2) v0),v1 2 (fun v0 => box ([tv (.string (sB ([108,105,102,101] : Str))),tsl rS t44,tvs nilV]) v0)] hst (fun _ => .q 0 rfl <| .p (T := tagg ([tv (.string (sB ([108,105,102,101] : Str))),tsl rS t44,tvs nilV])) rfl (op_build Tryd.underlying39 pl39 zv39 (zagg39_2).1 (.cons (R := rS) (u := ([108,105,102,101] : Str)) rfl .k (leb rfl) <| .cons (R := (rSl rS)) (u := t44) rfl z0 (leb rfl) <| .nil _)) <| .m [] [6] rfl rfl rfl (op_alloc (R := rSapi_Life) (a := zz2) tok39 zok39) <| .e [] [6] [7] rfl rfl rfl rfl (op_storeB (R := (rAgg ([tv (.string (sB ([108,105,102,101] : Str))),tsl rS t44,tvs nilV]) (one_cons (one_tv rfl) (one_cons one_tsl (one_cons one_tvs one_nil))))) (a := ()) (tokA tok39 (one_cons (one_tv rfl) (one_cons one_tsl (one_cons one_tvs one_nil))) rfl rfl) z0 z1 (leb rfl)) <| .n) fun n9 a w hst => ?_
  replace hst : St _ _ _ [_,_,_,_,_,_] [_,_,_,_,_,_,_,_] _ _ := (hst.pick [2,3,4,5,6,7]).nil (rA2_Int) 83
  refine wp_seq_k (fun K30 hK30 => ?_)
  refine sr mixed [] hst (fun _ => .o (op_assign .k) <| .n) fun n10 a w hst => ?_
  replace hst := hst.to [0,1,2,3,4,5,6] [_,_,_,_,_,_,_] [_,_,_,_,_,_,_,_] rfl rfl
  obtain ⟨e33,he33,h⟩ := bind_some h
  have hJp43 : ∀ (p43 : List A2_Int) (v44 : Value) a w,p43 = e33 → St M w0 119 [(8,tv (n9 2)),(7,tsl rS t44),(5,ti (IntKind.i64.wrap ((1:Int) + t24.1))),(4,tv (n2 3)),(3,tv (n1 6)),(2,tv (n0 0))] [own rA2_Int 83 p43 v44,own rSapi_Rule 41 ([] : List Sapi_Rule) nilV,own rSapi_Life 39 ([] : List Sapi_Life) nilV,own rSapi_Kind 32 p24.1 v25,box (rSapi_Schema.cs zz4) (n0 0),box ([ti t21.1,tvs v25,tvs nilV,tvs nilV]) (n2 3),box (rSref09_Maker.cs t42.2) (n1 6),box ([tv (.string (sB ([108,105,102,101] : Str))),tsl rS t44,tvs v44]) (n9 2)] a w → K30 a w := by
   intro p43 v44 a w he hst
   subst he
   refine hK30 _ _ ?_
   try clear hK30 K30
   refine wp_seq_k (fun K45 hK45 => ?_)
   obtain ⟨t64,ht64,h⟩ := bind_some h
   refine sr mixed [v0 (box (rSref09_Maker.cs t64.2) (n1 6))] hst (fun _ => .q 4 rfl <| .e [] [6] [8] rfl rfl rfl rfl (op_callF call33 (ref09_Maker_Take_ok ht64) (.cons (.of z0) <| .cons (.of .k) <| .nil)) <| .o (op_eql z0 .k) <| .n) fun n14 a w hst => ?_
   replace hst := hst.to [2,3,4,5,6,7,8] [_,_,_,_,_,_,_] [_,_,_,_,_,_,_,_] rfl rfl
   obtain ⟨p47,hp47,h⟩ := bind_some h
   have hJp47 : ∀ (v49 : Value) a w,St M w0 119 [(8,tv (n9 2)),(7,tsl rS t44),(5,ti (IntKind.i64.wrap ((1:Int) + t24.1))),(4,tv (n2 3)),(3,tv (n1 6)),(2,tv (n0 0))] [own rSapi_Rule 41 ([] : List Sapi_Rule) nilV,own rSapi_Life 39 ([] : List Sapi_Life) nilV,own rSapi_Kind 32 p24.1 v25,box (rSapi_Schema.cs zz4) (n0 0),box ([ti t21.1,tvs v25,tvs nilV,tvs nilV]) (n2 3),box (rSref09_Maker.cs t64.2) (n1 6),own rA2_Int 83 p47 v49,box ([tv (.string (sB ([108,105,102,101] : Str))),tsl rS t44,tvs v49]) (n9 2)] a w → K45 a w := by
    intro v49 a w hst
    refine hK45 _ _ ?_
    try clear hK45 K45
    refine wp_seq_k (fun K50 hK50 => ?_)
    obtain ⟨t73,ht73,h⟩ := bind_some h
    refine sr mixed [v0 (box (rSref09_Maker.cs t73.2) (n1 6))] hst (fun _ => .q 4 rfl <| .e [] [5] [8] rfl rfl rfl rfl (op_callF call33 (ref09_Maker_Take_ok ht73) (.cons (.of z0) <| .cons (.of .k) <| .nil)) <| .o (op_eql z0 .k) <| .n) fun n16 a w hst => ?_
    replace hst := hst.to [2,3,4,5,6,7,8] [_,_,_,_,_,_,_] [_,_,_,_,_,_,_,_] rfl rfl
    obtain ⟨p52,hp52,h⟩ := bind_some h
    have hJp52 : ∀ (v54 : Value) a w,St M w0 119 [(8,tv (n9 2)),(5,ti (IntKind.i64.wrap ((1:Int) + t24.1))),(4,tv (n2 3)),(3,tv (n1 6)),(2,tv (n0 0))] [own rSapi_Rule 41 ([] : List Sapi_Rule) nilV,own rSapi_Life 39 ([] : List Sapi_Life) nilV,own rSapi_Kind 32 p24.1 v25,box (rSapi_Schema.cs zz4) (n0 0),box ([ti t21.1,tvs v25,tvs nilV,tvs nilV]) (n2 3),box (rSref09_Maker.cs t73.2) (n1 6),own rA2_Int 83 p52 v54,box ([tv (.string (sB ([108,105,102,101] : Str))),tsl rS t44,tvs v54]) (n9 2)] a w → K50 a w := by
     intro v54 a w hst
     refine hK50 _ _ ?_
     try clear hK50 K50
     refine wp_seq_k (fun K55 hK55 => ?_)
     replace hst : St _ _ _ [_,_,_,_,_] [_,_,_,_,_,_,_] _ _ := ((hst.pick [0,1,2,3,4]).selA [6,7,0,1,2,3,4,5] rfl).shareC 2 rfl
     obtain ⟨u88,hu88,h⟩ := bind_some h
     refine wr mixed [v1 4 (fun v0 => own rSapi_Life 39 (([] : List Sapi_Life) ++ [(Sapi_Life.mk ([108,105,102,101] : Str) t44 p52)]) v0),v1 4 (fun v0 => box ([ti t21.1,tvs v25,tvs v0,tvs nilV]) (n2 3))] hst (fun _ => .u [5] rfl rfl (op_fieldB fld29_2 z2) <| .u [5] rfl rfl (op_loadBVf (u := nilV) tokV26 z0 rfl) <| .u [0] rfl rfl (op_loadB (R := rSapi_Life) (u := (Sapi_Life.mk ([108,105,102,101] : Str) t44 p52)) tok39 z2 rfl) <| .o (op_buildSl (R := rSapi_Life) (us := [(Sapi_Life.mk ([108,105,102,101] : Str) t44 p52)]) ud26 tok39 (.cons z0 <| .nil _) rfl (leb rfl)) <| .e [] [2] [7] rfl rfl rfl rfl (op_append (R := rSapi_Life) ud26 tok39 (leb rfl) z2 z0 hu88) <| .u [5] rfl rfl (op_fieldB fld29_2 z7) <| .e [7] [5] [8] rfl rfl rfl rfl (op_storeBVf (R := rSapi_Life) (e := 39) (Ts := ([ti t21.1,tvs v25,tvs nilV,tvs nilV])) (off := 2) tokV26 z0 z1 (leb rfl)) <| .n) fun n18 a w hst => ?_
     replace hst : St _ _ _ [_,_,_,_,_] [_,_,_,_,_,_] _ _ := (hst.pick [4,7,8,9,10]).selA [1,2,3,4,5,6] rfl
     refine hK55 _ _ ?_
     try clear hK55 K55
     refine wp_seq_k (fun K56 hK56 => ?_)
     refine sr mixed [] hst (fun _ => .o (op_assign .k) <| .n) fun n19 a w hst => ?_
     replace hst := hst.to [0,1,2,3,4,5] [_,_,_,_,_,_] [_,_,_,_,_,_] rfl rfl
     obtain ⟨e59,he59,h⟩ := bind_some h
     have hJp83 : ∀ (p83 : List Sapi_Rule) (v84 : Value) a w,p83 = e59 → St M w0 119 [(4,tv (n2 3)),(2,tv (n0 0))] [own rSapi_Rule 41 p83 v84,own rSapi_Kind 32 p24.1 v25,box (rSapi_Schema.cs zz4) (n0 0),own rSapi_Life 39 (([] : List Sapi_Life) ++ [(Sapi_Life.mk ([108,105,102,101] : Str) t44 p52)]) (n18 4),box ([ti t21.1,tvs v25,tvs (n18 4),tvs v84]) (n2 3)] a w → K56 a w := by
      intro p83 v84 a w he hst
      subst he
      refine hK56 _ _ ?_
      try clear hK56 K56
      refine wp_seq_k (fun K85 hK85 => ?_)
      replace hst : St _ _ _ [_,_] [_,_,_,_] _ _ := ((hst.pick [0,1]).selA [1,4,0,2,3] rfl).shareC 1 rfl
      replace hst : St _ _ _ [_,_] [_,_,_] _ _ := ((hst.pick [0,1]).selA [3,0,1,2] rfl).shareC 2 rfl
      replace hst : St _ _ _ [_,_] [_,_] _ _ := ((hst.pick [0,1]).selA [1,0,2] rfl).shareC 3 rfl
      refine wr mixed [v0 (box (rSapi_Schema.cs (Sapi_Schema.mk t21.1 p24.1 (([] : List Sapi_Life) ++ [(Sapi_Life.mk ([108,105,102,101] : Str) t44 p52)]) p83)) (n0 0))] hst (fun _ => .u [0] rfl rfl (op_loadB (R := rSapi_Schema) (u := (Sapi_Schema.mk t21.1 p24.1 (([] : List Sapi_Life) ++ [(Sapi_Life.mk ([108,105,102,101] : Str) t44 p52)]) p83)) tok29 z0 rfl) <| .e [] [1] [2] rfl rfl rfl rfl (op_storeB (R := rSapi_Schema) (a := (Sapi_Schema.mk t21.1 p24.1 (([] : List Sapi_Life) ++ [(Sapi_Life.mk ([108,105,102,101] : Str) t44 p52)]) p83)) tok29 z2 z0 (leb rfl)) <| .n) fun n25 a w hst => ?_
      replace hst : St _ _ _ [_] [_] _ _ := (hst.pick [2]).selA [1] rfl
      refine hK85 _ _ ?_
      try clear hK85 K85
      refine wp_ret ?_
      obtain rfl := sj h
      exact ret_st undef [] hpl hst rfl (.cell (R := rSapi_Schema) (u := (Sapi_Schema.mk t21.1 p24.1 (([] : List Sapi_Life) ++ [(Sapi_Life.mk ([108,105,102,101] : Str) t44 p52)]) p83)) tok29 z0 0 rfl rfl .nil) rfl rfl rfl
     refine wp_block ?_
     refine wp_loopK _ (fun (s58 : Int × List Sapi_Rule × Sref09_Maker) a w => ∃ v71 : Value,St M w0 119 [(10,ti s58.1),(5,ti (IntKind.i64.wrap ((1:Int) + t24.1))),(4,tv (n2 3)),(3,tv (n1 6)),(2,tv (n0 0))] [own rSapi_Rule 41 s58.2.1 v71,own rSapi_Kind 32 p24.1 v25,box (rSapi_Schema.cs zz4) (n0 0),box (rSref09_Maker.cs s58.2.2) (n1 6),own rSapi_Life 39 (([] : List Sapi_Life) ++ [(Sapi_Life.mk ([108,105,102,101] : Str) t44 p52)]) (n18 4),box ([ti t21.1,tvs v25,tvs (n18 4),tvs v71]) (n2 3)] a w) _ _ he59 ⟨nilV,hst.pick [0,2,3,4,5]⟩ ?_
     clear h
     intro s58 o a w K86 hI h ho hK86
     obtain ⟨v71,hst⟩ := hI
     refine wp_seq_k (fun K87 hK87 => ?_)
     refine sr mixed [] hst (fun _ => .q 0 rfl <| .q 2 rfl <| .o (op_lss z1 z0) <| .q 0 rfl <| .gu [5] rfl rfl rfl (.b 0 rfl) (fun _ => op_fieldB fld29_3 z6) <| .gu [5] rfl rfl rfl (.b 1 rfl) (fun hc => op_loadBVf (u := v71) tokV27 (.cond z0 hc) rfl) <| .gu [0] rfl rfl rfl (.b 2 rfl) (fun hc => op_lenO ud27 (.cond z0 hc)) <| .g rfl rfl (.b 3 rfl) (fun hc => op_lss (.cond z0 hc) .k) <| .o (op_and z4 (fun hp => (.cond z0 (beqT hp)))) <| .n) fun n20 a w hst => ?_
     replace hst := hst.to [8,9,10,11,12,13] [_,_,_,_,_,_] [_,_,_,_,_,_] rfl rfl
     refine wt hst (fun b97 => ?_) (fun b97 => ?_)
     ·replace h := ite_t b97 h
      refine wp_skip ?_
      refine hK87 _ _ ?_
      try clear hK87 K87
      refine wp_seq_k (fun K89 hK89 => ?_)
      refine wp_block ?_
      obtain ⟨t106,ht106,h⟩ := bind_some h
      obtain ⟨t108,ht108,h⟩ := bind_some h
      refine sr mixed [v0 (box (rSref09_Maker.cs t108.2.2) (n1 6)),v1 10 (fun v0 => box (rSapi_Rule.cs zz3) v0),v1 10 (fun v0 => box (rSapi_Rule.cs t108.1) v0)] hst (fun _ => .q 4 rfl <| .u [5] rfl rfl (op_fieldB fld29_1 z4) <| .u [5] rfl rfl (op_loadBVf (u := v25) tokV25 z0 rfl) <| .q 4 rfl <| .u [1] rfl rfl (op_indexOi ud25 tok32 z1 z0 ht106) <| .u [1] rfl rfl (op_loadO tok32 z0 ht106) <| .e [] [3] [6] rfl rfl rfl rfl (op_callF call35 (ref09_Maker_rule_ok ht108) (.cons (.of z5) <| .cons (.of z0) <| .nil)) <| .q 0 rfl <| .o (op_extract z0 rfl) <| .o (op_extract z1 rfl) <| .m [] [7] rfl rfl rfl (op_alloc (R := rSapi_Rule) (a := zz3) tok41 zok41) <| .e [] [7] [8] rfl rfl rfl rfl (op_storeB (R := rSapi_Rule) (a := t108.1) tok41 z0 z2 (leb rfl)) <| .o (op_assign z1) <| .n) fun n22 a w hst => ?_
      replace hst : St _ _ _ [_,_,_,_,_,_,_,_] [_,_,_,_,_,_] _ _ := ((((hst.pick [2,10,11,13,14,15,16,17]).selA [6,0,1,2,3,4,5] rfl).shareB 1 rfl).add 0 rfl (fun _ _ _ h => h.2)).pick [0,2,4,5,6,7,8,9]
      refine sr mixed [] hst (fun _ => .q 2 rfl <| .n) fun n23 a w hst => ?_
      replace hst := hst.to [0,1,2,4,5,6,7,8] [_,_,_,_,_,_,_,_] [_,_,_,_,_,_] rfl rfl
      obtain ⟨p93,hp93,h⟩ := bind_some h
      have hJp93 : ∀ (v95 : Value) a w,St M w0 119 [(10,ti s58.1),(5,ti (IntKind.i64.wrap ((1:Int) + t24.1))),(4,tv (n2 3)),(3,tv (n1 6)),(2,tv (n0 0))] [own rSapi_Kind 32 p24.1 v25,box (rSapi_Schema.cs zz4) (n0 0),own rSapi_Life 39 (([] : List Sapi_Life) ++ [(Sapi_Life.mk ([108,105,102,101] : Str) t44 p52)]) (n18 4),box (rSref09_Maker.cs t108.2.2) (n1 6),own rSapi_Rule 41 p93 v95,box ([ti t21.1,tvs v25,tvs (n18 4),tvs v95]) (n2 3)] a w → K89 a w := by
       intro v95 a w hst
       refine hK89 _ _ ?_
       try clear hK89 K89
       refine wr mixed [] hst (fun _ => .q 0 rfl <| .o (op_add z0 .k) <| .o (op_assign z0) <| .n) fun n21 a w hst => ?_
       replace hst := hst.to [2,3,4,5,6] [_,_,_,_,_] [_,_,_,_,_,_] rfl rfl
       exact hK86 _ _ _ (sj h).symm ⟨v95,(hst.pick [0,1,2,3,4]).selA [4,0,1,3,2,5] rfl⟩
      replace h := hp93
      clear hp93
      refine wt hst (fun b96 => ?_) (fun b96 => ?_)
      ·replace h := ite_t b96 h
       obtain ⟨u116,hu116,h⟩ := bind_some h
       refine wr mixed [v1 4 (fun v0 => own rSapi_Rule 41 (s58.2.1 ++ [t108.1]) v0),v1 4 (fun v0 => box ([ti t21.1,tvs v25,tvs (n18 4),tvs v0]) (n2 3))] hst (fun _ => .u [4] rfl rfl (op_fieldB fld29_3 z5) <| .u [4] rfl rfl (op_loadBVf (u := v71) tokV27 z0 rfl) <| .o (op_load tok41 z3) <| .o (op_buildSl (R := rSapi_Rule) (us := [t108.1]) ud27 tok41 (.cons z0 <| .nil _) rfl (leb rfl)) <| .e [] [0] [6] rfl rfl rfl rfl (op_append (R := rSapi_Rule) ud27 tok41 (leb rfl) z2 z0 hu116) <| .u [4] rfl rfl (op_fieldB fld29_3 z10) <| .e [6] [4] [7] rfl rfl rfl rfl (op_storeBVf (R := rSapi_Rule) (e := 41) (Ts := ([ti t21.1,tvs v25,tvs (n18 4),tvs v71])) (off := 3) tokV27 z0 z1 (leb rfl)) <| .n) fun n24 a w hst => ?_
       replace hst := hst.to [4,8,9,10,11,12,13] [_,_,_,_,_,_,_] [_,_,_,_,_,_] rfl rfl
       obtain rfl := sj h
       exact hJp93 (n24 4) _ _ (hst.pick [2,3,4,5,6])
      ·replace h := ite_f b96 h
       refine wp_skip ?_
       obtain rfl := sj h
       exact hJp93 v71 _ _ ((hst.pick [3,4,5,6,7]).selA [1,2,3,5,0,4] rfl)
     ·replace h := ite_f b97 h
      refine wp_exit ?_
      exact hJp83 _ v71 _ _ (ho _ (sj h).symm) ((hst.pick [3,5]).selA [0,1,2,4,5] rfl)
    replace h := hp52
    clear hp52
    refine wt hst (fun b98 => ?_) (fun b98 => ?_)
    ·replace h := ite_t b98 h
     obtain ⟨u82,hu82,h⟩ := bind_some h
     refine wr mixed [v1 7 (fun v0 => own rA2_Int 83 (p47 ++ [(A2_Int.mk (0:Int) (IntKind.i64.wrap ((t44.length : Int) - (1:Int))))]) v0),v1 7 (fun v0 => box ([tv (.string (sB ([108,105,102,101] : Str))),tsl rS t44,tvs v0]) (n9 2))] hst (fun _ => .u [6] rfl rfl (op_fieldB fld39_2 z1) <| .u [6] rfl rfl (op_loadBVf (u := v49) tokV37 z0 rfl) <| .q 4 rfl <| .o (op_len ud34 z0) <| .o (op_sub z0 .k) <| .p (T := rA2_Int.ty (A2_Int.mk (0:Int) (IntKind.i64.wrap ((t44.length : Int) - (1:Int))))) rfl (op_buildArr (R := rI) (us := [(0:Int),(IntKind.i64.wrap ((t44.length : Int) - (1:Int)))]) ud83 tok3 zv83 rfl (.cons .k <| .cons z0 <| .nil _)) <| .o (op_buildSl (R := rA2_Int) (us := [(A2_Int.mk (0:Int) (IntKind.i64.wrap ((t44.length : Int) - (1:Int))))]) ud37 tok83 (.cons z0 <| .nil _) rfl (leb rfl)) <| .e [] [5] [8] rfl rfl rfl rfl (op_append (R := rA2_Int) ud37 tok83 (leb rfl) z5 z0 hu82) <| .u [6] rfl rfl (op_fieldB fld39_2 z9) <| .e [8] [6] [9] rfl rfl rfl rfl (op_storeBVf (R := rA2_Int) (e := 83) (Ts := ([tv (.string (sB ([108,105,102,101] : Str))),tsl rS t44,tvs v49])) (off := 2) tokV37 z0 z1 (leb rfl)) <| .n) fun n17 a w hst => ?_
     replace hst := hst.to [7,10,12,13,14,15] [_,_,_,_,_,_] [_,_,_,_,_,_,_,_] rfl rfl
     obtain rfl := sj h
     exact hJp52 (n17 7) _ _ (hst.pick [1,2,3,4,5])
    ·replace h := ite_f b98 h
     refine wp_skip ?_
     obtain rfl := sj h
     exact hJp52 v49 _ _ ((hst.pick [1,3,4,5,6]).selA [0,1,2,3,4,7,5,6] rfl)
   replace h := hp47
   clear hp47
   refine wt hst (fun b99 => ?_) (fun b99 => ?_)
   ·replace h := ite_t b99 h
    obtain ⟨u70,hu70,h⟩ := bind_some h
    refine wr mixed [v1 4 (fun v0 => own rA2_Int 83 (p43 ++ [(A2_Int.mk (1:Int) (0:Int))]) v0),v1 4 (fun v0 => box ([tv (.string (sB ([108,105,102,101] : Str))),tsl rS t44,tvs v0]) (n9 2))] hst (fun _ => .u [6] rfl rfl (op_fieldB fld39_2 z1) <| .u [6] rfl rfl (op_loadBVf (u := v44) tokV37 z0 rfl) <| .p (T := rA2_Int.ty (A2_Int.mk (1:Int) (0:Int))) rfl (op_buildArr (R := rI) (us := [(1:Int),(0:Int)]) ud83 tok3 zv83 rfl (.cons .k <| .cons .k <| .nil _)) <| .o (op_buildSl (R := rA2_Int) (us := [(A2_Int.mk (1:Int) (0:Int))]) ud37 tok83 (.cons z0 <| .nil _) rfl (leb rfl)) <| .e [] [0] [8] rfl rfl rfl rfl (op_append (R := rA2_Int) ud37 tok83 (leb rfl) z2 z0 hu70) <| .u [6] rfl rfl (op_fieldB fld39_2 z6) <| .e [8] [6] [9] rfl rfl rfl rfl (op_storeBVf (R := rA2_Int) (e := 83) (Ts := ([tv (.string (sB ([108,105,102,101] : Str))),tsl rS t44,tvs v44])) (off := 2) tokV37 z0 z1 (leb rfl)) <| .n) fun n15 a w hst => ?_
    replace hst := hst.to [4,7,8,9,10,11,12] [_,_,_,_,_,_,_] [_,_,_,_,_,_,_,_] rfl rfl
    obtain rfl := sj h
    exact hJp47 (n15 4) _ _ (hst.pick [1,2,3,4,5,6])
   ·replace h := ite_f b99 h
    refine wp_skip ?_
    obtain rfl := sj h
    exact hJp47 v44 _ _ ((hst.pick [1,2,3,4,5,6]).selA [1,2,3,4,5,7,0,6] rfl)
  refine wp_block ?_
  refine wp_loopK _ (fun (s32 : Int × List A2_Int) a w => ∃ v38 : Value,St M w0 119 [(9,ti s32.1),(8,tv (n9 2)),(7,tsl rS t44),(5,ti (IntKind.i64.wrap ((1:Int) + t24.1))),(4,tv (n2 3)),(3,tv (n1 6)),(2,tv (n0 0))] [own rA2_Int 83 s32.2 v38,own rSapi_Rule 41 ([] : List Sapi_Rule) nilV,own rSapi_Life 39 ([] : List Sapi_Life) nilV,own rSapi_Kind 32 p24.1 v25,box (rSapi_Schema.cs zz4) (n0 0),box ([ti t21.1,tvs v25,tvs nilV,tvs nilV]) (n2 3),box (rSref09_Maker.cs t42.2) (n1 6),box ([tv (.string (sB ([108,105,102,101] : Str))),tsl rS t44,tvs v38]) (n9 2)] a w) _ _ he33 ⟨nilV,hst.pick [0,1,2,3,4,5,6]⟩ ?_
  clear h
  intro s32 o a w K100 hI h ho hK100
  obtain ⟨v38,hst⟩ := hI
  refine wp_seq_k (fun K101 hK101 => ?_)
  refine sr mixed [] hst (fun _ => .q 0 rfl <| .o (op_add z0 .k) <| .q 4 rfl <| .o (op_len ud34 z0) <| .o (op_lss z2 z0) <| .n) fun n11 a w hst => ?_
  replace hst := hst.to [4,5,6,7,8,9,10,11] [_,_,_,_,_,_,_,_] [_,_,_,_,_,_,_,_] rfl rfl
  refine wt hst (fun b104 => ?_) (fun b104 => ?_)
  ·replace h := ite_t b104 h
   refine wp_skip ?_
   refine hK101 _ _ ?_
   try clear hK101 K101
   refine wp_seq_k (fun K103 hK103 => ?_)
   refine wp_block ?_
   obtain ⟨u61,hu61,h⟩ := bind_some h
   refine wr mixed [v1 7 (fun v0 => own rA2_Int 83 (s32.2 ++ [(A2_Int.mk s32.1 (IntKind.i64.wrap (s32.1 + (1:Int))))]) v0),v1 7 (fun v0 => box ([tv (.string (sB ([108,105,102,101] : Str))),tsl rS t44,tvs v0]) (n9 2))] hst (fun _ => .u [7] rfl rfl (op_fieldB fld39_2 z2) <| .u [7] rfl rfl (op_loadBVf (u := v38) tokV37 z0 rfl) <| .q 3 rfl <| .q 4 rfl <| .o (op_add z0 .k) <| .p (T := rA2_Int.ty (A2_Int.mk s32.1 (IntKind.i64.wrap (s32.1 + (1:Int))))) rfl (op_buildArr (R := rI) (us := [s32.1,(IntKind.i64.wrap (s32.1 + (1:Int)))]) ud83 tok3 zv83 rfl (.cons z2 <| .cons z0 <| .nil _)) <| .o (op_buildSl (R := rA2_Int) (us := [(A2_Int.mk s32.1 (IntKind.i64.wrap (s32.1 + (1:Int))))]) ud37 tok83 (.cons z0 <| .nil _) rfl (leb rfl)) <| .e [] [0] [8] rfl rfl rfl rfl (op_append (R := rA2_Int) ud37 tok83 (leb rfl) z5 z0 hu61) <| .u [7] rfl rfl (op_fieldB fld39_2 z10) <| .e [8] [7] [9] rfl rfl rfl rfl (op_storeBVf (R := rA2_Int) (e := 83) (Ts := ([tv (.string (sB ([108,105,102,101] : Str))),tsl rS t44,tvs v38])) (off := 2) tokV37 z0 z1 (leb rfl)) <| .n) fun n13 a w hst => ?_
   replace hst := hst.to [7,10,11,12,13,14,15,16] [_,_,_,_,_,_,_,_] [_,_,_,_,_,_,_,_] rfl rfl
   refine hK103 _ _ ?_
   try clear hK103 K103
   refine wr mixed [] hst (fun _ => .q 1 rfl <| .o (op_add z0 .k) <| .o (op_assign z0) <| .n) fun n12 a w hst => ?_
   replace hst := hst.to [2,3,4,5,6,7,8,9] [_,_,_,_,_,_,_,_] [_,_,_,_,_,_,_,_] rfl rfl
   exact hK100 _ _ _ (sj h).symm ⟨(n13 7),(hst.pick [0,2,3,4,5,6,7]).selA [6,0,1,2,3,4,5,7] rfl⟩
  ·replace h := ite_f b104 h
   refine wp_exit ?_
   exact hJp43 _ v38 _ _ (ho _ (sj h).symm) (hst.pick [2,3,4,5,6,7])
 refine wp_block ?_
 refine wp_loopK _ (fun (s13 : Int × List Sapi_Kind × Sref09_Maker) a w => ∃ v19 : Value,St M w0 119 [(6,ti s13.1),(5,ti (IntKind.i64.wrap ((1:Int) + t24.1))),(4,tv (n2 3)),(3,tv (n1 6)),(2,tv (n0 0))] [own rSapi_Rule 41 ([] : List Sapi_Rule) nilV,own rSapi_Life 39 ([] : List Sapi_Life) nilV,own rSapi_Kind 32 s13.2.1 v19,box (rSapi_Schema.cs zz4) (n0 0),box ([ti t21.1,tvs v19,tvs nilV,tvs nilV]) (n2 3),box (rSref09_Maker.cs s13.2.2) (n1 6)] a w) _ _ he14 ⟨nilV,hst.pick [0,1,2,3,4]⟩ ?_
 clear h
 intro s13 o a w K105 hI h ho hK105
 obtain ⟨v19,hst⟩ := hI
 refine wp_seq_k (fun K106 hK106 => ?_)
 refine sr mixed [] hst (fun _ => .q 0 rfl <| .q 2 rfl <| .o (op_lss z1 z0) <| .n) fun n5 a w hst => ?_
 replace hst := hst.to [2,3,4,5,6,7] [_,_,_,_,_,_] [_,_,_,_,_,_] rfl rfl
 refine wt hst (fun b109 => ?_) (fun b109 => ?_)
 ·replace h := ite_t b109 h
  refine wp_skip ?_
  refine hK106 _ _ ?_
  try clear hK106 K106
  refine wp_seq_k (fun K108 hK108 => ?_)
  refine wp_block ?_
  obtain ⟨t36,ht36,h⟩ := bind_some h
  obtain ⟨u38,hu38,h⟩ := bind_some h
  refine wr mixed [v0 (box (rSref09_Maker.cs t36.2.1) (n1 6)),v0 (own rSapi_Kind 32 t36.2.2 v19),v1 7 (fun v0 => own rSapi_Kind 32 (t36.2.2 ++ [t36.1]) v0),v1 7 (fun v0 => box ([ti t21.1,tvs v0,tvs nilV,tvs nilV]) (n2 3))] hst (fun _ => .u [4] rfl rfl (op_fieldB fld29_1 z3) <| .u [4] rfl rfl (op_loadBVf (u := v19) tokV25 z0 rfl) <| .q 6 rfl <| .u [4] rfl rfl (op_fieldB fld29_1 z6) <| .u [4] rfl rfl (op_loadBVf (u := v19) tokV25 z0 rfl) <| .e [] [5,2] [6,7] rfl rfl rfl rfl (op_callF call34 (ref09_Maker_kind_ok ht36) (.cons (.of z2) <| .cons (.of z0) <| .nil)) <| .o (op_buildSl (R := rSapi_Kind) (us := [t36.1]) ud25 tok32 (.cons z0 <| .nil _) rfl (leb rfl)) <| .e [] [7] [8] rfl rfl rfl rfl (op_append (R := rSapi_Kind) ud25 tok32 (leb rfl) z5 z0 hu38) <| .u [4] rfl rfl (op_fieldB fld29_1 z11) <| .e [8] [4] [9] rfl rfl rfl rfl (op_storeBVf (R := rSapi_Kind) (e := 32) (Ts := ([ti t21.1,tvs v19,tvs nilV,tvs nilV])) (off := 1) tokV25 z0 z1 (leb rfl)) <| .n) fun n7 a w hst => ?_
  replace hst := hst.to [7,10,11,12,13,14] [_,_,_,_,_,_] [_,_,_,_,_,_] rfl rfl
  refine hK108 _ _ ?_
  try clear hK108 K108
  refine wr mixed [] hst (fun _ => .q 1 rfl <| .o (op_add z0 .k) <| .o (op_assign z0) <| .n) fun n6 a w hst => ?_
  replace hst := hst.to [2,3,4,5,6,7] [_,_,_,_,_,_] [_,_,_,_,_,_] rfl rfl
  exact hK105 _ _ _ (sj h).symm ⟨(n7 7),(hst.pick [0,2,3,4,5]).selA [0,1,4,2,5,3] rfl⟩
 ·replace h := ite_f b109 h
  refine wp_exit ?_
  exact hJp24 _ v19 _ _ (ho _ (sj h).symm) (hst.pick [2,3,4,5])

/- diorama/dioramaref10.Bent -/
noncomputable def fref10_Bent (x_ : Sapi_Schema) (at_ : Int) (how_ : Int) (by_ : Int) : Option (Sapi_Schema) := (rm (([] : List Sapi_Kind).length + (x_).Kinds.length)).bind fun _ => (rm (([] : List Sapi_Rule).length + (x_).Rules.length)).bind fun _ => (if (((([] : List Sapi_Kind) ++ (x_).Kinds).length : Int) == (0:Int)) = true then (some (Sapi_Schema.mk (x_).Version (([] : List Sapi_Kind) ++ (x_).Kinds) (x_).Lives (([] : List Sapi_Rule) ++ (x_).Rules))) else (fref01_Around at_ ((([] : List Sapi_Kind) ++ (x_).Kinds).length : Int)).bind fun t39 => (idx (([] : List Sapi_Kind) ++ (x_).Kinds) t39).bind fun t44 => (rm (([] : List Sapi_Field).length + (t44).Fields.length)).bind fun _ => (fref01_Around by_ ((([] : List Sapi_Kind) ++ (x_).Kinds).length : Int)).bind fun t54 => (idx (([] : List Sapi_Kind) ++ (x_).Kinds) t54).bind fun t55 => (idx (([] : List Sapi_Kind) ++ (x_).Kinds) (0:Int)).bind fun t60 => (tailrec (fun (s18 : Int × List Str) => ((if (decide (s18.1 < ((([] : List Sapi_Field) ++ (t44).Fields).length : Int))) = true then (idx (([] : List Sapi_Field) ++ (t44).Fields) s18.1).bind fun t73 => (rm (s18.2.length + [(t73).Name].length)).bind fun _ => (some (.inl ((IntKind.i64.wrap (s18.1 + (1:Int))),(s18.2 ++ [(t73).Name])))) else (some (.inr s18.2))) : Option ((Int × List Str) ⊕ ((List Str))))) ((0:Int),[([] : Str),([110,111,98,111,100,121] : Str),(t55).Name,(t60).Name])).bind fun (p29 : (List Str)) => (fref01_Around by_ (p29.length : Int)).bind fun t82 => (idx p29 t82).bind fun t83 => (fref01_Around (IntKind.i64.wrap (Int.tdiv at_ (5:Int))) (imax ((([] : List Sapi_Field) ++ (t44).Fields).length : Int) (1:Int))).bind fun t90 => (fref01_Around how_ (9:Int)).bind fun t92 => ((if ((decide (t92 < (5:Int))) && (decide (t90 < ((([] : List Sapi_Field) ++ (t44).Fields).length : Int)))) = true then ((if (t92 == (0:Int)) = true then (idx (([] : List Sapi_Field) ++ (t44).Fields) t90).bind fun t115 => (setAt (([] : List Sapi_Field) ++ (t44).Fields) t90 { t115 with Of := t83 }).bind fun t115s => (some t115s) else ((if (t92 == (1:Int)) = true then (idx (([] : List Sapi_Field) ++ (t44).Fields) t90).bind fun t122 => (setAt (([] : List Sapi_Field) ++ (t44).Fields) t90 { t122 with Up := t83 }).bind fun t122s => (some t122s) else ((if (t92 == (2:Int)) = true then ((if (t83 != ([] : Str)) = true then (idx (([] : List Sapi_Field) ++ (t44).Fields) t90).bind fun t131 => (setAt (([] : List Sapi_Field) ++ (t44).Fields) t90 { t131 with Name := t83 }).bind fun t131s => (some t131s) else (some (([] : List Sapi_Field) ++ (t44).Fields)))).bind fun (p403 : List Sapi_Field) => (some p403) else ((if (t92 == (3:Int)) = true then (fref01_Around by_ ((([] : List Sapi_Field) ++ (t44).Fields).length : Int)).bind fun t138 => (idx (([] : List Sapi_Field) ++ (t44).Fields) t90).bind fun t141 => (idx (([] : List Sapi_Field) ++ (t44).Fields) t138).bind fun t147 => (setAt (([] : List Sapi_Field) ++ (t44).Fields) t90 t147).bind fun t149s => (setAt t149s t138 t141).bind fun t153s => (some t153s) else (sub (([] : List Sapi_Field) ++ (t44).Fields) (0:Int) t90).bind fun t104 => (sub (([] : List Sapi_Field) ++ (t44).Fields) (IntKind.i64.wrap (t90 + (1:Int))) ((([] : List Sapi_Field) ++ (t44).Fields).length : Int)).bind fun t108 => (rm (t104.length + t108.length)).bind fun _ => (some (t104 ++ t108)))).bind fun (p407 : List Sapi_Field) => (some p407))).bind fun (p382 : List Sapi_Field) => (some p382))).bind fun (p339 : List Sapi_Field) => (some p339))).bind fun (p252 : List Sapi_Field) => (some p252) else (some (([] : List Sapi_Field) ++ (t44).Fields)))).bind fun (p36 : List Sapi_Field) => (idx (([] : List Sapi_Kind) ++ (x_).Kinds) t39).bind fun t158 => (setAt (([] : List Sapi_Kind) ++ (x_).Kinds) t39 { t158 with Fields := p36 }).bind fun t158s => ((if (t92 == (5:Int)) = true then (fref01_Around by_ (t158s.length : Int)).bind fun t166 => (idx t158s t166).bind fun t170 => (idx t158s t39).bind fun t178 => (setAt t158s t166 t178).bind fun t180s => (setAt t180s t39 t170).bind fun t185s => (some t185s) else (some t158s))).bind fun (p214 : List Sapi_Kind) => ((if (t92 == (6:Int)) = true then (idx p214 t39).bind fun t193 => (fref01_Around (IntKind.i64.wrap (Int.tdiv by_ (7:Int))) (p29.length : Int)).bind fun t202 => (idx p29 t202).bind fun t203 => (rm ((([] : List Sapi_Rule) ++ (x_).Rules).length + [(Sapi_Rule.mk ([109,111,114,101] : Str) (t193).Name t83 t203 (0:Int))].length)).bind fun _ => (some ((([] : List Sapi_Rule) ++ (x_).Rules) ++ [(Sapi_Rule.mk ([109,111,114,101] : Str) (t193).Name t83 t203 (0:Int))])) else (some (([] : List Sapi_Rule) ++ (x_).Rules)))).bind fun (p222 : List Sapi_Rule) => ((if ((decide (t92 > (6:Int))) && (decide ((p222.length : Int) > (0:Int)))) = true then (fref01_Around at_ (p222.length : Int)).bind fun t221 => ((if (t92 == (7:Int)) = true then (idx p222 t221).bind fun t228 => (setAt p222 t221 { t228 with A := t83 }).bind fun t228s => (some t228s) else (idx p222 t221).bind fun t235 => (rm (p222.length + [t235].length)).bind fun _ => (some (p222 ++ [t235])))).bind fun (p239 : List Sapi_Rule) => (some p239) else (some p222))).bind fun (p227 : List Sapi_Rule) => (some (Sapi_Schema.mk (x_).Version p214 (x_).Lives p227)))
set_option maxRecDepth 100000 in
set_option maxHeartbeats 4000000 in
theorem ref10_Bent_ok {x_ : Sapi_Schema} {at_ : Int} {how_ : Int} {by_ : Int} {r : Sapi_Schema} (h : fref10_Bent x_ at_ how_ by_ = some r) : FnOk Tryd.prog 15 [rSapi_Schema.ty x_,ti at_,ti how_,ti by_] [] (fun _ => []) (fun _ => rSapi_Schema.ty r) := by
 unfold fref10_Bent at h
 refine FnOk.enter Tryd.func15 rfl Tryd.ntmps15 (leb rfl) (fun M0 M w0 a hpl hst => ?_)
 replace hst : St M w0 241 [(0,rSapi_Schema.ty x_),(1,ti at_),(2,ti how_),(3,ti by_)] [] a w0 := hst
 refine sr mixed [v1 0 (fun v0 => box (rSapi_Schema.cs x_) v0),v1 1 (fun v0 => box (rSapi_Schema.cs zz4) v0)] hst (fun _ => .m [] [0] rfl rfl rfl (op_box (R := rSapi_Schema) (u := x_) z0) <| .m [] [1] rfl rfl rfl (op_alloc (R := rSapi_Schema) (a := zz4) tok29 zok29) <| .n) fun n0 a w hst => ?_
 replace hst := hst.to [0,1,3,4,5] [_,_,_,_,_] [_,_] rfl rfl
 refine wp_seq_k (fun K4 hK4 => ?_)
 obtain ⟨u23,hu23,h⟩ := bind_some h
 refine wr mixed [v1 0 (fun v0 => own rSapi_Kind 32 ([] : List Sapi_Kind) v0),v1 3 (fun v0 => own rSapi_Kind 32 (([] : List Sapi_Kind) ++ (x_).Kinds) v0),v1 3 (fun v0 => box ([ti (x_).Version,tvs v0,tsl rSapi_Life (x_).Lives,tsl rSapi_Rule (x_).Rules]) (n0 0))] hst (fun _ => .m [] [2] rfl rfl rfl (op_buildSlO (R := rSapi_Kind) (us := ([] : List Sapi_Kind)) ud25 tok32 (.nil _) rfl (leb rfl) (leb rfl)) <| .u [0] rfl rfl (op_fieldB fld29_1 z1) <| .u [0] rfl rfl (op_loadBf (R := (rSl rSapi_Kind)) (u := (x_).Kinds) tok25 z0 rfl) <| .e [] [2] [3] rfl rfl rfl rfl (op_append (R := rSapi_Kind) ud25 tok32 (leb rfl) z2 z0 hu23) <| .u [0] rfl rfl (op_fieldB fld29_1 z4) <| .e [3] [0] [4] rfl rfl rfl rfl (op_storeBVf (R := rSapi_Kind) (e := 32) (Ts := (rSapi_Schema.cs x_)) (off := 1) tokV25 z0 z1 (leb rfl)) <| .n) fun n1 a w hst => ?_
 replace hst := hst.to [3,5,6,7,8,9] [_,_,_,_,_,_] [_,_,_] rfl rfl
 refine hK4 _ _ ?_
 try clear hK4 K4
 refine wp_seq_k (fun K6 hK6 => ?_)
 obtain ⟨u28,hu28,h⟩ := bind_some h
 refine wr mixed [v1 0 (fun v0 => own rSapi_Rule 41 ([] : List Sapi_Rule) v0),v1 3 (fun v0 => own rSapi_Rule 41 (([] : List Sapi_Rule) ++ (x_).Rules) v0),v1 3 (fun v0 => box ([ti (x_).Version,tvs (n1 3),tsl rSapi_Life (x_).Lives,tvs v0]) (n0 0))] hst (fun _ => .m [] [3] rfl rfl rfl (op_buildSlO (R := rSapi_Rule) (us := ([] : List Sapi_Rule)) ud27 tok41 (.nil _) rfl (leb rfl) (leb rfl)) <| .u [2] rfl rfl (op_fieldB fld29_3 z2) <| .u [2] rfl rfl (op_loadBf (R := (rSl rSapi_Rule)) (u := (x_).Rules) tok27 z0 rfl) <| .e [] [3] [4] rfl rfl rfl rfl (op_append (R := rSapi_Rule) ud27 tok41 (leb rfl) z2 z0 hu28) <| .u [2] rfl rfl (op_fieldB fld29_3 z5) <| .e [4] [2] [5] rfl rfl rfl rfl (op_storeBVf (R := rSapi_Rule) (e := 41) (Ts := ([ti (x_).Version,tvs (n1 3),tsl rSapi_Life (x_).Lives,tsl rSapi_Rule (x_).Rules])) (off := 3) tokV27 z0 z1 (leb rfl)) <| .n) fun n2 a w hst => ?_
 replace hst := hst.to [3,5,6,7,8,9,10] [_,_,_,_,_,_,_] [_,_,_,_] rfl rfl
 refine hK6 _ _ ?_
 try clear hK6 K6
 refine wp_seq_k (fun K8 hK8 => ?_)
 refine sr mixed [] hst (fun _ => .u [3] rfl rfl (op_fieldB fld29_1 z2) <| .u [3] rfl rfl (op_loadBVf (u := (n1 3)) tokV25 z0 rfl) <| .u [1] rfl rfl (op_lenO ud25 z0) <| .o (op_eql z0 .k) <| .n) fun n3 a w hst => ?_
 replace hst := hst.to [1,3,4,5,6,7,8,9,10] [_,_,_,_,_,_,_,_,_] [_,_,_,_] rfl rfl
 refine wp_test 1 hst rfl (fun b428 => ?_) (fun b428 => ?_)
 ·replace h := ite_t b428 h
  refine wp_seq_k (fun K10 hK10 => ?_)
  replace hst : St _ _ _ [_,_,_,_,_,_,_] [_,_,_] _ _ := ((hst.pick [1,2,4,5,6,7,8]).selA [1,3,0,2] rfl).shareC 1 rfl
  replace hst : St _ _ _ [_,_,_,_,_,_] [_,_] _ _ := ((hst.pick [0,2,3,4,5,6]).selA [2,0,1] rfl).shareC 3 rfl
  refine wr mixed [v0 (box (rSapi_Schema.cs (Sapi_Schema.mk (x_).Version (([] : List Sapi_Kind) ++ (x_).Kinds) (x_).Lives (([] : List Sapi_Rule) ++ (x_).Rules))) (n0 1))] hst (fun _ => .u [0] rfl rfl (op_loadB (R := rSapi_Schema) (u := (Sapi_Schema.mk (x_).Version (([] : List Sapi_Kind) ++ (x_).Kinds) (x_).Lives (([] : List Sapi_Rule) ++ (x_).Rules))) tok29 z1 rfl) <| .e [] [1] [2] rfl rfl rfl rfl (op_storeB (R := rSapi_Schema) (a := (Sapi_Schema.mk (x_).Version (([] : List Sapi_Kind) ++ (x_).Kinds) (x_).Lives (([] : List Sapi_Rule) ++ (x_).Rules))) tok29 z3 z0 (leb rfl)) <| .n) fun n4 a w hst => ?_
  replace hst : St _ _ _ [_] [_] _ _ := (hst.pick [3]).selA [1] rfl
  refine hK10 _ _ ?_
  try clear hK10 K10
  refine wp_ret ?_
  obtain rfl := sj h
  exact ret_st undef [] hpl hst rfl (.cell (R := rSapi_Schema) (u := (Sapi_Schema.mk (x_).Version (([] : List Sapi_Kind) ++ (x_).Kinds) (x_).Lives (([] : List Sapi_Rule) ++ (x_).Rules))) tok29 z0 0 rfl rfl .nil) rfl rfl rfl
 ·replace h := ite_f b428 h
  refine wp_skip ?_
  refine hK8 _ _ ?_
  try clear hK8 K8
  obtain ⟨t39,ht39,h⟩ := bind_some h
  refine sr mixed [] hst (fun _ => .q 6 rfl <| .u [3] rfl rfl (op_fieldB fld29_1 z5) <| .u [3] rfl rfl (op_loadBVf (u := (n1 3)) tokV25 z0 rfl) <| .u [1] rfl rfl (op_lenO ud25 z0) <| .o (op_callF call13 (ref01_Around_ok ht39) (.cons (.of z3) <| .cons (.of z0) <| .nil)) <| .o (op_assign z0) <| .n) fun n5 a w hst => ?_
  replace hst := hst.to [2,5,6,8,9,10,11,12,13,14] [_,_,_,_,_,_,_,_,_,_] [_,_,_,_] rfl rfl
  refine wp_seq_k (fun K12 hK12 => ?_)
  obtain ⟨t44,ht44,h⟩ := bind_some h
  obtain ⟨u47,hu47,h⟩ := bind_some h
  refine wr mixed [v1 0 (fun v0 => own rSapi_Field 36 ([] : List Sapi_Field) v0),v1 7 (fun v0 => own rSapi_Field 36 (([] : List Sapi_Field) ++ (t44).Fields) v0)] hst (fun _ => .m [] [4] rfl rfl rfl (op_buildSlO (R := rSapi_Field) (us := ([] : List Sapi_Field)) ud30 tok36 (.nil _) rfl (leb rfl) (leb rfl)) <| .u [3] rfl rfl (op_fieldB fld29_1 z6) <| .u [3] rfl rfl (op_loadBVf (u := (n1 3)) tokV25 z0 rfl) <| .q 4 rfl <| .u [1] rfl rfl (op_indexOi ud25 tok32 z1 z0 ht44) <| .u [1] rfl rfl (op_fieldO fld32_3 z0 (idx_ne ht44)) <| .u [1] rfl rfl (op_loadOf (R2 := (rSl rSapi_Field)) (f := (t44).Fields) tok30 z0 ht44 rfl) <| .e [] [4] [5] rfl rfl rfl rfl (op_append (R := rSapi_Field) ud30 tok36 (leb rfl) z6 z0 hu47) <| .ud (f := fun v => tv v) 7 rfl [] rfl rfl (op_assign z0) <| .n) fun n6 a w hst => ?_
  replace hst := hst.to [2,7,8,9,10,11,12,13,14,15,16,17,18] [_,_,_,_,_,_,_,_,_,_,_,_,_] [_,_,_,_,_] rfl rfl
  refine hK12 _ _ ?_
  try clear hK12 K12
  obtain ⟨t54,ht54,h⟩ := bind_some h
  obtain ⟨t55,ht55,h⟩ := bind_some h
  obtain ⟨t60,ht60,h⟩ := bind_some h
  refine sr mixed [v1 15 (fun v0 => own rS 9 [([] : Str),([110,111,98,111,100,121] : Str),(t55).Name,(t60).Name] v0)] hst (fun _ => .u [3] rfl rfl (op_fieldB fld29_1 z8) <| .u [3] rfl rfl (op_loadBVf (u := (n1 3)) tokV25 z0 rfl) <| .q 14 rfl <| .u [3] rfl rfl (op_fieldB fld29_1 z11) <| .u [3] rfl rfl (op_loadBVf (u := (n1 3)) tokV25 z0 rfl) <| .u [1] rfl rfl (op_lenO ud25 z0) <| .o (op_callF call13 (ref01_Around_ok ht54) (.cons (.of z3) <| .cons (.of z0) <| .nil)) <| .u [1] rfl rfl (op_indexOi ud25 tok32 z5 z0 ht55) <| .u [1] rfl rfl (op_fieldO fld32_0 z0 (idx_ne ht55)) <| .u [1] rfl rfl (op_loadOf (R2 := rS) (f := (t55).Name) tok9 z0 ht55 rfl) <| .u [3] rfl rfl (op_fieldB fld29_1 z18) <| .u [3] rfl rfl (op_loadBVf (u := (n1 3)) tokV25 z0 rfl) <| .u [1] rfl rfl (op_indexOi ud25 tok32 z0 .k ht60) <| .u [1] rfl rfl (op_fieldO fld32_0 z0 (idx_ne ht60)) <| .u [1] rfl rfl (op_loadOf (R2 := rS) (f := (t60).Name) tok9 z0 ht60 rfl) <| .m [] [5] rfl rfl rfl (op_buildSlO (R := rS) (us := [([] : Str),([110,111,98,111,100,121] : Str),(t55).Name,(t60).Name]) ud34 tok9 (.cons .k <| .cons .k <| .cons z5 <| .cons z0 <| .nil _) rfl (leb rfl) (leb rfl)) <| .ud (f := fun v => tv v) 15 rfl [] rfl rfl (op_assign z0) <| .n) fun n7 a w hst => ?_
  replace hst := hst.to [1,4,11,15,16,17,18,19,20,21,22,23,24,25,26,27,28,29] [_,_,_,_,_,_,_,_,_,_,_,_,_,_,_,_,_,_] [_,_,_,_,_,_] rfl rfl
  refine wp_seq_k (fun K16 hK16 => ?_)
  refine sr mixed [] hst (fun _ => .o (op_assign .k) <| .n) fun n8 a w hst => ?_
  replace hst := hst.to [0,1,2,3,4,5,6,7,8,9,10,11,12,13,14,15,16,17,18] [_,_,_,_,_,_,_,_,_,_,_,_,_,_,_,_,_,_,_] [_,_,_,_,_,_] rfl rfl
  obtain ⟨e19,he19,h⟩ := bind_some h
  have hJp29 : ∀ (p29 : List Str) (v30 : Value) a w,p29 = e19 → St M w0 241 [(11,tv v30),(10,tv (n6 7)),(9,ti t39),(4,tv (n0 0)),(8,tv (n0 1)),(1,ti at_),(2,ti how_),(3,ti by_)] [box (rSapi_Schema.cs zz4) (n0 1),own rSapi_Kind 32 (([] : List Sapi_Kind) ++ (x_).Kinds) (n1 3),own rSapi_Rule 41 (([] : List Sapi_Rule) ++ (x_).Rules) (n2 3),box ([ti (x_).Version,tvs (n1 3),tsl rSapi_Life (x_).Lives,tvs (n2 3)]) (n0 0),own rSapi_Field 36 (([] : List Sapi_Field) ++ (t44).Fields) (n6 7),own rS 9 p29 v30] a w → K16 a w := by
   intro p29 v30 a w he hst
   subst he
   refine hK16 _ _ ?_
   try clear hK16 K16
   obtain ⟨t82,ht82,h⟩ := bind_some h
   obtain ⟨t83,ht83,h⟩ := bind_some h
   refine sr mixed [] hst (fun _ => .q 0 rfl <| .q 8 rfl <| .q 2 rfl <| .u [5] rfl rfl (op_lenO ud34 z0) <| .o (op_callF call13 (ref01_Around_ok ht82) (.cons (.of z2) <| .cons (.of z0) <| .nil)) <| .u [5] rfl rfl (op_indexOi ud34 tok9 z4 z0 ht83) <| .u [5] rfl rfl (op_loadO tok9 z0 ht83) <| .o (op_assign z0) <| .n) fun n12 a w hst => ?_
   replace hst := hst.to [0,2,7,8,9,10,11,12,13,14,15] [_,_,_,_,_,_,_,_,_,_,_] [_,_,_,_,_,_] rfl rfl
   obtain ⟨t90,ht90,h⟩ := bind_some h
   refine sr mixed [] hst (fun _ => .q 8 rfl <| .o (op_quo z0 .k (by decide)) <| .q 6 rfl <| .u [4] rfl rfl (op_lenO ud30 z0) <| .o (op_max z0 .k) <| .o (op_callF call13 (ref01_Around_ok ht90) (.cons (.of z3) <| .cons (.of z0) <| .nil)) <| .o (op_assign z0) <| .n) fun n13 a w hst => ?_
   replace hst := hst.to [2,6,7,8,9,10,11,12,13,14,15,16,17] [_,_,_,_,_,_,_,_,_,_,_,_,_] [_,_,_,_,_,_] rfl rfl
   obtain ⟨t92,ht92,h⟩ := bind_some h
   refine sr mixed [] hst (fun _ => .q 11 rfl <| .o (op_callF call13 (ref01_Around_ok ht92) (.cons (.of z0) <| .cons (.of .k) <| .nil)) <| .o (op_assign z0) <| .n) fun n14 a w hst => ?_
   replace hst := hst.to [2,3,4,5,6,7,8,9,10,11,12,13,14] [_,_,_,_,_,_,_,_,_,_,_,_,_] [_,_,_,_,_,_] rfl rfl
   refine wp_seq_k (fun K34 hK34 => ?_)
   refine sr mixed [] hst (fun _ => .q 0 rfl <| .o (op_lss z0 .k) <| .q 0 rfl <| .g rfl rfl (.b 0 rfl) (fun _ => op_move z5) <| .g rfl rfl (.b 1 rfl) (fun _ => op_move z11) <| .gu [4] rfl rfl rfl (.b 2 rfl) (fun hc => op_lenO ud30 (.cond z0 hc)) <| .g rfl rfl (.b 3 rfl) (fun hc => op_lss (.cond z2 hc) (.cond z0 hc)) <| .o (op_and z4 (fun hp => (.cond z0 (beqT hp)))) <| .n) fun n15 a w hst => ?_
   replace hst := hst.to [7,8,9,10,11,12,13,14,15,16,17,18,19,20] [_,_,_,_,_,_,_,_,_,_,_,_,_,_] [_,_,_,_,_,_] rfl rfl
   obtain ⟨p36,hp36,h⟩ := bind_some h
   have hJp36 : ∀ (v210 : Value) a w,St M w0 241 [(2,ti t92),(13,tv (.string (sB t83))),(11,tv v30),(10,tv v210),(9,ti t39),(4,tv (n0 0)),(8,tv (n0 1)),(1,ti at_),(3,ti by_)] [box (rSapi_Schema.cs zz4) (n0 1),own rSapi_Kind 32 (([] : List Sapi_Kind) ++ (x_).Kinds) (n1 3),own rSapi_Rule 41 (([] : List Sapi_Rule) ++ (x_).Rules) (n2 3),box ([ti (x_).Version,tvs (n1 3),tsl rSapi_Life (x_).Lives,tvs (n2 3)]) (n0 0),own rS 9 p29 v30,own rSapi_Field 36 p36 v210] a w → K34 a w := by
    intro v210 a w hst
    refine hK34 _ _ ?_
    try clear hK34 K34
    refine wp_seq_k (fun K211 hK211 => ?_)
    replace hst : St _ _ _ [_,_,_,_,_,_,_,_,_] [_,_,_,_,_] _ _ := ((hst.selA [5,0,1,2,3,4] rfl).shareO 3 rfl).pick [0,1,2,3,5,6,7,8,9]
    obtain ⟨t158,ht158,h⟩ := bind_some h
    obtain ⟨t158s,ht158s,h⟩ := bind_some h
    refine wr mixed [v0 (own rSapi_Kind 32 t158s (n1 3))] hst (fun _ => .u [3] rfl rfl (op_fieldB fld29_1 z5) <| .u [3] rfl rfl (op_loadBVf (u := (n1 3)) tokV25 z0 rfl) <| .q 6 rfl <| .q 3 rfl <| .u [1] rfl rfl (op_indexOi ud25 tok32 z2 z1 ht158) <| .u [1] rfl rfl (op_fieldO fld32_3 z0 (idx_ne ht158)) <| .e [] [1] [5] rfl rfl rfl rfl (op_storeOf (u := { t158 with Fields := p36 }) tok30 z0 z2 ht158 ht158s (leb rfl) rfl) <| .n) fun n30 a w hst => ?_
    replace hst := hst.to [1,7,8,9,10,11,12,13,14] [_,_,_,_,_,_,_,_,_] [_,_,_,_,_] rfl rfl
    refine hK211 _ _ ?_
    try clear hK211 K211
    refine wp_seq_k (fun K212 hK212 => ?_)
    refine sr mixed [] hst (fun _ => .q 1 rfl <| .o (op_eql z0 .k) <| .n) fun n31 a w hst => ?_
    replace hst := hst.to [1,2,3,4,5,6,7,8,9,10] [_,_,_,_,_,_,_,_,_,_] [_,_,_,_,_] rfl rfl
    obtain ⟨p214,hp214,h⟩ := bind_some h
    have hJp214 : ∀ a w,St M w0 241 [(2,ti t92),(13,tv (.string (sB t83))),(11,tv v30),(9,ti t39),(4,tv (n0 0)),(8,tv (n0 1)),(1,ti at_),(3,ti by_)] [box (rSapi_Schema.cs zz4) (n0 1),own rSapi_Rule 41 (([] : List Sapi_Rule) ++ (x_).Rules) (n2 3),box ([ti (x_).Version,tvs (n1 3),tsl rSapi_Life (x_).Lives,tvs (n2 3)]) (n0 0),own rS 9 p29 v30,own rSapi_Kind 32 p214 (n1 3)] a w → K212 a w := by
     intro a w hst
     refine hK212 _ _ ?_
     try clear hK212 K212
     refine wp_seq_k (fun K220 hK220 => ?_)
     refine sr mixed [] hst (fun _ => .q 0 rfl <| .o (op_eql z0 .k) <| .n) fun n36 a w hst => ?_
     replace hst := hst.to [1,2,3,4,5,6,7,8,9] [_,_,_,_,_,_,_,_,_] [_,_,_,_,_] rfl rfl
     obtain ⟨p222,hp222,h⟩ := bind_some h
     have hJp222 : ∀ (v224 : Value) a w,St M w0 241 [(2,ti t92),(13,tv (.string (sB t83))),(4,tv (n0 0)),(8,tv (n0 1)),(1,ti at_)] [box (rSapi_Schema.cs zz4) (n0 1),own rSapi_Kind 32 p214 (n1 3),own rSapi_Rule 41 p222 v224,box ([ti (x_).Version,tvs (n1 3),tsl rSapi_Life (x_).Lives,tvs v224]) (n0 0)] a w → K220 a w := by
      intro v224 a w hst
      refine hK220 _ _ ?_
      try clear hK220 K220
      refine wp_seq_k (fun K225 hK225 => ?_)
      refine sr mixed [] hst (fun _ => .q 0 rfl <| .o (op_gtr z0 .k) <| .q 0 rfl <| .gu [3] rfl rfl rfl (.b 0 rfl) (fun _ => op_fieldB fld29_3 z5) <| .gu [3] rfl rfl rfl (.b 1 rfl) (fun hc => op_loadBVf (u := v224) tokV27 (.cond z0 hc) rfl) <| .gu [2] rfl rfl rfl (.b 2 rfl) (fun hc => op_lenO ud27 (.cond z0 hc)) <| .g rfl rfl (.b 3 rfl) (fun hc => op_gtr (.cond z0 hc) .k) <| .o (op_and z4 (fun hp => (.cond z0 (beqT hp)))) <| .n) fun n38 a w hst => ?_
      replace hst := hst.to [7,8,9,10,11,12] [_,_,_,_,_,_] [_,_,_,_] rfl rfl
      obtain ⟨p227,hp227,h⟩ := bind_some h
      have hJp227 : ∀ (v235 : Value) a w,St M w0 241 [(4,tv (n0 0)),(8,tv (n0 1))] [box (rSapi_Schema.cs zz4) (n0 1),own rSapi_Kind 32 p214 (n1 3),box ([ti (x_).Version,tvs (n1 3),tsl rSapi_Life (x_).Lives,tvs v235]) (n0 0),own rSapi_Rule 41 p227 v235] a w → K225 a w := by
       intro v235 a w hst
       refine hK225 _ _ ?_
       try clear hK225 K225
       refine wp_seq_k (fun K236 hK236 => ?_)
       replace hst : St _ _ _ [_,_] [_,_,_] _ _ := ((hst.pick [0,1]).selA [1,2,0,3] rfl).shareC 1 rfl
       replace hst : St _ _ _ [_,_] [_,_] _ _ := ((hst.pick [0,1]).selA [2,0,1] rfl).shareC 3 rfl
       refine wr mixed [v0 (box (rSapi_Schema.cs (Sapi_Schema.mk (x_).Version p214 (x_).Lives p227)) (n0 1))] hst (fun _ => .u [0] rfl rfl (op_loadB (R := rSapi_Schema) (u := (Sapi_Schema.mk (x_).Version p214 (x_).Lives p227)) tok29 z0 rfl) <| .e [] [1] [2] rfl rfl rfl rfl (op_storeB (R := rSapi_Schema) (a := (Sapi_Schema.mk (x_).Version p214 (x_).Lives p227)) tok29 z2 z0 (leb rfl)) <| .n) fun n43 a w hst => ?_
       replace hst : St _ _ _ [_] [_] _ _ := (hst.pick [2]).selA [1] rfl
       refine hK236 _ _ ?_
       try clear hK236 K236
       refine wp_ret ?_
       obtain rfl := sj h
       exact ret_st undef [] hpl hst rfl (.cell (R := rSapi_Schema) (u := (Sapi_Schema.mk (x_).Version p214 (x_).Lives p227)) tok29 z0 0 rfl rfl .nil) rfl rfl rfl
      replace h := hp227
      clear hp227
      refine wt hst (fun b243 => ?_) (fun b243 => ?_)
      ·replace h := ite_t b243 h
       obtain ⟨t221,ht221,h⟩ := bind_some h
       refine sr mixed [] hst (fun _ => .q 5 rfl <| .u [3] rfl rfl (op_fieldB fld29_3 z4) <| .u [3] rfl rfl (op_loadBVf (u := v224) tokV27 z0 rfl) <| .u [2] rfl rfl (op_lenO ud27 z0) <| .o (op_callF call13 (ref01_Around_ok ht221) (.cons (.of z3) <| .cons (.of z0) <| .nil)) <| .o (op_assign z0) <| .n) fun n39 a w hst => ?_
       replace hst := hst.to [2,5,7,8,9,10] [_,_,_,_,_,_] [_,_,_,_] rfl rfl
       refine sr mixed [] hst (fun _ => .q 2 rfl <| .o (op_eql z0 .k) <| .n) fun n40 a w hst => ?_
       replace hst := hst.to [1,2,3,5,6,7] [_,_,_,_,_,_] [_,_,_,_] rfl rfl
       obtain ⟨p239,hp239,h⟩ := bind_some h
       have hJp239 : ∀ (v241 : Value) a w,St M w0 241 [(4,tv (n0 0)),(8,tv (n0 1))] [box (rSapi_Schema.cs zz4) (n0 1),own rSapi_Kind 32 p214 (n1 3),box ([ti (x_).Version,tvs (n1 3),tsl rSapi_Life (x_).Lives,tvs v241]) (n0 0),own rSapi_Rule 41 p239 v241] a w → K225 a w := by
        intro v241 a w hst
        obtain rfl := sj h
        exact hJp227 v241 _ _ (hst.pick [0,1])
       replace h := hp239
       clear hp239
       refine wt hst (fun b242 => ?_) (fun b242 => ?_)
       ·replace h := ite_t b242 h
        obtain ⟨t228,ht228,h⟩ := bind_some h
        obtain ⟨t228s,ht228s,h⟩ := bind_some h
        refine wr mixed [v0 (own rSapi_Rule 41 t228s v224)] hst (fun _ => .u [3] rfl rfl (op_fieldB fld29_3 z4) <| .u [3] rfl rfl (op_loadBVf (u := v224) tokV27 z0 rfl) <| .q 4 rfl <| .q 6 rfl <| .u [2] rfl rfl (op_indexOi ud27 tok41 z2 z1 ht228) <| .u [2] rfl rfl (op_fieldO fld41_2 z0 (idx_ne ht228)) <| .e [] [2] [4] rfl rfl rfl rfl (op_storeOf (u := { t228 with A := t83 }) tok9 z0 z2 ht228 ht228s (leb rfl) rfl) <| .n) fun n41 a w hst => ?_
        replace hst := hst.to [1,7,10,11] [_,_,_,_] [_,_,_,_] rfl rfl
        obtain rfl := sj h
        exact hJp239 v224 _ _ (hst.pick [2,3])
       ·replace h := ite_f b242 h
        obtain ⟨t235,ht235,h⟩ := bind_some h
        obtain ⟨u238,hu238,h⟩ := bind_some h
        refine wr mixed [v1 8 (fun v0 => own rSapi_Rule 41 (p222 ++ [t235]) v0),v1 8 (fun v0 => box ([ti (x_).Version,tvs (n1 3),tsl rSapi_Life (x_).Lives,tvs v0]) (n0 0))] hst (fun _ => .u [3] rfl rfl (op_fieldB fld29_3 z4) <| .u [3] rfl rfl (op_loadBVf (u := v224) tokV27 z0 rfl) <| .u [3] rfl rfl (op_fieldB fld29_3 z6) <| .u [3] rfl rfl (op_loadBVf (u := v224) tokV27 z0 rfl) <| .q 6 rfl <| .u [2] rfl rfl (op_indexOi ud27 tok41 z1 z0 ht235) <| .u [2] rfl rfl (op_loadO tok41 z0 ht235) <| .o (op_buildSl (R := rSapi_Rule) (us := [t235]) ud27 tok41 (.cons z0 <| .nil _) rfl (leb rfl)) <| .e [] [2] [4] rfl rfl rfl rfl (op_append (R := rSapi_Rule) ud27 tok41 (leb rfl) z6 z0 hu238) <| .u [3] rfl rfl (op_fieldB fld29_3 z13) <| .e [4] [3] [5] rfl rfl rfl rfl (op_storeBVf (R := rSapi_Rule) (e := 41) (Ts := ([ti (x_).Version,tvs (n1 3),tsl rSapi_Life (x_).Lives,tvs v224])) (off := 3) tokV27 z0 z1 (leb rfl)) <| .n) fun n42 a w hst => ?_
        replace hst := hst.to [8,14,15] [_,_,_] [_,_,_,_] rfl rfl
        obtain rfl := sj h
        exact hJp239 (n42 8) _ _ ((hst.pick [1,2]).selA [0,1,3,2] rfl)
      ·replace h := ite_f b243 h
       refine wp_skip ?_
       obtain rfl := sj h
       exact hJp227 v224 _ _ ((hst.pick [3,4]).selA [0,1,3,2] rfl)
     replace h := hp222
     clear hp222
     refine wt hst (fun b244 => ?_) (fun b244 => ?_)
     ·replace h := ite_t b244 h
      obtain ⟨t193,ht193,h⟩ := bind_some h
      obtain ⟨t202,ht202,h⟩ := bind_some h
      obtain ⟨t203,ht203,h⟩ := bind_some h
      obtain ⟨u207,hu207,h⟩ := bind_some h
      refine wr mixed [v1 19 (fun v0 => own rSapi_Rule 41 ((([] : List Sapi_Rule) ++ (x_).Rules) ++ [(Sapi_Rule.mk ([109,111,114,101] : Str) (t193).Name t83 t203 (0:Int))]) v0),v1 19 (fun v0 => box ([ti (x_).Version,tvs (n1 3),tsl rSapi_Life (x_).Lives,tvs v0]) (n0 0))] hst (fun _ => .u [2] rfl rfl (op_fieldB fld29_3 z5) <| .u [2] rfl rfl (op_loadBVf (u := (n2 3)) tokV27 z0 rfl) <| .u [2] rfl rfl (op_fieldB fld29_1 z7) <| .u [2] rfl rfl (op_loadBVf (u := (n1 3)) tokV25 z0 rfl) <| .q 8 rfl <| .u [4] rfl rfl (op_indexOi ud25 tok32 z1 z0 ht193) <| .u [4] rfl rfl (op_fieldO fld32_0 z0 (idx_ne ht193)) <| .u [4] rfl rfl (op_loadOf (R2 := rS) (f := (t193).Name) tok9 z0 ht193 rfl) <| .q 10 rfl <| .q 12 rfl <| .q 18 rfl <| .o (op_quo z0 .k (by decide)) <| .q 15 rfl <| .u [3] rfl rfl (op_lenO ud34 z0) <| .o (op_callF call13 (ref01_Around_ok ht202) (.cons (.of z2) <| .cons (.of z0) <| .nil)) <| .u [3] rfl rfl (op_indexOi ud34 tok9 z5 z0 ht203) <| .u [3] rfl rfl (op_loadO tok9 z0 ht203) <| .p (T := rSapi_Rule.ty (Sapi_Rule.mk ([109,111,114,101] : Str) (t193).Name t83 t203 (0:Int))) rfl (op_build ud41 pl41 zv41 zc41 (.cons (R := rS) (u := ([109,111,114,101] : Str)) rfl .k (leb rfl) <| .cons (R := rS) (u := (t193).Name) rfl z9 (leb rfl) <| .cons (R := rS) (u := t83) rfl z8 (leb rfl) <| .cons (R := rS) (u := t203) rfl z0 (leb rfl) <| .nil _)) <| .o (op_buildSl (R := rSapi_Rule) (us := [(Sapi_Rule.mk ([109,111,114,101] : Str) (t193).Name t83 t203 (0:Int))]) ud27 tok41 (.cons z0 <| .nil _) rfl (leb rfl)) <| .e [] [1] [5] rfl rfl rfl rfl (op_append (R := rSapi_Rule) ud27 tok41 (leb rfl) z17 z0 hu207) <| .u [2] rfl rfl (op_fieldB fld29_3 z25) <| .e [5] [2] [6] rfl rfl rfl rfl (op_storeBVf (R := rSapi_Rule) (e := 41) (Ts := ([ti (x_).Version,tvs (n1 3),tsl rSapi_Life (x_).Lives,tvs (n2 3)])) (off := 3) tokV27 z0 z1 (leb rfl)) <| .n) fun n37 a w hst => ?_
      replace hst := hst.to [3,9,12,19,22,23,24,26,27,28] [_,_,_,_,_,_,_,_,_,_] [_,_,_,_,_] rfl rfl
      obtain rfl := sj h
      exact hJp222 (n37 19) _ _ ((hst.pick [4,5,7,8,9]).selA [0,2,3,4] rfl)
     ·replace h := ite_f b244 h
      refine wp_skip ?_
      obtain rfl := sj h
      exact hJp222 (n2 3) _ _ ((hst.pick [1,2,5,6,7]).selA [0,4,1,2] rfl)
    replace h := hp214
    clear hp214
    refine wt hst (fun b249 => ?_) (fun b249 => ?_)
    ·replace h := ite_t b249 h
     obtain ⟨t166,ht166,h⟩ := bind_some h
     refine sr mixed [] hst (fun _ => .q 9 rfl <| .u [2] rfl rfl (op_fieldB fld29_1 z7) <| .u [2] rfl rfl (op_loadBVf (u := (n1 3)) tokV25 z0 rfl) <| .u [4] rfl rfl (op_lenO ud25 z0) <| .o (op_callF call13 (ref01_Around_ok ht166) (.cons (.of z3) <| .cons (.of z0) <| .nil)) <| .o (op_assign z0) <| .n) fun n32 a w hst => ?_
     replace hst := hst.to [2,5,7,8,9,10,11,12,13,14,15] [_,_,_,_,_,_,_,_,_,_,_] [_,_,_,_,_] rfl rfl
     obtain ⟨t170,ht170,h⟩ := bind_some h
     refine sr mixed [v1 5 (fun v0 => box (rSapi_Kind.cs zz1) v0),v1 5 (fun v0 => box (rSapi_Kind.cs t170) v0)] hst (fun _ => .u [2] rfl rfl (op_fieldB fld29_1 z7) <| .u [2] rfl rfl (op_loadBVf (u := (n1 3)) tokV25 z0 rfl) <| .q 3 rfl <| .u [4] rfl rfl (op_indexOi ud25 tok32 z1 z0 ht170) <| .u [4] rfl rfl (op_loadO tok32 z0 ht170) <| .m [] [5] rfl rfl rfl (op_alloc (R := rSapi_Kind) (a := zz1) tok32 zok32) <| .e [] [5] [6] rfl rfl rfl rfl (op_storeB (R := rSapi_Kind) (a := t170) tok32 z0 z1 (leb rfl)) <| .n) fun n33 a w hst => ?_
     replace hst : St _ _ _ [_,_,_,_,_,_,_,_,_,_,_,_,_] [_,_,_,_,_] _ _ := ((((hst.pick [1,5,6,7,8,9,10,11,12,13,14,15,16]).selA [5,0,1,2,3,4] rfl).shareB 1 rfl).add 0 rfl (fun _ _ _ h => h.2)).pick [0,2,4,5,6,7,8,9,10,11,12,13,14]
     obtain ⟨t178,ht178,h⟩ := bind_some h
     obtain ⟨t180s,ht180s,h⟩ := bind_some h
     refine sr mixed [v0 (own rSapi_Kind 32 t180s (n1 3))] hst (fun _ => .u [2] rfl rfl (op_fieldB fld29_1 z9) <| .u [2] rfl rfl (op_loadBVf (u := (n1 3)) tokV25 z0 rfl) <| .q 5 rfl <| .u [2] rfl rfl (op_fieldB fld29_1 z12) <| .u [2] rfl rfl (op_loadBVf (u := (n1 3)) tokV25 z0 rfl) <| .q 13 rfl <| .u [4] rfl rfl (op_indexOi ud25 tok32 z1 z0 ht178) <| .u [4] rfl rfl (op_loadO tok32 z0 ht178) <| .u [4] rfl rfl (op_indexOs ud25 tok32 z6 z5 ht180s) <| .e [] [4] [5] rfl rfl rfl rfl (op_storeO tok32 z0 z1 ht180s) <| .n) fun n34 a w hst => ?_
     replace hst := hst.to [1,4,9,10,11,13,14,15,16,17,18,19,20,21] [_,_,_,_,_,_,_,_,_,_,_,_,_,_] [_,_,_,_,_] rfl rfl
     obtain ⟨t185s,ht185s,h⟩ := bind_some h
     refine wr mixed [v0 (own rSapi_Kind 32 t185s (n1 3))] hst (fun _ => .u [2] rfl rfl (op_fieldB fld29_1 z10) <| .u [2] rfl rfl (op_loadBVf (u := (n1 3)) tokV25 z0 rfl) <| .q 11 rfl <| .o (op_load tok32 z5) <| .u [4] rfl rfl (op_indexOs ud25 tok32 z2 z1 ht185s) <| .e [] [4] [5] rfl rfl rfl rfl (op_storeO tok32 z0 z1 ht185s) <| .n) fun n35 a w hst => ?_
     replace hst := hst.to [1,5,6,8,9,10,11,12,13,14,15,16,17,18] [_,_,_,_,_,_,_,_,_,_,_,_,_,_] [_,_,_,_,_] rfl rfl
     obtain rfl := sj h
     exact hJp214 _ _ (hst.pick [6,7,8,9,10,11,12,13])
    ·replace h := ite_f b249 h
     refine wp_skip ?_
     obtain rfl := sj h
     exact hJp214 _ _ (hst.pick [2,3,4,5,6,7,8,9])
   replace h := hp36
   clear hp36
   refine wt hst (fun b422 => ?_) (fun b422 => ?_)
   ·replace h := ite_t b422 h
    refine sr mixed [] hst (fun _ => .q 1 rfl <| .n) fun n16 a w hst => ?_
    replace hst := hst.to [0,2,3,4,5,6,7,8,9,10,11,12,13,14] [_,_,_,_,_,_,_,_,_,_,_,_,_,_] [_,_,_,_,_,_] rfl rfl
    refine wp_block ?_
    refine sr mixed [] hst (fun _ => .o (op_eql z0 .k) <| .o (op_assign z0) <| .n) fun n18 a w hst => ?_
    replace hst := hst.to [1,2,3,4,5,6,7,8,9,10,11,12,13,14,15] [_,_,_,_,_,_,_,_,_,_,_,_,_,_,_] [_,_,_,_,_,_] rfl rfl
    obtain ⟨p252,hp252,h⟩ := bind_some h
    have hJp252 : ∀ (v337 : Value) a w,St M w0 241 [(2,ti t92),(13,tv (.string (sB t83))),(11,tv v30),(10,tv v337),(9,ti t39),(4,tv (n0 0)),(8,tv (n0 1)),(1,ti at_),(3,ti by_)] [box (rSapi_Schema.cs zz4) (n0 1),own rSapi_Kind 32 (([] : List Sapi_Kind) ++ (x_).Kinds) (n1 3),own rSapi_Rule 41 (([] : List Sapi_Rule) ++ (x_).Rules) (n2 3),box ([ti (x_).Version,tvs (n1 3),tsl rSapi_Life (x_).Lives,tvs (n2 3)]) (n0 0),own rS 9 p29 v30,own rSapi_Field 36 p252 v337] a w → K34 a w := by
     intro v337 a w hst
     obtain rfl := sj h
     exact hJp36 v337 _ _ (hst.pick [0,1,2,3,4,5,6,7,8])
    replace h := hp252
    clear hp252
    refine wt hst (fun b421 => ?_) (fun b421 => ?_)
    ·replace h := ite_t b421 h
     obtain ⟨t115,ht115,h⟩ := bind_some h
     obtain ⟨t115s,ht115s,h⟩ := bind_some h
     refine wr mixed [v0 (own rSapi_Field 36 t115s (n6 7))] hst (fun _ => .q 9 rfl <| .q 5 rfl <| .q 9 rfl <| .u [4] rfl rfl (op_indexOi ud30 tok36 z2 z1 ht115) <| .u [4] rfl rfl (op_fieldO fld36_1 z0 (idx_ne ht115)) <| .e [] [4] [6] rfl rfl rfl rfl (op_storeOf (u := { t115 with Of := t83 }) tok9 z0 z2 ht115 ht115s (leb rfl) rfl) <| .n) fun n19 a w hst => ?_
     replace hst := hst.to [0,7,8,10,11,12,13,14,15,16,17,18,19] [_,_,_,_,_,_,_,_,_,_,_,_,_] [_,_,_,_,_,_] rfl rfl
     obtain rfl := sj h
     exact hJp252 (n6 7) _ _ (hst.pick [1,5,6,7,8,9,10,11,12])
    ·replace h := ite_f b421 h
     refine sr mixed [] hst (fun _ => .o (op_eql z1 .k) <| .o (op_assign z0) <| .n) fun n20 a w hst => ?_
     replace hst := hst.to [1,3,4,5,6,7,8,9,10,11,12,13,14,15,16] [_,_,_,_,_,_,_,_,_,_,_,_,_,_,_] [_,_,_,_,_,_] rfl rfl
     obtain ⟨p339,hp339,h⟩ := bind_some h
     have hJp339 : ∀ (v380 : Value) a w,St M w0 241 [(2,ti t92),(13,tv (.string (sB t83))),(11,tv v30),(10,tv v380),(9,ti t39),(4,tv (n0 0)),(8,tv (n0 1)),(1,ti at_),(3,ti by_)] [box (rSapi_Schema.cs zz4) (n0 1),own rSapi_Kind 32 (([] : List Sapi_Kind) ++ (x_).Kinds) (n1 3),own rSapi_Rule 41 (([] : List Sapi_Rule) ++ (x_).Rules) (n2 3),box ([ti (x_).Version,tvs (n1 3),tsl rSapi_Life (x_).Lives,tvs (n2 3)]) (n0 0),own rS 9 p29 v30,own rSapi_Field 36 p339 v380] a w → K34 a w := by
      intro v380 a w hst
      obtain rfl := sj h
      exact hJp252 v380 _ _ (hst.pick [0,1,2,3,4,5,6,7,8])
     replace h := hp339
     clear hp339
     refine wt hst (fun b420 => ?_) (fun b420 => ?_)
     ·replace h := ite_t b420 h
      obtain ⟨t122,ht122,h⟩ := bind_some h
      obtain ⟨t122s,ht122s,h⟩ := bind_some h
      refine wr mixed [v0 (own rSapi_Field 36 t122s (n6 7))] hst (fun _ => .q 9 rfl <| .q 5 rfl <| .q 9 rfl <| .u [4] rfl rfl (op_indexOi ud30 tok36 z2 z1 ht122) <| .u [4] rfl rfl (op_fieldO fld36_2 z0 (idx_ne ht122)) <| .e [] [4] [6] rfl rfl rfl rfl (op_storeOf (u := { t122 with Up := t83 }) tok9 z0 z2 ht122 ht122s (leb rfl) rfl) <| .n) fun n21 a w hst => ?_
      replace hst := hst.to [0,7,8,10,11,12,13,14,15,16,17,18,19] [_,_,_,_,_,_,_,_,_,_,_,_,_] [_,_,_,_,_,_] rfl rfl
      obtain rfl := sj h
      exact hJp339 (n6 7) _ _ (hst.pick [1,5,6,7,8,9,10,11,12])
     ·replace h := ite_f b420 h
      refine sr mixed [] hst (fun _ => .o (op_eql z1 .k) <| .o (op_assign z0) <| .n) fun n22 a w hst => ?_
      replace hst := hst.to [1,3,4,5,6,7,8,9,10,11,12,13,14,15,16] [_,_,_,_,_,_,_,_,_,_,_,_,_,_,_] [_,_,_,_,_,_] rfl rfl
      obtain ⟨p382,hp382,h⟩ := bind_some h
      have hJp382 : ∀ (v401 : Value) a w,St M w0 241 [(2,ti t92),(13,tv (.string (sB t83))),(11,tv v30),(10,tv v401),(9,ti t39),(4,tv (n0 0)),(8,tv (n0 1)),(1,ti at_),(3,ti by_)] [box (rSapi_Schema.cs zz4) (n0 1),own rSapi_Kind 32 (([] : List Sapi_Kind) ++ (x_).Kinds) (n1 3),own rSapi_Rule 41 (([] : List Sapi_Rule) ++ (x_).Rules) (n2 3),box ([ti (x_).Version,tvs (n1 3),tsl rSapi_Life (x_).Lives,tvs (n2 3)]) (n0 0),own rS 9 p29 v30,own rSapi_Field 36 p382 v401] a w → K34 a w := by
       intro v401 a w hst
       obtain rfl := sj h
       exact hJp339 v401 _ _ (hst.pick [0,1,2,3,4,5,6,7,8])
      replace h := hp382
      clear hp382
      refine wt hst (fun b419 => ?_) (fun b419 => ?_)
      ·replace h := ite_t b419 h
       refine sr mixed [] hst (fun _ => .q 7 rfl <| .o (op_neqS z0 .k) <| .n) fun n23 a w hst => ?_
       replace hst := hst.to [1,4,5,6,7,8,9,10,11,12,13,14,15,16] [_,_,_,_,_,_,_,_,_,_,_,_,_,_] [_,_,_,_,_,_] rfl rfl
       obtain ⟨p403,hp403,h⟩ := bind_some h
       have hJp403 : ∀ a w,St M w0 241 [(2,ti t92),(13,tv (.string (sB t83))),(11,tv v30),(10,tv (n6 7)),(9,ti t39),(4,tv (n0 0)),(8,tv (n0 1)),(1,ti at_),(3,ti by_)] [box (rSapi_Schema.cs zz4) (n0 1),own rSapi_Kind 32 (([] : List Sapi_Kind) ++ (x_).Kinds) (n1 3),own rSapi_Rule 41 (([] : List Sapi_Rule) ++ (x_).Rules) (n2 3),box ([ti (x_).Version,tvs (n1 3),tsl rSapi_Life (x_).Lives,tvs (n2 3)]) (n0 0),own rS 9 p29 v30,own rSapi_Field 36 p403 (n6 7)] a w → K34 a w := by
        intro a w hst
        obtain rfl := sj h
        exact hJp382 (n6 7) _ _ (hst.pick [0,1,2,3,4,5,6,7,8])
       replace h := hp403
       clear hp403
       refine wt hst (fun b405 => ?_) (fun b405 => ?_)
       ·replace h := ite_t b405 h
        obtain ⟨t131,ht131,h⟩ := bind_some h
        obtain ⟨t131s,ht131s,h⟩ := bind_some h
        refine wr mixed [v0 (own rSapi_Field 36 t131s (n6 7))] hst (fun _ => .q 8 rfl <| .q 4 rfl <| .q 8 rfl <| .u [4] rfl rfl (op_indexOi ud30 tok36 z2 z1 ht131) <| .u [4] rfl rfl (op_fieldO fld36_0 z0 (idx_ne ht131)) <| .e [] [4] [6] rfl rfl rfl rfl (op_storeOf (u := { t131 with Name := t83 }) tok9 z0 z2 ht131 ht131s (leb rfl) rfl) <| .n) fun n24 a w hst => ?_
        replace hst := hst.to [0,6,7,9,10,11,12,13,14,15,16,17,18] [_,_,_,_,_,_,_,_,_,_,_,_,_] [_,_,_,_,_,_] rfl rfl
        obtain rfl := sj h
        exact hJp403 _ _ (hst.pick [1,5,6,7,8,9,10,11,12])
       ·replace h := ite_f b405 h
        refine wp_skip ?_
        obtain rfl := sj h
        exact hJp403 _ _ ((hst.pick [1,6,7,8,9,10,11,12,13]).selA [0,1,2,3,5,4] rfl)
      ·replace h := ite_f b419 h
       refine sr mixed [] hst (fun _ => .o (op_eql z1 .k) <| .o (op_assign z0) <| .n) fun n25 a w hst => ?_
       replace hst := hst.to [1,4,5,6,7,8,9,10,11,12,13,14,15,16] [_,_,_,_,_,_,_,_,_,_,_,_,_,_] [_,_,_,_,_,_] rfl rfl
       obtain ⟨p407,hp407,h⟩ := bind_some h
       have hJp407 : ∀ (v413 : Value) a w,St M w0 241 [(2,ti t92),(13,tv (.string (sB t83))),(11,tv v30),(10,tv v413),(9,ti t39),(4,tv (n0 0)),(8,tv (n0 1)),(1,ti at_),(3,ti by_)] [box (rSapi_Schema.cs zz4) (n0 1),own rSapi_Kind 32 (([] : List Sapi_Kind) ++ (x_).Kinds) (n1 3),own rSapi_Rule 41 (([] : List Sapi_Rule) ++ (x_).Rules) (n2 3),box ([ti (x_).Version,tvs (n1 3),tsl rSapi_Life (x_).Lives,tvs (n2 3)]) (n0 0),own rS 9 p29 v30,own rSapi_Field 36 p407 v413] a w → K34 a w := by
        intro v413 a w hst
        obtain rfl := sj h
        exact hJp382 v413 _ _ (hst.pick [0,1,2,3,4,5,6,7,8])
       replace h := hp407
       clear hp407
       refine wt hst (fun b418 => ?_) (fun b418 => ?_)
       ·replace h := ite_t b418 h
        obtain ⟨t138,ht138,h⟩ := bind_some h
        refine sr mixed [] hst (fun _ => .q 13 rfl <| .q 9 rfl <| .u [4] rfl rfl (op_lenO ud30 z0) <| .o (op_callF call13 (ref01_Around_ok ht138) (.cons (.of z2) <| .cons (.of z0) <| .nil)) <| .o (op_assign z0) <| .n) fun n26 a w hst => ?_
        replace hst := hst.to [1,4,6,7,8,9,10,11,12,13,14,15,16,17,18] [_,_,_,_,_,_,_,_,_,_,_,_,_,_,_] [_,_,_,_,_,_] rfl rfl
        obtain ⟨t141,ht141,h⟩ := bind_some h
        refine sr mixed [v1 4 (fun v0 => box (rSapi_Field.cs zz0) v0),v1 4 (fun v0 => box (rSapi_Field.cs t141) v0)] hst (fun _ => .q 9 rfl <| .q 5 rfl <| .u [4] rfl rfl (op_indexOi ud30 tok36 z1 z0 ht141) <| .u [4] rfl rfl (op_loadO tok36 z0 ht141) <| .m [] [6] rfl rfl rfl (op_alloc (R := rSapi_Field) (a := zz0) tok36 zok36) <| .e [] [6] [7] rfl rfl rfl rfl (op_storeB (R := rSapi_Field) (a := t141) tok36 z0 z1 (leb rfl)) <| .n) fun n27 a w hst => ?_
        replace hst : St _ _ _ [_,_,_,_,_,_,_,_,_,_,_,_,_,_,_,_,_] [_,_,_,_,_,_] _ _ := ((((hst.pick [0,4,5,6,7,8,9,10,11,12,13,14,15,16,17,18,19]).selA [6,0,1,2,3,4,5] rfl).shareB 1 rfl).add 0 rfl (fun _ _ _ h => h.2)).pick [0,2,4,5,6,7,8,9,10,11,12,13,14,15,16,17,18]
        obtain ⟨t147,ht147,h⟩ := bind_some h
        obtain ⟨t149s,ht149s,h⟩ := bind_some h
        refine sr mixed [v0 (own rSapi_Field 36 t149s (n6 7))] hst (fun _ => .q 11 rfl <| .q 7 rfl <| .q 13 rfl <| .q 6 rfl <| .u [4] rfl rfl (op_indexOi ud30 tok36 z1 z0 ht147) <| .u [4] rfl rfl (op_loadO tok36 z0 ht147) <| .u [4] rfl rfl (op_indexOs ud30 tok36 z5 z4 ht149s) <| .e [] [4] [6] rfl rfl rfl rfl (op_storeO tok36 z0 z1 ht149s) <| .n) fun n28 a w hst => ?_
        replace hst := hst.to [0,2,7,8,9,10,11,12,14,15,16,17,18,19,20,21,22,23] [_,_,_,_,_,_,_,_,_,_,_,_,_,_,_,_,_,_] [_,_,_,_,_,_] rfl rfl
        obtain ⟨t153s,ht153s,h⟩ := bind_some h
        refine wr mixed [v0 (own rSapi_Field 36 t153s (n6 7))] hst (fun _ => .q 12 rfl <| .q 6 rfl <| .o (op_load tok36 z4) <| .u [5] rfl rfl (op_indexOs ud30 tok36 z2 z1 ht153s) <| .e [] [5] [6] rfl rfl rfl rfl (op_storeO tok36 z0 z1 ht153s) <| .n) fun n29 a w hst => ?_
        replace hst := hst.to [0,4,5,7,8,10,11,12,13,14,15,16,17,18,19,20,21] [_,_,_,_,_,_,_,_,_,_,_,_,_,_,_,_,_] [_,_,_,_,_,_] rfl rfl
        obtain rfl := sj h
        exact hJp407 (n6 7) _ _ (hst.pick [5,9,10,11,12,13,14,15,16])
       ·replace h := ite_f b418 h
        obtain ⟨t104,ht104,h⟩ := bind_some h
        obtain ⟨t108,ht108,h⟩ := bind_some h
        obtain ⟨u109,hu109,h⟩ := bind_some h
        refine wr mixed [v1 7 (fun v0 => own rSapi_Field 36 (t104 ++ t108) v0)] hst (fun _ => .q 8 rfl <| .q 4 rfl <| .u [4] rfl rfl (op_cut (R := rSapi_Field) ud30 tok36 z1 (.no _) (.op z0) ht104) <| .q 11 rfl <| .q 7 rfl <| .o (op_add z0 .k) <| .u [4] rfl rfl (op_cut (R := rSapi_Field) ud30 tok36 z2 (.op z0) (.no _) ht108) <| .e [] [4] [6] rfl rfl rfl rfl (op_appendCut (R := rSapi_Field) (xs := (([] : List Sapi_Field) ++ (t44).Fields)) ud30 tok36 (leb rfl) z4 z0 ht104 ht108 hu109) <| .ud (f := fun v => tv v) 7 rfl [] rfl rfl (op_assign z0) <| .n) fun n17 a w hst => ?_
        replace hst := hst.to [7,8,10,13,14,15,16,17,18,19,20,21] [_,_,_,_,_,_,_,_,_,_,_,_] [_,_,_,_,_,_] rfl rfl
        obtain rfl := sj h
        exact hJp407 (n17 7) _ _ (hst.pick [2,5,6,1,7,8,9,10,11])
   ·replace h := ite_f b422 h
    refine wp_skip ?_
    obtain rfl := sj h
    exact hJp36 (n6 7) _ _ ((hst.pick [1,6,7,8,9,10,11,12,13]).selA [0,1,2,3,5,4] rfl)
  refine wp_block ?_
  refine wp_loopK _ (fun (s18 : Int × List Str) a w => ∃ v24 : Value,St M w0 241 [(12,ti s18.1),(11,tv v24),(10,tv (n6 7)),(9,ti t39),(4,tv (n0 0)),(8,tv (n0 1)),(1,ti at_),(2,ti how_),(3,ti by_)] [box (rSapi_Schema.cs zz4) (n0 1),own rSapi_Kind 32 (([] : List Sapi_Kind) ++ (x_).Kinds) (n1 3),own rSapi_Rule 41 (([] : List Sapi_Rule) ++ (x_).Rules) (n2 3),box ([ti (x_).Version,tvs (n1 3),tsl rSapi_Life (x_).Lives,tvs (n2 3)]) (n0 0),own rSapi_Field 36 (([] : List Sapi_Field) ++ (t44).Fields) (n6 7),own rS 9 s18.2 v24] a w) _ _ he19 ⟨(n7 15),hst.pick [0,5,8,10,14,15,16,17,18]⟩ ?_
  clear h
  intro s18 o a w K423 hI h ho hK423
  obtain ⟨v24,hst⟩ := hI
  refine wp_seq_k (fun K424 hK424 => ?_)
  refine sr mixed [] hst (fun _ => .q 0 rfl <| .q 3 rfl <| .u [4] rfl rfl (op_lenO ud30 z0) <| .o (op_lss z2 z0) <| .n) fun n9 a w hst => ?_
  replace hst := hst.to [1,3,4,5,6,7,8,9,10,11,12] [_,_,_,_,_,_,_,_,_,_,_] [_,_,_,_,_,_] rfl rfl
  refine wp_test 1 hst rfl (fun b427 => ?_) (fun b427 => ?_)
  ·replace h := ite_t b427 h
   refine wp_skip ?_
   refine hK424 _ _ ?_
   try clear hK424 K424
   refine wp_seq_k (fun K426 hK426 => ?_)
   refine wp_block ?_
   obtain ⟨t73,ht73,h⟩ := bind_some h
   obtain ⟨u77,hu77,h⟩ := bind_some h
   refine wr mixed [v1 7 (fun v0 => own rS 9 (s18.2 ++ [(t73).Name]) v0)] hst (fun _ => .q 3 rfl <| .q 5 rfl <| .q 4 rfl <| .u [4] rfl rfl (op_indexOi ud30 tok36 z1 z0 ht73) <| .u [4] rfl rfl (op_fieldO fld36_0 z0 (idx_ne ht73)) <| .u [4] rfl rfl (op_loadOf (R2 := rS) (f := (t73).Name) tok9 z0 ht73 rfl) <| .o (op_buildSl (R := rS) (us := [(t73).Name]) ud34 tok9 (.cons z0 <| .nil _) rfl (leb rfl)) <| .e [] [5] [6] rfl rfl rfl rfl (op_append (R := rS) ud34 tok9 (leb rfl) z6 z0 hu77) <| .ud (f := fun v => tv v) 7 rfl [] rfl rfl (op_assign z0) <| .n) fun n11 a w hst => ?_
   replace hst := hst.to [1,7,8,9,11,12,13,14,15,16,17,18] [_,_,_,_,_,_,_,_,_,_,_,_] [_,_,_,_,_,_] rfl rfl
   refine hK426 _ _ ?_
   try clear hK426 K426
   refine wr mixed [] hst (fun _ => .q 4 rfl <| .o (op_add z0 .k) <| .o (op_assign z0) <| .n) fun n10 a w hst => ?_
   replace hst := hst.to [2,3,4,5,6,7,8,9,10,11,12,13] [_,_,_,_,_,_,_,_,_,_,_,_] [_,_,_,_,_,_] rfl rfl
   exact hK423 _ _ _ (sj h).symm ⟨(n11 7),hst.pick [0,3,5,6,7,8,9,10,11]⟩
  ·replace h := ite_f b427 h
   refine wp_exit ?_
   exact hJp29 _ v24 _ _ (ho _ (sj h).symm) (hst.pick [3,4,5,6,7,8,9,10])

/- diorama/dioramaref09.spoiltField -/
noncomputable def fref09_spoiltField (f_ : Sapi_Field) (how_ : Int) (by_ : Int) : Option (Sapi_Field) := (fref01_Around how_ (8:Int)).bind fun t8 => ((if (t8 == (0:Int)) = true then (fref01_Around by_ (11:Int)).bind fun t17 => (some (Sapi_Field.mk (f_).Name (f_).Of (f_).Up (IntKind.i64.wrap (t17 - (1:Int))) (f_).Lo (f_).Hi (f_).Words (f_).Weights)) else ((if (t8 == (1:Int)) = true then (fref01_Around by_ (8:Int)).bind fun t24 => (idx [([] : Str),([105,100] : Str),([111,102] : Str),([111,116,104,101,114] : Str),([85,112,112,101,114] : Str),([49,97] : Str),([116,104,105,114,116,101,101,110,98,121,116,101,115] : Str),([97,45,98] : Str)] t24).bind fun t25 => (some (Sapi_Field.mk t25 (f_).Of (f_).Up (f_).Kind (f_).Lo (f_).Hi (f_).Words (f_).Weights)) else ((if (t8 == (2:Int)) = true then (fref01_Around by_ (9:Int)).bind fun t32 => (idx [([] : Str),([105,100] : Str),([111,102] : Str),([112,101,114,115,111,110] : Str),([111,114,100,101,114] : Str),([108,105,102,101] : Str),([116,111,116,97,108] : Str),([98,111,114,110] : Str),([115,105,122,101] : Str)] t32).bind fun t33 => (some (Sapi_Field.mk (f_).Name t33 (f_).Up (f_).Kind (f_).Lo (f_).Hi (f_).Words (f_).Weights)) else ((if (t8 == (3:Int)) = true then (fref01_Around by_ (5:Int)).bind fun t40 => (idx [([] : Str),([111,102] : Str),([98,121] : Str),([105,100] : Str),([63] : Str)] t40).bind fun t41 => (some (Sapi_Field.mk (f_).Name (f_).Of t41 (f_).Kind (f_).Lo (f_).Hi (f_).Words (f_).Weights)) else ((if (t8 == (4:Int)) = true then (fref01_Around by_ (6:Int)).bind fun t51 => (idx [(IntKind.i64.wrap ((f_).Lo - (1:Int))),(0:Int),(5:Int),(-1048576:Int),(-1048577:Int),(33:Int)] t51).bind fun t52 => (some (Sapi_Field.mk (f_).Name (f_).Of (f_).Up (f_).Kind t52 (f_).Hi (f_).Words (f_).Weights)) else ((if (t8 == (5:Int)) = true then (fref01_Around by_ (8:Int)).bind fun t62 => (idx [(IntKind.i64.wrap ((f_).Hi + (1:Int))),(0:Int),(32:Int),(33:Int),(65536:Int),(65537:Int),(1048576:Int),(1048577:Int)] t62).bind fun t63 => (some (Sapi_Field.mk (f_).Name (f_).Of (f_).Up (f_).Kind (f_).Lo t63 (f_).Words (f_).Weights)) else ((if (t8 == (6:Int)) = true then (rm (([] : List Str).length + (f_).Words.length)).bind fun _ => (fref01_Around by_ (3:Int)).bind fun t74 => (idx [([109,111,114,101] : Str),([114,101,100] : Str),([] : Str)] t74).bind fun t75 => (rm ((([] : List Str) ++ (f_).Words).length + [t75].length)).bind fun _ => (rm (([] : List Int).length + (f_).Weights.length)).bind fun _ => (fref01_Around (IntKind.i64.wrap (Int.tdiv by_ (3:Int))) (5:Int)).bind fun t87 => (idx [(1:Int),(0:Int),(-1:Int),(1048576:Int),(1048577:Int)] t87).bind fun t88 => (rm ((([] : List Int) ++ (f_).Weights).length + [t88].length)).bind fun _ => (some (Sapi_Field.mk (f_).Name (f_).Of (f_).Up (f_).Kind (f_).Lo (f_).Hi ((([] : List Str) ++ (f_).Words) ++ [t75]) ((([] : List Int) ++ (f_).Weights) ++ [t88]))) else (mk ((f_).Words.length : Int) (0:Int)).bind fun t12 => (some (Sapi_Field.mk (f_).Name (f_).Of (f_).Up (f_).Kind (f_).Lo (f_).Hi (f_).Words t12)))).bind fun (p884 : Sapi_Field) => (some p884))).bind fun (p871 : Sapi_Field) => (some p871))).bind fun (p844 : Sapi_Field) => (some p844))).bind fun (p789 : Sapi_Field) => (some p789))).bind fun (p678 : Sapi_Field) => (some p678))).bind fun (p455 : Sapi_Field) => (some p455))).bind fun (p7 : Sapi_Field) => (some p7)
set_option maxRecDepth 100000 in
set_option maxHeartbeats 4000000 in
theorem ref09_spoiltField_ok {f_ : Sapi_Field} {how_ : Int} {by_ : Int} {r : Sapi_Field} (h : fref09_spoiltField f_ how_ by_ = some r) : FnOk Tryd.prog 36 [rSapi_Field.ty f_,ti how_,ti by_] [] (fun _ => []) (fun _ => rSapi_Field.ty r) := by
 unfold fref09_spoiltField at h
 refine FnOk.enter Tryd.func36 rfl Tryd.ntmps36 (leb rfl) (fun M0 M w0 a hpl hst => ?_)
 replace hst : St M w0 94 [(0,rSapi_Field.ty f_),(1,ti how_),(2,ti by_)] [] a w0 := hst
 refine sr mixed [v1 0 (fun v0 => box (rSapi_Field.cs f_) v0),v1 1 (fun v0 => box (rSapi_Field.cs zz0) v0)] hst (fun _ => .m [] [0] rfl rfl rfl (op_box (R := rSapi_Field) (u := f_) z0) <| .m [] [1] rfl rfl rfl (op_alloc (R := rSapi_Field) (a := zz0) tok36 zok36) <| .n) fun n0 a w hst => ?_
 replace hst := hst.to [0,1,3,4] [_,_,_,_] [_,_] rfl rfl
 refine wp_seq_k (fun K4 hK4 => ?_)
 obtain ⟨t8,ht8,h⟩ := bind_some h
 refine sr mixed [] hst (fun _ => .q 2 rfl <| .o (op_callF call13 (ref01_Around_ok ht8) (.cons (.of z0) <| .cons (.of .k) <| .nil)) <| .n) fun n1 a w hst => ?_
 replace hst := hst.to [1,2,3,5] [_,_,_,_] [_,_] rfl rfl
 refine wp_block ?_
 refine sr mixed [] hst (fun _ => .o (op_eql z0 .k) <| .o (op_assign z0) <| .n) fun n3 a w hst => ?_
 replace hst := hst.to [1,2,3,4,5] [_,_,_,_,_] [_,_] rfl rfl
 obtain ⟨p7,hp7,h⟩ := bind_some h
 have hJp7 : ∀ a w,St M w0 94 [(3,tv (n0 0)),(6,tv (n0 1))] [box (rSapi_Field.cs zz0) (n0 1),box (rSapi_Field.cs p7) (n0 0)] a w → K4 a w := by
  intro a w hst
  refine hK4 _ _ ?_
  try clear hK4 K4
  refine sr mixed [v0 (box (rSapi_Field.cs p7) (n0 1))] hst (fun _ => .u [1] rfl rfl (op_loadB (R := rSapi_Field) (u := p7) tok36 z0 rfl) <| .e [] [0] [2] rfl rfl rfl rfl (op_storeB (R := rSapi_Field) (a := p7) tok36 z2 z0 (leb rfl)) <| .n) fun n18 a w hst => ?_
  replace hst : St _ _ _ [_] [_] _ _ := (hst.pick [2]).selA [1] rfl
  refine wp_ret ?_
  obtain rfl := sj h
  exact ret_st undef [] hpl hst rfl (.cell (R := rSapi_Field) (u := p7) tok36 z0 0 rfl rfl .nil) rfl rfl rfl
 replace h := hp7
 clear hp7
 refine wt hst (fun b898 => ?_) (fun b898 => ?_)
 ·replace h := ite_t b898 h
  obtain ⟨t17,ht17,h⟩ := bind_some h
  refine wr mixed [v0 (box (rSapi_Field.cs (Sapi_Field.mk (f_).Name (f_).Of (f_).Up (IntKind.i64.wrap (t17 - (1:Int))) (f_).Lo (f_).Hi (f_).Words (f_).Weights)) (n0 0))] hst (fun _ => .q 4 rfl <| .o (op_callF call13 (ref01_Around_ok ht17) (.cons (.of z0) <| .cons (.of .k) <| .nil)) <| .o (op_sub z0 .k) <| .u [0] rfl rfl (op_fieldB fld36_3 z5) <| .e [] [0] [2] rfl rfl rfl rfl (op_storeBf (R := rI) (a := (IntKind.i64.wrap (t17 - (1:Int)))) (Ts := (rSapi_Field.cs f_)) (off := 3) tok3 z0 z1 (leb rfl)) <| .n) fun n4 a w hst => ?_
  replace hst := hst.to [6,7] [_,_] [_,_] rfl rfl
  obtain rfl := sj h
  exact hJp7 _ _ (hst.pick [0,1])
 ·replace h := ite_f b898 h
  refine sr mixed [] hst (fun _ => .o (op_eql z1 .k) <| .o (op_assign z0) <| .n) fun n5 a w hst => ?_
  replace hst := hst.to [1,3,4,5,6] [_,_,_,_,_] [_,_] rfl rfl
  obtain ⟨p455,hp455,h⟩ := bind_some h
  have hJp455 : ∀ a w,St M w0 94 [(3,tv (n0 0)),(6,tv (n0 1))] [box (rSapi_Field.cs zz0) (n0 1),box (rSapi_Field.cs p455) (n0 0)] a w → K4 a w := by
   intro a w hst
   obtain rfl := sj h
   exact hJp7 _ _ (hst.pick [0,1])
  replace h := hp455
  clear hp455
  refine wt hst (fun b897 => ?_) (fun b897 => ?_)
  ·replace h := ite_t b897 h
   obtain ⟨t24,ht24,h⟩ := bind_some h
   obtain ⟨t25,ht25,h⟩ := bind_some h
   refine wr mixed [v0 (box (rSapi_Field.cs (Sapi_Field.mk t25 (f_).Of (f_).Up (f_).Kind (f_).Lo (f_).Hi (f_).Words (f_).Weights)) (n0 0))] hst (fun _ => .o (op_buildSl (R := rS) (us := [([] : Str),([105,100] : Str),([111,102] : Str),([111,116,104,101,114] : Str),([85,112,112,101,114] : Str),([49,97] : Str),([116,104,105,114,116,101,101,110,98,121,116,101,115] : Str),([97,45,98] : Str)]) ud34 tok9 (.cons .k <| .cons .k <| .cons .k <| .cons .k <| .cons .k <| .cons .k <| .cons .k <| .cons .k <| .nil _) rfl (leb rfl)) <| .q 5 rfl <| .o (op_callF call13 (ref01_Around_ok ht24) (.cons (.of z0) <| .cons (.of .k) <| .nil)) <| .o (op_index ud34 tok9 z2 z0 ht25) <| .o (op_load tok9 z0) <| .u [0] rfl rfl (op_fieldB fld36_0 z7) <| .e [] [0] [2] rfl rfl rfl rfl (op_storeBf (R := rS) (a := t25) (Ts := (rSapi_Field.cs f_)) (off := 0) tok9 z0 z1 (leb rfl)) <| .n) fun n6 a w hst => ?_
   replace hst := hst.to [8,9] [_,_] [_,_] rfl rfl
   obtain rfl := sj h
   exact hJp455 _ _ (hst.pick [0,1])
  ·replace h := ite_f b897 h
   refine sr mixed [] hst (fun _ => .o (op_eql z1 .k) <| .o (op_assign z0) <| .n) fun n7 a w hst => ?_
   replace hst := hst.to [1,3,4,5,6] [_,_,_,_,_] [_,_] rfl rfl
   obtain ⟨p678,hp678,h⟩ := bind_some h
   have hJp678 : ∀ a w,St M w0 94 [(3,tv (n0 0)),(6,tv (n0 1))] [box (rSapi_Field.cs zz0) (n0 1),box (rSapi_Field.cs p678) (n0 0)] a w → K4 a w := by
    intro a w hst
    obtain rfl := sj h
    exact hJp455 _ _ (hst.pick [0,1])
   replace h := hp678
   clear hp678
   refine wt hst (fun b896 => ?_) (fun b896 => ?_)
   ·replace h := ite_t b896 h
    obtain ⟨t32,ht32,h⟩ := bind_some h
    obtain ⟨t33,ht33,h⟩ := bind_some h
    refine wr mixed [v0 (box (rSapi_Field.cs (Sapi_Field.mk (f_).Name t33 (f_).Up (f_).Kind (f_).Lo (f_).Hi (f_).Words (f_).Weights)) (n0 0))] hst (fun _ => .o (op_buildSl (R := rS) (us := [([] : Str),([105,100] : Str),([111,102] : Str),([112,101,114,115,111,110] : Str),([111,114,100,101,114] : Str),([108,105,102,101] : Str),([116,111,116,97,108] : Str),([98,111,114,110] : Str),([115,105,122,101] : Str)]) ud34 tok9 (.cons .k <| .cons .k <| .cons .k <| .cons .k <| .cons .k <| .cons .k <| .cons .k <| .cons .k <| .cons .k <| .nil _) rfl (leb rfl)) <| .q 5 rfl <| .o (op_callF call13 (ref01_Around_ok ht32) (.cons (.of z0) <| .cons (.of .k) <| .nil)) <| .o (op_index ud34 tok9 z2 z0 ht33) <| .o (op_load tok9 z0) <| .u [0] rfl rfl (op_fieldB fld36_1 z7) <| .e [] [0] [2] rfl rfl rfl rfl (op_storeBf (R := rS) (a := t33) (Ts := (rSapi_Field.cs f_)) (off := 1) tok9 z0 z1 (leb rfl)) <| .n) fun n8 a w hst => ?_
    replace hst := hst.to [8,9] [_,_] [_,_] rfl rfl
    obtain rfl := sj h
    exact hJp678 _ _ (hst.pick [0,1])
   ·replace h := ite_f b896 h
    refine sr mixed [] hst (fun _ => .o (op_eql z1 .k) <| .o (op_assign z0) <| .n) fun n9 a w hst => ?_
    replace hst := hst.to [1,3,4,5,6] [_,_,_,_,_] [_,_] rfl rfl
    obtain ⟨p789,hp789,h⟩ := bind_some h
    have hJp789 : ∀ a w,St M w0 94 [(3,tv (n0 0)),(6,tv (n0 1))] [box (rSapi_Field.cs zz0) (n0 1),box (rSapi_Field.cs p789) (n0 0)] a w → K4 a w := by
     intro a w hst
     obtain rfl := sj h
     exact hJp678 _ _ (hst.pick [0,1])
    replace h := hp789
    clear hp789
    refine wt hst (fun b895 => ?_) (fun b895 => ?_)
    ·replace h := ite_t b895 h
     obtain ⟨t40,ht40,h⟩ := bind_some h
     obtain ⟨t41,ht41,h⟩ := bind_some h
     refine wr mixed [v0 (box (rSapi_Field.cs (Sapi_Field.mk (f_).Name (f_).Of t41 (f_).Kind (f_).Lo (f_).Hi (f_).Words (f_).Weights)) (n0 0))] hst (fun _ => .o (op_buildSl (R := rS) (us := [([] : Str),([111,102] : Str),([98,121] : Str),([105,100] : Str),([63] : Str)]) ud34 tok9 (.cons .k <| .cons .k <| .cons .k <| .cons .k <| .cons .k <| .nil _) rfl (leb rfl)) <| .q 5 rfl <| .o (op_callF call13 (ref01_Around_ok ht40) (.cons (.of z0) <| .cons (.of .k) <| .nil)) <| .o (op_index ud34 tok9 z2 z0 ht41) <| .o (op_load tok9 z0) <| .u [0] rfl rfl (op_fieldB fld36_2 z7) <| .e [] [0] [2] rfl rfl rfl rfl (op_storeBf (R := rS) (a := t41) (Ts := (rSapi_Field.cs f_)) (off := 2) tok9 z0 z1 (leb rfl)) <| .n) fun n10 a w hst => ?_
     replace hst := hst.to [8,9] [_,_] [_,_] rfl rfl
     obtain rfl := sj h
     exact hJp789 _ _ (hst.pick [0,1])
    ·replace h := ite_f b895 h
     refine sr mixed [] hst (fun _ => .o (op_eql z1 .k) <| .o (op_assign z0) <| .n) fun n11 a w hst => ?_
     replace hst := hst.to [1,3,4,5,6] [_,_,_,_,_] [_,_] rfl rfl
     obtain ⟨p844,hp844,h⟩ := bind_some h
     have hJp844 : ∀ a w,St M w0 94 [(3,tv (n0 0)),(6,tv (n0 1))] [box (rSapi_Field.cs zz0) (n0 1),box (rSapi_Field.cs p844) (n0 0)] a w → K4 a w := by
      intro a w hst
      obtain rfl := sj h
      exact hJp789 _ _ (hst.pick [0,1])
     replace h := hp844
     clear hp844
     refine wt hst (fun b894 => ?_) (fun b894 => ?_)
     ·replace h := ite_t b894 h
      obtain ⟨t51,ht51,h⟩ := bind_some h
      obtain ⟨t52,ht52,h⟩ := bind_some h
      refine wr mixed [v0 (box (rSapi_Field.cs (Sapi_Field.mk (f_).Name (f_).Of (f_).Up (f_).Kind t52 (f_).Hi (f_).Words (f_).Weights)) (n0 0))] hst (fun _ => .u [0] rfl rfl (op_fieldB fld36_4 z2) <| .u [0] rfl rfl (op_loadBf (R := rI) (u := (f_).Lo) tok3 z0 rfl) <| .o (op_sub z0 .k) <| .o (op_buildSl (R := rI) (us := [(IntKind.i64.wrap ((f_).Lo - (1:Int))),(0:Int),(5:Int),(-1048576:Int),(-1048577:Int),(33:Int)]) ud22 tok3 (.cons z0 <| .cons .k <| .cons .k <| .cons .k <| .cons .k <| .cons .k <| .nil _) rfl (leb rfl)) <| .q 8 rfl <| .o (op_callF call13 (ref01_Around_ok ht51) (.cons (.of z0) <| .cons (.of .k) <| .nil)) <| .o (op_index ud22 tok3 z2 z0 ht52) <| .o (op_load tok3 z0) <| .u [0] rfl rfl (op_fieldB fld36_4 z10) <| .e [] [0] [2] rfl rfl rfl rfl (op_storeBf (R := rI) (a := t52) (Ts := (rSapi_Field.cs f_)) (off := 4) tok3 z0 z1 (leb rfl)) <| .n) fun n12 a w hst => ?_
      replace hst := hst.to [11,12] [_,_] [_,_] rfl rfl
      obtain rfl := sj h
      exact hJp844 _ _ (hst.pick [0,1])
     ·replace h := ite_f b894 h
      refine sr mixed [] hst (fun _ => .o (op_eql z1 .k) <| .o (op_assign z0) <| .n) fun n13 a w hst => ?_
      replace hst := hst.to [1,3,4,5,6] [_,_,_,_,_] [_,_] rfl rfl
      obtain ⟨p871,hp871,h⟩ := bind_some h
      have hJp871 : ∀ a w,St M w0 94 [(3,tv (n0 0)),(6,tv (n0 1))] [box (rSapi_Field.cs zz0) (n0 1),box (rSapi_Field.cs p871) (n0 0)] a w → K4 a w := by
       intro a w hst
       obtain rfl := sj h
       exact hJp844 _ _ (hst.pick [0,1])
      replace h := hp871
      clear hp871
      refine wt hst (fun b893 => ?_) (fun b893 => ?_)
      ·replace h := ite_t b893 h
       obtain ⟨t62,ht62,h⟩ := bind_some h
       obtain ⟨t63,ht63,h⟩ := bind_some h
       refine wr mixed [v0 (box (rSapi_Field.cs (Sapi_Field.mk (f_).Name (f_).Of (f_).Up (f_).Kind (f_).Lo t63 (f_).Words (f_).Weights)) (n0 0))] hst (fun _ => .u [0] rfl rfl (op_fieldB fld36_5 z2) <| .u [0] rfl rfl (op_loadBf (R := rI) (u := (f_).Hi) tok3 z0 rfl) <| .o (op_add z0 .k) <| .o (op_buildSl (R := rI) (us := [(IntKind.i64.wrap ((f_).Hi + (1:Int))),(0:Int),(32:Int),(33:Int),(65536:Int),(65537:Int),(1048576:Int),(1048577:Int)]) ud22 tok3 (.cons z0 <| .cons .k <| .cons .k <| .cons .k <| .cons .k <| .cons .k <| .cons .k <| .cons .k <| .nil _) rfl (leb rfl)) <| .q 8 rfl <| .o (op_callF call13 (ref01_Around_ok ht62) (.cons (.of z0) <| .cons (.of .k) <| .nil)) <| .o (op_index ud22 tok3 z2 z0 ht63) <| .o (op_load tok3 z0) <| .u [0] rfl rfl (op_fieldB fld36_5 z10) <| .e [] [0] [2] rfl rfl rfl rfl (op_storeBf (R := rI) (a := t63) (Ts := (rSapi_Field.cs f_)) (off := 5) tok3 z0 z1 (leb rfl)) <| .n) fun n14 a w hst => ?_
       replace hst := hst.to [11,12] [_,_] [_,_] rfl rfl
       obtain rfl := sj h
       exact hJp871 _ _ (hst.pick [0,1])
      ·replace h := ite_f b893 h
       refine sr mixed [] hst (fun _ => .o (op_eql z1 .k) <| .o (op_assign z0) <| .n) fun n15 a w hst => ?_
       replace hst := hst.to [1,4,5,6] [_,_,_,_] [_,_] rfl rfl
       obtain ⟨p884,hp884,h⟩ := bind_some h
       have hJp884 : ∀ a w,St M w0 94 [(3,tv (n0 0)),(6,tv (n0 1))] [box (rSapi_Field.cs zz0) (n0 1),box (rSapi_Field.cs p884) (n0 0)] a w → K4 a w := by
        intro a w hst
        obtain rfl := sj h
        exact hJp871 _ _ (hst.pick [0,1])
       replace h := hp884
       clear hp884
       refine wt hst (fun b892 => ?_) (fun b892 => ?_)
       ·replace h := ite_t b892 h
        refine wp_seq_k (fun K889 hK889 => ?_)
        obtain ⟨u71,hu71,h⟩ := bind_some h
        obtain ⟨t74,ht74,h⟩ := bind_some h
        obtain ⟨t75,ht75,h⟩ := bind_some h
        obtain ⟨u78,hu78,h⟩ := bind_some h
        refine wr mixed [v1 0 (fun v0 => own rS 9 ([] : List Str) v0),v1 3 (fun v0 => own rS 9 (([] : List Str) ++ (f_).Words) v0),v0 (box (rSapi_Field.cs (Sapi_Field.mk (f_).Name (f_).Of (f_).Up (f_).Kind (f_).Lo (f_).Hi ((([] : List Str) ++ (f_).Words) ++ [t75]) (f_).Weights)) (n0 0))] hst (fun _ => .m [] [2] rfl rfl rfl (op_buildSlO (R := rS) (us := ([] : List Str)) ud34 tok9 (.nil _) rfl (leb rfl) (leb rfl)) <| .u [0] rfl rfl (op_fieldB fld36_6 z2) <| .u [0] rfl rfl (op_loadBf (R := (rSl rS)) (u := (f_).Words) tok34 z0 rfl) <| .e [] [2] [3] rfl rfl rfl rfl (op_append (R := rS) ud34 tok9 (leb rfl) z2 z0 hu71) <| .o (op_buildSl (R := rS) (us := [([109,111,114,101] : Str),([114,101,100] : Str),([] : Str)]) ud34 tok9 (.cons .k <| .cons .k <| .cons .k <| .nil _) rfl (leb rfl)) <| .q 8 rfl <| .o (op_callF call13 (ref01_Around_ok ht74) (.cons (.of z0) <| .cons (.of .k) <| .nil)) <| .o (op_index ud34 tok9 z2 z0 ht75) <| .o (op_load tok9 z0) <| .o (op_buildSl (R := rS) (us := [t75]) ud34 tok9 (.cons z0 <| .nil _) rfl (leb rfl)) <| .e [] [3] [] rfl rfl rfl rfl (.roE (op_append (R := rS) ud34 tok9 (leb rfl) z6 z0 hu78)) <| .u [0] rfl rfl (op_fieldB fld36_6 z12) <| .e [] [0] [4] rfl rfl rfl rfl (op_storeBf (R := (rSl rS)) (a := ((([] : List Str) ++ (f_).Words) ++ [t75])) (Ts := (rSapi_Field.cs f_)) (off := 6) tok34 z0 z1 (leb rfl)) <| .n) fun n16 a w hst => ?_
        replace hst := hst.to [13,14,15] [_,_,_] [_,_] rfl rfl
        refine hK889 _ _ ?_
        try clear hK889 K889
        obtain ⟨u83,hu83,h⟩ := bind_some h
        obtain ⟨t87,ht87,h⟩ := bind_some h
        obtain ⟨t88,ht88,h⟩ := bind_some h
        obtain ⟨u91,hu91,h⟩ := bind_some h
        refine wr mixed [v1 0 (fun v0 => own rI 3 ([] : List Int) v0),v1 3 (fun v0 => own rI 3 (([] : List Int) ++ (f_).Weights) v0),v0 (box (rSapi_Field.cs (Sapi_Field.mk (f_).Name (f_).Of (f_).Up (f_).Kind (f_).Lo (f_).Hi ((([] : List Str) ++ (f_).Words) ++ [t75]) ((([] : List Int) ++ (f_).Weights) ++ [t88]))) (n0 0))] hst (fun _ => .m [] [2] rfl rfl rfl (op_buildSlO (R := rI) (us := ([] : List Int)) ud22 tok3 (.nil _) rfl (leb rfl) (leb rfl)) <| .u [1] rfl rfl (op_fieldB fld36_7 z1) <| .u [1] rfl rfl (op_loadBf (R := (rSl rI)) (u := (f_).Weights) tok22 z0 rfl) <| .e [] [2] [3] rfl rfl rfl rfl (op_append (R := rI) ud22 tok3 (leb rfl) z2 z0 hu83) <| .o (op_buildSl (R := rI) (us := [(1:Int),(0:Int),(-1:Int),(1048576:Int),(1048577:Int)]) ud22 tok3 (.cons .k <| .cons .k <| .cons .k <| .cons .k <| .cons .k <| .nil _) rfl (leb rfl)) <| .q 7 rfl <| .o (op_quo z0 .k (by decide)) <| .o (op_callF call13 (ref01_Around_ok ht87) (.cons (.of z0) <| .cons (.of .k) <| .nil)) <| .o (op_index ud22 tok3 z3 z0 ht88) <| .o (op_load tok3 z0) <| .o (op_buildSl (R := rI) (us := [t88]) ud22 tok3 (.cons z0 <| .nil _) rfl (leb rfl)) <| .e [] [3] [] rfl rfl rfl rfl (.roE (op_append (R := rI) ud22 tok3 (leb rfl) z7 z0 hu91)) <| .u [1] rfl rfl (op_fieldB fld36_7 z12) <| .e [] [1] [4] rfl rfl rfl rfl (op_storeBf (R := (rSl rI)) (a := ((([] : List Int) ++ (f_).Weights) ++ [t88])) (Ts := (rSapi_Field.cs (Sapi_Field.mk (f_).Name (f_).Of (f_).Up (f_).Kind (f_).Lo (f_).Hi ((([] : List Str) ++ (f_).Words) ++ [t75]) (f_).Weights))) (off := 7) tok22 z0 z1 (leb rfl)) <| .n) fun n17 a w hst => ?_
        replace hst := hst.to [13,14] [_,_] [_,_] rfl rfl
        obtain rfl := sj h
        exact hJp884 _ _ (hst.pick [0,1])
       ·replace h := ite_f b892 h
        obtain ⟨t12,ht12,h⟩ := bind_some h
        refine wr mixed [v0 (box (rSapi_Field.cs (Sapi_Field.mk (f_).Name (f_).Of (f_).Up (f_).Kind (f_).Lo (f_).Hi (f_).Words t12)) (n0 0))] hst (fun _ => .u [0] rfl rfl (op_fieldB fld36_6 z1) <| .u [0] rfl rfl (op_loadBf (R := (rSl rS)) (u := (f_).Words) tok34 z0 rfl) <| .o (op_len ud34 z0) <| .o (op_make (R := rI) ud22 tok3 zok3 (leb rfl) z0 z0 ht12) <| .u [0] rfl rfl (op_fieldB fld36_7 z5) <| .e [] [0] [2] rfl rfl rfl rfl (op_storeBf (R := (rSl rI)) (a := t12) (Ts := (rSapi_Field.cs f_)) (off := 7) tok22 z0 z1 (leb rfl)) <| .n) fun n2 a w hst => ?_
        replace hst := hst.to [6,7] [_,_] [_,_] rfl rfl
        obtain rfl := sj h
        exact hJp884 _ _ (hst.pick [0,1])

end Go.Proofs.YthdfmpocknmleaaDoor

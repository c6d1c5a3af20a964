/- Go functions as Lean functions, and the proofs that they compute them, written by a program. No condition. -/
import Derived.Test.YthdfmpocknmleaaGreatDoorGenA
namespace Go.Proofs.YthdfmpocknmleaaGreatDoor
open Go.Sim

/- diorama/dioramaref09.Schema -/
noncomputable def fref09_Schema (l_ : (List Int)) : Option (Sapi_Schema) := (sub l_ (0:Int) (imin (l_.length : Int) (200:Int))).bind fun t17 => (fref09_Maker_Take (Sref09_Maker.mk t17 (0:Int)) (4:Int)).bind fun t21 => (fref09_Maker_Take t21.2 (3:Int)).bind fun t24 => (tailrec (fun (s13 : Int × List Sapi_Kind × Sref09_Maker) => ((if (decide (s13.1 < (IntKind.i64.wrap ((1:Int) + t24.1)))) = true then (fref09_Maker_kind s13.2.2 s13.2.1).bind fun t36 => (rm (t36.2.2.length + [t36.1].length)).bind fun _ => (some (.inl ((IntKind.i64.wrap (s13.1 + (1:Int))),(t36.2.2 ++ [t36.1]),t36.2.1))) else (some (.inr (s13.2.1,s13.2.2)))) : Option ((Int × List Sapi_Kind × Sref09_Maker) ⊕ ((List Sapi_Kind × Sref09_Maker))))) ((0:Int),([] : List Sapi_Kind),t24.2)).bind fun (p24 : (List Sapi_Kind × Sref09_Maker)) => (fref09_Maker_Take p24.2 (3:Int)).bind fun t42 => (sub [([110,101,119] : Str),([111,112,101,110] : Str),([100,111,110,101] : Str),([115,104,117,116] : Str)] (0:Int) (IntKind.i64.wrap ((2:Int) + t42.1))).bind fun t44 => (tailrec (fun (s32 : Int × List A2_Int) => ((if (decide ((IntKind.i64.wrap (s32.1 + (1:Int))) < (t44.length : Int))) = true then (rm (s32.2.length + [(A2_Int.mk s32.1 (IntKind.i64.wrap (s32.1 + (1:Int))))].length)).bind fun _ => (some (.inl ((IntKind.i64.wrap (s32.1 + (1:Int))),(s32.2 ++ [(A2_Int.mk s32.1 (IntKind.i64.wrap (s32.1 + (1:Int))))])))) else (some (.inr s32.2))) : Option ((Int × List A2_Int) ⊕ ((List A2_Int))))) ((0:Int),([] : List A2_Int))).bind fun (p43 : (List A2_Int)) => (fref09_Maker_Take t42.2 (2:Int)).bind fun t64 => ((if (t64.1 == (0:Int)) = true then (rm (p43.length + [(A2_Int.mk (1:Int) (0:Int))].length)).bind fun _ => (some (p43 ++ [(A2_Int.mk (1:Int) (0:Int))])) else (some p43))).bind fun (p47 : List A2_Int) => (fref09_Maker_Take t64.2 (3:Int)).bind fun t73 => ((if (t73.1 == (0:Int)) = true then (rm (p47.length + [(A2_Int.mk (0:Int) (IntKind.i64.wrap ((t44.length : Int) - (1:Int))))].length)).bind fun _ => (some (p47 ++ [(A2_Int.mk (0:Int) (IntKind.i64.wrap ((t44.length : Int) - (1:Int))))])) else (some p47))).bind fun (p52 : List A2_Int) => (rm (([] : List Sapi_Life).length + [(Sapi_Life.mk ([108,105,102,101] : Str) t44 p52)].length)).bind fun _ => (tailrec (fun (s58 : Int × List Sapi_Rule × Sref09_Maker) => ((if ((decide (s58.1 < (IntKind.i64.wrap ((1:Int) + t24.1)))) && (decide ((s58.2.1.length : Int) < (2:Int)))) = true then (idx p24.1 s58.1).bind fun t106 => (fref09_Maker_rule s58.2.2 t106).bind fun t108 => ((if t108.2.1 = true then (rm (s58.2.1.length + [t108.1].length)).bind fun _ => (some (s58.2.1 ++ [t108.1])) else (some s58.2.1))).bind fun (p93 : List Sapi_Rule) => (some (.inl ((IntKind.i64.wrap (s58.1 + (1:Int))),p93,t108.2.2))) else (some (.inr s58.2.1))) : Option ((Int × List Sapi_Rule × Sref09_Maker) ⊕ ((List Sapi_Rule))))) ((0:Int),([] : List Sapi_Rule),t73.2)).bind fun (p83 : (List Sapi_Rule)) => (some (Sapi_Schema.mk t21.1 p24.1 (([] : List Sapi_Life) ++ [(Sapi_Life.mk ([108,105,102,101] : Str) t44 p52)]) p83))
set_option maxRecDepth 100000 in
set_option maxHeartbeats 4000000 in
theorem ref09_Schema_ok {l_ : (List Int)} {r : Sapi_Schema} (h : fref09_Schema l_ = some r) : FnOk Tryz.prog 22 [tsl rI l_] [] (fun _ => []) (fun _ => rSapi_Schema.ty r) := by
 unfold fref09_Schema at h
 refine FnOk.enter Tryz.func22 rfl Tryz.ntmps22 (leb rfl) (fun M0 M w0 a hpl hst => ?_)
 replace hst : St M w0 119 [(0,tsl rI l_)] [] a w0 := hst
 refine sr mixed [v1 0 (fun v0 => box (rSapi_Schema.cs zz4) v0)] hst (fun _ => .m [] [0] rfl rfl rfl (op_alloc (R := rSapi_Schema) (a := zz4) tok34 zok34) <| .n) fun n0 a w hst => ?_
 replace hst := hst.to [0,1] [_,_] [_] rfl rfl
 obtain ⟨t17,ht17,h⟩ := bind_some h
 refine sr mixed [v1 6 (fun v0 => box (rSref09_Maker.cs (Sref09_Maker.mk t17 (0:Int))) v0)] hst (fun _ => .q 1 rfl <| .q 2 rfl <| .o (op_len ud22 z0) <| .o (op_min z0 .k) <| .o (op_slice ud22 tok3 z3 (.no _) (.op z0) ht17) <| .p (T := rSref09_Maker.ty (Sref09_Maker.mk t17 (0:Int))) rfl (op_build Tryz.underlying95 pl95 zv95 zc95 (.cons (R := (rSl rI)) (u := t17) rfl z0 (leb rfl) <| .nil _)) <| .m [] [1] rfl rfl rfl (op_box (R := rSref09_Maker) (u := (Sref09_Maker.mk t17 (0:Int))) z0) <| .ud (f := fun v => tv v) 6 rfl [] rfl rfl (op_assign z0) <| .n) fun n1 a w hst => ?_
 replace hst := hst.to [7,8] [_,_] [_,_] rfl rfl
 obtain ⟨t21,ht21,h⟩ := bind_some h
 refine sr mixed [v0 (box (rSref09_Maker.cs t21.2) (n1 6)),v1 3 (fun v0 => box (rSapi_Schema.cs zz4) v0),v1 3 (fun v0 => box ([ti t21.1,tvs nilV,tvs nilV,tvs nilV]) v0)] hst (fun _ => .q 0 rfl <| .e [] [1] [2] rfl rfl rfl rfl (op_callF call51 (ref09_Maker_Take_ok ht21) (.cons (.of z0) <| .cons (.of .k) <| .nil)) <| .p (T := tagg ([ti t21.1,tvs nilV,tvs nilV,tvs nilV])) rfl (op_build ud34 pl34 zv34 (zagg34_1_2_3).1 (.cons (R := rI) (u := t21.1) rfl z0 (leb rfl) <| .nil _)) <| .m [] [3] rfl rfl rfl (op_alloc (R := rSapi_Schema) (a := zz4) tok34 zok34) <| .e [] [3] [4] rfl rfl rfl rfl (op_storeB (R := (rAgg ([ti t21.1,tvs nilV,tvs nilV,tvs nilV]) (one_cons (one_tv rfl) (one_cons one_tvs (one_cons one_tvs (one_cons one_tvs one_nil)))))) (a := ()) (tokA tok34 (one_cons (one_tv rfl) (one_cons one_tvs (one_cons one_tvs (one_cons one_tvs one_nil)))) rfl rfl) z0 z1 (leb rfl)) <| .n) fun n2 a w hst => ?_
 replace hst : St _ _ _ [_,_,_] [_,_,_,_,_,_] _ _ := (((hst.pick [3,4,5]).nil (rSapi_Kind) 47).nil (rSapi_Life) 67).nil (rSapi_Rule) 100
 obtain ⟨t24,ht24,h⟩ := bind_some h
 refine sr mixed [v0 (box (rSref09_Maker.cs t24.2) (n1 6))] hst (fun _ => .q 1 rfl <| .e [] [4] [6] rfl rfl rfl rfl (op_callF call51 (ref09_Maker_Take_ok ht24) (.cons (.of z0) <| .cons (.of .k) <| .nil)) <| .o (op_add .k z0) <| .o (op_assign z0) <| .n) fun n3 a w hst => ?_
 replace hst := hst.to [3,4,5,6] [_,_,_,_] [_,_,_,_,_,_] rfl rfl
 refine wp_seq_k (fun K11 hK11 => ?_)
 refine sr mixed [] hst (fun _ => .o (op_assign .k) <| .n) fun n4 a w hst => ?_
 replace hst := hst.to [0,1,2,3,4] [_,_,_,_,_] [_,_,_,_,_,_] rfl rfl
 obtain ⟨e14,he14,h⟩ := bind_some h
 have hJp24 : ∀ (p24 : List Sapi_Kind × Sref09_Maker) (v25 : Value) a w,p24 = e14 → St M w0 119 [(5,ti (IntKind.i64.wrap ((1:Int) + t24.1))),(4,tv (n2 3)),(3,tv (n1 6)),(2,tv (n0 0))] [own rSapi_Rule 100 ([] : List Sapi_Rule) nilV,own rSapi_Life 67 ([] : List Sapi_Life) nilV,own rSapi_Kind 47 p24.1 v25,box (rSapi_Schema.cs zz4) (n0 0),box ([ti t21.1,tvs v25,tvs nilV,tvs nilV]) (n2 3),box (rSref09_Maker.cs p24.2) (n1 6)] a w → K11 a w := by
  intro p24 v25 a w he hst
  subst he
  refine hK11 _ _ ?_
  try clear hK11 K11
  obtain ⟨t42,ht42,h⟩ := bind_some h
  obtain ⟨t44,ht44,h⟩ := bind_some h
  refine sr mixed [v0 (box (rSref09_Maker.cs t42.2) (n1 6))] hst (fun _ => .o (op_buildSl (R := rS) (us := [([110,101,119] : Str),([111,112,101,110] : Str),([100,111,110,101] : Str),([115,104,117,116] : Str)]) ud38 tok9 (.cons .k <| .cons .k <| .cons .k <| .cons .k <| .nil _) rfl (leb rfl)) <| .q 3 rfl <| .e [] [5] [6] rfl rfl rfl rfl (op_callF call51 (ref09_Maker_Take_ok ht42) (.cons (.of z0) <| .cons (.of .k) <| .nil)) <| .o (op_add .k z0) <| .o (op_slice ud38 tok9 z3 (.no _) (.op z0) ht44) <| .o (op_assign z0) <| .n) fun n8 a w hst => ?_
  replace hst := hst.to [5,6,7,8,9] [_,_,_,_,_] [_,_,_,_,_,_] rfl rfl
  refine sr mixed [v1 2 (fun v0 => box (rSapi_Life.cs zz2) v0),v1 2 (fun v0 => box ([tv (.string (sB ([108,105,102,101] : Str))),tsl rS t44,tvs nilV]) v0)] hst (fun _ => .q 0 rfl <| .p (T := tagg ([tv (.string (sB ([108,105,102,101] : Str))),tsl rS t44,tvs nilV])) rfl (op_build Tryz.underlying67 pl67 zv67 (zagg67_2).1 (.cons (R := rS) (u := ([108,105,102,101] : Str)) rfl .k (leb rfl) <| .cons (R := (rSl rS)) (u := t44) rfl z0 (leb rfl) <| .nil _)) <| .m [] [6] rfl rfl rfl (op_alloc (R := rSapi_Life) (a := zz2) tok67 zok67) <| .e [] [6] [7] rfl rfl rfl rfl (op_storeB (R := (rAgg ([tv (.string (sB ([108,105,102,101] : Str))),tsl rS t44,tvs nilV]) (one_cons (one_tv rfl) (one_cons one_tsl (one_cons one_tvs one_nil))))) (a := ()) (tokA tok67 (one_cons (one_tv rfl) (one_cons one_tsl (one_cons one_tvs one_nil))) rfl rfl) z0 z1 (leb rfl)) <| .n) fun n9 a w hst => ?_
  replace hst : St _ _ _ [_,_,_,_,_,_] [_,_,_,_,_,_,_,_] _ _ := (hst.pick [2,3,4,5,6,7]).nil (rA2_Int) 98
  refine wp_seq_k (fun K30 hK30 => ?_)
  refine sr mixed [] hst (fun _ => .o (op_assign .k) <| .n) fun n10 a w hst => ?_
  replace hst := hst.to [0,1,2,3,4,5,6] [_,_,_,_,_,_,_] [_,_,_,_,_,_,_,_] rfl rfl
  obtain ⟨e33,he33,h⟩ := bind_some h
  have hJp43 : ∀ (p43 : List A2_Int) (v44 : Value) a w,p43 = e33 → St M w0 119 [(8,tv (n9 2)),(7,tsl rS t44),(5,ti (IntKind.i64.wrap ((1:Int) + t24.1))),(4,tv (n2 3)),(3,tv (n1 6)),(2,tv (n0 0))] [own rA2_Int 98 p43 v44,own rSapi_Rule 100 ([] : List Sapi_Rule) nilV,own rSapi_Life 67 ([] : List Sapi_Life) nilV,own rSapi_Kind 47 p24.1 v25,box (rSapi_Schema.cs zz4) (n0 0),box ([ti t21.1,tvs v25,tvs nilV,tvs nilV]) (n2 3),box (rSref09_Maker.cs t42.2) (n1 6),box ([tv (.string (sB ([108,105,102,101] : Str))),tsl rS t44,tvs v44]) (n9 2)] a w → K30 a w := by
   intro p43 v44 a w he hst
   subst he
   refine hK30 _ _ ?_
   try clear hK30 K30
   refine wp_seq_k (fun K45 hK45 => ?_)
   obtain ⟨t64,ht64,h⟩ := bind_some h
   refine sr mixed [v0 (box (rSref09_Maker.cs t64.2) (n1 6))] hst (fun _ => .q 4 rfl <| .e [] [6] [8] rfl rfl rfl rfl (op_callF call51 (ref09_Maker_Take_ok ht64) (.cons (.of z0) <| .cons (.of .k) <| .nil)) <| .o (op_eql z0 .k) <| .n) fun n14 a w hst => ?_
   replace hst := hst.to [2,3,4,5,6,7,8] [_,_,_,_,_,_,_] [_,_,_,_,_,_,_,_] rfl rfl
   obtain ⟨p47,hp47,h⟩ := bind_some h
   have hJp47 : ∀ (v49 : Value) a w,St M w0 119 [(8,tv (n9 2)),(7,tsl rS t44),(5,ti (IntKind.i64.wrap ((1:Int) + t24.1))),(4,tv (n2 3)),(3,tv (n1 6)),(2,tv (n0 0))] [own rSapi_Rule 100 ([] : List Sapi_Rule) nilV,own rSapi_Life 67 ([] : List Sapi_Life) nilV,own rSapi_Kind 47 p24.1 v25,box (rSapi_Schema.cs zz4) (n0 0),box ([ti t21.1,tvs v25,tvs nilV,tvs nilV]) (n2 3),box (rSref09_Maker.cs t64.2) (n1 6),own rA2_Int 98 p47 v49,box ([tv (.string (sB ([108,105,102,101] : Str))),tsl rS t44,tvs v49]) (n9 2)] a w → K45 a w := by
    intro v49 a w hst
    refine hK45 _ _ ?_
    try clear hK45 K45
    refine wp_seq_k (fun K50 hK50 => ?_)
    obtain ⟨t73,ht73,h⟩ := bind_some h
    refine sr mixed [v0 (box (rSref09_Maker.cs t73.2) (n1 6))] hst (fun _ => .q 4 rfl <| .e [] [5] [8] rfl rfl rfl rfl (op_callF call51 (ref09_Maker_Take_ok ht73) (.cons (.of z0) <| .cons (.of .k) <| .nil)) <| .o (op_eql z0 .k) <| .n) fun n16 a w hst => ?_
    replace hst := hst.to [2,3,4,5,6,7,8] [_,_,_,_,_,_,_] [_,_,_,_,_,_,_,_] rfl rfl
    obtain ⟨p52,hp52,h⟩ := bind_some h
    have hJp52 : ∀ (v54 : Value) a w,St M w0 119 [(8,tv (n9 2)),(5,ti (IntKind.i64.wrap ((1:Int) + t24.1))),(4,tv (n2 3)),(3,tv (n1 6)),(2,tv (n0 0))] [own rSapi_Rule 100 ([] : List Sapi_Rule) nilV,own rSapi_Life 67 ([] : List Sapi_Life) nilV,own rSapi_Kind 47 p24.1 v25,box (rSapi_Schema.cs zz4) (n0 0),box ([ti t21.1,tvs v25,tvs nilV,tvs nilV]) (n2 3),box (rSref09_Maker.cs t73.2) (n1 6),own rA2_Int 98 p52 v54,box ([tv (.string (sB ([108,105,102,101] : Str))),tsl rS t44,tvs v54]) (n9 2)] a w → K50 a w := by
     intro v54 a w hst
     refine hK50 _ _ ?_
     try clear hK50 K50
     refine wp_seq_k (fun K55 hK55 => ?_)
     replace hst : St _ _ _ [_,_,_,_,_] [_,_,_,_,_,_,_] _ _ := ((hst.pick [0,1,2,3,4]).selA [6,7,0,1,2,3,4,5] rfl).shareC 2 rfl
     obtain ⟨u88,hu88,h⟩ := bind_some h
     refine wr mixed [v1 4 (fun v0 => own rSapi_Life 67 (([] : List Sapi_Life) ++ [(Sapi_Life.mk ([108,105,102,101] : Str) t44 p52)]) v0),v1 4 (fun v0 => box ([ti t21.1,tvs v25,tvs v0,tvs nilV]) (n2 3))] hst (fun _ => .u [5] rfl rfl (op_fieldB fld34_2 z2) <| .u [5] rfl rfl (op_loadBVf (u := nilV) tokV31 z0 rfl) <| .u [0] rfl rfl (op_loadB (R := rSapi_Life) (u := (Sapi_Life.mk ([108,105,102,101] : Str) t44 p52)) tok67 z2 rfl) <| .o (op_buildSl (R := rSapi_Life) (us := [(Sapi_Life.mk ([108,105,102,101] : Str) t44 p52)]) ud31 tok67 (.cons z0 <| .nil _) rfl (leb rfl)) <| .e [] [2] [7] rfl rfl rfl rfl (op_append (R := rSapi_Life) ud31 tok67 (leb rfl) z2 z0 hu88) <| .u [5] rfl rfl (op_fieldB fld34_2 z7) <| .e [7] [5] [8] rfl rfl rfl rfl (op_storeBVf (R := rSapi_Life) (e := 67) (Ts := ([ti t21.1,tvs v25,tvs nilV,tvs nilV])) (off := 2) tokV31 z0 z1 (leb rfl)) <| .n) fun n18 a w hst => ?_
     replace hst : St _ _ _ [_,_,_,_,_] [_,_,_,_,_,_] _ _ := (hst.pick [4,7,8,9,10]).selA [1,2,3,4,5,6] rfl
     refine hK55 _ _ ?_
     try clear hK55 K55
     refine wp_seq_k (fun K56 hK56 => ?_)
     refine sr mixed [] hst (fun _ => .o (op_assign .k) <| .n) fun n19 a w hst => ?_
     replace hst := hst.to [0,1,2,3,4,5] [_,_,_,_,_,_] [_,_,_,_,_,_] rfl rfl
     obtain ⟨e59,he59,h⟩ := bind_some h
     have hJp83 : ∀ (p83 : List Sapi_Rule) (v84 : Value) a w,p83 = e59 → St M w0 119 [(4,tv (n2 3)),(2,tv (n0 0))] [own rSapi_Rule 100 p83 v84,own rSapi_Kind 47 p24.1 v25,box (rSapi_Schema.cs zz4) (n0 0),own rSapi_Life 67 (([] : List Sapi_Life) ++ [(Sapi_Life.mk ([108,105,102,101] : Str) t44 p52)]) (n18 4),box ([ti t21.1,tvs v25,tvs (n18 4),tvs v84]) (n2 3)] a w → K56 a w := by
      intro p83 v84 a w he hst
      subst he
      refine hK56 _ _ ?_
      try clear hK56 K56
      refine wp_seq_k (fun K85 hK85 => ?_)
      replace hst : St _ _ _ [_,_] [_,_,_,_] _ _ := ((hst.pick [0,1]).selA [1,4,0,2,3] rfl).shareC 1 rfl
      replace hst : St _ _ _ [_,_] [_,_,_] _ _ := ((hst.pick [0,1]).selA [3,0,1,2] rfl).shareC 2 rfl
      replace hst : St _ _ _ [_,_] [_,_] _ _ := ((hst.pick [0,1]).selA [1,0,2] rfl).shareC 3 rfl
      refine wr mixed [v0 (box (rSapi_Schema.cs (Sapi_Schema.mk t21.1 p24.1 (([] : List Sapi_Life) ++ [(Sapi_Life.mk ([108,105,102,101] : Str) t44 p52)]) p83)) (n0 0))] hst (fun _ => .u [0] rfl rfl (op_loadB (R := rSapi_Schema) (u := (Sapi_Schema.mk t21.1 p24.1 (([] : List Sapi_Life) ++ [(Sapi_Life.mk ([108,105,102,101] : Str) t44 p52)]) p83)) tok34 z0 rfl) <| .e [] [1] [2] rfl rfl rfl rfl (op_storeB (R := rSapi_Schema) (a := (Sapi_Schema.mk t21.1 p24.1 (([] : List Sapi_Life) ++ [(Sapi_Life.mk ([108,105,102,101] : Str) t44 p52)]) p83)) tok34 z2 z0 (leb rfl)) <| .n) fun n25 a w hst => ?_
      replace hst : St _ _ _ [_] [_] _ _ := (hst.pick [2]).selA [1] rfl
      refine hK85 _ _ ?_
      try clear hK85 K85
      refine wp_ret ?_
      obtain rfl := sj h
      exact ret_st undef [] hpl hst rfl (.cell (R := rSapi_Schema) (u := (Sapi_Schema.mk t21.1 p24.1 (([] : List Sapi_Life) ++ [(Sapi_Life.mk ([108,105,102,101] : Str) t44 p52)]) p83)) tok34 z0 0 rfl rfl .nil) rfl rfl rfl
     refine wp_block ?_
     refine wp_loopK _ (fun (s58 : Int × List Sapi_Rule × Sref09_Maker) a w => ∃ v71 : Value,St M w0 119 [(10,ti s58.1),(5,ti (IntKind.i64.wrap ((1:Int) + t24.1))),(4,tv (n2 3)),(3,tv (n1 6)),(2,tv (n0 0))] [own rSapi_Rule 100 s58.2.1 v71,own rSapi_Kind 47 p24.1 v25,box (rSapi_Schema.cs zz4) (n0 0),box (rSref09_Maker.cs s58.2.2) (n1 6),own rSapi_Life 67 (([] : List Sapi_Life) ++ [(Sapi_Life.mk ([108,105,102,101] : Str) t44 p52)]) (n18 4),box ([ti t21.1,tvs v25,tvs (n18 4),tvs v71]) (n2 3)] a w) _ _ he59 ⟨nilV,hst.pick [0,2,3,4,5]⟩ ?_
     clear h
     intro s58 o a w K86 hI h ho hK86
     obtain ⟨v71,hst⟩ := hI
     refine wp_seq_k (fun K87 hK87 => ?_)
     refine sr mixed [] hst (fun _ => .q 0 rfl <| .q 2 rfl <| .o (op_lss z1 z0) <| .q 0 rfl <| .gu [5] rfl rfl rfl (.b 0 rfl) (fun _ => op_fieldB fld34_3 z6) <| .gu [5] rfl rfl rfl (.b 1 rfl) (fun hc => op_loadBVf (u := v71) tokV32 (.cond z0 hc) rfl) <| .gu [0] rfl rfl rfl (.b 2 rfl) (fun hc => op_lenO ud32 (.cond z0 hc)) <| .g rfl rfl (.b 3 rfl) (fun hc => op_lss (.cond z0 hc) .k) <| .o (op_and z4 (fun hp => (.cond z0 (beqT hp)))) <| .n) fun n20 a w hst => ?_
     replace hst := hst.to [8,9,10,11,12,13] [_,_,_,_,_,_] [_,_,_,_,_,_] rfl rfl
     refine wt hst (fun b97 => ?_) (fun b97 => ?_)
     ·replace h := ite_t b97 h
      refine wp_skip ?_
      refine hK87 _ _ ?_
      try clear hK87 K87
      refine wp_seq_k (fun K89 hK89 => ?_)
      refine wp_block ?_
      obtain ⟨t106,ht106,h⟩ := bind_some h
      obtain ⟨t108,ht108,h⟩ := bind_some h
      refine sr mixed [v0 (box (rSref09_Maker.cs t108.2.2) (n1 6)),v1 10 (fun v0 => box (rSapi_Rule.cs zz3) v0),v1 10 (fun v0 => box (rSapi_Rule.cs t108.1) v0)] hst (fun _ => .q 4 rfl <| .u [5] rfl rfl (op_fieldB fld34_1 z4) <| .u [5] rfl rfl (op_loadBVf (u := v25) tokV30 z0 rfl) <| .q 4 rfl <| .u [1] rfl rfl (op_indexOi ud30 tok47 z1 z0 ht106) <| .u [1] rfl rfl (op_loadO tok47 z0 ht106) <| .e [] [3] [6] rfl rfl rfl rfl (op_callF call53 (ref09_Maker_rule_ok ht108) (.cons (.of z5) <| .cons (.of z0) <| .nil)) <| .q 0 rfl <| .o (op_extract z0 rfl) <| .o (op_extract z1 rfl) <| .m [] [7] rfl rfl rfl (op_alloc (R := rSapi_Rule) (a := zz3) tok100 zok100) <| .e [] [7] [8] rfl rfl rfl rfl (op_storeB (R := rSapi_Rule) (a := t108.1) tok100 z0 z2 (leb rfl)) <| .o (op_assign z1) <| .n) fun n22 a w hst => ?_
      replace hst : St _ _ _ [_,_,_,_,_,_,_,_] [_,_,_,_,_,_] _ _ := ((((hst.pick [2,10,11,13,14,15,16,17]).selA [6,0,1,2,3,4,5] rfl).shareB 1 rfl).add 0 rfl (fun _ _ _ h => h.2)).pick [0,2,4,5,6,7,8,9]
      refine sr mixed [] hst (fun _ => .q 2 rfl <| .n) fun n23 a w hst => ?_
      replace hst := hst.to [0,1,2,4,5,6,7,8] [_,_,_,_,_,_,_,_] [_,_,_,_,_,_] rfl rfl
      obtain ⟨p93,hp93,h⟩ := bind_some h
      have hJp93 : ∀ (v95 : Value) a w,St M w0 119 [(10,ti s58.1),(5,ti (IntKind.i64.wrap ((1:Int) + t24.1))),(4,tv (n2 3)),(3,tv (n1 6)),(2,tv (n0 0))] [own rSapi_Kind 47 p24.1 v25,box (rSapi_Schema.cs zz4) (n0 0),own rSapi_Life 67 (([] : List Sapi_Life) ++ [(Sapi_Life.mk ([108,105,102,101] : Str) t44 p52)]) (n18 4),box (rSref09_Maker.cs t108.2.2) (n1 6),own rSapi_Rule 100 p93 v95,box ([ti t21.1,tvs v25,tvs (n18 4),tvs v95]) (n2 3)] a w → K89 a w := by
       intro v95 a w hst
       refine hK89 _ _ ?_
       try clear hK89 K89
       refine wr mixed [] hst (fun _ => .q 0 rfl <| .o (op_add z0 .k) <| .o (op_assign z0) <| .n) fun n21 a w hst => ?_
       replace hst := hst.to [2,3,4,5,6] [_,_,_,_,_] [_,_,_,_,_,_] rfl rfl
       exact hK86 _ _ _ (sj h).symm ⟨v95,(hst.pick [0,1,2,3,4]).selA [4,0,1,3,2,5] rfl⟩
      replace h := hp93
      clear hp93
      refine wt hst (fun b96 => ?_) (fun b96 => ?_)
      ·replace h := ite_t b96 h
       obtain ⟨u116,hu116,h⟩ := bind_some h
       refine wr mixed [v1 4 (fun v0 => own rSapi_Rule 100 (s58.2.1 ++ [t108.1]) v0),v1 4 (fun v0 => box ([ti t21.1,tvs v25,tvs (n18 4),tvs v0]) (n2 3))] hst (fun _ => .u [4] rfl rfl (op_fieldB fld34_3 z5) <| .u [4] rfl rfl (op_loadBVf (u := v71) tokV32 z0 rfl) <| .o (op_load tok100 z3) <| .o (op_buildSl (R := rSapi_Rule) (us := [t108.1]) ud32 tok100 (.cons z0 <| .nil _) rfl (leb rfl)) <| .e [] [0] [6] rfl rfl rfl rfl (op_append (R := rSapi_Rule) ud32 tok100 (leb rfl) z2 z0 hu116) <| .u [4] rfl rfl (op_fieldB fld34_3 z10) <| .e [6] [4] [7] rfl rfl rfl rfl (op_storeBVf (R := rSapi_Rule) (e := 100) (Ts := ([ti t21.1,tvs v25,tvs (n18 4),tvs v71])) (off := 3) tokV32 z0 z1 (leb rfl)) <| .n) fun n24 a w hst => ?_
       replace hst := hst.to [4,8,9,10,11,12,13] [_,_,_,_,_,_,_] [_,_,_,_,_,_] rfl rfl
       obtain rfl := sj h
       exact hJp93 (n24 4) _ _ (hst.pick [2,3,4,5,6])
      ·replace h := ite_f b96 h
       refine wp_skip ?_
       obtain rfl := sj h
       exact hJp93 v71 _ _ ((hst.pick [3,4,5,6,7]).selA [1,2,3,5,0,4] rfl)
     ·replace h := ite_f b97 h
      refine wp_exit ?_
      exact hJp83 _ v71 _ _ (ho _ (sj h).symm) ((hst.pick [3,5]).selA [0,1,2,4,5] rfl)
    replace h := hp52
    clear hp52
    refine wt hst (fun b98 => ?_) (fun b98 => ?_)
    ·replace h := ite_t b98 h
     obtain ⟨u82,hu82,h⟩ := bind_some h
     refine wr mixed [v1 7 (fun v0 => own rA2_Int 98 (p47 ++ [(A2_Int.mk (0:Int) (IntKind.i64.wrap ((t44.length : Int) - (1:Int))))]) v0),v1 7 (fun v0 => box ([tv (.string (sB ([108,105,102,101] : Str))),tsl rS t44,tvs v0]) (n9 2))] hst (fun _ => .u [6] rfl rfl (op_fieldB fld67_2 z1) <| .u [6] rfl rfl (op_loadBVf (u := v49) tokV65 z0 rfl) <| .q 4 rfl <| .o (op_len ud38 z0) <| .o (op_sub z0 .k) <| .p (T := rA2_Int.ty (A2_Int.mk (0:Int) (IntKind.i64.wrap ((t44.length : Int) - (1:Int))))) rfl (op_buildArr (R := rI) (us := [(0:Int),(IntKind.i64.wrap ((t44.length : Int) - (1:Int)))]) ud98 tok3 zv98 rfl (.cons .k <| .cons z0 <| .nil _)) <| .o (op_buildSl (R := rA2_Int) (us := [(A2_Int.mk (0:Int) (IntKind.i64.wrap ((t44.length : Int) - (1:Int))))]) ud65 tok98 (.cons z0 <| .nil _) rfl (leb rfl)) <| .e [] [5] [8] rfl rfl rfl rfl (op_append (R := rA2_Int) ud65 tok98 (leb rfl) z5 z0 hu82) <| .u [6] rfl rfl (op_fieldB fld67_2 z9) <| .e [8] [6] [9] rfl rfl rfl rfl (op_storeBVf (R := rA2_Int) (e := 98) (Ts := ([tv (.string (sB ([108,105,102,101] : Str))),tsl rS t44,tvs v49])) (off := 2) tokV65 z0 z1 (leb rfl)) <| .n) fun n17 a w hst => ?_
     replace hst := hst.to [7,10,12,13,14,15] [_,_,_,_,_,_] [_,_,_,_,_,_,_,_] rfl rfl
     obtain rfl := sj h
     exact hJp52 (n17 7) _ _ (hst.pick [1,2,3,4,5])
    ·replace h := ite_f b98 h
     refine wp_skip ?_
     obtain rfl := sj h
     exact hJp52 v49 _ _ ((hst.pick [1,3,4,5,6]).selA [0,1,2,3,4,7,5,6] rfl)
   replace h := hp47
   clear hp47
   refine wt hst (fun b99 => ?_) (fun b99 => ?_)
   ·replace h := ite_t b99 h
    obtain ⟨u70,hu70,h⟩ := bind_some h
    refine wr mixed [v1 4 (fun v0 => own rA2_Int 98 (p43 ++ [(A2_Int.mk (1:Int) (0:Int))]) v0),v1 4 (fun v0 => box ([tv (.string (sB ([108,105,102,101] : Str))),tsl rS t44,tvs v0]) (n9 2))] hst (fun _ => .u [6] rfl rfl (op_fieldB fld67_2 z1) <| .u [6] rfl rfl (op_loadBVf (u := v44) tokV65 z0 rfl) <| .p (T := rA2_Int.ty (A2_Int.mk (1:Int) (0:Int))) rfl (op_buildArr (R := rI) (us := [(1:Int),(0:Int)]) ud98 tok3 zv98 rfl (.cons .k <| .cons .k <| .nil _)) <| .o (op_buildSl (R := rA2_Int) (us := [(A2_Int.mk (1:Int) (0:Int))]) ud65 tok98 (.cons z0 <| .nil _) rfl (leb rfl)) <| .e [] [0] [8] rfl rfl rfl rfl (op_append (R := rA2_Int) ud65 tok98 (leb rfl) z2 z0 hu70) <| .u [6] rfl rfl (op_fieldB fld67_2 z6) <| .e [8] [6] [9] rfl rfl rfl rfl (op_storeBVf (R := rA2_Int) (e := 98) (Ts := ([tv (.string (sB ([108,105,102,101] : Str))),tsl rS t44,tvs v44])) (off := 2) tokV65 z0 z1 (leb rfl)) <| .n) fun n15 a w hst => ?_
    replace hst := hst.to [4,7,8,9,10,11,12] [_,_,_,_,_,_,_] [_,_,_,_,_,_,_,_] rfl rfl
    obtain rfl := sj h
    exact hJp47 (n15 4) _ _ (hst.pick [1,2,3,4,5,6])
   ·replace h := ite_f b99 h
    refine wp_skip ?_
    obtain rfl := sj h
    exact hJp47 v44 _ _ ((hst.pick [1,2,3,4,5,6]).selA [1,2,3,4,5,7,0,6] rfl)
  refine wp_block ?_
  refine wp_loopK _ (fun (s32 : Int × List A2_Int) a w => ∃ v38 : Value,St M w0 119 [(9,ti s32.1),(8,tv (n9 2)),(7,tsl rS t44),(5,ti (IntKind.i64.wrap ((1:Int) + t24.1))),(4,tv (n2 3)),(3,tv (n1 6)),(2,tv (n0 0))] [own rA2_Int 98 s32.2 v38,own rSapi_Rule 100 ([] : List Sapi_Rule) nilV,own rSapi_Life 67 ([] : List Sapi_Life) nilV,own rSapi_Kind 47 p24.1 v25,box (rSapi_Schema.cs zz4) (n0 0),box ([ti t21.1,tvs v25,tvs nilV,tvs nilV]) (n2 3),box (rSref09_Maker.cs t42.2) (n1 6),box ([tv (.string (sB ([108,105,102,101] : Str))),tsl rS t44,tvs v38]) (n9 2)] a w) _ _ he33 ⟨nilV,hst.pick [0,1,2,3,4,5,6]⟩ ?_
  clear h
  intro s32 o a w K100 hI h ho hK100
  obtain ⟨v38,hst⟩ := hI
  refine wp_seq_k (fun K101 hK101 => ?_)
  refine sr mixed [] hst (fun _ => .q 0 rfl <| .o (op_add z0 .k) <| .q 4 rfl <| .o (op_len ud38 z0) <| .o (op_lss z2 z0) <| .n) fun n11 a w hst => ?_
  replace hst := hst.to [4,5,6,7,8,9,10,11] [_,_,_,_,_,_,_,_] [_,_,_,_,_,_,_,_] rfl rfl
  refine wt hst (fun b104 => ?_) (fun b104 => ?_)
  ·replace h := ite_t b104 h
   refine wp_skip ?_
   refine hK101 _ _ ?_
   try clear hK101 K101
   refine wp_seq_k (fun K103 hK103 => ?_)
   refine wp_block ?_
   obtain ⟨u61,hu61,h⟩ := bind_some h
   refine wr mixed [v1 7 (fun v0 => own rA2_Int 98 (s32.2 ++ [(A2_Int.mk s32.1 (IntKind.i64.wrap (s32.1 + (1:Int))))]) v0),v1 7 (fun v0 => box ([tv (.string (sB ([108,105,102,101] : Str))),tsl rS t44,tvs v0]) (n9 2))] hst (fun _ => .u [7] rfl rfl (op_fieldB fld67_2 z2) <| .u [7] rfl rfl (op_loadBVf (u := v38) tokV65 z0 rfl) <| .q 3 rfl <| .q 4 rfl <| .o (op_add z0 .k) <| .p (T := rA2_Int.ty (A2_Int.mk s32.1 (IntKind.i64.wrap (s32.1 + (1:Int))))) rfl (op_buildArr (R := rI) (us := [s32.1,(IntKind.i64.wrap (s32.1 + (1:Int)))]) ud98 tok3 zv98 rfl (.cons z2 <| .cons z0 <| .nil _)) <| .o (op_buildSl (R := rA2_Int) (us := [(A2_Int.mk s32.1 (IntKind.i64.wrap (s32.1 + (1:Int))))]) ud65 tok98 (.cons z0 <| .nil _) rfl (leb rfl)) <| .e [] [0] [8] rfl rfl rfl rfl (op_append (R := rA2_Int) ud65 tok98 (leb rfl) z5 z0 hu61) <| .u [7] rfl rfl (op_fieldB fld67_2 z10) <| .e [8] [7] [9] rfl rfl rfl rfl (op_storeBVf (R := rA2_Int) (e := 98) (Ts := ([tv (.string (sB ([108,105,102,101] : Str))),tsl rS t44,tvs v38])) (off := 2) tokV65 z0 z1 (leb rfl)) <| .n) fun n13 a w hst => ?_
   replace hst := hst.to [7,10,11,12,13,14,15,16] [_,_,_,_,_,_,_,_] [_,_,_,_,_,_,_,_] rfl rfl
   refine hK103 _ _ ?_
   try clear hK103 K103
   refine wr mixed [] hst (fun _ => .q 1 rfl <| .o (op_add z0 .k) <| .o (op_assign z0) <| .n) fun n12 a w hst => ?_
   replace hst := hst.to [2,3,4,5,6,7,8,9] [_,_,_,_,_,_,_,_] [_,_,_,_,_,_,_,_] rfl rfl
   exact hK100 _ _ _ (sj h).symm ⟨(n13 7),(hst.pick [0,2,3,4,5,6,7]).selA [6,0,1,2,3,4,5,7] rfl⟩
  ·replace h := ite_f b104 h
   refine wp_exit ?_
   exact hJp43 _ v38 _ _ (ho _ (sj h).symm) (hst.pick [2,3,4,5,6,7])
 refine wp_block ?_
 refine wp_loopK _ (fun (s13 : Int × List Sapi_Kind × Sref09_Maker) a w => ∃ v19 : Value,St M w0 119 [(6,ti s13.1),(5,ti (IntKind.i64.wrap ((1:Int) + t24.1))),(4,tv (n2 3)),(3,tv (n1 6)),(2,tv (n0 0))] [own rSapi_Rule 100 ([] : List Sapi_Rule) nilV,own rSapi_Life 67 ([] : List Sapi_Life) nilV,own rSapi_Kind 47 s13.2.1 v19,box (rSapi_Schema.cs zz4) (n0 0),box ([ti t21.1,tvs v19,tvs nilV,tvs nilV]) (n2 3),box (rSref09_Maker.cs s13.2.2) (n1 6)] a w) _ _ he14 ⟨nilV,hst.pick [0,1,2,3,4]⟩ ?_
 clear h
 intro s13 o a w K105 hI h ho hK105
 obtain ⟨v19,hst⟩ := hI
 refine wp_seq_k (fun K106 hK106 => ?_)
 refine sr mixed [] hst (fun _ => .q 0 rfl <| .q 2 rfl <| .o (op_lss z1 z0) <| .n) fun n5 a w hst => ?_
 replace hst := hst.to [2,3,4,5,6,7] [_,_,_,_,_,_] [_,_,_,_,_,_] rfl rfl
 refine wt hst (fun b109 => ?_) (fun b109 => ?_)
 ·replace h := ite_t b109 h
  refine wp_skip ?_
  refine hK106 _ _ ?_
  try clear hK106 K106
  refine wp_seq_k (fun K108 hK108 => ?_)
  refine wp_block ?_
  obtain ⟨t36,ht36,h⟩ := bind_some h
  obtain ⟨u38,hu38,h⟩ := bind_some h
  refine wr mixed [v0 (box (rSref09_Maker.cs t36.2.1) (n1 6)),v0 (own rSapi_Kind 47 t36.2.2 v19),v1 7 (fun v0 => own rSapi_Kind 47 (t36.2.2 ++ [t36.1]) v0),v1 7 (fun v0 => box ([ti t21.1,tvs v0,tvs nilV,tvs nilV]) (n2 3))] hst (fun _ => .u [4] rfl rfl (op_fieldB fld34_1 z3) <| .u [4] rfl rfl (op_loadBVf (u := v19) tokV30 z0 rfl) <| .q 6 rfl <| .u [4] rfl rfl (op_fieldB fld34_1 z6) <| .u [4] rfl rfl (op_loadBVf (u := v19) tokV30 z0 rfl) <| .e [] [5,2] [6,7] rfl rfl rfl rfl (op_callF call52 (ref09_Maker_kind_ok ht36) (.cons (.of z2) <| .cons (.of z0) <| .nil)) <| .o (op_buildSl (R := rSapi_Kind) (us := [t36.1]) ud30 tok47 (.cons z0 <| .nil _) rfl (leb rfl)) <| .e [] [7] [8] rfl rfl rfl rfl (op_append (R := rSapi_Kind) ud30 tok47 (leb rfl) z5 z0 hu38) <| .u [4] rfl rfl (op_fieldB fld34_1 z11) <| .e [8] [4] [9] rfl rfl rfl rfl (op_storeBVf (R := rSapi_Kind) (e := 47) (Ts := ([ti t21.1,tvs v19,tvs nilV,tvs nilV])) (off := 1) tokV30 z0 z1 (leb rfl)) <| .n) fun n7 a w hst => ?_
  replace hst := hst.to [7,10,11,12,13,14] [_,_,_,_,_,_] [_,_,_,_,_,_] rfl rfl
  refine hK108 _ _ ?_
  try clear hK108 K108
  refine wr mixed [] hst (fun _ => .q 1 rfl <| .o (op_add z0 .k) <| .o (op_assign z0) <| .n) fun n6 a w hst => ?_
  replace hst := hst.to [2,3,4,5,6,7] [_,_,_,_,_,_] [_,_,_,_,_,_] rfl rfl
  exact hK105 _ _ _ (sj h).symm ⟨(n7 7),(hst.pick [0,2,3,4,5]).selA [0,1,4,2,5,3] rfl⟩
 ·replace h := ite_f b109 h
  refine wp_exit ?_
  exact hJp24 _ v19 _ _ (ho _ (sj h).symm) (hst.pick [2,3,4,5])

/- diorama/dioramaref10.Has -/
noncomputable def fref10_Has (x_ : Sapi_Schema) (kind_ : Int) (field_ : Int) : Option (Bool) := (if (((decide (kind_ < (0:Int))) || (decide (kind_ ≥ ((x_).Kinds.length : Int)))) || (decide (field_ < (0:Int)))) = true then (some false) else (idx (x_).Kinds kind_).bind fun t24 => (some (decide (field_ < ((t24).Fields.length : Int)))))
set_option maxRecDepth 100000 in
set_option maxHeartbeats 4000000 in
theorem ref10_Has_ok {x_ : Sapi_Schema} {kind_ : Int} {field_ : Int} {r : Bool} (h : fref10_Has x_ kind_ field_ = some r) : FnOk Tryz.prog 17 [rSapi_Schema.ty x_,ti kind_,ti field_] [] (fun _ => []) (fun _ => tb r) := by
 unfold fref10_Has at h
 refine FnOk.enter Tryz.func17 rfl Tryz.ntmps17 (leb rfl) (fun M0 M w0 a hpl hst => ?_)
 replace hst : St M w0 29 [(0,rSapi_Schema.ty x_),(1,ti kind_),(2,ti field_)] [] a w0 := hst
 refine sr mixed [] hst (fun _ => .o (op_boxR (R := rSapi_Schema) (u := x_) z0) <| .o (op_assign .k) <| .n) fun n0 a w hst => ?_
 replace hst := hst.to [0,3,4] [_,_,_] [] rfl rfl
 refine wp_seq_k (fun K2 hK2 => ?_)
 refine sr mixed [] hst (fun _ => .q 1 rfl <| .o (op_lss z0 .k) <| .q 0 rfl <| .g rfl rfl (.b 0 rfl) (fun _ => op_move z4) <| .g rfl rfl (.b 1 rfl) (fun _ => op_field fld34_1 z4) <| .g rfl rfl (.b 2 rfl) (fun hc => op_loadT (R := (rSl rSapi_Kind)) (u := (x_).Kinds) tok30 (.cond z0 hc) rfl) <| .g rfl rfl (.b 3 rfl) (fun hc => op_len ud30 (.cond z0 hc)) <| .g rfl rfl (.b 4 rfl) (fun hc => op_geq (.cond z3 hc) (.cond z0 hc)) <| .o (op_or z5 (fun hp => (.cond z0 (beqF hp)))) <| .q 0 rfl <| .g rfl rfl (.b 0 rfl) (fun _ => op_move z12) <| .g rfl rfl (.b 1 rfl) (fun hc => op_lss (.cond z0 hc) .k) <| .o (op_or z2 (fun hp => (.cond z0 (beqF hp)))) <| .n) fun n1 a w hst => ?_
 replace hst := hst.to [12,13,14,15] [_,_,_,_] [] rfl rfl
 refine wt hst (fun b6 => ?_) (fun b6 => ?_)
 ·replace h := ite_t b6 h
  refine sr mixed [] hst (fun _ => .o (op_assign .k) <| .n) fun n2 a w hst => ?_
  replace hst := hst.to [0] [_] [] rfl rfl
  refine wp_ret ?_
  obtain rfl := sj h
  exact ret_st undef [] hpl hst rfl (.tmp z0 .nil) rfl rfl rfl
 ·replace h := ite_f b6 h
  refine wp_skip ?_
  refine hK2 _ _ ?_
  try clear hK2 K2
  obtain ⟨t24,ht24,h⟩ := bind_some h
  refine sr mixed [] hst (fun _ => .q 3 rfl <| .o (op_field fld34_1 z2) <| .o (op_loadT (R := (rSl rSapi_Kind)) (u := (x_).Kinds) tok30 z0 rfl) <| .q 5 rfl <| .o (op_index ud30 tok47 z1 z0 ht24) <| .o (op_field fld47_3 z0) <| .o (op_loadT (R := (rSl rSapi_Field)) (u := (t24).Fields) tok45 z0 rfl) <| .o (op_len ud45 z0) <| .o (op_lss z7 z0) <| .o (op_assign z0) <| .n) fun n3 a w hst => ?_
  replace hst := hst.to [9] [_] [] rfl rfl
  refine wp_ret ?_
  obtain rfl := sj h
  exact ret_st undef [] hpl hst rfl (.tmp z0 .nil) rfl rfl rfl

/- diorama/dioramaref27.Sum -/
noncomputable def fref27_Sum (l_ : (List Int)) : Option (Int) := (tailrec (fun (s5 : Int × Int) => ((if (decide (s5.1 < (l_.length : Int))) = true then (idx l_ s5.1).bind fun t14 => (some (.inl ((IntKind.i64.wrap (s5.1 + (1:Int))),(IntKind.i64.wrap (s5.2 + t14))))) else (some (.inr s5.2))) : Option ((Int × Int) ⊕ ((Int))))) ((0:Int),(0:Int))).bind fun (p15 : (Int)) => (some p15)
set_option maxRecDepth 100000 in
set_option maxHeartbeats 4000000 in
theorem ref27_Sum_ok {l_ : (List Int)} {r : Int} (h : fref27_Sum l_ = some r) : FnOk Tryz.prog 55 [tsl rI l_] [] (fun _ => []) (fun _ => ti r) := by
 unfold fref27_Sum at h
 refine FnOk.enter Tryz.func55 rfl Tryz.ntmps55 (leb rfl) (fun M0 M w0 a hpl hst => ?_)
 replace hst : St M w0 18 [(0,tsl rI l_)] [] a w0 := hst
 refine sr mixed [] hst (fun _ => .o (op_assign .k) <| .n) fun n0 a w hst => ?_
 replace hst := hst.to [1] [_] [] rfl rfl
 refine sr mixed [] hst (fun _ => .o (op_assign .k) <| .n) fun n1 a w hst => ?_
 replace hst := hst.to [0,1] [_,_] [] rfl rfl
 refine wp_seq_k (fun K3 hK3 => ?_)
 refine sr mixed [] hst (fun _ => .o (op_assign .k) <| .n) fun n2 a w hst => ?_
 replace hst := hst.to [0,1,2] [_,_,_] [] rfl rfl
 obtain ⟨e6,he6,h⟩ := bind_some h
 have hJp15 : ∀ (p15 : Int) a w,p15 = e6 → St M w0 18 [(3,ti p15)] [] a w → K3 a w := by
  intro p15 a w he hst
  subst he
  refine hK3 _ _ ?_
  try clear hK3 K3
  refine sr mixed [] hst (fun _ => .q 0 rfl <| .o (op_assign z0) <| .n) fun n6 a w hst => ?_
  replace hst := hst.to [1] [_] [] rfl rfl
  refine wp_ret ?_
  obtain rfl := sj h
  exact ret_st undef [] hpl hst rfl (.tmp z0 .nil) rfl rfl rfl
 refine wp_block ?_
 refine wp_loopK _ (fun (s5 : Int × Int) a w => St M w0 18 [(4,ti s5.1),(3,ti s5.2),(0,tsl rI l_)] [] a w) _ _ he6 (hst.pick [0,1,2]) ?_
 clear h
 intro s5 o a w K17 hI h ho hK17
 have hst := hI
 clear hI
 refine wp_seq_k (fun K18 hK18 => ?_)
 refine sr mixed [] hst (fun _ => .q 0 rfl <| .q 3 rfl <| .o (op_len ud22 z0) <| .o (op_lss z2 z0) <| .n) fun n3 a w hst => ?_
 replace hst := hst.to [3,4,5,6] [_,_,_,_] [] rfl rfl
 refine wt hst (fun b21 => ?_) (fun b21 => ?_)
 ·replace h := ite_t b21 h
  refine wp_skip ?_
  refine hK18 _ _ ?_
  try clear hK18 K18
  refine wp_seq_k (fun K20 hK20 => ?_)
  refine wp_block ?_
  obtain ⟨t14,ht14,h⟩ := bind_some h
  refine wr mixed [] hst (fun _ => .q 2 rfl <| .q 4 rfl <| .q 3 rfl <| .o (op_index ud22 tok3 z1 z0 ht14) <| .o (op_load tok3 z0) <| .o (op_add z4 z0) <| .o (op_assign z0) <| .n) fun n5 a w hst => ?_
  replace hst := hst.to [6,8,9] [_,_,_] [] rfl rfl
  refine hK20 _ _ ?_
  try clear hK20 K20
  refine wr mixed [] hst (fun _ => .q 1 rfl <| .o (op_add z0 .k) <| .o (op_assign z0) <| .n) fun n4 a w hst => ?_
  replace hst := hst.to [2,3,4] [_,_,_] [] rfl rfl
  exact hK17 _ _ _ (sj h).symm (hst.pick [0,1,2])
 ·replace h := ite_f b21 h
  refine wp_exit ?_
  exact hJp15 _ _ _ (ho _ (sj h).symm) (hst.pick [2])

/- diorama/dioramaref27.Made -/
noncomputable def fref27_Made (l_ : (List Int)) (n_ : Int) (most_ : Int) : Option ((List Int)) := (tailrec (fun (s6 : Int × List Int) => ((if (decide (s6.1 < n_)) = true then (fref01_At l_ s6.1 most_).bind fun t18 => (rm (s6.2.length + [t18].length)).bind fun _ => (some (.inl ((IntKind.i64.wrap (s6.1 + (1:Int))),(s6.2 ++ [t18])))) else (some (.inr s6.2))) : Option ((Int × List Int) ⊕ ((List Int))))) ((0:Int),([] : List Int))).bind fun (p17 : (List Int)) => (fref27_Sum p17).bind fun t22 => ((if ((t22 == (0:Int)) && (decide (n_ > (0:Int)))) = true then (fref01_At l_ (0:Int) n_).bind fun t31 => (setAt p17 t31 (1:Int)).bind fun t32s => (some t32s) else (some p17))).bind fun (p21 : List Int) => (some p21)
set_option maxRecDepth 100000 in
set_option maxHeartbeats 4000000 in
theorem ref27_Made_ok {l_ : (List Int)} {n_ : Int} {most_ : Int} {r : (List Int)} (h : fref27_Made l_ n_ most_ = some r) : FnOk Tryz.prog 23 [tsl rI l_,ti n_,ti most_] [] (fun _ => []) (fun _ => tsl rI r) := by
 unfold fref27_Made at h
 refine FnOk.enter Tryz.func23 rfl Tryz.ntmps23 (leb rfl) (fun M0 M w0 a hpl hst => ?_)
 replace hst : St M w0 34 [(0,tsl rI l_),(1,ti n_),(2,ti most_)] [] a w0 := hst
 refine sr mixed [] hst (fun _ => .o (op_assign (.nilsl (R := rI))) <| .n) fun n0 a w hst => ?_
 replace hst := hst.to [1,2,3] [_,_,_] [] rfl rfl
 refine sr mixed [] hst (fun _ => .o (op_assign .k) <| .n) fun n1 a w hst => ?_
 replace hst : St _ _ _ [_,_,_,_] [_] _ _ := (hst.pick [0,1,2,3]).nil (rI) 3
 refine wp_seq_k (fun K4 hK4 => ?_)
 refine sr mixed [] hst (fun _ => .o (op_assign .k) <| .n) fun n2 a w hst => ?_
 replace hst := hst.to [0,1,2,3,4] [_,_,_,_,_] [_] rfl rfl
 obtain ⟨e7,he7,h⟩ := bind_some h
 have hJp17 : ∀ (p17 : List Int) (v18 : Value) a w,p17 = e7 → St M w0 34 [(7,tv v18),(0,tsl rI l_),(1,ti n_)] [own rI 3 p17 v18] a w → K4 a w := by
  intro p17 v18 a w he hst
  subst he
  refine hK4 _ _ ?_
  try clear hK4 K4
  refine wp_seq_k (fun K19 hK19 => ?_)
  obtain ⟨t22,ht22,h⟩ := bind_some h
  refine sr mixed [] hst (fun _ => .q 0 rfl <| .u [0] rfl rfl (op_callFU [own rI 3 p17 v18] call55 (ref27_Sum_ok ht22) (.cons (.own z0 (.head _)) <| .nil) (fun _ => flat_tv) (fun _ => flatN0 (x := undef))) <| .o (op_eql z0 .k) <| .q 0 rfl <| .g rfl rfl (.b 0 rfl) (fun _ => op_move z6) <| .g rfl rfl (.b 1 rfl) (fun hc => op_gtr (.cond z0 hc) .k) <| .o (op_and z2 (fun hp => (.cond z0 (beqT hp)))) <| .n) fun n6 a w hst => ?_
  replace hst := hst.to [0,6,7,8,9] [_,_,_,_,_] [_] rfl rfl
  obtain ⟨p21,hp21,h⟩ := bind_some h
  have hJp21 : ∀ a w,St M w0 34 [(7,tv v18)] [own rI 3 p21 v18] a w → K19 a w := by
   intro a w hst
   refine hK19 _ _ ?_
   try clear hK19 K19
   refine sr mixed [] hst (fun _ => .q 0 rfl <| .o (op_assign z0) <| .n) fun n8 a w hst => ?_
   replace hst := hst.to [0,1,2] [_,_,_] [_] rfl rfl
   refine wp_ret ?_
   replace hst : St _ _ _ [_] [] _ _ := (hst.shareO 1 rfl).pick [0]
   obtain rfl := sj h
   exact ret_st undef [] hpl hst rfl (.tmp z0 .nil) rfl rfl rfl
  replace h := hp21
  clear hp21
  refine wp_test 1 hst rfl (fun b24 => ?_) (fun b24 => ?_)
  ·replace h := ite_t b24 h
   obtain ⟨t31,ht31,h⟩ := bind_some h
   obtain ⟨t32s,ht32s,h⟩ := bind_some h
   refine wr mixed [v0 (own rI 3 t32s v18)] hst (fun _ => .q 2 rfl <| .q 4 rfl <| .q 6 rfl <| .o (op_callF call54 (ref01_At_ok ht31) (.cons (.of z1) <| .cons (.of .k) <| .cons (.of z0) <| .nil)) <| .u [0] rfl rfl (op_indexOs ud22 tok3 z3 z0 ht32s) <| .e [] [0] [1] rfl rfl rfl rfl (op_storeO tok3 z0 .k ht32s) <| .n) fun n7 a w hst => ?_
   replace hst := hst.to [0,5,7] [_,_,_] [_] rfl rfl
   obtain rfl := sj h
   exact hJp21 _ _ (hst.pick [2])
  ·replace h := ite_f b24 h
   refine wp_skip ?_
   obtain rfl := sj h
   exact hJp21 _ _ (hst.pick [2])
 refine wp_block ?_
 refine wp_loopK _ (fun (s6 : Int × List Int) a w => ∃ v12 : Value,St M w0 34 [(8,ti s6.1),(7,tv v12),(0,tsl rI l_),(1,ti n_),(2,ti most_)] [own rI 3 s6.2 v12] a w) _ _ he7 ⟨(.slice none 0 0),hst.pick [0,1,2,3,4]⟩ ?_
 clear h
 intro s6 o a w K25 hI h ho hK25
 obtain ⟨v12,hst⟩ := hI
 refine wp_seq_k (fun K26 hK26 => ?_)
 refine sr mixed [] hst (fun _ => .q 0 rfl <| .q 4 rfl <| .o (op_lss z1 z0) <| .n) fun n3 a w hst => ?_
 replace hst := hst.to [2,3,4,5,6,7] [_,_,_,_,_,_] [_] rfl rfl
 refine wt hst (fun b29 => ?_) (fun b29 => ?_)
 ·replace h := ite_t b29 h
  refine wp_skip ?_
  refine hK26 _ _ ?_
  try clear hK26 K26
  refine wp_seq_k (fun K28 hK28 => ?_)
  refine wp_block ?_
  obtain ⟨t18,ht18,h⟩ := bind_some h
  obtain ⟨u20,hu20,h⟩ := bind_some h
  refine wr mixed [v1 6 (fun v0 => own rI 3 (s6.2 ++ [t18]) v0)] hst (fun _ => .q 2 rfl <| .q 4 rfl <| .q 3 rfl <| .q 8 rfl <| .o (op_callF call54 (ref01_At_ok ht18) (.cons (.of z2) <| .cons (.of z1) <| .cons (.of z0) <| .nil)) <| .o (op_buildSl (R := rI) (us := [t18]) ud22 tok3 (.cons z0 <| .nil _) rfl (leb rfl)) <| .e [] [0] [1] rfl rfl rfl rfl (op_append (R := rI) ud22 tok3 (leb rfl) z5 z0 hu20) <| .ud (f := fun v => tv v) 6 rfl [] rfl rfl (op_assign z0) <| .n) fun n5 a w hst => ?_
  replace hst := hst.to [6,7,9,10,11,12] [_,_,_,_,_,_] [_] rfl rfl
  refine hK28 _ _ ?_
  try clear hK28 K28
  refine wr mixed [] hst (fun _ => .q 2 rfl <| .o (op_add z0 .k) <| .o (op_assign z0) <| .n) fun n4 a w hst => ?_
  replace hst := hst.to [2,3,4,5,6,7] [_,_,_,_,_,_] [_] rfl rfl
  exact hK25 _ _ _ (sj h).symm ⟨(n5 6),hst.pick [0,2,3,4,5]⟩
 ·replace h := ite_f b29 h
  refine wp_exit ?_
  exact hJp17 _ v12 _ _ (ho _ (sj h).symm) (hst.pick [2,3,4])

/- diorama/dioramalaw27.odd -/
noncomputable def flaw27_odd (l_ : (List Int)) (at_ : Int) (by_ : Int) : Option ((List Int)) := (rm (([] : List Int).length + l_.length)).bind fun _ => (if ((((([] : List Int) ++ l_).length : Int) == (0:Int)) || ((Int.tmod by_ (3:Int)) == (0:Int))) = true then (rm ((([] : List Int) ++ l_).length + [(1:Int)].length)).bind fun _ => (some ((([] : List Int) ++ l_) ++ [(1:Int)])) else (fref01_Around at_ ((([] : List Int) ++ l_).length : Int)).bind fun t26 => (fref01_Around by_ (6:Int)).bind fun t30 => (idx [(-1:Int),(524288:Int),(524289:Int),(1048576:Int),(1048577:Int),by_] t30).bind fun t31 => (setAt (([] : List Int) ++ l_) t26 t31).bind fun t33s => (some t33s))
set_option maxRecDepth 100000 in
set_option maxHeartbeats 4000000 in
theorem law27_odd_ok {l_ : (List Int)} {at_ : Int} {by_ : Int} {r : (List Int)} (h : flaw27_odd l_ at_ by_ = some r) : FnOk Tryz.prog 24 [tsl rI l_,ti at_,ti by_] [] (fun _ => []) (fun _ => tsl rI r) := by
 unfold flaw27_odd at h
 refine FnOk.enter Tryz.func24 rfl Tryz.ntmps24 (leb rfl) (fun M0 M w0 a hpl hst => ?_)
 replace hst : St M w0 35 [(0,tsl rI l_),(1,ti at_),(2,ti by_)] [] a w0 := hst
 refine sr mixed [] hst (fun _ => .o (op_assign (.nilsl (R := rI))) <| .n) fun n0 a w hst => ?_
 replace hst := hst.to [1,2,3] [_,_,_] [] rfl rfl
 refine wp_seq_k (fun K2 hK2 => ?_)
 obtain ⟨u10,hu10,h⟩ := bind_some h
 refine wr mixed [v1 0 (fun v0 => own rI 3 ([] : List Int) v0),v1 2 (fun v0 => own rI 3 (([] : List Int) ++ l_) v0)] hst (fun _ => .m [] [0] rfl rfl rfl (op_buildSlO (R := rI) (us := ([] : List Int)) ud22 tok3 (.nil _) rfl (leb rfl) (leb rfl)) <| .q 1 rfl <| .e [] [0] [1] rfl rfl rfl rfl (op_append (R := rI) ud22 tok3 (leb rfl) z1 z0 hu10) <| .ud (f := fun v => tv v) 2 rfl [] rfl rfl (op_assign z0) <| .n) fun n1 a w hst => ?_
 replace hst := hst.to [2,3,5,6] [_,_,_,_] [_] rfl rfl
 refine hK2 _ _ ?_
 try clear hK2 K2
 refine wp_seq_k (fun K4 hK4 => ?_)
 refine sr mixed [] hst (fun _ => .q 1 rfl <| .u [0] rfl rfl (op_lenO ud22 z0) <| .o (op_eql z0 .k) <| .q 0 rfl <| .g rfl rfl (.b 0 rfl) (fun _ => op_move z7) <| .g rfl rfl (.b 1 rfl) (fun hc => op_rem (.cond z0 hc) .k (by decide)) <| .g rfl rfl (.b 2 rfl) (fun hc => op_eql (.cond z0 hc) .k) <| .o (op_or z3 (fun hp => (.cond z0 (beqF hp)))) <| .n) fun n2 a w hst => ?_
 replace hst := hst.to [0,7,8,9,10,11] [_,_,_,_,_,_] [_] rfl rfl
 refine wp_test 1 hst rfl (fun b9 => ?_) (fun b9 => ?_)
 ·replace h := ite_t b9 h
  refine wp_seq_k (fun K6 hK6 => ?_)
  obtain ⟨u21,hu21,h⟩ := bind_some h
  refine wr mixed [] hst (fun _ => .q 3 rfl <| .o (op_buildSl (R := rI) (us := [(1:Int)]) ud22 tok3 (.cons .k <| .nil _) rfl (leb rfl)) <| .e [] [0] [] rfl rfl rfl rfl (.roE (op_append (R := rI) ud22 tok3 (leb rfl) z1 z0 hu21)) <| .o (op_assign z0) <| .n) fun n3 a w hst => ?_
  replace hst := hst.to [3] [_] [] rfl rfl
  refine hK6 _ _ ?_
  try clear hK6 K6
  refine wp_ret ?_
  obtain rfl := sj h
  exact ret_st undef [] hpl hst rfl (.tmp z0 .nil) rfl rfl rfl
 ·replace h := ite_f b9 h
  refine wp_skip ?_
  refine hK4 _ _ ?_
  try clear hK4 K4
  obtain ⟨t26,ht26,h⟩ := bind_some h
  obtain ⟨t30,ht30,h⟩ := bind_some h
  obtain ⟨t31,ht31,h⟩ := bind_some h
  obtain ⟨t33s,ht33s,h⟩ := bind_some h
  refine sr mixed [v0 (own rI 3 t33s (n1 2))] hst (fun _ => .q 3 rfl <| .q 5 rfl <| .q 5 rfl <| .u [0] rfl rfl (op_lenO ud22 z0) <| .o (op_callF call56 (ref01_Around_ok ht26) (.cons (.of z2) <| .cons (.of z0) <| .nil)) <| .q 10 rfl <| .o (op_buildSl (R := rI) (us := [(-1:Int),(524288:Int),(524289:Int),(1048576:Int),(1048577:Int),by_]) ud22 tok3 (.cons .k <| .cons .k <| .cons .k <| .cons .k <| .cons .k <| .cons z0 <| .nil _) rfl (leb rfl)) <| .q 12 rfl <| .o (op_callF call56 (ref01_Around_ok ht30) (.cons (.of z0) <| .cons (.of .k) <| .nil)) <| .o (op_index ud22 tok3 z2 z0 ht31) <| .o (op_load tok3 z0) <| .u [0] rfl rfl (op_indexOs ud22 tok3 z10 z6 ht33s) <| .e [] [0] [1] rfl rfl rfl rfl (op_storeO tok3 z0 z1 ht33s) <| .n) fun n4 a w hst => ?_
  replace hst := hst.to [0,2,12,14,15] [_,_,_,_,_] [_] rfl rfl
  refine sr mixed [] hst (fun _ => .q 4 rfl <| .o (op_assign z0) <| .n) fun n5 a w hst => ?_
  replace hst := hst.to [0,1,2,3,4,5,6] [_,_,_,_,_,_,_] [_] rfl rfl
  refine wp_ret ?_
  replace hst : St _ _ _ [_] [] _ _ := (hst.shareO 1 rfl).pick [0]
  obtain rfl := sj h
  exact ret_st undef [] hpl hst rfl (.tmp z0 .nil) rfl rfl rfl

/- diorama/learn.Fit$1 -/
noncomputable def flearn_Fitq1 (n_ : Int) : Option (Bool) := (some ((decide (n_ < (0:Int))) || (decide (n_ > (524288:Int)))))
set_option maxRecDepth 100000 in
set_option maxHeartbeats 4000000 in
theorem learn_Fitq1_ok {n_ : Int} {r : Bool} (h : flearn_Fitq1 n_ = some r) : FnOk Tryz.prog 57 [ti n_] [] (fun _ => []) (fun _ => tb r) := by
 unfold flearn_Fitq1 at h
 refine FnOk.enter Tryz.func57 rfl Tryz.ntmps57 (leb rfl) (fun M0 M w0 a hpl hst => ?_)
 replace hst : St M w0 9 [(0,ti n_)] [] a w0 := hst
 refine sr mixed [] hst (fun _ => .o (op_assign .k) <| .n) fun n0 a w hst => ?_
 replace hst := hst.to [1] [_] [] rfl rfl
 refine sr mixed [] hst (fun _ => .q 0 rfl <| .o (op_lss z0 .k) <| .q 0 rfl <| .g rfl rfl (.b 0 rfl) (fun _ => op_move z3) <| .g rfl rfl (.b 1 rfl) (fun hc => op_gtr (.cond z0 hc) .k) <| .o (op_or z2 (fun hp => (.cond z0 (beqF hp)))) <| .o (op_assign z0) <| .n) fun n1 a w hst => ?_
 replace hst := hst.to [6] [_] [] rfl rfl
 refine wp_ret ?_
 obtain rfl := sj h
 exact ret_st undef [] hpl hst rfl (.tmp z0 .nil) rfl rfl rfl

/- slices.IndexFunc[[]int,int] -/
noncomputable def fslices_IndexFunc_int (s_ : (List Int)) (f_ : (Int → Option Bool)) : Option (Int) := (tailrec (fun (s4 : Int) => ((if (decide (s4 < (s_.length : Int))) = true then (idx s_ s4).bind fun t14 => (f_ t14).bind fun t16 => (if t16 = true then (some (.inr (.inr s4))) else (some (.inl (IntKind.i64.wrap (s4 + (1:Int)))))) else (some (.inr (.inl ())))) : Option ((Int) ⊕ ((Unit) ⊕ (Int))))) (0:Int)).bind fun (e5 : (Unit) ⊕ (Int)) => (match e5 with | .inl _ => (some (-1:Int)) | .inr p23 => (some p23))
set_option maxRecDepth 100000 in
set_option maxHeartbeats 4000000 in
theorem slices_IndexFunc_int_ok {s_ : (List Int)} {f_ : (Int → Option Bool)} {r : Int} (h : fslices_IndexFunc_int s_ f_ = some r) : FnOk Tryz.prog 98 [tsl rI s_,rF106.ty f_] [] (fun _ => []) (fun _ => ti r) := by
 unfold fslices_IndexFunc_int at h
 refine FnOk.enter Tryz.func98 rfl Tryz.ntmps98 (leb rfl) (fun M0 M w0 a hpl hst => ?_)
 replace hst : St M w0 19 [(0,tsl rI s_),(1,rF106.ty f_)] [] a w0 := hst
 refine sr mixed [] hst (fun _ => .o (op_assign .k) <| .n) fun n0 a w hst => ?_
 replace hst := hst.to [1,2] [_,_] [] rfl rfl
 refine wp_seq_k (fun K2 hK2 => ?_)
 refine sr mixed [] hst (fun _ => .q 0 rfl <| .o (op_len ud22 z0) <| .o (op_move .k) <| .n) fun n1 a w hst => ?_
 replace hst := hst.to [1,2,3,4] [_,_,_,_] [] rfl rfl
 obtain ⟨e5,he5,h⟩ := bind_some h
 have hJp22 : ∀ (p22 : Unit) a w,(.inl p22) = e5 → St M w0 19 [] [] a w → K2 a w := by
  intro p22 a w he hst
  subst he
  simp only at h
  refine hK2 _ _ ?_
  try clear hK2 K2
  refine sr mixed [] hst (fun _ => .o (op_assign .k) <| .n) fun n7 a w hst => ?_
  replace hst := hst.to [0] [_] [] rfl rfl
  refine wp_ret ?_
  obtain rfl := sj h
  exact ret_st undef [] hpl hst rfl (.tmp z0 .nil) rfl rfl rfl
 have hJp23 : ∀ (p23 : Int) a w,(.inr p23) = e5 → St M w0 19 [(4,ti p23)] [] a w → Ret Tryz.prog Tryz.f98 M0 [] w0 (fun _ => []) (fun _ => ti r) .ret a w := by
  intro p23 a w he hst
  subst he
  simp only at h
  obtain rfl := sj h
  exact ret_st undef [] hpl hst rfl (.tmp z0 .nil) rfl rfl rfl
 refine wp_block ?_
 refine wp_loopK _ (fun (s4 : Int) a w => St M w0 19 [(7,ti (s_.length : Int)),(8,ti s4),(0,tsl rI s_),(1,rF106.ty f_)] [] a w) _ _ he5 (hst.pick [0,1,2,3]) ?_
 clear h
 intro s4 o a w K25 hI h ho hK25
 have hst := hI
 clear hI
 refine sr mixed [] hst (fun _ => .o (op_lss z1 z0) <| .n) fun n2 a w hst => ?_
 replace hst := hst.to [0,1,2,3,4] [_,_,_,_,_] [] rfl rfl
 refine wp_seq_k (fun K27 hK27 => ?_)
 refine wt hst (fun b33 => ?_) (fun b33 => ?_)
 ·replace h := ite_t b33 h
  refine wp_skip ?_
  refine hK27 _ _ ?_
  try clear hK27 K27
  refine wp_seq_k (fun K28 hK28 => ?_)
  refine wp_block ?_
  refine sr mixed [] hst (fun _ => .q 2 rfl <| .o (op_assign z0) <| .n) fun n3 a w hst => ?_
  replace hst := hst.to [1,3,4,5,6] [_,_,_,_,_] [] rfl rfl
  obtain ⟨t14,ht14,h⟩ := bind_some h
  obtain ⟨t16,ht16,h⟩ := bind_some h
  refine sr mixed [] hst (fun _ => .q 4 rfl <| .q 4 rfl <| .q 2 rfl <| .o (op_index ud22 tok3 z1 z0 ht14) <| .o (op_load tok3 z0) <| .o (op_callT (u := t14) z4 (.cons (.of z0) <| .nil) ht16) <| .n) fun n4 a w hst => ?_
  replace hst := hst.to [5,6,7,8,9,10] [_,_,_,_,_,_] [] rfl rfl
  refine wt hst (fun b32 => ?_) (fun b32 => ?_)
  ·replace h := ite_t b32 h
   refine sr mixed [] hst (fun _ => .q 1 rfl <| .o (op_assign z0) <| .n) fun n5 a w hst => ?_
   replace hst := hst.to [1] [_] [] rfl rfl
   refine wp_ret ?_
   exact hJp23 _ _ _ (ho _ (sj h).symm) (hst.pick [0])
  ·replace h := ite_f b32 h
   refine wp_skip ?_
   refine hK28 _ _ ?_
   try clear hK28 K28
   refine wr mixed [] hst (fun _ => .o (op_add z3 .k) <| .q 0 rfl <| .n) fun n6 a w hst => ?_
   replace hst := hst.to [1,4,5,6] [_,_,_,_] [] rfl rfl
   exact hK25 _ _ _ (sj h).symm (hst.pick [1,0,2,3])
 ·replace h := ite_f b33 h
  refine wp_exit ?_
  exact hJp22 _ _ _ (ho _ (sj h).symm) (hst.pick [])

/- slices.ContainsFunc[[]int,int] -/
noncomputable def fslices_ContainsFunc_int (s_ : (List Int)) (f_ : (Int → Option Bool)) : Option (Bool) := (fslices_IndexFunc_int s_ f_).bind fun t7 => (some (decide (t7 ≥ (0:Int))))
set_option maxRecDepth 100000 in
set_option maxHeartbeats 4000000 in
theorem slices_ContainsFunc_int_ok {s_ : (List Int)} {f_ : (Int → Option Bool)} {r : Bool} (h : fslices_ContainsFunc_int s_ f_ = some r) : FnOk Tryz.prog 58 [tsl rI s_,rF106.ty f_] [] (fun _ => []) (fun _ => tb r) := by
 unfold fslices_ContainsFunc_int at h
 refine FnOk.enter Tryz.func58 rfl Tryz.ntmps58 (leb rfl) (fun M0 M w0 a hpl hst => ?_)
 replace hst : St M w0 9 [(0,tsl rI s_),(1,rF106.ty f_)] [] a w0 := hst
 refine sr mixed [] hst (fun _ => .o (op_assign .k) <| .n) fun n0 a w hst => ?_
 replace hst := hst.to [1,2] [_,_] [] rfl rfl
 obtain ⟨t7,ht7,h⟩ := bind_some h
 refine sr mixed [] hst (fun _ => .q 0 rfl <| .q 2 rfl <| .o (op_callF call98 (slices_IndexFunc_int_ok ht7) (.cons (.of z1) <| .cons (.of z0) <| .nil)) <| .o (op_geq z0 .k) <| .o (op_assign z0) <| .n) fun n1 a w hst => ?_
 replace hst := hst.to [4] [_] [] rfl rfl
 refine wp_ret ?_
 obtain rfl := sj h
 exact ret_st undef [] hpl hst rfl (.tmp z0 .nil) rfl rfl rfl

/- diorama/learn.sum -/
noncomputable def flearn_sum (l_ : (List Int)) : Option (Int) := (tailrec (fun (s5 : Int × Int) => ((if (decide (s5.1 < (l_.length : Int))) = true then (idx l_ s5.1).bind fun t10 => (some (.inl ((IntKind.i64.wrap (s5.1 + (1:Int))),(IntKind.i64.wrap (s5.2 + t10))))) else (some (.inr s5.2))) : Option ((Int × Int) ⊕ ((Int))))) ((0:Int),(0:Int))).bind fun (p17 : (Int)) => (some p17)
set_option maxRecDepth 100000 in
set_option maxHeartbeats 4000000 in
theorem learn_sum_ok {l_ : (List Int)} {r : Int} (h : flearn_sum l_ = some r) : FnOk Tryz.prog 59 [tsl rI l_] [] (fun _ => []) (fun _ => ti r) := by
 unfold flearn_sum at h
 refine FnOk.enter Tryz.func59 rfl Tryz.ntmps59 (leb rfl) (fun M0 M w0 a hpl hst => ?_)
 replace hst : St M w0 17 [(0,tsl rI l_)] [] a w0 := hst
 refine sr mixed [] hst (fun _ => .o (op_assign .k) <| .n) fun n0 a w hst => ?_
 replace hst := hst.to [1] [_] [] rfl rfl
 refine sr mixed [] hst (fun _ => .o (op_assign .k) <| .n) fun n1 a w hst => ?_
 replace hst := hst.to [0,1] [_,_] [] rfl rfl
 refine wp_seq_k (fun K3 hK3 => ?_)
 refine sr mixed [] hst (fun _ => .q 1 rfl <| .o (op_len ud22 z0) <| .o (op_move .k) <| .n) fun n2 a w hst => ?_
 replace hst := hst.to [0,1,2,3] [_,_,_,_] [] rfl rfl
 obtain ⟨e6,he6,h⟩ := bind_some h
 have hJp17 : ∀ (p17 : Int) a w,p17 = e6 → St M w0 17 [(3,ti p17)] [] a w → K3 a w := by
  intro p17 a w he hst
  subst he
  refine hK3 _ _ ?_
  try clear hK3 K3
  refine sr mixed [] hst (fun _ => .q 0 rfl <| .o (op_assign z0) <| .n) fun n7 a w hst => ?_
  replace hst := hst.to [1] [_] [] rfl rfl
  refine wp_ret ?_
  obtain rfl := sj h
  exact ret_st undef [] hpl hst rfl (.tmp z0 .nil) rfl rfl rfl
 refine wp_block ?_
 refine wp_loopK _ (fun (s5 : Int × Int) a w => St M w0 17 [(6,tsl rI l_),(7,ti (l_.length : Int)),(8,ti s5.1),(3,ti s5.2)] [] a w) _ _ he6 (hst.pick [0,1,2,3]) ?_
 clear h
 intro s5 o a w K19 hI h ho hK19
 have hst := hI
 clear hI
 refine sr mixed [] hst (fun _ => .o (op_lss z2 z1) <| .n) fun n3 a w hst => ?_
 replace hst := hst.to [0,1,2,3,4] [_,_,_,_,_] [] rfl rfl
 refine wp_seq_k (fun K21 hK21 => ?_)
 refine wt hst (fun b24 => ?_) (fun b24 => ?_)
 ·replace h := ite_t b24 h
  refine wp_skip ?_
  refine hK21 _ _ ?_
  try clear hK21 K21
  refine wp_seq_k (fun K22 hK22 => ?_)
  refine wp_block ?_
  obtain ⟨t10,ht10,h⟩ := bind_some h
  refine sr mixed [] hst (fun _ => .o (op_index ud22 tok3 z1 z3 ht10) <| .o (op_load tok3 z0) <| .o (op_assign z0) <| .n) fun n4 a w hst => ?_
  replace hst := hst.to [2,4,5,6,7] [_,_,_,_,_] [] rfl rfl
  refine wr mixed [] hst (fun _ => .q 4 rfl <| .q 1 rfl <| .o (op_add z1 z0) <| .o (op_assign z0) <| .n) fun n5 a w hst => ?_
  replace hst := hst.to [3,5,6,7] [_,_,_,_] [] rfl rfl
  refine hK22 _ _ ?_
  try clear hK22 K22
  refine wr mixed [] hst (fun _ => .o (op_add z3 .k) <| .q 0 rfl <| .n) fun n6 a w hst => ?_
  replace hst := hst.to [1,2,3,4] [_,_,_,_] [] rfl rfl
  exact hK19 _ _ _ (sj h).symm (hst.pick [2,3,0,1])
 ·replace h := ite_f b24 h
  refine wp_exit ?_
  exact hJp17 _ _ _ (ho _ (sj h).symm) (hst.pick [4])

/- slices.Clone[[]int,int] -/
noncomputable def fslices_Clone_int (s_ : (List Int)) : Option ((List Int)) := (rm (([] : List Int).length + s_.length)).bind fun _ => (some (([] : List Int) ++ s_))
set_option maxRecDepth 100000 in
set_option maxHeartbeats 4000000 in
theorem slices_Clone_int_ok {s_ : (List Int)} {r : (List Int)} (h : fslices_Clone_int s_ = some r) : FnOk Tryz.prog 99 [tsl rI s_] [] (fun v => [own rI 3 r v]) (fun v => tv v) := by
 unfold fslices_Clone_int at h
 refine FnOk.enter Tryz.func99 rfl Tryz.ntmps99 (leb rfl) (fun M0 M w0 a hpl hst => ?_)
 replace hst : St M w0 8 [(0,tsl rI s_)] [] a w0 := hst
 refine sr mixed [] hst (fun _ => .o (op_assign .k) <| .n) fun n0 a w hst => ?_
 replace hst := hst.to [1] [_] [] rfl rfl
 refine wp_seq_k (fun K2 hK2 => ?_)
 refine sr mixed [] hst (fun _ => .q 0 rfl <| .o (op_eqNil' ud22 z0) <| .n) fun n1 a w hst => ?_
 replace hst := hst.to [1,2] [_,_] [] rfl rfl
 refine wp_test_nil 0 hst rfl (fun b8 => ?_) ?_
 ·replace h : (some ([] : List Int)) = some r := by
   obtain ⟨_,_,h⟩ := bind_some h
   rw [b8] at h
   exact h
  refine sr mixed [] hst (fun _ => .o (op_assign .k) <| .n) fun n2 a w hst => ?_
  replace hst : St _ _ _ [_] [_] _ _ := (hst.pick [0]).nil (rI) 3
  refine wp_ret ?_
  obtain rfl := sj h
  exact ret_st (.slice none 0 0) [0] hpl hst rfl (.tmp z0 .nil) rfl rfl rfl
 ·refine wp_skip ?_
  refine hK2 _ _ ?_
  try clear hK2 K2
  refine wp_seq_k (fun K6 hK6 => ?_)
  obtain ⟨u7,hu7,h⟩ := bind_some h
  refine wr mixed [v1 0 (fun v0 => own rI 3 ([] : List Int) v0),v1 2 (fun v0 => own rI 3 (([] : List Int) ++ s_) v0)] hst (fun _ => .m [] [0] rfl rfl rfl (op_buildSlO (R := rI) (us := ([] : List Int)) ud22 tok3 (.nil _) rfl (leb rfl) (leb rfl)) <| .q 2 rfl <| .e [] [0] [1] rfl rfl rfl rfl (op_append (R := rI) ud22 tok3 (leb rfl) z1 z0 hu7) <| .ud (f := fun v => tv v) 2 rfl [] rfl rfl (op_assign z0) <| .n) fun n3 a w hst => ?_
  replace hst := hst.to [2,3] [_,_] [_] rfl rfl
  refine hK6 _ _ ?_
  try clear hK6 K6
  refine wp_ret ?_
  obtain rfl := sj h
  exact ret_st (n3 2) [0] hpl hst rfl (.tmp z1 .nil) rfl rfl rfl

/- diorama/learn.gcd$1 -/
noncomputable def flearn_gcdq1S (self : Int → Int → Option (Int)) (a_ : Int) (b_ : Int) : Option (Int) := (if (b_ == (0:Int)) = true then (some a_) else (nz b_).bind fun _ => (self b_ (Int.tmod a_ b_)).bind fun t14 => (some t14))
set_option maxRecDepth 100000 in
set_option maxHeartbeats 4000000 in
theorem learn_gcdq1_okS {q : Value} {self : Int → Int → Option (Int)} (hself : ∀ (a_ : Int) (b_ : Int) (r : Int),self a_ b_ = some r → FnOk Tryz.prog 133 [ti a_,ti b_,tself 133 q] [] (fun _ => []) (fun _ => ti r)) {a_ : Int} {b_ : Int} {r : Int} (h : flearn_gcdq1S self a_ b_ = some r) : FnOk Tryz.prog 133 [ti a_,ti b_,tself 133 q] [] (fun _ => []) (fun _ => ti r) := by
 unfold flearn_gcdq1S at h
 refine FnOk.enter Tryz.func133 rfl Tryz.ntmps133 (leb rfl) (fun M0 M w0 a hpl hst => ?_)
 replace hst : St M w0 15 [(0,ti a_),(1,ti b_),(2,tself 133 q)] [] a w0 := hst
 refine sr mixed [] hst (fun _ => .o (op_assign .k) <| .n) fun n0 a w hst => ?_
 replace hst := hst.to [1,2,3] [_,_,_] [] rfl rfl
 refine wp_seq_k (fun K2 hK2 => ?_)
 refine sr mixed [] hst (fun _ => .q 1 rfl <| .o (op_eql z0 .k) <| .n) fun n1 a w hst => ?_
 replace hst := hst.to [1,2,3,4] [_,_,_,_] [] rfl rfl
 refine wt hst (fun b6 => ?_) (fun b6 => ?_)
 ·replace h := ite_t b6 h
  refine sr mixed [] hst (fun _ => .q 1 rfl <| .o (op_assign z0) <| .n) fun n2 a w hst => ?_
  replace hst := hst.to [1] [_] [] rfl rfl
  refine wp_ret ?_
  obtain rfl := sj h
  exact ret_st undef [] hpl hst rfl (.tmp z0 .nil) rfl rfl rfl
 ·replace h := ite_f b6 h
  refine wp_skip ?_
  refine hK2 _ _ ?_
  try clear hK2 K2
  refine wp_seq_k (fun K5 hK5 => ?_)
  obtain ⟨u13,hu13,h⟩ := bind_some h
  obtain ⟨t14,ht14,h⟩ := bind_some h
  refine wr mixed [] hst (fun _ => .o (op_loadSelf tokL105 z3) <| .q 3 rfl <| .q 3 rfl <| .q 5 rfl <| .o (op_rem z1 z0 (nz_ne hu13)) <| .o (op_callRec call133 (hself _ _ _ ht14) z4 (.cons (.of z3) <| .cons (.of z0) <| .nil)) <| .o (op_assign z0) <| .n) fun n3 a w hst => ?_
  replace hst := hst.to [6] [_] [] rfl rfl
  refine hK5 _ _ ?_
  try clear hK5 K5
  refine wp_ret ?_
  obtain rfl := sj h
  exact ret_st undef [] hpl hst rfl (.tmp z0 .nil) rfl rfl rfl
noncomputable def glearn_gcdq1N : Nat → Int → Int → Option (Int)
 | 0 => fun _ _ => none
 | n + 1 => flearn_gcdq1S (glearn_gcdq1N n)
theorem glearn_gcdq1N_ok {q : Value} : ∀ (n : Nat) (a_ : Int) (b_ : Int) (r : Int),glearn_gcdq1N n a_ b_ = some r → FnOk Tryz.prog 133 [ti a_,ti b_,tself 133 q] [] (fun _ => []) (fun _ => ti r)
 | 0,_,_,r,h => by cases h
 | n + 1,a_,b_,r,h => learn_gcdq1_okS (fun a_ b_ r h => glearn_gcdq1N_ok n a_ b_ r h) h
noncomputable def flearn_gcdq1 (a_ : Int) (b_ : Int) : Option (Int) := glearn_gcdq1N (b_.natAbs + 2) a_ b_
theorem learn_gcdq1_ok {q : Value} {a_ : Int} {b_ : Int} {r : Int} (h : flearn_gcdq1 a_ b_ = some r) : FnOk Tryz.prog 133 [ti a_,ti b_,tself 133 q] [] (fun _ => []) (fun _ => ti r) := glearn_gcdq1N_ok _ _ _ _ h

/- diorama/learn.gcd -/
noncomputable def flearn_gcd (l_ : (List Int)) : Option (Int) := (tailrec (fun (s8 : Int × Int) => ((if (decide (s8.1 < (l_.length : Int))) = true then (idx l_ s8.1).bind fun t12 => (flearn_gcdq1 t12 s8.2).bind fun t17 => (some (.inl ((IntKind.i64.wrap (s8.1 + (1:Int))),t17))) else (some (.inr s8.2))) : Option ((Int × Int) ⊕ ((Int))))) ((0:Int),(0:Int))).bind fun (p20 : (Int)) => (some p20)
set_option maxRecDepth 100000 in
set_option maxHeartbeats 4000000 in
theorem learn_gcd_ok {l_ : (List Int)} {r : Int} (h : flearn_gcd l_ = some r) : FnOk Tryz.prog 100 [tsl rI l_] [] (fun _ => []) (fun _ => ti r) := by
 unfold flearn_gcd at h
 refine FnOk.enter Tryz.func100 rfl Tryz.ntmps100 (leb rfl) (fun M0 M w0 a hpl hst => ?_)
 replace hst : St M w0 20 [(0,tsl rI l_)] [] a w0 := hst
 refine sr mixed [] hst (fun _ => .o (op_assign .k) <| .n) fun n0 a w hst => ?_
 replace hst := hst.to [1] [_] [] rfl rfl
 refine sr mixed [v1 0 (fun v0 => box (rClo.cs (none : Option (FuncId × List Value))) v0)] hst (fun _ => .m [] [0] rfl rfl rfl (op_alloc (R := rClo) (a := none) tokL105 zokL105) <| .n) fun n1 a w hst => ?_
 replace hst := hst.to [0,1] [_,_] [_] rfl rfl
 refine sr mixed [v0 (box (rClo.cs (some (133,[(n1 0)]))) (n1 0))] hst (fun _ => .o (op_clo1 z0) <| .e [] [0] [1] rfl rfl rfl rfl (op_storeB (R := rClo) (a := (some (133,[(n1 0)]))) tokL105 z1 z0 (leb rfl)) <| .n) fun n2 a w hst => ?_
 replace hst := hst.to [1,2] [_,_] [_] rfl rfl
 refine sr mixed [] hst (fun _ => .o (op_assign .k) <| .n) fun n3 a w hst => ?_
 replace hst := hst.to [0,1,2] [_,_,_] [_] rfl rfl
 refine wp_seq_k (fun K6 hK6 => ?_)
 refine sr mixed [] hst (fun _ => .q 2 rfl <| .o (op_len ud22 z0) <| .o (op_move .k) <| .n) fun n4 a w hst => ?_
 replace hst := hst.to [0,1,2,3,4] [_,_,_,_,_] [_] rfl rfl
 obtain ⟨e9,he9,h⟩ := bind_some h
 have hJp20 : ∀ (p20 : Int) a w,p20 = e9 → St M w0 20 [(4,ti p20)] [] a w → K6 a w := by
  intro p20 a w he hst
  subst he
  refine hK6 _ _ ?_
  try clear hK6 K6
  refine sr mixed [] hst (fun _ => .q 0 rfl <| .o (op_assign z0) <| .n) fun n9 a w hst => ?_
  replace hst := hst.to [1] [_] [] rfl rfl
  refine wp_ret ?_
  obtain rfl := sj h
  exact ret_st undef [] hpl hst rfl (.tmp z0 .nil) rfl rfl rfl
 refine wp_block ?_
 refine wp_loopK _ (fun (s8 : Int × Int) a w => St M w0 20 [(8,tsl rI l_),(9,ti (l_.length : Int)),(10,ti s8.1),(4,ti s8.2),(3,tv (n1 0))] [box (rClo.cs (some (133,[(n1 0)]))) (n1 0)] a w) _ _ he9 (hst.pick [0,1,2,3,4]) ?_
 clear h
 intro s8 o a w K22 hI h ho hK22
 have hst := hI
 clear hI
 refine sr mixed [] hst (fun _ => .o (op_lss z2 z1) <| .n) fun n5 a w hst => ?_
 replace hst := hst.to [0,1,2,3,4,5] [_,_,_,_,_,_] [_] rfl rfl
 refine wp_seq_k (fun K24 hK24 => ?_)
 refine wt hst (fun b27 => ?_) (fun b27 => ?_)
 ·replace h := ite_t b27 h
  refine wp_skip ?_
  refine hK24 _ _ ?_
  try clear hK24 K24
  refine wp_seq_k (fun K25 hK25 => ?_)
  refine wp_block ?_
  obtain ⟨t12,ht12,h⟩ := bind_some h
  refine sr mixed [] hst (fun _ => .o (op_index ud22 tok3 z1 z3 ht12) <| .o (op_load tok3 z0) <| .o (op_assign z0) <| .n) fun n6 a w hst => ?_
  replace hst := hst.to [2,4,5,6,7,8] [_,_,_,_,_,_] [_] rfl rfl
  obtain ⟨t17,ht17,h⟩ := bind_some h
  refine wr mixed [] hst (fun _ => .u [0] rfl rfl (op_loadB (R := rClo) (u := (some (133,[(n1 0)]))) tokL105 z5 rfl) <| .q 1 rfl <| .q 6 rfl <| .u [0] rfl rfl (op_callSelf call133 (learn_gcdq1_ok (q := (n1 0)) ht17) flat_tv z2 (.cons (.of z1) <| .cons (.of z0) <| .nil)) <| .o (op_assign z0) <| .n) fun n7 a w hst => ?_
  replace hst := hst.to [4,6,7,8,9] [_,_,_,_,_] [_] rfl rfl
  refine hK25 _ _ ?_
  try clear hK25 K25
  refine wr mixed [] hst (fun _ => .o (op_add z3 .k) <| .q 0 rfl <| .n) fun n8 a w hst => ?_
  replace hst := hst.to [1,2,3,4,5] [_,_,_,_,_] [_] rfl rfl
  exact hK22 _ _ _ (sj h).symm (hst.pick [2,3,0,1,4])
 ·replace h := ite_f b27 h
  refine wp_exit ?_
  exact hJp20 _ _ _ (ho _ (sj h).symm) ((hst.pick [4]).selA [] rfl)

/- diorama/learn.lowest -/
noncomputable def flearn_lowest (l_ : (List Int)) : Option ((List Int)) := (fslices_Clone_int l_).bind fun t7 => (flearn_gcd l_).bind fun t9 => ((if (decide (t9 > (1:Int))) = true then (tailrec (fun (s31 : Int × List Int) => ((if (decide (s31.1 < (t7.length : Int))) = true then (idx s31.2 s31.1).bind fun t19 => (nz t9).bind fun _ => (setAt s31.2 s31.1 (IntKind.i64.wrap (Int.tdiv t19 t9))).bind fun t23s => (some (.inl ((IntKind.i64.wrap (s31.1 + (1:Int))),t23s))) else (some (.inr s31.2))) : Option ((Int × List Int) ⊕ ((List Int))))) ((0:Int),t7)).bind fun (p43 : (List Int)) => (some p43) else (some t7))).bind fun (p7 : List Int) => (some p7)
set_option maxRecDepth 100000 in
set_option maxHeartbeats 4000000 in
theorem learn_lowest_ok {l_ : (List Int)} {r : (List Int)} (h : flearn_lowest l_ = some r) : FnOk Tryz.prog 60 [tsl rI l_] [] (fun _ => []) (fun _ => tsl rI r) := by
 unfold flearn_lowest at h
 refine FnOk.enter Tryz.func60 rfl Tryz.ntmps60 (leb rfl) (fun M0 M w0 a hpl hst => ?_)
 replace hst : St M w0 26 [(0,tsl rI l_)] [] a w0 := hst
 refine sr mixed [] hst (fun _ => .o (op_assign (.nilsl (R := rI))) <| .n) fun n0 a w hst => ?_
 replace hst := hst.to [1] [_] [] rfl rfl
 obtain ⟨t7,ht7,h⟩ := bind_some h
 refine sr mixed [v1 1 (fun v0 => own rI 3 t7 v0)] hst (fun _ => .q 0 rfl <| .m [] [0] rfl rfl rfl (op_callF call99 (slices_Clone_int_ok ht7) (.cons (.of z0) <| .nil)) <| .ud (f := fun v => tv v) 1 rfl [] rfl rfl (op_assign z0) <| .n) fun n1 a w hst => ?_
 replace hst := hst.to [1,2,3] [_,_,_] [_] rfl rfl
 refine wp_seq_k (fun K4 hK4 => ?_)
 obtain ⟨t9,ht9,h⟩ := bind_some h
 refine sr mixed [] hst (fun _ => .q 2 rfl <| .o (op_callF call100 (learn_gcd_ok ht9) (.cons (.of z0) <| .nil)) <| .o (op_assign z0) <| .n) fun n2 a w hst => ?_
 replace hst := hst.to [2,3,4] [_,_,_] [_] rfl rfl
 refine sr mixed [] hst (fun _ => .q 0 rfl <| .o (op_gtr z0 .k) <| .n) fun n3 a w hst => ?_
 replace hst := hst.to [1,2,3,4] [_,_,_,_] [_] rfl rfl
 obtain ⟨p7,hp7,h⟩ := bind_some h
 have hJp7 : ∀ a w,St M w0 26 [(3,tv (n1 1))] [own rI 3 p7 (n1 1)] a w → K4 a w := by
  intro a w hst
  refine hK4 _ _ ?_
  try clear hK4 K4
  refine sr mixed [] hst (fun _ => .q 0 rfl <| .o (op_assign z0) <| .n) fun n9 a w hst => ?_
  replace hst := hst.to [0,1,2] [_,_,_] [_] rfl rfl
  refine wp_ret ?_
  replace hst : St _ _ _ [_] [] _ _ := (hst.shareO 1 rfl).pick [0]
  obtain rfl := sj h
  exact ret_st undef [] hpl hst rfl (.tmp z0 .nil) rfl rfl rfl
 replace h := hp7
 clear hp7
 refine wt hst (fun b50 => ?_) (fun b50 => ?_)
 ·replace h := ite_t b50 h
  refine sr mixed [] hst (fun _ => .q 3 rfl <| .u [0] rfl rfl (op_lenO ud22 z0) <| .o (op_move .k) <| .n) fun n4 a w hst => ?_
  replace hst := hst.to [0,1,2,4,5,6] [_,_,_,_,_,_] [_] rfl rfl
  obtain ⟨e32,he32,h⟩ := bind_some h
  have hJp43 : ∀ (p43 : List Int) a w,p43 = e32 → St M w0 26 [(3,tv (n1 1))] [own rI 3 p43 (n1 1)] a w → K4 a w := by
   intro p43 a w he hst
   subst he
   obtain rfl := sj h
   exact hJp7 _ _ (hst.pick [0])
  refine wp_block ?_
  refine wp_loopK _ (fun (s31 : Int × List Int) a w => St M w0 26 [(13,ti (t7.length : Int)),(14,ti s31.1),(4,ti t9),(3,tv (n1 1))] [own rI 3 s31.2 (n1 1)] a w) _ _ he32 (hst.pick [1,2,3,5]) ?_
  clear h
  intro s31 o a w K44 hI h ho hK44
  have hst := hI
  clear hI
  refine sr mixed [] hst (fun _ => .o (op_lss z1 z0) <| .n) fun n5 a w hst => ?_
  replace hst := hst.to [0,1,2,3,4] [_,_,_,_,_] [_] rfl rfl
  refine wp_seq_k (fun K46 hK46 => ?_)
  refine wt hst (fun b49 => ?_) (fun b49 => ?_)
  ·replace h := ite_t b49 h
   refine wp_skip ?_
   refine hK46 _ _ ?_
   try clear hK46 K46
   refine wp_seq_k (fun K47 hK47 => ?_)
   refine wp_block ?_
   refine sr mixed [] hst (fun _ => .q 2 rfl <| .o (op_assign z0) <| .n) fun n6 a w hst => ?_
   replace hst := hst.to [1,3,4,5,6] [_,_,_,_,_] [_] rfl rfl
   obtain ⟨t19,ht19,h⟩ := bind_some h
   obtain ⟨u22,hu22,h⟩ := bind_some h
   obtain ⟨t23s,ht23s,h⟩ := bind_some h
   refine wr mixed [v0 (own rI 3 t23s (n1 1))] hst (fun _ => .q 4 rfl <| .q 1 rfl <| .u [0] rfl rfl (op_indexOi ud22 tok3 z1 z0 ht19) <| .u [0] rfl rfl (op_loadO tok3 z0 ht19) <| .q 7 rfl <| .o (op_quo z1 z0 (nz_ne hu22)) <| .u [0] rfl rfl (op_indexOs ud22 tok3 z5 z4 ht23s) <| .e [] [0] [1] rfl rfl rfl rfl (op_storeO tok3 z0 z1 ht23s) <| .n) fun n7 a w hst => ?_
   replace hst := hst.to [0,8,9,10,11] [_,_,_,_,_] [_] rfl rfl
   refine hK47 _ _ ?_
   try clear hK47 K47
   refine wr mixed [] hst (fun _ => .o (op_add z2 .k) <| .q 0 rfl <| .n) fun n8 a w hst => ?_
   replace hst := hst.to [1,2,3,4,5] [_,_,_,_,_] [_] rfl rfl
   exact hK44 _ _ _ (sj h).symm (hst.pick [2,0,3,4])
  ·replace h := ite_f b49 h
   refine wp_exit ?_
   exact hJp43 _ _ _ (ho _ (sj h).symm) (hst.pick [4])
 ·replace h := ite_f b50 h
  refine wp_skip ?_
  obtain rfl := sj h
  exact hJp7 _ _ (hst.pick [3])

/- slices.Clone[[]diorama/api.Kind,diorama/api.Kind] -/
noncomputable def fslices_Clone_Kind (s_ : (List Sapi_Kind)) : Option ((List Sapi_Kind)) := (rm (([] : List Sapi_Kind).length + s_.length)).bind fun _ => (some (([] : List Sapi_Kind) ++ s_))
set_option maxRecDepth 100000 in
set_option maxHeartbeats 4000000 in
theorem slices_Clone_Kind_ok {s_ : (List Sapi_Kind)} {r : (List Sapi_Kind)} (h : fslices_Clone_Kind s_ = some r) : FnOk Tryz.prog 61 [tsl rSapi_Kind s_] [] (fun v => [own rSapi_Kind 47 r v]) (fun v => tv v) := by
 unfold fslices_Clone_Kind at h
 refine FnOk.enter Tryz.func61 rfl Tryz.ntmps61 (leb rfl) (fun M0 M w0 a hpl hst => ?_)
 replace hst : St M w0 8 [(0,tsl rSapi_Kind s_)] [] a w0 := hst
 refine sr mixed [] hst (fun _ => .o (op_assign .k) <| .n) fun n0 a w hst => ?_
 replace hst := hst.to [1] [_] [] rfl rfl
 refine wp_seq_k (fun K2 hK2 => ?_)
 refine sr mixed [] hst (fun _ => .q 0 rfl <| .o (op_eqNil' ud30 z0) <| .n) fun n1 a w hst => ?_
 replace hst := hst.to [1,2] [_,_] [] rfl rfl
 refine wp_test_nil 0 hst rfl (fun b8 => ?_) ?_
 ·replace h : (some ([] : List Sapi_Kind)) = some r := by
   obtain ⟨_,_,h⟩ := bind_some h
   rw [b8] at h
   exact h
  refine sr mixed [] hst (fun _ => .o (op_assign .k) <| .n) fun n2 a w hst => ?_
  replace hst : St _ _ _ [_] [_] _ _ := (hst.pick [0]).nil (rSapi_Kind) 47
  refine wp_ret ?_
  obtain rfl := sj h
  exact ret_st (.slice none 0 0) [0] hpl hst rfl (.tmp z0 .nil) rfl rfl rfl
 ·refine wp_skip ?_
  refine hK2 _ _ ?_
  try clear hK2 K2
  refine wp_seq_k (fun K6 hK6 => ?_)
  obtain ⟨u7,hu7,h⟩ := bind_some h
  refine wr mixed [v1 0 (fun v0 => own rSapi_Kind 47 ([] : List Sapi_Kind) v0),v1 2 (fun v0 => own rSapi_Kind 47 (([] : List Sapi_Kind) ++ s_) v0)] hst (fun _ => .m [] [0] rfl rfl rfl (op_buildSlO (R := rSapi_Kind) (us := ([] : List Sapi_Kind)) ud30 tok47 (.nil _) rfl (leb rfl) (leb rfl)) <| .q 2 rfl <| .e [] [0] [1] rfl rfl rfl rfl (op_append (R := rSapi_Kind) ud30 tok47 (leb rfl) z1 z0 hu7) <| .ud (f := fun v => tv v) 2 rfl [] rfl rfl (op_assign z0) <| .n) fun n3 a w hst => ?_
  replace hst := hst.to [2,3] [_,_] [_] rfl rfl
  refine hK6 _ _ ?_
  try clear hK6 K6
  refine wp_ret ?_
  obtain rfl := sj h
  exact ret_st (n3 2) [0] hpl hst rfl (.tmp z1 .nil) rfl rfl rfl

/- slices.Clone[[]diorama/api.Field,diorama/api.Field] -/
noncomputable def fslices_Clone_Field (s_ : (List Sapi_Field)) : Option ((List Sapi_Field)) := (rm (([] : List Sapi_Field).length + s_.length)).bind fun _ => (some (([] : List Sapi_Field) ++ s_))
set_option maxRecDepth 100000 in
set_option maxHeartbeats 4000000 in
theorem slices_Clone_Field_ok {s_ : (List Sapi_Field)} {r : (List Sapi_Field)} (h : fslices_Clone_Field s_ = some r) : FnOk Tryz.prog 62 [tsl rSapi_Field s_] [] (fun v => [own rSapi_Field 44 r v]) (fun v => tv v) := by
 unfold fslices_Clone_Field at h
 refine FnOk.enter Tryz.func62 rfl Tryz.ntmps62 (leb rfl) (fun M0 M w0 a hpl hst => ?_)
 replace hst : St M w0 8 [(0,tsl rSapi_Field s_)] [] a w0 := hst
 refine sr mixed [] hst (fun _ => .o (op_assign .k) <| .n) fun n0 a w hst => ?_
 replace hst := hst.to [1] [_] [] rfl rfl
 refine wp_seq_k (fun K2 hK2 => ?_)
 refine sr mixed [] hst (fun _ => .q 0 rfl <| .o (op_eqNil' ud45 z0) <| .n) fun n1 a w hst => ?_
 replace hst := hst.to [1,2] [_,_] [] rfl rfl
 refine wp_test_nil 0 hst rfl (fun b8 => ?_) ?_
 ·replace h : (some ([] : List Sapi_Field)) = some r := by
   obtain ⟨_,_,h⟩ := bind_some h
   rw [b8] at h
   exact h
  refine sr mixed [] hst (fun _ => .o (op_assign .k) <| .n) fun n2 a w hst => ?_
  replace hst : St _ _ _ [_] [_] _ _ := (hst.pick [0]).nil (rSapi_Field) 44
  refine wp_ret ?_
  obtain rfl := sj h
  exact ret_st (.slice none 0 0) [0] hpl hst rfl (.tmp z0 .nil) rfl rfl rfl
 ·refine wp_skip ?_
  refine hK2 _ _ ?_
  try clear hK2 K2
  refine wp_seq_k (fun K6 hK6 => ?_)
  obtain ⟨u7,hu7,h⟩ := bind_some h
  refine wr mixed [v1 0 (fun v0 => own rSapi_Field 44 ([] : List Sapi_Field) v0),v1 2 (fun v0 => own rSapi_Field 44 (([] : List Sapi_Field) ++ s_) v0)] hst (fun _ => .m [] [0] rfl rfl rfl (op_buildSlO (R := rSapi_Field) (us := ([] : List Sapi_Field)) ud45 tok44 (.nil _) rfl (leb rfl) (leb rfl)) <| .q 2 rfl <| .e [] [0] [1] rfl rfl rfl rfl (op_append (R := rSapi_Field) ud45 tok44 (leb rfl) z1 z0 hu7) <| .ud (f := fun v => tv v) 2 rfl [] rfl rfl (op_assign z0) <| .n) fun n3 a w hst => ?_
  replace hst := hst.to [2,3] [_,_] [_] rfl rfl
  refine hK6 _ _ ?_
  try clear hK6 K6
  refine wp_ret ?_
  obtain rfl := sj h
  exact ret_st (n3 2) [0] hpl hst rfl (.tmp z1 .nil) rfl rfl rfl

/- diorama/learn.Fit -/
noncomputable def flearn_Fit (x_ : Sapi_Schema) (kind_ : Int) (field_ : Int) (counts_ : (List Int)) : Option (Sapi_Schema × Int) := (opt ((((decide (kind_ < (0:Int))) || (decide (kind_ ≥ ((x_).Kinds.length : Int)))) || (decide (field_ < (0:Int)))) == false) (idx (x_).Kinds kind_) default).bind fun t30 => (if ((((decide (kind_ < (0:Int))) || (decide (kind_ ≥ ((x_).Kinds.length : Int)))) || (decide (field_ < (0:Int)))) || (decide (field_ ≥ ((t30).Fields.length : Int)))) = true then (some (zz4,(12:Int))) else (idx (x_).Kinds kind_).bind fun t40 => (idx (t40).Fields field_).bind fun t44 => (if ((t44).Kind != (3:Int)) = true then (some (zz4,(13:Int))) else (if ((counts_.length : Int) != ((t44).Words.length : Int)) = true then (some (zz4,(1:Int))) else (fslices_ContainsFunc_int counts_ (fun x0 => flearn_Fitq1 x0)).bind fun t62 => (if t62 = true then (some (zz4,(5:Int))) else (flearn_sum counts_).bind fun t66 => (if (t66 == (0:Int)) = true then (some (x_,(0:Int))) else (flearn_lowest counts_).bind fun t70 => (fslices_Clone_Kind (x_).Kinds).bind fun t74 => (idx t74 kind_).bind fun t82 => (fslices_Clone_Field (t82).Fields).bind fun t85 => (idx t74 kind_).bind fun t86 => (setAt t85 field_ (Sapi_Field.mk (t44).Name (t44).Of (t44).Up (t44).Kind (t44).Lo (t44).Hi (t44).Words t70)).bind fun t96s => (some ((Sapi_Schema.mk (x_).Version (t74.set (kind_).toNat (Sapi_Kind.mk (t86).Name (t86).Lo (t86).Hi t96s)) (x_).Lives (x_).Rules),(0:Int))))))))
set_option maxRecDepth 100000 in
set_option maxHeartbeats 4000000 in
theorem learn_Fit_ok {x_ : Sapi_Schema} {kind_ : Int} {field_ : Int} {counts_ : (List Int)} {r : Sapi_Schema × Int} (h : flearn_Fit x_ kind_ field_ counts_ = some r) : FnOk Tryz.prog 25 [rSapi_Schema.ty x_,ti kind_,ti field_,tsl rI counts_] [] (fun _ => []) (fun _ => ttup [rSapi_Schema.ty r.1,ti r.2]) := by
 unfold flearn_Fit at h
 refine FnOk.enter Tryz.func25 rfl Tryz.ntmps25 (leb rfl) (fun M0 M w0 a hpl hst => ?_)
 replace hst : St M w0 98 [(0,rSapi_Schema.ty x_),(1,ti kind_),(2,ti field_),(3,tsl rI counts_)] [] a w0 := hst
 refine sr mixed [v1 0 (fun v0 => box (rSapi_Schema.cs x_) v0),v1 1 (fun v0 => box (rSapi_Schema.cs zz4) v0)] hst (fun _ => .m [] [0] rfl rfl rfl (op_box (R := rSapi_Schema) (u := x_) z0) <| .m [] [1] rfl rfl rfl (op_alloc (R := rSapi_Schema) (a := zz4) tok34 zok34) <| .o (op_assign .k) <| .n) fun n0 a w hst => ?_
 replace hst := hst.to [0,1,4,5,6] [_,_,_,_,_] [_,_] rfl rfl
 refine wp_seq_k (fun K4 hK4 => ?_)
 obtain ⟨t30,ht30,h⟩ := bind_some h
 refine sr mixed [] hst (fun _ => .q 2 rfl <| .o (op_lss z0 .k) <| .q 0 rfl <| .g rfl rfl (.b 0 rfl) (fun _ => op_move z5) <| .gu [0] rfl rfl rfl (.b 1 rfl) (fun _ => op_fieldB fld34_1 z4) <| .gu [0] rfl rfl rfl (.b 2 rfl) (fun hc => op_loadBf (R := (rSl rSapi_Kind)) (u := (x_).Kinds) tok30 (.cond z0 hc) rfl) <| .g rfl rfl (.b 3 rfl) (fun hc => op_len ud30 (.cond z0 hc)) <| .g rfl rfl (.b 4 rfl) (fun hc => op_geq (.cond z3 hc) (.cond z0 hc)) <| .o (op_or z5 (fun hp => (.cond z0 (beqF hp)))) <| .q 0 rfl <| .g rfl rfl (.b 0 rfl) (fun _ => op_move z13) <| .g rfl rfl (.b 1 rfl) (fun hc => op_lss (.cond z0 hc) .k) <| .o (op_or z2 (fun hp => (.cond z0 (beqF hp)))) <| .q 0 rfl <| .g rfl rfl (.b 0 rfl) (fun _ => op_move z17) <| .gu [0] rfl rfl rfl (.b 1 rfl) (fun _ => op_fieldB fld34_1 z15) <| .gu [0] rfl rfl rfl (.b 2 rfl) (fun hc => op_loadBf (R := (rSl rSapi_Kind)) (u := (x_).Kinds) tok30 (.cond z0 hc) rfl) <| .g rfl rfl (.b 3 rfl) (fun _ => op_move z19) <| .g rfl rfl (.b 4 rfl) (fun hc => op_index ud30 tok47 (.cond z1 hc) (.cond z0 hc) (opt_t ht30 hc)) <| .g rfl rfl (.b 5 rfl) (fun hc => op_field fld47_3 (.cond z0 hc)) <| .g rfl rfl (.b 6 rfl) (fun hc => op_loadT (R := (rSl rSapi_Field)) (u := (t30).Fields) tok45 (.cond z0 hc) rfl) <| .g rfl rfl (.b 7 rfl) (fun hc => op_len ud45 (.cond z0 hc)) <| .g rfl rfl (.b 8 rfl) (fun hc => op_geq (.cond z7 hc) (.cond z0 hc)) <| .o (op_or z9 (fun hp => (.cond z0 (beqF hp)))) <| .n) fun n1 a w hst => ?_
 replace hst := hst.to [23,24,25,26,27,28] [_,_,_,_,_,_] [_,_] rfl rfl
 refine wt hst (fun b30 => ?_) (fun b30 => ?_)
 ·replace h := ite_t b30 h
  refine sr mixed [v0 (box (rSapi_Schema.cs zz4) (n0 1))] hst (fun _ => .p (T := rSapi_Schema.ty zz4) rfl (op_build ud34 pl34 zv34 zc34 (.nil _)) <| .e [] [1] [2] rfl rfl rfl rfl (op_storeB (R := rSapi_Schema) (a := zz4) tok34 z3 z0 (leb rfl)) <| .o (op_assign .k) <| .n) fun n2 a w hst => ?_
  replace hst : St _ _ _ [_,_] [_] _ _ := (hst.pick [1,4]).selA [1] rfl
  refine wp_ret ?_
  obtain rfl := sj h
  exact ret_st undef [] hpl hst rfl (.cell (R := rSapi_Schema) (u := zz4) tok34 z1 0 rfl rfl (.tmp z0 .nil)) rfl rfl rfl
 ·replace h := ite_f b30 h
  refine wp_skip ?_
  refine hK4 _ _ ?_
  try clear hK4 K4
  obtain ⟨t40,ht40,h⟩ := bind_some h
  obtain ⟨t44,ht44,h⟩ := bind_some h
  refine sr mixed [v1 9 (fun v0 => box (rSapi_Field.cs zz0) v0),v1 9 (fun v0 => box (rSapi_Field.cs t44) v0)] hst (fun _ => .u [0] rfl rfl (op_fieldB fld34_1 z1) <| .u [0] rfl rfl (op_loadBf (R := (rSl rSapi_Kind)) (u := (x_).Kinds) tok30 z0 rfl) <| .q 5 rfl <| .o (op_index ud30 tok47 z1 z0 ht40) <| .o (op_field fld47_3 z0) <| .o (op_loadT (R := (rSl rSapi_Field)) (u := (t40).Fields) tok45 z0 rfl) <| .q 10 rfl <| .o (op_index ud45 tok44 z1 z0 ht44) <| .o (op_load tok44 z0) <| .m [] [2] rfl rfl rfl (op_alloc (R := rSapi_Field) (a := zz0) tok44 zok44) <| .e [] [2] [3] rfl rfl rfl rfl (op_storeB (R := rSapi_Field) (a := t44) tok44 z0 z1 (leb rfl)) <| .n) fun n3 a w hst => ?_
  replace hst := hst.to [9,11,12,13,14,15] [_,_,_,_,_,_] [_,_,_] rfl rfl
  refine sr mixed [] hst (fun _ => .o (op_assign .fnE) <| .n) fun n4 a w hst => ?_
  replace hst := hst.to [0,1,2,3,4,5,6] [_,_,_,_,_,_,_] [_,_,_] rfl rfl
  refine wp_seq_k (fun K10 hK10 => ?_)
  refine wp_block ?_
  refine sr mixed [] hst (fun _ => .u [2] rfl rfl (op_fieldB fld44_3 z1) <| .u [2] rfl rfl (op_loadBf (R := rI) (u := (t44).Kind) tok3 z0 rfl) <| .o (op_neq z0 .k) <| .o (op_assign z0) <| .n) fun n5 a w hst => ?_
  replace hst := hst.to [3,4,5,6,7,8,9,10] [_,_,_,_,_,_,_,_] [_,_,_] rfl rfl
  refine wt hst (fun b29 => ?_) (fun b29 => ?_)
  ·replace h := ite_t b29 h
   refine sr mixed [v0 (box (rSapi_Schema.cs zz4) (n0 1))] hst (fun _ => .p (T := rSapi_Schema.ty zz4) rfl (op_build ud34 pl34 zv34 zc34 (.nil _)) <| .e [] [1] [3] rfl rfl rfl rfl (op_storeB (R := rSapi_Schema) (a := zz4) tok34 z5 z0 (leb rfl)) <| .o (op_assign .k) <| .n) fun n6 a w hst => ?_
   replace hst : St _ _ _ [_,_] [_] _ _ := (hst.pick [1,6]).selA [2] rfl
   refine wp_ret ?_
   obtain rfl := sj h
   exact ret_st undef [] hpl hst rfl (.cell (R := rSapi_Schema) (u := zz4) tok34 z1 0 rfl rfl (.tmp z0 .nil)) rfl rfl rfl
  ·replace h := ite_f b29 h
   refine sr mixed [] hst (fun _ => .q 7 rfl <| .o (op_len ud22 z0) <| .u [2] rfl rfl (op_fieldB fld44_6 z4) <| .u [2] rfl rfl (op_loadBf (R := (rSl rS)) (u := (t44).Words) tok38 z0 rfl) <| .o (op_len ud38 z0) <| .o (op_neq z3 z0) <| .o (op_assign z0) <| .n) fun n7 a w hst => ?_
   replace hst := hst.to [6,8,9,10,11,12,13,14] [_,_,_,_,_,_,_,_] [_,_,_] rfl rfl
   refine wt hst (fun b28 => ?_) (fun b28 => ?_)
   ·replace h := ite_t b28 h
    refine sr mixed [v0 (box (rSapi_Schema.cs zz4) (n0 1))] hst (fun _ => .p (T := rSapi_Schema.ty zz4) rfl (op_build ud34 pl34 zv34 zc34 (.nil _)) <| .e [] [1] [3] rfl rfl rfl rfl (op_storeB (R := rSapi_Schema) (a := zz4) tok34 z5 z0 (leb rfl)) <| .o (op_assign .k) <| .n) fun n8 a w hst => ?_
    replace hst : St _ _ _ [_,_] [_] _ _ := (hst.pick [1,6]).selA [2] rfl
    refine wp_ret ?_
    obtain rfl := sj h
    exact ret_st undef [] hpl hst rfl (.cell (R := rSapi_Schema) (u := zz4) tok34 z1 0 rfl rfl (.tmp z0 .nil)) rfl rfl rfl
   ·replace h := ite_f b28 h
    obtain ⟨t62,ht62,h⟩ := bind_some h
    refine sr mixed [] hst (fun _ => .q 7 rfl <| .q 2 rfl <| .o (op_callF call58 (slices_ContainsFunc_int_ok ht62) (.cons (.of z1) <| .cons (.of (Fct.weak z0 (tfn_of call57 (fun _ _ hq => learn_Fitq1_ok hq)))) <| .nil)) <| .o (op_assign z0) <| .n) fun n9 a w hst => ?_
    replace hst := hst.to [3,6,7,8,9,10,11] [_,_,_,_,_,_,_] [_,_,_] rfl rfl
    refine wt hst (fun b27 => ?_) (fun b27 => ?_)
    ·replace h := ite_t b27 h
     refine sr mixed [v0 (box (rSapi_Schema.cs zz4) (n0 1))] hst (fun _ => .p (T := rSapi_Schema.ty zz4) rfl (op_build ud34 pl34 zv34 zc34 (.nil _)) <| .e [] [1] [3] rfl rfl rfl rfl (op_storeB (R := rSapi_Schema) (a := zz4) tok34 z4 z0 (leb rfl)) <| .o (op_assign .k) <| .n) fun n10 a w hst => ?_
     replace hst : St _ _ _ [_,_] [_] _ _ := (hst.pick [1,5]).selA [2] rfl
     refine wp_ret ?_
     obtain rfl := sj h
     exact ret_st undef [] hpl hst rfl (.cell (R := rSapi_Schema) (u := zz4) tok34 z1 0 rfl rfl (.tmp z0 .nil)) rfl rfl rfl
    ·replace h := ite_f b27 h
     obtain ⟨t66,ht66,h⟩ := bind_some h
     refine sr mixed [] hst (fun _ => .q 6 rfl <| .o (op_callF call59 (learn_sum_ok ht66) (.cons (.of z0) <| .nil)) <| .o (op_eql z0 .k) <| .o (op_assign z0) <| .n) fun n11 a w hst => ?_
     replace hst := hst.to [3,5,6,7,8,9,10] [_,_,_,_,_,_,_] [_,_,_] rfl rfl
     refine wt hst (fun b26 => ?_) (fun b26 => ?_)
     ·replace h := ite_t b26 h
      refine sr mixed [v0 (box (rSapi_Schema.cs x_) (n0 1))] hst (fun _ => .u [0] rfl rfl (op_loadB (R := rSapi_Schema) (u := x_) tok34 z2 rfl) <| .e [] [1] [3] rfl rfl rfl rfl (op_storeB (R := rSapi_Schema) (a := x_) tok34 z4 z0 (leb rfl)) <| .o (op_assign .k) <| .n) fun n12 a w hst => ?_
      replace hst : St _ _ _ [_,_] [_] _ _ := (hst.pick [1,5]).selA [2] rfl
      refine wp_ret ?_
      obtain rfl := sj h
      exact ret_st undef [] hpl hst rfl (.cell (R := rSapi_Schema) (u := x_) tok34 z1 0 rfl rfl (.tmp z0 .nil)) rfl rfl rfl
     ·replace h := ite_f b26 h
      refine wp_skip ?_
      refine hK10 _ _ ?_
      try clear hK10 K10
      obtain ⟨t70,ht70,h⟩ := bind_some h
      refine sr mixed [v0 (box (rSapi_Field.cs (Sapi_Field.mk (t44).Name (t44).Of (t44).Up (t44).Kind (t44).Lo (t44).Hi (t44).Words t70)) (n3 9))] hst (fun _ => .q 6 rfl <| .o (op_callF call60 (learn_lowest_ok ht70) (.cons (.of z0) <| .nil)) <| .u [2] rfl rfl (op_fieldB fld44_7 z3) <| .e [] [2] [3] rfl rfl rfl rfl (op_storeBf (R := (rSl rI)) (a := t70) (Ts := (rSapi_Field.cs t44)) (off := 7) tok22 z0 z1 (leb rfl)) <| .n) fun n13 a w hst => ?_
      replace hst := hst.to [4,5,6,7,8] [_,_,_,_,_] [_,_,_] rfl rfl
      obtain ⟨t74,ht74,h⟩ := bind_some h
      refine sr mixed [v1 2 (fun v0 => own rSapi_Kind 47 t74 v0),v1 2 (fun v0 => box ([ti (x_).Version,tvs v0,tsl rSapi_Life (x_).Lives,tsl rSapi_Rule (x_).Rules]) (n0 0))] hst (fun _ => .u [0] rfl rfl (op_fieldB fld34_1 z1) <| .u [0] rfl rfl (op_loadBf (R := (rSl rSapi_Kind)) (u := (x_).Kinds) tok30 z0 rfl) <| .m [] [3] rfl rfl rfl (op_callF call61 (slices_Clone_Kind_ok ht74) (.cons (.of z0) <| .nil)) <| .u [0] rfl rfl (op_fieldB fld34_1 z4) <| .e [3] [0] [4] rfl rfl rfl rfl (op_storeBVf (R := rSapi_Kind) (e := 47) (Ts := (rSapi_Schema.cs x_)) (off := 1) tokV30 z0 z1 (leb rfl)) <| .n) fun n14 a w hst => ?_
      replace hst := hst.to [2,4,5,6,7,8] [_,_,_,_,_,_] [_,_,_,_] rfl rfl
      obtain ⟨t82,ht82,h⟩ := bind_some h
      obtain ⟨t85,ht85,h⟩ := bind_some h
      obtain ⟨t86,ht86,h⟩ := bind_some h
      refine sr mixed [v1 9 (fun v0 => own rSapi_Field 44 t85 v0),v1 9 (fun v0 => own (rHole rSapi_Kind 3) 47 (holeL t74 kind_ v0) (n14 2))] hst (fun _ => .u [3] rfl rfl (op_fieldB fld34_1 z2) <| .u [3] rfl rfl (op_loadBVf (u := (n14 2)) tokV30 z0 rfl) <| .q 6 rfl <| .u [3] rfl rfl (op_fieldB fld34_1 z5) <| .u [3] rfl rfl (op_loadBVf (u := (n14 2)) tokV30 z0 rfl) <| .q 9 rfl <| .u [2] rfl rfl (op_indexOi ud30 tok47 z1 z0 ht82) <| .u [2] rfl rfl (op_fieldO fld47_3 z0 (idx_ne ht82)) <| .u [2] rfl rfl (op_loadOf (R2 := (rSl rSapi_Field)) (f := (t82).Fields) tok45 z0 ht82 rfl) <| .m [] [4] rfl rfl rfl (op_callF call62 (slices_Clone_Field_ok ht85) (.cons (.of z0) <| .nil)) <| .u [2] rfl rfl (op_indexOi ud30 tok47 z8 z7 ht86) <| .u [2] rfl rfl (op_fieldO fld47_3 z0 (idx_ne ht86)) <| .e [4] [2] [5] rfl rfl rfl rfl (op_storeH (R := rSapi_Kind) (R2 := rSapi_Field) (e2 := 44) (ys := t85) tokV45 z0 z2 ht86 (leb rfl)) <| .n) fun n15 a w hst => ?_
      replace hst := hst.to [1,4,9,12,13,14,15,16,17] [_,_,_,_,_,_,_,_,_] [_,_,_,_,_] rfl rfl
      obtain ⟨t96s,ht96s,h⟩ := bind_some h
      refine sr mixed [v0 (own rSapi_Field 44 t96s (n15 9))] hst (fun _ => .u [2] rfl rfl (op_fieldB fld34_1 z5) <| .u [2] rfl rfl (op_loadBVf (u := (n14 2)) tokV30 z0 rfl) <| .q 9 rfl <| .u [4] rfl rfl (op_indexH ud30 tok47 z1 z0 ht86) <| .u [4] rfl rfl (op_fieldH fld47_3 z0 ht86) <| .u [4] rfl rfl (op_loadH (R := rSapi_Kind) (k := 3) tokV45 z0 ht86 (leb rfl)) <| .q 14 rfl <| .u [1] rfl rfl (op_loadB (R := rSapi_Field) (u := (Sapi_Field.mk (t44).Name (t44).Of (t44).Up (t44).Kind (t44).Lo (t44).Hi (t44).Words t70)) tok44 z11 rfl) <| .u [3] rfl rfl (op_indexOs ud45 tok44 z2 z1 ht96s) <| .e [] [3] [5] rfl rfl rfl rfl (op_storeO tok44 z0 z1 ht96s) <| .n) fun n16 a w hst => ?_
      replace hst : St _ _ _ [_,_,_,_,_,_,_,_] [_,_,_,_] _ _ := (hst.pick [1,5,9,10,11,12,14,15]).selA [0,2,3,4] rfl
      refine wp_seq_k (fun K25 hK25 => ?_)
      replace hst : St _ _ _ [_,_,_,_,_,_] [_,_,_] _ _ := ((hst.pick [0,2,3,5,6,7]).selA [3,2,0,1] rfl).closeH (u' := (Sapi_Kind.mk (t86).Name (t86).Lo (t86).Hi t96s)) ht86 (leb rfl) rfl
      replace hst : St _ _ _ [_,_] [_,_] _ _ := ((hst.pick [4,5]).selA [0,2,1] rfl).shareC 1 rfl
      refine wr mixed [v0 (box (rSapi_Schema.cs (Sapi_Schema.mk (x_).Version (t74.set (kind_).toNat (Sapi_Kind.mk (t86).Name (t86).Lo (t86).Hi t96s)) (x_).Lives (x_).Rules)) (n0 1))] hst (fun _ => .u [0] rfl rfl (op_loadB (R := rSapi_Schema) (u := (Sapi_Schema.mk (x_).Version (t74.set (kind_).toNat (Sapi_Kind.mk (t86).Name (t86).Lo (t86).Hi t96s)) (x_).Lives (x_).Rules)) tok34 z0 rfl) <| .e [] [1] [2] rfl rfl rfl rfl (op_storeB (R := rSapi_Schema) (a := (Sapi_Schema.mk (x_).Version (t74.set (kind_).toNat (Sapi_Kind.mk (t86).Name (t86).Lo (t86).Hi t96s)) (x_).Lives (x_).Rules)) tok34 z2 z0 (leb rfl)) <| .o (op_assign .k) <| .n) fun n17 a w hst => ?_
      replace hst : St _ _ _ [_,_] [_] _ _ := (hst.pick [1,3]).selA [1] rfl
      refine hK25 _ _ ?_
      try clear hK25 K25
      refine wp_ret ?_
      obtain rfl := sj h
      exact ret_st undef [] hpl hst rfl (.cell (R := rSapi_Schema) (u := (Sapi_Schema.mk (x_).Version (t74.set (kind_).toNat (Sapi_Kind.mk (t86).Name (t86).Lo (t86).Hi t96s)) (x_).Lives (x_).Rules)) tok34 z1 0 rfl rfl (.tmp z0 .nil)) rfl rfl rfl

/- diorama/dioramaref27.Gcd -/
noncomputable def fref27_Gcd (a_ : Int) (b_ : Int) : Option (Int) := (tailrec (fun (s3 : Int × Int) => ((if (decide (s3.2 > (0:Int))) = true then (nz s3.2).bind fun _ => (some (.inl (s3.2,(Int.tmod s3.1 s3.2)))) else (some (.inr s3.1))) : Option ((Int × Int) ⊕ ((Int))))) (a_,b_)).bind fun (p15 : (Int)) => (some p15)
set_option maxRecDepth 100000 in
set_option maxHeartbeats 4000000 in
theorem ref27_Gcd_ok {a_ : Int} {b_ : Int} {r : Int} (h : fref27_Gcd a_ b_ = some r) : FnOk Tryz.prog 101 [ti a_,ti b_] [] (fun _ => []) (fun _ => ti r) := by
 unfold fref27_Gcd at h
 refine FnOk.enter Tryz.func101 rfl Tryz.ntmps101 (leb rfl) (fun M0 M w0 a hpl hst => ?_)
 replace hst : St M w0 14 [(0,ti a_),(1,ti b_)] [] a w0 := hst
 refine sr mixed [] hst (fun _ => .o (op_assign .k) <| .n) fun n0 a w hst => ?_
 replace hst := hst.to [1,2] [_,_] [] rfl rfl
 refine wp_seq_k (fun K2 hK2 => ?_)
 obtain ⟨e4,he4,h⟩ := bind_some h
 have hJp15 : ∀ (p15 : Int) a w,p15 = e4 → St M w0 14 [(0,ti p15)] [] a w → K2 a w := by
  intro p15 a w he hst
  subst he
  refine hK2 _ _ ?_
  try clear hK2 K2
  refine sr mixed [] hst (fun _ => .q 0 rfl <| .o (op_assign z0) <| .n) fun n5 a w hst => ?_
  replace hst := hst.to [1] [_] [] rfl rfl
  refine wp_ret ?_
  obtain rfl := sj h
  exact ret_st undef [] hpl hst rfl (.tmp z0 .nil) rfl rfl rfl
 refine wp_block ?_
 refine wp_loopK _ (fun (s3 : Int × Int) a w => St M w0 14 [(0,ti s3.1),(1,ti s3.2)] [] a w) _ _ he4 (hst.pick [0,1]) ?_
 clear h
 intro s3 o a w K17 hI h ho hK17
 have hst := hI
 clear hI
 refine wp_seq_k (fun K18 hK18 => ?_)
 refine sr mixed [] hst (fun _ => .q 1 rfl <| .o (op_gtr z0 .k) <| .n) fun n1 a w hst => ?_
 replace hst := hst.to [1,2,3] [_,_,_] [] rfl rfl
 refine wt hst (fun b22 => ?_) (fun b22 => ?_)
 ·replace h := ite_t b22 h
  refine wp_skip ?_
  refine hK18 _ _ ?_
  try clear hK18 K18
  refine wp_block ?_
  refine wp_seq_k (fun K20 hK20 => ?_)
  obtain ⟨u10,hu10,h⟩ := bind_some h
  refine wr mixed [] hst (fun _ => .q 1 rfl <| .q 3 rfl <| .o (op_rem z1 z0 (nz_ne hu10)) <| .o (op_assign z0) <| .n) fun n2 a w hst => ?_
  replace hst := hst.to [3,6] [_,_] [] rfl rfl
  refine hK20 _ _ ?_
  try clear hK20 K20
  refine sr mixed [] hst (fun _ => .q 1 rfl <| .o (op_assign z0) <| .n) fun n3 a w hst => ?_
  replace hst := hst.to [1,2] [_,_] [] rfl rfl
  refine wr mixed [] hst (fun _ => .q 1 rfl <| .o (op_assign z0) <| .n) fun n4 a w hst => ?_
  replace hst := hst.to [1,2] [_,_] [] rfl rfl
  exact hK17 _ _ _ (sj h).symm (hst.pick [1,0])
 ·replace h := ite_f b22 h
  refine wp_exit ?_
  exact hJp15 _ _ _ (ho _ (sj h).symm) (hst.pick [1])

/- diorama/dioramaref27.Lowest -/
noncomputable def fref27_Lowest (l_ : (List Int)) : Option ((List Int)) := (tailrec (fun (s5 : Int × Int) => ((if (decide (s5.1 < (l_.length : Int))) = true then (idx l_ s5.1).bind fun t16 => (fref27_Gcd s5.2 t16).bind fun t18 => (some (.inl ((IntKind.i64.wrap (s5.1 + (1:Int))),t18))) else (some (.inr s5.2))) : Option ((Int × Int) ⊕ ((Int))))) ((0:Int),(0:Int))).bind fun (p15 : (Int)) => (tailrec (fun (s20 : Int × List Int) => ((if (decide (s20.1 < (l_.length : Int))) = true then (idx l_ s20.1).bind fun t28 => (nz (imax p15 (1:Int))).bind fun _ => (rm (s20.2.length + [(IntKind.i64.wrap (Int.tdiv t28 (imax p15 (1:Int))))].length)).bind fun _ => (some (.inl ((IntKind.i64.wrap (s20.1 + (1:Int))),(s20.2 ++ [(IntKind.i64.wrap (Int.tdiv t28 (imax p15 (1:Int))))])))) else (some (.inr s20.2))) : Option ((Int × List Int) ⊕ ((List Int))))) ((0:Int),([] : List Int))).bind fun (p31 : (List Int)) => (some p31)
set_option maxRecDepth 100000 in
set_option maxHeartbeats 4000000 in
theorem ref27_Lowest_ok {l_ : (List Int)} {r : (List Int)} (h : fref27_Lowest l_ = some r) : FnOk Tryz.prog 63 [tsl rI l_] [] (fun _ => []) (fun _ => tsl rI r) := by
 unfold fref27_Lowest at h
 refine FnOk.enter Tryz.func63 rfl Tryz.ntmps63 (leb rfl) (fun M0 M w0 a hpl hst => ?_)
 replace hst : St M w0 36 [(0,tsl rI l_)] [] a w0 := hst
 refine sr mixed [] hst (fun _ => .o (op_assign (.nilsl (R := rI))) <| .n) fun n0 a w hst => ?_
 replace hst := hst.to [1] [_] [] rfl rfl
 refine sr mixed [] hst (fun _ => .o (op_assign .k) <| .n) fun n1 a w hst => ?_
 replace hst := hst.to [0,1] [_,_] [] rfl rfl
 refine wp_seq_k (fun K3 hK3 => ?_)
 refine sr mixed [] hst (fun _ => .o (op_assign .k) <| .n) fun n2 a w hst => ?_
 replace hst := hst.to [0,1,2] [_,_,_] [] rfl rfl
 obtain ⟨e6,he6,h⟩ := bind_some h
 have hJp15 : ∀ (p15 : Int) a w,p15 = e6 → St M w0 36 [(3,ti p15),(0,tsl rI l_)] [] a w → K3 a w := by
  intro p15 a w he hst
  subst he
  refine hK3 _ _ ?_
  try clear hK3 K3
  refine sr mixed [] hst (fun _ => .o (op_assign .k) <| .n) fun n6 a w hst => ?_
  replace hst : St _ _ _ [_,_,_] [_] _ _ := (hst.pick [0,1,2]).nil (rI) 3
  refine wp_seq_k (fun K18 hK18 => ?_)
  refine sr mixed [] hst (fun _ => .o (op_assign .k) <| .n) fun n7 a w hst => ?_
  replace hst := hst.to [0,1,2,3] [_,_,_,_] [_] rfl rfl
  obtain ⟨e21,he21,h⟩ := bind_some h
  have hJp31 : ∀ (p31 : List Int) (v32 : Value) a w,p31 = e21 → St M w0 36 [(5,tv v32)] [own rI 3 p31 v32] a w → K18 a w := by
   intro p31 v32 a w he hst
   subst he
   refine hK18 _ _ ?_
   try clear hK18 K18
   refine sr mixed [] hst (fun _ => .q 0 rfl <| .o (op_assign z0) <| .n) fun n11 a w hst => ?_
   replace hst := hst.to [0,1,2] [_,_,_] [_] rfl rfl
   refine wp_ret ?_
   replace hst : St _ _ _ [_] [] _ _ := (hst.shareO 1 rfl).pick [0]
   obtain rfl := sj h
   exact ret_st undef [] hpl hst rfl (.tmp z0 .nil) rfl rfl rfl
  refine wp_block ?_
  refine wp_loopK _ (fun (s20 : Int × List Int) a w => ∃ v26 : Value,St M w0 36 [(6,ti s20.1),(5,tv v26),(3,ti p15),(0,tsl rI l_)] [own rI 3 s20.2 v26] a w) _ _ he21 ⟨(.slice none 0 0),hst.pick [0,1,2,3]⟩ ?_
  clear h
  intro s20 o a w K34 hI h ho hK34
  obtain ⟨v26,hst⟩ := hI
  refine wp_seq_k (fun K35 hK35 => ?_)
  refine sr mixed [] hst (fun _ => .q 0 rfl <| .q 4 rfl <| .o (op_len ud22 z0) <| .o (op_lss z2 z0) <| .n) fun n8 a w hst => ?_
  replace hst := hst.to [3,4,5,6,7] [_,_,_,_,_] [_] rfl rfl
  refine wt hst (fun b38 => ?_) (fun b38 => ?_)
  ·replace h := ite_t b38 h
   refine wp_skip ?_
   refine hK35 _ _ ?_
   try clear hK35 K35
   refine wp_seq_k (fun K37 hK37 => ?_)
   refine wp_block ?_
   obtain ⟨t28,ht28,h⟩ := bind_some h
   obtain ⟨u32,hu32,h⟩ := bind_some h
   obtain ⟨u34,hu34,h⟩ := bind_some h
   refine wr mixed [v1 9 (fun v0 => own rI 3 (s20.2 ++ [(IntKind.i64.wrap (Int.tdiv t28 (imax p15 (1:Int))))]) v0)] hst (fun _ => .q 2 rfl <| .q 5 rfl <| .q 3 rfl <| .o (op_index ud22 tok3 z1 z0 ht28) <| .o (op_load tok3 z0) <| .q 8 rfl <| .o (op_max z0 .k) <| .o (op_quo z2 z0 (nz_ne hu32)) <| .o (op_buildSl (R := rI) (us := [(IntKind.i64.wrap (Int.tdiv t28 (imax p15 (1:Int))))]) ud22 tok3 (.cons z0 <| .nil _) rfl (leb rfl)) <| .e [] [0] [1] rfl rfl rfl rfl (op_append (R := rI) ud22 tok3 (leb rfl) z8 z0 hu34) <| .ud (f := fun v => tv v) 9 rfl [] rfl rfl (op_assign z0) <| .n) fun n10 a w hst => ?_
   replace hst := hst.to [9,10,12,13,14] [_,_,_,_,_] [_] rfl rfl
   refine hK37 _ _ ?_
   try clear hK37 K37
   refine wr mixed [] hst (fun _ => .q 2 rfl <| .o (op_add z0 .k) <| .o (op_assign z0) <| .n) fun n9 a w hst => ?_
   replace hst := hst.to [2,3,4,5,6] [_,_,_,_,_] [_] rfl rfl
   exact hK34 _ _ _ (sj h).symm ⟨(n10 9),hst.pick [0,2,3,4]⟩
  ·replace h := ite_f b38 h
   refine wp_exit ?_
   exact hJp31 _ v26 _ _ (ho _ (sj h).symm) (hst.pick [2])
 refine wp_block ?_
 refine wp_loopK _ (fun (s5 : Int × Int) a w => St M w0 36 [(4,ti s5.1),(3,ti s5.2),(0,tsl rI l_)] [] a w) _ _ he6 (hst.pick [0,1,2]) ?_
 clear h
 intro s5 o a w K39 hI h ho hK39
 have hst := hI
 clear hI
 refine wp_seq_k (fun K40 hK40 => ?_)
 refine sr mixed [] hst (fun _ => .q 0 rfl <| .q 3 rfl <| .o (op_len ud22 z0) <| .o (op_lss z2 z0) <| .n) fun n3 a w hst => ?_
 replace hst := hst.to [3,4,5,6] [_,_,_,_] [] rfl rfl
 refine wt hst (fun b43 => ?_) (fun b43 => ?_)
 ·replace h := ite_t b43 h
  refine wp_skip ?_
  refine hK40 _ _ ?_
  try clear hK40 K40
  refine wp_seq_k (fun K42 hK42 => ?_)
  refine wp_block ?_
  obtain ⟨t16,ht16,h⟩ := bind_some h
  obtain ⟨t18,ht18,h⟩ := bind_some h
  refine wr mixed [] hst (fun _ => .q 2 rfl <| .q 4 rfl <| .q 3 rfl <| .o (op_index ud22 tok3 z1 z0 ht16) <| .o (op_load tok3 z0) <| .o (op_callF call101 (ref27_Gcd_ok ht18) (.cons (.of z4) <| .cons (.of z0) <| .nil)) <| .o (op_assign z0) <| .n) fun n5 a w hst => ?_
  replace hst := hst.to [6,8,9] [_,_,_] [] rfl rfl
  refine hK42 _ _ ?_
  try clear hK42 K42
  refine wr mixed [] hst (fun _ => .q 1 rfl <| .o (op_add z0 .k) <| .o (op_assign z0) <| .n) fun n4 a w hst => ?_
  replace hst := hst.to [2,3,4] [_,_,_] [] rfl rfl
  exact hK39 _ _ _ (sj h).symm (hst.pick [0,1,2])
 ·replace h := ite_f b43 h
  refine wp_exit ?_
  exact hJp15 _ _ _ (ho _ (sj h).symm) (hst.pick [2,3])

end Go.Proofs.YthdfmpocknmleaaGreatDoor

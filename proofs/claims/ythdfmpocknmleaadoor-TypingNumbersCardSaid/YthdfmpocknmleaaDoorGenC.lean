/- Go functions as Lean functions, and the proofs that they compute them, written by a program. No condition. -/
import Derived.Test.YthdfmpocknmleaaDoorGenB
namespace Go.Proofs.YthdfmpocknmleaaDoor
open Go.Sim

/- diorama/dioramaref09.Spoilt -/
noncomputable def fref09_Spoilt (x_ : Sapi_Schema) (at_ : Int) (how_ : Int) (by_ : Int) : Option (Sapi_Schema) := (rm (([] : List Sapi_Kind).length + (x_).Kinds.length)).bind fun _ => (rm (([] : List Sapi_Life).length + (x_).Lives.length)).bind fun _ => (rm (([] : List Sapi_Rule).length + (x_).Rules.length)).bind fun _ => (fref01_Around at_ ((([] : List Sapi_Kind) ++ (x_).Kinds).length : Int)).bind fun t31 => (fref01_Around how_ (8:Int)).bind fun t33 => ((if (t33 == (0:Int)) = true then (fref01_Around by_ (4:Int)).bind fun t80 => (idx [(IntKind.i64.wrap ((x_).Version + (1:Int))),(-1:Int),(1048576:Int),(1048577:Int)] t80).bind fun t81 => (some ((([] : List Sapi_Kind) ++ (x_).Kinds),(([] : List Sapi_Life) ++ (x_).Lives),(([] : List Sapi_Rule) ++ (x_).Rules),t81)) else ((if (t33 == (1:Int)) = true then ((if (decide (t31 < ((([] : List Sapi_Kind) ++ (x_).Kinds).length : Int))) = true then (fref01_Around by_ (4:Int)).bind fun t96 => (idx [([112,101,114,115,111,110] : Str),([] : Str),([111,116,104,101,114] : Str),([97,32,98] : Str)] t96).bind fun t97 => (idx (([] : List Sapi_Kind) ++ (x_).Kinds) t31).bind fun t99 => (setAt (([] : List Sapi_Kind) ++ (x_).Kinds) t31 { t99 with Name := t97 }).bind fun t99s => (some t99s) else (some (([] : List Sapi_Kind) ++ (x_).Kinds)))).bind fun (p3169 : List Sapi_Kind) => (some ((([] : List Sapi_Life) ++ (x_).Lives),(([] : List Sapi_Rule) ++ (x_).Rules),p3169)) else ((if (t33 == (2:Int)) = true then ((if (decide (t31 < ((([] : List Sapi_Kind) ++ (x_).Kinds).length : Int))) = true then (fref01_Around by_ (4:Int)).bind fun t113 => (idx [(0:Int),(5:Int),(-1:Int),(65537:Int)] t113).bind fun t114 => (idx (([] : List Sapi_Kind) ++ (x_).Kinds) t31).bind fun t116 => (setAt (([] : List Sapi_Kind) ++ (x_).Kinds) t31 { t116 with Lo := t114 }).bind fun t116s => (some t116s) else (some (([] : List Sapi_Kind) ++ (x_).Kinds)))).bind fun (p3696 : List Sapi_Kind) => (some ((([] : List Sapi_Life) ++ (x_).Lives),(([] : List Sapi_Rule) ++ (x_).Rules),p3696)) else ((if (t33 == (3:Int)) = true then ((if (decide (t31 < ((([] : List Sapi_Kind) ++ (x_).Kinds).length : Int))) = true then (fref01_Around by_ (4:Int)).bind fun t130 => (idx [(0:Int),(5:Int),(65536:Int),(65537:Int)] t130).bind fun t131 => (idx (([] : List Sapi_Kind) ++ (x_).Kinds) t31).bind fun t133 => (setAt (([] : List Sapi_Kind) ++ (x_).Kinds) t31 { t133 with Hi := t131 }).bind fun t133s => (some t133s) else (some (([] : List Sapi_Kind) ++ (x_).Kinds)))).bind fun (p3959 : List Sapi_Kind) => (some ((([] : List Sapi_Life) ++ (x_).Lives),(([] : List Sapi_Rule) ++ (x_).Rules),p3959)) else ((if (t33 == (4:Int)) = true then ((if (decide (((([] : List Sapi_Life) ++ (x_).Lives).length : Int) > (0:Int))) = true then (idx (([] : List Sapi_Life) ++ (x_).Lives) (0:Int)).bind fun t146 => (rm (([] : List A2_Int).length + (t146).Moves.length)).bind fun _ => (fref01_Around by_ (6:Int)).bind fun t151 => (fref01_Around (IntKind.i64.wrap (Int.tdiv by_ (6:Int))) (6:Int)).bind fun t155 => (rm ((([] : List A2_Int) ++ (t146).Moves).length + [(A2_Int.mk (IntKind.i64.wrap (t151 - (1:Int))) (IntKind.i64.wrap (t155 - (1:Int))))].length)).bind fun _ => (idx (([] : List Sapi_Life) ++ (x_).Lives) (0:Int)).bind fun t160 => (setAt (([] : List Sapi_Life) ++ (x_).Lives) (0:Int) { t160 with Moves := ((([] : List A2_Int) ++ (t146).Moves) ++ [(A2_Int.mk (IntKind.i64.wrap (t151 - (1:Int))) (IntKind.i64.wrap (t155 - (1:Int))))]) }).bind fun t160s => (some t160s) else (some (([] : List Sapi_Life) ++ (x_).Lives)))).bind fun (p4090 : List Sapi_Life) => (some ((([] : List Sapi_Kind) ++ (x_).Kinds),(([] : List Sapi_Rule) ++ (x_).Rules),p4090)) else ((if (t33 == (5:Int)) = true then (fref01_Around by_ (4:Int)).bind fun t168 => (idx [([112,101,114,115,111,110] : Str),([111,114,100,101,114] : Str),([110,111,110,101] : Str),([] : Str)] t168).bind fun t169 => (fref01_Around (IntKind.i64.wrap (Int.tdiv by_ (4:Int))) (5:Int)).bind fun t174 => (idx [([115,105,122,101] : Str),([108,111,119] : Str),([] : Str),([105,100] : Str),([98,111,114,110] : Str)] t174).bind fun t175 => (fref01_Around (IntKind.i64.wrap (Int.tdiv by_ (20:Int))) (5:Int)).bind fun t180 => (idx [([104,105,103,104] : Str),([] : Str),([115,105,122,101] : Str),([108,101,102,116] : Str),([116,97,103] : Str)] t180).bind fun t181 => (fref01_Around by_ (50:Int)).bind fun t184 => (rm ((([] : List Sapi_Rule) ++ (x_).Rules).length + [(Sapi_Rule.mk ([102,117,114,116,104,101,114] : Str) t169 t175 t181 (IntKind.i64.wrap (t184 - (20:Int))))].length)).bind fun _ => (some ((([] : List Sapi_Kind) ++ (x_).Kinds),(([] : List Sapi_Life) ++ (x_).Lives),((([] : List Sapi_Rule) ++ (x_).Rules) ++ [(Sapi_Rule.mk ([102,117,114,116,104,101,114] : Str) t169 t175 t181 (IntKind.i64.wrap (t184 - (20:Int))))]))) else ((if (t33 == (6:Int)) = true then ((if (decide (((([] : List Sapi_Life) ++ (x_).Lives).length : Int) > (0:Int))) = true then (idx (([] : List Sapi_Life) ++ (x_).Lives) (0:Int)).bind fun t201 => (rm (([] : List Str).length + (t201).States.length)).bind fun _ => (fref01_Around by_ (3:Int)).bind fun t207 => (idx [([109,111,114,101] : Str),([110,101,119] : Str),([63] : Str)] t207).bind fun t208 => (rm ((([] : List Str) ++ (t201).States).length + [t208].length)).bind fun _ => (idx (([] : List Sapi_Life) ++ (x_).Lives) (0:Int)).bind fun t212 => (setAt (([] : List Sapi_Life) ++ (x_).Lives) (0:Int) { t212 with States := ((([] : List Str) ++ (t201).States) ++ [t208]) }).bind fun t212s => (some t212s) else (some (([] : List Sapi_Life) ++ (x_).Lives)))).bind fun (p4185 : List Sapi_Life) => (some ((([] : List Sapi_Kind) ++ (x_).Kinds),p4185)) else ((if (decide (t31 < ((([] : List Sapi_Kind) ++ (x_).Kinds).length : Int))) = true then (idx (([] : List Sapi_Kind) ++ (x_).Kinds) t31).bind fun t43 => (rm (([] : List Sapi_Field).length + (t43).Fields.length)).bind fun _ => (fref01_Around (IntKind.i64.wrap (Int.tdiv at_ (3:Int))) ((([] : List Sapi_Field) ++ (t43).Fields).length : Int)).bind fun t51 => ((if (decide (t51 < ((([] : List Sapi_Field) ++ (t43).Fields).length : Int))) = true then (idx (([] : List Sapi_Field) ++ (t43).Fields) t51).bind fun t60 => (fref09_spoiltField t60 (IntKind.i64.wrap (Int.tdiv how_ (8:Int))) by_).bind fun t65 => (setAt (([] : List Sapi_Field) ++ (t43).Fields) t51 t65).bind fun t66s => (some t66s) else (some (([] : List Sapi_Field) ++ (t43).Fields)))).bind fun (p4206 : List Sapi_Field) => (idx (([] : List Sapi_Kind) ++ (x_).Kinds) t31).bind fun t71 => (setAt (([] : List Sapi_Kind) ++ (x_).Kinds) t31 { t71 with Fields := p4206 }).bind fun t71s => (some t71s) else (some (([] : List Sapi_Kind) ++ (x_).Kinds)))).bind fun (p4191 : List Sapi_Kind) => (some (p4191,(([] : List Sapi_Life) ++ (x_).Lives))))).bind fun (p4156 : List Sapi_Kind × List Sapi_Life) => (some (p4156.1,p4156.2,(([] : List Sapi_Rule) ++ (x_).Rules))))).bind fun (p4096 : List Sapi_Kind × List Sapi_Life × List Sapi_Rule) => (some (p4096.1,p4096.2.2,p4096.2.1)))).bind fun (p3963 : List Sapi_Kind × List Sapi_Rule × List Sapi_Life) => (some (p3963.2.2,p3963.2.1,p3963.1)))).bind fun (p3700 : List Sapi_Life × List Sapi_Rule × List Sapi_Kind) => (some (p3700.1,p3700.2.1,p3700.2.2)))).bind fun (p3173 : List Sapi_Life × List Sapi_Rule × List Sapi_Kind) => (some (p3173.1,p3173.2.1,p3173.2.2)))).bind fun (p2118 : List Sapi_Life × List Sapi_Rule × List Sapi_Kind) => (some (p2118.2.2,p2118.1,p2118.2.1,(x_).Version)))).bind fun (p14 : List Sapi_Kind × List Sapi_Life × List Sapi_Rule × Int) => (some (Sapi_Schema.mk p14.2.2.2 p14.1 p14.2.1 p14.2.2.1))
set_option maxRecDepth 100000 in
set_option maxHeartbeats 4000000 in
theorem ref09_Spoilt_ok {x_ : Sapi_Schema} {at_ : Int} {how_ : Int} {by_ : Int} {r : Sapi_Schema} (h : fref09_Spoilt x_ at_ how_ by_ = some r) : FnOk Tryd.prog 16 [rSapi_Schema.ty x_,ti at_,ti how_,ti by_] [] (fun _ => []) (fun _ => rSapi_Schema.ty r) := by
 unfold fref09_Spoilt at h
 refine FnOk.enter Tryd.func16 rfl Tryd.ntmps16 (leb rfl) (fun M0 M w0 a hpl hst => ?_)
 replace hst : St M w0 215 [(0,rSapi_Schema.ty x_),(1,ti at_),(2,ti how_),(3,ti by_)] [] a w0 := hst
 refine sr mixed [v1 0 (fun v0 => box (rSapi_Schema.cs x_) v0),v1 1 (fun v0 => box (rSapi_Schema.cs zz4) v0)] hst (fun _ => .m [] [0] rfl rfl rfl (op_box (R := rSapi_Schema) (u := x_) z0) <| .m [] [1] rfl rfl rfl (op_alloc (R := rSapi_Schema) (a := zz4) tok29 zok29) <| .n) fun n0 a w hst => ?_
 replace hst := hst.to [0,1,3,4,5] [_,_,_,_,_] [_,_] rfl rfl
 refine wp_seq_k (fun K4 hK4 => ?_)
 obtain ⟨u15,hu15,h⟩ := bind_some h
 refine wr mixed [v1 0 (fun v0 => own rSapi_Kind 32 ([] : List Sapi_Kind) v0),v1 3 (fun v0 => own rSapi_Kind 32 (([] : List Sapi_Kind) ++ (x_).Kinds) v0),v1 3 (fun v0 => box ([ti (x_).Version,tvs v0,tsl rSapi_Life (x_).Lives,tsl rSapi_Rule (x_).Rules]) (n0 0))] hst (fun _ => .m [] [2] rfl rfl rfl (op_buildSlO (R := rSapi_Kind) (us := ([] : List Sapi_Kind)) ud25 tok32 (.nil _) rfl (leb rfl) (leb rfl)) <| .u [0] rfl rfl (op_fieldB fld29_1 z1) <| .u [0] rfl rfl (op_loadBf (R := (rSl rSapi_Kind)) (u := (x_).Kinds) tok25 z0 rfl) <| .e [] [2] [3] rfl rfl rfl rfl (op_append (R := rSapi_Kind) ud25 tok32 (leb rfl) z2 z0 hu15) <| .u [0] rfl rfl (op_fieldB fld29_1 z4) <| .e [3] [0] [4] rfl rfl rfl rfl (op_storeBVf (R := rSapi_Kind) (e := 32) (Ts := (rSapi_Schema.cs x_)) (off := 1) tokV25 z0 z1 (leb rfl)) <| .n) fun n1 a w hst => ?_
 replace hst := hst.to [3,5,6,7,8,9] [_,_,_,_,_,_] [_,_,_] rfl rfl
 refine hK4 _ _ ?_
 try clear hK4 K4
 refine wp_seq_k (fun K6 hK6 => ?_)
 obtain ⟨u20,hu20,h⟩ := bind_some h
 refine wr mixed [v1 0 (fun v0 => own rSapi_Life 39 ([] : List Sapi_Life) v0),v1 3 (fun v0 => own rSapi_Life 39 (([] : List Sapi_Life) ++ (x_).Lives) v0),v1 3 (fun v0 => box ([ti (x_).Version,tvs (n1 3),tvs v0,tsl rSapi_Rule (x_).Rules]) (n0 0))] hst (fun _ => .m [] [3] rfl rfl rfl (op_buildSlO (R := rSapi_Life) (us := ([] : List Sapi_Life)) ud26 tok39 (.nil _) rfl (leb rfl) (leb rfl)) <| .u [2] rfl rfl (op_fieldB fld29_2 z2) <| .u [2] rfl rfl (op_loadBf (R := (rSl rSapi_Life)) (u := (x_).Lives) tok26 z0 rfl) <| .e [] [3] [4] rfl rfl rfl rfl (op_append (R := rSapi_Life) ud26 tok39 (leb rfl) z2 z0 hu20) <| .u [2] rfl rfl (op_fieldB fld29_2 z5) <| .e [4] [2] [5] rfl rfl rfl rfl (op_storeBVf (R := rSapi_Life) (e := 39) (Ts := ([ti (x_).Version,tvs (n1 3),tsl rSapi_Life (x_).Lives,tsl rSapi_Rule (x_).Rules])) (off := 2) tokV26 z0 z1 (leb rfl)) <| .n) fun n2 a w hst => ?_
 replace hst := hst.to [3,5,6,7,8,9,10] [_,_,_,_,_,_,_] [_,_,_,_] rfl rfl
 refine hK6 _ _ ?_
 try clear hK6 K6
 refine wp_seq_k (fun K8 hK8 => ?_)
 obtain ⟨u25,hu25,h⟩ := bind_some h
 refine wr mixed [v1 0 (fun v0 => own rSapi_Rule 41 ([] : List Sapi_Rule) v0),v1 3 (fun v0 => own rSapi_Rule 41 (([] : List Sapi_Rule) ++ (x_).Rules) v0),v1 3 (fun v0 => box ([ti (x_).Version,tvs (n1 3),tvs (n2 3),tvs v0]) (n0 0))] hst (fun _ => .m [] [4] rfl rfl rfl (op_buildSlO (R := rSapi_Rule) (us := ([] : List Sapi_Rule)) ud27 tok41 (.nil _) rfl (leb rfl) (leb rfl)) <| .u [3] rfl rfl (op_fieldB fld29_3 z3) <| .u [3] rfl rfl (op_loadBf (R := (rSl rSapi_Rule)) (u := (x_).Rules) tok27 z0 rfl) <| .e [] [4] [5] rfl rfl rfl rfl (op_append (R := rSapi_Rule) ud27 tok41 (leb rfl) z2 z0 hu25) <| .u [3] rfl rfl (op_fieldB fld29_3 z6) <| .e [5] [3] [6] rfl rfl rfl rfl (op_storeBVf (R := rSapi_Rule) (e := 41) (Ts := ([ti (x_).Version,tvs (n1 3),tvs (n2 3),tsl rSapi_Rule (x_).Rules])) (off := 3) tokV27 z0 z1 (leb rfl)) <| .n) fun n3 a w hst => ?_
 replace hst := hst.to [3,5,6,7,8,9,10,11] [_,_,_,_,_,_,_,_] [_,_,_,_,_] rfl rfl
 refine hK8 _ _ ?_
 try clear hK8 K8
 obtain ⟨t31,ht31,h⟩ := bind_some h
 refine sr mixed [] hst (fun _ => .q 5 rfl <| .u [4] rfl rfl (op_fieldB fld29_1 z4) <| .u [4] rfl rfl (op_loadBVf (u := (n1 3)) tokV25 z0 rfl) <| .u [1] rfl rfl (op_lenO ud25 z0) <| .o (op_callF call13 (ref01_Around_ok ht31) (.cons (.of z3) <| .cons (.of z0) <| .nil)) <| .o (op_assign z0) <| .n) fun n4 a w hst => ?_
 replace hst := hst.to [2,5,6,7,8,9,10,11,12,13] [_,_,_,_,_,_,_,_,_,_] [_,_,_,_,_] rfl rfl
 refine wp_seq_k (fun K11 hK11 => ?_)
 obtain ⟨t33,ht33,h⟩ := bind_some h
 refine sr mixed [] hst (fun _ => .q 8 rfl <| .o (op_callF call13 (ref01_Around_ok ht33) (.cons (.of z0) <| .cons (.of .k) <| .nil)) <| .n) fun n5 a w hst => ?_
 replace hst := hst.to [1,2,3,4,5,6,7,8,9,10,11] [_,_,_,_,_,_,_,_,_,_,_] [_,_,_,_,_] rfl rfl
 refine wp_block ?_
 refine sr mixed [] hst (fun _ => .o (op_eql z0 .k) <| .o (op_assign z0) <| .n) fun n12 a w hst => ?_
 replace hst := hst.to [1,2,3,4,5,6,7,8,9,10,11,12] [_,_,_,_,_,_,_,_,_,_,_,_] [_,_,_,_,_] rfl rfl
 obtain ⟨p14,hp14,h⟩ := bind_some h
 have hJp14 : ∀ (v2115 : Value) a w,St M w0 215 [(4,tv (n0 0)),(8,tv (n0 1))] [box (rSapi_Schema.cs zz4) (n0 1),own rSapi_Kind 32 p14.1 (n1 3),own rSapi_Life 39 p14.2.1 (n2 3),own rSapi_Rule 41 p14.2.2.1 v2115,box ([ti p14.2.2.2,tvs (n1 3),tvs (n2 3),tvs v2115]) (n0 0)] a w → K11 a w := by
  intro v2115 a w hst
  refine hK11 _ _ ?_
  try clear hK11 K11
  refine wp_seq_k (fun K2116 hK2116 => ?_)
  replace hst : St _ _ _ [_,_] [_,_,_,_] _ _ := ((hst.pick [0,1]).selA [1,4,0,2,3] rfl).shareC 1 rfl
  replace hst : St _ _ _ [_,_] [_,_,_] _ _ := ((hst.pick [0,1]).selA [2,0,1,3] rfl).shareC 2 rfl
  replace hst : St _ _ _ [_,_] [_,_] _ _ := ((hst.pick [0,1]).selA [2,0,1] rfl).shareC 3 rfl
  refine wr mixed [v0 (box (rSapi_Schema.cs (Sapi_Schema.mk p14.2.2.2 p14.1 p14.2.1 p14.2.2.1)) (n0 1))] hst (fun _ => .u [0] rfl rfl (op_loadB (R := rSapi_Schema) (u := (Sapi_Schema.mk p14.2.2.2 p14.1 p14.2.1 p14.2.2.1)) tok29 z0 rfl) <| .e [] [1] [2] rfl rfl rfl rfl (op_storeB (R := rSapi_Schema) (a := (Sapi_Schema.mk p14.2.2.2 p14.1 p14.2.1 p14.2.2.1)) tok29 z2 z0 (leb rfl)) <| .n) fun n31 a w hst => ?_
  replace hst : St _ _ _ [_] [_] _ _ := (hst.pick [2]).selA [1] rfl
  refine hK2116 _ _ ?_
  try clear hK2116 K2116
  refine wp_ret ?_
  obtain rfl := sj h
  exact ret_st undef [] hpl hst rfl (.cell (R := rSapi_Schema) (u := (Sapi_Schema.mk p14.2.2.2 p14.1 p14.2.1 p14.2.2.1)) tok29 z0 0 rfl rfl .nil) rfl rfl rfl
 replace h := hp14
 clear hp14
 refine wt hst (fun b4216 => ?_) (fun b4216 => ?_)
 ·replace h := ite_t b4216 h
  obtain ⟨t80,ht80,h⟩ := bind_some h
  obtain ⟨t81,ht81,h⟩ := bind_some h
  refine wr mixed [v0 (box ([ti t81,tvs (n1 3),tvs (n2 3),tvs (n3 3)]) (n0 0))] hst (fun _ => .u [4] rfl rfl (op_fieldB fld29_0 z7) <| .u [4] rfl rfl (op_loadBf (R := rI) (u := (x_).Version) tok3 z0 rfl) <| .o (op_add z0 .k) <| .o (op_buildSl (R := rI) (us := [(IntKind.i64.wrap ((x_).Version + (1:Int))),(-1:Int),(1048576:Int),(1048577:Int)]) ud22 tok3 (.cons z0 <| .cons .k <| .cons .k <| .cons .k <| .nil _) rfl (leb rfl)) <| .q 15 rfl <| .o (op_callF call13 (ref01_Around_ok ht80) (.cons (.of z0) <| .cons (.of .k) <| .nil)) <| .o (op_index ud22 tok3 z2 z0 ht81) <| .o (op_load tok3 z0) <| .u [4] rfl rfl (op_fieldB fld29_0 z15) <| .e [] [4] [5] rfl rfl rfl rfl (op_storeBf (R := rI) (a := t81) (Ts := ([ti (x_).Version,tvs (n1 3),tvs (n2 3),tvs (n3 3)])) (off := 0) tok3 z0 z1 (leb rfl)) <| .n) fun n13 a w hst => ?_
  replace hst := hst.to [11,13,14,15,16,17] [_,_,_,_,_,_] [_,_,_,_,_] rfl rfl
  obtain rfl := sj h
  exact hJp14 (n3 3) _ _ (hst.pick [4,5])
 ·replace h := ite_f b4216 h
  refine sr mixed [] hst (fun _ => .o (op_eql z1 .k) <| .o (op_assign z0) <| .n) fun n14 a w hst => ?_
  replace hst := hst.to [1,3,4,5,6,7,8,9,10,11,12,13] [_,_,_,_,_,_,_,_,_,_,_,_] [_,_,_,_,_] rfl rfl
  obtain ⟨p2118,hp2118,h⟩ := bind_some h
  have hJp2118 : ∀ (v3167 : Value) a w,St M w0 215 [(4,tv (n0 0)),(8,tv (n0 1))] [box (rSapi_Schema.cs zz4) (n0 1),own rSapi_Life 39 p2118.1 (n2 3),own rSapi_Rule 41 p2118.2.1 v3167,box ([ti (x_).Version,tvs (n1 3),tvs (n2 3),tvs v3167]) (n0 0),own rSapi_Kind 32 p2118.2.2 (n1 3)] a w → K11 a w := by
   intro v3167 a w hst
   obtain rfl := sj h
   exact hJp14 v3167 _ _ ((hst.pick [0,1]).selA [0,4,1,2,3] rfl)
  replace h := hp2118
  clear hp2118
  refine wt hst (fun b4215 => ?_) (fun b4215 => ?_)
  ·replace h := ite_t b4215 h
   refine sr mixed [] hst (fun _ => .q 3 rfl <| .u [4] rfl rfl (op_fieldB fld29_1 z8) <| .u [4] rfl rfl (op_loadBVf (u := (n1 3)) tokV25 z0 rfl) <| .u [1] rfl rfl (op_lenO ud25 z0) <| .o (op_lss z3 z0) <| .n) fun n15 a w hst => ?_
   replace hst := hst.to [2,4,7,8,9,10,11,12,13,16] [_,_,_,_,_,_,_,_,_,_] [_,_,_,_,_] rfl rfl
   obtain ⟨p3169,hp3169,h⟩ := bind_some h
   have hJp3169 : ∀ a w,St M w0 215 [(4,tv (n0 0)),(8,tv (n0 1))] [box (rSapi_Schema.cs zz4) (n0 1),own rSapi_Life 39 (([] : List Sapi_Life) ++ (x_).Lives) (n2 3),own rSapi_Rule 41 (([] : List Sapi_Rule) ++ (x_).Rules) (n3 3),box ([ti (x_).Version,tvs (n1 3),tvs (n2 3),tvs (n3 3)]) (n0 0),own rSapi_Kind 32 p3169 (n1 3)] a w → K11 a w := by
    intro a w hst
    obtain rfl := sj h
    exact hJp2118 (n3 3) _ _ (hst.pick [0,1])
   replace h := hp3169
   clear hp3169
   refine wp_test 1 hst rfl (fun b3171 => ?_) (fun b3171 => ?_)
   ·replace h := ite_t b3171 h
    obtain ⟨t96,ht96,h⟩ := bind_some h
    obtain ⟨t97,ht97,h⟩ := bind_some h
    obtain ⟨t99,ht99,h⟩ := bind_some h
    obtain ⟨t99s,ht99s,h⟩ := bind_some h
    refine wr mixed [v0 (own rSapi_Kind 32 t99s (n1 3))] hst (fun _ => .u [4] rfl rfl (op_fieldB fld29_1 z7) <| .u [4] rfl rfl (op_loadBVf (u := (n1 3)) tokV25 z0 rfl) <| .q 5 rfl <| .o (op_buildSl (R := rS) (us := [([112,101,114,115,111,110] : Str),([] : Str),([111,116,104,101,114] : Str),([97,32,98] : Str)]) ud34 tok9 (.cons .k <| .cons .k <| .cons .k <| .cons .k <| .nil _) rfl (leb rfl)) <| .q 13 rfl <| .o (op_callF call13 (ref01_Around_ok ht96) (.cons (.of z0) <| .cons (.of .k) <| .nil)) <| .o (op_index ud34 tok9 z2 z0 ht97) <| .o (op_load tok9 z0) <| .u [1] rfl rfl (op_indexOi ud25 tok32 z6 z5 ht99) <| .u [1] rfl rfl (op_fieldO fld32_0 z0 (idx_ne ht99)) <| .e [] [1] [5] rfl rfl rfl rfl (op_storeOf (u := { t99 with Name := t97 }) tok9 z0 z2 ht99 ht99s (leb rfl) rfl) <| .n) fun n16 a w hst => ?_
    replace hst := hst.to [1,10,12,14,15,16,17,18] [_,_,_,_,_,_,_,_] [_,_,_,_,_] rfl rfl
    obtain rfl := sj h
    exact hJp3169 _ _ (hst.pick [6,7])
   ·replace h := ite_f b3171 h
    refine wp_skip ?_
    obtain rfl := sj h
    exact hJp3169 _ _ ((hst.pick [7,8]).selA [0,2,3,4,1] rfl)
  ·replace h := ite_f b4215 h
   refine sr mixed [] hst (fun _ => .o (op_eql z1 .k) <| .o (op_assign z0) <| .n) fun n17 a w hst => ?_
   replace hst := hst.to [1,3,4,5,6,7,8,9,10,11,12,13] [_,_,_,_,_,_,_,_,_,_,_,_] [_,_,_,_,_] rfl rfl
   obtain ⟨p3173,hp3173,h⟩ := bind_some h
   have hJp3173 : ∀ (v3694 : Value) a w,St M w0 215 [(4,tv (n0 0)),(8,tv (n0 1))] [box (rSapi_Schema.cs zz4) (n0 1),own rSapi_Life 39 p3173.1 (n2 3),own rSapi_Rule 41 p3173.2.1 v3694,box ([ti (x_).Version,tvs (n1 3),tvs (n2 3),tvs v3694]) (n0 0),own rSapi_Kind 32 p3173.2.2 (n1 3)] a w → K11 a w := by
    intro v3694 a w hst
    obtain rfl := sj h
    exact hJp2118 v3694 _ _ (hst.pick [0,1])
   replace h := hp3173
   clear hp3173
   refine wt hst (fun b4214 => ?_) (fun b4214 => ?_)
   ·replace h := ite_t b4214 h
    refine sr mixed [] hst (fun _ => .q 3 rfl <| .u [4] rfl rfl (op_fieldB fld29_1 z8) <| .u [4] rfl rfl (op_loadBVf (u := (n1 3)) tokV25 z0 rfl) <| .u [1] rfl rfl (op_lenO ud25 z0) <| .o (op_lss z3 z0) <| .n) fun n18 a w hst => ?_
    replace hst := hst.to [2,4,7,8,9,10,11,12,13,16] [_,_,_,_,_,_,_,_,_,_] [_,_,_,_,_] rfl rfl
    obtain ⟨p3696,hp3696,h⟩ := bind_some h
    have hJp3696 : ∀ a w,St M w0 215 [(4,tv (n0 0)),(8,tv (n0 1))] [box (rSapi_Schema.cs zz4) (n0 1),own rSapi_Life 39 (([] : List Sapi_Life) ++ (x_).Lives) (n2 3),own rSapi_Rule 41 (([] : List Sapi_Rule) ++ (x_).Rules) (n3 3),box ([ti (x_).Version,tvs (n1 3),tvs (n2 3),tvs (n3 3)]) (n0 0),own rSapi_Kind 32 p3696 (n1 3)] a w → K11 a w := by
     intro a w hst
     obtain rfl := sj h
     exact hJp3173 (n3 3) _ _ (hst.pick [0,1])
    replace h := hp3696
    clear hp3696
    refine wp_test 1 hst rfl (fun b3698 => ?_) (fun b3698 => ?_)
    ·replace h := ite_t b3698 h
     obtain ⟨t113,ht113,h⟩ := bind_some h
     obtain ⟨t114,ht114,h⟩ := bind_some h
     obtain ⟨t116,ht116,h⟩ := bind_some h
     obtain ⟨t116s,ht116s,h⟩ := bind_some h
     refine wr mixed [v0 (own rSapi_Kind 32 t116s (n1 3))] hst (fun _ => .u [4] rfl rfl (op_fieldB fld29_1 z7) <| .u [4] rfl rfl (op_loadBVf (u := (n1 3)) tokV25 z0 rfl) <| .q 5 rfl <| .o (op_buildSl (R := rI) (us := [(0:Int),(5:Int),(-1:Int),(65537:Int)]) ud22 tok3 (.cons .k <| .cons .k <| .cons .k <| .cons .k <| .nil _) rfl (leb rfl)) <| .q 13 rfl <| .o (op_callF call13 (ref01_Around_ok ht113) (.cons (.of z0) <| .cons (.of .k) <| .nil)) <| .o (op_index ud22 tok3 z2 z0 ht114) <| .o (op_load tok3 z0) <| .u [1] rfl rfl (op_indexOi ud25 tok32 z6 z5 ht116) <| .u [1] rfl rfl (op_fieldO fld32_1 z0 (idx_ne ht116)) <| .e [] [1] [5] rfl rfl rfl rfl (op_storeOf (u := { t116 with Lo := t114 }) tok3 z0 z2 ht116 ht116s (leb rfl) rfl) <| .n) fun n19 a w hst => ?_
     replace hst := hst.to [1,10,12,14,15,16,17,18] [_,_,_,_,_,_,_,_] [_,_,_,_,_] rfl rfl
     obtain rfl := sj h
     exact hJp3696 _ _ (hst.pick [6,7])
    ·replace h := ite_f b3698 h
     refine wp_skip ?_
     obtain rfl := sj h
     exact hJp3696 _ _ ((hst.pick [7,8]).selA [0,2,3,4,1] rfl)
   ·replace h := ite_f b4214 h
    refine sr mixed [] hst (fun _ => .o (op_eql z1 .k) <| .o (op_assign z0) <| .n) fun n20 a w hst => ?_
    replace hst := hst.to [1,3,4,5,6,7,8,9,10,11,12,13] [_,_,_,_,_,_,_,_,_,_,_,_] [_,_,_,_,_] rfl rfl
    obtain ⟨p3700,hp3700,h⟩ := bind_some h
    have hJp3700 : ∀ (v3957 : Value) a w,St M w0 215 [(4,tv (n0 0)),(8,tv (n0 1))] [box (rSapi_Schema.cs zz4) (n0 1),own rSapi_Life 39 p3700.1 (n2 3),own rSapi_Rule 41 p3700.2.1 v3957,box ([ti (x_).Version,tvs (n1 3),tvs (n2 3),tvs v3957]) (n0 0),own rSapi_Kind 32 p3700.2.2 (n1 3)] a w → K11 a w := by
     intro v3957 a w hst
     obtain rfl := sj h
     exact hJp3173 v3957 _ _ (hst.pick [0,1])
    replace h := hp3700
    clear hp3700
    refine wt hst (fun b4213 => ?_) (fun b4213 => ?_)
    ·replace h := ite_t b4213 h
     refine sr mixed [] hst (fun _ => .q 3 rfl <| .u [4] rfl rfl (op_fieldB fld29_1 z8) <| .u [4] rfl rfl (op_loadBVf (u := (n1 3)) tokV25 z0 rfl) <| .u [1] rfl rfl (op_lenO ud25 z0) <| .o (op_lss z3 z0) <| .n) fun n21 a w hst => ?_
     replace hst := hst.to [2,4,7,8,9,10,11,12,13,16] [_,_,_,_,_,_,_,_,_,_] [_,_,_,_,_] rfl rfl
     obtain ⟨p3959,hp3959,h⟩ := bind_some h
     have hJp3959 : ∀ a w,St M w0 215 [(4,tv (n0 0)),(8,tv (n0 1))] [box (rSapi_Schema.cs zz4) (n0 1),own rSapi_Life 39 (([] : List Sapi_Life) ++ (x_).Lives) (n2 3),own rSapi_Rule 41 (([] : List Sapi_Rule) ++ (x_).Rules) (n3 3),box ([ti (x_).Version,tvs (n1 3),tvs (n2 3),tvs (n3 3)]) (n0 0),own rSapi_Kind 32 p3959 (n1 3)] a w → K11 a w := by
      intro a w hst
      obtain rfl := sj h
      exact hJp3700 (n3 3) _ _ (hst.pick [0,1])
     replace h := hp3959
     clear hp3959
     refine wp_test 1 hst rfl (fun b3961 => ?_) (fun b3961 => ?_)
     ·replace h := ite_t b3961 h
      obtain ⟨t130,ht130,h⟩ := bind_some h
      obtain ⟨t131,ht131,h⟩ := bind_some h
      obtain ⟨t133,ht133,h⟩ := bind_some h
      obtain ⟨t133s,ht133s,h⟩ := bind_some h
      refine wr mixed [v0 (own rSapi_Kind 32 t133s (n1 3))] hst (fun _ => .u [4] rfl rfl (op_fieldB fld29_1 z7) <| .u [4] rfl rfl (op_loadBVf (u := (n1 3)) tokV25 z0 rfl) <| .q 5 rfl <| .o (op_buildSl (R := rI) (us := [(0:Int),(5:Int),(65536:Int),(65537:Int)]) ud22 tok3 (.cons .k <| .cons .k <| .cons .k <| .cons .k <| .nil _) rfl (leb rfl)) <| .q 13 rfl <| .o (op_callF call13 (ref01_Around_ok ht130) (.cons (.of z0) <| .cons (.of .k) <| .nil)) <| .o (op_index ud22 tok3 z2 z0 ht131) <| .o (op_load tok3 z0) <| .u [1] rfl rfl (op_indexOi ud25 tok32 z6 z5 ht133) <| .u [1] rfl rfl (op_fieldO fld32_2 z0 (idx_ne ht133)) <| .e [] [1] [5] rfl rfl rfl rfl (op_storeOf (u := { t133 with Hi := t131 }) tok3 z0 z2 ht133 ht133s (leb rfl) rfl) <| .n) fun n22 a w hst => ?_
      replace hst := hst.to [1,10,12,14,15,16,17,18] [_,_,_,_,_,_,_,_] [_,_,_,_,_] rfl rfl
      obtain rfl := sj h
      exact hJp3959 _ _ (hst.pick [6,7])
     ·replace h := ite_f b3961 h
      refine wp_skip ?_
      obtain rfl := sj h
      exact hJp3959 _ _ ((hst.pick [7,8]).selA [0,2,3,4,1] rfl)
    ·replace h := ite_f b4213 h
     refine sr mixed [] hst (fun _ => .o (op_eql z1 .k) <| .o (op_assign z0) <| .n) fun n23 a w hst => ?_
     replace hst := hst.to [1,3,4,5,6,7,8,9,10,11,12,13] [_,_,_,_,_,_,_,_,_,_,_,_] [_,_,_,_,_] rfl rfl
     obtain ⟨p3963,hp3963,h⟩ := bind_some h
     have hJp3963 : ∀ (v4088 : Value) a w,St M w0 215 [(4,tv (n0 0)),(8,tv (n0 1))] [box (rSapi_Schema.cs zz4) (n0 1),own rSapi_Kind 32 p3963.1 (n1 3),own rSapi_Rule 41 p3963.2.1 v4088,box ([ti (x_).Version,tvs (n1 3),tvs (n2 3),tvs v4088]) (n0 0),own rSapi_Life 39 p3963.2.2 (n2 3)] a w → K11 a w := by
      intro v4088 a w hst
      obtain rfl := sj h
      exact hJp3700 v4088 _ _ ((hst.pick [0,1]).selA [0,4,2,3,1] rfl)
     replace h := hp3963
     clear hp3963
     refine wt hst (fun b4212 => ?_) (fun b4212 => ?_)
     ·replace h := ite_t b4212 h
      refine sr mixed [] hst (fun _ => .u [4] rfl rfl (op_fieldB fld29_2 z7) <| .u [4] rfl rfl (op_loadBVf (u := (n2 3)) tokV26 z0 rfl) <| .u [2] rfl rfl (op_lenO ud26 z0) <| .o (op_gtr z0 .k) <| .n) fun n24 a w hst => ?_
      replace hst := hst.to [1,3,6,8,9,10,11,12,15] [_,_,_,_,_,_,_,_,_] [_,_,_,_,_] rfl rfl
      obtain ⟨p4090,hp4090,h⟩ := bind_some h
      have hJp4090 : ∀ a w,St M w0 215 [(4,tv (n0 0)),(8,tv (n0 1))] [box (rSapi_Schema.cs zz4) (n0 1),own rSapi_Kind 32 (([] : List Sapi_Kind) ++ (x_).Kinds) (n1 3),own rSapi_Rule 41 (([] : List Sapi_Rule) ++ (x_).Rules) (n3 3),box ([ti (x_).Version,tvs (n1 3),tvs (n2 3),tvs (n3 3)]) (n0 0),own rSapi_Life 39 p4090 (n2 3)] a w → K11 a w := by
       intro a w hst
       obtain rfl := sj h
       exact hJp3963 (n3 3) _ _ (hst.pick [0,1])
      replace h := hp4090
      clear hp4090
      refine wp_test 1 hst rfl (fun b4094 => ?_) (fun b4094 => ?_)
      ·replace h := ite_t b4094 h
       obtain ⟨t146,ht146,h⟩ := bind_some h
       obtain ⟨u149,hu149,h⟩ := bind_some h
       obtain ⟨t151,ht151,h⟩ := bind_some h
       obtain ⟨t155,ht155,h⟩ := bind_some h
       obtain ⟨u159,hu159,h⟩ := bind_some h
       obtain ⟨t160,ht160,h⟩ := bind_some h
       obtain ⟨t160s,ht160s,h⟩ := bind_some h
       refine wr mixed [v1 2 (fun v0 => own rA2_Int 83 ([] : List A2_Int) v0),v1 8 (fun v0 => own rA2_Int 83 (([] : List A2_Int) ++ (t146).Moves) v0),v0 (own rSapi_Life 39 t160s (n2 3))] hst (fun _ => .u [4] rfl rfl (op_fieldB fld29_2 z6) <| .u [4] rfl rfl (op_loadBVf (u := (n2 3)) tokV26 z0 rfl) <| .m [] [5] rfl rfl rfl (op_buildSlO (R := rA2_Int) (us := ([] : List A2_Int)) ud37 tok83 (.nil _) rfl (leb rfl) (leb rfl)) <| .u [4] rfl rfl (op_fieldB fld29_2 z9) <| .u [4] rfl rfl (op_loadBVf (u := (n2 3)) tokV26 z0 rfl) <| .u [2] rfl rfl (op_indexOi ud26 tok39 z0 .k ht146) <| .u [2] rfl rfl (op_fieldO fld39_2 z0 (idx_ne ht146)) <| .u [2] rfl rfl (op_loadOf (R2 := (rSl rA2_Int)) (f := (t146).Moves) tok37 z0 ht146 rfl) <| .e [] [5] [6] rfl rfl rfl rfl (op_append (R := rA2_Int) ud37 tok83 (leb rfl) z5 z0 hu149) <| .q 17 rfl <| .o (op_callF call13 (ref01_Around_ok ht151) (.cons (.of z0) <| .cons (.of .k) <| .nil)) <| .o (op_sub z0 .k) <| .q 20 rfl <| .o (op_quo z0 .k (by decide)) <| .o (op_callF call13 (ref01_Around_ok ht155) (.cons (.of z0) <| .cons (.of .k) <| .nil)) <| .o (op_sub z0 .k) <| .p (T := rA2_Int.ty (A2_Int.mk (IntKind.i64.wrap (t151 - (1:Int))) (IntKind.i64.wrap (t155 - (1:Int))))) rfl (op_buildArr (R := rI) (us := [(IntKind.i64.wrap (t151 - (1:Int))),(IntKind.i64.wrap (t155 - (1:Int)))]) ud83 tok3 zv83 rfl (.cons z4 <| .cons z0 <| .nil _)) <| .o (op_buildSl (R := rA2_Int) (us := [(A2_Int.mk (IntKind.i64.wrap (t151 - (1:Int))) (IntKind.i64.wrap (t155 - (1:Int))))]) ud37 tok83 (.cons z0 <| .nil _) rfl (leb rfl)) <| .e [] [6] [] rfl rfl rfl rfl (.roE (op_append (R := rA2_Int) ud37 tok83 (leb rfl) z9 z0 hu159)) <| .u [2] rfl rfl (op_indexOi ud26 tok39 z17 .k ht160) <| .u [2] rfl rfl (op_fieldO fld39_2 z0 (idx_ne ht160)) <| .e [] [2] [7] rfl rfl rfl rfl (op_storeOf (u := { t160 with Moves := ((([] : List A2_Int) ++ (t146).Moves) ++ [(A2_Int.mk (IntKind.i64.wrap (t151 - (1:Int))) (IntKind.i64.wrap (t155 - (1:Int))))]) }) tok37 z0 z2 ht160 ht160s (leb rfl) rfl) <| .n) fun n25 a w hst => ?_
       replace hst := hst.to [1,4,21,23,24,25,26,27,28] [_,_,_,_,_,_,_,_,_] [_,_,_,_,_] rfl rfl
       obtain rfl := sj h
       exact hJp4090 _ _ (hst.pick [7,8])
      ·replace h := ite_f b4094 h
       refine wp_skip ?_
       obtain rfl := sj h
       exact hJp4090 _ _ ((hst.pick [6,7]).selA [0,1,3,4,2] rfl)
     ·replace h := ite_f b4212 h
      refine sr mixed [] hst (fun _ => .o (op_eql z1 .k) <| .o (op_assign z0) <| .n) fun n26 a w hst => ?_
      replace hst := hst.to [1,3,4,5,6,7,8,9,10,11,12,13] [_,_,_,_,_,_,_,_,_,_,_,_] [_,_,_,_,_] rfl rfl
      obtain ⟨p4096,hp4096,h⟩ := bind_some h
      have hJp4096 : ∀ (v4154 : Value) a w,St M w0 215 [(4,tv (n0 0)),(8,tv (n0 1))] [box (rSapi_Schema.cs zz4) (n0 1),own rSapi_Kind 32 p4096.1 (n1 3),own rSapi_Life 39 p4096.2.1 (n2 3),own rSapi_Rule 41 p4096.2.2 v4154,box ([ti (x_).Version,tvs (n1 3),tvs (n2 3),tvs v4154]) (n0 0)] a w → K11 a w := by
       intro v4154 a w hst
       obtain rfl := sj h
       exact hJp3963 v4154 _ _ ((hst.pick [0,1]).selA [0,1,3,4,2] rfl)
      replace h := hp4096
      clear hp4096
      refine wt hst (fun b4211 => ?_) (fun b4211 => ?_)
      ·replace h := ite_t b4211 h
       obtain ⟨t168,ht168,h⟩ := bind_some h
       obtain ⟨t169,ht169,h⟩ := bind_some h
       obtain ⟨t174,ht174,h⟩ := bind_some h
       obtain ⟨t175,ht175,h⟩ := bind_some h
       obtain ⟨t180,ht180,h⟩ := bind_some h
       obtain ⟨t181,ht181,h⟩ := bind_some h
       obtain ⟨t184,ht184,h⟩ := bind_some h
       obtain ⟨u188,hu188,h⟩ := bind_some h
       refine wr mixed [v1 24 (fun v0 => own rSapi_Rule 41 ((([] : List Sapi_Rule) ++ (x_).Rules) ++ [(Sapi_Rule.mk ([102,117,114,116,104,101,114] : Str) t169 t175 t181 (IntKind.i64.wrap (t184 - (20:Int))))]) v0),v1 24 (fun v0 => box ([ti (x_).Version,tvs (n1 3),tvs (n2 3),tvs v0]) (n0 0))] hst (fun _ => .u [4] rfl rfl (op_fieldB fld29_3 z7) <| .u [4] rfl rfl (op_loadBVf (u := (n3 3)) tokV27 z0 rfl) <| .o (op_buildSl (R := rS) (us := [([112,101,114,115,111,110] : Str),([111,114,100,101,114] : Str),([110,111,110,101] : Str),([] : Str)]) ud34 tok9 (.cons .k <| .cons .k <| .cons .k <| .cons .k <| .nil _) rfl (leb rfl)) <| .q 14 rfl <| .o (op_callF call13 (ref01_Around_ok ht168) (.cons (.of z0) <| .cons (.of .k) <| .nil)) <| .o (op_index ud34 tok9 z2 z0 ht169) <| .o (op_load tok9 z0) <| .o (op_buildSl (R := rS) (us := [([115,105,122,101] : Str),([108,111,119] : Str),([] : Str),([105,100] : Str),([98,111,114,110] : Str)]) ud34 tok9 (.cons .k <| .cons .k <| .cons .k <| .cons .k <| .cons .k <| .nil _) rfl (leb rfl)) <| .q 19 rfl <| .o (op_quo z0 .k (by decide)) <| .o (op_callF call13 (ref01_Around_ok ht174) (.cons (.of z0) <| .cons (.of .k) <| .nil)) <| .o (op_index ud34 tok9 z3 z0 ht175) <| .o (op_load tok9 z0) <| .o (op_buildSl (R := rS) (us := [([104,105,103,104] : Str),([] : Str),([115,105,122,101] : Str),([108,101,102,116] : Str),([116,97,103] : Str)]) ud34 tok9 (.cons .k <| .cons .k <| .cons .k <| .cons .k <| .cons .k <| .nil _) rfl (leb rfl)) <| .q 25 rfl <| .o (op_quo z0 .k (by decide)) <| .o (op_callF call13 (ref01_Around_ok ht180) (.cons (.of z0) <| .cons (.of .k) <| .nil)) <| .o (op_index ud34 tok9 z3 z0 ht181) <| .o (op_load tok9 z0) <| .q 30 rfl <| .o (op_callF call13 (ref01_Around_ok ht184) (.cons (.of z0) <| .cons (.of .k) <| .nil)) <| .o (op_sub z0 .k) <| .p (T := rSapi_Rule.ty (Sapi_Rule.mk ([102,117,114,116,104,101,114] : Str) t169 t175 t181 (IntKind.i64.wrap (t184 - (20:Int))))) rfl (op_build ud41 pl41 zv41 zc41 (.cons (R := rS) (u := ([102,117,114,116,104,101,114] : Str)) rfl .k (leb rfl) <| .cons (R := rS) (u := t169) rfl z15 (leb rfl) <| .cons (R := rS) (u := t175) rfl z9 (leb rfl) <| .cons (R := rS) (u := t181) rfl z3 (leb rfl) <| .cons (R := rI) (u := (IntKind.i64.wrap (t184 - (20:Int)))) rfl z0 (leb rfl) <| .nil _)) <| .o (op_buildSl (R := rSapi_Rule) (us := [(Sapi_Rule.mk ([102,117,114,116,104,101,114] : Str) t169 t175 t181 (IntKind.i64.wrap (t184 - (20:Int))))]) ud27 tok41 (.cons z0 <| .nil _) rfl (leb rfl)) <| .e [] [3] [5] rfl rfl rfl rfl (op_append (R := rSapi_Rule) ud27 tok41 (leb rfl) z22 z0 hu188) <| .u [4] rfl rfl (op_fieldB fld29_3 (.t 32 rfl)) <| .e [5] [4] [6] rfl rfl rfl rfl (op_storeBVf (R := rSapi_Rule) (e := 41) (Ts := ([ti (x_).Version,tvs (n1 3),tvs (n2 3),tvs (n3 3)])) (off := 3) tokV27 z0 z1 (leb rfl)) <| .n) fun n27 a w hst => ?_
       replace hst := hst.to [24,28,31,32,33,34] [_,_,_,_,_,_] [_,_,_,_,_] rfl rfl
       obtain rfl := sj h
       exact hJp4096 (n27 24) _ _ (hst.pick [4,5])
      ·replace h := ite_f b4211 h
       refine sr mixed [] hst (fun _ => .o (op_eql z1 .k) <| .o (op_assign z0) <| .n) fun n28 a w hst => ?_
       replace hst := hst.to [1,4,5,6,7,8,9,10,11,12,13] [_,_,_,_,_,_,_,_,_,_,_] [_,_,_,_,_] rfl rfl
       obtain ⟨p4156,hp4156,h⟩ := bind_some h
       have hJp4156 : ∀ a w,St M w0 215 [(4,tv (n0 0)),(8,tv (n0 1))] [box (rSapi_Schema.cs zz4) (n0 1),own rSapi_Kind 32 p4156.1 (n1 3),own rSapi_Rule 41 (([] : List Sapi_Rule) ++ (x_).Rules) (n3 3),box ([ti (x_).Version,tvs (n1 3),tvs (n2 3),tvs (n3 3)]) (n0 0),own rSapi_Life 39 p4156.2 (n2 3)] a w → K11 a w := by
        intro a w hst
        obtain rfl := sj h
        exact hJp4096 (n3 3) _ _ ((hst.pick [0,1]).selA [0,1,4,2,3] rfl)
       replace h := hp4156
       clear hp4156
       refine wt hst (fun b4210 => ?_) (fun b4210 => ?_)
       ·replace h := ite_t b4210 h
        refine sr mixed [] hst (fun _ => .u [4] rfl rfl (op_fieldB fld29_2 z6) <| .u [4] rfl rfl (op_loadBVf (u := (n2 3)) tokV26 z0 rfl) <| .u [2] rfl rfl (op_lenO ud26 z0) <| .o (op_gtr z0 .k) <| .n) fun n29 a w hst => ?_
        replace hst := hst.to [1,3,5,7,8,9,10,11,14] [_,_,_,_,_,_,_,_,_] [_,_,_,_,_] rfl rfl
        obtain ⟨p4185,hp4185,h⟩ := bind_some h
        have hJp4185 : ∀ a w,St M w0 215 [(4,tv (n0 0)),(8,tv (n0 1))] [box (rSapi_Schema.cs zz4) (n0 1),own rSapi_Kind 32 (([] : List Sapi_Kind) ++ (x_).Kinds) (n1 3),own rSapi_Rule 41 (([] : List Sapi_Rule) ++ (x_).Rules) (n3 3),box ([ti (x_).Version,tvs (n1 3),tvs (n2 3),tvs (n3 3)]) (n0 0),own rSapi_Life 39 p4185 (n2 3)] a w → K11 a w := by
         intro a w hst
         obtain rfl := sj h
         exact hJp4156 _ _ (hst.pick [0,1])
        replace h := hp4185
        clear hp4185
        refine wp_test 1 hst rfl (fun b4189 => ?_) (fun b4189 => ?_)
        ·replace h := ite_t b4189 h
         obtain ⟨t201,ht201,h⟩ := bind_some h
         obtain ⟨u204,hu204,h⟩ := bind_some h
         obtain ⟨t207,ht207,h⟩ := bind_some h
         obtain ⟨t208,ht208,h⟩ := bind_some h
         obtain ⟨u211,hu211,h⟩ := bind_some h
         obtain ⟨t212,ht212,h⟩ := bind_some h
         obtain ⟨t212s,ht212s,h⟩ := bind_some h
         refine wr mixed [v1 2 (fun v0 => own rS 9 ([] : List Str) v0),v1 8 (fun v0 => own rS 9 (([] : List Str) ++ (t201).States) v0),v0 (own rSapi_Life 39 t212s (n2 3))] hst (fun _ => .u [4] rfl rfl (op_fieldB fld29_2 z6) <| .u [4] rfl rfl (op_loadBVf (u := (n2 3)) tokV26 z0 rfl) <| .m [] [5] rfl rfl rfl (op_buildSlO (R := rS) (us := ([] : List Str)) ud34 tok9 (.nil _) rfl (leb rfl) (leb rfl)) <| .u [4] rfl rfl (op_fieldB fld29_2 z9) <| .u [4] rfl rfl (op_loadBVf (u := (n2 3)) tokV26 z0 rfl) <| .u [2] rfl rfl (op_indexOi ud26 tok39 z0 .k ht201) <| .u [2] rfl rfl (op_fieldO fld39_1 z0 (idx_ne ht201)) <| .u [2] rfl rfl (op_loadOf (R2 := (rSl rS)) (f := (t201).States) tok34 z0 ht201 rfl) <| .e [] [5] [6] rfl rfl rfl rfl (op_append (R := rS) ud34 tok9 (leb rfl) z5 z0 hu204) <| .o (op_buildSl (R := rS) (us := [([109,111,114,101] : Str),([110,101,119] : Str),([63] : Str)]) ud34 tok9 (.cons .k <| .cons .k <| .cons .k <| .nil _) rfl (leb rfl)) <| .q 18 rfl <| .o (op_callF call13 (ref01_Around_ok ht207) (.cons (.of z0) <| .cons (.of .k) <| .nil)) <| .o (op_index ud34 tok9 z2 z0 ht208) <| .o (op_load tok9 z0) <| .o (op_buildSl (R := rS) (us := [t208]) ud34 tok9 (.cons z0 <| .nil _) rfl (leb rfl)) <| .e [] [6] [] rfl rfl rfl rfl (.roE (op_append (R := rS) ud34 tok9 (leb rfl) z6 z0 hu211)) <| .u [2] rfl rfl (op_indexOi ud26 tok39 z14 .k ht212) <| .u [2] rfl rfl (op_fieldO fld39_1 z0 (idx_ne ht212)) <| .e [] [2] [7] rfl rfl rfl rfl (op_storeOf (u := { t212 with States := ((([] : List Str) ++ (t201).States) ++ [t208]) }) tok34 z0 z2 ht212 ht212s (leb rfl) rfl) <| .n) fun n30 a w hst => ?_
         replace hst := hst.to [1,4,18,20,21,22,23,24,25] [_,_,_,_,_,_,_,_,_] [_,_,_,_,_] rfl rfl
         obtain rfl := sj h
         exact hJp4185 _ _ (hst.pick [7,8])
        ·replace h := ite_f b4189 h
         refine wp_skip ?_
         obtain rfl := sj h
         exact hJp4185 _ _ ((hst.pick [6,7]).selA [0,1,3,4,2] rfl)
       ·replace h := ite_f b4210 h
        refine sr mixed [] hst (fun _ => .q 2 rfl <| .u [4] rfl rfl (op_fieldB fld29_1 z7) <| .u [4] rfl rfl (op_loadBVf (u := (n1 3)) tokV25 z0 rfl) <| .u [1] rfl rfl (op_lenO ud25 z0) <| .o (op_lss z3 z0) <| .n) fun n6 a w hst => ?_
        replace hst := hst.to [2,4,6,7,8,9,10,11,12,13,14,15] [_,_,_,_,_,_,_,_,_,_,_,_] [_,_,_,_,_] rfl rfl
        obtain ⟨p4191,hp4191,h⟩ := bind_some h
        have hJp4191 : ∀ a w,St M w0 215 [(4,tv (n0 0)),(8,tv (n0 1))] [box (rSapi_Schema.cs zz4) (n0 1),own rSapi_Life 39 (([] : List Sapi_Life) ++ (x_).Lives) (n2 3),own rSapi_Rule 41 (([] : List Sapi_Rule) ++ (x_).Rules) (n3 3),box ([ti (x_).Version,tvs (n1 3),tvs (n2 3),tvs (n3 3)]) (n0 0),own rSapi_Kind 32 p4191 (n1 3)] a w → K11 a w := by
         intro a w hst
         obtain rfl := sj h
         exact hJp4156 _ _ ((hst.pick [0,1]).selA [0,4,2,3,1] rfl)
        replace h := hp4191
        clear hp4191
        refine wp_test 1 hst rfl (fun b4209 => ?_) (fun b4209 => ?_)
        ·replace h := ite_t b4209 h
         refine wp_seq_k (fun K4201 hK4201 => ?_)
         obtain ⟨t43,ht43,h⟩ := bind_some h
         obtain ⟨u46,hu46,h⟩ := bind_some h
         refine wr mixed [v1 0 (fun v0 => own rSapi_Field 36 ([] : List Sapi_Field) v0),v1 7 (fun v0 => own rSapi_Field 36 (([] : List Sapi_Field) ++ (t43).Fields) v0)] hst (fun _ => .m [] [5] rfl rfl rfl (op_buildSlO (R := rSapi_Field) (us := ([] : List Sapi_Field)) ud30 tok36 (.nil _) rfl (leb rfl) (leb rfl)) <| .u [4] rfl rfl (op_fieldB fld29_1 z8) <| .u [4] rfl rfl (op_loadBVf (u := (n1 3)) tokV25 z0 rfl) <| .q 6 rfl <| .u [1] rfl rfl (op_indexOi ud25 tok32 z1 z0 ht43) <| .u [1] rfl rfl (op_fieldO fld32_3 z0 (idx_ne ht43)) <| .u [1] rfl rfl (op_loadOf (R2 := (rSl rSapi_Field)) (f := (t43).Fields) tok30 z0 ht43 rfl) <| .e [] [5] [6] rfl rfl rfl rfl (op_append (R := rSapi_Field) ud30 tok36 (leb rfl) z6 z0 hu46) <| .ud (f := fun v => tv v) 7 rfl [] rfl rfl (op_assign z0) <| .n) fun n7 a w hst => ?_
         replace hst := hst.to [2,7,8,9,11,12,13,14,15,16,17,18,19,20] [_,_,_,_,_,_,_,_,_,_,_,_,_,_] [_,_,_,_,_,_] rfl rfl
         refine hK4201 _ _ ?_
         try clear hK4201 K4201
         obtain ⟨t51,ht51,h⟩ := bind_some h
         refine sr mixed [] hst (fun _ => .q 11 rfl <| .o (op_quo z0 .k (by decide)) <| .q 4 rfl <| .u [5] rfl rfl (op_lenO ud30 z0) <| .o (op_callF call13 (ref01_Around_ok ht51) (.cons (.of z2) <| .cons (.of z0) <| .nil)) <| .o (op_assign z0) <| .n) fun n8 a w hst => ?_
         replace hst := hst.to [2,5,6,7,8,9,10,11,12,13,14,15,16,18,19] [_,_,_,_,_,_,_,_,_,_,_,_,_,_,_] [_,_,_,_,_,_] rfl rfl
         refine wp_seq_k (fun K4204 hK4204 => ?_)
         refine sr mixed [] hst (fun _ => .q 1 rfl <| .q 5 rfl <| .u [5] rfl rfl (op_lenO ud30 z0) <| .o (op_lss z2 z0) <| .n) fun n9 a w hst => ?_
         replace hst := hst.to [1,3,4,5,6,7,8,9,10,11,12,13,14,15,16,17,18] [_,_,_,_,_,_,_,_,_,_,_,_,_,_,_,_,_] [_,_,_,_,_,_] rfl rfl
         obtain ⟨p4206,hp4206,h⟩ := bind_some h
         have hJp4206 : ∀ a w,St M w0 215 [(10,tv (n7 7)),(9,ti t31),(4,tv (n0 0)),(8,tv (n0 1))] [box (rSapi_Schema.cs zz4) (n0 1),own rSapi_Kind 32 (([] : List Sapi_Kind) ++ (x_).Kinds) (n1 3),own rSapi_Life 39 (([] : List Sapi_Life) ++ (x_).Lives) (n2 3),own rSapi_Rule 41 (([] : List Sapi_Rule) ++ (x_).Rules) (n3 3),box ([ti (x_).Version,tvs (n1 3),tvs (n2 3),tvs (n3 3)]) (n0 0),own rSapi_Field 36 p4206 (n7 7)] a w → K4204 a w := by
          intro a w hst
          refine hK4204 _ _ ?_
          try clear hK4204 K4204
          replace hst : St _ _ _ [_,_,_,_] [_,_,_,_,_] _ _ := ((hst.selA [5,0,1,2,3,4] rfl).shareO 0 rfl).pick [0,2,3,4]
          obtain ⟨t71,ht71,h⟩ := bind_some h
          obtain ⟨t71s,ht71s,h⟩ := bind_some h
          refine wr mixed [v0 (own rSapi_Kind 32 t71s (n1 3))] hst (fun _ => .u [4] rfl rfl (op_fieldB fld29_1 z2) <| .u [4] rfl rfl (op_loadBVf (u := (n1 3)) tokV25 z0 rfl) <| .q 3 rfl <| .q 3 rfl <| .u [1] rfl rfl (op_indexOi ud25 tok32 z2 z1 ht71) <| .u [1] rfl rfl (op_fieldO fld32_3 z0 (idx_ne ht71)) <| .e [] [1] [5] rfl rfl rfl rfl (op_storeOf (u := { t71 with Fields := p4206 }) tok30 z0 z2 ht71 ht71s (leb rfl) rfl) <| .n) fun n11 a w hst => ?_
          replace hst := hst.to [1,8,9] [_,_,_] [_,_,_,_,_] rfl rfl
          obtain rfl := sj h
          exact hJp4191 _ _ (hst.pick [1,2])
         replace h := hp4206
         clear hp4206
         refine wp_test 1 hst rfl (fun b4208 => ?_) (fun b4208 => ?_)
         ·replace h := ite_t b4208 h
          obtain ⟨t60,ht60,h⟩ := bind_some h
          obtain ⟨t65,ht65,h⟩ := bind_some h
          obtain ⟨t66s,ht66s,h⟩ := bind_some h
          refine wr mixed [v0 (own rSapi_Field 36 t66s (n7 7))] hst (fun _ => .q 6 rfl <| .q 4 rfl <| .q 8 rfl <| .q 6 rfl <| .u [5] rfl rfl (op_indexOi ud30 tok36 z1 z0 ht60) <| .u [5] rfl rfl (op_loadO tok36 z0 ht60) <| .q 21 rfl <| .o (op_quo z0 .k (by decide)) <| .q 24 rfl <| .o (op_callF call36 (ref09_spoiltField_ok ht65) (.cons (.of z3) <| .cons (.of z1) <| .cons (.of z0) <| .nil)) <| .u [5] rfl rfl (op_indexOs ud30 tok36 z9 z8 ht66s) <| .e [] [5] [6] rfl rfl rfl rfl (op_storeO tok36 z0 z1 ht66s) <| .n) fun n10 a w hst => ?_
          replace hst := hst.to [0,2,11,13,15,16,17,18,19,20,21,22,23,24,25] [_,_,_,_,_,_,_,_,_,_,_,_,_,_,_] [_,_,_,_,_,_] rfl rfl
          obtain rfl := sj h
          exact hJp4206 _ _ (hst.pick [6,9,13,14])
         ·replace h := ite_f b4208 h
          refine wp_skip ?_
          obtain rfl := sj h
          exact hJp4206 _ _ (hst.pick [6,9,13,14])
        ·replace h := ite_f b4209 h
         refine wp_skip ?_
         obtain rfl := sj h
         exact hJp4191 _ _ ((hst.pick [7,8]).selA [0,2,3,4,1] rfl)

/- diorama/dioramalaw10.some -/
noncomputable def flaw10_some (l_ : (List Int)) (at_ : Int) (how_ : Int) (by_ : Int) : Option ((List Sapi_Schema)) := (fref09_Schema l_).bind fun t12 => (fref10_Bent t12 at_ how_ by_).bind fun t17 => (fref10_Bent t17 by_ (IntKind.i64.wrap (Int.tdiv how_ (9:Int))) at_).bind fun t25 => (fref09_Spoilt t12 at_ how_ by_).bind fun t30 => (some [t12,t17,t25,t30,zz4])
set_option maxRecDepth 100000 in
set_option maxHeartbeats 4000000 in
theorem law10_some_ok {l_ : (List Int)} {at_ : Int} {how_ : Int} {by_ : Int} {r : (List Sapi_Schema)} (h : flaw10_some l_ at_ how_ by_ = some r) : FnOk Tryd.prog 6 [tsl rI l_,ti at_,ti how_,ti by_] [] (fun _ => []) (fun _ => tsl rSapi_Schema r) := by
 unfold flaw10_some at h
 refine FnOk.enter Tryd.func6 rfl Tryd.ntmps6 (leb rfl) (fun M0 M w0 a hpl hst => ?_)
 replace hst : St M w0 33 [(0,tsl rI l_),(1,ti at_),(2,ti how_),(3,ti by_)] [] a w0 := hst
 refine sr mixed [] hst (fun _ => .o (op_assign (.nilsl (R := rSapi_Schema))) <| .n) fun n0 a w hst => ?_
 replace hst := hst.to [1,2,3,4] [_,_,_,_] [] rfl rfl
 obtain ⟨t12,ht12,h⟩ := bind_some h
 refine sr mixed [v1 2 (fun v0 => box (rSapi_Schema.cs zz4) v0),v1 2 (fun v0 => box (rSapi_Schema.cs t12) v0)] hst (fun _ => .q 0 rfl <| .o (op_callF call14 (ref09_Schema_ok ht12) (.cons (.of z0) <| .nil)) <| .m [] [0] rfl rfl rfl (op_alloc (R := rSapi_Schema) (a := zz4) tok29 zok29) <| .e [] [0] [1] rfl rfl rfl rfl (op_storeB (R := rSapi_Schema) (a := t12) tok29 z0 z1 (leb rfl)) <| .n) fun n1 a w hst => ?_
 replace hst : St _ _ _ [_,_,_,_] [] _ _ := (((hst.pick [2,4,5,6]).shareB 0 rfl).add 0 rfl (fun _ _ _ h => h.2)).pick [0,3,4,5]
 obtain ⟨t17,ht17,h⟩ := bind_some h
 refine sr mixed [v1 5 (fun v0 => box (rSapi_Schema.cs zz4) v0),v1 5 (fun v0 => box (rSapi_Schema.cs t17) v0)] hst (fun _ => .o (op_load tok29 z0) <| .q 2 rfl <| .q 4 rfl <| .q 6 rfl <| .o (op_callF call15 (ref10_Bent_ok ht17) (.cons (.of z3) <| .cons (.of z2) <| .cons (.of z1) <| .cons (.of z0) <| .nil)) <| .m [] [0] rfl rfl rfl (op_alloc (R := rSapi_Schema) (a := zz4) tok29 zok29) <| .e [] [0] [1] rfl rfl rfl rfl (op_storeB (R := rSapi_Schema) (a := t17) tok29 z0 z1 (leb rfl)) <| .n) fun n2 a w hst => ?_
 replace hst : St _ _ _ [_,_,_,_,_] [] _ _ := (((hst.pick [5,6,7,8,9]).shareB 0 rfl).add 0 rfl (fun _ _ _ h => h.2)).pick [0,3,4,5,6]
 obtain ⟨t25,ht25,h⟩ := bind_some h
 obtain ⟨t30,ht30,h⟩ := bind_some h
 refine sr mixed [] hst (fun _ => .o (op_load tok29 z1) <| .o (op_load tok29 z1) <| .o (op_load tok29 z2) <| .q 7 rfl <| .q 7 rfl <| .o (op_quo z0 .k (by decide)) <| .q 8 rfl <| .o (op_callF call15 (ref10_Bent_ok ht25) (.cons (.of z4) <| .cons (.of z3) <| .cons (.of z1) <| .cons (.of z0) <| .nil)) <| .o (op_load tok29 z9) <| .q 11 rfl <| .q 13 rfl <| .q 15 rfl <| .o (op_callF call16 (ref09_Spoilt_ok ht30) (.cons (.of z3) <| .cons (.of z2) <| .cons (.of z1) <| .cons (.of z0) <| .nil)) <| .p (T := rSapi_Schema.ty zz4) rfl (op_build ud29 pl29 zv29 zc29 (.nil _)) <| .o (op_buildSl (R := rSapi_Schema) (us := [t12,t17,t25,t30,zz4]) Tryd.underlying23 tok29 (.cons z13 <| .cons z12 <| .cons z6 <| .cons z1 <| .cons z0 <| .nil _) rfl (leb rfl)) <| .o (op_assign z0) <| .n) fun n3 a w hst => ?_
 replace hst := hst.to [15] [_] [] rfl rfl
 refine wp_ret ?_
 obtain rfl := sj h
 exact ret_st undef [] hpl hst rfl (.tmp z0 .nil) rfl rfl rfl

/- diorama/schema.within -/
noncomputable def fschema_within (n_ : Int) (least_ : Int) (most_ : Int) : Option (Bool) := (some ((decide (n_ ≥ least_)) && (decide (n_ ≤ most_))))
set_option maxRecDepth 100000 in
set_option maxHeartbeats 4000000 in
theorem schema_within_ok {n_ : Int} {least_ : Int} {most_ : Int} {r : Bool} (h : fschema_within n_ least_ most_ = some r) : FnOk Tryd.prog 17 [ti n_,ti least_,ti most_] [] (fun _ => []) (fun _ => tb r) := by
 unfold fschema_within at h
 refine FnOk.enter Tryd.func17 rfl Tryd.ntmps17 (leb rfl) (fun M0 M w0 a hpl hst => ?_)
 replace hst : St M w0 15 [(0,ti n_),(1,ti least_),(2,ti most_)] [] a w0 := hst
 refine sr mixed [] hst (fun _ => .o (op_assign .k) <| .n) fun n0 a w hst => ?_
 replace hst := hst.to [1,2,3] [_,_,_] [] rfl rfl
 refine sr mixed [] hst (fun _ => .q 0 rfl <| .q 2 rfl <| .o (op_geq z1 z0) <| .q 0 rfl <| .g rfl rfl (.b 0 rfl) (fun _ => op_move z4) <| .g rfl rfl (.b 1 rfl) (fun _ => op_move z7) <| .g rfl rfl (.b 2 rfl) (fun hc => op_leq (.cond z1 hc) (.cond z0 hc)) <| .o (op_and z3 (fun hp => (.cond z0 (beqT hp)))) <| .o (op_assign z0) <| .n) fun n1 a w hst => ?_
 replace hst := hst.to [8] [_] [] rfl rfl
 refine wp_ret ?_
 obtain rfl := sj h
 exact ret_st undef [] hpl hst rfl (.tmp z0 .nil) rfl rfl rfl

/- diorama/schema.all[diorama/api.Kind]$1 -/
noncomputable def fschema_all_Kindq1 (x_ : Sapi_Kind) (c0_ : (Sapi_Kind → Option Bool)) : Option (Bool) := (c0_ x_).bind fun t6 => (some (!t6))
set_option maxRecDepth 100000 in
set_option maxHeartbeats 4000000 in
theorem schema_all_Kindq1_ok {x_ : Sapi_Kind} {c0_ : (Sapi_Kind → Option Bool)} {r : Bool} (h : fschema_all_Kindq1 x_ c0_ = some r) : FnOk Tryd.prog 38 [rSapi_Kind.ty x_,tptr (rF58.cs c0_)] [] (fun _ => []) (fun _ => tb r) := by
 unfold fschema_all_Kindq1 at h
 refine FnOk.enter Tryd.func38 rfl Tryd.ntmps38 (leb rfl) (fun M0 M w0 a hpl hst => ?_)
 replace hst : St M w0 8 [(0,rSapi_Kind.ty x_),(1,tptr (rF58.cs c0_))] [] a w0 := hst
 refine sr mixed [] hst (fun _ => .o (op_boxR (R := rSapi_Kind) (u := x_) z0) <| .o (op_assign .k) <| .n) fun n0 a w hst => ?_
 replace hst := hst.to [0,3] [_,_] [] rfl rfl
 obtain ⟨t6,ht6,h⟩ := bind_some h
 refine sr mixed [] hst (fun _ => .o (op_load tok58 z1) <| .o (op_load tok32 z1) <| .o (op_callT (u := x_) z1 (.cons (.of z0) <| .nil) ht6) <| .o (op_not z0) <| .o (op_assign z0) <| .n) fun n1 a w hst => ?_
 replace hst := hst.to [4] [_] [] rfl rfl
 refine wp_ret ?_
 obtain rfl := sj h
 exact ret_st undef [] hpl hst rfl (.tmp z0 .nil) rfl rfl rfl

/- slices.IndexFunc[[]diorama/api.Kind,diorama/api.Kind] -/
noncomputable def fslices_IndexFunc_Kind (s_ : (List Sapi_Kind)) (f_ : (Sapi_Kind → Option Bool)) : Option (Int) := (tailrec (fun (s4 : Int) => ((if (decide (s4 < (s_.length : Int))) = true then (idx s_ s4).bind fun t14 => (f_ t14).bind fun t16 => (if t16 = true then (some (.inr (.inr s4))) else (some (.inl (IntKind.i64.wrap (s4 + (1:Int)))))) else (some (.inr (.inl ())))) : Option ((Int) ⊕ ((Unit) ⊕ (Int))))) (0:Int)).bind fun (e5 : (Unit) ⊕ (Int)) => (match e5 with | .inl _ => (some (-1:Int)) | .inr p23 => (some p23))
set_option maxRecDepth 100000 in
set_option maxHeartbeats 4000000 in
theorem slices_IndexFunc_Kind_ok {s_ : (List Sapi_Kind)} {f_ : (Sapi_Kind → Option Bool)} {r : Int} (h : fslices_IndexFunc_Kind s_ f_ = some r) : FnOk Tryd.prog 64 [tsl rSapi_Kind s_,rF58.ty f_] [] (fun _ => []) (fun _ => ti r) := by
 unfold fslices_IndexFunc_Kind at h
 refine FnOk.enter Tryd.func64 rfl Tryd.ntmps64 (leb rfl) (fun M0 M w0 a hpl hst => ?_)
 replace hst : St M w0 19 [(0,tsl rSapi_Kind s_),(1,rF58.ty f_)] [] a w0 := hst
 refine sr mixed [] hst (fun _ => .o (op_assign .k) <| .n) fun n0 a w hst => ?_
 replace hst := hst.to [1,2] [_,_] [] rfl rfl
 refine wp_seq_k (fun K2 hK2 => ?_)
 refine sr mixed [] hst (fun _ => .q 0 rfl <| .o (op_len ud25 z0) <| .o (op_move .k) <| .n) fun n1 a w hst => ?_
 replace hst := hst.to [1,2,3,4] [_,_,_,_] [] rfl rfl
 obtain ⟨e5,he5,h⟩ := bind_some h
 have hJp22 : ∀ (p22 : Unit) a w,(.inl p22) = e5 → St M w0 19 [] [] a w → K2 a w := by
  intro p22 a w he hst
  subst he
  simp only at h
  refine hK2 _ _ ?_
  try clear hK2 K2
  refine sr mixed [] hst (fun _ => .o (op_assign .k) <| .n) fun n7 a w hst => ?_
  replace hst := hst.to [0] [_] [] rfl rfl
  refine wp_ret ?_
  obtain rfl := sj h
  exact ret_st undef [] hpl hst rfl (.tmp z0 .nil) rfl rfl rfl
 have hJp23 : ∀ (p23 : Int) a w,(.inr p23) = e5 → St M w0 19 [(4,ti p23)] [] a w → Ret Tryd.prog Tryd.f64 M0 [] w0 (fun _ => []) (fun _ => ti r) .ret a w := by
  intro p23 a w he hst
  subst he
  simp only at h
  obtain rfl := sj h
  exact ret_st undef [] hpl hst rfl (.tmp z0 .nil) rfl rfl rfl
 refine wp_block ?_
 refine wp_loopK _ (fun (s4 : Int) a w => St M w0 19 [(7,ti (s_.length : Int)),(8,ti s4),(0,tsl rSapi_Kind s_),(1,rF58.ty f_)] [] a w) _ _ he5 (hst.pick [0,1,2,3]) ?_
 clear h
 intro s4 o a w K25 hI h ho hK25
 have hst := hI
 clear hI
 refine sr mixed [] hst (fun _ => .o (op_lss z1 z0) <| .n) fun n2 a w hst => ?_
 replace hst := hst.to [0,1,2,3,4] [_,_,_,_,_] [] rfl rfl
 refine wp_seq_k (fun K27 hK27 => ?_)
 refine wt hst (fun b33 => ?_) (fun b33 => ?_)
 ·replace h := ite_t b33 h
  refine wp_skip ?_
  refine hK27 _ _ ?_
  try clear hK27 K27
  refine wp_seq_k (fun K28 hK28 => ?_)
  refine wp_block ?_
  refine sr mixed [] hst (fun _ => .q 2 rfl <| .o (op_assign z0) <| .n) fun n3 a w hst => ?_
  replace hst := hst.to [1,3,4,5,6] [_,_,_,_,_] [] rfl rfl
  obtain ⟨t14,ht14,h⟩ := bind_some h
  obtain ⟨t16,ht16,h⟩ := bind_some h
  refine sr mixed [] hst (fun _ => .q 4 rfl <| .q 4 rfl <| .q 2 rfl <| .o (op_index ud25 tok32 z1 z0 ht14) <| .o (op_load tok32 z0) <| .o (op_callT (u := t14) z4 (.cons (.of z0) <| .nil) ht16) <| .n) fun n4 a w hst => ?_
  replace hst := hst.to [5,6,7,8,9,10] [_,_,_,_,_,_] [] rfl rfl
  refine wt hst (fun b32 => ?_) (fun b32 => ?_)
  ·replace h := ite_t b32 h
   refine sr mixed [] hst (fun _ => .q 1 rfl <| .o (op_assign z0) <| .n) fun n5 a w hst => ?_
   replace hst := hst.to [1] [_] [] rfl rfl
   refine wp_ret ?_
   exact hJp23 _ _ _ (ho _ (sj h).symm) (hst.pick [0])
  ·replace h := ite_f b32 h
   refine wp_skip ?_
   refine hK28 _ _ ?_
   try clear hK28 K28
   refine wr mixed [] hst (fun _ => .o (op_add z3 .k) <| .q 0 rfl <| .n) fun n6 a w hst => ?_
   replace hst := hst.to [1,4,5,6] [_,_,_,_] [] rfl rfl
   exact hK25 _ _ _ (sj h).symm (hst.pick [1,0,2,3])
 ·replace h := ite_f b33 h
  refine wp_exit ?_
  exact hJp22 _ _ _ (ho _ (sj h).symm) (hst.pick [])

/- slices.ContainsFunc[[]diorama/api.Kind,diorama/api.Kind] -/
noncomputable def fslices_ContainsFunc_Kind (s_ : (List Sapi_Kind)) (f_ : (Sapi_Kind → Option Bool)) : Option (Bool) := (fslices_IndexFunc_Kind s_ f_).bind fun t7 => (some (decide (t7 ≥ (0:Int))))
set_option maxRecDepth 100000 in
set_option maxHeartbeats 4000000 in
theorem slices_ContainsFunc_Kind_ok {s_ : (List Sapi_Kind)} {f_ : (Sapi_Kind → Option Bool)} {r : Bool} (h : fslices_ContainsFunc_Kind s_ f_ = some r) : FnOk Tryd.prog 37 [tsl rSapi_Kind s_,rF58.ty f_] [] (fun _ => []) (fun _ => tb r) := by
 unfold fslices_ContainsFunc_Kind at h
 refine FnOk.enter Tryd.func37 rfl Tryd.ntmps37 (leb rfl) (fun M0 M w0 a hpl hst => ?_)
 replace hst : St M w0 9 [(0,tsl rSapi_Kind s_),(1,rF58.ty f_)] [] a w0 := hst
 refine sr mixed [] hst (fun _ => .o (op_assign .k) <| .n) fun n0 a w hst => ?_
 replace hst := hst.to [1,2] [_,_] [] rfl rfl
 obtain ⟨t7,ht7,h⟩ := bind_some h
 refine sr mixed [] hst (fun _ => .q 0 rfl <| .q 2 rfl <| .o (op_callF call64 (slices_IndexFunc_Kind_ok ht7) (.cons (.of z1) <| .cons (.of z0) <| .nil)) <| .o (op_geq z0 .k) <| .o (op_assign z0) <| .n) fun n1 a w hst => ?_
 replace hst := hst.to [4] [_] [] rfl rfl
 refine wp_ret ?_
 obtain rfl := sj h
 exact ret_st undef [] hpl hst rfl (.tmp z0 .nil) rfl rfl rfl

/- diorama/schema.all[diorama/api.Kind] -/
noncomputable def fschema_all_Kind (l_ : (List Sapi_Kind)) (right_ : (Sapi_Kind → Option Bool)) : Option (Bool) := (fslices_ContainsFunc_Kind l_ (fun x0 => fschema_all_Kindq1 x0 right_)).bind fun t7 => (some (!t7))
set_option maxRecDepth 100000 in
set_option maxHeartbeats 4000000 in
theorem schema_all_Kind_ok {l_ : (List Sapi_Kind)} {right_ : (Sapi_Kind → Option Bool)} {r : Bool} (h : fschema_all_Kind l_ right_ = some r) : FnOk Tryd.prog 18 [tsl rSapi_Kind l_,rF58.ty right_] [] (fun _ => []) (fun _ => tb r) := by
 unfold fschema_all_Kind at h
 refine FnOk.enter Tryd.func18 rfl Tryd.ntmps18 (leb rfl) (fun M0 M w0 a hpl hst => ?_)
 replace hst : St M w0 9 [(0,tsl rSapi_Kind l_),(1,rF58.ty right_)] [] a w0 := hst
 refine sr mixed [] hst (fun _ => .o (op_boxR (R := rF58) (u := right_) z1) <| .o (op_assign .k) <| .n) fun n0 a w hst => ?_
 replace hst := hst.to [0,2] [_,_] [] rfl rfl
 obtain ⟨t7,ht7,h⟩ := bind_some h
 refine sr mixed [] hst (fun _ => .q 1 rfl <| .o (op_clo (.cons z1 <| .nil)) <| .o (op_callF call37 (slices_ContainsFunc_Kind_ok ht7) (.cons (.of z1) <| .cons (.of (Fct.weak z0 (tfn_of call38 (fun _ _ hq => schema_all_Kindq1_ok hq)))) <| .nil)) <| .o (op_not z0) <| .o (op_assign z0) <| .n) fun n1 a w hst => ?_
 replace hst := hst.to [4] [_] [] rfl rfl
 refine wp_ret ?_
 obtain rfl := sj h
 exact ret_st undef [] hpl hst rfl (.tmp z0 .nil) rfl rfl rfl

/- diorama/schema.isLetter -/
noncomputable def fschema_isLetter (c_ : Int) : Option (Bool) := (some ((decide (c_ ≥ (97:Int))) && (decide (c_ ≤ (122:Int)))))
set_option maxRecDepth 100000 in
set_option maxHeartbeats 4000000 in
theorem schema_isLetter_ok {c_ : Int} {r : Bool} (h : fschema_isLetter c_ = some r) : FnOk Tryd.prog 65 [tv (.int .u8 c_)] [] (fun _ => []) (fun _ => tb r) := by
 unfold fschema_isLetter at h
 refine FnOk.enter Tryd.func65 rfl Tryd.ntmps65 (leb rfl) (fun M0 M w0 a hpl hst => ?_)
 replace hst : St M w0 9 [(0,tv (.int .u8 c_))] [] a w0 := hst
 refine sr mixed [] hst (fun _ => .o (op_assign .k) <| .n) fun n0 a w hst => ?_
 replace hst := hst.to [1] [_] [] rfl rfl
 refine sr mixed [] hst (fun _ => .q 0 rfl <| .o (op_geq z0 .k) <| .q 0 rfl <| .g rfl rfl (.b 0 rfl) (fun _ => op_move z3) <| .g rfl rfl (.b 1 rfl) (fun hc => op_leq (.cond z0 hc) .k) <| .o (op_and z2 (fun hp => (.cond z0 (beqT hp)))) <| .o (op_assign z0) <| .n) fun n1 a w hst => ?_
 replace hst := hst.to [6] [_] [] rfl rfl
 refine wp_ret ?_
 obtain rfl := sj h
 exact ret_st undef [] hpl hst rfl (.tmp z0 .nil) rfl rfl rfl

/- slices.IndexFunc[[]byte,byte] -/
noncomputable def fslices_IndexFunc_byte (s_ : (List Int)) (f_ : (Int → Option Bool)) : Option (Int) := (tailrec (fun (s4 : Int) => ((if (decide (s4 < (s_.length : Int))) = true then (idx s_ s4).bind fun t14 => (f_ t14).bind fun t16 => (if t16 = true then (some (.inr (.inr s4))) else (some (.inl (IntKind.i64.wrap (s4 + (1:Int)))))) else (some (.inr (.inl ())))) : Option ((Int) ⊕ ((Unit) ⊕ (Int))))) (0:Int)).bind fun (e5 : (Unit) ⊕ (Int)) => (match e5 with | .inl _ => (some (-1:Int)) | .inr p23 => (some p23))
set_option maxRecDepth 100000 in
set_option maxHeartbeats 4000000 in
theorem slices_IndexFunc_byte_ok {s_ : (List Int)} {f_ : (Int → Option Bool)} {r : Int} (h : fslices_IndexFunc_byte s_ f_ = some r) : FnOk Tryd.prog 84 [tsl (rInt .u8) s_,rF117.ty f_] [] (fun _ => []) (fun _ => ti r) := by
 unfold fslices_IndexFunc_byte at h
 refine FnOk.enter Tryd.func84 rfl Tryd.ntmps84 (leb rfl) (fun M0 M w0 a hpl hst => ?_)
 replace hst : St M w0 19 [(0,tsl (rInt .u8) s_),(1,rF117.ty f_)] [] a w0 := hst
 refine sr mixed [] hst (fun _ => .o (op_assign .k) <| .n) fun n0 a w hst => ?_
 replace hst := hst.to [1,2] [_,_] [] rfl rfl
 refine wp_seq_k (fun K2 hK2 => ?_)
 refine sr mixed [] hst (fun _ => .q 0 rfl <| .o (op_len Tryd.underlying95 z0) <| .o (op_move .k) <| .n) fun n1 a w hst => ?_
 replace hst := hst.to [1,2,3,4] [_,_,_,_] [] rfl rfl
 obtain ⟨e5,he5,h⟩ := bind_some h
 have hJp22 : ∀ (p22 : Unit) a w,(.inl p22) = e5 → St M w0 19 [] [] a w → K2 a w := by
  intro p22 a w he hst
  subst he
  simp only at h
  refine hK2 _ _ ?_
  try clear hK2 K2
  refine sr mixed [] hst (fun _ => .o (op_assign .k) <| .n) fun n7 a w hst => ?_
  replace hst := hst.to [0] [_] [] rfl rfl
  refine wp_ret ?_
  obtain rfl := sj h
  exact ret_st undef [] hpl hst rfl (.tmp z0 .nil) rfl rfl rfl
 have hJp23 : ∀ (p23 : Int) a w,(.inr p23) = e5 → St M w0 19 [(4,ti p23)] [] a w → Ret Tryd.prog Tryd.f84 M0 [] w0 (fun _ => []) (fun _ => ti r) .ret a w := by
  intro p23 a w he hst
  subst he
  simp only at h
  obtain rfl := sj h
  exact ret_st undef [] hpl hst rfl (.tmp z0 .nil) rfl rfl rfl
 refine wp_block ?_
 refine wp_loopK _ (fun (s4 : Int) a w => St M w0 19 [(7,ti (s_.length : Int)),(8,ti s4),(0,tsl (rInt .u8) s_),(1,rF117.ty f_)] [] a w) _ _ he5 (hst.pick [0,1,2,3]) ?_
 clear h
 intro s4 o a w K25 hI h ho hK25
 have hst := hI
 clear hI
 refine sr mixed [] hst (fun _ => .o (op_lss z1 z0) <| .n) fun n2 a w hst => ?_
 replace hst := hst.to [0,1,2,3,4] [_,_,_,_,_] [] rfl rfl
 refine wp_seq_k (fun K27 hK27 => ?_)
 refine wt hst (fun b33 => ?_) (fun b33 => ?_)
 ·replace h := ite_t b33 h
  refine wp_skip ?_
  refine hK27 _ _ ?_
  try clear hK27 K27
  refine wp_seq_k (fun K28 hK28 => ?_)
  refine wp_block ?_
  refine sr mixed [] hst (fun _ => .q 2 rfl <| .o (op_assign z0) <| .n) fun n3 a w hst => ?_
  replace hst := hst.to [1,3,4,5,6] [_,_,_,_,_] [] rfl rfl
  obtain ⟨t14,ht14,h⟩ := bind_some h
  obtain ⟨t16,ht16,h⟩ := bind_some h
  refine sr mixed [] hst (fun _ => .q 4 rfl <| .q 4 rfl <| .q 2 rfl <| .o (op_index Tryd.underlying95 tok5 z1 z0 ht14) <| .o (op_load tok5 z0) <| .o (op_callT (u := t14) z4 (.cons (.of z0) <| .nil) ht16) <| .n) fun n4 a w hst => ?_
  replace hst := hst.to [5,6,7,8,9,10] [_,_,_,_,_,_] [] rfl rfl
  refine wt hst (fun b32 => ?_) (fun b32 => ?_)
  ·replace h := ite_t b32 h
   refine sr mixed [] hst (fun _ => .q 1 rfl <| .o (op_assign z0) <| .n) fun n5 a w hst => ?_
   replace hst := hst.to [1] [_] [] rfl rfl
   refine wp_ret ?_
   exact hJp23 _ _ _ (ho _ (sj h).symm) (hst.pick [0])
  ·replace h := ite_f b32 h
   refine wp_skip ?_
   refine hK28 _ _ ?_
   try clear hK28 K28
   refine wr mixed [] hst (fun _ => .o (op_add z3 .k) <| .q 0 rfl <| .n) fun n6 a w hst => ?_
   replace hst := hst.to [1,4,5,6] [_,_,_,_] [] rfl rfl
   exact hK25 _ _ _ (sj h).symm (hst.pick [1,0,2,3])
 ·replace h := ite_f b33 h
  refine wp_exit ?_
  exact hJp22 _ _ _ (ho _ (sj h).symm) (hst.pick [])

/- slices.ContainsFunc[[]byte,byte] -/
noncomputable def fslices_ContainsFunc_byte (s_ : (List Int)) (f_ : (Int → Option Bool)) : Option (Bool) := (fslices_IndexFunc_byte s_ f_).bind fun t7 => (some (decide (t7 ≥ (0:Int))))
set_option maxRecDepth 100000 in
set_option maxHeartbeats 4000000 in
theorem slices_ContainsFunc_byte_ok {s_ : (List Int)} {f_ : (Int → Option Bool)} {r : Bool} (h : fslices_ContainsFunc_byte s_ f_ = some r) : FnOk Tryd.prog 66 [tsl (rInt .u8) s_,rF117.ty f_] [] (fun _ => []) (fun _ => tb r) := by
 unfold fslices_ContainsFunc_byte at h
 refine FnOk.enter Tryd.func66 rfl Tryd.ntmps66 (leb rfl) (fun M0 M w0 a hpl hst => ?_)
 replace hst : St M w0 9 [(0,tsl (rInt .u8) s_),(1,rF117.ty f_)] [] a w0 := hst
 refine sr mixed [] hst (fun _ => .o (op_assign .k) <| .n) fun n0 a w hst => ?_
 replace hst := hst.to [1,2] [_,_] [] rfl rfl
 obtain ⟨t7,ht7,h⟩ := bind_some h
 refine sr mixed [] hst (fun _ => .q 0 rfl <| .q 2 rfl <| .o (op_callF call84 (slices_IndexFunc_byte_ok ht7) (.cons (.of z1) <| .cons (.of z0) <| .nil)) <| .o (op_geq z0 .k) <| .o (op_assign z0) <| .n) fun n1 a w hst => ?_
 replace hst := hst.to [4] [_] [] rfl rfl
 refine wp_ret ?_
 obtain rfl := sj h
 exact ret_st undef [] hpl hst rfl (.tmp z0 .nil) rfl rfl rfl

/- diorama/schema.isDigit -/
noncomputable def fschema_isDigit (c_ : Int) : Option (Bool) := (some ((decide (c_ ≥ (48:Int))) && (decide (c_ ≤ (57:Int)))))
set_option maxRecDepth 100000 in
set_option maxHeartbeats 4000000 in
theorem schema_isDigit_ok {c_ : Int} {r : Bool} (h : fschema_isDigit c_ = some r) : FnOk Tryd.prog 68 [tv (.int .u8 c_)] [] (fun _ => []) (fun _ => tb r) := by
 unfold fschema_isDigit at h
 refine FnOk.enter Tryd.func68 rfl Tryd.ntmps68 (leb rfl) (fun M0 M w0 a hpl hst => ?_)
 replace hst : St M w0 9 [(0,tv (.int .u8 c_))] [] a w0 := hst
 refine sr mixed [] hst (fun _ => .o (op_assign .k) <| .n) fun n0 a w hst => ?_
 replace hst := hst.to [1] [_] [] rfl rfl
 refine sr mixed [] hst (fun _ => .q 0 rfl <| .o (op_geq z0 .k) <| .q 0 rfl <| .g rfl rfl (.b 0 rfl) (fun _ => op_move z3) <| .g rfl rfl (.b 1 rfl) (fun hc => op_leq (.cond z0 hc) .k) <| .o (op_and z2 (fun hp => (.cond z0 (beqT hp)))) <| .o (op_assign z0) <| .n) fun n1 a w hst => ?_
 replace hst := hst.to [6] [_] [] rfl rfl
 refine wp_ret ?_
 obtain rfl := sj h
 exact ret_st undef [] hpl hst rfl (.tmp z0 .nil) rfl rfl rfl

/- diorama/schema.isName$1 -/
noncomputable def fschema_isNameq1 (c_ : Int) : Option (Bool) := (fschema_isLetter c_).bind fun t4 => (opt ((!t4) == true) (fschema_isDigit c_) default).bind fun t8 => (some ((!t4) && (!t8)))
set_option maxRecDepth 100000 in
set_option maxHeartbeats 4000000 in
theorem schema_isNameq1_ok {c_ : Int} {r : Bool} (h : fschema_isNameq1 c_ = some r) : FnOk Tryd.prog 67 [tv (.int .u8 c_)] [] (fun _ => []) (fun _ => tb r) := by
 unfold fschema_isNameq1 at h
 refine FnOk.enter Tryd.func67 rfl Tryd.ntmps67 (leb rfl) (fun M0 M w0 a hpl hst => ?_)
 replace hst : St M w0 11 [(0,tv (.int .u8 c_))] [] a w0 := hst
 refine sr mixed [] hst (fun _ => .o (op_assign .k) <| .n) fun n0 a w hst => ?_
 replace hst := hst.to [1] [_] [] rfl rfl
 obtain ⟨t4,ht4,h⟩ := bind_some h
 obtain ⟨t8,ht8,h⟩ := bind_some h
 refine sr mixed [] hst (fun _ => .q 0 rfl <| .o (op_callF call65 (schema_isLetter_ok ht4) (.cons (.of z0) <| .nil)) <| .o (op_not z0) <| .q 0 rfl <| .g rfl rfl (.b 0 rfl) (fun _ => op_move z4) <| .g rfl rfl (.b 1 rfl) (fun hc => op_callF call68 (schema_isDigit_ok (opt_t ht8 hc)) (.cons (.of (.cond z0 hc)) <| .nil)) <| .g rfl rfl (.b 2 rfl) (fun hc => op_not (.cond z0 hc)) <| .o (op_and z3 (fun hp => (.cond z0 (beqT hp)))) <| .o (op_assign z0) <| .n) fun n1 a w hst => ?_
 replace hst := hst.to [8] [_] [] rfl rfl
 refine wp_ret ?_
 obtain rfl := sj h
 exact ret_st undef [] hpl hst rfl (.tmp z0 .nil) rfl rfl rfl

/- diorama/schema.isName -/
noncomputable def fschema_isName (s_ : Str) : Option (Bool) := (fschema_within (s_.length : Int) (1:Int) (12:Int)).bind fun t5 => (opt ((!t5) == false) (idx s_ (0:Int)) default).bind fun t9 => (opt ((!t5) == false) (fschema_isLetter ((t9).toNat : Int)) default).bind fun t10 => (if ((!t5) || (!t10)) = true then (some false) else (fslices_ContainsFunc_byte (bytesOf s_) (fun x0 => fschema_isNameq1 x0)).bind fun t15 => (some (!t15)))
set_option maxRecDepth 100000 in
set_option maxHeartbeats 4000000 in
theorem schema_isName_ok {s_ : Str} {r : Bool} (h : fschema_isName s_ = some r) : FnOk Tryd.prog 39 [tv (.string (sB s_))] [] (fun _ => []) (fun _ => tb r) := by
 unfold fschema_isName at h
 refine FnOk.enter Tryd.func39 rfl Tryd.ntmps39 (leb rfl) (fun M0 M w0 a hpl hst => ?_)
 replace hst : St M w0 17 [(0,tv (.string (sB s_)))] [] a w0 := hst
 refine sr mixed [] hst (fun _ => .o (op_assign .k) <| .n) fun n0 a w hst => ?_
 replace hst := hst.to [1] [_] [] rfl rfl
 refine wp_seq_k (fun K2 hK2 => ?_)
 obtain ⟨t5,ht5,h⟩ := bind_some h
 obtain ⟨t9,ht9,h⟩ := bind_some h
 obtain ⟨t10,ht10,h⟩ := bind_some h
 refine sr mixed [] hst (fun _ => .q 0 rfl <| .o (op_lenS' ud9 z0) <| .o (op_callF call17 (schema_within_ok ht5) (.cons (.of z0) <| .cons (.of .k) <| .cons (.of .k) <| .nil)) <| .o (op_not z0) <| .q 0 rfl <| .g rfl rfl (.b 0 rfl) (fun _ => op_move z5) <| .g rfl rfl (.b 1 rfl) (fun hc => op_idxS ud9 (.cond z0 hc) .k (opt_t ht9 hc)) <| .g rfl rfl (.b 2 rfl) (fun hc => op_callF call65 (schema_isLetter_ok (opt_t ht10 hc)) (.cons (.of (.cond z0 hc)) <| .nil)) <| .g rfl rfl (.b 3 rfl) (fun hc => op_not (.cond z0 hc)) <| .o (op_or z4 (fun hp => (.cond z0 (beqF hp)))) <| .n) fun n1 a w hst => ?_
 replace hst := hst.to [9,10] [_,_] [] rfl rfl
 refine wt hst (fun b6 => ?_) (fun b6 => ?_)
 ·replace h := ite_t b6 h
  refine sr mixed [] hst (fun _ => .o (op_assign .k) <| .n) fun n2 a w hst => ?_
  replace hst := hst.to [0] [_] [] rfl rfl
  refine wp_ret ?_
  obtain rfl := sj h
  exact ret_st undef [] hpl hst rfl (.tmp z0 .nil) rfl rfl rfl
 ·replace h := ite_f b6 h
  refine wp_skip ?_
  refine hK2 _ _ ?_
  try clear hK2 K2
  obtain ⟨t15,ht15,h⟩ := bind_some h
  refine sr mixed [] hst (fun _ => .q 1 rfl <| .o (op_s2b ud9 Tryd.underlying95 Tryd.underlying5 z0) <| .o (op_callF call66 (slices_ContainsFunc_byte_ok ht15) (.cons (.of z0) <| .cons (.of (Fct.weak .fnE (tfn_of call67 (fun _ _ hq => schema_isNameq1_ok hq)))) <| .nil)) <| .o (op_not z0) <| .o (op_assign z0) <| .n) fun n3 a w hst => ?_
  replace hst := hst.to [4] [_] [] rfl rfl
  refine wp_ret ?_
  obtain rfl := sj h
  exact ret_st undef [] hpl hst rfl (.tmp z0 .nil) rfl rfl rfl

/- diorama/schema.span -/
noncomputable def fschema_span (lo_ : Int) (hi_ : Int) (least_ : Int) (most_ : Int) : Option (Bool) := (some (((decide (lo_ ≥ least_)) && (decide (lo_ ≤ hi_))) && (decide (hi_ ≤ most_))))
set_option maxRecDepth 100000 in
set_option maxHeartbeats 4000000 in
theorem schema_span_ok {lo_ : Int} {hi_ : Int} {least_ : Int} {most_ : Int} {r : Bool} (h : fschema_span lo_ hi_ least_ most_ = some r) : FnOk Tryd.prog 40 [ti lo_,ti hi_,ti least_,ti most_] [] (fun _ => []) (fun _ => tb r) := by
 unfold fschema_span at h
 refine FnOk.enter Tryd.func40 rfl Tryd.ntmps40 (leb rfl) (fun M0 M w0 a hpl hst => ?_)
 replace hst : St M w0 22 [(0,ti lo_),(1,ti hi_),(2,ti least_),(3,ti most_)] [] a w0 := hst
 refine sr mixed [] hst (fun _ => .o (op_assign .k) <| .n) fun n0 a w hst => ?_
 replace hst := hst.to [1,2,3,4] [_,_,_,_] [] rfl rfl
 refine sr mixed [] hst (fun _ => .q 0 rfl <| .q 3 rfl <| .o (op_geq z1 z0) <| .q 0 rfl <| .g rfl rfl (.b 0 rfl) (fun _ => op_move z4) <| .g rfl rfl (.b 1 rfl) (fun _ => op_move z6) <| .g rfl rfl (.b 2 rfl) (fun hc => op_leq (.cond z1 hc) (.cond z0 hc)) <| .o (op_and z3 (fun hp => (.cond z0 (beqT hp)))) <| .q 0 rfl <| .g rfl rfl (.b 0 rfl) (fun _ => op_move z10) <| .g rfl rfl (.b 1 rfl) (fun _ => op_move z13) <| .g rfl rfl (.b 2 rfl) (fun hc => op_leq (.cond z1 hc) (.cond z0 hc)) <| .o (op_and z3 (fun hp => (.cond z0 (beqT hp)))) <| .o (op_assign z0) <| .n) fun n1 a w hst => ?_
 replace hst := hst.to [13] [_] [] rfl rfl
 refine wp_ret ?_
 obtain rfl := sj h
 exact ret_st undef [] hpl hst rfl (.tmp z0 .nil) rfl rfl rfl

/- diorama/schema.all[diorama/api.Field]$1 -/
noncomputable def fschema_all_Fieldq1 (x_ : Sapi_Field) (c0_ : (Sapi_Field → Option Bool)) : Option (Bool) := (c0_ x_).bind fun t6 => (some (!t6))
set_option maxRecDepth 100000 in
set_option maxHeartbeats 4000000 in
theorem schema_all_Fieldq1_ok {x_ : Sapi_Field} {c0_ : (Sapi_Field → Option Bool)} {r : Bool} (h : fschema_all_Fieldq1 x_ c0_ = some r) : FnOk Tryd.prog 70 [rSapi_Field.ty x_,tptr (rF90.cs c0_)] [] (fun _ => []) (fun _ => tb r) := by
 unfold fschema_all_Fieldq1 at h
 refine FnOk.enter Tryd.func70 rfl Tryd.ntmps70 (leb rfl) (fun M0 M w0 a hpl hst => ?_)
 replace hst : St M w0 8 [(0,rSapi_Field.ty x_),(1,tptr (rF90.cs c0_))] [] a w0 := hst
 refine sr mixed [] hst (fun _ => .o (op_boxR (R := rSapi_Field) (u := x_) z0) <| .o (op_assign .k) <| .n) fun n0 a w hst => ?_
 replace hst := hst.to [0,3] [_,_] [] rfl rfl
 obtain ⟨t6,ht6,h⟩ := bind_some h
 refine sr mixed [] hst (fun _ => .o (op_load tok90 z1) <| .o (op_load tok36 z1) <| .o (op_callT (u := x_) z1 (.cons (.of z0) <| .nil) ht6) <| .o (op_not z0) <| .o (op_assign z0) <| .n) fun n1 a w hst => ?_
 replace hst := hst.to [4] [_] [] rfl rfl
 refine wp_ret ?_
 obtain rfl := sj h
 exact ret_st undef [] hpl hst rfl (.tmp z0 .nil) rfl rfl rfl

/- slices.IndexFunc[[]diorama/api.Field,diorama/api.Field] -/
noncomputable def fslices_IndexFunc_Field (s_ : (List Sapi_Field)) (f_ : (Sapi_Field → Option Bool)) : Option (Int) := (tailrec (fun (s4 : Int) => ((if (decide (s4 < (s_.length : Int))) = true then (idx s_ s4).bind fun t14 => (f_ t14).bind fun t16 => (if t16 = true then (some (.inr (.inr s4))) else (some (.inl (IntKind.i64.wrap (s4 + (1:Int)))))) else (some (.inr (.inl ())))) : Option ((Int) ⊕ ((Unit) ⊕ (Int))))) (0:Int)).bind fun (e5 : (Unit) ⊕ (Int)) => (match e5 with | .inl _ => (some (-1:Int)) | .inr p23 => (some p23))
set_option maxRecDepth 100000 in
set_option maxHeartbeats 4000000 in
theorem slices_IndexFunc_Field_ok {s_ : (List Sapi_Field)} {f_ : (Sapi_Field → Option Bool)} {r : Int} (h : fslices_IndexFunc_Field s_ f_ = some r) : FnOk Tryd.prog 56 [tsl rSapi_Field s_,rF90.ty f_] [] (fun _ => []) (fun _ => ti r) := by
 unfold fslices_IndexFunc_Field at h
 refine FnOk.enter Tryd.func56 rfl Tryd.ntmps56 (leb rfl) (fun M0 M w0 a hpl hst => ?_)
 replace hst : St M w0 19 [(0,tsl rSapi_Field s_),(1,rF90.ty f_)] [] a w0 := hst
 refine sr mixed [] hst (fun _ => .o (op_assign .k) <| .n) fun n0 a w hst => ?_
 replace hst := hst.to [1,2] [_,_] [] rfl rfl
 refine wp_seq_k (fun K2 hK2 => ?_)
 refine sr mixed [] hst (fun _ => .q 0 rfl <| .o (op_len ud30 z0) <| .o (op_move .k) <| .n) fun n1 a w hst => ?_
 replace hst := hst.to [1,2,3,4] [_,_,_,_] [] rfl rfl
 obtain ⟨e5,he5,h⟩ := bind_some h
 have hJp22 : ∀ (p22 : Unit) a w,(.inl p22) = e5 → St M w0 19 [] [] a w → K2 a w := by
  intro p22 a w he hst
  subst he
  simp only at h
  refine hK2 _ _ ?_
  try clear hK2 K2
  refine sr mixed [] hst (fun _ => .o (op_assign .k) <| .n) fun n7 a w hst => ?_
  replace hst := hst.to [0] [_] [] rfl rfl
  refine wp_ret ?_
  obtain rfl := sj h
  exact ret_st undef [] hpl hst rfl (.tmp z0 .nil) rfl rfl rfl
 have hJp23 : ∀ (p23 : Int) a w,(.inr p23) = e5 → St M w0 19 [(4,ti p23)] [] a w → Ret Tryd.prog Tryd.f56 M0 [] w0 (fun _ => []) (fun _ => ti r) .ret a w := by
  intro p23 a w he hst
  subst he
  simp only at h
  obtain rfl := sj h
  exact ret_st undef [] hpl hst rfl (.tmp z0 .nil) rfl rfl rfl
 refine wp_block ?_
 refine wp_loopK _ (fun (s4 : Int) a w => St M w0 19 [(7,ti (s_.length : Int)),(8,ti s4),(0,tsl rSapi_Field s_),(1,rF90.ty f_)] [] a w) _ _ he5 (hst.pick [0,1,2,3]) ?_
 clear h
 intro s4 o a w K25 hI h ho hK25
 have hst := hI
 clear hI
 refine sr mixed [] hst (fun _ => .o (op_lss z1 z0) <| .n) fun n2 a w hst => ?_
 replace hst := hst.to [0,1,2,3,4] [_,_,_,_,_] [] rfl rfl
 refine wp_seq_k (fun K27 hK27 => ?_)
 refine wt hst (fun b33 => ?_) (fun b33 => ?_)
 ·replace h := ite_t b33 h
  refine wp_skip ?_
  refine hK27 _ _ ?_
  try clear hK27 K27
  refine wp_seq_k (fun K28 hK28 => ?_)
  refine wp_block ?_
  refine sr mixed [] hst (fun _ => .q 2 rfl <| .o (op_assign z0) <| .n) fun n3 a w hst => ?_
  replace hst := hst.to [1,3,4,5,6] [_,_,_,_,_] [] rfl rfl
  obtain ⟨t14,ht14,h⟩ := bind_some h
  obtain ⟨t16,ht16,h⟩ := bind_some h
  refine sr mixed [] hst (fun _ => .q 4 rfl <| .q 4 rfl <| .q 2 rfl <| .o (op_index ud30 tok36 z1 z0 ht14) <| .o (op_load tok36 z0) <| .o (op_callT (u := t14) z4 (.cons (.of z0) <| .nil) ht16) <| .n) fun n4 a w hst => ?_
  replace hst := hst.to [5,6,7,8,9,10] [_,_,_,_,_,_] [] rfl rfl
  refine wt hst (fun b32 => ?_) (fun b32 => ?_)
  ·replace h := ite_t b32 h
   refine sr mixed [] hst (fun _ => .q 1 rfl <| .o (op_assign z0) <| .n) fun n5 a w hst => ?_
   replace hst := hst.to [1] [_] [] rfl rfl
   refine wp_ret ?_
   exact hJp23 _ _ _ (ho _ (sj h).symm) (hst.pick [0])
  ·replace h := ite_f b32 h
   refine wp_skip ?_
   refine hK28 _ _ ?_
   try clear hK28 K28
   refine wr mixed [] hst (fun _ => .o (op_add z3 .k) <| .q 0 rfl <| .n) fun n6 a w hst => ?_
   replace hst := hst.to [1,4,5,6] [_,_,_,_] [] rfl rfl
   exact hK25 _ _ _ (sj h).symm (hst.pick [1,0,2,3])
 ·replace h := ite_f b33 h
  refine wp_exit ?_
  exact hJp22 _ _ _ (ho _ (sj h).symm) (hst.pick [])

/- slices.ContainsFunc[[]diorama/api.Field,diorama/api.Field] -/
noncomputable def fslices_ContainsFunc_Field (s_ : (List Sapi_Field)) (f_ : (Sapi_Field → Option Bool)) : Option (Bool) := (fslices_IndexFunc_Field s_ f_).bind fun t7 => (some (decide (t7 ≥ (0:Int))))
set_option maxRecDepth 100000 in
set_option maxHeartbeats 4000000 in
theorem slices_ContainsFunc_Field_ok {s_ : (List Sapi_Field)} {f_ : (Sapi_Field → Option Bool)} {r : Bool} (h : fslices_ContainsFunc_Field s_ f_ = some r) : FnOk Tryd.prog 69 [tsl rSapi_Field s_,rF90.ty f_] [] (fun _ => []) (fun _ => tb r) := by
 unfold fslices_ContainsFunc_Field at h
 refine FnOk.enter Tryd.func69 rfl Tryd.ntmps69 (leb rfl) (fun M0 M w0 a hpl hst => ?_)
 replace hst : St M w0 9 [(0,tsl rSapi_Field s_),(1,rF90.ty f_)] [] a w0 := hst
 refine sr mixed [] hst (fun _ => .o (op_assign .k) <| .n) fun n0 a w hst => ?_
 replace hst := hst.to [1,2] [_,_] [] rfl rfl
 obtain ⟨t7,ht7,h⟩ := bind_some h
 refine sr mixed [] hst (fun _ => .q 0 rfl <| .q 2 rfl <| .o (op_callF call56 (slices_IndexFunc_Field_ok ht7) (.cons (.of z1) <| .cons (.of z0) <| .nil)) <| .o (op_geq z0 .k) <| .o (op_assign z0) <| .n) fun n1 a w hst => ?_
 replace hst := hst.to [4] [_] [] rfl rfl
 refine wp_ret ?_
 obtain rfl := sj h
 exact ret_st undef [] hpl hst rfl (.tmp z0 .nil) rfl rfl rfl

/- diorama/schema.all[diorama/api.Field] -/
noncomputable def fschema_all_Field (l_ : (List Sapi_Field)) (right_ : (Sapi_Field → Option Bool)) : Option (Bool) := (fslices_ContainsFunc_Field l_ (fun x0 => fschema_all_Fieldq1 x0 right_)).bind fun t7 => (some (!t7))
set_option maxRecDepth 100000 in
set_option maxHeartbeats 4000000 in
theorem schema_all_Field_ok {l_ : (List Sapi_Field)} {right_ : (Sapi_Field → Option Bool)} {r : Bool} (h : fschema_all_Field l_ right_ = some r) : FnOk Tryd.prog 41 [tsl rSapi_Field l_,rF90.ty right_] [] (fun _ => []) (fun _ => tb r) := by
 unfold fschema_all_Field at h
 refine FnOk.enter Tryd.func41 rfl Tryd.ntmps41 (leb rfl) (fun M0 M w0 a hpl hst => ?_)
 replace hst : St M w0 9 [(0,tsl rSapi_Field l_),(1,rF90.ty right_)] [] a w0 := hst
 refine sr mixed [] hst (fun _ => .o (op_boxR (R := rF90) (u := right_) z1) <| .o (op_assign .k) <| .n) fun n0 a w hst => ?_
 replace hst := hst.to [0,2] [_,_] [] rfl rfl
 obtain ⟨t7,ht7,h⟩ := bind_some h
 refine sr mixed [] hst (fun _ => .q 1 rfl <| .o (op_clo (.cons z1 <| .nil)) <| .o (op_callF call69 (slices_ContainsFunc_Field_ok ht7) (.cons (.of z1) <| .cons (.of (Fct.weak z0 (tfn_of call70 (fun _ _ hq => schema_all_Fieldq1_ok hq)))) <| .nil)) <| .o (op_not z0) <| .o (op_assign z0) <| .n) fun n1 a w hst => ?_
 replace hst := hst.to [4] [_] [] rfl rfl
 refine wp_ret ?_
 obtain rfl := sj h
 exact ret_st undef [] hpl hst rfl (.tmp z0 .nil) rfl rfl rfl

/- diorama/schema.only -/
noncomputable def fschema_only (f_ : Sapi_Field) : Option (Sapi_Field) := ((if ((f_).Kind == (0:Int)) = true then (some (Sapi_Field.mk (f_).Name ([] : Str) ([] : Str) (f_).Kind (f_).Lo (0:Int) ([] : (List Str)) ([] : (List Int)))) else ((if ((f_).Kind == (1:Int)) = true then (some ((f_).Kind == (1:Int))) else ((if ((f_).Kind == (4:Int)) = true then (some ((f_).Kind == (4:Int))) else (some ((f_).Kind == (5:Int))))).bind fun (p535 : Bool) => (some p535))).bind fun (p277 : Bool) => ((if p277 = true then (some (Sapi_Field.mk (f_).Name (f_).Of ([] : Str) (f_).Kind (f_).Lo (f_).Hi ([] : (List Str)) ([] : (List Int)))) else ((if ((f_).Kind == (2:Int)) = true then (some (Sapi_Field.mk (f_).Name ([] : Str) ([] : Str) (f_).Kind (f_).Lo (f_).Hi ([] : (List Str)) ([] : (List Int)))) else ((if ((f_).Kind == (3:Int)) = true then (some (Sapi_Field.mk (f_).Name ([] : Str) ([] : Str) (f_).Kind (0:Int) (0:Int) (f_).Words (f_).Weights)) else ((if ((f_).Kind == (6:Int)) = true then (some (Sapi_Field.mk (f_).Name (f_).Of ([] : Str) (f_).Kind (0:Int) (0:Int) ([] : (List Str)) ([] : (List Int)))) else ((if ((f_).Kind == (7:Int)) = true then (some (Sapi_Field.mk (f_).Name (f_).Of (f_).Up (f_).Kind (f_).Lo (f_).Hi ([] : (List Str)) ([] : (List Int)))) else ((if ((f_).Kind == (8:Int)) = true then (some (Sapi_Field.mk (f_).Name (f_).Of (f_).Up (f_).Kind (0:Int) (0:Int) ([] : (List Str)) ([] : (List Int)))) else (some (Sapi_Field.mk (f_).Name ([] : Str) ([] : Str) (f_).Kind (0:Int) (0:Int) ([] : (List Str)) ([] : (List Int)))))).bind fun (p526 : Sapi_Field) => (some p526))).bind fun (p519 : Sapi_Field) => (some p519))).bind fun (p504 : Sapi_Field) => (some p504))).bind fun (p473 : Sapi_Field) => (some p473))).bind fun (p410 : Sapi_Field) => (some p410))).bind fun (p283 : Sapi_Field) => (some p283))).bind fun (p8 : Sapi_Field) => (some p8)
set_option maxRecDepth 100000 in
set_option maxHeartbeats 4000000 in
theorem schema_only_ok {f_ : Sapi_Field} {r : Sapi_Field} (h : fschema_only f_ = some r) : FnOk Tryd.prog 72 [rSapi_Field.ty f_] [] (fun _ => []) (fun _ => rSapi_Field.ty r) := by
 unfold fschema_only at h
 refine FnOk.enter Tryd.func72 rfl Tryd.ntmps72 (leb rfl) (fun M0 M w0 a hpl hst => ?_)
 replace hst : St M w0 73 [(0,rSapi_Field.ty f_)] [] a w0 := hst
 refine sr mixed [v1 1 (fun v0 => box (rSapi_Field.cs zz0) v0)] hst (fun _ => .o (op_boxR (R := rSapi_Field) (u := f_) z0) <| .m [] [0] rfl rfl rfl (op_alloc (R := rSapi_Field) (a := zz0) tok36 zok36) <| .n) fun n0 a w hst => ?_
 replace hst := hst.to [0,1] [_,_] [_] rfl rfl
 refine sr mixed [v1 5 (fun v0 => box (rSapi_Field.cs zz0) v0),v1 5 (fun v0 => box (rSapi_Field.cs (Sapi_Field.mk (f_).Name ([] : Str) ([] : Str) (f_).Kind (0:Int) (0:Int) ([] : (List Str)) ([] : (List Int)))) v0)] hst (fun _ => .o (op_field fld36_0 z0) <| .o (op_loadT (R := rS) (u := (f_).Name) tok9 z0 rfl) <| .o (op_field fld36_3 z2) <| .o (op_loadT (R := rI) (u := (f_).Kind) tok3 z0 rfl) <| .p (T := rSapi_Field.ty (Sapi_Field.mk (f_).Name ([] : Str) ([] : Str) (f_).Kind (0:Int) (0:Int) ([] : (List Str)) ([] : (List Int)))) rfl (op_build ud36 pl36 zv36 zc36 (.cons (R := rS) (u := (f_).Name) rfl z2 (leb rfl) <| .cons (R := rI) (u := (f_).Kind) rfl z0 (leb rfl) <| .nil _)) <| .m [] [1] rfl rfl rfl (op_alloc (R := rSapi_Field) (a := zz0) tok36 zok36) <| .e [] [1] [2] rfl rfl rfl rfl (op_storeB (R := rSapi_Field) (a := (Sapi_Field.mk (f_).Name ([] : Str) ([] : Str) (f_).Kind (0:Int) (0:Int) ([] : (List Str)) ([] : (List Int)))) tok36 z0 z1 (leb rfl)) <| .n) fun n1 a w hst => ?_
 replace hst := hst.to [5,6,7] [_,_,_] [_,_] rfl rfl
 refine wp_seq_k (fun K5 hK5 => ?_)
 refine sr mixed [] hst (fun _ => .o (op_field fld36_3 z1) <| .o (op_loadT (R := rI) (u := (f_).Kind) tok3 z0 rfl) <| .n) fun n2 a w hst => ?_
 replace hst := hst.to [1,2,3,4] [_,_,_,_] [_,_] rfl rfl
 refine wp_block ?_
 refine sr mixed [] hst (fun _ => .o (op_eql z0 .k) <| .o (op_assign z0) <| .n) fun n3 a w hst => ?_
 replace hst := hst.to [1,2,3,4,5] [_,_,_,_,_] [_,_] rfl rfl
 obtain ⟨p8,hp8,h⟩ := bind_some h
 have hJp8 : ∀ a w,St M w0 73 [(3,tv (n1 5)),(2,tv (n0 1))] [box (rSapi_Field.cs zz0) (n0 1),box (rSapi_Field.cs p8) (n1 5)] a w → K5 a w := by
  intro a w hst
  refine hK5 _ _ ?_
  try clear hK5 K5
  refine sr mixed [v0 (box (rSapi_Field.cs p8) (n0 1))] hst (fun _ => .u [1] rfl rfl (op_loadB (R := rSapi_Field) (u := p8) tok36 z0 rfl) <| .e [] [0] [2] rfl rfl rfl rfl (op_storeB (R := rSapi_Field) (a := p8) tok36 z2 z0 (leb rfl)) <| .n) fun n19 a w hst => ?_
  replace hst : St _ _ _ [_] [_] _ _ := (hst.pick [2]).selA [1] rfl
  refine wp_ret ?_
  obtain rfl := sj h
  exact ret_st undef [] hpl hst rfl (.cell (R := rSapi_Field) (u := p8) tok36 z0 0 rfl rfl .nil) rfl rfl rfl
 replace h := hp8
 clear hp8
 refine wt hst (fun b539 => ?_) (fun b539 => ?_)
 ·replace h := ite_t b539 h
  refine wr mixed [v0 (box (rSapi_Field.cs (Sapi_Field.mk (f_).Name ([] : Str) ([] : Str) (f_).Kind (f_).Lo (0:Int) ([] : (List Str)) ([] : (List Int)))) (n1 5))] hst (fun _ => .o (op_field fld36_4 z3) <| .o (op_loadT (R := rI) (u := (f_).Lo) tok3 z0 rfl) <| .u [1] rfl rfl (op_fieldB fld36_4 z4) <| .e [] [1] [2] rfl rfl rfl rfl (op_storeBf (R := rI) (a := (f_).Lo) (Ts := (rSapi_Field.cs (Sapi_Field.mk (f_).Name ([] : Str) ([] : Str) (f_).Kind (0:Int) (0:Int) ([] : (List Str)) ([] : (List Int))))) (off := 4) tok3 z0 z1 (leb rfl)) <| .n) fun n4 a w hst => ?_
  replace hst := hst.to [5,7] [_,_] [_,_] rfl rfl
  obtain rfl := sj h
  exact hJp8 _ _ (hst.pick [0,1])
 ·replace h := ite_f b539 h
  refine wp_seq_k (fun K275 hK275 => ?_)
  refine sr mixed [] hst (fun _ => .o (op_eql z1 .k) <| .o (op_assign z0) <| .n) fun n5 a w hst => ?_
  replace hst := hst.to [1,3,4,5,6] [_,_,_,_,_] [_,_] rfl rfl
  obtain ⟨p277,hp277,h⟩ := bind_some h
  have hJp277 : ∀ a w,St M w0 73 [(16,tb p277),(10,ti (f_).Kind),(3,tv (n1 5)),(1,tptr (rSapi_Field.cs f_)),(2,tv (n0 1))] [box (rSapi_Field.cs zz0) (n0 1),box (rSapi_Field.cs (Sapi_Field.mk (f_).Name ([] : Str) ([] : Str) (f_).Kind (0:Int) (0:Int) ([] : (List Str)) ([] : (List Int)))) (n1 5)] a w → K275 a w := by
   intro a w hst
   refine hK275 _ _ ?_
   try clear hK275 K275
   obtain ⟨p283,hp283,h⟩ := bind_some h
   have hJp283 : ∀ a w,St M w0 73 [(3,tv (n1 5)),(2,tv (n0 1))] [box (rSapi_Field.cs zz0) (n0 1),box (rSapi_Field.cs p283) (n1 5)] a w → K5 a w := by
    intro a w hst
    obtain rfl := sj h
    exact hJp8 _ _ (hst.pick [0,1])
   replace h := hp283
   clear hp283
   refine wt hst (fun b533 => ?_) (fun b533 => ?_)
   ·replace h := ite_t b533 h
    refine wr mixed [v0 (box (rSapi_Field.cs (Sapi_Field.mk (f_).Name (f_).Of ([] : Str) (f_).Kind (0:Int) (0:Int) ([] : (List Str)) ([] : (List Int)))) (n1 5)),v0 (box (rSapi_Field.cs (Sapi_Field.mk (f_).Name (f_).Of ([] : Str) (f_).Kind (f_).Lo (0:Int) ([] : (List Str)) ([] : (List Int)))) (n1 5)),v0 (box (rSapi_Field.cs (Sapi_Field.mk (f_).Name (f_).Of ([] : Str) (f_).Kind (f_).Lo (f_).Hi ([] : (List Str)) ([] : (List Int)))) (n1 5))] hst (fun _ => .o (op_field fld36_1 z3) <| .o (op_loadT (R := rS) (u := (f_).Of) tok9 z0 rfl) <| .o (op_field fld36_4 z5) <| .o (op_loadT (R := rI) (u := (f_).Lo) tok3 z0 rfl) <| .o (op_field fld36_5 z7) <| .o (op_loadT (R := rI) (u := (f_).Hi) tok3 z0 rfl) <| .u [1] rfl rfl (op_fieldB fld36_1 z8) <| .e [] [1] [2] rfl rfl rfl rfl (op_storeBf (R := rS) (a := (f_).Of) (Ts := (rSapi_Field.cs (Sapi_Field.mk (f_).Name ([] : Str) ([] : Str) (f_).Kind (0:Int) (0:Int) ([] : (List Str)) ([] : (List Int))))) (off := 1) tok9 z0 z5 (leb rfl)) <| .u [2] rfl rfl (op_fieldB fld36_4 z9) <| .e [] [2] [3] rfl rfl rfl rfl (op_storeBf (R := rI) (a := (f_).Lo) (Ts := (rSapi_Field.cs (Sapi_Field.mk (f_).Name (f_).Of ([] : Str) (f_).Kind (0:Int) (0:Int) ([] : (List Str)) ([] : (List Int))))) (off := 4) tok3 z0 z4 (leb rfl)) <| .u [3] rfl rfl (op_fieldB fld36_5 z10) <| .e [] [3] [4] rfl rfl rfl rfl (op_storeBf (R := rI) (a := (f_).Hi) (Ts := (rSapi_Field.cs (Sapi_Field.mk (f_).Name (f_).Of ([] : Str) (f_).Kind (f_).Lo (0:Int) ([] : (List Str)) ([] : (List Int))))) (off := 5) tok3 z0 z3 (leb rfl)) <| .n) fun n8 a w hst => ?_
    replace hst := hst.to [11,13] [_,_] [_,_] rfl rfl
    obtain rfl := sj h
    exact hJp283 _ _ (hst.pick [0,1])
   ·replace h := ite_f b533 h
    refine sr mixed [] hst (fun _ => .o (op_eql z1 .k) <| .o (op_assign z0) <| .n) fun n9 a w hst => ?_
    replace hst := hst.to [1,3,4,5,6] [_,_,_,_,_] [_,_] rfl rfl
    obtain ⟨p410,hp410,h⟩ := bind_some h
    have hJp410 : ∀ a w,St M w0 73 [(3,tv (n1 5)),(2,tv (n0 1))] [box (rSapi_Field.cs zz0) (n0 1),box (rSapi_Field.cs p410) (n1 5)] a w → K5 a w := by
     intro a w hst
     obtain rfl := sj h
     exact hJp283 _ _ (hst.pick [0,1])
    replace h := hp410
    clear hp410
    refine wt hst (fun b532 => ?_) (fun b532 => ?_)
    ·replace h := ite_t b532 h
     refine wr mixed [v0 (box (rSapi_Field.cs (Sapi_Field.mk (f_).Name ([] : Str) ([] : Str) (f_).Kind (f_).Lo (0:Int) ([] : (List Str)) ([] : (List Int)))) (n1 5)),v0 (box (rSapi_Field.cs (Sapi_Field.mk (f_).Name ([] : Str) ([] : Str) (f_).Kind (f_).Lo (f_).Hi ([] : (List Str)) ([] : (List Int)))) (n1 5))] hst (fun _ => .o (op_field fld36_4 z3) <| .o (op_loadT (R := rI) (u := (f_).Lo) tok3 z0 rfl) <| .o (op_field fld36_5 z5) <| .o (op_loadT (R := rI) (u := (f_).Hi) tok3 z0 rfl) <| .u [1] rfl rfl (op_fieldB fld36_4 z6) <| .e [] [1] [2] rfl rfl rfl rfl (op_storeBf (R := rI) (a := (f_).Lo) (Ts := (rSapi_Field.cs (Sapi_Field.mk (f_).Name ([] : Str) ([] : Str) (f_).Kind (0:Int) (0:Int) ([] : (List Str)) ([] : (List Int))))) (off := 4) tok3 z0 z3 (leb rfl)) <| .u [2] rfl rfl (op_fieldB fld36_5 z7) <| .e [] [2] [3] rfl rfl rfl rfl (op_storeBf (R := rI) (a := (f_).Hi) (Ts := (rSapi_Field.cs (Sapi_Field.mk (f_).Name ([] : Str) ([] : Str) (f_).Kind (f_).Lo (0:Int) ([] : (List Str)) ([] : (List Int))))) (off := 5) tok3 z0 z2 (leb rfl)) <| .n) fun n10 a w hst => ?_
     replace hst := hst.to [8,10] [_,_] [_,_] rfl rfl
     obtain rfl := sj h
     exact hJp410 _ _ (hst.pick [0,1])
    ·replace h := ite_f b532 h
     refine sr mixed [] hst (fun _ => .o (op_eql z1 .k) <| .o (op_assign z0) <| .n) fun n11 a w hst => ?_
     replace hst := hst.to [1,3,4,5,6] [_,_,_,_,_] [_,_] rfl rfl
     obtain ⟨p473,hp473,h⟩ := bind_some h
     have hJp473 : ∀ a w,St M w0 73 [(3,tv (n1 5)),(2,tv (n0 1))] [box (rSapi_Field.cs zz0) (n0 1),box (rSapi_Field.cs p473) (n1 5)] a w → K5 a w := by
      intro a w hst
      obtain rfl := sj h
      exact hJp410 _ _ (hst.pick [0,1])
     replace h := hp473
     clear hp473
     refine wt hst (fun b531 => ?_) (fun b531 => ?_)
     ·replace h := ite_t b531 h
      refine wr mixed [v0 (box (rSapi_Field.cs (Sapi_Field.mk (f_).Name ([] : Str) ([] : Str) (f_).Kind (0:Int) (0:Int) (f_).Words ([] : (List Int)))) (n1 5)),v0 (box (rSapi_Field.cs (Sapi_Field.mk (f_).Name ([] : Str) ([] : Str) (f_).Kind (0:Int) (0:Int) (f_).Words (f_).Weights)) (n1 5))] hst (fun _ => .o (op_field fld36_6 z3) <| .o (op_loadT (R := (rSl rS)) (u := (f_).Words) tok34 z0 rfl) <| .o (op_field fld36_7 z5) <| .o (op_loadT (R := (rSl rI)) (u := (f_).Weights) tok22 z0 rfl) <| .u [1] rfl rfl (op_fieldB fld36_6 z6) <| .e [] [1] [2] rfl rfl rfl rfl (op_storeBf (R := (rSl rS)) (a := (f_).Words) (Ts := (rSapi_Field.cs (Sapi_Field.mk (f_).Name ([] : Str) ([] : Str) (f_).Kind (0:Int) (0:Int) ([] : (List Str)) ([] : (List Int))))) (off := 6) tok34 z0 z3 (leb rfl)) <| .u [2] rfl rfl (op_fieldB fld36_7 z7) <| .e [] [2] [3] rfl rfl rfl rfl (op_storeBf (R := (rSl rI)) (a := (f_).Weights) (Ts := (rSapi_Field.cs (Sapi_Field.mk (f_).Name ([] : Str) ([] : Str) (f_).Kind (0:Int) (0:Int) (f_).Words ([] : (List Int))))) (off := 7) tok22 z0 z2 (leb rfl)) <| .n) fun n12 a w hst => ?_
      replace hst := hst.to [8,10] [_,_] [_,_] rfl rfl
      obtain rfl := sj h
      exact hJp473 _ _ (hst.pick [0,1])
     ·replace h := ite_f b531 h
      refine sr mixed [] hst (fun _ => .o (op_eql z1 .k) <| .o (op_assign z0) <| .n) fun n13 a w hst => ?_
      replace hst := hst.to [1,3,4,5,6] [_,_,_,_,_] [_,_] rfl rfl
      obtain ⟨p504,hp504,h⟩ := bind_some h
      have hJp504 : ∀ a w,St M w0 73 [(3,tv (n1 5)),(2,tv (n0 1))] [box (rSapi_Field.cs zz0) (n0 1),box (rSapi_Field.cs p504) (n1 5)] a w → K5 a w := by
       intro a w hst
       obtain rfl := sj h
       exact hJp473 _ _ (hst.pick [0,1])
      replace h := hp504
      clear hp504
      refine wt hst (fun b530 => ?_) (fun b530 => ?_)
      ·replace h := ite_t b530 h
       refine wr mixed [v0 (box (rSapi_Field.cs (Sapi_Field.mk (f_).Name (f_).Of ([] : Str) (f_).Kind (0:Int) (0:Int) ([] : (List Str)) ([] : (List Int)))) (n1 5))] hst (fun _ => .o (op_field fld36_1 z3) <| .o (op_loadT (R := rS) (u := (f_).Of) tok9 z0 rfl) <| .u [1] rfl rfl (op_fieldB fld36_1 z4) <| .e [] [1] [2] rfl rfl rfl rfl (op_storeBf (R := rS) (a := (f_).Of) (Ts := (rSapi_Field.cs (Sapi_Field.mk (f_).Name ([] : Str) ([] : Str) (f_).Kind (0:Int) (0:Int) ([] : (List Str)) ([] : (List Int))))) (off := 1) tok9 z0 z1 (leb rfl)) <| .n) fun n14 a w hst => ?_
       replace hst := hst.to [5,7] [_,_] [_,_] rfl rfl
       obtain rfl := sj h
       exact hJp504 _ _ (hst.pick [0,1])
      ·replace h := ite_f b530 h
       refine sr mixed [] hst (fun _ => .o (op_eql z1 .k) <| .o (op_assign z0) <| .n) fun n15 a w hst => ?_
       replace hst := hst.to [1,3,4,5,6] [_,_,_,_,_] [_,_] rfl rfl
       obtain ⟨p519,hp519,h⟩ := bind_some h
       have hJp519 : ∀ a w,St M w0 73 [(3,tv (n1 5)),(2,tv (n0 1))] [box (rSapi_Field.cs zz0) (n0 1),box (rSapi_Field.cs p519) (n1 5)] a w → K5 a w := by
        intro a w hst
        obtain rfl := sj h
        exact hJp504 _ _ (hst.pick [0,1])
       replace h := hp519
       clear hp519
       refine wt hst (fun b529 => ?_) (fun b529 => ?_)
       ·replace h := ite_t b529 h
        refine wr mixed [v0 (box (rSapi_Field.cs (Sapi_Field.mk (f_).Name (f_).Of ([] : Str) (f_).Kind (0:Int) (0:Int) ([] : (List Str)) ([] : (List Int)))) (n1 5)),v0 (box (rSapi_Field.cs (Sapi_Field.mk (f_).Name (f_).Of (f_).Up (f_).Kind (0:Int) (0:Int) ([] : (List Str)) ([] : (List Int)))) (n1 5)),v0 (box (rSapi_Field.cs (Sapi_Field.mk (f_).Name (f_).Of (f_).Up (f_).Kind (f_).Lo (0:Int) ([] : (List Str)) ([] : (List Int)))) (n1 5)),v0 (box (rSapi_Field.cs (Sapi_Field.mk (f_).Name (f_).Of (f_).Up (f_).Kind (f_).Lo (f_).Hi ([] : (List Str)) ([] : (List Int)))) (n1 5))] hst (fun _ => .o (op_field fld36_1 z3) <| .o (op_loadT (R := rS) (u := (f_).Of) tok9 z0 rfl) <| .o (op_field fld36_2 z5) <| .o (op_loadT (R := rS) (u := (f_).Up) tok9 z0 rfl) <| .o (op_field fld36_4 z7) <| .o (op_loadT (R := rI) (u := (f_).Lo) tok3 z0 rfl) <| .o (op_field fld36_5 z9) <| .o (op_loadT (R := rI) (u := (f_).Hi) tok3 z0 rfl) <| .u [1] rfl rfl (op_fieldB fld36_1 z10) <| .e [] [1] [2] rfl rfl rfl rfl (op_storeBf (R := rS) (a := (f_).Of) (Ts := (rSapi_Field.cs (Sapi_Field.mk (f_).Name ([] : Str) ([] : Str) (f_).Kind (0:Int) (0:Int) ([] : (List Str)) ([] : (List Int))))) (off := 1) tok9 z0 z7 (leb rfl)) <| .u [2] rfl rfl (op_fieldB fld36_2 z11) <| .e [] [2] [3] rfl rfl rfl rfl (op_storeBf (R := rS) (a := (f_).Up) (Ts := (rSapi_Field.cs (Sapi_Field.mk (f_).Name (f_).Of ([] : Str) (f_).Kind (0:Int) (0:Int) ([] : (List Str)) ([] : (List Int))))) (off := 2) tok9 z0 z6 (leb rfl)) <| .u [3] rfl rfl (op_fieldB fld36_4 z12) <| .e [] [3] [4] rfl rfl rfl rfl (op_storeBf (R := rI) (a := (f_).Lo) (Ts := (rSapi_Field.cs (Sapi_Field.mk (f_).Name (f_).Of (f_).Up (f_).Kind (0:Int) (0:Int) ([] : (List Str)) ([] : (List Int))))) (off := 4) tok3 z0 z5 (leb rfl)) <| .u [4] rfl rfl (op_fieldB fld36_5 z13) <| .e [] [4] [5] rfl rfl rfl rfl (op_storeBf (R := rI) (a := (f_).Hi) (Ts := (rSapi_Field.cs (Sapi_Field.mk (f_).Name (f_).Of (f_).Up (f_).Kind (f_).Lo (0:Int) ([] : (List Str)) ([] : (List Int))))) (off := 5) tok3 z0 z4 (leb rfl)) <| .n) fun n16 a w hst => ?_
        replace hst := hst.to [14,16] [_,_] [_,_] rfl rfl
        obtain rfl := sj h
        exact hJp519 _ _ (hst.pick [0,1])
       ·replace h := ite_f b529 h
        refine sr mixed [] hst (fun _ => .o (op_eql z1 .k) <| .o (op_assign z0) <| .n) fun n17 a w hst => ?_
        replace hst := hst.to [1,4,5,6] [_,_,_,_] [_,_] rfl rfl
        obtain ⟨p526,hp526,h⟩ := bind_some h
        have hJp526 : ∀ a w,St M w0 73 [(3,tv (n1 5)),(2,tv (n0 1))] [box (rSapi_Field.cs zz0) (n0 1),box (rSapi_Field.cs p526) (n1 5)] a w → K5 a w := by
         intro a w hst
         obtain rfl := sj h
         exact hJp519 _ _ (hst.pick [0,1])
        replace h := hp526
        clear hp526
        refine wt hst (fun b528 => ?_) (fun b528 => ?_)
        ·replace h := ite_t b528 h
         refine wr mixed [v0 (box (rSapi_Field.cs (Sapi_Field.mk (f_).Name (f_).Of ([] : Str) (f_).Kind (0:Int) (0:Int) ([] : (List Str)) ([] : (List Int)))) (n1 5)),v0 (box (rSapi_Field.cs (Sapi_Field.mk (f_).Name (f_).Of (f_).Up (f_).Kind (0:Int) (0:Int) ([] : (List Str)) ([] : (List Int)))) (n1 5))] hst (fun _ => .o (op_field fld36_1 z2) <| .o (op_loadT (R := rS) (u := (f_).Of) tok9 z0 rfl) <| .o (op_field fld36_2 z4) <| .o (op_loadT (R := rS) (u := (f_).Up) tok9 z0 rfl) <| .u [1] rfl rfl (op_fieldB fld36_1 z5) <| .e [] [1] [2] rfl rfl rfl rfl (op_storeBf (R := rS) (a := (f_).Of) (Ts := (rSapi_Field.cs (Sapi_Field.mk (f_).Name ([] : Str) ([] : Str) (f_).Kind (0:Int) (0:Int) ([] : (List Str)) ([] : (List Int))))) (off := 1) tok9 z0 z3 (leb rfl)) <| .u [2] rfl rfl (op_fieldB fld36_2 z6) <| .e [] [2] [3] rfl rfl rfl rfl (op_storeBf (R := rS) (a := (f_).Up) (Ts := (rSapi_Field.cs (Sapi_Field.mk (f_).Name (f_).Of ([] : Str) (f_).Kind (0:Int) (0:Int) ([] : (List Str)) ([] : (List Int))))) (off := 2) tok9 z0 z2 (leb rfl)) <| .n) fun n18 a w hst => ?_
         replace hst := hst.to [7,9] [_,_] [_,_] rfl rfl
         obtain rfl := sj h
         exact hJp526 _ _ (hst.pick [0,1])
        ·replace h := ite_f b528 h
         refine wp_skip ?_
         obtain rfl := sj h
         exact hJp526 _ _ (hst.pick [1,3])
  replace h := hp277
  clear hp277
  refine wt hst (fun b538 => ?_) (fun b538 => ?_)
  ·replace h := ite_t b538 h
   refine wp_skip ?_
   obtain rfl := sj h
   exact hJp277 _ _ (hst.pick [0,1,2,3,4])
  ·replace h := ite_f b538 h
   refine sr mixed [] hst (fun _ => .o (op_eql z1 .k) <| .o (op_assign z0) <| .n) fun n6 a w hst => ?_
   replace hst := hst.to [1,2,3,4,5] [_,_,_,_,_] [_,_] rfl rfl
   obtain ⟨p535,hp535,h⟩ := bind_some h
   have hJp535 : ∀ a w,St M w0 73 [(16,tb p535),(10,ti (f_).Kind),(3,tv (n1 5)),(1,tptr (rSapi_Field.cs f_)),(2,tv (n0 1))] [box (rSapi_Field.cs zz0) (n0 1),box (rSapi_Field.cs (Sapi_Field.mk (f_).Name ([] : Str) ([] : Str) (f_).Kind (0:Int) (0:Int) ([] : (List Str)) ([] : (List Int)))) (n1 5)] a w → K275 a w := by
    intro a w hst
    obtain rfl := sj h
    exact hJp277 _ _ (hst.pick [0,1,2,3,4])
   replace h := hp535
   clear hp535
   refine wt hst (fun b537 => ?_) (fun b537 => ?_)
   ·replace h := ite_t b537 h
    refine wp_skip ?_
    obtain rfl := sj h
    exact hJp535 _ _ (hst.pick [0,1,2,3,4])
   ·replace h := ite_f b537 h
    refine wr mixed [] hst (fun _ => .o (op_eql z1 .k) <| .o (op_assign z0) <| .n) fun n7 a w hst => ?_
    replace hst := hst.to [1,2,3,4,5] [_,_,_,_,_] [_,_] rfl rfl
    obtain rfl := sj h
    exact hJp535 _ _ (hst.pick [0,1,2,3,4])

/- slices.Equal[[]string,string] -/
noncomputable def fslices_Equal_string (s1_ : (List Str)) (s2_ : (List Str)) : Option (Bool) := (if ((s1_.length : Int) != (s2_.length : Int)) = true then (some false) else (tailrec (fun (s7 : Int) => ((if (decide (s7 < (s1_.length : Int))) = true then (idx s1_ s7).bind fun t18 => (idx s2_ s7).bind fun t22 => (if (t18 != t22) = true then (some (.inr (.inr false))) else (some (.inl (IntKind.i64.wrap (s7 + (1:Int)))))) else (some (.inr (.inl ())))) : Option ((Int) ⊕ ((Unit) ⊕ (Bool))))) (0:Int)).bind fun (e8 : (Unit) ⊕ (Bool)) => (match e8 with | .inl _ => (some true) | .inr p26 => (some p26)))
set_option maxRecDepth 100000 in
set_option maxHeartbeats 4000000 in
theorem slices_Equal_string_ok {s1_ : (List Str)} {s2_ : (List Str)} {r : Bool} (h : fslices_Equal_string s1_ s2_ = some r) : FnOk Tryd.prog 85 [tsl rS s1_,tsl rS s2_] [] (fun _ => []) (fun _ => tb r) := by
 unfold fslices_Equal_string at h
 refine FnOk.enter Tryd.func85 rfl Tryd.ntmps85 (leb rfl) (fun M0 M w0 a hpl hst => ?_)
 replace hst : St M w0 26 [(0,tsl rS s1_),(1,tsl rS s2_)] [] a w0 := hst
 refine sr mixed [] hst (fun _ => .o (op_assign .k) <| .n) fun n0 a w hst => ?_
 replace hst := hst.to [1,2] [_,_] [] rfl rfl
 refine wp_seq_k (fun K2 hK2 => ?_)
 refine sr mixed [] hst (fun _ => .q 0 rfl <| .o (op_len ud34 z0) <| .q 3 rfl <| .o (op_len ud34 z0) <| .o (op_neq z2 z0) <| .n) fun n1 a w hst => ?_
 replace hst := hst.to [4,5,6] [_,_,_] [] rfl rfl
 refine wt hst (fun b37 => ?_) (fun b37 => ?_)
 ·replace h := ite_t b37 h
  refine sr mixed [] hst (fun _ => .o (op_assign .k) <| .n) fun n2 a w hst => ?_
  replace hst := hst.to [0] [_] [] rfl rfl
  refine wp_ret ?_
  obtain rfl := sj h
  exact ret_st undef [] hpl hst rfl (.tmp z0 .nil) rfl rfl rfl
 ·replace h := ite_f b37 h
  refine wp_skip ?_
  refine hK2 _ _ ?_
  try clear hK2 K2
  refine wp_seq_k (fun K5 hK5 => ?_)
  refine sr mixed [] hst (fun _ => .q 1 rfl <| .o (op_len ud34 z0) <| .o (op_move .k) <| .n) fun n3 a w hst => ?_
  replace hst := hst.to [1,2,4,5] [_,_,_,_] [] rfl rfl
  obtain ⟨e8,he8,h⟩ := bind_some h
  have hJp25 : ∀ (p25 : Unit) a w,(.inl p25) = e8 → St M w0 26 [] [] a w → K5 a w := by
   intro p25 a w he hst
   subst he
   simp only at h
   refine hK5 _ _ ?_
   try clear hK5 K5
   refine sr mixed [] hst (fun _ => .o (op_assign .k) <| .n) fun n9 a w hst => ?_
   replace hst := hst.to [0] [_] [] rfl rfl
   refine wp_ret ?_
   obtain rfl := sj h
   exact ret_st undef [] hpl hst rfl (.tmp z0 .nil) rfl rfl rfl
  have hJp26 : ∀ (p26 : Bool) a w,(.inr p26) = e8 → St M w0 26 [(4,tb p26)] [] a w → Ret Tryd.prog Tryd.f85 M0 [] w0 (fun _ => []) (fun _ => tb r) .ret a w := by
   intro p26 a w he hst
   subst he
   simp only at h
   obtain rfl := sj h
   exact ret_st undef [] hpl hst rfl (.tmp z0 .nil) rfl rfl rfl
  refine wp_block ?_
  refine wp_loopK _ (fun (s7 : Int) a w => St M w0 26 [(12,ti (s1_.length : Int)),(13,ti s7),(0,tsl rS s1_),(1,tsl rS s2_)] [] a w) _ _ he8 (hst.pick [0,1,2,3]) ?_
  clear h
  intro s7 o a w K28 hI h ho hK28
  have hst := hI
  clear hI
  refine sr mixed [] hst (fun _ => .o (op_lss z1 z0) <| .n) fun n4 a w hst => ?_
  replace hst := hst.to [0,1,2,3,4] [_,_,_,_,_] [] rfl rfl
  refine wp_seq_k (fun K30 hK30 => ?_)
  refine wt hst (fun b36 => ?_) (fun b36 => ?_)
  ·replace h := ite_t b36 h
   refine wp_skip ?_
   refine hK30 _ _ ?_
   try clear hK30 K30
   refine wp_seq_k (fun K31 hK31 => ?_)
   refine wp_block ?_
   refine sr mixed [] hst (fun _ => .q 2 rfl <| .o (op_assign z0) <| .n) fun n5 a w hst => ?_
   replace hst := hst.to [1,3,4,5,6] [_,_,_,_,_] [] rfl rfl
   obtain ⟨t18,ht18,h⟩ := bind_some h
   obtain ⟨t22,ht22,h⟩ := bind_some h
   refine sr mixed [] hst (fun _ => .q 3 rfl <| .q 1 rfl <| .o (op_index ud34 tok9 z1 z0 ht18) <| .o (op_load tok9 z0) <| .q 8 rfl <| .q 5 rfl <| .o (op_index ud34 tok9 z1 z0 ht22) <| .o (op_load tok9 z0) <| .o (op_neqS z4 z0) <| .n) fun n6 a w hst => ?_
   replace hst := hst.to [8,10,11,12,13] [_,_,_,_,_] [] rfl rfl
   refine wt hst (fun b35 => ?_) (fun b35 => ?_)
   ·replace h := ite_t b35 h
    refine sr mixed [] hst (fun _ => .o (op_assign .k) <| .n) fun n7 a w hst => ?_
    replace hst := hst.to [0] [_] [] rfl rfl
    refine wp_ret ?_
    exact hJp26 _ _ _ (ho _ (sj h).symm) (hst.pick [0])
   ·replace h := ite_f b35 h
    refine wp_skip ?_
    refine hK31 _ _ ?_
    try clear hK31 K31
    refine wr mixed [] hst (fun _ => .o (op_add z2 .k) <| .q 0 rfl <| .n) fun n8 a w hst => ?_
    replace hst := hst.to [1,3,4,5] [_,_,_,_] [] rfl rfl
    exact hK28 _ _ _ (sj h).symm (hst.pick [1,0,2,3])
  ·replace h := ite_f b36 h
   refine wp_exit ?_
   exact hJp25 _ _ _ (ho _ (sj h).symm) (hst.pick [])

/- slices.Equal[[]int,int] -/
noncomputable def fslices_Equal_int (s1_ : (List Int)) (s2_ : (List Int)) : Option (Bool) := (if ((s1_.length : Int) != (s2_.length : Int)) = true then (some false) else (tailrec (fun (s7 : Int) => ((if (decide (s7 < (s1_.length : Int))) = true then (idx s1_ s7).bind fun t18 => (idx s2_ s7).bind fun t22 => (if (t18 != t22) = true then (some (.inr (.inr false))) else (some (.inl (IntKind.i64.wrap (s7 + (1:Int)))))) else (some (.inr (.inl ())))) : Option ((Int) ⊕ ((Unit) ⊕ (Bool))))) (0:Int)).bind fun (e8 : (Unit) ⊕ (Bool)) => (match e8 with | .inl _ => (some true) | .inr p26 => (some p26)))
set_option maxRecDepth 100000 in
set_option maxHeartbeats 4000000 in
theorem slices_Equal_int_ok {s1_ : (List Int)} {s2_ : (List Int)} {r : Bool} (h : fslices_Equal_int s1_ s2_ = some r) : FnOk Tryd.prog 86 [tsl rI s1_,tsl rI s2_] [] (fun _ => []) (fun _ => tb r) := by
 unfold fslices_Equal_int at h
 refine FnOk.enter Tryd.func86 rfl Tryd.ntmps86 (leb rfl) (fun M0 M w0 a hpl hst => ?_)
 replace hst : St M w0 26 [(0,tsl rI s1_),(1,tsl rI s2_)] [] a w0 := hst
 refine sr mixed [] hst (fun _ => .o (op_assign .k) <| .n) fun n0 a w hst => ?_
 replace hst := hst.to [1,2] [_,_] [] rfl rfl
 refine wp_seq_k (fun K2 hK2 => ?_)
 refine sr mixed [] hst (fun _ => .q 0 rfl <| .o (op_len ud22 z0) <| .q 3 rfl <| .o (op_len ud22 z0) <| .o (op_neq z2 z0) <| .n) fun n1 a w hst => ?_
 replace hst := hst.to [4,5,6] [_,_,_] [] rfl rfl
 refine wt hst (fun b37 => ?_) (fun b37 => ?_)
 ·replace h := ite_t b37 h
  refine sr mixed [] hst (fun _ => .o (op_assign .k) <| .n) fun n2 a w hst => ?_
  replace hst := hst.to [0] [_] [] rfl rfl
  refine wp_ret ?_
  obtain rfl := sj h
  exact ret_st undef [] hpl hst rfl (.tmp z0 .nil) rfl rfl rfl
 ·replace h := ite_f b37 h
  refine wp_skip ?_
  refine hK2 _ _ ?_
  try clear hK2 K2
  refine wp_seq_k (fun K5 hK5 => ?_)
  refine sr mixed [] hst (fun _ => .q 1 rfl <| .o (op_len ud22 z0) <| .o (op_move .k) <| .n) fun n3 a w hst => ?_
  replace hst := hst.to [1,2,4,5] [_,_,_,_] [] rfl rfl
  obtain ⟨e8,he8,h⟩ := bind_some h
  have hJp25 : ∀ (p25 : Unit) a w,(.inl p25) = e8 → St M w0 26 [] [] a w → K5 a w := by
   intro p25 a w he hst
   subst he
   simp only at h
   refine hK5 _ _ ?_
   try clear hK5 K5
   refine sr mixed [] hst (fun _ => .o (op_assign .k) <| .n) fun n9 a w hst => ?_
   replace hst := hst.to [0] [_] [] rfl rfl
   refine wp_ret ?_
   obtain rfl := sj h
   exact ret_st undef [] hpl hst rfl (.tmp z0 .nil) rfl rfl rfl
  have hJp26 : ∀ (p26 : Bool) a w,(.inr p26) = e8 → St M w0 26 [(4,tb p26)] [] a w → Ret Tryd.prog Tryd.f86 M0 [] w0 (fun _ => []) (fun _ => tb r) .ret a w := by
   intro p26 a w he hst
   subst he
   simp only at h
   obtain rfl := sj h
   exact ret_st undef [] hpl hst rfl (.tmp z0 .nil) rfl rfl rfl
  refine wp_block ?_
  refine wp_loopK _ (fun (s7 : Int) a w => St M w0 26 [(12,ti (s1_.length : Int)),(13,ti s7),(0,tsl rI s1_),(1,tsl rI s2_)] [] a w) _ _ he8 (hst.pick [0,1,2,3]) ?_
  clear h
  intro s7 o a w K28 hI h ho hK28
  have hst := hI
  clear hI
  refine sr mixed [] hst (fun _ => .o (op_lss z1 z0) <| .n) fun n4 a w hst => ?_
  replace hst := hst.to [0,1,2,3,4] [_,_,_,_,_] [] rfl rfl
  refine wp_seq_k (fun K30 hK30 => ?_)
  refine wt hst (fun b36 => ?_) (fun b36 => ?_)
  ·replace h := ite_t b36 h
   refine wp_skip ?_
   refine hK30 _ _ ?_
   try clear hK30 K30
   refine wp_seq_k (fun K31 hK31 => ?_)
   refine wp_block ?_
   refine sr mixed [] hst (fun _ => .q 2 rfl <| .o (op_assign z0) <| .n) fun n5 a w hst => ?_
   replace hst := hst.to [1,3,4,5,6] [_,_,_,_,_] [] rfl rfl
   obtain ⟨t18,ht18,h⟩ := bind_some h
   obtain ⟨t22,ht22,h⟩ := bind_some h
   refine sr mixed [] hst (fun _ => .q 3 rfl <| .q 1 rfl <| .o (op_index ud22 tok3 z1 z0 ht18) <| .o (op_load tok3 z0) <| .q 8 rfl <| .q 5 rfl <| .o (op_index ud22 tok3 z1 z0 ht22) <| .o (op_load tok3 z0) <| .o (op_neq z4 z0) <| .n) fun n6 a w hst => ?_
   replace hst := hst.to [8,10,11,12,13] [_,_,_,_,_] [] rfl rfl
   refine wt hst (fun b35 => ?_) (fun b35 => ?_)
   ·replace h := ite_t b35 h
    refine sr mixed [] hst (fun _ => .o (op_assign .k) <| .n) fun n7 a w hst => ?_
    replace hst := hst.to [0] [_] [] rfl rfl
    refine wp_ret ?_
    exact hJp26 _ _ _ (ho _ (sj h).symm) (hst.pick [0])
   ·replace h := ite_f b35 h
    refine wp_skip ?_
    refine hK31 _ _ ?_
    try clear hK31 K31
    refine wr mixed [] hst (fun _ => .o (op_add z2 .k) <| .q 0 rfl <| .n) fun n8 a w hst => ?_
    replace hst := hst.to [1,3,4,5] [_,_,_,_] [] rfl rfl
    exact hK28 _ _ _ (sj h).symm (hst.pick [1,0,2,3])
  ·replace h := ite_f b36 h
   refine wp_exit ?_
   exact hJp25 _ _ _ (ho _ (sj h).symm) (hst.pick [])

end Go.Proofs.YthdfmpocknmleaaDoor

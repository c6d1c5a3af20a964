/- Go functions as Lean functions, and the proofs that they compute them, written by a program. No condition. -/
import Derived.Test.YthdfmpocknmleaaGreatDoorGenB
namespace Go.Proofs.YthdfmpocknmleaaGreatDoor
open Go.Sim

/- diorama/dioramaref09.Spoilt -/
noncomputable def fref09_Spoilt (x_ : Sapi_Schema) (at_ : Int) (how_ : Int) (by_ : Int) : Option (Sapi_Schema) := (rm (([] : List Sapi_Kind).length + (x_).Kinds.length)).bind fun _ => (rm (([] : List Sapi_Life).length + (x_).Lives.length)).bind fun _ => (rm (([] : List Sapi_Rule).length + (x_).Rules.length)).bind fun _ => (fref01_Around at_ ((([] : List Sapi_Kind) ++ (x_).Kinds).length : Int)).bind fun t31 => (fref01_Around how_ (8:Int)).bind fun t33 => ((if (t33 == (0:Int)) = true then (fref01_Around by_ (4:Int)).bind fun t80 => (idx [(IntKind.i64.wrap ((x_).Version + (1:Int))),(-1:Int),(1048576:Int),(1048577:Int)] t80).bind fun t81 => (some ((([] : List Sapi_Kind) ++ (x_).Kinds),(([] : List Sapi_Life) ++ (x_).Lives),(([] : List Sapi_Rule) ++ (x_).Rules),t81)) else ((if (t33 == (1:Int)) = true then ((if (decide (t31 < ((([] : List Sapi_Kind) ++ (x_).Kinds).length : Int))) = true then (fref01_Around by_ (4:Int)).bind fun t96 => (idx [([112,101,114,115,111,110] : Str),([] : Str),([111,116,104,101,114] : Str),([97,32,98] : Str)] t96).bind fun t97 => (idx (([] : List Sapi_Kind) ++ (x_).Kinds) t31).bind fun t99 => (setAt (([] : List Sapi_Kind) ++ (x_).Kinds) t31 { t99 with Name := t97 }).bind fun t99s => (some t99s) else (some (([] : List Sapi_Kind) ++ (x_).Kinds)))).bind fun (p3169 : List Sapi_Kind) => (some ((([] : List Sapi_Life) ++ (x_).Lives),(([] : List Sapi_Rule) ++ (x_).Rules),p3169)) else ((if (t33 == (2:Int)) = true then ((if (decide (t31 < ((([] : List Sapi_Kind) ++ (x_).Kinds).length : Int))) = true then (fref01_Around by_ (4:Int)).bind fun t113 => (idx [(0:Int),(5:Int),(-1:Int),(65537:Int)] t113).bind fun t114 => (idx (([] : List Sapi_Kind) ++ (x_).Kinds) t31).bind fun t116 => (setAt (([] : List Sapi_Kind) ++ (x_).Kinds) t31 { t116 with Lo := t114 }).bind fun t116s => (some t116s) else (some (([] : List Sapi_Kind) ++ (x_).Kinds)))).bind fun (p3696 : List Sapi_Kind) => (some ((([] : List Sapi_Life) ++ (x_).Lives),(([] : List Sapi_Rule) ++ (x_).Rules),p3696)) else ((if (t33 == (3:Int)) = true then ((if (decide (t31 < ((([] : List Sapi_Kind) ++ (x_).Kinds).length : Int))) = true then (fref01_Around by_ (4:Int)).bind fun t130 => (idx [(0:Int),(5:Int),(65536:Int),(65537:Int)] t130).bind fun t131 => (idx (([] : List Sapi_Kind) ++ (x_).Kinds) t31).bind fun t133 => (setAt (([] : List Sapi_Kind) ++ (x_).Kinds) t31 { t133 with Hi := t131 }).bind fun t133s => (some t133s) else (some (([] : List Sapi_Kind) ++ (x_).Kinds)))).bind fun (p3959 : List Sapi_Kind) => (some ((([] : List Sapi_Life) ++ (x_).Lives),(([] : List Sapi_Rule) ++ (x_).Rules),p3959)) else ((if (t33 == (4:Int)) = true then ((if (decide (((([] : List Sapi_Life) ++ (x_).Lives).length : Int) > (0:Int))) = true then (idx (([] : List Sapi_Life) ++ (x_).Lives) (0:Int)).bind fun t146 => (rm (([] : List A2_Int).length + (t146).Moves.length)).bind fun _ => (fref01_Around by_ (6:Int)).bind fun t151 => (fref01_Around (IntKind.i64.wrap (Int.tdiv by_ (6:Int))) (6:Int)).bind fun t155 => (rm ((([] : List A2_Int) ++ (t146).Moves).length + [(A2_Int.mk (IntKind.i64.wrap (t151 - (1:Int))) (IntKind.i64.wrap (t155 - (1:Int))))].length)).bind fun _ => (idx (([] : List Sapi_Life) ++ (x_).Lives) (0:Int)).bind fun t160 => (setAt (([] : List Sapi_Life) ++ (x_).Lives) (0:Int) { t160 with Moves := ((([] : List A2_Int) ++ (t146).Moves) ++ [(A2_Int.mk (IntKind.i64.wrap (t151 - (1:Int))) (IntKind.i64.wrap (t155 - (1:Int))))]) }).bind fun t160s => (some t160s) else (some (([] : List Sapi_Life) ++ (x_).Lives)))).bind fun (p4090 : List Sapi_Life) => (some ((([] : List Sapi_Kind) ++ (x_).Kinds),(([] : List Sapi_Rule) ++ (x_).Rules),p4090)) else ((if (t33 == (5:Int)) = true then (fref01_Around by_ (4:Int)).bind fun t168 => (idx [([112,101,114,115,111,110] : Str),([111,114,100,101,114] : Str),([110,111,110,101] : Str),([] : Str)] t168).bind fun t169 => (fref01_Around (IntKind.i64.wrap (Int.tdiv by_ (4:Int))) (5:Int)).bind fun t174 => (idx [([115,105,122,101] : Str),([108,111,119] : Str),([] : Str),([105,100] : Str),([98,111,114,110] : Str)] t174).bind fun t175 => (fref01_Around (IntKind.i64.wrap (Int.tdiv by_ (20:Int))) (5:Int)).bind fun t180 => (idx [([104,105,103,104] : Str),([] : Str),([115,105,122,101] : Str),([108,101,102,116] : Str),([116,97,103] : Str)] t180).bind fun t181 => (fref01_Around by_ (50:Int)).bind fun t184 => (rm ((([] : List Sapi_Rule) ++ (x_).Rules).length + [(Sapi_Rule.mk ([102,117,114,116,104,101,114] : Str) t169 t175 t181 (IntKind.i64.wrap (t184 - (20:Int))))].length)).bind fun _ => (some ((([] : List Sapi_Kind) ++ (x_).Kinds),(([] : List Sapi_Life) ++ (x_).Lives),((([] : List Sapi_Rule) ++ (x_).Rules) ++ [(Sapi_Rule.mk ([102,117,114,116,104,101,114] : Str) t169 t175 t181 (IntKind.i64.wrap (t184 - (20:Int))))]))) else ((if (t33 == (6:Int)) = true then ((if (decide (((([] : List Sapi_Life) ++ (x_).Lives).length : Int) > (0:Int))) = true then (idx (([] : List Sapi_Life) ++ (x_).Lives) (0:Int)).bind fun t201 => (rm (([] : List Str).length + (t201).States.length)).bind fun _ => (fref01_Around by_ (3:Int)).bind fun t207 => (idx [([109,111,114,101] : Str),([110,101,119] : Str),([63] : Str)] t207).bind fun t208 => (rm ((([] : List Str) ++ (t201).States).length + [t208].length)).bind fun _ => (idx (([] : List Sapi_Life) ++ (x_).Lives) (0:Int)).bind fun t212 => (setAt (([] : List Sapi_Life) ++ (x_).Lives) (0:Int) { t212 with States := ((([] : List Str) ++ (t201).States) ++ [t208]) }).bind fun t212s => (some t212s) else (some (([] : List Sapi_Life) ++ (x_).Lives)))).bind fun (p4185 : List Sapi_Life) => (some ((([] : List Sapi_Kind) ++ (x_).Kinds),p4185)) else ((if (decide (t31 < ((([] : List Sapi_Kind) ++ (x_).Kinds).length : Int))) = true then (idx (([] : List Sapi_Kind) ++ (x_).Kinds) t31).bind fun t43 => (rm (([] : List Sapi_Field).length + (t43).Fields.length)).bind fun _ => (fref01_Around (IntKind.i64.wrap (Int.tdiv at_ (3:Int))) ((([] : List Sapi_Field) ++ (t43).Fields).length : Int)).bind fun t51 => ((if (decide (t51 < ((([] : List Sapi_Field) ++ (t43).Fields).length : Int))) = true then (idx (([] : List Sapi_Field) ++ (t43).Fields) t51).bind fun t60 => (fref09_spoiltField t60 (IntKind.i64.wrap (Int.tdiv how_ (8:Int))) by_).bind fun t65 => (setAt (([] : List Sapi_Field) ++ (t43).Fields) t51 t65).bind fun t66s => (some t66s) else (some (([] : List Sapi_Field) ++ (t43).Fields)))).bind fun (p4206 : List Sapi_Field) => (idx (([] : List Sapi_Kind) ++ (x_).Kinds) t31).bind fun t71 => (setAt (([] : List Sapi_Kind) ++ (x_).Kinds) t31 { t71 with Fields := p4206 }).bind fun t71s => (some t71s) else (some (([] : List Sapi_Kind) ++ (x_).Kinds)))).bind fun (p4191 : List Sapi_Kind) => (some (p4191,(([] : List Sapi_Life) ++ (x_).Lives))))).bind fun (p4156 : List Sapi_Kind × List Sapi_Life) => (some (p4156.1,p4156.2,(([] : List Sapi_Rule) ++ (x_).Rules))))).bind fun (p4096 : List Sapi_Kind × List Sapi_Life × List Sapi_Rule) => (some (p4096.1,p4096.2.2,p4096.2.1)))).bind fun (p3963 : List Sapi_Kind × List Sapi_Rule × List Sapi_Life) => (some (p3963.2.2,p3963.2.1,p3963.1)))).bind fun (p3700 : List Sapi_Life × List Sapi_Rule × List Sapi_Kind) => (some (p3700.1,p3700.2.1,p3700.2.2)))).bind fun (p3173 : List Sapi_Life × List Sapi_Rule × List Sapi_Kind) => (some (p3173.1,p3173.2.1,p3173.2.2)))).bind fun (p2118 : List Sapi_Life × List Sapi_Rule × List Sapi_Kind) => (some (p2118.2.2,p2118.1,p2118.2.1,(x_).Version)))).bind fun (p14 : List Sapi_Kind × List Sapi_Life × List Sapi_Rule × Int) => (some (Sapi_Schema.mk p14.2.2.2 p14.1 p14.2.1 p14.2.2.1))
set_option maxRecDepth 100000 in
set_option maxHeartbeats 4000000 in
theorem ref09_Spoilt_ok {x_ : Sapi_Schema} {at_ : Int} {how_ : Int} {by_ : Int} {r : Sapi_Schema} (h : fref09_Spoilt x_ at_ how_ by_ = some r) : FnOk Tryz.prog 31 [rSapi_Schema.ty x_,ti at_,ti how_,ti by_] [] (fun _ => []) (fun _ => rSapi_Schema.ty r) := by
 unfold fref09_Spoilt at h
 refine FnOk.enter Tryz.func31 rfl Tryz.ntmps31 (leb rfl) (fun M0 M w0 a hpl hst => ?_)
 replace hst : St M w0 215 [(0,rSapi_Schema.ty x_),(1,ti at_),(2,ti how_),(3,ti by_)] [] a w0 := hst
 refine wp_seq_k (fun K1 hK1 => ?_)
 refine wp_reg mixed [v1 0 (fun v0 => box (rSapi_Schema.cs x_) v0),v1 1 (fun v0 => box (rSapi_Schema.cs (Sapi_Schema.mk (0:Int) ([] : (List Sapi_Kind)) ([] : (List Sapi_Life)) ([] : (List Sapi_Rule)))) v0)] hst (fun _ => .m [] [0] rfl rfl rfl (op_box (R := rSapi_Schema) (u := x_) (.t 0 rfl)) <| .m [] [1] rfl rfl rfl (op_alloc (R := rSapi_Schema) (a := (Sapi_Schema.mk (0:Int) ([] : (List Sapi_Kind)) ([] : (List Sapi_Life)) ([] : (List Sapi_Rule)))) tok34 zok34) <| .nil _ _) (by kernel_rfl) (fun n0 a w hst => ?_)
 replace hst : St M w0 215 [(4,tv (n0 0)),(8,tv (n0 1)),(1,ti at_),(2,ti how_),(3,ti by_)] [box (rSapi_Schema.cs x_) (n0 0),box (rSapi_Schema.cs (Sapi_Schema.mk (0:Int) ([] : (List Sapi_Kind)) ([] : (List Sapi_Life)) ([] : (List Sapi_Rule)))) (n0 1)] a w := (hst.pick [0,1,3,4,5])
 refine hK1 _ _ ?_
 try clear hK1 K1
 refine wp_seq_k (fun K4 hK4 => ?_)
 obtain ⟨u15,hu15,h⟩ := bind_some h
 refine wp_reg mixed [v1 0 (fun v0 => own rSapi_Kind 47 ([] : List Sapi_Kind) v0),v1 3 (fun v0 => own rSapi_Kind 47 (([] : List Sapi_Kind) ++ (x_).Kinds) v0),v1 3 (fun v0 => box ([ti (x_).Version,tvs v0,tsl rSapi_Life (x_).Lives,tsl rSapi_Rule (x_).Rules]) (n0 0))] hst (fun _ => .m [] [2] rfl rfl rfl (op_buildSlO (R := rSapi_Kind) (us := ([] : List Sapi_Kind)) Tryz.underlying30 tok47 (.nil _) rfl (leb rfl) (leb rfl)) <| .u [0] rfl rfl (op_fieldB fld34_1 (.t 1 rfl)) <| .u [0] rfl rfl (op_loadBf (R := (rSl rSapi_Kind)) (u := (x_).Kinds) tok30 (.t 0 rfl) rfl) <| .e [] [2] [3] rfl rfl rfl rfl (op_append (R := rSapi_Kind) Tryz.underlying30 tok47 (leb rfl) (.t 2 rfl) (.t 0 rfl) hu15) <| .u [0] rfl rfl (op_fieldB fld34_1 (.t 4 rfl)) <| .e [3] [0] [4] rfl rfl rfl rfl (op_storeBVf (R := rSapi_Kind) (e := 47) (Ts := (rSapi_Schema.cs x_)) (off := 1) tokV30 (.t 0 rfl) (.t 1 rfl) (leb rfl)) <| .nil _ _) (by kernel_rfl) (fun n1 a w hst => ?_)
 replace hst : St M w0 215 [(15,tv (n1 3)),(4,tv (n0 0)),(8,tv (n0 1)),(1,ti at_),(2,ti how_),(3,ti by_)] [box (rSapi_Schema.cs (Sapi_Schema.mk (0:Int) ([] : (List Sapi_Kind)) ([] : (List Sapi_Life)) ([] : (List Sapi_Rule)))) (n0 1),own rSapi_Kind 47 (([] : List Sapi_Kind) ++ (x_).Kinds) (n1 3),box ([ti (x_).Version,tvs (n1 3),tsl rSapi_Life (x_).Lives,tsl rSapi_Rule (x_).Rules]) (n0 0)] a w := (hst.pick [3,5,6,7,8,9])
 refine hK4 _ _ ?_
 try clear hK4 K4
 refine wp_seq_k (fun K6 hK6 => ?_)
 obtain ⟨u20,hu20,h⟩ := bind_some h
 refine wp_reg mixed [v1 0 (fun v0 => own rSapi_Life 67 ([] : List Sapi_Life) v0),v1 3 (fun v0 => own rSapi_Life 67 (([] : List Sapi_Life) ++ (x_).Lives) v0),v1 3 (fun v0 => box ([ti (x_).Version,tvs (n1 3),tvs v0,tsl rSapi_Rule (x_).Rules]) (n0 0))] hst (fun _ => .m [] [3] rfl rfl rfl (op_buildSlO (R := rSapi_Life) (us := ([] : List Sapi_Life)) Tryz.underlying31 tok67 (.nil _) rfl (leb rfl) (leb rfl)) <| .u [2] rfl rfl (op_fieldB fld34_2 (.t 2 rfl)) <| .u [2] rfl rfl (op_loadBf (R := (rSl rSapi_Life)) (u := (x_).Lives) tok31 (.t 0 rfl) rfl) <| .e [] [3] [4] rfl rfl rfl rfl (op_append (R := rSapi_Life) Tryz.underlying31 tok67 (leb rfl) (.t 2 rfl) (.t 0 rfl) hu20) <| .u [2] rfl rfl (op_fieldB fld34_2 (.t 5 rfl)) <| .e [4] [2] [5] rfl rfl rfl rfl (op_storeBVf (R := rSapi_Life) (e := 67) (Ts := ([ti (x_).Version,tvs (n1 3),tsl rSapi_Life (x_).Lives,tsl rSapi_Rule (x_).Rules])) (off := 2) tokV31 (.t 0 rfl) (.t 1 rfl) (leb rfl)) <| .nil _ _) (by kernel_rfl) (fun n2 a w hst => ?_)
 replace hst : St M w0 215 [(20,tv (n2 3)),(15,tv (n1 3)),(4,tv (n0 0)),(8,tv (n0 1)),(1,ti at_),(2,ti how_),(3,ti by_)] [box (rSapi_Schema.cs (Sapi_Schema.mk (0:Int) ([] : (List Sapi_Kind)) ([] : (List Sapi_Life)) ([] : (List Sapi_Rule)))) (n0 1),own rSapi_Kind 47 (([] : List Sapi_Kind) ++ (x_).Kinds) (n1 3),own rSapi_Life 67 (([] : List Sapi_Life) ++ (x_).Lives) (n2 3),box ([ti (x_).Version,tvs (n1 3),tvs (n2 3),tsl rSapi_Rule (x_).Rules]) (n0 0)] a w := (hst.pick [3,5,6,7,8,9,10])
 refine hK6 _ _ ?_
 try clear hK6 K6
 refine wp_seq_k (fun K8 hK8 => ?_)
 obtain ⟨u25,hu25,h⟩ := bind_some h
 refine wp_reg mixed [v1 0 (fun v0 => own rSapi_Rule 100 ([] : List Sapi_Rule) v0),v1 3 (fun v0 => own rSapi_Rule 100 (([] : List Sapi_Rule) ++ (x_).Rules) v0),v1 3 (fun v0 => box ([ti (x_).Version,tvs (n1 3),tvs (n2 3),tvs v0]) (n0 0))] hst (fun _ => .m [] [4] rfl rfl rfl (op_buildSlO (R := rSapi_Rule) (us := ([] : List Sapi_Rule)) Tryz.underlying32 tok100 (.nil _) rfl (leb rfl) (leb rfl)) <| .u [3] rfl rfl (op_fieldB fld34_3 (.t 3 rfl)) <| .u [3] rfl rfl (op_loadBf (R := (rSl rSapi_Rule)) (u := (x_).Rules) tok32 (.t 0 rfl) rfl) <| .e [] [4] [5] rfl rfl rfl rfl (op_append (R := rSapi_Rule) Tryz.underlying32 tok100 (leb rfl) (.t 2 rfl) (.t 0 rfl) hu25) <| .u [3] rfl rfl (op_fieldB fld34_3 (.t 6 rfl)) <| .e [5] [3] [6] rfl rfl rfl rfl (op_storeBVf (R := rSapi_Rule) (e := 100) (Ts := ([ti (x_).Version,tvs (n1 3),tvs (n2 3),tsl rSapi_Rule (x_).Rules])) (off := 3) tokV32 (.t 0 rfl) (.t 1 rfl) (leb rfl)) <| .nil _ _) (by kernel_rfl) (fun n3 a w hst => ?_)
 replace hst : St M w0 215 [(25,tv (n3 3)),(20,tv (n2 3)),(15,tv (n1 3)),(4,tv (n0 0)),(8,tv (n0 1)),(1,ti at_),(2,ti how_),(3,ti by_)] [box (rSapi_Schema.cs (Sapi_Schema.mk (0:Int) ([] : (List Sapi_Kind)) ([] : (List Sapi_Life)) ([] : (List Sapi_Rule)))) (n0 1),own rSapi_Kind 47 (([] : List Sapi_Kind) ++ (x_).Kinds) (n1 3),own rSapi_Life 67 (([] : List Sapi_Life) ++ (x_).Lives) (n2 3),own rSapi_Rule 100 (([] : List Sapi_Rule) ++ (x_).Rules) (n3 3),box ([ti (x_).Version,tvs (n1 3),tvs (n2 3),tvs (n3 3)]) (n0 0)] a w := (hst.pick [3,5,6,7,8,9,10,11])
 refine hK8 _ _ ?_
 try clear hK8 K8
 refine wp_seq_k (fun K10 hK10 => ?_)
 obtain ⟨t31,ht31,h⟩ := bind_some h
 refine wp_reg mixed [] hst (fun _ => .q 5 rfl <| .u [4] rfl rfl (op_fieldB fld34_1 (.t 4 rfl)) <| .u [4] rfl rfl (op_loadBVf (u := (n1 3)) tokV30 (.t 0 rfl) rfl) <| .u [1] rfl rfl (op_lenO Tryz.underlying30 (.t 0 rfl)) <| .p rfl (op_callF call56 (ref01_Around_ok ht31) (.cons (.of (.t 3 rfl)) <| .cons (.of (.t 0 rfl)) <| .nil)) <| .p rfl (op_assign (.t 0 rfl)) <| .nil _ _) (by kernel_rfl) (fun n4 a w hst => ?_)
 replace hst : St M w0 215 [(29,tv (n1 3)),(9,ti t31),(25,tv (n3 3)),(20,tv (n2 3)),(15,tv (n1 3)),(4,tv (n0 0)),(8,tv (n0 1)),(1,ti at_),(2,ti how_),(3,ti by_)] [box (rSapi_Schema.cs (Sapi_Schema.mk (0:Int) ([] : (List Sapi_Kind)) ([] : (List Sapi_Life)) ([] : (List Sapi_Rule)))) (n0 1),own rSapi_Kind 47 (([] : List Sapi_Kind) ++ (x_).Kinds) (n1 3),own rSapi_Life 67 (([] : List Sapi_Life) ++ (x_).Lives) (n2 3),own rSapi_Rule 100 (([] : List Sapi_Rule) ++ (x_).Rules) (n3 3),box ([ti (x_).Version,tvs (n1 3),tvs (n2 3),tvs (n3 3)]) (n0 0)] a w := (hst.pick [2,5,6,7,8,9,10,11,12,13])
 refine hK10 _ _ ?_
 try clear hK10 K10
 refine wp_seq_k (fun K11 hK11 => ?_)
 refine wp_seq_k (fun K12 hK12 => ?_)
 obtain ⟨t33,ht33,h⟩ := bind_some h
 refine wp_reg mixed [] hst (fun _ => .q 8 rfl <| .p rfl (op_callF call56 (ref01_Around_ok ht33) (.cons (.of (.t 0 rfl)) <| .cons (.of .k) <| .nil)) <| .nil _ _) (by kernel_rfl) (fun n5 a w hst => ?_)
 replace hst : St M w0 215 [(33,ti t33),(29,tv (n1 3)),(9,ti t31),(25,tv (n3 3)),(20,tv (n2 3)),(15,tv (n1 3)),(4,tv (n0 0)),(8,tv (n0 1)),(1,ti at_),(2,ti how_),(3,ti by_)] [box (rSapi_Schema.cs (Sapi_Schema.mk (0:Int) ([] : (List Sapi_Kind)) ([] : (List Sapi_Life)) ([] : (List Sapi_Rule)))) (n0 1),own rSapi_Kind 47 (([] : List Sapi_Kind) ++ (x_).Kinds) (n1 3),own rSapi_Life 67 (([] : List Sapi_Life) ++ (x_).Lives) (n2 3),own rSapi_Rule 100 (([] : List Sapi_Rule) ++ (x_).Rules) (n3 3),box ([ti (x_).Version,tvs (n1 3),tvs (n2 3),tvs (n3 3)]) (n0 0)] a w := (hst.pick [1,2,3,4,5,6,7,8,9,10,11])
 refine hK12 _ _ ?_
 try clear hK12 K12
 refine wp_block ?_
 refine wp_seq_k (fun K13 hK13 => ?_)
 refine wp_reg mixed [] hst (fun _ => .p rfl (op_eql (.t 0 rfl) .k) <| .p rfl (op_assign (.t 0 rfl)) <| .nil _ _) (by kernel_rfl) (fun n12 a w hst => ?_)
 replace hst : St M w0 215 [(73,tb (t33 == (0:Int))),(33,ti t33),(29,tv (n1 3)),(9,ti t31),(25,tv (n3 3)),(20,tv (n2 3)),(15,tv (n1 3)),(4,tv (n0 0)),(8,tv (n0 1)),(1,ti at_),(2,ti how_),(3,ti by_)] [box (rSapi_Schema.cs (Sapi_Schema.mk (0:Int) ([] : (List Sapi_Kind)) ([] : (List Sapi_Life)) ([] : (List Sapi_Rule)))) (n0 1),own rSapi_Kind 47 (([] : List Sapi_Kind) ++ (x_).Kinds) (n1 3),own rSapi_Life 67 (([] : List Sapi_Life) ++ (x_).Lives) (n2 3),own rSapi_Rule 100 (([] : List Sapi_Rule) ++ (x_).Rules) (n3 3),box ([ti (x_).Version,tvs (n1 3),tvs (n2 3),tvs (n3 3)]) (n0 0)] a w := (hst.pick [1,2,3,4,5,6,7,8,9,10,11,12])
 refine hK13 _ _ ?_
 try clear hK13 K13
 obtain ⟨p14,hp14,h⟩ := bind_some h
 have hJp14 : ∀ (v2115 : Value) a w,St M w0 215 [(4,tv (n0 0)),(8,tv (n0 1))] [box (rSapi_Schema.cs (Sapi_Schema.mk (0:Int) ([] : (List Sapi_Kind)) ([] : (List Sapi_Life)) ([] : (List Sapi_Rule)))) (n0 1),own rSapi_Kind 47 p14.1 (n1 3),own rSapi_Life 67 p14.2.1 (n2 3),own rSapi_Rule 100 p14.2.2.1 v2115,box ([ti p14.2.2.2,tvs (n1 3),tvs (n2 3),tvs v2115]) (n0 0)] a w → K11 a w := by
  intro v2115 a w hst
  refine hK11 _ _ ?_
  try clear hK11 K11
  refine wp_seq_k (fun K2116 hK2116 => ?_)
  replace hst : St M w0 215 [(4,tv (n0 0)),(8,tv (n0 1))] [box ([ti p14.2.2.2,tsl rSapi_Kind p14.1,tvs (n2 3),tvs v2115]) (n0 0),box (rSapi_Schema.cs (Sapi_Schema.mk (0:Int) ([] : (List Sapi_Kind)) ([] : (List Sapi_Life)) ([] : (List Sapi_Rule)))) (n0 1),own rSapi_Life 67 p14.2.1 (n2 3),own rSapi_Rule 100 p14.2.2.1 v2115] a w := ((hst.pick [0,1]).selA [1,4,0,2,3] rfl).shareC 1 rfl
  replace hst : St M w0 215 [(4,tv (n0 0)),(8,tv (n0 1))] [box ([ti p14.2.2.2,tsl rSapi_Kind p14.1,tsl rSapi_Life p14.2.1,tvs v2115]) (n0 0),box (rSapi_Schema.cs (Sapi_Schema.mk (0:Int) ([] : (List Sapi_Kind)) ([] : (List Sapi_Life)) ([] : (List Sapi_Rule)))) (n0 1),own rSapi_Rule 100 p14.2.2.1 v2115] a w := ((hst.pick [0,1]).selA [2,0,1,3] rfl).shareC 2 rfl
  replace hst : St M w0 215 [(4,tv (n0 0)),(8,tv (n0 1))] [box (rSapi_Schema.cs (Sapi_Schema.mk p14.2.2.2 p14.1 p14.2.1 p14.2.2.1)) (n0 0),box (rSapi_Schema.cs (Sapi_Schema.mk (0:Int) ([] : (List Sapi_Kind)) ([] : (List Sapi_Life)) ([] : (List Sapi_Rule)))) (n0 1)] a w := ((hst.pick [0,1]).selA [2,0,1] rfl).shareC 3 rfl
  refine wp_reg mixed [v0 (box (rSapi_Schema.cs (Sapi_Schema.mk p14.2.2.2 p14.1 p14.2.1 p14.2.2.1)) (n0 1))] hst (fun _ => .u [0] rfl rfl (op_loadB (R := rSapi_Schema) (u := (Sapi_Schema.mk p14.2.2.2 p14.1 p14.2.1 p14.2.2.1)) tok34 (.t 0 rfl) rfl) <| .e [] [1] [2] rfl rfl rfl rfl (op_storeB (R := rSapi_Schema) (a := (Sapi_Schema.mk p14.2.2.2 p14.1 p14.2.1 p14.2.2.1)) tok34 (.t 2 rfl) (.t 0 rfl) (leb rfl)) <| .nil _ _) (by kernel_rfl) (fun n31 a w hst => ?_)
  replace hst : St M w0 215 [(8,tv (n0 1))] [box (rSapi_Schema.cs (Sapi_Schema.mk p14.2.2.2 p14.1 p14.2.1 p14.2.2.1)) (n0 1)] a w := ((hst.pick [2]).selA [1] rfl)
  refine hK2116 _ _ ?_
  try clear hK2116 K2116
  refine wp_ret ?_
  obtain rfl := sj h
  exact ret_st undef [] hpl hst rfl (.cell (R := rSapi_Schema) (u := (Sapi_Schema.mk p14.2.2.2 p14.1 p14.2.1 p14.2.2.1)) tok34 (.t 0 rfl) 0 rfl rfl .nil) rfl rfl rfl
 replace h := hp14
 clear hp14
 refine wp_test 0 hst rfl (fun b4216 => ?_) (fun b4216 => ?_)
 ·replace h := ite_t b4216 h
  obtain ⟨t80,ht80,h⟩ := bind_some h
  obtain ⟨t81,ht81,h⟩ := bind_some h
  refine wp_reg mixed [v0 (box ([ti t81,tvs (n1 3),tvs (n2 3),tvs (n3 3)]) (n0 0))] hst (fun _ => .u [4] rfl rfl (op_fieldB fld34_0 (.t 7 rfl)) <| .u [4] rfl rfl (op_loadBf (R := rI) (u := (x_).Version) tok3 (.t 0 rfl) rfl) <| .p rfl (op_add (.t 0 rfl) .k) <| .p rfl (op_buildSl (R := rI) (us := [(IntKind.i64.wrap ((x_).Version + (1:Int))),(-1:Int),(1048576:Int),(1048577:Int)]) Tryz.underlying22 tok3 (.cons (.t 0 rfl) <| .cons .k <| .cons .k <| .cons .k <| .nil _) rfl (leb rfl)) <| .q 15 rfl <| .p rfl (op_callF call56 (ref01_Around_ok ht80) (.cons (.of (.t 0 rfl)) <| .cons (.of .k) <| .nil)) <| .p rfl (op_index Tryz.underlying22 tok3 (.t 2 rfl) (.t 0 rfl) ht81) <| .p rfl (op_load tok3 (.t 0 rfl)) <| .u [4] rfl rfl (op_fieldB fld34_0 (.t 15 rfl)) <| .e [] [4] [5] rfl rfl rfl rfl (op_storeBf (R := rI) (a := t81) (Ts := ([ti (x_).Version,tvs (n1 3),tvs (n2 3),tvs (n3 3)])) (off := 0) tok3 (.t 0 rfl) (.t 1 rfl) (leb rfl)) <| .nil _ _) (by kernel_rfl) (fun n13 a w hst => ?_)
  replace hst : St M w0 215 [(29,tv (n1 3)),(25,tv (n3 3)),(20,tv (n2 3)),(15,tv (n1 3)),(4,tv (n0 0)),(8,tv (n0 1))] [box (rSapi_Schema.cs (Sapi_Schema.mk (0:Int) ([] : (List Sapi_Kind)) ([] : (List Sapi_Life)) ([] : (List Sapi_Rule)))) (n0 1),own rSapi_Kind 47 (([] : List Sapi_Kind) ++ (x_).Kinds) (n1 3),own rSapi_Life 67 (([] : List Sapi_Life) ++ (x_).Lives) (n2 3),own rSapi_Rule 100 (([] : List Sapi_Rule) ++ (x_).Rules) (n3 3),box ([ti t81,tvs (n1 3),tvs (n2 3),tvs (n3 3)]) (n0 0)] a w := (hst.pick [11,13,14,15,16,17])
  obtain rfl := sj h
  exact hJp14 (n3 3) _ _ (hst.pick [4,5])
 ·replace h := ite_f b4216 h
  refine wp_seq_k (fun K2117 hK2117 => ?_)
  refine wp_reg mixed [] hst (fun _ => .p rfl (op_eql (.t 1 rfl) .k) <| .p rfl (op_assign (.t 0 rfl)) <| .nil _ _) (by kernel_rfl) (fun n14 a w hst => ?_)
  replace hst : St M w0 215 [(84,tb (t33 == (1:Int))),(33,ti t33),(29,tv (n1 3)),(9,ti t31),(25,tv (n3 3)),(20,tv (n2 3)),(15,tv (n1 3)),(4,tv (n0 0)),(8,tv (n0 1)),(1,ti at_),(2,ti how_),(3,ti by_)] [box (rSapi_Schema.cs (Sapi_Schema.mk (0:Int) ([] : (List Sapi_Kind)) ([] : (List Sapi_Life)) ([] : (List Sapi_Rule)))) (n0 1),own rSapi_Kind 47 (([] : List Sapi_Kind) ++ (x_).Kinds) (n1 3),own rSapi_Life 67 (([] : List Sapi_Life) ++ (x_).Lives) (n2 3),own rSapi_Rule 100 (([] : List Sapi_Rule) ++ (x_).Rules) (n3 3),box ([ti (x_).Version,tvs (n1 3),tvs (n2 3),tvs (n3 3)]) (n0 0)] a w := (hst.pick [1,3,4,5,6,7,8,9,10,11,12,13])
  refine hK2117 _ _ ?_
  try clear hK2117 K2117
  obtain ⟨p2118,hp2118,h⟩ := bind_some h
  have hJp2118 : ∀ (v3167 : Value) a w,St M w0 215 [(4,tv (n0 0)),(8,tv (n0 1))] [box (rSapi_Schema.cs (Sapi_Schema.mk (0:Int) ([] : (List Sapi_Kind)) ([] : (List Sapi_Life)) ([] : (List Sapi_Rule)))) (n0 1),own rSapi_Life 67 p2118.1 (n2 3),own rSapi_Rule 100 p2118.2.1 v3167,box ([ti (x_).Version,tvs (n1 3),tvs (n2 3),tvs v3167]) (n0 0),own rSapi_Kind 47 p2118.2.2 (n1 3)] a w → K11 a w := by
   intro v3167 a w hst
   obtain rfl := sj h
   exact hJp14 v3167 _ _ ((hst.pick [0,1]).selA [0,4,1,2,3] rfl)
  replace h := hp2118
  clear hp2118
  refine wp_test 0 hst rfl (fun b4215 => ?_) (fun b4215 => ?_)
  ·replace h := ite_t b4215 h
   refine wp_seq_k (fun K3168 hK3168 => ?_)
   refine wp_reg mixed [] hst (fun _ => .q 3 rfl <| .u [4] rfl rfl (op_fieldB fld34_1 (.t 8 rfl)) <| .u [4] rfl rfl (op_loadBVf (u := (n1 3)) tokV30 (.t 0 rfl) rfl) <| .u [1] rfl rfl (op_lenO Tryz.underlying30 (.t 0 rfl)) <| .p rfl (op_lss (.t 3 rfl) (.t 0 rfl)) <| .nil _ _) (by kernel_rfl) (fun n15 a w hst => ?_)
   replace hst : St M w0 215 [(88,tv (n1 3)),(90,tb (decide (t31 < ((([] : List Sapi_Kind) ++ (x_).Kinds).length : Int)))),(29,tv (n1 3)),(9,ti t31),(25,tv (n3 3)),(20,tv (n2 3)),(15,tv (n1 3)),(4,tv (n0 0)),(8,tv (n0 1)),(3,ti by_)] [box (rSapi_Schema.cs (Sapi_Schema.mk (0:Int) ([] : (List Sapi_Kind)) ([] : (List Sapi_Life)) ([] : (List Sapi_Rule)))) (n0 1),own rSapi_Kind 47 (([] : List Sapi_Kind) ++ (x_).Kinds) (n1 3),own rSapi_Life 67 (([] : List Sapi_Life) ++ (x_).Lives) (n2 3),own rSapi_Rule 100 (([] : List Sapi_Rule) ++ (x_).Rules) (n3 3),box ([ti (x_).Version,tvs (n1 3),tvs (n2 3),tvs (n3 3)]) (n0 0)] a w := (hst.pick [2,4,7,8,9,10,11,12,13,16])
   refine hK3168 _ _ ?_
   try clear hK3168 K3168
   obtain ⟨p3169,hp3169,h⟩ := bind_some h
   have hJp3169 : ∀ a w,St M w0 215 [(4,tv (n0 0)),(8,tv (n0 1))] [box (rSapi_Schema.cs (Sapi_Schema.mk (0:Int) ([] : (List Sapi_Kind)) ([] : (List Sapi_Life)) ([] : (List Sapi_Rule)))) (n0 1),own rSapi_Life 67 (([] : List Sapi_Life) ++ (x_).Lives) (n2 3),own rSapi_Rule 100 (([] : List Sapi_Rule) ++ (x_).Rules) (n3 3),box ([ti (x_).Version,tvs (n1 3),tvs (n2 3),tvs (n3 3)]) (n0 0),own rSapi_Kind 47 p3169 (n1 3)] a w → K11 a w := by
    intro a w hst
    obtain rfl := sj h
    exact hJp2118 (n3 3) _ _ (hst.pick [0,1])
   replace h := hp3169
   clear hp3169
   refine wp_test 1 hst rfl (fun b3171 => ?_) (fun b3171 => ?_)
   ·replace h := ite_t b3171 h
    obtain ⟨t96,ht96,h⟩ := bind_some h
    obtain ⟨t97,ht97,h⟩ := bind_some h
    obtain ⟨t99,ht99,h⟩ := bind_some h
    obtain ⟨t99s,ht99s,h⟩ := bind_some h
    refine wp_reg mixed [v0 (own rSapi_Kind 47 t99s (n1 3))] hst (fun _ => .u [4] rfl rfl (op_fieldB fld34_1 (.t 7 rfl)) <| .u [4] rfl rfl (op_loadBVf (u := (n1 3)) tokV30 (.t 0 rfl) rfl) <| .q 5 rfl <| .p rfl (op_buildSl (R := rS) (us := [([112,101,114,115,111,110] : Str),([] : Str),([111,116,104,101,114] : Str),([97,32,98] : Str)]) Tryz.underlying38 tok9 (.cons .k <| .cons .k <| .cons .k <| .cons .k <| .nil _) rfl (leb rfl)) <| .q 13 rfl <| .p rfl (op_callF call56 (ref01_Around_ok ht96) (.cons (.of (.t 0 rfl)) <| .cons (.of .k) <| .nil)) <| .p rfl (op_index Tryz.underlying38 tok9 (.t 2 rfl) (.t 0 rfl) ht97) <| .p rfl (op_load tok9 (.t 0 rfl)) <| .u [1] rfl rfl (op_indexOi Tryz.underlying30 tok47 (.t 6 rfl) (.t 5 rfl) ht99) <| .u [1] rfl rfl (op_fieldO fld47_0 (.t 0 rfl) (idx_ne ht99)) <| .e [] [1] [5] rfl rfl rfl rfl (op_storeOf (u := { t99 with Name := t97 }) tok9 (.t 0 rfl) (.t 2 rfl) ht99 ht99s (leb rfl) rfl) <| .nil _ _) (by kernel_rfl) (fun n16 a w hst => ?_)
    replace hst : St M w0 215 [(92,tv (n1 3)),(88,tv (n1 3)),(29,tv (n1 3)),(25,tv (n3 3)),(20,tv (n2 3)),(15,tv (n1 3)),(4,tv (n0 0)),(8,tv (n0 1))] [box (rSapi_Schema.cs (Sapi_Schema.mk (0:Int) ([] : (List Sapi_Kind)) ([] : (List Sapi_Life)) ([] : (List Sapi_Rule)))) (n0 1),own rSapi_Life 67 (([] : List Sapi_Life) ++ (x_).Lives) (n2 3),own rSapi_Rule 100 (([] : List Sapi_Rule) ++ (x_).Rules) (n3 3),box ([ti (x_).Version,tvs (n1 3),tvs (n2 3),tvs (n3 3)]) (n0 0),own rSapi_Kind 47 t99s (n1 3)] a w := (hst.pick [1,10,12,14,15,16,17,18])
    obtain rfl := sj h
    exact hJp3169 _ _ (hst.pick [6,7])
   ·replace h := ite_f b3171 h
    refine wp_skip ?_
    obtain rfl := sj h
    exact hJp3169 _ _ ((hst.pick [7,8]).selA [0,2,3,4,1] rfl)
  ·replace h := ite_f b4215 h
   refine wp_seq_k (fun K3172 hK3172 => ?_)
   refine wp_reg mixed [] hst (fun _ => .p rfl (op_eql (.t 1 rfl) .k) <| .p rfl (op_assign (.t 0 rfl)) <| .nil _ _) (by kernel_rfl) (fun n17 a w hst => ?_)
   replace hst : St M w0 215 [(101,tb (t33 == (2:Int))),(33,ti t33),(29,tv (n1 3)),(9,ti t31),(25,tv (n3 3)),(20,tv (n2 3)),(15,tv (n1 3)),(4,tv (n0 0)),(8,tv (n0 1)),(1,ti at_),(2,ti how_),(3,ti by_)] [box (rSapi_Schema.cs (Sapi_Schema.mk (0:Int) ([] : (List Sapi_Kind)) ([] : (List Sapi_Life)) ([] : (List Sapi_Rule)))) (n0 1),own rSapi_Kind 47 (([] : List Sapi_Kind) ++ (x_).Kinds) (n1 3),own rSapi_Life 67 (([] : List Sapi_Life) ++ (x_).Lives) (n2 3),own rSapi_Rule 100 (([] : List Sapi_Rule) ++ (x_).Rules) (n3 3),box ([ti (x_).Version,tvs (n1 3),tvs (n2 3),tvs (n3 3)]) (n0 0)] a w := (hst.pick [1,3,4,5,6,7,8,9,10,11,12,13])
   refine hK3172 _ _ ?_
   try clear hK3172 K3172
   obtain ⟨p3173,hp3173,h⟩ := bind_some h
   have hJp3173 : ∀ (v3694 : Value) a w,St M w0 215 [(4,tv (n0 0)),(8,tv (n0 1))] [box (rSapi_Schema.cs (Sapi_Schema.mk (0:Int) ([] : (List Sapi_Kind)) ([] : (List Sapi_Life)) ([] : (List Sapi_Rule)))) (n0 1),own rSapi_Life 67 p3173.1 (n2 3),own rSapi_Rule 100 p3173.2.1 v3694,box ([ti (x_).Version,tvs (n1 3),tvs (n2 3),tvs v3694]) (n0 0),own rSapi_Kind 47 p3173.2.2 (n1 3)] a w → K11 a w := by
    intro v3694 a w hst
    obtain rfl := sj h
    exact hJp2118 v3694 _ _ (hst.pick [0,1])
   replace h := hp3173
   clear hp3173
   refine wp_test 0 hst rfl (fun b4214 => ?_) (fun b4214 => ?_)
   ·replace h := ite_t b4214 h
    refine wp_seq_k (fun K3695 hK3695 => ?_)
    refine wp_reg mixed [] hst (fun _ => .q 3 rfl <| .u [4] rfl rfl (op_fieldB fld34_1 (.t 8 rfl)) <| .u [4] rfl rfl (op_loadBVf (u := (n1 3)) tokV30 (.t 0 rfl) rfl) <| .u [1] rfl rfl (op_lenO Tryz.underlying30 (.t 0 rfl)) <| .p rfl (op_lss (.t 3 rfl) (.t 0 rfl)) <| .nil _ _) (by kernel_rfl) (fun n18 a w hst => ?_)
    replace hst : St M w0 215 [(105,tv (n1 3)),(107,tb (decide (t31 < ((([] : List Sapi_Kind) ++ (x_).Kinds).length : Int)))),(29,tv (n1 3)),(9,ti t31),(25,tv (n3 3)),(20,tv (n2 3)),(15,tv (n1 3)),(4,tv (n0 0)),(8,tv (n0 1)),(3,ti by_)] [box (rSapi_Schema.cs (Sapi_Schema.mk (0:Int) ([] : (List Sapi_Kind)) ([] : (List Sapi_Life)) ([] : (List Sapi_Rule)))) (n0 1),own rSapi_Kind 47 (([] : List Sapi_Kind) ++ (x_).Kinds) (n1 3),own rSapi_Life 67 (([] : List Sapi_Life) ++ (x_).Lives) (n2 3),own rSapi_Rule 100 (([] : List Sapi_Rule) ++ (x_).Rules) (n3 3),box ([ti (x_).Version,tvs (n1 3),tvs (n2 3),tvs (n3 3)]) (n0 0)] a w := (hst.pick [2,4,7,8,9,10,11,12,13,16])
    refine hK3695 _ _ ?_
    try clear hK3695 K3695
    obtain ⟨p3696,hp3696,h⟩ := bind_some h
    have hJp3696 : ∀ a w,St M w0 215 [(4,tv (n0 0)),(8,tv (n0 1))] [box (rSapi_Schema.cs (Sapi_Schema.mk (0:Int) ([] : (List Sapi_Kind)) ([] : (List Sapi_Life)) ([] : (List Sapi_Rule)))) (n0 1),own rSapi_Life 67 (([] : List Sapi_Life) ++ (x_).Lives) (n2 3),own rSapi_Rule 100 (([] : List Sapi_Rule) ++ (x_).Rules) (n3 3),box ([ti (x_).Version,tvs (n1 3),tvs (n2 3),tvs (n3 3)]) (n0 0),own rSapi_Kind 47 p3696 (n1 3)] a w → K11 a w := by
     intro a w hst
     obtain rfl := sj h
     exact hJp3173 (n3 3) _ _ (hst.pick [0,1])
    replace h := hp3696
    clear hp3696
    refine wp_test 1 hst rfl (fun b3698 => ?_) (fun b3698 => ?_)
    ·replace h := ite_t b3698 h
     obtain ⟨t113,ht113,h⟩ := bind_some h
     obtain ⟨t114,ht114,h⟩ := bind_some h
     obtain ⟨t116,ht116,h⟩ := bind_some h
     obtain ⟨t116s,ht116s,h⟩ := bind_some h
     refine wp_reg mixed [v0 (own rSapi_Kind 47 t116s (n1 3))] hst (fun _ => .u [4] rfl rfl (op_fieldB fld34_1 (.t 7 rfl)) <| .u [4] rfl rfl (op_loadBVf (u := (n1 3)) tokV30 (.t 0 rfl) rfl) <| .q 5 rfl <| .p rfl (op_buildSl (R := rI) (us := [(0:Int),(5:Int),(-1:Int),(65537:Int)]) Tryz.underlying22 tok3 (.cons .k <| .cons .k <| .cons .k <| .cons .k <| .nil _) rfl (leb rfl)) <| .q 13 rfl <| .p rfl (op_callF call56 (ref01_Around_ok ht113) (.cons (.of (.t 0 rfl)) <| .cons (.of .k) <| .nil)) <| .p rfl (op_index Tryz.underlying22 tok3 (.t 2 rfl) (.t 0 rfl) ht114) <| .p rfl (op_load tok3 (.t 0 rfl)) <| .u [1] rfl rfl (op_indexOi Tryz.underlying30 tok47 (.t 6 rfl) (.t 5 rfl) ht116) <| .u [1] rfl rfl (op_fieldO fld47_1 (.t 0 rfl) (idx_ne ht116)) <| .e [] [1] [5] rfl rfl rfl rfl (op_storeOf (u := { t116 with Lo := t114 }) tok3 (.t 0 rfl) (.t 2 rfl) ht116 ht116s (leb rfl) rfl) <| .nil _ _) (by kernel_rfl) (fun n19 a w hst => ?_)
     replace hst : St M w0 215 [(109,tv (n1 3)),(105,tv (n1 3)),(29,tv (n1 3)),(25,tv (n3 3)),(20,tv (n2 3)),(15,tv (n1 3)),(4,tv (n0 0)),(8,tv (n0 1))] [box (rSapi_Schema.cs (Sapi_Schema.mk (0:Int) ([] : (List Sapi_Kind)) ([] : (List Sapi_Life)) ([] : (List Sapi_Rule)))) (n0 1),own rSapi_Life 67 (([] : List Sapi_Life) ++ (x_).Lives) (n2 3),own rSapi_Rule 100 (([] : List Sapi_Rule) ++ (x_).Rules) (n3 3),box ([ti (x_).Version,tvs (n1 3),tvs (n2 3),tvs (n3 3)]) (n0 0),own rSapi_Kind 47 t116s (n1 3)] a w := (hst.pick [1,10,12,14,15,16,17,18])
     obtain rfl := sj h
     exact hJp3696 _ _ (hst.pick [6,7])
    ·replace h := ite_f b3698 h
     refine wp_skip ?_
     obtain rfl := sj h
     exact hJp3696 _ _ ((hst.pick [7,8]).selA [0,2,3,4,1] rfl)
   ·replace h := ite_f b4214 h
    refine wp_seq_k (fun K3699 hK3699 => ?_)
    refine wp_reg mixed [] hst (fun _ => .p rfl (op_eql (.t 1 rfl) .k) <| .p rfl (op_assign (.t 0 rfl)) <| .nil _ _) (by kernel_rfl) (fun n20 a w hst => ?_)
    replace hst : St M w0 215 [(118,tb (t33 == (3:Int))),(33,ti t33),(29,tv (n1 3)),(9,ti t31),(25,tv (n3 3)),(20,tv (n2 3)),(15,tv (n1 3)),(4,tv (n0 0)),(8,tv (n0 1)),(1,ti at_),(2,ti how_),(3,ti by_)] [box (rSapi_Schema.cs (Sapi_Schema.mk (0:Int) ([] : (List Sapi_Kind)) ([] : (List Sapi_Life)) ([] : (List Sapi_Rule)))) (n0 1),own rSapi_Kind 47 (([] : List Sapi_Kind) ++ (x_).Kinds) (n1 3),own rSapi_Life 67 (([] : List Sapi_Life) ++ (x_).Lives) (n2 3),own rSapi_Rule 100 (([] : List Sapi_Rule) ++ (x_).Rules) (n3 3),box ([ti (x_).Version,tvs (n1 3),tvs (n2 3),tvs (n3 3)]) (n0 0)] a w := (hst.pick [1,3,4,5,6,7,8,9,10,11,12,13])
    refine hK3699 _ _ ?_
    try clear hK3699 K3699
    obtain ⟨p3700,hp3700,h⟩ := bind_some h
    have hJp3700 : ∀ (v3957 : Value) a w,St M w0 215 [(4,tv (n0 0)),(8,tv (n0 1))] [box (rSapi_Schema.cs (Sapi_Schema.mk (0:Int) ([] : (List Sapi_Kind)) ([] : (List Sapi_Life)) ([] : (List Sapi_Rule)))) (n0 1),own rSapi_Life 67 p3700.1 (n2 3),own rSapi_Rule 100 p3700.2.1 v3957,box ([ti (x_).Version,tvs (n1 3),tvs (n2 3),tvs v3957]) (n0 0),own rSapi_Kind 47 p3700.2.2 (n1 3)] a w → K11 a w := by
     intro v3957 a w hst
     obtain rfl := sj h
     exact hJp3173 v3957 _ _ (hst.pick [0,1])
    replace h := hp3700
    clear hp3700
    refine wp_test 0 hst rfl (fun b4213 => ?_) (fun b4213 => ?_)
    ·replace h := ite_t b4213 h
     refine wp_seq_k (fun K3958 hK3958 => ?_)
     refine wp_reg mixed [] hst (fun _ => .q 3 rfl <| .u [4] rfl rfl (op_fieldB fld34_1 (.t 8 rfl)) <| .u [4] rfl rfl (op_loadBVf (u := (n1 3)) tokV30 (.t 0 rfl) rfl) <| .u [1] rfl rfl (op_lenO Tryz.underlying30 (.t 0 rfl)) <| .p rfl (op_lss (.t 3 rfl) (.t 0 rfl)) <| .nil _ _) (by kernel_rfl) (fun n21 a w hst => ?_)
     replace hst : St M w0 215 [(122,tv (n1 3)),(124,tb (decide (t31 < ((([] : List Sapi_Kind) ++ (x_).Kinds).length : Int)))),(29,tv (n1 3)),(9,ti t31),(25,tv (n3 3)),(20,tv (n2 3)),(15,tv (n1 3)),(4,tv (n0 0)),(8,tv (n0 1)),(3,ti by_)] [box (rSapi_Schema.cs (Sapi_Schema.mk (0:Int) ([] : (List Sapi_Kind)) ([] : (List Sapi_Life)) ([] : (List Sapi_Rule)))) (n0 1),own rSapi_Kind 47 (([] : List Sapi_Kind) ++ (x_).Kinds) (n1 3),own rSapi_Life 67 (([] : List Sapi_Life) ++ (x_).Lives) (n2 3),own rSapi_Rule 100 (([] : List Sapi_Rule) ++ (x_).Rules) (n3 3),box ([ti (x_).Version,tvs (n1 3),tvs (n2 3),tvs (n3 3)]) (n0 0)] a w := (hst.pick [2,4,7,8,9,10,11,12,13,16])
     refine hK3958 _ _ ?_
     try clear hK3958 K3958
     obtain ⟨p3959,hp3959,h⟩ := bind_some h
     have hJp3959 : ∀ a w,St M w0 215 [(4,tv (n0 0)),(8,tv (n0 1))] [box (rSapi_Schema.cs (Sapi_Schema.mk (0:Int) ([] : (List Sapi_Kind)) ([] : (List Sapi_Life)) ([] : (List Sapi_Rule)))) (n0 1),own rSapi_Life 67 (([] : List Sapi_Life) ++ (x_).Lives) (n2 3),own rSapi_Rule 100 (([] : List Sapi_Rule) ++ (x_).Rules) (n3 3),box ([ti (x_).Version,tvs (n1 3),tvs (n2 3),tvs (n3 3)]) (n0 0),own rSapi_Kind 47 p3959 (n1 3)] a w → K11 a w := by
      intro a w hst
      obtain rfl := sj h
      exact hJp3700 (n3 3) _ _ (hst.pick [0,1])
     replace h := hp3959
     clear hp3959
     refine wp_test 1 hst rfl (fun b3961 => ?_) (fun b3961 => ?_)
     ·replace h := ite_t b3961 h
      obtain ⟨t130,ht130,h⟩ := bind_some h
      obtain ⟨t131,ht131,h⟩ := bind_some h
      obtain ⟨t133,ht133,h⟩ := bind_some h
      obtain ⟨t133s,ht133s,h⟩ := bind_some h
      refine wp_reg mixed [v0 (own rSapi_Kind 47 t133s (n1 3))] hst (fun _ => .u [4] rfl rfl (op_fieldB fld34_1 (.t 7 rfl)) <| .u [4] rfl rfl (op_loadBVf (u := (n1 3)) tokV30 (.t 0 rfl) rfl) <| .q 5 rfl <| .p rfl (op_buildSl (R := rI) (us := [(0:Int),(5:Int),(65536:Int),(65537:Int)]) Tryz.underlying22 tok3 (.cons .k <| .cons .k <| .cons .k <| .cons .k <| .nil _) rfl (leb rfl)) <| .q 13 rfl <| .p rfl (op_callF call56 (ref01_Around_ok ht130) (.cons (.of (.t 0 rfl)) <| .cons (.of .k) <| .nil)) <| .p rfl (op_index Tryz.underlying22 tok3 (.t 2 rfl) (.t 0 rfl) ht131) <| .p rfl (op_load tok3 (.t 0 rfl)) <| .u [1] rfl rfl (op_indexOi Tryz.underlying30 tok47 (.t 6 rfl) (.t 5 rfl) ht133) <| .u [1] rfl rfl (op_fieldO fld47_2 (.t 0 rfl) (idx_ne ht133)) <| .e [] [1] [5] rfl rfl rfl rfl (op_storeOf (u := { t133 with Hi := t131 }) tok3 (.t 0 rfl) (.t 2 rfl) ht133 ht133s (leb rfl) rfl) <| .nil _ _) (by kernel_rfl) (fun n22 a w hst => ?_)
      replace hst : St M w0 215 [(126,tv (n1 3)),(122,tv (n1 3)),(29,tv (n1 3)),(25,tv (n3 3)),(20,tv (n2 3)),(15,tv (n1 3)),(4,tv (n0 0)),(8,tv (n0 1))] [box (rSapi_Schema.cs (Sapi_Schema.mk (0:Int) ([] : (List Sapi_Kind)) ([] : (List Sapi_Life)) ([] : (List Sapi_Rule)))) (n0 1),own rSapi_Life 67 (([] : List Sapi_Life) ++ (x_).Lives) (n2 3),own rSapi_Rule 100 (([] : List Sapi_Rule) ++ (x_).Rules) (n3 3),box ([ti (x_).Version,tvs (n1 3),tvs (n2 3),tvs (n3 3)]) (n0 0),own rSapi_Kind 47 t133s (n1 3)] a w := (hst.pick [1,10,12,14,15,16,17,18])
      obtain rfl := sj h
      exact hJp3959 _ _ (hst.pick [6,7])
     ·replace h := ite_f b3961 h
      refine wp_skip ?_
      obtain rfl := sj h
      exact hJp3959 _ _ ((hst.pick [7,8]).selA [0,2,3,4,1] rfl)
    ·replace h := ite_f b4213 h
     refine wp_seq_k (fun K3962 hK3962 => ?_)
     refine wp_reg mixed [] hst (fun _ => .p rfl (op_eql (.t 1 rfl) .k) <| .p rfl (op_assign (.t 0 rfl)) <| .nil _ _) (by kernel_rfl) (fun n23 a w hst => ?_)
     replace hst : St M w0 215 [(135,tb (t33 == (4:Int))),(33,ti t33),(29,tv (n1 3)),(9,ti t31),(25,tv (n3 3)),(20,tv (n2 3)),(15,tv (n1 3)),(4,tv (n0 0)),(8,tv (n0 1)),(1,ti at_),(2,ti how_),(3,ti by_)] [box (rSapi_Schema.cs (Sapi_Schema.mk (0:Int) ([] : (List Sapi_Kind)) ([] : (List Sapi_Life)) ([] : (List Sapi_Rule)))) (n0 1),own rSapi_Kind 47 (([] : List Sapi_Kind) ++ (x_).Kinds) (n1 3),own rSapi_Life 67 (([] : List Sapi_Life) ++ (x_).Lives) (n2 3),own rSapi_Rule 100 (([] : List Sapi_Rule) ++ (x_).Rules) (n3 3),box ([ti (x_).Version,tvs (n1 3),tvs (n2 3),tvs (n3 3)]) (n0 0)] a w := (hst.pick [1,3,4,5,6,7,8,9,10,11,12,13])
     refine hK3962 _ _ ?_
     try clear hK3962 K3962
     obtain ⟨p3963,hp3963,h⟩ := bind_some h
     have hJp3963 : ∀ (v4088 : Value) a w,St M w0 215 [(4,tv (n0 0)),(8,tv (n0 1))] [box (rSapi_Schema.cs (Sapi_Schema.mk (0:Int) ([] : (List Sapi_Kind)) ([] : (List Sapi_Life)) ([] : (List Sapi_Rule)))) (n0 1),own rSapi_Kind 47 p3963.1 (n1 3),own rSapi_Rule 100 p3963.2.1 v4088,box ([ti (x_).Version,tvs (n1 3),tvs (n2 3),tvs v4088]) (n0 0),own rSapi_Life 67 p3963.2.2 (n2 3)] a w → K11 a w := by
      intro v4088 a w hst
      obtain rfl := sj h
      exact hJp3700 v4088 _ _ ((hst.pick [0,1]).selA [0,4,2,3,1] rfl)
     replace h := hp3963
     clear hp3963
     refine wp_test 0 hst rfl (fun b4212 => ?_) (fun b4212 => ?_)
     ·replace h := ite_t b4212 h
      refine wp_seq_k (fun K4089 hK4089 => ?_)
      refine wp_reg mixed [] hst (fun _ => .u [4] rfl rfl (op_fieldB fld34_2 (.t 7 rfl)) <| .u [4] rfl rfl (op_loadBVf (u := (n2 3)) tokV31 (.t 0 rfl) rfl) <| .u [2] rfl rfl (op_lenO Tryz.underlying31 (.t 0 rfl)) <| .p rfl (op_gtr (.t 0 rfl) .k) <| .nil _ _) (by kernel_rfl) (fun n24 a w hst => ?_)
      replace hst : St M w0 215 [(138,tv (n2 3)),(140,tb (decide (((([] : List Sapi_Life) ++ (x_).Lives).length : Int) > (0:Int)))),(29,tv (n1 3)),(25,tv (n3 3)),(20,tv (n2 3)),(15,tv (n1 3)),(4,tv (n0 0)),(8,tv (n0 1)),(3,ti by_)] [box (rSapi_Schema.cs (Sapi_Schema.mk (0:Int) ([] : (List Sapi_Kind)) ([] : (List Sapi_Life)) ([] : (List Sapi_Rule)))) (n0 1),own rSapi_Kind 47 (([] : List Sapi_Kind) ++ (x_).Kinds) (n1 3),own rSapi_Life 67 (([] : List Sapi_Life) ++ (x_).Lives) (n2 3),own rSapi_Rule 100 (([] : List Sapi_Rule) ++ (x_).Rules) (n3 3),box ([ti (x_).Version,tvs (n1 3),tvs (n2 3),tvs (n3 3)]) (n0 0)] a w := (hst.pick [1,3,6,8,9,10,11,12,15])
      refine hK4089 _ _ ?_
      try clear hK4089 K4089
      obtain ⟨p4090,hp4090,h⟩ := bind_some h
      have hJp4090 : ∀ a w,St M w0 215 [(4,tv (n0 0)),(8,tv (n0 1))] [box (rSapi_Schema.cs (Sapi_Schema.mk (0:Int) ([] : (List Sapi_Kind)) ([] : (List Sapi_Life)) ([] : (List Sapi_Rule)))) (n0 1),own rSapi_Kind 47 (([] : List Sapi_Kind) ++ (x_).Kinds) (n1 3),own rSapi_Rule 100 (([] : List Sapi_Rule) ++ (x_).Rules) (n3 3),box ([ti (x_).Version,tvs (n1 3),tvs (n2 3),tvs (n3 3)]) (n0 0),own rSapi_Life 67 p4090 (n2 3)] a w → K11 a w := by
       intro a w hst
       obtain rfl := sj h
       exact hJp3963 (n3 3) _ _ (hst.pick [0,1])
      replace h := hp4090
      clear hp4090
      refine wp_test 1 hst rfl (fun b4094 => ?_) (fun b4094 => ?_)
      ·replace h := ite_t b4094 h
       obtain ⟨t146,ht146,h⟩ := bind_some h
       obtain ⟨u149,hu149,h⟩ := bind_some h
       obtain ⟨t151,ht151,h⟩ := bind_some h
       obtain ⟨t155,ht155,h⟩ := bind_some h
       obtain ⟨u159,hu159,h⟩ := bind_some h
       obtain ⟨t160,ht160,h⟩ := bind_some h
       obtain ⟨t160s,ht160s,h⟩ := bind_some h
       refine wp_reg mixed [v1 2 (fun v0 => own rA2_Int 98 ([] : List A2_Int) v0),v1 8 (fun v0 => own rA2_Int 98 (([] : List A2_Int) ++ (t146).Moves) v0),v0 (own rSapi_Life 67 t160s (n2 3))] hst (fun _ => .u [4] rfl rfl (op_fieldB fld34_2 (.t 6 rfl)) <| .u [4] rfl rfl (op_loadBVf (u := (n2 3)) tokV31 (.t 0 rfl) rfl) <| .m [] [5] rfl rfl rfl (op_buildSlO (R := rA2_Int) (us := ([] : List A2_Int)) Tryz.underlying65 tok98 (.nil _) rfl (leb rfl) (leb rfl)) <| .u [4] rfl rfl (op_fieldB fld34_2 (.t 9 rfl)) <| .u [4] rfl rfl (op_loadBVf (u := (n2 3)) tokV31 (.t 0 rfl) rfl) <| .u [2] rfl rfl (op_indexOi Tryz.underlying31 tok67 (.t 0 rfl) .k ht146) <| .u [2] rfl rfl (op_fieldO fld67_2 (.t 0 rfl) (idx_ne ht146)) <| .u [2] rfl rfl (op_loadOf (R2 := (rSl rA2_Int)) (f := (t146).Moves) tok65 (.t 0 rfl) ht146 rfl) <| .e [] [5] [6] rfl rfl rfl rfl (op_append (R := rA2_Int) Tryz.underlying65 tok98 (leb rfl) (.t 5 rfl) (.t 0 rfl) hu149) <| .q 17 rfl <| .p rfl (op_callF call56 (ref01_Around_ok ht151) (.cons (.of (.t 0 rfl)) <| .cons (.of .k) <| .nil)) <| .p rfl (op_sub (.t 0 rfl) .k) <| .q 20 rfl <| .p rfl (op_quo (.t 0 rfl) .k (by decide)) <| .p rfl (op_callF call56 (ref01_Around_ok ht155) (.cons (.of (.t 0 rfl)) <| .cons (.of .k) <| .nil)) <| .p rfl (op_sub (.t 0 rfl) .k) <| .p (T := rA2_Int.ty (A2_Int.mk (IntKind.i64.wrap (t151 - (1:Int))) (IntKind.i64.wrap (t155 - (1:Int))))) rfl (op_buildArr (R := rI) (us := [(IntKind.i64.wrap (t151 - (1:Int))),(IntKind.i64.wrap (t155 - (1:Int)))]) Tryz.underlying98 tok3 zv98 rfl (.cons (.t 4 rfl) <| .cons (.t 0 rfl) <| .nil _)) <| .p rfl (op_buildSl (R := rA2_Int) (us := [(A2_Int.mk (IntKind.i64.wrap (t151 - (1:Int))) (IntKind.i64.wrap (t155 - (1:Int))))]) Tryz.underlying65 tok98 (.cons (.t 0 rfl) <| .nil _) rfl (leb rfl)) <| .e [] [6] [] rfl rfl rfl rfl (.roE (op_append (R := rA2_Int) Tryz.underlying65 tok98 (leb rfl) (.t 9 rfl) (.t 0 rfl) hu159)) <| .u [2] rfl rfl (op_indexOi Tryz.underlying31 tok67 (.t 17 rfl) .k ht160) <| .u [2] rfl rfl (op_fieldO fld67_2 (.t 0 rfl) (idx_ne ht160)) <| .e [] [2] [7] rfl rfl rfl rfl (op_storeOf (u := { t160 with Moves := ((([] : List A2_Int) ++ (t146).Moves) ++ [(A2_Int.mk (IntKind.i64.wrap (t151 - (1:Int))) (IntKind.i64.wrap (t155 - (1:Int))))]) }) tok65 (.t 0 rfl) (.t 2 rfl) ht160 ht160s (leb rfl) rfl) <| .nil _ _) (by kernel_rfl) (fun n25 a w hst => ?_)
       replace hst : St M w0 215 [(142,tv (n2 3)),(145,tv (n2 3)),(138,tv (n2 3)),(29,tv (n1 3)),(25,tv (n3 3)),(20,tv (n2 3)),(15,tv (n1 3)),(4,tv (n0 0)),(8,tv (n0 1))] [box (rSapi_Schema.cs (Sapi_Schema.mk (0:Int) ([] : (List Sapi_Kind)) ([] : (List Sapi_Life)) ([] : (List Sapi_Rule)))) (n0 1),own rSapi_Kind 47 (([] : List Sapi_Kind) ++ (x_).Kinds) (n1 3),own rSapi_Rule 100 (([] : List Sapi_Rule) ++ (x_).Rules) (n3 3),box ([ti (x_).Version,tvs (n1 3),tvs (n2 3),tvs (n3 3)]) (n0 0),own rSapi_Life 67 t160s (n2 3)] a w := (hst.pick [1,4,21,23,24,25,26,27,28])
       obtain rfl := sj h
       exact hJp4090 _ _ (hst.pick [7,8])
      ·replace h := ite_f b4094 h
       refine wp_skip ?_
       obtain rfl := sj h
       exact hJp4090 _ _ ((hst.pick [6,7]).selA [0,1,3,4,2] rfl)
     ·replace h := ite_f b4212 h
      refine wp_seq_k (fun K4095 hK4095 => ?_)
      refine wp_reg mixed [] hst (fun _ => .p rfl (op_eql (.t 1 rfl) .k) <| .p rfl (op_assign (.t 0 rfl)) <| .nil _ _) (by kernel_rfl) (fun n26 a w hst => ?_)
      replace hst : St M w0 215 [(162,tb (t33 == (5:Int))),(33,ti t33),(29,tv (n1 3)),(9,ti t31),(25,tv (n3 3)),(20,tv (n2 3)),(15,tv (n1 3)),(4,tv (n0 0)),(8,tv (n0 1)),(1,ti at_),(2,ti how_),(3,ti by_)] [box (rSapi_Schema.cs (Sapi_Schema.mk (0:Int) ([] : (List Sapi_Kind)) ([] : (List Sapi_Life)) ([] : (List Sapi_Rule)))) (n0 1),own rSapi_Kind 47 (([] : List Sapi_Kind) ++ (x_).Kinds) (n1 3),own rSapi_Life 67 (([] : List Sapi_Life) ++ (x_).Lives) (n2 3),own rSapi_Rule 100 (([] : List Sapi_Rule) ++ (x_).Rules) (n3 3),box ([ti (x_).Version,tvs (n1 3),tvs (n2 3),tvs (n3 3)]) (n0 0)] a w := (hst.pick [1,3,4,5,6,7,8,9,10,11,12,13])
      refine hK4095 _ _ ?_
      try clear hK4095 K4095
      obtain ⟨p4096,hp4096,h⟩ := bind_some h
      have hJp4096 : ∀ (v4154 : Value) a w,St M w0 215 [(4,tv (n0 0)),(8,tv (n0 1))] [box (rSapi_Schema.cs (Sapi_Schema.mk (0:Int) ([] : (List Sapi_Kind)) ([] : (List Sapi_Life)) ([] : (List Sapi_Rule)))) (n0 1),own rSapi_Kind 47 p4096.1 (n1 3),own rSapi_Life 67 p4096.2.1 (n2 3),own rSapi_Rule 100 p4096.2.2 v4154,box ([ti (x_).Version,tvs (n1 3),tvs (n2 3),tvs v4154]) (n0 0)] a w → K11 a w := by
       intro v4154 a w hst
       obtain rfl := sj h
       exact hJp3963 v4154 _ _ ((hst.pick [0,1]).selA [0,1,3,4,2] rfl)
      replace h := hp4096
      clear hp4096
      refine wp_test 0 hst rfl (fun b4211 => ?_) (fun b4211 => ?_)
      ·replace h := ite_t b4211 h
       obtain ⟨t168,ht168,h⟩ := bind_some h
       obtain ⟨t169,ht169,h⟩ := bind_some h
       obtain ⟨t174,ht174,h⟩ := bind_some h
       obtain ⟨t175,ht175,h⟩ := bind_some h
       obtain ⟨t180,ht180,h⟩ := bind_some h
       obtain ⟨t181,ht181,h⟩ := bind_some h
       obtain ⟨t184,ht184,h⟩ := bind_some h
       obtain ⟨u188,hu188,h⟩ := bind_some h
       refine wp_reg mixed [v1 24 (fun v0 => own rSapi_Rule 100 ((([] : List Sapi_Rule) ++ (x_).Rules) ++ [(Sapi_Rule.mk ([102,117,114,116,104,101,114] : Str) t169 t175 t181 (IntKind.i64.wrap (t184 - (20:Int))))]) v0),v1 24 (fun v0 => box ([ti (x_).Version,tvs (n1 3),tvs (n2 3),tvs v0]) (n0 0))] hst (fun _ => .u [4] rfl rfl (op_fieldB fld34_3 (.t 7 rfl)) <| .u [4] rfl rfl (op_loadBVf (u := (n3 3)) tokV32 (.t 0 rfl) rfl) <| .p rfl (op_buildSl (R := rS) (us := [([112,101,114,115,111,110] : Str),([111,114,100,101,114] : Str),([110,111,110,101] : Str),([] : Str)]) Tryz.underlying38 tok9 (.cons .k <| .cons .k <| .cons .k <| .cons .k <| .nil _) rfl (leb rfl)) <| .q 14 rfl <| .p rfl (op_callF call56 (ref01_Around_ok ht168) (.cons (.of (.t 0 rfl)) <| .cons (.of .k) <| .nil)) <| .p rfl (op_index Tryz.underlying38 tok9 (.t 2 rfl) (.t 0 rfl) ht169) <| .p rfl (op_load tok9 (.t 0 rfl)) <| .p rfl (op_buildSl (R := rS) (us := [([115,105,122,101] : Str),([108,111,119] : Str),([] : Str),([105,100] : Str),([98,111,114,110] : Str)]) Tryz.underlying38 tok9 (.cons .k <| .cons .k <| .cons .k <| .cons .k <| .cons .k <| .nil _) rfl (leb rfl)) <| .q 19 rfl <| .p rfl (op_quo (.t 0 rfl) .k (by decide)) <| .p rfl (op_callF call56 (ref01_Around_ok ht174) (.cons (.of (.t 0 rfl)) <| .cons (.of .k) <| .nil)) <| .p rfl (op_index Tryz.underlying38 tok9 (.t 3 rfl) (.t 0 rfl) ht175) <| .p rfl (op_load tok9 (.t 0 rfl)) <| .p rfl (op_buildSl (R := rS) (us := [([104,105,103,104] : Str),([] : Str),([115,105,122,101] : Str),([108,101,102,116] : Str),([116,97,103] : Str)]) Tryz.underlying38 tok9 (.cons .k <| .cons .k <| .cons .k <| .cons .k <| .cons .k <| .nil _) rfl (leb rfl)) <| .q 25 rfl <| .p rfl (op_quo (.t 0 rfl) .k (by decide)) <| .p rfl (op_callF call56 (ref01_Around_ok ht180) (.cons (.of (.t 0 rfl)) <| .cons (.of .k) <| .nil)) <| .p rfl (op_index Tryz.underlying38 tok9 (.t 3 rfl) (.t 0 rfl) ht181) <| .p rfl (op_load tok9 (.t 0 rfl)) <| .q 30 rfl <| .p rfl (op_callF call56 (ref01_Around_ok ht184) (.cons (.of (.t 0 rfl)) <| .cons (.of .k) <| .nil)) <| .p rfl (op_sub (.t 0 rfl) .k) <| .p (T := rSapi_Rule.ty (Sapi_Rule.mk ([102,117,114,116,104,101,114] : Str) t169 t175 t181 (IntKind.i64.wrap (t184 - (20:Int))))) rfl (op_build Tryz.underlying100 pl100 zv100 zc100 (.cons (R := rS) (u := ([102,117,114,116,104,101,114] : Str)) rfl .k (leb rfl) <| .cons (R := rS) (u := t169) rfl (.t 15 rfl) (leb rfl) <| .cons (R := rS) (u := t175) rfl (.t 9 rfl) (leb rfl) <| .cons (R := rS) (u := t181) rfl (.t 3 rfl) (leb rfl) <| .cons (R := rI) (u := (IntKind.i64.wrap (t184 - (20:Int)))) rfl (.t 0 rfl) (leb rfl) <| .nil _)) <| .p rfl (op_buildSl (R := rSapi_Rule) (us := [(Sapi_Rule.mk ([102,117,114,116,104,101,114] : Str) t169 t175 t181 (IntKind.i64.wrap (t184 - (20:Int))))]) Tryz.underlying32 tok100 (.cons (.t 0 rfl) <| .nil _) rfl (leb rfl)) <| .e [] [3] [5] rfl rfl rfl rfl (op_append (R := rSapi_Rule) Tryz.underlying32 tok100 (leb rfl) (.t 22 rfl) (.t 0 rfl) hu188) <| .u [4] rfl rfl (op_fieldB fld34_3 (.t 32 rfl)) <| .e [5] [4] [6] rfl rfl rfl rfl (op_storeBVf (R := rSapi_Rule) (e := 100) (Ts := ([ti (x_).Version,tvs (n1 3),tvs (n2 3),tvs (n3 3)])) (off := 3) tokV32 (.t 0 rfl) (.t 1 rfl) (leb rfl)) <| .nil _ _) (by kernel_rfl) (fun n27 a w hst => ?_)
       replace hst : St M w0 215 [(188,tv (n27 24)),(29,tv (n1 3)),(20,tv (n2 3)),(15,tv (n1 3)),(4,tv (n0 0)),(8,tv (n0 1))] [box (rSapi_Schema.cs (Sapi_Schema.mk (0:Int) ([] : (List Sapi_Kind)) ([] : (List Sapi_Life)) ([] : (List Sapi_Rule)))) (n0 1),own rSapi_Kind 47 (([] : List Sapi_Kind) ++ (x_).Kinds) (n1 3),own rSapi_Life 67 (([] : List Sapi_Life) ++ (x_).Lives) (n2 3),own rSapi_Rule 100 ((([] : List Sapi_Rule) ++ (x_).Rules) ++ [(Sapi_Rule.mk ([102,117,114,116,104,101,114] : Str) t169 t175 t181 (IntKind.i64.wrap (t184 - (20:Int))))]) (n27 24),box ([ti (x_).Version,tvs (n1 3),tvs (n2 3),tvs (n27 24)]) (n0 0)] a w := (hst.pick [24,28,31,32,33,34])
       obtain rfl := sj h
       exact hJp4096 (n27 24) _ _ (hst.pick [4,5])
      ·replace h := ite_f b4211 h
       refine wp_seq_k (fun K4155 hK4155 => ?_)
       refine wp_reg mixed [] hst (fun _ => .p rfl (op_eql (.t 1 rfl) .k) <| .p rfl (op_assign (.t 0 rfl)) <| .nil _ _) (by kernel_rfl) (fun n28 a w hst => ?_)
       replace hst : St M w0 215 [(190,tb (t33 == (6:Int))),(29,tv (n1 3)),(9,ti t31),(25,tv (n3 3)),(20,tv (n2 3)),(15,tv (n1 3)),(4,tv (n0 0)),(8,tv (n0 1)),(1,ti at_),(2,ti how_),(3,ti by_)] [box (rSapi_Schema.cs (Sapi_Schema.mk (0:Int) ([] : (List Sapi_Kind)) ([] : (List Sapi_Life)) ([] : (List Sapi_Rule)))) (n0 1),own rSapi_Kind 47 (([] : List Sapi_Kind) ++ (x_).Kinds) (n1 3),own rSapi_Life 67 (([] : List Sapi_Life) ++ (x_).Lives) (n2 3),own rSapi_Rule 100 (([] : List Sapi_Rule) ++ (x_).Rules) (n3 3),box ([ti (x_).Version,tvs (n1 3),tvs (n2 3),tvs (n3 3)]) (n0 0)] a w := (hst.pick [1,4,5,6,7,8,9,10,11,12,13])
       refine hK4155 _ _ ?_
       try clear hK4155 K4155
       obtain ⟨p4156,hp4156,h⟩ := bind_some h
       have hJp4156 : ∀ a w,St M w0 215 [(4,tv (n0 0)),(8,tv (n0 1))] [box (rSapi_Schema.cs (Sapi_Schema.mk (0:Int) ([] : (List Sapi_Kind)) ([] : (List Sapi_Life)) ([] : (List Sapi_Rule)))) (n0 1),own rSapi_Kind 47 p4156.1 (n1 3),own rSapi_Rule 100 (([] : List Sapi_Rule) ++ (x_).Rules) (n3 3),box ([ti (x_).Version,tvs (n1 3),tvs (n2 3),tvs (n3 3)]) (n0 0),own rSapi_Life 67 p4156.2 (n2 3)] a w → K11 a w := by
        intro a w hst
        obtain rfl := sj h
        exact hJp4096 (n3 3) _ _ ((hst.pick [0,1]).selA [0,1,4,2,3] rfl)
       replace h := hp4156
       clear hp4156
       refine wp_test 0 hst rfl (fun b4210 => ?_) (fun b4210 => ?_)
       ·replace h := ite_t b4210 h
        refine wp_seq_k (fun K4184 hK4184 => ?_)
        refine wp_reg mixed [] hst (fun _ => .u [4] rfl rfl (op_fieldB fld34_2 (.t 6 rfl)) <| .u [4] rfl rfl (op_loadBVf (u := (n2 3)) tokV31 (.t 0 rfl) rfl) <| .u [2] rfl rfl (op_lenO Tryz.underlying31 (.t 0 rfl)) <| .p rfl (op_gtr (.t 0 rfl) .k) <| .nil _ _) (by kernel_rfl) (fun n29 a w hst => ?_)
        replace hst : St M w0 215 [(193,tv (n2 3)),(195,tb (decide (((([] : List Sapi_Life) ++ (x_).Lives).length : Int) > (0:Int)))),(29,tv (n1 3)),(25,tv (n3 3)),(20,tv (n2 3)),(15,tv (n1 3)),(4,tv (n0 0)),(8,tv (n0 1)),(3,ti by_)] [box (rSapi_Schema.cs (Sapi_Schema.mk (0:Int) ([] : (List Sapi_Kind)) ([] : (List Sapi_Life)) ([] : (List Sapi_Rule)))) (n0 1),own rSapi_Kind 47 (([] : List Sapi_Kind) ++ (x_).Kinds) (n1 3),own rSapi_Life 67 (([] : List Sapi_Life) ++ (x_).Lives) (n2 3),own rSapi_Rule 100 (([] : List Sapi_Rule) ++ (x_).Rules) (n3 3),box ([ti (x_).Version,tvs (n1 3),tvs (n2 3),tvs (n3 3)]) (n0 0)] a w := (hst.pick [1,3,5,7,8,9,10,11,14])
        refine hK4184 _ _ ?_
        try clear hK4184 K4184
        obtain ⟨p4185,hp4185,h⟩ := bind_some h
        have hJp4185 : ∀ a w,St M w0 215 [(4,tv (n0 0)),(8,tv (n0 1))] [box (rSapi_Schema.cs (Sapi_Schema.mk (0:Int) ([] : (List Sapi_Kind)) ([] : (List Sapi_Life)) ([] : (List Sapi_Rule)))) (n0 1),own rSapi_Kind 47 (([] : List Sapi_Kind) ++ (x_).Kinds) (n1 3),own rSapi_Rule 100 (([] : List Sapi_Rule) ++ (x_).Rules) (n3 3),box ([ti (x_).Version,tvs (n1 3),tvs (n2 3),tvs (n3 3)]) (n0 0),own rSapi_Life 67 p4185 (n2 3)] a w → K11 a w := by
         intro a w hst
         obtain rfl := sj h
         exact hJp4156 _ _ (hst.pick [0,1])
        replace h := hp4185
        clear hp4185
        refine wp_test 1 hst rfl (fun b4189 => ?_) (fun b4189 => ?_)
        ·replace h := ite_t b4189 h
         obtain ⟨t201,ht201,h⟩ := bind_some h
         obtain ⟨u204,hu204,h⟩ := bind_some h
         obtain ⟨t207,ht207,h⟩ := bind_some h
         obtain ⟨t208,ht208,h⟩ := bind_some h
         obtain ⟨u211,hu211,h⟩ := bind_some h
         obtain ⟨t212,ht212,h⟩ := bind_some h
         obtain ⟨t212s,ht212s,h⟩ := bind_some h
         refine wp_reg mixed [v1 2 (fun v0 => own rS 9 ([] : List Str) v0),v1 8 (fun v0 => own rS 9 (([] : List Str) ++ (t201).States) v0),v0 (own rSapi_Life 67 t212s (n2 3))] hst (fun _ => .u [4] rfl rfl (op_fieldB fld34_2 (.t 6 rfl)) <| .u [4] rfl rfl (op_loadBVf (u := (n2 3)) tokV31 (.t 0 rfl) rfl) <| .m [] [5] rfl rfl rfl (op_buildSlO (R := rS) (us := ([] : List Str)) Tryz.underlying38 tok9 (.nil _) rfl (leb rfl) (leb rfl)) <| .u [4] rfl rfl (op_fieldB fld34_2 (.t 9 rfl)) <| .u [4] rfl rfl (op_loadBVf (u := (n2 3)) tokV31 (.t 0 rfl) rfl) <| .u [2] rfl rfl (op_indexOi Tryz.underlying31 tok67 (.t 0 rfl) .k ht201) <| .u [2] rfl rfl (op_fieldO fld67_1 (.t 0 rfl) (idx_ne ht201)) <| .u [2] rfl rfl (op_loadOf (R2 := (rSl rS)) (f := (t201).States) tok38 (.t 0 rfl) ht201 rfl) <| .e [] [5] [6] rfl rfl rfl rfl (op_append (R := rS) Tryz.underlying38 tok9 (leb rfl) (.t 5 rfl) (.t 0 rfl) hu204) <| .p rfl (op_buildSl (R := rS) (us := [([109,111,114,101] : Str),([110,101,119] : Str),([63] : Str)]) Tryz.underlying38 tok9 (.cons .k <| .cons .k <| .cons .k <| .nil _) rfl (leb rfl)) <| .q 18 rfl <| .p rfl (op_callF call56 (ref01_Around_ok ht207) (.cons (.of (.t 0 rfl)) <| .cons (.of .k) <| .nil)) <| .p rfl (op_index Tryz.underlying38 tok9 (.t 2 rfl) (.t 0 rfl) ht208) <| .p rfl (op_load tok9 (.t 0 rfl)) <| .p rfl (op_buildSl (R := rS) (us := [t208]) Tryz.underlying38 tok9 (.cons (.t 0 rfl) <| .nil _) rfl (leb rfl)) <| .e [] [6] [] rfl rfl rfl rfl (.roE (op_append (R := rS) Tryz.underlying38 tok9 (leb rfl) (.t 6 rfl) (.t 0 rfl) hu211)) <| .u [2] rfl rfl (op_indexOi Tryz.underlying31 tok67 (.t 14 rfl) .k ht212) <| .u [2] rfl rfl (op_fieldO fld67_1 (.t 0 rfl) (idx_ne ht212)) <| .e [] [2] [7] rfl rfl rfl rfl (op_storeOf (u := { t212 with States := ((([] : List Str) ++ (t201).States) ++ [t208]) }) tok38 (.t 0 rfl) (.t 2 rfl) ht212 ht212s (leb rfl) rfl) <| .nil _ _) (by kernel_rfl) (fun n30 a w hst => ?_)
         replace hst : St M w0 215 [(197,tv (n2 3)),(200,tv (n2 3)),(193,tv (n2 3)),(29,tv (n1 3)),(25,tv (n3 3)),(20,tv (n2 3)),(15,tv (n1 3)),(4,tv (n0 0)),(8,tv (n0 1))] [box (rSapi_Schema.cs (Sapi_Schema.mk (0:Int) ([] : (List Sapi_Kind)) ([] : (List Sapi_Life)) ([] : (List Sapi_Rule)))) (n0 1),own rSapi_Kind 47 (([] : List Sapi_Kind) ++ (x_).Kinds) (n1 3),own rSapi_Rule 100 (([] : List Sapi_Rule) ++ (x_).Rules) (n3 3),box ([ti (x_).Version,tvs (n1 3),tvs (n2 3),tvs (n3 3)]) (n0 0),own rSapi_Life 67 t212s (n2 3)] a w := (hst.pick [1,4,18,20,21,22,23,24,25])
         obtain rfl := sj h
         exact hJp4185 _ _ (hst.pick [7,8])
        ·replace h := ite_f b4189 h
         refine wp_skip ?_
         obtain rfl := sj h
         exact hJp4185 _ _ ((hst.pick [6,7]).selA [0,1,3,4,2] rfl)
       ·replace h := ite_f b4210 h
        refine wp_seq_k (fun K4190 hK4190 => ?_)
        refine wp_reg mixed [] hst (fun _ => .q 2 rfl <| .u [4] rfl rfl (op_fieldB fld34_1 (.t 7 rfl)) <| .u [4] rfl rfl (op_loadBVf (u := (n1 3)) tokV30 (.t 0 rfl) rfl) <| .u [1] rfl rfl (op_lenO Tryz.underlying30 (.t 0 rfl)) <| .p rfl (op_lss (.t 3 rfl) (.t 0 rfl)) <| .nil _ _) (by kernel_rfl) (fun n6 a w hst => ?_)
        replace hst : St M w0 215 [(36,tv (n1 3)),(38,tb (decide (t31 < ((([] : List Sapi_Kind) ++ (x_).Kinds).length : Int)))),(29,tv (n1 3)),(9,ti t31),(25,tv (n3 3)),(20,tv (n2 3)),(15,tv (n1 3)),(4,tv (n0 0)),(8,tv (n0 1)),(1,ti at_),(2,ti how_),(3,ti by_)] [box (rSapi_Schema.cs (Sapi_Schema.mk (0:Int) ([] : (List Sapi_Kind)) ([] : (List Sapi_Life)) ([] : (List Sapi_Rule)))) (n0 1),own rSapi_Kind 47 (([] : List Sapi_Kind) ++ (x_).Kinds) (n1 3),own rSapi_Life 67 (([] : List Sapi_Life) ++ (x_).Lives) (n2 3),own rSapi_Rule 100 (([] : List Sapi_Rule) ++ (x_).Rules) (n3 3),box ([ti (x_).Version,tvs (n1 3),tvs (n2 3),tvs (n3 3)]) (n0 0)] a w := (hst.pick [2,4,6,7,8,9,10,11,12,13,14,15])
        refine hK4190 _ _ ?_
        try clear hK4190 K4190
        obtain ⟨p4191,hp4191,h⟩ := bind_some h
        have hJp4191 : ∀ a w,St M w0 215 [(4,tv (n0 0)),(8,tv (n0 1))] [box (rSapi_Schema.cs (Sapi_Schema.mk (0:Int) ([] : (List Sapi_Kind)) ([] : (List Sapi_Life)) ([] : (List Sapi_Rule)))) (n0 1),own rSapi_Life 67 (([] : List Sapi_Life) ++ (x_).Lives) (n2 3),own rSapi_Rule 100 (([] : List Sapi_Rule) ++ (x_).Rules) (n3 3),box ([ti (x_).Version,tvs (n1 3),tvs (n2 3),tvs (n3 3)]) (n0 0),own rSapi_Kind 47 p4191 (n1 3)] a w → K11 a w := by
         intro a w hst
         obtain rfl := sj h
         exact hJp4156 _ _ ((hst.pick [0,1]).selA [0,4,2,3,1] rfl)
        replace h := hp4191
        clear hp4191
        refine wp_test 1 hst rfl (fun b4209 => ?_) (fun b4209 => ?_)
        ·replace h := ite_t b4209 h
         refine wp_seq_k (fun K4201 hK4201 => ?_)
         obtain ⟨t43,ht43,h⟩ := bind_some h
         obtain ⟨u46,hu46,h⟩ := bind_some h
         refine wp_reg mixed [v1 0 (fun v0 => own rSapi_Field 44 ([] : List Sapi_Field) v0),v1 7 (fun v0 => own rSapi_Field 44 (([] : List Sapi_Field) ++ (t43).Fields) v0)] hst (fun _ => .m [] [5] rfl rfl rfl (op_buildSlO (R := rSapi_Field) (us := ([] : List Sapi_Field)) Tryz.underlying45 tok44 (.nil _) rfl (leb rfl) (leb rfl)) <| .u [4] rfl rfl (op_fieldB fld34_1 (.t 8 rfl)) <| .u [4] rfl rfl (op_loadBVf (u := (n1 3)) tokV30 (.t 0 rfl) rfl) <| .q 6 rfl <| .u [1] rfl rfl (op_indexOi Tryz.underlying30 tok47 (.t 1 rfl) (.t 0 rfl) ht43) <| .u [1] rfl rfl (op_fieldO fld47_3 (.t 0 rfl) (idx_ne ht43)) <| .u [1] rfl rfl (op_loadOf (R2 := (rSl rSapi_Field)) (f := (t43).Fields) tok45 (.t 0 rfl) ht43 rfl) <| .e [] [5] [6] rfl rfl rfl rfl (op_append (R := rSapi_Field) Tryz.underlying45 tok44 (leb rfl) (.t 6 rfl) (.t 0 rfl) hu46) <| .ud (f := fun v => tv v) 7 rfl [] rfl rfl (op_assign (.t 0 rfl)) <| .nil _ _) (by kernel_rfl) (fun n7 a w hst => ?_)
         replace hst : St M w0 215 [(41,tv (n1 3)),(46,tv (n7 7)),(10,tv (n7 7)),(36,tv (n1 3)),(29,tv (n1 3)),(9,ti t31),(25,tv (n3 3)),(20,tv (n2 3)),(15,tv (n1 3)),(4,tv (n0 0)),(8,tv (n0 1)),(1,ti at_),(2,ti how_),(3,ti by_)] [box (rSapi_Schema.cs (Sapi_Schema.mk (0:Int) ([] : (List Sapi_Kind)) ([] : (List Sapi_Life)) ([] : (List Sapi_Rule)))) (n0 1),own rSapi_Kind 47 (([] : List Sapi_Kind) ++ (x_).Kinds) (n1 3),own rSapi_Life 67 (([] : List Sapi_Life) ++ (x_).Lives) (n2 3),own rSapi_Rule 100 (([] : List Sapi_Rule) ++ (x_).Rules) (n3 3),box ([ti (x_).Version,tvs (n1 3),tvs (n2 3),tvs (n3 3)]) (n0 0),own rSapi_Field 44 (([] : List Sapi_Field) ++ (t43).Fields) (n7 7)] a w := (hst.pick [2,7,8,9,11,12,13,14,15,16,17,18,19,20])
         refine hK4201 _ _ ?_
         try clear hK4201 K4201
         refine wp_seq_k (fun K4203 hK4203 => ?_)
         obtain ⟨t51,ht51,h⟩ := bind_some h
         refine wp_reg mixed [] hst (fun _ => .q 11 rfl <| .p rfl (op_quo (.t 0 rfl) .k (by decide)) <| .q 4 rfl <| .u [5] rfl rfl (op_lenO Tryz.underlying45 (.t 0 rfl)) <| .p rfl (op_callF call56 (ref01_Around_ok ht51) (.cons (.of (.t 2 rfl)) <| .cons (.of (.t 0 rfl)) <| .nil)) <| .p rfl (op_assign (.t 0 rfl)) <| .nil _ _) (by kernel_rfl) (fun n8 a w hst => ?_)
         replace hst : St M w0 215 [(49,tv (n7 7)),(11,ti t51),(41,tv (n1 3)),(46,tv (n7 7)),(10,tv (n7 7)),(36,tv (n1 3)),(29,tv (n1 3)),(9,ti t31),(25,tv (n3 3)),(20,tv (n2 3)),(15,tv (n1 3)),(4,tv (n0 0)),(8,tv (n0 1)),(2,ti how_),(3,ti by_)] [box (rSapi_Schema.cs (Sapi_Schema.mk (0:Int) ([] : (List Sapi_Kind)) ([] : (List Sapi_Life)) ([] : (List Sapi_Rule)))) (n0 1),own rSapi_Kind 47 (([] : List Sapi_Kind) ++ (x_).Kinds) (n1 3),own rSapi_Life 67 (([] : List Sapi_Life) ++ (x_).Lives) (n2 3),own rSapi_Rule 100 (([] : List Sapi_Rule) ++ (x_).Rules) (n3 3),box ([ti (x_).Version,tvs (n1 3),tvs (n2 3),tvs (n3 3)]) (n0 0),own rSapi_Field 44 (([] : List Sapi_Field) ++ (t43).Fields) (n7 7)] a w := (hst.pick [2,5,6,7,8,9,10,11,12,13,14,15,16,18,19])
         refine hK4203 _ _ ?_
         try clear hK4203 K4203
         refine wp_seq_k (fun K4204 hK4204 => ?_)
         refine wp_seq_k (fun K4205 hK4205 => ?_)
         refine wp_reg mixed [] hst (fun _ => .q 1 rfl <| .q 5 rfl <| .u [5] rfl rfl (op_lenO Tryz.underlying45 (.t 0 rfl)) <| .p rfl (op_lss (.t 2 rfl) (.t 0 rfl)) <| .nil _ _) (by kernel_rfl) (fun n9 a w hst => ?_)
         replace hst : St M w0 215 [(53,tv (n7 7)),(55,tb (decide (t51 < ((([] : List Sapi_Field) ++ (t43).Fields).length : Int)))),(49,tv (n7 7)),(11,ti t51),(41,tv (n1 3)),(46,tv (n7 7)),(10,tv (n7 7)),(36,tv (n1 3)),(29,tv (n1 3)),(9,ti t31),(25,tv (n3 3)),(20,tv (n2 3)),(15,tv (n1 3)),(4,tv (n0 0)),(8,tv (n0 1)),(2,ti how_),(3,ti by_)] [box (rSapi_Schema.cs (Sapi_Schema.mk (0:Int) ([] : (List Sapi_Kind)) ([] : (List Sapi_Life)) ([] : (List Sapi_Rule)))) (n0 1),own rSapi_Kind 47 (([] : List Sapi_Kind) ++ (x_).Kinds) (n1 3),own rSapi_Life 67 (([] : List Sapi_Life) ++ (x_).Lives) (n2 3),own rSapi_Rule 100 (([] : List Sapi_Rule) ++ (x_).Rules) (n3 3),box ([ti (x_).Version,tvs (n1 3),tvs (n2 3),tvs (n3 3)]) (n0 0),own rSapi_Field 44 (([] : List Sapi_Field) ++ (t43).Fields) (n7 7)] a w := (hst.pick [1,3,4,5,6,7,8,9,10,11,12,13,14,15,16,17,18])
         refine hK4205 _ _ ?_
         try clear hK4205 K4205
         obtain ⟨p4206,hp4206,h⟩ := bind_some h
         have hJp4206 : ∀ a w,St M w0 215 [(10,tv (n7 7)),(9,ti t31),(4,tv (n0 0)),(8,tv (n0 1))] [box (rSapi_Schema.cs (Sapi_Schema.mk (0:Int) ([] : (List Sapi_Kind)) ([] : (List Sapi_Life)) ([] : (List Sapi_Rule)))) (n0 1),own rSapi_Kind 47 (([] : List Sapi_Kind) ++ (x_).Kinds) (n1 3),own rSapi_Life 67 (([] : List Sapi_Life) ++ (x_).Lives) (n2 3),own rSapi_Rule 100 (([] : List Sapi_Rule) ++ (x_).Rules) (n3 3),box ([ti (x_).Version,tvs (n1 3),tvs (n2 3),tvs (n3 3)]) (n0 0),own rSapi_Field 44 p4206 (n7 7)] a w → K4204 a w := by
          intro a w hst
          refine hK4204 _ _ ?_
          try clear hK4204 K4204
          replace hst : St M w0 215 [(10,tsl rSapi_Field p4206),(9,ti t31),(4,tv (n0 0)),(8,tv (n0 1))] [box (rSapi_Schema.cs (Sapi_Schema.mk (0:Int) ([] : (List Sapi_Kind)) ([] : (List Sapi_Life)) ([] : (List Sapi_Rule)))) (n0 1),own rSapi_Kind 47 (([] : List Sapi_Kind) ++ (x_).Kinds) (n1 3),own rSapi_Life 67 (([] : List Sapi_Life) ++ (x_).Lives) (n2 3),own rSapi_Rule 100 (([] : List Sapi_Rule) ++ (x_).Rules) (n3 3),box ([ti (x_).Version,tvs (n1 3),tvs (n2 3),tvs (n3 3)]) (n0 0)] a w := (((hst.selA [5,0,1,2,3,4] rfl).shareO 0 rfl).pick [0,2,3,4])
          obtain ⟨t71,ht71,h⟩ := bind_some h
          obtain ⟨t71s,ht71s,h⟩ := bind_some h
          refine wp_reg mixed [v0 (own rSapi_Kind 47 t71s (n1 3))] hst (fun _ => .u [4] rfl rfl (op_fieldB fld34_1 (.t 2 rfl)) <| .u [4] rfl rfl (op_loadBVf (u := (n1 3)) tokV30 (.t 0 rfl) rfl) <| .q 3 rfl <| .q 3 rfl <| .u [1] rfl rfl (op_indexOi Tryz.underlying30 tok47 (.t 2 rfl) (.t 1 rfl) ht71) <| .u [1] rfl rfl (op_fieldO fld47_3 (.t 0 rfl) (idx_ne ht71)) <| .e [] [1] [5] rfl rfl rfl rfl (op_storeOf (u := { t71 with Fields := p4206 }) tok45 (.t 0 rfl) (.t 2 rfl) ht71 ht71s (leb rfl) rfl) <| .nil _ _) (by kernel_rfl) (fun n11 a w hst => ?_)
          replace hst : St M w0 215 [(68,tv (n1 3)),(4,tv (n0 0)),(8,tv (n0 1))] [box (rSapi_Schema.cs (Sapi_Schema.mk (0:Int) ([] : (List Sapi_Kind)) ([] : (List Sapi_Life)) ([] : (List Sapi_Rule)))) (n0 1),own rSapi_Life 67 (([] : List Sapi_Life) ++ (x_).Lives) (n2 3),own rSapi_Rule 100 (([] : List Sapi_Rule) ++ (x_).Rules) (n3 3),box ([ti (x_).Version,tvs (n1 3),tvs (n2 3),tvs (n3 3)]) (n0 0),own rSapi_Kind 47 t71s (n1 3)] a w := (hst.pick [1,8,9])
          obtain rfl := sj h
          exact hJp4191 _ _ (hst.pick [1,2])
         replace h := hp4206
         clear hp4206
         refine wp_test 1 hst rfl (fun b4208 => ?_) (fun b4208 => ?_)
         ·replace h := ite_t b4208 h
          obtain ⟨t60,ht60,h⟩ := bind_some h
          obtain ⟨t65,ht65,h⟩ := bind_some h
          obtain ⟨t66s,ht66s,h⟩ := bind_some h
          refine wp_reg mixed [v0 (own rSapi_Field 44 t66s (n7 7))] hst (fun _ => .q 6 rfl <| .q 4 rfl <| .q 8 rfl <| .q 6 rfl <| .u [5] rfl rfl (op_indexOi Tryz.underlying45 tok44 (.t 1 rfl) (.t 0 rfl) ht60) <| .u [5] rfl rfl (op_loadO tok44 (.t 0 rfl) ht60) <| .q 21 rfl <| .p rfl (op_quo (.t 0 rfl) .k (by decide)) <| .q 24 rfl <| .p rfl (op_callF call85 (ref09_spoiltField_ok ht65) (.cons (.of (.t 3 rfl)) <| .cons (.of (.t 1 rfl)) <| .cons (.of (.t 0 rfl)) <| .nil)) <| .u [5] rfl rfl (op_indexOs Tryz.underlying45 tok44 (.t 9 rfl) (.t 8 rfl) ht66s) <| .e [] [5] [6] rfl rfl rfl rfl (op_storeO tok44 (.t 0 rfl) (.t 1 rfl) ht66s) <| .nil _ _) (by kernel_rfl) (fun n10 a w hst => ?_)
          replace hst : St M w0 215 [(56,tv (n7 7)),(58,tv (n7 7)),(53,tv (n7 7)),(49,tv (n7 7)),(41,tv (n1 3)),(46,tv (n7 7)),(10,tv (n7 7)),(36,tv (n1 3)),(29,tv (n1 3)),(9,ti t31),(25,tv (n3 3)),(20,tv (n2 3)),(15,tv (n1 3)),(4,tv (n0 0)),(8,tv (n0 1))] [box (rSapi_Schema.cs (Sapi_Schema.mk (0:Int) ([] : (List Sapi_Kind)) ([] : (List Sapi_Life)) ([] : (List Sapi_Rule)))) (n0 1),own rSapi_Kind 47 (([] : List Sapi_Kind) ++ (x_).Kinds) (n1 3),own rSapi_Life 67 (([] : List Sapi_Life) ++ (x_).Lives) (n2 3),own rSapi_Rule 100 (([] : List Sapi_Rule) ++ (x_).Rules) (n3 3),box ([ti (x_).Version,tvs (n1 3),tvs (n2 3),tvs (n3 3)]) (n0 0),own rSapi_Field 44 t66s (n7 7)] a w := (hst.pick [0,2,11,13,15,16,17,18,19,20,21,22,23,24,25])
          obtain rfl := sj h
          exact hJp4206 _ _ (hst.pick [6,9,13,14])
         ·replace h := ite_f b4208 h
          refine wp_skip ?_
          obtain rfl := sj h
          exact hJp4206 _ _ (hst.pick [6,9,13,14])
        ·replace h := ite_f b4209 h
         refine wp_skip ?_
         obtain rfl := sj h
         exact hJp4191 _ _ ((hst.pick [7,8]).selA [0,2,3,4,1] rfl)

/- diorama/dioramalaw10.some -/
noncomputable def flaw10_some (l_ : (List Int)) (at_ : Int) (how_ : Int) (by_ : Int) : Option ((List Sapi_Schema)) := (fref09_Schema l_).bind fun t12 => (fref10_Bent t12 at_ how_ by_).bind fun t17 => (fref10_Bent t17 by_ (IntKind.i64.wrap (Int.tdiv how_ (9:Int))) at_).bind fun t25 => (fref09_Spoilt t12 at_ how_ by_).bind fun t30 => (some [t12,t17,t25,t30,(Sapi_Schema.mk (0:Int) ([] : (List Sapi_Kind)) ([] : (List Sapi_Life)) ([] : (List Sapi_Rule)))])
set_option maxRecDepth 100000 in
set_option maxHeartbeats 4000000 in
theorem law10_some_ok {l_ : (List Int)} {at_ : Int} {how_ : Int} {by_ : Int} {r : (List Sapi_Schema)} (h : flaw10_some l_ at_ how_ by_ = some r) : FnOk Tryz.prog 7 [tsl rI l_,ti at_,ti how_,ti by_] [] (fun _ => []) (fun _ => tsl rSapi_Schema r) := by
 unfold flaw10_some at h
 refine FnOk.enter Tryz.func7 rfl Tryz.ntmps7 (leb rfl) (fun M0 M w0 a hpl hst => ?_)
 replace hst : St M w0 33 [(0,tsl rI l_),(1,ti at_),(2,ti how_),(3,ti by_)] [] a w0 := hst
 refine wp_seq_k (fun K1 hK1 => ?_)
 refine wp_reg mixed [] hst (fun _ => .p rfl (op_assign (.nilsl (R := rSapi_Schema))) <| .nil _ _) (by kernel_rfl) (fun n0 a w hst => ?_)
 replace hst : St M w0 33 [(0,tsl rI l_),(1,ti at_),(2,ti how_),(3,ti by_)] [] a w := (hst.pick [1,2,3,4])
 refine hK1 _ _ ?_
 try clear hK1 K1
 refine wp_seq_k (fun K2 hK2 => ?_)
 obtain ⟨t12,ht12,h⟩ := bind_some h
 refine wp_reg mixed [v1 2 (fun v0 => box (rSapi_Schema.cs (Sapi_Schema.mk (0:Int) ([] : (List Sapi_Kind)) ([] : (List Sapi_Life)) ([] : (List Sapi_Rule)))) v0),v1 2 (fun v0 => box (rSapi_Schema.cs t12) v0)] hst (fun _ => .q 0 rfl <| .p rfl (op_callF call22 (ref09_Schema_ok ht12) (.cons (.of (.t 0 rfl)) <| .nil)) <| .m [] [0] rfl rfl rfl (op_alloc (R := rSapi_Schema) (a := (Sapi_Schema.mk (0:Int) ([] : (List Sapi_Kind)) ([] : (List Sapi_Life)) ([] : (List Sapi_Rule)))) tok34 zok34) <| .e [] [0] [1] rfl rfl rfl rfl (op_storeB (R := rSapi_Schema) (a := t12) tok34 (.t 0 rfl) (.t 1 rfl) (leb rfl)) <| .nil _ _) (by kernel_rfl) (fun n1 a w hst => ?_)
 replace hst : St M w0 33 [(9,tptr (rSapi_Schema.cs t12)),(1,ti at_),(2,ti how_),(3,ti by_)] [] a w := ((((hst.pick [2,4,5,6]).shareB 0 rfl).add 0 rfl (fun _ _ _ h => h.2)).pick [0,3,4,5])
 refine hK2 _ _ ?_
 try clear hK2 K2
 refine wp_seq_k (fun K4 hK4 => ?_)
 obtain ⟨t17,ht17,h⟩ := bind_some h
 refine wp_reg mixed [v1 5 (fun v0 => box (rSapi_Schema.cs (Sapi_Schema.mk (0:Int) ([] : (List Sapi_Kind)) ([] : (List Sapi_Life)) ([] : (List Sapi_Rule)))) v0),v1 5 (fun v0 => box (rSapi_Schema.cs t17) v0)] hst (fun _ => .p rfl (op_load tok34 (.t 0 rfl)) <| .q 2 rfl <| .q 4 rfl <| .q 6 rfl <| .p rfl (op_callF call30 (ref10_Bent_ok ht17) (.cons (.of (.t 3 rfl)) <| .cons (.of (.t 2 rfl)) <| .cons (.of (.t 1 rfl)) <| .cons (.of (.t 0 rfl)) <| .nil)) <| .m [] [0] rfl rfl rfl (op_alloc (R := rSapi_Schema) (a := (Sapi_Schema.mk (0:Int) ([] : (List Sapi_Kind)) ([] : (List Sapi_Life)) ([] : (List Sapi_Rule)))) tok34 zok34) <| .e [] [0] [1] rfl rfl rfl rfl (op_storeB (R := rSapi_Schema) (a := t17) tok34 (.t 0 rfl) (.t 1 rfl) (leb rfl)) <| .nil _ _) (by kernel_rfl) (fun n2 a w hst => ?_)
 replace hst : St M w0 33 [(10,tptr (rSapi_Schema.cs t17)),(9,tptr (rSapi_Schema.cs t12)),(1,ti at_),(2,ti how_),(3,ti by_)] [] a w := ((((hst.pick [5,6,7,8,9]).shareB 0 rfl).add 0 rfl (fun _ _ _ h => h.2)).pick [0,3,4,5,6])
 refine hK4 _ _ ?_
 try clear hK4 K4
 refine wp_seq_k (fun K6 hK6 => ?_)
 obtain ⟨t25,ht25,h⟩ := bind_some h
 obtain ⟨t30,ht30,h⟩ := bind_some h
 refine wp_reg mixed [] hst (fun _ => .p rfl (op_load tok34 (.t 1 rfl)) <| .p rfl (op_load tok34 (.t 1 rfl)) <| .p rfl (op_load tok34 (.t 2 rfl)) <| .q 7 rfl <| .q 7 rfl <| .p rfl (op_quo (.t 0 rfl) .k (by decide)) <| .q 8 rfl <| .p rfl (op_callF call30 (ref10_Bent_ok ht25) (.cons (.of (.t 4 rfl)) <| .cons (.of (.t 3 rfl)) <| .cons (.of (.t 1 rfl)) <| .cons (.of (.t 0 rfl)) <| .nil)) <| .p rfl (op_load tok34 (.t 9 rfl)) <| .q 11 rfl <| .q 13 rfl <| .q 15 rfl <| .p rfl (op_callF call31 (ref09_Spoilt_ok ht30) (.cons (.of (.t 3 rfl)) <| .cons (.of (.t 2 rfl)) <| .cons (.of (.t 1 rfl)) <| .cons (.of (.t 0 rfl)) <| .nil)) <| .p (T := rSapi_Schema.ty (Sapi_Schema.mk (0:Int) ([] : (List Sapi_Kind)) ([] : (List Sapi_Life)) ([] : (List Sapi_Rule)))) rfl (op_build Tryz.underlying34 pl34 zv34 zc34 (.nil _)) <| .p rfl (op_buildSl (R := rSapi_Schema) (us := [t12,t17,t25,t30,(Sapi_Schema.mk (0:Int) ([] : (List Sapi_Kind)) ([] : (List Sapi_Life)) ([] : (List Sapi_Rule)))]) Tryz.underlying23 tok34 (.cons (.t 13 rfl) <| .cons (.t 12 rfl) <| .cons (.t 6 rfl) <| .cons (.t 1 rfl) <| .cons (.t 0 rfl) <| .nil _) rfl (leb rfl)) <| .p rfl (op_assign (.t 0 rfl)) <| .nil _ _) (by kernel_rfl) (fun n3 a w hst => ?_)
 replace hst : St M w0 33 [(8,tsl rSapi_Schema [t12,t17,t25,t30,(Sapi_Schema.mk (0:Int) ([] : (List Sapi_Kind)) ([] : (List Sapi_Life)) ([] : (List Sapi_Rule)))])] [] a w := (hst.pick [15])
 refine hK6 _ _ ?_
 try clear hK6 K6
 refine wp_ret ?_
 obtain rfl := sj h
 exact ret_st undef [] hpl hst rfl (.tmp (.t 0 rfl) .nil) rfl rfl rfl

/- diorama/typing.at -/
noncomputable def ftyping_at (x_ : Sapi_Schema) (kind_ : Int) (field_ : Int) : Option (Sapi_Field × Bool) := (opt ((((decide (kind_ < (0:Int))) || (decide (kind_ ≥ ((x_).Kinds.length : Int)))) || (decide (field_ < (0:Int)))) == false) (idx (x_).Kinds kind_) default).bind fun t26 => (if ((((decide (kind_ < (0:Int))) || (decide (kind_ ≥ ((x_).Kinds.length : Int)))) || (decide (field_ < (0:Int)))) || (decide (field_ ≥ ((t26).Fields.length : Int)))) = true then (some ((Sapi_Field.mk ([] : Str) ([] : Str) ([] : Str) (0:Int) (0:Int) (0:Int) ([] : (List Str)) ([] : (List Int))),false)) else (idx (x_).Kinds kind_).bind fun t36 => (idx (t36).Fields field_).bind fun t40 => (some (t40,true)))
set_option maxRecDepth 100000 in
set_option maxHeartbeats 4000000 in
theorem typing_at_ok {x_ : Sapi_Schema} {kind_ : Int} {field_ : Int} {r : Sapi_Field × Bool} (h : ftyping_at x_ kind_ field_ = some r) : FnOk Tryz.prog 44 [rSapi_Schema.ty x_,ti kind_,ti field_] [] (fun _ => []) (fun _ => ttup [rSapi_Field.ty r.1,tb r.2]) := by
 unfold ftyping_at at h
 refine FnOk.enter Tryz.func44 rfl Tryz.ntmps44 (leb rfl) (fun M0 M w0 a hpl hst => ?_)
 replace hst : St M w0 42 [(0,rSapi_Schema.ty x_),(1,ti kind_),(2,ti field_)] [] a w0 := hst
 refine wp_seq_k (fun K1 hK1 => ?_)
 refine wp_reg mixed [v1 1 (fun v0 => box (rSapi_Field.cs (Sapi_Field.mk ([] : Str) ([] : Str) ([] : Str) (0:Int) (0:Int) (0:Int) ([] : (List Str)) ([] : (List Int)))) v0)] hst (fun _ => .p rfl (op_boxR (R := rSapi_Schema) (u := x_) (.t 0 rfl)) <| .m [] [0] rfl rfl rfl (op_alloc (R := rSapi_Field) (a := (Sapi_Field.mk ([] : Str) ([] : Str) ([] : Str) (0:Int) (0:Int) (0:Int) ([] : (List Str)) ([] : (List Int)))) tok44 zok44) <| .p rfl (op_assign .k) <| .nil _ _) (by kernel_rfl) (fun n0 a w hst => ?_)
 replace hst : St M w0 42 [(3,tptr (rSapi_Schema.cs x_)),(6,tv (n0 1)),(1,ti kind_),(2,ti field_)] [box (rSapi_Field.cs (Sapi_Field.mk ([] : Str) ([] : Str) ([] : Str) (0:Int) (0:Int) (0:Int) ([] : (List Str)) ([] : (List Int)))) (n0 1)] a w := (hst.pick [0,1,4,5])
 refine hK1 _ _ ?_
 try clear hK1 K1
 refine wp_seq_k (fun K3 hK3 => ?_)
 refine wp_seq_k (fun K4 hK4 => ?_)
 obtain ⟨t26,ht26,h⟩ := bind_some h
 refine wp_reg mixed [] hst (fun _ => .q 2 rfl <| .p rfl (op_lss (.t 0 rfl) .k) <| .q 0 rfl <| .g rfl rfl (.b 0 rfl) (fun _ => op_move (.t 5 rfl)) <| .g rfl rfl (.b 1 rfl) (fun _ => op_field fld34_1 (.t 4 rfl)) <| .g rfl rfl (.b 2 rfl) (fun hc => op_loadT (R := (rSl rSapi_Kind)) (u := (x_).Kinds) tok30 (.cond (.t 0 rfl) hc) rfl) <| .g rfl rfl (.b 3 rfl) (fun hc => op_len Tryz.underlying30 (.cond (.t 0 rfl) hc)) <| .g rfl rfl (.b 4 rfl) (fun hc => op_geq (.cond (.t 3 rfl) hc) (.cond (.t 0 rfl) hc)) <| .p rfl (op_or (.t 5 rfl) (fun hp => (.cond (.t 0 rfl) (beqF hp)))) <| .q 0 rfl <| .g rfl rfl (.b 0 rfl) (fun _ => op_move (.t 13 rfl)) <| .g rfl rfl (.b 1 rfl) (fun hc => op_lss (.cond (.t 0 rfl) hc) .k) <| .p rfl (op_or (.t 2 rfl) (fun hp => (.cond (.t 0 rfl) (beqF hp)))) <| .q 0 rfl <| .g rfl rfl (.b 0 rfl) (fun _ => op_move (.t 17 rfl)) <| .g rfl rfl (.b 1 rfl) (fun _ => op_field fld34_1 (.t 15 rfl)) <| .g rfl rfl (.b 2 rfl) (fun hc => op_loadT (R := (rSl rSapi_Kind)) (u := (x_).Kinds) tok30 (.cond (.t 0 rfl) hc) rfl) <| .g rfl rfl (.b 3 rfl) (fun _ => op_move (.t 19 rfl)) <| .g rfl rfl (.b 4 rfl) (fun hc => op_index Tryz.underlying30 tok47 (.cond (.t 1 rfl) hc) (.cond (.t 0 rfl) hc) (opt_t ht26 hc)) <| .g rfl rfl (.b 5 rfl) (fun hc => op_field fld47_3 (.cond (.t 0 rfl) hc)) <| .g rfl rfl (.b 6 rfl) (fun hc => op_loadT (R := (rSl rSapi_Field)) (u := (t26).Fields) tok45 (.cond (.t 0 rfl) hc) rfl) <| .g rfl rfl (.b 7 rfl) (fun hc => op_len Tryz.underlying45 (.cond (.t 0 rfl) hc)) <| .g rfl rfl (.b 8 rfl) (fun hc => op_geq (.cond (.t 7 rfl) hc) (.cond (.t 0 rfl) hc)) <| .p rfl (op_or (.t 9 rfl) (fun hp => (.cond (.t 0 rfl) (beqF hp)))) <| .nil _ _) (by kernel_rfl) (fun n1 a w hst => ?_)
 replace hst : St M w0 42 [(31,tb ((((decide (kind_ < (0:Int))) || (decide (kind_ ≥ ((x_).Kinds.length : Int)))) || (decide (field_ < (0:Int)))) || (decide (field_ ≥ ((t26).Fields.length : Int))))),(3,tptr (rSapi_Schema.cs x_)),(6,tv (n0 1)),(1,ti kind_),(2,ti field_)] [box (rSapi_Field.cs (Sapi_Field.mk ([] : Str) ([] : Str) ([] : Str) (0:Int) (0:Int) (0:Int) ([] : (List Str)) ([] : (List Int)))) (n0 1)] a w := (hst.pick [23,24,25,26,27])
 refine hK4 _ _ ?_
 try clear hK4 K4
 refine wp_test 0 hst rfl (fun b7 => ?_) (fun b7 => ?_)
 ·replace h := ite_t b7 h
  refine wp_seq_k (fun K5 hK5 => ?_)
  refine wp_reg mixed [v0 (box (rSapi_Field.cs (Sapi_Field.mk ([] : Str) ([] : Str) ([] : Str) (0:Int) (0:Int) (0:Int) ([] : (List Str)) ([] : (List Int)))) (n0 1))] hst (fun _ => .p (T := rSapi_Field.ty (Sapi_Field.mk ([] : Str) ([] : Str) ([] : Str) (0:Int) (0:Int) (0:Int) ([] : (List Str)) ([] : (List Int)))) rfl (op_build Tryz.underlying44 pl44 zv44 zc44 (.nil _)) <| .e [] [0] [1] rfl rfl rfl rfl (op_storeB (R := rSapi_Field) (a := (Sapi_Field.mk ([] : Str) ([] : Str) ([] : Str) (0:Int) (0:Int) (0:Int) ([] : (List Str)) ([] : (List Int)))) tok44 (.t 3 rfl) (.t 0 rfl) (leb rfl)) <| .p rfl (op_assign .k) <| .nil _ _) (by kernel_rfl) (fun n2 a w hst => ?_)
  replace hst : St M w0 42 [(7,tb false),(6,tv (n0 1))] [box (rSapi_Field.cs (Sapi_Field.mk ([] : Str) ([] : Str) ([] : Str) (0:Int) (0:Int) (0:Int) ([] : (List Str)) ([] : (List Int)))) (n0 1)] a w := (hst.pick [1,4])
  refine hK5 _ _ ?_
  try clear hK5 K5
  refine wp_ret ?_
  obtain rfl := sj h
  exact ret_st undef [] hpl hst rfl (.cell (R := rSapi_Field) (u := (Sapi_Field.mk ([] : Str) ([] : Str) ([] : Str) (0:Int) (0:Int) (0:Int) ([] : (List Str)) ([] : (List Int)))) tok44 (.t 1 rfl) 0 rfl rfl (.tmp (.t 0 rfl) .nil)) rfl rfl rfl
 ·replace h := ite_f b7 h
  refine wp_skip ?_
  refine hK3 _ _ ?_
  try clear hK3 K3
  refine wp_seq_k (fun K6 hK6 => ?_)
  obtain ⟨t36,ht36,h⟩ := bind_some h
  obtain ⟨t40,ht40,h⟩ := bind_some h
  refine wp_reg mixed [v0 (box (rSapi_Field.cs t40) (n0 1))] hst (fun _ => .p rfl (op_field fld34_1 (.t 1 rfl)) <| .p rfl (op_loadT (R := (rSl rSapi_Kind)) (u := (x_).Kinds) tok30 (.t 0 rfl) rfl) <| .q 5 rfl <| .p rfl (op_index Tryz.underlying30 tok47 (.t 1 rfl) (.t 0 rfl) ht36) <| .p rfl (op_field fld47_3 (.t 0 rfl)) <| .p rfl (op_loadT (R := (rSl rSapi_Field)) (u := (t36).Fields) tok45 (.t 0 rfl) rfl) <| .q 10 rfl <| .p rfl (op_index Tryz.underlying45 tok44 (.t 1 rfl) (.t 0 rfl) ht40) <| .p rfl (op_load tok44 (.t 0 rfl)) <| .e [] [0] [1] rfl rfl rfl rfl (op_storeB (R := rSapi_Field) (a := t40) tok44 (.t 11 rfl) (.t 0 rfl) (leb rfl)) <| .p rfl (op_assign .k) <| .nil _ _) (by kernel_rfl) (fun n3 a w hst => ?_)
  replace hst : St M w0 42 [(7,tb true),(6,tv (n0 1))] [box (rSapi_Field.cs t40) (n0 1)] a w := (hst.pick [9,12])
  refine hK6 _ _ ?_
  try clear hK6 K6
  refine wp_ret ?_
  obtain rfl := sj h
  exact ret_st undef [] hpl hst rfl (.cell (R := rSapi_Field) (u := t40) tok44 (.t 1 rfl) 0 rfl rfl (.tmp (.t 0 rfl) .nil)) rfl rfl rfl

/- diorama/typing.Kind$1 -/
noncomputable def ftyping_Kindq1 (k_ : Sapi_Kind) (c0_ : Str) : Option (Bool) := (some ((k_).Name == c0_))
set_option maxRecDepth 100000 in
set_option maxHeartbeats 4000000 in
theorem typing_Kindq1_ok {k_ : Sapi_Kind} {c0_ : Str} {r : Bool} (h : ftyping_Kindq1 k_ c0_ = some r) : FnOk Tryz.prog 48 [rSapi_Kind.ty k_,tptr (rS.cs c0_)] [] (fun _ => []) (fun _ => tb r) := by
 unfold ftyping_Kindq1 at h
 refine FnOk.enter Tryz.func48 rfl Tryz.ntmps48 (leb rfl) (fun M0 M w0 a hpl hst => ?_)
 replace hst : St M w0 8 [(0,rSapi_Kind.ty k_),(1,tptr (rS.cs c0_))] [] a w0 := hst
 refine wp_seq_k (fun K1 hK1 => ?_)
 refine wp_reg mixed [] hst (fun _ => .p rfl (op_boxR (R := rSapi_Kind) (u := k_) (.t 0 rfl)) <| .p rfl (op_assign .k) <| .nil _ _) (by kernel_rfl) (fun n0 a w hst => ?_)
 replace hst : St M w0 8 [(2,tptr (rSapi_Kind.cs k_)),(1,tptr (rS.cs c0_))] [] a w := (hst.pick [0,3])
 refine hK1 _ _ ?_
 try clear hK1 K1
 refine wp_seq_k (fun K2 hK2 => ?_)
 refine wp_reg mixed [] hst (fun _ => .p rfl (op_field fld47_0 (.t 0 rfl)) <| .p rfl (op_loadT (R := rS) (u := (k_).Name) tok9 (.t 0 rfl) rfl) <| .p rfl (op_load tok9 (.t 3 rfl)) <| .p rfl (op_eqlS (.t 1 rfl) (.t 0 rfl)) <| .p rfl (op_assign (.t 0 rfl)) <| .nil _ _) (by kernel_rfl) (fun n1 a w hst => ?_)
 replace hst : St M w0 8 [(3,tb ((k_).Name == c0_))] [] a w := (hst.pick [4])
 refine hK2 _ _ ?_
 try clear hK2 K2
 refine wp_ret ?_
 obtain rfl := sj h
 exact ret_st undef [] hpl hst rfl (.tmp (.t 0 rfl) .nil) rfl rfl rfl

/- slices.IndexFunc[[]diorama/api.Kind,diorama/api.Kind] -/
noncomputable def fslices_IndexFunc_Kind (s_ : (List Sapi_Kind)) (f_ : (Sapi_Kind → Option Bool)) : Option (Int) := (tailrec (fun (s4 : Int) => ((if (decide (s4 < (s_.length : Int))) = true then (idx s_ s4).bind fun t14 => (f_ t14).bind fun t16 => (if t16 = true then (some (.inr (.inr s4))) else (some (.inl (IntKind.i64.wrap (s4 + (1:Int)))))) else (some (.inr (.inl ())))) : Option ((Int) ⊕ ((Unit) ⊕ (Int))))) (0:Int)).bind fun (e5 : (Unit) ⊕ (Int)) => (match e5 with | .inl p22 => (some (-1:Int)) | .inr p23 => (some p23))
set_option maxRecDepth 100000 in
set_option maxHeartbeats 4000000 in
theorem slices_IndexFunc_Kind_ok {s_ : (List Sapi_Kind)} {f_ : (Sapi_Kind → Option Bool)} {r : Int} (h : fslices_IndexFunc_Kind s_ f_ = some r) : FnOk Tryz.prog 47 [tsl rSapi_Kind s_,rF90.ty f_] [] (fun _ => []) (fun _ => ti r) := by
 unfold fslices_IndexFunc_Kind at h
 refine FnOk.enter Tryz.func47 rfl Tryz.ntmps47 (leb rfl) (fun M0 M w0 a hpl hst => ?_)
 replace hst : St M w0 19 [(0,tsl rSapi_Kind s_),(1,rF90.ty f_)] [] a w0 := hst
 refine wp_seq_k (fun K1 hK1 => ?_)
 refine wp_reg mixed [] hst (fun _ => .p rfl (op_assign .k) <| .nil _ _) (by kernel_rfl) (fun n0 a w hst => ?_)
 replace hst : St M w0 19 [(0,tsl rSapi_Kind s_),(1,rF90.ty f_)] [] a w := (hst.pick [1,2])
 refine hK1 _ _ ?_
 try clear hK1 K1
 refine wp_seq_k (fun K2 hK2 => ?_)
 refine wp_seq_k (fun K3 hK3 => ?_)
 refine wp_reg mixed [] hst (fun _ => .q 0 rfl <| .p rfl (op_len Tryz.underlying30 (.t 0 rfl)) <| .p rfl (op_move .k) <| .nil _ _) (by kernel_rfl) (fun n1 a w hst => ?_)
 replace hst : St M w0 19 [(7,ti (s_.length : Int)),(8,ti (0:Int)),(0,tsl rSapi_Kind s_),(1,rF90.ty f_)] [] a w := (hst.pick [1,2,3,4])
 refine hK3 _ _ ?_
 try clear hK3 K3
 obtain ⟨e5,he5,h⟩ := bind_some h
 have hJp22 : ∀ (p22 : Unit) a w,(.inl p22) = e5 → St M w0 19 [] [] a w → K2 a w := by
  intro p22 a w he hst
  subst he
  simp only at h
  refine hK2 _ _ ?_
  try clear hK2 K2
  refine wp_seq_k (fun K24 hK24 => ?_)
  refine wp_reg mixed [] hst (fun _ => .p rfl (op_assign .k) <| .nil _ _) (by kernel_rfl) (fun n7 a w hst => ?_)
  replace hst : St M w0 19 [(4,ti (-1:Int))] [] a w := (hst.pick [0])
  refine hK24 _ _ ?_
  try clear hK24 K24
  refine wp_ret ?_
  obtain rfl := sj h
  exact ret_st undef [] hpl hst rfl (.tmp (.t 0 rfl) .nil) rfl rfl rfl
 have hJp23 : ∀ (p23 : Int) a w,(.inr p23) = e5 → St M w0 19 [(4,ti p23)] [] a w → Ret Tryz.prog Tryz.f47 M0 [] w0 (fun _ => []) (fun _ => ti r) .ret a w := by
  intro p23 a w he hst
  subst he
  simp only at h
  obtain rfl := sj h
  exact ret_st undef [] hpl hst rfl (.tmp (.t 0 rfl) .nil) rfl rfl rfl
 refine wp_block ?_
 refine wp_loopK _ (fun (s4 : Int) a w => St M w0 19 [(7,ti (s_.length : Int)),(8,ti s4),(0,tsl rSapi_Kind s_),(1,rF90.ty f_)] [] a w) _ _ he5 (hst.pick [0,1,2,3]) ?_
 clear h
 intro s4 o a w K25 hI h ho hK25
 have hst := hI
 clear hI
 refine wp_seq_k (fun K26 hK26 => ?_)
 refine wp_reg mixed [] hst (fun _ => .p rfl (op_lss (.t 1 rfl) (.t 0 rfl)) <| .nil _ _) (by kernel_rfl) (fun n2 a w hst => ?_)
 replace hst : St M w0 19 [(9,tb (decide (s4 < (s_.length : Int)))),(7,ti (s_.length : Int)),(8,ti s4),(0,tsl rSapi_Kind s_),(1,rF90.ty f_)] [] a w := (hst.pick [0,1,2,3,4])
 refine hK26 _ _ ?_
 try clear hK26 K26
 refine wp_seq_k (fun K27 hK27 => ?_)
 refine wp_test 0 hst rfl (fun b33 => ?_) (fun b33 => ?_)
 ·replace h := ite_t b33 h
  refine wp_skip ?_
  refine hK27 _ _ ?_
  try clear hK27 K27
  refine wp_seq_k (fun K28 hK28 => ?_)
  refine wp_block ?_
  refine wp_seq_k (fun K29 hK29 => ?_)
  refine wp_reg mixed [] hst (fun _ => .q 2 rfl <| .p rfl (op_assign (.t 0 rfl)) <| .nil _ _) (by kernel_rfl) (fun n3 a w hst => ?_)
  replace hst : St M w0 19 [(5,ti s4),(7,ti (s_.length : Int)),(8,ti s4),(0,tsl rSapi_Kind s_),(1,rF90.ty f_)] [] a w := (hst.pick [1,3,4,5,6])
  refine hK29 _ _ ?_
  try clear hK29 K29
  refine wp_seq_k (fun K30 hK30 => ?_)
  obtain ⟨t14,ht14,h⟩ := bind_some h
  obtain ⟨t16,ht16,h⟩ := bind_some h
  refine wp_reg mixed [] hst (fun _ => .q 4 rfl <| .q 4 rfl <| .q 2 rfl <| .p rfl (op_index Tryz.underlying30 tok47 (.t 1 rfl) (.t 0 rfl) ht14) <| .p rfl (op_load tok47 (.t 0 rfl)) <| .p rfl (op_callT (u := t14) (.t 4 rfl) (.cons (.of (.t 0 rfl)) <| .nil) ht16) <| .nil _ _) (by kernel_rfl) (fun n4 a w hst => ?_)
  replace hst : St M w0 19 [(16,tb t16),(5,ti s4),(7,ti (s_.length : Int)),(8,ti s4),(0,tsl rSapi_Kind s_),(1,rF90.ty f_)] [] a w := (hst.pick [5,6,7,8,9,10])
  refine hK30 _ _ ?_
  try clear hK30 K30
  refine wp_test 0 hst rfl (fun b32 => ?_) (fun b32 => ?_)
  ·replace h := ite_t b32 h
   refine wp_seq_k (fun K31 hK31 => ?_)
   refine wp_reg mixed [] hst (fun _ => .q 1 rfl <| .p rfl (op_assign (.t 0 rfl)) <| .nil _ _) (by kernel_rfl) (fun n5 a w hst => ?_)
   replace hst : St M w0 19 [(4,ti s4)] [] a w := (hst.pick [1])
   refine hK31 _ _ ?_
   try clear hK31 K31
   refine wp_ret ?_
   exact hJp23 _ _ _ (ho _ (sj h).symm) (hst.pick [0])
  ·replace h := ite_f b32 h
   refine wp_skip ?_
   refine hK28 _ _ ?_
   try clear hK28 K28
   refine wp_reg mixed [] hst (fun _ => .p rfl (op_add (.t 3 rfl) .k) <| .q 0 rfl <| .nil _ _) (by kernel_rfl) (fun n6 a w hst => ?_)
   replace hst : St M w0 19 [(8,ti (IntKind.i64.wrap (s4 + (1:Int)))),(7,ti (s_.length : Int)),(0,tsl rSapi_Kind s_),(1,rF90.ty f_)] [] a w := (hst.pick [1,4,5,6])
   exact hK25 _ _ _ (sj h).symm (hst.pick [1,0,2,3])
 ·replace h := ite_f b33 h
  refine wp_exit ?_
  exact hJp22 _ _ _ (ho _ (sj h).symm) (hst.pick [])

/- diorama/typing.Kind -/
noncomputable def ftyping_Kind (x_ : Sapi_Schema) (name_ : Str) : Option (Int) := (fslices_IndexFunc_Kind (x_).Kinds (fun x0 => ftyping_Kindq1 x0 name_)).bind fun t8 => (some t8)
set_option maxRecDepth 100000 in
set_option maxHeartbeats 4000000 in
theorem typing_Kind_ok {x_ : Sapi_Schema} {name_ : Str} {r : Int} (h : ftyping_Kind x_ name_ = some r) : FnOk Tryz.prog 18 [rSapi_Schema.ty x_,tv (.string (sB name_))] [] (fun _ => []) (fun _ => ti r) := by
 unfold ftyping_Kind at h
 refine FnOk.enter Tryz.func18 rfl Tryz.ntmps18 (leb rfl) (fun M0 M w0 a hpl hst => ?_)
 replace hst : St M w0 9 [(0,rSapi_Schema.ty x_),(1,tv (.string (sB name_)))] [] a w0 := hst
 refine wp_seq_k (fun K1 hK1 => ?_)
 refine wp_reg mixed [] hst (fun _ => .p rfl (op_boxR (R := rSapi_Schema) (u := x_) (.t 0 rfl)) <| .p rfl (op_boxR (R := rS) (u := name_) (.t 2 rfl)) <| .p rfl (op_assign .k) <| .nil _ _) (by kernel_rfl) (fun n0 a w hst => ?_)
 replace hst : St M w0 9 [(2,tptr (rSapi_Schema.cs x_)),(3,tptr (rS.cs name_))] [] a w := (hst.pick [0,1])
 refine hK1 _ _ ?_
 try clear hK1 K1
 refine wp_seq_k (fun K2 hK2 => ?_)
 obtain ⟨t8,ht8,h⟩ := bind_some h
 refine wp_reg mixed [] hst (fun _ => .p rfl (op_field fld34_1 (.t 0 rfl)) <| .p rfl (op_loadT (R := (rSl rSapi_Kind)) (u := (x_).Kinds) tok30 (.t 0 rfl) rfl) <| .p rfl (op_clo (.cons (.t 3 rfl) <| .nil)) <| .p rfl (op_callF call47 (slices_IndexFunc_Kind_ok ht8) (.cons (.of (.t 1 rfl)) <| .cons (.of (Fct.weak (.t 0 rfl) (tfn_of call48 (fun _ _ hq => typing_Kindq1_ok hq)))) <| .nil)) <| .p rfl (op_assign (.t 0 rfl)) <| .nil _ _) (by kernel_rfl) (fun n1 a w hst => ?_)
 replace hst : St M w0 9 [(4,ti t8)] [] a w := (hst.pick [4])
 refine hK2 _ _ ?_
 try clear hK2 K2
 refine wp_ret ?_
 obtain rfl := sj h
 exact ret_st undef [] hpl hst rfl (.tmp (.t 0 rfl) .nil) rfl rfl rfl

/- diorama/typing.Field$1 -/
noncomputable def ftyping_Fieldq1 (f_ : Sapi_Field) (c0_ : Str) : Option (Bool) := (some ((f_).Name == c0_))
set_option maxRecDepth 100000 in
set_option maxHeartbeats 4000000 in
theorem typing_Fieldq1_ok {f_ : Sapi_Field} {c0_ : Str} {r : Bool} (h : ftyping_Fieldq1 f_ c0_ = some r) : FnOk Tryz.prog 50 [rSapi_Field.ty f_,tptr (rS.cs c0_)] [] (fun _ => []) (fun _ => tb r) := by
 unfold ftyping_Fieldq1 at h
 refine FnOk.enter Tryz.func50 rfl Tryz.ntmps50 (leb rfl) (fun M0 M w0 a hpl hst => ?_)
 replace hst : St M w0 8 [(0,rSapi_Field.ty f_),(1,tptr (rS.cs c0_))] [] a w0 := hst
 refine wp_seq_k (fun K1 hK1 => ?_)
 refine wp_reg mixed [] hst (fun _ => .p rfl (op_boxR (R := rSapi_Field) (u := f_) (.t 0 rfl)) <| .p rfl (op_assign .k) <| .nil _ _) (by kernel_rfl) (fun n0 a w hst => ?_)
 replace hst : St M w0 8 [(2,tptr (rSapi_Field.cs f_)),(1,tptr (rS.cs c0_))] [] a w := (hst.pick [0,3])
 refine hK1 _ _ ?_
 try clear hK1 K1
 refine wp_seq_k (fun K2 hK2 => ?_)
 refine wp_reg mixed [] hst (fun _ => .p rfl (op_field fld44_0 (.t 0 rfl)) <| .p rfl (op_loadT (R := rS) (u := (f_).Name) tok9 (.t 0 rfl) rfl) <| .p rfl (op_load tok9 (.t 3 rfl)) <| .p rfl (op_eqlS (.t 1 rfl) (.t 0 rfl)) <| .p rfl (op_assign (.t 0 rfl)) <| .nil _ _) (by kernel_rfl) (fun n1 a w hst => ?_)
 replace hst : St M w0 8 [(3,tb ((f_).Name == c0_))] [] a w := (hst.pick [4])
 refine hK2 _ _ ?_
 try clear hK2 K2
 refine wp_ret ?_
 obtain rfl := sj h
 exact ret_st undef [] hpl hst rfl (.tmp (.t 0 rfl) .nil) rfl rfl rfl

/- slices.IndexFunc[[]diorama/api.Field,diorama/api.Field] -/
noncomputable def fslices_IndexFunc_Field (s_ : (List Sapi_Field)) (f_ : (Sapi_Field → Option Bool)) : Option (Int) := (tailrec (fun (s4 : Int) => ((if (decide (s4 < (s_.length : Int))) = true then (idx s_ s4).bind fun t14 => (f_ t14).bind fun t16 => (if t16 = true then (some (.inr (.inr s4))) else (some (.inl (IntKind.i64.wrap (s4 + (1:Int)))))) else (some (.inr (.inl ())))) : Option ((Int) ⊕ ((Unit) ⊕ (Int))))) (0:Int)).bind fun (e5 : (Unit) ⊕ (Int)) => (match e5 with | .inl p22 => (some (-1:Int)) | .inr p23 => (some p23))
set_option maxRecDepth 100000 in
set_option maxHeartbeats 4000000 in
theorem slices_IndexFunc_Field_ok {s_ : (List Sapi_Field)} {f_ : (Sapi_Field → Option Bool)} {r : Int} (h : fslices_IndexFunc_Field s_ f_ = some r) : FnOk Tryz.prog 49 [tsl rSapi_Field s_,rF92.ty f_] [] (fun _ => []) (fun _ => ti r) := by
 unfold fslices_IndexFunc_Field at h
 refine FnOk.enter Tryz.func49 rfl Tryz.ntmps49 (leb rfl) (fun M0 M w0 a hpl hst => ?_)
 replace hst : St M w0 19 [(0,tsl rSapi_Field s_),(1,rF92.ty f_)] [] a w0 := hst
 refine wp_seq_k (fun K1 hK1 => ?_)
 refine wp_reg mixed [] hst (fun _ => .p rfl (op_assign .k) <| .nil _ _) (by kernel_rfl) (fun n0 a w hst => ?_)
 replace hst : St M w0 19 [(0,tsl rSapi_Field s_),(1,rF92.ty f_)] [] a w := (hst.pick [1,2])
 refine hK1 _ _ ?_
 try clear hK1 K1
 refine wp_seq_k (fun K2 hK2 => ?_)
 refine wp_seq_k (fun K3 hK3 => ?_)
 refine wp_reg mixed [] hst (fun _ => .q 0 rfl <| .p rfl (op_len Tryz.underlying45 (.t 0 rfl)) <| .p rfl (op_move .k) <| .nil _ _) (by kernel_rfl) (fun n1 a w hst => ?_)
 replace hst : St M w0 19 [(7,ti (s_.length : Int)),(8,ti (0:Int)),(0,tsl rSapi_Field s_),(1,rF92.ty f_)] [] a w := (hst.pick [1,2,3,4])
 refine hK3 _ _ ?_
 try clear hK3 K3
 obtain ⟨e5,he5,h⟩ := bind_some h
 have hJp22 : ∀ (p22 : Unit) a w,(.inl p22) = e5 → St M w0 19 [] [] a w → K2 a w := by
  intro p22 a w he hst
  subst he
  simp only at h
  refine hK2 _ _ ?_
  try clear hK2 K2
  refine wp_seq_k (fun K24 hK24 => ?_)
  refine wp_reg mixed [] hst (fun _ => .p rfl (op_assign .k) <| .nil _ _) (by kernel_rfl) (fun n7 a w hst => ?_)
  replace hst : St M w0 19 [(4,ti (-1:Int))] [] a w := (hst.pick [0])
  refine hK24 _ _ ?_
  try clear hK24 K24
  refine wp_ret ?_
  obtain rfl := sj h
  exact ret_st undef [] hpl hst rfl (.tmp (.t 0 rfl) .nil) rfl rfl rfl
 have hJp23 : ∀ (p23 : Int) a w,(.inr p23) = e5 → St M w0 19 [(4,ti p23)] [] a w → Ret Tryz.prog Tryz.f49 M0 [] w0 (fun _ => []) (fun _ => ti r) .ret a w := by
  intro p23 a w he hst
  subst he
  simp only at h
  obtain rfl := sj h
  exact ret_st undef [] hpl hst rfl (.tmp (.t 0 rfl) .nil) rfl rfl rfl
 refine wp_block ?_
 refine wp_loopK _ (fun (s4 : Int) a w => St M w0 19 [(7,ti (s_.length : Int)),(8,ti s4),(0,tsl rSapi_Field s_),(1,rF92.ty f_)] [] a w) _ _ he5 (hst.pick [0,1,2,3]) ?_
 clear h
 intro s4 o a w K25 hI h ho hK25
 have hst := hI
 clear hI
 refine wp_seq_k (fun K26 hK26 => ?_)
 refine wp_reg mixed [] hst (fun _ => .p rfl (op_lss (.t 1 rfl) (.t 0 rfl)) <| .nil _ _) (by kernel_rfl) (fun n2 a w hst => ?_)
 replace hst : St M w0 19 [(9,tb (decide (s4 < (s_.length : Int)))),(7,ti (s_.length : Int)),(8,ti s4),(0,tsl rSapi_Field s_),(1,rF92.ty f_)] [] a w := (hst.pick [0,1,2,3,4])
 refine hK26 _ _ ?_
 try clear hK26 K26
 refine wp_seq_k (fun K27 hK27 => ?_)
 refine wp_test 0 hst rfl (fun b33 => ?_) (fun b33 => ?_)
 ·replace h := ite_t b33 h
  refine wp_skip ?_
  refine hK27 _ _ ?_
  try clear hK27 K27
  refine wp_seq_k (fun K28 hK28 => ?_)
  refine wp_block ?_
  refine wp_seq_k (fun K29 hK29 => ?_)
  refine wp_reg mixed [] hst (fun _ => .q 2 rfl <| .p rfl (op_assign (.t 0 rfl)) <| .nil _ _) (by kernel_rfl) (fun n3 a w hst => ?_)
  replace hst : St M w0 19 [(5,ti s4),(7,ti (s_.length : Int)),(8,ti s4),(0,tsl rSapi_Field s_),(1,rF92.ty f_)] [] a w := (hst.pick [1,3,4,5,6])
  refine hK29 _ _ ?_
  try clear hK29 K29
  refine wp_seq_k (fun K30 hK30 => ?_)
  obtain ⟨t14,ht14,h⟩ := bind_some h
  obtain ⟨t16,ht16,h⟩ := bind_some h
  refine wp_reg mixed [] hst (fun _ => .q 4 rfl <| .q 4 rfl <| .q 2 rfl <| .p rfl (op_index Tryz.underlying45 tok44 (.t 1 rfl) (.t 0 rfl) ht14) <| .p rfl (op_load tok44 (.t 0 rfl)) <| .p rfl (op_callT (u := t14) (.t 4 rfl) (.cons (.of (.t 0 rfl)) <| .nil) ht16) <| .nil _ _) (by kernel_rfl) (fun n4 a w hst => ?_)
  replace hst : St M w0 19 [(16,tb t16),(5,ti s4),(7,ti (s_.length : Int)),(8,ti s4),(0,tsl rSapi_Field s_),(1,rF92.ty f_)] [] a w := (hst.pick [5,6,7,8,9,10])
  refine hK30 _ _ ?_
  try clear hK30 K30
  refine wp_test 0 hst rfl (fun b32 => ?_) (fun b32 => ?_)
  ·replace h := ite_t b32 h
   refine wp_seq_k (fun K31 hK31 => ?_)
   refine wp_reg mixed [] hst (fun _ => .q 1 rfl <| .p rfl (op_assign (.t 0 rfl)) <| .nil _ _) (by kernel_rfl) (fun n5 a w hst => ?_)
   replace hst : St M w0 19 [(4,ti s4)] [] a w := (hst.pick [1])
   refine hK31 _ _ ?_
   try clear hK31 K31
   refine wp_ret ?_
   exact hJp23 _ _ _ (ho _ (sj h).symm) (hst.pick [0])
  ·replace h := ite_f b32 h
   refine wp_skip ?_
   refine hK28 _ _ ?_
   try clear hK28 K28
   refine wp_reg mixed [] hst (fun _ => .p rfl (op_add (.t 3 rfl) .k) <| .q 0 rfl <| .nil _ _) (by kernel_rfl) (fun n6 a w hst => ?_)
   replace hst : St M w0 19 [(8,ti (IntKind.i64.wrap (s4 + (1:Int)))),(7,ti (s_.length : Int)),(0,tsl rSapi_Field s_),(1,rF92.ty f_)] [] a w := (hst.pick [1,4,5,6])
   exact hK25 _ _ _ (sj h).symm (hst.pick [1,0,2,3])
 ·replace h := ite_f b33 h
  refine wp_exit ?_
  exact hJp22 _ _ _ (ho _ (sj h).symm) (hst.pick [])

/- diorama/typing.Field -/
noncomputable def ftyping_Field (k_ : Sapi_Kind) (name_ : Str) : Option (Int) := (fslices_IndexFunc_Field (k_).Fields (fun x0 => ftyping_Fieldq1 x0 name_)).bind fun t8 => (some t8)
set_option maxRecDepth 100000 in
set_option maxHeartbeats 4000000 in
theorem typing_Field_ok {k_ : Sapi_Kind} {name_ : Str} {r : Int} (h : ftyping_Field k_ name_ = some r) : FnOk Tryz.prog 20 [rSapi_Kind.ty k_,tv (.string (sB name_))] [] (fun _ => []) (fun _ => ti r) := by
 unfold ftyping_Field at h
 refine FnOk.enter Tryz.func20 rfl Tryz.ntmps20 (leb rfl) (fun M0 M w0 a hpl hst => ?_)
 replace hst : St M w0 9 [(0,rSapi_Kind.ty k_),(1,tv (.string (sB name_)))] [] a w0 := hst
 refine wp_seq_k (fun K1 hK1 => ?_)
 refine wp_reg mixed [] hst (fun _ => .p rfl (op_boxR (R := rSapi_Kind) (u := k_) (.t 0 rfl)) <| .p rfl (op_boxR (R := rS) (u := name_) (.t 2 rfl)) <| .p rfl (op_assign .k) <| .nil _ _) (by kernel_rfl) (fun n0 a w hst => ?_)
 replace hst : St M w0 9 [(2,tptr (rSapi_Kind.cs k_)),(3,tptr (rS.cs name_))] [] a w := (hst.pick [0,1])
 refine hK1 _ _ ?_
 try clear hK1 K1
 refine wp_seq_k (fun K2 hK2 => ?_)
 obtain ⟨t8,ht8,h⟩ := bind_some h
 refine wp_reg mixed [] hst (fun _ => .p rfl (op_field fld47_3 (.t 0 rfl)) <| .p rfl (op_loadT (R := (rSl rSapi_Field)) (u := (k_).Fields) tok45 (.t 0 rfl) rfl) <| .p rfl (op_clo (.cons (.t 3 rfl) <| .nil)) <| .p rfl (op_callF call49 (slices_IndexFunc_Field_ok ht8) (.cons (.of (.t 1 rfl)) <| .cons (.of (Fct.weak (.t 0 rfl) (tfn_of call50 (fun _ _ hq => typing_Fieldq1_ok hq)))) <| .nil)) <| .p rfl (op_assign (.t 0 rfl)) <| .nil _ _) (by kernel_rfl) (fun n1 a w hst => ?_)
 replace hst : St M w0 9 [(4,ti t8)] [] a w := (hst.pick [4])
 refine hK2 _ _ ?_
 try clear hK2 K2
 refine wp_ret ?_
 obtain rfl := sj h
 exact ret_st undef [] hpl hst rfl (.tmp (.t 0 rfl) .nil) rfl rfl rfl

/- diorama/typing.Up -/
noncomputable def ftyping_UpS (self : Sapi_Schema → Int → Int → Option (Int)) (x_ : Sapi_Schema) (kind_ : Int) (field_ : Int) : Option (Int) := (ftyping_at x_ kind_ field_).bind fun t17 => (if (!t17.2) = true then (some (-1:Int)) else (if (((t17.1).Kind == (7:Int)) || ((t17.1).Kind == (8:Int))) = true then (idx (x_).Kinds kind_).bind fun t35 => (ftyping_Field t35 (t17.1).Up).bind fun t39 => (ftyping_at x_ kind_ t39).bind fun t44 => (if ((t44.2 && (decide (t39 < field_))) && ((t44.1).Kind == (1:Int))) = true then (self x_ kind_ t39).bind fun t61 => (some t61) else (some (-1:Int))) else (if ((t17.1).Kind != (1:Int)) = true then (some (-1:Int)) else (ftyping_Kind x_ (t17.1).Of).bind fun t69 => (if (decide (t69 < kind_)) = true then (some t69) else (some (-1:Int))))))
set_option maxRecDepth 100000 in
set_option maxHeartbeats 4000000 in
theorem typing_Up_okS {self : Sapi_Schema → Int → Int → Option (Int)} (hself : ∀ (x_ : Sapi_Schema) (kind_ : Int) (field_ : Int) (r : Int),self x_ kind_ field_ = some r → FnOk Tryz.prog 15 [rSapi_Schema.ty x_,ti kind_,ti field_] [] (fun _ => []) (fun _ => ti r)) {x_ : Sapi_Schema} {kind_ : Int} {field_ : Int} {r : Int} (h : ftyping_UpS self x_ kind_ field_ = some r) : FnOk Tryz.prog 15 [rSapi_Schema.ty x_,ti kind_,ti field_] [] (fun _ => []) (fun _ => ti r) := by
 unfold ftyping_UpS at h
 refine FnOk.enter Tryz.func15 rfl Tryz.ntmps15 (leb rfl) (fun M0 M w0 a hpl hst => ?_)
 replace hst : St M w0 74 [(0,rSapi_Schema.ty x_),(1,ti kind_),(2,ti field_)] [] a w0 := hst
 refine wp_seq_k (fun K1 hK1 => ?_)
 refine wp_reg mixed [] hst (fun _ => .p rfl (op_boxR (R := rSapi_Schema) (u := x_) (.t 0 rfl)) <| .p rfl (op_assign .k) <| .nil _ _) (by kernel_rfl) (fun n0 a w hst => ?_)
 replace hst : St M w0 74 [(3,tptr (rSapi_Schema.cs x_)),(1,ti kind_),(2,ti field_)] [] a w := (hst.pick [0,3,4])
 refine hK1 _ _ ?_
 try clear hK1 K1
 refine wp_seq_k (fun K2 hK2 => ?_)
 obtain ⟨t17,ht17,h⟩ := bind_some h
 refine wp_reg mixed [v1 7 (fun v0 => box (rSapi_Field.cs (Sapi_Field.mk ([] : Str) ([] : Str) ([] : Str) (0:Int) (0:Int) (0:Int) ([] : (List Str)) ([] : (List Int)))) v0),v1 7 (fun v0 => box (rSapi_Field.cs t17.1) v0)] hst (fun _ => .p rfl (op_load tok34 (.t 0 rfl)) <| .q 2 rfl <| .q 4 rfl <| .p rfl (op_callF call44 (typing_at_ok ht17) (.cons (.of (.t 2 rfl)) <| .cons (.of (.t 1 rfl)) <| .cons (.of (.t 0 rfl)) <| .nil)) <| .q 0 rfl <| .p rfl (op_extract (.t 0 rfl) rfl) <| .p rfl (op_extract (.t 1 rfl) rfl) <| .m [] [0] rfl rfl rfl (op_alloc (R := rSapi_Field) (a := (Sapi_Field.mk ([] : Str) ([] : Str) ([] : Str) (0:Int) (0:Int) (0:Int) ([] : (List Str)) ([] : (List Int)))) tok44 zok44) <| .e [] [0] [1] rfl rfl rfl rfl (op_storeB (R := rSapi_Field) (a := t17.1) tok44 (.t 0 rfl) (.t 2 rfl) (leb rfl)) <| .p rfl (op_assign (.t 1 rfl)) <| .nil _ _) (by kernel_rfl) (fun n1 a w hst => ?_)
 replace hst : St M w0 74 [(7,tptr (rSapi_Field.cs t17.1)),(8,tb t17.2),(3,tptr (rSapi_Schema.cs x_)),(1,ti kind_),(2,ti field_)] [] a w := ((((hst.pick [7,8,9,10,11]).shareB 0 rfl).add 0 rfl (fun _ _ _ h => h.2)).pick [0,3,4,5,6])
 refine hK2 _ _ ?_
 try clear hK2 K2
 refine wp_seq_k (fun K4 hK4 => ?_)
 refine wp_block ?_
 refine wp_seq_k (fun K5 hK5 => ?_)
 refine wp_reg mixed [] hst (fun _ => .q 1 rfl <| .p rfl (op_not (.t 0 rfl)) <| .p rfl (op_assign (.t 0 rfl)) <| .nil _ _) (by kernel_rfl) (fun n2 a w hst => ?_)
 replace hst : St M w0 74 [(20,tb (!t17.2)),(7,tptr (rSapi_Field.cs t17.1)),(3,tptr (rSapi_Schema.cs x_)),(1,ti kind_),(2,ti field_)] [] a w := (hst.pick [2,3,5,6,7])
 refine hK5 _ _ ?_
 try clear hK5 K5
 refine wp_test 0 hst rfl (fun b26 => ?_) (fun b26 => ?_)
 ·replace h := ite_t b26 h
  refine wp_seq_k (fun K6 hK6 => ?_)
  refine wp_reg mixed [] hst (fun _ => .p rfl (op_assign .k) <| .nil _ _) (by kernel_rfl) (fun n3 a w hst => ?_)
  replace hst : St M w0 74 [(6,ti (-1:Int))] [] a w := (hst.pick [0])
  refine hK6 _ _ ?_
  try clear hK6 K6
  refine wp_ret ?_
  obtain rfl := sj h
  exact ret_st undef [] hpl hst rfl (.tmp (.t 0 rfl) .nil) rfl rfl rfl
 ·replace h := ite_f b26 h
  refine wp_seq_k (fun K7 hK7 => ?_)
  refine wp_reg mixed [] hst (fun _ => .p rfl (op_field fld44_3 (.t 1 rfl)) <| .p rfl (op_loadT (R := rI) (u := (t17.1).Kind) tok3 (.t 0 rfl) rfl) <| .p rfl (op_eql (.t 0 rfl) .k) <| .q 0 rfl <| .g rfl rfl (.b 0 rfl) (fun _ => op_field fld44_3 (.t 5 rfl)) <| .g rfl rfl (.b 1 rfl) (fun hc => op_loadT (R := rI) (u := (t17.1).Kind) tok3 (.cond (.t 0 rfl) hc) rfl) <| .g rfl rfl (.b 2 rfl) (fun hc => op_eql (.cond (.t 0 rfl) hc) .k) <| .p rfl (op_or (.t 3 rfl) (fun hp => (.cond (.t 0 rfl) (beqF hp)))) <| .p rfl (op_assign (.t 0 rfl)) <| .nil _ _) (by kernel_rfl) (fun n4 a w hst => ?_)
  replace hst : St M w0 74 [(23,tb (((t17.1).Kind == (7:Int)) || ((t17.1).Kind == (8:Int)))),(7,tptr (rSapi_Field.cs t17.1)),(3,tptr (rSapi_Schema.cs x_)),(1,ti kind_),(2,ti field_)] [] a w := (hst.pick [8,10,11,12,13])
  refine hK7 _ _ ?_
  try clear hK7 K7
  refine wp_test 0 hst rfl (fun b25 => ?_) (fun b25 => ?_)
  ·replace h := ite_t b25 h
   refine wp_seq_k (fun K8 hK8 => ?_)
   obtain ⟨t35,ht35,h⟩ := bind_some h
   obtain ⟨t39,ht39,h⟩ := bind_some h
   refine wp_reg mixed [] hst (fun _ => .p rfl (op_field fld34_1 (.t 2 rfl)) <| .p rfl (op_loadT (R := (rSl rSapi_Kind)) (u := (x_).Kinds) tok30 (.t 0 rfl) rfl) <| .q 5 rfl <| .p rfl (op_index Tryz.underlying30 tok47 (.t 1 rfl) (.t 0 rfl) ht35) <| .p rfl (op_load tok47 (.t 0 rfl)) <| .p rfl (op_field fld44_2 (.t 6 rfl)) <| .p rfl (op_loadT (R := rS) (u := (t17.1).Up) tok9 (.t 0 rfl) rfl) <| .p rfl (op_callF call20 (typing_Field_ok ht39) (.cons (.of (.t 2 rfl)) <| .cons (.of (.t 0 rfl)) <| .nil)) <| .p rfl (op_assign (.t 0 rfl)) <| .nil _ _) (by kernel_rfl) (fun n5 a w hst => ?_)
   replace hst : St M w0 74 [(9,ti t39),(3,tptr (rSapi_Schema.cs x_)),(1,ti kind_),(2,ti field_)] [] a w := (hst.pick [8,11,12,13])
   refine hK8 _ _ ?_
   try clear hK8 K8
   refine wp_seq_k (fun K9 hK9 => ?_)
   refine wp_seq_k (fun K10 hK10 => ?_)
   obtain ⟨t44,ht44,h⟩ := bind_some h
   refine wp_reg mixed [v1 7 (fun v0 => box (rSapi_Field.cs (Sapi_Field.mk ([] : Str) ([] : Str) ([] : Str) (0:Int) (0:Int) (0:Int) ([] : (List Str)) ([] : (List Int)))) v0),v1 7 (fun v0 => box (rSapi_Field.cs t44.1) v0)] hst (fun _ => .p rfl (op_load tok34 (.t 1 rfl)) <| .q 3 rfl <| .q 2 rfl <| .p rfl (op_callF call44 (typing_at_ok ht44) (.cons (.of (.t 2 rfl)) <| .cons (.of (.t 1 rfl)) <| .cons (.of (.t 0 rfl)) <| .nil)) <| .q 0 rfl <| .p rfl (op_extract (.t 0 rfl) rfl) <| .p rfl (op_extract (.t 1 rfl) rfl) <| .m [] [0] rfl rfl rfl (op_alloc (R := rSapi_Field) (a := (Sapi_Field.mk ([] : Str) ([] : Str) ([] : Str) (0:Int) (0:Int) (0:Int) ([] : (List Str)) ([] : (List Int)))) tok44 zok44) <| .e [] [0] [1] rfl rfl rfl rfl (op_storeB (R := rSapi_Field) (a := t44.1) tok44 (.t 0 rfl) (.t 2 rfl) (leb rfl)) <| .p rfl (op_assign (.t 1 rfl)) <| .nil _ _) (by kernel_rfl) (fun n6 a w hst => ?_)
   replace hst : St M w0 74 [(10,tptr (rSapi_Field.cs t44.1)),(11,tb t44.2),(9,ti t39),(3,tptr (rSapi_Schema.cs x_)),(1,ti kind_),(2,ti field_)] [] a w := ((((hst.pick [7,8,9,10,11,12]).shareB 0 rfl).add 0 rfl (fun _ _ _ h => h.2)).pick [0,3,4,5,6,7])
   refine hK10 _ _ ?_
   try clear hK10 K10
   refine wp_seq_k (fun K12 hK12 => ?_)
   refine wp_reg mixed [] hst (fun _ => .q 1 rfl <| .q 0 rfl <| .g rfl rfl (.b 0 rfl) (fun _ => op_move (.t 4 rfl)) <| .g rfl rfl (.b 1 rfl) (fun _ => op_move (.t 8 rfl)) <| .g rfl rfl (.b 2 rfl) (fun hc => op_lss (.cond (.t 1 rfl) hc) (.cond (.t 0 rfl) hc)) <| .p rfl (op_and (.t 3 rfl) (fun hp => (.cond (.t 0 rfl) (beqT hp)))) <| .q 0 rfl <| .g rfl rfl (.b 0 rfl) (fun _ => op_field fld44_3 (.t 7 rfl)) <| .g rfl rfl (.b 1 rfl) (fun hc => op_loadT (R := rI) (u := (t44.1).Kind) tok3 (.cond (.t 0 rfl) hc) rfl) <| .g rfl rfl (.b 2 rfl) (fun hc => op_eql (.cond (.t 0 rfl) hc) .k) <| .p rfl (op_and (.t 3 rfl) (fun hp => (.cond (.t 0 rfl) (beqT hp)))) <| .nil _ _) (by kernel_rfl) (fun n7 a w hst => ?_)
   replace hst : St M w0 74 [(57,tb ((t44.2 && (decide (t39 < field_))) && ((t44.1).Kind == (1:Int)))),(9,ti t39),(3,tptr (rSapi_Schema.cs x_)),(1,ti kind_)] [] a w := (hst.pick [10,13,14,15])
   refine hK12 _ _ ?_
   try clear hK12 K12
   refine wp_test 0 hst rfl (fun b15 => ?_) (fun b15 => ?_)
   ·replace h := ite_t b15 h
    refine wp_seq_k (fun K13 hK13 => ?_)
    obtain ⟨t61,ht61,h⟩ := bind_some h
    refine wp_reg mixed [] hst (fun _ => .p rfl (op_load tok34 (.t 2 rfl)) <| .q 4 rfl <| .q 3 rfl <| .p rfl (op_callF call15 (hself _ _ _ _ ht61) (.cons (.of (.t 2 rfl)) <| .cons (.of (.t 1 rfl)) <| .cons (.of (.t 0 rfl)) <| .nil)) <| .p rfl (op_assign (.t 0 rfl)) <| .nil _ _) (by kernel_rfl) (fun n8 a w hst => ?_)
    replace hst : St M w0 74 [(6,ti t61)] [] a w := (hst.pick [4])
    refine hK13 _ _ ?_
    try clear hK13 K13
    refine wp_ret ?_
    obtain rfl := sj h
    exact ret_st undef [] hpl hst rfl (.tmp (.t 0 rfl) .nil) rfl rfl rfl
   ·replace h := ite_f b15 h
    refine wp_skip ?_
    refine hK9 _ _ ?_
    try clear hK9 K9
    refine wp_seq_k (fun K14 hK14 => ?_)
    refine wp_reg mixed [] hst (fun _ => .p rfl (op_assign .k) <| .nil _ _) (by kernel_rfl) (fun n9 a w hst => ?_)
    replace hst : St M w0 74 [(6,ti (-1:Int))] [] a w := (hst.pick [0])
    refine hK14 _ _ ?_
    try clear hK14 K14
    refine wp_ret ?_
    obtain rfl := sj h
    exact ret_st undef [] hpl hst rfl (.tmp (.t 0 rfl) .nil) rfl rfl rfl
  ·replace h := ite_f b25 h
   refine wp_seq_k (fun K16 hK16 => ?_)
   refine wp_reg mixed [] hst (fun _ => .p rfl (op_field fld44_3 (.t 1 rfl)) <| .p rfl (op_loadT (R := rI) (u := (t17.1).Kind) tok3 (.t 0 rfl) rfl) <| .p rfl (op_neq (.t 0 rfl) .k) <| .p rfl (op_assign (.t 0 rfl)) <| .nil _ _) (by kernel_rfl) (fun n10 a w hst => ?_)
   replace hst : St M w0 74 [(62,tb ((t17.1).Kind != (1:Int))),(7,tptr (rSapi_Field.cs t17.1)),(3,tptr (rSapi_Schema.cs x_)),(1,ti kind_)] [] a w := (hst.pick [3,5,6,7])
   refine hK16 _ _ ?_
   try clear hK16 K16
   refine wp_test 0 hst rfl (fun b24 => ?_) (fun b24 => ?_)
   ·replace h := ite_t b24 h
    refine wp_seq_k (fun K17 hK17 => ?_)
    refine wp_reg mixed [] hst (fun _ => .p rfl (op_assign .k) <| .nil _ _) (by kernel_rfl) (fun n11 a w hst => ?_)
    replace hst : St M w0 74 [(6,ti (-1:Int))] [] a w := (hst.pick [0])
    refine hK17 _ _ ?_
    try clear hK17 K17
    refine wp_ret ?_
    obtain rfl := sj h
    exact ret_st undef [] hpl hst rfl (.tmp (.t 0 rfl) .nil) rfl rfl rfl
   ·replace h := ite_f b24 h
    refine wp_skip ?_
    refine hK4 _ _ ?_
    try clear hK4 K4
    refine wp_seq_k (fun K18 hK18 => ?_)
    refine wp_seq_k (fun K19 hK19 => ?_)
    obtain ⟨t69,ht69,h⟩ := bind_some h
    refine wp_reg mixed [] hst (fun _ => .p rfl (op_load tok34 (.t 2 rfl)) <| .p rfl (op_field fld44_1 (.t 2 rfl)) <| .p rfl (op_loadT (R := rS) (u := (t17.1).Of) tok9 (.t 0 rfl) rfl) <| .p rfl (op_callF call18 (typing_Kind_ok ht69) (.cons (.of (.t 2 rfl)) <| .cons (.of (.t 0 rfl)) <| .nil)) <| .p rfl (op_assign (.t 0 rfl)) <| .nil _ _) (by kernel_rfl) (fun n12 a w hst => ?_)
    replace hst : St M w0 74 [(12,ti t69),(1,ti kind_)] [] a w := (hst.pick [4,8])
    refine hK19 _ _ ?_
    try clear hK19 K19
    refine wp_seq_k (fun K20 hK20 => ?_)
    refine wp_reg mixed [] hst (fun _ => .q 0 rfl <| .q 2 rfl <| .p rfl (op_lss (.t 1 rfl) (.t 0 rfl)) <| .nil _ _) (by kernel_rfl) (fun n13 a w hst => ?_)
    replace hst : St M w0 74 [(72,tb (decide (t69 < kind_))),(12,ti t69)] [] a w := (hst.pick [2,3])
    refine hK20 _ _ ?_
    try clear hK20 K20
    refine wp_test 0 hst rfl (fun b23 => ?_) (fun b23 => ?_)
    ·replace h := ite_t b23 h
     refine wp_seq_k (fun K21 hK21 => ?_)
     refine wp_reg mixed [] hst (fun _ => .q 1 rfl <| .p rfl (op_assign (.t 0 rfl)) <| .nil _ _) (by kernel_rfl) (fun n14 a w hst => ?_)
     replace hst : St M w0 74 [(6,ti t69)] [] a w := (hst.pick [1])
     refine hK21 _ _ ?_
     try clear hK21 K21
     refine wp_ret ?_
     obtain rfl := sj h
     exact ret_st undef [] hpl hst rfl (.tmp (.t 0 rfl) .nil) rfl rfl rfl
    ·replace h := ite_f b23 h
     refine wp_skip ?_
     refine hK18 _ _ ?_
     try clear hK18 K18
     refine wp_seq_k (fun K22 hK22 => ?_)
     refine wp_reg mixed [] hst (fun _ => .p rfl (op_assign .k) <| .nil _ _) (by kernel_rfl) (fun n15 a w hst => ?_)
     replace hst : St M w0 74 [(6,ti (-1:Int))] [] a w := (hst.pick [0])
     refine hK22 _ _ ?_
     try clear hK22 K22
     refine wp_ret ?_
     obtain rfl := sj h
     exact ret_st undef [] hpl hst rfl (.tmp (.t 0 rfl) .nil) rfl rfl rfl
noncomputable def gtyping_UpN : Nat → Sapi_Schema → Int → Int → Option (Int)
 | 0 => fun _ _ _ => none
 | n + 1 => ftyping_UpS (gtyping_UpN n)
theorem gtyping_UpN_ok : ∀ (n : Nat) (x_ : Sapi_Schema) (kind_ : Int) (field_ : Int) (r : Int),gtyping_UpN n x_ kind_ field_ = some r → FnOk Tryz.prog 15 [rSapi_Schema.ty x_,ti kind_,ti field_] [] (fun _ => []) (fun _ => ti r)
 | 0,_,_,_,r,h => by cases h
 | n + 1,x_,kind_,field_,r,h => typing_Up_okS (fun x_ kind_ field_ r h => gtyping_UpN_ok n x_ kind_ field_ r h) h
noncomputable def ftyping_Up (x_ : Sapi_Schema) (kind_ : Int) (field_ : Int) : Option (Int) := gtyping_UpN (field_.natAbs + 2) x_ kind_ field_
theorem typing_Up_ok {x_ : Sapi_Schema} {kind_ : Int} {field_ : Int} {r : Int} (h : ftyping_Up x_ kind_ field_ = some r) : FnOk Tryz.prog 15 [rSapi_Schema.ty x_,ti kind_,ti field_] [] (fun _ => []) (fun _ => ti r) := gtyping_UpN_ok _ _ _ _ _ h

/- diorama/typing.shares -/
noncomputable def ftyping_shares (x_ : Sapi_Schema) (kind_ : Int) (f_ : Sapi_Field) : Option (Int × (List Int)) := (ftyping_Kind x_ (f_).Of).bind fun t15 => (if (((f_).Kind != (6:Int)) || (decide (t15 ≤ kind_))) = true then (some ((-1:Int),([] : List Int))) else (idx (x_).Kinds t15).bind fun t27 => (tailrec (fun (s10 : Int × List Int) => ((if (decide (s10.1 < ((t27).Fields.length : Int))) = true then (idx (t27).Fields s10.1).bind fun t34 => (opt ((((t34).Kind == (7:Int)) && ((t34).Of == (f_).Name)) == true) (ftyping_Up x_ t15 s10.1) default).bind fun t50 => ((if ((((t34).Kind == (7:Int)) && ((t34).Of == (f_).Name)) && (t50 == kind_)) = true then (rm (s10.2.length + [s10.1].length)).bind fun _ => (some (s10.2 ++ [s10.1])) else (some s10.2))).bind fun (p45 : List Int) => (some (.inl ((IntKind.i64.wrap (s10.1 + (1:Int))),p45))) else (some (.inr s10.2))) : Option ((Int × List Int) ⊕ ((List Int))))) ((0:Int),([] : List Int))).bind fun (p35 : (List Int)) => (some (t15,p35)))
set_option maxRecDepth 100000 in
set_option maxHeartbeats 4000000 in
theorem typing_shares_ok {x_ : Sapi_Schema} {kind_ : Int} {f_ : Sapi_Field} {r : Int × (List Int)} (h : ftyping_shares x_ kind_ f_ = some r) : FnOk Tryz.prog 45 [rSapi_Schema.ty x_,ti kind_,rSapi_Field.ty f_] [] (fun _ => []) (fun _ => ttup [ti r.1,tsl rI r.2]) := by
 unfold ftyping_shares at h
 refine FnOk.enter Tryz.func45 rfl Tryz.ntmps45 (leb rfl) (fun M0 M w0 a hpl hst => ?_)
 replace hst : St M w0 61 [(0,rSapi_Schema.ty x_),(1,ti kind_),(2,rSapi_Field.ty f_)] [] a w0 := hst
 refine wp_seq_k (fun K1 hK1 => ?_)
 refine wp_reg mixed [] hst (fun _ => .p rfl (op_boxR (R := rSapi_Schema) (u := x_) (.t 0 rfl)) <| .p rfl (op_boxR (R := rSapi_Field) (u := f_) (.t 3 rfl)) <| .p rfl (op_assign .k) <| .p rfl (op_assign (.nilsl (R := rI))) <| .nil _ _) (by kernel_rfl) (fun n0 a w hst => ?_)
 replace hst : St M w0 61 [(3,tptr (rSapi_Schema.cs x_)),(5,tptr (rSapi_Field.cs f_)),(1,ti kind_)] [] a w := (hst.pick [0,1,5])
 refine hK1 _ _ ?_
 try clear hK1 K1
 refine wp_seq_k (fun K2 hK2 => ?_)
 obtain ⟨t15,ht15,h⟩ := bind_some h
 refine wp_reg mixed [] hst (fun _ => .p rfl (op_load tok34 (.t 0 rfl)) <| .p rfl (op_field fld44_1 (.t 2 rfl)) <| .p rfl (op_loadT (R := rS) (u := (f_).Of) tok9 (.t 0 rfl) rfl) <| .p rfl (op_callF call18 (typing_Kind_ok ht15) (.cons (.of (.t 2 rfl)) <| .cons (.of (.t 0 rfl)) <| .nil)) <| .p rfl (op_assign (.t 0 rfl)) <| .nil _ _) (by kernel_rfl) (fun n1 a w hst => ?_)
 replace hst : St M w0 61 [(8,ti t15),(3,tptr (rSapi_Schema.cs x_)),(5,tptr (rSapi_Field.cs f_)),(1,ti kind_)] [] a w := (hst.pick [4,5,6,7])
 refine hK2 _ _ ?_
 try clear hK2 K2
 refine wp_seq_k (fun K3 hK3 => ?_)
 refine wp_seq_k (fun K4 hK4 => ?_)
 refine wp_reg mixed [] hst (fun _ => .p rfl (op_field fld44_3 (.t 2 rfl)) <| .p rfl (op_loadT (R := rI) (u := (f_).Kind) tok3 (.t 0 rfl) rfl) <| .p rfl (op_neq (.t 0 rfl) .k) <| .q 0 rfl <| .g rfl rfl (.b 0 rfl) (fun _ => op_move (.t 4 rfl)) <| .g rfl rfl (.b 1 rfl) (fun _ => op_move (.t 8 rfl)) <| .g rfl rfl (.b 2 rfl) (fun hc => op_leq (.cond (.t 1 rfl) hc) (.cond (.t 0 rfl) hc)) <| .p rfl (op_or (.t 3 rfl) (fun hp => (.cond (.t 0 rfl) (beqF hp)))) <| .nil _ _) (by kernel_rfl) (fun n2 a w hst => ?_)
 replace hst : St M w0 61 [(23,tb (((f_).Kind != (6:Int)) || (decide (t15 ≤ kind_)))),(8,ti t15),(3,tptr (rSapi_Schema.cs x_)),(5,tptr (rSapi_Field.cs f_)),(1,ti kind_)] [] a w := (hst.pick [7,8,9,10,11])
 refine hK4 _ _ ?_
 try clear hK4 K4
 refine wp_test 0 hst rfl (fun b50 => ?_) (fun b50 => ?_)
 ·replace h := ite_t b50 h
  refine wp_seq_k (fun K5 hK5 => ?_)
  refine wp_reg mixed [] hst (fun _ => .p rfl (op_assign .k) <| .p rfl (op_assign (.nilsl (R := rI))) <| .nil _ _) (by kernel_rfl) (fun n3 a w hst => ?_)
  replace hst : St M w0 61 [(6,ti (-1:Int)),(7,tsl rI ([] : List Int))] [] a w := (hst.pick [0,1])
  refine hK5 _ _ ?_
  try clear hK5 K5
  refine wp_ret ?_
  obtain rfl := sj h
  exact ret_st undef [] hpl hst rfl (.tmp (.t 0 rfl) (.tmp (.t 1 rfl) .nil)) rfl rfl rfl
 ·replace h := ite_f b50 h
  refine wp_skip ?_
  refine hK3 _ _ ?_
  try clear hK3 K3
  refine wp_seq_k (fun K6 hK6 => ?_)
  refine wp_reg mixed [] hst (fun _ => .p rfl (op_assign .k) <| .nil _ _) (by kernel_rfl) (fun n4 a w hst => ?_)
  replace hst : St M w0 61 [(9,tv (.slice none 0 0)),(8,ti t15),(3,tptr (rSapi_Schema.cs x_)),(5,tptr (rSapi_Field.cs f_)),(1,ti kind_)] [own rI 3 ([] : List Int) (.slice none 0 0)] a w := ((hst.pick [0,2,3,4,5]).nil (rI) 3)
  refine hK6 _ _ ?_
  try clear hK6 K6
  refine wp_seq_k (fun K8 hK8 => ?_)
  refine wp_seq_k (fun K9 hK9 => ?_)
  obtain ⟨t27,ht27,h⟩ := bind_some h
  refine wp_reg mixed [] hst (fun _ => .p rfl (op_field fld34_1 (.t 2 rfl)) <| .p rfl (op_loadT (R := (rSl rSapi_Kind)) (u := (x_).Kinds) tok30 (.t 0 rfl) rfl) <| .q 3 rfl <| .p rfl (op_index Tryz.underlying30 tok47 (.t 1 rfl) (.t 0 rfl) ht27) <| .p rfl (op_field fld47_3 (.t 0 rfl)) <| .p rfl (op_loadT (R := (rSl rSapi_Field)) (u := (t27).Fields) tok45 (.t 0 rfl) rfl) <| .p rfl (op_len Tryz.underlying45 (.t 0 rfl)) <| .p rfl (op_move .k) <| .nil _ _) (by kernel_rfl) (fun n5 a w hst => ?_)
  replace hst : St M w0 61 [(29,tsl rSapi_Field (t27).Fields),(30,ti ((t27).Fields.length : Int)),(31,ti (0:Int)),(9,tv (.slice none 0 0)),(8,ti t15),(3,tptr (rSapi_Schema.cs x_)),(5,tptr (rSapi_Field.cs f_)),(1,ti kind_)] [own rI 3 ([] : List Int) (.slice none 0 0)] a w := (hst.pick [5,6,7,8,9,10,11,12])
  refine hK9 _ _ ?_
  try clear hK9 K9
  obtain ⟨e11,he11,h⟩ := bind_some h
  have hJp35 : ∀ (p35 : List Int) (v36 : Value) a w,p35 = e11 → St M w0 61 [(9,tv v36),(8,ti t15)] [own rI 3 p35 v36] a w → K8 a w := by
   intro p35 v36 a w he hst
   subst he
   refine hK8 _ _ ?_
   try clear hK8 K8
   refine wp_seq_k (fun K37 hK37 => ?_)
   refine wp_reg mixed [] hst (fun _ => .q 1 rfl <| .q 1 rfl <| .p rfl (op_assign (.t 1 rfl)) <| .p rfl (op_assign (.t 1 rfl)) <| .nil _ _) (by kernel_rfl) (fun n11 a w hst => ?_)
   replace hst : St M w0 61 [(60,tv v36),(6,ti t15),(7,tv v36),(9,tv v36)] [own rI 3 p35 v36] a w := (hst.pick [1,2,3,4])
   refine hK37 _ _ ?_
   try clear hK37 K37
   refine wp_ret ?_
   replace hst : St M w0 61 [(7,tsl rI p35),(6,ti t15)] [] a w := ((hst.shareO 2 rfl).pick [0,2])
   obtain rfl := sj h
   exact ret_st undef [] hpl hst rfl (.tmp (.t 1 rfl) (.tmp (.t 0 rfl) .nil)) rfl rfl rfl
  refine wp_block ?_
  refine wp_loopK _ (fun (s10 : Int × List Int) a w => ∃ v23 : Value,St M w0 61 [(29,tsl rSapi_Field (t27).Fields),(30,ti ((t27).Fields.length : Int)),(31,ti s10.1),(9,tv v23),(8,ti t15),(3,tptr (rSapi_Schema.cs x_)),(5,tptr (rSapi_Field.cs f_)),(1,ti kind_)] [own rI 3 s10.2 v23] a w) _ _ he11 ⟨(.slice none 0 0),hst.pick [0,1,2,3,4,5,6,7]⟩ ?_
  clear h
  intro s10 o a w K38 hI h ho hK38
  obtain ⟨v23,hst⟩ := hI
  refine wp_seq_k (fun K39 hK39 => ?_)
  refine wp_reg mixed [] hst (fun _ => .p rfl (op_lss (.t 2 rfl) (.t 1 rfl)) <| .nil _ _) (by kernel_rfl) (fun n6 a w hst => ?_)
  replace hst : St M w0 61 [(32,tb (decide (s10.1 < ((t27).Fields.length : Int)))),(29,tsl rSapi_Field (t27).Fields),(30,ti ((t27).Fields.length : Int)),(31,ti s10.1),(9,tv v23),(8,ti t15),(3,tptr (rSapi_Schema.cs x_)),(5,tptr (rSapi_Field.cs f_)),(1,ti kind_)] [own rI 3 s10.2 v23] a w := (hst.pick [0,1,2,3,4,5,6,7,8])
  refine hK39 _ _ ?_
  try clear hK39 K39
  refine wp_seq_k (fun K40 hK40 => ?_)
  refine wp_test 0 hst rfl (fun b49 => ?_) (fun b49 => ?_)
  ·replace h := ite_t b49 h
   refine wp_skip ?_
   refine hK40 _ _ ?_
   try clear hK40 K40
   refine wp_seq_k (fun K41 hK41 => ?_)
   refine wp_block ?_
   refine wp_seq_k (fun K42 hK42 => ?_)
   obtain ⟨t34,ht34,h⟩ := bind_some h
   refine wp_reg mixed [v1 3 (fun v0 => box (rSapi_Field.cs (Sapi_Field.mk ([] : Str) ([] : Str) ([] : Str) (0:Int) (0:Int) (0:Int) ([] : (List Str)) ([] : (List Int)))) v0),v1 3 (fun v0 => box (rSapi_Field.cs t34) v0)] hst (fun _ => .q 3 rfl <| .p rfl (op_index Tryz.underlying45 tok44 (.t 2 rfl) (.t 4 rfl) ht34) <| .p rfl (op_load tok44 (.t 0 rfl)) <| .m [] [1] rfl rfl rfl (op_alloc (R := rSapi_Field) (a := (Sapi_Field.mk ([] : Str) ([] : Str) ([] : Str) (0:Int) (0:Int) (0:Int) ([] : (List Str)) ([] : (List Int)))) tok44 zok44) <| .p rfl (op_assign (.t 3 rfl)) <| .e [] [1] [2] rfl rfl rfl rfl (op_storeB (R := rSapi_Field) (a := t34) tok44 (.t 1 rfl) (.t 2 rfl) (leb rfl)) <| .nil _ _) (by kernel_rfl) (fun n7 a w hst => ?_)
   replace hst : St M w0 61 [(11,tptr (rSapi_Field.cs t34)),(10,ti s10.1),(29,tsl rSapi_Field (t27).Fields),(30,ti ((t27).Fields.length : Int)),(31,ti s10.1),(9,tv v23),(8,ti t15),(3,tptr (rSapi_Schema.cs x_)),(5,tptr (rSapi_Field.cs f_)),(1,ti kind_)] [own rI 3 s10.2 v23] a w := (((((hst.pick [3,4,6,7,8,9,10,11,12,13]).selA [1,0] rfl).shareB 0 rfl).add 0 rfl (fun _ _ _ h => h.2)).pick [0,3,4,5,6,7,8,9,10,11])
   refine hK42 _ _ ?_
   try clear hK42 K42
   refine wp_seq_k (fun K44 hK44 => ?_)
   obtain ⟨t50,ht50,h⟩ := bind_some h
   refine wp_reg mixed [] hst (fun _ => .p rfl (op_field fld44_3 (.t 0 rfl)) <| .p rfl (op_loadT (R := rI) (u := (t34).Kind) tok3 (.t 0 rfl) rfl) <| .p rfl (op_eql (.t 0 rfl) .k) <| .q 0 rfl <| .g rfl rfl (.b 0 rfl) (fun _ => op_field fld44_1 (.t 4 rfl)) <| .g rfl rfl (.b 1 rfl) (fun hc => op_loadT (R := rS) (u := (t34).Of) tok9 (.cond (.t 0 rfl) hc) rfl) <| .g rfl rfl (.b 2 rfl) (fun _ => op_field fld44_0 (.t 14 rfl)) <| .g rfl rfl (.b 3 rfl) (fun hc => op_loadT (R := rS) (u := (f_).Name) tok9 (.cond (.t 0 rfl) hc) rfl) <| .g rfl rfl (.b 4 rfl) (fun hc => op_eqlS (.cond (.t 2 rfl) hc) (.cond (.t 0 rfl) hc)) <| .p rfl (op_and (.t 5 rfl) (fun hp => (.cond (.t 0 rfl) (beqT hp)))) <| .q 0 rfl <| .g rfl rfl (.b 0 rfl) (fun _ => op_load tok34 (.t 18 rfl)) <| .g rfl rfl (.b 1 rfl) (fun _ => op_move (.t 18 rfl)) <| .g rfl rfl (.b 2 rfl) (fun _ => op_move (.t 14 rfl)) <| .g rfl rfl (.b 3 rfl) (fun hc => op_callF call15 (typing_Up_ok (opt_t ht50 hc)) (.cons (.of (.cond (.t 2 rfl) hc)) <| .cons (.of (.cond (.t 1 rfl) hc)) <| .cons (.of (.cond (.t 0 rfl) hc)) <| .nil)) <| .g rfl rfl (.b 4 rfl) (fun _ => op_move (.t 24 rfl)) <| .g rfl rfl (.b 5 rfl) (fun hc => op_eql (.cond (.t 1 rfl) hc) (.cond (.t 0 rfl) hc)) <| .p rfl (op_and (.t 6 rfl) (fun hp => (.cond (.t 0 rfl) (beqT hp)))) <| .nil _ _) (by kernel_rfl) (fun n8 a w hst => ?_)
   replace hst : St M w0 61 [(53,tb ((((t34).Kind == (7:Int)) && ((t34).Of == (f_).Name)) && (t50 == kind_))),(10,ti s10.1),(29,tsl rSapi_Field (t27).Fields),(30,ti ((t27).Fields.length : Int)),(31,ti s10.1),(9,tv v23),(8,ti t15),(3,tptr (rSapi_Schema.cs x_)),(5,tptr (rSapi_Field.cs f_)),(1,ti kind_)] [own rI 3 s10.2 v23] a w := (hst.pick [17,19,20,21,22,23,24,25,26,27])
   refine hK44 _ _ ?_
   try clear hK44 K44
   obtain ⟨p45,hp45,h⟩ := bind_some h
   have hJp45 : ∀ (v47 : Value) a w,St M w0 61 [(9,tv v47),(29,tsl rSapi_Field (t27).Fields),(30,ti ((t27).Fields.length : Int)),(31,ti s10.1),(8,ti t15),(3,tptr (rSapi_Schema.cs x_)),(5,tptr (rSapi_Field.cs f_)),(1,ti kind_)] [own rI 3 p45 v47] a w → K41 a w := by
    intro v47 a w hst
    refine hK41 _ _ ?_
    try clear hK41 K41
    refine wp_reg mixed [] hst (fun _ => .p rfl (op_add (.t 3 rfl) .k) <| .q 0 rfl <| .nil _ _) (by kernel_rfl) (fun n10 a w hst => ?_)
    replace hst : St M w0 61 [(31,ti (IntKind.i64.wrap (s10.1 + (1:Int)))),(9,tv v47),(29,tsl rSapi_Field (t27).Fields),(30,ti ((t27).Fields.length : Int)),(8,ti t15),(3,tptr (rSapi_Schema.cs x_)),(5,tptr (rSapi_Field.cs f_)),(1,ti kind_)] [own rI 3 p45 v47] a w := (hst.pick [1,2,3,4,5,6,7,8])
    exact hK38 _ _ _ (sj h).symm ⟨v47,hst.pick [2,3,0,1,4,5,6,7]⟩
   replace h := hp45
   clear hp45
   refine wp_test 0 hst rfl (fun b48 => ?_) (fun b48 => ?_)
   ·replace h := ite_t b48 h
    obtain ⟨u57,hu57,h⟩ := bind_some h
    refine wp_reg mixed [v1 3 (fun v0 => own rI 3 (s10.2 ++ [s10.1]) v0)] hst (fun _ => .q 5 rfl <| .q 2 rfl <| .p rfl (op_buildSl (R := rI) (us := [s10.1]) Tryz.underlying22 tok3 (.cons (.t 0 rfl) <| .nil _) rfl (leb rfl)) <| .e [] [0] [1] rfl rfl rfl rfl (op_append (R := rI) Tryz.underlying22 tok3 (leb rfl) (.t 2 rfl) (.t 0 rfl) hu57) <| .ud (f := fun v => tv v) 3 rfl [] rfl rfl (op_assign (.t 0 rfl)) <| .nil _ _) (by kernel_rfl) (fun n9 a w hst => ?_)
    replace hst : St M w0 61 [(57,tv (n9 3)),(9,tv (n9 3)),(29,tsl rSapi_Field (t27).Fields),(30,ti ((t27).Fields.length : Int)),(31,ti s10.1),(8,ti t15),(3,tptr (rSapi_Schema.cs x_)),(5,tptr (rSapi_Field.cs f_)),(1,ti kind_)] [own rI 3 (s10.2 ++ [s10.1]) (n9 3)] a w := (hst.pick [3,4,7,8,9,10,11,12,13])
    obtain rfl := sj h
    exact hJp45 (n9 3) _ _ (hst.pick [1,2,3,4,5,6,7,8])
   ·replace h := ite_f b48 h
    refine wp_skip ?_
    obtain rfl := sj h
    exact hJp45 v23 _ _ (hst.pick [5,2,3,4,6,7,8,9])
  ·replace h := ite_f b49 h
   refine wp_exit ?_
   exact hJp35 _ v23 _ _ (ho _ (sj h).symm) (hst.pick [4,5])

/- diorama/typing.Shares -/
noncomputable def ftyping_Shares (x_ : Sapi_Schema) (kind_ : Int) (field_ : Int) : Option (Int × Int) := (ftyping_at x_ kind_ field_).bind fun t16 => (if (!t16.2) = true then (some ((-1:Int),(-1:Int))) else (ftyping_shares x_ kind_ t16.1).bind fun t25 => (if ((t25.2.length : Int) != (1:Int)) = true then (some ((-1:Int),(-1:Int))) else (idx t25.2 (0:Int)).bind fun t33 => (some (t25.1,t33))))
set_option maxRecDepth 100000 in
set_option maxHeartbeats 4000000 in
theorem typing_Shares_ok {x_ : Sapi_Schema} {kind_ : Int} {field_ : Int} {r : Int × Int} (h : ftyping_Shares x_ kind_ field_ = some r) : FnOk Tryz.prog 13 [rSapi_Schema.ty x_,ti kind_,ti field_] [] (fun _ => []) (fun _ => ttup [ti r.1,ti r.2]) := by
 unfold ftyping_Shares at h
 refine FnOk.enter Tryz.func13 rfl Tryz.ntmps13 (leb rfl) (fun M0 M w0 a hpl hst => ?_)
 replace hst : St M w0 35 [(0,rSapi_Schema.ty x_),(1,ti kind_),(2,ti field_)] [] a w0 := hst
 refine wp_seq_k (fun K1 hK1 => ?_)
 refine wp_reg mixed [] hst (fun _ => .p rfl (op_boxR (R := rSapi_Schema) (u := x_) (.t 0 rfl)) <| .p rfl (op_assign .k) <| .p rfl (op_assign .k) <| .nil _ _) (by kernel_rfl) (fun n0 a w hst => ?_)
 replace hst : St M w0 35 [(3,tptr (rSapi_Schema.cs x_)),(1,ti kind_),(2,ti field_)] [] a w := (hst.pick [0,4,5])
 refine hK1 _ _ ?_
 try clear hK1 K1
 refine wp_seq_k (fun K2 hK2 => ?_)
 obtain ⟨t16,ht16,h⟩ := bind_some h
 refine wp_reg mixed [v1 7 (fun v0 => box (rSapi_Field.cs (Sapi_Field.mk ([] : Str) ([] : Str) ([] : Str) (0:Int) (0:Int) (0:Int) ([] : (List Str)) ([] : (List Int)))) v0),v1 7 (fun v0 => box (rSapi_Field.cs t16.1) v0)] hst (fun _ => .p rfl (op_load tok34 (.t 0 rfl)) <| .q 2 rfl <| .q 4 rfl <| .p rfl (op_callF call44 (typing_at_ok ht16) (.cons (.of (.t 2 rfl)) <| .cons (.of (.t 1 rfl)) <| .cons (.of (.t 0 rfl)) <| .nil)) <| .q 0 rfl <| .p rfl (op_extract (.t 0 rfl) rfl) <| .p rfl (op_extract (.t 1 rfl) rfl) <| .m [] [0] rfl rfl rfl (op_alloc (R := rSapi_Field) (a := (Sapi_Field.mk ([] : Str) ([] : Str) ([] : Str) (0:Int) (0:Int) (0:Int) ([] : (List Str)) ([] : (List Int)))) tok44 zok44) <| .e [] [0] [1] rfl rfl rfl rfl (op_storeB (R := rSapi_Field) (a := t16.1) tok44 (.t 0 rfl) (.t 2 rfl) (leb rfl)) <| .p rfl (op_assign (.t 1 rfl)) <| .nil _ _) (by kernel_rfl) (fun n1 a w hst => ?_)
 replace hst : St M w0 35 [(8,tptr (rSapi_Field.cs t16.1)),(9,tb t16.2),(3,tptr (rSapi_Schema.cs x_)),(1,ti kind_)] [] a w := ((((hst.pick [7,8,9,10]).shareB 0 rfl).add 0 rfl (fun _ _ _ h => h.2)).pick [0,3,4,5])
 refine hK2 _ _ ?_
 try clear hK2 K2
 refine wp_seq_k (fun K4 hK4 => ?_)
 refine wp_seq_k (fun K5 hK5 => ?_)
 refine wp_reg mixed [] hst (fun _ => .q 1 rfl <| .p rfl (op_not (.t 0 rfl)) <| .nil _ _) (by kernel_rfl) (fun n2 a w hst => ?_)
 replace hst : St M w0 35 [(20,tb (!t16.2)),(8,tptr (rSapi_Field.cs t16.1)),(3,tptr (rSapi_Schema.cs x_)),(1,ti kind_)] [] a w := (hst.pick [1,2,4,5])
 refine hK5 _ _ ?_
 try clear hK5 K5
 refine wp_test 0 hst rfl (fun b13 => ?_) (fun b13 => ?_)
 ·replace h := ite_t b13 h
  refine wp_seq_k (fun K6 hK6 => ?_)
  refine wp_reg mixed [] hst (fun _ => .p rfl (op_assign .k) <| .p rfl (op_assign .k) <| .nil _ _) (by kernel_rfl) (fun n3 a w hst => ?_)
  replace hst : St M w0 35 [(6,ti (-1:Int)),(7,ti (-1:Int))] [] a w := (hst.pick [0,1])
  refine hK6 _ _ ?_
  try clear hK6 K6
  refine wp_ret ?_
  obtain rfl := sj h
  exact ret_st undef [] hpl hst rfl (.tmp (.t 0 rfl) (.tmp (.t 1 rfl) .nil)) rfl rfl rfl
 ·replace h := ite_f b13 h
  refine wp_skip ?_
  refine hK4 _ _ ?_
  try clear hK4 K4
  refine wp_seq_k (fun K7 hK7 => ?_)
  obtain ⟨t25,ht25,h⟩ := bind_some h
  refine wp_reg mixed [] hst (fun _ => .p rfl (op_load tok34 (.t 2 rfl)) <| .q 4 rfl <| .p rfl (op_load tok44 (.t 3 rfl)) <| .p rfl (op_callF call45 (typing_shares_ok ht25) (.cons (.of (.t 2 rfl)) <| .cons (.of (.t 1 rfl)) <| .cons (.of (.t 0 rfl)) <| .nil)) <| .q 0 rfl <| .p rfl (op_extract (.t 0 rfl) rfl) <| .p rfl (op_extract (.t 1 rfl) rfl) <| .p rfl (op_assign (.t 1 rfl)) <| .p rfl (op_assign (.t 1 rfl)) <| .nil _ _) (by kernel_rfl) (fun n4 a w hst => ?_)
  replace hst : St M w0 35 [(10,ti t25.1),(11,tsl rI t25.2)] [] a w := (hst.pick [7,8])
  refine hK7 _ _ ?_
  try clear hK7 K7
  refine wp_seq_k (fun K8 hK8 => ?_)
  refine wp_seq_k (fun K9 hK9 => ?_)
  refine wp_reg mixed [] hst (fun _ => .q 1 rfl <| .p rfl (op_len Tryz.underlying22 (.t 0 rfl)) <| .p rfl (op_neq (.t 0 rfl) .k) <| .nil _ _) (by kernel_rfl) (fun n5 a w hst => ?_)
  replace hst : St M w0 35 [(30,tb ((t25.2.length : Int) != (1:Int))),(10,ti t25.1),(11,tsl rI t25.2)] [] a w := (hst.pick [2,3,4])
  refine hK9 _ _ ?_
  try clear hK9 K9
  refine wp_test 0 hst rfl (fun b12 => ?_) (fun b12 => ?_)
  ·replace h := ite_t b12 h
   refine wp_seq_k (fun K10 hK10 => ?_)
   refine wp_reg mixed [] hst (fun _ => .p rfl (op_assign .k) <| .p rfl (op_assign .k) <| .nil _ _) (by kernel_rfl) (fun n6 a w hst => ?_)
   replace hst : St M w0 35 [(6,ti (-1:Int)),(7,ti (-1:Int))] [] a w := (hst.pick [0,1])
   refine hK10 _ _ ?_
   try clear hK10 K10
   refine wp_ret ?_
   obtain rfl := sj h
   exact ret_st undef [] hpl hst rfl (.tmp (.t 0 rfl) (.tmp (.t 1 rfl) .nil)) rfl rfl rfl
  ·replace h := ite_f b12 h
   refine wp_skip ?_
   refine hK8 _ _ ?_
   try clear hK8 K8
   refine wp_seq_k (fun K11 hK11 => ?_)
   obtain ⟨t33,ht33,h⟩ := bind_some h
   refine wp_reg mixed [] hst (fun _ => .q 1 rfl <| .q 3 rfl <| .p rfl (op_index Tryz.underlying22 tok3 (.t 0 rfl) .k ht33) <| .p rfl (op_load tok3 (.t 0 rfl)) <| .p rfl (op_assign (.t 3 rfl)) <| .p rfl (op_assign (.t 1 rfl)) <| .nil _ _) (by kernel_rfl) (fun n7 a w hst => ?_)
   replace hst : St M w0 35 [(6,ti t25.1),(7,ti t33)] [] a w := (hst.pick [4,5])
   refine hK11 _ _ ?_
   try clear hK11 K11
   refine wp_ret ?_
   obtain rfl := sj h
   exact ret_st undef [] hpl hst rfl (.tmp (.t 0 rfl) (.tmp (.t 1 rfl) .nil)) rfl rfl rfl

/- diorama/dioramaref10.Has -/
noncomputable def fref10_Has (x_ : Sapi_Schema) (kind_ : Int) (field_ : Int) : Option (Bool) := (if (((decide (kind_ < (0:Int))) || (decide (kind_ ≥ ((x_).Kinds.length : Int)))) || (decide (field_ < (0:Int)))) = true then (some false) else (idx (x_).Kinds kind_).bind fun t24 => (some (decide (field_ < ((t24).Fields.length : Int)))))
set_option maxRecDepth 100000 in
set_option maxHeartbeats 4000000 in
theorem ref10_Has_ok {x_ : Sapi_Schema} {kind_ : Int} {field_ : Int} {r : Bool} (h : fref10_Has x_ kind_ field_ = some r) : FnOk Tryz.prog 17 [rSapi_Schema.ty x_,ti kind_,ti field_] [] (fun _ => []) (fun _ => tb r) := by
 unfold fref10_Has at h
 refine FnOk.enter Tryz.func17 rfl Tryz.ntmps17 (leb rfl) (fun M0 M w0 a hpl hst => ?_)
 replace hst : St M w0 29 [(0,rSapi_Schema.ty x_),(1,ti kind_),(2,ti field_)] [] a w0 := hst
 refine wp_seq_k (fun K1 hK1 => ?_)
 refine wp_reg mixed [] hst (fun _ => .p rfl (op_boxR (R := rSapi_Schema) (u := x_) (.t 0 rfl)) <| .p rfl (op_assign .k) <| .nil _ _) (by kernel_rfl) (fun n0 a w hst => ?_)
 replace hst : St M w0 29 [(3,tptr (rSapi_Schema.cs x_)),(1,ti kind_),(2,ti field_)] [] a w := (hst.pick [0,3,4])
 refine hK1 _ _ ?_
 try clear hK1 K1
 refine wp_seq_k (fun K2 hK2 => ?_)
 refine wp_seq_k (fun K3 hK3 => ?_)
 refine wp_reg mixed [] hst (fun _ => .q 1 rfl <| .p rfl (op_lss (.t 0 rfl) .k) <| .q 0 rfl <| .g rfl rfl (.b 0 rfl) (fun _ => op_move (.t 4 rfl)) <| .g rfl rfl (.b 1 rfl) (fun _ => op_field fld34_1 (.t 4 rfl)) <| .g rfl rfl (.b 2 rfl) (fun hc => op_loadT (R := (rSl rSapi_Kind)) (u := (x_).Kinds) tok30 (.cond (.t 0 rfl) hc) rfl) <| .g rfl rfl (.b 3 rfl) (fun hc => op_len Tryz.underlying30 (.cond (.t 0 rfl) hc)) <| .g rfl rfl (.b 4 rfl) (fun hc => op_geq (.cond (.t 3 rfl) hc) (.cond (.t 0 rfl) hc)) <| .p rfl (op_or (.t 5 rfl) (fun hp => (.cond (.t 0 rfl) (beqF hp)))) <| .q 0 rfl <| .g rfl rfl (.b 0 rfl) (fun _ => op_move (.t 12 rfl)) <| .g rfl rfl (.b 1 rfl) (fun hc => op_lss (.cond (.t 0 rfl) hc) .k) <| .p rfl (op_or (.t 2 rfl) (fun hp => (.cond (.t 0 rfl) (beqF hp)))) <| .nil _ _) (by kernel_rfl) (fun n1 a w hst => ?_)
 replace hst : St M w0 29 [(19,tb (((decide (kind_ < (0:Int))) || (decide (kind_ ≥ ((x_).Kinds.length : Int)))) || (decide (field_ < (0:Int))))),(3,tptr (rSapi_Schema.cs x_)),(1,ti kind_),(2,ti field_)] [] a w := (hst.pick [12,13,14,15])
 refine hK3 _ _ ?_
 try clear hK3 K3
 refine wp_test 0 hst rfl (fun b6 => ?_) (fun b6 => ?_)
 ·replace h := ite_t b6 h
  refine wp_seq_k (fun K4 hK4 => ?_)
  refine wp_reg mixed [] hst (fun _ => .p rfl (op_assign .k) <| .nil _ _) (by kernel_rfl) (fun n2 a w hst => ?_)
  replace hst : St M w0 29 [(6,tb false)] [] a w := (hst.pick [0])
  refine hK4 _ _ ?_
  try clear hK4 K4
  refine wp_ret ?_
  obtain rfl := sj h
  exact ret_st undef [] hpl hst rfl (.tmp (.t 0 rfl) .nil) rfl rfl rfl
 ·replace h := ite_f b6 h
  refine wp_skip ?_
  refine hK2 _ _ ?_
  try clear hK2 K2
  refine wp_seq_k (fun K5 hK5 => ?_)
  obtain ⟨t24,ht24,h⟩ := bind_some h
  refine wp_reg mixed [] hst (fun _ => .q 3 rfl <| .p rfl (op_field fld34_1 (.t 2 rfl)) <| .p rfl (op_loadT (R := (rSl rSapi_Kind)) (u := (x_).Kinds) tok30 (.t 0 rfl) rfl) <| .q 5 rfl <| .p rfl (op_index Tryz.underlying30 tok47 (.t 1 rfl) (.t 0 rfl) ht24) <| .p rfl (op_field fld47_3 (.t 0 rfl)) <| .p rfl (op_loadT (R := (rSl rSapi_Field)) (u := (t24).Fields) tok45 (.t 0 rfl) rfl) <| .p rfl (op_len Tryz.underlying45 (.t 0 rfl)) <| .p rfl (op_lss (.t 7 rfl) (.t 0 rfl)) <| .p rfl (op_assign (.t 0 rfl)) <| .nil _ _) (by kernel_rfl) (fun n3 a w hst => ?_)
  replace hst : St M w0 29 [(6,tb (decide (field_ < ((t24).Fields.length : Int))))] [] a w := (hst.pick [9])
  refine hK5 _ _ ?_
  try clear hK5 K5
  refine wp_ret ?_
  obtain rfl := sj h
  exact ret_st undef [] hpl hst rfl (.tmp (.t 0 rfl) .nil) rfl rfl rfl

/- diorama/dioramaref10.Kind -/
noncomputable def fref10_Kind (x_ : Sapi_Schema) (name_ : Str) : Option (Int) := (tailrec (fun (s4 : Int) => ((if (decide (s4 < ((x_).Kinds.length : Int))) = true then (idx (x_).Kinds s4).bind fun t16 => (if ((t16).Name == name_) = true then (some (.inr (.inr s4))) else (some (.inl (IntKind.i64.wrap (s4 + (1:Int)))))) else (some (.inr (.inl ())))) : Option ((Int) ⊕ ((Unit) ⊕ (Int))))) (0:Int)).bind fun (e5 : (Unit) ⊕ (Int)) => (match e5 with | .inl p20 => (some (-1:Int)) | .inr p21 => (some p21))
set_option maxRecDepth 100000 in
set_option maxHeartbeats 4000000 in
theorem ref10_Kind_ok {x_ : Sapi_Schema} {name_ : Str} {r : Int} (h : fref10_Kind x_ name_ = some r) : FnOk Tryz.prog 19 [rSapi_Schema.ty x_,tv (.string (sB name_))] [] (fun _ => []) (fun _ => ti r) := by
 unfold fref10_Kind at h
 refine FnOk.enter Tryz.func19 rfl Tryz.ntmps19 (leb rfl) (fun M0 M w0 a hpl hst => ?_)
 replace hst : St M w0 22 [(0,rSapi_Schema.ty x_),(1,tv (.string (sB name_)))] [] a w0 := hst
 refine wp_seq_k (fun K1 hK1 => ?_)
 refine wp_reg mixed [] hst (fun _ => .p rfl (op_boxR (R := rSapi_Schema) (u := x_) (.t 0 rfl)) <| .p rfl (op_assign .k) <| .nil _ _) (by kernel_rfl) (fun n0 a w hst => ?_)
 replace hst : St M w0 22 [(2,tptr (rSapi_Schema.cs x_)),(1,tv (.string (sB name_)))] [] a w := (hst.pick [0,3])
 refine hK1 _ _ ?_
 try clear hK1 K1
 refine wp_seq_k (fun K2 hK2 => ?_)
 refine wp_seq_k (fun K3 hK3 => ?_)
 refine wp_reg mixed [] hst (fun _ => .p rfl (op_assign .k) <| .nil _ _) (by kernel_rfl) (fun n1 a w hst => ?_)
 replace hst : St M w0 22 [(5,ti (0:Int)),(2,tptr (rSapi_Schema.cs x_)),(1,tv (.string (sB name_)))] [] a w := (hst.pick [0,1,2])
 refine hK3 _ _ ?_
 try clear hK3 K3
 obtain ⟨e5,he5,h⟩ := bind_some h
 have hJp20 : ∀ (p20 : Unit) a w,(.inl p20) = e5 → St M w0 22 [] [] a w → K2 a w := by
  intro p20 a w he hst
  subst he
  simp only at h
  refine hK2 _ _ ?_
  try clear hK2 K2
  refine wp_seq_k (fun K22 hK22 => ?_)
  refine wp_reg mixed [] hst (fun _ => .p rfl (op_assign .k) <| .nil _ _) (by kernel_rfl) (fun n6 a w hst => ?_)
  replace hst : St M w0 22 [(4,ti (-1:Int))] [] a w := (hst.pick [0])
  refine hK22 _ _ ?_
  try clear hK22 K22
  refine wp_ret ?_
  obtain rfl := sj h
  exact ret_st undef [] hpl hst rfl (.tmp (.t 0 rfl) .nil) rfl rfl rfl
 have hJp21 : ∀ (p21 : Int) a w,(.inr p21) = e5 → St M w0 22 [(4,ti p21)] [] a w → Ret Tryz.prog Tryz.f19 M0 [] w0 (fun _ => []) (fun _ => ti r) .ret a w := by
  intro p21 a w he hst
  subst he
  simp only at h
  obtain rfl := sj h
  exact ret_st undef [] hpl hst rfl (.tmp (.t 0 rfl) .nil) rfl rfl rfl
 refine wp_block ?_
 refine wp_loopK _ (fun (s4 : Int) a w => St M w0 22 [(5,ti s4),(2,tptr (rSapi_Schema.cs x_)),(1,tv (.string (sB name_)))] [] a w) _ _ he5 (hst.pick [0,1,2]) ?_
 clear h
 intro s4 o a w K23 hI h ho hK23
 have hst := hI
 clear hI
 refine wp_seq_k (fun K24 hK24 => ?_)
 refine wp_seq_k (fun K25 hK25 => ?_)
 refine wp_reg mixed [] hst (fun _ => .q 0 rfl <| .p rfl (op_field fld34_1 (.t 2 rfl)) <| .p rfl (op_loadT (R := (rSl rSapi_Kind)) (u := (x_).Kinds) tok30 (.t 0 rfl) rfl) <| .p rfl (op_len Tryz.underlying30 (.t 0 rfl)) <| .p rfl (op_lss (.t 3 rfl) (.t 0 rfl)) <| .nil _ _) (by kernel_rfl) (fun n2 a w hst => ?_)
 replace hst : St M w0 22 [(10,tb (decide (s4 < ((x_).Kinds.length : Int)))),(5,ti s4),(2,tptr (rSapi_Schema.cs x_)),(1,tv (.string (sB name_)))] [] a w := (hst.pick [4,5,6,7])
 refine hK25 _ _ ?_
 try clear hK25 K25
 refine wp_test 0 hst rfl (fun b30 => ?_) (fun b30 => ?_)
 ·replace h := ite_t b30 h
  refine wp_skip ?_
  refine hK24 _ _ ?_
  try clear hK24 K24
  refine wp_seq_k (fun K26 hK26 => ?_)
  refine wp_block ?_
  refine wp_seq_k (fun K27 hK27 => ?_)
  obtain ⟨t16,ht16,h⟩ := bind_some h
  refine wp_reg mixed [] hst (fun _ => .p rfl (op_field fld34_1 (.t 2 rfl)) <| .p rfl (op_loadT (R := (rSl rSapi_Kind)) (u := (x_).Kinds) tok30 (.t 0 rfl) rfl) <| .q 3 rfl <| .p rfl (op_index Tryz.underlying30 tok47 (.t 1 rfl) (.t 0 rfl) ht16) <| .p rfl (op_field fld47_0 (.t 0 rfl)) <| .p rfl (op_loadT (R := rS) (u := (t16).Name) tok9 (.t 0 rfl) rfl) <| .q 9 rfl <| .p rfl (op_eqlS (.t 1 rfl) (.t 0 rfl)) <| .nil _ _) (by kernel_rfl) (fun n4 a w hst => ?_)
  replace hst : St M w0 22 [(20,tb ((t16).Name == name_)),(5,ti s4),(2,tptr (rSapi_Schema.cs x_)),(1,tv (.string (sB name_)))] [] a w := (hst.pick [7,9,10,11])
  refine hK27 _ _ ?_
  try clear hK27 K27
  refine wp_test 0 hst rfl (fun b29 => ?_) (fun b29 => ?_)
  ·replace h := ite_t b29 h
   refine wp_seq_k (fun K28 hK28 => ?_)
   refine wp_reg mixed [] hst (fun _ => .q 1 rfl <| .p rfl (op_assign (.t 0 rfl)) <| .nil _ _) (by kernel_rfl) (fun n5 a w hst => ?_)
   replace hst : St M w0 22 [(4,ti s4)] [] a w := (hst.pick [1])
   refine hK28 _ _ ?_
   try clear hK28 K28
   refine wp_ret ?_
   exact hJp21 _ _ _ (ho _ (sj h).symm) (hst.pick [0])
  ·replace h := ite_f b29 h
   refine wp_skip ?_
   refine hK26 _ _ ?_
   try clear hK26 K26
   refine wp_reg mixed [] hst (fun _ => .q 1 rfl <| .p rfl (op_add (.t 0 rfl) .k) <| .p rfl (op_assign (.t 0 rfl)) <| .nil _ _) (by kernel_rfl) (fun n3 a w hst => ?_)
   replace hst : St M w0 22 [(5,ti (IntKind.i64.wrap (s4 + (1:Int)))),(2,tptr (rSapi_Schema.cs x_)),(1,tv (.string (sB name_)))] [] a w := (hst.pick [2,4,5])
   exact hK23 _ _ _ (sj h).symm (hst.pick [0,1,2])
 ·replace h := ite_f b30 h
  refine wp_exit ?_
  exact hJp20 _ _ _ (ho _ (sj h).symm) (hst.pick [])

/- diorama/dioramaref10.Field -/
noncomputable def fref10_Field (k_ : Sapi_Kind) (name_ : Str) : Option (Int) := (tailrec (fun (s4 : Int) => ((if (decide (s4 < ((k_).Fields.length : Int))) = true then (idx (k_).Fields s4).bind fun t16 => (if ((t16).Name == name_) = true then (some (.inr (.inr s4))) else (some (.inl (IntKind.i64.wrap (s4 + (1:Int)))))) else (some (.inr (.inl ())))) : Option ((Int) ⊕ ((Unit) ⊕ (Int))))) (0:Int)).bind fun (e5 : (Unit) ⊕ (Int)) => (match e5 with | .inl p20 => (some (-1:Int)) | .inr p21 => (some p21))
set_option maxRecDepth 100000 in
set_option maxHeartbeats 4000000 in
theorem ref10_Field_ok {k_ : Sapi_Kind} {name_ : Str} {r : Int} (h : fref10_Field k_ name_ = some r) : FnOk Tryz.prog 21 [rSapi_Kind.ty k_,tv (.string (sB name_))] [] (fun _ => []) (fun _ => ti r) := by
 unfold fref10_Field at h
 refine FnOk.enter Tryz.func21 rfl Tryz.ntmps21 (leb rfl) (fun M0 M w0 a hpl hst => ?_)
 replace hst : St M w0 22 [(0,rSapi_Kind.ty k_),(1,tv (.string (sB name_)))] [] a w0 := hst
 refine wp_seq_k (fun K1 hK1 => ?_)
 refine wp_reg mixed [] hst (fun _ => .p rfl (op_boxR (R := rSapi_Kind) (u := k_) (.t 0 rfl)) <| .p rfl (op_assign .k) <| .nil _ _) (by kernel_rfl) (fun n0 a w hst => ?_)
 replace hst : St M w0 22 [(2,tptr (rSapi_Kind.cs k_)),(1,tv (.string (sB name_)))] [] a w := (hst.pick [0,3])
 refine hK1 _ _ ?_
 try clear hK1 K1
 refine wp_seq_k (fun K2 hK2 => ?_)
 refine wp_seq_k (fun K3 hK3 => ?_)
 refine wp_reg mixed [] hst (fun _ => .p rfl (op_assign .k) <| .nil _ _) (by kernel_rfl) (fun n1 a w hst => ?_)
 replace hst : St M w0 22 [(5,ti (0:Int)),(2,tptr (rSapi_Kind.cs k_)),(1,tv (.string (sB name_)))] [] a w := (hst.pick [0,1,2])
 refine hK3 _ _ ?_
 try clear hK3 K3
 obtain ⟨e5,he5,h⟩ := bind_some h
 have hJp20 : ∀ (p20 : Unit) a w,(.inl p20) = e5 → St M w0 22 [] [] a w → K2 a w := by
  intro p20 a w he hst
  subst he
  simp only at h
  refine hK2 _ _ ?_
  try clear hK2 K2
  refine wp_seq_k (fun K22 hK22 => ?_)
  refine wp_reg mixed [] hst (fun _ => .p rfl (op_assign .k) <| .nil _ _) (by kernel_rfl) (fun n6 a w hst => ?_)
  replace hst : St M w0 22 [(4,ti (-1:Int))] [] a w := (hst.pick [0])
  refine hK22 _ _ ?_
  try clear hK22 K22
  refine wp_ret ?_
  obtain rfl := sj h
  exact ret_st undef [] hpl hst rfl (.tmp (.t 0 rfl) .nil) rfl rfl rfl
 have hJp21 : ∀ (p21 : Int) a w,(.inr p21) = e5 → St M w0 22 [(4,ti p21)] [] a w → Ret Tryz.prog Tryz.f21 M0 [] w0 (fun _ => []) (fun _ => ti r) .ret a w := by
  intro p21 a w he hst
  subst he
  simp only at h
  obtain rfl := sj h
  exact ret_st undef [] hpl hst rfl (.tmp (.t 0 rfl) .nil) rfl rfl rfl
 refine wp_block ?_
 refine wp_loopK _ (fun (s4 : Int) a w => St M w0 22 [(5,ti s4),(2,tptr (rSapi_Kind.cs k_)),(1,tv (.string (sB name_)))] [] a w) _ _ he5 (hst.pick [0,1,2]) ?_
 clear h
 intro s4 o a w K23 hI h ho hK23
 have hst := hI
 clear hI
 refine wp_seq_k (fun K24 hK24 => ?_)
 refine wp_seq_k (fun K25 hK25 => ?_)
 refine wp_reg mixed [] hst (fun _ => .q 0 rfl <| .p rfl (op_field fld47_3 (.t 2 rfl)) <| .p rfl (op_loadT (R := (rSl rSapi_Field)) (u := (k_).Fields) tok45 (.t 0 rfl) rfl) <| .p rfl (op_len Tryz.underlying45 (.t 0 rfl)) <| .p rfl (op_lss (.t 3 rfl) (.t 0 rfl)) <| .nil _ _) (by kernel_rfl) (fun n2 a w hst => ?_)
 replace hst : St M w0 22 [(10,tb (decide (s4 < ((k_).Fields.length : Int)))),(5,ti s4),(2,tptr (rSapi_Kind.cs k_)),(1,tv (.string (sB name_)))] [] a w := (hst.pick [4,5,6,7])
 refine hK25 _ _ ?_
 try clear hK25 K25
 refine wp_test 0 hst rfl (fun b30 => ?_) (fun b30 => ?_)
 ·replace h := ite_t b30 h
  refine wp_skip ?_
  refine hK24 _ _ ?_
  try clear hK24 K24
  refine wp_seq_k (fun K26 hK26 => ?_)
  refine wp_block ?_
  refine wp_seq_k (fun K27 hK27 => ?_)
  obtain ⟨t16,ht16,h⟩ := bind_some h
  refine wp_reg mixed [] hst (fun _ => .p rfl (op_field fld47_3 (.t 2 rfl)) <| .p rfl (op_loadT (R := (rSl rSapi_Field)) (u := (k_).Fields) tok45 (.t 0 rfl) rfl) <| .q 3 rfl <| .p rfl (op_index Tryz.underlying45 tok44 (.t 1 rfl) (.t 0 rfl) ht16) <| .p rfl (op_field fld44_0 (.t 0 rfl)) <| .p rfl (op_loadT (R := rS) (u := (t16).Name) tok9 (.t 0 rfl) rfl) <| .q 9 rfl <| .p rfl (op_eqlS (.t 1 rfl) (.t 0 rfl)) <| .nil _ _) (by kernel_rfl) (fun n4 a w hst => ?_)
  replace hst : St M w0 22 [(20,tb ((t16).Name == name_)),(5,ti s4),(2,tptr (rSapi_Kind.cs k_)),(1,tv (.string (sB name_)))] [] a w := (hst.pick [7,9,10,11])
  refine hK27 _ _ ?_
  try clear hK27 K27
  refine wp_test 0 hst rfl (fun b29 => ?_) (fun b29 => ?_)
  ·replace h := ite_t b29 h
   refine wp_seq_k (fun K28 hK28 => ?_)
   refine wp_reg mixed [] hst (fun _ => .q 1 rfl <| .p rfl (op_assign (.t 0 rfl)) <| .nil _ _) (by kernel_rfl) (fun n5 a w hst => ?_)
   replace hst : St M w0 22 [(4,ti s4)] [] a w := (hst.pick [1])
   refine hK28 _ _ ?_
   try clear hK28 K28
   refine wp_ret ?_
   exact hJp21 _ _ _ (ho _ (sj h).symm) (hst.pick [0])
  ·replace h := ite_f b29 h
   refine wp_skip ?_
   refine hK26 _ _ ?_
   try clear hK26 K26
   refine wp_reg mixed [] hst (fun _ => .q 1 rfl <| .p rfl (op_add (.t 0 rfl) .k) <| .p rfl (op_assign (.t 0 rfl)) <| .nil _ _) (by kernel_rfl) (fun n3 a w hst => ?_)
   replace hst : St M w0 22 [(5,ti (IntKind.i64.wrap (s4 + (1:Int)))),(2,tptr (rSapi_Kind.cs k_)),(1,tv (.string (sB name_)))] [] a w := (hst.pick [2,4,5])
   exact hK23 _ _ _ (sj h).symm (hst.pick [0,1,2])
 ·replace h := ite_f b30 h
  refine wp_exit ?_
  exact hJp20 _ _ _ (ho _ (sj h).symm) (hst.pick [])

end Go.Proofs.YthdfmpocknmleaaGreatDoor

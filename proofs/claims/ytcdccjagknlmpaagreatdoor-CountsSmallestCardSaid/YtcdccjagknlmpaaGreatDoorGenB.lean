/- Go functions as Lean functions, and the proofs that they compute them, written by a program. No condition. -/
import Derived.Test.YtcdccjagknlmpaaGreatDoorGenA
namespace Go.Proofs.YtcdccjagknlmpaaGreatDoor
open Go.Sim
set_option maxRecDepth 100000
set_option maxHeartbeats 4000000

/- diorama/dioramaref09.Schema -/
noncomputable def QbY (l_ : (List Int)) : Option (Qg) := (sub l_ (0:Int) (imin (l_.length : Int) (200:Int))).bind fun t17 => (QA (Qv.mk t17 (0:Int)) (4:Int)).bind fun t21 => (QA t21.2 (3:Int)).bind fun t24 => (QI (fun (s13 : Int × List Qi × Qv) => ((if (decide (s13.1 < (IntKind.i64.wrap ((1:Int) + t24.1)))) = true then (Qbk s13.2.2 s13.2.1).bind fun t36 => (rm (t36.2.2.length + [t36.1].length)).bind fun _ => (some (.inl ((IntKind.i64.wrap (s13.1 + (1:Int))),(t36.2.2 ++ [t36.1]),t36.2.1))) else (some (.inr (s13.2.1,s13.2.2)))) : Option ((Int × List Qi × Qv) ⊕ ((List Qi × Qv))))) ((0:Int),([] : List Qi),t24.2)).bind fun (p24 : (List Qi × Qv)) => (QA p24.2 (3:Int)).bind fun t42 => (sub [([110,101,119] : Str),([111,112,101,110] : Str),([100,111,110,101] : Str),([115,104,117,116] : Str)] (0:Int) (IntKind.i64.wrap ((2:Int) + t42.1))).bind fun t44 => (QI (fun (s32 : Int × List QK) => ((if (decide ((IntKind.i64.wrap (s32.1 + (1:Int))) < (t44.length : Int))) = true then (rm (s32.2.length + [(QK.mk s32.1 (IntKind.i64.wrap (s32.1 + (1:Int))))].length)).bind fun _ => (some (.inl ((IntKind.i64.wrap (s32.1 + (1:Int))),(s32.2 ++ [(QK.mk s32.1 (IntKind.i64.wrap (s32.1 + (1:Int))))])))) else (some (.inr s32.2))) : Option ((Int × List QK) ⊕ ((List QK))))) ((0:Int),([] : List QK))).bind fun (p43 : (List QK)) => (QA t42.2 (2:Int)).bind fun t64 => ((if (t64.1 == (0:Int)) = true then (rm (p43.length + [(QK.mk (1:Int) (0:Int))].length)).bind fun _ => (some (p43 ++ [(QK.mk (1:Int) (0:Int))])) else (some p43))).bind fun (p47 : List QK) => (QA t64.2 (3:Int)).bind fun t73 => ((if (t73.1 == (0:Int)) = true then (rm (p47.length + [(QK.mk (0:Int) (IntKind.i64.wrap ((t44.length : Int) - (1:Int))))].length)).bind fun _ => (some (p47 ++ [(QK.mk (0:Int) (IntKind.i64.wrap ((t44.length : Int) - (1:Int))))])) else (some p47))).bind fun (p52 : List QK) => (rm (([] : List Qu).length + [(Qu.mk ([108,105,102,101] : Str) t44 p52)].length)).bind fun _ => (QI (fun (s58 : Int × List Qo × Qv) => ((if ((decide (s58.1 < (IntKind.i64.wrap ((1:Int) + t24.1)))) && (decide ((s58.2.1.length : Int) < (2:Int)))) = true then (idx p24.1 s58.1).bind fun t106 => (Qbl s58.2.2 t106).bind fun t108 => ((if t108.2.1 = true then (rm (s58.2.1.length + [t108.1].length)).bind fun _ => (some (s58.2.1 ++ [t108.1])) else (some s58.2.1))).bind fun (p93 : List Qo) => (some (.inl ((IntKind.i64.wrap (s58.1 + (1:Int))),p93,t108.2.2))) else (some (.inr s58.2.1))) : Option ((Int × List Qo × Qv) ⊕ ((List Qo))))) ((0:Int),([] : List Qo),t73.2)).bind fun (p83 : (List Qo)) => (some (Qg.mk t21.1 p24.1 (([] : List Qu) ++ [(Qu.mk ([108,105,102,101] : Str) t44 p52)]) p83))
theorem QnC {l_ : (List Int)} {r : Qg} (h : QbY l_ = some r) : FnOk Tryz.prog 10 [tsl rI l_] [] (fun _ => []) (fun _ => Qm.ty r) := by
 unfold QbY at h
 refine fe Tryz.func10 Tryz.ntmps10 fun M0 M w0 a hpl H => ?_
 replace H : St M w0 119 [(0,tsl rI l_)] [] a w0 := H
 refine sr mx [v1 0 (fun v0 => box (Qm.cs zz4) v0)] H (fun _ => .m [] [0] rfl rfl rfl (Q1 (R := Qm) (a := zz4) QaR Qpr)<|.n) fun n0 a w H => ?_
 have H := H.to [0,1] [_,_] [_] rfl rfl
 have ⟨t17,ht17,h⟩ := bs h
 refine sr mx [v1 6 (fun v0 => box (Qt.cs (Qv.mk t17 (0:Int))) v0)] H (fun _ => .q 1 rfl<|.q 2 rfl<|.o (QN ud22 z0)<|.o (QpH z0 .k)<|.o (QgU ud22 tok3 z3 (.no _) (.op z0) ht17)<|.p (T := Qt.ty (Qv.mk t17 (0:Int))) rfl (QX Tryz.underlying76 pl76 zv76 zc76 (.cons (R := (rSl rI)) (u := t17) rfl z0 (leb rfl)<|.nil _))<|.m [] [1] rfl rfl rfl (Qsa (R := Qt) (u := (Qv.mk t17 (0:Int))) z0)<|.ud (f := fun v => tv v) 6 rfl [] rfl rfl (Qa z0)<|.n) fun n1 a w H => ?_
 have H := H.to [7,8] [_,_] [_,_] rfl rfl
 have ⟨t21,ht21,h⟩ := bs h
 refine sr mx [v0 (box (Qt.cs t21.2) (n1 6)),v1 3 (fun v0 => box (Qm.cs zz4) v0),v1 3 (fun v0 => box ([ti t21.1,tvs nilV,tvs nilV,tvs nilV]) v0)] H (fun _ => .q 0 rfl<|.e [] [1] [2] rfl rfl rfl rfl (Qh Qas (QB ht21) (.cons (.of z0)<|.cons (.of .k)<|.nil))<|.p (T := tagg ([ti t21.1,tvs nilV,tvs nilV,tvs nilV])) rfl (QX Tryz.underlying27 pl27 zv27 (QpV).1 (.cons (R := rI) (u := t21.1) rfl z0 (leb rfl)<|.nil _))<|.m [] [3] rfl rfl rfl (Q1 (R := Qm) (a := zz4) QaR Qpr)<|.e [] [3] [4] rfl rfl rfl rfl (QR (R := (rAgg ([ti t21.1,tvs nilV,tvs nilV,tvs nilV]) (Qy (Q3 rfl) (Qy QdW (Qy QdW (Qy QdW Qal)))))) (a := ()) (tokA QaR (Qy (Q3 rfl) (Qy QdW (Qy QdW (Qy QdW Qal)))) rfl rfl) z0 z1 (leb rfl))<|.n) fun n2 a w H => ?_
 replace H : St _ _ _ [_,_,_] [_,_,_,_,_,_] _ _ := (((H.pick [3,4,5]).nil (Qk) 55).nil (QJ) 81).nil (QC) 84
 have ⟨t24,ht24,h⟩ := bs h
 refine sr mx [v0 (box (Qt.cs t24.2) (n1 6))] H (fun _ => .q 1 rfl<|.e [] [4] [6] rfl rfl rfl rfl (Qh Qas (QB ht24) (.cons (.of z0)<|.cons (.of .k)<|.nil))<|.o (QV .k z0)<|.o (Qa z0)<|.n) fun _ a w H => ?_
 have H := H.to [3,4,5,6] [_,_,_,_] [_,_,_,_,_,_] rfl rfl
 refine wp_seq_k (fun K11 k11 => ?_)
 refine sr mx [] H (fun _ => .o (Qa .k)<|.n) fun _ a w H => ?_
 have H := H.to [0,1,2,3,4] [_,_,_,_,_] [_,_,_,_,_,_] rfl rfl
 have ⟨e14,he14,h⟩ := bs h
 have hJp24 : ∀ (p24 : List Qi × Qv) (v25 : Value) a w,p24 = e14 → St M w0 119 [(5,ti (IntKind.i64.wrap ((1:Int) + t24.1))),(4,tv (n2 3)),(3,tv (n1 6)),(2,tv (n0 0))] [own QC 84 ([] : List Qo) nilV,own QJ 81 ([] : List Qu) nilV,own Qk 55 p24.1 v25,box (Qm.cs zz4) (n0 0),box ([ti t21.1,tvs v25,tvs nilV,tvs nilV]) (n2 3),box (Qt.cs p24.2) (n1 6)] a w → K11 a w := by
  intro p24 v25 a w he H
  subst he
  refine k11 _ _ ?_
  have ⟨t42,ht42,h⟩ := bs h
  have ⟨t44,ht44,h⟩ := bs h
  refine sr mx [v0 (box (Qt.cs t42.2) (n1 6))] H (fun _ => .o (QE (R := rS) (us := [([110,101,119] : Str),([111,112,101,110] : Str),([100,111,110,101] : Str),([115,104,117,116] : Str)]) ud32 tok9 (.cons .k<|.cons .k<|.cons .k<|.cons .k<|.nil _) rfl (leb rfl))<|.q 3 rfl<|.e [] [5] [6] rfl rfl rfl rfl (Qh Qas (QB ht42) (.cons (.of z0)<|.cons (.of .k)<|.nil))<|.o (QV .k z0)<|.o (QgU ud32 tok9 z3 (.no _) (.op z0) ht44)<|.o (Qa z0)<|.n) fun _ a w H => ?_
  have H := H.to [5,6,7,8,9] [_,_,_,_,_] [_,_,_,_,_,_] rfl rfl
  refine sr mx [v1 2 (fun v0 => box (QJ.cs zz2) v0),v1 2 (fun v0 => box ([tv (.string (sB ([108,105,102,101] : Str))),tsl rS t44,tvs nilV]) v0)] H (fun _ => .q 0 rfl<|.p (T := tagg ([tv (.string (sB ([108,105,102,101] : Str))),tsl rS t44,tvs nilV])) rfl (QX Tryz.underlying81 pl81 zv81 (QtS).1 (.cons (R := rS) (u := ([108,105,102,101] : Str)) rfl .k (leb rfl)<|.cons (R := (rSl rS)) (u := t44) rfl z0 (leb rfl)<|.nil _))<|.m [] [6] rfl rfl rfl (Q1 (R := QJ) (a := zz2) Qex QrE)<|.e [] [6] [7] rfl rfl rfl rfl (QR (R := (rAgg ([tv (.string (sB ([108,105,102,101] : Str))),tsl rS t44,tvs nilV]) (Qy (Q3 rfl) (Qy Qcd (Qy QdW Qal))))) (a := ()) (tokA Qex (Qy (Q3 rfl) (Qy Qcd (Qy QdW Qal))) rfl rfl) z0 z1 (leb rfl))<|.n) fun n9 a w H => ?_
  replace H : St _ _ _ [_,_,_,_,_,_] [_,_,_,_,_,_,_,_] _ _ := (H.pick [2,3,4,5,6,7]).nil (Q8) 82
  refine wp_seq_k (fun K30 k30 => ?_)
  refine sr mx [] H (fun _ => .o (Qa .k)<|.n) fun _ a w H => ?_
  have H := H.to [0,1,2,3,4,5,6] [_,_,_,_,_,_,_] [_,_,_,_,_,_,_,_] rfl rfl
  have ⟨e33,he33,h⟩ := bs h
  have hJp43 : ∀ (p43 : List QK) (v44 : Value) a w,p43 = e33 → St M w0 119 [(8,tv (n9 2)),(7,tsl rS t44),(5,ti (IntKind.i64.wrap ((1:Int) + t24.1))),(4,tv (n2 3)),(3,tv (n1 6)),(2,tv (n0 0))] [own Q8 82 p43 v44,own QC 84 ([] : List Qo) nilV,own QJ 81 ([] : List Qu) nilV,own Qk 55 p24.1 v25,box (Qm.cs zz4) (n0 0),box ([ti t21.1,tvs v25,tvs nilV,tvs nilV]) (n2 3),box (Qt.cs t42.2) (n1 6),box ([tv (.string (sB ([108,105,102,101] : Str))),tsl rS t44,tvs v44]) (n9 2)] a w → K30 a w := by
   intro p43 v44 a w he H
   subst he
   refine k30 _ _ ?_
   refine wp_seq_k (fun K45 k45 => ?_)
   have ⟨t64,ht64,h⟩ := bs h
   refine sr mx [v0 (box (Qt.cs t64.2) (n1 6))] H (fun _ => .q 4 rfl<|.e [] [6] [8] rfl rfl rfl rfl (Qh Qas (QB ht64) (.cons (.of z0)<|.cons (.of .k)<|.nil))<|.o (Q4 z0 .k)<|.n) fun _ a w H => ?_
   have H := H.to [2,3,4,5,6,7,8] [_,_,_,_,_,_,_] [_,_,_,_,_,_,_,_] rfl rfl
   have ⟨p47,hp47,h⟩ := bs h
   have hJp47 : ∀ (v49 : Value) a w,St M w0 119 [(8,tv (n9 2)),(7,tsl rS t44),(5,ti (IntKind.i64.wrap ((1:Int) + t24.1))),(4,tv (n2 3)),(3,tv (n1 6)),(2,tv (n0 0))] [own QC 84 ([] : List Qo) nilV,own QJ 81 ([] : List Qu) nilV,own Qk 55 p24.1 v25,box (Qm.cs zz4) (n0 0),box ([ti t21.1,tvs v25,tvs nilV,tvs nilV]) (n2 3),box (Qt.cs t64.2) (n1 6),own Q8 82 p47 v49,box ([tv (.string (sB ([108,105,102,101] : Str))),tsl rS t44,tvs v49]) (n9 2)] a w → K45 a w := by
    intro v49 a w H
    refine k45 _ _ ?_
    refine wp_seq_k (fun K50 k50 => ?_)
    have ⟨t73,ht73,h⟩ := bs h
    refine sr mx [v0 (box (Qt.cs t73.2) (n1 6))] H (fun _ => .q 4 rfl<|.e [] [5] [8] rfl rfl rfl rfl (Qh Qas (QB ht73) (.cons (.of z0)<|.cons (.of .k)<|.nil))<|.o (Q4 z0 .k)<|.n) fun _ a w H => ?_
    have H := H.to [2,3,4,5,6,7,8] [_,_,_,_,_,_,_] [_,_,_,_,_,_,_,_] rfl rfl
    have ⟨p52,hp52,h⟩ := bs h
    have hJp52 : ∀ (v54 : Value) a w,St M w0 119 [(8,tv (n9 2)),(5,ti (IntKind.i64.wrap ((1:Int) + t24.1))),(4,tv (n2 3)),(3,tv (n1 6)),(2,tv (n0 0))] [own QC 84 ([] : List Qo) nilV,own QJ 81 ([] : List Qu) nilV,own Qk 55 p24.1 v25,box (Qm.cs zz4) (n0 0),box ([ti t21.1,tvs v25,tvs nilV,tvs nilV]) (n2 3),box (Qt.cs t73.2) (n1 6),own Q8 82 p52 v54,box ([tv (.string (sB ([108,105,102,101] : Str))),tsl rS t44,tvs v54]) (n9 2)] a w → K50 a w := by
     intro v54 a w H
     refine k50 _ _ ?_
     refine wp_seq_k (fun _ k55 => ?_)
     replace H : St _ _ _ [_,_,_,_,_] [_,_,_,_,_,_,_] _ _ := ((H.pick [0,1,2,3,4]).selA [6,7,0,1,2,3,4,5] rfl).shareC 2 rfl
     have ⟨u88,hu88,h⟩ := bs h
     refine wr mx [v1 4 (fun v0 => own QJ 81 (([] : List Qu) ++ [(Qu.mk ([108,105,102,101] : Str) t44 p52)]) v0),v1 4 (fun v0 => box ([ti t21.1,tvs v25,tvs v0,tvs nilV]) (n2 3))] H (fun _ => .u [5] rfl rfl (Qz Qhc z2)<|.u [5] rfl rfl (Qac (u := nilV) Qso z0 rfl)<|.u [0] rfl rfl (Qdy (R := QJ) (u := (Qu.mk ([108,105,102,101] : Str) t44 p52)) Qex z2 rfl)<|.o (QE (R := QJ) (us := [(Qu.mk ([108,105,102,101] : Str) t44 p52)]) ud24 Qex (.cons z0<|.nil _) rfl (leb rfl))<|.e [] [2] [7] rfl rfl rfl rfl (Qaf (R := QJ) ud24 Qex (leb rfl) z2 z0 hu88)<|.u [5] rfl rfl (Qz Qhc z7)<|.e [7] [5] [8] rfl rfl rfl rfl (Qa9 (R := QJ) (e := 81) (Ts := ([ti t21.1,tvs v25,tvs nilV,tvs nilV])) (off := 2) Qso z0 z1 (leb rfl))<|.n) fun n18 a w H => ?_
     replace H : St _ _ _ [_,_,_,_,_] [_,_,_,_,_,_] _ _ := (H.pick [4,7,8,9,10]).selA [1,2,3,4,5,6] rfl
     refine k55 _ _ ?_
     refine wp_seq_k (fun K56 k56 => ?_)
     refine sr mx [] H (fun _ => .o (Qa .k)<|.n) fun _ a w H => ?_
     have H := H.to [0,1,2,3,4,5] [_,_,_,_,_,_] [_,_,_,_,_,_] rfl rfl
     have ⟨e59,he59,h⟩ := bs h
     have hJp83 : ∀ (p83 : List Qo) (v84 : Value) a w,p83 = e59 → St M w0 119 [(4,tv (n2 3)),(2,tv (n0 0))] [own QC 84 p83 v84,own Qk 55 p24.1 v25,box (Qm.cs zz4) (n0 0),own QJ 81 (([] : List Qu) ++ [(Qu.mk ([108,105,102,101] : Str) t44 p52)]) (n18 4),box ([ti t21.1,tvs v25,tvs (n18 4),tvs v84]) (n2 3)] a w → K56 a w := by
      intro p83 v84 a w he H
      subst he
      refine k56 _ _ ?_
      refine wp_seq_k (fun _ k85 => ?_)
      replace H : St _ _ _ [_,_] [_,_,_,_] _ _ := ((H.pick [0,1]).selA [1,4,0,2,3] rfl).shareC 1 rfl
      replace H : St _ _ _ [_,_] [_,_,_] _ _ := ((H.pick [0,1]).selA [3,0,1,2] rfl).shareC 2 rfl
      replace H : St _ _ _ [_,_] [_,_] _ _ := ((H.pick [0,1]).selA [1,0,2] rfl).shareC 3 rfl
      refine wr mx [v0 (box (Qm.cs (Qg.mk t21.1 p24.1 (([] : List Qu) ++ [(Qu.mk ([108,105,102,101] : Str) t44 p52)]) p83)) (n0 0))] H (fun _ => .u [0] rfl rfl (Qdy (R := Qm) (u := (Qg.mk t21.1 p24.1 (([] : List Qu) ++ [(Qu.mk ([108,105,102,101] : Str) t44 p52)]) p83)) QaR z0 rfl)<|.e [] [1] [2] rfl rfl rfl rfl (QR (R := Qm) (a := (Qg.mk t21.1 p24.1 (([] : List Qu) ++ [(Qu.mk ([108,105,102,101] : Str) t44 p52)]) p83)) QaR z2 z0 (leb rfl))<|.n) fun _ a w H => ?_
      replace H : St _ _ _ [_] [_] _ _ := (H.pick [2]).selA [1] rfl
      refine k85 _ _ ?_
      refine wp_ret ?_
      obtain rfl := sj h
      exact rt undef [] hpl H (.cell (R := Qm) (u := (Qg.mk t21.1 p24.1 (([] : List Qu) ++ [(Qu.mk ([108,105,102,101] : Str) t44 p52)]) p83)) QaR z0 0 rfl rfl .nil)
     refine wp_block ?_
     refine QZ _ (fun (s58 : Int × List Qo × Qv) a w => ∃ v71 : Value,St M w0 119 [(10,ti s58.1),(5,ti (IntKind.i64.wrap ((1:Int) + t24.1))),(4,tv (n2 3)),(3,tv (n1 6)),(2,tv (n0 0))] [own QC 84 s58.2.1 v71,own Qk 55 p24.1 v25,box (Qm.cs zz4) (n0 0),box (Qt.cs s58.2.2) (n1 6),own QJ 81 (([] : List Qu) ++ [(Qu.mk ([108,105,102,101] : Str) t44 p52)]) (n18 4),box ([ti t21.1,tvs v25,tvs (n18 4),tvs v71]) (n2 3)] a w) _ _ he59 ⟨nilV,H.pick [0,2,3,4,5]⟩ ?_
     clear h
     intro s58 o a w K86 hI h ho k86
     obtain ⟨v71,H⟩ := hI
     refine wp_seq_k (fun _ k87 => ?_)
     refine sr mx [] H (fun _ => .q 0 rfl<|.q 2 rfl<|.o (QU z1 z0)<|.q 0 rfl<|.gu [5] rfl rfl rfl bq0 (fun _ => Qz Qgf z6)<|.gu [5] rfl rfl rfl bq1 (fun hc => Qac (u := v71) QpX (.cond z0 hc) rfl)<|.gu [0] rfl rfl rfl bq2 (fun hc => Qj6 ud25 (.cond z0 hc))<|.g rfl rfl bq3 (fun hc => QU (.cond z0 hc) .k)<|.o (QY z4 (fun hp => (.cond z0 (beqT hp))))<|.n) fun _ a w H => ?_
     have H := H.to [8,9,10,11,12,13] [_,_,_,_,_,_] [_,_,_,_,_,_] rfl rfl
     refine wi H h (fun b97 h => ?_) (fun b97 h => ?_)
     ·refine wp_skip (k87 _ _ ?_)
      refine wp_seq_k (fun K89 k89 => ?_)
      refine wp_block ?_
      have ⟨t106,ht106,h⟩ := bs h
      have ⟨t108,ht108,h⟩ := bs h
      refine sr mx [v0 (box (Qt.cs t108.2.2) (n1 6)),v1 10 (fun v0 => box (QC.cs zz3) v0),v1 10 (fun v0 => box (QC.cs t108.1) v0)] H (fun _ => .q 4 rfl<|.u [5] rfl rfl (Qz QaJ z4)<|.u [5] rfl rfl (Qac (u := v25) Qhv z0 rfl)<|.q 4 rfl<|.u [1] rfl rfl (Qcl ud23 Q7 z1 z0 ht106)<|.u [1] rfl rfl (QmJ Q7 z0 ht106)<|.e [] [3] [6] rfl rfl rfl rfl (Qh call34 (Qla ht108) (.cons (.of z5)<|.cons (.of z0)<|.nil))<|.q 0 rfl<|.o (QM z0 rfl)<|.o (QM z1 rfl)<|.m [] [7] rfl rfl rfl (Q1 (R := QC) (a := zz3) Qcb Qpq)<|.e [] [7] [8] rfl rfl rfl rfl (QR (R := QC) (a := t108.1) Qcb z0 z2 (leb rfl))<|.o (Qa z1)<|.n) fun _ a w H => ?_
      replace H : St _ _ _ [_,_,_,_,_,_,_,_] [_,_,_,_,_,_] _ _ := ((((H.pick [2,10,11,13,14,15,16,17]).selA [6,0,1,2,3,4,5] rfl).shareB 1 rfl).add 0 rfl (fun _ _ _ h => h.2)).pick [0,2,4,5,6,7,8,9]
      refine sr mx [] H (fun _ => .q 2 rfl<|.n) fun _ a w H => ?_
      have H := H.to [0,1,2,4,5,6,7,8] [_,_,_,_,_,_,_,_] [_,_,_,_,_,_] rfl rfl
      have ⟨p93,hp93,h⟩ := bs h
      have hJp93 : ∀ (v95 : Value) a w,St M w0 119 [(10,ti s58.1),(5,ti (IntKind.i64.wrap ((1:Int) + t24.1))),(4,tv (n2 3)),(3,tv (n1 6)),(2,tv (n0 0))] [own Qk 55 p24.1 v25,box (Qm.cs zz4) (n0 0),own QJ 81 (([] : List Qu) ++ [(Qu.mk ([108,105,102,101] : Str) t44 p52)]) (n18 4),box (Qt.cs t108.2.2) (n1 6),own QC 84 p93 v95,box ([ti t21.1,tvs v25,tvs (n18 4),tvs v95]) (n2 3)] a w → K89 a w := by
       intro v95 a w H
       refine k89 _ _ ?_
       refine wr mx [] H (fun _ => .q 0 rfl<|.o (QV z0 .k)<|.o (Qa z0)<|.n) fun _ a w H => ?_
       have H := H.to [2,3,4,5,6] [_,_,_,_,_] [_,_,_,_,_,_] rfl rfl
       exact k86 _ _ _ (sj h).symm ⟨v95,(H.pick [0,1,2,3,4]).selA [4,0,1,3,2,5] rfl⟩
      replace h := hp93
      clear hp93
      refine wi H h (fun b96 h => ?_) (fun b96 h => ?_)
      ·have ⟨u116,hu116,h⟩ := bs h
       refine wr mx [v1 4 (fun v0 => own QC 84 (s58.2.1 ++ [t108.1]) v0),v1 4 (fun v0 => box ([ti t21.1,tvs v25,tvs (n18 4),tvs v0]) (n2 3))] H (fun _ => .u [4] rfl rfl (Qz Qgf z5)<|.u [4] rfl rfl (Qac (u := v71) QpX z0 rfl)<|.o (Qr Qcb z3)<|.o (QE (R := QC) (us := [t108.1]) ud25 Qcb (.cons z0<|.nil _) rfl (leb rfl))<|.e [] [0] [6] rfl rfl rfl rfl (Qaf (R := QC) ud25 Qcb (leb rfl) z2 z0 hu116)<|.u [4] rfl rfl (Qz Qgf z10)<|.e [6] [4] [7] rfl rfl rfl rfl (Qa9 (R := QC) (e := 84) (Ts := ([ti t21.1,tvs v25,tvs (n18 4),tvs v71])) (off := 3) QpX z0 z1 (leb rfl))<|.n) fun n24 a w H => ?_
       have H := H.to [4,8,9,10,11,12,13] [_,_,_,_,_,_,_] [_,_,_,_,_,_] rfl rfl
       obtain rfl := sj h
       exact hJp93 (n24 4) _ _ (H.pick [2,3,4,5,6])
      refine wp_skip ?_
      obtain rfl := sj h
      exact hJp93 v71 _ _ ((H.pick [3,4,5,6,7]).selA [1,2,3,5,0,4] rfl)
     refine wp_exit ?_
     exact hJp83 _ v71 _ _ (ho _ (sj h).symm) ((H.pick [3,5]).selA [0,1,2,4,5] rfl)
    replace h := hp52
    clear hp52
    refine wi H h (fun b98 h => ?_) (fun b98 h => ?_)
    ·have ⟨u82,hu82,h⟩ := bs h
     refine wr mx [v1 7 (fun v0 => own Q8 82 (p47 ++ [(QK.mk (0:Int) (IntKind.i64.wrap ((t44.length : Int) - (1:Int))))]) v0),v1 7 (fun v0 => box ([tv (.string (sB ([108,105,102,101] : Str))),tsl rS t44,tvs v0]) (n9 2))] H (fun _ => .u [6] rfl rfl (Qz Qgj z1)<|.u [6] rfl rfl (Qac (u := v49) Qj9 z0 rfl)<|.q 4 rfl<|.o (QN ud32 z0)<|.o (Qdc z0 .k)<|.p (T := Q8.ty (QK.mk (0:Int) (IntKind.i64.wrap ((t44.length : Int) - (1:Int))))) rfl (QjU (R := rI) (us := [(0:Int),(IntKind.i64.wrap ((t44.length : Int) - (1:Int)))]) ud82 tok3 zv82 rfl (.cons .k<|.cons z0<|.nil _))<|.o (QE (R := Q8) (us := [(QK.mk (0:Int) (IntKind.i64.wrap ((t44.length : Int) - (1:Int))))]) ud79 Qge (.cons z0<|.nil _) rfl (leb rfl))<|.e [] [5] [8] rfl rfl rfl rfl (Qaf (R := Q8) ud79 Qge (leb rfl) z5 z0 hu82)<|.u [6] rfl rfl (Qz Qgj z9)<|.e [8] [6] [9] rfl rfl rfl rfl (Qa9 (R := Q8) (e := 82) (Ts := ([tv (.string (sB ([108,105,102,101] : Str))),tsl rS t44,tvs v49])) (off := 2) Qj9 z0 z1 (leb rfl))<|.n) fun n17 a w H => ?_
     have H := H.to [7,10,12,13,14,15] [_,_,_,_,_,_] [_,_,_,_,_,_,_,_] rfl rfl
     obtain rfl := sj h
     exact hJp52 (n17 7) _ _ (H.pick [1,2,3,4,5])
    refine wp_skip ?_
    obtain rfl := sj h
    exact hJp52 v49 _ _ ((H.pick [1,3,4,5,6]).selA [0,1,2,3,4,7,5,6] rfl)
   replace h := hp47
   clear hp47
   refine wi H h (fun b99 h => ?_) (fun b99 h => ?_)
   ·have ⟨u70,hu70,h⟩ := bs h
    refine wr mx [v1 4 (fun v0 => own Q8 82 (p43 ++ [(QK.mk (1:Int) (0:Int))]) v0),v1 4 (fun v0 => box ([tv (.string (sB ([108,105,102,101] : Str))),tsl rS t44,tvs v0]) (n9 2))] H (fun _ => .u [6] rfl rfl (Qz Qgj z1)<|.u [6] rfl rfl (Qac (u := v44) Qj9 z0 rfl)<|.p (T := Q8.ty (QK.mk (1:Int) (0:Int))) rfl (QjU (R := rI) (us := [(1:Int),(0:Int)]) ud82 tok3 zv82 rfl (.cons .k<|.cons .k<|.nil _))<|.o (QE (R := Q8) (us := [(QK.mk (1:Int) (0:Int))]) ud79 Qge (.cons z0<|.nil _) rfl (leb rfl))<|.e [] [0] [8] rfl rfl rfl rfl (Qaf (R := Q8) ud79 Qge (leb rfl) z2 z0 hu70)<|.u [6] rfl rfl (Qz Qgj z6)<|.e [8] [6] [9] rfl rfl rfl rfl (Qa9 (R := Q8) (e := 82) (Ts := ([tv (.string (sB ([108,105,102,101] : Str))),tsl rS t44,tvs v44])) (off := 2) Qj9 z0 z1 (leb rfl))<|.n) fun n15 a w H => ?_
    have H := H.to [4,7,8,9,10,11,12] [_,_,_,_,_,_,_] [_,_,_,_,_,_,_,_] rfl rfl
    obtain rfl := sj h
    exact hJp47 (n15 4) _ _ (H.pick [1,2,3,4,5,6])
   refine wp_skip ?_
   obtain rfl := sj h
   exact hJp47 v44 _ _ ((H.pick [1,2,3,4,5,6]).selA [1,2,3,4,5,7,0,6] rfl)
  refine wp_block ?_
  refine QZ _ (fun (s32 : Int × List QK) a w => ∃ v38 : Value,St M w0 119 [(9,ti s32.1),(8,tv (n9 2)),(7,tsl rS t44),(5,ti (IntKind.i64.wrap ((1:Int) + t24.1))),(4,tv (n2 3)),(3,tv (n1 6)),(2,tv (n0 0))] [own Q8 82 s32.2 v38,own QC 84 ([] : List Qo) nilV,own QJ 81 ([] : List Qu) nilV,own Qk 55 p24.1 v25,box (Qm.cs zz4) (n0 0),box ([ti t21.1,tvs v25,tvs nilV,tvs nilV]) (n2 3),box (Qt.cs t42.2) (n1 6),box ([tv (.string (sB ([108,105,102,101] : Str))),tsl rS t44,tvs v38]) (n9 2)] a w) _ _ he33 ⟨nilV,H.pick [0,1,2,3,4,5,6]⟩ ?_
  clear h
  intro s32 o a w K100 hI h ho k100
  obtain ⟨v38,H⟩ := hI
  refine wp_seq_k (fun _ k101 => ?_)
  refine sr mx [] H (fun _ => .q 0 rfl<|.o (QV z0 .k)<|.q 4 rfl<|.o (QN ud32 z0)<|.o (QU z2 z0)<|.n) fun _ a w H => ?_
  have H := H.to [4,5,6,7,8,9,10,11] [_,_,_,_,_,_,_,_] [_,_,_,_,_,_,_,_] rfl rfl
  refine wi H h (fun b104 h => ?_) (fun b104 h => ?_)
  ·refine wp_skip (k101 _ _ ?_)
   refine wp_seq_k (fun _ k103 => ?_)
   refine wp_block ?_
   have ⟨u61,hu61,h⟩ := bs h
   refine wr mx [v1 7 (fun v0 => own Q8 82 (s32.2 ++ [(QK.mk s32.1 (IntKind.i64.wrap (s32.1 + (1:Int))))]) v0),v1 7 (fun v0 => box ([tv (.string (sB ([108,105,102,101] : Str))),tsl rS t44,tvs v0]) (n9 2))] H (fun _ => .u [7] rfl rfl (Qz Qgj z2)<|.u [7] rfl rfl (Qac (u := v38) Qj9 z0 rfl)<|.q 3 rfl<|.q 4 rfl<|.o (QV z0 .k)<|.p (T := Q8.ty (QK.mk s32.1 (IntKind.i64.wrap (s32.1 + (1:Int))))) rfl (QjU (R := rI) (us := [s32.1,(IntKind.i64.wrap (s32.1 + (1:Int)))]) ud82 tok3 zv82 rfl (.cons z2<|.cons z0<|.nil _))<|.o (QE (R := Q8) (us := [(QK.mk s32.1 (IntKind.i64.wrap (s32.1 + (1:Int))))]) ud79 Qge (.cons z0<|.nil _) rfl (leb rfl))<|.e [] [0] [8] rfl rfl rfl rfl (Qaf (R := Q8) ud79 Qge (leb rfl) z5 z0 hu61)<|.u [7] rfl rfl (Qz Qgj z10)<|.e [8] [7] [9] rfl rfl rfl rfl (Qa9 (R := Q8) (e := 82) (Ts := ([tv (.string (sB ([108,105,102,101] : Str))),tsl rS t44,tvs v38])) (off := 2) Qj9 z0 z1 (leb rfl))<|.n) fun n13 a w H => ?_
   have H := H.to [7,10,11,12,13,14,15,16] [_,_,_,_,_,_,_,_] [_,_,_,_,_,_,_,_] rfl rfl
   refine k103 _ _ ?_
   refine wr mx [] H (fun _ => .q 1 rfl<|.o (QV z0 .k)<|.o (Qa z0)<|.n) fun _ a w H => ?_
   have H := H.to [2,3,4,5,6,7,8,9] [_,_,_,_,_,_,_,_] [_,_,_,_,_,_,_,_] rfl rfl
   exact k100 _ _ _ (sj h).symm ⟨(n13 7),(H.pick [0,2,3,4,5,6,7]).selA [6,0,1,2,3,4,5,7] rfl⟩
  refine wp_exit ?_
  exact hJp43 _ v38 _ _ (ho _ (sj h).symm) (H.pick [2,3,4,5,6,7])
 refine wp_block ?_
 refine QZ _ (fun (s13 : Int × List Qi × Qv) a w => ∃ v19 : Value,St M w0 119 [(6,ti s13.1),(5,ti (IntKind.i64.wrap ((1:Int) + t24.1))),(4,tv (n2 3)),(3,tv (n1 6)),(2,tv (n0 0))] [own QC 84 ([] : List Qo) nilV,own QJ 81 ([] : List Qu) nilV,own Qk 55 s13.2.1 v19,box (Qm.cs zz4) (n0 0),box ([ti t21.1,tvs v19,tvs nilV,tvs nilV]) (n2 3),box (Qt.cs s13.2.2) (n1 6)] a w) _ _ he14 ⟨nilV,H.pick [0,1,2,3,4]⟩ ?_
 clear h
 intro s13 o a w K105 hI h ho k105
 obtain ⟨v19,H⟩ := hI
 refine wp_seq_k (fun _ k106 => ?_)
 refine sr mx [] H (fun _ => .q 0 rfl<|.q 2 rfl<|.o (QU z1 z0)<|.n) fun _ a w H => ?_
 have H := H.to [2,3,4,5,6,7] [_,_,_,_,_,_] [_,_,_,_,_,_] rfl rfl
 refine wi H h (fun b109 h => ?_) (fun b109 h => ?_)
 ·refine wp_skip (k106 _ _ ?_)
  refine wp_seq_k (fun _ k108 => ?_)
  refine wp_block ?_
  have ⟨t36,ht36,h⟩ := bs h
  have ⟨u38,hu38,h⟩ := bs h
  refine wr mx [v0 (box (Qt.cs t36.2.1) (n1 6)),v0 (own Qk 55 t36.2.2 v19),v1 7 (fun v0 => own Qk 55 (t36.2.2 ++ [t36.1]) v0),v1 7 (fun v0 => box ([ti t21.1,tvs v0,tvs nilV,tvs nilV]) (n2 3))] H (fun _ => .u [4] rfl rfl (Qz QaJ z3)<|.u [4] rfl rfl (Qac (u := v19) Qhv z0 rfl)<|.q 6 rfl<|.u [4] rfl rfl (Qz QaJ z6)<|.u [4] rfl rfl (Qac (u := v19) Qhv z0 rfl)<|.e [] [5,2] [6,7] rfl rfl rfl rfl (Qh call33 (Qk9 ht36) (.cons (.of z2)<|.cons (.of z0)<|.nil))<|.o (QE (R := Qk) (us := [t36.1]) ud23 Q7 (.cons z0<|.nil _) rfl (leb rfl))<|.e [] [7] [8] rfl rfl rfl rfl (Qaf (R := Qk) ud23 Q7 (leb rfl) z5 z0 hu38)<|.u [4] rfl rfl (Qz QaJ z11)<|.e [8] [4] [9] rfl rfl rfl rfl (Qa9 (R := Qk) (e := 55) (Ts := ([ti t21.1,tvs v19,tvs nilV,tvs nilV])) (off := 1) Qhv z0 z1 (leb rfl))<|.n) fun n7 a w H => ?_
  have H := H.to [7,10,11,12,13,14] [_,_,_,_,_,_] [_,_,_,_,_,_] rfl rfl
  refine k108 _ _ ?_
  refine wr mx [] H (fun _ => .q 1 rfl<|.o (QV z0 .k)<|.o (Qa z0)<|.n) fun _ a w H => ?_
  have H := H.to [2,3,4,5,6,7] [_,_,_,_,_,_] [_,_,_,_,_,_] rfl rfl
  exact k105 _ _ _ (sj h).symm ⟨(n7 7),(H.pick [0,2,3,4,5]).selA [0,1,4,2,5,3] rfl⟩
 refine wp_exit ?_
 exact hJp24 _ v19 _ _ (ho _ (sj h).symm) (H.pick [2,3,4,5])

/- diorama/schema.within -/
noncomputable def QaQ (n_ : Int) (least_ : Int) (most_ : Int) : Option (Bool) := (some ((decide (n_ ≥ least_)) && (decide (n_ ≤ most_))))
theorem Qbw {n_ : Int} {least_ : Int} {most_ : Int} {r : Bool} (h : QaQ n_ least_ most_ = some r) : FnOk Tryz.prog 97 [ti n_,ti least_,ti most_] [] (fun _ => []) (fun _ => tb r) := by
 unfold QaQ at h
 refine fe Tryz.func97 Tryz.ntmps97 fun M0 M w0 a hpl H => ?_
 replace H : St M w0 15 [(0,ti n_),(1,ti least_),(2,ti most_)] [] a w0 := H
 refine sr mx [] H (fun _ => .o (Qa .k)<|.n) fun _ a w H => ?_
 have H := H.to [1,2,3] [_,_,_] [] rfl rfl
 refine sr mx [] H (fun _ => .q 0 rfl<|.q 2 rfl<|.o (QaY z1 z0)<|.q 0 rfl<|.g rfl rfl bq0 (fun _ => Qw z4)<|.g rfl rfl bq1 (fun _ => Qw z7)<|.g rfl rfl bq2 (fun hc => Qd5 (.cond z1 hc) (.cond z0 hc))<|.o (QY z3 (fun hp => (.cond z0 (beqT hp))))<|.o (Qa z0)<|.n) fun _ a w H => ?_
 have H := H.to [8] [_] [] rfl rfl
 refine wp_ret ?_
 obtain rfl := sj h
 exact rt undef [] hpl H (.tmp z0 .nil)

/- diorama/schema.all[diorama/api.Kind]$1 -/
noncomputable def Qde (x_ : Qi) (c0_ : (Qi → Option Bool)) : Option (Bool) := (c0_ x_).bind fun t6 => (some (!t6))
theorem QkR {x_ : Qi} {c0_ : (Qi → Option Bool)} {r : Bool} (h : Qde x_ c0_ = some r) : FnOk Tryz.prog 124 [Qk.ty x_,tptr (Qhq.cs c0_)] [] (fun _ => []) (fun _ => tb r) := by
 unfold Qde at h
 refine fe Tryz.func124 Tryz.ntmps124 fun M0 M w0 a hpl H => ?_
 replace H : St M w0 8 [(0,Qk.ty x_),(1,tptr (Qhq.cs c0_))] [] a w0 := H
 refine sr mx [] H (fun _ => .o (QT (R := Qk) (u := x_) z0)<|.o (Qa .k)<|.n) fun _ a w H => ?_
 have H := H.to [0,3] [_,_] [] rfl rfl
 have ⟨t6,ht6,h⟩ := bs h
 refine sr mx [] H (fun _ => .o (Qr tok138 z1)<|.o (Qr Q7 z1)<|.o (Qb2 (u := x_) z1 (.cons (.of z0)<|.nil) ht6)<|.o (Qar z0)<|.o (Qa z0)<|.n) fun _ a w H => ?_
 have H := H.to [4] [_] [] rfl rfl
 refine wp_ret ?_
 obtain rfl := sj h
 exact rt undef [] hpl H (.tmp z0 .nil)

/- slices.IndexFunc[[]diorama/api.Kind,diorama/api.Kind] -/
noncomputable def QaO (s_ : (List Qi)) (f_ : (Qi → Option Bool)) : Option (Int) := (QI (fun (s4 : Int) => ((if (decide (s4 < (s_.length : Int))) = true then (idx s_ s4).bind fun t14 => (f_ t14).bind fun t16 => (if t16 = true then (some (.inr (.inr s4))) else (some (.inl (IntKind.i64.wrap (s4 + (1:Int)))))) else (some (.inr (.inl ())))) : Option ((Int) ⊕ ((Unit) ⊕ (Int))))) (0:Int)).bind fun (e5 : (Unit) ⊕ (Int)) => (match e5 with | .inl _ => (some (-1:Int)) | .inr p23 => (some p23))
theorem QfW {s_ : (List Qi)} {f_ : (Qi → Option Bool)} {r : Int} (h : QaO s_ f_ = some r) : FnOk Tryz.prog 73 [tsl Qk s_,Qhq.ty f_] [] (fun _ => []) (fun _ => ti r) := by
 unfold QaO at h
 refine fe Tryz.func73 Tryz.ntmps73 fun M0 M w0 a hpl H => ?_
 replace H : St M w0 19 [(0,tsl Qk s_),(1,Qhq.ty f_)] [] a w0 := H
 refine sr mx [] H (fun _ => .o (Qa .k)<|.n) fun _ a w H => ?_
 have H := H.to [1,2] [_,_] [] rfl rfl
 refine wp_seq_k (fun K2 k2 => ?_)
 refine sr mx [] H (fun _ => .q 0 rfl<|.o (QN ud23 z0)<|.o (Qw .k)<|.n) fun _ a w H => ?_
 have H := H.to [1,2,3,4] [_,_,_,_] [] rfl rfl
 have ⟨e5,he5,h⟩ := bs h
 have hJp22 : ∀ (p22 : Unit) a w,(.inl p22) = e5 → St M w0 19 [] [] a w → K2 a w := by
  intro p22 a w he H
  subst he
  simp only at h
  refine k2 _ _ ?_
  refine sr mx [] H (fun _ => .o (Qa .k)<|.n) fun _ a w H => ?_
  have H := H.to [0] [_] [] rfl rfl
  refine wp_ret ?_
  obtain rfl := sj h
  exact rt undef [] hpl H (.tmp z0 .nil)
 have hJp23 : ∀ (p23 : Int) a w,(.inr p23) = e5 → St M w0 19 [(4,ti p23)] [] a w → Ret Tryz.prog Tryz.f73 M0 [] w0 (fun _ => []) (fun _ => ti r) .ret a w := by
  intro p23 a w he H
  subst he
  simp only at h
  obtain rfl := sj h
  exact rt undef [] hpl H (.tmp z0 .nil)
 refine wp_block ?_
 refine QZ _ (fun (s4 : Int) a w => St M w0 19 [(7,ti (s_.length : Int)),(8,ti s4),(0,tsl Qk s_),(1,Qhq.ty f_)] [] a w) _ _ he5 (H.pick [0,1,2,3]) ?_
 clear h
 intro s4 o a w K25 hI h ho k25
 have H := hI
 clear hI
 refine sr mx [] H (fun _ => .o (QU z1 z0)<|.n) fun _ a w H => ?_
 have H := H.to [0,1,2,3,4] [_,_,_,_,_] [] rfl rfl
 refine wp_seq_k (fun _ k27 => ?_)
 refine wi H h (fun b33 h => ?_) (fun b33 h => ?_)
 ·refine wp_skip (k27 _ _ ?_)
  refine wp_seq_k (fun _ k28 => ?_)
  refine wp_block ?_
  refine sr mx [] H (fun _ => .q 2 rfl<|.o (Qa z0)<|.n) fun _ a w H => ?_
  have H := H.to [1,3,4,5,6] [_,_,_,_,_] [] rfl rfl
  have ⟨t14,ht14,h⟩ := bs h
  have ⟨t16,ht16,h⟩ := bs h
  refine sr mx [] H (fun _ => .q 4 rfl<|.q 4 rfl<|.q 2 rfl<|.o (QG ud23 Q7 z1 z0 ht14)<|.o (Qr Q7 z0)<|.o (Qb2 (u := t14) z4 (.cons (.of z0)<|.nil) ht16)<|.n) fun _ a w H => ?_
  have H := H.to [5,6,7,8,9,10] [_,_,_,_,_,_] [] rfl rfl
  refine wi H h (fun b32 h => ?_) (fun b32 h => ?_)
  ·refine sr mx [] H (fun _ => .q 1 rfl<|.o (Qa z0)<|.n) fun _ a w H => ?_
   have H := H.to [1] [_] [] rfl rfl
   refine wp_ret ?_
   exact hJp23 _ _ _ (ho _ (sj h).symm) (H.pick [0])
  refine wp_skip (k28 _ _ ?_)
  refine wr mx [] H (fun _ => .o (QV z3 .k)<|.q 0 rfl<|.n) fun _ a w H => ?_
  have H := H.to [1,4,5,6] [_,_,_,_] [] rfl rfl
  exact k25 _ _ _ (sj h).symm (H.pick [1,0,2,3])
 refine wp_exit ?_
 exact hJp22 _ _ _ (ho _ (sj h).symm) (H.pick [])

/- slices.ContainsFunc[[]diorama/api.Kind,diorama/api.Kind] -/
noncomputable def QaK (s_ : (List Qi)) (f_ : (Qi → Option Bool)) : Option (Bool) := (QaO s_ f_).bind fun t7 => (some (decide (t7 ≥ (0:Int))))
theorem Qiw {s_ : (List Qi)} {f_ : (Qi → Option Bool)} {r : Bool} (h : QaK s_ f_ = some r) : FnOk Tryz.prog 123 [tsl Qk s_,Qhq.ty f_] [] (fun _ => []) (fun _ => tb r) := by
 unfold QaK at h
 refine fe Tryz.func123 Tryz.ntmps123 fun M0 M w0 a hpl H => ?_
 replace H : St M w0 9 [(0,tsl Qk s_),(1,Qhq.ty f_)] [] a w0 := H
 refine sr mx [] H (fun _ => .o (Qa .k)<|.n) fun _ a w H => ?_
 have H := H.to [1,2] [_,_] [] rfl rfl
 have ⟨t7,ht7,h⟩ := bs h
 refine sr mx [] H (fun _ => .q 0 rfl<|.q 2 rfl<|.o (Qh QsB (QfW ht7) (.cons (.of z1)<|.cons (.of z0)<|.nil))<|.o (QaY z0 .k)<|.o (Qa z0)<|.n) fun _ a w H => ?_
 have H := H.to [4] [_] [] rfl rfl
 refine wp_ret ?_
 obtain rfl := sj h
 exact rt undef [] hpl H (.tmp z0 .nil)

/- diorama/schema.all[diorama/api.Kind] -/
noncomputable def Qcp (l_ : (List Qi)) (right_ : (Qi → Option Bool)) : Option (Bool) := (QaK l_ (fun x0 => Qde x0 right_)).bind fun t7 => (some (!t7))
theorem Qlu {l_ : (List Qi)} {right_ : (Qi → Option Bool)} {r : Bool} (h : Qcp l_ right_ = some r) : FnOk Tryz.prog 98 [tsl Qk l_,Qhq.ty right_] [] (fun _ => []) (fun _ => tb r) := by
 unfold Qcp at h
 refine fe Tryz.func98 Tryz.ntmps98 fun M0 M w0 a hpl H => ?_
 replace H : St M w0 9 [(0,tsl Qk l_),(1,Qhq.ty right_)] [] a w0 := H
 refine sr mx [] H (fun _ => .o (QT (R := Qhq) (u := right_) z1)<|.o (Qa .k)<|.n) fun _ a w H => ?_
 have H := H.to [0,2] [_,_] [] rfl rfl
 have ⟨t7,ht7,h⟩ := bs h
 refine sr mx [] H (fun _ => .q 1 rfl<|.o (QdK (.cons z1<|.nil))<|.o (Qh Qvb (Qiw ht7) (.cons (.of z1)<|.cons (.of (Fct.weak z0 (Qb1 Qvc (fun _ _ hq => QkR hq))))<|.nil))<|.o (Qar z0)<|.o (Qa z0)<|.n) fun _ a w H => ?_
 have H := H.to [4] [_] [] rfl rfl
 refine wp_ret ?_
 obtain rfl := sj h
 exact rt undef [] hpl H (.tmp z0 .nil)

/- diorama/schema.isLetter -/
noncomputable def Qcq (c_ : Int) : Option (Bool) := (some ((decide (c_ ≥ (97:Int))) && (decide (c_ ≤ (122:Int)))))
theorem Qix {c_ : Int} {r : Bool} (h : Qcq c_ = some r) : FnOk Tryz.prog 150 [tv (.int .u8 c_)] [] (fun _ => []) (fun _ => tb r) := by
 unfold Qcq at h
 refine fe Tryz.func150 Tryz.ntmps150 fun M0 M w0 a hpl H => ?_
 replace H : St M w0 9 [(0,tv (.int .u8 c_))] [] a w0 := H
 refine sr mx [] H (fun _ => .o (Qa .k)<|.n) fun _ a w H => ?_
 have H := H.to [1] [_] [] rfl rfl
 refine sr mx [] H (fun _ => .q 0 rfl<|.o (QaY z0 .k)<|.q 0 rfl<|.g rfl rfl bq0 (fun _ => Qw z3)<|.g rfl rfl bq1 (fun hc => Qd5 (.cond z0 hc) .k)<|.o (QY z2 (fun hp => (.cond z0 (beqT hp))))<|.o (Qa z0)<|.n) fun _ a w H => ?_
 have H := H.to [6] [_] [] rfl rfl
 refine wp_ret ?_
 obtain rfl := sj h
 exact rt undef [] hpl H (.tmp z0 .nil)

/- slices.IndexFunc[[]byte,byte] -/
noncomputable def Qba (s_ : (List Int)) (f_ : (Int → Option Bool)) : Option (Int) := (QI (fun (s4 : Int) => ((if (decide (s4 < (s_.length : Int))) = true then (idx s_ s4).bind fun t14 => (f_ t14).bind fun t16 => (if t16 = true then (some (.inr (.inr s4))) else (some (.inl (IntKind.i64.wrap (s4 + (1:Int)))))) else (some (.inr (.inl ())))) : Option ((Int) ⊕ ((Unit) ⊕ (Int))))) (0:Int)).bind fun (e5 : (Unit) ⊕ (Int)) => (match e5 with | .inl _ => (some (-1:Int)) | .inr p23 => (some p23))
theorem Qjn {s_ : (List Int)} {f_ : (Int → Option Bool)} {r : Int} (h : Qba s_ f_ = some r) : FnOk Tryz.prog 173 [tsl (rInt .u8) s_,Qnr.ty f_] [] (fun _ => []) (fun _ => ti r) := by
 unfold Qba at h
 refine fe Tryz.func173 Tryz.ntmps173 fun M0 M w0 a hpl H => ?_
 replace H : St M w0 19 [(0,tsl (rInt .u8) s_),(1,Qnr.ty f_)] [] a w0 := H
 refine sr mx [] H (fun _ => .o (Qa .k)<|.n) fun _ a w H => ?_
 have H := H.to [1,2] [_,_] [] rfl rfl
 refine wp_seq_k (fun K2 k2 => ?_)
 refine sr mx [] H (fun _ => .q 0 rfl<|.o (QN Tryz.underlying185 z0)<|.o (Qw .k)<|.n) fun _ a w H => ?_
 have H := H.to [1,2,3,4] [_,_,_,_] [] rfl rfl
 have ⟨e5,he5,h⟩ := bs h
 have hJp22 : ∀ (p22 : Unit) a w,(.inl p22) = e5 → St M w0 19 [] [] a w → K2 a w := by
  intro p22 a w he H
  subst he
  simp only at h
  refine k2 _ _ ?_
  refine sr mx [] H (fun _ => .o (Qa .k)<|.n) fun _ a w H => ?_
  have H := H.to [0] [_] [] rfl rfl
  refine wp_ret ?_
  obtain rfl := sj h
  exact rt undef [] hpl H (.tmp z0 .nil)
 have hJp23 : ∀ (p23 : Int) a w,(.inr p23) = e5 → St M w0 19 [(4,ti p23)] [] a w → Ret Tryz.prog Tryz.f173 M0 [] w0 (fun _ => []) (fun _ => ti r) .ret a w := by
  intro p23 a w he H
  subst he
  simp only at h
  obtain rfl := sj h
  exact rt undef [] hpl H (.tmp z0 .nil)
 refine wp_block ?_
 refine QZ _ (fun (s4 : Int) a w => St M w0 19 [(7,ti (s_.length : Int)),(8,ti s4),(0,tsl (rInt .u8) s_),(1,Qnr.ty f_)] [] a w) _ _ he5 (H.pick [0,1,2,3]) ?_
 clear h
 intro s4 o a w K25 hI h ho k25
 have H := hI
 clear hI
 refine sr mx [] H (fun _ => .o (QU z1 z0)<|.n) fun _ a w H => ?_
 have H := H.to [0,1,2,3,4] [_,_,_,_,_] [] rfl rfl
 refine wp_seq_k (fun _ k27 => ?_)
 refine wi H h (fun b33 h => ?_) (fun b33 h => ?_)
 ·refine wp_skip (k27 _ _ ?_)
  refine wp_seq_k (fun _ k28 => ?_)
  refine wp_block ?_
  refine sr mx [] H (fun _ => .q 2 rfl<|.o (Qa z0)<|.n) fun _ a w H => ?_
  have H := H.to [1,3,4,5,6] [_,_,_,_,_] [] rfl rfl
  have ⟨t14,ht14,h⟩ := bs h
  have ⟨t16,ht16,h⟩ := bs h
  refine sr mx [] H (fun _ => .q 4 rfl<|.q 4 rfl<|.q 2 rfl<|.o (QG Tryz.underlying185 tok5 z1 z0 ht14)<|.o (Qr tok5 z0)<|.o (Qb2 (u := t14) z4 (.cons (.of z0)<|.nil) ht16)<|.n) fun _ a w H => ?_
  have H := H.to [5,6,7,8,9,10] [_,_,_,_,_,_] [] rfl rfl
  refine wi H h (fun b32 h => ?_) (fun b32 h => ?_)
  ·refine sr mx [] H (fun _ => .q 1 rfl<|.o (Qa z0)<|.n) fun _ a w H => ?_
   have H := H.to [1] [_] [] rfl rfl
   refine wp_ret ?_
   exact hJp23 _ _ _ (ho _ (sj h).symm) (H.pick [0])
  refine wp_skip (k28 _ _ ?_)
  refine wr mx [] H (fun _ => .o (QV z3 .k)<|.q 0 rfl<|.n) fun _ a w H => ?_
  have H := H.to [1,4,5,6] [_,_,_,_] [] rfl rfl
  exact k25 _ _ _ (sj h).symm (H.pick [1,0,2,3])
 refine wp_exit ?_
 exact hJp22 _ _ _ (ho _ (sj h).symm) (H.pick [])

/- slices.ContainsFunc[[]byte,byte] -/
noncomputable def QaL (s_ : (List Int)) (f_ : (Int → Option Bool)) : Option (Bool) := (Qba s_ f_).bind fun t7 => (some (decide (t7 ≥ (0:Int))))
theorem Qiy {s_ : (List Int)} {f_ : (Int → Option Bool)} {r : Bool} (h : QaL s_ f_ = some r) : FnOk Tryz.prog 151 [tsl (rInt .u8) s_,Qnr.ty f_] [] (fun _ => []) (fun _ => tb r) := by
 unfold QaL at h
 refine fe Tryz.func151 Tryz.ntmps151 fun M0 M w0 a hpl H => ?_
 replace H : St M w0 9 [(0,tsl (rInt .u8) s_),(1,Qnr.ty f_)] [] a w0 := H
 refine sr mx [] H (fun _ => .o (Qa .k)<|.n) fun _ a w H => ?_
 have H := H.to [1,2] [_,_] [] rfl rfl
 have ⟨t7,ht7,h⟩ := bs h
 refine sr mx [] H (fun _ => .q 0 rfl<|.q 2 rfl<|.o (Qh Qvy (Qjn ht7) (.cons (.of z1)<|.cons (.of z0)<|.nil))<|.o (QaY z0 .k)<|.o (Qa z0)<|.n) fun _ a w H => ?_
 have H := H.to [4] [_] [] rfl rfl
 refine wp_ret ?_
 obtain rfl := sj h
 exact rt undef [] hpl H (.tmp z0 .nil)

/- diorama/schema.isDigit -/
noncomputable def Qey (c_ : Int) : Option (Bool) := (some ((decide (c_ ≥ (48:Int))) && (decide (c_ ≤ (57:Int)))))
theorem Qmp {c_ : Int} {r : Bool} (h : Qey c_ = some r) : FnOk Tryz.prog 153 [tv (.int .u8 c_)] [] (fun _ => []) (fun _ => tb r) := by
 unfold Qey at h
 refine fe Tryz.func153 Tryz.ntmps153 fun M0 M w0 a hpl H => ?_
 replace H : St M w0 9 [(0,tv (.int .u8 c_))] [] a w0 := H
 refine sr mx [] H (fun _ => .o (Qa .k)<|.n) fun _ a w H => ?_
 have H := H.to [1] [_] [] rfl rfl
 refine sr mx [] H (fun _ => .q 0 rfl<|.o (QaY z0 .k)<|.q 0 rfl<|.g rfl rfl bq0 (fun _ => Qw z3)<|.g rfl rfl bq1 (fun hc => Qd5 (.cond z0 hc) .k)<|.o (QY z2 (fun hp => (.cond z0 (beqT hp))))<|.o (Qa z0)<|.n) fun _ a w H => ?_
 have H := H.to [6] [_] [] rfl rfl
 refine wp_ret ?_
 obtain rfl := sj h
 exact rt undef [] hpl H (.tmp z0 .nil)

/- diorama/schema.isName$1 -/
noncomputable def Qd8 (c_ : Int) : Option (Bool) := (Qcq c_).bind fun t4 => (opt ((!t4) == true) (Qey c_) default).bind fun t8 => (some ((!t4) && (!t8)))
theorem Qlv {c_ : Int} {r : Bool} (h : Qd8 c_ = some r) : FnOk Tryz.prog 152 [tv (.int .u8 c_)] [] (fun _ => []) (fun _ => tb r) := by
 unfold Qd8 at h
 refine fe Tryz.func152 Tryz.ntmps152 fun M0 M w0 a hpl H => ?_
 replace H : St M w0 11 [(0,tv (.int .u8 c_))] [] a w0 := H
 refine sr mx [] H (fun _ => .o (Qa .k)<|.n) fun _ a w H => ?_
 have H := H.to [1] [_] [] rfl rfl
 have ⟨t4,ht4,h⟩ := bs h
 have ⟨t8,ht8,h⟩ := bs h
 refine sr mx [] H (fun _ => .q 0 rfl<|.o (Qh Qq6 (Qix ht4) (.cons (.of z0)<|.nil))<|.o (Qar z0)<|.q 0 rfl<|.g rfl rfl bq0 (fun _ => Qw z4)<|.g rfl rfl bq1 (fun hc => Qh Qvn (Qmp (Q9 ht8 hc)) (.cons (.of (.cond z0 hc))<|.nil))<|.g rfl rfl bq2 (fun hc => Qar (.cond z0 hc))<|.o (QY z3 (fun hp => (.cond z0 (beqT hp))))<|.o (Qa z0)<|.n) fun _ a w H => ?_
 have H := H.to [8] [_] [] rfl rfl
 refine wp_ret ?_
 obtain rfl := sj h
 exact rt undef [] hpl H (.tmp z0 .nil)

/- diorama/schema.isName -/
noncomputable def Q6 (s_ : Str) : Option (Bool) := (QaQ (s_.length : Int) (1:Int) (12:Int)).bind fun t5 => (opt ((!t5) == false) (idx s_ (0:Int)) default).bind fun t9 => (opt ((!t5) == false) (Qcq ((t9).toNat : Int)) default).bind fun t10 => (if ((!t5) || (!t10)) = true then (some false) else (QaL (QQ s_) (fun x0 => Qd8 x0)).bind fun t15 => (some (!t15)))
theorem Qag {s_ : Str} {r : Bool} (h : Q6 s_ = some r) : FnOk Tryz.prog 125 [tv (.string (sB s_))] [] (fun _ => []) (fun _ => tb r) := by
 unfold Q6 at h
 refine fe Tryz.func125 Tryz.ntmps125 fun M0 M w0 a hpl H => ?_
 replace H : St M w0 17 [(0,tv (.string (sB s_)))] [] a w0 := H
 refine sr mx [] H (fun _ => .o (Qa .k)<|.n) fun _ a w H => ?_
 have H := H.to [1] [_] [] rfl rfl
 refine wp_seq_k (fun _ k2 => ?_)
 have ⟨t5,ht5,h⟩ := bs h
 have ⟨t9,ht9,h⟩ := bs h
 have ⟨t10,ht10,h⟩ := bs h
 refine sr mx [] H (fun _ => .q 0 rfl<|.o (op_lenS' ud9 z0)<|.o (Qh Qhw (Qbw ht5) (.cons (.of z0)<|.cons (.of .k)<|.cons (.of .k)<|.nil))<|.o (Qar z0)<|.q 0 rfl<|.g rfl rfl bq0 (fun _ => Qw z5)<|.g rfl rfl bq1 (fun hc => QuP ud9 (.cond z0 hc) .k (Q9 ht9 hc))<|.g rfl rfl bq2 (fun hc => Qh Qq6 (Qix (Q9 ht10 hc)) (.cons (.of (.cond z0 hc))<|.nil))<|.g rfl rfl bq3 (fun hc => Qar (.cond z0 hc))<|.o (Qao z4 (fun hp => (.cond z0 (beqF hp))))<|.n) fun _ a w H => ?_
 have H := H.to [9,10] [_,_] [] rfl rfl
 refine wi H h (fun b6 h => ?_) (fun b6 h => ?_)
 ·refine sr mx [] H (fun _ => .o (Qa .k)<|.n) fun _ a w H => ?_
  have H := H.to [0] [_] [] rfl rfl
  refine wp_ret ?_
  obtain rfl := sj h
  exact rt undef [] hpl H (.tmp z0 .nil)
 refine wp_skip (k2 _ _ ?_)
 have ⟨t15,ht15,h⟩ := bs h
 refine sr mx [] H (fun _ => .q 1 rfl<|.o (op_s2b ud9 Tryz.underlying185 Tryz.underlying5 z0)<|.o (Qh Qvl (Qiy ht15) (.cons (.of z0)<|.cons (.of (Fct.weak .fnE (Qb1 Qvm (fun _ _ hq => Qlv hq))))<|.nil))<|.o (Qar z0)<|.o (Qa z0)<|.n) fun _ a w H => ?_
 have H := H.to [4] [_] [] rfl rfl
 refine wp_ret ?_
 obtain rfl := sj h
 exact rt undef [] hpl H (.tmp z0 .nil)

/- diorama/schema.span -/
noncomputable def Qch (lo_ : Int) (hi_ : Int) (least_ : Int) (most_ : Int) : Option (Bool) := (some (((decide (lo_ ≥ least_)) && (decide (lo_ ≤ hi_))) && (decide (hi_ ≤ most_))))
theorem QdX {lo_ : Int} {hi_ : Int} {least_ : Int} {most_ : Int} {r : Bool} (h : Qch lo_ hi_ least_ most_ = some r) : FnOk Tryz.prog 126 [ti lo_,ti hi_,ti least_,ti most_] [] (fun _ => []) (fun _ => tb r) := by
 unfold Qch at h
 refine fe Tryz.func126 Tryz.ntmps126 fun M0 M w0 a hpl H => ?_
 replace H : St M w0 22 [(0,ti lo_),(1,ti hi_),(2,ti least_),(3,ti most_)] [] a w0 := H
 refine sr mx [] H (fun _ => .o (Qa .k)<|.n) fun _ a w H => ?_
 have H := H.to [1,2,3,4] [_,_,_,_] [] rfl rfl
 refine sr mx [] H (fun _ => .q 0 rfl<|.q 3 rfl<|.o (QaY z1 z0)<|.q 0 rfl<|.g rfl rfl bq0 (fun _ => Qw z4)<|.g rfl rfl bq1 (fun _ => Qw z6)<|.g rfl rfl bq2 (fun hc => Qd5 (.cond z1 hc) (.cond z0 hc))<|.o (QY z3 (fun hp => (.cond z0 (beqT hp))))<|.q 0 rfl<|.g rfl rfl bq0 (fun _ => Qw z10)<|.g rfl rfl bq1 (fun _ => Qw z13)<|.g rfl rfl bq2 (fun hc => Qd5 (.cond z1 hc) (.cond z0 hc))<|.o (QY z3 (fun hp => (.cond z0 (beqT hp))))<|.o (Qa z0)<|.n) fun _ a w H => ?_
 have H := H.to [13] [_] [] rfl rfl
 refine wp_ret ?_
 obtain rfl := sj h
 exact rt undef [] hpl H (.tmp z0 .nil)

/- diorama/schema.all[diorama/api.Field]$1 -/
noncomputable def QcU (x_ : Qc) (c0_ : (Qc → Option Bool)) : Option (Bool) := (c0_ x_).bind fun t6 => (some (!t6))
theorem Qke {x_ : Qc} {c0_ : (Qc → Option Bool)} {r : Bool} (h : QcU x_ c0_ = some r) : FnOk Tryz.prog 155 [Qd.ty x_,tptr (Qhs.cs c0_)] [] (fun _ => []) (fun _ => tb r) := by
 unfold QcU at h
 refine fe Tryz.func155 Tryz.ntmps155 fun M0 M w0 a hpl H => ?_
 replace H : St M w0 8 [(0,Qd.ty x_),(1,tptr (Qhs.cs c0_))] [] a w0 := H
 refine sr mx [] H (fun _ => .o (QT (R := Qd) (u := x_) z0)<|.o (Qa .k)<|.n) fun _ a w H => ?_
 have H := H.to [0,3] [_,_] [] rfl rfl
 have ⟨t6,ht6,h⟩ := bs h
 refine sr mx [] H (fun _ => .o (Qr tok168 z1)<|.o (Qr QS z1)<|.o (Qb2 (u := x_) z1 (.cons (.of z0)<|.nil) ht6)<|.o (Qar z0)<|.o (Qa z0)<|.n) fun _ a w H => ?_
 have H := H.to [4] [_] [] rfl rfl
 refine wp_ret ?_
 obtain rfl := sj h
 exact rt undef [] hpl H (.tmp z0 .nil)

/- slices.IndexFunc[[]diorama/api.Field,diorama/api.Field] -/
noncomputable def QaI (s_ : (List Qc)) (f_ : (Qc → Option Bool)) : Option (Int) := (QI (fun (s4 : Int) => ((if (decide (s4 < (s_.length : Int))) = true then (idx s_ s4).bind fun t14 => (f_ t14).bind fun t16 => (if t16 = true then (some (.inr (.inr s4))) else (some (.inl (IntKind.i64.wrap (s4 + (1:Int)))))) else (some (.inr (.inl ())))) : Option ((Int) ⊕ ((Unit) ⊕ (Int))))) (0:Int)).bind fun (e5 : (Unit) ⊕ (Int)) => (match e5 with | .inl _ => (some (-1:Int)) | .inr p23 => (some p23))
theorem QfP {s_ : (List Qc)} {f_ : (Qc → Option Bool)} {r : Int} (h : QaI s_ f_ = some r) : FnOk Tryz.prog 106 [tsl Qd s_,Qhs.ty f_] [] (fun _ => []) (fun _ => ti r) := by
 unfold QaI at h
 refine fe Tryz.func106 Tryz.ntmps106 fun M0 M w0 a hpl H => ?_
 replace H : St M w0 19 [(0,tsl Qd s_),(1,Qhs.ty f_)] [] a w0 := H
 refine sr mx [] H (fun _ => .o (Qa .k)<|.n) fun _ a w H => ?_
 have H := H.to [1,2] [_,_] [] rfl rfl
 refine wp_seq_k (fun K2 k2 => ?_)
 refine sr mx [] H (fun _ => .q 0 rfl<|.o (QN ud53 z0)<|.o (Qw .k)<|.n) fun _ a w H => ?_
 have H := H.to [1,2,3,4] [_,_,_,_] [] rfl rfl
 have ⟨e5,he5,h⟩ := bs h
 have hJp22 : ∀ (p22 : Unit) a w,(.inl p22) = e5 → St M w0 19 [] [] a w → K2 a w := by
  intro p22 a w he H
  subst he
  simp only at h
  refine k2 _ _ ?_
  refine sr mx [] H (fun _ => .o (Qa .k)<|.n) fun _ a w H => ?_
  have H := H.to [0] [_] [] rfl rfl
  refine wp_ret ?_
  obtain rfl := sj h
  exact rt undef [] hpl H (.tmp z0 .nil)
 have hJp23 : ∀ (p23 : Int) a w,(.inr p23) = e5 → St M w0 19 [(4,ti p23)] [] a w → Ret Tryz.prog Tryz.f106 M0 [] w0 (fun _ => []) (fun _ => ti r) .ret a w := by
  intro p23 a w he H
  subst he
  simp only at h
  obtain rfl := sj h
  exact rt undef [] hpl H (.tmp z0 .nil)
 refine wp_block ?_
 refine QZ _ (fun (s4 : Int) a w => St M w0 19 [(7,ti (s_.length : Int)),(8,ti s4),(0,tsl Qd s_),(1,Qhs.ty f_)] [] a w) _ _ he5 (H.pick [0,1,2,3]) ?_
 clear h
 intro s4 o a w K25 hI h ho k25
 have H := hI
 clear hI
 refine sr mx [] H (fun _ => .o (QU z1 z0)<|.n) fun _ a w H => ?_
 have H := H.to [0,1,2,3,4] [_,_,_,_,_] [] rfl rfl
 refine wp_seq_k (fun _ k27 => ?_)
 refine wi H h (fun b33 h => ?_) (fun b33 h => ?_)
 ·refine wp_skip (k27 _ _ ?_)
  refine wp_seq_k (fun _ k28 => ?_)
  refine wp_block ?_
  refine sr mx [] H (fun _ => .q 2 rfl<|.o (Qa z0)<|.n) fun _ a w H => ?_
  have H := H.to [1,3,4,5,6] [_,_,_,_,_] [] rfl rfl
  have ⟨t14,ht14,h⟩ := bs h
  have ⟨t16,ht16,h⟩ := bs h
  refine sr mx [] H (fun _ => .q 4 rfl<|.q 4 rfl<|.q 2 rfl<|.o (QG ud53 QS z1 z0 ht14)<|.o (Qr QS z0)<|.o (Qb2 (u := t14) z4 (.cons (.of z0)<|.nil) ht16)<|.n) fun _ a w H => ?_
  have H := H.to [5,6,7,8,9,10] [_,_,_,_,_,_] [] rfl rfl
  refine wi H h (fun b32 h => ?_) (fun b32 h => ?_)
  ·refine sr mx [] H (fun _ => .q 1 rfl<|.o (Qa z0)<|.n) fun _ a w H => ?_
   have H := H.to [1] [_] [] rfl rfl
   refine wp_ret ?_
   exact hJp23 _ _ _ (ho _ (sj h).symm) (H.pick [0])
  refine wp_skip (k28 _ _ ?_)
  refine wr mx [] H (fun _ => .o (QV z3 .k)<|.q 0 rfl<|.n) fun _ a w H => ?_
  have H := H.to [1,4,5,6] [_,_,_,_] [] rfl rfl
  exact k25 _ _ _ (sj h).symm (H.pick [1,0,2,3])
 refine wp_exit ?_
 exact hJp22 _ _ _ (ho _ (sj h).symm) (H.pick [])

/- slices.ContainsFunc[[]diorama/api.Field,diorama/api.Field] -/
noncomputable def QaH (s_ : (List Qc)) (f_ : (Qc → Option Bool)) : Option (Bool) := (QaI s_ f_).bind fun t7 => (some (decide (t7 ≥ (0:Int))))
theorem Qh9 {s_ : (List Qc)} {f_ : (Qc → Option Bool)} {r : Bool} (h : QaH s_ f_ = some r) : FnOk Tryz.prog 154 [tsl Qd s_,Qhs.ty f_] [] (fun _ => []) (fun _ => tb r) := by
 unfold QaH at h
 refine fe Tryz.func154 Tryz.ntmps154 fun M0 M w0 a hpl H => ?_
 replace H : St M w0 9 [(0,tsl Qd s_),(1,Qhs.ty f_)] [] a w0 := H
 refine sr mx [] H (fun _ => .o (Qa .k)<|.n) fun _ a w H => ?_
 have H := H.to [1,2] [_,_] [] rfl rfl
 have ⟨t7,ht7,h⟩ := bs h
 refine sr mx [] H (fun _ => .q 0 rfl<|.q 2 rfl<|.o (Qh Qq2 (QfP ht7) (.cons (.of z1)<|.cons (.of z0)<|.nil))<|.o (QaY z0 .k)<|.o (Qa z0)<|.n) fun _ a w H => ?_
 have H := H.to [4] [_] [] rfl rfl
 refine wp_ret ?_
 obtain rfl := sj h
 exact rt undef [] hpl H (.tmp z0 .nil)

/- diorama/schema.all[diorama/api.Field] -/
noncomputable def Qb4 (l_ : (List Qc)) (right_ : (Qc → Option Bool)) : Option (Bool) := (QaH l_ (fun x0 => QcU x0 right_)).bind fun t7 => (some (!t7))
theorem Qlb {l_ : (List Qc)} {right_ : (Qc → Option Bool)} {r : Bool} (h : Qb4 l_ right_ = some r) : FnOk Tryz.prog 127 [tsl Qd l_,Qhs.ty right_] [] (fun _ => []) (fun _ => tb r) := by
 unfold Qb4 at h
 refine fe Tryz.func127 Tryz.ntmps127 fun M0 M w0 a hpl H => ?_
 replace H : St M w0 9 [(0,tsl Qd l_),(1,Qhs.ty right_)] [] a w0 := H
 refine sr mx [] H (fun _ => .o (QT (R := Qhs) (u := right_) z1)<|.o (Qa .k)<|.n) fun _ a w H => ?_
 have H := H.to [0,2] [_,_] [] rfl rfl
 have ⟨t7,ht7,h⟩ := bs h
 refine sr mx [] H (fun _ => .q 1 rfl<|.o (QdK (.cons z1<|.nil))<|.o (Qh Qvo (Qh9 ht7) (.cons (.of z1)<|.cons (.of (Fct.weak z0 (Qb1 Qvp (fun _ _ hq => Qke hq))))<|.nil))<|.o (Qar z0)<|.o (Qa z0)<|.n) fun _ a w H => ?_
 have H := H.to [4] [_] [] rfl rfl
 refine wp_ret ?_
 obtain rfl := sj h
 exact rt undef [] hpl H (.tmp z0 .nil)

/- diorama/schema.only -/
noncomputable def Qd9 (f_ : Qc) : Option (Qc) := ((if ((f_).Kind == (0:Int)) = true then (some (Qc.mk (f_).Name ([] : Str) ([] : Str) (f_).Kind (f_).Lo (0:Int) ([] : (List Str)) ([] : (List Int)))) else ((if ((f_).Kind == (1:Int)) = true then (some ((f_).Kind == (1:Int))) else ((if ((f_).Kind == (4:Int)) = true then (some ((f_).Kind == (4:Int))) else (some ((f_).Kind == (5:Int))))).bind fun (p535 : Bool) => (some p535))).bind fun (p277 : Bool) => ((if p277 = true then (some (Qc.mk (f_).Name (f_).Of ([] : Str) (f_).Kind (f_).Lo (f_).Hi ([] : (List Str)) ([] : (List Int)))) else ((if ((f_).Kind == (2:Int)) = true then (some (Qc.mk (f_).Name ([] : Str) ([] : Str) (f_).Kind (f_).Lo (f_).Hi ([] : (List Str)) ([] : (List Int)))) else ((if ((f_).Kind == (3:Int)) = true then (some (Qc.mk (f_).Name ([] : Str) ([] : Str) (f_).Kind (0:Int) (0:Int) (f_).Words (f_).Weights)) else ((if ((f_).Kind == (6:Int)) = true then (some (Qc.mk (f_).Name (f_).Of ([] : Str) (f_).Kind (0:Int) (0:Int) ([] : (List Str)) ([] : (List Int)))) else ((if ((f_).Kind == (7:Int)) = true then (some (Qc.mk (f_).Name (f_).Of (f_).Up (f_).Kind (f_).Lo (f_).Hi ([] : (List Str)) ([] : (List Int)))) else ((if ((f_).Kind == (8:Int)) = true then (some (Qc.mk (f_).Name (f_).Of (f_).Up (f_).Kind (0:Int) (0:Int) ([] : (List Str)) ([] : (List Int)))) else (some (Qc.mk (f_).Name ([] : Str) ([] : Str) (f_).Kind (0:Int) (0:Int) ([] : (List Str)) ([] : (List Int)))))).bind fun (p526 : Qc) => (some p526))).bind fun (p519 : Qc) => (some p519))).bind fun (p504 : Qc) => (some p504))).bind fun (p473 : Qc) => (some p473))).bind fun (p410 : Qc) => (some p410))).bind fun (p283 : Qc) => (some p283))).bind fun (p8 : Qc) => (some p8)
theorem Qoc {f_ : Qc} {r : Qc} (h : Qd9 f_ = some r) : FnOk Tryz.prog 157 [Qd.ty f_] [] (fun _ => []) (fun _ => Qd.ty r) := by
 unfold Qd9 at h
 refine fe Tryz.func157 Tryz.ntmps157 fun M0 M w0 a hpl H => ?_
 replace H : St M w0 73 [(0,Qd.ty f_)] [] a w0 := H
 refine sr mx [v1 1 (fun v0 => box (Qd.cs zz0) v0)] H (fun _ => .o (QT (R := Qd) (u := f_) z0)<|.m [] [0] rfl rfl rfl (Q1 (R := Qd) (a := zz0) QS Qeh)<|.n) fun n0 a w H => ?_
 have H := H.to [0,1] [_,_] [_] rfl rfl
 refine sr mx [v1 5 (fun v0 => box (Qd.cs zz0) v0),v1 5 (fun v0 => box (Qd.cs (Qc.mk (f_).Name ([] : Str) ([] : Str) (f_).Kind (0:Int) (0:Int) ([] : (List Str)) ([] : (List Int)))) v0)] H (fun _ => .o (Qe Qce z0)<|.o (Qf (u := (f_).Name) tok9 z0 rfl)<|.o (Qe QaX z2)<|.o (Qf (u := (f_).Kind) tok3 z0 rfl)<|.p (T := Qd.ty (Qc.mk (f_).Name ([] : Str) ([] : Str) (f_).Kind (0:Int) (0:Int) ([] : (List Str)) ([] : (List Int)))) rfl (QX ud61 pl61 zv61 zc61 (.cons (R := rS) (u := (f_).Name) rfl z2 (leb rfl)<|.cons (R := rI) (u := (f_).Kind) rfl z0 (leb rfl)<|.nil _))<|.m [] [1] rfl rfl rfl (Q1 (R := Qd) (a := zz0) QS Qeh)<|.e [] [1] [2] rfl rfl rfl rfl (QR (R := Qd) (a := (Qc.mk (f_).Name ([] : Str) ([] : Str) (f_).Kind (0:Int) (0:Int) ([] : (List Str)) ([] : (List Int)))) QS z0 z1 (leb rfl))<|.n) fun n1 a w H => ?_
 have H := H.to [5,6,7] [_,_,_] [_,_] rfl rfl
 refine wp_seq_k (fun K5 k5 => ?_)
 refine sr mx [] H (fun _ => .o (Qe QaX z1)<|.o (Qf (u := (f_).Kind) tok3 z0 rfl)<|.n) fun _ a w H => ?_
 have H := H.to [1,2,3,4] [_,_,_,_] [_,_] rfl rfl
 refine wp_block ?_
 refine sr mx [] H (fun _ => .o (Q4 z0 .k)<|.o (Qa z0)<|.n) fun _ a w H => ?_
 have H := H.to [1,2,3,4,5] [_,_,_,_,_] [_,_] rfl rfl
 have ⟨p8,hp8,h⟩ := bs h
 have hJp8 : ∀ a w,St M w0 73 [(3,tv (n1 5)),(2,tv (n0 1))] [box (Qd.cs zz0) (n0 1),box (Qd.cs p8) (n1 5)] a w → K5 a w := by
  intro a w H
  refine k5 _ _ ?_
  refine sr mx [v0 (box (Qd.cs p8) (n0 1))] H (fun _ => .u [1] rfl rfl (Qdy (R := Qd) (u := p8) QS z0 rfl)<|.e [] [0] [2] rfl rfl rfl rfl (QR (R := Qd) (a := p8) QS z2 z0 (leb rfl))<|.n) fun _ a w H => ?_
  replace H : St _ _ _ [_] [_] _ _ := (H.pick [2]).selA [1] rfl
  refine wp_ret ?_
  obtain rfl := sj h
  exact rt undef [] hpl H (.cell (R := Qd) (u := p8) QS z0 0 rfl rfl .nil)
 replace h := hp8
 clear hp8
 refine wi H h (fun b539 h => ?_) (fun b539 h => ?_)
 ·refine wr mx [v0 (box (Qd.cs (Qc.mk (f_).Name ([] : Str) ([] : Str) (f_).Kind (f_).Lo (0:Int) ([] : (List Str)) ([] : (List Int)))) (n1 5))] H (fun _ => .o (Qe Qbd z3)<|.o (Qf (u := (f_).Lo) tok3 z0 rfl)<|.u [1] rfl rfl (Qz Qbd z4)<|.e [] [1] [2] rfl rfl rfl rfl (Qav (R := rI) (a := (f_).Lo) (Ts := (Qd.cs (Qc.mk (f_).Name ([] : Str) ([] : Str) (f_).Kind (0:Int) (0:Int) ([] : (List Str)) ([] : (List Int))))) (off := 4) tok3 z0 z1 (leb rfl))<|.n) fun _ a w H => ?_
  have H := H.to [5,7] [_,_] [_,_] rfl rfl
  obtain rfl := sj h
  exact hJp8 _ _ (H.pick [0,1])
 refine wp_seq_k (fun K275 k275 => ?_)
 refine sr mx [] H (fun _ => .o (Q4 z1 .k)<|.o (Qa z0)<|.n) fun _ a w H => ?_
 have H := H.to [1,3,4,5,6] [_,_,_,_,_] [_,_] rfl rfl
 have ⟨p277,hp277,h⟩ := bs h
 have hJp277 : ∀ a w,St M w0 73 [(16,tb p277),(10,ti (f_).Kind),(3,tv (n1 5)),(1,tptr (Qd.cs f_)),(2,tv (n0 1))] [box (Qd.cs zz0) (n0 1),box (Qd.cs (Qc.mk (f_).Name ([] : Str) ([] : Str) (f_).Kind (0:Int) (0:Int) ([] : (List Str)) ([] : (List Int)))) (n1 5)] a w → K275 a w := by
  intro a w H
  refine k275 _ _ ?_
  have ⟨p283,hp283,h⟩ := bs h
  have hJp283 : ∀ a w,St M w0 73 [(3,tv (n1 5)),(2,tv (n0 1))] [box (Qd.cs zz0) (n0 1),box (Qd.cs p283) (n1 5)] a w → K5 a w := by
   intro a w H
   obtain rfl := sj h
   exact hJp8 _ _ (H.pick [0,1])
  replace h := hp283
  clear hp283
  refine wi H h (fun b533 h => ?_) (fun b533 h => ?_)
  ·refine wr mx [v0 (box (Qd.cs (Qc.mk (f_).Name (f_).Of ([] : Str) (f_).Kind (0:Int) (0:Int) ([] : (List Str)) ([] : (List Int)))) (n1 5)),v0 (box (Qd.cs (Qc.mk (f_).Name (f_).Of ([] : Str) (f_).Kind (f_).Lo (0:Int) ([] : (List Str)) ([] : (List Int)))) (n1 5)),v0 (box (Qd.cs (Qc.mk (f_).Name (f_).Of ([] : Str) (f_).Kind (f_).Lo (f_).Hi ([] : (List Str)) ([] : (List Int)))) (n1 5))] H (fun _ => .o (Qe QaA z3)<|.o (Qf (u := (f_).Of) tok9 z0 rfl)<|.o (Qe Qbd z5)<|.o (Qf (u := (f_).Lo) tok3 z0 rfl)<|.o (Qe Qb0 z7)<|.o (Qf (u := (f_).Hi) tok3 z0 rfl)<|.u [1] rfl rfl (Qz QaA z8)<|.e [] [1] [2] rfl rfl rfl rfl (Qav (R := rS) (a := (f_).Of) (Ts := (Qd.cs (Qc.mk (f_).Name ([] : Str) ([] : Str) (f_).Kind (0:Int) (0:Int) ([] : (List Str)) ([] : (List Int))))) (off := 1) tok9 z0 z5 (leb rfl))<|.u [2] rfl rfl (Qz Qbd z9)<|.e [] [2] [3] rfl rfl rfl rfl (Qav (R := rI) (a := (f_).Lo) (Ts := (Qd.cs (Qc.mk (f_).Name (f_).Of ([] : Str) (f_).Kind (0:Int) (0:Int) ([] : (List Str)) ([] : (List Int))))) (off := 4) tok3 z0 z4 (leb rfl))<|.u [3] rfl rfl (Qz Qb0 z10)<|.e [] [3] [4] rfl rfl rfl rfl (Qav (R := rI) (a := (f_).Hi) (Ts := (Qd.cs (Qc.mk (f_).Name (f_).Of ([] : Str) (f_).Kind (f_).Lo (0:Int) ([] : (List Str)) ([] : (List Int))))) (off := 5) tok3 z0 z3 (leb rfl))<|.n) fun _ a w H => ?_
   have H := H.to [11,13] [_,_] [_,_] rfl rfl
   obtain rfl := sj h
   exact hJp283 _ _ (H.pick [0,1])
  refine sr mx [] H (fun _ => .o (Q4 z1 .k)<|.o (Qa z0)<|.n) fun _ a w H => ?_
  have H := H.to [1,3,4,5,6] [_,_,_,_,_] [_,_] rfl rfl
  have ⟨p410,hp410,h⟩ := bs h
  have hJp410 : ∀ a w,St M w0 73 [(3,tv (n1 5)),(2,tv (n0 1))] [box (Qd.cs zz0) (n0 1),box (Qd.cs p410) (n1 5)] a w → K5 a w := by
   intro a w H
   obtain rfl := sj h
   exact hJp283 _ _ (H.pick [0,1])
  replace h := hp410
  clear hp410
  refine wi H h (fun b532 h => ?_) (fun b532 h => ?_)
  ·refine wr mx [v0 (box (Qd.cs (Qc.mk (f_).Name ([] : Str) ([] : Str) (f_).Kind (f_).Lo (0:Int) ([] : (List Str)) ([] : (List Int)))) (n1 5)),v0 (box (Qd.cs (Qc.mk (f_).Name ([] : Str) ([] : Str) (f_).Kind (f_).Lo (f_).Hi ([] : (List Str)) ([] : (List Int)))) (n1 5))] H (fun _ => .o (Qe Qbd z3)<|.o (Qf (u := (f_).Lo) tok3 z0 rfl)<|.o (Qe Qb0 z5)<|.o (Qf (u := (f_).Hi) tok3 z0 rfl)<|.u [1] rfl rfl (Qz Qbd z6)<|.e [] [1] [2] rfl rfl rfl rfl (Qav (R := rI) (a := (f_).Lo) (Ts := (Qd.cs (Qc.mk (f_).Name ([] : Str) ([] : Str) (f_).Kind (0:Int) (0:Int) ([] : (List Str)) ([] : (List Int))))) (off := 4) tok3 z0 z3 (leb rfl))<|.u [2] rfl rfl (Qz Qb0 z7)<|.e [] [2] [3] rfl rfl rfl rfl (Qav (R := rI) (a := (f_).Hi) (Ts := (Qd.cs (Qc.mk (f_).Name ([] : Str) ([] : Str) (f_).Kind (f_).Lo (0:Int) ([] : (List Str)) ([] : (List Int))))) (off := 5) tok3 z0 z2 (leb rfl))<|.n) fun _ a w H => ?_
   have H := H.to [8,10] [_,_] [_,_] rfl rfl
   obtain rfl := sj h
   exact hJp410 _ _ (H.pick [0,1])
  refine sr mx [] H (fun _ => .o (Q4 z1 .k)<|.o (Qa z0)<|.n) fun _ a w H => ?_
  have H := H.to [1,3,4,5,6] [_,_,_,_,_] [_,_] rfl rfl
  have ⟨p473,hp473,h⟩ := bs h
  have hJp473 : ∀ a w,St M w0 73 [(3,tv (n1 5)),(2,tv (n0 1))] [box (Qd.cs zz0) (n0 1),box (Qd.cs p473) (n1 5)] a w → K5 a w := by
   intro a w H
   obtain rfl := sj h
   exact hJp410 _ _ (H.pick [0,1])
  replace h := hp473
  clear hp473
  refine wi H h (fun b531 h => ?_) (fun b531 h => ?_)
  ·refine wr mx [v0 (box (Qd.cs (Qc.mk (f_).Name ([] : Str) ([] : Str) (f_).Kind (0:Int) (0:Int) (f_).Words ([] : (List Int)))) (n1 5)),v0 (box (Qd.cs (Qc.mk (f_).Name ([] : Str) ([] : Str) (f_).Kind (0:Int) (0:Int) (f_).Words (f_).Weights)) (n1 5))] H (fun _ => .o (Qe Qh5 z3)<|.o (Qf (u := (f_).Words) Qgd z0 rfl)<|.o (Qe Qgi z5)<|.o (Qf (u := (f_).Weights) Qgc z0 rfl)<|.u [1] rfl rfl (Qz Qh5 z6)<|.e [] [1] [2] rfl rfl rfl rfl (Qav (R := (rSl rS)) (a := (f_).Words) (Ts := (Qd.cs (Qc.mk (f_).Name ([] : Str) ([] : Str) (f_).Kind (0:Int) (0:Int) ([] : (List Str)) ([] : (List Int))))) (off := 6) Qgd z0 z3 (leb rfl))<|.u [2] rfl rfl (Qz Qgi z7)<|.e [] [2] [3] rfl rfl rfl rfl (Qav (R := (rSl rI)) (a := (f_).Weights) (Ts := (Qd.cs (Qc.mk (f_).Name ([] : Str) ([] : Str) (f_).Kind (0:Int) (0:Int) (f_).Words ([] : (List Int))))) (off := 7) Qgc z0 z2 (leb rfl))<|.n) fun _ a w H => ?_
   have H := H.to [8,10] [_,_] [_,_] rfl rfl
   obtain rfl := sj h
   exact hJp473 _ _ (H.pick [0,1])
  refine sr mx [] H (fun _ => .o (Q4 z1 .k)<|.o (Qa z0)<|.n) fun _ a w H => ?_
  have H := H.to [1,3,4,5,6] [_,_,_,_,_] [_,_] rfl rfl
  have ⟨p504,hp504,h⟩ := bs h
  have hJp504 : ∀ a w,St M w0 73 [(3,tv (n1 5)),(2,tv (n0 1))] [box (Qd.cs zz0) (n0 1),box (Qd.cs p504) (n1 5)] a w → K5 a w := by
   intro a w H
   obtain rfl := sj h
   exact hJp473 _ _ (H.pick [0,1])
  replace h := hp504
  clear hp504
  refine wi H h (fun b530 h => ?_) (fun b530 h => ?_)
  ·refine wr mx [v0 (box (Qd.cs (Qc.mk (f_).Name (f_).Of ([] : Str) (f_).Kind (0:Int) (0:Int) ([] : (List Str)) ([] : (List Int)))) (n1 5))] H (fun _ => .o (Qe QaA z3)<|.o (Qf (u := (f_).Of) tok9 z0 rfl)<|.u [1] rfl rfl (Qz QaA z4)<|.e [] [1] [2] rfl rfl rfl rfl (Qav (R := rS) (a := (f_).Of) (Ts := (Qd.cs (Qc.mk (f_).Name ([] : Str) ([] : Str) (f_).Kind (0:Int) (0:Int) ([] : (List Str)) ([] : (List Int))))) (off := 1) tok9 z0 z1 (leb rfl))<|.n) fun _ a w H => ?_
   have H := H.to [5,7] [_,_] [_,_] rfl rfl
   obtain rfl := sj h
   exact hJp504 _ _ (H.pick [0,1])
  refine sr mx [] H (fun _ => .o (Q4 z1 .k)<|.o (Qa z0)<|.n) fun _ a w H => ?_
  have H := H.to [1,3,4,5,6] [_,_,_,_,_] [_,_] rfl rfl
  have ⟨p519,hp519,h⟩ := bs h
  have hJp519 : ∀ a w,St M w0 73 [(3,tv (n1 5)),(2,tv (n0 1))] [box (Qd.cs zz0) (n0 1),box (Qd.cs p519) (n1 5)] a w → K5 a w := by
   intro a w H
   obtain rfl := sj h
   exact hJp504 _ _ (H.pick [0,1])
  replace h := hp519
  clear hp519
  refine wi H h (fun b529 h => ?_) (fun b529 h => ?_)
  ·refine wr mx [v0 (box (Qd.cs (Qc.mk (f_).Name (f_).Of ([] : Str) (f_).Kind (0:Int) (0:Int) ([] : (List Str)) ([] : (List Int)))) (n1 5)),v0 (box (Qd.cs (Qc.mk (f_).Name (f_).Of (f_).Up (f_).Kind (0:Int) (0:Int) ([] : (List Str)) ([] : (List Int)))) (n1 5)),v0 (box (Qd.cs (Qc.mk (f_).Name (f_).Of (f_).Up (f_).Kind (f_).Lo (0:Int) ([] : (List Str)) ([] : (List Int)))) (n1 5)),v0 (box (Qd.cs (Qc.mk (f_).Name (f_).Of (f_).Up (f_).Kind (f_).Lo (f_).Hi ([] : (List Str)) ([] : (List Int)))) (n1 5))] H (fun _ => .o (Qe QaA z3)<|.o (Qf (u := (f_).Of) tok9 z0 rfl)<|.o (Qe QeU z5)<|.o (Qf (u := (f_).Up) tok9 z0 rfl)<|.o (Qe Qbd z7)<|.o (Qf (u := (f_).Lo) tok3 z0 rfl)<|.o (Qe Qb0 z9)<|.o (Qf (u := (f_).Hi) tok3 z0 rfl)<|.u [1] rfl rfl (Qz QaA z10)<|.e [] [1] [2] rfl rfl rfl rfl (Qav (R := rS) (a := (f_).Of) (Ts := (Qd.cs (Qc.mk (f_).Name ([] : Str) ([] : Str) (f_).Kind (0:Int) (0:Int) ([] : (List Str)) ([] : (List Int))))) (off := 1) tok9 z0 z7 (leb rfl))<|.u [2] rfl rfl (Qz QeU z11)<|.e [] [2] [3] rfl rfl rfl rfl (Qav (R := rS) (a := (f_).Up) (Ts := (Qd.cs (Qc.mk (f_).Name (f_).Of ([] : Str) (f_).Kind (0:Int) (0:Int) ([] : (List Str)) ([] : (List Int))))) (off := 2) tok9 z0 z6 (leb rfl))<|.u [3] rfl rfl (Qz Qbd z12)<|.e [] [3] [4] rfl rfl rfl rfl (Qav (R := rI) (a := (f_).Lo) (Ts := (Qd.cs (Qc.mk (f_).Name (f_).Of (f_).Up (f_).Kind (0:Int) (0:Int) ([] : (List Str)) ([] : (List Int))))) (off := 4) tok3 z0 z5 (leb rfl))<|.u [4] rfl rfl (Qz Qb0 z13)<|.e [] [4] [5] rfl rfl rfl rfl (Qav (R := rI) (a := (f_).Hi) (Ts := (Qd.cs (Qc.mk (f_).Name (f_).Of (f_).Up (f_).Kind (f_).Lo (0:Int) ([] : (List Str)) ([] : (List Int))))) (off := 5) tok3 z0 z4 (leb rfl))<|.n) fun _ a w H => ?_
   have H := H.to [14,16] [_,_] [_,_] rfl rfl
   obtain rfl := sj h
   exact hJp519 _ _ (H.pick [0,1])
  refine sr mx [] H (fun _ => .o (Q4 z1 .k)<|.o (Qa z0)<|.n) fun _ a w H => ?_
  have H := H.to [1,4,5,6] [_,_,_,_] [_,_] rfl rfl
  have ⟨p526,hp526,h⟩ := bs h
  have hJp526 : ∀ a w,St M w0 73 [(3,tv (n1 5)),(2,tv (n0 1))] [box (Qd.cs zz0) (n0 1),box (Qd.cs p526) (n1 5)] a w → K5 a w := by
   intro a w H
   obtain rfl := sj h
   exact hJp519 _ _ (H.pick [0,1])
  replace h := hp526
  clear hp526
  refine wi H h (fun b528 h => ?_) (fun b528 h => ?_)
  ·refine wr mx [v0 (box (Qd.cs (Qc.mk (f_).Name (f_).Of ([] : Str) (f_).Kind (0:Int) (0:Int) ([] : (List Str)) ([] : (List Int)))) (n1 5)),v0 (box (Qd.cs (Qc.mk (f_).Name (f_).Of (f_).Up (f_).Kind (0:Int) (0:Int) ([] : (List Str)) ([] : (List Int)))) (n1 5))] H (fun _ => .o (Qe QaA z2)<|.o (Qf (u := (f_).Of) tok9 z0 rfl)<|.o (Qe QeU z4)<|.o (Qf (u := (f_).Up) tok9 z0 rfl)<|.u [1] rfl rfl (Qz QaA z5)<|.e [] [1] [2] rfl rfl rfl rfl (Qav (R := rS) (a := (f_).Of) (Ts := (Qd.cs (Qc.mk (f_).Name ([] : Str) ([] : Str) (f_).Kind (0:Int) (0:Int) ([] : (List Str)) ([] : (List Int))))) (off := 1) tok9 z0 z3 (leb rfl))<|.u [2] rfl rfl (Qz QeU z6)<|.e [] [2] [3] rfl rfl rfl rfl (Qav (R := rS) (a := (f_).Up) (Ts := (Qd.cs (Qc.mk (f_).Name (f_).Of ([] : Str) (f_).Kind (0:Int) (0:Int) ([] : (List Str)) ([] : (List Int))))) (off := 2) tok9 z0 z2 (leb rfl))<|.n) fun _ a w H => ?_
   have H := H.to [7,9] [_,_] [_,_] rfl rfl
   obtain rfl := sj h
   exact hJp526 _ _ (H.pick [0,1])
  refine wp_skip ?_
  obtain rfl := sj h
  exact hJp526 _ _ (H.pick [1,3])
 replace h := hp277
 clear hp277
 refine wi H h (fun b538 h => ?_) (fun b538 h => ?_)
 ·refine wp_skip ?_
  obtain rfl := sj h
  exact hJp277 _ _ (H.pick [0,1,2,3,4])
 refine sr mx [] H (fun _ => .o (Q4 z1 .k)<|.o (Qa z0)<|.n) fun _ a w H => ?_
 have H := H.to [1,2,3,4,5] [_,_,_,_,_] [_,_] rfl rfl
 have ⟨p535,hp535,h⟩ := bs h
 have hJp535 : ∀ a w,St M w0 73 [(16,tb p535),(10,ti (f_).Kind),(3,tv (n1 5)),(1,tptr (Qd.cs f_)),(2,tv (n0 1))] [box (Qd.cs zz0) (n0 1),box (Qd.cs (Qc.mk (f_).Name ([] : Str) ([] : Str) (f_).Kind (0:Int) (0:Int) ([] : (List Str)) ([] : (List Int)))) (n1 5)] a w → K275 a w := by
  intro a w H
  obtain rfl := sj h
  exact hJp277 _ _ (H.pick [0,1,2,3,4])
 replace h := hp535
 clear hp535
 refine wi H h (fun b537 h => ?_) (fun b537 h => ?_)
 ·refine wp_skip ?_
  obtain rfl := sj h
  exact hJp535 _ _ (H.pick [0,1,2,3,4])
 refine wr mx [] H (fun _ => .o (Q4 z1 .k)<|.o (Qa z0)<|.n) fun _ a w H => ?_
 have H := H.to [1,2,3,4,5] [_,_,_,_,_] [_,_] rfl rfl
 obtain rfl := sj h
 exact hJp535 _ _ (H.pick [0,1,2,3,4])

/- slices.Equal[[]string,string] -/
noncomputable def Qbx (s1_ : (List Str)) (s2_ : (List Str)) : Option (Bool) := (if ((s1_.length : Int) != (s2_.length : Int)) = true then (some false) else (QI (fun (s7 : Int) => ((if (decide (s7 < (s1_.length : Int))) = true then (idx s1_ s7).bind fun t18 => (idx s2_ s7).bind fun t22 => (if (t18 != t22) = true then (some (.inr (.inr false))) else (some (.inl (IntKind.i64.wrap (s7 + (1:Int)))))) else (some (.inr (.inl ())))) : Option ((Int) ⊕ ((Unit) ⊕ (Bool))))) (0:Int)).bind fun (e8 : (Unit) ⊕ (Bool)) => (match e8 with | .inl _ => (some true) | .inr p26 => (some p26)))
theorem QjW {s1_ : (List Str)} {s2_ : (List Str)} {r : Bool} (h : Qbx s1_ s2_ = some r) : FnOk Tryz.prog 174 [tsl rS s1_,tsl rS s2_] [] (fun _ => []) (fun _ => tb r) := by
 unfold Qbx at h
 refine fe Tryz.func174 Tryz.ntmps174 fun M0 M w0 a hpl H => ?_
 replace H : St M w0 26 [(0,tsl rS s1_),(1,tsl rS s2_)] [] a w0 := H
 refine sr mx [] H (fun _ => .o (Qa .k)<|.n) fun _ a w H => ?_
 have H := H.to [1,2] [_,_] [] rfl rfl
 refine wp_seq_k (fun _ k2 => ?_)
 refine sr mx [] H (fun _ => .q 0 rfl<|.o (QN ud32 z0)<|.q 3 rfl<|.o (QN ud32 z0)<|.o (Qam z2 z0)<|.n) fun _ a w H => ?_
 have H := H.to [4,5,6] [_,_,_] [] rfl rfl
 refine wi H h (fun b37 h => ?_) (fun b37 h => ?_)
 ·refine sr mx [] H (fun _ => .o (Qa .k)<|.n) fun _ a w H => ?_
  have H := H.to [0] [_] [] rfl rfl
  refine wp_ret ?_
  obtain rfl := sj h
  exact rt undef [] hpl H (.tmp z0 .nil)
 refine wp_skip (k2 _ _ ?_)
 refine wp_seq_k (fun K5 k5 => ?_)
 refine sr mx [] H (fun _ => .q 1 rfl<|.o (QN ud32 z0)<|.o (Qw .k)<|.n) fun _ a w H => ?_
 have H := H.to [1,2,4,5] [_,_,_,_] [] rfl rfl
 have ⟨e8,he8,h⟩ := bs h
 have hJp25 : ∀ (p25 : Unit) a w,(.inl p25) = e8 → St M w0 26 [] [] a w → K5 a w := by
  intro p25 a w he H
  subst he
  simp only at h
  refine k5 _ _ ?_
  refine sr mx [] H (fun _ => .o (Qa .k)<|.n) fun _ a w H => ?_
  have H := H.to [0] [_] [] rfl rfl
  refine wp_ret ?_
  obtain rfl := sj h
  exact rt undef [] hpl H (.tmp z0 .nil)
 have hJp26 : ∀ (p26 : Bool) a w,(.inr p26) = e8 → St M w0 26 [(4,tb p26)] [] a w → Ret Tryz.prog Tryz.f174 M0 [] w0 (fun _ => []) (fun _ => tb r) .ret a w := by
  intro p26 a w he H
  subst he
  simp only at h
  obtain rfl := sj h
  exact rt undef [] hpl H (.tmp z0 .nil)
 refine wp_block ?_
 refine QZ _ (fun (s7 : Int) a w => St M w0 26 [(12,ti (s1_.length : Int)),(13,ti s7),(0,tsl rS s1_),(1,tsl rS s2_)] [] a w) _ _ he8 (H.pick [0,1,2,3]) ?_
 clear h
 intro s7 o a w K28 hI h ho k28
 have H := hI
 clear hI
 refine sr mx [] H (fun _ => .o (QU z1 z0)<|.n) fun _ a w H => ?_
 have H := H.to [0,1,2,3,4] [_,_,_,_,_] [] rfl rfl
 refine wp_seq_k (fun _ k30 => ?_)
 refine wi H h (fun b36 h => ?_) (fun b36 h => ?_)
 ·refine wp_skip (k30 _ _ ?_)
  refine wp_seq_k (fun _ k31 => ?_)
  refine wp_block ?_
  refine sr mx [] H (fun _ => .q 2 rfl<|.o (Qa z0)<|.n) fun _ a w H => ?_
  have H := H.to [1,3,4,5,6] [_,_,_,_,_] [] rfl rfl
  have ⟨t18,ht18,h⟩ := bs h
  have ⟨t22,ht22,h⟩ := bs h
  refine sr mx [] H (fun _ => .q 3 rfl<|.q 1 rfl<|.o (QG ud32 tok9 z1 z0 ht18)<|.o (Qr tok9 z0)<|.q 8 rfl<|.q 5 rfl<|.o (QG ud32 tok9 z1 z0 ht22)<|.o (Qr tok9 z0)<|.o (Qh4 z4 z0)<|.n) fun _ a w H => ?_
  have H := H.to [8,10,11,12,13] [_,_,_,_,_] [] rfl rfl
  refine wi H h (fun b35 h => ?_) (fun b35 h => ?_)
  ·refine sr mx [] H (fun _ => .o (Qa .k)<|.n) fun _ a w H => ?_
   have H := H.to [0] [_] [] rfl rfl
   refine wp_ret ?_
   exact hJp26 _ _ _ (ho _ (sj h).symm) (H.pick [0])
  refine wp_skip (k31 _ _ ?_)
  refine wr mx [] H (fun _ => .o (QV z2 .k)<|.q 0 rfl<|.n) fun _ a w H => ?_
  have H := H.to [1,3,4,5] [_,_,_,_] [] rfl rfl
  exact k28 _ _ _ (sj h).symm (H.pick [1,0,2,3])
 refine wp_exit ?_
 exact hJp25 _ _ _ (ho _ (sj h).symm) (H.pick [])

/- slices.Equal[[]int,int] -/
noncomputable def Qb5 (s1_ : (List Int)) (s2_ : (List Int)) : Option (Bool) := (if ((s1_.length : Int) != (s2_.length : Int)) = true then (some false) else (QI (fun (s7 : Int) => ((if (decide (s7 < (s1_.length : Int))) = true then (idx s1_ s7).bind fun t18 => (idx s2_ s7).bind fun t22 => (if (t18 != t22) = true then (some (.inr (.inr false))) else (some (.inl (IntKind.i64.wrap (s7 + (1:Int)))))) else (some (.inr (.inl ())))) : Option ((Int) ⊕ ((Unit) ⊕ (Bool))))) (0:Int)).bind fun (e8 : (Unit) ⊕ (Bool)) => (match e8 with | .inl _ => (some true) | .inr p26 => (some p26)))
theorem Qlc {s1_ : (List Int)} {s2_ : (List Int)} {r : Bool} (h : Qb5 s1_ s2_ = some r) : FnOk Tryz.prog 175 [tsl rI s1_,tsl rI s2_] [] (fun _ => []) (fun _ => tb r) := by
 unfold Qb5 at h
 refine fe Tryz.func175 Tryz.ntmps175 fun M0 M w0 a hpl H => ?_
 replace H : St M w0 26 [(0,tsl rI s1_),(1,tsl rI s2_)] [] a w0 := H
 refine sr mx [] H (fun _ => .o (Qa .k)<|.n) fun _ a w H => ?_
 have H := H.to [1,2] [_,_] [] rfl rfl
 refine wp_seq_k (fun _ k2 => ?_)
 refine sr mx [] H (fun _ => .q 0 rfl<|.o (QN ud22 z0)<|.q 3 rfl<|.o (QN ud22 z0)<|.o (Qam z2 z0)<|.n) fun _ a w H => ?_
 have H := H.to [4,5,6] [_,_,_] [] rfl rfl
 refine wi H h (fun b37 h => ?_) (fun b37 h => ?_)
 ·refine sr mx [] H (fun _ => .o (Qa .k)<|.n) fun _ a w H => ?_
  have H := H.to [0] [_] [] rfl rfl
  refine wp_ret ?_
  obtain rfl := sj h
  exact rt undef [] hpl H (.tmp z0 .nil)
 refine wp_skip (k2 _ _ ?_)
 refine wp_seq_k (fun K5 k5 => ?_)
 refine sr mx [] H (fun _ => .q 1 rfl<|.o (QN ud22 z0)<|.o (Qw .k)<|.n) fun _ a w H => ?_
 have H := H.to [1,2,4,5] [_,_,_,_] [] rfl rfl
 have ⟨e8,he8,h⟩ := bs h
 have hJp25 : ∀ (p25 : Unit) a w,(.inl p25) = e8 → St M w0 26 [] [] a w → K5 a w := by
  intro p25 a w he H
  subst he
  simp only at h
  refine k5 _ _ ?_
  refine sr mx [] H (fun _ => .o (Qa .k)<|.n) fun _ a w H => ?_
  have H := H.to [0] [_] [] rfl rfl
  refine wp_ret ?_
  obtain rfl := sj h
  exact rt undef [] hpl H (.tmp z0 .nil)
 have hJp26 : ∀ (p26 : Bool) a w,(.inr p26) = e8 → St M w0 26 [(4,tb p26)] [] a w → Ret Tryz.prog Tryz.f175 M0 [] w0 (fun _ => []) (fun _ => tb r) .ret a w := by
  intro p26 a w he H
  subst he
  simp only at h
  obtain rfl := sj h
  exact rt undef [] hpl H (.tmp z0 .nil)
 refine wp_block ?_
 refine QZ _ (fun (s7 : Int) a w => St M w0 26 [(12,ti (s1_.length : Int)),(13,ti s7),(0,tsl rI s1_),(1,tsl rI s2_)] [] a w) _ _ he8 (H.pick [0,1,2,3]) ?_
 clear h
 intro s7 o a w K28 hI h ho k28
 have H := hI
 clear hI
 refine sr mx [] H (fun _ => .o (QU z1 z0)<|.n) fun _ a w H => ?_
 have H := H.to [0,1,2,3,4] [_,_,_,_,_] [] rfl rfl
 refine wp_seq_k (fun _ k30 => ?_)
 refine wi H h (fun b36 h => ?_) (fun b36 h => ?_)
 ·refine wp_skip (k30 _ _ ?_)
  refine wp_seq_k (fun _ k31 => ?_)
  refine wp_block ?_
  refine sr mx [] H (fun _ => .q 2 rfl<|.o (Qa z0)<|.n) fun _ a w H => ?_
  have H := H.to [1,3,4,5,6] [_,_,_,_,_] [] rfl rfl
  have ⟨t18,ht18,h⟩ := bs h
  have ⟨t22,ht22,h⟩ := bs h
  refine sr mx [] H (fun _ => .q 3 rfl<|.q 1 rfl<|.o (QG ud22 tok3 z1 z0 ht18)<|.o (Qr tok3 z0)<|.q 8 rfl<|.q 5 rfl<|.o (QG ud22 tok3 z1 z0 ht22)<|.o (Qr tok3 z0)<|.o (Qam z4 z0)<|.n) fun _ a w H => ?_
  have H := H.to [8,10,11,12,13] [_,_,_,_,_] [] rfl rfl
  refine wi H h (fun b35 h => ?_) (fun b35 h => ?_)
  ·refine sr mx [] H (fun _ => .o (Qa .k)<|.n) fun _ a w H => ?_
   have H := H.to [0] [_] [] rfl rfl
   refine wp_ret ?_
   exact hJp26 _ _ _ (ho _ (sj h).symm) (H.pick [0])
  refine wp_skip (k31 _ _ ?_)
  refine wr mx [] H (fun _ => .o (QV z2 .k)<|.q 0 rfl<|.n) fun _ a w H => ?_
  have H := H.to [1,3,4,5] [_,_,_,_] [] rfl rfl
  exact k28 _ _ _ (sj h).symm (H.pick [1,0,2,3])
 refine wp_exit ?_
 exact hJp25 _ _ _ (ho _ (sj h).symm) (H.pick [])

/- diorama/schema.sameField -/
noncomputable def Qb6 (a_ : Qc) (b_ : Qc) : Option (Bool) := (opt ((((((((a_).Name == (b_).Name) && ((a_).Of == (b_).Of)) && ((a_).Up == (b_).Up)) && ((a_).Kind == (b_).Kind)) && ((a_).Lo == (b_).Lo)) && ((a_).Hi == (b_).Hi)) == true) (Qbx (a_).Words (b_).Words) default).bind fun t50 => (opt (((((((((a_).Name == (b_).Name) && ((a_).Of == (b_).Of)) && ((a_).Up == (b_).Up)) && ((a_).Kind == (b_).Kind)) && ((a_).Lo == (b_).Lo)) && ((a_).Hi == (b_).Hi)) && t50) == true) (Qb5 (a_).Weights (b_).Weights) default).bind fun t57 => (some (((((((((a_).Name == (b_).Name) && ((a_).Of == (b_).Of)) && ((a_).Up == (b_).Up)) && ((a_).Kind == (b_).Kind)) && ((a_).Lo == (b_).Lo)) && ((a_).Hi == (b_).Hi)) && t50) && t57))
theorem Qld {a_ : Qc} {b_ : Qc} {r : Bool} (h : Qb6 a_ b_ = some r) : FnOk Tryz.prog 156 [Qd.ty a_,Qd.ty b_] [] (fun _ => []) (fun _ => tb r) := by
 unfold Qb6 at h
 refine fe Tryz.func156 Tryz.ntmps156 fun M0 M w0 a hpl H => ?_
 replace H : St M w0 59 [(0,Qd.ty a_),(1,Qd.ty b_)] [] a w0 := H
 refine sr mx [] H (fun _ => .o (QT (R := Qd) (u := a_) z0)<|.o (QT (R := Qd) (u := b_) z2)<|.o (Qa .k)<|.n) fun _ a w H => ?_
 have H := H.to [0,1] [_,_] [] rfl rfl
 have ⟨t50,ht50,h⟩ := bs h
 have ⟨t57,ht57,h⟩ := bs h
 refine sr mx [] H (fun _ => .o (Qe Qce z0)<|.o (Qf (u := (a_).Name) tok9 z0 rfl)<|.o (Qe Qce z3)<|.o (Qf (u := (b_).Name) tok9 z0 rfl)<|.o (QcX z2 z0)<|.q 0 rfl<|.g rfl rfl bq0 (fun _ => Qe QaA z6)<|.g rfl rfl bq1 (fun hc => Qf (u := (a_).Of) tok9 (.cond z0 hc) rfl)<|.g rfl rfl bq2 (fun _ => Qe QaA z9)<|.g rfl rfl bq3 (fun hc => Qf (u := (b_).Of) tok9 (.cond z0 hc) rfl)<|.g rfl rfl bq4 (fun hc => QcX (.cond z2 hc) (.cond z0 hc))<|.o (QY z5 (fun hp => (.cond z0 (beqT hp))))<|.q 0 rfl<|.g rfl rfl bq0 (fun _ => Qe QeU z13)<|.g rfl rfl bq1 (fun hc => Qf (u := (a_).Up) tok9 (.cond z0 hc) rfl)<|.g rfl rfl bq2 (fun _ => Qe QeU z16)<|.g rfl rfl bq3 (fun hc => Qf (u := (b_).Up) tok9 (.cond z0 hc) rfl)<|.g rfl rfl bq4 (fun hc => QcX (.cond z2 hc) (.cond z0 hc))<|.o (QY z5 (fun hp => (.cond z0 (beqT hp))))<|.q 0 rfl<|.g rfl rfl bq0 (fun _ => Qe QaX z20)<|.g rfl rfl bq1 (fun hc => Qf (u := (a_).Kind) tok3 (.cond z0 hc) rfl)<|.g rfl rfl bq2 (fun _ => Qe QaX z23)<|.g rfl rfl bq3 (fun hc => Qf (u := (b_).Kind) tok3 (.cond z0 hc) rfl)<|.g rfl rfl bq4 (fun hc => Q4 (.cond z2 hc) (.cond z0 hc))<|.o (QY z5 (fun hp => (.cond z0 (beqT hp))))<|.q 0 rfl<|.g rfl rfl bq0 (fun _ => Qe Qbd z27)<|.g rfl rfl bq1 (fun hc => Qf (u := (a_).Lo) tok3 (.cond z0 hc) rfl)<|.g rfl rfl bq2 (fun _ => Qe Qbd z30)<|.g rfl rfl bq3 (fun hc => Qf (u := (b_).Lo) tok3 (.cond z0 hc) rfl)<|.g rfl rfl bq4 (fun hc => Q4 (.cond z2 hc) (.cond z0 hc))<|.o (QY z5 (fun hp => (.cond z0 (beqT hp))))<|.q 0 rfl<|.g rfl rfl bq0 (fun _ => Qe Qb0 (.t 34 rfl))<|.g rfl rfl bq1 (fun hc => Qf (u := (a_).Hi) tok3 (.cond z0 hc) rfl)<|.g rfl rfl bq2 (fun _ => Qe Qb0 (.t 37 rfl))<|.g rfl rfl bq3 (fun hc => Qf (u := (b_).Hi) tok3 (.cond z0 hc) rfl)<|.g rfl rfl bq4 (fun hc => Q4 (.cond z2 hc) (.cond z0 hc))<|.o (QY z5 (fun hp => (.cond z0 (beqT hp))))<|.q 0 rfl<|.g rfl rfl bq0 (fun _ => Qe Qh5 (.t 41 rfl))<|.g rfl rfl bq1 (fun hc => Qf (u := (a_).Words) Qgd (.cond z0 hc) rfl)<|.g rfl rfl bq2 (fun _ => Qe Qh5 (.t 44 rfl))<|.g rfl rfl bq3 (fun hc => Qf (u := (b_).Words) Qgd (.cond z0 hc) rfl)<|.g rfl rfl bq4 (fun hc => Qh Qvz (QjW (Q9 ht50 hc)) (.cons (.of (.cond z2 hc))<|.cons (.of (.cond z0 hc))<|.nil))<|.o (QY z5 (fun hp => (.cond z0 (beqT hp))))<|.q 0 rfl<|.g rfl rfl bq0 (fun _ => Qe Qgi (.t 48 rfl))<|.g rfl rfl bq1 (fun hc => Qf (u := (a_).Weights) Qgc (.cond z0 hc) rfl)<|.g rfl rfl bq2 (fun _ => Qe Qgi (.t 51 rfl))<|.g rfl rfl bq3 (fun hc => Qf (u := (b_).Weights) Qgc (.cond z0 hc) rfl)<|.g rfl rfl bq4 (fun hc => Qh QvA (Qlc (Q9 ht57 hc)) (.cons (.of (.cond z2 hc))<|.cons (.of (.cond z0 hc))<|.nil))<|.o (QY z5 (fun hp => (.cond z0 (beqT hp))))<|.o (Qa z0)<|.n) fun _ a w H => ?_
 have H := H.to [54] [_] [] rfl rfl
 refine wp_ret ?_
 obtain rfl := sj h
 exact rt undef [] hpl H (.tmp z0 .nil)

/- diorama/schema.all[string]$1 -/
noncomputable def QcI (x_ : Str) (c0_ : (Str → Option Bool)) : Option (Bool) := (c0_ x_).bind fun t6 => (some (!t6))
theorem QjX {x_ : Str} {c0_ : (Str → Option Bool)} {r : Bool} (h : QcI x_ c0_ = some r) : FnOk Tryz.prog 160 [tv (.string (sB x_)),tptr (Qht.cs c0_)] [] (fun _ => []) (fun _ => tb r) := by
 unfold QcI at h
 refine fe Tryz.func160 Tryz.ntmps160 fun M0 M w0 a hpl H => ?_
 replace H : St M w0 8 [(0,tv (.string (sB x_))),(1,tptr (Qht.cs c0_))] [] a w0 := H
 refine sr mx [] H (fun _ => .o (Qa .k)<|.n) fun _ a w H => ?_
 have H := H.to [1,2] [_,_] [] rfl rfl
 have ⟨t6,ht6,h⟩ := bs h
 refine sr mx [] H (fun _ => .o (Qr tok178 z1)<|.q 1 rfl<|.o (Qb2 (u := x_) z1 (.cons (.of z0)<|.nil) ht6)<|.o (Qar z0)<|.o (Qa z0)<|.n) fun _ a w H => ?_
 have H := H.to [4] [_] [] rfl rfl
 refine wp_ret ?_
 obtain rfl := sj h
 exact rt undef [] hpl H (.tmp z0 .nil)

/- slices.IndexFunc[[]string,string] -/
noncomputable def QaS (s_ : (List Str)) (f_ : (Str → Option Bool)) : Option (Int) := (QI (fun (s4 : Int) => ((if (decide (s4 < (s_.length : Int))) = true then (idx s_ s4).bind fun t14 => (f_ t14).bind fun t16 => (if t16 = true then (some (.inr (.inr s4))) else (some (.inl (IntKind.i64.wrap (s4 + (1:Int)))))) else (some (.inr (.inl ())))) : Option ((Int) ⊕ ((Unit) ⊕ (Int))))) (0:Int)).bind fun (e5 : (Unit) ⊕ (Int)) => (match e5 with | .inl _ => (some (-1:Int)) | .inr p23 => (some p23))
theorem QiL {s_ : (List Str)} {f_ : (Str → Option Bool)} {r : Int} (h : QaS s_ f_ = some r) : FnOk Tryz.prog 176 [tsl rS s_,Qht.ty f_] [] (fun _ => []) (fun _ => ti r) := by
 unfold QaS at h
 refine fe Tryz.func176 Tryz.ntmps176 fun M0 M w0 a hpl H => ?_
 replace H : St M w0 19 [(0,tsl rS s_),(1,Qht.ty f_)] [] a w0 := H
 refine sr mx [] H (fun _ => .o (Qa .k)<|.n) fun _ a w H => ?_
 have H := H.to [1,2] [_,_] [] rfl rfl
 refine wp_seq_k (fun K2 k2 => ?_)
 refine sr mx [] H (fun _ => .q 0 rfl<|.o (QN ud32 z0)<|.o (Qw .k)<|.n) fun _ a w H => ?_
 have H := H.to [1,2,3,4] [_,_,_,_] [] rfl rfl
 have ⟨e5,he5,h⟩ := bs h
 have hJp22 : ∀ (p22 : Unit) a w,(.inl p22) = e5 → St M w0 19 [] [] a w → K2 a w := by
  intro p22 a w he H
  subst he
  simp only at h
  refine k2 _ _ ?_
  refine sr mx [] H (fun _ => .o (Qa .k)<|.n) fun _ a w H => ?_
  have H := H.to [0] [_] [] rfl rfl
  refine wp_ret ?_
  obtain rfl := sj h
  exact rt undef [] hpl H (.tmp z0 .nil)
 have hJp23 : ∀ (p23 : Int) a w,(.inr p23) = e5 → St M w0 19 [(4,ti p23)] [] a w → Ret Tryz.prog Tryz.f176 M0 [] w0 (fun _ => []) (fun _ => ti r) .ret a w := by
  intro p23 a w he H
  subst he
  simp only at h
  obtain rfl := sj h
  exact rt undef [] hpl H (.tmp z0 .nil)
 refine wp_block ?_
 refine QZ _ (fun (s4 : Int) a w => St M w0 19 [(7,ti (s_.length : Int)),(8,ti s4),(0,tsl rS s_),(1,Qht.ty f_)] [] a w) _ _ he5 (H.pick [0,1,2,3]) ?_
 clear h
 intro s4 o a w K25 hI h ho k25
 have H := hI
 clear hI
 refine sr mx [] H (fun _ => .o (QU z1 z0)<|.n) fun _ a w H => ?_
 have H := H.to [0,1,2,3,4] [_,_,_,_,_] [] rfl rfl
 refine wp_seq_k (fun _ k27 => ?_)
 refine wi H h (fun b33 h => ?_) (fun b33 h => ?_)
 ·refine wp_skip (k27 _ _ ?_)
  refine wp_seq_k (fun _ k28 => ?_)
  refine wp_block ?_
  refine sr mx [] H (fun _ => .q 2 rfl<|.o (Qa z0)<|.n) fun _ a w H => ?_
  have H := H.to [1,3,4,5,6] [_,_,_,_,_] [] rfl rfl
  have ⟨t14,ht14,h⟩ := bs h
  have ⟨t16,ht16,h⟩ := bs h
  refine sr mx [] H (fun _ => .q 4 rfl<|.q 4 rfl<|.q 2 rfl<|.o (QG ud32 tok9 z1 z0 ht14)<|.o (Qr tok9 z0)<|.o (Qb2 (u := t14) z4 (.cons (.of z0)<|.nil) ht16)<|.n) fun _ a w H => ?_
  have H := H.to [5,6,7,8,9,10] [_,_,_,_,_,_] [] rfl rfl
  refine wi H h (fun b32 h => ?_) (fun b32 h => ?_)
  ·refine sr mx [] H (fun _ => .q 1 rfl<|.o (Qa z0)<|.n) fun _ a w H => ?_
   have H := H.to [1] [_] [] rfl rfl
   refine wp_ret ?_
   exact hJp23 _ _ _ (ho _ (sj h).symm) (H.pick [0])
  refine wp_skip (k28 _ _ ?_)
  refine wr mx [] H (fun _ => .o (QV z3 .k)<|.q 0 rfl<|.n) fun _ a w H => ?_
  have H := H.to [1,4,5,6] [_,_,_,_] [] rfl rfl
  exact k25 _ _ _ (sj h).symm (H.pick [1,0,2,3])
 refine wp_exit ?_
 exact hJp22 _ _ _ (ho _ (sj h).symm) (H.pick [])

/- slices.ContainsFunc[[]string,string] -/
noncomputable def QaB (s_ : (List Str)) (f_ : (Str → Option Bool)) : Option (Bool) := (QaS s_ f_).bind fun t7 => (some (decide (t7 ≥ (0:Int))))
theorem QhY {s_ : (List Str)} {f_ : (Str → Option Bool)} {r : Bool} (h : QaB s_ f_ = some r) : FnOk Tryz.prog 159 [tsl rS s_,Qht.ty f_] [] (fun _ => []) (fun _ => tb r) := by
 unfold QaB at h
 refine fe Tryz.func159 Tryz.ntmps159 fun M0 M w0 a hpl H => ?_
 replace H : St M w0 9 [(0,tsl rS s_),(1,Qht.ty f_)] [] a w0 := H
 refine sr mx [] H (fun _ => .o (Qa .k)<|.n) fun _ a w H => ?_
 have H := H.to [1,2] [_,_] [] rfl rfl
 have ⟨t7,ht7,h⟩ := bs h
 refine sr mx [] H (fun _ => .q 0 rfl<|.q 2 rfl<|.o (Qh QvB (QiL ht7) (.cons (.of z1)<|.cons (.of z0)<|.nil))<|.o (QaY z0 .k)<|.o (Qa z0)<|.n) fun _ a w H => ?_
 have H := H.to [4] [_] [] rfl rfl
 refine wp_ret ?_
 obtain rfl := sj h
 exact rt undef [] hpl H (.tmp z0 .nil)

/- diorama/schema.all[string] -/
noncomputable def Qbt (l_ : (List Str)) (right_ : (Str → Option Bool)) : Option (Bool) := (QaB l_ (fun x0 => QcI x0 right_)).bind fun t7 => (some (!t7))
theorem QhA {l_ : (List Str)} {right_ : (Str → Option Bool)} {r : Bool} (h : Qbt l_ right_ = some r) : FnOk Tryz.prog 130 [tsl rS l_,Qht.ty right_] [] (fun _ => []) (fun _ => tb r) := by
 unfold Qbt at h
 refine fe Tryz.func130 Tryz.ntmps130 fun M0 M w0 a hpl H => ?_
 replace H : St M w0 9 [(0,tsl rS l_),(1,Qht.ty right_)] [] a w0 := H
 refine sr mx [] H (fun _ => .o (QT (R := Qht) (u := right_) z1)<|.o (Qa .k)<|.n) fun _ a w H => ?_
 have H := H.to [0,2] [_,_] [] rfl rfl
 have ⟨t7,ht7,h⟩ := bs h
 refine sr mx [] H (fun _ => .q 1 rfl<|.o (QdK (.cons z1<|.nil))<|.o (Qh Qvt (QhY ht7) (.cons (.of z1)<|.cons (.of (Fct.weak z0 (Qb1 Qvu (fun _ _ hq => QjX hq))))<|.nil))<|.o (Qar z0)<|.o (Qa z0)<|.n) fun _ a w H => ?_
 have H := H.to [4] [_] [] rfl rfl
 refine wp_ret ?_
 obtain rfl := sj h
 exact rt undef [] hpl H (.tmp z0 .nil)

end Go.Proofs.YtcdccjagknlmpaaGreatDoor

/- Go functions as Lean functions, and the proofs that they compute them, written by a program. No condition. -/
import Derived.Test.YtcdccjagknlmpaaGreatDoorGenA
namespace Go.Proofs.YtcdccjagknlmpaaGreatDoor
open Go.Sim
set_option maxRecDepth 100000
set_option maxHeartbeats 4000000

/- diorama/dioramaref09.Schema -/
noncomputable def Qge (l_ : (List Int)) : Option (Qh) := (sub l_ (0:Int) (imin (l_.length : Int) (200:Int))).bind fun t17 => (QH (QK.mk t17 (0:Int)) (4:Int)).bind fun t21 => (QH t21.2 (3:Int)).bind fun t24 => (QF (fun (s13 : Int × List Qj × QK) => ((if (decide (s13.1 < (IntKind.i64.wrap ((1:Int) + t24.1)))) = true then (QdZ s13.2.2 s13.2.1).bind fun t36 => (rm (t36.2.2.length + [t36.1].length)).bind fun _ => (some (.inl ((IntKind.i64.wrap (s13.1 + (1:Int))),(t36.2.2 ++ [t36.1]),t36.2.1))) else (some (.inr (s13.2.1,s13.2.2)))) : Option ((Int × List Qj × QK) ⊕ ((List Qj × QK))))) ((0:Int),([] : List Qj),t24.2)).bind fun (p24 : (List Qj × QK)) => (QH p24.2 (3:Int)).bind fun t42 => (sub [([110,101,119] : Str),([111,112,101,110] : Str),([100,111,110,101] : Str),([115,104,117,116] : Str)] (0:Int) (IntKind.i64.wrap ((2:Int) + t42.1))).bind fun t44 => (QF (fun (s32 : Int × List QT) => ((if (decide ((IntKind.i64.wrap (s32.1 + (1:Int))) < (t44.length : Int))) = true then (rm (s32.2.length + [(QT.mk s32.1 (IntKind.i64.wrap (s32.1 + (1:Int))))].length)).bind fun _ => (some (.inl ((IntKind.i64.wrap (s32.1 + (1:Int))),(s32.2 ++ [(QT.mk s32.1 (IntKind.i64.wrap (s32.1 + (1:Int))))])))) else (some (.inr s32.2))) : Option ((Int × List QT) ⊕ ((List QT))))) ((0:Int),([] : List QT))).bind fun (p43 : (List QT)) => (QH t42.2 (2:Int)).bind fun t64 => ((if (t64.1 == (0:Int)) = true then (rm (p43.length + [(QT.mk (1:Int) (0:Int))].length)).bind fun _ => (some (p43 ++ [(QT.mk (1:Int) (0:Int))])) else (some p43))).bind fun (p47 : List QT) => (QH t64.2 (3:Int)).bind fun t73 => ((if (t73.1 == (0:Int)) = true then (rm (p47.length + [(QT.mk (0:Int) (IntKind.i64.wrap ((t44.length : Int) - (1:Int))))].length)).bind fun _ => (some (p47 ++ [(QT.mk (0:Int) (IntKind.i64.wrap ((t44.length : Int) - (1:Int))))])) else (some p47))).bind fun (p52 : List QT) => (rm (([] : List Qo).length + [(Qo.mk ([108,105,102,101] : Str) t44 p52)].length)).bind fun _ => (QF (fun (s58 : Int × List Qn × QK) => ((if ((decide (s58.1 < (IntKind.i64.wrap ((1:Int) + t24.1)))) && (decide ((s58.2.1.length : Int) < (2:Int)))) = true then (idx p24.1 s58.1).bind fun t106 => (Qd0 s58.2.2 t106).bind fun t108 => ((if t108.2.1 = true then (rm (s58.2.1.length + [t108.1].length)).bind fun _ => (some (s58.2.1 ++ [t108.1])) else (some s58.2.1))).bind fun (p93 : List Qn) => (some (.inl ((IntKind.i64.wrap (s58.1 + (1:Int))),p93,t108.2.2))) else (some (.inr s58.2.1))) : Option ((Int × List Qn × QK) ⊕ ((List Qn))))) ((0:Int),([] : List Qn),t73.2)).bind fun (p83 : (List Qn)) => (some (Qh.mk t21.1 p24.1 (([] : List Qo) ++ [(Qo.mk ([108,105,102,101] : Str) t44 p52)]) p83))
theorem Qn5 {l_ : (List Int)} {r : Qh} (h : Qge l_ = some r) : FnOk Tryz.prog 10 [tsl rI l_] [] (fun _ => []) (fun _ => Qg.ty r) := by
 unfold Qge at h
 refine fe Tryz.func10 Tryz.ntmps10 fun M0 M w0 a hpl H => ?_
 replace H : St M w0 119 [(0,tsl rI l_)] [] a w0 := H
 refine sr mx [v1 0 (fun v0 => box (Qg.cs zz4) v0)] H (fun _ => .m [] [0] rfl rfl rfl (Q0 (R := Qg) (a := zz4) Qar QnT)<|.n) fun n0 a w H => ?_
 have H := H.to [0,1] [_,_] [_] rfl rfl
 have ⟨t17,ht17,h⟩ := bs h
 refine sr mx [v1 6 (fun v0 => box (Qw.cs (QK.mk t17 (0:Int))) v0)] H (fun _ => .q 1 rfl<|.q 2 rfl<|.o (QE ud22 z0)<|.o (QpS z0 .k)<|.o (Qki ud22 tok3 z3 (.no _) (.op z0) ht17)<|.p (T := Qw.ty (QK.mk t17 (0:Int))) rfl (QY Tryz.underlying76 pl76 zv76 zc76 (.cons (R := (rSl rI)) (u := t17) rfl z0 (leb rfl)<|.nil _))<|.m [] [1] rfl rfl rfl (QnC (R := Qw) (u := (QK.mk t17 (0:Int))) z0)<|.ud (f := fun v => tv v) 6 rfl [] rfl rfl (Qa z0)<|.n) fun n1 a w H => ?_
 have H := H.to [7,8] [_,_] [_,_] rfl rfl
 have ⟨t21,ht21,h⟩ := bs h
 refine sr mx [v0 (box (Qw.cs t21.2) (n1 6)),v1 3 (fun v0 => box (Qg.cs zz4) v0),v1 3 (fun v0 => box ([ti t21.1,tvs nilV,tvs nilV,tvs nilV]) v0)] H (fun _ => .q 0 rfl<|.e [] [1] [2] rfl rfl rfl rfl (Qf QaH (QJ ht21) (.cons (.of z0)<|.cons (.of .k)<|.nil))<|.p (T := tagg ([ti t21.1,tvs nilV,tvs nilV,tvs nilV])) rfl (QY Tryz.underlying27 pl27 zv27 (Qp6).1 (.cons (R := rI) (u := t21.1) rfl z0 (leb rfl)<|.nil _))<|.m [] [3] rfl rfl rfl (Q0 (R := Qg) (a := zz4) Qar QnT)<|.e [] [3] [4] rfl rfl rfl rfl (QS (R := (rAgg ([ti t21.1,tvs nilV,tvs nilV,tvs nilV]) (QA (Qad rfl) (QA Qec (QA Qec (QA Qec QaA)))))) (a := ()) (tokA Qar (QA (Qad rfl) (QA Qec (QA Qec (QA Qec QaA)))) rfl rfl) z0 z1 (leb rfl))<|.n) fun n2 a w H => ?_
 replace H : St _ _ _ [_,_,_] [_,_,_,_,_,_] _ _ := (((H.pick [3,4,5]).nil (Qk) 55).nil (Qz) 81).nil (Qt) 84
 have ⟨t24,ht24,h⟩ := bs h
 refine sr mx [v0 (box (Qw.cs t24.2) (n1 6))] H (fun _ => .q 1 rfl<|.e [] [4] [6] rfl rfl rfl rfl (Qf QaH (QJ ht24) (.cons (.of z0)<|.cons (.of .k)<|.nil))<|.o (QQ .k z0)<|.o (Qa z0)<|.n) fun _ a w H => ?_
 have H := H.to [3,4,5,6] [_,_,_,_] [_,_,_,_,_,_] rfl rfl
 refine wp_seq_k (fun K11 k11 => ?_)
 refine sr mx [] H (fun _ => .o (Qa .k)<|.n) fun _ a w H => ?_
 have H := H.to [0,1,2,3,4] [_,_,_,_,_] [_,_,_,_,_,_] rfl rfl
 have ⟨e14,he14,h⟩ := bs h
 have hJp24 : ∀ (p24 : List Qj × QK) (v25 : Value) a w,p24 = e14 → St M w0 119 [(5,ti (IntKind.i64.wrap ((1:Int) + t24.1))),(4,tv (n2 3)),(3,tv (n1 6)),(2,tv (n0 0))] [own Qt 84 ([] : List Qn) nilV,own Qz 81 ([] : List Qo) nilV,own Qk 55 p24.1 v25,box (Qg.cs zz4) (n0 0),box ([ti t21.1,tvs v25,tvs nilV,tvs nilV]) (n2 3),box (Qw.cs p24.2) (n1 6)] a w → K11 a w := by
  intro p24 v25 a w he H
  subst he
  refine k11 _ _ ?_
  have ⟨t42,ht42,h⟩ := bs h
  have ⟨t44,ht44,h⟩ := bs h
  refine sr mx [v0 (box (Qw.cs t42.2) (n1 6))] H (fun _ => .o (Qy (R := rS) (us := [([110,101,119] : Str),([111,112,101,110] : Str),([100,111,110,101] : Str),([115,104,117,116] : Str)]) ud32 tok9 (.cons .k<|.cons .k<|.cons .k<|.cons .k<|.nil _) rfl (leb rfl))<|.q 3 rfl<|.e [] [5] [6] rfl rfl rfl rfl (Qf QaH (QJ ht42) (.cons (.of z0)<|.cons (.of .k)<|.nil))<|.o (QQ .k z0)<|.o (Qki ud32 tok9 z3 (.no _) (.op z0) ht44)<|.o (Qa z0)<|.n) fun _ a w H => ?_
  have H := H.to [5,6,7,8,9] [_,_,_,_,_] [_,_,_,_,_,_] rfl rfl
  refine sr mx [v1 2 (fun v0 => box (Qz.cs zz2) v0),v1 2 (fun v0 => box ([tv (.string (sB ([108,105,102,101] : Str))),tsl rS t44,tvs nilV]) v0)] H (fun _ => .q 0 rfl<|.p (T := tagg ([tv (.string (sB ([108,105,102,101] : Str))),tsl rS t44,tvs nilV])) rfl (QY Tryz.underlying81 pl81 zv81 (QsZ).1 (.cons (R := rS) (u := ([108,105,102,101] : Str)) rfl .k (leb rfl)<|.cons (R := (rSl rS)) (u := t44) rfl z0 (leb rfl)<|.nil _))<|.m [] [6] rfl rfl rfl (Q0 (R := Qz) (a := zz2) Qby QpE)<|.e [] [6] [7] rfl rfl rfl rfl (QS (R := (rAgg ([tv (.string (sB ([108,105,102,101] : Str))),tsl rS t44,tvs nilV]) (QA (Qad rfl) (QA Qck (QA Qec QaA))))) (a := ()) (tokA Qby (QA (Qad rfl) (QA Qck (QA Qec QaA))) rfl rfl) z0 z1 (leb rfl))<|.n) fun n9 a w H => ?_
  replace H : St _ _ _ [_,_,_,_,_,_] [_,_,_,_,_,_,_,_] _ _ := (H.pick [2,3,4,5,6,7]).nil (Qam) 82
  refine wp_seq_k (fun K30 k30 => ?_)
  refine sr mx [] H (fun _ => .o (Qa .k)<|.n) fun _ a w H => ?_
  have H := H.to [0,1,2,3,4,5,6] [_,_,_,_,_,_,_] [_,_,_,_,_,_,_,_] rfl rfl
  have ⟨e33,he33,h⟩ := bs h
  have hJp43 : ∀ (p43 : List QT) (v44 : Value) a w,p43 = e33 → St M w0 119 [(8,tv (n9 2)),(7,tsl rS t44),(5,ti (IntKind.i64.wrap ((1:Int) + t24.1))),(4,tv (n2 3)),(3,tv (n1 6)),(2,tv (n0 0))] [own Qam 82 p43 v44,own Qt 84 ([] : List Qn) nilV,own Qz 81 ([] : List Qo) nilV,own Qk 55 p24.1 v25,box (Qg.cs zz4) (n0 0),box ([ti t21.1,tvs v25,tvs nilV,tvs nilV]) (n2 3),box (Qw.cs t42.2) (n1 6),box ([tv (.string (sB ([108,105,102,101] : Str))),tsl rS t44,tvs v44]) (n9 2)] a w → K30 a w := by
   intro p43 v44 a w he H
   subst he
   refine k30 _ _ ?_
   refine wp_seq_k (fun K45 k45 => ?_)
   have ⟨t64,ht64,h⟩ := bs h
   refine sr mx [v0 (box (Qw.cs t64.2) (n1 6))] H (fun _ => .q 4 rfl<|.e [] [6] [8] rfl rfl rfl rfl (Qf QaH (QJ ht64) (.cons (.of z0)<|.cons (.of .k)<|.nil))<|.o (QM z0 .k)<|.n) fun _ a w H => ?_
   have H := H.to [2,3,4,5,6,7,8] [_,_,_,_,_,_,_] [_,_,_,_,_,_,_,_] rfl rfl
   have ⟨p47,hp47,h⟩ := bs h
   have hJp47 : ∀ (v49 : Value) a w,St M w0 119 [(8,tv (n9 2)),(7,tsl rS t44),(5,ti (IntKind.i64.wrap ((1:Int) + t24.1))),(4,tv (n2 3)),(3,tv (n1 6)),(2,tv (n0 0))] [own Qt 84 ([] : List Qn) nilV,own Qz 81 ([] : List Qo) nilV,own Qk 55 p24.1 v25,box (Qg.cs zz4) (n0 0),box ([ti t21.1,tvs v25,tvs nilV,tvs nilV]) (n2 3),box (Qw.cs t64.2) (n1 6),own Qam 82 p47 v49,box ([tv (.string (sB ([108,105,102,101] : Str))),tsl rS t44,tvs v49]) (n9 2)] a w → K45 a w := by
    intro v49 a w H
    refine k45 _ _ ?_
    refine wp_seq_k (fun K50 k50 => ?_)
    have ⟨t73,ht73,h⟩ := bs h
    refine sr mx [v0 (box (Qw.cs t73.2) (n1 6))] H (fun _ => .q 4 rfl<|.e [] [5] [8] rfl rfl rfl rfl (Qf QaH (QJ ht73) (.cons (.of z0)<|.cons (.of .k)<|.nil))<|.o (QM z0 .k)<|.n) fun _ a w H => ?_
    have H := H.to [2,3,4,5,6,7,8] [_,_,_,_,_,_,_] [_,_,_,_,_,_,_,_] rfl rfl
    have ⟨p52,hp52,h⟩ := bs h
    have hJp52 : ∀ (v54 : Value) a w,St M w0 119 [(8,tv (n9 2)),(5,ti (IntKind.i64.wrap ((1:Int) + t24.1))),(4,tv (n2 3)),(3,tv (n1 6)),(2,tv (n0 0))] [own Qt 84 ([] : List Qn) nilV,own Qz 81 ([] : List Qo) nilV,own Qk 55 p24.1 v25,box (Qg.cs zz4) (n0 0),box ([ti t21.1,tvs v25,tvs nilV,tvs nilV]) (n2 3),box (Qw.cs t73.2) (n1 6),own Qam 82 p52 v54,box ([tv (.string (sB ([108,105,102,101] : Str))),tsl rS t44,tvs v54]) (n9 2)] a w → K50 a w := by
     intro v54 a w H
     refine k50 _ _ ?_
     refine wp_seq_k (fun _ k55 => ?_)
     replace H : St _ _ _ [_,_,_,_,_] [_,_,_,_,_,_,_] _ _ := ((H.pick [0,1,2,3,4]).selA [6,7,0,1,2,3,4,5] rfl).shareC 2 rfl
     have ⟨u88,hu88,h⟩ := bs h
     refine wr mx [v1 4 (fun v0 => own Qz 81 (([] : List Qo) ++ [(Qo.mk ([108,105,102,101] : Str) t44 p52)]) v0),v1 4 (fun v0 => box ([ti t21.1,tvs v25,tvs v0,tvs nilV]) (n2 3))] H (fun _ => .u [5] rfl rfl (Qu Qbc z2)<|.u [5] rfl rfl (Qab (u := nilV) Qil z0 rfl)<|.u [0] rfl rfl (QdN (R := Qz) (u := (Qo.mk ([108,105,102,101] : Str) t44 p52)) Qby z2 rfl)<|.o (Qy (R := Qz) (us := [(Qo.mk ([108,105,102,101] : Str) t44 p52)]) ud24 Qby (.cons z0<|.nil _) rfl (leb rfl))<|.e [] [2] [7] rfl rfl rfl rfl (Qag (R := Qz) ud24 Qby (leb rfl) z2 z0 hu88)<|.u [5] rfl rfl (Qu Qbc z7)<|.e [7] [5] [8] rfl rfl rfl rfl (QaX (R := Qz) (e := 81) (Ts := ([ti t21.1,tvs v25,tvs nilV,tvs nilV])) (off := 2) Qil z0 z1 (leb rfl))<|.n) fun n18 a w H => ?_
     replace H : St _ _ _ [_,_,_,_,_] [_,_,_,_,_,_] _ _ := (H.pick [4,7,8,9,10]).selA [1,2,3,4,5,6] rfl
     refine k55 _ _ ?_
     refine wp_seq_k (fun K56 k56 => ?_)
     refine sr mx [] H (fun _ => .o (Qa .k)<|.n) fun _ a w H => ?_
     have H := H.to [0,1,2,3,4,5] [_,_,_,_,_,_] [_,_,_,_,_,_] rfl rfl
     have ⟨e59,he59,h⟩ := bs h
     have hJp83 : ∀ (p83 : List Qn) (v84 : Value) a w,p83 = e59 → St M w0 119 [(4,tv (n2 3)),(2,tv (n0 0))] [own Qt 84 p83 v84,own Qk 55 p24.1 v25,box (Qg.cs zz4) (n0 0),own Qz 81 (([] : List Qo) ++ [(Qo.mk ([108,105,102,101] : Str) t44 p52)]) (n18 4),box ([ti t21.1,tvs v25,tvs (n18 4),tvs v84]) (n2 3)] a w → K56 a w := by
      intro p83 v84 a w he H
      subst he
      refine k56 _ _ ?_
      refine wp_seq_k (fun _ k85 => ?_)
      replace H : St _ _ _ [_,_] [_,_,_,_] _ _ := ((H.pick [0,1]).selA [1,4,0,2,3] rfl).shareC 1 rfl
      replace H : St _ _ _ [_,_] [_,_,_] _ _ := ((H.pick [0,1]).selA [3,0,1,2] rfl).shareC 2 rfl
      replace H : St _ _ _ [_,_] [_,_] _ _ := ((H.pick [0,1]).selA [1,0,2] rfl).shareC 3 rfl
      refine wr mx [v0 (box (Qg.cs (Qh.mk t21.1 p24.1 (([] : List Qo) ++ [(Qo.mk ([108,105,102,101] : Str) t44 p52)]) p83)) (n0 0))] H (fun _ => .u [0] rfl rfl (QdN (R := Qg) (u := (Qh.mk t21.1 p24.1 (([] : List Qo) ++ [(Qo.mk ([108,105,102,101] : Str) t44 p52)]) p83)) Qar z0 rfl)<|.e [] [1] [2] rfl rfl rfl rfl (QS (R := Qg) (a := (Qh.mk t21.1 p24.1 (([] : List Qo) ++ [(Qo.mk ([108,105,102,101] : Str) t44 p52)]) p83)) Qar z2 z0 (leb rfl))<|.n) fun _ a w H => ?_
      replace H : St _ _ _ [_] [_] _ _ := (H.pick [2]).selA [1] rfl
      refine k85 _ _ ?_
      refine wp_ret ?_
      obtain rfl := sj h
      exact rt undef [] hpl H (.cell (R := Qg) (u := (Qh.mk t21.1 p24.1 (([] : List Qo) ++ [(Qo.mk ([108,105,102,101] : Str) t44 p52)]) p83)) Qar z0 0 rfl rfl .nil)
     refine wp_block ?_
     refine QR _ (fun (s58 : Int × List Qn × QK) a w => ∃ v71 : Value,St M w0 119 [(10,ti s58.1),(5,ti (IntKind.i64.wrap ((1:Int) + t24.1))),(4,tv (n2 3)),(3,tv (n1 6)),(2,tv (n0 0))] [own Qt 84 s58.2.1 v71,own Qk 55 p24.1 v25,box (Qg.cs zz4) (n0 0),box (Qw.cs s58.2.2) (n1 6),own Qz 81 (([] : List Qo) ++ [(Qo.mk ([108,105,102,101] : Str) t44 p52)]) (n18 4),box ([ti t21.1,tvs v25,tvs (n18 4),tvs v71]) (n2 3)] a w) _ _ he59 ⟨nilV,H.pick [0,2,3,4,5]⟩ ?_
     clear h
     intro s58 o a w K86 hI h ho k86
     obtain ⟨v71,H⟩ := hI
     refine wp_seq_k (fun _ k87 => ?_)
     refine sr mx [] H (fun _ => .q 0 rfl<|.q 2 rfl<|.o (QG z1 z0)<|.q 0 rfl<|.gu [5] rfl rfl rfl bq0 (fun _ => Qu QbH z6)<|.gu [5] rfl rfl rfl bq1 (fun hc => Qab (u := v71) Qk7 (.cond z0 hc) rfl)<|.gu [0] rfl rfl rfl bq2 (fun hc => QeT ud25 (.cond z0 hc))<|.g rfl rfl bq3 (fun hc => QG (.cond z0 hc) .k)<|.o (QW z4 (fun hp => (.cond z0 (beqT hp))))<|.n) fun _ a w H => ?_
     have H := H.to [8,9,10,11,12,13] [_,_,_,_,_,_] [_,_,_,_,_,_] rfl rfl
     refine wi H h (fun b97 h => ?_) (fun b97 h => ?_)
     ·refine wp_skip (k87 _ _ ?_)
      refine wp_seq_k (fun K89 k89 => ?_)
      refine wp_block ?_
      have ⟨t106,ht106,h⟩ := bs h
      have ⟨t108,ht108,h⟩ := bs h
      refine sr mx [v0 (box (Qw.cs t108.2.2) (n1 6)),v1 10 (fun v0 => box (Qt.cs zz3) v0),v1 10 (fun v0 => box (Qt.cs t108.1) v0)] H (fun _ => .q 4 rfl<|.u [5] rfl rfl (Qu Q9 z4)<|.u [5] rfl rfl (Qab (u := v25) Qeo z0 rfl)<|.q 4 rfl<|.u [1] rfl rfl (Qa1 ud23 QZ z1 z0 ht106)<|.u [1] rfl rfl (Qlv QZ z0 ht106)<|.e [] [3] [6] rfl rfl rfl rfl (Qf call34 (Ql2 ht108) (.cons (.of z5)<|.cons (.of z0)<|.nil))<|.q 0 rfl<|.o (QU z0 rfl)<|.o (QU z1 rfl)<|.m [] [7] rfl rfl rfl (Q0 (R := Qt) (a := zz3) QaU QmS)<|.e [] [7] [8] rfl rfl rfl rfl (QS (R := Qt) (a := t108.1) QaU z0 z2 (leb rfl))<|.o (Qa z1)<|.n) fun _ a w H => ?_
      replace H : St _ _ _ [_,_,_,_,_,_,_,_] [_,_,_,_,_,_] _ _ := ((((H.pick [2,10,11,13,14,15,16,17]).selA [6,0,1,2,3,4,5] rfl).shareB 1 rfl).add 0 rfl (fun _ _ _ h => h.2)).pick [0,2,4,5,6,7,8,9]
      refine sr mx [] H (fun _ => .q 2 rfl<|.n) fun _ a w H => ?_
      have H := H.to [0,1,2,4,5,6,7,8] [_,_,_,_,_,_,_,_] [_,_,_,_,_,_] rfl rfl
      have ⟨p93,hp93,h⟩ := bs h
      have hJp93 : ∀ (v95 : Value) a w,St M w0 119 [(10,ti s58.1),(5,ti (IntKind.i64.wrap ((1:Int) + t24.1))),(4,tv (n2 3)),(3,tv (n1 6)),(2,tv (n0 0))] [own Qk 55 p24.1 v25,box (Qg.cs zz4) (n0 0),own Qz 81 (([] : List Qo) ++ [(Qo.mk ([108,105,102,101] : Str) t44 p52)]) (n18 4),box (Qw.cs t108.2.2) (n1 6),own Qt 84 p93 v95,box ([ti t21.1,tvs v25,tvs (n18 4),tvs v95]) (n2 3)] a w → K89 a w := by
       intro v95 a w H
       refine k89 _ _ ?_
       refine wr mx [] H (fun _ => .q 0 rfl<|.o (QQ z0 .k)<|.o (Qa z0)<|.n) fun _ a w H => ?_
       have H := H.to [2,3,4,5,6] [_,_,_,_,_] [_,_,_,_,_,_] rfl rfl
       exact k86 _ _ _ (sj h).symm ⟨v95,(H.pick [0,1,2,3,4]).selA [4,0,1,3,2,5] rfl⟩
      replace h := hp93
      clear hp93
      refine wi H h (fun b96 h => ?_) (fun b96 h => ?_)
      ·have ⟨u116,hu116,h⟩ := bs h
       refine wr mx [v1 4 (fun v0 => own Qt 84 (s58.2.1 ++ [t108.1]) v0),v1 4 (fun v0 => box ([ti t21.1,tvs v25,tvs (n18 4),tvs v0]) (n2 3))] H (fun _ => .u [4] rfl rfl (Qu QbH z5)<|.u [4] rfl rfl (Qab (u := v71) Qk7 z0 rfl)<|.o (Qm QaU z3)<|.o (Qy (R := Qt) (us := [t108.1]) ud25 QaU (.cons z0<|.nil _) rfl (leb rfl))<|.e [] [0] [6] rfl rfl rfl rfl (Qag (R := Qt) ud25 QaU (leb rfl) z2 z0 hu116)<|.u [4] rfl rfl (Qu QbH z10)<|.e [6] [4] [7] rfl rfl rfl rfl (QaX (R := Qt) (e := 84) (Ts := ([ti t21.1,tvs v25,tvs (n18 4),tvs v71])) (off := 3) Qk7 z0 z1 (leb rfl))<|.n) fun n24 a w H => ?_
       have H := H.to [4,8,9,10,11,12,13] [_,_,_,_,_,_,_] [_,_,_,_,_,_] rfl rfl
       obtain rfl := sj h
       exact hJp93 (n24 4) _ _ (H.pick [2,3,4,5,6])
      refine wp_skip ?_
      obtain rfl := sj h
      exact hJp93 v71 _ _ ((H.pick [3,4,5,6,7]).selA [1,2,3,5,0,4] rfl)
     refine wp_exit ?_
     exact hJp83 _ v71 _ _ (ho _ (sj h).symm) ((H.pick [3,5]).selA [0,1,2,4,5] rfl)
    replace h := hp52
    clear hp52
    refine wi H h (fun b98 h => ?_) (fun b98 h => ?_)
    ·have ⟨u82,hu82,h⟩ := bs h
     refine wr mx [v1 7 (fun v0 => own Qam 82 (p47 ++ [(QT.mk (0:Int) (IntKind.i64.wrap ((t44.length : Int) - (1:Int))))]) v0),v1 7 (fun v0 => box ([tv (.string (sB ([108,105,102,101] : Str))),tsl rS t44,tvs v0]) (n9 2))] H (fun _ => .u [6] rfl rfl (Qu Qcm z1)<|.u [6] rfl rfl (Qab (u := v49) Qk8 z0 rfl)<|.q 4 rfl<|.o (QE ud32 z0)<|.o (QbQ z0 .k)<|.p (T := Qam.ty (QT.mk (0:Int) (IntKind.i64.wrap ((t44.length : Int) - (1:Int))))) rfl (Qji (R := rI) (us := [(0:Int),(IntKind.i64.wrap ((t44.length : Int) - (1:Int)))]) ud82 tok3 zv82 rfl (.cons .k<|.cons z0<|.nil _))<|.o (Qy (R := Qam) (us := [(QT.mk (0:Int) (IntKind.i64.wrap ((t44.length : Int) - (1:Int))))]) ud79 Qds (.cons z0<|.nil _) rfl (leb rfl))<|.e [] [5] [8] rfl rfl rfl rfl (Qag (R := Qam) ud79 Qds (leb rfl) z5 z0 hu82)<|.u [6] rfl rfl (Qu Qcm z9)<|.e [8] [6] [9] rfl rfl rfl rfl (QaX (R := Qam) (e := 82) (Ts := ([tv (.string (sB ([108,105,102,101] : Str))),tsl rS t44,tvs v49])) (off := 2) Qk8 z0 z1 (leb rfl))<|.n) fun n17 a w H => ?_
     have H := H.to [7,10,12,13,14,15] [_,_,_,_,_,_] [_,_,_,_,_,_,_,_] rfl rfl
     obtain rfl := sj h
     exact hJp52 (n17 7) _ _ (H.pick [1,2,3,4,5])
    refine wp_skip ?_
    obtain rfl := sj h
    exact hJp52 v49 _ _ ((H.pick [1,3,4,5,6]).selA [0,1,2,3,4,7,5,6] rfl)
   replace h := hp47
   clear hp47
   refine wi H h (fun b99 h => ?_) (fun b99 h => ?_)
   ·have ⟨u70,hu70,h⟩ := bs h
    refine wr mx [v1 4 (fun v0 => own Qam 82 (p43 ++ [(QT.mk (1:Int) (0:Int))]) v0),v1 4 (fun v0 => box ([tv (.string (sB ([108,105,102,101] : Str))),tsl rS t44,tvs v0]) (n9 2))] H (fun _ => .u [6] rfl rfl (Qu Qcm z1)<|.u [6] rfl rfl (Qab (u := v44) Qk8 z0 rfl)<|.p (T := Qam.ty (QT.mk (1:Int) (0:Int))) rfl (Qji (R := rI) (us := [(1:Int),(0:Int)]) ud82 tok3 zv82 rfl (.cons .k<|.cons .k<|.nil _))<|.o (Qy (R := Qam) (us := [(QT.mk (1:Int) (0:Int))]) ud79 Qds (.cons z0<|.nil _) rfl (leb rfl))<|.e [] [0] [8] rfl rfl rfl rfl (Qag (R := Qam) ud79 Qds (leb rfl) z2 z0 hu70)<|.u [6] rfl rfl (Qu Qcm z6)<|.e [8] [6] [9] rfl rfl rfl rfl (QaX (R := Qam) (e := 82) (Ts := ([tv (.string (sB ([108,105,102,101] : Str))),tsl rS t44,tvs v44])) (off := 2) Qk8 z0 z1 (leb rfl))<|.n) fun n15 a w H => ?_
    have H := H.to [4,7,8,9,10,11,12] [_,_,_,_,_,_,_] [_,_,_,_,_,_,_,_] rfl rfl
    obtain rfl := sj h
    exact hJp47 (n15 4) _ _ (H.pick [1,2,3,4,5,6])
   refine wp_skip ?_
   obtain rfl := sj h
   exact hJp47 v44 _ _ ((H.pick [1,2,3,4,5,6]).selA [1,2,3,4,5,7,0,6] rfl)
  refine wp_block ?_
  refine QR _ (fun (s32 : Int × List QT) a w => ∃ v38 : Value,St M w0 119 [(9,ti s32.1),(8,tv (n9 2)),(7,tsl rS t44),(5,ti (IntKind.i64.wrap ((1:Int) + t24.1))),(4,tv (n2 3)),(3,tv (n1 6)),(2,tv (n0 0))] [own Qam 82 s32.2 v38,own Qt 84 ([] : List Qn) nilV,own Qz 81 ([] : List Qo) nilV,own Qk 55 p24.1 v25,box (Qg.cs zz4) (n0 0),box ([ti t21.1,tvs v25,tvs nilV,tvs nilV]) (n2 3),box (Qw.cs t42.2) (n1 6),box ([tv (.string (sB ([108,105,102,101] : Str))),tsl rS t44,tvs v38]) (n9 2)] a w) _ _ he33 ⟨nilV,H.pick [0,1,2,3,4,5,6]⟩ ?_
  clear h
  intro s32 o a w K100 hI h ho k100
  obtain ⟨v38,H⟩ := hI
  refine wp_seq_k (fun _ k101 => ?_)
  refine sr mx [] H (fun _ => .q 0 rfl<|.o (QQ z0 .k)<|.q 4 rfl<|.o (QE ud32 z0)<|.o (QG z2 z0)<|.n) fun _ a w H => ?_
  have H := H.to [4,5,6,7,8,9,10,11] [_,_,_,_,_,_,_,_] [_,_,_,_,_,_,_,_] rfl rfl
  refine wi H h (fun b104 h => ?_) (fun b104 h => ?_)
  ·refine wp_skip (k101 _ _ ?_)
   refine wp_seq_k (fun _ k103 => ?_)
   refine wp_block ?_
   have ⟨u61,hu61,h⟩ := bs h
   refine wr mx [v1 7 (fun v0 => own Qam 82 (s32.2 ++ [(QT.mk s32.1 (IntKind.i64.wrap (s32.1 + (1:Int))))]) v0),v1 7 (fun v0 => box ([tv (.string (sB ([108,105,102,101] : Str))),tsl rS t44,tvs v0]) (n9 2))] H (fun _ => .u [7] rfl rfl (Qu Qcm z2)<|.u [7] rfl rfl (Qab (u := v38) Qk8 z0 rfl)<|.q 3 rfl<|.q 4 rfl<|.o (QQ z0 .k)<|.p (T := Qam.ty (QT.mk s32.1 (IntKind.i64.wrap (s32.1 + (1:Int))))) rfl (Qji (R := rI) (us := [s32.1,(IntKind.i64.wrap (s32.1 + (1:Int)))]) ud82 tok3 zv82 rfl (.cons z2<|.cons z0<|.nil _))<|.o (Qy (R := Qam) (us := [(QT.mk s32.1 (IntKind.i64.wrap (s32.1 + (1:Int))))]) ud79 Qds (.cons z0<|.nil _) rfl (leb rfl))<|.e [] [0] [8] rfl rfl rfl rfl (Qag (R := Qam) ud79 Qds (leb rfl) z5 z0 hu61)<|.u [7] rfl rfl (Qu Qcm z10)<|.e [8] [7] [9] rfl rfl rfl rfl (QaX (R := Qam) (e := 82) (Ts := ([tv (.string (sB ([108,105,102,101] : Str))),tsl rS t44,tvs v38])) (off := 2) Qk8 z0 z1 (leb rfl))<|.n) fun n13 a w H => ?_
   have H := H.to [7,10,11,12,13,14,15,16] [_,_,_,_,_,_,_,_] [_,_,_,_,_,_,_,_] rfl rfl
   refine k103 _ _ ?_
   refine wr mx [] H (fun _ => .q 1 rfl<|.o (QQ z0 .k)<|.o (Qa z0)<|.n) fun _ a w H => ?_
   have H := H.to [2,3,4,5,6,7,8,9] [_,_,_,_,_,_,_,_] [_,_,_,_,_,_,_,_] rfl rfl
   exact k100 _ _ _ (sj h).symm ⟨(n13 7),(H.pick [0,2,3,4,5,6,7]).selA [6,0,1,2,3,4,5,7] rfl⟩
  refine wp_exit ?_
  exact hJp43 _ v38 _ _ (ho _ (sj h).symm) (H.pick [2,3,4,5,6,7])
 refine wp_block ?_
 refine QR _ (fun (s13 : Int × List Qj × QK) a w => ∃ v19 : Value,St M w0 119 [(6,ti s13.1),(5,ti (IntKind.i64.wrap ((1:Int) + t24.1))),(4,tv (n2 3)),(3,tv (n1 6)),(2,tv (n0 0))] [own Qt 84 ([] : List Qn) nilV,own Qz 81 ([] : List Qo) nilV,own Qk 55 s13.2.1 v19,box (Qg.cs zz4) (n0 0),box ([ti t21.1,tvs v19,tvs nilV,tvs nilV]) (n2 3),box (Qw.cs s13.2.2) (n1 6)] a w) _ _ he14 ⟨nilV,H.pick [0,1,2,3,4]⟩ ?_
 clear h
 intro s13 o a w K105 hI h ho k105
 obtain ⟨v19,H⟩ := hI
 refine wp_seq_k (fun _ k106 => ?_)
 refine sr mx [] H (fun _ => .q 0 rfl<|.q 2 rfl<|.o (QG z1 z0)<|.n) fun _ a w H => ?_
 have H := H.to [2,3,4,5,6,7] [_,_,_,_,_,_] [_,_,_,_,_,_] rfl rfl
 refine wi H h (fun b109 h => ?_) (fun b109 h => ?_)
 ·refine wp_skip (k106 _ _ ?_)
  refine wp_seq_k (fun _ k108 => ?_)
  refine wp_block ?_
  have ⟨t36,ht36,h⟩ := bs h
  have ⟨u38,hu38,h⟩ := bs h
  refine wr mx [v0 (box (Qw.cs t36.2.1) (n1 6)),v0 (own Qk 55 t36.2.2 v19),v1 7 (fun v0 => own Qk 55 (t36.2.2 ++ [t36.1]) v0),v1 7 (fun v0 => box ([ti t21.1,tvs v0,tvs nilV,tvs nilV]) (n2 3))] H (fun _ => .u [4] rfl rfl (Qu Q9 z3)<|.u [4] rfl rfl (Qab (u := v19) Qeo z0 rfl)<|.q 6 rfl<|.u [4] rfl rfl (Qu Q9 z6)<|.u [4] rfl rfl (Qab (u := v19) Qeo z0 rfl)<|.e [] [5,2] [6,7] rfl rfl rfl rfl (Qf call33 (Ql1 ht36) (.cons (.of z2)<|.cons (.of z0)<|.nil))<|.o (Qy (R := Qk) (us := [t36.1]) ud23 QZ (.cons z0<|.nil _) rfl (leb rfl))<|.e [] [7] [8] rfl rfl rfl rfl (Qag (R := Qk) ud23 QZ (leb rfl) z5 z0 hu38)<|.u [4] rfl rfl (Qu Q9 z11)<|.e [8] [4] [9] rfl rfl rfl rfl (QaX (R := Qk) (e := 55) (Ts := ([ti t21.1,tvs v19,tvs nilV,tvs nilV])) (off := 1) Qeo z0 z1 (leb rfl))<|.n) fun n7 a w H => ?_
  have H := H.to [7,10,11,12,13,14] [_,_,_,_,_,_] [_,_,_,_,_,_] rfl rfl
  refine k108 _ _ ?_
  refine wr mx [] H (fun _ => .q 1 rfl<|.o (QQ z0 .k)<|.o (Qa z0)<|.n) fun _ a w H => ?_
  have H := H.to [2,3,4,5,6,7] [_,_,_,_,_,_] [_,_,_,_,_,_] rfl rfl
  exact k105 _ _ _ (sj h).symm ⟨(n7 7),(H.pick [0,2,3,4,5]).selA [0,1,4,2,5,3] rfl⟩
 refine wp_exit ?_
 exact hJp24 _ v19 _ _ (ho _ (sj h).symm) (H.pick [2,3,4,5])

/- diorama/dioramaref09.spoiltField -/
noncomputable def Qdw (f_ : Qc) (how_ : Int) (by_ : Int) : Option (Qc) := (Qah how_ (8:Int)).bind fun t8 => ((if (t8 == (0:Int)) = true then (Qah by_ (11:Int)).bind fun t17 => (some (Qc.mk (f_).Name (f_).Of (f_).Up (IntKind.i64.wrap (t17 - (1:Int))) (f_).Lo (f_).Hi (f_).Words (f_).Weights)) else ((if (t8 == (1:Int)) = true then (Qah by_ (8:Int)).bind fun t24 => (idx [([] : Str),([105,100] : Str),([111,102] : Str),([111,116,104,101,114] : Str),([85,112,112,101,114] : Str),([49,97] : Str),([116,104,105,114,116,101,101,110,98,121,116,101,115] : Str),([97,45,98] : Str)] t24).bind fun t25 => (some (Qc.mk t25 (f_).Of (f_).Up (f_).Kind (f_).Lo (f_).Hi (f_).Words (f_).Weights)) else ((if (t8 == (2:Int)) = true then (Qah by_ (9:Int)).bind fun t32 => (idx [([] : Str),([105,100] : Str),([111,102] : Str),([112,101,114,115,111,110] : Str),([111,114,100,101,114] : Str),([108,105,102,101] : Str),([116,111,116,97,108] : Str),([98,111,114,110] : Str),([115,105,122,101] : Str)] t32).bind fun t33 => (some (Qc.mk (f_).Name t33 (f_).Up (f_).Kind (f_).Lo (f_).Hi (f_).Words (f_).Weights)) else ((if (t8 == (3:Int)) = true then (Qah by_ (5:Int)).bind fun t40 => (idx [([] : Str),([111,102] : Str),([98,121] : Str),([105,100] : Str),([63] : Str)] t40).bind fun t41 => (some (Qc.mk (f_).Name (f_).Of t41 (f_).Kind (f_).Lo (f_).Hi (f_).Words (f_).Weights)) else ((if (t8 == (4:Int)) = true then (Qah by_ (6:Int)).bind fun t51 => (idx [(IntKind.i64.wrap ((f_).Lo - (1:Int))),(0:Int),(5:Int),(-1048576:Int),(-1048577:Int),(33:Int)] t51).bind fun t52 => (some (Qc.mk (f_).Name (f_).Of (f_).Up (f_).Kind t52 (f_).Hi (f_).Words (f_).Weights)) else ((if (t8 == (5:Int)) = true then (Qah by_ (8:Int)).bind fun t62 => (idx [(IntKind.i64.wrap ((f_).Hi + (1:Int))),(0:Int),(32:Int),(33:Int),(65536:Int),(65537:Int),(1048576:Int),(1048577:Int)] t62).bind fun t63 => (some (Qc.mk (f_).Name (f_).Of (f_).Up (f_).Kind (f_).Lo t63 (f_).Words (f_).Weights)) else ((if (t8 == (6:Int)) = true then (rm (([] : List Str).length + (f_).Words.length)).bind fun _ => (Qah by_ (3:Int)).bind fun t74 => (idx [([109,111,114,101] : Str),([114,101,100] : Str),([] : Str)] t74).bind fun t75 => (rm ((([] : List Str) ++ (f_).Words).length + [t75].length)).bind fun _ => (rm (([] : List Int).length + (f_).Weights.length)).bind fun _ => (Qah (IntKind.i64.wrap (Int.tdiv by_ (3:Int))) (5:Int)).bind fun t87 => (idx [(1:Int),(0:Int),(-1:Int),(1048576:Int),(1048577:Int)] t87).bind fun t88 => (rm ((([] : List Int) ++ (f_).Weights).length + [t88].length)).bind fun _ => (some (Qc.mk (f_).Name (f_).Of (f_).Up (f_).Kind (f_).Lo (f_).Hi ((([] : List Str) ++ (f_).Words) ++ [t75]) ((([] : List Int) ++ (f_).Weights) ++ [t88]))) else (mk ((f_).Words.length : Int) (0:Int)).bind fun t12 => (some (Qc.mk (f_).Name (f_).Of (f_).Up (f_).Kind (f_).Lo (f_).Hi (f_).Words t12)))).bind fun (p884 : Qc) => (some p884))).bind fun (p871 : Qc) => (some p871))).bind fun (p844 : Qc) => (some p844))).bind fun (p789 : Qc) => (some p789))).bind fun (p678 : Qc) => (some p678))).bind fun (p455 : Qc) => (some p455))).bind fun (p7 : Qc) => (some p7)
theorem QlG {f_ : Qc} {how_ : Int} {by_ : Int} {r : Qc} (h : Qdw f_ how_ by_ = some r) : FnOk Tryz.prog 35 [Qb.ty f_,ti how_,ti by_] [] (fun _ => []) (fun _ => Qb.ty r) := by
 unfold Qdw at h
 refine fe Tryz.func35 Tryz.ntmps35 fun M0 M w0 a hpl H => ?_
 replace H : St M w0 94 [(0,Qb.ty f_),(1,ti how_),(2,ti by_)] [] a w0 := H
 refine sr mx [v1 0 (fun v0 => box (Qb.cs f_) v0),v1 1 (fun v0 => box (Qb.cs zz0) v0)] H (fun _ => .m [] [0] rfl rfl rfl (QnC (R := Qb) (u := f_) z0)<|.m [] [1] rfl rfl rfl (Q0 (R := Qb) (a := zz0) QI Qcy)<|.n) fun n0 a w H => ?_
 have H := H.to [0,1,3,4] [_,_,_,_] [_,_] rfl rfl
 refine wp_seq_k (fun K4 k4 => ?_)
 have ⟨t8,ht8,h⟩ := bs h
 refine sr mx [] H (fun _ => .q 2 rfl<|.o (Qf QbK (Qal ht8) (.cons (.of z0)<|.cons (.of .k)<|.nil))<|.n) fun _ a w H => ?_
 have H := H.to [1,2,3,5] [_,_,_,_] [_,_] rfl rfl
 refine wp_block ?_
 refine sr mx [] H (fun _ => .o (QM z0 .k)<|.o (Qa z0)<|.n) fun _ a w H => ?_
 have H := H.to [1,2,3,4,5] [_,_,_,_,_] [_,_] rfl rfl
 have ⟨p7,hp7,h⟩ := bs h
 have hJp7 : ∀ a w,St M w0 94 [(3,tv (n0 0)),(6,tv (n0 1))] [box (Qb.cs zz0) (n0 1),box (Qb.cs p7) (n0 0)] a w → K4 a w := by
  intro a w H
  refine k4 _ _ ?_
  refine sr mx [v0 (box (Qb.cs p7) (n0 1))] H (fun _ => .u [1] rfl rfl (QdN (R := Qb) (u := p7) QI z0 rfl)<|.e [] [0] [2] rfl rfl rfl rfl (QS (R := Qb) (a := p7) QI z2 z0 (leb rfl))<|.n) fun _ a w H => ?_
  replace H : St _ _ _ [_] [_] _ _ := (H.pick [2]).selA [1] rfl
  refine wp_ret ?_
  obtain rfl := sj h
  exact rt undef [] hpl H (.cell (R := Qb) (u := p7) QI z0 0 rfl rfl .nil)
 replace h := hp7
 clear hp7
 refine wi H h (fun b898 h => ?_) (fun b898 h => ?_)
 ·have ⟨t17,ht17,h⟩ := bs h
  refine wr mx [v0 (box (Qb.cs (Qc.mk (f_).Name (f_).Of (f_).Up (IntKind.i64.wrap (t17 - (1:Int))) (f_).Lo (f_).Hi (f_).Words (f_).Weights)) (n0 0))] H (fun _ => .q 4 rfl<|.o (Qf QbK (Qal ht17) (.cons (.of z0)<|.cons (.of .k)<|.nil))<|.o (QbQ z0 .k)<|.u [0] rfl rfl (Qu Qao z5)<|.e [] [0] [2] rfl rfl rfl rfl (Qaq (R := rI) (a := (IntKind.i64.wrap (t17 - (1:Int)))) (Ts := (Qb.cs f_)) (off := 3) tok3 z0 z1 (leb rfl))<|.n) fun _ a w H => ?_
  have H := H.to [6,7] [_,_] [_,_] rfl rfl
  obtain rfl := sj h
  exact hJp7 _ _ (H.pick [0,1])
 refine sr mx [] H (fun _ => .o (QM z1 .k)<|.o (Qa z0)<|.n) fun _ a w H => ?_
 have H := H.to [1,3,4,5,6] [_,_,_,_,_] [_,_] rfl rfl
 have ⟨p455,hp455,h⟩ := bs h
 have hJp455 : ∀ a w,St M w0 94 [(3,tv (n0 0)),(6,tv (n0 1))] [box (Qb.cs zz0) (n0 1),box (Qb.cs p455) (n0 0)] a w → K4 a w := by
  intro a w H
  obtain rfl := sj h
  exact hJp7 _ _ (H.pick [0,1])
 replace h := hp455
 clear hp455
 refine wi H h (fun b897 h => ?_) (fun b897 h => ?_)
 ·have ⟨t24,ht24,h⟩ := bs h
  have ⟨t25,ht25,h⟩ := bs h
  refine wr mx [v0 (box (Qb.cs (Qc.mk t25 (f_).Of (f_).Up (f_).Kind (f_).Lo (f_).Hi (f_).Words (f_).Weights)) (n0 0))] H (fun _ => .o (Qy (R := rS) (us := [([] : Str),([105,100] : Str),([111,102] : Str),([111,116,104,101,114] : Str),([85,112,112,101,114] : Str),([49,97] : Str),([116,104,105,114,116,101,101,110,98,121,116,101,115] : Str),([97,45,98] : Str)]) ud32 tok9 (.cons .k<|.cons .k<|.cons .k<|.cons .k<|.cons .k<|.cons .k<|.cons .k<|.cons .k<|.nil _) rfl (leb rfl))<|.q 5 rfl<|.o (Qf QbK (Qal ht24) (.cons (.of z0)<|.cons (.of .k)<|.nil))<|.o (Qr ud32 tok9 z2 z0 ht25)<|.o (Qm tok9 z0)<|.u [0] rfl rfl (Qu Qbd z7)<|.e [] [0] [2] rfl rfl rfl rfl (Qaq (R := rS) (a := t25) (Ts := (Qb.cs f_)) (off := 0) tok9 z0 z1 (leb rfl))<|.n) fun _ a w H => ?_
  have H := H.to [8,9] [_,_] [_,_] rfl rfl
  obtain rfl := sj h
  exact hJp455 _ _ (H.pick [0,1])
 refine sr mx [] H (fun _ => .o (QM z1 .k)<|.o (Qa z0)<|.n) fun _ a w H => ?_
 have H := H.to [1,3,4,5,6] [_,_,_,_,_] [_,_] rfl rfl
 have ⟨p678,hp678,h⟩ := bs h
 have hJp678 : ∀ a w,St M w0 94 [(3,tv (n0 0)),(6,tv (n0 1))] [box (Qb.cs zz0) (n0 1),box (Qb.cs p678) (n0 0)] a w → K4 a w := by
  intro a w H
  obtain rfl := sj h
  exact hJp455 _ _ (H.pick [0,1])
 replace h := hp678
 clear hp678
 refine wi H h (fun b896 h => ?_) (fun b896 h => ?_)
 ·have ⟨t32,ht32,h⟩ := bs h
  have ⟨t33,ht33,h⟩ := bs h
  refine wr mx [v0 (box (Qb.cs (Qc.mk (f_).Name t33 (f_).Up (f_).Kind (f_).Lo (f_).Hi (f_).Words (f_).Weights)) (n0 0))] H (fun _ => .o (Qy (R := rS) (us := [([] : Str),([105,100] : Str),([111,102] : Str),([112,101,114,115,111,110] : Str),([111,114,100,101,114] : Str),([108,105,102,101] : Str),([116,111,116,97,108] : Str),([98,111,114,110] : Str),([115,105,122,101] : Str)]) ud32 tok9 (.cons .k<|.cons .k<|.cons .k<|.cons .k<|.cons .k<|.cons .k<|.cons .k<|.cons .k<|.cons .k<|.nil _) rfl (leb rfl))<|.q 5 rfl<|.o (Qf QbK (Qal ht32) (.cons (.of z0)<|.cons (.of .k)<|.nil))<|.o (Qr ud32 tok9 z2 z0 ht33)<|.o (Qm tok9 z0)<|.u [0] rfl rfl (Qu Qas z7)<|.e [] [0] [2] rfl rfl rfl rfl (Qaq (R := rS) (a := t33) (Ts := (Qb.cs f_)) (off := 1) tok9 z0 z1 (leb rfl))<|.n) fun _ a w H => ?_
  have H := H.to [8,9] [_,_] [_,_] rfl rfl
  obtain rfl := sj h
  exact hJp678 _ _ (H.pick [0,1])
 refine sr mx [] H (fun _ => .o (QM z1 .k)<|.o (Qa z0)<|.n) fun _ a w H => ?_
 have H := H.to [1,3,4,5,6] [_,_,_,_,_] [_,_] rfl rfl
 have ⟨p789,hp789,h⟩ := bs h
 have hJp789 : ∀ a w,St M w0 94 [(3,tv (n0 0)),(6,tv (n0 1))] [box (Qb.cs zz0) (n0 1),box (Qb.cs p789) (n0 0)] a w → K4 a w := by
  intro a w H
  obtain rfl := sj h
  exact hJp678 _ _ (H.pick [0,1])
 replace h := hp789
 clear hp789
 refine wi H h (fun b895 h => ?_) (fun b895 h => ?_)
 ·have ⟨t40,ht40,h⟩ := bs h
  have ⟨t41,ht41,h⟩ := bs h
  refine wr mx [v0 (box (Qb.cs (Qc.mk (f_).Name (f_).Of t41 (f_).Kind (f_).Lo (f_).Hi (f_).Words (f_).Weights)) (n0 0))] H (fun _ => .o (Qy (R := rS) (us := [([] : Str),([111,102] : Str),([98,121] : Str),([105,100] : Str),([63] : Str)]) ud32 tok9 (.cons .k<|.cons .k<|.cons .k<|.cons .k<|.cons .k<|.nil _) rfl (leb rfl))<|.q 5 rfl<|.o (Qf QbK (Qal ht40) (.cons (.of z0)<|.cons (.of .k)<|.nil))<|.o (Qr ud32 tok9 z2 z0 ht41)<|.o (Qm tok9 z0)<|.u [0] rfl rfl (Qu Qda z7)<|.e [] [0] [2] rfl rfl rfl rfl (Qaq (R := rS) (a := t41) (Ts := (Qb.cs f_)) (off := 2) tok9 z0 z1 (leb rfl))<|.n) fun _ a w H => ?_
  have H := H.to [8,9] [_,_] [_,_] rfl rfl
  obtain rfl := sj h
  exact hJp789 _ _ (H.pick [0,1])
 refine sr mx [] H (fun _ => .o (QM z1 .k)<|.o (Qa z0)<|.n) fun _ a w H => ?_
 have H := H.to [1,3,4,5,6] [_,_,_,_,_] [_,_] rfl rfl
 have ⟨p844,hp844,h⟩ := bs h
 have hJp844 : ∀ a w,St M w0 94 [(3,tv (n0 0)),(6,tv (n0 1))] [box (Qb.cs zz0) (n0 1),box (Qb.cs p844) (n0 0)] a w → K4 a w := by
  intro a w H
  obtain rfl := sj h
  exact hJp789 _ _ (H.pick [0,1])
 replace h := hp844
 clear hp844
 refine wi H h (fun b894 h => ?_) (fun b894 h => ?_)
 ·have ⟨t51,ht51,h⟩ := bs h
  have ⟨t52,ht52,h⟩ := bs h
  refine wr mx [v0 (box (Qb.cs (Qc.mk (f_).Name (f_).Of (f_).Up (f_).Kind t52 (f_).Hi (f_).Words (f_).Weights)) (n0 0))] H (fun _ => .u [0] rfl rfl (Qu QaE z2)<|.u [0] rfl rfl (Qav (R := rI) (u := (f_).Lo) tok3 z0 rfl)<|.o (QbQ z0 .k)<|.o (Qy (R := rI) (us := [(IntKind.i64.wrap ((f_).Lo - (1:Int))),(0:Int),(5:Int),(-1048576:Int),(-1048577:Int),(33:Int)]) ud22 tok3 (.cons z0<|.cons .k<|.cons .k<|.cons .k<|.cons .k<|.cons .k<|.nil _) rfl (leb rfl))<|.q 8 rfl<|.o (Qf QbK (Qal ht51) (.cons (.of z0)<|.cons (.of .k)<|.nil))<|.o (Qr ud22 tok3 z2 z0 ht52)<|.o (Qm tok3 z0)<|.u [0] rfl rfl (Qu QaE z10)<|.e [] [0] [2] rfl rfl rfl rfl (Qaq (R := rI) (a := t52) (Ts := (Qb.cs f_)) (off := 4) tok3 z0 z1 (leb rfl))<|.n) fun _ a w H => ?_
  have H := H.to [11,12] [_,_] [_,_] rfl rfl
  obtain rfl := sj h
  exact hJp844 _ _ (H.pick [0,1])
 refine sr mx [] H (fun _ => .o (QM z1 .k)<|.o (Qa z0)<|.n) fun _ a w H => ?_
 have H := H.to [1,3,4,5,6] [_,_,_,_,_] [_,_] rfl rfl
 have ⟨p871,hp871,h⟩ := bs h
 have hJp871 : ∀ a w,St M w0 94 [(3,tv (n0 0)),(6,tv (n0 1))] [box (Qb.cs zz0) (n0 1),box (Qb.cs p871) (n0 0)] a w → K4 a w := by
  intro a w H
  obtain rfl := sj h
  exact hJp844 _ _ (H.pick [0,1])
 replace h := hp871
 clear hp871
 refine wi H h (fun b893 h => ?_) (fun b893 h => ?_)
 ·have ⟨t62,ht62,h⟩ := bs h
  have ⟨t63,ht63,h⟩ := bs h
  refine wr mx [v0 (box (Qb.cs (Qc.mk (f_).Name (f_).Of (f_).Up (f_).Kind (f_).Lo t63 (f_).Words (f_).Weights)) (n0 0))] H (fun _ => .u [0] rfl rfl (Qu QaV z2)<|.u [0] rfl rfl (Qav (R := rI) (u := (f_).Hi) tok3 z0 rfl)<|.o (QQ z0 .k)<|.o (Qy (R := rI) (us := [(IntKind.i64.wrap ((f_).Hi + (1:Int))),(0:Int),(32:Int),(33:Int),(65536:Int),(65537:Int),(1048576:Int),(1048577:Int)]) ud22 tok3 (.cons z0<|.cons .k<|.cons .k<|.cons .k<|.cons .k<|.cons .k<|.cons .k<|.cons .k<|.nil _) rfl (leb rfl))<|.q 8 rfl<|.o (Qf QbK (Qal ht62) (.cons (.of z0)<|.cons (.of .k)<|.nil))<|.o (Qr ud22 tok3 z2 z0 ht63)<|.o (Qm tok3 z0)<|.u [0] rfl rfl (Qu QaV z10)<|.e [] [0] [2] rfl rfl rfl rfl (Qaq (R := rI) (a := t63) (Ts := (Qb.cs f_)) (off := 5) tok3 z0 z1 (leb rfl))<|.n) fun _ a w H => ?_
  have H := H.to [11,12] [_,_] [_,_] rfl rfl
  obtain rfl := sj h
  exact hJp871 _ _ (H.pick [0,1])
 refine sr mx [] H (fun _ => .o (QM z1 .k)<|.o (Qa z0)<|.n) fun _ a w H => ?_
 have H := H.to [1,4,5,6] [_,_,_,_] [_,_] rfl rfl
 have ⟨p884,hp884,h⟩ := bs h
 have hJp884 : ∀ a w,St M w0 94 [(3,tv (n0 0)),(6,tv (n0 1))] [box (Qb.cs zz0) (n0 1),box (Qb.cs p884) (n0 0)] a w → K4 a w := by
  intro a w H
  obtain rfl := sj h
  exact hJp871 _ _ (H.pick [0,1])
 replace h := hp884
 clear hp884
 refine wi H h (fun b892 h => ?_) (fun b892 h => ?_)
 ·refine wp_seq_k (fun _ k889 => ?_)
  have ⟨u71,hu71,h⟩ := bs h
  have ⟨t74,ht74,h⟩ := bs h
  have ⟨t75,ht75,h⟩ := bs h
  have ⟨u78,hu78,h⟩ := bs h
  refine wr mx [v1 0 (fun v0 => own rS 9 ([] : List Str) v0),v1 3 (fun v0 => own rS 9 (([] : List Str) ++ (f_).Words) v0),v0 (box (Qb.cs (Qc.mk (f_).Name (f_).Of (f_).Up (f_).Kind (f_).Lo (f_).Hi ((([] : List Str) ++ (f_).Words) ++ [t75]) (f_).Weights)) (n0 0))] H (fun _ => .m [] [2] rfl rfl rfl (Qb3 (R := rS) (us := ([] : List Str)) ud32 tok9 (.nil _) rfl (leb rfl) (leb rfl))<|.u [0] rfl rfl (Qu QcM z2)<|.u [0] rfl rfl (Qav (R := (rSl rS)) (u := (f_).Words) Qbx z0 rfl)<|.e [] [2] [3] rfl rfl rfl rfl (Qag (R := rS) ud32 tok9 (leb rfl) z2 z0 hu71)<|.o (Qy (R := rS) (us := [([109,111,114,101] : Str),([114,101,100] : Str),([] : Str)]) ud32 tok9 (.cons .k<|.cons .k<|.cons .k<|.nil _) rfl (leb rfl))<|.q 8 rfl<|.o (Qf QbK (Qal ht74) (.cons (.of z0)<|.cons (.of .k)<|.nil))<|.o (Qr ud32 tok9 z2 z0 ht75)<|.o (Qm tok9 z0)<|.o (Qy (R := rS) (us := [t75]) ud32 tok9 (.cons z0<|.nil _) rfl (leb rfl))<|.e [] [3] [] rfl rfl rfl rfl (.roE (Qag (R := rS) ud32 tok9 (leb rfl) z6 z0 hu78))<|.u [0] rfl rfl (Qu QcM z12)<|.e [] [0] [4] rfl rfl rfl rfl (Qaq (R := (rSl rS)) (a := ((([] : List Str) ++ (f_).Words) ++ [t75])) (Ts := (Qb.cs f_)) (off := 6) Qbx z0 z1 (leb rfl))<|.n) fun _ a w H => ?_
  have H := H.to [13,14,15] [_,_,_] [_,_] rfl rfl
  refine k889 _ _ ?_
  have ⟨u83,hu83,h⟩ := bs h
  have ⟨t87,ht87,h⟩ := bs h
  have ⟨t88,ht88,h⟩ := bs h
  have ⟨u91,hu91,h⟩ := bs h
  refine wr mx [v1 0 (fun v0 => own rI 3 ([] : List Int) v0),v1 3 (fun v0 => own rI 3 (([] : List Int) ++ (f_).Weights) v0),v0 (box (Qb.cs (Qc.mk (f_).Name (f_).Of (f_).Up (f_).Kind (f_).Lo (f_).Hi ((([] : List Str) ++ (f_).Words) ++ [t75]) ((([] : List Int) ++ (f_).Weights) ++ [t88]))) (n0 0))] H (fun _ => .m [] [2] rfl rfl rfl (Qb3 (R := rI) (us := ([] : List Int)) ud22 tok3 (.nil _) rfl (leb rfl) (leb rfl))<|.u [1] rfl rfl (Qu Qcl z1)<|.u [1] rfl rfl (Qav (R := (rSl rI)) (u := (f_).Weights) Qdc z0 rfl)<|.e [] [2] [3] rfl rfl rfl rfl (Qag (R := rI) ud22 tok3 (leb rfl) z2 z0 hu83)<|.o (Qy (R := rI) (us := [(1:Int),(0:Int),(-1:Int),(1048576:Int),(1048577:Int)]) ud22 tok3 (.cons .k<|.cons .k<|.cons .k<|.cons .k<|.cons .k<|.nil _) rfl (leb rfl))<|.q 7 rfl<|.o (Qjt z0 .k (by decide))<|.o (Qf QbK (Qal ht87) (.cons (.of z0)<|.cons (.of .k)<|.nil))<|.o (Qr ud22 tok3 z3 z0 ht88)<|.o (Qm tok3 z0)<|.o (Qy (R := rI) (us := [t88]) ud22 tok3 (.cons z0<|.nil _) rfl (leb rfl))<|.e [] [3] [] rfl rfl rfl rfl (.roE (Qag (R := rI) ud22 tok3 (leb rfl) z7 z0 hu91))<|.u [1] rfl rfl (Qu Qcl z12)<|.e [] [1] [4] rfl rfl rfl rfl (Qaq (R := (rSl rI)) (a := ((([] : List Int) ++ (f_).Weights) ++ [t88])) (Ts := (Qb.cs (Qc.mk (f_).Name (f_).Of (f_).Up (f_).Kind (f_).Lo (f_).Hi ((([] : List Str) ++ (f_).Words) ++ [t75]) (f_).Weights))) (off := 7) Qdc z0 z1 (leb rfl))<|.n) fun _ a w H => ?_
  have H := H.to [13,14] [_,_] [_,_] rfl rfl
  obtain rfl := sj h
  exact hJp884 _ _ (H.pick [0,1])
 have ⟨t12,ht12,h⟩ := bs h
 refine wr mx [v0 (box (Qb.cs (Qc.mk (f_).Name (f_).Of (f_).Up (f_).Kind (f_).Lo (f_).Hi (f_).Words t12)) (n0 0))] H (fun _ => .u [0] rfl rfl (Qu QcM z1)<|.u [0] rfl rfl (Qav (R := (rSl rS)) (u := (f_).Words) Qbx z0 rfl)<|.o (QE ud32 z0)<|.o (QtA (R := rI) ud22 tok3 zok3 (leb rfl) z0 z0 ht12)<|.u [0] rfl rfl (Qu Qcl z5)<|.e [] [0] [2] rfl rfl rfl rfl (Qaq (R := (rSl rI)) (a := t12) (Ts := (Qb.cs f_)) (off := 7) Qdc z0 z1 (leb rfl))<|.n) fun _ a w H => ?_
 have H := H.to [6,7] [_,_] [_,_] rfl rfl
 obtain rfl := sj h
 exact hJp884 _ _ (H.pick [0,1])

/- diorama/dioramaref09.Spoilt -/
noncomputable def Qgf (x_ : Qh) (at_ : Int) (how_ : Int) (by_ : Int) : Option (Qh) := (rm (([] : List Qj).length + (x_).Kinds.length)).bind fun _ => (rm (([] : List Qo).length + (x_).Lives.length)).bind fun _ => (rm (([] : List Qn).length + (x_).Rules.length)).bind fun _ => (Qah at_ ((([] : List Qj) ++ (x_).Kinds).length : Int)).bind fun t31 => (Qah how_ (8:Int)).bind fun t33 => ((if (t33 == (0:Int)) = true then (Qah by_ (4:Int)).bind fun t80 => (idx [(IntKind.i64.wrap ((x_).Version + (1:Int))),(-1:Int),(1048576:Int),(1048577:Int)] t80).bind fun t81 => (some ((([] : List Qj) ++ (x_).Kinds),(([] : List Qo) ++ (x_).Lives),(([] : List Qn) ++ (x_).Rules),t81)) else ((if (t33 == (1:Int)) = true then ((if (decide (t31 < ((([] : List Qj) ++ (x_).Kinds).length : Int))) = true then (Qah by_ (4:Int)).bind fun t96 => (idx [([112,101,114,115,111,110] : Str),([] : Str),([111,116,104,101,114] : Str),([97,32,98] : Str)] t96).bind fun t97 => (idx (([] : List Qj) ++ (x_).Kinds) t31).bind fun t99 => (setAt (([] : List Qj) ++ (x_).Kinds) t31 { t99 with Name := t97 }).bind fun t99s => (some t99s) else (some (([] : List Qj) ++ (x_).Kinds)))).bind fun (p3169 : List Qj) => (some ((([] : List Qo) ++ (x_).Lives),(([] : List Qn) ++ (x_).Rules),p3169)) else ((if (t33 == (2:Int)) = true then ((if (decide (t31 < ((([] : List Qj) ++ (x_).Kinds).length : Int))) = true then (Qah by_ (4:Int)).bind fun t113 => (idx [(0:Int),(5:Int),(-1:Int),(65537:Int)] t113).bind fun t114 => (idx (([] : List Qj) ++ (x_).Kinds) t31).bind fun t116 => (setAt (([] : List Qj) ++ (x_).Kinds) t31 { t116 with Lo := t114 }).bind fun t116s => (some t116s) else (some (([] : List Qj) ++ (x_).Kinds)))).bind fun (p3696 : List Qj) => (some ((([] : List Qo) ++ (x_).Lives),(([] : List Qn) ++ (x_).Rules),p3696)) else ((if (t33 == (3:Int)) = true then ((if (decide (t31 < ((([] : List Qj) ++ (x_).Kinds).length : Int))) = true then (Qah by_ (4:Int)).bind fun t130 => (idx [(0:Int),(5:Int),(65536:Int),(65537:Int)] t130).bind fun t131 => (idx (([] : List Qj) ++ (x_).Kinds) t31).bind fun t133 => (setAt (([] : List Qj) ++ (x_).Kinds) t31 { t133 with Hi := t131 }).bind fun t133s => (some t133s) else (some (([] : List Qj) ++ (x_).Kinds)))).bind fun (p3959 : List Qj) => (some ((([] : List Qo) ++ (x_).Lives),(([] : List Qn) ++ (x_).Rules),p3959)) else ((if (t33 == (4:Int)) = true then ((if (decide (((([] : List Qo) ++ (x_).Lives).length : Int) > (0:Int))) = true then (idx (([] : List Qo) ++ (x_).Lives) (0:Int)).bind fun t146 => (rm (([] : List QT).length + (t146).Moves.length)).bind fun _ => (Qah by_ (6:Int)).bind fun t151 => (Qah (IntKind.i64.wrap (Int.tdiv by_ (6:Int))) (6:Int)).bind fun t155 => (rm ((([] : List QT) ++ (t146).Moves).length + [(QT.mk (IntKind.i64.wrap (t151 - (1:Int))) (IntKind.i64.wrap (t155 - (1:Int))))].length)).bind fun _ => (idx (([] : List Qo) ++ (x_).Lives) (0:Int)).bind fun t160 => (setAt (([] : List Qo) ++ (x_).Lives) (0:Int) { t160 with Moves := ((([] : List QT) ++ (t146).Moves) ++ [(QT.mk (IntKind.i64.wrap (t151 - (1:Int))) (IntKind.i64.wrap (t155 - (1:Int))))]) }).bind fun t160s => (some t160s) else (some (([] : List Qo) ++ (x_).Lives)))).bind fun (p4090 : List Qo) => (some ((([] : List Qj) ++ (x_).Kinds),(([] : List Qn) ++ (x_).Rules),p4090)) else ((if (t33 == (5:Int)) = true then (Qah by_ (4:Int)).bind fun t168 => (idx [([112,101,114,115,111,110] : Str),([111,114,100,101,114] : Str),([110,111,110,101] : Str),([] : Str)] t168).bind fun t169 => (Qah (IntKind.i64.wrap (Int.tdiv by_ (4:Int))) (5:Int)).bind fun t174 => (idx [([115,105,122,101] : Str),([108,111,119] : Str),([] : Str),([105,100] : Str),([98,111,114,110] : Str)] t174).bind fun t175 => (Qah (IntKind.i64.wrap (Int.tdiv by_ (20:Int))) (5:Int)).bind fun t180 => (idx [([104,105,103,104] : Str),([] : Str),([115,105,122,101] : Str),([108,101,102,116] : Str),([116,97,103] : Str)] t180).bind fun t181 => (Qah by_ (50:Int)).bind fun t184 => (rm ((([] : List Qn) ++ (x_).Rules).length + [(Qn.mk ([102,117,114,116,104,101,114] : Str) t169 t175 t181 (IntKind.i64.wrap (t184 - (20:Int))))].length)).bind fun _ => (some ((([] : List Qj) ++ (x_).Kinds),(([] : List Qo) ++ (x_).Lives),((([] : List Qn) ++ (x_).Rules) ++ [(Qn.mk ([102,117,114,116,104,101,114] : Str) t169 t175 t181 (IntKind.i64.wrap (t184 - (20:Int))))]))) else ((if (t33 == (6:Int)) = true then ((if (decide (((([] : List Qo) ++ (x_).Lives).length : Int) > (0:Int))) = true then (idx (([] : List Qo) ++ (x_).Lives) (0:Int)).bind fun t201 => (rm (([] : List Str).length + (t201).States.length)).bind fun _ => (Qah by_ (3:Int)).bind fun t207 => (idx [([109,111,114,101] : Str),([110,101,119] : Str),([63] : Str)] t207).bind fun t208 => (rm ((([] : List Str) ++ (t201).States).length + [t208].length)).bind fun _ => (idx (([] : List Qo) ++ (x_).Lives) (0:Int)).bind fun t212 => (setAt (([] : List Qo) ++ (x_).Lives) (0:Int) { t212 with States := ((([] : List Str) ++ (t201).States) ++ [t208]) }).bind fun t212s => (some t212s) else (some (([] : List Qo) ++ (x_).Lives)))).bind fun (p4185 : List Qo) => (some ((([] : List Qj) ++ (x_).Kinds),p4185)) else ((if (decide (t31 < ((([] : List Qj) ++ (x_).Kinds).length : Int))) = true then (idx (([] : List Qj) ++ (x_).Kinds) t31).bind fun t43 => (rm (([] : List Qc).length + (t43).Fields.length)).bind fun _ => (Qah (IntKind.i64.wrap (Int.tdiv at_ (3:Int))) ((([] : List Qc) ++ (t43).Fields).length : Int)).bind fun t51 => ((if (decide (t51 < ((([] : List Qc) ++ (t43).Fields).length : Int))) = true then (idx (([] : List Qc) ++ (t43).Fields) t51).bind fun t60 => (Qdw t60 (IntKind.i64.wrap (Int.tdiv how_ (8:Int))) by_).bind fun t65 => (setAt (([] : List Qc) ++ (t43).Fields) t51 t65).bind fun t66s => (some t66s) else (some (([] : List Qc) ++ (t43).Fields)))).bind fun (p4206 : List Qc) => (idx (([] : List Qj) ++ (x_).Kinds) t31).bind fun t71 => (setAt (([] : List Qj) ++ (x_).Kinds) t31 { t71 with Fields := p4206 }).bind fun t71s => (some t71s) else (some (([] : List Qj) ++ (x_).Kinds)))).bind fun (p4191 : List Qj) => (some (p4191,(([] : List Qo) ++ (x_).Lives))))).bind fun (p4156 : List Qj × List Qo) => (some (p4156.1,p4156.2,(([] : List Qn) ++ (x_).Rules))))).bind fun (p4096 : List Qj × List Qo × List Qn) => (some (p4096.1,p4096.2.2,p4096.2.1)))).bind fun (p3963 : List Qj × List Qn × List Qo) => (some (p3963.2.2,p3963.2.1,p3963.1)))).bind fun (p3700 : List Qo × List Qn × List Qj) => (some (p3700.1,p3700.2.1,p3700.2.2)))).bind fun (p3173 : List Qo × List Qn × List Qj) => (some (p3173.1,p3173.2.1,p3173.2.2)))).bind fun (p2118 : List Qo × List Qn × List Qj) => (some (p2118.2.2,p2118.1,p2118.2.1,(x_).Version)))).bind fun (p14 : List Qj × List Qo × List Qn × Int) => (some (Qh.mk p14.2.2.2 p14.1 p14.2.1 p14.2.2.1))
theorem Qn6 {x_ : Qh} {at_ : Int} {how_ : Int} {by_ : Int} {r : Qh} (h : Qgf x_ at_ how_ by_ = some r) : FnOk Tryz.prog 11 [Qg.ty x_,ti at_,ti how_,ti by_] [] (fun _ => []) (fun _ => Qg.ty r) := by
 unfold Qgf at h
 refine fe Tryz.func11 Tryz.ntmps11 fun M0 M w0 a hpl H => ?_
 replace H : St M w0 215 [(0,Qg.ty x_),(1,ti at_),(2,ti how_),(3,ti by_)] [] a w0 := H
 refine sr mx [v1 0 (fun v0 => box (Qg.cs x_) v0),v1 1 (fun v0 => box (Qg.cs zz4) v0)] H (fun _ => .m [] [0] rfl rfl rfl (QnC (R := Qg) (u := x_) z0)<|.m [] [1] rfl rfl rfl (Q0 (R := Qg) (a := zz4) Qar QnT)<|.n) fun n0 a w H => ?_
 have H := H.to [0,1,3,4,5] [_,_,_,_,_] [_,_] rfl rfl
 refine wp_seq_k (fun _ k4 => ?_)
 have ⟨u15,hu15,h⟩ := bs h
 refine wr mx [v1 0 (fun v0 => own Qk 55 ([] : List Qj) v0),v1 3 (fun v0 => own Qk 55 (([] : List Qj) ++ (x_).Kinds) v0),v1 3 (fun v0 => box ([ti (x_).Version,tvs v0,tsl Qz (x_).Lives,tsl Qt (x_).Rules]) (n0 0))] H (fun _ => .m [] [2] rfl rfl rfl (Qb3 (R := Qk) (us := ([] : List Qj)) ud23 QZ (.nil _) rfl (leb rfl) (leb rfl))<|.u [0] rfl rfl (Qu Q9 z1)<|.u [0] rfl rfl (Qav (R := (rSl Qk)) (u := (x_).Kinds) QaF z0 rfl)<|.e [] [2] [3] rfl rfl rfl rfl (Qag (R := Qk) ud23 QZ (leb rfl) z2 z0 hu15)<|.u [0] rfl rfl (Qu Q9 z4)<|.e [3] [0] [4] rfl rfl rfl rfl (QaX (R := Qk) (e := 55) (Ts := (Qg.cs x_)) (off := 1) Qeo z0 z1 (leb rfl))<|.n) fun n1 a w H => ?_
 have H := H.to [3,5,6,7,8,9] [_,_,_,_,_,_] [_,_,_] rfl rfl
 refine k4 _ _ ?_
 refine wp_seq_k (fun _ k6 => ?_)
 have ⟨u20,hu20,h⟩ := bs h
 refine wr mx [v1 0 (fun v0 => own Qz 81 ([] : List Qo) v0),v1 3 (fun v0 => own Qz 81 (([] : List Qo) ++ (x_).Lives) v0),v1 3 (fun v0 => box ([ti (x_).Version,tvs (n1 3),tvs v0,tsl Qt (x_).Rules]) (n0 0))] H (fun _ => .m [] [3] rfl rfl rfl (Qb3 (R := Qz) (us := ([] : List Qo)) ud24 Qby (.nil _) rfl (leb rfl) (leb rfl))<|.u [2] rfl rfl (Qu Qbc z2)<|.u [2] rfl rfl (Qav (R := (rSl Qz)) (u := (x_).Lives) QeH z0 rfl)<|.e [] [3] [4] rfl rfl rfl rfl (Qag (R := Qz) ud24 Qby (leb rfl) z2 z0 hu20)<|.u [2] rfl rfl (Qu Qbc z5)<|.e [4] [2] [5] rfl rfl rfl rfl (QaX (R := Qz) (e := 81) (Ts := ([ti (x_).Version,tvs (n1 3),tsl Qz (x_).Lives,tsl Qt (x_).Rules])) (off := 2) Qil z0 z1 (leb rfl))<|.n) fun n2 a w H => ?_
 have H := H.to [3,5,6,7,8,9,10] [_,_,_,_,_,_,_] [_,_,_,_] rfl rfl
 refine k6 _ _ ?_
 refine wp_seq_k (fun _ k8 => ?_)
 have ⟨u25,hu25,h⟩ := bs h
 refine wr mx [v1 0 (fun v0 => own Qt 84 ([] : List Qn) v0),v1 3 (fun v0 => own Qt 84 (([] : List Qn) ++ (x_).Rules) v0),v1 3 (fun v0 => box ([ti (x_).Version,tvs (n1 3),tvs (n2 3),tvs v0]) (n0 0))] H (fun _ => .m [] [4] rfl rfl rfl (Qb3 (R := Qt) (us := ([] : List Qn)) ud25 QaU (.nil _) rfl (leb rfl) (leb rfl))<|.u [3] rfl rfl (Qu QbH z3)<|.u [3] rfl rfl (Qav (R := (rSl Qt)) (u := (x_).Rules) Qfp z0 rfl)<|.e [] [4] [5] rfl rfl rfl rfl (Qag (R := Qt) ud25 QaU (leb rfl) z2 z0 hu25)<|.u [3] rfl rfl (Qu QbH z6)<|.e [5] [3] [6] rfl rfl rfl rfl (QaX (R := Qt) (e := 84) (Ts := ([ti (x_).Version,tvs (n1 3),tvs (n2 3),tsl Qt (x_).Rules])) (off := 3) Qk7 z0 z1 (leb rfl))<|.n) fun n3 a w H => ?_
 have H := H.to [3,5,6,7,8,9,10,11] [_,_,_,_,_,_,_,_] [_,_,_,_,_] rfl rfl
 refine k8 _ _ ?_
 have ⟨t31,ht31,h⟩ := bs h
 refine sr mx [] H (fun _ => .q 5 rfl<|.u [4] rfl rfl (Qu Q9 z4)<|.u [4] rfl rfl (Qab (u := (n1 3)) Qeo z0 rfl)<|.u [1] rfl rfl (QeT ud23 z0)<|.o (Qf QbK (Qal ht31) (.cons (.of z3)<|.cons (.of z0)<|.nil))<|.o (Qa z0)<|.n) fun _ a w H => ?_
 have H := H.to [2,5,6,7,8,9,10,11,12,13] [_,_,_,_,_,_,_,_,_,_] [_,_,_,_,_] rfl rfl
 refine wp_seq_k (fun K11 k11 => ?_)
 have ⟨t33,ht33,h⟩ := bs h
 refine sr mx [] H (fun _ => .q 8 rfl<|.o (Qf QbK (Qal ht33) (.cons (.of z0)<|.cons (.of .k)<|.nil))<|.n) fun _ a w H => ?_
 have H := H.to [1,2,3,4,5,6,7,8,9,10,11] [_,_,_,_,_,_,_,_,_,_,_] [_,_,_,_,_] rfl rfl
 refine wp_block ?_
 refine sr mx [] H (fun _ => .o (QM z0 .k)<|.o (Qa z0)<|.n) fun _ a w H => ?_
 have H := H.to [1,2,3,4,5,6,7,8,9,10,11,12] [_,_,_,_,_,_,_,_,_,_,_,_] [_,_,_,_,_] rfl rfl
 have ⟨p14,hp14,h⟩ := bs h
 have hJp14 : ∀ (v2115 : Value) a w,St M w0 215 [(4,tv (n0 0)),(8,tv (n0 1))] [box (Qg.cs zz4) (n0 1),own Qk 55 p14.1 (n1 3),own Qz 81 p14.2.1 (n2 3),own Qt 84 p14.2.2.1 v2115,box ([ti p14.2.2.2,tvs (n1 3),tvs (n2 3),tvs v2115]) (n0 0)] a w → K11 a w := by
  intro v2115 a w H
  refine k11 _ _ ?_
  refine wp_seq_k (fun _ k2116 => ?_)
  replace H : St _ _ _ [_,_] [_,_,_,_] _ _ := ((H.pick [0,1]).selA [1,4,0,2,3] rfl).shareC 1 rfl
  replace H : St _ _ _ [_,_] [_,_,_] _ _ := ((H.pick [0,1]).selA [2,0,1,3] rfl).shareC 2 rfl
  replace H : St _ _ _ [_,_] [_,_] _ _ := ((H.pick [0,1]).selA [2,0,1] rfl).shareC 3 rfl
  refine wr mx [v0 (box (Qg.cs (Qh.mk p14.2.2.2 p14.1 p14.2.1 p14.2.2.1)) (n0 1))] H (fun _ => .u [0] rfl rfl (QdN (R := Qg) (u := (Qh.mk p14.2.2.2 p14.1 p14.2.1 p14.2.2.1)) Qar z0 rfl)<|.e [] [1] [2] rfl rfl rfl rfl (QS (R := Qg) (a := (Qh.mk p14.2.2.2 p14.1 p14.2.1 p14.2.2.1)) Qar z2 z0 (leb rfl))<|.n) fun _ a w H => ?_
  replace H : St _ _ _ [_] [_] _ _ := (H.pick [2]).selA [1] rfl
  refine k2116 _ _ ?_
  refine wp_ret ?_
  obtain rfl := sj h
  exact rt undef [] hpl H (.cell (R := Qg) (u := (Qh.mk p14.2.2.2 p14.1 p14.2.1 p14.2.2.1)) Qar z0 0 rfl rfl .nil)
 replace h := hp14
 clear hp14
 refine wi H h (fun b4216 h => ?_) (fun b4216 h => ?_)
 ·have ⟨t80,ht80,h⟩ := bs h
  have ⟨t81,ht81,h⟩ := bs h
  refine wr mx [v0 (box ([ti t81,tvs (n1 3),tvs (n2 3),tvs (n3 3)]) (n0 0))] H (fun _ => .u [4] rfl rfl (Qu Qkb z7)<|.u [4] rfl rfl (Qav (R := rI) (u := (x_).Version) tok3 z0 rfl)<|.o (QQ z0 .k)<|.o (Qy (R := rI) (us := [(IntKind.i64.wrap ((x_).Version + (1:Int))),(-1:Int),(1048576:Int),(1048577:Int)]) ud22 tok3 (.cons z0<|.cons .k<|.cons .k<|.cons .k<|.nil _) rfl (leb rfl))<|.q 15 rfl<|.o (Qf QbK (Qal ht80) (.cons (.of z0)<|.cons (.of .k)<|.nil))<|.o (Qr ud22 tok3 z2 z0 ht81)<|.o (Qm tok3 z0)<|.u [4] rfl rfl (Qu Qkb z15)<|.e [] [4] [5] rfl rfl rfl rfl (Qaq (R := rI) (a := t81) (Ts := ([ti (x_).Version,tvs (n1 3),tvs (n2 3),tvs (n3 3)])) (off := 0) tok3 z0 z1 (leb rfl))<|.n) fun _ a w H => ?_
  have H := H.to [11,13,14,15,16,17] [_,_,_,_,_,_] [_,_,_,_,_] rfl rfl
  obtain rfl := sj h
  exact hJp14 (n3 3) _ _ (H.pick [4,5])
 refine sr mx [] H (fun _ => .o (QM z1 .k)<|.o (Qa z0)<|.n) fun _ a w H => ?_
 have H := H.to [1,3,4,5,6,7,8,9,10,11,12,13] [_,_,_,_,_,_,_,_,_,_,_,_] [_,_,_,_,_] rfl rfl
 have ⟨p2118,hp2118,h⟩ := bs h
 have hJp2118 : ∀ (v3167 : Value) a w,St M w0 215 [(4,tv (n0 0)),(8,tv (n0 1))] [box (Qg.cs zz4) (n0 1),own Qz 81 p2118.1 (n2 3),own Qt 84 p2118.2.1 v3167,box ([ti (x_).Version,tvs (n1 3),tvs (n2 3),tvs v3167]) (n0 0),own Qk 55 p2118.2.2 (n1 3)] a w → K11 a w := by
  intro v3167 a w H
  obtain rfl := sj h
  exact hJp14 v3167 _ _ ((H.pick [0,1]).selA [0,4,1,2,3] rfl)
 replace h := hp2118
 clear hp2118
 refine wi H h (fun b4215 h => ?_) (fun b4215 h => ?_)
 ·refine sr mx [] H (fun _ => .q 3 rfl<|.u [4] rfl rfl (Qu Q9 z8)<|.u [4] rfl rfl (Qab (u := (n1 3)) Qeo z0 rfl)<|.u [1] rfl rfl (QeT ud23 z0)<|.o (QG z3 z0)<|.n) fun _ a w H => ?_
  have H := H.to [2,4,7,8,9,10,11,12,13,16] [_,_,_,_,_,_,_,_,_,_] [_,_,_,_,_] rfl rfl
  have ⟨p3169,hp3169,h⟩ := bs h
  have hJp3169 : ∀ a w,St M w0 215 [(4,tv (n0 0)),(8,tv (n0 1))] [box (Qg.cs zz4) (n0 1),own Qz 81 (([] : List Qo) ++ (x_).Lives) (n2 3),own Qt 84 (([] : List Qn) ++ (x_).Rules) (n3 3),box ([ti (x_).Version,tvs (n1 3),tvs (n2 3),tvs (n3 3)]) (n0 0),own Qk 55 p3169 (n1 3)] a w → K11 a w := by
   intro a w H
   obtain rfl := sj h
   exact hJp2118 (n3 3) _ _ (H.pick [0,1])
  replace h := hp3169
  clear hp3169
  refine Qgs 1 H rfl (fun b3171 => ?_) (fun b3171 => ?_)
  ·replace h := Qha b3171 h
   have ⟨t96,ht96,h⟩ := bs h
   have ⟨t97,ht97,h⟩ := bs h
   have ⟨t99,ht99,h⟩ := bs h
   have ⟨t99s,ht99s,h⟩ := bs h
   refine wr mx [v0 (own Qk 55 t99s (n1 3))] H (fun _ => .u [4] rfl rfl (Qu Q9 z7)<|.u [4] rfl rfl (Qab (u := (n1 3)) Qeo z0 rfl)<|.q 5 rfl<|.o (Qy (R := rS) (us := [([112,101,114,115,111,110] : Str),([] : Str),([111,116,104,101,114] : Str),([97,32,98] : Str)]) ud32 tok9 (.cons .k<|.cons .k<|.cons .k<|.cons .k<|.nil _) rfl (leb rfl))<|.q 13 rfl<|.o (Qf QbK (Qal ht96) (.cons (.of z0)<|.cons (.of .k)<|.nil))<|.o (Qr ud32 tok9 z2 z0 ht97)<|.o (Qm tok9 z0)<|.u [1] rfl rfl (Qa1 ud23 QZ z6 z5 ht99)<|.u [1] rfl rfl (QbR Qbo z0 (Qem ht99))<|.e [] [1] [5] rfl rfl rfl rfl (QfQ (u := { t99 with Name := t97 }) tok9 z0 z2 ht99 ht99s (leb rfl) rfl)<|.n) fun _ a w H => ?_
   have H := H.to [1,10,12,14,15,16,17,18] [_,_,_,_,_,_,_,_] [_,_,_,_,_] rfl rfl
   obtain rfl := sj h
   exact hJp3169 _ _ (H.pick [6,7])
  replace h := Qhb b3171 h
  refine wp_skip ?_
  obtain rfl := sj h
  exact hJp3169 _ _ ((H.pick [7,8]).selA [0,2,3,4,1] rfl)
 refine sr mx [] H (fun _ => .o (QM z1 .k)<|.o (Qa z0)<|.n) fun _ a w H => ?_
 have H := H.to [1,3,4,5,6,7,8,9,10,11,12,13] [_,_,_,_,_,_,_,_,_,_,_,_] [_,_,_,_,_] rfl rfl
 have ⟨p3173,hp3173,h⟩ := bs h
 have hJp3173 : ∀ (v3694 : Value) a w,St M w0 215 [(4,tv (n0 0)),(8,tv (n0 1))] [box (Qg.cs zz4) (n0 1),own Qz 81 p3173.1 (n2 3),own Qt 84 p3173.2.1 v3694,box ([ti (x_).Version,tvs (n1 3),tvs (n2 3),tvs v3694]) (n0 0),own Qk 55 p3173.2.2 (n1 3)] a w → K11 a w := by
  intro v3694 a w H
  obtain rfl := sj h
  exact hJp2118 v3694 _ _ (H.pick [0,1])
 replace h := hp3173
 clear hp3173
 refine wi H h (fun b4214 h => ?_) (fun b4214 h => ?_)
 ·refine sr mx [] H (fun _ => .q 3 rfl<|.u [4] rfl rfl (Qu Q9 z8)<|.u [4] rfl rfl (Qab (u := (n1 3)) Qeo z0 rfl)<|.u [1] rfl rfl (QeT ud23 z0)<|.o (QG z3 z0)<|.n) fun _ a w H => ?_
  have H := H.to [2,4,7,8,9,10,11,12,13,16] [_,_,_,_,_,_,_,_,_,_] [_,_,_,_,_] rfl rfl
  have ⟨p3696,hp3696,h⟩ := bs h
  have hJp3696 : ∀ a w,St M w0 215 [(4,tv (n0 0)),(8,tv (n0 1))] [box (Qg.cs zz4) (n0 1),own Qz 81 (([] : List Qo) ++ (x_).Lives) (n2 3),own Qt 84 (([] : List Qn) ++ (x_).Rules) (n3 3),box ([ti (x_).Version,tvs (n1 3),tvs (n2 3),tvs (n3 3)]) (n0 0),own Qk 55 p3696 (n1 3)] a w → K11 a w := by
   intro a w H
   obtain rfl := sj h
   exact hJp3173 (n3 3) _ _ (H.pick [0,1])
  replace h := hp3696
  clear hp3696
  refine Qgs 1 H rfl (fun b3698 => ?_) (fun b3698 => ?_)
  ·replace h := Qha b3698 h
   have ⟨t113,ht113,h⟩ := bs h
   have ⟨t114,ht114,h⟩ := bs h
   have ⟨t116,ht116,h⟩ := bs h
   have ⟨t116s,ht116s,h⟩ := bs h
   refine wr mx [v0 (own Qk 55 t116s (n1 3))] H (fun _ => .u [4] rfl rfl (Qu Q9 z7)<|.u [4] rfl rfl (Qab (u := (n1 3)) Qeo z0 rfl)<|.q 5 rfl<|.o (Qy (R := rI) (us := [(0:Int),(5:Int),(-1:Int),(65537:Int)]) ud22 tok3 (.cons .k<|.cons .k<|.cons .k<|.cons .k<|.nil _) rfl (leb rfl))<|.q 13 rfl<|.o (Qf QbK (Qal ht113) (.cons (.of z0)<|.cons (.of .k)<|.nil))<|.o (Qr ud22 tok3 z2 z0 ht114)<|.o (Qm tok3 z0)<|.u [1] rfl rfl (Qa1 ud23 QZ z6 z5 ht116)<|.u [1] rfl rfl (QbR QhZ z0 (Qem ht116))<|.e [] [1] [5] rfl rfl rfl rfl (QfQ (u := { t116 with Lo := t114 }) tok3 z0 z2 ht116 ht116s (leb rfl) rfl)<|.n) fun _ a w H => ?_
   have H := H.to [1,10,12,14,15,16,17,18] [_,_,_,_,_,_,_,_] [_,_,_,_,_] rfl rfl
   obtain rfl := sj h
   exact hJp3696 _ _ (H.pick [6,7])
  replace h := Qhb b3698 h
  refine wp_skip ?_
  obtain rfl := sj h
  exact hJp3696 _ _ ((H.pick [7,8]).selA [0,2,3,4,1] rfl)
 refine sr mx [] H (fun _ => .o (QM z1 .k)<|.o (Qa z0)<|.n) fun _ a w H => ?_
 have H := H.to [1,3,4,5,6,7,8,9,10,11,12,13] [_,_,_,_,_,_,_,_,_,_,_,_] [_,_,_,_,_] rfl rfl
 have ⟨p3700,hp3700,h⟩ := bs h
 have hJp3700 : ∀ (v3957 : Value) a w,St M w0 215 [(4,tv (n0 0)),(8,tv (n0 1))] [box (Qg.cs zz4) (n0 1),own Qz 81 p3700.1 (n2 3),own Qt 84 p3700.2.1 v3957,box ([ti (x_).Version,tvs (n1 3),tvs (n2 3),tvs v3957]) (n0 0),own Qk 55 p3700.2.2 (n1 3)] a w → K11 a w := by
  intro v3957 a w H
  obtain rfl := sj h
  exact hJp3173 v3957 _ _ (H.pick [0,1])
 replace h := hp3700
 clear hp3700
 refine wi H h (fun b4213 h => ?_) (fun b4213 h => ?_)
 ·refine sr mx [] H (fun _ => .q 3 rfl<|.u [4] rfl rfl (Qu Q9 z8)<|.u [4] rfl rfl (Qab (u := (n1 3)) Qeo z0 rfl)<|.u [1] rfl rfl (QeT ud23 z0)<|.o (QG z3 z0)<|.n) fun _ a w H => ?_
  have H := H.to [2,4,7,8,9,10,11,12,13,16] [_,_,_,_,_,_,_,_,_,_] [_,_,_,_,_] rfl rfl
  have ⟨p3959,hp3959,h⟩ := bs h
  have hJp3959 : ∀ a w,St M w0 215 [(4,tv (n0 0)),(8,tv (n0 1))] [box (Qg.cs zz4) (n0 1),own Qz 81 (([] : List Qo) ++ (x_).Lives) (n2 3),own Qt 84 (([] : List Qn) ++ (x_).Rules) (n3 3),box ([ti (x_).Version,tvs (n1 3),tvs (n2 3),tvs (n3 3)]) (n0 0),own Qk 55 p3959 (n1 3)] a w → K11 a w := by
   intro a w H
   obtain rfl := sj h
   exact hJp3700 (n3 3) _ _ (H.pick [0,1])
  replace h := hp3959
  clear hp3959
  refine Qgs 1 H rfl (fun b3961 => ?_) (fun b3961 => ?_)
  ·replace h := Qha b3961 h
   have ⟨t130,ht130,h⟩ := bs h
   have ⟨t131,ht131,h⟩ := bs h
   have ⟨t133,ht133,h⟩ := bs h
   have ⟨t133s,ht133s,h⟩ := bs h
   refine wr mx [v0 (own Qk 55 t133s (n1 3))] H (fun _ => .u [4] rfl rfl (Qu Q9 z7)<|.u [4] rfl rfl (Qab (u := (n1 3)) Qeo z0 rfl)<|.q 5 rfl<|.o (Qy (R := rI) (us := [(0:Int),(5:Int),(65536:Int),(65537:Int)]) ud22 tok3 (.cons .k<|.cons .k<|.cons .k<|.cons .k<|.nil _) rfl (leb rfl))<|.q 13 rfl<|.o (Qf QbK (Qal ht130) (.cons (.of z0)<|.cons (.of .k)<|.nil))<|.o (Qr ud22 tok3 z2 z0 ht131)<|.o (Qm tok3 z0)<|.u [1] rfl rfl (Qa1 ud23 QZ z6 z5 ht133)<|.u [1] rfl rfl (QbR Qh0 z0 (Qem ht133))<|.e [] [1] [5] rfl rfl rfl rfl (QfQ (u := { t133 with Hi := t131 }) tok3 z0 z2 ht133 ht133s (leb rfl) rfl)<|.n) fun _ a w H => ?_
   have H := H.to [1,10,12,14,15,16,17,18] [_,_,_,_,_,_,_,_] [_,_,_,_,_] rfl rfl
   obtain rfl := sj h
   exact hJp3959 _ _ (H.pick [6,7])
  replace h := Qhb b3961 h
  refine wp_skip ?_
  obtain rfl := sj h
  exact hJp3959 _ _ ((H.pick [7,8]).selA [0,2,3,4,1] rfl)
 refine sr mx [] H (fun _ => .o (QM z1 .k)<|.o (Qa z0)<|.n) fun _ a w H => ?_
 have H := H.to [1,3,4,5,6,7,8,9,10,11,12,13] [_,_,_,_,_,_,_,_,_,_,_,_] [_,_,_,_,_] rfl rfl
 have ⟨p3963,hp3963,h⟩ := bs h
 have hJp3963 : ∀ (v4088 : Value) a w,St M w0 215 [(4,tv (n0 0)),(8,tv (n0 1))] [box (Qg.cs zz4) (n0 1),own Qk 55 p3963.1 (n1 3),own Qt 84 p3963.2.1 v4088,box ([ti (x_).Version,tvs (n1 3),tvs (n2 3),tvs v4088]) (n0 0),own Qz 81 p3963.2.2 (n2 3)] a w → K11 a w := by
  intro v4088 a w H
  obtain rfl := sj h
  exact hJp3700 v4088 _ _ ((H.pick [0,1]).selA [0,4,2,3,1] rfl)
 replace h := hp3963
 clear hp3963
 refine wi H h (fun b4212 h => ?_) (fun b4212 h => ?_)
 ·refine sr mx [] H (fun _ => .u [4] rfl rfl (Qu Qbc z7)<|.u [4] rfl rfl (Qab (u := (n2 3)) Qil z0 rfl)<|.u [2] rfl rfl (QeT ud24 z0)<|.o (Qa0 z0 .k)<|.n) fun _ a w H => ?_
  have H := H.to [1,3,6,8,9,10,11,12,15] [_,_,_,_,_,_,_,_,_] [_,_,_,_,_] rfl rfl
  have ⟨p4090,hp4090,h⟩ := bs h
  have hJp4090 : ∀ a w,St M w0 215 [(4,tv (n0 0)),(8,tv (n0 1))] [box (Qg.cs zz4) (n0 1),own Qk 55 (([] : List Qj) ++ (x_).Kinds) (n1 3),own Qt 84 (([] : List Qn) ++ (x_).Rules) (n3 3),box ([ti (x_).Version,tvs (n1 3),tvs (n2 3),tvs (n3 3)]) (n0 0),own Qz 81 p4090 (n2 3)] a w → K11 a w := by
   intro a w H
   obtain rfl := sj h
   exact hJp3963 (n3 3) _ _ (H.pick [0,1])
  replace h := hp4090
  clear hp4090
  refine Qgs 1 H rfl (fun b4094 => ?_) (fun b4094 => ?_)
  ·replace h := Qha b4094 h
   have ⟨t146,ht146,h⟩ := bs h
   have ⟨u149,hu149,h⟩ := bs h
   have ⟨t151,ht151,h⟩ := bs h
   have ⟨t155,ht155,h⟩ := bs h
   have ⟨u159,hu159,h⟩ := bs h
   have ⟨t160,ht160,h⟩ := bs h
   have ⟨t160s,ht160s,h⟩ := bs h
   refine wr mx [v1 2 (fun v0 => own Qam 82 ([] : List QT) v0),v1 8 (fun v0 => own Qam 82 (([] : List QT) ++ (t146).Moves) v0),v0 (own Qz 81 t160s (n2 3))] H (fun _ => .u [4] rfl rfl (Qu Qbc z6)<|.u [4] rfl rfl (Qab (u := (n2 3)) Qil z0 rfl)<|.m [] [5] rfl rfl rfl (Qb3 (R := Qam) (us := ([] : List QT)) ud79 Qds (.nil _) rfl (leb rfl) (leb rfl))<|.u [4] rfl rfl (Qu Qbc z9)<|.u [4] rfl rfl (Qab (u := (n2 3)) Qil z0 rfl)<|.u [2] rfl rfl (Qa1 ud24 Qby z0 .k ht146)<|.u [2] rfl rfl (QbR Qcm z0 (Qem ht146))<|.u [2] rfl rfl (QfH (R2 := (rSl Qam)) (f := (t146).Moves) Qhc z0 ht146 rfl)<|.e [] [5] [6] rfl rfl rfl rfl (Qag (R := Qam) ud79 Qds (leb rfl) z5 z0 hu149)<|.q 17 rfl<|.o (Qf QbK (Qal ht151) (.cons (.of z0)<|.cons (.of .k)<|.nil))<|.o (QbQ z0 .k)<|.q 20 rfl<|.o (Qjt z0 .k (by decide))<|.o (Qf QbK (Qal ht155) (.cons (.of z0)<|.cons (.of .k)<|.nil))<|.o (QbQ z0 .k)<|.p (T := Qam.ty (QT.mk (IntKind.i64.wrap (t151 - (1:Int))) (IntKind.i64.wrap (t155 - (1:Int))))) rfl (Qji (R := rI) (us := [(IntKind.i64.wrap (t151 - (1:Int))),(IntKind.i64.wrap (t155 - (1:Int)))]) ud82 tok3 zv82 rfl (.cons z4<|.cons z0<|.nil _))<|.o (Qy (R := Qam) (us := [(QT.mk (IntKind.i64.wrap (t151 - (1:Int))) (IntKind.i64.wrap (t155 - (1:Int))))]) ud79 Qds (.cons z0<|.nil _) rfl (leb rfl))<|.e [] [6] [] rfl rfl rfl rfl (.roE (Qag (R := Qam) ud79 Qds (leb rfl) z9 z0 hu159))<|.u [2] rfl rfl (Qa1 ud24 Qby z17 .k ht160)<|.u [2] rfl rfl (QbR Qcm z0 (Qem ht160))<|.e [] [2] [7] rfl rfl rfl rfl (QfQ (u := { t160 with Moves := ((([] : List QT) ++ (t146).Moves) ++ [(QT.mk (IntKind.i64.wrap (t151 - (1:Int))) (IntKind.i64.wrap (t155 - (1:Int))))]) }) Qhc z0 z2 ht160 ht160s (leb rfl) rfl)<|.n) fun _ a w H => ?_
   have H := H.to [1,4,21,23,24,25,26,27,28] [_,_,_,_,_,_,_,_,_] [_,_,_,_,_] rfl rfl
   obtain rfl := sj h
   exact hJp4090 _ _ (H.pick [7,8])
  replace h := Qhb b4094 h
  refine wp_skip ?_
  obtain rfl := sj h
  exact hJp4090 _ _ ((H.pick [6,7]).selA [0,1,3,4,2] rfl)
 refine sr mx [] H (fun _ => .o (QM z1 .k)<|.o (Qa z0)<|.n) fun _ a w H => ?_
 have H := H.to [1,3,4,5,6,7,8,9,10,11,12,13] [_,_,_,_,_,_,_,_,_,_,_,_] [_,_,_,_,_] rfl rfl
 have ⟨p4096,hp4096,h⟩ := bs h
 have hJp4096 : ∀ (v4154 : Value) a w,St M w0 215 [(4,tv (n0 0)),(8,tv (n0 1))] [box (Qg.cs zz4) (n0 1),own Qk 55 p4096.1 (n1 3),own Qz 81 p4096.2.1 (n2 3),own Qt 84 p4096.2.2 v4154,box ([ti (x_).Version,tvs (n1 3),tvs (n2 3),tvs v4154]) (n0 0)] a w → K11 a w := by
  intro v4154 a w H
  obtain rfl := sj h
  exact hJp3963 v4154 _ _ ((H.pick [0,1]).selA [0,1,3,4,2] rfl)
 replace h := hp4096
 clear hp4096
 refine wi H h (fun b4211 h => ?_) (fun b4211 h => ?_)
 ·have ⟨t168,ht168,h⟩ := bs h
  have ⟨t169,ht169,h⟩ := bs h
  have ⟨t174,ht174,h⟩ := bs h
  have ⟨t175,ht175,h⟩ := bs h
  have ⟨t180,ht180,h⟩ := bs h
  have ⟨t181,ht181,h⟩ := bs h
  have ⟨t184,ht184,h⟩ := bs h
  have ⟨u188,hu188,h⟩ := bs h
  refine wr mx [v1 24 (fun v0 => own Qt 84 ((([] : List Qn) ++ (x_).Rules) ++ [(Qn.mk ([102,117,114,116,104,101,114] : Str) t169 t175 t181 (IntKind.i64.wrap (t184 - (20:Int))))]) v0),v1 24 (fun v0 => box ([ti (x_).Version,tvs (n1 3),tvs (n2 3),tvs v0]) (n0 0))] H (fun _ => .u [4] rfl rfl (Qu QbH z7)<|.u [4] rfl rfl (Qab (u := (n3 3)) Qk7 z0 rfl)<|.o (Qy (R := rS) (us := [([112,101,114,115,111,110] : Str),([111,114,100,101,114] : Str),([110,111,110,101] : Str),([] : Str)]) ud32 tok9 (.cons .k<|.cons .k<|.cons .k<|.cons .k<|.nil _) rfl (leb rfl))<|.q 14 rfl<|.o (Qf QbK (Qal ht168) (.cons (.of z0)<|.cons (.of .k)<|.nil))<|.o (Qr ud32 tok9 z2 z0 ht169)<|.o (Qm tok9 z0)<|.o (Qy (R := rS) (us := [([115,105,122,101] : Str),([108,111,119] : Str),([] : Str),([105,100] : Str),([98,111,114,110] : Str)]) ud32 tok9 (.cons .k<|.cons .k<|.cons .k<|.cons .k<|.cons .k<|.nil _) rfl (leb rfl))<|.q 19 rfl<|.o (Qjt z0 .k (by decide))<|.o (Qf QbK (Qal ht174) (.cons (.of z0)<|.cons (.of .k)<|.nil))<|.o (Qr ud32 tok9 z3 z0 ht175)<|.o (Qm tok9 z0)<|.o (Qy (R := rS) (us := [([104,105,103,104] : Str),([] : Str),([115,105,122,101] : Str),([108,101,102,116] : Str),([116,97,103] : Str)]) ud32 tok9 (.cons .k<|.cons .k<|.cons .k<|.cons .k<|.cons .k<|.nil _) rfl (leb rfl))<|.q 25 rfl<|.o (Qjt z0 .k (by decide))<|.o (Qf QbK (Qal ht180) (.cons (.of z0)<|.cons (.of .k)<|.nil))<|.o (Qr ud32 tok9 z3 z0 ht181)<|.o (Qm tok9 z0)<|.q 30 rfl<|.o (Qf QbK (Qal ht184) (.cons (.of z0)<|.cons (.of .k)<|.nil))<|.o (QbQ z0 .k)<|.p (T := Qt.ty (Qn.mk ([102,117,114,116,104,101,114] : Str) t169 t175 t181 (IntKind.i64.wrap (t184 - (20:Int))))) rfl (QY ud84 pl84 zv84 zc84 (.cons (R := rS) (u := ([102,117,114,116,104,101,114] : Str)) rfl .k (leb rfl)<|.cons (R := rS) (u := t169) rfl z15 (leb rfl)<|.cons (R := rS) (u := t175) rfl z9 (leb rfl)<|.cons (R := rS) (u := t181) rfl z3 (leb rfl)<|.cons (R := rI) (u := (IntKind.i64.wrap (t184 - (20:Int)))) rfl z0 (leb rfl)<|.nil _))<|.o (Qy (R := Qt) (us := [(Qn.mk ([102,117,114,116,104,101,114] : Str) t169 t175 t181 (IntKind.i64.wrap (t184 - (20:Int))))]) ud25 QaU (.cons z0<|.nil _) rfl (leb rfl))<|.e [] [3] [5] rfl rfl rfl rfl (Qag (R := Qt) ud25 QaU (leb rfl) z22 z0 hu188)<|.u [4] rfl rfl (Qu QbH (.t 32 rfl))<|.e [5] [4] [6] rfl rfl rfl rfl (QaX (R := Qt) (e := 84) (Ts := ([ti (x_).Version,tvs (n1 3),tvs (n2 3),tvs (n3 3)])) (off := 3) Qk7 z0 z1 (leb rfl))<|.n) fun n27 a w H => ?_
  have H := H.to [24,28,31,32,33,34] [_,_,_,_,_,_] [_,_,_,_,_] rfl rfl
  obtain rfl := sj h
  exact hJp4096 (n27 24) _ _ (H.pick [4,5])
 refine sr mx [] H (fun _ => .o (QM z1 .k)<|.o (Qa z0)<|.n) fun _ a w H => ?_
 have H := H.to [1,4,5,6,7,8,9,10,11,12,13] [_,_,_,_,_,_,_,_,_,_,_] [_,_,_,_,_] rfl rfl
 have ⟨p4156,hp4156,h⟩ := bs h
 have hJp4156 : ∀ a w,St M w0 215 [(4,tv (n0 0)),(8,tv (n0 1))] [box (Qg.cs zz4) (n0 1),own Qk 55 p4156.1 (n1 3),own Qt 84 (([] : List Qn) ++ (x_).Rules) (n3 3),box ([ti (x_).Version,tvs (n1 3),tvs (n2 3),tvs (n3 3)]) (n0 0),own Qz 81 p4156.2 (n2 3)] a w → K11 a w := by
  intro a w H
  obtain rfl := sj h
  exact hJp4096 (n3 3) _ _ ((H.pick [0,1]).selA [0,1,4,2,3] rfl)
 replace h := hp4156
 clear hp4156
 refine wi H h (fun b4210 h => ?_) (fun b4210 h => ?_)
 ·refine sr mx [] H (fun _ => .u [4] rfl rfl (Qu Qbc z6)<|.u [4] rfl rfl (Qab (u := (n2 3)) Qil z0 rfl)<|.u [2] rfl rfl (QeT ud24 z0)<|.o (Qa0 z0 .k)<|.n) fun _ a w H => ?_
  have H := H.to [1,3,5,7,8,9,10,11,14] [_,_,_,_,_,_,_,_,_] [_,_,_,_,_] rfl rfl
  have ⟨p4185,hp4185,h⟩ := bs h
  have hJp4185 : ∀ a w,St M w0 215 [(4,tv (n0 0)),(8,tv (n0 1))] [box (Qg.cs zz4) (n0 1),own Qk 55 (([] : List Qj) ++ (x_).Kinds) (n1 3),own Qt 84 (([] : List Qn) ++ (x_).Rules) (n3 3),box ([ti (x_).Version,tvs (n1 3),tvs (n2 3),tvs (n3 3)]) (n0 0),own Qz 81 p4185 (n2 3)] a w → K11 a w := by
   intro a w H
   obtain rfl := sj h
   exact hJp4156 _ _ (H.pick [0,1])
  replace h := hp4185
  clear hp4185
  refine Qgs 1 H rfl (fun b4189 => ?_) (fun b4189 => ?_)
  ·replace h := Qha b4189 h
   have ⟨t201,ht201,h⟩ := bs h
   have ⟨u204,hu204,h⟩ := bs h
   have ⟨t207,ht207,h⟩ := bs h
   have ⟨t208,ht208,h⟩ := bs h
   have ⟨u211,hu211,h⟩ := bs h
   have ⟨t212,ht212,h⟩ := bs h
   have ⟨t212s,ht212s,h⟩ := bs h
   refine wr mx [v1 2 (fun v0 => own rS 9 ([] : List Str) v0),v1 8 (fun v0 => own rS 9 (([] : List Str) ++ (t201).States) v0),v0 (own Qz 81 t212s (n2 3))] H (fun _ => .u [4] rfl rfl (Qu Qbc z6)<|.u [4] rfl rfl (Qab (u := (n2 3)) Qil z0 rfl)<|.m [] [5] rfl rfl rfl (Qb3 (R := rS) (us := ([] : List Str)) ud32 tok9 (.nil _) rfl (leb rfl) (leb rfl))<|.u [4] rfl rfl (Qu Qbc z9)<|.u [4] rfl rfl (Qab (u := (n2 3)) Qil z0 rfl)<|.u [2] rfl rfl (Qa1 ud24 Qby z0 .k ht201)<|.u [2] rfl rfl (QbR Qed z0 (Qem ht201))<|.u [2] rfl rfl (QfH (R2 := (rSl rS)) (f := (t201).States) Qbx z0 ht201 rfl)<|.e [] [5] [6] rfl rfl rfl rfl (Qag (R := rS) ud32 tok9 (leb rfl) z5 z0 hu204)<|.o (Qy (R := rS) (us := [([109,111,114,101] : Str),([110,101,119] : Str),([63] : Str)]) ud32 tok9 (.cons .k<|.cons .k<|.cons .k<|.nil _) rfl (leb rfl))<|.q 18 rfl<|.o (Qf QbK (Qal ht207) (.cons (.of z0)<|.cons (.of .k)<|.nil))<|.o (Qr ud32 tok9 z2 z0 ht208)<|.o (Qm tok9 z0)<|.o (Qy (R := rS) (us := [t208]) ud32 tok9 (.cons z0<|.nil _) rfl (leb rfl))<|.e [] [6] [] rfl rfl rfl rfl (.roE (Qag (R := rS) ud32 tok9 (leb rfl) z6 z0 hu211))<|.u [2] rfl rfl (Qa1 ud24 Qby z14 .k ht212)<|.u [2] rfl rfl (QbR Qed z0 (Qem ht212))<|.e [] [2] [7] rfl rfl rfl rfl (QfQ (u := { t212 with States := ((([] : List Str) ++ (t201).States) ++ [t208]) }) Qbx z0 z2 ht212 ht212s (leb rfl) rfl)<|.n) fun _ a w H => ?_
   have H := H.to [1,4,18,20,21,22,23,24,25] [_,_,_,_,_,_,_,_,_] [_,_,_,_,_] rfl rfl
   obtain rfl := sj h
   exact hJp4185 _ _ (H.pick [7,8])
  replace h := Qhb b4189 h
  refine wp_skip ?_
  obtain rfl := sj h
  exact hJp4185 _ _ ((H.pick [6,7]).selA [0,1,3,4,2] rfl)
 refine sr mx [] H (fun _ => .q 2 rfl<|.u [4] rfl rfl (Qu Q9 z7)<|.u [4] rfl rfl (Qab (u := (n1 3)) Qeo z0 rfl)<|.u [1] rfl rfl (QeT ud23 z0)<|.o (QG z3 z0)<|.n) fun _ a w H => ?_
 have H := H.to [2,4,6,7,8,9,10,11,12,13,14,15] [_,_,_,_,_,_,_,_,_,_,_,_] [_,_,_,_,_] rfl rfl
 have ⟨p4191,hp4191,h⟩ := bs h
 have hJp4191 : ∀ a w,St M w0 215 [(4,tv (n0 0)),(8,tv (n0 1))] [box (Qg.cs zz4) (n0 1),own Qz 81 (([] : List Qo) ++ (x_).Lives) (n2 3),own Qt 84 (([] : List Qn) ++ (x_).Rules) (n3 3),box ([ti (x_).Version,tvs (n1 3),tvs (n2 3),tvs (n3 3)]) (n0 0),own Qk 55 p4191 (n1 3)] a w → K11 a w := by
  intro a w H
  obtain rfl := sj h
  exact hJp4156 _ _ ((H.pick [0,1]).selA [0,4,2,3,1] rfl)
 replace h := hp4191
 clear hp4191
 refine Qgs 1 H rfl (fun b4209 => ?_) (fun b4209 => ?_)
 ·replace h := Qha b4209 h
  refine wp_seq_k (fun _ k4201 => ?_)
  have ⟨t43,ht43,h⟩ := bs h
  have ⟨u46,hu46,h⟩ := bs h
  refine wr mx [v1 0 (fun v0 => own Qb 61 ([] : List Qc) v0),v1 7 (fun v0 => own Qb 61 (([] : List Qc) ++ (t43).Fields) v0)] H (fun _ => .m [] [5] rfl rfl rfl (Qb3 (R := Qb) (us := ([] : List Qc)) ud53 QI (.nil _) rfl (leb rfl) (leb rfl))<|.u [4] rfl rfl (Qu Q9 z8)<|.u [4] rfl rfl (Qab (u := (n1 3)) Qeo z0 rfl)<|.q 6 rfl<|.u [1] rfl rfl (Qa1 ud23 QZ z1 z0 ht43)<|.u [1] rfl rfl (QbR Qaf z0 (Qem ht43))<|.u [1] rfl rfl (QfH (R2 := (rSl Qb)) (f := (t43).Fields) QaK z0 ht43 rfl)<|.e [] [5] [6] rfl rfl rfl rfl (Qag (R := Qb) ud53 QI (leb rfl) z6 z0 hu46)<|.ud (f := fun v => tv v) 7 rfl [] rfl rfl (Qa z0)<|.n) fun n7 a w H => ?_
  have H := H.to [2,7,8,9,11,12,13,14,15,16,17,18,19,20] [_,_,_,_,_,_,_,_,_,_,_,_,_,_] [_,_,_,_,_,_] rfl rfl
  refine k4201 _ _ ?_
  have ⟨t51,ht51,h⟩ := bs h
  refine sr mx [] H (fun _ => .q 11 rfl<|.o (Qjt z0 .k (by decide))<|.q 4 rfl<|.u [5] rfl rfl (QeT ud53 z0)<|.o (Qf QbK (Qal ht51) (.cons (.of z2)<|.cons (.of z0)<|.nil))<|.o (Qa z0)<|.n) fun _ a w H => ?_
  have H := H.to [2,5,6,7,8,9,10,11,12,13,14,15,16,18,19] [_,_,_,_,_,_,_,_,_,_,_,_,_,_,_] [_,_,_,_,_,_] rfl rfl
  refine wp_seq_k (fun K4204 k4204 => ?_)
  refine sr mx [] H (fun _ => .q 1 rfl<|.q 5 rfl<|.u [5] rfl rfl (QeT ud53 z0)<|.o (QG z2 z0)<|.n) fun _ a w H => ?_
  have H := H.to [1,3,4,5,6,7,8,9,10,11,12,13,14,15,16,17,18] [_,_,_,_,_,_,_,_,_,_,_,_,_,_,_,_,_] [_,_,_,_,_,_] rfl rfl
  have ⟨p4206,hp4206,h⟩ := bs h
  have hJp4206 : ∀ a w,St M w0 215 [(10,tv (n7 7)),(9,ti t31),(4,tv (n0 0)),(8,tv (n0 1))] [box (Qg.cs zz4) (n0 1),own Qk 55 (([] : List Qj) ++ (x_).Kinds) (n1 3),own Qz 81 (([] : List Qo) ++ (x_).Lives) (n2 3),own Qt 84 (([] : List Qn) ++ (x_).Rules) (n3 3),box ([ti (x_).Version,tvs (n1 3),tvs (n2 3),tvs (n3 3)]) (n0 0),own Qb 61 p4206 (n7 7)] a w → K4204 a w := by
   intro a w H
   refine k4204 _ _ ?_
   replace H : St _ _ _ [_,_,_,_] [_,_,_,_,_] _ _ := ((H.selA [5,0,1,2,3,4] rfl).shareO 0 rfl).pick [0,2,3,4]
   have ⟨t71,ht71,h⟩ := bs h
   have ⟨t71s,ht71s,h⟩ := bs h
   refine wr mx [v0 (own Qk 55 t71s (n1 3))] H (fun _ => .u [4] rfl rfl (Qu Q9 z2)<|.u [4] rfl rfl (Qab (u := (n1 3)) Qeo z0 rfl)<|.q 3 rfl<|.q 3 rfl<|.u [1] rfl rfl (Qa1 ud23 QZ z2 z1 ht71)<|.u [1] rfl rfl (QbR Qaf z0 (Qem ht71))<|.e [] [1] [5] rfl rfl rfl rfl (QfQ (u := { t71 with Fields := p4206 }) QaK z0 z2 ht71 ht71s (leb rfl) rfl)<|.n) fun _ a w H => ?_
   have H := H.to [1,8,9] [_,_,_] [_,_,_,_,_] rfl rfl
   obtain rfl := sj h
   exact hJp4191 _ _ (H.pick [1,2])
  replace h := hp4206
  clear hp4206
  refine Qgs 1 H rfl (fun b4208 => ?_) (fun b4208 => ?_)
  ·replace h := Qha b4208 h
   have ⟨t60,ht60,h⟩ := bs h
   have ⟨t65,ht65,h⟩ := bs h
   have ⟨t66s,ht66s,h⟩ := bs h
   refine wr mx [v0 (own Qb 61 t66s (n7 7))] H (fun _ => .q 6 rfl<|.q 4 rfl<|.q 8 rfl<|.q 6 rfl<|.u [5] rfl rfl (Qa1 ud53 QI z1 z0 ht60)<|.u [5] rfl rfl (Qlv QI z0 ht60)<|.q 21 rfl<|.o (Qjt z0 .k (by decide))<|.q 24 rfl<|.o (Qf call35 (QlG ht65) (.cons (.of z3)<|.cons (.of z1)<|.cons (.of z0)<|.nil))<|.u [5] rfl rfl (Qlw ud53 QI z9 z8 ht66s)<|.e [] [5] [6] rfl rfl rfl rfl (Qmh QI z0 z1 ht66s)<|.n) fun _ a w H => ?_
   have H := H.to [0,2,11,13,15,16,17,18,19,20,21,22,23,24,25] [_,_,_,_,_,_,_,_,_,_,_,_,_,_,_] [_,_,_,_,_,_] rfl rfl
   obtain rfl := sj h
   exact hJp4206 _ _ (H.pick [6,9,13,14])
  replace h := Qhb b4208 h
  refine wp_skip ?_
  obtain rfl := sj h
  exact hJp4206 _ _ (H.pick [6,9,13,14])
 replace h := Qhb b4209 h
 refine wp_skip ?_
 obtain rfl := sj h
 exact hJp4191 _ _ ((H.pick [7,8]).selA [0,2,3,4,1] rfl)

/- diorama/schema.within -/
noncomputable def QaW (n_ : Int) (least_ : Int) (most_ : Int) : Option (Bool) := (some ((decide (n_ ≥ least_)) && (decide (n_ ≤ most_))))
theorem QbD {n_ : Int} {least_ : Int} {most_ : Int} {r : Bool} (h : QaW n_ least_ most_ = some r) : FnOk Tryz.prog 97 [ti n_,ti least_,ti most_] [] (fun _ => []) (fun _ => tb r) := by
 unfold QaW at h
 refine fe Tryz.func97 Tryz.ntmps97 fun M0 M w0 a hpl H => ?_
 replace H : St M w0 15 [(0,ti n_),(1,ti least_),(2,ti most_)] [] a w0 := H
 refine sr mx [] H (fun _ => .o (Qa .k)<|.n) fun _ a w H => ?_
 have H := H.to [1,2,3] [_,_,_] [] rfl rfl
 refine sr mx [] H (fun _ => .q 0 rfl<|.q 2 rfl<|.o (QaJ z1 z0)<|.q 0 rfl<|.g rfl rfl bq0 (fun _ => Qq z4)<|.g rfl rfl bq1 (fun _ => Qq z7)<|.g rfl rfl bq2 (fun hc => QcK (.cond z1 hc) (.cond z0 hc))<|.o (QW z3 (fun hp => (.cond z0 (beqT hp))))<|.o (Qa z0)<|.n) fun _ a w H => ?_
 have H := H.to [8] [_] [] rfl rfl
 refine wp_ret ?_
 obtain rfl := sj h
 exact rt undef [] hpl H (.tmp z0 .nil)

/- diorama/schema.all[diorama/api.Kind]$1 -/
noncomputable def Qdx (x_ : Qj) (c0_ : (Qj → Option Bool)) : Option (Bool) := (c0_ x_).bind fun t6 => (some (!t6))
theorem QlH {x_ : Qj} {c0_ : (Qj → Option Bool)} {r : Bool} (h : Qdx x_ c0_ = some r) : FnOk Tryz.prog 124 [Qk.ty x_,tptr (Qig.cs c0_)] [] (fun _ => []) (fun _ => tb r) := by
 unfold Qdx at h
 refine fe Tryz.func124 Tryz.ntmps124 fun M0 M w0 a hpl H => ?_
 replace H : St M w0 8 [(0,Qk.ty x_),(1,tptr (Qig.cs c0_))] [] a w0 := H
 refine sr mx [] H (fun _ => .o (QV (R := Qk) (u := x_) z0)<|.o (Qa .k)<|.n) fun _ a w H => ?_
 have H := H.to [0,3] [_,_] [] rfl rfl
 have ⟨t6,ht6,h⟩ := bs h
 refine sr mx [] H (fun _ => .o (Qm tok138 z1)<|.o (Qm QZ z1)<|.o (Qca (u := x_) z1 (.cons (.of z0)<|.nil) ht6)<|.o (Qae z0)<|.o (Qa z0)<|.n) fun _ a w H => ?_
 have H := H.to [4] [_] [] rfl rfl
 refine wp_ret ?_
 obtain rfl := sj h
 exact rt undef [] hpl H (.tmp z0 .nil)

/- slices.IndexFunc[[]diorama/api.Kind,diorama/api.Kind] -/
noncomputable def Qa4 (s_ : (List Qj)) (f_ : (Qj → Option Bool)) : Option (Int) := (QF (fun (s4 : Int) => ((if (decide (s4 < (s_.length : Int))) = true then (idx s_ s4).bind fun t14 => (f_ t14).bind fun t16 => (if t16 = true then (some (.inr (.inr s4))) else (some (.inl (IntKind.i64.wrap (s4 + (1:Int)))))) else (some (.inr (.inl ())))) : Option ((Int) ⊕ ((Unit) ⊕ (Int))))) (0:Int)).bind fun (e5 : (Unit) ⊕ (Int)) => (match e5 with | .inl _ => (some (-1:Int)) | .inr p23 => (some p23))
theorem QgO {s_ : (List Qj)} {f_ : (Qj → Option Bool)} {r : Int} (h : Qa4 s_ f_ = some r) : FnOk Tryz.prog 73 [tsl Qk s_,Qig.ty f_] [] (fun _ => []) (fun _ => ti r) := by
 unfold Qa4 at h
 refine fe Tryz.func73 Tryz.ntmps73 fun M0 M w0 a hpl H => ?_
 replace H : St M w0 19 [(0,tsl Qk s_),(1,Qig.ty f_)] [] a w0 := H
 refine sr mx [] H (fun _ => .o (Qa .k)<|.n) fun _ a w H => ?_
 have H := H.to [1,2] [_,_] [] rfl rfl
 refine wp_seq_k (fun K2 k2 => ?_)
 refine sr mx [] H (fun _ => .q 0 rfl<|.o (QE ud23 z0)<|.o (Qq .k)<|.n) fun _ a w H => ?_
 have H := H.to [1,2,3,4] [_,_,_,_] [] rfl rfl
 have ⟨e5,he5,h⟩ := bs h
 have hJp22 : ∀ (p22 : Unit) a w,(.inl p22) = e5 → St M w0 19 [] [] a w → K2 a w := by
  intro p22 a w he H
  subst he
  simp only at h
  refine k2 _ _ ?_
  refine sr mx [] H (fun _ => .o (Qa .k)<|.n) fun _ a w H => ?_
  have H := H.to [0] [_] [] rfl rfl
  refine wp_ret ?_
  obtain rfl := sj h
  exact rt undef [] hpl H (.tmp z0 .nil)
 have hJp23 : ∀ (p23 : Int) a w,(.inr p23) = e5 → St M w0 19 [(4,ti p23)] [] a w → Ret Tryz.prog Tryz.f73 M0 [] w0 (fun _ => []) (fun _ => ti r) .ret a w := by
  intro p23 a w he H
  subst he
  simp only at h
  obtain rfl := sj h
  exact rt undef [] hpl H (.tmp z0 .nil)
 refine wp_block ?_
 refine QR _ (fun (s4 : Int) a w => St M w0 19 [(7,ti (s_.length : Int)),(8,ti s4),(0,tsl Qk s_),(1,Qig.ty f_)] [] a w) _ _ he5 (H.pick [0,1,2,3]) ?_
 clear h
 intro s4 o a w K25 hI h ho k25
 have H := hI
 clear hI
 refine sr mx [] H (fun _ => .o (QG z1 z0)<|.n) fun _ a w H => ?_
 have H := H.to [0,1,2,3,4] [_,_,_,_,_] [] rfl rfl
 refine wp_seq_k (fun _ k27 => ?_)
 refine wi H h (fun b33 h => ?_) (fun b33 h => ?_)
 ·refine wp_skip (k27 _ _ ?_)
  refine wp_seq_k (fun _ k28 => ?_)
  refine wp_block ?_
  refine sr mx [] H (fun _ => .q 2 rfl<|.o (Qa z0)<|.n) fun _ a w H => ?_
  have H := H.to [1,3,4,5,6] [_,_,_,_,_] [] rfl rfl
  have ⟨t14,ht14,h⟩ := bs h
  have ⟨t16,ht16,h⟩ := bs h
  refine sr mx [] H (fun _ => .q 4 rfl<|.q 4 rfl<|.q 2 rfl<|.o (Qr ud23 QZ z1 z0 ht14)<|.o (Qm QZ z0)<|.o (Qca (u := t14) z4 (.cons (.of z0)<|.nil) ht16)<|.n) fun _ a w H => ?_
  have H := H.to [5,6,7,8,9,10] [_,_,_,_,_,_] [] rfl rfl
  refine wi H h (fun b32 h => ?_) (fun b32 h => ?_)
  ·refine sr mx [] H (fun _ => .q 1 rfl<|.o (Qa z0)<|.n) fun _ a w H => ?_
   have H := H.to [1] [_] [] rfl rfl
   refine wp_ret ?_
   exact hJp23 _ _ _ (ho _ (sj h).symm) (H.pick [0])
  refine wp_skip (k28 _ _ ?_)
  refine wr mx [] H (fun _ => .o (QQ z3 .k)<|.q 0 rfl<|.n) fun _ a w H => ?_
  have H := H.to [1,4,5,6] [_,_,_,_] [] rfl rfl
  exact k25 _ _ _ (sj h).symm (H.pick [1,0,2,3])
 refine wp_exit ?_
 exact hJp22 _ _ _ (ho _ (sj h).symm) (H.pick [])

/- slices.ContainsFunc[[]diorama/api.Kind,diorama/api.Kind] -/
noncomputable def Qa2 (s_ : (List Qj)) (f_ : (Qj → Option Bool)) : Option (Bool) := (Qa4 s_ f_).bind fun t7 => (some (decide (t7 ≥ (0:Int))))
theorem Qjv {s_ : (List Qj)} {f_ : (Qj → Option Bool)} {r : Bool} (h : Qa2 s_ f_ = some r) : FnOk Tryz.prog 123 [tsl Qk s_,Qig.ty f_] [] (fun _ => []) (fun _ => tb r) := by
 unfold Qa2 at h
 refine fe Tryz.func123 Tryz.ntmps123 fun M0 M w0 a hpl H => ?_
 replace H : St M w0 9 [(0,tsl Qk s_),(1,Qig.ty f_)] [] a w0 := H
 refine sr mx [] H (fun _ => .o (Qa .k)<|.n) fun _ a w H => ?_
 have H := H.to [1,2] [_,_] [] rfl rfl
 have ⟨t7,ht7,h⟩ := bs h
 refine sr mx [] H (fun _ => .q 0 rfl<|.q 2 rfl<|.o (Qf Qr0 (QgO ht7) (.cons (.of z1)<|.cons (.of z0)<|.nil))<|.o (QaJ z0 .k)<|.o (Qa z0)<|.n) fun _ a w H => ?_
 have H := H.to [4] [_] [] rfl rfl
 refine wp_ret ?_
 obtain rfl := sj h
 exact rt undef [] hpl H (.tmp z0 .nil)

/- diorama/schema.all[diorama/api.Kind] -/
noncomputable def QcE (l_ : (List Qj)) (right_ : (Qj → Option Bool)) : Option (Bool) := (Qa2 l_ (fun x0 => Qdx x0 right_)).bind fun t7 => (some (!t7))
theorem Qmo {l_ : (List Qj)} {right_ : (Qj → Option Bool)} {r : Bool} (h : QcE l_ right_ = some r) : FnOk Tryz.prog 98 [tsl Qk l_,Qig.ty right_] [] (fun _ => []) (fun _ => tb r) := by
 unfold QcE at h
 refine fe Tryz.func98 Tryz.ntmps98 fun M0 M w0 a hpl H => ?_
 replace H : St M w0 9 [(0,tsl Qk l_),(1,Qig.ty right_)] [] a w0 := H
 refine sr mx [] H (fun _ => .o (QV (R := Qig) (u := right_) z1)<|.o (Qa .k)<|.n) fun _ a w H => ?_
 have H := H.to [0,2] [_,_] [] rfl rfl
 have ⟨t7,ht7,h⟩ := bs h
 refine sr mx [] H (fun _ => .q 1 rfl<|.o (QdX (.cons z1<|.nil))<|.o (Qf Qt7 (Qjv ht7) (.cons (.of z1)<|.cons (.of (Fct.weak z0 (Qb7 Qt8 (fun _ _ hq => QlH hq))))<|.nil))<|.o (Qae z0)<|.o (Qa z0)<|.n) fun _ a w H => ?_
 have H := H.to [4] [_] [] rfl rfl
 refine wp_ret ?_
 obtain rfl := sj h
 exact rt undef [] hpl H (.tmp z0 .nil)

/- diorama/schema.isLetter -/
noncomputable def QcF (c_ : Int) : Option (Bool) := (some ((decide (c_ ≥ (97:Int))) && (decide (c_ ≤ (122:Int)))))
theorem Qjw {c_ : Int} {r : Bool} (h : QcF c_ = some r) : FnOk Tryz.prog 150 [tv (.int .u8 c_)] [] (fun _ => []) (fun _ => tb r) := by
 unfold QcF at h
 refine fe Tryz.func150 Tryz.ntmps150 fun M0 M w0 a hpl H => ?_
 replace H : St M w0 9 [(0,tv (.int .u8 c_))] [] a w0 := H
 refine sr mx [] H (fun _ => .o (Qa .k)<|.n) fun _ a w H => ?_
 have H := H.to [1] [_] [] rfl rfl
 refine sr mx [] H (fun _ => .q 0 rfl<|.o (QaJ z0 .k)<|.q 0 rfl<|.g rfl rfl bq0 (fun _ => Qq z3)<|.g rfl rfl bq1 (fun hc => QcK (.cond z0 hc) .k)<|.o (QW z2 (fun hp => (.cond z0 (beqT hp))))<|.o (Qa z0)<|.n) fun _ a w H => ?_
 have H := H.to [6] [_] [] rfl rfl
 refine wp_ret ?_
 obtain rfl := sj h
 exact rt undef [] hpl H (.tmp z0 .nil)

/- slices.IndexFunc[[]byte,byte] -/
noncomputable def Qbk (s_ : (List Int)) (f_ : (Int → Option Bool)) : Option (Int) := (QF (fun (s4 : Int) => ((if (decide (s4 < (s_.length : Int))) = true then (idx s_ s4).bind fun t14 => (f_ t14).bind fun t16 => (if t16 = true then (some (.inr (.inr s4))) else (some (.inl (IntKind.i64.wrap (s4 + (1:Int)))))) else (some (.inr (.inl ())))) : Option ((Int) ⊕ ((Unit) ⊕ (Int))))) (0:Int)).bind fun (e5 : (Unit) ⊕ (Int)) => (match e5 with | .inl _ => (some (-1:Int)) | .inr p23 => (some p23))
theorem Qkn {s_ : (List Int)} {f_ : (Int → Option Bool)} {r : Int} (h : Qbk s_ f_ = some r) : FnOk Tryz.prog 173 [tsl (rInt .u8) s_,QnW.ty f_] [] (fun _ => []) (fun _ => ti r) := by
 unfold Qbk at h
 refine fe Tryz.func173 Tryz.ntmps173 fun M0 M w0 a hpl H => ?_
 replace H : St M w0 19 [(0,tsl (rInt .u8) s_),(1,QnW.ty f_)] [] a w0 := H
 refine sr mx [] H (fun _ => .o (Qa .k)<|.n) fun _ a w H => ?_
 have H := H.to [1,2] [_,_] [] rfl rfl
 refine wp_seq_k (fun K2 k2 => ?_)
 refine sr mx [] H (fun _ => .q 0 rfl<|.o (QE QlE z0)<|.o (Qq .k)<|.n) fun _ a w H => ?_
 have H := H.to [1,2,3,4] [_,_,_,_] [] rfl rfl
 have ⟨e5,he5,h⟩ := bs h
 have hJp22 : ∀ (p22 : Unit) a w,(.inl p22) = e5 → St M w0 19 [] [] a w → K2 a w := by
  intro p22 a w he H
  subst he
  simp only at h
  refine k2 _ _ ?_
  refine sr mx [] H (fun _ => .o (Qa .k)<|.n) fun _ a w H => ?_
  have H := H.to [0] [_] [] rfl rfl
  refine wp_ret ?_
  obtain rfl := sj h
  exact rt undef [] hpl H (.tmp z0 .nil)
 have hJp23 : ∀ (p23 : Int) a w,(.inr p23) = e5 → St M w0 19 [(4,ti p23)] [] a w → Ret Tryz.prog Tryz.f173 M0 [] w0 (fun _ => []) (fun _ => ti r) .ret a w := by
  intro p23 a w he H
  subst he
  simp only at h
  obtain rfl := sj h
  exact rt undef [] hpl H (.tmp z0 .nil)
 refine wp_block ?_
 refine QR _ (fun (s4 : Int) a w => St M w0 19 [(7,ti (s_.length : Int)),(8,ti s4),(0,tsl (rInt .u8) s_),(1,QnW.ty f_)] [] a w) _ _ he5 (H.pick [0,1,2,3]) ?_
 clear h
 intro s4 o a w K25 hI h ho k25
 have H := hI
 clear hI
 refine sr mx [] H (fun _ => .o (QG z1 z0)<|.n) fun _ a w H => ?_
 have H := H.to [0,1,2,3,4] [_,_,_,_,_] [] rfl rfl
 refine wp_seq_k (fun _ k27 => ?_)
 refine wi H h (fun b33 h => ?_) (fun b33 h => ?_)
 ·refine wp_skip (k27 _ _ ?_)
  refine wp_seq_k (fun _ k28 => ?_)
  refine wp_block ?_
  refine sr mx [] H (fun _ => .q 2 rfl<|.o (Qa z0)<|.n) fun _ a w H => ?_
  have H := H.to [1,3,4,5,6] [_,_,_,_,_] [] rfl rfl
  have ⟨t14,ht14,h⟩ := bs h
  have ⟨t16,ht16,h⟩ := bs h
  refine sr mx [] H (fun _ => .q 4 rfl<|.q 4 rfl<|.q 2 rfl<|.o (Qr QlE tok5 z1 z0 ht14)<|.o (Qm tok5 z0)<|.o (Qca (u := t14) z4 (.cons (.of z0)<|.nil) ht16)<|.n) fun _ a w H => ?_
  have H := H.to [5,6,7,8,9,10] [_,_,_,_,_,_] [] rfl rfl
  refine wi H h (fun b32 h => ?_) (fun b32 h => ?_)
  ·refine sr mx [] H (fun _ => .q 1 rfl<|.o (Qa z0)<|.n) fun _ a w H => ?_
   have H := H.to [1] [_] [] rfl rfl
   refine wp_ret ?_
   exact hJp23 _ _ _ (ho _ (sj h).symm) (H.pick [0])
  refine wp_skip (k28 _ _ ?_)
  refine wr mx [] H (fun _ => .o (QQ z3 .k)<|.q 0 rfl<|.n) fun _ a w H => ?_
  have H := H.to [1,4,5,6] [_,_,_,_] [] rfl rfl
  exact k25 _ _ _ (sj h).symm (H.pick [1,0,2,3])
 refine wp_exit ?_
 exact hJp22 _ _ _ (ho _ (sj h).symm) (H.pick [])

/- slices.ContainsFunc[[]byte,byte] -/
noncomputable def Qa3 (s_ : (List Int)) (f_ : (Int → Option Bool)) : Option (Bool) := (Qbk s_ f_).bind fun t7 => (some (decide (t7 ≥ (0:Int))))
theorem Qjx {s_ : (List Int)} {f_ : (Int → Option Bool)} {r : Bool} (h : Qa3 s_ f_ = some r) : FnOk Tryz.prog 151 [tsl (rInt .u8) s_,QnW.ty f_] [] (fun _ => []) (fun _ => tb r) := by
 unfold Qa3 at h
 refine fe Tryz.func151 Tryz.ntmps151 fun M0 M w0 a hpl H => ?_
 replace H : St M w0 9 [(0,tsl (rInt .u8) s_),(1,QnW.ty f_)] [] a w0 := H
 refine sr mx [] H (fun _ => .o (Qa .k)<|.n) fun _ a w H => ?_
 have H := H.to [1,2] [_,_] [] rfl rfl
 have ⟨t7,ht7,h⟩ := bs h
 refine sr mx [] H (fun _ => .q 0 rfl<|.q 2 rfl<|.o (Qf QuB (Qkn ht7) (.cons (.of z1)<|.cons (.of z0)<|.nil))<|.o (QaJ z0 .k)<|.o (Qa z0)<|.n) fun _ a w H => ?_
 have H := H.to [4] [_] [] rfl rfl
 refine wp_ret ?_
 obtain rfl := sj h
 exact rt undef [] hpl H (.tmp z0 .nil)

/- diorama/schema.isDigit -/
noncomputable def Qe8 (c_ : Int) : Option (Bool) := (some ((decide (c_ ≥ (48:Int))) && (decide (c_ ≤ (57:Int)))))
theorem Qm3 {c_ : Int} {r : Bool} (h : Qe8 c_ = some r) : FnOk Tryz.prog 153 [tv (.int .u8 c_)] [] (fun _ => []) (fun _ => tb r) := by
 unfold Qe8 at h
 refine fe Tryz.func153 Tryz.ntmps153 fun M0 M w0 a hpl H => ?_
 replace H : St M w0 9 [(0,tv (.int .u8 c_))] [] a w0 := H
 refine sr mx [] H (fun _ => .o (Qa .k)<|.n) fun _ a w H => ?_
 have H := H.to [1] [_] [] rfl rfl
 refine sr mx [] H (fun _ => .q 0 rfl<|.o (QaJ z0 .k)<|.q 0 rfl<|.g rfl rfl bq0 (fun _ => Qq z3)<|.g rfl rfl bq1 (fun hc => QcK (.cond z0 hc) .k)<|.o (QW z2 (fun hp => (.cond z0 (beqT hp))))<|.o (Qa z0)<|.n) fun _ a w H => ?_
 have H := H.to [6] [_] [] rfl rfl
 refine wp_ret ?_
 obtain rfl := sj h
 exact rt undef [] hpl H (.tmp z0 .nil)

/- diorama/schema.isName$1 -/
noncomputable def Qeq (c_ : Int) : Option (Bool) := (QcF c_).bind fun t4 => (opt ((!t4) == true) (Qe8 c_) default).bind fun t8 => (some ((!t4) && (!t8)))
theorem Qmp {c_ : Int} {r : Bool} (h : Qeq c_ = some r) : FnOk Tryz.prog 152 [tv (.int .u8 c_)] [] (fun _ => []) (fun _ => tb r) := by
 unfold Qeq at h
 refine fe Tryz.func152 Tryz.ntmps152 fun M0 M w0 a hpl H => ?_
 replace H : St M w0 11 [(0,tv (.int .u8 c_))] [] a w0 := H
 refine sr mx [] H (fun _ => .o (Qa .k)<|.n) fun _ a w H => ?_
 have H := H.to [1] [_] [] rfl rfl
 have ⟨t4,ht4,h⟩ := bs h
 have ⟨t8,ht8,h⟩ := bs h
 refine sr mx [] H (fun _ => .q 0 rfl<|.o (Qf QqT (Qjw ht4) (.cons (.of z0)<|.nil))<|.o (Qae z0)<|.q 0 rfl<|.g rfl rfl bq0 (fun _ => Qq z4)<|.g rfl rfl bq1 (fun hc => Qf Qun (Qm3 (Qaj ht8 hc)) (.cons (.of (.cond z0 hc))<|.nil))<|.g rfl rfl bq2 (fun hc => Qae (.cond z0 hc))<|.o (QW z3 (fun hp => (.cond z0 (beqT hp))))<|.o (Qa z0)<|.n) fun _ a w H => ?_
 have H := H.to [8] [_] [] rfl rfl
 refine wp_ret ?_
 obtain rfl := sj h
 exact rt undef [] hpl H (.tmp z0 .nil)

/- diorama/schema.isName -/
noncomputable def Qap (s_ : Str) : Option (Bool) := (QaW (s_.length : Int) (1:Int) (12:Int)).bind fun t5 => (opt ((!t5) == false) (idx s_ (0:Int)) default).bind fun t9 => (opt ((!t5) == false) (QcF ((t9).toNat : Int)) default).bind fun t10 => (if ((!t5) || (!t10)) = true then (some false) else (Qa3 (Q4 s_) (fun x0 => Qeq x0)).bind fun t15 => (some (!t15)))
theorem Qay {s_ : Str} {r : Bool} (h : Qap s_ = some r) : FnOk Tryz.prog 125 [tv (.string (sB s_))] [] (fun _ => []) (fun _ => tb r) := by
 unfold Qap at h
 refine fe Tryz.func125 Tryz.ntmps125 fun M0 M w0 a hpl H => ?_
 replace H : St M w0 17 [(0,tv (.string (sB s_)))] [] a w0 := H
 refine sr mx [] H (fun _ => .o (Qa .k)<|.n) fun _ a w H => ?_
 have H := H.to [1] [_] [] rfl rfl
 refine wp_seq_k (fun _ k2 => ?_)
 have ⟨t5,ht5,h⟩ := bs h
 have ⟨t9,ht9,h⟩ := bs h
 have ⟨t10,ht10,h⟩ := bs h
 refine sr mx [] H (fun _ => .q 0 rfl<|.o (op_lenS' ud9 z0)<|.o (Qf Qim (QbD ht5) (.cons (.of z0)<|.cons (.of .k)<|.cons (.of .k)<|.nil))<|.o (Qae z0)<|.q 0 rfl<|.g rfl rfl bq0 (fun _ => Qq z5)<|.g rfl rfl bq1 (fun hc => QmO ud9 (.cond z0 hc) .k (Qaj ht9 hc))<|.g rfl rfl bq2 (fun hc => Qf QqT (Qjw (Qaj ht10 hc)) (.cons (.of (.cond z0 hc))<|.nil))<|.g rfl rfl bq3 (fun hc => Qae (.cond z0 hc))<|.o (Q6 z4 (fun hp => (.cond z0 (beqF hp))))<|.n) fun _ a w H => ?_
 have H := H.to [9,10] [_,_] [] rfl rfl
 refine wi H h (fun b6 h => ?_) (fun b6 h => ?_)
 ·refine sr mx [] H (fun _ => .o (Qa .k)<|.n) fun _ a w H => ?_
  have H := H.to [0] [_] [] rfl rfl
  refine wp_ret ?_
  obtain rfl := sj h
  exact rt undef [] hpl H (.tmp z0 .nil)
 refine wp_skip (k2 _ _ ?_)
 have ⟨t15,ht15,h⟩ := bs h
 refine sr mx [] H (fun _ => .q 1 rfl<|.o (op_s2b ud9 QlE ud5 z0)<|.o (Qf Qul (Qjx ht15) (.cons (.of z0)<|.cons (.of (Fct.weak .fnE (Qb7 Qum (fun _ _ hq => Qmp hq))))<|.nil))<|.o (Qae z0)<|.o (Qa z0)<|.n) fun _ a w H => ?_
 have H := H.to [4] [_] [] rfl rfl
 refine wp_ret ?_
 obtain rfl := sj h
 exact rt undef [] hpl H (.tmp z0 .nil)

end Go.Proofs.YtcdccjagknlmpaaGreatDoor

/- Go functions as Lean functions, and the proofs that they compute them, written by a program. No condition. -/
import Derived.Test.YtcdccjagknlmpaaGreatDoorGenE
namespace Go.Proofs.YtcdccjagknlmpaaGreatDoor
open Go.Sim
set_option maxRecDepth 100000
set_option maxHeartbeats 4000000

/- diorama/typing.Check -/
noncomputable def QdQ (x_ : Qh) : Option ((List Qs)) := (QdP x_).bind fun t18 => (if (t18 != (0:Int)) = true then (some [(Qs.mk (-1:Int) (-1:Int) (-1:Int) t18)]) else (QF (fun (s12 : Int × List Qs) => ((if (decide (s12.1 < ((x_).Lives.length : Int))) = true then (idx (x_).Lives s12.1).bind fun t31 => (sub (x_).Lives (0:Int) s12.1).bind fun t36 => (QaG t36 (fun x0 => QdH x0 t31)).bind fun t38 => (Qax [(Qv.mk t38 (7:Int))]).bind fun t44 => (Qbz (-1:Int) s12.1 (-1:Int) t44 s12.2).bind fun t45 => (some (.inl ((IntKind.i64.wrap (s12.1 + (1:Int))),t45))) else (some (.inr s12.2))) : Option ((Int × List Qs) ⊕ ((List Qs))))) ((0:Int),([] : List Qs))).bind fun (p29 : (List Qs)) => (QF (fun (s33 : Int × List Qs) => ((if (decide (s33.1 < ((x_).Kinds.length : Int))) = true then (idx (x_).Kinds s33.1).bind fun t53 => (Qes x_ s33.1).bind fun t59 => (Qbz s33.1 (-1:Int) (-1:Int) t59 s33.2).bind fun t60 => (QF (fun (s182 : Int × List Qs) => ((if (decide (s182.1 < ((t53).Fields.length : Int))) = true then (idx (t53).Fields s182.1).bind fun t67 => (Qbt t53 (t67).Name).bind fun t72 => (Qax [(Qv.mk (decide (t72 < s182.1)) (7:Int))]).bind fun t77 => ((if ((Qbp (t67).Kind).isSome && (t77 == (0:Int))) = true then (Qly ((Qcb.mk (Qbp (t67).Kind))).check (QP.mk x_ s33.1 s182.1 t67)).bind fun t97 => (some t97) else (some t77))).bind fun (p226 : Int) => (Qbz s33.1 s182.1 (-1:Int) p226 s182.2).bind fun t102 => (some (.inl ((IntKind.i64.wrap (s182.1 + (1:Int))),t102))) else (some (.inr s182.2))) : Option ((Int × List Qs) ⊕ ((List Qs))))) ((0:Int),t60)).bind fun (p213 : (List Qs)) => (some (.inl ((IntKind.i64.wrap (s33.1 + (1:Int))),p213))) else (some (.inr s33.2))) : Option ((Int × List Qs) ⊕ ((List Qs))))) ((0:Int),p29)).bind fun (p148 : (List Qs)) => (QF (fun (s152 : Int × List Qs) => ((if (decide (s152.1 < ((x_).Rules.length : Int))) = true then (Qet x_ s152.1).bind fun t115 => (Qbz (-1:Int) (-1:Int) s152.1 t115 s152.2).bind fun t116 => (some (.inl ((IntKind.i64.wrap (s152.1 + (1:Int))),t116))) else (some (.inr s152.2))) : Option ((Int × List Qs) ⊕ ((List Qs))))) ((0:Int),p148)).bind fun (p165 : (List Qs)) => (some p165))
theorem Qn9 {x_ : Qh} {r : (List Qs)} (h : QdQ x_ = some r) : FnOk Tryz.prog 30 [Qg.ty x_] [glo] (fun _ => []) (fun _ => tsl Q1 r) := by
 unfold QdQ at h
 refine fe Tryz.func30 Tryz.ntmps30 fun M0 M w0 a hpl H => ?_
 replace H : St M w0 119 [(0,Qg.ty x_)] [glo] a w0 := H
 refine sr mx [] H (fun _ => .o (QV (R := Qg) (u := x_) z0)<|.o (Qa (.nilsl (R := Q1)))<|.n) fun _ a w H => ?_
 have H := H.to [0] [_] [_] rfl rfl
 refine wp_seq_k (fun _ k2 => ?_)
 have ⟨t18,ht18,h⟩ := bs h
 refine sr mx [] H (fun _ => .o (Qm Qar z0)<|.u [0] rfl rfl ((Qf call62 (Qn8 ht18) (.cons (.of z0)<|.nil)).glo)<|.o (Qa z0)<|.n) fun _ a w H => ?_
 have H := H.to [2,3] [_,_] [_] rfl rfl
 refine sr mx [] H (fun _ => .q 0 rfl<|.o (Qau z0 .k)<|.n) fun _ a w H => ?_
 have H := H.to [1,2,3] [_,_,_] [_] rfl rfl
 refine wi H h (fun b239 h => ?_) (fun b239 h => ?_)
 ·refine sr mx [] H (fun _ => .q 1 rfl<|.p (T := Q1.ty (Qs.mk (-1:Int) (-1:Int) (-1:Int) t18)) rfl (QY Tryz.underlying119 pl119 zv119 zc119 (.cons (R := rI) (u := (-1:Int)) rfl .k (leb rfl)<|.cons (R := rI) (u := (-1:Int)) rfl .k (leb rfl)<|.cons (R := rI) (u := (-1:Int)) rfl .k (leb rfl)<|.cons (R := rI) (u := t18) rfl z0 (leb rfl)<|.nil _))<|.o (Qy (R := Q1) (us := [(Qs.mk (-1:Int) (-1:Int) (-1:Int) t18)]) ud68 QnV (.cons z0<|.nil _) rfl (leb rfl))<|.o (Qa z0)<|.n) fun _ a w H => ?_
  have H := H.to [3] [_] [_] rfl rfl
  refine wp_ret ?_
  obtain rfl := sj h
  exact rt undef [] hpl H (.tmp z0 .nil)
 refine wp_skip (k2 _ _ ?_)
 refine sr mx [v1 0 (fun v0 => box (rVal.cs nilV) v0)] H (fun _ => .m [] [1] rfl rfl rfl (Qmj QnZ)<|.n) fun n4 a w H => ?_
 replace H : St _ _ _ [_,_] [_,_,_] _ _ := (H.pick [0,3]).nil (Q1) 119
 refine sr mx [] H (fun _ => .o (QdX (.cons z0<|.nil))<|.o (Qa z0)<|.n) fun _ a w H => ?_
 have H := H.to [1,2,3] [_,_,_] [_,_,_] rfl rfl
 refine wp_seq_k (fun K10 k10 => ?_)
 refine sr mx [] H (fun _ => .o (Qe Qbc z2)<|.o (Qd (u := (x_).Lives) QeH z0 rfl)<|.o (QE ud24 z0)<|.o (Qq .k)<|.n) fun _ a w H => ?_
 have H := H.to [1,2,3,4,5,6] [_,_,_,_,_,_] [_,_,_] rfl rfl
 have ⟨e13,he13,h⟩ := bs h
 have hJp29 : ∀ (p29 : List Qs) (v30 : Value) a w,p29 = e13 → St M w0 119 [(5,Qd5 63 [tv (n4 0)]),(4,tv (n4 0)),(1,tptr (Qg.cs x_))] [own Q1 119 p29 v30,glo,box (rVal.cs v30) (n4 0)] a w → K10 a w := by
  intro p29 v30 a w he H
  subst he
  refine k10 _ _ ?_
  refine wp_seq_k (fun K31 k31 => ?_)
  refine sr mx [] H (fun _ => .o (Qe Q9 z2)<|.o (Qd (u := (x_).Kinds) QaF z0 rfl)<|.o (QE ud23 z0)<|.o (Qq .k)<|.n) fun _ a w H => ?_
  have H := H.to [1,2,3,4,5,6] [_,_,_,_,_,_] [_,_,_] rfl rfl
  have ⟨e34,he34,h⟩ := bs h
  have hJp148 : ∀ (p148 : List Qs) (v149 : Value) a w,p148 = e34 → St M w0 119 [(5,Qd5 63 [tv (n4 0)]),(4,tv (n4 0)),(1,tptr (Qg.cs x_))] [own Q1 119 p148 v149,glo,box (rVal.cs v149) (n4 0)] a w → K31 a w := by
   intro p148 v149 a w he H
   subst he
   refine k31 _ _ ?_
   refine wp_seq_k (fun K150 k150 => ?_)
   refine sr mx [] H (fun _ => .o (Qe QbH z2)<|.o (Qd (u := (x_).Rules) Qfp z0 rfl)<|.o (QE ud25 z0)<|.o (Qq .k)<|.n) fun _ a w H => ?_
   have H := H.to [2,3,4,5,6] [_,_,_,_,_] [_,_,_] rfl rfl
   have ⟨e153,he153,h⟩ := bs h
   have hJp165 : ∀ (p165 : List Qs) (v166 : Value) a w,p165 = e153 → St M w0 119 [(4,tv (n4 0))] [own Q1 119 p165 v166,glo,box (rVal.cs v166) (n4 0)] a w → K150 a w := by
    intro p165 v166 a w he H
    subst he
    refine k150 _ _ ?_
    refine sr mx [] H (fun _ => .u [2] rfl rfl (QhW QnZ z0)<|.o (Qa z0)<|.n) fun _ a w H => ?_
    replace H : St _ _ _ [_,_] [_,_] _ _ := (H.pick [0,1]).selA [0,1] rfl
    refine wp_ret ?_
    replace H : St _ _ _ [_] [_] _ _ := (H.shareO 1 rfl).pick [0]
    obtain rfl := sj h
    exact rt undef [] hpl H (.tmp z0 .nil)
   refine wp_block ?_
   refine QR _ (fun (s152 : Int × List Qs) a w => ∃ v159 : Value,St M w0 119 [(107,ti ((x_).Rules.length : Int)),(108,ti s152.1),(5,Qd5 63 [tv (n4 0)]),(4,tv (n4 0)),(1,tptr (Qg.cs x_))] [own Q1 119 s152.2 v159,glo,box (rVal.cs v159) (n4 0)] a w) _ _ he153 ⟨v149,H.pick [0,1,2,3,4]⟩ ?_
   clear h
   intro s152 o a w K168 hI h ho k168
   obtain ⟨v159,H⟩ := hI
   refine sr mx [] H (fun _ => .o (QG z1 z0)<|.n) fun _ a w H => ?_
   have H := H.to [0,1,2,3,4,5] [_,_,_,_,_,_] [_,_,_] rfl rfl
   refine wp_seq_k (fun _ k170 => ?_)
   refine wi H h (fun b173 h => ?_) (fun b173 h => ?_)
   ·refine wp_skip (k170 _ _ ?_)
    refine wp_seq_k (fun _ k171 => ?_)
    refine wp_block ?_
    refine sr mx [] H (fun _ => .q 2 rfl<|.o (Qa z0)<|.n) fun _ a w H => ?_
    have H := H.to [1,3,4,5,6,7] [_,_,_,_,_,_] [_,_,_] rfl rfl
    have ⟨t115,ht115,h⟩ := bs h
    have ⟨t116,ht116,h⟩ := bs h
    refine wr mx [v1 5 (fun v0 => box (rVal.cs v0) (n4 0)),v1 5 (fun v0 => own Q1 119 t116 v0)] H (fun _ => .q 3 rfl<|.q 1 rfl<|.o (Qm Qar z7)<|.q 3 rfl<|.o (Qf call69 (QoJ ht115) (.cons (.of z1)<|.cons (.of z0)<|.nil))<|.e [] [2,0] [3,4] rfl rfl rfl rfl (QiR Qn1 (Qfq ht116) z4 (.cons (.of .k)<|.cons (.of .k)<|.cons (.of z3)<|.cons (.of z0)<|.nil))<|.n) fun n29 a w H => ?_
    have H := H.to [7,8,9,10,11] [_,_,_,_,_] [_,_,_] rfl rfl
    refine k171 _ _ ?_
    refine wr mx [] H (fun _ => .o (QQ z1 .k)<|.q 0 rfl<|.n) fun _ a w H => ?_
    have H := H.to [1,2,3,4,5] [_,_,_,_,_] [_,_,_] rfl rfl
    exact k168 _ _ _ (sj h).symm ⟨(n29 5),(H.pick [1,0,2,3,4]).selA [2,0,1] rfl⟩
   refine wp_exit ?_
   exact hJp165 _ v159 _ _ (ho _ (sj h).symm) (H.pick [4])
  refine wp_block ?_
  refine QR _ (fun (s33 : Int × List Qs) a w => ∃ v91 : Value,St M w0 119 [(48,tsl Qk (x_).Kinds),(49,ti ((x_).Kinds.length : Int)),(50,ti s33.1),(5,Qd5 63 [tv (n4 0)]),(4,tv (n4 0)),(1,tptr (Qg.cs x_))] [own Q1 119 s33.2 v91,glo,box (rVal.cs v91) (n4 0)] a w) _ _ he34 ⟨v30,H.pick [0,1,2,3,4,5]⟩ ?_
  clear h
  intro s33 o a w K174 hI h ho k174
  obtain ⟨v91,H⟩ := hI
  refine sr mx [] H (fun _ => .o (QG z2 z1)<|.n) fun _ a w H => ?_
  have H := H.to [0,1,2,3,4,5,6] [_,_,_,_,_,_,_] [_,_,_] rfl rfl
  refine wp_seq_k (fun _ k176 => ?_)
  refine wi H h (fun b230 h => ?_) (fun b230 h => ?_)
  ·refine wp_skip (k176 _ _ ?_)
   refine wp_seq_k (fun K177 k177 => ?_)
   refine wp_block ?_
   have ⟨t53,ht53,h⟩ := bs h
   refine sr mx [v1 3 (fun v0 => box (Qk.cs zz1) v0),v1 3 (fun v0 => box (Qk.cs t53) v0)] H (fun _ => .q 3 rfl<|.o (Qr ud23 QZ z2 z4 ht53)<|.o (Qm QZ z0)<|.m [] [3] rfl rfl rfl (Q0 (R := Qk) (a := zz1) QZ Qid)<|.o (Qa z3)<|.e [] [3] [4] rfl rfl rfl rfl (QS (R := Qk) (a := t53) QZ z1 z2 (leb rfl))<|.n) fun _ a w H => ?_
   replace H : St _ _ _ [_,_,_,_,_,_,_,_] [_,_,_] _ _ := ((((H.pick [3,4,6,7,8,9,10,11]).selA [3,0,1,2] rfl).shareB 0 rfl).add 0 rfl (fun _ _ _ h => h.2)).pick [0,3,4,5,6,7,8,9]
   have ⟨t59,ht59,h⟩ := bs h
   have ⟨t60,ht60,h⟩ := bs h
   refine sr mx [v1 5 (fun v0 => box (rVal.cs v0) (n4 0)),v1 5 (fun v0 => own Q1 119 t60 v0)] H (fun _ => .q 5 rfl<|.q 2 rfl<|.o (Qm Qar z9)<|.q 4 rfl<|.o (Qf call67 (QoI ht59) (.cons (.of z1)<|.cons (.of z0)<|.nil))<|.e [] [2,0] [3,4] rfl rfl rfl rfl (QiR Qn1 (Qfq ht60) z4 (.cons (.of z3)<|.cons (.of .k)<|.cons (.of .k)<|.cons (.of z0)<|.nil))<|.n) fun n15 a w H => ?_
   have H := H.to [6,7,8,9,10,11,12,13] [_,_,_,_,_,_,_,_] [_,_,_] rfl rfl
   refine sr mx [] H (fun _ => .o (Qe Qaf z0)<|.o (Qd (u := (t53).Fields) QaK z0 rfl)<|.o (QE ud53 z0)<|.o (Qq .k)<|.n) fun _ a w H => ?_
   have H := H.to [1,2,3,4,5,6,7,8,9,10,11] [_,_,_,_,_,_,_,_,_,_,_] [_,_,_] rfl rfl
   have ⟨e183,he183,h⟩ := bs h
   have hJp213 : ∀ (p213 : List Qs) (v214 : Value) a w,p213 = e183 → St M w0 119 [(48,tsl Qk (x_).Kinds),(49,ti ((x_).Kinds.length : Int)),(50,ti s33.1),(5,Qd5 63 [tv (n4 0)]),(4,tv (n4 0)),(1,tptr (Qg.cs x_))] [glo,box (rVal.cs v214) (n4 0),own Q1 119 p213 v214] a w → K177 a w := by
    intro p213 v214 a w he H
    subst he
    refine k177 _ _ ?_
    refine wr mx [] H (fun _ => .o (QQ z2 .k)<|.q 0 rfl<|.n) fun _ a w H => ?_
    have H := H.to [1,2,3,4,5,6] [_,_,_,_,_,_] [_,_,_] rfl rfl
    exact k174 _ _ _ (sj h).symm ⟨v214,(H.pick [1,2,0,3,4,5]).selA [2,0,1] rfl⟩
   refine wp_block ?_
   refine QR _ (fun (s182 : Int × List Qs) a w => ∃ v198 : Value,St M w0 119 [(62,tsl Qb (t53).Fields),(63,ti ((t53).Fields.length : Int)),(64,ti s182.1),(10,tptr (Qk.cs t53)),(9,ti s33.1),(48,tsl Qk (x_).Kinds),(49,ti ((x_).Kinds.length : Int)),(50,ti s33.1),(5,Qd5 63 [tv (n4 0)]),(4,tv (n4 0)),(1,tptr (Qg.cs x_))] [glo,box (rVal.cs v198) (n4 0),own Q1 119 s182.2 v198] a w) _ _ he183 ⟨(n15 5),H.pick [0,1,2,3,4,5,6,7,8,9,10]⟩ ?_
   clear h
   intro s182 o a w K215 hI h ho k215
   obtain ⟨v198,H⟩ := hI
   refine sr mx [] H (fun _ => .o (QG z2 z1)<|.n) fun _ a w H => ?_
   have H := H.to [0,1,2,3,4,5,6,7,8,9,10,11] [_,_,_,_,_,_,_,_,_,_,_,_] [_,_,_] rfl rfl
   refine wp_seq_k (fun _ k217 => ?_)
   refine wi H h (fun b229 h => ?_) (fun b229 h => ?_)
   ·refine wp_skip (k217 _ _ ?_)
    refine wp_seq_k (fun _ k218 => ?_)
    refine wp_block ?_
    have ⟨t67,ht67,h⟩ := bs h
    refine sr mx [v1 3 (fun v0 => box (Qb.cs zz0) v0),v1 3 (fun v0 => box (Qb.cs t67) v0)] H (fun _ => .q 3 rfl<|.o (Qr ud53 QI z2 z4 ht67)<|.o (Qm QI z0)<|.m [] [3] rfl rfl rfl (Q0 (R := Qb) (a := zz0) QI Qcy)<|.o (Qa z3)<|.e [] [3] [4] rfl rfl rfl rfl (QS (R := Qb) (a := t67) QI z1 z2 (leb rfl))<|.n) fun _ a w H => ?_
    replace H : St _ _ _ [_,_,_,_,_,_,_,_,_,_,_,_,_] [_,_,_] _ _ := ((((H.pick [3,4,6,7,8,9,10,11,12,13,14,15,16]).selA [3,0,1,2] rfl).shareB 0 rfl).add 0 rfl (fun _ _ _ h => h.2)).pick [0,3,4,5,6,7,8,9,10,11,12,13,14]
    have ⟨t72,ht72,h⟩ := bs h
    have ⟨t77,ht77,h⟩ := bs h
    refine sr mx [] H (fun _ => .o (Qm QZ z5)<|.o (Qe Qbd z1)<|.o (Qd (u := (t67).Name) tok9 z0 rfl)<|.o (Qf Qml (Qe9 ht72) (.cons (.of z2)<|.cons (.of z0)<|.nil))<|.q 5 rfl<|.o (QG z1 z0)<|.p (T := QX.ty (Qv.mk (decide (t72 < s182.1)) (7:Int))) rfl (QY QeK QeJ QeI Qd7 (.cons (R := Qa7) (u := (decide (t72 < s182.1))) rfl z0 (leb rfl)<|.cons (R := rI) (u := (7:Int)) rfl .k (leb rfl)<|.nil _))<|.o (Qy (R := QX) (us := [(Qv.mk (decide (t72 < s182.1)) (7:Int))]) Qhe Qen (.cons z0<|.nil _) rfl (leb rfl))<|.o (Qf QgN (Qbh ht77) (.cons (.of z0)<|.nil))<|.o (Qa z0)<|.n) fun _ a w H => ?_
    have H := H.to [9,10,11,12,13,14,15,16,17,18,19,20,21,22] [_,_,_,_,_,_,_,_,_,_,_,_,_,_] [_,_,_] rfl rfl
    refine wp_seq_k (fun K222 k222 => ?_)
    refine sr mx [v1 7 (fun v0 => box (Qea.cs (Qcb.mk none)) v0),v1 7 (fun v0 => box (Qea.cs (Qcb.mk (Qbp (t67).Kind))) v0)] H (fun _ => .u [0] rfl rfl (QsO (R := rMapC Qjj) (u := ()) QsU tokM0 rfl)<|.o (Qe Qao z2)<|.o (Qd (u := (t67).Kind) tok3 z0 rfl)<|.o (Qr4 z2 z0)<|.q 0 rfl<|.o (QU z0 rfl)<|.o (QU z1 rfl)<|.m [] [3] rfl rfl rfl (Q0 (R := Qea) (a := (Qcb.mk none)) QrO zok129)<|.e [] [3] [4] rfl rfl rfl rfl (QS (R := Qea) (a := (Qcb.mk (Qbp (t67).Kind))) QrO z0 z2 (leb rfl))<|.o (Qa z1)<|.n) fun _ a w H => ?_
    replace H : St _ _ _ [_,_,_,_,_,_,_,_,_,_,_,_,_,_,_,_] [_,_,_] _ _ := ((((H.pick [7,8,9,10,11,12,13,14,15,16,17,18,19,20,21,22]).selA [3,0,1,2] rfl).shareB 0 rfl).add 0 rfl (fun _ _ _ h => h.2)).pick [0,3,4,5,6,7,8,9,10,11,12,13,14,15,16,17]
    refine sr mx [] H (fun _ => .q 1 rfl<|.q 0 rfl<|.g rfl rfl bq0 (fun _ => Qq z4)<|.g rfl rfl bq1 (fun hc => QM (.cond z0 hc) .k)<|.o (QW z2 (fun hp => (.cond z0 (beqT hp))))<|.n) fun _ a w H => ?_
    have H := H.to [4,5,7,8,9,10,11,12,13,14,15,16,17,18,19,20] [_,_,_,_,_,_,_,_,_,_,_,_,_,_,_,_] [_,_,_] rfl rfl
    have ⟨p226,hp226,h⟩ := bs h
    have hJp226 : ∀ a w,St M w0 119 [(13,ti p226),(11,ti s182.1),(62,tsl Qb (t53).Fields),(63,ti ((t53).Fields.length : Int)),(64,ti s182.1),(10,tptr (Qk.cs t53)),(9,ti s33.1),(48,tsl Qk (x_).Kinds),(49,ti ((x_).Kinds.length : Int)),(50,ti s33.1),(5,Qd5 63 [tv (n4 0)]),(4,tv (n4 0)),(1,tptr (Qg.cs x_))] [glo,box (rVal.cs v198) (n4 0),own Q1 119 s182.2 v198] a w → K222 a w := by
     intro a w H
     refine k222 _ _ ?_
     have ⟨t102,ht102,h⟩ := bs h
     refine wr mx [v1 4 (fun v0 => box (rVal.cs v0) (n4 0)),v1 4 (fun v0 => own Q1 119 t102 v0)] H (fun _ => .q 10 rfl<|.q 7 rfl<|.q 3 rfl<|.q 3 rfl<|.e [] [1,2] [3,4] rfl rfl rfl rfl (QiR Qn1 (Qfq ht102) z3 (.cons (.of z2)<|.cons (.of z1)<|.cons (.of .k)<|.cons (.of z0)<|.nil))<|.n) fun n23 a w H => ?_
     have H := H.to [7,8,9,10,11,12,13,14,15,16,17] [_,_,_,_,_,_,_,_,_,_,_] [_,_,_] rfl rfl
     refine k218 _ _ ?_
     refine wr mx [] H (fun _ => .o (QQ z2 .k)<|.q 0 rfl<|.n) fun _ a w H => ?_
     have H := H.to [1,2,3,4,5,6,7,8,9,10,11] [_,_,_,_,_,_,_,_,_,_,_] [_,_,_] rfl rfl
     exact k215 _ _ _ (sj h).symm ⟨(n23 4),H.pick [1,2,0,3,4,5,6,7,8,9,10]⟩
    replace h := hp226
    clear hp226
    refine wi H h (fun b228 h => ?_) (fun b228 h => ?_)
    ·have ⟨t97,ht97,h⟩ := bs h
     refine wr mx [] H (fun _ => .o (Qe Qs6 z1)<|.o (Qd (u := ((Qcb.mk (Qbp (t67).Kind))).check) Qs1 z0 rfl)<|.o (Qm Qar z17)<|.q 12 rfl<|.q 8 rfl<|.o (Qm QI z8)<|.p (T := Qaa.ty (QP.mk x_ s33.1 s182.1 t67)) rfl (QY Tryz.underlying133 pl133 zv133 zc133 (.cons (R := Qg) (u := x_) rfl z3 (leb rfl)<|.cons (R := rI) (u := s33.1) rfl z2 (leb rfl)<|.cons (R := rI) (u := s182.1) rfl z1 (leb rfl)<|.cons (R := Qb) (u := t67) rfl z0 (leb rfl)<|.nil _))<|.o (QsP (u := (QP.mk x_ s33.1 s182.1 t67)) z5 (.cons (.of z0)<|.nil) ht97)<|.o (Qa z0)<|.n) fun _ a w H => ?_
     have H := H.to [8,12,13,14,15,16,17,18,19,20,21,22,23] [_,_,_,_,_,_,_,_,_,_,_,_,_] [_,_,_] rfl rfl
     obtain rfl := sj h
     exact hJp226 _ _ (H.pick [0,1,2,3,4,5,6,7,8,9,10,11,12])
    refine wp_skip ?_
    obtain rfl := sj h
    exact hJp226 _ _ (H.pick [2,4,5,6,7,8,9,10,11,12,13,14,15])
   refine wp_exit ?_
   exact hJp213 _ v198 _ _ (ho _ (sj h).symm) (H.pick [6,7,8,9,10,11])
  refine wp_exit ?_
  exact hJp148 _ v91 _ _ (ho _ (sj h).symm) (H.pick [4,5,6])
 refine wp_block ?_
 refine QR _ (fun (s12 : Int × List Qs) a w => ∃ v21 : Value,St M w0 119 [(26,tsl Qz (x_).Lives),(27,ti ((x_).Lives.length : Int)),(28,ti s12.1),(5,Qd5 63 [tv (n4 0)]),(4,tv (n4 0)),(1,tptr (Qg.cs x_))] [own Q1 119 s12.2 v21,glo,box (rVal.cs v21) (n4 0)] a w) _ _ he13 ⟨nilV,H.pick [0,1,2,3,4,5]⟩ ?_
 clear h
 intro s12 o a w K231 hI h ho k231
 obtain ⟨v21,H⟩ := hI
 refine sr mx [] H (fun _ => .o (QG z2 z1)<|.n) fun _ a w H => ?_
 have H := H.to [0,1,2,3,4,5,6] [_,_,_,_,_,_,_] [_,_,_] rfl rfl
 refine wp_seq_k (fun _ k233 => ?_)
 refine wi H h (fun b238 h => ?_) (fun b238 h => ?_)
 ·refine wp_skip (k233 _ _ ?_)
  refine wp_seq_k (fun _ k234 => ?_)
  refine wp_block ?_
  have ⟨t31,ht31,h⟩ := bs h
  refine sr mx [v1 3 (fun v0 => box (Qz.cs zz2) v0),v1 3 (fun v0 => box (Qz.cs t31) v0)] H (fun _ => .q 3 rfl<|.o (Qr ud24 Qby z2 z4 ht31)<|.o (Qm Qby z0)<|.m [] [3] rfl rfl rfl (Q0 (R := Qz) (a := zz2) Qby QpE)<|.o (Qa z3)<|.e [] [3] [4] rfl rfl rfl rfl (QS (R := Qz) (a := t31) Qby z1 z2 (leb rfl))<|.n) fun _ a w H => ?_
  replace H : St _ _ _ [_,_,_,_,_,_,_,_] [_,_,_] _ _ := ((((H.pick [3,4,6,7,8,9,10,11]).selA [3,0,1,2] rfl).shareB 0 rfl).add 0 rfl (fun _ _ _ h => h.2)).pick [0,3,4,5,6,7,8,9]
  have ⟨t36,ht36,h⟩ := bs h
  have ⟨t38,ht38,h⟩ := bs h
  refine sr mx [] H (fun _ => .o (Qe Qbc z7)<|.o (Qd (u := (x_).Lives) QeH z0 rfl)<|.q 3 rfl<|.o (Qki ud24 Qby z1 (.no _) (.op z0) ht36)<|.o (QdX (.cons z4<|.nil))<|.o (Qf Qqc (Qdz ht38) (.cons (.of z1)<|.cons (.of (Fct.weak z0 (Qb7 call65 (fun _ _ hq => Qm5 hq))))<|.nil))<|.o (Qa z0)<|.n) fun _ a w H => ?_
  have H := H.to [6,8,9,10,11,12,13,14] [_,_,_,_,_,_,_,_] [_,_,_] rfl rfl
  have ⟨t44,ht44,h⟩ := bs h
  have ⟨t45,ht45,h⟩ := bs h
  refine wr mx [v1 6 (fun v0 => box (rVal.cs v0) (n4 0)),v1 6 (fun v0 => own Q1 119 t45 v0)] H (fun _ => .q 5 rfl<|.q 2 rfl<|.q 2 rfl<|.p (T := QX.ty (Qv.mk t38 (7:Int))) rfl (QY QeK QeJ QeI Qd7 (.cons (R := Qa7) (u := t38) rfl z0 (leb rfl)<|.cons (R := rI) (u := (7:Int)) rfl .k (leb rfl)<|.nil _))<|.o (Qy (R := QX) (us := [(Qv.mk t38 (7:Int))]) Qhe Qen (.cons z0<|.nil _) rfl (leb rfl))<|.o (Qf QgN (Qbh ht44) (.cons (.of z0)<|.nil))<|.e [] [2,0] [3,4] rfl rfl rfl rfl (QiR Qn1 (Qfq ht45) z5 (.cons (.of .k)<|.cons (.of z4)<|.cons (.of .k)<|.cons (.of z0)<|.nil))<|.n) fun n10 a w H => ?_
  have H := H.to [9,10,11,12,13,14] [_,_,_,_,_,_] [_,_,_] rfl rfl
  refine k234 _ _ ?_
  refine wr mx [] H (fun _ => .o (QQ z2 .k)<|.q 0 rfl<|.n) fun _ a w H => ?_
  have H := H.to [1,2,3,4,5,6] [_,_,_,_,_,_] [_,_,_] rfl rfl
  exact k231 _ _ _ (sj h).symm ⟨(n10 6),(H.pick [1,2,0,3,4,5]).selA [2,0,1] rfl⟩
 refine wp_exit ?_
 exact hJp29 _ v21 _ _ (ho _ (sj h).symm) (H.pick [4,5,6])

/- diorama/counts.wrong -/
noncomputable def QdR (x_ : Qh) : Option (Int) := (QdQ x_).bind fun t5 => (if (decide ((t5.length : Int) > (0:Int))) = true then (idx t5 (0:Int)).bind fun t10 => (some (t10).Code) else (some (0:Int)))
theorem Qoa {x_ : Qh} {r : Int} (h : QdR x_ = some r) : FnOk Tryz.prog 36 [Qg.ty x_] [glo] (fun _ => []) (fun _ => ti r) := by
 unfold QdR at h
 refine fe Tryz.func36 Tryz.ntmps36 fun M0 M w0 a hpl H => ?_
 replace H : St M w0 13 [(0,Qg.ty x_)] [glo] a w0 := H
 refine sr mx [] H (fun _ => .o (QV (R := Qg) (u := x_) z0)<|.o (Qa .k)<|.n) fun _ a w H => ?_
 have H := H.to [0] [_] [_] rfl rfl
 refine wp_seq_k (fun _ k2 => ?_)
 have ⟨t5,ht5,h⟩ := bs h
 refine sr mx [] H (fun _ => .o (Qm Qar z0)<|.u [0] rfl rfl ((Qf call30 (Qn9 ht5) (.cons (.of z0)<|.nil)).glo)<|.o (Qa z0)<|.n) fun _ a w H => ?_
 have H := H.to [2] [_] [_] rfl rfl
 refine sr mx [] H (fun _ => .q 0 rfl<|.o (QE ud68 z0)<|.o (Qa0 z0 .k)<|.n) fun _ a w H => ?_
 have H := H.to [2,3] [_,_] [_] rfl rfl
 refine wi H h (fun b7 h => ?_) (fun b7 h => ?_)
 ·have ⟨t10,ht10,h⟩ := bs h
  refine sr mx [] H (fun _ => .q 1 rfl<|.o (Qr ud68 QnV z0 .k ht10)<|.o (Qe Qs3 z0)<|.o (Qd (u := (t10).Code) QmT z0 rfl)<|.o (Qa z0)<|.n) fun _ a w H => ?_
  have H := H.to [4] [_] [_] rfl rfl
  refine wp_ret ?_
  obtain rfl := sj h
  exact rt undef [] hpl H (.tmp z0 .nil)
 refine wp_skip (k2 _ _ ?_)
 refine sr mx [] H (fun _ => .o (Qa .k)<|.n) fun _ a w H => ?_
 have H := H.to [0] [_] [_] rfl rfl
 refine wp_ret ?_
 obtain rfl := sj h
 exact rt undef [] hpl H (.tmp z0 .nil)

/- diorama/counts.Limits$1 -/
noncomputable def Qb1 (name_ : Str) (a_ : Int) (b_ : Int) (lo_ : Int) (hi_ : Int) (c0_ : (List Qi)) (c1_ : (List Str)) : Option ((List Qi) × (List Str)) := (rm (c0_.length + [(Qi.mk a_ b_ lo_ true),(Qi.mk a_ b_ hi_ false)].length)).bind fun _ => (cat (name_.length + ([32,108,101,97,115,116] : Str).length)).bind fun _ => (cat (name_.length + ([32,109,111,115,116] : Str).length)).bind fun _ => (rm (c1_.length + [(name_ ++ ([32,108,101,97,115,116] : Str)),(name_ ++ ([32,109,111,115,116] : Str))].length)).bind fun _ => (some ((c0_ ++ [(Qi.mk a_ b_ lo_ true),(Qi.mk a_ b_ hi_ false)]),(c1_ ++ [(name_ ++ ([32,108,101,97,115,116] : Str)),(name_ ++ ([32,109,111,115,116] : Str))])))
theorem Qjz {q5 : Value} {vh5 : Value} {q6 : Value} {vh6 : Value} {name_ : Str} {a_ : Int} {b_ : Int} {lo_ : Int} {hi_ : Int} {c0_ : (List Qi)} {c1_ : (List Str)} {r : (List Qi) × (List Str)} (h : Qb1 name_ a_ b_ lo_ hi_ c0_ c1_ = some r) : FnOk Tryz.prog 37 [tv (.string (sB name_)),ti a_,ti b_,ti lo_,ti hi_,tv q5,tv q6] [box (rVal.cs vh5) q5,own Ql 43 c0_ vh5,box (rVal.cs vh6) q6,own rS 9 c1_ vh6] (fun v => [box (rVal.cs (gh v 0)) q5,own Ql 43 r.1 (gh v 0),box (rVal.cs (gh v 1)) q6,own rS 9 r.2 (gh v 1)]) (fun _ => ttup []) := by
 unfold Qb1 at h
 refine fe Tryz.func37 Tryz.ntmps37 fun M0 M w0 a hpl H => ?_
 replace H : St M w0 30 [(0,tv (.string (sB name_))),(1,ti a_),(2,ti b_),(3,ti lo_),(4,ti hi_),(5,tv q5),(6,tv q6)] [box (rVal.cs vh5) q5,own Ql 43 c0_ vh5,box (rVal.cs vh6) q6,own rS 9 c1_ vh6] a w0 := H
 refine wp_seq_k (fun _ k5 => ?_)
 have ⟨u22,hu22,h⟩ := bs h
 refine wr mx [v1 10 (fun v0 => own Ql 43 (c0_ ++ [(Qi.mk a_ b_ lo_ true),(Qi.mk a_ b_ hi_ false)]) v0),v1 10 (fun v0 => box (rVal.cs v0) q5)] H (fun _ => .u [0] rfl rfl (QhW QnX z5)<|.q 2 rfl<|.q 4 rfl<|.q 6 rfl<|.p (T := Ql.ty (Qi.mk a_ b_ lo_ true)) rfl (QY Tryz.underlying43 pl43 zv43 zc43 (.cons (R := rI) (u := a_) rfl z2 (leb rfl)<|.cons (R := rI) (u := b_) rfl z1 (leb rfl)<|.cons (R := rI) (u := lo_) rfl z0 (leb rfl)<|.cons (R := Qa7) (u := true) rfl .k (leb rfl)<|.nil _))<|.q 6 rfl<|.q 8 rfl<|.q 11 rfl<|.p (T := Ql.ty (Qi.mk a_ b_ hi_ false)) rfl (QY Tryz.underlying43 pl43 zv43 zc43 (.cons (R := rI) (u := a_) rfl z2 (leb rfl)<|.cons (R := rI) (u := b_) rfl z1 (leb rfl)<|.cons (R := rI) (u := hi_) rfl z0 (leb rfl)<|.cons (R := Qa7) (u := false) rfl .k (leb rfl)<|.nil _))<|.o (Qy (R := Ql) (us := [(Qi.mk a_ b_ lo_ true),(Qi.mk a_ b_ hi_ false)]) ud31 Qbn (.cons z4<|.cons z0<|.nil _) rfl (leb rfl))<|.e [] [1] [4] rfl rfl rfl rfl (Qag (R := Ql) ud31 Qbn (leb rfl) z9 z0 hu22)<|.e [4] [0] [5] rfl rfl rfl rfl (QkR (R := Ql) (e := 43) (Ts := (rVal.cs vh5)) QnX z16 z0 (leb rfl))<|.n) fun n0 a w H => ?_
 have H := H.to [10,11,16,17] [_,_,_,_] [_,_,_,_] rfl rfl
 refine k5 _ _ ?_
 have ⟨u25,hu25,h⟩ := bs h
 have ⟨u27,hu27,h⟩ := bs h
 have ⟨u29,hu29,h⟩ := bs h
 refine wr mx [v1 6 (fun v0 => own rS 9 (c1_ ++ [(name_ ++ ([32,108,101,97,115,116] : Str)),(name_ ++ ([32,109,111,115,116] : Str))]) v0),v1 6 (fun v0 => box (rVal.cs v0) q6)] H (fun _ => .u [0] rfl rfl (QhW QnY z3)<|.q 2 rfl<|.o (Qan z0 .k hu25)<|.q 4 rfl<|.o (Qan z0 .k hu27)<|.o (Qy (R := rS) (us := [(name_ ++ ([32,108,101,97,115,116] : Str)),(name_ ++ ([32,109,111,115,116] : Str))]) ud32 tok9 (.cons z2<|.cons z0<|.nil _) rfl (leb rfl))<|.e [] [1] [4] rfl rfl rfl rfl (Qag (R := rS) ud32 tok9 (leb rfl) z5 z0 hu29)<|.e [4] [0] [5] rfl rfl rfl rfl (QkR (R := rS) (e := 9) (Ts := (rVal.cs vh6)) QnY z10 z0 (leb rfl))<|.n) fun n1 a w H => ?_
 have H := H.to [6,7,9,10] [_,_,_,_] [_,_,_,_] rfl rfl
 obtain rfl := sj h
 exact Qoz (.tuple #[(n0 10),(n1 6)]) [1,0,3,2] hpl H rfl .nil rfl rfl rfl

/- diorama/counts.Limits -/
noncomputable def Qb5 (x_ : Qh) : Option ((List Qi) × (List Str) × Int) := (QdR x_).bind fun t14 => (if (t14 != (0:Int)) = true then (some (([] : List Qi),([] : List Str),t14)) else (QF (fun (s15 : Int × List Str × List Qi) => ((if (decide (s15.1 < ((x_).Kinds.length : Int))) = true then (idx (x_).Kinds s15.1).bind fun t25 => (Qb1 (t25).Name s15.1 (-1:Int) (t25).Lo (t25).Hi s15.2.2 s15.2.1).bind fun t35 => (QF (fun (s135 : Int × List Qi × List Str) => ((if (decide (s135.1 < ((t25).Fields.length : Int))) = true then (idx (t25).Fields s135.1).bind fun t41 => ((if ((t41).Kind == (1:Int)) = true then (cat ((t25).Name.length + ([46] : Str).length)).bind fun _ => (cat (((t25).Name ++ ([46] : Str)).length + (t41).Name.length)).bind fun _ => (QbF x_ (t41).Of).bind fun t57 => (Qb1 (((t25).Name ++ ([46] : Str)) ++ (t41).Name) s15.1 t57 (t41).Lo (t41).Hi s135.2.1 s135.2.2).bind fun t62 => (some (t62.1,t62.2)) else (some (s135.2.1,s135.2.2)))).bind fun (p173 : List Qi × List Str) => (some (.inl ((IntKind.i64.wrap (s135.1 + (1:Int))),p173.1,p173.2))) else (some (.inr (s135.2.1,s135.2.2)))) : Option ((Int × List Qi × List Str) ⊕ ((List Qi × List Str))))) ((0:Int),t35.1,t35.2)).bind fun (p163 : (List Qi × List Str)) => (some (.inl ((IntKind.i64.wrap (s15.1 + (1:Int))),p163.2,p163.1))) else (some (.inr (s15.2.1,s15.2.2)))) : Option ((Int × List Str × List Qi) ⊕ ((List Str × List Qi))))) ((0:Int),([] : List Str),([] : List Qi))).bind fun (p123 : (List Str × List Qi)) => (some (p123.2,p123.1,(0:Int))))
theorem QhJ {x_ : Qh} {r : (List Qi) × (List Str) × Int} (h : Qb5 x_ = some r) : FnOk Tryz.prog 12 [Qg.ty x_] [glo] (fun _ => []) (fun _ => ttup [tsl Ql r.1,tsl rS r.2.1,ti r.2.2]) := by
 unfold Qb5 at h
 refine fe Tryz.func12 Tryz.ntmps12 fun M0 M w0 a hpl H => ?_
 replace H : St M w0 67 [(0,Qg.ty x_)] [glo] a w0 := H
 refine sr mx [] H (fun _ => .o (QV (R := Qg) (u := x_) z0)<|.o (Qa (.nilsl (R := Ql)))<|.o (Qa (.nilsl (R := rS)))<|.o (Qa .k)<|.n) fun _ a w H => ?_
 have H := H.to [0] [_] [_] rfl rfl
 refine wp_seq_k (fun _ k2 => ?_)
 have ⟨t14,ht14,h⟩ := bs h
 refine sr mx [] H (fun _ => .o (Qm Qar z0)<|.u [0] rfl rfl ((Qf call36 (Qoa ht14) (.cons (.of z0)<|.nil)).glo)<|.o (Qa z0)<|.n) fun _ a w H => ?_
 have H := H.to [2,3] [_,_] [_] rfl rfl
 refine sr mx [] H (fun _ => .q 0 rfl<|.o (Qau z0 .k)<|.n) fun _ a w H => ?_
 have H := H.to [1,2,3] [_,_,_] [_] rfl rfl
 refine wi H h (fun b180 h => ?_) (fun b180 h => ?_)
 ·refine sr mx [] H (fun _ => .q 1 rfl<|.o (Qa (.nilsl (R := Ql)))<|.o (Qa (.nilsl (R := rS)))<|.o (Qa z2)<|.n) fun _ a w H => ?_
  have H := H.to [1,2,3] [_,_,_] [_] rfl rfl
  refine wp_ret ?_
  obtain rfl := sj h
  exact rt undef [] hpl H (.tmp z0 (.tmp z1 (.tmp z2 .nil)))
 refine wp_skip (k2 _ _ ?_)
 refine sr mx [v1 0 (fun v0 => box (rVal.cs nilV) v0)] H (fun _ => .m [] [1] rfl rfl rfl (Qmj QnX)<|.n) fun n4 a w H => ?_
 replace H : St _ _ _ [_,_] [_,_,_] _ _ := (H.pick [0,3]).nil (Ql) 43
 refine sr mx [v1 0 (fun v0 => box (rVal.cs nilV) v0)] H (fun _ => .m [] [3] rfl rfl rfl (Qmj QnY)<|.n) fun n5 a w H => ?_
 replace H : St _ _ _ [_,_,_] [_,_,_,_,_] _ _ := (H.pick [0,1,2]).nil (rS) 9
 refine sr mx [] H (fun _ => .o (QdX (.cons z1<|.cons z0<|.nil))<|.o (Qa z0)<|.n) fun _ a w H => ?_
 have H := H.to [1,2,3,4] [_,_,_,_] [_,_,_,_,_] rfl rfl
 refine wp_seq_k (fun K13 k13 => ?_)
 refine sr mx [] H (fun _ => .o (Qe Q9 z3)<|.o (Qd (u := (x_).Kinds) QaF z0 rfl)<|.o (QE ud23 z0)<|.o (Qq .k)<|.n) fun _ a w H => ?_
 have H := H.to [1,2,3,4,5,6,7] [_,_,_,_,_,_,_] [_,_,_,_,_] rfl rfl
 have ⟨e16,he16,h⟩ := bs h
 have hJp123 : ∀ (p123 : List Str × List Qi) (v124 : Value) (v125 : Value) a w,p123 = e16 → St M w0 67 [(7,tv (n5 0)),(6,tv (n4 0))] [own rS 9 p123.1 v124,own Ql 43 p123.2 v125,glo,box (rVal.cs v125) (n4 0),box (rVal.cs v124) (n5 0)] a w → K13 a w := by
  intro p123 v124 v125 a w he H
  subst he
  refine k13 _ _ ?_
  refine sr mx [] H (fun _ => .u [3] rfl rfl (QhW QnX z1)<|.u [4] rfl rfl (QhW QnY z1)<|.o (Qa z1)<|.o (Qa z1)<|.o (Qa .k)<|.n) fun _ a w H => ?_
  replace H : St _ _ _ [_,_,_,_,_] [_,_,_] _ _ := (H.pick [0,1,2,3,4]).selA [0,1,2] rfl
  refine wp_ret ?_
  replace H : St _ _ _ [_,_,_,_] [_,_] _ _ := ((H.selA [1,0,2] rfl).shareO 2 rfl).pick [0,2,4,5]
  replace H : St _ _ _ [_,_,_] [_] _ _ := (H.shareO 2 rfl).pick [0,1,4]
  obtain rfl := sj h
  exact rt undef [] hpl H (.tmp z1 (.tmp z0 (.tmp z2 .nil)))
 refine wp_block ?_
 refine QR _ (fun (s15 : Int × List Str × List Qi) a w => ∃ v69 : Value,∃ v70 : Value,St M w0 67 [(20,tsl Qk (x_).Kinds),(21,ti ((x_).Kinds.length : Int)),(22,ti s15.1),(8,Qd5 37 [tv (n4 0),tv (n5 0)]),(7,tv (n5 0)),(6,tv (n4 0)),(1,tptr (Qg.cs x_))] [own rS 9 s15.2.1 v69,own Ql 43 s15.2.2 v70,glo,box (rVal.cs v70) (n4 0),box (rVal.cs v69) (n5 0)] a w) _ _ he16 ⟨nilV,nilV,H.pick [0,1,2,3,4,5,6]⟩ ?_
 clear h
 intro s15 o a w K127 hI h ho k127
 obtain ⟨v69,v70,H⟩ := hI
 refine sr mx [] H (fun _ => .o (QG z2 z1)<|.n) fun _ a w H => ?_
 have H := H.to [0,1,2,3,4,5,6,7] [_,_,_,_,_,_,_,_] [_,_,_,_,_] rfl rfl
 refine wp_seq_k (fun _ k129 => ?_)
 refine wi H h (fun b179 h => ?_) (fun b179 h => ?_)
 ·refine wp_skip (k129 _ _ ?_)
  refine wp_seq_k (fun K130 k130 => ?_)
  refine wp_block ?_
  have ⟨t25,ht25,h⟩ := bs h
  refine sr mx [v1 3 (fun v0 => box (Qk.cs zz1) v0),v1 3 (fun v0 => box (Qk.cs t25) v0)] H (fun _ => .q 3 rfl<|.o (Qr ud23 QZ z2 z4 ht25)<|.o (Qm QZ z0)<|.m [] [5] rfl rfl rfl (Q0 (R := Qk) (a := zz1) QZ Qid)<|.o (Qa z3)<|.e [] [5] [6] rfl rfl rfl rfl (QS (R := Qk) (a := t25) QZ z1 z2 (leb rfl))<|.n) fun _ a w H => ?_
  replace H : St _ _ _ [_,_,_,_,_,_,_,_,_] [_,_,_,_,_] _ _ := ((((H.pick [3,4,6,7,8,9,10,11,12]).selA [5,0,1,2,3,4] rfl).shareB 0 rfl).add 0 rfl (fun _ _ _ h => h.2)).pick [0,3,4,5,6,7,8,9,10]
  have ⟨t35,ht35,h⟩ := bs h
  refine sr mx [v1 8 (fun v0 => box (rVal.cs (gh v0 0)) (n4 0)),v1 8 (fun v0 => own Ql 43 t35.1 (gh v0 0)),v1 8 (fun v0 => box (rVal.cs (gh v0 1)) (n5 0)),v1 8 (fun v0 => own rS 9 t35.2 (gh v0 1))] H (fun _ => .q 5 rfl<|.o (Qe Qbo z1)<|.o (Qd (u := (t25).Name) tok9 z0 rfl)<|.q 4 rfl<|.o (Qe QhZ z4)<|.o (Qd (u := (t25).Lo) tok3 z0 rfl)<|.o (Qe Qh0 z6)<|.o (Qd (u := (t25).Hi) tok3 z0 rfl)<|.e [] [3,1,4,0] [5,6,7,8] rfl rfl rfl rfl (QiR QrQ (Qjz ht35) z7 (.cons (.of z5)<|.cons (.of z4)<|.cons (.of .k)<|.cons (.of z2)<|.cons (.of z0)<|.nil))<|.n) fun n10 a w H => ?_
  have H := H.to [9,10,11,12,13,14,15,16,17] [_,_,_,_,_,_,_,_,_] [_,_,_,_,_] rfl rfl
  refine sr mx [] H (fun _ => .o (Qe Qaf z0)<|.o (Qd (u := (t25).Fields) QaK z0 rfl)<|.o (QE ud53 z0)<|.o (Qq .k)<|.n) fun _ a w H => ?_
  have H := H.to [1,2,3,4,5,6,7,8,9,10,11,12] [_,_,_,_,_,_,_,_,_,_,_,_] [_,_,_,_,_] rfl rfl
  have ⟨e136,he136,h⟩ := bs h
  have hJp163 : ∀ (p163 : List Qi × List Str) (v164 : Value) (v165 : Value) a w,p163 = e136 → St M w0 67 [(20,tsl Qk (x_).Kinds),(21,ti ((x_).Kinds.length : Int)),(22,ti s15.1),(8,Qd5 37 [tv (n4 0),tv (n5 0)]),(7,tv (n5 0)),(6,tv (n4 0)),(1,tptr (Qg.cs x_))] [glo,box (rVal.cs v164) (n4 0),own Ql 43 p163.1 v164,box (rVal.cs v165) (n5 0),own rS 9 p163.2 v165] a w → K130 a w := by
   intro p163 v164 v165 a w he H
   subst he
   refine k130 _ _ ?_
   refine wr mx [] H (fun _ => .o (QQ z2 .k)<|.q 0 rfl<|.n) fun _ a w H => ?_
   have H := H.to [1,2,3,4,5,6,7] [_,_,_,_,_,_,_] [_,_,_,_,_] rfl rfl
   exact k127 _ _ _ (sj h).symm ⟨v165,v164,(H.pick [1,2,0,3,4,5,6]).selA [4,2,0,1,3] rfl⟩
  refine wp_block ?_
  refine QR _ (fun (s135 : Int × List Qi × List Str) a w => ∃ v149 : Value,∃ v150 : Value,St M w0 67 [(37,tsl Qb (t25).Fields),(38,ti ((t25).Fields.length : Int)),(39,ti s135.1),(10,tptr (Qk.cs t25)),(9,ti s15.1),(20,tsl Qk (x_).Kinds),(21,ti ((x_).Kinds.length : Int)),(22,ti s15.1),(8,Qd5 37 [tv (n4 0),tv (n5 0)]),(7,tv (n5 0)),(6,tv (n4 0)),(1,tptr (Qg.cs x_))] [glo,box (rVal.cs v149) (n4 0),own Ql 43 s135.2.1 v149,box (rVal.cs v150) (n5 0),own rS 9 s135.2.2 v150] a w) _ _ he136 ⟨(gh (n10 8) 0),(gh (n10 8) 1),H.pick [0,1,2,3,4,5,6,7,8,9,10,11]⟩ ?_
  clear h
  intro s135 o a w K166 hI h ho k166
  obtain ⟨v149,v150,H⟩ := hI
  refine sr mx [] H (fun _ => .o (QG z2 z1)<|.n) fun _ a w H => ?_
  have H := H.to [0,1,2,3,4,5,6,7,8,9,10,11,12] [_,_,_,_,_,_,_,_,_,_,_,_,_] [_,_,_,_,_] rfl rfl
  refine wp_seq_k (fun _ k168 => ?_)
  refine wi H h (fun b178 h => ?_) (fun b178 h => ?_)
  ·refine wp_skip (k168 _ _ ?_)
   refine wp_seq_k (fun K169 k169 => ?_)
   refine wp_block ?_
   have ⟨t41,ht41,h⟩ := bs h
   refine sr mx [v1 2 (fun v0 => box (Qb.cs zz0) v0),v1 2 (fun v0 => box (Qb.cs t41) v0)] H (fun _ => .o (Qr ud53 QI z1 z3 ht41)<|.o (Qm QI z0)<|.m [] [5] rfl rfl rfl (Q0 (R := Qb) (a := zz0) QI Qcy)<|.e [] [5] [6] rfl rfl rfl rfl (QS (R := Qb) (a := t41) QI z0 z1 (leb rfl))<|.n) fun _ a w H => ?_
   replace H : St _ _ _ [_,_,_,_,_,_,_,_,_,_,_,_,_] [_,_,_,_,_] _ _ := ((((H.pick [2,4,5,6,7,8,9,10,11,12,13,14,15]).selA [5,0,1,2,3,4] rfl).shareB 0 rfl).add 0 rfl (fun _ _ _ h => h.2)).pick [0,3,4,5,6,7,8,9,10,11,12,13,14]
   refine sr mx [] H (fun _ => .o (Qe Qao z0)<|.o (Qd (u := (t41).Kind) tok3 z0 rfl)<|.o (QM z0 .k)<|.n) fun _ a w H => ?_
   have H := H.to [2,3,4,5,6,7,8,9,10,11,12,13,14,15] [_,_,_,_,_,_,_,_,_,_,_,_,_,_] [_,_,_,_,_] rfl rfl
   have ⟨p173,hp173,h⟩ := bs h
   have hJp173 : ∀ (v175 : Value) (v176 : Value) a w,St M w0 67 [(37,tsl Qb (t25).Fields),(38,ti ((t25).Fields.length : Int)),(39,ti s135.1),(10,tptr (Qk.cs t25)),(9,ti s15.1),(20,tsl Qk (x_).Kinds),(21,ti ((x_).Kinds.length : Int)),(22,ti s15.1),(8,Qd5 37 [tv (n4 0),tv (n5 0)]),(7,tv (n5 0)),(6,tv (n4 0)),(1,tptr (Qg.cs x_))] [glo,box (rVal.cs v175) (n4 0),own Ql 43 p173.1 v175,box (rVal.cs v176) (n5 0),own rS 9 p173.2 v176] a w → K169 a w := by
    intro v175 v176 a w H
    refine k169 _ _ ?_
    refine wr mx [] H (fun _ => .o (QQ z2 .k)<|.q 0 rfl<|.n) fun _ a w H => ?_
    have H := H.to [1,2,3,4,5,6,7,8,9,10,11,12] [_,_,_,_,_,_,_,_,_,_,_,_] [_,_,_,_,_] rfl rfl
    exact k166 _ _ _ (sj h).symm ⟨v175,v176,H.pick [1,2,0,3,4,5,6,7,8,9,10,11]⟩
   replace h := hp173
   clear hp173
   refine wi H h (fun b177 h => ?_) (fun b177 h => ?_)
   ·have ⟨u49,hu49,h⟩ := bs h
    have ⟨u52,hu52,h⟩ := bs h
    have ⟨t57,ht57,h⟩ := bs h
    have ⟨t62,ht62,h⟩ := bs h
    refine wr mx [v1 16 (fun v0 => box (rVal.cs (gh v0 0)) (n4 0)),v1 16 (fun v0 => own Ql 43 t62.1 (gh v0 0)),v1 16 (fun v0 => box (rVal.cs (gh v0 1)) (n5 0)),v1 16 (fun v0 => own rS 9 t62.2 (gh v0 1))] H (fun _ => .q 10 rfl<|.o (Qe Qbo z6)<|.o (Qd (u := (t25).Name) tok9 z0 rfl)<|.o (Qan z0 .k hu49)<|.o (Qe Qbd z5)<|.o (Qd (u := (t41).Name) tok9 z0 rfl)<|.o (Qan z2 z0 hu52)<|.q 13 rfl<|.o (Qm Qar z21)<|.o (Qe Qas z10)<|.o (Qd (u := (t41).Of) tok9 z0 rfl)<|.o (Qf Qla (Qeh ht57) (.cons (.of z2)<|.cons (.of z0)<|.nil))<|.o (Qe QaE z13)<|.o (Qd (u := (t41).Lo) tok3 z0 rfl)<|.o (Qe QaV z15)<|.o (Qd (u := (t41).Hi) tok3 z0 rfl)<|.e [] [1,2,3,4] [5,6,7,8] rfl rfl rfl rfl (QiR QrQ (Qjz ht62) z15 (.cons (.of z9)<|.cons (.of z8)<|.cons (.of z4)<|.cons (.of z2)<|.cons (.of z0)<|.nil))<|.n) fun n15 a w H => ?_
    have H := H.to [19,20,21,22,23,24,25,26,27,28,29,30] [_,_,_,_,_,_,_,_,_,_,_,_] [_,_,_,_,_] rfl rfl
    obtain rfl := sj h
    exact hJp173 (gh (n15 16) 0) (gh (n15 16) 1) _ _ (H.pick [0,1,2,3,4,5,6,7,8,9,10,11])
   refine wp_skip ?_
   obtain rfl := sj h
   exact hJp173 v149 v150 _ _ (H.pick [2,3,4,5,6,7,8,9,10,11,12,13])
  refine wp_exit ?_
  exact hJp163 _ v149 v150 _ _ (ho _ (sj h).symm) (H.pick [6,7,8,9,10,11,12])
 refine wp_exit ?_
 exact hJp123 _ v69 v70 _ _ (ho _ (sj h).symm) (H.pick [5,6])

/- diorama/dioramaref09.within -/
noncomputable def QaP (n_ : Int) (least_ : Int) (most_ : Int) : Option (Bool) := (some ((decide (n_ ≥ least_)) && (decide (n_ ≤ most_))))
theorem Qcj {n_ : Int} {least_ : Int} {most_ : Int} {r : Bool} (h : QaP n_ least_ most_ = some r) : FnOk Tryz.prog 111 [ti n_,ti least_,ti most_] [] (fun _ => []) (fun _ => tb r) := by
 unfold QaP at h
 refine fe Tryz.func111 Tryz.ntmps111 fun M0 M w0 a hpl H => ?_
 replace H : St M w0 15 [(0,ti n_),(1,ti least_),(2,ti most_)] [] a w0 := H
 refine sr mx [] H (fun _ => .o (Qa .k)<|.n) fun _ a w H => ?_
 have H := H.to [1,2,3] [_,_,_] [] rfl rfl
 refine sr mx [] H (fun _ => .q 0 rfl<|.q 2 rfl<|.o (QaJ z1 z0)<|.q 0 rfl<|.g rfl rfl bq0 (fun _ => Qq z4)<|.g rfl rfl bq1 (fun _ => Qq z7)<|.g rfl rfl bq2 (fun hc => QcK (.cond z1 hc) (.cond z0 hc))<|.o (QW z3 (fun hp => (.cond z0 (beqT hp))))<|.o (Qa z0)<|.n) fun _ a w H => ?_
 have H := H.to [8] [_] [] rfl rfl
 refine wp_ret ?_
 obtain rfl := sj h
 exact rt undef [] hpl H (.tmp z0 .nil)

/- diorama/dioramaref09.letter -/
noncomputable def QeZ (c_ : Int) : Option (Bool) := (some ((decide (c_ ≥ (97:Int))) && (decide (c_ ≤ (122:Int)))))
theorem QkI {c_ : Int} {r : Bool} (h : QeZ c_ = some r) : FnOk Tryz.prog 167 [tv (.int .u8 c_)] [] (fun _ => []) (fun _ => tb r) := by
 unfold QeZ at h
 refine fe Tryz.func167 Tryz.ntmps167 fun M0 M w0 a hpl H => ?_
 replace H : St M w0 9 [(0,tv (.int .u8 c_))] [] a w0 := H
 refine sr mx [] H (fun _ => .o (Qa .k)<|.n) fun _ a w H => ?_
 have H := H.to [1] [_] [] rfl rfl
 refine sr mx [] H (fun _ => .q 0 rfl<|.o (QaJ z0 .k)<|.q 0 rfl<|.g rfl rfl bq0 (fun _ => Qq z3)<|.g rfl rfl bq1 (fun hc => QcK (.cond z0 hc) .k)<|.o (QW z2 (fun hp => (.cond z0 (beqT hp))))<|.o (Qa z0)<|.n) fun _ a w H => ?_
 have H := H.to [6] [_] [] rfl rfl
 refine wp_ret ?_
 obtain rfl := sj h
 exact rt undef [] hpl H (.tmp z0 .nil)

/- diorama/dioramaref09.digit -/
noncomputable def Qis (c_ : Int) : Option (Bool) := (some ((decide (c_ ≥ (48:Int))) && (decide (c_ ≤ (57:Int)))))
theorem QoK {c_ : Int} {r : Bool} (h : Qis c_ = some r) : FnOk Tryz.prog 168 [tv (.int .u8 c_)] [] (fun _ => []) (fun _ => tb r) := by
 unfold Qis at h
 refine fe Tryz.func168 Tryz.ntmps168 fun M0 M w0 a hpl H => ?_
 replace H : St M w0 9 [(0,tv (.int .u8 c_))] [] a w0 := H
 refine sr mx [] H (fun _ => .o (Qa .k)<|.n) fun _ a w H => ?_
 have H := H.to [1] [_] [] rfl rfl
 refine sr mx [] H (fun _ => .q 0 rfl<|.o (QaJ z0 .k)<|.q 0 rfl<|.g rfl rfl bq0 (fun _ => Qq z3)<|.g rfl rfl bq1 (fun hc => QcK (.cond z0 hc) .k)<|.o (QW z2 (fun hp => (.cond z0 (beqT hp))))<|.o (Qa z0)<|.n) fun _ a w H => ?_
 have H := H.to [6] [_] [] rfl rfl
 refine wp_ret ?_
 obtain rfl := sj h
 exact rt undef [] hpl H (.tmp z0 .nil)

/- diorama/dioramaref09.IsName -/
noncomputable def Qa8 (s_ : Str) : Option (Bool) := (opt (((decide ((s_.length : Int) < (1:Int))) || (decide ((s_.length : Int) > (12:Int)))) == false) (idx s_ (0:Int)) default).bind fun t14 => (opt (((decide ((s_.length : Int) < (1:Int))) || (decide ((s_.length : Int) > (12:Int)))) == false) (QeZ ((t14).toNat : Int)) default).bind fun t15 => (if (((decide ((s_.length : Int) < (1:Int))) || (decide ((s_.length : Int) > (12:Int)))) || (!t15)) = true then (some false) else (QF (fun (s7 : Int) => ((if (decide (s7 < (s_.length : Int))) = true then (idx s_ s7).bind fun t26 => (QeZ ((t26).toNat : Int)).bind fun t27 => (opt ((!t27) == true) (idx s_ s7) default).bind fun t32 => (opt ((!t27) == true) (Qis ((t32).toNat : Int)) default).bind fun t33 => (if ((!t27) && (!t33)) = true then (some (.inr (.inr false))) else (some (.inl (IntKind.i64.wrap (s7 + (1:Int)))))) else (some (.inr (.inl ())))) : Option ((Int) ⊕ ((Unit) ⊕ (Bool))))) (0:Int)).bind fun (e8 : (Unit) ⊕ (Bool)) => (match e8 with | .inl _ => (some true) | .inr p24 => (some p24)))
theorem QbA {s_ : Str} {r : Bool} (h : Qa8 s_ = some r) : FnOk Tryz.prog 140 [tv (.string (sB s_))] [] (fun _ => []) (fun _ => tb r) := by
 unfold Qa8 at h
 refine fe Tryz.func140 Tryz.ntmps140 fun M0 M w0 a hpl H => ?_
 replace H : St M w0 36 [(0,tv (.string (sB s_)))] [] a w0 := H
 refine sr mx [] H (fun _ => .o (Qa .k)<|.n) fun _ a w H => ?_
 have H := H.to [1] [_] [] rfl rfl
 refine wp_seq_k (fun _ k2 => ?_)
 have ⟨t14,ht14,h⟩ := bs h
 have ⟨t15,ht15,h⟩ := bs h
 refine sr mx [] H (fun _ => .q 0 rfl<|.o (op_lenS' ud9 z0)<|.o (QG z0 .k)<|.q 0 rfl<|.g rfl rfl bq0 (fun _ => Qq z4)<|.g rfl rfl bq1 (fun hc => op_lenS' ud9 (.cond z0 hc))<|.g rfl rfl bq2 (fun hc => Qa0 (.cond z0 hc) .k)<|.o (Q6 z3 (fun hp => (.cond z0 (beqF hp))))<|.q 0 rfl<|.g rfl rfl bq0 (fun _ => Qq z9)<|.g rfl rfl bq1 (fun hc => QmO ud9 (.cond z0 hc) .k (Qaj ht14 hc))<|.g rfl rfl bq2 (fun hc => Qf QqU (QkI (Qaj ht15 hc)) (.cons (.of (.cond z0 hc))<|.nil))<|.g rfl rfl bq3 (fun hc => Qae (.cond z0 hc))<|.o (Q6 z4 (fun hp => (.cond z0 (beqF hp))))<|.n) fun _ a w H => ?_
 have H := H.to [13,14] [_,_] [] rfl rfl
 refine wi H h (fun b34 h => ?_) (fun b34 h => ?_)
 ·refine sr mx [] H (fun _ => .o (Qa .k)<|.n) fun _ a w H => ?_
  have H := H.to [0] [_] [] rfl rfl
  refine wp_ret ?_
  obtain rfl := sj h
  exact rt undef [] hpl H (.tmp z0 .nil)
 refine wp_skip (k2 _ _ ?_)
 refine wp_seq_k (fun K5 k5 => ?_)
 refine sr mx [] H (fun _ => .o (Qa .k)<|.n) fun _ a w H => ?_
 have H := H.to [0,2] [_,_] [] rfl rfl
 have ⟨e8,he8,h⟩ := bs h
 have hJp23 : ∀ (p23 : Unit) a w,(.inl p23) = e8 → St M w0 36 [] [] a w → K5 a w := by
  intro p23 a w he H
  subst he
  simp only at h
  refine k5 _ _ ?_
  refine sr mx [] H (fun _ => .o (Qa .k)<|.n) fun _ a w H => ?_
  have H := H.to [0] [_] [] rfl rfl
  refine wp_ret ?_
  obtain rfl := sj h
  exact rt undef [] hpl H (.tmp z0 .nil)
 have hJp24 : ∀ (p24 : Bool) a w,(.inr p24) = e8 → St M w0 36 [(2,tb p24)] [] a w → Ret Tryz.prog Tryz.f140 M0 [] w0 (fun _ => []) (fun _ => tb r) .ret a w := by
  intro p24 a w he H
  subst he
  simp only at h
  obtain rfl := sj h
  exact rt undef [] hpl H (.tmp z0 .nil)
 refine wp_block ?_
 refine QR _ (fun (s7 : Int) a w => St M w0 36 [(3,ti s7),(0,tv (.string (sB s_)))] [] a w) _ _ he8 (H.pick [0,1]) ?_
 clear h
 intro s7 o a w K26 hI h ho k26
 have H := hI
 clear hI
 refine wp_seq_k (fun _ k27 => ?_)
 refine sr mx [] H (fun _ => .q 0 rfl<|.q 2 rfl<|.o (op_lenS' ud9 z0)<|.o (QG z2 z0)<|.n) fun _ a w H => ?_
 have H := H.to [3,4,5] [_,_,_] [] rfl rfl
 refine wi H h (fun b33 h => ?_) (fun b33 h => ?_)
 ·refine wp_skip (k27 _ _ ?_)
  refine wp_seq_k (fun _ k29 => ?_)
  refine wp_block ?_
  have ⟨t26,ht26,h⟩ := bs h
  have ⟨t27,ht27,h⟩ := bs h
  have ⟨t32,ht32,h⟩ := bs h
  have ⟨t33,ht33,h⟩ := bs h
  refine sr mx [] H (fun _ => .q 2 rfl<|.q 2 rfl<|.o (QmO ud9 z1 z0 ht26)<|.o (Qf QqU (QkI ht27) (.cons (.of z0)<|.nil))<|.o (Qae z0)<|.q 0 rfl<|.g rfl rfl bq0 (fun _ => Qq z8)<|.g rfl rfl bq1 (fun _ => Qq z8)<|.g rfl rfl bq2 (fun hc => QmO ud9 (.cond z1 hc) (.cond z0 hc) (Qaj ht32 hc))<|.g rfl rfl bq3 (fun hc => Qf Quy (QoK (Qaj ht33 hc)) (.cons (.of (.cond z0 hc))<|.nil))<|.g rfl rfl bq4 (fun hc => Qae (.cond z0 hc))<|.o (QW z5 (fun hp => (.cond z0 (beqT hp))))<|.n) fun _ a w H => ?_
  have H := H.to [11,13,14] [_,_,_] [] rfl rfl
  refine wi H h (fun b32 h => ?_) (fun b32 h => ?_)
  ·refine sr mx [] H (fun _ => .o (Qa .k)<|.n) fun _ a w H => ?_
   have H := H.to [0] [_] [] rfl rfl
   refine wp_ret ?_
   exact hJp24 _ _ _ (ho _ (sj h).symm) (H.pick [0])
  refine wp_skip (k29 _ _ ?_)
  refine wr mx [] H (fun _ => .q 1 rfl<|.o (QQ z0 .k)<|.o (Qa z0)<|.n) fun _ a w H => ?_
  have H := H.to [2,4] [_,_] [] rfl rfl
  exact k26 _ _ _ (sj h).symm (H.pick [0,1])
 refine wp_exit ?_
 exact hJp23 _ _ _ (ho _ (sj h).symm) (H.pick [])

/- diorama/dioramaref09.span -/
noncomputable def Qdt (lo_ : Int) (hi_ : Int) (least_ : Int) (most_ : Int) : Option (Bool) := (some (((decide (lo_ ≥ least_)) && (decide (lo_ ≤ hi_))) && (decide (hi_ ≤ most_))))
theorem Qe0 {lo_ : Int} {hi_ : Int} {least_ : Int} {most_ : Int} {r : Bool} (h : Qdt lo_ hi_ least_ most_ = some r) : FnOk Tryz.prog 141 [ti lo_,ti hi_,ti least_,ti most_] [] (fun _ => []) (fun _ => tb r) := by
 unfold Qdt at h
 refine fe Tryz.func141 Tryz.ntmps141 fun M0 M w0 a hpl H => ?_
 replace H : St M w0 22 [(0,ti lo_),(1,ti hi_),(2,ti least_),(3,ti most_)] [] a w0 := H
 refine sr mx [] H (fun _ => .o (Qa .k)<|.n) fun _ a w H => ?_
 have H := H.to [1,2,3,4] [_,_,_,_] [] rfl rfl
 refine sr mx [] H (fun _ => .q 0 rfl<|.q 3 rfl<|.o (QaJ z1 z0)<|.q 0 rfl<|.g rfl rfl bq0 (fun _ => Qq z4)<|.g rfl rfl bq1 (fun _ => Qq z6)<|.g rfl rfl bq2 (fun hc => QcK (.cond z1 hc) (.cond z0 hc))<|.o (QW z3 (fun hp => (.cond z0 (beqT hp))))<|.q 0 rfl<|.g rfl rfl bq0 (fun _ => Qq z10)<|.g rfl rfl bq1 (fun _ => Qq z13)<|.g rfl rfl bq2 (fun hc => QcK (.cond z1 hc) (.cond z0 hc))<|.o (QW z3 (fun hp => (.cond z0 (beqT hp))))<|.o (Qa z0)<|.n) fun _ a w H => ?_
 have H := H.to [13] [_] [] rfl rfl
 refine wp_ret ?_
 obtain rfl := sj h
 exact rt undef [] hpl H (.tmp z0 .nil)

/- diorama/dioramaref09.Uses -/
noncomputable def QbB (kind_ : Int) : Option (Bool × Bool × Bool × Bool × Bool) := (some (((((((kind_ == (1:Int)) || (kind_ == (4:Int))) || (kind_ == (5:Int))) || (kind_ == (6:Int))) || (kind_ == (7:Int))) || (kind_ == (8:Int))),((kind_ == (7:Int)) || (kind_ == (8:Int))),((((((kind_ == (1:Int)) || (kind_ == (2:Int))) || (kind_ == (4:Int))) || (kind_ == (5:Int))) || (kind_ == (7:Int))) || (kind_ == (0:Int))),(((((kind_ == (1:Int)) || (kind_ == (2:Int))) || (kind_ == (4:Int))) || (kind_ == (5:Int))) || (kind_ == (7:Int))),(kind_ == (3:Int))))
theorem Ql0 {kind_ : Int} {r : Bool × Bool × Bool × Bool × Bool} (h : QbB kind_ = some r) : FnOk Tryz.prog 169 [ti kind_] [] (fun _ => []) (fun _ => ttup [tb r.1,tb r.2.1,tb r.2.2.1,tb r.2.2.2.1,tb r.2.2.2.2]) := by
 unfold QbB at h
 refine fe Tryz.func169 Tryz.ntmps169 fun M0 M w0 a hpl H => ?_
 replace H : St M w0 66 [(0,ti kind_)] [] a w0 := H
 refine sr mx [] H (fun _ => .o (Qa .k)<|.o (Qa .k)<|.o (Qa .k)<|.o (Qa .k)<|.o (Qa .k)<|.n) fun _ a w H => ?_
 have H := H.to [5] [_] [] rfl rfl
 refine sr mx [] H (fun _ => .q 0 rfl<|.o (QM z0 .k)<|.q 0 rfl<|.g rfl rfl bq0 (fun _ => Qq z3)<|.g rfl rfl bq1 (fun hc => QM (.cond z0 hc) .k)<|.o (Q6 z2 (fun hp => (.cond z0 (beqF hp))))<|.q 0 rfl<|.g rfl rfl bq0 (fun _ => Qq z7)<|.g rfl rfl bq1 (fun hc => QM (.cond z0 hc) .k)<|.o (Q6 z2 (fun hp => (.cond z0 (beqF hp))))<|.q 0 rfl<|.g rfl rfl bq0 (fun _ => Qq z11)<|.g rfl rfl bq1 (fun hc => QM (.cond z0 hc) .k)<|.o (Q6 z2 (fun hp => (.cond z0 (beqF hp))))<|.q 0 rfl<|.g rfl rfl bq0 (fun _ => Qq z15)<|.g rfl rfl bq1 (fun hc => QM (.cond z0 hc) .k)<|.o (Q6 z2 (fun hp => (.cond z0 (beqF hp))))<|.q 0 rfl<|.g rfl rfl bq0 (fun _ => Qq z19)<|.g rfl rfl bq1 (fun hc => QM (.cond z0 hc) .k)<|.o (Q6 z2 (fun hp => (.cond z0 (beqF hp))))<|.o (Qa z0)<|.n) fun _ a w H => ?_
 have H := H.to [22,23] [_,_] [] rfl rfl
 refine sr mx [] H (fun _ => .q 1 rfl<|.o (QM z0 .k)<|.q 0 rfl<|.g rfl rfl bq0 (fun _ => Qq z4)<|.g rfl rfl bq1 (fun hc => QM (.cond z0 hc) .k)<|.o (Q6 z2 (fun hp => (.cond z0 (beqF hp))))<|.o (Qa z0)<|.n) fun _ a w H => ?_
 have H := H.to [6,7,8] [_,_,_] [] rfl rfl
 refine sr mx [] H (fun _ => .q 2 rfl<|.o (QM z0 .k)<|.q 0 rfl<|.g rfl rfl bq0 (fun _ => Qq z5)<|.g rfl rfl bq1 (fun hc => QM (.cond z0 hc) .k)<|.o (Q6 z2 (fun hp => (.cond z0 (beqF hp))))<|.q 0 rfl<|.g rfl rfl bq0 (fun _ => Qq z9)<|.g rfl rfl bq1 (fun hc => QM (.cond z0 hc) .k)<|.o (Q6 z2 (fun hp => (.cond z0 (beqF hp))))<|.q 0 rfl<|.g rfl rfl bq0 (fun _ => Qq z13)<|.g rfl rfl bq1 (fun hc => QM (.cond z0 hc) .k)<|.o (Q6 z2 (fun hp => (.cond z0 (beqF hp))))<|.q 0 rfl<|.g rfl rfl bq0 (fun _ => Qq z17)<|.g rfl rfl bq1 (fun hc => QM (.cond z0 hc) .k)<|.o (Q6 z2 (fun hp => (.cond z0 (beqF hp))))<|.o (Qa z0)<|.n) fun _ a w H => ?_
 have H := H.to [18,19,20,21] [_,_,_,_] [] rfl rfl
 refine sr mx [] H (fun _ => .q 2 rfl<|.q 2 rfl<|.q 2 rfl<|.q 0 rfl<|.g rfl rfl bq0 (fun _ => Qq z7)<|.g rfl rfl bq1 (fun hc => QM (.cond z0 hc) .k)<|.o (Q6 z2 (fun hp => (.cond z0 (beqF hp))))<|.q 7 rfl<|.q 11 rfl<|.o (QM z0 .k)<|.o (Qa z9)<|.o (Qa z9)<|.o (Qa z5)<|.o (Qa z5)<|.o (Qa z4)<|.n) fun _ a w H => ?_
 have H := H.to [10,11,12,13,14] [_,_,_,_,_] [] rfl rfl
 refine wp_ret ?_
 obtain rfl := sj h
 exact rt undef [] hpl H (.tmp z0 (.tmp z1 (.tmp z2 (.tmp z3 (.tmp z4 .nil)))))

/- diorama/dioramaref09.names -/
noncomputable def Qfu (l_ : (List Str)) : Option (Bool) := (QF (fun (s4 : Int) => ((if (decide (s4 < (l_.length : Int))) = true then (idx l_ s4).bind fun t12 => (Qa8 t12).bind fun t14 => (if (!t14) = true then (some (.inr (.inr false))) else (some (.inl (IntKind.i64.wrap (s4 + (1:Int)))))) else (some (.inr (.inl ())))) : Option ((Int) ⊕ ((Unit) ⊕ (Bool))))) (0:Int)).bind fun (e5 : (Unit) ⊕ (Bool)) => (match e5 with | .inl _ => (some true) | .inr p21 => (some p21))
theorem Qlf {l_ : (List Str)} {r : Bool} (h : Qfu l_ = some r) : FnOk Tryz.prog 143 [tsl rS l_] [] (fun _ => []) (fun _ => tb r) := by
 unfold Qfu at h
 refine fe Tryz.func143 Tryz.ntmps143 fun M0 M w0 a hpl H => ?_
 replace H : St M w0 16 [(0,tsl rS l_)] [] a w0 := H
 refine sr mx [] H (fun _ => .o (Qa .k)<|.n) fun _ a w H => ?_
 have H := H.to [1] [_] [] rfl rfl
 refine wp_seq_k (fun K2 k2 => ?_)
 refine sr mx [] H (fun _ => .o (Qa .k)<|.n) fun _ a w H => ?_
 have H := H.to [0,1] [_,_] [] rfl rfl
 have ⟨e5,he5,h⟩ := bs h
 have hJp20 : ∀ (p20 : Unit) a w,(.inl p20) = e5 → St M w0 16 [] [] a w → K2 a w := by
  intro p20 a w he H
  subst he
  simp only at h
  refine k2 _ _ ?_
  refine sr mx [] H (fun _ => .o (Qa .k)<|.n) fun _ a w H => ?_
  have H := H.to [0] [_] [] rfl rfl
  refine wp_ret ?_
  obtain rfl := sj h
  exact rt undef [] hpl H (.tmp z0 .nil)
 have hJp21 : ∀ (p21 : Bool) a w,(.inr p21) = e5 → St M w0 16 [(2,tb p21)] [] a w → Ret Tryz.prog Tryz.f143 M0 [] w0 (fun _ => []) (fun _ => tb r) .ret a w := by
  intro p21 a w he H
  subst he
  simp only at h
  obtain rfl := sj h
  exact rt undef [] hpl H (.tmp z0 .nil)
 refine wp_block ?_
 refine QR _ (fun (s4 : Int) a w => St M w0 16 [(3,ti s4),(0,tsl rS l_)] [] a w) _ _ he5 (H.pick [0,1]) ?_
 clear h
 intro s4 o a w K23 hI h ho k23
 have H := hI
 clear hI
 refine wp_seq_k (fun _ k24 => ?_)
 refine sr mx [] H (fun _ => .q 0 rfl<|.q 2 rfl<|.o (QE ud32 z0)<|.o (QG z2 z0)<|.n) fun _ a w H => ?_
 have H := H.to [3,4,5] [_,_,_] [] rfl rfl
 refine wi H h (fun b30 h => ?_) (fun b30 h => ?_)
 ·refine wp_skip (k24 _ _ ?_)
  refine wp_seq_k (fun _ k26 => ?_)
  refine wp_block ?_
  have ⟨t12,ht12,h⟩ := bs h
  have ⟨t14,ht14,h⟩ := bs h
  refine sr mx [] H (fun _ => .q 2 rfl<|.q 2 rfl<|.o (Qr ud32 tok9 z1 z0 ht12)<|.o (Qm tok9 z0)<|.o (Qf Qgx (QbA ht14) (.cons (.of z0)<|.nil))<|.o (Qae z0)<|.n) fun _ a w H => ?_
  have H := H.to [5,7,8] [_,_,_] [] rfl rfl
  refine wi H h (fun b29 h => ?_) (fun b29 h => ?_)
  ·refine sr mx [] H (fun _ => .o (Qa .k)<|.n) fun _ a w H => ?_
   have H := H.to [0] [_] [] rfl rfl
   refine wp_ret ?_
   exact hJp21 _ _ _ (ho _ (sj h).symm) (H.pick [0])
  refine wp_skip (k26 _ _ ?_)
  refine wr mx [] H (fun _ => .q 1 rfl<|.o (QQ z0 .k)<|.o (Qa z0)<|.n) fun _ a w H => ?_
  have H := H.to [2,4] [_,_] [] rfl rfl
  exact k23 _ _ _ (sj h).symm (H.pick [0,1])
 refine wp_exit ?_
 exact hJp20 _ _ _ (ho _ (sj h).symm) (H.pick [])

/- diorama/dioramaref09.isPick -/
noncomputable def Qgg (f_ : Qc) : Option (Bool) := (QF (fun (s5 : Int × Int) => ((if (decide (s5.1 < ((f_).Weights.length : Int))) = true then (idx (f_).Weights s5.1).bind fun t15 => (QaP t15 (0:Int) (1048576:Int)).bind fun t17 => (if (!t17) = true then (some (.inr (.inr false))) else (idx (f_).Weights s5.1).bind fun t23 => (some (.inl ((IntKind.i64.wrap (s5.1 + (1:Int))),(IntKind.i64.wrap (s5.2 + t23)))))) else (some (.inr (.inl s5.2)))) : Option ((Int × Int) ⊕ ((Int) ⊕ (Bool))))) ((0:Int),(0:Int))).bind fun (e6 : (Int) ⊕ (Bool)) => (match e6 with | .inl p23 => (QaP ((f_).Words.length : Int) (1:Int) (12:Int)).bind fun t29 => (opt (((t29 && (((f_).Words.length : Int) == ((f_).Weights.length : Int))) && (decide (p23 > (0:Int)))) == true) (Qfu (f_).Words) default).bind fun t46 => (some (((t29 && (((f_).Words.length : Int) == ((f_).Weights.length : Int))) && (decide (p23 > (0:Int)))) && t46)) | .inr p24 => (some p24))
theorem Qob {f_ : Qc} {r : Bool} (h : Qgg f_ = some r) : FnOk Tryz.prog 170 [Qb.ty f_] [] (fun _ => []) (fun _ => tb r) := by
 unfold Qgg at h
 refine fe Tryz.func170 Tryz.ntmps170 fun M0 M w0 a hpl H => ?_
 replace H : St M w0 48 [(0,Qb.ty f_)] [] a w0 := H
 refine sr mx [] H (fun _ => .o (QV (R := Qb) (u := f_) z0)<|.o (Qa .k)<|.n) fun _ a w H => ?_
 have H := H.to [0] [_] [] rfl rfl
 refine sr mx [] H (fun _ => .o (Qa .k)<|.n) fun _ a w H => ?_
 have H := H.to [0,1] [_,_] [] rfl rfl
 refine wp_seq_k (fun K3 k3 => ?_)
 refine sr mx [] H (fun _ => .o (Qa .k)<|.n) fun _ a w H => ?_
 have H := H.to [0,1,2] [_,_,_] [] rfl rfl
 have ⟨e6,he6,h⟩ := bs h
 have hJp23 : ∀ (p23 : Int) a w,(.inl p23) = e6 → St M w0 48 [(3,ti p23),(1,tptr (Qb.cs f_))] [] a w → K3 a w := by
  intro p23 a w he H
  subst he
  simp only at h
  refine k3 _ _ ?_
  have ⟨t29,ht29,h⟩ := bs h
  have ⟨t46,ht46,h⟩ := bs h
  refine sr mx [] H (fun _ => .o (Qe QcM z1)<|.o (Qd (u := (f_).Words) Qbx z0 rfl)<|.o (QE ud32 z0)<|.o (Qf Qh2 (Qcj ht29) (.cons (.of z0)<|.cons (.of .k)<|.cons (.of .k)<|.nil))<|.q 0 rfl<|.g rfl rfl bq0 (fun _ => Qe QcM z6)<|.g rfl rfl bq1 (fun hc => Qd (u := (f_).Words) Qbx (.cond z0 hc) rfl)<|.g rfl rfl bq2 (fun hc => QE ud32 (.cond z0 hc))<|.g rfl rfl bq3 (fun _ => Qe Qcl z9)<|.g rfl rfl bq4 (fun hc => Qd (u := (f_).Weights) Qdc (.cond z0 hc) rfl)<|.g rfl rfl bq5 (fun hc => QE ud22 (.cond z0 hc))<|.g rfl rfl bq6 (fun hc => QM (.cond z3 hc) (.cond z0 hc))<|.o (QW z7 (fun hp => (.cond z0 (beqT hp))))<|.q 0 rfl<|.g rfl rfl bq0 (fun _ => Qq z14)<|.g rfl rfl bq1 (fun hc => Qa0 (.cond z0 hc) .k)<|.o (QW z2 (fun hp => (.cond z0 (beqT hp))))<|.q 0 rfl<|.g rfl rfl bq0 (fun _ => Qe QcM z19)<|.g rfl rfl bq1 (fun hc => Qd (u := (f_).Words) Qbx (.cond z0 hc) rfl)<|.g rfl rfl bq2 (fun hc => Qf QqR (Qlf (Qaj ht46 hc)) (.cons (.of (.cond z0 hc))<|.nil))<|.o (QW z3 (fun hp => (.cond z0 (beqT hp))))<|.o (Qa z0)<|.n) fun _ a w H => ?_
  have H := H.to [22] [_] [] rfl rfl
  refine wp_ret ?_
  obtain rfl := sj h
  exact rt undef [] hpl H (.tmp z0 .nil)
 have hJp24 : ∀ (p24 : Bool) a w,(.inr p24) = e6 → St M w0 48 [(2,tb p24)] [] a w → Ret Tryz.prog Tryz.f170 M0 [] w0 (fun _ => []) (fun _ => tb r) .ret a w := by
  intro p24 a w he H
  subst he
  simp only at h
  obtain rfl := sj h
  exact rt undef [] hpl H (.tmp z0 .nil)
 refine wp_block ?_
 refine QR _ (fun (s5 : Int × Int) a w => St M w0 48 [(4,ti s5.1),(3,ti s5.2),(1,tptr (Qb.cs f_))] [] a w) _ _ he6 (H.pick [0,1,2]) ?_
 clear h
 intro s5 o a w K26 hI h ho k26
 have H := hI
 clear hI
 refine wp_seq_k (fun _ k27 => ?_)
 refine sr mx [] H (fun _ => .q 0 rfl<|.o (Qe Qcl z3)<|.o (Qd (u := (f_).Weights) Qdc z0 rfl)<|.o (QE ud22 z0)<|.o (QG z3 z0)<|.n) fun _ a w H => ?_
 have H := H.to [4,5,6,7] [_,_,_,_] [] rfl rfl
 refine wi H h (fun b34 h => ?_) (fun b34 h => ?_)
 ·refine wp_skip (k27 _ _ ?_)
  refine wp_seq_k (fun _ k29 => ?_)
  refine wp_block ?_
  refine wp_seq_k (fun _ k30 => ?_)
  have ⟨t15,ht15,h⟩ := bs h
  have ⟨t17,ht17,h⟩ := bs h
  refine sr mx [] H (fun _ => .o (Qe Qcl z3)<|.o (Qd (u := (f_).Weights) Qdc z0 rfl)<|.q 3 rfl<|.o (Qr ud22 tok3 z1 z0 ht15)<|.o (Qm tok3 z0)<|.o (Qf Qh2 (Qcj ht17) (.cons (.of z0)<|.cons (.of .k)<|.cons (.of .k)<|.nil))<|.o (Qae z0)<|.n) fun _ a w H => ?_
  have H := H.to [6,8,9,10] [_,_,_,_] [] rfl rfl
  refine wi H h (fun b33 h => ?_) (fun b33 h => ?_)
  ·refine sr mx [] H (fun _ => .o (Qa .k)<|.n) fun _ a w H => ?_
   have H := H.to [0] [_] [] rfl rfl
   refine wp_ret ?_
   exact hJp24 _ _ _ (ho _ (sj h).symm) (H.pick [0])
  refine wp_skip (k30 _ _ ?_)
  have ⟨t23,ht23,h⟩ := bs h
  refine wr mx [] H (fun _ => .q 2 rfl<|.o (Qe Qcl z4)<|.o (Qd (u := (f_).Weights) Qdc z0 rfl)<|.q 4 rfl<|.o (Qr ud22 tok3 z1 z0 ht23)<|.o (Qm tok3 z0)<|.o (QQ z5 z0)<|.o (Qa z0)<|.n) fun _ a w H => ?_
  have H := H.to [7,9,10] [_,_,_] [] rfl rfl
  refine k29 _ _ ?_
  refine wr mx [] H (fun _ => .q 1 rfl<|.o (QQ z0 .k)<|.o (Qa z0)<|.n) fun _ a w H => ?_
  have H := H.to [2,3,4] [_,_,_] [] rfl rfl
  exact k26 _ _ _ (sj h).symm (H.pick [0,1,2])
 refine wp_exit ?_
 exact hJp23 _ _ _ (ho _ (sj h).symm) (H.pick [2,3])

/- diorama/dioramaref09.isField -/
noncomputable def Qfv (f_ : Qc) : Option (Bool) := (QbB (f_).Kind).bind fun t11 => (opt (((decide ((f_).Kind < (0:Int))) || (decide ((f_).Kind ≥ (9:Int)))) == false) (Qa8 (f_).Name) default).bind fun t28 => (if ((((((((decide ((f_).Kind < (0:Int))) || (decide ((f_).Kind ≥ (9:Int)))) || (!t28)) || ((!t11.1) && ((f_).Of != ([] : Str)))) || ((!t11.2.1) && ((f_).Up != ([] : Str)))) || ((!t11.2.2.1) && ((f_).Lo != (0:Int)))) || ((!t11.2.2.2.1) && ((f_).Hi != (0:Int)))) || ((!t11.2.2.2.2) && (decide ((IntKind.i64.wrap (((f_).Words.length : Int) + ((f_).Weights.length : Int))) > (0:Int))))) = true then (some false) else (opt (t11.1 == true) (Qa8 (f_).Of) default).bind fun t85 => (opt ((((t11.1 && (!t85)) && (((f_).Kind != (4:Int)) || ((f_).Of != ([] : Str)))) == false) && (t11.2.1 == true)) (Qa8 (f_).Up) default).bind fun t103 => (if (((t11.1 && (!t85)) && (((f_).Kind != (4:Int)) || ((f_).Of != ([] : Str)))) || (t11.2.1 && (!t103))) = true then (some false) else (if ((f_).Kind == (0:Int)) = true then (QaP (f_).Lo (-1048576:Int) (1048576:Int)).bind fun t113 => (some t113) else (if ((f_).Kind == (1:Int)) = true then (Qdt (f_).Lo (f_).Hi (0:Int) (65536:Int)).bind fun t120 => (some t120) else (if ((f_).Kind == (2:Int)) = true then (Qdt (f_).Lo (f_).Hi (-1048576:Int) (1048576:Int)).bind fun t127 => (some t127) else (if ((f_).Kind == (4:Int)) = true then (Qdt (f_).Lo (f_).Hi (-1048576:Int) (1048576:Int)).bind fun t134 => (some t134) else (if ((f_).Kind == (5:Int)) = true then (Qdt (f_).Lo (f_).Hi (0:Int) (32:Int)).bind fun t141 => (some t141) else (if ((f_).Kind == (7:Int)) = true then (Qdt (f_).Lo (f_).Hi (0:Int) (1048576:Int)).bind fun t148 => (some t148) else (if ((f_).Kind == (3:Int)) = true then (Qgg f_).bind fun t152 => (some t152) else (some true))))))))))
theorem Qns {f_ : Qc} {r : Bool} (h : Qfv f_ = some r) : FnOk Tryz.prog 142 [Qb.ty f_] [] (fun _ => []) (fun _ => tb r) := by
 unfold Qfv at h
 refine fe Tryz.func142 Tryz.ntmps142 fun M0 M w0 a hpl H => ?_
 replace H : St M w0 153 [(0,Qb.ty f_)] [] a w0 := H
 refine sr mx [] H (fun _ => .o (QV (R := Qb) (u := f_) z0)<|.o (Qa .k)<|.n) fun _ a w H => ?_
 have H := H.to [0] [_] [] rfl rfl
 have ⟨t11,ht11,h⟩ := bs h
 refine sr mx [] H (fun _ => .o (Qe Qao z0)<|.o (Qd (u := (f_).Kind) tok3 z0 rfl)<|.o (Qf QqV (Ql0 ht11) (.cons (.of z0)<|.nil))<|.q 0 rfl<|.o (QU z0 rfl)<|.o (QU z1 rfl)<|.o (QU z2 rfl)<|.o (QU z3 rfl)<|.o (QU z4 rfl)<|.o (Qa z4)<|.o (Qa z4)<|.o (Qa z4)<|.o (Qa z4)<|.o (Qa z4)<|.n) fun _ a w H => ?_
 have H := H.to [9,10,11,12,13,14] [_,_,_,_,_,_] [] rfl rfl
 refine wp_seq_k (fun _ k3 => ?_)
 have ⟨t28,ht28,h⟩ := bs h
 refine sr mx [] H (fun _ => .o (Qe Qao z5)<|.o (Qd (u := (f_).Kind) tok3 z0 rfl)<|.o (QG z0 .k)<|.q 0 rfl<|.g rfl rfl bq0 (fun _ => Qe Qao z9)<|.g rfl rfl bq1 (fun hc => Qd (u := (f_).Kind) tok3 (.cond z0 hc) rfl)<|.g rfl rfl bq2 (fun hc => QaJ (.cond z0 hc) .k)<|.o (Q6 z3 (fun hp => (.cond z0 (beqF hp))))<|.q 0 rfl<|.g rfl rfl bq0 (fun _ => Qe Qbd z14)<|.g rfl rfl bq1 (fun hc => Qd (u := (f_).Name) tok9 (.cond z0 hc) rfl)<|.g rfl rfl bq2 (fun hc => Qf Qgx (QbA (Qaj ht28 hc)) (.cons (.of (.cond z0 hc))<|.nil))<|.g rfl rfl bq3 (fun hc => Qae (.cond z0 hc))<|.o (Q6 z4 (fun hp => (.cond z0 (beqF hp))))<|.q 0 rfl<|.g rfl rfl bq0 (fun _ => Qq z15)<|.g rfl rfl bq1 (fun hc => Qae (.cond z0 hc))<|.g rfl rfl bq2 (fun hc => Qq (.cond z0 hc))<|.g rfl rfl (.c 0 rfl) (fun _ => Qe Qas z23)<|.g rfl rfl (.c 1 rfl) (fun hc => Qd (u := (f_).Of) tok9 (.cond z0 hc) rfl)<|.g rfl rfl (.c 2 rfl) (fun hc => Qeb (.cond z0 hc) .k)<|.g rfl rfl bq6 (fun hc => QW (.cond z3 hc) (fun hp => (.cond z0 (Qc8 hc (beqT hp)))))<|.o (Q6 z7 (fun hp => (.cond z0 (beqF hp))))<|.q 0 rfl<|.g rfl rfl bq0 (fun _ => Qq z25)<|.g rfl rfl bq1 (fun hc => Qae (.cond z0 hc))<|.g rfl rfl bq2 (fun hc => Qq (.cond z0 hc))<|.g rfl rfl (.c 0 rfl) (fun _ => Qe Qda (.t 32 rfl))<|.g rfl rfl (.c 1 rfl) (fun hc => Qd (u := (f_).Up) tok9 (.cond z0 hc) rfl)<|.g rfl rfl (.c 2 rfl) (fun hc => Qeb (.cond z0 hc) .k)<|.g rfl rfl bq6 (fun hc => QW (.cond z3 hc) (fun hp => (.cond z0 (Qc8 hc (beqT hp)))))<|.o (Q6 z7 (fun hp => (.cond z0 (beqF hp))))<|.q 0 rfl<|.g rfl rfl bq0 (fun _ => Qq (.t 35 rfl))<|.g rfl rfl bq1 (fun hc => Qae (.cond z0 hc))<|.g rfl rfl bq2 (fun hc => Qq (.cond z0 hc))<|.g rfl rfl (.c 0 rfl) (fun _ => Qe QaE (.t 41 rfl))<|.g rfl rfl (.c 1 rfl) (fun hc => Qd (u := (f_).Lo) tok3 (.cond z0 hc) rfl)<|.g rfl rfl (.c 2 rfl) (fun hc => Qau (.cond z0 hc) .k)<|.g rfl rfl bq6 (fun hc => QW (.cond z3 hc) (fun hp => (.cond z0 (Qc8 hc (beqT hp)))))<|.o (Q6 z7 (fun hp => (.cond z0 (beqF hp))))<|.q 0 rfl<|.g rfl rfl bq0 (fun _ => Qq (.t 45 rfl))<|.g rfl rfl bq1 (fun hc => Qae (.cond z0 hc))<|.g rfl rfl bq2 (fun hc => Qq (.cond z0 hc))<|.g rfl rfl (.c 0 rfl) (fun _ => Qe QaV (.t 50 rfl))<|.g rfl rfl (.c 1 rfl) (fun hc => Qd (u := (f_).Hi) tok3 (.cond z0 hc) rfl)<|.g rfl rfl (.c 2 rfl) (fun hc => Qau (.cond z0 hc) .k)<|.g rfl rfl bq6 (fun hc => QW (.cond z3 hc) (fun hp => (.cond z0 (Qc8 hc (beqT hp)))))<|.o (Q6 z7 (fun hp => (.cond z0 (beqF hp))))<|.q 0 rfl<|.g rfl rfl bq0 (fun _ => Qq (.t 55 rfl))<|.g rfl rfl bq1 (fun hc => Qae (.cond z0 hc))<|.g rfl rfl bq2 (fun hc => Qq (.cond z0 hc))<|.g rfl rfl (.c 0 rfl) (fun _ => Qe QcM (.t 59 rfl))<|.g rfl rfl (.c 1 rfl) (fun hc => Qd (u := (f_).Words) Qbx (.cond z0 hc) rfl)<|.g rfl rfl (.c 2 rfl) (fun hc => QE ud32 (.cond z0 hc))<|.g rfl rfl (.c 3 rfl) (fun _ => Qe Qcl (.t 62 rfl))<|.g rfl rfl (.c 4 rfl) (fun hc => Qd (u := (f_).Weights) Qdc (.cond z0 hc) rfl)<|.g rfl rfl (.c 5 rfl) (fun hc => QE ud22 (.cond z0 hc))<|.g rfl rfl (.c 6 rfl) (fun hc => QQ (.cond z3 hc) (.cond z0 hc))<|.g rfl rfl (.c 7 rfl) (fun hc => Qa0 (.cond z0 hc) .k)<|.g rfl rfl (.b 11 rfl) (fun hc => QW (.cond z8 hc) (fun hp => (.cond z0 (Qc8 hc (beqT hp)))))<|.o (Q6 z12 (fun hp => (.cond z0 (beqF hp))))<|.n) fun _ a w H => ?_
 have H := H.to [63,64,65,69] [_,_,_,_] [] rfl rfl
 refine wi H h (fun b34 h => ?_) (fun b34 h => ?_)
 ·refine sr mx [] H (fun _ => .o (Qa .k)<|.n) fun _ a w H => ?_
  have H := H.to [0] [_] [] rfl rfl
  refine wp_ret ?_
  obtain rfl := sj h
  exact rt undef [] hpl H (.tmp z0 .nil)
 refine wp_skip (k3 _ _ ?_)
 refine wp_seq_k (fun _ k6 => ?_)
 have ⟨t85,ht85,h⟩ := bs h
 have ⟨t103,ht103,h⟩ := bs h
 refine sr mx [] H (fun _ => .q 1 rfl<|.q 0 rfl<|.g rfl rfl bq0 (fun _ => Qe Qas z5)<|.g rfl rfl bq1 (fun hc => Qd (u := (f_).Of) tok9 (.cond z0 hc) rfl)<|.g rfl rfl bq2 (fun hc => Qf Qgx (QbA (Qaj ht85 hc)) (.cons (.of (.cond z0 hc))<|.nil))<|.g rfl rfl bq3 (fun hc => Qae (.cond z0 hc))<|.o (QW z4 (fun hp => (.cond z0 (beqT hp))))<|.q 0 rfl<|.g rfl rfl bq0 (fun _ => Qe Qao z11)<|.g rfl rfl bq1 (fun hc => Qd (u := (f_).Kind) tok3 (.cond z0 hc) rfl)<|.g rfl rfl bq2 (fun hc => Qau (.cond z0 hc) .k)<|.g rfl rfl bq3 (fun hc => Qq (.cond z0 hc))<|.g rfl rfl (.c 0 rfl) (fun _ => Qe Qas z15)<|.g rfl rfl (.c 1 rfl) (fun hc => Qd (u := (f_).Of) tok9 (.cond z0 hc) rfl)<|.g rfl rfl (.c 2 rfl) (fun hc => Qeb (.cond z0 hc) .k)<|.g rfl rfl bq7 (fun hc => Q6 (.cond z3 hc) (fun hp => (.cond z0 (Qc8 hc (beqF hp)))))<|.o (QW z8 (fun hp => (.cond z0 (beqT hp))))<|.q 0 rfl<|.g rfl rfl bq0 (fun _ => Qq z20)<|.g rfl rfl bq1 (fun hc => Qq (.cond z0 hc))<|.g rfl rfl (.c 0 rfl) (fun _ => Qe Qda z23)<|.g rfl rfl (.c 1 rfl) (fun hc => Qd (u := (f_).Up) tok9 (.cond z0 hc) rfl)<|.g rfl rfl (.c 2 rfl) (fun hc => Qf Qgx (QbA (Qaj ht103 hc)) (.cons (.of (.cond z0 hc))<|.nil))<|.g rfl rfl (.c 3 rfl) (fun hc => Qae (.cond z0 hc))<|.g rfl rfl bq6 (fun hc => QW (.cond z4 hc) (fun hp => (.cond z0 (Qc8 hc (beqT hp)))))<|.o (Q6 z7 (fun hp => (.cond z0 (beqF hp))))<|.n) fun _ a w H => ?_
 have H := H.to [25,29] [_,_] [] rfl rfl
 refine wi H h (fun b33 h => ?_) (fun b33 h => ?_)
 ·refine sr mx [] H (fun _ => .o (Qa .k)<|.n) fun _ a w H => ?_
  have H := H.to [0] [_] [] rfl rfl
  refine wp_ret ?_
  obtain rfl := sj h
  exact rt undef [] hpl H (.tmp z0 .nil)
 refine wp_skip (k6 _ _ ?_)
 refine wp_seq_k (fun _ k9 => ?_)
 refine sr mx [] H (fun _ => .o (Qe Qao z1)<|.o (Qd (u := (f_).Kind) tok3 z0 rfl)<|.n) fun _ a w H => ?_
 have H := H.to [1,3] [_,_] [] rfl rfl
 refine wp_block ?_
 refine sr mx [] H (fun _ => .o (QM z0 .k)<|.o (Qa z0)<|.n) fun _ a w H => ?_
 have H := H.to [1,2,3] [_,_,_] [] rfl rfl
 refine wi H h (fun b32 h => ?_) (fun b32 h => ?_)
 ·have ⟨t113,ht113,h⟩ := bs h
  refine sr mx [] H (fun _ => .o (Qe QaE z2)<|.o (Qd (u := (f_).Lo) tok3 z0 rfl)<|.o (Qf Qh2 (Qcj ht113) (.cons (.of z0)<|.cons (.of .k)<|.cons (.of .k)<|.nil))<|.o (Qa z0)<|.n) fun _ a w H => ?_
  have H := H.to [3] [_] [] rfl rfl
  refine wp_ret ?_
  obtain rfl := sj h
  exact rt undef [] hpl H (.tmp z0 .nil)
 refine sr mx [] H (fun _ => .o (QM z1 .k)<|.o (Qa z0)<|.n) fun _ a w H => ?_
 have H := H.to [1,3,4] [_,_,_] [] rfl rfl
 refine wi H h (fun b31 h => ?_) (fun b31 h => ?_)
 ·have ⟨t120,ht120,h⟩ := bs h
  refine sr mx [] H (fun _ => .o (Qe QaE z2)<|.o (Qd (u := (f_).Lo) tok3 z0 rfl)<|.o (Qe QaV z4)<|.o (Qd (u := (f_).Hi) tok3 z0 rfl)<|.o (Qf Qke (Qe0 ht120) (.cons (.of z2)<|.cons (.of z0)<|.cons (.of .k)<|.cons (.of .k)<|.nil))<|.o (Qa z0)<|.n) fun _ a w H => ?_
  have H := H.to [5] [_] [] rfl rfl
  refine wp_ret ?_
  obtain rfl := sj h
  exact rt undef [] hpl H (.tmp z0 .nil)
 refine sr mx [] H (fun _ => .o (QM z1 .k)<|.o (Qa z0)<|.n) fun _ a w H => ?_
 have H := H.to [1,3,4] [_,_,_] [] rfl rfl
 refine wi H h (fun b30 h => ?_) (fun b30 h => ?_)
 ·have ⟨t127,ht127,h⟩ := bs h
  refine sr mx [] H (fun _ => .o (Qe QaE z2)<|.o (Qd (u := (f_).Lo) tok3 z0 rfl)<|.o (Qe QaV z4)<|.o (Qd (u := (f_).Hi) tok3 z0 rfl)<|.o (Qf Qke (Qe0 ht127) (.cons (.of z2)<|.cons (.of z0)<|.cons (.of .k)<|.cons (.of .k)<|.nil))<|.o (Qa z0)<|.n) fun _ a w H => ?_
  have H := H.to [5] [_] [] rfl rfl
  refine wp_ret ?_
  obtain rfl := sj h
  exact rt undef [] hpl H (.tmp z0 .nil)
 refine sr mx [] H (fun _ => .o (QM z1 .k)<|.o (Qa z0)<|.n) fun _ a w H => ?_
 have H := H.to [1,3,4] [_,_,_] [] rfl rfl
 refine wi H h (fun b29 h => ?_) (fun b29 h => ?_)
 ·have ⟨t134,ht134,h⟩ := bs h
  refine sr mx [] H (fun _ => .o (Qe QaE z2)<|.o (Qd (u := (f_).Lo) tok3 z0 rfl)<|.o (Qe QaV z4)<|.o (Qd (u := (f_).Hi) tok3 z0 rfl)<|.o (Qf Qke (Qe0 ht134) (.cons (.of z2)<|.cons (.of z0)<|.cons (.of .k)<|.cons (.of .k)<|.nil))<|.o (Qa z0)<|.n) fun _ a w H => ?_
  have H := H.to [5] [_] [] rfl rfl
  refine wp_ret ?_
  obtain rfl := sj h
  exact rt undef [] hpl H (.tmp z0 .nil)
 refine sr mx [] H (fun _ => .o (QM z1 .k)<|.o (Qa z0)<|.n) fun _ a w H => ?_
 have H := H.to [1,3,4] [_,_,_] [] rfl rfl
 refine wi H h (fun b28 h => ?_) (fun b28 h => ?_)
 ·have ⟨t141,ht141,h⟩ := bs h
  refine sr mx [] H (fun _ => .o (Qe QaE z2)<|.o (Qd (u := (f_).Lo) tok3 z0 rfl)<|.o (Qe QaV z4)<|.o (Qd (u := (f_).Hi) tok3 z0 rfl)<|.o (Qf Qke (Qe0 ht141) (.cons (.of z2)<|.cons (.of z0)<|.cons (.of .k)<|.cons (.of .k)<|.nil))<|.o (Qa z0)<|.n) fun _ a w H => ?_
  have H := H.to [5] [_] [] rfl rfl
  refine wp_ret ?_
  obtain rfl := sj h
  exact rt undef [] hpl H (.tmp z0 .nil)
 refine sr mx [] H (fun _ => .o (QM z1 .k)<|.o (Qa z0)<|.n) fun _ a w H => ?_
 have H := H.to [1,3,4] [_,_,_] [] rfl rfl
 refine wi H h (fun b27 h => ?_) (fun b27 h => ?_)
 ·have ⟨t148,ht148,h⟩ := bs h
  refine sr mx [] H (fun _ => .o (Qe QaE z2)<|.o (Qd (u := (f_).Lo) tok3 z0 rfl)<|.o (Qe QaV z4)<|.o (Qd (u := (f_).Hi) tok3 z0 rfl)<|.o (Qf Qke (Qe0 ht148) (.cons (.of z2)<|.cons (.of z0)<|.cons (.of .k)<|.cons (.of .k)<|.nil))<|.o (Qa z0)<|.n) fun _ a w H => ?_
  have H := H.to [5] [_] [] rfl rfl
  refine wp_ret ?_
  obtain rfl := sj h
  exact rt undef [] hpl H (.tmp z0 .nil)
 refine sr mx [] H (fun _ => .o (QM z1 .k)<|.o (Qa z0)<|.n) fun _ a w H => ?_
 have H := H.to [1,4] [_,_] [] rfl rfl
 refine wi H h (fun b26 h => ?_) (fun b26 h => ?_)
 ·have ⟨t152,ht152,h⟩ := bs h
  refine sr mx [] H (fun _ => .o (Qm QI z1)<|.o (Qf Quz (Qob ht152) (.cons (.of z0)<|.nil))<|.o (Qa z0)<|.n) fun _ a w H => ?_
  have H := H.to [2] [_] [] rfl rfl
  refine wp_ret ?_
  obtain rfl := sj h
  exact rt undef [] hpl H (.tmp z0 .nil)
 refine wp_skip (k9 _ _ ?_)
 refine sr mx [] H (fun _ => .o (Qa .k)<|.n) fun _ a w H => ?_
 have H := H.to [0] [_] [] rfl rfl
 refine wp_ret ?_
 obtain rfl := sj h
 exact rt undef [] hpl H (.tmp z0 .nil)

end Go.Proofs.YtcdccjagknlmpaaGreatDoor

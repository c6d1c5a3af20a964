/- Go functions as Lean functions, and the proofs that they compute them, written by a program. No condition. -/
import Derived.Test.YtcdccjagknlmpaaGreatDoorGenJ
namespace Go.Proofs.YtcdccjagknlmpaaGreatDoor
open Go.Sim
set_option maxRecDepth 100000
set_option maxHeartbeats 4000000

/- diorama/dioramalaw13.CountsLimits -/
noncomputable def Qdi (l_ : (List Int)) (at_ : Int) (how_ : Int) (by_ : Int) : Option (Bool) := (Qge l_).bind fun t20 => (Qgf t20 at_ how_ by_).bind fun t26 => (QF (fun (s7 : Int) => ((if (decide (s7 < (3:Int))) = true then (idx [t20,t26,zz4] s7).bind fun t36 => (Qb5 t36).bind fun t38 => (idx [t20,t26,zz4] s7).bind fun t45 => (Qgl t45).bind fun t47 => (opt (((t38.2.2 != t47.2.2) || ((t38.1.length : Int) != (t47.1.length : Int))) == false) (Qew t38.2.1 t47.2.1) default).bind fun t64 => (if (((t38.2.2 != t47.2.2) || ((t38.1.length : Int) != (t47.1.length : Int))) || (!t64)) = true then (some (.inr (.inr false))) else (QF (fun (s89 : Int) => ((if (decide (s89 < (t38.1.length : Int))) = true then (idx t38.1 s89).bind fun t75 => (Qiv t75).bind fun t77 => (idx t47.1 s89).bind fun t80 => (if (!Qhd t77 t80) = true then (some (.inr (.inr false))) else (some (.inl (IntKind.i64.wrap (s89 + (1:Int)))))) else (some (.inr (.inl ())))) : Option ((Int) ⊕ ((Unit) ⊕ (Bool))))) (0:Int)).bind fun (e90 : (Unit) ⊕ (Bool)) => (match e90 with | .inl _ => (some (.inl (IntKind.i64.wrap (s7 + (1:Int))))) | .inr p99 => (some (.inr (.inr p99))))) else (some (.inr (.inl ())))) : Option ((Int) ⊕ ((Unit) ⊕ (Bool))))) (0:Int)).bind fun (e8 : (Unit) ⊕ (Bool)) => (match e8 with | .inl _ => (QeB).bind fun t83 => (some t83) | .inr p77 => (some p77))
theorem Qlk {l_ : (List Int)} {at_ : Int} {how_ : Int} {by_ : Int} {r : Bool} (h : Qdi l_ at_ how_ by_ = some r) : FnOk Tryz.prog 3 [tsl rI l_,ti at_,ti how_,ti by_] [glo] (fun _ => []) (fun _ => tb r) := by
 unfold Qdi at h
 refine fe Tryz.func3 Tryz.ntmps3 fun M0 M w0 a hpl H => ?_
 replace H : St M w0 84 [(0,tsl rI l_),(1,ti at_),(2,ti how_),(3,ti by_)] [glo] a w0 := H
 refine sr mx [] H (fun _ => .o (Qa .k)<|.n) fun _ a w H => ?_
 have H := H.to [1,2,3,4] [_,_,_,_] [_] rfl rfl
 have ⟨t20,ht20,h⟩ := bs h
 refine sr mx [v1 2 (fun v0 => box (Qg.cs zz4) v0),v1 2 (fun v0 => box (Qg.cs t20) v0)] H (fun _ => .q 0 rfl<|.o (Qf call10 (Qn5 ht20) (.cons (.of z0)<|.nil))<|.m [] [1] rfl rfl rfl (Q0 (R := Qg) (a := zz4) Qar QnT)<|.e [] [1] [2] rfl rfl rfl rfl (QS (R := Qg) (a := t20) Qar z0 z1 (leb rfl))<|.n) fun _ a w H => ?_
 replace H : St _ _ _ [_,_,_,_] [_] _ _ := ((((H.pick [2,4,5,6]).selA [1,0] rfl).shareB 0 rfl).add 0 rfl (fun _ _ _ h => h.2)).pick [0,3,4,5]
 have ⟨t26,ht26,h⟩ := bs h
 refine sr mx [] H (fun _ => .o (Qm Qar z0)<|.o (Qm Qar z1)<|.q 3 rfl<|.q 5 rfl<|.q 7 rfl<|.o (Qf call11 (Qn6 ht26) (.cons (.of z3)<|.cons (.of z2)<|.cons (.of z1)<|.cons (.of z0)<|.nil))<|.p (T := Qg.ty zz4) rfl (QY Tryz.underlying27 pl27 zv27 zc27 (.nil _))<|.o (Qy (R := Qg) (us := [t20,t26,zz4]) Tryz.underlying30 Qar (.cons z6<|.cons z1<|.cons z0<|.nil _) rfl (leb rfl))<|.o (Qa z0)<|.n) fun _ a w H => ?_
 have H := H.to [8] [_] [_] rfl rfl
 refine wp_seq_k (fun K5 k5 => ?_)
 refine sr mx [] H (fun _ => .o (Qa .k)<|.n) fun _ a w H => ?_
 have H := H.to [0,1] [_,_] [_] rfl rfl
 have ⟨e8,he8,h⟩ := bs h
 have hJp76 : ∀ (p76 : Unit) a w,(.inl p76) = e8 → St M w0 84 [] [glo] a w → K5 a w := by
  intro p76 a w he H
  subst he
  simp only at h
  refine k5 _ _ ?_
  have ⟨t83,ht83,h⟩ := bs h
  refine sr mx [] H (fun _ => .u [0] rfl rfl ((Qf call16 (QoU ht83) (.nil)).glo)<|.o (Qa z0)<|.n) fun _ a w H => ?_
  have H := H.to [1] [_] [_] rfl rfl
  refine wp_ret ?_
  obtain rfl := sj h
  exact rt undef [] hpl H (.tmp z0 .nil)
 have hJp77 : ∀ (p77 : Bool) a w,(.inr p77) = e8 → St M w0 84 [(8,tb p77)] [glo] a w → Ret Tryz.prog Tryz.f3 M0 [glo] w0 (fun _ => []) (fun _ => tb r) .ret a w := by
  intro p77 a w he H
  subst he
  simp only at h
  obtain rfl := sj h
  exact rt undef [] hpl H (.tmp z0 .nil)
 refine wp_block ?_
 refine QR _ (fun (s7 : Int) a w => St M w0 84 [(11,ti s7),(10,tsl Qg [t20,t26,zz4])] [glo] a w) _ _ he8 (H.pick [0,1]) ?_
 clear h
 intro s7 o a w K79 hI h ho k79
 have H := hI
 clear hI
 refine wp_seq_k (fun _ k80 => ?_)
 refine sr mx [] H (fun _ => .q 0 rfl<|.o (QG z0 .k)<|.n) fun _ a w H => ?_
 have H := H.to [1,2,3] [_,_,_] [_] rfl rfl
 refine wi H h (fun b109 h => ?_) (fun b109 h => ?_)
 ·refine wp_skip (k80 _ _ ?_)
  refine wp_seq_k (fun K82 k82 => ?_)
  refine wp_block ?_
  have ⟨t36,ht36,h⟩ := bs h
  have ⟨t38,ht38,h⟩ := bs h
  refine sr mx [] H (fun _ => .q 2 rfl<|.q 2 rfl<|.o (Qr Tryz.underlying30 Qar z1 z0 ht36)<|.o (Qm Qar z0)<|.u [0] rfl rfl ((Qf Qp8 (QhJ ht38) (.cons (.of z0)<|.nil)).glo)<|.q 0 rfl<|.o (QU z0 rfl)<|.o (QU z1 rfl)<|.o (QU z2 rfl)<|.o (Qa z2)<|.o (Qa z2)<|.o (Qa z2)<|.n) fun _ a w H => ?_
  have H := H.to [9,10,11,13,14] [_,_,_,_,_] [_] rfl rfl
  have ⟨t45,ht45,h⟩ := bs h
  have ⟨t47,ht47,h⟩ := bs h
  refine sr mx [] H (fun _ => .q 4 rfl<|.q 4 rfl<|.o (Qr Tryz.underlying30 Qar z1 z0 ht45)<|.o (Qm Qar z0)<|.o (Qf call13 (Qog ht47) (.cons (.of z0)<|.nil))<|.q 0 rfl<|.o (QU z0 rfl)<|.o (QU z1 rfl)<|.o (QU z2 rfl)<|.o (Qa z2)<|.o (Qa z2)<|.o (Qa z2)<|.n) fun _ a w H => ?_
  have H := H.to [9,10,11,12,13,14,15,16] [_,_,_,_,_,_,_,_] [_] rfl rfl
  refine wp_seq_k (fun _ k85 => ?_)
  have ⟨t64,ht64,h⟩ := bs h
  refine sr mx [] H (fun _ => .q 5 rfl<|.q 3 rfl<|.o (Qau z1 z0)<|.q 0 rfl<|.g rfl rfl bq0 (fun _ => Qq z7)<|.g rfl rfl bq1 (fun hc => QE ud31 (.cond z0 hc))<|.g rfl rfl bq2 (fun _ => Qq z6)<|.g rfl rfl bq3 (fun hc => QE ud36 (.cond z0 hc))<|.g rfl rfl bq4 (fun hc => Qau (.cond z2 hc) (.cond z0 hc))<|.o (Q6 z5 (fun hp => (.cond z0 (beqF hp))))<|.q 0 rfl<|.g rfl rfl bq0 (fun _ => Qq z15)<|.g rfl rfl bq1 (fun _ => Qq z13)<|.g rfl rfl bq2 (fun hc => Qf call14 (QmA (Qaj ht64 hc)) (.cons (.of (.cond z1 hc))<|.cons (.of (.cond z0 hc))<|.nil))<|.g rfl rfl bq3 (fun hc => Qae (.cond z0 hc))<|.o (Q6 z4 (fun hp => (.cond z0 (beqF hp))))<|.n) fun _ a w H => ?_
  have H := H.to [15,16,19,22,23] [_,_,_,_,_] [_] rfl rfl
  refine wi H h (fun b108 h => ?_) (fun b108 h => ?_)
  ·refine sr mx [] H (fun _ => .o (Qa .k)<|.n) fun _ a w H => ?_
   have H := H.to [0] [_] [_] rfl rfl
   refine wp_ret ?_
   exact hJp77 _ _ _ (ho _ (sj h).symm) (H.pick [0])
  refine wp_skip (k85 _ _ ?_)
  refine sr mx [] H (fun _ => .o (Qa .k)<|.n) fun _ a w H => ?_
  have H := H.to [0,2,3,4,5] [_,_,_,_,_] [_] rfl rfl
  have ⟨e90,he90,h⟩ := bs h
  have hJp98 : ∀ (p98 : Unit) a w,(.inl p98) = e90 → St M w0 84 [(11,ti s7),(10,tsl Qg [t20,t26,zz4])] [glo] a w → K82 a w := by
   intro p98 a w he H
   subst he
   simp only at h
   refine k82 _ _ ?_
   refine wr mx [] H (fun _ => .q 0 rfl<|.o (QQ z0 .k)<|.o (Qa z0)<|.n) fun _ a w H => ?_
   have H := H.to [2,3] [_,_] [_] rfl rfl
   exact k79 _ _ _ (sj h).symm (H.pick [0,1])
  have hJp99 : ∀ (p99 : Bool) a w,(.inr p99) = e90 → St M w0 84 [(8,tb p99)] [glo] a w → Ret Tryz.prog Tryz.f3 M0 [glo] w0 (fun _ => []) (fun _ => tb r) .ret a w := by
   intro p99 a w he H
   subst he
   simp only at h
   exact hJp77 _ _ _ (ho _ (sj h).symm) (H.pick [0])
  refine wp_block ?_
  refine QR _ (fun (s89 : Int) a w => St M w0 84 [(18,ti s89),(15,tsl Qac t47.1),(12,tsl Ql t38.1),(11,ti s7),(10,tsl Qg [t20,t26,zz4])] [glo] a w) _ _ he90 (H.pick [0,1,2,3,4]) ?_
  clear h
  intro s89 o a w K100 hI h ho k100
  have H := hI
  clear hI
  refine wp_seq_k (fun _ k101 => ?_)
  refine sr mx [] H (fun _ => .q 0 rfl<|.q 3 rfl<|.o (QE ud31 z0)<|.o (QG z2 z0)<|.n) fun _ a w H => ?_
  have H := H.to [3,4,5,6,7,8] [_,_,_,_,_,_] [_] rfl rfl
  refine wi H h (fun b107 h => ?_) (fun b107 h => ?_)
  ·refine wp_skip (k101 _ _ ?_)
   refine wp_seq_k (fun _ k103 => ?_)
   refine wp_block ?_
   have ⟨t75,ht75,h⟩ := bs h
   have ⟨t77,ht77,h⟩ := bs h
   have ⟨t80,ht80,h⟩ := bs h
   refine sr mx [] H (fun _ => .q 3 rfl<|.q 2 rfl<|.o (Qr ud31 Qbn z1 z0 ht75)<|.o (Qm Qbn z0)<|.o (Qf call15 (QoT ht77) (.cons (.of z0)<|.nil))<|.q 7 rfl<|.q 7 rfl<|.o (Qr ud36 QjY z1 z0 ht80)<|.o (Qm QjY z0)<|.o (Qrf z4 z0)<|.n) fun _ a w H => ?_
   have H := H.to [9,11,12,13,14,15] [_,_,_,_,_,_] [_] rfl rfl
   refine wi H h (fun b106 h => ?_) (fun b106 h => ?_)
   ·refine sr mx [] H (fun _ => .o (Qa .k)<|.n) fun _ a w H => ?_
    have H := H.to [0] [_] [_] rfl rfl
    refine wp_ret ?_
    exact hJp99 _ _ _ (ho _ (sj h).symm) (H.pick [0])
   refine wp_skip (k103 _ _ ?_)
   refine wr mx [] H (fun _ => .q 1 rfl<|.o (QQ z0 .k)<|.o (Qa z0)<|.n) fun _ a w H => ?_
   have H := H.to [2,4,5,6,7] [_,_,_,_,_] [_] rfl rfl
   exact k100 _ _ _ (sj h).symm (H.pick [0,1,2,3,4])
  refine wp_exit ?_
  exact hJp98 _ _ _ (ho _ (sj h).symm) (H.pick [4,5])
 refine wp_exit ?_
 exact hJp76 _ _ _ (ho _ (sj h).symm) (H.pick [])

end Go.Proofs.YtcdccjagknlmpaaGreatDoor

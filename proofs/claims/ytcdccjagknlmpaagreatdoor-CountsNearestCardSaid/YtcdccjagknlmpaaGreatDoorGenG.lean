/- Go functions as Lean functions, and the proofs that they compute them, written by a program. No condition. -/
import Derived.Test.YtcdccjagknlmpaaGreatDoorGenF
namespace Go.Proofs.YtcdccjagknlmpaaGreatDoor
open Go.Sim
set_option maxRecDepth 100000
set_option maxHeartbeats 4000000

/- diorama/counts.Clash -/
noncomputable def Qfx (n_ : Int) (l_ : (List Qd)) : Option ((List Int) × Int) := (opt (((decide (n_ < (1:Int))) || (decide (n_ > (6:Int)))) == false) (QaW l_ (fun x0 => Qet x0 n_)) default).bind fun t19 => (if (((decide (n_ < (1:Int))) || (decide (n_ > (6:Int)))) || t19) = true then (some (([] : List Int),(1:Int))) else (if (decide ((l_.length : Int) > (24:Int))) = true then (some (([] : List Int),(4:Int))) else (Qd2 l_).bind fun t27 => (if t27 = true then (some (([] : List Int),(6:Int))) else (QK (fun (s12 : Int × Int) => ((if (s12.2 == (0:Int)) = true then (QgK l_ (0:Int) (0:Int) s12.1).bind fun t34 => (some (.inl ((IntKind.i64.wrap (s12.1 + (1:Int))),t34))) else (some (.inr s12.2))) : Option ((Int × Int) ⊕ ((Int))))) ((1:Int),(0:Int))).bind fun (p22 : (Int)) => (QK (fun (s26 : Int × List Int) => ((if (s26.1 != (0:Int)) = true then (Qb7 s26.1).bind fun t43 => (rm (s26.2.length + [t43].length)).bind fun _ => (some (.inl ((iand .u64 s26.1 (IntKind.u64.wrap (s26.1 - (1:Int)))),(s26.2 ++ [t43])))) else (some (.inr s26.2))) : Option ((Int × List Int) ⊕ ((List Int))))) (p22,([] : List Int))).bind fun (p37 : (List Int)) => (some (p37,(0:Int))))))
theorem Qnp {n_ : Int} {l_ : (List Qd)} {r : (List Int) × Int} (h : Qfx n_ l_ = some r) : FnOk Tryz.prog 27 [ti n_,tsl Qj l_] [glo] (fun _ => []) (fun _ => ttup [tsl rI r.1,ti r.2]) := by
 unfold Qfx at h
 refine fe Tryz.func27 Tryz.ntmps27 fun M0 M w0 a hpl H => ?_
 replace H : St M w0 47 [(0,ti n_),(1,tsl Qj l_)] [glo] a w0 := H
 refine sr mx [] H (fun _ => .o (QT (R := rI) (u := n_) z0)<|.o (Qa (.nilsl (R := rI)))<|.o (Qa .k)<|.n) fun _ a w H => ?_
 have H := H.to [0,4] [_,_] [_] rfl rfl
 refine wp_seq_k (fun _ k2 => ?_)
 refine wp_block ?_
 have ⟨t19,ht19,h⟩ := bs h
 refine sr mx [] H (fun _ => .o (Qr tok3 z0)<|.o (QV z0 .k)<|.q 0 rfl<|.g rfl rfl bq0 (fun _ => Qr tok3 z3)<|.g rfl rfl bq1 (fun hc => Qb8 (.cond z0 hc) .k)<|.o (Qao z2 (fun hp => (.cond z0 (beqF hp))))<|.q 0 rfl<|.g rfl rfl bq0 (fun _ => Qw z8)<|.g rfl rfl bq1 (fun _ => Qdx (.cons z8<|.nil))<|.g rfl rfl bq2 (fun hc => Qh QrG (QeT (Q6 ht19 hc)) (.cons (.of (.cond z1 hc))<|.cons (.of (Fct.weak (.cond z0 hc) (QbS call56 (fun _ _ hq => Qme hq))))<|.nil))<|.o (Qao z3 (fun hp => (.cond z0 (beqF hp))))<|.o (Qa z0)<|.n) fun _ a w H => ?_
 have H := H.to [11,13] [_,_] [_] rfl rfl
 refine wi H h (fun b52 h => ?_) (fun b52 h => ?_)
 ·refine sr mx [] H (fun _ => .o (Qa (.nilsl (R := rI)))<|.o (Qa .k)<|.n) fun _ a w H => ?_
  have H := H.to [0,1] [_,_] [_] rfl rfl
  refine wp_ret ?_
  obtain rfl := sj h
  exact rt undef [] hpl H (.tmp z0 (.tmp z1 .nil))
 refine sr mx [] H (fun _ => .q 1 rfl<|.o (QM ud31 z0)<|.o (Qb8 z0 .k)<|.o (Qa z0)<|.n) fun _ a w H => ?_
 have H := H.to [3,5] [_,_] [_] rfl rfl
 refine wi H h (fun b51 h => ?_) (fun b51 h => ?_)
 ·refine sr mx [] H (fun _ => .o (Qa (.nilsl (R := rI)))<|.o (Qa .k)<|.n) fun _ a w H => ?_
  have H := H.to [0,1] [_,_] [_] rfl rfl
  refine wp_ret ?_
  obtain rfl := sj h
  exact rt undef [] hpl H (.tmp z0 (.tmp z1 .nil))
 have ⟨t27,ht27,h⟩ := bs h
 refine sr mx [] H (fun _ => .q 1 rfl<|.o (Qh Qpo (QhU ht27) (.cons (.of z0)<|.nil))<|.o (Qa z0)<|.n) fun _ a w H => ?_
 have H := H.to [2,4] [_,_] [_] rfl rfl
 refine wi H h (fun b50 h => ?_) (fun b50 h => ?_)
 ·refine sr mx [] H (fun _ => .o (Qa (.nilsl (R := rI)))<|.o (Qa .k)<|.n) fun _ a w H => ?_
  have H := H.to [0,1] [_,_] [_] rfl rfl
  refine wp_ret ?_
  obtain rfl := sj h
  exact rt undef [] hpl H (.tmp z0 (.tmp z1 .nil))
 refine wp_skip (k2 _ _ ?_)
 refine sr mx [] H (fun _ => .o (Qa .k)<|.n) fun _ a w H => ?_
 have H := H.to [0,2] [_,_] [_] rfl rfl
 refine wp_seq_k (fun K10 k10 => ?_)
 refine sr mx [] H (fun _ => .o (Qa .k)<|.n) fun _ a w H => ?_
 have H := H.to [0,1,2] [_,_,_] [_] rfl rfl
 have ⟨e13,he13,h⟩ := bs h
 have hJp22 : ∀ (p22 : Int) a w,p22 = e13 → St M w0 47 [(6,tv (.int .u64 p22))] [glo] a w → K10 a w := by
  intro p22 a w he H
  subst he
  refine k10 _ _ ?_
  refine sr mx [] H (fun _ => .o (Qa .k)<|.n) fun _ a w H => ?_
  replace H : St _ _ _ [_,_] [_,_] _ _ := (H.pick [0,1]).nil (rI) 3
  refine wp_seq_k (fun K25 k25 => ?_)
  have ⟨e27,he27,h⟩ := bs h
  have hJp37 : ∀ (p37 : List Int) (v38 : Value) a w,p37 = e27 → St M w0 47 [(8,tv v38)] [own rI 3 p37 v38,glo] a w → K25 a w := by
   intro p37 v38 a w he H
   subst he
   refine k25 _ _ ?_
   refine sr mx [] H (fun _ => .q 0 rfl<|.o (Qa z0)<|.o (Qa .k)<|.n) fun _ a w H => ?_
   have H := H.to [0,1,2,3] [_,_,_,_] [_,_] rfl rfl
   refine wp_ret ?_
   replace H : St _ _ _ [_,_] [_] _ _ := (H.shareO 1 rfl).pick [0,3]
   obtain rfl := sj h
   exact rt undef [] hpl H (.tmp z0 (.tmp z1 .nil))
  refine wp_block ?_
  refine QZ _ (fun (s26 : Int × List Int) a w => ∃ v32 : Value,St M w0 47 [(8,tv v32),(6,tv (.int .u64 s26.1))] [own rI 3 s26.2 v32,glo] a w) _ _ he27 ⟨(.slice none 0 0),H.pick [0,1]⟩ ?_
  clear h
  intro s26 o a w K40 hI h ho k40
  obtain ⟨v32,H⟩ := hI
  refine wp_seq_k (fun _ k41 => ?_)
  refine sr mx [] H (fun _ => .q 1 rfl<|.o (Qal z0 .k)<|.n) fun _ a w H => ?_
  have H := H.to [1,2,3] [_,_,_] [_,_] rfl rfl
  refine wi H h (fun b44 h => ?_) (fun b44 h => ?_)
  ·refine wp_skip (k41 _ _ ?_)
   refine wp_seq_k (fun _ k43 => ?_)
   refine wp_block ?_
   have ⟨t43,ht43,h⟩ := bs h
   have ⟨u45,hu45,h⟩ := bs h
   refine wr mx [v1 4 (fun v0 => own rI 3 (s26.2 ++ [t43]) v0)] H (fun _ => .q 1 rfl<|.q 3 rfl<|.u [1] rfl rfl ((Qh QrI (Qg2 ht43) (.cons (.of z0)<|.nil)).glo)<|.o (QE (R := rI) (us := [t43]) ud22 tok3 (.cons z0<|.nil _) rfl (leb rfl))<|.e [] [0] [2] rfl rfl rfl rfl (Qam (R := rI) ud22 tok3 (leb rfl) z3 z0 hu45)<|.ud (f := fun v => tv v) 4 rfl [] rfl rfl (Qa z0)<|.n) fun n15 a w H => ?_
   have H := H.to [4,5,7] [_,_,_] [_,_] rfl rfl
   refine k43 _ _ ?_
   refine wr mx [] H (fun _ => .q 2 rfl<|.q 3 rfl<|.o (QcN z0 .k)<|.o (QnJ z2 z0)<|.o (Qa z0)<|.n) fun _ a w H => ?_
   have H := H.to [4,5,6] [_,_,_] [_,_] rfl rfl
   exact k40 _ _ _ (sj h).symm ⟨(n15 4),(H.pick [2,0]).selA [1,0] rfl⟩
  refine wp_exit ?_
  exact hJp37 _ v32 _ _ (ho _ (sj h).symm) (H.pick [1])
 refine wp_block ?_
 refine QZ _ (fun (s12 : Int × Int) a w => St M w0 47 [(7,ti s12.1),(6,tv (.int .u64 s12.2)),(1,tsl Qj l_)] [glo] a w) _ _ he13 (H.pick [0,1,2]) ?_
 clear h
 intro s12 o a w K45 hI h ho k45
 have H := hI
 clear hI
 refine wp_seq_k (fun _ k46 => ?_)
 refine sr mx [] H (fun _ => .q 1 rfl<|.o (Q3 z0 .k)<|.n) fun _ a w H => ?_
 have H := H.to [1,2,3,4] [_,_,_,_] [_] rfl rfl
 refine wi H h (fun b49 h => ?_) (fun b49 h => ?_)
 ·refine wp_skip (k46 _ _ ?_)
  refine wp_seq_k (fun _ k48 => ?_)
  refine wp_block ?_
  have ⟨t34,ht34,h⟩ := bs h
  refine wr mx [] H (fun _ => .q 3 rfl<|.q 2 rfl<|.u [0] rfl rfl ((Qh QrH (Qlx ht34) (.cons (.of z1)<|.cons (.of .k)<|.cons (.of .k)<|.cons (.of z0)<|.nil)).glo)<|.o (Qa z0)<|.n) fun _ a w H => ?_
  have H := H.to [3,5,6] [_,_,_] [_] rfl rfl
  refine k48 _ _ ?_
  refine wr mx [] H (fun _ => .q 1 rfl<|.o (QW z0 .k)<|.o (Qa z0)<|.n) fun _ a w H => ?_
  have H := H.to [2,3,4] [_,_,_] [_] rfl rfl
  exact k45 _ _ _ (sj h).symm (H.pick [0,1,2])
 refine wp_exit ?_
 exact hJp22 _ _ _ (ho _ (sj h).symm) (H.pick [2])

/- diorama/dioramaref01.SameInts -/
noncomputable def Qa2 (a_ : (List Int)) (b_ : (List Int)) : Option (Bool) := (if ((a_.length : Int) != (b_.length : Int)) = true then (some false) else (QK (fun (s7 : Int) => ((if (decide (s7 < (a_.length : Int))) = true then (idx a_ s7).bind fun t19 => (idx b_ s7).bind fun t23 => (if (t19 != t23) = true then (some (.inr (.inr false))) else (some (.inl (IntKind.i64.wrap (s7 + (1:Int)))))) else (some (.inr (.inl ())))) : Option ((Int) ⊕ ((Unit) ⊕ (Bool))))) (0:Int)).bind fun (e8 : (Unit) ⊕ (Bool)) => (match e8 with | .inl _ => (some true) | .inr p24 => (some p24)))
theorem QeL {a_ : (List Int)} {b_ : (List Int)} {r : Bool} (h : Qa2 a_ b_ = some r) : FnOk Tryz.prog 25 [tsl rI a_,tsl rI b_] [] (fun _ => []) (fun _ => tb r) := by
 unfold Qa2 at h
 refine fe Tryz.func25 Tryz.ntmps25 fun M0 M w0 a hpl H => ?_
 replace H : St M w0 26 [(0,tsl rI a_),(1,tsl rI b_)] [] a w0 := H
 refine sr mx [] H (fun _ => .o (Qa .k)<|.n) fun _ a w H => ?_
 have H := H.to [1,2] [_,_] [] rfl rfl
 refine wp_seq_k (fun _ k2 => ?_)
 refine sr mx [] H (fun _ => .q 0 rfl<|.o (QM ud22 z0)<|.q 3 rfl<|.o (QM ud22 z0)<|.o (Qal z2 z0)<|.n) fun _ a w H => ?_
 have H := H.to [4,5,6] [_,_,_] [] rfl rfl
 refine wi H h (fun b34 h => ?_) (fun b34 h => ?_)
 ·refine sr mx [] H (fun _ => .o (Qa .k)<|.n) fun _ a w H => ?_
  have H := H.to [0] [_] [] rfl rfl
  refine wp_ret ?_
  obtain rfl := sj h
  exact rt undef [] hpl H (.tmp z0 .nil)
 refine wp_skip (k2 _ _ ?_)
 refine wp_seq_k (fun K5 k5 => ?_)
 refine sr mx [] H (fun _ => .o (Qa .k)<|.n) fun _ a w H => ?_
 have H := H.to [0,2,3] [_,_,_] [] rfl rfl
 have ⟨e8,he8,h⟩ := bs h
 have hJp23 : ∀ (p23 : Unit) a w,(.inl p23) = e8 → St M w0 26 [] [] a w → K5 a w := by
  intro p23 a w he H
  subst he
  simp only at h
  refine k5 _ _ ?_
  refine sr mx [] H (fun _ => .o (Qa .k)<|.n) fun _ a w H => ?_
  have H := H.to [0] [_] [] rfl rfl
  refine wp_ret ?_
  obtain rfl := sj h
  exact rt undef [] hpl H (.tmp z0 .nil)
 have hJp24 : ∀ (p24 : Bool) a w,(.inr p24) = e8 → St M w0 26 [(4,tb p24)] [] a w → Ret Tryz.prog Tryz.f25 M0 [] w0 (fun _ => []) (fun _ => tb r) .ret a w := by
  intro p24 a w he H
  subst he
  simp only at h
  obtain rfl := sj h
  exact rt undef [] hpl H (.tmp z0 .nil)
 refine wp_block ?_
 refine QZ _ (fun (s7 : Int) a w => St M w0 26 [(5,ti s7),(0,tsl rI a_),(1,tsl rI b_)] [] a w) _ _ he8 (H.pick [0,1,2]) ?_
 clear h
 intro s7 o a w K26 hI h ho k26
 have H := hI
 clear hI
 refine wp_seq_k (fun _ k27 => ?_)
 refine sr mx [] H (fun _ => .q 0 rfl<|.q 2 rfl<|.o (QM ud22 z0)<|.o (QV z2 z0)<|.n) fun _ a w H => ?_
 have H := H.to [3,4,5,6] [_,_,_,_] [] rfl rfl
 refine wi H h (fun b33 h => ?_) (fun b33 h => ?_)
 ·refine wp_skip (k27 _ _ ?_)
  refine wp_seq_k (fun _ k29 => ?_)
  refine wp_block ?_
  have ⟨t19,ht19,h⟩ := bs h
  have ⟨t23,ht23,h⟩ := bs h
  refine sr mx [] H (fun _ => .q 2 rfl<|.q 2 rfl<|.o (QH ud22 tok3 z1 z0 ht19)<|.o (Qr tok3 z0)<|.q 7 rfl<|.q 6 rfl<|.o (QH ud22 tok3 z1 z0 ht23)<|.o (Qr tok3 z0)<|.o (Qal z4 z0)<|.n) fun _ a w H => ?_
  have H := H.to [8,10,11,12] [_,_,_,_] [] rfl rfl
  refine wi H h (fun b32 h => ?_) (fun b32 h => ?_)
  ·refine sr mx [] H (fun _ => .o (Qa .k)<|.n) fun _ a w H => ?_
   have H := H.to [0] [_] [] rfl rfl
   refine wp_ret ?_
   exact hJp24 _ _ _ (ho _ (sj h).symm) (H.pick [0])
  refine wp_skip (k29 _ _ ?_)
  refine wr mx [] H (fun _ => .q 1 rfl<|.o (QW z0 .k)<|.o (Qa z0)<|.n) fun _ a w H => ?_
  have H := H.to [2,4,5] [_,_,_] [] rfl rfl
  exact k26 _ _ _ (sj h).symm (H.pick [0,1,2])
 refine wp_exit ?_
 exact hJp23 _ _ _ (ho _ (sj h).symm) (H.pick [])

/- diorama/dioramalaw13.lives -/
noncomputable def Qcc  : Option (Bool) := (Qcu (3:Int)).bind fun t13 => (Qbv t13 [(2:Int),(9:Int)]).bind fun t15 => (Qcu (3:Int)).bind fun t19 => (Qbv t19 [(1:Int),(9:Int)]).bind fun t21 => (Qcu (9:Int)).bind fun t25 => (Qbv t25 [(2:Int),(9:Int)]).bind fun t27 => (Qcu (9:Int)).bind fun t31 => (QaU t31).bind fun t32 => (if ((((((t15.2 != (0:Int)) || (t21.2 != (0:Int))) || (t27.2 != (14:Int))) || (t32.2.2 != (0:Int))) || ((t32.1.length : Int) != (6:Int))) || ((t32.2.1.length : Int) != (6:Int))) = true then (some false) else (Qfx (2:Int) t32.1).bind fun t62 => (opt ((t62.2 != (0:Int)) == false) (Qa2 t62.1 [(1:Int),(2:Int),(5:Int)]) default).bind fun t70 => (opt (((t62.2 != (0:Int)) || (!t70)) == false) (idx t32.2.1 (1:Int)) default).bind fun t75 => (opt ((((t62.2 != (0:Int)) || (!t70)) || (t75 != ([97,32,109,111,115,116] : Str))) == false) (idx t32.2.1 (2:Int)) default).bind fun t81 => (opt (((((t62.2 != (0:Int)) || (!t70)) || (t75 != ([97,32,109,111,115,116] : Str))) || (t81 != ([98,32,108,101,97,115,116] : Str))) == false) (idx t32.2.1 (5:Int)) default).bind fun t87 => (if (((((t62.2 != (0:Int)) || (!t70)) || (t75 != ([97,32,109,111,115,116] : Str))) || (t81 != ([98,32,108,101,97,115,116] : Str))) || (t87 != ([98,46,111,102,32,109,111,115,116] : Str))) = true then (some false) else (Qa2 t15.1 [(2:Int),(8:Int)]).bind fun t93 => (opt (t93 == true) (Qa2 t21.1 [(2:Int),(8:Int)]) default).bind fun t97 => (opt ((t93 && t97) == true) (idx t32.1 (5:Int)) default).bind fun t101 => (opt ((t93 && t97) == true) (QaV t101 [(2:Int),(9:Int)]) default).bind fun t104 => (opt (((t93 && t97) && (!t104)) == true) (idx t32.1 (5:Int)) default).bind fun t109 => (opt (((t93 && t97) && (!t104)) == true) (QaV t109 [(2:Int),(8:Int)]) default).bind fun t112 => (some (((t93 && t97) && (!t104)) && t112))))
theorem Qj9 {r : Bool} (h : Qcc  = some r) : FnOk Tryz.prog 16 [] [glo] (fun _ => []) (fun _ => tb r) := by
 unfold Qcc at h
 refine fe Tryz.func16 Tryz.ntmps16 fun M0 M w0 a hpl H => ?_
 replace H : St M w0 114 [] [glo] a w0 := H
 refine sr mx [] H (fun _ => .o (Qa .k)<|.n) fun _ a w H => ?_
 have H := H.to [] [] [_] rfl rfl
 have ⟨t13,ht13,h⟩ := bs h
 have ⟨t15,ht15,h⟩ := bs h
 refine sr mx [] H (fun _ => .o (Qh Qnf (Qfd ht13) (.cons (.of .k)<|.nil))<|.o (QE (R := rI) (us := [(2:Int),(9:Int)]) ud22 tok3 (.cons .k<|.cons .k<|.nil _) rfl (leb rfl))<|.u [0] rfl rfl ((Qh Qnd (Qgi ht15) (.cons (.of z1)<|.cons (.of z0)<|.nil)).glo)<|.q 0 rfl<|.o (QS z0 rfl)<|.o (QS z1 rfl)<|.o (Qa z1)<|.o (Qa z1)<|.n) fun _ a w H => ?_
 have H := H.to [6,7] [_,_] [_] rfl rfl
 have ⟨t19,ht19,h⟩ := bs h
 have ⟨t21,ht21,h⟩ := bs h
 refine sr mx [] H (fun _ => .o (Qh Qnf (Qfd ht19) (.cons (.of .k)<|.nil))<|.o (QE (R := rI) (us := [(1:Int),(9:Int)]) ud22 tok3 (.cons .k<|.cons .k<|.nil _) rfl (leb rfl))<|.u [0] rfl rfl ((Qh Qnd (Qgi ht21) (.cons (.of z1)<|.cons (.of z0)<|.nil)).glo)<|.q 0 rfl<|.o (QS z0 rfl)<|.o (QS z1 rfl)<|.o (Qa z1)<|.o (Qa z1)<|.n) fun _ a w H => ?_
 have H := H.to [6,7,8,9] [_,_,_,_] [_] rfl rfl
 have ⟨t25,ht25,h⟩ := bs h
 have ⟨t27,ht27,h⟩ := bs h
 refine sr mx [] H (fun _ => .o (Qh Qnf (Qfd ht25) (.cons (.of .k)<|.nil))<|.o (QE (R := rI) (us := [(2:Int),(9:Int)]) ud22 tok3 (.cons .k<|.cons .k<|.nil _) rfl (leb rfl))<|.u [0] rfl rfl ((Qh Qnd (Qgi ht27) (.cons (.of z1)<|.cons (.of z0)<|.nil)).glo)<|.q 0 rfl<|.o (QS z0 rfl)<|.o (QS z1 rfl)<|.o (Qa z1)<|.o (Qa z1)<|.n) fun _ a w H => ?_
 have H := H.to [7,8,9,10,11] [_,_,_,_,_] [_] rfl rfl
 have ⟨t31,ht31,h⟩ := bs h
 have ⟨t32,ht32,h⟩ := bs h
 refine sr mx [] H (fun _ => .o (Qh Qnf (Qfd ht31) (.cons (.of .k)<|.nil))<|.u [0] rfl rfl ((Qh Qpn (QgJ ht32) (.cons (.of z0)<|.nil)).glo)<|.q 0 rfl<|.o (QS z0 rfl)<|.o (QS z1 rfl)<|.o (QS z2 rfl)<|.o (Qa z2)<|.o (Qa z2)<|.o (Qa z2)<|.n) fun _ a w H => ?_
 have H := H.to [6,7,8,9,10,11,12,13] [_,_,_,_,_,_,_,_] [_] rfl rfl
 refine wp_seq_k (fun _ k6 => ?_)
 refine sr mx [] H (fun _ => .q 7 rfl<|.o (Qal z0 .k)<|.q 0 rfl<|.g rfl rfl bq0 (fun _ => Qw z8)<|.g rfl rfl bq1 (fun hc => Qal (.cond z0 hc) .k)<|.o (Qao z2 (fun hp => (.cond z0 (beqF hp))))<|.q 0 rfl<|.g rfl rfl bq0 (fun _ => Qw z10)<|.g rfl rfl bq1 (fun hc => Qal (.cond z0 hc) .k)<|.o (Qao z2 (fun hp => (.cond z0 (beqF hp))))<|.q 0 rfl<|.g rfl rfl bq0 (fun _ => Qw z13)<|.g rfl rfl bq1 (fun hc => Qal (.cond z0 hc) .k)<|.o (Qao z2 (fun hp => (.cond z0 (beqF hp))))<|.q 0 rfl<|.g rfl rfl bq0 (fun _ => Qw z15)<|.g rfl rfl bq1 (fun hc => QM ud31 (.cond z0 hc))<|.g rfl rfl bq2 (fun hc => Qal (.cond z0 hc) .k)<|.o (Qao z3 (fun hp => (.cond z0 (beqF hp))))<|.q 0 rfl<|.g rfl rfl bq0 (fun _ => Qw z21)<|.g rfl rfl bq1 (fun hc => QM ud32 (.cond z0 hc))<|.g rfl rfl bq2 (fun hc => Qal (.cond z0 hc) .k)<|.o (Qao z3 (fun hp => (.cond z0 (beqF hp))))<|.n) fun _ a w H => ?_
 have H := H.to [23,24,25,28,30] [_,_,_,_,_] [_] rfl rfl
 refine wi H h (fun b15 h => ?_) (fun b15 h => ?_)
 ·refine sr mx [] H (fun _ => .o (Qa .k)<|.n) fun _ a w H => ?_
  have H := H.to [0] [_] [_] rfl rfl
  refine wp_ret ?_
  obtain rfl := sj h
  exact rt undef [] hpl H (.tmp z0 .nil)
 refine wp_skip (k6 _ _ ?_)
 have ⟨t62,ht62,h⟩ := bs h
 refine sr mx [] H (fun _ => .q 1 rfl<|.u [0] rfl rfl ((Qh call27 (Qnp ht62) (.cons (.of .k)<|.cons (.of z0)<|.nil)).glo)<|.q 0 rfl<|.o (QS z0 rfl)<|.o (QS z1 rfl)<|.o (Qa z1)<|.o (Qa z1)<|.n) fun _ a w H => ?_
 have H := H.to [5,6,8,9,10,11] [_,_,_,_,_,_] [_] rfl rfl
 refine wp_seq_k (fun _ k10 => ?_)
 have ⟨t70,ht70,h⟩ := bs h
 have ⟨t75,ht75,h⟩ := bs h
 have ⟨t81,ht81,h⟩ := bs h
 have ⟨t87,ht87,h⟩ := bs h
 refine sr mx [] H (fun _ => .q 1 rfl<|.o (Qal z0 .k)<|.q 0 rfl<|.g rfl rfl bq0 (fun _ => Qw z3)<|.g rfl rfl bq1 (fun _ => QE (R := rI) (us := [(1:Int),(2:Int),(5:Int)]) ud22 tok3 (.cons .k<|.cons .k<|.cons .k<|.nil _) rfl (leb rfl))<|.g rfl rfl bq2 (fun hc => Qh Qne (QeL (Q6 ht70 hc)) (.cons (.of (.cond z1 hc))<|.cons (.of (.cond z0 hc))<|.nil))<|.g rfl rfl bq3 (fun hc => Qag (.cond z0 hc))<|.o (Qao z4 (fun hp => (.cond z0 (beqF hp))))<|.q 0 rfl<|.g rfl rfl bq0 (fun _ => Qw z12)<|.g rfl rfl bq1 (fun hc => QH ud32 tok9 (.cond z0 hc) .k (Q6 ht75 hc))<|.g rfl rfl bq2 (fun hc => Qr tok9 (.cond z0 hc))<|.g rfl rfl bq3 (fun hc => QhO (.cond z0 hc) .k)<|.o (Qao z4 (fun hp => (.cond z0 (beqF hp))))<|.q 0 rfl<|.g rfl rfl bq0 (fun _ => Qw z18)<|.g rfl rfl bq1 (fun hc => QH ud32 tok9 (.cond z0 hc) .k (Q6 ht81 hc))<|.g rfl rfl bq2 (fun hc => Qr tok9 (.cond z0 hc))<|.g rfl rfl bq3 (fun hc => QhO (.cond z0 hc) .k)<|.o (Qao z4 (fun hp => (.cond z0 (beqF hp))))<|.q 0 rfl<|.g rfl rfl bq0 (fun _ => Qw z24)<|.g rfl rfl bq1 (fun hc => QH ud32 tok9 (.cond z0 hc) .k (Q6 ht87 hc))<|.g rfl rfl bq2 (fun hc => Qr tok9 (.cond z0 hc))<|.g rfl rfl bq3 (fun hc => QhO (.cond z0 hc) .k)<|.o (Qao z4 (fun hp => (.cond z0 (beqF hp))))<|.n) fun _ a w H => ?_
 have H := H.to [25,28,30,31] [_,_,_,_] [_] rfl rfl
 refine wi H h (fun b14 h => ?_) (fun b14 h => ?_)
 ·refine sr mx [] H (fun _ => .o (Qa .k)<|.n) fun _ a w H => ?_
  have H := H.to [0] [_] [_] rfl rfl
  refine wp_ret ?_
  obtain rfl := sj h
  exact rt undef [] hpl H (.tmp z0 .nil)
 refine wp_skip (k10 _ _ ?_)
 have ⟨t93,ht93,h⟩ := bs h
 have ⟨t97,ht97,h⟩ := bs h
 have ⟨t101,ht101,h⟩ := bs h
 have ⟨t104,ht104,h⟩ := bs h
 have ⟨t109,ht109,h⟩ := bs h
 have ⟨t112,ht112,h⟩ := bs h
 refine sr mx [] H (fun _ => .q 3 rfl<|.o (QE (R := rI) (us := [(2:Int),(8:Int)]) ud22 tok3 (.cons .k<|.cons .k<|.nil _) rfl (leb rfl))<|.o (Qh Qne (QeL ht93) (.cons (.of z1)<|.cons (.of z0)<|.nil))<|.q 0 rfl<|.g rfl rfl bq0 (fun _ => Qw z6)<|.g rfl rfl bq1 (fun _ => QE (R := rI) (us := [(2:Int),(8:Int)]) ud22 tok3 (.cons .k<|.cons .k<|.nil _) rfl (leb rfl))<|.g rfl rfl bq2 (fun hc => Qh Qne (QeL (Q6 ht97 hc)) (.cons (.of (.cond z1 hc))<|.cons (.of (.cond z0 hc))<|.nil))<|.o (QU z3 (fun hp => (.cond z0 (beqT hp))))<|.q 0 rfl<|.g rfl rfl bq0 (fun _ => Qw z10)<|.g rfl rfl bq1 (fun hc => QH ud31 QaM (.cond z0 hc) .k (Q6 ht101 hc))<|.g rfl rfl bq2 (fun hc => Qr QaM (.cond z0 hc))<|.g rfl rfl bq3 (fun _ => QE (R := rI) (us := [(2:Int),(9:Int)]) ud22 tok3 (.cons .k<|.cons .k<|.nil _) rfl (leb rfl))<|.g rfl rfl bq4 (fun hc => Qh Qlg (Qes (Q6 ht104 hc)) (.cons (.of (.cond z1 hc))<|.cons (.of (.cond z0 hc))<|.nil))<|.g rfl rfl bq5 (fun hc => Qag (.cond z0 hc))<|.o (QU z6 (fun hp => (.cond z0 (beqT hp))))<|.q 0 rfl<|.g rfl rfl bq0 (fun _ => Qw z18)<|.g rfl rfl bq1 (fun hc => QH ud31 QaM (.cond z0 hc) .k (Q6 ht109 hc))<|.g rfl rfl bq2 (fun hc => Qr QaM (.cond z0 hc))<|.g rfl rfl bq3 (fun _ => QE (R := rI) (us := [(2:Int),(8:Int)]) ud22 tok3 (.cons .k<|.cons .k<|.nil _) rfl (leb rfl))<|.g rfl rfl bq4 (fun hc => Qh Qlg (Qes (Q6 ht112 hc)) (.cons (.of (.cond z1 hc))<|.cons (.of (.cond z0 hc))<|.nil))<|.o (QU z5 (fun hp => (.cond z0 (beqT hp))))<|.o (Qa z0)<|.n) fun _ a w H => ?_
 have H := H.to [23] [_] [_] rfl rfl
 refine wp_ret ?_
 obtain rfl := sj h
 exact rt undef [] hpl H (.tmp z0 .nil)

/- diorama/dioramaref13.Distance -/
noncomputable def Qb4 (a_ : (List Int)) (b_ : (List Int)) : Option (Int) := (QK (fun (s5 : Int × Int) => ((if ((decide (s5.1 < (a_.length : Int))) && (decide (s5.1 < (b_.length : Int)))) = true then (idx a_ s5.1).bind fun t22 => (idx b_ s5.1).bind fun t26 => (idx b_ s5.1).bind fun t31 => (idx a_ s5.1).bind fun t35 => (some (.inl ((IntKind.i64.wrap (s5.1 + (1:Int))),(IntKind.i64.wrap (s5.2 + (imax (IntKind.i64.wrap (t22 - t26)) (IntKind.i64.wrap (t31 - t35)))))))) else (some (.inr s5.2))) : Option ((Int × Int) ⊕ ((Int))))) ((0:Int),(0:Int))).bind fun (p15 : (Int)) => (some p15)
theorem QiL {a_ : (List Int)} {b_ : (List Int)} {r : Int} (h : Qb4 a_ b_ = some r) : FnOk Tryz.prog 31 [tsl rI a_,tsl rI b_] [] (fun _ => []) (fun _ => ti r) := by
 unfold Qb4 at h
 refine fe Tryz.func31 Tryz.ntmps31 fun M0 M w0 a hpl H => ?_
 replace H : St M w0 41 [(0,tsl rI a_),(1,tsl rI b_)] [] a w0 := H
 refine sr mx [] H (fun _ => .o (Qa .k)<|.n) fun _ a w H => ?_
 have H := H.to [1,2] [_,_] [] rfl rfl
 refine sr mx [] H (fun _ => .o (Qa .k)<|.n) fun _ a w H => ?_
 have H := H.to [0,1,2] [_,_,_] [] rfl rfl
 refine wp_seq_k (fun K3 k3 => ?_)
 refine sr mx [] H (fun _ => .o (Qa .k)<|.n) fun _ a w H => ?_
 have H := H.to [0,1,2,3] [_,_,_,_] [] rfl rfl
 have ⟨e6,he6,h⟩ := bs h
 have hJp15 : ∀ (p15 : Int) a w,p15 = e6 → St M w0 41 [(5,ti p15)] [] a w → K3 a w := by
  intro p15 a w he H
  subst he
  refine k3 _ _ ?_
  refine sr mx [] H (fun _ => .q 0 rfl<|.o (Qa z0)<|.n) fun _ a w H => ?_
  have H := H.to [1] [_] [] rfl rfl
  refine wp_ret ?_
  obtain rfl := sj h
  exact rt undef [] hpl H (.tmp z0 .nil)
 refine wp_block ?_
 refine QZ _ (fun (s5 : Int × Int) a w => St M w0 41 [(6,ti s5.1),(5,ti s5.2),(0,tsl rI a_),(1,tsl rI b_)] [] a w) _ _ he6 (H.pick [0,1,2,3]) ?_
 clear h
 intro s5 o a w K17 hI h ho k17
 have H := hI
 clear hI
 refine wp_seq_k (fun _ k18 => ?_)
 refine sr mx [] H (fun _ => .q 0 rfl<|.q 3 rfl<|.o (QM ud22 z0)<|.o (QV z2 z0)<|.q 0 rfl<|.g rfl rfl bq0 (fun _ => Qw z5)<|.g rfl rfl bq1 (fun _ => Qw z9)<|.g rfl rfl bq2 (fun hc => QM ud22 (.cond z0 hc))<|.g rfl rfl bq3 (fun hc => QV (.cond z2 hc) (.cond z0 hc))<|.o (QU z4 (fun hp => (.cond z0 (beqT hp))))<|.n) fun _ a w H => ?_
 have H := H.to [9,10,11,12,13] [_,_,_,_,_] [] rfl rfl
 refine wi H h (fun b21 h => ?_) (fun b21 h => ?_)
 ·refine wp_skip (k18 _ _ ?_)
  refine wp_seq_k (fun _ k20 => ?_)
  refine wp_block ?_
  have ⟨t22,ht22,h⟩ := bs h
  have ⟨t26,ht26,h⟩ := bs h
  have ⟨t31,ht31,h⟩ := bs h
  have ⟨t35,ht35,h⟩ := bs h
  refine wr mx [] H (fun _ => .q 2 rfl<|.q 4 rfl<|.q 3 rfl<|.o (QH ud22 tok3 z1 z0 ht22)<|.o (Qr tok3 z0)<|.q 9 rfl<|.q 7 rfl<|.o (QH ud22 tok3 z1 z0 ht26)<|.o (Qr tok3 z0)<|.o (QcN z4 z0)<|.q 14 rfl<|.q 12 rfl<|.o (QH ud22 tok3 z1 z0 ht31)<|.o (Qr tok3 z0)<|.q 17 rfl<|.q 16 rfl<|.o (QH ud22 tok3 z1 z0 ht35)<|.o (Qr tok3 z0)<|.o (QcN z4 z0)<|.o (QmS z9 z0)<|.o (QW z19 z0)<|.o (Qa z0)<|.n) fun _ a w H => ?_
  have H := H.to [21,23,24,25] [_,_,_,_] [] rfl rfl
  refine k20 _ _ ?_
  refine wr mx [] H (fun _ => .q 1 rfl<|.o (QW z0 .k)<|.o (Qa z0)<|.n) fun _ a w H => ?_
  have H := H.to [2,3,4,5] [_,_,_,_] [] rfl rfl
  exact k17 _ _ _ (sj h).symm (H.pick [0,1,2,3])
 refine wp_exit ?_
 exact hJp15 _ _ _ (ho _ (sj h).symm) (H.pick [2])

/- diorama/dioramalaw13.CountsNearest -/
noncomputable def QcF (l_ : (List Int)) (want_ : (List Int)) (other_ : (List Int)) : Option (Bool) := (Qbt l_).bind fun t20 => (QdJ want_ ((t20).Kinds.length : Int)).bind fun t26 => (QdJ other_ ((t20).Kinds.length : Int)).bind fun t29 => (QaU t20).bind fun t32 => (Qbv t20 t26).bind fun t39 => (opt ((t32.2.2 != (0:Int)) == false) (QcK t20) default).bind fun t46 => (if (((t32.2.2 != (0:Int)) || (decide ((t46.length : Int) > (0:Int)))) || ((t39.2 != (0:Int)) && (t39.2 != (14:Int)))) = true then (some false) else (QK (fun (s16 : Int × Bool × Bool) => ((if (decide (s16.1 < (t32.1.length : Int))) = true then (opt (s16.2.2 == true) (idx t32.1 s16.1) default).bind fun t68 => (opt (s16.2.2 == true) (QaV t68 t29) default).bind fun t71 => (opt (s16.2.1 == true) (idx t32.1 s16.1) default).bind fun t77 => (opt (s16.2.1 == true) (QaV t77 t26) default).bind fun t80 => (opt ((t39.2 == (0:Int)) == true) (idx t32.1 s16.1) default).bind fun t87 => (opt ((t39.2 == (0:Int)) == true) (QaV t87 t39.1) default).bind fun t90 => (if ((t39.2 == (0:Int)) && (!t90)) = true then (some (.inr (.inr false))) else (some (.inl ((IntKind.i64.wrap (s16.1 + (1:Int))),(s16.2.1 && t80),(s16.2.2 && t71))))) else (some (.inr (.inl (s16.2.1,s16.2.2))))) : Option ((Int × Bool × Bool) ⊕ ((Bool × Bool) ⊕ (Bool))))) ((0:Int),true,true)).bind fun (e17 : (Bool × Bool) ⊕ (Bool)) => (match e17 with | .inl p36 => (if (t39.2 != (0:Int)) = true then (opt (((!p36.2) && (!p36.1)) == true) (Qcc) default).bind fun t102 => (some (((!p36.2) && (!p36.1)) && t102)) else (opt ((((t39.1.length : Int) != ((t20).Kinds.length : Int)) == false) && (p36.1 == true)) (Qa2 t39.1 t26) default).bind fun t113 => (if (((t39.1.length : Int) != ((t20).Kinds.length : Int)) || (p36.1 && (!t113))) = true then (some false) else (opt ((!p36.2) == false) (Qb4 t26 t39.1) default).bind fun t122 => (opt ((!p36.2) == false) (Qb4 t26 t29) default).bind fun t125 => (opt (((!p36.2) || (decide (t122 ≤ t125))) == true) (Qcc) default).bind fun t129 => (some (((!p36.2) || (decide (t122 ≤ t125))) && t129)))) | .inr p37 => (some p37)))
theorem QjO {l_ : (List Int)} {want_ : (List Int)} {other_ : (List Int)} {r : Bool} (h : QcF l_ want_ other_ = some r) : FnOk Tryz.prog 7 [tsl rI l_,tsl rI want_,tsl rI other_] [glo] (fun _ => []) (fun _ => tb r) := by
 unfold QcF at h
 refine fe Tryz.func7 Tryz.ntmps7 fun M0 M w0 a hpl H => ?_
 replace H : St M w0 131 [(0,tsl rI l_),(1,tsl rI want_),(2,tsl rI other_)] [glo] a w0 := H
 refine sr mx [] H (fun _ => .o (Qa .k)<|.n) fun _ a w H => ?_
 have H := H.to [1,2,3] [_,_,_] [_] rfl rfl
 have ⟨t20,ht20,h⟩ := bs h
 refine sr mx [v1 2 (fun v0 => box (Qk.cs zz4) v0),v1 2 (fun v0 => box (Qk.cs t20) v0)] H (fun _ => .q 0 rfl<|.o (Qh call10 (Qnl ht20) (.cons (.of z0)<|.nil))<|.m [] [1] rfl rfl rfl (Q0 (R := Qk) (a := zz4) QaG QoR)<|.e [] [1] [2] rfl rfl rfl rfl (QQ (R := Qk) (a := t20) QaG z0 z1 (leb rfl))<|.n) fun _ a w H => ?_
 replace H : St _ _ _ [_,_,_] [_] _ _ := ((((H.pick [2,4,5]).selA [1,0] rfl).shareB 0 rfl).add 0 rfl (fun _ _ _ h => h.2)).pick [0,3,4]
 refine sr mx [] H (fun _ => .o (Qe Qbp z0)<|.o (Qf (u := (t20).Kinds) QdE z0 rfl)<|.o (QM ud23 z0)<|.o (Qa z0)<|.n) fun _ a w H => ?_
 have H := H.to [3,4,5,6] [_,_,_,_] [_] rfl rfl
 have ⟨t26,ht26,h⟩ := bs h
 refine sr mx [] H (fun _ => .q 2 rfl<|.q 1 rfl<|.o (Qh Qrw (QkV ht26) (.cons (.of z1)<|.cons (.of z0)<|.nil))<|.o (Qa z0)<|.n) fun _ a w H => ?_
 have H := H.to [3,4,5,7] [_,_,_,_] [_] rfl rfl
 have ⟨t29,ht29,h⟩ := bs h
 refine sr mx [] H (fun _ => .q 3 rfl<|.q 2 rfl<|.o (Qh Qrw (QkV ht29) (.cons (.of z1)<|.cons (.of z0)<|.nil))<|.o (Qa z0)<|.n) fun _ a w H => ?_
 have H := H.to [3,4,5,6] [_,_,_,_] [_] rfl rfl
 have ⟨t32,ht32,h⟩ := bs h
 refine sr mx [] H (fun _ => .o (Qr QaG z3)<|.u [0] rfl rfl ((Qh Qpn (QgJ ht32) (.cons (.of z0)<|.nil)).glo)<|.q 0 rfl<|.o (QS z0 rfl)<|.o (QS z1 rfl)<|.o (QS z2 rfl)<|.o (Qa z2)<|.o (Qa z2)<|.o (Qa z2)<|.n) fun _ a w H => ?_
 have H := H.to [6,8,9,10,11,12] [_,_,_,_,_,_] [_] rfl rfl
 have ⟨t39,ht39,h⟩ := bs h
 refine sr mx [] H (fun _ => .o (Qr QaG z5)<|.q 4 rfl<|.u [0] rfl rfl ((Qh Qnd (Qgi ht39) (.cons (.of z1)<|.cons (.of z0)<|.nil)).glo)<|.q 0 rfl<|.o (QS z0 rfl)<|.o (QS z1 rfl)<|.o (Qa z1)<|.o (Qa z1)<|.n) fun _ a w H => ?_
 have H := H.to [6,7,8,9,10,11,12,13] [_,_,_,_,_,_,_,_] [_] rfl rfl
 refine wp_seq_k (fun _ k9 => ?_)
 have ⟨t46,ht46,h⟩ := bs h
 refine sr mx [] H (fun _ => .q 3 rfl<|.o (Qal z0 .k)<|.q 0 rfl<|.g rfl rfl bq0 (fun _ => Qr QaG z10)<|.gu [0] rfl rfl rfl bq1 (fun hc => (Qh Qrx (QjB (Q6 ht46 hc)) (.cons (.of (.cond z0 hc))<|.nil)).glo)<|.g rfl rfl bq2 (fun hc => QM ud68 (.cond z0 hc))<|.g rfl rfl bq3 (fun hc => Qb8 (.cond z0 hc) .k)<|.o (Qao z4 (fun hp => (.cond z0 (beqF hp))))<|.q 0 rfl<|.g rfl rfl bq0 (fun _ => Qw z10)<|.g rfl rfl bq1 (fun hc => Qal (.cond z0 hc) .k)<|.g rfl rfl bq2 (fun hc => Qw (.cond z0 hc))<|.g rfl rfl (.c 0 rfl) (fun _ => Qw z13)<|.g rfl rfl (.c 1 rfl) (fun hc => Qal (.cond z0 hc) .k)<|.g rfl rfl bq5 (fun hc => QU (.cond z2 hc) (fun hp => (.cond z0 (QgW hc (beqT hp)))))<|.o (Qao z6 (fun hp => (.cond z0 (beqF hp))))<|.n) fun _ a w H => ?_
 have H := H.to [15,16,17,18,20,21,22] [_,_,_,_,_,_,_] [_] rfl rfl
 refine wi H h (fun b57 h => ?_) (fun b57 h => ?_)
 ·refine sr mx [] H (fun _ => .o (Qa .k)<|.n) fun _ a w H => ?_
  have H := H.to [0] [_] [_] rfl rfl
  refine wp_ret ?_
  obtain rfl := sj h
  exact rt undef [] hpl H (.tmp z0 .nil)
 refine wp_skip (k9 _ _ ?_)
 refine sr mx [] H (fun _ => .o (Qa .k)<|.n) fun _ a w H => ?_
 have H := H.to [0,2,3,4,5,6,7] [_,_,_,_,_,_,_] [_] rfl rfl
 refine sr mx [] H (fun _ => .o (Qa .k)<|.n) fun _ a w H => ?_
 have H := H.to [0,1,2,3,4,5,6,7] [_,_,_,_,_,_,_,_] [_] rfl rfl
 refine wp_seq_k (fun K14 k14 => ?_)
 refine sr mx [] H (fun _ => .o (Qa .k)<|.n) fun _ a w H => ?_
 have H := H.to [0,1,2,3,4,5,6,7,8] [_,_,_,_,_,_,_,_,_] [_] rfl rfl
 have ⟨e17,he17,h⟩ := bs h
 have hJp36 : ∀ (p36 : Bool × Bool) a w,(.inl p36) = e17 → St M w0 131 [(17,tb p36.1),(16,tb p36.2),(14,tsl rI t39.1),(15,ti t39.2),(10,tsl rI t29),(9,tsl rI t26),(8,ti ((t20).Kinds.length : Int))] [glo] a w → K14 a w := by
  intro p36 a w he H
  subst he
  simp only at h
  refine k14 _ _ ?_
  refine wp_seq_k (fun _ k38 => ?_)
  refine sr mx [] H (fun _ => .q 3 rfl<|.o (Qal z0 .k)<|.n) fun _ a w H => ?_
  have H := H.to [1,2,3,4,6,7,8] [_,_,_,_,_,_,_] [_] rfl rfl
  refine wi H h (fun b46 h => ?_) (fun b46 h => ?_)
  ·have ⟨t102,ht102,h⟩ := bs h
   refine sr mx [] H (fun _ => .q 2 rfl<|.o (Qag z0)<|.q 0 rfl<|.g rfl rfl bq0 (fun _ => Qw z4)<|.g rfl rfl bq1 (fun hc => Qag (.cond z0 hc))<|.o (QU z2 (fun hp => (.cond z0 (beqT hp))))<|.q 0 rfl<|.gu [0] rfl rfl rfl bq0 (fun hc => (Qh Qrv (Qj9 (Q6 ht102 hc)) (.nil)).glo)<|.o (QU z1 (fun hp => (.cond z0 (beqT hp))))<|.o (Qa z0)<|.n) fun _ a w H => ?_
   have H := H.to [9] [_] [_] rfl rfl
   refine wp_ret ?_
   obtain rfl := sj h
   exact rt undef [] hpl H (.tmp z0 .nil)
  refine wp_skip (k38 _ _ ?_)
  refine wp_seq_k (fun _ k41 => ?_)
  have ⟨t113,ht113,h⟩ := bs h
  refine sr mx [] H (fun _ => .q 3 rfl<|.o (QM ud22 z0)<|.q 8 rfl<|.o (Qal z1 z0)<|.q 0 rfl<|.g rfl rfl bq0 (fun _ => Qw z6)<|.g rfl rfl bq1 (fun hc => Qw (.cond z0 hc))<|.g rfl rfl (.c 0 rfl) (fun _ => Qw z10)<|.g rfl rfl (.c 1 rfl) (fun _ => Qw z13)<|.g rfl rfl (.c 2 rfl) (fun hc => Qh Qne (QeL (Q6 ht113 hc)) (.cons (.of (.cond z1 hc))<|.cons (.of (.cond z0 hc))<|.nil))<|.g rfl rfl (.c 3 rfl) (fun hc => Qag (.cond z0 hc))<|.g rfl rfl bq6 (fun hc => QU (.cond z4 hc) (fun hp => (.cond z0 (QgW hc (beqT hp)))))<|.o (Qao z7 (fun hp => (.cond z0 (beqF hp))))<|.n) fun _ a w H => ?_
  have H := H.to [12,15,16,17,18] [_,_,_,_,_] [_] rfl rfl
  refine wi H h (fun b45 h => ?_) (fun b45 h => ?_)
  ·refine sr mx [] H (fun _ => .o (Qa .k)<|.n) fun _ a w H => ?_
   have H := H.to [0] [_] [_] rfl rfl
   refine wp_ret ?_
   obtain rfl := sj h
   exact rt undef [] hpl H (.tmp z0 .nil)
  refine wp_skip (k41 _ _ ?_)
  have ⟨t122,ht122,h⟩ := bs h
  have ⟨t125,ht125,h⟩ := bs h
  have ⟨t129,ht129,h⟩ := bs h
  refine sr mx [] H (fun _ => .q 1 rfl<|.o (Qag z0)<|.q 0 rfl<|.g rfl rfl bq0 (fun _ => Qw z7)<|.g rfl rfl bq1 (fun _ => Qw z6)<|.g rfl rfl bq2 (fun hc => Qh Qry (QiL (Q6 ht122 hc)) (.cons (.of (.cond z1 hc))<|.cons (.of (.cond z0 hc))<|.nil))<|.g rfl rfl bq3 (fun _ => Qw z10)<|.g rfl rfl bq4 (fun _ => Qw z10)<|.g rfl rfl bq5 (fun hc => Qh Qry (QiL (Q6 ht125 hc)) (.cons (.of (.cond z1 hc))<|.cons (.of (.cond z0 hc))<|.nil))<|.g rfl rfl bq6 (fun hc => QdU (.cond z3 hc) (.cond z0 hc))<|.o (Qao z7 (fun hp => (.cond z0 (beqF hp))))<|.q 0 rfl<|.gu [0] rfl rfl rfl bq0 (fun hc => (Qh Qrv (Qj9 (Q6 ht129 hc)) (.nil)).glo)<|.o (QU z1 (fun hp => (.cond z0 (beqT hp))))<|.o (Qa z0)<|.n) fun _ a w H => ?_
  have H := H.to [14] [_] [_] rfl rfl
  refine wp_ret ?_
  obtain rfl := sj h
  exact rt undef [] hpl H (.tmp z0 .nil)
 have hJp37 : ∀ (p37 : Bool) a w,(.inr p37) = e17 → St M w0 131 [(6,tb p37)] [glo] a w → Ret Tryz.prog Tryz.f7 M0 [glo] w0 (fun _ => []) (fun _ => tb r) .ret a w := by
  intro p37 a w he H
  subst he
  simp only at h
  obtain rfl := sj h
  exact rt undef [] hpl H (.tmp z0 .nil)
 refine wp_block ?_
 refine QZ _ (fun (s16 : Int × Bool × Bool) a w => St M w0 131 [(18,ti s16.1),(17,tb s16.2.1),(16,tb s16.2.2),(14,tsl rI t39.1),(15,ti t39.2),(11,tsl Qj t32.1),(10,tsl rI t29),(9,tsl rI t26),(8,ti ((t20).Kinds.length : Int))] [glo] a w) _ _ he17 (H.pick [0,1,2,3,4,5,6,7,8]) ?_
 clear h
 intro s16 o a w K47 hI h ho k47
 have H := hI
 clear hI
 refine wp_seq_k (fun _ k48 => ?_)
 refine sr mx [] H (fun _ => .q 0 rfl<|.q 6 rfl<|.o (QM ud31 z0)<|.o (QV z2 z0)<|.n) fun _ a w H => ?_
 have H := H.to [3,4,5,6,7,8,9,10,11,12] [_,_,_,_,_,_,_,_,_,_] [_] rfl rfl
 refine wi H h (fun b56 h => ?_) (fun b56 h => ?_)
 ·refine wp_skip (k48 _ _ ?_)
  refine wp_seq_k (fun _ k50 => ?_)
  refine wp_block ?_
  have ⟨t68,ht68,h⟩ := bs h
  have ⟨t71,ht71,h⟩ := bs h
  refine sr mx [] H (fun _ => .q 3 rfl<|.q 0 rfl<|.g rfl rfl bq0 (fun _ => Qw z8)<|.g rfl rfl bq1 (fun _ => Qw z4)<|.g rfl rfl bq2 (fun hc => QH ud31 QaM (.cond z1 hc) (.cond z0 hc) (Q6 ht68 hc))<|.g rfl rfl bq3 (fun hc => Qr QaM (.cond z0 hc))<|.g rfl rfl bq4 (fun _ => Qw z13)<|.g rfl rfl bq5 (fun hc => Qh Qlg (Qes (Q6 ht71 hc)) (.cons (.of (.cond z1 hc))<|.cons (.of (.cond z0 hc))<|.nil))<|.o (QU z6 (fun hp => (.cond z0 (beqT hp))))<|.o (Qa z0)<|.n) fun _ a w H => ?_
  have H := H.to [9,11,12,13,14,15,16,17,18] [_,_,_,_,_,_,_,_,_] [_] rfl rfl
  have ⟨t77,ht77,h⟩ := bs h
  have ⟨t80,ht80,h⟩ := bs h
  refine sr mx [] H (fun _ => .q 2 rfl<|.q 0 rfl<|.g rfl rfl bq0 (fun _ => Qw z7)<|.g rfl rfl bq1 (fun _ => Qw z4)<|.g rfl rfl bq2 (fun hc => QH ud31 QaM (.cond z1 hc) (.cond z0 hc) (Q6 ht77 hc))<|.g rfl rfl bq3 (fun hc => Qr QaM (.cond z0 hc))<|.g rfl rfl bq4 (fun _ => Qw z13)<|.g rfl rfl bq5 (fun hc => Qh Qlg (Qes (Q6 ht80 hc)) (.cons (.of (.cond z1 hc))<|.cons (.of (.cond z0 hc))<|.nil))<|.o (QU z6 (fun hp => (.cond z0 (beqT hp))))<|.o (Qa z0)<|.n) fun _ a w H => ?_
  have H := H.to [9,10,11,12,13,14,15,16,17] [_,_,_,_,_,_,_,_,_] [_] rfl rfl
  have ⟨t87,ht87,h⟩ := bs h
  have ⟨t90,ht90,h⟩ := bs h
  refine sr mx [] H (fun _ => .q 4 rfl<|.o (Q3 z0 .k)<|.q 0 rfl<|.g rfl rfl bq0 (fun _ => Qw z8)<|.g rfl rfl bq1 (fun _ => Qw z6)<|.g rfl rfl bq2 (fun hc => QH ud31 QaM (.cond z1 hc) (.cond z0 hc) (Q6 ht87 hc))<|.g rfl rfl bq3 (fun hc => Qr QaM (.cond z0 hc))<|.g rfl rfl bq4 (fun _ => Qw z10)<|.g rfl rfl bq5 (fun hc => Qh Qlg (Qes (Q6 ht90 hc)) (.cons (.of (.cond z1 hc))<|.cons (.of (.cond z0 hc))<|.nil))<|.g rfl rfl bq6 (fun hc => Qag (.cond z0 hc))<|.o (QU z7 (fun hp => (.cond z0 (beqT hp))))<|.n) fun _ a w H => ?_
  have H := H.to [10,11,12,13,14,15,16,17,18,19] [_,_,_,_,_,_,_,_,_,_] [_] rfl rfl
  refine wi H h (fun b55 h => ?_) (fun b55 h => ?_)
  ·refine sr mx [] H (fun _ => .o (Qa .k)<|.n) fun _ a w H => ?_
   have H := H.to [0] [_] [_] rfl rfl
   refine wp_ret ?_
   exact hJp37 _ _ _ (ho _ (sj h).symm) (H.pick [0])
  refine wp_skip (k50 _ _ ?_)
  refine wr mx [] H (fun _ => .q 3 rfl<|.o (QW z0 .k)<|.o (Qa z0)<|.n) fun _ a w H => ?_
  have H := H.to [2,4,5,6,7,8,9,10,11] [_,_,_,_,_,_,_,_,_] [_] rfl rfl
  exact k47 _ _ _ (sj h).symm (H.pick [0,1,2,3,4,5,6,7,8])
 refine wp_exit ?_
 exact hJp36 _ _ _ (ho _ (sj h).symm) (H.pick [2,3,4,5,7,8,9])

end Go.Proofs.YtcdccjagknlmpaaGreatDoor

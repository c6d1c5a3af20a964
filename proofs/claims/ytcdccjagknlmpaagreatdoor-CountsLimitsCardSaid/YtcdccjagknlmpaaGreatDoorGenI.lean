/- Go functions as Lean functions, and the proofs that they compute them, written by a program. No condition. -/
import Derived.Test.YtcdccjagknlmpaaGreatDoorGenH
namespace Go.Proofs.YtcdccjagknlmpaaGreatDoor
open Go.Sim
set_option maxRecDepth 100000
set_option maxHeartbeats 4000000

/- diorama/dioramaref13.Limits -/
noncomputable def Qgl (x_ : Qh) : Option ((List QD) × (List Str) × Int) := (QgW x_).bind fun t14 => (if (decide ((t14.length : Int) > (0:Int))) = true then (idx t14 (0:Int)).bind fun t19 => (some (([] : List QD),([] : List Str),(t19).Code)) else (QF (fun (s12 : Int × List Str × List QD) => ((if (decide (s12.1 < ((x_).Kinds.length : Int))) = true then (idx (x_).Kinds s12.1).bind fun t32 => (rm (s12.2.2.length + [(QD.mk s12.1 (-1:Int) (t32).Lo true),(QD.mk s12.1 (-1:Int) (t32).Hi false)].length)).bind fun _ => (cat ((t32).Name.length + ([32,108,101,97,115,116] : Str).length)).bind fun _ => (cat ((t32).Name.length + ([32,109,111,115,116] : Str).length)).bind fun _ => (rm (s12.2.1.length + [((t32).Name ++ ([32,108,101,97,115,116] : Str)),((t32).Name ++ ([32,109,111,115,116] : Str))].length)).bind fun _ => (QF (fun (s159 : Int × List QD × List Str) => ((if (decide (s159.1 < ((t32).Fields.length : Int))) = true then (idx (t32).Fields s159.1).bind fun t64 => ((if ((t64).Kind == (1:Int)) = true then (Qct x_ (t64).Of).bind fun t72 => (rm (s159.2.1.length + [(QD.mk s12.1 t72 (t64).Lo true),(QD.mk s12.1 t72 (t64).Hi false)].length)).bind fun _ => (cat ((t32).Name.length + ([46] : Str).length)).bind fun _ => (cat (((t32).Name ++ ([46] : Str)).length + (t64).Name.length)).bind fun _ => (cat ((((t32).Name ++ ([46] : Str)) ++ (t64).Name).length + ([32,108,101,97,115,116] : Str).length)).bind fun _ => (cat ((t32).Name.length + ([46] : Str).length)).bind fun _ => (cat (((t32).Name ++ ([46] : Str)).length + (t64).Name.length)).bind fun _ => (cat ((((t32).Name ++ ([46] : Str)) ++ (t64).Name).length + ([32,109,111,115,116] : Str).length)).bind fun _ => (rm (s159.2.2.length + [((((t32).Name ++ ([46] : Str)) ++ (t64).Name) ++ ([32,108,101,97,115,116] : Str)),((((t32).Name ++ ([46] : Str)) ++ (t64).Name) ++ ([32,109,111,115,116] : Str))].length)).bind fun _ => (some ((s159.2.1 ++ [(QD.mk s12.1 t72 (t64).Lo true),(QD.mk s12.1 t72 (t64).Hi false)]),(s159.2.2 ++ [((((t32).Name ++ ([46] : Str)) ++ (t64).Name) ++ ([32,108,101,97,115,116] : Str)),((((t32).Name ++ ([46] : Str)) ++ (t64).Name) ++ ([32,109,111,115,116] : Str))]))) else (some (s159.2.1,s159.2.2)))).bind fun (p205 : List QD × List Str) => (some (.inl ((IntKind.i64.wrap (s159.1 + (1:Int))),p205.1,p205.2))) else (some (.inr (s159.2.1,s159.2.2)))) : Option ((Int × List QD × List Str) ⊕ ((List QD × List Str))))) ((0:Int),(s12.2.2 ++ [(QD.mk s12.1 (-1:Int) (t32).Lo true),(QD.mk s12.1 (-1:Int) (t32).Hi false)]),(s12.2.1 ++ [((t32).Name ++ ([32,108,101,97,115,116] : Str)),((t32).Name ++ ([32,109,111,115,116] : Str))]))).bind fun (p195 : (List QD × List Str)) => (some (.inl ((IntKind.i64.wrap (s12.1 + (1:Int))),p195.2,p195.1))) else (some (.inr (s12.2.1,s12.2.2)))) : Option ((Int × List Str × List QD) ⊕ ((List Str × List QD))))) ((0:Int),([] : List Str),([] : List QD))).bind fun (p146 : (List Str × List QD)) => (some (p146.2,p146.1,(0:Int))))
theorem Qog {x_ : Qh} {r : (List QD) × (List Str) × Int} (h : Qgl x_ = some r) : FnOk Tryz.prog 13 [Qg.ty x_] [] (fun _ => []) (fun _ => ttup [tsl Qac r.1,tsl rS r.2.1,ti r.2.2]) := by
 unfold Qgl at h
 refine fe Tryz.func13 Tryz.ntmps13 fun M0 M w0 a hpl H => ?_
 replace H : St M w0 105 [(0,Qg.ty x_)] [] a w0 := H
 refine sr mx [] H (fun _ => .o (QV (R := Qg) (u := x_) z0)<|.o (Qa (.nilsl (R := Qac)))<|.o (Qa (.nilsl (R := rS)))<|.o (Qa .k)<|.n) fun _ a w H => ?_
 have H := H.to [0] [_] [] rfl rfl
 have ⟨t14,ht14,h⟩ := bs h
 refine sr mx [] H (fun _ => .o (Qm Qar z0)<|.o (Qf call39 (QoS ht14) (.cons (.of z0)<|.nil))<|.o (Qa z0)<|.n) fun _ a w H => ?_
 have H := H.to [2,3] [_,_] [] rfl rfl
 refine wp_seq_k (fun _ k3 => ?_)
 refine sr mx [] H (fun _ => .q 0 rfl<|.o (QE ud91 z0)<|.o (Qa0 z0 .k)<|.n) fun _ a w H => ?_
 have H := H.to [2,3,4] [_,_,_] [] rfl rfl
 refine wi H h (fun b216 h => ?_) (fun b216 h => ?_)
 ·have ⟨t19,ht19,h⟩ := bs h
  refine sr mx [] H (fun _ => .q 1 rfl<|.o (Qr ud91 Qrg z0 .k ht19)<|.o (Qe QtP z0)<|.o (Qd (u := (t19).Code) QmT z0 rfl)<|.o (Qa (.nilsl (R := Qac)))<|.o (Qa (.nilsl (R := rS)))<|.o (Qa z2)<|.n) fun _ a w H => ?_
  have H := H.to [4,5,6] [_,_,_] [] rfl rfl
  refine wp_ret ?_
  obtain rfl := sj h
  exact rt undef [] hpl H (.tmp z0 (.tmp z1 (.tmp z2 .nil)))
 refine wp_skip (k3 _ _ ?_)
 refine sr mx [] H (fun _ => .o (Qa .k)<|.n) fun _ a w H => ?_
 replace H : St _ _ _ [_,_] [_] _ _ := (H.pick [0,3]).nil (Qac) 41
 refine sr mx [] H (fun _ => .o (Qa .k)<|.n) fun _ a w H => ?_
 replace H : St _ _ _ [_,_,_] [_,_] _ _ := (H.pick [0,1,2]).nil (rS) 9
 refine wp_seq_k (fun K10 k10 => ?_)
 refine sr mx [] H (fun _ => .o (Qa .k)<|.n) fun _ a w H => ?_
 have H := H.to [0,1,2,3] [_,_,_,_] [_,_] rfl rfl
 have ⟨e13,he13,h⟩ := bs h
 have hJp146 : ∀ (p146 : List Str × List QD) (v147 : Value) (v148 : Value) a w,p146 = e13 → St M w0 105 [(7,tv v147),(6,tv v148)] [own rS 9 p146.1 v147,own Qac 41 p146.2 v148] a w → K10 a w := by
  intro p146 v147 v148 a w he H
  subst he
  refine k10 _ _ ?_
  refine sr mx [] H (fun _ => .q 1 rfl<|.q 1 rfl<|.o (Qa z1)<|.o (Qa z1)<|.o (Qa .k)<|.n) fun _ a w H => ?_
  have H := H.to [0,1,2,3,4,5,6] [_,_,_,_,_,_,_] [_,_] rfl rfl
  refine wp_ret ?_
  replace H : St _ _ _ [_,_,_,_,_] [_] _ _ := ((H.selA [1,0] rfl).shareO 2 rfl).pick [0,2,4,5,6]
  replace H : St _ _ _ [_,_,_] [] _ _ := (H.shareO 2 rfl).pick [0,1,4]
  obtain rfl := sj h
  exact rt undef [] hpl H (.tmp z1 (.tmp z0 (.tmp z2 .nil)))
 refine wp_block ?_
 refine QR _ (fun (s12 : Int × List Str × List QD) a w => ∃ v79 : Value,∃ v80 : Value,St M w0 105 [(8,ti s12.1),(7,tv v79),(6,tv v80),(1,tptr (Qg.cs x_))] [own rS 9 s12.2.1 v79,own Qac 41 s12.2.2 v80] a w) _ _ he13 ⟨(.slice none 0 0),(.slice none 0 0),H.pick [0,1,2,3]⟩ ?_
 clear h
 intro s12 o a w K150 hI h ho k150
 obtain ⟨v79,v80,H⟩ := hI
 refine wp_seq_k (fun _ k151 => ?_)
 refine sr mx [] H (fun _ => .q 0 rfl<|.o (Qe Q9 z4)<|.o (Qd (u := (x_).Kinds) QaF z0 rfl)<|.o (QE ud23 z0)<|.o (QG z3 z0)<|.n) fun _ a w H => ?_
 have H := H.to [4,5,6,7,8] [_,_,_,_,_] [_,_] rfl rfl
 refine wi H h (fun b215 h => ?_) (fun b215 h => ?_)
 ·refine wp_skip (k151 _ _ ?_)
  refine wp_seq_k (fun K153 k153 => ?_)
  refine wp_block ?_
  have ⟨t32,ht32,h⟩ := bs h
  refine sr mx [v1 5 (fun v0 => box (Qk.cs zz1) v0),v1 5 (fun v0 => box (Qk.cs t32) v0)] H (fun _ => .o (Qe Q9 z4)<|.o (Qd (u := (x_).Kinds) QaF z0 rfl)<|.q 3 rfl<|.o (Qr ud23 QZ z1 z0 ht32)<|.o (Qm QZ z0)<|.m [] [2] rfl rfl rfl (Q0 (R := Qk) (a := zz1) QZ Qid)<|.e [] [2] [3] rfl rfl rfl rfl (QS (R := Qk) (a := t32) QZ z0 z1 (leb rfl))<|.n) fun _ a w H => ?_
  replace H : St _ _ _ [_,_,_,_,_] [_,_] _ _ := ((((H.pick [5,7,8,9,10]).selA [2,0,1] rfl).shareB 0 rfl).add 0 rfl (fun _ _ _ h => h.2)).pick [0,3,4,5,6]
  refine wp_seq_k (fun _ k156 => ?_)
  have ⟨u44,hu44,h⟩ := bs h
  refine wr mx [v1 10 (fun v0 => own Qac 41 (s12.2.2 ++ [(QD.mk s12.1 (-1:Int) (t32).Lo true),(QD.mk s12.1 (-1:Int) (t32).Hi false)]) v0)] H (fun _ => .q 3 rfl<|.q 2 rfl<|.o (Qe QhZ z2)<|.o (Qd (u := (t32).Lo) tok3 z0 rfl)<|.p (T := Qac.ty (QD.mk s12.1 (-1:Int) (t32).Lo true)) rfl (QY ud41 pl41 zv41 zc41 (.cons (R := rI) (u := s12.1) rfl z2 (leb rfl)<|.cons (R := rI) (u := (-1:Int)) rfl .k (leb rfl)<|.cons (R := rI) (u := (t32).Lo) rfl z0 (leb rfl)<|.cons (R := Qa7) (u := true) rfl .k (leb rfl)<|.nil _))<|.q 6 rfl<|.o (Qe Qh0 z6)<|.o (Qd (u := (t32).Hi) tok3 z0 rfl)<|.p (T := Qac.ty (QD.mk s12.1 (-1:Int) (t32).Hi false)) rfl (QY ud41 pl41 zv41 zc41 (.cons (R := rI) (u := s12.1) rfl z2 (leb rfl)<|.cons (R := rI) (u := (-1:Int)) rfl .k (leb rfl)<|.cons (R := rI) (u := (t32).Hi) rfl z0 (leb rfl)<|.nil _))<|.o (Qy (R := Qac) (us := [(QD.mk s12.1 (-1:Int) (t32).Lo true),(QD.mk s12.1 (-1:Int) (t32).Hi false)]) ud36 QjY (.cons z4<|.cons z0<|.nil _) rfl (leb rfl))<|.e [] [1] [2] rfl rfl rfl rfl (Qag (R := Qac) ud36 QjY (leb rfl) z9 z0 hu44)<|.ud (f := fun v => tv v) 10 rfl [] rfl rfl (Qa z0)<|.n) fun n10 a w H => ?_
  have H := H.to [10,11,12,13,14,15] [_,_,_,_,_,_] [_,_] rfl rfl
  refine k156 _ _ ?_
  refine wp_seq_k (fun _ k157 => ?_)
  have ⟨u48,hu48,h⟩ := bs h
  have ⟨u51,hu51,h⟩ := bs h
  have ⟨u53,hu53,h⟩ := bs h
  refine wr mx [v1 8 (fun v0 => own rS 9 (s12.2.1 ++ [((t32).Name ++ ([32,108,101,97,115,116] : Str)),((t32).Name ++ ([32,109,111,115,116] : Str))]) v0)] H (fun _ => .q 4 rfl<|.o (Qe Qbo z3)<|.o (Qd (u := (t32).Name) tok9 z0 rfl)<|.o (Qan z0 .k hu48)<|.o (Qe Qbo z6)<|.o (Qd (u := (t32).Name) tok9 z0 rfl)<|.o (Qan z0 .k hu51)<|.o (Qy (R := rS) (us := [((t32).Name ++ ([32,108,101,97,115,116] : Str)),((t32).Name ++ ([32,109,111,115,116] : Str))]) ud32 tok9 (.cons z3<|.cons z0<|.nil _) rfl (leb rfl))<|.e [] [0] [2] rfl rfl rfl rfl (Qag (R := rS) ud32 tok9 (leb rfl) z7 z0 hu53)<|.ud (f := fun v => tv v) 8 rfl [] rfl rfl (Qa z0)<|.n) fun n11 a w H => ?_
  have H := H.to [8,9,10,11,12,13,14] [_,_,_,_,_,_,_] [_,_] rfl rfl
  refine k157 _ _ ?_
  refine sr mx [] H (fun _ => .o (Qa .k)<|.n) fun _ a w H => ?_
  have H := H.to [0,1,2,3,4,5,6,7] [_,_,_,_,_,_,_,_] [_,_] rfl rfl
  have ⟨e160,he160,h⟩ := bs h
  have hJp195 : ∀ (p195 : List QD × List Str) (v196 : Value) (v197 : Value) a w,p195 = e160 → St M w0 105 [(7,tv v197),(6,tv v196),(8,ti s12.1),(1,tptr (Qg.cs x_))] [own Qac 41 p195.1 v196,own rS 9 p195.2 v197] a w → K153 a w := by
   intro p195 v196 v197 a w he H
   subst he
   refine k153 _ _ ?_
   refine wr mx [] H (fun _ => .q 2 rfl<|.o (QQ z0 .k)<|.o (Qa z0)<|.n) fun _ a w H => ?_
   have H := H.to [2,3,4,5] [_,_,_,_] [_,_] rfl rfl
   exact k150 _ _ _ (sj h).symm ⟨v197,v196,(H.pick [0,1,2,3]).selA [1,0] rfl⟩
  refine wp_block ?_
  refine QR _ (fun (s159 : Int × List QD × List Str) a w => ∃ v177 : Value,∃ v178 : Value,St M w0 105 [(10,ti s159.1),(7,tv v178),(6,tv v177),(9,tptr (Qk.cs t32)),(8,ti s12.1),(1,tptr (Qg.cs x_))] [own Qac 41 s159.2.1 v177,own rS 9 s159.2.2 v178] a w) _ _ he160 ⟨(n10 10),(n11 8),H.pick [0,2,4,5,6,7]⟩ ?_
  clear h
  intro s159 o a w K198 hI h ho k198
  obtain ⟨v177,v178,H⟩ := hI
  refine wp_seq_k (fun _ k199 => ?_)
  refine sr mx [] H (fun _ => .q 0 rfl<|.o (Qe Qaf z4)<|.o (Qd (u := (t32).Fields) QaK z0 rfl)<|.o (QE ud53 z0)<|.o (QG z3 z0)<|.n) fun _ a w H => ?_
  have H := H.to [4,5,6,7,8,9,10] [_,_,_,_,_,_,_] [_,_] rfl rfl
  refine wi H h (fun b214 h => ?_) (fun b214 h => ?_)
  ·refine wp_skip (k199 _ _ ?_)
   refine wp_seq_k (fun K201 k201 => ?_)
   refine wp_block ?_
   have ⟨t64,ht64,h⟩ := bs h
   refine sr mx [v1 5 (fun v0 => box (Qb.cs zz0) v0),v1 5 (fun v0 => box (Qb.cs t64) v0)] H (fun _ => .o (Qe Qaf z4)<|.o (Qd (u := (t32).Fields) QaK z0 rfl)<|.q 3 rfl<|.o (Qr ud53 QI z1 z0 ht64)<|.o (Qm QI z0)<|.m [] [2] rfl rfl rfl (Q0 (R := Qb) (a := zz0) QI Qcy)<|.e [] [2] [3] rfl rfl rfl rfl (QS (R := Qb) (a := t64) QI z0 z1 (leb rfl))<|.n) fun _ a w H => ?_
   replace H : St _ _ _ [_,_,_,_,_,_,_] [_,_] _ _ := ((((H.pick [5,7,8,9,10,11,12]).selA [2,0,1] rfl).shareB 0 rfl).add 0 rfl (fun _ _ _ h => h.2)).pick [0,3,4,5,6,7,8]
   refine sr mx [] H (fun _ => .o (Qe Qao z0)<|.o (Qd (u := (t64).Kind) tok3 z0 rfl)<|.o (QM z0 .k)<|.n) fun _ a w H => ?_
   have H := H.to [2,3,4,5,6,7,8,9] [_,_,_,_,_,_,_,_] [_,_] rfl rfl
   have ⟨p205,hp205,h⟩ := bs h
   have hJp205 : ∀ (v209 : Value) (v210 : Value) a w,St M w0 105 [(7,tv v210),(6,tv v209),(10,ti s159.1),(9,tptr (Qk.cs t32)),(8,ti s12.1),(1,tptr (Qg.cs x_))] [own Qac 41 p205.1 v209,own rS 9 p205.2 v210] a w → K201 a w := by
    intro v209 v210 a w H
    refine k201 _ _ ?_
    refine wr mx [] H (fun _ => .q 2 rfl<|.o (QQ z0 .k)<|.o (Qa z0)<|.n) fun _ a w H => ?_
    have H := H.to [2,3,4,5,6,7] [_,_,_,_,_,_] [_,_] rfl rfl
    exact k198 _ _ _ (sj h).symm ⟨v209,v210,H.pick [0,1,2,3,4,5]⟩
   replace h := hp205
   clear hp205
   refine wi H h (fun b213 h => ?_) (fun b213 h => ?_)
   ·have ⟨t72,ht72,h⟩ := bs h
    refine sr mx [] H (fun _ => .o (Qm Qar z7)<|.o (Qe Qas z2)<|.o (Qd (u := (t64).Of) tok9 z0 rfl)<|.o (Qf Qlb (Qe1 ht72) (.cons (.of z2)<|.cons (.of z0)<|.nil))<|.o (Qa z0)<|.n) fun _ a w H => ?_
    have H := H.to [4,6,7,8,9,10,11,12] [_,_,_,_,_,_,_,_] [_,_] rfl rfl
    refine wp_seq_k (fun _ k212 => ?_)
    have ⟨u85,hu85,h⟩ := bs h
    refine wr mx [v1 12 (fun v0 => own Qac 41 (s159.2.1 ++ [(QD.mk s12.1 t72 (t64).Lo true),(QD.mk s12.1 t72 (t64).Hi false)]) v0)] H (fun _ => .q 4 rfl<|.q 7 rfl<|.q 2 rfl<|.o (Qe QaE z4)<|.o (Qd (u := (t64).Lo) tok3 z0 rfl)<|.p (T := Qac.ty (QD.mk s12.1 t72 (t64).Lo true)) rfl (QY ud41 pl41 zv41 zc41 (.cons (R := rI) (u := s12.1) rfl z3 (leb rfl)<|.cons (R := rI) (u := t72) rfl z2 (leb rfl)<|.cons (R := rI) (u := (t64).Lo) rfl z0 (leb rfl)<|.cons (R := Qa7) (u := true) rfl .k (leb rfl)<|.nil _))<|.q 12 rfl<|.q 7 rfl<|.o (Qe QaV z9)<|.o (Qd (u := (t64).Hi) tok3 z0 rfl)<|.p (T := Qac.ty (QD.mk s12.1 t72 (t64).Hi false)) rfl (QY ud41 pl41 zv41 zc41 (.cons (R := rI) (u := s12.1) rfl z3 (leb rfl)<|.cons (R := rI) (u := t72) rfl z2 (leb rfl)<|.cons (R := rI) (u := (t64).Hi) rfl z0 (leb rfl)<|.nil _))<|.o (Qy (R := Qac) (us := [(QD.mk s12.1 t72 (t64).Lo true),(QD.mk s12.1 t72 (t64).Hi false)]) ud36 QjY (.cons z5<|.cons z0<|.nil _) rfl (leb rfl))<|.e [] [0] [2] rfl rfl rfl rfl (Qag (R := Qac) ud36 QjY (leb rfl) z11 z0 hu85)<|.ud (f := fun v => tv v) 12 rfl [] rfl rfl (Qa z0)<|.n) fun n18 a w H => ?_
    have H := H.to [12,13,15,16,17,18,19,20] [_,_,_,_,_,_,_,_] [_,_] rfl rfl
    refine k212 _ _ ?_
    have ⟨u89,hu89,h⟩ := bs h
    have ⟨u92,hu92,h⟩ := bs h
    have ⟨u93,hu93,h⟩ := bs h
    have ⟨u96,hu96,h⟩ := bs h
    have ⟨u99,hu99,h⟩ := bs h
    have ⟨u100,hu100,h⟩ := bs h
    have ⟨u102,hu102,h⟩ := bs h
    refine wr mx [v1 16 (fun v0 => own rS 9 (s159.2.2 ++ [((((t32).Name ++ ([46] : Str)) ++ (t64).Name) ++ ([32,108,101,97,115,116] : Str)),((((t32).Name ++ ([46] : Str)) ++ (t64).Name) ++ ([32,109,111,115,116] : Str))]) v0)] H (fun _ => .q 4 rfl<|.o (Qe Qbo z6)<|.o (Qd (u := (t32).Name) tok9 z0 rfl)<|.o (Qan z0 .k hu89)<|.o (Qe Qbd z6)<|.o (Qd (u := (t64).Name) tok9 z0 rfl)<|.o (Qan z2 z0 hu92)<|.o (Qan z0 .k hu93)<|.o (Qe Qbo z13)<|.o (Qd (u := (t32).Name) tok9 z0 rfl)<|.o (Qan z0 .k hu96)<|.o (Qe Qbd z13)<|.o (Qd (u := (t64).Name) tok9 z0 rfl)<|.o (Qan z2 z0 hu99)<|.o (Qan z0 .k hu100)<|.o (Qy (R := rS) (us := [((((t32).Name ++ ([46] : Str)) ++ (t64).Name) ++ ([32,108,101,97,115,116] : Str)),((((t32).Name ++ ([46] : Str)) ++ (t64).Name) ++ ([32,109,111,115,116] : Str))]) ud32 tok9 (.cons z7<|.cons z0<|.nil _) rfl (leb rfl))<|.e [] [0] [2] rfl rfl rfl rfl (Qag (R := rS) ud32 tok9 (leb rfl) z15 z0 hu102)<|.ud (f := fun v => tv v) 16 rfl [] rfl rfl (Qa z0)<|.n) fun n19 a w H => ?_
    have H := H.to [16,17,18,19,21,22,23,24] [_,_,_,_,_,_,_,_] [_,_] rfl rfl
    obtain rfl := sj h
    exact hJp205 (n18 12) (n19 16) _ _ (H.pick [1,3,4,5,6,7])
   refine wp_skip ?_
   obtain rfl := sj h
   exact hJp205 v177 v178 _ _ (H.pick [3,4,2,5,6,7])
  refine wp_exit ?_
  exact hJp195 _ v177 v178 _ _ (ho _ (sj h).symm) (H.pick [2,3,5,6])
 refine wp_exit ?_
 exact hJp146 _ v79 v80 _ _ (ho _ (sj h).symm) (H.pick [2,3])

/- diorama/dioramaref01.SameTexts -/
noncomputable def Qew (a_ : (List Str)) (b_ : (List Str)) : Option (Bool) := (if ((a_.length : Int) != (b_.length : Int)) = true then (some false) else (QF (fun (s7 : Int) => ((if (decide (s7 < (a_.length : Int))) = true then (idx a_ s7).bind fun t19 => (idx b_ s7).bind fun t23 => (if (t19 != t23) = true then (some (.inr (.inr false))) else (some (.inl (IntKind.i64.wrap (s7 + (1:Int)))))) else (some (.inr (.inl ())))) : Option ((Int) ⊕ ((Unit) ⊕ (Bool))))) (0:Int)).bind fun (e8 : (Unit) ⊕ (Bool)) => (match e8 with | .inl _ => (some true) | .inr p24 => (some p24)))
theorem QmA {a_ : (List Str)} {b_ : (List Str)} {r : Bool} (h : Qew a_ b_ = some r) : FnOk Tryz.prog 14 [tsl rS a_,tsl rS b_] [] (fun _ => []) (fun _ => tb r) := by
 unfold Qew at h
 refine fe Tryz.func14 Tryz.ntmps14 fun M0 M w0 a hpl H => ?_
 replace H : St M w0 26 [(0,tsl rS a_),(1,tsl rS b_)] [] a w0 := H
 refine sr mx [] H (fun _ => .o (Qa .k)<|.n) fun _ a w H => ?_
 have H := H.to [1,2] [_,_] [] rfl rfl
 refine wp_seq_k (fun _ k2 => ?_)
 refine sr mx [] H (fun _ => .q 0 rfl<|.o (QE ud32 z0)<|.q 3 rfl<|.o (QE ud32 z0)<|.o (Qau z2 z0)<|.n) fun _ a w H => ?_
 have H := H.to [4,5,6] [_,_,_] [] rfl rfl
 refine wi H h (fun b34 h => ?_) (fun b34 h => ?_)
 ·refine sr mx [] H (fun _ => .o (Qa .k)<|.n) fun _ a w H => ?_
  have H := H.to [0] [_] [] rfl rfl
  refine wp_ret ?_
  obtain rfl := sj h
  exact rt undef [] hpl H (.tmp z0 .nil)
 refine wp_skip (k2 _ _ ?_)
 refine wp_seq_k (fun K5 k5 => ?_)
 refine sr mx [] H (fun _ => .o (Qa .k)<|.n) fun _ a w H => ?_
 have H := H.to [0,2,3] [_,_,_] [] rfl rfl
 have ⟨e8,he8,h⟩ := bs h
 have hJp23 : ∀ (p23 : Unit) a w,(.inl p23) = e8 → St M w0 26 [] [] a w → K5 a w := by
  intro p23 a w he H
  subst he
  simp only at h
  refine k5 _ _ ?_
  refine sr mx [] H (fun _ => .o (Qa .k)<|.n) fun _ a w H => ?_
  have H := H.to [0] [_] [] rfl rfl
  refine wp_ret ?_
  obtain rfl := sj h
  exact rt undef [] hpl H (.tmp z0 .nil)
 have hJp24 : ∀ (p24 : Bool) a w,(.inr p24) = e8 → St M w0 26 [(4,tb p24)] [] a w → Ret Tryz.prog Tryz.f14 M0 [] w0 (fun _ => []) (fun _ => tb r) .ret a w := by
  intro p24 a w he H
  subst he
  simp only at h
  obtain rfl := sj h
  exact rt undef [] hpl H (.tmp z0 .nil)
 refine wp_block ?_
 refine QR _ (fun (s7 : Int) a w => St M w0 26 [(5,ti s7),(0,tsl rS a_),(1,tsl rS b_)] [] a w) _ _ he8 (H.pick [0,1,2]) ?_
 clear h
 intro s7 o a w K26 hI h ho k26
 have H := hI
 clear hI
 refine wp_seq_k (fun _ k27 => ?_)
 refine sr mx [] H (fun _ => .q 0 rfl<|.q 2 rfl<|.o (QE ud32 z0)<|.o (QG z2 z0)<|.n) fun _ a w H => ?_
 have H := H.to [3,4,5,6] [_,_,_,_] [] rfl rfl
 refine wi H h (fun b33 h => ?_) (fun b33 h => ?_)
 ·refine wp_skip (k27 _ _ ?_)
  refine wp_seq_k (fun _ k29 => ?_)
  refine wp_block ?_
  have ⟨t19,ht19,h⟩ := bs h
  have ⟨t23,ht23,h⟩ := bs h
  refine sr mx [] H (fun _ => .q 2 rfl<|.q 2 rfl<|.o (Qr ud32 tok9 z1 z0 ht19)<|.o (Qm tok9 z0)<|.q 7 rfl<|.q 6 rfl<|.o (Qr ud32 tok9 z1 z0 ht23)<|.o (Qm tok9 z0)<|.o (Qeb z4 z0)<|.n) fun _ a w H => ?_
  have H := H.to [8,10,11,12] [_,_,_,_] [] rfl rfl
  refine wi H h (fun b32 h => ?_) (fun b32 h => ?_)
  ·refine sr mx [] H (fun _ => .o (Qa .k)<|.n) fun _ a w H => ?_
   have H := H.to [0] [_] [] rfl rfl
   refine wp_ret ?_
   exact hJp24 _ _ _ (ho _ (sj h).symm) (H.pick [0])
  refine wp_skip (k29 _ _ ?_)
  refine wr mx [] H (fun _ => .q 1 rfl<|.o (QQ z0 .k)<|.o (Qa z0)<|.n) fun _ a w H => ?_
  have H := H.to [2,4,5] [_,_,_] [] rfl rfl
  exact k26 _ _ _ (sj h).symm (H.pick [0,1,2])
 refine wp_exit ?_
 exact hJp23 _ _ _ (ho _ (sj h).symm) (H.pick [])

/- diorama/dioramalaw13.plain -/
noncomputable def Qiv (l_ : Qi) : Option (QD) := (some (QD.mk (l_).A (l_).B (l_).Mul (l_).Least))
theorem QoT {l_ : Qi} {r : QD} (h : Qiv l_ = some r) : FnOk Tryz.prog 15 [Ql.ty l_] [] (fun _ => []) (fun _ => Qac.ty r) := by
 unfold Qiv at h
 refine fe Tryz.func15 Tryz.ntmps15 fun M0 M w0 a hpl H => ?_
 replace H : St M w0 12 [(0,Ql.ty l_)] [] a w0 := H
 refine sr mx [v1 1 (fun v0 => box (Qac.cs (QD.mk (0:Int) (0:Int) (0:Int) false)) v0)] H (fun _ => .o (QV (R := Ql) (u := l_) z0)<|.m [] [0] rfl rfl rfl (Q0 (R := Qac) (a := (QD.mk (0:Int) (0:Int) (0:Int) false)) QjY zok41)<|.n) fun n0 a w H => ?_
 have H := H.to [0,1] [_,_] [_] rfl rfl
 refine sr mx [v0 (box (Qac.cs (QD.mk (l_).A (l_).B (l_).Mul (l_).Least)) (n0 1))] H (fun _ => .o (Qe Qgu z0)<|.o (Qd (u := (l_).A) tok3 z0 rfl)<|.o (Qe QeV z2)<|.o (Qd (u := (l_).B) tok3 z0 rfl)<|.o (Qe Qgv z4)<|.o (Qd (u := (l_).Mul) tok3 z0 rfl)<|.o (Qe Qk9 z6)<|.o (Qd (u := (l_).Least) tok4 z0 rfl)<|.p (T := Qac.ty (QD.mk (l_).A (l_).B (l_).Mul (l_).Least)) rfl (QY ud41 pl41 zv41 zc41 (.cons (R := rI) (u := (l_).A) rfl z6 (leb rfl)<|.cons (R := rI) (u := (l_).B) rfl z4 (leb rfl)<|.cons (R := rI) (u := (l_).Mul) rfl z2 (leb rfl)<|.cons (R := Qa7) (u := (l_).Least) rfl z0 (leb rfl)<|.nil _))<|.e [] [0] [1] rfl rfl rfl rfl (QS (R := Qac) (a := (QD.mk (l_).A (l_).B (l_).Mul (l_).Least)) QjY z10 z0 (leb rfl))<|.n) fun _ a w H => ?_
 have H := H.to [10] [_] [_] rfl rfl
 refine wp_ret ?_
 obtain rfl := sj h
 exact rt undef [] hpl H (.cell (R := Qac) (u := (QD.mk (l_).A (l_).B (l_).Mul (l_).Least)) QjY z0 0 rfl rfl .nil)

/- diorama/dioramalaw13.example -/
noncomputable def QcQ (least_ : Int) : Option (Qh) := (some (Qh.mk (0:Int) [(Qj.mk ([97] : Str) (1:Int) (2:Int) [(Qc.mk ([105,100] : Str) ([] : Str) ([] : Str) (0:Int) (0:Int) (0:Int) ([] : (List Str)) ([] : (List Int)))]),(Qj.mk ([98] : Str) least_ (9:Int) [(Qc.mk ([105,100] : Str) ([] : Str) ([] : Str) (0:Int) (0:Int) (0:Int) ([] : (List Str)) ([] : (List Int))),(Qc.mk ([111,102] : Str) ([97] : Str) ([] : Str) (1:Int) (0:Int) (4:Int) ([] : (List Str)) ([] : (List Int)))])] ([] : (List Qo)) ([] : (List Qn))))
theorem QfV {least_ : Int} {r : Qh} (h : QcQ least_ = some r) : FnOk Tryz.prog 26 [ti least_] [] (fun _ => []) (fun _ => Qg.ty r) := by
 unfold QcQ at h
 refine fe Tryz.func26 Tryz.ntmps26 fun M0 M w0 a hpl H => ?_
 replace H : St M w0 17 [(0,ti least_)] [] a w0 := H
 refine sr mx [v1 0 (fun v0 => box (Qg.cs zz4) v0)] H (fun _ => .m [] [0] rfl rfl rfl (Q0 (R := Qg) (a := zz4) Qar QnT)<|.n) fun n0 a w H => ?_
 have H := H.to [0,1] [_,_] [_] rfl rfl
 refine sr mx [v1 3 (fun v0 => box (Qk.cs zz1) v0),v1 3 (fun v0 => box (Qk.cs (Qj.mk ([97] : Str) (1:Int) (2:Int) [(Qc.mk ([105,100] : Str) ([] : Str) ([] : Str) (0:Int) (0:Int) (0:Int) ([] : (List Str)) ([] : (List Int)))])) v0)] H (fun _ => .p (T := Qb.ty (Qc.mk ([105,100] : Str) ([] : Str) ([] : Str) (0:Int) (0:Int) (0:Int) ([] : (List Str)) ([] : (List Int)))) rfl (QY ud61 pl61 zv61 zc61 (.cons (R := rS) (u := ([105,100] : Str)) rfl .k (leb rfl)<|.nil _))<|.o (Qy (R := Qb) (us := [(Qc.mk ([105,100] : Str) ([] : Str) ([] : Str) (0:Int) (0:Int) (0:Int) ([] : (List Str)) ([] : (List Int)))]) ud53 QI (.cons z0<|.nil _) rfl (leb rfl))<|.p (T := Qk.ty (Qj.mk ([97] : Str) (1:Int) (2:Int) [(Qc.mk ([105,100] : Str) ([] : Str) ([] : Str) (0:Int) (0:Int) (0:Int) ([] : (List Str)) ([] : (List Int)))])) rfl (QY Tryz.underlying55 pl55 zv55 zc55 (.cons (R := rS) (u := ([97] : Str)) rfl .k (leb rfl)<|.cons (R := rI) (u := (1:Int)) rfl .k (leb rfl)<|.cons (R := rI) (u := (2:Int)) rfl .k (leb rfl)<|.cons (R := (rSl Qb)) (u := [(Qc.mk ([105,100] : Str) ([] : Str) ([] : Str) (0:Int) (0:Int) (0:Int) ([] : (List Str)) ([] : (List Int)))]) rfl z0 (leb rfl)<|.nil _))<|.m [] [1] rfl rfl rfl (Q0 (R := Qk) (a := zz1) QZ Qid)<|.e [] [1] [2] rfl rfl rfl rfl (QS (R := Qk) (a := (Qj.mk ([97] : Str) (1:Int) (2:Int) [(Qc.mk ([105,100] : Str) ([] : Str) ([] : Str) (0:Int) (0:Int) (0:Int) ([] : (List Str)) ([] : (List Int)))])) QZ z0 z1 (leb rfl))<|.n) fun _ a w H => ?_
 replace H : St _ _ _ [_,_,_] [_] _ _ := ((((H.pick [3,4,5]).selA [1,0] rfl).shareB 0 rfl).add 0 rfl (fun _ _ _ h => h.2)).pick [0,3,4]
 refine sr mx [v1 5 (fun v0 => box (Qk.cs zz1) v0),v1 5 (fun v0 => box (Qk.cs (Qj.mk ([98] : Str) least_ (9:Int) [(Qc.mk ([105,100] : Str) ([] : Str) ([] : Str) (0:Int) (0:Int) (0:Int) ([] : (List Str)) ([] : (List Int))),(Qc.mk ([111,102] : Str) ([97] : Str) ([] : Str) (1:Int) (0:Int) (4:Int) ([] : (List Str)) ([] : (List Int)))])) v0)] H (fun _ => .q 2 rfl<|.p (T := Qb.ty (Qc.mk ([105,100] : Str) ([] : Str) ([] : Str) (0:Int) (0:Int) (0:Int) ([] : (List Str)) ([] : (List Int)))) rfl (QY ud61 pl61 zv61 zc61 (.cons (R := rS) (u := ([105,100] : Str)) rfl .k (leb rfl)<|.nil _))<|.p (T := Qb.ty (Qc.mk ([111,102] : Str) ([97] : Str) ([] : Str) (1:Int) (0:Int) (4:Int) ([] : (List Str)) ([] : (List Int)))) rfl (QY ud61 pl61 zv61 zc61 (.cons (R := rS) (u := ([111,102] : Str)) rfl .k (leb rfl)<|.cons (R := rI) (u := (1:Int)) rfl .k (leb rfl)<|.cons (R := rS) (u := ([97] : Str)) rfl .k (leb rfl)<|.cons (R := rI) (u := (4:Int)) rfl .k (leb rfl)<|.nil _))<|.o (Qy (R := Qb) (us := [(Qc.mk ([105,100] : Str) ([] : Str) ([] : Str) (0:Int) (0:Int) (0:Int) ([] : (List Str)) ([] : (List Int))),(Qc.mk ([111,102] : Str) ([97] : Str) ([] : Str) (1:Int) (0:Int) (4:Int) ([] : (List Str)) ([] : (List Int)))]) ud53 QI (.cons z1<|.cons z0<|.nil _) rfl (leb rfl))<|.p (T := Qk.ty (Qj.mk ([98] : Str) least_ (9:Int) [(Qc.mk ([105,100] : Str) ([] : Str) ([] : Str) (0:Int) (0:Int) (0:Int) ([] : (List Str)) ([] : (List Int))),(Qc.mk ([111,102] : Str) ([97] : Str) ([] : Str) (1:Int) (0:Int) (4:Int) ([] : (List Str)) ([] : (List Int)))])) rfl (QY Tryz.underlying55 pl55 zv55 zc55 (.cons (R := rS) (u := ([98] : Str)) rfl .k (leb rfl)<|.cons (R := rI) (u := least_) rfl z3 (leb rfl)<|.cons (R := rI) (u := (9:Int)) rfl .k (leb rfl)<|.cons (R := (rSl Qb)) (u := [(Qc.mk ([105,100] : Str) ([] : Str) ([] : Str) (0:Int) (0:Int) (0:Int) ([] : (List Str)) ([] : (List Int))),(Qc.mk ([111,102] : Str) ([97] : Str) ([] : Str) (1:Int) (0:Int) (4:Int) ([] : (List Str)) ([] : (List Int)))]) rfl z0 (leb rfl)<|.nil _))<|.m [] [1] rfl rfl rfl (Q0 (R := Qk) (a := zz1) QZ Qid)<|.e [] [1] [2] rfl rfl rfl rfl (QS (R := Qk) (a := (Qj.mk ([98] : Str) least_ (9:Int) [(Qc.mk ([105,100] : Str) ([] : Str) ([] : Str) (0:Int) (0:Int) (0:Int) ([] : (List Str)) ([] : (List Int))),(Qc.mk ([111,102] : Str) ([97] : Str) ([] : Str) (1:Int) (0:Int) (4:Int) ([] : (List Str)) ([] : (List Int)))])) QZ z0 z1 (leb rfl))<|.n) fun _ a w H => ?_
 replace H : St _ _ _ [_,_,_] [_] _ _ := ((((H.pick [5,6,7]).selA [1,0] rfl).shareB 0 rfl).add 0 rfl (fun _ _ _ h => h.2)).pick [0,3,4]
 refine sr mx [v0 (box (Qg.cs (Qh.mk (0:Int) [(Qj.mk ([97] : Str) (1:Int) (2:Int) [(Qc.mk ([105,100] : Str) ([] : Str) ([] : Str) (0:Int) (0:Int) (0:Int) ([] : (List Str)) ([] : (List Int)))]),(Qj.mk ([98] : Str) least_ (9:Int) [(Qc.mk ([105,100] : Str) ([] : Str) ([] : Str) (0:Int) (0:Int) (0:Int) ([] : (List Str)) ([] : (List Int))),(Qc.mk ([111,102] : Str) ([97] : Str) ([] : Str) (1:Int) (0:Int) (4:Int) ([] : (List Str)) ([] : (List Int)))])] ([] : (List Qo)) ([] : (List Qn)))) (n0 0))] H (fun _ => .o (Qm QZ z1)<|.o (Qm QZ z1)<|.o (Qy (R := Qk) (us := [(Qj.mk ([97] : Str) (1:Int) (2:Int) [(Qc.mk ([105,100] : Str) ([] : Str) ([] : Str) (0:Int) (0:Int) (0:Int) ([] : (List Str)) ([] : (List Int)))]),(Qj.mk ([98] : Str) least_ (9:Int) [(Qc.mk ([105,100] : Str) ([] : Str) ([] : Str) (0:Int) (0:Int) (0:Int) ([] : (List Str)) ([] : (List Int))),(Qc.mk ([111,102] : Str) ([97] : Str) ([] : Str) (1:Int) (0:Int) (4:Int) ([] : (List Str)) ([] : (List Int)))])]) ud23 QZ (.cons z1<|.cons z0<|.nil _) rfl (leb rfl))<|.p (T := Qg.ty (Qh.mk (0:Int) [(Qj.mk ([97] : Str) (1:Int) (2:Int) [(Qc.mk ([105,100] : Str) ([] : Str) ([] : Str) (0:Int) (0:Int) (0:Int) ([] : (List Str)) ([] : (List Int)))]),(Qj.mk ([98] : Str) least_ (9:Int) [(Qc.mk ([105,100] : Str) ([] : Str) ([] : Str) (0:Int) (0:Int) (0:Int) ([] : (List Str)) ([] : (List Int))),(Qc.mk ([111,102] : Str) ([97] : Str) ([] : Str) (1:Int) (0:Int) (4:Int) ([] : (List Str)) ([] : (List Int)))])] ([] : (List Qo)) ([] : (List Qn)))) rfl (QY Tryz.underlying27 pl27 zv27 zc27 (.cons (R := (rSl Qk)) (u := [(Qj.mk ([97] : Str) (1:Int) (2:Int) [(Qc.mk ([105,100] : Str) ([] : Str) ([] : Str) (0:Int) (0:Int) (0:Int) ([] : (List Str)) ([] : (List Int)))]),(Qj.mk ([98] : Str) least_ (9:Int) [(Qc.mk ([105,100] : Str) ([] : Str) ([] : Str) (0:Int) (0:Int) (0:Int) ([] : (List Str)) ([] : (List Int))),(Qc.mk ([111,102] : Str) ([97] : Str) ([] : Str) (1:Int) (0:Int) (4:Int) ([] : (List Str)) ([] : (List Int)))])]) rfl z0 (leb rfl)<|.nil _))<|.e [] [0] [1] rfl rfl rfl rfl (QS (R := Qg) (a := (Qh.mk (0:Int) [(Qj.mk ([97] : Str) (1:Int) (2:Int) [(Qc.mk ([105,100] : Str) ([] : Str) ([] : Str) (0:Int) (0:Int) (0:Int) ([] : (List Str)) ([] : (List Int)))]),(Qj.mk ([98] : Str) least_ (9:Int) [(Qc.mk ([105,100] : Str) ([] : Str) ([] : Str) (0:Int) (0:Int) (0:Int) ([] : (List Str)) ([] : (List Int))),(Qc.mk ([111,102] : Str) ([97] : Str) ([] : Str) (1:Int) (0:Int) (4:Int) ([] : (List Str)) ([] : (List Int)))])] ([] : (List Qo)) ([] : (List Qn)))) Qar z6 z0 (leb rfl))<|.n) fun _ a w H => ?_
 have H := H.to [6] [_] [_] rfl rfl
 refine wp_ret ?_
 obtain rfl := sj h
 exact rt undef [] hpl H (.cell (R := Qg) (u := (Qh.mk (0:Int) [(Qj.mk ([97] : Str) (1:Int) (2:Int) [(Qc.mk ([105,100] : Str) ([] : Str) ([] : Str) (0:Int) (0:Int) (0:Int) ([] : (List Str)) ([] : (List Int)))]),(Qj.mk ([98] : Str) least_ (9:Int) [(Qc.mk ([105,100] : Str) ([] : Str) ([] : Str) (0:Int) (0:Int) (0:Int) ([] : (List Str)) ([] : (List Int))),(Qc.mk ([111,102] : Str) ([97] : Str) ([] : Str) (1:Int) (0:Int) (4:Int) ([] : (List Str)) ([] : (List Int)))])] ([] : (List Qo)) ([] : (List Qn)))) Qar z0 0 rfl rfl .nil)

/- slices.IndexFunc[[]int,int] -/
noncomputable def QcR (s_ : (List Int)) (f_ : (Int → Option Bool)) : Option (Int) := (QF (fun (s4 : Int) => ((if (decide (s4 < (s_.length : Int))) = true then (idx s_ s4).bind fun t14 => (f_ t14).bind fun t16 => (if t16 = true then (some (.inr (.inr s4))) else (some (.inl (IntKind.i64.wrap (s4 + (1:Int)))))) else (some (.inr (.inl ())))) : Option ((Int) ⊕ ((Unit) ⊕ (Int))))) (0:Int)).bind fun (e5 : (Unit) ⊕ (Int)) => (match e5 with | .inl _ => (some (-1:Int)) | .inr p23 => (some p23))
theorem QkC {s_ : (List Int)} {f_ : (Int → Option Bool)} {r : Int} (h : QcR s_ f_ = some r) : FnOk Tryz.prog 81 [tsl rI s_,rF96.ty f_] [] (fun _ => []) (fun _ => ti r) := by
 unfold QcR at h
 refine fe Tryz.func81 Tryz.ntmps81 fun M0 M w0 a hpl H => ?_
 replace H : St M w0 19 [(0,tsl rI s_),(1,rF96.ty f_)] [] a w0 := H
 refine sr mx [] H (fun _ => .o (Qa .k)<|.n) fun _ a w H => ?_
 have H := H.to [1,2] [_,_] [] rfl rfl
 refine wp_seq_k (fun K2 k2 => ?_)
 refine sr mx [] H (fun _ => .q 0 rfl<|.o (QE ud22 z0)<|.o (Qq .k)<|.n) fun _ a w H => ?_
 have H := H.to [1,2,3,4] [_,_,_,_] [] rfl rfl
 have ⟨e5,he5,h⟩ := bs h
 have hJp22 : ∀ (p22 : Unit) a w,(.inl p22) = e5 → St M w0 19 [] [] a w → K2 a w := by
  intro p22 a w he H
  subst he
  simp only at h
  refine k2 _ _ ?_
  refine sr mx [] H (fun _ => .o (Qa .k)<|.n) fun _ a w H => ?_
  have H := H.to [0] [_] [] rfl rfl
  refine wp_ret ?_
  obtain rfl := sj h
  exact rt undef [] hpl H (.tmp z0 .nil)
 have hJp23 : ∀ (p23 : Int) a w,(.inr p23) = e5 → St M w0 19 [(4,ti p23)] [] a w → Ret Tryz.prog Tryz.f81 M0 [] w0 (fun _ => []) (fun _ => ti r) .ret a w := by
  intro p23 a w he H
  subst he
  simp only at h
  obtain rfl := sj h
  exact rt undef [] hpl H (.tmp z0 .nil)
 refine wp_block ?_
 refine QR _ (fun (s4 : Int) a w => St M w0 19 [(7,ti (s_.length : Int)),(8,ti s4),(0,tsl rI s_),(1,rF96.ty f_)] [] a w) _ _ he5 (H.pick [0,1,2,3]) ?_
 clear h
 intro s4 o a w K25 hI h ho k25
 have H := hI
 clear hI
 refine sr mx [] H (fun _ => .o (QG z1 z0)<|.n) fun _ a w H => ?_
 have H := H.to [0,1,2,3,4] [_,_,_,_,_] [] rfl rfl
 refine wp_seq_k (fun _ k27 => ?_)
 refine wi H h (fun b33 h => ?_) (fun b33 h => ?_)
 ·refine wp_skip (k27 _ _ ?_)
  refine wp_seq_k (fun _ k28 => ?_)
  refine wp_block ?_
  refine sr mx [] H (fun _ => .q 2 rfl<|.o (Qa z0)<|.n) fun _ a w H => ?_
  have H := H.to [1,3,4,5,6] [_,_,_,_,_] [] rfl rfl
  have ⟨t14,ht14,h⟩ := bs h
  have ⟨t16,ht16,h⟩ := bs h
  refine sr mx [] H (fun _ => .q 4 rfl<|.q 4 rfl<|.q 2 rfl<|.o (Qr ud22 tok3 z1 z0 ht14)<|.o (Qm tok3 z0)<|.o (Qca (u := t14) z4 (.cons (.of z0)<|.nil) ht16)<|.n) fun _ a w H => ?_
  have H := H.to [5,6,7,8,9,10] [_,_,_,_,_,_] [] rfl rfl
  refine wi H h (fun b32 h => ?_) (fun b32 h => ?_)
  ·refine sr mx [] H (fun _ => .q 1 rfl<|.o (Qa z0)<|.n) fun _ a w H => ?_
   have H := H.to [1] [_] [] rfl rfl
   refine wp_ret ?_
   exact hJp23 _ _ _ (ho _ (sj h).symm) (H.pick [0])
  refine wp_skip (k28 _ _ ?_)
  refine wr mx [] H (fun _ => .o (QQ z3 .k)<|.q 0 rfl<|.n) fun _ a w H => ?_
  have H := H.to [1,4,5,6] [_,_,_,_] [] rfl rfl
  exact k25 _ _ _ (sj h).symm (H.pick [1,0,2,3])
 refine wp_exit ?_
 exact hJp22 _ _ _ (ho _ (sj h).symm) (H.pick [])

/- slices.ContainsFunc[[]int,int] -/
noncomputable def Qbv (s_ : (List Int)) (f_ : (Int → Option Bool)) : Option (Bool) := (QcR s_ f_).bind fun t7 => (some (decide (t7 ≥ (0:Int))))
theorem Qgm {s_ : (List Int)} {f_ : (Int → Option Bool)} {r : Bool} (h : Qbv s_ f_ = some r) : FnOk Tryz.prog 43 [tsl rI s_,rF96.ty f_] [] (fun _ => []) (fun _ => tb r) := by
 unfold Qbv at h
 refine fe Tryz.func43 Tryz.ntmps43 fun M0 M w0 a hpl H => ?_
 replace H : St M w0 9 [(0,tsl rI s_),(1,rF96.ty f_)] [] a w0 := H
 refine sr mx [] H (fun _ => .o (Qa .k)<|.n) fun _ a w H => ?_
 have H := H.to [1,2] [_,_] [] rfl rfl
 have ⟨t7,ht7,h⟩ := bs h
 refine sr mx [] H (fun _ => .q 0 rfl<|.q 2 rfl<|.o (Qf call81 (QkC ht7) (.cons (.of z1)<|.cons (.of z0)<|.nil))<|.o (QaJ z0 .k)<|.o (Qa z0)<|.n) fun _ a w H => ?_
 have H := H.to [4] [_] [] rfl rfl
 refine wp_ret ?_
 obtain rfl := sj h
 exact rt undef [] hpl H (.tmp z0 .nil)

/- diorama/counts.isCount -/
noncomputable def QdK (n_ : Int) : Option (Bool) := (some ((decide (n_ ≥ (0:Int))) && (decide (n_ ≤ (65536:Int)))))
theorem QjU {n_ : Int} {r : Bool} (h : QdK n_ = some r) : FnOk Tryz.prog 45 [ti n_] [] (fun _ => []) (fun _ => tb r) := by
 unfold QdK at h
 refine fe Tryz.func45 Tryz.ntmps45 fun M0 M w0 a hpl H => ?_
 replace H : St M w0 9 [(0,ti n_)] [] a w0 := H
 refine sr mx [] H (fun _ => .o (Qa .k)<|.n) fun _ a w H => ?_
 have H := H.to [1] [_] [] rfl rfl
 refine sr mx [] H (fun _ => .q 0 rfl<|.o (QaJ z0 .k)<|.q 0 rfl<|.g rfl rfl bq0 (fun _ => Qq z3)<|.g rfl rfl bq1 (fun hc => QcK (.cond z0 hc) .k)<|.o (QW z2 (fun hp => (.cond z0 (beqT hp))))<|.o (Qa z0)<|.n) fun _ a w H => ?_
 have H := H.to [6] [_] [] rfl rfl
 refine wp_ret ?_
 obtain rfl := sj h
 exact rt undef [] hpl H (.tmp z0 .nil)

/- diorama/counts.Plan$1 -/
noncomputable def Qfx (n_ : Int) : Option (Bool) := (QdK n_).bind fun t4 => (some (!t4))
theorem Qnu {n_ : Int} {r : Bool} (h : Qfx n_ = some r) : FnOk Tryz.prog 49 [ti n_] [] (fun _ => []) (fun _ => tb r) := by
 unfold Qfx at h
 refine fe Tryz.func49 Tryz.ntmps49 fun M0 M w0 a hpl H => ?_
 replace H : St M w0 6 [(0,ti n_)] [] a w0 := H
 refine sr mx [] H (fun _ => .o (Qa .k)<|.n) fun _ a w H => ?_
 have H := H.to [1] [_] [] rfl rfl
 have ⟨t4,ht4,h⟩ := bs h
 refine sr mx [] H (fun _ => .q 0 rfl<|.o (Qf QrT (QjU ht4) (.cons (.of z0)<|.nil))<|.o (Qae z0)<|.o (Qa z0)<|.n) fun _ a w H => ?_
 have H := H.to [3] [_] [] rfl rfl
 refine wp_ret ?_
 obtain rfl := sj h
 exact rt undef [] hpl H (.tmp z0 .nil)

/- cmp.isNaN[int] -/
noncomputable def Qej (x_ : Int) : Option (Bool) := (some (x_ != x_))
theorem Qkr {x_ : Int} {r : Bool} (h : Qej x_ = some r) : FnOk Tryz.prog 149 [ti x_] [] (fun _ => []) (fun _ => tb r) := by
 unfold Qej at h
 refine fe Tryz.func149 Tryz.ntmps149 fun M0 M w0 a hpl H => ?_
 replace H : St M w0 6 [(0,ti x_)] [] a w0 := H
 refine sr mx [] H (fun _ => .o (Qa .k)<|.n) fun _ a w H => ?_
 have H := H.to [1] [_] [] rfl rfl
 refine sr mx [] H (fun _ => .q 0 rfl<|.q 1 rfl<|.o (Qau z1 z0)<|.o (Qa z0)<|.n) fun _ a w H => ?_
 have H := H.to [3] [_] [] rfl rfl
 refine wp_ret ?_
 obtain rfl := sj h
 exact rt undef [] hpl H (.tmp z0 .nil)

/- cmp.Compare[int] -/
noncomputable def Qex (x_ : Int) (y_ : Int) : Option (Int) := (Qej x_).bind fun t8 => (Qej y_).bind fun t10 => (if t8 = true then (if t10 = true then (some (0:Int)) else (some (-1:Int))) else (if t10 = true then (some (1:Int)) else (if (decide (x_ < y_)) = true then (some (-1:Int)) else (if (decide (x_ > y_)) = true then (some (1:Int)) else (some (0:Int))))))
theorem QmB {x_ : Int} {y_ : Int} {r : Int} (h : Qex x_ y_ = some r) : FnOk Tryz.prog 119 [ti x_,ti y_] [] (fun _ => []) (fun _ => ti r) := by
 unfold Qex at h
 refine fe Tryz.func119 Tryz.ntmps119 fun M0 M w0 a hpl H => ?_
 replace H : St M w0 20 [(0,ti x_),(1,ti y_)] [] a w0 := H
 refine sr mx [] H (fun _ => .o (Qa .k)<|.n) fun _ a w H => ?_
 have H := H.to [1,2] [_,_] [] rfl rfl
 have ⟨t8,ht8,h⟩ := bs h
 refine sr mx [] H (fun _ => .q 0 rfl<|.o (Qf QqS (Qkr ht8) (.cons (.of z0)<|.nil))<|.o (Qa z0)<|.n) fun _ a w H => ?_
 have H := H.to [2,3,4] [_,_,_] [] rfl rfl
 have ⟨t10,ht10,h⟩ := bs h
 refine sr mx [] H (fun _ => .q 2 rfl<|.o (Qf QqS (Qkr ht10) (.cons (.of z0)<|.nil))<|.o (Qa z0)<|.n) fun _ a w H => ?_
 have H := H.to [2,3,4,5] [_,_,_,_] [] rfl rfl
 refine wp_seq_k (fun _ k4 => ?_)
 refine sr mx [] H (fun _ => .q 1 rfl<|.n) fun _ a w H => ?_
 have H := H.to [0,1,3,4] [_,_,_,_] [] rfl rfl
 refine wi H h (fun b24 h => ?_) (fun b24 h => ?_)
 ·refine wp_seq_k (fun _ k6 => ?_)
  refine sr mx [] H (fun _ => .q 1 rfl<|.n) fun _ a w H => ?_
  have H := H.to [0] [_] [] rfl rfl
  refine wi H h (fun b10 h => ?_) (fun b10 h => ?_)
  ·refine sr mx [] H (fun _ => .o (Qa .k)<|.n) fun _ a w H => ?_
   have H := H.to [0] [_] [] rfl rfl
   refine wp_ret ?_
   obtain rfl := sj h
   exact rt undef [] hpl H (.tmp z0 .nil)
  refine wp_skip (k6 _ _ ?_)
  refine sr mx [] H (fun _ => .o (Qa .k)<|.n) fun _ a w H => ?_
  have H := H.to [0] [_] [] rfl rfl
  refine wp_ret ?_
  obtain rfl := sj h
  exact rt undef [] hpl H (.tmp z0 .nil)
 refine wp_skip (k4 _ _ ?_)
 refine wp_seq_k (fun _ k11 => ?_)
 refine sr mx [] H (fun _ => .q 1 rfl<|.n) fun _ a w H => ?_
 have H := H.to [0,3,4] [_,_,_] [] rfl rfl
 refine wi H h (fun b23 h => ?_) (fun b23 h => ?_)
 ·refine sr mx [] H (fun _ => .o (Qa .k)<|.n) fun _ a w H => ?_
  have H := H.to [0] [_] [] rfl rfl
  refine wp_ret ?_
  obtain rfl := sj h
  exact rt undef [] hpl H (.tmp z0 .nil)
 refine wp_skip (k11 _ _ ?_)
 refine wp_seq_k (fun _ k14 => ?_)
 refine sr mx [] H (fun _ => .q 1 rfl<|.q 3 rfl<|.o (QG z1 z0)<|.n) fun _ a w H => ?_
 have H := H.to [2,4,5] [_,_,_] [] rfl rfl
 refine wi H h (fun b22 h => ?_) (fun b22 h => ?_)
 ·refine sr mx [] H (fun _ => .o (Qa .k)<|.n) fun _ a w H => ?_
  have H := H.to [0] [_] [] rfl rfl
  refine wp_ret ?_
  obtain rfl := sj h
  exact rt undef [] hpl H (.tmp z0 .nil)
 refine wp_skip (k14 _ _ ?_)
 refine wp_seq_k (fun _ k17 => ?_)
 refine sr mx [] H (fun _ => .q 1 rfl<|.q 3 rfl<|.o (Qa0 z1 z0)<|.n) fun _ a w H => ?_
 have H := H.to [2] [_] [] rfl rfl
 refine wi H h (fun b21 h => ?_) (fun b21 h => ?_)
 ·refine sr mx [] H (fun _ => .o (Qa .k)<|.n) fun _ a w H => ?_
  have H := H.to [0] [_] [] rfl rfl
  refine wp_ret ?_
  obtain rfl := sj h
  exact rt undef [] hpl H (.tmp z0 .nil)
 refine wp_skip (k17 _ _ ?_)
 refine sr mx [] H (fun _ => .o (Qa .k)<|.n) fun _ a w H => ?_
 have H := H.to [0] [_] [] rfl rfl
 refine wp_ret ?_
 obtain rfl := sj h
 exact rt undef [] hpl H (.tmp z0 .nil)

/- slices.Compare[[]int,int] -/
noncomputable def Qdg (s1_ : (List Int)) (s2_ : (List Int)) : Option (Int) := (QF (fun (s4 : Int) => ((if (decide (s4 < (s1_.length : Int))) = true then (idx s1_ s4).bind fun t14 => (if (decide (s4 ≥ (s2_.length : Int))) = true then (some (.inr (.inr (1:Int)))) else (idx s2_ s4).bind fun t22 => (Qex t14 t22).bind fun t26 => (if (t26 != (0:Int)) = true then (some (.inr (.inr t26))) else (some (.inl (IntKind.i64.wrap (s4 + (1:Int))))))) else (some (.inr (.inl ())))) : Option ((Int) ⊕ ((Unit) ⊕ (Int))))) (0:Int)).bind fun (e5 : (Unit) ⊕ (Int)) => (match e5 with | .inl _ => (if (decide ((s1_.length : Int) < (s2_.length : Int))) = true then (some (-1:Int)) else (some (0:Int))) | .inr p35 => (some p35))
theorem Qlg {s1_ : (List Int)} {s2_ : (List Int)} {r : Int} (h : Qdg s1_ s2_ = some r) : FnOk Tryz.prog 83 [tsl rI s1_,tsl rI s2_] [] (fun _ => []) (fun _ => ti r) := by
 unfold Qdg at h
 refine fe Tryz.func83 Tryz.ntmps83 fun M0 M w0 a hpl H => ?_
 replace H : St M w0 36 [(0,tsl rI s1_),(1,tsl rI s2_)] [] a w0 := H
 refine sr mx [] H (fun _ => .o (Qa .k)<|.n) fun _ a w H => ?_
 have H := H.to [1,2] [_,_] [] rfl rfl
 refine wp_seq_k (fun K2 k2 => ?_)
 refine sr mx [] H (fun _ => .q 0 rfl<|.o (QE ud22 z0)<|.o (Qq .k)<|.n) fun _ a w H => ?_
 have H := H.to [0,1,2,3,4] [_,_,_,_,_] [] rfl rfl
 have ⟨e5,he5,h⟩ := bs h
 have hJp34 : ∀ (p34 : Unit) a w,(.inl p34) = e5 → St M w0 36 [(0,tsl rI s1_),(1,tsl rI s2_)] [] a w → K2 a w := by
  intro p34 a w he H
  subst he
  simp only at h
  refine k2 _ _ ?_
  refine wp_seq_k (fun _ k36 => ?_)
  refine sr mx [] H (fun _ => .q 0 rfl<|.o (QE ud22 z0)<|.q 3 rfl<|.o (QE ud22 z0)<|.o (QG z2 z0)<|.n) fun _ a w H => ?_
  have H := H.to [4] [_] [] rfl rfl
  refine wi H h (fun b40 h => ?_) (fun b40 h => ?_)
  ·refine sr mx [] H (fun _ => .o (Qa .k)<|.n) fun _ a w H => ?_
   have H := H.to [0] [_] [] rfl rfl
   refine wp_ret ?_
   obtain rfl := sj h
   exact rt undef [] hpl H (.tmp z0 .nil)
  refine wp_skip (k36 _ _ ?_)
  refine sr mx [] H (fun _ => .o (Qa .k)<|.n) fun _ a w H => ?_
  have H := H.to [0] [_] [] rfl rfl
  refine wp_ret ?_
  obtain rfl := sj h
  exact rt undef [] hpl H (.tmp z0 .nil)
 have hJp35 : ∀ (p35 : Int) a w,(.inr p35) = e5 → St M w0 36 [(4,ti p35)] [] a w → Ret Tryz.prog Tryz.f83 M0 [] w0 (fun _ => []) (fun _ => ti r) .ret a w := by
  intro p35 a w he H
  subst he
  simp only at h
  obtain rfl := sj h
  exact rt undef [] hpl H (.tmp z0 .nil)
 refine wp_block ?_
 refine QR _ (fun (s4 : Int) a w => St M w0 36 [(9,tsl rI s1_),(10,ti (s1_.length : Int)),(11,ti s4),(0,tsl rI s1_),(1,tsl rI s2_)] [] a w) _ _ he5 (H.pick [0,1,2,3,4]) ?_
 clear h
 intro s4 o a w K41 hI h ho k41
 have H := hI
 clear hI
 refine sr mx [] H (fun _ => .o (QG z2 z1)<|.n) fun _ a w H => ?_
 have H := H.to [0,1,2,3,4,5] [_,_,_,_,_,_] [] rfl rfl
 refine wp_seq_k (fun _ k43 => ?_)
 refine wi H h (fun b55 h => ?_) (fun b55 h => ?_)
 ·refine wp_skip (k43 _ _ ?_)
  refine wp_seq_k (fun _ k44 => ?_)
  refine wp_block ?_
  have ⟨t14,ht14,h⟩ := bs h
  refine sr mx [] H (fun _ => .q 3 rfl<|.o (Qr ud22 tok3 z2 z4 ht14)<|.o (Qm tok3 z0)<|.o (Qa z2)<|.o (Qa z1)<|.n) fun _ a w H => ?_
  have H := H.to [3,4,6,7,8,9,10] [_,_,_,_,_,_,_] [] rfl rfl
  refine wp_seq_k (fun _ k46 => ?_)
  refine sr mx [] H (fun _ => .q 0 rfl<|.q 7 rfl<|.o (QE ud22 z0)<|.o (QaJ z2 z0)<|.n) fun _ a w H => ?_
  have H := H.to [3,4,5,6,7,8,9,10] [_,_,_,_,_,_,_,_] [] rfl rfl
  refine wi H h (fun b54 h => ?_) (fun b54 h => ?_)
  ·refine sr mx [] H (fun _ => .o (Qa .k)<|.n) fun _ a w H => ?_
   have H := H.to [0] [_] [] rfl rfl
   refine wp_ret ?_
   exact hJp35 _ _ _ (ho _ (sj h).symm) (H.pick [0])
  refine wp_skip (k46 _ _ ?_)
  have ⟨t22,ht22,h⟩ := bs h
  refine sr mx [] H (fun _ => .q 7 rfl<|.q 2 rfl<|.o (Qr ud22 tok3 z1 z0 ht22)<|.o (Qm tok3 z0)<|.o (Qa z0)<|.n) fun _ a w H => ?_
  have H := H.to [4,7,8,9,10,11,12] [_,_,_,_,_,_,_] [] rfl rfl
  have ⟨t26,ht26,h⟩ := bs h
  refine sr mx [] H (fun _ => .q 1 rfl<|.q 1 rfl<|.o (Qf Qt4 (QmB ht26) (.cons (.of z1)<|.cons (.of z0)<|.nil))<|.o (Qa z0)<|.n) fun _ a w H => ?_
  have H := H.to [3,6,7,8,9,10] [_,_,_,_,_,_] [] rfl rfl
  refine sr mx [] H (fun _ => .q 0 rfl<|.o (Qau z0 .k)<|.n) fun _ a w H => ?_
  have H := H.to [1,2,3,4,5,6,7] [_,_,_,_,_,_,_] [] rfl rfl
  refine wi H h (fun b53 h => ?_) (fun b53 h => ?_)
  ·refine sr mx [] H (fun _ => .q 1 rfl<|.o (Qa z0)<|.n) fun _ a w H => ?_
   have H := H.to [1] [_] [] rfl rfl
   refine wp_ret ?_
   exact hJp35 _ _ _ (ho _ (sj h).symm) (H.pick [0])
  refine wp_skip (k44 _ _ ?_)
  refine wr mx [] H (fun _ => .o (QQ z4 .k)<|.q 0 rfl<|.n) fun _ a w H => ?_
  have H := H.to [1,4,5,6,7] [_,_,_,_,_] [] rfl rfl
  exact k41 _ _ _ (sj h).symm (H.pick [1,2,0,3,4])
 refine wp_exit ?_
 exact hJp34 _ _ _ (ho _ (sj h).symm) (H.pick [4,5])

/- (diorama/counts.Limit).bound -/
noncomputable def QbJ (l_ : Qi) (counts_ : (List Int)) : Option (Int) := (if (decide ((l_).B < (0:Int))) = true then (some (l_).Mul) else (idx counts_ (l_).B).bind fun t15 => (some (IntKind.i64.wrap ((l_).Mul * t15))))
theorem Qfy {l_ : Qi} {counts_ : (List Int)} {r : Int} (h : QbJ l_ counts_ = some r) : FnOk Tryz.prog 82 [Ql.ty l_,tsl rI counts_] [] (fun _ => []) (fun _ => ti r) := by
 unfold QbJ at h
 refine fe Tryz.func82 Tryz.ntmps82 fun M0 M w0 a hpl H => ?_
 replace H : St M w0 18 [(0,Ql.ty l_),(1,tsl rI counts_)] [] a w0 := H
 refine sr mx [] H (fun _ => .o (QV (R := Ql) (u := l_) z0)<|.o (Qa .k)<|.n) fun _ a w H => ?_
 have H := H.to [0,3] [_,_] [] rfl rfl
 refine wp_seq_k (fun _ k2 => ?_)
 refine sr mx [] H (fun _ => .o (Qe QeV z0)<|.o (Qd (u := (l_).B) tok3 z0 rfl)<|.o (QG z0 .k)<|.n) fun _ a w H => ?_
 have H := H.to [2,3,4] [_,_,_] [] rfl rfl
 refine wi H h (fun b6 h => ?_) (fun b6 h => ?_)
 ·refine sr mx [] H (fun _ => .o (Qe Qgv z1)<|.o (Qd (u := (l_).Mul) tok3 z0 rfl)<|.o (Qa z0)<|.n) fun _ a w H => ?_
  have H := H.to [2] [_] [] rfl rfl
  refine wp_ret ?_
  obtain rfl := sj h
  exact rt undef [] hpl H (.tmp z0 .nil)
 refine wp_skip (k2 _ _ ?_)
 have ⟨t15,ht15,h⟩ := bs h
 refine sr mx [] H (fun _ => .o (Qe Qgv z1)<|.o (Qd (u := (l_).Mul) tok3 z0 rfl)<|.q 4 rfl<|.o (Qe QeV z4)<|.o (Qd (u := (l_).B) tok3 z0 rfl)<|.o (Qr ud22 tok3 z2 z0 ht15)<|.o (Qm tok3 z0)<|.o (QnB z5 z0)<|.o (Qa z0)<|.n) fun _ a w H => ?_
 have H := H.to [8] [_] [] rfl rfl
 refine wp_ret ?_
 obtain rfl := sj h
 exact rt undef [] hpl H (.tmp z0 .nil)

/- (*diorama/counts.search).room -/
noncomputable def Qcn (s_ : Qx) (kind_ : Int) : Option (Int × Int) := (QF (fun (s5 : Int × Int × Int) => ((if (decide (s5.1 < ((s_).limits.length : Int))) = true then ((idx (s_).limits s5.1).bind fun t18 => (if (((t18).A != kind_) || (decide ((t18).B ≥ kind_))) = true then (some (s5.2.1,s5.2.2)) else (QbJ t18 ((s_).now).L).bind fun t35 => ((if (t18).Least = true then (some ((imax s5.2.1 t35),s5.2.2)) else (some (s5.2.1,(imin s5.2.2 t35))))).bind fun (p80 : Int × Int) => (some (p80.1,p80.2)))).bind fun (p63 : Int × Int) => (some (.inl ((IntKind.i64.wrap (s5.1 + (1:Int))),p63.1,p63.2))) else (some (.inr (s5.2.1,s5.2.2)))) : Option ((Int × Int × Int) ⊕ ((Int × Int))))) ((0:Int),(0:Int),(65536:Int))).bind fun (p57 : (Int × Int)) => (some (p57.1,p57.2))
theorem Qlh {s_ : Qx} {kind_ : Int} {r : Int × Int} (h : Qcn s_ kind_ = some r) : FnOk Tryz.prog 120 [tptr (QL.cs s_),ti kind_] [] (fun _ => []) (fun _ => ttup [ti r.1,ti r.2]) := by
 unfold Qcn at h
 refine fe Tryz.func120 Tryz.ntmps120 fun M0 M w0 a hpl H => ?_
 replace H : St M w0 47 [(0,tptr (QL.cs s_)),(1,ti kind_)] [] a w0 := H
 refine sr mx [] H (fun _ => .o (Qa .k)<|.o (Qa .k)<|.n) fun _ a w H => ?_
 have H := H.to [2,3] [_,_] [] rfl rfl
 refine sr mx [] H (fun _ => .o (Qa .k)<|.o (Qa .k)<|.n) fun _ a w H => ?_
 have H := H.to [0,1,2,3] [_,_,_,_] [] rfl rfl
 refine wp_seq_k (fun K3 k3 => ?_)
 refine sr mx [] H (fun _ => .q 2 rfl<|.o (QqK z0)<|.o (Qe Qs2 z0)<|.o (Qd (u := (s_).limits) tok31 z0 rfl)<|.o (QE ud31 z0)<|.o (Qq .k)<|.n) fun _ a w H => ?_
 have H := H.to [3,4,5,6,7,8,9] [_,_,_,_,_,_,_] [] rfl rfl
 have ⟨e6,he6,h⟩ := bs h
 have hJp57 : ∀ (p57 : Int × Int) a w,p57 = e6 → St M w0 47 [(6,ti p57.1),(7,ti p57.2)] [] a w → K3 a w := by
  intro p57 a w he H
  subst he
  refine k3 _ _ ?_
  refine sr mx [] H (fun _ => .q 0 rfl<|.q 2 rfl<|.o (Qa z1)<|.o (Qa z1)<|.n) fun _ a w H => ?_
  have H := H.to [2,3] [_,_] [] rfl rfl
  refine wp_ret ?_
  obtain rfl := sj h
  exact rt undef [] hpl H (.tmp z0 (.tmp z1 .nil))
 refine wp_block ?_
 refine QR _ (fun (s5 : Int × Int × Int) a w => St M w0 47 [(14,tsl Ql (s_).limits),(15,ti ((s_).limits.length : Int)),(16,ti s5.1),(6,ti s5.2.1),(7,ti s5.2.2),(0,tptr (QL.cs s_)),(1,ti kind_)] [] a w) _ _ he6 (H.pick [0,1,2,3,4,5,6]) ?_
 clear h
 intro s5 o a w K59 hI h ho k59
 have H := hI
 clear hI
 refine sr mx [] H (fun _ => .o (QG z2 z1)<|.n) fun _ a w H => ?_
 have H := H.to [0,1,2,3,4,5,6,7] [_,_,_,_,_,_,_,_] [] rfl rfl
 refine wp_seq_k (fun _ k61 => ?_)
 refine wi H h (fun b84 h => ?_) (fun b84 h => ?_)
 ·refine wp_skip (k61 _ _ ?_)
  refine wp_seq_k (fun K62 k62 => ?_)
  have ⟨p63,hp63,h⟩ := bs h
  have hJp63 : ∀ a w,St M w0 47 [(14,tsl Ql (s_).limits),(15,ti ((s_).limits.length : Int)),(16,ti s5.1),(6,ti p63.1),(7,ti p63.2),(0,tptr (QL.cs s_)),(1,ti kind_)] [] a w → K62 a w := by
   intro a w H
   refine k62 _ _ ?_
   refine wr mx [] H (fun _ => .o (QQ z2 .k)<|.q 0 rfl<|.n) fun _ a w H => ?_
   have H := H.to [1,2,3,4,5,6,7] [_,_,_,_,_,_,_] [] rfl rfl
   exact k59 _ _ _ (sj h).symm (H.pick [1,2,0,3,4,5,6])
  replace h := hp63
  clear hp63
  refine wp_block ?_
  have ⟨t18,ht18,h⟩ := bs h
  refine sr mx [v1 2 (fun v0 => box (Ql.cs zz5) v0),v1 2 (fun v0 => box (Ql.cs t18) v0)] H (fun _ => .o (Qr ud31 Qbn z1 z3 ht18)<|.o (Qm Qbn z0)<|.m [] [0] rfl rfl rfl (Q0 (R := Ql) (a := zz5) Qbn Qre)<|.e [] [0] [1] rfl rfl rfl rfl (QS (R := Ql) (a := t18) Qbn z0 z1 (leb rfl))<|.n) fun _ a w H => ?_
  replace H : St _ _ _ [_,_,_,_,_,_,_,_] [] _ _ := (((H.pick [2,4,5,6,7,8,9,10]).shareB 0 rfl).add 0 rfl (fun _ _ _ h => h.2)).pick [0,3,4,5,6,7,8,9]
  refine wp_seq_k (fun _ k76 => ?_)
  refine sr mx [] H (fun _ => .o (Qe Qgu z0)<|.o (Qd (u := (t18).A) tok3 z0 rfl)<|.q 9 rfl<|.o (Qau z1 z0)<|.q 0 rfl<|.g rfl rfl bq0 (fun _ => Qe QeV z5)<|.g rfl rfl bq1 (fun hc => Qd (u := (t18).B) tok3 (.cond z0 hc) rfl)<|.g rfl rfl bq2 (fun _ => Qq z14)<|.g rfl rfl bq3 (fun hc => QaJ (.cond z1 hc) (.cond z0 hc))<|.o (Q6 z4 (fun hp => (.cond z0 (beqF hp))))<|.n) fun _ a w H => ?_
  have H := H.to [9,10,11,12,13,14,15,16,17] [_,_,_,_,_,_,_,_,_] [] rfl rfl
  refine wi H h (fun b83 h => ?_) (fun b83 h => ?_)
  ·refine wp_exit ?_
   obtain rfl := sj h
   exact hJp63 _ _ (H.pick [2,3,4,5,6,7,8])
  refine wp_skip (k76 _ _ ?_)
  have ⟨t35,ht35,h⟩ := bs h
  refine sr mx [] H (fun _ => .o (Qm Qbn z1)<|.q 8 rfl<|.o (QqK z0)<|.o (Qe QiS z0)<|.o (QnP (L := ((s_).now).L) Qin tok3 z0 rfl (by decide) rfl)<|.o (Qf Qqd (Qfy ht35) (.cons (.of z4)<|.cons (.of z0)<|.nil))<|.o (Qa z0)<|.n) fun _ a w H => ?_
  have H := H.to [6,8,9,10,11,12,13,14,15] [_,_,_,_,_,_,_,_,_] [] rfl rfl
  refine sr mx [] H (fun _ => .o (Qe Qk9 z1)<|.o (Qd (u := (t18).Least) tok4 z0 rfl)<|.n) fun _ a w H => ?_
  have H := H.to [1,2,4,5,6,7,8,9,10] [_,_,_,_,_,_,_,_,_] [] rfl rfl
  have ⟨p80,hp80,h⟩ := bs h
  have hJp80 : ∀ a w,St M w0 47 [(6,ti p80.1),(14,tsl Ql (s_).limits),(15,ti ((s_).limits.length : Int)),(16,ti s5.1),(7,ti p80.2),(0,tptr (QL.cs s_)),(1,ti kind_)] [] a w → K62 a w := by
   intro a w H
   obtain rfl := sj h
   exact hJp63 _ _ (H.pick [1,2,3,0,4,5,6])
  replace h := hp80
  clear hp80
  refine wi H h (fun b82 h => ?_) (fun b82 h => ?_)
  ·refine wr mx [] H (fun _ => .q 5 rfl<|.q 2 rfl<|.o (QpR z1 z0)<|.o (Qa z0)<|.n) fun _ a w H => ?_
   have H := H.to [3,6,7,8,9,10,11] [_,_,_,_,_,_,_] [] rfl rfl
   obtain rfl := sj h
   exact hJp80 _ _ (H.pick [0,1,2,3,4,5,6])
  refine wr mx [] H (fun _ => .q 6 rfl<|.q 2 rfl<|.o (QpS z1 z0)<|.o (Qa z0)<|.n) fun _ a w H => ?_
  have H := H.to [3,6,7,8,9,10,11] [_,_,_,_,_,_,_] [] rfl rfl
  obtain rfl := sj h
  exact hJp80 _ _ (H.pick [4,1,2,3,0,5,6])
 refine wp_exit ?_
 exact hJp57 _ _ _ (ho _ (sj h).symm) (H.pick [4,5])

/- counts.values$1, by hand: Y is what a round does. -/
noncomputable def Qb8 (Y : Qx → Int → Option (Qx)) (s_ : Qx) (lo_ : Int) (hi_ : Int) (kind_ : Int) : Option (Qx) := (if (decide (lo_ > hi_)) = true then (some s_) else (idx (s_).leads kind_).bind fun t16 => (if (!t16) = true then (idx (s_).want kind_).bind fun t25 => (Y s_ (imin (imax t25 lo_) hi_)).bind fun t30 => (some t30) else (QF (fun (s5 : Int × Qx) => ((opt (decide (s5.1 ≤ hi_)) (Y s5.2 s5.1) s5.2).bind fun t38 => (if (decide (s5.1 ≤ hi_)) = true then (some (.inl (IntKind.i64.wrap (s5.1 + (1:Int)),t38))) else (some (.inr t38))))) (lo_,s_))))
theorem QjZ {q : Value} {l : Nat} {LA : Atom} {Y : Qx → Int → Option (Qx)} {s_ : Qx} {lo_ hi_ kind_ : Int} {r : Qx}
  (hY : ∀ s n r,Y s n = some r → QmR Tryz.prog l [LA,box (QL.cs s) q] (.int .i64 n) (fun _ => [LA,box (QL.cs r) q])) (h : Qb8 Y s_ lo_ hi_ kind_ = some r) :
  FnOk Tryz.prog 121 [tv (.func (.yield l) #[] #[]),tptr (rI.cs lo_),tptr (rI.cs hi_),tptr (rVal.cs q),tptr (rI.cs kind_)] [LA,box (QL.cs s_) q] (fun _ => [LA,box (QL.cs r) q]) (fun _ => ttup []) := by
 unfold Qb8 at h
 refine fe Tryz.func121 Tryz.ntmps121 fun M0 M w0 a hpl H => ?_
 replace H : St M w0 42 [(0,tv (.func (.yield l) #[] #[])),(1,tptr (rI.cs lo_)),(2,tptr (rI.cs hi_)),(3,tptr (rVal.cs q)),(4,tptr (rI.cs kind_))] [LA,box (QL.cs s_) q] a w0 := H
 refine wp_seq_k (fun K2 k2 => ?_)
 refine wp_seq_k (fun K1 k1 => ?_)
 refine wr mx [] H (fun _ => .o (Qm (R := rI) (u := lo_) tok3 z1)<|.o (Qm (R := rI) (u := hi_) tok3 z3)<|.o (Qa0 z1 z0)<|.n) fun _ a w H => ?_
 have H := H.to [2,3,4,5,6,7] [_,_,_,_,_,_] [_,_] rfl rfl
 refine k1 _ _ ?_
 clear k1 K1
 refine wt H (fun b1 => ?_) (fun b1 => ?_)
 ·replace h := Qha b1 h
  refine wp_ret ?_
  obtain rfl := sj h
  exact rt undef [0,1] hpl H .nil
 replace h := Qhb b1 h
 refine wp_skip (k2 _ _ ?_)
 clear k2 K2
 have ⟨t16,ht16,h⟩ := bs h
 refine wp_seq_k (fun K4 k4 => ?_)
 refine wp_seq_k (fun K3 k3 => ?_)
 refine wr mx [] H (fun _ => .o (Qbu QbO z4)<|.u [1] rfl rfl (QaO z0)<|.u [1] rfl rfl (Qu Qni z0)<|.u [1] rfl rfl (Qav (R := (rSl Qa7)) (u := (s_).leads) QrM z0 rfl)<|.o (Qm (R := rI) (u := kind_) tok3 z9)<|.o (Qr QpF tok4 z1 z0 ht16)<|.o (Qm tok4 z0)<|.o (Qae z0)<|.n) fun _ a w H => ?_
 have H := H.to [7,9,10,11,12,13] [_,_,_,_,_,_] [_,_] rfl rfl
 refine k3 _ _ ?_
 clear k3 K3
 refine wt H (fun b2 => ?_) (fun b2 => ?_)
 ·replace h := Qha b2 h
  have ⟨t25,ht25,h⟩ := bs h
  have ⟨t30,ht30,h⟩ := bs h
  refine wp_seq_k (fun _ k5 => ?_)
  refine wr mx [v0 LA,v0 (box (QL.cs t30) q)] H (fun _ => .q 1 rfl<|.o (Qbu QbO z5)<|.u [1] rfl rfl (QaO z0)<|.u [1] rfl rfl (Qu Qnh z0)<|.u [1] rfl rfl (Qav (R := (rSl rI)) (u := (s_).want) Qdc z0 rfl)<|.o (Qm (R := rI) (u := kind_) tok3 z10)<|.o (Qr ud22 tok3 z1 z0 ht25)<|.o (Qm tok3 z0)<|.o (Qm (R := rI) (u := lo_) tok3 z10)<|.o (QpR z1 z0)<|.o (Qm (R := rI) (u := hi_) tok3 z13)<|.o (QpS z1 z0)<|.e [] [0,1] [2,3] rfl rfl rfl rfl (Qp1 z11 z0 (hY _ _ _ ht30))<|.n) fun _ a w H => ?_
  have H := H.to [] [] [_,_] rfl rfl
  refine k5 _ _ ?_
  refine wp_ret ?_
  obtain rfl := sj h
  exact rt undef [0,1] hpl H .nil
 replace h := Qhb b2 h
 refine wp_skip (k4 _ _ ?_)
 clear k4 K4
 refine wp_seq_k (fun K6 k6 => ?_)
 refine wr mx [] H (fun _ => .o (Qm (R := rI) (u := lo_) tok3 z2)<|.o (Qa z0)<|.n) fun _ a w H => ?_
 have H := H.to [1,3,4,5,6,7] [_,_,_,_,_,_] [_,_] rfl rfl
 refine k6 _ _ ?_
 clear k6 K6
 refine wp_block ?_
 refine QR _ (fun (s5 : Int × Qx) a w => St M w0 42 [(6,ti s5.1),(0,tv (.func (.yield l) #[] #[])),(1,tptr (rI.cs lo_)),(2,tptr (rI.cs hi_)),(3,tptr (rVal.cs q)),(4,tptr (rI.cs kind_))] [LA,box (QL.cs s5.2) q] a w) _ _ h H ?_
 clear h
 intro s5 o a w K7 hI h ho k7
 have H := hI
 clear hI
 have ⟨t38,ht38,h⟩ := bs h
 refine wp_seq_k (fun _ k9 => ?_)
 refine wp_seq_k (fun K8 k8 => ?_)
 refine wr mx [v0 LA,v0 (box (QL.cs (bif (decide (s5.1 ≤ hi_) == true) then t38 else s5.2)) q)] H (fun _ => .q 0 rfl<|.o (Qm (R := rI) (u := hi_) tok3 z4)<|.o (QcK z1 z0)<|.q 0 rfl<|.g rfl rfl bq0 (fun _ => Qq z5)<|.g rfl rfl bq1 (fun _ => Qq z5)<|.ge (N := fun c _ => [LA,box (QL.cs (bif c then t38 else s5.2)) q]) [] [0,1] [2,3] rfl rfl rfl rfl rfl bq2 (fun hc => Qp1 (.cond z1 hc) (.cond z0 hc) (hY _ _ _ (Qaj ht38 (by simpa using hc)))) rfl<|.o (QW z3 (fun hp => (.cond z0 (beqT hp))))<|.n) fun _ a w H => ?_
 have H := H.to [7,8,9,10,11,12,13] [_,_,_,_,_,_,_] [_,_] rfl rfl
 refine k8 _ _ ?_
 clear k8 K8
 have hts : decide (s5.1 ≤ hi_) = false → t38 = s5.2 := fun hf => by
  unfold opt at ht38
  rw [hf] at ht38
  exact (sj ht38).symm
 refine wt H (fun b3 => ?_) (fun b3 => ?_)
 ·have hb : decide (s5.1 ≤ hi_) = true := by simpa using b3
  replace h := Qha hb h
  have ec : (bif (decide (s5.1 ≤ hi_) == true) then t38 else s5.2) = t38 := by rw [hb]; rfl
  rw [ec] at H
  refine wp_skip (k9 _ _ ?_)
  refine wp_seq_k (fun _ k10 => ?_)
  refine wp_block ?_
  refine wp_skip (k10 _ _ ?_)
  refine wr mx [] H (fun _ => .q 1 rfl<|.o (QQ z0 .k)<|.o (Qa z0)<|.n) fun _ a w H => ?_
  have H := H.to [2,4,5,6,7,8] [_,_,_,_,_,_] [_,_] rfl rfl
  exact k7 _ _ _ (sj h).symm H
 have hb : decide (s5.1 ≤ hi_) = false := by simpa using b3
 replace h := Qhb hb h
 have ht := hts hb
 have ec : (bif (decide (s5.1 ≤ hi_) == true) then t38 else s5.2) = s5.2 := by rw [hb]; rfl
 rw [ec] at H
 refine wp_exit ?_
 have hr := ho _ (sj h).symm
 rw [← ht,hr] at H
 exact Qoz undef [0,1] hpl H rfl .nil rfl rfl rfl

/- counts.values, by hand. -/
theorem QkD {q : Value} {s_ : Qx} {kind_ : Int} {r : Int × Int} (h : Qcn s_ kind_ = some r) :
  FnOk Tryz.prog 84 [tv q,ti kind_] [box (QL.cs s_) q] (fun _ => [box (QL.cs s_) q]) (fun _ => Qd5 121 [tptr (rI.cs r.1),tptr (rI.cs r.2),tptr (rVal.cs q),tptr (rI.cs kind_)]) := by
 refine fe Tryz.func84 Tryz.ntmps84 fun M0 M w0 a hpl H => ?_
 replace H : St M w0 14 [(0,tv q),(1,ti kind_)] [box (QL.cs s_) q] a w0 := H
 refine wp_seq_k (fun K1 k1 => ?_)
 refine wr mx [] H (fun _ => .u [0] rfl rfl (QqM z0)<|.o (QV (R := rI) (u := kind_) z2)<|.o (Qa .k)<|.n) fun _ a w H => ?_
 have H := H.to [0,1] [_,_] [_] rfl rfl
 refine k1 _ _ ?_
 clear k1 K1
 refine wp_seq_k (fun K2 k2 => ?_)
 refine Qe6 mixed [v1 6 (fun v0 => box (rI.cs (0:Int)) v0),v1 7 (fun v0 => box (rI.cs (0:Int)) v0),v1 6 (fun v0 => box (splice (rI.cs (0:Int)) 0 (rI.cs r.1)) v0),v1 7 (fun v0 => box (splice (rI.cs (0:Int)) 0 (rI.cs r.2)) v0)] H (fun n1 => .p rfl (Qbu QbO z0)<|.o (Qm (R := rI) (u := kind_) tok3 z2)<|.u [0] rfl rfl (QhV [box (QL.cs s_) q] Qt5 (Qlh h) (.cons (.boxR z1 (.head _))<|.cons (.of z0)<|.nil) (fun _ => QsJ (by intro T h; simp at h; rcases h with h | h <;> subst h <;> exact QhU)) (fun _ => Qmi (x := undef)))<|.q 0 rfl<|.o (QU z0 rfl)<|.o (QU z1 rfl)<|.m (f := fun p => tv p) [] [1] rfl rfl rfl (Q0 (R := rI) (a := (0:Int)) tok3 zok3)<|.m (f := fun p => tv p) [] [2] rfl rfl rfl (Q0 (R := rI) (a := (0:Int)) tok3 zok3)<|.e [] [1] [3] rfl rfl rfl rfl (QS (R := rI) (a := r.1) tok3 z1 z3 (leb rfl))<|.e [] [2] [4] rfl rfl rfl rfl (QS (R := rI) (a := r.2) tok3 z0 z2 (leb rfl))<|.nil _ _) (by kernel_rfl) (fun n1 a w H => ?_)
 have H := H.to [6,7,8,9] [_,_,_,_] [_,_,_] rfl rfl
 refine k2 _ _ ?_
 clear k2 K2
 replace H : St _ _ _ [_,_,_,_] [_,_] _ _ := (((H.selA [1,0,2] rfl).shareB 0 rfl).add 0 rfl (fun _ _ _ h => h.2)).pick [0,3,4,5]
 replace H : St _ _ _ [_,_,_,_] [_] _ _ := (((H.selA [1,0] rfl).shareB 1 rfl).add 0 rfl (fun _ _ _ h => h.2)).pick [2,0,4,5]
 refine wp_seq_k (fun _ k3 => ?_)
 refine wr mx [] H (fun _ => .o (QdX (.cons z0<|.cons z1<|.cons z2<|.cons z3<|.nil))<|.o (Qa z0)<|.n) fun _ a w H => ?_
 have H := H.to [1] [_] [_] rfl rfl
 refine k3 _ _ ?_
 refine wp_ret ?_
 exact rt undef [0] hpl H (.tmp z0 .nil)

/- diorama/counts.far -/
noncomputable def Qhz (a_ : Int) (b_ : Int) : Option (Int) := (some (imax (IntKind.i64.wrap (a_ - b_)) (IntKind.i64.wrap (b_ - a_))))
theorem Qpz {a_ : Int} {b_ : Int} {r : Int} (h : Qhz a_ b_ = some r) : FnOk Tryz.prog 85 [ti a_,ti b_] [] (fun _ => []) (fun _ => ti r) := by
 unfold Qhz at h
 refine fe Tryz.func85 Tryz.ntmps85 fun M0 M w0 a hpl H => ?_
 replace H : St M w0 12 [(0,ti a_),(1,ti b_)] [] a w0 := H
 refine sr mx [] H (fun _ => .o (Qa .k)<|.n) fun _ a w H => ?_
 have H := H.to [1,2] [_,_] [] rfl rfl
 refine sr mx [] H (fun _ => .q 0 rfl<|.q 2 rfl<|.o (QbQ z1 z0)<|.q 4 rfl<|.q 4 rfl<|.o (QbQ z1 z0)<|.o (QpR z3 z0)<|.o (Qa z0)<|.n) fun _ a w H => ?_
 have H := H.to [7] [_] [] rfl rfl
 refine wp_ret ?_
 obtain rfl := sj h
 exact rt undef [] hpl H (.tmp z0 .nil)

/- (*diorama/counts.search).try -/
noncomputable def Qdh (self : Qx → Int → Int → Option (Qx)) (s_ : Qx) (kind_ : Int) (cost_ : Int) : Option (Qx) := (if ((decide ((s_).cost ≥ (0:Int))) && (decide (cost_ > (s_).cost))) = true then (some s_) else (if (kind_ == ((s_).want.length : Int)) = true then (opt ((((decide ((s_).cost < (0:Int))) || (decide (cost_ < (s_).cost))) == false) && ((!Qc9 (s_).now (s_).best) == true)) (Qdg ((s_).now).L ((s_).best).L) default).bind fun t59 => ((if (((decide ((s_).cost < (0:Int))) || (decide (cost_ < (s_).cost))) || ((!Qc9 (s_).now (s_).best) && (decide (t59 < (0:Int))))) = true then (some (Qx.mk (s_).limits (s_).want (s_).leads (s_).now (s_).now cost_)) else (some s_))).bind fun (p9 : Qx) => (some p9) else (Qcn s_ kind_).bind fun t76 => (Qb8 (fun s15 n16 => (idx ((s15).now).L kind_).bind fun t83 => (idx (s15).want kind_).bind fun t94 => (Qhz n16 t94).bind fun t96 => (self (Qx.mk (s15).limits (s15).want (s15).leads (((s15).now).setI kind_ n16) (s15).best (s15).cost) (IntKind.i64.wrap (kind_ + (1:Int))) (IntKind.i64.wrap (cost_ + t96))).bind fun t98 => (some t98)) s_ (t76).1 (t76).2 kind_).bind fun t14 => (idx ((t14).now).L kind_).bind fun t103 => (some (Qx.mk (t14).limits (t14).want (t14).leads (((t14).now).setI kind_ (0:Int)) (t14).best (t14).cost))))
theorem Qli {self : Qx → Int → Int → Option (Qx)} (hself : ∀ (q0 : Value) (s_ : Qx) (kind_ : Int) (cost_ : Int) (r : Qx),self s_ kind_ cost_ = some r → FnOk Tryz.prog 50 [tv q0,ti kind_,ti cost_] [box (QL.cs s_) q0] (fun _ => [box (QL.cs r) q0]) (fun _ => ttup [])) {q0 : Value} {s_ : Qx} {kind_ : Int} {cost_ : Int} {r : Qx} (h : Qdh self s_ kind_ cost_ = some r) : FnOk Tryz.prog 50 [tv q0,ti kind_,ti cost_] [box (QL.cs s_) q0] (fun _ => [box (QL.cs r) q0]) (fun _ => ttup []) := by
 unfold Qdh at h
 refine FnOk.enterM Tryz.func50 rfl Tryz.ntmps50 (leb rfl) (fun M0 M w0 a hpl H => ?_)
 replace H : St M w0 104 [(0,tv q0),(1,ti kind_),(2,ti cost_)] [box (QL.cs s_) q0] a w0 := H
 refine sr mx [] H (fun _ => .u [0] rfl rfl (QqM z0)<|.o (QV (R := rI) (u := kind_) z2)<|.o (QV (R := rI) (u := cost_) z4)<|.n) fun _ a w H => ?_
 have H := H.to [0,1,2,3] [_,_,_,_] [_] rfl rfl
 refine wp_seq_k (fun _ k3 => ?_)
 refine sr mx [] H (fun _ => .o (Qbu QbO z0)<|.u [0] rfl rfl (QaO z0)<|.u [0] rfl rfl (Qu QiT z0)<|.u [0] rfl rfl (Qav (R := rI) (u := (s_).cost) tok3 z0 rfl)<|.o (QaJ z0 .k)<|.q 0 rfl<|.g rfl rfl bq0 (fun _ => Qm tok3 z8)<|.g rfl rfl bq1 (fun _ => Qbu QbO z7)<|.gu [0] rfl rfl rfl bq2 (fun hc => QaO (.cond z0 hc))<|.gu [0] rfl rfl rfl bq3 (fun hc => Qu QiT (.cond z0 hc))<|.gu [0] rfl rfl rfl bq4 (fun hc => Qav (R := rI) (u := (s_).cost) tok3 (.cond z0 hc) rfl)<|.g rfl rfl bq5 (fun hc => Qa0 (.cond z4 hc) (.cond z0 hc))<|.o (QW z6 (fun hp => (.cond z0 (beqT hp))))<|.n) fun _ a w H => ?_
 have H := H.to [12,13,14,15,16] [_,_,_,_,_] [_] rfl rfl
 refine wi H h (fun b22 h => ?_) (fun b22 h => ?_)
 ·refine wp_ret ?_
  obtain rfl := sj h
  exact Qp2 (Qju undef [0] hpl H rfl .nil rfl rfl rfl)
 refine wp_skip (k3 _ _ ?_)
 refine wp_seq_k (fun _ k5 => ?_)
 refine sr mx [] H (fun _ => .o (Qm tok3 z2)<|.o (Qbu QbO z2)<|.u [0] rfl rfl (QaO z0)<|.u [0] rfl rfl (Qu Qnh z0)<|.u [0] rfl rfl (Qav (R := (rSl rI)) (u := (s_).want) Qdc z0 rfl)<|.o (QE ud22 z0)<|.o (QM z5 z0)<|.n) fun _ a w H => ?_
 have H := H.to [6,8,9,10,11] [_,_,_,_,_] [_] rfl rfl
 refine wi H h (fun b21 h => ?_) (fun b21 h => ?_)
 ·refine wp_seq_k (fun K7 k7 => ?_)
  have ⟨t59,ht59,h⟩ := bs h
  refine sr mx [] H (fun _ => .o (Qbu QbO z1)<|.u [0] rfl rfl (QaO z0)<|.u [0] rfl rfl (Qu QiT z0)<|.u [0] rfl rfl (Qav (R := rI) (u := (s_).cost) tok3 z0 rfl)<|.o (QG z0 .k)<|.q 0 rfl<|.g rfl rfl bq0 (fun _ => Qm tok3 z9)<|.g rfl rfl bq1 (fun _ => Qbu QbO z8)<|.gu [0] rfl rfl rfl bq2 (fun hc => QaO (.cond z0 hc))<|.gu [0] rfl rfl rfl bq3 (fun hc => Qu QiT (.cond z0 hc))<|.gu [0] rfl rfl rfl bq4 (fun hc => Qav (R := rI) (u := (s_).cost) tok3 (.cond z0 hc) rfl)<|.g rfl rfl bq5 (fun hc => QG (.cond z4 hc) (.cond z0 hc))<|.o (Q6 z6 (fun hp => (.cond z0 (beqF hp))))<|.q 0 rfl<|.g rfl rfl bq0 (fun _ => Qbu QbO z15)<|.gu [0] rfl rfl rfl bq1 (fun hc => QaO (.cond z0 hc))<|.gu [0] rfl rfl rfl bq2 (fun hc => Qu QiS (.cond z0 hc))<|.gu [0] rfl rfl rfl bq3 (fun hc => Qav (R := QB) (u := (s_).now) Qie (.cond z0 hc) rfl)<|.g rfl rfl bq4 (fun _ => Qbu QbO z19)<|.gu [0] rfl rfl rfl bq5 (fun hc => QaO (.cond z0 hc))<|.gu [0] rfl rfl rfl bq6 (fun hc => Qu QlC (.cond z0 hc))<|.gu [0] rfl rfl rfl bq7 (fun hc => Qav (R := QB) (u := (s_).best) Qie (.cond z0 hc) rfl)<|.g rfl rfl bq8 (fun hc => Qqw (.cond z4 hc) (.cond z0 hc))<|.g rfl rfl bq9 (fun hc => Qq (.cond z0 hc))<|.g rfl rfl (.c 0 rfl) (fun _ => Qbu QbO z25)<|.gu [0] rfl rfl rfl (.c 1 rfl) (fun hc => QaO (.cond z0 hc))<|.gu [0] rfl rfl rfl (.c 2 rfl) (fun hc => Qu QiS (.cond z0 hc))<|.gu [0] rfl rfl rfl (.c 3 rfl) (fun hc => QlB (j := (6:Int)) Qin tok3 (.cond z0 hc) (.no _) (by decide) (by decide))<|.g rfl rfl (.c 4 rfl) (fun _ => Qbu QbO z29)<|.gu [0] rfl rfl rfl (.c 5 rfl) (fun hc => QaO (.cond z0 hc))<|.gu [0] rfl rfl rfl (.c 6 rfl) (fun hc => Qu QlC (.cond z0 hc))<|.gu [0] rfl rfl rfl (.c 7 rfl) (fun hc => QlB (j := (6:Int)) Qin tok3 (.cond z0 hc) (.no _) (by decide) (by decide))<|.gu [0] rfl rfl rfl (.c 8 rfl) (fun hc => QhV [box (QL.cs s_) q0] call83 (Qlg (Qaj ht59 hc)) (.cons (.asl (L := ((s_).now).L) (.cond z4 hc) (.head _) rfl (leb rfl) rfl)<|.cons (.asl (L := ((s_).best).L) (.cond z0 hc) (.head _) rfl (leb rfl) rfl)<|.nil) (fun _ => QhU) (fun _ => Qmi (x := undef)))<|.g rfl rfl (.c 9 rfl) (fun hc => QG (.cond z0 hc) .k)<|.g rfl rfl (.b 20 rfl) (fun hc => QW (.cond z10 hc) (fun hp => (.cond z0 (Qc8 hc (beqT hp)))))<|.o (Q6 z21 (fun hp => (.cond z0 (beqF hp))))<|.n) fun _ a w H => ?_
  have H := H.to [35,37,39,40] [_,_,_,_] [_] rfl rfl
  have ⟨p9,hp9,h⟩ := bs h
  have hJp9 : ∀ a w,St M w0 104 [(0,tv q0)] [box (QL.cs p9) q0] a w → K7 a w := by
   intro a w H
   refine k7 _ _ ?_
   refine wp_ret ?_
   obtain rfl := sj h
   exact Qp2 (Qju undef [0] hpl H rfl .nil rfl rfl rfl)
  replace h := hp9
  clear hp9
  refine wi H h (fun b11 h => ?_) (fun b11 h => ?_)
  ·refine wr mx [v0 (box (QL.cs (Qx.mk (s_).limits (s_).want (s_).leads (s_).now (s_).now (s_).cost)) q0),v0 (box (QL.cs (Qx.mk (s_).limits (s_).want (s_).leads (s_).now (s_).now cost_)) q0)] H (fun _ => .o (Qbu QbO z1)<|.o (Qbu QbO z2)<|.o (Qbu QbO z3)<|.u [0] rfl rfl (QaO z0)<|.u [0] rfl rfl (Qu QiS z0)<|.u [0] rfl rfl (Qav (R := QB) (u := (s_).now) Qie z0 rfl)<|.o (Qm tok3 z8)<|.u [0] rfl rfl (QaO z6)<|.u [0] rfl rfl (Qu QlC z0)<|.e [] [0] [1] rfl rfl rfl rfl (Qaq (R := QB) (a := (s_).now) (Ts := (QL.cs s_)) (off := 9) Qie z0 z3 (leb rfl))<|.u [1] rfl rfl (QaO z7)<|.u [1] rfl rfl (Qu QiT z0)<|.e [] [1] [2] rfl rfl rfl rfl (Qaq (R := rI) (a := cost_) (Ts := (QL.cs (Qx.mk (s_).limits (s_).want (s_).leads (s_).now (s_).now (s_).cost))) (off := 15) tok3 z0 z4 (leb rfl))<|.n) fun _ a w H => ?_
   have H := H.to [14] [_] [_] rfl rfl
   obtain rfl := sj h
   exact hJp9 _ _ (H.pick [0])
  refine wp_skip ?_
  obtain rfl := sj h
  exact hJp9 _ _ (H.pick [3])
 refine wp_skip (k5 _ _ ?_)
 refine wp_seq_k (fun _ k12 => ?_)
 have ⟨t76,ht76,h⟩ := bs h
 refine sr mx [v0 (box (QL.cs s_) q0)] H (fun _ => .o (Qbu QbO z1)<|.o (Qm tok3 z3)<|.e [] [0] [1] rfl rfl rfl rfl (Qf call84 (QkD ht76) (.cons (.of z1)<|.cons (.of z0)<|.nil))<|.n) fun _ a w H => ?_
 have H := H.to [2,4,5,6,7] [_,_,_,_,_] [_] rfl rfl
 refine wp_block ?_
 have ⟨t14,ht14,h⟩ := bs h
 refine Qq8 (A := fun s => [box (QL.cs s) q0]) H z0 Qt6 (fun l LR hY => QjZ hY ht14) (by decide) rfl (fun s15 n16 r17 h M0 M w0 a l LR LB K Q hpl H hK hQ => ?_) (fun D a w M hpm H => ?_)
 ·refine Qp3 mixed rfl [] H (fun _ => .o (Qa z0)<|.nil _ _) (by kernel_rfl) (fun _ a w H => ?_)
  have H := H.to [0,3,4,5,6] [_,_,_,_,_] [_,_] rfl rfl
  refine hK _ _ _ _ H (fun w H => ?_)
  refine wpIn_block ?_
  refine wpIn_seq_k (fun _ k19 => ?_)
  have ⟨t83,ht83,h⟩ := bs h
  refine Qp3 mixed rfl [v0 (box (QL.cs (Qx.mk (s15).limits (s15).want (s15).leads (((s15).now).setI kind_ n16) (s15).best (s15).cost)) q0)] H (fun _ => .o (Qbu QbO z1)<|.o (Qm tok3 z3)<|.q 2 rfl<|.u [1] rfl rfl (QaO z2)<|.u [1] rfl rfl (Qu QiS z0)<|.u [1] rfl rfl (Qpd (L := ((s15).now).L) Qin tok3 rfl z0 z3 rfl ht83)<|.e [] [1] [2] rfl rfl rfl rfl (QlA (a := n16) (Ts := (QL.cs s15)) (o := 3) (L := ((s15).now).L) tok3 rfl z0 z3 ht83 (leb rfl) (QC.spl (pre := List.take 3 (QL.cs s15)) (post := List.drop 9 (QL.cs s15)) rfl ht83))<|.nil _ _) (by kernel_rfl) (fun _ a w H => ?_)
  have H := H.to [6,7,8,9,10] [_,_,_,_,_] [_,_] rfl rfl
  refine k19 _ _ ?_
  have ⟨t94,ht94,h⟩ := bs h
  have ⟨t96,ht96,h⟩ := bs h
  have ⟨t98,ht98,h⟩ := bs h
  refine Qp3 mixed rfl [v0 (box (QL.cs t98) q0)] H (fun _ => .o (Qbu QbO z1)<|.o (Qm tok3 z3)<|.o (QQ z0 .k)<|.o (Qm tok3 z6)<|.q 4 rfl<|.o (Qbu QbO z6)<|.u [1] rfl rfl (QaO z0)<|.u [1] rfl rfl (Qu Qnh z0)<|.u [1] rfl rfl (Qav (R := (rSl rI)) (u := (s15).want) Qdc z0 rfl)<|.o (Qm tok3 z11)<|.o (Qr ud22 tok3 z1 z0 ht94)<|.o (Qm tok3 z0)<|.o (Qf call85 (Qpz ht96) (.cons (.of z7)<|.cons (.of z0)<|.nil))<|.o (QQ z9 z0)<|.e [] [1] [2] rfl rfl rfl rfl (Qf QrV (hself _ _ _ _ _ ht98) (.cons (.of z13)<|.cons (.of z11)<|.cons (.of z0)<|.nil))<|.nil _ _) (by kernel_rfl) (fun _ a w H => ?_)
  have H := H.to [16,17,18,19] [_,_,_,_] [_,_] rfl rfl
  obtain rfl := sj h
  exact hQ _ [0,1] _ _ _ H rfl rfl
 replace hpl := hpm _ _ hpl
 have H := H.to [1,2,3,4] [_,_,_,_] [_,_] rfl rfl
 refine k12 _ _ ?_
 have ⟨t103,ht103,h⟩ := bs h
 refine wr mx [v0 (box (QL.cs (Qx.mk (t14).limits (t14).want (t14).leads (((t14).now).setI kind_ (0:Int)) (t14).best (t14).cost)) q0)] H (fun _ => .o (Qbu QbO z0)<|.o (Qm tok3 z2)<|.u [1] rfl rfl (QaO z1)<|.u [1] rfl rfl (Qu QiS z0)<|.u [1] rfl rfl (Qpd (L := ((t14).now).L) Qin tok3 rfl z0 z2 rfl ht103)<|.e [] [1] [2] rfl rfl rfl rfl (QlA (a := (0:Int)) (Ts := (QL.cs t14)) (o := 3) (L := ((t14).now).L) tok3 rfl z0 .k ht103 (leb rfl) (QC.spl (pre := List.take 3 (QL.cs t14)) (post := List.drop 9 (QL.cs t14)) rfl ht103))<|.n) fun _ a w H => ?_
 have H := H.to [8] [_] [_,_] rfl rfl
 obtain rfl := sj h
 exact QrJ undef [1] hpl H rfl .nil rfl rfl rfl
noncomputable def QeM : Nat → Qx → Int → Int → Option (Qx)
 | 0 => fun _ _ _ => none
 | n + 1 => Qdh (QeM n)
theorem QhA : ∀ (n : Nat) (q0 : Value) (s_ : Qx) (kind_ : Int) (cost_ : Int) (r : Qx),QeM n s_ kind_ cost_ = some r → FnOk Tryz.prog 50 [tv q0,ti kind_,ti cost_] [box (QL.cs s_) q0] (fun _ => [box (QL.cs r) q0]) (fun _ => ttup [])
 | 0,_,_,_,_,r,h => by cases h
 | n + 1,q0,s_,kind_,cost_,r,h => Qli (fun q0 s_ kind_ cost_ r h => QhA n q0 s_ kind_ cost_ r h) h
noncomputable def QgX (s_ : Qx) (kind_ : Int) (cost_ : Int) : Option (Qx) := QeM ((s_).want.length + 2) s_ kind_ cost_
theorem QlM {q0 : Value} {s_ : Qx} {kind_ : Int} {cost_ : Int} {r : Qx} (h : QgX s_ kind_ cost_ = some r) : FnOk Tryz.prog 50 [tv q0,ti kind_,ti cost_] [box (QL.cs s_) q0] (fun _ => [box (QL.cs r) q0]) (fun _ => ttup []) := QhA _ _ _ _ _ _ h

/- slices.Clone[[]int,int] -/
noncomputable def Qd1 (s_ : (List Int)) : Option ((List Int)) := (rm (([] : List Int).length + s_.length)).bind fun _ => (some (([] : List Int) ++ s_))
theorem Ql6 {s_ : (List Int)} {r : (List Int)} (h : Qd1 s_ = some r) : FnOk Tryz.prog 51 [tsl rI s_] [] (fun v => [own rI 3 r v]) (fun v => tv v) := by
 unfold Qd1 at h
 refine fe Tryz.func51 Tryz.ntmps51 fun M0 M w0 a hpl H => ?_
 replace H : St M w0 8 [(0,tsl rI s_)] [] a w0 := H
 refine sr mx [] H (fun _ => .o (Qa .k)<|.n) fun _ a w H => ?_
 have H := H.to [1] [_] [] rfl rfl
 refine wp_seq_k (fun _ k2 => ?_)
 refine sr mx [] H (fun _ => .q 0 rfl<|.o (op_eqNil' ud22 z0)<|.n) fun _ a w H => ?_
 have H := H.to [1,2] [_,_] [] rfl rfl
 refine Qqt 0 H rfl (fun b8 => ?_) ?_
 ·replace h : (some ([] : List Int)) = some r := by
   have ⟨_,_,h⟩ := bs h
   rw [b8] at h
   exact h
  refine sr mx [] H (fun _ => .o (Qa .k)<|.n) fun _ a w H => ?_
  replace H : St _ _ _ [_] [_] _ _ := (H.pick [0]).nil (rI) 3
  refine wp_ret ?_
  obtain rfl := sj h
  exact rt (.slice none 0 0) [0] hpl H (.tmp z0 .nil)
 refine wp_skip (k2 _ _ ?_)
 refine wp_seq_k (fun _ k6 => ?_)
 have ⟨u7,hu7,h⟩ := bs h
 refine wr mx [v1 0 (fun v0 => own rI 3 ([] : List Int) v0),v1 2 (fun v0 => own rI 3 (([] : List Int) ++ s_) v0)] H (fun _ => .m [] [0] rfl rfl rfl (Qb3 (R := rI) (us := ([] : List Int)) ud22 tok3 (.nil _) rfl (leb rfl) (leb rfl))<|.q 2 rfl<|.e [] [0] [1] rfl rfl rfl rfl (Qag (R := rI) ud22 tok3 (leb rfl) z1 z0 hu7)<|.ud (f := fun v => tv v) 2 rfl [] rfl rfl (Qa z0)<|.n) fun n3 a w H => ?_
 have H := H.to [2,3] [_,_] [_] rfl rfl
 refine k6 _ _ ?_
 refine wp_ret ?_
 obtain rfl := sj h
 exact rt (n3 2) [0] hpl H (.tmp z1 .nil)

/- diorama/counts.Plan -/
noncomputable def Qey (x_ : Qh) (want_ : (List Int)) : Option ((List Int) × Int) := (Qb5 x_).bind fun t17 => (if (t17.2.2 != (0:Int)) = true then (some (([] : List Int),t17.2.2)) else (opt (((want_.length : Int) != ((x_).Kinds.length : Int)) == false) (Qbv want_ (fun x0 => Qfx x0)) default).bind fun t32 => (if (((want_.length : Int) != ((x_).Kinds.length : Int)) || t32) = true then (some (([] : List Int),(1:Int))) else (mk (want_.length : Int) false).bind fun t38 => (QF (fun (s14 : Int × List Bool) => ((if (decide (s14.1 < (t17.1.length : Int))) = true then (idx t17.1 s14.1).bind fun t45 => ((if (decide ((t45).B ≥ (0:Int))) = true then (setAt s14.2 (t45).B true).bind fun t56s => (some t56s) else (some s14.2))).bind fun (p92 : List Bool) => (some (.inl ((IntKind.i64.wrap (s14.1 + (1:Int))),p92))) else (some (.inr s14.2))) : Option ((Int × List Bool) ⊕ ((List Bool))))) ((0:Int),t38)).bind fun (p36 : (List Bool)) => (QF (fun (s40 : Int × Int) => ((if (decide (s40.1 < ((x_).Kinds.length : Int))) = true then (idx (x_).Kinds s40.1).bind fun t64 => (idx p36 s40.1).bind fun t71 => ((if (t71 && (decide (s40.2 ≤ (131072:Int)))) = true then (some (IntKind.i64.wrap (s40.2 * (IntKind.i64.wrap ((IntKind.i64.wrap ((t64).Hi - (t64).Lo)) + (1:Int)))))) else (some s40.2))).bind fun (p81 : Int) => (some (.inl ((IntKind.i64.wrap (s40.1 + (1:Int))),p81))) else (some (.inr s40.2))) : Option ((Int × Int) ⊕ ((Int))))) ((0:Int),(1:Int))).bind fun (p62 : (Int)) => (if (decide (p62 > (131072:Int))) = true then (some (([] : List Int),(4:Int))) else (QgX (Qx.mk t17.1 want_ p36 zz6 zz6 (-1:Int)) (0:Int) (0:Int)).bind fun t89 => (if (decide ((t89).cost < (0:Int))) = true then (some (([] : List Int),(14:Int))) else (sub ((t89).best).L (0:Int) (want_.length : Int)).bind fun t100 => (Qd1 t100).bind fun t101 => (some (t101,(0:Int)))))))
theorem QiX {x_ : Qh} {want_ : (List Int)} {r : (List Int) × Int} (h : Qey x_ want_ = some r) : FnOk Tryz.prog 23 [Qg.ty x_,tsl rI want_] [glo] (fun _ => []) (fun _ => ttup [tsl rI r.1,ti r.2]) := by
 unfold Qey at h
 refine fe Tryz.func23 Tryz.ntmps23 fun M0 M w0 a hpl H => ?_
 replace H : St M w0 102 [(0,Qg.ty x_),(1,tsl rI want_)] [glo] a w0 := H
 refine sr mx [] H (fun _ => .o (QV (R := Qg) (u := x_) z0)<|.o (Qa (.nilsl (R := rI)))<|.o (Qa .k)<|.n) fun _ a w H => ?_
 have H := H.to [0,4] [_,_] [_] rfl rfl
 have ⟨t17,ht17,h⟩ := bs h
 refine sr mx [] H (fun _ => .o (Qm Qar z0)<|.u [0] rfl rfl ((Qf Qp8 (QhJ ht17) (.cons (.of z0)<|.nil)).glo)<|.q 0 rfl<|.o (QU z0 rfl)<|.o (QU z1 rfl)<|.o (QU z2 rfl)<|.o (Qa z2)<|.o (Qa z2)<|.o (Qa z2)<|.n) fun _ a w H => ?_
 have H := H.to [6,8,9,10] [_,_,_,_] [_] rfl rfl
 refine wp_seq_k (fun _ k3 => ?_)
 refine sr mx [] H (fun _ => .q 1 rfl<|.o (Qau z0 .k)<|.n) fun _ a w H => ?_
 have H := H.to [1,2,3,4,5] [_,_,_,_,_] [_] rfl rfl
 refine wi H h (fun b97 h => ?_) (fun b97 h => ?_)
 ·refine sr mx [] H (fun _ => .q 2 rfl<|.o (Qa (.nilsl (R := rI)))<|.o (Qa z1)<|.n) fun _ a w H => ?_
  have H := H.to [1,2] [_,_] [_] rfl rfl
  refine wp_ret ?_
  obtain rfl := sj h
  exact rt undef [] hpl H (.tmp z0 (.tmp z1 .nil))
 refine wp_skip (k3 _ _ ?_)
 refine wp_seq_k (fun _ k6 => ?_)
 have ⟨t32,ht32,h⟩ := bs h
 refine sr mx [] H (fun _ => .q 4 rfl<|.o (QE ud22 z0)<|.o (Qe Q9 z5)<|.o (Qd (u := (x_).Kinds) QaF z0 rfl)<|.o (QE ud23 z0)<|.o (Qau z3 z0)<|.q 0 rfl<|.g rfl rfl bq0 (fun _ => Qq z11)<|.g rfl rfl bq1 (fun hc => Qf QrS (Qgm (Qaj ht32 hc)) (.cons (.of (.cond z0 hc))<|.cons (.of (Fct.weak .fnE (Qb7 call49 (fun _ _ hq => Qnu hq))))<|.nil))<|.o (Q6 z2 (fun hp => (.cond z0 (beqF hp))))<|.n) fun _ a w H => ?_
 have H := H.to [9,11,13,14] [_,_,_,_] [_] rfl rfl
 refine wi H h (fun b96 h => ?_) (fun b96 h => ?_)
 ·refine sr mx [] H (fun _ => .o (Qa (.nilsl (R := rI)))<|.o (Qa .k)<|.n) fun _ a w H => ?_
  have H := H.to [0,1] [_,_] [_] rfl rfl
  refine wp_ret ?_
  obtain rfl := sj h
  exact rt undef [] hpl H (.tmp z0 (.tmp z1 .nil))
 refine wp_skip (k6 _ _ ?_)
 refine wp_seq_k (fun _ k9 => ?_)
 have ⟨t38,ht38,h⟩ := bs h
 refine Qe6 mixed [v1 4 (fun v0 => own Qa7 4 t38 v0),v2 4 6 (fun v0 v1 => box ([tsl Ql t17.1,tsl rI want_,tvs v0] ++ QB.cs zz6 ++ QB.cs zz6 ++ [ti (-1:Int)]) v1)] H (fun n6 => .q 1 rfl<|.q 4 rfl<|.q 5 rfl<|.o (QE ud22 z0)<|.m [] [1] rfl rfl rfl (QsG (R := Qa7) QpF tok4 zok4 (leb rfl) z0 z0 ht38)<|.ud (f := fun v => tagg ([tsl Ql t17.1,tsl rI want_,tvs v] ++ QB.cs zz6 ++ QB.cs zz6 ++ [ti (-1:Int)])) 4 rfl [1] rfl rfl (.say (A := own Qa7 4 t38 (n6 4)) (.head _) (fun _ _ h => QmN h) fun hu1 => OpJ.useMore (U := []) (fun A hA => by cases hA) (QY Tryz.underlying105 pl105 zv105 zc105 (.cons (R := (rSl Ql)) (u := t17.1) rfl z4 (leb rfl)<|.cons (R := (rSl rI)) (u := want_) rfl z3 (leb rfl)<|.cons (R := rVal) (u := (n6 4)) rfl (Fct.weak z0 fun _ _ _ h => ⟨h,hu1⟩) (leb rfl)<|.cons (R := rI) (u := (-1:Int)) rfl .k (leb rfl)<|.nil _)))<|.m [] [2] rfl rfl rfl (QnC (R := (rAgg ([tsl Ql t17.1,tsl rI want_,tvs (n6 4)] ++ QB.cs zz6 ++ QB.cs zz6 ++ [ti (-1:Int)]) (QhY (QhY (QhY (QA Qck (QA Qck (QA Qec QaA))) (Qj9 QB)) (Qj9 QB)) (QA (Qad rfl) QaA)))) (u := ()) z0)<|.ud (f := fun v => tv v) 6 rfl [] rfl rfl (Qa z0)<|.nil _ _) (by kernel_rfl) (fun n6 a w H => ?_)
 have H := H.to [4,7,9,10,11] [_,_,_,_,_] [_,_,_] rfl rfl
 refine k9 _ _ ?_
 refine wp_seq_k (fun K12 k12 => ?_)
 refine sr mx [] H (fun _ => .q 2 rfl<|.o (QE ud31 z0)<|.o (Qq .k)<|.n) fun _ a w H => ?_
 have H := H.to [0,1,2,3,4,6,7] [_,_,_,_,_,_,_] [_,_,_] rfl rfl
 have ⟨e15,he15,h⟩ := bs h
 have hJp36 : ∀ (p36 : List Bool) a w,p36 = e15 → St M w0 102 [(9,tv (n6 6)),(2,tptr (Qg.cs x_)),(1,tsl rI want_)] [glo,own Qa7 4 p36 (n6 4),box ([tsl Ql t17.1,tsl rI want_,tvs (n6 4)] ++ QB.cs zz6 ++ QB.cs zz6 ++ [ti (-1:Int)]) (n6 6)] a w → K12 a w := by
  intro p36 a w he H
  subst he
  refine k12 _ _ ?_
  refine sr mx [] H (fun _ => .o (Qa .k)<|.n) fun _ a w H => ?_
  have H := H.to [0,1,2,3] [_,_,_,_] [_,_,_] rfl rfl
  refine wp_seq_k (fun K38 k38 => ?_)
  refine sr mx [] H (fun _ => .o (Qe Q9 z2)<|.o (Qd (u := (x_).Kinds) QaF z0 rfl)<|.o (QE ud23 z0)<|.o (Qq .k)<|.n) fun _ a w H => ?_
  have H := H.to [1,2,3,4,5,7] [_,_,_,_,_,_] [_,_,_] rfl rfl
  have ⟨e41,he41,h⟩ := bs h
  have hJp62 : ∀ (p62 : Int) a w,p62 = e41 → St M w0 102 [(12,ti p62),(9,tv (n6 6)),(1,tsl rI want_)] [glo,own Qa7 4 p36 (n6 4),box ([tsl Ql t17.1,tsl rI want_,tvs (n6 4)] ++ QB.cs zz6 ++ QB.cs zz6 ++ [ti (-1:Int)]) (n6 6)] a w → K38 a w := by
   intro p62 a w he H
   subst he
   refine k38 _ _ ?_
   refine wp_seq_k (fun _ k63 => ?_)
   refine sr mx [] H (fun _ => .q 0 rfl<|.o (Qa0 z0 .k)<|.n) fun _ a w H => ?_
   have H := H.to [1,3,4] [_,_,_] [_,_,_] rfl rfl
   refine wi H h (fun b73 h => ?_) (fun b73 h => ?_)
   ·refine sr mx [] H (fun _ => .o (Qa (.nilsl (R := rI)))<|.o (Qa .k)<|.n) fun _ a w H => ?_
    replace H : St _ _ _ [_,_] [_] _ _ := (H.pick [0,1]).selA [0] rfl
    refine wp_ret ?_
    obtain rfl := sj h
    exact rt undef [] hpl H (.tmp z0 (.tmp z1 .nil))
   refine wp_skip (k63 _ _ ?_)
   refine wp_seq_k (fun _ k66 => ?_)
   refine wp_seq_k (fun _ k67 => ?_)
   replace H : St _ _ _ [_,_,_] [_,_] _ _ := ((H.pick [0,1,2]).selA [1,2,0] rfl).shareC 2 rfl
   have ⟨t89,ht89,h⟩ := bs h
   refine wr mx [v0 (box (QL.cs t89) (n6 6))] H (fun _ => .q 1 rfl<|.e [] [0] [2] rfl rfl rfl rfl (Qf QrV (QlM ht89) (.cons (.of z0)<|.cons (.of .k)<|.cons (.of .k)<|.nil))<|.n) fun _ a w H => ?_
   have H := H.to [3,4] [_,_] [_,_] rfl rfl
   refine k67 _ _ ?_
   refine sr mx [] H (fun _ => .q 0 rfl<|.u [1] rfl rfl (QaO z0)<|.u [1] rfl rfl (Qu QiT z0)<|.u [1] rfl rfl (Qav (R := rI) (u := (t89).cost) tok3 z0 rfl)<|.o (QG z0 .k)<|.n) fun _ a w H => ?_
   have H := H.to [4,5,6] [_,_,_] [_,_] rfl rfl
   refine wi H h (fun b72 h => ?_) (fun b72 h => ?_)
   ·refine sr mx [] H (fun _ => .o (Qa (.nilsl (R := rI)))<|.o (Qa .k)<|.n) fun _ a w H => ?_
    replace H : St _ _ _ [_,_] [_] _ _ := (H.pick [0,1]).selA [0] rfl
    refine wp_ret ?_
    obtain rfl := sj h
    exact rt undef [] hpl H (.tmp z0 (.tmp z1 .nil))
   refine wp_skip (k66 _ _ ?_)
   have ⟨t100,ht100,h⟩ := bs h
   have ⟨t101,ht101,h⟩ := bs h
   refine sr mx [v1 6 (fun v0 => own rI 3 t101 v0)] H (fun _ => .q 1 rfl<|.u [1] rfl rfl (QaO z0)<|.u [1] rfl rfl (Qu QlC z0)<|.q 5 rfl<|.o (QE ud22 z0)<|.u [1] rfl rfl (QlB (j := (want_.length : Int)) Qin tok3 z2 (.op z0) (sub_hi ht100) (by decide))<|.m [1] [2] rfl rfl rfl (QhV [box (QL.cs t89) (n6 6)] call51 (Ql6 ht101) (.cons (.aslH (L := ((t89).best).L) z0 (.head _) ht100 rfl rfl)<|.nil) (fun _ => QhU) (fun _ => flatN1 (QsK (by intro x T h; simp at h; (first | (subst h; exact QhU) | (rcases h with h | h | h <;> subst h <;> exact QhU))))))<|.ud (f := fun v => tv v) 6 rfl [] rfl rfl (Qa z0)<|.o (Qa .k)<|.n) fun _ a w H => ?_
   replace H : St _ _ _ [_,_,_] [_,_] _ _ := (H.pick [6,7,8]).selA [0,2] rfl
   refine wp_ret ?_
   replace H : St _ _ _ [_,_] [_] _ _ := ((H.selA [1,0] rfl).shareO 1 rfl).pick [0,3]
   obtain rfl := sj h
   exact rt undef [] hpl H (.tmp z0 (.tmp z1 .nil))
  refine wp_block ?_
  refine QR _ (fun (s40 : Int × Int) a w => St M w0 102 [(59,tsl Qk (x_).Kinds),(60,ti ((x_).Kinds.length : Int)),(61,ti s40.1),(12,ti s40.2),(9,tv (n6 6)),(1,tsl rI want_)] [glo,own Qa7 4 p36 (n6 4),box ([tsl Ql t17.1,tsl rI want_,tvs (n6 4)] ++ QB.cs zz6 ++ QB.cs zz6 ++ [ti (-1:Int)]) (n6 6)] a w) _ _ he41 (H.pick [0,1,2,3,4,5]) ?_
  clear h
  intro s40 o a w K74 hI h ho k74
  have H := hI
  clear hI
  refine sr mx [] H (fun _ => .o (QG z2 z1)<|.n) fun _ a w H => ?_
  have H := H.to [0,1,2,3,4,5,6] [_,_,_,_,_,_,_] [_,_,_] rfl rfl
  refine wp_seq_k (fun _ k76 => ?_)
  refine wi H h (fun b84 h => ?_) (fun b84 h => ?_)
  ·refine wp_skip (k76 _ _ ?_)
   refine wp_seq_k (fun K77 k77 => ?_)
   refine wp_block ?_
   have ⟨t64,ht64,h⟩ := bs h
   refine sr mx [v1 3 (fun v0 => box (Qk.cs zz1) v0),v1 3 (fun v0 => box (Qk.cs t64) v0)] H (fun _ => .q 3 rfl<|.o (Qr ud23 QZ z2 z4 ht64)<|.o (Qm QZ z0)<|.m [] [3] rfl rfl rfl (Q0 (R := Qk) (a := zz1) QZ Qid)<|.o (Qa z3)<|.e [] [3] [4] rfl rfl rfl rfl (QS (R := Qk) (a := t64) QZ z1 z2 (leb rfl))<|.n) fun _ a w H => ?_
   replace H : St _ _ _ [_,_,_,_,_,_,_,_] [_,_,_] _ _ := ((((H.pick [3,4,6,7,8,9,10,11]).selA [3,0,1,2] rfl).shareB 0 rfl).add 0 rfl (fun _ _ _ h => h.2)).pick [0,3,4,5,6,7,8,9]
   have ⟨t71,ht71,h⟩ := bs h
   refine sr mx [] H (fun _ => .q 6 rfl<|.u [2] rfl rfl (QaO z0)<|.u [2] rfl rfl (Qu Qni z0)<|.u [2] rfl rfl (Qab (u := (n6 4)) QqN z0 rfl)<|.q 5 rfl<|.u [1] rfl rfl (Qa1 QpF tok4 z1 z0 ht71)<|.u [1] rfl rfl (Qlv tok4 z0 ht71)<|.q 0 rfl<|.g rfl rfl bq0 (fun _ => Qq z13)<|.g rfl rfl bq1 (fun hc => QcK (.cond z0 hc) .k)<|.o (QW z2 (fun hp => (.cond z0 (beqT hp))))<|.n) fun _ a w H => ?_
   have H := H.to [3,10,11,13,14,15,16,17,18] [_,_,_,_,_,_,_,_,_] [_,_,_] rfl rfl
   have ⟨p81,hp81,h⟩ := bs h
   have hJp81 : ∀ a w,St M w0 102 [(12,ti p81),(59,tsl Qk (x_).Kinds),(60,ti ((x_).Kinds.length : Int)),(61,ti s40.1),(9,tv (n6 6)),(1,tsl rI want_)] [glo,own Qa7 4 p36 (n6 4),box ([tsl Ql t17.1,tsl rI want_,tvs (n6 4)] ++ QB.cs zz6 ++ QB.cs zz6 ++ [ti (-1:Int)]) (n6 6)] a w → K77 a w := by
    intro a w H
    refine k77 _ _ ?_
    refine wr mx [] H (fun _ => .o (QQ z3 .k)<|.q 0 rfl<|.n) fun _ a w H => ?_
    have H := H.to [1,2,3,4,5,6] [_,_,_,_,_,_] [_,_,_] rfl rfl
    exact k74 _ _ _ (sj h).symm (H.pick [2,3,0,1,4,5])
   replace h := hp81
   clear hp81
   refine Qgs 1 H rfl (fun b83 => ?_) (fun b83 => ?_)
   ·replace h := Qha b83 h
    refine wr mx [] H (fun _ => .q 6 rfl<|.o (Qe Qh0 z3)<|.o (Qd (u := (t64).Hi) tok3 z0 rfl)<|.o (Qe QhZ z5)<|.o (Qd (u := (t64).Lo) tok3 z0 rfl)<|.o (QbQ z2 z0)<|.o (QQ z0 .k)<|.o (QnB z6 z0)<|.o (Qa z0)<|.n) fun _ a w H => ?_
    have H := H.to [8,9,12,13,14,15,16] [_,_,_,_,_,_,_] [_,_,_] rfl rfl
    obtain rfl := sj h
    exact hJp81 _ _ (H.pick [0,2,3,4,5,6])
   replace h := Qhb b83 h
   refine wp_skip ?_
   obtain rfl := sj h
   exact hJp81 _ _ (H.pick [6,3,4,5,7,8])
  refine wp_exit ?_
  exact hJp62 _ _ _ (ho _ (sj h).symm) (H.pick [4,5,6])
 refine wp_block ?_
 refine QR _ (fun (s14 : Int × List Bool) a w => St M w0 102 [(41,tsl Ql t17.1),(42,ti (t17.1.length : Int)),(43,ti s14.1),(9,tv (n6 6)),(2,tptr (Qg.cs x_)),(1,tsl rI want_)] [glo,own Qa7 4 s14.2 (n6 4),box ([tsl Ql t17.1,tsl rI want_,tvs (n6 4)] ++ QB.cs zz6 ++ QB.cs zz6 ++ [ti (-1:Int)]) (n6 6)] a w) _ _ he15 (H.pick [0,1,2,4,5,6]) ?_
 clear h
 intro s14 o a w K85 hI h ho k85
 have H := hI
 clear hI
 refine sr mx [] H (fun _ => .o (QG z2 z1)<|.n) fun _ a w H => ?_
 have H := H.to [0,1,2,3,4,5,6] [_,_,_,_,_,_,_] [_,_,_] rfl rfl
 refine wp_seq_k (fun _ k87 => ?_)
 refine wi H h (fun b95 h => ?_) (fun b95 h => ?_)
 ·refine wp_skip (k87 _ _ ?_)
  refine wp_seq_k (fun K88 k88 => ?_)
  refine wp_block ?_
  have ⟨t45,ht45,h⟩ := bs h
  refine sr mx [v1 2 (fun v0 => box (Ql.cs zz5) v0),v1 2 (fun v0 => box (Ql.cs t45) v0)] H (fun _ => .o (Qr ud31 Qbn z1 z3 ht45)<|.o (Qm Qbn z0)<|.m [] [3] rfl rfl rfl (Q0 (R := Ql) (a := zz5) Qbn Qre)<|.e [] [3] [4] rfl rfl rfl rfl (QS (R := Ql) (a := t45) Qbn z0 z1 (leb rfl))<|.n) fun _ a w H => ?_
  replace H : St _ _ _ [_,_,_,_,_,_,_] [_,_,_] _ _ := ((((H.pick [2,4,5,6,7,8,9]).selA [3,0,1,2] rfl).shareB 0 rfl).add 0 rfl (fun _ _ _ h => h.2)).pick [0,3,4,5,6,7,8]
  refine sr mx [] H (fun _ => .o (Qe QeV z0)<|.o (Qd (u := (t45).B) tok3 z0 rfl)<|.o (QaJ z0 .k)<|.n) fun _ a w H => ?_
  have H := H.to [2,3,4,5,6,7,8,9] [_,_,_,_,_,_,_,_] [_,_,_] rfl rfl
  have ⟨p92,hp92,h⟩ := bs h
  have hJp92 : ∀ a w,St M w0 102 [(41,tsl Ql t17.1),(42,ti (t17.1.length : Int)),(43,ti s14.1),(9,tv (n6 6)),(2,tptr (Qg.cs x_)),(1,tsl rI want_)] [glo,box ([tsl Ql t17.1,tsl rI want_,tvs (n6 4)] ++ QB.cs zz6 ++ QB.cs zz6 ++ [ti (-1:Int)]) (n6 6),own Qa7 4 p92 (n6 4)] a w → K88 a w := by
   intro a w H
   refine k88 _ _ ?_
   refine wr mx [] H (fun _ => .o (QQ z2 .k)<|.q 0 rfl<|.n) fun _ a w H => ?_
   have H := H.to [1,2,3,4,5,6] [_,_,_,_,_,_] [_,_,_] rfl rfl
   exact k85 _ _ _ (sj h).symm ((H.pick [1,2,0,3,4,5]).selA [0,2,1] rfl)
  replace h := hp92
  clear hp92
  refine wi H h (fun b94 h => ?_) (fun b94 h => ?_)
  ·have ⟨t56s,ht56s,h⟩ := bs h
   refine wr mx [v0 (own Qa7 4 t56s (n6 4))] H (fun _ => .q 5 rfl<|.u [2] rfl rfl (QaO z0)<|.u [2] rfl rfl (Qu Qni z0)<|.u [2] rfl rfl (Qab (u := (n6 4)) QqN z0 rfl)<|.o (Qe QeV z5)<|.o (Qd (u := (t45).B) tok3 z0 rfl)<|.u [1] rfl rfl (Qlw QpF tok4 z2 z0 ht56s)<|.e [] [1] [3] rfl rfl rfl rfl (Qmh tok4 z0 .k ht56s)<|.n) fun _ a w H => ?_
   have H := H.to [3,9,10,11,12,13,14] [_,_,_,_,_,_,_] [_,_,_] rfl rfl
   obtain rfl := sj h
   exact hJp92 _ _ (H.pick [1,2,3,4,5,6])
  refine wp_skip ?_
  obtain rfl := sj h
  exact hJp92 _ _ ((H.pick [2,3,4,5,6,7]).selA [0,2,1] rfl)
 refine wp_exit ?_
 exact hJp36 _ _ _ (ho _ (sj h).symm) (H.pick [4,5,6])

end Go.Proofs.YtcdccjagknlmpaaGreatDoor

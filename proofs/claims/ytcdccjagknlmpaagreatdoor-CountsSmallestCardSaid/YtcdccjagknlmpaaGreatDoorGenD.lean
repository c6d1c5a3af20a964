/- Go functions as Lean functions, and the proofs that they compute them, written by a program. No condition. -/
import Derived.Test.YtcdccjagknlmpaaGreatDoorGenC
namespace Go.Proofs.YtcdccjagknlmpaaGreatDoor
open Go.Sim
set_option maxRecDepth 100000
set_option maxHeartbeats 4000000

/- diorama/schema.source -/
noncomputable def Qc2 (x_ : Qg) : Option (Str) := (Qan ([115,99,104,101,109,97] : Str) [(AnyV.int (x_).Version)]).bind fun t21 => (Qad ([] : Str) t21).bind fun t22 => (QI (fun (s7 : Int × Str) => ((if (decide (s7.1 < ((x_).Kinds.length : Int))) = true then (idx (x_).Kinds s7.1).bind fun t28 => (Qan ([107,105,110,100] : Str) [(AnyV.str (t28).Name),(AnyV.int (t28).Lo),(AnyV.int (t28).Hi)]).bind fun t40 => (Qad s7.2 t40).bind fun t41 => (QI (fun (s290 : Int × Str) => ((if (decide (s290.1 < ((t28).Fields.length : Int))) = true then (idx (t28).Fields s290.1).bind fun t47 => (QdA t47).bind fun t50 => (Qad s290.2 t50).bind fun t51 => (some (.inl ((IntKind.i64.wrap (s290.1 + (1:Int))),t51))) else (some (.inr s290.2))) : Option ((Int × Str) ⊕ ((Str))))) ((0:Int),t41)).bind fun (p305 : (Str)) => (some (.inl ((IntKind.i64.wrap (s7.1 + (1:Int))),p305))) else (some (.inr s7.2))) : Option ((Int × Str) ⊕ ((Str))))) ((0:Int),t22)).bind fun (p74 : (Str)) => (QI (fun (s78 : Int × Str) => ((if (decide (s78.1 < ((x_).Lives.length : Int))) = true then (idx (x_).Lives s78.1).bind fun t59 => (QI (fun (s234 : Int × List AnyV) => ((if (decide (s234.1 < ((t59).States.length : Int))) = true then (idx (t59).States s234.1).bind fun t74 => (rm (s234.2.length + [(AnyV.str t74)].length)).bind fun _ => (some (.inl ((IntKind.i64.wrap (s234.1 + (1:Int))),(s234.2 ++ [(AnyV.str t74)])))) else (some (.inr s234.2))) : Option ((Int × List AnyV) ⊕ ((List AnyV))))) ((0:Int),[(AnyV.str (t59).Name),(AnyV.int ((t59).States.length : Int))])).bind fun (p247 : (List AnyV)) => (Qan ([108,105,102,101] : Str) p247).bind fun t83 => (Qad s78.2 t83).bind fun t84 => (QI (fun (s251 : Int × Str) => ((if (decide (s251.1 < ((t59).Moves.length : Int))) = true then (idx (t59).Moves s251.1).bind fun t90 => (Qan ([109,111,118,101] : Str) [(AnyV.int (t90).a0),(AnyV.int (t90).a1)]).bind fun t99 => (Qad s251.2 t99).bind fun t100 => (some (.inl ((IntKind.i64.wrap (s251.1 + (1:Int))),t100))) else (some (.inr s251.2))) : Option ((Int × Str) ⊕ ((Str))))) ((0:Int),t84)).bind fun (p266 : (Str)) => (some (.inl ((IntKind.i64.wrap (s78.1 + (1:Int))),p266))) else (some (.inr s78.2))) : Option ((Int × Str) ⊕ ((Str))))) ((0:Int),p74)).bind fun (p195 : (Str)) => (QI (fun (s199 : Int × Str) => ((if (decide (s199.1 < ((x_).Rules.length : Int))) = true then (idx (x_).Rules s199.1).bind fun t108 => (Qcm (t108).A).bind fun t118 => (Qcm (t108).B).bind fun t122 => (Qan ([114,117,108,101] : Str) [(AnyV.str (t108).Name),(AnyV.str (t108).Kind),(AnyV.str t118),(AnyV.str t122),(AnyV.int (t108).N)]).bind fun t128 => (Qad s199.2 t128).bind fun t129 => (some (.inl ((IntKind.i64.wrap (s199.1 + (1:Int))),t129))) else (some (.inr s199.2))) : Option ((Int × Str) ⊕ ((Str))))) ((0:Int),p195)).bind fun (p214 : (Str)) => (Qfd p214).bind fun t131 => (some t131)
theorem QmR {x_ : Qg} {r : Str} (h : Qc2 x_ = some r) : FnOk Tryz.prog 104 [Qm.ty x_] [glo] (fun _ => []) (fun _ => tv (.string (sB r))) := by
 unfold Qc2 at h
 refine fe Tryz.func104 Tryz.ntmps104 fun M0 M w0 a hpl H => ?_
 replace H : St M w0 132 [(0,Qm.ty x_)] [glo] a w0 := H
 refine sr mx [] H (fun _ => .o (QT (R := Qm) (u := x_) z0)<|.o (Qa .k)<|.n) fun _ a w H => ?_
 have H := H.to [0] [_] [_] rfl rfl
 refine sr mx [v1 0 (fun v0 => bld ([] : Str) v0 nilV)] H (fun _ => .m [] [1] rfl rfl rfl (QoK bInfo)<|.n) fun n1 a w H => ?_
 have H := H.to [0,1] [_,_] [_,_] rfl rfl
 have ⟨t21,ht21,h⟩ := bs h
 have ⟨t22,ht22,h⟩ := bs h
 refine sr mx [v1 5 (fun v0 => bld t22 (n1 0) v0)] H (fun _ => .o (Qe Qq0 z1)<|.o (Qf (u := (x_).Version) tok3 z0 rfl)<|.o (QdL ud3 z0)<|.o (QE (R := (rAny 3 9)) (us := [(AnyV.int (x_).Version)]) Qel Qeg (.cons z0<|.nil _) rfl (leb rfl))<|.u [0] rfl rfl ((Qh Qes (Qa1 ht21) (.cons (.of .k)<|.cons (.of z0)<|.nil)).glo)<|.e [] [1] [2] rfl rfl rfl rfl (Qh Qgl (QbF ht22) (.cons (.of z5)<|.cons (.of z0)<|.nil))<|.n) fun n2 a w H => ?_
 have H := H.to [6,7] [_,_] [_,_] rfl rfl
 refine wp_seq_k (fun K5 k5 => ?_)
 refine sr mx [] H (fun _ => .o (Qe QaJ z1)<|.o (Qf (u := (x_).Kinds) Qdp z0 rfl)<|.o (QN ud23 z0)<|.o (Qw .k)<|.n) fun _ a w H => ?_
 have H := H.to [1,2,3,4,5] [_,_,_,_,_] [_,_] rfl rfl
 have ⟨e8,he8,h⟩ := bs h
 have hJp74 : ∀ (p74 : Str) (v75 : Value) a w,p74 = e8 → St M w0 132 [(3,tv (n1 0)),(1,tptr (Qm.cs x_))] [glo,bld p74 (n1 0) v75] a w → K5 a w := by
  intro p74 v75 a w he H
  subst he
  refine k5 _ _ ?_
  refine wp_seq_k (fun K76 k76 => ?_)
  refine sr mx [] H (fun _ => .o (Qe Qhc z1)<|.o (Qf (u := (x_).Lives) QkM z0 rfl)<|.o (QN ud24 z0)<|.o (Qw .k)<|.n) fun _ a w H => ?_
  have H := H.to [1,2,3,4,5] [_,_,_,_,_] [_,_] rfl rfl
  have ⟨e79,he79,h⟩ := bs h
  have hJp195 : ∀ (p195 : Str) (v196 : Value) a w,p195 = e79 → St M w0 132 [(3,tv (n1 0)),(1,tptr (Qm.cs x_))] [glo,bld p195 (n1 0) v196] a w → K76 a w := by
   intro p195 v196 a w he H
   subst he
   refine k76 _ _ ?_
   refine wp_seq_k (fun K197 k197 => ?_)
   refine sr mx [] H (fun _ => .o (Qe Qgf z1)<|.o (Qf (u := (x_).Rules) QkN z0 rfl)<|.o (QN ud25 z0)<|.o (Qw .k)<|.n) fun _ a w H => ?_
   have H := H.to [1,2,3,4] [_,_,_,_] [_,_] rfl rfl
   have ⟨e200,he200,h⟩ := bs h
   have hJp214 : ∀ (p214 : Str) (v215 : Value) a w,p214 = e200 → St M w0 132 [(3,tv (n1 0))] [glo,bld p214 (n1 0) v215] a w → K197 a w := by
    intro p214 v215 a w he H
    subst he
    refine k197 _ _ ?_
    have ⟨t131,ht131,h⟩ := bs h
    refine sr mx [] H (fun _ => .e [] [1] [] rfl rfl rfl rfl (Qh Qq8 (QnA ht131) (.cons (.of z0)<|.nil))<|.o (Qa z0)<|.n) fun _ a w H => ?_
    have H := H.to [1] [_] [_] rfl rfl
    refine wp_ret ?_
    obtain rfl := sj h
    exact rt undef [] hpl H (.tmp z0 .nil)
   refine wp_block ?_
   refine QZ _ (fun (s199 : Int × Str) a w => ∃ v207 : Value,St M w0 132 [(104,tsl QC (x_).Rules),(105,ti ((x_).Rules.length : Int)),(106,ti s199.1),(3,tv (n1 0))] [glo,bld s199.2 (n1 0) v207] a w) _ _ he200 ⟨v196,H.pick [0,1,2,3]⟩ ?_
   clear h
   intro s199 o a w K217 hI h ho k217
   obtain ⟨v207,H⟩ := hI
   refine sr mx [] H (fun _ => .o (QU z2 z1)<|.n) fun _ a w H => ?_
   have H := H.to [0,1,2,3,4] [_,_,_,_,_] [_,_] rfl rfl
   refine wp_seq_k (fun _ k219 => ?_)
   refine wi H h (fun b223 h => ?_) (fun b223 h => ?_)
   ·refine wp_skip (k219 _ _ ?_)
    refine wp_seq_k (fun _ k220 => ?_)
    refine wp_block ?_
    have ⟨t108,ht108,h⟩ := bs h
    refine sr mx [v1 2 (fun v0 => box (QC.cs zz3) v0),v1 2 (fun v0 => box (QC.cs t108) v0)] H (fun _ => .o (QG ud25 Qcb z1 z3 ht108)<|.o (Qr Qcb z0)<|.m [] [2] rfl rfl rfl (Q1 (R := QC) (a := zz3) Qcb Qpq)<|.e [] [2] [3] rfl rfl rfl rfl (QR (R := QC) (a := t108) Qcb z0 z1 (leb rfl))<|.n) fun _ a w H => ?_
    replace H : St _ _ _ [_,_,_,_,_] [_,_] _ _ := ((((H.pick [2,4,5,6,7]).selA [2,0,1] rfl).shareB 0 rfl).add 0 rfl (fun _ _ _ h => h.2)).pick [0,3,4,5,6]
    have ⟨t118,ht118,h⟩ := bs h
    have ⟨t122,ht122,h⟩ := bs h
    have ⟨t128,ht128,h⟩ := bs h
    have ⟨t129,ht129,h⟩ := bs h
    refine wr mx [v1 19 (fun v0 => bld t129 (n1 0) v0)] H (fun _ => .o (Qe Ql9 z0)<|.o (Qf (u := (t108).Name) tok9 z0 rfl)<|.o (Qcg ud9 z0)<|.o (Qe Qn9 z3)<|.o (Qf (u := (t108).Kind) tok9 z0 rfl)<|.o (Qcg ud9 z0)<|.o (Qe Qje z6)<|.o (Qf (u := (t108).A) tok9 z0 rfl)<|.o (Qh Qoa (QhB ht118) (.cons (.of z0)<|.nil))<|.o (Qcg ud9 z0)<|.o (Qe Qjf z10)<|.o (Qf (u := (t108).B) tok9 z0 rfl)<|.o (Qh Qoa (QhB ht122) (.cons (.of z0)<|.nil))<|.o (Qcg ud9 z0)<|.o (Qe Qq1 z14)<|.o (Qf (u := (t108).N) tok3 z0 rfl)<|.o (QdL ud3 z0)<|.o (QE (R := (rAny 3 9)) (us := [(AnyV.str (t108).Name),(AnyV.str (t108).Kind),(AnyV.str t118),(AnyV.str t122),(AnyV.int (t108).N)]) Qel Qeg (.cons z14<|.cons z11<|.cons z7<|.cons z3<|.cons z0<|.nil _) rfl (leb rfl))<|.u [0] rfl rfl ((Qh Qes (Qa1 ht128) (.cons (.of .k)<|.cons (.of z0)<|.nil)).glo)<|.e [] [1] [2] rfl rfl rfl rfl (Qh Qgl (QbF ht129) (.cons (.of z23)<|.cons (.of z0)<|.nil))<|.n) fun n32 a w H => ?_
    have H := H.to [21,22,23,24] [_,_,_,_] [_,_] rfl rfl
    refine k220 _ _ ?_
    refine wr mx [] H (fun _ => .o (QV z2 .k)<|.q 0 rfl<|.n) fun _ a w H => ?_
    have H := H.to [1,2,3,4] [_,_,_,_] [_,_] rfl rfl
    exact k217 _ _ _ (sj h).symm ⟨(n32 19),H.pick [1,2,0,3]⟩
   refine wp_exit ?_
   exact hJp214 _ v207 _ _ (ho _ (sj h).symm) (H.pick [4])
  refine wp_block ?_
  refine QZ _ (fun (s78 : Int × Str) a w => ∃ v137 : Value,St M w0 132 [(55,tsl QJ (x_).Lives),(56,ti ((x_).Lives.length : Int)),(57,ti s78.1),(3,tv (n1 0)),(1,tptr (Qm.cs x_))] [glo,bld s78.2 (n1 0) v137] a w) _ _ he79 ⟨v75,H.pick [0,1,2,3,4]⟩ ?_
  clear h
  intro s78 o a w K224 hI h ho k224
  obtain ⟨v137,H⟩ := hI
  refine sr mx [] H (fun _ => .o (QU z2 z1)<|.n) fun _ a w H => ?_
  have H := H.to [0,1,2,3,4,5] [_,_,_,_,_,_] [_,_] rfl rfl
  refine wp_seq_k (fun _ k226 => ?_)
  refine wi H h (fun b281 h => ?_) (fun b281 h => ?_)
  ·refine wp_skip (k226 _ _ ?_)
   refine wp_seq_k (fun K227 k227 => ?_)
   refine wp_block ?_
   have ⟨t59,ht59,h⟩ := bs h
   refine sr mx [v1 2 (fun v0 => box (QJ.cs zz2) v0),v1 2 (fun v0 => box (QJ.cs t59) v0)] H (fun _ => .o (QG ud24 Qex z1 z3 ht59)<|.o (Qr Qex z0)<|.m [] [2] rfl rfl rfl (Q1 (R := QJ) (a := zz2) Qex QrE)<|.e [] [2] [3] rfl rfl rfl rfl (QR (R := QJ) (a := t59) Qex z0 z1 (leb rfl))<|.n) fun _ a w H => ?_
   replace H : St _ _ _ [_,_,_,_,_,_] [_,_] _ _ := ((((H.pick [2,4,5,6,7,8]).selA [2,0,1] rfl).shareB 0 rfl).add 0 rfl (fun _ _ _ h => h.2)).pick [0,3,4,5,6,7]
   refine sr mx [v1 7 (fun v0 => own (rAny 3 9) 20 [(AnyV.str (t59).Name),(AnyV.int ((t59).States.length : Int))] v0)] H (fun _ => .o (Qe Qkb z0)<|.o (Qf (u := (t59).Name) tok9 z0 rfl)<|.o (Qcg ud9 z0)<|.o (Qe Ql8 z3)<|.o (Qf (u := (t59).States) Qgd z0 rfl)<|.o (QN ud32 z0)<|.o (QdL ud3 z0)<|.m [] [2] rfl rfl rfl (QgE (R := (rAny 3 9)) (us := [(AnyV.str (t59).Name),(AnyV.int ((t59).States.length : Int))]) Qel Qeg (.cons z4<|.cons z0<|.nil _) rfl (leb rfl) (leb rfl))<|.ud (f := fun v => tv v) 7 rfl [] rfl rfl (Qa z0)<|.n) fun n16 a w H => ?_
   have H := H.to [7,8,9,10,11,12,13,14] [_,_,_,_,_,_,_,_] [_,_,_] rfl rfl
   refine wp_seq_k (fun K232 k232 => ?_)
   refine sr mx [] H (fun _ => .o (Qe Ql8 z2)<|.o (Qf (u := (t59).States) Qgd z0 rfl)<|.o (QN ud32 z0)<|.o (Qw .k)<|.n) fun _ a w H => ?_
   have H := H.to [1,2,3,4,5,6,7,8,9,10,11] [_,_,_,_,_,_,_,_,_,_,_] [_,_,_] rfl rfl
   have ⟨e235,he235,h⟩ := bs h
   have hJp247 : ∀ (p247 : List AnyV) (v248 : Value) a w,p247 = e235 → St M w0 132 [(10,tv v248),(9,tptr (QJ.cs t59)),(55,tsl QJ (x_).Lives),(56,ti ((x_).Lives.length : Int)),(57,ti s78.1),(3,tv (n1 0)),(1,tptr (Qm.cs x_))] [glo,bld s78.2 (n1 0) v137,own (rAny 3 9) 20 p247 v248] a w → K232 a w := by
    intro p247 v248 a w he H
    subst he
    refine k232 _ _ ?_
    have ⟨t83,ht83,h⟩ := bs h
    have ⟨t84,ht84,h⟩ := bs h
    refine sr mx [v1 2 (fun v0 => bld t84 (n1 0) v0)] H (fun _ => .q 0 rfl<|.u [0,2] rfl rfl ((Qg8 [own (rAny 3 9) 20 p247 v248] Qes (Qa1 ht83) (.cons (.of .k)<|.cons (.own z0 (.head _))<|.nil) (fun _ => Qg7) (fun _ => Qlp (x := undef))).glo)<|.e [] [1] [3] rfl rfl rfl rfl (Qh Qgl (QbF ht84) (.cons (.of z7)<|.cons (.of z0)<|.nil))<|.n) fun n22 a w H => ?_
    have H := H.to [0,3,4,5,6,7,8,9] [_,_,_,_,_,_,_,_] [_,_,_] rfl rfl
    refine sr mx [] H (fun _ => .o (Qe Qgj z2)<|.o (Qf (u := (t59).Moves) Qpp z0 rfl)<|.o (QN ud79 z0)<|.o (Qw .k)<|.n) fun _ a w H => ?_
    have H := H.to [1,2,3,4,5,7,8,9,10,11] [_,_,_,_,_,_,_,_,_,_] [_,_,_] rfl rfl
    have ⟨e252,he252,h⟩ := bs h
    have hJp266 : ∀ (p266 : Str) (v267 : Value) a w,p266 = e252 → St M w0 132 [(55,tsl QJ (x_).Lives),(56,ti ((x_).Lives.length : Int)),(57,ti s78.1),(3,tv (n1 0)),(1,tptr (Qm.cs x_))] [glo,bld p266 (n1 0) v267] a w → K227 a w := by
     intro p266 v267 a w he H
     subst he
     refine k227 _ _ ?_
     refine wr mx [] H (fun _ => .o (QV z2 .k)<|.q 0 rfl<|.n) fun _ a w H => ?_
     have H := H.to [1,2,3,4,5] [_,_,_,_,_] [_,_] rfl rfl
     exact k224 _ _ _ (sj h).symm ⟨v267,H.pick [1,2,0,3,4]⟩
    refine wp_block ?_
    refine QZ _ (fun (s251 : Int × Str) a w => ∃ v259 : Value,St M w0 132 [(86,tsl Q8 (t59).Moves),(87,ti ((t59).Moves.length : Int)),(88,ti s251.1),(55,tsl QJ (x_).Lives),(56,ti ((x_).Lives.length : Int)),(57,ti s78.1),(3,tv (n1 0)),(1,tptr (Qm.cs x_))] [glo,bld s251.2 (n1 0) v259] a w) _ _ he252 ⟨(n22 2),(H.pick [0,1,2,5,6,7,8,9]).selA [0,2] rfl⟩ ?_
    clear h
    intro s251 o a w K268 hI h ho k268
    obtain ⟨v259,H⟩ := hI
    refine sr mx [] H (fun _ => .o (QU z2 z1)<|.n) fun _ a w H => ?_
    have H := H.to [0,1,2,3,4,5,6,7,8] [_,_,_,_,_,_,_,_,_] [_,_] rfl rfl
    refine wp_seq_k (fun _ k270 => ?_)
    refine wi H h (fun b274 h => ?_) (fun b274 h => ?_)
    ·refine wp_skip (k270 _ _ ?_)
     refine wp_seq_k (fun _ k271 => ?_)
     refine wp_block ?_
     have ⟨t90,ht90,h⟩ := bs h
     refine sr mx [v1 2 (fun v0 => box (Q8.cs (QK.mk (0:Int) (0:Int))) v0),v1 2 (fun v0 => box (Q8.cs t90) v0)] H (fun _ => .o (QG ud79 Qge z1 z3 ht90)<|.o (Qr Qge z0)<|.m [] [2] rfl rfl rfl (Q1 (R := Q8) (a := (QK.mk (0:Int) (0:Int))) Qge zok82)<|.e [] [2] [3] rfl rfl rfl rfl (QR (R := Q8) (a := t90) Qge z0 z1 (leb rfl))<|.n) fun _ a w H => ?_
     replace H : St _ _ _ [_,_,_,_,_,_,_,_,_] [_,_] _ _ := ((((H.pick [2,4,5,6,7,8,9,10,11]).selA [2,0,1] rfl).shareB 0 rfl).add 0 rfl (fun _ _ _ h => h.2)).pick [0,3,4,5,6,7,8,9,10]
     have ⟨t99,ht99,h⟩ := bs h
     have ⟨t100,ht100,h⟩ := bs h
     refine wr mx [v1 8 (fun v0 => bld t100 (n1 0) v0)] H (fun _ => .o (Ql2 0 rfl ud82 tok3 z0 .k (by decide))<|.o (Qf (u := (t90).a0) tok3 z0 rfl)<|.o (QdL ud3 z0)<|.o (Ql2 1 rfl ud82 tok3 z3 .k (by decide))<|.o (Qf (u := (t90).a1) tok3 z0 rfl)<|.o (QdL ud3 z0)<|.o (QE (R := (rAny 3 9)) (us := [(AnyV.int (t90).a0),(AnyV.int (t90).a1)]) Qel Qeg (.cons z3<|.cons z0<|.nil _) rfl (leb rfl))<|.u [0] rfl rfl ((Qh Qes (Qa1 ht99) (.cons (.of .k)<|.cons (.of z0)<|.nil)).glo)<|.e [] [1] [2] rfl rfl rfl rfl (Qh Qgl (QbF ht100) (.cons (.of z15)<|.cons (.of z0)<|.nil))<|.n) fun n26 a w H => ?_
     have H := H.to [10,11,12,13,14,15,16,17] [_,_,_,_,_,_,_,_] [_,_] rfl rfl
     refine k271 _ _ ?_
     refine wr mx [] H (fun _ => .o (QV z2 .k)<|.q 0 rfl<|.n) fun _ a w H => ?_
     have H := H.to [1,2,3,4,5,6,7,8] [_,_,_,_,_,_,_,_] [_,_] rfl rfl
     exact k268 _ _ _ (sj h).symm ⟨(n26 8),H.pick [1,2,0,3,4,5,6,7]⟩
    refine wp_exit ?_
    exact hJp266 _ v259 _ _ (ho _ (sj h).symm) (H.pick [4,5,6,7,8])
   refine wp_block ?_
   refine QZ _ (fun (s234 : Int × List AnyV) a w => ∃ v241 : Value,St M w0 132 [(70,tsl rS (t59).States),(71,ti ((t59).States.length : Int)),(72,ti s234.1),(10,tv v241),(9,tptr (QJ.cs t59)),(55,tsl QJ (x_).Lives),(56,ti ((x_).Lives.length : Int)),(57,ti s78.1),(3,tv (n1 0)),(1,tptr (Qm.cs x_))] [glo,bld s78.2 (n1 0) v137,own (rAny 3 9) 20 s234.2 v241] a w) _ _ he235 ⟨(n16 7),H.pick [0,1,2,4,5,6,7,8,9,10]⟩ ?_
   clear h
   intro s234 o a w K275 hI h ho k275
   obtain ⟨v241,H⟩ := hI
   refine sr mx [] H (fun _ => .o (QU z2 z1)<|.n) fun _ a w H => ?_
   have H := H.to [0,1,2,3,4,5,6,7,8,9,10] [_,_,_,_,_,_,_,_,_,_,_] [_,_,_] rfl rfl
   refine wp_seq_k (fun _ k277 => ?_)
   refine wi H h (fun b280 h => ?_) (fun b280 h => ?_)
   ·refine wp_skip (k277 _ _ ?_)
    refine wp_seq_k (fun _ k278 => ?_)
    refine wp_block ?_
    have ⟨t74,ht74,h⟩ := bs h
    refine sr mx [] H (fun _ => .o (QG ud32 tok9 z1 z3 ht74)<|.o (Qr tok9 z0)<|.o (Qa z0)<|.n) fun _ a w H => ?_
    have H := H.to [2,4,5,6,7,8,9,10,11,12,13] [_,_,_,_,_,_,_,_,_,_,_] [_,_,_] rfl rfl
    have ⟨u80,hu80,h⟩ := bs h
    refine wr mx [v1 4 (fun v0 => own (rAny 3 9) 20 (s234.2 ++ [(AnyV.str t74)]) v0)] H (fun _ => .q 4 rfl<|.q 1 rfl<|.o (Qcg ud9 z0)<|.o (QE (R := (rAny 3 9)) (us := [(AnyV.str t74)]) Qel Qeg (.cons z0<|.nil _) rfl (leb rfl))<|.e [] [2] [3] rfl rfl rfl rfl (Qaf (R := (rAny 3 9)) Qel Qeg (leb rfl) z3 z0 hu80)<|.ud (f := fun v => tv v) 4 rfl [] rfl rfl (Qa z0)<|.n) fun n20 a w H => ?_
    have H := H.to [4,5,7,8,9,10,11,12,13,14,15] [_,_,_,_,_,_,_,_,_,_,_] [_,_,_] rfl rfl
    refine k278 _ _ ?_
    refine wr mx [] H (fun _ => .o (QV z4 .k)<|.q 0 rfl<|.n) fun _ a w H => ?_
    have H := H.to [1,2,3,4,5,6,7,8,9,10,11] [_,_,_,_,_,_,_,_,_,_,_] [_,_,_] rfl rfl
    exact k275 _ _ _ (sj h).symm ⟨(n20 4),H.pick [3,4,0,2,5,6,7,8,9,10]⟩
   refine wp_exit ?_
   exact hJp247 _ v241 _ _ (ho _ (sj h).symm) (H.pick [4,5,6,7,8,9,10])
  refine wp_exit ?_
  exact hJp195 _ v137 _ _ (ho _ (sj h).symm) (H.pick [4,5])
 refine wp_block ?_
 refine QZ _ (fun (s7 : Int × Str) a w => ∃ v41 : Value,St M w0 132 [(24,tsl Qk (x_).Kinds),(25,ti ((x_).Kinds.length : Int)),(26,ti s7.1),(3,tv (n1 0)),(1,tptr (Qm.cs x_))] [glo,bld s7.2 (n1 0) v41] a w) _ _ he8 ⟨(n2 5),H.pick [0,1,2,3,4]⟩ ?_
 clear h
 intro s7 o a w K282 hI h ho k282
 obtain ⟨v41,H⟩ := hI
 refine sr mx [] H (fun _ => .o (QU z2 z1)<|.n) fun _ a w H => ?_
 have H := H.to [0,1,2,3,4,5] [_,_,_,_,_,_] [_,_] rfl rfl
 refine wp_seq_k (fun _ k284 => ?_)
 refine wi H h (fun b314 h => ?_) (fun b314 h => ?_)
 ·refine wp_skip (k284 _ _ ?_)
  refine wp_seq_k (fun K285 k285 => ?_)
  refine wp_block ?_
  have ⟨t28,ht28,h⟩ := bs h
  refine sr mx [v1 2 (fun v0 => box (Qk.cs zz1) v0),v1 2 (fun v0 => box (Qk.cs t28) v0)] H (fun _ => .o (QG ud23 Q7 z1 z3 ht28)<|.o (Qr Q7 z0)<|.m [] [2] rfl rfl rfl (Q1 (R := Qk) (a := zz1) Q7 QiY)<|.e [] [2] [3] rfl rfl rfl rfl (QR (R := Qk) (a := t28) Q7 z0 z1 (leb rfl))<|.n) fun _ a w H => ?_
  replace H : St _ _ _ [_,_,_,_,_,_] [_,_] _ _ := ((((H.pick [2,4,5,6,7,8]).selA [2,0,1] rfl).shareB 0 rfl).add 0 rfl (fun _ _ _ h => h.2)).pick [0,3,4,5,6,7]
  have ⟨t40,ht40,h⟩ := bs h
  have ⟨t41,ht41,h⟩ := bs h
  refine sr mx [v1 11 (fun v0 => bld t41 (n1 0) v0)] H (fun _ => .o (Qe QcY z0)<|.o (Qf (u := (t28).Name) tok9 z0 rfl)<|.o (Qcg ud9 z0)<|.o (Qe Qjd z3)<|.o (Qf (u := (t28).Lo) tok3 z0 rfl)<|.o (QdL ud3 z0)<|.o (Qe Qka z6)<|.o (Qf (u := (t28).Hi) tok3 z0 rfl)<|.o (QdL ud3 z0)<|.o (QE (R := (rAny 3 9)) (us := [(AnyV.str (t28).Name),(AnyV.int (t28).Lo),(AnyV.int (t28).Hi)]) Qel Qeg (.cons z6<|.cons z3<|.cons z0<|.nil _) rfl (leb rfl))<|.u [0] rfl rfl ((Qh Qes (Qa1 ht40) (.cons (.of .k)<|.cons (.of z0)<|.nil)).glo)<|.e [] [1] [2] rfl rfl rfl rfl (Qh Qgl (QbF ht41) (.cons (.of z15)<|.cons (.of z0)<|.nil))<|.n) fun n6 a w H => ?_
  have H := H.to [12,13,14,15,16,17] [_,_,_,_,_,_] [_,_] rfl rfl
  refine sr mx [] H (fun _ => .o (Qe Qap z0)<|.o (Qf (u := (t28).Fields) Qc8 z0 rfl)<|.o (QN ud53 z0)<|.o (Qw .k)<|.n) fun _ a w H => ?_
  have H := H.to [1,2,3,5,6,7,8,9] [_,_,_,_,_,_,_,_] [_,_] rfl rfl
  have ⟨e291,he291,h⟩ := bs h
  have hJp305 : ∀ (p305 : Str) (v306 : Value) a w,p305 = e291 → St M w0 132 [(24,tsl Qk (x_).Kinds),(25,ti ((x_).Kinds.length : Int)),(26,ti s7.1),(3,tv (n1 0)),(1,tptr (Qm.cs x_))] [glo,bld p305 (n1 0) v306] a w → K285 a w := by
   intro p305 v306 a w he H
   subst he
   refine k285 _ _ ?_
   refine wr mx [] H (fun _ => .o (QV z2 .k)<|.q 0 rfl<|.n) fun _ a w H => ?_
   have H := H.to [1,2,3,4,5] [_,_,_,_,_] [_,_] rfl rfl
   exact k282 _ _ _ (sj h).symm ⟨v306,H.pick [1,2,0,3,4]⟩
  refine wp_block ?_
  refine QZ _ (fun (s290 : Int × Str) a w => ∃ v298 : Value,St M w0 132 [(43,tsl Qd (t28).Fields),(44,ti ((t28).Fields.length : Int)),(45,ti s290.1),(24,tsl Qk (x_).Kinds),(25,ti ((x_).Kinds.length : Int)),(26,ti s7.1),(3,tv (n1 0)),(1,tptr (Qm.cs x_))] [glo,bld s290.2 (n1 0) v298] a w) _ _ he291 ⟨(n6 11),H.pick [0,1,2,3,4,5,6,7]⟩ ?_
  clear h
  intro s290 o a w K307 hI h ho k307
  obtain ⟨v298,H⟩ := hI
  refine sr mx [] H (fun _ => .o (QU z2 z1)<|.n) fun _ a w H => ?_
  have H := H.to [0,1,2,3,4,5,6,7,8] [_,_,_,_,_,_,_,_,_] [_,_] rfl rfl
  refine wp_seq_k (fun _ k309 => ?_)
  refine wi H h (fun b313 h => ?_) (fun b313 h => ?_)
  ·refine wp_skip (k309 _ _ ?_)
   refine wp_seq_k (fun _ k310 => ?_)
   refine wp_block ?_
   have ⟨t47,ht47,h⟩ := bs h
   refine sr mx [v1 2 (fun v0 => box (Qd.cs zz0) v0),v1 2 (fun v0 => box (Qd.cs t47) v0)] H (fun _ => .o (QG ud53 QS z1 z3 ht47)<|.o (Qr QS z0)<|.m [] [2] rfl rfl rfl (Q1 (R := Qd) (a := zz0) QS Qeh)<|.e [] [2] [3] rfl rfl rfl rfl (QR (R := Qd) (a := t47) QS z0 z1 (leb rfl))<|.n) fun _ a w H => ?_
   replace H : St _ _ _ [_,_,_,_,_,_,_,_,_] [_,_] _ _ := ((((H.pick [2,4,5,6,7,8,9,10,11]).selA [2,0,1] rfl).shareB 0 rfl).add 0 rfl (fun _ _ _ h => h.2)).pick [0,3,4,5,6,7,8,9,10]
   have ⟨t50,ht50,h⟩ := bs h
   have ⟨t51,ht51,h⟩ := bs h
   refine wr mx [v1 2 (fun v0 => bld t51 (n1 0) v0)] H (fun _ => .o (Qr QS z0)<|.u [0] rfl rfl ((Qh Qvj (QnD ht50) (.cons (.of z0)<|.nil)).glo)<|.e [] [1] [2] rfl rfl rfl rfl (Qh Qgl (QbF ht51) (.cons (.of z9)<|.cons (.of z0)<|.nil))<|.n) fun n10 a w H => ?_
   have H := H.to [4,5,6,7,8,9,10,11] [_,_,_,_,_,_,_,_] [_,_] rfl rfl
   refine k310 _ _ ?_
   refine wr mx [] H (fun _ => .o (QV z2 .k)<|.q 0 rfl<|.n) fun _ a w H => ?_
   have H := H.to [1,2,3,4,5,6,7,8] [_,_,_,_,_,_,_,_] [_,_] rfl rfl
   exact k307 _ _ _ (sj h).symm ⟨(n10 2),H.pick [1,2,0,3,4,5,6,7]⟩
  refine wp_exit ?_
  exact hJp305 _ v298 _ _ (ho _ (sj h).symm) (H.pick [4,5,6,7,8])
 refine wp_exit ?_
 exact hJp74 _ v41 _ _ (ho _ (sj h).symm) (H.pick [4,5])

/- diorama/schema.Valid -/
noncomputable def QdB (x_ : Qg) : Option (Int) := (QaQ (x_).Version (0:Int) (1048576:Int)).bind fun t6 => (opt (((((!t6) || (decide (((x_).Kinds.length : Int) > (6:Int)))) || (decide (((x_).Lives.length : Int) > (6:Int)))) || (decide (((x_).Rules.length : Int) > (16:Int)))) == false) (Qcp (x_).Kinds (fun x0 => QcZ x0)) default).bind fun t29 => (opt ((((((!t6) || (decide (((x_).Kinds.length : Int) > (6:Int)))) || (decide (((x_).Lives.length : Int) > (6:Int)))) || (decide (((x_).Rules.length : Int) > (16:Int)))) || (!t29)) == false) (Qcr (x_).Lives (fun x0 => Qc0 x0)) default).bind fun t35 => (opt (((((((!t6) || (decide (((x_).Kinds.length : Int) > (6:Int)))) || (decide (((x_).Lives.length : Int) > (6:Int)))) || (decide (((x_).Rules.length : Int) > (16:Int)))) || (!t29)) || (!t35)) == false) (Qct (x_).Rules (fun x0 => Qc1 x0)) default).bind fun t41 => (if (((((((!t6) || (decide (((x_).Kinds.length : Int) > (6:Int)))) || (decide (((x_).Lives.length : Int) > (6:Int)))) || (decide (((x_).Rules.length : Int) > (16:Int)))) || (!t29)) || (!t35)) || (!t41)) = true then (some (1:Int)) else (Qc2 x_).bind fun t46 => (if (decide ((t46.length : Int) > (8192:Int))) = true then (some (4:Int)) else (some (0:Int))))
theorem QnE {x_ : Qg} {r : Int} (h : QdB x_ = some r) : FnOk Tryz.prog 62 [Qm.ty x_] [glo] (fun _ => []) (fun _ => ti r) := by
 unfold QdB at h
 refine fe Tryz.func62 Tryz.ntmps62 fun M0 M w0 a hpl H => ?_
 replace H : St M w0 49 [(0,Qm.ty x_)] [glo] a w0 := H
 refine sr mx [] H (fun _ => .o (QT (R := Qm) (u := x_) z0)<|.o (Qa .k)<|.n) fun _ a w H => ?_
 have H := H.to [0] [_] [_] rfl rfl
 refine wp_seq_k (fun _ k2 => ?_)
 refine wp_block ?_
 have ⟨t6,ht6,h⟩ := bs h
 have ⟨t29,ht29,h⟩ := bs h
 have ⟨t35,ht35,h⟩ := bs h
 have ⟨t41,ht41,h⟩ := bs h
 refine sr mx [] H (fun _ => .o (Qe Qq0 z0)<|.o (Qf (u := (x_).Version) tok3 z0 rfl)<|.o (Qh Qhw (Qbw ht6) (.cons (.of z0)<|.cons (.of .k)<|.cons (.of .k)<|.nil))<|.o (Qar z0)<|.q 0 rfl<|.g rfl rfl bq0 (fun _ => Qe QaJ z5)<|.g rfl rfl bq1 (fun hc => Qf (u := (x_).Kinds) Qdp (.cond z0 hc) rfl)<|.g rfl rfl bq2 (fun hc => QN ud23 (.cond z0 hc))<|.g rfl rfl bq3 (fun hc => Qcf (.cond z0 hc) .k)<|.o (Qao z4 (fun hp => (.cond z0 (beqF hp))))<|.q 0 rfl<|.g rfl rfl bq0 (fun _ => Qe Qhc z11)<|.g rfl rfl bq1 (fun hc => Qf (u := (x_).Lives) QkM (.cond z0 hc) rfl)<|.g rfl rfl bq2 (fun hc => QN ud24 (.cond z0 hc))<|.g rfl rfl bq3 (fun hc => Qcf (.cond z0 hc) .k)<|.o (Qao z4 (fun hp => (.cond z0 (beqF hp))))<|.q 0 rfl<|.g rfl rfl bq0 (fun _ => Qe Qgf z17)<|.g rfl rfl bq1 (fun hc => Qf (u := (x_).Rules) QkN (.cond z0 hc) rfl)<|.g rfl rfl bq2 (fun hc => QN ud25 (.cond z0 hc))<|.g rfl rfl bq3 (fun hc => Qcf (.cond z0 hc) .k)<|.o (Qao z4 (fun hp => (.cond z0 (beqF hp))))<|.q 0 rfl<|.g rfl rfl bq0 (fun _ => Qe QaJ z23)<|.g rfl rfl bq1 (fun hc => Qf (u := (x_).Kinds) Qdp (.cond z0 hc) rfl)<|.g rfl rfl bq2 (fun hc => Qh call98 (Qlu (Q9 ht29 hc)) (.cons (.of (.cond z0 hc))<|.cons (.of (Fct.weak .fnE (Qb1 call99 (fun _ _ hq => QmN hq))))<|.nil))<|.g rfl rfl bq3 (fun hc => Qar (.cond z0 hc))<|.o (Qao z4 (fun hp => (.cond z0 (beqF hp))))<|.q 0 rfl<|.g rfl rfl bq0 (fun _ => Qe Qhc z29)<|.g rfl rfl bq1 (fun hc => Qf (u := (x_).Lives) QkM (.cond z0 hc) rfl)<|.g rfl rfl bq2 (fun hc => Qh Qu0 (Qlw (Q9 ht35 hc)) (.cons (.of (.cond z0 hc))<|.cons (.of (Fct.weak .fnE (Qb1 Qu1 (fun _ _ hq => QmO hq))))<|.nil))<|.g rfl rfl bq3 (fun hc => Qar (.cond z0 hc))<|.o (Qao z4 (fun hp => (.cond z0 (beqF hp))))<|.q 0 rfl<|.g rfl rfl bq0 (fun _ => Qe Qgf (.t 35 rfl))<|.g rfl rfl bq1 (fun hc => Qf (u := (x_).Rules) QkN (.cond z0 hc) rfl)<|.g rfl rfl bq2 (fun hc => Qh Qu2 (Qly (Q9 ht41 hc)) (.cons (.of (.cond z0 hc))<|.cons (.of (Fct.weak .fnE (Qb1 Qu3 (fun _ _ hq => QmP hq))))<|.nil))<|.g rfl rfl bq3 (fun hc => Qar (.cond z0 hc))<|.o (Qao z4 (fun hp => (.cond z0 (beqF hp))))<|.o (Qa z0)<|.n) fun _ a w H => ?_
 have H := H.to [40,41] [_,_] [_] rfl rfl
 refine wi H h (fun b9 h => ?_) (fun b9 h => ?_)
 ·refine sr mx [] H (fun _ => .o (Qa .k)<|.n) fun _ a w H => ?_
  have H := H.to [0] [_] [_] rfl rfl
  refine wp_ret ?_
  obtain rfl := sj h
  exact rt undef [] hpl H (.tmp z0 .nil)
 have ⟨t46,ht46,h⟩ := bs h
 refine sr mx [] H (fun _ => .o (Qr QaR z1)<|.u [0] rfl rfl ((Qh Qu4 (QmR ht46) (.cons (.of z0)<|.nil)).glo)<|.o (op_lenS' ud9 z0)<|.o (Qcf z0 .k)<|.o (Qa z0)<|.n) fun _ a w H => ?_
 have H := H.to [4] [_] [_] rfl rfl
 refine wi H h (fun b8 h => ?_) (fun b8 h => ?_)
 ·refine sr mx [] H (fun _ => .o (Qa .k)<|.n) fun _ a w H => ?_
  have H := H.to [0] [_] [_] rfl rfl
  refine wp_ret ?_
  obtain rfl := sj h
  exact rt undef [] hpl H (.tmp z0 .nil)
 refine wp_skip (k2 _ _ ?_)
 refine sr mx [] H (fun _ => .o (Qa .k)<|.n) fun _ a w H => ?_
 have H := H.to [0] [_] [_] rfl rfl
 refine wp_ret ?_
 obtain rfl := sj h
 exact rt undef [] hpl H (.tmp z0 .nil)

/- diorama/typing.Check$1 -/
noncomputable def Qbs (kind_ : Int) (field_ : Int) (rule_ : Int) (e_ : Int) (c0_ : (List Qn)) : Option ((List Qn)) := ((if (e_ != (0:Int)) = true then (rm (c0_.length + [(Qn.mk kind_ field_ rule_ e_)].length)).bind fun _ => (some (c0_ ++ [(Qn.mk kind_ field_ rule_ e_)])) else (some c0_))).bind fun (p4 : List Qn) => (some p4)
theorem QeO {q4 : Value} {vh4 : Value} {kind_ : Int} {field_ : Int} {rule_ : Int} {e_ : Int} {c0_ : (List Qn)} {r : (List Qn)} (h : Qbs kind_ field_ rule_ e_ c0_ = some r) : FnOk Tryz.prog 63 [ti kind_,ti field_,ti rule_,ti e_,tv q4] [box (rVal.cs vh4) q4,own QO 119 c0_ vh4] (fun v => [box (rVal.cs v) q4,own QO 119 r v]) (fun _ => ttup []) := by
 unfold Qbs at h
 refine fe Tryz.func63 Tryz.ntmps63 fun M0 M w0 a hpl H => ?_
 replace H : St M w0 19 [(0,ti kind_),(1,ti field_),(2,ti rule_),(3,ti e_),(4,tv q4)] [box (rVal.cs vh4) q4,own QO 119 c0_ vh4] a w0 := H
 refine sr mx [] H (fun _ => .q 3 rfl<|.o (Qam z0 .k)<|.n) fun _ a w H => ?_
 have H := H.to [1,2,3,4,5,6] [_,_,_,_,_,_] [_,_] rfl rfl
 have ⟨p4,hp4,h⟩ := bs h
 have hJp4 : ∀ (v6 : Value) a w,St M w0 19 [(4,tv q4)] [own QO 119 p4 v6,box (rVal.cs v6) q4] a w → Ret Tryz.prog Tryz.f63 M0 [box (rVal.cs vh4) q4,own QO 119 c0_ vh4] w0 (fun v => [box (rVal.cs v) q4,own QO 119 r v]) (fun _ => ttup []) .normal a w := by
  intro v6 a w H
  obtain rfl := sj h
  exact Qn6 v6 [1,0] hpl H rfl .nil rfl rfl rfl
 replace h := hp4
 clear hp4
 refine wi H h (fun b7 h => ?_) (fun b7 h => ?_)
 ·have ⟨u18,hu18,h⟩ := bs h
  refine wr mx [v1 7 (fun v0 => own QO 119 (c0_ ++ [(Qn.mk kind_ field_ rule_ e_)]) v0),v1 7 (fun v0 => box (rVal.cs v0) q4)] H (fun _ => .u [0] rfl rfl (Qg9 Qnu z5)<|.q 2 rfl<|.q 4 rfl<|.q 6 rfl<|.q 8 rfl<|.p (T := QO.ty (Qn.mk kind_ field_ rule_ e_)) rfl (QX Tryz.underlying119 pl119 zv119 zc119 (.cons (R := rI) (u := kind_) rfl z3 (leb rfl)<|.cons (R := rI) (u := field_) rfl z2 (leb rfl)<|.cons (R := rI) (u := rule_) rfl z1 (leb rfl)<|.cons (R := rI) (u := e_) rfl z0 (leb rfl)<|.nil _))<|.o (QE (R := QO) (us := [(Qn.mk kind_ field_ rule_ e_)]) ud68 Qnq (.cons z0<|.nil _) rfl (leb rfl))<|.e [] [1] [2] rfl rfl rfl rfl (Qaf (R := QO) ud68 Qnq (leb rfl) z6 z0 hu18)<|.e [2] [0] [3] rfl rfl rfl rfl (QjV (R := QO) (e := 119) (Ts := (rVal.cs vh4)) Qnu z13 z0 (leb rfl))<|.n) fun n1 a w H => ?_
  have H := H.to [7,13] [_,_] [_,_] rfl rfl
  obtain rfl := sj h
  exact hJp4 (n1 7) _ _ (H.pick [1])
 refine wp_skip ?_
 obtain rfl := sj h
 exact hJp4 vh4 _ _ ((H.pick [5]).selA [1,0] rfl)

/- diorama/typing.Check$2 -/
noncomputable def Qdq (m_ : Qu) (c0_ : Qu) : Option (Bool) := (some ((m_).Name == (c0_).Name))
theorem Qmr {m_ : Qu} {c0_ : Qu} {r : Bool} (h : Qdq m_ c0_ = some r) : FnOk Tryz.prog 65 [QJ.ty m_,tptr (QJ.cs c0_)] [] (fun _ => []) (fun _ => tb r) := by
 unfold Qdq at h
 refine fe Tryz.func65 Tryz.ntmps65 fun M0 M w0 a hpl H => ?_
 replace H : St M w0 9 [(0,QJ.ty m_),(1,tptr (QJ.cs c0_))] [] a w0 := H
 refine sr mx [] H (fun _ => .o (QT (R := QJ) (u := m_) z0)<|.o (Qa .k)<|.n) fun _ a w H => ?_
 have H := H.to [0,3] [_,_] [] rfl rfl
 refine sr mx [] H (fun _ => .o (Qe Qkb z0)<|.o (Qf (u := (m_).Name) tok9 z0 rfl)<|.o (Qe Qkb z3)<|.o (Qf (u := (c0_).Name) tok9 z0 rfl)<|.o (QcX z2 z0)<|.o (Qa z0)<|.n) fun _ a w H => ?_
 have H := H.to [5] [_] [] rfl rfl
 refine wp_ret ?_
 obtain rfl := sj h
 exact rt undef [] hpl H (.tmp z0 .nil)

/- diorama/typing.first -/
noncomputable def Qae (l_ : (List Qq)) : Option (Int) := (QI (fun (s4 : Int) => ((if (decide (s4 < (l_.length : Int))) = true then (idx l_ s4).bind fun t9 => (if (t9).is = true then (some (.inr (.inr (t9).code))) else (some (.inl (IntKind.i64.wrap (s4 + (1:Int)))))) else (some (.inr (.inl ())))) : Option ((Int) ⊕ ((Unit) ⊕ (Int))))) (0:Int)).bind fun (e5 : (Unit) ⊕ (Int)) => (match e5 with | .inl _ => (some (0:Int)) | .inr p25 => (some p25))
theorem Qa6 {l_ : (List Qq)} {r : Int} (h : Qae l_ = some r) : FnOk Tryz.prog 66 [tsl QL l_] [] (fun _ => []) (fun _ => ti r) := by
 unfold Qae at h
 refine fe Tryz.func66 Tryz.ntmps66 fun M0 M w0 a hpl H => ?_
 replace H : St M w0 16 [(0,tsl QL l_)] [] a w0 := H
 refine sr mx [] H (fun _ => .o (Qa .k)<|.n) fun _ a w H => ?_
 have H := H.to [1] [_] [] rfl rfl
 refine wp_seq_k (fun K2 k2 => ?_)
 refine sr mx [] H (fun _ => .q 0 rfl<|.o (QN Qgk z0)<|.o (Qw .k)<|.n) fun _ a w H => ?_
 have H := H.to [0,1,2] [_,_,_] [] rfl rfl
 have ⟨e5,he5,h⟩ := bs h
 have hJp24 : ∀ (p24 : Unit) a w,(.inl p24) = e5 → St M w0 16 [] [] a w → K2 a w := by
  intro p24 a w he H
  subst he
  simp only at h
  refine k2 _ _ ?_
  refine sr mx [] H (fun _ => .o (Qa .k)<|.n) fun _ a w H => ?_
  have H := H.to [0] [_] [] rfl rfl
  refine wp_ret ?_
  obtain rfl := sj h
  exact rt undef [] hpl H (.tmp z0 .nil)
 have hJp25 : ∀ (p25 : Int) a w,(.inr p25) = e5 → St M w0 16 [(2,ti p25)] [] a w → Ret Tryz.prog Tryz.f66 M0 [] w0 (fun _ => []) (fun _ => ti r) .ret a w := by
  intro p25 a w he H
  subst he
  simp only at h
  obtain rfl := sj h
  exact rt undef [] hpl H (.tmp z0 .nil)
 refine wp_block ?_
 refine QZ _ (fun (s4 : Int) a w => St M w0 16 [(5,tsl QL l_),(6,ti (l_.length : Int)),(7,ti s4)] [] a w) _ _ he5 (H.pick [0,1,2]) ?_
 clear h
 intro s4 o a w K27 hI h ho k27
 have H := hI
 clear hI
 refine sr mx [] H (fun _ => .o (QU z2 z1)<|.n) fun _ a w H => ?_
 have H := H.to [0,1,2,3] [_,_,_,_] [] rfl rfl
 refine wp_seq_k (fun _ k29 => ?_)
 refine wi H h (fun b36 h => ?_) (fun b36 h => ?_)
 ·refine wp_skip (k29 _ _ ?_)
  refine wp_seq_k (fun _ k30 => ?_)
  refine wp_block ?_
  have ⟨t9,ht9,h⟩ := bs h
  refine sr mx [v1 2 (fun v0 => box (QL.cs (Qq.mk false (0:Int))) v0),v1 2 (fun v0 => box (QL.cs t9) v0)] H (fun _ => .o (QG Qgk Qd6 z1 z3 ht9)<|.o (Qr Qd6 z0)<|.m [] [0] rfl rfl rfl (Q1 (R := QL) (a := (Qq.mk false (0:Int))) Qd6 zok125)<|.e [] [0] [1] rfl rfl rfl rfl (QR (R := QL) (a := t9) Qd6 z0 z1 (leb rfl))<|.n) fun _ a w H => ?_
  replace H : St _ _ _ [_,_,_,_] [] _ _ := (((H.pick [2,4,5,6]).shareB 0 rfl).add 0 rfl (fun _ _ _ h => h.2)).pick [0,3,4,5]
  refine sr mx [] H (fun _ => .o (Qe QtX z0)<|.o (Qf (u := (t9).is) tok4 z0 rfl)<|.n) fun _ a w H => ?_
  have H := H.to [1,2,3,4,5] [_,_,_,_,_] [] rfl rfl
  refine wi H h (fun b35 h => ?_) (fun b35 h => ?_)
  ·refine sr mx [] H (fun _ => .o (Qe QtY z1)<|.o (Qf (u := (t9).code) Qps z0 rfl)<|.o (Qa z0)<|.n) fun _ a w H => ?_
   have H := H.to [2] [_] [] rfl rfl
   refine wp_ret ?_
   exact hJp25 _ _ _ (ho _ (sj h).symm) (H.pick [0])
  refine wp_skip (k30 _ _ ?_)
  refine wr mx [] H (fun _ => .o (QV z4 .k)<|.q 0 rfl<|.n) fun _ a w H => ?_
  have H := H.to [1,4,5] [_,_,_] [] rfl rfl
  exact k27 _ _ _ (sj h).symm (H.pick [1,2,0])
 refine wp_exit ?_
 exact hJp24 _ _ _ (ho _ (sj h).symm) (H.pick [])

/- diorama/typing.Kind$1 -/
noncomputable def QdZ (k_ : Qi) (c0_ : Str) : Option (Bool) := (some ((k_).Name == c0_))
theorem QmS {k_ : Qi} {c0_ : Str} {r : Bool} (h : QdZ k_ c0_ = some r) : FnOk Tryz.prog 74 [Qk.ty k_,tptr (rS.cs c0_)] [] (fun _ => []) (fun _ => tb r) := by
 unfold QdZ at h
 refine fe Tryz.func74 Tryz.ntmps74 fun M0 M w0 a hpl H => ?_
 replace H : St M w0 8 [(0,Qk.ty k_),(1,tptr (rS.cs c0_))] [] a w0 := H
 refine sr mx [] H (fun _ => .o (QT (R := Qk) (u := k_) z0)<|.o (Qa .k)<|.n) fun _ a w H => ?_
 have H := H.to [0,3] [_,_] [] rfl rfl
 refine sr mx [] H (fun _ => .o (Qe QcY z0)<|.o (Qf (u := (k_).Name) tok9 z0 rfl)<|.o (Qr tok9 z3)<|.o (QcX z1 z0)<|.o (Qa z0)<|.n) fun _ a w H => ?_
 have H := H.to [4] [_] [] rfl rfl
 refine wp_ret ?_
 obtain rfl := sj h
 exact rt undef [] hpl H (.tmp z0 .nil)

/- diorama/typing.Kind -/
noncomputable def Qby (x_ : Qg) (name_ : Str) : Option (Int) := (QaO (x_).Kinds (fun x0 => QdZ x0 name_)).bind fun t8 => (some t8)
theorem Qd0 {x_ : Qg} {name_ : Str} {r : Int} (h : Qby x_ name_ = some r) : FnOk Tryz.prog 38 [Qm.ty x_,tv (.string (sB name_))] [] (fun _ => []) (fun _ => ti r) := by
 unfold Qby at h
 refine fe Tryz.func38 Tryz.ntmps38 fun M0 M w0 a hpl H => ?_
 replace H : St M w0 9 [(0,Qm.ty x_),(1,tv (.string (sB name_)))] [] a w0 := H
 refine sr mx [] H (fun _ => .o (QT (R := Qm) (u := x_) z0)<|.o (QT (R := rS) (u := name_) z2)<|.o (Qa .k)<|.n) fun _ a w H => ?_
 have H := H.to [0,1] [_,_] [] rfl rfl
 have ⟨t8,ht8,h⟩ := bs h
 refine sr mx [] H (fun _ => .o (Qe QaJ z0)<|.o (Qf (u := (x_).Kinds) Qdp z0 rfl)<|.o (QdK (.cons z3<|.nil))<|.o (Qh QsB (QfW ht8) (.cons (.of z1)<|.cons (.of (Fct.weak z0 (Qb1 call74 (fun _ _ hq => QmS hq))))<|.nil))<|.o (Qa z0)<|.n) fun _ a w H => ?_
 have H := H.to [4] [_] [] rfl rfl
 refine wp_ret ?_
 obtain rfl := sj h
 exact rt undef [] hpl H (.tmp z0 .nil)

/- diorama/typing.kind -/
noncomputable def Qea (x_ : Qg) (i_ : Int) : Option (Int) := (idx (x_).Kinds i_).bind fun t9 => (Qby x_ (t9).Name).bind fun t14 => (opt ((((t9).Fields.length : Int) == (0:Int)) == false) (idx (t9).Fields (0:Int)) default).bind fun t25 => (Qae [(Qq.mk (decide (t14 < i_)) (7:Int)),(Qq.mk ((((t9).Fields.length : Int) == (0:Int)) || ((t25).Kind != (0:Int))) (11:Int))]).bind fun t32 => (some t32)
theorem Qod {x_ : Qg} {i_ : Int} {r : Int} (h : Qea x_ i_ = some r) : FnOk Tryz.prog 67 [Qm.ty x_,ti i_] [] (fun _ => []) (fun _ => ti r) := by
 unfold Qea at h
 refine fe Tryz.func67 Tryz.ntmps67 fun M0 M w0 a hpl H => ?_
 replace H : St M w0 33 [(0,Qm.ty x_),(1,ti i_)] [] a w0 := H
 refine sr mx [] H (fun _ => .o (QT (R := Qm) (u := x_) z0)<|.o (Qa .k)<|.n) fun _ a w H => ?_
 have H := H.to [0,3] [_,_] [] rfl rfl
 have ⟨t9,ht9,h⟩ := bs h
 refine sr mx [v1 5 (fun v0 => box (Qk.cs zz1) v0),v1 5 (fun v0 => box (Qk.cs t9) v0)] H (fun _ => .o (Qe QaJ z0)<|.o (Qf (u := (x_).Kinds) Qdp z0 rfl)<|.q 3 rfl<|.o (QG ud23 Q7 z1 z0 ht9)<|.o (Qr Q7 z0)<|.m [] [0] rfl rfl rfl (Q1 (R := Qk) (a := zz1) Q7 QiY)<|.e [] [0] [1] rfl rfl rfl rfl (QR (R := Qk) (a := t9) Q7 z0 z1 (leb rfl))<|.n) fun _ a w H => ?_
 replace H : St _ _ _ [_,_,_] [] _ _ := (((H.pick [5,6,7]).shareB 0 rfl).add 0 rfl (fun _ _ _ h => h.2)).pick [0,3,4]
 have ⟨t14,ht14,h⟩ := bs h
 have ⟨t25,ht25,h⟩ := bs h
 have ⟨t32,ht32,h⟩ := bs h
 refine sr mx [] H (fun _ => .o (Qr QaR z1)<|.o (Qe QcY z1)<|.o (Qf (u := (t9).Name) tok9 z0 rfl)<|.o (Qh Qkc (Qd0 ht14) (.cons (.of z2)<|.cons (.of z0)<|.nil))<|.q 6 rfl<|.o (QU z1 z0)<|.p (T := QL.ty (Qq.mk (decide (t14 < i_)) (7:Int))) rfl (QX Qek Qej Qei QdP (.cons (R := Qa5) (u := (decide (t14 < i_))) rfl z0 (leb rfl)<|.cons (R := rI) (u := (7:Int)) rfl .k (leb rfl)<|.nil _))<|.o (Qe Qap z7)<|.o (Qf (u := (t9).Fields) Qc8 z0 rfl)<|.o (QN ud53 z0)<|.o (Q4 z0 .k)<|.q 0 rfl<|.g rfl rfl bq0 (fun _ => Qe Qap z12)<|.g rfl rfl bq1 (fun hc => Qf (u := (t9).Fields) Qc8 (.cond z0 hc) rfl)<|.g rfl rfl bq2 (fun hc => QG ud53 QS (.cond z0 hc) .k (Q9 ht25 hc))<|.g rfl rfl bq3 (fun hc => Qe QaX (.cond z0 hc))<|.g rfl rfl bq4 (fun hc => Qf (u := (t25).Kind) tok3 (.cond z0 hc) rfl)<|.g rfl rfl bq5 (fun hc => Qam (.cond z0 hc) .k)<|.o (Qao z6 (fun hp => (.cond z0 (beqF hp))))<|.p (T := QL.ty (Qq.mk ((((t9).Fields.length : Int) == (0:Int)) || ((t25).Kind != (0:Int))) (11:Int))) rfl (QX Qek Qej Qei QdP (.cons (R := Qa5) (u := ((((t9).Fields.length : Int) == (0:Int)) || ((t25).Kind != (0:Int)))) rfl z0 (leb rfl)<|.cons (R := rI) (u := (11:Int)) rfl .k (leb rfl)<|.nil _))<|.o (QE (R := QL) (us := [(Qq.mk (decide (t14 < i_)) (7:Int)),(Qq.mk ((((t9).Fields.length : Int) == (0:Int)) || ((t25).Kind != (0:Int))) (11:Int))]) Qgk Qd6 (.cons z13<|.cons z0<|.nil _) rfl (leb rfl))<|.o (Qh QfV (Qa6 ht32) (.cons (.of z0)<|.nil))<|.o (Qa z0)<|.n) fun _ a w H => ?_
 have H := H.to [22] [_] [] rfl rfl
 refine wp_ret ?_
 obtain rfl := sj h
 exact rt undef [] hpl H (.tmp z0 .nil)

/- diorama/typing.Field$1 -/
noncomputable def Qdr (f_ : Qc) (c0_ : Str) : Option (Bool) := (some ((f_).Name == c0_))
theorem Qms {f_ : Qc} {c0_ : Str} {r : Bool} (h : Qdr f_ c0_ = some r) : FnOk Tryz.prog 107 [Qd.ty f_,tptr (rS.cs c0_)] [] (fun _ => []) (fun _ => tb r) := by
 unfold Qdr at h
 refine fe Tryz.func107 Tryz.ntmps107 fun M0 M w0 a hpl H => ?_
 replace H : St M w0 8 [(0,Qd.ty f_),(1,tptr (rS.cs c0_))] [] a w0 := H
 refine sr mx [] H (fun _ => .o (QT (R := Qd) (u := f_) z0)<|.o (Qa .k)<|.n) fun _ a w H => ?_
 have H := H.to [0,3] [_,_] [] rfl rfl
 refine sr mx [] H (fun _ => .o (Qe Qce z0)<|.o (Qf (u := (f_).Name) tok9 z0 rfl)<|.o (Qr tok9 z3)<|.o (QcX z1 z0)<|.o (Qa z0)<|.n) fun _ a w H => ?_
 have H := H.to [4] [_] [] rfl rfl
 refine wp_ret ?_
 obtain rfl := sj h
 exact rt undef [] hpl H (.tmp z0 .nil)

/- diorama/typing.Field -/
noncomputable def Qbo (k_ : Qi) (name_ : Str) : Option (Int) := (QaI (k_).Fields (fun x0 => Qdr x0 name_)).bind fun t8 => (some t8)
theorem Qez {k_ : Qi} {name_ : Str} {r : Int} (h : Qbo k_ name_ = some r) : FnOk Tryz.prog 68 [Qk.ty k_,tv (.string (sB name_))] [] (fun _ => []) (fun _ => ti r) := by
 unfold Qbo at h
 refine fe Tryz.func68 Tryz.ntmps68 fun M0 M w0 a hpl H => ?_
 replace H : St M w0 9 [(0,Qk.ty k_),(1,tv (.string (sB name_)))] [] a w0 := H
 refine sr mx [] H (fun _ => .o (QT (R := Qk) (u := k_) z0)<|.o (QT (R := rS) (u := name_) z2)<|.o (Qa .k)<|.n) fun _ a w H => ?_
 have H := H.to [0,1] [_,_] [] rfl rfl
 have ⟨t8,ht8,h⟩ := bs h
 refine sr mx [] H (fun _ => .o (Qe Qap z0)<|.o (Qf (u := (k_).Fields) Qc8 z0 rfl)<|.o (QdK (.cons z3<|.nil))<|.o (Qh Qq2 (QfP ht8) (.cons (.of z1)<|.cons (.of (Fct.weak z0 (Qb1 Qu6 (fun _ _ hq => Qms hq))))<|.nil))<|.o (Qa z0)<|.n) fun _ a w H => ?_
 have H := H.to [4] [_] [] rfl rfl
 refine wp_ret ?_
 obtain rfl := sj h
 exact rt undef [] hpl H (.tmp z0 .nil)

/- diorama/typing.rule$1 -/
noncomputable def Qd1 (s_ : Qo) (c0_ : Qo) : Option (Bool) := (some ((s_).Name == (c0_).Name))
theorem QmT {s_ : Qo} {c0_ : Qo} {r : Bool} (h : Qd1 s_ c0_ = some r) : FnOk Tryz.prog 109 [QC.ty s_,tptr (QC.cs c0_)] [] (fun _ => []) (fun _ => tb r) := by
 unfold Qd1 at h
 refine fe Tryz.func109 Tryz.ntmps109 fun M0 M w0 a hpl H => ?_
 replace H : St M w0 9 [(0,QC.ty s_),(1,tptr (QC.cs c0_))] [] a w0 := H
 refine sr mx [] H (fun _ => .o (QT (R := QC) (u := s_) z0)<|.o (Qa .k)<|.n) fun _ a w H => ?_
 have H := H.to [0,3] [_,_] [] rfl rfl
 refine sr mx [] H (fun _ => .o (Qe Ql9 z0)<|.o (Qf (u := (s_).Name) tok9 z0 rfl)<|.o (Qe Ql9 z3)<|.o (Qf (u := (c0_).Name) tok9 z0 rfl)<|.o (QcX z2 z0)<|.o (Qa z0)<|.n) fun _ a w H => ?_
 have H := H.to [5] [_] [] rfl rfl
 refine wp_ret ?_
 obtain rfl := sj h
 exact rt undef [] hpl H (.tmp z0 .nil)

/- diorama/typing.at -/
noncomputable def Qcn (x_ : Qg) (kind_ : Int) (field_ : Int) : Option (Qc × Bool) := (opt ((((decide (kind_ < (0:Int))) || (decide (kind_ ≥ ((x_).Kinds.length : Int)))) || (decide (field_ < (0:Int)))) == false) (idx (x_).Kinds kind_) default).bind fun t26 => (if ((((decide (kind_ < (0:Int))) || (decide (kind_ ≥ ((x_).Kinds.length : Int)))) || (decide (field_ < (0:Int)))) || (decide (field_ ≥ ((t26).Fields.length : Int)))) = true then (some (zz0,false)) else (idx (x_).Kinds kind_).bind fun t36 => (idx (t36).Fields field_).bind fun t40 => (some (t40,true)))
theorem QfX {x_ : Qg} {kind_ : Int} {field_ : Int} {r : Qc × Bool} (h : Qcn x_ kind_ field_ = some r) : FnOk Tryz.prog 110 [Qm.ty x_,ti kind_,ti field_] [] (fun _ => []) (fun _ => ttup [Qd.ty r.1,tb r.2]) := by
 unfold Qcn at h
 refine fe Tryz.func110 Tryz.ntmps110 fun M0 M w0 a hpl H => ?_
 replace H : St M w0 42 [(0,Qm.ty x_),(1,ti kind_),(2,ti field_)] [] a w0 := H
 refine sr mx [v1 1 (fun v0 => box (Qd.cs zz0) v0)] H (fun _ => .o (QT (R := Qm) (u := x_) z0)<|.m [] [0] rfl rfl rfl (Q1 (R := Qd) (a := zz0) QS Qeh)<|.o (Qa .k)<|.n) fun n0 a w H => ?_
 have H := H.to [0,1,4,5] [_,_,_,_] [_] rfl rfl
 refine wp_seq_k (fun _ k3 => ?_)
 have ⟨t26,ht26,h⟩ := bs h
 refine sr mx [] H (fun _ => .q 2 rfl<|.o (QU z0 .k)<|.q 0 rfl<|.g rfl rfl bq0 (fun _ => Qw z5)<|.g rfl rfl bq1 (fun _ => Qe QaJ z4)<|.g rfl rfl bq2 (fun hc => Qf (u := (x_).Kinds) Qdp (.cond z0 hc) rfl)<|.g rfl rfl bq3 (fun hc => QN ud23 (.cond z0 hc))<|.g rfl rfl bq4 (fun hc => QaY (.cond z3 hc) (.cond z0 hc))<|.o (Qao z5 (fun hp => (.cond z0 (beqF hp))))<|.q 0 rfl<|.g rfl rfl bq0 (fun _ => Qw z13)<|.g rfl rfl bq1 (fun hc => QU (.cond z0 hc) .k)<|.o (Qao z2 (fun hp => (.cond z0 (beqF hp))))<|.q 0 rfl<|.g rfl rfl bq0 (fun _ => Qw z17)<|.g rfl rfl bq1 (fun _ => Qe QaJ z15)<|.g rfl rfl bq2 (fun hc => Qf (u := (x_).Kinds) Qdp (.cond z0 hc) rfl)<|.g rfl rfl bq3 (fun _ => Qw z19)<|.g rfl rfl bq4 (fun hc => QG ud23 Q7 (.cond z1 hc) (.cond z0 hc) (Q9 ht26 hc))<|.g rfl rfl bq5 (fun hc => Qe Qap (.cond z0 hc))<|.g rfl rfl bq6 (fun hc => Qf (u := (t26).Fields) Qc8 (.cond z0 hc) rfl)<|.g rfl rfl bq7 (fun hc => QN ud53 (.cond z0 hc))<|.g rfl rfl bq8 (fun hc => QaY (.cond z7 hc) (.cond z0 hc))<|.o (Qao z9 (fun hp => (.cond z0 (beqF hp))))<|.n) fun _ a w H => ?_
 have H := H.to [23,24,25,26,27] [_,_,_,_,_] [_] rfl rfl
 refine wi H h (fun b7 h => ?_) (fun b7 h => ?_)
 ·refine sr mx [v0 (box (Qd.cs zz0) (n0 1))] H (fun _ => .p (T := Qd.ty zz0) rfl (QX ud61 pl61 zv61 zc61 (.nil _))<|.e [] [0] [1] rfl rfl rfl rfl (QR (R := Qd) (a := zz0) QS z3 z0 (leb rfl))<|.o (Qa .k)<|.n) fun _ a w H => ?_
  have H := H.to [1,4] [_,_] [_] rfl rfl
  refine wp_ret ?_
  obtain rfl := sj h
  exact rt undef [] hpl H (.cell (R := Qd) (u := zz0) QS z1 0 rfl rfl (.tmp z0 .nil))
 refine wp_skip (k3 _ _ ?_)
 have ⟨t36,ht36,h⟩ := bs h
 have ⟨t40,ht40,h⟩ := bs h
 refine sr mx [v0 (box (Qd.cs t40) (n0 1))] H (fun _ => .o (Qe QaJ z1)<|.o (Qf (u := (x_).Kinds) Qdp z0 rfl)<|.q 5 rfl<|.o (QG ud23 Q7 z1 z0 ht36)<|.o (Qe Qap z0)<|.o (Qf (u := (t36).Fields) Qc8 z0 rfl)<|.q 10 rfl<|.o (QG ud53 QS z1 z0 ht40)<|.o (Qr QS z0)<|.e [] [0] [1] rfl rfl rfl rfl (QR (R := Qd) (a := t40) QS z11 z0 (leb rfl))<|.o (Qa .k)<|.n) fun _ a w H => ?_
 have H := H.to [9,12] [_,_] [_] rfl rfl
 refine wp_ret ?_
 obtain rfl := sj h
 exact rt undef [] hpl H (.cell (R := Qd) (u := t40) QS z1 0 rfl rfl (.tmp z0 .nil))

/- diorama/typing.rule -/
noncomputable def Qeb (x_ : Qg) (i_ : Int) : Option (Int) := (idx (x_).Rules i_).bind fun t17 => (sub (x_).Rules (0:Int) i_).bind fun t22 => (Qaw t22 (fun x0 => Qd1 x0 t17)).bind fun t24 => (Qby x_ (t17).Kind).bind fun t28 => (QI (fun (s9 : Int × Bool × Bool) => ((if (decide (s9.1 < ([(t17).A,(t17).B].length : Int))) = true then ((idx [(t17).A,(t17).B] s9.1).bind fun t39 => (if ((t39 == ([] : Str)) || (decide (t28 < (0:Int)))) = true then (some (s9.2.1,s9.2.2)) else (idx (x_).Kinds t28).bind fun t53 => (Qbo t53 t39).bind fun t56 => (Qcn x_ t28 t56).bind fun t57 => (some ((s9.2.1 || (!t57.2)),(s9.2.2 || (((t57.1).Kind != (2:Int)) && ((t57.1).Kind != (4:Int)))))))).bind fun (p55 : Bool × Bool) => (some (.inl ((IntKind.i64.wrap (s9.1 + (1:Int))),p55.1,p55.2))) else (some (.inr (s9.2.1,s9.2.2)))) : Option ((Int × Bool × Bool) ⊕ ((Bool × Bool))))) ((0:Int),(decide (t28 < (0:Int))),false)).bind fun (p49 : (Bool × Bool)) => (Qae [(Qq.mk t24 (7:Int)),(Qq.mk p49.1 (12:Int)),(Qq.mk p49.2 (13:Int)),(Qq.mk ((t17).A == (t17).B) (1:Int))]).bind fun t90 => (some t90)
theorem Qoe {x_ : Qg} {i_ : Int} {r : Int} (h : Qeb x_ i_ = some r) : FnOk Tryz.prog 69 [Qm.ty x_,ti i_] [] (fun _ => []) (fun _ => ti r) := by
 unfold Qeb at h
 refine fe Tryz.func69 Tryz.ntmps69 fun M0 M w0 a hpl H => ?_
 replace H : St M w0 91 [(0,Qm.ty x_),(1,ti i_)] [] a w0 := H
 refine sr mx [] H (fun _ => .o (QT (R := Qm) (u := x_) z0)<|.o (Qa .k)<|.n) fun _ a w H => ?_
 have H := H.to [0,3] [_,_] [] rfl rfl
 have ⟨t17,ht17,h⟩ := bs h
 refine sr mx [v1 5 (fun v0 => box (QC.cs zz3) v0),v1 5 (fun v0 => box (QC.cs t17) v0)] H (fun _ => .o (Qe Qgf z0)<|.o (Qf (u := (x_).Rules) QkN z0 rfl)<|.q 3 rfl<|.o (QG ud25 Qcb z1 z0 ht17)<|.o (Qr Qcb z0)<|.m [] [0] rfl rfl rfl (Q1 (R := QC) (a := zz3) Qcb Qpq)<|.e [] [0] [1] rfl rfl rfl rfl (QR (R := QC) (a := t17) Qcb z0 z1 (leb rfl))<|.n) fun _ a w H => ?_
 replace H : St _ _ _ [_,_,_] [] _ _ := (((H.pick [5,6,7]).shareB 0 rfl).add 0 rfl (fun _ _ _ h => h.2)).pick [0,3,4]
 have ⟨t22,ht22,h⟩ := bs h
 have ⟨t24,ht24,h⟩ := bs h
 refine sr mx [] H (fun _ => .o (Qe Qgf z1)<|.o (Qf (u := (x_).Rules) QkN z0 rfl)<|.q 4 rfl<|.o (QgU ud25 Qcb z1 (.no _) (.op z0) ht22)<|.o (QdK (.cons z4<|.nil))<|.o (Qh Qq3 (Qe5 ht24) (.cons (.of z1)<|.cons (.of (Fct.weak z0 (Qb1 Qu7 (fun _ _ hq => QmT hq))))<|.nil))<|.o (Qa z0)<|.n) fun _ a w H => ?_
 have H := H.to [6,7,8] [_,_,_] [] rfl rfl
 have ⟨t28,ht28,h⟩ := bs h
 refine sr mx [] H (fun _ => .o (Qr QaR z2)<|.o (Qe Qn9 z2)<|.o (Qf (u := (t17).Kind) tok9 z0 rfl)<|.o (Qh Qkc (Qd0 ht28) (.cons (.of z2)<|.cons (.of z0)<|.nil))<|.o (Qa z0)<|.n) fun _ a w H => ?_
 have H := H.to [4,5,6,7] [_,_,_,_] [] rfl rfl
 refine sr mx [] H (fun _ => .q 0 rfl<|.o (QU z0 .k)<|.o (Qa z0)<|.o (Qa .k)<|.n) fun _ a w H => ?_
 have H := H.to [2,3,4,5,6,7] [_,_,_,_,_,_] [] rfl rfl
 refine wp_seq_k (fun K7 k7 => ?_)
 refine sr mx [] H (fun _ => .o (Qe Qje z4)<|.o (Qf (u := (t17).A) tok9 z0 rfl)<|.o (Qe Qjf z6)<|.o (Qf (u := (t17).B) tok9 z0 rfl)<|.o (QE (R := rS) (us := [(t17).A,(t17).B]) ud32 tok9 (.cons z2<|.cons z0<|.nil _) rfl (leb rfl))<|.o (QN ud32 z0)<|.o (Qw .k)<|.n) fun _ a w H => ?_
 have H := H.to [4,5,6,7,8,9,10,11,12] [_,_,_,_,_,_,_,_,_] [] rfl rfl
 have ⟨e10,he10,h⟩ := bs h
 have hJp49 : ∀ (p49 : Bool × Bool) a w,p49 = e10 → St M w0 91 [(8,tb p49.1),(9,tb p49.2),(6,tb t24),(5,tptr (QC.cs t17))] [] a w → K7 a w := by
  intro p49 a w he H
  subst he
  refine k7 _ _ ?_
  have ⟨t90,ht90,h⟩ := bs h
  refine sr mx [] H (fun _ => .q 2 rfl<|.p (T := QL.ty (Qq.mk t24 (7:Int))) rfl (QX Qek Qej Qei QdP (.cons (R := Qa5) (u := t24) rfl z0 (leb rfl)<|.cons (R := rI) (u := (7:Int)) rfl .k (leb rfl)<|.nil _))<|.q 2 rfl<|.p (T := QL.ty (Qq.mk p49.1 (12:Int))) rfl (QX Qek Qej Qei QdP (.cons (R := Qa5) (u := p49.1) rfl z0 (leb rfl)<|.cons (R := rI) (u := (12:Int)) rfl .k (leb rfl)<|.nil _))<|.q 5 rfl<|.p (T := QL.ty (Qq.mk p49.2 (13:Int))) rfl (QX Qek Qej Qei QdP (.cons (R := Qa5) (u := p49.2) rfl z0 (leb rfl)<|.cons (R := rI) (u := (13:Int)) rfl .k (leb rfl)<|.nil _))<|.o (Qe Qje z9)<|.o (Qf (u := (t17).A) tok9 z0 rfl)<|.o (Qe Qjf z11)<|.o (Qf (u := (t17).B) tok9 z0 rfl)<|.o (QcX z2 z0)<|.p (T := QL.ty (Qq.mk ((t17).A == (t17).B) (1:Int))) rfl (QX Qek Qej Qei QdP (.cons (R := Qa5) (u := ((t17).A == (t17).B)) rfl z0 (leb rfl)<|.cons (R := rI) (u := (1:Int)) rfl .k (leb rfl)<|.nil _))<|.o (QE (R := QL) (us := [(Qq.mk t24 (7:Int)),(Qq.mk p49.1 (12:Int)),(Qq.mk p49.2 (13:Int)),(Qq.mk ((t17).A == (t17).B) (1:Int))]) Qgk Qd6 (.cons z10<|.cons z8<|.cons z6<|.cons z0<|.nil _) rfl (leb rfl))<|.o (Qh QfV (Qa6 ht90) (.cons (.of z0)<|.nil))<|.o (Qa z0)<|.n) fun _ a w H => ?_
  have H := H.to [14] [_] [] rfl rfl
  refine wp_ret ?_
  obtain rfl := sj h
  exact rt undef [] hpl H (.tmp z0 .nil)
 refine wp_block ?_
 refine QZ _ (fun (s9 : Int × Bool × Bool) a w => St M w0 91 [(35,tsl rS [(t17).A,(t17).B]),(36,ti ([(t17).A,(t17).B].length : Int)),(37,ti s9.1),(8,tb s9.2.1),(9,tb s9.2.2),(7,ti t28),(6,tb t24),(5,tptr (QC.cs t17)),(2,tptr (Qm.cs x_))] [] a w) _ _ he10 (H.pick [0,1,2,3,4,5,6,7,8]) ?_
 clear h
 intro s9 o a w K51 hI h ho k51
 have H := hI
 clear hI
 refine sr mx [] H (fun _ => .o (QU z2 z1)<|.n) fun _ a w H => ?_
 have H := H.to [0,1,2,3,4,5,6,7,8,9] [_,_,_,_,_,_,_,_,_,_] [] rfl rfl
 refine wp_seq_k (fun _ k53 => ?_)
 refine wi H h (fun b70 h => ?_) (fun b70 h => ?_)
 ·refine wp_skip (k53 _ _ ?_)
  refine wp_seq_k (fun K54 k54 => ?_)
  have ⟨p55,hp55,h⟩ := bs h
  have hJp55 : ∀ a w,St M w0 91 [(35,tsl rS [(t17).A,(t17).B]),(36,ti ([(t17).A,(t17).B].length : Int)),(37,ti s9.1),(8,tb p55.1),(9,tb p55.2),(7,ti t28),(6,tb t24),(5,tptr (QC.cs t17)),(2,tptr (Qm.cs x_))] [] a w → K54 a w := by
   intro a w H
   refine k54 _ _ ?_
   refine wr mx [] H (fun _ => .o (QV z2 .k)<|.q 0 rfl<|.n) fun _ a w H => ?_
   have H := H.to [1,2,3,4,5,6,7,8,9] [_,_,_,_,_,_,_,_,_] [] rfl rfl
   exact k51 _ _ _ (sj h).symm (H.pick [1,2,0,3,4,5,6,7,8])
  replace h := hp55
  clear hp55
  refine wp_block ?_
  have ⟨t39,ht39,h⟩ := bs h
  refine sr mx [] H (fun _ => .o (QG ud32 tok9 z1 z3 ht39)<|.o (Qr tok9 z0)<|.o (Qa z0)<|.n) fun _ a w H => ?_
  have H := H.to [2,4,5,6,7,8,9,10,11,12] [_,_,_,_,_,_,_,_,_,_] [] rfl rfl
  refine wp_seq_k (fun _ k64 => ?_)
  refine sr mx [] H (fun _ => .q 0 rfl<|.o (QcX z0 .k)<|.q 0 rfl<|.g rfl rfl bq0 (fun _ => Qw z9)<|.g rfl rfl bq1 (fun hc => QU (.cond z0 hc) .k)<|.o (Qao z2 (fun hp => (.cond z0 (beqF hp))))<|.n) fun _ a w H => ?_
  have H := H.to [5,6,7,8,9,10,11,12,13,14,15] [_,_,_,_,_,_,_,_,_,_,_] [] rfl rfl
  refine wi H h (fun b69 h => ?_) (fun b69 h => ?_)
  ·refine wp_exit ?_
   obtain rfl := sj h
   exact hJp55 _ _ (H.pick [2,3,4,5,6,7,8,9,10])
  refine wp_skip (k64 _ _ ?_)
  have ⟨t53,ht53,h⟩ := bs h
  have ⟨t56,ht56,h⟩ := bs h
  have ⟨t57,ht57,h⟩ := bs h
  refine sr mx [v1 13 (fun v0 => box (Qd.cs zz0) v0),v1 13 (fun v0 => box (Qd.cs t57.1) v0)] H (fun _ => .o (Qr QaR z10)<|.q 8 rfl<|.o (Qe QaJ z12)<|.o (Qf (u := (x_).Kinds) Qdp z0 rfl)<|.q 11 rfl<|.o (QG ud23 Q7 z1 z0 ht53)<|.o (Qr Q7 z0)<|.q 8 rfl<|.o (Qh Qls (Qez ht56) (.cons (.of z1)<|.cons (.of z0)<|.nil))<|.o (Qh Qkd (QfX ht57) (.cons (.of z8)<|.cons (.of z7)<|.cons (.of z0)<|.nil))<|.q 0 rfl<|.o (QM z0 rfl)<|.o (QM z1 rfl)<|.m [] [0] rfl rfl rfl (Q1 (R := Qd) (a := zz0) QS Qeh)<|.e [] [0] [1] rfl rfl rfl rfl (QR (R := Qd) (a := t57.1) QS z0 z2 (leb rfl))<|.o (Qa z1)<|.n) fun _ a w H => ?_
  replace H : St _ _ _ [_,_,_,_,_,_,_,_,_,_,_] [] _ _ := (((H.pick [13,14,17,18,19,20,21,22,23,24,25]).shareB 0 rfl).add 0 rfl (fun _ _ _ h => h.2)).pick [0,3,4,5,6,7,8,9,10,11,12]
  refine sr mx [] H (fun _ => .q 5 rfl<|.q 0 rfl<|.g rfl rfl bq0 (fun _ => Qw z3)<|.g rfl rfl bq1 (fun hc => Qar (.cond z0 hc))<|.o (Qao z2 (fun hp => (.cond z0 (beqF hp))))<|.o (Qa z0)<|.n) fun _ a w H => ?_
  have H := H.to [5,6,8,9,10,11,12,13,14,15] [_,_,_,_,_,_,_,_,_,_] [] rfl rfl
  refine wr mx [] H (fun _ => .q 5 rfl<|.q 0 rfl<|.g rfl rfl bq0 (fun _ => Qe QaX z3)<|.g rfl rfl bq1 (fun hc => Qf (u := (t57.1).Kind) tok3 (.cond z0 hc) rfl)<|.g rfl rfl bq2 (fun hc => Qam (.cond z0 hc) .k)<|.g rfl rfl bq3 (fun hc => Qw (.cond z0 hc))<|.g rfl rfl (.c 0 rfl) (fun _ => Qe QaX z7)<|.g rfl rfl (.c 1 rfl) (fun hc => Qf (u := (t57.1).Kind) tok3 (.cond z0 hc) rfl)<|.g rfl rfl (.c 2 rfl) (fun hc => Qam (.cond z0 hc) .k)<|.g rfl rfl bq7 (fun hc => QY (.cond z3 hc) (fun hp => (.cond z0 (Qga hc (beqT hp)))))<|.o (Qao z8 (fun hp => (.cond z0 (beqF hp))))<|.o (Qa z0)<|.n) fun _ a w H => ?_
  have H := H.to [11,12,14,15,16,17,18,19,20] [_,_,_,_,_,_,_,_,_] [] rfl rfl
  obtain rfl := sj h
  exact hJp55 _ _ (H.pick [2,3,4,1,0,5,6,7,8])
 refine wp_exit ?_
 exact hJp49 _ _ _ (ho _ (sj h).symm) (H.pick [4,5,7,8])

/- diorama/typing.checks$1 -/
noncomputable def QbP (s_ : QH) : Option (Int) := (Qae [(Qq.mk (decide ((s_).field > (0:Int))) (13:Int))]).bind fun t8 => (some t8)
theorem Qlz {s_ : QH} {r : Int} (h : QbP s_ = some r) : FnOk Tryz.prog 207 [QW.ty s_] [] (fun _ => []) (fun _ => ti r) := by
 unfold QbP at h
 refine fe Tryz.func207 Tryz.ntmps207 fun M0 M w0 a hpl H => ?_
 replace H : St M w0 9 [(0,QW.ty s_)] [] a w0 := H
 refine sr mx [] H (fun _ => .o (QT (R := QW) (u := s_) z0)<|.o (Qa .k)<|.n) fun _ a w H => ?_
 have H := H.to [0] [_] [] rfl rfl
 have ⟨t8,ht8,h⟩ := bs h
 refine sr mx [] H (fun _ => .o (Qe QkP z0)<|.o (Qf (u := (s_).field) tok3 z0 rfl)<|.o (Qcf z0 .k)<|.p (T := QL.ty (Qq.mk (decide ((s_).field > (0:Int))) (13:Int))) rfl (QX Qek Qej Qei QdP (.cons (R := Qa5) (u := (decide ((s_).field > (0:Int)))) rfl z0 (leb rfl)<|.cons (R := rI) (u := (13:Int)) rfl .k (leb rfl)<|.nil _))<|.o (QE (R := QL) (us := [(Qq.mk (decide ((s_).field > (0:Int))) (13:Int))]) Qgk Qd6 (.cons z0<|.nil _) rfl (leb rfl))<|.o (Qh QfV (Qa6 ht8) (.cons (.of z0)<|.nil))<|.o (Qa z0)<|.n) fun _ a w H => ?_
 have H := H.to [6] [_] [] rfl rfl
 refine wp_ret ?_
 obtain rfl := sj h
 exact rt undef [] hpl H (.tmp z0 .nil)

/- diorama/typing.Up -/
noncomputable def QcF (self : Qg → Int → Int → Option (Int)) (x_ : Qg) (kind_ : Int) (field_ : Int) : Option (Int) := (Qcn x_ kind_ field_).bind fun t17 => (if (!t17.2) = true then (some (-1:Int)) else (if (((t17.1).Kind == (7:Int)) || ((t17.1).Kind == (8:Int))) = true then (idx (x_).Kinds kind_).bind fun t35 => (Qbo t35 (t17.1).Up).bind fun t39 => (Qcn x_ kind_ t39).bind fun t44 => (if ((t44.2 && (decide (t39 < field_))) && ((t44.1).Kind == (1:Int))) = true then (self x_ kind_ t39).bind fun t61 => (some t61) else (some (-1:Int))) else (if ((t17.1).Kind != (1:Int)) = true then (some (-1:Int)) else (Qby x_ (t17.1).Of).bind fun t69 => (if (decide (t69 < kind_)) = true then (some t69) else (some (-1:Int))))))
theorem Qpg {self : Qg → Int → Int → Option (Int)} (hself : ∀ (x_ : Qg) (kind_ : Int) (field_ : Int) (r : Int),self x_ kind_ field_ = some r → FnOk Tryz.prog 217 [Qm.ty x_,ti kind_,ti field_] [] (fun _ => []) (fun _ => ti r)) {x_ : Qg} {kind_ : Int} {field_ : Int} {r : Int} (h : QcF self x_ kind_ field_ = some r) : FnOk Tryz.prog 217 [Qm.ty x_,ti kind_,ti field_] [] (fun _ => []) (fun _ => ti r) := by
 unfold QcF at h
 refine fe Tryz.func217 Tryz.ntmps217 fun M0 M w0 a hpl H => ?_
 replace H : St M w0 74 [(0,Qm.ty x_),(1,ti kind_),(2,ti field_)] [] a w0 := H
 refine sr mx [] H (fun _ => .o (QT (R := Qm) (u := x_) z0)<|.o (Qa .k)<|.n) fun _ a w H => ?_
 have H := H.to [0,3,4] [_,_,_] [] rfl rfl
 have ⟨t17,ht17,h⟩ := bs h
 refine sr mx [v1 7 (fun v0 => box (Qd.cs zz0) v0),v1 7 (fun v0 => box (Qd.cs t17.1) v0)] H (fun _ => .o (Qr QaR z0)<|.q 2 rfl<|.q 4 rfl<|.o (Qh Qkd (QfX ht17) (.cons (.of z2)<|.cons (.of z1)<|.cons (.of z0)<|.nil))<|.q 0 rfl<|.o (QM z0 rfl)<|.o (QM z1 rfl)<|.m [] [0] rfl rfl rfl (Q1 (R := Qd) (a := zz0) QS Qeh)<|.e [] [0] [1] rfl rfl rfl rfl (QR (R := Qd) (a := t17.1) QS z0 z2 (leb rfl))<|.o (Qa z1)<|.n) fun _ a w H => ?_
 replace H : St _ _ _ [_,_,_,_,_] [] _ _ := (((H.pick [7,8,9,10,11]).shareB 0 rfl).add 0 rfl (fun _ _ _ h => h.2)).pick [0,3,4,5,6]
 refine wp_seq_k (fun _ k4 => ?_)
 refine wp_block ?_
 refine sr mx [] H (fun _ => .q 1 rfl<|.o (Qar z0)<|.o (Qa z0)<|.n) fun _ a w H => ?_
 have H := H.to [2,3,5,6,7] [_,_,_,_,_] [] rfl rfl
 refine wi H h (fun b26 h => ?_) (fun b26 h => ?_)
 ·refine sr mx [] H (fun _ => .o (Qa .k)<|.n) fun _ a w H => ?_
  have H := H.to [0] [_] [] rfl rfl
  refine wp_ret ?_
  obtain rfl := sj h
  exact rt undef [] hpl H (.tmp z0 .nil)
 refine sr mx [] H (fun _ => .o (Qe QaX z1)<|.o (Qf (u := (t17.1).Kind) tok3 z0 rfl)<|.o (Q4 z0 .k)<|.q 0 rfl<|.g rfl rfl bq0 (fun _ => Qe QaX z5)<|.g rfl rfl bq1 (fun hc => Qf (u := (t17.1).Kind) tok3 (.cond z0 hc) rfl)<|.g rfl rfl bq2 (fun hc => Q4 (.cond z0 hc) .k)<|.o (Qao z3 (fun hp => (.cond z0 (beqF hp))))<|.o (Qa z0)<|.n) fun _ a w H => ?_
 have H := H.to [8,10,11,12,13] [_,_,_,_,_] [] rfl rfl
 refine wi H h (fun b25 h => ?_) (fun b25 h => ?_)
 ·have ⟨t35,ht35,h⟩ := bs h
  have ⟨t39,ht39,h⟩ := bs h
  refine sr mx [] H (fun _ => .o (Qe QaJ z2)<|.o (Qf (u := (x_).Kinds) Qdp z0 rfl)<|.q 5 rfl<|.o (QG ud23 Q7 z1 z0 ht35)<|.o (Qr Q7 z0)<|.o (Qe QeU z6)<|.o (Qf (u := (t17.1).Up) tok9 z0 rfl)<|.o (Qh Qls (Qez ht39) (.cons (.of z2)<|.cons (.of z0)<|.nil))<|.o (Qa z0)<|.n) fun _ a w H => ?_
  have H := H.to [8,11,12,13] [_,_,_,_] [] rfl rfl
  refine wp_seq_k (fun _ k9 => ?_)
  have ⟨t44,ht44,h⟩ := bs h
  refine sr mx [v1 7 (fun v0 => box (Qd.cs zz0) v0),v1 7 (fun v0 => box (Qd.cs t44.1) v0)] H (fun _ => .o (Qr QaR z1)<|.q 3 rfl<|.q 2 rfl<|.o (Qh Qkd (QfX ht44) (.cons (.of z2)<|.cons (.of z1)<|.cons (.of z0)<|.nil))<|.q 0 rfl<|.o (QM z0 rfl)<|.o (QM z1 rfl)<|.m [] [0] rfl rfl rfl (Q1 (R := Qd) (a := zz0) QS Qeh)<|.e [] [0] [1] rfl rfl rfl rfl (QR (R := Qd) (a := t44.1) QS z0 z2 (leb rfl))<|.o (Qa z1)<|.n) fun _ a w H => ?_
  replace H : St _ _ _ [_,_,_,_,_,_] [] _ _ := (((H.pick [7,8,9,10,11,12]).shareB 0 rfl).add 0 rfl (fun _ _ _ h => h.2)).pick [0,3,4,5,6,7]
  refine sr mx [] H (fun _ => .q 1 rfl<|.q 0 rfl<|.g rfl rfl bq0 (fun _ => Qw z4)<|.g rfl rfl bq1 (fun _ => Qw z8)<|.g rfl rfl bq2 (fun hc => QU (.cond z1 hc) (.cond z0 hc))<|.o (QY z3 (fun hp => (.cond z0 (beqT hp))))<|.q 0 rfl<|.g rfl rfl bq0 (fun _ => Qe QaX z7)<|.g rfl rfl bq1 (fun hc => Qf (u := (t44.1).Kind) tok3 (.cond z0 hc) rfl)<|.g rfl rfl bq2 (fun hc => Q4 (.cond z0 hc) .k)<|.o (QY z3 (fun hp => (.cond z0 (beqT hp))))<|.n) fun _ a w H => ?_
  have H := H.to [10,13,14,15] [_,_,_,_] [] rfl rfl
  refine wi H h (fun b15 h => ?_) (fun b15 h => ?_)
  ·have ⟨t61,ht61,h⟩ := bs h
   refine sr mx [] H (fun _ => .o (Qr QaR z2)<|.q 4 rfl<|.q 3 rfl<|.o (Qh Qma (hself _ _ _ _ ht61) (.cons (.of z2)<|.cons (.of z1)<|.cons (.of z0)<|.nil))<|.o (Qa z0)<|.n) fun _ a w H => ?_
   have H := H.to [4] [_] [] rfl rfl
   refine wp_ret ?_
   obtain rfl := sj h
   exact rt undef [] hpl H (.tmp z0 .nil)
  refine wp_skip (k9 _ _ ?_)
  refine sr mx [] H (fun _ => .o (Qa .k)<|.n) fun _ a w H => ?_
  have H := H.to [0] [_] [] rfl rfl
  refine wp_ret ?_
  obtain rfl := sj h
  exact rt undef [] hpl H (.tmp z0 .nil)
 refine sr mx [] H (fun _ => .o (Qe QaX z1)<|.o (Qf (u := (t17.1).Kind) tok3 z0 rfl)<|.o (Qam z0 .k)<|.o (Qa z0)<|.n) fun _ a w H => ?_
 have H := H.to [3,5,6,7] [_,_,_,_] [] rfl rfl
 refine wi H h (fun b24 h => ?_) (fun b24 h => ?_)
 ·refine sr mx [] H (fun _ => .o (Qa .k)<|.n) fun _ a w H => ?_
  have H := H.to [0] [_] [] rfl rfl
  refine wp_ret ?_
  obtain rfl := sj h
  exact rt undef [] hpl H (.tmp z0 .nil)
 refine wp_skip (k4 _ _ ?_)
 refine wp_seq_k (fun _ k18 => ?_)
 have ⟨t69,ht69,h⟩ := bs h
 refine sr mx [] H (fun _ => .o (Qr QaR z2)<|.o (Qe QaA z2)<|.o (Qf (u := (t17.1).Of) tok9 z0 rfl)<|.o (Qh Qkc (Qd0 ht69) (.cons (.of z2)<|.cons (.of z0)<|.nil))<|.o (Qa z0)<|.n) fun _ a w H => ?_
 have H := H.to [4,8] [_,_] [] rfl rfl
 refine sr mx [] H (fun _ => .q 0 rfl<|.q 2 rfl<|.o (QU z1 z0)<|.n) fun _ a w H => ?_
 have H := H.to [2,3] [_,_] [] rfl rfl
 refine wi H h (fun b23 h => ?_) (fun b23 h => ?_)
 ·refine sr mx [] H (fun _ => .q 1 rfl<|.o (Qa z0)<|.n) fun _ a w H => ?_
  have H := H.to [1] [_] [] rfl rfl
  refine wp_ret ?_
  obtain rfl := sj h
  exact rt undef [] hpl H (.tmp z0 .nil)
 refine wp_skip (k18 _ _ ?_)
 refine sr mx [] H (fun _ => .o (Qa .k)<|.n) fun _ a w H => ?_
 have H := H.to [0] [_] [] rfl rfl
 refine wp_ret ?_
 obtain rfl := sj h
 exact rt undef [] hpl H (.tmp z0 .nil)
noncomputable def Qit : Nat → Qg → Int → Int → Option (Int)
 | 0 => fun _ _ _ => none
 | n + 1 => QcF (Qit n)
theorem Qkf : ∀ (n : Nat) (x_ : Qg) (kind_ : Int) (field_ : Int) (r : Int),Qit n x_ kind_ field_ = some r → FnOk Tryz.prog 217 [Qm.ty x_,ti kind_,ti field_] [] (fun _ => []) (fun _ => ti r)
 | 0,_,_,_,r,h => by cases h
 | n + 1,x_,kind_,field_,r,h => Qpg (fun x_ kind_ field_ r h => Qkf n x_ kind_ field_ r h) h
noncomputable def Qfe (x_ : Qg) (kind_ : Int) (field_ : Int) : Option (Int) := Qit (field_.natAbs + 2) x_ kind_ field_
theorem Qjq {x_ : Qg} {kind_ : Int} {field_ : Int} {r : Int} (h : Qfe x_ kind_ field_ = some r) : FnOk Tryz.prog 217 [Qm.ty x_,ti kind_,ti field_] [] (fun _ => []) (fun _ => ti r) := Qkf _ _ _ _ _ h

/- (diorama/typing.spot).lost -/
noncomputable def Qbm (s_ : QH) : Option (Bool) := (Qfe (s_).x (s_).kind (s_).field).bind fun t9 => (some (decide (t9 < (0:Int))))
theorem QfH {s_ : QH} {r : Bool} (h : Qbm s_ = some r) : FnOk Tryz.prog 204 [QW.ty s_] [] (fun _ => []) (fun _ => tb r) := by
 unfold Qbm at h
 refine fe Tryz.func204 Tryz.ntmps204 fun M0 M w0 a hpl H => ?_
 replace H : St M w0 11 [(0,QW.ty s_)] [] a w0 := H
 refine sr mx [] H (fun _ => .o (QT (R := QW) (u := s_) z0)<|.o (Qa .k)<|.n) fun _ a w H => ?_
 have H := H.to [0] [_] [] rfl rfl
 have ⟨t9,ht9,h⟩ := bs h
 refine sr mx [] H (fun _ => .o (Qe Qfc z0)<|.o (Qf (u := (s_).x) QaR z0 rfl)<|.o (Qe Qh8 z2)<|.o (Qf (u := (s_).kind) tok3 z0 rfl)<|.o (Qe QkP z4)<|.o (Qf (u := (s_).field) tok3 z0 rfl)<|.o (Qh Qma (Qjq ht9) (.cons (.of z4)<|.cons (.of z2)<|.cons (.of z0)<|.nil))<|.o (QU z0 .k)<|.o (Qa z0)<|.n) fun _ a w H => ?_
 have H := H.to [8] [_] [] rfl rfl
 refine wp_ret ?_
 obtain rfl := sj h
 exact rt undef [] hpl H (.tmp z0 .nil)

/- diorama/typing.checks$2 -/
noncomputable def QbQ (s_ : QH) : Option (Int) := (Qbm s_).bind fun t4 => (Qae [(Qq.mk t4 (12:Int))]).bind fun t7 => (some t7)
theorem QlA {s_ : QH} {r : Int} (h : QbQ s_ = some r) : FnOk Tryz.prog 208 [QW.ty s_] [] (fun _ => []) (fun _ => ti r) := by
 unfold QbQ at h
 refine fe Tryz.func208 Tryz.ntmps208 fun M0 M w0 a hpl H => ?_
 replace H : St M w0 8 [(0,QW.ty s_)] [] a w0 := H
 refine sr mx [] H (fun _ => .o (QT (R := QW) (u := s_) z0)<|.o (Qa .k)<|.n) fun _ a w H => ?_
 have H := H.to [0] [_] [] rfl rfl
 have ⟨t4,ht4,h⟩ := bs h
 have ⟨t7,ht7,h⟩ := bs h
 refine sr mx [] H (fun _ => .o (Qr Qlr z0)<|.o (Qh Qob (QfH ht4) (.cons (.of z0)<|.nil))<|.p (T := QL.ty (Qq.mk t4 (12:Int))) rfl (QX Qek Qej Qei QdP (.cons (R := Qa5) (u := t4) rfl z0 (leb rfl)<|.cons (R := rI) (u := (12:Int)) rfl .k (leb rfl)<|.nil _))<|.o (QE (R := QL) (us := [(Qq.mk t4 (12:Int))]) Qgk Qd6 (.cons z0<|.nil _) rfl (leb rfl))<|.o (Qh QfV (Qa6 ht7) (.cons (.of z0)<|.nil))<|.o (Qa z0)<|.n) fun _ a w H => ?_
 have H := H.to [5] [_] [] rfl rfl
 refine wp_ret ?_
 obtain rfl := sj h
 exact rt undef [] hpl H (.tmp z0 .nil)

/- diorama/typing.checks$3 -/
noncomputable def QbR (s_ : QH) : Option (Int) := (idx ((s_).x).Kinds (s_).kind).bind fun t11 => (Qbo t11 ((s_).f).Of).bind fun t16 => (Qcn (s_).x (s_).kind t16).bind fun t23 => (Qae [(Qq.mk ((((s_).f).Of != ([] : Str)) && (((decide (t16 < (0:Int))) || (decide (t16 ≥ (s_).field))) || ((t23.1).Kind != (4:Int)))) (12:Int))]).bind fun t47 => (some t47)
theorem QlB {s_ : QH} {r : Int} (h : QbR s_ = some r) : FnOk Tryz.prog 209 [QW.ty s_] [] (fun _ => []) (fun _ => ti r) := by
 unfold QbR at h
 refine fe Tryz.func209 Tryz.ntmps209 fun M0 M w0 a hpl H => ?_
 replace H : St M w0 48 [(0,QW.ty s_)] [] a w0 := H
 refine sr mx [] H (fun _ => .o (QT (R := QW) (u := s_) z0)<|.o (Qa .k)<|.n) fun _ a w H => ?_
 have H := H.to [0] [_] [] rfl rfl
 have ⟨t11,ht11,h⟩ := bs h
 have ⟨t16,ht16,h⟩ := bs h
 refine sr mx [] H (fun _ => .o (Qe Qfc z0)<|.o (Qe QaJ z0)<|.o (Qf (u := ((s_).x).Kinds) Qdp z0 rfl)<|.o (Qe Qh8 z3)<|.o (Qf (u := (s_).kind) tok3 z0 rfl)<|.o (QG ud23 Q7 z2 z0 ht11)<|.o (Qr Q7 z0)<|.o (Qe Qjm z7)<|.o (Qe QaA z0)<|.o (Qf (u := ((s_).f).Of) tok9 z0 rfl)<|.o (Qh Qls (Qez ht16) (.cons (.of z3)<|.cons (.of z0)<|.nil))<|.o (Qa z0)<|.n) fun _ a w H => ?_
 have H := H.to [11,12] [_,_] [] rfl rfl
 have ⟨t23,ht23,h⟩ := bs h
 refine sr mx [v1 9 (fun v0 => box (Qd.cs zz0) v0),v1 9 (fun v0 => box (Qd.cs t23.1) v0)] H (fun _ => .o (Qe Qfc z1)<|.o (Qf (u := (s_).x) QaR z0 rfl)<|.o (Qe Qh8 z3)<|.o (Qf (u := (s_).kind) tok3 z0 rfl)<|.q 4 rfl<|.o (Qh Qkd (QfX ht23) (.cons (.of z3)<|.cons (.of z1)<|.cons (.of z0)<|.nil))<|.q 0 rfl<|.o (QM z0 rfl)<|.o (QM z1 rfl)<|.m [] [0] rfl rfl rfl (Q1 (R := Qd) (a := zz0) QS Qeh)<|.e [] [0] [1] rfl rfl rfl rfl (QR (R := Qd) (a := t23.1) QS z0 z2 (leb rfl))<|.o (Qa z1)<|.n) fun _ a w H => ?_
 replace H : St _ _ _ [_,_,_] [] _ _ := (((H.pick [9,11,12]).shareB 0 rfl).add 0 rfl (fun _ _ _ h => h.2)).pick [0,3,4]
 have ⟨t47,ht47,h⟩ := bs h
 refine sr mx [] H (fun _ => .o (Qe Qjm z2)<|.o (Qe QaA z0)<|.o (Qf (u := ((s_).f).Of) tok9 z0 rfl)<|.o (Qh4 z0 .k)<|.q 0 rfl<|.g rfl rfl bq0 (fun _ => Qw z6)<|.g rfl rfl bq1 (fun hc => QU (.cond z0 hc) .k)<|.g rfl rfl bq2 (fun hc => Qw (.cond z0 hc))<|.g rfl rfl (.c 0 rfl) (fun _ => Qw z9)<|.g rfl rfl (.c 1 rfl) (fun _ => Qe QkP z11)<|.g rfl rfl (.c 2 rfl) (fun hc => Qf (u := (s_).field) tok3 (.cond z0 hc) rfl)<|.g rfl rfl (.c 3 rfl) (fun hc => QaY (.cond z2 hc) (.cond z0 hc))<|.g rfl rfl bq7 (fun hc => Qao (.cond z4 hc) (fun hp => (.cond z0 (Qga hc (beqF hp)))))<|.g rfl rfl bq8 (fun hc => Qw (.cond z0 hc))<|.g rfl rfl (.c 0 rfl) (fun _ => Qe QaX z14)<|.g rfl rfl (.c 1 rfl) (fun hc => Qf (u := (t23.1).Kind) tok3 (.cond z0 hc) rfl)<|.g rfl rfl (.c 2 rfl) (fun hc => Qam (.cond z0 hc) .k)<|.g rfl rfl (.b 12 rfl) (fun hc => Qao (.cond z3 hc) (fun hp => (.cond z0 (Qga hc (beqF hp)))))<|.o (QY z13 (fun hp => (.cond z0 (beqT hp))))<|.p (T := QL.ty (Qq.mk ((((s_).f).Of != ([] : Str)) && (((decide (t16 < (0:Int))) || (decide (t16 ≥ (s_).field))) || ((t23.1).Kind != (4:Int)))) (12:Int))) rfl (QX Qek Qej Qei QdP (.cons (R := Qa5) (u := ((((s_).f).Of != ([] : Str)) && (((decide (t16 < (0:Int))) || (decide (t16 ≥ (s_).field))) || ((t23.1).Kind != (4:Int))))) rfl z0 (leb rfl)<|.cons (R := rI) (u := (12:Int)) rfl .k (leb rfl)<|.nil _))<|.o (QE (R := QL) (us := [(Qq.mk ((((s_).f).Of != ([] : Str)) && (((decide (t16 < (0:Int))) || (decide (t16 ≥ (s_).field))) || ((t23.1).Kind != (4:Int)))) (12:Int))]) Qgk Qd6 (.cons z0<|.nil _) rfl (leb rfl))<|.o (Qh QfV (Qa6 ht47) (.cons (.of z0)<|.nil))<|.o (Qa z0)<|.n) fun _ a w H => ?_
 have H := H.to [22] [_] [] rfl rfl
 refine wp_ret ?_
 obtain rfl := sj h
 exact rt undef [] hpl H (.tmp z0 .nil)

/- diorama/typing.checks$4$1 -/
noncomputable def Qcz (l_ : Qu) (c0_ : QH) : Option (Bool) := (some ((l_).Name == ((c0_).f).Of))
theorem QkV {l_ : Qu} {c0_ : QH} {r : Bool} (h : Qcz l_ c0_ = some r) : FnOk Tryz.prog 211 [QJ.ty l_,tptr (QW.cs c0_)] [] (fun _ => []) (fun _ => tb r) := by
 unfold Qcz at h
 refine fe Tryz.func211 Tryz.ntmps211 fun M0 M w0 a hpl H => ?_
 replace H : St M w0 10 [(0,QJ.ty l_),(1,tptr (QW.cs c0_))] [] a w0 := H
 refine sr mx [] H (fun _ => .o (QT (R := QJ) (u := l_) z0)<|.o (Qa .k)<|.n) fun _ a w H => ?_
 have H := H.to [0,3] [_,_] [] rfl rfl
 refine sr mx [] H (fun _ => .o (Qe Qkb z0)<|.o (Qf (u := (l_).Name) tok9 z0 rfl)<|.o (Qe Qjm z3)<|.o (Qe QaA z0)<|.o (Qf (u := ((c0_).f).Of) tok9 z0 rfl)<|.o (QcX z3 z0)<|.o (Qa z0)<|.n) fun _ a w H => ?_
 have H := H.to [6] [_] [] rfl rfl
 refine wp_ret ?_
 obtain rfl := sj h
 exact rt undef [] hpl H (.tmp z0 .nil)

/- diorama/typing.checks$4 -/
noncomputable def QbS (s_ : QH) : Option (Int) := (Qaq ((s_).x).Lives (fun x0 => Qcz x0 s_)).bind fun t8 => (Qae [(Qq.mk (!t8) (12:Int))]).bind fun t13 => (some t13)
theorem QlC {s_ : QH} {r : Int} (h : QbS s_ = some r) : FnOk Tryz.prog 210 [QW.ty s_] [] (fun _ => []) (fun _ => ti r) := by
 unfold QbS at h
 refine fe Tryz.func210 Tryz.ntmps210 fun M0 M w0 a hpl H => ?_
 replace H : St M w0 14 [(0,QW.ty s_)] [] a w0 := H
 refine sr mx [] H (fun _ => .o (QT (R := QW) (u := s_) z0)<|.o (Qa .k)<|.n) fun _ a w H => ?_
 have H := H.to [0] [_] [] rfl rfl
 have ⟨t8,ht8,h⟩ := bs h
 refine sr mx [] H (fun _ => .o (Qe Qfc z0)<|.o (Qe Qhc z0)<|.o (Qf (u := ((s_).x).Lives) QkM z0 rfl)<|.o (QdK (.cons z3<|.nil))<|.o (Qh Qp3 (Qdg ht8) (.cons (.of z1)<|.cons (.of (Fct.weak z0 (Qb1 QvH (fun _ _ hq => QkV hq))))<|.nil))<|.o (Qa z0)<|.n) fun _ a w H => ?_
 have H := H.to [5] [_] [] rfl rfl
 have ⟨t13,ht13,h⟩ := bs h
 refine sr mx [] H (fun _ => .q 0 rfl<|.o (Qar z0)<|.p (T := QL.ty (Qq.mk (!t8) (12:Int))) rfl (QX Qek Qej Qei QdP (.cons (R := Qa5) (u := (!t8)) rfl z0 (leb rfl)<|.cons (R := rI) (u := (12:Int)) rfl .k (leb rfl)<|.nil _))<|.o (QE (R := QL) (us := [(Qq.mk (!t8) (12:Int))]) Qgk Qd6 (.cons z0<|.nil _) rfl (leb rfl))<|.o (Qh QfV (Qa6 ht13) (.cons (.of z0)<|.nil))<|.o (Qa z0)<|.n) fun _ a w H => ?_
 have H := H.to [5] [_] [] rfl rfl
 refine wp_ret ?_
 obtain rfl := sj h
 exact rt undef [] hpl H (.tmp z0 .nil)

end Go.Proofs.YtcdccjagknlmpaaGreatDoor

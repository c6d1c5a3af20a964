/- The walk. No condition. -/
import Derived.Test.YtlajingmjmnfgaaGreatDoorGenL
set_option linter.all false
open Go.Proofs.Tryz Go.IntKind
namespace Go.Proofs.YtlajingmjmnfgaaGreatDoor
noncomputable section
open Go.Sim
set_option maxRecDepth 100000
set_option maxHeartbeats 4000000
def Qb3 (s_:(List Str)) (v_:Str):Option (Int):=(Qm (λ(s0:Int)=>((if (decide (s0<(s_.length:Int)))=true then (idx s_ s0).bind λt0=>(if (v_==t0)=true then (some (.inr (.inr s0))) else (some (.inl (i64.wrap (s0+1))))) else (some (.inr (.inl ())))):Option ((Int)⊕((Unit)⊕(Int))))) (0:Int)).bind λe0=>(match e0 with | .inl _=>(some (-1:Int)) | .inr p0=>(some p0))
instance Qr6:Spc2 prog 44 Qb3 (λs_ v_=>[tsl rS s_,tv (.string (sB v_))]) ti:=.mk λ{s_ v_ r} h=>by
 unfold Qb3 at h
 refine Fe func44 ntmps44 λM0 M w0 hpl=>?_
 refine Qa [1,2] ?_
 refine Qf λK0 k0=>?_
 refine Qa [1,2,3,4] ?_
 have⟨e0,h0,h⟩:=bs h
 have J0:∀(p0:Unit),(.inl p0)=e0->To M w0 19 [] [] K0:=by
  intro p0 he;subst he;simp only at h;refine k0 <|Qa [0] ?_;exact Qo h (·▸Ql hpl)
 have J1:∀(p1:Int),(.inr p1)=e0->To M w0 19 [(4,ti p1)] [] (Ret prog f44 M0 [] w0 (λ_=>[]) (λ_=>ti r) .ret):=by
  intro p1 he;subst he;simp only at h;obtain rfl:=sj h;exact Ql hpl
 refine Qj <|Qai h0 (λ(s0:Int)=>[(7,ti (s_.length:Int)),(8,ti s0),(0,tsl rS s_),(1,tv (.string (sB v_)))]) (λ(s0:Int)=>[]) [0,1,2,3] ?_;clear h;intro s0 o K1 h ho k1;refine Qa [0,1,2,3,4] ?_;refine Qf λ_ k2=>Qn h (λ_ h=>?_) (λ_ h=>?_)
 ·refine Qq <|k2 <|Qf λ_ k3=>Qj <|Qa [1,3,4,5,6] ?_;have⟨_,_,h⟩:=bs h;refine Qa [5,6,7,8,9,10] ?_;refine Qn h (λ_ h=>?_) (λ_ h=>?_)
  ·refine Qa [1] ?_;refine Qam ?_;exact Qu J1 (ho _ (sj h).symm) [0]
  refine Qq <|k3 <|QL [1,4,5,6] ?_;exact Qu k1 ((sj h).symm) [1,0,2,3]
 refine QO <|Qu J0 (ho _ (sj h).symm) []
def QeH (s_:(List Int)) (v_:Int):Option (Int):=(Qm (λ(s0:Int)=>((if (decide (s0<(s_.length:Int)))=true then (idx s_ s0).bind λt0=>(if (v_==t0)=true then (some (.inr (.inr s0))) else (some (.inl (i64.wrap (s0+1))))) else (some (.inr (.inl ())))):Option ((Int)⊕((Unit)⊕(Int))))) (0:Int)).bind λe0=>(match e0 with | .inl _=>(some (-1:Int)) | .inr p0=>(some p0))
instance QuC:Spc2 prog 155 QeH (λs_ v_=>[tsl rI s_,ti v_]) ti:=.mk λ{s_ v_ r} h=>by
 unfold QeH at h
 refine Fe func155 ntmps155 λM0 M w0 hpl=>?_
 refine Qa [1,2] ?_
 refine Qf λK0 k0=>?_
 refine Qa [1,2,3,4] ?_
 have⟨e0,h0,h⟩:=bs h
 have J0:∀(p0:Unit),(.inl p0)=e0->To M w0 19 [] [] K0:=by
  intro p0 he;subst he;simp only at h;refine k0 <|Qa [0] ?_;exact Qo h (·▸Ql hpl)
 have J1:∀(p1:Int),(.inr p1)=e0->To M w0 19 [(4,ti p1)] [] (Ret prog f155 M0 [] w0 (λ_=>[]) (λ_=>ti r) .ret):=by
  intro p1 he;subst he;simp only at h;obtain rfl:=sj h;exact Ql hpl
 refine Qj <|Qai h0 (λ(s0:Int)=>[(7,ti (s_.length:Int)),(8,ti s0),(0,tsl rI s_),(1,ti v_)]) (λ(s0:Int)=>[]) [0,1,2,3] ?_;clear h;intro s0 o K1 h ho k1;refine Qa [0,1,2,3,4] ?_;refine Qf λ_ k2=>Qn h (λ_ h=>?_) (λ_ h=>?_)
 ·refine Qq <|k2 <|Qf λ_ k3=>Qj <|Qa [1,3,4,5,6] ?_;have⟨_,_,h⟩:=bs h;refine Qa [5,6,7,8,9,10] ?_;refine Qn h (λ_ h=>?_) (λ_ h=>?_)
  ·refine Qa [1] ?_;refine Qam ?_;exact Qu J1 (ho _ (sj h).symm) [0]
  refine Qq <|k3 <|QL [1,4,5,6] ?_;exact Qu k1 ((sj h).symm) [1,0,2,3]
 refine QO <|Qu J0 (ho _ (sj h).symm) []
def QdI (s_:(List Int)) (v_:Int):Option (Bool):=(QeH s_ v_).bind λt0=>(some (decide (t0>=0)))
instance Qr7:Spc2 prog 103 QdI (λs_ v_=>[tsl rI s_,ti v_]) tb:=.mk λ{s_ v_ r} h=>by
 unfold QdI at h
 refine Fe func103 ntmps103 λM0 M w0 hpl=>?_
 refine Qa [1,2] ?_
 have⟨_,_,h⟩:=bs h
 refine Qa [4] ?_
 exact Qo h (·▸Ql hpl)
def QaQ (i_:Int) (c0_:(List Int)):Option (Bool):=(QdI c0_ i_).bind λt0=>(some t0)
instance QkH:Spc2 prog 102 QaQ (λi_ c0_=>[ti i_,tptr ((rSl rI).cs c0_)]) tb:=.mk λ{i_ c0_ r} h=>by
 unfold QaQ at h
 refine Fe func102 ntmps102 λM0 M w0 hpl=>?_
 refine Qa [1,2] ?_
 have⟨_,_,h⟩:=bs h
 refine Qa [3] ?_
 exact Qo h (·▸Ql hpl)
def Qcz (i_:Int) (c0_:(Int->Option Bool)) (c1_:Qa8):Option (Bool):=(c0_ (i64.wrap ((c1_.Xo.length:Int)+i_))).bind λt0=>(some t0)
instance QkI:Spc3 prog 104 Qcz (λi_ c0_ c1_=>[ti i_,tptr (rF81.cs c0_),tptr ((rPtr QU).cs c1_)]) tb:=.mk λ{i_ c0_ c1_ r} h=>by
 unfold Qcz at h
 refine Fe func104 ntmps104 λM0 M w0 hpl=>?_
 refine Qa [1,2,3] ?_
 have⟨_,_,h⟩:=bs h
 refine Qa [9] ?_
 exact Qo h (·▸Ql hpl)
def Qes (k_:Int) (c0_:Qa8) (c1_:(Int->Option Bool)):Option (Bool):=(QcP c0_ k_ c1_).bind λt0=>(some (!t0.isEmpty))
instance QtW:Spc3 prog 105 Qes (λk_ c0_ c1_=>[ti k_,tptr ((rPtr QU).cs c0_),tptr (rF81.cs c1_)]) tb:=.mk λ{k_ c0_ c1_ r} h=>by
 unfold Qes at h
 refine Fe func105 ntmps105 λM0 M w0 hpl=>?_
 refine Qa [1,2,3] ?_
 have⟨_,_,h⟩:=bs h
 refine Qa [5] ?_
 exact Qo h (·▸Ql hpl)
def Qc4 (s_:Qa8) (some_:(List Int)):Option (Bool):=(QaJ s_ (λx0=>QaQ x0 some_) (λx0=>Qes x0 s_ (λx0=>Qcz x0 (λx0=>QaQ x0 some_) s_))).bind λt0=>(some t0)
instance Qib:Spc2 prog 45 Qc4 (λs_ some_=>[tptr (QU.cs s_),tsl rI some_]) tb:=.mk λ{s_ some_ r} h=>by
 unfold Qc4 at h
 refine Fe func45 ntmps45 λM0 M w0 hpl=>?_
 refine Qa [0,1] ?_
 intro a w H
 refine sr mx [v1 1 (λv0=>box [tvs .nilFunc] v0),v1 1 (λv0=>box (rF81.cs (λx0=>QaQ x0 some_)) v0)] H (λ_=>.o (Qi4 (.cons z1<|.nil))<|.m [] [0] rfl rfl rfl (QbG (R:=rVal) (a:=.nilFunc) QsS zokPf)<|.e [] [0] [1] rfl rfl rfl rfl (Qbe (R:=rF81) (a:=(λx0=>QaQ x0 some_)) QtK z0 (Fct.Xp z1 (QeQ QsE (λ_ _ hq=>QkH.ok hq))) (leb rfl))<|.n) λ_ a w H=>?_
 replace H:St _ _ _ [_,_] [] _ _:=(((H.pick [1,2]).Xl 0 rfl).add 0 rfl (λ_ _ _ h=>h.2)).pick [0,3]
 refine Q2 H ?_
 intro a w H
 refine sr mx [v1 1 (λv0=>box [tvs .nilFunc] v0),v1 1 (λv0=>box (rF81.cs (λx0=>Qcz x0 (λx0=>QaQ x0 some_) s_)) v0)] H (λ_=>.o (Qi4 (.cons z0<|.cons z1<|.nil))<|.m [] [0] rfl rfl rfl (QbG (R:=rVal) (a:=.nilFunc) QsS zokPf)<|.e [] [0] [1] rfl rfl rfl rfl (Qbe (R:=rF81) (a:=(λx0=>Qcz x0 (λx0=>QaQ x0 some_) s_)) QtK z0 (Fct.Xp z1 (QeQ QsF (λ_ _ hq=>QkI.ok hq))) (leb rfl))<|.n) λ_ a w H=>?_
 replace H:St _ _ _ [_,_,_] [] _ _:=(((H.pick [1,2,3]).Xl 0 rfl).add 0 rfl (λ_ _ _ h=>h.2)).pick [0,3,4]
 refine Q2 H ?_
 have⟨_,_,h⟩:=bs h
 refine Qa [4] ?_
 exact Qo h (·▸Ql hpl)
def QeI (s_:(List Int)):Option ((List Int)):=(rm (([]:List Int).length+s_.length)).bind λ_=>(some (([]:List Int)++s_))
instance Qlb:SpcS prog 47 (∀{s_:(List Int)} {r:(List Int)},QeI s_=some r->FnOk prog 47 [tsl rI s_] [] (λv=>[own rI 3 r v]) (λv=>tv v)):=.mk λ{s_ r} h=>by
 unfold QeI at h
 refine Fe func47 ntmps47 λM0 M w0 hpl=>?_
 refine Qa [1] ?_
 refine Qf λ_ k0=>?_
 refine Qa [1,2] ?_
 refine tTestN 0 (λb0=>?_) ?_
 ·replace h:(some ([]:List Int))=some r:=by
   have⟨_,_,h⟩:=bs h;rw[b0] at h;exact h
  refine Qa [0] ?_;refine QY (λ_ _ H=>H.nil (rI) 3) ?_;exact Qo h (·▸Qcp (.slice none 0 0) [0] hpl)
 refine Qq <|k0 ?_;have⟨_,_,h⟩:=bs h;refine QJ [v1 0 (λv0=>own rI 3 ([]:List Int) v0),v1 2 (λv0=>own rI 3 (([]:List Int)++s_) v0)] [1,3] [2,3] λm0=>?_;exact Qo h (·▸Qcp (m0 2) [0] hpl)
def QfQ (x_:Qb) (names_:(List Str)):Option (Int):=(QfN x_).bind λt0=>(if (t0.2 !=0)=true then (some t0.2) else (QfO x_).bind λt1=>(if (decide ((t1.Xo.length:Int)>16))=true then (some (4:Int)) else (Qm (λ(s0:Int×List Int)=>((if (decide (s0.1<(names_.length:Int)))=true then (idx names_ s0.1).bind λt2=>(Qb3 t0.1 t2).bind λt3=>(opt (((decide (t3<0))==false)&&((decide ((s0.2.length:Int)>0))==true)) (idx s0.2 (i64.wrap ((s0.2.length:Int) - 1))) default).bind λt4=>(if ((decide (t3<0))||((decide ((s0.2.length:Int)>0))&&(decide (t3<=t4))))=true then (some (.inr (.inr (12:Int)))) else (rm (s0.2.length+[t3].length)).bind λ_=>(some (.inl ((i64.wrap (s0.1+1)),(s0.2++[t3]))))) else (some (.inr (.inl s0.2)))):Option ((Int×List Int)⊕((List Int)⊕(Int))))) ((0:Int),([]:List Int))).bind λe0=>(match e0 with | .inl p0=>(Qc4 t1 p0).bind λt5=>(if t5=true then (some (15:Int)) else (Qm (λ(s1:Int)=>((if (decide (s1<(p0.length:Int)))=true then (QeI p0).bind λt6=>(Qej t6 s1 (i64.wrap (s1+1))).bind λt7=>(Qc4 t1 t7).bind λt8=>(if (!t8)=true then (some (.inr (.inr (15:Int)))) else (some (.inl (i64.wrap (s1+1))))) else (some (.inr (.inl ())))):Option ((Int)⊕((Unit)⊕(Int))))) (0:Int)).bind λe1=>(match e1 with | .inl _=>(some (0:Int)) | .inr p1=>(some p1))) | .inr p2=>(some p2))))
instance Qk5:SpcS prog 11 (∀{x_:Qb} {names_:(List Str)} {r:Int},QfQ x_ names_=some r->FnOk prog 11 [Qc.ty x_,tsl rS names_] [glo] (λ_=>[]) (λ_=>ti r)):=.mk λ{x_ names_ r} h=>by
 unfold QfQ at h
 refine Fe func11 ntmps11 λM0 M w0 hpl=>?_
 refine Qa [0,3] ?_
 have⟨t0,_,h⟩:=bs h
 refine Qa [5,6,7,8] ?_
 refine tIfs h [1,2,3,4,5] (λ_ h=>?_) (λ_ h=>?_)
 ·refine Qa [1] ?_
  exact Qo h (·▸Ql hpl)
 have⟨t1,_,h⟩:=bs h
 refine Qa [2,4,7] ?_
 refine tIfs h [5,6,7,8] (λ_ h=>?_) (λ_ h=>?_)
 ·refine Qa [0] ?_
  exact Qo h (·▸Ql hpl)
 refine Qa [0,2,3,4] ?_
 refine QY (λ_ _ H=>H.nil (rI) 3) ?_
 refine Qf λK0 k0=>?_
 refine Qa [0,1,2,3,4,5] ?_
 have⟨e0,h0,h⟩:=bs h
 have J0:∀(p0:List Int) (y0:Value),(.inl p0)=e0->To M w0 78 [(8,tv y0),(7,tptr (QU.cs t1))] [own rI 3 p0 y0,glo] K0:=by
  intro p0 y0 he;subst he;simp only at h;refine k0 <|Qf λ_ k1=>?_;have⟨t2,h1,h⟩:=bs h;intro a w H;refine sr mx [] H (λ_=>.q 1 rfl<|.q 1 rfl<|.u [0] rfl rfl (QcU [own rI 3 p0 y0] QqQ (Qib.ok h1) (.cons (.of z1)<|.cons (.own z0 (.head _))<|.nil) (λ_=>Qci) (λ_=>QeO (x:=undef)))<|.n) λ_ a w H=>?_;have H:=H.to [1,2,3,4] [_,_,_,_] [_,_] rfl rfl;refine Q2 H ?_;refine Qel 1 (λb0=>?_) (λb0=>?_)
  ·replace h:=QcI b0 h;refine Qa [0,1,3] ?_;exact Qo h (·▸Ql hpl)
  replace h:=QcJ b0 h;refine Qq <|k1 <|Qf λK1 k2=>Qa [0,1,2,3,5,6] ?_;have⟨e1,h2,h⟩:=bs h;have J1:∀(p1:Unit),(.inl p1)=e1->To M w0 78 [] [glo] K1:=by
   intro p1 he;subst he;simp only at h;refine k2 <|Qa [0] ?_;exact Qo h (·▸Ql hpl)
  have J2:∀(p2:Int),(.inr p2)=e1->To M w0 78 [(4,ti p2)] [glo] (Ret prog f11 M0 [glo] w0 (λ_=>[]) (λ_=>ti r) .ret):=by
   intro p2 he;subst he;simp only at h;obtain rfl:=sj h;exact Ql hpl
  refine Qj <|Qai h2 (λ(s0:Int)=>[(64,ti (p0.length:Int)),(65,ti s0),(8,tv y0),(7,tptr (QU.cs t1))]) (λ(s0:Int)=>[own rI 3 p0 y0,glo]) [1,2,4,5] ?_;clear h;intro s0 o K2 h ho k3;refine Qa [0,1,2,3,4] ?_;refine Qf λ_ k4=>Qn h (λ_ h=>?_) (λ_ h=>?_)
  ·refine Qq <|k4 <|Qf λ_ k5=>Qj <|Qa [1,3,4,5,6] ?_;have⟨t3,h3,_,h4,t4,h5,h⟩:=bs3 h;intro a w H;refine sr mx [v1 2 (λv0=>own rI 3 t3 v0)] H (λ_=>.q 4 rfl<|.q 4 rfl<|.m [0] [2] rfl rfl rfl (QcU [own rI 3 p0 y0] Qvt (Qlb.ok h3) (.cons (.own z0 (.head _))<|.nil) (λ_=>Qci) (λ_=>flatN1 (Qw9 (by intro x T h;simp at h;(first | (subst h;exact Qci) | (rcases h with h | h | h<;>subst h<;>exact Qci))))))<|.q 3 rfl<|.q 4 rfl<|.o (QaH z0 .k)<|.e [] [2] [] rfl rfl rfl rfl (QN Qvs ((QkD h4).roE Qzi) (.cons (.of z3)<|.cons (.of z2)<|.cons (.of z0)<|.nil))<|.o (QN QqQ (Qib.ok h5) (.cons (.of z6)<|.cons (.of z0)<|.nil))<|.o (Qi3 z0)<|.n) λ_ a w H=>?_;have H:=H.to [1,8,10,11,12,13] [_,_,_,_,_,_] [_,_] rfl rfl;refine Q2 H ?_;refine Qel 1 (λb1=>?_) (λb1=>?_)
   ·replace h:=QcI b1 h;refine Qa [0,1,5] ?_;refine Qam ?_;refine Qad (λ_ _ H=>(H.pick [0]).Xk [1] rfl) ?_;exact Qu J2 (ho _ (sj h).symm) [0]
   replace h:=QcJ b1 h;refine Qq <|k5 <|QL [1,2,4,5,6] ?_;exact Qu k3 ((sj h).symm) [2,0,3,4]
  refine QO <|Qad (λ_ _ H=>(H.pick []).Xk [1] rfl) ?_;exact Qu J1 (ho _ (sj h).symm) []
 have J3:∀(p3:Int),(.inr p3)=e0->To M w0 78 [(4,ti p3)] [glo] (Ret prog f11 M0 [glo] w0 (λ_=>[]) (λ_=>ti r) .ret):=by
  intro p3 he;subst he;simp only at h;obtain rfl:=sj h;exact Ql hpl
 refine Qj <|QaC h0 (λ(s1:Int×List Int) (y1:Value)=>[(29,tsl rS names_),(30,ti (names_.length:Int)),(31,ti s1.1),(8,tv y1),(7,tptr (QU.cs t1)),(5,tsl rS t0.1)]) (λ(s1:Int×List Int) (y1:Value)=>[own rI 3 s1.2 y1,glo]) (.slice none 0 0) [0,1,2,3,4,5] ?_;clear h;intro s1 y1 o K3 h ho k6;refine Qa [0,1,2,3,4,5,6] ?_;refine Qf λ_ k7=>Qn h (λ_ h=>?_) (λ_ h=>?_)
 ·refine Qq <|k7 <|Qf λ_ k8=>Qj ?_;have⟨_,_,h⟩:=bs h;refine Qa [2,4,5,6,7,8,9] ?_;have⟨t5,_,h⟩:=bs h;refine Qa [3,5,6,7,8,9,10] ?_;have⟨_,_,h⟩:=bs h;refine tIfs h [16,17,18,19,20,21,22,23] (λ_ h=>?_) (λ_ h=>?_)
  ·refine Qa [0,6] ?_;refine Qam ?_;refine Qad (λ_ _ H=>(H.pick [0]).Xk [1] rfl) ?_;exact Qu J3 (ho _ (sj h).symm) [0]
  have⟨_,_,h⟩:=bs h;refine Qal [v1 3 (λv0=>own rI 3 (s1.2++[t5]) v0)] [4] [3,4,7,8,9,10,11] λm0=>?_;refine k8 <|QL [1,2,3,4,5,6,7] ?_;refine Qad (λ_ _ H=>(H.pick [3,4,0,2,5,6]).Xk [1,0] rfl) ?_;exact QV k6 (m0 3) ((sj h).symm) [0,1,2,3,4,5]
 refine QO <|QV J0 y1 (ho _ (sj h).symm) [4,5]
def Qgk (x_:Qb):Option ((List Str)×Int):=(QdR x_).bind λt0=>(if (t0 !=0)=true then (some (([]:List Str),t0)) else (QcV x_).bind λt1=>(Qd7 x_).bind λt2=>(Qm (λ(s0:Int×List Str)=>((if (decide (s0.1<(t2.length:Int)))=true then (idx t2 s0.1).bind λt3=>(rm (s0.2.length+[t3.Xj].length)).bind λ_=>(some (.inl ((i64.wrap (s0.1+1)),(s0.2++[t3.Xj])))) else (some (.inr s0.2))):Option ((Int×List Str)⊕((List Str))))) ((0:Int),t1.2.1)).bind λp0=>(some (p0,(0:Int))))
instance QBB:Spc1 prog 16 Qgk (λx_=>[Qc.ty x_]) (λr=>ttup [tsl rS r.1,ti r.2]):=.mk λ{x_ r} h=>by
 unfold Qgk at h
 refine Fe func16 ntmps16 λM0 M w0 hpl=>?_
 refine Qa [0] ?_
 have⟨_,_,h⟩:=bs h
 refine Qa [2,3] ?_
 refine tIfs h [1,2,3] (λ_ h=>?_) (λ_ h=>?_)
 ·refine Qa [1,2] ?_
  exact Qo h (·▸Ql hpl)
 have⟨t0,h0,h⟩:=bs h
 intro a w H
 refine sr mx [v1 1 (λv0=>own rS 9 t0.2.1 v0)] H (λ_=>.o (Qaa Qbk z2)<|.m [] [0] rfl rfl rfl (QN Qls (QfY.ok h0) (.cons (.of z0)<|.nil))<|.ud (f:=λv=>ttup [tsl QD t0.1,tv v,ti t0.2.2]) 1 rfl [] rfl rfl (Qaj z0)<|.o (Qag z0 rfl)<|.ud (f:=λv=>tv v) 1 rfl [] rfl rfl (Qag z1 rfl)<|.o (Qag z2 rfl)<|.o (Qr z2)<|.ud (f:=λv=>tv v) 1 rfl [] rfl rfl (Qr z2)<|.o (Qr z2)<|.n) λm0 a w H=>?_
 have H:=H.to [4,7,11] [_,_,_] [_] rfl rfl
 refine Q2 H ?_
 have⟨t1,_,h⟩:=bs h
 refine Qa [2,3,4] ?_
 refine Qf λK0 k0=>?_
 refine Qa [0,1,2,3] ?_
 have⟨e0,h1,h⟩:=bs h
 have J0:∀(p0:List Str) (y0:Value),p0=e0->To M w0 38 [(6,tv y0)] [own rS 9 p0 y0] K0:=by
  intro p0 y0 he;subst he;refine k0 <|Qa [0,1,2,3] ?_;refine Qam ?_;refine Qad (by intro _ _ H;exact (H.Xn 1 rfl).pick [0,3]) ?_;obtain rfl:=sj h;exact Ql hpl
 refine Qj <|QaC h1 (λ(s0:Int×List Str) (y1:Value)=>[(9,ti s0.1),(8,tsl QT t1),(6,tv y1)]) (λ(s0:Int×List Str) (y1:Value)=>[own rS 9 s0.2 y1]) (m0 1) [0,1,3] ?_;clear h;intro s0 y1 o K1 h ho k1;refine Qf λ_ k2=>Qa [3,4,5,6] ?_;refine Qn h (λ_ h=>?_) (λ_ h=>?_)
 ·refine Qq <|k2 <|Qf λ_ k3=>Qj ?_;have⟨t2,_,_,_,h⟩:=bs2 h;refine Qal [v1 7 (λv0=>own rS 9 (s0.2++[t2.Xj]) v0)] [8] [7,8,10,11] λm1=>?_;refine k3 <|QL [2,3,4,5] ?_;exact QV k1 (m1 7) ((sj h).symm) [0,3,2]
 refine QO <|QV J0 y1 (ho _ (sj h).symm) [3]
def Qgz (l_:(List Str)) (name_:Str):Option (Bool):=(Qm (λ(s0:Int)=>((if (decide (s0<(l_.length:Int)))=true then (idx l_ s0).bind λt0=>(if (t0==name_)=true then (some (.inr (.inr true))) else (some (.inl (i64.wrap (s0+1))))) else (some (.inr (.inl ())))):Option ((Int)⊕((Unit)⊕(Bool))))) (0:Int)).bind λe0=>(match e0 with | .inl _=>(some false) | .inr p0=>(some p0))
instance QCv:Spc2 prog 63 Qgz (λl_ name_=>[tsl rS l_,tv (.string (sB name_))]) tb:=.mk λ{l_ name_ r} h=>by
 unfold Qgz at h
 refine Fe func63 ntmps63 λM0 M w0 hpl=>?_
 refine Qa [1,2] ?_
 refine Qf λK0 k0=>?_
 refine Qa [0,1,2] ?_
 have⟨e0,h0,h⟩:=bs h
 have J0:∀(p0:Unit),(.inl p0)=e0->To M w0 18 [] [] K0:=by
  intro p0 he;subst he;simp only at h;refine k0 <|Qa [0] ?_;exact Qo h (·▸Ql hpl)
 have J1:∀(p1:Bool),(.inr p1)=e0->To M w0 18 [(4,tb p1)] [] (Ret prog f63 M0 [] w0 (λ_=>[]) (λ_=>tb r) .ret):=by
  intro p1 he;subst he;simp only at h;obtain rfl:=sj h;exact Ql hpl
 refine Qj <|Qai h0 (λ(s0:Int)=>[(5,ti s0),(0,tsl rS l_),(1,tv (.string (sB name_)))]) (λ(s0:Int)=>[]) [0,1,2] ?_;clear h;intro s0 o K1 h ho k1;refine Qf λ_ k2=>Qa [3,4,5,6] ?_;refine Qn h (λ_ h=>?_) (λ_ h=>?_)
 ·refine Qq <|k2 <|Qf λ_ k3=>Qj ?_;have⟨_,_,h⟩:=bs h;refine Qa [5,7,8,9] ?_;refine Qn h (λ_ h=>?_) (λ_ h=>?_)
  ·refine Qa [0] ?_;refine Qam ?_;exact Qu J1 (ho _ (sj h).symm) [0]
  refine Qq <|k3 <|QL [2,4,5] ?_;exact Qu k1 ((sj h).symm) [0,1,2]
 refine QO <|Qu J0 (ho _ (sj h).symm) []
def QeB (x_:Qb) (names_:(List Str)):Option (Bool):=(QcV x_).bind λt0=>(Qm (λ(s0:Int×List Qv)=>((if (decide (s0.1<(t0.1.length:Int)))=true then (idx t0.2.1 s0.1).bind λt1=>(Qgz names_ t1).bind λt2=>((if t2=true then (idx t0.1 s0.1).bind λt3=>(rm (s0.2.length+[t3].length)).bind λ_=>(some (s0.2++[t3])) else (some s0.2))).bind λp0=>(some (.inl ((i64.wrap (s0.1+1)),p0))) else (some (.inr s0.2))):Option ((Int×List Qv)⊕((List Qv))))) ((0:Int),([]:List Qv))).bind λp1=>(Qd7 x_).bind λt4=>(Qm (λ(s1:Int×List QM)=>((if (decide (s1.1<(t4.length:Int)))=true then (idx t4 s1.1).bind λt5=>(Qgz names_ t5.Xj).bind λt6=>((if t6=true then (idx t4 s1.1).bind λt7=>(rm (s1.2.length+[t7].length)).bind λ_=>(some (s1.2++[t7])) else (some s1.2))).bind λp2=>(some (.inl ((i64.wrap (s1.1+1)),p2))) else (some (.inr s1.2))):Option ((Int×List QM)⊕((List QM))))) ((0:Int),([]:List QM))).bind λp3=>(mk (x_.Xa.length:Int) false).bind λt8=>(Qm (λ(s2:Int×List Bool)=>((if (decide (s2.1<(s2.2.length:Int)))=true then (Qd8 x_ s2.1 p3).bind λt9=>(setAt s2.2 s2.1 (decide (t9>0))).bind λt10=>(some (.inl ((i64.wrap (s2.1+1)),t10))) else (some (.inr s2.2))):Option ((Int×List Bool)⊕((List Bool))))) ((0:Int),t8)).bind λp4=>(Qbs x_ p1 p4).bind λt11=>(some t11)
instance QCq:Spc2 prog 48 QeB (λx_ names_=>[Qc.ty x_,tsl rS names_]) tb:=.mk λ{x_ names_ r} h=>by
 unfold QeB at h
 refine Fe func48 ntmps48 λM0 M w0 hpl=>?_
 refine Qa [0,3] ?_
 have⟨t0,h0,h⟩:=bs h
 intro a w H
 refine sr mx [] H (λ_=>.o (Qaa Qbk z0)<|.o (QN Qls ((QfY.ok h0).ro (T':=ttup [tsl QD t0.1,tsl rS t0.2.1,ti t0.2.2]) Ql6) (.cons (.of z0)<|.nil))<|.q 0 rfl<|.o (Qag z0 rfl)<|.o (Qag z1 rfl)<|.o (Qag z2 rfl)<|.o (Qr z2)<|.o (Qr z2)<|.o (Qr z2)<|.n) λ_ a w H=>?_
 have H:=H.t4_0 [6,7,9,10]
 refine Q2 H ?_
 refine Qa [0,1,2,3,4] ?_
 refine QY (λ_ _ H=>H.nil (QD) 183) ?_
 refine Qf λK0 k0=>?_
 refine Qa [0,1,2,3,4,5] ?_
 have⟨e0,h1,h⟩:=bs h
 have J0:∀(p0:List Qv) (y0:Value),p0=e0->To M w0 84 [(8,tv y0),(2,tptr (Qc.cs x_)),(1,tsl rS names_)] [own QD 183 p0 y0] K0:=by
  intro p0 y0 he;subst he;refine k0 ?_;have⟨t1,_,h⟩:=bs h;refine Qa [2,3,4,5] ?_;refine Qa [0,1,2,3,4] ?_;refine QY (λ_ _ H=>H.nil (QT) 66) ?_;refine Qf λK1 k1=>Qa [0,1,2,3,4,5] ?_;have⟨e1,h2,h⟩:=bs h;have J1:∀(p1:List QM) (y1:Value),p1=e1->To M w0 84 [(11,tv y1),(8,tv y0),(2,tptr (Qc.cs x_))] [own QT 66 p1 y1,own QD 183 p0 y0] K1:=by
   intro p1 y1 he;subst he;refine k1 ?_;have⟨t2,_,h⟩:=bs h;refine QJ [v1 3 (λv0=>own Qau 4 t2 v0)] [4] [3,4,5,6,7] λm0=>?_;refine Qf λK2 k2=>Qa [0,1,2,3,4,5] ?_;have⟨e2,h3,h⟩:=bs h;have J2:∀(p2:List Bool),p2=e2->To M w0 84 [(13,tv (m0 3)),(8,tv y0),(2,tptr (Qc.cs x_))] [own QD 183 p0 y0,own Qau 4 p2 (m0 3)] K2:=by
    intro p2 he;subst he;refine k2 ?_;have⟨t3,h4,h⟩:=bs h;intro a w H;refine sr mx [] H (λ_=>.o (Qaa Qbk z2)<|.q 2 rfl<|.q 2 rfl<|.u [0,1] rfl rfl (QcU [own QD 183 p0 y0,own Qau 4 p2 (m0 3)] QnN (QgI.ok h4) (.cons (.of z2)<|.cons (.own z1 (.head _))<|.cons (.own z0 (.tail _ (.head _)))<|.nil) (λ_=>Qci) (λ_=>QeO (x:=undef)))<|.o (Qr z0)<|.n) λ_ a w H=>?_;have H:=H.to [1,2,4,5,6] [_,_,_,_,_] [_,_] rfl rfl;refine Q2 H ?_;exact Qo h (·▸Ql hpl)
   refine Qj <|Qai h3 (λ(s0:Int×List Bool)=>[(14,ti s0.1),(13,tv (m0 3)),(11,tv y1),(8,tv y0),(2,tptr (Qc.cs x_))]) (λ(s0:Int×List Bool)=>[own QT 66 p1 y1,own QD 183 p0 y0,own Qau 4 s0.2 (m0 3)]) [0,2,3,4,5] ?_;clear h;intro s0 o K3 h ho k3;refine Qf λ_ k4=>Qa [1,3,4,5,6,7,8] ?_;refine Qel 1 (λb0=>?_) (λb0=>?_)
   ·replace h:=QcI b0 h;refine Qq <|k4 <|Qf λ_ k5=>Qj ?_;have⟨_,h5,t4,h6,h⟩:=bs2 h;intro a w H;refine wr mx [v0 (own Qau 4 t4 (m0 3))] H (λ_=>.q 3 rfl<|.q 3 rfl<|.o (Qaa Qbk z8)<|.q 5 rfl<|.q 8 rfl<|.u [0] rfl rfl (QcU [own QT 66 p1 y1] Qvq (QoL.ok h5) (.cons (.of z2)<|.cons (.of z1)<|.cons (.own z0 (.head _))<|.nil) (λ_=>Qci) (λ_=>QeO (x:=undef)))<|.o (Qhi z0 .k)<|.u [2] rfl rfl (Qhk underlying93 tok4 z6 z5 h6)<|.e [] [2] [3] rfl rfl rfl rfl (Qhb tok4 z0 z1 h6)<|.n) λ_ a w H=>?_;have H:=H.to [0,4,8,10,11,12,13,14] [_,_,_,_,_,_,_,_] [_,_,_] rfl rfl;refine Qbl H ?_;refine k5 <|QL [2,3,4,5,6,7,8,9] ?_;exact Qu k3 ((sj h).symm) [0,4,5,6,7]
   replace h:=QcJ b0 h;refine QO <|Qad (λ_ _ H=>(H.pick [3,5,6]).Xk [1,2] rfl) ?_;exact Qu J2 (ho _ (sj h).symm) [0,1,2]
  refine Qj <|QaC h2 (λ(s1:Int×List QM) (y2:Value)=>[(12,ti s1.1),(11,tv y2),(10,tsl QT t1),(8,tv y0),(2,tptr (Qc.cs x_)),(1,tsl rS names_)]) (λ(s1:Int×List QM) (y2:Value)=>[own QT 66 s1.2 y2,own QD 183 p0 y0]) (.slice none 0 0) [0,1,2,3,4,5] ?_;clear h;intro s1 y2 o K4 h ho k6;refine Qf λ_ k7=>Qa [3,4,5,6,7,8,9] ?_;refine Qn h (λ_ h=>?_) (λ_ h=>?_)
  ·refine Qq <|k7 <|Qf λK5 k8=>Qj ?_;have⟨_,_,_,_,h⟩:=bs2 h;refine Qa [6,8,9,10,11,12,13] ?_;have⟨p3,h7,h⟩:=bs h;have J3:∀(y3:Value),To M w0 84 [(11,tv y3),(12,ti s1.1),(10,tsl QT t1),(8,tv y0),(2,tptr (Qc.cs x_)),(1,tsl rS names_)] [own QD 183 p0 y0,own QT 66 p3 y3] K5:=by
    intro y3;refine k8 <|QL [2,3,4,5,6,7] ?_;refine Qad (λ_ _ H=>(H.pick [0,1,2,3,4,5]).Xk [1,0] rfl) ?_;exact QV k6 y3 ((sj h).symm) [0,1,2,3,4,5]
   replace h:=h7;clear h7;refine Qn h (λ_ h=>?_) (λ_ h=>?_)
   ·have⟨t5,_,_,_,h⟩:=bs2 h;refine Qal [v1 6 (λv0=>own QT 66 (s1.2++[t5]) v0)] [7] [6,7,9,10,11,12,13] λm1=>?_;obtain rfl:=sj h;exact QK (J3 (m1 6)) [1,2,3,4,5,6]
   refine Qq ?_;obtain rfl:=sj h;refine Qad (λ_ _ H=>(H.pick [2,1,3,4,5,6]).Xk [1,0] rfl) ?_;exact QK (J3 y2) [0,1,2,3,4,5]
  refine QO <|QV J1 y2 (ho _ (sj h).symm) [2,4,5]
 refine Qj <|QaC h1 (λ(s2:Int×List Qv) (y4:Value)=>[(9,ti s2.1),(8,tv y4),(5,tsl QD t0.1),(6,tsl rS t0.2.1),(2,tptr (Qc.cs x_)),(1,tsl rS names_)]) (λ(s2:Int×List Qv) (y4:Value)=>[own QD 183 s2.2 y4]) (.slice none 0 0) [0,1,2,3,4,5] ?_;clear h;intro s2 y4 o K6 h ho k9;refine Qf λ_ k10=>Qa [3,4,5,6,7,8,9] ?_;refine Qn h (λ_ h=>?_) (λ_ h=>?_)
 ·refine Qq <|k10 <|Qf λK7 k11=>Qj ?_;have⟨_,_,_,_,h⟩:=bs2 h;refine Qa [5,7,8,9,10,11,12] ?_;have⟨p4,h8,h⟩:=bs h;have J4:∀(y5:Value),To M w0 84 [(8,tv y5),(9,ti s2.1),(5,tsl QD t0.1),(6,tsl rS t0.2.1),(2,tptr (Qc.cs x_)),(1,tsl rS names_)] [own QD 183 p4 y5] K7:=by
   intro y5;refine k11 <|QL [2,3,4,5,6,7] ?_;exact QV k9 y5 ((sj h).symm) [0,1,2,3,4,5]
  replace h:=h8;clear h8;refine Qn h (λ_ h=>?_) (λ_ h=>?_)
  ·have⟨t6,_,_,_,h⟩:=bs2 h;refine Qal [v1 6 (λv0=>own QD 183 (s2.2++[t6]) v0)] [7] [6,7,9,10,11,12,13] λm2=>?_;obtain rfl:=sj h;exact QK (J4 (m2 6)) [1,2,3,4,5,6]
  refine Qq ?_;obtain rfl:=sj h;exact QK (J4 y4) [2,1,3,4,5,6]
 refine QO <|QV J0 y4 (ho _ (sj h).symm) [2,5,6]
def Qgl (x_:Qb) (names_:(List Str)):Option (Int):=(Qgk x_).bind λt0=>(if (t0.2 !=0)=true then (some t0.2) else (QcV x_).bind λt1=>(if (decide ((t1.1.length:Int)>16))=true then (some (4:Int)) else (Qm (λ(s0:Int×Int)=>((if (decide (s0.1<(names_.length:Int)))=true then (Qm (λ(s1:Int)=>((opt ((decide (s1<(t0.1.length:Int)))==true) (idx t0.1 (imin s1 (i64.wrap ((t0.1.length:Int) - 1)))) default).bind λt2=>(opt ((decide (s1<(t0.1.length:Int)))==true) (idx names_ s0.1) default).bind λt3=>(if ((decide (s1<(t0.1.length:Int)))&&(t2 !=t3))=true then (some (.inl (i64.wrap (s1+1)))) else (some (.inr s1))):Option ((Int)⊕((Int))))) s0.2).bind λp0=>(if (decide (p0>=(t0.1.length:Int)))=true then (some (.inr (.inr (12:Int)))) else (some (.inl ((i64.wrap (s0.1+1)),(i64.wrap (p0+1)))))) else (some (.inr (.inl ())))):Option ((Int×Int)⊕((Unit)⊕(Int))))) ((0:Int),(0:Int))).bind λe0=>(match e0 with | .inl _=>(QeB x_ names_).bind λt4=>(if t4=true then (some (15:Int)) else (Qm (λ(s2:Int)=>((if (decide (s2<(names_.length:Int)))=true then (sub names_ 0 s2).bind λt5=>(rm (([]:List Str).length+t5.length)).bind λ_=>(sub names_ (i64.wrap (s2+1)) (names_.length:Int)).bind λt6=>(rm ((([]:List Str)++t5).length+t6.length)).bind λ_=>(QeB x_ ((([]:List Str)++t5)++t6)).bind λt7=>(if (!t7)=true then (some (.inr (.inr (15:Int)))) else (some (.inl (i64.wrap (s2+1))))) else (some (.inr (.inl ())))):Option ((Int)⊕((Unit)⊕(Int))))) (0:Int)).bind λe1=>(match e1 with | .inl _=>(some (0:Int)) | .inr p1=>(some p1))) | .inr p2=>(some p2))))
instance QoM:Spc2 prog 12 Qgl (λx_ names_=>[Qc.ty x_,tsl rS names_]) ti:=.mk λ{x_ names_ r} h=>by
 unfold Qgl at h
 refine Fe func12 ntmps12 λM0 M w0 hpl=>?_
 refine Qa [0,3] ?_
 have⟨t0,_,h⟩:=bs h
 refine Qa [5,6,7,8] ?_
 refine tIfs h [1,2,3,4,5] (λ_ h=>?_) (λ_ h=>?_)
 ·refine Qa [1] ?_
  exact Qo h (·▸Ql hpl)
 have⟨t1,h0,h⟩:=bs h
 intro a w H
 refine sr mx [] H (λ_=>.o (Qaa Qbk z3)<|.o (QN Qls ((QfY.ok h0).ro (T':=ttup [tsl QD t1.1,tsl rS t1.2.1,ti t1.2.2]) Ql6) (.cons (.of z0)<|.nil))<|.q 0 rfl<|.o (Qag z0 rfl)<|.o (Qag z1 rfl)<|.o (Qag z2 rfl)<|.o (Qr z2)<|.o (Qr z2)<|.o (Qr z2)<|.n) λ_ a w H=>?_
 have H:=H.t4_0 [6,10,12,13]
 refine Q2 H ?_
 refine tIfs h [2,4,5,6] (λ_ h=>?_) (λ_ h=>?_)
 ·refine Qa [0] ?_
  exact Qo h (·▸Ql hpl)
 refine Qa [0,2,3,4] ?_
 refine Qf λK0 k0=>?_
 refine Qa [0,1,2,3,4] ?_
 have⟨e0,h1,h⟩:=bs h
 have J0:∀(p0:Unit),(.inl p0)=e0->To M w0 87 [(2,tptr (Qc.cs x_)),(1,tsl rS names_)] [] K0:=by
  intro p0 he;subst he;simp only at h;refine k0 ?_;have⟨_,_,h⟩:=bs h;refine tIfs h [2,3,4] (λ_ h=>?_) (λ_ h=>?_)
  ·refine Qa [0] ?_;exact Qo h (·▸Ql hpl)
  refine Qf λK1 k1=>Qa [0,2,3] ?_;have⟨e1,h2,h⟩:=bs h;have J1:∀(p1:Unit),(.inl p1)=e1->To M w0 87 [] [] K1:=by
   intro p1 he;subst he;simp only at h;refine k1 <|Qa [0] ?_;exact Qo h (·▸Ql hpl)
  have J2:∀(p2:Int),(.inr p2)=e1->To M w0 87 [(4,ti p2)] [] (Ret prog f12 M0 [] w0 (λ_=>[]) (λ_=>ti r) .ret):=by
   intro p2 he;subst he;simp only at h;obtain rfl:=sj h;exact Ql hpl
  refine Qj <|Qai h2 (λ(s0:Int)=>[(12,ti s0),(2,tptr (Qc.cs x_)),(1,tsl rS names_)]) (λ(s0:Int)=>[]) [0,1,2] ?_;clear h;intro s0 o K2 h ho k2;refine Qf λ_ k3=>Qa [3,4,5,6] ?_;refine Qn h (λ_ h=>?_) (λ_ h=>?_)
  ·refine Qq <|k3 <|Qf λ_ k4=>Qj ?_;have⟨t2,h3,_,h4,t3,h5,_,h6,h⟩:=bs4 h;intro a w H;refine sr mx [v1 0 (λv0=>own rS 9 ([]:List Str) v0),v1 4 (λv0=>own rS 9 (([]:List Str)++t2) v0)] H (λ_=>.m [] [0] rfl rfl rfl (QgL (R:=rS) (us:=([]:List Str)) ud25 tok9 (.nil _) rfl (leb rfl) (leb rfl))<|.q 4 rfl<|.q 3 rfl<|.o (QmN ud25 tok9 z1 (.no _) (.op z0) h3)<|.e [] [0] [1] rfl rfl rfl rfl (QaV (R:=rS) ud25 tok9 (leb rfl) z3 z0 h4)<|.q 8 rfl<|.q 7 rfl<|.o (QaH z0 .k)<|.o (QmN ud25 tok9 z2 (.op z0) (.no _) h5)<|.e [] [1] [] rfl rfl rfl rfl (.roE (QaV (R:=rS) ud25 tok9 (leb rfl) z4 z0 h6))<|.o (Qr z0)<|.n) λ_ a w H=>?_;have H:=H.t4_0 [10,12,13,14];refine Q2 H ?_;have⟨_,_,h⟩:=bs h;refine Qa [3,5,6,7] ?_;refine Qn h (λ_ h=>?_) (λ_ h=>?_)
   ·refine Qa [0] ?_;refine Qam ?_;exact Qu J2 (ho _ (sj h).symm) [0]
   refine Qq <|k4 <|QL [2,4,5] ?_;exact Qu k2 ((sj h).symm) [0,1,2]
  refine QO <|Qu J1 (ho _ (sj h).symm) []
 have J3:∀(p3:Int),(.inr p3)=e0->To M w0 87 [(4,ti p3)] [] (Ret prog f12 M0 [] w0 (λ_=>[]) (λ_=>ti r) .ret):=by
  intro p3 he;subst he;simp only at h;obtain rfl:=sj h;exact Ql hpl
 refine Qj <|Qai h1 (λ(s1:Int×Int)=>[(11,ti s1.1),(10,ti s1.2),(5,tsl rS t0.1),(2,tptr (Qc.cs x_)),(1,tsl rS names_)]) (λ(s1:Int×Int)=>[]) [0,1,2,3,4] ?_;clear h;intro s1 o K3 h ho k5;refine Qf λ_ k6=>Qa [3,4,5,6,7,8] ?_;refine Qn h (λ_ h=>?_) (λ_ h=>?_)
 ·refine Qq <|k6 <|Qf λ_ k7=>Qj <|Qf λK4 k8=>?_;have⟨e2,h7,h⟩:=bs h;have J4:∀(p4:Int),p4=e2->To M w0 87 [(11,ti s1.1),(10,ti p4),(5,tsl rS t0.1),(2,tptr (Qc.cs x_)),(1,tsl rS names_)] [] K4:=by
   intro p4 he;subst he;refine k8 <|tIfs h [3,4,5,6,7,8] (λ_ h=>?_) (λ_ h=>?_)
   ·refine Qa [0] ?_;refine Qam ?_;exact Qu J3 (ho _ (sj h).symm) [0]
   refine QL [2,4,5,6,7] ?_;refine k7 <|QL [2,3,4,5,6] ?_;exact Qu k5 ((sj h).symm) [0,1,2,3,4]
  refine Qj <|Qai h7 (λ(s2:Int)=>[(11,ti s1.1),(10,ti s2),(5,tsl rS t0.1),(2,tptr (Qc.cs x_)),(1,tsl rS names_)]) (λ(s2:Int)=>[]) [1,2,3,4,5] ?_;clear h;intro s2 o K5 h ho k9;refine Qf λ_ k10=>?_;have⟨_,_,_,_,h⟩:=bs2 h;refine Qa [18,19,20,21,22,23] ?_;refine Qn h (λ_ h=>?_) (λ_ h=>?_)
  ·refine Qq <|k10 <|Qj <|QL [2,4,5,6,7] ?_;exact Qu k9 ((sj h).symm) [1,0,2,3,4]
  refine QO <|Qu J4 (ho _ (sj h).symm) [1,2,3,4,5]
 refine QO <|Qu J0 (ho _ (sj h).symm) [4,5]
def Qc5 (lo_:Int):Option (Qb):=(some (Qb.mk 0 [(Qi.mk ([97]:Str) lo_ 5 [(Qd.mk ([107]:Str) ([]:Str) ([]:Str) 0 0 0 ([]:(List Str)) ([]:(List Int))),(Qd.mk ([110]:Str) ([]:Str) ([]:Str) 2 0 3 ([]:(List Str)) ([]:(List Int)))])] ([]:(List QC)) [(Qp.mk ([114]:Str) ([97]:Str) ([]:Str) ([110]:Str) (-9))]))
instance QmY:Spc1 prog 49 Qc5 (λlo_=>[ti lo_]) Qc.ty:=.mk λ{lo_ r} h=>by
 unfold Qc5 at h
 refine Fe func49 ntmps49 λM0 M w0 hpl=>?_
 refine QJ [v1 0 (λv0=>box (Qc.cs zz4) v0)] [1] [0,1] λm0=>?_
 refine QJ [v1 5 (λv0=>box (Qg.cs zz1) v0),v1 5 (λv0=>box (Qg.cs (Qi.mk ([97]:Str) lo_ (5:Int) [(Qd.mk ([107]:Str) ([]:Str) ([]:Str) (0:Int) (0:Int) (0:Int) ([]:(List Str)) ([]:(List Int))),(Qd.mk ([110]:Str) ([]:Str) ([]:Str) (2:Int) (0:Int) (3:Int) ([]:(List Str)) ([]:(List Int)))])) v0)] [6,7] [5,6] λm1=>?_
 refine QY (λ_ _ H=>(((H.Xk [1,0] rfl).Xl 0 rfl).add 0 rfl (λ_ _ _ h=>h.2)).pick [0,3]) ?_
 refine QJ [v0 (box (Qc.cs (Qb.mk (0:Int) [(Qi.mk ([97]:Str) lo_ (5:Int) [(Qd.mk ([107]:Str) ([]:Str) ([]:Str) (0:Int) (0:Int) (0:Int) ([]:(List Str)) ([]:(List Int))),(Qd.mk ([110]:Str) ([]:Str) ([]:Str) (2:Int) (0:Int) (3:Int) ([]:(List Str)) ([]:(List Int)))])] ([]:(List QC)) [(Qp.mk ([114]:Str) ([97]:Str) ([]:Str) ([110]:Str) (-9:Int))])) (m0 0))] [6] [6] λm2=>?_
 exact Qo h (·▸Ql hpl)
def Qd9 (a_:(List Str)) (b_:(List Str)):Option (Bool):=(if ((a_.length:Int) !=(b_.length:Int))=true then (some false) else (Qm (λ(s0:Int)=>((if (decide (s0<(a_.length:Int)))=true then (idx a_ s0).bind λt0=>(idx b_ s0).bind λt1=>(if (t0 !=t1)=true then (some (.inr (.inr false))) else (some (.inl (i64.wrap (s0+1))))) else (some (.inr (.inl ())))):Option ((Int)⊕((Unit)⊕(Bool))))) (0:Int)).bind λe0=>(match e0 with | .inl _=>(some true) | .inr p0=>(some p0)))
instance QlH:Spc2 prog 20 Qd9 (λa_ b_=>[tsl rS a_,tsl rS b_]) tb:=.mk λ{a_ b_ r} h=>by
 unfold Qd9 at h
 refine Fe func20 ntmps20 λM0 M w0 hpl=>?_
 refine Qa [1,2] ?_
 refine tIfs h [4,5,6] (λ_ h=>?_) (λ_ h=>?_)
 ·refine Qa [0] ?_
  exact Qo h (·▸Ql hpl)
 refine Qf λK0 k0=>?_
 refine Qa [0,2,3] ?_
 have⟨e0,h0,h⟩:=bs h
 have J0:∀(p0:Unit),(.inl p0)=e0->To M w0 26 [] [] K0:=by
  intro p0 he;subst he;simp only at h;refine k0 <|Qa [0] ?_;exact Qo h (·▸Ql hpl)
 have J1:∀(p1:Bool),(.inr p1)=e0->To M w0 26 [(4,tb p1)] [] (Ret prog f20 M0 [] w0 (λ_=>[]) (λ_=>tb r) .ret):=by
  intro p1 he;subst he;simp only at h;obtain rfl:=sj h;exact Ql hpl
 refine Qj <|Qai h0 (λ(s0:Int)=>[(5,ti s0),(0,tsl rS a_),(1,tsl rS b_)]) (λ(s0:Int)=>[]) [0,1,2] ?_;clear h;intro s0 o K1 h ho k1;refine Qf λ_ k2=>Qa [3,4,5,6] ?_;refine Qn h (λ_ h=>?_) (λ_ h=>?_)
 ·refine Qq <|k2 <|Qf λ_ k3=>Qj ?_;have⟨_,_,_,_,h⟩:=bs2 h;refine Qa [8,10,11,12] ?_;refine Qn h (λ_ h=>?_) (λ_ h=>?_)
  ·refine Qa [0] ?_;refine Qam ?_;exact Qu J1 (ho _ (sj h).symm) [0]
  refine Qq <|k3 <|QL [2,4,5] ?_;exact Qu k1 ((sj h).symm) [0,1,2]
 refine QO <|Qu J0 (ho _ (sj h).symm) []
def Qe2:Option (Bool):=(Qc5 1).bind λt0=>(Qgc t0).bind λt1=>(Qc5 0).bind λt2=>(Qgc t2).bind λt3=>(opt (((t1.2==0)&&(t3.2==6))==true) (Qd9 t1.1 [([97,32,108,101,97,115,116]:Str),([97,46,110,32,104,105,103,104]:Str),([114,117,108,101,58,114]:Str)]) default).bind λt4=>(opt ((((t1.2==0)&&(t3.2==6))&&t4)==true) (Qc5 1) default).bind λt5=>(opt ((((t1.2==0)&&(t3.2==6))&&t4)==true) (QfQ t5 t1.1) default).bind λt6=>(some ((((t1.2==0)&&(t3.2==6))&&t4)&&(t6==0)))
instance QBC:SpcS prog 13 (∀{r:Bool},Qe2=some r->FnOk prog 13 [] [glo] (λ_=>[]) (λ_=>tb r)):=.mk λ{r} h=>by
 unfold Qe2 at h
 refine Fe func13 ntmps13 λM0 M w0 hpl=>?_
 refine Qa [] ?_
 have⟨_,_,t0,_,h⟩:=bs2 h
 refine Qa [5,6] ?_
 have⟨_,_,t1,_,h⟩:=bs2 h
 refine Qa [6,7,8] ?_
 have⟨t2,h0,_,h1,t3,h2,h⟩:=bs3 h
 intro a w H
 refine sr mx [] H (λ_=>.q 2 rfl<|.o (QcG z0 .k)<|.q 0 rfl<|.g rfl rfl bq0 (λ_=>Qaj z3)<|.g rfl rfl bq1 (λhc=>QcG (.cond z0 hc) .k)<|.o (QcY z2 (λhp=>(.cond z0 (beqT hp))))<|.q 0 rfl<|.g rfl rfl bq0 (λ_=>Qaj z8)<|.g rfl rfl bq1 (λ_=>Qaq (R:=rS) (us:=[([97,32,108,101,97,115,116]:Str),([97,46,110,32,104,105,103,104]:Str),([114,117,108,101,58,114]:Str)]) ud25 tok9 (.cons .k<|.cons .k<|.cons .k<|.nil _) rfl (leb rfl))<|.g rfl rfl bq2 (λhc=>QN Qvj (QlH.ok (Qeg h0 hc)) (.cons (.of (.cond z1 hc))<|.cons (.of (.cond z0 hc))<|.nil))<|.o (QcY z3 (λhp=>(.cond z0 (beqT hp))))<|.q 0 rfl<|.g rfl rfl bq0 (λhc=>QN Qvu (QmY.ok (Qeg h1 hc)) (.cons (.of .k)<|.nil))<|.g rfl rfl bq1 (λ_=>Qaj z14)<|.gu [0] rfl rfl rfl bq2 (λhc=>(QN QqK (Qk5.ok (Qeg h2 hc)) (.cons (.of (.cond z1 hc))<|.cons (.of (.cond z0 hc))<|.nil)).glo)<|.g rfl rfl bq3 (λhc=>QcG (.cond z0 hc) .k)<|.o (QcY z4 (λhp=>(.cond z0 (beqT hp))))<|.o (Qr z0)<|.n) λ_ a w H=>?_
 have H:=H.to [17] [_] [_] rfl rfl
 refine Q2 H ?_
 exact Qo h (·▸Ql hpl)
def Qe3 (l_:(List Int)) (m_:(List Int)) (at_:Int) (how_:Int) (by_:Int):Option (Bool):=(QgO l_ m_ at_ how_ by_).bind λt0=>(Qm (λ(s0:Int)=>((if (decide (s0<(t0.length:Int)))=true then (idx t0 s0).bind λt1=>(Qgc t1).bind λt2=>(idx t0 s0).bind λt3=>(QgU t3).bind λt4=>(if ((t2.2 !=t4.2)||((t2.1.length:Int) !=t4.1))=true then (some (.inr (.inr false))) else (opt ((t2.2==0)==true) (idx t0 s0) default).bind λt5=>(opt ((t2.2==0)==true) (QfQ t5 t2.1) default).bind λt6=>(opt (((t2.2==0)==true)&&((t6 !=0)==false)) (idx t0 s0) default).bind λt7=>(opt (((t2.2==0)==true)&&((t6 !=0)==false)) (Qgl t7 t2.1) default).bind λt8=>(if ((t2.2==0)&&((t6 !=0)||(t8 !=0)))=true then (some (.inr (.inr false))) else (some (.inl (i64.wrap (s0+1)))))) else (some (.inr (.inl ())))):Option ((Int)⊕((Unit)⊕(Bool))))) (0:Int)).bind λe0=>(match e0 with | .inl _=>Qe2.bind λt9=>(some t9) | .inr p0=>(some p0))
instance QmZ:SpcS prog 3 (∀{l_:(List Int)} {m_:(List Int)} {at_:Int} {how_:Int} {by_:Int} {r:Bool},Qe3 l_ m_ at_ how_ by_=some r->FnOk prog 3 [tsl rI l_,tsl rI m_,ti at_,ti how_,ti by_] [glo] (λ_=>[]) (λ_=>tb r)):=.mk λ{l_ m_ at_ how_ by_ r} h=>by
 unfold Qe3 at h
 refine Fe func3 ntmps3 λM0 M w0 hpl=>?_
 refine Qa [1,2,3,4,5] ?_
 have⟨t0,_,h⟩:=bs h
 refine Qa [6] ?_
 refine Qf λK0 k0=>?_
 refine Qa [0,1] ?_
 have⟨e0,h0,h⟩:=bs h
 have J0:∀(p0:Unit),(.inl p0)=e0->To M w0 75 [] [glo] K0:=by
  intro p0 he;subst he;simp only at h;refine k0 ?_;have⟨_,_,h⟩:=bs h;refine Qa [1] ?_;exact Qo h (·▸Ql hpl)
 have J1:∀(p1:Bool),(.inr p1)=e0->To M w0 75 [(10,tb p1)] [glo] (Ret prog f3 M0 [glo] w0 (λ_=>[]) (λ_=>tb r) .ret):=by
  intro p1 he;subst he;simp only at h;obtain rfl:=sj h;exact Ql hpl
 refine Qj <|Qai h0 (λ(s0:Int)=>[(12,ti s0),(11,tsl Qc t0)]) (λ(s0:Int)=>[glo]) [0,1] ?_;clear h;intro s0 o K1 h ho k1;refine Qf λ_ k2=>Qa [3,4,5] ?_;refine Qn h (λ_ h=>?_) (λ_ h=>?_)
 ·refine Qq <|k2 <|Qf λ_ k3=>Qj ?_;have⟨_,_,t1,_,h⟩:=bs2 h;refine Qa [8,9,11,12] ?_;have⟨_,_,_,_,h⟩:=bs2 h;refine Qa [8,9,10,11,12,13] ?_;refine tIfs h [8,11,12,13,14] (λ_ h=>?_) (λ_ h=>?_)
  ·refine Qa [0] ?_;refine Qam ?_;exact Qu J1 (ho _ (sj h).symm) [0]
  have⟨_,h1,t2,h2,_,h3,t3,h4,h⟩:=bs4 h;intro a w H;refine sr mx [] H (λ_=>.q 2 rfl<|.o (QcG z0 .k)<|.q 0 rfl<|.g rfl rfl bq0 (λ_=>Qaj z7)<|.g rfl rfl bq1 (λ_=>Qaj z7)<|.g rfl rfl bq2 (λhc=>Qc0 underlying23 Qbk (.cond z1 hc) (.cond z0 hc) (Qeg h1 hc))<|.g rfl rfl bq3 (λhc=>Qaa Qbk (.cond z0 hc))<|.g rfl rfl bq4 (λ_=>Qaj z8)<|.gu [0] rfl rfl rfl bq5 (λhc=>(QN QqK (Qk5.ok (Qeg h2 hc)) (.cons (.of (.cond z1 hc))<|.cons (.of (.cond z0 hc))<|.nil)).glo)<|.g rfl rfl bq6 (λhc=>Qlg (.cond z0 hc) .k)<|.g rfl rfl bq7 (λhc=>Qaj (.cond z0 hc))<|.g rfl rfl (.c 0 rfl) (λ_=>Qaj z15)<|.g rfl rfl (.c 1 rfl) (λ_=>Qaj z15)<|.g rfl rfl (.c 2 rfl) (λhc=>Qc0 underlying23 Qbk (.cond z1 hc) (.cond z0 hc) (Qeg h3 hc))<|.g rfl rfl (.c 3 rfl) (λhc=>Qaa Qbk (.cond z0 hc))<|.g rfl rfl (.c 4 rfl) (λ_=>Qaj z16)<|.g rfl rfl (.c 5 rfl) (λhc=>QN Qvh (QoM.ok (Qeg h4 hc)) (.cons (.of (.cond z1 hc))<|.cons (.of (.cond z0 hc))<|.nil))<|.g rfl rfl (.c 6 rfl) (λhc=>Qlg (.cond z0 hc) .k)<|.g rfl rfl (.b 15 rfl) (λhc=>Qp4 (.cond z7 hc) (λhp=>(.cond z0 (Ql7 hc (beqF hp)))))<|.o (QcY z16 (λhp=>(.cond z0 (beqT hp))))<|.n) λ_ a w H=>?_;have H:=H.to [19,23,24] [_,_,_] [_] rfl rfl;refine Q2 H ?_;refine Qn h (λ_ h=>?_) (λ_ h=>?_)
  ·refine Qa [0] ?_;refine Qam ?_;exact Qu J1 (ho _ (sj h).symm) [0]
  refine Qq <|k3 <|QL [2,4] ?_;exact Qu k1 ((sj h).symm) [0,1]
 refine QO <|Qu J0 (ho _ (sj h).symm) []

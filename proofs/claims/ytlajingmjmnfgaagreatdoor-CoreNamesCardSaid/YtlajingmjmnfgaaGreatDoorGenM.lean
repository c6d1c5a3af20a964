/- The walk. No condition. -/
import Derived.Test.YtlajingmjmnfgaaGreatDoorGenL
set_option linter.all false
open Go.Proofs.Tryz Go.IntKind
namespace Go.Proofs.YtlajingmjmnfgaaGreatDoor
noncomputable section
open Go.Sim
set_option maxRecDepth 100000
set_option maxHeartbeats 4000000
def Qen (s_:(List Int)) (v_:Int):Option (Int):=(Qu (λ(s0:Int)=>((if (decide (s0<(s_.length:Int)))=true then (idx s_ s0).bind λt0=>(if (v_==t0)=true then (some (.inr (.inr s0))) else (some (.inl (i64.wrap (s0+1))))) else (some (.inr (.inl ())))):Option ((Int)⊕((Unit)⊕(Int))))) (0:Int)).bind λe0=>(match e0 with | .inl _=>(some (-1:Int)) | .inr p0=>(some p0))
instance QtE:Spc2 prog 155 Qen (λs_ v_=>[tsl rI s_,ti v_]) ti:=.mk λ{s_ v_ r} h=>by
 unfold Qen at h
 refine Fe func155 ntmps155 λM0 M w0 hpl=>?_
 refine Qa [1,2] ?_
 refine Qi λK0 k0=>?_
 refine Qa [1,2,3,4] ?_
 have⟨e0,h0,h⟩:=bs h
 have J0:∀(p0:Unit),(.inl p0)=e0->To M w0 19 [] [] K0:=by
  intro p0 he;subst he;simp only at h;refine k0 <|Qa [0] ?_;exact Qo h (·▸Ql hpl)
 have J1:∀(p1:Int),(.inr p1)=e0->To M w0 19 [(4,ti p1)] [] (Ret prog f155 M0 [] w0 (λ_=>[]) (λ_=>ti r) .ret):=by
  intro p1 he;subst he;simp only at h;obtain rfl:=sj h;exact Ql hpl
 refine Qm <|Qan h0 (λ(s0:Int)=>[(7,ti (s_.length:Int)),(8,ti s0),(0,tsl rI s_),(1,ti v_)]) (λ(s0:Int)=>[]) [0,1,2,3] ?_;clear h;intro s0 o K1 h ho k1;refine Qa [0,1,2,3,4] ?_;refine Qi λ_ k2=>Qq h (λ_ h=>?_) (λ_ h=>?_)
 ·refine Qt <|k2 <|Qi λ_ k3=>Qm <|Qa [1,3,4,5,6] ?_;have⟨_,_,h⟩:=bs h;refine Qa [5,6,7,8,9,10] ?_;refine Qq h (λ_ h=>?_) (λ_ h=>?_)
  ·refine Qa [1] ?_;refine Qap ?_;exact Qz J1 (ho _ (sj h).symm) [0]
  refine Qt <|k3 <|QL [1,4,5,6] ?_;exact Qz k1 ((sj h).symm) [1,0,2,3]
 refine QP <|Qz J0 (ho _ (sj h).symm) []
def Qdh (s_:(List Int)) (v_:Int):Option (Bool):=(Qen s_ v_).bind λt0=>(some (decide (t0>=0)))
instance QrB:Spc2 prog 103 Qdh (λs_ v_=>[tsl rI s_,ti v_]) tb:=.mk λ{s_ v_ r} h=>by
 unfold Qdh at h
 refine Fe func103 ntmps103 λM0 M w0 hpl=>?_
 refine Qa [1,2] ?_
 have⟨_,_,h⟩:=bs h
 refine Qa [4] ?_
 exact Qo h (·▸Ql hpl)
def Qbb (i_:Int) (c0_:(List Int)):Option (Bool):=(Qdh c0_ i_).bind λt0=>(some t0)
instance QlT:Spc2 prog 102 Qbb (λi_ c0_=>[ti i_,tptr ((rSl rI).cs c0_)]) tb:=.mk λ{i_ c0_ r} h=>by
 unfold Qbb at h
 refine Fe func102 ntmps102 λM0 M w0 hpl=>?_
 refine Qa [1,2] ?_
 have⟨_,_,h⟩:=bs h
 refine Qa [3] ?_
 exact Qo h (·▸Ql hpl)
def Qch (i_:Int) (c0_:(Int->Option Bool)) (c1_:Qau):Option (Bool):=(c0_ (i64.wrap ((c1_.Xo.length:Int)+i_))).bind λt0=>(some t0)
instance QlU:Spc3 prog 104 Qch (λi_ c0_ c1_=>[ti i_,tptr (rF81.cs c0_),tptr ((rPtr QS).cs c1_)]) tb:=.mk λ{i_ c0_ c1_ r} h=>by
 unfold Qch at h
 refine Fe func104 ntmps104 λM0 M w0 hpl=>?_
 refine Qa [1,2,3] ?_
 have⟨_,_,h⟩:=bs h
 refine Qa [9] ?_
 exact Qo h (·▸Ql hpl)
def QdW (k_:Int) (c0_:Qau) (c1_:(Int->Option Bool)):Option (Bool):=(Qdr c0_ k_ c1_).bind λt0=>(some (!t0.isEmpty))
instance Qtb:Spc3 prog 105 QdW (λk_ c0_ c1_=>[ti k_,tptr ((rPtr QS).cs c0_),tptr (rF81.cs c1_)]) tb:=.mk λ{k_ c0_ c1_ r} h=>by
 unfold QdW at h
 refine Fe func105 ntmps105 λM0 M w0 hpl=>?_
 refine Qa [1,2,3] ?_
 have⟨_,_,h⟩:=bs h
 refine Qa [5] ?_
 exact Qo h (·▸Ql hpl)
def QdE (s_:Qau) (some_:(List Int)):Option (Bool):=(QbS s_ (λx0=>Qbb x0 some_) (λx0=>QdW x0 s_ (λx0=>Qch x0 (λx0=>Qbb x0 some_) s_))).bind λt0=>(some t0)
instance Qjp:Spc2 prog 45 QdE (λs_ some_=>[tptr (QS.cs s_),tsl rI some_]) tb:=.mk λ{s_ some_ r} h=>by
 unfold QdE at h
 refine Fe func45 ntmps45 λM0 M w0 hpl=>?_
 refine Qa [0,1] ?_
 intro a w H
 refine sr mx [v1 1 (λv0=>box [tvs .nilFunc] v0),v1 1 (λv0=>box (rF81.cs (λx0=>Qbb x0 some_)) v0)] H (λ_=>.o (Qic (.cons z1<|.nil))<|.m [] [0] rfl rfl rfl (Qbo (R:=rVal) (a:=.nilFunc) Qse zokPf)<|.e [] [0] [1] rfl rfl rfl rfl (QaL (R:=rF81) (a:=(λx0=>Qbb x0 some_)) QsY z0 (Fct.Xp z1 (Qe2 QrZ (λ_ _ hq=>QlT.ok hq))) (leb rfl))<|.n) λ_ a w H=>?_
 replace H:St _ _ _ [_,_] [] _ _:=(((H.pick [1,2]).Xl 0 rfl).add 0 rfl (λ_ _ _ h=>h.2)).pick [0,3]
 refine Q8 H ?_
 intro a w H
 refine sr mx [v1 1 (λv0=>box [tvs .nilFunc] v0),v1 1 (λv0=>box (rF81.cs (λx0=>Qch x0 (λx0=>Qbb x0 some_) s_)) v0)] H (λ_=>.o (Qic (.cons z0<|.cons z1<|.nil))<|.m [] [0] rfl rfl rfl (Qbo (R:=rVal) (a:=.nilFunc) Qse zokPf)<|.e [] [0] [1] rfl rfl rfl rfl (QaL (R:=rF81) (a:=(λx0=>Qch x0 (λx0=>Qbb x0 some_) s_)) QsY z0 (Fct.Xp z1 (Qe2 Qr0 (λ_ _ hq=>QlU.ok hq))) (leb rfl))<|.n) λ_ a w H=>?_
 replace H:St _ _ _ [_,_,_] [] _ _:=(((H.pick [1,2,3]).Xl 0 rfl).add 0 rfl (λ_ _ _ h=>h.2)).pick [0,3,4]
 refine Q8 H ?_
 have⟨_,_,h⟩:=bs h
 refine Qa [4] ?_
 exact Qo h (·▸Ql hpl)
def Qeo (s_:(List Int)):Option ((List Int)):=(rm (([]:List Int).length+s_.length)).bind λ_=>(some (([]:List Int)++s_))
instance Qme:SpcS prog 47 (∀{s_:(List Int)} {r:(List Int)},Qeo s_=some r->FnOk prog 47 [tsl rI s_] [] (λv=>[own rI 3 r v]) (λv=>tv v)):=.mk λ{s_ r} h=>by
 unfold Qeo at h
 refine Fe func47 ntmps47 λM0 M w0 hpl=>?_
 refine Qa [1] ?_
 refine Qi λ_ k0=>?_
 refine Qa [1,2] ?_
 refine Qof 0 (λb0=>?_) ?_
 ·replace h:(some ([]:List Int))=some r:=by
   have⟨_,_,h⟩:=bs h;rw[b0] at h;exact h
  refine Qa [0] ?_;refine QN (λ_ _ H=>H.nil (rI) 3) ?_;exact Qo h (·▸QbR (.slice none 0 0) [0] hpl)
 refine Qt <|k0 ?_;have⟨_,_,h⟩:=bs h;refine QB [v1 0 (λv0=>own rI 3 ([]:List Int) v0),v1 2 (λv0=>own rI 3 (([]:List Int)++s_) v0)] [1,3] [2,3] λm0=>?_;exact Qo h (·▸QbR (m0 2) [0] hpl)
def QhD (x_:Qe) (names_:(List Str)):Option (Int):=(Qc5 x_).bind λt0=>(if (t0.2 !=0)=true then (some t0.2) else (Qgy x_).bind λt1=>(if (decide ((t1.Xo.length:Int)>16))=true then (some (4:Int)) else (Qu (λ(s0:Int×List Int)=>((if (decide (s0.1<(names_.length:Int)))=true then (idx names_ s0.1).bind λt2=>(Qbv t0.1 t2).bind λt3=>(opt (((decide (t3<0))==false)&&((decide ((s0.2.length:Int)>0))==true)) (idx s0.2 (i64.wrap ((s0.2.length:Int) - 1))) default).bind λt4=>(if ((decide (t3<0))||((decide ((s0.2.length:Int)>0))&&(decide (t3<=t4))))=true then (some (.inr (.inr (12:Int)))) else (rm (s0.2.length+[t3].length)).bind λ_=>(some (.inl ((i64.wrap (s0.1+1)),(s0.2++[t3]))))) else (some (.inr (.inl s0.2)))):Option ((Int×List Int)⊕((List Int)⊕(Int))))) ((0:Int),([]:List Int))).bind λe0=>(match e0 with | .inl p0=>(QdE t1 p0).bind λt5=>(if t5=true then (some (15:Int)) else (Qu (λ(s1:Int)=>((if (decide (s1<(p0.length:Int)))=true then (Qeo p0).bind λt6=>(Qe5 t6 s1 (i64.wrap (s1+1))).bind λt7=>(QdE t1 t7).bind λt8=>(if (!t8)=true then (some (.inr (.inr (15:Int)))) else (some (.inl (i64.wrap (s1+1))))) else (some (.inr (.inl ())))):Option ((Int)⊕((Unit)⊕(Int))))) (0:Int)).bind λe1=>(match e1 with | .inl _=>(some (0:Int)) | .inr p1=>(some p1))) | .inr p2=>(some p2))))
instance QpS:SpcS prog 11 (∀{x_:Qe} {names_:(List Str)} {r:Int},QhD x_ names_=some r->FnOk prog 11 [Qc.ty x_,tsl rS names_] [glo] (λ_=>[]) (λ_=>ti r)):=.mk λ{x_ names_ r} h=>by
 unfold QhD at h
 refine Fe func11 ntmps11 λM0 M w0 hpl=>?_
 refine Qa [0,3] ?_
 have⟨t0,_,h⟩:=bs h
 refine Qa [5,6,7,8] ?_
 refine tIfs h [1,2,3,4,5] (λ_ h=>?_) (λ_ h=>?_)
 ·refine Qa [1] ?_
  exact Qo h (·▸Ql hpl)
 have⟨t1,_,h⟩:=bs h
 refine Qa [2,4,7] ?_
 refine tIfs h [5,6,7,8] (λ_ h=>?_) (λ_ h=>?_)
 ·refine Qa [0] ?_
  exact Qo h (·▸Ql hpl)
 refine Qa [0,2,3,4] ?_
 refine QN (λ_ _ H=>H.nil (rI) 3) ?_
 refine Qi λK0 k0=>?_
 refine Qa [0,1,2,3,4,5] ?_
 have⟨e0,h0,h⟩:=bs h
 have J0:∀(p0:List Int) (y0:Value),(.inl p0)=e0->To M w0 78 [(8,tv y0),(7,tptr (QS.cs t1))] [own rI 3 p0 y0,glo] K0:=by
  intro p0 y0 he;subst he;simp only at h;refine k0 <|Qi λ_ k1=>?_;have⟨t2,h1,h⟩:=bs h;intro a w H;refine sr mx [] H (λ_=>.q 1 rfl<|.q 1 rfl<|.u [0] rfl rfl (QfL [own rI 3 p0 y0] QqL (Qjp.ok h1) (.cons (.of z1)<|.cons (.own z0 (.head _))<|.nil) (λ_=>Qd1) (λ_=>Qib (x:=undef)))<|.n) λ_ a w H=>?_;have H:=H.to [1,2,3,4] [_,_,_,_] [_,_] rfl rfl;refine Q8 H ?_;refine Qhs 1 (λb0=>?_) (λb0=>?_)
  ·replace h:=QdJ b0 h;refine Qa [0,1,3] ?_;exact Qo h (·▸Ql hpl)
  replace h:=QdK b0 h;refine Qt <|k1 <|Qi λK1 k2=>Qa [0,1,2,3,5,6] ?_;have⟨e1,h2,h⟩:=bs h;have J1:∀(p1:Unit),(.inl p1)=e1->To M w0 78 [] [glo] K1:=by
   intro p1 he;subst he;simp only at h;refine k2 <|Qa [0] ?_;exact Qo h (·▸Ql hpl)
  have J2:∀(p2:Int),(.inr p2)=e1->To M w0 78 [(4,ti p2)] [glo] (Ret prog f11 M0 [glo] w0 (λ_=>[]) (λ_=>ti r) .ret):=by
   intro p2 he;subst he;simp only at h;obtain rfl:=sj h;exact Ql hpl
  refine Qm <|Qan h2 (λ(s0:Int)=>[(64,ti (p0.length:Int)),(65,ti s0),(8,tv y0),(7,tptr (QS.cs t1))]) (λ(s0:Int)=>[own rI 3 p0 y0,glo]) [1,2,4,5] ?_;clear h;intro s0 o K2 h ho k3;refine Qa [0,1,2,3,4] ?_;refine Qi λ_ k4=>Qq h (λ_ h=>?_) (λ_ h=>?_)
  ·refine Qt <|k4 <|Qi λ_ k5=>Qm <|Qa [1,3,4,5,6] ?_;have⟨t3,h3,_,h4,t4,h5,h⟩:=bs3 h;intro a w H;refine sr mx [v1 2 (λv0=>own rI 3 t3 v0)] H (λ_=>.q 4 rfl<|.q 4 rfl<|.m [0] [2] rfl rfl rfl (QfL [own rI 3 p0 y0] QuB (Qme.ok h3) (.cons (.own z0 (.head _))<|.nil) (λ_=>Qd1) (λ_=>flatN1 (QvP (by intro x T h;simp at h;(first | (subst h;exact Qd1) | (rcases h with h | h | h<;>subst h<;>exact Qd1))))))<|.q 3 rfl<|.q 4 rfl<|.o (QaI z0 .k)<|.e [] [2] [] rfl rfl rfl rfl (QJ QuA ((QlN h4).roE QxF) (.cons (.of z3)<|.cons (.of z2)<|.cons (.of z0)<|.nil))<|.o (QJ QqL (Qjp.ok h5) (.cons (.of z6)<|.cons (.of z0)<|.nil))<|.o (QgK z0)<|.n) λ_ a w H=>?_;have H:=H.to [1,8,10,11,12,13] [_,_,_,_,_,_] [_,_] rfl rfl;refine Q8 H ?_;refine Qhs 1 (λb1=>?_) (λb1=>?_)
   ·replace h:=QdJ b1 h;refine Qa [0,1,5] ?_;refine Qap ?_;refine Qae (λ_ _ H=>(H.pick [0]).Xk [1] rfl) ?_;exact Qz J2 (ho _ (sj h).symm) [0]
   replace h:=QdK b1 h;refine Qt <|k5 <|QL [1,2,4,5,6] ?_;exact Qz k3 ((sj h).symm) [2,0,3,4]
  refine QP <|Qae (λ_ _ H=>(H.pick []).Xk [1] rfl) ?_;exact Qz J1 (ho _ (sj h).symm) []
 have J3:∀(p3:Int),(.inr p3)=e0->To M w0 78 [(4,ti p3)] [glo] (Ret prog f11 M0 [glo] w0 (λ_=>[]) (λ_=>ti r) .ret):=by
  intro p3 he;subst he;simp only at h;obtain rfl:=sj h;exact Ql hpl
 refine Qm <|QaJ h0 (λ(s1:Int×List Int) (y1:Value)=>[(29,tsl rS names_),(30,ti (names_.length:Int)),(31,ti s1.1),(8,tv y1),(7,tptr (QS.cs t1)),(5,tsl rS t0.1)]) (λ(s1:Int×List Int) (y1:Value)=>[own rI 3 s1.2 y1,glo]) (.slice none 0 0) [0,1,2,3,4,5] ?_;clear h;intro s1 y1 o K3 h ho k6;refine Qa [0,1,2,3,4,5,6] ?_;refine Qi λ_ k7=>Qq h (λ_ h=>?_) (λ_ h=>?_)
 ·refine Qt <|k7 <|Qi λ_ k8=>Qm ?_;have⟨_,_,h⟩:=bs h;refine Qa [2,4,5,6,7,8,9] ?_;have⟨t5,_,h⟩:=bs h;refine Qa [3,5,6,7,8,9,10] ?_;have⟨_,_,h⟩:=bs h;refine tIfs h [16,17,18,19,20,21,22,23] (λ_ h=>?_) (λ_ h=>?_)
  ·refine Qa [0,6] ?_;refine Qap ?_;refine Qae (λ_ _ H=>(H.pick [0]).Xk [1] rfl) ?_;exact Qz J3 (ho _ (sj h).symm) [0]
  have⟨_,_,h⟩:=bs h;refine Qah [v1 3 (λv0=>own rI 3 (s1.2++[t5]) v0)] [4] [3,4,7,8,9,10,11] λm0=>?_;refine k8 <|QL [1,2,3,4,5,6,7] ?_;refine Qae (λ_ _ H=>(H.pick [3,4,0,2,5,6]).Xk [1,0] rfl) ?_;exact QX k6 (m0 3) ((sj h).symm) [0,1,2,3,4,5]
 refine QP <|QX J0 y1 (ho _ (sj h).symm) [4,5]
def QeP:Option (Bool):=(QdD 1).bind λt0=>(Qh1 t0).bind λt1=>(QdD 0).bind λt2=>(Qh1 t2).bind λt3=>(opt (((t1.2==0)&&(t3.2==6))==true) (Qcg t1.1 [([97,32,108,101,97,115,116]:Str),([97,46,110,32,104,105,103,104]:Str),([114,117,108,101,58,114]:Str)]) default).bind λt4=>(opt ((((t1.2==0)&&(t3.2==6))&&t4)==true) (QdD 1) default).bind λt5=>(opt ((((t1.2==0)&&(t3.2==6))&&t4)==true) (QhD t5 t1.1) default).bind λt6=>(some ((((t1.2==0)&&(t3.2==6))&&t4)&&(t6==0)))
instance QzV:SpcS prog 13 (∀{r:Bool},QeP=some r->FnOk prog 13 [] [glo] (λ_=>[]) (λ_=>tb r)):=.mk λ{r} h=>by
 unfold QeP at h
 refine Fe func13 ntmps13 λM0 M w0 hpl=>?_
 refine Qa [] ?_
 have⟨_,_,t0,_,h⟩:=bs2 h
 refine Qa [5,6] ?_
 have⟨_,_,t1,_,h⟩:=bs2 h
 refine Qa [6,7,8] ?_
 have⟨t2,h0,_,h1,t3,h2,h⟩:=bs3 h
 intro a w H
 refine sr mx [] H (λ_=>.q 2 rfl<|.o (QcS z0 .k)<|.q 0 rfl<|.g rfl rfl bq0 (λ_=>Qar z3)<|.g rfl rfl bq1 (λhc=>QcS (.cond z0 hc) .k)<|.o (Qei z2 (λhp=>(.cond z0 (beqT hp))))<|.q 0 rfl<|.g rfl rfl bq0 (λ_=>Qar z8)<|.g rfl rfl bq1 (λ_=>Qak (R:=rS) (us:=[([97,32,108,101,97,115,116]:Str),([97,46,110,32,104,105,103,104]:Str),([114,117,108,101,58,114]:Str)]) ud25 tok9 (.cons .k<|.cons .k<|.cons .k<|.nil _) rfl (leb rfl))<|.g rfl rfl bq2 (λhc=>QJ Qus (QmJ.ok (QhI h0 hc)) (.cons (.of (.cond z1 hc))<|.cons (.of (.cond z0 hc))<|.nil))<|.o (Qei z3 (λhp=>(.cond z0 (beqT hp))))<|.q 0 rfl<|.g rfl rfl bq0 (λhc=>QJ QuC (QnD.ok (QhI h1 hc)) (.cons (.of .k)<|.nil))<|.g rfl rfl bq1 (λ_=>Qar z14)<|.gu [0] rfl rfl rfl bq2 (λhc=>(QJ Qur (QpS.ok (QhI h2 hc)) (.cons (.of (.cond z1 hc))<|.cons (.of (.cond z0 hc))<|.nil)).glo)<|.g rfl rfl bq3 (λhc=>QcS (.cond z0 hc) .k)<|.o (Qei z4 (λhp=>(.cond z0 (beqT hp))))<|.o (Qp z0)<|.n) λ_ a w H=>?_
 have H:=H.to [17] [_] [_] rfl rfl
 refine Q8 H ?_
 exact Qo h (·▸Ql hpl)
def QeQ (l_:(List Int)) (m_:(List Int)) (pick_:(List Int)) (at_:Int) (how_:Int) (by_:Int) (name_:Str):Option (Bool):=(Qhu l_ m_ at_ how_ by_).bind λt0=>(Qu (λ(s0:Int)=>((if (decide (s0<(t0.length:Int)))=true then (idx t0 s0).bind λt1=>(Qc5 t1).bind λt2=>(idx t0 s0).bind λt3=>(QfA t3).bind λt4=>(opt ((t2.2 !=t4.2)==false) (Qcg t2.1 t4.1) default).bind λt5=>(if ((t2.2 !=t4.2)||(!t5))=true then (some (.inr (.inr false))) else (Qu (λ(s1:Int×List Str)=>((if (decide (s1.1<(t4.1.length:Int)))=true then (QbX pick_ s1.1 2).bind λt6=>((if (t6==1)=true then (idx t4.1 s1.1).bind λt7=>(rm (s1.2.length+[t7].length)).bind λ_=>(some (s1.2++[t7])) else (some s1.2))).bind λp0=>(some (.inl ((i64.wrap (s1.1+1)),p0))) else (some (.inr s1.2))):Option ((Int×List Str)⊕((List Str))))) ((0:Int),([]:List Str))).bind λp1=>(rm (([]:List Str).length+p1.length)).bind λ_=>(rm ((([]:List Str)++p1).length+p1.length)).bind λ_=>(Qu (λ(s2:Int)=>((if (decide (s2<([p1,t4.1,([]:(List Str)),[name_],((([]:List Str)++p1)++p1)].length:Int)))=true then (idx t0 s0).bind λt8=>(idx [p1,t4.1,([]:(List Str)),[name_],((([]:List Str)++p1)++p1)] s2).bind λt9=>(Qhb t8 t9).bind λt10=>(idx t0 s0).bind λt11=>(idx [p1,t4.1,([]:(List Str)),[name_],((([]:List Str)++p1)++p1)] s2).bind λt12=>(Qhw t11 t12).bind λt13=>(opt ((t10.2 !=t13.2)==false) (QfD t10.1 t13.1) default).bind λt14=>(if ((t10.2 !=t13.2)||(!t14))=true then (some (.inr (.inr false))) else (some (.inl (i64.wrap (s2+1))))) else (some (.inr (.inl ())))):Option ((Int)⊕((Unit)⊕(Bool))))) (0:Int)).bind λe0=>(match e0 with | .inl _=>(idx t0 s0).bind λt15=>(Qhb t15 t2.1).bind λt16=>(opt ((t16.2==0)==true) (idx t0 s0) default).bind λt17=>(opt ((t16.2==0)==true) (QfD t16.1 t17) default).bind λt18=>(if ((t16.2==0)&&(!t18))=true then (some (.inr (.inr false))) else (some (.inl (i64.wrap (s0+1))))) | .inr p2=>(some (.inr (.inr p2))))) else (some (.inr (.inl ())))):Option ((Int)⊕((Unit)⊕(Bool))))) (0:Int)).bind λe1=>(match e1 with | .inl _=>QeP.bind λt19=>(some t19) | .inr p3=>(some p3))
instance QmL:SpcS prog 6 (∀{l_:(List Int)} {m_:(List Int)} {pick_:(List Int)} {at_:Int} {how_:Int} {by_:Int} {name_:Str} {r:Bool},QeQ l_ m_ pick_ at_ how_ by_ name_=some r->FnOk prog 6 [tsl rI l_,tsl rI m_,tsl rI pick_,ti at_,ti how_,ti by_,tv (.string (sB name_))] [glo] (λ_=>[]) (λ_=>tb r)):=.mk λ{l_ m_ pick_ at_ how_ by_ name_ r} h=>by
 unfold QeQ at h
 refine Fe func6 ntmps6 λM0 M w0 hpl=>?_
 refine Qa [1,2,3,4,5,6,7] ?_
 have⟨t0,_,h⟩:=bs h
 refine Qa [6,9,13] ?_
 refine Qi λK0 k0=>?_
 refine Qa [0,1,2,3] ?_
 have⟨e0,h0,h⟩:=bs h
 have J0:∀(p0:Unit),(.inl p0)=e0->To M w0 155 [] [glo] K0:=by
  intro p0 he;subst he;simp only at h;refine k0 ?_;have⟨_,_,h⟩:=bs h;refine Qa [1] ?_;exact Qo h (·▸Ql hpl)
 have J1:∀(p1:Bool),(.inr p1)=e0->To M w0 155 [(14,tb p1)] [glo] (Ret prog f6 M0 [glo] w0 (λ_=>[]) (λ_=>tb r) .ret):=by
  intro p1 he;subst he;simp only at h;obtain rfl:=sj h;exact Ql hpl
 refine Qm <|Qan h0 (λ(s0:Int)=>[(16,ti s0),(15,tsl Qc t0),(2,tsl rI pick_),(6,tv (.string (sB name_)))]) (λ(s0:Int)=>[glo]) [0,1,2,3] ?_;clear h;intro s0 o K1 h ho k1;refine Qi λ_ k2=>Qa [3,4,5,6,7] ?_;refine Qq h (λ_ h=>?_) (λ_ h=>?_)
 ·refine Qt <|k2 <|Qi λ_ k3=>Qm ?_;have⟨_,_,t1,_,h⟩:=bs2 h;refine Qa [8,9,11,12,13,14] ?_;have⟨_,_,t2,_,h⟩:=bs2 h;refine Qa [8,9,10,11,12,13,14,15] ?_;have⟨_,_,h⟩:=bs h;refine tIfs h [8,9,11,13,14,15,16] (λ_ h=>?_) (λ_ h=>?_)
  ·refine Qa [0] ?_;refine Qap ?_;exact Qz J1 (ho _ (sj h).symm) [0]
  refine Qa [0,2,3,4,5,6,7] ?_;refine QN (λ_ _ H=>H.nil (rS) 9) ?_;refine Qi λK2 k4=>Qa [0,1,2,3,4,5,6,7] ?_;have⟨e1,h1,h⟩:=bs h;have J2:∀(p2:List Str) (y0:Value),p2=e1->To M w0 155 [(21,tv y0),(19,tsl rS t2.1),(17,tsl rS t1.1),(16,ti s0),(15,tsl Qc t0),(2,tsl rI pick_),(6,tv (.string (sB name_)))] [own rS 9 p2 y0,glo] K2:=by
   intro p2 y0 he;subst he;refine k4 <|QN (by intro _ _ H;exact (H.Xn 0 rfl).pick [0,2,3,4,5,6,7]) ?_;have⟨_,h2,_,h3,h⟩:=bs2 h;intro a w H;refine sr mx [v1 4 (λv0=>own rS 9 ([]:List Str) v0),v1 6 (λv0=>own rS 9 (([]:List Str)++p2) v0)] H (λ_=>.q 0 rfl<|.q 2 rfl<|.q 8 rfl<|.o (Qak (R:=rS) (us:=[name_]) ud25 tok9 (.cons z0<|.nil _) rfl (leb rfl))<|.m [] [1] rfl rfl rfl (Qhq (R:=rS) (us:=([]:List Str)) ud25 tok9 (.nil _) rfl (leb rfl) (leb rfl))<|.q 5 rfl<|.e [] [1] [2] rfl rfl rfl rfl (Qa3 (R:=rS) ud25 tok9 (leb rfl) z1 z0 h2)<|.q 7 rfl<|.e [] [2] [] rfl rfl rfl rfl (.roE (Qa3 (R:=rS) ud25 tok9 (leb rfl) z1 z0 h3))<|.o (Qak (R:=(rSl rS)) (us:=[p2,t2.1,([]:(List Str)),[name_],((([]:List Str)++p2)++p2)]) underlying42 QjO (.cons z8<|.cons z7<|.cons .nilsl<|.cons z5<|.cons z0<|.nil _) rfl (leb rfl))<|.o (Qp z0)<|.n) λ_ a w H=>?_;have H:=H.to [10,13,14,15,16,17] [_,_,_,_,_,_] [_] rfl rfl;refine Q8 H ?_;refine Qi λK3 k5=>Qa [0,1,2,3,4,5,6] ?_;have⟨e2,h4,h⟩:=bs h;have J3:∀(p3:Unit),(.inl p3)=e2->To M w0 155 [(17,tsl rS t1.1),(16,ti s0),(15,tsl Qc t0),(2,tsl rI pick_),(6,tv (.string (sB name_)))] [glo] K3:=by
    intro p3 he;subst he;simp only at h;refine k5 ?_;have⟨_,_,t3,_,h⟩:=bs2 h;refine QB [v1 9 (λv0=>box (Qc.cs zz4) v0),v1 9 (λv0=>box (Qc.cs t3.1) v0)] [10,11] [9,10,12,13,14,15] λm0=>?_;refine QN (λ_ _ H=>(((H.Xk [1,0] rfl).Xl 0 rfl).add 0 rfl (λ_ _ _ h=>h.2)).pick [0,3,4,5,6,7]) ?_;have⟨_,_,_,_,h⟩:=bs2 h;refine Qa [10,13,14,15,16] ?_;refine Qq h (λ_ h=>?_) (λ_ h=>?_)
    ·refine Qa [0] ?_;refine Qap ?_;exact Qz J1 (ho _ (sj h).symm) [0]
    refine Qt <|k3 <|QL [2,4,5,6] ?_;exact Qz k1 ((sj h).symm) [0,1,2,3]
   have J4:∀(p4:Bool),(.inr p4)=e2->To M w0 155 [(14,tb p4)] [glo] (Ret prog f6 M0 [glo] w0 (λ_=>[]) (λ_=>tb r) .ret):=by
    intro p4 he;subst he;simp only at h;exact Qz J1 (ho _ (sj h).symm) [0]
   refine Qm <|Qan h4 (λ(s1:Int)=>[(24,ti s1),(23,tsl (rSl rS) [p2,t2.1,([]:(List Str)),[name_],((([]:List Str)++p2)++p2)]),(17,tsl rS t1.1),(16,ti s0),(15,tsl Qc t0),(2,tsl rI pick_),(6,tv (.string (sB name_)))]) (λ(s1:Int)=>[glo]) [0,1,2,3,4,5,6] ?_;clear h;intro s1 o K4 h ho k6;refine Qi λ_ k7=>Qa [3,4,5,6,7,8,9,10] ?_;refine Qq h (λ_ h=>?_) (λ_ h=>?_)
   ·refine Qt <|k7 <|Qi λ_ k8=>Qm ?_;have⟨_,_,_,_,t4,_,h⟩:=bs3 h;refine QB [v1 12 (λv0=>box (Qc.cs zz4) v0),v1 12 (λv0=>box (Qc.cs t4.1) v0)] [13,14] [12,13,15,16,17,18,19,20,21] λm1=>?_;refine QN (λ_ _ H=>(((H.Xk [1,0] rfl).Xl 0 rfl).add 0 rfl (λ_ _ _ h=>h.2)).pick [0,3,4,5,6,7,8,9,10]) ?_;have⟨_,_,_,_,t5,_,h⟩:=bs3 h;refine QB [v1 12 (λv0=>box (Qc.cs zz4) v0),v1 12 (λv0=>box (Qc.cs t5.1) v0)] [13,14] [12,13,14,15,16,17,18,19,20,21,22] λm2=>?_;refine QN (λ_ _ H=>(((H.Xk [1,0] rfl).Xl 0 rfl).add 0 rfl (λ_ _ _ h=>h.2)).pick [0,3,4,5,6,7,8,9,10,11,12]) ?_;have⟨_,_,h⟩:=bs h;refine Qa [8,13,14,15,16,17,18,19] ?_;refine Qq h (λ_ h=>?_) (λ_ h=>?_)
    ·refine Qa [0] ?_;refine Qap ?_;exact Qz J4 (ho _ (sj h).symm) [0]
    refine Qt <|k8 <|QL [2,4,5,6,7,8,9] ?_;exact Qz k6 ((sj h).symm) [0,1,2,3,4,5,6]
   refine QP <|Qz J3 (ho _ (sj h).symm) [3,4,5,6,7]
  refine Qm <|QaJ h1 (λ(s2:Int×List Str) (y1:Value)=>[(22,ti s2.1),(21,tv y1),(19,tsl rS t2.1),(17,tsl rS t1.1),(16,ti s0),(15,tsl Qc t0),(2,tsl rI pick_),(6,tv (.string (sB name_)))]) (λ(s2:Int×List Str) (y1:Value)=>[own rS 9 s2.2 y1,glo]) (.slice none 0 0) [0,1,2,3,4,5,6,7] ?_;clear h;intro s2 y1 o K5 h ho k9;refine Qi λ_ k10=>Qa [3,4,5,6,7,8,9,10,11] ?_;refine Qq h (λ_ h=>?_) (λ_ h=>?_)
  ·refine Qt <|k10 <|Qi λK6 k11=>Qm ?_;have⟨_,_,h⟩:=bs h;refine Qa [3,5,6,7,8,9,10,11,12] ?_;have⟨p5,h5,h⟩:=bs h;have J5:∀(y2:Value),To M w0 155 [(21,tv y2),(22,ti s2.1),(19,tsl rS t2.1),(17,tsl rS t1.1),(16,ti s0),(15,tsl Qc t0),(2,tsl rI pick_),(6,tv (.string (sB name_)))] [glo,own rS 9 p5 y2] K6:=by
    intro y2;refine k11 <|QL [2,3,4,5,6,7,8,9] ?_;refine Qae (λ_ _ H=>(H.pick [0,1,2,3,4,5,6,7]).Xk [1,0] rfl) ?_;exact QX k9 y2 ((sj h).symm) [0,1,2,3,4,5,6,7]
   replace h:=h5;clear h5;refine Qq h (λ_ h=>?_) (λ_ h=>?_)
   ·have⟨t6,_,_,_,h⟩:=bs2 h;refine Qah [v1 6 (λv0=>own rS 9 (s2.2++[t6]) v0)] [7] [6,7,9,10,11,12,13,14,15] λm3=>?_;obtain rfl:=sj h;exact QI (J5 (m3 6)) [1,2,3,4,5,6,7,8]
   refine Qt ?_;obtain rfl:=sj h;refine Qae (λ_ _ H=>(H.pick [2,1,3,4,5,6,7,8]).Xk [1,0] rfl) ?_;exact QI (J5 y1) [0,1,2,3,4,5,6,7]
  refine QP <|QX J2 y1 (ho _ (sj h).symm) [2,3,4,5,6,7,8]
 refine QP <|Qz J0 (ho _ (sj h).symm) []

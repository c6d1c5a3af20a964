/- The walk. No condition. -/
import Derived.Test.YtlajingmjmnfgaaGreatDoorGenJ
set_option linter.all false
open Go.Proofs.Tryz Go.IntKind
namespace Go.Proofs.YtlajingmjmnfgaaGreatDoor
noncomputable section
open Go.Sim
set_option maxRecDepth 100000
set_option maxHeartbeats 4000000
def QfC (x_:Qs) (y_:Qs):Option (Bool):=(opt ((x_.Xj==y_.Xj)==true) (Qbt x_.Xe y_.Xe) default).bind λt0=>(opt (((x_.Xj==y_.Xj)&&t0)==true) (Qdg x_.Xg y_.Xg) default).bind λt1=>(some (((x_.Xj==y_.Xj)&&t0)&&t1))
instance QwP:Spc2 prog 69 QfC (λx_ y_=>[Qn.ty x_,Qn.ty y_]) tb:=.mk λ{x_ y_ r} h=>by
 unfold QfC at h
 refine Fe func69 ntmps69 λM0 M w0 hpl=>?_
 refine Qa [0,1] ?_
 have⟨_,_,_,_,h⟩:=bs2 h
 refine Qa [19] ?_
 exact Qo h (·▸Ql hpl)
def QdV (s1_:(List Qh)) (s2_:(List Qh)):Option (Bool):=(if ((s1_.length:Int) !=(s2_.length:Int))=true then (some false) else (Qu (λ(s0:Int)=>((if (decide (s0<(s1_.length:Int)))=true then (idx s1_ s0).bind λt0=>(idx s2_ s0).bind λt1=>(if (!Qi3 t0 t1)=true then (some (.inr (.inr false))) else (some (.inl (i64.wrap (s0+1))))) else (some (.inr (.inl ())))):Option ((Int)⊕((Unit)⊕(Bool))))) (0:Int)).bind λe0=>(match e0 with | .inl _=>(some true) | .inr p0=>(some p0)))
instance Qta:Spc2 prog 72 QdV (λs1_ s2_=>[tsl Qk s1_,tsl Qk s2_]) tb:=.mk λ{s1_ s2_ r} h=>by
 unfold QdV at h
 refine Fe func72 ntmps72 λM0 M w0 hpl=>?_
 refine Qa [1,2] ?_
 refine tIfs h [4,5,6] (λ_ h=>?_) (λ_ h=>?_)
 ·refine Qa [0] ?_
  exact Qo h (·▸Ql hpl)
 refine Qi λK0 k0=>?_
 refine Qa [1,2,4,5] ?_
 have⟨e0,h0,h⟩:=bs h
 have J0:∀(p0:Unit),(.inl p0)=e0->To M w0 26 [] [] K0:=by
  intro p0 he;subst he;simp only at h;refine k0 <|Qa [0] ?_;exact Qo h (·▸Ql hpl)
 have J1:∀(p1:Bool),(.inr p1)=e0->To M w0 26 [(4,tb p1)] [] (Ret prog f72 M0 [] w0 (λ_=>[]) (λ_=>tb r) .ret):=by
  intro p1 he;subst he;simp only at h;obtain rfl:=sj h;exact Ql hpl
 refine Qm <|Qan h0 (λ(s0:Int)=>[(12,ti (s1_.length:Int)),(13,ti s0),(0,tsl Qk s1_),(1,tsl Qk s2_)]) (λ(s0:Int)=>[]) [0,1,2,3] ?_;clear h;intro s0 o K1 h ho k1;refine Qa [0,1,2,3,4] ?_;refine Qi λ_ k2=>Qq h (λ_ h=>?_) (λ_ h=>?_)
 ·refine Qt <|k2 <|Qi λ_ k3=>Qm <|Qa [1,3,4,5,6] ?_;have⟨t0,h1,t1,h2,h⟩:=bs2 h;intro a w H;refine sr mx [] H (λ_=>.q 3 rfl<|.q 1 rfl<|.o (QcL ud31 Qdb z1 z0 h1)<|.o (Q9 Qdb z0)<|.q 8 rfl<|.q 5 rfl<|.o (QcL ud31 Qdb z1 z0 h2)<|.o (Q9 Qdb z0)<|.o (Qrt z4 z0)<|.n) λ_ a w H=>?_;have H:=H.to [8,10,11,12,13] [_,_,_,_,_] [] rfl rfl;refine Q8 H ?_;refine Qq h (λ_ h=>?_) (λ_ h=>?_)
  ·refine Qa [0] ?_;refine Qap ?_;exact Qz J1 (ho _ (sj h).symm) [0]
  refine Qt <|k3 <|QL [1,3,4,5] ?_;exact Qz k1 ((sj h).symm) [1,0,2,3]
 refine QP <|Qz J0 (ho _ (sj h).symm) []
def QfD (a_:Qe) (b_:Qe):Option (Bool):=(opt ((a_.Version==b_.Version)==true) (QcF a_.Xa b_.Xa (λx0 x1=>QfB x0 x1)) default).bind λt0=>(opt (((a_.Version==b_.Version)&&t0)==true) (QcG a_.Xd b_.Xd (λx0 x1=>QfC x0 x1)) default).bind λt1=>(opt ((((a_.Version==b_.Version)&&t0)&&t1)==true) (QdV a_.Xc b_.Xc) default).bind λt2=>(some ((((a_.Version==b_.Version)&&t0)&&t1)&&t2))
instance QzU:Spc2 prog 23 QfD (λa_ b_=>[Qc.ty a_,Qc.ty b_]) tb:=.mk λ{a_ b_ r} h=>by
 unfold QfD at h
 refine Fe func23 ntmps23 λM0 M w0 hpl=>?_
 refine Qa [0,1] ?_
 have⟨_,_,_,_,_,_,h⟩:=bs3 h
 refine Qa [26] ?_
 exact Qo h (·▸Ql hpl)
def QdD (lo_:Int):Option (Qe):=(some (Qe.mk 0 [(Qf.mk ([97]:Str) lo_ 5 [(Qb.mk ([107]:Str) ([]:Str) ([]:Str) 0 0 0 ([]:(List Str)) ([]:(List Int))),(Qb.mk ([110]:Str) ([]:Str) ([]:Str) 2 0 3 ([]:(List Str)) ([]:(List Int)))])] ([]:(List Qs)) [(Qh.mk ([114]:Str) ([97]:Str) ([]:Str) ([110]:Str) (-9))]))
instance QnD:Spc1 prog 49 QdD (λlo_=>[ti lo_]) Qc.ty:=.mk λ{lo_ r} h=>by
 unfold QdD at h
 refine Fe func49 ntmps49 λM0 M w0 hpl=>?_
 refine QB [v1 0 (λv0=>box (Qc.cs zz4) v0)] [1] [0,1] λm0=>?_
 refine QB [v1 5 (λv0=>box (Qg.cs zz1) v0),v1 5 (λv0=>box (Qg.cs (Qf.mk ([97]:Str) lo_ (5:Int) [(Qb.mk ([107]:Str) ([]:Str) ([]:Str) (0:Int) (0:Int) (0:Int) ([]:(List Str)) ([]:(List Int))),(Qb.mk ([110]:Str) ([]:Str) ([]:Str) (2:Int) (0:Int) (3:Int) ([]:(List Str)) ([]:(List Int)))])) v0)] [6,7] [5,6] λm1=>?_
 refine QN (λ_ _ H=>(((H.Xk [1,0] rfl).Xl 0 rfl).add 0 rfl (λ_ _ _ h=>h.2)).pick [0,3]) ?_
 refine QB [v0 (box (Qc.cs (Qe.mk (0:Int) [(Qf.mk ([97]:Str) lo_ (5:Int) [(Qb.mk ([107]:Str) ([]:Str) ([]:Str) (0:Int) (0:Int) (0:Int) ([]:(List Str)) ([]:(List Int))),(Qb.mk ([110]:Str) ([]:Str) ([]:Str) (2:Int) (0:Int) (3:Int) ([]:(List Str)) ([]:(List Int)))])] ([]:(List Qs)) [(Qh.mk ([114]:Str) ([97]:Str) ([]:Str) ([110]:Str) (-9:Int))])) (m0 0))] [6] [6] λm2=>?_
 exact Qo h (·▸Ql hpl)
def Qgy (x_:Qe):Option (Qau):=(QcX x_).bind λt0=>(Qez x_).bind λt1=>(Qu (λ(s0:Int×List QF)=>((if (decide (s0.1<(x_.Xa.length:Int)))=true then (idx x_.Xa s0.1).bind λt2=>(Qu (λ(s1:Int×List QF)=>((if (decide (s1.1<(t2.Xb.length:Int)))=true then (idx t2.Xb s1.1).bind λt3=>((if (t3.Xi==1)=true then (Qeu x_ s0.1 s1.1).bind λt4=>(rm (s1.2.length+[(QF.mk s0.1 t4)].length)).bind λ_=>(some (s1.2++[(QF.mk s0.1 t4)])) else (some s1.2))).bind λp0=>(some (.inl ((i64.wrap (s1.1+1)),p0))) else (some (.inr s1.2))):Option ((Int×List QF)⊕((List QF))))) ((0:Int),s0.2)).bind λp1=>(some (.inl ((i64.wrap (s0.1+1)),p1))) else (some (.inr s0.2))):Option ((Int×List QF)⊕((List QF))))) ((0:Int),([]:List QF))).bind λp2=>(some (Qau.mk x_ t0.1 t1 p2))
instance QpN:SpcS prog 29 (∀{x_:Qe} {r:Qau},Qgy x_=some r->FnOk prog 29 [Qc.ty x_] [glo] (λ_=>[]) (λ_=>tptr (QS.cs r))):=.mk λ{x_ r} h=>by
 unfold Qgy at h
 refine Fe func29 ntmps29 λM0 M w0 hpl=>?_
 refine Qa [0] ?_
 have⟨t0,h0,h⟩:=bs h
 intro a w H
 refine sr mx [] H (λ_=>.o (Q9 QbJ z0)<|.u [0] rfl rfl ((QJ QqM ((Qkj.ok h0).roE (T':=ttup [tsl QM t0.1,tsl rS t0.2.1,ti t0.2.2]) QxH) (.cons (.of z0)<|.nil)).glo)<|.q 0 rfl<|.o (Qam z0 rfl)<|.o (Qam z1 rfl)<|.o (Qam z2 rfl)<|.o (Qp z2)<|.o (Qp z2)<|.o (Qp z2)<|.n) λ_ a w H=>?_
 have H:=H.t2_1 [6,9]
 refine Q8 H ?_
 have⟨t1,h1,h⟩:=bs h
 intro a w H
 refine sr mx [v1 5 (λv0=>box (Qc.cs x_++[tsl QM t0.1,tsl QU t1,tvs nilV]) v0)] H (λ_=>.o (Q9 QbJ z1)<|.q 1 rfl<|.o (Q9 QbJ z3)<|.o (QJ QuE (QpM.ok h1) (.cons (.of z0)<|.nil))<|.p (T:=tagg (Qc.cs x_++[tsl QM t0.1,tsl QU t1,tvs nilV])) rfl (QaF underlying79 pl79 zv79 Qwc.1 (.cons (R:=Qc) (u:=x_) rfl z3 (leb rfl)<|.cons (R:=(rSl QM)) (u:=t0.1) rfl z2 (leb rfl)<|.cons (R:=(rSl QU)) (u:=t1) rfl z0 (leb rfl)<|.nil _))<|.m [] [1] rfl rfl rfl (Qqh (R:=(rAgg (Qc.cs x_++[tsl QM t0.1,tsl QU t1,tvs nilV]) (Qj3 (Qj2 Qc) (Qv QbV (Qv QbV (Qv QcB Qaa)))))) (u:=()) z0)<|.ud (f:=λv=>tv v) 5 rfl [] rfl rfl (Qp z0)<|.n) λm0 a w H=>?_
 replace H:St _ _ _ [_,_] [_,_,_] _ _:=(H.pick [6,8]).nil (Qai) 112
 refine Q8 H ?_
 refine Qi λK0 k0=>?_
 refine Qa [1,2,3,4,5] ?_
 have⟨e0,h2,h⟩:=bs h
 have J0:∀(p0:List QF) (y0:Value),p0=e0->To M w0 60 [(6,tv (m0 5))] [own Qai 112 p0 y0,glo,box (Qc.cs x_++[tsl QM t0.1,tsl QU t1,tvs y0]) (m0 5)] K0:=by
  intro p0 y0 he;subst he;refine k0 <|Qa [1] ?_;refine Qap ?_;refine Qae (As'':=[box (QS.cs (Qau.mk x_ t0.1 t1 p0)) (m0 5),glo]) (λ_ _ H=>((H.pick [0]).Xk [0,2,1] rfl).Xm 6 rfl) ?_;refine Qae (λ_ _ H=>((H.Xl 0 rfl).add 0 rfl (λ_ _ _ h=>h.2)).pick [0]) ?_;obtain rfl:=sj h;exact Ql hpl
 refine Qm <|QaJ h2 (λ(s0:Int×List QF) (y1:Value)=>[(24,tsl Qg x_.Xa),(25,ti (x_.Xa.length:Int)),(26,ti s0.1),(6,tv (m0 5)),(1,tptr (Qc.cs x_))]) (λ(s0:Int×List QF) (y1:Value)=>[own Qai 112 s0.2 y1,glo,box (Qc.cs x_++[tsl QM t0.1,tsl QU t1,tvs y1]) (m0 5)]) nilV [0,1,2,3,4] ?_;clear h;intro s0 y1 o K1 h ho k1;refine Qa [0,1,2,3,4,5] ?_;refine Qi λ_ k2=>Qq h (λ_ h=>?_) (λ_ h=>?_)
 ·refine Qt <|k2 <|Qi λK2 k3=>Qm ?_;have⟨t2,_,h⟩:=bs h;refine QB [v1 3 (λv0=>box (Qg.cs zz1) v0),v1 3 (λv0=>box (Qg.cs t2) v0)] [4,6] [3,4,6,7,8,9,10] λm1=>?_;refine QN (λ_ _ H=>(((H.Xk [3,0,1,2] rfl).Xl 0 rfl).add 0 rfl (λ_ _ _ h=>h.2)).pick [0,3,4,5,6,7,8]) ?_;refine Qa [1,2,3,5,6,7,8,9,10] ?_;have⟨e1,h3,h⟩:=bs h;have J1:∀(p1:List QF) (y2:Value),p1=e1->To M w0 60 [(24,tsl Qg x_.Xa),(25,ti (x_.Xa.length:Int)),(26,ti s0.1),(6,tv (m0 5)),(1,tptr (Qc.cs x_))] [own Qai 112 p1 y2,glo,box (Qc.cs x_++[tsl QM t0.1,tsl QU t1,tvs y2]) (m0 5)] K2:=by
   intro p1 y2 he;subst he;refine k3 <|QL [1,2,3,4,5] ?_;exact QX k1 y2 ((sj h).symm) [1,2,0,3,4]
  refine Qm <|QaJ h3 (λ(s1:Int×List QF) (y3:Value)=>[(32,tsl Qd t2.Xb),(33,ti (t2.Xb.length:Int)),(34,ti s1.1),(7,ti s0.1),(24,tsl Qg x_.Xa),(25,ti (x_.Xa.length:Int)),(26,ti s0.1),(6,tv (m0 5)),(1,tptr (Qc.cs x_))]) (λ(s1:Int×List QF) (y3:Value)=>[own Qai 112 s1.2 y3,glo,box (Qc.cs x_++[tsl QM t0.1,tsl QU t1,tvs y3]) (m0 5)]) y1 [0,1,2,3,4,5,6,7,8] ?_;clear h;intro s1 y3 o K3 h ho k4;refine Qa [0,1,2,3,4,5,6,7,8,9] ?_;refine Qi λ_ k5=>Qq h (λ_ h=>?_) (λ_ h=>?_)
  ·refine Qt <|k5 <|Qi λK4 k6=>Qm ?_;have⟨t3,_,h⟩:=bs h;refine QB [v1 3 (λv0=>box (Qd.cs zz0) v0),v1 3 (λv0=>box (Qd.cs t3) v0)] [4,6] [3,4,6,7,8,9,10,11,12,13,14] λm2=>?_;refine QN (λ_ _ H=>(((H.Xk [3,0,1,2] rfl).Xl 0 rfl).add 0 rfl (λ_ _ _ h=>h.2)).pick [0,3,4,5,6,7,8,9,10,11,12]) ?_;refine Qa [2,4,5,6,7,8,9,10,11,12,13] ?_;have⟨p2,h4,h⟩:=bs h;have J2:∀(y4:Value),To M w0 60 [(32,tsl Qd t2.Xb),(33,ti (t2.Xb.length:Int)),(34,ti s1.1),(7,ti s0.1),(24,tsl Qg x_.Xa),(25,ti (x_.Xa.length:Int)),(26,ti s0.1),(6,tv (m0 5)),(1,tptr (Qc.cs x_))] [glo,own Qai 112 p2 y4,box (Qc.cs x_++[tsl QM t0.1,tsl QU t1,tvs y4]) (m0 5)] K4:=by
    intro y4;refine k6 <|QL [1,2,3,4,5,6,7,8,9] ?_;refine Qae (λ_ _ H=>(H.pick [1,2,0,3,4,5,6,7,8]).Xk [1,0,2] rfl) ?_;exact QX k4 y4 ((sj h).symm) [0,1,2,3,4,5,6,7,8]
   replace h:=h4;clear h4;refine Qq h (λ_ h=>?_) (λ_ h=>?_)
   ·have⟨t4,_,_,_,h⟩:=bs2 h;refine Qah [v1 12 (λv0=>own Qai 112 (s1.2++[(QF.mk s0.1 t4)]) v0),v1 12 (λv0=>box (Qc.cs x_++[tsl QM t0.1,tsl QU t1,tvs v0]) (m0 5))] [13,16] [12,17,18,19,20,21,22,23,24,25] λm3=>?_;obtain rfl:=sj h;exact QI (J2 (m3 12)) [1,2,3,4,5,6,7,8,9]
   refine Qt ?_;obtain rfl:=sj h;refine Qae (λ_ _ H=>(H.pick [2,3,4,5,6,7,8,9,10]).Xk [1,0,2] rfl) ?_;exact QI (J2 y3) [0,1,2,3,4,5,6,7,8]
  refine QP <|QX J1 y3 (ho _ (sj h).symm) [5,6,7,8,9]
 refine QP <|QX J0 y1 (ho _ (sj h).symm) [4]
def Qgq (n_:Int) (l_:(List QV)):Option ((List Q5)×Int):=(if ((decide (n_>10))||(decide ((l_.length:Int)>64)))=true then (some (([]:List Q5),(4:Int))) else (if (decide (n_<0))=true then (some (([]:List Q5),(1:Int))) else (mk (l_.length:Int) zz5).bind λt0=>(Qu (λ(s0:Int×List Q5)=>((if (decide (s0.1<(l_.length:Int)))=true then (idx l_ s0.1).bind λt1=>(if (((((decide ((imin t1.A t1.B)<(-1:Int)))||(decide ((imax t1.A t1.B)>=n_)))||(t1.A==t1.B))||(decide (t1.N<(-2097152:Int))))||(decide (t1.N>2097152)))=true then (some (.inr (.inr ((1:Int),([]:List Q5))))) else (nz (i64.wrap (n_+1))).bind λ_=>(nz (i64.wrap (n_+1))).bind λ_=>(setAt s0.2 s0.1 (Q5.mk (Int.tmod (i64.wrap ((i64.wrap (t1.A+n_))+1)) (i64.wrap (n_+1))) (Int.tmod (i64.wrap ((i64.wrap (t1.B+n_))+1)) (i64.wrap (n_+1))) t1.N)).bind λt2=>(some (.inl ((i64.wrap (s0.1+1)),t2)))) else (some (.inr (.inl s0.2)))):Option ((Int×List Q5)⊕((List Q5)⊕(Int×List Q5))))) ((0:Int),t0)).bind λe0=>(match e0 with | .inl p0=>(some (p0,(0:Int))) | .inr p1=>(some (p1.2,p1.1)))))
instance Qol:SpcS prog 87 (∀{n_:Int} {l_:(List QV)} {r:(List Q5)×Int},Qgq n_ l_=some r->FnOk prog 87 [ti n_,tsl QaA l_] [] (λv=>[own Q1 212 r.1 v]) (λv=>ttup [tv v,ti r.2])):=.mk λ{n_ l_ r} h=>by
 unfold Qgq at h
 refine Fe func87 ntmps87 λM0 M w0 hpl=>?_
 refine Qa [2,3] ?_
 refine tIfs h [6,7,8] (λ_ h=>?_) (λ_ h=>?_)
 ·refine Qa [0,1] ?_
  refine QN (λ_ _ H=>H.nil (Q1) 212) ?_
  exact Qo h (·▸QbR (.slice none 0 0) [0] hpl)
 refine tIfs h [1,3,4] (λ_ h=>?_) (λ_ h=>?_)
 ·refine Qa [0,1] ?_
  refine QN (λ_ _ H=>H.nil (Q1) 212) ?_
  exact Qo h (·▸QbR (.slice none 0 0) [0] hpl)
 have⟨t0,_,h⟩:=bs h
 refine QB [v1 2 (λv0=>own Q1 212 t0 v0)] [3] [2,3,5,6] λm0=>?_
 refine Qi λK0 k0=>?_
 refine Qa [0,1,2,3,4,5] ?_
 have⟨e0,h0,h⟩:=bs h
 have J0:∀(p0:List Q5),(.inl p0)=e0->To M w0 84 [(6,tv (m0 2))] [own Q1 212 p0 (m0 2)] K0:=by
  intro p0 he;subst he;simp only at h;refine k0 <|Qa [0,1,2,3] ?_;exact Qo h (·▸QbR (m0 2) [0] hpl)
 have J1:∀(p1:Int×List Q5) (y0:Value),(.inr p1)=e0->To M w0 84 [(4,tv y0),(5,ti p1.1)] [own Q1 212 p1.2 y0] (Ret prog f87 M0 [] w0 (λv=>[own Q1 212 r.1 v]) (λv=>ttup [tv v,ti r.2]) .ret):=by
  intro p1 y0 he;subst he;simp only at h;obtain rfl:=sj h;exact QbR y0 [0] hpl
 refine Qm <|Qan h0 (λ(s0:Int×List Q5)=>[(21,tsl QaA l_),(22,ti (l_.length:Int)),(23,ti s0.1),(6,tv (m0 2)),(0,ti n_)]) (λ(s0:Int×List Q5)=>[own Q1 212 s0.2 (m0 2)]) [0,1,2,4,5] ?_;clear h;intro s0 o K1 h ho k1;refine Qa [0,1,2,3,4,5] ?_;refine Qi λ_ k2=>Qq h (λ_ h=>?_) (λ_ h=>?_)
 ·refine Qt <|k2 <|Qi λ_ k3=>Qm ?_;have⟨t1,_,h⟩:=bs h;refine QB [v1 3 (λv0=>box (QaA.cs (QV.mk (0:Int) (0:Int) (0:Int))) v0),v1 3 (λv0=>box (QaA.cs t1) v0)] [4,6] [3,4,6,7,8,9,10] λm1=>?_;refine QN (λ_ _ H=>(((H.Xk [1,0] rfl).Xl 0 rfl).add 0 rfl (λ_ _ _ h=>h.2)).pick [0,3,4,5,6,7,8]) ?_;refine tIfs h [31,32,33,34,35,36,37,38] (λ_ h=>?_) (λ_ h=>?_)
  ·refine Qa [0,1,8] ?_;refine QN (λ_ _ H=>H.nil (Q1) 212) ?_;refine Qap ?_;refine Qae (λ_ _ H=>(H.pick [0,1]).Xk [0] rfl) ?_;exact QX J1 (.slice none 0 0) (ho _ (sj h).symm) [0,1]
  have⟨_,_,_,_,t2,_,h⟩:=bs3 h;refine Qah [v0 (own Q1 212 t2 (m0 2))] [23] [0,25,26,27,28,29] λm2=>?_;refine k3 <|QL [1,2,3,4,5,6] ?_;exact Qz k1 ((sj h).symm) [2,3,0,4,5]
 refine QP <|Qz J0 (ho _ (sj h).symm) [4]
def Qnn (x_:Int) (y_:Int):Option (Int×Int):=(some ((u32.wrap (ishr .u64 (u64.wrap ((u64.wrap x_) * (u64.wrap y_))) (32:Int))),(u32.wrap (u64.wrap ((u64.wrap x_) * (u64.wrap y_))))))
instance QAl:Spc2 prog 210 Qnn (λx_ y_=>[tv (.int .u32 x_),tv (.int .u32 y_)]) (λr=>ttup [tv (.int .u32 r.1),tv (.int .u32 r.2)]):=.mk λ{x_ y_ r} h=>by
 unfold Qnn at h
 refine Fe func210 ntmps210 λM0 M w0 hpl=>?_
 refine Qa [2,3] ?_
 intro a w H
 refine sr mx [] H (λ_=>.q 0 rfl<|.o (Qfp Qp5 Qoa z0)<|.q 3 rfl<|.o (Qfp Qp5 Qoa z0)<|.o (QnL z2 z0)<|.o (Qp z0)<|.n) λ_ a w H=>?_
 have H:=H.t1_0 [5]
 refine Q8 H ?_
 intro a w H
 refine sr mx [] H (λ_=>.q 0 rfl<|.o (Qcm z0 .k (by decide))<|.o (Qfp Qoa Qp5 z0)<|.q 3 rfl<|.o (Qfp Qoa Qp5 z0)<|.o (Qp z2)<|.o (Qp z1)<|.n) λ_ a w H=>?_
 have H:=H.t2_0 [5,6]
 refine Q8 H ?_
 exact Qo h (·▸Ql hpl)
def Qhx (x_:Int) (y_:Int):Option (Int×Int):=(some ((u64.wrap ((u64.wrap ((u64.wrap ((ishr .u64 x_ (32:Int)) * (ishr .u64 y_ (32:Int))))+(ishr .u64 (u64.wrap ((u64.wrap ((ishr .u64 x_ (32:Int)) * (iand .u64 y_ (4294967295:Int))))+(ishr .u64 (u64.wrap ((iand .u64 x_ (4294967295:Int)) * (iand .u64 y_ (4294967295:Int)))) (32:Int)))) (32:Int))))+(ishr .u64 (u64.wrap ((iand .u64 (u64.wrap ((u64.wrap ((ishr .u64 x_ (32:Int)) * (iand .u64 y_ (4294967295:Int))))+(ishr .u64 (u64.wrap ((iand .u64 x_ (4294967295:Int)) * (iand .u64 y_ (4294967295:Int)))) (32:Int)))) (4294967295:Int))+(u64.wrap ((iand .u64 x_ (4294967295:Int)) * (ishr .u64 y_ (32:Int)))))) (32:Int)))),(u64.wrap (x_ * y_))))
instance QAm:Spc2 prog 211 Qhx (λx_ y_=>[tv (.int .u64 x_),tv (.int .u64 y_)]) (λr=>ttup [tv (.int .u64 r.1),tv (.int .u64 r.2)]):=.mk λ{x_ y_ r} h=>by
 unfold Qhx at h
 refine Fe func211 ntmps211 λM0 M w0 hpl=>?_
 refine Qa [2,3] ?_
 intro a w H
 refine sr mx [] H (λ_=>.q 0 rfl<|.o (Qdq z0 .k)<|.o (Qp z0)<|.n) λ_ a w H=>?_
 have H:=H.t3_0 [2,3,4]
 refine Q8 H ?_
 intro a w H
 refine sr mx [] H (λ_=>.q 1 rfl<|.o (Qcm z0 .k (by decide))<|.o (Qp z0)<|.n) λ_ a w H=>?_
 have H:=H.to [2,3,4,5] [_,_,_,_] [] rfl rfl
 refine Q8 H ?_
 intro a w H
 refine sr mx [] H (λ_=>.q 3 rfl<|.o (Qdq z0 .k)<|.o (Qp z0)<|.n) λ_ a w H=>?_
 have H:=H.to [2,3,4,5,6] [_,_,_,_,_] [] rfl rfl
 refine Q8 H ?_
 intro a w H
 refine sr mx [] H (λ_=>.q 4 rfl<|.o (Qcm z0 .k (by decide))<|.o (Qp z0)<|.n) λ_ a w H=>?_
 have H:=H.to [2,3,4,5,6,7] [_,_,_,_,_,_] [] rfl rfl
 refine Q8 H ?_
 refine Qa [3,4,5,6,7,8,9] ?_
 intro a w H
 refine sr mx [] H (λ_=>.q 3 rfl<|.q 3 rfl<|.o (QnL z1 z0)<|.q 3 rfl<|.o (Qcm z0 .k (by decide))<|.o (QaI z2 z0)<|.o (Qp z0)<|.n) λ_ a w H=>?_
 have H:=H.to [6,8,10,11,12,13] [_,_,_,_,_,_] [] rfl rfl
 refine Q8 H ?_
 intro a w H
 refine sr mx [] H (λ_=>.q 0 rfl<|.o (Qdq z0 .k)<|.o (Qp z0)<|.n) λ_ a w H=>?_
 have H:=H.to [2,3,4,5,6,7,8] [_,_,_,_,_,_,_] [] rfl rfl
 refine Q8 H ?_
 intro a w H
 refine sr mx [] H (λ_=>.q 1 rfl<|.o (Qcm z0 .k (by decide))<|.o (Qp z0)<|.n) λ_ a w H=>?_
 have H:=H.to [2,3,5,6,7,8,9] [_,_,_,_,_,_,_] [] rfl rfl
 refine Q8 H ?_
 refine Qa [5,6,7,8,10,11] ?_
 intro a w H
 refine sr mx [] H (λ_=>.q 3 rfl<|.q 3 rfl<|.o (QnL z1 z0)<|.q 4 rfl<|.o (QaI z1 z0)<|.q 5 rfl<|.o (Qcm z0 .k (by decide))<|.o (QaI z2 z0)<|.o (Qp z0)<|.n) λ_ a w H=>?_
 have H:=H.t3_0 [8,13,14]
 refine Q8 H ?_
 refine Qa [3,4] ?_
 exact Qo h (·▸Ql hpl)
def Qjo (x_:Int) (y_:Int):Option (Int×Int):=(Qhx x_ y_).bind λt0=>(some (t0.1,t0.2))
instance QrA:Spc2 prog 177 Qjo (λx_ y_=>[tv (.int .u64 x_),tv (.int .u64 y_)]) (λr=>ttup [tv (.int .u64 r.1),tv (.int .u64 r.2)]):=.mk λ{x_ y_ r} h=>by
 unfold Qjo at h
 refine Fe func177 ntmps177 λM0 M w0 hpl=>?_
 refine Qa [2,3] ?_
 refine Qi λ_ k0=>?_
 refine Qsh ?_
 refine Qt ?_
 refine k0 ?_
 have⟨_,_,h⟩:=bs h
 refine Qa [6,7] ?_
 refine Qa [2,3] ?_
 exact Qo h (·▸Ql hpl)
def QcY (x_:(List Int)) (count_:Int):Option ((List Int)):=(if (decide (count_<0))=true then none else (Qjo (u64.wrap (x_.length:Int)) (u64.wrap count_)).bind λt0=>(if ((decide (t0.1>0))||(decide (t0.2>9223372036854775807)))=true then none else (mk (i64.wrap t0.2) (0:Int)).bind λt1=>(Qu (λ(s0:Int×List Int)=>((if (decide (s0.1<(s0.2.length:Int)))=true then (sub s0.2 s0.1 (s0.2.length:Int)).bind λt2=>(sub s0.2 0 s0.1).bind λt3=>(some (.inl ((i64.wrap (s0.1+(Nat.min t3.length t2.length:Int))),(s0.2.take (s0.1).toNat++cpy t2 t3++s0.2.drop ((s0.2.length:Int)).toNat)))) else (some (.inr s0.2))):Option ((Int×List Int)⊕((List Int))))) ((Nat.min x_.length t1.length:Int),(cpy t1 x_))).bind λp0=>(some p0)))
instance QlS:SpcS prog 133 (∀{x_:(List Int)} {count_:Int} {r:(List Int)},QcY x_ count_=some r->FnOk prog 133 [tsl rI x_,ti count_] [] (λv=>[own rI 3 r v]) (λv=>tv v)):=.mk λ{x_ count_ r} h=>by
 unfold QcY at h
 refine Fe func133 ntmps133 λM0 M w0 hpl=>?_
 refine Qa [1,2] ?_
 refine tIfs h [1,2,3] (λ_ h=>?_) (λ_ h=>?_)
 ·cases h
 have⟨t0,h0,h⟩:=bs h
 intro a w H
 refine sr mx [] H (λ_=>.q 1 rfl<|.o (Qgd ud22 z0)<|.o (Qfp ud3 underlying86 z0)<|.q 5 rfl<|.o (Qfp ud3 underlying86 z0)<|.o (QJ Qr4 (QrA.ok h0) (.cons (.of z2)<|.cons (.of z0)<|.nil))<|.q 0 rfl<|.o (Qam z0 rfl)<|.o (Qam z1 rfl)<|.o (Qp z1)<|.o (Qp z1)<|.n) λ_ a w H=>?_
 have H:=H.t3_0 [9,10,12]
 refine Q8 H ?_
 refine tIfs h [5,7,8] (λ_ h=>?_) (λ_ h=>?_)
 ·cases h
 have⟨t1,h1,h⟩:=bs h
 intro a w H
 refine sr mx [v1 2 (λv0=>own rI 3 t1 v0)] H (λ_=>.q 1 rfl<|.o (Qfp underlying86 ud3 z0)<|.m [] [0] rfl rfl rfl (Qkb (R:=rI) ud22 tok3 zok3 (leb rfl) z0 z0 h1)<|.ud (f:=λv=>tv v) 2 rfl [] rfl rfl (Qp z0)<|.n) λm0 a w H=>?_
 have H:=H.to [2,3,6] [_,_,_] [_] rfl rfl
 refine Q8 H ?_
 intro a w H
 refine sr mx [v0 (own rI 3 (cpy t1 x_) (m0 2))] H (λ_=>.q 1 rfl<|.q 3 rfl<|.e [] [0] [1] rfl rfl rfl rfl (QxJ (R:=rI) ud22 rfl tok3 z1 z0)<|.o (Qp z0)<|.n) λ_ a w H=>?_
 have H:=H.t4_1 [0,3,4,5]
 refine Q8 H ?_
 refine Qi λK0 k0=>?_
 have⟨e0,h2,h⟩:=bs h
 have J0:∀(p0:List Int),p0=e0->To M w0 48 [(7,tv (m0 2))] [own rI 3 p0 (m0 2)] K0:=by
  intro p0 he;subst he;refine k0 <|Qa [0,1,2] ?_;exact Qo h (·▸QbR (m0 2) [0] hpl)
 refine Qm <|Qan h2 (λ(s0:Int×List Int)=>[(8,ti s0.1),(7,tv (m0 2))]) (λ(s0:Int×List Int)=>[own rI 3 s0.2 (m0 2)]) [1,3] ?_;clear h;intro s0 o K1 h ho k1;refine Qi λ_ k2=>Qa [1,3,4,5] ?_;refine Qhs 1 (λb0=>?_) (λb0=>?_)
 ·replace h:=QdJ b0 h;refine Qt <|k2 <|Qm ?_;have⟨t2,h3,t3,h4,h⟩:=bs2 h;intro a w H;refine wr mx [v0 (own rI 3 (s0.2.take (s0.1).toNat++cpy t2 t3++s0.2.drop ((s0.2.length:Int)).toNat) (m0 2))] H (λ_=>.q 2 rfl<|.q 4 rfl<|.q 4 rfl<|.u [0] rfl rfl (Qk2 (R:=rI) ud22 tok3 z1 (.op z0) (.no _) h3)<|.q 7 rfl<|.q 7 rfl<|.u [0] rfl rfl (Qk2 (R:=rI) ud22 tok3 z1 (.no _) (.op z0) h4)<|.e [] [0] [1] rfl rfl rfl rfl (Qsz (R:=rI) (xs:=s0.2) ud22 rfl tok3 z3 z0 h3 h4)<|.o (QaI z7 z0)<|.o (Qp z0)<|.n) λ_ a w H=>?_;have H:=H.to [1,4,9,10,12] [_,_,_,_,_] [_] rfl rfl;refine Qcz H ?_;exact Qz k1 ((sj h).symm) [2,4]
 replace h:=QdK b0 h;refine QP <|Qz J0 (ho _ (sj h).symm) [3]
def Qd5 (v_:Int) (s_:Int) (n_:Int) (c0_:(List (List Int))) (c1_:Int):Option (Bool):=(idx c0_ s_).bind λt0=>(idx t0 v_).bind λt1=>(opt ((decide (t1<1099511627776))==true) (idx c0_ s_) default).bind λt2=>(opt ((decide (t1<1099511627776))==true) (idx t2 v_) default).bind λt3=>(some ((decide (t1<1099511627776))&&(decide ((i64.wrap ((i64.wrap (c1_+n_))+t3))<0))))
instance QjI:Spc5 prog 178 Qd5 (λv_ s_ n_ c0_ c1_=>[ti v_,ti s_,ti n_,tptr ((rSl (rSl rI)).cs c0_),tptr (rI.cs c1_)]) tb:=.mk λ{v_ s_ n_ c0_ c1_ r} h=>by
 unfold Qd5 at h
 refine Fe func178 ntmps178 λM0 M w0 hpl=>?_
 refine Qa [1,2,3,4,5] ?_
 have⟨_,_,_,_,_,_,_,_,h⟩:=bs4 h
 refine Qa [22] ?_
 exact Qo h (·▸Ql hpl)
def Qgr (n_:Int) (l_:(List Q5)) (first_:Int) (many_:Int):Option ((List Int)):=(QcY [(1099511627776:Int)] (i64.wrap (n_+1))).bind λt0=>(idx [t0] 0).bind λr2=>(idx l_ first_).bind λt1=>(setAt r2 t1.a (0:Int)).bind λt2=>(setAt [t0] (0:Int) t2).bind λm9=>(Qu (λ(s0:Int×List (List Int))=>((if (decide (s0.1<many_))=true then (QcY [(1099511627776:Int)] (i64.wrap (n_+1))).bind λt3=>(sub l_ (i64.wrap (first_+1)) (l_.length:Int)).bind λt4=>(Qu (λ(s1:Int×List Int)=>((if (decide (s1.1<(t4.length:Int)))=true then (idx t4 s1.1).bind λt5=>(idx s0.2 (i64.wrap (s0.1 - 1))).bind λr3=>(idx r3 t5.b).bind λt6=>((if (decide (t6<1099511627776))=true then (idx s1.2 t5.a).bind λt7=>(setAt s1.2 t5.a (imin t7 (i64.wrap (t6+t5.n)))).bind λt8=>(some t8) else (some s1.2))).bind λp0=>(some (.inl ((i64.wrap (s1.1+1)),p0))) else (some (.inr s1.2))):Option ((Int×List Int)⊕((List Int))))) ((0:Int),t3)).bind λp1=>(rm (s0.2.length+1)).bind λ_=>(some (.inl ((i64.wrap (s0.1+1)),(s0.2++[p1])))) else (some (.inr s0.2))):Option ((Int×List (List Int))⊕((List (List Int)))))) ((1:Int),m9)).bind λp2=>(idx l_ first_).bind λt9=>(idx l_ first_).bind λt10=>(Qd5 t9.b (i64.wrap (many_ - 1)) 0 p2 t10.n).bind λt11=>(if (!t11)=true then (some ([]:List Int)) else (Qu (λ(s2:Int×Int×List Int×Int)=>((if (decide (s2.1>=0))=true then ((Qu (λ(s3:Int)=>((if (decide (s3<(l_.length:Int)))=true then (idx l_ s3).bind λt12=>(opt ((t12.a==s2.2.1)==true) (Qd5 t12.b s2.1 t12.n p2 s2.2.2.2) default).bind λt13=>(if ((t12.a==s2.2.1)&&t13)=true then (rm (s2.2.2.1.length+[s3].length)).bind λ_=>(some (.inr (.inr (t12.b,(s2.2.2.1++[s3]),(i64.wrap (s2.2.2.2+t12.n)))))) else (some (.inl (i64.wrap (s3+1))))) else (some (.inr (.inl ())))):Option ((Int)⊕((Unit)⊕(Int×List Int×Int))))) (i64.wrap (first_+1))).bind λe0=>(match e0 with | .inl _=>(some (s2.2.1,s2.2.2.1,s2.2.2.2)) | .inr p3=>(some (p3.1,p3.2.1,p3.2.2)))).bind λp4=>(some (.inl ((i64.wrap (s2.1 - 1)),p4.1,p4.2.1,p4.2.2))) else (some (.inr s2.2.2.1))):Option ((Int×Int×List Int×Int)⊕((List Int))))) ((i64.wrap (many_ - 2)),t9.b,[first_],t10.n)).bind λp5=>(ne p5).bind λ_=>(some p5))
instance Qxu:Spc4 prog 134 Qgr (λn_ l_ first_ many_=>[ti n_,tsl Q1 l_,ti first_,ti many_]) (tsn rI):=.mk λ{n_ l_ first_ many_ r} h=>by
 unfold Qgr at h
 refine Fe func134 ntmps134 λM0 M w0 hpl=>?_
 intro a w H
 refine sr mx [] H (λ_=>.o (Qp (.nilsn (R:=rI)))<|.n) λ_ a w H=>?_
 have H:=H.to [1,2,3,4] [_,_,_,_] [] rfl rfl
 refine Q8 H ?_
 refine QuR ?_
 have⟨t0,h0,h⟩:=bs h
 intro a w H
 refine sr mx [v1 3 (λv0=>own rI 3 t0 v0),v2 3 4 (λv0 v1=>own rVal 22 [v0] v1),v1 5 (λv0=>box (rVal.cs nilV) v0),v2 4 5 (λv0 v1=>box (rVal.cs v0) v1)] H (λ_=>.o (Qak (R:=rI) (us:=[(1099511627776:Int)]) ud22 tok3 (.cons .k<|.nil _) rfl (leb rfl))<|.q 1 rfl<|.o (QaI z0 .k)<|.m [] [0] rfl rfl rfl (QJ Qr2 (QlS.ok h0) (.cons (.of z2)<|.cons (.of z0)<|.nil))<|.m [0] [1] rfl rfl rfl (QxI (R:=rI) (e:=3) (xs:=t0) ud68 QbB z0)<|.m [] [2] rfl rfl rfl (QfM Qft)<|.e [1] [2] [3] rfl rfl rfl rfl (QdL (R:=rVal) (e:=22) (Ts:=(rVal.cs nilV)) Qft z0 z1 (leb rfl))<|.n) λm0 a w H=>?_
 replace H:St _ _ _ [_,_,_,_,_,_,_] [_,_,_] _ _:=(((H.pick [3,4,5,6,7,8,9]).rowsN (rI) 3).Xk [1,0,2,3] rfl).push
 refine Q8 H ?_
 refine Qi λ_ k0=>?_
 have⟨r2,h1,t1,h2,_,h3,m9,hm9,h⟩:=bs4 h
 intro a w H
 refine wr mx [v0 (rows rI 3 m9 [(m0 3)])] H (λ_=>.u [2] rfl rfl (Qbm Qft z2)<|.u [1,0] rfl rfl (Qpb ud68 QbB z0 .k h1)<|.u [1,0] rfl rfl (Qpc QbB z0 h1)<|.q 7 rfl<|.q 9 rfl<|.o (QcL underlying165 QqB z1 z0 h2)<|.o (Q4 Qnz z0)<|.o (Q2 (u:=t1.a) tok3 z0 rfl)<|.u [0] rfl rfl (Qsv ud22 tok3 z5 z0 h1 h3)<|.e [] [0] [3] rfl rfl rfl rfl (QtK tok3 z0 .k h1 h3 hm9)<|.n) λ_ a w H=>?_
 have H:=H.to [0,10,11,12,13,14,15] [_,_,_,_,_,_,_] [_,_,_] rfl rfl
 refine Qcz H ?_
 refine k0 ?_
 refine Qi λK0 k1=>?_
 refine Qa [0,1,2,3,4,5,6,7] ?_
 have⟨e0,h4,h⟩:=bs h
 have J0:∀(p0:List (List Int)) (y0:Value) (us114:List Value),p0=e0->To M w0 145 [(9,tv (m0 5)),(1,tsl Q1 l_),(2,ti first_),(3,ti many_)] [own rVal 22 us114 y0,box (rVal.cs y0) (m0 5),rows rI 3 p0 us114] K0:=by
  intro p0 y0 us114 he;subst he;refine k1 ?_;have⟨t2,h5,h⟩:=bs h;replace h:=bk h5 h;refine QB [v1 1 (λv0=>own rI 3 [first_] v0),v1 12 (λv0=>box (rI.cs (0:Int)) v0),v1 12 (λv0=>box (rI.cs t2.n) v0)] [2,13,16] [1,12,13,14,15,16,17,18] λm1=>?_;refine Qa [1,2,3,4,5,7,8,9] ?_;refine Qi λ_ k2=>?_;have⟨t3,h6,h⟩:=bs h;intro a w H;refine sr mx [] H (λ_=>.q 0 rfl<|.q 5 rfl<|.q 9 rfl<|.o (Qqf z0 .k)<|.u [1,0,2,4] rfl rfl (Qqn [box (rVal.cs y0) (m0 5),own rVal 22 us114 y0,rows rI 3 p0 us114,box (rI.cs t2.n) (m1 12)] QoO (QjI.ok h6) z3 (.cons (Qpe (.head _) (.tail _ (.head _)) (.tail _ (.tail _ (.head _))))<|.cons (Qql (.tail _ (.tail _ (.tail _ (.head _)))))<|.nil) (.cons (.of z2)<|.cons (.of z0)<|.cons (.of .k)<|.nil) (λ_=>Qd1) (λ_=>Qib (x:=undef)))<|.o (QgK z0)<|.n) λ_ a w H=>?_;have H:=H.t9_5 [5,6,7,8,9,10,11,12,13];refine Q8 H ?_;refine Qq h (λ_ h=>?_) (λ_ h=>?_)
  ·intro a w H;refine sr mx [] H (λ_=>.o (Qp (.nilsn (R:=rI)))<|.n) λ_ a w H=>?_;replace H:St _ _ _ [_,_,_] [_] _ _:=(H.pick [0,3,5]).Xk [3] rfl;refine Q8 H ?_;exact Qo h (·▸Ql hpl)
  refine Qt <|k2 <|Qi λ_ k3=>QuS ?_;refine k3 <|Qi λK1 k4=>Qa [2,4,5,6,7,8,9,10] ?_;have⟨e1,h7,h⟩:=bs h;have J1:∀(p1:List Int) (y1:Value),p1=e1->To M w0 145 [(15,tv y1)] [own rI 3 p1 y1] K1:=by
   intro p1 y1 he;subst he;refine k4 <|Qa [0,1,2] ?_;refine Qap ?_;have⟨_,hne,h⟩:=bs h;refine Qae (by intro _ _ H;exact (H.Xn 1 rfl).pick [0]) ?_;obtain rfl:=sj h;exact oEndR hpl (.tmp (.sn z0 (ne_ok hne)) .nil)
  refine Qm <|QaJ h7 (λ(s0:Int×Int×List Int×Int) (y2:Value)=>[(19,ti s0.1),(18,QaN 178 [tv (m0 5),tv (m1 12)]),(17,tv (m1 12)),(15,tv y2),(16,ti s0.2.1),(1,tsl Q1 l_),(2,ti first_)]) (λ(s0:Int×Int×List Int×Int) (y2:Value)=>[own rVal 22 us114 y0,box (rVal.cs y0) (m0 5),rows rI 3 p0 us114,own rI 3 s0.2.2.1 y2,box (rI.cs s0.2.2.2) (m1 12)]) (m1 1) [0,1,3,4,5,6,7] ?_;clear h;intro s0 y2 o K2 h ho k5;refine Qi λ_ k6=>Qa [1,2,3,4,5,6,7,8] ?_;refine Qq h (λ_ h=>?_) (λ_ h=>?_)
  ·refine Qt <|k6 <|Qi λK3 k7=>?_;have⟨p2,h8,h⟩:=bs h;have J2:∀(y3:Value),To M w0 145 [(19,ti s0.1),(18,QaN 178 [tv (m0 5),tv (m1 12)]),(17,tv (m1 12)),(15,tv y3),(16,ti p2.1),(1,tsl Q1 l_),(2,ti first_)] [own rVal 22 us114 y0,box (rVal.cs y0) (m0 5),rows rI 3 p0 us114,own rI 3 p2.2.1 y3,box (rI.cs p2.2.2) (m1 12)] K3:=by
    intro y3;refine k7 <|QL [2,3,4,5,6,7,8] ?_;exact QX k5 y3 ((sj h).symm) [0,1,2,3,4,5,6]
   replace h:=h8;clear h8;refine Qm <|Qa [2,4,5,6,7,8,9,10] ?_;have⟨e3,h9,h⟩:=bs h;have J3:∀(p3:Unit),(.inl p3)=e3->To M w0 145 [(19,ti s0.1),(18,QaN 178 [tv (m0 5),tv (m1 12)]),(17,tv (m1 12)),(15,tv y2),(16,ti s0.2.1),(1,tsl Q1 l_),(2,ti first_)] [own rVal 22 us114 y0,box (rVal.cs y0) (m0 5),rows rI 3 p0 us114,own rI 3 s0.2.2.1 y2,box (rI.cs s0.2.2.2) (m1 12)] K3:=by
    intro p3 he;subst he;simp only at h;obtain rfl:=sj h;exact QI (J2 y2) [0,1,2,3,4,5,6]
   have J4:∀(p4:Int×List Int×Int) (y4:Value),(.inr p4)=e3->To M w0 145 [(15,tv y4),(16,ti p4.1),(19,ti s0.1),(18,QaN 178 [tv (m0 5),tv (m1 12)]),(17,tv (m1 12)),(1,tsl Q1 l_),(2,ti first_)] [own rVal 22 us114 y0,box (rVal.cs y0) (m0 5),rows rI 3 p0 us114,own rI 3 p4.2.1 y4,box (rI.cs p4.2.2) (m1 12)] K3:=by
    intro p4 y4 he;subst he;simp only at h;obtain rfl:=sj h;exact QI (J2 y4) [2,3,4,0,1,5,6]
   refine Qm <|Qan h9 (λ(s1:Int)=>[(20,ti s1),(19,ti s0.1),(18,QaN 178 [tv (m0 5),tv (m1 12)]),(17,tv (m1 12)),(15,tv y2),(16,ti s0.2.1),(1,tsl Q1 l_),(2,ti first_)]) (λ(s1:Int)=>[own rVal 22 us114 y0,box (rVal.cs y0) (m0 5),rows rI 3 p0 us114,own rI 3 s0.2.2.1 y2,box (rI.cs s0.2.2.2) (m1 12)]) [0,1,2,3,4,5,6,7] ?_;clear h;intro s1 o K4 h ho k8;refine Qi λ_ k9=>Qa [3,4,5,6,7,8,9,10,11] ?_;refine Qq h (λ_ h=>?_) (λ_ h=>?_)
   ·refine Qt <|k9 <|Qi λ_ k10=>Qm ?_;have⟨t4,_,h⟩:=bs h;refine QB [v1 4 (λv0=>box (Q1.cs zz5) v0),v1 4 (λv0=>box (Q1.cs t4) v0)] [5,6] [4,6,7,8,9,10,11,12,13] λm2=>?_;refine QN (λ_ _ H=>(((H.Xk [5,0,1,2,3,4] rfl).Xl 0 rfl).add 0 rfl (λ_ _ _ h=>h.2)).pick [0,3,4,5,6,7,8,9,10]) ?_;have⟨t5,h10,h⟩:=bs h;intro a w H;refine sr mx [] H (λ_=>.o (Q4 Qnz z0)<|.o (Q2 (u:=t4.a) tok3 z0 rfl)<|.q 8 rfl<|.o (QcS z1 z0)<|.q 0 rfl<|.g rfl rfl bq0 (λ_=>Qar z8)<|.g rfl rfl bq1 (λ_=>Q4 QnA z6)<|.g rfl rfl bq2 (λhc=>Q2 (u:=t4.b) tok3 (.cond z0 hc) rfl)<|.g rfl rfl bq3 (λ_=>Qar z10)<|.g rfl rfl bq4 (λ_=>Q4 QqE z9)<|.g rfl rfl bq5 (λhc=>Q2 (u:=t4.n) tok3 (.cond z0 hc) rfl)<|.gu [1,0,2,4] rfl rfl rfl bq6 (λhc=>Qqn [box (rVal.cs y0) (m0 5),own rVal 22 us114 y0,rows rI 3 p0 us114,box (rI.cs s0.2.2.2) (m1 12)] QoO (QjI.ok (QhI h10 hc)) (.cond z5 hc) (.cons (Qpe (.head _) (.tail _ (.head _)) (.tail _ (.tail _ (.head _))))<|.cons (Qql (.tail _ (.tail _ (.tail _ (.head _)))))<|.nil) (.cons (.of (.cond z3 hc))<|.cons (.of (.cond z2 hc))<|.cons (.of (.cond z0 hc))<|.nil) (λ_=>Qd1) (λ_=>Qib (x:=undef)))<|.o (Qei z7 (λhp=>(.cond z0 (beqT hp))))<|.n) λ_ a w H=>?_;have H:=H.t10_5 [12,13,14,15,16,17,18,19,20,21];refine Q8 H ?_;refine Qq h (λ_ h=>?_) (λ_ h=>?_)
    ·have⟨_,_,h⟩:=bs h;refine QB [v1 3 (λv0=>own rI 3 (s0.2.2.1++[s1]) v0),v0 (box (rI.cs (i64.wrap (s0.2.2.2+t4.n))) (m1 12))] [4,13] [3,10,11,15,16,17,18,19] λm3=>?_;refine QP <|QX J4 (m3 3) (ho _ (sj h).symm) [1,2,3,4,5,6,7]
    refine Qt <|k10 <|QL [2,5,6,7,8,9,10,11] ?_;exact Qz k8 ((sj h).symm) [0,1,2,3,4,5,6,7]
   refine QP <|Qz J3 (ho _ (sj h).symm) [2,3,4,5,6,7,8]
  refine QP <|Qae (λ_ _ H=>(H.pick [4]).Xk [3] rfl) ?_;exact QX J1 y2 (ho _ (sj h).symm) [0]
 refine Qm <|Qld h4 (λ(s2:Int×List (List Int)) (y5:Value) (us63:List Value)=>[(10,ti s2.1),(9,tv (m0 5)),(0,ti n_),(1,tsl Q1 l_),(2,ti first_),(3,ti many_)]) (λ(s2:Int×List (List Int)) (y5:Value) (us63:List Value)=>[own rVal 22 us63 y5,box (rVal.cs y5) (m0 5),rows rI 3 s2.2 us63]) (m0 4) ([(m0 3)]) [0,3,4,5,6,7] ?_;clear h;intro s2 y5 us63 o K5 h ho k11;refine Qi λ_ k12=>Qa [2,3,4,5,6,7,8] ?_;refine Qq h (λ_ h=>?_) (λ_ h=>?_)
 ·refine Qt <|k12 <|Qi λ_ k13=>Qm ?_;have⟨t6,_,h⟩:=bs h;refine QB [v1 3 (λv0=>own rI 3 t6 v0)] [4] [3,4,6,7,8,9,10,11] λm4=>?_;refine Qi λK6 k14=>?_;have⟨t7,_,h⟩:=bs h;refine Qa [3,4,5,6,7,8,9,10,11,12,13] ?_;have⟨e4,h11,h⟩:=bs h;have J5:∀(p5:List Int),p5=e4->To M w0 145 [(11,tv (m4 3)),(10,ti s2.1),(9,tv (m0 5)),(0,ti n_),(1,tsl Q1 l_),(2,ti first_),(3,ti many_)] [own rVal 22 us63 y5,box (rVal.cs y5) (m0 5),rows rI 3 s2.2 us63,own rI 3 p5 (m4 3)] K6:=by
   intro p5 he;subst he;refine k14 ?_;have⟨_,h12,h⟩:=bs h;intro a w H;refine wr mx [v1 3 (λv0=>own rVal 22 (us63++[(m4 3)]) v0),v1 3 (λv0=>box (rVal.cs v0) (m0 5))] H (λ_=>.u [1] rfl rfl (Qbm Qft z2)<|.q 1 rfl<|.u [3] rfl rfl (op_hdr (R:=rI) (e:=3) (xs:=p5) ud68 QbB z0)<|.e [2] [0] [4] rfl rfl rfl rfl (Qsx (R:=rI) (e2:=3) (ws:=[(m4 3)]) ud68 QbB (leb rfl) z2 z0 h12)<|.e [4] [1] [5] rfl rfl rfl rfl (QdL (R:=rVal) (e:=22) (Ts:=(rVal.cs y5)) Qft z6 z0 (leb rfl))<|.n) λm5 a w H=>?_;replace H:St _ _ _ [_,_,_,_,_,_,_,_,_] [_,_,_] _ _:=((H.pick [1,3,4,5,6,7,8,9,10]).Xk [1,0,2,3] rfl).push;refine Qcz H ?_;refine k13 <|QL [2,4,6,7,8,9,10] ?_;refine Qae (λ_ _ H=>(H.pick [0,2,3,4,5,6]).Xk [1,2,0] rfl) ?_;exact Qgh k11 (m5 3) (us63++[(m4 3)]) ((sj h).symm) [0,1,2,3,4,5]
  refine Qm <|Qan h11 (λ(s3:Int×List Int)=>[(48,tsl Q1 t7),(49,ti (t7.length:Int)),(50,ti s3.1),(11,tv (m4 3)),(10,ti s2.1),(9,tv (m0 5)),(0,ti n_),(1,tsl Q1 l_),(2,ti first_),(3,ti many_)]) (λ(s3:Int×List Int)=>[own rVal 22 us63 y5,box (rVal.cs y5) (m0 5),rows rI 3 s2.2 us63,own rI 3 s3.2 (m4 3)]) [0,1,2,4,5,6,7,8,9,10] ?_;clear h;intro s3 o K7 h ho k15;refine Qa [0,1,2,3,4,5,6,7,8,9,10] ?_;refine Qi λ_ k16=>Qq h (λ_ h=>?_) (λ_ h=>?_)
  ·refine Qt <|k16 <|Qi λK8 k17=>Qm ?_;have⟨t8,_,h⟩:=bs h;refine QB [v1 2 (λv0=>box (Q1.cs zz5) v0),v1 2 (λv0=>box (Q1.cs t8) v0)] [3,4] [2,4,5,6,7,8,9,10,11,12,13] λm6=>?_;refine QN (λ_ _ H=>(((H.Xk [4,0,1,2,3] rfl).Xl 0 rfl).add 0 rfl (λ_ _ _ h=>h.2)).pick [0,3,4,5,6,7,8,9,10,11,12]) ?_;refine Qi λ_ k18=>?_;have⟨r3,h13,t9,h14,h⟩:=bs2 h;intro a w H;refine wr mx [] H (λ_=>.u [1] rfl rfl (Qbm Qft z6)<|.q 6 rfl<|.o (Qqf z0 .k)<|.u [0,2] rfl rfl (Qpb ud68 QbB z2 z0 h13)<|.u [0,2] rfl rfl (Qpc QbB z0 h13)<|.o (Q4 QnA z5)<|.o (Q2 (u:=t8.b) tok3 z0 rfl)<|.u [2] rfl rfl (Qsu ud22 tok3 z2 z0 h13 h14)<|.u [2] rfl rfl (QvQ tok3 z0 h13 h14)<|.o (Qp z0)<|.n) λ_ a w H=>?_;have H:=H.to [0,9,10,11,12,13,14,15,16,17,18,19,20] [_,_,_,_,_,_,_,_,_,_,_,_,_] [_,_,_,_] rfl rfl;refine Qcz H ?_;refine k18 <|Qa [1,2,3,4,5,6,7,8,9,10,11,12,13,14] ?_;have⟨p6,h15,h⟩:=bs h;have J6:To M w0 145 [(48,tsl Q1 t7),(49,ti (t7.length:Int)),(50,ti s3.1),(11,tv (m4 3)),(10,ti s2.1),(9,tv (m0 5)),(0,ti n_),(1,tsl Q1 l_),(2,ti first_),(3,ti many_)] [own rVal 22 us63 y5,box (rVal.cs y5) (m0 5),rows rI 3 s2.2 us63,own rI 3 p6 (m4 3)] K8:=by
    refine k17 <|QL [1,2,3,4,5,6,7,8,9,10] ?_;exact Qz k15 ((sj h).symm) [1,2,0,3,4,5,6,7,8,9]
   replace h:=h15;clear h15;refine Qq h (λ_ h=>?_) (λ_ h=>?_)
   ·have⟨_,_,t10,_,h⟩:=bs2 h;refine Qah [v0 (own rI 3 t10 (m4 3))] [15] [0,3,15,18,19,20,21,22,23,24,25,26,27] λm7=>?_;obtain rfl:=sj h;exact QI J6 [3,4,5,6,7,8,9,10,11,12]
   refine Qt ?_;obtain rfl:=sj h;exact QI J6 [4,5,6,7,8,9,10,11,12,13]
  refine QP <|Qz J5 (ho _ (sj h).symm) [4,5,6,7,8,9,10]
 refine QP <|Qgh J0 y5 us63 (ho _ (sj h).symm) [2,4,5,6]

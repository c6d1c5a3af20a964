/- The walk. No condition. -/
import Derived.Test.YtlajingmjmnfgaaGreatDoorGenC
set_option linter.all false
open Go.Proofs.Tryz Go.IntKind
namespace Go.Proofs.YtlajingmjmnfgaaGreatDoor
noncomputable section
open Go.Sim
set_option maxRecDepth 100000
set_option maxHeartbeats 4000000
def QdW (l_:(List QC)) (right_:(QC->Option Bool)):Option (Bool):=(Qa1 l_ (λx0=>Qf7 x0 right_)).bind λt0=>(some (!t0))
instance QvN:Spc2 prog 122 QdW (λl_ right_=>[tsl QA l_,Qkw.ty right_]) tb:=.mk λ{l_ right_ r} h=>by
 unfold QdW at h
 refine Fe func122 ntmps122 λM0 M w0 hpl=>?_
 refine Qa [0,2] ?_
 have⟨_,_,h⟩:=bs h
 refine Qa [4] ?_
 exact Qo h (·▸Ql hpl)
def QdX (m_:QR) (c0_:Int):Option (Bool):=(Qbb m_.a0 0 (i64.wrap (c0_ - 1))).bind λt0=>(opt (t0==true) (Qbb m_.a1 0 (i64.wrap (c0_ - 1))) default).bind λt1=>(some (t0&&t1))
instance QvO:Spc2 prog 170 QdX (λm_ c0_=>[Qat.ty m_,tptr (rI.cs c0_)]) tb:=.mk λ{m_ c0_ r} h=>by
 unfold QdX at h
 refine Fe func170 ntmps170 λM0 M w0 hpl=>?_
 refine Qa [0,3] ?_
 have⟨_,_,_,_,h⟩:=bs2 h
 refine Qa [12] ?_
 exact Qo h (·▸Ql hpl)
def Qfm (x_:QR) (c0_:(QR->Option Bool)):Option (Bool):=(c0_ x_).bind λt0=>(some (!t0))
instance Qr4:Spc2 prog 205 Qfm (λx_ c0_=>[Qat.ty x_,tptr (QkA.cs c0_)]) tb:=.mk λ{x_ c0_ r} h=>by
 unfold Qfm at h
 refine Fe func205 ntmps205 λM0 M w0 hpl=>?_
 refine Qa [0,3] ?_
 have⟨_,_,h⟩:=bs h
 refine Qa [4] ?_
 exact Qo h (·▸Ql hpl)
def QbT (s_:(List QR)) (f_:(QR->Option Bool)):Option (Int):=(Qm (λ(s0:Int)=>((if (decide (s0<(s_.length:Int)))=true then (idx s_ s0).bind λt0=>(f_ t0).bind λt1=>(if t1=true then (some (.inr (.inr s0))) else (some (.inl (i64.wrap (s0+1))))) else (some (.inr (.inl ())))):Option ((Int)⊕((Unit)⊕(Int))))) (0:Int)).bind λe0=>(match e0 with | .inl _=>(some (-1:Int)) | .inr p0=>(some p0))
instance QpU:Spc2 prog 223 QbT (λs_ f_=>[tsl Qat s_,QkA.ty f_]) ti:=.mk λ{s_ f_ r} h=>by
 unfold QbT at h
 refine Fe func223 ntmps223 λM0 M w0 hpl=>?_
 refine Qa [1,2] ?_
 refine Qf λK0 k0=>?_
 refine Qa [1,2,3,4] ?_
 have⟨e0,h0,h⟩:=bs h
 have J0:∀(p0:Unit),(.inl p0)=e0->To M w0 19 [] [] K0:=by
  intro p0 he;subst he;simp only at h;refine k0 <|Qa [0] ?_;exact Qo h (·▸Ql hpl)
 have J1:∀(p1:Int),(.inr p1)=e0->To M w0 19 [(4,ti p1)] [] (Ret prog f223 M0 [] w0 (λ_=>[]) (λ_=>ti r) .ret):=by
  intro p1 he;subst he;simp only at h;obtain rfl:=sj h;exact Ql hpl
 refine Qj <|Qai h0 (λ(s0:Int)=>[(7,ti (s_.length:Int)),(8,ti s0),(0,tsl Qat s_),(1,QkA.ty f_)]) (λ(s0:Int)=>[]) [0,1,2,3] ?_;clear h;intro s0 o K1 h ho k1;refine Qa [0,1,2,3,4] ?_;refine Qf λ_ k2=>Qn h (λ_ h=>?_) (λ_ h=>?_)
 ·refine Qq <|k2 <|Qf λ_ k3=>Qj <|Qa [1,3,4,5,6] ?_;have⟨_,_,_,_,h⟩:=bs2 h;refine Qa [5,6,7,8,9,10] ?_;refine Qn h (λ_ h=>?_) (λ_ h=>?_)
  ·refine Qa [1] ?_;refine Qam ?_;exact Qu J1 (ho _ (sj h).symm) [0]
  refine Qq <|k3 <|QL [1,4,5,6] ?_;exact Qu k1 ((sj h).symm) [1,0,2,3]
 refine QO <|Qu J0 (ho _ (sj h).symm) []
def Qbv (s_:(List QR)) (f_:(QR->Option Bool)):Option (Bool):=(QbT s_ f_).bind λt0=>(some (decide (t0>=0)))
instance Qos:Spc2 prog 204 Qbv (λs_ f_=>[tsl Qat s_,QkA.ty f_]) tb:=.mk λ{s_ f_ r} h=>by
 unfold Qbv at h
 refine Fe func204 ntmps204 λM0 M w0 hpl=>?_
 refine Qa [1,2] ?_
 have⟨_,_,h⟩:=bs h
 refine Qa [4] ?_
 exact Qo h (·▸Ql hpl)
def Qdj (l_:(List QR)) (right_:(QR->Option Bool)):Option (Bool):=(Qbv l_ (λx0=>Qfm x0 right_)).bind λt0=>(some (!t0))
instance QtT:Spc2 prog 169 Qdj (λl_ right_=>[tsl Qat l_,QkA.ty right_]) tb:=.mk λ{l_ right_ r} h=>by
 unfold Qdj at h
 refine Fe func169 ntmps169 λM0 M w0 hpl=>?_
 refine Qa [0,2] ?_
 have⟨_,_,h⟩:=bs h
 refine Qa [4] ?_
 exact Qo h (·▸Ql hpl)
def QeT (x_:QC):Option (Bool):=(Qas x_.Xj).bind λt0=>(opt (t0==true) (Qbb (x_.Xe.length:Int) 1 12) default).bind λt1=>(opt ((t0&&t1)==true) (Qcy x_.Xe (λx0=>Qas x0)) default).bind λt2=>(opt ((((t0&&t1)&&t2)&&(decide ((x_.Xg.length:Int)<=32)))==true) (Qdj x_.Xg (λx0=>QdX x0 (x_.Xe.length:Int))) default).bind λt3=>(some ((((t0&&t1)&&t2)&&(decide ((x_.Xg.length:Int)<=32)))&&t3))
instance Qx0:Spc1 prog 123 QeT (λx_=>[QA.ty x_]) tb:=.mk λ{x_ r} h=>by
 unfold QeT at h
 refine Fe func123 ntmps123 λM0 M w0 hpl=>?_
 refine Qa [0] ?_
 refine QJ [v1 3 (λv0=>box (rI.cs (0:Int)) v0),v1 3 (λv0=>box (rI.cs (x_.Xe.length:Int)) v0)] [4,5] [3,4] λm0=>?_
 refine QY (λ_ _ H=>((H.Xl 0 rfl).add 0 rfl (λ_ _ _ h=>h.2)).pick [0,3]) ?_
 have⟨_,_,_,_,_,_,_,_,h⟩:=bs4 h
 refine Qa [24] ?_
 exact Qo h (·▸Ql hpl)
def Qf8 (x_:Qp) (c0_:(Qp->Option Bool)):Option (Bool):=(c0_ x_).bind λt0=>(some (!t0))
instance QtU:Spc2 prog 171 Qf8 (λx_ c0_=>[Qt.ty x_,tptr (Qkv.cs c0_)]) tb:=.mk λ{x_ c0_ r} h=>by
 unfold Qf8 at h
 refine Fe func171 ntmps171 λM0 M w0 hpl=>?_
 refine Qa [0,3] ?_
 have⟨_,_,h⟩:=bs h
 refine Qa [4] ?_
 exact Qo h (·▸Ql hpl)
def Qcn (s_:(List Qp)) (f_:(Qp->Option Bool)):Option (Int):=(Qm (λ(s0:Int)=>((if (decide (s0<(s_.length:Int)))=true then (idx s_ s0).bind λt0=>(f_ t0).bind λt1=>(if t1=true then (some (.inr (.inr s0))) else (some (.inl (i64.wrap (s0+1))))) else (some (.inr (.inl ())))):Option ((Int)⊕((Unit)⊕(Int))))) (0:Int)).bind λe0=>(match e0 with | .inl _=>(some (-1:Int)) | .inr p0=>(some p0))
instance Qq0:Spc2 prog 113 Qcn (λs_ f_=>[tsl Qt s_,Qkv.ty f_]) ti:=.mk λ{s_ f_ r} h=>by
 unfold Qcn at h
 refine Fe func113 ntmps113 λM0 M w0 hpl=>?_
 refine Qa [1,2] ?_
 refine Qf λK0 k0=>?_
 refine Qa [1,2,3,4] ?_
 have⟨e0,h0,h⟩:=bs h
 have J0:∀(p0:Unit),(.inl p0)=e0->To M w0 19 [] [] K0:=by
  intro p0 he;subst he;simp only at h;refine k0 <|Qa [0] ?_;exact Qo h (·▸Ql hpl)
 have J1:∀(p1:Int),(.inr p1)=e0->To M w0 19 [(4,ti p1)] [] (Ret prog f113 M0 [] w0 (λ_=>[]) (λ_=>ti r) .ret):=by
  intro p1 he;subst he;simp only at h;obtain rfl:=sj h;exact Ql hpl
 refine Qj <|Qai h0 (λ(s0:Int)=>[(7,ti (s_.length:Int)),(8,ti s0),(0,tsl Qt s_),(1,Qkv.ty f_)]) (λ(s0:Int)=>[]) [0,1,2,3] ?_;clear h;intro s0 o K1 h ho k1;refine Qa [0,1,2,3,4] ?_;refine Qf λ_ k2=>Qn h (λ_ h=>?_) (λ_ h=>?_)
 ·refine Qq <|k2 <|Qf λ_ k3=>Qj <|Qa [1,3,4,5,6] ?_;have⟨_,_,_,_,h⟩:=bs2 h;refine Qa [5,6,7,8,9,10] ?_;refine Qn h (λ_ h=>?_) (λ_ h=>?_)
  ·refine Qa [1] ?_;refine Qam ?_;exact Qu J1 (ho _ (sj h).symm) [0]
  refine Qq <|k3 <|QL [1,4,5,6] ?_;exact Qu k1 ((sj h).symm) [1,0,2,3]
 refine QO <|Qu J0 (ho _ (sj h).symm) []
def Qbj (s_:(List Qp)) (f_:(Qp->Option Bool)):Option (Bool):=(Qcn s_ f_).bind λt0=>(some (decide (t0>=0)))
instance Qpk:Spc2 prog 130 Qbj (λs_ f_=>[tsl Qt s_,Qkv.ty f_]) tb:=.mk λ{s_ f_ r} h=>by
 unfold Qbj at h
 refine Fe func130 ntmps130 λM0 M w0 hpl=>?_
 refine Qa [1,2] ?_
 have⟨_,_,h⟩:=bs h
 refine Qa [4] ?_
 exact Qo h (·▸Ql hpl)
def QdY (l_:(List Qp)) (right_:(Qp->Option Bool)):Option (Bool):=(Qbj l_ (λx0=>Qf8 x0 right_)).bind λt0=>(some (!t0))
instance QvP:Spc2 prog 124 QdY (λl_ right_=>[tsl Qt l_,Qkv.ty right_]) tb:=.mk λ{l_ right_ r} h=>by
 unfold QdY at h
 refine Fe func124 ntmps124 λM0 M w0 hpl=>?_
 refine Qa [0,2] ?_
 have⟨_,_,h⟩:=bs h
 refine Qa [4] ?_
 exact Qo h (·▸Ql hpl)
def QeU (r_:Qp):Option (Bool):=(Qas r_.Xj).bind λt0=>(opt (t0==true) (Qas r_.Xi) default).bind λt1=>(opt (((t0&&t1)==true)&&((r_.A==([]:Str))==false)) (Qas r_.A) default).bind λt2=>(opt ((((t0&&t1)&&((r_.A==([]:Str))||t2))==true)&&((r_.B==([]:Str))==false)) (Qas r_.B) default).bind λt3=>(opt ((((t0&&t1)&&((r_.A==([]:Str))||t2))&&((r_.B==([]:Str))||t3))==true) (cat (r_.A.length+r_.B.length)) default).bind λ_=>(opt (((((t0&&t1)&&((r_.A==([]:Str))||t2))&&((r_.B==([]:Str))||t3))&&((r_.A++r_.B) !=([]:Str)))==true) (Qbb r_.N (-1048576) 1048576) default).bind λt4=>(some (((((t0&&t1)&&((r_.A==([]:Str))||t2))&&((r_.B==([]:Str))||t3))&&((r_.A++r_.B) !=([]:Str)))&&t4))
instance Qx1:Spc1 prog 125 QeU (λr_=>[Qt.ty r_]) tb:=.mk λ{r_ r} h=>by
 unfold QeU at h
 refine Fe func125 ntmps125 λM0 M w0 hpl=>?_
 refine Qa [0] ?_
 have⟨_,_,_,_,_,_,_,_,h⟩:=bs4 h
 have⟨_,_,_,_,h⟩:=bs2 h
 refine Qa [41] ?_
 exact Qo h (·▸Ql hpl)
def QaI (word_:Str) (l_:(List AnyV)):Option (Str):=(Qba ([]:Str) word_).bind λt0=>(Qm (λ(s0:Int×Str)=>((if (decide (s0.1<(l_.length:Int)))=true then (idx l_ s0.1).bind λt1=>(QhV s0.2 (32:Int)).bind λt2=>((if t1.asInt.2=true then (QnQ t1.asInt.1).bind λt3=>(Qba t2 t3).bind λt4=>(some t4) else ((if t1.asStr.2=true then (Qba t2 t1.asStr.1).bind λt5=>(some t5) else (some t2))).bind λp0=>(some p0))).bind λp1=>(some (.inl ((i64.wrap (s0.1+1)),p1))) else (some (.inr s0.2))):Option ((Int×Str)⊕((Str))))) ((0:Int),t0)).bind λp2=>(Qg6 p2).bind λt6=>(cat (t6.length+([10]:Str).length)).bind λ_=>(some (t6++([10]:Str)))
instance QdP:SpcS prog 173 (∀{word_:Str} {l_:(List AnyV)} {r:Str},QaI word_ l_=some r->FnOk prog 173 [tv (.string (sB word_)),tsl (rAny 3 9) l_] [glo] (λ_=>[]) (λ_=>tv (.string (sB r)))):=.mk λ{word_ l_ r} h=>by
 unfold QaI at h
 refine Fe func173 ntmps173 λM0 M w0 hpl=>?_
 refine Qa [1,2] ?_
 intro a w H
 refine sr mx [v1 0 (λv0=>bld ([]:Str) v0 nilV)] H (λ_=>.m [] [1] rfl rfl rfl (Qpe bInfo)<|.n) λm0 a w H=>?_
 have H:=H.to [0,1,2] [_,_,_] [_,_] rfl rfl
 refine Q2 H ?_
 have⟨t0,h0,h⟩:=bs h
 intro a w H
 refine sr mx [v1 1 (λv0=>bld t0 (m0 0) v0)] H (λ_=>.q 1 rfl<|.e [] [1] [2] rfl rfl rfl rfl (QN Qgv (QbJ h0) (.cons (.of z1)<|.cons (.of z0)<|.nil))<|.n) λm1 a w H=>?_
 have H:=H.to [2,4] [_,_] [_,_] rfl rfl
 refine Q2 H ?_
 refine Qf λK0 k0=>?_
 refine Qa [0,1,2,3] ?_
 have⟨e0,h1,h⟩:=bs h
 have J0:∀(p0:Str) (y0:Value),p0=e0->To M w0 34 [(5,tv (m0 0))] [glo,bld p0 (m0 0) y0] K0:=by
  intro p0 y0 he;subst he;refine k0 ?_;have⟨t1,h2,_,h3,h⟩:=bs2 h;intro a w H;refine sr mx [] H (λ_=>.e [] [1] [] rfl rfl rfl rfl (QN QsT (QnR h2) (.cons (.of z0)<|.nil))<|.o (Qec z0 .k h3)<|.o (Qr z0)<|.n) λ_ a w H=>?_;have H:=H.to [2] [_] [_] rfl rfl;refine Q2 H ?_;exact Qo h (·▸Ql hpl)
 refine Qj <|QaC h1 (λ(s0:Int×Str) (y1:Value)=>[(12,tsl (rAny 3 9) l_),(13,ti (l_.length:Int)),(14,ti s0.1),(5,tv (m0 0))]) (λ(s0:Int×Str) (y1:Value)=>[glo,bld s0.2 (m0 0) y1]) (m1 1) [0,1,2,3] ?_;clear h;intro s0 y1 o K1 h ho k1;refine Qa [0,1,2,3,4] ?_;refine Qf λ_ k2=>Qn h (λ_ h=>?_) (λ_ h=>?_)
 ·refine Qq <|k2 <|Qf λK2 k3=>Qj ?_;have⟨t2,_,h⟩:=bs h;refine Qa [2,4,5,6,7] ?_;have⟨t3,h4,h⟩:=bs h;intro a w H;refine sr mx [v1 0 (λv0=>bld t3 (m0 0) v0)] H (λ_=>.e [] [1] [2] rfl rfl rfl rfl (QN QBa (QpS h4) (.cons (.of z4)<|.cons (.of .k)<|.nil))<|.n) λm2 a w H=>?_;have H:=H.to [1,2,3,4,5] [_,_,_,_,_] [_,_] rfl rfl;refine Q2 H ?_;refine Qa [0,2,3,4,5] ?_;refine Qj ?_;intro a w H;refine sr mx [] H (λ_=>.o (op_asI (by decide) tok3 ud3 z0)<|.o (Qag z0 rfl)<|.o (Qag z1 rfl)<|.n) λ_ a w H=>?_;have H:=H.to [1,2,3,4,5,6,7] [_,_,_,_,_,_,_] [_,_] rfl rfl;refine Q2 H ?_;have⟨p1,h5,h⟩:=bs h;have J1:∀(y2:Value),To M w0 34 [(12,tsl (rAny 3 9) l_),(13,ti (l_.length:Int)),(14,ti s0.1),(5,tv (m0 0))] [glo,bld p1 (m0 0) y2] K2:=by
   intro y2;refine k3 <|QL [1,2,3,4] ?_;exact QV k1 y2 ((sj h).symm) [1,2,0,3]
  replace h:=h5;clear h5;refine Qn h (λ_ h=>?_) (λ_ h=>?_)
  ·refine Qa [0,4,5,6,7] ?_;have⟨_,h6,t4,h7,h⟩:=bs2 h;intro a w H;refine wr mx [v1 2 (λv0=>bld t4 (m0 0) v0)] H (λ_=>.q 0 rfl<|.u [0] rfl rfl ((QN QBb (QBc h6) (.cons (.of z0)<|.nil)).glo)<|.e [] [1] [2] rfl rfl rfl rfl (QN Qgv (QbJ h7) (.cons (.of z6)<|.cons (.of z0)<|.nil))<|.n) λm3 a w H=>?_;have H:=H.to [4,5,6,7] [_,_,_,_] [_,_] rfl rfl;refine Qbl H ?_;obtain rfl:=sj h;exact QK (J1 (m3 2)) [0,1,2,3]
  intro a w H;refine sr mx [] H (λ_=>.o (op_asS (by decide) tok9 ud9 z2)<|.o (Qag z0 rfl)<|.o (Qag z1 rfl)<|.n) λ_ a w H=>?_;have H:=H.to [1,2,6,7,8,9] [_,_,_,_,_,_] [_,_] rfl rfl;refine Q2 H ?_;have⟨p2,h8,h⟩:=bs h;have J2:∀(y3:Value),To M w0 34 [(12,tsl (rAny 3 9) l_),(13,ti (l_.length:Int)),(14,ti s0.1),(5,tv (m0 0))] [glo,bld p2 (m0 0) y3] K2:=by
   intro y3;obtain rfl:=sj h;exact QK (J1 y3) [0,1,2,3]
  replace h:=h8;clear h8;refine Qn h (λ_ h=>?_) (λ_ h=>?_)
  ·refine Qa [0,3,4,5,6] ?_;have⟨t5,h9,h⟩:=bs h;intro a w H;refine wr mx [v1 1 (λv0=>bld t5 (m0 0) v0)] H (λ_=>.q 0 rfl<|.e [] [1] [2] rfl rfl rfl rfl (QN Qgv (QbJ h9) (.cons (.of z5)<|.cons (.of z0)<|.nil))<|.n) λm4 a w H=>?_;have H:=H.to [3,4,5,6] [_,_,_,_] [_,_] rfl rfl;refine Qbl H ?_;obtain rfl:=sj h;exact QK (J2 (m4 1)) [0,1,2,3]
  refine Qq ?_;obtain rfl:=sj h;exact QK (J2 (m2 0)) [2,3,4,5]
 refine QO <|QV J0 y1 (ho _ (sj h).symm) [4]
def Qgw (vals_:(List Str)):Option (Str):=(Qm (λ(s0:Int)=>((if (decide (s0<(vals_.length:Int)))=true then (idx vals_ s0).bind λt0=>(if (t0 !=([]:Str))=true then (some (.inr (.inr t0))) else (some (.inl (i64.wrap (s0+1))))) else (some (.inr (.inl ())))):Option ((Int)⊕((Unit)⊕(Str))))) (0:Int)).bind λe0=>(match e0 with | .inl _=>(some ([]:Str)) | .inr p0=>(some p0))
instance Qx2:Spc1 prog 209 Qgw (λvals_=>[tsl rS vals_]) (λr=>tv (.string (sB r))):=.mk λ{vals_ r} h=>by
 unfold Qgw at h
 refine Fe func209 ntmps209 λM0 M w0 hpl=>?_
 refine Qa [1] ?_
 refine Qa [0,1] ?_
 refine Qf λK0 k0=>?_
 refine Qa [0,1,2,3] ?_
 have⟨e0,h0,h⟩:=bs h
 have J0:∀(p0:Unit),(.inl p0)=e0->To M w0 18 [(3,tv (.string (sB ([]:Str))))] [] K0:=by
  intro p0 he;subst he;simp only at h;refine k0 <|Qa [1] ?_;exact Qo h (·▸Ql hpl)
 have J1:∀(p1:Str),(.inr p1)=e0->To M w0 18 [(2,tv (.string (sB p1)))] [] (Ret prog f209 M0 [] w0 (λ_=>[]) (λ_=>tv (.string (sB r))) .ret):=by
  intro p1 he;subst he;simp only at h;obtain rfl:=sj h;exact Ql hpl
 refine Qj <|Qai h0 (λ(s0:Int)=>[(6,tsl rS vals_),(7,ti (vals_.length:Int)),(8,ti s0),(3,tv (.string (sB ([]:Str))))]) (λ(s0:Int)=>[]) [0,1,2,3] ?_;clear h;intro s0 o K1 h ho k1;refine Qa [0,1,2,3,4] ?_;refine Qf λ_ k2=>Qn h (λ_ h=>?_) (λ_ h=>?_)
 ·refine Qq <|k2 <|Qf λ_ k3=>Qj ?_;have⟨_,_,h⟩:=bs h;refine Qa [2,4,5,6,7] ?_;refine Qa [2,3,4,5,6,7] ?_;refine Qn h (λ_ h=>?_) (λ_ h=>?_)
  ·refine Qa [1] ?_;refine Qam ?_;exact Qu J1 (ho _ (sj h).symm) [0]
  refine Qq <|k3 <|QL [1,4,5,6] ?_;exact Qu k1 ((sj h).symm) [1,2,0,3]
 refine QO <|Qu J0 (ho _ (sj h).symm) [4]
def Qdw (s_:Str):Option (Str):=(Qgw [s_,([45]:Str)]).bind λt0=>(some t0)
instance Qju:Spc1 prog 175 Qdw (λs_=>[tv (.string (sB s_))]) (λr=>tv (.string (sB r))):=.mk λ{s_ r} h=>by
 unfold Qdw at h
 refine Fe func175 ntmps175 λM0 M w0 hpl=>?_
 refine Qa [1] ?_
 have⟨_,_,h⟩:=bs h
 refine Qa [3] ?_
 exact Qo h (·▸Ql hpl)
def Qfv (f_:Qd):Option (Str):=(idx QjZ f_.Xi).bind λt0=>(if (f_.Xi==0)=true then (QaI t0 [(AnyV.str f_.Xj),(AnyV.int f_.Lo)]).bind λt1=>(some t1) else (if (f_.Xi==2)=true then (QaI t0 [(AnyV.str f_.Xj),(AnyV.int f_.Lo),(AnyV.int f_.Hi)]).bind λt2=>(some t2) else (if (f_.Xi==3)=true then (Qm (λ(s0:Int×List AnyV)=>((if (decide (s0.1<(f_.Words.length:Int)))=true then (idx f_.Words s0.1).bind λt3=>(idx f_.Xf s0.1).bind λt4=>(rm (s0.2.length+[(AnyV.str t3),(AnyV.int t4)].length)).bind λ_=>(some (.inl ((i64.wrap (s0.1+1)),(s0.2++[(AnyV.str t3),(AnyV.int t4)])))) else (some (.inr s0.2))):Option ((Int×List AnyV)⊕((List AnyV))))) ((0:Int),[(AnyV.str f_.Xj),(AnyV.int (f_.Words.length:Int))])).bind λp0=>(QaI t0 p0).bind λt5=>(some t5) else (if (f_.Xi==6)=true then (QaI t0 [(AnyV.str f_.Xj),(AnyV.str f_.Of)]).bind λt6=>(some t6) else (if (f_.Xi==7)=true then (QaI t0 [(AnyV.str f_.Xj),(AnyV.str f_.Up),(AnyV.str f_.Of),(AnyV.int f_.Lo),(AnyV.int f_.Hi)]).bind λt7=>(some t7) else (if (f_.Xi==8)=true then (QaI t0 [(AnyV.str f_.Xj),(AnyV.str f_.Up),(AnyV.str f_.Of)]).bind λt8=>(some t8) else (Qdw f_.Of).bind λt9=>(QaI t0 [(AnyV.str f_.Xj),(AnyV.str t9),(AnyV.int f_.Lo),(AnyV.int f_.Hi)]).bind λt10=>(some t10)))))))
instance QnU:SpcS prog 174 (∀{f_:Qd} {r:Str},Qfv f_=some r->FnOk prog 174 [Qe.ty f_] [glo] (λ_=>[]) (λ_=>tv (.string (sB r)))):=.mk λ{f_ r} h=>by
 unfold Qfv at h
 refine Fe func174 ntmps174 λM0 M w0 hpl=>?_
 refine Qa [0] ?_
 have⟨t0,h0,h⟩:=bs h
 intro a w H
 refine sr mx [] H (λ_=>.o (Q6 QhH z0)<|.o (Q5 (u:=f_.Xi) tok3 z0 rfl)<|.u [0] rfl rfl (Qxg underlying270 tok9 Qxq rfl z0 rfl h0)<|.o (Qaa tok9 z0)<|.o (Qr z0)<|.n) λ_ a w H=>?_
 have H:=H.t2_1 [4,5]
 refine Q2 H ?_
 refine Qf λ_ k0=>?_
 refine Qa [1,2,3] ?_
 refine Qj ?_
 refine Qa [1,2,3,4] ?_
 refine Qn h (λ_ h=>?_) (λ_ h=>?_)
 ·have⟨_,_,h⟩:=bs h
  refine Qa [9] ?_
  exact Qo h (·▸Ql hpl)
 refine Qa [1,3,4,5] ?_
 refine Qn h (λ_ h=>?_) (λ_ h=>?_)
 ·have⟨_,_,h⟩:=bs h
  refine Qa [12] ?_
  exact Qo h (·▸Ql hpl)
 refine Qa [1,3,4,5] ?_
 refine Qn h (λ_ h=>?_) (λ_ h=>?_)
 ·refine QJ [v1 7 (λv0=>own (rAny 3 9) 20 [(AnyV.str f_.Xj),(AnyV.int (f_.Words.length:Int))] v0)] [8] [7,8,11,12] λm0=>?_
  refine Qf λK0 k1=>?_
  refine Qa [1,2,3,4,5,6,7] ?_
  have⟨e0,h1,h⟩:=bs h
  have J0:∀(p0:List AnyV) (y0:Value),p0=e0->To M w0 132 [(4,tv y0),(3,tv (.string (sB t0)))] [glo,own (rAny 3 9) 20 p0 y0] K0:=by
   intro p0 y0 he;subst he;refine k1 ?_;have⟨t1,h2,h⟩:=bs h;intro a w H;refine sr mx [] H (λ_=>.q 1 rfl<|.q 1 rfl<|.u [0,1] rfl rfl ((QcU [own (rAny 3 9) 20 p0 y0] QhI (QdP.ok h2) (.cons (.of z1)<|.cons (.own z0 (.head _))<|.nil) (λ_=>Qci) (λ_=>QeO (x:=undef))).glo)<|.o (Qr z0)<|.n) λ_ a w H=>?_;have H:=H.to [1,3,4] [_,_,_] [_,_] rfl rfl;refine Q2 H ?_;exact Qo h (·▸Ql hpl)
  refine Qj <|QaC h1 (λ(s0:Int×List AnyV) (y1:Value)=>[(49,tsl rS f_.Words),(50,ti (f_.Words.length:Int)),(51,ti s0.1),(4,tv y1),(3,tv (.string (sB t0))),(1,tptr (Qe.cs f_))]) (λ(s0:Int×List AnyV) (y1:Value)=>[glo,own (rAny 3 9) 20 s0.2 y1]) (m0 7) [0,1,2,4,5,6] ?_;clear h;intro s0 y1 o K1 h ho k2;refine Qa [0,1,2,3,4,5,6] ?_;refine Qf λ_ k3=>Qn h (λ_ h=>?_) (λ_ h=>?_)
  ·refine Qq <|k3 <|Qf λ_ k4=>Qj ?_;have⟨t2,_,h⟩:=bs h;refine Qa [3,4,6,7,8,9,10,11] ?_;have⟨t3,_,_,_,h⟩:=bs2 h;refine Qal [v1 10 (λv0=>own (rAny 3 9) 20 (s0.2++[(AnyV.str t2),(AnyV.int t3)]) v0)] [11] [10,11,14,15,16,17,18] λm1=>?_;refine k4 <|QL [1,2,3,4,5,6,7] ?_;exact QV k2 (m1 10) ((sj h).symm) [3,4,0,2,5,6]
  refine QO <|QV J0 y1 (ho _ (sj h).symm) [4,5]
 refine Qa [1,3,4,5] ?_;refine Qn h (λ_ h=>?_) (λ_ h=>?_)
 ·have⟨_,_,h⟩:=bs h;refine Qa [9] ?_;exact Qo h (·▸Ql hpl)
 refine Qa [1,3,4,5] ?_;refine Qn h (λ_ h=>?_) (λ_ h=>?_)
 ·have⟨_,_,h⟩:=bs h;refine Qa [18] ?_;exact Qo h (·▸Ql hpl)
 refine Qa [1,4,5] ?_;refine Qn h (λ_ h=>?_) (λ_ h=>?_)
 ·have⟨_,_,h⟩:=bs h;refine Qa [12] ?_;exact Qo h (·▸Ql hpl)
 refine Qq <|k0 ?_;have⟨_,_,_,_,h⟩:=bs2 h;refine Qa [16] ?_;exact Qo h (·▸Ql hpl)
def QeV (x_:Qb):Option (Str):=(QaI ([115,99,104,101,109,97]:Str) [(AnyV.int x_.Version)]).bind λt0=>(Qba ([]:Str) t0).bind λt1=>(Qm (λ(s0:Int×Str)=>((if (decide (s0.1<(x_.Xa.length:Int)))=true then (idx x_.Xa s0.1).bind λt2=>(QaI ([107,105,110,100]:Str) [(AnyV.str t2.Xj),(AnyV.int t2.Lo),(AnyV.int t2.Hi)]).bind λt3=>(Qba s0.2 t3).bind λt4=>(Qm (λ(s1:Int×Str)=>((if (decide (s1.1<(t2.Xb.length:Int)))=true then (idx t2.Xb s1.1).bind λt5=>(Qfv t5).bind λt6=>(Qba s1.2 t6).bind λt7=>(some (.inl ((i64.wrap (s1.1+1)),t7))) else (some (.inr s1.2))):Option ((Int×Str)⊕((Str))))) ((0:Int),t4)).bind λp0=>(some (.inl ((i64.wrap (s0.1+1)),p0))) else (some (.inr s0.2))):Option ((Int×Str)⊕((Str))))) ((0:Int),t1)).bind λp1=>(Qm (λ(s2:Int×Str)=>((if (decide (s2.1<(x_.Xd.length:Int)))=true then (idx x_.Xd s2.1).bind λt8=>(Qm (λ(s3:Int×List AnyV)=>((if (decide (s3.1<(t8.Xe.length:Int)))=true then (idx t8.Xe s3.1).bind λt9=>(rm (s3.2.length+[(AnyV.str t9)].length)).bind λ_=>(some (.inl ((i64.wrap (s3.1+1)),(s3.2++[(AnyV.str t9)])))) else (some (.inr s3.2))):Option ((Int×List AnyV)⊕((List AnyV))))) ((0:Int),[(AnyV.str t8.Xj),(AnyV.int (t8.Xe.length:Int))])).bind λp2=>(QaI ([108,105,102,101]:Str) p2).bind λt10=>(Qba s2.2 t10).bind λt11=>(Qm (λ(s4:Int×Str)=>((if (decide (s4.1<(t8.Xg.length:Int)))=true then (idx t8.Xg s4.1).bind λt12=>(QaI ([109,111,118,101]:Str) [(AnyV.int t12.a0),(AnyV.int t12.a1)]).bind λt13=>(Qba s4.2 t13).bind λt14=>(some (.inl ((i64.wrap (s4.1+1)),t14))) else (some (.inr s4.2))):Option ((Int×Str)⊕((Str))))) ((0:Int),t11)).bind λp3=>(some (.inl ((i64.wrap (s2.1+1)),p3))) else (some (.inr s2.2))):Option ((Int×Str)⊕((Str))))) ((0:Int),p1)).bind λp4=>(Qm (λ(s5:Int×Str)=>((if (decide (s5.1<(x_.Xc.length:Int)))=true then (idx x_.Xc s5.1).bind λt15=>(Qdw t15.A).bind λt16=>(Qdw t15.B).bind λt17=>(QaI ([114,117,108,101]:Str) [(AnyV.str t15.Xj),(AnyV.str t15.Xi),(AnyV.str t16),(AnyV.str t17),(AnyV.int t15.N)]).bind λt18=>(Qba s5.2 t18).bind λt19=>(some (.inl ((i64.wrap (s5.1+1)),t19))) else (some (.inr s5.2))):Option ((Int×Str)⊕((Str))))) ((0:Int),p4)).bind λp5=>(Qg6 p5).bind λt20=>(some t20)
instance Qx3:SpcS prog 126 (∀{x_:Qb} {r:Str},QeV x_=some r->FnOk prog 126 [Qc.ty x_] [glo] (λ_=>[]) (λ_=>tv (.string (sB r)))):=.mk λ{x_ r} h=>by
 unfold QeV at h
 refine Fe func126 ntmps126 λM0 M w0 hpl=>?_
 refine Qa [0] ?_
 intro a w H
 refine sr mx [v1 0 (λv0=>bld ([]:Str) v0 nilV)] H (λ_=>.m [] [1] rfl rfl rfl (Qpe bInfo)<|.n) λm0 a w H=>?_
 have H:=H.to [0,1] [_,_] [_,_] rfl rfl
 refine Q2 H ?_
 have⟨_,h0,t0,h1,h⟩:=bs2 h
 intro a w H
 refine sr mx [v1 5 (λv0=>bld t0 (m0 0) v0)] H (λ_=>.o (Q6 QsA z1)<|.o (Q5 (u:=x_.Version) tok3 z0 rfl)<|.o (Qi6 ud3 z0)<|.o (Qaq (R:=(rAny 3 9)) (us:=[(AnyV.int x_.Version)]) Qqd QnG (.cons z0<|.nil _) rfl (leb rfl))<|.u [0] rfl rfl ((QN QhI (QdP.ok h0) (.cons (.of .k)<|.cons (.of z0)<|.nil)).glo)<|.e [] [1] [2] rfl rfl rfl rfl (QN Qgv (QbJ h1) (.cons (.of z5)<|.cons (.of z0)<|.nil))<|.n) λm1 a w H=>?_
 have H:=H.to [6,7] [_,_] [_,_] rfl rfl
 refine Q2 H ?_
 refine Qf λK0 k0=>?_
 refine Qa [1,2,3,4,5] ?_
 have⟨e0,h2,h⟩:=bs h
 have J0:∀(p0:Str) (y0:Value),p0=e0->To M w0 132 [(3,tv (m0 0)),(1,tptr (Qc.cs x_))] [glo,bld p0 (m0 0) y0] K0:=by
  intro p0 y0 he;subst he;refine k0 <|Qf λK1 k1=>Qa [1,2,3,4,5] ?_;have⟨e1,h3,h⟩:=bs h;have J1:∀(p1:Str) (y1:Value),p1=e1->To M w0 132 [(3,tv (m0 0)),(1,tptr (Qc.cs x_))] [glo,bld p1 (m0 0) y1] K1:=by
   intro p1 y1 he;subst he;refine k1 <|Qf λK2 k2=>Qa [1,2,3,4] ?_;have⟨e2,h4,h⟩:=bs h;have J2:∀(p2:Str) (y2:Value),p2=e2->To M w0 132 [(3,tv (m0 0))] [glo,bld p2 (m0 0) y2] K2:=by
    intro p2 y2 he;subst he;refine k2 ?_;have⟨t1,h5,h⟩:=bs h;intro a w H;refine sr mx [] H (λ_=>.e [] [1] [] rfl rfl rfl rfl (QN QsT (QnR h5) (.cons (.of z0)<|.nil))<|.o (Qr z0)<|.n) λ_ a w H=>?_;have H:=H.to [1] [_] [_] rfl rfl;refine Q2 H ?_;exact Qo h (·▸Ql hpl)
   refine Qj <|QaC h4 (λ(s0:Int×Str) (y3:Value)=>[(104,tsl Qt x_.Xc),(105,ti (x_.Xc.length:Int)),(106,ti s0.1),(3,tv (m0 0))]) (λ(s0:Int×Str) (y3:Value)=>[glo,bld s0.2 (m0 0) y3]) y1 [0,1,2,3] ?_;clear h;intro s0 y3 o K3 h ho k3;refine Qa [0,1,2,3,4] ?_;refine Qf λ_ k4=>Qn h (λ_ h=>?_) (λ_ h=>?_)
   ·refine Qq <|k4 <|Qf λ_ k5=>Qj ?_;have⟨t2,_,h⟩:=bs h;refine QJ [v1 2 (λv0=>box (Qt.cs zz3) v0),v1 2 (λv0=>box (Qt.cs t2) v0)] [3,4] [2,4,5,6,7] λm2=>?_;refine QY (λ_ _ H=>(((H.Xk [2,0,1] rfl).Xl 0 rfl).add 0 rfl (λ_ _ _ h=>h.2)).pick [0,3,4,5,6]) ?_;have⟨t3,h6,t4,h7,_,h8,t5,h9,h⟩:=bs4 h;intro a w H;refine wr mx [v1 19 (λv0=>bld t5 (m0 0) v0)] H (λ_=>.o (Q6 QkB z0)<|.o (Q5 (u:=t2.Xj) tok9 z0 rfl)<|.o (QjX ud9 z0)<|.o (Q6 QqH z3)<|.o (Q5 (u:=t2.Xi) tok9 z0 rfl)<|.o (QjX ud9 z0)<|.o (Q6 QmS z6)<|.o (Q5 (u:=t2.A) tok9 z0 rfl)<|.o (QN QoF (Qju.ok h6) (.cons (.of z0)<|.nil))<|.o (QjX ud9 z0)<|.o (Q6 QmT z10)<|.o (Q5 (u:=t2.B) tok9 z0 rfl)<|.o (QN QoF (Qju.ok h7) (.cons (.of z0)<|.nil))<|.o (QjX ud9 z0)<|.o (Q6 QmU z14)<|.o (Q5 (u:=t2.N) tok3 z0 rfl)<|.o (Qi6 ud3 z0)<|.o (Qaq (R:=(rAny 3 9)) (us:=[(AnyV.str t2.Xj),(AnyV.str t2.Xi),(AnyV.str t3),(AnyV.str t4),(AnyV.int t2.N)]) Qqd QnG (.cons z14<|.cons z11<|.cons z7<|.cons z3<|.cons z0<|.nil _) rfl (leb rfl))<|.u [0] rfl rfl ((QN QhI (QdP.ok h8) (.cons (.of .k)<|.cons (.of z0)<|.nil)).glo)<|.e [] [1] [2] rfl rfl rfl rfl (QN Qgv (QbJ h9) (.cons (.of z23)<|.cons (.of z0)<|.nil))<|.n) λm3 a w H=>?_;have H:=H.to [21,22,23,24] [_,_,_,_] [_,_] rfl rfl;refine Qbl H ?_;refine k5 <|QL [1,2,3,4] ?_;exact QV k3 (m3 19) ((sj h).symm) [1,2,0,3]
   refine QO <|QV J2 y3 (ho _ (sj h).symm) [4]
  refine Qj <|QaC h3 (λ(s1:Int×Str) (y4:Value)=>[(55,tsl QA x_.Xd),(56,ti (x_.Xd.length:Int)),(57,ti s1.1),(3,tv (m0 0)),(1,tptr (Qc.cs x_))]) (λ(s1:Int×Str) (y4:Value)=>[glo,bld s1.2 (m0 0) y4]) y0 [0,1,2,3,4] ?_;clear h;intro s1 y4 o K4 h ho k6;refine Qa [0,1,2,3,4,5] ?_;refine Qf λ_ k7=>Qn h (λ_ h=>?_) (λ_ h=>?_)
  ·refine Qq <|k7 <|Qf λK5 k8=>Qj ?_;have⟨t6,_,h⟩:=bs h;refine QJ [v1 2 (λv0=>box (QA.cs zz2) v0),v1 2 (λv0=>box (QA.cs t6) v0)] [3,4] [2,4,5,6,7,8] λm4=>?_;refine QY (λ_ _ H=>(((H.Xk [2,0,1] rfl).Xl 0 rfl).add 0 rfl (λ_ _ _ h=>h.2)).pick [0,3,4,5,6,7]) ?_;refine QJ [v1 7 (λv0=>own (rAny 3 9) 20 [(AnyV.str t6.Xj),(AnyV.int (t6.Xe.length:Int))] v0)] [8] [7,8,9,10,11,12,13,14] λm5=>?_;refine Qf λK6 k9=>Qa [1,2,3,4,5,6,7,8,9,10,11] ?_;have⟨e3,h10,h⟩:=bs h;have J3:∀(p3:List AnyV) (y5:Value),p3=e3->To M w0 132 [(10,tv y5),(9,tptr (QA.cs t6)),(55,tsl QA x_.Xd),(56,ti (x_.Xd.length:Int)),(57,ti s1.1),(3,tv (m0 0)),(1,tptr (Qc.cs x_))] [glo,bld s1.2 (m0 0) y4,own (rAny 3 9) 20 p3 y5] K6:=by
    intro p3 y5 he;subst he;refine k9 ?_;have⟨_,h11,t7,h12,h⟩:=bs2 h;intro a w H;refine sr mx [v1 2 (λv0=>bld t7 (m0 0) v0)] H (λ_=>.q 0 rfl<|.u [0,2] rfl rfl ((QcU [own (rAny 3 9) 20 p3 y5] QhI (QdP.ok h11) (.cons (.of .k)<|.cons (.own z0 (.head _))<|.nil) (λ_=>Qci) (λ_=>QeO (x:=undef))).glo)<|.e [] [1] [3] rfl rfl rfl rfl (QN Qgv (QbJ h12) (.cons (.of z7)<|.cons (.of z0)<|.nil))<|.n) λm6 a w H=>?_;have H:=H.to [0,3,4,5,6,7,8,9] [_,_,_,_,_,_,_,_] [_,_,_] rfl rfl;refine Q2 H ?_;refine Qa [1,2,3,4,5,7,8,9,10,11] ?_;have⟨e4,h13,h⟩:=bs h;have J4:∀(p4:Str) (y6:Value),p4=e4->To M w0 132 [(55,tsl QA x_.Xd),(56,ti (x_.Xd.length:Int)),(57,ti s1.1),(3,tv (m0 0)),(1,tptr (Qc.cs x_))] [glo,bld p4 (m0 0) y6] K5:=by
     intro p4 y6 he;subst he;refine k8 <|QL [1,2,3,4,5] ?_;exact QV k6 y6 ((sj h).symm) [1,2,0,3,4]
    refine Qj <|QY (λ_ _ H=>(H.pick [0,1,2,5,6,7,8,9]).Xk [0,2] rfl) ?_;refine QaC h13 (λ(s2:Int×Str) (y7:Value)=>[(86,tsl Qat t6.Xg),(87,ti (t6.Xg.length:Int)),(88,ti s2.1),(55,tsl QA x_.Xd),(56,ti (x_.Xd.length:Int)),(57,ti s1.1),(3,tv (m0 0)),(1,tptr (Qc.cs x_))]) (λ(s2:Int×Str) (y7:Value)=>[glo,bld s2.2 (m0 0) y7]) (m6 2) [0,1,2,3,4,5,6,7] ?_;clear h;intro s2 y7 o K7 h ho k10;refine Qa [0,1,2,3,4,5,6,7,8] ?_;refine Qf λ_ k11=>Qn h (λ_ h=>?_) (λ_ h=>?_)
    ·refine Qq <|k11 <|Qf λ_ k12=>Qj ?_;have⟨t8,_,h⟩:=bs h;refine QJ [v1 2 (λv0=>box (Qat.cs (QR.mk (0:Int) (0:Int))) v0),v1 2 (λv0=>box (Qat.cs t8) v0)] [3,4] [2,4,5,6,7,8,9,10,11] λm7=>?_;refine QY (λ_ _ H=>(((H.Xk [2,0,1] rfl).Xl 0 rfl).add 0 rfl (λ_ _ _ h=>h.2)).pick [0,3,4,5,6,7,8,9,10]) ?_;have⟨_,h14,t9,h15,h⟩:=bs2 h;intro a w H;refine wr mx [v1 8 (λv0=>bld t9 (m0 0) v0)] H (λ_=>.o (QjW 0 rfl Qqb tok3 z0 .k (by decide))<|.o (Q5 (u:=t8.a0) tok3 z0 rfl)<|.o (Qi6 ud3 z0)<|.o (QjW 1 rfl Qqb tok3 z3 .k (by decide))<|.o (Q5 (u:=t8.a1) tok3 z0 rfl)<|.o (Qi6 ud3 z0)<|.o (Qaq (R:=(rAny 3 9)) (us:=[(AnyV.int t8.a0),(AnyV.int t8.a1)]) Qqd QnG (.cons z3<|.cons z0<|.nil _) rfl (leb rfl))<|.u [0] rfl rfl ((QN QhI (QdP.ok h14) (.cons (.of .k)<|.cons (.of z0)<|.nil)).glo)<|.e [] [1] [2] rfl rfl rfl rfl (QN Qgv (QbJ h15) (.cons (.of z15)<|.cons (.of z0)<|.nil))<|.n) λm8 a w H=>?_;have H:=H.to [10,11,12,13,14,15,16,17] [_,_,_,_,_,_,_,_] [_,_] rfl rfl;refine Qbl H ?_;refine k12 <|QL [1,2,3,4,5,6,7,8] ?_;exact QV k10 (m8 8) ((sj h).symm) [1,2,0,3,4,5,6,7]
    refine QO <|QV J4 y7 (ho _ (sj h).symm) [4,5,6,7,8]
   refine Qj <|QaC h10 (λ(s3:Int×List AnyV) (y8:Value)=>[(70,tsl rS t6.Xe),(71,ti (t6.Xe.length:Int)),(72,ti s3.1),(10,tv y8),(9,tptr (QA.cs t6)),(55,tsl QA x_.Xd),(56,ti (x_.Xd.length:Int)),(57,ti s1.1),(3,tv (m0 0)),(1,tptr (Qc.cs x_))]) (λ(s3:Int×List AnyV) (y8:Value)=>[glo,bld s1.2 (m0 0) y4,own (rAny 3 9) 20 s3.2 y8]) (m5 7) [0,1,2,4,5,6,7,8,9,10] ?_;clear h;intro s3 y8 o K8 h ho k13;refine Qa [0,1,2,3,4,5,6,7,8,9,10] ?_;refine Qf λ_ k14=>Qn h (λ_ h=>?_) (λ_ h=>?_)
   ·refine Qq <|k14 <|Qf λ_ k15=>Qj ?_;have⟨t10,_,h⟩:=bs h;refine Qa [2,4,5,6,7,8,9,10,11,12,13] ?_;have⟨_,_,h⟩:=bs h;refine Qal [v1 4 (λv0=>own (rAny 3 9) 20 (s3.2++[(AnyV.str t10)]) v0)] [5] [4,5,7,8,9,10,11,12,13,14,15] λm9=>?_;refine k15 <|QL [1,2,3,4,5,6,7,8,9,10,11] ?_;exact QV k13 (m9 4) ((sj h).symm) [3,4,0,2,5,6,7,8,9,10]
   refine QO <|QV J3 y8 (ho _ (sj h).symm) [4,5,6,7,8,9,10]
  refine QO <|QV J1 y4 (ho _ (sj h).symm) [4,5]
 refine Qj <|QaC h2 (λ(s4:Int×Str) (y9:Value)=>[(24,tsl Qg x_.Xa),(25,ti (x_.Xa.length:Int)),(26,ti s4.1),(3,tv (m0 0)),(1,tptr (Qc.cs x_))]) (λ(s4:Int×Str) (y9:Value)=>[glo,bld s4.2 (m0 0) y9]) (m1 5) [0,1,2,3,4] ?_;clear h;intro s4 y9 o K9 h ho k16;refine Qa [0,1,2,3,4,5] ?_;refine Qf λ_ k17=>Qn h (λ_ h=>?_) (λ_ h=>?_)
 ·refine Qq <|k17 <|Qf λK10 k18=>Qj ?_;have⟨t11,_,h⟩:=bs h;refine QJ [v1 2 (λv0=>box (Qg.cs zz1) v0),v1 2 (λv0=>box (Qg.cs t11) v0)] [3,4] [2,4,5,6,7,8] λm10=>?_;refine QY (λ_ _ H=>(((H.Xk [2,0,1] rfl).Xl 0 rfl).add 0 rfl (λ_ _ _ h=>h.2)).pick [0,3,4,5,6,7]) ?_;have⟨_,h16,t12,h17,h⟩:=bs2 h;intro a w H;refine sr mx [v1 11 (λv0=>bld t12 (m0 0) v0)] H (λ_=>.o (Q6 Qhc z0)<|.o (Q5 (u:=t11.Xj) tok9 z0 rfl)<|.o (QjX ud9 z0)<|.o (Q6 Qox z3)<|.o (Q5 (u:=t11.Lo) tok3 z0 rfl)<|.o (Qi6 ud3 z0)<|.o (Q6 Qoy z6)<|.o (Q5 (u:=t11.Hi) tok3 z0 rfl)<|.o (Qi6 ud3 z0)<|.o (Qaq (R:=(rAny 3 9)) (us:=[(AnyV.str t11.Xj),(AnyV.int t11.Lo),(AnyV.int t11.Hi)]) Qqd QnG (.cons z6<|.cons z3<|.cons z0<|.nil _) rfl (leb rfl))<|.u [0] rfl rfl ((QN QhI (QdP.ok h16) (.cons (.of .k)<|.cons (.of z0)<|.nil)).glo)<|.e [] [1] [2] rfl rfl rfl rfl (QN Qgv (QbJ h17) (.cons (.of z15)<|.cons (.of z0)<|.nil))<|.n) λm11 a w H=>?_;have H:=H.to [12,13,14,15,16,17] [_,_,_,_,_,_] [_,_] rfl rfl;refine Q2 H ?_;refine Qa [1,2,3,5,6,7,8,9] ?_;have⟨e5,h18,h⟩:=bs h;have J5:∀(p5:Str) (y10:Value),p5=e5->To M w0 132 [(24,tsl Qg x_.Xa),(25,ti (x_.Xa.length:Int)),(26,ti s4.1),(3,tv (m0 0)),(1,tptr (Qc.cs x_))] [glo,bld p5 (m0 0) y10] K10:=by
   intro p5 y10 he;subst he;refine k18 <|QL [1,2,3,4,5] ?_;exact QV k16 y10 ((sj h).symm) [1,2,0,3,4]
  refine Qj <|QaC h18 (λ(s5:Int×Str) (y11:Value)=>[(43,tsl Qe t11.Xb),(44,ti (t11.Xb.length:Int)),(45,ti s5.1),(24,tsl Qg x_.Xa),(25,ti (x_.Xa.length:Int)),(26,ti s4.1),(3,tv (m0 0)),(1,tptr (Qc.cs x_))]) (λ(s5:Int×Str) (y11:Value)=>[glo,bld s5.2 (m0 0) y11]) (m11 11) [0,1,2,3,4,5,6,7] ?_;clear h;intro s5 y11 o K11 h ho k19;refine Qa [0,1,2,3,4,5,6,7,8] ?_;refine Qf λ_ k20=>Qn h (λ_ h=>?_) (λ_ h=>?_)
  ·refine Qq <|k20 <|Qf λ_ k21=>Qj ?_;have⟨t13,_,h⟩:=bs h;refine QJ [v1 2 (λv0=>box (Qe.cs zz0) v0),v1 2 (λv0=>box (Qe.cs t13) v0)] [3,4] [2,4,5,6,7,8,9,10,11] λm12=>?_;refine QY (λ_ _ H=>(((H.Xk [2,0,1] rfl).Xl 0 rfl).add 0 rfl (λ_ _ _ h=>h.2)).pick [0,3,4,5,6,7,8,9,10]) ?_;have⟨_,h19,t14,h20,h⟩:=bs2 h;intro a w H;refine wr mx [v1 2 (λv0=>bld t14 (m0 0) v0)] H (λ_=>.o (Qaa QaW z0)<|.u [0] rfl rfl ((QN QsH (QnU.ok h19) (.cons (.of z0)<|.nil)).glo)<|.e [] [1] [2] rfl rfl rfl rfl (QN Qgv (QbJ h20) (.cons (.of z9)<|.cons (.of z0)<|.nil))<|.n) λm13 a w H=>?_;have H:=H.to [4,5,6,7,8,9,10,11] [_,_,_,_,_,_,_,_] [_,_] rfl rfl;refine Qbl H ?_;refine k21 <|QL [1,2,3,4,5,6,7,8] ?_;exact QV k19 (m13 2) ((sj h).symm) [1,2,0,3,4,5,6,7]
  refine QO <|QV J5 y11 (ho _ (sj h).symm) [4,5,6,7,8]
 refine QO <|QV J0 y9 (ho _ (sj h).symm) [4,5]
def Qfw (x_:Qb):Option (Int):=(Qbb x_.Version 0 1048576).bind λt0=>(opt (((((!t0)||(decide ((x_.Xa.length:Int)>6)))||(decide ((x_.Xd.length:Int)>6)))||(decide ((x_.Xc.length:Int)>16)))==false) (QdU x_.Xa (λx0=>QeS x0)) default).bind λt1=>(opt ((((((!t0)||(decide ((x_.Xa.length:Int)>6)))||(decide ((x_.Xd.length:Int)>6)))||(decide ((x_.Xc.length:Int)>16)))||(!t1))==false) (QdW x_.Xd (λx0=>QeT x0)) default).bind λt2=>(opt (((((((!t0)||(decide ((x_.Xa.length:Int)>6)))||(decide ((x_.Xd.length:Int)>6)))||(decide ((x_.Xc.length:Int)>16)))||(!t1))||(!t2))==false) (QdY x_.Xc (λx0=>QeU x0)) default).bind λt3=>(if (((((((!t0)||(decide ((x_.Xa.length:Int)>6)))||(decide ((x_.Xd.length:Int)>6)))||(decide ((x_.Xc.length:Int)>16)))||(!t1))||(!t2))||(!t3))=true then (some (1:Int)) else (QeV x_).bind λt4=>(if (decide ((t4.length:Int)>8192))=true then (some (4:Int)) else (some (0:Int))))
instance QyT:SpcS prog 77 (∀{x_:Qb} {r:Int},Qfw x_=some r->FnOk prog 77 [Qc.ty x_] [glo] (λ_=>[]) (λ_=>ti r)):=.mk λ{x_ r} h=>by
 unfold Qfw at h
 refine Fe func77 ntmps77 λM0 M w0 hpl=>?_
 refine Qa [0] ?_
 refine Qf λ_ k0=>?_
 refine Qj ?_
 have⟨_,_,_,_,_,_,_,_,h⟩:=bs4 h
 refine Qa [40,41] ?_
 refine Qn h (λ_ h=>?_) (λ_ h=>?_)
 ·refine Qa [0] ?_
  exact Qo h (·▸Ql hpl)
 have⟨_,_,h⟩:=bs h
 refine Qa [4] ?_
 refine Qn h (λ_ h=>?_) (λ_ h=>?_)
 ·refine Qa [0] ?_
  exact Qo h (·▸Ql hpl)
 refine Qq ?_
 refine k0 ?_
 refine Qa [0] ?_
 exact Qo h (·▸Ql hpl)
def Qce (kind_:Int) (field_:Int) (rule_:Int) (e_:Int) (c0_:(List QB)):Option ((List QB)):=((if (e_ !=0)=true then (rm (c0_.length+[(QB.mk kind_ field_ rule_ e_)].length)).bind λ_=>(some (c0_++[(QB.mk kind_ field_ rule_ e_)])) else (some c0_))).bind λp0=>(some p0)
instance QeF:SpcS prog 78 (∀{q4:Value} {vh4:Value} {kind_:Int} {field_:Int} {rule_:Int} {e_:Int} {c0_:(List QB)} {r:(List QB)},Qce kind_ field_ rule_ e_ c0_=some r->FnOk prog 78 [ti kind_,ti field_,ti rule_,ti e_,tv q4] [box (rVal.cs vh4) q4,own Q7 149 c0_ vh4] (λv=>[box (rVal.cs v) q4,own Q7 149 r v]) (λ_=>ttup [])):=.mk λ{q4 vh4 kind_ field_ rule_ e_ c0_ r} h=>by
 unfold Qce at h
 refine Fe func78 ntmps78 λM0 M w0 hpl=>?_
 refine Qa [1,2,3,4,5,6] ?_
 have⟨p0,h0,h⟩:=bs h
 have J0:∀(y0:Value),To M w0 19 [(4,tv q4)] [own Q7 149 p0 y0,box (rVal.cs y0) q4] (Ret prog f78 M0 [box (rVal.cs vh4) q4,own Q7 149 c0_ vh4] w0 (λv=>[box (rVal.cs v) q4,own Q7 149 r v]) (λ_=>ttup []) .normal):=by
  intro y0;obtain rfl:=sj h;exact QtO y0 [1,0] hpl
 replace h:=h0;clear h0;refine Qn h (λ_ h=>?_) (λ_ h=>?_)
 ·have⟨_,_,h⟩:=bs h;refine Qal [v1 7 (λv0=>own Q7 149 (c0_++[(QB.mk kind_ field_ rule_ e_)]) v0),v1 7 (λv0=>box (rVal.cs v0) q4)] [8,9] [7,13] λm0=>?_;obtain rfl:=sj h;exact QK (J0 (m0 7)) [1]
 refine Qq ?_;obtain rfl:=sj h;refine Qad (λ_ _ H=>(H.pick [5]).Xk [1,0] rfl) ?_;exact QK (J0 vh4) [0]
def QfW (m_:QC) (c0_:QC):Option (Bool):=(some (m_.Xj==c0_.Xj))
instance QwY:Spc2 prog 80 QfW (λm_ c0_=>[QA.ty m_,tptr (QA.cs c0_)]) tb:=.mk λ{m_ c0_ r} h=>by
 unfold QfW at h
 refine Fe func80 ntmps80 λM0 M w0 hpl=>?_
 refine Qa [0,3] ?_
 refine Qa [5] ?_
 exact Qo h (·▸Ql hpl)
def Qax (l_:(List Qaf)):Option (Int):=(Qm (λ(s0:Int)=>((if (decide (s0<(l_.length:Int)))=true then (idx l_ s0).bind λt0=>(if t0.is=true then (some (.inr (.inr t0.code))) else (some (.inl (i64.wrap (s0+1))))) else (some (.inr (.inl ())))):Option ((Int)⊕((Unit)⊕(Int))))) (0:Int)).bind λe0=>(match e0 with | .inl _=>(some (0:Int)) | .inr p0=>(some p0))
instance QnV:Spc1 prog 81 Qax (λl_=>[tsl Qa9 l_]) ti:=.mk λ{l_ r} h=>by
 unfold Qax at h
 refine Fe func81 ntmps81 λM0 M w0 hpl=>?_
 refine Qa [1] ?_
 refine Qf λK0 k0=>?_
 refine Qa [0,1,2] ?_
 have⟨e0,h0,h⟩:=bs h
 have J0:∀(p0:Unit),(.inl p0)=e0->To M w0 16 [] [] K0:=by
  intro p0 he;subst he;simp only at h;refine k0 <|Qa [0] ?_;exact Qo h (·▸Ql hpl)
 have J1:∀(p1:Int),(.inr p1)=e0->To M w0 16 [(2,ti p1)] [] (Ret prog f81 M0 [] w0 (λ_=>[]) (λ_=>ti r) .ret):=by
  intro p1 he;subst he;simp only at h;obtain rfl:=sj h;exact Ql hpl
 refine Qj <|Qai h0 (λ(s0:Int)=>[(5,tsl Qa9 l_),(6,ti (l_.length:Int)),(7,ti s0)]) (λ(s0:Int)=>[]) [0,1,2] ?_;clear h;intro s0 o K1 h ho k1;refine Qa [0,1,2,3] ?_;refine Qf λ_ k2=>Qn h (λ_ h=>?_) (λ_ h=>?_)
 ·refine Qq <|k2 <|Qf λ_ k3=>Qj ?_;have⟨t0,_,h⟩:=bs h;refine QJ [v1 2 (λv0=>box (Qa9.cs (Qaf.mk false (0:Int))) v0),v1 2 (λv0=>box (Qa9.cs t0) v0)] [3,4] [2,4,5,6] λm0=>?_;refine QY (λ_ _ H=>((H.Xl 0 rfl).add 0 rfl (λ_ _ _ h=>h.2)).pick [0,3,4,5]) ?_;refine Qa [1,2,3,4,5] ?_;refine Qn h (λ_ h=>?_) (λ_ h=>?_)
  ·refine Qa [2] ?_;refine Qam ?_;exact Qu J1 (ho _ (sj h).symm) [0]
  refine Qq <|k3 <|QL [1,4,5] ?_;exact Qu k1 ((sj h).symm) [1,2,0]
 refine QO <|Qu J0 (ho _ (sj h).symm) []
def Qgx (k_:Qi) (c0_:Str):Option (Bool):=(some (k_.Xj==c0_))
instance Qx4:Spc2 prog 157 Qgx (λk_ c0_=>[Qg.ty k_,tptr (rS.cs c0_)]) tb:=.mk λ{k_ c0_ r} h=>by
 unfold Qgx at h
 refine Fe func157 ntmps157 λM0 M w0 hpl=>?_
 refine Qa [0,3] ?_
 refine Qa [4] ?_
 exact Qo h (·▸Ql hpl)
def QbU (x_:Qb) (name_:Str):Option (Int):=(QbD x_.Xa (λx0=>Qgx x0 name_)).bind λt0=>(some t0)
instance Qj4:Spc2 prog 111 QbU (λx_ name_=>[Qc.ty x_,tv (.string (sB name_))]) ti:=.mk λ{x_ name_ r} h=>by
 unfold QbU at h
 refine Fe func111 ntmps111 λM0 M w0 hpl=>?_
 refine Qa [0,1] ?_
 have⟨_,_,h⟩:=bs h
 refine Qa [4] ?_
 exact Qo h (·▸Ql hpl)

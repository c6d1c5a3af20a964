/- The walk. No condition. -/
import Derived.Test.YtlajingmjmnfgaaGreatDoorGenC
set_option linter.all false
open Go.Proofs.Tryz Go.IntKind
namespace Go.Proofs.YtlajingmjmnfgaaGreatDoor
noncomputable section
open Go.Sim
set_option maxRecDepth 100000
set_option maxHeartbeats 4000000
def QcO (l_:(List Qs)) (right_:(Qs->Option Bool)):Option (Bool):=(QaE l_ (λx0=>QdT x0 right_)).bind λt0=>(some (!t0))
instance QuV:Spc2 prog 122 QcO (λl_ right_=>[tsl Qn l_,QlG.ty right_]) tb:=.mk λ{l_ right_ r} h=>by
 unfold QcO at h
 refine Fe func122 ntmps122 λM0 M w0 hpl=>?_
 refine Qa [0,2] ?_
 have⟨_,_,h⟩:=bs h
 refine Qa [4] ?_
 exact Qo h (·▸Ql hpl)
def QcP (m_:QF) (c0_:Int):Option (Bool):=(QaZ m_.a0 0 (i64.wrap (c0_ - 1))).bind λt0=>(opt (t0==true) (QaZ m_.a1 0 (i64.wrap (c0_ - 1))) default).bind λt1=>(some (t0&&t1))
instance QuW:Spc2 prog 170 QcP (λm_ c0_=>[Qai.ty m_,tptr (rI.cs c0_)]) tb:=.mk λ{m_ c0_ r} h=>by
 unfold QcP at h
 refine Fe func170 ntmps170 λM0 M w0 hpl=>?_
 refine Qa [0,3] ?_
 have⟨_,_,_,_,h⟩:=bs2 h
 refine Qa [12] ?_
 exact Qo h (·▸Ql hpl)
def Qde (x_:QF) (c0_:(QF->Option Bool)):Option (Bool):=(c0_ x_).bind λt0=>(some (!t0))
instance Qrx:Spc2 prog 205 Qde (λx_ c0_=>[Qai.ty x_,tptr (QlK.cs c0_)]) tb:=.mk λ{x_ c0_ r} h=>by
 unfold Qde at h
 refine Fe func205 ntmps205 λM0 M w0 hpl=>?_
 refine Qa [0,3] ?_
 have⟨_,_,h⟩:=bs h
 refine Qa [4] ?_
 exact Qo h (·▸Ql hpl)
def Qbg (s_:(List QF)) (f_:(QF->Option Bool)):Option (Int):=(Qu (λ(s0:Int)=>((if (decide (s0<(s_.length:Int)))=true then (idx s_ s0).bind λt0=>(f_ t0).bind λt1=>(if t1=true then (some (.inr (.inr s0))) else (some (.inl (i64.wrap (s0+1))))) else (some (.inr (.inl ())))):Option ((Int)⊕((Unit)⊕(Int))))) (0:Int)).bind λe0=>(match e0 with | .inl _=>(some (-1:Int)) | .inr p0=>(some p0))
instance QpK:Spc2 prog 223 Qbg (λs_ f_=>[tsl Qai s_,QlK.ty f_]) ti:=.mk λ{s_ f_ r} h=>by
 unfold Qbg at h
 refine Fe func223 ntmps223 λM0 M w0 hpl=>?_
 refine Qa [1,2] ?_
 refine Qi λK0 k0=>?_
 refine Qa [1,2,3,4] ?_
 have⟨e0,h0,h⟩:=bs h
 have J0:∀(p0:Unit),(.inl p0)=e0->To M w0 19 [] [] K0:=by
  intro p0 he;subst he;simp only at h;refine k0 <|Qa [0] ?_;exact Qo h (·▸Ql hpl)
 have J1:∀(p1:Int),(.inr p1)=e0->To M w0 19 [(4,ti p1)] [] (Ret prog f223 M0 [] w0 (λ_=>[]) (λ_=>ti r) .ret):=by
  intro p1 he;subst he;simp only at h;obtain rfl:=sj h;exact Ql hpl
 refine Qm <|Qan h0 (λ(s0:Int)=>[(7,ti (s_.length:Int)),(8,ti s0),(0,tsl Qai s_),(1,QlK.ty f_)]) (λ(s0:Int)=>[]) [0,1,2,3] ?_;clear h;intro s0 o K1 h ho k1;refine Qa [0,1,2,3,4] ?_;refine Qi λ_ k2=>Qq h (λ_ h=>?_) (λ_ h=>?_)
 ·refine Qt <|k2 <|Qi λ_ k3=>Qm <|Qa [1,3,4,5,6] ?_;have⟨_,_,_,_,h⟩:=bs2 h;refine Qa [5,6,7,8,9,10] ?_;refine Qq h (λ_ h=>?_) (λ_ h=>?_)
  ·refine Qa [1] ?_;refine Qap ?_;exact Qz J1 (ho _ (sj h).symm) [0]
  refine Qt <|k3 <|QL [1,4,5,6] ?_;exact Qz k1 ((sj h).symm) [1,0,2,3]
 refine QP <|Qz J0 (ho _ (sj h).symm) []
def QaW (s_:(List QF)) (f_:(QF->Option Bool)):Option (Bool):=(Qbg s_ f_).bind λt0=>(some (decide (t0>=0)))
instance QoB:Spc2 prog 204 QaW (λs_ f_=>[tsl Qai s_,QlK.ty f_]) tb:=.mk λ{s_ f_ r} h=>by
 unfold QaW at h
 refine Fe func204 ntmps204 λM0 M w0 hpl=>?_
 refine Qa [1,2] ?_
 have⟨_,_,h⟩:=bs h
 refine Qa [4] ?_
 exact Qo h (·▸Ql hpl)
def Qb6 (l_:(List QF)) (right_:(QF->Option Bool)):Option (Bool):=(QaW l_ (λx0=>Qde x0 right_)).bind λt0=>(some (!t0))
instance Qs7:Spc2 prog 169 Qb6 (λl_ right_=>[tsl Qai l_,QlK.ty right_]) tb:=.mk λ{l_ right_ r} h=>by
 unfold Qb6 at h
 refine Fe func169 ntmps169 λM0 M w0 hpl=>?_
 refine Qa [0,2] ?_
 have⟨_,_,h⟩:=bs h
 refine Qa [4] ?_
 exact Qo h (·▸Ql hpl)
def Qdz (x_:Qs):Option (Bool):=(Qaj x_.Xj).bind λt0=>(opt (t0==true) (QaZ (x_.Xe.length:Int) 1 12) default).bind λt1=>(opt ((t0&&t1)==true) (QbM x_.Xe (λx0=>Qaj x0)) default).bind λt2=>(opt ((((t0&&t1)&&t2)&&(decide ((x_.Xg.length:Int)<=32)))==true) (Qb6 x_.Xg (λx0=>QcP x0 (x_.Xe.length:Int))) default).bind λt3=>(some ((((t0&&t1)&&t2)&&(decide ((x_.Xg.length:Int)<=32)))&&t3))
instance QwF:Spc1 prog 123 Qdz (λx_=>[Qn.ty x_]) tb:=.mk λ{x_ r} h=>by
 unfold Qdz at h
 refine Fe func123 ntmps123 λM0 M w0 hpl=>?_
 refine Qa [0] ?_
 refine QB [v1 3 (λv0=>box (rI.cs (0:Int)) v0),v1 3 (λv0=>box (rI.cs (x_.Xe.length:Int)) v0)] [4,5] [3,4] λm0=>?_
 refine QN (λ_ _ H=>((H.Xl 0 rfl).add 0 rfl (λ_ _ _ h=>h.2)).pick [0,3]) ?_
 have⟨_,_,_,_,_,_,_,_,h⟩:=bs4 h
 refine Qa [24] ?_
 exact Qo h (·▸Ql hpl)
def QdU (x_:Qh) (c0_:(Qh->Option Bool)):Option (Bool):=(c0_ x_).bind λt0=>(some (!t0))
instance Qs8:Spc2 prog 171 QdU (λx_ c0_=>[Qk.ty x_,tptr (Qi5.cs c0_)]) tb:=.mk λ{x_ c0_ r} h=>by
 unfold QdU at h
 refine Fe func171 ntmps171 λM0 M w0 hpl=>?_
 refine Qa [0,3] ?_
 have⟨_,_,h⟩:=bs h
 refine Qa [4] ?_
 exact Qo h (·▸Ql hpl)
def QaK (s_:(List Qh)) (f_:(Qh->Option Bool)):Option (Int):=(Qu (λ(s0:Int)=>((if (decide (s0<(s_.length:Int)))=true then (idx s_ s0).bind λt0=>(f_ t0).bind λt1=>(if t1=true then (some (.inr (.inr s0))) else (some (.inl (i64.wrap (s0+1))))) else (some (.inr (.inl ())))):Option ((Int)⊕((Unit)⊕(Int))))) (0:Int)).bind λe0=>(match e0 with | .inl _=>(some (-1:Int)) | .inr p0=>(some p0))
instance Qki:Spc2 prog 113 QaK (λs_ f_=>[tsl Qk s_,Qi5.ty f_]) ti:=.mk λ{s_ f_ r} h=>by
 unfold QaK at h
 refine Fe func113 ntmps113 λM0 M w0 hpl=>?_
 refine Qa [1,2] ?_
 refine Qi λK0 k0=>?_
 refine Qa [1,2,3,4] ?_
 have⟨e0,h0,h⟩:=bs h
 have J0:∀(p0:Unit),(.inl p0)=e0->To M w0 19 [] [] K0:=by
  intro p0 he;subst he;simp only at h;refine k0 <|Qa [0] ?_;exact Qo h (·▸Ql hpl)
 have J1:∀(p1:Int),(.inr p1)=e0->To M w0 19 [(4,ti p1)] [] (Ret prog f113 M0 [] w0 (λ_=>[]) (λ_=>ti r) .ret):=by
  intro p1 he;subst he;simp only at h;obtain rfl:=sj h;exact Ql hpl
 refine Qm <|Qan h0 (λ(s0:Int)=>[(7,ti (s_.length:Int)),(8,ti s0),(0,tsl Qk s_),(1,Qi5.ty f_)]) (λ(s0:Int)=>[]) [0,1,2,3] ?_;clear h;intro s0 o K1 h ho k1;refine Qa [0,1,2,3,4] ?_;refine Qi λ_ k2=>Qq h (λ_ h=>?_) (λ_ h=>?_)
 ·refine Qt <|k2 <|Qi λ_ k3=>Qm <|Qa [1,3,4,5,6] ?_;have⟨_,_,_,_,h⟩:=bs2 h;refine Qa [5,6,7,8,9,10] ?_;refine Qq h (λ_ h=>?_) (λ_ h=>?_)
  ·refine Qa [1] ?_;refine Qap ?_;exact Qz J1 (ho _ (sj h).symm) [0]
  refine Qt <|k3 <|QL [1,4,5,6] ?_;exact Qz k1 ((sj h).symm) [1,0,2,3]
 refine QP <|Qz J0 (ho _ (sj h).symm) []
def QaQ (s_:(List Qh)) (f_:(Qh->Option Bool)):Option (Bool):=(QaK s_ f_).bind λt0=>(some (decide (t0>=0)))
instance Qpq:Spc2 prog 130 QaQ (λs_ f_=>[tsl Qk s_,Qi5.ty f_]) tb:=.mk λ{s_ f_ r} h=>by
 unfold QaQ at h
 refine Fe func130 ntmps130 λM0 M w0 hpl=>?_
 refine Qa [1,2] ?_
 have⟨_,_,h⟩:=bs h
 refine Qa [4] ?_
 exact Qo h (·▸Ql hpl)
def QcQ (l_:(List Qh)) (right_:(Qh->Option Bool)):Option (Bool):=(QaQ l_ (λx0=>QdU x0 right_)).bind λt0=>(some (!t0))
instance QuX:Spc2 prog 124 QcQ (λl_ right_=>[tsl Qk l_,Qi5.ty right_]) tb:=.mk λ{l_ right_ r} h=>by
 unfold QcQ at h
 refine Fe func124 ntmps124 λM0 M w0 hpl=>?_
 refine Qa [0,2] ?_
 have⟨_,_,h⟩:=bs h
 refine Qa [4] ?_
 exact Qo h (·▸Ql hpl)
def QdA (r_:Qh):Option (Bool):=(Qaj r_.Xj).bind λt0=>(opt (t0==true) (Qaj r_.Xi) default).bind λt1=>(opt (((t0&&t1)==true)&&((r_.A==([]:Str))==false)) (Qaj r_.A) default).bind λt2=>(opt ((((t0&&t1)&&((r_.A==([]:Str))||t2))==true)&&((r_.B==([]:Str))==false)) (Qaj r_.B) default).bind λt3=>(opt ((((t0&&t1)&&((r_.A==([]:Str))||t2))&&((r_.B==([]:Str))||t3))==true) (cat (r_.A.length+r_.B.length)) default).bind λ_=>(opt (((((t0&&t1)&&((r_.A==([]:Str))||t2))&&((r_.B==([]:Str))||t3))&&((r_.A++r_.B) !=([]:Str)))==true) (QaZ r_.N (-1048576) 1048576) default).bind λt4=>(some (((((t0&&t1)&&((r_.A==([]:Str))||t2))&&((r_.B==([]:Str))||t3))&&((r_.A++r_.B) !=([]:Str)))&&t4))
instance QwG:Spc1 prog 125 QdA (λr_=>[Qk.ty r_]) tb:=.mk λ{r_ r} h=>by
 unfold QdA at h
 refine Fe func125 ntmps125 λM0 M w0 hpl=>?_
 refine Qa [0] ?_
 have⟨_,_,_,_,_,_,_,_,h⟩:=bs4 h
 have⟨_,_,_,_,h⟩:=bs2 h
 refine Qa [41] ?_
 exact Qo h (·▸Ql hpl)
def QaB (word_:Str) (l_:(List AnyV)):Option (Str):=(Qas ([]:Str) word_).bind λt0=>(Qu (λ(s0:Int×Str)=>((if (decide (s0.1<(l_.length:Int)))=true then (idx l_ s0.1).bind λt1=>(Qhr s0.2 (32:Int)).bind λt2=>((if t1.asInt.2=true then (QlL t1.asInt.1).bind λt3=>(Qas t2 t3).bind λt4=>(some t4) else ((if t1.asStr.2=true then (Qas t2 t1.asStr.1).bind λt5=>(some t5) else (some t2))).bind λp0=>(some p0))).bind λp1=>(some (.inl ((i64.wrap (s0.1+1)),p1))) else (some (.inr s0.2))):Option ((Int×Str)⊕((Str))))) ((0:Int),t0)).bind λp2=>(QfT p2).bind λt6=>(cat (t6.length+([10]:Str).length)).bind λ_=>(some (t6++([10]:Str)))
instance QeD:SpcS prog 173 (∀{word_:Str} {l_:(List AnyV)} {r:Str},QaB word_ l_=some r->FnOk prog 173 [tv (.string (sB word_)),tsl (rAny 3 9) l_] [glo] (λ_=>[]) (λ_=>tv (.string (sB r)))):=.mk λ{word_ l_ r} h=>by
 unfold QaB at h
 refine Fe func173 ntmps173 λM0 M w0 hpl=>?_
 refine Qa [1,2] ?_
 intro a w H
 refine sr mx [v1 0 (λv0=>bld ([]:Str) v0 nilV)] H (λ_=>.m [] [1] rfl rfl rfl (Qpi bInfo)<|.n) λm0 a w H=>?_
 have H:=H.to [0,1,2] [_,_,_] [_,_] rfl rfl
 refine Q8 H ?_
 have⟨t0,h0,h⟩:=bs h
 intro a w H
 refine sr mx [v1 1 (λv0=>bld t0 (m0 0) v0)] H (λ_=>.q 1 rfl<|.e [] [1] [2] rfl rfl rfl rfl (QJ Qha (Qb0 h0) (.cons (.of z1)<|.cons (.of z0)<|.nil))<|.n) λm1 a w H=>?_
 have H:=H.to [2,4] [_,_] [_,_] rfl rfl
 refine Q8 H ?_
 refine Qi λK0 k0=>?_
 refine Qa [0,1,2,3] ?_
 have⟨e0,h1,h⟩:=bs h
 have J0:∀(p0:Str) (y0:Value),p0=e0->To M w0 34 [(5,tv (m0 0))] [glo,bld p0 (m0 0) y0] K0:=by
  intro p0 y0 he;subst he;refine k0 ?_;have⟨t1,h2,_,h3,h⟩:=bs2 h;intro a w H;refine sr mx [] H (λ_=>.e [] [1] [] rfl rfl rfl rfl (QJ Qsf (Qoc h2) (.cons (.of z0)<|.nil))<|.o (Qcn z0 .k h3)<|.o (Qp z0)<|.n) λ_ a w H=>?_;have H:=H.to [2] [_] [_] rfl rfl;refine Q8 H ?_;exact Qo h (·▸Ql hpl)
 refine Qm <|QaJ h1 (λ(s0:Int×Str) (y1:Value)=>[(12,tsl (rAny 3 9) l_),(13,ti (l_.length:Int)),(14,ti s0.1),(5,tv (m0 0))]) (λ(s0:Int×Str) (y1:Value)=>[glo,bld s0.2 (m0 0) y1]) (m1 1) [0,1,2,3] ?_;clear h;intro s0 y1 o K1 h ho k1;refine Qa [0,1,2,3,4] ?_;refine Qi λ_ k2=>Qq h (λ_ h=>?_) (λ_ h=>?_)
 ·refine Qt <|k2 <|Qi λK2 k3=>Qm ?_;have⟨t2,_,h⟩:=bs h;refine Qa [2,4,5,6,7] ?_;have⟨t3,h4,h⟩:=bs h;intro a w H;refine sr mx [v1 0 (λv0=>bld t3 (m0 0) v0)] H (λ_=>.e [] [1] [2] rfl rfl rfl rfl (QJ Qzo (QpI h4) (.cons (.of z4)<|.cons (.of .k)<|.nil))<|.n) λm2 a w H=>?_;have H:=H.to [1,2,3,4,5] [_,_,_,_,_] [_,_] rfl rfl;refine Q8 H ?_;refine Qa [0,2,3,4,5] ?_;refine Qm ?_;intro a w H;refine sr mx [] H (λ_=>.o (op_asI (by decide) tok3 ud3 z0)<|.o (Qam z0 rfl)<|.o (Qam z1 rfl)<|.n) λ_ a w H=>?_;have H:=H.to [1,2,3,4,5,6,7] [_,_,_,_,_,_,_] [_,_] rfl rfl;refine Q8 H ?_;have⟨p1,h5,h⟩:=bs h;have J1:∀(y2:Value),To M w0 34 [(12,tsl (rAny 3 9) l_),(13,ti (l_.length:Int)),(14,ti s0.1),(5,tv (m0 0))] [glo,bld p1 (m0 0) y2] K2:=by
   intro y2;refine k3 <|QL [1,2,3,4] ?_;exact QX k1 y2 ((sj h).symm) [1,2,0,3]
  replace h:=h5;clear h5;refine Qq h (λ_ h=>?_) (λ_ h=>?_)
  ·refine Qa [0,4,5,6,7] ?_;have⟨_,h6,t4,h7,h⟩:=bs2 h;intro a w H;refine wr mx [v1 2 (λv0=>bld t4 (m0 0) v0)] H (λ_=>.q 0 rfl<|.u [0] rfl rfl ((QJ Qzp (Qzq h6) (.cons (.of z0)<|.nil)).glo)<|.e [] [1] [2] rfl rfl rfl rfl (QJ Qha (Qb0 h7) (.cons (.of z6)<|.cons (.of z0)<|.nil))<|.n) λm3 a w H=>?_;have H:=H.to [4,5,6,7] [_,_,_,_] [_,_] rfl rfl;refine Qcz H ?_;obtain rfl:=sj h;exact QI (J1 (m3 2)) [0,1,2,3]
  intro a w H;refine sr mx [] H (λ_=>.o (op_asS (by decide) tok9 ud9 z2)<|.o (Qam z0 rfl)<|.o (Qam z1 rfl)<|.n) λ_ a w H=>?_;have H:=H.to [1,2,6,7,8,9] [_,_,_,_,_,_] [_,_] rfl rfl;refine Q8 H ?_;have⟨p2,h8,h⟩:=bs h;have J2:∀(y3:Value),To M w0 34 [(12,tsl (rAny 3 9) l_),(13,ti (l_.length:Int)),(14,ti s0.1),(5,tv (m0 0))] [glo,bld p2 (m0 0) y3] K2:=by
   intro y3;obtain rfl:=sj h;exact QI (J1 y3) [0,1,2,3]
  replace h:=h8;clear h8;refine Qq h (λ_ h=>?_) (λ_ h=>?_)
  ·refine Qa [0,3,4,5,6] ?_;have⟨t5,h9,h⟩:=bs h;intro a w H;refine wr mx [v1 1 (λv0=>bld t5 (m0 0) v0)] H (λ_=>.q 0 rfl<|.e [] [1] [2] rfl rfl rfl rfl (QJ Qha (Qb0 h9) (.cons (.of z5)<|.cons (.of z0)<|.nil))<|.n) λm4 a w H=>?_;have H:=H.to [3,4,5,6] [_,_,_,_] [_,_] rfl rfl;refine Qcz H ?_;obtain rfl:=sj h;exact QI (J2 (m4 1)) [0,1,2,3]
  refine Qt ?_;obtain rfl:=sj h;exact QI (J2 (m2 0)) [2,3,4,5]
 refine QP <|QX J0 y1 (ho _ (sj h).symm) [4]
def QeE (vals_:(List Str)):Option (Str):=(Qu (λ(s0:Int)=>((if (decide (s0<(vals_.length:Int)))=true then (idx vals_ s0).bind λt0=>(if (t0 !=([]:Str))=true then (some (.inr (.inr t0))) else (some (.inl (i64.wrap (s0+1))))) else (some (.inr (.inl ())))):Option ((Int)⊕((Unit)⊕(Str))))) (0:Int)).bind λe0=>(match e0 with | .inl _=>(some ([]:Str)) | .inr p0=>(some p0))
instance QwH:Spc1 prog 209 QeE (λvals_=>[tsl rS vals_]) (λr=>tv (.string (sB r))):=.mk λ{vals_ r} h=>by
 unfold QeE at h
 refine Fe func209 ntmps209 λM0 M w0 hpl=>?_
 refine Qa [1] ?_
 refine Qa [0,1] ?_
 refine Qi λK0 k0=>?_
 refine Qa [0,1,2,3] ?_
 have⟨e0,h0,h⟩:=bs h
 have J0:∀(p0:Unit),(.inl p0)=e0->To M w0 18 [(3,tv (.string (sB ([]:Str))))] [] K0:=by
  intro p0 he;subst he;simp only at h;refine k0 <|Qa [1] ?_;exact Qo h (·▸Ql hpl)
 have J1:∀(p1:Str),(.inr p1)=e0->To M w0 18 [(2,tv (.string (sB p1)))] [] (Ret prog f209 M0 [] w0 (λ_=>[]) (λ_=>tv (.string (sB r))) .ret):=by
  intro p1 he;subst he;simp only at h;obtain rfl:=sj h;exact Ql hpl
 refine Qm <|Qan h0 (λ(s0:Int)=>[(6,tsl rS vals_),(7,ti (vals_.length:Int)),(8,ti s0),(3,tv (.string (sB ([]:Str))))]) (λ(s0:Int)=>[]) [0,1,2,3] ?_;clear h;intro s0 o K1 h ho k1;refine Qa [0,1,2,3,4] ?_;refine Qi λ_ k2=>Qq h (λ_ h=>?_) (λ_ h=>?_)
 ·refine Qt <|k2 <|Qi λ_ k3=>Qm ?_;have⟨_,_,h⟩:=bs h;refine Qa [2,4,5,6,7] ?_;refine Qa [2,3,4,5,6,7] ?_;refine Qq h (λ_ h=>?_) (λ_ h=>?_)
  ·refine Qa [1] ?_;refine Qap ?_;exact Qz J1 (ho _ (sj h).symm) [0]
  refine Qt <|k3 <|QL [1,4,5,6] ?_;exact Qz k1 ((sj h).symm) [1,2,0,3]
 refine QP <|Qz J0 (ho _ (sj h).symm) [4]
def QcH (s_:Str):Option (Str):=(QeE [s_,([45]:Str)]).bind λt0=>(some t0)
instance Qkz:Spc1 prog 175 QcH (λs_=>[tv (.string (sB s_))]) (λr=>tv (.string (sB r))):=.mk λ{s_ r} h=>by
 unfold QcH at h
 refine Fe func175 ntmps175 λM0 M w0 hpl=>?_
 refine Qa [1] ?_
 have⟨_,_,h⟩:=bs h
 refine Qa [3] ?_
 exact Qo h (·▸Ql hpl)
def Qeb (f_:Qb):Option (Str):=(idx Qkg f_.Xi).bind λt0=>(if (f_.Xi==0)=true then (QaB t0 [(AnyV.str f_.Xj),(AnyV.int f_.Lo)]).bind λt1=>(some t1) else (if (f_.Xi==2)=true then (QaB t0 [(AnyV.str f_.Xj),(AnyV.int f_.Lo),(AnyV.int f_.Hi)]).bind λt2=>(some t2) else (if (f_.Xi==3)=true then (Qu (λ(s0:Int×List AnyV)=>((if (decide (s0.1<(f_.Words.length:Int)))=true then (idx f_.Words s0.1).bind λt3=>(idx f_.Xf s0.1).bind λt4=>(rm (s0.2.length+[(AnyV.str t3),(AnyV.int t4)].length)).bind λ_=>(some (.inl ((i64.wrap (s0.1+1)),(s0.2++[(AnyV.str t3),(AnyV.int t4)])))) else (some (.inr s0.2))):Option ((Int×List AnyV)⊕((List AnyV))))) ((0:Int),[(AnyV.str f_.Xj),(AnyV.int (f_.Words.length:Int))])).bind λp0=>(QaB t0 p0).bind λt5=>(some t5) else (if (f_.Xi==6)=true then (QaB t0 [(AnyV.str f_.Xj),(AnyV.str f_.Of)]).bind λt6=>(some t6) else (if (f_.Xi==7)=true then (QaB t0 [(AnyV.str f_.Xj),(AnyV.str f_.Up),(AnyV.str f_.Of),(AnyV.int f_.Lo),(AnyV.int f_.Hi)]).bind λt7=>(some t7) else (if (f_.Xi==8)=true then (QaB t0 [(AnyV.str f_.Xj),(AnyV.str f_.Up),(AnyV.str f_.Of)]).bind λt8=>(some t8) else (QcH f_.Of).bind λt9=>(QaB t0 [(AnyV.str f_.Xj),(AnyV.str t9),(AnyV.int f_.Lo),(AnyV.int f_.Hi)]).bind λt10=>(some t10)))))))
instance Qog:SpcS prog 174 (∀{f_:Qb} {r:Str},Qeb f_=some r->FnOk prog 174 [Qd.ty f_] [glo] (λ_=>[]) (λ_=>tv (.string (sB r)))):=.mk λ{f_ r} h=>by
 unfold Qeb at h
 refine Fe func174 ntmps174 λM0 M w0 hpl=>?_
 refine Qa [0] ?_
 have⟨t0,h0,h⟩:=bs h
 intro a w H
 refine sr mx [] H (λ_=>.o (Q4 QhZ z0)<|.o (Q2 (u:=f_.Xi) tok3 z0 rfl)<|.u [0] rfl rfl (QvV underlying270 tok9 Qv7 rfl z0 rfl h0)<|.o (Q9 tok9 z0)<|.o (Qp z0)<|.n) λ_ a w H=>?_
 have H:=H.t2_1 [4,5]
 refine Q8 H ?_
 refine Qi λ_ k0=>?_
 refine Qa [1,2,3] ?_
 refine Qm ?_
 refine Qa [1,2,3,4] ?_
 refine Qq h (λ_ h=>?_) (λ_ h=>?_)
 ·have⟨_,_,h⟩:=bs h
  refine Qa [9] ?_
  exact Qo h (·▸Ql hpl)
 refine Qa [1,3,4,5] ?_
 refine Qq h (λ_ h=>?_) (λ_ h=>?_)
 ·have⟨_,_,h⟩:=bs h
  refine Qa [12] ?_
  exact Qo h (·▸Ql hpl)
 refine Qa [1,3,4,5] ?_
 refine Qq h (λ_ h=>?_) (λ_ h=>?_)
 ·refine QB [v1 7 (λv0=>own (rAny 3 9) 20 [(AnyV.str f_.Xj),(AnyV.int (f_.Words.length:Int))] v0)] [8] [7,8,11,12] λm0=>?_
  refine Qi λK0 k1=>?_
  refine Qa [1,2,3,4,5,6,7] ?_
  have⟨e0,h1,h⟩:=bs h
  have J0:∀(p0:List AnyV) (y0:Value),p0=e0->To M w0 132 [(4,tv y0),(3,tv (.string (sB t0)))] [glo,own (rAny 3 9) 20 p0 y0] K0:=by
   intro p0 y0 he;subst he;refine k1 ?_;have⟨t1,h2,h⟩:=bs h;intro a w H;refine sr mx [] H (λ_=>.q 1 rfl<|.q 1 rfl<|.u [0,1] rfl rfl ((QfL [own (rAny 3 9) 20 p0 y0] QiJ (QeD.ok h2) (.cons (.of z1)<|.cons (.own z0 (.head _))<|.nil) (λ_=>Qd1) (λ_=>Qib (x:=undef))).glo)<|.o (Qp z0)<|.n) λ_ a w H=>?_;have H:=H.to [1,3,4] [_,_,_] [_,_] rfl rfl;refine Q8 H ?_;exact Qo h (·▸Ql hpl)
  refine Qm <|QaJ h1 (λ(s0:Int×List AnyV) (y1:Value)=>[(49,tsl rS f_.Words),(50,ti (f_.Words.length:Int)),(51,ti s0.1),(4,tv y1),(3,tv (.string (sB t0))),(1,tptr (Qd.cs f_))]) (λ(s0:Int×List AnyV) (y1:Value)=>[glo,own (rAny 3 9) 20 s0.2 y1]) (m0 7) [0,1,2,4,5,6] ?_;clear h;intro s0 y1 o K1 h ho k2;refine Qa [0,1,2,3,4,5,6] ?_;refine Qi λ_ k3=>Qq h (λ_ h=>?_) (λ_ h=>?_)
  ·refine Qt <|k3 <|Qi λ_ k4=>Qm ?_;have⟨t2,_,h⟩:=bs h;refine Qa [3,4,6,7,8,9,10,11] ?_;have⟨t3,_,_,_,h⟩:=bs2 h;refine Qah [v1 10 (λv0=>own (rAny 3 9) 20 (s0.2++[(AnyV.str t2),(AnyV.int t3)]) v0)] [11] [10,11,14,15,16,17,18] λm1=>?_;refine k4 <|QL [1,2,3,4,5,6,7] ?_;exact QX k2 (m1 10) ((sj h).symm) [3,4,0,2,5,6]
  refine QP <|QX J0 y1 (ho _ (sj h).symm) [4,5]
 refine Qa [1,3,4,5] ?_;refine Qq h (λ_ h=>?_) (λ_ h=>?_)
 ·have⟨_,_,h⟩:=bs h;refine Qa [9] ?_;exact Qo h (·▸Ql hpl)
 refine Qa [1,3,4,5] ?_;refine Qq h (λ_ h=>?_) (λ_ h=>?_)
 ·have⟨_,_,h⟩:=bs h;refine Qa [18] ?_;exact Qo h (·▸Ql hpl)
 refine Qa [1,4,5] ?_;refine Qq h (λ_ h=>?_) (λ_ h=>?_)
 ·have⟨_,_,h⟩:=bs h;refine Qa [12] ?_;exact Qo h (·▸Ql hpl)
 refine Qt <|k0 ?_;have⟨_,_,_,_,h⟩:=bs2 h;refine Qa [16] ?_;exact Qo h (·▸Ql hpl)
def QdB (x_:Qe):Option (Str):=(QaB ([115,99,104,101,109,97]:Str) [(AnyV.int x_.Version)]).bind λt0=>(Qas ([]:Str) t0).bind λt1=>(Qu (λ(s0:Int×Str)=>((if (decide (s0.1<(x_.Xa.length:Int)))=true then (idx x_.Xa s0.1).bind λt2=>(QaB ([107,105,110,100]:Str) [(AnyV.str t2.Xj),(AnyV.int t2.Lo),(AnyV.int t2.Hi)]).bind λt3=>(Qas s0.2 t3).bind λt4=>(Qu (λ(s1:Int×Str)=>((if (decide (s1.1<(t2.Xb.length:Int)))=true then (idx t2.Xb s1.1).bind λt5=>(Qeb t5).bind λt6=>(Qas s1.2 t6).bind λt7=>(some (.inl ((i64.wrap (s1.1+1)),t7))) else (some (.inr s1.2))):Option ((Int×Str)⊕((Str))))) ((0:Int),t4)).bind λp0=>(some (.inl ((i64.wrap (s0.1+1)),p0))) else (some (.inr s0.2))):Option ((Int×Str)⊕((Str))))) ((0:Int),t1)).bind λp1=>(Qu (λ(s2:Int×Str)=>((if (decide (s2.1<(x_.Xd.length:Int)))=true then (idx x_.Xd s2.1).bind λt8=>(Qu (λ(s3:Int×List AnyV)=>((if (decide (s3.1<(t8.Xe.length:Int)))=true then (idx t8.Xe s3.1).bind λt9=>(rm (s3.2.length+[(AnyV.str t9)].length)).bind λ_=>(some (.inl ((i64.wrap (s3.1+1)),(s3.2++[(AnyV.str t9)])))) else (some (.inr s3.2))):Option ((Int×List AnyV)⊕((List AnyV))))) ((0:Int),[(AnyV.str t8.Xj),(AnyV.int (t8.Xe.length:Int))])).bind λp2=>(QaB ([108,105,102,101]:Str) p2).bind λt10=>(Qas s2.2 t10).bind λt11=>(Qu (λ(s4:Int×Str)=>((if (decide (s4.1<(t8.Xg.length:Int)))=true then (idx t8.Xg s4.1).bind λt12=>(QaB ([109,111,118,101]:Str) [(AnyV.int t12.a0),(AnyV.int t12.a1)]).bind λt13=>(Qas s4.2 t13).bind λt14=>(some (.inl ((i64.wrap (s4.1+1)),t14))) else (some (.inr s4.2))):Option ((Int×Str)⊕((Str))))) ((0:Int),t11)).bind λp3=>(some (.inl ((i64.wrap (s2.1+1)),p3))) else (some (.inr s2.2))):Option ((Int×Str)⊕((Str))))) ((0:Int),p1)).bind λp4=>(Qu (λ(s5:Int×Str)=>((if (decide (s5.1<(x_.Xc.length:Int)))=true then (idx x_.Xc s5.1).bind λt15=>(QcH t15.A).bind λt16=>(QcH t15.B).bind λt17=>(QaB ([114,117,108,101]:Str) [(AnyV.str t15.Xj),(AnyV.str t15.Xi),(AnyV.str t16),(AnyV.str t17),(AnyV.int t15.N)]).bind λt18=>(Qas s5.2 t18).bind λt19=>(some (.inl ((i64.wrap (s5.1+1)),t19))) else (some (.inr s5.2))):Option ((Int×Str)⊕((Str))))) ((0:Int),p4)).bind λp5=>(QfT p5).bind λt20=>(some t20)
instance QwI:SpcS prog 126 (∀{x_:Qe} {r:Str},QdB x_=some r->FnOk prog 126 [Qc.ty x_] [glo] (λ_=>[]) (λ_=>tv (.string (sB r)))):=.mk λ{x_ r} h=>by
 unfold QdB at h
 refine Fe func126 ntmps126 λM0 M w0 hpl=>?_
 refine Qa [0] ?_
 intro a w H
 refine sr mx [v1 0 (λv0=>bld ([]:Str) v0 nilV)] H (λ_=>.m [] [1] rfl rfl rfl (Qpi bInfo)<|.n) λm0 a w H=>?_
 have H:=H.to [0,1] [_,_] [_,_] rfl rfl
 refine Q8 H ?_
 have⟨_,h0,t0,h1,h⟩:=bs2 h
 intro a w H
 refine sr mx [v1 5 (λv0=>bld t0 (m0 0) v0)] H (λ_=>.o (Q4 QoG z1)<|.o (Q2 (u:=x_.Version) tok3 z0 rfl)<|.o (Qkd ud3 z0)<|.o (Qak (R:=(rAny 3 9)) (us:=[(AnyV.int x_.Version)]) Qp6 Qn5 (.cons z0<|.nil _) rfl (leb rfl))<|.u [0] rfl rfl ((QJ QiJ (QeD.ok h0) (.cons (.of .k)<|.cons (.of z0)<|.nil)).glo)<|.e [] [1] [2] rfl rfl rfl rfl (QJ Qha (Qb0 h1) (.cons (.of z5)<|.cons (.of z0)<|.nil))<|.n) λm1 a w H=>?_
 have H:=H.to [6,7] [_,_] [_,_] rfl rfl
 refine Q8 H ?_
 refine Qi λK0 k0=>?_
 refine Qa [1,2,3,4,5] ?_
 have⟨e0,h2,h⟩:=bs h
 have J0:∀(p0:Str) (y0:Value),p0=e0->To M w0 132 [(3,tv (m0 0)),(1,tptr (Qc.cs x_))] [glo,bld p0 (m0 0) y0] K0:=by
  intro p0 y0 he;subst he;refine k0 <|Qi λK1 k1=>Qa [1,2,3,4,5] ?_;have⟨e1,h3,h⟩:=bs h;have J1:∀(p1:Str) (y1:Value),p1=e1->To M w0 132 [(3,tv (m0 0)),(1,tptr (Qc.cs x_))] [glo,bld p1 (m0 0) y1] K1:=by
   intro p1 y1 he;subst he;refine k1 <|Qi λK2 k2=>Qa [1,2,3,4] ?_;have⟨e2,h4,h⟩:=bs h;have J2:∀(p2:Str) (y2:Value),p2=e2->To M w0 132 [(3,tv (m0 0))] [glo,bld p2 (m0 0) y2] K2:=by
    intro p2 y2 he;subst he;refine k2 ?_;have⟨t1,h5,h⟩:=bs h;intro a w H;refine sr mx [] H (λ_=>.e [] [1] [] rfl rfl rfl rfl (QJ Qsf (Qoc h5) (.cons (.of z0)<|.nil))<|.o (Qp z0)<|.n) λ_ a w H=>?_;have H:=H.to [1] [_] [_] rfl rfl;refine Q8 H ?_;exact Qo h (·▸Ql hpl)
   refine Qm <|QaJ h4 (λ(s0:Int×Str) (y3:Value)=>[(104,tsl Qk x_.Xc),(105,ti (x_.Xc.length:Int)),(106,ti s0.1),(3,tv (m0 0))]) (λ(s0:Int×Str) (y3:Value)=>[glo,bld s0.2 (m0 0) y3]) y1 [0,1,2,3] ?_;clear h;intro s0 y3 o K3 h ho k3;refine Qa [0,1,2,3,4] ?_;refine Qi λ_ k4=>Qq h (λ_ h=>?_) (λ_ h=>?_)
   ·refine Qt <|k4 <|Qi λ_ k5=>Qm ?_;have⟨t2,_,h⟩:=bs h;refine QB [v1 2 (λv0=>box (Qk.cs zz3) v0),v1 2 (λv0=>box (Qk.cs t2) v0)] [3,4] [2,4,5,6,7] λm2=>?_;refine QN (λ_ _ H=>(((H.Xk [2,0,1] rfl).Xl 0 rfl).add 0 rfl (λ_ _ _ h=>h.2)).pick [0,3,4,5,6]) ?_;have⟨t3,h6,t4,h7,_,h8,t5,h9,h⟩:=bs4 h;intro a w H;refine wr mx [v1 19 (λv0=>bld t5 (m0 0) v0)] H (λ_=>.o (Q4 Qkh z0)<|.o (Q2 (u:=t2.Xj) tok9 z0 rfl)<|.o (Qk5 ud9 z0)<|.o (Q4 QqC z3)<|.o (Q2 (u:=t2.Xi) tok9 z0 rfl)<|.o (Qk5 ud9 z0)<|.o (Q4 Qnw z6)<|.o (Q2 (u:=t2.A) tok9 z0 rfl)<|.o (QJ QoN (Qkz.ok h6) (.cons (.of z0)<|.nil))<|.o (Qk5 ud9 z0)<|.o (Q4 Qnx z10)<|.o (Q2 (u:=t2.B) tok9 z0 rfl)<|.o (QJ QoN (Qkz.ok h7) (.cons (.of z0)<|.nil))<|.o (Qk5 ud9 z0)<|.o (Q4 Qny z14)<|.o (Q2 (u:=t2.N) tok3 z0 rfl)<|.o (Qkd ud3 z0)<|.o (Qak (R:=(rAny 3 9)) (us:=[(AnyV.str t2.Xj),(AnyV.str t2.Xi),(AnyV.str t3),(AnyV.str t4),(AnyV.int t2.N)]) Qp6 Qn5 (.cons z14<|.cons z11<|.cons z7<|.cons z3<|.cons z0<|.nil _) rfl (leb rfl))<|.u [0] rfl rfl ((QJ QiJ (QeD.ok h8) (.cons (.of .k)<|.cons (.of z0)<|.nil)).glo)<|.e [] [1] [2] rfl rfl rfl rfl (QJ Qha (Qb0 h9) (.cons (.of z23)<|.cons (.of z0)<|.nil))<|.n) λm3 a w H=>?_;have H:=H.to [21,22,23,24] [_,_,_,_] [_,_] rfl rfl;refine Qcz H ?_;refine k5 <|QL [1,2,3,4] ?_;exact QX k3 (m3 19) ((sj h).symm) [1,2,0,3]
   refine QP <|QX J2 y3 (ho _ (sj h).symm) [4]
  refine Qm <|QaJ h3 (λ(s1:Int×Str) (y4:Value)=>[(55,tsl Qn x_.Xd),(56,ti (x_.Xd.length:Int)),(57,ti s1.1),(3,tv (m0 0)),(1,tptr (Qc.cs x_))]) (λ(s1:Int×Str) (y4:Value)=>[glo,bld s1.2 (m0 0) y4]) y0 [0,1,2,3,4] ?_;clear h;intro s1 y4 o K4 h ho k6;refine Qa [0,1,2,3,4,5] ?_;refine Qi λ_ k7=>Qq h (λ_ h=>?_) (λ_ h=>?_)
  ·refine Qt <|k7 <|Qi λK5 k8=>Qm ?_;have⟨t6,_,h⟩:=bs h;refine QB [v1 2 (λv0=>box (Qn.cs zz2) v0),v1 2 (λv0=>box (Qn.cs t6) v0)] [3,4] [2,4,5,6,7,8] λm4=>?_;refine QN (λ_ _ H=>(((H.Xk [2,0,1] rfl).Xl 0 rfl).add 0 rfl (λ_ _ _ h=>h.2)).pick [0,3,4,5,6,7]) ?_;refine QB [v1 7 (λv0=>own (rAny 3 9) 20 [(AnyV.str t6.Xj),(AnyV.int (t6.Xe.length:Int))] v0)] [8] [7,8,9,10,11,12,13,14] λm5=>?_;refine Qi λK6 k9=>Qa [1,2,3,4,5,6,7,8,9,10,11] ?_;have⟨e3,h10,h⟩:=bs h;have J3:∀(p3:List AnyV) (y5:Value),p3=e3->To M w0 132 [(10,tv y5),(9,tptr (Qn.cs t6)),(55,tsl Qn x_.Xd),(56,ti (x_.Xd.length:Int)),(57,ti s1.1),(3,tv (m0 0)),(1,tptr (Qc.cs x_))] [glo,bld s1.2 (m0 0) y4,own (rAny 3 9) 20 p3 y5] K6:=by
    intro p3 y5 he;subst he;refine k9 ?_;have⟨_,h11,t7,h12,h⟩:=bs2 h;intro a w H;refine sr mx [v1 2 (λv0=>bld t7 (m0 0) v0)] H (λ_=>.q 0 rfl<|.u [0,2] rfl rfl ((QfL [own (rAny 3 9) 20 p3 y5] QiJ (QeD.ok h11) (.cons (.of .k)<|.cons (.own z0 (.head _))<|.nil) (λ_=>Qd1) (λ_=>Qib (x:=undef))).glo)<|.e [] [1] [3] rfl rfl rfl rfl (QJ Qha (Qb0 h12) (.cons (.of z7)<|.cons (.of z0)<|.nil))<|.n) λm6 a w H=>?_;have H:=H.to [0,3,4,5,6,7,8,9] [_,_,_,_,_,_,_,_] [_,_,_] rfl rfl;refine Q8 H ?_;refine Qa [1,2,3,4,5,7,8,9,10,11] ?_;have⟨e4,h13,h⟩:=bs h;have J4:∀(p4:Str) (y6:Value),p4=e4->To M w0 132 [(55,tsl Qn x_.Xd),(56,ti (x_.Xd.length:Int)),(57,ti s1.1),(3,tv (m0 0)),(1,tptr (Qc.cs x_))] [glo,bld p4 (m0 0) y6] K5:=by
     intro p4 y6 he;subst he;refine k8 <|QL [1,2,3,4,5] ?_;exact QX k6 y6 ((sj h).symm) [1,2,0,3,4]
    refine Qm <|QN (λ_ _ H=>(H.pick [0,1,2,5,6,7,8,9]).Xk [0,2] rfl) ?_;refine QaJ h13 (λ(s2:Int×Str) (y7:Value)=>[(86,tsl Qai t6.Xg),(87,ti (t6.Xg.length:Int)),(88,ti s2.1),(55,tsl Qn x_.Xd),(56,ti (x_.Xd.length:Int)),(57,ti s1.1),(3,tv (m0 0)),(1,tptr (Qc.cs x_))]) (λ(s2:Int×Str) (y7:Value)=>[glo,bld s2.2 (m0 0) y7]) (m6 2) [0,1,2,3,4,5,6,7] ?_;clear h;intro s2 y7 o K7 h ho k10;refine Qa [0,1,2,3,4,5,6,7,8] ?_;refine Qi λ_ k11=>Qq h (λ_ h=>?_) (λ_ h=>?_)
    ·refine Qt <|k11 <|Qi λ_ k12=>Qm ?_;have⟨t8,_,h⟩:=bs h;refine QB [v1 2 (λv0=>box (Qai.cs (QF.mk (0:Int) (0:Int))) v0),v1 2 (λv0=>box (Qai.cs t8) v0)] [3,4] [2,4,5,6,7,8,9,10,11] λm7=>?_;refine QN (λ_ _ H=>(((H.Xk [2,0,1] rfl).Xl 0 rfl).add 0 rfl (λ_ _ _ h=>h.2)).pick [0,3,4,5,6,7,8,9,10]) ?_;have⟨_,h14,t9,h15,h⟩:=bs2 h;intro a w H;refine wr mx [v1 8 (λv0=>bld t9 (m0 0) v0)] H (λ_=>.o (Qk4 0 rfl Qp4 tok3 z0 .k (by decide))<|.o (Q2 (u:=t8.a0) tok3 z0 rfl)<|.o (Qkd ud3 z0)<|.o (Qk4 1 rfl Qp4 tok3 z3 .k (by decide))<|.o (Q2 (u:=t8.a1) tok3 z0 rfl)<|.o (Qkd ud3 z0)<|.o (Qak (R:=(rAny 3 9)) (us:=[(AnyV.int t8.a0),(AnyV.int t8.a1)]) Qp6 Qn5 (.cons z3<|.cons z0<|.nil _) rfl (leb rfl))<|.u [0] rfl rfl ((QJ QiJ (QeD.ok h14) (.cons (.of .k)<|.cons (.of z0)<|.nil)).glo)<|.e [] [1] [2] rfl rfl rfl rfl (QJ Qha (Qb0 h15) (.cons (.of z15)<|.cons (.of z0)<|.nil))<|.n) λm8 a w H=>?_;have H:=H.to [10,11,12,13,14,15,16,17] [_,_,_,_,_,_,_,_] [_,_] rfl rfl;refine Qcz H ?_;refine k12 <|QL [1,2,3,4,5,6,7,8] ?_;exact QX k10 (m8 8) ((sj h).symm) [1,2,0,3,4,5,6,7]
    refine QP <|QX J4 y7 (ho _ (sj h).symm) [4,5,6,7,8]
   refine Qm <|QaJ h10 (λ(s3:Int×List AnyV) (y8:Value)=>[(70,tsl rS t6.Xe),(71,ti (t6.Xe.length:Int)),(72,ti s3.1),(10,tv y8),(9,tptr (Qn.cs t6)),(55,tsl Qn x_.Xd),(56,ti (x_.Xd.length:Int)),(57,ti s1.1),(3,tv (m0 0)),(1,tptr (Qc.cs x_))]) (λ(s3:Int×List AnyV) (y8:Value)=>[glo,bld s1.2 (m0 0) y4,own (rAny 3 9) 20 s3.2 y8]) (m5 7) [0,1,2,4,5,6,7,8,9,10] ?_;clear h;intro s3 y8 o K8 h ho k13;refine Qa [0,1,2,3,4,5,6,7,8,9,10] ?_;refine Qi λ_ k14=>Qq h (λ_ h=>?_) (λ_ h=>?_)
   ·refine Qt <|k14 <|Qi λ_ k15=>Qm ?_;have⟨t10,_,h⟩:=bs h;refine Qa [2,4,5,6,7,8,9,10,11,12,13] ?_;have⟨_,_,h⟩:=bs h;refine Qah [v1 4 (λv0=>own (rAny 3 9) 20 (s3.2++[(AnyV.str t10)]) v0)] [5] [4,5,7,8,9,10,11,12,13,14,15] λm9=>?_;refine k15 <|QL [1,2,3,4,5,6,7,8,9,10,11] ?_;exact QX k13 (m9 4) ((sj h).symm) [3,4,0,2,5,6,7,8,9,10]
   refine QP <|QX J3 y8 (ho _ (sj h).symm) [4,5,6,7,8,9,10]
  refine QP <|QX J1 y4 (ho _ (sj h).symm) [4,5]
 refine Qm <|QaJ h2 (λ(s4:Int×Str) (y9:Value)=>[(24,tsl Qg x_.Xa),(25,ti (x_.Xa.length:Int)),(26,ti s4.1),(3,tv (m0 0)),(1,tptr (Qc.cs x_))]) (λ(s4:Int×Str) (y9:Value)=>[glo,bld s4.2 (m0 0) y9]) (m1 5) [0,1,2,3,4] ?_;clear h;intro s4 y9 o K9 h ho k16;refine Qa [0,1,2,3,4,5] ?_;refine Qi λ_ k17=>Qq h (λ_ h=>?_) (λ_ h=>?_)
 ·refine Qt <|k17 <|Qi λK10 k18=>Qm ?_;have⟨t11,_,h⟩:=bs h;refine QB [v1 2 (λv0=>box (Qg.cs zz1) v0),v1 2 (λv0=>box (Qg.cs t11) v0)] [3,4] [2,4,5,6,7,8] λm10=>?_;refine QN (λ_ _ H=>(((H.Xk [2,0,1] rfl).Xl 0 rfl).add 0 rfl (λ_ _ _ h=>h.2)).pick [0,3,4,5,6,7]) ?_;have⟨_,h16,t12,h17,h⟩:=bs2 h;intro a w H;refine sr mx [v1 11 (λv0=>bld t12 (m0 0) v0)] H (λ_=>.o (Q4 Qfu z0)<|.o (Q2 (u:=t11.Xj) tok9 z0 rfl)<|.o (Qk5 ud9 z0)<|.o (Q4 Qm6 z3)<|.o (Q2 (u:=t11.Lo) tok3 z0 rfl)<|.o (Qkd ud3 z0)<|.o (Q4 Qm7 z6)<|.o (Q2 (u:=t11.Hi) tok3 z0 rfl)<|.o (Qkd ud3 z0)<|.o (Qak (R:=(rAny 3 9)) (us:=[(AnyV.str t11.Xj),(AnyV.int t11.Lo),(AnyV.int t11.Hi)]) Qp6 Qn5 (.cons z6<|.cons z3<|.cons z0<|.nil _) rfl (leb rfl))<|.u [0] rfl rfl ((QJ QiJ (QeD.ok h16) (.cons (.of .k)<|.cons (.of z0)<|.nil)).glo)<|.e [] [1] [2] rfl rfl rfl rfl (QJ Qha (Qb0 h17) (.cons (.of z15)<|.cons (.of z0)<|.nil))<|.n) λm11 a w H=>?_;have H:=H.to [12,13,14,15,16,17] [_,_,_,_,_,_] [_,_] rfl rfl;refine Q8 H ?_;refine Qa [1,2,3,5,6,7,8,9] ?_;have⟨e5,h18,h⟩:=bs h;have J5:∀(p5:Str) (y10:Value),p5=e5->To M w0 132 [(24,tsl Qg x_.Xa),(25,ti (x_.Xa.length:Int)),(26,ti s4.1),(3,tv (m0 0)),(1,tptr (Qc.cs x_))] [glo,bld p5 (m0 0) y10] K10:=by
   intro p5 y10 he;subst he;refine k18 <|QL [1,2,3,4,5] ?_;exact QX k16 y10 ((sj h).symm) [1,2,0,3,4]
  refine Qm <|QaJ h18 (λ(s5:Int×Str) (y11:Value)=>[(43,tsl Qd t11.Xb),(44,ti (t11.Xb.length:Int)),(45,ti s5.1),(24,tsl Qg x_.Xa),(25,ti (x_.Xa.length:Int)),(26,ti s4.1),(3,tv (m0 0)),(1,tptr (Qc.cs x_))]) (λ(s5:Int×Str) (y11:Value)=>[glo,bld s5.2 (m0 0) y11]) (m11 11) [0,1,2,3,4,5,6,7] ?_;clear h;intro s5 y11 o K11 h ho k19;refine Qa [0,1,2,3,4,5,6,7,8] ?_;refine Qi λ_ k20=>Qq h (λ_ h=>?_) (λ_ h=>?_)
  ·refine Qt <|k20 <|Qi λ_ k21=>Qm ?_;have⟨t13,_,h⟩:=bs h;refine QB [v1 2 (λv0=>box (Qd.cs zz0) v0),v1 2 (λv0=>box (Qd.cs t13) v0)] [3,4] [2,4,5,6,7,8,9,10,11] λm12=>?_;refine QN (λ_ _ H=>(((H.Xk [2,0,1] rfl).Xl 0 rfl).add 0 rfl (λ_ _ _ h=>h.2)).pick [0,3,4,5,6,7,8,9,10]) ?_;have⟨_,h19,t14,h20,h⟩:=bs2 h;intro a w H;refine wr mx [v1 2 (λv0=>bld t14 (m0 0) v0)] H (λ_=>.o (Q9 QaY z0)<|.u [0] rfl rfl ((QJ Qr3 (Qog.ok h19) (.cons (.of z0)<|.nil)).glo)<|.e [] [1] [2] rfl rfl rfl rfl (QJ Qha (Qb0 h20) (.cons (.of z9)<|.cons (.of z0)<|.nil))<|.n) λm13 a w H=>?_;have H:=H.to [4,5,6,7,8,9,10,11] [_,_,_,_,_,_,_,_] [_,_] rfl rfl;refine Qcz H ?_;refine k21 <|QL [1,2,3,4,5,6,7,8] ?_;exact QX k19 (m13 2) ((sj h).symm) [1,2,0,3,4,5,6,7]
  refine QP <|QX J5 y11 (ho _ (sj h).symm) [4,5,6,7,8]
 refine QP <|QX J0 y9 (ho _ (sj h).symm) [4,5]
def Qec (x_:Qe):Option (Int):=(QaZ x_.Version 0 1048576).bind λt0=>(opt (((((!t0)||(decide ((x_.Xa.length:Int)>6)))||(decide ((x_.Xd.length:Int)>6)))||(decide ((x_.Xc.length:Int)>16)))==false) (QcM x_.Xa (λx0=>Qdy x0)) default).bind λt1=>(opt ((((((!t0)||(decide ((x_.Xa.length:Int)>6)))||(decide ((x_.Xd.length:Int)>6)))||(decide ((x_.Xc.length:Int)>16)))||(!t1))==false) (QcO x_.Xd (λx0=>Qdz x0)) default).bind λt2=>(opt (((((((!t0)||(decide ((x_.Xa.length:Int)>6)))||(decide ((x_.Xd.length:Int)>6)))||(decide ((x_.Xc.length:Int)>16)))||(!t1))||(!t2))==false) (QcQ x_.Xc (λx0=>QdA x0)) default).bind λt3=>(if (((((((!t0)||(decide ((x_.Xa.length:Int)>6)))||(decide ((x_.Xd.length:Int)>6)))||(decide ((x_.Xc.length:Int)>16)))||(!t1))||(!t2))||(!t3))=true then (some (1:Int)) else (QdB x_).bind λt4=>(if (decide ((t4.length:Int)>8192))=true then (some (4:Int)) else (some (0:Int))))
instance Qxi:SpcS prog 77 (∀{x_:Qe} {r:Int},Qec x_=some r->FnOk prog 77 [Qc.ty x_] [glo] (λ_=>[]) (λ_=>ti r)):=.mk λ{x_ r} h=>by
 unfold Qec at h
 refine Fe func77 ntmps77 λM0 M w0 hpl=>?_
 refine Qa [0] ?_
 refine Qi λ_ k0=>?_
 refine Qm ?_
 have⟨_,_,_,_,_,_,_,_,h⟩:=bs4 h
 refine Qa [40,41] ?_
 refine Qq h (λ_ h=>?_) (λ_ h=>?_)
 ·refine Qa [0] ?_
  exact Qo h (·▸Ql hpl)
 have⟨_,_,h⟩:=bs h
 refine Qa [4] ?_
 refine Qq h (λ_ h=>?_) (λ_ h=>?_)
 ·refine Qa [0] ?_
  exact Qo h (·▸Ql hpl)
 refine Qt ?_
 refine k0 ?_
 refine Qa [0] ?_
 exact Qo h (·▸Ql hpl)
def QbK (kind_:Int) (field_:Int) (rule_:Int) (e_:Int) (c0_:(List Qr)):Option ((List Qr)):=((if (e_ !=0)=true then (rm (c0_.length+[(Qr.mk kind_ field_ rule_ e_)].length)).bind λ_=>(some (c0_++[(Qr.mk kind_ field_ rule_ e_)])) else (some c0_))).bind λp0=>(some p0)
instance Qfn:SpcS prog 78 (∀{q4:Value} {vh4:Value} {kind_:Int} {field_:Int} {rule_:Int} {e_:Int} {c0_:(List Qr)} {r:(List Qr)},QbK kind_ field_ rule_ e_ c0_=some r->FnOk prog 78 [ti kind_,ti field_,ti rule_,ti e_,tv q4] [box (rVal.cs vh4) q4,own Q7 149 c0_ vh4] (λv=>[box (rVal.cs v) q4,own Q7 149 r v]) (λ_=>ttup [])):=.mk λ{q4 vh4 kind_ field_ rule_ e_ c0_ r} h=>by
 unfold QbK at h
 refine Fe func78 ntmps78 λM0 M w0 hpl=>?_
 refine Qa [1,2,3,4,5,6] ?_
 have⟨p0,h0,h⟩:=bs h
 have J0:∀(y0:Value),To M w0 19 [(4,tv q4)] [own Q7 149 p0 y0,box (rVal.cs y0) q4] (Ret prog f78 M0 [box (rVal.cs vh4) q4,own Q7 149 c0_ vh4] w0 (λv=>[box (rVal.cs v) q4,own Q7 149 r v]) (λ_=>ttup []) .normal):=by
  intro y0;obtain rfl:=sj h;exact Qs2 y0 [1,0] hpl
 replace h:=h0;clear h0;refine Qq h (λ_ h=>?_) (λ_ h=>?_)
 ·have⟨_,_,h⟩:=bs h;refine Qah [v1 7 (λv0=>own Q7 149 (c0_++[(Qr.mk kind_ field_ rule_ e_)]) v0),v1 7 (λv0=>box (rVal.cs v0) q4)] [8,9] [7,13] λm0=>?_;obtain rfl:=sj h;exact QI (J0 (m0 7)) [1]
 refine Qt ?_;obtain rfl:=sj h;refine Qae (λ_ _ H=>(H.pick [5]).Xk [1,0] rfl) ?_;exact QI (J0 vh4) [0]
def Qd2 (m_:Qs) (c0_:Qs):Option (Bool):=(some (m_.Xj==c0_.Xj))
instance QvE:Spc2 prog 80 Qd2 (λm_ c0_=>[Qn.ty m_,tptr (Qn.cs c0_)]) tb:=.mk λ{m_ c0_ r} h=>by
 unfold Qd2 at h
 refine Fe func80 ntmps80 λM0 M w0 hpl=>?_
 refine Qa [0,3] ?_
 refine Qa [5] ?_
 exact Qo h (·▸Ql hpl)
def Qat (l_:(List QK)):Option (Int):=(Qu (λ(s0:Int)=>((if (decide (s0<(l_.length:Int)))=true then (idx l_ s0).bind λt0=>(if t0.is=true then (some (.inr (.inr t0.code))) else (some (.inl (i64.wrap (s0+1))))) else (some (.inr (.inl ())))):Option ((Int)⊕((Unit)⊕(Int))))) (0:Int)).bind λe0=>(match e0 with | .inl _=>(some (0:Int)) | .inr p0=>(some p0))
instance Qoh:Spc1 prog 81 Qat (λl_=>[tsl Qbq l_]) ti:=.mk λ{l_ r} h=>by
 unfold Qat at h
 refine Fe func81 ntmps81 λM0 M w0 hpl=>?_
 refine Qa [1] ?_
 refine Qi λK0 k0=>?_
 refine Qa [0,1,2] ?_
 have⟨e0,h0,h⟩:=bs h
 have J0:∀(p0:Unit),(.inl p0)=e0->To M w0 16 [] [] K0:=by
  intro p0 he;subst he;simp only at h;refine k0 <|Qa [0] ?_;exact Qo h (·▸Ql hpl)
 have J1:∀(p1:Int),(.inr p1)=e0->To M w0 16 [(2,ti p1)] [] (Ret prog f81 M0 [] w0 (λ_=>[]) (λ_=>ti r) .ret):=by
  intro p1 he;subst he;simp only at h;obtain rfl:=sj h;exact Ql hpl
 refine Qm <|Qan h0 (λ(s0:Int)=>[(5,tsl Qbq l_),(6,ti (l_.length:Int)),(7,ti s0)]) (λ(s0:Int)=>[]) [0,1,2] ?_;clear h;intro s0 o K1 h ho k1;refine Qa [0,1,2,3] ?_;refine Qi λ_ k2=>Qq h (λ_ h=>?_) (λ_ h=>?_)
 ·refine Qt <|k2 <|Qi λ_ k3=>Qm ?_;have⟨t0,_,h⟩:=bs h;refine QB [v1 2 (λv0=>box (Qbq.cs (QK.mk false (0:Int))) v0),v1 2 (λv0=>box (Qbq.cs t0) v0)] [3,4] [2,4,5,6] λm0=>?_;refine QN (λ_ _ H=>((H.Xl 0 rfl).add 0 rfl (λ_ _ _ h=>h.2)).pick [0,3,4,5]) ?_;refine Qa [1,2,3,4,5] ?_;refine Qq h (λ_ h=>?_) (λ_ h=>?_)
  ·refine Qa [2] ?_;refine Qap ?_;exact Qz J1 (ho _ (sj h).symm) [0]
  refine Qt <|k3 <|QL [1,4,5] ?_;exact Qz k1 ((sj h).symm) [1,2,0]
 refine QP <|Qz J0 (ho _ (sj h).symm) []
def QeF (k_:Qf) (c0_:Str):Option (Bool):=(some (k_.Xj==c0_))
instance QwJ:Spc2 prog 157 QeF (λk_ c0_=>[Qg.ty k_,tptr (rS.cs c0_)]) tb:=.mk λ{k_ c0_ r} h=>by
 unfold QeF at h
 refine Fe func157 ntmps157 λM0 M w0 hpl=>?_
 refine Qa [0,3] ?_
 refine Qa [4] ?_
 exact Qo h (·▸Ql hpl)
def QbH (x_:Qe) (name_:Str):Option (Int):=(Qba x_.Xa (λx0=>QeF x0 name_)).bind λt0=>(some t0)
instance Qle:Spc2 prog 111 QbH (λx_ name_=>[Qc.ty x_,tv (.string (sB name_))]) ti:=.mk λ{x_ name_ r} h=>by
 unfold QbH at h
 refine Fe func111 ntmps111 λM0 M w0 hpl=>?_
 refine Qa [0,1] ?_
 have⟨_,_,h⟩:=bs h
 refine Qa [4] ?_
 exact Qo h (·▸Ql hpl)

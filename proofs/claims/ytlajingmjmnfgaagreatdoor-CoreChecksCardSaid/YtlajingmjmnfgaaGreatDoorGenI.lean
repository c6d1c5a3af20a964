/- The walk. No condition. -/
import Derived.Test.YtlajingmjmnfgaaGreatDoorGenH
set_option linter.all false
open Go.Proofs.Tryz Go.IntKind
namespace Go.Proofs.YtlajingmjmnfgaaGreatDoor
noncomputable section
open Go.Sim
set_option maxRecDepth 100000
set_option maxHeartbeats 4000000
def QfR (x_:Qb):Option (Int):=(Qeu x_).bind λt0=>(if (decide ((t0.length:Int)>0))=true then (idx t0 0).bind λt1=>(some t1.Code) else (some (0:Int)))
instance QzF:SpcS prog 109 (∀{x_:Qb} {r:Int},QfR x_=some r->FnOk prog 109 [Qd.ty x_] [glo] (λ_=>[]) (λ_=>ti r)):=.mk λ{x_ r} h=>by
 unfold QfR at h
 refine Fe func109 ntmps109 λM0 M w0 hpl=>?_
 refine Qa [0] ?_
 refine Qf λ_ k0=>?_
 have⟨_,_,h⟩:=bs h
 refine Qa [2] ?_
 refine Qa [2,3] ?_
 refine Qn h (λ_ h=>?_) (λ_ h=>?_)
 ·have⟨_,_,h⟩:=bs h
  refine Qa [4] ?_
  exact Qo h (·▸Qm hpl)
 refine Qq ?_
 refine k0 ?_
 refine Qa [0] ?_
 exact Qo h (·▸Qm hpl)
def Qc5 (name_:Str) (a_:Int) (b_:Int) (lo_:Int) (hi_:Int) (c0_:(List Qi)) (c1_:(List Str)):Option ((List Qi)×(List Str)):=(rm (c0_.length+[(Qi.mk a_ b_ lo_ true),(Qi.mk a_ b_ hi_ false)].length)).bind λ_=>(cat (name_.length+([32,108,101,97,115,116]:Str).length)).bind λ_=>(cat (name_.length+([32,109,111,115,116]:Str).length)).bind λ_=>(rm (c1_.length+[(name_++([32,108,101,97,115,116]:Str)),(name_++([32,109,111,115,116]:Str))].length)).bind λ_=>(some ((c0_++[(Qi.mk a_ b_ lo_ true),(Qi.mk a_ b_ hi_ false)]),(c1_++[(name_++([32,108,101,97,115,116]:Str)),(name_++([32,109,111,115,116]:Str))])))
instance Qio:SpcS prog 110 (∀{q5:Value} {vh5:Value} {q6:Value} {vh6:Value} {name_:Str} {a_:Int} {b_:Int} {lo_:Int} {hi_:Int} {c0_:(List Qi)} {c1_:(List Str)} {r:(List Qi)×(List Str)},Qc5 name_ a_ b_ lo_ hi_ c0_ c1_=some r->FnOk prog 110 [tv (.string (sB name_)),ti a_,ti b_,ti lo_,ti hi_,tv q5,tv q6] [box (rVal.cs vh5) q5,own QP 146 c0_ vh5,box (rVal.cs vh6) q6,own rS 9 c1_ vh6] (λv=>[box (rVal.cs (gh v 0)) q5,own QP 146 r.1 (gh v 0),box (rVal.cs (gh v 1)) q6,own rS 9 r.2 (gh v 1)]) (λ_=>ttup [])):=.mk λ{q5 vh5 q6 vh6 name_ a_ b_ lo_ hi_ c0_ c1_ r} h=>by
 unfold Qc5 at h
 refine Fe func110 ntmps110 λM0 M w0 hpl=>?_
 have⟨_,_,h⟩:=bs h
 refine QM [v1 10 (λv0=>own QP 146 (c0_++[(Qi.mk a_ b_ lo_ true),(Qi.mk a_ b_ hi_ false)]) v0),v1 10 (λv0=>box (rVal.cs v0) q5)] [11,12] [10,11,16,17] λm0=>?_
 have⟨_,_,_,_,_,_,h⟩:=bs3 h
 refine Qau [v1 6 (λv0=>own rS 9 (c1_++[(name_++([32,108,101,97,115,116]:Str)),(name_++([32,109,111,115,116]:Str))]) v0),v1 6 (λv0=>box (rVal.cs v0) q6)] [7,8] [6,7,9,10] λm1=>?_
 obtain rfl:=sj h
 exact Qt9 (.tuple #[(m0 10),(m1 6)]) [1,0,3,2] hpl
def Qd3 (x_:Qb):Option ((List Qi)×(List Str)×Int):=(QfR x_).bind λt0=>(if (t0 !=0)=true then (some (([]:List Qi),([]:List Str),t0)) else (Ql (λ(s0:Int×List Str×List Qi)=>((if (decide (s0.1<(x_.Xa.length:Int)))=true then (idx x_.Xa s0.1).bind λt1=>(Qc5 t1.Xj s0.1 (-1) t1.Lo t1.Hi s0.2.2 s0.2.1).bind λt2=>(Ql (λ(s1:Int×List Qi×List Str)=>((if (decide (s1.1<(t1.Xb.length:Int)))=true then (idx t1.Xb s1.1).bind λt3=>((if (t3.Xi==1)=true then (cat (t1.Xj.length+([46]:Str).length)).bind λ_=>(cat ((t1.Xj++([46]:Str)).length+t3.Xj.length)).bind λ_=>(Qb2 x_ t3.Of).bind λt4=>(Qc5 ((t1.Xj++([46]:Str))++t3.Xj) s0.1 t4 t3.Lo t3.Hi s1.2.1 s1.2.2).bind λt5=>(some (t5.1,t5.2)) else (some (s1.2.1,s1.2.2)))).bind λp0=>(some (.inl ((i64.wrap (s1.1+1)),p0.1,p0.2))) else (some (.inr (s1.2.1,s1.2.2)))):Option ((Int×List Qi×List Str)⊕((List Qi×List Str))))) ((0:Int),t2.1,t2.2)).bind λp1=>(some (.inl ((i64.wrap (s0.1+1)),p1.2,p1.1))) else (some (.inr (s0.2.1,s0.2.2)))):Option ((Int×List Str×List Qi)⊕((List Str×List Qi))))) ((0:Int),([]:List Str),([]:List Qi))).bind λp2=>(some (p2.2,p2.1,(0:Int))))
instance Qjp:SpcS prog 54 (∀{x_:Qb} {r:(List Qi)×(List Str)×Int},Qd3 x_=some r->FnOk prog 54 [Qd.ty x_] [glo] (λv=>[own rS 9 r.2.1 v]) (λv=>ttup [tsl QP r.1,tv v,ti r.2.2])):=.mk λ{x_ r} h=>by
 unfold Qd3 at h
 refine Fe func54 ntmps54 λM0 M w0 hpl=>?_
 refine Qa [0] ?_
 refine Qf λ_ k0=>?_
 have⟨_,_,h⟩:=bs h
 refine Qa [2,3] ?_
 refine Qa [1,2,3] ?_
 refine Qn h (λ_ h=>?_) (λ_ h=>?_)
 ·refine Qa [1,2,3] ?_
  refine Q1 (λ_ _ H=>H.nil (rS) 9) ?_
  exact Qo h (·▸Qcv (.slice none 0 0) [0] hpl)
 refine Qq ?_
 refine k0 ?_
 intro a w H
 refine sr mx [v1 0 (λv0=>box (rVal.cs nilV) v0)] H (λ_=>.m [] [1] rfl rfl rfl (Qfm QvK)<|.n) λm0 a w H=>?_
 replace H:St _ _ _ [_,_] [_,_,_] _ _:=(H.pick [0,3]).nil (QP) 146
 refine Q6 H ?_
 intro a w H
 refine sr mx [v1 0 (λv0=>box (rVal.cs nilV) v0)] H (λ_=>.m [] [3] rfl rfl rfl (Qfm QvH)<|.n) λm1 a w H=>?_
 replace H:St _ _ _ [_,_,_] [_,_,_,_,_] _ _:=(H.pick [0,1,2]).nil (rS) 9
 refine Q6 H ?_
 refine Qa [1,2,3,4] ?_
 refine Qf λK0 k1=>?_
 refine Qa [1,2,3,4,5,6,7] ?_
 have⟨e0,h0,h⟩:=bs h
 have J0:∀(p0:List Str×List Qi) (y0:Value) (y1:Value),p0=e0->To M w0 67 [(7,tv (m1 0)),(6,tv (m0 0))] [own rS 9 p0.1 y0,own QP 146 p0.2 y1,glo,box (rVal.cs y1) (m0 0),box (rVal.cs y0) (m1 0)] K0:=by
  intro p0 y0 y1 he;subst he;refine k1 <|Qa [0,1,2,3,4] ?_;refine Q1 (λ_ _ H=>H.Xk [0,1,2] rfl) ?_;refine Qal ?_;refine Qah (by intro _ _ H;exact ((H.Xk [1,0,2] rfl).Xn 2 rfl).pick [0,2,4,5]) ?_;obtain rfl:=sj h;exact Qcv y0 [0] hpl
 refine Qj <|Qjo h0 (λ(s0:Int×List Str×List Qi) (y2:Value) (y3:Value)=>[(20,tsl Qk x_.Xa),(21,ti (x_.Xa.length:Int)),(22,ti s0.1),(8,QaU 110 [tv (m0 0),tv (m1 0)]),(7,tv (m1 0)),(6,tv (m0 0)),(1,tptr (Qd.cs x_))]) (λ(s0:Int×List Str×List Qi) (y2:Value) (y3:Value)=>[own rS 9 s0.2.1 y2,own QP 146 s0.2.2 y3,glo,box (rVal.cs y3) (m0 0),box (rVal.cs y2) (m1 0)]) nilV nilV [0,1,2,3,4,5,6] ?_;clear h;intro s0 y2 y3 o K1 h ho k2;refine Qa [0,1,2,3,4,5,6,7] ?_;refine Qf λ_ k3=>Qn h (λ_ h=>?_) (λ_ h=>?_)
 ·refine Qq <|k3 <|Qf λK2 k4=>Qj ?_;have⟨t0,_,h⟩:=bs h;refine QM [v1 3 (λv0=>box (Qk.cs zz1) v0),v1 3 (λv0=>box (Qk.cs t0) v0)] [4,6] [3,4,6,7,8,9,10,11,12] λm2=>?_;refine Q1 (λ_ _ H=>(((H.Xk [5,0,1,2,3,4] rfl).Xl 0 rfl).add 0 rfl (λ_ _ _ h=>h.2)).pick [0,3,4,5,6,7,8,9,10]) ?_;have⟨t1,h1,h⟩:=bs h;intro a w H;refine sr mx [v1 8 (λv0=>box (rVal.cs (gh v0 0)) (m0 0)),v1 8 (λv0=>own QP 146 t1.1 (gh v0 0)),v1 8 (λv0=>box (rVal.cs (gh v0 1)) (m1 0)),v1 8 (λv0=>own rS 9 t1.2 (gh v0 1))] H (λ_=>.q 5 rfl<|.o (Q7 QhT z1)<|.o (Q5 (u:=t0.Xj) tok9 z0 rfl)<|.q 4 rfl<|.o (Q7 QoH z4)<|.o (Q5 (u:=t0.Lo) tok3 z0 rfl)<|.o (Q7 QoI z6)<|.o (Q5 (u:=t0.Hi) tok3 z0 rfl)<|.e [] [3,1,4,0] [5,6,7,8] rfl rfl rfl rfl (Qgd QoL (Qio.ok h1) z7 (.cons (.of z5)<|.cons (.of z4)<|.cons (.of .k)<|.cons (.of z2)<|.cons (.of z0)<|.nil))<|.n) λm3 a w H=>?_;have H:=H.to [9,10,11,12,13,14,15,16,17] [_,_,_,_,_,_,_,_,_] [_,_,_,_,_] rfl rfl;refine Q6 H ?_;refine Qa [1,2,3,4,5,6,7,8,9,10,11,12] ?_;have⟨e1,h2,h⟩:=bs h;have J1:∀(p1:List Qi×List Str) (y4:Value) (y5:Value),p1=e1->To M w0 67 [(20,tsl Qk x_.Xa),(21,ti (x_.Xa.length:Int)),(22,ti s0.1),(8,QaU 110 [tv (m0 0),tv (m1 0)]),(7,tv (m1 0)),(6,tv (m0 0)),(1,tptr (Qd.cs x_))] [glo,box (rVal.cs y4) (m0 0),own QP 146 p1.1 y4,box (rVal.cs y5) (m1 0),own rS 9 p1.2 y5] K2:=by
   intro p1 y4 y5 he;subst he;refine k4 <|QJ [1,2,3,4,5,6,7] ?_;refine Qah (λ_ _ H=>(H.pick [1,2,0,3,4,5,6]).Xk [4,2,0,1,3] rfl) ?_;exact QeD k2 y5 y4 ((sj h).symm) [0,1,2,3,4,5,6]
  refine Qj <|Qjo h2 (λ(s1:Int×List Qi×List Str) (y6:Value) (y7:Value)=>[(37,tsl Qe t0.Xb),(38,ti (t0.Xb.length:Int)),(39,ti s1.1),(10,tptr (Qk.cs t0)),(9,ti s0.1),(20,tsl Qk x_.Xa),(21,ti (x_.Xa.length:Int)),(22,ti s0.1),(8,QaU 110 [tv (m0 0),tv (m1 0)]),(7,tv (m1 0)),(6,tv (m0 0)),(1,tptr (Qd.cs x_))]) (λ(s1:Int×List Qi×List Str) (y6:Value) (y7:Value)=>[glo,box (rVal.cs y6) (m0 0),own QP 146 s1.2.1 y6,box (rVal.cs y7) (m1 0),own rS 9 s1.2.2 y7]) (gh (m3 8) 0) (gh (m3 8) 1) [0,1,2,3,4,5,6,7,8,9,10,11] ?_;clear h;intro s1 y6 y7 o K3 h ho k5;refine Qa [0,1,2,3,4,5,6,7,8,9,10,11,12] ?_;refine Qf λ_ k6=>Qn h (λ_ h=>?_) (λ_ h=>?_)
  ·refine Qq <|k6 <|Qf λK4 k7=>Qj ?_;have⟨t2,_,h⟩:=bs h;refine QM [v1 2 (λv0=>box (Qe.cs zz0) v0),v1 2 (λv0=>box (Qe.cs t2) v0)] [3,4] [2,4,5,6,7,8,9,10,11,12,13,14,15] λm4=>?_;refine Q1 (λ_ _ H=>(((H.Xk [5,0,1,2,3,4] rfl).Xl 0 rfl).add 0 rfl (λ_ _ _ h=>h.2)).pick [0,3,4,5,6,7,8,9,10,11,12,13,14]) ?_;refine Qa [2,3,4,5,6,7,8,9,10,11,12,13,14,15] ?_;have⟨p2,h3,h⟩:=bs h;have J2:∀(y8:Value) (y9:Value),To M w0 67 [(37,tsl Qe t0.Xb),(38,ti (t0.Xb.length:Int)),(39,ti s1.1),(10,tptr (Qk.cs t0)),(9,ti s0.1),(20,tsl Qk x_.Xa),(21,ti (x_.Xa.length:Int)),(22,ti s0.1),(8,QaU 110 [tv (m0 0),tv (m1 0)]),(7,tv (m1 0)),(6,tv (m0 0)),(1,tptr (Qd.cs x_))] [glo,box (rVal.cs y8) (m0 0),own QP 146 p2.1 y8,box (rVal.cs y9) (m1 0),own rS 9 p2.2 y9] K4:=by
    intro y8 y9;refine k7 <|QJ [1,2,3,4,5,6,7,8,9,10,11,12] ?_;exact QeD k5 y8 y9 ((sj h).symm) [1,2,0,3,4,5,6,7,8,9,10,11]
   replace h:=h3;clear h3;refine Qn h (λ_ h=>?_) (λ_ h=>?_)
   ·have⟨_,h4,_,h5,_,h6,t3,h7,h⟩:=bs4 h;intro a w H;refine wr mx [v1 16 (λv0=>box (rVal.cs (gh v0 0)) (m0 0)),v1 16 (λv0=>own QP 146 t3.1 (gh v0 0)),v1 16 (λv0=>box (rVal.cs (gh v0 1)) (m1 0)),v1 16 (λv0=>own rS 9 t3.2 (gh v0 1))] H (λ_=>.q 10 rfl<|.o (Q7 QhT z6)<|.o (Q5 (u:=t0.Xj) tok9 z0 rfl)<|.o (Qes z0 .k h4)<|.o (Q7 Qmr z5)<|.o (Q5 (u:=t2.Xj) tok9 z0 rfl)<|.o (Qes z2 z0 h5)<|.q 13 rfl<|.o (Qae Qcm z21)<|.o (Q7 QoJ z10)<|.o (Q5 (u:=t2.Of) tok9 z0 rfl)<|.o (QL QoM (Qkg.ok h6) (.cons (.of z2)<|.cons (.of z0)<|.nil))<|.o (Q7 Qms z13)<|.o (Q5 (u:=t2.Lo) tok3 z0 rfl)<|.o (Q7 Qmt z15)<|.o (Q5 (u:=t2.Hi) tok3 z0 rfl)<|.e [] [1,2,3,4] [5,6,7,8] rfl rfl rfl rfl (Qgd QoL (Qio.ok h7) z15 (.cons (.of z9)<|.cons (.of z8)<|.cons (.of z4)<|.cons (.of z2)<|.cons (.of z0)<|.nil))<|.n) λm5 a w H=>?_;have H:=H.to [19,20,21,22,23,24,25,26,27,28,29,30] [_,_,_,_,_,_,_,_,_,_,_,_] [_,_,_,_,_] rfl rfl;refine QbC H ?_;obtain rfl:=sj h;exact QR (J2 (gh (m5 16) 0) (gh (m5 16) 1)) [0,1,2,3,4,5,6,7,8,9,10,11]
   refine Qq ?_;obtain rfl:=sj h;exact QR (J2 y6 y7) [2,3,4,5,6,7,8,9,10,11,12,13]
  refine QN <|QeD J1 y6 y7 (ho _ (sj h).symm) [6,7,8,9,10,11,12]
 refine QN <|QeD J0 y2 y3 (ho _ (sj h).symm) [5,6]
def Qd0 (k_:Qg) (name_:Str):Option (Int):=(QbB k_ name_).bind λt0=>(some t0)
instance Qlg:Spc2 prog 112 Qd0 (λk_ name_=>[Qk.ty k_,tv (.string (sB name_))]) ti:=.mk λ{k_ name_ r} h=>by
 unfold Qd0 at h
 refine Fe func112 ntmps112 λM0 M w0 hpl=>?_
 refine Qa [0,3] ?_
 have⟨_,_,h⟩:=bs h
 refine Qa [3] ?_
 exact Qo h (·▸Qm hpl)
def QfZ (x_:Qb):Option ((List QU)):=(Ql (λ(s0:Int×List QU)=>((if (decide (s0.1<(x_.Xa.length:Int)))=true then (idx x_.Xa s0.1).bind λt0=>(Ql (λ(s1:Int×List QU)=>((if (decide (s1.1<(t0.Xb.length:Int)))=true then ((idx t0.Xb s1.1).bind λt1=>(if ((t1.Xi !=2)&&(t1.Xi !=4))=true then (some s1.2) else ((if ((t1.Xi==4)&&(t1.Of !=([]:Str)))=true then (Qd0 t0 t1.Of).bind λt2=>(some t2) else (some (-1:Int)))).bind λp0=>(cat (t0.Xj.length+([46]:Str).length)).bind λ_=>(cat ((t0.Xj++([46]:Str)).length+t1.Xj.length)).bind λ_=>(cat (((t0.Xj++([46]:Str))++t1.Xj).length+([32,108,111,119]:Str).length)).bind λ_=>(cat (((t0.Xj++([46]:Str))++t1.Xj).length+([32,104,105,103,104]:Str).length)).bind λ_=>(rm (s1.2.length+[(QU.mk s0.1 (((t0.Xj++([46]:Str))++t1.Xj)++([32,108,111,119]:Str)) (QE.mk p0 s1.1 (i64.wrap (0 - t1.Lo)))),(QU.mk s0.1 (((t0.Xj++([46]:Str))++t1.Xj)++([32,104,105,103,104]:Str)) (QE.mk s1.1 p0 t1.Hi))].length)).bind λ_=>(some (s1.2++[(QU.mk s0.1 (((t0.Xj++([46]:Str))++t1.Xj)++([32,108,111,119]:Str)) (QE.mk p0 s1.1 (i64.wrap (0 - t1.Lo)))),(QU.mk s0.1 (((t0.Xj++([46]:Str))++t1.Xj)++([32,104,105,103,104]:Str)) (QE.mk s1.1 p0 t1.Hi))])))).bind λp1=>(some (.inl ((i64.wrap (s1.1+1)),p1))) else (some (.inr s1.2))):Option ((Int×List QU)⊕((List QU))))) ((0:Int),s0.2)).bind λp2=>(some (.inl ((i64.wrap (s0.1+1)),p2))) else (some (.inr s0.2))):Option ((Int×List QU)⊕((List QU))))) ((0:Int),([]:List QU))).bind λp3=>(Ql (λ(s2:Int×List QU)=>((if (decide (s2.1<(x_.Xc.length:Int)))=true then (idx x_.Xc s2.1).bind λt3=>(Qb2 x_ t3.Xi).bind λt4=>(idx x_.Xa t4).bind λt5=>(cat (([114,117,108,101,58]:Str).length+t3.Xj.length)).bind λ_=>(Qd0 t5 t3.A).bind λt6=>(Qd0 t5 t3.B).bind λt7=>(rm (s2.2.length+[(QU.mk t4 (([114,117,108,101,58]:Str)++t3.Xj) (QE.mk t6 t7 t3.N))].length)).bind λ_=>(some (.inl ((i64.wrap (s2.1+1)),(s2.2++[(QU.mk t4 (([114,117,108,101,58]:Str)++t3.Xj) (QE.mk t6 t7 t3.N))])))) else (some (.inr s2.2))):Option ((Int×List QU)⊕((List QU))))) ((0:Int),p3)).bind λp4=>(some p4)
instance Qp9:Spc1 prog 55 QfZ (λx_=>[Qd.ty x_]) (tsl QV):=.mk λ{x_ r} h=>by
 unfold QfZ at h
 refine Fe func55 ntmps55 λM0 M w0 hpl=>?_
 refine Qa [0] ?_
 refine Qa [0,1] ?_
 refine Q1 (λ_ _ H=>H.nil (QV) 119) ?_
 refine Qf λK0 k0=>?_
 refine Qa [1,2,3,4,5] ?_
 have⟨e0,h0,h⟩:=bs h
 have J0:∀(p0:List QU) (y0:Value),p0=e0->To M w0 117 [(3,tv y0),(1,tptr (Qd.cs x_))] [own QV 119 p0 y0] K0:=by
  intro p0 y0 he;subst he;refine k0 <|Qf λK1 k1=>Qa [1,2,3,4,5] ?_;have⟨e1,h1,h⟩:=bs h;have J1:∀(p1:List QU) (y1:Value),p1=e1->To M w0 117 [(3,tv y1)] [own QV 119 p1 y1] K1:=by
   intro p1 y1 he;subst he;refine k1 <|Qa [0,1,2] ?_;refine Qal ?_;refine Qah (by intro _ _ H;exact (H.Xn 1 rfl).pick [0]) ?_;obtain rfl:=sj h;exact Qm hpl
  refine Qj <|QaF h1 (λ(s0:Int×List QU) (y2:Value)=>[(81,tsl QC x_.Xc),(82,ti (x_.Xc.length:Int)),(83,ti s0.1),(3,tv y2),(1,tptr (Qd.cs x_))]) (λ(s0:Int×List QU) (y2:Value)=>[own QV 119 s0.2 y2]) y0 [0,1,2,3,4] ?_;clear h;intro s0 y2 o K2 h ho k2;refine Qa [0,1,2,3,4,5] ?_;refine Qf λ_ k3=>Qn h (λ_ h=>?_) (λ_ h=>?_)
  ·refine Qq <|k3 <|Qf λ_ k4=>Qj ?_;have⟨t0,_,h⟩:=bs h;refine QM [v1 2 (λv0=>box (QC.cs zz3) v0),v1 2 (λv0=>box (QC.cs t0) v0)] [3,4] [2,4,5,6,7,8] λm0=>?_;refine Q1 (λ_ _ H=>(((H.Xk [1,0] rfl).Xl 0 rfl).add 0 rfl (λ_ _ _ h=>h.2)).pick [0,3,4,5,6,7]) ?_;have⟨t1,_,h⟩:=bs h;refine Qa [4,5,6,7,8,9,10] ?_;have⟨t2,_,h⟩:=bs h;refine QM [v1 5 (λv0=>box (Qk.cs zz1) v0),v1 5 (λv0=>box (Qk.cs t2) v0)] [6,7] [5,6,7,8,9,10,11,12] λm1=>?_;refine Q1 (λ_ _ H=>(((H.Xk [1,0] rfl).Xl 0 rfl).add 0 rfl (λ_ _ _ h=>h.2)).pick [0,3,4,5,6,7,8,9]) ?_;have⟨_,h2,t3,h3,t4,h4,_,h5,h⟩:=bs4 h;intro a w H;refine wr mx [v1 18 (λv0=>own QV 119 (s0.2++[(QU.mk t1 (([114,117,108,101,58]:Str)++t0.Xj) (QE.mk t3 t4 t0.N))]) v0)] H (λ_=>.q 6 rfl<|.q 2 rfl<|.o (Q7 QkM z4)<|.o (Q5 (u:=t0.Xj) tok9 z0 rfl)<|.o (Qes .k z0 h2)<|.o (Qae Qdh z5)<|.o (Q7 Qm5 z8)<|.o (Q5 (u:=t0.A) tok9 z0 rfl)<|.o (QL QoN (Qlg.ok h3) (.cons (.of z2)<|.cons (.of z0)<|.nil))<|.o (Qae Qdh z9)<|.o (Q7 Qm6 z12)<|.o (Q5 (u:=t0.B) tok9 z0 rfl)<|.o (QL QoN (Qlg.ok h4) (.cons (.of z2)<|.cons (.of z0)<|.nil))<|.o (Q7 Qm7 z15)<|.o (Q5 (u:=t0.N) tok3 z0 rfl)<|.p (T:=Qad.ty (QE.mk t3 t4 t0.N)) rfl (QaO underlying67 pl67 zv67 zc67 (.cons (R:=rI) (u:=t3) rfl z6 (leb rfl)<|.cons (R:=rI) (u:=t4) rfl z2 (leb rfl)<|.cons (R:=rI) (u:=t0.N) rfl z0 (leb rfl)<|.nil _))<|.p (T:=QV.ty (QU.mk t1 (([114,117,108,101,58]:Str)++t0.Xj) (QE.mk t3 t4 t0.N))) rfl (QaO underlying119 Qqn Qqm QnR (.cons (R:=rI) (u:=t1) rfl z14 (leb rfl)<|.cons (R:=rS) (u:=(([114,117,108,101,58]:Str)++t0.Xj)) rfl z11 (leb rfl)<|.cons (R:=Qad) (u:=(QE.mk t3 t4 t0.N)) rfl z0 (leb rfl)<|.nil _))<|.o (Qam (R:=QV) (us:=[(QU.mk t1 (([114,117,108,101,58]:Str)++t0.Xj) (QE.mk t3 t4 t0.N))]) ud76 Qkd (.cons z0<|.nil _) rfl (leb rfl))<|.e [] [0] [1] rfl rfl rfl rfl (QaD (R:=QV) ud76 Qkd (leb rfl) z17 z0 h5)<|.ud (f:=λv=>tv v) 18 rfl [] rfl rfl (Qp z0)<|.n) λm2 a w H=>?_;have H:=H.to [18,19,23,24,25,26] [_,_,_,_,_,_] [_] rfl rfl;refine QbC H ?_;refine k4 <|QJ [1,2,3,4,5,6] ?_;exact QX k2 (m2 18) ((sj h).symm) [3,4,0,2,5]
  refine QN <|QX J1 y2 (ho _ (sj h).symm) [4]
 refine Qj <|QaF h0 (λ(s1:Int×List QU) (y3:Value)=>[(15,tsl Qk x_.Xa),(16,ti (x_.Xa.length:Int)),(17,ti s1.1),(3,tv y3),(1,tptr (Qd.cs x_))]) (λ(s1:Int×List QU) (y3:Value)=>[own QV 119 s1.2 y3]) (.slice none 0 0) [0,1,2,3,4] ?_;clear h;intro s1 y3 o K3 h ho k5;refine Qa [0,1,2,3,4,5] ?_;refine Qf λ_ k6=>Qn h (λ_ h=>?_) (λ_ h=>?_)
 ·refine Qq <|k6 <|Qf λK4 k7=>Qj ?_;have⟨t5,_,h⟩:=bs h;refine QM [v1 3 (λv0=>box (Qk.cs zz1) v0),v1 3 (λv0=>box (Qk.cs t5) v0)] [4,6] [3,4,6,7,8,9,10] λm3=>?_;refine Q1 (λ_ _ H=>(((H.Xk [1,0] rfl).Xl 0 rfl).add 0 rfl (λ_ _ _ h=>h.2)).pick [0,3,4,5,6,7,8]) ?_;refine Qa [1,2,3,4,5,6,7,8,9,10] ?_;have⟨e2,h6,h⟩:=bs h;have J2:∀(p2:List QU) (y4:Value),p2=e2->To M w0 117 [(15,tsl Qk x_.Xa),(16,ti (x_.Xa.length:Int)),(17,ti s1.1),(3,tv y4),(1,tptr (Qd.cs x_))] [own QV 119 p2 y4] K4:=by
   intro p2 y4 he;subst he;refine k7 <|QJ [1,2,3,4,5] ?_;exact QX k5 y4 ((sj h).symm) [1,2,0,3,4]
  refine Qj <|QaF h6 (λ(s2:Int×List QU) (y5:Value)=>[(23,tsl Qe t5.Xb),(24,ti (t5.Xb.length:Int)),(25,ti s2.1),(5,tptr (Qk.cs t5)),(4,ti s1.1),(15,tsl Qk x_.Xa),(16,ti (x_.Xa.length:Int)),(17,ti s1.1),(3,tv y5),(1,tptr (Qd.cs x_))]) (λ(s2:Int×List QU) (y5:Value)=>[own QV 119 s2.2 y5]) y3 [0,1,2,3,4,5,6,7,8,9] ?_;clear h;intro s2 y5 o K5 h ho k8;refine Qa [0,1,2,3,4,5,6,7,8,9,10] ?_;refine Qf λ_ k9=>Qn h (λ_ h=>?_) (λ_ h=>?_)
  ·refine Qq <|k9 <|Qf λK6 k10=>?_;have⟨p3,h7,h⟩:=bs h;have J3:∀(y6:Value),To M w0 117 [(23,tsl Qe t5.Xb),(24,ti (t5.Xb.length:Int)),(25,ti s2.1),(5,tptr (Qk.cs t5)),(4,ti s1.1),(15,tsl Qk x_.Xa),(16,ti (x_.Xa.length:Int)),(17,ti s1.1),(3,tv y6),(1,tptr (Qd.cs x_))] [own QV 119 p3 y6] K6:=by
    intro y6;refine k10 <|QJ [1,2,3,4,5,6,7,8,9,10] ?_;exact QX k8 y6 ((sj h).symm) [1,2,0,3,4,5,6,7,8,9]
   replace h:=h7;clear h7;refine Qj ?_;have⟨t6,_,h⟩:=bs h;refine QM [v1 3 (λv0=>box (Qe.cs zz0) v0),v1 3 (λv0=>box (Qe.cs t6) v0)] [4,6] [3,4,6,7,8,9,10,11,12,13,14,15] λm4=>?_;refine Q1 (λ_ _ H=>(((H.Xk [1,0] rfl).Xl 0 rfl).add 0 rfl (λ_ _ _ h=>h.2)).pick [0,3,4,5,6,7,8,9,10,11,12,13]) ?_;refine tIfs h [7,8,9,10,11,12,13,14,15,16,17,18,19] (λ_ h=>?_) (λ_ h=>?_)
   ·refine QN ?_;obtain rfl:=sj h;exact QR (J3 y5) [3,4,5,6,7,8,9,10,11,12]
   refine Qa [0,2,3,4,5,6,7,8,9,10,11,12,13] ?_;refine Qf λK7 k11=>Qa [7,8,9,10,11,12,13,14,15,16,17,18,19,20] ?_;have⟨p4,h8,h⟩:=bs h;have J4:To M w0 117 [(8,ti p4),(7,tptr (Qe.cs t6)),(6,ti s2.1),(23,tsl Qe t5.Xb),(24,ti (t5.Xb.length:Int)),(25,ti s2.1),(5,tptr (Qk.cs t5)),(4,ti s1.1),(15,tsl Qk x_.Xa),(16,ti (x_.Xa.length:Int)),(17,ti s1.1),(3,tv y5),(1,tptr (Qd.cs x_))] [own QV 119 s2.2 y5] K7:=by
    refine k11 ?_;have⟨_,_,_,_,h⟩:=bs2 h;refine Qa [6,7,8,9,10,11,12,13,14,15,16,17,18,19] ?_;have⟨_,h9,_,h10,_,h11,h⟩:=bs3 h;intro a w H;refine wr mx [v1 21 (λv0=>own QV 119 (s2.2++[(QU.mk s1.1 (((t5.Xj++([46]:Str))++t6.Xj)++([32,108,111,119]:Str)) (QE.mk p4 s2.1 (i64.wrap (0 - t6.Lo)))),(QU.mk s1.1 (((t5.Xj++([46]:Str))++t6.Xj)++([32,104,105,103,104]:Str)) (QE.mk s2.1 p4 t6.Hi))]) v0)] H (λ_=>.q 12 rfl<|.q 9 rfl<|.q 2 rfl<|.o (Qes z0 .k h9)<|.q 5 rfl<|.q 8 rfl<|.o (Q7 Qms z8)<|.o (Q5 (u:=t6.Lo) tok3 z0 rfl)<|.o (Qnx z0)<|.p (T:=Qad.ty (QE.mk p4 s2.1 (i64.wrap (0 - t6.Lo)))) rfl (QaO underlying67 pl67 zv67 zc67 (.cons (R:=rI) (u:=p4) rfl z4 (leb rfl)<|.cons (R:=rI) (u:=s2.1) rfl z3 (leb rfl)<|.cons (R:=rI) (u:=(i64.wrap (0 - t6.Lo))) rfl z0 (leb rfl)<|.nil _))<|.p (T:=QV.ty (QU.mk s1.1 (((t5.Xj++([46]:Str))++t6.Xj)++([32,108,111,119]:Str)) (QE.mk p4 s2.1 (i64.wrap (0 - t6.Lo))))) rfl (QaO underlying119 Qqn Qqm QnR (.cons (R:=rI) (u:=s1.1) rfl z8 (leb rfl)<|.cons (R:=rS) (u:=(((t5.Xj++([46]:Str))++t6.Xj)++([32,108,111,119]:Str))) rfl z6 (leb rfl)<|.cons (R:=Qad) (u:=(QE.mk p4 s2.1 (i64.wrap (0 - t6.Lo)))) rfl z0 (leb rfl)<|.nil _))<|.q 19 rfl<|.q 12 rfl<|.o (Qes z0 .k h10)<|.q 17 rfl<|.q 16 rfl<|.o (Q7 Qmt z18)<|.o (Q5 (u:=t6.Hi) tok3 z0 rfl)<|.p (T:=Qad.ty (QE.mk s2.1 p4 t6.Hi)) rfl (QaO underlying67 pl67 zv67 zc67 (.cons (R:=rI) (u:=s2.1) rfl z3 (leb rfl)<|.cons (R:=rI) (u:=p4) rfl z2 (leb rfl)<|.cons (R:=rI) (u:=t6.Hi) rfl z0 (leb rfl)<|.nil _))<|.p (T:=QV.ty (QU.mk s1.1 (((t5.Xj++([46]:Str))++t6.Xj)++([32,104,105,103,104]:Str)) (QE.mk s2.1 p4 t6.Hi))) rfl (QaO underlying119 Qqn Qqm QnR (.cons (R:=rI) (u:=s1.1) rfl z7 (leb rfl)<|.cons (R:=rS) (u:=(((t5.Xj++([46]:Str))++t6.Xj)++([32,104,105,103,104]:Str))) rfl z5 (leb rfl)<|.cons (R:=Qad) (u:=(QE.mk s2.1 p4 t6.Hi)) rfl z0 (leb rfl)<|.nil _))<|.o (Qam (R:=QV) (us:=[(QU.mk s1.1 (((t5.Xj++([46]:Str))++t6.Xj)++([32,108,111,119]:Str)) (QE.mk p4 s2.1 (i64.wrap (0 - t6.Lo)))),(QU.mk s1.1 (((t5.Xj++([46]:Str))++t6.Xj)++([32,104,105,103,104]:Str)) (QE.mk s2.1 p4 t6.Hi))]) ud76 Qkd (.cons z9<|.cons z0<|.nil _) rfl (leb rfl))<|.e [] [0] [1] rfl rfl rfl rfl (QaD (R:=QV) ud76 Qkd (leb rfl) z20 z0 h11)<|.ud (f:=λv=>tv v) 21 rfl [] rfl rfl (Qp z0)<|.n) λm5 a w H=>?_;have H:=H.to [21,22,27,28,29,30,31,32,33,34,35] [_,_,_,_,_,_,_,_,_,_,_] [_] rfl rfl;refine QbC H ?_;obtain rfl:=sj h;exact QR (J3 (m5 21)) [2,3,4,5,6,7,8,9,1,10]
   replace h:=h8;clear h8;refine Qn h (λ_ h=>?_) (λ_ h=>?_)
   ·have⟨_,_,h⟩:=bs h;refine QJ [4,6,7,8,9,10,11,12,13,14,15,16,17] ?_;obtain rfl:=sj h;exact QR J4 [0,1,2,3,4,5,6,7,8,9,10,11,12]
   refine Qq ?_;obtain rfl:=sj h;exact QR J4 [1,2,3,4,5,6,7,8,9,10,11,12,13]
  refine QN <|QX J2 y5 (ho _ (sj h).symm) [6,7,8,9,10]
 refine QN <|QX J0 y3 (ho _ (sj h).symm) [4,5]
def Qf0 (x_:Qb):Option ((List Str)×Int):=(QfQ x_).bind λt0=>(if (t0 !=0)=true then (some (([]:List Str),t0)) else (Qd3 x_).bind λt1=>(QfZ x_).bind λt2=>(Ql (λ(s0:Int×List Str)=>((if (decide (s0.1<(t2.length:Int)))=true then (idx t2 s0.1).bind λt3=>(rm (s0.2.length+[t3.name].length)).bind λ_=>(some (.inl ((i64.wrap (s0.1+1)),(s0.2++[t3.name])))) else (some (.inr s0.2))):Option ((Int×List Str)⊕((List Str))))) ((0:Int),t1.2.1)).bind λp0=>(some (p0,(0:Int))))
instance Qqa:SpcS prog 19 (∀{x_:Qb} {r:(List Str)×Int},Qf0 x_=some r->FnOk prog 19 [Qd.ty x_] [glo] (λ_=>[]) (λ_=>ttup [tsl rS r.1,ti r.2])):=.mk λ{x_ r} h=>by
 unfold Qf0 at h
 refine Fe func19 ntmps19 λM0 M w0 hpl=>?_
 refine Qa [0] ?_
 refine Qf λ_ k0=>?_
 have⟨_,_,h⟩:=bs h
 refine Qa [2,3] ?_
 refine Qa [1,2,3] ?_
 refine Qn h (λ_ h=>?_) (λ_ h=>?_)
 ·refine Qa [1,2] ?_
  exact Qo h (·▸Qm hpl)
 refine Qq ?_
 refine k0 ?_
 have⟨t0,h0,h⟩:=bs h
 intro a w H
 refine sr mx [v1 1 (λv0=>own rS 9 t0.2.1 v0)] H (λ_=>.o (Qae Qcm z2)<|.m [0] [1] rfl rfl rfl ((QL Qq4 (Qjp.ok h0) (.cons (.of z0)<|.nil)).glo)<|.ud (f:=λv=>ttup [tsl QP t0.1,tv v,ti t0.2.2]) 1 rfl [] rfl rfl (Qat z0)<|.o (Qag z0 rfl)<|.ud (f:=λv=>tv v) 1 rfl [] rfl rfl (Qag z1 rfl)<|.o (Qag z2 rfl)<|.o (Qp z2)<|.ud (f:=λv=>tv v) 1 rfl [] rfl rfl (Qp z2)<|.o (Qp z2)<|.n) λm0 a w H=>?_
 have H:=H.to [4,7,11] [_,_,_] [_,_] rfl rfl
 refine Q6 H ?_
 refine Qf λK0 k1=>?_
 have⟨t1,_,h⟩:=bs h
 refine Qa [1,2,3,4,5] ?_
 have⟨e0,h1,h⟩:=bs h
 have J0:∀(p0:List Str) (y0:Value),p0=e0->To M w0 35 [(6,tv y0)] [glo,own rS 9 p0 y0] K0:=by
  intro p0 y0 he;subst he;refine k1 <|Qa [0,1,2,3] ?_;refine Qal ?_;refine Qah (by intro _ _ H;exact ((H.Xk [1,0] rfl).Xn 1 rfl).pick [0,3]) ?_;obtain rfl:=sj h;exact Qm hpl
 refine Qj <|QaF h1 (λ(s0:Int×List Str) (y1:Value)=>[(22,tsl QV t1),(23,ti (t1.length:Int)),(24,ti s0.1),(6,tv y1)]) (λ(s0:Int×List Str) (y1:Value)=>[glo,own rS 9 s0.2 y1]) (m0 1) [0,1,2,4] ?_;clear h;intro s0 y1 o K1 h ho k2;refine Qa [0,1,2,3,4] ?_;refine Qf λ_ k3=>Qn h (λ_ h=>?_) (λ_ h=>?_)
 ·refine Qq <|k3 <|Qf λ_ k4=>Qj ?_;have⟨t2,_,h⟩:=bs h;refine QM [v1 2 (λv0=>box (QV.cs (QU.mk (0:Int) ([]:Str) (QE.mk (0:Int) (0:Int) (0:Int)))) v0),v1 2 (λv0=>box (QV.cs t2) v0)] [3,4] [2,4,5,6,7] λm1=>?_;refine Q1 (λ_ _ H=>(((H.Xk [2,0,1] rfl).Xl 0 rfl).add 0 rfl (λ_ _ _ h=>h.2)).pick [0,3,4,5,6]) ?_;have⟨_,_,h⟩:=bs h;refine Qau [v1 4 (λv0=>own rS 9 (s0.2++[t2.name]) v0)] [5] [4,5,7,8,9] λm2=>?_;refine k4 <|QJ [1,2,3,4,5] ?_;exact QX k2 (m2 4) ((sj h).symm) [3,4,0,2]
 refine QN <|QX J0 y1 (ho _ (sj h).symm) [4]
def Qf1 (x_:Qb):Option (Qa6):=(Qd3 x_).bind λt0=>(QfZ x_).bind λt1=>(Ql (λ(s0:Int×List QO)=>((if (decide (s0.1<(x_.Xa.length:Int)))=true then (idx x_.Xa s0.1).bind λt2=>(Ql (λ(s1:Int×List QO)=>((if (decide (s1.1<(t2.Xb.length:Int)))=true then (idx t2.Xb s1.1).bind λt3=>((if (t3.Xi==1)=true then (QeF x_ s0.1 s1.1).bind λt4=>(rm (s1.2.length+[(QO.mk s0.1 t4)].length)).bind λ_=>(some (s1.2++[(QO.mk s0.1 t4)])) else (some s1.2))).bind λp0=>(some (.inl ((i64.wrap (s1.1+1)),p0))) else (some (.inr s1.2))):Option ((Int×List QO)⊕((List QO))))) ((0:Int),s0.2)).bind λp1=>(some (.inl ((i64.wrap (s0.1+1)),p1))) else (some (.inr s0.2))):Option ((Int×List QO)⊕((List QO))))) ((0:Int),([]:List QO))).bind λp2=>(some (Qa6.mk x_ t0.1 t1 p2))
instance Qqb:SpcS prog 29 (∀{x_:Qb} {r:Qa6},Qf1 x_=some r->FnOk prog 29 [Qd.ty x_] [glo] (λ_=>[]) (λ_=>tptr (QT.cs r))):=.mk λ{x_ r} h=>by
 unfold Qf1 at h
 refine Fe func29 ntmps29 λM0 M w0 hpl=>?_
 refine Qa [0] ?_
 have⟨t0,h0,h⟩:=bs h
 intro a w H
 refine sr mx [] H (λ_=>.o (Qae Qcm z0)<|.u [0] rfl rfl ((QL Qq4 ((Qjp.ok h0).roE (T':=ttup [tsl QP t0.1,tsl rS t0.2.1,ti t0.2.2]) QoC) (.cons (.of z0)<|.nil)).glo)<|.q 0 rfl<|.o (Qag z0 rfl)<|.o (Qag z1 rfl)<|.o (Qag z2 rfl)<|.o (Qp z2)<|.o (Qp z2)<|.o (Qp z2)<|.n) λ_ a w H=>?_
 have H:=H.t2_1 [6,9]
 refine Q6 H ?_
 have⟨t1,h1,h⟩:=bs h
 intro a w H
 refine sr mx [v1 5 (λv0=>box (Qd.cs x_++[tsl QP t0.1,tsl QV t1,tvs nilV]) v0)] H (λ_=>.o (Qae Qcm z1)<|.q 1 rfl<|.o (Qae Qcm z3)<|.o (QL Qv1 (Qp9.ok h1) (.cons (.of z0)<|.nil))<|.p (T:=tagg (Qd.cs x_++[tsl QP t0.1,tsl QV t1,tvs nilV])) rfl (QaO underlying79 pl79 zv79 QxZ.1 (.cons (R:=Qd) (u:=x_) rfl z3 (leb rfl)<|.cons (R:=(rSl QP)) (u:=t0.1) rfl z2 (leb rfl)<|.cons (R:=(rSl QV)) (u:=t1) rfl z0 (leb rfl)<|.nil _))<|.m [] [1] rfl rfl rfl (Qu7 (R:=(rAgg (Qd.cs x_++[tsl QP t0.1,tsl QV t1,tvs nilV]) (Qi5 (Qi4 Qd) (Qv Qca (Qv Qca (Qv Qdx Qak)))))) (u:=()) z0)<|.ud (f:=λv=>tv v) 5 rfl [] rfl rfl (Qp z0)<|.n) λm0 a w H=>?_
 replace H:St _ _ _ [_,_] [_,_,_] _ _:=(H.pick [6,8]).nil (Qaq) 112
 refine Q6 H ?_
 refine Qf λK0 k0=>?_
 refine Qa [1,2,3,4,5] ?_
 have⟨e0,h2,h⟩:=bs h
 have J0:∀(p0:List QO) (y0:Value),p0=e0->To M w0 60 [(6,tv (m0 5))] [own Qaq 112 p0 y0,glo,box (Qd.cs x_++[tsl QP t0.1,tsl QV t1,tvs y0]) (m0 5)] K0:=by
  intro p0 y0 he;subst he;refine k0 <|Qa [1] ?_;refine Qal ?_;refine Qah (As'':=[box (QT.cs (Qa6.mk x_ t0.1 t1 p0)) (m0 5),glo]) (λ_ _ H=>((H.pick [0]).Xk [0,2,1] rfl).Xm 6 rfl) ?_;refine Qah (λ_ _ H=>((H.Xl 0 rfl).add 0 rfl (λ_ _ _ h=>h.2)).pick [0]) ?_;obtain rfl:=sj h;exact Qm hpl
 refine Qj <|QaF h2 (λ(s0:Int×List QO) (y1:Value)=>[(24,tsl Qk x_.Xa),(25,ti (x_.Xa.length:Int)),(26,ti s0.1),(6,tv (m0 5)),(1,tptr (Qd.cs x_))]) (λ(s0:Int×List QO) (y1:Value)=>[own Qaq 112 s0.2 y1,glo,box (Qd.cs x_++[tsl QP t0.1,tsl QV t1,tvs y1]) (m0 5)]) nilV [0,1,2,3,4] ?_;clear h;intro s0 y1 o K1 h ho k1;refine Qa [0,1,2,3,4,5] ?_;refine Qf λ_ k2=>Qn h (λ_ h=>?_) (λ_ h=>?_)
 ·refine Qq <|k2 <|Qf λK2 k3=>Qj ?_;have⟨t2,_,h⟩:=bs h;refine QM [v1 3 (λv0=>box (Qk.cs zz1) v0),v1 3 (λv0=>box (Qk.cs t2) v0)] [4,6] [3,4,6,7,8,9,10] λm1=>?_;refine Q1 (λ_ _ H=>(((H.Xk [3,0,1,2] rfl).Xl 0 rfl).add 0 rfl (λ_ _ _ h=>h.2)).pick [0,3,4,5,6,7,8]) ?_;refine Qa [1,2,3,5,6,7,8,9,10] ?_;have⟨e1,h3,h⟩:=bs h;have J1:∀(p1:List QO) (y2:Value),p1=e1->To M w0 60 [(24,tsl Qk x_.Xa),(25,ti (x_.Xa.length:Int)),(26,ti s0.1),(6,tv (m0 5)),(1,tptr (Qd.cs x_))] [own Qaq 112 p1 y2,glo,box (Qd.cs x_++[tsl QP t0.1,tsl QV t1,tvs y2]) (m0 5)] K2:=by
   intro p1 y2 he;subst he;refine k3 <|QJ [1,2,3,4,5] ?_;exact QX k1 y2 ((sj h).symm) [1,2,0,3,4]
  refine Qj <|QaF h3 (λ(s1:Int×List QO) (y3:Value)=>[(32,tsl Qe t2.Xb),(33,ti (t2.Xb.length:Int)),(34,ti s1.1),(7,ti s0.1),(24,tsl Qk x_.Xa),(25,ti (x_.Xa.length:Int)),(26,ti s0.1),(6,tv (m0 5)),(1,tptr (Qd.cs x_))]) (λ(s1:Int×List QO) (y3:Value)=>[own Qaq 112 s1.2 y3,glo,box (Qd.cs x_++[tsl QP t0.1,tsl QV t1,tvs y3]) (m0 5)]) y1 [0,1,2,3,4,5,6,7,8] ?_;clear h;intro s1 y3 o K3 h ho k4;refine Qa [0,1,2,3,4,5,6,7,8,9] ?_;refine Qf λ_ k5=>Qn h (λ_ h=>?_) (λ_ h=>?_)
  ·refine Qq <|k5 <|Qf λK4 k6=>Qj ?_;have⟨t3,_,h⟩:=bs h;refine QM [v1 3 (λv0=>box (Qe.cs zz0) v0),v1 3 (λv0=>box (Qe.cs t3) v0)] [4,6] [3,4,6,7,8,9,10,11,12,13,14] λm2=>?_;refine Q1 (λ_ _ H=>(((H.Xk [3,0,1,2] rfl).Xl 0 rfl).add 0 rfl (λ_ _ _ h=>h.2)).pick [0,3,4,5,6,7,8,9,10,11,12]) ?_;refine Qa [2,4,5,6,7,8,9,10,11,12,13] ?_;have⟨p2,h4,h⟩:=bs h;have J2:∀(y4:Value),To M w0 60 [(32,tsl Qe t2.Xb),(33,ti (t2.Xb.length:Int)),(34,ti s1.1),(7,ti s0.1),(24,tsl Qk x_.Xa),(25,ti (x_.Xa.length:Int)),(26,ti s0.1),(6,tv (m0 5)),(1,tptr (Qd.cs x_))] [glo,own Qaq 112 p2 y4,box (Qd.cs x_++[tsl QP t0.1,tsl QV t1,tvs y4]) (m0 5)] K4:=by
    intro y4;refine k6 <|QJ [1,2,3,4,5,6,7,8,9] ?_;refine Qah (λ_ _ H=>(H.pick [1,2,0,3,4,5,6,7,8]).Xk [1,0,2] rfl) ?_;exact QX k4 y4 ((sj h).symm) [0,1,2,3,4,5,6,7,8]
   replace h:=h4;clear h4;refine Qn h (λ_ h=>?_) (λ_ h=>?_)
   ·have⟨t4,_,_,_,h⟩:=bs2 h;refine Qau [v1 12 (λv0=>own Qaq 112 (s1.2++[(QO.mk s0.1 t4)]) v0),v1 12 (λv0=>box (Qd.cs x_++[tsl QP t0.1,tsl QV t1,tvs v0]) (m0 5))] [13,16] [12,17,18,19,20,21,22,23,24,25] λm3=>?_;obtain rfl:=sj h;exact QR (J2 (m3 12)) [1,2,3,4,5,6,7,8,9]
   refine Qq ?_;obtain rfl:=sj h;refine Qah (λ_ _ H=>(H.pick [2,3,4,5,6,7,8,9,10]).Xk [1,0,2] rfl) ?_;exact QR (J2 y3) [0,1,2,3,4,5,6,7,8]
  refine QN <|QX J1 y3 (ho _ (sj h).symm) [5,6,7,8,9]
 refine QN <|QX J0 y1 (ho _ (sj h).symm) [4]
def QfS (n_:Int) (l_:(List QE)):Option ((List Qaa)×Int):=(if ((decide (n_>10))||(decide ((l_.length:Int)>64)))=true then (some (([]:List Qaa),(4:Int))) else (if (decide (n_<0))=true then (some (([]:List Qaa),(1:Int))) else (mk (l_.length:Int) zz5).bind λt0=>(Ql (λ(s0:Int×List Qaa)=>((if (decide (s0.1<(l_.length:Int)))=true then (idx l_ s0.1).bind λt1=>(if (((((decide ((imin t1.A t1.B)<(-1:Int)))||(decide ((imax t1.A t1.B)>=n_)))||(t1.A==t1.B))||(decide (t1.N<(-2097152:Int))))||(decide (t1.N>2097152)))=true then (some (.inr (.inr ((1:Int),([]:List Qaa))))) else (nz (i64.wrap (n_+1))).bind λ_=>(nz (i64.wrap (n_+1))).bind λ_=>(setAt s0.2 s0.1 (Qaa.mk (Int.tmod (i64.wrap ((i64.wrap (t1.A+n_))+1)) (i64.wrap (n_+1))) (Int.tmod (i64.wrap ((i64.wrap (t1.B+n_))+1)) (i64.wrap (n_+1))) t1.N)).bind λt2=>(some (.inl ((i64.wrap (s0.1+1)),t2)))) else (some (.inr (.inl s0.2)))):Option ((Int×List Qaa)⊕((List Qaa)⊕(Int×List Qaa))))) ((0:Int),t0)).bind λe0=>(match e0 with | .inl p0=>(some (p0,(0:Int))) | .inr p1=>(some (p1.2,p1.1)))))
instance Qn4:SpcS prog 87 (∀{n_:Int} {l_:(List QE)} {r:(List Qaa)×Int},QfS n_ l_=some r->FnOk prog 87 [ti n_,tsl Qad l_] [] (λv=>[own Q4 212 r.1 v]) (λv=>ttup [tv v,ti r.2])):=.mk λ{n_ l_ r} h=>by
 unfold QfS at h
 refine Fe func87 ntmps87 λM0 M w0 hpl=>?_
 refine Qa [2,3] ?_
 refine tIfs h [6,7,8] (λ_ h=>?_) (λ_ h=>?_)
 ·refine Qa [0,1] ?_
  refine Q1 (λ_ _ H=>H.nil (Q4) 212) ?_
  exact Qo h (·▸Qcv (.slice none 0 0) [0] hpl)
 refine tIfs h [1,3,4] (λ_ h=>?_) (λ_ h=>?_)
 ·refine Qa [0,1] ?_
  refine Q1 (λ_ _ H=>H.nil (Q4) 212) ?_
  exact Qo h (·▸Qcv (.slice none 0 0) [0] hpl)
 have⟨t0,_,h⟩:=bs h
 refine QM [v1 2 (λv0=>own Q4 212 t0 v0)] [3] [2,3,5,6] λm0=>?_
 refine Qf λK0 k0=>?_
 refine Qa [0,1,2,3,4,5] ?_
 have⟨e0,h0,h⟩:=bs h
 have J0:∀(p0:List Qaa),(.inl p0)=e0->To M w0 84 [(6,tv (m0 2))] [own Q4 212 p0 (m0 2)] K0:=by
  intro p0 he;subst he;simp only at h;refine k0 <|Qa [0,1,2,3] ?_;exact Qo h (·▸Qcv (m0 2) [0] hpl)
 have J1:∀(p1:Int×List Qaa) (y0:Value),(.inr p1)=e0->To M w0 84 [(4,tv y0),(5,ti p1.1)] [own Q4 212 p1.2 y0] (Ret prog f87 M0 [] w0 (λv=>[own Q4 212 r.1 v]) (λv=>ttup [tv v,ti r.2]) .ret):=by
  intro p1 y0 he;subst he;simp only at h;obtain rfl:=sj h;exact Qcv y0 [0] hpl
 refine Qj <|Qai h0 (λ(s0:Int×List Qaa)=>[(21,tsl Qad l_),(22,ti (l_.length:Int)),(23,ti s0.1),(6,tv (m0 2)),(0,ti n_)]) (λ(s0:Int×List Qaa)=>[own Q4 212 s0.2 (m0 2)]) [0,1,2,4,5] ?_;clear h;intro s0 o K1 h ho k1;refine Qa [0,1,2,3,4,5] ?_;refine Qf λ_ k2=>Qn h (λ_ h=>?_) (λ_ h=>?_)
 ·refine Qq <|k2 <|Qf λ_ k3=>Qj ?_;have⟨t1,_,h⟩:=bs h;refine QM [v1 3 (λv0=>box (Qad.cs (QE.mk (0:Int) (0:Int) (0:Int))) v0),v1 3 (λv0=>box (Qad.cs t1) v0)] [4,6] [3,4,6,7,8,9,10] λm1=>?_;refine Q1 (λ_ _ H=>(((H.Xk [1,0] rfl).Xl 0 rfl).add 0 rfl (λ_ _ _ h=>h.2)).pick [0,3,4,5,6,7,8]) ?_;refine tIfs h [31,32,33,34,35,36,37,38] (λ_ h=>?_) (λ_ h=>?_)
  ·refine Qa [0,1,8] ?_;refine Q1 (λ_ _ H=>H.nil (Q4) 212) ?_;refine Qal ?_;refine Qah (λ_ _ H=>(H.pick [0,1]).Xk [0] rfl) ?_;exact QX J1 (.slice none 0 0) (ho _ (sj h).symm) [0,1]
  have⟨_,_,_,_,t2,_,h⟩:=bs3 h;refine Qau [v0 (own Q4 212 t2 (m0 2))] [23] [0,25,26,27,28,29] λm2=>?_;refine k3 <|QJ [1,2,3,4,5,6] ?_;exact Qu k1 ((sj h).symm) [2,3,0,4,5]
 refine QN <|Qu J0 (ho _ (sj h).symm) [4]
def QmV (x_:Int) (y_:Int):Option (Int×Int):=(some ((u32.wrap (ishr .u64 (u64.wrap ((u64.wrap x_) * (u64.wrap y_))) (32:Int))),(u32.wrap (u64.wrap ((u64.wrap x_) * (u64.wrap y_))))))
instance QC2:Spc2 prog 210 QmV (λx_ y_=>[tv (.int .u32 x_),tv (.int .u32 y_)]) (λr=>ttup [tv (.int .u32 r.1),tv (.int .u32 r.2)]):=.mk λ{x_ y_ r} h=>by
 unfold QmV at h
 refine Fe func210 ntmps210 λM0 M w0 hpl=>?_
 refine Qa [2,3] ?_
 intro a w H
 refine sr mx [] H (λ_=>.q 0 rfl<|.o (QeX Qqp QnV z0)<|.q 3 rfl<|.o (QeX Qqp QnV z0)<|.o (Qnv z2 z0)<|.o (Qp z0)<|.n) λ_ a w H=>?_
 have H:=H.t1_0 [5]
 refine Q6 H ?_
 intro a w H
 refine sr mx [] H (λ_=>.q 0 rfl<|.o (Qcb z0 .k (by decide))<|.o (QeX QnV Qqp z0)<|.q 3 rfl<|.o (QeX QnV Qqp z0)<|.o (Qp z2)<|.o (Qp z1)<|.n) λ_ a w H=>?_
 have H:=H.t2_0 [5,6]
 refine Q6 H ?_
 exact Qo h (·▸Qm hpl)
def QgZ (x_:Int) (y_:Int):Option (Int×Int):=(some ((u64.wrap ((u64.wrap ((u64.wrap ((ishr .u64 x_ (32:Int)) * (ishr .u64 y_ (32:Int))))+(ishr .u64 (u64.wrap ((u64.wrap ((ishr .u64 x_ (32:Int)) * (iand .u64 y_ (4294967295:Int))))+(ishr .u64 (u64.wrap ((iand .u64 x_ (4294967295:Int)) * (iand .u64 y_ (4294967295:Int)))) (32:Int)))) (32:Int))))+(ishr .u64 (u64.wrap ((iand .u64 (u64.wrap ((u64.wrap ((ishr .u64 x_ (32:Int)) * (iand .u64 y_ (4294967295:Int))))+(ishr .u64 (u64.wrap ((iand .u64 x_ (4294967295:Int)) * (iand .u64 y_ (4294967295:Int)))) (32:Int)))) (4294967295:Int))+(u64.wrap ((iand .u64 x_ (4294967295:Int)) * (ishr .u64 y_ (32:Int)))))) (32:Int)))),(u64.wrap (x_ * y_))))
instance QC3:Spc2 prog 211 QgZ (λx_ y_=>[tv (.int .u64 x_),tv (.int .u64 y_)]) (λr=>ttup [tv (.int .u64 r.1),tv (.int .u64 r.2)]):=.mk λ{x_ y_ r} h=>by
 unfold QgZ at h
 refine Fe func211 ntmps211 λM0 M w0 hpl=>?_
 refine Qa [2,3] ?_
 intro a w H
 refine sr mx [] H (λ_=>.q 0 rfl<|.o (QcT z0 .k)<|.o (Qp z0)<|.n) λ_ a w H=>?_
 have H:=H.t3_0 [2,3,4]
 refine Q6 H ?_
 intro a w H
 refine sr mx [] H (λ_=>.q 1 rfl<|.o (Qcb z0 .k (by decide))<|.o (Qp z0)<|.n) λ_ a w H=>?_
 have H:=H.t4_0 [2,3,4,5]
 refine Q6 H ?_
 intro a w H
 refine sr mx [] H (λ_=>.q 3 rfl<|.o (QcT z0 .k)<|.o (Qp z0)<|.n) λ_ a w H=>?_
 have H:=H.to [2,3,4,5,6] [_,_,_,_,_] [] rfl rfl
 refine Q6 H ?_
 intro a w H
 refine sr mx [] H (λ_=>.q 4 rfl<|.o (Qcb z0 .k (by decide))<|.o (Qp z0)<|.n) λ_ a w H=>?_
 have H:=H.to [2,3,4,5,6,7] [_,_,_,_,_,_] [] rfl rfl
 refine Q6 H ?_
 refine Qa [3,4,5,6,7,8,9] ?_
 intro a w H
 refine sr mx [] H (λ_=>.q 3 rfl<|.q 3 rfl<|.o (Qnv z1 z0)<|.q 3 rfl<|.o (Qcb z0 .k (by decide))<|.o (QaI z2 z0)<|.o (Qp z0)<|.n) λ_ a w H=>?_
 have H:=H.to [6,8,10,11,12,13] [_,_,_,_,_,_] [] rfl rfl
 refine Q6 H ?_
 intro a w H
 refine sr mx [] H (λ_=>.q 0 rfl<|.o (QcT z0 .k)<|.o (Qp z0)<|.n) λ_ a w H=>?_
 have H:=H.to [2,3,4,5,6,7,8] [_,_,_,_,_,_,_] [] rfl rfl
 refine Q6 H ?_
 intro a w H
 refine sr mx [] H (λ_=>.q 1 rfl<|.o (Qcb z0 .k (by decide))<|.o (Qp z0)<|.n) λ_ a w H=>?_
 have H:=H.to [2,3,5,6,7,8,9] [_,_,_,_,_,_,_] [] rfl rfl
 refine Q6 H ?_
 refine Qa [5,6,7,8,10,11] ?_
 intro a w H
 refine sr mx [] H (λ_=>.q 3 rfl<|.q 3 rfl<|.o (Qnv z1 z0)<|.q 4 rfl<|.o (QaI z1 z0)<|.q 5 rfl<|.o (Qcb z0 .k (by decide))<|.o (QaI z2 z0)<|.o (Qp z0)<|.n) λ_ a w H=>?_
 have H:=H.t3_0 [8,13,14]
 refine Q6 H ?_
 refine Qa [3,4] ?_
 exact Qo h (·▸Qm hpl)
def Qip (x_:Int) (y_:Int):Option (Int×Int):=(QgZ x_ y_).bind λt0=>(some (t0.1,t0.2))
instance Qsn:Spc2 prog 177 Qip (λx_ y_=>[tv (.int .u64 x_),tv (.int .u64 y_)]) (λr=>ttup [tv (.int .u64 r.1),tv (.int .u64 r.2)]):=.mk λ{x_ y_ r} h=>by
 unfold Qip at h
 refine Fe func177 ntmps177 λM0 M w0 hpl=>?_
 refine Qa [2,3] ?_
 refine Qf λ_ k0=>?_
 refine Qth ?_
 refine Qq ?_
 refine k0 ?_
 have⟨_,_,h⟩:=bs h
 refine Qa [6,7] ?_
 refine Qa [2,3] ?_
 exact Qo h (·▸Qm hpl)
def Qb3 (x_:(List Int)) (count_:Int):Option ((List Int)):=(if (decide (count_<0))=true then none else (Qip (u64.wrap (x_.length:Int)) (u64.wrap count_)).bind λt0=>(if ((decide (t0.1>0))||(decide (t0.2>9223372036854775807)))=true then none else (mk (i64.wrap t0.2) (0:Int)).bind λt1=>(Ql (λ(s0:Int×List Int)=>((if (decide (s0.1<(s0.2.length:Int)))=true then (sub s0.2 s0.1 (s0.2.length:Int)).bind λt2=>(sub s0.2 0 s0.1).bind λt3=>(some (.inl ((i64.wrap (s0.1+(Nat.min t3.length t2.length:Int))),(s0.2.take (s0.1).toNat++cpy t2 t3++s0.2.drop ((s0.2.length:Int)).toNat)))) else (some (.inr s0.2))):Option ((Int×List Int)⊕((List Int))))) ((Nat.min x_.length t1.length:Int),(cpy t1 x_))).bind λp0=>(some p0)))
instance QkR:SpcS prog 133 (∀{x_:(List Int)} {count_:Int} {r:(List Int)},Qb3 x_ count_=some r->FnOk prog 133 [tsl rI x_,ti count_] [] (λv=>[own rI 3 r v]) (λv=>tv v)):=.mk λ{x_ count_ r} h=>by
 unfold Qb3 at h
 refine Fe func133 ntmps133 λM0 M w0 hpl=>?_
 refine Qa [1,2] ?_
 refine tIfs h [1,2,3] (λ_ h=>?_) (λ_ h=>?_)
 ·cases h
 have⟨t0,h0,h⟩:=bs h
 intro a w H
 refine sr mx [] H (λ_=>.q 1 rfl<|.o (QfF ud22 z0)<|.o (QeX ud3 underlying86 z0)<|.q 5 rfl<|.o (QeX ud3 underlying86 z0)<|.o (QL Qs4 (Qsn.ok h0) (.cons (.of z2)<|.cons (.of z0)<|.nil))<|.q 0 rfl<|.o (Qag z0 rfl)<|.o (Qag z1 rfl)<|.o (Qp z1)<|.o (Qp z1)<|.n) λ_ a w H=>?_
 have H:=H.t3_0 [9,10,12]
 refine Q6 H ?_
 refine tIfs h [5,7,8] (λ_ h=>?_) (λ_ h=>?_)
 ·cases h
 have⟨t1,h1,h⟩:=bs h
 intro a w H
 refine sr mx [v1 2 (λv0=>own rI 3 t1 v0)] H (λ_=>.q 1 rfl<|.o (QeX underlying86 ud3 z0)<|.m [] [0] rfl rfl rfl (Qhf (R:=rI) ud22 tok3 zok3 (leb rfl) z0 z0 h1)<|.ud (f:=λv=>tv v) 2 rfl [] rfl rfl (Qp z0)<|.n) λm0 a w H=>?_
 have H:=H.to [2,3,6] [_,_,_] [_] rfl rfl
 refine Q6 H ?_
 intro a w H
 refine sr mx [v0 (own rI 3 (cpy t1 x_) (m0 2))] H (λ_=>.q 1 rfl<|.q 3 rfl<|.e [] [0] [1] rfl rfl rfl rfl (QzX (R:=rI) ud22 rfl tok3 z1 z0)<|.o (Qp z0)<|.n) λ_ a w H=>?_
 have H:=H.t4_1 [0,3,4,5]
 refine Q6 H ?_
 refine Qf λK0 k0=>?_
 have⟨e0,h2,h⟩:=bs h
 have J0:∀(p0:List Int),p0=e0->To M w0 48 [(7,tv (m0 2))] [own rI 3 p0 (m0 2)] K0:=by
  intro p0 he;subst he;refine k0 <|Qa [0,1,2] ?_;exact Qo h (·▸Qcv (m0 2) [0] hpl)
 refine Qj <|Qai h2 (λ(s0:Int×List Int)=>[(8,ti s0.1),(7,tv (m0 2))]) (λ(s0:Int×List Int)=>[own rI 3 s0.2 (m0 2)]) [1,3] ?_;clear h;intro s0 o K1 h ho k1;refine Qf λ_ k2=>Qa [1,3,4,5] ?_;refine QfI 1 (λb0=>?_) (λb0=>?_)
 ·replace h:=Qdc b0 h;refine Qq <|k2 <|Qj ?_;have⟨t2,h3,t3,h4,h⟩:=bs2 h;intro a w H;refine wr mx [v0 (own rI 3 (s0.2.take (s0.1).toNat++cpy t2 t3++s0.2.drop ((s0.2.length:Int)).toNat) (m0 2))] H (λ_=>.q 2 rfl<|.q 4 rfl<|.q 4 rfl<|.u [0] rfl rfl (Qva (R:=rI) ud22 tok3 z1 (.op z0) (.no _) h3)<|.q 7 rfl<|.q 7 rfl<|.u [0] rfl rfl (Qva (R:=rI) ud22 tok3 z1 (.no _) (.op z0) h4)<|.e [] [0] [1] rfl rfl rfl rfl (QtP (R:=rI) (xs:=s0.2) ud22 rfl tok3 z3 z0 h3 h4)<|.o (QaI z7 z0)<|.o (Qp z0)<|.n) λ_ a w H=>?_;have H:=H.to [1,4,9,10,12] [_,_,_,_,_] [_] rfl rfl;refine QbC H ?_;exact Qu k1 ((sj h).symm) [2,4]
 replace h:=Qdd b0 h;refine QN <|Qu J0 (ho _ (sj h).symm) [3]
def Qco (v_:Int) (s_:Int) (n_:Int) (c0_:(List (List Int))) (c1_:Int):Option (Bool):=(idx c0_ s_).bind λt0=>(idx t0 v_).bind λt1=>(opt ((decide (t1<1099511627776))==true) (idx c0_ s_) default).bind λt2=>(opt ((decide (t1<1099511627776))==true) (idx t2 v_) default).bind λt3=>(some ((decide (t1<1099511627776))&&(decide ((i64.wrap ((i64.wrap (c1_+n_))+t3))<0))))
instance QiJ:Spc5 prog 178 Qco (λv_ s_ n_ c0_ c1_=>[ti v_,ti s_,ti n_,tptr ((rSl (rSl rI)).cs c0_),tptr (rI.cs c1_)]) tb:=.mk λ{v_ s_ n_ c0_ c1_ r} h=>by
 unfold Qco at h
 refine Fe func178 ntmps178 λM0 M w0 hpl=>?_
 refine Qa [1,2,3,4,5] ?_
 have⟨_,_,_,_,_,_,_,_,h⟩:=bs4 h
 refine Qa [22] ?_
 exact Qo h (·▸Qm hpl)

/- The walk. No condition. -/
import Derived.Test.YtlajingmjmnfgaaGreatDoorGenJ
set_option linter.all false
open List Go.Proofs.Tryz Go.IntKind
namespace Go.Proofs.YtlajingmjmnfgaaGreatDoor
noncomputable section
open Go.Sim
set_option maxRecDepth 100000
set_option maxHeartbeats 4000000
def Qe1 (x_:Qb):Option ((List QH)):=(Qgd x_).bind λt0=>(if (t0 !=0)=true then (Qb2 ([]:List QH) (-1) (-1) (-1) t0).bind λt1=>(some t1) else (Qm (λ(s0:Int×List QH)=>((if (decide (s0.1<(x_.Xd.length:Int)))=true then (Qm (λ(s1:Int)=>((if (decide (s1<s0.1))=true then (idx x_.Xd s1).bind λt2=>(idx x_.Xd s0.1).bind λt3=>(if (t2.Xj==t3.Xj)=true then (Qb2 s0.2 (-1) s0.1 (-1) 7).bind λt4=>(some (.inr t4)) else (some (.inl (i64.wrap (s1+1))))) else (some (.inr s0.2))):Option ((Int)⊕((List QH))))) (0:Int)).bind λp0=>(some (.inl ((i64.wrap (s0.1+1)),p0))) else (some (.inr s0.2))):Option ((Int×List QH)⊕((List QH))))) ((0:Int),([]:List QH))).bind λp1=>(Qm (λ(s2:Int×List QH)=>((if (decide (s2.1<(x_.Xa.length:Int)))=true then (idx x_.Xa s2.1).bind λt5=>(idx x_.Xa s2.1).bind λt6=>(QbY x_ t6.Xj).bind λt7=>((if (decide (t7<s2.1))=true then (Qb2 s2.2 s2.1 (-1) (-1) 7).bind λt8=>(some t8) else (Qge t5.Xb).bind λt9=>((if (!t9)=true then (Qb2 s2.2 s2.1 (-1) (-1) 11).bind λt10=>(some t10) else (some s2.2))).bind λp2=>(some p2))).bind λp3=>(Qm (λ(s3:Int×List QH)=>((if (decide (s3.1<(t5.Xb.length:Int)))=true then (idx x_.Xa s2.1).bind λt11=>(idx t5.Xb s3.1).bind λt12=>(Qbg t11 t12.Xj).bind λt13=>((if (decide (t13<s3.1))=true then (Qb2 s3.2 s2.1 s3.1 (-1) 7).bind λt14=>(some t14) else (Qgg x_ s2.1 s3.1).bind λt15=>(Qb2 s3.2 s2.1 s3.1 (-1) t15).bind λt16=>(some t16))).bind λp4=>(some (.inl ((i64.wrap (s3.1+1)),p4))) else (some (.inr s3.2))):Option ((Int×List QH)⊕((List QH))))) ((0:Int),p3)).bind λp5=>(some (.inl ((i64.wrap (s2.1+1)),p5))) else (some (.inr s2.2))):Option ((Int×List QH)⊕((List QH))))) ((0:Int),p1)).bind λp6=>(Qm (λ(s4:Int×List QH)=>((if (decide (s4.1<(x_.Xc.length:Int)))=true then (Qgh x_ s4.1).bind λt17=>(Qb2 s4.2 (-1) (-1) s4.1 t17).bind λt18=>(some (.inl ((i64.wrap (s4.1+1)),t18))) else (some (.inr s4.2))):Option ((Int×List QH)⊕((List QH))))) ((0:Int),p6)).bind λp7=>(some p7))
instance QBx:Spc1 prog 98 Qe1 (λx_=>[Qc.ty x_]) (tsl Q1):=.mk λ{x_ r} h=>by
 unfold Qe1 at h
 refine Fe func98 ntmps98 λM0 M w0 hpl=>?_
 refine Qa [0] ?_
 have⟨_,_,h⟩:=bs h
 refine Qa [2,3] ?_
 refine tIfs h [1,2,3] (λ_ h=>?_) (λ_ h=>?_)
 ·refine QY (λ_ _ H=>H.nil (Q1) 182) ?_
  have⟨t0,_,h⟩:=bs h
  refine QJ [v1 1 (λv0=>own Q1 182 t0 v0)] [2] [1,2] λm0=>?_
  refine Qam ?_
  refine Qad (by intro _ _ H;exact (H.Xn 1 rfl).pick [0]) ?_
  obtain rfl:=sj h
  exact Ql hpl
 refine Qa [0,3] ?_
 refine QY (λ_ _ H=>H.nil (Q1) 182) ?_
 refine Qf λK0 k0=>?_
 refine Qa [0,1,2] ?_
 have⟨e0,h0,h⟩:=bs h
 have J0:∀(p0:List QH) (y0:Value),p0=e0->To M w0 122 [(4,tv y0),(1,tptr (Qc.cs x_))] [own Q1 182 p0 y0] K0:=by
  intro p0 y0 he;subst he;refine k0 <|Qf λK1 k1=>Qa [0,1,2] ?_;have⟨e1,h1,h⟩:=bs h;have J1:∀(p1:List QH) (y1:Value),p1=e1->To M w0 122 [(4,tv y1),(1,tptr (Qc.cs x_))] [own Q1 182 p1 y1] K1:=by
   intro p1 y1 he;subst he;refine k1 <|Qf λK2 k2=>Qa [0,1,2] ?_;have⟨e2,h2,h⟩:=bs h;have J2:∀(p2:List QH) (y2:Value),p2=e2->To M w0 122 [(4,tv y2)] [own Q1 182 p2 y2] K2:=by
    intro p2 y2 he;subst he;refine k2 <|Qa [0,1,2] ?_;refine Qam ?_;refine Qad (by intro _ _ H;exact (H.Xn 1 rfl).pick [0]) ?_;obtain rfl:=sj h;exact Ql hpl
   refine Qj <|QaC h2 (λ(s0:Int×List QH) (y3:Value)=>[(10,ti s0.1),(4,tv y3),(1,tptr (Qc.cs x_))]) (λ(s0:Int×List QH) (y3:Value)=>[own Q1 182 s0.2 y3]) y1 [0,1,2] ?_;clear h;intro s0 y3 o K3 h ho k3;refine Qf λ_ k4=>Qa [4,5,6,7] ?_;refine Qn h (λ_ h=>?_) (λ_ h=>?_)
   ·refine Qq <|k4 <|Qf λ_ k5=>Qj ?_;have⟨_,_,t1,_,h⟩:=bs2 h;refine Qal [v1 5 (λv0=>own Q1 182 t1 v0)] [6] [5,6,8,9] λm1=>?_;refine k5 <|QL [2,3,4,5] ?_;exact QV k3 (m1 5) ((sj h).symm) [0,2,3]
   refine QO <|QV J2 y3 (ho _ (sj h).symm) [2]
  refine Qj <|QaC h1 (λ(s1:Int×List QH) (y4:Value)=>[(7,ti s1.1),(4,tv y4),(1,tptr (Qc.cs x_))]) (λ(s1:Int×List QH) (y4:Value)=>[own Q1 182 s1.2 y4]) y0 [0,1,2] ?_;clear h;intro s1 y4 o K4 h ho k6;refine Qf λ_ k7=>Qa [4,5,6,7] ?_;refine Qn h (λ_ h=>?_) (λ_ h=>?_)
  ·refine Qq <|k7 <|Qf λK5 k8=>Qj ?_;have⟨t2,_,h⟩:=bs h;refine Qa [6,8,9,10] ?_;refine Qf λK6 k9=>?_;have⟨_,_,_,_,h⟩:=bs2 h;refine Qa [9,10,11,12,13] ?_;have⟨p3,h3,h⟩:=bs h;have J3:∀(y5:Value),To M w0 122 [(4,tv y5),(8,tsl Qe t2.Xb),(7,ti s1.1),(1,tptr (Qc.cs x_))] [own Q1 182 p3 y5] K6:=by
    intro y5;refine k9 <|Qa [0,1,2,3,4] ?_;have⟨e3,h4,h⟩:=bs h;have J4:∀(p4:List QH) (y6:Value),p4=e3->To M w0 122 [(4,tv y6),(7,ti s1.1),(1,tptr (Qc.cs x_))] [own Q1 182 p4 y6] K5:=by
     intro p4 y6 he;subst he;refine k8 <|QL [2,3,4] ?_;exact QV k6 y6 ((sj h).symm) [0,1,2]
    refine Qj <|QaC h4 (λ(s2:Int×List QH) (y7:Value)=>[(9,ti s2.1),(4,tv y7),(8,tsl Qe t2.Xb),(7,ti s1.1),(1,tptr (Qc.cs x_))]) (λ(s2:Int×List QH) (y7:Value)=>[own Q1 182 s2.2 y7]) y5 [0,1,2,3,4] ?_;clear h;intro s2 y7 o K7 h ho k10;refine Qf λ_ k11=>Qa [3,4,5,6,7,8] ?_;refine Qn h (λ_ h=>?_) (λ_ h=>?_)
    ·refine Qq <|k11 <|Qf λK8 k12=>Qj ?_;have⟨_,_,_,_,_,_,h⟩:=bs3 h;refine Qa [12,14,15,16,17,18] ?_;have⟨p5,h5,h⟩:=bs h;have J5:∀(y8:Value),To M w0 122 [(4,tv y8),(9,ti s2.1),(8,tsl Qe t2.Xb),(7,ti s1.1),(1,tptr (Qc.cs x_))] [own Q1 182 p5 y8] K8:=by
      intro y8;refine k12 <|QL [2,3,4,5,6] ?_;exact QV k10 y8 ((sj h).symm) [0,1,2,3,4]
     replace h:=h5;clear h5;refine Qn h (λ_ h=>?_) (λ_ h=>?_)
     ·have⟨t3,_,h⟩:=bs h;refine Qal [v1 3 (λv0=>own Q1 182 t3 v0)] [4] [3,4,6,7,8,9] λm2=>?_;obtain rfl:=sj h;exact QK (J5 (m2 3)) [1,2,3,4,5]
     have⟨_,_,t4,_,h⟩:=bs2 h;refine Qal [v1 7 (λv0=>own Q1 182 t4 v0)] [8] [7,8,10,11,12,13] λm3=>?_;obtain rfl:=sj h;exact QK (J5 (m3 7)) [1,2,3,4,5]
    refine QO <|QV J4 y7 (ho _ (sj h).symm) [2,4,5]
   replace h:=h3;clear h3;refine Qn h (λ_ h=>?_) (λ_ h=>?_)
   ·have⟨t5,_,h⟩:=bs h;refine Qal [v1 2 (λv0=>own Q1 182 t5 v0)] [3] [2,3,5,6,7] λm4=>?_;obtain rfl:=sj h;exact QK (J3 (m4 2)) [1,2,3,4]
   have⟨_,_,h⟩:=bs h;refine Qa [2,4,5,6,7] ?_;have⟨p6,h6,h⟩:=bs h;have J6:∀(y9:Value),To M w0 122 [(4,tv y9),(8,tsl Qe t2.Xb),(7,ti s1.1),(1,tptr (Qc.cs x_))] [own Q1 182 p6 y9] K6:=by
    intro y9;obtain rfl:=sj h;exact QK (J3 y9) [0,1,2,3]
   replace h:=h6;clear h6;refine Qn h (λ_ h=>?_) (λ_ h=>?_)
   ·have⟨t6,_,h⟩:=bs h;refine Qal [v1 2 (λv0=>own Q1 182 t6 v0)] [3] [2,3,5,6,7] λm5=>?_;obtain rfl:=sj h;exact QK (J6 (m5 2)) [1,2,3,4]
   refine Qq ?_;obtain rfl:=sj h;exact QK (J6 y4) [3,1,2,4]
  refine QO <|QV J1 y4 (ho _ (sj h).symm) [2,3]
 refine Qj <|QaC h0 (λ(s3:Int×List QH) (y10:Value)=>[(5,ti s3.1),(4,tv y10),(1,tptr (Qc.cs x_))]) (λ(s3:Int×List QH) (y10:Value)=>[own Q1 182 s3.2 y10]) (.slice none 0 0) [0,1,2] ?_;clear h;intro s3 y10 o K9 h ho k13;refine Qf λ_ k14=>Qa [4,5,6,7] ?_;refine Qn h (λ_ h=>?_) (λ_ h=>?_)
 ·refine Qq <|k14 <|Qf λK10 k15=>Qj <|Qa [0,2,3,4] ?_;have⟨e4,h7,h⟩:=bs h;have J7:∀(p7:List QH) (y11:Value),p7=e4->To M w0 122 [(4,tv y11),(5,ti s3.1),(1,tptr (Qc.cs x_))] [own Q1 182 p7 y11] K10:=by
   intro p7 y11 he;subst he;refine k15 <|QL [2,3,4] ?_;exact QV k13 y11 ((sj h).symm) [0,1,2]
  refine Qj <|Qai h7 (λ(s4:Int)=>[(6,ti s4),(5,ti s3.1),(4,tv y10),(1,tptr (Qc.cs x_))]) (λ(s4:Int)=>[own Q1 182 s3.2 y10]) [0,1,2,3] ?_;clear h;intro s4 o K11 h ho k16;refine Qf λ_ k17=>Qa [2,3,4,5,6] ?_;refine Qn h (λ_ h=>?_) (λ_ h=>?_)
  ·refine Qq <|k17 <|Qf λ_ k18=>Qj ?_;have⟨_,_,_,_,h⟩:=bs2 h;refine Qa [12,14,15,16,17] ?_;refine Qn h (λ_ h=>?_) (λ_ h=>?_)
   ·have⟨t7,_,h⟩:=bs h;refine QJ [v1 2 (λv0=>own Q1 182 t7 v0)] [3] [2,3,6,7] λm6=>?_;refine QO <|QV J7 (m6 2) (ho _ (sj h).symm) [1,2,3]
   refine Qq <|k18 <|QL [2,4,5,6] ?_;exact Qu k16 ((sj h).symm) [0,1,2,3]
  refine QO <|QV J7 y10 (ho _ (sj h).symm) [3,2,4]
 refine QO <|QV J0 y10 (ho _ (sj h).symm) [2,3]
def QdR (x_:Qb):Option (Int):=(Qe1 x_).bind λt0=>(if (decide ((t0.length:Int)>0))=true then (idx t0 0).bind λt1=>(some t1.Code) else (some (0:Int)))
instance Qx8:Spc1 prog 39 QdR (λx_=>[Qc.ty x_]) ti:=.mk λ{x_ r} h=>by
 unfold QdR at h
 refine Fe func39 ntmps39 λM0 M w0 hpl=>?_
 refine Qa [0] ?_
 have⟨_,_,h⟩:=bs h
 refine Qa [2] ?_
 refine tIfs h [2,3] (λ_ h=>?_) (λ_ h=>?_)
 ·have⟨_,_,h⟩:=bs h
  refine Qa [4] ?_
  exact Qo h (·▸Ql hpl)
 refine Qa [0] ?_
 exact Qo h (·▸Ql hpl)
def QcV (x_:Qb):Option ((List Qv)×(List Str)×Int):=(Qe1 x_).bind λt0=>(if (decide ((t0.length:Int)>0))=true then (idx t0 0).bind λt1=>(some (([]:List Qv),([]:List Str),t1.Code)) else (Qm (λ(s0:Int×List Str×List Qv)=>((if (decide (s0.1<(x_.Xa.length:Int)))=true then (idx x_.Xa s0.1).bind λt2=>(rm (s0.2.2.length+[(Qv.mk s0.1 (-1) t2.Lo true),(Qv.mk s0.1 (-1) t2.Hi false)].length)).bind λ_=>(cat (t2.Xj.length+([32,108,101,97,115,116]:Str).length)).bind λ_=>(cat (t2.Xj.length+([32,109,111,115,116]:Str).length)).bind λ_=>(rm (s0.2.1.length+[(t2.Xj++([32,108,101,97,115,116]:Str)),(t2.Xj++([32,109,111,115,116]:Str))].length)).bind λ_=>(Qm (λ(s1:Int×List Qv×List Str)=>((if (decide (s1.1<(t2.Xb.length:Int)))=true then (idx t2.Xb s1.1).bind λt3=>((if (t3.Xi==1)=true then (QbY x_ t3.Of).bind λt4=>(rm (s1.2.1.length+[(Qv.mk s0.1 t4 t3.Lo true),(Qv.mk s0.1 t4 t3.Hi false)].length)).bind λ_=>(cat (t2.Xj.length+([46]:Str).length)).bind λ_=>(cat ((t2.Xj++([46]:Str)).length+t3.Xj.length)).bind λ_=>(cat (((t2.Xj++([46]:Str))++t3.Xj).length+([32,108,101,97,115,116]:Str).length)).bind λ_=>(cat (t2.Xj.length+([46]:Str).length)).bind λ_=>(cat ((t2.Xj++([46]:Str)).length+t3.Xj.length)).bind λ_=>(cat (((t2.Xj++([46]:Str))++t3.Xj).length+([32,109,111,115,116]:Str).length)).bind λ_=>(rm (s1.2.2.length+[(((t2.Xj++([46]:Str))++t3.Xj)++([32,108,101,97,115,116]:Str)),(((t2.Xj++([46]:Str))++t3.Xj)++([32,109,111,115,116]:Str))].length)).bind λ_=>(some ((s1.2.1++[(Qv.mk s0.1 t4 t3.Lo true),(Qv.mk s0.1 t4 t3.Hi false)]),(s1.2.2++[(((t2.Xj++([46]:Str))++t3.Xj)++([32,108,101,97,115,116]:Str)),(((t2.Xj++([46]:Str))++t3.Xj)++([32,109,111,115,116]:Str))]))) else (some (s1.2.1,s1.2.2)))).bind λp0=>(some (.inl ((i64.wrap (s1.1+1)),p0.1,p0.2))) else (some (.inr (s1.2.1,s1.2.2)))):Option ((Int×List Qv×List Str)⊕((List Qv×List Str))))) ((0:Int),(s0.2.2++[(Qv.mk s0.1 (-1) t2.Lo true),(Qv.mk s0.1 (-1) t2.Hi false)]),(s0.2.1++[(t2.Xj++([32,108,101,97,115,116]:Str)),(t2.Xj++([32,109,111,115,116]:Str))]))).bind λp1=>(some (.inl ((i64.wrap (s0.1+1)),p1.2,p1.1))) else (some (.inr (s0.2.1,s0.2.2)))):Option ((Int×List Str×List Qv)⊕((List Str×List Qv))))) ((0:Int),([]:List Str),([]:List Qv))).bind λp2=>(some (p2.2,p2.1,(0:Int))))
instance QfY:SpcS prog 40 (∀{x_:Qb} {r:(List Qv)×(List Str)×Int},QcV x_=some r->FnOk prog 40 [Qc.ty x_] [] (λv=>[own rS 9 r.2.1 v]) (λv=>ttup [tsl QD r.1,tv v,ti r.2.2])):=.mk λ{x_ r} h=>by
 unfold QcV at h
 refine Fe func40 ntmps40 λM0 M w0 hpl=>?_
 refine Qa [0] ?_
 have⟨_,_,h⟩:=bs h
 refine Qa [2,3] ?_
 refine tIfs h [2,3,4] (λ_ h=>?_) (λ_ h=>?_)
 ·have⟨_,_,h⟩:=bs h
  refine Qa [4,5,6] ?_
  refine QY (λ_ _ H=>H.nil (rS) 9) ?_
  exact Qo h (·▸Qcp (.slice none 0 0) [0] hpl)
 refine Qa [0,3] ?_
 refine QY (λ_ _ H=>H.nil (QD) 183) ?_
 refine Qa [0,1,2] ?_
 refine QY (λ_ _ H=>H.nil (rS) 9) ?_
 refine Qf λK0 k0=>?_
 refine Qa [0,1,2,3] ?_
 have⟨e0,h0,h⟩:=bs h
 have J0:∀(p0:List Str×List Qv) (y0:Value) (y1:Value),p0=e0->To M w0 105 [(7,tv y0),(6,tv y1)] [own rS 9 p0.1 y0,own QD 183 p0.2 y1] K0:=by
  intro p0 y0 y1 he;subst he;refine k0 <|Qa [0,1,2,3,4,5,6] ?_;refine Qam ?_;refine Qad (by intro _ _ H;exact ((H.Xk [1,0] rfl).Xn 2 rfl).pick [0,2,4,5,6]) ?_;obtain rfl:=sj h;exact Qcp y0 [0] hpl
 refine Qj <|Qi7 h0 (λ(s0:Int×List Str×List Qv) (y2:Value) (y3:Value)=>[(8,ti s0.1),(7,tv y2),(6,tv y3),(1,tptr (Qc.cs x_))]) (λ(s0:Int×List Str×List Qv) (y2:Value) (y3:Value)=>[own rS 9 s0.2.1 y2,own QD 183 s0.2.2 y3]) (.slice none 0 0) (.slice none 0 0) [0,1,2,3] ?_;clear h;intro s0 y2 y3 o K1 h ho k1;refine Qf λ_ k2=>Qa [4,5,6,7,8] ?_;refine Qn h (λ_ h=>?_) (λ_ h=>?_)
 ·refine Qq <|k2 <|Qf λK2 k3=>Qj ?_;have⟨t0,_,h⟩:=bs h;refine QJ [v1 5 (λv0=>box (Qg.cs zz1) v0),v1 5 (λv0=>box (Qg.cs t0) v0)] [6,7] [5,7,8,9,10] λm0=>?_;refine QY (λ_ _ H=>(((H.Xk [2,0,1] rfl).Xl 0 rfl).add 0 rfl (λ_ _ _ h=>h.2)).pick [0,3,4,5,6]) ?_;have⟨_,_,h⟩:=bs h;refine QJ [v1 10 (λv0=>own QD 183 (s0.2.2++[(Qv.mk s0.1 (-1:Int) t0.Lo true),(Qv.mk s0.1 (-1:Int) t0.Hi false)]) v0)] [11] [10,11,12,13,14,15] λm1=>?_;have⟨_,_,_,_,_,_,h⟩:=bs3 h;refine QJ [v1 8 (λv0=>own rS 9 (s0.2.1++[(t0.Xj++([32,108,101,97,115,116]:Str)),(t0.Xj++([32,109,111,115,116]:Str))]) v0)] [9] [8,9,10,11,12,13,14] λm2=>?_;refine Qa [0,1,2,3,4,5,6,7] ?_;have⟨e1,h1,h⟩:=bs h;have J1:∀(p1:List Qv×List Str) (y4:Value) (y5:Value),p1=e1->To M w0 105 [(7,tv y5),(6,tv y4),(8,ti s0.1),(1,tptr (Qc.cs x_))] [own QD 183 p1.1 y4,own rS 9 p1.2 y5] K2:=by
   intro p1 y4 y5 he;subst he;refine k3 <|QL [2,3,4,5] ?_;refine Qad (λ_ _ H=>(H.pick [0,1,2,3]).Xk [1,0] rfl) ?_;exact Qem k1 y5 y4 ((sj h).symm) [0,1,2,3]
  refine Qj <|Qi7 h1 (λ(s1:Int×List Qv×List Str) (y6:Value) (y7:Value)=>[(10,ti s1.1),(7,tv y7),(6,tv y6),(9,tptr (Qg.cs t0)),(8,ti s0.1),(1,tptr (Qc.cs x_))]) (λ(s1:Int×List Qv×List Str) (y6:Value) (y7:Value)=>[own QD 183 s1.2.1 y6,own rS 9 s1.2.2 y7]) (m1 10) (m2 8) [0,2,4,5,6,7] ?_;clear h;intro s1 y6 y7 o K3 h ho k4;refine Qf λ_ k5=>Qa [4,5,6,7,8,9,10] ?_;refine Qn h (λ_ h=>?_) (λ_ h=>?_)
  ·refine Qq <|k5 <|Qf λK4 k6=>Qj ?_;have⟨t1,_,h⟩:=bs h;refine QJ [v1 5 (λv0=>box (Qe.cs zz0) v0),v1 5 (λv0=>box (Qe.cs t1) v0)] [6,7] [5,7,8,9,10,11,12] λm3=>?_;refine QY (λ_ _ H=>(((H.Xk [2,0,1] rfl).Xl 0 rfl).add 0 rfl (λ_ _ _ h=>h.2)).pick [0,3,4,5,6,7,8]) ?_;refine Qa [2,3,4,5,6,7,8,9] ?_;have⟨p2,h2,h⟩:=bs h;have J2:∀(y8:Value) (y9:Value),To M w0 105 [(7,tv y9),(6,tv y8),(10,ti s1.1),(9,tptr (Qg.cs t0)),(8,ti s0.1),(1,tptr (Qc.cs x_))] [own QD 183 p2.1 y8,own rS 9 p2.2 y9] K4:=by
    intro y8 y9;refine k6 <|QL [2,3,4,5,6,7] ?_;exact Qem k4 y8 y9 ((sj h).symm) [0,1,2,3,4,5]
   replace h:=h2;clear h2;refine Qn h (λ_ h=>?_) (λ_ h=>?_)
   ·have⟨t2,_,h⟩:=bs h;refine Qa [4,6,7,8,9,10,11,12] ?_;have⟨_,_,h⟩:=bs h;refine QJ [v1 12 (λv0=>own QD 183 (s1.2.1++[(Qv.mk s0.1 t2 t1.Lo true),(Qv.mk s0.1 t2 t1.Hi false)]) v0)] [13] [12,13,15,16,17,18,19,20] λm4=>?_;have⟨_,_,_,_,_,_,_,_,h⟩:=bs4 h;have⟨_,_,_,_,_,_,h⟩:=bs3 h;refine Qal [v1 16 (λv0=>own rS 9 (s1.2.2++[(((t0.Xj++([46]:Str))++t1.Xj)++([32,108,101,97,115,116]:Str)),(((t0.Xj++([46]:Str))++t1.Xj)++([32,109,111,115,116]:Str))]) v0)] [17] [16,17,18,19,21,22,23,24] λm5=>?_;obtain rfl:=sj h;exact QK (J2 (m4 12) (m5 16)) [1,3,4,5,6,7]
   refine Qq ?_;obtain rfl:=sj h;exact QK (J2 y6 y7) [3,4,2,5,6,7]
  refine QO <|Qem J1 y6 y7 (ho _ (sj h).symm) [2,3,5,6]
 refine QO <|Qem J0 y2 y3 (ho _ (sj h).symm) [2,3]
def Qd7 (x_:Qb):Option ((List QM)):=(Qm (λ(s0:Int×List QM)=>((if (decide (s0.1<(x_.Xa.length:Int)))=true then (idx x_.Xa s0.1).bind λt0=>(Qm (λ(s1:Int×List QM)=>((if (decide (s1.1<(t0.Xb.length:Int)))=true then ((idx t0.Xb s1.1).bind λt1=>(if ((t1.Xi !=2)&&(t1.Xi !=4))=true then (some s1.2) else ((if ((t1.Xi==4)&&(t1.Of !=([]:Str)))=true then (Qbg t0 t1.Of).bind λt2=>(some t2) else (some (-1:Int)))).bind λp0=>(cat (t0.Xj.length+([46]:Str).length)).bind λ_=>(cat ((t0.Xj++([46]:Str)).length+t1.Xj.length)).bind λ_=>(cat (((t0.Xj++([46]:Str))++t1.Xj).length+([32,108,111,119]:Str).length)).bind λ_=>(rm (s1.2.length+[(QM.mk s0.1 (((t0.Xj++([46]:Str))++t1.Xj)++([32,108,111,119]:Str)) (QG.mk p0 s1.1 (i64.wrap (0 - t1.Lo))))].length)).bind λ_=>(cat (((t0.Xj++([46]:Str))++t1.Xj).length+([32,104,105,103,104]:Str).length)).bind λ_=>(rm ((s1.2++[(QM.mk s0.1 (((t0.Xj++([46]:Str))++t1.Xj)++([32,108,111,119]:Str)) (QG.mk p0 s1.1 (i64.wrap (0 - t1.Lo))))]).length+[(QM.mk s0.1 (((t0.Xj++([46]:Str))++t1.Xj)++([32,104,105,103,104]:Str)) (QG.mk s1.1 p0 t1.Hi))].length)).bind λ_=>(some ((s1.2++[(QM.mk s0.1 (((t0.Xj++([46]:Str))++t1.Xj)++([32,108,111,119]:Str)) (QG.mk p0 s1.1 (i64.wrap (0 - t1.Lo))))])++[(QM.mk s0.1 (((t0.Xj++([46]:Str))++t1.Xj)++([32,104,105,103,104]:Str)) (QG.mk s1.1 p0 t1.Hi))])))).bind λp1=>(some (.inl ((i64.wrap (s1.1+1)),p1))) else (some (.inr s1.2))):Option ((Int×List QM)⊕((List QM))))) ((0:Int),s0.2)).bind λp2=>(some (.inl ((i64.wrap (s0.1+1)),p2))) else (some (.inr s0.2))):Option ((Int×List QM)⊕((List QM))))) ((0:Int),([]:List QM))).bind λp3=>(Qm (λ(s2:Int×List QM)=>((if (decide (s2.1<(x_.Xc.length:Int)))=true then (idx x_.Xc s2.1).bind λt3=>(QbY x_ t3.Xi).bind λt4=>(idx x_.Xa t4).bind λt5=>(Qbg t5 t3.A).bind λt6=>(idx x_.Xa t4).bind λt7=>(Qbg t7 t3.B).bind λt8=>(cat (([114,117,108,101,58]:Str).length+t3.Xj.length)).bind λ_=>(rm (s2.2.length+[(QM.mk t4 (([114,117,108,101,58]:Str)++t3.Xj) (QG.mk t6 t8 t3.N))].length)).bind λ_=>(some (.inl ((i64.wrap (s2.1+1)),(s2.2++[(QM.mk t4 (([114,117,108,101,58]:Str)++t3.Xj) (QG.mk t6 t8 t3.N))])))) else (some (.inr s2.2))):Option ((Int×List QM)⊕((List QM))))) ((0:Int),p3)).bind λp4=>(some p4)
instance QBy:Spc1 prog 26 Qd7 (λx_=>[Qc.ty x_]) (tsl QT):=.mk λ{x_ r} h=>by
 unfold Qd7 at h
 refine Fe func26 ntmps26 λM0 M w0 hpl=>?_
 refine Qa [0] ?_
 refine Qa [0,1] ?_
 refine QY (λ_ _ H=>H.nil (QT) 66) ?_
 refine Qf λK0 k0=>?_
 refine Qa [0,1,2] ?_
 have⟨e0,h0,h⟩:=bs h
 have J0:∀(p0:List QM) (y0:Value),p0=e0->To M w0 134 [(3,tv y0),(1,tptr (Qc.cs x_))] [own QT 66 p0 y0] K0:=by
  intro p0 y0 he;subst he;refine k0 <|Qf λK1 k1=>Qa [0,1,2] ?_;have⟨e1,h1,h⟩:=bs h;have J1:∀(p1:List QM) (y1:Value),p1=e1->To M w0 134 [(3,tv y1)] [own QT 66 p1 y1] K1:=by
   intro p1 y1 he;subst he;refine k1 <|Qa [0,1,2] ?_;refine Qam ?_;refine Qad (by intro _ _ H;exact (H.Xn 1 rfl).pick [0]) ?_;obtain rfl:=sj h;exact Ql hpl
  refine Qj <|QaC h1 (λ(s0:Int×List QM) (y2:Value)=>[(10,ti s0.1),(3,tv y2),(1,tptr (Qc.cs x_))]) (λ(s0:Int×List QM) (y2:Value)=>[own QT 66 s0.2 y2]) y0 [0,1,2] ?_;clear h;intro s0 y2 o K2 h ho k2;refine Qf λ_ k3=>Qa [4,5,6,7] ?_;refine Qn h (λ_ h=>?_) (λ_ h=>?_)
  ·refine Qq <|k3 <|Qf λ_ k4=>Qj ?_;have⟨t0,_,h⟩:=bs h;refine QJ [v1 5 (λv0=>box (Qt.cs zz3) v0),v1 5 (λv0=>box (Qt.cs t0) v0)] [6,7] [5,7,8,9] λm0=>?_;refine QY (λ_ _ H=>(((H.Xk [1,0] rfl).Xl 0 rfl).add 0 rfl (λ_ _ _ h=>h.2)).pick [0,3,4,5]) ?_;have⟨t1,_,h⟩:=bs h;refine Qa [4,5,6,7,8] ?_;have⟨_,h2,t2,_,h⟩:=bs2 h;replace h:=bk h2 h;have⟨t3,_,h⟩:=bs h;refine QJ [v1 19 (λv0=>box (Qae.cs (QG.mk (0:Int) (0:Int) (0:Int))) v0),v1 19 (λv0=>box (Qae.cs (QG.mk t2 t3 t0.N)) v0)] [20,21] [19,20,21,22,23,24] λm1=>?_;refine QY (λ_ _ H=>(((H.Xk [1,0] rfl).Xl 0 rfl).add 0 rfl (λ_ _ _ h=>h.2)).pick [0,3,4,5,6,7]) ?_;have⟨_,h3,_,h4,h⟩:=bs2 h;intro a w H;refine wr mx [v1 8 (λv0=>own QT 66 (s0.2++[(QM.mk t1 (([114,117,108,101,58]:Str)++t0.Xj) (QG.mk t2 t3 t0.N))]) v0)] H (λ_=>.q 4 rfl<|.q 2 rfl<|.o (Q6 QkB z4)<|.o (Q5 (u:=t0.Xj) tok9 z0 rfl)<|.o (Qec .k z0 h3)<|.o (Qaa QnJ z5)<|.p (T:=QT.ty (QM.mk t1 (([114,117,108,101,58]:Str)++t0.Xj) (QG.mk t2 t3 t0.N))) rfl (QaN underlying66 pl66 zv66 zc66 (.cons (R:=rI) (u:=t1) rfl z4 (leb rfl)<|.cons (R:=rS) (u:=(([114,117,108,101,58]:Str)++t0.Xj)) rfl z1 (leb rfl)<|.cons (R:=Qae) (u:=(QG.mk t2 t3 t0.N)) rfl z0 (leb rfl)<|.nil _))<|.o (Qaq (R:=QT) (us:=[(QM.mk t1 (([114,117,108,101,58]:Str)++t0.Xj) (QG.mk t2 t3 t0.N))]) ud60 Qjs (.cons z0<|.nil _) rfl (leb rfl))<|.e [] [0] [1] rfl rfl rfl rfl (QaV (R:=QT) ud60 Qjs (leb rfl) z7 z0 h4)<|.ud (f:=λv=>tv v) 8 rfl [] rfl rfl (Qr z0)<|.n) λm2 a w H=>?_;have H:=H.t4_1 [8,9,13,14];refine Qbl H ?_;refine k4 <|QL [2,3,4,5] ?_;exact QV k2 (m2 8) ((sj h).symm) [0,2,3]
  refine QO <|QV J1 y2 (ho _ (sj h).symm) [2]
 refine Qj <|QaC h0 (λ(s1:Int×List QM) (y3:Value)=>[(4,ti s1.1),(3,tv y3),(1,tptr (Qc.cs x_))]) (λ(s1:Int×List QM) (y3:Value)=>[own QT 66 s1.2 y3]) (.slice none 0 0) [0,1,2] ?_;clear h;intro s1 y3 o K3 h ho k5;refine Qf λ_ k6=>Qa [4,5,6,7] ?_;refine Qn h (λ_ h=>?_) (λ_ h=>?_)
 ·refine Qq <|k6 <|Qf λK4 k7=>Qj ?_;have⟨t4,_,h⟩:=bs h;refine QJ [v1 5 (λv0=>box (Qg.cs zz1) v0),v1 5 (λv0=>box (Qg.cs t4) v0)] [6,7] [5,7,8,9] λm3=>?_;refine QY (λ_ _ H=>(((H.Xk [1,0] rfl).Xl 0 rfl).add 0 rfl (λ_ _ _ h=>h.2)).pick [0,3,4,5]) ?_;refine Qa [0,1,2,3,4] ?_;have⟨e2,h5,h⟩:=bs h;have J2:∀(p2:List QM) (y4:Value),p2=e2->To M w0 134 [(4,ti s1.1),(3,tv y4),(1,tptr (Qc.cs x_))] [own QT 66 p2 y4] K4:=by
   intro p2 y4 he;subst he;refine k7 <|QL [2,3,4] ?_;exact QV k5 y4 ((sj h).symm) [0,1,2]
  refine Qj <|QaC h5 (λ(s2:Int×List QM) (y5:Value)=>[(6,ti s2.1),(5,tptr (Qg.cs t4)),(4,ti s1.1),(3,tv y5),(1,tptr (Qc.cs x_))]) (λ(s2:Int×List QM) (y5:Value)=>[own QT 66 s2.2 y5]) y3 [0,1,2,3,4] ?_;clear h;intro s2 y5 o K5 h ho k8;refine Qf λ_ k9=>Qa [4,5,6,7,8,9] ?_;refine Qn h (λ_ h=>?_) (λ_ h=>?_)
  ·refine Qq <|k9 <|Qf λK6 k10=>?_;have⟨p3,h6,h⟩:=bs h;have J3:∀(y6:Value),To M w0 134 [(6,ti s2.1),(5,tptr (Qg.cs t4)),(4,ti s1.1),(3,tv y6),(1,tptr (Qc.cs x_))] [own QT 66 p3 y6] K6:=by
    intro y6;refine k10 <|QL [2,3,4,5,6] ?_;exact QV k8 y6 ((sj h).symm) [0,1,2,3,4]
   replace h:=h6;clear h6;refine Qj ?_;have⟨t5,_,h⟩:=bs h;refine QJ [v1 5 (λv0=>box (Qe.cs zz0) v0),v1 5 (λv0=>box (Qe.cs t5) v0)] [6,7] [5,7,8,9,10,11] λm4=>?_;refine QY (λ_ _ H=>(((H.Xk [1,0] rfl).Xl 0 rfl).add 0 rfl (λ_ _ _ h=>h.2)).pick [0,3,4,5,6,7]) ?_;refine tIfs h [7,8,9,10,11,12,13] (λ_ h=>?_) (λ_ h=>?_)
   ·refine QO ?_;obtain rfl:=sj h;exact QK (J3 y5) [2,3,4,5,6]
   refine Qa [0,2,3,4,5,6,7] ?_;refine Qf λK7 k11=>Qa [7,8,9,10,11,12,13,14] ?_;have⟨p4,h7,h⟩:=bs h;have J4:To M w0 134 [(8,ti p4),(7,tptr (Qe.cs t5)),(6,ti s2.1),(5,tptr (Qg.cs t4)),(4,ti s1.1),(3,tv y5),(1,tptr (Qc.cs x_))] [own QT 66 s2.2 y5] K7:=by
    refine k11 ?_;have⟨_,_,_,_,h⟩:=bs2 h;refine Qa [6,7,8,9,10,11,12,13] ?_;have⟨_,h8,_,h9,h⟩:=bs2 h;intro a w H;refine sr mx [v1 12 (λv0=>own QT 66 (s2.2++[(QM.mk s1.1 (((t4.Xj++([46]:Str))++t5.Xj)++([32,108,111,119]:Str)) (QG.mk p4 s2.1 (i64.wrap (0 - t5.Lo))))]) v0)] H (λ_=>.q 6 rfl<|.q 6 rfl<|.q 2 rfl<|.o (Qec z0 .k h8)<|.q 5 rfl<|.q 8 rfl<|.o (Q6 Qmh z8)<|.o (Q5 (u:=t5.Lo) tok3 z0 rfl)<|.o (Qnp z0)<|.p (T:=Qae.ty (QG.mk p4 s2.1 (i64.wrap (0 - t5.Lo)))) rfl (QaN underlying64 pl64 zv64 zc64 (.cons (R:=rI) (u:=p4) rfl z4 (leb rfl)<|.cons (R:=rI) (u:=s2.1) rfl z3 (leb rfl)<|.cons (R:=rI) (u:=(i64.wrap (0 - t5.Lo))) rfl z0 (leb rfl)<|.nil _))<|.p (T:=QT.ty (QM.mk s1.1 (((t4.Xj++([46]:Str))++t5.Xj)++([32,108,111,119]:Str)) (QG.mk p4 s2.1 (i64.wrap (0 - t5.Lo))))) rfl (QaN underlying66 pl66 zv66 zc66 (.cons (R:=rI) (u:=s1.1) rfl z8 (leb rfl)<|.cons (R:=rS) (u:=(((t4.Xj++([46]:Str))++t5.Xj)++([32,108,111,119]:Str))) rfl z6 (leb rfl)<|.cons (R:=Qae) (u:=(QG.mk p4 s2.1 (i64.wrap (0 - t5.Lo)))) rfl z0 (leb rfl)<|.nil _))<|.o (Qaq (R:=QT) (us:=[(QM.mk s1.1 (((t4.Xj++([46]:Str))++t5.Xj)++([32,108,111,119]:Str)) (QG.mk p4 s2.1 (i64.wrap (0 - t5.Lo))))]) ud60 Qjs (.cons z0<|.nil _) rfl (leb rfl))<|.e [] [0] [1] rfl rfl rfl rfl (QaV (R:=QT) ud60 Qjs (leb rfl) z11 z0 h9)<|.ud (f:=λv=>tv v) 12 rfl [] rfl rfl (Qr z0)<|.n) λ_ a w H=>?_;have H:=H.to [12,13,14,15,16,17,18,19,20] [_,_,_,_,_,_,_,_,_] [_] rfl rfl;refine Q2 H ?_;have⟨_,h10,_,h11,h⟩:=bs2 h;intro a w H;refine wr mx [v1 11 (λv0=>own QT 66 ((s2.2++[(QM.mk s1.1 (((t4.Xj++([46]:Str))++t5.Xj)++([32,108,111,119]:Str)) (QG.mk p4 s2.1 (i64.wrap (0 - t5.Lo))))])++[(QM.mk s1.1 (((t4.Xj++([46]:Str))++t5.Xj)++([32,104,105,103,104]:Str)) (QG.mk s2.1 p4 t5.Hi))]) v0)] H (λ_=>.q 1 rfl<|.q 8 rfl<|.q 4 rfl<|.o (Qec z0 .k h10)<|.q 9 rfl<|.q 8 rfl<|.o (Q6 Qmi z10)<|.o (Q5 (u:=t5.Hi) tok3 z0 rfl)<|.p (T:=Qae.ty (QG.mk s2.1 p4 t5.Hi)) rfl (QaN underlying64 pl64 zv64 zc64 (.cons (R:=rI) (u:=s2.1) rfl z3 (leb rfl)<|.cons (R:=rI) (u:=p4) rfl z2 (leb rfl)<|.cons (R:=rI) (u:=t5.Hi) rfl z0 (leb rfl)<|.nil _))<|.p (T:=QT.ty (QM.mk s1.1 (((t4.Xj++([46]:Str))++t5.Xj)++([32,104,105,103,104]:Str)) (QG.mk s2.1 p4 t5.Hi))) rfl (QaN underlying66 pl66 zv66 zc66 (.cons (R:=rI) (u:=s1.1) rfl z7 (leb rfl)<|.cons (R:=rS) (u:=(((t4.Xj++([46]:Str))++t5.Xj)++([32,104,105,103,104]:Str))) rfl z5 (leb rfl)<|.cons (R:=Qae) (u:=(QG.mk s2.1 p4 t5.Hi)) rfl z0 (leb rfl)<|.nil _))<|.o (Qaq (R:=QT) (us:=[(QM.mk s1.1 (((t4.Xj++([46]:Str))++t5.Xj)++([32,104,105,103,104]:Str)) (QG.mk s2.1 p4 t5.Hi))]) ud60 Qjs (.cons z0<|.nil _) rfl (leb rfl))<|.e [] [0] [1] rfl rfl rfl rfl (QaV (R:=QT) ud60 Qjs (leb rfl) z10 z0 h11)<|.ud (f:=λv=>tv v) 11 rfl [] rfl rfl (Qr z0)<|.n) λm5 a w H=>?_;have H:=H.to [11,12,17,18,19,20] [_,_,_,_,_,_] [_] rfl rfl;refine Qbl H ?_;obtain rfl:=sj h;exact QK (J3 (m5 11)) [2,3,4,1,5]
   replace h:=h7;clear h7;refine Qn h (λ_ h=>?_) (λ_ h=>?_)
   ·have⟨_,_,h⟩:=bs h;refine QL [4,6,7,8,9,10,11] ?_;obtain rfl:=sj h;exact QK J4 [0,1,2,3,4,5,6]
   refine Qq ?_;obtain rfl:=sj h;exact QK J4 [1,2,3,4,5,6,7]
  refine QO <|QV J2 y5 (ho _ (sj h).symm) [3,4,5]
 refine QO <|QV J0 y3 (ho _ (sj h).symm) [2,3]
def Qgi (n_:Int) (l_:(List QG)):Option (Int):=(if ((decide (n_>10))||(decide ((l_.length:Int)>64)))=true then (some (4:Int)) else (if (decide (n_<0))=true then (some (1:Int)) else (Qm (λ(s0:Int)=>((if (decide (s0<(l_.length:Int)))=true then (idx l_ s0).bind λt0=>(if (((((((decide (t0.A<(-1:Int)))||(decide (t0.A>=n_)))||(decide (t0.B<(-1:Int))))||(decide (t0.B>=n_)))||(t0.A==t0.B))||(decide (t0.N<(-2097152:Int))))||(decide (t0.N>2097152)))=true then (some (.inr (.inr (1:Int)))) else (some (.inl (i64.wrap (s0+1))))) else (some (.inr (.inl ())))):Option ((Int)⊕((Unit)⊕(Int))))) (0:Int)).bind λe0=>(match e0 with | .inl _=>(some (0:Int)) | .inr p0=>(some p0))))
instance QBz:Spc2 prog 151 Qgi (λn_ l_=>[ti n_,tsl Qae l_]) ti:=.mk λ{n_ l_ r} h=>by
 unfold Qgi at h
 refine Fe func151 ntmps151 λM0 M w0 hpl=>?_
 refine Qa [1,2] ?_
 refine tIfs h [6,7,8] (λ_ h=>?_) (λ_ h=>?_)
 ·refine Qa [0] ?_
  exact Qo h (·▸Ql hpl)
 refine tIfs h [1,3,4] (λ_ h=>?_) (λ_ h=>?_)
 ·refine Qa [0] ?_
  exact Qo h (·▸Ql hpl)
 refine Qf λK0 k0=>?_
 refine Qa [0,2,3] ?_
 have⟨e0,h0,h⟩:=bs h
 have J0:∀(p0:Unit),(.inl p0)=e0->To M w0 63 [] [] K0:=by
  intro p0 he;subst he;simp only at h;refine k0 <|Qa [0] ?_;exact Qo h (·▸Ql hpl)
 have J1:∀(p1:Int),(.inr p1)=e0->To M w0 63 [(4,ti p1)] [] (Ret prog f151 M0 [] w0 (λ_=>[]) (λ_=>ti r) .ret):=by
  intro p1 he;subst he;simp only at h;obtain rfl:=sj h;exact Ql hpl
 refine Qj <|Qai h0 (λ(s0:Int)=>[(5,ti s0),(0,ti n_),(1,tsl Qae l_)]) (λ(s0:Int)=>[]) [0,1,2] ?_;clear h;intro s0 o K1 h ho k1;refine Qf λ_ k2=>Qa [3,4,5,6] ?_;refine Qn h (λ_ h=>?_) (λ_ h=>?_)
 ·refine Qq <|k2 <|Qf λ_ k3=>Qj ?_;have⟨t0,_,h⟩:=bs h;refine QJ [v1 4 (λv0=>box (Qae.cs (QG.mk (0:Int) (0:Int) (0:Int))) v0),v1 4 (λv0=>box (Qae.cs t0) v0)] [5,6] [4,6,7,8] λm0=>?_;refine QY (λ_ _ H=>((H.Xl 0 rfl).add 0 rfl (λ_ _ _ h=>h.2)).pick [0,3,4,5]) ?_;refine Qa [36,38,39,40] ?_;refine Qn h (λ_ h=>?_) (λ_ h=>?_)
  ·refine Qa [0] ?_;refine Qam ?_;exact Qu J1 (ho _ (sj h).symm) [0]
  refine Qq <|k3 <|QL [2,4,5] ?_;exact Qu k1 ((sj h).symm) [0,1,2]
 refine QO <|Qu J0 (ho _ (sj h).symm) []
def QaS (n_:Int) (a_:Int):Option (Int):=(if (decide (a_<0))=true then (some n_) else (some a_))
instance QCu:Spc2 prog 153 QaS (λn_ a_=>[ti n_,ti a_]) ti:=.mk λ{n_ a_ r} h=>by
 unfold QaS at h
 refine Fe func153 ntmps153 λM0 M w0 hpl=>?_
 refine Qa [1,2] ?_
 refine tIfs h [1,2,3] (λ_ h=>?_) (λ_ h=>?_)
 ·refine Qa [1] ?_
  exact Qo h (·▸Ql hpl)
 refine Qa [1] ?_
 exact Qo h (·▸Ql hpl)
def QfP (n_:Int) (l_:(List QG)) (from_:Int) (to_:Int) (most_:Int):Option ((List (List Int))):=(mk (i64.wrap (most_+1)) ([]:(List Int))).bind λt0=>(Qm (λ(s0:Int×List (List Int))=>((if (decide (s0.1<=most_))=true then ((mk (i64.wrap (n_+1)) (0:Int)).bind λt1=>(setAt s0.2 s0.1 t1).bind λw30s=>(Qm (λ(s1:Int×List (List Int))=>((if (decide (s1.1<=n_))=true then (idx s1.2 s0.1).bind λr2=>(setAt r2 s1.1 (1099511627776:Int)).bind λt2=>(setAt s1.2 s0.1 t2).bind λm559=>(some (.inl ((i64.wrap (s1.1+1)),m559))) else (some (.inr s1.2))):Option ((Int×List (List Int))⊕((List (List Int)))))) ((0:Int),w30s)).bind λp0=>(if (s0.1==0)=true then (idx p0 0).bind λr3=>(setAt r3 to_ (0:Int)).bind λt3=>(setAt p0 (0:Int) t3).bind λm496=>(some m496) else (Qm (λ(s2:Int×List (List Int))=>((if (decide (s2.1<(l_.length:Int)))=true then (idx l_ s2.1).bind λt4=>(QaS n_ t4.A).bind λt5=>(idx l_ s2.1).bind λt6=>(QaS n_ t6.B).bind λt7=>(idx s2.2 (i64.wrap (s0.1 - 1))).bind λr4=>(idx r4 t7).bind λt8=>((if (decide (t8<1099511627776))=true then (idx s2.2 s0.1).bind λr5=>(idx r5 t5).bind λt9=>(idx l_ s2.1).bind λt10=>(idx s2.2 (i64.wrap (s0.1 - 1))).bind λr6=>(idx r6 t7).bind λt11=>(setAt r5 t5 (imin t9 (i64.wrap (t10.N+t11)))).bind λt12=>(setAt s2.2 s0.1 t12).bind λm550=>(some m550) else (some s2.2))).bind λp1=>(some (.inl ((i64.wrap (s2.1+1)),p1))) else (some (.inr s2.2))):Option ((Int×List (List Int))⊕((List (List Int)))))) ((i64.wrap (from_+1)),p0)).bind λp2=>(some p2))).bind λp3=>(some (.inl ((i64.wrap (s0.1+1)),p3))) else (some (.inr s0.2))):Option ((Int×List (List Int))⊕((List (List Int)))))) ((0:Int),t0)).bind λp4=>(some p4)
instance QCo:Spc5 prog 152 QfP (λn_ l_ from_ to_ most_=>[ti n_,tsl Qae l_,ti from_,ti to_,ti most_]) (tsl (rSl rI)):=.mk λ{n_ l_ from_ to_ most_ r} h=>by
 unfold QfP at h
 refine Fe func152 ntmps152 λM0 M w0 hpl=>?_
 refine Qa [1,2,3,4,5] ?_
 have⟨t0,h0,h⟩:=bs h
 intro a w H
 refine sr mx [v1 2 (λv0=>own rVal 22 (replicate ((i64.wrap (most_+1))).toNat nilV) v0)] H (λ_=>.q 4 rfl<|.o (QaH z0 .k)<|.m [] [0] rfl rfl rfl (Qxb (α:=Int) ud68 Qaz (leb rfl) z0 z0 h0)<|.ud (f:=λv=>tv v) 2 rfl [] rfl rfl (Qr z0)<|.n) λm0 a w H=>?_
 replace H:St _ _ _ [_,_,_,_,_,_,_] [_,_] _ _:=(H.pick [2,3,4,5,6,7,8]).rowsM (rI) 3 h0
 refine Q2 H ?_
 refine Qf λK0 k0=>?_
 refine Qa [0,1,2,3,4,5,6,7] ?_
 have⟨e0,h1,h⟩:=bs h
 have J0:∀(p0:List (List Int)) (us376:List Value) (y0:Value),p0=e0->To M w0 109 [(11,tv y0)] [rows rI 3 p0 us376,own rVal 22 us376 y0] K0:=by
  intro p0 us376 y0 he;subst he;refine k0 <|Qa [0,1,2] ?_;refine Qam ?_;refine Qad (λ_ _ H=>((H.Xk [1,0] rfl).shareT 1 rfl).pick [0]) ?_;obtain rfl:=sj h;exact Ql hpl
 refine Qj <|Qi7 h1 (λ(s0:Int×List (List Int)) (us191:List Value) (y1:Value)=>[(12,ti s0.1),(11,tv y1),(0,ti n_),(1,tsl Qae l_),(2,ti from_),(3,ti to_),(4,ti most_)]) (λ(s0:Int×List (List Int)) (us191:List Value) (y1:Value)=>[rows rI 3 s0.2 us191,own rVal 22 us191 y1]) (replicate ((i64.wrap (most_+1))).toNat nilV) (m0 2) [0,2,3,4,5,6,7] ?_;clear h;intro s0 us191 y1 o K1 h ho k1;refine Qf λ_ k2=>Qa [2,3,4,5,6,7,8,9] ?_;refine Qn h (λ_ h=>?_) (λ_ h=>?_)
 ·refine Qq <|k2 <|Qf λK2 k3=>?_;have⟨p1,h2,h⟩:=bs h;have J1:∀(us472:List Value),To M w0 109 [(12,ti s0.1),(11,tv y1),(0,ti n_),(1,tsl Qae l_),(2,ti from_),(3,ti to_),(4,ti most_)] [own rVal 22 us472 y1,rows rI 3 p1 us472] K2:=by
   intro us472;refine k3 <|QL [2,3,4,5,6,7,8] ?_;refine Qad (λ_ _ H=>(H.pick [0,1,2,3,4,5,6]).Xk [1,0] rfl) ?_;exact Qem k1 us472 y1 ((sj h).symm) [0,1,2,3,4,5,6]
  replace h:=h2;clear h2;refine Qj <|Qf λ_ k4=>?_;have⟨t1,h3,w30s,hw30s,h⟩:=bs2 h;intro a w H;refine wr mx [v1 4 (λv0=>own rI 3 t1 v0),v1 4 (λv0=>own rVal 22 (us191.set (s0.1).toNat v0) y1)] H (λ_=>.q 2 rfl<|.q 2 rfl<|.q 5 rfl<|.o (QaH z0 .k)<|.m [] [2] rfl rfl rfl (Qg4 (R:=rI) ud22 tok3 zok3 (leb rfl) z0 z0 h3)<|.u [1,0] rfl rfl (Qto ud68 Qaz z4 z3 hw30s)<|.e [0,2] [1] [3] rfl rfl rfl rfl (Qzk (e1:=22) (e2:=3) Qaz z0 z1 hw30s)<|.n) λm1 a w H=>?_;replace H:St _ _ _ [_,_,_,_,_,_,_,_,_] [_,_] _ _:=((H.pick [0,4,7,8,9,10,11,12,13]).Xk [1,0,2] rfl).put (s0.1) hw30s;refine Qbl H ?_;refine k4 <|Qf λK3 k5=>Qa [0,1,3,4,5,6,7,8,9] ?_;have⟨e3,h4,h⟩:=bs h;have J2:∀(p2:List (List Int)),p2=e3->To M w0 109 [(12,ti s0.1),(11,tv y1),(0,ti n_),(1,tsl Qae l_),(2,ti from_),(3,ti to_),(4,ti most_)] [rows rI 3 p2 (us191.set (s0.1).toNat (m1 4)),own rVal 22 (us191.set (s0.1).toNat (m1 4)) y1] K3:=by
   intro p2 he;subst he;refine k5 <|tIfs h [1,2,3,4,5,6,7,8] (λ_ h=>?_) (λ_ h=>?_)
   ·refine Qf λ_ k6=>?_;have⟨r2,h5,_,h6,m496,hm496,h⟩:=bs3 h;intro a w H;refine wr mx [v0 (rows rI 3 m496 (us191.set (s0.1).toNat (m1 4)))] H (λ_=>.q 2 rfl<|.u [1,0] rfl rfl (Qeh ud68 Qaz z0 .k h5)<|.u [1,0] rfl rfl (Qe8 Qaz z0 h5)<|.q 9 rfl<|.u [0] rfl rfl (Qiv ud22 tok3 z1 z0 h5 h6)<|.e [] [0] [2] rfl rfl rfl rfl (Qjp tok3 z0 .k h5 h6 hm496)<|.n) λ_ a w H=>?_;have H:=H.to [0,6,7,8,9,10,11,12] [_,_,_,_,_,_,_,_] [_,_] rfl rfl;refine Qbl H ?_;refine k6 <|QO ?_;obtain rfl:=sj h;exact QK (J1 (us191.set (s0.1).toNat (m1 4))) [1,2,3,4,5,6,7]
   refine Qa [2,4,5,6,7,8,9,10] ?_;have⟨e4,h7,h⟩:=bs h;have J3:∀(p3:List (List Int)),p3=e4->To M w0 109 [(12,ti s0.1),(11,tv y1),(0,ti n_),(1,tsl Qae l_),(2,ti from_),(3,ti to_),(4,ti most_)] [rows rI 3 p3 (us191.set (s0.1).toNat (m1 4)),own rVal 22 (us191.set (s0.1).toNat (m1 4)) y1] K2:=by
    intro p3 he;subst he;obtain rfl:=sj h;refine Qad (λ_ _ H=>(H.pick [0,1,2,3,4,5,6]).Xk [1,0] rfl) ?_;exact QK (J1 (us191.set (s0.1).toNat (m1 4))) [0,1,2,3,4,5,6]
   refine Qj <|Qai h7 (λ(s1:Int×List (List Int))=>[(14,ti s1.1),(12,ti s0.1),(11,tv y1),(0,ti n_),(1,tsl Qae l_),(2,ti from_),(3,ti to_),(4,ti most_)]) (λ(s1:Int×List (List Int))=>[rows rI 3 s1.2 (us191.set (s0.1).toNat (m1 4)),own rVal 22 (us191.set (s0.1).toNat (m1 4)) y1]) [0,1,2,3,4,5,6,7] ?_;clear h;intro s1 o K4 h ho k7;refine Qf λ_ k8=>Qa [3,4,5,6,7,8,9,10,11] ?_;refine Qn h (λ_ h=>?_) (λ_ h=>?_)
   ·refine Qq <|k8 <|Qf λK5 k9=>Qj ?_;have⟨_,_,t2,_,h⟩:=bs2 h;refine Qa [7,9,10,11,12,13,14,15,16] ?_;have⟨_,_,t3,_,h⟩:=bs2 h;refine Qa [7,8,9,10,11,12,13,14,15,16] ?_;refine Qf λ_ k10=>?_;have⟨r3,h8,t4,h9,h⟩:=bs2 h;intro a w H;refine wr mx [] H (λ_=>.q 4 rfl<|.q 4 rfl<|.o (QjS z0 .k)<|.u [1,0] rfl rfl (Qeh ud68 Qaz z2 z0 h8)<|.u [1,0] rfl rfl (Qe8 Qaz z0 h8)<|.q 5 rfl<|.u [0] rfl rfl (Qiu ud22 tok3 z1 z0 h8 h9)<|.u [0] rfl rfl (Qkm tok3 z0 h8 h9)<|.o (Qck z0 .k)<|.n) λ_ a w H=>?_;have H:=H.to [0,8,9,10,11,12,13,14,15,16,17,18] [_,_,_,_,_,_,_,_,_,_,_,_] [_,_] rfl rfl;refine Qbl H ?_;refine k10 ?_;have⟨p4,h10,h⟩:=bs h;have J4:To M w0 109 [(14,ti s1.1),(12,ti s0.1),(11,tv y1),(0,ti n_),(1,tsl Qae l_),(2,ti from_),(3,ti to_),(4,ti most_)] [own rVal 22 (us191.set (s0.1).toNat (m1 4)) y1,rows rI 3 p4 (us191.set (s0.1).toNat (m1 4))] K5:=by
     refine k9 <|QL [2,3,4,5,6,7,8,9] ?_;refine Qad (λ_ _ H=>(H.pick [0,1,2,3,4,5,6,7]).Xk [1,0] rfl) ?_;exact Qu k7 ((sj h).symm) [0,1,2,3,4,5,6,7]
    replace h:=h10;clear h10;refine Qel 1 (λb0=>?_) (λb0=>?_)
    ·replace h:=QcI b0 h;have⟨r4,h11,_,h12,t5,h13,r5,h14,h⟩:=bs4 h;have⟨_,h15,_,h16,m550,hm550,h⟩:=bs3 h;intro a w H;refine wr mx [v0 (rows rI 3 m550 (us191.set (s0.1).toNat (m1 4)))] H (λ_=>.q 6 rfl<|.q 6 rfl<|.u [1,0] rfl rfl (Qeh ud68 Qaz z1 z0 h11)<|.u [1,0] rfl rfl (Qe8 Qaz z0 h11)<|.q 7 rfl<|.q 11 rfl<|.q 11 rfl<|.u [1,0] rfl rfl (Qeh ud68 Qaz z1 z0 h11)<|.u [1,0] rfl rfl (Qe8 Qaz z0 h11)<|.q 12 rfl<|.u [0] rfl rfl (Qiu ud22 tok3 z1 z0 h11 h12)<|.u [0] rfl rfl (Qkm tok3 z0 h11 h12)<|.q 20 rfl<|.q 17 rfl<|.o (Qc0 underlying184 QnJ z1 z0 h13)<|.o (Q6 QsC z0)<|.o (Q5 (u:=t5.N) tok3 z0 rfl)<|.q 23 rfl<|.q 23 rfl<|.o (QjS z0 .k)<|.u [1,0] rfl rfl (Qeh ud68 Qaz z2 z0 h14)<|.u [1,0] rfl rfl (Qe8 Qaz z0 h14)<|.q 24 rfl<|.u [0] rfl rfl (Qiu ud22 tok3 z1 z0 h14 h15)<|.u [0] rfl rfl (Qkm tok3 z0 h14 h15)<|.o (QaH z8 z0)<|.o (Qqr z14 z0)<|.u [0] rfl rfl (Qiv ud22 tok3 z23 z22 h11 h16)<|.e [] [0] [2] rfl rfl rfl rfl (Qjp tok3 z0 z1 h11 h16 hm550)<|.n) λ_ a w H=>?_;have H:=H.to [0,5,17,28,32,33,34,35,36,37,38,39] [_,_,_,_,_,_,_,_,_,_,_,_] [_,_] rfl rfl;refine Qbl H ?_;obtain rfl:=sj h;exact QK J4 [4,5,6,7,8,9,10,11]
    replace h:=QcJ b0 h;refine Qq ?_;obtain rfl:=sj h;refine Qad (λ_ _ H=>(H.pick [4,5,6,7,8,9,10,11]).Xk [1,0] rfl) ?_;exact QK J4 [0,1,2,3,4,5,6,7]
   refine QO <|Qu J3 (ho _ (sj h).symm) [2,3,4,5,6,7,8]
  refine Qj <|Qai h4 (λ(s2:Int×List (List Int))=>[(13,ti s2.1),(12,ti s0.1),(11,tv y1),(0,ti n_),(1,tsl Qae l_),(2,ti from_),(3,ti to_),(4,ti most_)]) (λ(s2:Int×List (List Int))=>[rows rI 3 s2.2 (us191.set (s0.1).toNat (m1 4)),own rVal 22 (us191.set (s0.1).toNat (m1 4)) y1]) [0,2,3,4,5,6,7,8] ?_;clear h;intro s2 o K6 h ho k11;refine Qf λ_ k12=>Qa [2,3,4,5,6,7,8,9,10] ?_;refine Qn h (λ_ h=>?_) (λ_ h=>?_)
  ·refine Qq <|k12 <|Qf λ_ k13=>Qj ?_;have⟨r6,h17,_,h18,m559,hm559,h⟩:=bs3 h;intro a w H;refine wr mx [v0 (rows rI 3 m559 (us191.set (s0.1).toNat (m1 4)))] H (λ_=>.q 3 rfl<|.q 3 rfl<|.u [1,0] rfl rfl (Qeh ud68 Qaz z1 z0 h17)<|.u [1,0] rfl rfl (Qe8 Qaz z0 h17)<|.q 5 rfl<|.u [0] rfl rfl (Qiv ud22 tok3 z1 z0 h17 h18)<|.e [] [0] [2] rfl rfl rfl rfl (Qjp tok3 z0 .k h17 h18 hm559)<|.n) λ_ a w H=>?_;have H:=H.to [0,7,8,9,10,11,12,13,14] [_,_,_,_,_,_,_,_,_] [_,_] rfl rfl;refine Qbl H ?_;refine k13 <|QL [2,3,4,5,6,7,8,9,10] ?_;refine Qad (λ_ _ H=>(H.pick [0,2,3,4,5,6,7,8]).Xk [1,0] rfl) ?_;exact Qu k11 ((sj h).symm) [0,1,2,3,4,5,6,7]
  refine QO <|Qu J2 (ho _ (sj h).symm) [2,3,4,5,6,7,8]
 refine QO <|Qem J0 us191 y1 (ho _ (sj h).symm) [2]

/- The walk. No condition. -/
import Derived.Test.YtlajingmjmnfgaaGreatDoorGenD
set_option linter.all false
open Go.Proofs.Tryz Go.IntKind
namespace Go.Proofs.YtlajingmjmnfgaaGreatDoor
noncomputable section
open Go.Sim
set_option maxRecDepth 100000
set_option maxHeartbeats 4000000
def Qe5 (x_:Qb):Option ((List QF)):=(Qgi x_).bind λt0=>(if (t0 !=0)=true then (Qcd ([]:List QF) (-1) (-1) (-1) t0).bind λt1=>(some t1) else (Ql (λ(s0:Int×List QF)=>((if (decide (s0.1<(x_.Xd.length:Int)))=true then (Ql (λ(s1:Int)=>((if (decide (s1<s0.1))=true then (idx x_.Xd s1).bind λt2=>(idx x_.Xd s0.1).bind λt3=>(if (t2.Xj==t3.Xj)=true then (Qcd s0.2 (-1) s0.1 (-1) 7).bind λt4=>(some (.inr t4)) else (some (.inl (i64.wrap (s1+1))))) else (some (.inr s0.2))):Option ((Int)⊕((List QF))))) (0:Int)).bind λp0=>(some (.inl ((i64.wrap (s0.1+1)),p0))) else (some (.inr s0.2))):Option ((Int×List QF)⊕((List QF))))) ((0:Int),([]:List QF))).bind λp1=>(Ql (λ(s2:Int×List QF)=>((if (decide (s2.1<(x_.Xa.length:Int)))=true then (idx x_.Xa s2.1).bind λt5=>(idx x_.Xa s2.1).bind λt6=>(Qb8 x_ t6.Xj).bind λt7=>((if (decide (t7<s2.1))=true then (Qcd s2.2 s2.1 (-1) (-1) 7).bind λt8=>(some t8) else (Qgj t5.Xb).bind λt9=>((if (!t9)=true then (Qcd s2.2 s2.1 (-1) (-1) 11).bind λt10=>(some t10) else (some s2.2))).bind λp2=>(some p2))).bind λp3=>(Ql (λ(s3:Int×List QF)=>((if (decide (s3.1<(t5.Xb.length:Int)))=true then (idx x_.Xa s2.1).bind λt11=>(idx t5.Xb s3.1).bind λt12=>(Qbg t11 t12.Xj).bind λt13=>((if (decide (t13<s3.1))=true then (Qcd s3.2 s2.1 s3.1 (-1) 7).bind λt14=>(some t14) else (Qgl x_ s2.1 s3.1).bind λt15=>(Qcd s3.2 s2.1 s3.1 (-1) t15).bind λt16=>(some t16))).bind λp4=>(some (.inl ((i64.wrap (s3.1+1)),p4))) else (some (.inr s3.2))):Option ((Int×List QF)⊕((List QF))))) ((0:Int),p3)).bind λp5=>(some (.inl ((i64.wrap (s2.1+1)),p5))) else (some (.inr s2.2))):Option ((Int×List QF)⊕((List QF))))) ((0:Int),p1)).bind λp6=>(Ql (λ(s4:Int×List QF)=>((if (decide (s4.1<(x_.Xc.length:Int)))=true then (Qgm x_ s4.1).bind λt17=>(Qcd s4.2 (-1) (-1) s4.1 t17).bind λt18=>(some (.inl ((i64.wrap (s4.1+1)),t18))) else (some (.inr s4.2))):Option ((Int×List QF)⊕((List QF))))) ((0:Int),p6)).bind λp7=>(some p7))
instance QB8:Spc1 prog 98 Qe5 (λx_=>[Qd.ty x_]) (tsl Q3):=.mk λ{x_ r} h=>by
 unfold Qe5 at h
 refine Fe func98 ntmps98 λM0 M w0 hpl=>?_
 refine Qa [0] ?_
 have⟨_,_,h⟩:=bs h
 refine Qa [2,3] ?_
 refine tIfs h [1,2,3] (λ_ h=>?_) (λ_ h=>?_)
 ·refine Q1 (λ_ _ H=>H.nil (Q3) 182) ?_
  have⟨t0,_,h⟩:=bs h
  refine QM [v1 1 (λv0=>own Q3 182 t0 v0)] [2] [1,2] λm0=>?_
  refine Qal ?_
  refine Qah (by intro _ _ H;exact (H.Xn 1 rfl).pick [0]) ?_
  obtain rfl:=sj h
  exact Qm hpl
 refine Qa [0,3] ?_
 refine Q1 (λ_ _ H=>H.nil (Q3) 182) ?_
 refine Qf λK0 k0=>?_
 refine Qa [0,1,2] ?_
 have⟨e0,h0,h⟩:=bs h
 have J0:∀(p0:List QF) (y0:Value),p0=e0->To M w0 122 [(4,tv y0),(1,tptr (Qd.cs x_))] [own Q3 182 p0 y0] K0:=by
  intro p0 y0 he;subst he;refine k0 <|Qf λK1 k1=>Qa [0,1,2] ?_;have⟨e1,h1,h⟩:=bs h;have J1:∀(p1:List QF) (y1:Value),p1=e1->To M w0 122 [(4,tv y1),(1,tptr (Qd.cs x_))] [own Q3 182 p1 y1] K1:=by
   intro p1 y1 he;subst he;refine k1 <|Qf λK2 k2=>Qa [0,1,2] ?_;have⟨e2,h2,h⟩:=bs h;have J2:∀(p2:List QF) (y2:Value),p2=e2->To M w0 122 [(4,tv y2)] [own Q3 182 p2 y2] K2:=by
    intro p2 y2 he;subst he;refine k2 <|Qa [0,1,2] ?_;refine Qal ?_;refine Qah (by intro _ _ H;exact (H.Xn 1 rfl).pick [0]) ?_;obtain rfl:=sj h;exact Qm hpl
   refine Qj <|QaF h2 (λ(s0:Int×List QF) (y3:Value)=>[(10,ti s0.1),(4,tv y3),(1,tptr (Qd.cs x_))]) (λ(s0:Int×List QF) (y3:Value)=>[own Q3 182 s0.2 y3]) y1 [0,1,2] ?_;clear h;intro s0 y3 o K3 h ho k3;refine Qf λ_ k4=>Qa [4,5,6,7] ?_;refine Qn h (λ_ h=>?_) (λ_ h=>?_)
   ·refine Qq <|k4 <|Qf λ_ k5=>Qj ?_;have⟨_,_,t1,_,h⟩:=bs2 h;refine Qau [v1 5 (λv0=>own Q3 182 t1 v0)] [6] [5,6,8,9] λm1=>?_;refine k5 <|QJ [2,3,4,5] ?_;exact QX k3 (m1 5) ((sj h).symm) [0,2,3]
   refine QN <|QX J2 y3 (ho _ (sj h).symm) [2]
  refine Qj <|QaF h1 (λ(s1:Int×List QF) (y4:Value)=>[(7,ti s1.1),(4,tv y4),(1,tptr (Qd.cs x_))]) (λ(s1:Int×List QF) (y4:Value)=>[own Q3 182 s1.2 y4]) y0 [0,1,2] ?_;clear h;intro s1 y4 o K4 h ho k6;refine Qf λ_ k7=>Qa [4,5,6,7] ?_;refine Qn h (λ_ h=>?_) (λ_ h=>?_)
  ·refine Qq <|k7 <|Qf λK5 k8=>Qj ?_;have⟨t2,_,h⟩:=bs h;refine Qa [6,8,9,10] ?_;refine Qf λK6 k9=>?_;have⟨_,_,_,_,h⟩:=bs2 h;refine Qa [9,10,11,12,13] ?_;have⟨p3,h3,h⟩:=bs h;have J3:∀(y5:Value),To M w0 122 [(4,tv y5),(8,tsl Qe t2.Xb),(7,ti s1.1),(1,tptr (Qd.cs x_))] [own Q3 182 p3 y5] K6:=by
    intro y5;refine k9 <|Qa [0,1,2,3,4] ?_;have⟨e3,h4,h⟩:=bs h;have J4:∀(p4:List QF) (y6:Value),p4=e3->To M w0 122 [(4,tv y6),(7,ti s1.1),(1,tptr (Qd.cs x_))] [own Q3 182 p4 y6] K5:=by
     intro p4 y6 he;subst he;refine k8 <|QJ [2,3,4] ?_;exact QX k6 y6 ((sj h).symm) [0,1,2]
    refine Qj <|QaF h4 (λ(s2:Int×List QF) (y7:Value)=>[(9,ti s2.1),(4,tv y7),(8,tsl Qe t2.Xb),(7,ti s1.1),(1,tptr (Qd.cs x_))]) (λ(s2:Int×List QF) (y7:Value)=>[own Q3 182 s2.2 y7]) y5 [0,1,2,3,4] ?_;clear h;intro s2 y7 o K7 h ho k10;refine Qf λ_ k11=>Qa [3,4,5,6,7,8] ?_;refine Qn h (λ_ h=>?_) (λ_ h=>?_)
    ·refine Qq <|k11 <|Qf λK8 k12=>Qj ?_;have⟨_,_,_,_,_,_,h⟩:=bs3 h;refine Qa [12,14,15,16,17,18] ?_;have⟨p5,h5,h⟩:=bs h;have J5:∀(y8:Value),To M w0 122 [(4,tv y8),(9,ti s2.1),(8,tsl Qe t2.Xb),(7,ti s1.1),(1,tptr (Qd.cs x_))] [own Q3 182 p5 y8] K8:=by
      intro y8;refine k12 <|QJ [2,3,4,5,6] ?_;exact QX k10 y8 ((sj h).symm) [0,1,2,3,4]
     replace h:=h5;clear h5;refine Qn h (λ_ h=>?_) (λ_ h=>?_)
     ·have⟨t3,_,h⟩:=bs h;refine Qau [v1 3 (λv0=>own Q3 182 t3 v0)] [4] [3,4,6,7,8,9] λm2=>?_;obtain rfl:=sj h;exact QR (J5 (m2 3)) [1,2,3,4,5]
     have⟨_,_,t4,_,h⟩:=bs2 h;refine Qau [v1 7 (λv0=>own Q3 182 t4 v0)] [8] [7,8,10,11,12,13] λm3=>?_;obtain rfl:=sj h;exact QR (J5 (m3 7)) [1,2,3,4,5]
    refine QN <|QX J4 y7 (ho _ (sj h).symm) [2,4,5]
   replace h:=h3;clear h3;refine Qn h (λ_ h=>?_) (λ_ h=>?_)
   ·have⟨t5,_,h⟩:=bs h;refine Qau [v1 2 (λv0=>own Q3 182 t5 v0)] [3] [2,3,5,6,7] λm4=>?_;obtain rfl:=sj h;exact QR (J3 (m4 2)) [1,2,3,4]
   have⟨_,_,h⟩:=bs h;refine Qa [2,4,5,6,7] ?_;have⟨p6,h6,h⟩:=bs h;have J6:∀(y9:Value),To M w0 122 [(4,tv y9),(8,tsl Qe t2.Xb),(7,ti s1.1),(1,tptr (Qd.cs x_))] [own Q3 182 p6 y9] K6:=by
    intro y9;obtain rfl:=sj h;exact QR (J3 y9) [0,1,2,3]
   replace h:=h6;clear h6;refine Qn h (λ_ h=>?_) (λ_ h=>?_)
   ·have⟨t6,_,h⟩:=bs h;refine Qau [v1 2 (λv0=>own Q3 182 t6 v0)] [3] [2,3,5,6,7] λm5=>?_;obtain rfl:=sj h;exact QR (J6 (m5 2)) [1,2,3,4]
   refine Qq ?_;obtain rfl:=sj h;exact QR (J6 y4) [3,1,2,4]
  refine QN <|QX J1 y4 (ho _ (sj h).symm) [2,3]
 refine Qj <|QaF h0 (λ(s3:Int×List QF) (y10:Value)=>[(5,ti s3.1),(4,tv y10),(1,tptr (Qd.cs x_))]) (λ(s3:Int×List QF) (y10:Value)=>[own Q3 182 s3.2 y10]) (.slice none 0 0) [0,1,2] ?_;clear h;intro s3 y10 o K9 h ho k13;refine Qf λ_ k14=>Qa [4,5,6,7] ?_;refine Qn h (λ_ h=>?_) (λ_ h=>?_)
 ·refine Qq <|k14 <|Qf λK10 k15=>Qj <|Qa [0,2,3,4] ?_;have⟨e4,h7,h⟩:=bs h;have J7:∀(p7:List QF) (y11:Value),p7=e4->To M w0 122 [(4,tv y11),(5,ti s3.1),(1,tptr (Qd.cs x_))] [own Q3 182 p7 y11] K10:=by
   intro p7 y11 he;subst he;refine k15 <|QJ [2,3,4] ?_;exact QX k13 y11 ((sj h).symm) [0,1,2]
  refine Qj <|Qai h7 (λ(s4:Int)=>[(6,ti s4),(5,ti s3.1),(4,tv y10),(1,tptr (Qd.cs x_))]) (λ(s4:Int)=>[own Q3 182 s3.2 y10]) [0,1,2,3] ?_;clear h;intro s4 o K11 h ho k16;refine Qf λ_ k17=>Qa [2,3,4,5,6] ?_;refine Qn h (λ_ h=>?_) (λ_ h=>?_)
  ·refine Qq <|k17 <|Qf λ_ k18=>Qj ?_;have⟨_,_,_,_,h⟩:=bs2 h;refine Qa [12,14,15,16,17] ?_;refine Qn h (λ_ h=>?_) (λ_ h=>?_)
   ·have⟨t7,_,h⟩:=bs h;refine QM [v1 2 (λv0=>own Q3 182 t7 v0)] [3] [2,3,6,7] λm6=>?_;refine QN <|QX J7 (m6 2) (ho _ (sj h).symm) [1,2,3]
   refine Qq <|k18 <|QJ [2,4,5,6] ?_;exact Qu k16 ((sj h).symm) [0,1,2,3]
  refine QN <|QX J7 y10 (ho _ (sj h).symm) [3,2,4]
 refine QN <|QX J0 y10 (ho _ (sj h).symm) [2,3]
def Qe6 (x_:Qb):Option (Int):=(Qe5 x_).bind λt0=>(if (decide ((t0.length:Int)>0))=true then (idx t0 0).bind λt1=>(some t1.Code) else (some (0:Int)))
instance Qyt:Spc1 prog 39 Qe6 (λx_=>[Qd.ty x_]) ti:=.mk λ{x_ r} h=>by
 unfold Qe6 at h
 refine Fe func39 ntmps39 λM0 M w0 hpl=>?_
 refine Qa [0] ?_
 have⟨_,_,h⟩:=bs h
 refine Qa [2] ?_
 refine tIfs h [2,3] (λ_ h=>?_) (λ_ h=>?_)
 ·have⟨_,_,h⟩:=bs h
  refine Qa [4] ?_
  exact Qo h (·▸Qm hpl)
 refine Qa [0] ?_
 exact Qo h (·▸Qm hpl)
def QdH (x_:Qb):Option ((List QB)×(List Str)×Int):=(Qe5 x_).bind λt0=>(if (decide ((t0.length:Int)>0))=true then (idx t0 0).bind λt1=>(some (([]:List QB),([]:List Str),t1.Code)) else (Ql (λ(s0:Int×List Str×List QB)=>((if (decide (s0.1<(x_.Xa.length:Int)))=true then (idx x_.Xa s0.1).bind λt2=>(rm (s0.2.2.length+[(QB.mk s0.1 (-1) t2.Lo true),(QB.mk s0.1 (-1) t2.Hi false)].length)).bind λ_=>(cat (t2.Xj.length+([32,108,101,97,115,116]:Str).length)).bind λ_=>(cat (t2.Xj.length+([32,109,111,115,116]:Str).length)).bind λ_=>(rm (s0.2.1.length+[(t2.Xj++([32,108,101,97,115,116]:Str)),(t2.Xj++([32,109,111,115,116]:Str))].length)).bind λ_=>(Ql (λ(s1:Int×List QB×List Str)=>((if (decide (s1.1<(t2.Xb.length:Int)))=true then (idx t2.Xb s1.1).bind λt3=>((if (t3.Xi==1)=true then (Qb8 x_ t3.Of).bind λt4=>(rm (s1.2.1.length+[(QB.mk s0.1 t4 t3.Lo true),(QB.mk s0.1 t4 t3.Hi false)].length)).bind λ_=>(cat (t2.Xj.length+([46]:Str).length)).bind λ_=>(cat ((t2.Xj++([46]:Str)).length+t3.Xj.length)).bind λ_=>(cat (((t2.Xj++([46]:Str))++t3.Xj).length+([32,108,101,97,115,116]:Str).length)).bind λ_=>(cat (t2.Xj.length+([46]:Str).length)).bind λ_=>(cat ((t2.Xj++([46]:Str)).length+t3.Xj.length)).bind λ_=>(cat (((t2.Xj++([46]:Str))++t3.Xj).length+([32,109,111,115,116]:Str).length)).bind λ_=>(rm (s1.2.2.length+[(((t2.Xj++([46]:Str))++t3.Xj)++([32,108,101,97,115,116]:Str)),(((t2.Xj++([46]:Str))++t3.Xj)++([32,109,111,115,116]:Str))].length)).bind λ_=>(some ((s1.2.1++[(QB.mk s0.1 t4 t3.Lo true),(QB.mk s0.1 t4 t3.Hi false)]),(s1.2.2++[(((t2.Xj++([46]:Str))++t3.Xj)++([32,108,101,97,115,116]:Str)),(((t2.Xj++([46]:Str))++t3.Xj)++([32,109,111,115,116]:Str))]))) else (some (s1.2.1,s1.2.2)))).bind λp0=>(some (.inl ((i64.wrap (s1.1+1)),p0.1,p0.2))) else (some (.inr (s1.2.1,s1.2.2)))):Option ((Int×List QB×List Str)⊕((List QB×List Str))))) ((0:Int),(s0.2.2++[(QB.mk s0.1 (-1) t2.Lo true),(QB.mk s0.1 (-1) t2.Hi false)]),(s0.2.1++[(t2.Xj++([32,108,101,97,115,116]:Str)),(t2.Xj++([32,109,111,115,116]:Str))]))).bind λp1=>(some (.inl ((i64.wrap (s0.1+1)),p1.2,p1.1))) else (some (.inr (s0.2.1,s0.2.2)))):Option ((Int×List Str×List QB)⊕((List Str×List QB))))) ((0:Int),([]:List Str),([]:List QB))).bind λp2=>(some (p2.2,p2.1,(0:Int))))
instance QhC:SpcS prog 40 (∀{x_:Qb} {r:(List QB)×(List Str)×Int},QdH x_=some r->FnOk prog 40 [Qd.ty x_] [] (λv=>[own rS 9 r.2.1 v]) (λv=>ttup [tsl QY r.1,tv v,ti r.2.2])):=.mk λ{x_ r} h=>by
 unfold QdH at h
 refine Fe func40 ntmps40 λM0 M w0 hpl=>?_
 refine Qa [0] ?_
 have⟨_,_,h⟩:=bs h
 refine Qa [2,3] ?_
 refine tIfs h [2,3,4] (λ_ h=>?_) (λ_ h=>?_)
 ·have⟨_,_,h⟩:=bs h
  refine Qa [4,5,6] ?_
  refine Q1 (λ_ _ H=>H.nil (rS) 9) ?_
  exact Qo h (·▸Qcv (.slice none 0 0) [0] hpl)
 refine Qa [0,3] ?_
 refine Q1 (λ_ _ H=>H.nil (QY) 183) ?_
 refine Qa [0,1,2] ?_
 refine Q1 (λ_ _ H=>H.nil (rS) 9) ?_
 refine Qf λK0 k0=>?_
 refine Qa [0,1,2,3] ?_
 have⟨e0,h0,h⟩:=bs h
 have J0:∀(p0:List Str×List QB) (y0:Value) (y1:Value),p0=e0->To M w0 105 [(7,tv y0),(6,tv y1)] [own rS 9 p0.1 y0,own QY 183 p0.2 y1] K0:=by
  intro p0 y0 y1 he;subst he;refine k0 <|Qa [0,1,2,3,4,5,6] ?_;refine Qal ?_;refine Qah (by intro _ _ H;exact ((H.Xk [1,0] rfl).Xn 2 rfl).pick [0,2,4,5,6]) ?_;obtain rfl:=sj h;exact Qcv y0 [0] hpl
 refine Qj <|Qjo h0 (λ(s0:Int×List Str×List QB) (y2:Value) (y3:Value)=>[(8,ti s0.1),(7,tv y2),(6,tv y3),(1,tptr (Qd.cs x_))]) (λ(s0:Int×List Str×List QB) (y2:Value) (y3:Value)=>[own rS 9 s0.2.1 y2,own QY 183 s0.2.2 y3]) (.slice none 0 0) (.slice none 0 0) [0,1,2,3] ?_;clear h;intro s0 y2 y3 o K1 h ho k1;refine Qf λ_ k2=>Qa [4,5,6,7,8] ?_;refine Qn h (λ_ h=>?_) (λ_ h=>?_)
 ·refine Qq <|k2 <|Qf λK2 k3=>Qj ?_;have⟨t0,_,h⟩:=bs h;refine QM [v1 5 (λv0=>box (Qk.cs zz1) v0),v1 5 (λv0=>box (Qk.cs t0) v0)] [6,7] [5,7,8,9,10] λm0=>?_;refine Q1 (λ_ _ H=>(((H.Xk [2,0,1] rfl).Xl 0 rfl).add 0 rfl (λ_ _ _ h=>h.2)).pick [0,3,4,5,6]) ?_;have⟨_,_,h⟩:=bs h;refine QM [v1 10 (λv0=>own QY 183 (s0.2.2++[(QB.mk s0.1 (-1:Int) t0.Lo true),(QB.mk s0.1 (-1:Int) t0.Hi false)]) v0)] [11] [10,11,12,13,14,15] λm1=>?_;have⟨_,_,_,_,_,_,h⟩:=bs3 h;refine QM [v1 8 (λv0=>own rS 9 (s0.2.1++[(t0.Xj++([32,108,101,97,115,116]:Str)),(t0.Xj++([32,109,111,115,116]:Str))]) v0)] [9] [8,9,10,11,12,13,14] λm2=>?_;refine Qa [0,1,2,3,4,5,6,7] ?_;have⟨e1,h1,h⟩:=bs h;have J1:∀(p1:List QB×List Str) (y4:Value) (y5:Value),p1=e1->To M w0 105 [(7,tv y5),(6,tv y4),(8,ti s0.1),(1,tptr (Qd.cs x_))] [own QY 183 p1.1 y4,own rS 9 p1.2 y5] K2:=by
   intro p1 y4 y5 he;subst he;refine k3 <|QJ [2,3,4,5] ?_;refine Qah (λ_ _ H=>(H.pick [0,1,2,3]).Xk [1,0] rfl) ?_;exact QeD k1 y5 y4 ((sj h).symm) [0,1,2,3]
  refine Qj <|Qjo h1 (λ(s1:Int×List QB×List Str) (y6:Value) (y7:Value)=>[(10,ti s1.1),(7,tv y7),(6,tv y6),(9,tptr (Qk.cs t0)),(8,ti s0.1),(1,tptr (Qd.cs x_))]) (λ(s1:Int×List QB×List Str) (y6:Value) (y7:Value)=>[own QY 183 s1.2.1 y6,own rS 9 s1.2.2 y7]) (m1 10) (m2 8) [0,2,4,5,6,7] ?_;clear h;intro s1 y6 y7 o K3 h ho k4;refine Qf λ_ k5=>Qa [4,5,6,7,8,9,10] ?_;refine Qn h (λ_ h=>?_) (λ_ h=>?_)
  ·refine Qq <|k5 <|Qf λK4 k6=>Qj ?_;have⟨t1,_,h⟩:=bs h;refine QM [v1 5 (λv0=>box (Qe.cs zz0) v0),v1 5 (λv0=>box (Qe.cs t1) v0)] [6,7] [5,7,8,9,10,11,12] λm3=>?_;refine Q1 (λ_ _ H=>(((H.Xk [2,0,1] rfl).Xl 0 rfl).add 0 rfl (λ_ _ _ h=>h.2)).pick [0,3,4,5,6,7,8]) ?_;refine Qa [2,3,4,5,6,7,8,9] ?_;have⟨p2,h2,h⟩:=bs h;have J2:∀(y8:Value) (y9:Value),To M w0 105 [(7,tv y9),(6,tv y8),(10,ti s1.1),(9,tptr (Qk.cs t0)),(8,ti s0.1),(1,tptr (Qd.cs x_))] [own QY 183 p2.1 y8,own rS 9 p2.2 y9] K4:=by
    intro y8 y9;refine k6 <|QJ [2,3,4,5,6,7] ?_;exact QeD k4 y8 y9 ((sj h).symm) [0,1,2,3,4,5]
   replace h:=h2;clear h2;refine Qn h (λ_ h=>?_) (λ_ h=>?_)
   ·have⟨t2,_,h⟩:=bs h;refine Qa [4,6,7,8,9,10,11,12] ?_;have⟨_,_,h⟩:=bs h;refine QM [v1 12 (λv0=>own QY 183 (s1.2.1++[(QB.mk s0.1 t2 t1.Lo true),(QB.mk s0.1 t2 t1.Hi false)]) v0)] [13] [12,13,15,16,17,18,19,20] λm4=>?_;have⟨_,_,_,_,_,_,_,_,h⟩:=bs4 h;have⟨_,_,_,_,_,_,h⟩:=bs3 h;refine Qau [v1 16 (λv0=>own rS 9 (s1.2.2++[(((t0.Xj++([46]:Str))++t1.Xj)++([32,108,101,97,115,116]:Str)),(((t0.Xj++([46]:Str))++t1.Xj)++([32,109,111,115,116]:Str))]) v0)] [17] [16,17,18,19,21,22,23,24] λm5=>?_;obtain rfl:=sj h;exact QR (J2 (m4 12) (m5 16)) [1,3,4,5,6,7]
   refine Qq ?_;obtain rfl:=sj h;exact QR (J2 y6 y7) [3,4,2,5,6,7]
  refine QN <|QeD J1 y6 y7 (ho _ (sj h).symm) [2,3,5,6]
 refine QN <|QeD J0 y2 y3 (ho _ (sj h).symm) [2,3]
def Qe7 (x_:Qb):Option ((List QI)):=(Ql (λ(s0:Int×List QI)=>((if (decide (s0.1<(x_.Xa.length:Int)))=true then (idx x_.Xa s0.1).bind λt0=>(Ql (λ(s1:Int×List QI)=>((if (decide (s1.1<(t0.Xb.length:Int)))=true then ((idx t0.Xb s1.1).bind λt1=>(if ((t1.Xi !=2)&&(t1.Xi !=4))=true then (some s1.2) else ((if ((t1.Xi==4)&&(t1.Of !=([]:Str)))=true then (Qbg t0 t1.Of).bind λt2=>(some t2) else (some (-1:Int)))).bind λp0=>(cat (t0.Xj.length+([46]:Str).length)).bind λ_=>(cat ((t0.Xj++([46]:Str)).length+t1.Xj.length)).bind λ_=>(cat (((t0.Xj++([46]:Str))++t1.Xj).length+([32,108,111,119]:Str).length)).bind λ_=>(rm (s1.2.length+[(QI.mk s0.1 (((t0.Xj++([46]:Str))++t1.Xj)++([32,108,111,119]:Str)) (QE.mk p0 s1.1 (i64.wrap (0 - t1.Lo))))].length)).bind λ_=>(cat (((t0.Xj++([46]:Str))++t1.Xj).length+([32,104,105,103,104]:Str).length)).bind λ_=>(rm ((s1.2++[(QI.mk s0.1 (((t0.Xj++([46]:Str))++t1.Xj)++([32,108,111,119]:Str)) (QE.mk p0 s1.1 (i64.wrap (0 - t1.Lo))))]).length+[(QI.mk s0.1 (((t0.Xj++([46]:Str))++t1.Xj)++([32,104,105,103,104]:Str)) (QE.mk s1.1 p0 t1.Hi))].length)).bind λ_=>(some ((s1.2++[(QI.mk s0.1 (((t0.Xj++([46]:Str))++t1.Xj)++([32,108,111,119]:Str)) (QE.mk p0 s1.1 (i64.wrap (0 - t1.Lo))))])++[(QI.mk s0.1 (((t0.Xj++([46]:Str))++t1.Xj)++([32,104,105,103,104]:Str)) (QE.mk s1.1 p0 t1.Hi))])))).bind λp1=>(some (.inl ((i64.wrap (s1.1+1)),p1))) else (some (.inr s1.2))):Option ((Int×List QI)⊕((List QI))))) ((0:Int),s0.2)).bind λp2=>(some (.inl ((i64.wrap (s0.1+1)),p2))) else (some (.inr s0.2))):Option ((Int×List QI)⊕((List QI))))) ((0:Int),([]:List QI))).bind λp3=>(Ql (λ(s2:Int×List QI)=>((if (decide (s2.1<(x_.Xc.length:Int)))=true then (idx x_.Xc s2.1).bind λt3=>(Qb8 x_ t3.Xi).bind λt4=>(idx x_.Xa t4).bind λt5=>(Qbg t5 t3.A).bind λt6=>(idx x_.Xa t4).bind λt7=>(Qbg t7 t3.B).bind λt8=>(cat (([114,117,108,101,58]:Str).length+t3.Xj.length)).bind λ_=>(rm (s2.2.length+[(QI.mk t4 (([114,117,108,101,58]:Str)++t3.Xj) (QE.mk t6 t8 t3.N))].length)).bind λ_=>(some (.inl ((i64.wrap (s2.1+1)),(s2.2++[(QI.mk t4 (([114,117,108,101,58]:Str)++t3.Xj) (QE.mk t6 t8 t3.N))])))) else (some (.inr s2.2))):Option ((Int×List QI)⊕((List QI))))) ((0:Int),p3)).bind λp4=>(some p4)
instance QB9:Spc1 prog 26 Qe7 (λx_=>[Qd.ty x_]) (tsl QW):=.mk λ{x_ r} h=>by
 unfold Qe7 at h
 refine Fe func26 ntmps26 λM0 M w0 hpl=>?_
 refine Qa [0] ?_
 refine Qa [0,1] ?_
 refine Q1 (λ_ _ H=>H.nil (QW) 66) ?_
 refine Qf λK0 k0=>?_
 refine Qa [0,1,2] ?_
 have⟨e0,h0,h⟩:=bs h
 have J0:∀(p0:List QI) (y0:Value),p0=e0->To M w0 134 [(3,tv y0),(1,tptr (Qd.cs x_))] [own QW 66 p0 y0] K0:=by
  intro p0 y0 he;subst he;refine k0 <|Qf λK1 k1=>Qa [0,1,2] ?_;have⟨e1,h1,h⟩:=bs h;have J1:∀(p1:List QI) (y1:Value),p1=e1->To M w0 134 [(3,tv y1)] [own QW 66 p1 y1] K1:=by
   intro p1 y1 he;subst he;refine k1 <|Qa [0,1,2] ?_;refine Qal ?_;refine Qah (by intro _ _ H;exact (H.Xn 1 rfl).pick [0]) ?_;obtain rfl:=sj h;exact Qm hpl
  refine Qj <|QaF h1 (λ(s0:Int×List QI) (y2:Value)=>[(10,ti s0.1),(3,tv y2),(1,tptr (Qd.cs x_))]) (λ(s0:Int×List QI) (y2:Value)=>[own QW 66 s0.2 y2]) y0 [0,1,2] ?_;clear h;intro s0 y2 o K2 h ho k2;refine Qf λ_ k3=>Qa [4,5,6,7] ?_;refine Qn h (λ_ h=>?_) (λ_ h=>?_)
  ·refine Qq <|k3 <|Qf λ_ k4=>Qj ?_;have⟨t0,_,h⟩:=bs h;refine QM [v1 5 (λv0=>box (QC.cs zz3) v0),v1 5 (λv0=>box (QC.cs t0) v0)] [6,7] [5,7,8,9] λm0=>?_;refine Q1 (λ_ _ H=>(((H.Xk [1,0] rfl).Xl 0 rfl).add 0 rfl (λ_ _ _ h=>h.2)).pick [0,3,4,5]) ?_;have⟨t1,_,h⟩:=bs h;refine Qa [4,5,6,7,8] ?_;have⟨_,h2,t2,_,h⟩:=bs2 h;replace h:=bk h2 h;have⟨t3,_,h⟩:=bs h;refine QM [v1 19 (λv0=>box (Qad.cs (QE.mk (0:Int) (0:Int) (0:Int))) v0),v1 19 (λv0=>box (Qad.cs (QE.mk t2 t3 t0.N)) v0)] [20,21] [19,20,21,22,23,24] λm1=>?_;refine Q1 (λ_ _ H=>(((H.Xk [1,0] rfl).Xl 0 rfl).add 0 rfl (λ_ _ _ h=>h.2)).pick [0,3,4,5,6,7]) ?_;have⟨_,h3,_,h4,h⟩:=bs2 h;intro a w H;refine wr mx [v1 8 (λv0=>own QW 66 (s0.2++[(QI.mk t1 (([114,117,108,101,58]:Str)++t0.Xj) (QE.mk t2 t3 t0.N))]) v0)] H (λ_=>.q 4 rfl<|.q 2 rfl<|.o (Q7 QkM z4)<|.o (Q5 (u:=t0.Xj) tok9 z0 rfl)<|.o (Qes .k z0 h3)<|.o (Qae QnQ z5)<|.p (T:=QW.ty (QI.mk t1 (([114,117,108,101,58]:Str)++t0.Xj) (QE.mk t2 t3 t0.N))) rfl (QaO underlying66 pl66 zv66 zc66 (.cons (R:=rI) (u:=t1) rfl z4 (leb rfl)<|.cons (R:=rS) (u:=(([114,117,108,101,58]:Str)++t0.Xj)) rfl z1 (leb rfl)<|.cons (R:=Qad) (u:=(QE.mk t2 t3 t0.N)) rfl z0 (leb rfl)<|.nil _))<|.o (Qam (R:=QW) (us:=[(QI.mk t1 (([114,117,108,101,58]:Str)++t0.Xj) (QE.mk t2 t3 t0.N))]) ud60 QjF (.cons z0<|.nil _) rfl (leb rfl))<|.e [] [0] [1] rfl rfl rfl rfl (QaD (R:=QW) ud60 QjF (leb rfl) z7 z0 h4)<|.ud (f:=λv=>tv v) 8 rfl [] rfl rfl (Qp z0)<|.n) λm2 a w H=>?_;have H:=H.t4_1 [8,9,13,14];refine QbC H ?_;refine k4 <|QJ [2,3,4,5] ?_;exact QX k2 (m2 8) ((sj h).symm) [0,2,3]
  refine QN <|QX J1 y2 (ho _ (sj h).symm) [2]
 refine Qj <|QaF h0 (λ(s1:Int×List QI) (y3:Value)=>[(4,ti s1.1),(3,tv y3),(1,tptr (Qd.cs x_))]) (λ(s1:Int×List QI) (y3:Value)=>[own QW 66 s1.2 y3]) (.slice none 0 0) [0,1,2] ?_;clear h;intro s1 y3 o K3 h ho k5;refine Qf λ_ k6=>Qa [4,5,6,7] ?_;refine Qn h (λ_ h=>?_) (λ_ h=>?_)
 ·refine Qq <|k6 <|Qf λK4 k7=>Qj ?_;have⟨t4,_,h⟩:=bs h;refine QM [v1 5 (λv0=>box (Qk.cs zz1) v0),v1 5 (λv0=>box (Qk.cs t4) v0)] [6,7] [5,7,8,9] λm3=>?_;refine Q1 (λ_ _ H=>(((H.Xk [1,0] rfl).Xl 0 rfl).add 0 rfl (λ_ _ _ h=>h.2)).pick [0,3,4,5]) ?_;refine Qa [0,1,2,3,4] ?_;have⟨e2,h5,h⟩:=bs h;have J2:∀(p2:List QI) (y4:Value),p2=e2->To M w0 134 [(4,ti s1.1),(3,tv y4),(1,tptr (Qd.cs x_))] [own QW 66 p2 y4] K4:=by
   intro p2 y4 he;subst he;refine k7 <|QJ [2,3,4] ?_;exact QX k5 y4 ((sj h).symm) [0,1,2]
  refine Qj <|QaF h5 (λ(s2:Int×List QI) (y5:Value)=>[(6,ti s2.1),(5,tptr (Qk.cs t4)),(4,ti s1.1),(3,tv y5),(1,tptr (Qd.cs x_))]) (λ(s2:Int×List QI) (y5:Value)=>[own QW 66 s2.2 y5]) y3 [0,1,2,3,4] ?_;clear h;intro s2 y5 o K5 h ho k8;refine Qf λ_ k9=>Qa [4,5,6,7,8,9] ?_;refine Qn h (λ_ h=>?_) (λ_ h=>?_)
  ·refine Qq <|k9 <|Qf λK6 k10=>?_;have⟨p3,h6,h⟩:=bs h;have J3:∀(y6:Value),To M w0 134 [(6,ti s2.1),(5,tptr (Qk.cs t4)),(4,ti s1.1),(3,tv y6),(1,tptr (Qd.cs x_))] [own QW 66 p3 y6] K6:=by
    intro y6;refine k10 <|QJ [2,3,4,5,6] ?_;exact QX k8 y6 ((sj h).symm) [0,1,2,3,4]
   replace h:=h6;clear h6;refine Qj ?_;have⟨t5,_,h⟩:=bs h;refine QM [v1 5 (λv0=>box (Qe.cs zz0) v0),v1 5 (λv0=>box (Qe.cs t5) v0)] [6,7] [5,7,8,9,10,11] λm4=>?_;refine Q1 (λ_ _ H=>(((H.Xk [1,0] rfl).Xl 0 rfl).add 0 rfl (λ_ _ _ h=>h.2)).pick [0,3,4,5,6,7]) ?_;refine tIfs h [7,8,9,10,11,12,13] (λ_ h=>?_) (λ_ h=>?_)
   ·refine QN ?_;obtain rfl:=sj h;exact QR (J3 y5) [2,3,4,5,6]
   refine Qa [0,2,3,4,5,6,7] ?_;refine Qf λK7 k11=>Qa [7,8,9,10,11,12,13,14] ?_;have⟨p4,h7,h⟩:=bs h;have J4:To M w0 134 [(8,ti p4),(7,tptr (Qe.cs t5)),(6,ti s2.1),(5,tptr (Qk.cs t4)),(4,ti s1.1),(3,tv y5),(1,tptr (Qd.cs x_))] [own QW 66 s2.2 y5] K7:=by
    refine k11 ?_;have⟨_,_,_,_,h⟩:=bs2 h;refine Qa [6,7,8,9,10,11,12,13] ?_;have⟨_,h8,_,h9,h⟩:=bs2 h;intro a w H;refine sr mx [v1 12 (λv0=>own QW 66 (s2.2++[(QI.mk s1.1 (((t4.Xj++([46]:Str))++t5.Xj)++([32,108,111,119]:Str)) (QE.mk p4 s2.1 (i64.wrap (0 - t5.Lo))))]) v0)] H (λ_=>.q 6 rfl<|.q 6 rfl<|.q 2 rfl<|.o (Qes z0 .k h8)<|.q 5 rfl<|.q 8 rfl<|.o (Q7 Qms z8)<|.o (Q5 (u:=t5.Lo) tok3 z0 rfl)<|.o (Qnx z0)<|.p (T:=Qad.ty (QE.mk p4 s2.1 (i64.wrap (0 - t5.Lo)))) rfl (QaO underlying64 pl64 zv64 zc64 (.cons (R:=rI) (u:=p4) rfl z4 (leb rfl)<|.cons (R:=rI) (u:=s2.1) rfl z3 (leb rfl)<|.cons (R:=rI) (u:=(i64.wrap (0 - t5.Lo))) rfl z0 (leb rfl)<|.nil _))<|.p (T:=QW.ty (QI.mk s1.1 (((t4.Xj++([46]:Str))++t5.Xj)++([32,108,111,119]:Str)) (QE.mk p4 s2.1 (i64.wrap (0 - t5.Lo))))) rfl (QaO underlying66 pl66 zv66 zc66 (.cons (R:=rI) (u:=s1.1) rfl z8 (leb rfl)<|.cons (R:=rS) (u:=(((t4.Xj++([46]:Str))++t5.Xj)++([32,108,111,119]:Str))) rfl z6 (leb rfl)<|.cons (R:=Qad) (u:=(QE.mk p4 s2.1 (i64.wrap (0 - t5.Lo)))) rfl z0 (leb rfl)<|.nil _))<|.o (Qam (R:=QW) (us:=[(QI.mk s1.1 (((t4.Xj++([46]:Str))++t5.Xj)++([32,108,111,119]:Str)) (QE.mk p4 s2.1 (i64.wrap (0 - t5.Lo))))]) ud60 QjF (.cons z0<|.nil _) rfl (leb rfl))<|.e [] [0] [1] rfl rfl rfl rfl (QaD (R:=QW) ud60 QjF (leb rfl) z11 z0 h9)<|.ud (f:=λv=>tv v) 12 rfl [] rfl rfl (Qp z0)<|.n) λ_ a w H=>?_;have H:=H.to [12,13,14,15,16,17,18,19,20] [_,_,_,_,_,_,_,_,_] [_] rfl rfl;refine Q6 H ?_;have⟨_,h10,_,h11,h⟩:=bs2 h;intro a w H;refine wr mx [v1 11 (λv0=>own QW 66 ((s2.2++[(QI.mk s1.1 (((t4.Xj++([46]:Str))++t5.Xj)++([32,108,111,119]:Str)) (QE.mk p4 s2.1 (i64.wrap (0 - t5.Lo))))])++[(QI.mk s1.1 (((t4.Xj++([46]:Str))++t5.Xj)++([32,104,105,103,104]:Str)) (QE.mk s2.1 p4 t5.Hi))]) v0)] H (λ_=>.q 1 rfl<|.q 8 rfl<|.q 4 rfl<|.o (Qes z0 .k h10)<|.q 9 rfl<|.q 8 rfl<|.o (Q7 Qmt z10)<|.o (Q5 (u:=t5.Hi) tok3 z0 rfl)<|.p (T:=Qad.ty (QE.mk s2.1 p4 t5.Hi)) rfl (QaO underlying64 pl64 zv64 zc64 (.cons (R:=rI) (u:=s2.1) rfl z3 (leb rfl)<|.cons (R:=rI) (u:=p4) rfl z2 (leb rfl)<|.cons (R:=rI) (u:=t5.Hi) rfl z0 (leb rfl)<|.nil _))<|.p (T:=QW.ty (QI.mk s1.1 (((t4.Xj++([46]:Str))++t5.Xj)++([32,104,105,103,104]:Str)) (QE.mk s2.1 p4 t5.Hi))) rfl (QaO underlying66 pl66 zv66 zc66 (.cons (R:=rI) (u:=s1.1) rfl z7 (leb rfl)<|.cons (R:=rS) (u:=(((t4.Xj++([46]:Str))++t5.Xj)++([32,104,105,103,104]:Str))) rfl z5 (leb rfl)<|.cons (R:=Qad) (u:=(QE.mk s2.1 p4 t5.Hi)) rfl z0 (leb rfl)<|.nil _))<|.o (Qam (R:=QW) (us:=[(QI.mk s1.1 (((t4.Xj++([46]:Str))++t5.Xj)++([32,104,105,103,104]:Str)) (QE.mk s2.1 p4 t5.Hi))]) ud60 QjF (.cons z0<|.nil _) rfl (leb rfl))<|.e [] [0] [1] rfl rfl rfl rfl (QaD (R:=QW) ud60 QjF (leb rfl) z10 z0 h11)<|.ud (f:=λv=>tv v) 11 rfl [] rfl rfl (Qp z0)<|.n) λm5 a w H=>?_;have H:=H.to [11,12,17,18,19,20] [_,_,_,_,_,_] [_] rfl rfl;refine QbC H ?_;obtain rfl:=sj h;exact QR (J3 (m5 11)) [2,3,4,1,5]
   replace h:=h7;clear h7;refine Qn h (λ_ h=>?_) (λ_ h=>?_)
   ·have⟨_,_,h⟩:=bs h;refine QJ [4,6,7,8,9,10,11] ?_;obtain rfl:=sj h;exact QR J4 [0,1,2,3,4,5,6]
   refine Qq ?_;obtain rfl:=sj h;exact QR J4 [1,2,3,4,5,6,7]
  refine QN <|QX J2 y5 (ho _ (sj h).symm) [3,4,5]
 refine QN <|QX J0 y3 (ho _ (sj h).symm) [2,3]
def Qe8 (x_:Qb):Option ((List Str)×Int):=(Qe6 x_).bind λt0=>(if (t0 !=0)=true then (some (([]:List Str),t0)) else (QdH x_).bind λt1=>(Qe7 x_).bind λt2=>(Ql (λ(s0:Int×List Str)=>((if (decide (s0.1<(t2.length:Int)))=true then (idx t2 s0.1).bind λt3=>(rm (s0.2.length+[t3.Xj].length)).bind λ_=>(some (.inl ((i64.wrap (s0.1+1)),(s0.2++[t3.Xj])))) else (some (.inr s0.2))):Option ((Int×List Str)⊕((List Str))))) ((0:Int),t1.2.1)).bind λp0=>(some (p0,(0:Int))))
instance QCa:Spc1 prog 16 Qe8 (λx_=>[Qd.ty x_]) (λr=>ttup [tsl rS r.1,ti r.2]):=.mk λ{x_ r} h=>by
 unfold Qe8 at h
 refine Fe func16 ntmps16 λM0 M w0 hpl=>?_
 refine Qa [0] ?_
 have⟨_,_,h⟩:=bs h
 refine Qa [2,3] ?_
 refine tIfs h [1,2,3] (λ_ h=>?_) (λ_ h=>?_)
 ·refine Qa [1,2] ?_
  exact Qo h (·▸Qm hpl)
 have⟨t0,h0,h⟩:=bs h
 intro a w H
 refine sr mx [v1 1 (λv0=>own rS 9 t0.2.1 v0)] H (λ_=>.o (Qae Qcm z2)<|.m [] [0] rfl rfl rfl (QL QnU (QhC.ok h0) (.cons (.of z0)<|.nil))<|.ud (f:=λv=>ttup [tsl QY t0.1,tv v,ti t0.2.2]) 1 rfl [] rfl rfl (Qat z0)<|.o (Qag z0 rfl)<|.ud (f:=λv=>tv v) 1 rfl [] rfl rfl (Qag z1 rfl)<|.o (Qag z2 rfl)<|.o (Qp z2)<|.ud (f:=λv=>tv v) 1 rfl [] rfl rfl (Qp z2)<|.o (Qp z2)<|.n) λm0 a w H=>?_
 have H:=H.to [4,7,11] [_,_,_] [_] rfl rfl
 refine Q6 H ?_
 have⟨t1,_,h⟩:=bs h
 refine Qa [2,3,4] ?_
 refine Qf λK0 k0=>?_
 refine Qa [0,1,2,3] ?_
 have⟨e0,h1,h⟩:=bs h
 have J0:∀(p0:List Str) (y0:Value),p0=e0->To M w0 38 [(6,tv y0)] [own rS 9 p0 y0] K0:=by
  intro p0 y0 he;subst he;refine k0 <|Qa [0,1,2,3] ?_;refine Qal ?_;refine Qah (by intro _ _ H;exact (H.Xn 1 rfl).pick [0,3]) ?_;obtain rfl:=sj h;exact Qm hpl
 refine Qj <|QaF h1 (λ(s0:Int×List Str) (y1:Value)=>[(9,ti s0.1),(8,tsl QW t1),(6,tv y1)]) (λ(s0:Int×List Str) (y1:Value)=>[own rS 9 s0.2 y1]) (m0 1) [0,1,3] ?_;clear h;intro s0 y1 o K1 h ho k1;refine Qf λ_ k2=>Qa [3,4,5,6] ?_;refine Qn h (λ_ h=>?_) (λ_ h=>?_)
 ·refine Qq <|k2 <|Qf λ_ k3=>Qj ?_;have⟨t2,_,_,_,h⟩:=bs2 h;refine Qau [v1 7 (λv0=>own rS 9 (s0.2++[t2.Xj]) v0)] [8] [7,8,10,11] λm1=>?_;refine k3 <|QJ [2,3,4,5] ?_;exact QX k1 (m1 7) ((sj h).symm) [0,3,2]
 refine QN <|QX J0 y1 (ho _ (sj h).symm) [3]
def Qba (n_:Int) (least_:Int) (most_:Int):Option (Bool):=(some ((decide (n_>=least_))&&(decide (n_<=most_))))
instance Qyu:Spc3 prog 119 Qba (λn_ least_ most_=>[ti n_,ti least_,ti most_]) tb:=.mk λ{n_ least_ most_ r} h=>by
 unfold Qba at h
 refine Fe func119 ntmps119 λM0 M w0 hpl=>?_
 refine Qa [1,2,3] ?_
 refine Qa [8] ?_
 exact Qo h (·▸Qm hpl)
def Qgn (x_:Qg) (c0_:(Qg->Option Bool)):Option (Bool):=(c0_ x_).bind λt0=>(some (!t0))
instance Qub:Spc2 prog 162 Qgn (λx_ c0_=>[Qk.ty x_,tptr (QkI.cs c0_)]) tb:=.mk λ{x_ c0_ r} h=>by
 unfold Qgn at h
 refine Fe func162 ntmps162 λM0 M w0 hpl=>?_
 refine Qa [0,3] ?_
 have⟨_,_,h⟩:=bs h
 refine Qa [4] ?_
 exact Qo h (·▸Qm hpl)
def QbD (s_:(List Qg)) (f_:(Qg->Option Bool)):Option (Int):=(Ql (λ(s0:Int)=>((if (decide (s0<(s_.length:Int)))=true then (idx s_ s0).bind λt0=>(f_ t0).bind λt1=>(if t1=true then (some (.inr (.inr s0))) else (some (.inl (i64.wrap (s0+1))))) else (some (.inr (.inl ())))):Option ((Int)⊕((Unit)⊕(Int))))) (0:Int)).bind λe0=>(match e0 with | .inl _=>(some (-1:Int)) | .inr p0=>(some p0))
instance Qra:Spc2 prog 156 QbD (λs_ f_=>[tsl Qk s_,QkI.ty f_]) ti:=.mk λ{s_ f_ r} h=>by
 unfold QbD at h
 refine Fe func156 ntmps156 λM0 M w0 hpl=>?_
 refine Qa [1,2] ?_
 refine Qf λK0 k0=>?_
 refine Qa [1,2,3,4] ?_
 have⟨e0,h0,h⟩:=bs h
 have J0:∀(p0:Unit),(.inl p0)=e0->To M w0 19 [] [] K0:=by
  intro p0 he;subst he;simp only at h;refine k0 <|Qa [0] ?_;exact Qo h (·▸Qm hpl)
 have J1:∀(p1:Int),(.inr p1)=e0->To M w0 19 [(4,ti p1)] [] (Ret prog f156 M0 [] w0 (λ_=>[]) (λ_=>ti r) .ret):=by
  intro p1 he;subst he;simp only at h;obtain rfl:=sj h;exact Qm hpl
 refine Qj <|Qai h0 (λ(s0:Int)=>[(7,ti (s_.length:Int)),(8,ti s0),(0,tsl Qk s_),(1,QkI.ty f_)]) (λ(s0:Int)=>[]) [0,1,2,3] ?_;clear h;intro s0 o K1 h ho k1;refine Qa [0,1,2,3,4] ?_;refine Qf λ_ k2=>Qn h (λ_ h=>?_) (λ_ h=>?_)
 ·refine Qq <|k2 <|Qf λ_ k3=>Qj <|Qa [1,3,4,5,6] ?_;have⟨_,_,_,_,h⟩:=bs2 h;refine Qa [5,6,7,8,9,10] ?_;refine Qn h (λ_ h=>?_) (λ_ h=>?_)
  ·refine Qa [1] ?_;refine Qal ?_;exact Qu J1 (ho _ (sj h).symm) [0]
  refine Qq <|k3 <|QJ [1,4,5,6] ?_;exact Qu k1 ((sj h).symm) [1,0,2,3]
 refine QN <|Qu J0 (ho _ (sj h).symm) []
def QbL (s_:(List Qg)) (f_:(Qg->Option Bool)):Option (Bool):=(QbD s_ f_).bind λt0=>(some (decide (t0>=0)))
instance Qpv:Spc2 prog 161 QbL (λs_ f_=>[tsl Qk s_,QkI.ty f_]) tb:=.mk λ{s_ f_ r} h=>by
 unfold QbL at h
 refine Fe func161 ntmps161 λM0 M w0 hpl=>?_
 refine Qa [1,2] ?_
 have⟨_,_,h⟩:=bs h
 refine Qa [4] ?_
 exact Qo h (·▸Qm hpl)
def Qea (l_:(List Qg)) (right_:(Qg->Option Bool)):Option (Bool):=(QbL l_ (λx0=>Qgn x0 right_)).bind λt0=>(some (!t0))
instance Qwg:Spc2 prog 120 Qea (λl_ right_=>[tsl Qk l_,QkI.ty right_]) tb:=.mk λ{l_ right_ r} h=>by
 unfold Qea at h
 refine Fe func120 ntmps120 λM0 M w0 hpl=>?_
 refine Qa [0,2] ?_
 have⟨_,_,h⟩:=bs h
 refine Qa [4] ?_
 exact Qo h (·▸Qm hpl)
def Qeb (c_:Int):Option (Bool):=(some ((decide (c_>=97))&&(decide (c_<=122))))
instance Qwh:Spc1 prog 194 Qeb (λc_=>[tv (.int .u8 c_)]) tb:=.mk λ{c_ r} h=>by
 unfold Qeb at h
 refine Fe func194 ntmps194 λM0 M w0 hpl=>?_
 refine Qa [1] ?_
 refine Qa [6] ?_
 exact Qo h (·▸Qm hpl)
def Qcs (s_:(List Int)) (f_:(Int->Option Bool)):Option (Int):=(Ql (λ(s0:Int)=>((if (decide (s0<(s_.length:Int)))=true then (idx s_ s0).bind λt0=>(f_ t0).bind λt1=>(if t1=true then (some (.inr (.inr s0))) else (some (.inl (i64.wrap (s0+1))))) else (some (.inr (.inl ())))):Option ((Int)⊕((Unit)⊕(Int))))) (0:Int)).bind λe0=>(match e0 with | .inl _=>(some (-1:Int)) | .inr p0=>(some p0))
instance Qrb:Spc2 prog 221 Qcs (λs_ f_=>[tsl (rInt .u8) s_,QnT.ty f_]) ti:=.mk λ{s_ f_ r} h=>by
 unfold Qcs at h
 refine Fe func221 ntmps221 λM0 M w0 hpl=>?_
 refine Qa [1,2] ?_
 refine Qf λK0 k0=>?_
 refine Qa [1,2,3,4] ?_
 have⟨e0,h0,h⟩:=bs h
 have J0:∀(p0:Unit),(.inl p0)=e0->To M w0 19 [] [] K0:=by
  intro p0 he;subst he;simp only at h;refine k0 <|Qa [0] ?_;exact Qo h (·▸Qm hpl)
 have J1:∀(p1:Int),(.inr p1)=e0->To M w0 19 [(4,ti p1)] [] (Ret prog f221 M0 [] w0 (λ_=>[]) (λ_=>ti r) .ret):=by
  intro p1 he;subst he;simp only at h;obtain rfl:=sj h;exact Qm hpl
 refine Qj <|Qai h0 (λ(s0:Int)=>[(7,ti (s_.length:Int)),(8,ti s0),(0,tsl (rInt .u8) s_),(1,QnT.ty f_)]) (λ(s0:Int)=>[]) [0,1,2,3] ?_;clear h;intro s0 o K1 h ho k1;refine Qa [0,1,2,3,4] ?_;refine Qf λ_ k2=>Qn h (λ_ h=>?_) (λ_ h=>?_)
 ·refine Qq <|k2 <|Qf λ_ k3=>Qj <|Qa [1,3,4,5,6] ?_;have⟨_,_,_,_,h⟩:=bs2 h;refine Qa [5,6,7,8,9,10] ?_;refine Qn h (λ_ h=>?_) (λ_ h=>?_)
  ·refine Qa [1] ?_;refine Qal ?_;exact Qu J1 (ho _ (sj h).symm) [0]
  refine Qq <|k3 <|QJ [1,4,5,6] ?_;exact Qu k1 ((sj h).symm) [1,0,2,3]
 refine QN <|Qu J0 (ho _ (sj h).symm) []
def QbM (s_:(List Int)) (f_:(Int->Option Bool)):Option (Bool):=(Qcs s_ f_).bind λt0=>(some (decide (t0>=0)))
instance Qin:Spc2 prog 195 QbM (λs_ f_=>[tsl (rInt .u8) s_,QnT.ty f_]) tb:=.mk λ{s_ f_ r} h=>by
 unfold QbM at h
 refine Fe func195 ntmps195 λM0 M w0 hpl=>?_
 refine Qa [1,2] ?_
 have⟨_,_,h⟩:=bs h
 refine Qa [4] ?_
 exact Qo h (·▸Qm hpl)
def QhD (c_:Int):Option (Bool):=(some ((decide (c_>=48))&&(decide (c_<=57))))
instance Qxs:Spc1 prog 197 QhD (λc_=>[tv (.int .u8 c_)]) tb:=.mk λ{c_ r} h=>by
 unfold QhD at h
 refine Fe func197 ntmps197 λM0 M w0 hpl=>?_
 refine Qa [1] ?_
 refine Qa [6] ?_
 exact Qo h (·▸Qm hpl)
def Qhi (c_:Int):Option (Bool):=(Qeb c_).bind λt0=>(opt ((!t0)==true) (QhD c_) default).bind λt1=>(some ((!t0)&&(!t1)))
instance QlI:Spc1 prog 196 Qhi (λc_=>[tv (.int .u8 c_)]) tb:=.mk λ{c_ r} h=>by
 unfold Qhi at h
 refine Fe func196 ntmps196 λM0 M w0 hpl=>?_
 refine Qa [1] ?_
 have⟨_,_,_,_,h⟩:=bs2 h
 refine Qa [8] ?_
 exact Qo h (·▸Qm hpl)
def Qap (s_:Str):Option (Bool):=(Qba (s_.length:Int) 1 12).bind λt0=>(opt ((!t0)==false) (idx s_ 0) default).bind λt1=>(opt ((!t0)==false) (Qeb (t1.toNat:Int)) default).bind λt2=>(if ((!t0)||(!t2))=true then (some false) else (QbM (QZ s_) (λx0=>Qhi x0)).bind λt3=>(some (!t3)))
instance Qyv:Spc1 prog 163 Qap (λs_=>[tv (.string (sB s_))]) tb:=.mk λ{s_ r} h=>by
 unfold Qap at h
 refine Fe func163 ntmps163 λM0 M w0 hpl=>?_
 refine Qa [1] ?_
 have⟨_,_,_,_,_,_,h⟩:=bs3 h
 refine tIfs h [9,10] (λ_ h=>?_) (λ_ h=>?_)
 ·refine Qa [0] ?_
  exact Qo h (·▸Qm hpl)
 have⟨t0,h0,h⟩:=bs h
 intro a w H
 refine sr mx [] H (λ_=>.q 1 rfl<|.o (op_s2b ud9 QnW ud5 z0)<|.o (QL Qs5 (Qin.ok h0) (.cons (.of z0)<|.cons (.of (Fct.Xp .fnE (Qe0 Qs6 (λ_ _ hq=>QlI.ok hq))))<|.nil))<|.o (Qj4 z0)<|.o (Qp z0)<|.n) λ_ a w H=>?_
 have H:=H.t1_0 [4]
 refine Q6 H ?_
 exact Qo h (·▸Qm hpl)
def Qdr (lo_:Int) (hi_:Int) (least_:Int) (most_:Int):Option (Bool):=(some (((decide (lo_>=least_))&&(decide (lo_<=hi_)))&&(decide (hi_<=most_))))
instance QCb:Spc4 prog 164 Qdr (λlo_ hi_ least_ most_=>[ti lo_,ti hi_,ti least_,ti most_]) tb:=.mk λ{lo_ hi_ least_ most_ r} h=>by
 unfold Qdr at h
 refine Fe func164 ntmps164 λM0 M w0 hpl=>?_
 refine Qa [1,2,3,4] ?_
 refine Qa [13] ?_
 exact Qo h (·▸Qm hpl)
def Qf6 (x_:Qc) (c0_:(Qc->Option Bool)):Option (Bool):=(c0_ x_).bind λt0=>(some (!t0))
instance Qti:Spc2 prog 199 Qf6 (λx_ c0_=>[Qe.ty x_,tptr (QkJ.cs c0_)]) tb:=.mk λ{x_ c0_ r} h=>by
 unfold Qf6 at h
 refine Fe func199 ntmps199 λM0 M w0 hpl=>?_
 refine Qa [0,3] ?_
 have⟨_,_,h⟩:=bs h
 refine Qa [4] ?_
 exact Qo h (·▸Qm hpl)
def Qbv (s_:(List Qc)) (f_:(Qc->Option Bool)):Option (Int):=(Ql (λ(s0:Int)=>((if (decide (s0<(s_.length:Int)))=true then (idx s_ s0).bind λt0=>(f_ t0).bind λt1=>(if t1=true then (some (.inr (.inr s0))) else (some (.inl (i64.wrap (s0+1))))) else (some (.inr (.inl ())))):Option ((Int)⊕((Unit)⊕(Int))))) (0:Int)).bind λe0=>(match e0 with | .inl _=>(some (-1:Int)) | .inr p0=>(some p0))
instance Qqr:Spc2 prog 128 Qbv (λs_ f_=>[tsl Qe s_,QkJ.ty f_]) ti:=.mk λ{s_ f_ r} h=>by
 unfold Qbv at h
 refine Fe func128 ntmps128 λM0 M w0 hpl=>?_
 refine Qa [1,2] ?_
 refine Qf λK0 k0=>?_
 refine Qa [1,2,3,4] ?_
 have⟨e0,h0,h⟩:=bs h
 have J0:∀(p0:Unit),(.inl p0)=e0->To M w0 19 [] [] K0:=by
  intro p0 he;subst he;simp only at h;refine k0 <|Qa [0] ?_;exact Qo h (·▸Qm hpl)
 have J1:∀(p1:Int),(.inr p1)=e0->To M w0 19 [(4,ti p1)] [] (Ret prog f128 M0 [] w0 (λ_=>[]) (λ_=>ti r) .ret):=by
  intro p1 he;subst he;simp only at h;obtain rfl:=sj h;exact Qm hpl
 refine Qj <|Qai h0 (λ(s0:Int)=>[(7,ti (s_.length:Int)),(8,ti s0),(0,tsl Qe s_),(1,QkJ.ty f_)]) (λ(s0:Int)=>[]) [0,1,2,3] ?_;clear h;intro s0 o K1 h ho k1;refine Qa [0,1,2,3,4] ?_;refine Qf λ_ k2=>Qn h (λ_ h=>?_) (λ_ h=>?_)
 ·refine Qq <|k2 <|Qf λ_ k3=>Qj <|Qa [1,3,4,5,6] ?_;have⟨_,_,_,_,h⟩:=bs2 h;refine Qa [5,6,7,8,9,10] ?_;refine Qn h (λ_ h=>?_) (λ_ h=>?_)
  ·refine Qa [1] ?_;refine Qal ?_;exact Qu J1 (ho _ (sj h).symm) [0]
  refine Qq <|k3 <|QJ [1,4,5,6] ?_;exact Qu k1 ((sj h).symm) [1,0,2,3]
 refine QN <|Qu J0 (ho _ (sj h).symm) []
def QbA (s_:(List Qc)) (f_:(Qc->Option Bool)):Option (Bool):=(Qbv s_ f_).bind λt0=>(some (decide (t0>=0)))
instance QoS:Spc2 prog 198 QbA (λs_ f_=>[tsl Qe s_,QkJ.ty f_]) tb:=.mk λ{s_ f_ r} h=>by
 unfold QbA at h
 refine Fe func198 ntmps198 λM0 M w0 hpl=>?_
 refine Qa [1,2] ?_
 have⟨_,_,h⟩:=bs h
 refine Qa [4] ?_
 exact Qo h (·▸Qm hpl)
def QdP (l_:(List Qc)) (right_:(Qc->Option Bool)):Option (Bool):=(QbA l_ (λx0=>Qf6 x0 right_)).bind λt0=>(some (!t0))
instance QuX:Spc2 prog 165 QdP (λl_ right_=>[tsl Qe l_,QkJ.ty right_]) tb:=.mk λ{l_ right_ r} h=>by
 unfold QdP at h
 refine Fe func165 ntmps165 λM0 M w0 hpl=>?_
 refine Qa [0,2] ?_
 have⟨_,_,h⟩:=bs h
 refine Qa [4] ?_
 exact Qo h (·▸Qm hpl)

/- The walk. No condition. -/
import Derived.Test.YtlajingmjmnfgaaGreatDoorGenA
set_option linter.all false
open Go.Proofs.Tryz Go.IntKind
namespace Go.Proofs.YtlajingmjmnfgaaGreatDoor
noncomputable section
open Go.Sim
set_option maxRecDepth 100000
set_option maxHeartbeats 4000000
def Qb7 (l_:(List Int)):Option (Qb):=(sub l_ 0 (imin (l_.length:Int) 200)).bind λt0=>(QD (Qt.mk t0 0) 4).bind λt1=>(QD t1.2 3).bind λt2=>(Ql (λ(s0:Int×List Qg×Qt)=>((if (decide (s0.1<(i64.wrap ((1:Int)+t2.1))))=true then (Qbm s0.2.2 s0.2.1).bind λt3=>(rm (t3.2.2.length+[t3.1].length)).bind λ_=>(some (.inl ((i64.wrap (s0.1+1)),(t3.2.2++[t3.1]),t3.2.1))) else (some (.inr (s0.2.1,s0.2.2)))):Option ((Int×List Qg×Qt)⊕((List Qg×Qt))))) ((0:Int),([]:List Qg),t2.2)).bind λp0=>(QD p0.2 3).bind λt4=>(sub [([110,101,119]:Str),([111,112,101,110]:Str),([100,111,110,101]:Str),([115,104,117,116]:Str)] 0 (i64.wrap ((2:Int)+t4.1))).bind λt5=>(Ql (λ(s1:Int×List QO)=>((if (decide ((i64.wrap (s1.1+1))<(t5.length:Int)))=true then (rm (s1.2.length+[(QO.mk s1.1 (i64.wrap (s1.1+1)))].length)).bind λ_=>(some (.inl ((i64.wrap (s1.1+1)),(s1.2++[(QO.mk s1.1 (i64.wrap (s1.1+1)))])))) else (some (.inr s1.2))):Option ((Int×List QO)⊕((List QO))))) ((0:Int),([]:List QO))).bind λp1=>(QD t4.2 2).bind λt6=>((if (t6.1==0)=true then (rm (p1.length+[(QO.mk 1 0)].length)).bind λ_=>(some (p1++[(QO.mk 1 0)])) else (some p1))).bind λp2=>(QD t6.2 3).bind λt7=>((if (t7.1==0)=true then (rm (p2.length+[(QO.mk 0 (i64.wrap ((t5.length:Int) - 1)))].length)).bind λ_=>(some (p2++[(QO.mk 0 (i64.wrap ((t5.length:Int) - 1)))])) else (some p2))).bind λp3=>(rm (([]:List QA).length+[(QA.mk ([108,105,102,101]:Str) t5 p3)].length)).bind λ_=>(Ql (λ(s2:Int×List Qs×Qt)=>((if ((decide (s2.1<(i64.wrap ((1:Int)+t2.1))))&&(decide ((s2.2.1.length:Int)<2)))=true then (idx p0.1 s2.1).bind λt8=>(Qbn s2.2.2 t8).bind λt9=>((if t9.2.1=true then (rm (s2.2.1.length+[t9.1].length)).bind λ_=>(some (s2.2.1++[t9.1])) else (some s2.2.1))).bind λp4=>(some (.inl ((i64.wrap (s2.1+1)),p4,t9.2.2))) else (some (.inr s2.2.1))):Option ((Int×List Qs×Qt)⊕((List Qs))))) ((0:Int),([]:List Qs),t7.2)).bind λp5=>(some (Qb.mk t1.1 p0.1 (([]:List QA)++[(QA.mk ([108,105,102,101]:Str) t5 p3)]) p5))
instance Qzt:Spc1 prog 15 Qb7 (λl_=>[tsl rI l_]) Qd.ty:=.mk λ{l_ r} h=>by
 unfold Qb7 at h
 refine Fe func15 ntmps15 λM0 M w0 hpl=>?_
 refine QM [v1 0 (λv0=>box (Qd.cs zz4) v0)] [1] [0,1] λm0=>?_
 have⟨t0,_,h⟩:=bs h
 refine QM [v1 6 (λv0=>box (Qr.cs (Qt.mk t0 (0:Int))) v0)] [7] [7,8] λm1=>?_
 have⟨t1,h0,h⟩:=bs h
 intro a w H
 refine sr mx [v0 (box (Qr.cs t1.2) (m1 6)),v1 3 (λv0=>box (Qd.cs zz4) v0),v1 3 (λv0=>box ([ti t1.1,tvs nilV,tvs nilV,tvs nilV]) v0)] H (λ_=>.q 0 rfl<|.e [] [1] [2] rfl rfl rfl rfl (QL QfH (QaK.ok h0) (.cons (.of z0)<|.cons (.of .k)<|.nil))<|.p (T:=tagg ([ti t1.1,tvs nilV,tvs nilV,tvs nilV])) rfl (QaO underlying33 pl33 zv33 QqS.1 (.cons (R:=rI) (u:=t1.1) rfl z0 (leb rfl)<|.nil _))<|.m [] [3] rfl rfl rfl (QbH (R:=Qd) (a:=zz4) Qcm zok33)<|.e [] [3] [4] rfl rfl rfl rfl (Qbd (R:=(rAgg ([ti t1.1,tvs nilV,tvs nilV,tvs nilV]) (Qv (Q9 rfl) (Qv Qdx (Qv Qdx (Qv Qdx Qak)))))) (a:=()) (tokA Qcm (Qv (Q9 rfl) (Qv Qdx (Qv Qdx (Qv Qdx Qak)))) rfl rfl) z0 z1 (leb rfl))<|.n) λm2 a w H=>?_
 replace H:St _ _ _ [_,_,_] [_,_,_,_,_,_] _ _:=(((H.pick [3,4,5]).nil (Qk) 47).nil (QH) 111).nil (QC) 104
 refine Q6 H ?_
 have⟨t2,_,h⟩:=bs h
 refine QM [v0 (box (Qr.cs t2.2) (m1 6))] [2] [3,4,5,6] λm3=>?_
 refine Qf λK0 k0=>?_
 refine Qa [0,1,2,3,4] ?_
 have⟨e0,h1,h⟩:=bs h
 have J0:∀(p0:List Qg×Qt) (y0:Value),p0=e0->To M w0 119 [(5,ti (i64.wrap ((1:Int)+t2.1))),(4,tv (m2 3)),(3,tv (m1 6)),(2,tv (m0 0))] [own QC 104 ([]:List Qs) nilV,own QH 111 ([]:List QA) nilV,own Qk 47 p0.1 y0,box (Qd.cs zz4) (m0 0),box ([ti t1.1,tvs y0,tvs nilV,tvs nilV]) (m2 3),box (Qr.cs p0.2) (m1 6)] K0:=by
  intro p0 y0 he;subst he;refine k0 ?_;have⟨t3,_,t4,_,h⟩:=bs2 h;refine QM [v0 (box (Qr.cs t3.2) (m1 6))] [3] [5,6,7,8,9] λm4=>?_;intro a w H;refine sr mx [v1 2 (λv0=>box (QH.cs zz2) v0),v1 2 (λv0=>box ([tv (.string (sB ([108,105,102,101]:Str))),tsl rS t4,tvs nilV]) v0)] H (λ_=>.q 0 rfl<|.p (T:=tagg ([tv (.string (sB ([108,105,102,101]:Str))),tsl rS t4,tvs nilV])) rfl (QaO underlying111 pl111 zv111 Qvr.1 (.cons (R:=rS) (u:=([108,105,102,101]:Str)) rfl .k (leb rfl)<|.cons (R:=(rSl rS)) (u:=t4) rfl z0 (leb rfl)<|.nil _))<|.m [] [6] rfl rfl rfl (QbH (R:=QH) (a:=zz2) QnP Qvq)<|.e [] [6] [7] rfl rfl rfl rfl (Qbd (R:=(rAgg ([tv (.string (sB ([108,105,102,101]:Str))),tsl rS t4,tvs nilV]) (Qv (Q9 rfl) (Qv Qca (Qv Qdx Qak))))) (a:=()) (tokA QnP (Qv (Q9 rfl) (Qv Qca (Qv Qdx Qak))) rfl rfl) z0 z1 (leb rfl))<|.n) λm5 a w H=>?_;replace H:St _ _ _ [_,_,_,_,_,_] [_,_,_,_,_,_,_,_] _ _:=(H.pick [2,3,4,5,6,7]).nil (Qaq) 112;refine Q6 H ?_;refine Qf λK1 k1=>Qa [0,1,2,3,4,5,6] ?_;have⟨e1,h2,h⟩:=bs h;have J1:∀(p1:List QO) (y1:Value),p1=e1->To M w0 119 [(8,tv (m5 2)),(7,tsl rS t4),(5,ti (i64.wrap ((1:Int)+t2.1))),(4,tv (m2 3)),(3,tv (m1 6)),(2,tv (m0 0))] [own Qaq 112 p1 y1,own QC 104 ([]:List Qs) nilV,own QH 111 ([]:List QA) nilV,own Qk 47 p0.1 y0,box (Qd.cs zz4) (m0 0),box ([ti t1.1,tvs y0,tvs nilV,tvs nilV]) (m2 3),box (Qr.cs t3.2) (m1 6),box ([tv (.string (sB ([108,105,102,101]:Str))),tsl rS t4,tvs y1]) (m5 2)] K1:=by
   intro p1 y1 he;subst he;refine k1 <|Qf λK2 k2=>?_;have⟨t5,_,h⟩:=bs h;refine QM [v0 (box (Qr.cs t5.2) (m1 6))] [2] [2,3,4,5,6,7,8] λm6=>?_;have⟨p2,h3,h⟩:=bs h;have J2:∀(y2:Value),To M w0 119 [(8,tv (m5 2)),(7,tsl rS t4),(5,ti (i64.wrap ((1:Int)+t2.1))),(4,tv (m2 3)),(3,tv (m1 6)),(2,tv (m0 0))] [own QC 104 ([]:List Qs) nilV,own QH 111 ([]:List QA) nilV,own Qk 47 p0.1 y0,box (Qd.cs zz4) (m0 0),box ([ti t1.1,tvs y0,tvs nilV,tvs nilV]) (m2 3),box (Qr.cs t5.2) (m1 6),own Qaq 112 p2 y2,box ([tv (.string (sB ([108,105,102,101]:Str))),tsl rS t4,tvs y2]) (m5 2)] K2:=by
    intro y2;refine k2 <|Qf λK3 k3=>?_;have⟨t6,_,h⟩:=bs h;refine QM [v0 (box (Qr.cs t6.2) (m1 6))] [2] [2,3,4,5,6,7,8] λm7=>?_;have⟨p3,h4,h⟩:=bs h;have J3:∀(y3:Value),To M w0 119 [(8,tv (m5 2)),(5,ti (i64.wrap ((1:Int)+t2.1))),(4,tv (m2 3)),(3,tv (m1 6)),(2,tv (m0 0))] [own QC 104 ([]:List Qs) nilV,own QH 111 ([]:List QA) nilV,own Qk 47 p0.1 y0,box (Qd.cs zz4) (m0 0),box ([ti t1.1,tvs y0,tvs nilV,tvs nilV]) (m2 3),box (Qr.cs t6.2) (m1 6),own Qaq 112 p3 y3,box ([tv (.string (sB ([108,105,102,101]:Str))),tsl rS t4,tvs y3]) (m5 2)] K3:=by
     intro y3;refine k3 <|Q1 (As'':=[box (QH.cs (QA.mk ([108,105,102,101]:Str) t4 p3)) (m5 2),own QC 104 ([]:List Qs) nilV,own QH 111 ([]:List QA) nilV,own Qk 47 p0.1 y0,box (Qd.cs zz4) (m0 0),box ([ti t1.1,tvs y0,tvs nilV,tvs nilV]) (m2 3),box (Qr.cs t6.2) (m1 6)]) (λ_ _ H=>((H.pick [0,1,2,3,4]).Xk [6,7,0,1,2,3,4,5] rfl).Xm 2 rfl) ?_;have⟨_,_,h⟩:=bs h;refine QM [v1 4 (λv0=>own QH 111 (([]:List QA)++[(QA.mk ([108,105,102,101]:Str) t4 p3)]) v0),v1 4 (λv0=>box ([ti t1.1,tvs y0,tvs v0,tvs nilV]) (m2 3))] [5,7] [4,7,8,9,10] λm8=>?_;refine Q1 (λ_ _ H=>H.Xk [1,2,3,4,5,6] rfl) ?_;refine Qf λK4 k4=>Qa [0,1,2,3,4,5] ?_;have⟨e2,h5,h⟩:=bs h;have J4:∀(p4:List Qs) (y4:Value),p4=e2->To M w0 119 [(4,tv (m2 3)),(2,tv (m0 0))] [own QC 104 p4 y4,own Qk 47 p0.1 y0,box (Qd.cs zz4) (m0 0),own QH 111 (([]:List QA)++[(QA.mk ([108,105,102,101]:Str) t4 p3)]) (m8 4),box ([ti t1.1,tvs y0,tvs (m8 4),tvs y4]) (m2 3)] K4:=by
      intro p4 y4 he;subst he;refine k4 <|Q1 (As'':=[box ([ti t1.1,tsl Qk p0.1,tvs (m8 4),tvs y4]) (m2 3),own QC 104 p4 y4,box (Qd.cs zz4) (m0 0),own QH 111 (([]:List QA)++[(QA.mk ([108,105,102,101]:Str) t4 p3)]) (m8 4)]) (λ_ _ H=>((H.pick [0,1]).Xk [1,4,0,2,3] rfl).Xm 1 rfl) ?_;refine Q1 (As'':=[box ([ti t1.1,tsl Qk p0.1,tsl QH (([]:List QA)++[(QA.mk ([108,105,102,101]:Str) t4 p3)]),tvs y4]) (m2 3),own QC 104 p4 y4,box (Qd.cs zz4) (m0 0)]) (λ_ _ H=>((H.pick [0,1]).Xk [3,0,1,2] rfl).Xm 2 rfl) ?_;refine Q1 (As'':=[box (Qd.cs (Qb.mk t1.1 p0.1 (([]:List QA)++[(QA.mk ([108,105,102,101]:Str) t4 p3)]) p4)) (m2 3),box (Qd.cs zz4) (m0 0)]) (λ_ _ H=>((H.pick [0,1]).Xk [1,0,2] rfl).Xm 3 rfl) ?_;refine QM [v0 (box (Qd.cs (Qb.mk t1.1 p0.1 (([]:List QA)++[(QA.mk ([108,105,102,101]:Str) t4 p3)]) p4)) (m0 0))] [2] [2] λm9=>?_;refine Q1 (λ_ _ H=>H.Xk [1] rfl) ?_;exact Qo h (·▸Qm hpl)
     refine Qj <|QaF h5 (λ(s0:Int×List Qs×Qt) (y5:Value)=>[(10,ti s0.1),(5,ti (i64.wrap ((1:Int)+t2.1))),(4,tv (m2 3)),(3,tv (m1 6)),(2,tv (m0 0))]) (λ(s0:Int×List Qs×Qt) (y5:Value)=>[own QC 104 s0.2.1 y5,own Qk 47 p0.1 y0,box (Qd.cs zz4) (m0 0),box (Qr.cs s0.2.2) (m1 6),own QH 111 (([]:List QA)++[(QA.mk ([108,105,102,101]:Str) t4 p3)]) (m8 4),box ([ti t1.1,tvs y0,tvs (m8 4),tvs y5]) (m2 3)]) nilV [0,2,3,4,5] ?_;clear h;intro s0 y5 o K5 h ho k5;refine Qf λ_ k6=>?_;intro a w H;refine sr mx [] H (λ_=>.q 0 rfl<|.q 2 rfl<|.o (Qc0 z1 z0)<|.q 0 rfl<|.gu [5] rfl rfl rfl bq0 (λ_=>QaM QsW z6)<|.gu [5] rfl rfl rfl bq1 (λhc=>Qbl (u:=y5) QvI (.cond z0 hc) rfl)<|.gu [0] rfl rfl rfl bq2 (λhc=>QfW underlying31 (.cond z0 hc))<|.g rfl rfl bq3 (λhc=>Qc0 (.cond z0 hc) .k)<|.o (QdO z4 (λhp=>(.cond z0 (beqT hp))))<|.n) λ_ a w H=>?_;have H:=H.to [8,9,10,11,12,13] [_,_,_,_,_,_] [_,_,_,_,_,_] rfl rfl;refine Q6 H ?_;refine Qn h (λ_ h=>?_) (λ_ h=>?_)
     ·refine Qq <|k6 <|Qf λK6 k7=>Qj ?_;have⟨_,_,t7,_,h⟩:=bs2 h;refine QM [v0 (box (Qr.cs t7.2.2) (m1 6)),v1 10 (λv0=>box (QC.cs zz3) v0),v1 10 (λv0=>box (QC.cs t7.1) v0)] [7,11,12] [2,10,11,13,14,15,16,17] λm10=>?_;refine Q1 (λ_ _ H=>(((H.Xk [6,0,1,2,3,4,5] rfl).Xl 1 rfl).add 0 rfl (λ_ _ _ h=>h.2)).pick [0,2,4,5,6,7,8,9]) ?_;refine Qa [0,1,2,4,5,6,7,8] ?_;have⟨p5,h6,h⟩:=bs h;have J5:∀(y6:Value),To M w0 119 [(10,ti s0.1),(5,ti (i64.wrap ((1:Int)+t2.1))),(4,tv (m2 3)),(3,tv (m1 6)),(2,tv (m0 0))] [own Qk 47 p0.1 y0,box (Qd.cs zz4) (m0 0),own QH 111 (([]:List QA)++[(QA.mk ([108,105,102,101]:Str) t4 p3)]) (m8 4),box (Qr.cs t7.2.2) (m1 6),own QC 104 p5 y6,box ([ti t1.1,tvs y0,tvs (m8 4),tvs y6]) (m2 3)] K6:=by
       intro y6;refine k7 <|QJ [2,3,4,5,6] ?_;refine Qah (λ_ _ H=>(H.pick [0,1,2,3,4]).Xk [4,0,1,3,2,5] rfl) ?_;exact QX k5 y6 ((sj h).symm) [0,1,2,3,4]
      replace h:=h6;clear h6;refine Qn h (λ_ h=>?_) (λ_ h=>?_)
      ·have⟨_,_,h⟩:=bs h;refine Qau [v1 4 (λv0=>own QC 104 (s0.2.1++[t7.1]) v0),v1 4 (λv0=>box ([ti t1.1,tvs y0,tvs (m8 4),tvs v0]) (m2 3))] [5,7] [4,8,9,10,11,12,13] λm11=>?_;obtain rfl:=sj h;exact QR (J5 (m11 4)) [2,3,4,5,6]
      refine Qq ?_;obtain rfl:=sj h;refine Qah (λ_ _ H=>(H.pick [3,4,5,6,7]).Xk [1,2,3,5,0,4] rfl) ?_;exact QR (J5 y5) [0,1,2,3,4]
     refine QN <|Qah (λ_ _ H=>(H.pick [3,5]).Xk [0,1,2,4,5] rfl) ?_;exact QX J4 y5 (ho _ (sj h).symm) [0,1]
    replace h:=h4;clear h4;refine Qn h (λ_ h=>?_) (λ_ h=>?_)
    ·have⟨_,_,h⟩:=bs h;refine Qau [v1 7 (λv0=>own Qaq 112 (p2++[(QO.mk (0:Int) (i64.wrap ((t4.length:Int) - 1)))]) v0),v1 7 (λv0=>box ([tv (.string (sB ([108,105,102,101]:Str))),tsl rS t4,tvs v0]) (m5 2))] [8,10] [7,10,12,13,14,15] λm12=>?_;obtain rfl:=sj h;exact QR (J3 (m12 7)) [1,2,3,4,5]
    refine Qq ?_;obtain rfl:=sj h;refine Qah (λ_ _ H=>(H.pick [1,3,4,5,6]).Xk [0,1,2,3,4,7,5,6] rfl) ?_;exact QR (J3 y2) [0,1,2,3,4]
   replace h:=h3;clear h3;refine Qn h (λ_ h=>?_) (λ_ h=>?_)
   ·have⟨_,_,h⟩:=bs h;refine Qau [v1 4 (λv0=>own Qaq 112 (p1++[(QO.mk (1:Int) (0:Int))]) v0),v1 4 (λv0=>box ([tv (.string (sB ([108,105,102,101]:Str))),tsl rS t4,tvs v0]) (m5 2))] [5,7] [4,7,8,9,10,11,12] λm13=>?_;obtain rfl:=sj h;exact QR (J2 (m13 4)) [1,2,3,4,5,6]
   refine Qq ?_;obtain rfl:=sj h;refine Qah (λ_ _ H=>(H.pick [1,2,3,4,5,6]).Xk [1,2,3,4,5,7,0,6] rfl) ?_;exact QR (J2 y1) [0,1,2,3,4,5]
  refine Qj <|QaF h2 (λ(s1:Int×List QO) (y7:Value)=>[(9,ti s1.1),(8,tv (m5 2)),(7,tsl rS t4),(5,ti (i64.wrap ((1:Int)+t2.1))),(4,tv (m2 3)),(3,tv (m1 6)),(2,tv (m0 0))]) (λ(s1:Int×List QO) (y7:Value)=>[own Qaq 112 s1.2 y7,own QC 104 ([]:List Qs) nilV,own QH 111 ([]:List QA) nilV,own Qk 47 p0.1 y0,box (Qd.cs zz4) (m0 0),box ([ti t1.1,tvs y0,tvs nilV,tvs nilV]) (m2 3),box (Qr.cs t3.2) (m1 6),box ([tv (.string (sB ([108,105,102,101]:Str))),tsl rS t4,tvs y7]) (m5 2)]) nilV [0,1,2,3,4,5,6] ?_;clear h;intro s1 y7 o K7 h ho k8;refine Qf λ_ k9=>Qa [4,5,6,7,8,9,10,11] ?_;refine Qn h (λ_ h=>?_) (λ_ h=>?_)
  ·refine Qq <|k9 <|Qf λ_ k10=>Qj ?_;have⟨_,_,h⟩:=bs h;refine Qau [v1 7 (λv0=>own Qaq 112 (s1.2++[(QO.mk s1.1 (i64.wrap (s1.1+1)))]) v0),v1 7 (λv0=>box ([tv (.string (sB ([108,105,102,101]:Str))),tsl rS t4,tvs v0]) (m5 2))] [8,10] [7,10,11,12,13,14,15,16] λm14=>?_;refine k10 <|QJ [2,3,4,5,6,7,8,9] ?_;refine Qah (λ_ _ H=>(H.pick [0,2,3,4,5,6,7]).Xk [6,0,1,2,3,4,5,7] rfl) ?_;exact QX k8 (m14 7) ((sj h).symm) [0,1,2,3,4,5,6]
  refine QN <|QX J1 y7 (ho _ (sj h).symm) [2,3,4,5,6,7]
 refine Qj <|QaF h1 (λ(s2:Int×List Qg×Qt) (y8:Value)=>[(6,ti s2.1),(5,ti (i64.wrap ((1:Int)+t2.1))),(4,tv (m2 3)),(3,tv (m1 6)),(2,tv (m0 0))]) (λ(s2:Int×List Qg×Qt) (y8:Value)=>[own QC 104 ([]:List Qs) nilV,own QH 111 ([]:List QA) nilV,own Qk 47 s2.2.1 y8,box (Qd.cs zz4) (m0 0),box ([ti t1.1,tvs y8,tvs nilV,tvs nilV]) (m2 3),box (Qr.cs s2.2.2) (m1 6)]) nilV [0,1,2,3,4] ?_;clear h;intro s2 y8 o K8 h ho k11;refine Qf λ_ k12=>Qa [2,3,4,5,6,7] ?_;refine Qn h (λ_ h=>?_) (λ_ h=>?_)
 ·refine Qq <|k12 <|Qf λ_ k13=>Qj ?_;have⟨t8,h7,_,h8,h⟩:=bs2 h;intro a w H;refine wr mx [v0 (box (Qr.cs t8.2.1) (m1 6)),v0 (own Qk 47 t8.2.2 y8),v1 7 (λv0=>own Qk 47 (t8.2.2++[t8.1]) v0),v1 7 (λv0=>box ([ti t1.1,tvs v0,tvs nilV,tvs nilV]) (m2 3))] H (λ_=>.u [4] rfl rfl (QaM Qd1 z3)<|.u [4] rfl rfl (Qbl (u:=y8) Qil z0 rfl)<|.q 6 rfl<|.u [4] rfl rfl (QaM Qd1 z6)<|.u [4] rfl rfl (Qbl (u:=y8) Qil z0 rfl)<|.e [] [5,2] [6,7] rfl rfl rfl rfl (QL Qv0 (Qll.ok h7) (.cons (.of z2)<|.cons (.of z0)<|.nil))<|.o (Qam (R:=Qk) (us:=[t8.1]) ud29 Qdh (.cons z0<|.nil _) rfl (leb rfl))<|.e [] [7] [8] rfl rfl rfl rfl (QaD (R:=Qk) ud29 Qdh (leb rfl) z5 z0 h8)<|.u [4] rfl rfl (QaM Qd1 z11)<|.e [8] [4] [9] rfl rfl rfl rfl (QgX (R:=Qk) (e:=47) (Ts:=([ti t1.1,tvs y8,tvs nilV,tvs nilV])) (off:=1) Qil z0 z1 (leb rfl))<|.n) λm15 a w H=>?_;have H:=H.to [7,10,11,12,13,14] [_,_,_,_,_,_] [_,_,_,_,_,_] rfl rfl;refine QbC H ?_;refine k13 <|QJ [2,3,4,5,6,7] ?_;refine Qah (λ_ _ H=>(H.pick [0,2,3,4,5]).Xk [0,1,4,2,5,3] rfl) ?_;exact QX k11 (m15 7) ((sj h).symm) [0,1,2,3,4]
 refine QN <|QX J0 y8 (ho _ (sj h).symm) [2,3,4,5]
def Qgh (x_:Qb) (l_:(List Int)):Option (Qb):=(rm (([]:List Qg).length+x_.Xa.length)).bind λ_=>(Ql (λ(s0:Int×Int×List Qg)=>((if (decide (s0.1<(s0.2.2.length:Int)))=true then (QbG l_ s0.2.1 6).bind λt0=>(idx [(0:Int),(0:Int),(1:Int),(2:Int),(3:Int),(6:Int)] t0).bind λt1=>(idx s0.2.2 s0.1).bind λt2=>(setAt s0.2.2 s0.1 { t2 with Lo:=t1 }).bind λt3=>(QbG l_ (i64.wrap (s0.2.1+1)) 3).bind λt4=>(idx t3 s0.1).bind λt5=>(setAt t3 s0.1 { t5 with Hi:=(i64.wrap (t1+t4)) }).bind λt6=>(idx x_.Xa s0.1).bind λt7=>(rm (([]:List Qc).length+t7.Xb.length)).bind λ_=>(idx t6 s0.1).bind λt8=>(Ql (λ(s1:Int×Int×List Qc)=>((if (decide (s1.1<(s1.2.2.length:Int)))=true then (idx s1.2.2 s1.1).bind λt9=>((if (t9.Xi==1)=true then (QbG l_ s1.2.1 3).bind λt10=>(QbG l_ (i64.wrap (s1.2.1+1)) 3).bind λt11=>(some (Qc.mk t9.Xj t9.Of t9.Up t9.Xi t10 (i64.wrap (t10+t11)) t9.Words t9.Xf)) else (some t9))).bind λp0=>((if ((p0.Xi==2)||(p0.Xi==4))=true then (QbG l_ s1.2.1 12).bind λt12=>(QbG l_ (i64.wrap (s1.2.1+1)) 6).bind λt13=>(some (Qc.mk p0.Xj p0.Of p0.Up p0.Xi t12 (i64.wrap (t12+t13)) p0.Words p0.Xf)) else (some p0))).bind λp1=>(setAt s1.2.2 s1.1 p1).bind λt14=>(some (.inl ((i64.wrap (s1.1+1)),(i64.wrap (s1.2.1+2)),t14))) else (some (.inr (s1.2.1,s1.2.2)))):Option ((Int×Int×List Qc)⊕((Int×List Qc))))) ((0:Int),(i64.wrap (s0.2.1+2)),(([]:List Qc)++t7.Xb))).bind λp2=>(some (.inl ((i64.wrap (s0.1+1)),p2.1,(t6.set (s0.1).toNat (Qg.mk t8.Xj t8.Lo t8.Hi p2.2))))) else (some (.inr (s0.2.1,s0.2.2)))):Option ((Int×Int×List Qg)⊕((Int×List Qg))))) ((0:Int),(0:Int),(([]:List Qg)++x_.Xa))).bind λp3=>(rm (([]:List Qs).length+x_.Xc.length)).bind λ_=>(Ql (λ(s2:Int×List Qs)=>((if (decide (s2.1<(s2.2.length:Int)))=true then (QbG l_ (i64.wrap (p3.1+s2.1)) 12).bind λt15=>(idx s2.2 s2.1).bind λt16=>(setAt s2.2 s2.1 { t16 with N:=(i64.wrap (t15 - 9)) }).bind λt17=>(some (.inl ((i64.wrap (s2.1+1)),t17))) else (some (.inr s2.2))):Option ((Int×List Qs)⊕((List Qs))))) ((0:Int),(([]:List Qs)++x_.Xc))).bind λp4=>(some (Qb.mk x_.Version p3.2 x_.Xd p4))
instance QBW:Spc2 prog 14 Qgh (λx_ l_=>[Qd.ty x_,tsl rI l_]) Qd.ty:=.mk λ{x_ l_ r} h=>by
 unfold Qgh at h
 refine Fe func14 ntmps14 λM0 M w0 hpl=>?_
 refine QM [v1 1 (λv0=>box (Qd.cs zz4) v0)] [2] [0,1,3] λm0=>?_
 refine QM [v1 1 (λv0=>box (Qd.cs zz4) v0),v1 1 (λv0=>box (Qd.cs x_) v0)] [2,3] [1,2,3,4] λm1=>?_
 have⟨_,_,h⟩:=bs h
 refine QM [v1 0 (λv0=>own Qk 47 ([]:List Qg) v0),v1 3 (λv0=>own Qk 47 (([]:List Qg)++x_.Xa) v0),v1 3 (λv0=>box ([ti x_.Version,tvs v0,tsl QH x_.Xd,tsl QC x_.Xc]) (m1 1))] [1,4,6] [3,5,6,7,8] λm2=>?_
 refine Qa [0,1,2,3,4,5] ?_
 refine Qf λK0 k0=>?_
 refine Qa [0,1,2,3,4,5,6] ?_
 have⟨e0,h0,h⟩:=bs h
 have J0:∀(p0:Int×List Qg),p0=e0->To M w0 153 [(6,ti p0.1),(5,tv (m1 1)),(2,tptr (Qd.cs x_)),(4,tv (m0 1)),(1,tsl rI l_)] [box (Qd.cs zz4) (m0 1),own Qk 47 p0.2 (m2 3),box ([ti x_.Version,tvs (m2 3),tsl QH x_.Xd,tsl QC x_.Xc]) (m1 1)] K0:=by
  intro p0 he;subst he;refine k0 ?_;have⟨_,_,h⟩:=bs h;refine QM [v1 0 (λv0=>own QC 104 ([]:List Qs) v0),v1 3 (λv0=>own QC 104 (([]:List Qs)++x_.Xc) v0),v1 3 (λv0=>box ([ti x_.Version,tvs (m2 3),tsl QH x_.Xd,tvs v0]) (m1 1))] [1,4,6] [3,5,6,8,9] λm3=>?_;refine Qf λK1 k1=>Qa [0,1,2,3,4,5] ?_;have⟨e1,h1,h⟩:=bs h;have J1:∀(p1:List Qs),p1=e1->To M w0 153 [(5,tv (m1 1)),(4,tv (m0 1))] [box (Qd.cs zz4) (m0 1),own Qk 47 p0.2 (m2 3),own QC 104 p1 (m3 3),box ([ti x_.Version,tvs (m2 3),tsl QH x_.Xd,tvs (m3 3)]) (m1 1)] K1:=by
   intro p1 he;subst he;refine k1 <|Q1 (As'':=[box ([ti x_.Version,tsl Qk p0.2,tsl QH x_.Xd,tvs (m3 3)]) (m1 1),box (Qd.cs zz4) (m0 1),own QC 104 p1 (m3 3)]) (λ_ _ H=>((H.pick [0,1]).Xk [1,3,0,2] rfl).Xm 1 rfl) ?_;refine Q1 (As'':=[box (Qd.cs (Qb.mk x_.Version p0.2 x_.Xd p1)) (m1 1),box (Qd.cs zz4) (m0 1)]) (λ_ _ H=>((H.pick [0,1]).Xk [2,0,1] rfl).Xm 3 rfl) ?_;refine QM [v0 (box (Qd.cs (Qb.mk x_.Version p0.2 x_.Xd p1)) (m0 1))] [2] [2] λm4=>?_;refine Q1 (λ_ _ H=>H.Xk [1] rfl) ?_;exact Qo h (·▸Qm hpl)
  refine Qj <|Qai h1 (λ(s0:Int×List Qs)=>[(11,ti s0.1),(6,ti p0.1),(5,tv (m1 1)),(4,tv (m0 1)),(1,tsl rI l_)]) (λ(s0:Int×List Qs)=>[box (Qd.cs zz4) (m0 1),own Qk 47 p0.2 (m2 3),own QC 104 s0.2 (m3 3),box ([ti x_.Version,tvs (m2 3),tsl QH x_.Xd,tvs (m3 3)]) (m1 1)]) [0,2,3,4,5] ?_;clear h;intro s0 o K2 h ho k2;refine Qf λ_ k3=>Qa [2,4,5,6,7,8,9] ?_;refine QfI 1 (λb0=>?_) (λb0=>?_)
  ·replace h:=Qdc b0 h;refine Qq <|k3 <|Qf λ_ k4=>Qj ?_;have⟨_,_,_,_,t0,_,h⟩:=bs3 h;refine Qau [v0 (own QC 104 t0 (m3 3))] [12] [1,11,13,14,15,16,17] λm5=>?_;refine k4 <|QJ [2,3,4,5,6,7,8] ?_;refine Qah (λ_ _ H=>(H.pick [0,3,4,5,6]).Xk [0,1,3,2] rfl) ?_;exact Qu k2 ((sj h).symm) [0,1,2,3,4]
  replace h:=Qdd b0 h;refine QN <|Qu J1 (ho _ (sj h).symm) [4,5]
 refine Qj <|Qai h0 (λ(s1:Int×Int×List Qg)=>[(7,ti s1.1),(6,ti s1.2.1),(5,tv (m1 1)),(2,tptr (Qd.cs x_)),(4,tv (m0 1)),(1,tsl rI l_)]) (λ(s1:Int×Int×List Qg)=>[box (Qd.cs zz4) (m0 1),own Qk 47 s1.2.2 (m2 3),box ([ti x_.Version,tvs (m2 3),tsl QH x_.Xd,tsl QC x_.Xc]) (m1 1)]) [0,1,3,4,5,6] ?_;clear h;intro s1 o K3 h ho k5;refine Qf λ_ k6=>Qa [2,4,5,6,7,8,9,10] ?_;refine QfI 1 (λb1=>?_) (λb1=>?_)
 ·replace h:=Qdc b1 h;refine Qq <|k6 <|Qf λK4 k7=>Qj ?_;have⟨_,_,_,_,h⟩:=bs2 h;refine Qa [6,7,9,10,11,12,13,14] ?_;have⟨_,_,t1,_,h⟩:=bs2 h;refine QM [v0 (own Qk 47 t1 (m2 3))] [7] [1,6,7,8,9,10,11,12,13] λm6=>?_;have⟨_,_,_,_,t2,_,h⟩:=bs3 h;refine QM [v0 (own Qk 47 t2 (m2 3))] [12] [1,11,13,14,15,16,17,18,19] λm7=>?_;have⟨t3,h2,_,h3,t4,h4,h⟩:=bs3 h;intro a w H;refine sr mx [v1 3 (λv0=>own Qe 49 ([]:List Qc) v0),v1 10 (λv0=>own Qe 49 (([]:List Qc)++t3.Xb) v0),v1 10 (λv0=>own (QbW Qk 3) 47 (Qcl t2 s1.1 v0) (m2 3))] H (λ_=>.u [1] rfl rfl (QaM Qd1 z5)<|.u [1] rfl rfl (Qbl (u:=(m2 3)) Qil z0 rfl)<|.q 5 rfl<|.m [] [3] rfl rfl rfl (Qdb (R:=Qe) (us:=([]:List Qc)) ud45 Qa4 (.nil _) rfl (leb rfl) (leb rfl))<|.o (Q7 Qd1 z10)<|.o (Q5 (u:=x_.Xa) QkF z0 rfl)<|.q 9 rfl<|.o (Qd7 ud29 Qdh z1 z0 h2)<|.o (Q7 QcF z0)<|.o (Q5 (u:=t3.Xb) QkE z0 rfl)<|.e [] [3] [4] rfl rfl rfl rfl (QaD (R:=Qe) ud45 Qa4 (leb rfl) z6 z0 h3)<|.u [2] rfl rfl (Qbe ud29 Qdh z9 z8 h4)<|.u [2] rfl rfl (Qex QcF z0 (Qhw h4))<|.e [4] [2] [5] rfl rfl rfl rfl (Qvh (R:=Qk) (R2:=Qe) (e2:=49) (ys:=(([]:List Qc)++t3.Xb)) QfG z0 z2 h4 (leb rfl))<|.n) λm8 a w H=>?_;have H:=H.to [1,10,13,14,15,16,17,18,19,20,21] [_,_,_,_,_,_,_,_,_,_,_] [_,_,_,_] rfl rfl;refine Q6 H ?_;refine Qa [2,3,4,5,6,7,8,9,10,11,12] ?_;refine Qa [0,1,2,3,4,5,6,7,8,9,10,11] ?_;have⟨e3,h5,h⟩:=bs h;have J2:∀(p2:Int×List Qc),p2=e3->To M w0 153 [(6,ti p2.1),(7,ti s1.1),(5,tv (m1 1)),(2,tptr (Qd.cs x_)),(4,tv (m0 1)),(1,tsl rI l_)] [box (Qd.cs zz4) (m0 1),box ([ti x_.Version,tvs (m2 3),tsl QH x_.Xd,tsl QC x_.Xc]) (m1 1),own Qe 49 p2.2 (m8 10),own (QbW Qk 3) 47 (Qcl t2 s1.1 (m8 10)) (m2 3)] K4:=by
   intro p2 he;subst he;refine k7 <|QJ [2,3,4,5,6,7] ?_;refine Qah (As'':=[own Qk 47 (t2.set (s1.1).toNat (Qg.mk t4.Xj t4.Lo t4.Hi p2.2)) (m2 3),box (Qd.cs zz4) (m0 1),box ([ti x_.Version,tvs (m2 3),tsl QH x_.Xd,tsl QC x_.Xc]) (m1 1)]) (λ_ _ H=>((H.pick [0,1,2,3,4,5]).Xk [2,3,0,1] rfl).closeH (u':=(Qg.mk t4.Xj t4.Lo t4.Hi p2.2)) h4 (leb rfl) rfl) ?_;refine Qah (λ_ _ H=>(H.pick [0,1,2,3,4,5]).Xk [1,0,2] rfl) ?_;exact Qu k5 ((sj h).symm) [0,1,2,3,4,5]
  refine Qj <|Qai h5 (λ(s2:Int×Int×List Qc)=>[(9,ti s2.1),(6,ti s2.2.1),(7,ti s1.1),(5,tv (m1 1)),(2,tptr (Qd.cs x_)),(4,tv (m0 1)),(1,tsl rI l_)]) (λ(s2:Int×Int×List Qc)=>[box (Qd.cs zz4) (m0 1),box ([ti x_.Version,tvs (m2 3),tsl QH x_.Xd,tsl QC x_.Xc]) (m1 1),own Qe 49 s2.2.2 (m8 10),own (QbW Qk 3) 47 (Qcl t2 s1.1 (m8 10)) (m2 3)]) [0,1,7,8,9,10,11] ?_;clear h;intro s2 o K5 h ho k8;refine Qf λ_ k9=>?_;intro a w H;refine sr mx [] H (λ_=>.q 0 rfl<|.u [1] rfl rfl (QaM Qd1 z4)<|.u [1] rfl rfl (Qbl (u:=(m2 3)) Qil z0 rfl)<|.q 5 rfl<|.u [3] rfl rfl (QlA ud29 Qdh z1 z0 h4)<|.u [3] rfl rfl (QlB QcF z0 h4)<|.u [3] rfl rfl (Qm3 (R:=Qk) (k:=3) QfG z0 h4 (leb rfl))<|.u [2] rfl rfl (QfW ud45 z0)<|.o (Qc0 z7 z0)<|.n) λ_ a w H=>?_;have H:=H.to [2,6,8,9,10,11,12,13,14,15] [_,_,_,_,_,_,_,_,_,_] [_,_,_,_] rfl rfl;refine Q6 H ?_;refine QfI 2 (λb2=>?_) (λb2=>?_)
  ·replace h:=Qdc b2 h;refine Qq <|k9 <|Qf λ_ k10=>Qj ?_;have⟨t5,h6,h⟩:=bs h;intro a w H;refine sr mx [v1 9 (λv0=>box (Qe.cs zz0) v0),v1 9 (λv0=>box (Qe.cs t5) v0)] H (λ_=>.u [1] rfl rfl (QaM Qd1 z6)<|.u [1] rfl rfl (Qbl (u:=(m2 3)) Qil z0 rfl)<|.q 7 rfl<|.u [3] rfl rfl (QlA ud29 Qdh z1 z0 h4)<|.u [3] rfl rfl (QlB QcF z0 h4)<|.u [3] rfl rfl (Qm3 (R:=Qk) (k:=3) QfG z0 h4 (leb rfl))<|.q 9 rfl<|.u [2] rfl rfl (Qbe ud45 Qa4 z1 z0 h6)<|.u [2] rfl rfl (QeN Qa4 z0 h6)<|.m [] [4] rfl rfl rfl (QbH (R:=Qe) (a:=zz0) Qa4 Qmp)<|.e [] [4] [5] rfl rfl rfl rfl (Qbd (R:=Qe) (a:=t5) Qa4 z0 z1 (leb rfl))<|.n) λm9 a w H=>?_;have H:=H.to [1,5,9,10,11,13,14,15,16,17,18,19] [_,_,_,_,_,_,_,_,_,_,_,_] [_,_,_,_,_] rfl rfl;refine Q6 H ?_;refine Qf λK6 k11=>Qa [2,3,4,5,6,7,8,9,10,11,12,13,14] ?_;have⟨p3,h7,h⟩:=bs h;have J3:To M w0 153 [(10,tv (m9 9)),(9,ti s2.1),(6,ti s2.2.1),(7,ti s1.1),(5,tv (m1 1)),(2,tptr (Qd.cs x_)),(4,tv (m0 1)),(1,tsl rI l_)] [box (Qd.cs zz4) (m0 1),box ([ti x_.Version,tvs (m2 3),tsl QH x_.Xd,tsl QC x_.Xc]) (m1 1),own Qe 49 s2.2.2 (m8 10),own (QbW Qk 3) 47 (Qcl t2 s1.1 (m8 10)) (m2 3),box (Qe.cs p3) (m9 9)] K6:=by
    refine k11 <|Qf λK7 k12=>Qa [7,8,9,10,11,12,13,14,15] ?_;have⟨p4,h8,h⟩:=bs h;have J4:To M w0 153 [(10,tv (m9 9)),(9,ti s2.1),(6,ti s2.2.1),(7,ti s1.1),(5,tv (m1 1)),(2,tptr (Qd.cs x_)),(4,tv (m0 1)),(1,tsl rI l_)] [box (Qd.cs zz4) (m0 1),box ([ti x_.Version,tvs (m2 3),tsl QH x_.Xd,tsl QC x_.Xc]) (m1 1),own Qe 49 s2.2.2 (m8 10),own (QbW Qk 3) 47 (Qcl t2 s1.1 (m8 10)) (m2 3),box (Qe.cs p4) (m9 9)] K7:=by
     refine k12 ?_;have⟨t6,h9,h⟩:=bs h;intro a w H;refine sr mx [v0 (own Qe 49 t6 (m8 10))] H (λ_=>.u [1] rfl rfl (QaM Qd1 z4)<|.u [1] rfl rfl (Qbl (u:=(m2 3)) Qil z0 rfl)<|.q 5 rfl<|.u [3] rfl rfl (QlA ud29 Qdh z1 z0 h4)<|.u [3] rfl rfl (QlB QcF z0 h4)<|.u [3] rfl rfl (Qm3 (R:=Qk) (k:=3) QfG z0 h4 (leb rfl))<|.q 7 rfl<|.u [4] rfl rfl (Qkr (R:=Qe) (u:=p4) Qa4 z7 rfl)<|.u [2] rfl rfl (Qhv ud45 Qa4 z2 z1 h9)<|.e [] [2] [5] rfl rfl rfl rfl (Qhn Qa4 z0 z1 h9)<|.n) λ_ a w H=>?_;replace H:St _ _ _ [_,_,_,_,_,_,_,_,_] [_,_,_,_] _ _:=(H.pick [1,5,10,11,12,13,14,15,16]).Xk [0,1,2,4] rfl;refine Q6 H ?_;refine QJ [2,3,4,5,6,7,8,9,10] ?_;refine k10 <|QJ [2,3,4,5,6,7,8,9,10] ?_;refine Qah (λ_ _ H=>(H.pick [0,1,4,5,6,7,8]).Xk [0,1,3,2] rfl) ?_;exact Qu k8 ((sj h).symm) [0,1,2,3,4,5,6]
    replace h:=h8;clear h8;refine Qn h (λ_ h=>?_) (λ_ h=>?_)
    ·have⟨t7,_,h⟩:=bs h;refine QM [v0 (box (Qe.cs (Qc.mk p3.Xj p3.Of p3.Up p3.Xi t7 p3.Hi p3.Words p3.Xf)) (m9 9))] [5] [5,6,7,8,9,10,11,12] λm10=>?_;have⟨t8,_,h⟩:=bs h;refine Qau [v0 (box (Qe.cs (Qc.mk p3.Xj p3.Of p3.Up p3.Xi t7 (i64.wrap (t7+t8)) p3.Words p3.Xf)) (m9 9))] [9] [8,9,10,11,12,13,14,15] λm11=>?_;obtain rfl:=sj h;exact QR J4 [0,1,2,3,4,5,6,7]
    refine Qq ?_;obtain rfl:=sj h;exact QR J4 [1,2,3,4,5,6,7,8]
   replace h:=h7;clear h7;refine Qn h (λ_ h=>?_) (λ_ h=>?_)
   ·have⟨t9,_,h⟩:=bs h;refine QM [v0 (box (Qe.cs (Qc.mk t5.Xj t5.Of t5.Up t5.Xi t9 t5.Hi t5.Words t5.Xf)) (m9 9))] [5] [5,6,7,8,9,10,11,12,13,14,15,16] λm12=>?_;have⟨t10,_,h⟩:=bs h;refine Qau [v0 (box (Qe.cs (Qc.mk t5.Xj t5.Of t5.Up t5.Xi t9 (i64.wrap (t9+t10)) t5.Words t5.Xf)) (m9 9))] [9] [8,9,10,11,12,13,14,15,16,17,18,19] λm13=>?_;obtain rfl:=sj h;exact QR J3 [2,5,6,7,8,9,10,11]
   refine Qq ?_;obtain rfl:=sj h;exact QR J3 [3,6,7,8,9,10,11,12]
  replace h:=Qdd b2 h;refine QN <|Qu J2 (ho _ (sj h).symm) [4,5,6,7,8,9]
 replace h:=Qdd b1 h;refine QN <|Qu J0 (ho _ (sj h).symm) [3,4,5,6,7]
def QaN (n_:Int) (least_:Int) (most_:Int):Option (Bool):=(some ((decide (n_>=least_))&&(decide (n_<=most_))))
instance Qzu:Spc3 prog 185 QaN (λn_ least_ most_=>[ti n_,ti least_,ti most_]) tb:=.mk λ{n_ least_ most_ r} h=>by
 unfold QaN at h
 refine Fe func185 ntmps185 λM0 M w0 hpl=>?_
 refine Qa [1,2,3] ?_
 refine Qa [8] ?_
 exact Qo h (·▸Qm hpl)
def Qet (c_:Int):Option (Bool):=(some ((decide (c_>=97))&&(decide (c_<=122))))
instance Qzv:Spc1 prog 226 Qet (λc_=>[tv (.int .u8 c_)]) tb:=.mk λ{c_ r} h=>by
 unfold Qet at h
 refine Fe func226 ntmps226 λM0 M w0 hpl=>?_
 refine Qa [1] ?_
 refine Qa [6] ?_
 exact Qo h (·▸Qm hpl)
def Qhz (c_:Int):Option (Bool):=(some ((decide (c_>=48))&&(decide (c_<=57))))
instance QBX:Spc1 prog 227 Qhz (λc_=>[tv (.int .u8 c_)]) tb:=.mk λ{c_ r} h=>by
 unfold Qhz at h
 refine Fe func227 ntmps227 λM0 M w0 hpl=>?_
 refine Qa [1] ?_
 refine Qa [6] ?_
 exact Qo h (·▸Qm hpl)
def Qa0 (s_:Str):Option (Bool):=(opt (((decide ((s_.length:Int)<1))||(decide ((s_.length:Int)>12)))==false) (idx s_ 0) default).bind λt0=>(opt (((decide ((s_.length:Int)<1))||(decide ((s_.length:Int)>12)))==false) (Qet (t0.toNat:Int)) default).bind λt1=>(if (((decide ((s_.length:Int)<1))||(decide ((s_.length:Int)>12)))||(!t1))=true then (some false) else (Ql (λ(s0:Int)=>((if (decide (s0<(s_.length:Int)))=true then (idx s_ s0).bind λt2=>(Qet (t2.toNat:Int)).bind λt3=>(opt ((!t3)==true) (idx s_ s0) default).bind λt4=>(opt ((!t3)==true) (Qhz (t4.toNat:Int)) default).bind λt5=>(if ((!t3)&&(!t5))=true then (some (.inr (.inr false))) else (some (.inl (i64.wrap (s0+1))))) else (some (.inr (.inl ())))):Option ((Int)⊕((Unit)⊕(Bool))))) (0:Int)).bind λe0=>(match e0 with | .inl _=>(some true) | .inr p0=>(some p0)))
instance Qzw:Spc1 prog 213 Qa0 (λs_=>[tv (.string (sB s_))]) tb:=.mk λ{s_ r} h=>by
 unfold Qa0 at h
 refine Fe func213 ntmps213 λM0 M w0 hpl=>?_
 refine Qa [1] ?_
 have⟨_,_,_,_,h⟩:=bs2 h
 refine tIfs h [13,14] (λ_ h=>?_) (λ_ h=>?_)
 ·refine Qa [0] ?_
  exact Qo h (·▸Qm hpl)
 refine Qf λK0 k0=>?_
 refine Qa [0,2] ?_
 have⟨e0,h0,h⟩:=bs h
 have J0:∀(p0:Unit),(.inl p0)=e0->To M w0 36 [] [] K0:=by
  intro p0 he;subst he;simp only at h;refine k0 <|Qa [0] ?_;exact Qo h (·▸Qm hpl)
 have J1:∀(p1:Bool),(.inr p1)=e0->To M w0 36 [(2,tb p1)] [] (Ret prog f213 M0 [] w0 (λ_=>[]) (λ_=>tb r) .ret):=by
  intro p1 he;subst he;simp only at h;obtain rfl:=sj h;exact Qm hpl
 refine Qj <|Qai h0 (λ(s0:Int)=>[(3,ti s0),(0,tv (.string (sB s_)))]) (λ(s0:Int)=>[]) [0,1] ?_;clear h;intro s0 o K1 h ho k1;refine Qf λ_ k2=>Qa [3,4,5] ?_;refine Qn h (λ_ h=>?_) (λ_ h=>?_)
 ·refine Qq <|k2 <|Qf λ_ k3=>Qj ?_;have⟨_,_,_,_,_,_,_,_,h⟩:=bs4 h;refine Qa [11,13,14] ?_;refine Qn h (λ_ h=>?_) (λ_ h=>?_)
  ·refine Qa [0] ?_;refine Qal ?_;exact Qu J1 (ho _ (sj h).symm) [0]
  refine Qq <|k3 <|QJ [2,4] ?_;exact Qu k1 ((sj h).symm) [0,1]
 refine QN <|Qu J0 (ho _ (sj h).symm) []
def Qdj (lo_:Int) (hi_:Int) (least_:Int) (most_:Int):Option (Bool):=(some (((decide (lo_>=least_))&&(decide (lo_<=hi_)))&&(decide (hi_<=most_))))
instance QCX:Spc4 prog 214 Qdj (λlo_ hi_ least_ most_=>[ti lo_,ti hi_,ti least_,ti most_]) tb:=.mk λ{lo_ hi_ least_ most_ r} h=>by
 unfold Qdj at h
 refine Fe func214 ntmps214 λM0 M w0 hpl=>?_
 refine Qa [1,2,3,4] ?_
 refine Qa [13] ?_
 exact Qo h (·▸Qm hpl)
def Qbr (kind_:Int):Option (Bool×Bool×Bool×Bool×Bool):=(some (((((((kind_==1)||(kind_==4))||(kind_==5))||(kind_==6))||(kind_==7))||(kind_==8)),((kind_==7)||(kind_==8)),((((((kind_==1)||(kind_==2))||(kind_==4))||(kind_==5))||(kind_==7))||(kind_==0)),(((((kind_==1)||(kind_==2))||(kind_==4))||(kind_==5))||(kind_==7)),(kind_==3)))
instance QCY:Spc1 prog 228 Qbr (λkind_=>[ti kind_]) (λr=>ttup [tb r.1,tb r.2.1,tb r.2.2.1,tb r.2.2.2.1,tb r.2.2.2.2]):=.mk λ{kind_ r} h=>by
 unfold Qbr at h
 refine Fe func228 ntmps228 λM0 M w0 hpl=>?_
 refine Qa [5] ?_
 refine Qa [22,23] ?_
 refine Qa [6,7,8] ?_
 refine Qa [18,19,20,21] ?_
 refine Qa [10,11,12,13,14] ?_
 exact Qo h (·▸Qm hpl)
def Qe2 (l_:(List Str)):Option (Bool):=(Ql (λ(s0:Int)=>((if (decide (s0<(l_.length:Int)))=true then (idx l_ s0).bind λt0=>(Qa0 t0).bind λt1=>(if (!t1)=true then (some (.inr (.inr false))) else (some (.inl (i64.wrap (s0+1))))) else (some (.inr (.inl ())))):Option ((Int)⊕((Unit)⊕(Bool))))) (0:Int)).bind λe0=>(match e0 with | .inl _=>(some true) | .inr p0=>(some p0))
instance QBY:Spc1 prog 216 Qe2 (λl_=>[tsl rS l_]) tb:=.mk λ{l_ r} h=>by
 unfold Qe2 at h
 refine Fe func216 ntmps216 λM0 M w0 hpl=>?_
 refine Qa [1] ?_
 refine Qf λK0 k0=>?_
 refine Qa [0,1] ?_
 have⟨e0,h0,h⟩:=bs h
 have J0:∀(p0:Unit),(.inl p0)=e0->To M w0 16 [] [] K0:=by
  intro p0 he;subst he;simp only at h;refine k0 <|Qa [0] ?_;exact Qo h (·▸Qm hpl)
 have J1:∀(p1:Bool),(.inr p1)=e0->To M w0 16 [(2,tb p1)] [] (Ret prog f216 M0 [] w0 (λ_=>[]) (λ_=>tb r) .ret):=by
  intro p1 he;subst he;simp only at h;obtain rfl:=sj h;exact Qm hpl
 refine Qj <|Qai h0 (λ(s0:Int)=>[(3,ti s0),(0,tsl rS l_)]) (λ(s0:Int)=>[]) [0,1] ?_;clear h;intro s0 o K1 h ho k1;refine Qf λ_ k2=>Qa [3,4,5] ?_;refine Qn h (λ_ h=>?_) (λ_ h=>?_)
 ·refine Qq <|k2 <|Qf λ_ k3=>Qj ?_;have⟨_,_,_,_,h⟩:=bs2 h;refine Qa [5,7,8] ?_;refine Qn h (λ_ h=>?_) (λ_ h=>?_)
  ·refine Qa [0] ?_;refine Qal ?_;exact Qu J1 (ho _ (sj h).symm) [0]
  refine Qq <|k3 <|QJ [2,4] ?_;exact Qu k1 ((sj h).symm) [0,1]
 refine QN <|Qu J0 (ho _ (sj h).symm) []
def QfJ (f_:Qc):Option (Bool):=(Ql (λ(s0:Int×Int)=>((if (decide (s0.1<(f_.Xf.length:Int)))=true then (idx f_.Xf s0.1).bind λt0=>(QaN t0 0 1048576).bind λt1=>(if (!t1)=true then (some (.inr (.inr false))) else (idx f_.Xf s0.1).bind λt2=>(some (.inl ((i64.wrap (s0.1+1)),(i64.wrap (s0.2+t2)))))) else (some (.inr (.inl s0.2)))):Option ((Int×Int)⊕((Int)⊕(Bool))))) ((0:Int),(0:Int))).bind λe0=>(match e0 with | .inl p0=>(QaN (f_.Words.length:Int) 1 12).bind λt3=>(opt (((t3&&((f_.Words.length:Int)==(f_.Xf.length:Int)))&&(decide (p0>0)))==true) (Qe2 f_.Words) default).bind λt4=>(some (((t3&&((f_.Words.length:Int)==(f_.Xf.length:Int)))&&(decide (p0>0)))&&t4)) | .inr p1=>(some p1))
instance Qzx:Spc1 prog 229 QfJ (λf_=>[Qe.ty f_]) tb:=.mk λ{f_ r} h=>by
 unfold QfJ at h
 refine Fe func229 ntmps229 λM0 M w0 hpl=>?_
 refine Qa [0] ?_
 refine Qa [0,1] ?_
 refine Qf λK0 k0=>?_
 refine Qa [0,1,2] ?_
 have⟨e0,h0,h⟩:=bs h
 have J0:∀(p0:Int),(.inl p0)=e0->To M w0 48 [(3,ti p0),(1,tptr (Qe.cs f_))] [] K0:=by
  intro p0 he;subst he;simp only at h;refine k0 ?_;have⟨_,_,_,_,h⟩:=bs2 h;refine Qa [22] ?_;exact Qo h (·▸Qm hpl)
 have J1:∀(p1:Bool),(.inr p1)=e0->To M w0 48 [(2,tb p1)] [] (Ret prog f229 M0 [] w0 (λ_=>[]) (λ_=>tb r) .ret):=by
  intro p1 he;subst he;simp only at h;obtain rfl:=sj h;exact Qm hpl
 refine Qj <|Qai h0 (λ(s0:Int×Int)=>[(4,ti s0.1),(3,ti s0.2),(1,tptr (Qe.cs f_))]) (λ(s0:Int×Int)=>[]) [0,1,2] ?_;clear h;intro s0 o K1 h ho k1;refine Qf λ_ k2=>Qa [4,5,6,7] ?_;refine Qn h (λ_ h=>?_) (λ_ h=>?_)
 ·refine Qq <|k2 <|Qf λ_ k3=>Qj ?_;have⟨_,_,_,_,h⟩:=bs2 h;refine tIfs h [6,8,9,10] (λ_ h=>?_) (λ_ h=>?_)
  ·refine Qa [0] ?_;refine Qal ?_;exact Qu J1 (ho _ (sj h).symm) [0]
  have⟨_,_,h⟩:=bs h;refine QJ [7,9,10] ?_;refine k3 <|QJ [2,3,4] ?_;exact Qu k1 ((sj h).symm) [0,1,2]
 refine QN <|Qu J0 (ho _ (sj h).symm) [2,3]

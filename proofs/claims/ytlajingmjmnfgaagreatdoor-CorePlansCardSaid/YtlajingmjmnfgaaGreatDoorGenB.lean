/- Go functions as Lean functions, and the proofs that they compute them, written by a program. No condition. -/
import Derived.Test.YtlajingmjmnfgaaGreatDoorGenA
set_option linter.all false
open Go.Proofs.Tryz Go.IntKind
namespace Go.Proofs.YtlajingmjmnfgaaGreatDoor
noncomputable section
open Go.Sim
set_option maxRecDepth 100000
set_option maxHeartbeats 4000000
def QbW (l_:(List Int)):Option (Qa):=(sub l_ (0:Int) (imin (l_.length:Int) (200:Int))).bind fun t0=>(QD (Qn.mk t0 (0:Int)) (4:Int)).bind fun t1=>(QD t1.2 (3:Int)).bind fun t2=>(Ql (fun (s0:Int×List Qg×Qn)=>((if (decide (s0.1<(i64.wrap ((1:Int)+t2.1))))=true then (Qbg s0.2.2 s0.2.1).bind fun t3=>(rm (t3.2.2.length+[t3.1].length)).bind fun _=>(some (.inl ((i64.wrap (s0.1+1)),(t3.2.2++[t3.1]),t3.2.1))) else (some (.inr (s0.2.1,s0.2.2)))):Option ((Int×List Qg×Qn)⊕((List Qg×Qn))))) ((0:Int),([]:List Qg),t2.2)).bind fun p0=>(QD p0.2 (3:Int)).bind fun t4=>(sub [([110,101,119]:Str),([111,112,101,110]:Str),([100,111,110,101]:Str),([115,104,117,116]:Str)] (0:Int) (i64.wrap ((2:Int)+t4.1))).bind fun t5=>(Ql (fun (s1:Int×List QK)=>((if (decide ((i64.wrap (s1.1+1))<(t5.length:Int)))=true then (rm (s1.2.length+[(QK.mk s1.1 (i64.wrap (s1.1+1)))].length)).bind fun _=>(some (.inl ((i64.wrap (s1.1+1)),(s1.2++[(QK.mk s1.1 (i64.wrap (s1.1+1)))])))) else (some (.inr s1.2))):Option ((Int×List QK)⊕((List QK))))) ((0:Int),([]:List QK))).bind fun p1=>(QD t4.2 (2:Int)).bind fun t6=>((if (t6.1==0)=true then (rm (p1.length+[(QK.mk (1:Int) (0:Int))].length)).bind fun _=>(some (p1++[(QK.mk (1:Int) (0:Int))])) else (some p1))).bind fun p2=>(QD t6.2 (3:Int)).bind fun t7=>((if (t7.1==0)=true then (rm (p2.length+[(QK.mk (0:Int) (i64.wrap ((t5.length:Int) - 1)))].length)).bind fun _=>(some (p2++[(QK.mk (0:Int) (i64.wrap ((t5.length:Int) - 1)))])) else (some p2))).bind fun p3=>(rm (([]:List QB).length+[(QB.mk ([108,105,102,101]:Str) t5 p3)].length)).bind fun _=>(Ql (fun (s2:Int×List Qo×Qn)=>((if ((decide (s2.1<(i64.wrap ((1:Int)+t2.1))))&&(decide ((s2.2.1.length:Int)<2)))=true then (idx p0.1 s2.1).bind fun t8=>(Qbh s2.2.2 t8).bind fun t9=>((if t9.2.1=true then (rm (s2.2.1.length+[t9.1].length)).bind fun _=>(some (s2.2.1++[t9.1])) else (some s2.2.1))).bind fun p4=>(some (.inl ((i64.wrap (s2.1+1)),p4,t9.2.2))) else (some (.inr s2.2.1))):Option ((Int×List Qo×Qn)⊕((List Qo))))) ((0:Int),([]:List Qo),t7.2)).bind fun p5=>(some (Qa.mk t1.1 p0.1 (([]:List QB)++[(QB.mk ([108,105,102,101]:Str) t5 p3)]) p5))
instance QzP:Spc1 prog 15 QbW (fun l_=>[tsl rI l_]) Qf.ty:=.mk fun {l_ r} h=>by
 unfold QbW at h
 refine Fe func15 ntmps15 fun M0 M w0 hpl=>?_
 refine QV [v1 0 (fun v0=>box (Qf.cs zz4) v0)] [1] [0,1] fun m0=>?_
 have⟨t0,_,h⟩:=bs h
 refine QV [v1 6 (fun v0=>box (Qm.cs (Qn.mk t0 (0:Int))) v0)] [7] [7,8] fun m1=>?_
 have⟨t1,h0,h⟩:=bs h
 intro a w H
 refine sr mx [v0 (box (Qm.cs t1.2) (m1 6)),v1 3 (fun v0=>box (Qf.cs zz4) v0),v1 3 (fun v0=>box ([ti t1.1,tvs nilV,tvs nilV,tvs nilV]) v0)] H (fun _=>.q 0 rfl<|.e [] [1] [2] rfl rfl rfl rfl (QG Qfl (QaG.ok h0) (.cons (.of z0)<|.cons (.of .k)<|.nil))<|.p (T:=tagg ([ti t1.1,tvs nilV,tvs nilV,tvs nilV])) rfl (QaJ underlying33 pl33 zv33 QqP.1 (.cons (R:=rI) (u:=t1.1) rfl z0 (leb rfl)<|.nil _))<|.m [] [3] rfl rfl rfl (QaP (R:=Qf) (a:=zz4) Qc2 zok33)<|.e [] [3] [4] rfl rfl rfl rfl (QaB (R:=(rAgg ([ti t1.1,tvs nilV,tvs nilV,tvs nilV]) (Qp (Q1 rfl) (Qp QcU (Qp QcU (Qp QcU Qaf)))))) (a:=()) (tokA Qc2 (Qp (Q1 rfl) (Qp QcU (Qp QcU (Qp QcU Qaf)))) rfl rfl) z0 z1 (leb rfl))<|.n) fun m2 a w H=>?_
 replace H:St _ _ _ [_,_,_] [_,_,_,_,_,_] _ _:=(((H.pick [3,4,5]).nil (Qh) 47).nil (QI) 111).nil (QF) 104
 refine Q2 H ?_
 have⟨t2,_,h⟩:=bs h
 refine QV [v0 (box (Qm.cs t2.2) (m1 6))] [2] [3,4,5,6] fun m3=>?_
 refine Qk fun K0 k0=>?_
 refine Qb [0,1,2,3,4] ?_
 have⟨e0,h1,h⟩:=bs h
 have J0:∀(p0:List Qg×Qn) (y0:Value),p0=e0→To M w0 119 [(5,ti (i64.wrap ((1:Int)+t2.1))),(4,tv (m2 3)),(3,tv (m1 6)),(2,tv (m0 0))] [own QF 104 ([]:List Qo) nilV,own QI 111 ([]:List QB) nilV,own Qh 47 p0.1 y0,box (Qf.cs zz4) (m0 0),box ([ti t1.1,tvs y0,tvs nilV,tvs nilV]) (m2 3),box (Qm.cs p0.2) (m1 6)] K0:=by
  intro p0 y0 he;subst he;refine k0 ?_;have⟨t3,_,t4,_,h⟩:=bs2 h;refine QV [v0 (box (Qm.cs t3.2) (m1 6))] [3] [5,6,7,8,9] fun m4=>?_;intro a w H;refine sr mx [v1 2 (fun v0=>box (QI.cs zz2) v0),v1 2 (fun v0=>box ([tv (.string (sB ([108,105,102,101]:Str))),tsl rS t4,tvs nilV]) v0)] H (fun _=>.q 0 rfl<|.p (T:=tagg ([tv (.string (sB ([108,105,102,101]:Str))),tsl rS t4,tvs nilV])) rfl (QaJ underlying111 pl111 zv111 QvA.1 (.cons (R:=rS) (u:=([108,105,102,101]:Str)) rfl .k (leb rfl)<|.cons (R:=(rSl rS)) (u:=t4) rfl z0 (leb rfl)<|.nil _))<|.m [] [6] rfl rfl rfl (QaP (R:=QI) (a:=zz2) QnD Qvz)<|.e [] [6] [7] rfl rfl rfl rfl (QaB (R:=(rAgg ([tv (.string (sB ([108,105,102,101]:Str))),tsl rS t4,tvs nilV]) (Qp (Q1 rfl) (Qp Qba (Qp QcU Qaf))))) (a:=()) (tokA QnD (Qp (Q1 rfl) (Qp Qba (Qp QcU Qaf))) rfl rfl) z0 z1 (leb rfl))<|.n) fun m5 a w H=>?_;replace H:St _ _ _ [_,_,_,_,_,_] [_,_,_,_,_,_,_,_] _ _:=(H.pick [2,3,4,5,6,7]).nil (Qal) 112;refine Q2 H ?_;refine Qk fun K1 k1=>?_;refine Qb [0,1,2,3,4,5,6] ?_;have⟨e1,h2,h⟩:=bs h;have J1:∀(p1:List QK) (y1:Value),p1=e1→To M w0 119 [(8,tv (m5 2)),(7,tsl rS t4),(5,ti (i64.wrap ((1:Int)+t2.1))),(4,tv (m2 3)),(3,tv (m1 6)),(2,tv (m0 0))] [own Qal 112 p1 y1,own QF 104 ([]:List Qo) nilV,own QI 111 ([]:List QB) nilV,own Qh 47 p0.1 y0,box (Qf.cs zz4) (m0 0),box ([ti t1.1,tvs y0,tvs nilV,tvs nilV]) (m2 3),box (Qm.cs t3.2) (m1 6),box ([tv (.string (sB ([108,105,102,101]:Str))),tsl rS t4,tvs y1]) (m5 2)] K1:=by
   intro p1 y1 he;subst he;refine k1 ?_;refine Qk fun K2 k2=>?_;have⟨t5,_,h⟩:=bs h;refine QV [v0 (box (Qm.cs t5.2) (m1 6))] [2] [2,3,4,5,6,7,8] fun m6=>?_;have⟨p2,h3,h⟩:=bs h;have J2:∀(y2:Value),To M w0 119 [(8,tv (m5 2)),(7,tsl rS t4),(5,ti (i64.wrap ((1:Int)+t2.1))),(4,tv (m2 3)),(3,tv (m1 6)),(2,tv (m0 0))] [own QF 104 ([]:List Qo) nilV,own QI 111 ([]:List QB) nilV,own Qh 47 p0.1 y0,box (Qf.cs zz4) (m0 0),box ([ti t1.1,tvs y0,tvs nilV,tvs nilV]) (m2 3),box (Qm.cs t5.2) (m1 6),own Qal 112 p2 y2,box ([tv (.string (sB ([108,105,102,101]:Str))),tsl rS t4,tvs y2]) (m5 2)] K2:=by
    intro y2;refine k2 ?_;refine Qk fun K3 k3=>?_;have⟨t6,_,h⟩:=bs h;refine QV [v0 (box (Qm.cs t6.2) (m1 6))] [2] [2,3,4,5,6,7,8] fun m7=>?_;have⟨p3,h4,h⟩:=bs h;have J3:∀(y3:Value),To M w0 119 [(8,tv (m5 2)),(5,ti (i64.wrap ((1:Int)+t2.1))),(4,tv (m2 3)),(3,tv (m1 6)),(2,tv (m0 0))] [own QF 104 ([]:List Qo) nilV,own QI 111 ([]:List QB) nilV,own Qh 47 p0.1 y0,box (Qf.cs zz4) (m0 0),box ([ti t1.1,tvs y0,tvs nilV,tvs nilV]) (m2 3),box (Qm.cs t6.2) (m1 6),own Qal 112 p3 y3,box ([tv (.string (sB ([108,105,102,101]:Str))),tsl rS t4,tvs y3]) (m5 2)] K3:=by
     intro y3;refine k3 ?_;refine Qaa (As'':=[box (QI.cs (QB.mk ([108,105,102,101]:Str) t4 p3)) (m5 2),own QF 104 ([]:List Qo) nilV,own QI 111 ([]:List QB) nilV,own Qh 47 p0.1 y0,box (Qf.cs zz4) (m0 0),box ([ti t1.1,tvs y0,tvs nilV,tvs nilV]) (m2 3),box (Qm.cs t6.2) (m1 6)]) (fun _ _ H=>((H.pick [0,1,2,3,4]).selA [6,7,0,1,2,3,4,5] rfl).shareC 2 rfl) ?_;have⟨_,_,h⟩:=bs h;refine QV [v1 4 (fun v0=>own QI 111 (([]:List QB)++[(QB.mk ([108,105,102,101]:Str) t4 p3)]) v0),v1 4 (fun v0=>box ([ti t1.1,tvs y0,tvs v0,tvs nilV]) (m2 3))] [5,7] [4,7,8,9,10] fun m8=>?_;refine Qaa (fun _ _ H=>H.selA [1,2,3,4,5,6] rfl) ?_;refine Qk fun K4 k4=>?_;refine Qb [0,1,2,3,4,5] ?_;have⟨e2,h5,h⟩:=bs h;have J4:∀(p4:List Qo) (y4:Value),p4=e2→To M w0 119 [(4,tv (m2 3)),(2,tv (m0 0))] [own QF 104 p4 y4,own Qh 47 p0.1 y0,box (Qf.cs zz4) (m0 0),own QI 111 (([]:List QB)++[(QB.mk ([108,105,102,101]:Str) t4 p3)]) (m8 4),box ([ti t1.1,tvs y0,tvs (m8 4),tvs y4]) (m2 3)] K4:=by
      intro p4 y4 he;subst he;refine k4 ?_;refine Qaa (As'':=[box ([ti t1.1,tsl Qh p0.1,tvs (m8 4),tvs y4]) (m2 3),own QF 104 p4 y4,box (Qf.cs zz4) (m0 0),own QI 111 (([]:List QB)++[(QB.mk ([108,105,102,101]:Str) t4 p3)]) (m8 4)]) (fun _ _ H=>((H.pick [0,1]).selA [1,4,0,2,3] rfl).shareC 1 rfl) ?_;refine Qaa (As'':=[box ([ti t1.1,tsl Qh p0.1,tsl QI (([]:List QB)++[(QB.mk ([108,105,102,101]:Str) t4 p3)]),tvs y4]) (m2 3),own QF 104 p4 y4,box (Qf.cs zz4) (m0 0)]) (fun _ _ H=>((H.pick [0,1]).selA [3,0,1,2] rfl).shareC 2 rfl) ?_;refine Qaa (As'':=[box (Qf.cs (Qa.mk t1.1 p0.1 (([]:List QB)++[(QB.mk ([108,105,102,101]:Str) t4 p3)]) p4)) (m2 3),box (Qf.cs zz4) (m0 0)]) (fun _ _ H=>((H.pick [0,1]).selA [1,0,2] rfl).shareC 3 rfl) ?_;refine QV [v0 (box (Qf.cs (Qa.mk t1.1 p0.1 (([]:List QB)++[(QB.mk ([108,105,102,101]:Str) t4 p3)]) p4)) (m0 0))] [2] [2] fun m9=>?_;refine Qaa (fun _ _ H=>H.selA [1] rfl) ?_;exact Qu h (·▸Qq hpl)
     refine Qs ?_;refine Qa6 h5 (fun (s0:Int×List Qo×Qn) (y5:Value)=>[(10,ti s0.1),(5,ti (i64.wrap ((1:Int)+t2.1))),(4,tv (m2 3)),(3,tv (m1 6)),(2,tv (m0 0))]) (fun (s0:Int×List Qo×Qn) (y5:Value)=>[own QF 104 s0.2.1 y5,own Qh 47 p0.1 y0,box (Qf.cs zz4) (m0 0),box (Qm.cs s0.2.2) (m1 6),own QI 111 (([]:List QB)++[(QB.mk ([108,105,102,101]:Str) t4 p3)]) (m8 4),box ([ti t1.1,tvs y0,tvs (m8 4),tvs y5]) (m2 3)]) nilV [0,2,3,4,5] ?_;clear h;intro s0 y5 o K5 h ho k5;refine Qk fun _ k6=>?_;intro a w H;refine sr mx [] H (fun _=>.q 0 rfl<|.q 2 rfl<|.o (Qbt z1 z0)<|.q 0 rfl<|.gu [5] rfl rfl rfl bq0 (fun _=>Qab QsU z6)<|.gu [5] rfl rfl rfl bq1 (fun hc=>Qbf (u:=y5) QvR (.cond z0 hc) rfl)<|.gu [0] rfl rfl rfl bq2 (fun hc=>QeI underlying31 (.cond z0 hc))<|.g rfl rfl bq3 (fun hc=>Qbt (.cond z0 hc) .k)<|.o (Qcj z4 (fun hp=>(.cond z0 (beqT hp))))<|.n) fun _ a w H=>?_;have H:=H.to [8,9,10,11,12,13] [_,_,_,_,_,_] [_,_,_,_,_,_] rfl rfl;refine Q2 H ?_;refine Qx h (fun _ h=>?_) (fun _ h=>?_)
     ·refine QE ?_;refine k6 ?_;refine Qk fun K6 k7=>?_;refine Qs ?_;have⟨_,_,t7,_,h⟩:=bs2 h;refine QV [v0 (box (Qm.cs t7.2.2) (m1 6)),v1 10 (fun v0=>box (QF.cs zz3) v0),v1 10 (fun v0=>box (QF.cs t7.1) v0)] [7,11,12] [2,10,11,13,14,15,16,17] fun m10=>?_;refine Qaa (fun _ _ H=>(((H.selA [6,0,1,2,3,4,5] rfl).shareB 1 rfl).add 0 rfl (fun _ _ _ h=>h.2)).pick [0,2,4,5,6,7,8,9]) ?_;refine Qb [0,1,2,4,5,6,7,8] ?_;have⟨p5,h6,h⟩:=bs h;have J5:∀(y6:Value),To M w0 119 [(10,ti s0.1),(5,ti (i64.wrap ((1:Int)+t2.1))),(4,tv (m2 3)),(3,tv (m1 6)),(2,tv (m0 0))] [own Qh 47 p0.1 y0,box (Qf.cs zz4) (m0 0),own QI 111 (([]:List QB)++[(QB.mk ([108,105,102,101]:Str) t4 p3)]) (m8 4),box (Qm.cs t7.2.2) (m1 6),own QF 104 p5 y6,box ([ti t1.1,tvs y0,tvs (m8 4),tvs y6]) (m2 3)] K6:=by
       intro y6;refine k7 ?_;refine Q4 [2,3,4,5,6] ?_;refine Qar (fun _ _ H=>(H.pick [0,1,2,3,4]).selA [4,0,1,3,2,5] rfl) ?_;exact Qae k5 y6 ((sj h).symm) [0,1,2,3,4]
      replace h:=h6;clear h6;refine Qx h (fun _ h=>?_) (fun _ h=>?_)
      ·have⟨_,_,h⟩:=bs h;refine QaY [v1 4 (fun v0=>own QF 104 (s0.2.1++[t7.1]) v0),v1 4 (fun v0=>box ([ti t1.1,tvs y0,tvs (m8 4),tvs v0]) (m2 3))] [5,7] [4,8,9,10,11,12,13] fun m11=>?_;obtain rfl:=sj h;exact Q3 (J5 (m11 4)) [2,3,4,5,6]
      refine QE ?_;obtain rfl:=sj h;refine Qar (fun _ _ H=>(H.pick [3,4,5,6,7]).selA [1,2,3,5,0,4] rfl) ?_;exact Q3 (J5 y5) [0,1,2,3,4]
     refine Q7 ?_;refine Qar (fun _ _ H=>(H.pick [3,5]).selA [0,1,2,4,5] rfl) ?_;exact Qae J4 y5 (ho _ (sj h).symm) [0,1]
    replace h:=h4;clear h4;refine Qx h (fun _ h=>?_) (fun _ h=>?_)
    ·have⟨_,_,h⟩:=bs h;refine QaY [v1 7 (fun v0=>own Qal 112 (p2++[(QK.mk (0:Int) (i64.wrap ((t4.length:Int) - 1)))]) v0),v1 7 (fun v0=>box ([tv (.string (sB ([108,105,102,101]:Str))),tsl rS t4,tvs v0]) (m5 2))] [8,10] [7,10,12,13,14,15] fun m12=>?_;obtain rfl:=sj h;exact Q3 (J3 (m12 7)) [1,2,3,4,5]
    refine QE ?_;obtain rfl:=sj h;refine Qar (fun _ _ H=>(H.pick [1,3,4,5,6]).selA [0,1,2,3,4,7,5,6] rfl) ?_;exact Q3 (J3 y2) [0,1,2,3,4]
   replace h:=h3;clear h3;refine Qx h (fun _ h=>?_) (fun _ h=>?_)
   ·have⟨_,_,h⟩:=bs h;refine QaY [v1 4 (fun v0=>own Qal 112 (p1++[(QK.mk (1:Int) (0:Int))]) v0),v1 4 (fun v0=>box ([tv (.string (sB ([108,105,102,101]:Str))),tsl rS t4,tvs v0]) (m5 2))] [5,7] [4,7,8,9,10,11,12] fun m13=>?_;obtain rfl:=sj h;exact Q3 (J2 (m13 4)) [1,2,3,4,5,6]
   refine QE ?_;obtain rfl:=sj h;refine Qar (fun _ _ H=>(H.pick [1,2,3,4,5,6]).selA [1,2,3,4,5,7,0,6] rfl) ?_;exact Q3 (J2 y1) [0,1,2,3,4,5]
  refine Qs ?_;refine Qa6 h2 (fun (s1:Int×List QK) (y7:Value)=>[(9,ti s1.1),(8,tv (m5 2)),(7,tsl rS t4),(5,ti (i64.wrap ((1:Int)+t2.1))),(4,tv (m2 3)),(3,tv (m1 6)),(2,tv (m0 0))]) (fun (s1:Int×List QK) (y7:Value)=>[own Qal 112 s1.2 y7,own QF 104 ([]:List Qo) nilV,own QI 111 ([]:List QB) nilV,own Qh 47 p0.1 y0,box (Qf.cs zz4) (m0 0),box ([ti t1.1,tvs y0,tvs nilV,tvs nilV]) (m2 3),box (Qm.cs t3.2) (m1 6),box ([tv (.string (sB ([108,105,102,101]:Str))),tsl rS t4,tvs y7]) (m5 2)]) nilV [0,1,2,3,4,5,6] ?_;clear h;intro s1 y7 o K7 h ho k8;refine Qk fun _ k9=>?_;refine Qb [4,5,6,7,8,9,10,11] ?_;refine Qx h (fun _ h=>?_) (fun _ h=>?_)
  ·refine QE ?_;refine k9 ?_;refine Qk fun _ k10=>?_;refine Qs ?_;have⟨_,_,h⟩:=bs h;refine QaY [v1 7 (fun v0=>own Qal 112 (s1.2++[(QK.mk s1.1 (i64.wrap (s1.1+1)))]) v0),v1 7 (fun v0=>box ([tv (.string (sB ([108,105,102,101]:Str))),tsl rS t4,tvs v0]) (m5 2))] [8,10] [7,10,11,12,13,14,15,16] fun m14=>?_;refine k10 ?_;refine Q4 [2,3,4,5,6,7,8,9] ?_;refine Qar (fun _ _ H=>(H.pick [0,2,3,4,5,6,7]).selA [6,0,1,2,3,4,5,7] rfl) ?_;exact Qae k8 (m14 7) ((sj h).symm) [0,1,2,3,4,5,6]
  refine Q7 ?_;exact Qae J1 y7 (ho _ (sj h).symm) [2,3,4,5,6,7]
 refine Qs ?_;refine Qa6 h1 (fun (s2:Int×List Qg×Qn) (y8:Value)=>[(6,ti s2.1),(5,ti (i64.wrap ((1:Int)+t2.1))),(4,tv (m2 3)),(3,tv (m1 6)),(2,tv (m0 0))]) (fun (s2:Int×List Qg×Qn) (y8:Value)=>[own QF 104 ([]:List Qo) nilV,own QI 111 ([]:List QB) nilV,own Qh 47 s2.2.1 y8,box (Qf.cs zz4) (m0 0),box ([ti t1.1,tvs y8,tvs nilV,tvs nilV]) (m2 3),box (Qm.cs s2.2.2) (m1 6)]) nilV [0,1,2,3,4] ?_;clear h;intro s2 y8 o K8 h ho k11;refine Qk fun _ k12=>?_;refine Qb [2,3,4,5,6,7] ?_;refine Qx h (fun _ h=>?_) (fun _ h=>?_)
 ·refine QE ?_;refine k12 ?_;refine Qk fun _ k13=>?_;refine Qs ?_;have⟨t8,h7,_,h8,h⟩:=bs2 h;intro a w H;refine wr mx [v0 (box (Qm.cs t8.2.1) (m1 6)),v0 (own Qh 47 t8.2.2 y8),v1 7 (fun v0=>own Qh 47 (t8.2.2++[t8.1]) v0),v1 7 (fun v0=>box ([ti t1.1,tvs v0,tvs nilV,tvs nilV]) (m2 3))] H (fun _=>.u [4] rfl rfl (Qab QdE z3)<|.u [4] rfl rfl (Qbf (u:=y8) QhR z0 rfl)<|.q 6 rfl<|.u [4] rfl rfl (Qab QdE z6)<|.u [4] rfl rfl (Qbf (u:=y8) QhR z0 rfl)<|.e [] [5,2] [6,7] rfl rfl rfl rfl (QG Qv6 (Qk3.ok h7) (.cons (.of z2)<|.cons (.of z0)<|.nil))<|.o (Qah (R:=Qh) (us:=[t8.1]) ud29 QcO (.cons z0<|.nil _) rfl (leb rfl))<|.e [] [7] [8] rfl rfl rfl rfl (QaL (R:=Qh) ud29 QcO (leb rfl) z5 z0 h8)<|.u [4] rfl rfl (Qab QdE z11)<|.e [8] [4] [9] rfl rfl rfl rfl (Qgm (R:=Qh) (e:=47) (Ts:=([ti t1.1,tvs y8,tvs nilV,tvs nilV])) (off:=1) QhR z0 z1 (leb rfl))<|.n) fun m15 a w H=>?_;have H:=H.to [7,10,11,12,13,14] [_,_,_,_,_,_] [_,_,_,_,_,_] rfl rfl;refine QbD H ?_;refine k13 ?_;refine Q4 [2,3,4,5,6,7] ?_;refine Qar (fun _ _ H=>(H.pick [0,2,3,4,5]).selA [0,1,4,2,5,3] rfl) ?_;exact Qae k11 (m15 7) ((sj h).symm) [0,1,2,3,4]
 refine Q7 ?_;exact Qae J0 y8 (ho _ (sj h).symm) [2,3,4,5]
def QfM (x_:Qa) (l_:(List Int)):Option (Qa):=(rm (([]:List Qg).length+x_.Kinds.length)).bind fun _=>(Ql (fun (s0:Int×Int×List Qg)=>((if (decide (s0.1<(s0.2.2.length:Int)))=true then (QbB l_ s0.2.1 (6:Int)).bind fun t0=>(idx [(0:Int),(0:Int),(1:Int),(2:Int),(3:Int),(6:Int)] t0).bind fun t1=>(idx s0.2.2 s0.1).bind fun t2=>(setAt s0.2.2 s0.1 { t2 with Lo:=t1 }).bind fun t3=>(QbB l_ (i64.wrap (s0.2.1+1)) (3:Int)).bind fun t4=>(idx t3 s0.1).bind fun t5=>(setAt t3 s0.1 { t5 with Hi:=(i64.wrap (t1+t4)) }).bind fun t6=>(idx x_.Kinds s0.1).bind fun t7=>(rm (([]:List Qc).length+t7.Fields.length)).bind fun _=>(idx t6 s0.1).bind fun t8=>(Ql (fun (s1:Int×Int×List Qc)=>((if (decide (s1.1<(s1.2.2.length:Int)))=true then (idx s1.2.2 s1.1).bind fun t9=>((if (t9.Kind==1)=true then (QbB l_ s1.2.1 (3:Int)).bind fun t10=>(QbB l_ (i64.wrap (s1.2.1+1)) (3:Int)).bind fun t11=>(some (Qc.mk t9.Name t9.Of t9.Up t9.Kind t10 (i64.wrap (t10+t11)) t9.Words t9.Weights)) else (some t9))).bind fun p0=>((if ((p0.Kind==2)||(p0.Kind==4))=true then (QbB l_ s1.2.1 (12:Int)).bind fun t12=>(QbB l_ (i64.wrap (s1.2.1+1)) (6:Int)).bind fun t13=>(some (Qc.mk p0.Name p0.Of p0.Up p0.Kind t12 (i64.wrap (t12+t13)) p0.Words p0.Weights)) else (some p0))).bind fun p1=>(setAt s1.2.2 s1.1 p1).bind fun t14=>(some (.inl ((i64.wrap (s1.1+1)),(i64.wrap (s1.2.1+2)),t14))) else (some (.inr (s1.2.1,s1.2.2)))):Option ((Int×Int×List Qc)⊕((Int×List Qc))))) ((0:Int),(i64.wrap (s0.2.1+2)),(([]:List Qc)++t7.Fields))).bind fun p2=>(some (.inl ((i64.wrap (s0.1+1)),p2.1,(t6.set (s0.1).toNat (Qg.mk t8.Name t8.Lo t8.Hi p2.2))))) else (some (.inr (s0.2.1,s0.2.2)))):Option ((Int×Int×List Qg)⊕((Int×List Qg))))) ((0:Int),(0:Int),(([]:List Qg)++x_.Kinds))).bind fun p3=>(rm (([]:List Qo).length+x_.Rules.length)).bind fun _=>(Ql (fun (s2:Int×List Qo)=>((if (decide (s2.1<(s2.2.length:Int)))=true then (QbB l_ (i64.wrap (p3.1+s2.1)) (12:Int)).bind fun t15=>(idx s2.2 s2.1).bind fun t16=>(setAt s2.2 s2.1 { t16 with N:=(i64.wrap (t15 - 9)) }).bind fun t17=>(some (.inl ((i64.wrap (s2.1+1)),t17))) else (some (.inr s2.2))):Option ((Int×List Qo)⊕((List Qo))))) ((0:Int),(([]:List Qo)++x_.Rules))).bind fun p4=>(some (Qa.mk x_.Version p3.2 x_.Lives p4))
instance QBF:Spc2 prog 14 QfM (fun x_ l_=>[Qf.ty x_,tsl rI l_]) Qf.ty:=.mk fun {x_ l_ r} h=>by
 unfold QfM at h
 refine Fe func14 ntmps14 fun M0 M w0 hpl=>?_
 refine QV [v1 1 (fun v0=>box (Qf.cs zz4) v0)] [2] [0,1,3] fun m0=>?_
 refine QV [v1 1 (fun v0=>box (Qf.cs zz4) v0),v1 1 (fun v0=>box (Qf.cs x_) v0)] [2,3] [1,2,3,4] fun m1=>?_
 have⟨_,_,h⟩:=bs h
 refine QV [v1 0 (fun v0=>own Qh 47 ([]:List Qg) v0),v1 3 (fun v0=>own Qh 47 (([]:List Qg)++x_.Kinds) v0),v1 3 (fun v0=>box ([ti x_.Version,tvs v0,tsl QI x_.Lives,tsl QF x_.Rules]) (m1 1))] [1,4,6] [3,5,6,7,8] fun m2=>?_
 refine Qb [0,1,2,3,4,5] ?_
 refine Qk fun K0 k0=>?_
 refine Qb [0,1,2,3,4,5,6] ?_
 have⟨e0,h0,h⟩:=bs h
 have J0:∀(p0:Int×List Qg),p0=e0→To M w0 153 [(6,ti p0.1),(5,tv (m1 1)),(2,tptr (Qf.cs x_)),(4,tv (m0 1)),(1,tsl rI l_)] [box (Qf.cs zz4) (m0 1),own Qh 47 p0.2 (m2 3),box ([ti x_.Version,tvs (m2 3),tsl QI x_.Lives,tsl QF x_.Rules]) (m1 1)] K0:=by
  intro p0 he;subst he;refine k0 ?_;have⟨_,_,h⟩:=bs h;refine QV [v1 0 (fun v0=>own QF 104 ([]:List Qo) v0),v1 3 (fun v0=>own QF 104 (([]:List Qo)++x_.Rules) v0),v1 3 (fun v0=>box ([ti x_.Version,tvs (m2 3),tsl QI x_.Lives,tvs v0]) (m1 1))] [1,4,6] [3,5,6,8,9] fun m3=>?_;refine Qk fun K1 k1=>?_;refine Qb [0,1,2,3,4,5] ?_;have⟨e1,h1,h⟩:=bs h;have J1:∀(p1:List Qo),p1=e1→To M w0 153 [(5,tv (m1 1)),(4,tv (m0 1))] [box (Qf.cs zz4) (m0 1),own Qh 47 p0.2 (m2 3),own QF 104 p1 (m3 3),box ([ti x_.Version,tvs (m2 3),tsl QI x_.Lives,tvs (m3 3)]) (m1 1)] K1:=by
   intro p1 he;subst he;refine k1 ?_;refine Qaa (As'':=[box ([ti x_.Version,tsl Qh p0.2,tsl QI x_.Lives,tvs (m3 3)]) (m1 1),box (Qf.cs zz4) (m0 1),own QF 104 p1 (m3 3)]) (fun _ _ H=>((H.pick [0,1]).selA [1,3,0,2] rfl).shareC 1 rfl) ?_;refine Qaa (As'':=[box (Qf.cs (Qa.mk x_.Version p0.2 x_.Lives p1)) (m1 1),box (Qf.cs zz4) (m0 1)]) (fun _ _ H=>((H.pick [0,1]).selA [2,0,1] rfl).shareC 3 rfl) ?_;refine QV [v0 (box (Qf.cs (Qa.mk x_.Version p0.2 x_.Lives p1)) (m0 1))] [2] [2] fun m4=>?_;refine Qaa (fun _ _ H=>H.selA [1] rfl) ?_;exact Qu h (·▸Qq hpl)
  refine Qs ?_;refine QaK h1 (fun (s0:Int×List Qo)=>[(11,ti s0.1),(6,ti p0.1),(5,tv (m1 1)),(4,tv (m0 1)),(1,tsl rI l_)]) (fun (s0:Int×List Qo)=>[box (Qf.cs zz4) (m0 1),own Qh 47 p0.2 (m2 3),own QF 104 s0.2 (m3 3),box ([ti x_.Version,tvs (m2 3),tsl QI x_.Lives,tvs (m3 3)]) (m1 1)]) [0,2,3,4,5] ?_;clear h;intro s0 o K2 h ho k2;refine Qk fun _ k3=>?_;refine Qb [2,4,5,6,7,8,9] ?_;refine Qgp 1 (fun b0=>?_) (fun b0=>?_)
  ·replace h:=QcM b0 h;refine QE ?_;refine k3 ?_;refine Qk fun _ k4=>?_;refine Qs ?_;have⟨_,_,_,_,t0,_,h⟩:=bs3 h;refine QaY [v0 (own QF 104 t0 (m3 3))] [12] [1,11,13,14,15,16,17] fun m5=>?_;refine k4 ?_;refine Q4 [2,3,4,5,6,7,8] ?_;refine Qar (fun _ _ H=>(H.pick [0,3,4,5,6]).selA [0,1,3,2] rfl) ?_;exact QM k2 ((sj h).symm) [0,1,2,3,4]
  replace h:=QcN b0 h;refine Q7 ?_;exact QM J1 (ho _ (sj h).symm) [4,5]
 refine Qs ?_;refine QaK h0 (fun (s1:Int×Int×List Qg)=>[(7,ti s1.1),(6,ti s1.2.1),(5,tv (m1 1)),(2,tptr (Qf.cs x_)),(4,tv (m0 1)),(1,tsl rI l_)]) (fun (s1:Int×Int×List Qg)=>[box (Qf.cs zz4) (m0 1),own Qh 47 s1.2.2 (m2 3),box ([ti x_.Version,tvs (m2 3),tsl QI x_.Lives,tsl QF x_.Rules]) (m1 1)]) [0,1,3,4,5,6] ?_;clear h;intro s1 o K3 h ho k5;refine Qk fun _ k6=>?_;refine Qb [2,4,5,6,7,8,9,10] ?_;refine Qgp 1 (fun b1=>?_) (fun b1=>?_)
 ·replace h:=QcM b1 h;refine QE ?_;refine k6 ?_;refine Qk fun K4 k7=>?_;refine Qs ?_;have⟨_,_,_,_,h⟩:=bs2 h;refine Qb [6,7,9,10,11,12,13,14] ?_;have⟨_,_,t1,_,h⟩:=bs2 h;refine QV [v0 (own Qh 47 t1 (m2 3))] [7] [1,6,7,8,9,10,11,12,13] fun m6=>?_;have⟨_,_,_,_,t2,_,h⟩:=bs3 h;refine QV [v0 (own Qh 47 t2 (m2 3))] [12] [1,11,13,14,15,16,17,18,19] fun m7=>?_;have⟨t3,h2,_,h3,t4,h4,h⟩:=bs3 h;intro a w H;refine sr mx [v1 3 (fun v0=>own Qd 49 ([]:List Qc) v0),v1 10 (fun v0=>own Qd 49 (([]:List Qc)++t3.Fields) v0),v1 10 (fun v0=>own (QbL Qh 3) 47 (Qb8 t2 s1.1 v0) (m2 3))] H (fun _=>.u [1] rfl rfl (Qab QdE z5)<|.u [1] rfl rfl (Qbf (u:=(m2 3)) QhR z0 rfl)<|.q 5 rfl<|.m [] [3] rfl rfl rfl (Qgk (R:=Qd) (us:=([]:List Qc)) ud45 QaW (.nil _) rfl (leb rfl) (leb rfl))<|.o (QO QdE z10)<|.o (QN (u:=x_.Kinds) Qkm z0 rfl)<|.q 9 rfl<|.o (Qbi ud29 QcO z1 z0 h2)<|.o (QO Qce z0)<|.o (QN (u:=t3.Fields) Qjb z0 rfl)<|.e [] [3] [4] rfl rfl rfl rfl (QaL (R:=Qd) ud45 QaW (leb rfl) z6 z0 h3)<|.u [2] rfl rfl (QaQ ud29 QcO z9 z8 h4)<|.u [2] rfl rfl (Qeb Qce z0 (Qha h4))<|.e [4] [2] [5] rfl rfl rfl rfl (Qvp (R:=Qh) (R2:=Qd) (e2:=49) (ys:=(([]:List Qc)++t3.Fields)) Qfk z0 z2 h4 (leb rfl))<|.n) fun m8 a w H=>?_;have H:=H.to [1,10,13,14,15,16,17,18,19,20,21] [_,_,_,_,_,_,_,_,_,_,_] [_,_,_,_] rfl rfl;refine Q2 H ?_;refine Qb [2,3,4,5,6,7,8,9,10,11,12] ?_;refine Qb [0,1,2,3,4,5,6,7,8,9,10,11] ?_;have⟨e3,h5,h⟩:=bs h;have J2:∀(p2:Int×List Qc),p2=e3→To M w0 153 [(6,ti p2.1),(7,ti s1.1),(5,tv (m1 1)),(2,tptr (Qf.cs x_)),(4,tv (m0 1)),(1,tsl rI l_)] [box (Qf.cs zz4) (m0 1),box ([ti x_.Version,tvs (m2 3),tsl QI x_.Lives,tsl QF x_.Rules]) (m1 1),own Qd 49 p2.2 (m8 10),own (QbL Qh 3) 47 (Qb8 t2 s1.1 (m8 10)) (m2 3)] K4:=by
   intro p2 he;subst he;refine k7 ?_;refine Q4 [2,3,4,5,6,7] ?_;refine Qar (As'':=[own Qh 47 (t2.set (s1.1).toNat (Qg.mk t4.Name t4.Lo t4.Hi p2.2)) (m2 3),box (Qf.cs zz4) (m0 1),box ([ti x_.Version,tvs (m2 3),tsl QI x_.Lives,tsl QF x_.Rules]) (m1 1)]) (fun _ _ H=>((H.pick [0,1,2,3,4,5]).selA [2,3,0,1] rfl).closeH (u':=(Qg.mk t4.Name t4.Lo t4.Hi p2.2)) h4 (leb rfl) rfl) ?_;refine Qar (fun _ _ H=>(H.pick [0,1,2,3,4,5]).selA [1,0,2] rfl) ?_;exact QM k5 ((sj h).symm) [0,1,2,3,4,5]
  refine Qs ?_;refine QaK h5 (fun (s2:Int×Int×List Qc)=>[(9,ti s2.1),(6,ti s2.2.1),(7,ti s1.1),(5,tv (m1 1)),(2,tptr (Qf.cs x_)),(4,tv (m0 1)),(1,tsl rI l_)]) (fun (s2:Int×Int×List Qc)=>[box (Qf.cs zz4) (m0 1),box ([ti x_.Version,tvs (m2 3),tsl QI x_.Lives,tsl QF x_.Rules]) (m1 1),own Qd 49 s2.2.2 (m8 10),own (QbL Qh 3) 47 (Qb8 t2 s1.1 (m8 10)) (m2 3)]) [0,1,7,8,9,10,11] ?_;clear h;intro s2 o K5 h ho k8;refine Qk fun _ k9=>?_;intro a w H;refine sr mx [] H (fun _=>.q 0 rfl<|.u [1] rfl rfl (Qab QdE z4)<|.u [1] rfl rfl (Qbf (u:=(m2 3)) QhR z0 rfl)<|.q 5 rfl<|.u [3] rfl rfl (Qlg ud29 QcO z1 z0 h4)<|.u [3] rfl rfl (Qlh Qce z0 h4)<|.u [3] rfl rfl (QmR (R:=Qh) (k:=3) Qfk z0 h4 (leb rfl))<|.u [2] rfl rfl (QeI ud45 z0)<|.o (Qbt z7 z0)<|.n) fun _ a w H=>?_;have H:=H.to [2,6,8,9,10,11,12,13,14,15] [_,_,_,_,_,_,_,_,_,_] [_,_,_,_] rfl rfl;refine Q2 H ?_;refine Qgp 2 (fun b2=>?_) (fun b2=>?_)
  ·replace h:=QcM b2 h;refine QE ?_;refine k9 ?_;refine Qk fun _ k10=>?_;refine Qs ?_;have⟨t5,h6,h⟩:=bs h;intro a w H;refine sr mx [v1 9 (fun v0=>box (Qd.cs zz0) v0),v1 9 (fun v0=>box (Qd.cs t5) v0)] H (fun _=>.u [1] rfl rfl (Qab QdE z6)<|.u [1] rfl rfl (Qbf (u:=(m2 3)) QhR z0 rfl)<|.q 7 rfl<|.u [3] rfl rfl (Qlg ud29 QcO z1 z0 h4)<|.u [3] rfl rfl (Qlh Qce z0 h4)<|.u [3] rfl rfl (QmR (R:=Qh) (k:=3) Qfk z0 h4 (leb rfl))<|.q 9 rfl<|.u [2] rfl rfl (QaQ ud45 QaW z1 z0 h6)<|.u [2] rfl rfl (Qdh QaW z0 h6)<|.m [] [4] rfl rfl rfl (QaP (R:=Qd) (a:=zz0) QaW Ql9)<|.e [] [4] [5] rfl rfl rfl rfl (QaB (R:=Qd) (a:=t5) QaW z0 z1 (leb rfl))<|.n) fun m9 a w H=>?_;have H:=H.to [1,5,9,10,11,13,14,15,16,17,18,19] [_,_,_,_,_,_,_,_,_,_,_,_] [_,_,_,_,_] rfl rfl;refine Q2 H ?_;refine Qk fun K6 k11=>?_;refine Qb [2,3,4,5,6,7,8,9,10,11,12,13,14] ?_;have⟨p3,h7,h⟩:=bs h;have J3:To M w0 153 [(10,tv (m9 9)),(9,ti s2.1),(6,ti s2.2.1),(7,ti s1.1),(5,tv (m1 1)),(2,tptr (Qf.cs x_)),(4,tv (m0 1)),(1,tsl rI l_)] [box (Qf.cs zz4) (m0 1),box ([ti x_.Version,tvs (m2 3),tsl QI x_.Lives,tsl QF x_.Rules]) (m1 1),own Qd 49 s2.2.2 (m8 10),own (QbL Qh 3) 47 (Qb8 t2 s1.1 (m8 10)) (m2 3),box (Qd.cs p3) (m9 9)] K6:=by
    refine k11 ?_;refine Qk fun K7 k12=>?_;refine Qb [7,8,9,10,11,12,13,14,15] ?_;have⟨p4,h8,h⟩:=bs h;have J4:To M w0 153 [(10,tv (m9 9)),(9,ti s2.1),(6,ti s2.2.1),(7,ti s1.1),(5,tv (m1 1)),(2,tptr (Qf.cs x_)),(4,tv (m0 1)),(1,tsl rI l_)] [box (Qf.cs zz4) (m0 1),box ([ti x_.Version,tvs (m2 3),tsl QI x_.Lives,tsl QF x_.Rules]) (m1 1),own Qd 49 s2.2.2 (m8 10),own (QbL Qh 3) 47 (Qb8 t2 s1.1 (m8 10)) (m2 3),box (Qd.cs p4) (m9 9)] K7:=by
     refine k12 ?_;have⟨t6,h9,h⟩:=bs h;intro a w H;refine sr mx [v0 (own Qd 49 t6 (m8 10))] H (fun _=>.u [1] rfl rfl (Qab QdE z4)<|.u [1] rfl rfl (Qbf (u:=(m2 3)) QhR z0 rfl)<|.q 5 rfl<|.u [3] rfl rfl (Qlg ud29 QcO z1 z0 h4)<|.u [3] rfl rfl (Qlh Qce z0 h4)<|.u [3] rfl rfl (QmR (R:=Qh) (k:=3) Qfk z0 h4 (leb rfl))<|.q 7 rfl<|.u [4] rfl rfl (QiH (R:=Qd) (u:=p4) QaW z7 rfl)<|.u [2] rfl rfl (Qg8 ud45 QaW z2 z1 h9)<|.e [] [2] [5] rfl rfl rfl rfl (QgT QaW z0 z1 h9)<|.n) fun _ a w H=>?_;replace H:St _ _ _ [_,_,_,_,_,_,_,_,_] [_,_,_,_] _ _:=(H.pick [1,5,10,11,12,13,14,15,16]).selA [0,1,2,4] rfl;refine Q2 H ?_;refine Q4 [2,3,4,5,6,7,8,9,10] ?_;refine k10 ?_;refine Q4 [2,3,4,5,6,7,8,9,10] ?_;refine Qar (fun _ _ H=>(H.pick [0,1,4,5,6,7,8]).selA [0,1,3,2] rfl) ?_;exact QM k8 ((sj h).symm) [0,1,2,3,4,5,6]
    replace h:=h8;clear h8;refine Qx h (fun _ h=>?_) (fun _ h=>?_)
    ·have⟨t7,_,h⟩:=bs h;refine QV [v0 (box (Qd.cs (Qc.mk p3.Name p3.Of p3.Up p3.Kind t7 p3.Hi p3.Words p3.Weights)) (m9 9))] [5] [5,6,7,8,9,10,11,12] fun m10=>?_;have⟨t8,_,h⟩:=bs h;refine QaY [v0 (box (Qd.cs (Qc.mk p3.Name p3.Of p3.Up p3.Kind t7 (i64.wrap (t7+t8)) p3.Words p3.Weights)) (m9 9))] [9] [8,9,10,11,12,13,14,15] fun m11=>?_;obtain rfl:=sj h;exact Q3 J4 [0,1,2,3,4,5,6,7]
    refine QE ?_;obtain rfl:=sj h;exact Q3 J4 [1,2,3,4,5,6,7,8]
   replace h:=h7;clear h7;refine Qx h (fun _ h=>?_) (fun _ h=>?_)
   ·have⟨t9,_,h⟩:=bs h;refine QV [v0 (box (Qd.cs (Qc.mk t5.Name t5.Of t5.Up t5.Kind t9 t5.Hi t5.Words t5.Weights)) (m9 9))] [5] [5,6,7,8,9,10,11,12,13,14,15,16] fun m12=>?_;have⟨t10,_,h⟩:=bs h;refine QaY [v0 (box (Qd.cs (Qc.mk t5.Name t5.Of t5.Up t5.Kind t9 (i64.wrap (t9+t10)) t5.Words t5.Weights)) (m9 9))] [9] [8,9,10,11,12,13,14,15,16,17,18,19] fun m13=>?_;obtain rfl:=sj h;exact Q3 J3 [2,5,6,7,8,9,10,11]
   refine QE ?_;obtain rfl:=sj h;exact Q3 J3 [3,6,7,8,9,10,11,12]
  replace h:=QcN b2 h;refine Q7 ?_;exact QM J2 (ho _ (sj h).symm) [4,5,6,7,8,9]
 replace h:=QcN b1 h;refine Q7 ?_;exact QM J0 (ho _ (sj h).symm) [3,4,5,6,7]
def Qbl (n_:Int) (least_:Int) (most_:Int):Option (Bool):=(some ((decide (n_≥least_))&&(decide (n_≤most_))))
instance QyI:Spc3 prog 119 Qbl (fun n_ least_ most_=>[ti n_,ti least_,ti most_]) tb:=.mk fun {n_ least_ most_ r} h=>by
 unfold Qbl at h
 refine Fe func119 ntmps119 fun M0 M w0 hpl=>?_
 refine Qb [1,2,3] ?_
 refine Qb [8] ?_
 exact Qu h (·▸Qq hpl)
def QfN (x_:Qg) (c0_:(Qg→Option Bool)):Option (Bool):=(c0_ x_).bind fun t0=>(some (!t0))
instance Quq:Spc2 prog 162 QfN (fun x_ c0_=>[Qh.ty x_,tptr (Qkq.cs c0_)]) tb:=.mk fun {x_ c0_ r} h=>by
 unfold QfN at h
 refine Fe func162 ntmps162 fun M0 M w0 hpl=>?_
 refine Qb [0,3] ?_
 have⟨_,_,h⟩:=bs h
 refine Qb [4] ?_
 exact Qu h (·▸Qq hpl)
def Qbx (s_:(List Qg)) (f_:(Qg→Option Bool)):Option (Int):=(Ql (fun (s0:Int)=>((if (decide (s0<(s_.length:Int)))=true then (idx s_ s0).bind fun t0=>(f_ t0).bind fun t1=>(if t1=true then (some (.inr (.inr s0))) else (some (.inl (i64.wrap (s0+1))))) else (some (.inr (.inl ())))):Option ((Int)⊕((Unit)⊕(Int))))) (0:Int)).bind fun e0=>(match e0 with | .inl _=>(some (-1:Int)) | .inr p0=>(some p0))
instance Qra:Spc2 prog 156 Qbx (fun s_ f_=>[tsl Qh s_,Qkq.ty f_]) ti:=.mk fun {s_ f_ r} h=>by
 unfold Qbx at h
 refine Fe func156 ntmps156 fun M0 M w0 hpl=>?_
 refine Qb [1,2] ?_
 refine Qk fun K0 k0=>?_
 refine Qb [1,2,3,4] ?_
 have⟨e0,h0,h⟩:=bs h
 have J0:∀(p0:Unit),(.inl p0)=e0→To M w0 19 [] [] K0:=by
  intro p0 he;subst he;simp only at h;refine k0 ?_;refine Qb [0] ?_;exact Qu h (·▸Qq hpl)
 have J1:∀(p1:Int),(.inr p1)=e0→To M w0 19 [(4,ti p1)] [] (Ret prog f156 M0 [] w0 (fun _=>[]) (fun _=>ti r) .ret):=by
  intro p1 he;subst he;simp only at h;obtain rfl:=sj h;exact Qq hpl
 refine Qs ?_;refine QaK h0 (fun (s0:Int)=>[(7,ti (s_.length:Int)),(8,ti s0),(0,tsl Qh s_),(1,Qkq.ty f_)]) (fun (s0:Int)=>[]) [0,1,2,3] ?_;clear h;intro s0 o K1 h ho k1;refine Qb [0,1,2,3,4] ?_;refine Qk fun _ k2=>?_;refine Qx h (fun _ h=>?_) (fun _ h=>?_)
 ·refine QE ?_;refine k2 ?_;refine Qk fun _ k3=>?_;refine Qs ?_;refine Qb [1,3,4,5,6] ?_;have⟨_,_,_,_,h⟩:=bs2 h;refine Qb [5,6,7,8,9,10] ?_;refine Qx h (fun _ h=>?_) (fun _ h=>?_)
  ·refine Qb [1] ?_;refine QaV ?_;exact QM J1 (ho _ (sj h).symm) [0]
  refine QE ?_;refine k3 ?_;refine Q4 [1,4,5,6] ?_;exact QM k1 ((sj h).symm) [1,0,2,3]
 refine Q7 ?_;exact QM J0 (ho _ (sj h).symm) []
def QbE (s_:(List Qg)) (f_:(Qg→Option Bool)):Option (Bool):=(Qbx s_ f_).bind fun t0=>(some (decide (t0≥0)))
instance Qpg:Spc2 prog 161 QbE (fun s_ f_=>[tsl Qh s_,Qkq.ty f_]) tb:=.mk fun {s_ f_ r} h=>by
 unfold QbE at h
 refine Fe func161 ntmps161 fun M0 M w0 hpl=>?_
 refine Qb [1,2] ?_
 have⟨_,_,h⟩:=bs h
 refine Qb [4] ?_
 exact Qu h (·▸Qq hpl)
def QdK (l_:(List Qg)) (right_:(Qg→Option Bool)):Option (Bool):=(QbE l_ (fun x0=>QfN x0 right_)).bind fun t0=>(some (!t0))
instance Qwm:Spc2 prog 120 QdK (fun l_ right_=>[tsl Qh l_,Qkq.ty right_]) tb:=.mk fun {l_ right_ r} h=>by
 unfold QdK at h
 refine Fe func120 ntmps120 fun M0 M w0 hpl=>?_
 refine Qb [0,2] ?_
 have⟨_,_,h⟩:=bs h
 refine Qb [4] ?_
 exact Qu h (·▸Qq hpl)
def QdL (c_:Int):Option (Bool):=(some ((decide (c_≥97))&&(decide (c_≤122))))
instance Qwn:Spc1 prog 194 QdL (fun c_=>[tv (.int .u8 c_)]) tb:=.mk fun {c_ r} h=>by
 unfold QdL at h
 refine Fe func194 ntmps194 fun M0 M w0 hpl=>?_
 refine Qb [1] ?_
 refine Qb [6] ?_
 exact Qu h (·▸Qq hpl)
def Qck (s_:(List Int)) (f_:(Int→Option Bool)):Option (Int):=(Ql (fun (s0:Int)=>((if (decide (s0<(s_.length:Int)))=true then (idx s_ s0).bind fun t0=>(f_ t0).bind fun t1=>(if t1=true then (some (.inr (.inr s0))) else (some (.inl (i64.wrap (s0+1))))) else (some (.inr (.inl ())))):Option ((Int)⊕((Unit)⊕(Int))))) (0:Int)).bind fun e0=>(match e0 with | .inl _=>(some (-1:Int)) | .inr p0=>(some p0))
instance Qrb:Spc2 prog 221 Qck (fun s_ f_=>[tsl (rInt .u8) s_,QnH.ty f_]) ti:=.mk fun {s_ f_ r} h=>by
 unfold Qck at h
 refine Fe func221 ntmps221 fun M0 M w0 hpl=>?_
 refine Qb [1,2] ?_
 refine Qk fun K0 k0=>?_
 refine Qb [1,2,3,4] ?_
 have⟨e0,h0,h⟩:=bs h
 have J0:∀(p0:Unit),(.inl p0)=e0→To M w0 19 [] [] K0:=by
  intro p0 he;subst he;simp only at h;refine k0 ?_;refine Qb [0] ?_;exact Qu h (·▸Qq hpl)
 have J1:∀(p1:Int),(.inr p1)=e0→To M w0 19 [(4,ti p1)] [] (Ret prog f221 M0 [] w0 (fun _=>[]) (fun _=>ti r) .ret):=by
  intro p1 he;subst he;simp only at h;obtain rfl:=sj h;exact Qq hpl
 refine Qs ?_;refine QaK h0 (fun (s0:Int)=>[(7,ti (s_.length:Int)),(8,ti s0),(0,tsl (rInt .u8) s_),(1,QnH.ty f_)]) (fun (s0:Int)=>[]) [0,1,2,3] ?_;clear h;intro s0 o K1 h ho k1;refine Qb [0,1,2,3,4] ?_;refine Qk fun _ k2=>?_;refine Qx h (fun _ h=>?_) (fun _ h=>?_)
 ·refine QE ?_;refine k2 ?_;refine Qk fun _ k3=>?_;refine Qs ?_;refine Qb [1,3,4,5,6] ?_;have⟨_,_,_,_,h⟩:=bs2 h;refine Qb [5,6,7,8,9,10] ?_;refine Qx h (fun _ h=>?_) (fun _ h=>?_)
  ·refine Qb [1] ?_;refine QaV ?_;exact QM J1 (ho _ (sj h).symm) [0]
  refine QE ?_;refine k3 ?_;refine Q4 [1,4,5,6] ?_;exact QM k1 ((sj h).symm) [1,0,2,3]
 refine Q7 ?_;exact QM J0 (ho _ (sj h).symm) []
def QbF (s_:(List Int)) (f_:(Int→Option Bool)):Option (Bool):=(Qck s_ f_).bind fun t0=>(some (decide (t0≥0)))
instance QhS:Spc2 prog 195 QbF (fun s_ f_=>[tsl (rInt .u8) s_,QnH.ty f_]) tb:=.mk fun {s_ f_ r} h=>by
 unfold QbF at h
 refine Fe func195 ntmps195 fun M0 M w0 hpl=>?_
 refine Qb [1,2] ?_
 have⟨_,_,h⟩:=bs h
 refine Qb [4] ?_
 exact Qu h (·▸Qq hpl)
def Qhd (c_:Int):Option (Bool):=(some ((decide (c_≥48))&&(decide (c_≤57))))
instance QxM:Spc1 prog 197 Qhd (fun c_=>[tv (.int .u8 c_)]) tb:=.mk fun {c_ r} h=>by
 unfold Qhd at h
 refine Fe func197 ntmps197 fun M0 M w0 hpl=>?_
 refine Qb [1] ?_
 refine Qb [6] ?_
 exact Qu h (·▸Qq hpl)
def QgM (c_:Int):Option (Bool):=(QdL c_).bind fun t0=>(opt ((!t0)==true) (Qhd c_) default).bind fun t1=>(some ((!t0)&&(!t1)))
instance Qlo:Spc1 prog 196 QgM (fun c_=>[tv (.int .u8 c_)]) tb:=.mk fun {c_ r} h=>by
 unfold QgM at h
 refine Fe func196 ntmps196 fun M0 M w0 hpl=>?_
 refine Qb [1] ?_
 have⟨_,_,_,_,h⟩:=bs2 h
 refine Qb [8] ?_
 exact Qu h (·▸Qq hpl)
def Qak (s_:Str):Option (Bool):=(Qbl (s_.length:Int) (1:Int) (12:Int)).bind fun t0=>(opt ((!t0)==false) (idx s_ (0:Int)) default).bind fun t1=>(opt ((!t0)==false) (QdL (t1.toNat:Int)) default).bind fun t2=>(if ((!t0)||(!t2))=true then (some false) else (QbF (QW s_) (fun x0=>QgM x0)).bind fun t3=>(some (!t3)))
instance QyJ:Spc1 prog 163 Qak (fun s_=>[tv (.string (sB s_))]) tb:=.mk fun {s_ r} h=>by
 unfold Qak at h
 refine Fe func163 ntmps163 fun M0 M w0 hpl=>?_
 refine Qb [1] ?_
 have⟨_,_,_,_,_,_,h⟩:=bs3 h
 refine tIfs h [9,10] (fun _ h=>?_) (fun _ h=>?_)
 ·refine Qb [0] ?_
  exact Qu h (·▸Qq hpl)
 have⟨t0,h0,h⟩:=bs h
 intro a w H
 refine sr mx [] H (fun _=>.q 1 rfl<|.o (op_s2b ud9 underlying240 underlying5 z0)<|.o (QG Qs7 (QhS.ok h0) (.cons (.of z0)<|.cons (.of (Fct.weak .fnE (QeK Qs8 (fun _ _ hq=>Qlo.ok hq))))<|.nil))<|.o (QiG z0)<|.o (Qi z0)<|.n) fun _ a w H=>?_
 have H:=H.t1_0 [4]
 refine Q2 H ?_
 exact Qu h (·▸Qq hpl)
def Qc9 (lo_:Int) (hi_:Int) (least_:Int) (most_:Int):Option (Bool):=(some (((decide (lo_≥least_))&&(decide (lo_≤hi_)))&&(decide (hi_≤most_))))
instance QBG:Spc4 prog 164 Qc9 (fun lo_ hi_ least_ most_=>[ti lo_,ti hi_,ti least_,ti most_]) tb:=.mk fun {lo_ hi_ least_ most_ r} h=>by
 unfold Qc9 at h
 refine Fe func164 ntmps164 fun M0 M w0 hpl=>?_
 refine Qb [1,2,3,4] ?_
 refine Qb [13] ?_
 exact Qu h (·▸Qq hpl)
def QfA (x_:Qc) (c0_:(Qc→Option Bool)):Option (Bool):=(c0_ x_).bind fun t0=>(some (!t0))
instance Qtk:Spc2 prog 199 QfA (fun x_ c0_=>[Qd.ty x_,tptr (Qkr.cs c0_)]) tb:=.mk fun {x_ c0_ r} h=>by
 unfold QfA at h
 refine Fe func199 ntmps199 fun M0 M w0 hpl=>?_
 refine Qb [0,3] ?_
 have⟨_,_,h⟩:=bs h
 refine Qb [4] ?_
 exact Qu h (·▸Qq hpl)
def Qbs (s_:(List Qc)) (f_:(Qc→Option Bool)):Option (Int):=(Ql (fun (s0:Int)=>((if (decide (s0<(s_.length:Int)))=true then (idx s_ s0).bind fun t0=>(f_ t0).bind fun t1=>(if t1=true then (some (.inr (.inr s0))) else (some (.inl (i64.wrap (s0+1))))) else (some (.inr (.inl ())))):Option ((Int)⊕((Unit)⊕(Int))))) (0:Int)).bind fun e0=>(match e0 with | .inl _=>(some (-1:Int)) | .inr p0=>(some p0))
instance Qqj:Spc2 prog 128 Qbs (fun s_ f_=>[tsl Qd s_,Qkr.ty f_]) ti:=.mk fun {s_ f_ r} h=>by
 unfold Qbs at h
 refine Fe func128 ntmps128 fun M0 M w0 hpl=>?_
 refine Qb [1,2] ?_
 refine Qk fun K0 k0=>?_
 refine Qb [1,2,3,4] ?_
 have⟨e0,h0,h⟩:=bs h
 have J0:∀(p0:Unit),(.inl p0)=e0→To M w0 19 [] [] K0:=by
  intro p0 he;subst he;simp only at h;refine k0 ?_;refine Qb [0] ?_;exact Qu h (·▸Qq hpl)
 have J1:∀(p1:Int),(.inr p1)=e0→To M w0 19 [(4,ti p1)] [] (Ret prog f128 M0 [] w0 (fun _=>[]) (fun _=>ti r) .ret):=by
  intro p1 he;subst he;simp only at h;obtain rfl:=sj h;exact Qq hpl
 refine Qs ?_;refine QaK h0 (fun (s0:Int)=>[(7,ti (s_.length:Int)),(8,ti s0),(0,tsl Qd s_),(1,Qkr.ty f_)]) (fun (s0:Int)=>[]) [0,1,2,3] ?_;clear h;intro s0 o K1 h ho k1;refine Qb [0,1,2,3,4] ?_;refine Qk fun _ k2=>?_;refine Qx h (fun _ h=>?_) (fun _ h=>?_)
 ·refine QE ?_;refine k2 ?_;refine Qk fun _ k3=>?_;refine Qs ?_;refine Qb [1,3,4,5,6] ?_;have⟨_,_,_,_,h⟩:=bs2 h;refine Qb [5,6,7,8,9,10] ?_;refine Qx h (fun _ h=>?_) (fun _ h=>?_)
  ·refine Qb [1] ?_;refine QaV ?_;exact QM J1 (ho _ (sj h).symm) [0]
  refine QE ?_;refine k3 ?_;refine Q4 [1,4,5,6] ?_;exact QM k1 ((sj h).symm) [1,0,2,3]
 refine Q7 ?_;exact QM J0 (ho _ (sj h).symm) []
def Qbv (s_:(List Qc)) (f_:(Qc→Option Bool)):Option (Bool):=(Qbs s_ f_).bind fun t0=>(some (decide (t0≥0)))
instance QoE:Spc2 prog 198 Qbv (fun s_ f_=>[tsl Qd s_,Qkr.ty f_]) tb:=.mk fun {s_ f_ r} h=>by
 unfold Qbv at h
 refine Fe func198 ntmps198 fun M0 M w0 hpl=>?_
 refine Qb [1,2] ?_
 have⟨_,_,h⟩:=bs h
 refine Qb [4] ?_
 exact Qu h (·▸Qq hpl)
def Qdo (l_:(List Qc)) (right_:(Qc→Option Bool)):Option (Bool):=(Qbv l_ (fun x0=>QfA x0 right_)).bind fun t0=>(some (!t0))
instance Qu5:Spc2 prog 165 Qdo (fun l_ right_=>[tsl Qd l_,Qkr.ty right_]) tb:=.mk fun {l_ right_ r} h=>by
 unfold Qdo at h
 refine Fe func165 ntmps165 fun M0 M w0 hpl=>?_
 refine Qb [0,2] ?_
 have⟨_,_,h⟩:=bs h
 refine Qb [4] ?_
 exact Qu h (·▸Qq hpl)
def QfO (f_:Qc):Option (Qc):=((if (f_.Kind==0)=true then (some (Qc.mk f_.Name ([]:Str) ([]:Str) f_.Kind f_.Lo (0:Int) ([]:(List Str)) ([]:(List Int)))) else ((if (f_.Kind==1)=true then (some (f_.Kind==1)) else ((if (f_.Kind==4)=true then (some (f_.Kind==4)) else (some (f_.Kind==5)))).bind fun p0=>(some p0))).bind fun p1=>((if p1=true then (some (Qc.mk f_.Name f_.Of ([]:Str) f_.Kind f_.Lo f_.Hi ([]:(List Str)) ([]:(List Int)))) else ((if (f_.Kind==2)=true then (some (Qc.mk f_.Name ([]:Str) ([]:Str) f_.Kind f_.Lo f_.Hi ([]:(List Str)) ([]:(List Int)))) else ((if (f_.Kind==3)=true then (some (Qc.mk f_.Name ([]:Str) ([]:Str) f_.Kind (0:Int) (0:Int) f_.Words f_.Weights)) else ((if (f_.Kind==6)=true then (some (Qc.mk f_.Name f_.Of ([]:Str) f_.Kind (0:Int) (0:Int) ([]:(List Str)) ([]:(List Int)))) else ((if (f_.Kind==7)=true then (some (Qc.mk f_.Name f_.Of f_.Up f_.Kind f_.Lo f_.Hi ([]:(List Str)) ([]:(List Int)))) else ((if (f_.Kind==8)=true then (some (Qc.mk f_.Name f_.Of f_.Up f_.Kind (0:Int) (0:Int) ([]:(List Str)) ([]:(List Int)))) else (some (Qc.mk f_.Name ([]:Str) ([]:Str) f_.Kind (0:Int) (0:Int) ([]:(List Str)) ([]:(List Int)))))).bind fun p2=>(some p2))).bind fun p3=>(some p3))).bind fun p4=>(some p4))).bind fun p5=>(some p5))).bind fun p6=>(some p6))).bind fun p7=>(some p7))).bind fun p8=>(some p8)
instance QBH:Spc1 prog 200 QfO (fun f_=>[Qd.ty f_]) Qd.ty:=.mk fun {f_ r} h=>by
 unfold QfO at h
 refine Fe func200 ntmps200 fun M0 M w0 hpl=>?_
 refine QV [v1 1 (fun v0=>box (Qd.cs zz0) v0)] [2] [0,1] fun m0=>?_
 refine QV [v1 5 (fun v0=>box (Qd.cs zz0) v0),v1 5 (fun v0=>box (Qd.cs (Qc.mk f_.Name ([]:Str) ([]:Str) f_.Kind (0:Int) (0:Int) ([]:(List Str)) ([]:(List Int)))) v0)] [6,7] [5,6,7] fun m1=>?_
 refine Qk fun K0 k0=>?_
 refine Qb [1,2,3,4] ?_
 refine Qs ?_
 refine Qb [1,2,3,4,5] ?_
 have⟨p0,h0,h⟩:=bs h
 have J0:To M w0 73 [(3,tv (m1 5)),(2,tv (m0 1))] [box (Qd.cs zz0) (m0 1),box (Qd.cs p0) (m1 5)] K0:=by
  refine k0 ?_;refine QV [v0 (box (Qd.cs p0) (m0 1))] [2] [2] fun m2=>?_;refine Qaa (fun _ _ H=>H.selA [1] rfl) ?_;exact Qu h (·▸Qq hpl)
 replace h:=h0;clear h0;refine Qx h (fun _ h=>?_) (fun _ h=>?_)
 ·refine QaY [v0 (box (Qd.cs (Qc.mk f_.Name ([]:Str) ([]:Str) f_.Kind f_.Lo (0:Int) ([]:(List Str)) ([]:(List Int)))) (m1 5))] [4] [5,7] fun m3=>?_;obtain rfl:=sj h;exact Q3 J0 [0,1]
 refine Qk fun K1 k1=>?_;refine Qb [1,3,4,5,6] ?_;have⟨p1,h1,h⟩:=bs h;have J1:To M w0 73 [(16,tb p1),(10,ti f_.Kind),(3,tv (m1 5)),(1,tptr (Qd.cs f_)),(2,tv (m0 1))] [box (Qd.cs zz0) (m0 1),box (Qd.cs (Qc.mk f_.Name ([]:Str) ([]:Str) f_.Kind (0:Int) (0:Int) ([]:(List Str)) ([]:(List Int)))) (m1 5)] K1:=by
  refine k1 ?_;have⟨p2,h2,h⟩:=bs h;have J2:To M w0 73 [(3,tv (m1 5)),(2,tv (m0 1))] [box (Qd.cs zz0) (m0 1),box (Qd.cs p2) (m1 5)] K0:=by
   obtain rfl:=sj h;exact Q3 J0 [0,1]
  replace h:=h2;clear h2;refine Qx h (fun _ h=>?_) (fun _ h=>?_)
  ·refine QaY [v0 (box (Qd.cs (Qc.mk f_.Name f_.Of ([]:Str) f_.Kind (0:Int) (0:Int) ([]:(List Str)) ([]:(List Int)))) (m1 5)),v0 (box (Qd.cs (Qc.mk f_.Name f_.Of ([]:Str) f_.Kind f_.Lo (0:Int) ([]:(List Str)) ([]:(List Int)))) (m1 5)),v0 (box (Qd.cs (Qc.mk f_.Name f_.Of ([]:Str) f_.Kind f_.Lo f_.Hi ([]:(List Str)) ([]:(List Int)))) (m1 5))] [8,10,12] [11,13] fun m4=>?_;obtain rfl:=sj h;exact Q3 J2 [0,1]
  refine Qb [1,3,4,5,6] ?_;have⟨p3,h3,h⟩:=bs h;have J3:To M w0 73 [(3,tv (m1 5)),(2,tv (m0 1))] [box (Qd.cs zz0) (m0 1),box (Qd.cs p3) (m1 5)] K0:=by
   obtain rfl:=sj h;exact Q3 J2 [0,1]
  replace h:=h3;clear h3;refine Qx h (fun _ h=>?_) (fun _ h=>?_)
  ·refine QaY [v0 (box (Qd.cs (Qc.mk f_.Name ([]:Str) ([]:Str) f_.Kind f_.Lo (0:Int) ([]:(List Str)) ([]:(List Int)))) (m1 5)),v0 (box (Qd.cs (Qc.mk f_.Name ([]:Str) ([]:Str) f_.Kind f_.Lo f_.Hi ([]:(List Str)) ([]:(List Int)))) (m1 5))] [6,8] [8,10] fun m5=>?_;obtain rfl:=sj h;exact Q3 J3 [0,1]
  refine Qb [1,3,4,5,6] ?_;have⟨p4,h4,h⟩:=bs h;have J4:To M w0 73 [(3,tv (m1 5)),(2,tv (m0 1))] [box (Qd.cs zz0) (m0 1),box (Qd.cs p4) (m1 5)] K0:=by
   obtain rfl:=sj h;exact Q3 J3 [0,1]
  replace h:=h4;clear h4;refine Qx h (fun _ h=>?_) (fun _ h=>?_)
  ·refine QaY [v0 (box (Qd.cs (Qc.mk f_.Name ([]:Str) ([]:Str) f_.Kind (0:Int) (0:Int) f_.Words ([]:(List Int)))) (m1 5)),v0 (box (Qd.cs (Qc.mk f_.Name ([]:Str) ([]:Str) f_.Kind (0:Int) (0:Int) f_.Words f_.Weights)) (m1 5))] [6,8] [8,10] fun m6=>?_;obtain rfl:=sj h;exact Q3 J4 [0,1]
  refine Qb [1,3,4,5,6] ?_;have⟨p5,h5,h⟩:=bs h;have J5:To M w0 73 [(3,tv (m1 5)),(2,tv (m0 1))] [box (Qd.cs zz0) (m0 1),box (Qd.cs p5) (m1 5)] K0:=by
   obtain rfl:=sj h;exact Q3 J4 [0,1]
  replace h:=h5;clear h5;refine Qx h (fun _ h=>?_) (fun _ h=>?_)
  ·refine QaY [v0 (box (Qd.cs (Qc.mk f_.Name f_.Of ([]:Str) f_.Kind (0:Int) (0:Int) ([]:(List Str)) ([]:(List Int)))) (m1 5))] [4] [5,7] fun m7=>?_;obtain rfl:=sj h;exact Q3 J5 [0,1]
  refine Qb [1,3,4,5,6] ?_;have⟨p6,h6,h⟩:=bs h;have J6:To M w0 73 [(3,tv (m1 5)),(2,tv (m0 1))] [box (Qd.cs zz0) (m0 1),box (Qd.cs p6) (m1 5)] K0:=by
   obtain rfl:=sj h;exact Q3 J5 [0,1]
  replace h:=h6;clear h6;refine Qx h (fun _ h=>?_) (fun _ h=>?_)
  ·refine QaY [v0 (box (Qd.cs (Qc.mk f_.Name f_.Of ([]:Str) f_.Kind (0:Int) (0:Int) ([]:(List Str)) ([]:(List Int)))) (m1 5)),v0 (box (Qd.cs (Qc.mk f_.Name f_.Of f_.Up f_.Kind (0:Int) (0:Int) ([]:(List Str)) ([]:(List Int)))) (m1 5)),v0 (box (Qd.cs (Qc.mk f_.Name f_.Of f_.Up f_.Kind f_.Lo (0:Int) ([]:(List Str)) ([]:(List Int)))) (m1 5)),v0 (box (Qd.cs (Qc.mk f_.Name f_.Of f_.Up f_.Kind f_.Lo f_.Hi ([]:(List Str)) ([]:(List Int)))) (m1 5))] [10,12,14,16] [14,16] fun m8=>?_;obtain rfl:=sj h;exact Q3 J6 [0,1]
  refine Qb [1,4,5,6] ?_;have⟨p7,h7,h⟩:=bs h;have J7:To M w0 73 [(3,tv (m1 5)),(2,tv (m0 1))] [box (Qd.cs zz0) (m0 1),box (Qd.cs p7) (m1 5)] K0:=by
   obtain rfl:=sj h;exact Q3 J6 [0,1]
  replace h:=h7;clear h7;refine Qx h (fun _ h=>?_) (fun _ h=>?_)
  ·refine QaY [v0 (box (Qd.cs (Qc.mk f_.Name f_.Of ([]:Str) f_.Kind (0:Int) (0:Int) ([]:(List Str)) ([]:(List Int)))) (m1 5)),v0 (box (Qd.cs (Qc.mk f_.Name f_.Of f_.Up f_.Kind (0:Int) (0:Int) ([]:(List Str)) ([]:(List Int)))) (m1 5))] [6,8] [7,9] fun m9=>?_;obtain rfl:=sj h;exact Q3 J7 [0,1]
  refine QE ?_;obtain rfl:=sj h;exact Q3 J7 [1,3]
 replace h:=h1;clear h1;refine Qx h (fun _ h=>?_) (fun _ h=>?_)
 ·refine QE ?_;obtain rfl:=sj h;exact Q3 J1 [0,1,2,3,4]
 refine Qb [1,2,3,4,5] ?_;have⟨p8,h8,h⟩:=bs h;have J8:To M w0 73 [(16,tb p8),(10,ti f_.Kind),(3,tv (m1 5)),(1,tptr (Qd.cs f_)),(2,tv (m0 1))] [box (Qd.cs zz0) (m0 1),box (Qd.cs (Qc.mk f_.Name ([]:Str) ([]:Str) f_.Kind (0:Int) (0:Int) ([]:(List Str)) ([]:(List Int)))) (m1 5)] K1:=by
  obtain rfl:=sj h;exact Q3 J1 [0,1,2,3,4]
 replace h:=h8;clear h8;refine Qx h (fun _ h=>?_) (fun _ h=>?_)
 ·refine QE ?_;obtain rfl:=sj h;exact Q3 J8 [0,1,2,3,4]
 refine Q4 [1,2,3,4,5] ?_;obtain rfl:=sj h;exact Q3 J8 [0,1,2,3,4]
def QcE (s1_:(List Str)) (s2_:(List Str)):Option (Bool):=(if ((s1_.length:Int) !=(s2_.length:Int))=true then (some false) else (Ql (fun (s0:Int)=>((if (decide (s0<(s1_.length:Int)))=true then (idx s1_ s0).bind fun t0=>(idx s2_ s0).bind fun t1=>(if (t0 !=t1)=true then (some (.inr (.inr false))) else (some (.inl (i64.wrap (s0+1))))) else (some (.inr (.inl ())))):Option ((Int)⊕((Unit)⊕(Bool))))) (0:Int)).bind fun e0=>(match e0 with | .inl _=>(some true) | .inr p0=>(some p0)))
instance Qsm:Spc2 prog 70 QcE (fun s1_ s2_=>[tsl rS s1_,tsl rS s2_]) tb:=.mk fun {s1_ s2_ r} h=>by
 unfold QcE at h
 refine Fe func70 ntmps70 fun M0 M w0 hpl=>?_
 refine Qb [1,2] ?_
 refine tIfs h [4,5,6] (fun _ h=>?_) (fun _ h=>?_)
 ·refine Qb [0] ?_
  exact Qu h (·▸Qq hpl)
 refine Qk fun K0 k0=>?_
 refine Qb [1,2,4,5] ?_
 have⟨e0,h0,h⟩:=bs h
 have J0:∀(p0:Unit),(.inl p0)=e0→To M w0 26 [] [] K0:=by
  intro p0 he;subst he;simp only at h;refine k0 ?_;refine Qb [0] ?_;exact Qu h (·▸Qq hpl)
 have J1:∀(p1:Bool),(.inr p1)=e0→To M w0 26 [(4,tb p1)] [] (Ret prog f70 M0 [] w0 (fun _=>[]) (fun _=>tb r) .ret):=by
  intro p1 he;subst he;simp only at h;obtain rfl:=sj h;exact Qq hpl
 refine Qs ?_;refine QaK h0 (fun (s0:Int)=>[(12,ti (s1_.length:Int)),(13,ti s0),(0,tsl rS s1_),(1,tsl rS s2_)]) (fun (s0:Int)=>[]) [0,1,2,3] ?_;clear h;intro s0 o K1 h ho k1;refine Qb [0,1,2,3,4] ?_;refine Qk fun _ k2=>?_;refine Qx h (fun _ h=>?_) (fun _ h=>?_)
 ·refine QE ?_;refine k2 ?_;refine Qk fun _ k3=>?_;refine Qs ?_;refine Qb [1,3,4,5,6] ?_;have⟨_,_,_,_,h⟩:=bs2 h;refine Qb [8,10,11,12,13] ?_;refine Qx h (fun _ h=>?_) (fun _ h=>?_)
  ·refine Qb [0] ?_;refine QaV ?_;exact QM J1 (ho _ (sj h).symm) [0]
  refine QE ?_;refine k3 ?_;refine Q4 [1,3,4,5] ?_;exact QM k1 ((sj h).symm) [1,0,2,3]
 refine Q7 ?_;exact QM J0 (ho _ (sj h).symm) []

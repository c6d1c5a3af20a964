/- Go functions as Lean functions, and the proofs that they compute them, written by a program. No condition. -/
import Derived.Test.YtlajingmjmnfgaaGreatDoorGenA
set_option linter.all false
open Go.Proofs.Tryz Go.IntKind
namespace Go.Proofs.YtlajingmjmnfgaaGreatDoor
open Go.Sim
set_option maxRecDepth 100000
set_option maxHeartbeats 4000000
noncomputable def QbF (l_:(List Int)):Option (Qa):=(sub l_ (0:Int) (imin (l_.length:Int) (200:Int))).bind fun t0=>(Qx (Qm.mk t0 (0:Int)) (4:Int)).bind fun t1=>(Qx t1.2 (3:Int)).bind fun t2=>(Qo (fun (s0:Int×List Qe×Qm)=>((if (decide (s0.1<(i64.wrap ((1:Int)+t2.1))))=true then (QaZ s0.2.2 s0.2.1).bind fun t3=>(rm (t3.2.2.length+[t3.1].length)).bind fun _=>(some (.inl ((i64.wrap (s0.1+1)),(t3.2.2++[t3.1]),t3.2.1))) else (some (.inr (s0.2.1,s0.2.2)))):Option ((Int×List Qe×Qm)⊕((List Qe×Qm))))) ((0:Int),([]:List Qe),t2.2)).bind fun p0=>(Qx p0.2 (3:Int)).bind fun t4=>(sub [([110,101,119]:Str),([111,112,101,110]:Str),([100,111,110,101]:Str),([115,104,117,116]:Str)] (0:Int) (i64.wrap ((2:Int)+t4.1))).bind fun t5=>(Qo (fun (s1:Int×List QE)=>((if (decide ((i64.wrap (s1.1+1))<(t5.length:Int)))=true then (rm (s1.2.length+[(QE.mk s1.1 (i64.wrap (s1.1+1)))].length)).bind fun _=>(some (.inl ((i64.wrap (s1.1+1)),(s1.2++[(QE.mk s1.1 (i64.wrap (s1.1+1)))])))) else (some (.inr s1.2))):Option ((Int×List QE)⊕((List QE))))) ((0:Int),([]:List QE))).bind fun p1=>(Qx t4.2 (2:Int)).bind fun t6=>((if (t6.1==0)=true then (rm (p1.length+[(QE.mk (1:Int) (0:Int))].length)).bind fun _=>(some (p1++[(QE.mk (1:Int) (0:Int))])) else (some p1))).bind fun p2=>(Qx t6.2 (3:Int)).bind fun t7=>((if (t7.1==0)=true then (rm (p2.length+[(QE.mk (0:Int) (i64.wrap ((t5.length:Int) - 1)))].length)).bind fun _=>(some (p2++[(QE.mk (0:Int) (i64.wrap ((t5.length:Int) - 1)))])) else (some p2))).bind fun p3=>(rm (([]:List Qw).length+[(Qw.mk ([108,105,102,101]:Str) t5 p3)].length)).bind fun _=>(Qo (fun (s2:Int×List Qj×Qm)=>((if ((decide (s2.1<(i64.wrap ((1:Int)+t2.1))))&&(decide ((s2.2.1.length:Int)<2)))=true then (idx p0.1 s2.1).bind fun t8=>(Qa0 s2.2.2 t8).bind fun t9=>((if t9.2.1=true then (rm (s2.2.1.length+[t9.1].length)).bind fun _=>(some (s2.2.1++[t9.1])) else (some s2.2.1))).bind fun p4=>(some (.inl ((i64.wrap (s2.1+1)),p4,t9.2.2))) else (some (.inr s2.2.1))):Option ((Int×List Qj×Qm)⊕((List Qj))))) ((0:Int),([]:List Qj),t7.2)).bind fun p5=>(some (Qa.mk t1.1 p0.1 (([]:List Qw)++[(Qw.mk ([108,105,102,101]:Str) t5 p3)]) p5))
instance QwV:Spc1 prog 15 QbF (fun l_=>[tsl rI l_]) Qf.ty:=.mk fun {l_ r} h=>by
 unfold QbF at h
 refine Fe func15 ntmps15 fun M0 M w0 hpl=>?_
 refine QJ [v1 0 (fun v0=>box (Qf.cs zz4) v0)] [1] [0,1] fun m0=>?_
 have⟨t0,_,h⟩:=bs h
 refine QJ [v1 6 (fun v0=>box (Qk.cs (Qm.mk t0 (0:Int))) v0)] [7] [7,8] fun m1=>?_
 have⟨t1,h0,h⟩:=bs h
 intro a w H
 refine sr mx [v0 (box (Qk.cs t1.2) (m1 6)),v1 3 (fun v0=>box (Qf.cs zz4) v0),v1 3 (fun v0=>box ([ti t1.1,tvs nilV,tvs nilV,tvs nilV]) v0)] H (fun _=>.q 0 rfl<|.e [] [1] [2] rfl rfl rfl rfl (QC QeH (Qav.ok h0) (.cons (.of z0)<|.cons (.of .k)<|.nil))<|.p (T:=tagg ([ti t1.1,tvs nilV,tvs nilV,tvs nilV])) rfl (QaR underlying33 pl33 zv33 QoM.1 (.cons (R:=rI) (u:=t1.1) rfl z0 (leb rfl)<|.nil _))<|.m [] [3] rfl rfl rfl (Qbn (R:=Qf) (a:=zz4) Qci zok33)<|.e [] [3] [4] rfl rfl rfl rfl (QaO (R:=(rAgg ([ti t1.1,tvs nilV,tvs nilV,tvs nilV]) (Qp (QZ rfl) (Qp QcI (Qp QcI (Qp QcI Q7)))))) (a:=()) (tokA Qci (Qp (QZ rfl) (Qp QcI (Qp QcI (Qp QcI Q7)))) rfl rfl) z0 z1 (leb rfl))<|.n) fun m2 a w H=>?_
 replace H:St _ _ _ [_,_,_] [_,_,_,_,_,_] _ _:=(((H.pick [3,4,5]).nil (Qh) 47).nil (Qy) 111).nil (Qs) 104
 refine QS H ?_
 have⟨t2,_,h⟩:=bs h
 refine QJ [v0 (box (Qk.cs t2.2) (m1 6))] [2] [3,4,5,6] fun m3=>?_
 refine Ql fun K0 k0=>?_
 refine Qc [0,1,2,3,4] ?_
 have⟨e0,h1,h⟩:=bs h
 have J0:∀(p0:List Qe×Qm) (y0:Value),p0=e0→To M w0 119 [(5,ti (i64.wrap ((1:Int)+t2.1))),(4,tv (m2 3)),(3,tv (m1 6)),(2,tv (m0 0))] [own Qs 104 ([]:List Qj) nilV,own Qy 111 ([]:List Qw) nilV,own Qh 47 p0.1 y0,box (Qf.cs zz4) (m0 0),box ([ti t1.1,tvs y0,tvs nilV,tvs nilV]) (m2 3),box (Qk.cs p0.2) (m1 6)] K0:=by
  intro p0 y0 he;subst he;refine k0 ?_;have⟨t3,_,t4,_,h⟩:=bs2 h;refine QJ [v0 (box (Qk.cs t3.2) (m1 6))] [3] [5,6,7,8,9] fun m4=>?_;intro a w H;refine sr mx [v1 2 (fun v0=>box (Qy.cs zz2) v0),v1 2 (fun v0=>box ([tv (.string (sB ([108,105,102,101]:Str))),tsl rS t4,tvs nilV]) v0)] H (fun _=>.q 0 rfl<|.p (T:=tagg ([tv (.string (sB ([108,105,102,101]:Str))),tsl rS t4,tvs nilV])) rfl (QaR underlying111 pl111 zv111 Qs9.1 (.cons (R:=rS) (u:=([108,105,102,101]:Str)) rfl .k (leb rfl)<|.cons (R:=(rSl rS)) (u:=t4) rfl z0 (leb rfl)<|.nil _))<|.m [] [6] rfl rfl rfl (Qbn (R:=Qy) (a:=zz2) QlY Qs8)<|.e [] [6] [7] rfl rfl rfl rfl (QaO (R:=(rAgg ([tv (.string (sB ([108,105,102,101]:Str))),tsl rS t4,tvs nilV]) (Qp (QZ rfl) (Qp QbG (Qp QcI Q7))))) (a:=()) (tokA QlY (Qp (QZ rfl) (Qp QbG (Qp QcI Q7))) rfl rfl) z0 z1 (leb rfl))<|.n) fun m5 a w H=>?_;replace H:St _ _ _ [_,_,_,_,_,_] [_,_,_,_,_,_,_,_] _ _:=(H.pick [2,3,4,5,6,7]).nil (Qaa) 112;refine QS H ?_;refine Ql fun K1 k1=>?_;refine Qc [0,1,2,3,4,5,6] ?_;have⟨e1,h2,h⟩:=bs h;have J1:∀(p1:List QE) (y1:Value),p1=e1→To M w0 119 [(8,tv (m5 2)),(7,tsl rS t4),(5,ti (i64.wrap ((1:Int)+t2.1))),(4,tv (m2 3)),(3,tv (m1 6)),(2,tv (m0 0))] [own Qaa 112 p1 y1,own Qs 104 ([]:List Qj) nilV,own Qy 111 ([]:List Qw) nilV,own Qh 47 p0.1 y0,box (Qf.cs zz4) (m0 0),box ([ti t1.1,tvs y0,tvs nilV,tvs nilV]) (m2 3),box (Qk.cs t3.2) (m1 6),box ([tv (.string (sB ([108,105,102,101]:Str))),tsl rS t4,tvs y1]) (m5 2)] K1:=by
   intro p1 y1 he;subst he;refine k1 ?_;refine Ql fun K2 k2=>?_;have⟨t5,_,h⟩:=bs h;refine QJ [v0 (box (Qk.cs t5.2) (m1 6))] [2] [2,3,4,5,6,7,8] fun m6=>?_;have⟨p2,h3,h⟩:=bs h;have J2:∀(y2:Value),To M w0 119 [(8,tv (m5 2)),(7,tsl rS t4),(5,ti (i64.wrap ((1:Int)+t2.1))),(4,tv (m2 3)),(3,tv (m1 6)),(2,tv (m0 0))] [own Qs 104 ([]:List Qj) nilV,own Qy 111 ([]:List Qw) nilV,own Qh 47 p0.1 y0,box (Qf.cs zz4) (m0 0),box ([ti t1.1,tvs y0,tvs nilV,tvs nilV]) (m2 3),box (Qk.cs t5.2) (m1 6),own Qaa 112 p2 y2,box ([tv (.string (sB ([108,105,102,101]:Str))),tsl rS t4,tvs y2]) (m5 2)] K2:=by
    intro y2;refine k2 ?_;refine Ql fun K3 k3=>?_;have⟨t6,_,h⟩:=bs h;refine QJ [v0 (box (Qk.cs t6.2) (m1 6))] [2] [2,3,4,5,6,7,8] fun m7=>?_;have⟨p3,h4,h⟩:=bs h;have J3:∀(y3:Value),To M w0 119 [(8,tv (m5 2)),(5,ti (i64.wrap ((1:Int)+t2.1))),(4,tv (m2 3)),(3,tv (m1 6)),(2,tv (m0 0))] [own Qs 104 ([]:List Qj) nilV,own Qy 111 ([]:List Qw) nilV,own Qh 47 p0.1 y0,box (Qf.cs zz4) (m0 0),box ([ti t1.1,tvs y0,tvs nilV,tvs nilV]) (m2 3),box (Qk.cs t6.2) (m1 6),own Qaa 112 p3 y3,box ([tv (.string (sB ([108,105,102,101]:Str))),tsl rS t4,tvs y3]) (m5 2)] K3:=by
     intro y3;refine k3 ?_;refine Q0 (As'':=[box (Qy.cs (Qw.mk ([108,105,102,101]:Str) t4 p3)) (m5 2),own Qs 104 ([]:List Qj) nilV,own Qy 111 ([]:List Qw) nilV,own Qh 47 p0.1 y0,box (Qf.cs zz4) (m0 0),box ([ti t1.1,tvs y0,tvs nilV,tvs nilV]) (m2 3),box (Qk.cs t6.2) (m1 6)]) (fun _ _ H=>((H.pick [0,1,2,3,4]).selA [6,7,0,1,2,3,4,5] rfl).shareC 2 rfl) ?_;have⟨_,_,h⟩:=bs h;refine QJ [v1 4 (fun v0=>own Qy 111 (([]:List Qw)++[(Qw.mk ([108,105,102,101]:Str) t4 p3)]) v0),v1 4 (fun v0=>box ([ti t1.1,tvs y0,tvs v0,tvs nilV]) (m2 3))] [5,7] [4,7,8,9,10] fun m8=>?_;refine Q0 (fun _ _ H=>H.selA [1,2,3,4,5,6] rfl) ?_;refine Ql fun K4 k4=>?_;refine Qc [0,1,2,3,4,5] ?_;have⟨e2,h5,h⟩:=bs h;have J4:∀(p4:List Qj) (y4:Value),p4=e2→To M w0 119 [(4,tv (m2 3)),(2,tv (m0 0))] [own Qs 104 p4 y4,own Qh 47 p0.1 y0,box (Qf.cs zz4) (m0 0),own Qy 111 (([]:List Qw)++[(Qw.mk ([108,105,102,101]:Str) t4 p3)]) (m8 4),box ([ti t1.1,tvs y0,tvs (m8 4),tvs y4]) (m2 3)] K4:=by
      intro p4 y4 he;subst he;refine k4 ?_;refine Q0 (As'':=[box ([ti t1.1,tsl Qh p0.1,tvs (m8 4),tvs y4]) (m2 3),own Qs 104 p4 y4,box (Qf.cs zz4) (m0 0),own Qy 111 (([]:List Qw)++[(Qw.mk ([108,105,102,101]:Str) t4 p3)]) (m8 4)]) (fun _ _ H=>((H.pick [0,1]).selA [1,4,0,2,3] rfl).shareC 1 rfl) ?_;refine Q0 (As'':=[box ([ti t1.1,tsl Qh p0.1,tsl Qy (([]:List Qw)++[(Qw.mk ([108,105,102,101]:Str) t4 p3)]),tvs y4]) (m2 3),own Qs 104 p4 y4,box (Qf.cs zz4) (m0 0)]) (fun _ _ H=>((H.pick [0,1]).selA [3,0,1,2] rfl).shareC 2 rfl) ?_;refine Q0 (As'':=[box (Qf.cs (Qa.mk t1.1 p0.1 (([]:List Qw)++[(Qw.mk ([108,105,102,101]:Str) t4 p3)]) p4)) (m2 3),box (Qf.cs zz4) (m0 0)]) (fun _ _ H=>((H.pick [0,1]).selA [1,0,2] rfl).shareC 3 rfl) ?_;refine QJ [v0 (box (Qf.cs (Qa.mk t1.1 p0.1 (([]:List Qw)++[(Qw.mk ([108,105,102,101]:Str) t4 p3)]) p4)) (m0 0))] [2] [2] fun m9=>?_;refine Q0 (fun _ _ H=>H.selA [1] rfl) ?_;exact Qt h (·▸Qr hpl)
     refine Qu ?_;refine Qa7 h5 (fun (s0:Int×List Qj×Qm) (y5:Value)=>[(10,ti s0.1),(5,ti (i64.wrap ((1:Int)+t2.1))),(4,tv (m2 3)),(3,tv (m1 6)),(2,tv (m0 0))]) (fun (s0:Int×List Qj×Qm) (y5:Value)=>[own Qs 104 s0.2.1 y5,own Qh 47 p0.1 y0,box (Qf.cs zz4) (m0 0),box (Qk.cs s0.2.2) (m1 6),own Qy 111 (([]:List Qw)++[(Qw.mk ([108,105,102,101]:Str) t4 p3)]) (m8 4),box ([ti t1.1,tvs y0,tvs (m8 4),tvs y5]) (m2 3)]) nilV [0,2,3,4,5] ?_;clear h;intro s0 y5 o K5 h ho k5;refine Ql fun _ k6=>?_;intro a w H;refine sr mx [] H (fun _=>.q 0 rfl<|.q 2 rfl<|.o (QcO z1 z0)<|.q 0 rfl<|.gu [5] rfl rfl rfl bq0 (fun _=>Q1 QiA z6)<|.gu [5] rfl rfl rfl bq1 (fun hc=>Qab (u:=y5) Qtn (.cond z0 hc) rfl)<|.gu [0] rfl rfl rfl bq2 (fun hc=>Qdx ud31 (.cond z0 hc))<|.g rfl rfl bq3 (fun hc=>QcO (.cond z0 hc) .k)<|.o (QcP z4 (fun hp=>(.cond z0 (beqT hp))))<|.n) fun _ a w H=>?_;have H:=H.to [8,9,10,11,12,13] [_,_,_,_,_,_] [_,_,_,_,_,_] rfl rfl;refine QS H ?_;refine Qz h (fun _ h=>?_) (fun _ h=>?_)
     ·refine QB ?_;refine k6 ?_;refine Ql fun K6 k7=>?_;refine Qu ?_;have⟨_,_,t7,_,h⟩:=bs2 h;refine QJ [v0 (box (Qk.cs t7.2.2) (m1 6)),v1 10 (fun v0=>box (Qs.cs zz3) v0),v1 10 (fun v0=>box (Qs.cs t7.1) v0)] [7,11,12] [2,10,11,13,14,15,16,17] fun m10=>?_;refine Q0 (fun _ _ H=>(((H.selA [6,0,1,2,3,4,5] rfl).shareB 1 rfl).add 0 rfl (fun _ _ _ h=>h.2)).pick [0,2,4,5,6,7,8,9]) ?_;refine Qc [0,1,2,4,5,6,7,8] ?_;have⟨p5,h6,h⟩:=bs h;have J5:∀(y6:Value),To M w0 119 [(10,ti s0.1),(5,ti (i64.wrap ((1:Int)+t2.1))),(4,tv (m2 3)),(3,tv (m1 6)),(2,tv (m0 0))] [own Qh 47 p0.1 y0,box (Qf.cs zz4) (m0 0),own Qy 111 (([]:List Qw)++[(Qw.mk ([108,105,102,101]:Str) t4 p3)]) (m8 4),box (Qk.cs t7.2.2) (m1 6),own Qs 104 p5 y6,box ([ti t1.1,tvs y0,tvs (m8 4),tvs y6]) (m2 3)] K6:=by
       intro y6;refine k7 ?_;refine Q2 [2,3,4,5,6] ?_;refine Qaj (fun _ _ H=>(H.pick [0,1,2,3,4]).selA [4,0,1,3,2,5] rfl) ?_;exact Q6 k5 y6 ((sj h).symm) [0,1,2,3,4]
      replace h:=h6;clear h6;refine Qz h (fun _ h=>?_) (fun _ h=>?_)
      ·have⟨_,_,h⟩:=bs h;refine QaF [v1 4 (fun v0=>own Qs 104 (s0.2.1++[t7.1]) v0),v1 4 (fun v0=>box ([ti t1.1,tvs y0,tvs (m8 4),tvs v0]) (m2 3))] [5,7] [4,8,9,10,11,12,13] fun m11=>?_;obtain rfl:=sj h;exact QW (J5 (m11 4)) [2,3,4,5,6]
      refine QB ?_;obtain rfl:=sj h;refine Qaj (fun _ _ H=>(H.pick [3,4,5,6,7]).selA [1,2,3,5,0,4] rfl) ?_;exact QW (J5 y5) [0,1,2,3,4]
     refine Q5 ?_;refine Qaj (fun _ _ H=>(H.pick [3,5]).selA [0,1,2,4,5] rfl) ?_;exact Q6 J4 y5 (ho _ (sj h).symm) [0,1]
    replace h:=h4;clear h4;refine Qz h (fun _ h=>?_) (fun _ h=>?_)
    ·have⟨_,_,h⟩:=bs h;refine QaF [v1 7 (fun v0=>own Qaa 112 (p2++[(QE.mk (0:Int) (i64.wrap ((t4.length:Int) - 1)))]) v0),v1 7 (fun v0=>box ([tv (.string (sB ([108,105,102,101]:Str))),tsl rS t4,tvs v0]) (m5 2))] [8,10] [7,10,12,13,14,15] fun m12=>?_;obtain rfl:=sj h;exact QW (J3 (m12 7)) [1,2,3,4,5]
    refine QB ?_;obtain rfl:=sj h;refine Qaj (fun _ _ H=>(H.pick [1,3,4,5,6]).selA [0,1,2,3,4,7,5,6] rfl) ?_;exact QW (J3 y2) [0,1,2,3,4]
   replace h:=h3;clear h3;refine Qz h (fun _ h=>?_) (fun _ h=>?_)
   ·have⟨_,_,h⟩:=bs h;refine QaF [v1 4 (fun v0=>own Qaa 112 (p1++[(QE.mk (1:Int) (0:Int))]) v0),v1 4 (fun v0=>box ([tv (.string (sB ([108,105,102,101]:Str))),tsl rS t4,tvs v0]) (m5 2))] [5,7] [4,7,8,9,10,11,12] fun m13=>?_;obtain rfl:=sj h;exact QW (J2 (m13 4)) [1,2,3,4,5,6]
   refine QB ?_;obtain rfl:=sj h;refine Qaj (fun _ _ H=>(H.pick [1,2,3,4,5,6]).selA [1,2,3,4,5,7,0,6] rfl) ?_;exact QW (J2 y1) [0,1,2,3,4,5]
  refine Qu ?_;refine Qa7 h2 (fun (s1:Int×List QE) (y7:Value)=>[(9,ti s1.1),(8,tv (m5 2)),(7,tsl rS t4),(5,ti (i64.wrap ((1:Int)+t2.1))),(4,tv (m2 3)),(3,tv (m1 6)),(2,tv (m0 0))]) (fun (s1:Int×List QE) (y7:Value)=>[own Qaa 112 s1.2 y7,own Qs 104 ([]:List Qj) nilV,own Qy 111 ([]:List Qw) nilV,own Qh 47 p0.1 y0,box (Qf.cs zz4) (m0 0),box ([ti t1.1,tvs y0,tvs nilV,tvs nilV]) (m2 3),box (Qk.cs t3.2) (m1 6),box ([tv (.string (sB ([108,105,102,101]:Str))),tsl rS t4,tvs y7]) (m5 2)]) nilV [0,1,2,3,4,5,6] ?_;clear h;intro s1 y7 o K7 h ho k8;refine Ql fun _ k9=>?_;refine Qc [4,5,6,7,8,9,10,11] ?_;refine Qz h (fun _ h=>?_) (fun _ h=>?_)
  ·refine QB ?_;refine k9 ?_;refine Ql fun _ k10=>?_;refine Qu ?_;have⟨_,_,h⟩:=bs h;refine QaF [v1 7 (fun v0=>own Qaa 112 (s1.2++[(QE.mk s1.1 (i64.wrap (s1.1+1)))]) v0),v1 7 (fun v0=>box ([tv (.string (sB ([108,105,102,101]:Str))),tsl rS t4,tvs v0]) (m5 2))] [8,10] [7,10,11,12,13,14,15,16] fun m14=>?_;refine k10 ?_;refine Q2 [2,3,4,5,6,7,8,9] ?_;refine Qaj (fun _ _ H=>(H.pick [0,2,3,4,5,6,7]).selA [6,0,1,2,3,4,5,7] rfl) ?_;exact Q6 k8 (m14 7) ((sj h).symm) [0,1,2,3,4,5,6]
  refine Q5 ?_;exact Q6 J1 y7 (ho _ (sj h).symm) [2,3,4,5,6,7]
 refine Qu ?_;refine Qa7 h1 (fun (s2:Int×List Qe×Qm) (y8:Value)=>[(6,ti s2.1),(5,ti (i64.wrap ((1:Int)+t2.1))),(4,tv (m2 3)),(3,tv (m1 6)),(2,tv (m0 0))]) (fun (s2:Int×List Qe×Qm) (y8:Value)=>[own Qs 104 ([]:List Qj) nilV,own Qy 111 ([]:List Qw) nilV,own Qh 47 s2.2.1 y8,box (Qf.cs zz4) (m0 0),box ([ti t1.1,tvs y8,tvs nilV,tvs nilV]) (m2 3),box (Qk.cs s2.2.2) (m1 6)]) nilV [0,1,2,3,4] ?_;clear h;intro s2 y8 o K8 h ho k11;refine Ql fun _ k12=>?_;refine Qc [2,3,4,5,6,7] ?_;refine Qz h (fun _ h=>?_) (fun _ h=>?_)
 ·refine QB ?_;refine k12 ?_;refine Ql fun _ k13=>?_;refine Qu ?_;have⟨t8,h7,_,h8,h⟩:=bs2 h;intro a w H;refine wr mx [v0 (box (Qk.cs t8.2.1) (m1 6)),v0 (own Qh 47 t8.2.2 y8),v1 7 (fun v0=>own Qh 47 (t8.2.2++[t8.1]) v0),v1 7 (fun v0=>box ([ti t1.1,tvs v0,tvs nilV,tvs nilV]) (m2 3))] H (fun _=>.u [4] rfl rfl (Q1 QaL z3)<|.u [4] rfl rfl (Qab (u:=y8) QbV z0 rfl)<|.q 6 rfl<|.u [4] rfl rfl (Q1 QaL z6)<|.u [4] rfl rfl (Qab (u:=y8) QbV z0 rfl)<|.e [] [5,2] [6,7] rfl rfl rfl rfl (QC QtE (QjG.ok h7) (.cons (.of z2)<|.cons (.of z0)<|.nil))<|.o (Qao (R:=Qh) (us:=[t8.1]) ud29 QaS (.cons z0<|.nil _) rfl (leb rfl))<|.e [] [7] [8] rfl rfl rfl rfl (QaP (R:=Qh) ud29 QaS (leb rfl) z5 z0 h8)<|.u [4] rfl rfl (Q1 QaL z11)<|.e [8] [4] [9] rfl rfl rfl rfl (QfC (R:=Qh) (e:=47) (Ts:=([ti t1.1,tvs y8,tvs nilV,tvs nilV])) (off:=1) QbV z0 z1 (leb rfl))<|.n) fun m15 a w H=>?_;have H:=H.to [7,10,11,12,13,14] [_,_,_,_,_,_] [_,_,_,_,_,_] rfl rfl;refine QbZ H ?_;refine k13 ?_;refine Q2 [2,3,4,5,6,7] ?_;refine Qaj (fun _ _ H=>(H.pick [0,2,3,4,5]).selA [0,1,4,2,5,3] rfl) ?_;exact Q6 k11 (m15 7) ((sj h).symm) [0,1,2,3,4]
 refine Q5 ?_;exact Q6 J0 y8 (ho _ (sj h).symm) [2,3,4,5]
noncomputable def Qfa (x_:Qa) (l_:(List Int)):Option (Qa):=(rm (([]:List Qe).length+x_.Kinds.length)).bind fun _=>(Qo (fun (s0:Int×Int×List Qe)=>((if (decide (s0.1<(s0.2.2.length:Int)))=true then (QbQ l_ s0.2.1 (6:Int)).bind fun t0=>(idx [(0:Int),(0:Int),(1:Int),(2:Int),(3:Int),(6:Int)] t0).bind fun t1=>(idx s0.2.2 s0.1).bind fun t2=>(setAt s0.2.2 s0.1 { t2 with Lo:=t1 }).bind fun t3=>(QbQ l_ (i64.wrap (s0.2.1+1)) (3:Int)).bind fun t4=>(idx t3 s0.1).bind fun t5=>(setAt t3 s0.1 { t5 with Hi:=(i64.wrap (t1+t4)) }).bind fun t6=>(idx x_.Kinds s0.1).bind fun t7=>(rm (([]:List Qb).length+t7.Fields.length)).bind fun _=>(idx t6 s0.1).bind fun t8=>(Qo (fun (s1:Int×Int×List Qb)=>((if (decide (s1.1<(s1.2.2.length:Int)))=true then (idx s1.2.2 s1.1).bind fun t9=>((if (t9.Kind==1)=true then (QbQ l_ s1.2.1 (3:Int)).bind fun t10=>(QbQ l_ (i64.wrap (s1.2.1+1)) (3:Int)).bind fun t11=>(some (Qb.mk t9.Name t9.Of t9.Up t9.Kind t10 (i64.wrap (t10+t11)) t9.Words t9.Weights)) else (some t9))).bind fun p0=>((if ((p0.Kind==2)||(p0.Kind==4))=true then (QbQ l_ s1.2.1 (12:Int)).bind fun t12=>(QbQ l_ (i64.wrap (s1.2.1+1)) (6:Int)).bind fun t13=>(some (Qb.mk p0.Name p0.Of p0.Up p0.Kind t12 (i64.wrap (t12+t13)) p0.Words p0.Weights)) else (some p0))).bind fun p1=>(setAt s1.2.2 s1.1 p1).bind fun t14=>(some (.inl ((i64.wrap (s1.1+1)),(i64.wrap (s1.2.1+2)),t14))) else (some (.inr (s1.2.1,s1.2.2)))):Option ((Int×Int×List Qb)⊕((Int×List Qb))))) ((0:Int),(i64.wrap (s0.2.1+2)),(([]:List Qb)++t7.Fields))).bind fun p2=>(some (.inl ((i64.wrap (s0.1+1)),p2.1,(t6.set (s0.1).toNat (Qe.mk t8.Name t8.Lo t8.Hi p2.2))))) else (some (.inr (s0.2.1,s0.2.2)))):Option ((Int×Int×List Qe)⊕((Int×List Qe))))) ((0:Int),(0:Int),(([]:List Qe)++x_.Kinds))).bind fun p3=>(rm (([]:List Qj).length+x_.Rules.length)).bind fun _=>(Qo (fun (s2:Int×List Qj)=>((if (decide (s2.1<(s2.2.length:Int)))=true then (QbQ l_ (i64.wrap (p3.1+s2.1)) (12:Int)).bind fun t15=>(idx s2.2 s2.1).bind fun t16=>(setAt s2.2 s2.1 { t16 with N:=(i64.wrap (t15 - 9)) }).bind fun t17=>(some (.inl ((i64.wrap (s2.1+1)),t17))) else (some (.inr s2.2))):Option ((Int×List Qj)⊕((List Qj))))) ((0:Int),(([]:List Qj)++x_.Rules))).bind fun p4=>(some (Qa.mk x_.Version p3.2 x_.Lives p4))
instance QyE:Spc2 prog 14 Qfa (fun x_ l_=>[Qf.ty x_,tsl rI l_]) Qf.ty:=.mk fun {x_ l_ r} h=>by
 unfold Qfa at h
 refine Fe func14 ntmps14 fun M0 M w0 hpl=>?_
 refine QJ [v1 1 (fun v0=>box (Qf.cs zz4) v0)] [2] [0,1,3] fun m0=>?_
 refine QJ [v1 1 (fun v0=>box (Qf.cs zz4) v0),v1 1 (fun v0=>box (Qf.cs x_) v0)] [2,3] [1,2,3,4] fun m1=>?_
 have⟨_,_,h⟩:=bs h
 refine QJ [v1 0 (fun v0=>own Qh 47 ([]:List Qe) v0),v1 3 (fun v0=>own Qh 47 (([]:List Qe)++x_.Kinds) v0),v1 3 (fun v0=>box ([ti x_.Version,tvs v0,tsl Qy x_.Lives,tsl Qs x_.Rules]) (m1 1))] [1,4,6] [3,5,6,7,8] fun m2=>?_
 refine Qc [0,1,2,3,4,5] ?_
 refine Ql fun K0 k0=>?_
 refine Qc [0,1,2,3,4,5,6] ?_
 have⟨e0,h0,h⟩:=bs h
 have J0:∀(p0:Int×List Qe),p0=e0→To M w0 153 [(6,ti p0.1),(5,tv (m1 1)),(2,tptr (Qf.cs x_)),(4,tv (m0 1)),(1,tsl rI l_)] [box (Qf.cs zz4) (m0 1),own Qh 47 p0.2 (m2 3),box ([ti x_.Version,tvs (m2 3),tsl Qy x_.Lives,tsl Qs x_.Rules]) (m1 1)] K0:=by
  intro p0 he;subst he;refine k0 ?_;have⟨_,_,h⟩:=bs h;refine QJ [v1 0 (fun v0=>own Qs 104 ([]:List Qj) v0),v1 3 (fun v0=>own Qs 104 (([]:List Qj)++x_.Rules) v0),v1 3 (fun v0=>box ([ti x_.Version,tvs (m2 3),tsl Qy x_.Lives,tvs v0]) (m1 1))] [1,4,6] [3,5,6,8,9] fun m3=>?_;refine Ql fun K1 k1=>?_;refine Qc [0,1,2,3,4,5] ?_;have⟨e1,h1,h⟩:=bs h;have J1:∀(p1:List Qj),p1=e1→To M w0 153 [(5,tv (m1 1)),(4,tv (m0 1))] [box (Qf.cs zz4) (m0 1),own Qh 47 p0.2 (m2 3),own Qs 104 p1 (m3 3),box ([ti x_.Version,tvs (m2 3),tsl Qy x_.Lives,tvs (m3 3)]) (m1 1)] K1:=by
   intro p1 he;subst he;refine k1 ?_;refine Q0 (As'':=[box ([ti x_.Version,tsl Qh p0.2,tsl Qy x_.Lives,tvs (m3 3)]) (m1 1),box (Qf.cs zz4) (m0 1),own Qs 104 p1 (m3 3)]) (fun _ _ H=>((H.pick [0,1]).selA [1,3,0,2] rfl).shareC 1 rfl) ?_;refine Q0 (As'':=[box (Qf.cs (Qa.mk x_.Version p0.2 x_.Lives p1)) (m1 1),box (Qf.cs zz4) (m0 1)]) (fun _ _ H=>((H.pick [0,1]).selA [2,0,1] rfl).shareC 3 rfl) ?_;refine QJ [v0 (box (Qf.cs (Qa.mk x_.Version p0.2 x_.Lives p1)) (m0 1))] [2] [2] fun m4=>?_;refine Q0 (fun _ _ H=>H.selA [1] rfl) ?_;exact Qt h (·▸Qr hpl)
  refine Qu ?_;refine QaY h1 (fun (s0:Int×List Qj)=>[(11,ti s0.1),(6,ti p0.1),(5,tv (m1 1)),(4,tv (m0 1)),(1,tsl rI l_)]) (fun (s0:Int×List Qj)=>[box (Qf.cs zz4) (m0 1),own Qh 47 p0.2 (m2 3),own Qs 104 s0.2 (m3 3),box ([ti x_.Version,tvs (m2 3),tsl Qy x_.Lives,tvs (m3 3)]) (m1 1)]) [0,2,3,4,5] ?_;clear h;intro s0 o K2 h ho k2;refine Ql fun _ k3=>?_;refine Qc [2,4,5,6,7,8,9] ?_;refine QfE 1 (fun b0=>?_) (fun b0=>?_)
  ·replace h:=QcW b0 h;refine QB ?_;refine k3 ?_;refine Ql fun _ k4=>?_;refine Qu ?_;have⟨_,_,_,_,t0,_,h⟩:=bs3 h;refine QaF [v0 (own Qs 104 t0 (m3 3))] [12] [1,11,13,14,15,16,17] fun m5=>?_;refine k4 ?_;refine Q2 [2,3,4,5,6,7,8] ?_;refine Qaj (fun _ _ H=>(H.pick [0,3,4,5,6]).selA [0,1,3,2] rfl) ?_;exact QO k2 ((sj h).symm) [0,1,2,3,4]
  replace h:=QcX b0 h;refine Q5 ?_;exact QO J1 (ho _ (sj h).symm) [4,5]
 refine Qu ?_;refine QaY h0 (fun (s1:Int×Int×List Qe)=>[(7,ti s1.1),(6,ti s1.2.1),(5,tv (m1 1)),(2,tptr (Qf.cs x_)),(4,tv (m0 1)),(1,tsl rI l_)]) (fun (s1:Int×Int×List Qe)=>[box (Qf.cs zz4) (m0 1),own Qh 47 s1.2.2 (m2 3),box ([ti x_.Version,tvs (m2 3),tsl Qy x_.Lives,tsl Qs x_.Rules]) (m1 1)]) [0,1,3,4,5,6] ?_;clear h;intro s1 o K3 h ho k5;refine Ql fun _ k6=>?_;refine Qc [2,4,5,6,7,8,9,10] ?_;refine QfE 1 (fun b1=>?_) (fun b1=>?_)
 ·replace h:=QcW b1 h;refine QB ?_;refine k6 ?_;refine Ql fun K4 k7=>?_;refine Qu ?_;have⟨_,_,_,_,h⟩:=bs2 h;refine Qc [6,7,9,10,11,12,13,14] ?_;have⟨_,_,t1,_,h⟩:=bs2 h;refine QJ [v0 (own Qh 47 t1 (m2 3))] [7] [1,6,7,8,9,10,11,12,13] fun m6=>?_;have⟨_,_,_,_,t2,_,h⟩:=bs3 h;refine QJ [v0 (own Qh 47 t2 (m2 3))] [12] [1,11,13,14,15,16,17,18,19] fun m7=>?_;have⟨t3,h2,_,h3,t4,h4,h⟩:=bs3 h;intro a w H;refine sr mx [v1 3 (fun v0=>own Qd 49 ([]:List Qb) v0),v1 10 (fun v0=>own Qd 49 (([]:List Qb)++t3.Fields) v0),v1 10 (fun v0=>own (QaX Qh 3) 47 (Qbd t2 s1.1 v0) (m2 3))] H (fun _=>.u [1] rfl rfl (Q1 QaL z5)<|.u [1] rfl rfl (Qab (u:=(m2 3)) QbV z0 rfl)<|.q 5 rfl<|.m [] [3] rfl rfl rfl (QeO (R:=Qd) (us:=([]:List Qb)) ud45 Qar (.nil _) rfl (leb rfl) (leb rfl))<|.o (QT QaL z10)<|.o (QQ (u:=x_.Kinds) QkA z0 rfl)<|.q 9 rfl<|.o (QdP ud29 QaS z1 z0 h2)<|.o (QT Qaw z0)<|.o (QQ (u:=t3.Fields) QhY z0 rfl)<|.e [] [3] [4] rfl rfl rfl rfl (QaP (R:=Qd) ud45 Qar (leb rfl) z6 z0 h3)<|.u [2] rfl rfl (Qae ud29 QaS z9 z8 h4)<|.u [2] rfl rfl (QaH Qaw z0 (Qb3 h4))<|.e [4] [2] [5] rfl rfl rfl rfl (Qnq (R:=Qh) (R2:=Qd) (e2:=49) (ys:=(([]:List Qb)++t3.Fields)) Qbo z0 z2 h4 (leb rfl))<|.n) fun m8 a w H=>?_;have H:=H.to [1,10,13,14,15,16,17,18,19,20,21] [_,_,_,_,_,_,_,_,_,_,_] [_,_,_,_] rfl rfl;refine QS H ?_;refine Qc [2,3,4,5,6,7,8,9,10,11,12] ?_;refine Qc [0,1,2,3,4,5,6,7,8,9,10,11] ?_;have⟨e3,h5,h⟩:=bs h;have J2:∀(p2:Int×List Qb),p2=e3→To M w0 153 [(6,ti p2.1),(7,ti s1.1),(5,tv (m1 1)),(2,tptr (Qf.cs x_)),(4,tv (m0 1)),(1,tsl rI l_)] [box (Qf.cs zz4) (m0 1),box ([ti x_.Version,tvs (m2 3),tsl Qy x_.Lives,tsl Qs x_.Rules]) (m1 1),own Qd 49 p2.2 (m8 10),own (QaX Qh 3) 47 (Qbd t2 s1.1 (m8 10)) (m2 3)] K4:=by
   intro p2 he;subst he;refine k7 ?_;refine Q2 [2,3,4,5,6,7] ?_;refine Qaj (As'':=[own Qh 47 (t2.set (s1.1).toNat (Qe.mk t4.Name t4.Lo t4.Hi p2.2)) (m2 3),box (Qf.cs zz4) (m0 1),box ([ti x_.Version,tvs (m2 3),tsl Qy x_.Lives,tsl Qs x_.Rules]) (m1 1)]) (fun _ _ H=>((H.pick [0,1,2,3,4,5]).selA [2,3,0,1] rfl).closeH (u':=(Qe.mk t4.Name t4.Lo t4.Hi p2.2)) h4 (leb rfl) rfl) ?_;refine Qaj (fun _ _ H=>(H.pick [0,1,2,3,4,5]).selA [1,0,2] rfl) ?_;exact QO k5 ((sj h).symm) [0,1,2,3,4,5]
  refine Qu ?_;refine QaY h5 (fun (s2:Int×Int×List Qb)=>[(9,ti s2.1),(6,ti s2.2.1),(7,ti s1.1),(5,tv (m1 1)),(2,tptr (Qf.cs x_)),(4,tv (m0 1)),(1,tsl rI l_)]) (fun (s2:Int×Int×List Qb)=>[box (Qf.cs zz4) (m0 1),box ([ti x_.Version,tvs (m2 3),tsl Qy x_.Lives,tsl Qs x_.Rules]) (m1 1),own Qd 49 s2.2.2 (m8 10),own (QaX Qh 3) 47 (Qbd t2 s1.1 (m8 10)) (m2 3)]) [0,1,7,8,9,10,11] ?_;clear h;intro s2 o K5 h ho k8;refine Ql fun _ k9=>?_;intro a w H;refine sr mx [] H (fun _=>.q 0 rfl<|.u [1] rfl rfl (Q1 QaL z4)<|.u [1] rfl rfl (Qab (u:=(m2 3)) QbV z0 rfl)<|.q 5 rfl<|.u [3] rfl rfl (QbO ud29 QaS z1 z0 h4)<|.u [3] rfl rfl (QbP Qaw z0 h4)<|.u [3] rfl rfl (Qcc (R:=Qh) (k:=3) Qbo z0 h4 (leb rfl))<|.u [2] rfl rfl (Qdx ud45 z0)<|.o (QcO z7 z0)<|.n) fun _ a w H=>?_;have H:=H.to [2,6,8,9,10,11,12,13,14,15] [_,_,_,_,_,_,_,_,_,_] [_,_,_,_] rfl rfl;refine QS H ?_;refine QfE 2 (fun b2=>?_) (fun b2=>?_)
  ·replace h:=QcW b2 h;refine QB ?_;refine k9 ?_;refine Ql fun _ k10=>?_;refine Qu ?_;have⟨t5,h6,h⟩:=bs h;intro a w H;refine sr mx [v1 9 (fun v0=>box (Qd.cs zz0) v0),v1 9 (fun v0=>box (Qd.cs t5) v0)] H (fun _=>.u [1] rfl rfl (Q1 QaL z6)<|.u [1] rfl rfl (Qab (u:=(m2 3)) QbV z0 rfl)<|.q 7 rfl<|.u [3] rfl rfl (QbO ud29 QaS z1 z0 h4)<|.u [3] rfl rfl (QbP Qaw z0 h4)<|.u [3] rfl rfl (Qcc (R:=Qh) (k:=3) Qbo z0 h4 (leb rfl))<|.q 9 rfl<|.u [2] rfl rfl (Qae ud45 Qar z1 z0 h6)<|.u [2] rfl rfl (QdR Qar z0 h6)<|.m [] [4] rfl rfl rfl (Qbn (R:=Qd) (a:=zz0) Qar Qkz)<|.e [] [4] [5] rfl rfl rfl rfl (QaO (R:=Qd) (a:=t5) Qar z0 z1 (leb rfl))<|.n) fun m9 a w H=>?_;have H:=H.to [1,5,9,10,11,13,14,15,16,17,18,19] [_,_,_,_,_,_,_,_,_,_,_,_] [_,_,_,_,_] rfl rfl;refine QS H ?_;refine Ql fun K6 k11=>?_;refine Qc [2,3,4,5,6,7,8,9,10,11,12,13,14] ?_;have⟨p3,h7,h⟩:=bs h;have J3:To M w0 153 [(10,tv (m9 9)),(9,ti s2.1),(6,ti s2.2.1),(7,ti s1.1),(5,tv (m1 1)),(2,tptr (Qf.cs x_)),(4,tv (m0 1)),(1,tsl rI l_)] [box (Qf.cs zz4) (m0 1),box ([ti x_.Version,tvs (m2 3),tsl Qy x_.Lives,tsl Qs x_.Rules]) (m1 1),own Qd 49 s2.2.2 (m8 10),own (QaX Qh 3) 47 (Qbd t2 s1.1 (m8 10)) (m2 3),box (Qd.cs p3) (m9 9)] K6:=by
    refine k11 ?_;refine Ql fun K7 k12=>?_;refine Qc [7,8,9,10,11,12,13,14,15] ?_;have⟨p4,h8,h⟩:=bs h;have J4:To M w0 153 [(10,tv (m9 9)),(9,ti s2.1),(6,ti s2.2.1),(7,ti s1.1),(5,tv (m1 1)),(2,tptr (Qf.cs x_)),(4,tv (m0 1)),(1,tsl rI l_)] [box (Qf.cs zz4) (m0 1),box ([ti x_.Version,tvs (m2 3),tsl Qy x_.Lives,tsl Qs x_.Rules]) (m1 1),own Qd 49 s2.2.2 (m8 10),own (QaX Qh 3) 47 (Qbd t2 s1.1 (m8 10)) (m2 3),box (Qd.cs p4) (m9 9)] K7:=by
     refine k12 ?_;have⟨t6,h9,h⟩:=bs h;intro a w H;refine sr mx [v0 (own Qd 49 t6 (m8 10))] H (fun _=>.u [1] rfl rfl (Q1 QaL z4)<|.u [1] rfl rfl (Qab (u:=(m2 3)) QbV z0 rfl)<|.q 5 rfl<|.u [3] rfl rfl (QbO ud29 QaS z1 z0 h4)<|.u [3] rfl rfl (QbP Qaw z0 h4)<|.u [3] rfl rfl (Qcc (R:=Qh) (k:=3) Qbo z0 h4 (leb rfl))<|.q 7 rfl<|.u [4] rfl rfl (Qgo (R:=Qd) (u:=p4) Qar z7 rfl)<|.u [2] rfl rfl (Qg9 ud45 Qar z2 z1 h9)<|.e [] [2] [5] rfl rfl rfl rfl (QhV Qar z0 z1 h9)<|.n) fun _ a w H=>?_;replace H:St _ _ _ [_,_,_,_,_,_,_,_,_] [_,_,_,_] _ _:=(H.pick [1,5,10,11,12,13,14,15,16]).selA [0,1,2,4] rfl;refine QS H ?_;refine Q2 [2,3,4,5,6,7,8,9,10] ?_;refine k10 ?_;refine Q2 [2,3,4,5,6,7,8,9,10] ?_;refine Qaj (fun _ _ H=>(H.pick [0,1,4,5,6,7,8]).selA [0,1,3,2] rfl) ?_;exact QO k8 ((sj h).symm) [0,1,2,3,4,5,6]
    replace h:=h8;clear h8;refine Qz h (fun _ h=>?_) (fun _ h=>?_)
    ·have⟨t7,_,h⟩:=bs h;refine QJ [v0 (box (Qd.cs (Qb.mk p3.Name p3.Of p3.Up p3.Kind t7 p3.Hi p3.Words p3.Weights)) (m9 9))] [5] [5,6,7,8,9,10,11,12] fun m10=>?_;have⟨t8,_,h⟩:=bs h;refine QaF [v0 (box (Qd.cs (Qb.mk p3.Name p3.Of p3.Up p3.Kind t7 (i64.wrap (t7+t8)) p3.Words p3.Weights)) (m9 9))] [9] [8,9,10,11,12,13,14,15] fun m11=>?_;obtain rfl:=sj h;exact QW J4 [0,1,2,3,4,5,6,7]
    refine QB ?_;obtain rfl:=sj h;exact QW J4 [1,2,3,4,5,6,7,8]
   replace h:=h7;clear h7;refine Qz h (fun _ h=>?_) (fun _ h=>?_)
   ·have⟨t9,_,h⟩:=bs h;refine QJ [v0 (box (Qd.cs (Qb.mk t5.Name t5.Of t5.Up t5.Kind t9 t5.Hi t5.Words t5.Weights)) (m9 9))] [5] [5,6,7,8,9,10,11,12,13,14,15,16] fun m12=>?_;have⟨t10,_,h⟩:=bs h;refine QaF [v0 (box (Qd.cs (Qb.mk t5.Name t5.Of t5.Up t5.Kind t9 (i64.wrap (t9+t10)) t5.Words t5.Weights)) (m9 9))] [9] [8,9,10,11,12,13,14,15,16,17,18,19] fun m13=>?_;obtain rfl:=sj h;exact QW J3 [2,5,6,7,8,9,10,11]
   refine QB ?_;obtain rfl:=sj h;exact QW J3 [3,6,7,8,9,10,11,12]
  replace h:=QcX b2 h;refine Q5 ?_;exact QO J2 (ho _ (sj h).symm) [4,5,6,7,8,9]
 replace h:=QcX b1 h;refine Q5 ?_;exact QO J0 (ho _ (sj h).symm) [3,4,5,6,7]
noncomputable def Qcm (lo_:Int):Option (Qa):=(some (Qa.mk (0:Int) [(Qe.mk ([97]:Str) lo_ (5:Int) [(Qb.mk ([107]:Str) ([]:Str) ([]:Str) (0:Int) (0:Int) (0:Int) ([]:(List Str)) ([]:(List Int))),(Qb.mk ([110]:Str) ([]:Str) ([]:Str) (2:Int) (0:Int) (3:Int) ([]:(List Str)) ([]:(List Int)))])] ([]:(List Qw)) [(Qj.mk ([114]:Str) ([97]:Str) ([]:Str) ([110]:Str) (-9:Int))]))
instance Qlm:Spc1 prog 49 Qcm (fun lo_=>[ti lo_]) Qf.ty:=.mk fun {lo_ r} h=>by
 unfold Qcm at h
 refine Fe func49 ntmps49 fun M0 M w0 hpl=>?_
 refine QJ [v1 0 (fun v0=>box (Qf.cs zz4) v0)] [1] [0,1] fun m0=>?_
 refine QJ [v1 5 (fun v0=>box (Qh.cs zz1) v0),v1 5 (fun v0=>box (Qh.cs (Qe.mk ([97]:Str) lo_ (5:Int) [(Qb.mk ([107]:Str) ([]:Str) ([]:Str) (0:Int) (0:Int) (0:Int) ([]:(List Str)) ([]:(List Int))),(Qb.mk ([110]:Str) ([]:Str) ([]:Str) (2:Int) (0:Int) (3:Int) ([]:(List Str)) ([]:(List Int)))])) v0)] [6,7] [5,6] fun m1=>?_
 refine Q0 (fun _ _ H=>(((H.selA [1,0] rfl).shareB 0 rfl).add 0 rfl (fun _ _ _ h=>h.2)).pick [0,3]) ?_
 refine QJ [v0 (box (Qf.cs (Qa.mk (0:Int) [(Qe.mk ([97]:Str) lo_ (5:Int) [(Qb.mk ([107]:Str) ([]:Str) ([]:Str) (0:Int) (0:Int) (0:Int) ([]:(List Str)) ([]:(List Int))),(Qb.mk ([110]:Str) ([]:Str) ([]:Str) (2:Int) (0:Int) (3:Int) ([]:(List Str)) ([]:(List Int)))])] ([]:(List Qw)) [(Qj.mk ([114]:Str) ([97]:Str) ([]:Str) ([110]:Str) (-9:Int))])) (m0 0))] [6] [6] fun m2=>?_
 exact Qt h (·▸Qr hpl)
noncomputable def Qa3 (n_:Int) (least_:Int) (most_:Int):Option (Bool):=(some ((decide (n_≥least_))&&(decide (n_≤most_))))
instance Qv1:Spc3 prog 119 Qa3 (fun n_ least_ most_=>[ti n_,ti least_,ti most_]) tb:=.mk fun {n_ least_ most_ r} h=>by
 unfold Qa3 at h
 refine Fe func119 ntmps119 fun M0 M w0 hpl=>?_
 refine Qc [1,2,3] ?_
 refine Qc [8] ?_
 exact Qt h (·▸Qr hpl)
noncomputable def Qfb (x_:Qe) (c0_:(Qe→Option Bool)):Option (Bool):=(c0_ x_).bind fun t0=>(some (!t0))
instance Qr3:Spc2 prog 162 Qfb (fun x_ c0_=>[Qh.ty x_,tptr (Qi6.cs c0_)]) tb:=.mk fun {x_ c0_ r} h=>by
 unfold Qfb at h
 refine Fe func162 ntmps162 fun M0 M w0 hpl=>?_
 refine Qc [0,3] ?_
 have⟨_,_,h⟩:=bs h
 refine Qc [4] ?_
 exact Qt h (·▸Qr hpl)
noncomputable def Qbi (s_:(List Qe)) (f_:(Qe→Option Bool)):Option (Int):=(Qo (fun (s0:Int)=>((if (decide (s0<(s_.length:Int)))=true then (idx s_ s0).bind fun t0=>(f_ t0).bind fun t1=>(if t1=true then (some (.inr (.inr s0))) else (some (.inl (i64.wrap (s0+1))))) else (some (.inr (.inl ())))):Option ((Int)⊕((Unit)⊕(Int))))) (0:Int)).bind fun e0=>(match e0 with | .inl _=>(some (-1:Int)) | .inr p0=>(some p0))
instance Qo4:Spc2 prog 156 Qbi (fun s_ f_=>[tsl Qh s_,Qi6.ty f_]) ti:=.mk fun {s_ f_ r} h=>by
 unfold Qbi at h
 refine Fe func156 ntmps156 fun M0 M w0 hpl=>?_
 refine Qc [1,2] ?_
 refine Ql fun K0 k0=>?_
 refine Qc [1,2,3,4] ?_
 have⟨e0,h0,h⟩:=bs h
 have J0:∀(p0:Unit),(.inl p0)=e0→To M w0 19 [] [] K0:=by
  intro p0 he;subst he;simp only at h;refine k0 ?_;refine Qc [0] ?_;exact Qt h (·▸Qr hpl)
 have J1:∀(p1:Int),(.inr p1)=e0→To M w0 19 [(4,ti p1)] [] (Ret prog f156 M0 [] w0 (fun _=>[]) (fun _=>ti r) .ret):=by
  intro p1 he;subst he;simp only at h;obtain rfl:=sj h;exact Qr hpl
 refine Qu ?_;refine QaY h0 (fun (s0:Int)=>[(7,ti (s_.length:Int)),(8,ti s0),(0,tsl Qh s_),(1,Qi6.ty f_)]) (fun (s0:Int)=>[]) [0,1,2,3] ?_;clear h;intro s0 o K1 h ho k1;refine Qc [0,1,2,3,4] ?_;refine Ql fun _ k2=>?_;refine Qz h (fun _ h=>?_) (fun _ h=>?_)
 ·refine QB ?_;refine k2 ?_;refine Ql fun _ k3=>?_;refine Qu ?_;refine Qc [1,3,4,5,6] ?_;have⟨_,_,_,_,h⟩:=bs2 h;refine Qc [5,6,7,8,9,10] ?_;refine Qz h (fun _ h=>?_) (fun _ h=>?_)
  ·refine Qc [1] ?_;refine Qa5 ?_;exact QO J1 (ho _ (sj h).symm) [0]
  refine QB ?_;refine k3 ?_;refine Q2 [1,4,5,6] ?_;exact QO k1 ((sj h).symm) [1,0,2,3]
 refine Q5 ?_;exact QO J0 (ho _ (sj h).symm) []
noncomputable def Qbq (s_:(List Qe)) (f_:(Qe→Option Bool)):Option (Bool):=(Qbi s_ f_).bind fun t0=>(some (decide (t0≥0)))
instance Qnu:Spc2 prog 161 Qbq (fun s_ f_=>[tsl Qh s_,Qi6.ty f_]) tb:=.mk fun {s_ f_ r} h=>by
 unfold Qbq at h
 refine Fe func161 ntmps161 fun M0 M w0 hpl=>?_
 refine Qc [1,2] ?_
 have⟨_,_,h⟩:=bs h
 refine Qc [4] ?_
 exact Qt h (·▸Qr hpl)
noncomputable def Qdc (l_:(List Qe)) (right_:(Qe→Option Bool)):Option (Bool):=(Qbq l_ (fun x0=>Qfb x0 right_)).bind fun t0=>(some (!t0))
instance QtU:Spc2 prog 120 Qdc (fun l_ right_=>[tsl Qh l_,Qi6.ty right_]) tb:=.mk fun {l_ right_ r} h=>by
 unfold Qdc at h
 refine Fe func120 ntmps120 fun M0 M w0 hpl=>?_
 refine Qc [0,2] ?_
 have⟨_,_,h⟩:=bs h
 refine Qc [4] ?_
 exact Qt h (·▸Qr hpl)
noncomputable def Qdd (c_:Int):Option (Bool):=(some ((decide (c_≥97))&&(decide (c_≤122))))
instance QtV:Spc1 prog 194 Qdd (fun c_=>[tv (.int .u8 c_)]) tb:=.mk fun {c_ r} h=>by
 unfold Qdd at h
 refine Fe func194 ntmps194 fun M0 M w0 hpl=>?_
 refine Qc [1] ?_
 refine Qc [6] ?_
 exact Qt h (·▸Qr hpl)
noncomputable def QbW (s_:(List Int)) (f_:(Int→Option Bool)):Option (Int):=(Qo (fun (s0:Int)=>((if (decide (s0<(s_.length:Int)))=true then (idx s_ s0).bind fun t0=>(f_ t0).bind fun t1=>(if t1=true then (some (.inr (.inr s0))) else (some (.inl (i64.wrap (s0+1))))) else (some (.inr (.inl ())))):Option ((Int)⊕((Unit)⊕(Int))))) (0:Int)).bind fun e0=>(match e0 with | .inl _=>(some (-1:Int)) | .inr p0=>(some p0))
instance Qo5:Spc2 prog 221 QbW (fun s_ f_=>[tsl (rInt .u8) s_,Ql2.ty f_]) ti:=.mk fun {s_ f_ r} h=>by
 unfold QbW at h
 refine Fe func221 ntmps221 fun M0 M w0 hpl=>?_
 refine Qc [1,2] ?_
 refine Ql fun K0 k0=>?_
 refine Qc [1,2,3,4] ?_
 have⟨e0,h0,h⟩:=bs h
 have J0:∀(p0:Unit),(.inl p0)=e0→To M w0 19 [] [] K0:=by
  intro p0 he;subst he;simp only at h;refine k0 ?_;refine Qc [0] ?_;exact Qt h (·▸Qr hpl)
 have J1:∀(p1:Int),(.inr p1)=e0→To M w0 19 [(4,ti p1)] [] (Ret prog f221 M0 [] w0 (fun _=>[]) (fun _=>ti r) .ret):=by
  intro p1 he;subst he;simp only at h;obtain rfl:=sj h;exact Qr hpl
 refine Qu ?_;refine QaY h0 (fun (s0:Int)=>[(7,ti (s_.length:Int)),(8,ti s0),(0,tsl (rInt .u8) s_),(1,Ql2.ty f_)]) (fun (s0:Int)=>[]) [0,1,2,3] ?_;clear h;intro s0 o K1 h ho k1;refine Qc [0,1,2,3,4] ?_;refine Ql fun _ k2=>?_;refine Qz h (fun _ h=>?_) (fun _ h=>?_)
 ·refine QB ?_;refine k2 ?_;refine Ql fun _ k3=>?_;refine Qu ?_;refine Qc [1,3,4,5,6] ?_;have⟨_,_,_,_,h⟩:=bs2 h;refine Qc [5,6,7,8,9,10] ?_;refine Qz h (fun _ h=>?_) (fun _ h=>?_)
  ·refine Qc [1] ?_;refine Qa5 ?_;exact QO J1 (ho _ (sj h).symm) [0]
  refine QB ?_;refine k3 ?_;refine Q2 [1,4,5,6] ?_;exact QO k1 ((sj h).symm) [1,0,2,3]
 refine Q5 ?_;exact QO J0 (ho _ (sj h).symm) []
noncomputable def Qbr (s_:(List Int)) (f_:(Int→Option Bool)):Option (Bool):=(QbW s_ f_).bind fun t0=>(some (decide (t0≥0)))
instance QgM:Spc2 prog 195 Qbr (fun s_ f_=>[tsl (rInt .u8) s_,Ql2.ty f_]) tb:=.mk fun {s_ f_ r} h=>by
 unfold Qbr at h
 refine Fe func195 ntmps195 fun M0 M w0 hpl=>?_
 refine Qc [1,2] ?_
 have⟨_,_,h⟩:=bs h
 refine Qc [4] ?_
 exact Qt h (·▸Qr hpl)
noncomputable def Qgb (c_:Int):Option (Bool):=(some ((decide (c_≥48))&&(decide (c_≤57))))
instance Qu8:Spc1 prog 197 Qgb (fun c_=>[tv (.int .u8 c_)]) tb:=.mk fun {c_ r} h=>by
 unfold Qgb at h
 refine Fe func197 ntmps197 fun M0 M w0 hpl=>?_
 refine Qc [1] ?_
 refine Qc [6] ?_
 exact Qt h (·▸Qr hpl)
noncomputable def QfW (c_:Int):Option (Bool):=(Qdd c_).bind fun t0=>(opt ((!t0)==true) (Qgb c_) default).bind fun t1=>(some ((!t0)&&(!t1)))
instance QjY:Spc1 prog 196 QfW (fun c_=>[tv (.int .u8 c_)]) tb:=.mk fun {c_ r} h=>by
 unfold QfW at h
 refine Fe func196 ntmps196 fun M0 M w0 hpl=>?_
 refine Qc [1] ?_
 have⟨_,_,_,_,h⟩:=bs2 h
 refine Qc [8] ?_
 exact Qt h (·▸Qr hpl)
noncomputable def Q9 (s_:Str):Option (Bool):=(Qa3 (s_.length:Int) (1:Int) (12:Int)).bind fun t0=>(opt ((!t0)==false) (idx s_ (0:Int)) default).bind fun t1=>(opt ((!t0)==false) (Qdd (t1.toNat:Int)) default).bind fun t2=>(if ((!t0)||(!t2))=true then (some false) else (Qbr (QL s_) (fun x0=>QfW x0)).bind fun t3=>(some (!t3)))
instance Qv2:Spc1 prog 163 Q9 (fun s_=>[tv (.string (sB s_))]) tb:=.mk fun {s_ r} h=>by
 unfold Q9 at h
 refine Fe func163 ntmps163 fun M0 M w0 hpl=>?_
 refine Qc [1] ?_
 have⟨_,_,_,_,_,_,h⟩:=bs3 h
 refine tIfs h [9,10] (fun _ h=>?_) (fun _ h=>?_)
 ·refine Qc [0] ?_
  exact Qt h (·▸Qr hpl)
 have⟨t0,h0,h⟩:=bs h
 intro a w H
 refine sr mx [] H (fun _=>.q 1 rfl<|.o (op_s2b ud9 underlying240 underlying5 z0)<|.o (QC QqT (QgM.ok h0) (.cons (.of z0)<|.cons (.of (Fct.weak .fnE (Qd5 QqU (fun _ _ hq=>QjY.ok hq))))<|.nil))<|.o (Qin z0)<|.o (Qn z0)<|.n) fun _ a w H=>?_
 have H:=H.t1_0 [4]
 refine QS H ?_
 exact Qt h (·▸Qr hpl)
noncomputable def QcC (lo_:Int) (hi_:Int) (least_:Int) (most_:Int):Option (Bool):=(some (((decide (lo_≥least_))&&(decide (lo_≤hi_)))&&(decide (hi_≤most_))))
instance QyF:Spc4 prog 164 QcC (fun lo_ hi_ least_ most_=>[ti lo_,ti hi_,ti least_,ti most_]) tb:=.mk fun {lo_ hi_ least_ most_ r} h=>by
 unfold QcC at h
 refine Fe func164 ntmps164 fun M0 M w0 hpl=>?_
 refine Qc [1,2,3,4] ?_
 refine Qc [13] ?_
 exact Qt h (·▸Qr hpl)
noncomputable def QeV (x_:Qb) (c0_:(Qb→Option Bool)):Option (Bool):=(c0_ x_).bind fun t0=>(some (!t0))
instance Qq6:Spc2 prog 199 QeV (fun x_ c0_=>[Qd.ty x_,tptr (Qi7.cs c0_)]) tb:=.mk fun {x_ c0_ r} h=>by
 unfold QeV at h
 refine Fe func199 ntmps199 fun M0 M w0 hpl=>?_
 refine Qc [0,3] ?_
 have⟨_,_,h⟩:=bs h
 refine Qc [4] ?_
 exact Qt h (·▸Qr hpl)
noncomputable def Qba (s_:(List Qb)) (f_:(Qb→Option Bool)):Option (Int):=(Qo (fun (s0:Int)=>((if (decide (s0<(s_.length:Int)))=true then (idx s_ s0).bind fun t0=>(f_ t0).bind fun t1=>(if t1=true then (some (.inr (.inr s0))) else (some (.inl (i64.wrap (s0+1))))) else (some (.inr (.inl ())))):Option ((Int)⊕((Unit)⊕(Int))))) (0:Int)).bind fun e0=>(match e0 with | .inl _=>(some (-1:Int)) | .inr p0=>(some p0))
instance Qoj:Spc2 prog 128 Qba (fun s_ f_=>[tsl Qd s_,Qi7.ty f_]) ti:=.mk fun {s_ f_ r} h=>by
 unfold Qba at h
 refine Fe func128 ntmps128 fun M0 M w0 hpl=>?_
 refine Qc [1,2] ?_
 refine Ql fun K0 k0=>?_
 refine Qc [1,2,3,4] ?_
 have⟨e0,h0,h⟩:=bs h
 have J0:∀(p0:Unit),(.inl p0)=e0→To M w0 19 [] [] K0:=by
  intro p0 he;subst he;simp only at h;refine k0 ?_;refine Qc [0] ?_;exact Qt h (·▸Qr hpl)
 have J1:∀(p1:Int),(.inr p1)=e0→To M w0 19 [(4,ti p1)] [] (Ret prog f128 M0 [] w0 (fun _=>[]) (fun _=>ti r) .ret):=by
  intro p1 he;subst he;simp only at h;obtain rfl:=sj h;exact Qr hpl
 refine Qu ?_;refine QaY h0 (fun (s0:Int)=>[(7,ti (s_.length:Int)),(8,ti s0),(0,tsl Qd s_),(1,Qi7.ty f_)]) (fun (s0:Int)=>[]) [0,1,2,3] ?_;clear h;intro s0 o K1 h ho k1;refine Qc [0,1,2,3,4] ?_;refine Ql fun _ k2=>?_;refine Qz h (fun _ h=>?_) (fun _ h=>?_)
 ·refine QB ?_;refine k2 ?_;refine Ql fun _ k3=>?_;refine Qu ?_;refine Qc [1,3,4,5,6] ?_;have⟨_,_,_,_,h⟩:=bs2 h;refine Qc [5,6,7,8,9,10] ?_;refine Qz h (fun _ h=>?_) (fun _ h=>?_)
  ·refine Qc [1] ?_;refine Qa5 ?_;exact QO J1 (ho _ (sj h).symm) [0]
  refine QB ?_;refine k3 ?_;refine Q2 [1,4,5,6] ?_;exact QO k1 ((sj h).symm) [1,0,2,3]
 refine Q5 ?_;exact QO J0 (ho _ (sj h).symm) []
noncomputable def Qbg (s_:(List Qb)) (f_:(Qb→Option Bool)):Option (Bool):=(Qba s_ f_).bind fun t0=>(some (decide (t0≥0)))
instance QmW:Spc2 prog 198 Qbg (fun s_ f_=>[tsl Qd s_,Qi7.ty f_]) tb:=.mk fun {s_ f_ r} h=>by
 unfold Qbg at h
 refine Fe func198 ntmps198 fun M0 M w0 hpl=>?_
 refine Qc [1,2] ?_
 have⟨_,_,h⟩:=bs h
 refine Qc [4] ?_
 exact Qt h (·▸Qr hpl)
noncomputable def QcQ (l_:(List Qb)) (right_:(Qb→Option Bool)):Option (Bool):=(Qbg l_ (fun x0=>QeV x0 right_)).bind fun t0=>(some (!t0))
instance QsG:Spc2 prog 165 QcQ (fun l_ right_=>[tsl Qd l_,Qi7.ty right_]) tb:=.mk fun {l_ right_ r} h=>by
 unfold QcQ at h
 refine Fe func165 ntmps165 fun M0 M w0 hpl=>?_
 refine Qc [0,2] ?_
 have⟨_,_,h⟩:=bs h
 refine Qc [4] ?_
 exact Qt h (·▸Qr hpl)
noncomputable def Qfc (f_:Qb):Option (Qb):=((if (f_.Kind==0)=true then (some (Qb.mk f_.Name ([]:Str) ([]:Str) f_.Kind f_.Lo (0:Int) ([]:(List Str)) ([]:(List Int)))) else ((if (f_.Kind==1)=true then (some (f_.Kind==1)) else ((if (f_.Kind==4)=true then (some (f_.Kind==4)) else (some (f_.Kind==5)))).bind fun p0=>(some p0))).bind fun p1=>((if p1=true then (some (Qb.mk f_.Name f_.Of ([]:Str) f_.Kind f_.Lo f_.Hi ([]:(List Str)) ([]:(List Int)))) else ((if (f_.Kind==2)=true then (some (Qb.mk f_.Name ([]:Str) ([]:Str) f_.Kind f_.Lo f_.Hi ([]:(List Str)) ([]:(List Int)))) else ((if (f_.Kind==3)=true then (some (Qb.mk f_.Name ([]:Str) ([]:Str) f_.Kind (0:Int) (0:Int) f_.Words f_.Weights)) else ((if (f_.Kind==6)=true then (some (Qb.mk f_.Name f_.Of ([]:Str) f_.Kind (0:Int) (0:Int) ([]:(List Str)) ([]:(List Int)))) else ((if (f_.Kind==7)=true then (some (Qb.mk f_.Name f_.Of f_.Up f_.Kind f_.Lo f_.Hi ([]:(List Str)) ([]:(List Int)))) else ((if (f_.Kind==8)=true then (some (Qb.mk f_.Name f_.Of f_.Up f_.Kind (0:Int) (0:Int) ([]:(List Str)) ([]:(List Int)))) else (some (Qb.mk f_.Name ([]:Str) ([]:Str) f_.Kind (0:Int) (0:Int) ([]:(List Str)) ([]:(List Int)))))).bind fun p2=>(some p2))).bind fun p3=>(some p3))).bind fun p4=>(some p4))).bind fun p5=>(some p5))).bind fun p6=>(some p6))).bind fun p7=>(some p7))).bind fun p8=>(some p8)
instance QyG:Spc1 prog 200 Qfc (fun f_=>[Qd.ty f_]) Qd.ty:=.mk fun {f_ r} h=>by
 unfold Qfc at h
 refine Fe func200 ntmps200 fun M0 M w0 hpl=>?_
 refine QJ [v1 1 (fun v0=>box (Qd.cs zz0) v0)] [2] [0,1] fun m0=>?_
 refine QJ [v1 5 (fun v0=>box (Qd.cs zz0) v0),v1 5 (fun v0=>box (Qd.cs (Qb.mk f_.Name ([]:Str) ([]:Str) f_.Kind (0:Int) (0:Int) ([]:(List Str)) ([]:(List Int)))) v0)] [6,7] [5,6,7] fun m1=>?_
 refine Ql fun K0 k0=>?_
 refine Qc [1,2,3,4] ?_
 refine Qu ?_
 refine Qc [1,2,3,4,5] ?_
 have⟨p0,h0,h⟩:=bs h
 have J0:To M w0 73 [(3,tv (m1 5)),(2,tv (m0 1))] [box (Qd.cs zz0) (m0 1),box (Qd.cs p0) (m1 5)] K0:=by
  refine k0 ?_;refine QJ [v0 (box (Qd.cs p0) (m0 1))] [2] [2] fun m2=>?_;refine Q0 (fun _ _ H=>H.selA [1] rfl) ?_;exact Qt h (·▸Qr hpl)
 replace h:=h0;clear h0;refine Qz h (fun _ h=>?_) (fun _ h=>?_)
 ·refine QaF [v0 (box (Qd.cs (Qb.mk f_.Name ([]:Str) ([]:Str) f_.Kind f_.Lo (0:Int) ([]:(List Str)) ([]:(List Int)))) (m1 5))] [4] [5,7] fun m3=>?_;obtain rfl:=sj h;exact QW J0 [0,1]
 refine Ql fun K1 k1=>?_;refine Qc [1,3,4,5,6] ?_;have⟨p1,h1,h⟩:=bs h;have J1:To M w0 73 [(16,tb p1),(10,ti f_.Kind),(3,tv (m1 5)),(1,tptr (Qd.cs f_)),(2,tv (m0 1))] [box (Qd.cs zz0) (m0 1),box (Qd.cs (Qb.mk f_.Name ([]:Str) ([]:Str) f_.Kind (0:Int) (0:Int) ([]:(List Str)) ([]:(List Int)))) (m1 5)] K1:=by
  refine k1 ?_;have⟨p2,h2,h⟩:=bs h;have J2:To M w0 73 [(3,tv (m1 5)),(2,tv (m0 1))] [box (Qd.cs zz0) (m0 1),box (Qd.cs p2) (m1 5)] K0:=by
   obtain rfl:=sj h;exact QW J0 [0,1]
  replace h:=h2;clear h2;refine Qz h (fun _ h=>?_) (fun _ h=>?_)
  ·refine QaF [v0 (box (Qd.cs (Qb.mk f_.Name f_.Of ([]:Str) f_.Kind (0:Int) (0:Int) ([]:(List Str)) ([]:(List Int)))) (m1 5)),v0 (box (Qd.cs (Qb.mk f_.Name f_.Of ([]:Str) f_.Kind f_.Lo (0:Int) ([]:(List Str)) ([]:(List Int)))) (m1 5)),v0 (box (Qd.cs (Qb.mk f_.Name f_.Of ([]:Str) f_.Kind f_.Lo f_.Hi ([]:(List Str)) ([]:(List Int)))) (m1 5))] [8,10,12] [11,13] fun m4=>?_;obtain rfl:=sj h;exact QW J2 [0,1]
  refine Qc [1,3,4,5,6] ?_;have⟨p3,h3,h⟩:=bs h;have J3:To M w0 73 [(3,tv (m1 5)),(2,tv (m0 1))] [box (Qd.cs zz0) (m0 1),box (Qd.cs p3) (m1 5)] K0:=by
   obtain rfl:=sj h;exact QW J2 [0,1]
  replace h:=h3;clear h3;refine Qz h (fun _ h=>?_) (fun _ h=>?_)
  ·refine QaF [v0 (box (Qd.cs (Qb.mk f_.Name ([]:Str) ([]:Str) f_.Kind f_.Lo (0:Int) ([]:(List Str)) ([]:(List Int)))) (m1 5)),v0 (box (Qd.cs (Qb.mk f_.Name ([]:Str) ([]:Str) f_.Kind f_.Lo f_.Hi ([]:(List Str)) ([]:(List Int)))) (m1 5))] [6,8] [8,10] fun m5=>?_;obtain rfl:=sj h;exact QW J3 [0,1]
  refine Qc [1,3,4,5,6] ?_;have⟨p4,h4,h⟩:=bs h;have J4:To M w0 73 [(3,tv (m1 5)),(2,tv (m0 1))] [box (Qd.cs zz0) (m0 1),box (Qd.cs p4) (m1 5)] K0:=by
   obtain rfl:=sj h;exact QW J3 [0,1]
  replace h:=h4;clear h4;refine Qz h (fun _ h=>?_) (fun _ h=>?_)
  ·refine QaF [v0 (box (Qd.cs (Qb.mk f_.Name ([]:Str) ([]:Str) f_.Kind (0:Int) (0:Int) f_.Words ([]:(List Int)))) (m1 5)),v0 (box (Qd.cs (Qb.mk f_.Name ([]:Str) ([]:Str) f_.Kind (0:Int) (0:Int) f_.Words f_.Weights)) (m1 5))] [6,8] [8,10] fun m6=>?_;obtain rfl:=sj h;exact QW J4 [0,1]
  refine Qc [1,3,4,5,6] ?_;have⟨p5,h5,h⟩:=bs h;have J5:To M w0 73 [(3,tv (m1 5)),(2,tv (m0 1))] [box (Qd.cs zz0) (m0 1),box (Qd.cs p5) (m1 5)] K0:=by
   obtain rfl:=sj h;exact QW J4 [0,1]
  replace h:=h5;clear h5;refine Qz h (fun _ h=>?_) (fun _ h=>?_)
  ·refine QaF [v0 (box (Qd.cs (Qb.mk f_.Name f_.Of ([]:Str) f_.Kind (0:Int) (0:Int) ([]:(List Str)) ([]:(List Int)))) (m1 5))] [4] [5,7] fun m7=>?_;obtain rfl:=sj h;exact QW J5 [0,1]
  refine Qc [1,3,4,5,6] ?_;have⟨p6,h6,h⟩:=bs h;have J6:To M w0 73 [(3,tv (m1 5)),(2,tv (m0 1))] [box (Qd.cs zz0) (m0 1),box (Qd.cs p6) (m1 5)] K0:=by
   obtain rfl:=sj h;exact QW J5 [0,1]
  replace h:=h6;clear h6;refine Qz h (fun _ h=>?_) (fun _ h=>?_)
  ·refine QaF [v0 (box (Qd.cs (Qb.mk f_.Name f_.Of ([]:Str) f_.Kind (0:Int) (0:Int) ([]:(List Str)) ([]:(List Int)))) (m1 5)),v0 (box (Qd.cs (Qb.mk f_.Name f_.Of f_.Up f_.Kind (0:Int) (0:Int) ([]:(List Str)) ([]:(List Int)))) (m1 5)),v0 (box (Qd.cs (Qb.mk f_.Name f_.Of f_.Up f_.Kind f_.Lo (0:Int) ([]:(List Str)) ([]:(List Int)))) (m1 5)),v0 (box (Qd.cs (Qb.mk f_.Name f_.Of f_.Up f_.Kind f_.Lo f_.Hi ([]:(List Str)) ([]:(List Int)))) (m1 5))] [10,12,14,16] [14,16] fun m8=>?_;obtain rfl:=sj h;exact QW J6 [0,1]
  refine Qc [1,4,5,6] ?_;have⟨p7,h7,h⟩:=bs h;have J7:To M w0 73 [(3,tv (m1 5)),(2,tv (m0 1))] [box (Qd.cs zz0) (m0 1),box (Qd.cs p7) (m1 5)] K0:=by
   obtain rfl:=sj h;exact QW J6 [0,1]
  replace h:=h7;clear h7;refine Qz h (fun _ h=>?_) (fun _ h=>?_)
  ·refine QaF [v0 (box (Qd.cs (Qb.mk f_.Name f_.Of ([]:Str) f_.Kind (0:Int) (0:Int) ([]:(List Str)) ([]:(List Int)))) (m1 5)),v0 (box (Qd.cs (Qb.mk f_.Name f_.Of f_.Up f_.Kind (0:Int) (0:Int) ([]:(List Str)) ([]:(List Int)))) (m1 5))] [6,8] [7,9] fun m9=>?_;obtain rfl:=sj h;exact QW J7 [0,1]
  refine QB ?_;obtain rfl:=sj h;exact QW J7 [1,3]
 replace h:=h1;clear h1;refine Qz h (fun _ h=>?_) (fun _ h=>?_)
 ·refine QB ?_;obtain rfl:=sj h;exact QW J1 [0,1,2,3,4]
 refine Qc [1,2,3,4,5] ?_;have⟨p8,h8,h⟩:=bs h;have J8:To M w0 73 [(16,tb p8),(10,ti f_.Kind),(3,tv (m1 5)),(1,tptr (Qd.cs f_)),(2,tv (m0 1))] [box (Qd.cs zz0) (m0 1),box (Qd.cs (Qb.mk f_.Name ([]:Str) ([]:Str) f_.Kind (0:Int) (0:Int) ([]:(List Str)) ([]:(List Int)))) (m1 5)] K1:=by
  obtain rfl:=sj h;exact QW J1 [0,1,2,3,4]
 replace h:=h8;clear h8;refine Qz h (fun _ h=>?_) (fun _ h=>?_)
 ·refine QB ?_;obtain rfl:=sj h;exact QW J8 [0,1,2,3,4]
 refine Q2 [1,2,3,4,5] ?_;obtain rfl:=sj h;exact QW J8 [0,1,2,3,4]
end Go.Proofs.YtlajingmjmnfgaaGreatDoor

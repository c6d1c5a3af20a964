/- The walk. No condition. -/
import Derived.Test.YtjioihpegfgbpaaGreatDoorGenA
set_option linter.all false
open Go.Proofs.Tryz Go.IntKind
namespace Go.Proofs.YtjioihpegfgbpaaGreatDoor
noncomputable section
open Go.Sim
set_option maxRecDepth 100000
set_option maxHeartbeats 4000000
def Qgj (l_:(List Int)):Option (Qa):=(sub l_ 0 (imin (l_.length:Int) 200)).bind λt0=>(QE (QD.mk t0 0) 4).bind λt1=>(QE t1.2 3).bind λt2=>(Qz (λ(s0:Int×List Qh×QD)=>((if (decide (s0.1<(i64.wrap ((1:Int)+t2.1))))=true then (Qd7 s0.2.2 s0.2.1).bind λt3=>(rm (t3.2.2.length+[t3.1].length)).bind λ_=>(some (.inl ((i64.wrap (s0.1+1)),(t3.2.2++[t3.1]),t3.2.1))) else (some (.inr (s0.2.1,s0.2.2)))):Option ((Int×List Qh×QD)⊕((List Qh×QD))))) ((0:Int),([]:List Qh),t2.2)).bind λp0=>(QE p0.2 3).bind λt4=>(sub [([110,101,119]:Str),([111,112,101,110]:Str),([100,111,110,101]:Str),([115,104,117,116]:Str)] 0 (i64.wrap ((2:Int)+t4.1))).bind λt5=>(Qz (λ(s1:Int×List Qac)=>((if (decide ((i64.wrap (s1.1+1))<(t5.length:Int)))=true then (rm (s1.2.length+[(Qac.mk s1.1 (i64.wrap (s1.1+1)))].length)).bind λ_=>(some (.inl ((i64.wrap (s1.1+1)),(s1.2++[(Qac.mk s1.1 (i64.wrap (s1.1+1)))])))) else (some (.inr s1.2))):Option ((Int×List Qac)⊕((List Qac))))) ((0:Int),([]:List Qac))).bind λp1=>(QE t4.2 2).bind λt6=>((if (t6.1==0)=true then (rm (p1.length+[(Qac.mk 1 0)].length)).bind λ_=>(some (p1++[(Qac.mk 1 0)])) else (some p1))).bind λp2=>(QE t6.2 3).bind λt7=>((if (t7.1==0)=true then (rm (p2.length+[(Qac.mk 0 (i64.wrap ((t5.length:Int) - 1)))].length)).bind λ_=>(some (p2++[(Qac.mk 0 (i64.wrap ((t5.length:Int) - 1)))])) else (some p2))).bind λp3=>(rm (([]:List Qr).length+[(Qr.mk ([108,105,102,101]:Str) t5 p3)].length)).bind λ_=>(Qz (λ(s2:Int×List Qm×QD)=>((if ((decide (s2.1<(i64.wrap ((1:Int)+t2.1))))&&(decide ((s2.2.1.length:Int)<2)))=true then (idx p0.1 s2.1).bind λt8=>(Qd8 s2.2.2 t8).bind λt9=>((if t9.2.1=true then (rm (s2.2.1.length+[t9.1].length)).bind λ_=>(some (s2.2.1++[t9.1])) else (some s2.2.1))).bind λp4=>(some (.inl ((i64.wrap (s2.1+1)),p4,t9.2.2))) else (some (.inr s2.2.1))):Option ((Int×List Qm×QD)⊕((List Qm))))) ((0:Int),([]:List Qm),t7.2)).bind λp5=>(some (Qa.mk t1.1 p0.1 (([]:List Qr)++[(Qr.mk ([108,105,102,101]:Str) t5 p3)]) p5))
instance QoE:Spc1 prog 4 Qgj (λl_=>[tsl rI l_]) Qb.ty:=.mk λ{l_ r} h=>by
 unfold Qgj at h
 refine Fe func4 ntmps4 λM0 M w0 hpl=>?_
 refine Qy5 [v1 0 (λv0=>box (Qb.cs zz4) v0)] [1] [0,1] λm0=>?_
 have⟨t0,_,h⟩:=bs h
 refine Qy5 [v1 6 (λv0=>box (Qu.cs (QD.mk t0 (0:Int))) v0)] [7] [7,8] λm1=>?_
 have⟨t1,h0,h⟩:=bs h
 intro a w H
 refine sr mx [v0 (box (Qu.cs t1.2) (m1 6)),v1 3 (λv0=>box (Qb.cs zz4) v0),v1 3 (λv0=>box ([ti t1.1,tvs nilV,tvs nilV,tvs nilV]) v0)] H (λ_=>.q 0 rfl<|.e [] [1] [2] rfl rfl rfl rfl (Qq Qce (Qae.ok h0) (.cons (.of z0)<|.cons (.of .k)<|.nil))<|.p (T:=tagg ([ti t1.1,tvs nilV,tvs nilV,tvs nilV])) rfl (QaD ud27 pl27 zv27 Qq6.1 (.cons (R:=rI) (u:=t1.1) rfl z0 (leb rfl)<|.nil _))<|.m [] [3] rfl rfl rfl (QV (R:=Qb) (a:=zz4) QH QdK)<|.e [] [3] [4] rfl rfl rfl rfl (QG (R:=(rAgg ([ti t1.1,tvs nilV,tvs nilV,tvs nilV]) (Qk (QO rfl) (Qk QU (Qk QU (Qk QU Q5)))))) (a:=()) (tokA QH (Qk (QO rfl) (Qk QU (Qk QU (Qk QU Q5)))) rfl rfl) z0 z1 (leb rfl))<|.n) λm2 a w H=>?_
 replace H:St _ _ _ [_,_,_] [_,_,_,_,_,_] _ _:=(((H.pick [3,4,5]).nil (Qp) 54).nil (Qo) 59).nil (Ql) 62
 refine Qze H ?_
 have⟨t2,_,h⟩:=bs h
 refine Qy5 [v0 (box (Qu.cs t2.2) (m1 6))] [2] [3,4,5,6] λm3=>?_
 refine QyY λK0 k0=>?_
 refine QyV [0,1,2,3,4] ?_
 have⟨e0,h1,h⟩:=bs h
 have J0:∀(p0:List Qh×QD) (y0:Value),p0=e0->To M w0 119 [(5,ti (i64.wrap ((1:Int)+t2.1))),(4,tv (m2 3)),(3,tv (m1 6)),(2,tv (m0 0))] [own Ql 62 ([]:List Qm) nilV,own Qo 59 ([]:List Qr) nilV,own Qp 54 p0.1 y0,box (Qb.cs zz4) (m0 0),box ([ti t1.1,tvs y0,tvs nilV,tvs nilV]) (m2 3),box (Qu.cs p0.2) (m1 6)] K0:=by
  intro p0 y0 he;subst he;refine k0 ?_;have⟨t3,_,t4,_,h⟩:=bs2 h;refine Qy5 [v0 (box (Qu.cs t3.2) (m1 6))] [3] [5,6,7,8,9] λm4=>?_;intro a w H;refine sr mx [v1 2 (λv0=>box (Qo.cs zz2) v0),v1 2 (λv0=>box ([tv (.string (sB ([108,105,102,101]:Str))),tsl rS t4,tvs nilV]) v0)] H (λ_=>.q 0 rfl<|.p (T:=tagg ([tv (.string (sB ([108,105,102,101]:Str))),tsl rS t4,tvs nilV])) rfl (QaD underlying59 pl59 zv59 Qv5.1 (.cons (R:=rS) (u:=([108,105,102,101]:Str)) rfl .k (leb rfl)<|.cons (R:=(rSl rS)) (u:=t4) rfl z0 (leb rfl)<|.nil _))<|.m [] [6] rfl rfl rfl (QV (R:=Qo) (a:=zz2) Qe7 zok59)<|.e [] [6] [7] rfl rfl rfl rfl (QG (R:=(rAgg ([tv (.string (sB ([108,105,102,101]:Str))),tsl rS t4,tvs nilV]) (Qk (QO rfl) (Qk QaH (Qk QU Q5))))) (a:=()) (tokA Qe7 (Qk (QO rfl) (Qk QaH (Qk QU Q5))) rfl rfl) z0 z1 (leb rfl))<|.n) λm5 a w H=>?_;replace H:St _ _ _ [_,_,_,_,_,_] [_,_,_,_,_,_,_,_] _ _:=(H.pick [2,3,4,5,6,7]).nil (Qaz) 60;refine Qze H ?_;refine QyY λK1 k1=>QyV [0,1,2,3,4,5,6] ?_;have⟨e1,h2,h⟩:=bs h;have J1:∀(p1:List Qac) (y1:Value),p1=e1->To M w0 119 [(8,tv (m5 2)),(7,tsl rS t4),(5,ti (i64.wrap ((1:Int)+t2.1))),(4,tv (m2 3)),(3,tv (m1 6)),(2,tv (m0 0))] [own Qaz 60 p1 y1,own Ql 62 ([]:List Qm) nilV,own Qo 59 ([]:List Qr) nilV,own Qp 54 p0.1 y0,box (Qb.cs zz4) (m0 0),box ([ti t1.1,tvs y0,tvs nilV,tvs nilV]) (m2 3),box (Qu.cs t3.2) (m1 6),box ([tv (.string (sB ([108,105,102,101]:Str))),tsl rS t4,tvs y1]) (m5 2)] K1:=by
   intro p1 y1 he;subst he;refine k1 <|QyY λK2 k2=>?_;have⟨t5,_,h⟩:=bs h;refine Qy5 [v0 (box (Qu.cs t5.2) (m1 6))] [2] [2,3,4,5,6,7,8] λm6=>?_;have⟨p2,h3,h⟩:=bs h;have J2:∀(y2:Value),To M w0 119 [(8,tv (m5 2)),(7,tsl rS t4),(5,ti (i64.wrap ((1:Int)+t2.1))),(4,tv (m2 3)),(3,tv (m1 6)),(2,tv (m0 0))] [own Ql 62 ([]:List Qm) nilV,own Qo 59 ([]:List Qr) nilV,own Qp 54 p0.1 y0,box (Qb.cs zz4) (m0 0),box ([ti t1.1,tvs y0,tvs nilV,tvs nilV]) (m2 3),box (Qu.cs t5.2) (m1 6),own Qaz 60 p2 y2,box ([tv (.string (sB ([108,105,102,101]:Str))),tsl rS t4,tvs y2]) (m5 2)] K2:=by
    intro y2;refine k2 <|QyY λK3 k3=>?_;have⟨t6,_,h⟩:=bs h;refine Qy5 [v0 (box (Qu.cs t6.2) (m1 6))] [2] [2,3,4,5,6,7,8] λm7=>?_;have⟨p3,h4,h⟩:=bs h;have J3:∀(y3:Value),To M w0 119 [(8,tv (m5 2)),(5,ti (i64.wrap ((1:Int)+t2.1))),(4,tv (m2 3)),(3,tv (m1 6)),(2,tv (m0 0))] [own Ql 62 ([]:List Qm) nilV,own Qo 59 ([]:List Qr) nilV,own Qp 54 p0.1 y0,box (Qb.cs zz4) (m0 0),box ([ti t1.1,tvs y0,tvs nilV,tvs nilV]) (m2 3),box (Qu.cs t6.2) (m1 6),own Qaz 60 p3 y3,box ([tv (.string (sB ([108,105,102,101]:Str))),tsl rS t4,tvs y3]) (m5 2)] K3:=by
     intro y3;refine k3 <|Qy9 (As'':=[box (Qo.cs (Qr.mk ([108,105,102,101]:Str) t4 p3)) (m5 2),own Ql 62 ([]:List Qm) nilV,own Qo 59 ([]:List Qr) nilV,own Qp 54 p0.1 y0,box (Qb.cs zz4) (m0 0),box ([ti t1.1,tvs y0,tvs nilV,tvs nilV]) (m2 3),box (Qu.cs t6.2) (m1 6)]) (λ_ _ H=>((H.pick [0,1,2,3,4]).Xj [6,7,0,1,2,3,4,5] rfl).Xl 2 rfl) ?_;have⟨_,_,h⟩:=bs h;refine Qy5 [v1 4 (λv0=>own Qo 59 (([]:List Qr)++[(Qr.mk ([108,105,102,101]:Str) t4 p3)]) v0),v1 4 (λv0=>box ([ti t1.1,tvs y0,tvs v0,tvs nilV]) (m2 3))] [5,7] [4,7,8,9,10] λm8=>?_;refine Qy9 (λ_ _ H=>H.Xj [1,2,3,4,5,6] rfl) ?_;refine QyY λK4 k4=>QyV [0,1,2,3,4,5] ?_;have⟨e2,h5,h⟩:=bs h;have J4:∀(p4:List Qm) (y4:Value),p4=e2->To M w0 119 [(4,tv (m2 3)),(2,tv (m0 0))] [own Ql 62 p4 y4,own Qp 54 p0.1 y0,box (Qb.cs zz4) (m0 0),own Qo 59 (([]:List Qr)++[(Qr.mk ([108,105,102,101]:Str) t4 p3)]) (m8 4),box ([ti t1.1,tvs y0,tvs (m8 4),tvs y4]) (m2 3)] K4:=by
      intro p4 y4 he;subst he;refine k4 <|Qy9 (As'':=[box ([ti t1.1,tsl Qp p0.1,tvs (m8 4),tvs y4]) (m2 3),own Ql 62 p4 y4,box (Qb.cs zz4) (m0 0),own Qo 59 (([]:List Qr)++[(Qr.mk ([108,105,102,101]:Str) t4 p3)]) (m8 4)]) (λ_ _ H=>((H.pick [0,1]).Xj [1,4,0,2,3] rfl).Xl 1 rfl) ?_;refine Qy9 (As'':=[box ([ti t1.1,tsl Qp p0.1,tsl Qo (([]:List Qr)++[(Qr.mk ([108,105,102,101]:Str) t4 p3)]),tvs y4]) (m2 3),own Ql 62 p4 y4,box (Qb.cs zz4) (m0 0)]) (λ_ _ H=>((H.pick [0,1]).Xj [3,0,1,2] rfl).Xl 2 rfl) ?_;refine Qy9 (As'':=[box (Qb.cs (Qa.mk t1.1 p0.1 (([]:List Qr)++[(Qr.mk ([108,105,102,101]:Str) t4 p3)]) p4)) (m2 3),box (Qb.cs zz4) (m0 0)]) (λ_ _ H=>((H.pick [0,1]).Xj [1,0,2] rfl).Xl 3 rfl) ?_;refine Qy5 [v0 (box (Qb.cs (Qa.mk t1.1 p0.1 (([]:List Qr)++[(Qr.mk ([108,105,102,101]:Str) t4 p3)]) p4)) (m0 0))] [2] [2] λm9=>?_;refine Qy9 (λ_ _ H=>H.Xj [1] rfl) ?_;exact QyZ h (·▸QyX hpl)
     refine Qy1 <|Qzf h5 (λ(s0:Int×List Qm×QD) (y5:Value)=>[(10,ti s0.1),(5,ti (i64.wrap ((1:Int)+t2.1))),(4,tv (m2 3)),(3,tv (m1 6)),(2,tv (m0 0))]) (λ(s0:Int×List Qm×QD) (y5:Value)=>[own Ql 62 s0.2.1 y5,own Qp 54 p0.1 y0,box (Qb.cs zz4) (m0 0),box (Qu.cs s0.2.2) (m1 6),own Qo 59 (([]:List Qr)++[(Qr.mk ([108,105,102,101]:Str) t4 p3)]) (m8 4),box ([ti t1.1,tvs y0,tvs (m8 4),tvs y5]) (m2 3)]) nilV [0,2,3,4,5] ?_;clear h;intro s0 y5 o K5 h ho k5;refine QyY λ_ k6=>?_;intro a w H;refine sr mx [] H (λ_=>.q 0 rfl<|.q 2 rfl<|.o (Q8 z1 z0)<|.q 0 rfl<|.gu [5] rfl rfl rfl bq0 (λ_=>QC QaO z6)<|.gu [5] rfl rfl rfl bq1 (λhc=>QX (u:=y5) QhM (.cond z0 hc) rfl)<|.gu [0] rfl rfl rfl bq2 (λhc=>Qdn ud25 (.cond z0 hc))<|.g rfl rfl bq3 (λhc=>Q8 (.cond z0 hc) .k)<|.o (Qby z4 (λhp=>(.cond z0 (beqT hp))))<|.n) λ_ a w H=>?_;have H:=H.to [8,9,10,11,12,13] [_,_,_,_,_,_] [_,_,_,_,_,_] rfl rfl;refine Qze H ?_;refine Qy0 h (λ_ h=>?_) (λ_ h=>?_)
     ·refine Qy2 <|k6 <|QyY λK6 k7=>Qy1 ?_;have⟨_,_,t7,_,h⟩:=bs2 h;refine Qy5 [v0 (box (Qu.cs t7.2.2) (m1 6)),v1 10 (λv0=>box (Ql.cs zz3) v0),v1 10 (λv0=>box (Ql.cs t7.1) v0)] [7,11,12] [2,10,11,13,14,15,16,17] λm10=>?_;refine Qy9 (λ_ _ H=>(((H.Xj [6,0,1,2,3,4,5] rfl).Xk 1 rfl).add 0 rfl (λ_ _ _ h=>h.2)).pick [0,2,4,5,6,7,8,9]) ?_;refine QyV [0,1,2,4,5,6,7,8] ?_;have⟨p5,h6,h⟩:=bs h;have J5:∀(y6:Value),To M w0 119 [(10,ti s0.1),(5,ti (i64.wrap ((1:Int)+t2.1))),(4,tv (m2 3)),(3,tv (m1 6)),(2,tv (m0 0))] [own Qp 54 p0.1 y0,box (Qb.cs zz4) (m0 0),own Qo 59 (([]:List Qr)++[(Qr.mk ([108,105,102,101]:Str) t4 p3)]) (m8 4),box (Qu.cs t7.2.2) (m1 6),own Ql 62 p5 y6,box ([ti t1.1,tvs y0,tvs (m8 4),tvs y6]) (m2 3)] K6:=by
       intro y6;refine k7 <|Qy6 [2,3,4,5,6] ?_;refine Qzc (λ_ _ H=>(H.pick [0,1,2,3,4]).Xj [4,0,1,3,2,5] rfl) ?_;exact Qy8 k5 y6 ((sj h).symm) [0,1,2,3,4]
      replace h:=h6;clear h6;refine Qy0 h (λ_ h=>?_) (λ_ h=>?_)
      ·have⟨_,_,h⟩:=bs h;refine Qza [v1 4 (λv0=>own Ql 62 (s0.2.1++[t7.1]) v0),v1 4 (λv0=>box ([ti t1.1,tvs y0,tvs (m8 4),tvs v0]) (m2 3))] [5,7] [4,8,9,10,11,12,13] λm11=>?_;obtain rfl:=sj h;exact Qy3 (J5 (m11 4)) [2,3,4,5,6]
      refine Qy2 ?_;obtain rfl:=sj h;refine Qzc (λ_ _ H=>(H.pick [3,4,5,6,7]).Xj [1,2,3,5,0,4] rfl) ?_;exact Qy3 (J5 y5) [0,1,2,3,4]
     refine Qy7 <|Qzc (λ_ _ H=>(H.pick [3,5]).Xj [0,1,2,4,5] rfl) ?_;exact Qy8 J4 y5 (ho _ (sj h).symm) [0,1]
    replace h:=h4;clear h4;refine Qy0 h (λ_ h=>?_) (λ_ h=>?_)
    ·have⟨_,_,h⟩:=bs h;refine Qza [v1 7 (λv0=>own Qaz 60 (p2++[(Qac.mk (0:Int) (i64.wrap ((t4.length:Int) - 1)))]) v0),v1 7 (λv0=>box ([tv (.string (sB ([108,105,102,101]:Str))),tsl rS t4,tvs v0]) (m5 2))] [8,10] [7,10,12,13,14,15] λm12=>?_;obtain rfl:=sj h;exact Qy3 (J3 (m12 7)) [1,2,3,4,5]
    refine Qy2 ?_;obtain rfl:=sj h;refine Qzc (λ_ _ H=>(H.pick [1,3,4,5,6]).Xj [0,1,2,3,4,7,5,6] rfl) ?_;exact Qy3 (J3 y2) [0,1,2,3,4]
   replace h:=h3;clear h3;refine Qy0 h (λ_ h=>?_) (λ_ h=>?_)
   ·have⟨_,_,h⟩:=bs h;refine Qza [v1 4 (λv0=>own Qaz 60 (p1++[(Qac.mk (1:Int) (0:Int))]) v0),v1 4 (λv0=>box ([tv (.string (sB ([108,105,102,101]:Str))),tsl rS t4,tvs v0]) (m5 2))] [5,7] [4,7,8,9,10,11,12] λm13=>?_;obtain rfl:=sj h;exact Qy3 (J2 (m13 4)) [1,2,3,4,5,6]
   refine Qy2 ?_;obtain rfl:=sj h;refine Qzc (λ_ _ H=>(H.pick [1,2,3,4,5,6]).Xj [1,2,3,4,5,7,0,6] rfl) ?_;exact Qy3 (J2 y1) [0,1,2,3,4,5]
  refine Qy1 <|Qzf h2 (λ(s1:Int×List Qac) (y7:Value)=>[(9,ti s1.1),(8,tv (m5 2)),(7,tsl rS t4),(5,ti (i64.wrap ((1:Int)+t2.1))),(4,tv (m2 3)),(3,tv (m1 6)),(2,tv (m0 0))]) (λ(s1:Int×List Qac) (y7:Value)=>[own Qaz 60 s1.2 y7,own Ql 62 ([]:List Qm) nilV,own Qo 59 ([]:List Qr) nilV,own Qp 54 p0.1 y0,box (Qb.cs zz4) (m0 0),box ([ti t1.1,tvs y0,tvs nilV,tvs nilV]) (m2 3),box (Qu.cs t3.2) (m1 6),box ([tv (.string (sB ([108,105,102,101]:Str))),tsl rS t4,tvs y7]) (m5 2)]) nilV [0,1,2,3,4,5,6] ?_;clear h;intro s1 y7 o K7 h ho k8;refine QyY λ_ k9=>QyV [4,5,6,7,8,9,10,11] ?_;refine Qy0 h (λ_ h=>?_) (λ_ h=>?_)
  ·refine Qy2 <|k9 <|QyY λ_ k10=>Qy1 ?_;have⟨_,_,h⟩:=bs h;refine Qza [v1 7 (λv0=>own Qaz 60 (s1.2++[(Qac.mk s1.1 (i64.wrap (s1.1+1)))]) v0),v1 7 (λv0=>box ([tv (.string (sB ([108,105,102,101]:Str))),tsl rS t4,tvs v0]) (m5 2))] [8,10] [7,10,11,12,13,14,15,16] λm14=>?_;refine k10 <|Qy6 [2,3,4,5,6,7,8,9] ?_;refine Qzc (λ_ _ H=>(H.pick [0,2,3,4,5,6,7]).Xj [6,0,1,2,3,4,5,7] rfl) ?_;exact Qy8 k8 (m14 7) ((sj h).symm) [0,1,2,3,4,5,6]
  refine Qy7 <|Qy8 J1 y7 (ho _ (sj h).symm) [2,3,4,5,6,7]
 refine Qy1 <|Qzf h1 (λ(s2:Int×List Qh×QD) (y8:Value)=>[(6,ti s2.1),(5,ti (i64.wrap ((1:Int)+t2.1))),(4,tv (m2 3)),(3,tv (m1 6)),(2,tv (m0 0))]) (λ(s2:Int×List Qh×QD) (y8:Value)=>[own Ql 62 ([]:List Qm) nilV,own Qo 59 ([]:List Qr) nilV,own Qp 54 s2.2.1 y8,box (Qb.cs zz4) (m0 0),box ([ti t1.1,tvs y8,tvs nilV,tvs nilV]) (m2 3),box (Qu.cs s2.2.2) (m1 6)]) nilV [0,1,2,3,4] ?_;clear h;intro s2 y8 o K8 h ho k11;refine QyY λ_ k12=>QyV [2,3,4,5,6,7] ?_;refine Qy0 h (λ_ h=>?_) (λ_ h=>?_)
 ·refine Qy2 <|k12 <|QyY λ_ k13=>Qy1 ?_;have⟨t8,h7,_,h8,h⟩:=bs2 h;intro a w H;refine wr mx [v0 (box (Qu.cs t8.2.1) (m1 6)),v0 (own Qp 54 t8.2.2 y8),v1 7 (λv0=>own Qp 54 (t8.2.2++[t8.1]) v0),v1 7 (λv0=>box ([ti t1.1,tvs v0,tvs nilV,tvs nilV]) (m2 3))] H (λ_=>.u [4] rfl rfl (QC QZ z3)<|.u [4] rfl rfl (QX (u:=y8) Qa7 z0 rfl)<|.q 6 rfl<|.u [4] rfl rfl (QC QZ z6)<|.u [4] rfl rfl (QX (u:=y8) Qa7 z0 rfl)<|.e [] [5,2] [6,7] rfl rfl rfl rfl (Qq Qz2 (Qme.ok h7) (.cons (.of z2)<|.cons (.of z0)<|.nil))<|.o (QK (R:=Qp) (us:=[t8.1]) ud23 Q6 (.cons z0<|.nil _) rfl (leb rfl))<|.e [] [7] [8] rfl rfl rfl rfl (QS (R:=Qp) ud23 Q6 (leb rfl) z5 z0 h8)<|.u [4] rfl rfl (QC QZ z11)<|.e [8] [4] [9] rfl rfl rfl rfl (Qco (R:=Qp) (e:=54) (Ts:=([ti t1.1,tvs y8,tvs nilV,tvs nilV])) (off:=1) Qa7 z0 z1 (leb rfl))<|.n) λm15 a w H=>?_;have H:=H.to [7,10,11,12,13,14] [_,_,_,_,_,_] [_,_,_,_,_,_] rfl rfl;refine Qzh H ?_;refine k13 <|Qy6 [2,3,4,5,6,7] ?_;refine Qzc (λ_ _ H=>(H.pick [0,2,3,4,5]).Xj [0,1,4,2,5,3] rfl) ?_;exact Qy8 k11 (m15 7) ((sj h).symm) [0,1,2,3,4]
 refine Qy7 <|Qy8 J0 y8 (ho _ (sj h).symm) [2,3,4,5]
def QhO (x_:Qa) (m_:QD):Option (Qt×QD):=(QE m_ 7).bind λt0=>(if ((x_.Xa.length:Int)==0)=true then (some ((Qt.mk t0.1 ([]:Str) ([]:Str) ([]:Str) 0 0),t0.2)) else (QE t0.2 (x_.Xa.length:Int)).bind λt1=>(idx x_.Xa t1.1).bind λt2=>((if (decide ((t2.Xb.length:Int)>0))=true then (QE t1.2 (t2.Xb.length:Int)).bind λt3=>(idx t2.Xb t3.1).bind λt4=>(some (t3.2,(Qt.mk t0.1 t2.Xi t4.Xi ([]:Str) 0 0))) else (some (t1.2,(Qt.mk t0.1 t2.Xi ([]:Str) ([]:Str) 0 0))))).bind λp0=>(QE p0.1 7).bind λt5=>(idx [([101,120,116,114,97]:Str),([109,111,114,101]:Str),([102,114,101,115,104]:Str),([115,105,122,101]:Str),([108,97,116,101,114]:Str),([102,111,117,114,116,104]:Str),([105,100]:Str)] t5.1).bind λt6=>((if ((p0.2).Op==0)=true then (QE t5.2 9).bind λt7=>(QE t7.2 5).bind λt8=>(some (t8.2,(Qt.mk (p0.2).Op (p0.2).Xh (p0.2).Field t6 (i64.wrap (t7.1 - 4)) (i64.wrap ((i64.wrap (t7.1 - 4))+t8.1))))) else ((if ((p0.2).Op==3)=true then (QE t5.2 4).bind λt9=>(QE t9.2 9).bind λt10=>(some (t10.2,(Qt.mk (p0.2).Op (p0.2).Xh (p0.2).Field t6 (i64.wrap ((1:Int)+t9.1)) (i64.wrap (t10.1 - 4))))) else ((if ((p0.2).Op==4)=true then (QE t5.2 4).bind λt11=>(some (t11.2,(Qt.mk (p0.2).Op (p0.2).Xh (p0.2).Field t6 t11.1 (p0.2).M))) else ((if ((p0.2).Op==5)=true then ((if (decide ((x_.Xc.length:Int)>0))=true then (QE t5.2 (x_.Xc.length:Int)).bind λt12=>(idx x_.Xc t12.1).bind λt13=>(some (t12.2,(Qt.mk (p0.2).Op (p0.2).Xh (p0.2).Field t13.Xi (p0.2).N (p0.2).M))) else (some (t5.2,(Qt.mk (p0.2).Op (p0.2).Xh (p0.2).Field t6 (p0.2).N (p0.2).M))))).bind λp1=>(some (p1.1,p1.2)) else ((if ((p0.2).Op==6)=true then (QE t5.2 2).bind λt14=>(QE t14.2 4).bind λt15=>(some (t15.2,(Qt.mk (p0.2).Op (p0.2).Xh (p0.2).Field t6 t14.1 t15.1))) else (some (t5.2,(Qt.mk (p0.2).Op (p0.2).Xh (p0.2).Field t6 (p0.2).N (p0.2).M))))).bind λp2=>(some (p2.1,p2.2)))).bind λp3=>(some (p3.1,p3.2)))).bind λp4=>(some (p4.1,p4.2)))).bind λp5=>(some (p5.1,p5.2)))).bind λp6=>(some (p6.2,p6.1)))
instance Qqd:SpcS prog 19 (∀{q1:Value} {x_:Qa} {m_:QD} {r:Qt×QD},QhO x_ m_=some r->FnOk prog 19 [Qb.ty x_,tv q1] [box (Qu.cs m_) q1] (λ_=>[box (Qu.cs r.2) q1]) (λ_=>Qx.ty r.1)):=.mk λ{q1 x_ m_ r} h=>by
 unfold QhO at h
 refine Fe func19 ntmps19 λM0 M w0 hpl=>?_
 refine Qy5 [v1 1 (λv0=>box (Qx.cs zz7) v0)] [2] [0,1,3] λm0=>?_
 have⟨t0,_,h⟩:=bs h
 refine Qy5 [v0 (box (Qu.cs t0.2) q1),v1 3 (λv0=>box (Qx.cs zz7) v0),v1 3 (λv0=>box (Qx.cs (Qt.mk t0.1 ([]:Str) ([]:Str) ([]:Str) (0:Int) (0:Int))) v0)] [2,4,5] [3,4,5,6] λm1=>?_
 refine tIfs h [3,4,5,6,7] (λ_ h=>?_) (λ_ h=>?_)
 ·refine Qy5 [v0 (box (Qx.cs (Qt.mk t0.1 ([]:Str) ([]:Str) ([]:Str) (0:Int) (0:Int))) (m0 1))] [2] [4,5] λm2=>?_
  refine Qy9 (λ_ _ H=>H.Xj [0,2] rfl) ?_
  exact QyZ h (·▸Qzi undef [0] hpl)
 have⟨t1,_,t2,_,h⟩:=bs2 h
 refine Qy5 [v0 (box (Qu.cs t1.2) q1),v1 9 (λv0=>box (Qp.cs zz1) v0),v1 9 (λv0=>box (Qp.cs t2) v0)] [7,10,11] [9,11,12,13,14] λm3=>?_
 refine Qy9 (λ_ _ H=>(((H.Xj [3,0,1,2] rfl).Xk 0 rfl).add 0 rfl (λ_ _ _ h=>h.2)).pick [0,3,4,5,6]) ?_
 refine Qy5 [v0 (box (Qx.cs (Qt.mk t0.1 t2.Xi ([]:Str) ([]:Str) (0:Int) (0:Int))) (m1 3))] [4] [3,4,5,6,7] λm4=>?_
 refine QyY λK0 k0=>?_
 refine QyV [3,4,5,6,7,8] ?_
 have⟨p0,h0,h⟩:=bs h
 have J0:To M w0 103 [(5,tv (m1 3)),(2,tptr (Qb.cs x_)),(4,tv (m0 1)),(1,tv q1)] [box (Qx.cs zz7) (m0 1),box (Qu.cs p0.1) q1,box (Qx.cs p0.2) (m1 3)] K0:=by
  refine k0 ?_;have⟨t3,_,t4,_,h⟩:=bs2 h;refine Qy5 [v0 (box (Qu.cs t3.2) q1),v0 (box (Qx.cs (Qt.mk (p0.2).Op (p0.2).Xh (p0.2).Field t4 (p0.2).N (p0.2).M)) (m1 3))] [3,7] [6,7,8,9] λm5=>?_;refine QyY λK1 k1=>QyV [1,2,3,4,5] ?_;refine Qy1 <|QyV [1,2,3,4,5,6] ?_;have⟨p1,h1,h⟩:=bs h;have J1:To M w0 103 [(5,tv (m1 3)),(4,tv (m0 1)),(1,tv q1)] [box (Qx.cs zz7) (m0 1),box (Qu.cs p1.1) q1,box (Qx.cs p1.2) (m1 3)] K1:=by
   refine k1 <|Qy5 [v0 (box (Qx.cs p1.2) (m0 1))] [2] [2,3] λm6=>?_;refine Qy9 (λ_ _ H=>H.Xj [0,2] rfl) ?_;exact QyZ h (·▸Qzi undef [0] hpl)
  replace h:=h1;clear h1;refine Qy0 h (λ_ h=>?_) (λ_ h=>?_)
  ·have⟨t5,_,h⟩:=bs h;refine Qy5 [v0 (box (Qu.cs t5.2) q1),v0 (box (Qx.cs (Qt.mk (p0.2).Op (p0.2).Xh (p0.2).Field t4 (i64.wrap (t5.1 - 4)) (p0.2).M)) (m1 3))] [2,5] [6,8,9] λm7=>?_;have⟨t6,_,h⟩:=bs h;refine Qza [v0 (box (Qu.cs t6.2) q1),v0 (box (Qx.cs (Qt.mk (p0.2).Op (p0.2).Xh (p0.2).Field t4 (i64.wrap (t5.1 - 4)) (i64.wrap ((i64.wrap (t5.1 - 4))+t6.1)))) (m1 3))] [4,7] [6,7,8] λm8=>?_;obtain rfl:=sj h;exact Qy3 J1 [0,1,2]
  refine QyV [1,3,4,5,6,7] ?_;have⟨p2,h2,h⟩:=bs h;have J2:To M w0 103 [(5,tv (m1 3)),(4,tv (m0 1)),(1,tv q1)] [box (Qx.cs zz7) (m0 1),box (Qu.cs p2.1) q1,box (Qx.cs p2.2) (m1 3)] K1:=by
   obtain rfl:=sj h;exact Qy3 J1 [0,1,2]
  replace h:=h2;clear h2;refine Qy0 h (λ_ h=>?_) (λ_ h=>?_)
  ·have⟨t7,_,h⟩:=bs h;refine Qy5 [v0 (box (Qu.cs t7.2) q1),v0 (box (Qx.cs (Qt.mk (p0.2).Op (p0.2).Xh (p0.2).Field t4 (i64.wrap ((1:Int)+t7.1)) (p0.2).M)) (m1 3))] [2,5] [6,8,9] λm9=>?_;have⟨t8,_,h⟩:=bs h;refine Qza [v0 (box (Qu.cs t8.2) q1),v0 (box (Qx.cs (Qt.mk (p0.2).Op (p0.2).Xh (p0.2).Field t4 (i64.wrap ((1:Int)+t7.1)) (i64.wrap (t8.1 - 4)))) (m1 3))] [2,5] [4,5,6] λm10=>?_;obtain rfl:=sj h;exact Qy3 J2 [0,1,2]
  refine QyV [1,3,4,5,6,7] ?_;have⟨p3,h3,h⟩:=bs h;have J3:To M w0 103 [(5,tv (m1 3)),(4,tv (m0 1)),(1,tv q1)] [box (Qx.cs zz7) (m0 1),box (Qu.cs p3.1) q1,box (Qx.cs p3.2) (m1 3)] K1:=by
   obtain rfl:=sj h;exact Qy3 J2 [0,1,2]
  replace h:=h3;clear h3;refine Qy0 h (λ_ h=>?_) (λ_ h=>?_)
  ·have⟨t9,_,h⟩:=bs h;refine Qza [v0 (box (Qu.cs t9.2) q1),v0 (box (Qx.cs (Qt.mk (p0.2).Op (p0.2).Xh (p0.2).Field t4 t9.1 (p0.2).M)) (m1 3))] [2,4] [5,7,8] λm11=>?_;obtain rfl:=sj h;exact Qy3 J3 [0,1,2]
  refine QyV [1,3,4,5,6,7] ?_;have⟨p4,h4,h⟩:=bs h;have J4:To M w0 103 [(5,tv (m1 3)),(4,tv (m0 1)),(1,tv q1)] [box (Qx.cs zz7) (m0 1),box (Qu.cs p4.1) q1,box (Qx.cs p4.2) (m1 3)] K1:=by
   obtain rfl:=sj h;exact Qy3 J3 [0,1,2]
  replace h:=h4;clear h4;refine Qy0 h (λ_ h=>?_) (λ_ h=>?_)
  ·refine QyV [3,6,7,8,9] ?_;have⟨p5,h5,h⟩:=bs h;have J5:To M w0 103 [(5,tv (m1 3)),(4,tv (m0 1)),(1,tv q1)] [box (Qx.cs zz7) (m0 1),box (Qu.cs p5.1) q1,box (Qx.cs p5.2) (m1 3)] K1:=by
    obtain rfl:=sj h;exact Qy3 J4 [0,1,2]
   replace h:=h5;clear h5;refine Qy0 h (λ_ h=>?_) (λ_ h=>?_)
   ·have⟨t10,_,t11,_,h⟩:=bs2 h;refine Qza [v0 (box (Qu.cs t10.2) q1),v0 (box (Qx.cs (Qt.mk (p0.2).Op (p0.2).Xh (p0.2).Field t11.Xi (p0.2).N (p0.2).M)) (m1 3))] [7,12] [12,14,15] λm12=>?_;obtain rfl:=sj h;exact Qy3 J5 [0,1,2]
   refine Qy2 ?_;obtain rfl:=sj h;exact Qy3 J5 [1,3,4]
  refine QyV [1,4,6,7] ?_;have⟨p6,h6,h⟩:=bs h;have J6:To M w0 103 [(5,tv (m1 3)),(4,tv (m0 1)),(1,tv q1)] [box (Qx.cs zz7) (m0 1),box (Qu.cs p6.1) q1,box (Qx.cs p6.2) (m1 3)] K1:=by
   obtain rfl:=sj h;exact Qy3 J4 [0,1,2]
  replace h:=h6;clear h6;refine Qy0 h (λ_ h=>?_) (λ_ h=>?_)
  ·have⟨t12,_,h⟩:=bs h;refine Qy5 [v0 (box (Qu.cs t12.2) q1),v0 (box (Qx.cs (Qt.mk (p0.2).Op (p0.2).Xh (p0.2).Field t4 t12.1 (p0.2).M)) (m1 3))] [2,4] [4,5,6] λm13=>?_;have⟨t13,_,h⟩:=bs h;refine Qza [v0 (box (Qu.cs t13.2) q1),v0 (box (Qx.cs (Qt.mk (p0.2).Op (p0.2).Xh (p0.2).Field t4 t12.1 t13.1)) (m1 3))] [2,4] [3,4,5] λm14=>?_;obtain rfl:=sj h;exact Qy3 J6 [0,1,2]
  refine Qy2 ?_;obtain rfl:=sj h;exact Qy3 J6 [1,2,3]
 replace h:=h0;clear h0;refine Qy0 h (λ_ h=>?_) (λ_ h=>?_)
 ·have⟨t14,_,t15,_,h⟩:=bs2 h;refine Qza [v0 (box (Qu.cs t14.2) q1),v0 (box (Qx.cs (Qt.mk t0.1 t2.Xi t15.Xi ([]:Str) (0:Int) (0:Int))) (m1 3))] [7,12] [13,14,15,16] λm15=>?_;obtain rfl:=sj h;exact Qy3 J0 [0,1,2,3]
 refine Qy2 ?_;obtain rfl:=sj h;exact Qy3 J0 [2,3,4,5]
def QhP (x_:Qa) (name_:Str):Option (Int):=(Qz (λ(s0:Int)=>((if (decide (s0<(x_.Xc.length:Int)))=true then (idx x_.Xc s0).bind λt0=>(if (t0.Xi==name_)=true then (some (.inr (.inr s0))) else (some (.inl (i64.wrap (s0+1))))) else (some (.inr (.inl ())))):Option ((Int)⊕((Unit)⊕(Int))))) (0:Int)).bind λe0=>(match e0 with | .inl _=>(some (-1:Int)) | .inr p0=>(some p0))
instance Qqe:Spc2 prog 52 QhP (λx_ name_=>[Qb.ty x_,tv (.string (sB name_))]) ti:=.mk λ{x_ name_ r} h=>by
 unfold QhP at h
 refine Fe func52 ntmps52 λM0 M w0 hpl=>?_
 refine QyV [0,3] ?_
 refine QyY λK0 k0=>?_
 refine QyV [0,1,2] ?_
 have⟨e0,h0,h⟩:=bs h
 have J0:∀(p0:Unit),(.inl p0)=e0->To M w0 22 [] [] K0:=by
  intro p0 he;subst he;simp only at h;refine k0 <|QyV [0] ?_;exact QyZ h (·▸QyX hpl)
 have J1:∀(p1:Int),(.inr p1)=e0->To M w0 22 [(4,ti p1)] [] (Ret prog f52 M0 [] w0 (λ_=>[]) (λ_=>ti r) .ret):=by
  intro p1 he;subst he;simp only at h;obtain rfl:=sj h;exact QyX hpl
 refine Qy1 <|Qzb h0 (λ(s0:Int)=>[(5,ti s0),(2,tptr (Qb.cs x_)),(1,tv (.string (sB name_)))]) (λ(s0:Int)=>[]) [0,1,2] ?_;clear h;intro s0 o K1 h ho k1;refine QyY λ_ k2=>QyV [4,5,6,7] ?_;refine Qy0 h (λ_ h=>?_) (λ_ h=>?_)
 ·refine Qy2 <|k2 <|QyY λ_ k3=>Qy1 ?_;have⟨_,_,h⟩:=bs h;refine QyV [7,9,10,11] ?_;refine Qy0 h (λ_ h=>?_) (λ_ h=>?_)
  ·refine QyV [1] ?_;refine Qzd ?_;exact Qy4 J1 (ho _ (sj h).symm) [0]
  refine Qy2 <|k3 <|Qy6 [2,4,5] ?_;exact Qy4 k1 ((sj h).symm) [0,1,2]
 refine Qy7 <|Qy4 J0 (ho _ (sj h).symm) []
def Qcp (x_:Qa) (name_:Str):Option (Int):=(Qz (λ(s0:Int)=>((if (decide (s0<(x_.Xa.length:Int)))=true then (idx x_.Xa s0).bind λt0=>(if (t0.Xi==name_)=true then (some (.inr (.inr s0))) else (some (.inl (i64.wrap (s0+1))))) else (some (.inr (.inl ())))):Option ((Int)⊕((Unit)⊕(Int))))) (0:Int)).bind λe0=>(match e0 with | .inl _=>(some (-1:Int)) | .inr p0=>(some p0))
instance Qma:Spc2 prog 53 Qcp (λx_ name_=>[Qb.ty x_,tv (.string (sB name_))]) ti:=.mk λ{x_ name_ r} h=>by
 unfold Qcp at h
 refine Fe func53 ntmps53 λM0 M w0 hpl=>?_
 refine QyV [0,3] ?_
 refine QyY λK0 k0=>?_
 refine QyV [0,1,2] ?_
 have⟨e0,h0,h⟩:=bs h
 have J0:∀(p0:Unit),(.inl p0)=e0->To M w0 22 [] [] K0:=by
  intro p0 he;subst he;simp only at h;refine k0 <|QyV [0] ?_;exact QyZ h (·▸QyX hpl)
 have J1:∀(p1:Int),(.inr p1)=e0->To M w0 22 [(4,ti p1)] [] (Ret prog f53 M0 [] w0 (λ_=>[]) (λ_=>ti r) .ret):=by
  intro p1 he;subst he;simp only at h;obtain rfl:=sj h;exact QyX hpl
 refine Qy1 <|Qzb h0 (λ(s0:Int)=>[(5,ti s0),(2,tptr (Qb.cs x_)),(1,tv (.string (sB name_)))]) (λ(s0:Int)=>[]) [0,1,2] ?_;clear h;intro s0 o K1 h ho k1;refine QyY λ_ k2=>QyV [4,5,6,7] ?_;refine Qy0 h (λ_ h=>?_) (λ_ h=>?_)
 ·refine Qy2 <|k2 <|QyY λ_ k3=>Qy1 ?_;have⟨_,_,h⟩:=bs h;refine QyV [7,9,10,11] ?_;refine Qy0 h (λ_ h=>?_) (λ_ h=>?_)
  ·refine QyV [1] ?_;refine Qzd ?_;exact Qy4 J1 (ho _ (sj h).symm) [0]
  refine Qy2 <|k3 <|Qy6 [2,4,5] ?_;exact Qy4 k1 ((sj h).symm) [0,1,2]
 refine Qy7 <|Qy4 J0 (ho _ (sj h).symm) []
def Qcf (k_:Qh) (name_:Str):Option (Int):=(Qz (λ(s0:Int)=>((if (decide (s0<(k_.Xb.length:Int)))=true then (idx k_.Xb s0).bind λt0=>(if (t0.Xi==name_)=true then (some (.inr (.inr s0))) else (some (.inl (i64.wrap (s0+1))))) else (some (.inr (.inl ())))):Option ((Int)⊕((Unit)⊕(Int))))) (0:Int)).bind λe0=>(match e0 with | .inl _=>(some (-1:Int)) | .inr p0=>(some p0))
instance Qpg:Spc2 prog 54 Qcf (λk_ name_=>[Qp.ty k_,tv (.string (sB name_))]) ti:=.mk λ{k_ name_ r} h=>by
 unfold Qcf at h
 refine Fe func54 ntmps54 λM0 M w0 hpl=>?_
 refine QyV [0,3] ?_
 refine QyY λK0 k0=>?_
 refine QyV [0,1,2] ?_
 have⟨e0,h0,h⟩:=bs h
 have J0:∀(p0:Unit),(.inl p0)=e0->To M w0 22 [] [] K0:=by
  intro p0 he;subst he;simp only at h;refine k0 <|QyV [0] ?_;exact QyZ h (·▸QyX hpl)
 have J1:∀(p1:Int),(.inr p1)=e0->To M w0 22 [(4,ti p1)] [] (Ret prog f54 M0 [] w0 (λ_=>[]) (λ_=>ti r) .ret):=by
  intro p1 he;subst he;simp only at h;obtain rfl:=sj h;exact QyX hpl
 refine Qy1 <|Qzb h0 (λ(s0:Int)=>[(5,ti s0),(2,tptr (Qp.cs k_)),(1,tv (.string (sB name_)))]) (λ(s0:Int)=>[]) [0,1,2] ?_;clear h;intro s0 o K1 h ho k1;refine QyY λ_ k2=>QyV [4,5,6,7] ?_;refine Qy0 h (λ_ h=>?_) (λ_ h=>?_)
 ·refine Qy2 <|k2 <|QyY λ_ k3=>Qy1 ?_;have⟨_,_,h⟩:=bs h;refine QyV [7,9,10,11] ?_;refine Qy0 h (λ_ h=>?_) (λ_ h=>?_)
  ·refine QyV [1] ?_;refine Qzd ?_;exact Qy4 J1 (ho _ (sj h).symm) [0]
  refine Qy2 <|k3 <|Qy6 [2,4,5] ?_;exact Qy4 k1 ((sj h).symm) [0,1,2]
 refine Qy7 <|Qy4 J0 (ho _ (sj h).symm) []
def QaC (x_:Qa) (o_:Qt):Option (Int×Int×Int):=(if ((decide (o_.Op<0))||(decide (o_.Op>=7)))=true then (some ((0:Int),(0:Int),(1:Int))) else (if (o_.Op==5)=true then (QhP x_ o_.Xi).bind λt0=>(if (decide (t0<0))=true then (some ((0:Int),(0:Int),(12:Int))) else (idx x_.Xc t0).bind λt1=>(Qcp x_ t1.Xh).bind λt2=>(some (t2,t0,(0:Int)))) else (Qcp x_ o_.Xh).bind λt3=>(if (decide (t3<0))=true then (some ((0:Int),(0:Int),(12:Int))) else (if ((o_.Op==0)||(o_.Op==6))=true then (some (t3,(0:Int),(0:Int))) else (idx x_.Xa t3).bind λt4=>(Qcf t4 o_.Field).bind λt5=>(if (decide (t5<0))=true then (some ((0:Int),(0:Int),(12:Int))) else (some (t3,t5,(0:Int))))))))
instance Qph:Spc2 prog 35 QaC (λx_ o_=>[Qb.ty x_,Qx.ty o_]) (λr=>ttup [ti r.1,ti r.2.1,ti r.2.2]):=.mk λ{x_ o_ r} h=>by
 unfold QaC at h
 refine Fe func35 ntmps35 λM0 M w0 hpl=>?_
 refine QyV [0,1] ?_
 refine tIfs h [7,8,9] (λ_ h=>?_) (λ_ h=>?_)
 ·refine QyV [0,1,2] ?_
  exact QyZ h (·▸QyX hpl)
 refine tIfs h [2,4,5] (λ_ h=>?_) (λ_ h=>?_)
 ·have⟨_,_,h⟩:=bs h
  refine QyV [4,6] ?_
  refine tIfs h [1,2,3] (λ_ h=>?_) (λ_ h=>?_)
  ·refine QyV [0,1,2] ?_
   exact QyZ h (·▸QyX hpl)
  have⟨_,_,_,_,h⟩:=bs2 h
  refine QyV [9,10,11] ?_
  exact QyZ h (·▸QyX hpl)
 have⟨_,_,h⟩:=bs h
 refine QyV [4,6,7] ?_
 refine tIfs h [1,2,3,4] (λ_ h=>?_) (λ_ h=>?_)
 ·refine QyV [0,1,2] ?_
  exact QyZ h (·▸QyX hpl)
 refine tIfs h [7,9,10,11] (λ_ h=>?_) (λ_ h=>?_)
 ·refine QyV [1,2,3] ?_
  exact QyZ h (·▸QyX hpl)
 have⟨_,_,_,_,h⟩:=bs2 h
 refine QyV [8,10] ?_
 refine tIfs h [1,2,3] (λ_ h=>?_) (λ_ h=>?_)
 ·refine QyV [0,1,2] ?_
  exact QyZ h (·▸QyX hpl)
 refine QyV [2,3,4] ?_
 exact QyZ h (·▸QyX hpl)
def Qiy (x_:Qa) (kind_:Int) (field_:Int):Option (Bool):=(if (((decide (kind_<0))||(decide (kind_>=(x_.Xa.length:Int))))||(decide (field_<0)))=true then (some false) else (idx x_.Xa kind_).bind λt0=>(some (decide (field_<(t0.Xb.length:Int)))))
instance QyR:Spc3 prog 74 Qiy (λx_ kind_ field_=>[Qb.ty x_,ti kind_,ti field_]) tb:=.mk λ{x_ kind_ field_ r} h=>by
 unfold Qiy at h
 refine Fe func74 ntmps74 λM0 M w0 hpl=>?_
 refine QyV [0,3,4] ?_
 refine tIfs h [12,13,14,15] (λ_ h=>?_) (λ_ h=>?_)
 ·refine QyV [0] ?_
  exact QyZ h (·▸QyX hpl)
 have⟨_,_,h⟩:=bs h
 refine QyV [9] ?_
 exact QyZ h (·▸QyX hpl)
def Qfa (x_:Qa) (kind_:Int) (field_:Int):Option (Int):=(Qiy x_ kind_ field_).bind λt0=>(if (!t0)=true then (some (-1:Int)) else (idx x_.Xa kind_).bind λt1=>(idx t1.Xb field_).bind λt2=>(jn (λ(p0:Qd)=>(if (p0.Xh !=1)=true then (some (-1:Int)) else (Qcp x_ p0.Of).bind λt3=>(if (decide (t3>=kind_))=true then (some (-1:Int)) else (some t3)))) λj16=>(if ((t2.Xh==7)||(t2.Xh==8))=true then (idx x_.Xa kind_).bind λt4=>(Qcf t4 t2.Up).bind λt5=>(if ((decide (t5<0))||(decide (t5>=field_)))=true then (some (-1:Int)) else (idx x_.Xa kind_).bind λt6=>(idx t6.Xb t5).bind λt7=>(j16 t7)) else (j16 t2))))
instance QnG:Spc3 prog 56 Qfa (λx_ kind_ field_=>[Qb.ty x_,ti kind_,ti field_]) ti:=.mk λ{x_ kind_ field_ r} h=>by
 unfold Qfa at h
 refine Fe func56 ntmps56 λM0 M w0 hpl=>?_
 refine QyV [0,3,4] ?_
 have⟨_,_,h⟩:=bs h
 refine tIfs h [4,5,6,7] (λ_ h=>?_) (λ_ h=>?_)
 ·refine QyV [0] ?_
  exact QyZ h (·▸QyX hpl)
 have⟨_,_,t0,_,h⟩:=bs2 h
 refine Qy5 [v1 9 (λv0=>box (Qe.cs zz0) v0),v1 9 (λv0=>box (Qe.cs t0) v0)] [10,11] [9,11,12,13] λm0=>?_
 refine QyY λK0 k0=>?_
 refine QyV [7,8,9,10,11] ?_
 obtain⟨j16,hj16,h⟩:=Qgt h
 have J0:∀(p0:Qd),j16 p0=some r->To M w0 67 [(7,tv (m0 9)),(3,tptr (Qb.cs x_)),(1,ti kind_)] [box (Qe.cs p0) (m0 9)] K0:=by
  intro p0 h;rw[hj16] at h;clear hj16;refine k0 <|tIfs h [2,3,4,5] (λ_ h=>?_) (λ_ h=>?_)
  ·refine QyV [0] ?_;refine Qy9 (λ_ _ H=>H.Xj [] rfl) ?_;exact QyZ h (·▸QyX hpl)
  have⟨_,_,h⟩:=bs h;refine QyV [4,8] ?_;refine Qy9 (λ_ _ H=>H.Xj [] rfl) ?_;refine tIfs h [2,3] (λ_ h=>?_) (λ_ h=>?_)
  ·refine QyV [0] ?_;exact QyZ h (·▸QyX hpl)
  refine QyV [1] ?_;exact QyZ h (·▸QyX hpl)
 clear hj16;refine Qy0 h (λ_ h=>?_) (λ_ h=>?_)
 ·have⟨_,_,_,_,h⟩:=bs2 h;refine QyV [8,10,11,12,13] ?_;refine tIfs h [6,7,8,9,10] (λ_ h=>?_) (λ_ h=>?_)
  ·refine QyV [0] ?_;refine Qy9 (λ_ _ H=>H.Xj [] rfl) ?_;exact QyZ h (·▸QyX hpl)
  have⟨_,_,t1,_,h⟩:=bs2 h;refine Qza [v0 (box (Qe.cs t1) (m0 9))] [10] [11,12,13] λm1=>?_;exact Qy4 J0 h [0,1,2]
 refine Qy2 <|Qy4 J0 h [1,2,3]
def Qey (x_:Qa) (kind_:Int) (field_:Int):Option (Bool):=(idx x_.Xa kind_).bind λt0=>(idx t0.Xb field_).bind λt1=>(if (t1.Xh !=2)=true then (some false) else (Qz (λ(s0:Int)=>((if (decide (s0<(x_.Xc.length:Int)))=true then (idx x_.Xc s0).bind λt2=>(idx x_.Xa kind_).bind λt3=>(opt ((t2.Xh==t3.Xi)==true) (idx x_.Xc s0) default).bind λt4=>(opt (((t2.Xh==t3.Xi)==true)&&((t4.A==t1.Xi)==false)) (idx x_.Xc s0) default).bind λt5=>(if ((t2.Xh==t3.Xi)&&((t4.A==t1.Xi)||(t5.B==t1.Xi)))=true then (some (.inr (.inr false))) else (some (.inl (i64.wrap (s0+1))))) else (some (.inr (.inl ())))):Option ((Int)⊕((Unit)⊕(Bool))))) (0:Int)).bind λe0=>(match e0 with | .inl _=>(Qz (λ(s1:Int)=>((if (decide (s1<(x_.Xa.length:Int)))=true then (Qz (λ(s2:Int)=>((idx x_.Xa s1).bind λt6=>(if (decide (s2<(t6.Xb.length:Int)))=true then (idx x_.Xa s1).bind λt7=>(idx t7.Xb s2).bind λt8=>(opt (((t8.Xh==8)&&(t8.Of==t1.Xi))==true) (Qfa x_ s1 s2) default).bind λt9=>(if (((t8.Xh==8)&&(t8.Of==t1.Xi))&&(t9==kind_))=true then (some (.inr (.inr false))) else (some (.inl (i64.wrap (s2+1))))) else (some (.inr (.inl ())))):Option ((Int)⊕((Unit)⊕(Bool))))) (0:Int)).bind λe1=>(match e1 with | .inl _=>(some (.inl (i64.wrap (s1+1)))) | .inr p0=>(some (.inr (.inr p0)))) else (some (.inr (.inl ())))):Option ((Int)⊕((Unit)⊕(Bool))))) (0:Int)).bind λe2=>(match e2 with | .inl _=>(some true) | .inr p1=>(some p1)) | .inr p2=>(some p2)))
instance QmG:Spc3 prog 55 Qey (λx_ kind_ field_=>[Qb.ty x_,ti kind_,ti field_]) tb:=.mk λ{x_ kind_ field_ r} h=>by
 unfold Qey at h
 refine Fe func55 ntmps55 λM0 M w0 hpl=>?_
 refine QyV [0,3,4] ?_
 have⟨_,_,t0,_,h⟩:=bs2 h
 refine Qy5 [v1 9 (λv0=>box (Qe.cs zz0) v0),v1 9 (λv0=>box (Qe.cs t0) v0)] [10,11] [9,10,11] λm0=>?_
 refine Qy9 (λ_ _ H=>((H.Xk 0 rfl).add 0 rfl (λ_ _ _ h=>h.2)).pick [0,3,4]) ?_
 refine tIfs h [2,3,4,5] (λ_ h=>?_) (λ_ h=>?_)
 ·refine QyV [0] ?_
  exact QyZ h (·▸QyX hpl)
 refine QyY λK0 k0=>?_
 refine QyV [0,2,3,4] ?_
 have⟨e0,h0,h⟩:=bs h
 have J0:∀(p0:Unit),(.inl p0)=e0->To M w0 111 [(7,tptr (Qe.cs t0)),(3,tptr (Qb.cs x_)),(1,ti kind_)] [] K0:=by
  intro p0 he;subst he;simp only at h;refine k0 <|QyY λK1 k1=>QyV [0,1,2,3] ?_;have⟨e1,h1,h⟩:=bs h;have J1:∀(p1:Unit),(.inl p1)=e1->To M w0 111 [] [] K1:=by
   intro p1 he;subst he;simp only at h;refine k1 <|QyV [0] ?_;exact QyZ h (·▸QyX hpl)
  have J2:∀(p2:Bool),(.inr p2)=e1->To M w0 111 [(6,tb p2)] [] (Ret prog f55 M0 [] w0 (λ_=>[]) (λ_=>tb r) .ret):=by
   intro p2 he;subst he;simp only at h;obtain rfl:=sj h;exact QyX hpl
  refine Qy1 <|Qzb h1 (λ(s0:Int)=>[(9,ti s0),(7,tptr (Qe.cs t0)),(3,tptr (Qb.cs x_)),(1,ti kind_)]) (λ(s0:Int)=>[]) [0,1,2,3] ?_;clear h;intro s0 o K2 h ho k2;refine QyY λ_ k3=>QyV [4,5,6,7,8] ?_;refine Qy0 h (λ_ h=>?_) (λ_ h=>?_)
  ·refine Qy2 <|k3 <|QyY λK3 k4=>Qy1 <|QyV [0,2,3,4,5] ?_;have⟨e2,h2,h⟩:=bs h;have J3:∀(p3:Unit),(.inl p3)=e2->To M w0 111 [(9,ti s0),(7,tptr (Qe.cs t0)),(3,tptr (Qb.cs x_)),(1,ti kind_)] [] K3:=by
    intro p3 he;subst he;simp only at h;refine k4 <|Qy6 [2,3,4,5] ?_;exact Qy4 k2 ((sj h).symm) [0,1,2,3]
   have J4:∀(p4:Bool),(.inr p4)=e2->To M w0 111 [(6,tb p4)] [] (Ret prog f55 M0 [] w0 (λ_=>[]) (λ_=>tb r) .ret):=by
    intro p4 he;subst he;simp only at h;exact Qy4 J2 (ho _ (sj h).symm) [0]
   refine Qy1 <|Qzb h2 (λ(s1:Int)=>[(10,ti s1),(9,ti s0),(7,tptr (Qe.cs t0)),(3,tptr (Qb.cs x_)),(1,ti kind_)]) (λ(s1:Int)=>[]) [0,1,2,3,4] ?_;clear h;intro s1 o K4 h ho k5;refine QyY λ_ k6=>?_;have⟨_,_,h⟩:=bs h;refine QyV [8,9,10,11,12,13] ?_;refine Qy0 h (λ_ h=>?_) (λ_ h=>?_)
   ·refine Qy2 <|k6 <|QyY λ_ k7=>Qy1 ?_;have⟨_,_,t1,_,h⟩:=bs2 h;refine Qy5 [v1 9 (λv0=>box (Qe.cs zz0) v0),v1 9 (λv0=>box (Qe.cs t1) v0)] [10,11] [9,11,12,13,14,15] λm1=>?_;refine Qy9 (λ_ _ H=>((H.Xk 0 rfl).add 0 rfl (λ_ _ _ h=>h.2)).pick [0,3,4,5,6,7]) ?_;have⟨_,_,h⟩:=bs h;refine QyV [17,19,20,21,22,23] ?_;refine Qy0 h (λ_ h=>?_) (λ_ h=>?_)
    ·refine QyV [0] ?_;refine Qzd ?_;exact Qy4 J4 (ho _ (sj h).symm) [0]
    refine Qy2 <|k7 <|Qy6 [2,4,5,6,7] ?_;exact Qy4 k5 ((sj h).symm) [0,1,2,3,4]
   refine Qy7 <|Qy4 J3 (ho _ (sj h).symm) [2,3,4,5]
  refine Qy7 <|Qy4 J1 (ho _ (sj h).symm) []
 have J5:∀(p5:Bool),(.inr p5)=e0->To M w0 111 [(6,tb p5)] [] (Ret prog f55 M0 [] w0 (λ_=>[]) (λ_=>tb r) .ret):=by
  intro p5 he;subst he;simp only at h;obtain rfl:=sj h;exact QyX hpl
 refine Qy1 <|Qzb h0 (λ(s2:Int)=>[(8,ti s2),(7,tptr (Qe.cs t0)),(3,tptr (Qb.cs x_)),(1,ti kind_)]) (λ(s2:Int)=>[]) [0,1,2,3] ?_;clear h;intro s2 o K5 h ho k8;refine QyY λ_ k9=>QyV [4,5,6,7,8] ?_;refine Qy0 h (λ_ h=>?_) (λ_ h=>?_)
 ·refine Qy2 <|k9 <|QyY λ_ k10=>Qy1 ?_;have⟨_,_,_,_,_,_,_,_,h⟩:=bs4 h;refine QyV [34,36,37,38,39] ?_;refine Qy0 h (λ_ h=>?_) (λ_ h=>?_)
  ·refine QyV [0] ?_;refine Qzd ?_;exact Qy4 J5 (ho _ (sj h).symm) [0]
  refine Qy2 <|k10 <|Qy6 [2,4,5,6] ?_;exact Qy4 k8 ((sj h).symm) [0,1,2,3]
 refine Qy7 <|Qy4 J0 (ho _ (sj h).symm) [2,3,4]

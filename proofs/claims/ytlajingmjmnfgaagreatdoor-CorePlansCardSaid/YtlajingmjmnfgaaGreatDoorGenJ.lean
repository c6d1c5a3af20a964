/- Go functions as Lean functions, and the proofs that they compute them, written by a program. No condition. -/
import Derived.Test.YtlajingmjmnfgaaGreatDoorGenI
set_option linter.all false
open Go.Proofs.Tryz Go.IntKind
namespace Go.Proofs.YtlajingmjmnfgaaGreatDoor
open Go.Sim
set_option maxRecDepth 100000
set_option maxHeartbeats 4000000
noncomputable def QdX (l_:(List Int)) (m_:(List Int)) (want_:(List Int)):Option (Bool):=(QbW l_).bind fun t0=>(QfM t0 m_).bind fun t1=>(QfU t1).bind fun t2=>(Ql (fun (s0:Int×List Int)=>((if (decide (s0.1<(t1.Kinds.length:Int)))=true then (QbB want_ s0.1 (12:Int)).bind fun t3=>(rm (s0.2.length+[t3].length)).bind fun _=>(some (.inl ((i64.wrap (s0.1+1)),(s0.2++[t3])))) else (some (.inr s0.2))):Option ((Int×List Int)⊕((List Int))))) ((0:Int),([]:List Int))).bind fun p0=>(QeU t1 p0).bind fun t4=>(Qdk t1).bind fun t5=>(if (((decide ((t5.length:Int)>0))||(t2.2==4))||(t4.2==4))=true then QeV.bind fun t6=>(some t6) else (QfV t1).bind fun t7=>(Ql (fun (s1:Int×Bool)=>((if (decide (s1.1<(t1.Kinds.length:Int)))=true then (Ql (fun (s2:Int×List Qz)=>((if (decide (s2.1<(t7.length:Int)))=true then (idx t7 s2.1).bind fun t8=>((if (t8.Kind==s1.1)=true then (idx t7 s2.1).bind fun t9=>(idx t7 s2.1).bind fun t10=>(idx t7 s2.1).bind fun t11=>(rm (s2.2.length+[(Qz.mk (t9.Diff).A (t10.Diff).B (t11.Diff).N)].length)).bind fun _=>(some (s2.2++[(Qz.mk (t9.Diff).A (t10.Diff).B (t11.Diff).N)])) else (some s2.2))).bind fun p1=>(some (.inl ((i64.wrap (s2.1+1)),p1))) else (some (.inr s2.2))):Option ((Int×List Qz)⊕((List Qz))))) ((0:Int),([]:List Qz))).bind fun p2=>(idx t1.Kinds s1.1).bind fun t12=>(Qd6 (t12.Fields.length:Int) p2).bind fun t13=>(some (.inl ((i64.wrap (s1.1+1)),(s1.2&&(t13.2==0))))) else (some (.inr s1.2))):Option ((Int×Bool)⊕((Bool))))) ((0:Int),true)).bind fun p3=>(if (p3&&((t2.2==6) !=(t4.2==0)))=true then (some false) else (if (((t4.2==14)&&(t2.2 !=0))||((t4.2==0)&&((t4.1.length:Int) !=(t1.Kinds.length:Int))))=true then (some false) else (opt (((t2.2 !=0)||(decide ((t2.1.length:Int)>0)))==true) (QeV) default).bind fun t14=>(some (((t2.2 !=0)||(decide ((t2.1.length:Int)>0)))&&t14)))))
instance QlA:SpcS prog 7 (∀{l_:(List Int)} {m_:(List Int)} {want_:(List Int)} {r:Bool},QdX l_ m_ want_=some r→FnOk prog 7 [tsl rI l_,tsl rI m_,tsl rI want_] [glo] (fun _=>[]) (fun _=>tb r)):=.mk fun {l_ m_ want_ r} h=>by
 unfold QdX at h
 refine Fe func7 ntmps7 fun M0 M w0 hpl=>?_
 refine Qb [1,2,3] ?_
 have⟨_,_,t0,_,h⟩:=bs2 h
 refine QV [v1 4 (fun v0=>box (Qf.cs zz4) v0),v1 4 (fun v0=>box (Qf.cs t0) v0)] [5,6] [4,7] fun m0=>?_
 refine Qaa (fun _ _ H=>(((H.selA [1,0] rfl).shareB 0 rfl).add 0 rfl (fun _ _ _ h=>h.2)).pick [0,3]) ?_
 have⟨t1,_,h⟩:=bs h
 refine Qb [5,6,7,8] ?_
 refine Qb [0,1,2,3,4] ?_
 refine Qaa (fun _ _ H=>H.nil (rI) 3) ?_
 refine Qk fun K0 k0=>?_
 refine Qb [0,1,2,3,4,5] ?_
 have⟨e0,h0,h⟩:=bs h
 have J0:∀(p0:List Int) (y0:Value),p0=e0→To M w0 159 [(10,tv y0),(8,tsl rS t1.1),(9,ti t1.2),(7,tptr (Qf.cs t0))] [own rI 3 p0 y0,glo] K0:=by
  intro p0 y0 he;subst he;refine k0 ?_;refine Qaa (by intro _ _ H;exact (H.shareO 0 rfl).pick [0,2,3,4]) ?_;have⟨t2,_,h⟩:=bs h;refine Qb [6,7,9,10,11] ?_;have⟨_,_,h⟩:=bs h;refine tIfs h [11,12,13,14,15,16] (fun _ h=>?_) (fun _ h=>?_)
  ·have⟨_,_,h⟩:=bs h;refine Qb [1] ?_;exact Qu h (·▸Qq hpl)
  have⟨t3,_,h⟩:=bs h;refine Qb [2,4,5,6,7,8] ?_;refine Qb [0,1,2,3,4,5,6] ?_;refine Qk fun K1 k1=>?_;refine Qb [0,1,2,3,4,5,6,7] ?_;have⟨e1,h1,h⟩:=bs h;have J1:∀(p1:Bool),p1=e1→To M w0 159 [(15,tb p1),(12,tsl rI t2.1),(13,ti t2.2),(8,tsl rS t1.1),(9,ti t1.2),(7,tptr (Qf.cs t0))] [glo] K1:=by
   intro p1 he;subst he;refine k1 ?_;refine Qk fun _ k2=>?_;intro a w H;refine sr mx [] H (fun _=>.q 0 rfl<|.q 0 rfl<|.g rfl rfl bq0 (fun _=>Qad z6)<|.g rfl rfl bq1 (fun hc=>Qct (.cond z0 hc) .k)<|.g rfl rfl bq2 (fun _=>Qad z6)<|.g rfl rfl bq3 (fun hc=>Qct (.cond z0 hc) .k)<|.g rfl rfl bq4 (fun hc=>Qz6 underlying4 (.cond z2 hc) (.cond z0 hc))<|.o (Qcj z5 (fun hp=>(.cond z0 (beqT hp))))<|.n) fun _ a w H=>?_;have H:=H.to [7,9,10,11,12,13] [_,_,_,_,_,_] [_] rfl rfl;refine Q2 H ?_;refine Qx h (fun _ h=>?_) (fun _ h=>?_)
   ·refine Qb [0] ?_;exact Qu h (·▸Qq hpl)
   refine QE ?_;refine k2 ?_;refine tIfs h [17,21,22] (fun _ h=>?_) (fun _ h=>?_)
   ·refine Qb [0] ?_;exact Qu h (·▸Qq hpl)
   have⟨t4,h2,h⟩:=bs h;intro a w H;refine sr mx [] H (fun _=>.q 2 rfl<|.o (Qla z0 .k)<|.q 0 rfl<|.g rfl rfl bq0 (fun _=>Qad z4)<|.g rfl rfl bq1 (fun hc=>Qcu ud25 (.cond z0 hc))<|.g rfl rfl bq2 (fun hc=>Qg5 (.cond z0 hc) .k)<|.o (Ql0 z3 (fun hp=>(.cond z0 (beqF hp))))<|.q 0 rfl<|.gu [0] rfl rfl rfl bq0 (fun hc=>(QG QvV (QoH.ok (Qex h2 hc)) (.nil)).glo)<|.o (Qcj z1 (fun hp=>(.cond z0 (beqT hp))))<|.o (Qi z0)<|.n) fun _ a w H=>?_;have H:=H.t1_1 [10];refine Q2 H ?_;exact Qu h (·▸Qq hpl)
  refine Qs ?_;refine QaK h1 (fun (s0:Int×Bool)=>[(16,ti s0.1),(15,tb s0.2),(14,tsl Q5 t3),(12,tsl rI t2.1),(13,ti t2.2),(8,tsl rS t1.1),(9,ti t1.2),(7,tptr (Qf.cs t0))]) (fun (s0:Int×Bool)=>[glo]) [0,1,2,3,4,5,6,7] ?_;clear h;intro s0 o K2 h ho k3;refine Qk fun _ k4=>?_;refine Qb [4,5,6,7,8,9,10,11,12] ?_;refine Qx h (fun _ h=>?_) (fun _ h=>?_)
  ·refine QE ?_;refine k4 ?_;refine Qk fun _ k5=>?_;refine Qs ?_;refine Qb [0,2,3,4,5,6,7,8,9] ?_;refine Qaa (fun _ _ H=>H.nil (Qaj) 67) ?_;refine Qk fun K3 k6=>?_;refine Qb [0,1,2,3,4,5,6,7,8,9] ?_;have⟨e2,h3,h⟩:=bs h;have J2:∀(p2:List Qz) (y1:Value),p2=e2→To M w0 159 [(17,tv y1),(16,ti s0.1),(15,tb s0.2),(14,tsl Q5 t3),(12,tsl rI t2.1),(13,ti t2.2),(8,tsl rS t1.1),(9,ti t1.2),(7,tptr (Qf.cs t0))] [own Qaj 67 p2 y1,glo] K3:=by
    intro p2 y1 he;subst he;refine k6 ?_;refine Qaa (by intro _ _ H;exact (H.shareO 0 rfl).pick [0,2,3,4,5,6,7,8,9]) ?_;have⟨_,_,_,_,h⟩:=bs2 h;refine Qb [13,15,16,17,18,19,20,21,22] ?_;refine Q4 [5,7,8,9,10,11,12,13] ?_;refine k5 ?_;refine Q4 [2,3,4,5,6,7,8,9] ?_;exact QM k3 ((sj h).symm) [0,1,2,3,4,5,6,7]
   refine Qs ?_;refine Qa6 h3 (fun (s1:Int×List Qz) (y2:Value)=>[(18,ti s1.1),(17,tv y2),(16,ti s0.1),(15,tb s0.2),(14,tsl Q5 t3),(12,tsl rI t2.1),(13,ti t2.2),(8,tsl rS t1.1),(9,ti t1.2),(7,tptr (Qf.cs t0))]) (fun (s1:Int×List Qz) (y2:Value)=>[own Qaj 67 s1.2 y2,glo]) (.slice none 0 0) [0,1,2,3,4,5,6,7,8,9] ?_;clear h;intro s1 y2 o K4 h ho k7;refine Qk fun _ k8=>?_;refine Qb [3,4,5,6,7,8,9,10,11,12,13] ?_;refine Qx h (fun _ h=>?_) (fun _ h=>?_)
   ·refine QE ?_;refine k8 ?_;refine Qk fun K5 k9=>?_;refine Qs ?_;have⟨_,_,h⟩:=bs h;refine Qb [6,8,9,10,11,12,13,14,15,16,17] ?_;have⟨p3,h4,h⟩:=bs h;have J3:∀(y3:Value),To M w0 159 [(17,tv y3),(18,ti s1.1),(16,ti s0.1),(15,tb s0.2),(14,tsl Q5 t3),(12,tsl rI t2.1),(13,ti t2.2),(8,tsl rS t1.1),(9,ti t1.2),(7,tptr (Qf.cs t0))] [glo,own Qaj 67 p3 y3] K5:=by
     intro y3;refine k9 ?_;refine Q4 [2,3,4,5,6,7,8,9,10,11] ?_;refine Qar (fun _ _ H=>(H.pick [0,1,2,3,4,5,6,7,8,9]).selA [1,0] rfl) ?_;exact Qae k7 y3 ((sj h).symm) [0,1,2,3,4,5,6,7,8,9]
    replace h:=h4;clear h4;refine Qx h (fun _ h=>?_) (fun _ h=>?_)
    ·have⟨t5,h5,h⟩:=bs h;replace h:=bk h5 h;replace h:=bk h5 h;have⟨_,_,h⟩:=bs h;refine QaY [v1 21 (fun v0=>own Qaj 67 (s1.2++[(Qz.mk (t5.Diff).A (t5.Diff).B (t5.Diff).N)]) v0)] [22] [21,22,24,25,26,27,28,29,30,31,32] fun m1=>?_;obtain rfl:=sj h;exact Q3 (J3 (m1 21)) [1,2,3,4,5,6,7,8,9,10]
    refine QE ?_;obtain rfl:=sj h;refine Qar (fun _ _ H=>(H.pick [2,1,3,4,5,6,7,8,9,10]).selA [1,0] rfl) ?_;exact Q3 (J3 y2) [0,1,2,3,4,5,6,7,8,9]
   refine Q7 ?_;exact Qae J2 y2 (ho _ (sj h).symm) [2,3,4,5,6,7,8,9,10]
  refine Q7 ?_;exact QM J1 (ho _ (sj h).symm) [2,4,5,6,7,8]
 refine Qs ?_;refine Qa6 h0 (fun (s2:Int×List Int) (y4:Value)=>[(11,ti s2.1),(10,tv y4),(8,tsl rS t1.1),(9,ti t1.2),(7,tptr (Qf.cs t0)),(2,tsl rI want_)]) (fun (s2:Int×List Int) (y4:Value)=>[own rI 3 s2.2 y4,glo]) (.slice none 0 0) [0,1,2,3,4,5] ?_;clear h;intro s2 y4 o K6 h ho k10;refine Qk fun _ k11=>?_;refine Qb [4,5,6,7,8,9,10] ?_;refine Qx h (fun _ h=>?_) (fun _ h=>?_)
 ·refine QE ?_;refine k11 ?_;refine Qk fun _ k12=>?_;refine Qs ?_;have⟨t6,_,_,_,h⟩:=bs2 h;refine QaY [v1 5 (fun v0=>own rI 3 (s2.2++[t6]) v0)] [6] [5,6,8,9,10,11,12] fun m2=>?_;refine k12 ?_;refine Q4 [2,3,4,5,6,7,8] ?_;refine Qar (fun _ _ H=>(H.pick [0,2,3,4,5,6]).selA [1,0] rfl) ?_;exact Qae k10 (m2 5) ((sj h).symm) [0,1,2,3,4,5]
 refine Q7 ?_;exact Qae J0 y4 (ho _ (sj h).symm) [2,3,4,5]

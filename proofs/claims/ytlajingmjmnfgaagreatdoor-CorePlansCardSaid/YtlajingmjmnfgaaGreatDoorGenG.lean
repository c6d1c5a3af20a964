/- Go functions as Lean functions, and the proofs that they compute them, written by a program. No condition. -/
import Derived.Test.YtlajingmjmnfgaaGreatDoorGenF
set_option linter.all false
open Go.Proofs.Tryz Go.IntKind
namespace Go.Proofs.YtlajingmjmnfgaaGreatDoor
noncomputable section
open Go.Sim
set_option maxRecDepth 100000
set_option maxHeartbeats 4000000
def Qdl (n_:Int) (l_:(List Q0)) (first_:Int) (many_:Int):Option ((List Int)):=(Qcx [(1099511627776:Int)] (i64.wrap (n_+1))).bind fun t0=>(idx [t0] (0:Int)).bind fun r2=>(idx l_ first_).bind fun t1=>(setAt r2 t1.a (0:Int)).bind fun t2=>(setAt [t0] (0:Int) t2).bind fun m9=>(Ql (fun (s0:Int×List (List Int))=>((if (decide (s0.1<many_))=true then (Qcx [(1099511627776:Int)] (i64.wrap (n_+1))).bind fun t3=>(sub l_ (i64.wrap (first_+1)) (l_.length:Int)).bind fun t4=>(Ql (fun (s1:Int×List Int)=>((if (decide (s1.1<(t4.length:Int)))=true then (idx t4 s1.1).bind fun t5=>(idx s0.2 (i64.wrap (s0.1 - 1))).bind fun r3=>(idx r3 t5.b).bind fun t6=>((if (decide (t6<1099511627776))=true then (idx s1.2 t5.a).bind fun t7=>(setAt s1.2 t5.a (imin t7 (i64.wrap (t6+t5.n)))).bind fun t8=>(some t8) else (some s1.2))).bind fun p0=>(some (.inl ((i64.wrap (s1.1+1)),p0))) else (some (.inr s1.2))):Option ((Int×List Int)⊕((List Int))))) ((0:Int),t3)).bind fun p1=>(rm (s0.2.length+1)).bind fun _=>(some (.inl ((i64.wrap (s0.1+1)),(s0.2++[p1])))) else (some (.inr s0.2))):Option ((Int×List (List Int))⊕((List (List Int)))))) ((1:Int),m9)).bind fun p2=>(idx l_ first_).bind fun t9=>(idx l_ first_).bind fun t10=>(Qca t9.b (i64.wrap (many_ - 1)) (0:Int) p2 t10.n).bind fun t11=>(if (!t11)=true then (some ([]:List Int)) else (Ql (fun (s2:Int×Int×List Int×Int)=>((if (decide (s2.1≥0))=true then ((Ql (fun (s3:Int)=>((if (decide (s3<(l_.length:Int)))=true then (idx l_ s3).bind fun t12=>(opt ((t12.a==s2.2.1)==true) (Qca t12.b s2.1 t12.n p2 s2.2.2.2) default).bind fun t13=>(if ((t12.a==s2.2.1)&&t13)=true then (rm (s2.2.2.1.length+[s3].length)).bind fun _=>(some (.inr (.inr (t12.b,(s2.2.2.1++[s3]),(i64.wrap (s2.2.2.2+t12.n)))))) else (some (.inl (i64.wrap (s3+1))))) else (some (.inr (.inl ())))):Option ((Int)⊕((Unit)⊕(Int×List Int×Int))))) (i64.wrap (first_+1))).bind fun e0=>(match e0 with | .inl _=>(some (s2.2.1,s2.2.2.1,s2.2.2.2)) | .inr p3=>(some (p3.1,p3.2.1,p3.2.2)))).bind fun p4=>(some (.inl ((i64.wrap (s2.1 - 1)),p4.1,p4.2.1,p4.2.2))) else (some (.inr s2.2.2.1))):Option ((Int×Int×List Int×Int)⊕((List Int))))) ((i64.wrap (many_ - 2)),t9.b,[first_],t10.n)).bind fun p5=>(ne p5).bind fun _=>(some p5))
instance QzU:Spc4 prog 134 Qdl (fun n_ l_ first_ many_=>[ti n_,tsl QL l_,ti first_,ti many_]) (tsn rI):=.mk fun {n_ l_ first_ many_ r} h=>by
 unfold Qdl at h
 refine fe func134 ntmps134 fun M0 M w0 a hpl H=>?_
 refine sr mx [] H (fun _=>.o (Qi (.nilsn (R:=rI)))<|.n) fun _ a w H=>?_
 have H:=H.to [1,2,3,4] [_,_,_,_] [] rfl rfl
 refine wp_scope_straight ?_
 have⟨t0,h0,h⟩:=bs h
 refine sr mx [v1 3 (fun v0=>own rI 3 t0 v0),v2 3 4 (fun v0 v1=>own rVal 22 [v0] v1),v1 5 (fun v0=>box (rVal.cs nilV) v0),v2 4 5 (fun v0 v1=>box (rVal.cs v0) v1)] H (fun _=>.o (Qah (R:=rI) (us:=[(1099511627776:Int)]) ud22 tok3 (.cons .k<|.nil _) rfl (leb rfl))<|.q 1 rfl<|.o (Qao z0 .k)<|.m [] [0] rfl rfl rfl (QG Qme (Qfb.ok h0) (.cons (.of z2)<|.cons (.of z0)<|.nil))<|.m [0] [1] rfl rfl rfl (Qz9 (R:=rI) (e:=3) (xs:=t0) ud68 Qau z0)<|.m [] [2] rfl rfl rfl (Qe2 QeL)<|.e [1] [2] [3] rfl rfl rfl rfl (Qc1 (R:=rVal) (e:=22) (Ts:=(rVal.cs nilV)) QeL z0 z1 (leb rfl))<|.n) fun m0 a w H=>?_
 replace H:St _ _ _ [_,_,_,_,_,_,_] [_,_,_] _ _:=(((H.pick [3,4,5,6,7,8,9]).rowsN (rI) 3).selA [1,0,2,3] rfl).push
 refine wp_seq_k (fun _ k0=>?_)
 have⟨r2,h1,t1,h2,t2,h3,m9,hm9,h⟩:=bs4 h
 refine wr mx [v0 (rows rI 3 m9 [(m0 3)])] H (fun _=>.u [2] rfl rfl (Qa5 QeL z2)<|.u [1,0] rfl rfl (Qdz ud68 Qau z0 .k h1)<|.u [1,0] rfl rfl (Qec Qau z0 h1)<|.q 7 rfl<|.q 9 rfl<|.o (Qbi Qjd Qee z1 z0 h2)<|.o (QO QgJ z0)<|.o (QN (u:=t1.a) tok3 z0 rfl)<|.u [0] rfl rfl (Qie ud22 tok3 z5 z0 h1 h3)<|.e [] [0] [3] rfl rfl rfl rfl (Qi8 tok3 z0 .k h1 h3 hm9)<|.n) fun _ a w H=>?_
 have H:=H.t7_3 [0,10,11,12,13,14,15]
 refine k0 _ _ ?_
 refine wp_seq_k (fun K0 k1=>?_)
 refine sr mx [] H (fun _=>.o (Qi .k)<|.n) fun _ a w H=>?_
 have H:=H.to [0,1,2,3,4,5,6,7] [_,_,_,_,_,_,_,_] [_,_,_] rfl rfl
 have⟨e0,h4,h⟩:=bs h
 have J0:∀(p0:List (List Int)) (y0:Value) (us114:List Value) a w,p0=e0→St M w0 145 [(9,tv (m0 5)),(1,tsl QL l_),(2,ti first_),(3,ti many_)] [own rVal 22 us114 y0,box (rVal.cs y0) (m0 5),rows rI 3 p0 us114] a w→K0 a w:=by
  intro p0 y0 us114 a w he H;subst he;refine k1 _ _ ?_;have⟨t3,h5,t4,h6,h⟩:=bs2 h;refine sr mx [v1 1 (fun v0=>own rI 3 [first_] v0),v1 12 (fun v0=>box (rI.cs (0:Int)) v0),v1 12 (fun v0=>box (rI.cs t4.n) v0)] H (fun _=>.q 2 rfl<|.m [] [3] rfl rfl rfl (Qgk (R:=rI) (us:=[first_]) ud22 tok3 (.cons z0<|.nil _) rfl (leb rfl) (leb rfl))<|.q 3 rfl<|.q 5 rfl<|.o (Qbi Qjd Qee z1 z0 h5)<|.o (QO QgK z0)<|.o (QN (u:=t3.b) tok3 z0 rfl)<|.q 8 rfl<|.q 10 rfl<|.o (Qbi Qjd Qee z1 z0 h6)<|.o (QO Qhz z0)<|.o (QN (u:=t4.n) tok3 z0 rfl)<|.m [] [4] rfl rfl rfl (QaP (R:=rI) (a:=(0:Int)) tok3 zok3)<|.ud (f:=fun v=>tv v) 1 rfl [] rfl rfl (Qi z11)<|.o (Qi z7)<|.e [] [4] [5] rfl rfl rfl rfl (QaB (R:=rI) (a:=t4.n) tok3 z2 z3 (leb rfl))<|.n) fun m1 a w H=>?_;have H:=H.t8_5 [1,12,13,14,15,16,17,18];refine sr mx [] H (fun _=>.o (Qg9 (.cons z4<|.cons z1<|.nil))<|.o (Qi z0)<|.n) fun _ a w H=>?_;have H:=H.t8_5 [1,2,3,4,5,7,8,9];refine wp_seq_k (fun _ k2=>?_);have⟨t5,h7,h⟩:=bs h;refine sr mx [] H (fun _=>.q 0 rfl<|.q 5 rfl<|.q 9 rfl<|.o (Qk9 z0 .k)<|.u [1,0,2,4] rfl rfl (QqF [box (rVal.cs y0) (m0 5),own rVal 22 us114 y0,rows rI 3 p0 us114,box (rI.cs t4.n) (m1 12)] QoD (Qh8.ok h7) z3 (.cons (Qo6 (.head _) (.tail _ (.head _)) (.tail _ (.tail _ (.head _))))<|.cons (QqD (.tail _ (.tail _ (.tail _ (.head _)))))<|.nil) (.cons (.of z2)<|.cons (.of z0)<|.cons (.of .k)<|.nil) (fun _=>Qcd) (fun _=>Qgl (x:=undef)))<|.o (QiG z0)<|.n) fun _ a w H=>?_;have H:=H.to [5,6,7,8,9,10,11,12,13] [_,_,_,_,_,_,_,_,_] [_,_,_,_,_] rfl rfl;refine wi H h (fun b0 h=>?_) (fun b0 h=>?_)
  ·refine sr mx [] H (fun _=>.o (Qi (.nilsn (R:=rI)))<|.n) fun _ a w H=>?_;replace H:St _ _ _ [_,_,_] [_] _ _:=(H.pick [0,3,5]).selA [3] rfl;exact r0 h (·▸r1 hpl H (.tmp z0 .nil))
  refine wp_skip (k2 _ _ ?_);refine wp_seq_k (fun _ k3=>?_);refine wp_label ?_;refine k3 _ _ ?_;refine wp_seq_k (fun K1 k4=>?_);refine sr mx [] H (fun _=>.q 8 rfl<|.o (Qk9 z0 .k)<|.o (Qi z0)<|.n) fun _ a w H=>?_;have H:=H.t8_5 [2,4,5,6,7,8,9,10];have⟨e1,h8,h⟩:=bs h;have J1:∀(p1:List Int) (y1:Value) a w,p1=e1→St M w0 145 [(15,tv y1)] [own rI 3 p1 y1] a w→K1 a w:=by
   intro p1 y1 a w he H;subst he;refine k4 _ _ ?_;refine sr mx [] H (fun _=>.q 0 rfl<|.o (Qi z0)<|.n) fun _ a w H=>?_;have H:=H.to [0,1,2] [_,_,_] [_] rfl rfl;refine wp_ret ?_;have⟨_,hne,h⟩:=bs h;replace H:St _ _ _ [_] [] _ _:=(H.shareO 1 rfl).pick [0];obtain rfl:=sj h;exact rt undef [] hpl H (.tmp (.sn z0 (ne_ok hne)) .nil)
  refine wp_block ?_;refine QcC _ (fun (s0:Int×Int×List Int×Int) a w=>∃y2:Value,St M w0 145 [(19,ti s0.1),(18,QaO 178 [tv (m0 5),tv (m1 12)]),(17,tv (m1 12)),(15,tv y2),(16,ti s0.2.1),(1,tsl QL l_),(2,ti first_)] [own rVal 22 us114 y0,box (rVal.cs y0) (m0 5),rows rI 3 p0 us114,own rI 3 s0.2.2.1 y2,box (rI.cs s0.2.2.2) (m1 12)] a w) _ _ h8 ⟨(m1 1),H.pick [0,1,3,4,5,6,7]⟩ ?_;clear h;intro s0 o a w K2 hI h ho k5;obtain⟨y2,H⟩:=hI;refine wp_seq_k (fun _ k6=>?_);refine sr mx [] H (fun _=>.q 0 rfl<|.o (QiF z0 .k)<|.n) fun _ a w H=>?_;have H:=H.t8_5 [1,2,3,4,5,6,7,8];refine wi H h (fun b1 h=>?_) (fun b1 h=>?_)
  ·refine wp_skip (k6 _ _ ?_);refine wp_seq_k (fun K3 k7=>?_);have⟨p2,h9,h⟩:=bs h;have J2:∀(y3:Value) a w,St M w0 145 [(19,ti s0.1),(18,QaO 178 [tv (m0 5),tv (m1 12)]),(17,tv (m1 12)),(15,tv y3),(16,ti p2.1),(1,tsl QL l_),(2,ti first_)] [own rVal 22 us114 y0,box (rVal.cs y0) (m0 5),rows rI 3 p0 us114,own rI 3 p2.2.1 y3,box (rI.cs p2.2.2) (m1 12)] a w→K3 a w:=by
    intro y3 a w H;refine k7 _ _ ?_;refine wr mx [] H (fun _=>.q 0 rfl<|.o (Qk9 z0 .k)<|.o (Qi z0)<|.n) fun _ a w H=>?_;have H:=H.to [2,3,4,5,6,7,8] [_,_,_,_,_,_,_] [_,_,_,_,_] rfl rfl;exact k5 _ _ _ (sj h).symm ⟨y3,H.pick [0,1,2,3,4,5,6]⟩
   replace h:=h9;clear h9;refine wp_block ?_;refine sr mx [] H (fun _=>.q 7 rfl<|.o (Qao z0 .k)<|.o (Qi z0)<|.n) fun _ a w H=>?_;have H:=H.t8_5 [2,4,5,6,7,8,9,10];have⟨e3,h10,h⟩:=bs h;have J3:∀(p3:Unit) a w,(.inl p3)=e3→St M w0 145 [(19,ti s0.1),(18,QaO 178 [tv (m0 5),tv (m1 12)]),(17,tv (m1 12)),(15,tv y2),(16,ti s0.2.1),(1,tsl QL l_),(2,ti first_)] [own rVal 22 us114 y0,box (rVal.cs y0) (m0 5),rows rI 3 p0 us114,own rI 3 s0.2.2.1 y2,box (rI.cs s0.2.2.2) (m1 12)] a w→K3 a w:=by
    intro p3 a w he H;subst he;simp only at h;obtain rfl:=sj h;exact J2 y2 _ _ (H.pick [0,1,2,3,4,5,6])
   have J4:∀(p4:Int×List Int×Int) (y4:Value) a w,(.inr p4)=e3→St M w0 145 [(15,tv y4),(16,ti p4.1),(19,ti s0.1),(18,QaO 178 [tv (m0 5),tv (m1 12)]),(17,tv (m1 12)),(1,tsl QL l_),(2,ti first_)] [own rVal 22 us114 y0,box (rVal.cs y0) (m0 5),rows rI 3 p0 us114,own rI 3 p4.2.1 y4,box (rI.cs p4.2.2) (m1 12)] a w→K3 a w:=by
    intro p4 y4 a w he H;subst he;simp only at h;obtain rfl:=sj h;exact J2 y4 _ _ (H.pick [2,3,4,0,1,5,6])
   refine wp_block ?_;refine QcC _ (fun (s1:Int) a w=>St M w0 145 [(20,ti s1),(19,ti s0.1),(18,QaO 178 [tv (m0 5),tv (m1 12)]),(17,tv (m1 12)),(15,tv y2),(16,ti s0.2.1),(1,tsl QL l_),(2,ti first_)] [own rVal 22 us114 y0,box (rVal.cs y0) (m0 5),rows rI 3 p0 us114,own rI 3 s0.2.2.1 y2,box (rI.cs s0.2.2.2) (m1 12)] a w) _ _ h10 (H.pick [0,1,2,3,4,5,6,7]) ?_;clear h;intro s1 o a w K4 hI h ho k8;have H:=hI;clear hI;refine wp_seq_k (fun _ k9=>?_);refine sr mx [] H (fun _=>.q 0 rfl<|.q 7 rfl<|.o (Qcu Qjd z0)<|.o (Qbt z2 z0)<|.n) fun _ a w H=>?_;have H:=H.to [3,4,5,6,7,8,9,10,11] [_,_,_,_,_,_,_,_,_] [_,_,_,_,_] rfl rfl;refine wi H h (fun b2 h=>?_) (fun b2 h=>?_)
   ·refine wp_skip (k9 _ _ ?_);refine wp_seq_k (fun _ k10=>?_);refine wp_block ?_;have⟨t6,h11,h⟩:=bs h;refine sr mx [v1 4 (fun v0=>box (QL.cs zz5) v0),v1 4 (fun v0=>box (QL.cs t6) v0)] H (fun _=>.q 7 rfl<|.q 2 rfl<|.o (Qbi Qjd Qee z1 z0 h11)<|.o (QU Qee z0)<|.m [] [5] rfl rfl rfl (QaP (R:=QL) (a:=zz5) Qee QqR)<|.e [] [5] [6] rfl rfl rfl rfl (QaB (R:=QL) (a:=t6) Qee z0 z1 (leb rfl))<|.n) fun _ a w H=>?_;replace H:St _ _ _ [_,_,_,_,_,_,_,_,_] [_,_,_,_,_] _ _:=((((H.pick [4,6,7,8,9,10,11,12,13]).selA [5,0,1,2,3,4] rfl).shareB 0 rfl).add 0 rfl (fun _ _ _ h=>h.2)).pick [0,3,4,5,6,7,8,9,10];have⟨t7,h12,h⟩:=bs h;refine sr mx [] H (fun _=>.o (QO QgJ z0)<|.o (QN (u:=t6.a) tok3 z0 rfl)<|.q 8 rfl<|.o (Qct z1 z0)<|.q 0 rfl<|.g rfl rfl bq0 (fun _=>Qad z8)<|.g rfl rfl bq1 (fun _=>QO QgK z6)<|.g rfl rfl bq2 (fun hc=>QN (u:=t6.b) tok3 (.cond z0 hc) rfl)<|.g rfl rfl bq3 (fun _=>Qad z10)<|.g rfl rfl bq4 (fun _=>QO Qhz z9)<|.g rfl rfl bq5 (fun hc=>QN (u:=t6.n) tok3 (.cond z0 hc) rfl)<|.gu [1,0,2,4] rfl rfl rfl bq6 (fun hc=>QqF [box (rVal.cs y0) (m0 5),own rVal 22 us114 y0,rows rI 3 p0 us114,box (rI.cs s0.2.2.2) (m1 12)] QoD (Qh8.ok (Qex h12 hc)) (.cond z5 hc) (.cons (Qo6 (.head _) (.tail _ (.head _)) (.tail _ (.tail _ (.head _))))<|.cons (QqD (.tail _ (.tail _ (.tail _ (.head _)))))<|.nil) (.cons (.of (.cond z3 hc))<|.cons (.of (.cond z2 hc))<|.cons (.of (.cond z0 hc))<|.nil) (fun _=>Qcd) (fun _=>Qgl (x:=undef)))<|.o (Qcj z7 (fun hp=>(.cond z0 (beqT hp))))<|.n) fun _ a w H=>?_;have H:=H.to [12,13,14,15,16,17,18,19,20,21] [_,_,_,_,_,_,_,_,_,_] [_,_,_,_,_] rfl rfl;refine wi H h (fun b3 h=>?_) (fun b3 h=>?_)
    ·refine wp_seq_k (fun _ k11=>?_);have⟨u0,h13,h⟩:=bs h;refine wr mx [v1 3 (fun v0=>own rI 3 (s0.2.2.1++[s1]) v0),v0 (box (rI.cs (i64.wrap (s0.2.2.2+t6.n))) (m1 12))] H (fun _=>.q 6 rfl<|.q 3 rfl<|.o (Qah (R:=rI) (us:=[s1]) ud22 tok3 (.cons z0<|.nil _) rfl (leb rfl))<|.e [] [3] [5] rfl rfl rfl rfl (QaL (R:=rI) ud22 tok3 (leb rfl) z2 z0 h13)<|.o (QO QgK z5)<|.o (QN (u:=t6.b) tok3 z0 rfl)<|.u [4] rfl rfl (QiH (R:=rI) (u:=s0.2.2.2) tok3 z11 rfl)<|.o (QO Qhz z8)<|.o (QN (u:=t6.n) tok3 z0 rfl)<|.o (Qao z2 z0)<|.ud (f:=fun v=>tv v) 3 rfl [] rfl rfl (Qi z6)<|.o (Qi z5)<|.e [] [4] [6] rfl rfl rfl rfl (QaB (R:=rI) (a:=(i64.wrap (s0.2.2.2+t6.n))) tok3 z17 z2 (leb rfl))<|.n) fun m2 a w H=>?_;have H:=H.t8_5 [3,10,11,15,16,17,18,19];refine k11 _ _ ?_;refine wp_exit ?_;exact J4 _ (m2 3) _ _ (ho _ (sj h).symm) (H.pick [1,2,3,4,5,6,7])
    refine wp_skip (k10 _ _ ?_);refine wr mx [] H (fun _=>.q 2 rfl<|.o (Qao z0 .k)<|.o (Qi z0)<|.n) fun _ a w H=>?_;have H:=H.t8_5 [2,5,6,7,8,9,10,11];exact k8 _ _ _ (sj h).symm (H.pick [0,1,2,3,4,5,6,7])
   refine wp_exit ?_;exact J3 _ _ _ (ho _ (sj h).symm) (H.pick [2,3,4,5,6,7,8])
  refine wp_exit ?_;exact J1 _ y2 _ _ (ho _ (sj h).symm) ((H.pick [4]).selA [3] rfl)
 refine wp_block ?_;refine QcC _ (fun (s2:Int×List (List Int)) a w=>∃y5:Value,∃us63:List Value,St M w0 145 [(10,ti s2.1),(9,tv (m0 5)),(0,ti n_),(1,tsl QL l_),(2,ti first_),(3,ti many_)] [own rVal 22 us63 y5,box (rVal.cs y5) (m0 5),rows rI 3 s2.2 us63] a w) _ _ h4 ⟨(m0 4),[(m0 3)],H.pick [0,3,4,5,6,7]⟩ ?_;clear h;intro s2 o a w K5 hI h ho k12;obtain⟨y5,us63,H⟩:=hI;refine wp_seq_k (fun _ k13=>?_);refine sr mx [] H (fun _=>.q 0 rfl<|.q 6 rfl<|.o (Qbt z1 z0)<|.n) fun _ a w H=>?_;have H:=H.t7_3 [2,3,4,5,6,7,8];refine wi H h (fun b4 h=>?_) (fun b4 h=>?_)
 ·refine wp_skip (k13 _ _ ?_);refine wp_seq_k (fun _ k14=>?_);refine wp_block ?_;have⟨t8,h14,h⟩:=bs h;refine sr mx [v1 3 (fun v0=>own rI 3 t8 v0)] H (fun _=>.o (Qah (R:=rI) (us:=[(1099511627776:Int)]) ud22 tok3 (.cons .k<|.nil _) rfl (leb rfl))<|.q 4 rfl<|.o (Qao z0 .k)<|.m [] [3] rfl rfl rfl (QG Qme (Qfb.ok h14) (.cons (.of z2)<|.cons (.of z0)<|.nil))<|.ud (f:=fun v=>tv v) 3 rfl [] rfl rfl (Qi z0)<|.n) fun m3 a w H=>?_;have H:=H.to [3,4,6,7,8,9,10,11] [_,_,_,_,_,_,_,_] [_,_,_,_] rfl rfl;refine wp_seq_k (fun K6 k15=>?_);have⟨t9,h15,h⟩:=bs h;refine sr mx [] H (fun _=>.q 5 rfl<|.q 7 rfl<|.o (Qao z0 .k)<|.o (Qqz Qjd Qee z2 (.op z0) (.no _) h15)<|.o (Qcu Qjd z0)<|.o (Qad .k)<|.n) fun _ a w H=>?_;have H:=H.to [3,4,5,6,7,8,9,10,11,12,13] [_,_,_,_,_,_,_,_,_,_,_] [_,_,_,_] rfl rfl;have⟨e4,h16,h⟩:=bs h;have J5:∀(p5:List Int) a w,p5=e4→St M w0 145 [(11,tv (m3 3)),(10,ti s2.1),(9,tv (m0 5)),(0,ti n_),(1,tsl QL l_),(2,ti first_),(3,ti many_)] [own rVal 22 us63 y5,box (rVal.cs y5) (m0 5),rows rI 3 s2.2 us63,own rI 3 p5 (m3 3)] a w→K6 a w:=by
   intro p5 a w he H;subst he;refine k15 _ _ ?_;have⟨u1,h17,h⟩:=bs h;refine wr mx [v1 3 (fun v0=>own rVal 22 (us63++[(m3 3)]) v0),v1 3 (fun v0=>box (rVal.cs v0) (m0 5))] H (fun _=>.u [1] rfl rfl (Qa5 QeL z2)<|.q 1 rfl<|.u [3] rfl rfl (op_hdr (R:=rI) (e:=3) (xs:=p5) ud68 Qau z0)<|.e [2] [0] [4] rfl rfl rfl rfl (QtY (R:=rI) (e2:=3) (ws:=[(m3 3)]) ud68 Qau (leb rfl) z2 z0 h17)<|.e [4] [1] [5] rfl rfl rfl rfl (Qc1 (R:=rVal) (e:=22) (Ts:=(rVal.cs y5)) QeL z6 z0 (leb rfl))<|.n) fun m4 a w H=>?_;replace H:St _ _ _ [_,_,_,_,_,_,_,_,_] [_,_,_] _ _:=((H.pick [1,3,4,5,6,7,8,9,10]).selA [1,0,2,3] rfl).push;refine k14 _ _ ?_;refine wr mx [] H (fun _=>.q 3 rfl<|.o (Qao z0 .k)<|.o (Qi z0)<|.n) fun _ a w H=>?_;have H:=H.t7_3 [2,4,6,7,8,9,10];exact k12 _ _ _ (sj h).symm ⟨(m4 3),(us63++[(m3 3)]),(H.pick [0,2,3,4,5,6]).selA [1,2,0] rfl⟩
  refine wp_block ?_;refine QcC _ (fun (s3:Int×List Int) a w=>St M w0 145 [(48,tsl QL t9),(49,ti (t9.length:Int)),(50,ti s3.1),(11,tv (m3 3)),(10,ti s2.1),(9,tv (m0 5)),(0,ti n_),(1,tsl QL l_),(2,ti first_),(3,ti many_)] [own rVal 22 us63 y5,box (rVal.cs y5) (m0 5),rows rI 3 s2.2 us63,own rI 3 s3.2 (m3 3)] a w) _ _ h16 (H.pick [0,1,2,4,5,6,7,8,9,10]) ?_;clear h;intro s3 o a w K7 hI h ho k16;have H:=hI;clear hI;refine sr mx [] H (fun _=>.o (Qbt z2 z1)<|.n) fun _ a w H=>?_;have H:=H.to [0,1,2,3,4,5,6,7,8,9,10] [_,_,_,_,_,_,_,_,_,_,_] [_,_,_,_] rfl rfl;refine wp_seq_k (fun _ k17=>?_);refine wi H h (fun b5 h=>?_) (fun b5 h=>?_)
  ·refine wp_skip (k17 _ _ ?_);refine wp_seq_k (fun K8 k18=>?_);refine wp_block ?_;have⟨t10,h18,h⟩:=bs h;refine sr mx [v1 2 (fun v0=>box (QL.cs zz5) v0),v1 2 (fun v0=>box (QL.cs t10) v0)] H (fun _=>.o (Qbi Qjd Qee z1 z3 h18)<|.o (QU Qee z0)<|.m [] [4] rfl rfl rfl (QaP (R:=QL) (a:=zz5) Qee QqR)<|.e [] [4] [5] rfl rfl rfl rfl (QaB (R:=QL) (a:=t10) Qee z0 z1 (leb rfl))<|.n) fun _ a w H=>?_;replace H:St _ _ _ [_,_,_,_,_,_,_,_,_,_,_] [_,_,_,_] _ _:=((((H.pick [2,4,5,6,7,8,9,10,11,12,13]).selA [4,0,1,2,3] rfl).shareB 0 rfl).add 0 rfl (fun _ _ _ h=>h.2)).pick [0,3,4,5,6,7,8,9,10,11,12];refine wp_seq_k (fun _ k19=>?_);have⟨r3,h19,t11,h20,h⟩:=bs2 h;refine wr mx [] H (fun _=>.u [1] rfl rfl (Qa5 QeL z6)<|.q 6 rfl<|.o (Qk9 z0 .k)<|.u [0,2] rfl rfl (Qdz ud68 Qau z2 z0 h19)<|.u [0,2] rfl rfl (Qec Qau z0 h19)<|.o (QO QgK z5)<|.o (QN (u:=t10.b) tok3 z0 rfl)<|.u [2] rfl rfl (Qf6 ud22 tok3 z2 z0 h19 h20)<|.u [2] rfl rfl (Qhs tok3 z0 h19 h20)<|.o (Qi z0)<|.n) fun _ a w H=>?_;have H:=H.to [0,9,10,11,12,13,14,15,16,17,18,19,20] [_,_,_,_,_,_,_,_,_,_,_,_,_] [_,_,_,_] rfl rfl;refine k19 _ _ ?_;refine sr mx [] H (fun _=>.q 1 rfl<|.o (Qbt z0 .k)<|.n) fun _ a w H=>?_;have H:=H.to [1,2,3,4,5,6,7,8,9,10,11,12,13,14] [_,_,_,_,_,_,_,_,_,_,_,_,_,_] [_,_,_,_] rfl rfl;have⟨p6,h21,h⟩:=bs h;have J6:∀a w,St M w0 145 [(48,tsl QL t9),(49,ti (t9.length:Int)),(50,ti s3.1),(11,tv (m3 3)),(10,ti s2.1),(9,tv (m0 5)),(0,ti n_),(1,tsl QL l_),(2,ti first_),(3,ti many_)] [own rVal 22 us63 y5,box (rVal.cs y5) (m0 5),rows rI 3 s2.2 us63,own rI 3 p6 (m3 3)] a w→K8 a w:=by
    intro a w H;refine k18 _ _ ?_;refine wr mx [] H (fun _=>.o (Qao z2 .k)<|.q 0 rfl<|.n) fun _ a w H=>?_;have H:=H.to [1,2,3,4,5,6,7,8,9,10] [_,_,_,_,_,_,_,_,_,_] [_,_,_,_] rfl rfl;exact k16 _ _ _ (sj h).symm (H.pick [1,2,0,3,4,5,6,7,8,9])
   replace h:=h21;clear h21;refine wi H h (fun b6 h=>?_) (fun b6 h=>?_)
   ·have⟨t12,h22,t13,h23,h⟩:=bs2 h;refine wr mx [v0 (own rI 3 t13 (m3 3))] H (fun _=>.q 7 rfl<|.o (QO QgJ z4)<|.o (QN (u:=t10.a) tok3 z0 rfl)<|.q 10 rfl<|.o (QO QgJ z7)<|.o (QN (u:=t10.a) tok3 z0 rfl)<|.u [3] rfl rfl (QaQ ud22 tok3 z2 z0 h22)<|.u [3] rfl rfl (Qdh tok3 z0 h22)<|.q 10 rfl<|.o (QO Qhz z12)<|.o (QN (u:=t10.n) tok3 z0 rfl)<|.o (Qao z2 z0)<|.o (QjB z4 z0)<|.u [3] rfl rfl (Qg8 ud22 tok3 z12 z10 h23)<|.e [] [3] [4] rfl rfl rfl rfl (QgT tok3 z0 z1 h23)<|.n) fun _ a w H=>?_;have H:=H.to [0,3,15,18,19,20,21,22,23,24,25,26,27] [_,_,_,_,_,_,_,_,_,_,_,_,_] [_,_,_,_] rfl rfl;obtain rfl:=sj h;exact J6 _ _ (H.pick [3,4,5,6,7,8,9,10,11,12])
   refine wp_skip ?_;obtain rfl:=sj h;exact J6 _ _ (H.pick [4,5,6,7,8,9,10,11,12,13])
  refine wp_exit ?_;exact J5 _ _ _ (ho _ (sj h).symm) (H.pick [4,5,6,7,8,9,10])
 refine wp_exit ?_;exact J0 _ y5 us63 _ _ (ho _ (sj h).symm) (H.pick [2,4,5,6])
def Qfq (n_:Int) (l_:(List Qz)):Option ((List Int)×Int):=(Qd5 n_ l_).bind fun t0=>(if (t0.2 !=0)=true then (some (([]:List Int),t0.2)) else (Ql (fun (s0:Int)=>((if (decide (s0≤(i64.wrap (n_+1))))=true then (Ql (fun (s1:Int)=>((if (decide (s1<(t0.1.length:Int)))=true then (Qdl n_ t0.1 s1 s0).bind fun t1=>(if (!t1.isEmpty)=true then (some (.inr (.inr (t1,(0:Int))))) else (some (.inl (i64.wrap (s1+1))))) else (some (.inr (.inl ())))):Option ((Int)⊕((Unit)⊕((List Int)×Int))))) (0:Int)).bind fun e0=>(match e0 with | .inl _=>(some (.inl (i64.wrap (s0+1)))) | .inr p0=>(some (.inr (.inr (p0.1,p0.2))))) else (some (.inr (.inl ())))):Option ((Int)⊕((Unit)⊕((List Int)×Int))))) (2:Int)).bind fun e1=>(match e1 with | .inl _=>(some (([]:List Int),(6:Int))) | .inr p1=>(some (p1.1,p1.2))))
instance QnR:Spc2 prog 90 Qfq (fun n_ l_=>[ti n_,tsl Qaj l_]) (fun r=>ttup [tsl rI r.1,ti r.2]):=.mk fun {n_ l_ r} h=>by
 unfold Qfq at h
 refine Fe func90 ntmps90 fun M0 M w0 hpl=>?_
 refine Qb [2,3] ?_
 have⟨t0,h0,h⟩:=bs h
 intro a w H
 refine sr mx [] H (fun _=>.q 0 rfl<|.q 2 rfl<|.o (QG Qq3 ((Qjf.ok h0).ro QsN) (.cons (.of z1)<|.cons (.of z0)<|.nil))<|.q 0 rfl<|.o (Qac z0 rfl)<|.o (Qac z1 rfl)<|.o (Qi z1)<|.o (Qi z1)<|.n) fun _ a w H=>?_
 have H:=H.t3_0 [6,7,8]
 refine Q2 H ?_
 refine tIfs h [1,2,3,4] (fun _ h=>?_) (fun _ h=>?_)
 ·refine Qb [1,2] ?_
  exact Qu h (·▸Qq hpl)
 refine Qk fun K0 k0=>?_
 refine Qb [0,2,4] ?_
 have⟨e0,h1,h⟩:=bs h
 have J0:∀(p0:Unit),(.inl p0)=e0→To M w0 40 [] [] K0:=by
  intro p0 he;subst he;simp only at h;refine k0 ?_;refine Qb [0,1] ?_;exact Qu h (·▸Qq hpl)
 have J1:∀(p1:(List Int)×Int),(.inr p1)=e0→To M w0 40 [(4,tsn rI p1.1),(5,ti p1.2)] [] (Ret prog f90 M0 [] w0 (fun _=>[]) (fun _=>ttup [tsl rI r.1,ti r.2]) .ret):=by
  intro p1 he;subst he;simp only at h;obtain rfl:=sj h;exact Qq hpl
 refine Qs ?_;refine QaK h1 (fun (s0:Int)=>[(8,ti s0),(6,tsl QL t0.1),(0,ti n_)]) (fun (s0:Int)=>[]) [0,1,2] ?_;clear h;intro s0 o K1 h ho k1;refine Qk fun _ k2=>?_;refine Qb [3,4,5,6] ?_;refine Qx h (fun _ h=>?_) (fun _ h=>?_)
 ·refine QE ?_;refine k2 ?_;refine Qk fun K2 k3=>?_;refine Qs ?_;refine Qb [1,2,4,5,6] ?_;have⟨e1,h2,h⟩:=bs h;have J2:∀(p2:Unit),(.inl p2)=e1→To M w0 40 [(8,ti s0),(6,tsl QL t0.1),(0,ti n_)] [] K2:=by
   intro p2 he;subst he;simp only at h;refine k3 ?_;refine Q4 [2,3,4] ?_;exact QM k1 ((sj h).symm) [0,1,2]
  have J3:∀(p3:(List Int)×Int),(.inr p3)=e1→To M w0 40 [(4,tsn rI p3.1),(5,ti p3.2)] [] (Ret prog f90 M0 [] w0 (fun _=>[]) (fun _=>ttup [tsl rI r.1,ti r.2]) .ret):=by
   intro p3 he;subst he;simp only at h;exact QM J1 (ho _ (sj h).symm) [0,1]
  refine Qs ?_;refine QaK h2 (fun (s1:Int)=>[(27,ti (t0.1.length:Int)),(28,ti s1),(8,ti s0),(6,tsl QL t0.1),(0,ti n_)]) (fun (s1:Int)=>[]) [0,1,2,3,4] ?_;clear h;intro s1 o K3 h ho k4;refine Qb [0,1,2,3,4,5] ?_;refine Qk fun _ k5=>?_;refine Qx h (fun _ h=>?_) (fun _ h=>?_)
  ·refine QE ?_;refine k5 ?_;refine Qk fun _ k6=>?_;refine Qs ?_;refine Qb [1,3,4,5,6,7] ?_;have⟨_,_,h⟩:=bs h;refine Qb [5,7,8,9,10,11] ?_;refine Qb [1,2,3,4,5,6,7] ?_;refine Qx h (fun _ h=>?_) (fun _ h=>?_)
   ·refine Qb [1,2] ?_;refine QaV ?_;exact QM J3 (ho _ (sj h).symm) [0,1]
   refine QE ?_;refine k6 ?_;refine Q4 [1,4,5,6,7] ?_;exact QM k4 ((sj h).symm) [1,0,2,3,4]
  refine Q7 ?_;exact QM J2 (ho _ (sj h).symm) [3,4,5]
 refine Q7 ?_;exact QM J0 (ho _ (sj h).symm) []
def QcJ (s_:QaX) (kind_:Int) (some_:(Int→Option Bool)):Option ((List Int)):=(Ql (fun (s0:Int×List Int×List Qz)=>((if (decide (s0.1<(s_.diffs.length:Int)))=true then (idx s_.diffs s0.1).bind fun t0=>(opt ((t0.kind==kind_)==true) (some_ s0.1) default).bind fun t1=>((if ((t0.kind==kind_)&&t1)=true then (rm (s0.2.2.length+[t0.Diff].length)).bind fun _=>(rm (s0.2.1.length+[s0.1].length)).bind fun _=>(some ((s0.2.2++[t0.Diff]),(s0.2.1++[s0.1]))) else (some (s0.2.2,s0.2.1)))).bind fun p0=>(some (.inl ((i64.wrap (s0.1+1)),p0.2,p0.1))) else (some (.inr (s0.2.1,s0.2.2)))):Option ((Int×List Int×List Qz)⊕((List Int×List Qz))))) ((0:Int),([]:List Int),([]:List Qz))).bind fun p1=>(idx (s_.x).Kinds kind_).bind fun t2=>(Qfq (t2.Fields.length:Int) p1.2).bind fun t3=>(if (t3.2 !=0)=true then (some ([]:List Int)) else (Ql (fun (s1:Int×List Int)=>((if (decide (s1.1<(t3.1.length:Int)))=true then (idx t3.1 s1.1).bind fun t4=>(idx p1.1 t4).bind fun t5=>(rm (s1.2.length+[t5].length)).bind fun _=>(some (.inl ((i64.wrap (s1.1+1)),(s1.2++[t5])))) else (some (.inr s1.2))):Option ((Int×List Int)⊕((List Int))))) ((0:Int),([]:List Int))).bind fun p2=>(ne p2).bind fun _=>(some p2))
instance Qk4:Spc3 prog 30 QcJ (fun s_ kind_ some_=>[tptr (QS.cs s_),ti kind_,rF81.ty some_]) (tsn rI):=.mk fun {s_ kind_ some_ r} h=>by
 unfold QcJ at h
 refine fe func30 ntmps30 fun M0 M w0 a hpl H=>?_
 refine sr mx [] H (fun _=>.o (Qi (.nilsn (R:=rI)))<|.n) fun _ a w H=>?_
 have H:=H.t3_0 [1,2,3]
 refine sr mx [] H (fun _=>.o (Qi .k)<|.n) fun _ a w H=>?_
 replace H:St _ _ _ [_,_,_,_] [_] _ _:=(H.pick [0,1,2,3]).nil (Qaj) 67
 refine sr mx [] H (fun _=>.o (Qi .k)<|.n) fun _ a w H=>?_
 replace H:St _ _ _ [_,_,_,_,_] [_,_] _ _:=(H.pick [0,1,2,3,4]).nil (rI) 3
 refine wp_seq_k (fun K0 k0=>?_)
 refine sr mx [] H (fun _=>.q 2 rfl<|.o (Qf7 z0)<|.o (QO QsW z0)<|.o (QN (u:=s_.diffs) Qug z0 rfl)<|.o (Qcu ud76 z0)<|.o (Qad .k)<|.n) fun _ a w H=>?_
 have H:=H.to [3,4,5,6,7,8,9,10] [_,_,_,_,_,_,_,_] [_,_] rfl rfl
 have⟨e0,h0,h⟩:=bs h
 have J0:∀(p0:List Int×List Qz) (y0:Value) (y1:Value) a w,p0=e0→St M w0 77 [(8,tv y0),(7,tv y1),(0,tptr (QS.cs s_)),(1,ti kind_)] [own rI 3 p0.1 y0,own Qaj 67 p0.2 y1] a w→K0 a w:=by
  intro p0 y0 y1 a w he H;subst he;refine k0 _ _ ?_;refine wp_seq_k (fun _ k1=>?_);replace H:St _ _ _ [_,_,_,_] [_] _ _:=((H.selA [1,0] rfl).shareO 1 rfl).pick [0,1,3,4];have⟨t0,h1,t1,h2,h⟩:=bs2 h;refine wr mx [] H (fun _=>.q 2 rfl<|.o (Qf7 z0)<|.o (QO Qow z0)<|.o (QO QdE z0)<|.o (QN (u:=(s_.x).Kinds) Qkm z0 rfl)<|.q 8 rfl<|.o (Qbi ud29 QcO z1 z0 h1)<|.o (QO Qce z0)<|.o (QN (u:=t0.Fields) Qjb z0 rfl)<|.o (Qcu ud45 z0)<|.q 10 rfl<|.o (QG Qwf (QnR.ok h2) (.cons (.of z1)<|.cons (.of z0)<|.nil))<|.q 0 rfl<|.o (Qac z0 rfl)<|.o (Qac z1 rfl)<|.o (Qi z1)<|.o (Qi z1)<|.n) fun _ a w H=>?_;have H:=H.to [15,16,18] [_,_,_] [_] rfl rfl;refine k1 _ _ ?_;refine wp_seq_k (fun _ k2=>?_);refine sr mx [] H (fun _=>.q 1 rfl<|.o (Qla z0 .k)<|.n) fun _ a w H=>?_;have H:=H.to [1,2,4] [_,_,_] [_] rfl rfl;refine wi H h (fun b0 h=>?_) (fun b0 h=>?_)
  ·refine sr mx [] H (fun _=>.o (Qi (.nilsn (R:=rI)))<|.n) fun _ a w H=>?_;have H:=H.t2_1 [0,3];exact r0 h (·▸r1 hpl H (.tmp z0 .nil))
  refine wp_skip (k2 _ _ ?_);refine sr mx [] H (fun _=>.o (Qi .k)<|.n) fun _ a w H=>?_;replace H:St _ _ _ [_,_,_] [_,_] _ _:=(H.pick [0,2,3]).nil (rI) 3;refine wp_seq_k (fun K1 k3=>?_);refine sr mx [] H (fun _=>.q 1 rfl<|.o (Qcu ud22 z0)<|.o (Qad .k)<|.n) fun _ a w H=>?_;have H:=H.t5_2 [0,1,2,3,5];have⟨e1,h3,h⟩:=bs h;have J1:∀(p1:List Int) (y2:Value) a w,p1=e1→St M w0 77 [(13,tv y2)] [own rI 3 p1 y2] a w→K1 a w:=by
   intro p1 y2 a w he H;subst he;refine k3 _ _ ?_;refine sr mx [] H (fun _=>.q 0 rfl<|.o (Qi z0)<|.n) fun _ a w H=>?_;have H:=H.to [0,1,2] [_,_,_] [_] rfl rfl;refine wp_ret ?_;have⟨_,hne,h⟩:=bs h;replace H:St _ _ _ [_] [] _ _:=(H.shareO 1 rfl).pick [0];obtain rfl:=sj h;exact rt undef [] hpl H (.tmp (.sn z0 (ne_ok hne)) .nil)
  refine wp_block ?_;refine QcC _ (fun (s0:Int×List Int) a w=>∃y3:Value,St M w0 77 [(62,tsl rI t1.1),(63,ti (t1.1.length:Int)),(64,ti s0.1),(13,tv y3),(8,tv y0)] [own rI 3 s0.2 y3,own rI 3 p0.1 y0] a w) _ _ h3 ⟨(.slice none 0 0),H.pick [0,1,2,3,4]⟩ ?_;clear h;intro s0 o a w K2 hI h ho k4;obtain⟨y3,H⟩:=hI;refine sr mx [] H (fun _=>.o (Qbt z2 z1)<|.n) fun _ a w H=>?_;have H:=H.t6_2 [0,1,2,3,4,5];refine wp_seq_k (fun _ k5=>?_);refine wi H h (fun b1 h=>?_) (fun b1 h=>?_)
  ·refine wp_skip (k5 _ _ ?_);refine wp_seq_k (fun _ k6=>?_);refine wp_block ?_;have⟨t2,h4,h⟩:=bs h;refine sr mx [] H (fun _=>.o (Qbi ud22 tok3 z1 z3 h4)<|.o (QU tok3 z0)<|.o (Qi z0)<|.n) fun _ a w H=>?_;have H:=H.t6_2 [2,4,5,6,7,8];have⟨t3,h5,u0,h6,h⟩:=bs2 h;refine wr mx [v1 6 (fun v0=>own rI 3 (s0.2++[t3]) v0)] H (fun _=>.q 4 rfl<|.q 6 rfl<|.q 2 rfl<|.u [1] rfl rfl (QaQ ud22 tok3 z1 z0 h5)<|.u [1] rfl rfl (Qdh tok3 z0 h5)<|.o (Qah (R:=rI) (us:=[t3]) ud22 tok3 (.cons z0<|.nil _) rfl (leb rfl))<|.e [] [0] [2] rfl rfl rfl rfl (QaL (R:=rI) ud22 tok3 (leb rfl) z5 z0 h6)<|.ud (f:=fun v=>tv v) 6 rfl [] rfl rfl (Qi z0)<|.n) fun m0 a w H=>?_;have H:=H.t7_2 [1,6,7,9,10,11,12];refine k6 _ _ ?_;refine wr mx [] H (fun _=>.o (Qao z5 .k)<|.q 0 rfl<|.n) fun _ a w H=>?_;have H:=H.t7_2 [1,2,3,4,5,6,7];exact k4 _ _ _ (sj h).symm ⟨(m0 6),(H.pick [4,5,0,3,6]).selA [1,0] rfl⟩
  refine wp_exit ?_;exact J1 _ y3 _ _ (ho _ (sj h).symm) ((H.pick [4]).selA [0] rfl)
 refine wp_block ?_;refine QcC _ (fun (s1:Int×List Int×List Qz) a w=>∃y4:Value,∃y5:Value,St M w0 77 [(19,tsl QR s_.diffs),(20,ti (s_.diffs.length:Int)),(21,ti s1.1),(8,tv y4),(7,tv y5),(0,tptr (QS.cs s_)),(1,ti kind_),(2,rF81.ty some_)] [own rI 3 s1.2.1 y4,own Qaj 67 s1.2.2 y5] a w) _ _ h0 ⟨(.slice none 0 0),(.slice none 0 0),H.pick [0,1,2,3,4,5,6,7]⟩ ?_;clear h;intro s1 o a w K3 hI h ho k7;obtain⟨y4,y5,H⟩:=hI;refine sr mx [] H (fun _=>.o (Qbt z2 z1)<|.n) fun _ a w H=>?_;have H:=H.to [0,1,2,3,4,5,6,7,8] [_,_,_,_,_,_,_,_,_] [_,_] rfl rfl;refine wp_seq_k (fun _ k8=>?_);refine wi H h (fun b2 h=>?_) (fun b2 h=>?_)
 ·refine wp_skip (k8 _ _ ?_);refine wp_seq_k (fun K4 k9=>?_);refine wp_block ?_;have⟨t4,h7,h⟩:=bs h;refine sr mx [v1 3 (fun v0=>box (QR.cs (QT.mk (0:Int) ([]:Str) (Qz.mk (0:Int) (0:Int) (0:Int)))) v0),v1 3 (fun v0=>box (QR.cs t4) v0)] H (fun _=>.q 3 rfl<|.o (Qbi ud76 Qgo z2 z4 h7)<|.o (QU Qgo z0)<|.m [] [2] rfl rfl rfl (QaP (R:=QR) (a:=(QT.mk (0:Int) ([]:Str) (Qz.mk (0:Int) (0:Int) (0:Int)))) Qgo QvC)<|.o (Qi z3)<|.e [] [2] [3] rfl rfl rfl rfl (QaB (R:=QR) (a:=t4) Qgo z1 z2 (leb rfl))<|.n) fun _ a w H=>?_;replace H:St _ _ _ [_,_,_,_,_,_,_,_,_,_] [_,_] _ _:=((((H.pick [3,4,6,7,8,9,10,11,12,13]).selA [2,0,1] rfl).shareB 0 rfl).add 0 rfl (fun _ _ _ h=>h.2)).pick [0,3,4,5,6,7,8,9,10,11];have⟨t5,h8,h⟩:=bs h;refine sr mx [] H (fun _=>.o (QO QqT z0)<|.o (QN (u:=t4.kind) tok3 z0 rfl)<|.q 10 rfl<|.o (Qct z1 z0)<|.q 0 rfl<|.g rfl rfl bq0 (fun _=>Qad z14)<|.g rfl rfl bq1 (fun _=>Qad z7)<|.g rfl rfl bq2 (fun hc=>QiL (u:=s1.1) (.cond z1 hc) (.cons (.of (.cond z0 hc))<|.nil) (Qex h8 hc))<|.o (Qcj z3 (fun hp=>(.cond z0 (beqT hp))))<|.n) fun _ a w H=>?_;have H:=H.to [8,9,10,11,12,13,14,15,16,17,18] [_,_,_,_,_,_,_,_,_,_,_] [_,_] rfl rfl;have⟨p2,h9,h⟩:=bs h;have J2:∀(y6:Value) (y7:Value) a w,St M w0 77 [(7,tv y6),(8,tv y7),(19,tsl QR s_.diffs),(20,ti (s_.diffs.length:Int)),(21,ti s1.1),(0,tptr (QS.cs s_)),(1,ti kind_),(2,rF81.ty some_)] [own Qaj 67 p2.1 y6,own rI 3 p2.2 y7] a w→K4 a w:=by
   intro y6 y7 a w H;refine k9 _ _ ?_;refine wr mx [] H (fun _=>.o (Qao z4 .k)<|.q 0 rfl<|.n) fun _ a w H=>?_;have H:=H.to [1,2,3,4,5,6,7,8] [_,_,_,_,_,_,_,_] [_,_] rfl rfl;exact k7 _ _ _ (sj h).symm ⟨y7,y6,(H.pick [3,4,0,2,1,5,6,7]).selA [1,0] rfl⟩
  replace h:=h9;clear h9;refine wi H h (fun b3 h=>?_) (fun b3 h=>?_)
  ·have⟨u1,h10,u2,h11,h⟩:=bs2 h;refine wr mx [v1 4 (fun v0=>own Qaj 67 (s1.2.2++[t4.Diff]) v0),v1 8 (fun v0=>own rI 3 (s1.2.1++[s1.1]) v0)] H (fun _=>.q 7 rfl<|.o (QO QqU z2)<|.o (QN (u:=t4.Diff) Qma z0 rfl)<|.o (Qah (R:=Qaj) (us:=[t4.Diff]) underlying62 Qma (.cons z0<|.nil _) rfl (leb rfl))<|.e [] [1] [2] rfl rfl rfl rfl (QaL (R:=Qaj) underlying62 Qma (leb rfl) z3 z0 h10)<|.q 11 rfl<|.q 8 rfl<|.o (Qah (R:=rI) (us:=[s1.1]) ud22 tok3 (.cons z0<|.nil _) rfl (leb rfl))<|.e [] [0] [3] rfl rfl rfl rfl (QaL (R:=rI) ud22 tok3 (leb rfl) z2 z0 h11)<|.ud (f:=fun v=>tv v) 4 rfl [] rfl rfl (Qi z4)<|.ud (f:=fun v=>tv v) 8 rfl [] rfl rfl (Qi z1)<|.n) fun m1 a w H=>?_;have H:=H.to [4,8,9,10,14,15,16,17,18,19] [_,_,_,_,_,_,_,_,_,_] [_,_] rfl rfl;obtain rfl:=sj h;exact J2 (m1 4) (m1 8) _ _ (H.pick [2,3,4,5,6,7,8,9])
  refine wp_skip ?_;obtain rfl:=sj h;exact J2 y5 y4 _ _ ((H.pick [7,6,3,4,5,8,9,10]).selA [1,0] rfl)
 refine wp_exit ?_;exact J0 _ y4 y5 _ _ (ho _ (sj h).symm) (H.pick [4,5,6,7])
def QhU (x0_:Int):Option (Bool):=(some true)
instance QmG:Spc1 prog 31 QhU (fun x0_=>[ti x0_]) tb:=.mk fun {x0_ r} h=>by
 unfold QhU at h
 refine fe func31 ntmps31 fun M0 M w0 a hpl H=>?_
 refine sr mx [] H (fun _=>.o (Qi .k)<|.n) fun _ a w H=>?_
 have H:=H.to [] [] [] rfl rfl
 refine sr mx [] H (fun _=>.o (Qi .k)<|.n) fun _ a w H=>?_
 have H:=H.t1_0 [0]
 exact r0 h (·▸r1 hpl H (.tmp z0 .nil))
def Qgq (k_:Int) (c0_:(List (List Int))):Option (Bool):=(idx c0_ k_).bind fun t0=>(some (!t0.isEmpty))
instance Qp1:Spc2 prog 33 Qgq (fun k_ c0_=>[ti k_,tptr ((rSl (rSn rI)).cs c0_)]) tb:=.mk fun {k_ c0_ r} h=>by
 unfold Qgq at h
 refine fe func33 ntmps33 fun M0 M w0 a hpl H=>?_
 refine sr mx [] H (fun _=>.o (Qi .k)<|.n) fun _ a w H=>?_
 have H:=H.to [1,2] [_,_] [] rfl rfl
 have⟨t0,h0,h⟩:=bs h
 refine sr mx [] H (fun _=>.o (QU tokN68 z1)<|.q 1 rfl<|.o (Qbi ud68 Qhb z1 z0 h0)<|.o (QU Qhb z0)<|.o (Qo8 ud22 z0)<|.o (Qi z0)<|.n) fun _ a w H=>?_
 have H:=H.t1_0 [5]
 exact r0 h (·▸r1 hpl H (.tmp z0 .nil))
def Qbz (k_:Int) (n_:Int) (c0_:(List Int)) (c1_:Bool):Option ((List Int)×Bool):=(idx c0_ k_).bind fun t0=>((if (decide (n_>t0))=true then (setAt c0_ k_ n_).bind fun t1=>(some (t1,true)) else (some (c0_,c1_)))).bind fun p0=>(some (p0.1,p0.2))
instance QfT:SpcS prog 91 (∀{q2:Value} {vh2:Value} {q3:Value} {k_:Int} {n_:Int} {c0_:(List Int)} {c1_:Bool} {r:(List Int)×Bool},Qbz k_ n_ c0_ c1_=some r→FnOk prog 91 [ti k_,ti n_,tv q2,tv q3] [box (rVal.cs vh2) q2,own rI 3 c0_ vh2,box (QaN.cs c1_) q3] (fun _=>[box (rVal.cs vh2) q2,own rI 3 r.1 vh2,box (QaN.cs r.2) q3]) (fun _=>ttup [])):=.mk fun {q2 vh2 q3 k_ n_ c0_ c1_ r} h=>by
 unfold Qbz at h
 refine Fe func91 ntmps91 fun M0 M w0 hpl=>?_
 have⟨_,_,h⟩:=bs h
 refine Qb [1,5,6,7,8,9] ?_
 have⟨p0,h0,h⟩:=bs h
 have J0:To M w0 16 [(2,tv q2),(3,tv q3)] [box (rVal.cs vh2) q2,own rI 3 p0.1 vh2,box (QaN.cs p0.2) q3] (Ret prog f91 M0 [box (rVal.cs vh2) q2,own rI 3 c0_ vh2,box (QaN.cs c1_) q3] w0 (fun _=>[box (rVal.cs vh2) q2,own rI 3 r.1 vh2,box (QaN.cs r.2) q3]) (fun _=>ttup []) .normal):=by
  obtain rfl:=sj h;exact Quo undef [0,1,2] hpl
 replace h:=h0;clear h0;refine Qgp 1 (fun b0=>?_) (fun b0=>?_)
 ·replace h:=QcM b0 h;have⟨t0,_,h⟩:=bs h;refine QaY [v0 (own rI 3 t0 vh2),v0 (box (QaN.cs true) q3)] [5,6] [0,4,8,9] fun m0=>?_;obtain rfl:=sj h;exact Q3 J0 [2,3]
 replace h:=QcN b0 h;refine QE ?_;obtain rfl:=sj h;exact Q3 J0 [4,5]
def Qgr (l_:Qe) (low_:(List Int)):Option (Int×Int×Bool):=((if (decide (l_.B≥0))=true then (idx low_ l_.B).bind fun t0=>(some t0) else (some (1:Int)))).bind fun p0=>(if l_.Least=true then (some (l_.A,(i64.wrap (l_.Mul * p0)),true)) else (if ((decide (l_.B<0))||(l_.Mul==0))=true then (idx low_ l_.A).bind fun t1=>(some (l_.A,(0:Int),(decide (t1≤l_.Mul)))) else (idx low_ l_.A).bind fun t2=>(nz l_.Mul).bind fun _=>(some (l_.B,(i64.wrap (Int.tdiv (i64.wrap ((i64.wrap (t2+l_.Mul)) - 1)) l_.Mul)),true))))
instance Qp2:Spc2 prog 92 Qgr (fun l_ low_=>[Qr.ty l_,tsl rI low_]) (fun r=>ttup [ti r.1,ti r.2.1,tb r.2.2]):=.mk fun {l_ low_ r} h=>by
 unfold Qgr at h
 refine Fe func92 ntmps92 fun M0 M w0 hpl=>?_
 refine Qb [0,5] ?_
 refine Qb [0,1,2] ?_
 refine Qk fun K0 k0=>?_
 refine Qb [2,3,4,5] ?_
 have⟨p0,h0,h⟩:=bs h
 have J0:To M w0 58 [(7,ti p0),(2,tptr (Qr.cs l_)),(1,tsl rI low_)] [] K0:=by
  refine k0 ?_;refine Qk fun _ k1=>?_;refine Qs ?_;refine Qb [2,3,4,5] ?_;refine Qx h (fun _ h=>?_) (fun _ h=>?_)
  ·refine Qb [6,7,8] ?_;exact Qu h (·▸Qq hpl)
  refine Qb [8,11,12] ?_;refine Qx h (fun _ h=>?_) (fun _ h=>?_)
  ·have⟨_,_,h⟩:=bs h;refine Qb [10,11,12] ?_;exact Qu h (·▸Qq hpl)
  refine QE ?_;refine k1 ?_;have⟨_,_,_,_,h⟩:=bs2 h;refine Qb [14,15,16] ?_;exact Qu h (·▸Qq hpl)
 replace h:=h0;clear h0;refine Qx h (fun _ h=>?_) (fun _ h=>?_)
 ·have⟨_,_,h⟩:=bs h;refine Q4 [5,7,8] ?_;obtain rfl:=sj h;exact Q3 J0 [0,1,2]
 refine QE ?_;obtain rfl:=sj h;exact Q3 J0 [1,2,3]
def QaD (s_:QaX) (limits_:(Int→Option Bool)) (empty_:(Int→Option Bool)):Option (Bool):=(mk ((s_.x).Kinds.length:Int) (0:Int)).bind fun t0=>(Ql (fun (s0:List Int)=>((Ql (fun (s1:Int×List Int×Bool)=>((if (decide (s1.1<(s_.limits.length:Int)))=true then (jn (fun (p0:List Int×Bool)=>(some (.inl ((i64.wrap (s1.1+1)),p0.1,p0.2)))) fun j420=>(idx s_.limits s1.1).bind fun t1=>(limits_ s1.1).bind fun t2=>(if (!t2)=true then (j420 (s1.2.1,s1.2.2)) else (Qgr t1 s1.2.1).bind fun t3=>(if (!t3.2.2)=true then (some (.inr (.inr false))) else (Qbz t3.1 t3.2.1 s1.2.1 s1.2.2).bind fun t4=>(j420 (t4.1,t4.2))))) else (some (.inr (.inl (s1.2.1,s1.2.2))))):Option ((Int×List Int×Bool)⊕((List Int×Bool)⊕(Bool))))) ((0:Int),s0,false)).bind fun e0=>(match e0 with | .inl p1=>(Ql (fun (s2:Int×List Int×Bool)=>((if (decide (s2.1<(s_.refs.length:Int)))=true then (idx s_.refs s2.1).bind fun t5=>(idx s2.2.1 t5.a0).bind fun t6=>(Qbz t5.a1 (imin (1:Int) t6) s2.2.1 s2.2.2).bind fun t7=>(some (.inl ((i64.wrap (s2.1+1)),t7.1,t7.2))) else (some (.inr (s2.2.1,s2.2.2)))):Option ((Int×List Int×Bool)⊕((List Int×Bool))))) ((0:Int),p1.1,p1.2)).bind fun p2=>(Ql (fun (s3:Int)=>((if (decide (s3<(p2.1.length:Int)))=true then (idx p2.1 s3).bind fun t8=>(opt (((decide (t8>65536))==false)&&((decide (t8>0))==true)) (empty_ s3) default).bind fun t9=>(if ((decide (t8>65536))||((decide (t8>0))&&t9))=true then (some (.inr (.inr false))) else (some (.inl (i64.wrap (s3+1))))) else (some (.inr (.inl ())))):Option ((Int)⊕((Unit)⊕(Bool))))) (0:Int)).bind fun e1=>(match e1 with | .inl _=>(if (!p2.2)=true then (some (.inr (.inl ()))) else (some (.inl p2.1))) | .inr p3=>(some (.inr (.inr p3)))) | .inr p4=>(some (.inr (.inr p4)))):Option ((List Int)⊕((Unit)⊕(Bool))))) t0).bind fun e2=>(match e2 with | .inl _=>(some true) | .inr p5=>(some p5))
instance Qgs:Spc3 prog 32 QaD (fun s_ limits_ empty_=>[tptr (QS.cs s_),rF81.ty limits_,rF81.ty empty_]) tb:=.mk fun {s_ limits_ empty_ r} h=>by
 unfold QaD at h
 refine Fe func32 ntmps32 fun M0 M w0 hpl=>?_
 refine Qb [1,2,3] ?_
 refine tScope ?_
 have⟨t0,h0,h⟩:=bs h
 intro a w H
 refine sr mx [v1 6 (fun v0=>own rI 3 t0 v0),v1 7 (fun v0=>box (rVal.cs nilV) v0),v2 6 7 (fun v0 v1=>box (rVal.cs v0) v1)] H (fun _=>.q 0 rfl<|.o (Qf7 z0)<|.o (QO Qow z0)<|.o (QO QdE z0)<|.o (QN (u:=(s_.x).Kinds) Qkm z0 rfl)<|.o (Qcu ud29 z0)<|.m [] [0] rfl rfl rfl (QgH (R:=rI) ud22 tok3 zok3 (leb rfl) z0 z0 h0)<|.m [] [1] rfl rfl rfl (Qe2 Qau)<|.e [0] [1] [2] rfl rfl rfl rfl (Qc1 (R:=rI) (e:=3) (Ts:=(rVal.cs nilV)) Qau z0 z1 (leb rfl))<|.n) fun m0 a w H=>?_
 have H:=H.t5_2 [6,7,8,9,10]
 refine Q2 H ?_
 refine Qk fun _ k0=>?_
 refine tLabel ?_
 refine k0 ?_
 refine Qk fun K0 k1=>?_
 have⟨e0,h1,h⟩:=bs h
 have J0:∀(p0:Unit),(.inl p0)=e0→To M w0 96 [] [] K0:=by
  intro p0 he;subst he;simp only at h;refine k1 ?_;refine Qb [0] ?_;exact Qu h (·▸Qq hpl)
 have J1:∀(p1:Bool),(.inr p1)=e0→To M w0 96 [(6,tb p1)] [] (Ret prog f32 M0 [] w0 (fun _=>[]) (fun _=>tb r) .ret):=by
  intro p1 he;subst he;simp only at h;obtain rfl:=sj h;exact Qq hpl
 refine Qs ?_;refine QaK h1 (fun (s0:List Int)=>[(7,tv (m0 7)),(0,tptr (QS.cs s_)),(1,rF81.ty limits_),(2,rF81.ty empty_)]) (fun (s0:List Int)=>[own rI 3 s0 (m0 6),box (rVal.cs (m0 6)) (m0 7)]) [1,2,3,4] ?_;clear h;intro s0 o K1 h ho k2;refine Qs ?_;refine QV [v1 0 (fun v0=>box (QaN.cs false) v0),v1 0 (fun v0=>box (QaN.cs false) v0)] [1,2] [0,1,2,3,4] fun m1=>?_;refine Qb [1,2,3,4,5,6] ?_;refine Qk fun K2 k3=>?_;refine Qb [3,4,5,6,7,8,9,10,11] ?_;have⟨e1,h2,h⟩:=bs h;have J2:∀(p2:List Int×Bool),(.inl p2)=e1→To M w0 96 [(9,QaO 91 [tv (m0 7),tv (m1 0)]),(8,tv (m1 0)),(7,tv (m0 7)),(0,tptr (QS.cs s_)),(1,rF81.ty limits_),(2,rF81.ty empty_)] [own rI 3 p2.1 (m0 6),box (rVal.cs (m0 6)) (m0 7),box (QaN.cs p2.2) (m1 0)] K2:=by
  intro p2 he;subst he;simp only at h;refine k3 ?_;refine Qk fun K3 k4=>?_;refine Qb [3,4,5,6,7,8,9,10,11] ?_;have⟨e2,h3,h⟩:=bs h;have J3:∀(p3:List Int×Bool),p3=e2→To M w0 96 [(8,tv (m1 0)),(7,tv (m0 7)),(0,tptr (QS.cs s_)),(1,rF81.ty limits_),(2,rF81.ty empty_)] [own rI 3 p3.1 (m0 6),box (rVal.cs (m0 6)) (m0 7),box (QaN.cs p3.2) (m1 0)] K3:=by
   intro p3 he;subst he;refine k4 ?_;refine Qk fun K4 k5=>?_;refine Qb [0,1,2,3,4,5,6,7] ?_;have⟨e3,h4,h⟩:=bs h;have J4:∀(p4:Unit),(.inl p4)=e3→To M w0 96 [(8,tv (m1 0)),(7,tv (m0 7)),(0,tptr (QS.cs s_)),(1,rF81.ty limits_),(2,rF81.ty empty_)] [own rI 3 p3.1 (m0 6),box (rVal.cs (m0 6)) (m0 7),box (QaN.cs p3.2) (m1 0)] K4:=by
    intro p4 he;subst he;simp only at h;refine k5 ?_;refine Qb [1,3,4,5,6] ?_;refine Qaa (fun _ _ H=>H.selA [0,1] rfl) ?_;refine Qx h (fun _ h=>?_) (fun _ h=>?_)
    ·refine Q7 ?_;refine Qar (fun _ _ H=>(H.pick []).selA [] rfl) ?_;exact QM J0 (ho _ (sj h).symm) []
    refine QE ?_;exact QM k2 ((sj h).symm) [1,2,3,4]
   have J5:∀(p5:Bool),(.inr p5)=e3→To M w0 96 [(6,tb p5)] [] (Ret prog f32 M0 [] w0 (fun _=>[]) (fun _=>tb r) .ret):=by
    intro p5 he;subst he;simp only at h;exact QM J1 (ho _ (sj h).symm) [0]
   refine Qs ?_;refine QaK h4 (fun (s1:Int)=>[(75,tv (m0 6)),(76,ti (p3.1.length:Int)),(77,ti s1),(8,tv (m1 0)),(7,tv (m0 7)),(0,tptr (QS.cs s_)),(1,rF81.ty limits_),(2,rF81.ty empty_)]) (fun (s1:Int)=>[own rI 3 p3.1 (m0 6),box (rVal.cs (m0 6)) (m0 7),box (QaN.cs p3.2) (m1 0)]) [0,1,2,3,4,5,6,7] ?_;clear h;intro s1 o K5 h ho k6;refine Qb [0,1,2,3,4,5,6,7,8] ?_;refine Qk fun _ k7=>?_;refine Qx h (fun _ h=>?_) (fun _ h=>?_)
   ·refine QE ?_;refine k7 ?_;refine Qk fun _ k8=>?_;refine Qs ?_;have⟨_,_,h⟩:=bs h;refine Qb [3,4,6,7,8,9,10,11,12,13] ?_;have⟨_,_,h⟩:=bs h;refine Qb [10,13,14,15,16,17,18,19,20] ?_;refine Qx h (fun _ h=>?_) (fun _ h=>?_)
    ·refine Qb [0,2] ?_;refine Qaa (fun _ _ H=>H.selA [0] rfl) ?_;refine QaV ?_;refine Qar (fun _ _ H=>(H.pick [0]).selA [] rfl) ?_;exact QM J5 (ho _ (sj h).symm) [0]
    refine QE ?_;refine k8 ?_;refine Q4 [1,3,4,5,6,7,8,9] ?_;exact QM k6 ((sj h).symm) [1,2,0,3,4,5,6,7]
   refine Q7 ?_;exact QM J4 (ho _ (sj h).symm) [4,5,6,7,8]
  refine Qs ?_;refine QaK h3 (fun (s2:Int×List Int×Bool)=>[(58,tsl Qal s_.refs),(59,ti (s_.refs.length:Int)),(60,ti s2.1),(9,QaO 91 [tv (m0 7),tv (m1 0)]),(8,tv (m1 0)),(7,tv (m0 7)),(0,tptr (QS.cs s_)),(1,rF81.ty limits_),(2,rF81.ty empty_)]) (fun (s2:Int×List Int×Bool)=>[own rI 3 s2.2.1 (m0 6),box (rVal.cs (m0 6)) (m0 7),box (QaN.cs s2.2.2) (m1 0)]) [0,1,2,3,4,5,6,7,8] ?_;clear h;intro s2 o K6 h ho k9;refine Qb [0,1,2,3,4,5,6,7,8,9] ?_;refine Qk fun _ k10=>?_;refine Qx h (fun _ h=>?_) (fun _ h=>?_)
  ·refine QE ?_;refine k10 ?_;refine Qk fun _ k11=>?_;refine Qs ?_;have⟨t1,_,h⟩:=bs h;refine QV [v1 2 (fun v0=>box (Qal.cs (QK.mk (0:Int) (0:Int))) v0),v1 2 (fun v0=>box (Qal.cs t1) v0)] [3,4] [2,4,5,6,7,8,9,10,11,12] fun m2=>?_;refine Qaa (fun _ _ H=>(((H.selA [3,0,1,2] rfl).shareB 0 rfl).add 0 rfl (fun _ _ _ h=>h.2)).pick [0,3,4,5,6,7,8,9,10,11]) ?_;have⟨_,h5,t2,h6,h⟩:=bs2 h;intro a w H;refine wr mx [v0 (box (rVal.cs (m0 6)) (m0 7)),v0 (own rI 3 t2.1 (m0 6)),v0 (box (QaN.cs t2.2) (m1 0))] H (fun _=>.q 4 rfl<|.o (QjG 1 rfl Qqg tok3 z1 .k (by decide))<|.o (QN (u:=t1.a1) tok3 z0 rfl)<|.u [1] rfl rfl (Qa5 Qau z9)<|.o (QjG 0 rfl Qqg tok3 z4 .k (by decide))<|.o (QN (u:=t1.a0) tok3 z0 rfl)<|.u [0] rfl rfl (QaQ ud22 tok3 z2 z0 h5)<|.u [0] rfl rfl (Qdh tok3 z0 h5)<|.o (QjB .k z0)<|.e [] [1,0,2] [3,4,5] rfl rfl rfl rfl (QfI Qq4 (QfT.ok h6) z8 (.cons (.of z6)<|.cons (.of z0)<|.nil))<|.n) fun _ a w H=>?_;have H:=H.to [3,11,12,13,14,15,16,17,18,19] [_,_,_,_,_,_,_,_,_,_] [_,_,_] rfl rfl;refine QbD H ?_;refine k11 ?_;refine Q4 [1,2,3,4,5,6,7,8,9,10] ?_;refine Qar (fun _ _ H=>(H.pick [2,3,0,4,5,6,7,8,9]).selA [1,0,2] rfl) ?_;exact QM k9 ((sj h).symm) [0,1,2,3,4,5,6,7,8]
  refine Q7 ?_;exact QM J3 (ho _ (sj h).symm) [5,6,7,8,9]
 have J6:∀(p6:Bool),(.inr p6)=e1→To M w0 96 [(6,tb p6)] [] (Ret prog f32 M0 [] w0 (fun _=>[]) (fun _=>tb r) .ret):=by
  intro p6 he;subst he;simp only at h;exact QM J1 (ho _ (sj h).symm) [0]
 refine Qs ?_;refine QaK h2 (fun (s3:Int×List Int×Bool)=>[(30,tsl Qr s_.limits),(31,ti (s_.limits.length:Int)),(32,ti s3.1),(9,QaO 91 [tv (m0 7),tv (m1 0)]),(8,tv (m1 0)),(7,tv (m0 7)),(0,tptr (QS.cs s_)),(1,rF81.ty limits_),(2,rF81.ty empty_)]) (fun (s3:Int×List Int×Bool)=>[own rI 3 s3.2.1 (m0 6),box (rVal.cs (m0 6)) (m0 7),box (QaN.cs s3.2.2) (m1 0)]) [0,1,2,3,4,5,6,7,8] ?_;clear h;intro s3 o K7 h ho k12;refine Qb [0,1,2,3,4,5,6,7,8,9] ?_;refine Qk fun _ k13=>?_;refine Qx h (fun _ h=>?_) (fun _ h=>?_)
 ·refine QE ?_;refine k13 ?_;refine Qk fun K8 k14=>?_;obtain⟨j420,hj420,h⟩:=Qz7 h;have J7:∀(p7:List Int×Bool),j420 p7=some o→To M w0 96 [(30,tsl Qr s_.limits),(31,ti (s_.limits.length:Int)),(32,ti s3.1),(9,QaO 91 [tv (m0 7),tv (m1 0)]),(8,tv (m1 0)),(7,tv (m0 7)),(0,tptr (QS.cs s_)),(1,rF81.ty limits_),(2,rF81.ty empty_)] [own rI 3 p7.1 (m0 6),box (rVal.cs (m0 6)) (m0 7),box (QaN.cs p7.2) (m1 0)] K8:=by
   intro p7 h;rw[hj420] at h;clear hj420;refine k14 ?_;refine Q4 [1,2,3,4,5,6,7,8,9] ?_;exact QM k12 ((sj h).symm) [1,2,0,3,4,5,6,7,8]
  clear hj420;refine Qs ?_;have⟨t3,_,h⟩:=bs h;refine QV [v1 3 (fun v0=>box (Qr.cs zz6) v0),v1 3 (fun v0=>box (Qr.cs t3) v0)] [4,6] [3,4,6,7,8,9,10,11,12,13,14] fun m3=>?_;refine Qaa (fun _ _ H=>(((H.selA [3,0,1,2] rfl).shareB 0 rfl).add 0 rfl (fun _ _ _ h=>h.2)).pick [0,3,4,5,6,7,8,9,10,11,12]) ?_;have⟨_,_,h⟩:=bs h;refine tIfs h [3,4,6,7,8,9,10,11,12,13,14] (fun _ h=>?_) (fun _ h=>?_)
  ·refine Q7 ?_;exact QM J7 h [2,3,4,5,6,7,8,9,10]
  have⟨t4,h7,h⟩:=bs h;intro a w H;refine sr mx [] H (fun _=>.o (QU QnE z1)<|.u [1] rfl rfl (Qa5 Qau z8)<|.u [0] rfl rfl (Qdy [own rI 3 s3.2.1 (m0 6)] Qwg (Qp2.ok h7) (.cons (.of z1)<|.cons (.own z0 (.head _))<|.nil) (fun _=>(QqB (Qld Qcd (Qld Qcd (Qld Qcd QxX))))) (fun _=>Qgl (x:=undef)))<|.q 0 rfl<|.o (Qac z0 rfl)<|.o (Qac z1 rfl)<|.o (Qac z2 rfl)<|.o (Qi z2)<|.o (Qi z2)<|.o (Qi z2)<|.n) fun _ a w H=>?_;have H:=H.to [1,7,8,9,12,13,14,15,16,17,18,19,20] [_,_,_,_,_,_,_,_,_,_,_,_,_] [_,_,_] rfl rfl;refine Q2 H ?_;refine tIfs h [1,2,3,4,6,7,8,9,10,11,12,13,14] (fun _ h=>?_) (fun _ h=>?_)
  ·refine Qb [0,2] ?_;refine Qaa (fun _ _ H=>H.selA [0] rfl) ?_;refine QaV ?_;refine Qar (fun _ _ H=>(H.pick [0]).selA [] rfl) ?_;exact QM J6 (ho _ (sj h).symm) [0]
  have⟨t5,h8,h⟩:=bs h;intro a w H;refine wr mx [v0 (box (rVal.cs (m0 6)) (m0 7)),v0 (own rI 3 t5.1 (m0 6)),v0 (box (QaN.cs t5.2) (m1 0))] H (fun _=>.q 7 rfl<|.q 3 rfl<|.q 5 rfl<|.e [] [1,0,2] [3,4,5] rfl rfl rfl rfl (QfI Qq4 (QfT.ok h8) z2 (.cons (.of z1)<|.cons (.of z0)<|.nil))<|.n) fun _ a w H=>?_;have H:=H.to [5,8,9,10,11,12,13,14,15,16] [_,_,_,_,_,_,_,_,_,_] [_,_,_] rfl rfl;refine QbD H ?_;refine Qar (fun _ _ H=>(H.pick [1,2,3,4,5,6,7,8,9]).selA [1,0,2] rfl) ?_;exact QM J7 h [0,1,2,3,4,5,6,7,8]
 refine Q7 ?_;exact QM J2 (ho _ (sj h).symm) [4,5,6,7,8,9]
def Qh9 (x_:Int):Option (Int):=(idx ([0,1,1,2,1,2,2,3,1,2,2,3,2,3,3,4,1,2,2,3,2,3,3,4,2,3,3,4,3,4,4,5,1,2,2,3,2,3,3,4,2,3,3,4,3,4,4,5,2,3,3,4,3,4,4,5,3,4,4,5,4,5,5,6,1,2,2,3,2,3,3,4,2,3,3,4,3,4,4,5,2,3,3,4,3,4,4,5,3,4,4,5,4,5,5,6,2,3,3,4,3,4,4,5,3,4,4,5,4,5,5,6,3,4,4,5,4,5,5,6,4,5,5,6,5,6,6,7,1,2,2,3,2,3,3,4,2,3,3,4,3,4,4,5,2,3,3,4,3,4,4,5,3,4,4,5,4,5,5,6,2,3,3,4,3,4,4,5,3,4,4,5,4,5,5,6,3,4,4,5,4,5,5,6,4,5,5,6,5,6,6,7,2,3,3,4,3,4,4,5,3,4,4,5,4,5,5,6,3,4,4,5,4,5,5,6,4,5,5,6,5,6,6,7,3,4,4,5,4,5,5,6,4,5,5,6,5,6,6,7,4,5,5,6,5,6,6,7,5,6,6,7,6,7,7,8]:Str) (ishr .u32 x_ (24:Int))).bind fun t0=>(idx ([0,1,1,2,1,2,2,3,1,2,2,3,2,3,3,4,1,2,2,3,2,3,3,4,2,3,3,4,3,4,4,5,1,2,2,3,2,3,3,4,2,3,3,4,3,4,4,5,2,3,3,4,3,4,4,5,3,4,4,5,4,5,5,6,1,2,2,3,2,3,3,4,2,3,3,4,3,4,4,5,2,3,3,4,3,4,4,5,3,4,4,5,4,5,5,6,2,3,3,4,3,4,4,5,3,4,4,5,4,5,5,6,3,4,4,5,4,5,5,6,4,5,5,6,5,6,6,7,1,2,2,3,2,3,3,4,2,3,3,4,3,4,4,5,2,3,3,4,3,4,4,5,3,4,4,5,4,5,5,6,2,3,3,4,3,4,4,5,3,4,4,5,4,5,5,6,3,4,4,5,4,5,5,6,4,5,5,6,5,6,6,7,2,3,3,4,3,4,4,5,3,4,4,5,4,5,5,6,3,4,4,5,4,5,5,6,4,5,5,6,5,6,6,7,3,4,4,5,4,5,5,6,4,5,5,6,5,6,6,7,4,5,5,6,5,6,6,7,5,6,6,7,6,7,7,8]:Str) (iand .u32 (ishr .u32 x_ (16:Int)) (255:Int))).bind fun t1=>(idx ([0,1,1,2,1,2,2,3,1,2,2,3,2,3,3,4,1,2,2,3,2,3,3,4,2,3,3,4,3,4,4,5,1,2,2,3,2,3,3,4,2,3,3,4,3,4,4,5,2,3,3,4,3,4,4,5,3,4,4,5,4,5,5,6,1,2,2,3,2,3,3,4,2,3,3,4,3,4,4,5,2,3,3,4,3,4,4,5,3,4,4,5,4,5,5,6,2,3,3,4,3,4,4,5,3,4,4,5,4,5,5,6,3,4,4,5,4,5,5,6,4,5,5,6,5,6,6,7,1,2,2,3,2,3,3,4,2,3,3,4,3,4,4,5,2,3,3,4,3,4,4,5,3,4,4,5,4,5,5,6,2,3,3,4,3,4,4,5,3,4,4,5,4,5,5,6,3,4,4,5,4,5,5,6,4,5,5,6,5,6,6,7,2,3,3,4,3,4,4,5,3,4,4,5,4,5,5,6,3,4,4,5,4,5,5,6,4,5,5,6,5,6,6,7,3,4,4,5,4,5,5,6,4,5,5,6,5,6,6,7,4,5,5,6,5,6,6,7,5,6,6,7,6,7,7,8]:Str) (iand .u32 (ishr .u32 x_ (8:Int)) (255:Int))).bind fun t2=>(idx ([0,1,1,2,1,2,2,3,1,2,2,3,2,3,3,4,1,2,2,3,2,3,3,4,2,3,3,4,3,4,4,5,1,2,2,3,2,3,3,4,2,3,3,4,3,4,4,5,2,3,3,4,3,4,4,5,3,4,4,5,4,5,5,6,1,2,2,3,2,3,3,4,2,3,3,4,3,4,4,5,2,3,3,4,3,4,4,5,3,4,4,5,4,5,5,6,2,3,3,4,3,4,4,5,3,4,4,5,4,5,5,6,3,4,4,5,4,5,5,6,4,5,5,6,5,6,6,7,1,2,2,3,2,3,3,4,2,3,3,4,3,4,4,5,2,3,3,4,3,4,4,5,3,4,4,5,4,5,5,6,2,3,3,4,3,4,4,5,3,4,4,5,4,5,5,6,3,4,4,5,4,5,5,6,4,5,5,6,5,6,6,7,2,3,3,4,3,4,4,5,3,4,4,5,4,5,5,6,3,4,4,5,4,5,5,6,4,5,5,6,5,6,6,7,3,4,4,5,4,5,5,6,4,5,5,6,5,6,6,7,4,5,5,6,5,6,6,7,5,6,6,7,6,7,7,8]:Str) (iand .u32 x_ (255:Int))).bind fun t3=>(some (i64.wrap (u8.wrap ((u8.wrap ((u8.wrap ((t0.toNat:Int)+(t1.toNat:Int)))+(t2.toNat:Int)))+(t3.toNat:Int)))))
instance Qu9:Spc1 prog 94 Qh9 (fun x_=>[tv (.int .u32 x_)]) ti:=.mk fun {x_ r} h=>by
 unfold Qh9 at h
 refine Fe func94 ntmps94 fun M0 M w0 hpl=>?_
 refine Qb [1] ?_
 have⟨t0,h0,t1,h1,t2,h2,t3,h3,h⟩:=bs4 h
 intro a w H
 refine sr mx [] H (fun _=>.q 0 rfl<|.o (QbY z0 .k (by decide))<|.o (QjF ud9 .k z0 h0)<|.q 3 rfl<|.o (QbY z0 .k (by decide))<|.o (QcI z0 .k)<|.o (QjF ud9 .k z0 h1)<|.o (Qao z4 z0)<|.q 8 rfl<|.o (QbY z0 .k (by decide))<|.o (QcI z0 .k)<|.o (QjF ud9 .k z0 h2)<|.o (Qao z4 z0)<|.q 13 rfl<|.o (QcI z0 .k)<|.o (QjF ud9 .k z0 h3)<|.o (Qao z3 z0)<|.o (Qf5 underlying5 ud3 z0)<|.o (Qi z0)<|.n) fun _ a w H=>?_
 have H:=H.t1_0 [18]
 refine Q2 H ?_
 exact Qu h (·▸Qq hpl)
def Qez (x_:Int):Option (Int):=(some (iand .i64 (i64.wrap (u64.wrap ((u64.wrap ((u64.wrap ((iand .u64 (u64.wrap ((ishr .u64 (u64.wrap ((iand .u64 (ishr .u64 (u64.wrap ((iand .u64 (ishr .u64 x_ (1:Int)) (6148914691236517205:Int))+(iand .u64 x_ (6148914691236517205:Int)))) (2:Int)) (3689348814741910323:Int))+(iand .u64 (u64.wrap ((iand .u64 (ishr .u64 x_ (1:Int)) (6148914691236517205:Int))+(iand .u64 x_ (6148914691236517205:Int)))) (3689348814741910323:Int)))) (4:Int))+(u64.wrap ((iand .u64 (ishr .u64 (u64.wrap ((iand .u64 (ishr .u64 x_ (1:Int)) (6148914691236517205:Int))+(iand .u64 x_ (6148914691236517205:Int)))) (2:Int)) (3689348814741910323:Int))+(iand .u64 (u64.wrap ((iand .u64 (ishr .u64 x_ (1:Int)) (6148914691236517205:Int))+(iand .u64 x_ (6148914691236517205:Int)))) (3689348814741910323:Int)))))) (1085102592571150095:Int))+(ishr .u64 (iand .u64 (u64.wrap ((ishr .u64 (u64.wrap ((iand .u64 (ishr .u64 (u64.wrap ((iand .u64 (ishr .u64 x_ (1:Int)) (6148914691236517205:Int))+(iand .u64 x_ (6148914691236517205:Int)))) (2:Int)) (3689348814741910323:Int))+(iand .u64 (u64.wrap ((iand .u64 (ishr .u64 x_ (1:Int)) (6148914691236517205:Int))+(iand .u64 x_ (6148914691236517205:Int)))) (3689348814741910323:Int)))) (4:Int))+(u64.wrap ((iand .u64 (ishr .u64 (u64.wrap ((iand .u64 (ishr .u64 x_ (1:Int)) (6148914691236517205:Int))+(iand .u64 x_ (6148914691236517205:Int)))) (2:Int)) (3689348814741910323:Int))+(iand .u64 (u64.wrap ((iand .u64 (ishr .u64 x_ (1:Int)) (6148914691236517205:Int))+(iand .u64 x_ (6148914691236517205:Int)))) (3689348814741910323:Int)))))) (1085102592571150095:Int)) (8:Int))))+(ishr .u64 (u64.wrap ((iand .u64 (u64.wrap ((ishr .u64 (u64.wrap ((iand .u64 (ishr .u64 (u64.wrap ((iand .u64 (ishr .u64 x_ (1:Int)) (6148914691236517205:Int))+(iand .u64 x_ (6148914691236517205:Int)))) (2:Int)) (3689348814741910323:Int))+(iand .u64 (u64.wrap ((iand .u64 (ishr .u64 x_ (1:Int)) (6148914691236517205:Int))+(iand .u64 x_ (6148914691236517205:Int)))) (3689348814741910323:Int)))) (4:Int))+(u64.wrap ((iand .u64 (ishr .u64 (u64.wrap ((iand .u64 (ishr .u64 x_ (1:Int)) (6148914691236517205:Int))+(iand .u64 x_ (6148914691236517205:Int)))) (2:Int)) (3689348814741910323:Int))+(iand .u64 (u64.wrap ((iand .u64 (ishr .u64 x_ (1:Int)) (6148914691236517205:Int))+(iand .u64 x_ (6148914691236517205:Int)))) (3689348814741910323:Int)))))) (1085102592571150095:Int))+(ishr .u64 (iand .u64 (u64.wrap ((ishr .u64 (u64.wrap ((iand .u64 (ishr .u64 (u64.wrap ((iand .u64 (ishr .u64 x_ (1:Int)) (6148914691236517205:Int))+(iand .u64 x_ (6148914691236517205:Int)))) (2:Int)) (3689348814741910323:Int))+(iand .u64 (u64.wrap ((iand .u64 (ishr .u64 x_ (1:Int)) (6148914691236517205:Int))+(iand .u64 x_ (6148914691236517205:Int)))) (3689348814741910323:Int)))) (4:Int))+(u64.wrap ((iand .u64 (ishr .u64 (u64.wrap ((iand .u64 (ishr .u64 x_ (1:Int)) (6148914691236517205:Int))+(iand .u64 x_ (6148914691236517205:Int)))) (2:Int)) (3689348814741910323:Int))+(iand .u64 (u64.wrap ((iand .u64 (ishr .u64 x_ (1:Int)) (6148914691236517205:Int))+(iand .u64 x_ (6148914691236517205:Int)))) (3689348814741910323:Int)))))) (1085102592571150095:Int)) (8:Int)))) (16:Int))))+(ishr .u64 (u64.wrap ((u64.wrap ((iand .u64 (u64.wrap ((ishr .u64 (u64.wrap ((iand .u64 (ishr .u64 (u64.wrap ((iand .u64 (ishr .u64 x_ (1:Int)) (6148914691236517205:Int))+(iand .u64 x_ (6148914691236517205:Int)))) (2:Int)) (3689348814741910323:Int))+(iand .u64 (u64.wrap ((iand .u64 (ishr .u64 x_ (1:Int)) (6148914691236517205:Int))+(iand .u64 x_ (6148914691236517205:Int)))) (3689348814741910323:Int)))) (4:Int))+(u64.wrap ((iand .u64 (ishr .u64 (u64.wrap ((iand .u64 (ishr .u64 x_ (1:Int)) (6148914691236517205:Int))+(iand .u64 x_ (6148914691236517205:Int)))) (2:Int)) (3689348814741910323:Int))+(iand .u64 (u64.wrap ((iand .u64 (ishr .u64 x_ (1:Int)) (6148914691236517205:Int))+(iand .u64 x_ (6148914691236517205:Int)))) (3689348814741910323:Int)))))) (1085102592571150095:Int))+(ishr .u64 (iand .u64 (u64.wrap ((ishr .u64 (u64.wrap ((iand .u64 (ishr .u64 (u64.wrap ((iand .u64 (ishr .u64 x_ (1:Int)) (6148914691236517205:Int))+(iand .u64 x_ (6148914691236517205:Int)))) (2:Int)) (3689348814741910323:Int))+(iand .u64 (u64.wrap ((iand .u64 (ishr .u64 x_ (1:Int)) (6148914691236517205:Int))+(iand .u64 x_ (6148914691236517205:Int)))) (3689348814741910323:Int)))) (4:Int))+(u64.wrap ((iand .u64 (ishr .u64 (u64.wrap ((iand .u64 (ishr .u64 x_ (1:Int)) (6148914691236517205:Int))+(iand .u64 x_ (6148914691236517205:Int)))) (2:Int)) (3689348814741910323:Int))+(iand .u64 (u64.wrap ((iand .u64 (ishr .u64 x_ (1:Int)) (6148914691236517205:Int))+(iand .u64 x_ (6148914691236517205:Int)))) (3689348814741910323:Int)))))) (1085102592571150095:Int)) (8:Int))))+(ishr .u64 (u64.wrap ((iand .u64 (u64.wrap ((ishr .u64 (u64.wrap ((iand .u64 (ishr .u64 (u64.wrap ((iand .u64 (ishr .u64 x_ (1:Int)) (6148914691236517205:Int))+(iand .u64 x_ (6148914691236517205:Int)))) (2:Int)) (3689348814741910323:Int))+(iand .u64 (u64.wrap ((iand .u64 (ishr .u64 x_ (1:Int)) (6148914691236517205:Int))+(iand .u64 x_ (6148914691236517205:Int)))) (3689348814741910323:Int)))) (4:Int))+(u64.wrap ((iand .u64 (ishr .u64 (u64.wrap ((iand .u64 (ishr .u64 x_ (1:Int)) (6148914691236517205:Int))+(iand .u64 x_ (6148914691236517205:Int)))) (2:Int)) (3689348814741910323:Int))+(iand .u64 (u64.wrap ((iand .u64 (ishr .u64 x_ (1:Int)) (6148914691236517205:Int))+(iand .u64 x_ (6148914691236517205:Int)))) (3689348814741910323:Int)))))) (1085102592571150095:Int))+(ishr .u64 (iand .u64 (u64.wrap ((ishr .u64 (u64.wrap ((iand .u64 (ishr .u64 (u64.wrap ((iand .u64 (ishr .u64 x_ (1:Int)) (6148914691236517205:Int))+(iand .u64 x_ (6148914691236517205:Int)))) (2:Int)) (3689348814741910323:Int))+(iand .u64 (u64.wrap ((iand .u64 (ishr .u64 x_ (1:Int)) (6148914691236517205:Int))+(iand .u64 x_ (6148914691236517205:Int)))) (3689348814741910323:Int)))) (4:Int))+(u64.wrap ((iand .u64 (ishr .u64 (u64.wrap ((iand .u64 (ishr .u64 x_ (1:Int)) (6148914691236517205:Int))+(iand .u64 x_ (6148914691236517205:Int)))) (2:Int)) (3689348814741910323:Int))+(iand .u64 (u64.wrap ((iand .u64 (ishr .u64 x_ (1:Int)) (6148914691236517205:Int))+(iand .u64 x_ (6148914691236517205:Int)))) (3689348814741910323:Int)))))) (1085102592571150095:Int)) (8:Int)))) (16:Int)))) (32:Int))))) (127:Int)))
instance Qva:Spc1 prog 95 Qez (fun x_=>[tv (.int .u64 x_)]) ti:=.mk fun {x_ r} h=>by
 unfold Qez at h
 refine Fe func95 ntmps95 fun M0 M w0 hpl=>?_
 refine Qb [1] ?_
 intro a w H
 refine sr mx [] H (fun _=>.q 0 rfl<|.o (QbY z0 .k (by decide))<|.o (QcI z0 .k)<|.q 3 rfl<|.o (QcI z0 .k)<|.o (Qao z2 z0)<|.o (Qi z0)<|.n) fun _ a w H=>?_
 have H:=H.t1_0 [6]
 refine Q2 H ?_
 intro a w H
 refine sr mx [] H (fun _=>.q 0 rfl<|.o (QbY z0 .k (by decide))<|.o (QcI z0 .k)<|.q 3 rfl<|.o (QcI z0 .k)<|.o (Qao z2 z0)<|.o (Qi z0)<|.n) fun _ a w H=>?_
 have H:=H.t1_0 [6]
 refine Q2 H ?_
 intro a w H
 refine sr mx [] H (fun _=>.q 0 rfl<|.o (QbY z0 .k (by decide))<|.q 2 rfl<|.o (Qao z1 z0)<|.o (QcI z0 .k)<|.o (Qi z0)<|.n) fun _ a w H=>?_
 have H:=H.t1_0 [5]
 refine Q2 H ?_
 intro a w H
 refine sr mx [] H (fun _=>.q 0 rfl<|.q 1 rfl<|.o (QbY z0 .k (by decide))<|.o (Qao z2 z0)<|.o (Qi z0)<|.n) fun _ a w H=>?_
 have H:=H.t1_0 [4]
 refine Q2 H ?_
 intro a w H
 refine sr mx [] H (fun _=>.q 0 rfl<|.q 1 rfl<|.o (QbY z0 .k (by decide))<|.o (Qao z2 z0)<|.o (Qi z0)<|.n) fun _ a w H=>?_
 have H:=H.t1_0 [4]
 refine Q2 H ?_
 intro a w H
 refine sr mx [] H (fun _=>.q 0 rfl<|.q 1 rfl<|.o (QbY z0 .k (by decide))<|.o (Qao z2 z0)<|.o (Qi z0)<|.n) fun _ a w H=>?_
 have H:=H.t1_0 [4]
 refine Q2 H ?_
 intro a w H
 refine sr mx [] H (fun _=>.q 0 rfl<|.o (Qf5 QnJ ud3 z0)<|.o (QcI z0 .k)<|.o (Qi z0)<|.n) fun _ a w H=>?_
 have H:=H.t1_0 [3]
 refine Q2 H ?_
 exact Qu h (·▸Qq hpl)
def Qcb (x_:Int):Option (Int):=(Qez x_).bind fun t0=>(some t0)
instance Qia:Spc1 prog 35 Qcb (fun x_=>[tv (.int .u64 x_)]) ti:=.mk fun {x_ r} h=>by
 unfold Qcb at h
 refine Fe func35 ntmps35 fun M0 M w0 hpl=>?_
 refine Qb [1] ?_
 refine Qk fun _ k0=>?_
 refine Qtj ?_
 refine QE ?_
 refine k0 ?_
 have⟨_,_,h⟩:=bs h
 refine Qb [2] ?_
 exact Qu h (·▸Qq hpl)
def QeR {S:Type} (Y:S→Int→Option (S⊕S)) (s_:S) (n_:Int):Option (S⊕S):=(Ql (fun (s0:Int×S)=>((if (decide (s0.1<(i64.wrap (n_+1))))=true then (nn n_).bind fun _=>(Ql (fun (s1:Int×S)=>((if (decide (s1.1<(ishl .u64 (1:Int) n_)))=true then (Qcb s1.1).bind fun t0=>((if (t0==s0.1)=true then Y s1.2 s1.1 else some (.inl s1.2))).bind fun t1=>(match t1 with | .inl s2=>(some (.inl (u64.wrap (s1.1+1),s2))) | .inr s2=>(some (.inr (.inr s2)))) else (some (.inr (.inl s1.2)))):Option ((Int×S)⊕(S⊕S)))) ((0:Int),s0.2)).bind fun e0=>(match e0 with | .inl s2=>(some (.inl (i64.wrap (s0.1+1),s2))) | .inr s2=>(some (.inr (.inr s2)))) else (some (.inr (.inl s0.2)))):Option ((Int×S)⊕(S⊕S)))) ((0:Int),s_))
theorem Qjg {S:Type} {Y:S→Int→Option (S⊕S)} {s_:S} {n_:Int} {r:S⊕S} (h:QeR Y s_ n_=some r):Qqc prog 93 [tptr (rI.cs n_)] .u64 Y s_ r:=by
 intro l W g0 hY;refine⟨fun _=>ttup [],?_⟩;unfold QeR at h;refine fe func93 ntmps93 fun M0 M w0 a hpl H=>?_;refine wp_seq_k (fun K0 k0=>?_);refine wr mx [] H (fun _=>.o (QU (R:=rI) (u:=n_) tok3 z1)<|.o (Qao z0 .k)<|.o (Qad .k)<|.n) fun _ a w H=>?_;have H:=H.t4_1 [2,1,3,4];refine k0 _ _ ?_;clear k0 K0;refine wp_block ?_;refine QcC _ (fun (s0:Int×S) a w=>∃g:Value,St M w0 27 [(7,ti s0.1),(6,ti (i64.wrap (n_+1))),(0,tv (.func (.yield l) #[] #[])),(1,tptr (rI.cs n_))] [W (.inl s0.2) g] a w) _ _ h ⟨g0,H⟩ ?_;clear h;intro s0 o a w K1 hI h ho k1;obtain⟨g1,H⟩:=hI;refine wp_seq_k (fun K2 k2=>?_);refine wr mx [] H (fun _=>.o (Qbt z0 z1)<|.n) fun _ a w H=>?_;replace H:St _ _ _ [_,_,_,_,_] [_] _ _:=H;refine k2 _ _ ?_;clear k2 K2;refine wp_seq_k (fun K3 k3=>?_);refine wi H h (fun b0 h=>?_) (fun b0 h=>?_)
 ·have⟨u0,h0,e0,h1,h⟩:=bs2 h;refine wp_skip (k3 _ _ ?_);clear k3 K3;refine wp_seq_k (fun K4 k4=>?_);refine wp_block ?_;refine wp_seq_k (fun K5 k5=>?_);refine wr mx [] H (fun _=>.q 1 rfl<|.o (Qi z0)<|.n) fun _ a w H=>?_;have H:=H.to [1,3,4,5,6] [_,_,_,_,_] [_] rfl rfl;refine k5 _ _ ?_;clear k5 K5;refine wp_seq_k (fun K6 k6=>?_);refine wr mx [] H (fun _=>.o (QU (R:=rI) (u:=n_) tok3 z4)<|.o (QAb .k z0 (Qnt h0))<|.o (Qad .k)<|.n) fun _ a w H=>?_;have H:=H.to [2,1,3,4,5,6,7] [_,_,_,_,_,_,_] [_] rfl rfl;refine k6 _ _ ?_;clear k6 K6;refine wp_block ?_;have hJ:∀(g:Value) (s1:S) a w,e0=.inl s1→St M w0 27 [(7,ti s0.1),(6,ti (i64.wrap (n_+1))),(0,tv (.func (.yield l) #[] #[])),(1,tptr (rI.cs n_))] [W (.inl s1) g] a w→K4 a w:=by
   intro g s1 a w he H;subst he;simp only at h;refine k4 _ _ ?_;refine wr mx [] H (fun _=>.o (Qao z0 .k)<|.q 0 rfl<|.n) fun _ a w H=>?_;have H:=H.t4_1 [1,2,3,4];exact k1 _ _ _ (sj h).symm ⟨g,H⟩
  have hX:∀(g:Value) (s1:S) a w,e0=.inr s1→St M w0 27 [] [W (.inr s1) g] a w→Ret prog f93 M0 [W (.inl s_) g0] w0 (fun x=>[W r x]) (fun _=>ttup []) .ret a w:=by
   intro g s1 a w he H;subst he;simp only at h;obtain rfl:=ho _ (sj h).symm;exact rt g [0] hpl H .nil
  clear h ho k1 k4;refine QcC _ (fun (s2:Int×S) a w=>∃g:Value,St M w0 27 [(12,tv (.int .u64 s2.1)),(11,tv (.int .u64 (ishl .u64 (1:Int) n_))),(3,ti s0.1),(7,ti s0.1),(6,ti (i64.wrap (n_+1))),(0,tv (.func (.yield l) #[] #[])),(1,tptr (rI.cs n_))] [W (.inl s2.2) g] a w) _ _ h1 ⟨g1,H⟩ ?_;clear h1;intro s2 o2 a w K7 hI h ho k7;obtain⟨g2,H⟩:=hI;refine wp_seq_k (fun K8 k8=>?_);refine wr mx [] H (fun _=>.o (Qbt z0 z1)<|.n) fun _ a w H=>?_;replace H:St _ _ _ [_,_,_,_,_,_,_,_] [_] _ _:=H;refine k8 _ _ ?_;clear k8 K8;refine wp_seq_k (fun K9 k9=>?_);refine wi H h (fun b1 h=>?_) (fun b1 h=>?_)
  ·have⟨t0,h2,t1,h3,h⟩:=bs2 h;refine wp_skip (k9 _ _ ?_);clear k9 K9;refine wp_seq_k (fun _ k10=>?_);refine wp_block ?_;refine wp_seq_k (fun K10 k11=>?_);refine wr mx [] H (fun _=>.q 1 rfl<|.o (Qi z0)<|.n) fun _ a w H=>?_;have H:=H.to [1,3,4,5,6,7,8,9] [_,_,_,_,_,_,_,_] [_] rfl rfl;refine k11 _ _ ?_;clear k11 K10;refine wp_seq_k (fun K11 k12=>?_);refine QcR mixed [v1 7 (fun v0=>bif (t0==s0.1)==true then W t1 v0 else W (.inl s2.2) g2)] H (fun m0=>.q 0 rfl<|.o (QG Qq0 (Qia.ok h2) (.cons (.of z0)<|.nil))<|.q 5 rfl<|.o (Qct z1 z0)<|.q 0 rfl<|.g rfl rfl bq0 (fun _=>Qad z11)<|.g rfl rfl bq1 (fun _=>Qad z6)<|.ge (N:=fun c v0=>[bif c then W t1 v0 else W (.inl s2.2) g2]) [] [0] [1] rfl rfl rfl rfl rfl bq2 (fun hc=>Qvu (.cond z1 hc) (.cond z0 hc) (hY _ _ _ _ ((Zc (by simpa using hc)).symm.trans h3))) rfl<|.g rfl rfl bq3 (fun hc=>QiG (.cond z0 hc))<|.o (Qcj z4 (fun hp=>(.cond z0 (beqT hp))))<|.nil _ _) (by kernel_rfl) (fun m0 a w H=>?_);refine k12 _ _ ?_;clear k12 K11;have hW:∃g,(bif (t0==s0.1)==true then W t1 (m0 7) else W (.inl s2.2) g2)=W t1 g:=by
    cases hc:(t0==s0.1) with
    | true=>exact⟨m0 7,rfl⟩
    | false=>rw[hc,Zd (by simp)] at h3;obtain rfl:=sj h3;exact⟨g2,rfl⟩
   obtain⟨g3,hW⟩:=hW;have H3:St M w0 27 [(24,tb ((t0==s0.1)&&!t1.isLeft)),(12,tv (.int .u64 s2.1)),(11,tv (.int .u64 (ishl .u64 (1:Int) n_))),(3,ti s0.1),(7,ti s0.1),(6,ti (i64.wrap (n_+1))),(0,tv (.func (.yield l) #[] #[])),(1,tptr (rI.cs n_))] [W t1 g3] a w:=by
    have H2:St M w0 27 [(24,tb ((t0==s0.1)&&!t1.isLeft)),(12,tv (.int .u64 s2.1)),(11,tv (.int .u64 (ishl .u64 (1:Int) n_))),(3,ti s0.1),(7,ti s0.1),(6,ti (i64.wrap (n_+1))),(0,tv (.func (.yield l) #[] #[])),(1,tptr (rI.cs n_))] [bif (t0==s0.1)==true then W t1 (m0 7) else W (.inl s2.2) g2] a w:=H.pick [9,11,12,13,14,15,16,17];rw[hW] at H2;exact H2
   replace H:=H3;refine wt H (fun b2=>?_) (fun b2=>?_)
   ·cases t1 with
    | inl s1=>simp at b2
    | inr s1=>
     simp only at h;refine wp_ret ?_;exact hX g3 s1 _ _ (ho _ (sj h).symm).symm (H.pick [])
   cases t1 with
   | inl s1=>
    simp only at h;refine wp_skip (k10 _ _ ?_);refine wr mx [] H (fun _=>.o (Qao z1 .k)<|.q 0 rfl<|.n) fun _ a w H=>?_;have H:=H.to [1,3,4,5,6,7,8] [_,_,_,_,_,_,_] [_] rfl rfl;exact k7 _ _ _ (sj h).symm ⟨g3,H⟩
   | inr s1=>
    exfalso;cases hc:(t0==s0.1) with
    | true=>rw[hc] at b2;simp at b2
    | false=>rw[hc,Zd (by simp)] at h3;cases sj h3
  refine wp_exit ?_;exact hJ g2 _ _ _ (ho _ (sj h).symm).symm (H.pick [4,5,6,7])
 refine wp_exit ?_;obtain rfl:=ho _ (sj h).symm;exact Qoq g1 [0] hpl H rfl .nil rfl rfl rfl
theorem Qly {n_:Int}:FnOk prog 34 [ti n_] [] (fun _=>[]) (fun _=>QaO 93 [tptr (rI.cs n_)]):=by
 refine fe func34 ntmps34 fun M0 M w0 a hpl H=>?_;refine wp_seq_k (fun K0 k0=>?_);refine wr mx [] H (fun _=>.o (QgS (R:=rI) (u:=n_) z0)<|.o (Qi .k)<|.n) fun _ a w H=>?_;have H:=H.t1_0 [0];refine k0 _ _ ?_;clear k0 K0;refine wp_seq_k (fun _ k1=>?_);refine wr mx [] H (fun _=>.o (Qg9 (.cons z0<|.nil))<|.o (Qi z0)<|.n) fun _ a w H=>?_;have H:=H.t1_0 [1];refine k1 _ _ ?_;refine wp_ret ?_;exact rt undef [] hpl H (.tmp z0 .nil)
def Qeu (i_:Int) (c0_:Int):Option (Bool):=(nn i_).bind fun _=>(some ((iand .u64 (ishr .u64 c0_ i_) (1:Int))==1))
instance Qp3:Spc2 prog 36 Qeu (fun i_ c0_=>[ti i_,tptr ((rInt .u64).cs c0_)]) tb:=.mk fun {i_ c0_ r} h=>by
 unfold Qeu at h
 refine Fe func36 ntmps36 fun M0 M w0 hpl=>?_
 refine Qb [1,2] ?_
 have⟨_,h0,h⟩:=bs h
 intro a w H
 refine sr mx [] H (fun _=>.o (QU QhN z1)<|.q 1 rfl<|.o (QbY z1 z0 (Qnt h0))<|.o (QcI z0 .k)<|.o (Qct z0 .k)<|.o (Qi z0)<|.n) fun _ a w H=>?_
 have H:=H.t1_0 [5]
 refine Q2 H ?_
 exact Qu h (·▸Qq hpl)
def Qev (k_:Int) (c0_:Int):Option (Bool):=(nn k_).bind fun _=>(some ((iand .u64 (ishr .u64 c0_ k_) (1:Int))==1))
instance Qp4:Spc2 prog 37 Qev (fun k_ c0_=>[ti k_,tptr ((rInt .u64).cs c0_)]) tb:=.mk fun {k_ c0_ r} h=>by
 unfold Qev at h
 refine Fe func37 ntmps37 fun M0 M w0 hpl=>?_
 refine Qb [1,2] ?_
 have⟨_,h0,h⟩:=bs h
 intro a w H
 refine sr mx [] H (fun _=>.o (QU QhN z1)<|.q 1 rfl<|.o (QbY z1 z0 (Qnt h0))<|.o (QcI z0 .k)<|.o (Qct z0 .k)<|.o (Qi z0)<|.n) fun _ a w H=>?_
 have H:=H.t1_0 [5]
 refine Q2 H ?_
 exact Qu h (·▸Qq hpl)

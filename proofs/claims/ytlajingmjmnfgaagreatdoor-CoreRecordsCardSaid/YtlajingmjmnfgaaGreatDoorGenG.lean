/- Go functions as Lean functions, and the proofs that they compute them, written by a program. No condition. -/
import Derived.Test.YtlajingmjmnfgaaGreatDoorGenF
set_option linter.all false
open Go.Proofs.Tryz Go.IntKind
namespace Go.Proofs.YtlajingmjmnfgaaGreatDoor
open Go.Sim
set_option maxRecDepth 100000
set_option maxHeartbeats 4000000
noncomputable def QcL (n_:Int) (l_:(List QU)) (first_:Int) (many_:Int):Option ((List Int)):=(QcE [(1099511627776:Int)] (i64.wrap (n_+1))).bind fun t0=>(idx [t0] (0:Int)).bind fun r2=>(idx l_ first_).bind fun t1=>(setAt r2 t1.a (0:Int)).bind fun t2=>(setAt [t0] (0:Int) t2).bind fun m9=>(Qo (fun (s0:Int×List (List Int))=>((if (decide (s0.1<many_))=true then (QcE [(1099511627776:Int)] (i64.wrap (n_+1))).bind fun t3=>(sub l_ (i64.wrap (first_+1)) (l_.length:Int)).bind fun t4=>(Qo (fun (s1:Int×List Int)=>((if (decide (s1.1<(t4.length:Int)))=true then (idx t4 s1.1).bind fun t5=>(idx s0.2 (i64.wrap (s0.1 - 1))).bind fun r3=>(idx r3 t5.b).bind fun t6=>((if (decide (t6<1099511627776))=true then (idx s1.2 t5.a).bind fun t7=>(setAt s1.2 t5.a (imin t7 (i64.wrap (t6+t5.n)))).bind fun t8=>(some t8) else (some s1.2))).bind fun p0=>(some (.inl ((i64.wrap (s1.1+1)),p0))) else (some (.inr s1.2))):Option ((Int×List Int)⊕((List Int))))) ((0:Int),t3)).bind fun p1=>(rm (s0.2.length+1)).bind fun _=>(some (.inl ((i64.wrap (s0.1+1)),(s0.2++[p1])))) else (some (.inr s0.2))):Option ((Int×List (List Int))⊕((List (List Int)))))) ((1:Int),m9)).bind fun p2=>(idx l_ first_).bind fun t9=>(idx l_ first_).bind fun t10=>(QbS t9.b (i64.wrap (many_ - 1)) (0:Int) p2 t10.n).bind fun t11=>(if (!t11)=true then (some ([]:List Int)) else (Qo (fun (s2:Int×Int×List Int×Int)=>((if (decide (s2.1≥0))=true then ((Qo (fun (s3:Int)=>((if (decide (s3<(l_.length:Int)))=true then (idx l_ s3).bind fun t12=>(opt ((t12.a==s2.2.1)==true) (QbS t12.b s2.1 t12.n p2 s2.2.2.2) default).bind fun t13=>(if ((t12.a==s2.2.1)&&t13)=true then (rm (s2.2.2.1.length+[s3].length)).bind fun _=>(some (.inr (.inr (t12.b,(s2.2.2.1++[s3]),(i64.wrap (s2.2.2.2+t12.n)))))) else (some (.inl (i64.wrap (s3+1))))) else (some (.inr (.inl ())))):Option ((Int)⊕((Unit)⊕(Int×List Int×Int))))) (i64.wrap (first_+1))).bind fun e0=>(match e0 with | .inl _=>(some (s2.2.1,s2.2.2.1,s2.2.2.2)) | .inr p3=>(some (p3.1,p3.2.1,p3.2.2)))).bind fun p4=>(some (.inl ((i64.wrap (s2.1 - 1)),p4.1,p4.2.1,p4.2.2))) else (some (.inr s2.2.2.1))):Option ((Int×Int×List Int×Int)⊕((List Int))))) ((i64.wrap (many_ - 2)),t9.b,[first_],t10.n)).bind fun p5=>(ne p5).bind fun _=>(some p5))
instance Qw0:Spc4 prog 134 QcL (fun n_ l_ first_ many_=>[ti n_,tsl QN l_,ti first_,ti many_]) (tsn rI):=.mk fun {n_ l_ first_ many_ r} h=>by
 unfold QcL at h
 refine fe func134 ntmps134 fun M0 M w0 a hpl H=>?_
 refine sr mx [] H (fun _=>.o (Qn (.nilsn (R:=rI)))<|.n) fun _ a w H=>?_
 have H:=H.to [1,2,3,4] [_,_,_,_] [] rfl rfl
 refine wp_scope_straight ?_
 have⟨t0,h0,h⟩:=bs h
 refine sr mx [v1 3 (fun v0=>own rI 3 t0 v0),v2 3 4 (fun v0 v1=>own rVal 22 [v0] v1),v1 5 (fun v0=>box (rVal.cs nilV) v0),v2 4 5 (fun v0 v1=>box (rVal.cs v0) v1)] H (fun _=>.o (Qao (R:=rI) (us:=[(1099511627776:Int)]) ud22 tok3 (.cons .k<|.nil _) rfl (leb rfl))<|.q 1 rfl<|.o (Qay z0 .k)<|.m [] [0] rfl rfl rfl (QC QqQ (Qje.ok h0) (.cons (.of z2)<|.cons (.of z0)<|.nil))<|.m [0] [1] rfl rfl rfl (Qxf (R:=rI) (e:=3) (xs:=t0) ud68 QaW z0)<|.m [] [2] rfl rfl rfl (Qek Qd6)<|.e [1] [2] [3] rfl rfl rfl rfl (Qcs (R:=rVal) (e:=22) (Ts:=(rVal.cs nilV)) Qd6 z0 z1 (leb rfl))<|.n) fun m0 a w H=>?_
 replace H:St _ _ _ [_,_,_,_,_,_,_] [_,_,_] _ _:=(((H.pick [3,4,5,6,7,8,9]).rowsN (rI) 3).selA [1,0,2,3] rfl).push
 refine wp_seq_k (fun _ k0=>?_)
 have⟨r2,h1,t1,h2,t2,h3,m9,hm9,h⟩:=bs4 h
 refine wr mx [v0 (rows rI 3 m9 [(m0 3)])] H (fun _=>.u [2] rfl rfl (QaQ Qd6 z2)<|.u [1,0] rfl rfl (Qni ud68 QaW z0 .k h1)<|.u [1,0] rfl rfl (Qnj QaW z0 h1)<|.q 7 rfl<|.q 9 rfl<|.o (QdP Qzo QoP z1 z0 h2)<|.o (QT Qlk z0)<|.o (QQ (u:=t1.a) tok3 z0 rfl)<|.u [0] rfl rfl (QrB ud22 tok3 z5 z0 h1 h3)<|.e [] [0] [3] rfl rfl rfl rfl (QsS tok3 z0 .k h1 h3 hm9)<|.n) fun _ a w H=>?_
 have H:=H.t7_3 [0,10,11,12,13,14,15]
 refine k0 _ _ ?_
 refine wp_seq_k (fun K0 k1=>?_)
 refine sr mx [] H (fun _=>.o (Qn .k)<|.n) fun _ a w H=>?_
 have H:=H.to [0,1,2,3,4,5,6,7] [_,_,_,_,_,_,_,_] [_,_,_] rfl rfl
 have⟨e0,h4,h⟩:=bs h
 have J0:∀(p0:List (List Int)) (y0:Value) (us114:List Value) a w,p0=e0→St M w0 145 [(9,tv (m0 5)),(1,tsl QN l_),(2,ti first_),(3,ti many_)] [own rVal 22 us114 y0,box (rVal.cs y0) (m0 5),rows rI 3 p0 us114] a w→K0 a w:=by
  intro p0 y0 us114 a w he H;subst he;refine k1 _ _ ?_;have⟨t3,h5,t4,h6,h⟩:=bs2 h;refine sr mx [v1 1 (fun v0=>own rI 3 [first_] v0),v1 12 (fun v0=>box (rI.cs (0:Int)) v0),v1 12 (fun v0=>box (rI.cs t4.n) v0)] H (fun _=>.q 2 rfl<|.m [] [3] rfl rfl rfl (QeO (R:=rI) (us:=[first_]) ud22 tok3 (.cons z0<|.nil _) rfl (leb rfl) (leb rfl))<|.q 3 rfl<|.q 5 rfl<|.o (QdP Qzo QoP z1 z0 h5)<|.o (QT Qll z0)<|.o (QQ (u:=t3.b) tok3 z0 rfl)<|.q 8 rfl<|.q 10 rfl<|.o (QdP Qzo QoP z1 z0 h6)<|.o (QT QoS z0)<|.o (QQ (u:=t4.n) tok3 z0 rfl)<|.m [] [4] rfl rfl rfl (Qbn (R:=rI) (a:=(0:Int)) tok3 zok3)<|.ud (f:=fun v=>tv v) 1 rfl [] rfl rfl (Qn z11)<|.o (Qn z7)<|.e [] [4] [5] rfl rfl rfl rfl (QaO (R:=rI) (a:=t4.n) tok3 z2 z3 (leb rfl))<|.n) fun m1 a w H=>?_;have H:=H.t8_5 [1,12,13,14,15,16,17,18];refine sr mx [] H (fun _=>.o (Qhz (.cons z4<|.cons z1<|.nil))<|.o (Qn z0)<|.n) fun _ a w H=>?_;have H:=H.t8_5 [1,2,3,4,5,7,8,9];refine wp_seq_k (fun _ k2=>?_);have⟨t5,h7,h⟩:=bs h;refine sr mx [] H (fun _=>.q 0 rfl<|.q 5 rfl<|.q 9 rfl<|.o (QlH z0 .k)<|.u [1,0,2,4] rfl rfl (QoE [box (rVal.cs y0) (m0 5),own rVal 22 us114 y0,rows rI 3 p0 us114,box (rI.cs t4.n) (m1 12)] QmV (Qg3.ok h7) z3 (.cons (Qnl (.head _) (.tail _ (.head _)) (.tail _ (.tail _ (.head _))))<|.cons (QoC (.tail _ (.tail _ (.tail _ (.head _)))))<|.nil) (.cons (.of z2)<|.cons (.of z0)<|.cons (.of .k)<|.nil) (fun _=>Qc5) (fun _=>QgJ (x:=undef)))<|.o (Qin z0)<|.n) fun _ a w H=>?_;have H:=H.to [5,6,7,8,9,10,11,12,13] [_,_,_,_,_,_,_,_,_] [_,_,_,_,_] rfl rfl;refine wi H h (fun b0 h=>?_) (fun b0 h=>?_)
  ·refine sr mx [] H (fun _=>.o (Qn (.nilsn (R:=rI)))<|.n) fun _ a w H=>?_;replace H:St _ _ _ [_,_,_] [_] _ _:=(H.pick [0,3,5]).selA [3] rfl;exact r0 h (·▸r1 hpl H (.tmp z0 .nil))
  refine wp_skip (k2 _ _ ?_);refine wp_seq_k (fun _ k3=>?_);refine wp_label ?_;refine k3 _ _ ?_;refine wp_seq_k (fun K1 k4=>?_);refine sr mx [] H (fun _=>.q 8 rfl<|.o (QlH z0 .k)<|.o (Qn z0)<|.n) fun _ a w H=>?_;have H:=H.t8_5 [2,4,5,6,7,8,9,10];have⟨e1,h8,h⟩:=bs h;have J1:∀(p1:List Int) (y1:Value) a w,p1=e1→St M w0 145 [(15,tv y1)] [own rI 3 p1 y1] a w→K1 a w:=by
   intro p1 y1 a w he H;subst he;refine k4 _ _ ?_;refine sr mx [] H (fun _=>.q 0 rfl<|.o (Qn z0)<|.n) fun _ a w H=>?_;have H:=H.to [0,1,2] [_,_,_] [_] rfl rfl;refine wp_ret ?_;have⟨_,hne,h⟩:=bs h;replace H:St _ _ _ [_] [] _ _:=(H.shareO 1 rfl).pick [0];obtain rfl:=sj h;exact rt undef [] hpl H (.tmp (.sn z0 (ne_ok hne)) .nil)
  refine wp_block ?_;refine QfU _ (fun (s0:Int×Int×List Int×Int) a w=>∃y2:Value,St M w0 145 [(19,ti s0.1),(18,Qaz 178 [tv (m0 5),tv (m1 12)]),(17,tv (m1 12)),(15,tv y2),(16,ti s0.2.1),(1,tsl QN l_),(2,ti first_)] [own rVal 22 us114 y0,box (rVal.cs y0) (m0 5),rows rI 3 p0 us114,own rI 3 s0.2.2.1 y2,box (rI.cs s0.2.2.2) (m1 12)] a w) _ _ h8 ⟨(m1 1),H.pick [0,1,3,4,5,6,7]⟩ ?_;clear h;intro s0 o a w K2 hI h ho k5;obtain⟨y2,H⟩:=hI;refine wp_seq_k (fun _ k6=>?_);refine sr mx [] H (fun _=>.q 0 rfl<|.o (QlJ z0 .k)<|.n) fun _ a w H=>?_;have H:=H.t8_5 [1,2,3,4,5,6,7,8];refine wi H h (fun b1 h=>?_) (fun b1 h=>?_)
  ·refine wp_skip (k6 _ _ ?_);refine wp_seq_k (fun K3 k7=>?_);have⟨p2,h9,h⟩:=bs h;have J2:∀(y3:Value) a w,St M w0 145 [(19,ti s0.1),(18,Qaz 178 [tv (m0 5),tv (m1 12)]),(17,tv (m1 12)),(15,tv y3),(16,ti p2.1),(1,tsl QN l_),(2,ti first_)] [own rVal 22 us114 y0,box (rVal.cs y0) (m0 5),rows rI 3 p0 us114,own rI 3 p2.2.1 y3,box (rI.cs p2.2.2) (m1 12)] a w→K3 a w:=by
    intro y3 a w H;refine k7 _ _ ?_;refine wr mx [] H (fun _=>.q 0 rfl<|.o (QlH z0 .k)<|.o (Qn z0)<|.n) fun _ a w H=>?_;have H:=H.to [2,3,4,5,6,7,8] [_,_,_,_,_,_,_] [_,_,_,_,_] rfl rfl;exact k5 _ _ _ (sj h).symm ⟨y3,H.pick [0,1,2,3,4,5,6]⟩
   replace h:=h9;clear h9;refine wp_block ?_;refine sr mx [] H (fun _=>.q 7 rfl<|.o (Qay z0 .k)<|.o (Qn z0)<|.n) fun _ a w H=>?_;have H:=H.t8_5 [2,4,5,6,7,8,9,10];have⟨e3,h10,h⟩:=bs h;have J3:∀(p3:Unit) a w,(.inl p3)=e3→St M w0 145 [(19,ti s0.1),(18,Qaz 178 [tv (m0 5),tv (m1 12)]),(17,tv (m1 12)),(15,tv y2),(16,ti s0.2.1),(1,tsl QN l_),(2,ti first_)] [own rVal 22 us114 y0,box (rVal.cs y0) (m0 5),rows rI 3 p0 us114,own rI 3 s0.2.2.1 y2,box (rI.cs s0.2.2.2) (m1 12)] a w→K3 a w:=by
    intro p3 a w he H;subst he;simp only at h;obtain rfl:=sj h;exact J2 y2 _ _ (H.pick [0,1,2,3,4,5,6])
   have J4:∀(p4:Int×List Int×Int) (y4:Value) a w,(.inr p4)=e3→St M w0 145 [(15,tv y4),(16,ti p4.1),(19,ti s0.1),(18,Qaz 178 [tv (m0 5),tv (m1 12)]),(17,tv (m1 12)),(1,tsl QN l_),(2,ti first_)] [own rVal 22 us114 y0,box (rVal.cs y0) (m0 5),rows rI 3 p0 us114,own rI 3 p4.2.1 y4,box (rI.cs p4.2.2) (m1 12)] a w→K3 a w:=by
    intro p4 y4 a w he H;subst he;simp only at h;obtain rfl:=sj h;exact J2 y4 _ _ (H.pick [2,3,4,0,1,5,6])
   refine wp_block ?_;refine QfU _ (fun (s1:Int) a w=>St M w0 145 [(20,ti s1),(19,ti s0.1),(18,Qaz 178 [tv (m0 5),tv (m1 12)]),(17,tv (m1 12)),(15,tv y2),(16,ti s0.2.1),(1,tsl QN l_),(2,ti first_)] [own rVal 22 us114 y0,box (rVal.cs y0) (m0 5),rows rI 3 p0 us114,own rI 3 s0.2.2.1 y2,box (rI.cs s0.2.2.2) (m1 12)] a w) _ _ h10 (H.pick [0,1,2,3,4,5,6,7]) ?_;clear h;intro s1 o a w K4 hI h ho k8;have H:=hI;clear hI;refine wp_seq_k (fun _ k9=>?_);refine sr mx [] H (fun _=>.q 0 rfl<|.q 7 rfl<|.o (Qe4 Qzo z0)<|.o (QcO z2 z0)<|.n) fun _ a w H=>?_;have H:=H.to [3,4,5,6,7,8,9,10,11] [_,_,_,_,_,_,_,_,_] [_,_,_,_,_] rfl rfl;refine wi H h (fun b2 h=>?_) (fun b2 h=>?_)
   ·refine wp_skip (k9 _ _ ?_);refine wp_seq_k (fun _ k10=>?_);refine wp_block ?_;have⟨t6,h11,h⟩:=bs h;refine sr mx [v1 4 (fun v0=>box (QN.cs zz5) v0),v1 4 (fun v0=>box (QN.cs t6) v0)] H (fun _=>.q 7 rfl<|.q 2 rfl<|.o (QdP Qzo QoP z1 z0 h11)<|.o (Q3 QoP z0)<|.m [] [5] rfl rfl rfl (Qbn (R:=QN) (a:=zz5) QoP Qzp)<|.e [] [5] [6] rfl rfl rfl rfl (QaO (R:=QN) (a:=t6) QoP z0 z1 (leb rfl))<|.n) fun _ a w H=>?_;replace H:St _ _ _ [_,_,_,_,_,_,_,_,_] [_,_,_,_,_] _ _:=((((H.pick [4,6,7,8,9,10,11,12,13]).selA [5,0,1,2,3,4] rfl).shareB 0 rfl).add 0 rfl (fun _ _ _ h=>h.2)).pick [0,3,4,5,6,7,8,9,10];have⟨t7,h12,h⟩:=bs h;refine sr mx [] H (fun _=>.o (QT Qlk z0)<|.o (QQ (u:=t6.a) tok3 z0 rfl)<|.q 8 rfl<|.o (QcA z1 z0)<|.q 0 rfl<|.g rfl rfl bq0 (fun _=>Qah z8)<|.g rfl rfl bq1 (fun _=>QT Qll z6)<|.g rfl rfl bq2 (fun hc=>QQ (u:=t6.b) tok3 (.cond z0 hc) rfl)<|.g rfl rfl bq3 (fun _=>Qah z10)<|.g rfl rfl bq4 (fun _=>QT QoS z9)<|.g rfl rfl bq5 (fun hc=>QQ (u:=t6.n) tok3 (.cond z0 hc) rfl)<|.gu [1,0,2,4] rfl rfl rfl bq6 (fun hc=>QoE [box (rVal.cs y0) (m0 5),own rVal 22 us114 y0,rows rI 3 p0 us114,box (rI.cs s0.2.2.2) (m1 12)] QmV (Qg3.ok (Qfq h12 hc)) (.cond z5 hc) (.cons (Qnl (.head _) (.tail _ (.head _)) (.tail _ (.tail _ (.head _))))<|.cons (QoC (.tail _ (.tail _ (.tail _ (.head _)))))<|.nil) (.cons (.of (.cond z3 hc))<|.cons (.of (.cond z2 hc))<|.cons (.of (.cond z0 hc))<|.nil) (fun _=>Qc5) (fun _=>QgJ (x:=undef)))<|.o (QcP z7 (fun hp=>(.cond z0 (beqT hp))))<|.n) fun _ a w H=>?_;have H:=H.to [12,13,14,15,16,17,18,19,20,21] [_,_,_,_,_,_,_,_,_,_] [_,_,_,_,_] rfl rfl;refine wi H h (fun b3 h=>?_) (fun b3 h=>?_)
    ·refine wp_seq_k (fun _ k11=>?_);have⟨u0,h13,h⟩:=bs h;refine wr mx [v1 3 (fun v0=>own rI 3 (s0.2.2.1++[s1]) v0),v0 (box (rI.cs (i64.wrap (s0.2.2.2+t6.n))) (m1 12))] H (fun _=>.q 6 rfl<|.q 3 rfl<|.o (Qao (R:=rI) (us:=[s1]) ud22 tok3 (.cons z0<|.nil _) rfl (leb rfl))<|.e [] [3] [5] rfl rfl rfl rfl (QaP (R:=rI) ud22 tok3 (leb rfl) z2 z0 h13)<|.o (QT Qll z5)<|.o (QQ (u:=t6.b) tok3 z0 rfl)<|.u [4] rfl rfl (Qgo (R:=rI) (u:=s0.2.2.2) tok3 z11 rfl)<|.o (QT QoS z8)<|.o (QQ (u:=t6.n) tok3 z0 rfl)<|.o (Qay z2 z0)<|.ud (f:=fun v=>tv v) 3 rfl [] rfl rfl (Qn z6)<|.o (Qn z5)<|.e [] [4] [6] rfl rfl rfl rfl (QaO (R:=rI) (a:=(i64.wrap (s0.2.2.2+t6.n))) tok3 z17 z2 (leb rfl))<|.n) fun m2 a w H=>?_;have H:=H.t8_5 [3,10,11,15,16,17,18,19];refine k11 _ _ ?_;refine wp_exit ?_;exact J4 _ (m2 3) _ _ (ho _ (sj h).symm) (H.pick [1,2,3,4,5,6,7])
    refine wp_skip (k10 _ _ ?_);refine wr mx [] H (fun _=>.q 2 rfl<|.o (Qay z0 .k)<|.o (Qn z0)<|.n) fun _ a w H=>?_;have H:=H.t8_5 [2,5,6,7,8,9,10,11];exact k8 _ _ _ (sj h).symm (H.pick [0,1,2,3,4,5,6,7])
   refine wp_exit ?_;exact J3 _ _ _ (ho _ (sj h).symm) (H.pick [2,3,4,5,6,7,8])
  refine wp_exit ?_;exact J1 _ y2 _ _ (ho _ (sj h).symm) ((H.pick [4]).selA [3] rfl)
 refine wp_block ?_;refine QfU _ (fun (s2:Int×List (List Int)) a w=>∃y5:Value,∃us63:List Value,St M w0 145 [(10,ti s2.1),(9,tv (m0 5)),(0,ti n_),(1,tsl QN l_),(2,ti first_),(3,ti many_)] [own rVal 22 us63 y5,box (rVal.cs y5) (m0 5),rows rI 3 s2.2 us63] a w) _ _ h4 ⟨(m0 4),[(m0 3)],H.pick [0,3,4,5,6,7]⟩ ?_;clear h;intro s2 o a w K5 hI h ho k12;obtain⟨y5,us63,H⟩:=hI;refine wp_seq_k (fun _ k13=>?_);refine sr mx [] H (fun _=>.q 0 rfl<|.q 6 rfl<|.o (QcO z1 z0)<|.n) fun _ a w H=>?_;have H:=H.t7_3 [2,3,4,5,6,7,8];refine wi H h (fun b4 h=>?_) (fun b4 h=>?_)
 ·refine wp_skip (k13 _ _ ?_);refine wp_seq_k (fun _ k14=>?_);refine wp_block ?_;have⟨t8,h14,h⟩:=bs h;refine sr mx [v1 3 (fun v0=>own rI 3 t8 v0)] H (fun _=>.o (Qao (R:=rI) (us:=[(1099511627776:Int)]) ud22 tok3 (.cons .k<|.nil _) rfl (leb rfl))<|.q 4 rfl<|.o (Qay z0 .k)<|.m [] [3] rfl rfl rfl (QC QqQ (Qje.ok h14) (.cons (.of z2)<|.cons (.of z0)<|.nil))<|.ud (f:=fun v=>tv v) 3 rfl [] rfl rfl (Qn z0)<|.n) fun m3 a w H=>?_;have H:=H.to [3,4,6,7,8,9,10,11] [_,_,_,_,_,_,_,_] [_,_,_,_] rfl rfl;refine wp_seq_k (fun K6 k15=>?_);have⟨t9,h15,h⟩:=bs h;refine sr mx [] H (fun _=>.q 5 rfl<|.q 7 rfl<|.o (Qay z0 .k)<|.o (Qlc Qzo QoP z2 (.op z0) (.no _) h15)<|.o (Qe4 Qzo z0)<|.o (Qah .k)<|.n) fun _ a w H=>?_;have H:=H.to [3,4,5,6,7,8,9,10,11,12,13] [_,_,_,_,_,_,_,_,_,_,_] [_,_,_,_] rfl rfl;have⟨e4,h16,h⟩:=bs h;have J5:∀(p5:List Int) a w,p5=e4→St M w0 145 [(11,tv (m3 3)),(10,ti s2.1),(9,tv (m0 5)),(0,ti n_),(1,tsl QN l_),(2,ti first_),(3,ti many_)] [own rVal 22 us63 y5,box (rVal.cs y5) (m0 5),rows rI 3 s2.2 us63,own rI 3 p5 (m3 3)] a w→K6 a w:=by
   intro p5 a w he H;subst he;refine k15 _ _ ?_;have⟨u1,h17,h⟩:=bs h;refine wr mx [v1 3 (fun v0=>own rVal 22 (us63++[(m3 3)]) v0),v1 3 (fun v0=>box (rVal.cs v0) (m0 5))] H (fun _=>.u [1] rfl rfl (QaQ Qd6 z2)<|.q 1 rfl<|.u [3] rfl rfl (op_hdr (R:=rI) (e:=3) (xs:=p5) ud68 QaW z0)<|.e [2] [0] [4] rfl rfl rfl rfl (QrD (R:=rI) (e2:=3) (ws:=[(m3 3)]) ud68 QaW (leb rfl) z2 z0 h17)<|.e [4] [1] [5] rfl rfl rfl rfl (Qcs (R:=rVal) (e:=22) (Ts:=(rVal.cs y5)) Qd6 z6 z0 (leb rfl))<|.n) fun m4 a w H=>?_;replace H:St _ _ _ [_,_,_,_,_,_,_,_,_] [_,_,_] _ _:=((H.pick [1,3,4,5,6,7,8,9,10]).selA [1,0,2,3] rfl).push;refine k14 _ _ ?_;refine wr mx [] H (fun _=>.q 3 rfl<|.o (Qay z0 .k)<|.o (Qn z0)<|.n) fun _ a w H=>?_;have H:=H.t7_3 [2,4,6,7,8,9,10];exact k12 _ _ _ (sj h).symm ⟨(m4 3),(us63++[(m3 3)]),(H.pick [0,2,3,4,5,6]).selA [1,2,0] rfl⟩
  refine wp_block ?_;refine QfU _ (fun (s3:Int×List Int) a w=>St M w0 145 [(48,tsl QN t9),(49,ti (t9.length:Int)),(50,ti s3.1),(11,tv (m3 3)),(10,ti s2.1),(9,tv (m0 5)),(0,ti n_),(1,tsl QN l_),(2,ti first_),(3,ti many_)] [own rVal 22 us63 y5,box (rVal.cs y5) (m0 5),rows rI 3 s2.2 us63,own rI 3 s3.2 (m3 3)] a w) _ _ h16 (H.pick [0,1,2,4,5,6,7,8,9,10]) ?_;clear h;intro s3 o a w K7 hI h ho k16;have H:=hI;clear hI;refine sr mx [] H (fun _=>.o (QcO z2 z1)<|.n) fun _ a w H=>?_;have H:=H.to [0,1,2,3,4,5,6,7,8,9,10] [_,_,_,_,_,_,_,_,_,_,_] [_,_,_,_] rfl rfl;refine wp_seq_k (fun _ k17=>?_);refine wi H h (fun b5 h=>?_) (fun b5 h=>?_)
  ·refine wp_skip (k17 _ _ ?_);refine wp_seq_k (fun K8 k18=>?_);refine wp_block ?_;have⟨t10,h18,h⟩:=bs h;refine sr mx [v1 2 (fun v0=>box (QN.cs zz5) v0),v1 2 (fun v0=>box (QN.cs t10) v0)] H (fun _=>.o (QdP Qzo QoP z1 z3 h18)<|.o (Q3 QoP z0)<|.m [] [4] rfl rfl rfl (Qbn (R:=QN) (a:=zz5) QoP Qzp)<|.e [] [4] [5] rfl rfl rfl rfl (QaO (R:=QN) (a:=t10) QoP z0 z1 (leb rfl))<|.n) fun _ a w H=>?_;replace H:St _ _ _ [_,_,_,_,_,_,_,_,_,_,_] [_,_,_,_] _ _:=((((H.pick [2,4,5,6,7,8,9,10,11,12,13]).selA [4,0,1,2,3] rfl).shareB 0 rfl).add 0 rfl (fun _ _ _ h=>h.2)).pick [0,3,4,5,6,7,8,9,10,11,12];refine wp_seq_k (fun _ k19=>?_);have⟨r3,h19,t11,h20,h⟩:=bs2 h;refine wr mx [] H (fun _=>.u [1] rfl rfl (QaQ Qd6 z6)<|.q 6 rfl<|.o (QlH z0 .k)<|.u [0,2] rfl rfl (Qni ud68 QaW z2 z0 h19)<|.u [0,2] rfl rfl (Qnj QaW z0 h19)<|.o (QT Qll z5)<|.o (QQ (u:=t10.b) tok3 z0 rfl)<|.u [2] rfl rfl (QrA ud22 tok3 z2 z0 h19 h20)<|.u [2] rfl rfl (Qvl tok3 z0 h19 h20)<|.o (Qn z0)<|.n) fun _ a w H=>?_;have H:=H.to [0,9,10,11,12,13,14,15,16,17,18,19,20] [_,_,_,_,_,_,_,_,_,_,_,_,_] [_,_,_,_] rfl rfl;refine k19 _ _ ?_;refine sr mx [] H (fun _=>.q 1 rfl<|.o (QcO z0 .k)<|.n) fun _ a w H=>?_;have H:=H.to [1,2,3,4,5,6,7,8,9,10,11,12,13,14] [_,_,_,_,_,_,_,_,_,_,_,_,_,_] [_,_,_,_] rfl rfl;have⟨p6,h21,h⟩:=bs h;have J6:∀a w,St M w0 145 [(48,tsl QN t9),(49,ti (t9.length:Int)),(50,ti s3.1),(11,tv (m3 3)),(10,ti s2.1),(9,tv (m0 5)),(0,ti n_),(1,tsl QN l_),(2,ti first_),(3,ti many_)] [own rVal 22 us63 y5,box (rVal.cs y5) (m0 5),rows rI 3 s2.2 us63,own rI 3 p6 (m3 3)] a w→K8 a w:=by
    intro a w H;refine k18 _ _ ?_;refine wr mx [] H (fun _=>.o (Qay z2 .k)<|.q 0 rfl<|.n) fun _ a w H=>?_;have H:=H.to [1,2,3,4,5,6,7,8,9,10] [_,_,_,_,_,_,_,_,_,_] [_,_,_,_] rfl rfl;exact k16 _ _ _ (sj h).symm (H.pick [1,2,0,3,4,5,6,7,8,9])
   replace h:=h21;clear h21;refine wi H h (fun b6 h=>?_) (fun b6 h=>?_)
   ·have⟨t12,h22,t13,h23,h⟩:=bs2 h;refine wr mx [v0 (own rI 3 t13 (m3 3))] H (fun _=>.q 7 rfl<|.o (QT Qlk z4)<|.o (QQ (u:=t10.a) tok3 z0 rfl)<|.q 10 rfl<|.o (QT Qlk z7)<|.o (QQ (u:=t10.a) tok3 z0 rfl)<|.u [3] rfl rfl (Qae ud22 tok3 z2 z0 h22)<|.u [3] rfl rfl (QdR tok3 z0 h22)<|.q 10 rfl<|.o (QT QoS z12)<|.o (QQ (u:=t10.n) tok3 z0 rfl)<|.o (Qay z2 z0)<|.o (Qoz z4 z0)<|.u [3] rfl rfl (Qg9 ud22 tok3 z12 z10 h23)<|.e [] [3] [4] rfl rfl rfl rfl (QhV tok3 z0 z1 h23)<|.n) fun _ a w H=>?_;have H:=H.to [0,3,15,18,19,20,21,22,23,24,25,26,27] [_,_,_,_,_,_,_,_,_,_,_,_,_] [_,_,_,_] rfl rfl;obtain rfl:=sj h;exact J6 _ _ (H.pick [3,4,5,6,7,8,9,10,11,12])
   refine wp_skip ?_;obtain rfl:=sj h;exact J6 _ _ (H.pick [4,5,6,7,8,9,10,11,12,13])
  refine wp_exit ?_;exact J5 _ _ _ (ho _ (sj h).symm) (H.pick [4,5,6,7,8,9,10])
 refine wp_exit ?_;exact J0 _ y5 us63 _ _ (ho _ (sj h).symm) (H.pick [2,4,5,6])
noncomputable def QeN (n_:Int) (l_:(List QM)):Option ((List Int)×Int):=(QeM n_ l_).bind fun t0=>(if (t0.2 !=0)=true then (some (([]:List Int),t0.2)) else (Qo (fun (s0:Int)=>((if (decide (s0≤(i64.wrap (n_+1))))=true then (Qo (fun (s1:Int)=>((if (decide (s1<(t0.1.length:Int)))=true then (QcL n_ t0.1 s1 s0).bind fun t1=>(if (!t1.isEmpty)=true then (some (.inr (.inr (t1,(0:Int))))) else (some (.inl (i64.wrap (s1+1))))) else (some (.inr (.inl ())))):Option ((Int)⊕((Unit)⊕((List Int)×Int))))) (0:Int)).bind fun e0=>(match e0 with | .inl _=>(some (.inl (i64.wrap (s0+1)))) | .inr p0=>(some (.inr (.inr (p0.1,p0.2))))) else (some (.inr (.inl ())))):Option ((Int)⊕((Unit)⊕((List Int)×Int))))) (2:Int)).bind fun e1=>(match e1 with | .inl _=>(some (([]:List Int),(6:Int))) | .inr p1=>(some (p1.1,p1.2))))
instance Qw1:Spc2 prog 90 QeN (fun n_ l_=>[ti n_,tsl Qa6 l_]) (fun r=>ttup [tsl rI r.1,ti r.2]):=.mk fun {n_ l_ r} h=>by
 unfold QeN at h
 refine Fe func90 ntmps90 fun M0 M w0 hpl=>?_
 refine Qc [2,3] ?_
 have⟨t0,h0,h⟩:=bs h
 intro a w H
 refine sr mx [] H (fun _=>.q 0 rfl<|.q 2 rfl<|.o (QC QtK ((Qmd.ok h0).ro Qxc) (.cons (.of z1)<|.cons (.of z0)<|.nil))<|.q 0 rfl<|.o (Q8 z0 rfl)<|.o (Q8 z1 rfl)<|.o (Qn z1)<|.o (Qn z1)<|.n) fun _ a w H=>?_
 have H:=H.t3_0 [6,7,8]
 refine QS H ?_
 refine tIfs h [1,2,3,4] (fun _ h=>?_) (fun _ h=>?_)
 ·refine Qc [1,2] ?_
  exact Qt h (·▸Qr hpl)
 refine Ql fun K0 k0=>?_
 refine Qc [0,2,4] ?_
 have⟨e0,h1,h⟩:=bs h
 have J0:∀(p0:Unit),(.inl p0)=e0→To M w0 40 [] [] K0:=by
  intro p0 he;subst he;simp only at h;refine k0 ?_;refine Qc [0,1] ?_;exact Qt h (·▸Qr hpl)
 have J1:∀(p1:(List Int)×Int),(.inr p1)=e0→To M w0 40 [(4,tsn rI p1.1),(5,ti p1.2)] [] (Ret prog f90 M0 [] w0 (fun _=>[]) (fun _=>ttup [tsl rI r.1,ti r.2]) .ret):=by
  intro p1 he;subst he;simp only at h;obtain rfl:=sj h;exact Qr hpl
 refine Qu ?_;refine QaY h1 (fun (s0:Int)=>[(8,ti s0),(6,tsl QN t0.1),(0,ti n_)]) (fun (s0:Int)=>[]) [0,1,2] ?_;clear h;intro s0 o K1 h ho k1;refine Ql fun _ k2=>?_;refine Qc [3,4,5,6] ?_;refine Qz h (fun _ h=>?_) (fun _ h=>?_)
 ·refine QB ?_;refine k2 ?_;refine Ql fun K2 k3=>?_;refine Qu ?_;refine Qc [1,2,4,5,6] ?_;have⟨e1,h2,h⟩:=bs h;have J2:∀(p2:Unit),(.inl p2)=e1→To M w0 40 [(8,ti s0),(6,tsl QN t0.1),(0,ti n_)] [] K2:=by
   intro p2 he;subst he;simp only at h;refine k3 ?_;refine Q2 [2,3,4] ?_;exact QO k1 ((sj h).symm) [0,1,2]
  have J3:∀(p3:(List Int)×Int),(.inr p3)=e1→To M w0 40 [(4,tsn rI p3.1),(5,ti p3.2)] [] (Ret prog f90 M0 [] w0 (fun _=>[]) (fun _=>ttup [tsl rI r.1,ti r.2]) .ret):=by
   intro p3 he;subst he;simp only at h;exact QO J1 (ho _ (sj h).symm) [0,1]
  refine Qu ?_;refine QaY h2 (fun (s1:Int)=>[(27,ti (t0.1.length:Int)),(28,ti s1),(8,ti s0),(6,tsl QN t0.1),(0,ti n_)]) (fun (s1:Int)=>[]) [0,1,2,3,4] ?_;clear h;intro s1 o K3 h ho k4;refine Qc [0,1,2,3,4,5] ?_;refine Ql fun _ k5=>?_;refine Qz h (fun _ h=>?_) (fun _ h=>?_)
  ·refine QB ?_;refine k5 ?_;refine Ql fun _ k6=>?_;refine Qu ?_;refine Qc [1,3,4,5,6,7] ?_;have⟨_,_,h⟩:=bs h;refine Qc [5,7,8,9,10,11] ?_;refine Qc [1,2,3,4,5,6,7] ?_;refine Qz h (fun _ h=>?_) (fun _ h=>?_)
   ·refine Qc [1,2] ?_;refine Qa5 ?_;exact QO J3 (ho _ (sj h).symm) [0,1]
   refine QB ?_;refine k6 ?_;refine Q2 [1,4,5,6,7] ?_;exact QO k4 ((sj h).symm) [1,0,2,3,4]
  refine Q5 ?_;exact QO J2 (ho _ (sj h).symm) [3,4,5]
 refine Q5 ?_;exact QO J0 (ho _ (sj h).symm) []
noncomputable def Qcf (s_:QaI) (kind_:Int) (some_:(Int→Option Bool)):Option ((List Int)):=(Qo (fun (s0:Int×List Int×List QM)=>((if (decide (s0.1<(s_.diffs.length:Int)))=true then (idx s_.diffs s0.1).bind fun t0=>(opt ((t0.kind==kind_)==true) (some_ s0.1) default).bind fun t1=>((if ((t0.kind==kind_)&&t1)=true then (rm (s0.2.2.length+[t0.Diff].length)).bind fun _=>(rm (s0.2.1.length+[s0.1].length)).bind fun _=>(some ((s0.2.2++[t0.Diff]),(s0.2.1++[s0.1]))) else (some (s0.2.2,s0.2.1)))).bind fun p0=>(some (.inl ((i64.wrap (s0.1+1)),p0.2,p0.1))) else (some (.inr (s0.2.1,s0.2.2)))):Option ((Int×List Int×List QM)⊕((List Int×List QM))))) ((0:Int),([]:List Int),([]:List QM))).bind fun p1=>(idx (s_.x).Kinds kind_).bind fun t2=>(QeN (t2.Fields.length:Int) p1.2).bind fun t3=>(if (t3.2 !=0)=true then (some ([]:List Int)) else (Qo (fun (s1:Int×List Int)=>((if (decide (s1.1<(t3.1.length:Int)))=true then (idx t3.1 s1.1).bind fun t4=>(idx p1.1 t4).bind fun t5=>(rm (s1.2.length+[t5].length)).bind fun _=>(some (.inl ((i64.wrap (s1.1+1)),(s1.2++[t5])))) else (some (.inr s1.2))):Option ((Int×List Int)⊕((List Int))))) ((0:Int),([]:List Int))).bind fun p2=>(ne p2).bind fun _=>(some p2))
instance QjH:Spc3 prog 30 Qcf (fun s_ kind_ some_=>[tptr (QF.cs s_),ti kind_,rF81.ty some_]) (tsn rI):=.mk fun {s_ kind_ some_ r} h=>by
 unfold Qcf at h
 refine fe func30 ntmps30 fun M0 M w0 a hpl H=>?_
 refine sr mx [] H (fun _=>.o (Qn (.nilsn (R:=rI)))<|.n) fun _ a w H=>?_
 have H:=H.t3_0 [1,2,3]
 refine sr mx [] H (fun _=>.o (Qn .k)<|.n) fun _ a w H=>?_
 replace H:St _ _ _ [_,_,_,_] [_] _ _:=(H.pick [0,1,2,3]).nil (Qa6) 67
 refine sr mx [] H (fun _=>.o (Qn .k)<|.n) fun _ a w H=>?_
 replace H:St _ _ _ [_,_,_,_,_] [_,_] _ _:=(H.pick [0,1,2,3,4]).nil (rI) 3
 refine wp_seq_k (fun K0 k0=>?_)
 refine sr mx [] H (fun _=>.q 2 rfl<|.o (Qho z0)<|.o (QT QxB z0)<|.o (QQ (u:=s_.diffs) Qzq z0 rfl)<|.o (Qe4 ud76 z0)<|.o (Qah .k)<|.n) fun _ a w H=>?_
 have H:=H.to [3,4,5,6,7,8,9,10] [_,_,_,_,_,_,_,_] [_,_] rfl rfl
 have⟨e0,h0,h⟩:=bs h
 have J0:∀(p0:List Int×List QM) (y0:Value) (y1:Value) a w,p0=e0→St M w0 77 [(8,tv y0),(7,tv y1),(0,tptr (QF.cs s_)),(1,ti kind_)] [own rI 3 p0.1 y0,own Qa6 67 p0.2 y1] a w→K0 a w:=by
  intro p0 y0 y1 a w he H;subst he;refine k0 _ _ ?_;refine wp_seq_k (fun _ k1=>?_);replace H:St _ _ _ [_,_,_,_] [_] _ _:=((H.selA [1,0] rfl).shareO 1 rfl).pick [0,1,3,4];have⟨t0,h1,t1,h2,h⟩:=bs2 h;refine wr mx [] H (fun _=>.q 2 rfl<|.o (Qho z0)<|.o (QT QqN z0)<|.o (QT QaL z0)<|.o (QQ (u:=(s_.x).Kinds) QkA z0 rfl)<|.q 8 rfl<|.o (QdP ud29 QaS z1 z0 h1)<|.o (QT Qaw z0)<|.o (QQ (u:=t0.Fields) QhY z0 rfl)<|.o (Qe4 ud45 z0)<|.q 10 rfl<|.o (QC Qzs (Qw1.ok h2) (.cons (.of z1)<|.cons (.of z0)<|.nil))<|.q 0 rfl<|.o (Q8 z0 rfl)<|.o (Q8 z1 rfl)<|.o (Qn z1)<|.o (Qn z1)<|.n) fun _ a w H=>?_;have H:=H.to [15,16,18] [_,_,_] [_] rfl rfl;refine k1 _ _ ?_;refine wp_seq_k (fun _ k2=>?_);refine sr mx [] H (fun _=>.q 1 rfl<|.o (Qov z0 .k)<|.n) fun _ a w H=>?_;have H:=H.to [1,2,4] [_,_,_] [_] rfl rfl;refine wi H h (fun b0 h=>?_) (fun b0 h=>?_)
  ·refine sr mx [] H (fun _=>.o (Qn (.nilsn (R:=rI)))<|.n) fun _ a w H=>?_;have H:=H.t2_1 [0,3];exact r0 h (·▸r1 hpl H (.tmp z0 .nil))
  refine wp_skip (k2 _ _ ?_);refine sr mx [] H (fun _=>.o (Qn .k)<|.n) fun _ a w H=>?_;replace H:St _ _ _ [_,_,_] [_,_] _ _:=(H.pick [0,2,3]).nil (rI) 3;refine wp_seq_k (fun K1 k3=>?_);refine sr mx [] H (fun _=>.q 1 rfl<|.o (Qe4 ud22 z0)<|.o (Qah .k)<|.n) fun _ a w H=>?_;have H:=H.to [0,1,2,3,5] [_,_,_,_,_] [_,_] rfl rfl;have⟨e1,h3,h⟩:=bs h;have J1:∀(p1:List Int) (y2:Value) a w,p1=e1→St M w0 77 [(13,tv y2)] [own rI 3 p1 y2] a w→K1 a w:=by
   intro p1 y2 a w he H;subst he;refine k3 _ _ ?_;refine sr mx [] H (fun _=>.q 0 rfl<|.o (Qn z0)<|.n) fun _ a w H=>?_;have H:=H.to [0,1,2] [_,_,_] [_] rfl rfl;refine wp_ret ?_;have⟨_,hne,h⟩:=bs h;replace H:St _ _ _ [_] [] _ _:=(H.shareO 1 rfl).pick [0];obtain rfl:=sj h;exact rt undef [] hpl H (.tmp (.sn z0 (ne_ok hne)) .nil)
  refine wp_block ?_;refine QfU _ (fun (s0:Int×List Int) a w=>∃y3:Value,St M w0 77 [(62,tsl rI t1.1),(63,ti (t1.1.length:Int)),(64,ti s0.1),(13,tv y3),(8,tv y0)] [own rI 3 s0.2 y3,own rI 3 p0.1 y0] a w) _ _ h3 ⟨(.slice none 0 0),H.pick [0,1,2,3,4]⟩ ?_;clear h;intro s0 o a w K2 hI h ho k4;obtain⟨y3,H⟩:=hI;refine sr mx [] H (fun _=>.o (QcO z2 z1)<|.n) fun _ a w H=>?_;have H:=H.to [0,1,2,3,4,5] [_,_,_,_,_,_] [_,_] rfl rfl;refine wp_seq_k (fun _ k5=>?_);refine wi H h (fun b1 h=>?_) (fun b1 h=>?_)
  ·refine wp_skip (k5 _ _ ?_);refine wp_seq_k (fun _ k6=>?_);refine wp_block ?_;have⟨t2,h4,h⟩:=bs h;refine sr mx [] H (fun _=>.o (QdP ud22 tok3 z1 z3 h4)<|.o (Q3 tok3 z0)<|.o (Qn z0)<|.n) fun _ a w H=>?_;have H:=H.to [2,4,5,6,7,8] [_,_,_,_,_,_] [_,_] rfl rfl;have⟨t3,h5,u0,h6,h⟩:=bs2 h;refine wr mx [v1 6 (fun v0=>own rI 3 (s0.2++[t3]) v0)] H (fun _=>.q 4 rfl<|.q 6 rfl<|.q 2 rfl<|.u [1] rfl rfl (Qae ud22 tok3 z1 z0 h5)<|.u [1] rfl rfl (QdR tok3 z0 h5)<|.o (Qao (R:=rI) (us:=[t3]) ud22 tok3 (.cons z0<|.nil _) rfl (leb rfl))<|.e [] [0] [2] rfl rfl rfl rfl (QaP (R:=rI) ud22 tok3 (leb rfl) z5 z0 h6)<|.ud (f:=fun v=>tv v) 6 rfl [] rfl rfl (Qn z0)<|.n) fun m0 a w H=>?_;have H:=H.to [1,6,7,9,10,11,12] [_,_,_,_,_,_,_] [_,_] rfl rfl;refine k6 _ _ ?_;refine wr mx [] H (fun _=>.o (Qay z5 .k)<|.q 0 rfl<|.n) fun _ a w H=>?_;have H:=H.to [1,2,3,4,5,6,7] [_,_,_,_,_,_,_] [_,_] rfl rfl;exact k4 _ _ _ (sj h).symm ⟨(m0 6),(H.pick [4,5,0,3,6]).selA [1,0] rfl⟩
  refine wp_exit ?_;exact J1 _ y3 _ _ (ho _ (sj h).symm) ((H.pick [4]).selA [0] rfl)
 refine wp_block ?_;refine QfU _ (fun (s1:Int×List Int×List QM) a w=>∃y4:Value,∃y5:Value,St M w0 77 [(19,tsl QI s_.diffs),(20,ti (s_.diffs.length:Int)),(21,ti s1.1),(8,tv y4),(7,tv y5),(0,tptr (QF.cs s_)),(1,ti kind_),(2,rF81.ty some_)] [own rI 3 s1.2.1 y4,own Qa6 67 s1.2.2 y5] a w) _ _ h0 ⟨(.slice none 0 0),(.slice none 0 0),H.pick [0,1,2,3,4,5,6,7]⟩ ?_;clear h;intro s1 o a w K3 hI h ho k7;obtain⟨y4,y5,H⟩:=hI;refine sr mx [] H (fun _=>.o (QcO z2 z1)<|.n) fun _ a w H=>?_;have H:=H.to [0,1,2,3,4,5,6,7,8] [_,_,_,_,_,_,_,_,_] [_,_] rfl rfl;refine wp_seq_k (fun _ k8=>?_);refine wi H h (fun b2 h=>?_) (fun b2 h=>?_)
 ·refine wp_skip (k8 _ _ ?_);refine wp_seq_k (fun K4 k9=>?_);refine wp_block ?_;have⟨t4,h7,h⟩:=bs h;refine sr mx [v1 3 (fun v0=>box (QI.cs (QH.mk (0:Int) ([]:Str) (QM.mk (0:Int) (0:Int) (0:Int)))) v0),v1 3 (fun v0=>box (QI.cs t4) v0)] H (fun _=>.q 3 rfl<|.o (QdP ud76 Qiy z2 z4 h7)<|.o (Q3 Qiy z0)<|.m [] [2] rfl rfl rfl (Qbn (R:=QI) (a:=(QH.mk (0:Int) ([]:Str) (QM.mk (0:Int) (0:Int) (0:Int)))) Qiy Qzr)<|.o (Qn z3)<|.e [] [2] [3] rfl rfl rfl rfl (QaO (R:=QI) (a:=t4) Qiy z1 z2 (leb rfl))<|.n) fun _ a w H=>?_;replace H:St _ _ _ [_,_,_,_,_,_,_,_,_,_] [_,_] _ _:=((((H.pick [3,4,6,7,8,9,10,11,12,13]).selA [2,0,1] rfl).shareB 0 rfl).add 0 rfl (fun _ _ _ h=>h.2)).pick [0,3,4,5,6,7,8,9,10,11];have⟨t5,h8,h⟩:=bs h;refine sr mx [] H (fun _=>.o (QT QvK z0)<|.o (QQ (u:=t4.kind) tok3 z0 rfl)<|.q 10 rfl<|.o (QcA z1 z0)<|.q 0 rfl<|.g rfl rfl bq0 (fun _=>Qah z14)<|.g rfl rfl bq1 (fun _=>Qah z7)<|.g rfl rfl bq2 (fun hc=>Qi0 (u:=s1.1) (.cond z1 hc) (.cons (.of (.cond z0 hc))<|.nil) (Qfq h8 hc))<|.o (QcP z3 (fun hp=>(.cond z0 (beqT hp))))<|.n) fun _ a w H=>?_;have H:=H.to [8,9,10,11,12,13,14,15,16,17,18] [_,_,_,_,_,_,_,_,_,_,_] [_,_] rfl rfl;have⟨p2,h9,h⟩:=bs h;have J2:∀(y6:Value) (y7:Value) a w,St M w0 77 [(7,tv y6),(8,tv y7),(19,tsl QI s_.diffs),(20,ti (s_.diffs.length:Int)),(21,ti s1.1),(0,tptr (QF.cs s_)),(1,ti kind_),(2,rF81.ty some_)] [own Qa6 67 p2.1 y6,own rI 3 p2.2 y7] a w→K4 a w:=by
   intro y6 y7 a w H;refine k9 _ _ ?_;refine wr mx [] H (fun _=>.o (Qay z4 .k)<|.q 0 rfl<|.n) fun _ a w H=>?_;have H:=H.to [1,2,3,4,5,6,7,8] [_,_,_,_,_,_,_,_] [_,_] rfl rfl;exact k7 _ _ _ (sj h).symm ⟨y7,y6,(H.pick [3,4,0,2,1,5,6,7]).selA [1,0] rfl⟩
  replace h:=h9;clear h9;refine wi H h (fun b3 h=>?_) (fun b3 h=>?_)
  ·have⟨u1,h10,u2,h11,h⟩:=bs2 h;refine wr mx [v1 4 (fun v0=>own Qa6 67 (s1.2.2++[t4.Diff]) v0),v1 8 (fun v0=>own rI 3 (s1.2.1++[s1.1]) v0)] H (fun _=>.q 7 rfl<|.o (QT QvM z2)<|.o (QQ (u:=t4.Diff) QrV z0 rfl)<|.o (Qao (R:=Qa6) (us:=[t4.Diff]) underlying62 QrV (.cons z0<|.nil _) rfl (leb rfl))<|.e [] [1] [2] rfl rfl rfl rfl (QaP (R:=Qa6) underlying62 QrV (leb rfl) z3 z0 h10)<|.q 11 rfl<|.q 8 rfl<|.o (Qao (R:=rI) (us:=[s1.1]) ud22 tok3 (.cons z0<|.nil _) rfl (leb rfl))<|.e [] [0] [3] rfl rfl rfl rfl (QaP (R:=rI) ud22 tok3 (leb rfl) z2 z0 h11)<|.ud (f:=fun v=>tv v) 4 rfl [] rfl rfl (Qn z4)<|.ud (f:=fun v=>tv v) 8 rfl [] rfl rfl (Qn z1)<|.n) fun m1 a w H=>?_;have H:=H.to [4,8,9,10,14,15,16,17,18,19] [_,_,_,_,_,_,_,_,_,_] [_,_] rfl rfl;obtain rfl:=sj h;exact J2 (m1 4) (m1 8) _ _ (H.pick [2,3,4,5,6,7,8,9])
  refine wp_skip ?_;obtain rfl:=sj h;exact J2 y5 y4 _ _ ((H.pick [7,6,3,4,5,8,9,10]).selA [1,0] rfl)
 refine wp_exit ?_;exact J0 _ y4 y5 _ _ (ho _ (sj h).symm) (H.pick [4,5,6,7])
noncomputable def QgO (x0_:Int):Option (Bool):=(some true)
instance Qk3:Spc1 prog 31 QgO (fun x0_=>[ti x0_]) tb:=.mk fun {x0_ r} h=>by
 unfold QgO at h
 refine fe func31 ntmps31 fun M0 M w0 a hpl H=>?_
 refine sr mx [] H (fun _=>.o (Qn .k)<|.n) fun _ a w H=>?_
 have H:=H.to [] [] [] rfl rfl
 refine sr mx [] H (fun _=>.o (Qn .k)<|.n) fun _ a w H=>?_
 have H:=H.t1_0 [0]
 exact r0 h (·▸r1 hpl H (.tmp z0 .nil))
noncomputable def QfF (k_:Int) (c0_:(List (List Int))):Option (Bool):=(idx c0_ k_).bind fun t0=>(some (!t0.isEmpty))
instance Qn5:Spc2 prog 33 QfF (fun k_ c0_=>[ti k_,tptr ((rSl (rSn rI)).cs c0_)]) tb:=.mk fun {k_ c0_ r} h=>by
 unfold QfF at h
 refine fe func33 ntmps33 fun M0 M w0 a hpl H=>?_
 refine sr mx [] H (fun _=>.o (Qn .k)<|.n) fun _ a w H=>?_
 have H:=H.to [1,2] [_,_] [] rfl rfl
 have⟨t0,h0,h⟩:=bs h
 refine sr mx [] H (fun _=>.o (Q3 tokN68 z1)<|.q 1 rfl<|.o (QdP ud68 Qf9 z1 z0 h0)<|.o (Q3 Qf9 z0)<|.o (Qnn ud22 z0)<|.o (Qn z0)<|.n) fun _ a w H=>?_
 have H:=H.t1_0 [5]
 exact r0 h (·▸r1 hpl H (.tmp z0 .nil))
noncomputable def Qbk (k_:Int) (n_:Int) (c0_:(List Int)) (c1_:Bool):Option ((List Int)×Bool):=(idx c0_ k_).bind fun t0=>((if (decide (n_>t0))=true then (setAt c0_ k_ n_).bind fun t1=>(some (t1,true)) else (some (c0_,c1_)))).bind fun p0=>(some (p0.1,p0.2))
instance Qfh:SpcS prog 91 (∀{q2:Value} {vh2:Value} {q3:Value} {k_:Int} {n_:Int} {c0_:(List Int)} {c1_:Bool} {r:(List Int)×Bool},Qbk k_ n_ c0_ c1_=some r→FnOk prog 91 [ti k_,ti n_,tv q2,tv q3] [box (rVal.cs vh2) q2,own rI 3 c0_ vh2,box (QbM.cs c1_) q3] (fun _=>[box (rVal.cs vh2) q2,own rI 3 r.1 vh2,box (QbM.cs r.2) q3]) (fun _=>ttup [])):=.mk fun {q2 vh2 q3 k_ n_ c0_ c1_ r} h=>by
 unfold Qbk at h
 refine Fe func91 ntmps91 fun M0 M w0 hpl=>?_
 have⟨_,_,h⟩:=bs h
 refine Qc [1,5,6,7,8,9] ?_
 have⟨p0,h0,h⟩:=bs h
 have J0:To M w0 16 [(2,tv q2),(3,tv q3)] [box (rVal.cs vh2) q2,own rI 3 p0.1 vh2,box (QbM.cs p0.2) q3] (Ret prog f91 M0 [box (rVal.cs vh2) q2,own rI 3 c0_ vh2,box (QbM.cs c1_) q3] w0 (fun _=>[box (rVal.cs vh2) q2,own rI 3 r.1 vh2,box (QbM.cs r.2) q3]) (fun _=>ttup []) .normal):=by
  obtain rfl:=sj h;exact Qr1 undef [0,1,2] hpl
 replace h:=h0;clear h0;refine QfE 1 (fun b0=>?_) (fun b0=>?_)
 ·replace h:=QcW b0 h;have⟨t0,_,h⟩:=bs h;refine QaF [v0 (own rI 3 t0 vh2),v0 (box (QbM.cs true) q3)] [5,6] [0,4,8,9] fun m0=>?_;obtain rfl:=sj h;exact QW J0 [2,3]
 replace h:=QcX b0 h;refine QB ?_;obtain rfl:=sj h;exact QW J0 [4,5]
noncomputable def QfG (l_:Qg) (low_:(List Int)):Option (Int×Int×Bool):=((if (decide (l_.B≥0))=true then (idx low_ l_.B).bind fun t0=>(some t0) else (some (1:Int)))).bind fun p0=>(if l_.Least=true then (some (l_.A,(i64.wrap (l_.Mul * p0)),true)) else (if ((decide (l_.B<0))||(l_.Mul==0))=true then (idx low_ l_.A).bind fun t1=>(some (l_.A,(0:Int),(decide (t1≤l_.Mul)))) else (idx low_ l_.A).bind fun t2=>(nz l_.Mul).bind fun _=>(some (l_.B,(i64.wrap (Int.tdiv (i64.wrap ((i64.wrap (t2+l_.Mul)) - 1)) l_.Mul)),true))))
instance Qn6:Spc2 prog 92 QfG (fun l_ low_=>[QD.ty l_,tsl rI low_]) (fun r=>ttup [ti r.1,ti r.2.1,tb r.2.2]):=.mk fun {l_ low_ r} h=>by
 unfold QfG at h
 refine Fe func92 ntmps92 fun M0 M w0 hpl=>?_
 refine Qc [0,5] ?_
 refine Qc [0,1,2] ?_
 refine Ql fun K0 k0=>?_
 refine Qc [2,3,4,5] ?_
 have⟨p0,h0,h⟩:=bs h
 have J0:To M w0 58 [(7,ti p0),(2,tptr (QD.cs l_)),(1,tsl rI low_)] [] K0:=by
  refine k0 ?_;refine Ql fun _ k1=>?_;refine Qu ?_;refine Qc [2,3,4,5] ?_;refine Qz h (fun _ h=>?_) (fun _ h=>?_)
  ·refine Qc [6,7,8] ?_;exact Qt h (·▸Qr hpl)
  refine Qc [8,11,12] ?_;refine Qz h (fun _ h=>?_) (fun _ h=>?_)
  ·have⟨_,_,h⟩:=bs h;refine Qc [10,11,12] ?_;exact Qt h (·▸Qr hpl)
  refine QB ?_;refine k1 ?_;have⟨_,_,_,_,h⟩:=bs2 h;refine Qc [14,15,16] ?_;exact Qt h (·▸Qr hpl)
 replace h:=h0;clear h0;refine Qz h (fun _ h=>?_) (fun _ h=>?_)
 ·have⟨_,_,h⟩:=bs h;refine Q2 [5,7,8] ?_;obtain rfl:=sj h;exact QW J0 [0,1,2]
 refine QB ?_;obtain rfl:=sj h;exact QW J0 [1,2,3]
noncomputable def Qat (s_:QaI) (limits_:(Int→Option Bool)) (empty_:(Int→Option Bool)):Option (Bool):=(mk ((s_.x).Kinds.length:Int) (0:Int)).bind fun t0=>(Qo (fun (s0:List Int)=>((Qo (fun (s1:Int×List Int×Bool)=>((if (decide (s1.1<(s_.limits.length:Int)))=true then (jn (fun (p0:List Int×Bool)=>(some (.inl ((i64.wrap (s1.1+1)),p0.1,p0.2)))) fun j420=>(idx s_.limits s1.1).bind fun t1=>(limits_ s1.1).bind fun t2=>(if (!t2)=true then (j420 (s1.2.1,s1.2.2)) else (QfG t1 s1.2.1).bind fun t3=>(if (!t3.2.2)=true then (some (.inr (.inr false))) else (Qbk t3.1 t3.2.1 s1.2.1 s1.2.2).bind fun t4=>(j420 (t4.1,t4.2))))) else (some (.inr (.inl (s1.2.1,s1.2.2))))):Option ((Int×List Int×Bool)⊕((List Int×Bool)⊕(Bool))))) ((0:Int),s0,false)).bind fun e0=>(match e0 with | .inl p1=>(Qo (fun (s2:Int×List Int×Bool)=>((if (decide (s2.1<(s_.refs.length:Int)))=true then (idx s_.refs s2.1).bind fun t5=>(idx s2.2.1 t5.a0).bind fun t6=>(Qbk t5.a1 (imin (1:Int) t6) s2.2.1 s2.2.2).bind fun t7=>(some (.inl ((i64.wrap (s2.1+1)),t7.1,t7.2))) else (some (.inr (s2.2.1,s2.2.2)))):Option ((Int×List Int×Bool)⊕((List Int×Bool))))) ((0:Int),p1.1,p1.2)).bind fun p2=>(Qo (fun (s3:Int)=>((if (decide (s3<(p2.1.length:Int)))=true then (idx p2.1 s3).bind fun t8=>(opt (((decide (t8>65536))==false)&&((decide (t8>0))==true)) (empty_ s3) default).bind fun t9=>(if ((decide (t8>65536))||((decide (t8>0))&&t9))=true then (some (.inr (.inr false))) else (some (.inl (i64.wrap (s3+1))))) else (some (.inr (.inl ())))):Option ((Int)⊕((Unit)⊕(Bool))))) (0:Int)).bind fun e1=>(match e1 with | .inl _=>(if (!p2.2)=true then (some (.inr (.inl ()))) else (some (.inl p2.1))) | .inr p3=>(some (.inr (.inr p3)))) | .inr p4=>(some (.inr (.inr p4)))):Option ((List Int)⊕((Unit)⊕(Bool))))) t0).bind fun e2=>(match e2 with | .inl _=>(some true) | .inr p5=>(some p5))
instance QfH:Spc3 prog 32 Qat (fun s_ limits_ empty_=>[tptr (QF.cs s_),rF81.ty limits_,rF81.ty empty_]) tb:=.mk fun {s_ limits_ empty_ r} h=>by
 unfold Qat at h
 refine Fe func32 ntmps32 fun M0 M w0 hpl=>?_
 refine Qc [1,2,3] ?_
 refine tScope ?_
 have⟨t0,h0,h⟩:=bs h
 intro a w H
 refine sr mx [v1 6 (fun v0=>own rI 3 t0 v0),v1 7 (fun v0=>box (rVal.cs nilV) v0),v2 6 7 (fun v0 v1=>box (rVal.cs v0) v1)] H (fun _=>.q 0 rfl<|.o (Qho z0)<|.o (QT QqN z0)<|.o (QT QaL z0)<|.o (QQ (u:=(s_.x).Kinds) QkA z0 rfl)<|.o (Qe4 ud29 z0)<|.m [] [0] rfl rfl rfl (Qhy (R:=rI) ud22 tok3 zok3 (leb rfl) z0 z0 h0)<|.m [] [1] rfl rfl rfl (Qek QaW)<|.e [0] [1] [2] rfl rfl rfl rfl (Qcs (R:=rI) (e:=3) (Ts:=(rVal.cs nilV)) QaW z0 z1 (leb rfl))<|.n) fun m0 a w H=>?_
 have H:=H.to [6,7,8,9,10] [_,_,_,_,_] [_,_] rfl rfl
 refine QS H ?_
 refine Ql fun _ k0=>?_
 refine tLabel ?_
 refine k0 ?_
 refine Ql fun K0 k1=>?_
 have⟨e0,h1,h⟩:=bs h
 have J0:∀(p0:Unit),(.inl p0)=e0→To M w0 96 [] [] K0:=by
  intro p0 he;subst he;simp only at h;refine k1 ?_;refine Qc [0] ?_;exact Qt h (·▸Qr hpl)
 have J1:∀(p1:Bool),(.inr p1)=e0→To M w0 96 [(6,tb p1)] [] (Ret prog f32 M0 [] w0 (fun _=>[]) (fun _=>tb r) .ret):=by
  intro p1 he;subst he;simp only at h;obtain rfl:=sj h;exact Qr hpl
 refine Qu ?_;refine QaY h1 (fun (s0:List Int)=>[(7,tv (m0 7)),(0,tptr (QF.cs s_)),(1,rF81.ty limits_),(2,rF81.ty empty_)]) (fun (s0:List Int)=>[own rI 3 s0 (m0 6),box (rVal.cs (m0 6)) (m0 7)]) [1,2,3,4] ?_;clear h;intro s0 o K1 h ho k2;refine Qu ?_;refine QJ [v1 0 (fun v0=>box (QbM.cs false) v0),v1 0 (fun v0=>box (QbM.cs false) v0)] [1,2] [0,1,2,3,4] fun m1=>?_;refine Qc [1,2,3,4,5,6] ?_;refine Ql fun K2 k3=>?_;refine Qc [3,4,5,6,7,8,9,10,11] ?_;have⟨e1,h2,h⟩:=bs h;have J2:∀(p2:List Int×Bool),(.inl p2)=e1→To M w0 96 [(9,Qaz 91 [tv (m0 7),tv (m1 0)]),(8,tv (m1 0)),(7,tv (m0 7)),(0,tptr (QF.cs s_)),(1,rF81.ty limits_),(2,rF81.ty empty_)] [own rI 3 p2.1 (m0 6),box (rVal.cs (m0 6)) (m0 7),box (QbM.cs p2.2) (m1 0)] K2:=by
  intro p2 he;subst he;simp only at h;refine k3 ?_;refine Ql fun K3 k4=>?_;refine Qc [3,4,5,6,7,8,9,10,11] ?_;have⟨e2,h3,h⟩:=bs h;have J3:∀(p3:List Int×Bool),p3=e2→To M w0 96 [(8,tv (m1 0)),(7,tv (m0 7)),(0,tptr (QF.cs s_)),(1,rF81.ty limits_),(2,rF81.ty empty_)] [own rI 3 p3.1 (m0 6),box (rVal.cs (m0 6)) (m0 7),box (QbM.cs p3.2) (m1 0)] K3:=by
   intro p3 he;subst he;refine k4 ?_;refine Ql fun K4 k5=>?_;refine Qc [0,1,2,3,4,5,6,7] ?_;have⟨e3,h4,h⟩:=bs h;have J4:∀(p4:Unit),(.inl p4)=e3→To M w0 96 [(8,tv (m1 0)),(7,tv (m0 7)),(0,tptr (QF.cs s_)),(1,rF81.ty limits_),(2,rF81.ty empty_)] [own rI 3 p3.1 (m0 6),box (rVal.cs (m0 6)) (m0 7),box (QbM.cs p3.2) (m1 0)] K4:=by
    intro p4 he;subst he;simp only at h;refine k5 ?_;refine Qc [1,3,4,5,6] ?_;refine Q0 (fun _ _ H=>H.selA [0,1] rfl) ?_;refine Qz h (fun _ h=>?_) (fun _ h=>?_)
    ·refine Q5 ?_;refine Qaj (fun _ _ H=>(H.pick []).selA [] rfl) ?_;exact QO J0 (ho _ (sj h).symm) []
    refine QB ?_;exact QO k2 ((sj h).symm) [1,2,3,4]
   have J5:∀(p5:Bool),(.inr p5)=e3→To M w0 96 [(6,tb p5)] [] (Ret prog f32 M0 [] w0 (fun _=>[]) (fun _=>tb r) .ret):=by
    intro p5 he;subst he;simp only at h;exact QO J1 (ho _ (sj h).symm) [0]
   refine Qu ?_;refine QaY h4 (fun (s1:Int)=>[(75,tv (m0 6)),(76,ti (p3.1.length:Int)),(77,ti s1),(8,tv (m1 0)),(7,tv (m0 7)),(0,tptr (QF.cs s_)),(1,rF81.ty limits_),(2,rF81.ty empty_)]) (fun (s1:Int)=>[own rI 3 p3.1 (m0 6),box (rVal.cs (m0 6)) (m0 7),box (QbM.cs p3.2) (m1 0)]) [0,1,2,3,4,5,6,7] ?_;clear h;intro s1 o K5 h ho k6;refine Qc [0,1,2,3,4,5,6,7,8] ?_;refine Ql fun _ k7=>?_;refine Qz h (fun _ h=>?_) (fun _ h=>?_)
   ·refine QB ?_;refine k7 ?_;refine Ql fun _ k8=>?_;refine Qu ?_;have⟨_,_,h⟩:=bs h;refine Qc [3,4,6,7,8,9,10,11,12,13] ?_;have⟨_,_,h⟩:=bs h;refine Qc [10,13,14,15,16,17,18,19,20] ?_;refine Qz h (fun _ h=>?_) (fun _ h=>?_)
    ·refine Qc [0,2] ?_;refine Q0 (fun _ _ H=>H.selA [0] rfl) ?_;refine Qa5 ?_;refine Qaj (fun _ _ H=>(H.pick [0]).selA [] rfl) ?_;exact QO J5 (ho _ (sj h).symm) [0]
    refine QB ?_;refine k8 ?_;refine Q2 [1,3,4,5,6,7,8,9] ?_;exact QO k6 ((sj h).symm) [1,2,0,3,4,5,6,7]
   refine Q5 ?_;exact QO J4 (ho _ (sj h).symm) [4,5,6,7,8]
  refine Qu ?_;refine QaY h3 (fun (s2:Int×List Int×Bool)=>[(58,tsl Qaa s_.refs),(59,ti (s_.refs.length:Int)),(60,ti s2.1),(9,Qaz 91 [tv (m0 7),tv (m1 0)]),(8,tv (m1 0)),(7,tv (m0 7)),(0,tptr (QF.cs s_)),(1,rF81.ty limits_),(2,rF81.ty empty_)]) (fun (s2:Int×List Int×Bool)=>[own rI 3 s2.2.1 (m0 6),box (rVal.cs (m0 6)) (m0 7),box (QbM.cs s2.2.2) (m1 0)]) [0,1,2,3,4,5,6,7,8] ?_;clear h;intro s2 o K6 h ho k9;refine Qc [0,1,2,3,4,5,6,7,8,9] ?_;refine Ql fun _ k10=>?_;refine Qz h (fun _ h=>?_) (fun _ h=>?_)
  ·refine QB ?_;refine k10 ?_;refine Ql fun _ k11=>?_;refine Qu ?_;have⟨t1,_,h⟩:=bs h;refine QJ [v1 2 (fun v0=>box (Qaa.cs (QE.mk (0:Int) (0:Int))) v0),v1 2 (fun v0=>box (Qaa.cs t1) v0)] [3,4] [2,4,5,6,7,8,9,10,11,12] fun m2=>?_;refine Q0 (fun _ _ H=>(((H.selA [3,0,1,2] rfl).shareB 0 rfl).add 0 rfl (fun _ _ _ h=>h.2)).pick [0,3,4,5,6,7,8,9,10,11]) ?_;have⟨_,h5,t2,h6,h⟩:=bs2 h;intro a w H;refine wr mx [v0 (box (rVal.cs (m0 6)) (m0 7)),v0 (own rI 3 t2.1 (m0 6)),v0 (box (QbM.cs t2.2) (m1 0))] H (fun _=>.q 4 rfl<|.o (Qis 1 rfl Qog tok3 z1 .k (by decide))<|.o (QQ (u:=t1.a1) tok3 z0 rfl)<|.u [1] rfl rfl (QaQ QaW z9)<|.o (Qis 0 rfl Qog tok3 z4 .k (by decide))<|.o (QQ (u:=t1.a0) tok3 z0 rfl)<|.u [0] rfl rfl (Qae ud22 tok3 z2 z0 h5)<|.u [0] rfl rfl (QdR tok3 z0 h5)<|.o (Qoz .k z0)<|.e [] [1,0,2] [3,4,5] rfl rfl rfl rfl (Qe7 QoZ (Qfh.ok h6) z8 (.cons (.of z6)<|.cons (.of z0)<|.nil))<|.n) fun _ a w H=>?_;have H:=H.to [3,11,12,13,14,15,16,17,18,19] [_,_,_,_,_,_,_,_,_,_] [_,_,_] rfl rfl;refine QbZ H ?_;refine k11 ?_;refine Q2 [1,2,3,4,5,6,7,8,9,10] ?_;refine Qaj (fun _ _ H=>(H.pick [2,3,0,4,5,6,7,8,9]).selA [1,0,2] rfl) ?_;exact QO k9 ((sj h).symm) [0,1,2,3,4,5,6,7,8]
  refine Q5 ?_;exact QO J3 (ho _ (sj h).symm) [5,6,7,8,9]
 have J6:∀(p6:Bool),(.inr p6)=e1→To M w0 96 [(6,tb p6)] [] (Ret prog f32 M0 [] w0 (fun _=>[]) (fun _=>tb r) .ret):=by
  intro p6 he;subst he;simp only at h;exact QO J1 (ho _ (sj h).symm) [0]
 refine Qu ?_;refine QaY h2 (fun (s3:Int×List Int×Bool)=>[(30,tsl QD s_.limits),(31,ti (s_.limits.length:Int)),(32,ti s3.1),(9,Qaz 91 [tv (m0 7),tv (m1 0)]),(8,tv (m1 0)),(7,tv (m0 7)),(0,tptr (QF.cs s_)),(1,rF81.ty limits_),(2,rF81.ty empty_)]) (fun (s3:Int×List Int×Bool)=>[own rI 3 s3.2.1 (m0 6),box (rVal.cs (m0 6)) (m0 7),box (QbM.cs s3.2.2) (m1 0)]) [0,1,2,3,4,5,6,7,8] ?_;clear h;intro s3 o K7 h ho k12;refine Qc [0,1,2,3,4,5,6,7,8,9] ?_;refine Ql fun _ k13=>?_;refine Qz h (fun _ h=>?_) (fun _ h=>?_)
 ·refine QB ?_;refine k13 ?_;refine Ql fun K8 k14=>?_;obtain⟨j420,hj420,h⟩:=Qxe h;have J7:∀(p7:List Int×Bool),j420 p7=some o→To M w0 96 [(30,tsl QD s_.limits),(31,ti (s_.limits.length:Int)),(32,ti s3.1),(9,Qaz 91 [tv (m0 7),tv (m1 0)]),(8,tv (m1 0)),(7,tv (m0 7)),(0,tptr (QF.cs s_)),(1,rF81.ty limits_),(2,rF81.ty empty_)] [own rI 3 p7.1 (m0 6),box (rVal.cs (m0 6)) (m0 7),box (QbM.cs p7.2) (m1 0)] K8:=by
   intro p7 h;rw[hj420] at h;clear hj420;refine k14 ?_;refine Q2 [1,2,3,4,5,6,7,8,9] ?_;exact QO k12 ((sj h).symm) [1,2,0,3,4,5,6,7,8]
  clear hj420;refine Qu ?_;have⟨t3,_,h⟩:=bs h;refine QJ [v1 3 (fun v0=>box (QD.cs (Qg.mk (0:Int) (0:Int) (0:Int) false)) v0),v1 3 (fun v0=>box (QD.cs t3) v0)] [4,6] [3,4,6,7,8,9,10,11,12,13,14] fun m3=>?_;refine Q0 (fun _ _ H=>(((H.selA [3,0,1,2] rfl).shareB 0 rfl).add 0 rfl (fun _ _ _ h=>h.2)).pick [0,3,4,5,6,7,8,9,10,11,12]) ?_;have⟨_,_,h⟩:=bs h;refine tIfs h [3,4,6,7,8,9,10,11,12,13,14] (fun _ h=>?_) (fun _ h=>?_)
  ·refine Q5 ?_;exact QO J7 h [2,3,4,5,6,7,8,9,10]
  have⟨t4,h7,h⟩:=bs h;intro a w H;refine sr mx [] H (fun _=>.o (Q3 QoN z1)<|.u [1] rfl rfl (QaQ QaW z8)<|.u [0] rfl rfl (Qe6 [own rI 3 s3.2.1 (m0 6)] QtM (Qn6.ok h7) (.cons (.of z1)<|.cons (.own z0 (.head _))<|.nil) (fun _=>(Qvi (QjP Qc5 (QjP Qc5 (QjP Qc5 Qvj))))) (fun _=>QgJ (x:=undef)))<|.q 0 rfl<|.o (Q8 z0 rfl)<|.o (Q8 z1 rfl)<|.o (Q8 z2 rfl)<|.o (Qn z2)<|.o (Qn z2)<|.o (Qn z2)<|.n) fun _ a w H=>?_;have H:=H.to [1,7,8,9,12,13,14,15,16,17,18,19,20] [_,_,_,_,_,_,_,_,_,_,_,_,_] [_,_,_] rfl rfl;refine QS H ?_;refine tIfs h [1,2,3,4,6,7,8,9,10,11,12,13,14] (fun _ h=>?_) (fun _ h=>?_)
  ·refine Qc [0,2] ?_;refine Q0 (fun _ _ H=>H.selA [0] rfl) ?_;refine Qa5 ?_;refine Qaj (fun _ _ H=>(H.pick [0]).selA [] rfl) ?_;exact QO J6 (ho _ (sj h).symm) [0]
  have⟨t5,h8,h⟩:=bs h;intro a w H;refine wr mx [v0 (box (rVal.cs (m0 6)) (m0 7)),v0 (own rI 3 t5.1 (m0 6)),v0 (box (QbM.cs t5.2) (m1 0))] H (fun _=>.q 7 rfl<|.q 3 rfl<|.q 5 rfl<|.e [] [1,0,2] [3,4,5] rfl rfl rfl rfl (Qe7 QoZ (Qfh.ok h8) z2 (.cons (.of z1)<|.cons (.of z0)<|.nil))<|.n) fun _ a w H=>?_;have H:=H.to [5,8,9,10,11,12,13,14,15,16] [_,_,_,_,_,_,_,_,_,_] [_,_,_] rfl rfl;refine QbZ H ?_;refine Qaj (fun _ _ H=>(H.pick [1,2,3,4,5,6,7,8,9]).selA [1,0,2] rfl) ?_;exact QO J7 h [0,1,2,3,4,5,6,7,8]
 refine Q5 ?_;exact QO J2 (ho _ (sj h).symm) [4,5,6,7,8,9]
noncomputable def Qg4 (x_:Int):Option (Int):=(idx ([0,1,1,2,1,2,2,3,1,2,2,3,2,3,3,4,1,2,2,3,2,3,3,4,2,3,3,4,3,4,4,5,1,2,2,3,2,3,3,4,2,3,3,4,3,4,4,5,2,3,3,4,3,4,4,5,3,4,4,5,4,5,5,6,1,2,2,3,2,3,3,4,2,3,3,4,3,4,4,5,2,3,3,4,3,4,4,5,3,4,4,5,4,5,5,6,2,3,3,4,3,4,4,5,3,4,4,5,4,5,5,6,3,4,4,5,4,5,5,6,4,5,5,6,5,6,6,7,1,2,2,3,2,3,3,4,2,3,3,4,3,4,4,5,2,3,3,4,3,4,4,5,3,4,4,5,4,5,5,6,2,3,3,4,3,4,4,5,3,4,4,5,4,5,5,6,3,4,4,5,4,5,5,6,4,5,5,6,5,6,6,7,2,3,3,4,3,4,4,5,3,4,4,5,4,5,5,6,3,4,4,5,4,5,5,6,4,5,5,6,5,6,6,7,3,4,4,5,4,5,5,6,4,5,5,6,5,6,6,7,4,5,5,6,5,6,6,7,5,6,6,7,6,7,7,8]:Str) (ishr .u32 x_ (24:Int))).bind fun t0=>(idx ([0,1,1,2,1,2,2,3,1,2,2,3,2,3,3,4,1,2,2,3,2,3,3,4,2,3,3,4,3,4,4,5,1,2,2,3,2,3,3,4,2,3,3,4,3,4,4,5,2,3,3,4,3,4,4,5,3,4,4,5,4,5,5,6,1,2,2,3,2,3,3,4,2,3,3,4,3,4,4,5,2,3,3,4,3,4,4,5,3,4,4,5,4,5,5,6,2,3,3,4,3,4,4,5,3,4,4,5,4,5,5,6,3,4,4,5,4,5,5,6,4,5,5,6,5,6,6,7,1,2,2,3,2,3,3,4,2,3,3,4,3,4,4,5,2,3,3,4,3,4,4,5,3,4,4,5,4,5,5,6,2,3,3,4,3,4,4,5,3,4,4,5,4,5,5,6,3,4,4,5,4,5,5,6,4,5,5,6,5,6,6,7,2,3,3,4,3,4,4,5,3,4,4,5,4,5,5,6,3,4,4,5,4,5,5,6,4,5,5,6,5,6,6,7,3,4,4,5,4,5,5,6,4,5,5,6,5,6,6,7,4,5,5,6,5,6,6,7,5,6,6,7,6,7,7,8]:Str) (iand .u32 (ishr .u32 x_ (16:Int)) (255:Int))).bind fun t1=>(idx ([0,1,1,2,1,2,2,3,1,2,2,3,2,3,3,4,1,2,2,3,2,3,3,4,2,3,3,4,3,4,4,5,1,2,2,3,2,3,3,4,2,3,3,4,3,4,4,5,2,3,3,4,3,4,4,5,3,4,4,5,4,5,5,6,1,2,2,3,2,3,3,4,2,3,3,4,3,4,4,5,2,3,3,4,3,4,4,5,3,4,4,5,4,5,5,6,2,3,3,4,3,4,4,5,3,4,4,5,4,5,5,6,3,4,4,5,4,5,5,6,4,5,5,6,5,6,6,7,1,2,2,3,2,3,3,4,2,3,3,4,3,4,4,5,2,3,3,4,3,4,4,5,3,4,4,5,4,5,5,6,2,3,3,4,3,4,4,5,3,4,4,5,4,5,5,6,3,4,4,5,4,5,5,6,4,5,5,6,5,6,6,7,2,3,3,4,3,4,4,5,3,4,4,5,4,5,5,6,3,4,4,5,4,5,5,6,4,5,5,6,5,6,6,7,3,4,4,5,4,5,5,6,4,5,5,6,5,6,6,7,4,5,5,6,5,6,6,7,5,6,6,7,6,7,7,8]:Str) (iand .u32 (ishr .u32 x_ (8:Int)) (255:Int))).bind fun t2=>(idx ([0,1,1,2,1,2,2,3,1,2,2,3,2,3,3,4,1,2,2,3,2,3,3,4,2,3,3,4,3,4,4,5,1,2,2,3,2,3,3,4,2,3,3,4,3,4,4,5,2,3,3,4,3,4,4,5,3,4,4,5,4,5,5,6,1,2,2,3,2,3,3,4,2,3,3,4,3,4,4,5,2,3,3,4,3,4,4,5,3,4,4,5,4,5,5,6,2,3,3,4,3,4,4,5,3,4,4,5,4,5,5,6,3,4,4,5,4,5,5,6,4,5,5,6,5,6,6,7,1,2,2,3,2,3,3,4,2,3,3,4,3,4,4,5,2,3,3,4,3,4,4,5,3,4,4,5,4,5,5,6,2,3,3,4,3,4,4,5,3,4,4,5,4,5,5,6,3,4,4,5,4,5,5,6,4,5,5,6,5,6,6,7,2,3,3,4,3,4,4,5,3,4,4,5,4,5,5,6,3,4,4,5,4,5,5,6,4,5,5,6,5,6,6,7,3,4,4,5,4,5,5,6,4,5,5,6,5,6,6,7,4,5,5,6,5,6,6,7,5,6,6,7,6,7,7,8]:Str) (iand .u32 x_ (255:Int))).bind fun t3=>(some (i64.wrap (u8.wrap ((u8.wrap ((u8.wrap ((t0.toNat:Int)+(t1.toNat:Int)))+(t2.toNat:Int)))+(t3.toNat:Int)))))
instance QsK:Spc1 prog 94 Qg4 (fun x_=>[tv (.int .u32 x_)]) ti:=.mk fun {x_ r} h=>by
 unfold Qg4 at h
 refine Fe func94 ntmps94 fun M0 M w0 hpl=>?_
 refine Qc [1] ?_
 have⟨t0,h0,t1,h1,t2,h2,t3,h3,h⟩:=bs4 h
 intro a w H
 refine sr mx [] H (fun _=>.q 0 rfl<|.o (QbH z0 .k (by decide))<|.o (Qir ud9 .k z0 h0)<|.q 3 rfl<|.o (QbH z0 .k (by decide))<|.o (Qce z0 .k)<|.o (Qir ud9 .k z0 h1)<|.o (Qay z4 z0)<|.q 8 rfl<|.o (QbH z0 .k (by decide))<|.o (Qce z0 .k)<|.o (Qir ud9 .k z0 h2)<|.o (Qay z4 z0)<|.q 13 rfl<|.o (Qce z0 .k)<|.o (Qir ud9 .k z0 h3)<|.o (Qay z3 z0)<|.o (Qfp underlying5 ud3 z0)<|.o (Qn z0)<|.n) fun _ a w H=>?_
 have H:=H.t1_0 [18]
 refine QS H ?_
 exact Qt h (·▸Qr hpl)
noncomputable def QdW (x_:Int):Option (Int):=(some (iand .i64 (i64.wrap (u64.wrap ((u64.wrap ((u64.wrap ((iand .u64 (u64.wrap ((ishr .u64 (u64.wrap ((iand .u64 (ishr .u64 (u64.wrap ((iand .u64 (ishr .u64 x_ (1:Int)) (6148914691236517205:Int))+(iand .u64 x_ (6148914691236517205:Int)))) (2:Int)) (3689348814741910323:Int))+(iand .u64 (u64.wrap ((iand .u64 (ishr .u64 x_ (1:Int)) (6148914691236517205:Int))+(iand .u64 x_ (6148914691236517205:Int)))) (3689348814741910323:Int)))) (4:Int))+(u64.wrap ((iand .u64 (ishr .u64 (u64.wrap ((iand .u64 (ishr .u64 x_ (1:Int)) (6148914691236517205:Int))+(iand .u64 x_ (6148914691236517205:Int)))) (2:Int)) (3689348814741910323:Int))+(iand .u64 (u64.wrap ((iand .u64 (ishr .u64 x_ (1:Int)) (6148914691236517205:Int))+(iand .u64 x_ (6148914691236517205:Int)))) (3689348814741910323:Int)))))) (1085102592571150095:Int))+(ishr .u64 (iand .u64 (u64.wrap ((ishr .u64 (u64.wrap ((iand .u64 (ishr .u64 (u64.wrap ((iand .u64 (ishr .u64 x_ (1:Int)) (6148914691236517205:Int))+(iand .u64 x_ (6148914691236517205:Int)))) (2:Int)) (3689348814741910323:Int))+(iand .u64 (u64.wrap ((iand .u64 (ishr .u64 x_ (1:Int)) (6148914691236517205:Int))+(iand .u64 x_ (6148914691236517205:Int)))) (3689348814741910323:Int)))) (4:Int))+(u64.wrap ((iand .u64 (ishr .u64 (u64.wrap ((iand .u64 (ishr .u64 x_ (1:Int)) (6148914691236517205:Int))+(iand .u64 x_ (6148914691236517205:Int)))) (2:Int)) (3689348814741910323:Int))+(iand .u64 (u64.wrap ((iand .u64 (ishr .u64 x_ (1:Int)) (6148914691236517205:Int))+(iand .u64 x_ (6148914691236517205:Int)))) (3689348814741910323:Int)))))) (1085102592571150095:Int)) (8:Int))))+(ishr .u64 (u64.wrap ((iand .u64 (u64.wrap ((ishr .u64 (u64.wrap ((iand .u64 (ishr .u64 (u64.wrap ((iand .u64 (ishr .u64 x_ (1:Int)) (6148914691236517205:Int))+(iand .u64 x_ (6148914691236517205:Int)))) (2:Int)) (3689348814741910323:Int))+(iand .u64 (u64.wrap ((iand .u64 (ishr .u64 x_ (1:Int)) (6148914691236517205:Int))+(iand .u64 x_ (6148914691236517205:Int)))) (3689348814741910323:Int)))) (4:Int))+(u64.wrap ((iand .u64 (ishr .u64 (u64.wrap ((iand .u64 (ishr .u64 x_ (1:Int)) (6148914691236517205:Int))+(iand .u64 x_ (6148914691236517205:Int)))) (2:Int)) (3689348814741910323:Int))+(iand .u64 (u64.wrap ((iand .u64 (ishr .u64 x_ (1:Int)) (6148914691236517205:Int))+(iand .u64 x_ (6148914691236517205:Int)))) (3689348814741910323:Int)))))) (1085102592571150095:Int))+(ishr .u64 (iand .u64 (u64.wrap ((ishr .u64 (u64.wrap ((iand .u64 (ishr .u64 (u64.wrap ((iand .u64 (ishr .u64 x_ (1:Int)) (6148914691236517205:Int))+(iand .u64 x_ (6148914691236517205:Int)))) (2:Int)) (3689348814741910323:Int))+(iand .u64 (u64.wrap ((iand .u64 (ishr .u64 x_ (1:Int)) (6148914691236517205:Int))+(iand .u64 x_ (6148914691236517205:Int)))) (3689348814741910323:Int)))) (4:Int))+(u64.wrap ((iand .u64 (ishr .u64 (u64.wrap ((iand .u64 (ishr .u64 x_ (1:Int)) (6148914691236517205:Int))+(iand .u64 x_ (6148914691236517205:Int)))) (2:Int)) (3689348814741910323:Int))+(iand .u64 (u64.wrap ((iand .u64 (ishr .u64 x_ (1:Int)) (6148914691236517205:Int))+(iand .u64 x_ (6148914691236517205:Int)))) (3689348814741910323:Int)))))) (1085102592571150095:Int)) (8:Int)))) (16:Int))))+(ishr .u64 (u64.wrap ((u64.wrap ((iand .u64 (u64.wrap ((ishr .u64 (u64.wrap ((iand .u64 (ishr .u64 (u64.wrap ((iand .u64 (ishr .u64 x_ (1:Int)) (6148914691236517205:Int))+(iand .u64 x_ (6148914691236517205:Int)))) (2:Int)) (3689348814741910323:Int))+(iand .u64 (u64.wrap ((iand .u64 (ishr .u64 x_ (1:Int)) (6148914691236517205:Int))+(iand .u64 x_ (6148914691236517205:Int)))) (3689348814741910323:Int)))) (4:Int))+(u64.wrap ((iand .u64 (ishr .u64 (u64.wrap ((iand .u64 (ishr .u64 x_ (1:Int)) (6148914691236517205:Int))+(iand .u64 x_ (6148914691236517205:Int)))) (2:Int)) (3689348814741910323:Int))+(iand .u64 (u64.wrap ((iand .u64 (ishr .u64 x_ (1:Int)) (6148914691236517205:Int))+(iand .u64 x_ (6148914691236517205:Int)))) (3689348814741910323:Int)))))) (1085102592571150095:Int))+(ishr .u64 (iand .u64 (u64.wrap ((ishr .u64 (u64.wrap ((iand .u64 (ishr .u64 (u64.wrap ((iand .u64 (ishr .u64 x_ (1:Int)) (6148914691236517205:Int))+(iand .u64 x_ (6148914691236517205:Int)))) (2:Int)) (3689348814741910323:Int))+(iand .u64 (u64.wrap ((iand .u64 (ishr .u64 x_ (1:Int)) (6148914691236517205:Int))+(iand .u64 x_ (6148914691236517205:Int)))) (3689348814741910323:Int)))) (4:Int))+(u64.wrap ((iand .u64 (ishr .u64 (u64.wrap ((iand .u64 (ishr .u64 x_ (1:Int)) (6148914691236517205:Int))+(iand .u64 x_ (6148914691236517205:Int)))) (2:Int)) (3689348814741910323:Int))+(iand .u64 (u64.wrap ((iand .u64 (ishr .u64 x_ (1:Int)) (6148914691236517205:Int))+(iand .u64 x_ (6148914691236517205:Int)))) (3689348814741910323:Int)))))) (1085102592571150095:Int)) (8:Int))))+(ishr .u64 (u64.wrap ((iand .u64 (u64.wrap ((ishr .u64 (u64.wrap ((iand .u64 (ishr .u64 (u64.wrap ((iand .u64 (ishr .u64 x_ (1:Int)) (6148914691236517205:Int))+(iand .u64 x_ (6148914691236517205:Int)))) (2:Int)) (3689348814741910323:Int))+(iand .u64 (u64.wrap ((iand .u64 (ishr .u64 x_ (1:Int)) (6148914691236517205:Int))+(iand .u64 x_ (6148914691236517205:Int)))) (3689348814741910323:Int)))) (4:Int))+(u64.wrap ((iand .u64 (ishr .u64 (u64.wrap ((iand .u64 (ishr .u64 x_ (1:Int)) (6148914691236517205:Int))+(iand .u64 x_ (6148914691236517205:Int)))) (2:Int)) (3689348814741910323:Int))+(iand .u64 (u64.wrap ((iand .u64 (ishr .u64 x_ (1:Int)) (6148914691236517205:Int))+(iand .u64 x_ (6148914691236517205:Int)))) (3689348814741910323:Int)))))) (1085102592571150095:Int))+(ishr .u64 (iand .u64 (u64.wrap ((ishr .u64 (u64.wrap ((iand .u64 (ishr .u64 (u64.wrap ((iand .u64 (ishr .u64 x_ (1:Int)) (6148914691236517205:Int))+(iand .u64 x_ (6148914691236517205:Int)))) (2:Int)) (3689348814741910323:Int))+(iand .u64 (u64.wrap ((iand .u64 (ishr .u64 x_ (1:Int)) (6148914691236517205:Int))+(iand .u64 x_ (6148914691236517205:Int)))) (3689348814741910323:Int)))) (4:Int))+(u64.wrap ((iand .u64 (ishr .u64 (u64.wrap ((iand .u64 (ishr .u64 x_ (1:Int)) (6148914691236517205:Int))+(iand .u64 x_ (6148914691236517205:Int)))) (2:Int)) (3689348814741910323:Int))+(iand .u64 (u64.wrap ((iand .u64 (ishr .u64 x_ (1:Int)) (6148914691236517205:Int))+(iand .u64 x_ (6148914691236517205:Int)))) (3689348814741910323:Int)))))) (1085102592571150095:Int)) (8:Int)))) (16:Int)))) (32:Int))))) (127:Int)))
instance QsL:Spc1 prog 95 QdW (fun x_=>[tv (.int .u64 x_)]) ti:=.mk fun {x_ r} h=>by
 unfold QdW at h
 refine Fe func95 ntmps95 fun M0 M w0 hpl=>?_
 refine Qc [1] ?_
 intro a w H
 refine sr mx [] H (fun _=>.q 0 rfl<|.o (QbH z0 .k (by decide))<|.o (Qce z0 .k)<|.q 3 rfl<|.o (Qce z0 .k)<|.o (Qay z2 z0)<|.o (Qn z0)<|.n) fun _ a w H=>?_
 have H:=H.t1_0 [6]
 refine QS H ?_
 intro a w H
 refine sr mx [] H (fun _=>.q 0 rfl<|.o (QbH z0 .k (by decide))<|.o (Qce z0 .k)<|.q 3 rfl<|.o (Qce z0 .k)<|.o (Qay z2 z0)<|.o (Qn z0)<|.n) fun _ a w H=>?_
 have H:=H.t1_0 [6]
 refine QS H ?_
 intro a w H
 refine sr mx [] H (fun _=>.q 0 rfl<|.o (QbH z0 .k (by decide))<|.q 2 rfl<|.o (Qay z1 z0)<|.o (Qce z0 .k)<|.o (Qn z0)<|.n) fun _ a w H=>?_
 have H:=H.t1_0 [5]
 refine QS H ?_
 intro a w H
 refine sr mx [] H (fun _=>.q 0 rfl<|.q 1 rfl<|.o (QbH z0 .k (by decide))<|.o (Qay z2 z0)<|.o (Qn z0)<|.n) fun _ a w H=>?_
 have H:=H.t1_0 [4]
 refine QS H ?_
 intro a w H
 refine sr mx [] H (fun _=>.q 0 rfl<|.q 1 rfl<|.o (QbH z0 .k (by decide))<|.o (Qay z2 z0)<|.o (Qn z0)<|.n) fun _ a w H=>?_
 have H:=H.t1_0 [4]
 refine QS H ?_
 intro a w H
 refine sr mx [] H (fun _=>.q 0 rfl<|.q 1 rfl<|.o (QbH z0 .k (by decide))<|.o (Qay z2 z0)<|.o (Qn z0)<|.n) fun _ a w H=>?_
 have H:=H.t1_0 [4]
 refine QS H ?_
 intro a w H
 refine sr mx [] H (fun _=>.q 0 rfl<|.o (Qfp Ql3 ud3 z0)<|.o (Qce z0 .k)<|.o (Qn z0)<|.n) fun _ a w H=>?_
 have H:=H.t1_0 [3]
 refine QS H ?_
 exact Qt h (·▸Qr hpl)
noncomputable def QbT (x_:Int):Option (Int):=(QdW x_).bind fun t0=>(some t0)
instance Qg5:Spc1 prog 35 QbT (fun x_=>[tv (.int .u64 x_)]) ti:=.mk fun {x_ r} h=>by
 unfold QbT at h
 refine Fe func35 ntmps35 fun M0 M w0 hpl=>?_
 refine Qc [1] ?_
 refine Ql fun _ k0=>?_
 refine Qq5 ?_
 refine QB ?_
 refine k0 ?_
 have⟨_,_,h⟩:=bs h
 refine Qc [2] ?_
 exact Qt h (·▸Qr hpl)
noncomputable def Qec {S:Type} (Y:S→Int→Option (S⊕S)) (s_:S) (n_:Int):Option (S⊕S):=(Qo (fun (s0:Int×S)=>((if (decide (s0.1<(i64.wrap (n_+1))))=true then (nn n_).bind fun _=>(Qo (fun (s1:Int×S)=>((if (decide (s1.1<(ishl .u64 (1:Int) n_)))=true then (QbT s1.1).bind fun t0=>((if (t0==s0.1)=true then Y s1.2 s1.1 else some (.inl s1.2))).bind fun t1=>(match t1 with | .inl s2=>(some (.inl (u64.wrap (s1.1+1),s2))) | .inr s2=>(some (.inr (.inr s2)))) else (some (.inr (.inl s1.2)))):Option ((Int×S)⊕(S⊕S)))) ((0:Int),s0.2)).bind fun e0=>(match e0 with | .inl s2=>(some (.inl (i64.wrap (s0.1+1),s2))) | .inr s2=>(some (.inr (.inr s2)))) else (some (.inr (.inl s0.2)))):Option ((Int×S)⊕(S⊕S)))) ((0:Int),s_))
theorem Qh0 {S:Type} {Y:S→Int→Option (S⊕S)} {s_:S} {n_:Int} {r:S⊕S} (h:Qec Y s_ n_=some r):Qod prog 93 [tptr (rI.cs n_)] .u64 Y s_ r:=by
 intro l W g0 hY;refine⟨fun _=>ttup [],?_⟩;unfold Qec at h;refine fe func93 ntmps93 fun M0 M w0 a hpl H=>?_;refine wp_seq_k (fun K0 k0=>?_);refine wr mx [] H (fun _=>.o (Q3 (R:=rI) (u:=n_) tok3 z1)<|.o (Qay z0 .k)<|.o (Qah .k)<|.n) fun _ a w H=>?_;have H:=H.to [2,1,3,4] [_,_,_,_] [_] rfl rfl;refine k0 _ _ ?_;clear k0 K0;refine wp_block ?_;refine QfU _ (fun (s0:Int×S) a w=>∃g:Value,St M w0 27 [(7,ti s0.1),(6,ti (i64.wrap (n_+1))),(0,tv (.func (.yield l) #[] #[])),(1,tptr (rI.cs n_))] [W (.inl s0.2) g] a w) _ _ h ⟨g0,H⟩ ?_;clear h;intro s0 o a w K1 hI h ho k1;obtain⟨g1,H⟩:=hI;refine wp_seq_k (fun K2 k2=>?_);refine wr mx [] H (fun _=>.o (QcO z0 z1)<|.n) fun _ a w H=>?_;replace H:St _ _ _ [_,_,_,_,_] [_] _ _:=H;refine k2 _ _ ?_;clear k2 K2;refine wp_seq_k (fun K3 k3=>?_);refine wi H h (fun b0 h=>?_) (fun b0 h=>?_)
 ·have⟨u0,h0,e0,h1,h⟩:=bs2 h;refine wp_skip (k3 _ _ ?_);clear k3 K3;refine wp_seq_k (fun K4 k4=>?_);refine wp_block ?_;refine wp_seq_k (fun K5 k5=>?_);refine wr mx [] H (fun _=>.q 1 rfl<|.o (Qn z0)<|.n) fun _ a w H=>?_;have H:=H.to [1,3,4,5,6] [_,_,_,_,_] [_] rfl rfl;refine k5 _ _ ?_;clear k5 K5;refine wp_seq_k (fun K6 k6=>?_);refine wr mx [] H (fun _=>.o (Q3 (R:=rI) (u:=n_) tok3 z4)<|.o (Qxh .k z0 (QlQ h0))<|.o (Qah .k)<|.n) fun _ a w H=>?_;have H:=H.to [2,1,3,4,5,6,7] [_,_,_,_,_,_,_] [_] rfl rfl;refine k6 _ _ ?_;clear k6 K6;refine wp_block ?_;have hJ:∀(g:Value) (s1:S) a w,e0=.inl s1→St M w0 27 [(7,ti s0.1),(6,ti (i64.wrap (n_+1))),(0,tv (.func (.yield l) #[] #[])),(1,tptr (rI.cs n_))] [W (.inl s1) g] a w→K4 a w:=by
   intro g s1 a w he H;subst he;simp only at h;refine k4 _ _ ?_;refine wr mx [] H (fun _=>.o (Qay z0 .k)<|.q 0 rfl<|.n) fun _ a w H=>?_;have H:=H.to [1,2,3,4] [_,_,_,_] [_] rfl rfl;exact k1 _ _ _ (sj h).symm ⟨g,H⟩
  have hX:∀(g:Value) (s1:S) a w,e0=.inr s1→St M w0 27 [] [W (.inr s1) g] a w→Ret prog f93 M0 [W (.inl s_) g0] w0 (fun x=>[W r x]) (fun _=>ttup []) .ret a w:=by
   intro g s1 a w he H;subst he;simp only at h;obtain rfl:=ho _ (sj h).symm;exact rt g [0] hpl H .nil
  clear h ho k1 k4;refine QfU _ (fun (s2:Int×S) a w=>∃g:Value,St M w0 27 [(12,tv (.int .u64 s2.1)),(11,tv (.int .u64 (ishl .u64 (1:Int) n_))),(3,ti s0.1),(7,ti s0.1),(6,ti (i64.wrap (n_+1))),(0,tv (.func (.yield l) #[] #[])),(1,tptr (rI.cs n_))] [W (.inl s2.2) g] a w) _ _ h1 ⟨g1,H⟩ ?_;clear h1;intro s2 o2 a w K7 hI h ho k7;obtain⟨g2,H⟩:=hI;refine wp_seq_k (fun K8 k8=>?_);refine wr mx [] H (fun _=>.o (QcO z0 z1)<|.n) fun _ a w H=>?_;replace H:St _ _ _ [_,_,_,_,_,_,_,_] [_] _ _:=H;refine k8 _ _ ?_;clear k8 K8;refine wp_seq_k (fun K9 k9=>?_);refine wi H h (fun b1 h=>?_) (fun b1 h=>?_)
  ·have⟨t0,h2,t1,h3,h⟩:=bs2 h;refine wp_skip (k9 _ _ ?_);clear k9 K9;refine wp_seq_k (fun _ k10=>?_);refine wp_block ?_;refine wp_seq_k (fun K10 k11=>?_);refine wr mx [] H (fun _=>.q 1 rfl<|.o (Qn z0)<|.n) fun _ a w H=>?_;have H:=H.to [1,3,4,5,6,7,8,9] [_,_,_,_,_,_,_,_] [_] rfl rfl;refine k11 _ _ ?_;clear k11 K10;refine wp_seq_k (fun K11 k12=>?_);refine QcB mixed [v1 7 (fun v0=>bif (t0==s0.1)==true then W t1 v0 else W (.inl s2.2) g2)] H (fun m0=>.q 0 rfl<|.o (QC QoW (Qg5.ok h2) (.cons (.of z0)<|.nil))<|.q 5 rfl<|.o (QcA z1 z0)<|.q 0 rfl<|.g rfl rfl bq0 (fun _=>Qah z11)<|.g rfl rfl bq1 (fun _=>Qah z6)<|.ge (N:=fun c v0=>[bif c then W t1 v0 else W (.inl s2.2) g2]) [] [0] [1] rfl rfl rfl rfl rfl bq2 (fun hc=>Qs3 (.cond z1 hc) (.cond z0 hc) (hY _ _ _ _ ((if_pos (by simpa using hc)).symm.trans h3))) rfl<|.g rfl rfl bq3 (fun hc=>Qin (.cond z0 hc))<|.o (QcP z4 (fun hp=>(.cond z0 (beqT hp))))<|.nil _ _) (by kernel_rfl) (fun m0 a w H=>?_);refine k12 _ _ ?_;clear k12 K11;have hW:∃g,(bif (t0==s0.1)==true then W t1 (m0 7) else W (.inl s2.2) g2)=W t1 g:=by
    cases hc:(t0==s0.1) with
    | true=>exact⟨m0 7,rfl⟩
    | false=>rw[hc,if_neg (by simp)] at h3;obtain rfl:=sj h3;exact⟨g2,rfl⟩
   obtain⟨g3,hW⟩:=hW;have H3:St M w0 27 [(24,tb ((t0==s0.1)&&!t1.isLeft)),(12,tv (.int .u64 s2.1)),(11,tv (.int .u64 (ishl .u64 (1:Int) n_))),(3,ti s0.1),(7,ti s0.1),(6,ti (i64.wrap (n_+1))),(0,tv (.func (.yield l) #[] #[])),(1,tptr (rI.cs n_))] [W t1 g3] a w:=by
    have H2:St M w0 27 [(24,tb ((t0==s0.1)&&!t1.isLeft)),(12,tv (.int .u64 s2.1)),(11,tv (.int .u64 (ishl .u64 (1:Int) n_))),(3,ti s0.1),(7,ti s0.1),(6,ti (i64.wrap (n_+1))),(0,tv (.func (.yield l) #[] #[])),(1,tptr (rI.cs n_))] [bif (t0==s0.1)==true then W t1 (m0 7) else W (.inl s2.2) g2] a w:=H.pick [9,11,12,13,14,15,16,17];rw[hW] at H2;exact H2
   replace H:=H3;refine wt H (fun b2=>?_) (fun b2=>?_)
   ·cases t1 with
    | inl s1=>simp at b2
    | inr s1=>
     simp only at h;refine wp_ret ?_;exact hX g3 s1 _ _ (ho _ (sj h).symm).symm (H.pick [])
   cases t1 with
   | inl s1=>
    simp only at h;refine wp_skip (k10 _ _ ?_);refine wr mx [] H (fun _=>.o (Qay z1 .k)<|.q 0 rfl<|.n) fun _ a w H=>?_;have H:=H.to [1,3,4,5,6,7,8] [_,_,_,_,_,_,_] [_] rfl rfl;exact k7 _ _ _ (sj h).symm ⟨g3,H⟩
   | inr s1=>
    exfalso;cases hc:(t0==s0.1) with
    | true=>rw[hc] at b2;simp at b2
    | false=>rw[hc,if_neg (by simp)] at h3;cases sj h3
  refine wp_exit ?_;exact hJ g2 _ _ _ (ho _ (sj h).symm).symm (H.pick [4,5,6,7])
 refine wp_exit ?_;obtain rfl:=ho _ (sj h).symm;exact QqJ g1 [0] hpl H rfl .nil rfl rfl rfl
theorem Qj8 {n_:Int}:FnOk prog 34 [ti n_] [] (fun _=>[]) (fun _=>Qaz 93 [tptr (rI.cs n_)]):=by
 refine fe func34 ntmps34 fun M0 M w0 a hpl H=>?_;refine wp_seq_k (fun K0 k0=>?_);refine wr mx [] H (fun _=>.o (Qkt (R:=rI) (u:=n_) z0)<|.o (Qn .k)<|.n) fun _ a w H=>?_;have H:=H.t1_0 [0];refine k0 _ _ ?_;clear k0 K0;refine wp_seq_k (fun _ k1=>?_);refine wr mx [] H (fun _=>.o (Qhz (.cons z0<|.nil))<|.o (Qn z0)<|.n) fun _ a w H=>?_;have H:=H.t1_0 [1];refine k1 _ _ ?_;refine wp_ret ?_;exact rt undef [] hpl H (.tmp z0 .nil)
noncomputable def QdS (i_:Int) (c0_:Int):Option (Bool):=(nn i_).bind fun _=>(some ((iand .u64 (ishr .u64 c0_ i_) (1:Int))==1))
instance Qn7:Spc2 prog 36 QdS (fun i_ c0_=>[ti i_,tptr ((rInt .u64).cs c0_)]) tb:=.mk fun {i_ c0_ r} h=>by
 unfold QdS at h
 refine Fe func36 ntmps36 fun M0 M w0 hpl=>?_
 refine Qc [1,2] ?_
 have⟨_,h0,h⟩:=bs h
 intro a w H
 refine sr mx [] H (fun _=>.o (Q3 QgG z1)<|.q 1 rfl<|.o (QbH z1 z0 (QlQ h0))<|.o (Qce z0 .k)<|.o (QcA z0 .k)<|.o (Qn z0)<|.n) fun _ a w H=>?_
 have H:=H.t1_0 [5]
 refine QS H ?_
 exact Qt h (·▸Qr hpl)
noncomputable def QdT (k_:Int) (c0_:Int):Option (Bool):=(nn k_).bind fun _=>(some ((iand .u64 (ishr .u64 c0_ k_) (1:Int))==1))
instance Qn8:Spc2 prog 37 QdT (fun k_ c0_=>[ti k_,tptr ((rInt .u64).cs c0_)]) tb:=.mk fun {k_ c0_ r} h=>by
 unfold QdT at h
 refine Fe func37 ntmps37 fun M0 M w0 hpl=>?_
 refine Qc [1,2] ?_
 have⟨_,h0,h⟩:=bs h
 intro a w H
 refine sr mx [] H (fun _=>.o (Q3 QgG z1)<|.q 1 rfl<|.o (QbH z1 z0 (QlQ h0))<|.o (Qce z0 .k)<|.o (QcA z0 .k)<|.o (Qn z0)<|.n) fun _ a w H=>?_
 have H:=H.t1_0 [5]
 refine QS H ?_
 exact Qt h (·▸Qr hpl)
end Go.Proofs.YtlajingmjmnfgaaGreatDoor

/- The walk. No condition. -/
import Derived.Test.YtlajingmjmnfgaaGreatDoorGenF
set_option linter.all false
open Go.Proofs.Tryz Go.IntKind
namespace Go.Proofs.YtlajingmjmnfgaaGreatDoor
noncomputable section
open Go.Sim
set_option maxRecDepth 100000
set_option maxHeartbeats 4000000
def Qh8 (x_:Int) (y_:Int):Option (Int×Int):=(QgP x_ y_).bind λt0=>(some (t0.1,t0.2))
instance Qr5:Spc2 prog 177 Qh8 (λx_ y_=>[tv (.int .u64 x_),tv (.int .u64 y_)]) (λr=>ttup [tv (.int .u64 r.1),tv (.int .u64 r.2)]):=.mk λ{x_ y_ r} h=>by
 unfold Qh8 at h
 refine Fe func177 ntmps177 λM0 M w0 hpl=>?_
 refine Qa [2,3] ?_
 refine Qf λ_ k0=>?_
 refine QsV ?_
 refine Qq ?_
 refine k0 ?_
 have⟨_,_,h⟩:=bs h
 refine Qa [6,7] ?_
 refine Qa [2,3] ?_
 exact Qo h (·▸Ql hpl)
def QbV (x_:(List Int)) (count_:Int):Option ((List Int)):=(if (decide (count_<0))=true then none else (Qh8 (u64.wrap (x_.length:Int)) (u64.wrap count_)).bind λt0=>(if ((decide (t0.1>0))||(decide (t0.2>9223372036854775807)))=true then none else (mk (i64.wrap t0.2) (0:Int)).bind λt1=>(Qm (λ(s0:Int×List Int)=>((if (decide (s0.1<(s0.2.length:Int)))=true then (sub s0.2 s0.1 (s0.2.length:Int)).bind λt2=>(sub s0.2 0 s0.1).bind λt3=>(some (.inl ((i64.wrap (s0.1+(Nat.min t3.length t2.length:Int))),(s0.2.take (s0.1).toNat++cpy t2 t3++s0.2.drop ((s0.2.length:Int)).toNat)))) else (some (.inr s0.2))):Option ((Int×List Int)⊕((List Int))))) ((Nat.min x_.length t1.length:Int),(cpy t1 x_))).bind λp0=>(some p0)))
instance QkG:SpcS prog 133 (∀{x_:(List Int)} {count_:Int} {r:(List Int)},QbV x_ count_=some r->FnOk prog 133 [tsl rI x_,ti count_] [] (λv=>[own rI 3 r v]) (λv=>tv v)):=.mk λ{x_ count_ r} h=>by
 unfold QbV at h
 refine Fe func133 ntmps133 λM0 M w0 hpl=>?_
 refine Qa [1,2] ?_
 refine tIfs h [1,2,3] (λ_ h=>?_) (λ_ h=>?_)
 ·cases h
 have⟨t0,h0,h⟩:=bs h
 intro a w H
 refine sr mx [] H (λ_=>.q 1 rfl<|.o (QeM ud22 z0)<|.o (QcZ ud3 ud86 z0)<|.q 5 rfl<|.o (QcZ ud3 ud86 z0)<|.o (QN QsI (Qr5.ok h0) (.cons (.of z2)<|.cons (.of z0)<|.nil))<|.q 0 rfl<|.o (Qag z0 rfl)<|.o (Qag z1 rfl)<|.o (Qr z1)<|.o (Qr z1)<|.n) λ_ a w H=>?_
 have H:=H.t3_0 [9,10,12]
 refine Q2 H ?_
 refine tIfs h [5,7,8] (λ_ h=>?_) (λ_ h=>?_)
 ·cases h
 have⟨t1,h1,h⟩:=bs h
 intro a w H
 refine sr mx [v1 2 (λv0=>own rI 3 t1 v0)] H (λ_=>.q 1 rfl<|.o (QcZ ud86 ud3 z0)<|.m [] [0] rfl rfl rfl (Qg4 (R:=rI) ud22 tok3 zok3 (leb rfl) z0 z0 h1)<|.ud (f:=λv=>tv v) 2 rfl [] rfl rfl (Qr z0)<|.n) λm0 a w H=>?_
 have H:=H.to [2,3,6] [_,_,_] [_] rfl rfl
 refine Q2 H ?_
 intro a w H
 refine sr mx [v0 (own rI 3 (cpy t1 x_) (m0 2))] H (λ_=>.q 1 rfl<|.q 3 rfl<|.e [] [0] [1] rfl rfl rfl rfl (Qzm (R:=rI) ud22 rfl tok3 z1 z0)<|.o (Qr z0)<|.n) λ_ a w H=>?_
 have H:=H.t4_1 [0,3,4,5]
 refine Q2 H ?_
 refine Qf λK0 k0=>?_
 have⟨e0,h2,h⟩:=bs h
 have J0:∀(p0:List Int),p0=e0->To M w0 48 [(7,tv (m0 2))] [own rI 3 p0 (m0 2)] K0:=by
  intro p0 he;subst he;refine k0 <|Qa [0,1,2] ?_;exact Qo h (·▸Qcp (m0 2) [0] hpl)
 refine Qj <|Qai h2 (λ(s0:Int×List Int)=>[(8,ti s0.1),(7,tv (m0 2))]) (λ(s0:Int×List Int)=>[own rI 3 s0.2 (m0 2)]) [1,3] ?_;clear h;intro s0 o K1 h ho k1;refine Qf λ_ k2=>Qa [1,3,4,5] ?_;refine Qel 1 (λb0=>?_) (λb0=>?_)
 ·replace h:=QcI b0 h;refine Qq <|k2 <|Qj ?_;have⟨t2,h3,t3,h4,h⟩:=bs2 h;intro a w H;refine wr mx [v0 (own rI 3 (s0.2.take (s0.1).toNat++cpy t2 t3++s0.2.drop ((s0.2.length:Int)).toNat) (m0 2))] H (λ_=>.q 2 rfl<|.q 4 rfl<|.q 4 rfl<|.u [0] rfl rfl (Qnz (R:=rI) ud22 tok3 z1 (.op z0) (.no _) h3)<|.q 7 rfl<|.q 7 rfl<|.u [0] rfl rfl (Qnz (R:=rI) ud22 tok3 z1 (.no _) (.op z0) h4)<|.e [] [0] [1] rfl rfl rfl rfl (Qtt (R:=rI) (xs:=s0.2) ud22 rfl tok3 z3 z0 h3 h4)<|.o (QaH z7 z0)<|.o (Qr z0)<|.n) λ_ a w H=>?_;have H:=H.to [1,4,9,10,12] [_,_,_,_,_] [_] rfl rfl;refine Qbl H ?_;exact Qu k1 ((sj h).symm) [2,4]
 replace h:=QcJ b0 h;refine QO <|Qu J0 (ho _ (sj h).symm) [3]
def Qcf (v_:Int) (s_:Int) (n_:Int) (c0_:(List (List Int))) (c1_:Int):Option (Bool):=(idx c0_ s_).bind λt0=>(idx t0 v_).bind λt1=>(opt ((decide (t1<1099511627776))==true) (idx c0_ s_) default).bind λt2=>(opt ((decide (t1<1099511627776))==true) (idx t2 v_) default).bind λt3=>(some ((decide (t1<1099511627776))&&(decide ((i64.wrap ((i64.wrap (c1_+n_))+t3))<0))))
instance Qip:Spc5 prog 178 Qcf (λv_ s_ n_ c0_ c1_=>[ti v_,ti s_,ti n_,tptr ((rSl (rSl rI)).cs c0_),tptr (rI.cs c1_)]) tb:=.mk λ{v_ s_ n_ c0_ c1_ r} h=>by
 unfold Qcf at h
 refine Fe func178 ntmps178 λM0 M w0 hpl=>?_
 refine Qa [1,2,3,4,5] ?_
 have⟨_,_,_,_,_,_,_,_,h⟩:=bs4 h
 refine Qa [22] ?_
 exact Qo h (·▸Ql hpl)
def Qdx (n_:Int) (l_:(List Qab)) (first_:Int) (many_:Int):Option ((List Int)):=(QbV [(1099511627776:Int)] (i64.wrap (n_+1))).bind λt0=>(idx [t0] 0).bind λr2=>(idx l_ first_).bind λt1=>(setAt r2 t1.a (0:Int)).bind λt2=>(setAt [t0] (0:Int) t2).bind λm9=>(Qm (λ(s0:Int×List (List Int))=>((if (decide (s0.1<many_))=true then (QbV [(1099511627776:Int)] (i64.wrap (n_+1))).bind λt3=>(sub l_ (i64.wrap (first_+1)) (l_.length:Int)).bind λt4=>(Qm (λ(s1:Int×List Int)=>((if (decide (s1.1<(t4.length:Int)))=true then (idx t4 s1.1).bind λt5=>(idx s0.2 (i64.wrap (s0.1 - 1))).bind λr3=>(idx r3 t5.b).bind λt6=>((if (decide (t6<1099511627776))=true then (idx s1.2 t5.a).bind λt7=>(setAt s1.2 t5.a (imin t7 (i64.wrap (t6+t5.n)))).bind λt8=>(some t8) else (some s1.2))).bind λp0=>(some (.inl ((i64.wrap (s1.1+1)),p0))) else (some (.inr s1.2))):Option ((Int×List Int)⊕((List Int))))) ((0:Int),t3)).bind λp1=>(rm (s0.2.length+1)).bind λ_=>(some (.inl ((i64.wrap (s0.1+1)),(s0.2++[p1])))) else (some (.inr s0.2))):Option ((Int×List (List Int))⊕((List (List Int)))))) ((1:Int),m9)).bind λp2=>(idx l_ first_).bind λt9=>(idx l_ first_).bind λt10=>(Qcf t9.b (i64.wrap (many_ - 1)) 0 p2 t10.n).bind λt11=>(if (!t11)=true then (some ([]:List Int)) else (Qm (λ(s2:Int×Int×List Int×Int)=>((if (decide (s2.1>=0))=true then ((Qm (λ(s3:Int)=>((if (decide (s3<(l_.length:Int)))=true then (idx l_ s3).bind λt12=>(opt ((t12.a==s2.2.1)==true) (Qcf t12.b s2.1 t12.n p2 s2.2.2.2) default).bind λt13=>(if ((t12.a==s2.2.1)&&t13)=true then (rm (s2.2.2.1.length+[s3].length)).bind λ_=>(some (.inr (.inr (t12.b,(s2.2.2.1++[s3]),(i64.wrap (s2.2.2.2+t12.n)))))) else (some (.inl (i64.wrap (s3+1))))) else (some (.inr (.inl ())))):Option ((Int)⊕((Unit)⊕(Int×List Int×Int))))) (i64.wrap (first_+1))).bind λe0=>(match e0 with | .inl _=>(some (s2.2.1,s2.2.2.1,s2.2.2.2)) | .inr p3=>(some (p3.1,p3.2.1,p3.2.2)))).bind λp4=>(some (.inl ((i64.wrap (s2.1 - 1)),p4.1,p4.2.1,p4.2.2))) else (some (.inr s2.2.2.1))):Option ((Int×Int×List Int×Int)⊕((List Int))))) ((i64.wrap (many_ - 2)),t9.b,[first_],t10.n)).bind λp5=>(ne p5).bind λ_=>(some p5))
instance QyX:Spc4 prog 134 Qdx (λn_ l_ first_ many_=>[ti n_,tsl Q4 l_,ti first_,ti many_]) (tsn rI):=.mk λ{n_ l_ first_ many_ r} h=>by
 unfold Qdx at h
 refine Fe func134 ntmps134 λM0 M w0 hpl=>?_
 intro a w H
 refine sr mx [] H (λ_=>.o (Qr (.nilsn (R:=rI)))<|.n) λ_ a w H=>?_
 have H:=H.t4_0 [1,2,3,4]
 refine Q2 H ?_
 refine QvJ ?_
 have⟨t0,h0,h⟩:=bs h
 intro a w H
 refine sr mx [v1 3 (λv0=>own rI 3 t0 v0),v2 3 4 (λv0 v1=>own rVal 22 [v0] v1),v1 5 (λv0=>box (rVal.cs nilV) v0),v2 4 5 (λv0 v1=>box (rVal.cs v0) v1)] H (λ_=>.o (Qaq (R:=rI) (us:=[(1099511627776:Int)]) ud22 tok3 (.cons .k<|.nil _) rfl (leb rfl))<|.q 1 rfl<|.o (QaH z0 .k)<|.m [] [0] rfl rfl rfl (QN QsG (QkG.ok h0) (.cons (.of z2)<|.cons (.of z0)<|.nil))<|.m [0] [1] rfl rfl rfl (Qzl (R:=rI) (e:=3) (xs:=t0) ud68 Qaz z0)<|.m [] [2] rfl rfl rfl (Qe9 QeR)<|.e [1] [2] [3] rfl rfl rfl rfl (Qda (R:=rVal) (e:=22) (Ts:=(rVal.cs nilV)) QeR z0 z1 (leb rfl))<|.n) λm0 a w H=>?_
 replace H:St _ _ _ [_,_,_,_,_,_,_] [_,_,_] _ _:=(((H.pick [3,4,5,6,7,8,9]).rowsN (rI) 3).Xk [1,0,2,3] rfl).push
 refine Q2 H ?_
 refine Qf λ_ k0=>?_
 have⟨r2,h1,t1,h2,_,h3,m9,hm9,h⟩:=bs4 h
 intro a w H
 refine wr mx [v0 (rows rI 3 m9 [(m0 3)])] H (λ_=>.u [2] rfl rfl (Qbf QeR z2)<|.u [1,0] rfl rfl (Qeh ud68 Qaz z0 .k h1)<|.u [1,0] rfl rfl (Qe8 Qaz z0 h1)<|.q 7 rfl<|.q 9 rfl<|.o (Qc0 underlying165 QqG z1 z0 h2)<|.o (Q6 QmV z0)<|.o (Q5 (u:=t1.a) tok3 z0 rfl)<|.u [0] rfl rfl (Qiv ud22 tok3 z5 z0 h1 h3)<|.e [] [0] [3] rfl rfl rfl rfl (Qjp tok3 z0 .k h1 h3 hm9)<|.n) λ_ a w H=>?_
 have H:=H.to [0,10,11,12,13,14,15] [_,_,_,_,_,_,_] [_,_,_] rfl rfl
 refine Qbl H ?_
 refine k0 ?_
 refine Qf λK0 k1=>?_
 refine Qa [0,1,2,3,4,5,6,7] ?_
 have⟨e0,h4,h⟩:=bs h
 have J0:∀(p0:List (List Int)) (y0:Value) (us114:List Value),p0=e0->To M w0 145 [(9,tv (m0 5)),(1,tsl Q4 l_),(2,ti first_),(3,ti many_)] [own rVal 22 us114 y0,box (rVal.cs y0) (m0 5),rows rI 3 p0 us114] K0:=by
  intro p0 y0 us114 he;subst he;refine k1 ?_;have⟨t2,h5,h⟩:=bs h;replace h:=bk h5 h;refine QJ [v1 1 (λv0=>own rI 3 [first_] v0),v1 12 (λv0=>box (rI.cs (0:Int)) v0),v1 12 (λv0=>box (rI.cs t2.n) v0)] [2,13,16] [1,12,13,14,15,16,17,18] λm1=>?_;refine Qa [1,2,3,4,5,7,8,9] ?_;refine Qf λ_ k2=>?_;have⟨t3,h6,h⟩:=bs h;intro a w H;refine sr mx [] H (λ_=>.q 0 rfl<|.q 5 rfl<|.q 9 rfl<|.o (QjS z0 .k)<|.u [1,0,2,4] rfl rfl (Qqv [box (rVal.cs y0) (m0 5),own rVal 22 us114 y0,rows rI 3 p0 us114,box (rI.cs t2.n) (m1 12)] QoG (Qip.ok h6) z3 (.cons (Qpa (.head _) (.tail _ (.head _)) (.tail _ (.tail _ (.head _))))<|.cons (Qqt (.tail _ (.tail _ (.tail _ (.head _)))))<|.nil) (.cons (.of z2)<|.cons (.of z0)<|.cons (.of .k)<|.nil) (λ_=>Qci) (λ_=>QeO (x:=undef)))<|.o (Qi3 z0)<|.n) λ_ a w H=>?_;have H:=H.t9_5 [5,6,7,8,9,10,11,12,13];refine Q2 H ?_;refine Qn h (λ_ h=>?_) (λ_ h=>?_)
  ·intro a w H;refine sr mx [] H (λ_=>.o (Qr (.nilsn (R:=rI)))<|.n) λ_ a w H=>?_;replace H:St _ _ _ [_,_,_] [_] _ _:=(H.pick [0,3,5]).Xk [3] rfl;refine Q2 H ?_;exact Qo h (·▸Ql hpl)
  refine Qq <|k2 <|Qf λ_ k3=>QvK ?_;refine k3 <|Qf λK1 k4=>Qa [2,4,5,6,7,8,9,10] ?_;have⟨e1,h7,h⟩:=bs h;have J1:∀(p1:List Int) (y1:Value),p1=e1->To M w0 145 [(15,tv y1)] [own rI 3 p1 y1] K1:=by
   intro p1 y1 he;subst he;refine k4 <|Qa [0,1,2] ?_;refine Qam ?_;have⟨_,hne,h⟩:=bs h;refine Qad (by intro _ _ H;exact (H.Xn 1 rfl).pick [0]) ?_;obtain rfl:=sj h;exact oEndR hpl (.tmp (.sn z0 (ne_ok hne)) .nil)
  refine Qj <|QaC h7 (λ(s0:Int×Int×List Int×Int) (y2:Value)=>[(19,ti s0.1),(18,QaZ 178 [tv (m0 5),tv (m1 12)]),(17,tv (m1 12)),(15,tv y2),(16,ti s0.2.1),(1,tsl Q4 l_),(2,ti first_)]) (λ(s0:Int×Int×List Int×Int) (y2:Value)=>[own rVal 22 us114 y0,box (rVal.cs y0) (m0 5),rows rI 3 p0 us114,own rI 3 s0.2.2.1 y2,box (rI.cs s0.2.2.2) (m1 12)]) (m1 1) [0,1,3,4,5,6,7] ?_;clear h;intro s0 y2 o K2 h ho k5;refine Qf λ_ k6=>Qa [1,2,3,4,5,6,7,8] ?_;refine Qn h (λ_ h=>?_) (λ_ h=>?_)
  ·refine Qq <|k6 <|Qf λK3 k7=>?_;have⟨p2,h8,h⟩:=bs h;have J2:∀(y3:Value),To M w0 145 [(19,ti s0.1),(18,QaZ 178 [tv (m0 5),tv (m1 12)]),(17,tv (m1 12)),(15,tv y3),(16,ti p2.1),(1,tsl Q4 l_),(2,ti first_)] [own rVal 22 us114 y0,box (rVal.cs y0) (m0 5),rows rI 3 p0 us114,own rI 3 p2.2.1 y3,box (rI.cs p2.2.2) (m1 12)] K3:=by
    intro y3;refine k7 <|QL [2,3,4,5,6,7,8] ?_;exact QV k5 y3 ((sj h).symm) [0,1,2,3,4,5,6]
   replace h:=h8;clear h8;refine Qj <|Qa [2,4,5,6,7,8,9,10] ?_;have⟨e3,h9,h⟩:=bs h;have J3:∀(p3:Unit),(.inl p3)=e3->To M w0 145 [(19,ti s0.1),(18,QaZ 178 [tv (m0 5),tv (m1 12)]),(17,tv (m1 12)),(15,tv y2),(16,ti s0.2.1),(1,tsl Q4 l_),(2,ti first_)] [own rVal 22 us114 y0,box (rVal.cs y0) (m0 5),rows rI 3 p0 us114,own rI 3 s0.2.2.1 y2,box (rI.cs s0.2.2.2) (m1 12)] K3:=by
    intro p3 he;subst he;simp only at h;obtain rfl:=sj h;exact QK (J2 y2) [0,1,2,3,4,5,6]
   have J4:∀(p4:Int×List Int×Int) (y4:Value),(.inr p4)=e3->To M w0 145 [(15,tv y4),(16,ti p4.1),(19,ti s0.1),(18,QaZ 178 [tv (m0 5),tv (m1 12)]),(17,tv (m1 12)),(1,tsl Q4 l_),(2,ti first_)] [own rVal 22 us114 y0,box (rVal.cs y0) (m0 5),rows rI 3 p0 us114,own rI 3 p4.2.1 y4,box (rI.cs p4.2.2) (m1 12)] K3:=by
    intro p4 y4 he;subst he;simp only at h;obtain rfl:=sj h;exact QK (J2 y4) [2,3,4,0,1,5,6]
   refine Qj <|Qai h9 (λ(s1:Int)=>[(20,ti s1),(19,ti s0.1),(18,QaZ 178 [tv (m0 5),tv (m1 12)]),(17,tv (m1 12)),(15,tv y2),(16,ti s0.2.1),(1,tsl Q4 l_),(2,ti first_)]) (λ(s1:Int)=>[own rVal 22 us114 y0,box (rVal.cs y0) (m0 5),rows rI 3 p0 us114,own rI 3 s0.2.2.1 y2,box (rI.cs s0.2.2.2) (m1 12)]) [0,1,2,3,4,5,6,7] ?_;clear h;intro s1 o K4 h ho k8;refine Qf λ_ k9=>Qa [3,4,5,6,7,8,9,10,11] ?_;refine Qn h (λ_ h=>?_) (λ_ h=>?_)
   ·refine Qq <|k9 <|Qf λ_ k10=>Qj ?_;have⟨t4,_,h⟩:=bs h;refine QJ [v1 4 (λv0=>box (Q4.cs zz5) v0),v1 4 (λv0=>box (Q4.cs t4) v0)] [5,6] [4,6,7,8,9,10,11,12,13] λm2=>?_;refine QY (λ_ _ H=>(((H.Xk [5,0,1,2,3,4] rfl).Xl 0 rfl).add 0 rfl (λ_ _ _ h=>h.2)).pick [0,3,4,5,6,7,8,9,10]) ?_;have⟨t5,h10,h⟩:=bs h;intro a w H;refine sr mx [] H (λ_=>.o (Q6 QmV z0)<|.o (Q5 (u:=t4.a) tok3 z0 rfl)<|.q 8 rfl<|.o (QcG z1 z0)<|.q 0 rfl<|.g rfl rfl bq0 (λ_=>Qaj z8)<|.g rfl rfl bq1 (λ_=>Q6 QmW z6)<|.g rfl rfl bq2 (λhc=>Q5 (u:=t4.b) tok3 (.cond z0 hc) rfl)<|.g rfl rfl bq3 (λ_=>Qaj z10)<|.g rfl rfl bq4 (λ_=>Q6 QqJ z9)<|.g rfl rfl bq5 (λhc=>Q5 (u:=t4.n) tok3 (.cond z0 hc) rfl)<|.gu [1,0,2,4] rfl rfl rfl bq6 (λhc=>Qqv [box (rVal.cs y0) (m0 5),own rVal 22 us114 y0,rows rI 3 p0 us114,box (rI.cs s0.2.2.2) (m1 12)] QoG (Qip.ok (Qeg h10 hc)) (.cond z5 hc) (.cons (Qpa (.head _) (.tail _ (.head _)) (.tail _ (.tail _ (.head _))))<|.cons (Qqt (.tail _ (.tail _ (.tail _ (.head _)))))<|.nil) (.cons (.of (.cond z3 hc))<|.cons (.of (.cond z2 hc))<|.cons (.of (.cond z0 hc))<|.nil) (λ_=>Qci) (λ_=>QeO (x:=undef)))<|.o (QcY z7 (λhp=>(.cond z0 (beqT hp))))<|.n) λ_ a w H=>?_;have H:=H.to [12,13,14,15,16,17,18,19,20,21] [_,_,_,_,_,_,_,_,_,_] [_,_,_,_,_] rfl rfl;refine Q2 H ?_;refine Qn h (λ_ h=>?_) (λ_ h=>?_)
    ·have⟨_,_,h⟩:=bs h;refine QJ [v1 3 (λv0=>own rI 3 (s0.2.2.1++[s1]) v0),v0 (box (rI.cs (i64.wrap (s0.2.2.2+t4.n))) (m1 12))] [4,13] [3,10,11,15,16,17,18,19] λm3=>?_;refine QO <|QV J4 (m3 3) (ho _ (sj h).symm) [1,2,3,4,5,6,7]
    refine Qq <|k10 <|QL [2,5,6,7,8,9,10,11] ?_;exact Qu k8 ((sj h).symm) [0,1,2,3,4,5,6,7]
   refine QO <|Qu J3 (ho _ (sj h).symm) [2,3,4,5,6,7,8]
  refine QO <|Qad (λ_ _ H=>(H.pick [4]).Xk [3] rfl) ?_;exact QV J1 y2 (ho _ (sj h).symm) [0]
 refine Qj <|Qi7 h4 (λ(s2:Int×List (List Int)) (y5:Value) (us63:List Value)=>[(10,ti s2.1),(9,tv (m0 5)),(0,ti n_),(1,tsl Q4 l_),(2,ti first_),(3,ti many_)]) (λ(s2:Int×List (List Int)) (y5:Value) (us63:List Value)=>[own rVal 22 us63 y5,box (rVal.cs y5) (m0 5),rows rI 3 s2.2 us63]) (m0 4) ([(m0 3)]) [0,3,4,5,6,7] ?_;clear h;intro s2 y5 us63 o K5 h ho k11;refine Qf λ_ k12=>Qa [2,3,4,5,6,7,8] ?_;refine Qn h (λ_ h=>?_) (λ_ h=>?_)
 ·refine Qq <|k12 <|Qf λ_ k13=>Qj ?_;have⟨t6,_,h⟩:=bs h;refine QJ [v1 3 (λv0=>own rI 3 t6 v0)] [4] [3,4,6,7,8,9,10,11] λm4=>?_;refine Qf λK6 k14=>?_;have⟨t7,_,h⟩:=bs h;refine Qa [3,4,5,6,7,8,9,10,11,12,13] ?_;have⟨e4,h11,h⟩:=bs h;have J5:∀(p5:List Int),p5=e4->To M w0 145 [(11,tv (m4 3)),(10,ti s2.1),(9,tv (m0 5)),(0,ti n_),(1,tsl Q4 l_),(2,ti first_),(3,ti many_)] [own rVal 22 us63 y5,box (rVal.cs y5) (m0 5),rows rI 3 s2.2 us63,own rI 3 p5 (m4 3)] K6:=by
   intro p5 he;subst he;refine k14 ?_;have⟨_,h12,h⟩:=bs h;intro a w H;refine wr mx [v1 3 (λv0=>own rVal 22 (us63++[(m4 3)]) v0),v1 3 (λv0=>box (rVal.cs v0) (m0 5))] H (λ_=>.u [1] rfl rfl (Qbf QeR z2)<|.q 1 rfl<|.u [3] rfl rfl (op_hdr (R:=rI) (e:=3) (xs:=p5) ud68 Qaz z0)<|.e [2] [0] [4] rfl rfl rfl rfl (Qtq (R:=rI) (e2:=3) (ws:=[(m4 3)]) ud68 Qaz (leb rfl) z2 z0 h12)<|.e [4] [1] [5] rfl rfl rfl rfl (Qda (R:=rVal) (e:=22) (Ts:=(rVal.cs y5)) QeR z6 z0 (leb rfl))<|.n) λm5 a w H=>?_;replace H:St _ _ _ [_,_,_,_,_,_,_,_,_] [_,_,_] _ _:=((H.pick [1,3,4,5,6,7,8,9,10]).Xk [1,0,2,3] rfl).push;refine Qbl H ?_;refine k13 <|QL [2,4,6,7,8,9,10] ?_;refine Qad (λ_ _ H=>(H.pick [0,2,3,4,5,6]).Xk [1,2,0] rfl) ?_;exact Qem k11 (m5 3) (us63++[(m4 3)]) ((sj h).symm) [0,1,2,3,4,5]
  refine Qj <|Qai h11 (λ(s3:Int×List Int)=>[(48,tsl Q4 t7),(49,ti (t7.length:Int)),(50,ti s3.1),(11,tv (m4 3)),(10,ti s2.1),(9,tv (m0 5)),(0,ti n_),(1,tsl Q4 l_),(2,ti first_),(3,ti many_)]) (λ(s3:Int×List Int)=>[own rVal 22 us63 y5,box (rVal.cs y5) (m0 5),rows rI 3 s2.2 us63,own rI 3 s3.2 (m4 3)]) [0,1,2,4,5,6,7,8,9,10] ?_;clear h;intro s3 o K7 h ho k15;refine Qa [0,1,2,3,4,5,6,7,8,9,10] ?_;refine Qf λ_ k16=>Qn h (λ_ h=>?_) (λ_ h=>?_)
  ·refine Qq <|k16 <|Qf λK8 k17=>Qj ?_;have⟨t8,_,h⟩:=bs h;refine QJ [v1 2 (λv0=>box (Q4.cs zz5) v0),v1 2 (λv0=>box (Q4.cs t8) v0)] [3,4] [2,4,5,6,7,8,9,10,11,12,13] λm6=>?_;refine QY (λ_ _ H=>(((H.Xk [4,0,1,2,3] rfl).Xl 0 rfl).add 0 rfl (λ_ _ _ h=>h.2)).pick [0,3,4,5,6,7,8,9,10,11,12]) ?_;refine Qf λ_ k18=>?_;have⟨r3,h13,t9,h14,h⟩:=bs2 h;intro a w H;refine wr mx [] H (λ_=>.u [1] rfl rfl (Qbf QeR z6)<|.q 6 rfl<|.o (QjS z0 .k)<|.u [0,2] rfl rfl (Qeh ud68 Qaz z2 z0 h13)<|.u [0,2] rfl rfl (Qe8 Qaz z0 h13)<|.o (Q6 QmW z5)<|.o (Q5 (u:=t8.b) tok3 z0 rfl)<|.u [2] rfl rfl (Qiu ud22 tok3 z2 z0 h13 h14)<|.u [2] rfl rfl (Qkm tok3 z0 h13 h14)<|.o (Qr z0)<|.n) λ_ a w H=>?_;have H:=H.to [0,9,10,11,12,13,14,15,16,17,18,19,20] [_,_,_,_,_,_,_,_,_,_,_,_,_] [_,_,_,_] rfl rfl;refine Qbl H ?_;refine k18 <|Qa [1,2,3,4,5,6,7,8,9,10,11,12,13,14] ?_;have⟨p6,h15,h⟩:=bs h;have J6:To M w0 145 [(48,tsl Q4 t7),(49,ti (t7.length:Int)),(50,ti s3.1),(11,tv (m4 3)),(10,ti s2.1),(9,tv (m0 5)),(0,ti n_),(1,tsl Q4 l_),(2,ti first_),(3,ti many_)] [own rVal 22 us63 y5,box (rVal.cs y5) (m0 5),rows rI 3 s2.2 us63,own rI 3 p6 (m4 3)] K8:=by
    refine k17 <|QL [1,2,3,4,5,6,7,8,9,10] ?_;exact Qu k15 ((sj h).symm) [1,2,0,3,4,5,6,7,8,9]
   replace h:=h15;clear h15;refine Qn h (λ_ h=>?_) (λ_ h=>?_)
   ·have⟨_,_,t10,_,h⟩:=bs2 h;refine Qal [v0 (own rI 3 t10 (m4 3))] [15] [0,3,15,18,19,20,21,22,23,24,25,26,27] λm7=>?_;obtain rfl:=sj h;exact QK J6 [3,4,5,6,7,8,9,10,11,12]
   refine Qq ?_;obtain rfl:=sj h;exact QK J6 [4,5,6,7,8,9,10,11,12,13]
  refine QO <|Qu J5 (ho _ (sj h).symm) [4,5,6,7,8,9,10]
 refine QO <|Qem J0 y5 us63 (ho _ (sj h).symm) [2,4,5,6]
def QfA (n_:Int) (l_:(List QG)):Option ((List Int)×Int):=(Qfz n_ l_).bind λt0=>(if (t0.2 !=0)=true then (some (([]:List Int),t0.2)) else (Qm (λ(s0:Int)=>((if (decide (s0<=(i64.wrap (n_+1))))=true then (Qm (λ(s1:Int)=>((if (decide (s1<(t0.1.length:Int)))=true then (Qdx n_ t0.1 s1 s0).bind λt1=>(if (!t1.isEmpty)=true then (some (.inr (.inr (t1,(0:Int))))) else (some (.inl (i64.wrap (s1+1))))) else (some (.inr (.inl ())))):Option ((Int)⊕((Unit)⊕((List Int)×Int))))) (0:Int)).bind λe0=>(match e0 with | .inl _=>(some (.inl (i64.wrap (s0+1)))) | .inr p0=>(some (.inr (.inr (p0.1,p0.2))))) else (some (.inr (.inl ())))):Option ((Int)⊕((Unit)⊕((List Int)×Int))))) (2:Int)).bind λe1=>(match e1 with | .inl _=>(some (([]:List Int),(6:Int))) | .inr p1=>(some (p1.1,p1.2))))
instance QyY:Spc2 prog 90 QfA (λn_ l_=>[ti n_,tsl Qae l_]) (λr=>ttup [tsl rI r.1,ti r.2]):=.mk λ{n_ l_ r} h=>by
 unfold QfA at h
 refine Fe func90 ntmps90 λM0 M w0 hpl=>?_
 refine Qa [2,3] ?_
 have⟨t0,h0,h⟩:=bs h
 intro a w H
 refine sr mx [] H (λ_=>.q 0 rfl<|.q 2 rfl<|.o (QN QvB ((QnX.ok h0).ro Qzj) (.cons (.of z1)<|.cons (.of z0)<|.nil))<|.q 0 rfl<|.o (Qag z0 rfl)<|.o (Qag z1 rfl)<|.o (Qr z1)<|.o (Qr z1)<|.n) λ_ a w H=>?_
 have H:=H.t3_0 [6,7,8]
 refine Q2 H ?_
 refine tIfs h [1,2,3,4] (λ_ h=>?_) (λ_ h=>?_)
 ·refine Qa [1,2] ?_
  exact Qo h (·▸Ql hpl)
 refine Qf λK0 k0=>?_
 refine Qa [0,2,4] ?_
 have⟨e0,h1,h⟩:=bs h
 have J0:∀(p0:Unit),(.inl p0)=e0->To M w0 40 [] [] K0:=by
  intro p0 he;subst he;simp only at h;refine k0 <|Qa [0,1] ?_;exact Qo h (·▸Ql hpl)
 have J1:∀(p1:(List Int)×Int),(.inr p1)=e0->To M w0 40 [(4,tsn rI p1.1),(5,ti p1.2)] [] (Ret prog f90 M0 [] w0 (λ_=>[]) (λ_=>ttup [tsl rI r.1,ti r.2]) .ret):=by
  intro p1 he;subst he;simp only at h;obtain rfl:=sj h;exact Ql hpl
 refine Qj <|Qai h1 (λ(s0:Int)=>[(8,ti s0),(6,tsl Q4 t0.1),(0,ti n_)]) (λ(s0:Int)=>[]) [0,1,2] ?_;clear h;intro s0 o K1 h ho k1;refine Qf λ_ k2=>Qa [3,4,5,6] ?_;refine Qn h (λ_ h=>?_) (λ_ h=>?_)
 ·refine Qq <|k2 <|Qf λK2 k3=>Qj <|Qa [1,2,4,5,6] ?_;have⟨e1,h2,h⟩:=bs h;have J2:∀(p2:Unit),(.inl p2)=e1->To M w0 40 [(8,ti s0),(6,tsl Q4 t0.1),(0,ti n_)] [] K2:=by
   intro p2 he;subst he;simp only at h;refine k3 <|QL [2,3,4] ?_;exact Qu k1 ((sj h).symm) [0,1,2]
  have J3:∀(p3:(List Int)×Int),(.inr p3)=e1->To M w0 40 [(4,tsn rI p3.1),(5,ti p3.2)] [] (Ret prog f90 M0 [] w0 (λ_=>[]) (λ_=>ttup [tsl rI r.1,ti r.2]) .ret):=by
   intro p3 he;subst he;simp only at h;exact Qu J1 (ho _ (sj h).symm) [0,1]
  refine Qj <|Qai h2 (λ(s1:Int)=>[(27,ti (t0.1.length:Int)),(28,ti s1),(8,ti s0),(6,tsl Q4 t0.1),(0,ti n_)]) (λ(s1:Int)=>[]) [0,1,2,3,4] ?_;clear h;intro s1 o K3 h ho k4;refine Qa [0,1,2,3,4,5] ?_;refine Qf λ_ k5=>Qn h (λ_ h=>?_) (λ_ h=>?_)
  ·refine Qq <|k5 <|Qf λ_ k6=>Qj <|Qa [1,3,4,5,6,7] ?_;have⟨_,_,h⟩:=bs h;refine Qa [5,7,8,9,10,11] ?_;refine Qa [1,2,3,4,5,6,7] ?_;refine Qn h (λ_ h=>?_) (λ_ h=>?_)
   ·refine Qa [1,2] ?_;refine Qam ?_;exact Qu J3 (ho _ (sj h).symm) [0,1]
   refine Qq <|k6 <|QL [1,4,5,6,7] ?_;exact Qu k4 ((sj h).symm) [1,0,2,3,4]
  refine QO <|Qu J2 (ho _ (sj h).symm) [3,4,5]
 refine QO <|Qu J0 (ho _ (sj h).symm) []
def QcP (s_:Qa8) (kind_:Int) (some_:(Int->Option Bool)):Option ((List Int)):=(Qm (λ(s0:Int×List Int×List QG)=>((if (decide (s0.1<(s_.Xt.length:Int)))=true then (idx s_.Xt s0.1).bind λt0=>(opt ((t0.kind==kind_)==true) (some_ s0.1) default).bind λt1=>((if ((t0.kind==kind_)&&t1)=true then (rm (s0.2.2.length+[t0.Xu].length)).bind λ_=>(rm (s0.2.1.length+[s0.1].length)).bind λ_=>(some ((s0.2.2++[t0.Xu]),(s0.2.1++[s0.1]))) else (some (s0.2.2,s0.2.1)))).bind λp0=>(some (.inl ((i64.wrap (s0.1+1)),p0.2,p0.1))) else (some (.inr (s0.2.1,s0.2.2)))):Option ((Int×List Int×List QG)⊕((List Int×List QG))))) ((0:Int),([]:List Int),([]:List QG))).bind λp1=>(idx (s_.x).Xa kind_).bind λt2=>(QfA (t2.Xb.length:Int) p1.2).bind λt3=>(if (t3.2 !=0)=true then (some ([]:List Int)) else (Qm (λ(s1:Int×List Int)=>((if (decide (s1.1<(t3.1.length:Int)))=true then (idx t3.1 s1.1).bind λt4=>(idx p1.1 t4).bind λt5=>(rm (s1.2.length+[t5].length)).bind λ_=>(some (.inl ((i64.wrap (s1.1+1)),(s1.2++[t5])))) else (some (.inr s1.2))):Option ((Int×List Int)⊕((List Int))))) ((0:Int),([]:List Int))).bind λp2=>(ne p2).bind λ_=>(some p2))
instance Qla:Spc3 prog 30 QcP (λs_ kind_ some_=>[tptr (QU.cs s_),ti kind_,rF81.ty some_]) (tsn rI):=.mk λ{s_ kind_ some_ r} h=>by
 unfold QcP at h
 refine Fe func30 ntmps30 λM0 M w0 hpl=>?_
 intro a w H
 refine sr mx [] H (λ_=>.o (Qr (.nilsn (R:=rI)))<|.n) λ_ a w H=>?_
 have H:=H.t3_0 [1,2,3]
 refine Q2 H ?_
 refine Qa [0,1,2,3] ?_
 refine QY (λ_ _ H=>H.nil (Qae) 67) ?_
 refine Qa [0,1,2,3,4] ?_
 refine QY (λ_ _ H=>H.nil (rI) 3) ?_
 refine Qf λK0 k0=>?_
 refine Qa [3,4,5,6,7,8,9,10] ?_
 have⟨e0,h0,h⟩:=bs h
 have J0:∀(p0:List Int×List QG) (y0:Value) (y1:Value),p0=e0->To M w0 77 [(8,tv y0),(7,tv y1),(0,tptr (QU.cs s_)),(1,ti kind_)] [own rI 3 p0.1 y0,own Qae 67 p0.2 y1] K0:=by
  intro p0 y0 y1 he;subst he;refine k0 <|QY (by intro _ _ H;exact ((H.Xk [1,0] rfl).Xn 1 rfl).pick [0,1,3,4]) ?_;have⟨_,_,t0,_,h⟩:=bs2 h;refine Qa [15,16,18] ?_;refine tIfs h [1,2,4] (λ_ h=>?_) (λ_ h=>?_)
  ·intro a w H;refine sr mx [] H (λ_=>.o (Qr (.nilsn (R:=rI)))<|.n) λ_ a w H=>?_;have H:=H.t2_1 [0,3];refine Q2 H ?_;exact Qo h (·▸Ql hpl)
  refine Qa [0,2,3] ?_;refine QY (λ_ _ H=>H.nil (rI) 3) ?_;refine Qf λK1 k1=>Qa [0,1,2,3,5] ?_;have⟨e1,h1,h⟩:=bs h;have J1:∀(p1:List Int) (y2:Value),p1=e1->To M w0 77 [(13,tv y2)] [own rI 3 p1 y2] K1:=by
   intro p1 y2 he;subst he;refine k1 <|Qa [0,1,2] ?_;refine Qam ?_;have⟨_,hne,h⟩:=bs h;refine Qad (by intro _ _ H;exact (H.Xn 1 rfl).pick [0]) ?_;obtain rfl:=sj h;exact oEndR hpl (.tmp (.sn z0 (ne_ok hne)) .nil)
  refine Qj <|QaC h1 (λ(s0:Int×List Int) (y3:Value)=>[(62,tsl rI t0.1),(63,ti (t0.1.length:Int)),(64,ti s0.1),(13,tv y3),(8,tv y0)]) (λ(s0:Int×List Int) (y3:Value)=>[own rI 3 s0.2 y3,own rI 3 p0.1 y0]) (.slice none 0 0) [0,1,2,3,4] ?_;clear h;intro s0 y3 o K2 h ho k2;refine Qa [0,1,2,3,4,5] ?_;refine Qf λ_ k3=>Qn h (λ_ h=>?_) (λ_ h=>?_)
  ·refine Qq <|k3 <|Qf λ_ k4=>Qj ?_;have⟨_,_,h⟩:=bs h;refine Qa [2,4,5,6,7,8] ?_;have⟨t1,_,_,_,h⟩:=bs2 h;refine Qal [v1 6 (λv0=>own rI 3 (s0.2++[t1]) v0)] [7] [1,6,7,9,10,11,12] λm0=>?_;refine k4 <|QL [1,2,3,4,5,6,7] ?_;refine Qad (λ_ _ H=>(H.pick [4,5,0,3,6]).Xk [1,0] rfl) ?_;exact QV k2 (m0 6) ((sj h).symm) [0,1,2,3,4]
  refine QO <|Qad (λ_ _ H=>(H.pick [4]).Xk [0] rfl) ?_;exact QV J1 y3 (ho _ (sj h).symm) [0]
 refine Qj <|Qi7 h0 (λ(s1:Int×List Int×List QG) (y4:Value) (y5:Value)=>[(19,tsl QX s_.Xt),(20,ti (s_.Xt.length:Int)),(21,ti s1.1),(8,tv y4),(7,tv y5),(0,tptr (QU.cs s_)),(1,ti kind_),(2,rF81.ty some_)]) (λ(s1:Int×List Int×List QG) (y4:Value) (y5:Value)=>[own rI 3 s1.2.1 y4,own Qae 67 s1.2.2 y5]) (.slice none 0 0) (.slice none 0 0) [0,1,2,3,4,5,6,7] ?_;clear h;intro s1 y4 y5 o K3 h ho k5;refine Qa [0,1,2,3,4,5,6,7,8] ?_;refine Qf λ_ k6=>Qn h (λ_ h=>?_) (λ_ h=>?_)
 ·refine Qq <|k6 <|Qf λK4 k7=>Qj ?_;have⟨t2,_,h⟩:=bs h;refine QJ [v1 3 (λv0=>box (QX.cs (QW.mk (0:Int) ([]:Str) (QG.mk (0:Int) (0:Int) (0:Int)))) v0),v1 3 (λv0=>box (QX.cs t2) v0)] [4,6] [3,4,6,7,8,9,10,11,12,13] λm1=>?_;refine QY (λ_ _ H=>(((H.Xk [2,0,1] rfl).Xl 0 rfl).add 0 rfl (λ_ _ _ h=>h.2)).pick [0,3,4,5,6,7,8,9,10,11]) ?_;have⟨_,_,h⟩:=bs h;refine Qa [8,9,10,11,12,13,14,15,16,17,18] ?_;have⟨p2,h2,h⟩:=bs h;have J2:∀(y6:Value) (y7:Value),To M w0 77 [(7,tv y6),(8,tv y7),(19,tsl QX s_.Xt),(20,ti (s_.Xt.length:Int)),(21,ti s1.1),(0,tptr (QU.cs s_)),(1,ti kind_),(2,rF81.ty some_)] [own Qae 67 p2.1 y6,own rI 3 p2.2 y7] K4:=by
   intro y6 y7;refine k7 <|QL [1,2,3,4,5,6,7,8] ?_;refine Qad (λ_ _ H=>(H.pick [3,4,0,2,1,5,6,7]).Xk [1,0] rfl) ?_;exact Qem k5 y7 y6 ((sj h).symm) [0,1,2,3,4,5,6,7]
  replace h:=h2;clear h2;refine Qn h (λ_ h=>?_) (λ_ h=>?_)
  ·have⟨_,_,_,_,h⟩:=bs2 h;refine Qal [v1 4 (λv0=>own Qae 67 (s1.2.2++[t2.Xu]) v0),v1 8 (λv0=>own rI 3 (s1.2.1++[s1.1]) v0)] [5,9] [4,8,9,10,14,15,16,17,18,19] λm2=>?_;obtain rfl:=sj h;exact QK (J2 (m2 4) (m2 8)) [2,3,4,5,6,7,8,9]
  refine Qq ?_;obtain rfl:=sj h;refine Qad (λ_ _ H=>(H.pick [7,6,3,4,5,8,9,10]).Xk [1,0] rfl) ?_;exact QK (J2 y5 y4) [0,1,2,3,4,5,6,7]
 refine QO <|Qem J0 y4 y5 (ho _ (sj h).symm) [4,5,6,7]
def Qh9 (x0_:Int):Option (Bool):=(some true)
instance QmH:Spc1 prog 31 Qh9 (λx0_=>[ti x0_]) tb:=.mk λ{x0_ r} h=>by
 unfold Qh9 at h
 refine fe func31 ntmps31 λM0 M w0 a hpl H=>?_
 refine sr mx [] H (λ_=>.o (Qr .k)<|.n) λ_ a w H=>?_
 have H:=H.to [] [] [] rfl rfl
 refine sr mx [] H (λ_=>.o (Qr .k)<|.n) λ_ a w H=>?_
 have H:=H.t1_0 [0]
 exact r0 h (·▸r1 hpl H (.tmp z0 .nil))
def QgQ (k_:Int) (c0_:(List (List Int))):Option (Bool):=(idx c0_ k_).bind λt0=>(some (!t0.isEmpty))
instance QpZ:Spc2 prog 33 QgQ (λk_ c0_=>[ti k_,tptr ((rSl (rSn rI)).cs c0_)]) tb:=.mk λ{k_ c0_ r} h=>by
 unfold QgQ at h
 refine fe func33 ntmps33 λM0 M w0 a hpl H=>?_
 refine sr mx [] H (λ_=>.o (Qr .k)<|.n) λ_ a w H=>?_
 have H:=H.t2_0 [1,2]
 have⟨t0,h0,h⟩:=bs h
 refine sr mx [] H (λ_=>.o (Qaa tokN68 z1)<|.q 1 rfl<|.o (Qc0 ud68 Qhm z1 z0 h0)<|.o (Qaa Qhm z0)<|.o (Qpc ud22 z0)<|.o (Qr z0)<|.n) λ_ a w H=>?_
 have H:=H.t1_0 [5]
 exact r0 h (·▸r1 hpl H (.tmp z0 .nil))
def QbF (k_:Int) (n_:Int) (c0_:(List Int)) (c1_:Bool):Option ((List Int)×Bool):=(idx c0_ k_).bind λt0=>((if (decide (n_>t0))=true then (setAt c0_ k_ n_).bind λt1=>(some (t1,true)) else (some (c0_,c1_)))).bind λp0=>(some (p0.1,p0.2))
instance Qgb:SpcS prog 91 (∀{q2:Value} {vh2:Value} {q3:Value} {k_:Int} {n_:Int} {c0_:(List Int)} {c1_:Bool} {r:(List Int)×Bool},QbF k_ n_ c0_ c1_=some r->FnOk prog 91 [ti k_,ti n_,tv q2,tv q3] [box (rVal.cs vh2) q2,own rI 3 c0_ vh2,box (Qau.cs c1_) q3] (λ_=>[box (rVal.cs vh2) q2,own rI 3 r.1 vh2,box (Qau.cs r.2) q3]) (λ_=>ttup [])):=.mk λ{q2 vh2 q3 k_ n_ c0_ c1_ r} h=>by
 unfold QbF at h
 refine Fe func91 ntmps91 λM0 M w0 hpl=>?_
 have⟨_,_,h⟩:=bs h
 refine Qa [1,5,6,7,8,9] ?_
 have⟨p0,h0,h⟩:=bs h
 have J0:To M w0 16 [(2,tv q2),(3,tv q3)] [box (rVal.cs vh2) q2,own rI 3 p0.1 vh2,box (Qau.cs p0.2) q3] (Ret prog f91 M0 [box (rVal.cs vh2) q2,own rI 3 c0_ vh2,box (Qau.cs c1_) q3] w0 (λ_=>[box (rVal.cs vh2) q2,own rI 3 r.1 vh2,box (Qau.cs r.2) q3]) (λ_=>ttup []) .normal):=by
  obtain rfl:=sj h;exact QtO undef [0,1,2] hpl
 replace h:=h0;clear h0;refine Qel 1 (λb0=>?_) (λb0=>?_)
 ·replace h:=QcI b0 h;have⟨t0,_,h⟩:=bs h;refine Qal [v0 (own rI 3 t0 vh2),v0 (box (Qau.cs true) q3)] [5,6] [0,4,8,9] λm0=>?_;obtain rfl:=sj h;exact QK J0 [2,3]
 replace h:=QcJ b0 h;refine Qq ?_;obtain rfl:=sj h;exact QK J0 [4,5]
def QgR (l_:Qk) (low_:(List Int)):Option (Int×Int×Bool):=((if (decide (l_.B>=0))=true then (idx low_ l_.B).bind λt0=>(some t0) else (some (1:Int)))).bind λp0=>(if l_.Xh=true then (some (l_.A,(i64.wrap (l_.Mul * p0)),true)) else (if ((decide (l_.B<0))||(l_.Mul==0))=true then (idx low_ l_.A).bind λt1=>(some (l_.A,(0:Int),(decide (t1<=l_.Mul)))) else (idx low_ l_.A).bind λt2=>(nz l_.Mul).bind λ_=>(some (l_.B,(i64.wrap (Int.tdiv (i64.wrap ((i64.wrap (t2+l_.Mul)) - 1)) l_.Mul)),true))))
instance Qp0:Spc2 prog 92 QgR (λl_ low_=>[QP.ty l_,tsl rI low_]) (λr=>ttup [ti r.1,ti r.2.1,tb r.2.2]):=.mk λ{l_ low_ r} h=>by
 unfold QgR at h
 refine Fe func92 ntmps92 λM0 M w0 hpl=>?_
 refine Qa [0,5] ?_
 refine Qa [0,1,2] ?_
 refine Qf λK0 k0=>?_
 refine Qa [2,3,4,5] ?_
 have⟨p0,h0,h⟩:=bs h
 have J0:To M w0 58 [(7,ti p0),(2,tptr (QP.cs l_)),(1,tsl rI low_)] [] K0:=by
  refine k0 <|Qf λ_ k1=>Qj <|Qa [2,3,4,5] ?_;refine Qn h (λ_ h=>?_) (λ_ h=>?_)
  ·refine Qa [6,7,8] ?_;exact Qo h (·▸Ql hpl)
  refine Qa [8,11,12] ?_;refine Qn h (λ_ h=>?_) (λ_ h=>?_)
  ·have⟨_,_,h⟩:=bs h;refine Qa [10,11,12] ?_;exact Qo h (·▸Ql hpl)
  refine Qq <|k1 ?_;have⟨_,_,_,_,h⟩:=bs2 h;refine Qa [14,15,16] ?_;exact Qo h (·▸Ql hpl)
 replace h:=h0;clear h0;refine Qn h (λ_ h=>?_) (λ_ h=>?_)
 ·have⟨_,_,h⟩:=bs h;refine QL [5,7,8] ?_;obtain rfl:=sj h;exact QK J0 [0,1,2]
 refine Qq ?_;obtain rfl:=sj h;exact QK J0 [1,2,3]
def QaJ (s_:Qa8) (limits_:(Int->Option Bool)) (empty_:(Int->Option Bool)):Option (Bool):=(mk ((s_.x).Xa.length:Int) (0:Int)).bind λt0=>(Qm (λ(s0:List Int)=>((Qm (λ(s1:Int×List Int×Bool)=>((if (decide (s1.1<(s_.Xo.length:Int)))=true then (jn (λ(p0:List Int×Bool)=>(some (.inl ((i64.wrap (s1.1+1)),p0.1,p0.2)))) λj420=>(idx s_.Xo s1.1).bind λt1=>(limits_ s1.1).bind λt2=>(if (!t2)=true then (j420 (s1.2.1,s1.2.2)) else (QgR t1 s1.2.1).bind λt3=>(if (!t3.2.2)=true then (some (.inr (.inr false))) else (QbF t3.1 t3.2.1 s1.2.1 s1.2.2).bind λt4=>(j420 (t4.1,t4.2))))) else (some (.inr (.inl (s1.2.1,s1.2.2))))):Option ((Int×List Int×Bool)⊕((List Int×Bool)⊕(Bool))))) ((0:Int),s0,false)).bind λe0=>(match e0 with | .inl p1=>(Qm (λ(s2:Int×List Int×Bool)=>((if (decide (s2.1<(s_.refs.length:Int)))=true then (idx s_.refs s2.1).bind λt5=>(idx s2.2.1 t5.a0).bind λt6=>(QbF t5.a1 (imin 1 t6) s2.2.1 s2.2.2).bind λt7=>(some (.inl ((i64.wrap (s2.1+1)),t7.1,t7.2))) else (some (.inr (s2.2.1,s2.2.2)))):Option ((Int×List Int×Bool)⊕((List Int×Bool))))) ((0:Int),p1.1,p1.2)).bind λp2=>(Qm (λ(s3:Int)=>((if (decide (s3<(p2.1.length:Int)))=true then (idx p2.1 s3).bind λt8=>(opt (((decide (t8>65536))==false)&&((decide (t8>0))==true)) (empty_ s3) default).bind λt9=>(if ((decide (t8>65536))||((decide (t8>0))&&t9))=true then (some (.inr (.inr false))) else (some (.inl (i64.wrap (s3+1))))) else (some (.inr (.inl ())))):Option ((Int)⊕((Unit)⊕(Bool))))) (0:Int)).bind λe1=>(match e1 with | .inl _=>(if (!p2.2)=true then (some (.inr (.inl ()))) else (some (.inl p2.1))) | .inr p3=>(some (.inr (.inr p3)))) | .inr p4=>(some (.inr (.inr p4)))):Option ((List Int)⊕((Unit)⊕(Bool))))) t0).bind λe2=>(match e2 with | .inl _=>(some true) | .inr p5=>(some p5))
instance QgS:Spc3 prog 32 QaJ (λs_ limits_ empty_=>[tptr (QU.cs s_),rF81.ty limits_,rF81.ty empty_]) tb:=.mk λ{s_ limits_ empty_ r} h=>by
 unfold QaJ at h
 refine Fe func32 ntmps32 λM0 M w0 hpl=>?_
 refine Qa [1,2,3] ?_
 refine QvJ ?_
 have⟨t0,h0,h⟩:=bs h
 intro a w H
 refine sr mx [v1 6 (λv0=>own rI 3 t0 v0),v1 7 (λv0=>box (rVal.cs nilV) v0),v2 6 7 (λv0 v1=>box (rVal.cs v0) v1)] H (λ_=>.q 0 rfl<|.o (QiP z0)<|.o (Q6 QsD z0)<|.o (Q6 Qdo z0)<|.o (Q5 (u:=(s_.x).Xa) Qku z0 rfl)<|.o (QeM ud29 z0)<|.m [] [0] rfl rfl rfl (Qg4 (R:=rI) ud22 tok3 zok3 (leb rfl) z0 z0 h0)<|.m [] [1] rfl rfl rfl (Qe9 Qaz)<|.e [0] [1] [2] rfl rfl rfl rfl (Qda (R:=rI) (e:=3) (Ts:=(rVal.cs nilV)) Qaz z0 z1 (leb rfl))<|.n) λm0 a w H=>?_
 have H:=H.to [6,7,8,9,10] [_,_,_,_,_] [_,_] rfl rfl
 refine Q2 H ?_
 refine Qf λ_ k0=>?_
 refine QvK ?_
 refine k0 ?_
 refine Qf λK0 k1=>?_
 have⟨e0,h1,h⟩:=bs h
 have J0:∀(p0:Unit),(.inl p0)=e0->To M w0 96 [] [] K0:=by
  intro p0 he;subst he;simp only at h;refine k1 <|Qa [0] ?_;exact Qo h (·▸Ql hpl)
 have J1:∀(p1:Bool),(.inr p1)=e0->To M w0 96 [(6,tb p1)] [] (Ret prog f32 M0 [] w0 (λ_=>[]) (λ_=>tb r) .ret):=by
  intro p1 he;subst he;simp only at h;obtain rfl:=sj h;exact Ql hpl
 refine Qj <|Qai h1 (λ(s0:List Int)=>[(7,tv (m0 7)),(0,tptr (QU.cs s_)),(1,rF81.ty limits_),(2,rF81.ty empty_)]) (λ(s0:List Int)=>[own rI 3 s0 (m0 6),box (rVal.cs (m0 6)) (m0 7)]) [1,2,3,4] ?_;clear h;intro s0 o K1 h ho k2;refine Qj <|QJ [v1 0 (λv0=>box (Qau.cs false) v0),v1 0 (λv0=>box (Qau.cs false) v0)] [1,2] [0,1,2,3,4] λm1=>?_;refine Qa [1,2,3,4,5,6] ?_;refine Qf λK2 k3=>Qa [3,4,5,6,7,8,9,10,11] ?_;have⟨e1,h2,h⟩:=bs h;have J2:∀(p2:List Int×Bool),(.inl p2)=e1->To M w0 96 [(9,QaZ 91 [tv (m0 7),tv (m1 0)]),(8,tv (m1 0)),(7,tv (m0 7)),(0,tptr (QU.cs s_)),(1,rF81.ty limits_),(2,rF81.ty empty_)] [own rI 3 p2.1 (m0 6),box (rVal.cs (m0 6)) (m0 7),box (Qau.cs p2.2) (m1 0)] K2:=by
  intro p2 he;subst he;simp only at h;refine k3 <|Qf λK3 k4=>Qa [3,4,5,6,7,8,9,10,11] ?_;have⟨e2,h3,h⟩:=bs h;have J3:∀(p3:List Int×Bool),p3=e2->To M w0 96 [(8,tv (m1 0)),(7,tv (m0 7)),(0,tptr (QU.cs s_)),(1,rF81.ty limits_),(2,rF81.ty empty_)] [own rI 3 p3.1 (m0 6),box (rVal.cs (m0 6)) (m0 7),box (Qau.cs p3.2) (m1 0)] K3:=by
   intro p3 he;subst he;refine k4 <|Qf λK4 k5=>Qa [0,1,2,3,4,5,6,7] ?_;have⟨e3,h4,h⟩:=bs h;have J4:∀(p4:Unit),(.inl p4)=e3->To M w0 96 [(8,tv (m1 0)),(7,tv (m0 7)),(0,tptr (QU.cs s_)),(1,rF81.ty limits_),(2,rF81.ty empty_)] [own rI 3 p3.1 (m0 6),box (rVal.cs (m0 6)) (m0 7),box (Qau.cs p3.2) (m1 0)] K4:=by
    intro p4 he;subst he;simp only at h;refine k5 <|Qa [1,3,4,5,6] ?_;refine QY (λ_ _ H=>H.Xk [0,1] rfl) ?_;refine Qn h (λ_ h=>?_) (λ_ h=>?_)
    ·refine QO <|Qad (λ_ _ H=>(H.pick []).Xk [] rfl) ?_;exact Qu J0 (ho _ (sj h).symm) []
    refine Qq <|Qu k2 ((sj h).symm) [1,2,3,4]
   have J5:∀(p5:Bool),(.inr p5)=e3->To M w0 96 [(6,tb p5)] [] (Ret prog f32 M0 [] w0 (λ_=>[]) (λ_=>tb r) .ret):=by
    intro p5 he;subst he;simp only at h;exact Qu J1 (ho _ (sj h).symm) [0]
   refine Qj <|Qai h4 (λ(s1:Int)=>[(75,tv (m0 6)),(76,ti (p3.1.length:Int)),(77,ti s1),(8,tv (m1 0)),(7,tv (m0 7)),(0,tptr (QU.cs s_)),(1,rF81.ty limits_),(2,rF81.ty empty_)]) (λ(s1:Int)=>[own rI 3 p3.1 (m0 6),box (rVal.cs (m0 6)) (m0 7),box (Qau.cs p3.2) (m1 0)]) [0,1,2,3,4,5,6,7] ?_;clear h;intro s1 o K5 h ho k6;refine Qa [0,1,2,3,4,5,6,7,8] ?_;refine Qf λ_ k7=>Qn h (λ_ h=>?_) (λ_ h=>?_)
   ·refine Qq <|k7 <|Qf λ_ k8=>Qj ?_;have⟨_,_,h⟩:=bs h;refine Qa [3,4,6,7,8,9,10,11,12,13] ?_;have⟨_,_,h⟩:=bs h;refine Qa [10,13,14,15,16,17,18,19,20] ?_;refine Qn h (λ_ h=>?_) (λ_ h=>?_)
    ·refine Qa [0,2] ?_;refine QY (λ_ _ H=>H.Xk [0] rfl) ?_;refine Qam ?_;refine Qad (λ_ _ H=>(H.pick [0]).Xk [] rfl) ?_;exact Qu J5 (ho _ (sj h).symm) [0]
    refine Qq <|k8 <|QL [1,3,4,5,6,7,8,9] ?_;exact Qu k6 ((sj h).symm) [1,2,0,3,4,5,6,7]
   refine QO <|Qu J4 (ho _ (sj h).symm) [4,5,6,7,8]
  refine Qj <|Qai h3 (λ(s2:Int×List Int×Bool)=>[(58,tsl Qat s_.refs),(59,ti (s_.refs.length:Int)),(60,ti s2.1),(9,QaZ 91 [tv (m0 7),tv (m1 0)]),(8,tv (m1 0)),(7,tv (m0 7)),(0,tptr (QU.cs s_)),(1,rF81.ty limits_),(2,rF81.ty empty_)]) (λ(s2:Int×List Int×Bool)=>[own rI 3 s2.2.1 (m0 6),box (rVal.cs (m0 6)) (m0 7),box (Qau.cs s2.2.2) (m1 0)]) [0,1,2,3,4,5,6,7,8] ?_;clear h;intro s2 o K6 h ho k9;refine Qa [0,1,2,3,4,5,6,7,8,9] ?_;refine Qf λ_ k10=>Qn h (λ_ h=>?_) (λ_ h=>?_)
  ·refine Qq <|k10 <|Qf λ_ k11=>Qj ?_;have⟨t1,_,h⟩:=bs h;refine QJ [v1 2 (λv0=>box (Qat.cs (QR.mk (0:Int) (0:Int))) v0),v1 2 (λv0=>box (Qat.cs t1) v0)] [3,4] [2,4,5,6,7,8,9,10,11,12] λm2=>?_;refine QY (λ_ _ H=>(((H.Xk [3,0,1,2] rfl).Xl 0 rfl).add 0 rfl (λ_ _ _ h=>h.2)).pick [0,3,4,5,6,7,8,9,10,11]) ?_;have⟨_,h5,t2,h6,h⟩:=bs2 h;intro a w H;refine wr mx [v0 (box (rVal.cs (m0 6)) (m0 7)),v0 (own rI 3 t2.1 (m0 6)),v0 (box (Qau.cs t2.2) (m1 0))] H (λ_=>.q 4 rfl<|.o (QjW 1 rfl Qqb tok3 z1 .k (by decide))<|.o (Q5 (u:=t1.a1) tok3 z0 rfl)<|.u [1] rfl rfl (Qbf Qaz z9)<|.o (QjW 0 rfl Qqb tok3 z4 .k (by decide))<|.o (Q5 (u:=t1.a0) tok3 z0 rfl)<|.u [0] rfl rfl (QaY ud22 tok3 z2 z0 h5)<|.u [0] rfl rfl (QdS tok3 z0 h5)<|.o (Qqr .k z0)<|.e [] [1,0,2] [3,4,5] rfl rfl rfl rfl (Qf1 QqS (Qgb.ok h6) z8 (.cons (.of z6)<|.cons (.of z0)<|.nil))<|.n) λ_ a w H=>?_;have H:=H.to [3,11,12,13,14,15,16,17,18,19] [_,_,_,_,_,_,_,_,_,_] [_,_,_] rfl rfl;refine Qbl H ?_;refine k11 <|QL [1,2,3,4,5,6,7,8,9,10] ?_;refine Qad (λ_ _ H=>(H.pick [2,3,0,4,5,6,7,8,9]).Xk [1,0,2] rfl) ?_;exact Qu k9 ((sj h).symm) [0,1,2,3,4,5,6,7,8]
  refine QO <|Qu J3 (ho _ (sj h).symm) [5,6,7,8,9]
 have J6:∀(p6:Bool),(.inr p6)=e1->To M w0 96 [(6,tb p6)] [] (Ret prog f32 M0 [] w0 (λ_=>[]) (λ_=>tb r) .ret):=by
  intro p6 he;subst he;simp only at h;exact Qu J1 (ho _ (sj h).symm) [0]
 refine Qj <|Qai h2 (λ(s3:Int×List Int×Bool)=>[(30,tsl QP s_.Xo),(31,ti (s_.Xo.length:Int)),(32,ti s3.1),(9,QaZ 91 [tv (m0 7),tv (m1 0)]),(8,tv (m1 0)),(7,tv (m0 7)),(0,tptr (QU.cs s_)),(1,rF81.ty limits_),(2,rF81.ty empty_)]) (λ(s3:Int×List Int×Bool)=>[own rI 3 s3.2.1 (m0 6),box (rVal.cs (m0 6)) (m0 7),box (Qau.cs s3.2.2) (m1 0)]) [0,1,2,3,4,5,6,7,8] ?_;clear h;intro s3 o K7 h ho k12;refine Qa [0,1,2,3,4,5,6,7,8,9] ?_;refine Qf λ_ k13=>Qn h (λ_ h=>?_) (λ_ h=>?_)
 ·refine Qq <|k13 <|Qf λK8 k14=>?_;obtain⟨j420,hj420,h⟩:=QiO h;have J7:∀(p7:List Int×Bool),j420 p7=some o->To M w0 96 [(30,tsl QP s_.Xo),(31,ti (s_.Xo.length:Int)),(32,ti s3.1),(9,QaZ 91 [tv (m0 7),tv (m1 0)]),(8,tv (m1 0)),(7,tv (m0 7)),(0,tptr (QU.cs s_)),(1,rF81.ty limits_),(2,rF81.ty empty_)] [own rI 3 p7.1 (m0 6),box (rVal.cs (m0 6)) (m0 7),box (Qau.cs p7.2) (m1 0)] K8:=by
   intro p7 h;rw[hj420] at h;clear hj420;refine k14 <|QL [1,2,3,4,5,6,7,8,9] ?_;exact Qu k12 ((sj h).symm) [1,2,0,3,4,5,6,7,8]
  clear hj420;refine Qj ?_;have⟨t3,_,h⟩:=bs h;refine QJ [v1 3 (λv0=>box (QP.cs (Qk.mk (0:Int) (0:Int) (0:Int) false)) v0),v1 3 (λv0=>box (QP.cs t3) v0)] [4,6] [3,4,6,7,8,9,10,11,12,13,14] λm3=>?_;refine QY (λ_ _ H=>(((H.Xk [3,0,1,2] rfl).Xl 0 rfl).add 0 rfl (λ_ _ _ h=>h.2)).pick [0,3,4,5,6,7,8,9,10,11,12]) ?_;have⟨_,_,h⟩:=bs h;refine tIfs h [3,4,6,7,8,9,10,11,12,13,14] (λ_ h=>?_) (λ_ h=>?_)
  ·refine QO <|Qu J7 h [2,3,4,5,6,7,8,9,10]
  have⟨t4,h7,h⟩:=bs h;intro a w H;refine sr mx [] H (λ_=>.o (Qaa QqE z1)<|.u [1] rfl rfl (Qbf Qaz z8)<|.u [0] rfl rfl (QcU [own rI 3 s3.2.1 (m0 6)] QvD (Qp0.ok h7) (.cons (.of z1)<|.cons (.own z0 (.head _))<|.nil) (λ_=>(Qw7 (Qlj Qci (Qlj Qci (Qlj Qci Qw8))))) (λ_=>QeO (x:=undef)))<|.q 0 rfl<|.o (Qag z0 rfl)<|.o (Qag z1 rfl)<|.o (Qag z2 rfl)<|.o (Qr z2)<|.o (Qr z2)<|.o (Qr z2)<|.n) λ_ a w H=>?_;have H:=H.to [1,7,8,9,12,13,14,15,16,17,18,19,20] [_,_,_,_,_,_,_,_,_,_,_,_,_] [_,_,_] rfl rfl;refine Q2 H ?_;refine tIfs h [1,2,3,4,6,7,8,9,10,11,12,13,14] (λ_ h=>?_) (λ_ h=>?_)
  ·refine Qa [0,2] ?_;refine QY (λ_ _ H=>H.Xk [0] rfl) ?_;refine Qam ?_;refine Qad (λ_ _ H=>(H.pick [0]).Xk [] rfl) ?_;exact Qu J6 (ho _ (sj h).symm) [0]
  have⟨t5,h8,h⟩:=bs h;intro a w H;refine wr mx [v0 (box (rVal.cs (m0 6)) (m0 7)),v0 (own rI 3 t5.1 (m0 6)),v0 (box (Qau.cs t5.2) (m1 0))] H (λ_=>.q 7 rfl<|.q 3 rfl<|.q 5 rfl<|.e [] [1,0,2] [3,4,5] rfl rfl rfl rfl (Qf1 QqS (Qgb.ok h8) z2 (.cons (.of z1)<|.cons (.of z0)<|.nil))<|.n) λ_ a w H=>?_;have H:=H.to [5,8,9,10,11,12,13,14,15,16] [_,_,_,_,_,_,_,_,_,_] [_,_,_] rfl rfl;refine Qbl H ?_;refine Qad (λ_ _ H=>(H.pick [1,2,3,4,5,6,7,8,9]).Xk [1,0,2] rfl) ?_;exact Qu J7 h [0,1,2,3,4,5,6,7,8]
 refine QO <|Qu J2 (ho _ (sj h).symm) [4,5,6,7,8,9]
def Qiq (x_:Int):Option (Int):=(idx ([0,1,1,2,1,2,2,3,1,2,2,3,2,3,3,4,1,2,2,3,2,3,3,4,2,3,3,4,3,4,4,5,1,2,2,3,2,3,3,4,2,3,3,4,3,4,4,5,2,3,3,4,3,4,4,5,3,4,4,5,4,5,5,6,1,2,2,3,2,3,3,4,2,3,3,4,3,4,4,5,2,3,3,4,3,4,4,5,3,4,4,5,4,5,5,6,2,3,3,4,3,4,4,5,3,4,4,5,4,5,5,6,3,4,4,5,4,5,5,6,4,5,5,6,5,6,6,7,1,2,2,3,2,3,3,4,2,3,3,4,3,4,4,5,2,3,3,4,3,4,4,5,3,4,4,5,4,5,5,6,2,3,3,4,3,4,4,5,3,4,4,5,4,5,5,6,3,4,4,5,4,5,5,6,4,5,5,6,5,6,6,7,2,3,3,4,3,4,4,5,3,4,4,5,4,5,5,6,3,4,4,5,4,5,5,6,4,5,5,6,5,6,6,7,3,4,4,5,4,5,5,6,4,5,5,6,5,6,6,7,4,5,5,6,5,6,6,7,5,6,6,7,6,7,7,8]:Str) (ishr .u32 x_ (24:Int))).bind λt0=>(idx ([0,1,1,2,1,2,2,3,1,2,2,3,2,3,3,4,1,2,2,3,2,3,3,4,2,3,3,4,3,4,4,5,1,2,2,3,2,3,3,4,2,3,3,4,3,4,4,5,2,3,3,4,3,4,4,5,3,4,4,5,4,5,5,6,1,2,2,3,2,3,3,4,2,3,3,4,3,4,4,5,2,3,3,4,3,4,4,5,3,4,4,5,4,5,5,6,2,3,3,4,3,4,4,5,3,4,4,5,4,5,5,6,3,4,4,5,4,5,5,6,4,5,5,6,5,6,6,7,1,2,2,3,2,3,3,4,2,3,3,4,3,4,4,5,2,3,3,4,3,4,4,5,3,4,4,5,4,5,5,6,2,3,3,4,3,4,4,5,3,4,4,5,4,5,5,6,3,4,4,5,4,5,5,6,4,5,5,6,5,6,6,7,2,3,3,4,3,4,4,5,3,4,4,5,4,5,5,6,3,4,4,5,4,5,5,6,4,5,5,6,5,6,6,7,3,4,4,5,4,5,5,6,4,5,5,6,5,6,6,7,4,5,5,6,5,6,6,7,5,6,6,7,6,7,7,8]:Str) (iand .u32 (ishr .u32 x_ (16:Int)) (255:Int))).bind λt1=>(idx ([0,1,1,2,1,2,2,3,1,2,2,3,2,3,3,4,1,2,2,3,2,3,3,4,2,3,3,4,3,4,4,5,1,2,2,3,2,3,3,4,2,3,3,4,3,4,4,5,2,3,3,4,3,4,4,5,3,4,4,5,4,5,5,6,1,2,2,3,2,3,3,4,2,3,3,4,3,4,4,5,2,3,3,4,3,4,4,5,3,4,4,5,4,5,5,6,2,3,3,4,3,4,4,5,3,4,4,5,4,5,5,6,3,4,4,5,4,5,5,6,4,5,5,6,5,6,6,7,1,2,2,3,2,3,3,4,2,3,3,4,3,4,4,5,2,3,3,4,3,4,4,5,3,4,4,5,4,5,5,6,2,3,3,4,3,4,4,5,3,4,4,5,4,5,5,6,3,4,4,5,4,5,5,6,4,5,5,6,5,6,6,7,2,3,3,4,3,4,4,5,3,4,4,5,4,5,5,6,3,4,4,5,4,5,5,6,4,5,5,6,5,6,6,7,3,4,4,5,4,5,5,6,4,5,5,6,5,6,6,7,4,5,5,6,5,6,6,7,5,6,6,7,6,7,7,8]:Str) (iand .u32 (ishr .u32 x_ (8:Int)) (255:Int))).bind λt2=>(idx ([0,1,1,2,1,2,2,3,1,2,2,3,2,3,3,4,1,2,2,3,2,3,3,4,2,3,3,4,3,4,4,5,1,2,2,3,2,3,3,4,2,3,3,4,3,4,4,5,2,3,3,4,3,4,4,5,3,4,4,5,4,5,5,6,1,2,2,3,2,3,3,4,2,3,3,4,3,4,4,5,2,3,3,4,3,4,4,5,3,4,4,5,4,5,5,6,2,3,3,4,3,4,4,5,3,4,4,5,4,5,5,6,3,4,4,5,4,5,5,6,4,5,5,6,5,6,6,7,1,2,2,3,2,3,3,4,2,3,3,4,3,4,4,5,2,3,3,4,3,4,4,5,3,4,4,5,4,5,5,6,2,3,3,4,3,4,4,5,3,4,4,5,4,5,5,6,3,4,4,5,4,5,5,6,4,5,5,6,5,6,6,7,2,3,3,4,3,4,4,5,3,4,4,5,4,5,5,6,3,4,4,5,4,5,5,6,4,5,5,6,5,6,6,7,3,4,4,5,4,5,5,6,4,5,5,6,5,6,6,7,4,5,5,6,5,6,6,7,5,6,6,7,6,7,7,8]:Str) (iand .u32 x_ (255:Int))).bind λt3=>(some (i64.wrap (u8.wrap ((u8.wrap ((u8.wrap ((t0.toNat:Int)+(t1.toNat:Int)))+(t2.toNat:Int)))+(t3.toNat:Int)))))
instance QuA:Spc1 prog 94 Qiq (λx_=>[tv (.int .u32 x_)]) ti:=.mk λ{x_ r} h=>by
 unfold Qiq at h
 refine Fe func94 ntmps94 λM0 M w0 hpl=>?_
 refine Qa [1] ?_
 have⟨t0,h0,t1,h1,t2,h2,t3,h3,h⟩:=bs4 h
 intro a w H
 refine sr mx [] H (λ_=>.q 0 rfl<|.o (QbC z0 .k (by decide))<|.o (QjV ud9 .k z0 h0)<|.q 3 rfl<|.o (QbC z0 .k (by decide))<|.o (QcO z0 .k)<|.o (QjV ud9 .k z0 h1)<|.o (QaH z4 z0)<|.q 8 rfl<|.o (QbC z0 .k (by decide))<|.o (QcO z0 .k)<|.o (QjV ud9 .k z0 h2)<|.o (QaH z4 z0)<|.q 13 rfl<|.o (QcO z0 .k)<|.o (QjV ud9 .k z0 h3)<|.o (QaH z3 z0)<|.o (QcZ ud5 ud3 z0)<|.o (Qr z0)<|.n) λ_ a w H=>?_
 have H:=H.t1_0 [18]
 refine Q2 H ?_
 exact Qo h (·▸Ql hpl)

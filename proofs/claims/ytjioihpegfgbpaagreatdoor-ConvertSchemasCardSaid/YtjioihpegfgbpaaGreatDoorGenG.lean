/- The walk. No condition. -/
import Derived.Test.YtjioihpegfgbpaaGreatDoorGenF
set_option linter.all false
open Go.Proofs.Tryz Go.IntKind
namespace Go.Proofs.YtjioihpegfgbpaaGreatDoor
noncomputable section
open Go.Sim
set_option maxRecDepth 100000
set_option maxHeartbeats 4000000
def Qgp (x_:Qa) (at_:Int) (how_:Int) (by_:Int):Option (Qa):=(rm (([]:List Qh).length+x_.Xa.length)).bind λ_=>(rm (([]:List Qr).length+x_.Xd.length)).bind λ_=>(rm (([]:List Qm).length+x_.Xc.length)).bind λ_=>(Q2 at_ ((([]:List Qh)++x_.Xa).length:Int)).bind λt0=>(Q2 how_ 8).bind λt1=>((if (t1==0)=true then (Q2 by_ 4).bind λt2=>(idx [(i64.wrap (x_.Version+1)),(-1:Int),(1048576:Int),(1048577:Int)] t2).bind λt3=>(some ((([]:List Qh)++x_.Xa),(([]:List Qr)++x_.Xd),(([]:List Qm)++x_.Xc),t3)) else ((if (t1==1)=true then ((if (decide (t0<((([]:List Qh)++x_.Xa).length:Int)))=true then (Q2 by_ 4).bind λt4=>(idx [([112,101,114,115,111,110]:Str),([]:Str),([111,116,104,101,114]:Str),([97,32,98]:Str)] t4).bind λt5=>(idx (([]:List Qh)++x_.Xa) t0).bind λt6=>(setAt (([]:List Qh)++x_.Xa) t0 { t6 with Xi:=t5 }).bind λt7=>(some t7) else (some (([]:List Qh)++x_.Xa)))).bind λp0=>(some ((([]:List Qr)++x_.Xd),(([]:List Qm)++x_.Xc),p0)) else ((if (t1==2)=true then ((if (decide (t0<((([]:List Qh)++x_.Xa).length:Int)))=true then (Q2 by_ 4).bind λt8=>(idx [(0:Int),(5:Int),(-1:Int),(65537:Int)] t8).bind λt9=>(idx (([]:List Qh)++x_.Xa) t0).bind λt10=>(setAt (([]:List Qh)++x_.Xa) t0 { t10 with Lo:=t9 }).bind λt11=>(some t11) else (some (([]:List Qh)++x_.Xa)))).bind λp1=>(some ((([]:List Qr)++x_.Xd),(([]:List Qm)++x_.Xc),p1)) else ((if (t1==3)=true then ((if (decide (t0<((([]:List Qh)++x_.Xa).length:Int)))=true then (Q2 by_ 4).bind λt12=>(idx [(0:Int),(5:Int),(65536:Int),(65537:Int)] t12).bind λt13=>(idx (([]:List Qh)++x_.Xa) t0).bind λt14=>(setAt (([]:List Qh)++x_.Xa) t0 { t14 with Hi:=t13 }).bind λt15=>(some t15) else (some (([]:List Qh)++x_.Xa)))).bind λp2=>(some ((([]:List Qr)++x_.Xd),(([]:List Qm)++x_.Xc),p2)) else ((if (t1==4)=true then ((if (decide (((([]:List Qr)++x_.Xd).length:Int)>0))=true then (idx (([]:List Qr)++x_.Xd) 0).bind λt16=>(rm (([]:List Qac).length+t16.Xg.length)).bind λ_=>(Q2 by_ 6).bind λt17=>(Q2 (i64.wrap (Int.tdiv by_ (6:Int))) 6).bind λt18=>(rm ((([]:List Qac)++t16.Xg).length+[(Qac.mk (i64.wrap (t17 - 1)) (i64.wrap (t18 - 1)))].length)).bind λ_=>(idx (([]:List Qr)++x_.Xd) 0).bind λt19=>(setAt (([]:List Qr)++x_.Xd) (0:Int) { t19 with Xg:=((([]:List Qac)++t16.Xg)++[(Qac.mk (i64.wrap (t17 - 1)) (i64.wrap (t18 - 1)))]) }).bind λt20=>(some t20) else (some (([]:List Qr)++x_.Xd)))).bind λp3=>(some ((([]:List Qh)++x_.Xa),(([]:List Qm)++x_.Xc),p3)) else ((if (t1==5)=true then (Q2 by_ 4).bind λt21=>(idx [([112,101,114,115,111,110]:Str),([111,114,100,101,114]:Str),([110,111,110,101]:Str),([]:Str)] t21).bind λt22=>(Q2 (i64.wrap (Int.tdiv by_ (4:Int))) 5).bind λt23=>(idx [([115,105,122,101]:Str),([108,111,119]:Str),([]:Str),([105,100]:Str),([98,111,114,110]:Str)] t23).bind λt24=>(Q2 (i64.wrap (Int.tdiv by_ (20:Int))) 5).bind λt25=>(idx [([104,105,103,104]:Str),([]:Str),([115,105,122,101]:Str),([108,101,102,116]:Str),([116,97,103]:Str)] t25).bind λt26=>(Q2 by_ 50).bind λt27=>(rm ((([]:List Qm)++x_.Xc).length+[(Qm.mk ([102,117,114,116,104,101,114]:Str) t22 t24 t26 (i64.wrap (t27 - 20)))].length)).bind λ_=>(some ((([]:List Qh)++x_.Xa),(([]:List Qr)++x_.Xd),((([]:List Qm)++x_.Xc)++[(Qm.mk ([102,117,114,116,104,101,114]:Str) t22 t24 t26 (i64.wrap (t27 - 20)))]))) else ((if (t1==6)=true then ((if (decide (((([]:List Qr)++x_.Xd).length:Int)>0))=true then (idx (([]:List Qr)++x_.Xd) 0).bind λt28=>(rm (([]:List Str).length+t28.Xe.length)).bind λ_=>(Q2 by_ 3).bind λt29=>(idx [([109,111,114,101]:Str),([110,101,119]:Str),([63]:Str)] t29).bind λt30=>(rm ((([]:List Str)++t28.Xe).length+[t30].length)).bind λ_=>(idx (([]:List Qr)++x_.Xd) 0).bind λt31=>(setAt (([]:List Qr)++x_.Xd) (0:Int) { t31 with Xe:=((([]:List Str)++t28.Xe)++[t30]) }).bind λt32=>(some t32) else (some (([]:List Qr)++x_.Xd)))).bind λp4=>(some ((([]:List Qh)++x_.Xa),p4)) else ((if (decide (t0<((([]:List Qh)++x_.Xa).length:Int)))=true then (idx (([]:List Qh)++x_.Xa) t0).bind λt33=>(rm (([]:List Qd).length+t33.Xb.length)).bind λ_=>(Q2 (i64.wrap (Int.tdiv at_ (3:Int))) ((([]:List Qd)++t33.Xb).length:Int)).bind λt34=>((if (decide (t34<((([]:List Qd)++t33.Xb).length:Int)))=true then (idx (([]:List Qd)++t33.Xb) t34).bind λt35=>(QdO t35 (i64.wrap (Int.tdiv how_ (8:Int))) by_).bind λt36=>(setAt (([]:List Qd)++t33.Xb) t34 t36).bind λt37=>(some t37) else (some (([]:List Qd)++t33.Xb)))).bind λp5=>(idx (([]:List Qh)++x_.Xa) t0).bind λt38=>(setAt (([]:List Qh)++x_.Xa) t0 { t38 with Xb:=p5 }).bind λt39=>(some t39) else (some (([]:List Qh)++x_.Xa)))).bind λp6=>(some (p6,(([]:List Qr)++x_.Xd))))).bind λp7=>(some (p7.1,p7.2,(([]:List Qm)++x_.Xc))))).bind λp8=>(some (p8.1,p8.2.2,p8.2.1)))).bind λp9=>(some (p9.2.2,p9.2.1,p9.1)))).bind λp10=>(some (p10.1,p10.2.1,p10.2.2)))).bind λp11=>(some (p11.1,p11.2.1,p11.2.2)))).bind λp12=>(some (p12.2.2,p12.1,p12.2.1,x_.Version)))).bind λp13=>(some (Qa.mk p13.2.2.2 p13.1 p13.2.1 p13.2.2.1))
instance QoF:Spc4 prog 7 Qgp (λx_ at_ how_ by_=>[Qb.ty x_,ti at_,ti how_,ti by_]) Qb.ty:=.mk λ{x_ at_ how_ by_ r} h=>by
 unfold Qgp at h
 refine fe func7 ntmps7 λM0 M w0 a hpl H=>?_
 refine sr mx [v1 0 (λv0=>box (Qb.cs x_) v0),v1 1 (λv0=>box (Qb.cs zz4) v0)] H (λ_=>.m [] [0] rfl rfl rfl (Qn4 (R:=Qb) (u:=x_) z0)<|.m [] [1] rfl rfl rfl (QV (R:=Qb) (a:=zz4) QH QdK)<|.n) λm0 a w H=>?_
 have H:=H.t5_2 [0,1,3,4,5]
 refine wp_seq_k (λ_ k0=>?_)
 have⟨u0,h0,h⟩:=bs h
 refine wr mx [v1 0 (λv0=>own Qp 54 ([]:List Qh) v0),v1 3 (λv0=>own Qp 54 (([]:List Qh)++x_.Xa) v0),v1 3 (λv0=>box ([ti x_.Version,tvs v0,tsl Qo x_.Xd,tsl Ql x_.Xc]) (m0 0))] H (λ_=>.m [] [2] rfl rfl rfl (QaS (R:=Qp) (us:=([]:List Qh)) ud23 Q6 (.nil _) rfl (leb rfl) (leb rfl))<|.u [0] rfl rfl (QC QZ z1)<|.u [0] rfl rfl (QaY (R:=(rSl Qp)) (u:=x_.Xa) Qa0 z0 rfl)<|.e [] [2] [3] rfl rfl rfl rfl (QS (R:=Qp) ud23 Q6 (leb rfl) z2 z0 h0)<|.u [0] rfl rfl (QC QZ z4)<|.e [3] [0] [4] rfl rfl rfl rfl (Qco (R:=Qp) (e:=54) (Ts:=(Qb.cs x_)) (off:=1) Qa7 z0 z1 (leb rfl))<|.n) λm1 a w H=>?_
 have H:=H.t6_3 [3,5,6,7,8,9]
 refine k0 _ _ ?_
 refine wp_seq_k (λ_ k1=>?_)
 have⟨u1,h1,h⟩:=bs h
 refine wr mx [v1 0 (λv0=>own Qo 59 ([]:List Qr) v0),v1 3 (λv0=>own Qo 59 (([]:List Qr)++x_.Xd) v0),v1 3 (λv0=>box ([ti x_.Version,tvs (m1 3),tvs v0,tsl Ql x_.Xc]) (m0 0))] H (λ_=>.m [] [3] rfl rfl rfl (QaS (R:=Qo) (us:=([]:List Qr)) ud24 Qe7 (.nil _) rfl (leb rfl) (leb rfl))<|.u [2] rfl rfl (QC Qct z2)<|.u [2] rfl rfl (QaY (R:=(rSl Qo)) (u:=x_.Xd) Qiw z0 rfl)<|.e [] [3] [4] rfl rfl rfl rfl (QS (R:=Qo) ud24 Qe7 (leb rfl) z2 z0 h1)<|.u [2] rfl rfl (QC Qct z5)<|.e [4] [2] [5] rfl rfl rfl rfl (Qco (R:=Qo) (e:=59) (Ts:=([ti x_.Version,tvs (m1 3),tsl Qo x_.Xd,tsl Ql x_.Xc])) (off:=2) QhL z0 z1 (leb rfl))<|.n) λm2 a w H=>?_
 have H:=H.t7_4 [3,5,6,7,8,9,10]
 refine k1 _ _ ?_
 refine wp_seq_k (λ_ k2=>?_)
 have⟨u2,h2,h⟩:=bs h
 refine wr mx [v1 0 (λv0=>own Ql 62 ([]:List Qm) v0),v1 3 (λv0=>own Ql 62 (([]:List Qm)++x_.Xc) v0),v1 3 (λv0=>box ([ti x_.Version,tvs (m1 3),tvs (m2 3),tvs v0]) (m0 0))] H (λ_=>.m [] [4] rfl rfl rfl (QaS (R:=Ql) (us:=([]:List Qm)) ud25 Qbp (.nil _) rfl (leb rfl) (leb rfl))<|.u [3] rfl rfl (QC QaO z3)<|.u [3] rfl rfl (QaY (R:=(rSl Ql)) (u:=x_.Xc) QcH z0 rfl)<|.e [] [4] [5] rfl rfl rfl rfl (QS (R:=Ql) ud25 Qbp (leb rfl) z2 z0 h2)<|.u [3] rfl rfl (QC QaO z6)<|.e [5] [3] [6] rfl rfl rfl rfl (Qco (R:=Ql) (e:=62) (Ts:=([ti x_.Version,tvs (m1 3),tvs (m2 3),tsl Ql x_.Xc])) (off:=3) QhM z0 z1 (leb rfl))<|.n) λm3 a w H=>?_
 have H:=H.t8_5 [3,5,6,7,8,9,10,11]
 refine k2 _ _ ?_
 have⟨t0,h3,h⟩:=bs h
 refine sr mx [] H (λ_=>.q 5 rfl<|.u [4] rfl rfl (QC QZ z4)<|.u [4] rfl rfl (QX (u:=(m1 3)) Qa7 z0 rfl)<|.u [1] rfl rfl (Qdn ud23 z0)<|.o (Qq Qfw (QaM.ok h3) (.cons (.of z3)<|.cons (.of z0)<|.nil))<|.o (Qc z0)<|.n) λ_ a w H=>?_
 have H:=H.t10_5 [2,5,6,7,8,9,10,11,12,13]
 refine wp_seq_k (λK0 k3=>?_)
 have⟨t1,h4,h⟩:=bs h
 refine sr mx [] H (λ_=>.q 8 rfl<|.o (Qq Qfw (QaM.ok h4) (.cons (.of z0)<|.cons (.of .k)<|.nil))<|.n) λ_ a w H=>?_
 have H:=H.to [1,2,3,4,5,6,7,8,9,10,11] [_,_,_,_,_,_,_,_,_,_,_] [_,_,_,_,_] rfl rfl
 refine wp_block ?_
 refine sr mx [] H (λ_=>.o (Qau z0 .k)<|.o (Qc z0)<|.n) λ_ a w H=>?_
 have H:=H.t12_5 [1,2,3,4,5,6,7,8,9,10,11,12]
 have⟨p0,h5,h⟩:=bs h
 have J0:∀(y0:Value) a w,St M w0 215 [(4,tv (m0 0)),(8,tv (m0 1))] [box (Qb.cs zz4) (m0 1),own Qp 54 p0.1 (m1 3),own Qo 59 p0.2.1 (m2 3),own Ql 62 p0.2.2.1 y0,box ([ti p0.2.2.2,tvs (m1 3),tvs (m2 3),tvs y0]) (m0 0)] a w->K0 a w:=by
  intro y0 a w H;refine k3 _ _ ?_;refine wp_seq_k (λ_ k4=>?_);replace H:St _ _ _ [_,_] [_,_,_,_] _ _:=((H.pick [0,1]).Xj [1,4,0,2,3] rfl).Xl 1 rfl;replace H:St _ _ _ [_,_] [_,_,_] _ _:=((H.pick [0,1]).Xj [2,0,1,3] rfl).Xl 2 rfl;replace H:St _ _ _ [_,_] [_,_] _ _:=((H.pick [0,1]).Xj [2,0,1] rfl).Xl 3 rfl;refine wr mx [v0 (box (Qb.cs (Qa.mk p0.2.2.2 p0.1 p0.2.1 p0.2.2.1)) (m0 1))] H (λ_=>.u [0] rfl rfl (Qbm (R:=Qb) (u:=(Qa.mk p0.2.2.2 p0.1 p0.2.1 p0.2.2.1)) QH z0 rfl)<|.e [] [1] [2] rfl rfl rfl rfl (QG (R:=Qb) (a:=(Qa.mk p0.2.2.2 p0.1 p0.2.1 p0.2.2.1)) QH z2 z0 (leb rfl))<|.n) λ_ a w H=>?_;replace H:St _ _ _ [_] [_] _ _:=(H.pick [2]).Xj [1] rfl;refine k4 _ _ ?_;exact r0 h (·▸r1 hpl H (.cell (R:=Qb) (u:=(Qa.mk p0.2.2.2 p0.1 p0.2.1 p0.2.2.1)) QH z0 0 rfl rfl .nil))
 replace h:=h5;clear h5;refine wi H h (λb0 h=>?_) (λb0 h=>?_)
 ·have⟨t2,h6,t3,h7,h⟩:=bs2 h;refine wr mx [v0 (box ([ti t3,tvs (m1 3),tvs (m2 3),tvs (m3 3)]) (m0 0))] H (λ_=>.u [4] rfl rfl (QC QiT z7)<|.u [4] rfl rfl (QaY (R:=rI) (u:=x_.Version) tok3 z0 rfl)<|.o (Qab z0 .k)<|.o (QK (R:=rI) (us:=[(i64.wrap (x_.Version+1)),(-1:Int),(1048576:Int),(1048577:Int)]) ud22 tok3 (.cons z0<|.cons .k<|.cons .k<|.cons .k<|.nil _) rfl (leb rfl))<|.q 15 rfl<|.o (Qq Qfw (QaM.ok h6) (.cons (.of z0)<|.cons (.of .k)<|.nil))<|.o (QA ud22 tok3 z2 z0 h7)<|.o (Qw tok3 z0)<|.u [4] rfl rfl (QC QiT z15)<|.e [] [4] [5] rfl rfl rfl rfl (QaL (R:=rI) (a:=t3) (Ts:=([ti x_.Version,tvs (m1 3),tvs (m2 3),tvs (m3 3)])) (off:=0) tok3 z0 z1 (leb rfl))<|.n) λ_ a w H=>?_;have H:=H.t6_5 [11,13,14,15,16,17];obtain rfl:=sj h;exact J0 (m3 3) _ _ (H.pick [4,5])
 refine sr mx [] H (λ_=>.o (Qau z1 .k)<|.o (Qc z0)<|.n) λ_ a w H=>?_;have H:=H.t12_5 [1,3,4,5,6,7,8,9,10,11,12,13];have⟨p1,h8,h⟩:=bs h;have J1:∀(y1:Value) a w,St M w0 215 [(4,tv (m0 0)),(8,tv (m0 1))] [box (Qb.cs zz4) (m0 1),own Qo 59 p1.1 (m2 3),own Ql 62 p1.2.1 y1,box ([ti x_.Version,tvs (m1 3),tvs (m2 3),tvs y1]) (m0 0),own Qp 54 p1.2.2 (m1 3)] a w->K0 a w:=by
  intro y1 a w H;obtain rfl:=sj h;exact J0 y1 _ _ ((H.pick [0,1]).Xj [0,4,1,2,3] rfl)
 replace h:=h8;clear h8;refine wi H h (λb1 h=>?_) (λb1 h=>?_)
 ·refine sr mx [] H (λ_=>.q 3 rfl<|.u [4] rfl rfl (QC QZ z8)<|.u [4] rfl rfl (QX (u:=(m1 3)) Qa7 z0 rfl)<|.u [1] rfl rfl (Qdn ud23 z0)<|.o (Q8 z3 z0)<|.n) λ_ a w H=>?_;have H:=H.t10_5 [2,4,7,8,9,10,11,12,13,16];have⟨p2,h9,h⟩:=bs h;have J2:∀a w,St M w0 215 [(4,tv (m0 0)),(8,tv (m0 1))] [box (Qb.cs zz4) (m0 1),own Qo 59 (([]:List Qr)++x_.Xd) (m2 3),own Ql 62 (([]:List Qm)++x_.Xc) (m3 3),box ([ti x_.Version,tvs (m1 3),tvs (m2 3),tvs (m3 3)]) (m0 0),own Qp 54 p2 (m1 3)] a w->K0 a w:=by
   intro a w H;obtain rfl:=sj h;exact J1 (m3 3) _ _ (H.pick [0,1])
  replace h:=h9;clear h9;refine Qsp 1 H rfl (λb2=>?_) (λb2=>?_)
  ·replace h:=Qhp b2 h;have⟨t4,h10,t5,h11,t6,h12,t7,h13,h⟩:=bs4 h;refine wr mx [v0 (own Qp 54 t7 (m1 3))] H (λ_=>.u [4] rfl rfl (QC QZ z7)<|.u [4] rfl rfl (QX (u:=(m1 3)) Qa7 z0 rfl)<|.q 5 rfl<|.o (QK (R:=rS) (us:=[([112,101,114,115,111,110]:Str),([]:Str),([111,116,104,101,114]:Str),([97,32,98]:Str)]) ud56 tok9 (.cons .k<|.cons .k<|.cons .k<|.cons .k<|.nil _) rfl (leb rfl))<|.q 13 rfl<|.o (Qq Qfw (QaM.ok h10) (.cons (.of z0)<|.cons (.of .k)<|.nil))<|.o (QA ud56 tok9 z2 z0 h11)<|.o (Qw tok9 z0)<|.u [1] rfl rfl (Qar ud23 Q6 z6 z5 h12)<|.u [1] rfl rfl (Qas Qgv z0 (Qav h12))<|.e [] [1] [5] rfl rfl rfl rfl (QaT (u:={ t6 with Xi:=t5 }) tok9 z0 z2 h12 h13 (leb rfl) rfl)<|.n) λ_ a w H=>?_;have H:=H.t8_5 [1,10,12,14,15,16,17,18];obtain rfl:=sj h;exact J2 _ _ (H.pick [6,7])
  replace h:=Qhq b2 h;refine wp_skip ?_;obtain rfl:=sj h;exact J2 _ _ ((H.pick [7,8]).Xj [0,2,3,4,1] rfl)
 refine sr mx [] H (λ_=>.o (Qau z1 .k)<|.o (Qc z0)<|.n) λ_ a w H=>?_;have H:=H.t12_5 [1,3,4,5,6,7,8,9,10,11,12,13];have⟨p3,h14,h⟩:=bs h;have J3:∀(y2:Value) a w,St M w0 215 [(4,tv (m0 0)),(8,tv (m0 1))] [box (Qb.cs zz4) (m0 1),own Qo 59 p3.1 (m2 3),own Ql 62 p3.2.1 y2,box ([ti x_.Version,tvs (m1 3),tvs (m2 3),tvs y2]) (m0 0),own Qp 54 p3.2.2 (m1 3)] a w->K0 a w:=by
  intro y2 a w H;obtain rfl:=sj h;exact J1 y2 _ _ (H.pick [0,1])
 replace h:=h14;clear h14;refine wi H h (λb3 h=>?_) (λb3 h=>?_)
 ·refine sr mx [] H (λ_=>.q 3 rfl<|.u [4] rfl rfl (QC QZ z8)<|.u [4] rfl rfl (QX (u:=(m1 3)) Qa7 z0 rfl)<|.u [1] rfl rfl (Qdn ud23 z0)<|.o (Q8 z3 z0)<|.n) λ_ a w H=>?_;have H:=H.t10_5 [2,4,7,8,9,10,11,12,13,16];have⟨p4,h15,h⟩:=bs h;have J4:∀a w,St M w0 215 [(4,tv (m0 0)),(8,tv (m0 1))] [box (Qb.cs zz4) (m0 1),own Qo 59 (([]:List Qr)++x_.Xd) (m2 3),own Ql 62 (([]:List Qm)++x_.Xc) (m3 3),box ([ti x_.Version,tvs (m1 3),tvs (m2 3),tvs (m3 3)]) (m0 0),own Qp 54 p4 (m1 3)] a w->K0 a w:=by
   intro a w H;obtain rfl:=sj h;exact J3 (m3 3) _ _ (H.pick [0,1])
  replace h:=h15;clear h15;refine Qsp 1 H rfl (λb4=>?_) (λb4=>?_)
  ·replace h:=Qhp b4 h;have⟨t8,h16,t9,h17,t10,h18,t11,h19,h⟩:=bs4 h;refine wr mx [v0 (own Qp 54 t11 (m1 3))] H (λ_=>.u [4] rfl rfl (QC QZ z7)<|.u [4] rfl rfl (QX (u:=(m1 3)) Qa7 z0 rfl)<|.q 5 rfl<|.o (QK (R:=rI) (us:=[(0:Int),(5:Int),(-1:Int),(65537:Int)]) ud22 tok3 (.cons .k<|.cons .k<|.cons .k<|.cons .k<|.nil _) rfl (leb rfl))<|.q 13 rfl<|.o (Qq Qfw (QaM.ok h16) (.cons (.of z0)<|.cons (.of .k)<|.nil))<|.o (QA ud22 tok3 z2 z0 h17)<|.o (Qw tok3 z0)<|.u [1] rfl rfl (Qar ud23 Q6 z6 z5 h18)<|.u [1] rfl rfl (Qas Qij z0 (Qav h18))<|.e [] [1] [5] rfl rfl rfl rfl (QaT (u:={ t10 with Lo:=t9 }) tok3 z0 z2 h18 h19 (leb rfl) rfl)<|.n) λ_ a w H=>?_;have H:=H.t8_5 [1,10,12,14,15,16,17,18];obtain rfl:=sj h;exact J4 _ _ (H.pick [6,7])
  replace h:=Qhq b4 h;refine wp_skip ?_;obtain rfl:=sj h;exact J4 _ _ ((H.pick [7,8]).Xj [0,2,3,4,1] rfl)
 refine sr mx [] H (λ_=>.o (Qau z1 .k)<|.o (Qc z0)<|.n) λ_ a w H=>?_;have H:=H.t12_5 [1,3,4,5,6,7,8,9,10,11,12,13];have⟨p5,h20,h⟩:=bs h;have J5:∀(y3:Value) a w,St M w0 215 [(4,tv (m0 0)),(8,tv (m0 1))] [box (Qb.cs zz4) (m0 1),own Qo 59 p5.1 (m2 3),own Ql 62 p5.2.1 y3,box ([ti x_.Version,tvs (m1 3),tvs (m2 3),tvs y3]) (m0 0),own Qp 54 p5.2.2 (m1 3)] a w->K0 a w:=by
  intro y3 a w H;obtain rfl:=sj h;exact J3 y3 _ _ (H.pick [0,1])
 replace h:=h20;clear h20;refine wi H h (λb5 h=>?_) (λb5 h=>?_)
 ·refine sr mx [] H (λ_=>.q 3 rfl<|.u [4] rfl rfl (QC QZ z8)<|.u [4] rfl rfl (QX (u:=(m1 3)) Qa7 z0 rfl)<|.u [1] rfl rfl (Qdn ud23 z0)<|.o (Q8 z3 z0)<|.n) λ_ a w H=>?_;have H:=H.t10_5 [2,4,7,8,9,10,11,12,13,16];have⟨p6,h21,h⟩:=bs h;have J6:∀a w,St M w0 215 [(4,tv (m0 0)),(8,tv (m0 1))] [box (Qb.cs zz4) (m0 1),own Qo 59 (([]:List Qr)++x_.Xd) (m2 3),own Ql 62 (([]:List Qm)++x_.Xc) (m3 3),box ([ti x_.Version,tvs (m1 3),tvs (m2 3),tvs (m3 3)]) (m0 0),own Qp 54 p6 (m1 3)] a w->K0 a w:=by
   intro a w H;obtain rfl:=sj h;exact J5 (m3 3) _ _ (H.pick [0,1])
  replace h:=h21;clear h21;refine Qsp 1 H rfl (λb6=>?_) (λb6=>?_)
  ·replace h:=Qhp b6 h;have⟨t12,h22,t13,h23,t14,h24,t15,h25,h⟩:=bs4 h;refine wr mx [v0 (own Qp 54 t15 (m1 3))] H (λ_=>.u [4] rfl rfl (QC QZ z7)<|.u [4] rfl rfl (QX (u:=(m1 3)) Qa7 z0 rfl)<|.q 5 rfl<|.o (QK (R:=rI) (us:=[(0:Int),(5:Int),(65536:Int),(65537:Int)]) ud22 tok3 (.cons .k<|.cons .k<|.cons .k<|.cons .k<|.nil _) rfl (leb rfl))<|.q 13 rfl<|.o (Qq Qfw (QaM.ok h22) (.cons (.of z0)<|.cons (.of .k)<|.nil))<|.o (QA ud22 tok3 z2 z0 h23)<|.o (Qw tok3 z0)<|.u [1] rfl rfl (Qar ud23 Q6 z6 z5 h24)<|.u [1] rfl rfl (Qas Qik z0 (Qav h24))<|.e [] [1] [5] rfl rfl rfl rfl (QaT (u:={ t14 with Hi:=t13 }) tok3 z0 z2 h24 h25 (leb rfl) rfl)<|.n) λ_ a w H=>?_;have H:=H.t8_5 [1,10,12,14,15,16,17,18];obtain rfl:=sj h;exact J6 _ _ (H.pick [6,7])
  replace h:=Qhq b6 h;refine wp_skip ?_;obtain rfl:=sj h;exact J6 _ _ ((H.pick [7,8]).Xj [0,2,3,4,1] rfl)
 refine sr mx [] H (λ_=>.o (Qau z1 .k)<|.o (Qc z0)<|.n) λ_ a w H=>?_;have H:=H.t12_5 [1,3,4,5,6,7,8,9,10,11,12,13];have⟨p7,h26,h⟩:=bs h;have J7:∀(y4:Value) a w,St M w0 215 [(4,tv (m0 0)),(8,tv (m0 1))] [box (Qb.cs zz4) (m0 1),own Qp 54 p7.1 (m1 3),own Ql 62 p7.2.1 y4,box ([ti x_.Version,tvs (m1 3),tvs (m2 3),tvs y4]) (m0 0),own Qo 59 p7.2.2 (m2 3)] a w->K0 a w:=by
  intro y4 a w H;obtain rfl:=sj h;exact J5 y4 _ _ ((H.pick [0,1]).Xj [0,4,2,3,1] rfl)
 replace h:=h26;clear h26;refine wi H h (λb7 h=>?_) (λb7 h=>?_)
 ·refine sr mx [] H (λ_=>.u [4] rfl rfl (QC Qct z7)<|.u [4] rfl rfl (QX (u:=(m2 3)) QhL z0 rfl)<|.u [2] rfl rfl (Qdn ud24 z0)<|.o (QcK z0 .k)<|.n) λ_ a w H=>?_;have H:=H.t9_5 [1,3,6,8,9,10,11,12,15];have⟨p8,h27,h⟩:=bs h;have J8:∀a w,St M w0 215 [(4,tv (m0 0)),(8,tv (m0 1))] [box (Qb.cs zz4) (m0 1),own Qp 54 (([]:List Qh)++x_.Xa) (m1 3),own Ql 62 (([]:List Qm)++x_.Xc) (m3 3),box ([ti x_.Version,tvs (m1 3),tvs (m2 3),tvs (m3 3)]) (m0 0),own Qo 59 p8 (m2 3)] a w->K0 a w:=by
   intro a w H;obtain rfl:=sj h;exact J7 (m3 3) _ _ (H.pick [0,1])
  replace h:=h27;clear h27;refine Qsp 1 H rfl (λb8=>?_) (λb8=>?_)
  ·replace h:=Qhp b8 h;have⟨t16,h28,u3,h29,t17,h30,t18,h31,h⟩:=bs4 h;have⟨u4,h32,t19,h33,t20,h34,h⟩:=bs3 h;refine wr mx [v1 2 (λv0=>own Qaz 60 ([]:List Qac) v0),v1 8 (λv0=>own Qaz 60 (([]:List Qac)++t16.Xg) v0),v0 (own Qo 59 t20 (m2 3))] H (λ_=>.u [4] rfl rfl (QC Qct z6)<|.u [4] rfl rfl (QX (u:=(m2 3)) QhL z0 rfl)<|.m [] [5] rfl rfl rfl (QaS (R:=Qaz) (us:=([]:List Qac)) ud57 QkG (.nil _) rfl (leb rfl) (leb rfl))<|.u [4] rfl rfl (QC Qct z9)<|.u [4] rfl rfl (QX (u:=(m2 3)) QhL z0 rfl)<|.u [2] rfl rfl (Qar ud24 Qe7 z0 .k h28)<|.u [2] rfl rfl (Qas QiU z0 (Qav h28))<|.u [2] rfl rfl (Qb0 (R2:=(rSl Qaz)) (f:=t16.Xg) QlN z0 h28 rfl)<|.e [] [5] [6] rfl rfl rfl rfl (QS (R:=Qaz) ud57 QkG (leb rfl) z5 z0 h29)<|.q 17 rfl<|.o (Qq Qfw (QaM.ok h30) (.cons (.of z0)<|.cons (.of .k)<|.nil))<|.o (Qdv z0 .k)<|.q 20 rfl<|.o (Qmo z0 .k (by decide))<|.o (Qq Qfw (QaM.ok h31) (.cons (.of z0)<|.cons (.of .k)<|.nil))<|.o (Qdv z0 .k)<|.p (T:=Qaz.ty (Qac.mk (i64.wrap (t17 - 1)) (i64.wrap (t18 - 1)))) rfl (QrT (R:=rI) (us:=[(i64.wrap (t17 - 1)),(i64.wrap (t18 - 1))]) underlying60 tok3 zv60 rfl (.cons z4<|.cons z0<|.nil _))<|.o (QK (R:=Qaz) (us:=[(Qac.mk (i64.wrap (t17 - 1)) (i64.wrap (t18 - 1)))]) ud57 QkG (.cons z0<|.nil _) rfl (leb rfl))<|.e [] [6] [] rfl rfl rfl rfl (.roE (QS (R:=Qaz) ud57 QkG (leb rfl) z9 z0 h32))<|.u [2] rfl rfl (Qar ud24 Qe7 z17 .k h33)<|.u [2] rfl rfl (Qas QiU z0 (Qav h33))<|.e [] [2] [7] rfl rfl rfl rfl (QaT (u:={ t19 with Xg:=((([]:List Qac)++t16.Xg)++[(Qac.mk (i64.wrap (t17 - 1)) (i64.wrap (t18 - 1)))]) }) QlN z0 z2 h33 h34 (leb rfl) rfl)<|.n) λ_ a w H=>?_;have H:=H.t9_5 [1,4,21,23,24,25,26,27,28];obtain rfl:=sj h;exact J8 _ _ (H.pick [7,8])
  replace h:=Qhq b8 h;refine wp_skip ?_;obtain rfl:=sj h;exact J8 _ _ ((H.pick [6,7]).Xj [0,1,3,4,2] rfl)
 refine sr mx [] H (λ_=>.o (Qau z1 .k)<|.o (Qc z0)<|.n) λ_ a w H=>?_;have H:=H.t12_5 [1,3,4,5,6,7,8,9,10,11,12,13];have⟨p9,h35,h⟩:=bs h;have J9:∀(y5:Value) a w,St M w0 215 [(4,tv (m0 0)),(8,tv (m0 1))] [box (Qb.cs zz4) (m0 1),own Qp 54 p9.1 (m1 3),own Qo 59 p9.2.1 (m2 3),own Ql 62 p9.2.2 y5,box ([ti x_.Version,tvs (m1 3),tvs (m2 3),tvs y5]) (m0 0)] a w->K0 a w:=by
  intro y5 a w H;obtain rfl:=sj h;exact J7 y5 _ _ ((H.pick [0,1]).Xj [0,1,3,4,2] rfl)
 replace h:=h35;clear h35;refine wi H h (λb9 h=>?_) (λb9 h=>?_)
 ·have⟨t21,h36,t22,h37,t23,h38,t24,h39,h⟩:=bs4 h;have⟨t25,h40,t26,h41,t27,h42,u5,h43,h⟩:=bs4 h;refine wr mx [v1 24 (λv0=>own Ql 62 ((([]:List Qm)++x_.Xc)++[(Qm.mk ([102,117,114,116,104,101,114]:Str) t22 t24 t26 (i64.wrap (t27 - 20)))]) v0),v1 24 (λv0=>box ([ti x_.Version,tvs (m1 3),tvs (m2 3),tvs v0]) (m0 0))] H (λ_=>.u [4] rfl rfl (QC QaO z7)<|.u [4] rfl rfl (QX (u:=(m3 3)) QhM z0 rfl)<|.o (QK (R:=rS) (us:=[([112,101,114,115,111,110]:Str),([111,114,100,101,114]:Str),([110,111,110,101]:Str),([]:Str)]) ud56 tok9 (.cons .k<|.cons .k<|.cons .k<|.cons .k<|.nil _) rfl (leb rfl))<|.q 14 rfl<|.o (Qq Qfw (QaM.ok h36) (.cons (.of z0)<|.cons (.of .k)<|.nil))<|.o (QA ud56 tok9 z2 z0 h37)<|.o (Qw tok9 z0)<|.o (QK (R:=rS) (us:=[([115,105,122,101]:Str),([108,111,119]:Str),([]:Str),([105,100]:Str),([98,111,114,110]:Str)]) ud56 tok9 (.cons .k<|.cons .k<|.cons .k<|.cons .k<|.cons .k<|.nil _) rfl (leb rfl))<|.q 19 rfl<|.o (Qmo z0 .k (by decide))<|.o (Qq Qfw (QaM.ok h38) (.cons (.of z0)<|.cons (.of .k)<|.nil))<|.o (QA ud56 tok9 z3 z0 h39)<|.o (Qw tok9 z0)<|.o (QK (R:=rS) (us:=[([104,105,103,104]:Str),([]:Str),([115,105,122,101]:Str),([108,101,102,116]:Str),([116,97,103]:Str)]) ud56 tok9 (.cons .k<|.cons .k<|.cons .k<|.cons .k<|.cons .k<|.nil _) rfl (leb rfl))<|.q 25 rfl<|.o (Qmo z0 .k (by decide))<|.o (Qq Qfw (QaM.ok h40) (.cons (.of z0)<|.cons (.of .k)<|.nil))<|.o (QA ud56 tok9 z3 z0 h41)<|.o (Qw tok9 z0)<|.q 30 rfl<|.o (Qq Qfw (QaM.ok h42) (.cons (.of z0)<|.cons (.of .k)<|.nil))<|.o (Qdv z0 .k)<|.p (T:=Ql.ty (Qm.mk ([102,117,114,116,104,101,114]:Str) t22 t24 t26 (i64.wrap (t27 - 20)))) rfl (QaD underlying62 pl62 zv62 zc62 (.cons (R:=rS) (u:=([102,117,114,116,104,101,114]:Str)) rfl .k (leb rfl)<|.cons (R:=rS) (u:=t22) rfl z15 (leb rfl)<|.cons (R:=rS) (u:=t24) rfl z9 (leb rfl)<|.cons (R:=rS) (u:=t26) rfl z3 (leb rfl)<|.cons (R:=rI) (u:=(i64.wrap (t27 - 20))) rfl z0 (leb rfl)<|.nil _))<|.o (QK (R:=Ql) (us:=[(Qm.mk ([102,117,114,116,104,101,114]:Str) t22 t24 t26 (i64.wrap (t27 - 20)))]) ud25 Qbp (.cons z0<|.nil _) rfl (leb rfl))<|.e [] [3] [5] rfl rfl rfl rfl (QS (R:=Ql) ud25 Qbp (leb rfl) z22 z0 h43)<|.u [4] rfl rfl (QC QaO (.t 32 rfl))<|.e [5] [4] [6] rfl rfl rfl rfl (Qco (R:=Ql) (e:=62) (Ts:=([ti x_.Version,tvs (m1 3),tvs (m2 3),tvs (m3 3)])) (off:=3) QhM z0 z1 (leb rfl))<|.n) λm4 a w H=>?_;have H:=H.t6_5 [24,28,31,32,33,34];obtain rfl:=sj h;exact J9 (m4 24) _ _ (H.pick [4,5])
 refine sr mx [] H (λ_=>.o (Qau z1 .k)<|.o (Qc z0)<|.n) λ_ a w H=>?_;have H:=H.to [1,4,5,6,7,8,9,10,11,12,13] [_,_,_,_,_,_,_,_,_,_,_] [_,_,_,_,_] rfl rfl;have⟨p10,h44,h⟩:=bs h;have J10:∀a w,St M w0 215 [(4,tv (m0 0)),(8,tv (m0 1))] [box (Qb.cs zz4) (m0 1),own Qp 54 p10.1 (m1 3),own Ql 62 (([]:List Qm)++x_.Xc) (m3 3),box ([ti x_.Version,tvs (m1 3),tvs (m2 3),tvs (m3 3)]) (m0 0),own Qo 59 p10.2 (m2 3)] a w->K0 a w:=by
  intro a w H;obtain rfl:=sj h;exact J9 (m3 3) _ _ ((H.pick [0,1]).Xj [0,1,4,2,3] rfl)
 replace h:=h44;clear h44;refine wi H h (λb10 h=>?_) (λb10 h=>?_)
 ·refine sr mx [] H (λ_=>.u [4] rfl rfl (QC Qct z6)<|.u [4] rfl rfl (QX (u:=(m2 3)) QhL z0 rfl)<|.u [2] rfl rfl (Qdn ud24 z0)<|.o (QcK z0 .k)<|.n) λ_ a w H=>?_;have H:=H.t9_5 [1,3,5,7,8,9,10,11,14];have⟨p11,h45,h⟩:=bs h;have J11:∀a w,St M w0 215 [(4,tv (m0 0)),(8,tv (m0 1))] [box (Qb.cs zz4) (m0 1),own Qp 54 (([]:List Qh)++x_.Xa) (m1 3),own Ql 62 (([]:List Qm)++x_.Xc) (m3 3),box ([ti x_.Version,tvs (m1 3),tvs (m2 3),tvs (m3 3)]) (m0 0),own Qo 59 p11 (m2 3)] a w->K0 a w:=by
   intro a w H;obtain rfl:=sj h;exact J10 _ _ (H.pick [0,1])
  replace h:=h45;clear h45;refine Qsp 1 H rfl (λb11=>?_) (λb11=>?_)
  ·replace h:=Qhp b11 h;have⟨t28,h46,u6,h47,t29,h48,t30,h49,h⟩:=bs4 h;have⟨u7,h50,t31,h51,t32,h52,h⟩:=bs3 h;refine wr mx [v1 2 (λv0=>own rS 9 ([]:List Str) v0),v1 8 (λv0=>own rS 9 (([]:List Str)++t28.Xe) v0),v0 (own Qo 59 t32 (m2 3))] H (λ_=>.u [4] rfl rfl (QC Qct z6)<|.u [4] rfl rfl (QX (u:=(m2 3)) QhL z0 rfl)<|.m [] [5] rfl rfl rfl (QaS (R:=rS) (us:=([]:List Str)) ud56 tok9 (.nil _) rfl (leb rfl) (leb rfl))<|.u [4] rfl rfl (QC Qct z9)<|.u [4] rfl rfl (QX (u:=(m2 3)) QhL z0 rfl)<|.u [2] rfl rfl (Qar ud24 Qe7 z0 .k h46)<|.u [2] rfl rfl (Qas Qlm z0 (Qav h46))<|.u [2] rfl rfl (Qb0 (R2:=(rSl rS)) (f:=t28.Xe) Qhs z0 h46 rfl)<|.e [] [5] [6] rfl rfl rfl rfl (QS (R:=rS) ud56 tok9 (leb rfl) z5 z0 h47)<|.o (QK (R:=rS) (us:=[([109,111,114,101]:Str),([110,101,119]:Str),([63]:Str)]) ud56 tok9 (.cons .k<|.cons .k<|.cons .k<|.nil _) rfl (leb rfl))<|.q 18 rfl<|.o (Qq Qfw (QaM.ok h48) (.cons (.of z0)<|.cons (.of .k)<|.nil))<|.o (QA ud56 tok9 z2 z0 h49)<|.o (Qw tok9 z0)<|.o (QK (R:=rS) (us:=[t30]) ud56 tok9 (.cons z0<|.nil _) rfl (leb rfl))<|.e [] [6] [] rfl rfl rfl rfl (.roE (QS (R:=rS) ud56 tok9 (leb rfl) z6 z0 h50))<|.u [2] rfl rfl (Qar ud24 Qe7 z14 .k h51)<|.u [2] rfl rfl (Qas Qlm z0 (Qav h51))<|.e [] [2] [7] rfl rfl rfl rfl (QaT (u:={ t31 with Xe:=((([]:List Str)++t28.Xe)++[t30]) }) Qhs z0 z2 h51 h52 (leb rfl) rfl)<|.n) λ_ a w H=>?_;have H:=H.t9_5 [1,4,18,20,21,22,23,24,25];obtain rfl:=sj h;exact J11 _ _ (H.pick [7,8])
  replace h:=Qhq b11 h;refine wp_skip ?_;obtain rfl:=sj h;exact J11 _ _ ((H.pick [6,7]).Xj [0,1,3,4,2] rfl)
 refine sr mx [] H (λ_=>.q 2 rfl<|.u [4] rfl rfl (QC QZ z7)<|.u [4] rfl rfl (QX (u:=(m1 3)) Qa7 z0 rfl)<|.u [1] rfl rfl (Qdn ud23 z0)<|.o (Q8 z3 z0)<|.n) λ_ a w H=>?_;have H:=H.t12_5 [2,4,6,7,8,9,10,11,12,13,14,15];have⟨p12,h53,h⟩:=bs h;have J12:∀a w,St M w0 215 [(4,tv (m0 0)),(8,tv (m0 1))] [box (Qb.cs zz4) (m0 1),own Qo 59 (([]:List Qr)++x_.Xd) (m2 3),own Ql 62 (([]:List Qm)++x_.Xc) (m3 3),box ([ti x_.Version,tvs (m1 3),tvs (m2 3),tvs (m3 3)]) (m0 0),own Qp 54 p12 (m1 3)] a w->K0 a w:=by
  intro a w H;obtain rfl:=sj h;exact J10 _ _ ((H.pick [0,1]).Xj [0,4,2,3,1] rfl)
 replace h:=h53;clear h53;refine Qsp 1 H rfl (λb12=>?_) (λb12=>?_)
 ·replace h:=Qhp b12 h;refine wp_seq_k (λ_ k5=>?_);have⟨t33,h54,_,h55,h⟩:=bs2 h;refine wr mx [v1 0 (λv0=>own Qe 70 ([]:List Qd) v0),v1 7 (λv0=>own Qe 70 (([]:List Qd)++t33.Xb) v0)] H (λ_=>.m [] [5] rfl rfl rfl (QaS (R:=Qe) (us:=([]:List Qd)) ud52 Q4 (.nil _) rfl (leb rfl) (leb rfl))<|.u [4] rfl rfl (QC QZ z8)<|.u [4] rfl rfl (QX (u:=(m1 3)) Qa7 z0 rfl)<|.q 6 rfl<|.u [1] rfl rfl (Qar ud23 Q6 z1 z0 h54)<|.u [1] rfl rfl (Qas Qaf z0 (Qav h54))<|.u [1] rfl rfl (Qb0 (R2:=(rSl Qe)) (f:=t33.Xb) QbG z0 h54 rfl)<|.e [] [5] [6] rfl rfl rfl rfl (QS (R:=Qe) ud52 Q4 (leb rfl) z6 z0 h55)<|.ud (f:=λv=>tv v) 7 rfl [] rfl rfl (Qc z0)<|.n) λm5 a w H=>?_;have H:=H.to [2,7,8,9,11,12,13,14,15,16,17,18,19,20] [_,_,_,_,_,_,_,_,_,_,_,_,_,_] [_,_,_,_,_,_] rfl rfl;refine k5 _ _ ?_;have⟨t34,h56,h⟩:=bs h;refine sr mx [] H (λ_=>.q 11 rfl<|.o (Qmo z0 .k (by decide))<|.q 4 rfl<|.u [5] rfl rfl (Qdn ud52 z0)<|.o (Qq Qfw (QaM.ok h56) (.cons (.of z2)<|.cons (.of z0)<|.nil))<|.o (Qc z0)<|.n) λ_ a w H=>?_;have H:=H.to [2,5,6,7,8,9,10,11,12,13,14,15,16,18,19] [_,_,_,_,_,_,_,_,_,_,_,_,_,_,_] [_,_,_,_,_,_] rfl rfl;refine wp_seq_k (λK1 k6=>?_);refine sr mx [] H (λ_=>.q 1 rfl<|.q 5 rfl<|.u [5] rfl rfl (Qdn ud52 z0)<|.o (Q8 z2 z0)<|.n) λ_ a w H=>?_;have H:=H.to [1,3,4,5,6,7,8,9,10,11,12,13,14,15,16,17,18] [_,_,_,_,_,_,_,_,_,_,_,_,_,_,_,_,_] [_,_,_,_,_,_] rfl rfl;have⟨p13,h57,h⟩:=bs h;have J13:∀a w,St M w0 215 [(10,tv (m5 7)),(9,ti t0),(4,tv (m0 0)),(8,tv (m0 1))] [box (Qb.cs zz4) (m0 1),own Qp 54 (([]:List Qh)++x_.Xa) (m1 3),own Qo 59 (([]:List Qr)++x_.Xd) (m2 3),own Ql 62 (([]:List Qm)++x_.Xc) (m3 3),box ([ti x_.Version,tvs (m1 3),tvs (m2 3),tvs (m3 3)]) (m0 0),own Qe 70 p13 (m5 7)] a w->K1 a w:=by
   intro a w H;refine k6 _ _ ?_;replace H:St _ _ _ [_,_,_,_] [_,_,_,_,_] _ _:=((H.Xj [5,0,1,2,3,4] rfl).Xm 0 rfl).pick [0,2,3,4];have⟨t35,h58,t36,h59,h⟩:=bs2 h;refine wr mx [v0 (own Qp 54 t36 (m1 3))] H (λ_=>.u [4] rfl rfl (QC QZ z2)<|.u [4] rfl rfl (QX (u:=(m1 3)) Qa7 z0 rfl)<|.q 3 rfl<|.q 3 rfl<|.u [1] rfl rfl (Qar ud23 Q6 z2 z1 h58)<|.u [1] rfl rfl (Qas Qaf z0 (Qav h58))<|.e [] [1] [5] rfl rfl rfl rfl (QaT (u:={ t35 with Xb:=p13 }) QbG z0 z2 h58 h59 (leb rfl) rfl)<|.n) λ_ a w H=>?_;have H:=H.to [1,8,9] [_,_,_] [_,_,_,_,_] rfl rfl;obtain rfl:=sj h;exact J12 _ _ (H.pick [1,2])
  replace h:=h57;clear h57;refine Qsp 1 H rfl (λb13=>?_) (λb13=>?_)
  ·replace h:=Qhp b13 h;have⟨t37,h60,t38,h61,t39,h62,h⟩:=bs3 h;refine wr mx [v0 (own Qe 70 t39 (m5 7))] H (λ_=>.q 6 rfl<|.q 4 rfl<|.q 8 rfl<|.q 6 rfl<|.u [5] rfl rfl (Qar ud52 Q4 z1 z0 h60)<|.u [5] rfl rfl (QiQ Q4 z0 h60)<|.q 21 rfl<|.o (Qmo z0 .k (by decide))<|.q 24 rfl<|.o (Qq QBR (Qtk.ok h61) (.cons (.of z3)<|.cons (.of z1)<|.cons (.of z0)<|.nil))<|.u [5] rfl rfl (Qoa ud52 Q4 z9 z8 h62)<|.e [] [5] [6] rfl rfl rfl rfl (Qmr Q4 z0 z1 h62)<|.n) λ_ a w H=>?_;have H:=H.to [0,2,11,13,15,16,17,18,19,20,21,22,23,24,25] [_,_,_,_,_,_,_,_,_,_,_,_,_,_,_] [_,_,_,_,_,_] rfl rfl;obtain rfl:=sj h;exact J13 _ _ (H.pick [6,9,13,14])
  replace h:=Qhq b13 h;refine wp_skip ?_;obtain rfl:=sj h;exact J13 _ _ (H.pick [6,9,13,14])
 replace h:=Qhq b12 h;refine wp_skip ?_;obtain rfl:=sj h;exact J12 _ _ ((H.pick [7,8]).Xj [0,2,3,4,1] rfl)
def QfJ (l_:(List Qt)):Option ((List Qn)):=(Qz (λ(s0:Int×List Qn)=>((if (decide (s0.1<(l_.length:Int)))=true then (idx l_ s0.1).bind λt0=>(idx l_ s0.1).bind λt1=>(idx l_ s0.1).bind λt2=>(idx l_ s0.1).bind λt3=>(idx l_ s0.1).bind λt4=>(idx l_ s0.1).bind λt5=>(rm (s0.2.length+[(Qn.mk t0.Op t1.Xh t2.Field t3.Xi t4.N t5.M)].length)).bind λ_=>(some (.inl ((i64.wrap (s0.1+1)),(s0.2++[(Qn.mk t0.Op t1.Xh t2.Field t3.Xi t4.N t5.M)])))) else (some (.inr s0.2))):Option ((Int×List Qn)⊕((List Qn))))) ((0:Int),([]:List Qn))).bind λp0=>(some p0)
instance Qls:Spc1 prog 10 QfJ (λl_=>[tsl Qx l_]) (tsl Qv):=.mk λ{l_ r} h=>by
 unfold QfJ at h
 refine Fe func10 ntmps10 λM0 M w0 hpl=>?_
 refine QyV [1] ?_
 refine QyV [0,1] ?_
 refine Qy9 (λ_ _ H=>H.nil (Qv) 75) ?_
 refine QyY λK0 k0=>?_
 refine QyV [0,1,2] ?_
 have⟨e0,h0,h⟩:=bs h
 have J0:∀(p0:List Qn) (y0:Value),p0=e0->To M w0 46 [(3,tv y0)] [own Qv 75 p0 y0] K0:=by
  intro p0 y0 he;subst he;refine k0 <|QyV [0,1,2] ?_;refine Qzd ?_;refine Qzc (by intro _ _ H;exact (H.Xm 1 rfl).pick [0]) ?_;obtain rfl:=sj h;exact QyX hpl
 refine Qy1 <|Qzf h0 (λ(s0:Int×List Qn) (y1:Value)=>[(4,ti s0.1),(3,tv y1),(0,tsl Qx l_)]) (λ(s0:Int×List Qn) (y1:Value)=>[own Qv 75 s0.2 y1]) (.slice none 0 0) [0,1,2] ?_;clear h;intro s0 y1 o K1 h ho k1;refine QyY λ_ k2=>QyV [3,4,5,6] ?_;refine Qy0 h (λ_ h=>?_) (λ_ h=>?_)
 ·refine Qy2 <|k2 <|QyY λ_ k3=>Qy1 ?_;have⟨t0,h1,h⟩:=bs h;replace h:=bk h1 h;replace h:=bk h1 h;replace h:=bk h1 h;replace h:=bk h1 h;replace h:=bk h1 h;have⟨_,h2,h⟩:=bs h;intro a w H;refine wr mx [v1 33 (λv0=>own Qv 75 (s0.2++[(Qn.mk t0.Op t0.Xh t0.Field t0.Xi t0.N t0.M)]) v0)] H (λ_=>.q 2 rfl<|.q 4 rfl<|.q 3 rfl<|.o (QA ud29 Qa6 z1 z0 h1)<|.o (Qg QdV z0)<|.o (Qf (u:=t0.Op) tok3 z0 rfl)<|.q 9 rfl<|.q 8 rfl<|.o (QA ud29 Qa6 z1 z0 h1)<|.o (Qg Qni z0)<|.o (Qf (u:=t0.Xh) tok9 z0 rfl)<|.q 14 rfl<|.q 13 rfl<|.o (QA ud29 Qa6 z1 z0 h1)<|.o (Qg Qin z0)<|.o (Qf (u:=t0.Field) tok9 z0 rfl)<|.q 19 rfl<|.q 18 rfl<|.o (QA ud29 Qa6 z1 z0 h1)<|.o (Qg QeX z0)<|.o (Qf (u:=t0.Xi) tok9 z0 rfl)<|.q 24 rfl<|.q 23 rfl<|.o (QA ud29 Qa6 z1 z0 h1)<|.o (Qg Qdp z0)<|.o (Qf (u:=t0.N) tok3 z0 rfl)<|.q 29 rfl<|.q 28 rfl<|.o (QA ud29 Qa6 z1 z0 h1)<|.o (Qg Qep z0)<|.o (Qf (u:=t0.M) tok3 z0 rfl)<|.p (T:=Qv.ty (Qn.mk t0.Op t0.Xh t0.Field t0.Xi t0.N t0.M)) rfl (QaD underlying75 pl75 zv75 zc75 (.cons (R:=rI) (u:=t0.Op) rfl z25 (leb rfl)<|.cons (R:=rS) (u:=t0.Xh) rfl z20 (leb rfl)<|.cons (R:=rS) (u:=t0.Field) rfl z15 (leb rfl)<|.cons (R:=rS) (u:=t0.Xi) rfl z10 (leb rfl)<|.cons (R:=rI) (u:=t0.N) rfl z5 (leb rfl)<|.cons (R:=rI) (u:=t0.M) rfl z0 (leb rfl)<|.nil _))<|.o (QK (R:=Qv) (us:=[(Qn.mk t0.Op t0.Xh t0.Field t0.Xi t0.N t0.M)]) ud39 Qde (.cons z0<|.nil _) rfl (leb rfl))<|.e [] [0] [1] rfl rfl rfl rfl (QS (R:=Qv) ud39 Qde (leb rfl) (.t 32 rfl) z0 h2)<|.ud (f:=λv=>tv v) 33 rfl [] rfl rfl (Qc z0)<|.n) λm0 a w H=>?_;have H:=H.t4_1 [33,34,36,37];refine Qzh H ?_;refine k3 <|Qy6 [2,3,4,5] ?_;exact Qy8 k1 (m0 33) ((sj h).symm) [0,2,3]
 refine Qy7 <|Qy8 J0 y1 (ho _ (sj h).symm) [2]
def Qbw (n_:Int) (least_:Int) (most_:Int):Option (Bool):=(some ((decide (n_>=least_))&&(decide (n_<=most_))))
instance Qwj:Spc3 prog 106 Qbw (λn_ least_ most_=>[ti n_,ti least_,ti most_]) tb:=.mk λ{n_ least_ most_ r} h=>by
 unfold Qbw at h
 refine Fe func106 ntmps106 λM0 M w0 hpl=>?_
 refine QyV [1,2,3] ?_
 refine QyV [8] ?_
 exact QyZ h (·▸QyX hpl)
def Qg7 (x_:Qh) (c0_:(Qh->Option Bool)):Option (Bool):=(c0_ x_).bind λt0=>(some (!t0))
instance Qtl:Spc2 prog 142 Qg7 (λx_ c0_=>[Qp.ty x_,tptr (Qop.cs c0_)]) tb:=.mk λ{x_ c0_ r} h=>by
 unfold Qg7 at h
 refine Fe func142 ntmps142 λM0 M w0 hpl=>?_
 refine QyV [0,3] ?_
 have⟨_,_,h⟩:=bs h
 refine QyV [4] ?_
 exact QyZ h (·▸QyX hpl)
def Qbg (s_:(List Qh)) (f_:(Qh->Option Bool)):Option (Int):=(Qz (λ(s0:Int)=>((if (decide (s0<(s_.length:Int)))=true then (idx s_ s0).bind λt0=>(f_ t0).bind λt1=>(if t1=true then (some (.inr (.inr s0))) else (some (.inl (i64.wrap (s0+1))))) else (some (.inr (.inl ())))):Option ((Int)⊕((Unit)⊕(Int))))) (0:Int)).bind λe0=>(match e0 with | .inl _=>(some (-1:Int)) | .inr p0=>(some p0))
instance Qrn:Spc2 prog 120 Qbg (λs_ f_=>[tsl Qp s_,Qop.ty f_]) ti:=.mk λ{s_ f_ r} h=>by
 unfold Qbg at h
 refine Fe func120 ntmps120 λM0 M w0 hpl=>?_
 refine QyV [1,2] ?_
 refine QyY λK0 k0=>?_
 refine QyV [1,2,3,4] ?_
 have⟨e0,h0,h⟩:=bs h
 have J0:∀(p0:Unit),(.inl p0)=e0->To M w0 19 [] [] K0:=by
  intro p0 he;subst he;simp only at h;refine k0 <|QyV [0] ?_;exact QyZ h (·▸QyX hpl)
 have J1:∀(p1:Int),(.inr p1)=e0->To M w0 19 [(4,ti p1)] [] (Ret prog f120 M0 [] w0 (λ_=>[]) (λ_=>ti r) .ret):=by
  intro p1 he;subst he;simp only at h;obtain rfl:=sj h;exact QyX hpl
 refine Qy1 <|Qzb h0 (λ(s0:Int)=>[(7,ti (s_.length:Int)),(8,ti s0),(0,tsl Qp s_),(1,Qop.ty f_)]) (λ(s0:Int)=>[]) [0,1,2,3] ?_;clear h;intro s0 o K1 h ho k1;refine QyV [0,1,2,3,4] ?_;refine QyY λ_ k2=>Qy0 h (λ_ h=>?_) (λ_ h=>?_)
 ·refine Qy2 <|k2 <|QyY λ_ k3=>Qy1 <|QyV [1,3,4,5,6] ?_;have⟨_,_,_,_,h⟩:=bs2 h;refine QyV [5,6,7,8,9,10] ?_;refine Qy0 h (λ_ h=>?_) (λ_ h=>?_)
  ·refine QyV [1] ?_;refine Qzd ?_;exact Qy4 J1 (ho _ (sj h).symm) [0]
  refine Qy2 <|k3 <|Qy6 [1,4,5,6] ?_;exact Qy4 k1 ((sj h).symm) [1,0,2,3]
 refine Qy7 <|Qy4 J0 (ho _ (sj h).symm) []
def Qb5 (s_:(List Qh)) (f_:(Qh->Option Bool)):Option (Bool):=(Qbg s_ f_).bind λt0=>(some (decide (t0>=0)))
instance QpP:Spc2 prog 141 Qb5 (λs_ f_=>[tsl Qp s_,Qop.ty f_]) tb:=.mk λ{s_ f_ r} h=>by
 unfold Qb5 at h
 refine Fe func141 ntmps141 λM0 M w0 hpl=>?_
 refine QyV [1,2] ?_
 have⟨_,_,h⟩:=bs h
 refine QyV [4] ?_
 exact QyZ h (·▸QyX hpl)
def QeB (l_:(List Qh)) (right_:(Qh->Option Bool)):Option (Bool):=(Qb5 l_ (λx0=>Qg7 x0 right_)).bind λt0=>(some (!t0))
instance QuJ:Spc2 prog 107 QeB (λl_ right_=>[tsl Qp l_,Qop.ty right_]) tb:=.mk λ{l_ right_ r} h=>by
 unfold QeB at h
 refine Fe func107 ntmps107 λM0 M w0 hpl=>?_
 refine QyV [0,2] ?_
 have⟨_,_,h⟩:=bs h
 refine QyV [4] ?_
 exact QyZ h (·▸QyX hpl)
def QeC (c_:Int):Option (Bool):=(some ((decide (c_>=97))&&(decide (c_<=122))))
instance QuK:Spc1 prog 166 QeC (λc_=>[tv (.int .u8 c_)]) tb:=.mk λ{c_ r} h=>by
 unfold QeC at h
 refine Fe func166 ntmps166 λM0 M w0 hpl=>?_
 refine QyV [1] ?_
 refine QyV [6] ?_
 exact QyZ h (·▸QyX hpl)
def QcL (s_:(List Int)) (f_:(Int->Option Bool)):Option (Int):=(Qz (λ(s0:Int)=>((if (decide (s0<(s_.length:Int)))=true then (idx s_ s0).bind λt0=>(f_ t0).bind λt1=>(if t1=true then (some (.inr (.inr s0))) else (some (.inl (i64.wrap (s0+1))))) else (some (.inr (.inl ())))):Option ((Int)⊕((Unit)⊕(Int))))) (0:Int)).bind λe0=>(match e0 with | .inl _=>(some (-1:Int)) | .inr p0=>(some p0))
instance Qro:Spc2 prog 185 QcL (λs_ f_=>[tsl (rInt .u8) s_,Qtg.ty f_]) ti:=.mk λ{s_ f_ r} h=>by
 unfold QcL at h
 refine Fe func185 ntmps185 λM0 M w0 hpl=>?_
 refine QyV [1,2] ?_
 refine QyY λK0 k0=>?_
 refine QyV [1,2,3,4] ?_
 have⟨e0,h0,h⟩:=bs h
 have J0:∀(p0:Unit),(.inl p0)=e0->To M w0 19 [] [] K0:=by
  intro p0 he;subst he;simp only at h;refine k0 <|QyV [0] ?_;exact QyZ h (·▸QyX hpl)
 have J1:∀(p1:Int),(.inr p1)=e0->To M w0 19 [(4,ti p1)] [] (Ret prog f185 M0 [] w0 (λ_=>[]) (λ_=>ti r) .ret):=by
  intro p1 he;subst he;simp only at h;obtain rfl:=sj h;exact QyX hpl
 refine Qy1 <|Qzb h0 (λ(s0:Int)=>[(7,ti (s_.length:Int)),(8,ti s0),(0,tsl (rInt .u8) s_),(1,Qtg.ty f_)]) (λ(s0:Int)=>[]) [0,1,2,3] ?_;clear h;intro s0 o K1 h ho k1;refine QyV [0,1,2,3,4] ?_;refine QyY λ_ k2=>Qy0 h (λ_ h=>?_) (λ_ h=>?_)
 ·refine Qy2 <|k2 <|QyY λ_ k3=>Qy1 <|QyV [1,3,4,5,6] ?_;have⟨_,_,_,_,h⟩:=bs2 h;refine QyV [5,6,7,8,9,10] ?_;refine Qy0 h (λ_ h=>?_) (λ_ h=>?_)
  ·refine QyV [1] ?_;refine Qzd ?_;exact Qy4 J1 (ho _ (sj h).symm) [0]
  refine Qy2 <|k3 <|Qy6 [1,4,5,6] ?_;exact Qy4 k1 ((sj h).symm) [1,0,2,3]
 refine Qy7 <|Qy4 J0 (ho _ (sj h).symm) []
def Qb6 (s_:(List Int)) (f_:(Int->Option Bool)):Option (Bool):=(QcL s_ f_).bind λt0=>(some (decide (t0>=0)))
instance Qjo:Spc2 prog 167 Qb6 (λs_ f_=>[tsl (rInt .u8) s_,Qtg.ty f_]) tb:=.mk λ{s_ f_ r} h=>by
 unfold Qb6 at h
 refine Fe func167 ntmps167 λM0 M w0 hpl=>?_
 refine QyV [1,2] ?_
 have⟨_,_,h⟩:=bs h
 refine QyV [4] ?_
 exact QyZ h (·▸QyX hpl)
def QiB (c_:Int):Option (Bool):=(some ((decide (c_>=48))&&(decide (c_<=57))))
instance Qvz:Spc1 prog 169 QiB (λc_=>[tv (.int .u8 c_)]) tb:=.mk λ{c_ r} h=>by
 unfold QiB at h
 refine Fe func169 ntmps169 λM0 M w0 hpl=>?_
 refine QyV [1] ?_
 refine QyV [6] ?_
 exact QyZ h (·▸QyX hpl)
def Qid (c_:Int):Option (Bool):=(QeC c_).bind λt0=>(opt ((!t0)==true) (QiB c_) default).bind λt1=>(some ((!t0)&&(!t1)))
instance QmH:Spc1 prog 168 Qid (λc_=>[tv (.int .u8 c_)]) tb:=.mk λ{c_ r} h=>by
 unfold Qid at h
 refine Fe func168 ntmps168 λM0 M w0 hpl=>?_
 refine QyV [1] ?_
 have⟨_,_,_,_,h⟩:=bs2 h
 refine QyV [8] ?_
 exact QyZ h (·▸QyX hpl)
def Qax (s_:Str):Option (Bool):=(Qbw (s_.length:Int) 1 12).bind λt0=>(opt ((!t0)==false) (idx s_ 0) default).bind λt1=>(opt ((!t0)==false) (QeC (t1.toNat:Int)) default).bind λt2=>(if ((!t0)||(!t2))=true then (some false) else (Qb6 (Q3 s_) (λx0=>Qid x0)).bind λt3=>(some (!t3)))
instance Qwk:Spc1 prog 143 Qax (λs_=>[tv (.string (sB s_))]) tb:=.mk λ{s_ r} h=>by
 unfold Qax at h
 refine Fe func143 ntmps143 λM0 M w0 hpl=>?_
 refine QyV [1] ?_
 have⟨_,_,_,_,_,_,h⟩:=bs3 h
 refine tIfs h [9,10] (λ_ h=>?_) (λ_ h=>?_)
 ·refine QyV [0] ?_
  exact QyZ h (·▸QyX hpl)
 have⟨t0,h0,h⟩:=bs h
 intro a w H
 refine sr mx [] H (λ_=>.q 1 rfl<|.o (Qt6 ud9 ud81 ud5 z0)<|.o (Qq QxB (Qjo.ok h0) (.cons (.of z0)<|.cons (.of (Fct.Xn .fnE (Qlf QxC (λ_ _ hq=>QmH.ok hq))))<|.nil))<|.o (Qex z0)<|.o (Qc z0)<|.n) λ_ a w H=>?_
 have H:=H.t1_0 [4]
 refine Qze H ?_
 exact QyZ h (·▸QyX hpl)
def QdP (lo_:Int) (hi_:Int) (least_:Int) (most_:Int):Option (Bool):=(some (((decide (lo_>=least_))&&(decide (lo_<=hi_)))&&(decide (hi_<=most_))))
instance Qyd:Spc4 prog 144 QdP (λlo_ hi_ least_ most_=>[ti lo_,ti hi_,ti least_,ti most_]) tb:=.mk λ{lo_ hi_ least_ most_ r} h=>by
 unfold QdP at h
 refine Fe func144 ntmps144 λM0 M w0 hpl=>?_
 refine QyV [1,2,3,4] ?_
 refine QyV [13] ?_
 exact QyZ h (·▸QyX hpl)
def QgG (x_:Qd) (c0_:(Qd->Option Bool)):Option (Bool):=(c0_ x_).bind λt0=>(some (!t0))
instance QsB:Spc2 prog 171 QgG (λx_ c0_=>[Qe.ty x_,tptr (Qot.cs c0_)]) tb:=.mk λ{x_ c0_ r} h=>by
 unfold QgG at h
 refine Fe func171 ntmps171 λM0 M w0 hpl=>?_
 refine QyV [0,3] ?_
 have⟨_,_,h⟩:=bs h
 refine QyV [4] ?_
 exact QyZ h (·▸QyX hpl)
def Qa9 (s_:(List Qd)) (f_:(Qd->Option Bool)):Option (Int):=(Qz (λ(s0:Int)=>((if (decide (s0<(s_.length:Int)))=true then (idx s_ s0).bind λt0=>(f_ t0).bind λt1=>(if t1=true then (some (.inr (.inr s0))) else (some (.inl (i64.wrap (s0+1))))) else (some (.inr (.inl ())))):Option ((Int)⊕((Unit)⊕(Int))))) (0:Int)).bind λe0=>(match e0 with | .inl _=>(some (-1:Int)) | .inr p0=>(some p0))
instance QqA:Spc2 prog 115 Qa9 (λs_ f_=>[tsl Qe s_,Qot.ty f_]) ti:=.mk λ{s_ f_ r} h=>by
 unfold Qa9 at h
 refine Fe func115 ntmps115 λM0 M w0 hpl=>?_
 refine QyV [1,2] ?_
 refine QyY λK0 k0=>?_
 refine QyV [1,2,3,4] ?_
 have⟨e0,h0,h⟩:=bs h
 have J0:∀(p0:Unit),(.inl p0)=e0->To M w0 19 [] [] K0:=by
  intro p0 he;subst he;simp only at h;refine k0 <|QyV [0] ?_;exact QyZ h (·▸QyX hpl)
 have J1:∀(p1:Int),(.inr p1)=e0->To M w0 19 [(4,ti p1)] [] (Ret prog f115 M0 [] w0 (λ_=>[]) (λ_=>ti r) .ret):=by
  intro p1 he;subst he;simp only at h;obtain rfl:=sj h;exact QyX hpl
 refine Qy1 <|Qzb h0 (λ(s0:Int)=>[(7,ti (s_.length:Int)),(8,ti s0),(0,tsl Qe s_),(1,Qot.ty f_)]) (λ(s0:Int)=>[]) [0,1,2,3] ?_;clear h;intro s0 o K1 h ho k1;refine QyV [0,1,2,3,4] ?_;refine QyY λ_ k2=>Qy0 h (λ_ h=>?_) (λ_ h=>?_)
 ·refine Qy2 <|k2 <|QyY λ_ k3=>Qy1 <|QyV [1,3,4,5,6] ?_;have⟨_,_,_,_,h⟩:=bs2 h;refine QyV [5,6,7,8,9,10] ?_;refine Qy0 h (λ_ h=>?_) (λ_ h=>?_)
  ·refine QyV [1] ?_;refine Qzd ?_;exact Qy4 J1 (ho _ (sj h).symm) [0]
  refine Qy2 <|k3 <|Qy6 [1,4,5,6] ?_;exact Qy4 k1 ((sj h).symm) [1,0,2,3]
 refine Qy7 <|Qy4 J0 (ho _ (sj h).symm) []
def QbT (s_:(List Qd)) (f_:(Qd->Option Bool)):Option (Bool):=(Qa9 s_ f_).bind λt0=>(some (decide (t0>=0)))
instance Qpk:Spc2 prog 170 QbT (λs_ f_=>[tsl Qe s_,Qot.ty f_]) tb:=.mk λ{s_ f_ r} h=>by
 unfold QbT at h
 refine Fe func170 ntmps170 λM0 M w0 hpl=>?_
 refine QyV [1,2] ?_
 have⟨_,_,h⟩:=bs h
 refine QyV [4] ?_
 exact QyZ h (·▸QyX hpl)
def Qd9 (l_:(List Qd)) (right_:(Qd->Option Bool)):Option (Bool):=(QbT l_ (λx0=>QgG x0 right_)).bind λt0=>(some (!t0))
instance QtU:Spc2 prog 145 Qd9 (λl_ right_=>[tsl Qe l_,Qot.ty right_]) tb:=.mk λ{l_ right_ r} h=>by
 unfold Qd9 at h
 refine Fe func145 ntmps145 λM0 M w0 hpl=>?_
 refine QyV [0,2] ?_
 have⟨_,_,h⟩:=bs h
 refine QyV [4] ?_
 exact QyZ h (·▸QyX hpl)
def Qg8 (f_:Qd):Option (Qd):=((if (f_.Xh==0)=true then (some (Qd.mk f_.Xi ([]:Str) ([]:Str) f_.Xh f_.Lo 0 ([]:(List Str)) ([]:(List Int)))) else ((if (f_.Xh==1)=true then (some (f_.Xh==1)) else ((if (f_.Xh==4)=true then (some (f_.Xh==4)) else (some (f_.Xh==5)))).bind λp0=>(some p0))).bind λp1=>((if p1=true then (some (Qd.mk f_.Xi f_.Of ([]:Str) f_.Xh f_.Lo f_.Hi ([]:(List Str)) ([]:(List Int)))) else ((if (f_.Xh==2)=true then (some (Qd.mk f_.Xi ([]:Str) ([]:Str) f_.Xh f_.Lo f_.Hi ([]:(List Str)) ([]:(List Int)))) else ((if (f_.Xh==3)=true then (some (Qd.mk f_.Xi ([]:Str) ([]:Str) f_.Xh 0 0 f_.Words f_.Xf)) else ((if (f_.Xh==6)=true then (some (Qd.mk f_.Xi f_.Of ([]:Str) f_.Xh 0 0 ([]:(List Str)) ([]:(List Int)))) else ((if (f_.Xh==7)=true then (some (Qd.mk f_.Xi f_.Of f_.Up f_.Xh f_.Lo f_.Hi ([]:(List Str)) ([]:(List Int)))) else ((if (f_.Xh==8)=true then (some (Qd.mk f_.Xi f_.Of f_.Up f_.Xh 0 0 ([]:(List Str)) ([]:(List Int)))) else (some (Qd.mk f_.Xi ([]:Str) ([]:Str) f_.Xh 0 0 ([]:(List Str)) ([]:(List Int)))))).bind λp2=>(some p2))).bind λp3=>(some p3))).bind λp4=>(some p4))).bind λp5=>(some p5))).bind λp6=>(some p6))).bind λp7=>(some p7))).bind λp8=>(some p8)
instance Qye:Spc1 prog 173 Qg8 (λf_=>[Qe.ty f_]) Qe.ty:=.mk λ{f_ r} h=>by
 unfold Qg8 at h
 refine Fe func173 ntmps173 λM0 M w0 hpl=>?_
 refine Qy5 [v1 1 (λv0=>box (Qe.cs zz0) v0)] [2] [0,1] λm0=>?_
 refine Qy5 [v1 5 (λv0=>box (Qe.cs zz0) v0),v1 5 (λv0=>box (Qe.cs (Qd.mk f_.Xi ([]:Str) ([]:Str) f_.Xh (0:Int) (0:Int) ([]:(List Str)) ([]:(List Int)))) v0)] [6,7] [5,6,7] λm1=>?_
 refine QyY λK0 k0=>?_
 refine QyV [1,2,3,4] ?_
 refine Qy1 ?_
 refine QyV [1,2,3,4,5] ?_
 have⟨p0,h0,h⟩:=bs h
 have J0:To M w0 73 [(3,tv (m1 5)),(2,tv (m0 1))] [box (Qe.cs zz0) (m0 1),box (Qe.cs p0) (m1 5)] K0:=by
  refine k0 <|Qy5 [v0 (box (Qe.cs p0) (m0 1))] [2] [2] λm2=>?_;refine Qy9 (λ_ _ H=>H.Xj [1] rfl) ?_;exact QyZ h (·▸QyX hpl)
 replace h:=h0;clear h0;refine Qy0 h (λ_ h=>?_) (λ_ h=>?_)
 ·refine Qza [v0 (box (Qe.cs (Qd.mk f_.Xi ([]:Str) ([]:Str) f_.Xh f_.Lo (0:Int) ([]:(List Str)) ([]:(List Int)))) (m1 5))] [4] [5,7] λm3=>?_;obtain rfl:=sj h;exact Qy3 J0 [0,1]
 refine QyY λK1 k1=>QyV [1,3,4,5,6] ?_;have⟨p1,h1,h⟩:=bs h;have J1:To M w0 73 [(16,tb p1),(10,ti f_.Xh),(3,tv (m1 5)),(1,tptr (Qe.cs f_)),(2,tv (m0 1))] [box (Qe.cs zz0) (m0 1),box (Qe.cs (Qd.mk f_.Xi ([]:Str) ([]:Str) f_.Xh (0:Int) (0:Int) ([]:(List Str)) ([]:(List Int)))) (m1 5)] K1:=by
  refine k1 ?_;have⟨p2,h2,h⟩:=bs h;have J2:To M w0 73 [(3,tv (m1 5)),(2,tv (m0 1))] [box (Qe.cs zz0) (m0 1),box (Qe.cs p2) (m1 5)] K0:=by
   obtain rfl:=sj h;exact Qy3 J0 [0,1]
  replace h:=h2;clear h2;refine Qy0 h (λ_ h=>?_) (λ_ h=>?_)
  ·refine Qza [v0 (box (Qe.cs (Qd.mk f_.Xi f_.Of ([]:Str) f_.Xh (0:Int) (0:Int) ([]:(List Str)) ([]:(List Int)))) (m1 5)),v0 (box (Qe.cs (Qd.mk f_.Xi f_.Of ([]:Str) f_.Xh f_.Lo (0:Int) ([]:(List Str)) ([]:(List Int)))) (m1 5)),v0 (box (Qe.cs (Qd.mk f_.Xi f_.Of ([]:Str) f_.Xh f_.Lo f_.Hi ([]:(List Str)) ([]:(List Int)))) (m1 5))] [8,10,12] [11,13] λm4=>?_;obtain rfl:=sj h;exact Qy3 J2 [0,1]
  refine QyV [1,3,4,5,6] ?_;have⟨p3,h3,h⟩:=bs h;have J3:To M w0 73 [(3,tv (m1 5)),(2,tv (m0 1))] [box (Qe.cs zz0) (m0 1),box (Qe.cs p3) (m1 5)] K0:=by
   obtain rfl:=sj h;exact Qy3 J2 [0,1]
  replace h:=h3;clear h3;refine Qy0 h (λ_ h=>?_) (λ_ h=>?_)
  ·refine Qza [v0 (box (Qe.cs (Qd.mk f_.Xi ([]:Str) ([]:Str) f_.Xh f_.Lo (0:Int) ([]:(List Str)) ([]:(List Int)))) (m1 5)),v0 (box (Qe.cs (Qd.mk f_.Xi ([]:Str) ([]:Str) f_.Xh f_.Lo f_.Hi ([]:(List Str)) ([]:(List Int)))) (m1 5))] [6,8] [8,10] λm5=>?_;obtain rfl:=sj h;exact Qy3 J3 [0,1]
  refine QyV [1,3,4,5,6] ?_;have⟨p4,h4,h⟩:=bs h;have J4:To M w0 73 [(3,tv (m1 5)),(2,tv (m0 1))] [box (Qe.cs zz0) (m0 1),box (Qe.cs p4) (m1 5)] K0:=by
   obtain rfl:=sj h;exact Qy3 J3 [0,1]
  replace h:=h4;clear h4;refine Qy0 h (λ_ h=>?_) (λ_ h=>?_)
  ·refine Qza [v0 (box (Qe.cs (Qd.mk f_.Xi ([]:Str) ([]:Str) f_.Xh (0:Int) (0:Int) f_.Words ([]:(List Int)))) (m1 5)),v0 (box (Qe.cs (Qd.mk f_.Xi ([]:Str) ([]:Str) f_.Xh (0:Int) (0:Int) f_.Words f_.Xf)) (m1 5))] [6,8] [8,10] λm6=>?_;obtain rfl:=sj h;exact Qy3 J4 [0,1]
  refine QyV [1,3,4,5,6] ?_;have⟨p5,h5,h⟩:=bs h;have J5:To M w0 73 [(3,tv (m1 5)),(2,tv (m0 1))] [box (Qe.cs zz0) (m0 1),box (Qe.cs p5) (m1 5)] K0:=by
   obtain rfl:=sj h;exact Qy3 J4 [0,1]
  replace h:=h5;clear h5;refine Qy0 h (λ_ h=>?_) (λ_ h=>?_)
  ·refine Qza [v0 (box (Qe.cs (Qd.mk f_.Xi f_.Of ([]:Str) f_.Xh (0:Int) (0:Int) ([]:(List Str)) ([]:(List Int)))) (m1 5))] [4] [5,7] λm7=>?_;obtain rfl:=sj h;exact Qy3 J5 [0,1]
  refine QyV [1,3,4,5,6] ?_;have⟨p6,h6,h⟩:=bs h;have J6:To M w0 73 [(3,tv (m1 5)),(2,tv (m0 1))] [box (Qe.cs zz0) (m0 1),box (Qe.cs p6) (m1 5)] K0:=by
   obtain rfl:=sj h;exact Qy3 J5 [0,1]
  replace h:=h6;clear h6;refine Qy0 h (λ_ h=>?_) (λ_ h=>?_)
  ·refine Qza [v0 (box (Qe.cs (Qd.mk f_.Xi f_.Of ([]:Str) f_.Xh (0:Int) (0:Int) ([]:(List Str)) ([]:(List Int)))) (m1 5)),v0 (box (Qe.cs (Qd.mk f_.Xi f_.Of f_.Up f_.Xh (0:Int) (0:Int) ([]:(List Str)) ([]:(List Int)))) (m1 5)),v0 (box (Qe.cs (Qd.mk f_.Xi f_.Of f_.Up f_.Xh f_.Lo (0:Int) ([]:(List Str)) ([]:(List Int)))) (m1 5)),v0 (box (Qe.cs (Qd.mk f_.Xi f_.Of f_.Up f_.Xh f_.Lo f_.Hi ([]:(List Str)) ([]:(List Int)))) (m1 5))] [10,12,14,16] [14,16] λm8=>?_;obtain rfl:=sj h;exact Qy3 J6 [0,1]
  refine QyV [1,4,5,6] ?_;have⟨p7,h7,h⟩:=bs h;have J7:To M w0 73 [(3,tv (m1 5)),(2,tv (m0 1))] [box (Qe.cs zz0) (m0 1),box (Qe.cs p7) (m1 5)] K0:=by
   obtain rfl:=sj h;exact Qy3 J6 [0,1]
  replace h:=h7;clear h7;refine Qy0 h (λ_ h=>?_) (λ_ h=>?_)
  ·refine Qza [v0 (box (Qe.cs (Qd.mk f_.Xi f_.Of ([]:Str) f_.Xh (0:Int) (0:Int) ([]:(List Str)) ([]:(List Int)))) (m1 5)),v0 (box (Qe.cs (Qd.mk f_.Xi f_.Of f_.Up f_.Xh (0:Int) (0:Int) ([]:(List Str)) ([]:(List Int)))) (m1 5))] [6,8] [7,9] λm9=>?_;obtain rfl:=sj h;exact Qy3 J7 [0,1]
  refine Qy2 ?_;obtain rfl:=sj h;exact Qy3 J7 [1,3]
 replace h:=h1;clear h1;refine Qy0 h (λ_ h=>?_) (λ_ h=>?_)
 ·refine Qy2 ?_;obtain rfl:=sj h;exact Qy3 J1 [0,1,2,3,4]
 refine QyV [1,2,3,4,5] ?_;have⟨p8,h8,h⟩:=bs h;have J8:To M w0 73 [(16,tb p8),(10,ti f_.Xh),(3,tv (m1 5)),(1,tptr (Qe.cs f_)),(2,tv (m0 1))] [box (Qe.cs zz0) (m0 1),box (Qe.cs (Qd.mk f_.Xi ([]:Str) ([]:Str) f_.Xh (0:Int) (0:Int) ([]:(List Str)) ([]:(List Int)))) (m1 5)] K1:=by
  obtain rfl:=sj h;exact Qy3 J1 [0,1,2,3,4]
 replace h:=h8;clear h8;refine Qy0 h (λ_ h=>?_) (λ_ h=>?_)
 ·refine Qy2 ?_;obtain rfl:=sj h;exact Qy3 J8 [0,1,2,3,4]
 refine Qy6 [1,2,3,4,5] ?_;obtain rfl:=sj h;exact Qy3 J8 [0,1,2,3,4]
def Qdg (s1_:(List Str)) (s2_:(List Str)):Option (Bool):=(if ((s1_.length:Int) !=(s2_.length:Int))=true then (some false) else (Qz (λ(s0:Int)=>((if (decide (s0<(s1_.length:Int)))=true then (idx s1_ s0).bind λt0=>(idx s2_ s0).bind λt1=>(if (t0 !=t1)=true then (some (.inr (.inr false))) else (some (.inl (i64.wrap (s0+1))))) else (some (.inr (.inl ())))):Option ((Int)⊕((Unit)⊕(Bool))))) (0:Int)).bind λe0=>(match e0 with | .inl _=>(some true) | .inr p0=>(some p0)))
instance Qr1:Spc2 prog 186 Qdg (λs1_ s2_=>[tsl rS s1_,tsl rS s2_]) tb:=.mk λ{s1_ s2_ r} h=>by
 unfold Qdg at h
 refine Fe func186 ntmps186 λM0 M w0 hpl=>?_
 refine QyV [1,2] ?_
 refine tIfs h [4,5,6] (λ_ h=>?_) (λ_ h=>?_)
 ·refine QyV [0] ?_
  exact QyZ h (·▸QyX hpl)
 refine QyY λK0 k0=>?_
 refine QyV [1,2,4,5] ?_
 have⟨e0,h0,h⟩:=bs h
 have J0:∀(p0:Unit),(.inl p0)=e0->To M w0 26 [] [] K0:=by
  intro p0 he;subst he;simp only at h;refine k0 <|QyV [0] ?_;exact QyZ h (·▸QyX hpl)
 have J1:∀(p1:Bool),(.inr p1)=e0->To M w0 26 [(4,tb p1)] [] (Ret prog f186 M0 [] w0 (λ_=>[]) (λ_=>tb r) .ret):=by
  intro p1 he;subst he;simp only at h;obtain rfl:=sj h;exact QyX hpl
 refine Qy1 <|Qzb h0 (λ(s0:Int)=>[(12,ti (s1_.length:Int)),(13,ti s0),(0,tsl rS s1_),(1,tsl rS s2_)]) (λ(s0:Int)=>[]) [0,1,2,3] ?_;clear h;intro s0 o K1 h ho k1;refine QyV [0,1,2,3,4] ?_;refine QyY λ_ k2=>Qy0 h (λ_ h=>?_) (λ_ h=>?_)
 ·refine Qy2 <|k2 <|QyY λ_ k3=>Qy1 <|QyV [1,3,4,5,6] ?_;have⟨_,_,_,_,h⟩:=bs2 h;refine QyV [8,10,11,12,13] ?_;refine Qy0 h (λ_ h=>?_) (λ_ h=>?_)
  ·refine QyV [0] ?_;refine Qzd ?_;exact Qy4 J1 (ho _ (sj h).symm) [0]
  refine Qy2 <|k3 <|Qy6 [1,3,4,5] ?_;exact Qy4 k1 ((sj h).symm) [1,0,2,3]
 refine Qy7 <|Qy4 J0 (ho _ (sj h).symm) []

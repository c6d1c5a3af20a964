/- The walk. No condition. -/
import Derived.Test.YtjioihpegfgbpaaGreatDoorGenH
set_option linter.all false
open Go.Proofs.Tryz Go.IntKind
namespace Go.Proofs.YtjioihpegfgbpaaGreatDoor
noncomputable section
open Go.Sim
set_option maxRecDepth 100000
set_option maxHeartbeats 4000000
def Qgq (f_:Qd):Option (Str):=(idx Qlk f_.Xh).bind λt0=>(if (f_.Xh==0)=true then (QaU t0 [(AnyV.str f_.Xi),(AnyV.int f_.Lo)]).bind λt1=>(some t1) else (if (f_.Xh==2)=true then (QaU t0 [(AnyV.str f_.Xi),(AnyV.int f_.Lo),(AnyV.int f_.Hi)]).bind λt2=>(some t2) else (if (f_.Xh==3)=true then (Qz (λ(s0:Int×List AnyV)=>((if (decide (s0.1<(f_.Words.length:Int)))=true then (idx f_.Words s0.1).bind λt3=>(idx f_.Xf s0.1).bind λt4=>(rm (s0.2.length+[(AnyV.str t3),(AnyV.int t4)].length)).bind λ_=>(some (.inl ((i64.wrap (s0.1+1)),(s0.2++[(AnyV.str t3),(AnyV.int t4)])))) else (some (.inr s0.2))):Option ((Int×List AnyV)⊕((List AnyV))))) ((0:Int),[(AnyV.str f_.Xi),(AnyV.int (f_.Words.length:Int))])).bind λp0=>(QaU t0 p0).bind λt5=>(some t5) else (if (f_.Xh==6)=true then (QaU t0 [(AnyV.str f_.Xi),(AnyV.str f_.Of)]).bind λt6=>(some t6) else (if (f_.Xh==7)=true then (QaU t0 [(AnyV.str f_.Xi),(AnyV.str f_.Up),(AnyV.str f_.Of),(AnyV.int f_.Lo),(AnyV.int f_.Hi)]).bind λt7=>(some t7) else (if (f_.Xh==8)=true then (QaU t0 [(AnyV.str f_.Xi),(AnyV.str f_.Up),(AnyV.str f_.Of)]).bind λt8=>(some t8) else (Qd3 f_.Of).bind λt9=>(QaU t0 [(AnyV.str f_.Xi),(AnyV.str t9),(AnyV.int f_.Lo),(AnyV.int f_.Hi)]).bind λt10=>(some t10)))))))
instance QoG:SpcS prog 154 (∀{f_:Qd} {r:Str},Qgq f_=some r->FnOk prog 154 [Qe.ty f_] [glo] (λ_=>[]) (λ_=>tv (.string (sB r)))):=.mk λ{f_ r} h=>by
 unfold Qgq at h
 refine Fe func154 ntmps154 λM0 M w0 hpl=>?_
 refine QyV [0] ?_
 have⟨t0,h0,h⟩:=bs h
 intro a w H
 refine sr mx [] H (λ_=>.o (Qg QbY z0)<|.o (Qf (u:=f_.Xh) tok3 z0 rfl)<|.u [0] rfl rfl (QvO underlying258 tok9 Qv2 rfl z0 rfl h0)<|.o (Qw tok9 z0)<|.o (Qc z0)<|.n) λ_ a w H=>?_
 have H:=H.t2_1 [4,5]
 refine Qze H ?_
 refine QyY λ_ k0=>?_
 refine QyV [1,2,3] ?_
 refine Qy1 ?_
 refine QyV [1,2,3,4] ?_
 refine Qy0 h (λ_ h=>?_) (λ_ h=>?_)
 ·have⟨_,_,h⟩:=bs h
  refine QyV [9] ?_
  exact QyZ h (·▸QyX hpl)
 refine QyV [1,3,4,5] ?_
 refine Qy0 h (λ_ h=>?_) (λ_ h=>?_)
 ·have⟨_,_,h⟩:=bs h
  refine QyV [12] ?_
  exact QyZ h (·▸QyX hpl)
 refine QyV [1,3,4,5] ?_
 refine Qy0 h (λ_ h=>?_) (λ_ h=>?_)
 ·refine Qy5 [v1 7 (λv0=>own (rAny 3 9) 20 [(AnyV.str f_.Xi),(AnyV.int (f_.Words.length:Int))] v0)] [8] [7,8,11,12] λm0=>?_
  refine QyY λK0 k1=>?_
  refine QyV [1,2,3,4,5,6,7] ?_
  have⟨e0,h1,h⟩:=bs h
  have J0:∀(p0:List AnyV) (y0:Value),p0=e0->To M w0 132 [(4,tv y0),(3,tv (.string (sB t0)))] [glo,own (rAny 3 9) 20 p0 y0] K0:=by
   intro p0 y0 he;subst he;refine k1 ?_;have⟨t1,h2,h⟩:=bs h;intro a w H;refine sr mx [] H (λ_=>.q 1 rfl<|.q 1 rfl<|.u [0,1] rfl rfl ((Qjj [own (rAny 3 9) 20 p0 y0] Qj1 (Qeq.ok h2) (.cons (.of z1)<|.cons (.own z0 (.head _))<|.nil) (λ_=>Qbs) (λ_=>QqO (x:=undef))).glo)<|.o (Qc z0)<|.n) λ_ a w H=>?_;have H:=H.to [1,3,4] [_,_,_] [_,_] rfl rfl;refine Qze H ?_;exact QyZ h (·▸QyX hpl)
  refine Qy1 <|Qzf h1 (λ(s0:Int×List AnyV) (y1:Value)=>[(49,tsl rS f_.Words),(50,ti (f_.Words.length:Int)),(51,ti s0.1),(4,tv y1),(3,tv (.string (sB t0))),(1,tptr (Qe.cs f_))]) (λ(s0:Int×List AnyV) (y1:Value)=>[glo,own (rAny 3 9) 20 s0.2 y1]) (m0 7) [0,1,2,4,5,6] ?_;clear h;intro s0 y1 o K1 h ho k2;refine QyV [0,1,2,3,4,5,6] ?_;refine QyY λ_ k3=>Qy0 h (λ_ h=>?_) (λ_ h=>?_)
  ·refine Qy2 <|k3 <|QyY λ_ k4=>Qy1 ?_;have⟨t2,_,h⟩:=bs h;refine QyV [3,4,6,7,8,9,10,11] ?_;have⟨t3,_,_,_,h⟩:=bs2 h;refine Qza [v1 10 (λv0=>own (rAny 3 9) 20 (s0.2++[(AnyV.str t2),(AnyV.int t3)]) v0)] [11] [10,11,14,15,16,17,18] λm1=>?_;refine k4 <|Qy6 [1,2,3,4,5,6,7] ?_;exact Qy8 k2 (m1 10) ((sj h).symm) [3,4,0,2,5,6]
  refine Qy7 <|Qy8 J0 y1 (ho _ (sj h).symm) [4,5]
 refine QyV [1,3,4,5] ?_;refine Qy0 h (λ_ h=>?_) (λ_ h=>?_)
 ·have⟨_,_,h⟩:=bs h;refine QyV [9] ?_;exact QyZ h (·▸QyX hpl)
 refine QyV [1,3,4,5] ?_;refine Qy0 h (λ_ h=>?_) (λ_ h=>?_)
 ·have⟨_,_,h⟩:=bs h;refine QyV [18] ?_;exact QyZ h (·▸QyX hpl)
 refine QyV [1,4,5] ?_;refine Qy0 h (λ_ h=>?_) (λ_ h=>?_)
 ·have⟨_,_,h⟩:=bs h;refine QyV [12] ?_;exact QyZ h (·▸QyX hpl)
 refine Qy2 <|k0 ?_;have⟨_,_,_,_,h⟩:=bs2 h;refine QyV [16] ?_;exact QyZ h (·▸QyX hpl)
def QfN (x_:Qa):Option (Str):=(QaU ([115,99,104,101,109,97]:Str) [(AnyV.int x_.Version)]).bind λt0=>(Qbv ([]:Str) t0).bind λt1=>(Qz (λ(s0:Int×Str)=>((if (decide (s0.1<(x_.Xa.length:Int)))=true then (idx x_.Xa s0.1).bind λt2=>(QaU ([107,105,110,100]:Str) [(AnyV.str t2.Xi),(AnyV.int t2.Lo),(AnyV.int t2.Hi)]).bind λt3=>(Qbv s0.2 t3).bind λt4=>(Qz (λ(s1:Int×Str)=>((if (decide (s1.1<(t2.Xb.length:Int)))=true then (idx t2.Xb s1.1).bind λt5=>(Qgq t5).bind λt6=>(Qbv s1.2 t6).bind λt7=>(some (.inl ((i64.wrap (s1.1+1)),t7))) else (some (.inr s1.2))):Option ((Int×Str)⊕((Str))))) ((0:Int),t4)).bind λp0=>(some (.inl ((i64.wrap (s0.1+1)),p0))) else (some (.inr s0.2))):Option ((Int×Str)⊕((Str))))) ((0:Int),t1)).bind λp1=>(Qz (λ(s2:Int×Str)=>((if (decide (s2.1<(x_.Xd.length:Int)))=true then (idx x_.Xd s2.1).bind λt8=>(Qz (λ(s3:Int×List AnyV)=>((if (decide (s3.1<(t8.Xe.length:Int)))=true then (idx t8.Xe s3.1).bind λt9=>(rm (s3.2.length+[(AnyV.str t9)].length)).bind λ_=>(some (.inl ((i64.wrap (s3.1+1)),(s3.2++[(AnyV.str t9)])))) else (some (.inr s3.2))):Option ((Int×List AnyV)⊕((List AnyV))))) ((0:Int),[(AnyV.str t8.Xi),(AnyV.int (t8.Xe.length:Int))])).bind λp2=>(QaU ([108,105,102,101]:Str) p2).bind λt10=>(Qbv s2.2 t10).bind λt11=>(Qz (λ(s4:Int×Str)=>((if (decide (s4.1<(t8.Xg.length:Int)))=true then (idx t8.Xg s4.1).bind λt12=>(QaU ([109,111,118,101]:Str) [(AnyV.int t12.a0),(AnyV.int t12.a1)]).bind λt13=>(Qbv s4.2 t13).bind λt14=>(some (.inl ((i64.wrap (s4.1+1)),t14))) else (some (.inr s4.2))):Option ((Int×Str)⊕((Str))))) ((0:Int),t11)).bind λp3=>(some (.inl ((i64.wrap (s2.1+1)),p3))) else (some (.inr s2.2))):Option ((Int×Str)⊕((Str))))) ((0:Int),p1)).bind λp4=>(Qz (λ(s5:Int×Str)=>((if (decide (s5.1<(x_.Xc.length:Int)))=true then (idx x_.Xc s5.1).bind λt15=>(Qd3 t15.A).bind λt16=>(Qd3 t15.B).bind λt17=>(QaU ([114,117,108,101]:Str) [(AnyV.str t15.Xi),(AnyV.str t15.Xh),(AnyV.str t16),(AnyV.str t17),(AnyV.int t15.N)]).bind λt18=>(Qbv s5.2 t18).bind λt19=>(some (.inl ((i64.wrap (s5.1+1)),t19))) else (some (.inr s5.2))):Option ((Int×Str)⊕((Str))))) ((0:Int),p4)).bind λp5=>(Qic p5).bind λt20=>(some t20)
instance Qwq:SpcS prog 113 (∀{x_:Qa} {r:Str},QfN x_=some r->FnOk prog 113 [Qb.ty x_] [glo] (λ_=>[]) (λ_=>tv (.string (sB r)))):=.mk λ{x_ r} h=>by
 unfold QfN at h
 refine Fe func113 ntmps113 λM0 M w0 hpl=>?_
 refine QyV [0] ?_
 intro a w H
 refine sr mx [v1 0 (λv0=>bld ([]:Str) v0 nilV)] H (λ_=>.m [] [1] rfl rfl rfl (QpH bInfo)<|.n) λm0 a w H=>?_
 have H:=H.t2_2 [0,1]
 refine Qze H ?_
 have⟨_,h0,t0,h1,h⟩:=bs2 h
 intro a w H
 refine sr mx [v1 5 (λv0=>bld t0 (m0 0) v0)] H (λ_=>.o (Qg QiT z1)<|.o (Qf (u:=x_.Version) tok3 z0 rfl)<|.o (Qle ud3 z0)<|.o (QK (R:=(rAny 3 9)) (us:=[(AnyV.int x_.Version)]) Qqz Qqt (.cons z0<|.nil _) rfl (leb rfl))<|.u [0] rfl rfl ((Qq Qj1 (Qeq.ok h0) (.cons (.of .k)<|.cons (.of z0)<|.nil)).glo)<|.e [] [1] [2] rfl rfl rfl rfl (Qq Qhu (Qb4 h1) (.cons (.of z5)<|.cons (.of z0)<|.nil))<|.n) λm1 a w H=>?_
 have H:=H.t2_2 [6,7]
 refine Qze H ?_
 refine QyY λK0 k0=>?_
 refine QyV [1,2,3,4,5] ?_
 have⟨e0,h2,h⟩:=bs h
 have J0:∀(p0:Str) (y0:Value),p0=e0->To M w0 132 [(3,tv (m0 0)),(1,tptr (Qb.cs x_))] [glo,bld p0 (m0 0) y0] K0:=by
  intro p0 y0 he;subst he;refine k0 <|QyY λK1 k1=>QyV [1,2,3,4,5] ?_;have⟨e1,h3,h⟩:=bs h;have J1:∀(p1:Str) (y1:Value),p1=e1->To M w0 132 [(3,tv (m0 0)),(1,tptr (Qb.cs x_))] [glo,bld p1 (m0 0) y1] K1:=by
   intro p1 y1 he;subst he;refine k1 <|QyY λK2 k2=>QyV [1,2,3,4] ?_;have⟨e2,h4,h⟩:=bs h;have J2:∀(p2:Str) (y2:Value),p2=e2->To M w0 132 [(3,tv (m0 0))] [glo,bld p2 (m0 0) y2] K2:=by
    intro p2 y2 he;subst he;refine k2 ?_;have⟨t1,h5,h⟩:=bs h;intro a w H;refine sr mx [] H (λ_=>.e [] [1] [] rfl rfl rfl rfl (Qq QsA (QoD h5) (.cons (.of z0)<|.nil))<|.o (Qc z0)<|.n) λ_ a w H=>?_;have H:=H.t1_1 [1];refine Qze H ?_;exact QyZ h (·▸QyX hpl)
   refine Qy1 <|Qzf h4 (λ(s0:Int×Str) (y3:Value)=>[(104,tsl Ql x_.Xc),(105,ti (x_.Xc.length:Int)),(106,ti s0.1),(3,tv (m0 0))]) (λ(s0:Int×Str) (y3:Value)=>[glo,bld s0.2 (m0 0) y3]) y1 [0,1,2,3] ?_;clear h;intro s0 y3 o K3 h ho k3;refine QyV [0,1,2,3,4] ?_;refine QyY λ_ k4=>Qy0 h (λ_ h=>?_) (λ_ h=>?_)
   ·refine Qy2 <|k4 <|QyY λ_ k5=>Qy1 ?_;have⟨t2,_,h⟩:=bs h;refine Qy5 [v1 2 (λv0=>box (Ql.cs zz3) v0),v1 2 (λv0=>box (Ql.cs t2) v0)] [3,4] [2,4,5,6,7] λm2=>?_;refine Qy9 (λ_ _ H=>(((H.Xj [2,0,1] rfl).Xk 0 rfl).add 0 rfl (λ_ _ _ h=>h.2)).pick [0,3,4,5,6]) ?_;have⟨t3,h6,t4,h7,_,h8,t5,h9,h⟩:=bs4 h;intro a w H;refine wr mx [v1 19 (λv0=>bld t5 (m0 0) v0)] H (λ_=>.o (Qg Qln z0)<|.o (Qf (u:=t2.Xi) tok9 z0 rfl)<|.o (Qmu ud9 z0)<|.o (Qg Qht z3)<|.o (Qf (u:=t2.Xh) tok9 z0 rfl)<|.o (Qmu ud9 z0)<|.o (Qg Qil z6)<|.o (Qf (u:=t2.A) tok9 z0 rfl)<|.o (Qq Qsz (QkK.ok h6) (.cons (.of z0)<|.nil))<|.o (Qmu ud9 z0)<|.o (Qg Qim z10)<|.o (Qf (u:=t2.B) tok9 z0 rfl)<|.o (Qq Qsz (QkK.ok h7) (.cons (.of z0)<|.nil))<|.o (Qmu ud9 z0)<|.o (Qg Qpe z14)<|.o (Qf (u:=t2.N) tok3 z0 rfl)<|.o (Qle ud3 z0)<|.o (QK (R:=(rAny 3 9)) (us:=[(AnyV.str t2.Xi),(AnyV.str t2.Xh),(AnyV.str t3),(AnyV.str t4),(AnyV.int t2.N)]) Qqz Qqt (.cons z14<|.cons z11<|.cons z7<|.cons z3<|.cons z0<|.nil _) rfl (leb rfl))<|.u [0] rfl rfl ((Qq Qj1 (Qeq.ok h8) (.cons (.of .k)<|.cons (.of z0)<|.nil)).glo)<|.e [] [1] [2] rfl rfl rfl rfl (Qq Qhu (Qb4 h9) (.cons (.of z23)<|.cons (.of z0)<|.nil))<|.n) λm3 a w H=>?_;have H:=H.to [21,22,23,24] [_,_,_,_] [_,_] rfl rfl;refine Qzh H ?_;refine k5 <|Qy6 [1,2,3,4] ?_;exact Qy8 k3 (m3 19) ((sj h).symm) [1,2,0,3]
   refine Qy7 <|Qy8 J2 y3 (ho _ (sj h).symm) [4]
  refine Qy1 <|Qzf h3 (λ(s1:Int×Str) (y4:Value)=>[(55,tsl Qo x_.Xd),(56,ti (x_.Xd.length:Int)),(57,ti s1.1),(3,tv (m0 0)),(1,tptr (Qb.cs x_))]) (λ(s1:Int×Str) (y4:Value)=>[glo,bld s1.2 (m0 0) y4]) y0 [0,1,2,3,4] ?_;clear h;intro s1 y4 o K4 h ho k6;refine QyV [0,1,2,3,4,5] ?_;refine QyY λ_ k7=>Qy0 h (λ_ h=>?_) (λ_ h=>?_)
  ·refine Qy2 <|k7 <|QyY λK5 k8=>Qy1 ?_;have⟨t6,_,h⟩:=bs h;refine Qy5 [v1 2 (λv0=>box (Qo.cs zz2) v0),v1 2 (λv0=>box (Qo.cs t6) v0)] [3,4] [2,4,5,6,7,8] λm4=>?_;refine Qy9 (λ_ _ H=>(((H.Xj [2,0,1] rfl).Xk 0 rfl).add 0 rfl (λ_ _ _ h=>h.2)).pick [0,3,4,5,6,7]) ?_;refine Qy5 [v1 7 (λv0=>own (rAny 3 9) 20 [(AnyV.str t6.Xi),(AnyV.int (t6.Xe.length:Int))] v0)] [8] [7,8,9,10,11,12,13,14] λm5=>?_;refine QyY λK6 k9=>QyV [1,2,3,4,5,6,7,8,9,10,11] ?_;have⟨e3,h10,h⟩:=bs h;have J3:∀(p3:List AnyV) (y5:Value),p3=e3->To M w0 132 [(10,tv y5),(9,tptr (Qo.cs t6)),(55,tsl Qo x_.Xd),(56,ti (x_.Xd.length:Int)),(57,ti s1.1),(3,tv (m0 0)),(1,tptr (Qb.cs x_))] [glo,bld s1.2 (m0 0) y4,own (rAny 3 9) 20 p3 y5] K6:=by
    intro p3 y5 he;subst he;refine k9 ?_;have⟨_,h11,t7,h12,h⟩:=bs2 h;intro a w H;refine sr mx [v1 2 (λv0=>bld t7 (m0 0) v0)] H (λ_=>.q 0 rfl<|.u [0,2] rfl rfl ((Qjj [own (rAny 3 9) 20 p3 y5] Qj1 (Qeq.ok h11) (.cons (.of .k)<|.cons (.own z0 (.head _))<|.nil) (λ_=>Qbs) (λ_=>QqO (x:=undef))).glo)<|.e [] [1] [3] rfl rfl rfl rfl (Qq Qhu (Qb4 h12) (.cons (.of z7)<|.cons (.of z0)<|.nil))<|.n) λm6 a w H=>?_;have H:=H.to [0,3,4,5,6,7,8,9] [_,_,_,_,_,_,_,_] [_,_,_] rfl rfl;refine Qze H ?_;refine QyV [1,2,3,4,5,7,8,9,10,11] ?_;have⟨e4,h13,h⟩:=bs h;have J4:∀(p4:Str) (y6:Value),p4=e4->To M w0 132 [(55,tsl Qo x_.Xd),(56,ti (x_.Xd.length:Int)),(57,ti s1.1),(3,tv (m0 0)),(1,tptr (Qb.cs x_))] [glo,bld p4 (m0 0) y6] K5:=by
     intro p4 y6 he;subst he;refine k8 <|Qy6 [1,2,3,4,5] ?_;exact Qy8 k6 y6 ((sj h).symm) [1,2,0,3,4]
    refine Qy1 <|Qy9 (λ_ _ H=>(H.pick [0,1,2,5,6,7,8,9]).Xj [0,2] rfl) ?_;refine Qzf h13 (λ(s2:Int×Str) (y7:Value)=>[(86,tsl Qaz t6.Xg),(87,ti (t6.Xg.length:Int)),(88,ti s2.1),(55,tsl Qo x_.Xd),(56,ti (x_.Xd.length:Int)),(57,ti s1.1),(3,tv (m0 0)),(1,tptr (Qb.cs x_))]) (λ(s2:Int×Str) (y7:Value)=>[glo,bld s2.2 (m0 0) y7]) (m6 2) [0,1,2,3,4,5,6,7] ?_;clear h;intro s2 y7 o K7 h ho k10;refine QyV [0,1,2,3,4,5,6,7,8] ?_;refine QyY λ_ k11=>Qy0 h (λ_ h=>?_) (λ_ h=>?_)
    ·refine Qy2 <|k11 <|QyY λ_ k12=>Qy1 ?_;have⟨t8,_,h⟩:=bs h;refine Qy5 [v1 2 (λv0=>box (Qaz.cs (Qac.mk (0:Int) (0:Int))) v0),v1 2 (λv0=>box (Qaz.cs t8) v0)] [3,4] [2,4,5,6,7,8,9,10,11] λm7=>?_;refine Qy9 (λ_ _ H=>(((H.Xj [2,0,1] rfl).Xk 0 rfl).add 0 rfl (λ_ _ _ h=>h.2)).pick [0,3,4,5,6,7,8,9,10]) ?_;have⟨_,h14,t9,h15,h⟩:=bs2 h;intro a w H;refine wr mx [v1 8 (λv0=>bld t9 (m0 0) v0)] H (λ_=>.o (Qm8 0 rfl underlying60 tok3 z0 .k (by decide))<|.o (Qf (u:=t8.a0) tok3 z0 rfl)<|.o (Qle ud3 z0)<|.o (Qm8 1 rfl underlying60 tok3 z3 .k (by decide))<|.o (Qf (u:=t8.a1) tok3 z0 rfl)<|.o (Qle ud3 z0)<|.o (QK (R:=(rAny 3 9)) (us:=[(AnyV.int t8.a0),(AnyV.int t8.a1)]) Qqz Qqt (.cons z3<|.cons z0<|.nil _) rfl (leb rfl))<|.u [0] rfl rfl ((Qq Qj1 (Qeq.ok h14) (.cons (.of .k)<|.cons (.of z0)<|.nil)).glo)<|.e [] [1] [2] rfl rfl rfl rfl (Qq Qhu (Qb4 h15) (.cons (.of z15)<|.cons (.of z0)<|.nil))<|.n) λm8 a w H=>?_;have H:=H.to [10,11,12,13,14,15,16,17] [_,_,_,_,_,_,_,_] [_,_] rfl rfl;refine Qzh H ?_;refine k12 <|Qy6 [1,2,3,4,5,6,7,8] ?_;exact Qy8 k10 (m8 8) ((sj h).symm) [1,2,0,3,4,5,6,7]
    refine Qy7 <|Qy8 J4 y7 (ho _ (sj h).symm) [4,5,6,7,8]
   refine Qy1 <|Qzf h10 (λ(s3:Int×List AnyV) (y8:Value)=>[(70,tsl rS t6.Xe),(71,ti (t6.Xe.length:Int)),(72,ti s3.1),(10,tv y8),(9,tptr (Qo.cs t6)),(55,tsl Qo x_.Xd),(56,ti (x_.Xd.length:Int)),(57,ti s1.1),(3,tv (m0 0)),(1,tptr (Qb.cs x_))]) (λ(s3:Int×List AnyV) (y8:Value)=>[glo,bld s1.2 (m0 0) y4,own (rAny 3 9) 20 s3.2 y8]) (m5 7) [0,1,2,4,5,6,7,8,9,10] ?_;clear h;intro s3 y8 o K8 h ho k13;refine QyV [0,1,2,3,4,5,6,7,8,9,10] ?_;refine QyY λ_ k14=>Qy0 h (λ_ h=>?_) (λ_ h=>?_)
   ·refine Qy2 <|k14 <|QyY λ_ k15=>Qy1 ?_;have⟨t10,_,h⟩:=bs h;refine QyV [2,4,5,6,7,8,9,10,11,12,13] ?_;have⟨_,_,h⟩:=bs h;refine Qza [v1 4 (λv0=>own (rAny 3 9) 20 (s3.2++[(AnyV.str t10)]) v0)] [5] [4,5,7,8,9,10,11,12,13,14,15] λm9=>?_;refine k15 <|Qy6 [1,2,3,4,5,6,7,8,9,10,11] ?_;exact Qy8 k13 (m9 4) ((sj h).symm) [3,4,0,2,5,6,7,8,9,10]
   refine Qy7 <|Qy8 J3 y8 (ho _ (sj h).symm) [4,5,6,7,8,9,10]
  refine Qy7 <|Qy8 J1 y4 (ho _ (sj h).symm) [4,5]
 refine Qy1 <|Qzf h2 (λ(s4:Int×Str) (y9:Value)=>[(24,tsl Qp x_.Xa),(25,ti (x_.Xa.length:Int)),(26,ti s4.1),(3,tv (m0 0)),(1,tptr (Qb.cs x_))]) (λ(s4:Int×Str) (y9:Value)=>[glo,bld s4.2 (m0 0) y9]) (m1 5) [0,1,2,3,4] ?_;clear h;intro s4 y9 o K9 h ho k16;refine QyV [0,1,2,3,4,5] ?_;refine QyY λ_ k17=>Qy0 h (λ_ h=>?_) (λ_ h=>?_)
 ·refine Qy2 <|k17 <|QyY λK10 k18=>Qy1 ?_;have⟨t11,_,h⟩:=bs h;refine Qy5 [v1 2 (λv0=>box (Qp.cs zz1) v0),v1 2 (λv0=>box (Qp.cs t11) v0)] [3,4] [2,4,5,6,7,8] λm10=>?_;refine Qy9 (λ_ _ H=>(((H.Xj [2,0,1] rfl).Xk 0 rfl).add 0 rfl (λ_ _ _ h=>h.2)).pick [0,3,4,5,6,7]) ?_;have⟨_,h16,t12,h17,h⟩:=bs2 h;intro a w H;refine sr mx [v1 11 (λv0=>bld t12 (m0 0) v0)] H (λ_=>.o (Qg Qgv z0)<|.o (Qf (u:=t11.Xi) tok9 z0 rfl)<|.o (Qmu ud9 z0)<|.o (Qg Qij z3)<|.o (Qf (u:=t11.Lo) tok3 z0 rfl)<|.o (Qle ud3 z0)<|.o (Qg Qik z6)<|.o (Qf (u:=t11.Hi) tok3 z0 rfl)<|.o (Qle ud3 z0)<|.o (QK (R:=(rAny 3 9)) (us:=[(AnyV.str t11.Xi),(AnyV.int t11.Lo),(AnyV.int t11.Hi)]) Qqz Qqt (.cons z6<|.cons z3<|.cons z0<|.nil _) rfl (leb rfl))<|.u [0] rfl rfl ((Qq Qj1 (Qeq.ok h16) (.cons (.of .k)<|.cons (.of z0)<|.nil)).glo)<|.e [] [1] [2] rfl rfl rfl rfl (Qq Qhu (Qb4 h17) (.cons (.of z15)<|.cons (.of z0)<|.nil))<|.n) λm11 a w H=>?_;have H:=H.t6_2 [12,13,14,15,16,17];refine Qze H ?_;refine QyV [1,2,3,5,6,7,8,9] ?_;have⟨e5,h18,h⟩:=bs h;have J5:∀(p5:Str) (y10:Value),p5=e5->To M w0 132 [(24,tsl Qp x_.Xa),(25,ti (x_.Xa.length:Int)),(26,ti s4.1),(3,tv (m0 0)),(1,tptr (Qb.cs x_))] [glo,bld p5 (m0 0) y10] K10:=by
   intro p5 y10 he;subst he;refine k18 <|Qy6 [1,2,3,4,5] ?_;exact Qy8 k16 y10 ((sj h).symm) [1,2,0,3,4]
  refine Qy1 <|Qzf h18 (λ(s5:Int×Str) (y11:Value)=>[(43,tsl Qe t11.Xb),(44,ti (t11.Xb.length:Int)),(45,ti s5.1),(24,tsl Qp x_.Xa),(25,ti (x_.Xa.length:Int)),(26,ti s4.1),(3,tv (m0 0)),(1,tptr (Qb.cs x_))]) (λ(s5:Int×Str) (y11:Value)=>[glo,bld s5.2 (m0 0) y11]) (m11 11) [0,1,2,3,4,5,6,7] ?_;clear h;intro s5 y11 o K11 h ho k19;refine QyV [0,1,2,3,4,5,6,7,8] ?_;refine QyY λ_ k20=>Qy0 h (λ_ h=>?_) (λ_ h=>?_)
  ·refine Qy2 <|k20 <|QyY λ_ k21=>Qy1 ?_;have⟨t13,_,h⟩:=bs h;refine Qy5 [v1 2 (λv0=>box (Qe.cs zz0) v0),v1 2 (λv0=>box (Qe.cs t13) v0)] [3,4] [2,4,5,6,7,8,9,10,11] λm12=>?_;refine Qy9 (λ_ _ H=>(((H.Xj [2,0,1] rfl).Xk 0 rfl).add 0 rfl (λ_ _ _ h=>h.2)).pick [0,3,4,5,6,7,8,9,10]) ?_;have⟨_,h19,t14,h20,h⟩:=bs2 h;intro a w H;refine wr mx [v1 2 (λv0=>bld t14 (m0 0) v0)] H (λ_=>.o (Qw Q4 z0)<|.u [0] rfl rfl ((Qq Qxx (QoG.ok h19) (.cons (.of z0)<|.nil)).glo)<|.e [] [1] [2] rfl rfl rfl rfl (Qq Qhu (Qb4 h20) (.cons (.of z9)<|.cons (.of z0)<|.nil))<|.n) λm13 a w H=>?_;have H:=H.to [4,5,6,7,8,9,10,11] [_,_,_,_,_,_,_,_] [_,_] rfl rfl;refine Qzh H ?_;refine k21 <|Qy6 [1,2,3,4,5,6,7,8] ?_;exact Qy8 k19 (m13 2) ((sj h).symm) [1,2,0,3,4,5,6,7]
  refine Qy7 <|Qy8 J5 y11 (ho _ (sj h).symm) [4,5,6,7,8]
 refine Qy7 <|Qy8 J0 y9 (ho _ (sj h).symm) [4,5]
def Qgr (x_:Qa):Option (Int):=(Qbw x_.Version 0 1048576).bind λt0=>(opt (((((!t0)||(decide ((x_.Xa.length:Int)>6)))||(decide ((x_.Xd.length:Int)>6)))||(decide ((x_.Xc.length:Int)>16)))==false) (QeB x_.Xa (λx0=>QfK x0)) default).bind λt1=>(opt ((((((!t0)||(decide ((x_.Xa.length:Int)>6)))||(decide ((x_.Xd.length:Int)>6)))||(decide ((x_.Xc.length:Int)>16)))||(!t1))==false) (QeD x_.Xd (λx0=>QfL x0)) default).bind λt2=>(opt (((((((!t0)||(decide ((x_.Xa.length:Int)>6)))||(decide ((x_.Xd.length:Int)>6)))||(decide ((x_.Xc.length:Int)>16)))||(!t1))||(!t2))==false) (QeF x_.Xc (λx0=>QfM x0)) default).bind λt3=>(if (((((((!t0)||(decide ((x_.Xa.length:Int)>6)))||(decide ((x_.Xd.length:Int)>6)))||(decide ((x_.Xc.length:Int)>16)))||(!t1))||(!t2))||(!t3))=true then (some (1:Int)) else (QfN x_).bind λt4=>(if (decide ((t4.length:Int)>8192))=true then (some (4:Int)) else (some (0:Int))))
instance QwZ:SpcS prog 82 (∀{x_:Qa} {r:Int},Qgr x_=some r->FnOk prog 82 [Qb.ty x_] [glo] (λ_=>[]) (λ_=>ti r)):=.mk λ{x_ r} h=>by
 unfold Qgr at h
 refine Fe func82 ntmps82 λM0 M w0 hpl=>?_
 refine QyV [0] ?_
 refine QyY λ_ k0=>?_
 refine Qy1 ?_
 have⟨_,_,_,_,_,_,_,_,h⟩:=bs4 h
 refine QyV [40,41] ?_
 refine Qy0 h (λ_ h=>?_) (λ_ h=>?_)
 ·refine QyV [0] ?_
  exact QyZ h (·▸QyX hpl)
 have⟨_,_,h⟩:=bs h
 refine QyV [4] ?_
 refine Qy0 h (λ_ h=>?_) (λ_ h=>?_)
 ·refine QyV [0] ?_
  exact QyZ h (·▸QyX hpl)
 refine Qy2 ?_
 refine k0 ?_
 refine QyV [0] ?_
 exact QyZ h (·▸QyX hpl)
def QcI (kind_:Int) (field_:Int) (rule_:Int) (e_:Int) (c0_:(List QF)):Option ((List QF)):=((if (e_ !=0)=true then (rm (c0_.length+[(QF.mk kind_ field_ rule_ e_)].length)).bind λ_=>(some (c0_++[(QF.mk kind_ field_ rule_ e_)])) else (some c0_))).bind λp0=>(some p0)
instance Qfx:SpcS prog 83 (∀{q4:Value} {vh4:Value} {kind_:Int} {field_:Int} {rule_:Int} {e_:Int} {c0_:(List QF)} {r:(List QF)},QcI kind_ field_ rule_ e_ c0_=some r->FnOk prog 83 [ti kind_,ti field_,ti rule_,ti e_,tv q4] [box (rVal.cs vh4) q4,own Qap 137 c0_ vh4] (λv=>[box (rVal.cs v) q4,own Qap 137 r v]) (λ_=>ttup [])):=.mk λ{q4 vh4 kind_ field_ rule_ e_ c0_ r} h=>by
 unfold QcI at h
 refine Fe func83 ntmps83 λM0 M w0 hpl=>?_
 refine QyV [1,2,3,4,5,6] ?_
 have⟨p0,h0,h⟩:=bs h
 have J0:∀(y0:Value),To M w0 19 [(4,tv q4)] [own Qap 137 p0 y0,box (rVal.cs y0) q4] (Ret prog f83 M0 [box (rVal.cs vh4) q4,own Qap 137 c0_ vh4] w0 (λv=>[box (rVal.cs v) q4,own Qap 137 r v]) (λ_=>ttup []) .normal):=by
  intro y0;obtain rfl:=sj h;exact QBP y0 [1,0] hpl
 replace h:=h0;clear h0;refine Qy0 h (λ_ h=>?_) (λ_ h=>?_)
 ·have⟨_,_,h⟩:=bs h;refine Qza [v1 7 (λv0=>own Qap 137 (c0_++[(QF.mk kind_ field_ rule_ e_)]) v0),v1 7 (λv0=>box (rVal.cs v0) q4)] [8,9] [7,13] λm0=>?_;obtain rfl:=sj h;exact Qy3 (J0 (m0 7)) [1]
 refine Qy2 ?_;obtain rfl:=sj h;refine Qzc (λ_ _ H=>(H.pick [5]).Xj [1,0] rfl) ?_;exact Qy3 (J0 vh4) [0]
def QgO (m_:Qr) (c0_:Qr):Option (Bool):=(some (m_.Xi==c0_.Xi))
instance QvB:Spc2 prog 85 QgO (λm_ c0_=>[Qo.ty m_,tptr (Qo.cs c0_)]) tb:=.mk λ{m_ c0_ r} h=>by
 unfold QgO at h
 refine Fe func85 ntmps85 λM0 M w0 hpl=>?_
 refine QyV [0,3] ?_
 refine QyV [5] ?_
 exact QyZ h (·▸QyX hpl)
def QaG (l_:(List Qat)):Option (Int):=(Qz (λ(s0:Int)=>((if (decide (s0<(l_.length:Int)))=true then (idx l_ s0).bind λt0=>(if t0.is=true then (some (.inr (.inr t0.code))) else (some (.inl (i64.wrap (s0+1))))) else (some (.inr (.inl ())))):Option ((Int)⊕((Unit)⊕(Int))))) (0:Int)).bind λe0=>(match e0 with | .inl _=>(some (0:Int)) | .inr p0=>(some p0))
instance QoH:Spc1 prog 86 QaG (λl_=>[tsl QcZ l_]) ti:=.mk λ{l_ r} h=>by
 unfold QaG at h
 refine Fe func86 ntmps86 λM0 M w0 hpl=>?_
 refine QyV [1] ?_
 refine QyY λK0 k0=>?_
 refine QyV [0,1,2] ?_
 have⟨e0,h0,h⟩:=bs h
 have J0:∀(p0:Unit),(.inl p0)=e0->To M w0 16 [] [] K0:=by
  intro p0 he;subst he;simp only at h;refine k0 <|QyV [0] ?_;exact QyZ h (·▸QyX hpl)
 have J1:∀(p1:Int),(.inr p1)=e0->To M w0 16 [(2,ti p1)] [] (Ret prog f86 M0 [] w0 (λ_=>[]) (λ_=>ti r) .ret):=by
  intro p1 he;subst he;simp only at h;obtain rfl:=sj h;exact QyX hpl
 refine Qy1 <|Qzb h0 (λ(s0:Int)=>[(5,tsl QcZ l_),(6,ti (l_.length:Int)),(7,ti s0)]) (λ(s0:Int)=>[]) [0,1,2] ?_;clear h;intro s0 o K1 h ho k1;refine QyV [0,1,2,3] ?_;refine QyY λ_ k2=>Qy0 h (λ_ h=>?_) (λ_ h=>?_)
 ·refine Qy2 <|k2 <|QyY λ_ k3=>Qy1 ?_;have⟨t0,_,h⟩:=bs h;refine Qy5 [v1 2 (λv0=>box (QcZ.cs (Qat.mk false (0:Int))) v0),v1 2 (λv0=>box (QcZ.cs t0) v0)] [3,4] [2,4,5,6] λm0=>?_;refine Qy9 (λ_ _ H=>((H.Xk 0 rfl).add 0 rfl (λ_ _ _ h=>h.2)).pick [0,3,4,5]) ?_;refine QyV [1,2,3,4,5] ?_;refine Qy0 h (λ_ h=>?_) (λ_ h=>?_)
  ·refine QyV [2] ?_;refine Qzd ?_;exact Qy4 J1 (ho _ (sj h).symm) [0]
  refine Qy2 <|k3 <|Qy6 [1,4,5] ?_;exact Qy4 k1 ((sj h).symm) [1,2,0]
 refine Qy7 <|Qy4 J0 (ho _ (sj h).symm) []
def Qer (k_:Qh) (c0_:Str):Option (Bool):=(some (k_.Xi==c0_))
instance Qwr:Spc2 prog 121 Qer (λk_ c0_=>[Qp.ty k_,tptr (rS.cs c0_)]) tb:=.mk λ{k_ c0_ r} h=>by
 unfold Qer at h
 refine Fe func121 ntmps121 λM0 M w0 hpl=>?_
 refine QyV [0,3] ?_
 refine QyV [4] ?_
 exact QyZ h (·▸QyX hpl)
def QbB (x_:Qa) (name_:Str):Option (Int):=(Qbg x_.Xa (λx0=>Qer x0 name_)).bind λt0=>(some t0)
instance Qhw:Spc2 prog 92 QbB (λx_ name_=>[Qb.ty x_,tv (.string (sB name_))]) ti:=.mk λ{x_ name_ r} h=>by
 unfold QbB at h
 refine Fe func92 ntmps92 λM0 M w0 hpl=>?_
 refine QyV [0,1] ?_
 have⟨_,_,h⟩:=bs h
 refine QyV [4] ?_
 exact QyZ h (·▸QyX hpl)
def Qhb (x_:Qa) (i_:Int):Option (Int):=(idx x_.Xa i_).bind λt0=>(QbB x_ t0.Xi).bind λt1=>(opt (((t0.Xb.length:Int)==0)==false) (idx t0.Xb 0) default).bind λt2=>(QaG [(Qat.mk (decide (t1<i_)) 7),(Qat.mk (((t0.Xb.length:Int)==0)||(t2.Xh !=0)) 11)]).bind λt3=>(some t3)
instance Qpl:Spc2 prog 87 Qhb (λx_ i_=>[Qb.ty x_,ti i_]) ti:=.mk λ{x_ i_ r} h=>by
 unfold Qhb at h
 refine Fe func87 ntmps87 λM0 M w0 hpl=>?_
 refine QyV [0,3] ?_
 have⟨t0,_,h⟩:=bs h
 refine Qy5 [v1 5 (λv0=>box (Qp.cs zz1) v0),v1 5 (λv0=>box (Qp.cs t0) v0)] [6,7] [5,6,7] λm0=>?_
 refine Qy9 (λ_ _ H=>((H.Xk 0 rfl).add 0 rfl (λ_ _ _ h=>h.2)).pick [0,3,4]) ?_
 have⟨_,_,_,_,_,_,h⟩:=bs3 h
 refine QyV [22] ?_
 exact QyZ h (·▸QyX hpl)
def QdX (f_:Qd) (c0_:Str):Option (Bool):=(some (f_.Xi==c0_))
instance QvC:Spc2 prog 116 QdX (λf_ c0_=>[Qe.ty f_,tptr (rS.cs c0_)]) tb:=.mk λ{f_ c0_ r} h=>by
 unfold QdX at h
 refine Fe func116 ntmps116 λM0 M w0 hpl=>?_
 refine QyV [0,3] ?_
 refine QyV [4] ?_
 exact QyZ h (·▸QyX hpl)
def Qbk (k_:Qh) (name_:Str):Option (Int):=(Qa9 k_.Xb (λx0=>QdX x0 name_)).bind λt0=>(some t0)
instance QiC:Spc2 prog 88 Qbk (λk_ name_=>[Qp.ty k_,tv (.string (sB name_))]) ti:=.mk λ{k_ name_ r} h=>by
 unfold Qbk at h
 refine Fe func88 ntmps88 λM0 M w0 hpl=>?_
 refine QyV [0,1] ?_
 have⟨_,_,h⟩:=bs h
 refine QyV [4] ?_
 exact QyZ h (·▸QyX hpl)
def Qhx (s_:Qm) (c0_:Qm):Option (Bool):=(some (s_.Xi==c0_.Xi))
instance Qws:Spc2 prog 118 Qhx (λs_ c0_=>[Ql.ty s_,tptr (Ql.cs c0_)]) tb:=.mk λ{s_ c0_ r} h=>by
 unfold Qhx at h
 refine Fe func118 ntmps118 λM0 M w0 hpl=>?_
 refine QyV [0,3] ?_
 refine QyV [5] ?_
 exact QyZ h (·▸QyX hpl)
def QcR (x_:Qa) (kind_:Int) (field_:Int):Option (Qd×Bool):=(opt ((((decide (kind_<0))||(decide (kind_>=(x_.Xa.length:Int))))||(decide (field_<0)))==false) (idx x_.Xa kind_) default).bind λt0=>(if ((((decide (kind_<0))||(decide (kind_>=(x_.Xa.length:Int))))||(decide (field_<0)))||(decide (field_>=(t0.Xb.length:Int))))=true then (some (zz0,false)) else (idx x_.Xa kind_).bind λt1=>(idx t1.Xb field_).bind λt2=>(some (t2,true)))
instance QmI:Spc3 prog 119 QcR (λx_ kind_ field_=>[Qb.ty x_,ti kind_,ti field_]) (λr=>ttup [Qe.ty r.1,tb r.2]):=.mk λ{x_ kind_ field_ r} h=>by
 unfold QcR at h
 refine Fe func119 ntmps119 λM0 M w0 hpl=>?_
 refine Qy5 [v1 1 (λv0=>box (Qe.cs zz0) v0)] [2] [0,1,4,5] λm0=>?_
 have⟨_,_,h⟩:=bs h
 refine tIfs h [23,24,25,26,27] (λ_ h=>?_) (λ_ h=>?_)
 ·refine Qy5 [v0 (box (Qe.cs zz0) (m0 1))] [2] [1,4] λm1=>?_
  exact QyZ h (·▸QyX hpl)
 have⟨_,_,t0,_,h⟩:=bs2 h
 refine Qy5 [v0 (box (Qe.cs t0) (m0 1))] [10] [9,12] λm2=>?_
 exact QyZ h (·▸QyX hpl)
def Qhc (x_:Qa) (i_:Int):Option (Int):=(idx x_.Xc i_).bind λt0=>(sub x_.Xc 0 i_).bind λt1=>(QaP t1 (λx0=>Qhx x0 t0)).bind λt2=>(QbB x_ t0.Xh).bind λt3=>(Qz (λ(s0:Int×Bool×Bool)=>((if (decide (s0.1<([t0.A,t0.B].length:Int)))=true then ((idx [t0.A,t0.B] s0.1).bind λt4=>(if ((t4==([]:Str))||(decide (t3<0)))=true then (some (s0.2.1,s0.2.2)) else (idx x_.Xa t3).bind λt5=>(Qbk t5 t4).bind λt6=>(QcR x_ t3 t6).bind λt7=>(some ((s0.2.1||(!t7.2)),(s0.2.2||(((t7.1).Xh !=2)&&((t7.1).Xh !=4))))))).bind λp0=>(some (.inl ((i64.wrap (s0.1+1)),p0.1,p0.2))) else (some (.inr (s0.2.1,s0.2.2)))):Option ((Int×Bool×Bool)⊕((Bool×Bool))))) ((0:Int),(decide (t3<0)),false)).bind λp1=>(QaG [(Qat.mk t2 7),(Qat.mk p1.1 12),(Qat.mk p1.2 13),(Qat.mk (t0.A==t0.B) 1)]).bind λt8=>(some t8)
instance Qpm:Spc2 prog 89 Qhc (λx_ i_=>[Qb.ty x_,ti i_]) ti:=.mk λ{x_ i_ r} h=>by
 unfold Qhc at h
 refine Fe func89 ntmps89 λM0 M w0 hpl=>?_
 refine QyV [0,3] ?_
 have⟨t0,_,h⟩:=bs h
 refine Qy5 [v1 5 (λv0=>box (Ql.cs zz3) v0),v1 5 (λv0=>box (Ql.cs t0) v0)] [6,7] [5,6,7] λm0=>?_
 refine Qy9 (λ_ _ H=>((H.Xk 0 rfl).add 0 rfl (λ_ _ _ h=>h.2)).pick [0,3,4]) ?_
 have⟨_,_,t1,_,h⟩:=bs2 h
 refine QyV [6,7,8] ?_
 have⟨t2,_,h⟩:=bs h
 refine QyV [4,5,6,7] ?_
 refine QyV [2,3,4,5,6,7] ?_
 refine QyY λK0 k0=>?_
 refine QyV [4,5,6,7,8,9,10,11,12] ?_
 have⟨e0,h0,h⟩:=bs h
 have J0:∀(p0:Bool×Bool),p0=e0->To M w0 91 [(8,tb p0.1),(9,tb p0.2),(6,tb t1),(5,tptr (Ql.cs t0))] [] K0:=by
  intro p0 he;subst he;refine k0 ?_;have⟨_,_,h⟩:=bs h;refine QyV [14] ?_;exact QyZ h (·▸QyX hpl)
 refine Qy1 <|Qzb h0 (λ(s0:Int×Bool×Bool)=>[(35,tsl rS [t0.A,t0.B]),(36,ti ([t0.A,t0.B].length:Int)),(37,ti s0.1),(8,tb s0.2.1),(9,tb s0.2.2),(7,ti t2),(6,tb t1),(5,tptr (Ql.cs t0)),(2,tptr (Qb.cs x_))]) (λ(s0:Int×Bool×Bool)=>[]) [0,1,2,3,4,5,6,7,8] ?_;clear h;intro s0 o K1 h ho k1;refine QyV [0,1,2,3,4,5,6,7,8,9] ?_;refine QyY λ_ k2=>Qy0 h (λ_ h=>?_) (λ_ h=>?_)
 ·refine Qy2 <|k2 <|QyY λK2 k3=>?_;have⟨p1,h1,h⟩:=bs h;have J1:To M w0 91 [(35,tsl rS [t0.A,t0.B]),(36,ti ([t0.A,t0.B].length:Int)),(37,ti s0.1),(8,tb p1.1),(9,tb p1.2),(7,ti t2),(6,tb t1),(5,tptr (Ql.cs t0)),(2,tptr (Qb.cs x_))] [] K2:=by
   refine k3 <|Qy6 [1,2,3,4,5,6,7,8,9] ?_;exact Qy4 k1 ((sj h).symm) [1,2,0,3,4,5,6,7,8]
  replace h:=h1;clear h1;refine Qy1 ?_;have⟨_,_,h⟩:=bs h;refine QyV [2,4,5,6,7,8,9,10,11,12] ?_;refine tIfs h [5,6,7,8,9,10,11,12,13,14,15] (λ_ h=>?_) (λ_ h=>?_)
  ·refine Qy7 ?_;obtain rfl:=sj h;exact Qy3 J1 [2,3,4,5,6,7,8,9,10]
  have⟨_,_,_,_,t3,_,h⟩:=bs3 h;refine Qy5 [v1 13 (λv0=>box (Qe.cs zz0) v0),v1 13 (λv0=>box (Qe.cs t3.1) v0)] [14,15] [13,14,17,18,19,20,21,22,23,24,25] λm1=>?_;refine Qy9 (λ_ _ H=>((H.Xk 0 rfl).add 0 rfl (λ_ _ _ h=>h.2)).pick [0,3,4,5,6,7,8,9,10,11,12]) ?_;refine QyV [5,6,8,9,10,11,12,13,14,15] ?_;refine Qy6 [11,12,14,15,16,17,18,19,20] ?_;obtain rfl:=sj h;exact Qy3 J1 [2,3,4,1,0,5,6,7,8]
 refine Qy7 <|Qy4 J0 (ho _ (sj h).symm) [4,5,7,8]
def QeG (s_:QaJ):Option (Int):=(QaG [(Qat.mk (decide (s_.field>0)) 13)]).bind λt0=>(some t0)
instance QmJ:Spc1 prog 248 QeG (λs_=>[Qbu.ty s_]) ti:=.mk λ{s_ r} h=>by
 unfold QeG at h
 refine Fe func248 ntmps248 λM0 M w0 hpl=>?_
 refine QyV [0] ?_
 have⟨_,_,h⟩:=bs h
 refine QyV [6] ?_
 exact QyZ h (·▸QyX hpl)

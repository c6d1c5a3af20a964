/- Go functions as Lean functions, and the proofs that they compute them, written by a program. No condition. -/
import Derived.Test.YtlajingmjmnfgaaGreatDoorGenC
set_option linter.all false
open Go.Proofs.Tryz Go.IntKind
namespace Go.Proofs.YtlajingmjmnfgaaGreatDoor
noncomputable section
open Go.Sim
set_option maxRecDepth 100000
set_option maxHeartbeats 4000000
def Qfm (f_:Qc):Option (Str):=(idx QjI f_.Kind).bind fun t0=>(if (f_.Kind==0)=true then (QaC t0 [(AnyV.str f_.Name),(AnyV.int f_.Lo)]).bind fun t1=>(some t1) else (if (f_.Kind==2)=true then (QaC t0 [(AnyV.str f_.Name),(AnyV.int f_.Lo),(AnyV.int f_.Hi)]).bind fun t2=>(some t2) else (if (f_.Kind==3)=true then (Ql (fun (s0:Int×List AnyV)=>((if (decide (s0.1<(f_.Words.length:Int)))=true then (idx f_.Words s0.1).bind fun t3=>(idx f_.Weights s0.1).bind fun t4=>(rm (s0.2.length+[(AnyV.str t3),(AnyV.int t4)].length)).bind fun _=>(some (.inl ((i64.wrap (s0.1+1)),(s0.2++[(AnyV.str t3),(AnyV.int t4)])))) else (some (.inr s0.2))):Option ((Int×List AnyV)⊕((List AnyV))))) ((0:Int),[(AnyV.str f_.Name),(AnyV.int (f_.Words.length:Int))])).bind fun p0=>(QaC t0 p0).bind fun t5=>(some t5) else (if (f_.Kind==6)=true then (QaC t0 [(AnyV.str f_.Name),(AnyV.str f_.Of)]).bind fun t6=>(some t6) else (if (f_.Kind==7)=true then (QaC t0 [(AnyV.str f_.Name),(AnyV.str f_.Up),(AnyV.str f_.Of),(AnyV.int f_.Lo),(AnyV.int f_.Hi)]).bind fun t7=>(some t7) else (if (f_.Kind==8)=true then (QaC t0 [(AnyV.str f_.Name),(AnyV.str f_.Up),(AnyV.str f_.Of)]).bind fun t8=>(some t8) else (Qdj f_.Of).bind fun t9=>(QaC t0 [(AnyV.str f_.Name),(AnyV.str t9),(AnyV.int f_.Lo),(AnyV.int f_.Hi)]).bind fun t10=>(some t10)))))))
instance QnO:SpcS prog 174 (∀{f_:Qc} {r:Str},Qfm f_=some r→FnOk prog 174 [Qd.ty f_] [glo] (fun _=>[]) (fun _=>tv (.string (sB r)))):=.mk fun {f_ r} h=>by
 unfold Qfm at h
 refine Fe func174 ntmps174 fun M0 M w0 hpl=>?_
 refine Qb [0] ?_
 have⟨t0,h0,h⟩:=bs h
 intro a w H
 refine sr mx [] H (fun _=>.o (QO Qhx z0)<|.o (QN (u:=f_.Kind) tok3 z0 rfl)<|.u [0] rfl rfl (Qx6 underlying270 tok9 Qyh rfl z0 rfl h0)<|.o (QU tok9 z0)<|.o (Qi z0)<|.n) fun _ a w H=>?_
 have H:=H.t2_1 [4,5]
 refine Q2 H ?_
 refine Qk fun _ k0=>?_
 refine Qb [1,2,3] ?_
 refine Qs ?_
 refine Qb [1,2,3,4] ?_
 refine Qx h (fun _ h=>?_) (fun _ h=>?_)
 ·have⟨_,_,h⟩:=bs h
  refine Qb [9] ?_
  exact Qu h (·▸Qq hpl)
 refine Qb [1,3,4,5] ?_
 refine Qx h (fun _ h=>?_) (fun _ h=>?_)
 ·have⟨_,_,h⟩:=bs h
  refine Qb [12] ?_
  exact Qu h (·▸Qq hpl)
 refine Qb [1,3,4,5] ?_
 refine Qx h (fun _ h=>?_) (fun _ h=>?_)
 ·refine QV [v1 7 (fun v0=>own (rAny 3 9) 20 [(AnyV.str f_.Name),(AnyV.int (f_.Words.length:Int))] v0)] [8] [7,8,11,12] fun m0=>?_
  refine Qk fun K0 k1=>?_
  refine Qb [1,2,3,4,5,6,7] ?_
  have⟨e0,h1,h⟩:=bs h
  have J0:∀(p0:List AnyV) (y0:Value),p0=e0→To M w0 132 [(4,tv y0),(3,tv (.string (sB t0)))] [glo,own (rAny 3 9) 20 p0 y0] K0:=by
   intro p0 y0 he;subst he;refine k1 ?_;have⟨t1,h2,h⟩:=bs h;intro a w H;refine sr mx [] H (fun _=>.q 1 rfl<|.q 1 rfl<|.u [0,1] rfl rfl ((Qdy [own (rAny 3 9) 20 p0 y0] QhA (QdG.ok h2) (.cons (.of z1)<|.cons (.own z0 (.head _))<|.nil) (fun _=>Qcd) (fun _=>Qgl (x:=undef))).glo)<|.o (Qi z0)<|.n) fun _ a w H=>?_;have H:=H.to [1,3,4] [_,_,_] [_,_] rfl rfl;refine Q2 H ?_;exact Qu h (·▸Qq hpl)
  refine Qs ?_;refine Qa6 h1 (fun (s0:Int×List AnyV) (y1:Value)=>[(49,tsl rS f_.Words),(50,ti (f_.Words.length:Int)),(51,ti s0.1),(4,tv y1),(3,tv (.string (sB t0))),(1,tptr (Qd.cs f_))]) (fun (s0:Int×List AnyV) (y1:Value)=>[glo,own (rAny 3 9) 20 s0.2 y1]) (m0 7) [0,1,2,4,5,6] ?_;clear h;intro s0 y1 o K1 h ho k2;refine Qb [0,1,2,3,4,5,6] ?_;refine Qk fun _ k3=>?_;refine Qx h (fun _ h=>?_) (fun _ h=>?_)
  ·refine QE ?_;refine k3 ?_;refine Qk fun _ k4=>?_;refine Qs ?_;have⟨t2,_,h⟩:=bs h;refine Qb [3,4,6,7,8,9,10,11] ?_;have⟨t3,_,_,_,h⟩:=bs2 h;refine QaY [v1 10 (fun v0=>own (rAny 3 9) 20 (s0.2++[(AnyV.str t2),(AnyV.int t3)]) v0)] [11] [10,11,14,15,16,17,18] fun m1=>?_;refine k4 ?_;refine Q4 [1,2,3,4,5,6,7] ?_;exact Qae k2 (m1 10) ((sj h).symm) [3,4,0,2,5,6]
  refine Q7 ?_;exact Qae J0 y1 (ho _ (sj h).symm) [4,5]
 refine Qb [1,3,4,5] ?_;refine Qx h (fun _ h=>?_) (fun _ h=>?_)
 ·have⟨_,_,h⟩:=bs h;refine Qb [9] ?_;exact Qu h (·▸Qq hpl)
 refine Qb [1,3,4,5] ?_;refine Qx h (fun _ h=>?_) (fun _ h=>?_)
 ·have⟨_,_,h⟩:=bs h;refine Qb [18] ?_;exact Qu h (·▸Qq hpl)
 refine Qb [1,4,5] ?_;refine Qx h (fun _ h=>?_) (fun _ h=>?_)
 ·have⟨_,_,h⟩:=bs h;refine Qb [12] ?_;exact Qu h (·▸Qq hpl)
 refine QE ?_;refine k0 ?_;have⟨_,_,_,_,h⟩:=bs2 h;refine Qb [16] ?_;exact Qu h (·▸Qq hpl)
def QeP (x_:Qa):Option (Str):=(QaC ([115,99,104,101,109,97]:Str) [(AnyV.int x_.Version)]).bind fun t0=>(Qa3 ([]:Str) t0).bind fun t1=>(Ql (fun (s0:Int×Str)=>((if (decide (s0.1<(x_.Kinds.length:Int)))=true then (idx x_.Kinds s0.1).bind fun t2=>(QaC ([107,105,110,100]:Str) [(AnyV.str t2.Name),(AnyV.int t2.Lo),(AnyV.int t2.Hi)]).bind fun t3=>(Qa3 s0.2 t3).bind fun t4=>(Ql (fun (s1:Int×Str)=>((if (decide (s1.1<(t2.Fields.length:Int)))=true then (idx t2.Fields s1.1).bind fun t5=>(Qfm t5).bind fun t6=>(Qa3 s1.2 t6).bind fun t7=>(some (.inl ((i64.wrap (s1.1+1)),t7))) else (some (.inr s1.2))):Option ((Int×Str)⊕((Str))))) ((0:Int),t4)).bind fun p0=>(some (.inl ((i64.wrap (s0.1+1)),p0))) else (some (.inr s0.2))):Option ((Int×Str)⊕((Str))))) ((0:Int),t1)).bind fun p1=>(Ql (fun (s2:Int×Str)=>((if (decide (s2.1<(x_.Lives.length:Int)))=true then (idx x_.Lives s2.1).bind fun t8=>(Ql (fun (s3:Int×List AnyV)=>((if (decide (s3.1<(t8.States.length:Int)))=true then (idx t8.States s3.1).bind fun t9=>(rm (s3.2.length+[(AnyV.str t9)].length)).bind fun _=>(some (.inl ((i64.wrap (s3.1+1)),(s3.2++[(AnyV.str t9)])))) else (some (.inr s3.2))):Option ((Int×List AnyV)⊕((List AnyV))))) ((0:Int),[(AnyV.str t8.Name),(AnyV.int (t8.States.length:Int))])).bind fun p2=>(QaC ([108,105,102,101]:Str) p2).bind fun t10=>(Qa3 s2.2 t10).bind fun t11=>(Ql (fun (s4:Int×Str)=>((if (decide (s4.1<(t8.Moves.length:Int)))=true then (idx t8.Moves s4.1).bind fun t12=>(QaC ([109,111,118,101]:Str) [(AnyV.int t12.a0),(AnyV.int t12.a1)]).bind fun t13=>(Qa3 s4.2 t13).bind fun t14=>(some (.inl ((i64.wrap (s4.1+1)),t14))) else (some (.inr s4.2))):Option ((Int×Str)⊕((Str))))) ((0:Int),t11)).bind fun p3=>(some (.inl ((i64.wrap (s2.1+1)),p3))) else (some (.inr s2.2))):Option ((Int×Str)⊕((Str))))) ((0:Int),p1)).bind fun p4=>(Ql (fun (s5:Int×Str)=>((if (decide (s5.1<(x_.Rules.length:Int)))=true then (idx x_.Rules s5.1).bind fun t15=>(Qdj t15.A).bind fun t16=>(Qdj t15.B).bind fun t17=>(QaC ([114,117,108,101]:Str) [(AnyV.str t15.Name),(AnyV.str t15.Kind),(AnyV.str t16),(AnyV.str t17),(AnyV.int t15.N)]).bind fun t18=>(Qa3 s5.2 t18).bind fun t19=>(some (.inl ((i64.wrap (s5.1+1)),t19))) else (some (.inr s5.2))):Option ((Int×Str)⊕((Str))))) ((0:Int),p4)).bind fun p5=>(QgL p5).bind fun t20=>(some t20)
instance QyP:SpcS prog 126 (∀{x_:Qa} {r:Str},QeP x_=some r→FnOk prog 126 [Qf.ty x_] [glo] (fun _=>[]) (fun _=>tv (.string (sB r)))):=.mk fun {x_ r} h=>by
 unfold QeP at h
 refine Fe func126 ntmps126 fun M0 M w0 hpl=>?_
 refine Qb [0] ?_
 intro a w H
 refine sr mx [v1 0 (fun v0=>bld ([]:Str) v0 nilV)] H (fun _=>.m [] [1] rfl rfl rfl (Qpa bInfo)<|.n) fun m0 a w H=>?_
 have H:=H.to [0,1] [_,_] [_,_] rfl rfl
 refine Q2 H ?_
 have⟨_,h0,t0,h1,h⟩:=bs2 h
 intro a w H
 refine sr mx [v1 5 (fun v0=>bld t0 (m0 0) v0)] H (fun _=>.o (QO QsT z1)<|.o (QN (u:=x_.Version) tok3 z0 rfl)<|.o (QiK ud3 z0)<|.o (Qah (R:=(rAny 3 9)) (us:=[(AnyV.int x_.Version)]) Qqi QnC (.cons z0<|.nil _) rfl (leb rfl))<|.u [0] rfl rfl ((QG QhA (QdG.ok h0) (.cons (.of .k)<|.cons (.of z0)<|.nil)).glo)<|.e [] [1] [2] rfl rfl rfl rfl (QG Qf8 (QbC h1) (.cons (.of z5)<|.cons (.of z0)<|.nil))<|.n) fun m1 a w H=>?_
 have H:=H.to [6,7] [_,_] [_,_] rfl rfl
 refine Q2 H ?_
 refine Qk fun K0 k0=>?_
 refine Qb [1,2,3,4,5] ?_
 have⟨e0,h2,h⟩:=bs h
 have J0:∀(p0:Str) (y0:Value),p0=e0→To M w0 132 [(3,tv (m0 0)),(1,tptr (Qf.cs x_))] [glo,bld p0 (m0 0) y0] K0:=by
  intro p0 y0 he;subst he;refine k0 ?_;refine Qk fun K1 k1=>?_;refine Qb [1,2,3,4,5] ?_;have⟨e1,h3,h⟩:=bs h;have J1:∀(p1:Str) (y1:Value),p1=e1→To M w0 132 [(3,tv (m0 0)),(1,tptr (Qf.cs x_))] [glo,bld p1 (m0 0) y1] K1:=by
   intro p1 y1 he;subst he;refine k1 ?_;refine Qk fun K2 k2=>?_;refine Qb [1,2,3,4] ?_;have⟨e2,h4,h⟩:=bs h;have J2:∀(p2:Str) (y2:Value),p2=e2→To M w0 132 [(3,tv (m0 0))] [glo,bld p2 (m0 0) y2] K2:=by
    intro p2 y2 he;subst he;refine k2 ?_;have⟨t1,h5,h⟩:=bs h;intro a w H;refine sr mx [] H (fun _=>.e [] [1] [] rfl rfl rfl rfl (QG Qth (QnL h5) (.cons (.of z0)<|.nil))<|.o (Qi z0)<|.n) fun _ a w H=>?_;have H:=H.t1_1 [1];refine Q2 H ?_;exact Qu h (·▸Qq hpl)
   refine Qs ?_;refine Qa6 h4 (fun (s0:Int×Str) (y3:Value)=>[(104,tsl QF x_.Rules),(105,ti (x_.Rules.length:Int)),(106,ti s0.1),(3,tv (m0 0))]) (fun (s0:Int×Str) (y3:Value)=>[glo,bld s0.2 (m0 0) y3]) y1 [0,1,2,3] ?_;clear h;intro s0 y3 o K3 h ho k3;refine Qb [0,1,2,3,4] ?_;refine Qk fun _ k4=>?_;refine Qx h (fun _ h=>?_) (fun _ h=>?_)
   ·refine QE ?_;refine k4 ?_;refine Qk fun _ k5=>?_;refine Qs ?_;have⟨t2,_,h⟩:=bs h;refine QV [v1 2 (fun v0=>box (QF.cs zz3) v0),v1 2 (fun v0=>box (QF.cs t2) v0)] [3,4] [2,4,5,6,7] fun m2=>?_;refine Qaa (fun _ _ H=>(((H.selA [2,0,1] rfl).shareB 0 rfl).add 0 rfl (fun _ _ _ h=>h.2)).pick [0,3,4,5,6]) ?_;have⟨t3,h6,t4,h7,_,h8,t5,h9,h⟩:=bs4 h;intro a w H;refine wr mx [v1 19 (fun v0=>bld t5 (m0 0) v0)] H (fun _=>.o (QO Qku z0)<|.o (QN (u:=t2.Name) tok9 z0 rfl)<|.o (QjH ud9 z0)<|.o (QO QqS z3)<|.o (QN (u:=t2.Kind) tok9 z0 rfl)<|.o (QjH ud9 z0)<|.o (QO QmT z6)<|.o (QN (u:=t2.A) tok9 z0 rfl)<|.o (QG QoC (Qje.ok h6) (.cons (.of z0)<|.nil))<|.o (QjH ud9 z0)<|.o (QO QmU z10)<|.o (QN (u:=t2.B) tok9 z0 rfl)<|.o (QG QoC (Qje.ok h7) (.cons (.of z0)<|.nil))<|.o (QjH ud9 z0)<|.o (QO QmV z14)<|.o (QN (u:=t2.N) tok3 z0 rfl)<|.o (QiK ud3 z0)<|.o (Qah (R:=(rAny 3 9)) (us:=[(AnyV.str t2.Name),(AnyV.str t2.Kind),(AnyV.str t3),(AnyV.str t4),(AnyV.int t2.N)]) Qqi QnC (.cons z14<|.cons z11<|.cons z7<|.cons z3<|.cons z0<|.nil _) rfl (leb rfl))<|.u [0] rfl rfl ((QG QhA (QdG.ok h8) (.cons (.of .k)<|.cons (.of z0)<|.nil)).glo)<|.e [] [1] [2] rfl rfl rfl rfl (QG Qf8 (QbC h9) (.cons (.of z23)<|.cons (.of z0)<|.nil))<|.n) fun m3 a w H=>?_;have H:=H.t4_2 [21,22,23,24];refine QbD H ?_;refine k5 ?_;refine Q4 [1,2,3,4] ?_;exact Qae k3 (m3 19) ((sj h).symm) [1,2,0,3]
   refine Q7 ?_;exact Qae J2 y3 (ho _ (sj h).symm) [4]
  refine Qs ?_;refine Qa6 h3 (fun (s1:Int×Str) (y4:Value)=>[(55,tsl QI x_.Lives),(56,ti (x_.Lives.length:Int)),(57,ti s1.1),(3,tv (m0 0)),(1,tptr (Qf.cs x_))]) (fun (s1:Int×Str) (y4:Value)=>[glo,bld s1.2 (m0 0) y4]) y0 [0,1,2,3,4] ?_;clear h;intro s1 y4 o K4 h ho k6;refine Qb [0,1,2,3,4,5] ?_;refine Qk fun _ k7=>?_;refine Qx h (fun _ h=>?_) (fun _ h=>?_)
  ·refine QE ?_;refine k7 ?_;refine Qk fun K5 k8=>?_;refine Qs ?_;have⟨t6,_,h⟩:=bs h;refine QV [v1 2 (fun v0=>box (QI.cs zz2) v0),v1 2 (fun v0=>box (QI.cs t6) v0)] [3,4] [2,4,5,6,7,8] fun m4=>?_;refine Qaa (fun _ _ H=>(((H.selA [2,0,1] rfl).shareB 0 rfl).add 0 rfl (fun _ _ _ h=>h.2)).pick [0,3,4,5,6,7]) ?_;refine QV [v1 7 (fun v0=>own (rAny 3 9) 20 [(AnyV.str t6.Name),(AnyV.int (t6.States.length:Int))] v0)] [8] [7,8,9,10,11,12,13,14] fun m5=>?_;refine Qk fun K6 k9=>?_;refine Qb [1,2,3,4,5,6,7,8,9,10,11] ?_;have⟨e3,h10,h⟩:=bs h;have J3:∀(p3:List AnyV) (y5:Value),p3=e3→To M w0 132 [(10,tv y5),(9,tptr (QI.cs t6)),(55,tsl QI x_.Lives),(56,ti (x_.Lives.length:Int)),(57,ti s1.1),(3,tv (m0 0)),(1,tptr (Qf.cs x_))] [glo,bld s1.2 (m0 0) y4,own (rAny 3 9) 20 p3 y5] K6:=by
    intro p3 y5 he;subst he;refine k9 ?_;have⟨_,h11,t7,h12,h⟩:=bs2 h;intro a w H;refine sr mx [v1 2 (fun v0=>bld t7 (m0 0) v0)] H (fun _=>.q 0 rfl<|.u [0,2] rfl rfl ((Qdy [own (rAny 3 9) 20 p3 y5] QhA (QdG.ok h11) (.cons (.of .k)<|.cons (.own z0 (.head _))<|.nil) (fun _=>Qcd) (fun _=>Qgl (x:=undef))).glo)<|.e [] [1] [3] rfl rfl rfl rfl (QG Qf8 (QbC h12) (.cons (.of z7)<|.cons (.of z0)<|.nil))<|.n) fun m6 a w H=>?_;have H:=H.to [0,3,4,5,6,7,8,9] [_,_,_,_,_,_,_,_] [_,_,_] rfl rfl;refine Q2 H ?_;refine Qb [1,2,3,4,5,7,8,9,10,11] ?_;have⟨e4,h13,h⟩:=bs h;have J4:∀(p4:Str) (y6:Value),p4=e4→To M w0 132 [(55,tsl QI x_.Lives),(56,ti (x_.Lives.length:Int)),(57,ti s1.1),(3,tv (m0 0)),(1,tptr (Qf.cs x_))] [glo,bld p4 (m0 0) y6] K5:=by
     intro p4 y6 he;subst he;refine k8 ?_;refine Q4 [1,2,3,4,5] ?_;exact Qae k6 y6 ((sj h).symm) [1,2,0,3,4]
    refine Qs ?_;refine Qaa (fun _ _ H=>(H.pick [0,1,2,5,6,7,8,9]).selA [0,2] rfl) ?_;refine Qa6 h13 (fun (s2:Int×Str) (y7:Value)=>[(86,tsl Qal t6.Moves),(87,ti (t6.Moves.length:Int)),(88,ti s2.1),(55,tsl QI x_.Lives),(56,ti (x_.Lives.length:Int)),(57,ti s1.1),(3,tv (m0 0)),(1,tptr (Qf.cs x_))]) (fun (s2:Int×Str) (y7:Value)=>[glo,bld s2.2 (m0 0) y7]) (m6 2) [0,1,2,3,4,5,6,7] ?_;clear h;intro s2 y7 o K7 h ho k10;refine Qb [0,1,2,3,4,5,6,7,8] ?_;refine Qk fun _ k11=>?_;refine Qx h (fun _ h=>?_) (fun _ h=>?_)
    ·refine QE ?_;refine k11 ?_;refine Qk fun _ k12=>?_;refine Qs ?_;have⟨t8,_,h⟩:=bs h;refine QV [v1 2 (fun v0=>box (Qal.cs (QK.mk (0:Int) (0:Int))) v0),v1 2 (fun v0=>box (Qal.cs t8) v0)] [3,4] [2,4,5,6,7,8,9,10,11] fun m7=>?_;refine Qaa (fun _ _ H=>(((H.selA [2,0,1] rfl).shareB 0 rfl).add 0 rfl (fun _ _ _ h=>h.2)).pick [0,3,4,5,6,7,8,9,10]) ?_;have⟨_,h14,t9,h15,h⟩:=bs2 h;intro a w H;refine wr mx [v1 8 (fun v0=>bld t9 (m0 0) v0)] H (fun _=>.o (QjG 0 rfl Qqg tok3 z0 .k (by decide))<|.o (QN (u:=t8.a0) tok3 z0 rfl)<|.o (QiK ud3 z0)<|.o (QjG 1 rfl Qqg tok3 z3 .k (by decide))<|.o (QN (u:=t8.a1) tok3 z0 rfl)<|.o (QiK ud3 z0)<|.o (Qah (R:=(rAny 3 9)) (us:=[(AnyV.int t8.a0),(AnyV.int t8.a1)]) Qqi QnC (.cons z3<|.cons z0<|.nil _) rfl (leb rfl))<|.u [0] rfl rfl ((QG QhA (QdG.ok h14) (.cons (.of .k)<|.cons (.of z0)<|.nil)).glo)<|.e [] [1] [2] rfl rfl rfl rfl (QG Qf8 (QbC h15) (.cons (.of z15)<|.cons (.of z0)<|.nil))<|.n) fun m8 a w H=>?_;have H:=H.to [10,11,12,13,14,15,16,17] [_,_,_,_,_,_,_,_] [_,_] rfl rfl;refine QbD H ?_;refine k12 ?_;refine Q4 [1,2,3,4,5,6,7,8] ?_;exact Qae k10 (m8 8) ((sj h).symm) [1,2,0,3,4,5,6,7]
    refine Q7 ?_;exact Qae J4 y7 (ho _ (sj h).symm) [4,5,6,7,8]
   refine Qs ?_;refine Qa6 h10 (fun (s3:Int×List AnyV) (y8:Value)=>[(70,tsl rS t6.States),(71,ti (t6.States.length:Int)),(72,ti s3.1),(10,tv y8),(9,tptr (QI.cs t6)),(55,tsl QI x_.Lives),(56,ti (x_.Lives.length:Int)),(57,ti s1.1),(3,tv (m0 0)),(1,tptr (Qf.cs x_))]) (fun (s3:Int×List AnyV) (y8:Value)=>[glo,bld s1.2 (m0 0) y4,own (rAny 3 9) 20 s3.2 y8]) (m5 7) [0,1,2,4,5,6,7,8,9,10] ?_;clear h;intro s3 y8 o K8 h ho k13;refine Qb [0,1,2,3,4,5,6,7,8,9,10] ?_;refine Qk fun _ k14=>?_;refine Qx h (fun _ h=>?_) (fun _ h=>?_)
   ·refine QE ?_;refine k14 ?_;refine Qk fun _ k15=>?_;refine Qs ?_;have⟨t10,_,h⟩:=bs h;refine Qb [2,4,5,6,7,8,9,10,11,12,13] ?_;have⟨_,_,h⟩:=bs h;refine QaY [v1 4 (fun v0=>own (rAny 3 9) 20 (s3.2++[(AnyV.str t10)]) v0)] [5] [4,5,7,8,9,10,11,12,13,14,15] fun m9=>?_;refine k15 ?_;refine Q4 [1,2,3,4,5,6,7,8,9,10,11] ?_;exact Qae k13 (m9 4) ((sj h).symm) [3,4,0,2,5,6,7,8,9,10]
   refine Q7 ?_;exact Qae J3 y8 (ho _ (sj h).symm) [4,5,6,7,8,9,10]
  refine Q7 ?_;exact Qae J1 y4 (ho _ (sj h).symm) [4,5]
 refine Qs ?_;refine Qa6 h2 (fun (s4:Int×Str) (y9:Value)=>[(24,tsl Qh x_.Kinds),(25,ti (x_.Kinds.length:Int)),(26,ti s4.1),(3,tv (m0 0)),(1,tptr (Qf.cs x_))]) (fun (s4:Int×Str) (y9:Value)=>[glo,bld s4.2 (m0 0) y9]) (m1 5) [0,1,2,3,4] ?_;clear h;intro s4 y9 o K9 h ho k16;refine Qb [0,1,2,3,4,5] ?_;refine Qk fun _ k17=>?_;refine Qx h (fun _ h=>?_) (fun _ h=>?_)
 ·refine QE ?_;refine k17 ?_;refine Qk fun K10 k18=>?_;refine Qs ?_;have⟨t11,_,h⟩:=bs h;refine QV [v1 2 (fun v0=>box (Qh.cs zz1) v0),v1 2 (fun v0=>box (Qh.cs t11) v0)] [3,4] [2,4,5,6,7,8] fun m10=>?_;refine Qaa (fun _ _ H=>(((H.selA [2,0,1] rfl).shareB 0 rfl).add 0 rfl (fun _ _ _ h=>h.2)).pick [0,3,4,5,6,7]) ?_;have⟨_,h16,t12,h17,h⟩:=bs2 h;intro a w H;refine sr mx [v1 11 (fun v0=>bld t12 (m0 0) v0)] H (fun _=>.o (QO Qhw z0)<|.o (QN (u:=t11.Name) tok9 z0 rfl)<|.o (QjH ud9 z0)<|.o (QO Qot z3)<|.o (QN (u:=t11.Lo) tok3 z0 rfl)<|.o (QiK ud3 z0)<|.o (QO Qou z6)<|.o (QN (u:=t11.Hi) tok3 z0 rfl)<|.o (QiK ud3 z0)<|.o (Qah (R:=(rAny 3 9)) (us:=[(AnyV.str t11.Name),(AnyV.int t11.Lo),(AnyV.int t11.Hi)]) Qqi QnC (.cons z6<|.cons z3<|.cons z0<|.nil _) rfl (leb rfl))<|.u [0] rfl rfl ((QG QhA (QdG.ok h16) (.cons (.of .k)<|.cons (.of z0)<|.nil)).glo)<|.e [] [1] [2] rfl rfl rfl rfl (QG Qf8 (QbC h17) (.cons (.of z15)<|.cons (.of z0)<|.nil))<|.n) fun m11 a w H=>?_;have H:=H.t6_2 [12,13,14,15,16,17];refine Q2 H ?_;refine Qb [1,2,3,5,6,7,8,9] ?_;have⟨e5,h18,h⟩:=bs h;have J5:∀(p5:Str) (y10:Value),p5=e5→To M w0 132 [(24,tsl Qh x_.Kinds),(25,ti (x_.Kinds.length:Int)),(26,ti s4.1),(3,tv (m0 0)),(1,tptr (Qf.cs x_))] [glo,bld p5 (m0 0) y10] K10:=by
   intro p5 y10 he;subst he;refine k18 ?_;refine Q4 [1,2,3,4,5] ?_;exact Qae k16 y10 ((sj h).symm) [1,2,0,3,4]
  refine Qs ?_;refine Qa6 h18 (fun (s5:Int×Str) (y11:Value)=>[(43,tsl Qd t11.Fields),(44,ti (t11.Fields.length:Int)),(45,ti s5.1),(24,tsl Qh x_.Kinds),(25,ti (x_.Kinds.length:Int)),(26,ti s4.1),(3,tv (m0 0)),(1,tptr (Qf.cs x_))]) (fun (s5:Int×Str) (y11:Value)=>[glo,bld s5.2 (m0 0) y11]) (m11 11) [0,1,2,3,4,5,6,7] ?_;clear h;intro s5 y11 o K11 h ho k19;refine Qb [0,1,2,3,4,5,6,7,8] ?_;refine Qk fun _ k20=>?_;refine Qx h (fun _ h=>?_) (fun _ h=>?_)
  ·refine QE ?_;refine k20 ?_;refine Qk fun _ k21=>?_;refine Qs ?_;have⟨t13,_,h⟩:=bs h;refine QV [v1 2 (fun v0=>box (Qd.cs zz0) v0),v1 2 (fun v0=>box (Qd.cs t13) v0)] [3,4] [2,4,5,6,7,8,9,10,11] fun m12=>?_;refine Qaa (fun _ _ H=>(((H.selA [2,0,1] rfl).shareB 0 rfl).add 0 rfl (fun _ _ _ h=>h.2)).pick [0,3,4,5,6,7,8,9,10]) ?_;have⟨_,h19,t14,h20,h⟩:=bs2 h;intro a w H;refine wr mx [v1 2 (fun v0=>bld t14 (m0 0) v0)] H (fun _=>.o (QU QaW z0)<|.u [0] rfl rfl ((QG Qs4 (QnO.ok h19) (.cons (.of z0)<|.nil)).glo)<|.e [] [1] [2] rfl rfl rfl rfl (QG Qf8 (QbC h20) (.cons (.of z9)<|.cons (.of z0)<|.nil))<|.n) fun m13 a w H=>?_;have H:=H.to [4,5,6,7,8,9,10,11] [_,_,_,_,_,_,_,_] [_,_] rfl rfl;refine QbD H ?_;refine k21 ?_;refine Q4 [1,2,3,4,5,6,7,8] ?_;exact Qae k19 (m13 2) ((sj h).symm) [1,2,0,3,4,5,6,7]
  refine Q7 ?_;exact Qae J5 y11 (ho _ (sj h).symm) [4,5,6,7,8]
 refine Q7 ?_;exact Qae J0 y9 (ho _ (sj h).symm) [4,5]
def Qfn (x_:Qa):Option (Int):=(Qbl x_.Version (0:Int) (1048576:Int)).bind fun t0=>(opt (((((!t0)||(decide ((x_.Kinds.length:Int)>6)))||(decide ((x_.Lives.length:Int)>6)))||(decide ((x_.Rules.length:Int)>16)))==false) (QdK x_.Kinds (fun x0=>QeM x0)) default).bind fun t1=>(opt ((((((!t0)||(decide ((x_.Kinds.length:Int)>6)))||(decide ((x_.Lives.length:Int)>6)))||(decide ((x_.Rules.length:Int)>16)))||(!t1))==false) (QdM x_.Lives (fun x0=>QeN x0)) default).bind fun t2=>(opt (((((((!t0)||(decide ((x_.Kinds.length:Int)>6)))||(decide ((x_.Lives.length:Int)>6)))||(decide ((x_.Rules.length:Int)>16)))||(!t1))||(!t2))==false) (QdO x_.Rules (fun x0=>QeO x0)) default).bind fun t3=>(if (((((((!t0)||(decide ((x_.Kinds.length:Int)>6)))||(decide ((x_.Lives.length:Int)>6)))||(decide ((x_.Rules.length:Int)>16)))||(!t1))||(!t2))||(!t3))=true then (some (1:Int)) else (QeP x_).bind fun t4=>(if (decide ((t4.length:Int)>8192))=true then (some (4:Int)) else (some (0:Int))))
instance QzQ:SpcS prog 77 (∀{x_:Qa} {r:Int},Qfn x_=some r→FnOk prog 77 [Qf.ty x_] [glo] (fun _=>[]) (fun _=>ti r)):=.mk fun {x_ r} h=>by
 unfold Qfn at h
 refine Fe func77 ntmps77 fun M0 M w0 hpl=>?_
 refine Qb [0] ?_
 refine Qk fun _ k0=>?_
 refine Qs ?_
 have⟨_,_,_,_,_,_,_,_,h⟩:=bs4 h
 refine Qb [40,41] ?_
 refine Qx h (fun _ h=>?_) (fun _ h=>?_)
 ·refine Qb [0] ?_
  exact Qu h (·▸Qq hpl)
 have⟨_,_,h⟩:=bs h
 refine Qb [4] ?_
 refine Qx h (fun _ h=>?_) (fun _ h=>?_)
 ·refine Qb [0] ?_
  exact Qu h (·▸Qq hpl)
 refine QE ?_
 refine k0 ?_
 refine Qb [0] ?_
 exact Qu h (·▸Qq hpl)
def Qb9 (kind_:Int) (field_:Int) (rule_:Int) (e_:Int) (c0_:(List Qv)):Option ((List Qv)):=((if (e_ !=0)=true then (rm (c0_.length+[(Qv.mk kind_ field_ rule_ e_)].length)).bind fun _=>(some (c0_++[(Qv.mk kind_ field_ rule_ e_)])) else (some c0_))).bind fun p0=>(some p0)
instance Qey:SpcS prog 78 (∀{q4:Value} {vh4:Value} {kind_:Int} {field_:Int} {rule_:Int} {e_:Int} {c0_:(List Qv)} {r:(List Qv)},Qb9 kind_ field_ rule_ e_ c0_=some r→FnOk prog 78 [ti kind_,ti field_,ti rule_,ti e_,tv q4] [box (rVal.cs vh4) q4,own QZ 149 c0_ vh4] (fun v=>[box (rVal.cs v) q4,own QZ 149 r v]) (fun _=>ttup [])):=.mk fun {q4 vh4 kind_ field_ rule_ e_ c0_ r} h=>by
 unfold Qb9 at h
 refine Fe func78 ntmps78 fun M0 M w0 hpl=>?_
 refine Qb [1,2,3,4,5,6] ?_
 have⟨p0,h0,h⟩:=bs h
 have J0:∀(y0:Value),To M w0 19 [(4,tv q4)] [own QZ 149 p0 y0,box (rVal.cs y0) q4] (Ret prog f78 M0 [box (rVal.cs vh4) q4,own QZ 149 c0_ vh4] w0 (fun v=>[box (rVal.cs v) q4,own QZ 149 r v]) (fun _=>ttup []) .normal):=by
  intro y0;obtain rfl:=sj h;exact Quo y0 [1,0] hpl
 replace h:=h0;clear h0;refine Qx h (fun _ h=>?_) (fun _ h=>?_)
 ·have⟨_,_,h⟩:=bs h;refine QaY [v1 7 (fun v0=>own QZ 149 (c0_++[(Qv.mk kind_ field_ rule_ e_)]) v0),v1 7 (fun v0=>box (rVal.cs v0) q4)] [8,9] [7,13] fun m0=>?_;obtain rfl:=sj h;exact Q3 (J0 (m0 7)) [1]
 refine QE ?_;obtain rfl:=sj h;refine Qar (fun _ _ H=>(H.pick [5]).selA [1,0] rfl) ?_;exact Q3 (J0 vh4) [0]
def QfC (m_:QB) (c0_:QB):Option (Bool):=(some (m_.Name==c0_.Name))
instance QxO:Spc2 prog 80 QfC (fun m_ c0_=>[QI.ty m_,tptr (QI.cs c0_)]) tb:=.mk fun {m_ c0_ r} h=>by
 unfold QfC at h
 refine Fe func80 ntmps80 fun M0 M w0 hpl=>?_
 refine Qb [0,3] ?_
 refine Qb [5] ?_
 exact Qu h (·▸Qq hpl)
def Qaw (l_:(List Q6)):Option (Int):=(Ql (fun (s0:Int)=>((if (decide (s0<(l_.length:Int)))=true then (idx l_ s0).bind fun t0=>(if t0.is=true then (some (.inr (.inr t0.code))) else (some (.inl (i64.wrap (s0+1))))) else (some (.inr (.inl ())))):Option ((Int)⊕((Unit)⊕(Int))))) (0:Int)).bind fun e0=>(match e0 with | .inl _=>(some (0:Int)) | .inr p0=>(some p0))
instance QnP:Spc1 prog 81 Qaw (fun l_=>[tsl Qa2 l_]) ti:=.mk fun {l_ r} h=>by
 unfold Qaw at h
 refine Fe func81 ntmps81 fun M0 M w0 hpl=>?_
 refine Qb [1] ?_
 refine Qk fun K0 k0=>?_
 refine Qb [0,1,2] ?_
 have⟨e0,h0,h⟩:=bs h
 have J0:∀(p0:Unit),(.inl p0)=e0→To M w0 16 [] [] K0:=by
  intro p0 he;subst he;simp only at h;refine k0 ?_;refine Qb [0] ?_;exact Qu h (·▸Qq hpl)
 have J1:∀(p1:Int),(.inr p1)=e0→To M w0 16 [(2,ti p1)] [] (Ret prog f81 M0 [] w0 (fun _=>[]) (fun _=>ti r) .ret):=by
  intro p1 he;subst he;simp only at h;obtain rfl:=sj h;exact Qq hpl
 refine Qs ?_;refine QaK h0 (fun (s0:Int)=>[(5,tsl Qa2 l_),(6,ti (l_.length:Int)),(7,ti s0)]) (fun (s0:Int)=>[]) [0,1,2] ?_;clear h;intro s0 o K1 h ho k1;refine Qb [0,1,2,3] ?_;refine Qk fun _ k2=>?_;refine Qx h (fun _ h=>?_) (fun _ h=>?_)
 ·refine QE ?_;refine k2 ?_;refine Qk fun _ k3=>?_;refine Qs ?_;have⟨t0,_,h⟩:=bs h;refine QV [v1 2 (fun v0=>box (Qa2.cs (Q6.mk false (0:Int))) v0),v1 2 (fun v0=>box (Qa2.cs t0) v0)] [3,4] [2,4,5,6] fun m0=>?_;refine Qaa (fun _ _ H=>((H.shareB 0 rfl).add 0 rfl (fun _ _ _ h=>h.2)).pick [0,3,4,5]) ?_;refine Qb [1,2,3,4,5] ?_;refine Qx h (fun _ h=>?_) (fun _ h=>?_)
  ·refine Qb [2] ?_;refine QaV ?_;exact QM J1 (ho _ (sj h).symm) [0]
  refine QE ?_;refine k3 ?_;refine Q4 [1,4,5] ?_;exact QM k1 ((sj h).symm) [1,2,0]
 refine Q7 ?_;exact QM J0 (ho _ (sj h).symm) []
def Qga (k_:Qg) (c0_:Str):Option (Bool):=(some (k_.Name==c0_))
instance QyQ:Spc2 prog 157 Qga (fun k_ c0_=>[Qh.ty k_,tptr (rS.cs c0_)]) tb:=.mk fun {k_ c0_ r} h=>by
 unfold Qga at h
 refine Fe func157 ntmps157 fun M0 M w0 hpl=>?_
 refine Qb [0,3] ?_
 refine Qb [4] ?_
 exact Qu h (·▸Qq hpl)
def QbR (x_:Qa) (name_:Str):Option (Int):=(Qbx x_.Kinds (fun x0=>Qga x0 name_)).bind fun t0=>(some t0)
instance QjL:Spc2 prog 111 QbR (fun x_ name_=>[Qf.ty x_,tv (.string (sB name_))]) ti:=.mk fun {x_ name_ r} h=>by
 unfold QbR at h
 refine Fe func111 ntmps111 fun M0 M w0 hpl=>?_
 refine Qb [0,1] ?_
 have⟨_,_,h⟩:=bs h
 refine Qb [4] ?_
 exact Qu h (·▸Qq hpl)
def QfR (x_:Qa) (i_:Int):Option (Int):=(idx x_.Kinds i_).bind fun t0=>(QbR x_ t0.Name).bind fun t1=>(opt (((t0.Fields.length:Int)==0)==false) (idx t0.Fields (0:Int)) default).bind fun t2=>(Qaw [(Q6.mk (decide (t1<i_)) (7:Int)),(Q6.mk (((t0.Fields.length:Int)==0)||(t2.Kind !=0)) (11:Int))]).bind fun t3=>(some t3)
instance QoF:Spc2 prog 82 QfR (fun x_ i_=>[Qf.ty x_,ti i_]) ti:=.mk fun {x_ i_ r} h=>by
 unfold QfR at h
 refine Fe func82 ntmps82 fun M0 M w0 hpl=>?_
 refine Qb [0,3] ?_
 have⟨t0,_,h⟩:=bs h
 refine QV [v1 5 (fun v0=>box (Qh.cs zz1) v0),v1 5 (fun v0=>box (Qh.cs t0) v0)] [6,7] [5,6,7] fun m0=>?_
 refine Qaa (fun _ _ H=>((H.shareB 0 rfl).add 0 rfl (fun _ _ _ h=>h.2)).pick [0,3,4]) ?_
 have⟨_,_,_,_,_,_,h⟩:=bs3 h
 refine Qb [22] ?_
 exact Qu h (·▸Qq hpl)
def QfD (f_:Qc) (c0_:Str):Option (Bool):=(some (f_.Name==c0_))
instance QxP:Spc2 prog 129 QfD (fun f_ c0_=>[Qd.ty f_,tptr (rS.cs c0_)]) tb:=.mk fun {f_ c0_ r} h=>by
 unfold QfD at h
 refine Fe func129 ntmps129 fun M0 M w0 hpl=>?_
 refine Qb [0,3] ?_
 refine Qb [4] ?_
 exact Qu h (·▸Qq hpl)
def Qbw (k_:Qg) (name_:Str):Option (Int):=(Qbs k_.Fields (fun x0=>QfD x0 name_)).bind fun t0=>(some t0)
instance QnQ:Spc2 prog 83 Qbw (fun k_ name_=>[Qh.ty k_,tv (.string (sB name_))]) ti:=.mk fun {k_ name_ r} h=>by
 unfold Qbw at h
 refine Fe func83 ntmps83 fun M0 M w0 hpl=>?_
 refine Qb [0,1] ?_
 have⟨_,_,h⟩:=bs h
 refine Qb [4] ?_
 exact Qu h (·▸Qq hpl)
def Qgb (s_:Qo) (c0_:Qo):Option (Bool):=(some (s_.Name==c0_.Name))
instance QyR:Spc2 prog 131 Qgb (fun s_ c0_=>[QF.ty s_,tptr (QF.cs c0_)]) tb:=.mk fun {s_ c0_ r} h=>by
 unfold Qgb at h
 refine Fe func131 ntmps131 fun M0 M w0 hpl=>?_
 refine Qb [0,3] ?_
 refine Qb [5] ?_
 exact Qu h (·▸Qq hpl)
def Qc4 (x_:Qa) (kind_:Int) (field_:Int):Option (Qc×Bool):=(opt ((((decide (kind_<0))||(decide (kind_≥(x_.Kinds.length:Int))))||(decide (field_<0)))==false) (idx x_.Kinds kind_) default).bind fun t0=>(if ((((decide (kind_<0))||(decide (kind_≥(x_.Kinds.length:Int))))||(decide (field_<0)))||(decide (field_≥(t0.Fields.length:Int))))=true then (some (zz0,false)) else (idx x_.Kinds kind_).bind fun t1=>(idx t1.Fields field_).bind fun t2=>(some (t2,true)))
instance Qlp:Spc3 prog 132 Qc4 (fun x_ kind_ field_=>[Qf.ty x_,ti kind_,ti field_]) (fun r=>ttup [Qd.ty r.1,tb r.2]):=.mk fun {x_ kind_ field_ r} h=>by
 unfold Qc4 at h
 refine Fe func132 ntmps132 fun M0 M w0 hpl=>?_
 refine QV [v1 1 (fun v0=>box (Qd.cs zz0) v0)] [2] [0,1,4,5] fun m0=>?_
 have⟨_,_,h⟩:=bs h
 refine tIfs h [23,24,25,26,27] (fun _ h=>?_) (fun _ h=>?_)
 ·refine QV [v0 (box (Qd.cs zz0) (m0 1))] [2] [1,4] fun m1=>?_
  exact Qu h (·▸Qq hpl)
 have⟨_,_,t0,_,h⟩:=bs2 h
 refine QV [v0 (box (Qd.cs t0) (m0 1))] [10] [9,12] fun m2=>?_
 exact Qu h (·▸Qq hpl)
def QfS (x_:Qa) (i_:Int):Option (Int):=(idx x_.Rules i_).bind fun t0=>(sub x_.Rules (0:Int) i_).bind fun t1=>(Qbb t1 (fun x0=>Qgb x0 t0)).bind fun t2=>(QbR x_ t0.Kind).bind fun t3=>(Ql (fun (s0:Int×Bool×Bool)=>((if (decide (s0.1<([t0.A,t0.B].length:Int)))=true then ((idx [t0.A,t0.B] s0.1).bind fun t4=>(if ((t4==([]:Str))||(decide (t3<0)))=true then (some (s0.2.1,s0.2.2)) else (idx x_.Kinds t3).bind fun t5=>(Qbw t5 t4).bind fun t6=>(Qc4 x_ t3 t6).bind fun t7=>(some ((s0.2.1||(!t7.2)),(s0.2.2||(((t7.1).Kind !=2)&&((t7.1).Kind !=4))))))).bind fun p0=>(some (.inl ((i64.wrap (s0.1+1)),p0.1,p0.2))) else (some (.inr (s0.2.1,s0.2.2)))):Option ((Int×Bool×Bool)⊕((Bool×Bool))))) ((0:Int),(decide (t3<0)),false)).bind fun p1=>(Qaw [(Q6.mk t2 (7:Int)),(Q6.mk p1.1 (12:Int)),(Q6.mk p1.2 (13:Int)),(Q6.mk (t0.A==t0.B) (1:Int))]).bind fun t8=>(some t8)
instance QoG:Spc2 prog 84 QfS (fun x_ i_=>[Qf.ty x_,ti i_]) ti:=.mk fun {x_ i_ r} h=>by
 unfold QfS at h
 refine Fe func84 ntmps84 fun M0 M w0 hpl=>?_
 refine Qb [0,3] ?_
 have⟨t0,_,h⟩:=bs h
 refine QV [v1 5 (fun v0=>box (QF.cs zz3) v0),v1 5 (fun v0=>box (QF.cs t0) v0)] [6,7] [5,6,7] fun m0=>?_
 refine Qaa (fun _ _ H=>((H.shareB 0 rfl).add 0 rfl (fun _ _ _ h=>h.2)).pick [0,3,4]) ?_
 have⟨_,_,t1,_,h⟩:=bs2 h
 refine Qb [6,7,8] ?_
 have⟨t2,_,h⟩:=bs h
 refine Qb [4,5,6,7] ?_
 refine Qb [2,3,4,5,6,7] ?_
 refine Qk fun K0 k0=>?_
 refine Qb [4,5,6,7,8,9,10,11,12] ?_
 have⟨e0,h0,h⟩:=bs h
 have J0:∀(p0:Bool×Bool),p0=e0→To M w0 91 [(8,tb p0.1),(9,tb p0.2),(6,tb t1),(5,tptr (QF.cs t0))] [] K0:=by
  intro p0 he;subst he;refine k0 ?_;have⟨_,_,h⟩:=bs h;refine Qb [14] ?_;exact Qu h (·▸Qq hpl)
 refine Qs ?_;refine QaK h0 (fun (s0:Int×Bool×Bool)=>[(35,tsl rS [t0.A,t0.B]),(36,ti ([t0.A,t0.B].length:Int)),(37,ti s0.1),(8,tb s0.2.1),(9,tb s0.2.2),(7,ti t2),(6,tb t1),(5,tptr (QF.cs t0)),(2,tptr (Qf.cs x_))]) (fun (s0:Int×Bool×Bool)=>[]) [0,1,2,3,4,5,6,7,8] ?_;clear h;intro s0 o K1 h ho k1;refine Qb [0,1,2,3,4,5,6,7,8,9] ?_;refine Qk fun _ k2=>?_;refine Qx h (fun _ h=>?_) (fun _ h=>?_)
 ·refine QE ?_;refine k2 ?_;refine Qk fun K2 k3=>?_;have⟨p1,h1,h⟩:=bs h;have J1:To M w0 91 [(35,tsl rS [t0.A,t0.B]),(36,ti ([t0.A,t0.B].length:Int)),(37,ti s0.1),(8,tb p1.1),(9,tb p1.2),(7,ti t2),(6,tb t1),(5,tptr (QF.cs t0)),(2,tptr (Qf.cs x_))] [] K2:=by
   refine k3 ?_;refine Q4 [1,2,3,4,5,6,7,8,9] ?_;exact QM k1 ((sj h).symm) [1,2,0,3,4,5,6,7,8]
  replace h:=h1;clear h1;refine Qs ?_;have⟨_,_,h⟩:=bs h;refine Qb [2,4,5,6,7,8,9,10,11,12] ?_;refine tIfs h [5,6,7,8,9,10,11,12,13,14,15] (fun _ h=>?_) (fun _ h=>?_)
  ·refine Q7 ?_;obtain rfl:=sj h;exact Q3 J1 [2,3,4,5,6,7,8,9,10]
  have⟨_,_,_,_,t3,_,h⟩:=bs3 h;refine QV [v1 13 (fun v0=>box (Qd.cs zz0) v0),v1 13 (fun v0=>box (Qd.cs t3.1) v0)] [14,15] [13,14,17,18,19,20,21,22,23,24,25] fun m1=>?_;refine Qaa (fun _ _ H=>((H.shareB 0 rfl).add 0 rfl (fun _ _ _ h=>h.2)).pick [0,3,4,5,6,7,8,9,10,11,12]) ?_;refine Qb [5,6,8,9,10,11,12,13,14,15] ?_;refine Q4 [11,12,14,15,16,17,18,19,20] ?_;obtain rfl:=sj h;exact Q3 J1 [2,3,4,1,0,5,6,7,8]
 refine Q7 ?_;exact QM J0 (ho _ (sj h).symm) [4,5,7,8]
def QdP (s_:Qam):Option (Int):=(Qaw [(Q6.mk (decide (s_.field>0)) (13:Int))]).bind fun t0=>(some t0)
instance Qlq:Spc1 prog 263 QdP (fun s_=>[QaA.ty s_]) ti:=.mk fun {s_ r} h=>by
 unfold QdP at h
 refine Fe func263 ntmps263 fun M0 M w0 hpl=>?_
 refine Qb [0] ?_
 have⟨_,_,h⟩:=bs h
 refine Qb [6] ?_
 exact Qu h (·▸Qq hpl)

/- Go functions as Lean functions, and the proofs that they compute them, written by a program. No condition. -/
import Derived.Test.YtlajingmjmnfgaaGreatDoorGenD
set_option linter.all false
open Go.Proofs.Tryz Go.IntKind
namespace Go.Proofs.YtlajingmjmnfgaaGreatDoor
noncomputable section
open Go.Sim
set_option maxRecDepth 100000
set_option maxHeartbeats 4000000
def QdA (self:Qa→Int→Int→Option (Int)) (x_:Qa) (kind_:Int) (field_:Int):Option (Int):=(Qc4 x_ kind_ field_).bind fun t0=>(if (!t0.2)=true then (some (-1:Int)) else (if (((t0.1).Kind==7)||((t0.1).Kind==8))=true then (idx x_.Kinds kind_).bind fun t1=>(Qbw t1 (t0.1).Up).bind fun t2=>(Qc4 x_ kind_ t2).bind fun t3=>(if ((t3.2&&(decide (t2<field_)))&&((t3.1).Kind==1))=true then (self x_ kind_ t2).bind fun t4=>(some t4) else (some (-1:Int))) else (if ((t0.1).Kind !=1)=true then (some (-1:Int)) else (QbR x_ (t0.1).Of).bind fun t5=>(if (decide (t5<kind_))=true then (some t5) else (some (-1:Int))))))
theorem QpX {self:Qa→Int→Int→Option (Int)} (hself:∀(x_:Qa) (kind_:Int) (field_:Int) (r:Int),self x_ kind_ field_=some r→FnOk prog 89 [Qf.ty x_,ti kind_,ti field_] [] (fun _=>[]) (fun _=>ti r)) {x_:Qa} {kind_:Int} {field_:Int} {r:Int} (h:QdA self x_ kind_ field_=some r):FnOk prog 89 [Qf.ty x_,ti kind_,ti field_] [] (fun _=>[]) (fun _=>ti r):=by
 unfold QdA at h;refine fe func89 ntmps89 fun M0 M w0 a hpl H=>?_;refine sr mx [] H (fun _=>.o (QgS (R:=Qf) (u:=x_) z0)<|.o (Qi .k)<|.n) fun _ a w H=>?_;have H:=H.t3_0 [0,3,4];have⟨t0,h0,h⟩:=bs h;refine sr mx [v1 7 (fun v0=>box (Qd.cs zz0) v0),v1 7 (fun v0=>box (Qd.cs t0.1) v0)] H (fun _=>.o (QU Qc2 z0)<|.q 2 rfl<|.q 4 rfl<|.o (QG QoB (Qlp.ok h0) (.cons (.of z2)<|.cons (.of z1)<|.cons (.of z0)<|.nil))<|.q 0 rfl<|.o (Qac z0 rfl)<|.o (Qac z1 rfl)<|.m [] [0] rfl rfl rfl (QaP (R:=Qd) (a:=zz0) QaW Ql9)<|.e [] [0] [1] rfl rfl rfl rfl (QaB (R:=Qd) (a:=t0.1) QaW z0 z2 (leb rfl))<|.o (Qi z1)<|.n) fun _ a w H=>?_;replace H:St _ _ _ [_,_,_,_,_] [] _ _:=(((H.pick [7,8,9,10,11]).shareB 0 rfl).add 0 rfl (fun _ _ _ h=>h.2)).pick [0,3,4,5,6];refine wp_seq_k (fun _ k0=>?_);refine wp_block ?_;refine sr mx [] H (fun _=>.q 1 rfl<|.o (QiG z0)<|.o (Qi z0)<|.n) fun _ a w H=>?_;have H:=H.to [2,3,5,6,7] [_,_,_,_,_] [] rfl rfl;refine wi H h (fun b0 h=>?_) (fun b0 h=>?_)
 ·refine sr mx [] H (fun _=>.o (Qi .k)<|.n) fun _ a w H=>?_;have H:=H.t1_0 [0];exact r0 h (·▸r1 hpl H (.tmp z0 .nil))
 refine sr mx [] H (fun _=>.o (QO Qhx z1)<|.o (QN (u:=(t0.1).Kind) tok3 z0 rfl)<|.o (Qct z0 .k)<|.q 0 rfl<|.g rfl rfl bq0 (fun _=>QO Qhx z5)<|.g rfl rfl bq1 (fun hc=>QN (u:=(t0.1).Kind) tok3 (.cond z0 hc) rfl)<|.g rfl rfl bq2 (fun hc=>Qct (.cond z0 hc) .k)<|.o (Ql0 z3 (fun hp=>(.cond z0 (beqF hp))))<|.o (Qi z0)<|.n) fun _ a w H=>?_;have H:=H.to [8,10,11,12,13] [_,_,_,_,_] [] rfl rfl;refine wi H h (fun b1 h=>?_) (fun b1 h=>?_)
 ·have⟨t1,h1,t2,h2,h⟩:=bs2 h;refine sr mx [] H (fun _=>.o (QO QdE z2)<|.o (QN (u:=x_.Kinds) Qkm z0 rfl)<|.q 5 rfl<|.o (Qbi ud29 QcO z1 z0 h1)<|.o (QU QcO z0)<|.o (QO QsV z6)<|.o (QN (u:=(t0.1).Up) tok9 z0 rfl)<|.o (QG Qwb (QnQ.ok h2) (.cons (.of z2)<|.cons (.of z0)<|.nil))<|.o (Qi z0)<|.n) fun _ a w H=>?_;have H:=H.to [8,11,12,13] [_,_,_,_] [] rfl rfl;refine wp_seq_k (fun _ k1=>?_);have⟨t3,h3,h⟩:=bs h;refine sr mx [v1 7 (fun v0=>box (Qd.cs zz0) v0),v1 7 (fun v0=>box (Qd.cs t3.1) v0)] H (fun _=>.o (QU Qc2 z1)<|.q 3 rfl<|.q 2 rfl<|.o (QG QoB (Qlp.ok h3) (.cons (.of z2)<|.cons (.of z1)<|.cons (.of z0)<|.nil))<|.q 0 rfl<|.o (Qac z0 rfl)<|.o (Qac z1 rfl)<|.m [] [0] rfl rfl rfl (QaP (R:=Qd) (a:=zz0) QaW Ql9)<|.e [] [0] [1] rfl rfl rfl rfl (QaB (R:=Qd) (a:=t3.1) QaW z0 z2 (leb rfl))<|.o (Qi z1)<|.n) fun _ a w H=>?_;replace H:St _ _ _ [_,_,_,_,_,_] [] _ _:=(((H.pick [7,8,9,10,11,12]).shareB 0 rfl).add 0 rfl (fun _ _ _ h=>h.2)).pick [0,3,4,5,6,7];refine sr mx [] H (fun _=>.q 1 rfl<|.q 0 rfl<|.g rfl rfl bq0 (fun _=>Qad z4)<|.g rfl rfl bq1 (fun _=>Qad z8)<|.g rfl rfl bq2 (fun hc=>Qbt (.cond z1 hc) (.cond z0 hc))<|.o (Qcj z3 (fun hp=>(.cond z0 (beqT hp))))<|.q 0 rfl<|.g rfl rfl bq0 (fun _=>QO Qhx z7)<|.g rfl rfl bq1 (fun hc=>QN (u:=(t3.1).Kind) tok3 (.cond z0 hc) rfl)<|.g rfl rfl bq2 (fun hc=>Qct (.cond z0 hc) .k)<|.o (Qcj z3 (fun hp=>(.cond z0 (beqT hp))))<|.n) fun _ a w H=>?_;have H:=H.to [10,13,14,15] [_,_,_,_] [] rfl rfl;refine wi H h (fun b2 h=>?_) (fun b2 h=>?_)
  ·have⟨t4,h4,h⟩:=bs h;refine sr mx [] H (fun _=>.o (QU Qc2 z2)<|.q 4 rfl<|.q 3 rfl<|.o (QG Qwe (hself _ _ _ _ h4) (.cons (.of z2)<|.cons (.of z1)<|.cons (.of z0)<|.nil))<|.o (Qi z0)<|.n) fun _ a w H=>?_;have H:=H.t1_0 [4];exact r0 h (·▸r1 hpl H (.tmp z0 .nil))
  refine wp_skip (k1 _ _ ?_);refine sr mx [] H (fun _=>.o (Qi .k)<|.n) fun _ a w H=>?_;have H:=H.t1_0 [0];exact r0 h (·▸r1 hpl H (.tmp z0 .nil))
 refine sr mx [] H (fun _=>.o (QO Qhx z1)<|.o (QN (u:=(t0.1).Kind) tok3 z0 rfl)<|.o (Qla z0 .k)<|.o (Qi z0)<|.n) fun _ a w H=>?_;have H:=H.to [3,5,6,7] [_,_,_,_] [] rfl rfl;refine wi H h (fun b3 h=>?_) (fun b3 h=>?_)
 ·refine sr mx [] H (fun _=>.o (Qi .k)<|.n) fun _ a w H=>?_;have H:=H.t1_0 [0];exact r0 h (·▸r1 hpl H (.tmp z0 .nil))
 refine wp_skip (k0 _ _ ?_);refine wp_seq_k (fun _ k2=>?_);have⟨t5,h5,h⟩:=bs h;refine sr mx [] H (fun _=>.o (QU Qc2 z2)<|.o (QO Qov z2)<|.o (QN (u:=(t0.1).Of) tok9 z0 rfl)<|.o (QG Qoz (QjL.ok h5) (.cons (.of z2)<|.cons (.of z0)<|.nil))<|.o (Qi z0)<|.n) fun _ a w H=>?_;have H:=H.to [4,8] [_,_] [] rfl rfl;refine sr mx [] H (fun _=>.q 0 rfl<|.q 2 rfl<|.o (Qbt z1 z0)<|.n) fun _ a w H=>?_;have H:=H.to [2,3] [_,_] [] rfl rfl;refine wi H h (fun b4 h=>?_) (fun b4 h=>?_)
 ·refine sr mx [] H (fun _=>.q 1 rfl<|.o (Qi z0)<|.n) fun _ a w H=>?_;have H:=H.t1_0 [1];exact r0 h (·▸r1 hpl H (.tmp z0 .nil))
 refine wp_skip (k2 _ _ ?_);refine sr mx [] H (fun _=>.o (Qi .k)<|.n) fun _ a w H=>?_;have H:=H.t1_0 [0];exact r0 h (·▸r1 hpl H (.tmp z0 .nil))
def Qjv:Nat→Qa→Int→Int→Option (Int)
 | 0=>fun _ _ _=>none
 | n+1=>QdA (Qjv n)
theorem QjM:∀(n:Nat) (x_:Qa) (kind_:Int) (field_:Int) (r:Int),Qjv n x_ kind_ field_=some r→FnOk prog 89 [Qf.ty x_,ti kind_,ti field_] [] (fun _=>[]) (fun _=>ti r)
 | 0,_,_,_,r,h=>by cases h
 | n+1,x_,kind_,field_,r,h=>QpX (fun x_ kind_ field_ r h=>QjM n x_ kind_ field_ r h) h
def Qei (x_:Qa) (kind_:Int) (field_:Int):Option (Int):=Qjv (field_.natAbs+2) x_ kind_ field_
theorem Qre {x_:Qa} {kind_:Int} {field_:Int} {r:Int} (h:Qei x_ kind_ field_=some r):FnOk prog 89 [Qf.ty x_,ti kind_,ti field_] [] (fun _=>[]) (fun _=>ti r):=QjM _ _ _ _ _ h
instance :Spc3 prog 89 (fun (x_:Qa) (kind_:Int) (field_:Int)=>Qei x_ kind_ field_) (fun (x_:Qa) (kind_:Int) (field_:Int)=>[Qf.ty x_,ti kind_,ti field_]) (fun (r:Int)=>ti r):=⟨fun h=>Qre h⟩
def Qb4 (s_:Qam):Option (Bool):=(Qei s_.x s_.kind s_.field).bind fun t0=>(some (decide (t0<0)))
instance Qu8:Spc1 prog 260 Qb4 (fun s_=>[QaA.ty s_]) tb:=.mk fun {s_ r} h=>by
 unfold Qb4 at h
 refine Fe func260 ntmps260 fun M0 M w0 hpl=>?_
 refine Qb [0] ?_
 have⟨_,_,h⟩:=bs h
 refine Qb [8] ?_
 exact Qu h (·▸Qq hpl)
def QdQ (s_:Qam):Option (Int):=(Qb4 s_).bind fun t0=>(Qaw [(Q6.mk t0 (12:Int))]).bind fun t1=>(some t1)
instance Qlr:Spc1 prog 264 QdQ (fun s_=>[QaA.ty s_]) ti:=.mk fun {s_ r} h=>by
 unfold QdQ at h
 refine Fe func264 ntmps264 fun M0 M w0 hpl=>?_
 refine Qb [0] ?_
 have⟨_,_,_,_,h⟩:=bs2 h
 refine Qb [5] ?_
 exact Qu h (·▸Qq hpl)
def QdR (s_:Qam):Option (Int):=(idx (s_.x).Kinds s_.kind).bind fun t0=>(Qbw t0 (s_.f).Of).bind fun t1=>(Qc4 s_.x s_.kind t1).bind fun t2=>(Qaw [(Q6.mk (((s_.f).Of !=([]:Str))&&(((decide (t1<0))||(decide (t1≥s_.field)))||((t2.1).Kind !=4))) (12:Int))]).bind fun t3=>(some t3)
instance Qls:Spc1 prog 265 QdR (fun s_=>[QaA.ty s_]) ti:=.mk fun {s_ r} h=>by
 unfold QdR at h
 refine Fe func265 ntmps265 fun M0 M w0 hpl=>?_
 refine Qb [0] ?_
 have⟨_,_,_,_,h⟩:=bs2 h
 refine Qb [11,12] ?_
 have⟨t0,_,h⟩:=bs h
 refine QV [v1 9 (fun v0=>box (Qd.cs zz0) v0),v1 9 (fun v0=>box (Qd.cs t0.1) v0)] [10,11] [9,11,12] fun m0=>?_
 refine Qaa (fun _ _ H=>((H.shareB 0 rfl).add 0 rfl (fun _ _ _ h=>h.2)).pick [0,3,4]) ?_
 have⟨_,_,h⟩:=bs h
 refine Qb [22] ?_
 exact Qu h (·▸Qq hpl)
def Qej (l_:QB) (c0_:Qam):Option (Bool):=(some (l_.Name==(c0_.f).Of))
instance Quv:Spc2 prog 267 Qej (fun l_ c0_=>[QI.ty l_,tptr (QaA.cs c0_)]) tb:=.mk fun {l_ c0_ r} h=>by
 unfold Qej at h
 refine Fe func267 ntmps267 fun M0 M w0 hpl=>?_
 refine Qb [0,3] ?_
 refine Qb [6] ?_
 exact Qu h (·▸Qq hpl)
def QdS (s_:Qam):Option (Int):=(QaR (s_.x).Lives (fun x0=>Qej x0 s_)).bind fun t0=>(Qaw [(Q6.mk (!t0) (12:Int))]).bind fun t1=>(some t1)
instance Qlt:Spc1 prog 266 QdS (fun s_=>[QaA.ty s_]) ti:=.mk fun {s_ r} h=>by
 unfold QdS at h
 refine Fe func266 ntmps266 fun M0 M w0 hpl=>?_
 refine Qb [0] ?_
 have⟨_,_,h⟩:=bs h
 refine Qb [5] ?_
 have⟨_,_,h⟩:=bs h
 refine Qb [5] ?_
 exact Qu h (·▸Qq hpl)
def QeQ (x_:Qa) (kind_:Int) (f_:Qc):Option (Int×(List Int)):=(QbR x_ f_.Of).bind fun t0=>(if ((f_.Kind !=6)||(decide (t0≤kind_)))=true then (some ((-1:Int),([]:List Int))) else (idx x_.Kinds t0).bind fun t1=>(Ql (fun (s0:Int×List Int)=>((if (decide (s0.1<(t1.Fields.length:Int)))=true then (idx t1.Fields s0.1).bind fun t2=>(opt (((t2.Kind==7)&&(t2.Of==f_.Name))==true) (Qei x_ t0 s0.1) default).bind fun t3=>((if (((t2.Kind==7)&&(t2.Of==f_.Name))&&(t3==kind_))=true then (rm (s0.2.length+[s0.1].length)).bind fun _=>(some (s0.2++[s0.1])) else (some s0.2))).bind fun p0=>(some (.inl ((i64.wrap (s0.1+1)),p0))) else (some (.inr s0.2))):Option ((Int×List Int)⊕((List Int))))) ((0:Int),([]:List Int))).bind fun p1=>(some (t0,p1)))
instance QyS:Spc3 prog 269 QeQ (fun x_ kind_ f_=>[Qf.ty x_,ti kind_,Qd.ty f_]) (fun r=>ttup [ti r.1,tsl rI r.2]):=.mk fun {x_ kind_ f_ r} h=>by
 unfold QeQ at h
 refine Fe func269 ntmps269 fun M0 M w0 hpl=>?_
 refine Qb [0,1,5] ?_
 have⟨t0,_,h⟩:=bs h
 refine Qb [4,5,6,7] ?_
 refine tIfs h [7,8,9,10,11] (fun _ h=>?_) (fun _ h=>?_)
 ·refine Qb [0,1] ?_
  exact Qu h (·▸Qq hpl)
 refine Qb [0,2,3,4,5] ?_
 refine Qaa (fun _ _ H=>H.nil (rI) 3) ?_
 refine Qk fun K0 k0=>?_
 have⟨t1,_,h⟩:=bs h
 refine Qb [5,6,7,8,9,10,11,12] ?_
 have⟨e0,h0,h⟩:=bs h
 have J0:∀(p0:List Int) (y0:Value),p0=e0→To M w0 61 [(9,tv y0),(8,ti t0)] [own rI 3 p0 y0] K0:=by
  intro p0 y0 he;subst he;refine k0 ?_;refine Qb [1,2,3,4] ?_;refine QaV ?_;refine Qar (by intro _ _ H;exact (H.shareO 2 rfl).pick [0,2]) ?_;obtain rfl:=sj h;exact Qq hpl
 refine Qs ?_;refine Qa6 h0 (fun (s0:Int×List Int) (y1:Value)=>[(29,tsl Qd t1.Fields),(30,ti (t1.Fields.length:Int)),(31,ti s0.1),(9,tv y1),(8,ti t0),(3,tptr (Qf.cs x_)),(5,tptr (Qd.cs f_)),(1,ti kind_)]) (fun (s0:Int×List Int) (y1:Value)=>[own rI 3 s0.2 y1]) (.slice none 0 0) [0,1,2,3,4,5,6,7] ?_;clear h;intro s0 y1 o K1 h ho k1;refine Qb [0,1,2,3,4,5,6,7,8] ?_;refine Qk fun _ k2=>?_;refine Qx h (fun _ h=>?_) (fun _ h=>?_)
 ·refine QE ?_;refine k2 ?_;refine Qk fun K2 k3=>?_;refine Qs ?_;have⟨t2,_,h⟩:=bs h;refine QV [v1 3 (fun v0=>box (Qd.cs zz0) v0),v1 3 (fun v0=>box (Qd.cs t2) v0)] [4,6] [3,4,6,7,8,9,10,11,12,13] fun m0=>?_;refine Qaa (fun _ _ H=>(((H.selA [1,0] rfl).shareB 0 rfl).add 0 rfl (fun _ _ _ h=>h.2)).pick [0,3,4,5,6,7,8,9,10,11]) ?_;have⟨_,_,h⟩:=bs h;refine Qb [17,19,20,21,22,23,24,25,26,27] ?_;have⟨p1,h1,h⟩:=bs h;have J1:∀(y2:Value),To M w0 61 [(9,tv y2),(29,tsl Qd t1.Fields),(30,ti (t1.Fields.length:Int)),(31,ti s0.1),(8,ti t0),(3,tptr (Qf.cs x_)),(5,tptr (Qd.cs f_)),(1,ti kind_)] [own rI 3 p1 y2] K2:=by
   intro y2;refine k3 ?_;refine Q4 [1,2,3,4,5,6,7,8] ?_;exact Qae k1 y2 ((sj h).symm) [2,3,0,1,4,5,6,7]
  replace h:=h1;clear h1;refine Qx h (fun _ h=>?_) (fun _ h=>?_)
  ·have⟨_,_,h⟩:=bs h;refine QaY [v1 3 (fun v0=>own rI 3 (s0.2++[s0.1]) v0)] [4] [3,4,7,8,9,10,11,12,13] fun m1=>?_;obtain rfl:=sj h;exact Q3 (J1 (m1 3)) [1,2,3,4,5,6,7,8]
  refine QE ?_;obtain rfl:=sj h;exact Q3 (J1 y1) [5,2,3,4,6,7,8,9]
 refine Q7 ?_;exact Qae J0 y1 (ho _ (sj h).symm) [4,5]
def QdT (s_:Qam):Option (Int):=(QeQ s_.x s_.kind s_.f).bind fun t0=>(Qaw [(Q6.mk (decide (t0.1<0)) (12:Int)),(Q6.mk ((t0.2.length:Int) !=1) (11:Int))]).bind fun t1=>(some t1)
instance Qlu:Spc1 prog 268 QdT (fun s_=>[QaA.ty s_]) ti:=.mk fun {s_ r} h=>by
 unfold QdT at h
 refine Fe func268 ntmps268 fun M0 M w0 hpl=>?_
 refine Qb [0] ?_
 have⟨_,_,h⟩:=bs h
 refine Qb [10,11] ?_
 have⟨_,_,h⟩:=bs h
 refine Qb [9] ?_
 exact Qu h (·▸Qq hpl)
def QcV (s_:Qam):Option (Qc×Bool):=(Qei s_.x s_.kind s_.field).bind fun t0=>(if (decide (t0<0))=true then (some (zz0,false)) else (idx (s_.x).Kinds t0).bind fun t1=>(Qbw t1 (s_.f).Of).bind fun t2=>(Qc4 s_.x t0 t2).bind fun t3=>(some (t3.1,t3.2)))
instance Qwr:Spc1 prog 271 QcV (fun s_=>[QaA.ty s_]) (fun r=>ttup [Qd.ty r.1,tb r.2]):=.mk fun {s_ r} h=>by
 unfold QcV at h
 refine Fe func271 ntmps271 fun M0 M w0 hpl=>?_
 refine QV [v1 1 (fun v0=>box (Qd.cs zz0) v0)] [2] [0,1] fun m0=>?_
 have⟨_,_,h⟩:=bs h
 refine Qb [7,8,9] ?_
 refine tIfs h [1,2,3,4] (fun _ h=>?_) (fun _ h=>?_)
 ·refine QV [v0 (box (Qd.cs zz0) (m0 1))] [2] [1,5] fun m1=>?_
  exact Qu h (·▸Qq hpl)
 have⟨_,_,_,_,t0,_,h⟩:=bs3 h
 refine QV [v0 (box (Qd.cs t0.1) (m0 1))] [17] [16,20] fun m2=>?_
 exact Qu h (·▸Qq hpl)
def QdU (s_:Qam):Option (Int):=(QcV s_).bind fun t0=>(Qb4 s_).bind fun t1=>(opt (((!t0.2)||((t0.1).Kind !=6))==false) (QbR s_.x (t0.1).Of) default).bind fun t2=>(Qaw [(Q6.mk t1 (12:Int)),(Q6.mk (((!t0.2)||((t0.1).Kind !=6))||(t2 !=s_.kind)) (13:Int))]).bind fun t3=>(some t3)
instance Qlv:Spc1 prog 270 QdU (fun s_=>[QaA.ty s_]) ti:=.mk fun {s_ r} h=>by
 unfold QdU at h
 refine Fe func270 ntmps270 fun M0 M w0 hpl=>?_
 refine Qb [0] ?_
 have⟨t0,_,h⟩:=bs h
 refine QV [v1 5 (fun v0=>box (Qd.cs zz0) v0),v1 5 (fun v0=>box (Qd.cs t0.1) v0)] [6,7] [5,6,7] fun m0=>?_
 refine Qaa (fun _ _ H=>((H.shareB 0 rfl).add 0 rfl (fun _ _ _ h=>h.2)).pick [0,3,4]) ?_
 have⟨_,_,_,_,_,_,h⟩:=bs3 h
 refine Qb [23] ?_
 exact Qu h (·▸Qq hpl)
def QdV (s_:Qam):Option (Int):=(QcV s_).bind fun t0=>(Qb4 s_).bind fun t1=>(Qaw [(Q6.mk t1 (12:Int)),(Q6.mk ((!t0.2)||(!((((((t0.1).Kind==2)||((t0.1).Kind==3))||((t0.1).Kind==4))||((t0.1).Kind==5))||((t0.1).Kind==8)))) (13:Int))]).bind fun t2=>(some t2)
instance Qlw:Spc1 prog 272 QdV (fun s_=>[QaA.ty s_]) ti:=.mk fun {s_ r} h=>by
 unfold QdV at h
 refine Fe func272 ntmps272 fun M0 M w0 hpl=>?_
 refine Qb [0] ?_
 have⟨t0,_,h⟩:=bs h
 refine QV [v1 5 (fun v0=>box (Qd.cs zz0) v0),v1 5 (fun v0=>box (Qd.cs t0.1) v0)] [6,7] [5,6,7] fun m0=>?_
 refine Qaa (fun _ _ H=>((H.shareB 0 rfl).add 0 rfl (fun _ _ _ h=>h.2)).pick [0,3,4]) ?_
 refine Qb [23,25,26] ?_
 have⟨_,_,_,_,h⟩:=bs2 h
 refine Qb [12] ?_
 exact Qu h (·▸Qq hpl)
def Qby (i:Int):Option (Qam→Option Int):=if i=0 then some QdP else if i=1 then some QdQ else if i=4 then some QdR else if i=5 then some QdS else if i=6 then some QdT else if i=7 then some QdU else if i=8 then some QdV else none
theorem Qws {Γ:List (Nat×Ty)} {d:Option Tmp} {ty:TypeId} {pos:String} {af:Array Edge} {g:Option (Nat×Bool)} {x y:Operand} {i:Int} (hx:Fct Γ x Qvx) (hi:Fct Γ y (tv (.int .i64 i))):
  OpJ prog ⟨d,.lookup 161 x y true,ty,pos,af,g⟩ Γ [] [] (fun _=>[]) (fun _=>ttup [Qcv.ty (QbO.mk (Qby i)),tv (.bool (Qby i).isSome)]):=by
 have key:(Qb7 QhM i).isSome=(Qby i).isSome∧∀F w,(Qcv.ty (QbO.mk (Qby i))).ok F w ((Qb7 QhM i).getD (.agg #[.nilFunc])):=by
  unfold Qby;by_cases h0:i=0
  ·subst h0;exact⟨rfl,fun F w=>⟨_,rfl,.cons ⟨263,[],[],[],[],rfl,.nil,.nil,Qs9,fun _ _ hq=>Qlq.ok hq⟩ .nil⟩⟩
  by_cases h1:i=1
  ·subst h1;exact⟨rfl,fun F w=>⟨_,rfl,.cons ⟨264,[],[],[],[],rfl,.nil,.nil,Qta,fun _ _ hq=>Qlr.ok hq⟩ .nil⟩⟩
  by_cases h4:i=4
  ·subst h4;exact⟨rfl,fun F w=>⟨_,rfl,.cons ⟨265,[],[],[],[],rfl,.nil,.nil,Qtb,fun _ _ hq=>Qls.ok hq⟩ .nil⟩⟩
  by_cases h5:i=5
  ·subst h5;exact⟨rfl,fun F w=>⟨_,rfl,.cons ⟨266,[],[],[],[],rfl,.nil,.nil,Qtc,fun _ _ hq=>Qlt.ok hq⟩ .nil⟩⟩
  by_cases h6:i=6
  ·subst h6;exact⟨rfl,fun F w=>⟨_,rfl,.cons ⟨268,[],[],[],[],rfl,.nil,.nil,Qtd,fun _ _ hq=>Qlu.ok hq⟩ .nil⟩⟩
  by_cases h7:i=7
  ·subst h7;exact⟨rfl,fun F w=>⟨_,rfl,.cons ⟨270,[],[],[],[],rfl,.nil,.nil,Qte,fun _ _ hq=>Qlv.ok hq⟩ .nil⟩⟩
  by_cases h8:i=8
  ·subst h8;exact⟨rfl,fun F w=>⟨_,rfl,.cons ⟨272,[],[],[],[],rfl,.nil,.nil,Qtf,fun _ _ hq=>Qlw.ok hq⟩ .nil⟩⟩
  simp only[Qb7,QhM,Zd h0,Zd h1,Zd h4,Zd h5,Zd h6,Zd h7,Zd h8];exact⟨rfl,fun F w=>⟨_,rfl,.cons rfl .nil⟩⟩
 have h:=Qx8 (P:=prog) (Γ:=Γ) (d:=d) (ty:=ty) (pos:=pos) (af:=af) (g:=g) (V:=fun _=>Qcv.ty (QbO.mk (Qby i))) underlying161 ud3 zv159 hx hi key.2;rw[key.1] at h;exact h
def Qdk (x_:Qa):Option ((List Qv)):=(Qfn x_).bind fun t0=>(if (t0 !=0)=true then (some [(Qv.mk (-1:Int) (-1:Int) (-1:Int) t0)]) else (Ql (fun (s0:Int×List Qv)=>((if (decide (s0.1<(x_.Lives.length:Int)))=true then (idx x_.Lives s0.1).bind fun t1=>(sub x_.Lives (0:Int) s0.1).bind fun t2=>(QaR t2 (fun x0=>QfC x0 t1)).bind fun t3=>(Qaw [(Q6.mk t3 (7:Int))]).bind fun t4=>(Qb9 (-1:Int) s0.1 (-1:Int) t4 s0.2).bind fun t5=>(some (.inl ((i64.wrap (s0.1+1)),t5))) else (some (.inr s0.2))):Option ((Int×List Qv)⊕((List Qv))))) ((0:Int),([]:List Qv))).bind fun p0=>(Ql (fun (s1:Int×List Qv)=>((if (decide (s1.1<(x_.Kinds.length:Int)))=true then (idx x_.Kinds s1.1).bind fun t6=>(QfR x_ s1.1).bind fun t7=>(Qb9 s1.1 (-1:Int) (-1:Int) t7 s1.2).bind fun t8=>(Ql (fun (s2:Int×List Qv)=>((if (decide (s2.1<(t6.Fields.length:Int)))=true then (idx t6.Fields s2.1).bind fun t9=>(Qbw t6 t9.Name).bind fun t10=>(Qaw [(Q6.mk (decide (t10<s2.1)) (7:Int))]).bind fun t11=>((if ((Qby t9.Kind).isSome&&(t11==0))=true then (Ql3 ((QbO.mk (Qby t9.Kind))).check (Qam.mk x_ s1.1 s2.1 t9)).bind fun t12=>(some t12) else (some t11))).bind fun p1=>(Qb9 s1.1 s2.1 (-1:Int) p1 s2.2).bind fun t13=>(some (.inl ((i64.wrap (s2.1+1)),t13))) else (some (.inr s2.2))):Option ((Int×List Qv)⊕((List Qv))))) ((0:Int),t8)).bind fun p2=>(some (.inl ((i64.wrap (s1.1+1)),p2))) else (some (.inr s1.2))):Option ((Int×List Qv)⊕((List Qv))))) ((0:Int),p0)).bind fun p3=>(Ql (fun (s3:Int×List Qv)=>((if (decide (s3.1<(x_.Rules.length:Int)))=true then (QfS x_ s3.1).bind fun t14=>(Qb9 (-1:Int) (-1:Int) s3.1 t14 s3.2).bind fun t15=>(some (.inl ((i64.wrap (s3.1+1)),t15))) else (some (.inr s3.2))):Option ((Int×List Qv)⊕((List Qv))))) ((0:Int),p3)).bind fun p4=>(some p4))
instance QzR:SpcS prog 25 (∀{x_:Qa} {r:(List Qv)},Qdk x_=some r→FnOk prog 25 [Qf.ty x_] [glo] (fun _=>[]) (fun _=>tsl QZ r)):=.mk fun {x_ r} h=>by
 unfold Qdk at h
 refine Fe func25 ntmps25 fun M0 M w0 hpl=>?_
 refine Qb [0] ?_
 refine Qk fun _ k0=>?_
 have⟨_,_,h⟩:=bs h
 refine Qb [2,3] ?_
 refine Qb [1,2,3] ?_
 refine Qx h (fun _ h=>?_) (fun _ h=>?_)
 ·refine Qb [3] ?_
  exact Qu h (·▸Qq hpl)
 refine QE ?_
 refine k0 ?_
 intro a w H
 refine sr mx [v1 0 (fun v0=>box (rVal.cs nilV) v0)] H (fun _=>.m [] [1] rfl rfl rfl (Qe2 QvS)<|.n) fun m0 a w H=>?_
 replace H:St _ _ _ [_,_] [_,_,_] _ _:=(H.pick [0,3]).nil (QZ) 149
 refine Q2 H ?_
 refine Qb [1,2,3] ?_
 refine Qk fun K0 k1=>?_
 refine Qb [1,2,3,4,5,6] ?_
 have⟨e0,h0,h⟩:=bs h
 have J0:∀(p0:List Qv) (y0:Value),p0=e0→To M w0 119 [(5,QaO 78 [tv (m0 0)]),(4,tv (m0 0)),(1,tptr (Qf.cs x_))] [own QZ 149 p0 y0,glo,box (rVal.cs y0) (m0 0)] K0:=by
  intro p0 y0 he;subst he;refine k1 ?_;refine Qk fun K1 k2=>?_;refine Qb [1,2,3,4,5,6] ?_;have⟨e1,h1,h⟩:=bs h;have J1:∀(p1:List Qv) (y1:Value),p1=e1→To M w0 119 [(5,QaO 78 [tv (m0 0)]),(4,tv (m0 0)),(1,tptr (Qf.cs x_))] [own QZ 149 p1 y1,glo,box (rVal.cs y1) (m0 0)] K1:=by
   intro p1 y1 he;subst he;refine k2 ?_;refine Qk fun K2 k3=>?_;refine Qb [2,3,4,5,6] ?_;have⟨e2,h2,h⟩:=bs h;have J2:∀(p2:List Qv) (y2:Value),p2=e2→To M w0 119 [(4,tv (m0 0))] [own QZ 149 p2 y2,glo,box (rVal.cs y2) (m0 0)] K2:=by
    intro p2 y2 he;subst he;refine k3 ?_;refine Qb [0,1] ?_;refine Qaa (fun _ _ H=>H.selA [0,1] rfl) ?_;refine QaV ?_;refine Qar (by intro _ _ H;exact (H.shareO 1 rfl).pick [0]) ?_;obtain rfl:=sj h;exact Qq hpl
   refine Qs ?_;refine Qa6 h2 (fun (s0:Int×List Qv) (y3:Value)=>[(107,ti (x_.Rules.length:Int)),(108,ti s0.1),(5,QaO 78 [tv (m0 0)]),(4,tv (m0 0)),(1,tptr (Qf.cs x_))]) (fun (s0:Int×List Qv) (y3:Value)=>[own QZ 149 s0.2 y3,glo,box (rVal.cs y3) (m0 0)]) y1 [0,1,2,3,4] ?_;clear h;intro s0 y3 o K3 h ho k4;refine Qb [0,1,2,3,4,5] ?_;refine Qk fun _ k5=>?_;refine Qx h (fun _ h=>?_) (fun _ h=>?_)
   ·refine QE ?_;refine k5 ?_;refine Qk fun _ k6=>?_;refine Qs ?_;refine Qb [1,3,4,5,6,7] ?_;have⟨_,h3,t0,h4,h⟩:=bs2 h;intro a w H;refine wr mx [v1 5 (fun v0=>box (rVal.cs v0) (m0 0)),v1 5 (fun v0=>own QZ 149 t0 v0)] H (fun _=>.q 3 rfl<|.q 1 rfl<|.o (QU Qc2 z7)<|.q 3 rfl<|.o (QG Qwc (QoG.ok h3) (.cons (.of z1)<|.cons (.of z0)<|.nil))<|.e [] [2,0] [3,4] rfl rfl rfl rfl (QfI Qlk (Qey.ok h4) z4 (.cons (.of .k)<|.cons (.of .k)<|.cons (.of z3)<|.cons (.of z0)<|.nil))<|.n) fun m1 a w H=>?_;have H:=H.to [7,8,9,10,11] [_,_,_,_,_] [_,_,_] rfl rfl;refine QbD H ?_;refine k6 ?_;refine Q4 [1,2,3,4,5] ?_;refine Qar (fun _ _ H=>(H.pick [1,0,2,3,4]).selA [2,0,1] rfl) ?_;exact Qae k4 (m1 5) ((sj h).symm) [0,1,2,3,4]
   refine Q7 ?_;exact Qae J2 y3 (ho _ (sj h).symm) [4]
  refine Qs ?_;refine Qa6 h1 (fun (s1:Int×List Qv) (y4:Value)=>[(48,tsl Qh x_.Kinds),(49,ti (x_.Kinds.length:Int)),(50,ti s1.1),(5,QaO 78 [tv (m0 0)]),(4,tv (m0 0)),(1,tptr (Qf.cs x_))]) (fun (s1:Int×List Qv) (y4:Value)=>[own QZ 149 s1.2 y4,glo,box (rVal.cs y4) (m0 0)]) y0 [0,1,2,3,4,5] ?_;clear h;intro s1 y4 o K4 h ho k7;refine Qb [0,1,2,3,4,5,6] ?_;refine Qk fun _ k8=>?_;refine Qx h (fun _ h=>?_) (fun _ h=>?_)
  ·refine QE ?_;refine k8 ?_;refine Qk fun K5 k9=>?_;refine Qs ?_;have⟨t1,_,h⟩:=bs h;refine QV [v1 3 (fun v0=>box (Qh.cs zz1) v0),v1 3 (fun v0=>box (Qh.cs t1) v0)] [4,6] [3,4,6,7,8,9,10,11] fun m2=>?_;refine Qaa (fun _ _ H=>(((H.selA [3,0,1,2] rfl).shareB 0 rfl).add 0 rfl (fun _ _ _ h=>h.2)).pick [0,3,4,5,6,7,8,9]) ?_;have⟨_,h5,t2,h6,h⟩:=bs2 h;intro a w H;refine sr mx [v1 5 (fun v0=>box (rVal.cs v0) (m0 0)),v1 5 (fun v0=>own QZ 149 t2 v0)] H (fun _=>.q 5 rfl<|.q 2 rfl<|.o (QU Qc2 z9)<|.q 4 rfl<|.o (QG Qwa (QoF.ok h5) (.cons (.of z1)<|.cons (.of z0)<|.nil))<|.e [] [2,0] [3,4] rfl rfl rfl rfl (QfI Qlk (Qey.ok h6) z4 (.cons (.of z3)<|.cons (.of .k)<|.cons (.of .k)<|.cons (.of z0)<|.nil))<|.n) fun m3 a w H=>?_;have H:=H.to [6,7,8,9,10,11,12,13] [_,_,_,_,_,_,_,_] [_,_,_] rfl rfl;refine Q2 H ?_;refine Qb [1,2,3,4,5,6,7,8,9,10,11] ?_;have⟨e3,h7,h⟩:=bs h;have J3:∀(p3:List Qv) (y5:Value),p3=e3→To M w0 119 [(48,tsl Qh x_.Kinds),(49,ti (x_.Kinds.length:Int)),(50,ti s1.1),(5,QaO 78 [tv (m0 0)]),(4,tv (m0 0)),(1,tptr (Qf.cs x_))] [glo,box (rVal.cs y5) (m0 0),own QZ 149 p3 y5] K5:=by
    intro p3 y5 he;subst he;refine k9 ?_;refine Q4 [1,2,3,4,5,6] ?_;refine Qar (fun _ _ H=>(H.pick [1,2,0,3,4,5]).selA [2,0,1] rfl) ?_;exact Qae k7 y5 ((sj h).symm) [0,1,2,3,4,5]
   refine Qs ?_;refine Qa6 h7 (fun (s2:Int×List Qv) (y6:Value)=>[(62,tsl Qd t1.Fields),(63,ti (t1.Fields.length:Int)),(64,ti s2.1),(10,tptr (Qh.cs t1)),(9,ti s1.1),(48,tsl Qh x_.Kinds),(49,ti (x_.Kinds.length:Int)),(50,ti s1.1),(5,QaO 78 [tv (m0 0)]),(4,tv (m0 0)),(1,tptr (Qf.cs x_))]) (fun (s2:Int×List Qv) (y6:Value)=>[glo,box (rVal.cs y6) (m0 0),own QZ 149 s2.2 y6]) (m3 5) [0,1,2,3,4,5,6,7,8,9,10] ?_;clear h;intro s2 y6 o K6 h ho k10;refine Qb [0,1,2,3,4,5,6,7,8,9,10,11] ?_;refine Qk fun _ k11=>?_;refine Qx h (fun _ h=>?_) (fun _ h=>?_)
   ·refine QE ?_;refine k11 ?_;refine Qk fun _ k12=>?_;refine Qs ?_;have⟨t3,_,h⟩:=bs h;refine QV [v1 3 (fun v0=>box (Qd.cs zz0) v0),v1 3 (fun v0=>box (Qd.cs t3) v0)] [4,6] [3,4,6,7,8,9,10,11,12,13,14,15,16] fun m4=>?_;refine Qaa (fun _ _ H=>(((H.selA [3,0,1,2] rfl).shareB 0 rfl).add 0 rfl (fun _ _ _ h=>h.2)).pick [0,3,4,5,6,7,8,9,10,11,12,13,14]) ?_;have⟨_,_,t4,_,h⟩:=bs2 h;refine Qb [9,10,11,12,13,14,15,16,17,18,19,20,21,22] ?_;refine Qk fun K7 k13=>?_;intro a w H;refine sr mx [v1 7 (fun v0=>box (Qcv.cs (QbO.mk none)) v0),v1 7 (fun v0=>box (Qcv.cs (QbO.mk (Qby t3.Kind))) v0)] H (fun _=>.u [0] rfl rfl (Qx5 (R:=rMapC QhM) (u:=()) Qyg tokM0 rfl)<|.o (QO Qhx z2)<|.o (QN (u:=t3.Kind) tok3 z0 rfl)<|.o (Qws z2 z0)<|.q 0 rfl<|.o (Qac z0 rfl)<|.o (Qac z1 rfl)<|.m [] [3] rfl rfl rfl (QaP (R:=Qcv) (a:=(QbO.mk none)) QnG QvK)<|.e [] [3] [4] rfl rfl rfl rfl (QaB (R:=Qcv) (a:=(QbO.mk (Qby t3.Kind))) QnG z0 z2 (leb rfl))<|.o (Qi z1)<|.n) fun _ a w H=>?_;replace H:St _ _ _ [_,_,_,_,_,_,_,_,_,_,_,_,_,_,_,_] [_,_,_] _ _:=((((H.pick [7,8,9,10,11,12,13,14,15,16,17,18,19,20,21,22]).selA [3,0,1,2] rfl).shareB 0 rfl).add 0 rfl (fun _ _ _ h=>h.2)).pick [0,3,4,5,6,7,8,9,10,11,12,13,14,15,16,17];refine Q2 H ?_;refine Qb [4,5,7,8,9,10,11,12,13,14,15,16,17,18,19,20] ?_;have⟨p4,h8,h⟩:=bs h;have J4:To M w0 119 [(13,ti p4),(11,ti s2.1),(62,tsl Qd t1.Fields),(63,ti (t1.Fields.length:Int)),(64,ti s2.1),(10,tptr (Qh.cs t1)),(9,ti s1.1),(48,tsl Qh x_.Kinds),(49,ti (x_.Kinds.length:Int)),(50,ti s1.1),(5,QaO 78 [tv (m0 0)]),(4,tv (m0 0)),(1,tptr (Qf.cs x_))] [glo,box (rVal.cs y6) (m0 0),own QZ 149 s2.2 y6] K7:=by
     refine k13 ?_;have⟨t5,h9,h⟩:=bs h;intro a w H;refine wr mx [v1 4 (fun v0=>box (rVal.cs v0) (m0 0)),v1 4 (fun v0=>own QZ 149 t5 v0)] H (fun _=>.q 10 rfl<|.q 7 rfl<|.q 3 rfl<|.q 3 rfl<|.e [] [1,2] [3,4] rfl rfl rfl rfl (QfI Qlk (Qey.ok h9) z3 (.cons (.of z2)<|.cons (.of z1)<|.cons (.of .k)<|.cons (.of z0)<|.nil))<|.n) fun m5 a w H=>?_;have H:=H.to [7,8,9,10,11,12,13,14,15,16,17] [_,_,_,_,_,_,_,_,_,_,_] [_,_,_] rfl rfl;refine QbD H ?_;refine k12 ?_;refine Q4 [1,2,3,4,5,6,7,8,9,10,11] ?_;exact Qae k10 (m5 4) ((sj h).symm) [1,2,0,3,4,5,6,7,8,9,10]
    replace h:=h8;clear h8;refine Qx h (fun _ h=>?_) (fun _ h=>?_)
    ·have⟨t6,h10,h⟩:=bs h;intro a w H;refine wr mx [] H (fun _=>.o (QO QqW z1)<|.o (QN (u:=((QbO.mk (Qby t3.Kind))).check) Qym z0 rfl)<|.o (QU Qc2 z17)<|.q 12 rfl<|.q 8 rfl<|.o (QU QaW z8)<|.p (T:=QaA.ty (Qam.mk x_ s1.1 s2.1 t3)) rfl (QaJ underlying163 pl163 zv163 Qum (.cons (R:=Qf) (u:=x_) rfl z3 (leb rfl)<|.cons (R:=rI) (u:=s1.1) rfl z2 (leb rfl)<|.cons (R:=rI) (u:=s2.1) rfl z1 (leb rfl)<|.cons (R:=Qd) (u:=t3) rfl z0 (leb rfl)<|.nil _))<|.o (Qx7 (u:=(Qam.mk x_ s1.1 s2.1 t3)) z5 (.cons (.of z0)<|.nil) h10)<|.o (Qi z0)<|.n) fun _ a w H=>?_;have H:=H.to [8,12,13,14,15,16,17,18,19,20,21,22,23] [_,_,_,_,_,_,_,_,_,_,_,_,_] [_,_,_] rfl rfl;refine QbD H ?_;obtain rfl:=sj h;exact Q3 J4 [0,1,2,3,4,5,6,7,8,9,10,11,12]
    refine QE ?_;obtain rfl:=sj h;exact Q3 J4 [2,4,5,6,7,8,9,10,11,12,13,14,15]
   refine Q7 ?_;exact Qae J3 y6 (ho _ (sj h).symm) [6,7,8,9,10,11]
  refine Q7 ?_;exact Qae J1 y4 (ho _ (sj h).symm) [4,5,6]
 refine Qs ?_;refine Qa6 h0 (fun (s3:Int×List Qv) (y7:Value)=>[(26,tsl QI x_.Lives),(27,ti (x_.Lives.length:Int)),(28,ti s3.1),(5,QaO 78 [tv (m0 0)]),(4,tv (m0 0)),(1,tptr (Qf.cs x_))]) (fun (s3:Int×List Qv) (y7:Value)=>[own QZ 149 s3.2 y7,glo,box (rVal.cs y7) (m0 0)]) nilV [0,1,2,3,4,5] ?_;clear h;intro s3 y7 o K8 h ho k14;refine Qb [0,1,2,3,4,5,6] ?_;refine Qk fun _ k15=>?_;refine Qx h (fun _ h=>?_) (fun _ h=>?_)
 ·refine QE ?_;refine k15 ?_;refine Qk fun _ k16=>?_;refine Qs ?_;have⟨t7,_,h⟩:=bs h;refine QV [v1 3 (fun v0=>box (QI.cs zz2) v0),v1 3 (fun v0=>box (QI.cs t7) v0)] [4,6] [3,4,6,7,8,9,10,11] fun m6=>?_;refine Qaa (fun _ _ H=>(((H.selA [3,0,1,2] rfl).shareB 0 rfl).add 0 rfl (fun _ _ _ h=>h.2)).pick [0,3,4,5,6,7,8,9]) ?_;have⟨_,_,t8,_,h⟩:=bs2 h;refine Qb [6,8,9,10,11,12,13,14] ?_;have⟨_,h11,t9,h12,h⟩:=bs2 h;intro a w H;refine wr mx [v1 6 (fun v0=>box (rVal.cs v0) (m0 0)),v1 6 (fun v0=>own QZ 149 t9 v0)] H (fun _=>.q 5 rfl<|.q 2 rfl<|.q 2 rfl<|.p (T:=Qa2.ty (Q6.mk t8 (7:Int))) rfl (QaJ underlying155 pl155 zv155 Qul (.cons (R:=QaN) (u:=t8) rfl z0 (leb rfl)<|.cons (R:=rI) (u:=(7:Int)) rfl .k (leb rfl)<|.nil _))<|.o (Qah (R:=Qa2) (us:=[(Q6.mk t8 (7:Int))]) underlying206 QqQ (.cons z0<|.nil _) rfl (leb rfl))<|.o (QG Qv9 (QnP.ok h11) (.cons (.of z0)<|.nil))<|.e [] [2,0] [3,4] rfl rfl rfl rfl (QfI Qlk (Qey.ok h12) z5 (.cons (.of .k)<|.cons (.of z4)<|.cons (.of .k)<|.cons (.of z0)<|.nil))<|.n) fun m7 a w H=>?_;have H:=H.to [9,10,11,12,13,14] [_,_,_,_,_,_] [_,_,_] rfl rfl;refine QbD H ?_;refine k16 ?_;refine Q4 [1,2,3,4,5,6] ?_;refine Qar (fun _ _ H=>(H.pick [1,2,0,3,4,5]).selA [2,0,1] rfl) ?_;exact Qae k14 (m7 6) ((sj h).symm) [0,1,2,3,4,5]
 refine Q7 ?_;exact Qae J0 y7 (ho _ (sj h).symm) [4,5,6]
def Qfo (x_:Qa):Option (Int):=(Qdk x_).bind fun t0=>(if (decide ((t0.length:Int)>0))=true then (idx t0 (0:Int)).bind fun t1=>(some t1.Code) else (some (0:Int)))
instance QzS:SpcS prog 53 (∀{x_:Qa} {r:Int},Qfo x_=some r→FnOk prog 53 [Qf.ty x_] [glo] (fun _=>[]) (fun _=>ti r)):=.mk fun {x_ r} h=>by
 unfold Qfo at h
 refine Fe func53 ntmps53 fun M0 M w0 hpl=>?_
 refine Qb [0] ?_
 refine Qk fun _ k0=>?_
 have⟨_,_,h⟩:=bs h
 refine Qb [2] ?_
 refine Qb [2,3] ?_
 refine Qx h (fun _ h=>?_) (fun _ h=>?_)
 ·have⟨_,_,h⟩:=bs h
  refine Qb [4] ?_
  exact Qu h (·▸Qq hpl)
 refine QE ?_
 refine k0 ?_
 refine Qb [0] ?_
 exact Qu h (·▸Qq hpl)
def Qfp (x_:Qa):Option (Int):=(Qdk x_).bind fun t0=>(if (decide ((t0.length:Int)>0))=true then (idx t0 (0:Int)).bind fun t1=>(some t1.Code) else (some (0:Int)))
instance QzT:SpcS prog 109 (∀{x_:Qa} {r:Int},Qfp x_=some r→FnOk prog 109 [Qf.ty x_] [glo] (fun _=>[]) (fun _=>ti r)):=.mk fun {x_ r} h=>by
 unfold Qfp at h
 refine Fe func109 ntmps109 fun M0 M w0 hpl=>?_
 refine Qb [0] ?_
 refine Qk fun _ k0=>?_
 have⟨_,_,h⟩:=bs h
 refine Qb [2] ?_
 refine Qb [2,3] ?_
 refine Qx h (fun _ h=>?_) (fun _ h=>?_)
 ·have⟨_,_,h⟩:=bs h
  refine Qb [4] ?_
  exact Qu h (·▸Qq hpl)
 refine QE ?_
 refine k0 ?_
 refine Qb [0] ?_
 exact Qu h (·▸Qq hpl)
def QcW (name_:Str) (a_:Int) (b_:Int) (lo_:Int) (hi_:Int) (c0_:(List Qe)) (c1_:(List Str)):Option ((List Qe)×(List Str)):=(rm (c0_.length+[(Qe.mk a_ b_ lo_ true),(Qe.mk a_ b_ hi_ false)].length)).bind fun _=>(cat (name_.length+([32,108,101,97,115,116]:Str).length)).bind fun _=>(cat (name_.length+([32,109,111,115,116]:Str).length)).bind fun _=>(rm (c1_.length+[(name_++([32,108,101,97,115,116]:Str)),(name_++([32,109,111,115,116]:Str))].length)).bind fun _=>(some ((c0_++[(Qe.mk a_ b_ lo_ true),(Qe.mk a_ b_ hi_ false)]),(c1_++[(name_++([32,108,101,97,115,116]:Str)),(name_++([32,109,111,115,116]:Str))])))
instance QhT:SpcS prog 110 (∀{q5:Value} {vh5:Value} {q6:Value} {vh6:Value} {name_:Str} {a_:Int} {b_:Int} {lo_:Int} {hi_:Int} {c0_:(List Qe)} {c1_:(List Str)} {r:(List Qe)×(List Str)},QcW name_ a_ b_ lo_ hi_ c0_ c1_=some r→FnOk prog 110 [tv (.string (sB name_)),ti a_,ti b_,ti lo_,ti hi_,tv q5,tv q6] [box (rVal.cs vh5) q5,own Qr 146 c0_ vh5,box (rVal.cs vh6) q6,own rS 9 c1_ vh6] (fun v=>[box (rVal.cs (gh v 0)) q5,own Qr 146 r.1 (gh v 0),box (rVal.cs (gh v 1)) q6,own rS 9 r.2 (gh v 1)]) (fun _=>ttup [])):=.mk fun {q5 vh5 q6 vh6 name_ a_ b_ lo_ hi_ c0_ c1_ r} h=>by
 unfold QcW at h
 refine Fe func110 ntmps110 fun M0 M w0 hpl=>?_
 have⟨_,_,h⟩:=bs h
 refine QV [v1 10 (fun v0=>own Qr 146 (c0_++[(Qe.mk a_ b_ lo_ true),(Qe.mk a_ b_ hi_ false)]) v0),v1 10 (fun v0=>box (rVal.cs v0) q5)] [11,12] [10,11,16,17] fun m0=>?_
 have⟨_,_,_,_,_,_,h⟩:=bs3 h
 refine QaY [v1 6 (fun v0=>own rS 9 (c1_++[(name_++([32,108,101,97,115,116]:Str)),(name_++([32,109,111,115,116]:Str))]) v0),v1 6 (fun v0=>box (rVal.cs v0) q6)] [7,8] [6,7,9,10] fun m1=>?_
 obtain rfl:=sj h
 exact Quo (.tuple #[(m0 10),(m1 6)]) [1,0,3,2] hpl
def Qb0 (x_:Qa):Option ((List Qe)×(List Str)×Int):=(Qfp x_).bind fun t0=>(if (t0 !=0)=true then (some (([]:List Qe),([]:List Str),t0)) else (Ql (fun (s0:Int×List Str×List Qe)=>((if (decide (s0.1<(x_.Kinds.length:Int)))=true then (idx x_.Kinds s0.1).bind fun t1=>(QcW t1.Name s0.1 (-1:Int) t1.Lo t1.Hi s0.2.2 s0.2.1).bind fun t2=>(Ql (fun (s1:Int×List Qe×List Str)=>((if (decide (s1.1<(t1.Fields.length:Int)))=true then (idx t1.Fields s1.1).bind fun t3=>((if (t3.Kind==1)=true then (cat (t1.Name.length+([46]:Str).length)).bind fun _=>(cat ((t1.Name++([46]:Str)).length+t3.Name.length)).bind fun _=>(QbR x_ t3.Of).bind fun t4=>(QcW ((t1.Name++([46]:Str))++t3.Name) s0.1 t4 t3.Lo t3.Hi s1.2.1 s1.2.2).bind fun t5=>(some (t5.1,t5.2)) else (some (s1.2.1,s1.2.2)))).bind fun p0=>(some (.inl ((i64.wrap (s1.1+1)),p0.1,p0.2))) else (some (.inr (s1.2.1,s1.2.2)))):Option ((Int×List Qe×List Str)⊕((List Qe×List Str))))) ((0:Int),t2.1,t2.2)).bind fun p1=>(some (.inl ((i64.wrap (s0.1+1)),p1.2,p1.1))) else (some (.inr (s0.2.1,s0.2.2)))):Option ((Int×List Str×List Qe)⊕((List Str×List Qe))))) ((0:Int),([]:List Str),([]:List Qe))).bind fun p2=>(some (p2.2,p2.1,(0:Int))))
instance QgN:SpcS prog 54 (∀{x_:Qa} {r:(List Qe)×(List Str)×Int},Qb0 x_=some r→FnOk prog 54 [Qf.ty x_] [glo] (fun v=>[own rS 9 r.2.1 v]) (fun v=>ttup [tsl Qr r.1,tv v,ti r.2.2])):=.mk fun {x_ r} h=>by
 unfold Qb0 at h
 refine Fe func54 ntmps54 fun M0 M w0 hpl=>?_
 refine Qb [0] ?_
 refine Qk fun _ k0=>?_
 have⟨_,_,h⟩:=bs h
 refine Qb [2,3] ?_
 refine Qb [1,2,3] ?_
 refine Qx h (fun _ h=>?_) (fun _ h=>?_)
 ·refine Qb [1,2,3] ?_
  refine Qaa (fun _ _ H=>H.nil (rS) 9) ?_
  exact Qu h (·▸QcD (.slice none 0 0) [0] hpl)
 refine QE ?_
 refine k0 ?_
 intro a w H
 refine sr mx [v1 0 (fun v0=>box (rVal.cs nilV) v0)] H (fun _=>.m [] [1] rfl rfl rfl (Qe2 QvT)<|.n) fun m0 a w H=>?_
 replace H:St _ _ _ [_,_] [_,_,_] _ _:=(H.pick [0,3]).nil (Qr) 146
 refine Q2 H ?_
 intro a w H
 refine sr mx [v1 0 (fun v0=>box (rVal.cs nilV) v0)] H (fun _=>.m [] [3] rfl rfl rfl (Qe2 QvQ)<|.n) fun m1 a w H=>?_
 replace H:St _ _ _ [_,_,_] [_,_,_,_,_] _ _:=(H.pick [0,1,2]).nil (rS) 9
 refine Q2 H ?_
 refine Qb [1,2,3,4] ?_
 refine Qk fun K0 k1=>?_
 refine Qb [1,2,3,4,5,6,7] ?_
 have⟨e0,h0,h⟩:=bs h
 have J0:∀(p0:List Str×List Qe) (y0:Value) (y1:Value),p0=e0→To M w0 67 [(7,tv (m1 0)),(6,tv (m0 0))] [own rS 9 p0.1 y0,own Qr 146 p0.2 y1,glo,box (rVal.cs y1) (m0 0),box (rVal.cs y0) (m1 0)] K0:=by
  intro p0 y0 y1 he;subst he;refine k1 ?_;refine Qb [0,1,2,3,4] ?_;refine Qaa (fun _ _ H=>H.selA [0,1,2] rfl) ?_;refine QaV ?_;refine Qar (by intro _ _ H;exact ((H.selA [1,0,2] rfl).shareO 2 rfl).pick [0,2,4,5]) ?_;obtain rfl:=sj h;exact QcD y0 [0] hpl
 refine Qs ?_;refine Qq9 h0 (fun (s0:Int×List Str×List Qe) (y2:Value) (y3:Value)=>[(20,tsl Qh x_.Kinds),(21,ti (x_.Kinds.length:Int)),(22,ti s0.1),(8,QaO 110 [tv (m0 0),tv (m1 0)]),(7,tv (m1 0)),(6,tv (m0 0)),(1,tptr (Qf.cs x_))]) (fun (s0:Int×List Str×List Qe) (y2:Value) (y3:Value)=>[own rS 9 s0.2.1 y2,own Qr 146 s0.2.2 y3,glo,box (rVal.cs y3) (m0 0),box (rVal.cs y2) (m1 0)]) nilV nilV [0,1,2,3,4,5,6] ?_;clear h;intro s0 y2 y3 o K1 h ho k2;refine Qb [0,1,2,3,4,5,6,7] ?_;refine Qk fun _ k3=>?_;refine Qx h (fun _ h=>?_) (fun _ h=>?_)
 ·refine QE ?_;refine k3 ?_;refine Qk fun K2 k4=>?_;refine Qs ?_;have⟨t0,_,h⟩:=bs h;refine QV [v1 3 (fun v0=>box (Qh.cs zz1) v0),v1 3 (fun v0=>box (Qh.cs t0) v0)] [4,6] [3,4,6,7,8,9,10,11,12] fun m2=>?_;refine Qaa (fun _ _ H=>(((H.selA [5,0,1,2,3,4] rfl).shareB 0 rfl).add 0 rfl (fun _ _ _ h=>h.2)).pick [0,3,4,5,6,7,8,9,10]) ?_;have⟨t1,h1,h⟩:=bs h;intro a w H;refine sr mx [v1 8 (fun v0=>box (rVal.cs (gh v0 0)) (m0 0)),v1 8 (fun v0=>own Qr 146 t1.1 (gh v0 0)),v1 8 (fun v0=>box (rVal.cs (gh v0 1)) (m1 0)),v1 8 (fun v0=>own rS 9 t1.2 (gh v0 1))] H (fun _=>.q 5 rfl<|.o (QO Qhw z1)<|.o (QN (u:=t0.Name) tok9 z0 rfl)<|.q 4 rfl<|.o (QO Qot z4)<|.o (QN (u:=t0.Lo) tok3 z0 rfl)<|.o (QO Qou z6)<|.o (QN (u:=t0.Hi) tok3 z0 rfl)<|.e [] [3,1,4,0] [5,6,7,8] rfl rfl rfl rfl (QfI Qoy (QhT.ok h1) z7 (.cons (.of z5)<|.cons (.of z4)<|.cons (.of .k)<|.cons (.of z2)<|.cons (.of z0)<|.nil))<|.n) fun m3 a w H=>?_;have H:=H.to [9,10,11,12,13,14,15,16,17] [_,_,_,_,_,_,_,_,_] [_,_,_,_,_] rfl rfl;refine Q2 H ?_;refine Qb [1,2,3,4,5,6,7,8,9,10,11,12] ?_;have⟨e1,h2,h⟩:=bs h;have J1:∀(p1:List Qe×List Str) (y4:Value) (y5:Value),p1=e1→To M w0 67 [(20,tsl Qh x_.Kinds),(21,ti (x_.Kinds.length:Int)),(22,ti s0.1),(8,QaO 110 [tv (m0 0),tv (m1 0)]),(7,tv (m1 0)),(6,tv (m0 0)),(1,tptr (Qf.cs x_))] [glo,box (rVal.cs y4) (m0 0),own Qr 146 p1.1 y4,box (rVal.cs y5) (m1 0),own rS 9 p1.2 y5] K2:=by
   intro p1 y4 y5 he;subst he;refine k4 ?_;refine Q4 [1,2,3,4,5,6,7] ?_;refine Qar (fun _ _ H=>(H.pick [1,2,0,3,4,5,6]).selA [4,2,0,1,3] rfl) ?_;exact QiP k2 y5 y4 ((sj h).symm) [0,1,2,3,4,5,6]
  refine Qs ?_;refine Qq9 h2 (fun (s1:Int×List Qe×List Str) (y6:Value) (y7:Value)=>[(37,tsl Qd t0.Fields),(38,ti (t0.Fields.length:Int)),(39,ti s1.1),(10,tptr (Qh.cs t0)),(9,ti s0.1),(20,tsl Qh x_.Kinds),(21,ti (x_.Kinds.length:Int)),(22,ti s0.1),(8,QaO 110 [tv (m0 0),tv (m1 0)]),(7,tv (m1 0)),(6,tv (m0 0)),(1,tptr (Qf.cs x_))]) (fun (s1:Int×List Qe×List Str) (y6:Value) (y7:Value)=>[glo,box (rVal.cs y6) (m0 0),own Qr 146 s1.2.1 y6,box (rVal.cs y7) (m1 0),own rS 9 s1.2.2 y7]) (gh (m3 8) 0) (gh (m3 8) 1) [0,1,2,3,4,5,6,7,8,9,10,11] ?_;clear h;intro s1 y6 y7 o K3 h ho k5;refine Qb [0,1,2,3,4,5,6,7,8,9,10,11,12] ?_;refine Qk fun _ k6=>?_;refine Qx h (fun _ h=>?_) (fun _ h=>?_)
  ·refine QE ?_;refine k6 ?_;refine Qk fun K4 k7=>?_;refine Qs ?_;have⟨t2,_,h⟩:=bs h;refine QV [v1 2 (fun v0=>box (Qd.cs zz0) v0),v1 2 (fun v0=>box (Qd.cs t2) v0)] [3,4] [2,4,5,6,7,8,9,10,11,12,13,14,15] fun m4=>?_;refine Qaa (fun _ _ H=>(((H.selA [5,0,1,2,3,4] rfl).shareB 0 rfl).add 0 rfl (fun _ _ _ h=>h.2)).pick [0,3,4,5,6,7,8,9,10,11,12,13,14]) ?_;refine Qb [2,3,4,5,6,7,8,9,10,11,12,13,14,15] ?_;have⟨p2,h3,h⟩:=bs h;have J2:∀(y8:Value) (y9:Value),To M w0 67 [(37,tsl Qd t0.Fields),(38,ti (t0.Fields.length:Int)),(39,ti s1.1),(10,tptr (Qh.cs t0)),(9,ti s0.1),(20,tsl Qh x_.Kinds),(21,ti (x_.Kinds.length:Int)),(22,ti s0.1),(8,QaO 110 [tv (m0 0),tv (m1 0)]),(7,tv (m1 0)),(6,tv (m0 0)),(1,tptr (Qf.cs x_))] [glo,box (rVal.cs y8) (m0 0),own Qr 146 p2.1 y8,box (rVal.cs y9) (m1 0),own rS 9 p2.2 y9] K4:=by
    intro y8 y9;refine k7 ?_;refine Q4 [1,2,3,4,5,6,7,8,9,10,11,12] ?_;exact QiP k5 y8 y9 ((sj h).symm) [1,2,0,3,4,5,6,7,8,9,10,11]
   replace h:=h3;clear h3;refine Qx h (fun _ h=>?_) (fun _ h=>?_)
   ·have⟨_,h4,_,h5,_,h6,t3,h7,h⟩:=bs4 h;intro a w H;refine wr mx [v1 16 (fun v0=>box (rVal.cs (gh v0 0)) (m0 0)),v1 16 (fun v0=>own Qr 146 t3.1 (gh v0 0)),v1 16 (fun v0=>box (rVal.cs (gh v0 1)) (m1 0)),v1 16 (fun v0=>own rS 9 t3.2 (gh v0 1))] H (fun _=>.q 10 rfl<|.o (QO Qhw z6)<|.o (QN (u:=t0.Name) tok9 z0 rfl)<|.o (Qfs z0 .k h4)<|.o (QO Qmb z5)<|.o (QN (u:=t2.Name) tok9 z0 rfl)<|.o (Qfs z2 z0 h5)<|.q 13 rfl<|.o (QU Qc2 z21)<|.o (QO Qov z10)<|.o (QN (u:=t2.Of) tok9 z0 rfl)<|.o (QG Qoz (QjL.ok h6) (.cons (.of z2)<|.cons (.of z0)<|.nil))<|.o (QO Qmc z13)<|.o (QN (u:=t2.Lo) tok3 z0 rfl)<|.o (QO Qmd z15)<|.o (QN (u:=t2.Hi) tok3 z0 rfl)<|.e [] [1,2,3,4] [5,6,7,8] rfl rfl rfl rfl (QfI Qoy (QhT.ok h7) z15 (.cons (.of z9)<|.cons (.of z8)<|.cons (.of z4)<|.cons (.of z2)<|.cons (.of z0)<|.nil))<|.n) fun m5 a w H=>?_;have H:=H.to [19,20,21,22,23,24,25,26,27,28,29,30] [_,_,_,_,_,_,_,_,_,_,_,_] [_,_,_,_,_] rfl rfl;refine QbD H ?_;obtain rfl:=sj h;exact Q3 (J2 (gh (m5 16) 0) (gh (m5 16) 1)) [0,1,2,3,4,5,6,7,8,9,10,11]
   refine QE ?_;obtain rfl:=sj h;exact Q3 (J2 y6 y7) [2,3,4,5,6,7,8,9,10,11,12,13]
  refine Q7 ?_;exact QiP J1 y6 y7 (ho _ (sj h).symm) [6,7,8,9,10,11,12]
 refine Q7 ?_;exact QiP J0 y2 y3 (ho _ (sj h).symm) [5,6]
def QdB (k_:Qg) (name_:Str):Option (Int):=(Qbw k_ name_).bind fun t0=>(some t0)
instance QkY:Spc2 prog 112 QdB (fun k_ name_=>[Qh.ty k_,tv (.string (sB name_))]) ti:=.mk fun {k_ name_ r} h=>by
 unfold QdB at h
 refine Fe func112 ntmps112 fun M0 M w0 hpl=>?_
 refine Qb [0,3] ?_
 have⟨_,_,h⟩:=bs h
 refine Qb [3] ?_
 exact Qu h (·▸Qq hpl)

/- Go functions as Lean functions, and the proofs that they compute them, written by a program. No condition. -/
import Derived.Test.YtlajingmjmnfgaaGreatDoorGenD
set_option linter.all false
open Go.Proofs.Tryz Go.IntKind
namespace Go.Proofs.YtlajingmjmnfgaaGreatDoor
open Go.Sim
set_option maxRecDepth 100000
set_option maxHeartbeats 4000000
noncomputable def Qc2 (self:Qa→Int→Int→Option (Int)) (x_:Qa) (kind_:Int) (field_:Int):Option (Int):=(Qcw x_ kind_ field_).bind fun t0=>(if (!t0.2)=true then (some (-1:Int)) else (if (((t0.1).Kind==7)||((t0.1).Kind==8))=true then (idx x_.Kinds kind_).bind fun t1=>(Qbh t1 (t0.1).Up).bind fun t2=>(Qcw x_ kind_ t2).bind fun t3=>(if ((t3.2&&(decide (t2<field_)))&&((t3.1).Kind==1))=true then (self x_ kind_ t2).bind fun t4=>(some t4) else (some (-1:Int))) else (if ((t0.1).Kind !=1)=true then (some (-1:Int)) else (QbC x_ (t0.1).Of).bind fun t5=>(if (decide (t5<kind_))=true then (some t5) else (some (-1:Int))))))
theorem Qn1 {self:Qa→Int→Int→Option (Int)} (hself:∀(x_:Qa) (kind_:Int) (field_:Int) (r:Int),self x_ kind_ field_=some r→FnOk prog 89 [Qf.ty x_,ti kind_,ti field_] [] (fun _=>[]) (fun _=>ti r)) {x_:Qa} {kind_:Int} {field_:Int} {r:Int} (h:Qc2 self x_ kind_ field_=some r):FnOk prog 89 [Qf.ty x_,ti kind_,ti field_] [] (fun _=>[]) (fun _=>ti r):=by
 unfold Qc2 at h;refine fe func89 ntmps89 fun M0 M w0 a hpl H=>?_;refine sr mx [] H (fun _=>.o (Qkt (R:=Qf) (u:=x_) z0)<|.o (Qn .k)<|.n) fun _ a w H=>?_;have H:=H.t3_0 [0,3,4];have⟨t0,h0,h⟩:=bs h;refine sr mx [v1 7 (fun v0=>box (Qd.cs zz0) v0),v1 7 (fun v0=>box (Qd.cs t0.1) v0)] H (fun _=>.o (Q3 Qci z0)<|.q 2 rfl<|.q 4 rfl<|.o (QC QmT (QjZ.ok h0) (.cons (.of z2)<|.cons (.of z1)<|.cons (.of z0)<|.nil))<|.q 0 rfl<|.o (Q8 z0 rfl)<|.o (Q8 z1 rfl)<|.m [] [0] rfl rfl rfl (Qbn (R:=Qd) (a:=zz0) Qar Qkz)<|.e [] [0] [1] rfl rfl rfl rfl (QaO (R:=Qd) (a:=t0.1) Qar z0 z2 (leb rfl))<|.o (Qn z1)<|.n) fun _ a w H=>?_;replace H:St _ _ _ [_,_,_,_,_] [] _ _:=(((H.pick [7,8,9,10,11]).shareB 0 rfl).add 0 rfl (fun _ _ _ h=>h.2)).pick [0,3,4,5,6];refine wp_seq_k (fun _ k0=>?_);refine wp_block ?_;refine sr mx [] H (fun _=>.q 1 rfl<|.o (Qin z0)<|.o (Qn z0)<|.n) fun _ a w H=>?_;have H:=H.to [2,3,5,6,7] [_,_,_,_,_] [] rfl rfl;refine wi H h (fun b0 h=>?_) (fun b0 h=>?_)
 ·refine sr mx [] H (fun _=>.o (Qn .k)<|.n) fun _ a w H=>?_;have H:=H.t1_0 [0];exact r0 h (·▸r1 hpl H (.tmp z0 .nil))
 refine sr mx [] H (fun _=>.o (QT Qf0 z1)<|.o (QQ (u:=(t0.1).Kind) tok3 z0 rfl)<|.o (QcA z0 .k)<|.q 0 rfl<|.g rfl rfl bq0 (fun _=>QT Qf0 z5)<|.g rfl rfl bq1 (fun hc=>QQ (u:=(t0.1).Kind) tok3 (.cond z0 hc) rfl)<|.g rfl rfl bq2 (fun hc=>QcA (.cond z0 hc) .k)<|.o (Qrv z3 (fun hp=>(.cond z0 (beqF hp))))<|.o (Qn z0)<|.n) fun _ a w H=>?_;have H:=H.to [8,10,11,12,13] [_,_,_,_,_] [] rfl rfl;refine wi H h (fun b1 h=>?_) (fun b1 h=>?_)
 ·have⟨t1,h1,t2,h2,h⟩:=bs2 h;refine sr mx [] H (fun _=>.o (QT QaL z2)<|.o (QQ (u:=x_.Kinds) QkA z0 rfl)<|.q 5 rfl<|.o (QdP ud29 QaS z1 z0 h1)<|.o (Q3 QaS z0)<|.o (QT QqM z6)<|.o (QQ (u:=(t0.1).Up) tok9 z0 rfl)<|.o (QC QtI (Qmc.ok h2) (.cons (.of z2)<|.cons (.of z0)<|.nil))<|.o (Qn z0)<|.n) fun _ a w H=>?_;have H:=H.to [8,11,12,13] [_,_,_,_] [] rfl rfl;refine wp_seq_k (fun _ k1=>?_);have⟨t3,h3,h⟩:=bs h;refine sr mx [v1 7 (fun v0=>box (Qd.cs zz0) v0),v1 7 (fun v0=>box (Qd.cs t3.1) v0)] H (fun _=>.o (Q3 Qci z1)<|.q 3 rfl<|.q 2 rfl<|.o (QC QmT (QjZ.ok h3) (.cons (.of z2)<|.cons (.of z1)<|.cons (.of z0)<|.nil))<|.q 0 rfl<|.o (Q8 z0 rfl)<|.o (Q8 z1 rfl)<|.m [] [0] rfl rfl rfl (Qbn (R:=Qd) (a:=zz0) Qar Qkz)<|.e [] [0] [1] rfl rfl rfl rfl (QaO (R:=Qd) (a:=t3.1) Qar z0 z2 (leb rfl))<|.o (Qn z1)<|.n) fun _ a w H=>?_;replace H:St _ _ _ [_,_,_,_,_,_] [] _ _:=(((H.pick [7,8,9,10,11,12]).shareB 0 rfl).add 0 rfl (fun _ _ _ h=>h.2)).pick [0,3,4,5,6,7];refine sr mx [] H (fun _=>.q 1 rfl<|.q 0 rfl<|.g rfl rfl bq0 (fun _=>Qah z4)<|.g rfl rfl bq1 (fun _=>Qah z8)<|.g rfl rfl bq2 (fun hc=>QcO (.cond z1 hc) (.cond z0 hc))<|.o (QcP z3 (fun hp=>(.cond z0 (beqT hp))))<|.q 0 rfl<|.g rfl rfl bq0 (fun _=>QT Qf0 z7)<|.g rfl rfl bq1 (fun hc=>QQ (u:=(t3.1).Kind) tok3 (.cond z0 hc) rfl)<|.g rfl rfl bq2 (fun hc=>QcA (.cond z0 hc) .k)<|.o (QcP z3 (fun hp=>(.cond z0 (beqT hp))))<|.n) fun _ a w H=>?_;have H:=H.to [10,13,14,15] [_,_,_,_] [] rfl rfl;refine wi H h (fun b2 h=>?_) (fun b2 h=>?_)
  ·have⟨t4,h4,h⟩:=bs h;refine sr mx [] H (fun _=>.o (Q3 Qci z2)<|.q 4 rfl<|.q 3 rfl<|.o (QC QtL (hself _ _ _ _ h4) (.cons (.of z2)<|.cons (.of z1)<|.cons (.of z0)<|.nil))<|.o (Qn z0)<|.n) fun _ a w H=>?_;have H:=H.t1_0 [4];exact r0 h (·▸r1 hpl H (.tmp z0 .nil))
  refine wp_skip (k1 _ _ ?_);refine sr mx [] H (fun _=>.o (Qn .k)<|.n) fun _ a w H=>?_;have H:=H.t1_0 [0];exact r0 h (·▸r1 hpl H (.tmp z0 .nil))
 refine sr mx [] H (fun _=>.o (QT Qf0 z1)<|.o (QQ (u:=(t0.1).Kind) tok3 z0 rfl)<|.o (Qov z0 .k)<|.o (Qn z0)<|.n) fun _ a w H=>?_;have H:=H.to [3,5,6,7] [_,_,_,_] [] rfl rfl;refine wi H h (fun b3 h=>?_) (fun b3 h=>?_)
 ·refine sr mx [] H (fun _=>.o (Qn .k)<|.n) fun _ a w H=>?_;have H:=H.t1_0 [0];exact r0 h (·▸r1 hpl H (.tmp z0 .nil))
 refine wp_skip (k0 _ _ ?_);refine wp_seq_k (fun _ k2=>?_);have⟨t5,h5,h⟩:=bs h;refine sr mx [] H (fun _=>.o (Q3 Qci z2)<|.o (QT QmO z2)<|.o (QQ (u:=(t0.1).Of) tok9 z0 rfl)<|.o (QC QmR (QiC.ok h5) (.cons (.of z2)<|.cons (.of z0)<|.nil))<|.o (Qn z0)<|.n) fun _ a w H=>?_;have H:=H.to [4,8] [_,_] [] rfl rfl;refine sr mx [] H (fun _=>.q 0 rfl<|.q 2 rfl<|.o (QcO z1 z0)<|.n) fun _ a w H=>?_;have H:=H.to [2,3] [_,_] [] rfl rfl;refine wi H h (fun b4 h=>?_) (fun b4 h=>?_)
 ·refine sr mx [] H (fun _=>.q 1 rfl<|.o (Qn z0)<|.n) fun _ a w H=>?_;have H:=H.t1_0 [1];exact r0 h (·▸r1 hpl H (.tmp z0 .nil))
 refine wp_skip (k2 _ _ ?_);refine sr mx [] H (fun _=>.o (Qn .k)<|.n) fun _ a w H=>?_;have H:=H.t1_0 [0];exact r0 h (·▸r1 hpl H (.tmp z0 .nil))
noncomputable def Qih:Nat→Qa→Int→Int→Option (Int)
 | 0=>fun _ _ _=>none
 | n+1=>Qc2 (Qih n)
theorem QiD:∀(n:Nat) (x_:Qa) (kind_:Int) (field_:Int) (r:Int),Qih n x_ kind_ field_=some r→FnOk prog 89 [Qf.ty x_,ti kind_,ti field_] [] (fun _=>[]) (fun _=>ti r)
 | 0,_,_,_,r,h=>by cases h
 | n+1,x_,kind_,field_,r,h=>Qn1 (fun x_ kind_ field_ r h=>QiD n x_ kind_ field_ r h) h
noncomputable def QdF (x_:Qa) (kind_:Int) (field_:Int):Option (Int):=Qih (field_.natAbs+2) x_ kind_ field_
theorem Qo8 {x_:Qa} {kind_:Int} {field_:Int} {r:Int} (h:QdF x_ kind_ field_=some r):FnOk prog 89 [Qf.ty x_,ti kind_,ti field_] [] (fun _=>[]) (fun _=>ti r):=QiD _ _ _ _ _ h
instance :Spc3 prog 89 (fun (x_:Qa) (kind_:Int) (field_:Int)=>QdF x_ kind_ field_) (fun (x_:Qa) (kind_:Int) (field_:Int)=>[Qf.ty x_,ti kind_,ti field_]) (fun (r:Int)=>ti r):=⟨fun h=>Qo8 h⟩
noncomputable def QbK (s_:Qac):Option (Bool):=(QdF s_.x s_.kind s_.field).bind fun t0=>(some (decide (t0<0)))
instance QsJ:Spc1 prog 260 QbK (fun s_=>[Qaq.ty s_]) tb:=.mk fun {s_ r} h=>by
 unfold QbK at h
 refine Fe func260 ntmps260 fun M0 M w0 hpl=>?_
 refine Qc [0] ?_
 have⟨_,_,h⟩:=bs h
 refine Qc [8] ?_
 exact Qt h (·▸Qr hpl)
noncomputable def Qdi (s_:Qac):Option (Int):=(QbK s_).bind fun t0=>(Qai [(QV.mk t0 (12:Int))]).bind fun t1=>(some t1)
instance Qj1:Spc1 prog 264 Qdi (fun s_=>[Qaq.ty s_]) ti:=.mk fun {s_ r} h=>by
 unfold Qdi at h
 refine Fe func264 ntmps264 fun M0 M w0 hpl=>?_
 refine Qc [0] ?_
 have⟨_,_,_,_,h⟩:=bs2 h
 refine Qc [5] ?_
 exact Qt h (·▸Qr hpl)
noncomputable def Qdj (s_:Qac):Option (Int):=(idx (s_.x).Kinds s_.kind).bind fun t0=>(Qbh t0 (s_.f).Of).bind fun t1=>(Qcw s_.x s_.kind t1).bind fun t2=>(Qai [(QV.mk (((s_.f).Of !=([]:Str))&&(((decide (t1<0))||(decide (t1≥s_.field)))||((t2.1).Kind !=4))) (12:Int))]).bind fun t3=>(some t3)
instance Qj2:Spc1 prog 265 Qdj (fun s_=>[Qaq.ty s_]) ti:=.mk fun {s_ r} h=>by
 unfold Qdj at h
 refine Fe func265 ntmps265 fun M0 M w0 hpl=>?_
 refine Qc [0] ?_
 have⟨_,_,_,_,h⟩:=bs2 h
 refine Qc [11,12] ?_
 have⟨t0,_,h⟩:=bs h
 refine QJ [v1 9 (fun v0=>box (Qd.cs zz0) v0),v1 9 (fun v0=>box (Qd.cs t0.1) v0)] [10,11] [9,11,12] fun m0=>?_
 refine Q0 (fun _ _ H=>((H.shareB 0 rfl).add 0 rfl (fun _ _ _ h=>h.2)).pick [0,3,4]) ?_
 have⟨_,_,h⟩:=bs h
 refine Qc [22] ?_
 exact Qt h (·▸Qr hpl)
noncomputable def QdG (l_:Qw) (c0_:Qac):Option (Bool):=(some (l_.Name==(c0_.f).Of))
instance Qr8:Spc2 prog 267 QdG (fun l_ c0_=>[Qy.ty l_,tptr (Qaq.cs c0_)]) tb:=.mk fun {l_ c0_ r} h=>by
 unfold QdG at h
 refine Fe func267 ntmps267 fun M0 M w0 hpl=>?_
 refine Qc [0,3] ?_
 refine Qc [6] ?_
 exact Qt h (·▸Qr hpl)
noncomputable def Qdk (s_:Qac):Option (Int):=(QaA (s_.x).Lives (fun x0=>QdG x0 s_)).bind fun t0=>(Qai [(QV.mk (!t0) (12:Int))]).bind fun t1=>(some t1)
instance Qj3:Spc1 prog 266 Qdk (fun s_=>[Qaq.ty s_]) ti:=.mk fun {s_ r} h=>by
 unfold Qdk at h
 refine Fe func266 ntmps266 fun M0 M w0 hpl=>?_
 refine Qc [0] ?_
 have⟨_,_,h⟩:=bs h
 refine Qc [5] ?_
 have⟨_,_,h⟩:=bs h
 refine Qc [5] ?_
 exact Qt h (·▸Qr hpl)
noncomputable def Qeb (x_:Qa) (kind_:Int) (f_:Qb):Option (Int×(List Int)):=(QbC x_ f_.Of).bind fun t0=>(if ((f_.Kind !=6)||(decide (t0≤kind_)))=true then (some ((-1:Int),([]:List Int))) else (idx x_.Kinds t0).bind fun t1=>(Qo (fun (s0:Int×List Int)=>((if (decide (s0.1<(t1.Fields.length:Int)))=true then (idx t1.Fields s0.1).bind fun t2=>(opt (((t2.Kind==7)&&(t2.Of==f_.Name))==true) (QdF x_ t0 s0.1) default).bind fun t3=>((if (((t2.Kind==7)&&(t2.Of==f_.Name))&&(t3==kind_))=true then (rm (s0.2.length+[s0.1].length)).bind fun _=>(some (s0.2++[s0.1])) else (some s0.2))).bind fun p0=>(some (.inl ((i64.wrap (s0.1+1)),p0))) else (some (.inr s0.2))):Option ((Int×List Int)⊕((List Int))))) ((0:Int),([]:List Int))).bind fun p1=>(some (t0,p1)))
instance Qwb:Spc3 prog 269 Qeb (fun x_ kind_ f_=>[Qf.ty x_,ti kind_,Qd.ty f_]) (fun r=>ttup [ti r.1,tsl rI r.2]):=.mk fun {x_ kind_ f_ r} h=>by
 unfold Qeb at h
 refine Fe func269 ntmps269 fun M0 M w0 hpl=>?_
 refine Qc [0,1,5] ?_
 have⟨t0,_,h⟩:=bs h
 refine Qc [4,5,6,7] ?_
 refine tIfs h [7,8,9,10,11] (fun _ h=>?_) (fun _ h=>?_)
 ·refine Qc [0,1] ?_
  exact Qt h (·▸Qr hpl)
 refine Qc [0,2,3,4,5] ?_
 refine Q0 (fun _ _ H=>H.nil (rI) 3) ?_
 refine Ql fun K0 k0=>?_
 have⟨t1,_,h⟩:=bs h
 refine Qc [5,6,7,8,9,10,11,12] ?_
 have⟨e0,h0,h⟩:=bs h
 have J0:∀(p0:List Int) (y0:Value),p0=e0→To M w0 61 [(9,tv y0),(8,ti t0)] [own rI 3 p0 y0] K0:=by
  intro p0 y0 he;subst he;refine k0 ?_;refine Qc [1,2,3,4] ?_;refine Qa5 ?_;refine Qaj (by intro _ _ H;exact (H.shareO 2 rfl).pick [0,2]) ?_;obtain rfl:=sj h;exact Qr hpl
 refine Qu ?_;refine Qa7 h0 (fun (s0:Int×List Int) (y1:Value)=>[(29,tsl Qd t1.Fields),(30,ti (t1.Fields.length:Int)),(31,ti s0.1),(9,tv y1),(8,ti t0),(3,tptr (Qf.cs x_)),(5,tptr (Qd.cs f_)),(1,ti kind_)]) (fun (s0:Int×List Int) (y1:Value)=>[own rI 3 s0.2 y1]) (.slice none 0 0) [0,1,2,3,4,5,6,7] ?_;clear h;intro s0 y1 o K1 h ho k1;refine Qc [0,1,2,3,4,5,6,7,8] ?_;refine Ql fun _ k2=>?_;refine Qz h (fun _ h=>?_) (fun _ h=>?_)
 ·refine QB ?_;refine k2 ?_;refine Ql fun K2 k3=>?_;refine Qu ?_;have⟨t2,_,h⟩:=bs h;refine QJ [v1 3 (fun v0=>box (Qd.cs zz0) v0),v1 3 (fun v0=>box (Qd.cs t2) v0)] [4,6] [3,4,6,7,8,9,10,11,12,13] fun m0=>?_;refine Q0 (fun _ _ H=>(((H.selA [1,0] rfl).shareB 0 rfl).add 0 rfl (fun _ _ _ h=>h.2)).pick [0,3,4,5,6,7,8,9,10,11]) ?_;have⟨_,_,h⟩:=bs h;refine Qc [17,19,20,21,22,23,24,25,26,27] ?_;have⟨p1,h1,h⟩:=bs h;have J1:∀(y2:Value),To M w0 61 [(9,tv y2),(29,tsl Qd t1.Fields),(30,ti (t1.Fields.length:Int)),(31,ti s0.1),(8,ti t0),(3,tptr (Qf.cs x_)),(5,tptr (Qd.cs f_)),(1,ti kind_)] [own rI 3 p1 y2] K2:=by
   intro y2;refine k3 ?_;refine Q2 [1,2,3,4,5,6,7,8] ?_;exact Q6 k1 y2 ((sj h).symm) [2,3,0,1,4,5,6,7]
  replace h:=h1;clear h1;refine Qz h (fun _ h=>?_) (fun _ h=>?_)
  ·have⟨_,_,h⟩:=bs h;refine QaF [v1 3 (fun v0=>own rI 3 (s0.2++[s0.1]) v0)] [4] [3,4,7,8,9,10,11,12,13] fun m1=>?_;obtain rfl:=sj h;exact QW (J1 (m1 3)) [1,2,3,4,5,6,7,8]
  refine QB ?_;obtain rfl:=sj h;exact QW (J1 y1) [5,2,3,4,6,7,8,9]
 refine Q5 ?_;exact Q6 J0 y1 (ho _ (sj h).symm) [4,5]
noncomputable def Qdl (s_:Qac):Option (Int):=(Qeb s_.x s_.kind s_.f).bind fun t0=>(Qai [(QV.mk (decide (t0.1<0)) (12:Int)),(QV.mk ((t0.2.length:Int) !=1) (11:Int))]).bind fun t1=>(some t1)
instance Qj4:Spc1 prog 268 Qdl (fun s_=>[Qaq.ty s_]) ti:=.mk fun {s_ r} h=>by
 unfold Qdl at h
 refine Fe func268 ntmps268 fun M0 M w0 hpl=>?_
 refine Qc [0] ?_
 have⟨_,_,h⟩:=bs h
 refine Qc [10,11] ?_
 have⟨_,_,h⟩:=bs h
 refine Qc [9] ?_
 exact Qt h (·▸Qr hpl)
noncomputable def Qcn (s_:Qac):Option (Qb×Bool):=(QdF s_.x s_.kind s_.field).bind fun t0=>(if (decide (t0<0))=true then (some (zz0,false)) else (idx (s_.x).Kinds t0).bind fun t1=>(Qbh t1 (s_.f).Of).bind fun t2=>(Qcw s_.x t0 t2).bind fun t3=>(some (t3.1,t3.2)))
instance QtZ:Spc1 prog 271 Qcn (fun s_=>[Qaq.ty s_]) (fun r=>ttup [Qd.ty r.1,tb r.2]):=.mk fun {s_ r} h=>by
 unfold Qcn at h
 refine Fe func271 ntmps271 fun M0 M w0 hpl=>?_
 refine QJ [v1 1 (fun v0=>box (Qd.cs zz0) v0)] [2] [0,1] fun m0=>?_
 have⟨_,_,h⟩:=bs h
 refine Qc [7,8,9] ?_
 refine tIfs h [1,2,3,4] (fun _ h=>?_) (fun _ h=>?_)
 ·refine QJ [v0 (box (Qd.cs zz0) (m0 1))] [2] [1,5] fun m1=>?_
  exact Qt h (·▸Qr hpl)
 have⟨_,_,_,_,t0,_,h⟩:=bs3 h
 refine QJ [v0 (box (Qd.cs t0.1) (m0 1))] [17] [16,20] fun m2=>?_
 exact Qt h (·▸Qr hpl)
noncomputable def Qdm (s_:Qac):Option (Int):=(Qcn s_).bind fun t0=>(QbK s_).bind fun t1=>(opt (((!t0.2)||((t0.1).Kind !=6))==false) (QbC s_.x (t0.1).Of) default).bind fun t2=>(Qai [(QV.mk t1 (12:Int)),(QV.mk (((!t0.2)||((t0.1).Kind !=6))||(t2 !=s_.kind)) (13:Int))]).bind fun t3=>(some t3)
instance Qj5:Spc1 prog 270 Qdm (fun s_=>[Qaq.ty s_]) ti:=.mk fun {s_ r} h=>by
 unfold Qdm at h
 refine Fe func270 ntmps270 fun M0 M w0 hpl=>?_
 refine Qc [0] ?_
 have⟨t0,_,h⟩:=bs h
 refine QJ [v1 5 (fun v0=>box (Qd.cs zz0) v0),v1 5 (fun v0=>box (Qd.cs t0.1) v0)] [6,7] [5,6,7] fun m0=>?_
 refine Q0 (fun _ _ H=>((H.shareB 0 rfl).add 0 rfl (fun _ _ _ h=>h.2)).pick [0,3,4]) ?_
 have⟨_,_,_,_,_,_,h⟩:=bs3 h
 refine Qc [23] ?_
 exact Qt h (·▸Qr hpl)
noncomputable def Qdn (s_:Qac):Option (Int):=(Qcn s_).bind fun t0=>(QbK s_).bind fun t1=>(Qai [(QV.mk t1 (12:Int)),(QV.mk ((!t0.2)||(!((((((t0.1).Kind==2)||((t0.1).Kind==3))||((t0.1).Kind==4))||((t0.1).Kind==5))||((t0.1).Kind==8)))) (13:Int))]).bind fun t2=>(some t2)
instance Qj6:Spc1 prog 272 Qdn (fun s_=>[Qaq.ty s_]) ti:=.mk fun {s_ r} h=>by
 unfold Qdn at h
 refine Fe func272 ntmps272 fun M0 M w0 hpl=>?_
 refine Qc [0] ?_
 have⟨t0,_,h⟩:=bs h
 refine QJ [v1 5 (fun v0=>box (Qd.cs zz0) v0),v1 5 (fun v0=>box (Qd.cs t0.1) v0)] [6,7] [5,6,7] fun m0=>?_
 refine Q0 (fun _ _ H=>((H.shareB 0 rfl).add 0 rfl (fun _ _ _ h=>h.2)).pick [0,3,4]) ?_
 refine Qc [23,25,26] ?_
 have⟨_,_,_,_,h⟩:=bs2 h
 refine Qc [12] ?_
 exact Qt h (·▸Qr hpl)
noncomputable def Qbj (i:Int):Option (Qac→Option Int):=if i=0 then some Qdh else if i=1 then some Qdi else if i=4 then some Qdj else if i=5 then some Qdk else if i=6 then some Qdl else if i=7 then some Qdm else if i=8 then some Qdn else none
theorem Qt0 {Γ:List (Nat×Ty)} {d:Option Tmp} {ty:TypeId} {pos:String} {af:Array Edge} {g:Option (Nat×Bool)} {x y:Operand} {i:Int} (hx:Fct Γ x Qs6) (hi:Fct Γ y (tv (.int .i64 i))):
  OpJ prog ⟨d,.lookup 161 x y true,ty,pos,af,g⟩ Γ [] [] (fun _=>[]) (fun _=>ttup [Qb5.ty (Qbz.mk (Qbj i)),tv (.bool (Qbj i).isSome)]):=by
 have key:(QbN QgF i).isSome=(Qbj i).isSome∧∀F w,(Qb5.ty (Qbz.mk (Qbj i))).ok F w ((QbN QgF i).getD (.agg #[.nilFunc])):=by
  unfold Qbj;by_cases h0:i=0
  ·subst h0;exact⟨rfl,fun F w=>⟨_,rfl,.cons ⟨263,[],[],[],[],rfl,.nil,.nil,QqV,fun _ _ hq=>Qj0.ok hq⟩ .nil⟩⟩
  by_cases h1:i=1
  ·subst h1;exact⟨rfl,fun F w=>⟨_,rfl,.cons ⟨264,[],[],[],[],rfl,.nil,.nil,QqW,fun _ _ hq=>Qj1.ok hq⟩ .nil⟩⟩
  by_cases h4:i=4
  ·subst h4;exact⟨rfl,fun F w=>⟨_,rfl,.cons ⟨265,[],[],[],[],rfl,.nil,.nil,QqX,fun _ _ hq=>Qj2.ok hq⟩ .nil⟩⟩
  by_cases h5:i=5
  ·subst h5;exact⟨rfl,fun F w=>⟨_,rfl,.cons ⟨266,[],[],[],[],rfl,.nil,.nil,QqY,fun _ _ hq=>Qj3.ok hq⟩ .nil⟩⟩
  by_cases h6:i=6
  ·subst h6;exact⟨rfl,fun F w=>⟨_,rfl,.cons ⟨268,[],[],[],[],rfl,.nil,.nil,QqZ,fun _ _ hq=>Qj4.ok hq⟩ .nil⟩⟩
  by_cases h7:i=7
  ·subst h7;exact⟨rfl,fun F w=>⟨_,rfl,.cons ⟨270,[],[],[],[],rfl,.nil,.nil,Qq0,fun _ _ hq=>Qj5.ok hq⟩ .nil⟩⟩
  by_cases h8:i=8
  ·subst h8;exact⟨rfl,fun F w=>⟨_,rfl,.cons ⟨272,[],[],[],[],rfl,.nil,.nil,Qq1,fun _ _ hq=>Qj6.ok hq⟩ .nil⟩⟩
  simp only[QbN,QgF,if_neg h0,if_neg h1,if_neg h4,if_neg h5,if_neg h6,if_neg h7,if_neg h8];exact⟨rfl,fun F w=>⟨_,rfl,.cons rfl .nil⟩⟩
 have h:=Qvs (P:=prog) (Γ:=Γ) (d:=d) (ty:=ty) (pos:=pos) (af:=af) (g:=g) (V:=fun _=>Qb5.ty (Qbz.mk (Qbj i))) underlying161 ud3 zv159 hx hi key.2;rw[key.1] at h;exact h
noncomputable def Qdy (x_:Qa):Option ((List Qq)):=(QeJ x_).bind fun t0=>(if (t0 !=0)=true then (some [(Qq.mk (-1:Int) (-1:Int) (-1:Int) t0)]) else (Qo (fun (s0:Int×List Qq)=>((if (decide (s0.1<(x_.Lives.length:Int)))=true then (idx x_.Lives s0.1).bind fun t1=>(sub x_.Lives (0:Int) s0.1).bind fun t2=>(QaA t2 (fun x0=>QeY x0 t1)).bind fun t3=>(Qai [(QV.mk t3 (7:Int))]).bind fun t4=>(QbR (-1:Int) s0.1 (-1:Int) t4 s0.2).bind fun t5=>(some (.inl ((i64.wrap (s0.1+1)),t5))) else (some (.inr s0.2))):Option ((Int×List Qq)⊕((List Qq))))) ((0:Int),([]:List Qq))).bind fun p0=>(Qo (fun (s1:Int×List Qq)=>((if (decide (s1.1<(x_.Kinds.length:Int)))=true then (idx x_.Kinds s1.1).bind fun t6=>(Qff x_ s1.1).bind fun t7=>(QbR s1.1 (-1:Int) (-1:Int) t7 s1.2).bind fun t8=>(Qo (fun (s2:Int×List Qq)=>((if (decide (s2.1<(t6.Fields.length:Int)))=true then (idx t6.Fields s2.1).bind fun t9=>(Qbh t6 t9.Name).bind fun t10=>(Qai [(QV.mk (decide (t10<s2.1)) (7:Int))]).bind fun t11=>((if ((Qbj t9.Kind).isSome&&(t11==0))=true then (Qkv ((Qbz.mk (Qbj t9.Kind))).check (Qac.mk x_ s1.1 s2.1 t9)).bind fun t12=>(some t12) else (some t11))).bind fun p1=>(QbR s1.1 s2.1 (-1:Int) p1 s2.2).bind fun t13=>(some (.inl ((i64.wrap (s2.1+1)),t13))) else (some (.inr s2.2))):Option ((Int×List Qq)⊕((List Qq))))) ((0:Int),t8)).bind fun p2=>(some (.inl ((i64.wrap (s1.1+1)),p2))) else (some (.inr s1.2))):Option ((Int×List Qq)⊕((List Qq))))) ((0:Int),p0)).bind fun p3=>(Qo (fun (s3:Int×List Qq)=>((if (decide (s3.1<(x_.Rules.length:Int)))=true then (Qfg x_ s3.1).bind fun t14=>(QbR (-1:Int) (-1:Int) s3.1 t14 s3.2).bind fun t15=>(some (.inl ((i64.wrap (s3.1+1)),t15))) else (some (.inr s3.2))):Option ((Int×List Qq)⊕((List Qq))))) ((0:Int),p3)).bind fun p4=>(some p4))
instance QwX:SpcS prog 25 (∀{x_:Qa} {r:(List Qq)},Qdy x_=some r→FnOk prog 25 [Qf.ty x_] [glo] (fun _=>[]) (fun _=>tsl QR r)):=.mk fun {x_ r} h=>by
 unfold Qdy at h
 refine Fe func25 ntmps25 fun M0 M w0 hpl=>?_
 refine Qc [0] ?_
 refine Ql fun _ k0=>?_
 have⟨_,_,h⟩:=bs h
 refine Qc [2,3] ?_
 refine Qc [1,2,3] ?_
 refine Qz h (fun _ h=>?_) (fun _ h=>?_)
 ·refine Qc [3] ?_
  exact Qt h (·▸Qr hpl)
 refine QB ?_
 refine k0 ?_
 intro a w H
 refine sr mx [v1 0 (fun v0=>box (rVal.cs nilV) v0)] H (fun _=>.m [] [1] rfl rfl rfl (Qek Qto)<|.n) fun m0 a w H=>?_
 replace H:St _ _ _ [_,_] [_,_,_] _ _:=(H.pick [0,3]).nil (QR) 149
 refine QS H ?_
 refine Qc [1,2,3] ?_
 refine Ql fun K0 k1=>?_
 refine Qc [1,2,3,4,5,6] ?_
 have⟨e0,h0,h⟩:=bs h
 have J0:∀(p0:List Qq) (y0:Value),p0=e0→To M w0 119 [(5,Qaz 78 [tv (m0 0)]),(4,tv (m0 0)),(1,tptr (Qf.cs x_))] [own QR 149 p0 y0,glo,box (rVal.cs y0) (m0 0)] K0:=by
  intro p0 y0 he;subst he;refine k1 ?_;refine Ql fun K1 k2=>?_;refine Qc [1,2,3,4,5,6] ?_;have⟨e1,h1,h⟩:=bs h;have J1:∀(p1:List Qq) (y1:Value),p1=e1→To M w0 119 [(5,Qaz 78 [tv (m0 0)]),(4,tv (m0 0)),(1,tptr (Qf.cs x_))] [own QR 149 p1 y1,glo,box (rVal.cs y1) (m0 0)] K1:=by
   intro p1 y1 he;subst he;refine k2 ?_;refine Ql fun K2 k3=>?_;refine Qc [2,3,4,5,6] ?_;have⟨e2,h2,h⟩:=bs h;have J2:∀(p2:List Qq) (y2:Value),p2=e2→To M w0 119 [(4,tv (m0 0))] [own QR 149 p2 y2,glo,box (rVal.cs y2) (m0 0)] K2:=by
    intro p2 y2 he;subst he;refine k3 ?_;refine Qc [0,1] ?_;refine Q0 (fun _ _ H=>H.selA [0,1] rfl) ?_;refine Qa5 ?_;refine Qaj (by intro _ _ H;exact (H.shareO 1 rfl).pick [0]) ?_;obtain rfl:=sj h;exact Qr hpl
   refine Qu ?_;refine Qa7 h2 (fun (s0:Int×List Qq) (y3:Value)=>[(107,ti (x_.Rules.length:Int)),(108,ti s0.1),(5,Qaz 78 [tv (m0 0)]),(4,tv (m0 0)),(1,tptr (Qf.cs x_))]) (fun (s0:Int×List Qq) (y3:Value)=>[own QR 149 s0.2 y3,glo,box (rVal.cs y3) (m0 0)]) y1 [0,1,2,3,4] ?_;clear h;intro s0 y3 o K3 h ho k4;refine Qc [0,1,2,3,4,5] ?_;refine Ql fun _ k5=>?_;refine Qz h (fun _ h=>?_) (fun _ h=>?_)
   ·refine QB ?_;refine k5 ?_;refine Ql fun _ k6=>?_;refine Qu ?_;refine Qc [1,3,4,5,6,7] ?_;have⟨_,h3,t0,h4,h⟩:=bs2 h;intro a w H;refine wr mx [v1 5 (fun v0=>box (rVal.cs v0) (m0 0)),v1 5 (fun v0=>own QR 149 t0 v0)] H (fun _=>.q 3 rfl<|.q 1 rfl<|.o (Q3 Qci z7)<|.q 3 rfl<|.o (QC QtJ (QmY.ok h3) (.cons (.of z1)<|.cons (.of z0)<|.nil))<|.e [] [2,0] [3,4] rfl rfl rfl rfl (Qe7 QjU (QdV.ok h4) z4 (.cons (.of .k)<|.cons (.of .k)<|.cons (.of z3)<|.cons (.of z0)<|.nil))<|.n) fun m1 a w H=>?_;have H:=H.to [7,8,9,10,11] [_,_,_,_,_] [_,_,_] rfl rfl;refine QbZ H ?_;refine k6 ?_;refine Q2 [1,2,3,4,5] ?_;refine Qaj (fun _ _ H=>(H.pick [1,0,2,3,4]).selA [2,0,1] rfl) ?_;exact Q6 k4 (m1 5) ((sj h).symm) [0,1,2,3,4]
   refine Q5 ?_;exact Q6 J2 y3 (ho _ (sj h).symm) [4]
  refine Qu ?_;refine Qa7 h1 (fun (s1:Int×List Qq) (y4:Value)=>[(48,tsl Qh x_.Kinds),(49,ti (x_.Kinds.length:Int)),(50,ti s1.1),(5,Qaz 78 [tv (m0 0)]),(4,tv (m0 0)),(1,tptr (Qf.cs x_))]) (fun (s1:Int×List Qq) (y4:Value)=>[own QR 149 s1.2 y4,glo,box (rVal.cs y4) (m0 0)]) y0 [0,1,2,3,4,5] ?_;clear h;intro s1 y4 o K4 h ho k7;refine Qc [0,1,2,3,4,5,6] ?_;refine Ql fun _ k8=>?_;refine Qz h (fun _ h=>?_) (fun _ h=>?_)
  ·refine QB ?_;refine k8 ?_;refine Ql fun K5 k9=>?_;refine Qu ?_;have⟨t1,_,h⟩:=bs h;refine QJ [v1 3 (fun v0=>box (Qh.cs zz1) v0),v1 3 (fun v0=>box (Qh.cs t1) v0)] [4,6] [3,4,6,7,8,9,10,11] fun m2=>?_;refine Q0 (fun _ _ H=>(((H.selA [3,0,1,2] rfl).shareB 0 rfl).add 0 rfl (fun _ _ _ h=>h.2)).pick [0,3,4,5,6,7,8,9]) ?_;have⟨_,h5,t2,h6,h⟩:=bs2 h;intro a w H;refine sr mx [v1 5 (fun v0=>box (rVal.cs v0) (m0 0)),v1 5 (fun v0=>own QR 149 t2 v0)] H (fun _=>.q 5 rfl<|.q 2 rfl<|.o (Q3 Qci z9)<|.q 4 rfl<|.o (QC QtH (QmX.ok h5) (.cons (.of z1)<|.cons (.of z0)<|.nil))<|.e [] [2,0] [3,4] rfl rfl rfl rfl (Qe7 QjU (QdV.ok h6) z4 (.cons (.of z3)<|.cons (.of .k)<|.cons (.of .k)<|.cons (.of z0)<|.nil))<|.n) fun m3 a w H=>?_;have H:=H.to [6,7,8,9,10,11,12,13] [_,_,_,_,_,_,_,_] [_,_,_] rfl rfl;refine QS H ?_;refine Qc [1,2,3,4,5,6,7,8,9,10,11] ?_;have⟨e3,h7,h⟩:=bs h;have J3:∀(p3:List Qq) (y5:Value),p3=e3→To M w0 119 [(48,tsl Qh x_.Kinds),(49,ti (x_.Kinds.length:Int)),(50,ti s1.1),(5,Qaz 78 [tv (m0 0)]),(4,tv (m0 0)),(1,tptr (Qf.cs x_))] [glo,box (rVal.cs y5) (m0 0),own QR 149 p3 y5] K5:=by
    intro p3 y5 he;subst he;refine k9 ?_;refine Q2 [1,2,3,4,5,6] ?_;refine Qaj (fun _ _ H=>(H.pick [1,2,0,3,4,5]).selA [2,0,1] rfl) ?_;exact Q6 k7 y5 ((sj h).symm) [0,1,2,3,4,5]
   refine Qu ?_;refine Qa7 h7 (fun (s2:Int×List Qq) (y6:Value)=>[(62,tsl Qd t1.Fields),(63,ti (t1.Fields.length:Int)),(64,ti s2.1),(10,tptr (Qh.cs t1)),(9,ti s1.1),(48,tsl Qh x_.Kinds),(49,ti (x_.Kinds.length:Int)),(50,ti s1.1),(5,Qaz 78 [tv (m0 0)]),(4,tv (m0 0)),(1,tptr (Qf.cs x_))]) (fun (s2:Int×List Qq) (y6:Value)=>[glo,box (rVal.cs y6) (m0 0),own QR 149 s2.2 y6]) (m3 5) [0,1,2,3,4,5,6,7,8,9,10] ?_;clear h;intro s2 y6 o K6 h ho k10;refine Qc [0,1,2,3,4,5,6,7,8,9,10,11] ?_;refine Ql fun _ k11=>?_;refine Qz h (fun _ h=>?_) (fun _ h=>?_)
   ·refine QB ?_;refine k11 ?_;refine Ql fun _ k12=>?_;refine Qu ?_;have⟨t3,_,h⟩:=bs h;refine QJ [v1 3 (fun v0=>box (Qd.cs zz0) v0),v1 3 (fun v0=>box (Qd.cs t3) v0)] [4,6] [3,4,6,7,8,9,10,11,12,13,14,15,16] fun m4=>?_;refine Q0 (fun _ _ H=>(((H.selA [3,0,1,2] rfl).shareB 0 rfl).add 0 rfl (fun _ _ _ h=>h.2)).pick [0,3,4,5,6,7,8,9,10,11,12,13,14]) ?_;have⟨_,_,t4,_,h⟩:=bs2 h;refine Qc [9,10,11,12,13,14,15,16,17,18,19,20,21,22] ?_;refine Ql fun K7 k13=>?_;intro a w H;refine sr mx [v1 7 (fun v0=>box (Qb5.cs (Qbz.mk none)) v0),v1 7 (fun v0=>box (Qb5.cs (Qbz.mk (Qbj t3.Kind))) v0)] H (fun _=>.u [0] rfl rfl (Qvp (R:=rMapC QgF) (u:=()) Qvz tokM0 rfl)<|.o (QT Qf0 z2)<|.o (QQ (u:=t3.Kind) tok3 z0 rfl)<|.o (Qt0 z2 z0)<|.q 0 rfl<|.o (Q8 z0 rfl)<|.o (Q8 z1 rfl)<|.m [] [3] rfl rfl rfl (Qbn (R:=Qb5) (a:=(Qbz.mk none)) Ql1 Qtg)<|.e [] [3] [4] rfl rfl rfl rfl (QaO (R:=Qb5) (a:=(Qbz.mk (Qbj t3.Kind))) Ql1 z0 z2 (leb rfl))<|.o (Qn z1)<|.n) fun _ a w H=>?_;replace H:St _ _ _ [_,_,_,_,_,_,_,_,_,_,_,_,_,_,_,_] [_,_,_] _ _:=((((H.pick [7,8,9,10,11,12,13,14,15,16,17,18,19,20,21,22]).selA [3,0,1,2] rfl).shareB 0 rfl).add 0 rfl (fun _ _ _ h=>h.2)).pick [0,3,4,5,6,7,8,9,10,11,12,13,14,15,16,17];refine QS H ?_;refine Qc [4,5,7,8,9,10,11,12,13,14,15,16,17,18,19,20] ?_;have⟨p4,h8,h⟩:=bs h;have J4:To M w0 119 [(13,ti p4),(11,ti s2.1),(62,tsl Qd t1.Fields),(63,ti (t1.Fields.length:Int)),(64,ti s2.1),(10,tptr (Qh.cs t1)),(9,ti s1.1),(48,tsl Qh x_.Kinds),(49,ti (x_.Kinds.length:Int)),(50,ti s1.1),(5,Qaz 78 [tv (m0 0)]),(4,tv (m0 0)),(1,tptr (Qf.cs x_))] [glo,box (rVal.cs y6) (m0 0),own QR 149 s2.2 y6] K7:=by
     refine k13 ?_;have⟨t5,h9,h⟩:=bs h;intro a w H;refine wr mx [v1 4 (fun v0=>box (rVal.cs v0) (m0 0)),v1 4 (fun v0=>own QR 149 t5 v0)] H (fun _=>.q 10 rfl<|.q 7 rfl<|.q 3 rfl<|.q 3 rfl<|.e [] [1,2] [3,4] rfl rfl rfl rfl (Qe7 QjU (QdV.ok h9) z3 (.cons (.of z2)<|.cons (.of z1)<|.cons (.of .k)<|.cons (.of z0)<|.nil))<|.n) fun m5 a w H=>?_;have H:=H.to [7,8,9,10,11,12,13,14,15,16,17] [_,_,_,_,_,_,_,_,_,_,_] [_,_,_] rfl rfl;refine QbZ H ?_;refine k12 ?_;refine Q2 [1,2,3,4,5,6,7,8,9,10,11] ?_;exact Q6 k10 (m5 4) ((sj h).symm) [1,2,0,3,4,5,6,7,8,9,10]
    replace h:=h8;clear h8;refine Qz h (fun _ h=>?_) (fun _ h=>?_)
    ·have⟨t6,h10,h⟩:=bs h;intro a w H;refine wr mx [] H (fun _=>.o (QT QoR z1)<|.o (QQ (u:=((Qbz.mk (Qbj t3.Kind))).check) QvE z0 rfl)<|.o (Q3 Qci z17)<|.q 12 rfl<|.q 8 rfl<|.o (Q3 Qar z8)<|.p (T:=Qaq.ty (Qac.mk x_ s1.1 s2.1 t3)) rfl (QaR underlying163 pl163 zv163 QrY (.cons (R:=Qf) (u:=x_) rfl z3 (leb rfl)<|.cons (R:=rI) (u:=s1.1) rfl z2 (leb rfl)<|.cons (R:=rI) (u:=s2.1) rfl z1 (leb rfl)<|.cons (R:=Qd) (u:=t3) rfl z0 (leb rfl)<|.nil _))<|.o (Qvr (u:=(Qac.mk x_ s1.1 s2.1 t3)) z5 (.cons (.of z0)<|.nil) h10)<|.o (Qn z0)<|.n) fun _ a w H=>?_;have H:=H.to [8,12,13,14,15,16,17,18,19,20,21,22,23] [_,_,_,_,_,_,_,_,_,_,_,_,_] [_,_,_] rfl rfl;refine QbZ H ?_;obtain rfl:=sj h;exact QW J4 [0,1,2,3,4,5,6,7,8,9,10,11,12]
    refine QB ?_;obtain rfl:=sj h;exact QW J4 [2,4,5,6,7,8,9,10,11,12,13,14,15]
   refine Q5 ?_;exact Q6 J3 y6 (ho _ (sj h).symm) [6,7,8,9,10,11]
  refine Q5 ?_;exact Q6 J1 y4 (ho _ (sj h).symm) [4,5,6]
 refine Qu ?_;refine Qa7 h0 (fun (s3:Int×List Qq) (y7:Value)=>[(26,tsl Qy x_.Lives),(27,ti (x_.Lives.length:Int)),(28,ti s3.1),(5,Qaz 78 [tv (m0 0)]),(4,tv (m0 0)),(1,tptr (Qf.cs x_))]) (fun (s3:Int×List Qq) (y7:Value)=>[own QR 149 s3.2 y7,glo,box (rVal.cs y7) (m0 0)]) nilV [0,1,2,3,4,5] ?_;clear h;intro s3 y7 o K8 h ho k14;refine Qc [0,1,2,3,4,5,6] ?_;refine Ql fun _ k15=>?_;refine Qz h (fun _ h=>?_) (fun _ h=>?_)
 ·refine QB ?_;refine k15 ?_;refine Ql fun _ k16=>?_;refine Qu ?_;have⟨t7,_,h⟩:=bs h;refine QJ [v1 3 (fun v0=>box (Qy.cs zz2) v0),v1 3 (fun v0=>box (Qy.cs t7) v0)] [4,6] [3,4,6,7,8,9,10,11] fun m6=>?_;refine Q0 (fun _ _ H=>(((H.selA [3,0,1,2] rfl).shareB 0 rfl).add 0 rfl (fun _ _ _ h=>h.2)).pick [0,3,4,5,6,7,8,9]) ?_;have⟨_,_,t8,_,h⟩:=bs2 h;refine Qc [6,8,9,10,11,12,13,14] ?_;have⟨_,h11,t9,h12,h⟩:=bs2 h;intro a w H;refine wr mx [v1 6 (fun v0=>box (rVal.cs v0) (m0 0)),v1 6 (fun v0=>own QR 149 t9 v0)] H (fun _=>.q 5 rfl<|.q 2 rfl<|.q 2 rfl<|.p (T:=QaK.ty (QV.mk t8 (7:Int))) rfl (QaR underlying155 pl155 zv155 QrX (.cons (R:=QbM) (u:=t8) rfl z0 (leb rfl)<|.cons (R:=rI) (u:=(7:Int)) rfl .k (leb rfl)<|.nil _))<|.o (Qao (R:=QaK) (us:=[(QV.mk t8 (7:Int))]) underlying206 QoO (.cons z0<|.nil _) rfl (leb rfl))<|.o (QC QtG (Qmb.ok h11) (.cons (.of z0)<|.nil))<|.e [] [2,0] [3,4] rfl rfl rfl rfl (Qe7 QjU (QdV.ok h12) z5 (.cons (.of .k)<|.cons (.of z4)<|.cons (.of .k)<|.cons (.of z0)<|.nil))<|.n) fun m7 a w H=>?_;have H:=H.to [9,10,11,12,13,14] [_,_,_,_,_,_] [_,_,_] rfl rfl;refine QbZ H ?_;refine k16 ?_;refine Q2 [1,2,3,4,5,6] ?_;refine Qaj (fun _ _ H=>(H.pick [1,2,0,3,4,5]).selA [2,0,1] rfl) ?_;exact Q6 k14 (m7 6) ((sj h).symm) [0,1,2,3,4,5]
 refine Q5 ?_;exact Q6 J0 y7 (ho _ (sj h).symm) [4,5,6]
noncomputable def QeK (x_:Qa):Option (Int):=(Qdy x_).bind fun t0=>(if (decide ((t0.length:Int)>0))=true then (idx t0 (0:Int)).bind fun t1=>(some t1.Code) else (some (0:Int)))
instance QwY:SpcS prog 53 (∀{x_:Qa} {r:Int},QeK x_=some r→FnOk prog 53 [Qf.ty x_] [glo] (fun _=>[]) (fun _=>ti r)):=.mk fun {x_ r} h=>by
 unfold QeK at h
 refine Fe func53 ntmps53 fun M0 M w0 hpl=>?_
 refine Qc [0] ?_
 refine Ql fun _ k0=>?_
 have⟨_,_,h⟩:=bs h
 refine Qc [2] ?_
 refine Qc [2,3] ?_
 refine Qz h (fun _ h=>?_) (fun _ h=>?_)
 ·have⟨_,_,h⟩:=bs h
  refine Qc [4] ?_
  exact Qt h (·▸Qr hpl)
 refine QB ?_
 refine k0 ?_
 refine Qc [0] ?_
 exact Qt h (·▸Qr hpl)
noncomputable def QeL (x_:Qa):Option (Int):=(Qdy x_).bind fun t0=>(if (decide ((t0.length:Int)>0))=true then (idx t0 (0:Int)).bind fun t1=>(some t1.Code) else (some (0:Int)))
instance QwZ:SpcS prog 109 (∀{x_:Qa} {r:Int},QeL x_=some r→FnOk prog 109 [Qf.ty x_] [glo] (fun _=>[]) (fun _=>ti r)):=.mk fun {x_ r} h=>by
 unfold QeL at h
 refine Fe func109 ntmps109 fun M0 M w0 hpl=>?_
 refine Qc [0] ?_
 refine Ql fun _ k0=>?_
 have⟨_,_,h⟩:=bs h
 refine Qc [2] ?_
 refine Qc [2,3] ?_
 refine Qz h (fun _ h=>?_) (fun _ h=>?_)
 ·have⟨_,_,h⟩:=bs h
  refine Qc [4] ?_
  exact Qt h (·▸Qr hpl)
 refine QB ?_
 refine k0 ?_
 refine Qc [0] ?_
 exact Qt h (·▸Qr hpl)
noncomputable def Qco (name_:Str) (a_:Int) (b_:Int) (lo_:Int) (hi_:Int) (c0_:(List Qg)) (c1_:(List Str)):Option ((List Qg)×(List Str)):=(rm (c0_.length+[(Qg.mk a_ b_ lo_ true),(Qg.mk a_ b_ hi_ false)].length)).bind fun _=>(cat (name_.length+([32,108,101,97,115,116]:Str).length)).bind fun _=>(cat (name_.length+([32,109,111,115,116]:Str).length)).bind fun _=>(rm (c1_.length+[(name_++([32,108,101,97,115,116]:Str)),(name_++([32,109,111,115,116]:Str))].length)).bind fun _=>(some ((c0_++[(Qg.mk a_ b_ lo_ true),(Qg.mk a_ b_ hi_ false)]),(c1_++[(name_++([32,108,101,97,115,116]:Str)),(name_++([32,109,111,115,116]:Str))])))
instance QgN:SpcS prog 110 (∀{q5:Value} {vh5:Value} {q6:Value} {vh6:Value} {name_:Str} {a_:Int} {b_:Int} {lo_:Int} {hi_:Int} {c0_:(List Qg)} {c1_:(List Str)} {r:(List Qg)×(List Str)},Qco name_ a_ b_ lo_ hi_ c0_ c1_=some r→FnOk prog 110 [tv (.string (sB name_)),ti a_,ti b_,ti lo_,ti hi_,tv q5,tv q6] [box (rVal.cs vh5) q5,own QD 146 c0_ vh5,box (rVal.cs vh6) q6,own rS 9 c1_ vh6] (fun v=>[box (rVal.cs (gh v 0)) q5,own QD 146 r.1 (gh v 0),box (rVal.cs (gh v 1)) q6,own rS 9 r.2 (gh v 1)]) (fun _=>ttup [])):=.mk fun {q5 vh5 q6 vh6 name_ a_ b_ lo_ hi_ c0_ c1_ r} h=>by
 unfold Qco at h
 refine Fe func110 ntmps110 fun M0 M w0 hpl=>?_
 have⟨_,_,h⟩:=bs h
 refine QJ [v1 10 (fun v0=>own QD 146 (c0_++[(Qg.mk a_ b_ lo_ true),(Qg.mk a_ b_ hi_ false)]) v0),v1 10 (fun v0=>box (rVal.cs v0) q5)] [11,12] [10,11,16,17] fun m0=>?_
 have⟨_,_,_,_,_,_,h⟩:=bs3 h
 refine QaF [v1 6 (fun v0=>own rS 9 (c1_++[(name_++([32,108,101,97,115,116]:Str)),(name_++([32,109,111,115,116]:Str))]) v0),v1 6 (fun v0=>box (rVal.cs v0) q6)] [7,8] [6,7,9,10] fun m1=>?_
 obtain rfl:=sj h
 exact Qr1 (.tuple #[(m0 10),(m1 6)]) [1,0,3,2] hpl
noncomputable def Qc8 (x_:Qa):Option ((List Qg)×(List Str)×Int):=(QeL x_).bind fun t0=>(if (t0 !=0)=true then (some (([]:List Qg),([]:List Str),t0)) else (Qo (fun (s0:Int×List Str×List Qg)=>((if (decide (s0.1<(x_.Kinds.length:Int)))=true then (idx x_.Kinds s0.1).bind fun t1=>(Qco t1.Name s0.1 (-1:Int) t1.Lo t1.Hi s0.2.2 s0.2.1).bind fun t2=>(Qo (fun (s1:Int×List Qg×List Str)=>((if (decide (s1.1<(t1.Fields.length:Int)))=true then (idx t1.Fields s1.1).bind fun t3=>((if (t3.Kind==1)=true then (cat (t1.Name.length+([46]:Str).length)).bind fun _=>(cat ((t1.Name++([46]:Str)).length+t3.Name.length)).bind fun _=>(QbC x_ t3.Of).bind fun t4=>(Qco ((t1.Name++([46]:Str))++t3.Name) s0.1 t4 t3.Lo t3.Hi s1.2.1 s1.2.2).bind fun t5=>(some (t5.1,t5.2)) else (some (s1.2.1,s1.2.2)))).bind fun p0=>(some (.inl ((i64.wrap (s1.1+1)),p0.1,p0.2))) else (some (.inr (s1.2.1,s1.2.2)))):Option ((Int×List Qg×List Str)⊕((List Qg×List Str))))) ((0:Int),t2.1,t2.2)).bind fun p1=>(some (.inl ((i64.wrap (s0.1+1)),p1.2,p1.1))) else (some (.inr (s0.2.1,s0.2.2)))):Option ((Int×List Str×List Qg)⊕((List Str×List Qg))))) ((0:Int),([]:List Str),([]:List Qg))).bind fun p2=>(some (p2.2,p2.1,(0:Int))))
instance QhD:SpcS prog 54 (∀{x_:Qa} {r:(List Qg)×(List Str)×Int},Qc8 x_=some r→FnOk prog 54 [Qf.ty x_] [glo] (fun v=>[own rS 9 r.2.1 v]) (fun v=>ttup [tsl QD r.1,tv v,ti r.2.2])):=.mk fun {x_ r} h=>by
 unfold Qc8 at h
 refine Fe func54 ntmps54 fun M0 M w0 hpl=>?_
 refine Qc [0] ?_
 refine Ql fun _ k0=>?_
 have⟨_,_,h⟩:=bs h
 refine Qc [2,3] ?_
 refine Qc [1,2,3] ?_
 refine Qz h (fun _ h=>?_) (fun _ h=>?_)
 ·refine Qc [1,2,3] ?_
  refine Q0 (fun _ _ H=>H.nil (rS) 9) ?_
  exact Qt h (·▸Qcu (.slice none 0 0) [0] hpl)
 refine QB ?_
 refine k0 ?_
 intro a w H
 refine sr mx [v1 0 (fun v0=>box (rVal.cs nilV) v0)] H (fun _=>.m [] [1] rfl rfl rfl (Qek Qtp)<|.n) fun m0 a w H=>?_
 replace H:St _ _ _ [_,_] [_,_,_] _ _:=(H.pick [0,3]).nil (QD) 146
 refine QS H ?_
 intro a w H
 refine sr mx [v1 0 (fun v0=>box (rVal.cs nilV) v0)] H (fun _=>.m [] [3] rfl rfl rfl (Qek Qtm)<|.n) fun m1 a w H=>?_
 replace H:St _ _ _ [_,_,_] [_,_,_,_,_] _ _:=(H.pick [0,1,2]).nil (rS) 9
 refine QS H ?_
 refine Qc [1,2,3,4] ?_
 refine Ql fun K0 k1=>?_
 refine Qc [1,2,3,4,5,6,7] ?_
 have⟨e0,h0,h⟩:=bs h
 have J0:∀(p0:List Str×List Qg) (y0:Value) (y1:Value),p0=e0→To M w0 67 [(7,tv (m1 0)),(6,tv (m0 0))] [own rS 9 p0.1 y0,own QD 146 p0.2 y1,glo,box (rVal.cs y1) (m0 0),box (rVal.cs y0) (m1 0)] K0:=by
  intro p0 y0 y1 he;subst he;refine k1 ?_;refine Qc [0,1,2,3,4] ?_;refine Q0 (fun _ _ H=>H.selA [0,1,2] rfl) ?_;refine Qa5 ?_;refine Qaj (by intro _ _ H;exact ((H.selA [1,0,2] rfl).shareO 2 rfl).pick [0,2,4,5]) ?_;obtain rfl:=sj h;exact Qcu y0 [0] hpl
 refine Qu ?_;refine Ql8 h0 (fun (s0:Int×List Str×List Qg) (y2:Value) (y3:Value)=>[(20,tsl Qh x_.Kinds),(21,ti (x_.Kinds.length:Int)),(22,ti s0.1),(8,Qaz 110 [tv (m0 0),tv (m1 0)]),(7,tv (m1 0)),(6,tv (m0 0)),(1,tptr (Qf.cs x_))]) (fun (s0:Int×List Str×List Qg) (y2:Value) (y3:Value)=>[own rS 9 s0.2.1 y2,own QD 146 s0.2.2 y3,glo,box (rVal.cs y3) (m0 0),box (rVal.cs y2) (m1 0)]) nilV nilV [0,1,2,3,4,5,6] ?_;clear h;intro s0 y2 y3 o K1 h ho k2;refine Qc [0,1,2,3,4,5,6,7] ?_;refine Ql fun _ k3=>?_;refine Qz h (fun _ h=>?_) (fun _ h=>?_)
 ·refine QB ?_;refine k3 ?_;refine Ql fun K2 k4=>?_;refine Qu ?_;have⟨t0,_,h⟩:=bs h;refine QJ [v1 3 (fun v0=>box (Qh.cs zz1) v0),v1 3 (fun v0=>box (Qh.cs t0) v0)] [4,6] [3,4,6,7,8,9,10,11,12] fun m2=>?_;refine Q0 (fun _ _ H=>(((H.selA [5,0,1,2,3,4] rfl).shareB 0 rfl).add 0 rfl (fun _ _ _ h=>h.2)).pick [0,3,4,5,6,7,8,9,10]) ?_;have⟨t1,h1,h⟩:=bs h;intro a w H;refine sr mx [v1 8 (fun v0=>box (rVal.cs (gh v0 0)) (m0 0)),v1 8 (fun v0=>own QD 146 t1.1 (gh v0 0)),v1 8 (fun v0=>box (rVal.cs (gh v0 1)) (m1 0)),v1 8 (fun v0=>own rS 9 t1.2 (gh v0 1))] H (fun _=>.q 5 rfl<|.o (QT Qgt z1)<|.o (QQ (u:=t0.Name) tok9 z0 rfl)<|.q 4 rfl<|.o (QT QmM z4)<|.o (QQ (u:=t0.Lo) tok3 z0 rfl)<|.o (QT QmN z6)<|.o (QQ (u:=t0.Hi) tok3 z0 rfl)<|.e [] [3,1,4,0] [5,6,7,8] rfl rfl rfl rfl (Qe7 QmQ (QgN.ok h1) z7 (.cons (.of z5)<|.cons (.of z4)<|.cons (.of .k)<|.cons (.of z2)<|.cons (.of z0)<|.nil))<|.n) fun m3 a w H=>?_;have H:=H.to [9,10,11,12,13,14,15,16,17] [_,_,_,_,_,_,_,_,_] [_,_,_,_,_] rfl rfl;refine QS H ?_;refine Qc [1,2,3,4,5,6,7,8,9,10,11,12] ?_;have⟨e1,h2,h⟩:=bs h;have J1:∀(p1:List Qg×List Str) (y4:Value) (y5:Value),p1=e1→To M w0 67 [(20,tsl Qh x_.Kinds),(21,ti (x_.Kinds.length:Int)),(22,ti s0.1),(8,Qaz 110 [tv (m0 0),tv (m1 0)]),(7,tv (m1 0)),(6,tv (m0 0)),(1,tptr (Qf.cs x_))] [glo,box (rVal.cs y4) (m0 0),own QD 146 p1.1 y4,box (rVal.cs y5) (m1 0),own rS 9 p1.2 y5] K2:=by
   intro p1 y4 y5 he;subst he;refine k4 ?_;refine Q2 [1,2,3,4,5,6,7] ?_;refine Qaj (fun _ _ H=>(H.pick [1,2,0,3,4,5,6]).selA [4,2,0,1,3] rfl) ?_;exact QgL k2 y5 y4 ((sj h).symm) [0,1,2,3,4,5,6]
  refine Qu ?_;refine Ql8 h2 (fun (s1:Int×List Qg×List Str) (y6:Value) (y7:Value)=>[(37,tsl Qd t0.Fields),(38,ti (t0.Fields.length:Int)),(39,ti s1.1),(10,tptr (Qh.cs t0)),(9,ti s0.1),(20,tsl Qh x_.Kinds),(21,ti (x_.Kinds.length:Int)),(22,ti s0.1),(8,Qaz 110 [tv (m0 0),tv (m1 0)]),(7,tv (m1 0)),(6,tv (m0 0)),(1,tptr (Qf.cs x_))]) (fun (s1:Int×List Qg×List Str) (y6:Value) (y7:Value)=>[glo,box (rVal.cs y6) (m0 0),own QD 146 s1.2.1 y6,box (rVal.cs y7) (m1 0),own rS 9 s1.2.2 y7]) (gh (m3 8) 0) (gh (m3 8) 1) [0,1,2,3,4,5,6,7,8,9,10,11] ?_;clear h;intro s1 y6 y7 o K3 h ho k5;refine Qc [0,1,2,3,4,5,6,7,8,9,10,11,12] ?_;refine Ql fun _ k6=>?_;refine Qz h (fun _ h=>?_) (fun _ h=>?_)
  ·refine QB ?_;refine k6 ?_;refine Ql fun K4 k7=>?_;refine Qu ?_;have⟨t2,_,h⟩:=bs h;refine QJ [v1 2 (fun v0=>box (Qd.cs zz0) v0),v1 2 (fun v0=>box (Qd.cs t2) v0)] [3,4] [2,4,5,6,7,8,9,10,11,12,13,14,15] fun m4=>?_;refine Q0 (fun _ _ H=>(((H.selA [5,0,1,2,3,4] rfl).shareB 0 rfl).add 0 rfl (fun _ _ _ h=>h.2)).pick [0,3,4,5,6,7,8,9,10,11,12,13,14]) ?_;refine Qc [2,3,4,5,6,7,8,9,10,11,12,13,14,15] ?_;have⟨p2,h3,h⟩:=bs h;have J2:∀(y8:Value) (y9:Value),To M w0 67 [(37,tsl Qd t0.Fields),(38,ti (t0.Fields.length:Int)),(39,ti s1.1),(10,tptr (Qh.cs t0)),(9,ti s0.1),(20,tsl Qh x_.Kinds),(21,ti (x_.Kinds.length:Int)),(22,ti s0.1),(8,Qaz 110 [tv (m0 0),tv (m1 0)]),(7,tv (m1 0)),(6,tv (m0 0)),(1,tptr (Qf.cs x_))] [glo,box (rVal.cs y8) (m0 0),own QD 146 p2.1 y8,box (rVal.cs y9) (m1 0),own rS 9 p2.2 y9] K4:=by
    intro y8 y9;refine k7 ?_;refine Q2 [1,2,3,4,5,6,7,8,9,10,11,12] ?_;exact QgL k5 y8 y9 ((sj h).symm) [1,2,0,3,4,5,6,7,8,9,10,11]
   replace h:=h3;clear h3;refine Qz h (fun _ h=>?_) (fun _ h=>?_)
   ·have⟨_,h4,_,h5,_,h6,t3,h7,h⟩:=bs4 h;intro a w H;refine wr mx [v1 16 (fun v0=>box (rVal.cs (gh v0 0)) (m0 0)),v1 16 (fun v0=>own QD 146 t3.1 (gh v0 0)),v1 16 (fun v0=>box (rVal.cs (gh v0 1)) (m1 0)),v1 16 (fun v0=>own rS 9 t3.2 (gh v0 1))] H (fun _=>.q 10 rfl<|.o (QT Qgt z6)<|.o (QQ (u:=t0.Name) tok9 z0 rfl)<|.o (Qgp z0 .k h4)<|.o (QT QkC z5)<|.o (QQ (u:=t2.Name) tok9 z0 rfl)<|.o (Qgp z2 z0 h5)<|.q 13 rfl<|.o (Q3 Qci z21)<|.o (QT QmO z10)<|.o (QQ (u:=t2.Of) tok9 z0 rfl)<|.o (QC QmR (QiC.ok h6) (.cons (.of z2)<|.cons (.of z0)<|.nil))<|.o (QT Qgu z13)<|.o (QQ (u:=t2.Lo) tok3 z0 rfl)<|.o (QT Qgv z15)<|.o (QQ (u:=t2.Hi) tok3 z0 rfl)<|.e [] [1,2,3,4] [5,6,7,8] rfl rfl rfl rfl (Qe7 QmQ (QgN.ok h7) z15 (.cons (.of z9)<|.cons (.of z8)<|.cons (.of z4)<|.cons (.of z2)<|.cons (.of z0)<|.nil))<|.n) fun m5 a w H=>?_;have H:=H.to [19,20,21,22,23,24,25,26,27,28,29,30] [_,_,_,_,_,_,_,_,_,_,_,_] [_,_,_,_,_] rfl rfl;refine QbZ H ?_;obtain rfl:=sj h;exact QW (J2 (gh (m5 16) 0) (gh (m5 16) 1)) [0,1,2,3,4,5,6,7,8,9,10,11]
   refine QB ?_;obtain rfl:=sj h;exact QW (J2 y6 y7) [2,3,4,5,6,7,8,9,10,11,12,13]
  refine Q5 ?_;exact QgL J1 y6 y7 (ho _ (sj h).symm) [6,7,8,9,10,11,12]
 refine Q5 ?_;exact QgL J0 y2 y3 (ho _ (sj h).symm) [5,6]
noncomputable def Qc3 (k_:Qe) (name_:Str):Option (Int):=(Qbh k_ name_).bind fun t0=>(some t0)
instance QjB:Spc2 prog 112 Qc3 (fun k_ name_=>[Qh.ty k_,tv (.string (sB name_))]) ti:=.mk fun {k_ name_ r} h=>by
 unfold Qc3 at h
 refine Fe func112 ntmps112 fun M0 M w0 hpl=>?_
 refine Qc [0,3] ?_
 have⟨_,_,h⟩:=bs h
 refine Qc [3] ?_
 exact Qt h (·▸Qr hpl)
end Go.Proofs.YtlajingmjmnfgaaGreatDoor

/- The walk. No condition. -/
import Derived.Test.YtlajingmjmnfgaaGreatDoorGenD
set_option linter.all false
open Go.Proofs.Tryz Go.IntKind
namespace Go.Proofs.YtlajingmjmnfgaaGreatDoor
noncomputable section
open Go.Sim
set_option maxRecDepth 100000
set_option maxHeartbeats 4000000
def QeL (x_:Qe) (i_:Int):Option (Int):=(idx x_.Xa i_).bind λt0=>(QbH x_ t0.Xj).bind λt1=>(opt (((t0.Xb.length:Int)==0)==false) (idx t0.Xb 0) default).bind λt2=>(Qat [(QK.mk (decide (t1<i_)) 7),(QK.mk (((t0.Xb.length:Int)==0)||(t2.Xi !=0)) 11)]).bind λt3=>(some t3)
instance QoR:Spc2 prog 82 QeL (λx_ i_=>[Qc.ty x_,ti i_]) ti:=.mk λ{x_ i_ r} h=>by
 unfold QeL at h
 refine Fe func82 ntmps82 λM0 M w0 hpl=>?_
 refine Qa [0,3] ?_
 have⟨t0,_,h⟩:=bs h
 refine QB [v1 5 (λv0=>box (Qg.cs zz1) v0),v1 5 (λv0=>box (Qg.cs t0) v0)] [6,7] [5,6,7] λm0=>?_
 refine QN (λ_ _ H=>((H.Xl 0 rfl).add 0 rfl (λ_ _ _ h=>h.2)).pick [0,3,4]) ?_
 have⟨_,_,_,_,_,_,h⟩:=bs3 h
 refine Qa [22] ?_
 exact Qo h (·▸Ql hpl)
def Qd3 (f_:Qb) (c0_:Str):Option (Bool):=(some (f_.Xj==c0_))
instance QvF:Spc2 prog 129 Qd3 (λf_ c0_=>[Qd.ty f_,tptr (rS.cs c0_)]) tb:=.mk λ{f_ c0_ r} h=>by
 unfold Qd3 at h
 refine Fe func129 ntmps129 λM0 M w0 hpl=>?_
 refine Qa [0,3] ?_
 refine Qa [4] ?_
 exact Qo h (·▸Ql hpl)
def Qbr (k_:Qf) (name_:Str):Option (Int):=(Qa5 k_.Xb (λx0=>Qd3 x0 name_)).bind λt0=>(some t0)
instance Qoi:Spc2 prog 83 Qbr (λk_ name_=>[Qg.ty k_,tv (.string (sB name_))]) ti:=.mk λ{k_ name_ r} h=>by
 unfold Qbr at h
 refine Fe func83 ntmps83 λM0 M w0 hpl=>?_
 refine Qa [0,1] ?_
 have⟨_,_,h⟩:=bs h
 refine Qa [4] ?_
 exact Qo h (·▸Ql hpl)
def QeG (s_:Qh) (c0_:Qh):Option (Bool):=(some (s_.Xj==c0_.Xj))
instance QwK:Spc2 prog 131 QeG (λs_ c0_=>[Qk.ty s_,tptr (Qk.cs c0_)]) tb:=.mk λ{s_ c0_ r} h=>by
 unfold QeG at h
 refine Fe func131 ntmps131 λM0 M w0 hpl=>?_
 refine Qa [0,3] ?_
 refine Qa [5] ?_
 exact Qo h (·▸Ql hpl)
def QcI (x_:Qe) (kind_:Int) (field_:Int):Option (Qb×Bool):=(opt ((((decide (kind_<0))||(decide (kind_>=(x_.Xa.length:Int))))||(decide (field_<0)))==false) (idx x_.Xa kind_) default).bind λt0=>(if ((((decide (kind_<0))||(decide (kind_>=(x_.Xa.length:Int))))||(decide (field_<0)))||(decide (field_>=(t0.Xb.length:Int))))=true then (some (zz0,false)) else (idx x_.Xa kind_).bind λt1=>(idx t1.Xb field_).bind λt2=>(some (t2,true)))
instance QmB:Spc3 prog 132 QcI (λx_ kind_ field_=>[Qc.ty x_,ti kind_,ti field_]) (λr=>ttup [Qd.ty r.1,tb r.2]):=.mk λ{x_ kind_ field_ r} h=>by
 unfold QcI at h
 refine Fe func132 ntmps132 λM0 M w0 hpl=>?_
 refine QB [v1 1 (λv0=>box (Qd.cs zz0) v0)] [2] [0,1,4,5] λm0=>?_
 have⟨_,_,h⟩:=bs h
 refine tIfs h [23,24,25,26,27] (λ_ h=>?_) (λ_ h=>?_)
 ·refine QB [v0 (box (Qd.cs zz0) (m0 1))] [2] [1,4] λm1=>?_
  exact Qo h (·▸Ql hpl)
 have⟨_,_,t0,_,h⟩:=bs2 h
 refine QB [v0 (box (Qd.cs t0) (m0 1))] [10] [9,12] λm2=>?_
 exact Qo h (·▸Ql hpl)
def QeM (x_:Qe) (i_:Int):Option (Int):=(idx x_.Xc i_).bind λt0=>(sub x_.Xc 0 i_).bind λt1=>(QaQ t1 (λx0=>QeG x0 t0)).bind λt2=>(QbH x_ t0.Xi).bind λt3=>(Qu (λ(s0:Int×Bool×Bool)=>((if (decide (s0.1<([t0.A,t0.B].length:Int)))=true then ((idx [t0.A,t0.B] s0.1).bind λt4=>(if ((t4==([]:Str))||(decide (t3<0)))=true then (some (s0.2.1,s0.2.2)) else (idx x_.Xa t3).bind λt5=>(Qbr t5 t4).bind λt6=>(QcI x_ t3 t6).bind λt7=>(some ((s0.2.1||(!t7.2)),(s0.2.2||(((t7.1).Xi !=2)&&((t7.1).Xi !=4))))))).bind λp0=>(some (.inl ((i64.wrap (s0.1+1)),p0.1,p0.2))) else (some (.inr (s0.2.1,s0.2.2)))):Option ((Int×Bool×Bool)⊕((Bool×Bool))))) ((0:Int),(decide (t3<0)),false)).bind λp1=>(Qat [(QK.mk t2 7),(QK.mk p1.1 12),(QK.mk p1.2 13),(QK.mk (t0.A==t0.B) 1)]).bind λt8=>(some t8)
instance QoS:Spc2 prog 84 QeM (λx_ i_=>[Qc.ty x_,ti i_]) ti:=.mk λ{x_ i_ r} h=>by
 unfold QeM at h
 refine Fe func84 ntmps84 λM0 M w0 hpl=>?_
 refine Qa [0,3] ?_
 have⟨t0,_,h⟩:=bs h
 refine QB [v1 5 (λv0=>box (Qk.cs zz3) v0),v1 5 (λv0=>box (Qk.cs t0) v0)] [6,7] [5,6,7] λm0=>?_
 refine QN (λ_ _ H=>((H.Xl 0 rfl).add 0 rfl (λ_ _ _ h=>h.2)).pick [0,3,4]) ?_
 have⟨_,_,t1,_,h⟩:=bs2 h
 refine Qa [6,7,8] ?_
 have⟨t2,_,h⟩:=bs h
 refine Qa [4,5,6,7] ?_
 refine Qa [2,3,4,5,6,7] ?_
 refine Qi λK0 k0=>?_
 refine Qa [4,5,6,7,8,9,10,11,12] ?_
 have⟨e0,h0,h⟩:=bs h
 have J0:∀(p0:Bool×Bool),p0=e0->To M w0 91 [(8,tb p0.1),(9,tb p0.2),(6,tb t1),(5,tptr (Qk.cs t0))] [] K0:=by
  intro p0 he;subst he;refine k0 ?_;have⟨_,_,h⟩:=bs h;refine Qa [14] ?_;exact Qo h (·▸Ql hpl)
 refine Qm <|Qan h0 (λ(s0:Int×Bool×Bool)=>[(35,tsl rS [t0.A,t0.B]),(36,ti ([t0.A,t0.B].length:Int)),(37,ti s0.1),(8,tb s0.2.1),(9,tb s0.2.2),(7,ti t2),(6,tb t1),(5,tptr (Qk.cs t0)),(2,tptr (Qc.cs x_))]) (λ(s0:Int×Bool×Bool)=>[]) [0,1,2,3,4,5,6,7,8] ?_;clear h;intro s0 o K1 h ho k1;refine Qa [0,1,2,3,4,5,6,7,8,9] ?_;refine Qi λ_ k2=>Qq h (λ_ h=>?_) (λ_ h=>?_)
 ·refine Qt <|k2 <|Qi λK2 k3=>?_;have⟨p1,h1,h⟩:=bs h;have J1:To M w0 91 [(35,tsl rS [t0.A,t0.B]),(36,ti ([t0.A,t0.B].length:Int)),(37,ti s0.1),(8,tb p1.1),(9,tb p1.2),(7,ti t2),(6,tb t1),(5,tptr (Qk.cs t0)),(2,tptr (Qc.cs x_))] [] K2:=by
   refine k3 <|QL [1,2,3,4,5,6,7,8,9] ?_;exact Qz k1 ((sj h).symm) [1,2,0,3,4,5,6,7,8]
  replace h:=h1;clear h1;refine Qm ?_;have⟨_,_,h⟩:=bs h;refine Qa [2,4,5,6,7,8,9,10,11,12] ?_;refine tIfs h [5,6,7,8,9,10,11,12,13,14,15] (λ_ h=>?_) (λ_ h=>?_)
  ·refine QP ?_;obtain rfl:=sj h;exact QI J1 [2,3,4,5,6,7,8,9,10]
  have⟨_,_,_,_,t3,_,h⟩:=bs3 h;refine QB [v1 13 (λv0=>box (Qd.cs zz0) v0),v1 13 (λv0=>box (Qd.cs t3.1) v0)] [14,15] [13,14,17,18,19,20,21,22,23,24,25] λm1=>?_;refine QN (λ_ _ H=>((H.Xl 0 rfl).add 0 rfl (λ_ _ _ h=>h.2)).pick [0,3,4,5,6,7,8,9,10,11,12]) ?_;refine Qa [5,6,8,9,10,11,12,13,14,15] ?_;refine QL [11,12,14,15,16,17,18,19,20] ?_;obtain rfl:=sj h;exact QI J1 [2,3,4,1,0,5,6,7,8]
 refine QP <|Qz J0 (ho _ (sj h).symm) [4,5,7,8]
def Qb7 (s_:QR):Option (Int):=(Qat [(QK.mk (decide (s_.field>0)) 13)]).bind λt0=>(some t0)
instance QmC:Spc1 prog 263 Qb7 (λs_=>[QaG.ty s_]) ti:=.mk λ{s_ r} h=>by
 unfold Qb7 at h
 refine Fe func263 ntmps263 λM0 M w0 hpl=>?_
 refine Qa [0] ?_
 have⟨_,_,h⟩:=bs h
 refine Qa [6] ?_
 exact Qo h (·▸Ql hpl)
def Qc3 (self:Qe->Int->Int->Option (Int)) (x_:Qe) (kind_:Int) (field_:Int):Option (Int):=(QcI x_ kind_ field_).bind λt0=>(if (!t0.2)=true then (some (-1:Int)) else (if (((t0.1).Xi==7)||((t0.1).Xi==8))=true then (idx x_.Xa kind_).bind λt1=>(Qbr t1 (t0.1).Up).bind λt2=>(QcI x_ kind_ t2).bind λt3=>(if ((t3.2&&(decide (t2<field_)))&&((t3.1).Xi==1))=true then (self x_ kind_ t2).bind λt4=>(some t4) else (some (-1:Int))) else (if ((t0.1).Xi !=1)=true then (some (-1:Int)) else (QbH x_ (t0.1).Of).bind λt5=>(if (decide (t5<kind_))=true then (some t5) else (some (-1:Int))))))
theorem QpL {self:Qe->Int->Int->Option (Int)} (hself:∀(x_:Qe) (kind_:Int) (field_:Int) (r:Int),self x_ kind_ field_=some r->FnOk prog 89 [Qc.ty x_,ti kind_,ti field_] [] (λ_=>[]) (λ_=>ti r)) {x_:Qe} {kind_:Int} {field_:Int} {r:Int} (h:Qc3 self x_ kind_ field_=some r):FnOk prog 89 [Qc.ty x_,ti kind_,ti field_] [] (λ_=>[]) (λ_=>ti r):=by
 unfold Qc3 at h;refine fe func89 ntmps89 λM0 M w0 a hpl H=>?_;refine sr mx [] H (λ_=>.o (QkY (R:=Qc) (u:=x_) z0)<|.o (Qp .k)<|.n) λ_ a w H=>?_;have H:=H.t3_0 [0,3,4];have⟨t0,h0,h⟩:=bs h;refine sr mx [v1 7 (λv0=>box (Qd.cs zz0) v0),v1 7 (λv0=>box (Qd.cs t0.1) v0)] H (λ_=>.o (Q9 QbJ z0)<|.q 2 rfl<|.q 4 rfl<|.o (QJ QoM (QmB.ok h0) (.cons (.of z2)<|.cons (.of z1)<|.cons (.of z0)<|.nil))<|.q 0 rfl<|.o (Qam z0 rfl)<|.o (Qam z1 rfl)<|.m [] [0] rfl rfl rfl (Qbo (R:=Qd) (a:=zz0) QaY Qm4)<|.e [] [0] [1] rfl rfl rfl rfl (QaL (R:=Qd) (a:=t0.1) QaY z0 z2 (leb rfl))<|.o (Qp z1)<|.n) λ_ a w H=>?_;replace H:St _ _ _ [_,_,_,_,_] [] _ _:=(((H.pick [7,8,9,10,11]).Xl 0 rfl).add 0 rfl (λ_ _ _ h=>h.2)).pick [0,3,4,5,6];refine wp_seq_k (λ_ k0=>?_);refine wp_block ?_;refine sr mx [] H (λ_=>.q 1 rfl<|.o (QgK z0)<|.o (Qp z0)<|.n) λ_ a w H=>?_;have H:=H.to [2,3,5,6,7] [_,_,_,_,_] [] rfl rfl;refine wi H h (λb0 h=>?_) (λb0 h=>?_)
 ·refine sr mx [] H (λ_=>.o (Qp .k)<|.n) λ_ a w H=>?_;have H:=H.t1_0 [0];exact r0 h (·▸r1 hpl H (.tmp z0 .nil))
 refine sr mx [] H (λ_=>.o (Q4 QhZ z1)<|.o (Q2 (u:=(t0.1).Xi) tok3 z0 rfl)<|.o (QcS z0 .k)<|.q 0 rfl<|.g rfl rfl bq0 (λ_=>Q4 QhZ z5)<|.g rfl rfl bq1 (λhc=>Q2 (u:=(t0.1).Xi) tok3 (.cond z0 hc) rfl)<|.g rfl rfl bq2 (λhc=>QcS (.cond z0 hc) .k)<|.o (Qsq z3 (λhp=>(.cond z0 (beqF hp))))<|.o (Qp z0)<|.n) λ_ a w H=>?_;have H:=H.to [8,10,11,12,13] [_,_,_,_,_] [] rfl rfl;refine wi H h (λb1 h=>?_) (λb1 h=>?_)
 ·have⟨t1,h1,t2,h2,h⟩:=bs2 h;refine sr mx [] H (λ_=>.o (Q4 QcU z2)<|.o (Q2 (u:=x_.Xa) QlE z0 rfl)<|.q 5 rfl<|.o (QcL ud29 Qda z1 z0 h1)<|.o (Q9 Qda z0)<|.o (Q4 QrX z6)<|.o (Q2 (u:=(t0.1).Up) tok9 z0 rfl)<|.o (QJ QuH (Qoi.ok h2) (.cons (.of z2)<|.cons (.of z0)<|.nil))<|.o (Qp z0)<|.n) λ_ a w H=>?_;have H:=H.to [8,11,12,13] [_,_,_,_] [] rfl rfl;refine wp_seq_k (λ_ k1=>?_);have⟨t3,h3,h⟩:=bs h;refine sr mx [v1 7 (λv0=>box (Qd.cs zz0) v0),v1 7 (λv0=>box (Qd.cs t3.1) v0)] H (λ_=>.o (Q9 QbJ z1)<|.q 3 rfl<|.q 2 rfl<|.o (QJ QoM (QmB.ok h3) (.cons (.of z2)<|.cons (.of z1)<|.cons (.of z0)<|.nil))<|.q 0 rfl<|.o (Qam z0 rfl)<|.o (Qam z1 rfl)<|.m [] [0] rfl rfl rfl (Qbo (R:=Qd) (a:=zz0) QaY Qm4)<|.e [] [0] [1] rfl rfl rfl rfl (QaL (R:=Qd) (a:=t3.1) QaY z0 z2 (leb rfl))<|.o (Qp z1)<|.n) λ_ a w H=>?_;replace H:St _ _ _ [_,_,_,_,_,_] [] _ _:=(((H.pick [7,8,9,10,11,12]).Xl 0 rfl).add 0 rfl (λ_ _ _ h=>h.2)).pick [0,3,4,5,6,7];refine sr mx [] H (λ_=>.q 1 rfl<|.q 0 rfl<|.g rfl rfl bq0 (λ_=>Qar z4)<|.g rfl rfl bq1 (λ_=>Qar z8)<|.g rfl rfl bq2 (λhc=>QcD (.cond z1 hc) (.cond z0 hc))<|.o (Qei z3 (λhp=>(.cond z0 (beqT hp))))<|.q 0 rfl<|.g rfl rfl bq0 (λ_=>Q4 QhZ z7)<|.g rfl rfl bq1 (λhc=>Q2 (u:=(t3.1).Xi) tok3 (.cond z0 hc) rfl)<|.g rfl rfl bq2 (λhc=>QcS (.cond z0 hc) .k)<|.o (Qei z3 (λhp=>(.cond z0 (beqT hp))))<|.n) λ_ a w H=>?_;have H:=H.to [10,13,14,15] [_,_,_,_] [] rfl rfl;refine wi H h (λb2 h=>?_) (λb2 h=>?_)
  ·have⟨t4,h4,h⟩:=bs h;refine sr mx [] H (λ_=>.o (Q9 QbJ z2)<|.q 4 rfl<|.q 3 rfl<|.o (QJ QuK (hself _ _ _ _ h4) (.cons (.of z2)<|.cons (.of z1)<|.cons (.of z0)<|.nil))<|.o (Qp z0)<|.n) λ_ a w H=>?_;have H:=H.t1_0 [4];exact r0 h (·▸r1 hpl H (.tmp z0 .nil))
  refine wp_skip (k1 _ _ ?_);refine sr mx [] H (λ_=>.o (Qp .k)<|.n) λ_ a w H=>?_;have H:=H.t1_0 [0];exact r0 h (·▸r1 hpl H (.tmp z0 .nil))
 refine sr mx [] H (λ_=>.o (Q4 QhZ z1)<|.o (Q2 (u:=(t0.1).Xi) tok3 z0 rfl)<|.o (QnO z0 .k)<|.o (Qp z0)<|.n) λ_ a w H=>?_;have H:=H.to [3,5,6,7] [_,_,_,_] [] rfl rfl;refine wi H h (λb3 h=>?_) (λb3 h=>?_)
 ·refine sr mx [] H (λ_=>.o (Qp .k)<|.n) λ_ a w H=>?_;have H:=H.t1_0 [0];exact r0 h (·▸r1 hpl H (.tmp z0 .nil))
 refine wp_skip (k0 _ _ ?_);refine wp_seq_k (λ_ k2=>?_);have⟨t5,h5,h⟩:=bs h;refine sr mx [] H (λ_=>.o (Q9 QbJ z2)<|.o (Q4 QoH z2)<|.o (Q2 (u:=(t0.1).Of) tok9 z0 rfl)<|.o (QJ QoK (Qle.ok h5) (.cons (.of z2)<|.cons (.of z0)<|.nil))<|.o (Qp z0)<|.n) λ_ a w H=>?_;have H:=H.t2_0 [4,8];refine sr mx [] H (λ_=>.q 0 rfl<|.q 2 rfl<|.o (QcD z1 z0)<|.n) λ_ a w H=>?_;have H:=H.t2_0 [2,3];refine wi H h (λb4 h=>?_) (λb4 h=>?_)
 ·refine sr mx [] H (λ_=>.q 1 rfl<|.o (Qp z0)<|.n) λ_ a w H=>?_;have H:=H.t1_0 [1];exact r0 h (·▸r1 hpl H (.tmp z0 .nil))
 refine wp_skip (k2 _ _ ?_);refine sr mx [] H (λ_=>.o (Qp .k)<|.n) λ_ a w H=>?_;have H:=H.t1_0 [0];exact r0 h (·▸r1 hpl H (.tmp z0 .nil))
def Qi6:Nat->Qe->Int->Int->Option (Int)
 | 0=>λ_ _ _=>none
 | n+1=>Qc3 (Qi6 n)
theorem Qlf:∀(n:Nat) (x_:Qe) (kind_:Int) (field_:Int) (r:Int),Qi6 n x_ kind_ field_=some r->FnOk prog 89 [Qc.ty x_,ti kind_,ti field_] [] (λ_=>[]) (λ_=>ti r)
 | 0,_,_,_,r,h=>by cases h
 | n+1,x_,kind_,field_,r,h=>QpL (λx_ kind_ field_ r h=>Qlf n x_ kind_ field_ r h) h
def Qeu (x_:Qe) (kind_:Int) (field_:Int):Option (Int):=Qi6 (field_.natAbs+2) x_ kind_ field_
theorem QqV {x_:Qe} {kind_:Int} {field_:Int} {r:Int} (h:Qeu x_ kind_ field_=some r):FnOk prog 89 [Qc.ty x_,ti kind_,ti field_] [] (λ_=>[]) (λ_=>ti r):=Qlf _ _ _ _ _ h
instance :Spc3 prog 89 (λ(x_:Qe) (kind_:Int) (field_:Int)=>Qeu x_ kind_ field_) (λ(x_:Qe) (kind_:Int) (field_:Int)=>[Qc.ty x_,ti kind_,ti field_]) (λ(r:Int)=>ti r):=⟨λh=>QqV h⟩
def QbF (s_:QR):Option (Bool):=(Qeu s_.x s_.kind s_.field).bind λt0=>(some (decide (t0<0)))
instance QtB:Spc1 prog 260 QbF (λs_=>[QaG.ty s_]) tb:=.mk λ{s_ r} h=>by
 unfold QbF at h
 refine Fe func260 ntmps260 λM0 M w0 hpl=>?_
 refine Qa [0] ?_
 have⟨_,_,h⟩:=bs h
 refine Qa [8] ?_
 exact Qo h (·▸Ql hpl)
def Qb8 (s_:QR):Option (Int):=(QbF s_).bind λt0=>(Qat [(QK.mk t0 12)]).bind λt1=>(some t1)
instance QmD:Spc1 prog 264 Qb8 (λs_=>[QaG.ty s_]) ti:=.mk λ{s_ r} h=>by
 unfold Qb8 at h
 refine Fe func264 ntmps264 λM0 M w0 hpl=>?_
 refine Qa [0] ?_
 have⟨_,_,_,_,h⟩:=bs2 h
 refine Qa [5] ?_
 exact Qo h (·▸Ql hpl)
def Qb9 (s_:QR):Option (Int):=(idx (s_.x).Xa s_.kind).bind λt0=>(Qbr t0 (s_.f).Of).bind λt1=>(QcI s_.x s_.kind t1).bind λt2=>(Qat [(QK.mk (((s_.f).Of !=([]:Str))&&(((decide (t1<0))||(decide (t1>=s_.field)))||((t2.1).Xi !=4))) 12)]).bind λt3=>(some t3)
instance QmE:Spc1 prog 265 Qb9 (λs_=>[QaG.ty s_]) ti:=.mk λ{s_ r} h=>by
 unfold Qb9 at h
 refine Fe func265 ntmps265 λM0 M w0 hpl=>?_
 refine Qa [0] ?_
 have⟨_,_,_,_,h⟩:=bs2 h
 refine Qa [11,12] ?_
 have⟨t0,_,h⟩:=bs h
 refine QB [v1 9 (λv0=>box (Qd.cs zz0) v0),v1 9 (λv0=>box (Qd.cs t0.1) v0)] [10,11] [9,11,12] λm0=>?_
 refine QN (λ_ _ H=>((H.Xl 0 rfl).add 0 rfl (λ_ _ _ h=>h.2)).pick [0,3,4]) ?_
 have⟨_,_,h⟩:=bs h
 refine Qa [22] ?_
 exact Qo h (·▸Ql hpl)
def QcW (l_:Qs) (c0_:QR):Option (Bool):=(some (l_.Xj==(c0_.f).Of))
instance Qs9:Spc2 prog 267 QcW (λl_ c0_=>[Qn.ty l_,tptr (QaG.cs c0_)]) tb:=.mk λ{l_ c0_ r} h=>by
 unfold QcW at h
 refine Fe func267 ntmps267 λM0 M w0 hpl=>?_
 refine Qa [0,3] ?_
 refine Qa [6] ?_
 exact Qo h (·▸Ql hpl)
def Qca (s_:QR):Option (Int):=(QaE (s_.x).Xd (λx0=>QcW x0 s_)).bind λt0=>(Qat [(QK.mk (!t0) 12)]).bind λt1=>(some t1)
instance QmF:Spc1 prog 266 Qca (λs_=>[QaG.ty s_]) ti:=.mk λ{s_ r} h=>by
 unfold Qca at h
 refine Fe func266 ntmps266 λM0 M w0 hpl=>?_
 refine Qa [0] ?_
 have⟨_,_,h⟩:=bs h
 refine Qa [5] ?_
 have⟨_,_,h⟩:=bs h
 refine Qa [5] ?_
 exact Qo h (·▸Ql hpl)
def QdC (x_:Qe) (kind_:Int) (f_:Qb):Option (Int×(List Int)):=(QbH x_ f_.Of).bind λt0=>(if ((f_.Xi !=6)||(decide (t0<=kind_)))=true then (some ((-1:Int),([]:List Int))) else (idx x_.Xa t0).bind λt1=>(Qu (λ(s0:Int×List Int)=>((if (decide (s0.1<(t1.Xb.length:Int)))=true then (idx t1.Xb s0.1).bind λt2=>(opt (((t2.Xi==7)&&(t2.Of==f_.Xj))==true) (Qeu x_ t0 s0.1) default).bind λt3=>((if (((t2.Xi==7)&&(t2.Of==f_.Xj))&&(t3==kind_))=true then (rm (s0.2.length+[s0.1].length)).bind λ_=>(some (s0.2++[s0.1])) else (some s0.2))).bind λp0=>(some (.inl ((i64.wrap (s0.1+1)),p0))) else (some (.inr s0.2))):Option ((Int×List Int)⊕((List Int))))) ((0:Int),([]:List Int))).bind λp1=>(some (t0,p1)))
instance QwL:Spc3 prog 269 QdC (λx_ kind_ f_=>[Qc.ty x_,ti kind_,Qd.ty f_]) (λr=>ttup [ti r.1,tsl rI r.2]):=.mk λ{x_ kind_ f_ r} h=>by
 unfold QdC at h
 refine Fe func269 ntmps269 λM0 M w0 hpl=>?_
 refine Qa [0,1,5] ?_
 have⟨t0,_,h⟩:=bs h
 refine Qa [4,5,6,7] ?_
 refine tIfs h [7,8,9,10,11] (λ_ h=>?_) (λ_ h=>?_)
 ·refine Qa [0,1] ?_
  exact Qo h (·▸Ql hpl)
 refine Qa [0,2,3,4,5] ?_
 refine QN (λ_ _ H=>H.nil (rI) 3) ?_
 refine Qi λK0 k0=>?_
 have⟨t1,_,h⟩:=bs h
 refine Qa [5,6,7,8,9,10,11,12] ?_
 have⟨e0,h0,h⟩:=bs h
 have J0:∀(p0:List Int) (y0:Value),p0=e0->To M w0 61 [(9,tv y0),(8,ti t0)] [own rI 3 p0 y0] K0:=by
  intro p0 y0 he;subst he;refine k0 <|Qa [1,2,3,4] ?_;refine Qap ?_;refine Qae (by intro _ _ H;exact (H.Xn 2 rfl).pick [0,2]) ?_;obtain rfl:=sj h;exact Ql hpl
 refine Qm <|QaJ h0 (λ(s0:Int×List Int) (y1:Value)=>[(29,tsl Qd t1.Xb),(30,ti (t1.Xb.length:Int)),(31,ti s0.1),(9,tv y1),(8,ti t0),(3,tptr (Qc.cs x_)),(5,tptr (Qd.cs f_)),(1,ti kind_)]) (λ(s0:Int×List Int) (y1:Value)=>[own rI 3 s0.2 y1]) (.slice none 0 0) [0,1,2,3,4,5,6,7] ?_;clear h;intro s0 y1 o K1 h ho k1;refine Qa [0,1,2,3,4,5,6,7,8] ?_;refine Qi λ_ k2=>Qq h (λ_ h=>?_) (λ_ h=>?_)
 ·refine Qt <|k2 <|Qi λK2 k3=>Qm ?_;have⟨t2,_,h⟩:=bs h;refine QB [v1 3 (λv0=>box (Qd.cs zz0) v0),v1 3 (λv0=>box (Qd.cs t2) v0)] [4,6] [3,4,6,7,8,9,10,11,12,13] λm0=>?_;refine QN (λ_ _ H=>(((H.Xk [1,0] rfl).Xl 0 rfl).add 0 rfl (λ_ _ _ h=>h.2)).pick [0,3,4,5,6,7,8,9,10,11]) ?_;have⟨_,_,h⟩:=bs h;refine Qa [17,19,20,21,22,23,24,25,26,27] ?_;have⟨p1,h1,h⟩:=bs h;have J1:∀(y2:Value),To M w0 61 [(9,tv y2),(29,tsl Qd t1.Xb),(30,ti (t1.Xb.length:Int)),(31,ti s0.1),(8,ti t0),(3,tptr (Qc.cs x_)),(5,tptr (Qd.cs f_)),(1,ti kind_)] [own rI 3 p1 y2] K2:=by
   intro y2;refine k3 <|QL [1,2,3,4,5,6,7,8] ?_;exact QX k1 y2 ((sj h).symm) [2,3,0,1,4,5,6,7]
  replace h:=h1;clear h1;refine Qq h (λ_ h=>?_) (λ_ h=>?_)
  ·have⟨_,_,h⟩:=bs h;refine Qah [v1 3 (λv0=>own rI 3 (s0.2++[s0.1]) v0)] [4] [3,4,7,8,9,10,11,12,13] λm1=>?_;obtain rfl:=sj h;exact QI (J1 (m1 3)) [1,2,3,4,5,6,7,8]
  refine Qt ?_;obtain rfl:=sj h;exact QI (J1 y1) [5,2,3,4,6,7,8,9]
 refine QP <|QX J0 y1 (ho _ (sj h).symm) [4,5]
def Qcb (s_:QR):Option (Int):=(QdC s_.x s_.kind s_.f).bind λt0=>(Qat [(QK.mk (decide (t0.1<0)) 12),(QK.mk ((t0.2.length:Int) !=1) 11)]).bind λt1=>(some t1)
instance QmG:Spc1 prog 268 Qcb (λs_=>[QaG.ty s_]) ti:=.mk λ{s_ r} h=>by
 unfold Qcb at h
 refine Fe func268 ntmps268 λM0 M w0 hpl=>?_
 refine Qa [0] ?_
 have⟨_,_,h⟩:=bs h
 refine Qa [10,11] ?_
 have⟨_,_,h⟩:=bs h
 refine Qa [9] ?_
 exact Qo h (·▸Ql hpl)
def Qcc (s_:QR):Option (Qb×Bool):=(Qeu s_.x s_.kind s_.field).bind λt0=>(if (decide (t0<0))=true then (some (zz0,false)) else (idx (s_.x).Xa t0).bind λt1=>(Qbr t1 (s_.f).Of).bind λt2=>(QcI s_.x t0 t2).bind λt3=>(some (t3.1,t3.2)))
instance QuY:Spc1 prog 271 Qcc (λs_=>[QaG.ty s_]) (λr=>ttup [Qd.ty r.1,tb r.2]):=.mk λ{s_ r} h=>by
 unfold Qcc at h
 refine Fe func271 ntmps271 λM0 M w0 hpl=>?_
 refine QB [v1 1 (λv0=>box (Qd.cs zz0) v0)] [2] [0,1] λm0=>?_
 have⟨_,_,h⟩:=bs h
 refine Qa [7,8,9] ?_
 refine tIfs h [1,2,3,4] (λ_ h=>?_) (λ_ h=>?_)
 ·refine QB [v0 (box (Qd.cs zz0) (m0 1))] [2] [1,5] λm1=>?_
  exact Qo h (·▸Ql hpl)
 have⟨_,_,_,_,t0,_,h⟩:=bs3 h
 refine QB [v0 (box (Qd.cs t0.1) (m0 1))] [17] [16,20] λm2=>?_
 exact Qo h (·▸Ql hpl)
def Qcd (s_:QR):Option (Int):=(Qcc s_).bind λt0=>(QbF s_).bind λt1=>(opt (((!t0.2)||((t0.1).Xi !=6))==false) (QbH s_.x (t0.1).Of) default).bind λt2=>(Qat [(QK.mk t1 12),(QK.mk (((!t0.2)||((t0.1).Xi !=6))||(t2 !=s_.kind)) 13)]).bind λt3=>(some t3)
instance QmH:Spc1 prog 270 Qcd (λs_=>[QaG.ty s_]) ti:=.mk λ{s_ r} h=>by
 unfold Qcd at h
 refine Fe func270 ntmps270 λM0 M w0 hpl=>?_
 refine Qa [0] ?_
 have⟨t0,_,h⟩:=bs h
 refine QB [v1 5 (λv0=>box (Qd.cs zz0) v0),v1 5 (λv0=>box (Qd.cs t0.1) v0)] [6,7] [5,6,7] λm0=>?_
 refine QN (λ_ _ H=>((H.Xl 0 rfl).add 0 rfl (λ_ _ _ h=>h.2)).pick [0,3,4]) ?_
 have⟨_,_,_,_,_,_,h⟩:=bs3 h
 refine Qa [23] ?_
 exact Qo h (·▸Ql hpl)
def Qce (s_:QR):Option (Int):=(Qcc s_).bind λt0=>(QbF s_).bind λt1=>(Qat [(QK.mk t1 12),(QK.mk ((!t0.2)||(!((((((t0.1).Xi==2)||((t0.1).Xi==3))||((t0.1).Xi==4))||((t0.1).Xi==5))||((t0.1).Xi==8)))) 13)]).bind λt2=>(some t2)
instance QmI:Spc1 prog 272 Qce (λs_=>[QaG.ty s_]) ti:=.mk λ{s_ r} h=>by
 unfold Qce at h
 refine Fe func272 ntmps272 λM0 M w0 hpl=>?_
 refine Qa [0] ?_
 have⟨t0,_,h⟩:=bs h
 refine QB [v1 5 (λv0=>box (Qd.cs zz0) v0),v1 5 (λv0=>box (Qd.cs t0.1) v0)] [6,7] [5,6,7] λm0=>?_
 refine QN (λ_ _ H=>((H.Xl 0 rfl).add 0 rfl (λ_ _ _ h=>h.2)).pick [0,3,4]) ?_
 refine Qa [23,25,26] ?_
 have⟨_,_,_,_,h⟩:=bs2 h
 refine Qa [12] ?_
 exact Qo h (·▸Ql hpl)
def QbA (i:Int):Option (QR->Option Int):=if i=0 then some Qb7 else if i=1 then some Qb8 else if i=4 then some Qb9 else if i=5 then some Qca else if i=6 then some Qcb else if i=7 then some Qcd else if i=8 then some Qce else none
theorem QuZ {Γ:List (Nat×Ty)} {d:Option Tmp} {ty:TypeId} {pos:String} {af:Array Edge} {g:Option (Nat×Bool)} {x y:Operand} {i:Int} (hx:Fct Γ x Qt4) (hi:Fct Γ y (tv (.int .i64 i))):
  OpJ prog ⟨d,.lookup 161 x y true,ty,pos,af,g⟩ Γ [] [] (λ_=>[]) (λ_=>ttup [QcT.ty (QbY.mk (QbA i)),tv (.bool (QbA i).isSome)]):=by
 have key:(Qcy Qi2 i).isSome=(QbA i).isSome/\∀F w,(QcT.ty (QbY.mk (QbA i))).ok F w ((Qcy Qi2 i).getD (.agg #[.nilFunc])):=by
  unfold QbA;by_cases h0:i=0
  ·subst h0;exact⟨rfl,λF w=>⟨_,rfl,.cons ⟨263,[],[],[],[],rfl,.nil,.nil,Qr7,λ_ _ hq=>QmC.ok hq⟩ .nil⟩⟩
  by_cases h1:i=1
  ·subst h1;exact⟨rfl,λF w=>⟨_,rfl,.cons ⟨264,[],[],[],[],rfl,.nil,.nil,Qr8,λ_ _ hq=>QmD.ok hq⟩ .nil⟩⟩
  by_cases h4:i=4
  ·subst h4;exact⟨rfl,λF w=>⟨_,rfl,.cons ⟨265,[],[],[],[],rfl,.nil,.nil,Qr9,λ_ _ hq=>QmE.ok hq⟩ .nil⟩⟩
  by_cases h5:i=5
  ·subst h5;exact⟨rfl,λF w=>⟨_,rfl,.cons ⟨266,[],[],[],[],rfl,.nil,.nil,Qsa,λ_ _ hq=>QmF.ok hq⟩ .nil⟩⟩
  by_cases h6:i=6
  ·subst h6;exact⟨rfl,λF w=>⟨_,rfl,.cons ⟨268,[],[],[],[],rfl,.nil,.nil,Qsb,λ_ _ hq=>QmG.ok hq⟩ .nil⟩⟩
  by_cases h7:i=7
  ·subst h7;exact⟨rfl,λF w=>⟨_,rfl,.cons ⟨270,[],[],[],[],rfl,.nil,.nil,Qsc,λ_ _ hq=>QmH.ok hq⟩ .nil⟩⟩
  by_cases h8:i=8
  ·subst h8;exact⟨rfl,λF w=>⟨_,rfl,.cons ⟨272,[],[],[],[],rfl,.nil,.nil,Qsd,λ_ _ hq=>QmI.ok hq⟩ .nil⟩⟩
  simp only[Qcy,Qi2,Zc h0,Zc h1,Zc h4,Zc h5,Zc h6,Zc h7,Zc h8];exact⟨rfl,λF w=>⟨_,rfl,.cons rfl .nil⟩⟩
 have h:=QvX (P:=prog) (Γ:=Γ) (d:=d) (ty:=ty) (pos:=pos) (af:=af) (g:=g) (V:=λ_=>QcT.ty (QbY.mk (QbA i))) underlying161 ud3 zv159 hx hi key.2;rw[key.1] at h;exact h

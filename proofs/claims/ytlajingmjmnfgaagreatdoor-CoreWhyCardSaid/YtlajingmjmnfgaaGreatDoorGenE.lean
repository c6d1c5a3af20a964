/- The walk. No condition. -/
import Derived.Test.YtlajingmjmnfgaaGreatDoorGenD
set_option linter.all false
open Go.Proofs.Tryz Go.IntKind
namespace Go.Proofs.YtlajingmjmnfgaaGreatDoor
noncomputable section
open Go.Sim
set_option maxRecDepth 100000
set_option maxHeartbeats 4000000
def Qf9 (x_:Qb) (i_:Int):Option (Int):=(idx x_.Xa i_).bind λt0=>(QbU x_ t0.Xj).bind λt1=>(opt (((t0.Xb.length:Int)==0)==false) (idx t0.Xb 0) default).bind λt2=>(Qax [(Qaf.mk (decide (t1<i_)) 7),(Qaf.mk (((t0.Xb.length:Int)==0)||(t2.Xi !=0)) 11)]).bind λt3=>(some t3)
instance QoJ:Spc2 prog 82 Qf9 (λx_ i_=>[Qc.ty x_,ti i_]) ti:=.mk λ{x_ i_ r} h=>by
 unfold Qf9 at h
 refine Fe func82 ntmps82 λM0 M w0 hpl=>?_
 refine Qa [0,3] ?_
 have⟨t0,_,h⟩:=bs h
 refine QJ [v1 5 (λv0=>box (Qg.cs zz1) v0),v1 5 (λv0=>box (Qg.cs t0) v0)] [6,7] [5,6,7] λm0=>?_
 refine QY (λ_ _ H=>((H.Xl 0 rfl).add 0 rfl (λ_ _ _ h=>h.2)).pick [0,3,4]) ?_
 have⟨_,_,_,_,_,_,h⟩:=bs3 h
 refine Qa [22] ?_
 exact Qo h (·▸Ql hpl)
def QfX (f_:Qd) (c0_:Str):Option (Bool):=(some (f_.Xj==c0_))
instance QwZ:Spc2 prog 129 QfX (λf_ c0_=>[Qe.ty f_,tptr (rS.cs c0_)]) tb:=.mk λ{f_ c0_ r} h=>by
 unfold QfX at h
 refine Fe func129 ntmps129 λM0 M w0 hpl=>?_
 refine Qa [0,3] ?_
 refine Qa [4] ?_
 exact Qo h (·▸Ql hpl)
def QbA (k_:Qi) (name_:Str):Option (Int):=(Qbx k_.Xb (λx0=>QfX x0 name_)).bind λt0=>(some t0)
instance QnW:Spc2 prog 83 QbA (λk_ name_=>[Qg.ty k_,tv (.string (sB name_))]) ti:=.mk λ{k_ name_ r} h=>by
 unfold QbA at h
 refine Fe func83 ntmps83 λM0 M w0 hpl=>?_
 refine Qa [0,1] ?_
 have⟨_,_,h⟩:=bs h
 refine Qa [4] ?_
 exact Qo h (·▸Ql hpl)
def Qgy (s_:Qp) (c0_:Qp):Option (Bool):=(some (s_.Xj==c0_.Xj))
instance Qx5:Spc2 prog 131 Qgy (λs_ c0_=>[Qt.ty s_,tptr (Qt.cs c0_)]) tb:=.mk λ{s_ c0_ r} h=>by
 unfold Qgy at h
 refine Fe func131 ntmps131 λM0 M w0 hpl=>?_
 refine Qa [0,3] ?_
 refine Qa [5] ?_
 exact Qo h (·▸Ql hpl)
def Qdc (x_:Qb) (kind_:Int) (field_:Int):Option (Qd×Bool):=(opt ((((decide (kind_<0))||(decide (kind_>=(x_.Xa.length:Int))))||(decide (field_<0)))==false) (idx x_.Xa kind_) default).bind λt0=>(if ((((decide (kind_<0))||(decide (kind_>=(x_.Xa.length:Int))))||(decide (field_<0)))||(decide (field_>=(t0.Xb.length:Int))))=true then (some (zz0,false)) else (idx x_.Xa kind_).bind λt1=>(idx t1.Xb field_).bind λt2=>(some (t2,true)))
instance Qly:Spc3 prog 132 Qdc (λx_ kind_ field_=>[Qc.ty x_,ti kind_,ti field_]) (λr=>ttup [Qe.ty r.1,tb r.2]):=.mk λ{x_ kind_ field_ r} h=>by
 unfold Qdc at h
 refine Fe func132 ntmps132 λM0 M w0 hpl=>?_
 refine QJ [v1 1 (λv0=>box (Qe.cs zz0) v0)] [2] [0,1,4,5] λm0=>?_
 have⟨_,_,h⟩:=bs h
 refine tIfs h [23,24,25,26,27] (λ_ h=>?_) (λ_ h=>?_)
 ·refine QJ [v0 (box (Qe.cs zz0) (m0 1))] [2] [1,4] λm1=>?_
  exact Qo h (·▸Ql hpl)
 have⟨_,_,t0,_,h⟩:=bs2 h
 refine QJ [v0 (box (Qe.cs t0) (m0 1))] [10] [9,12] λm2=>?_
 exact Qo h (·▸Ql hpl)
def Qga (x_:Qb) (i_:Int):Option (Int):=(idx x_.Xc i_).bind λt0=>(sub x_.Xc 0 i_).bind λt1=>(Qbj t1 (λx0=>Qgy x0 t0)).bind λt2=>(QbU x_ t0.Xi).bind λt3=>(Qm (λ(s0:Int×Bool×Bool)=>((if (decide (s0.1<([t0.A,t0.B].length:Int)))=true then ((idx [t0.A,t0.B] s0.1).bind λt4=>(if ((t4==([]:Str))||(decide (t3<0)))=true then (some (s0.2.1,s0.2.2)) else (idx x_.Xa t3).bind λt5=>(QbA t5 t4).bind λt6=>(Qdc x_ t3 t6).bind λt7=>(some ((s0.2.1||(!t7.2)),(s0.2.2||(((t7.1).Xi !=2)&&((t7.1).Xi !=4))))))).bind λp0=>(some (.inl ((i64.wrap (s0.1+1)),p0.1,p0.2))) else (some (.inr (s0.2.1,s0.2.2)))):Option ((Int×Bool×Bool)⊕((Bool×Bool))))) ((0:Int),(decide (t3<0)),false)).bind λp1=>(Qax [(Qaf.mk t2 7),(Qaf.mk p1.1 12),(Qaf.mk p1.2 13),(Qaf.mk (t0.A==t0.B) 1)]).bind λt8=>(some t8)
instance QoK:Spc2 prog 84 Qga (λx_ i_=>[Qc.ty x_,ti i_]) ti:=.mk λ{x_ i_ r} h=>by
 unfold Qga at h
 refine Fe func84 ntmps84 λM0 M w0 hpl=>?_
 refine Qa [0,3] ?_
 have⟨t0,_,h⟩:=bs h
 refine QJ [v1 5 (λv0=>box (Qt.cs zz3) v0),v1 5 (λv0=>box (Qt.cs t0) v0)] [6,7] [5,6,7] λm0=>?_
 refine QY (λ_ _ H=>((H.Xl 0 rfl).add 0 rfl (λ_ _ _ h=>h.2)).pick [0,3,4]) ?_
 have⟨_,_,t1,_,h⟩:=bs2 h
 refine Qa [6,7,8] ?_
 have⟨t2,_,h⟩:=bs h
 refine Qa [4,5,6,7] ?_
 refine Qa [2,3,4,5,6,7] ?_
 refine Qf λK0 k0=>?_
 refine Qa [4,5,6,7,8,9,10,11,12] ?_
 have⟨e0,h0,h⟩:=bs h
 have J0:∀(p0:Bool×Bool),p0=e0->To M w0 91 [(8,tb p0.1),(9,tb p0.2),(6,tb t1),(5,tptr (Qt.cs t0))] [] K0:=by
  intro p0 he;subst he;refine k0 ?_;have⟨_,_,h⟩:=bs h;refine Qa [14] ?_;exact Qo h (·▸Ql hpl)
 refine Qj <|Qai h0 (λ(s0:Int×Bool×Bool)=>[(35,tsl rS [t0.A,t0.B]),(36,ti ([t0.A,t0.B].length:Int)),(37,ti s0.1),(8,tb s0.2.1),(9,tb s0.2.2),(7,ti t2),(6,tb t1),(5,tptr (Qt.cs t0)),(2,tptr (Qc.cs x_))]) (λ(s0:Int×Bool×Bool)=>[]) [0,1,2,3,4,5,6,7,8] ?_;clear h;intro s0 o K1 h ho k1;refine Qa [0,1,2,3,4,5,6,7,8,9] ?_;refine Qf λ_ k2=>Qn h (λ_ h=>?_) (λ_ h=>?_)
 ·refine Qq <|k2 <|Qf λK2 k3=>?_;have⟨p1,h1,h⟩:=bs h;have J1:To M w0 91 [(35,tsl rS [t0.A,t0.B]),(36,ti ([t0.A,t0.B].length:Int)),(37,ti s0.1),(8,tb p1.1),(9,tb p1.2),(7,ti t2),(6,tb t1),(5,tptr (Qt.cs t0)),(2,tptr (Qc.cs x_))] [] K2:=by
   refine k3 <|QL [1,2,3,4,5,6,7,8,9] ?_;exact Qu k1 ((sj h).symm) [1,2,0,3,4,5,6,7,8]
  replace h:=h1;clear h1;refine Qj ?_;have⟨_,_,h⟩:=bs h;refine Qa [2,4,5,6,7,8,9,10,11,12] ?_;refine tIfs h [5,6,7,8,9,10,11,12,13,14,15] (λ_ h=>?_) (λ_ h=>?_)
  ·refine QO ?_;obtain rfl:=sj h;exact QK J1 [2,3,4,5,6,7,8,9,10]
  have⟨_,_,_,_,t3,_,h⟩:=bs3 h;refine QJ [v1 13 (λv0=>box (Qe.cs zz0) v0),v1 13 (λv0=>box (Qe.cs t3.1) v0)] [14,15] [13,14,17,18,19,20,21,22,23,24,25] λm1=>?_;refine QY (λ_ _ H=>((H.Xl 0 rfl).add 0 rfl (λ_ _ _ h=>h.2)).pick [0,3,4,5,6,7,8,9,10,11,12]) ?_;refine Qa [5,6,8,9,10,11,12,13,14,15] ?_;refine QL [11,12,14,15,16,17,18,19,20] ?_;obtain rfl:=sj h;exact QK J1 [2,3,4,1,0,5,6,7,8]
 refine QO <|Qu J0 (ho _ (sj h).symm) [4,5,7,8]
def QdZ (s_:Qav):Option (Int):=(Qax [(Qaf.mk (decide (s_.field>0)) 13)]).bind λt0=>(some t0)
instance Qlz:Spc1 prog 263 QdZ (λs_=>[QaE.ty s_]) ti:=.mk λ{s_ r} h=>by
 unfold QdZ at h
 refine Fe func263 ntmps263 λM0 M w0 hpl=>?_
 refine Qa [0] ?_
 have⟨_,_,h⟩:=bs h
 refine Qa [6] ?_
 exact Qo h (·▸Ql hpl)
def QdN (self:Qb->Int->Int->Option (Int)) (x_:Qb) (kind_:Int) (field_:Int):Option (Int):=(Qdc x_ kind_ field_).bind λt0=>(if (!t0.2)=true then (some (-1:Int)) else (if (((t0.1).Xi==7)||((t0.1).Xi==8))=true then (idx x_.Xa kind_).bind λt1=>(QbA t1 (t0.1).Up).bind λt2=>(Qdc x_ kind_ t2).bind λt3=>(if ((t3.2&&(decide (t2<field_)))&&((t3.1).Xi==1))=true then (self x_ kind_ t2).bind λt4=>(some t4) else (some (-1:Int))) else (if ((t0.1).Xi !=1)=true then (some (-1:Int)) else (QbU x_ (t0.1).Of).bind λt5=>(if (decide (t5<kind_))=true then (some t5) else (some (-1:Int))))))
theorem QpV {self:Qb->Int->Int->Option (Int)} (hself:∀(x_:Qb) (kind_:Int) (field_:Int) (r:Int),self x_ kind_ field_=some r->FnOk prog 89 [Qc.ty x_,ti kind_,ti field_] [] (λ_=>[]) (λ_=>ti r)) {x_:Qb} {kind_:Int} {field_:Int} {r:Int} (h:QdN self x_ kind_ field_=some r):FnOk prog 89 [Qc.ty x_,ti kind_,ti field_] [] (λ_=>[]) (λ_=>ti r):=by
 unfold QdN at h;refine fe func89 ntmps89 λM0 M w0 a hpl H=>?_;refine sr mx [] H (λ_=>.o (Ql5 (R:=Qc) (u:=x_) z0)<|.o (Qr .k)<|.n) λ_ a w H=>?_;have H:=H.t3_0 [0,3,4];have⟨t0,h0,h⟩:=bs h;refine sr mx [v1 7 (λv0=>box (Qe.cs zz0) v0),v1 7 (λv0=>box (Qe.cs t0.1) v0)] H (λ_=>.o (Qaa Qbk z0)<|.q 2 rfl<|.q 4 rfl<|.o (QN QoE (Qly.ok h0) (.cons (.of z2)<|.cons (.of z1)<|.cons (.of z0)<|.nil))<|.q 0 rfl<|.o (Qag z0 rfl)<|.o (Qag z1 rfl)<|.m [] [0] rfl rfl rfl (QbG (R:=Qe) (a:=zz0) QaW Qme)<|.e [] [0] [1] rfl rfl rfl rfl (Qbe (R:=Qe) (a:=t0.1) QaW z0 z2 (leb rfl))<|.o (Qr z1)<|.n) λ_ a w H=>?_;replace H:St _ _ _ [_,_,_,_,_] [] _ _:=(((H.pick [7,8,9,10,11]).Xl 0 rfl).add 0 rfl (λ_ _ _ h=>h.2)).pick [0,3,4,5,6];refine wp_seq_k (λ_ k0=>?_);refine wp_block ?_;refine sr mx [] H (λ_=>.q 1 rfl<|.o (Qi3 z0)<|.o (Qr z0)<|.n) λ_ a w H=>?_;have H:=H.to [2,3,5,6,7] [_,_,_,_,_] [] rfl rfl;refine wi H h (λb0 h=>?_) (λb0 h=>?_)
 ·refine sr mx [] H (λ_=>.o (Qr .k)<|.n) λ_ a w H=>?_;have H:=H.t1_0 [0];exact r0 h (·▸r1 hpl H (.tmp z0 .nil))
 refine sr mx [] H (λ_=>.o (Q6 QhH z1)<|.o (Q5 (u:=(t0.1).Xi) tok3 z0 rfl)<|.o (QcG z0 .k)<|.q 0 rfl<|.g rfl rfl bq0 (λ_=>Q6 QhH z5)<|.g rfl rfl bq1 (λhc=>Q5 (u:=(t0.1).Xi) tok3 (.cond z0 hc) rfl)<|.g rfl rfl bq2 (λhc=>QcG (.cond z0 hc) .k)<|.o (Qp4 z3 (λhp=>(.cond z0 (beqF hp))))<|.o (Qr z0)<|.n) λ_ a w H=>?_;have H:=H.to [8,10,11,12,13] [_,_,_,_,_] [] rfl rfl;refine wi H h (λb1 h=>?_) (λb1 h=>?_)
 ·have⟨t1,h1,t2,h2,h⟩:=bs2 h;refine sr mx [] H (λ_=>.o (Q6 Qdo z2)<|.o (Q5 (u:=x_.Xa) Qku z0 rfl)<|.q 5 rfl<|.o (Qc0 ud29 QcX z1 z0 h1)<|.o (Qaa QcX z0)<|.o (Q6 QsB z6)<|.o (Q5 (u:=(t0.1).Up) tok9 z0 rfl)<|.o (QN Qvz (QnW.ok h2) (.cons (.of z2)<|.cons (.of z0)<|.nil))<|.o (Qr z0)<|.n) λ_ a w H=>?_;have H:=H.t4_0 [8,11,12,13];refine wp_seq_k (λ_ k1=>?_);have⟨t3,h3,h⟩:=bs h;refine sr mx [v1 7 (λv0=>box (Qe.cs zz0) v0),v1 7 (λv0=>box (Qe.cs t3.1) v0)] H (λ_=>.o (Qaa Qbk z1)<|.q 3 rfl<|.q 2 rfl<|.o (QN QoE (Qly.ok h3) (.cons (.of z2)<|.cons (.of z1)<|.cons (.of z0)<|.nil))<|.q 0 rfl<|.o (Qag z0 rfl)<|.o (Qag z1 rfl)<|.m [] [0] rfl rfl rfl (QbG (R:=Qe) (a:=zz0) QaW Qme)<|.e [] [0] [1] rfl rfl rfl rfl (Qbe (R:=Qe) (a:=t3.1) QaW z0 z2 (leb rfl))<|.o (Qr z1)<|.n) λ_ a w H=>?_;replace H:St _ _ _ [_,_,_,_,_,_] [] _ _:=(((H.pick [7,8,9,10,11,12]).Xl 0 rfl).add 0 rfl (λ_ _ _ h=>h.2)).pick [0,3,4,5,6,7];refine sr mx [] H (λ_=>.q 1 rfl<|.q 0 rfl<|.g rfl rfl bq0 (λ_=>Qaj z4)<|.g rfl rfl bq1 (λ_=>Qaj z8)<|.g rfl rfl bq2 (λhc=>Qck (.cond z1 hc) (.cond z0 hc))<|.o (QcY z3 (λhp=>(.cond z0 (beqT hp))))<|.q 0 rfl<|.g rfl rfl bq0 (λ_=>Q6 QhH z7)<|.g rfl rfl bq1 (λhc=>Q5 (u:=(t3.1).Xi) tok3 (.cond z0 hc) rfl)<|.g rfl rfl bq2 (λhc=>QcG (.cond z0 hc) .k)<|.o (QcY z3 (λhp=>(.cond z0 (beqT hp))))<|.n) λ_ a w H=>?_;have H:=H.t4_0 [10,13,14,15];refine wi H h (λb2 h=>?_) (λb2 h=>?_)
  ·have⟨t4,h4,h⟩:=bs h;refine sr mx [] H (λ_=>.o (Qaa Qbk z2)<|.q 4 rfl<|.q 3 rfl<|.o (QN QvC (hself _ _ _ _ h4) (.cons (.of z2)<|.cons (.of z1)<|.cons (.of z0)<|.nil))<|.o (Qr z0)<|.n) λ_ a w H=>?_;have H:=H.t1_0 [4];exact r0 h (·▸r1 hpl H (.tmp z0 .nil))
  refine wp_skip (k1 _ _ ?_);refine sr mx [] H (λ_=>.o (Qr .k)<|.n) λ_ a w H=>?_;have H:=H.t1_0 [0];exact r0 h (·▸r1 hpl H (.tmp z0 .nil))
 refine sr mx [] H (λ_=>.o (Q6 QhH z1)<|.o (Q5 (u:=(t0.1).Xi) tok3 z0 rfl)<|.o (Qlg z0 .k)<|.o (Qr z0)<|.n) λ_ a w H=>?_;have H:=H.t4_0 [3,5,6,7];refine wi H h (λb3 h=>?_) (λb3 h=>?_)
 ·refine sr mx [] H (λ_=>.o (Qr .k)<|.n) λ_ a w H=>?_;have H:=H.t1_0 [0];exact r0 h (·▸r1 hpl H (.tmp z0 .nil))
 refine wp_skip (k0 _ _ ?_);refine wp_seq_k (λ_ k2=>?_);have⟨t5,h5,h⟩:=bs h;refine sr mx [] H (λ_=>.o (Qaa Qbk z2)<|.o (Q6 Qoz z2)<|.o (Q5 (u:=(t0.1).Of) tok9 z0 rfl)<|.o (QN QoC (Qj4.ok h5) (.cons (.of z2)<|.cons (.of z0)<|.nil))<|.o (Qr z0)<|.n) λ_ a w H=>?_;have H:=H.t2_0 [4,8];refine sr mx [] H (λ_=>.q 0 rfl<|.q 2 rfl<|.o (Qck z1 z0)<|.n) λ_ a w H=>?_;have H:=H.t2_0 [2,3];refine wi H h (λb4 h=>?_) (λb4 h=>?_)
 ·refine sr mx [] H (λ_=>.q 1 rfl<|.o (Qr z0)<|.n) λ_ a w H=>?_;have H:=H.t1_0 [1];exact r0 h (·▸r1 hpl H (.tmp z0 .nil))
 refine wp_skip (k2 _ _ ?_);refine sr mx [] H (λ_=>.o (Qr .k)<|.n) λ_ a w H=>?_;have H:=H.t1_0 [0];exact r0 h (·▸r1 hpl H (.tmp z0 .nil))
def QjL:Nat->Qb->Int->Int->Option (Int)
 | 0=>λ_ _ _=>none
 | n+1=>QdN (QjL n)
theorem Qj5:∀(n:Nat) (x_:Qb) (kind_:Int) (field_:Int) (r:Int),QjL n x_ kind_ field_=some r->FnOk prog 89 [Qc.ty x_,ti kind_,ti field_] [] (λ_=>[]) (λ_=>ti r)
 | 0,_,_,_,r,h=>by cases h
 | n+1,x_,kind_,field_,r,h=>QpV (λx_ kind_ field_ r h=>Qj5 n x_ kind_ field_ r h) h
def Qep (x_:Qb) (kind_:Int) (field_:Int):Option (Int):=QjL (field_.natAbs+2) x_ kind_ field_
theorem Qq1 {x_:Qb} {kind_:Int} {field_:Int} {r:Int} (h:Qep x_ kind_ field_=some r):FnOk prog 89 [Qc.ty x_,ti kind_,ti field_] [] (λ_=>[]) (λ_=>ti r):=Qj5 _ _ _ _ _ h
instance :Spc3 prog 89 (λ(x_:Qb) (kind_:Int) (field_:Int)=>Qep x_ kind_ field_) (λ(x_:Qb) (kind_:Int) (field_:Int)=>[Qc.ty x_,ti kind_,ti field_]) (λ(r:Int)=>ti r):=⟨λh=>Qq1 h⟩
def Qb7 (s_:Qav):Option (Bool):=(Qep s_.x s_.kind s_.field).bind λt0=>(some (decide (t0<0)))
instance Quz:Spc1 prog 260 Qb7 (λs_=>[QaE.ty s_]) tb:=.mk λ{s_ r} h=>by
 unfold Qb7 at h
 refine Fe func260 ntmps260 λM0 M w0 hpl=>?_
 refine Qa [0] ?_
 have⟨_,_,h⟩:=bs h
 refine Qa [8] ?_
 exact Qo h (·▸Ql hpl)
def Qd0 (s_:Qav):Option (Int):=(Qb7 s_).bind λt0=>(Qax [(Qaf.mk t0 12)]).bind λt1=>(some t1)
instance QlA:Spc1 prog 264 Qd0 (λs_=>[QaE.ty s_]) ti:=.mk λ{s_ r} h=>by
 unfold Qd0 at h
 refine Fe func264 ntmps264 λM0 M w0 hpl=>?_
 refine Qa [0] ?_
 have⟨_,_,_,_,h⟩:=bs2 h
 refine Qa [5] ?_
 exact Qo h (·▸Ql hpl)
def Qd1 (s_:Qav):Option (Int):=(idx (s_.x).Xa s_.kind).bind λt0=>(QbA t0 (s_.f).Of).bind λt1=>(Qdc s_.x s_.kind t1).bind λt2=>(Qax [(Qaf.mk (((s_.f).Of !=([]:Str))&&(((decide (t1<0))||(decide (t1>=s_.field)))||((t2.1).Xi !=4))) 12)]).bind λt3=>(some t3)
instance QlB:Spc1 prog 265 Qd1 (λs_=>[QaE.ty s_]) ti:=.mk λ{s_ r} h=>by
 unfold Qd1 at h
 refine Fe func265 ntmps265 λM0 M w0 hpl=>?_
 refine Qa [0] ?_
 have⟨_,_,_,_,h⟩:=bs2 h
 refine Qa [11,12] ?_
 have⟨t0,_,h⟩:=bs h
 refine QJ [v1 9 (λv0=>box (Qe.cs zz0) v0),v1 9 (λv0=>box (Qe.cs t0.1) v0)] [10,11] [9,11,12] λm0=>?_
 refine QY (λ_ _ H=>((H.Xl 0 rfl).add 0 rfl (λ_ _ _ h=>h.2)).pick [0,3,4]) ?_
 have⟨_,_,h⟩:=bs h
 refine Qa [22] ?_
 exact Qo h (·▸Ql hpl)
def Qeq (l_:QC) (c0_:Qav):Option (Bool):=(some (l_.Xj==(c0_.f).Of))
instance QtV:Spc2 prog 267 Qeq (λl_ c0_=>[QA.ty l_,tptr (QaE.cs c0_)]) tb:=.mk λ{l_ c0_ r} h=>by
 unfold Qeq at h
 refine Fe func267 ntmps267 λM0 M w0 hpl=>?_
 refine Qa [0,3] ?_
 refine Qa [6] ?_
 exact Qo h (·▸Ql hpl)
def Qd2 (s_:Qav):Option (Int):=(Qa1 (s_.x).Xd (λx0=>Qeq x0 s_)).bind λt0=>(Qax [(Qaf.mk (!t0) 12)]).bind λt1=>(some t1)
instance QlC:Spc1 prog 266 Qd2 (λs_=>[QaE.ty s_]) ti:=.mk λ{s_ r} h=>by
 unfold Qd2 at h
 refine Fe func266 ntmps266 λM0 M w0 hpl=>?_
 refine Qa [0] ?_
 have⟨_,_,h⟩:=bs h
 refine Qa [5] ?_
 have⟨_,_,h⟩:=bs h
 refine Qa [5] ?_
 exact Qo h (·▸Ql hpl)
def QeW (x_:Qb) (kind_:Int) (f_:Qd):Option (Int×(List Int)):=(QbU x_ f_.Of).bind λt0=>(if ((f_.Xi !=6)||(decide (t0<=kind_)))=true then (some ((-1:Int),([]:List Int))) else (idx x_.Xa t0).bind λt1=>(Qm (λ(s0:Int×List Int)=>((if (decide (s0.1<(t1.Xb.length:Int)))=true then (idx t1.Xb s0.1).bind λt2=>(opt (((t2.Xi==7)&&(t2.Of==f_.Xj))==true) (Qep x_ t0 s0.1) default).bind λt3=>((if (((t2.Xi==7)&&(t2.Of==f_.Xj))&&(t3==kind_))=true then (rm (s0.2.length+[s0.1].length)).bind λ_=>(some (s0.2++[s0.1])) else (some s0.2))).bind λp0=>(some (.inl ((i64.wrap (s0.1+1)),p0))) else (some (.inr s0.2))):Option ((Int×List Int)⊕((List Int))))) ((0:Int),([]:List Int))).bind λp1=>(some (t0,p1)))
instance Qx6:Spc3 prog 269 QeW (λx_ kind_ f_=>[Qc.ty x_,ti kind_,Qe.ty f_]) (λr=>ttup [ti r.1,tsl rI r.2]):=.mk λ{x_ kind_ f_ r} h=>by
 unfold QeW at h
 refine Fe func269 ntmps269 λM0 M w0 hpl=>?_
 refine Qa [0,1,5] ?_
 have⟨t0,_,h⟩:=bs h
 refine Qa [4,5,6,7] ?_
 refine tIfs h [7,8,9,10,11] (λ_ h=>?_) (λ_ h=>?_)
 ·refine Qa [0,1] ?_
  exact Qo h (·▸Ql hpl)
 refine Qa [0,2,3,4,5] ?_
 refine QY (λ_ _ H=>H.nil (rI) 3) ?_
 refine Qf λK0 k0=>?_
 have⟨t1,_,h⟩:=bs h
 refine Qa [5,6,7,8,9,10,11,12] ?_
 have⟨e0,h0,h⟩:=bs h
 have J0:∀(p0:List Int) (y0:Value),p0=e0->To M w0 61 [(9,tv y0),(8,ti t0)] [own rI 3 p0 y0] K0:=by
  intro p0 y0 he;subst he;refine k0 <|Qa [1,2,3,4] ?_;refine Qam ?_;refine Qad (by intro _ _ H;exact (H.Xn 2 rfl).pick [0,2]) ?_;obtain rfl:=sj h;exact Ql hpl
 refine Qj <|QaC h0 (λ(s0:Int×List Int) (y1:Value)=>[(29,tsl Qe t1.Xb),(30,ti (t1.Xb.length:Int)),(31,ti s0.1),(9,tv y1),(8,ti t0),(3,tptr (Qc.cs x_)),(5,tptr (Qe.cs f_)),(1,ti kind_)]) (λ(s0:Int×List Int) (y1:Value)=>[own rI 3 s0.2 y1]) (.slice none 0 0) [0,1,2,3,4,5,6,7] ?_;clear h;intro s0 y1 o K1 h ho k1;refine Qa [0,1,2,3,4,5,6,7,8] ?_;refine Qf λ_ k2=>Qn h (λ_ h=>?_) (λ_ h=>?_)
 ·refine Qq <|k2 <|Qf λK2 k3=>Qj ?_;have⟨t2,_,h⟩:=bs h;refine QJ [v1 3 (λv0=>box (Qe.cs zz0) v0),v1 3 (λv0=>box (Qe.cs t2) v0)] [4,6] [3,4,6,7,8,9,10,11,12,13] λm0=>?_;refine QY (λ_ _ H=>(((H.Xk [1,0] rfl).Xl 0 rfl).add 0 rfl (λ_ _ _ h=>h.2)).pick [0,3,4,5,6,7,8,9,10,11]) ?_;have⟨_,_,h⟩:=bs h;refine Qa [17,19,20,21,22,23,24,25,26,27] ?_;have⟨p1,h1,h⟩:=bs h;have J1:∀(y2:Value),To M w0 61 [(9,tv y2),(29,tsl Qe t1.Xb),(30,ti (t1.Xb.length:Int)),(31,ti s0.1),(8,ti t0),(3,tptr (Qc.cs x_)),(5,tptr (Qe.cs f_)),(1,ti kind_)] [own rI 3 p1 y2] K2:=by
   intro y2;refine k3 <|QL [1,2,3,4,5,6,7,8] ?_;exact QV k1 y2 ((sj h).symm) [2,3,0,1,4,5,6,7]
  replace h:=h1;clear h1;refine Qn h (λ_ h=>?_) (λ_ h=>?_)
  ·have⟨_,_,h⟩:=bs h;refine Qal [v1 3 (λv0=>own rI 3 (s0.2++[s0.1]) v0)] [4] [3,4,7,8,9,10,11,12,13] λm1=>?_;obtain rfl:=sj h;exact QK (J1 (m1 3)) [1,2,3,4,5,6,7,8]
  refine Qq ?_;obtain rfl:=sj h;exact QK (J1 y1) [5,2,3,4,6,7,8,9]
 refine QO <|QV J0 y1 (ho _ (sj h).symm) [4,5]
def Qd3 (s_:Qav):Option (Int):=(QeW s_.x s_.kind s_.f).bind λt0=>(Qax [(Qaf.mk (decide (t0.1<0)) 12),(Qaf.mk ((t0.2.length:Int) !=1) 11)]).bind λt1=>(some t1)
instance QlD:Spc1 prog 268 Qd3 (λs_=>[QaE.ty s_]) ti:=.mk λ{s_ r} h=>by
 unfold Qd3 at h
 refine Fe func268 ntmps268 λM0 M w0 hpl=>?_
 refine Qa [0] ?_
 have⟨_,_,h⟩:=bs h
 refine Qa [10,11] ?_
 have⟨_,_,h⟩:=bs h
 refine Qa [9] ?_
 exact Qo h (·▸Ql hpl)
def Qc2 (s_:Qav):Option (Qd×Bool):=(Qep s_.x s_.kind s_.field).bind λt0=>(if (decide (t0<0))=true then (some (zz0,false)) else (idx (s_.x).Xa t0).bind λt1=>(QbA t1 (s_.f).Of).bind λt2=>(Qdc s_.x t0 t2).bind λt3=>(some (t3.1,t3.2)))
instance QvQ:Spc1 prog 271 Qc2 (λs_=>[QaE.ty s_]) (λr=>ttup [Qe.ty r.1,tb r.2]):=.mk λ{s_ r} h=>by
 unfold Qc2 at h
 refine Fe func271 ntmps271 λM0 M w0 hpl=>?_
 refine QJ [v1 1 (λv0=>box (Qe.cs zz0) v0)] [2] [0,1] λm0=>?_
 have⟨_,_,h⟩:=bs h
 refine Qa [7,8,9] ?_
 refine tIfs h [1,2,3,4] (λ_ h=>?_) (λ_ h=>?_)
 ·refine QJ [v0 (box (Qe.cs zz0) (m0 1))] [2] [1,5] λm1=>?_
  exact Qo h (·▸Ql hpl)
 have⟨_,_,_,_,t0,_,h⟩:=bs3 h
 refine QJ [v0 (box (Qe.cs t0.1) (m0 1))] [17] [16,20] λm2=>?_
 exact Qo h (·▸Ql hpl)
def Qd4 (s_:Qav):Option (Int):=(Qc2 s_).bind λt0=>(Qb7 s_).bind λt1=>(opt (((!t0.2)||((t0.1).Xi !=6))==false) (QbU s_.x (t0.1).Of) default).bind λt2=>(Qax [(Qaf.mk t1 12),(Qaf.mk (((!t0.2)||((t0.1).Xi !=6))||(t2 !=s_.kind)) 13)]).bind λt3=>(some t3)
instance QlE:Spc1 prog 270 Qd4 (λs_=>[QaE.ty s_]) ti:=.mk λ{s_ r} h=>by
 unfold Qd4 at h
 refine Fe func270 ntmps270 λM0 M w0 hpl=>?_
 refine Qa [0] ?_
 have⟨t0,_,h⟩:=bs h
 refine QJ [v1 5 (λv0=>box (Qe.cs zz0) v0),v1 5 (λv0=>box (Qe.cs t0.1) v0)] [6,7] [5,6,7] λm0=>?_
 refine QY (λ_ _ H=>((H.Xl 0 rfl).add 0 rfl (λ_ _ _ h=>h.2)).pick [0,3,4]) ?_
 have⟨_,_,_,_,_,_,h⟩:=bs3 h
 refine Qa [23] ?_
 exact Qo h (·▸Ql hpl)
def Qd5 (s_:Qav):Option (Int):=(Qc2 s_).bind λt0=>(Qb7 s_).bind λt1=>(Qax [(Qaf.mk t1 12),(Qaf.mk ((!t0.2)||(!((((((t0.1).Xi==2)||((t0.1).Xi==3))||((t0.1).Xi==4))||((t0.1).Xi==5))||((t0.1).Xi==8)))) 13)]).bind λt2=>(some t2)
instance QlF:Spc1 prog 272 Qd5 (λs_=>[QaE.ty s_]) ti:=.mk λ{s_ r} h=>by
 unfold Qd5 at h
 refine Fe func272 ntmps272 λM0 M w0 hpl=>?_
 refine Qa [0] ?_
 have⟨t0,_,h⟩:=bs h
 refine QJ [v1 5 (λv0=>box (Qe.cs zz0) v0),v1 5 (λv0=>box (Qe.cs t0.1) v0)] [6,7] [5,6,7] λm0=>?_
 refine QY (λ_ _ H=>((H.Xl 0 rfl).add 0 rfl (λ_ _ _ h=>h.2)).pick [0,3,4]) ?_
 refine Qa [23,25,26] ?_
 have⟨_,_,_,_,h⟩:=bs2 h
 refine Qa [12] ?_
 exact Qo h (·▸Ql hpl)
def QbE (i:Int):Option (Qav->Option Int):=if i=0 then some QdZ else if i=1 then some Qd0 else if i=4 then some Qd1 else if i=5 then some Qd2 else if i=6 then some Qd3 else if i=7 then some Qd4 else if i=8 then some Qd5 else none
theorem QvR {Γ:List (Nat×Ty)} {d:Option Tmp} {ty:TypeId} {pos:String} {af:Array Edge} {g:Option (Nat×Bool)} {x y:Operand} {i:Int} (hx:Fct Γ x QuW) (hi:Fct Γ y (tv (.int .i64 i))):
  OpJ prog ⟨d,.lookup 161 x y true,ty,pos,af,g⟩ Γ [] [] (λ_=>[]) (λ_=>ttup [Qcv.ty (QbR.mk (QbE i)),tv (.bool (QbE i).isSome)]):=by
 have key:(Qcb QhT i).isSome=(QbE i).isSome/\∀F w,(Qcv.ty (QbR.mk (QbE i))).ok F w ((Qcb QhT i).getD (.agg #[.nilFunc])):=by
  unfold QbE;by_cases h0:i=0
  ·subst h0;exact⟨rfl,λF w=>⟨_,rfl,.cons ⟨263,[],[],[],[],rfl,.nil,.nil,QsL,λ_ _ hq=>Qlz.ok hq⟩ .nil⟩⟩
  by_cases h1:i=1
  ·subst h1;exact⟨rfl,λF w=>⟨_,rfl,.cons ⟨264,[],[],[],[],rfl,.nil,.nil,QsM,λ_ _ hq=>QlA.ok hq⟩ .nil⟩⟩
  by_cases h4:i=4
  ·subst h4;exact⟨rfl,λF w=>⟨_,rfl,.cons ⟨265,[],[],[],[],rfl,.nil,.nil,QsN,λ_ _ hq=>QlB.ok hq⟩ .nil⟩⟩
  by_cases h5:i=5
  ·subst h5;exact⟨rfl,λF w=>⟨_,rfl,.cons ⟨266,[],[],[],[],rfl,.nil,.nil,QsO,λ_ _ hq=>QlC.ok hq⟩ .nil⟩⟩
  by_cases h6:i=6
  ·subst h6;exact⟨rfl,λF w=>⟨_,rfl,.cons ⟨268,[],[],[],[],rfl,.nil,.nil,QsP,λ_ _ hq=>QlD.ok hq⟩ .nil⟩⟩
  by_cases h7:i=7
  ·subst h7;exact⟨rfl,λF w=>⟨_,rfl,.cons ⟨270,[],[],[],[],rfl,.nil,.nil,QsQ,λ_ _ hq=>QlE.ok hq⟩ .nil⟩⟩
  by_cases h8:i=8
  ·subst h8;exact⟨rfl,λF w=>⟨_,rfl,.cons ⟨272,[],[],[],[],rfl,.nil,.nil,QsR,λ_ _ hq=>QlF.ok hq⟩ .nil⟩⟩
  simp only[Qcb,QhT,Zd h0,Zd h1,Zd h4,Zd h5,Zd h6,Zd h7,Zd h8];exact⟨rfl,λF w=>⟨_,rfl,.cons rfl .nil⟩⟩
 have h:=Qxi (P:=prog) (Γ:=Γ) (d:=d) (ty:=ty) (pos:=pos) (af:=af) (g:=g) (V:=λ_=>Qcv.ty (QbR.mk (QbE i))) underlying161 ud3 zv159 hx hi key.2;rw[key.1] at h;exact h

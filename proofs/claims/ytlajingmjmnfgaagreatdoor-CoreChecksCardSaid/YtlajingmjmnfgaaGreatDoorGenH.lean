/- The walk. No condition. -/
import Derived.Test.YtlajingmjmnfgaaGreatDoorGenG
set_option linter.all false
open Go.Proofs.Tryz Go.IntKind
namespace Go.Proofs.YtlajingmjmnfgaaGreatDoor
noncomputable section
open Go.Sim
set_option maxRecDepth 100000
set_option maxHeartbeats 4000000
def Qgs (x_:Qb) (i_:Int):Option (Int):=(idx x_.Xc i_).bind λt0=>(sub x_.Xc 0 i_).bind λt1=>(Qbj t1 (λx0=>QgL x0 t0)).bind λt2=>(Qb2 x_ t0.Xi).bind λt3=>(Ql (λ(s0:Int×Bool×Bool)=>((if (decide (s0.1<([t0.A,t0.B].length:Int)))=true then ((idx [t0.A,t0.B] s0.1).bind λt4=>(if ((t4==([]:Str))||(decide (t3<0)))=true then (some (s0.2.1,s0.2.2)) else (idx x_.Xa t3).bind λt5=>(QbB t5 t4).bind λt6=>(Qdk x_ t3 t6).bind λt7=>(some ((s0.2.1||(!t7.2)),(s0.2.2||(((t7.1).Xi !=2)&&((t7.1).Xi !=4))))))).bind λp0=>(some (.inl ((i64.wrap (s0.1+1)),p0.1,p0.2))) else (some (.inr (s0.2.1,s0.2.2)))):Option ((Int×Bool×Bool)⊕((Bool×Bool))))) ((0:Int),(decide (t3<0)),false)).bind λp1=>(Qax [(Qab.mk t2 7),(Qab.mk p1.1 12),(Qab.mk p1.2 13),(Qab.mk (t0.A==t0.B) 1)]).bind λt8=>(some t8)
instance QoU:Spc2 prog 84 Qgs (λx_ i_=>[Qd.ty x_,ti i_]) ti:=.mk λ{x_ i_ r} h=>by
 unfold Qgs at h
 refine Fe func84 ntmps84 λM0 M w0 hpl=>?_
 refine Qa [0,3] ?_
 have⟨t0,_,h⟩:=bs h
 refine QM [v1 5 (λv0=>box (QC.cs zz3) v0),v1 5 (λv0=>box (QC.cs t0) v0)] [6,7] [5,6,7] λm0=>?_
 refine Q1 (λ_ _ H=>((H.Xl 0 rfl).add 0 rfl (λ_ _ _ h=>h.2)).pick [0,3,4]) ?_
 have⟨_,_,t1,_,h⟩:=bs2 h
 refine Qa [6,7,8] ?_
 have⟨t2,_,h⟩:=bs h
 refine Qa [4,5,6,7] ?_
 refine Qa [2,3,4,5,6,7] ?_
 refine Qf λK0 k0=>?_
 refine Qa [4,5,6,7,8,9,10,11,12] ?_
 have⟨e0,h0,h⟩:=bs h
 have J0:∀(p0:Bool×Bool),p0=e0->To M w0 91 [(8,tb p0.1),(9,tb p0.2),(6,tb t1),(5,tptr (QC.cs t0))] [] K0:=by
  intro p0 he;subst he;refine k0 ?_;have⟨_,_,h⟩:=bs h;refine Qa [14] ?_;exact Qo h (·▸Qm hpl)
 refine Qj <|Qai h0 (λ(s0:Int×Bool×Bool)=>[(35,tsl rS [t0.A,t0.B]),(36,ti ([t0.A,t0.B].length:Int)),(37,ti s0.1),(8,tb s0.2.1),(9,tb s0.2.2),(7,ti t2),(6,tb t1),(5,tptr (QC.cs t0)),(2,tptr (Qd.cs x_))]) (λ(s0:Int×Bool×Bool)=>[]) [0,1,2,3,4,5,6,7,8] ?_;clear h;intro s0 o K1 h ho k1;refine Qa [0,1,2,3,4,5,6,7,8,9] ?_;refine Qf λ_ k2=>Qn h (λ_ h=>?_) (λ_ h=>?_)
 ·refine Qq <|k2 <|Qf λK2 k3=>?_;have⟨p1,h1,h⟩:=bs h;have J1:To M w0 91 [(35,tsl rS [t0.A,t0.B]),(36,ti ([t0.A,t0.B].length:Int)),(37,ti s0.1),(8,tb p1.1),(9,tb p1.2),(7,ti t2),(6,tb t1),(5,tptr (QC.cs t0)),(2,tptr (Qd.cs x_))] [] K2:=by
   refine k3 <|QJ [1,2,3,4,5,6,7,8,9] ?_;exact Qu k1 ((sj h).symm) [1,2,0,3,4,5,6,7,8]
  replace h:=h1;clear h1;refine Qj ?_;have⟨_,_,h⟩:=bs h;refine Qa [2,4,5,6,7,8,9,10,11,12] ?_;refine tIfs h [5,6,7,8,9,10,11,12,13,14,15] (λ_ h=>?_) (λ_ h=>?_)
  ·refine QN ?_;obtain rfl:=sj h;exact QR J1 [2,3,4,5,6,7,8,9,10]
  have⟨_,_,_,_,t3,_,h⟩:=bs3 h;refine QM [v1 13 (λv0=>box (Qe.cs zz0) v0),v1 13 (λv0=>box (Qe.cs t3.1) v0)] [14,15] [13,14,17,18,19,20,21,22,23,24,25] λm1=>?_;refine Q1 (λ_ _ H=>((H.Xl 0 rfl).add 0 rfl (λ_ _ _ h=>h.2)).pick [0,3,4,5,6,7,8,9,10,11,12]) ?_;refine Qa [5,6,8,9,10,11,12,13,14,15] ?_;refine QJ [11,12,14,15,16,17,18,19,20] ?_;obtain rfl:=sj h;exact QR J1 [2,3,4,1,0,5,6,7,8]
 refine QN <|Qu J0 (ho _ (sj h).symm) [4,5,7,8]
def Qef (s_:Qar):Option (Int):=(Qax [(Qab.mk (decide (s_.field>0)) 13)]).bind λt0=>(some t0)
instance QlK:Spc1 prog 263 Qef (λs_=>[QaE.ty s_]) ti:=.mk λ{s_ r} h=>by
 unfold Qef at h
 refine Fe func263 ntmps263 λM0 M w0 hpl=>?_
 refine Qa [0] ?_
 have⟨_,_,h⟩:=bs h
 refine Qa [6] ?_
 exact Qo h (·▸Qm hpl)
def QdZ (self:Qb->Int->Int->Option (Int)) (x_:Qb) (kind_:Int) (field_:Int):Option (Int):=(Qdk x_ kind_ field_).bind λt0=>(if (!t0.2)=true then (some (-1:Int)) else (if (((t0.1).Xi==7)||((t0.1).Xi==8))=true then (idx x_.Xa kind_).bind λt1=>(QbB t1 (t0.1).Up).bind λt2=>(Qdk x_ kind_ t2).bind λt3=>(if ((t3.2&&(decide (t2<field_)))&&((t3.1).Xi==1))=true then (self x_ kind_ t2).bind λt4=>(some t4) else (some (-1:Int))) else (if ((t0.1).Xi !=1)=true then (some (-1:Int)) else (Qb2 x_ (t0.1).Of).bind λt5=>(if (decide (t5<kind_))=true then (some t5) else (some (-1:Int))))))
theorem Qp8 {self:Qb->Int->Int->Option (Int)} (hself:∀(x_:Qb) (kind_:Int) (field_:Int) (r:Int),self x_ kind_ field_=some r->FnOk prog 89 [Qd.ty x_,ti kind_,ti field_] [] (λ_=>[]) (λ_=>ti r)) {x_:Qb} {kind_:Int} {field_:Int} {r:Int} (h:QdZ self x_ kind_ field_=some r):FnOk prog 89 [Qd.ty x_,ti kind_,ti field_] [] (λ_=>[]) (λ_=>ti r):=by
 unfold QdZ at h;refine fe func89 ntmps89 λM0 M w0 a hpl H=>?_;refine sr mx [] H (λ_=>.o (Qmj (R:=Qd) (u:=x_) z0)<|.o (Qp .k)<|.n) λ_ a w H=>?_;have H:=H.t3_0 [0,3,4];have⟨t0,h0,h⟩:=bs h;refine sr mx [v1 7 (λv0=>box (Qe.cs zz0) v0),v1 7 (λv0=>box (Qe.cs t0.1) v0)] H (λ_=>.o (Qae Qcm z0)<|.q 2 rfl<|.q 4 rfl<|.o (QL QoO (QlJ.ok h0) (.cons (.of z2)<|.cons (.of z1)<|.cons (.of z0)<|.nil))<|.q 0 rfl<|.o (Qag z0 rfl)<|.o (Qag z1 rfl)<|.m [] [0] rfl rfl rfl (QbH (R:=Qe) (a:=zz0) Qa4 Qmp)<|.e [] [0] [1] rfl rfl rfl rfl (Qbd (R:=Qe) (a:=t0.1) Qa4 z0 z2 (leb rfl))<|.o (Qp z1)<|.n) λ_ a w H=>?_;replace H:St _ _ _ [_,_,_,_,_] [] _ _:=(((H.pick [7,8,9,10,11]).Xl 0 rfl).add 0 rfl (λ_ _ _ h=>h.2)).pick [0,3,4,5,6];refine wp_seq_k (λ_ k0=>?_);refine wp_block ?_;refine sr mx [] H (λ_=>.q 1 rfl<|.o (Qj4 z0)<|.o (Qp z0)<|.n) λ_ a w H=>?_;have H:=H.to [2,3,5,6,7] [_,_,_,_,_] [] rfl rfl;refine wi H h (λb0 h=>?_) (λb0 h=>?_)
 ·refine sr mx [] H (λ_=>.o (Qp .k)<|.n) λ_ a w H=>?_;have H:=H.t1_0 [0];exact r0 h (·▸r1 hpl H (.tmp z0 .nil))
 refine sr mx [] H (λ_=>.o (Q7 QhU z1)<|.o (Q5 (u:=(t0.1).Xi) tok3 z0 rfl)<|.o (QcO z0 .k)<|.q 0 rfl<|.g rfl rfl bq0 (λ_=>Q7 QhU z5)<|.g rfl rfl bq1 (λhc=>Q5 (u:=(t0.1).Xi) tok3 (.cond z0 hc) rfl)<|.g rfl rfl bq2 (λhc=>QcO (.cond z0 hc) .k)<|.o (Qny z3 (λhp=>(.cond z0 (beqF hp))))<|.o (Qp z0)<|.n) λ_ a w H=>?_;have H:=H.to [8,10,11,12,13] [_,_,_,_,_] [] rfl rfl;refine wi H h (λb1 h=>?_) (λb1 h=>?_)
 ·have⟨t1,h1,t2,h2,h⟩:=bs2 h;refine sr mx [] H (λ_=>.o (Q7 Qd1 z2)<|.o (Q5 (u:=x_.Xa) QkF z0 rfl)<|.q 5 rfl<|.o (Qd7 ud29 Qdh z1 z0 h1)<|.o (Qae Qdh z0)<|.o (Q7 QsX z6)<|.o (Q5 (u:=(t0.1).Up) tok9 z0 rfl)<|.o (QL Qv4 (Qn3.ok h2) (.cons (.of z2)<|.cons (.of z0)<|.nil))<|.o (Qp z0)<|.n) λ_ a w H=>?_;have H:=H.t4_0 [8,11,12,13];refine wp_seq_k (λ_ k1=>?_);have⟨t3,h3,h⟩:=bs h;refine sr mx [v1 7 (λv0=>box (Qe.cs zz0) v0),v1 7 (λv0=>box (Qe.cs t3.1) v0)] H (λ_=>.o (Qae Qcm z1)<|.q 3 rfl<|.q 2 rfl<|.o (QL QoO (QlJ.ok h3) (.cons (.of z2)<|.cons (.of z1)<|.cons (.of z0)<|.nil))<|.q 0 rfl<|.o (Qag z0 rfl)<|.o (Qag z1 rfl)<|.m [] [0] rfl rfl rfl (QbH (R:=Qe) (a:=zz0) Qa4 Qmp)<|.e [] [0] [1] rfl rfl rfl rfl (Qbd (R:=Qe) (a:=t3.1) Qa4 z0 z2 (leb rfl))<|.o (Qp z1)<|.n) λ_ a w H=>?_;replace H:St _ _ _ [_,_,_,_,_,_] [] _ _:=(((H.pick [7,8,9,10,11,12]).Xl 0 rfl).add 0 rfl (λ_ _ _ h=>h.2)).pick [0,3,4,5,6,7];refine sr mx [] H (λ_=>.q 1 rfl<|.q 0 rfl<|.g rfl rfl bq0 (λ_=>Qat z4)<|.g rfl rfl bq1 (λ_=>Qat z8)<|.g rfl rfl bq2 (λhc=>Qc0 (.cond z1 hc) (.cond z0 hc))<|.o (QdO z3 (λhp=>(.cond z0 (beqT hp))))<|.q 0 rfl<|.g rfl rfl bq0 (λ_=>Q7 QhU z7)<|.g rfl rfl bq1 (λhc=>Q5 (u:=(t3.1).Xi) tok3 (.cond z0 hc) rfl)<|.g rfl rfl bq2 (λhc=>QcO (.cond z0 hc) .k)<|.o (QdO z3 (λhp=>(.cond z0 (beqT hp))))<|.n) λ_ a w H=>?_;have H:=H.t4_0 [10,13,14,15];refine wi H h (λb2 h=>?_) (λb2 h=>?_)
  ·have⟨t4,h4,h⟩:=bs h;refine sr mx [] H (λ_=>.o (Qae Qcm z2)<|.q 4 rfl<|.q 3 rfl<|.o (QL Qv7 (hself _ _ _ _ h4) (.cons (.of z2)<|.cons (.of z1)<|.cons (.of z0)<|.nil))<|.o (Qp z0)<|.n) λ_ a w H=>?_;have H:=H.t1_0 [4];exact r0 h (·▸r1 hpl H (.tmp z0 .nil))
  refine wp_skip (k1 _ _ ?_);refine sr mx [] H (λ_=>.o (Qp .k)<|.n) λ_ a w H=>?_;have H:=H.t1_0 [0];exact r0 h (·▸r1 hpl H (.tmp z0 .nil))
 refine sr mx [] H (λ_=>.o (Q7 QhU z1)<|.o (Q5 (u:=(t0.1).Xi) tok3 z0 rfl)<|.o (QqD z0 .k)<|.o (Qp z0)<|.n) λ_ a w H=>?_;have H:=H.t4_0 [3,5,6,7];refine wi H h (λb3 h=>?_) (λb3 h=>?_)
 ·refine sr mx [] H (λ_=>.o (Qp .k)<|.n) λ_ a w H=>?_;have H:=H.t1_0 [0];exact r0 h (·▸r1 hpl H (.tmp z0 .nil))
 refine wp_skip (k0 _ _ ?_);refine wp_seq_k (λ_ k2=>?_);have⟨t5,h5,h⟩:=bs h;refine sr mx [] H (λ_=>.o (Qae Qcm z2)<|.o (Q7 QoJ z2)<|.o (Q5 (u:=(t0.1).Of) tok9 z0 rfl)<|.o (QL QoM (Qkg.ok h5) (.cons (.of z2)<|.cons (.of z0)<|.nil))<|.o (Qp z0)<|.n) λ_ a w H=>?_;have H:=H.t2_0 [4,8];refine sr mx [] H (λ_=>.q 0 rfl<|.q 2 rfl<|.o (Qc0 z1 z0)<|.n) λ_ a w H=>?_;have H:=H.t2_0 [2,3];refine wi H h (λb4 h=>?_) (λb4 h=>?_)
 ·refine sr mx [] H (λ_=>.q 1 rfl<|.o (Qp z0)<|.n) λ_ a w H=>?_;have H:=H.t1_0 [1];exact r0 h (·▸r1 hpl H (.tmp z0 .nil))
 refine wp_skip (k2 _ _ ?_);refine sr mx [] H (λ_=>.o (Qp .k)<|.n) λ_ a w H=>?_;have H:=H.t1_0 [0];exact r0 h (·▸r1 hpl H (.tmp z0 .nil))
def QjY:Nat->Qb->Int->Int->Option (Int)
 | 0=>λ_ _ _=>none
 | n+1=>QdZ (QjY n)
theorem Qkh:∀(n:Nat) (x_:Qb) (kind_:Int) (field_:Int) (r:Int),QjY n x_ kind_ field_=some r->FnOk prog 89 [Qd.ty x_,ti kind_,ti field_] [] (λ_=>[]) (λ_=>ti r)
 | 0,_,_,_,r,h=>by cases h
 | n+1,x_,kind_,field_,r,h=>Qp8 (λx_ kind_ field_ r h=>Qkh n x_ kind_ field_ r h) h
def QeF (x_:Qb) (kind_:Int) (field_:Int):Option (Int):=QjY (field_.natAbs+2) x_ kind_ field_
theorem Qre {x_:Qb} {kind_:Int} {field_:Int} {r:Int} (h:QeF x_ kind_ field_=some r):FnOk prog 89 [Qd.ty x_,ti kind_,ti field_] [] (λ_=>[]) (λ_=>ti r):=Qkh _ _ _ _ _ h
instance :Spc3 prog 89 (λ(x_:Qb) (kind_:Int) (field_:Int)=>QeF x_ kind_ field_) (λ(x_:Qb) (kind_:Int) (field_:Int)=>[Qd.ty x_,ti kind_,ti field_]) (λ(r:Int)=>ti r):=⟨λh=>Qre h⟩
def Qch (s_:Qar):Option (Bool):=(QeF s_.x s_.kind s_.field).bind λt0=>(some (decide (t0<0)))
instance Qu0:Spc1 prog 260 Qch (λs_=>[QaE.ty s_]) tb:=.mk λ{s_ r} h=>by
 unfold Qch at h
 refine Fe func260 ntmps260 λM0 M w0 hpl=>?_
 refine Qa [0] ?_
 have⟨_,_,h⟩:=bs h
 refine Qa [8] ?_
 exact Qo h (·▸Qm hpl)
def Qeg (s_:Qar):Option (Int):=(Qch s_).bind λt0=>(Qax [(Qab.mk t0 12)]).bind λt1=>(some t1)
instance QlL:Spc1 prog 264 Qeg (λs_=>[QaE.ty s_]) ti:=.mk λ{s_ r} h=>by
 unfold Qeg at h
 refine Fe func264 ntmps264 λM0 M w0 hpl=>?_
 refine Qa [0] ?_
 have⟨_,_,_,_,h⟩:=bs2 h
 refine Qa [5] ?_
 exact Qo h (·▸Qm hpl)
def Qeh (s_:Qar):Option (Int):=(idx (s_.x).Xa s_.kind).bind λt0=>(QbB t0 (s_.f).Of).bind λt1=>(Qdk s_.x s_.kind t1).bind λt2=>(Qax [(Qab.mk (((s_.f).Of !=([]:Str))&&(((decide (t1<0))||(decide (t1>=s_.field)))||((t2.1).Xi !=4))) 12)]).bind λt3=>(some t3)
instance QlM:Spc1 prog 265 Qeh (λs_=>[QaE.ty s_]) ti:=.mk λ{s_ r} h=>by
 unfold Qeh at h
 refine Fe func265 ntmps265 λM0 M w0 hpl=>?_
 refine Qa [0] ?_
 have⟨_,_,_,_,h⟩:=bs2 h
 refine Qa [11,12] ?_
 have⟨t0,_,h⟩:=bs h
 refine QM [v1 9 (λv0=>box (Qe.cs zz0) v0),v1 9 (λv0=>box (Qe.cs t0.1) v0)] [10,11] [9,11,12] λm0=>?_
 refine Q1 (λ_ _ H=>((H.Xl 0 rfl).add 0 rfl (λ_ _ _ h=>h.2)).pick [0,3,4]) ?_
 have⟨_,_,h⟩:=bs h
 refine Qa [22] ?_
 exact Qo h (·▸Qm hpl)
def QeG (l_:QA) (c0_:Qar):Option (Bool):=(some (l_.Xj==(c0_.f).Of))
instance Qug:Spc2 prog 267 QeG (λl_ c0_=>[QH.ty l_,tptr (QaE.cs c0_)]) tb:=.mk λ{l_ c0_ r} h=>by
 unfold QeG at h
 refine Fe func267 ntmps267 λM0 M w0 hpl=>?_
 refine Qa [0,3] ?_
 refine Qa [6] ?_
 exact Qo h (·▸Qm hpl)
def Qei (s_:Qar):Option (Int):=(QaV (s_.x).Xd (λx0=>QeG x0 s_)).bind λt0=>(Qax [(Qab.mk (!t0) 12)]).bind λt1=>(some t1)
instance QlN:Spc1 prog 266 Qei (λs_=>[QaE.ty s_]) ti:=.mk λ{s_ r} h=>by
 unfold Qei at h
 refine Fe func266 ntmps266 λM0 M w0 hpl=>?_
 refine Qa [0] ?_
 have⟨_,_,h⟩:=bs h
 refine Qa [5] ?_
 have⟨_,_,h⟩:=bs h
 refine Qa [5] ?_
 exact Qo h (·▸Qm hpl)
def Qfd (x_:Qb) (kind_:Int) (f_:Qc):Option (Int×(List Int)):=(Qb2 x_ f_.Of).bind λt0=>(if ((f_.Xi !=6)||(decide (t0<=kind_)))=true then (some ((-1:Int),([]:List Int))) else (idx x_.Xa t0).bind λt1=>(Ql (λ(s0:Int×List Int)=>((if (decide (s0.1<(t1.Xb.length:Int)))=true then (idx t1.Xb s0.1).bind λt2=>(opt (((t2.Xi==7)&&(t2.Of==f_.Xj))==true) (QeF x_ t0 s0.1) default).bind λt3=>((if (((t2.Xi==7)&&(t2.Of==f_.Xj))&&(t3==kind_))=true then (rm (s0.2.length+[s0.1].length)).bind λ_=>(some (s0.2++[s0.1])) else (some s0.2))).bind λp0=>(some (.inl ((i64.wrap (s0.1+1)),p0))) else (some (.inr s0.2))):Option ((Int×List Int)⊕((List Int))))) ((0:Int),([]:List Int))).bind λp1=>(some (t0,p1)))
instance QyE:Spc3 prog 269 Qfd (λx_ kind_ f_=>[Qd.ty x_,ti kind_,Qe.ty f_]) (λr=>ttup [ti r.1,tsl rI r.2]):=.mk λ{x_ kind_ f_ r} h=>by
 unfold Qfd at h
 refine Fe func269 ntmps269 λM0 M w0 hpl=>?_
 refine Qa [0,1,5] ?_
 have⟨t0,_,h⟩:=bs h
 refine Qa [4,5,6,7] ?_
 refine tIfs h [7,8,9,10,11] (λ_ h=>?_) (λ_ h=>?_)
 ·refine Qa [0,1] ?_
  exact Qo h (·▸Qm hpl)
 refine Qa [0,2,3,4,5] ?_
 refine Q1 (λ_ _ H=>H.nil (rI) 3) ?_
 refine Qf λK0 k0=>?_
 have⟨t1,_,h⟩:=bs h
 refine Qa [5,6,7,8,9,10,11,12] ?_
 have⟨e0,h0,h⟩:=bs h
 have J0:∀(p0:List Int) (y0:Value),p0=e0->To M w0 61 [(9,tv y0),(8,ti t0)] [own rI 3 p0 y0] K0:=by
  intro p0 y0 he;subst he;refine k0 <|Qa [1,2,3,4] ?_;refine Qal ?_;refine Qah (by intro _ _ H;exact (H.Xn 2 rfl).pick [0,2]) ?_;obtain rfl:=sj h;exact Qm hpl
 refine Qj <|QaF h0 (λ(s0:Int×List Int) (y1:Value)=>[(29,tsl Qe t1.Xb),(30,ti (t1.Xb.length:Int)),(31,ti s0.1),(9,tv y1),(8,ti t0),(3,tptr (Qd.cs x_)),(5,tptr (Qe.cs f_)),(1,ti kind_)]) (λ(s0:Int×List Int) (y1:Value)=>[own rI 3 s0.2 y1]) (.slice none 0 0) [0,1,2,3,4,5,6,7] ?_;clear h;intro s0 y1 o K1 h ho k1;refine Qa [0,1,2,3,4,5,6,7,8] ?_;refine Qf λ_ k2=>Qn h (λ_ h=>?_) (λ_ h=>?_)
 ·refine Qq <|k2 <|Qf λK2 k3=>Qj ?_;have⟨t2,_,h⟩:=bs h;refine QM [v1 3 (λv0=>box (Qe.cs zz0) v0),v1 3 (λv0=>box (Qe.cs t2) v0)] [4,6] [3,4,6,7,8,9,10,11,12,13] λm0=>?_;refine Q1 (λ_ _ H=>(((H.Xk [1,0] rfl).Xl 0 rfl).add 0 rfl (λ_ _ _ h=>h.2)).pick [0,3,4,5,6,7,8,9,10,11]) ?_;have⟨_,_,h⟩:=bs h;refine Qa [17,19,20,21,22,23,24,25,26,27] ?_;have⟨p1,h1,h⟩:=bs h;have J1:∀(y2:Value),To M w0 61 [(9,tv y2),(29,tsl Qe t1.Xb),(30,ti (t1.Xb.length:Int)),(31,ti s0.1),(8,ti t0),(3,tptr (Qd.cs x_)),(5,tptr (Qe.cs f_)),(1,ti kind_)] [own rI 3 p1 y2] K2:=by
   intro y2;refine k3 <|QJ [1,2,3,4,5,6,7,8] ?_;exact QX k1 y2 ((sj h).symm) [2,3,0,1,4,5,6,7]
  replace h:=h1;clear h1;refine Qn h (λ_ h=>?_) (λ_ h=>?_)
  ·have⟨_,_,h⟩:=bs h;refine Qau [v1 3 (λv0=>own rI 3 (s0.2++[s0.1]) v0)] [4] [3,4,7,8,9,10,11,12,13] λm1=>?_;obtain rfl:=sj h;exact QR (J1 (m1 3)) [1,2,3,4,5,6,7,8]
  refine Qq ?_;obtain rfl:=sj h;exact QR (J1 y1) [5,2,3,4,6,7,8,9]
 refine QN <|QX J0 y1 (ho _ (sj h).symm) [4,5]
def Qej (s_:Qar):Option (Int):=(Qfd s_.x s_.kind s_.f).bind λt0=>(Qax [(Qab.mk (decide (t0.1<0)) 12),(Qab.mk ((t0.2.length:Int) !=1) 11)]).bind λt1=>(some t1)
instance QlO:Spc1 prog 268 Qej (λs_=>[QaE.ty s_]) ti:=.mk λ{s_ r} h=>by
 unfold Qej at h
 refine Fe func268 ntmps268 λM0 M w0 hpl=>?_
 refine Qa [0] ?_
 have⟨_,_,h⟩:=bs h
 refine Qa [10,11] ?_
 have⟨_,_,h⟩:=bs h
 refine Qa [9] ?_
 exact Qo h (·▸Qm hpl)
def Qc4 (s_:Qar):Option (Qc×Bool):=(QeF s_.x s_.kind s_.field).bind λt0=>(if (decide (t0<0))=true then (some (zz0,false)) else (idx (s_.x).Xa t0).bind λt1=>(QbB t1 (s_.f).Of).bind λt2=>(Qdk s_.x t0 t2).bind λt3=>(some (t3.1,t3.2)))
instance Qwl:Spc1 prog 271 Qc4 (λs_=>[QaE.ty s_]) (λr=>ttup [Qe.ty r.1,tb r.2]):=.mk λ{s_ r} h=>by
 unfold Qc4 at h
 refine Fe func271 ntmps271 λM0 M w0 hpl=>?_
 refine QM [v1 1 (λv0=>box (Qe.cs zz0) v0)] [2] [0,1] λm0=>?_
 have⟨_,_,h⟩:=bs h
 refine Qa [7,8,9] ?_
 refine tIfs h [1,2,3,4] (λ_ h=>?_) (λ_ h=>?_)
 ·refine QM [v0 (box (Qe.cs zz0) (m0 1))] [2] [1,5] λm1=>?_
  exact Qo h (·▸Qm hpl)
 have⟨_,_,_,_,t0,_,h⟩:=bs3 h
 refine QM [v0 (box (Qe.cs t0.1) (m0 1))] [17] [16,20] λm2=>?_
 exact Qo h (·▸Qm hpl)
def Qek (s_:Qar):Option (Int):=(Qc4 s_).bind λt0=>(Qch s_).bind λt1=>(opt (((!t0.2)||((t0.1).Xi !=6))==false) (Qb2 s_.x (t0.1).Of) default).bind λt2=>(Qax [(Qab.mk t1 12),(Qab.mk (((!t0.2)||((t0.1).Xi !=6))||(t2 !=s_.kind)) 13)]).bind λt3=>(some t3)
instance QlP:Spc1 prog 270 Qek (λs_=>[QaE.ty s_]) ti:=.mk λ{s_ r} h=>by
 unfold Qek at h
 refine Fe func270 ntmps270 λM0 M w0 hpl=>?_
 refine Qa [0] ?_
 have⟨t0,_,h⟩:=bs h
 refine QM [v1 5 (λv0=>box (Qe.cs zz0) v0),v1 5 (λv0=>box (Qe.cs t0.1) v0)] [6,7] [5,6,7] λm0=>?_
 refine Q1 (λ_ _ H=>((H.Xl 0 rfl).add 0 rfl (λ_ _ _ h=>h.2)).pick [0,3,4]) ?_
 have⟨_,_,_,_,_,_,h⟩:=bs3 h
 refine Qa [23] ?_
 exact Qo h (·▸Qm hpl)
def Qel (s_:Qar):Option (Int):=(Qc4 s_).bind λt0=>(Qch s_).bind λt1=>(Qax [(Qab.mk t1 12),(Qab.mk ((!t0.2)||(!((((((t0.1).Xi==2)||((t0.1).Xi==3))||((t0.1).Xi==4))||((t0.1).Xi==5))||((t0.1).Xi==8)))) 13)]).bind λt2=>(some t2)
instance QlQ:Spc1 prog 272 Qel (λs_=>[QaE.ty s_]) ti:=.mk λ{s_ r} h=>by
 unfold Qel at h
 refine Fe func272 ntmps272 λM0 M w0 hpl=>?_
 refine Qa [0] ?_
 have⟨t0,_,h⟩:=bs h
 refine QM [v1 5 (λv0=>box (Qe.cs zz0) v0),v1 5 (λv0=>box (Qe.cs t0.1) v0)] [6,7] [5,6,7] λm0=>?_
 refine Q1 (λ_ _ H=>((H.Xl 0 rfl).add 0 rfl (λ_ _ _ h=>h.2)).pick [0,3,4]) ?_
 refine Qa [23,25,26] ?_
 have⟨_,_,_,_,h⟩:=bs2 h
 refine Qa [12] ?_
 exact Qo h (·▸Qm hpl)
def QbE (i:Int):Option (Qar->Option Int):=if i=0 then some Qef else if i=1 then some Qeg else if i=4 then some Qeh else if i=5 then some Qei else if i=6 then some Qej else if i=7 then some Qek else if i=8 then some Qel else none
theorem Qwm {Γ:List (Nat×Ty)} {d:Option Tmp} {ty:TypeId} {pos:String} {af:Array Edge} {g:Option (Nat×Bool)} {x y:Operand} {i:Int} (hx:Fct Γ x Qvo) (hi:Fct Γ y (tv (.int .i64 i))):
  OpJ prog ⟨d,.lookup 161 x y true,ty,pos,af,g⟩ Γ [] [] (λ_=>[]) (λ_=>ttup [QcE.ty (QbZ.mk (QbE i)),tv (.bool (QbE i).isSome)]):=by
 have key:(Qck Qh7 i).isSome=(QbE i).isSome/\∀F w,(QcE.ty (QbZ.mk (QbE i))).ok F w ((Qck Qh7 i).getD (.agg #[.nilFunc])):=by
  unfold QbE;by_cases h0:i=0
  ·subst h0;exact⟨rfl,λF w=>⟨_,rfl,.cons ⟨263,[],[],[],[],rfl,.nil,.nil,Qs7,λ_ _ hq=>QlK.ok hq⟩ .nil⟩⟩
  by_cases h1:i=1
  ·subst h1;exact⟨rfl,λF w=>⟨_,rfl,.cons ⟨264,[],[],[],[],rfl,.nil,.nil,Qs8,λ_ _ hq=>QlL.ok hq⟩ .nil⟩⟩
  by_cases h4:i=4
  ·subst h4;exact⟨rfl,λF w=>⟨_,rfl,.cons ⟨265,[],[],[],[],rfl,.nil,.nil,Qs9,λ_ _ hq=>QlM.ok hq⟩ .nil⟩⟩
  by_cases h5:i=5
  ·subst h5;exact⟨rfl,λF w=>⟨_,rfl,.cons ⟨266,[],[],[],[],rfl,.nil,.nil,Qta,λ_ _ hq=>QlN.ok hq⟩ .nil⟩⟩
  by_cases h6:i=6
  ·subst h6;exact⟨rfl,λF w=>⟨_,rfl,.cons ⟨268,[],[],[],[],rfl,.nil,.nil,Qtb,λ_ _ hq=>QlO.ok hq⟩ .nil⟩⟩
  by_cases h7:i=7
  ·subst h7;exact⟨rfl,λF w=>⟨_,rfl,.cons ⟨270,[],[],[],[],rfl,.nil,.nil,Qtc,λ_ _ hq=>QlP.ok hq⟩ .nil⟩⟩
  by_cases h8:i=8
  ·subst h8;exact⟨rfl,λF w=>⟨_,rfl,.cons ⟨272,[],[],[],[],rfl,.nil,.nil,Qtd,λ_ _ hq=>QlQ.ok hq⟩ .nil⟩⟩
  simp only[Qck,Qh7,Zd h0,Zd h1,Zd h4,Zd h5,Zd h6,Zd h7,Zd h8];exact⟨rfl,λF w=>⟨_,rfl,.cons rfl .nil⟩⟩
 have h:=QxO (P:=prog) (Γ:=Γ) (d:=d) (ty:=ty) (pos:=pos) (af:=af) (g:=g) (V:=λ_=>QcE.ty (QbZ.mk (QbE i))) underlying161 ud3 zv159 hx hi key.2;rw[key.1] at h;exact h
def Qeu (x_:Qb):Option ((List Qz)):=(QfP x_).bind λt0=>(if (t0 !=0)=true then (some [(Qz.mk (-1) (-1) (-1) t0)]) else (Ql (λ(s0:Int×List Qz)=>((if (decide (s0.1<(x_.Xd.length:Int)))=true then (idx x_.Xd s0.1).bind λt1=>(sub x_.Xd 0 s0.1).bind λt2=>(QaV t2 (λx0=>Qf9 x0 t1)).bind λt3=>(Qax [(Qab.mk t3 7)]).bind λt4=>(Qcn (-1) s0.1 (-1) t4 s0.2).bind λt5=>(some (.inl ((i64.wrap (s0.1+1)),t5))) else (some (.inr s0.2))):Option ((Int×List Qz)⊕((List Qz))))) ((0:Int),([]:List Qz))).bind λp0=>(Ql (λ(s1:Int×List Qz)=>((if (decide (s1.1<(x_.Xa.length:Int)))=true then (idx x_.Xa s1.1).bind λt6=>(Qgr x_ s1.1).bind λt7=>(Qcn s1.1 (-1) (-1) t7 s1.2).bind λt8=>(Ql (λ(s2:Int×List Qz)=>((if (decide (s2.1<(t6.Xb.length:Int)))=true then (idx t6.Xb s2.1).bind λt9=>(QbB t6 t9.Xj).bind λt10=>(Qax [(Qab.mk (decide (t10<s2.1)) 7)]).bind λt11=>((if ((QbE t9.Xi).isSome&&(t11==0))=true then (Qml ((QbZ.mk (QbE t9.Xi))).check (Qar.mk x_ s1.1 s2.1 t9)).bind λt12=>(some t12) else (some t11))).bind λp1=>(Qcn s1.1 s2.1 (-1) p1 s2.2).bind λt13=>(some (.inl ((i64.wrap (s2.1+1)),t13))) else (some (.inr s2.2))):Option ((Int×List Qz)⊕((List Qz))))) ((0:Int),t8)).bind λp2=>(some (.inl ((i64.wrap (s1.1+1)),p2))) else (some (.inr s1.2))):Option ((Int×List Qz)⊕((List Qz))))) ((0:Int),p0)).bind λp3=>(Ql (λ(s3:Int×List Qz)=>((if (decide (s3.1<(x_.Xc.length:Int)))=true then (Qgs x_ s3.1).bind λt14=>(Qcn (-1) (-1) s3.1 t14 s3.2).bind λt15=>(some (.inl ((i64.wrap (s3.1+1)),t15))) else (some (.inr s3.2))):Option ((Int×List Qz)⊕((List Qz))))) ((0:Int),p3)).bind λp4=>(some p4))
instance QzD:SpcS prog 25 (∀{x_:Qb} {r:(List Qz)},Qeu x_=some r->FnOk prog 25 [Qd.ty x_] [glo] (λ_=>[]) (λ_=>tsl Q8 r)):=.mk λ{x_ r} h=>by
 unfold Qeu at h
 refine Fe func25 ntmps25 λM0 M w0 hpl=>?_
 refine Qa [0] ?_
 refine Qf λ_ k0=>?_
 have⟨_,_,h⟩:=bs h
 refine Qa [2,3] ?_
 refine Qa [1,2,3] ?_
 refine Qn h (λ_ h=>?_) (λ_ h=>?_)
 ·refine Qa [3] ?_
  exact Qo h (·▸Qm hpl)
 refine Qq ?_
 refine k0 ?_
 intro a w H
 refine sr mx [v1 0 (λv0=>box (rVal.cs nilV) v0)] H (λ_=>.m [] [1] rfl rfl rfl (Qfm QvJ)<|.n) λm0 a w H=>?_
 replace H:St _ _ _ [_,_] [_,_,_] _ _:=(H.pick [0,3]).nil (Q8) 149
 refine Q6 H ?_
 refine Qa [1,2,3] ?_
 refine Qf λK0 k1=>?_
 refine Qa [1,2,3,4,5,6] ?_
 have⟨e0,h0,h⟩:=bs h
 have J0:∀(p0:List Qz) (y0:Value),p0=e0->To M w0 119 [(5,QaU 78 [tv (m0 0)]),(4,tv (m0 0)),(1,tptr (Qd.cs x_))] [own Q8 149 p0 y0,glo,box (rVal.cs y0) (m0 0)] K0:=by
  intro p0 y0 he;subst he;refine k1 <|Qf λK1 k2=>Qa [1,2,3,4,5,6] ?_;have⟨e1,h1,h⟩:=bs h;have J1:∀(p1:List Qz) (y1:Value),p1=e1->To M w0 119 [(5,QaU 78 [tv (m0 0)]),(4,tv (m0 0)),(1,tptr (Qd.cs x_))] [own Q8 149 p1 y1,glo,box (rVal.cs y1) (m0 0)] K1:=by
   intro p1 y1 he;subst he;refine k2 <|Qf λK2 k3=>Qa [2,3,4,5,6] ?_;have⟨e2,h2,h⟩:=bs h;have J2:∀(p2:List Qz) (y2:Value),p2=e2->To M w0 119 [(4,tv (m0 0))] [own Q8 149 p2 y2,glo,box (rVal.cs y2) (m0 0)] K2:=by
    intro p2 y2 he;subst he;refine k3 <|Qa [0,1] ?_;refine Q1 (λ_ _ H=>H.Xk [0,1] rfl) ?_;refine Qal ?_;refine Qah (by intro _ _ H;exact (H.Xn 1 rfl).pick [0]) ?_;obtain rfl:=sj h;exact Qm hpl
   refine Qj <|QaF h2 (λ(s0:Int×List Qz) (y3:Value)=>[(107,ti (x_.Xc.length:Int)),(108,ti s0.1),(5,QaU 78 [tv (m0 0)]),(4,tv (m0 0)),(1,tptr (Qd.cs x_))]) (λ(s0:Int×List Qz) (y3:Value)=>[own Q8 149 s0.2 y3,glo,box (rVal.cs y3) (m0 0)]) y1 [0,1,2,3,4] ?_;clear h;intro s0 y3 o K3 h ho k4;refine Qa [0,1,2,3,4,5] ?_;refine Qf λ_ k5=>Qn h (λ_ h=>?_) (λ_ h=>?_)
   ·refine Qq <|k5 <|Qf λ_ k6=>Qj <|Qa [1,3,4,5,6,7] ?_;have⟨_,h3,t0,h4,h⟩:=bs2 h;intro a w H;refine wr mx [v1 5 (λv0=>box (rVal.cs v0) (m0 0)),v1 5 (λv0=>own Q8 149 t0 v0)] H (λ_=>.q 3 rfl<|.q 1 rfl<|.o (Qae Qcm z7)<|.q 3 rfl<|.o (QL Qv5 (QoU.ok h3) (.cons (.of z1)<|.cons (.of z0)<|.nil))<|.e [] [2,0] [3,4] rfl rfl rfl rfl (Qgd QlE (QeS.ok h4) z4 (.cons (.of .k)<|.cons (.of .k)<|.cons (.of z3)<|.cons (.of z0)<|.nil))<|.n) λm1 a w H=>?_;have H:=H.to [7,8,9,10,11] [_,_,_,_,_] [_,_,_] rfl rfl;refine QbC H ?_;refine k6 <|QJ [1,2,3,4,5] ?_;refine Qah (λ_ _ H=>(H.pick [1,0,2,3,4]).Xk [2,0,1] rfl) ?_;exact QX k4 (m1 5) ((sj h).symm) [0,1,2,3,4]
   refine QN <|QX J2 y3 (ho _ (sj h).symm) [4]
  refine Qj <|QaF h1 (λ(s1:Int×List Qz) (y4:Value)=>[(48,tsl Qk x_.Xa),(49,ti (x_.Xa.length:Int)),(50,ti s1.1),(5,QaU 78 [tv (m0 0)]),(4,tv (m0 0)),(1,tptr (Qd.cs x_))]) (λ(s1:Int×List Qz) (y4:Value)=>[own Q8 149 s1.2 y4,glo,box (rVal.cs y4) (m0 0)]) y0 [0,1,2,3,4,5] ?_;clear h;intro s1 y4 o K4 h ho k7;refine Qa [0,1,2,3,4,5,6] ?_;refine Qf λ_ k8=>Qn h (λ_ h=>?_) (λ_ h=>?_)
  ·refine Qq <|k8 <|Qf λK5 k9=>Qj ?_;have⟨t1,_,h⟩:=bs h;refine QM [v1 3 (λv0=>box (Qk.cs zz1) v0),v1 3 (λv0=>box (Qk.cs t1) v0)] [4,6] [3,4,6,7,8,9,10,11] λm2=>?_;refine Q1 (λ_ _ H=>(((H.Xk [3,0,1,2] rfl).Xl 0 rfl).add 0 rfl (λ_ _ _ h=>h.2)).pick [0,3,4,5,6,7,8,9]) ?_;have⟨_,h5,t2,h6,h⟩:=bs2 h;intro a w H;refine sr mx [v1 5 (λv0=>box (rVal.cs v0) (m0 0)),v1 5 (λv0=>own Q8 149 t2 v0)] H (λ_=>.q 5 rfl<|.q 2 rfl<|.o (Qae Qcm z9)<|.q 4 rfl<|.o (QL Qv3 (QoT.ok h5) (.cons (.of z1)<|.cons (.of z0)<|.nil))<|.e [] [2,0] [3,4] rfl rfl rfl rfl (Qgd QlE (QeS.ok h6) z4 (.cons (.of z3)<|.cons (.of .k)<|.cons (.of .k)<|.cons (.of z0)<|.nil))<|.n) λm3 a w H=>?_;have H:=H.to [6,7,8,9,10,11,12,13] [_,_,_,_,_,_,_,_] [_,_,_] rfl rfl;refine Q6 H ?_;refine Qa [1,2,3,4,5,6,7,8,9,10,11] ?_;have⟨e3,h7,h⟩:=bs h;have J3:∀(p3:List Qz) (y5:Value),p3=e3->To M w0 119 [(48,tsl Qk x_.Xa),(49,ti (x_.Xa.length:Int)),(50,ti s1.1),(5,QaU 78 [tv (m0 0)]),(4,tv (m0 0)),(1,tptr (Qd.cs x_))] [glo,box (rVal.cs y5) (m0 0),own Q8 149 p3 y5] K5:=by
    intro p3 y5 he;subst he;refine k9 <|QJ [1,2,3,4,5,6] ?_;refine Qah (λ_ _ H=>(H.pick [1,2,0,3,4,5]).Xk [2,0,1] rfl) ?_;exact QX k7 y5 ((sj h).symm) [0,1,2,3,4,5]
   refine Qj <|QaF h7 (λ(s2:Int×List Qz) (y6:Value)=>[(62,tsl Qe t1.Xb),(63,ti (t1.Xb.length:Int)),(64,ti s2.1),(10,tptr (Qk.cs t1)),(9,ti s1.1),(48,tsl Qk x_.Xa),(49,ti (x_.Xa.length:Int)),(50,ti s1.1),(5,QaU 78 [tv (m0 0)]),(4,tv (m0 0)),(1,tptr (Qd.cs x_))]) (λ(s2:Int×List Qz) (y6:Value)=>[glo,box (rVal.cs y6) (m0 0),own Q8 149 s2.2 y6]) (m3 5) [0,1,2,3,4,5,6,7,8,9,10] ?_;clear h;intro s2 y6 o K6 h ho k10;refine Qa [0,1,2,3,4,5,6,7,8,9,10,11] ?_;refine Qf λ_ k11=>Qn h (λ_ h=>?_) (λ_ h=>?_)
   ·refine Qq <|k11 <|Qf λ_ k12=>Qj ?_;have⟨t3,_,h⟩:=bs h;refine QM [v1 3 (λv0=>box (Qe.cs zz0) v0),v1 3 (λv0=>box (Qe.cs t3) v0)] [4,6] [3,4,6,7,8,9,10,11,12,13,14,15,16] λm4=>?_;refine Q1 (λ_ _ H=>(((H.Xk [3,0,1,2] rfl).Xl 0 rfl).add 0 rfl (λ_ _ _ h=>h.2)).pick [0,3,4,5,6,7,8,9,10,11,12,13,14]) ?_;have⟨_,_,t4,_,h⟩:=bs2 h;refine Qa [9,10,11,12,13,14,15,16,17,18,19,20,21,22] ?_;refine Qf λK7 k13=>?_;intro a w H;refine sr mx [v1 7 (λv0=>box (QcE.cs (QbZ.mk none)) v0),v1 7 (λv0=>box (QcE.cs (QbZ.mk (QbE t3.Xi))) v0)] H (λ_=>.u [0] rfl rfl (QxL (R:=rMapC Qh7) (u:=()) QxV tokM0 rfl)<|.o (Q7 QhU z2)<|.o (Q5 (u:=t3.Xi) tok3 z0 rfl)<|.o (Qwm z2 z0)<|.q 0 rfl<|.o (Qag z0 rfl)<|.o (Qag z1 rfl)<|.m [] [3] rfl rfl rfl (QbH (R:=QcE) (a:=(QbZ.mk none)) QnS Qvz)<|.e [] [3] [4] rfl rfl rfl rfl (Qbd (R:=QcE) (a:=(QbZ.mk (QbE t3.Xi))) QnS z0 z2 (leb rfl))<|.o (Qp z1)<|.n) λ_ a w H=>?_;replace H:St _ _ _ [_,_,_,_,_,_,_,_,_,_,_,_,_,_,_,_] [_,_,_] _ _:=((((H.pick [7,8,9,10,11,12,13,14,15,16,17,18,19,20,21,22]).Xk [3,0,1,2] rfl).Xl 0 rfl).add 0 rfl (λ_ _ _ h=>h.2)).pick [0,3,4,5,6,7,8,9,10,11,12,13,14,15,16,17];refine Q6 H ?_;refine Qa [4,5,7,8,9,10,11,12,13,14,15,16,17,18,19,20] ?_;have⟨p4,h8,h⟩:=bs h;have J4:To M w0 119 [(13,ti p4),(11,ti s2.1),(62,tsl Qe t1.Xb),(63,ti (t1.Xb.length:Int)),(64,ti s2.1),(10,tptr (Qk.cs t1)),(9,ti s1.1),(48,tsl Qk x_.Xa),(49,ti (x_.Xa.length:Int)),(50,ti s1.1),(5,QaU 78 [tv (m0 0)]),(4,tv (m0 0)),(1,tptr (Qd.cs x_))] [glo,box (rVal.cs y6) (m0 0),own Q8 149 s2.2 y6] K7:=by
     refine k13 ?_;have⟨t5,h9,h⟩:=bs h;intro a w H;refine wr mx [v1 4 (λv0=>box (rVal.cs v0) (m0 0)),v1 4 (λv0=>own Q8 149 t5 v0)] H (λ_=>.q 10 rfl<|.q 7 rfl<|.q 3 rfl<|.q 3 rfl<|.e [] [1,2] [3,4] rfl rfl rfl rfl (Qgd QlE (QeS.ok h9) z3 (.cons (.of z2)<|.cons (.of z1)<|.cons (.of .k)<|.cons (.of z0)<|.nil))<|.n) λm5 a w H=>?_;have H:=H.to [7,8,9,10,11,12,13,14,15,16,17] [_,_,_,_,_,_,_,_,_,_,_] [_,_,_] rfl rfl;refine QbC H ?_;refine k12 <|QJ [1,2,3,4,5,6,7,8,9,10,11] ?_;exact QX k10 (m5 4) ((sj h).symm) [1,2,0,3,4,5,6,7,8,9,10]
    replace h:=h8;clear h8;refine Qn h (λ_ h=>?_) (λ_ h=>?_)
    ·have⟨t6,h10,h⟩:=bs h;intro a w H;refine wr mx [] H (λ_=>.o (Q7 QqX z1)<|.o (Q5 (u:=((QbZ.mk (QbE t3.Xi))).check) Qx0 z0 rfl)<|.o (Qae Qcm z17)<|.q 12 rfl<|.q 8 rfl<|.o (Qae Qa4 z8)<|.p (T:=QaE.ty (Qar.mk x_ s1.1 s2.1 t3)) rfl (QaO underlying163 pl163 zv163 zc163 (.cons (R:=Qd) (u:=x_) rfl z3 (leb rfl)<|.cons (R:=rI) (u:=s1.1) rfl z2 (leb rfl)<|.cons (R:=rI) (u:=s2.1) rfl z1 (leb rfl)<|.cons (R:=Qe) (u:=t3) rfl z0 (leb rfl)<|.nil _))<|.o (QxN (u:=(Qar.mk x_ s1.1 s2.1 t3)) z5 (.cons (.of z0)<|.nil) h10)<|.o (Qp z0)<|.n) λ_ a w H=>?_;have H:=H.to [8,12,13,14,15,16,17,18,19,20,21,22,23] [_,_,_,_,_,_,_,_,_,_,_,_,_] [_,_,_] rfl rfl;refine QbC H ?_;obtain rfl:=sj h;exact QR J4 [0,1,2,3,4,5,6,7,8,9,10,11,12]
    refine Qq ?_;obtain rfl:=sj h;exact QR J4 [2,4,5,6,7,8,9,10,11,12,13,14,15]
   refine QN <|QX J3 y6 (ho _ (sj h).symm) [6,7,8,9,10,11]
  refine QN <|QX J1 y4 (ho _ (sj h).symm) [4,5,6]
 refine Qj <|QaF h0 (λ(s3:Int×List Qz) (y7:Value)=>[(26,tsl QH x_.Xd),(27,ti (x_.Xd.length:Int)),(28,ti s3.1),(5,QaU 78 [tv (m0 0)]),(4,tv (m0 0)),(1,tptr (Qd.cs x_))]) (λ(s3:Int×List Qz) (y7:Value)=>[own Q8 149 s3.2 y7,glo,box (rVal.cs y7) (m0 0)]) nilV [0,1,2,3,4,5] ?_;clear h;intro s3 y7 o K8 h ho k14;refine Qa [0,1,2,3,4,5,6] ?_;refine Qf λ_ k15=>Qn h (λ_ h=>?_) (λ_ h=>?_)
 ·refine Qq <|k15 <|Qf λ_ k16=>Qj ?_;have⟨t7,_,h⟩:=bs h;refine QM [v1 3 (λv0=>box (QH.cs zz2) v0),v1 3 (λv0=>box (QH.cs t7) v0)] [4,6] [3,4,6,7,8,9,10,11] λm6=>?_;refine Q1 (λ_ _ H=>(((H.Xk [3,0,1,2] rfl).Xl 0 rfl).add 0 rfl (λ_ _ _ h=>h.2)).pick [0,3,4,5,6,7,8,9]) ?_;have⟨_,_,t8,_,h⟩:=bs2 h;refine Qa [6,8,9,10,11,12,13,14] ?_;have⟨_,h11,t9,h12,h⟩:=bs2 h;intro a w H;refine wr mx [v1 6 (λv0=>box (rVal.cs v0) (m0 0)),v1 6 (λv0=>own Q8 149 t9 v0)] H (λ_=>.q 5 rfl<|.q 2 rfl<|.q 2 rfl<|.p (T:=Qa8.ty (Qab.mk t8 (7:Int))) rfl (QaO underlying155 pl155 zv155 Qt6 (.cons (R:=Qa2) (u:=t8) rfl z0 (leb rfl)<|.cons (R:=rI) (u:=(7:Int)) rfl .k (leb rfl)<|.nil _))<|.o (Qam (R:=Qa8) (us:=[(Qab.mk t8 (7:Int))]) underlying206 QqU (.cons z0<|.nil _) rfl (leb rfl))<|.o (QL Qv2 (Qn2.ok h11) (.cons (.of z0)<|.nil))<|.e [] [2,0] [3,4] rfl rfl rfl rfl (Qgd QlE (QeS.ok h12) z5 (.cons (.of .k)<|.cons (.of z4)<|.cons (.of .k)<|.cons (.of z0)<|.nil))<|.n) λm7 a w H=>?_;have H:=H.to [9,10,11,12,13,14] [_,_,_,_,_,_] [_,_,_] rfl rfl;refine QbC H ?_;refine k16 <|QJ [1,2,3,4,5,6] ?_;refine Qah (λ_ _ H=>(H.pick [1,2,0,3,4,5]).Xk [2,0,1] rfl) ?_;exact QX k14 (m7 6) ((sj h).symm) [0,1,2,3,4,5]
 refine QN <|QX J0 y7 (ho _ (sj h).symm) [4,5,6]
def QfQ (x_:Qb):Option (Int):=(Qeu x_).bind λt0=>(if (decide ((t0.length:Int)>0))=true then (idx t0 0).bind λt1=>(some t1.Code) else (some (0:Int)))
instance QzE:SpcS prog 53 (∀{x_:Qb} {r:Int},QfQ x_=some r->FnOk prog 53 [Qd.ty x_] [glo] (λ_=>[]) (λ_=>ti r)):=.mk λ{x_ r} h=>by
 unfold QfQ at h
 refine Fe func53 ntmps53 λM0 M w0 hpl=>?_
 refine Qa [0] ?_
 refine Qf λ_ k0=>?_
 have⟨_,_,h⟩:=bs h
 refine Qa [2] ?_
 refine Qa [2,3] ?_
 refine Qn h (λ_ h=>?_) (λ_ h=>?_)
 ·have⟨_,_,h⟩:=bs h
  refine Qa [4] ?_
  exact Qo h (·▸Qm hpl)
 refine Qq ?_
 refine k0 ?_
 refine Qa [0] ?_
 exact Qo h (·▸Qm hpl)

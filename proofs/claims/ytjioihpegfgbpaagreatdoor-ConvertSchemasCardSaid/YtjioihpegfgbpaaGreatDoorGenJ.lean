/- The walk. No condition. -/
import Derived.Test.YtjioihpegfgbpaaGreatDoorGenI
set_option linter.all false
open Go.Proofs.Tryz Go.IntKind
namespace Go.Proofs.YtjioihpegfgbpaaGreatDoor
noncomputable section
open Go.Sim
set_option maxRecDepth 100000
set_option maxHeartbeats 4000000
def Qdb (self:Qa->Int->Int->Option (Int)) (x_:Qa) (kind_:Int) (field_:Int):Option (Int):=(QcR x_ kind_ field_).bind λt0=>(if (!t0.2)=true then (some (-1:Int)) else (if (((t0.1).Xh==7)||((t0.1).Xh==8))=true then (idx x_.Xa kind_).bind λt1=>(Qbk t1 (t0.1).Up).bind λt2=>(QcR x_ kind_ t2).bind λt3=>(if ((t3.2&&(decide (t2<field_)))&&((t3.1).Xh==1))=true then (self x_ kind_ t2).bind λt4=>(some t4) else (some (-1:Int))) else (if ((t0.1).Xh !=1)=true then (some (-1:Int)) else (QbB x_ (t0.1).Of).bind λt5=>(if (decide (t5<kind_))=true then (some t5) else (some (-1:Int))))))
theorem Qqh {self:Qa->Int->Int->Option (Int)} (hself:∀(x_:Qa) (kind_:Int) (field_:Int) (r:Int),self x_ kind_ field_=some r->FnOk prog 122 [Qb.ty x_,ti kind_,ti field_] [] (λ_=>[]) (λ_=>ti r)) {x_:Qa} {kind_:Int} {field_:Int} {r:Int} (h:Qdb self x_ kind_ field_=some r):FnOk prog 122 [Qb.ty x_,ti kind_,ti field_] [] (λ_=>[]) (λ_=>ti r):=by
 unfold Qdb at h;refine fe func122 ntmps122 λM0 M w0 a hpl H=>?_;refine sr mx [] H (λ_=>.o (Q9 (R:=Qb) (u:=x_) z0)<|.o (Qc .k)<|.n) λ_ a w H=>?_;have H:=H.to [0,3,4] [_,_,_] [] rfl rfl;have⟨t0,h0,h⟩:=bs h;refine sr mx [v1 7 (λv0=>box (Qe.cs zz0) v0),v1 7 (λv0=>box (Qe.cs t0.1) v0)] H (λ_=>.o (Qw QH z0)<|.q 2 rfl<|.q 4 rfl<|.o (Qq Qsw (QmI.ok h0) (.cons (.of z2)<|.cons (.of z1)<|.cons (.of z0)<|.nil))<|.q 0 rfl<|.o (QQ z0 rfl)<|.o (QQ z1 rfl)<|.m [] [0] rfl rfl rfl (QV (R:=Qe) (a:=zz0) Q4 QgM)<|.e [] [0] [1] rfl rfl rfl rfl (QG (R:=Qe) (a:=t0.1) Q4 z0 z2 (leb rfl))<|.o (Qc z1)<|.n) λ_ a w H=>?_;replace H:St _ _ _ [_,_,_,_,_] [] _ _:=(((H.pick [7,8,9,10,11]).Xk 0 rfl).add 0 rfl (λ_ _ _ h=>h.2)).pick [0,3,4,5,6];refine wp_seq_k (λ_ k0=>?_);refine wp_block ?_;refine sr mx [] H (λ_=>.q 1 rfl<|.o (Qex z0)<|.o (Qc z0)<|.n) λ_ a w H=>?_;have H:=H.to [2,3,5,6,7] [_,_,_,_,_] [] rfl rfl;refine wi H h (λb0 h=>?_) (λb0 h=>?_)
 ·refine sr mx [] H (λ_=>.o (Qc .k)<|.n) λ_ a w H=>?_;have H:=H.t1_0 [0];exact r0 h (·▸r1 hpl H (.tmp z0 .nil))
 refine sr mx [] H (λ_=>.o (Qg QbY z1)<|.o (Qf (u:=(t0.1).Xh) tok3 z0 rfl)<|.o (Qau z0 .k)<|.q 0 rfl<|.g rfl rfl bq0 (λ_=>Qg QbY z5)<|.g rfl rfl bq1 (λhc=>Qf (u:=(t0.1).Xh) tok3 (.cond z0 hc) rfl)<|.g rfl rfl bq2 (λhc=>Qau (.cond z0 hc) .k)<|.o (Qbo z3 (λhp=>(.cond z0 (beqF hp))))<|.o (Qc z0)<|.n) λ_ a w H=>?_;have H:=H.to [8,10,11,12,13] [_,_,_,_,_] [] rfl rfl;refine wi H h (λb1 h=>?_) (λb1 h=>?_)
 ·have⟨t1,h1,t2,h2,h⟩:=bs2 h;refine sr mx [] H (λ_=>.o (Qg QZ z2)<|.o (Qf (u:=x_.Xa) Qa0 z0 rfl)<|.q 5 rfl<|.o (QA ud23 Q6 z1 z0 h1)<|.o (Qw Q6 z0)<|.o (Qg Qlo z6)<|.o (Qf (u:=(t0.1).Up) tok9 z0 rfl)<|.o (Qq Qrl (QiC.ok h2) (.cons (.of z2)<|.cons (.of z0)<|.nil))<|.o (Qc z0)<|.n) λ_ a w H=>?_;have H:=H.to [8,11,12,13] [_,_,_,_] [] rfl rfl;refine wp_seq_k (λ_ k1=>?_);have⟨t3,h3,h⟩:=bs h;refine sr mx [v1 7 (λv0=>box (Qe.cs zz0) v0),v1 7 (λv0=>box (Qe.cs t3.1) v0)] H (λ_=>.o (Qw QH z1)<|.q 3 rfl<|.q 2 rfl<|.o (Qq Qsw (QmI.ok h3) (.cons (.of z2)<|.cons (.of z1)<|.cons (.of z0)<|.nil))<|.q 0 rfl<|.o (QQ z0 rfl)<|.o (QQ z1 rfl)<|.m [] [0] rfl rfl rfl (QV (R:=Qe) (a:=zz0) Q4 QgM)<|.e [] [0] [1] rfl rfl rfl rfl (QG (R:=Qe) (a:=t3.1) Q4 z0 z2 (leb rfl))<|.o (Qc z1)<|.n) λ_ a w H=>?_;replace H:St _ _ _ [_,_,_,_,_,_] [] _ _:=(((H.pick [7,8,9,10,11,12]).Xk 0 rfl).add 0 rfl (λ_ _ _ h=>h.2)).pick [0,3,4,5,6,7];refine sr mx [] H (λ_=>.q 1 rfl<|.q 0 rfl<|.g rfl rfl bq0 (λ_=>QL z4)<|.g rfl rfl bq1 (λ_=>QL z8)<|.g rfl rfl bq2 (λhc=>Q8 (.cond z1 hc) (.cond z0 hc))<|.o (Qby z3 (λhp=>(.cond z0 (beqT hp))))<|.q 0 rfl<|.g rfl rfl bq0 (λ_=>Qg QbY z7)<|.g rfl rfl bq1 (λhc=>Qf (u:=(t3.1).Xh) tok3 (.cond z0 hc) rfl)<|.g rfl rfl bq2 (λhc=>Qau (.cond z0 hc) .k)<|.o (Qby z3 (λhp=>(.cond z0 (beqT hp))))<|.n) λ_ a w H=>?_;have H:=H.to [10,13,14,15] [_,_,_,_] [] rfl rfl;refine wi H h (λb2 h=>?_) (λb2 h=>?_)
  ·have⟨t4,h4,h⟩:=bs h;refine sr mx [] H (λ_=>.o (Qw QH z2)<|.q 4 rfl<|.q 3 rfl<|.o (Qq Qpf (hself _ _ _ _ h4) (.cons (.of z2)<|.cons (.of z1)<|.cons (.of z0)<|.nil))<|.o (Qc z0)<|.n) λ_ a w H=>?_;have H:=H.t1_0 [4];exact r0 h (·▸r1 hpl H (.tmp z0 .nil))
  refine wp_skip (k1 _ _ ?_);refine sr mx [] H (λ_=>.o (Qc .k)<|.n) λ_ a w H=>?_;have H:=H.t1_0 [0];exact r0 h (·▸r1 hpl H (.tmp z0 .nil))
 refine sr mx [] H (λ_=>.o (Qg QbY z1)<|.o (Qf (u:=(t0.1).Xh) tok3 z0 rfl)<|.o (QaI z0 .k)<|.o (Qc z0)<|.n) λ_ a w H=>?_;have H:=H.to [3,5,6,7] [_,_,_,_] [] rfl rfl;refine wi H h (λb3 h=>?_) (λb3 h=>?_)
 ·refine sr mx [] H (λ_=>.o (Qc .k)<|.n) λ_ a w H=>?_;have H:=H.t1_0 [0];exact r0 h (·▸r1 hpl H (.tmp z0 .nil))
 refine wp_skip (k0 _ _ ?_);refine wp_seq_k (λ_ k2=>?_);have⟨t5,h5,h⟩:=bs h;refine sr mx [] H (λ_=>.o (Qw QH z2)<|.o (Qg Qio z2)<|.o (Qf (u:=(t0.1).Of) tok9 z0 rfl)<|.o (Qq QoA (Qhw.ok h5) (.cons (.of z2)<|.cons (.of z0)<|.nil))<|.o (Qc z0)<|.n) λ_ a w H=>?_;have H:=H.t2_0 [4,8];refine sr mx [] H (λ_=>.q 0 rfl<|.q 2 rfl<|.o (Q8 z1 z0)<|.n) λ_ a w H=>?_;have H:=H.t2_0 [2,3];refine wi H h (λb4 h=>?_) (λb4 h=>?_)
 ·refine sr mx [] H (λ_=>.q 1 rfl<|.o (Qc z0)<|.n) λ_ a w H=>?_;have H:=H.t1_0 [1];exact r0 h (·▸r1 hpl H (.tmp z0 .nil))
 refine wp_skip (k2 _ _ ?_);refine sr mx [] H (λ_=>.o (Qc .k)<|.n) λ_ a w H=>?_;have H:=H.t1_0 [0];exact r0 h (·▸r1 hpl H (.tmp z0 .nil))
def Qja:Nat->Qa->Int->Int->Option (Int)
 | 0=>λ_ _ _=>none
 | n+1=>Qdb (Qja n)
theorem Qlt:∀(n:Nat) (x_:Qa) (kind_:Int) (field_:Int) (r:Int),Qja n x_ kind_ field_=some r->FnOk prog 122 [Qb.ty x_,ti kind_,ti field_] [] (λ_=>[]) (λ_=>ti r)
 | 0,_,_,_,r,h=>by cases h
 | n+1,x_,kind_,field_,r,h=>Qqh (λx_ kind_ field_ r h=>Qlt n x_ kind_ field_ r h) h
def Qdh (x_:Qa) (kind_:Int) (field_:Int):Option (Int):=Qja (field_.natAbs+2) x_ kind_ field_
theorem Qkc {x_:Qa} {kind_:Int} {field_:Int} {r:Int} (h:Qdh x_ kind_ field_=some r):FnOk prog 122 [Qb.ty x_,ti kind_,ti field_] [] (λ_=>[]) (λ_=>ti r):=Qlt _ _ _ _ _ h
instance :Spc3 prog 122 (λ(x_:Qa) (kind_:Int) (field_:Int)=>Qdh x_ kind_ field_) (λ(x_:Qa) (kind_:Int) (field_:Int)=>[Qb.ty x_,ti kind_,ti field_]) (λ(r:Int)=>ti r):=⟨λh=>Qkc h⟩
def QcA (s_:QaJ):Option (Bool):=(Qdh s_.x s_.kind s_.field).bind λt0=>(some (decide (t0<0)))
instance QtX:Spc1 prog 219 QcA (λs_=>[Qbu.ty s_]) tb:=.mk λ{s_ r} h=>by
 unfold QcA at h
 refine Fe func219 ntmps219 λM0 M w0 hpl=>?_
 refine QyV [0] ?_
 have⟨_,_,h⟩:=bs h
 refine QyV [8] ?_
 exact QyZ h (·▸QyX hpl)
def QeH (s_:QaJ):Option (Int):=(QcA s_).bind λt0=>(QaG [(Qat.mk t0 12)]).bind λt1=>(some t1)
instance QmK:Spc1 prog 249 QeH (λs_=>[Qbu.ty s_]) ti:=.mk λ{s_ r} h=>by
 unfold QeH at h
 refine Fe func249 ntmps249 λM0 M w0 hpl=>?_
 refine QyV [0] ?_
 have⟨_,_,_,_,h⟩:=bs2 h
 refine QyV [5] ?_
 exact QyZ h (·▸QyX hpl)
def QeI (s_:QaJ):Option (Int):=(idx (s_.x).Xa s_.kind).bind λt0=>(Qbk t0 (s_.f).Of).bind λt1=>(QcR s_.x s_.kind t1).bind λt2=>(QaG [(Qat.mk (((s_.f).Of !=([]:Str))&&(((decide (t1<0))||(decide (t1>=s_.field)))||((t2.1).Xh !=4))) 12)]).bind λt3=>(some t3)
instance QmL:Spc1 prog 250 QeI (λs_=>[Qbu.ty s_]) ti:=.mk λ{s_ r} h=>by
 unfold QeI at h
 refine Fe func250 ntmps250 λM0 M w0 hpl=>?_
 refine QyV [0] ?_
 have⟨_,_,_,_,h⟩:=bs2 h
 refine QyV [11,12] ?_
 have⟨t0,_,h⟩:=bs h
 refine Qy5 [v1 9 (λv0=>box (Qe.cs zz0) v0),v1 9 (λv0=>box (Qe.cs t0.1) v0)] [10,11] [9,11,12] λm0=>?_
 refine Qy9 (λ_ _ H=>((H.Xk 0 rfl).add 0 rfl (λ_ _ _ h=>h.2)).pick [0,3,4]) ?_
 have⟨_,_,h⟩:=bs h
 refine QyV [22] ?_
 exact QyZ h (·▸QyX hpl)
def Qfc (l_:Qr) (c0_:QaJ):Option (Bool):=(some (l_.Xi==(c0_.f).Of))
instance Qtq:Spc2 prog 252 Qfc (λl_ c0_=>[Qo.ty l_,tptr (Qbu.cs c0_)]) tb:=.mk λ{l_ c0_ r} h=>by
 unfold Qfc at h
 refine Fe func252 ntmps252 λM0 M w0 hpl=>?_
 refine QyV [0,3] ?_
 refine QyV [6] ?_
 exact QyZ h (·▸QyX hpl)
def QeJ (s_:QaJ):Option (Int):=(Qbd (s_.x).Xd (λx0=>Qfc x0 s_)).bind λt0=>(QaG [(Qat.mk (!t0) 12)]).bind λt1=>(some t1)
instance QmM:Spc1 prog 251 QeJ (λs_=>[Qbu.ty s_]) ti:=.mk λ{s_ r} h=>by
 unfold QeJ at h
 refine Fe func251 ntmps251 λM0 M w0 hpl=>?_
 refine QyV [0] ?_
 have⟨_,_,h⟩:=bs h
 refine QyV [5] ?_
 have⟨_,_,h⟩:=bs h
 refine QyV [5] ?_
 exact QyZ h (·▸QyX hpl)
def QfO (x_:Qa) (kind_:Int) (f_:Qd):Option (Int×(List Int)):=(QbB x_ f_.Of).bind λt0=>(if ((f_.Xh !=6)||(decide (t0<=kind_)))=true then (some ((-1:Int),([]:List Int))) else (idx x_.Xa t0).bind λt1=>(Qz (λ(s0:Int×List Int)=>((if (decide (s0.1<(t1.Xb.length:Int)))=true then (idx t1.Xb s0.1).bind λt2=>(opt (((t2.Xh==7)&&(t2.Of==f_.Xi))==true) (Qdh x_ t0 s0.1) default).bind λt3=>((if (((t2.Xh==7)&&(t2.Of==f_.Xi))&&(t3==kind_))=true then (rm (s0.2.length+[s0.1].length)).bind λ_=>(some (s0.2++[s0.1])) else (some s0.2))).bind λp0=>(some (.inl ((i64.wrap (s0.1+1)),p0))) else (some (.inr s0.2))):Option ((Int×List Int)⊕((List Int))))) ((0:Int),([]:List Int))).bind λp1=>(some (t0,p1)))
instance Qwt:Spc3 prog 184 QfO (λx_ kind_ f_=>[Qb.ty x_,ti kind_,Qe.ty f_]) (λr=>ttup [ti r.1,tsl rI r.2]):=.mk λ{x_ kind_ f_ r} h=>by
 unfold QfO at h
 refine Fe func184 ntmps184 λM0 M w0 hpl=>?_
 refine QyV [0,1,5] ?_
 have⟨t0,_,h⟩:=bs h
 refine QyV [4,5,6,7] ?_
 refine tIfs h [7,8,9,10,11] (λ_ h=>?_) (λ_ h=>?_)
 ·refine QyV [0,1] ?_
  exact QyZ h (·▸QyX hpl)
 refine QyV [0,2,3,4,5] ?_
 refine Qy9 (λ_ _ H=>H.nil (rI) 3) ?_
 refine QyY λK0 k0=>?_
 have⟨t1,_,h⟩:=bs h
 refine QyV [5,6,7,8,9,10,11,12] ?_
 have⟨e0,h0,h⟩:=bs h
 have J0:∀(p0:List Int) (y0:Value),p0=e0->To M w0 61 [(9,tv y0),(8,ti t0)] [own rI 3 p0 y0] K0:=by
  intro p0 y0 he;subst he;refine k0 <|QyV [1,2,3,4] ?_;refine Qzd ?_;refine Qzc (by intro _ _ H;exact (H.Xm 2 rfl).pick [0,2]) ?_;obtain rfl:=sj h;exact QyX hpl
 refine Qy1 <|Qzf h0 (λ(s0:Int×List Int) (y1:Value)=>[(29,tsl Qe t1.Xb),(30,ti (t1.Xb.length:Int)),(31,ti s0.1),(9,tv y1),(8,ti t0),(3,tptr (Qb.cs x_)),(5,tptr (Qe.cs f_)),(1,ti kind_)]) (λ(s0:Int×List Int) (y1:Value)=>[own rI 3 s0.2 y1]) (.slice none 0 0) [0,1,2,3,4,5,6,7] ?_;clear h;intro s0 y1 o K1 h ho k1;refine QyV [0,1,2,3,4,5,6,7,8] ?_;refine QyY λ_ k2=>Qy0 h (λ_ h=>?_) (λ_ h=>?_)
 ·refine Qy2 <|k2 <|QyY λK2 k3=>Qy1 ?_;have⟨t2,_,h⟩:=bs h;refine Qy5 [v1 3 (λv0=>box (Qe.cs zz0) v0),v1 3 (λv0=>box (Qe.cs t2) v0)] [4,6] [3,4,6,7,8,9,10,11,12,13] λm0=>?_;refine Qy9 (λ_ _ H=>(((H.Xj [1,0] rfl).Xk 0 rfl).add 0 rfl (λ_ _ _ h=>h.2)).pick [0,3,4,5,6,7,8,9,10,11]) ?_;have⟨_,_,h⟩:=bs h;refine QyV [17,19,20,21,22,23,24,25,26,27] ?_;have⟨p1,h1,h⟩:=bs h;have J1:∀(y2:Value),To M w0 61 [(9,tv y2),(29,tsl Qe t1.Xb),(30,ti (t1.Xb.length:Int)),(31,ti s0.1),(8,ti t0),(3,tptr (Qb.cs x_)),(5,tptr (Qe.cs f_)),(1,ti kind_)] [own rI 3 p1 y2] K2:=by
   intro y2;refine k3 <|Qy6 [1,2,3,4,5,6,7,8] ?_;exact Qy8 k1 y2 ((sj h).symm) [2,3,0,1,4,5,6,7]
  replace h:=h1;clear h1;refine Qy0 h (λ_ h=>?_) (λ_ h=>?_)
  ·have⟨_,_,h⟩:=bs h;refine Qza [v1 3 (λv0=>own rI 3 (s0.2++[s0.1]) v0)] [4] [3,4,7,8,9,10,11,12,13] λm1=>?_;obtain rfl:=sj h;exact Qy3 (J1 (m1 3)) [1,2,3,4,5,6,7,8]
  refine Qy2 ?_;obtain rfl:=sj h;exact Qy3 (J1 y1) [5,2,3,4,6,7,8,9]
 refine Qy7 <|Qy8 J0 y1 (ho _ (sj h).symm) [4,5]
def QeK (s_:QaJ):Option (Int):=(QfO s_.x s_.kind s_.f).bind λt0=>(QaG [(Qat.mk (decide (t0.1<0)) 12),(Qat.mk ((t0.2.length:Int) !=1) 11)]).bind λt1=>(some t1)
instance QmN:Spc1 prog 253 QeK (λs_=>[Qbu.ty s_]) ti:=.mk λ{s_ r} h=>by
 unfold QeK at h
 refine Fe func253 ntmps253 λM0 M w0 hpl=>?_
 refine QyV [0] ?_
 have⟨_,_,h⟩:=bs h
 refine QyV [10,11] ?_
 have⟨_,_,h⟩:=bs h
 refine QyV [9] ?_
 exact QyZ h (·▸QyX hpl)
def QdF (s_:QaJ):Option (Qd×Bool):=(Qdh s_.x s_.kind s_.field).bind λt0=>(if (decide (t0<0))=true then (some (zz0,false)) else (idx (s_.x).Xa t0).bind λt1=>(Qbk t1 (s_.f).Of).bind λt2=>(QcR s_.x t0 t2).bind λt3=>(some (t3.1,t3.2)))
instance QuO:Spc1 prog 255 QdF (λs_=>[Qbu.ty s_]) (λr=>ttup [Qe.ty r.1,tb r.2]):=.mk λ{s_ r} h=>by
 unfold QdF at h
 refine Fe func255 ntmps255 λM0 M w0 hpl=>?_
 refine Qy5 [v1 1 (λv0=>box (Qe.cs zz0) v0)] [2] [0,1] λm0=>?_
 have⟨_,_,h⟩:=bs h
 refine QyV [7,8,9] ?_
 refine tIfs h [1,2,3,4] (λ_ h=>?_) (λ_ h=>?_)
 ·refine Qy5 [v0 (box (Qe.cs zz0) (m0 1))] [2] [1,5] λm1=>?_
  exact QyZ h (·▸QyX hpl)
 have⟨_,_,_,_,t0,_,h⟩:=bs3 h
 refine Qy5 [v0 (box (Qe.cs t0.1) (m0 1))] [17] [16,20] λm2=>?_
 exact QyZ h (·▸QyX hpl)
def QeL (s_:QaJ):Option (Int):=(QdF s_).bind λt0=>(QcA s_).bind λt1=>(opt (((!t0.2)||((t0.1).Xh !=6))==false) (QbB s_.x (t0.1).Of) default).bind λt2=>(QaG [(Qat.mk t1 12),(Qat.mk (((!t0.2)||((t0.1).Xh !=6))||(t2 !=s_.kind)) 13)]).bind λt3=>(some t3)
instance QmO:Spc1 prog 254 QeL (λs_=>[Qbu.ty s_]) ti:=.mk λ{s_ r} h=>by
 unfold QeL at h
 refine Fe func254 ntmps254 λM0 M w0 hpl=>?_
 refine QyV [0] ?_
 have⟨t0,_,h⟩:=bs h
 refine Qy5 [v1 5 (λv0=>box (Qe.cs zz0) v0),v1 5 (λv0=>box (Qe.cs t0.1) v0)] [6,7] [5,6,7] λm0=>?_
 refine Qy9 (λ_ _ H=>((H.Xk 0 rfl).add 0 rfl (λ_ _ _ h=>h.2)).pick [0,3,4]) ?_
 have⟨_,_,_,_,_,_,h⟩:=bs3 h
 refine QyV [23] ?_
 exact QyZ h (·▸QyX hpl)
def QeM (s_:QaJ):Option (Int):=(QdF s_).bind λt0=>(QcA s_).bind λt1=>(QaG [(Qat.mk t1 12),(Qat.mk ((!t0.2)||(!((((((t0.1).Xh==2)||((t0.1).Xh==3))||((t0.1).Xh==4))||((t0.1).Xh==5))||((t0.1).Xh==8)))) 13)]).bind λt2=>(some t2)
instance QmP:Spc1 prog 256 QeM (λs_=>[Qbu.ty s_]) ti:=.mk λ{s_ r} h=>by
 unfold QeM at h
 refine Fe func256 ntmps256 λM0 M w0 hpl=>?_
 refine QyV [0] ?_
 have⟨t0,_,h⟩:=bs h
 refine Qy5 [v1 5 (λv0=>box (Qe.cs zz0) v0),v1 5 (λv0=>box (Qe.cs t0.1) v0)] [6,7] [5,6,7] λm0=>?_
 refine Qy9 (λ_ _ H=>((H.Xk 0 rfl).add 0 rfl (λ_ _ _ h=>h.2)).pick [0,3,4]) ?_
 refine QyV [23,25,26] ?_
 have⟨_,_,_,_,h⟩:=bs2 h
 refine QyV [12] ?_
 exact QyZ h (·▸QyX hpl)
def QbZ (i:Int):Option (QaJ->Option Int):=if i=0 then some QeG else if i=1 then some QeH else if i=4 then some QeI else if i=5 then some QeJ else if i=6 then some QeK else if i=7 then some QeL else if i=8 then some QeM else none
theorem QuP {Γ:List (Nat×Ty)} {d:Option Tmp} {ty:TypeId} {pos:String} {af:Array Edge} {g:Option (Nat×Bool)} {x y:Operand} {i:Int} (hx:Fct Γ x Quk) (hi:Fct Γ y (tv (.int .i64 i))):
  OpJ prog ⟨d,.lookup 169 x y true,ty,pos,af,g⟩ Γ [] [] (λ_=>[]) (λ_=>ttup [Qel.ty (QcU.mk (QbZ i)),tv (.bool (QbZ i).isSome)]):=by
 have key:(QbF Qi8 i).isSome=(QbZ i).isSome/\∀F w,(Qel.ty (QcU.mk (QbZ i))).ok F w ((QbF Qi8 i).getD (.agg #[.nilFunc])):=by
  unfold QbZ;by_cases h0:i=0
  ·subst h0;exact⟨rfl,λF w=>⟨_,rfl,.cons ⟨248,[],[],[],[],rfl,.nil,.nil,QxT,λ_ _ hq=>QmJ.ok hq⟩ .nil⟩⟩
  by_cases h1:i=1
  ·subst h1;exact⟨rfl,λF w=>⟨_,rfl,.cons ⟨249,[],[],[],[],rfl,.nil,.nil,QxU,λ_ _ hq=>QmK.ok hq⟩ .nil⟩⟩
  by_cases h4:i=4
  ·subst h4;exact⟨rfl,λF w=>⟨_,rfl,.cons ⟨250,[],[],[],[],rfl,.nil,.nil,QxV,λ_ _ hq=>QmL.ok hq⟩ .nil⟩⟩
  by_cases h5:i=5
  ·subst h5;exact⟨rfl,λF w=>⟨_,rfl,.cons ⟨251,[],[],[],[],rfl,.nil,.nil,QxW,λ_ _ hq=>QmM.ok hq⟩ .nil⟩⟩
  by_cases h6:i=6
  ·subst h6;exact⟨rfl,λF w=>⟨_,rfl,.cons ⟨253,[],[],[],[],rfl,.nil,.nil,QxX,λ_ _ hq=>QmN.ok hq⟩ .nil⟩⟩
  by_cases h7:i=7
  ·subst h7;exact⟨rfl,λF w=>⟨_,rfl,.cons ⟨254,[],[],[],[],rfl,.nil,.nil,QxY,λ_ _ hq=>QmO.ok hq⟩ .nil⟩⟩
  by_cases h8:i=8
  ·subst h8;exact⟨rfl,λF w=>⟨_,rfl,.cons ⟨256,[],[],[],[],rfl,.nil,.nil,QxZ,λ_ _ hq=>QmP.ok hq⟩ .nil⟩⟩
  simp only[QbF,Qi8,Zb h0,Zb h1,Zb h4,Zb h5,Zb h6,Zb h7,Zb h8];exact⟨rfl,λF w=>⟨_,rfl,.cons rfl .nil⟩⟩
 have h:=QqR (P:=prog) (Γ:=Γ) (d:=d) (ty:=ty) (pos:=pos) (af:=af) (g:=g) (V:=λ_=>Qel.ty (QcU.mk (QbZ i))) underlying169 ud3 zv167 hx hi key.2;rw[key.1] at h;exact h
def Qd4 (x_:Qa):Option ((List QF)):=(Qgr x_).bind λt0=>(if (t0 !=0)=true then (some [(QF.mk (-1) (-1) (-1) t0)]) else (Qz (λ(s0:Int×List QF)=>((if (decide (s0.1<(x_.Xd.length:Int)))=true then (idx x_.Xd s0.1).bind λt1=>(sub x_.Xd 0 s0.1).bind λt2=>(Qbd t2 (λx0=>QgO x0 t1)).bind λt3=>(QaG [(Qat.mk t3 7)]).bind λt4=>(QcI (-1) s0.1 (-1) t4 s0.2).bind λt5=>(some (.inl ((i64.wrap (s0.1+1)),t5))) else (some (.inr s0.2))):Option ((Int×List QF)⊕((List QF))))) ((0:Int),([]:List QF))).bind λp0=>(Qz (λ(s1:Int×List QF)=>((if (decide (s1.1<(x_.Xa.length:Int)))=true then (idx x_.Xa s1.1).bind λt6=>(Qhb x_ s1.1).bind λt7=>(QcI s1.1 (-1) (-1) t7 s1.2).bind λt8=>(Qz (λ(s2:Int×List QF)=>((if (decide (s2.1<(t6.Xb.length:Int)))=true then (idx t6.Xb s2.1).bind λt9=>(Qbk t6 t9.Xi).bind λt10=>(QaG [(Qat.mk (decide (t10<s2.1)) 7)]).bind λt11=>((if ((QbZ t9.Xh).isSome&&(t11==0))=true then (Qnb ((QcU.mk (QbZ t9.Xh))).check (QaJ.mk x_ s1.1 s2.1 t9)).bind λt12=>(some t12) else (some t11))).bind λp1=>(QcI s1.1 s2.1 (-1) p1 s2.2).bind λt13=>(some (.inl ((i64.wrap (s2.1+1)),t13))) else (some (.inr s2.2))):Option ((Int×List QF)⊕((List QF))))) ((0:Int),t8)).bind λp2=>(some (.inl ((i64.wrap (s1.1+1)),p2))) else (some (.inr s1.2))):Option ((Int×List QF)⊕((List QF))))) ((0:Int),p0)).bind λp3=>(Qz (λ(s3:Int×List QF)=>((if (decide (s3.1<(x_.Xc.length:Int)))=true then (Qhc x_ s3.1).bind λt14=>(QcI (-1) (-1) s3.1 t14 s3.2).bind λt15=>(some (.inl ((i64.wrap (s3.1+1)),t15))) else (some (.inr s3.2))):Option ((Int×List QF)⊕((List QF))))) ((0:Int),p3)).bind λp4=>(some p4))
instance QkL:SpcS prog 63 (∀{x_:Qa} {r:(List QF)},Qd4 x_=some r->FnOk prog 63 [Qb.ty x_] [glo] (λ_=>[]) (λ_=>tsl Qap r)):=.mk λ{x_ r} h=>by
 unfold Qd4 at h
 refine Fe func63 ntmps63 λM0 M w0 hpl=>?_
 refine QyV [0] ?_
 refine QyY λ_ k0=>?_
 have⟨_,_,h⟩:=bs h
 refine QyV [2,3] ?_
 refine QyV [1,2,3] ?_
 refine Qy0 h (λ_ h=>?_) (λ_ h=>?_)
 ·refine QyV [3] ?_
  exact QyZ h (·▸QyX hpl)
 refine Qy2 ?_
 refine k0 ?_
 intro a w H
 refine sr mx [v1 0 (λv0=>box (rVal.cs nilV) v0)] H (λ_=>.m [] [1] rfl rfl rfl (Qms Qxm)<|.n) λm0 a w H=>?_
 replace H:St _ _ _ [_,_] [_,_,_] _ _:=(H.pick [0,3]).nil (Qap) 137
 refine Qze H ?_
 refine QyV [1,2,3] ?_
 refine QyY λK0 k1=>?_
 refine QyV [1,2,3,4,5,6] ?_
 have⟨e0,h0,h⟩:=bs h
 have J0:∀(p0:List QF) (y0:Value),p0=e0->To M w0 119 [(5,Qcc 83 [tv (m0 0)]),(4,tv (m0 0)),(1,tptr (Qb.cs x_))] [own Qap 137 p0 y0,glo,box (rVal.cs y0) (m0 0)] K0:=by
  intro p0 y0 he;subst he;refine k1 <|QyY λK1 k2=>QyV [1,2,3,4,5,6] ?_;have⟨e1,h1,h⟩:=bs h;have J1:∀(p1:List QF) (y1:Value),p1=e1->To M w0 119 [(5,Qcc 83 [tv (m0 0)]),(4,tv (m0 0)),(1,tptr (Qb.cs x_))] [own Qap 137 p1 y1,glo,box (rVal.cs y1) (m0 0)] K1:=by
   intro p1 y1 he;subst he;refine k2 <|QyY λK2 k3=>QyV [2,3,4,5,6] ?_;have⟨e2,h2,h⟩:=bs h;have J2:∀(p2:List QF) (y2:Value),p2=e2->To M w0 119 [(4,tv (m0 0))] [own Qap 137 p2 y2,glo,box (rVal.cs y2) (m0 0)] K2:=by
    intro p2 y2 he;subst he;refine k3 <|QyV [0,1] ?_;refine Qy9 (λ_ _ H=>H.Xj [0,1] rfl) ?_;refine Qzd ?_;refine Qzc (by intro _ _ H;exact (H.Xm 1 rfl).pick [0]) ?_;obtain rfl:=sj h;exact QyX hpl
   refine Qy1 <|Qzf h2 (λ(s0:Int×List QF) (y3:Value)=>[(107,ti (x_.Xc.length:Int)),(108,ti s0.1),(5,Qcc 83 [tv (m0 0)]),(4,tv (m0 0)),(1,tptr (Qb.cs x_))]) (λ(s0:Int×List QF) (y3:Value)=>[own Qap 137 s0.2 y3,glo,box (rVal.cs y3) (m0 0)]) y1 [0,1,2,3,4] ?_;clear h;intro s0 y3 o K3 h ho k4;refine QyV [0,1,2,3,4,5] ?_;refine QyY λ_ k5=>Qy0 h (λ_ h=>?_) (λ_ h=>?_)
   ·refine Qy2 <|k5 <|QyY λ_ k6=>Qy1 <|QyV [1,3,4,5,6,7] ?_;have⟨_,h3,t0,h4,h⟩:=bs2 h;intro a w H;refine wr mx [v1 5 (λv0=>box (rVal.cs v0) (m0 0)),v1 5 (λv0=>own Qap 137 t0 v0)] H (λ_=>.q 3 rfl<|.q 1 rfl<|.o (Qw QH z7)<|.q 3 rfl<|.o (Qq QAs (Qpm.ok h3) (.cons (.of z1)<|.cons (.of z0)<|.nil))<|.e [] [2,0] [3,4] rfl rfl rfl rfl (Qcz Qoz (Qfx.ok h4) z4 (.cons (.of .k)<|.cons (.of .k)<|.cons (.of z3)<|.cons (.of z0)<|.nil))<|.n) λm1 a w H=>?_;have H:=H.to [7,8,9,10,11] [_,_,_,_,_] [_,_,_] rfl rfl;refine Qzh H ?_;refine k6 <|Qy6 [1,2,3,4,5] ?_;refine Qzc (λ_ _ H=>(H.pick [1,0,2,3,4]).Xj [2,0,1] rfl) ?_;exact Qy8 k4 (m1 5) ((sj h).symm) [0,1,2,3,4]
   refine Qy7 <|Qy8 J2 y3 (ho _ (sj h).symm) [4]
  refine Qy1 <|Qzf h1 (λ(s1:Int×List QF) (y4:Value)=>[(48,tsl Qp x_.Xa),(49,ti (x_.Xa.length:Int)),(50,ti s1.1),(5,Qcc 83 [tv (m0 0)]),(4,tv (m0 0)),(1,tptr (Qb.cs x_))]) (λ(s1:Int×List QF) (y4:Value)=>[own Qap 137 s1.2 y4,glo,box (rVal.cs y4) (m0 0)]) y0 [0,1,2,3,4,5] ?_;clear h;intro s1 y4 o K4 h ho k7;refine QyV [0,1,2,3,4,5,6] ?_;refine QyY λ_ k8=>Qy0 h (λ_ h=>?_) (λ_ h=>?_)
  ·refine Qy2 <|k8 <|QyY λK5 k9=>Qy1 ?_;have⟨t1,_,h⟩:=bs h;refine Qy5 [v1 3 (λv0=>box (Qp.cs zz1) v0),v1 3 (λv0=>box (Qp.cs t1) v0)] [4,6] [3,4,6,7,8,9,10,11] λm2=>?_;refine Qy9 (λ_ _ H=>(((H.Xj [3,0,1,2] rfl).Xk 0 rfl).add 0 rfl (λ_ _ _ h=>h.2)).pick [0,3,4,5,6,7,8,9]) ?_;have⟨_,h5,t2,h6,h⟩:=bs2 h;intro a w H;refine sr mx [v1 5 (λv0=>box (rVal.cs v0) (m0 0)),v1 5 (λv0=>own Qap 137 t2 v0)] H (λ_=>.q 5 rfl<|.q 2 rfl<|.o (Qw QH z9)<|.q 4 rfl<|.o (Qq QAr (Qpl.ok h5) (.cons (.of z1)<|.cons (.of z0)<|.nil))<|.e [] [2,0] [3,4] rfl rfl rfl rfl (Qcz Qoz (Qfx.ok h6) z4 (.cons (.of z3)<|.cons (.of .k)<|.cons (.of .k)<|.cons (.of z0)<|.nil))<|.n) λm3 a w H=>?_;have H:=H.to [6,7,8,9,10,11,12,13] [_,_,_,_,_,_,_,_] [_,_,_] rfl rfl;refine Qze H ?_;refine QyV [1,2,3,4,5,6,7,8,9,10,11] ?_;have⟨e3,h7,h⟩:=bs h;have J3:∀(p3:List QF) (y5:Value),p3=e3->To M w0 119 [(48,tsl Qp x_.Xa),(49,ti (x_.Xa.length:Int)),(50,ti s1.1),(5,Qcc 83 [tv (m0 0)]),(4,tv (m0 0)),(1,tptr (Qb.cs x_))] [glo,box (rVal.cs y5) (m0 0),own Qap 137 p3 y5] K5:=by
    intro p3 y5 he;subst he;refine k9 <|Qy6 [1,2,3,4,5,6] ?_;refine Qzc (λ_ _ H=>(H.pick [1,2,0,3,4,5]).Xj [2,0,1] rfl) ?_;exact Qy8 k7 y5 ((sj h).symm) [0,1,2,3,4,5]
   refine Qy1 <|Qzf h7 (λ(s2:Int×List QF) (y6:Value)=>[(62,tsl Qe t1.Xb),(63,ti (t1.Xb.length:Int)),(64,ti s2.1),(10,tptr (Qp.cs t1)),(9,ti s1.1),(48,tsl Qp x_.Xa),(49,ti (x_.Xa.length:Int)),(50,ti s1.1),(5,Qcc 83 [tv (m0 0)]),(4,tv (m0 0)),(1,tptr (Qb.cs x_))]) (λ(s2:Int×List QF) (y6:Value)=>[glo,box (rVal.cs y6) (m0 0),own Qap 137 s2.2 y6]) (m3 5) [0,1,2,3,4,5,6,7,8,9,10] ?_;clear h;intro s2 y6 o K6 h ho k10;refine QyV [0,1,2,3,4,5,6,7,8,9,10,11] ?_;refine QyY λ_ k11=>Qy0 h (λ_ h=>?_) (λ_ h=>?_)
   ·refine Qy2 <|k11 <|QyY λ_ k12=>Qy1 ?_;have⟨t3,_,h⟩:=bs h;refine Qy5 [v1 3 (λv0=>box (Qe.cs zz0) v0),v1 3 (λv0=>box (Qe.cs t3) v0)] [4,6] [3,4,6,7,8,9,10,11,12,13,14,15,16] λm4=>?_;refine Qy9 (λ_ _ H=>(((H.Xj [3,0,1,2] rfl).Xk 0 rfl).add 0 rfl (λ_ _ _ h=>h.2)).pick [0,3,4,5,6,7,8,9,10,11,12,13,14]) ?_;have⟨_,_,t4,_,h⟩:=bs2 h;refine QyV [9,10,11,12,13,14,15,16,17,18,19,20,21,22] ?_;refine QyY λK7 k13=>?_;intro a w H;refine sr mx [v1 7 (λv0=>box (Qel.cs (QcU.mk none)) v0),v1 7 (λv0=>box (Qel.cs (QcU.mk (QbZ t3.Xh))) v0)] H (λ_=>.u [0] rfl rfl (QlJ (R:=Qnd Qi8) (u:=()) Qv1 tokM1 rfl)<|.o (Qg QbY z2)<|.o (Qf (u:=t3.Xh) tok3 z0 rfl)<|.o (QuP z2 z0)<|.q 0 rfl<|.o (QQ z0 rfl)<|.o (QQ z1 rfl)<|.m [] [3] rfl rfl rfl (QV (R:=Qel) (a:=(QcU.mk none)) Quo QzO)<|.e [] [3] [4] rfl rfl rfl rfl (QG (R:=Qel) (a:=(QcU.mk (QbZ t3.Xh))) Quo z0 z2 (leb rfl))<|.o (Qc z1)<|.n) λ_ a w H=>?_;replace H:St _ _ _ [_,_,_,_,_,_,_,_,_,_,_,_,_,_,_,_] [_,_,_] _ _:=((((H.pick [7,8,9,10,11,12,13,14,15,16,17,18,19,20,21,22]).Xj [3,0,1,2] rfl).Xk 0 rfl).add 0 rfl (λ_ _ _ h=>h.2)).pick [0,3,4,5,6,7,8,9,10,11,12,13,14,15,16,17];refine Qze H ?_;refine QyV [4,5,7,8,9,10,11,12,13,14,15,16,17,18,19,20] ?_;have⟨p4,h8,h⟩:=bs h;have J4:To M w0 119 [(13,ti p4),(11,ti s2.1),(62,tsl Qe t1.Xb),(63,ti (t1.Xb.length:Int)),(64,ti s2.1),(10,tptr (Qp.cs t1)),(9,ti s1.1),(48,tsl Qp x_.Xa),(49,ti (x_.Xa.length:Int)),(50,ti s1.1),(5,Qcc 83 [tv (m0 0)]),(4,tv (m0 0)),(1,tptr (Qb.cs x_))] [glo,box (rVal.cs y6) (m0 0),own Qap 137 s2.2 y6] K7:=by
     refine k13 ?_;have⟨t5,h9,h⟩:=bs h;intro a w H;refine wr mx [v1 4 (λv0=>box (rVal.cs v0) (m0 0)),v1 4 (λv0=>own Qap 137 t5 v0)] H (λ_=>.q 10 rfl<|.q 7 rfl<|.q 3 rfl<|.q 3 rfl<|.e [] [1,2] [3,4] rfl rfl rfl rfl (Qcz Qoz (Qfx.ok h9) z3 (.cons (.of z2)<|.cons (.of z1)<|.cons (.of .k)<|.cons (.of z0)<|.nil))<|.n) λm5 a w H=>?_;have H:=H.to [7,8,9,10,11,12,13,14,15,16,17] [_,_,_,_,_,_,_,_,_,_,_] [_,_,_] rfl rfl;refine Qzh H ?_;refine k12 <|Qy6 [1,2,3,4,5,6,7,8,9,10,11] ?_;exact Qy8 k10 (m5 4) ((sj h).symm) [1,2,0,3,4,5,6,7,8,9,10]
    replace h:=h8;clear h8;refine Qy0 h (λ_ h=>?_) (λ_ h=>?_)
    ·have⟨t6,h10,h⟩:=bs h;intro a w H;refine wr mx [] H (λ_=>.o (Qg Qwc z1)<|.o (Qf (u:=((QcU.mk (QbZ t3.Xh))).check) Qv7 z0 rfl)<|.o (Qw QH z17)<|.q 12 rfl<|.q 8 rfl<|.o (Qw Q4 z8)<|.p (T:=Qbu.ty (QaJ.mk x_ s1.1 s2.1 t3)) rfl (QaD underlying171 pl171 zv171 QzE (.cons (R:=Qb) (u:=x_) rfl z3 (leb rfl)<|.cons (R:=rI) (u:=s1.1) rfl z2 (leb rfl)<|.cons (R:=rI) (u:=s2.1) rfl z1 (leb rfl)<|.cons (R:=Qe) (u:=t3) rfl z0 (leb rfl)<|.nil _))<|.o (QvP (u:=(QaJ.mk x_ s1.1 s2.1 t3)) z5 (.cons (.of z0)<|.nil) h10)<|.o (Qc z0)<|.n) λ_ a w H=>?_;have H:=H.to [8,12,13,14,15,16,17,18,19,20,21,22,23] [_,_,_,_,_,_,_,_,_,_,_,_,_] [_,_,_] rfl rfl;refine Qzh H ?_;obtain rfl:=sj h;exact Qy3 J4 [0,1,2,3,4,5,6,7,8,9,10,11,12]
    refine Qy2 ?_;obtain rfl:=sj h;exact Qy3 J4 [2,4,5,6,7,8,9,10,11,12,13,14,15]
   refine Qy7 <|Qy8 J3 y6 (ho _ (sj h).symm) [6,7,8,9,10,11]
  refine Qy7 <|Qy8 J1 y4 (ho _ (sj h).symm) [4,5,6]
 refine Qy1 <|Qzf h0 (λ(s3:Int×List QF) (y7:Value)=>[(26,tsl Qo x_.Xd),(27,ti (x_.Xd.length:Int)),(28,ti s3.1),(5,Qcc 83 [tv (m0 0)]),(4,tv (m0 0)),(1,tptr (Qb.cs x_))]) (λ(s3:Int×List QF) (y7:Value)=>[own Qap 137 s3.2 y7,glo,box (rVal.cs y7) (m0 0)]) nilV [0,1,2,3,4,5] ?_;clear h;intro s3 y7 o K8 h ho k14;refine QyV [0,1,2,3,4,5,6] ?_;refine QyY λ_ k15=>Qy0 h (λ_ h=>?_) (λ_ h=>?_)
 ·refine Qy2 <|k15 <|QyY λ_ k16=>Qy1 ?_;have⟨t7,_,h⟩:=bs h;refine Qy5 [v1 3 (λv0=>box (Qo.cs zz2) v0),v1 3 (λv0=>box (Qo.cs t7) v0)] [4,6] [3,4,6,7,8,9,10,11] λm6=>?_;refine Qy9 (λ_ _ H=>(((H.Xj [3,0,1,2] rfl).Xk 0 rfl).add 0 rfl (λ_ _ _ h=>h.2)).pick [0,3,4,5,6,7,8,9]) ?_;have⟨_,_,t8,_,h⟩:=bs2 h;refine QyV [6,8,9,10,11,12,13,14] ?_;have⟨_,h11,t9,h12,h⟩:=bs2 h;intro a w H;refine wr mx [v1 6 (λv0=>box (rVal.cs v0) (m0 0)),v1 6 (λv0=>own Qap 137 t9 v0)] H (λ_=>.q 5 rfl<|.q 2 rfl<|.q 2 rfl<|.p (T:=QcZ.ty (Qat.mk t8 (7:Int))) rfl (QaD underlying165 pl165 zv165 QzD (.cons (R:=QgL) (u:=t8) rfl z0 (leb rfl)<|.cons (R:=rI) (u:=(7:Int)) rfl .k (leb rfl)<|.nil _))<|.o (QK (R:=QcZ) (us:=[(Qat.mk t8 (7:Int))]) underlying201 Qzs (.cons z0<|.nil _) rfl (leb rfl))<|.o (Qq QAq (QoH.ok h11) (.cons (.of z0)<|.nil))<|.e [] [2,0] [3,4] rfl rfl rfl rfl (Qcz Qoz (Qfx.ok h12) z5 (.cons (.of .k)<|.cons (.of z4)<|.cons (.of .k)<|.cons (.of z0)<|.nil))<|.n) λm7 a w H=>?_;have H:=H.t6_3 [9,10,11,12,13,14];refine Qzh H ?_;refine k16 <|Qy6 [1,2,3,4,5,6] ?_;refine Qzc (λ_ _ H=>(H.pick [1,2,0,3,4,5]).Xj [2,0,1] rfl) ?_;exact Qy8 k14 (m7 6) ((sj h).symm) [0,1,2,3,4,5]
 refine Qy7 <|Qy8 J0 y7 (ho _ (sj h).symm) [4,5,6]
def Qc2 (x_:Qa):Option (Int):=(Qd4 x_).bind λt0=>(if (decide ((t0.length:Int)>0))=true then (idx t0 0).bind λt1=>(some t1.Code) else (some (0:Int)))
instance Qkd:SpcS prog 40 (∀{x_:Qa} {r:Int},Qc2 x_=some r->FnOk prog 40 [Qb.ty x_] [glo] (λ_=>[]) (λ_=>ti r)):=.mk λ{x_ r} h=>by
 unfold Qc2 at h
 refine Fe func40 ntmps40 λM0 M w0 hpl=>?_
 refine QyV [0] ?_
 refine QyY λ_ k0=>?_
 have⟨_,_,h⟩:=bs h
 refine QyV [2] ?_
 refine QyV [2,3] ?_
 refine Qy0 h (λ_ h=>?_) (λ_ h=>?_)
 ·have⟨_,_,h⟩:=bs h
  refine QyV [4] ?_
  exact QyZ h (·▸QyX hpl)
 refine Qy2 ?_
 refine k0 ?_
 refine QyV [0] ?_
 exact QyZ h (·▸QyX hpl)
def Qfd (s_:(List Qh)):Option ((List Qh)):=(rm (([]:List Qh).length+s_.length)).bind λ_=>(some (([]:List Qh)++s_))
instance QlP:SpcS prog 64 (∀{s_:(List Qh)} {r:(List Qh)},Qfd s_=some r->FnOk prog 64 [tsl Qp s_] [] (λv=>[own Qp 54 r v]) (λv=>tv v)):=.mk λ{s_ r} h=>by
 unfold Qfd at h
 refine Fe func64 ntmps64 λM0 M w0 hpl=>?_
 refine QyV [1] ?_
 refine QyY λ_ k0=>?_
 refine QyV [1,2] ?_
 refine QBO 0 (λb0=>?_) ?_
 ·replace h:(some ([]:List Qh))=some r:=by
   have⟨_,_,h⟩:=bs h;rw[b0] at h;exact h
  refine QyV [0] ?_;refine Qy9 (λ_ _ H=>H.nil (Qp) 54) ?_;exact QyZ h (·▸Qzi (.slice none 0 0) [0] hpl)
 refine Qy2 <|k0 ?_;have⟨_,_,h⟩:=bs h;refine Qy5 [v1 0 (λv0=>own Qp 54 ([]:List Qh) v0),v1 2 (λv0=>own Qp 54 (([]:List Qh)++s_) v0)] [1,3] [2,3] λm0=>?_;exact QyZ h (·▸Qzi (m0 2) [0] hpl)
def QeP (s_:(List Qd)):Option ((List Qd)):=(rm (([]:List Qd).length+s_.length)).bind λ_=>(some (([]:List Qd)++s_))
instance Qlu:SpcS prog 65 (∀{s_:(List Qd)} {r:(List Qd)},QeP s_=some r->FnOk prog 65 [tsl Qe s_] [] (λv=>[own Qe 70 r v]) (λv=>tv v)):=.mk λ{s_ r} h=>by
 unfold QeP at h
 refine Fe func65 ntmps65 λM0 M w0 hpl=>?_
 refine QyV [1] ?_
 refine QyY λ_ k0=>?_
 refine QyV [1,2] ?_
 refine QBO 0 (λb0=>?_) ?_
 ·replace h:(some ([]:List Qd))=some r:=by
   have⟨_,_,h⟩:=bs h;rw[b0] at h;exact h
  refine QyV [0] ?_;refine Qy9 (λ_ _ H=>H.nil (Qe) 70) ?_;exact QyZ h (·▸Qzi (.slice none 0 0) [0] hpl)
 refine Qy2 <|k0 ?_;have⟨_,_,h⟩:=bs h;refine Qy5 [v1 0 (λv0=>own Qe 70 ([]:List Qd) v0),v1 2 (λv0=>own Qe 70 (([]:List Qd)++s_) v0)] [1,3] [2,3] λm0=>?_;exact QyZ h (·▸Qzi (m0 2) [0] hpl)
def Qcv (s_:(List Str)):Option ((List Str)):=(rm (([]:List Str).length+s_.length)).bind λ_=>(some (([]:List Str)++s_))
instance QhR:SpcS prog 66 (∀{s_:(List Str)} {r:(List Str)},Qcv s_=some r->FnOk prog 66 [tsl rS s_] [] (λv=>[own rS 9 r v]) (λv=>tv v)):=.mk λ{s_ r} h=>by
 unfold Qcv at h
 refine Fe func66 ntmps66 λM0 M w0 hpl=>?_
 refine QyV [1] ?_
 refine QyY λ_ k0=>?_
 refine QyV [1,2] ?_
 refine QBO 0 (λb0=>?_) ?_
 ·replace h:(some ([]:List Str))=some r:=by
   have⟨_,_,h⟩:=bs h;rw[b0] at h;exact h
  refine QyV [0] ?_;refine Qy9 (λ_ _ H=>H.nil (rS) 9) ?_;exact QyZ h (·▸Qzi (.slice none 0 0) [0] hpl)
 refine Qy2 <|k0 ?_;have⟨_,_,h⟩:=bs h;refine Qy5 [v1 0 (λv0=>own rS 9 ([]:List Str) v0),v1 2 (λv0=>own rS 9 (([]:List Str)++s_) v0)] [1,3] [2,3] λm0=>?_;exact QyZ h (·▸Qzi (m0 2) [0] hpl)
def QcB (s_:(List Int)):Option ((List Int)):=(rm (([]:List Int).length+s_.length)).bind λ_=>(some (([]:List Int)++s_))
instance QiO:SpcS prog 67 (∀{s_:(List Int)} {r:(List Int)},QcB s_=some r->FnOk prog 67 [tsl rI s_] [] (λv=>[own rI 3 r v]) (λv=>tv v)):=.mk λ{s_ r} h=>by
 unfold QcB at h
 refine Fe func67 ntmps67 λM0 M w0 hpl=>?_
 refine QyV [1] ?_
 refine QyY λ_ k0=>?_
 refine QyV [1,2] ?_
 refine QBO 0 (λb0=>?_) ?_
 ·replace h:(some ([]:List Int))=some r:=by
   have⟨_,_,h⟩:=bs h;rw[b0] at h;exact h
  refine QyV [0] ?_;refine Qy9 (λ_ _ H=>H.nil (rI) 3) ?_;exact QyZ h (·▸Qzi (.slice none 0 0) [0] hpl)
 refine Qy2 <|k0 ?_;have⟨_,_,h⟩:=bs h;refine Qy5 [v1 0 (λv0=>own rI 3 ([]:List Int) v0),v1 2 (λv0=>own rI 3 (([]:List Int)++s_) v0)] [1,3] [2,3] λm0=>?_;exact QyZ h (·▸Qzi (m0 2) [0] hpl)
def Qfe (s_:(List Qr)):Option ((List Qr)):=(rm (([]:List Qr).length+s_.length)).bind λ_=>(some (([]:List Qr)++s_))
instance QlQ:SpcS prog 68 (∀{s_:(List Qr)} {r:(List Qr)},Qfe s_=some r->FnOk prog 68 [tsl Qo s_] [] (λv=>[own Qo 59 r v]) (λv=>tv v)):=.mk λ{s_ r} h=>by
 unfold Qfe at h
 refine Fe func68 ntmps68 λM0 M w0 hpl=>?_
 refine QyV [1] ?_
 refine QyY λ_ k0=>?_
 refine QyV [1,2] ?_
 refine QBO 0 (λb0=>?_) ?_
 ·replace h:(some ([]:List Qr))=some r:=by
   have⟨_,_,h⟩:=bs h;rw[b0] at h;exact h
  refine QyV [0] ?_;refine Qy9 (λ_ _ H=>H.nil (Qo) 59) ?_;exact QyZ h (·▸Qzi (.slice none 0 0) [0] hpl)
 refine Qy2 <|k0 ?_;have⟨_,_,h⟩:=bs h;refine Qy5 [v1 0 (λv0=>own Qo 59 ([]:List Qr) v0),v1 2 (λv0=>own Qo 59 (([]:List Qr)++s_) v0)] [1,3] [2,3] λm0=>?_;exact QyZ h (·▸Qzi (m0 2) [0] hpl)
def Qeg (s_:(List Qac)):Option ((List Qac)):=(rm (([]:List Qac).length+s_.length)).bind λ_=>(some (([]:List Qac)++s_))
instance Qk2:SpcS prog 69 (∀{s_:(List Qac)} {r:(List Qac)},Qeg s_=some r->FnOk prog 69 [tsl Qaz s_] [] (λv=>[own Qaz 60 r v]) (λv=>tv v)):=.mk λ{s_ r} h=>by
 unfold Qeg at h
 refine Fe func69 ntmps69 λM0 M w0 hpl=>?_
 refine QyV [1] ?_
 refine QyY λ_ k0=>?_
 refine QyV [1,2] ?_
 refine QBO 0 (λb0=>?_) ?_
 ·replace h:(some ([]:List Qac))=some r:=by
   have⟨_,_,h⟩:=bs h;rw[b0] at h;exact h
  refine QyV [0] ?_;refine Qy9 (λ_ _ H=>H.nil (Qaz) 60) ?_;exact QyZ h (·▸Qzi (.slice none 0 0) [0] hpl)
 refine Qy2 <|k0 ?_;have⟨_,_,h⟩:=bs h;refine Qy5 [v1 0 (λv0=>own Qaz 60 ([]:List Qac) v0),v1 2 (λv0=>own Qaz 60 (([]:List Qac)++s_) v0)] [1,3] [2,3] λm0=>?_;exact QyZ h (·▸Qzi (m0 2) [0] hpl)
def Qff (s_:(List Qm)):Option ((List Qm)):=(rm (([]:List Qm).length+s_.length)).bind λ_=>(some (([]:List Qm)++s_))
instance QlR:SpcS prog 70 (∀{s_:(List Qm)} {r:(List Qm)},Qff s_=some r->FnOk prog 70 [tsl Ql s_] [] (λv=>[own Ql 62 r v]) (λv=>tv v)):=.mk λ{s_ r} h=>by
 unfold Qff at h
 refine Fe func70 ntmps70 λM0 M w0 hpl=>?_
 refine QyV [1] ?_
 refine QyY λ_ k0=>?_
 refine QyV [1,2] ?_
 refine QBO 0 (λb0=>?_) ?_
 ·replace h:(some ([]:List Qm))=some r:=by
   have⟨_,_,h⟩:=bs h;rw[b0] at h;exact h
  refine QyV [0] ?_;refine Qy9 (λ_ _ H=>H.nil (Ql) 62) ?_;exact QyZ h (·▸Qzi (.slice none 0 0) [0] hpl)
 refine Qy2 <|k0 ?_;have⟨_,_,h⟩:=bs h;refine Qy5 [v1 0 (λv0=>own Ql 62 ([]:List Qm) v0),v1 2 (λv0=>own Ql 62 (([]:List Qm)++s_) v0)] [1,3] [2,3] λm0=>?_;exact QyZ h (·▸Qzi (m0 2) [0] hpl)

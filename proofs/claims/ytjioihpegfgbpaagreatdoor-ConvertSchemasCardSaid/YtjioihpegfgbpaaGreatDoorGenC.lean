/- The walk. No condition. -/
import Derived.Test.YtjioihpegfgbpaaGreatDoorGenB
set_option linter.all false
open Go.Proofs.Tryz Go.IntKind
namespace Go.Proofs.YtjioihpegfgbpaaGreatDoor
noncomputable section
open Go.Sim
set_option maxRecDepth 100000
set_option maxHeartbeats 4000000
def Qaw (x_:Qa) (o_:Qt) (k_:Int) (f_:Int):Option (Int):=(opt ((o_.Op==3)==true) (Qey x_ k_ f_) default).bind λt0=>(if ((o_.Op==3)&&(!t0))=true then (some (13:Int)) else (jn (λ(_:Unit)=>(if (((o_.Op==3)&&((((decide (o_.N<1))||(decide (o_.N>1048576)))||(decide (o_.M<(-1048576:Int))))||(decide (o_.M>1048576))))||((o_.Op==6)&&((((decide (o_.N<0))||(decide (o_.N>65536)))||(decide (o_.M<0)))||(decide (o_.M>65536)))))=true then (some (5:Int)) else (some (0:Int)))) λj12=>(if (o_.Op==4)=true then (idx x_.Xa k_).bind λt1=>(idx t1.Xb f_).bind λt2=>(if (t2.Xh !=3)=true then (some (13:Int)) else (j12 ())) else (j12 ()))))
instance Qpi:Spc4 prog 36 Qaw (λx_ o_ k_ f_=>[Qb.ty x_,Qx.ty o_,ti k_,ti f_]) ti:=.mk λ{x_ o_ k_ f_ r} h=>by
 unfold Qaw at h
 refine Fe func36 ntmps36 λM0 M w0 hpl=>?_
 refine QyV [0,1,5,6] ?_
 have⟨_,_,h⟩:=bs h
 refine tIfs h [9,10,11,12,13] (λ_ h=>?_) (λ_ h=>?_)
 ·refine QyV [0] ?_
  exact QyZ h (·▸QyX hpl)
 refine QyY λK0 k0=>?_
 refine QyV [2,4,5,6,7] ?_
 obtain⟨j12,hj12,h⟩:=Qgt h
 have J0:∀(p0:Unit),j12 p0=some r->To M w0 81 [(5,tptr (Qx.cs o_))] [] K0:=by
  intro p0 h;rw[hj12] at h;clear hj12;refine k0 <|tIfs h [47] (λ_ h=>?_) (λ_ h=>?_)
  ·refine QyV [0] ?_;exact QyZ h (·▸QyX hpl)
  refine QyV [0] ?_;exact QyZ h (·▸QyX hpl)
 clear hj12;refine Qy0 h (λ_ h=>?_) (λ_ h=>?_)
 ·have⟨_,_,_,_,h⟩:=bs2 h;refine QyV [10,13] ?_;refine Qy0 h (λ_ h=>?_) (λ_ h=>?_)
  ·refine QyV [0] ?_;exact QyZ h (·▸QyX hpl)
  refine Qy2 <|Qy4 J0 h [1]
 refine Qy2 <|Qy4 J0 h [2]
def QeZ (x_:Qa):Option (Qa):=(Qz (λ(s0:Int×List Qh)=>((if (decide (s0.1<(x_.Xa.length:Int)))=true then (idx x_.Xa s0.1).bind λt0=>(rm (([]:List Qd).length+t0.Xb.length)).bind λ_=>(rm (s0.2.length+1)).bind λ_=>(some (.inl ((i64.wrap (s0.1+1)),(s0.2++[(Qh.mk t0.Xi t0.Lo t0.Hi (([]:List Qd)++t0.Xb))])))) else (some (.inr s0.2))):Option ((Int×List Qh)⊕((List Qh))))) ((0:Int),([]:List Qh))).bind λp0=>(rm (([]:List Qm).length+x_.Xc.length)).bind λ_=>(some (Qa.mk x_.Version p0 x_.Xd (([]:List Qm)++x_.Xc)))
instance QkJ:SpcS prog 37 (∀{x_:Qa} {r:Qa},QeZ x_=some r->FnOk prog 37 [Qb.ty x_] [] (λv=>[deep dF54 54 r.Xa (gh v 0),own Ql 62 r.Xc (gh v 1)]) (λv=>tagg ([ti r.Version,tvs (dh (gh v 0)),tsl Qo r.Xd,tvs (gh v 1)]))):=.mk λ{x_ r} h=>by
 unfold QeZ at h
 refine fe func37 ntmps37 λM0 M w0 a hpl H=>?_
 refine sr mx [v1 1 (λv0=>box ([ti (0:Int),tvs (dh nilV),tsl Qo ([]:(List Qr)),tvs nilV]) v0)] H (λ_=>.o (Q9 (R:=Qb) (u:=x_) z0)<|.m [] [0] rfl rfl rfl (QpG (R:=Qb) QH (Qk (QO rfl) (Qk QU (Qk QaH (Qk QU Q5)))) (Qta))<|.n) λm0 a w H=>?_
 replace H:St _ _ _ [_,_] [_,_,_] _ _:=((H.pick [0,1]).nilD dF54 54).nil (Ql) 62
 refine sr mx [v1 1 (λv0=>box (Qb.cs zz4) v0),v1 1 (λv0=>box (Qb.cs x_) v0)] H (λ_=>.o (Qw QH z0)<|.m [] [3] rfl rfl rfl (QV (R:=Qb) (a:=zz4) QH QdK)<|.e [] [3] [4] rfl rfl rfl rfl (QG (R:=Qb) (a:=x_) QH z0 z1 (leb rfl))<|.n) λm1 a w H=>?_
 have H:=H.to [1,2,3] [_,_,_] [_,_,_,_] rfl rfl
 refine sr mx [v0 (box ([ti x_.Version,tvs (dh nilV),tsl Qo x_.Xd,tsl Ql x_.Xc]) (m1 1))] H (λ_=>.u [3] rfl rfl (QC QZ z0)<|.e [] [3] [4] rfl rfl rfl rfl (QaL (R:=rVal) (a:=nilV) (Ts:=(Qb.cs x_)) (off:=1) Qa7 z0 .nilV (leb rfl))<|.n) λ_ a w H=>?_
 replace H:St _ _ _ [_,_,_] [_,_,_,_,_] _ _:=(H.pick [1,2,3]).nilD dF54 54
 refine wp_seq_k (λK0 k0=>?_)
 refine sr mx [] H (λ_=>.o (Qc .k)<|.n) λ_ a w H=>?_
 have H:=H.to [0,1,2,3] [_,_,_,_] [_,_,_,_,_] rfl rfl
 have⟨e0,h0,h⟩:=bs h
 have J0:∀(p0:List Qh) (y0:Value) a w,p0=e0->St M w0 37 [(3,tv (m1 1)),(1,tptr (Qb.cs x_)),(2,tv (m0 1))] [deep dF54 54 p0 y0,own Ql 62 ([]:List Qm) nilV,deep dF54 54 ([]:List Qh) nilV,box ([ti (0:Int),tvs (dh nilV),tsl Qo ([]:(List Qr)),tvs nilV]) (m0 1),box ([ti x_.Version,tvs (dh y0),tsl Qo x_.Xd,tsl Ql x_.Xc]) (m1 1)] a w->K0 a w:=by
  intro p0 y0 a w he H;subst he;refine k0 _ _ ?_;refine wp_seq_k (λ_ k1=>?_);have⟨u0,h1,h⟩:=bs h;refine wr mx [v1 0 (λv0=>own Ql 62 ([]:List Qm) v0),v1 3 (λv0=>own Ql 62 (([]:List Qm)++x_.Xc) v0),v1 3 (λv0=>box ([ti x_.Version,tvs (dh y0),tsl Qo x_.Xd,tvs v0]) (m1 1))] H (λ_=>.m [] [5] rfl rfl rfl (QaS (R:=Ql) (us:=([]:List Qm)) ud25 Qbp (.nil _) rfl (leb rfl) (leb rfl))<|.o (Qg QaO z2)<|.o (Qf (u:=x_.Xc) QcH z0 rfl)<|.e [] [5] [6] rfl rfl rfl rfl (QS (R:=Ql) ud25 Qbp (leb rfl) z2 z0 h1)<|.u [4] rfl rfl (QC QaO z4)<|.e [6] [4] [7] rfl rfl rfl rfl (Qco (R:=Ql) (e:=62) (Ts:=([ti x_.Version,tvs (dh y0),tsl Qo x_.Xd,tsl Ql x_.Xc])) (off:=3) QhM z0 z1 (leb rfl))<|.n) λm2 a w H=>?_;have H:=H.to [3,5,7] [_,_,_] [_,_,_,_,_,_] rfl rfl;refine k1 _ _ ?_;refine sr mx [v0 (box ([ti x_.Version,tvs (dh y0),tsl Qo x_.Xd,tvs (m2 3)]) (m0 1))] H (λ_=>.u [5] rfl rfl (Qbm (R:=(rAgg ([ti x_.Version,tvs (dh y0),tsl Qo x_.Xd,tvs (m2 3)]) (Qk (QO rfl) (Qk QU (Qk QaH (Qk QU Q5)))))) (u:=()) (tokA QH (Qk (QO rfl) (Qk QU (Qk QaH (Qk QU Q5)))) rfl rfl) z1 rfl)<|.e [] [3] [6] rfl rfl rfl rfl (QG (R:=(rAgg ([ti x_.Version,tvs (dh y0),tsl Qo x_.Xd,tvs (m2 3)]) (Qk (QO rfl) (Qk QU (Qk QaH (Qk QU Q5)))))) (a:=()) (tokA QH (Qk (QO rfl) (Qk QU (Qk QaH (Qk QU Q5)))) rfl rfl) z3 z0 (leb rfl))<|.n) λ_ a w H=>?_;replace H:St _ _ _ [_,_] [_,_,_] _ _:=(H.pick [1,3]).Xj [0,3,5] rfl;exact r0 h (·▸rt (.tuple #[y0,(m2 3)]) [0,1] hpl H (.cell (R:=(rAgg ([ti x_.Version,tvs (dh y0),tsl Qo x_.Xd,tvs (m2 3)]) (Qk (QO rfl) (Qk QU (Qk QaH (Qk QU Q5)))))) (u:=()) (tokA QH (Qk (QO rfl) (Qk QU (Qk QaH (Qk QU Q5)))) rfl rfl) z1 2 rfl rfl .nil))
 refine wp_block ?_;refine Qag _ (λ(s0:Int×List Qh) a w=>∃y1:Value,St M w0 37 [(4,ti s0.1),(3,tv (m1 1)),(1,tptr (Qb.cs x_)),(2,tv (m0 1))] [deep dF54 54 s0.2 y1,own Ql 62 ([]:List Qm) nilV,deep dF54 54 ([]:List Qh) nilV,box ([ti (0:Int),tvs (dh nilV),tsl Qo ([]:(List Qr)),tvs nilV]) (m0 1),box ([ti x_.Version,tvs (dh y1),tsl Qo x_.Xd,tsl Ql x_.Xc]) (m1 1)] a w) _ _ h0 ⟨nilV,H.pick [0,1,2,3]⟩ ?_;clear h;intro s0 o a w K1 hI h ho k2;obtain⟨y1,H⟩:=hI;refine wp_seq_k (λ_ k3=>?_);refine sr mx [] H (λ_=>.q 0 rfl<|.o (Qg QZ z3)<|.o (Qf (u:=x_.Xa) Qa0 z0 rfl)<|.o (Q1 ud23 z0)<|.o (Q8 z3 z0)<|.n) λ_ a w H=>?_;have H:=H.to [4,5,6,7,8] [_,_,_,_,_] [_,_,_,_,_] rfl rfl;refine wi H h (λb0 h=>?_) (λb0 h=>?_)
 ·refine wp_skip (k3 _ _ ?_);refine wp_seq_k (λ_ k4=>?_);refine wp_block ?_;have⟨t0,h2,h⟩:=bs h;refine sr mx [v1 5 (λv0=>box (Qp.cs zz1) v0),v1 5 (λv0=>box (Qp.cs t0) v0)] H (λ_=>.o (Qg QZ z3)<|.o (Qf (u:=x_.Xa) Qa0 z0 rfl)<|.q 3 rfl<|.o (QA ud23 Q6 z1 z0 h2)<|.o (Qw Q6 z0)<|.m [] [5] rfl rfl rfl (QV (R:=Qp) (a:=zz1) Q6 QkF)<|.e [] [5] [6] rfl rfl rfl rfl (QG (R:=Qp) (a:=t0) Q6 z0 z1 (leb rfl))<|.n) λm3 a w H=>?_;have H:=H.to [5,7,8,9,10] [_,_,_,_,_] [_,_,_,_,_,_] rfl rfl;refine wp_seq_k (λ_ k5=>?_);have⟨u1,h3,h⟩:=bs h;refine wr mx [v1 0 (λv0=>own Qe 70 ([]:List Qd) v0),v1 3 (λv0=>own Qe 70 (([]:List Qd)++t0.Xb) v0),v1 3 (λv0=>box ([tv (.string (sB t0.Xi)),ti t0.Lo,ti t0.Hi,tvs v0]) (m3 5))] H (λ_=>.m [] [6] rfl rfl rfl (QaS (R:=Qe) (us:=([]:List Qd)) ud52 Q4 (.nil _) rfl (leb rfl) (leb rfl))<|.u [5] rfl rfl (QC Qaf z1)<|.u [5] rfl rfl (QaY (R:=(rSl Qe)) (u:=t0.Xb) QbG z0 rfl)<|.e [] [6] [7] rfl rfl rfl rfl (QS (R:=Qe) ud52 Q4 (leb rfl) z2 z0 h3)<|.u [5] rfl rfl (QC Qaf z4)<|.e [7] [5] [8] rfl rfl rfl rfl (Qco (R:=Qe) (e:=70) (Ts:=(Qp.cs t0)) (off:=3) Qbe z0 z1 (leb rfl))<|.n) λm4 a w H=>?_;have H:=H.to [3,5,6,7,8,9] [_,_,_,_,_,_] [_,_,_,_,_,_,_] rfl rfl;refine k5 _ _ ?_;have⟨u2,h4,h⟩:=bs h;refine wr mx [v1 4 (λv0=>deep dF54 54 (s0.2++[(Qh.mk t0.Xi t0.Lo t0.Hi (([]:List Qd)++t0.Xb))]) (Qe6 (s0.2).length y1 v0 (dmk (m4 3) []))),v1 4 (λv0=>box ([ti x_.Version,tvs (dh (Qe6 (s0.2).length y1 v0 (dmk (m4 3) []))),tsl Qo x_.Xd,tsl Ql x_.Xc]) (m1 1))] H (λ_=>.u [4] rfl rfl (QC QZ z3)<|.u [4] rfl rfl (QX (u:=(dh y1)) Qa7 z0 rfl)<|.u [6] rfl rfl (Qbm (R:=(rAgg ([tv (.string (sB t0.Xi)),ti t0.Lo,ti t0.Hi,tvs (m4 3)]) (Qk (QO rfl) (Qk (QO rfl) (Qk (QO rfl) (Qk QU Q5)))))) (u:=()) (tokA Q6 (Qk (QO rfl) (Qk (QO rfl) (Qk (QO rfl) (Qk QU Q5)))) rfl rfl) z3 rfl)<|.o (QK (R:=drep dF54) (us:=[((Qh.mk t0.Xi t0.Lo t0.Hi (([]:List Qd)++t0.Xb)),(dmk (m4 3) []))]) ud23 Q6.deep (.cons z0<|.nil _) rfl (leb rfl))<|.e [] [0,5] [7] rfl rfl rfl rfl (QnO (D:=dF54) (y:=(Qh.mk t0.Xi t0.Lo t0.Hi (([]:List Qd)++t0.Xb))) (gy:=(dmk (m4 3) [])) ud23 Q6 (leb rfl) z2 z0 h4)<|.u [4] rfl rfl (QC QZ z8)<|.e [7] [4] [8] rfl rfl rfl rfl (QqZ (D:=dF54) (e:=54) (Ts:=([ti x_.Version,tvs (dh y1),tsl Qo x_.Xd,tsl Ql x_.Xc])) (off:=1) Qa7 z0 z1 (leb rfl))<|.n) λm5 a w H=>?_;replace H:St _ _ _ [_,_,_,_,_] [_,_,_,_,_] _ _:=(H.pick [4,8,9,10,11]).Xj [0,1,2,4,5] rfl;refine k4 _ _ ?_;refine wr mx [] H (λ_=>.q 1 rfl<|.o (Qab z0 .k)<|.o (Qc z0)<|.n) λ_ a w H=>?_;have H:=H.to [2,3,4,5,6] [_,_,_,_,_] [_,_,_,_,_] rfl rfl;exact k2 _ _ _ (sj h).symm ⟨(Qe6 (s0.2).length y1 (m5 4) (dmk (m4 3) [])),(H.pick [0,2,3,4]).Xj [3,0,1,2,4] rfl⟩
 refine wp_exit ?_;exact J0 _ y1 _ _ (ho _ (sj h).symm) (H.pick [2,3,4])
def Qdr (s_:Str) (old_:Str) (name_:Str):Option (Str):=(if (s_==old_)=true then (some name_) else (some s_))
instance QgN:Spc3 prog 57 Qdr (λs_ old_ name_=>[tv (.string (sB s_)),tv (.string (sB old_)),tv (.string (sB name_))]) (λr=>tv (.string (sB r))):=.mk λ{s_ old_ name_ r} h=>by
 unfold Qdr at h
 refine Fe func57 ntmps57 λM0 M w0 hpl=>?_
 refine QyV [1,2,3] ?_
 refine tIfs h [2,3,5] (λ_ h=>?_) (λ_ h=>?_)
 ·refine QyV [1] ?_
  exact QyZ h (·▸QyX hpl)
 refine QyV [1] ?_
 exact QyZ h (·▸QyX hpl)
def QfF (x_:Qa) (o_:Qt) (k_:Int) (f_:Int):Option (Qa):=(QeZ x_).bind λt0=>(Qz (λ(s0:Int×List Qh)=>((if (decide (s0.1<(x_.Xa.length:Int)))=true then (Qz (λ(s1:Int×List Qh)=>((idx x_.Xa s0.1).bind λt1=>(if (decide (s1.1<(t1.Xb.length:Int)))=true then (idx x_.Xa s0.1).bind λt2=>(idx t2.Xb s1.1).bind λt3=>(opt ((((s0.1==k_)&&(t3.Xh==4))==false)&&(((t3.Xh==7)||(t3.Xh==8))==true)) (Qfa x_ s0.1 s1.1) default).bind λt4=>((if (((s0.1==k_)&&(t3.Xh==4))||(((t3.Xh==7)||(t3.Xh==8))&&(t4==k_)))=true then (idx s1.2 s0.1).bind λr2=>(Qdr t3.Of o_.Field o_.Xi).bind λt5=>(idx r2.Xb s1.1).bind λr3=>(setAt r2.Xb s1.1 { r3 with Of:=t5 }).bind λm366=>(setAt s1.2 s0.1 { r2 with Xb:=m366 }).bind λm367=>(some m367) else (some s1.2))).bind λp0=>((if ((s0.1==k_)&&((t3.Xh==7)||(t3.Xh==8)))=true then (idx p0 s0.1).bind λr4=>(Qdr t3.Up o_.Field o_.Xi).bind λt6=>(idx r4.Xb s1.1).bind λr5=>(setAt r4.Xb s1.1 { r5 with Up:=t6 }).bind λm361=>(setAt p0 s0.1 { r4 with Xb:=m361 }).bind λm362=>(some m362) else (some p0))).bind λp1=>(some (.inl ((i64.wrap (s1.1+1)),p1))) else (some (.inr s1.2))):Option ((Int×List Qh)⊕((List Qh))))) ((0:Int),s0.2)).bind λp2=>(some (.inl ((i64.wrap (s0.1+1)),p2))) else (some (.inr s0.2))):Option ((Int×List Qh)⊕((List Qh))))) ((0:Int),t0.Xa)).bind λp3=>(Qz (λ(s2:Int×List Qm)=>((if (decide (s2.1<(x_.Xc.length:Int)))=true then (idx x_.Xc s2.1).bind λt7=>(idx x_.Xa k_).bind λt8=>((if (t7.Xh==t8.Xi)=true then (idx x_.Xc s2.1).bind λt9=>(Qdr t9.A o_.Field o_.Xi).bind λt10=>(idx s2.2 s2.1).bind λt11=>(setAt s2.2 s2.1 { t11 with A:=t10 }).bind λt12=>(idx x_.Xc s2.1).bind λt13=>(Qdr t13.B o_.Field o_.Xi).bind λt14=>(idx t12 s2.1).bind λt15=>(setAt t12 s2.1 { t15 with B:=t14 }).bind λt16=>(some t16) else (some s2.2))).bind λp4=>(some (.inl ((i64.wrap (s2.1+1)),p4))) else (some (.inr s2.2))):Option ((Int×List Qm)⊕((List Qm))))) ((0:Int),t0.Xc)).bind λp5=>(idx p3 k_).bind λr6=>(idx r6.Xb f_).bind λr7=>(setAt r6.Xb f_ { r7 with Xi:=o_.Xi }).bind λm251=>(setAt p3 k_ { r6 with Xb:=m251 }).bind λm252=>(some (Qa.mk t0.Version m252 t0.Xd p5))
instance QnT:Spc4 prog 38 QfF (λx_ o_ k_ f_=>[Qb.ty x_,Qx.ty o_,ti k_,ti f_]) Qb.ty:=.mk λ{x_ o_ k_ f_ r} h=>by
 unfold QfF at h
 refine fe func38 ntmps38 λM0 M w0 a hpl H=>?_
 refine sr mx [v1 2 (λv0=>box ([ti (0:Int),tvs (dh nilV),tsl Qo ([]:(List Qr)),tsl Ql ([]:(List Qm))]) v0)] H (λ_=>.o (Q9 (R:=Qb) (u:=x_) z0)<|.o (Q9 (R:=Qx) (u:=o_) z2)<|.m [] [0] rfl rfl rfl (QpG (R:=Qb) QH (Qk (QO rfl) (Qk QU (Qk QaH (Qk QaH Q5)))) (Qv6))<|.n) λm0 a w H=>?_
 replace H:St _ _ _ [_,_,_,_,_] [_,_] _ _:=(H.pick [0,1,2,5,6]).nilD dF54 54
 refine wp_seq_k (λ_ k0=>?_)
 have⟨t0,h0,h⟩:=bs h
 refine QbA mixed [v1 1 (λv0=>deep dF54 54 t0.Xa (gh v0 0)),v1 1 (λv0=>own Ql 62 t0.Xc (gh v0 1)),v1 2 (λv0=>box (Qb.cs zz4) v0),v2 1 2 (λv0 v1=>box ([ti t0.Version,tvs (dh (gh v0 0)),tsl Qo t0.Xd,tvs (gh v0 1)]) v1)] H (λm1=>.p rfl (Qw QH z0)<|.m [] [2,3] rfl rfl rfl (Qq Quy (QkJ.ok h0) (.cons (.of z0)<|.nil))<|.m [] [4] rfl rfl rfl (QV (R:=Qb) (a:=zz4) QH QdK)<|.e [] [4] [5] rfl rfl rfl rfl (QG (R:=(rAgg ([ti t0.Version,tvs (dh (gh (m1 1) 0)),tsl Qo t0.Xd,tvs (gh (m1 1) 1)]) (Qk (QO rfl) (Qk QU (Qk QaH (Qk QU Q5)))))) (a:=()) (tokA QH (Qk (QO rfl) (Qk QU (Qk QaH (Qk QU Q5)))) rfl rfl) z0 z1 (leb rfl))<|.nil _ _) (by kernel_rfl) (λm1 a w H=>?_)
 have H:=H.t6_5 [2,3,4,5,6,7]
 refine k0 _ _ ?_
 refine wp_seq_k (λK0 k1=>?_)
 refine sr mx [] H (λ_=>.o (Qc .k)<|.n) λ_ a w H=>?_
 have H:=H.to [0,1,2,3,4,5,6] [_,_,_,_,_,_,_] [_,_,_,_,_] rfl rfl
 have⟨e0,h1,h⟩:=bs h
 have J0:∀(p0:List Qh) a w,p0=e0->St M w0 173 [(9,tv (m1 2)),(4,tptr (Qb.cs x_)),(5,tptr (Qx.cs o_)),(8,tv (m0 2)),(2,ti k_),(3,ti f_)] [deep dF54 54 ([]:List Qh) nilV,box ([ti (0:Int),tvs (dh nilV),tsl Qo ([]:(List Qr)),tsl Ql ([]:(List Qm))]) (m0 2),deep dF54 54 p0 (gh (m1 1) 0),own Ql 62 t0.Xc (gh (m1 1) 1),box ([ti t0.Version,tvs (dh (gh (m1 1) 0)),tsl Qo t0.Xd,tvs (gh (m1 1) 1)]) (m1 2)] a w->K0 a w:=by
  intro p0 a w he H;subst he;refine k1 _ _ ?_;refine wp_seq_k (λK1 k2=>?_);refine sr mx [] H (λ_=>.o (Qc .k)<|.n) λ_ a w H=>?_;have H:=H.to [0,1,2,3,4,5,6] [_,_,_,_,_,_,_] [_,_,_,_,_] rfl rfl;have⟨e1,h2,h⟩:=bs h;have J1:∀(p1:List Qm) a w,p1=e1->St M w0 173 [(9,tv (m1 2)),(5,tptr (Qx.cs o_)),(8,tv (m0 2)),(2,ti k_),(3,ti f_)] [deep dF54 54 ([]:List Qh) nilV,box ([ti (0:Int),tvs (dh nilV),tsl Qo ([]:(List Qr)),tsl Ql ([]:(List Qm))]) (m0 2),deep dF54 54 p0 (gh (m1 1) 0),own Ql 62 p1 (gh (m1 1) 1),box ([ti t0.Version,tvs (dh (gh (m1 1) 0)),tsl Qo t0.Xd,tvs (gh (m1 1) 1)]) (m1 2)] a w->K1 a w:=by
   intro p1 a w he H;subst he;refine k2 _ _ ?_;refine wp_seq_k (λ_ k3=>?_);have⟨r2,h3,r3,h4,m251,hm251,m252,hm252,h⟩:=bs4 h;refine wr mx [v0 (deep dF54 54 m252 (gh (m1 1) 0))] H (λ_=>.u [4] rfl rfl (QC QZ z0)<|.u [4] rfl rfl (QX (u:=(dh (gh (m1 1) 0))) Qa7 z0 rfl)<|.q 5 rfl<|.u [2] rfl rfl (Qal ud23 Q6 z1 z0 h3)<|.u [2] rfl rfl (Qah Qaf z0 rfl h3)<|.u [2] rfl rfl (Qbt (QaA (R2:=rVal) (f:=dh (ds (gh (m1 1) 0) k_.toNat)) Qbe z0 h3 rfl) (λ_ _ _ _ h=>h.1))<|.q 10 rfl<|.o (Qg QeX z8)<|.o (Qf (u:=o_.Xi) tok9 z0 rfl)<|.u [2] rfl rfl (.part (Qaj h3 .refl) (Qar ud52 Q4 z3 z2 h4))<|.u [2] rfl rfl (.part (Qaj h3 .refl) (Qas QeY z0 (Qav h4)))<|.e [] [2] [5] rfl rfl rfl rfl (.focus (QcY h3 hm252 (.refl λ_=>Iff.rfl)) (QaT (u:={ r3 with Xi:=o_.Xi }) tok9 z0 z2 h4 hm251 (leb rfl) rfl))<|.n) λ_ a w H=>?_;have H:=H.to [1,11,13] [_,_,_] [_,_,_,_,_] rfl rfl;refine k3 _ _ ?_;refine sr mx [v0 (box ([ti t0.Version,tvs (dh (gh (m1 1) 0)),tsl Qo t0.Xd,tvs (gh (m1 1) 1)]) (m0 2))] H (λ_=>.u [3] rfl rfl (Qbm (R:=(rAgg ([ti t0.Version,tvs (dh (gh (m1 1) 0)),tsl Qo t0.Xd,tvs (gh (m1 1) 1)]) (Qk (QO rfl) (Qk QU (Qk QaH (Qk QU Q5)))))) (u:=()) (tokA QH (Qk (QO rfl) (Qk QU (Qk QaH (Qk QU Q5)))) rfl rfl) z1 rfl)<|.e [] [1] [5] rfl rfl rfl rfl (QG (R:=(rAgg ([ti t0.Version,tvs (dh (gh (m1 1) 0)),tsl Qo t0.Xd,tvs (gh (m1 1) 1)]) (Qk (QO rfl) (Qk QU (Qk QaH (Qk QU Q5)))))) (a:=()) (tokA QH (Qk (QO rfl) (Qk QU (Qk QaH (Qk QU Q5)))) rfl rfl) z3 z0 (leb rfl))<|.n) λ_ a w H=>?_;replace H:St _ _ _ [_,_] [_,_,_] _ _:=(H.pick [1,3]).Xj [1,3,4] rfl;refine wp_ret ?_;replace H:St _ _ _ [_] [_,_] _ _:=((H.pick [1]).Xj [1,2,0] rfl).shareCD 1 rfl;replace H:St _ _ _ [_] [_] _ _:=((H.pick [0]).Xj [1,0] rfl).Xl 3 rfl;obtain rfl:=sj h;exact rt undef [] hpl H (.cell (R:=Qb) (u:=(Qa.mk t0.Version m252 t0.Xd p1)) QH z0 0 rfl rfl .nil)
  refine wp_block ?_;refine Qag _ (λ(s0:Int×List Qm) a w=>St M w0 173 [(14,ti s0.1),(9,tv (m1 2)),(4,tptr (Qb.cs x_)),(5,tptr (Qx.cs o_)),(8,tv (m0 2)),(2,ti k_),(3,ti f_)] [deep dF54 54 ([]:List Qh) nilV,box ([ti (0:Int),tvs (dh nilV),tsl Qo ([]:(List Qr)),tsl Ql ([]:(List Qm))]) (m0 2),deep dF54 54 p0 (gh (m1 1) 0),own Ql 62 s0.2 (gh (m1 1) 1),box ([ti t0.Version,tvs (dh (gh (m1 1) 0)),tsl Qo t0.Xd,tvs (gh (m1 1) 1)]) (m1 2)] a w) _ _ h2 (H.pick [0,1,2,3,4,5,6]) ?_;clear h;intro s0 o a w K2 hI h ho k4;have H:=hI;clear hI;refine wp_seq_k (λ_ k5=>?_);refine sr mx [] H (λ_=>.q 0 rfl<|.o (Qg QaO z3)<|.o (Qf (u:=x_.Xc) QcH z0 rfl)<|.o (Q1 ud25 z0)<|.o (Q8 z3 z0)<|.n) λ_ a w H=>?_;have H:=H.t8_5 [4,5,6,7,8,9,10,11];refine wi H h (λb0 h=>?_) (λb0 h=>?_)
  ·refine wp_skip (k5 _ _ ?_);refine wp_seq_k (λK3 k6=>?_);refine wp_block ?_;have⟨t1,h5,t2,h6,h⟩:=bs2 h;refine sr mx [] H (λ_=>.o (Qg QaO z3)<|.o (Qf (u:=x_.Xc) QcH z0 rfl)<|.q 3 rfl<|.o (QA ud25 Qbp z1 z0 h5)<|.o (Qg Qht z0)<|.o (Qf (u:=t1.Xh) tok9 z0 rfl)<|.o (Qg QZ z9)<|.o (Qf (u:=x_.Xa) Qa0 z0 rfl)<|.q 14 rfl<|.o (QA ud23 Q6 z1 z0 h6)<|.o (Qg Qgv z0)<|.o (Qf (u:=t2.Xi) tok9 z0 rfl)<|.o (QdB z6 z0)<|.n) λ_ a w H=>?_;have H:=H.t8_5 [12,14,15,16,17,18,19,20];have⟨p2,h7,h⟩:=bs h;have J2:∀a w,St M w0 173 [(14,ti s0.1),(9,tv (m1 2)),(4,tptr (Qb.cs x_)),(5,tptr (Qx.cs o_)),(8,tv (m0 2)),(2,ti k_),(3,ti f_)] [deep dF54 54 ([]:List Qh) nilV,box ([ti (0:Int),tvs (dh nilV),tsl Qo ([]:(List Qr)),tsl Ql ([]:(List Qm))]) (m0 2),deep dF54 54 p0 (gh (m1 1) 0),box ([ti t0.Version,tvs (dh (gh (m1 1) 0)),tsl Qo t0.Xd,tvs (gh (m1 1) 1)]) (m1 2),own Ql 62 p2 (gh (m1 1) 1)] a w->K3 a w:=by
    intro a w H;refine k6 _ _ ?_;refine wr mx [] H (λ_=>.q 0 rfl<|.o (Qab z0 .k)<|.o (Qc z0)<|.n) λ_ a w H=>?_;have H:=H.to [2,3,4,5,6,7,8] [_,_,_,_,_,_,_] [_,_,_,_,_] rfl rfl;exact k4 _ _ _ (sj h).symm ((H.pick [0,1,2,3,4,5,6]).Xj [0,1,2,4,3] rfl)
   replace h:=h7;clear h7;refine wi H h (λb1 h=>?_) (λb1 h=>?_)
   ·have⟨t3,h8,t4,h9,t5,h10,t6,h11,h⟩:=bs4 h;refine sr mx [v0 (own Ql 62 t6 (gh (m1 1) 1))] H (λ_=>.u [4] rfl rfl (QC QaO z2)<|.u [4] rfl rfl (QX (u:=(gh (m1 1) 1)) QhM z0 rfl)<|.q 3 rfl<|.o (Qg QaO z6)<|.o (Qf (u:=x_.Xc) QcH z0 rfl)<|.q 6 rfl<|.o (QA ud25 Qbp z1 z0 h8)<|.o (Qg Qil z0)<|.o (Qf (u:=t3.A) tok9 z0 rfl)<|.o (Qg Qin z13)<|.o (Qf (u:=o_.Field) tok9 z0 rfl)<|.o (Qg QeX z15)<|.o (Qf (u:=o_.Xi) tok9 z0 rfl)<|.o (Qq Qoy (QgN.ok h9) (.cons (.of z4)<|.cons (.of z2)<|.cons (.of z0)<|.nil))<|.u [3] rfl rfl (Qar ud25 Qbp z12 z11 h10)<|.u [3] rfl rfl (Qas Qil z0 (Qav h10))<|.e [] [3] [5] rfl rfl rfl rfl (QaT (u:={ t5 with A:=t4 }) tok9 z0 z2 h10 h11 (leb rfl) rfl)<|.n) λ_ a w H=>?_;have H:=H.t8_5 [1,17,18,19,20,21,22,23];have⟨t7,h12,t8,h13,t9,h14,t10,h15,h⟩:=bs4 h;refine wr mx [v0 (own Ql 62 t10 (gh (m1 1) 1))] H (λ_=>.u [3] rfl rfl (QC QaO z2)<|.u [3] rfl rfl (QX (u:=(gh (m1 1) 1)) QhM z0 rfl)<|.q 3 rfl<|.o (Qg QaO z6)<|.o (Qf (u:=x_.Xc) QcH z0 rfl)<|.q 6 rfl<|.o (QA ud25 Qbp z1 z0 h12)<|.o (Qg Qim z0)<|.o (Qf (u:=t7.B) tok9 z0 rfl)<|.o (Qg Qin z13)<|.o (Qf (u:=o_.Field) tok9 z0 rfl)<|.o (Qg QeX z15)<|.o (Qf (u:=o_.Xi) tok9 z0 rfl)<|.o (Qq Qoy (QgN.ok h13) (.cons (.of z4)<|.cons (.of z2)<|.cons (.of z0)<|.nil))<|.u [4] rfl rfl (Qar ud25 Qbp z12 z11 h14)<|.u [4] rfl rfl (Qas Qim z0 (Qav h14))<|.e [] [4] [5] rfl rfl rfl rfl (QaT (u:={ t9 with B:=t8 }) tok9 z0 z2 h14 h15 (leb rfl) rfl)<|.n) λ_ a w H=>?_;have H:=H.t9_5 [1,16,17,18,19,20,21,22,23];obtain rfl:=sj h;exact J2 _ _ (H.pick [2,3,4,5,6,7,8])
   refine wp_skip ?_;obtain rfl:=sj h;exact J2 _ _ ((H.pick [1,2,3,4,5,6,7]).Xj [0,1,2,4,3] rfl)
  refine wp_exit ?_;exact J1 _ _ _ (ho _ (sj h).symm) (H.pick [2,4,5,6,7])
 refine wp_block ?_;refine Qag _ (λ(s1:Int×List Qh) a w=>St M w0 173 [(10,ti s1.1),(9,tv (m1 2)),(4,tptr (Qb.cs x_)),(5,tptr (Qx.cs o_)),(8,tv (m0 2)),(2,ti k_),(3,ti f_)] [deep dF54 54 ([]:List Qh) nilV,box ([ti (0:Int),tvs (dh nilV),tsl Qo ([]:(List Qr)),tsl Ql ([]:(List Qm))]) (m0 2),deep dF54 54 s1.2 (gh (m1 1) 0),own Ql 62 t0.Xc (gh (m1 1) 1),box ([ti t0.Version,tvs (dh (gh (m1 1) 0)),tsl Qo t0.Xd,tvs (gh (m1 1) 1)]) (m1 2)] a w) _ _ h1 (H.pick [0,1,2,3,4,5,6]) ?_;clear h;intro s1 o a w K4 hI h ho k7;have H:=hI;clear hI;refine wp_seq_k (λ_ k8=>?_);refine sr mx [] H (λ_=>.q 0 rfl<|.o (Qg QZ z3)<|.o (Qf (u:=x_.Xa) Qa0 z0 rfl)<|.o (Q1 ud23 z0)<|.o (Q8 z3 z0)<|.n) λ_ a w H=>?_;have H:=H.t8_5 [4,5,6,7,8,9,10,11];refine wi H h (λb2 h=>?_) (λb2 h=>?_)
 ·refine wp_skip (k8 _ _ ?_);refine wp_seq_k (λK5 k9=>?_);refine wp_block ?_;refine sr mx [] H (λ_=>.o (Qc .k)<|.n) λ_ a w H=>?_;have H:=H.t8_5 [0,2,3,4,5,6,7,8];have⟨e2,h16,h⟩:=bs h;have J3:∀(p3:List Qh) a w,p3=e2->St M w0 173 [(10,ti s1.1),(9,tv (m1 2)),(4,tptr (Qb.cs x_)),(5,tptr (Qx.cs o_)),(8,tv (m0 2)),(2,ti k_),(3,ti f_)] [deep dF54 54 ([]:List Qh) nilV,box ([ti (0:Int),tvs (dh nilV),tsl Qo ([]:(List Qr)),tsl Ql ([]:(List Qm))]) (m0 2),deep dF54 54 p3 (gh (m1 1) 0),own Ql 62 t0.Xc (gh (m1 1) 1),box ([ti t0.Version,tvs (dh (gh (m1 1) 0)),tsl Qo t0.Xd,tvs (gh (m1 1) 1)]) (m1 2)] a w->K5 a w:=by
   intro p3 a w he H;subst he;refine k9 _ _ ?_;refine wr mx [] H (λ_=>.q 0 rfl<|.o (Qab z0 .k)<|.o (Qc z0)<|.n) λ_ a w H=>?_;have H:=H.to [2,3,4,5,6,7,8] [_,_,_,_,_,_,_] [_,_,_,_,_] rfl rfl;exact k7 _ _ _ (sj h).symm (H.pick [0,1,2,3,4,5,6])
  refine wp_block ?_;refine Qag _ (λ(s2:Int×List Qh) a w=>St M w0 173 [(11,ti s2.1),(10,ti s1.1),(9,tv (m1 2)),(4,tptr (Qb.cs x_)),(5,tptr (Qx.cs o_)),(8,tv (m0 2)),(2,ti k_),(3,ti f_)] [deep dF54 54 ([]:List Qh) nilV,box ([ti (0:Int),tvs (dh nilV),tsl Qo ([]:(List Qr)),tsl Ql ([]:(List Qm))]) (m0 2),deep dF54 54 s2.2 (gh (m1 1) 0),own Ql 62 t0.Xc (gh (m1 1) 1),box ([ti t0.Version,tvs (dh (gh (m1 1) 0)),tsl Qo t0.Xd,tvs (gh (m1 1) 1)]) (m1 2)] a w) _ _ h16 (H.pick [0,1,2,3,4,5,6,7]) ?_;clear h;intro s2 o a w K6 hI h ho k10;have H:=hI;clear hI;refine wp_seq_k (λ_ k11=>?_);have⟨t11,h17,h⟩:=bs h;refine sr mx [] H (λ_=>.q 0 rfl<|.o (Qg QZ z4)<|.o (Qf (u:=x_.Xa) Qa0 z0 rfl)<|.q 4 rfl<|.o (QA ud23 Q6 z1 z0 h17)<|.o (Qg Qaf z0)<|.o (Qf (u:=t11.Xb) QbG z0 rfl)<|.o (Q1 ud52 z0)<|.o (Q8 z7 z0)<|.n) λ_ a w H=>?_;have H:=H.t9_5 [8,9,10,11,12,13,14,15,16];refine wi H h (λb3 h=>?_) (λb3 h=>?_)
  ·refine wp_skip (k11 _ _ ?_);refine wp_seq_k (λK7 k12=>?_);refine wp_block ?_;have⟨t12,h18,t13,h19,h⟩:=bs2 h;refine sr mx [v1 9 (λv0=>box (Qe.cs zz0) v0),v1 9 (λv0=>box (Qe.cs t13) v0)] H (λ_=>.o (Qg QZ z4)<|.o (Qf (u:=x_.Xa) Qa0 z0 rfl)<|.q 4 rfl<|.o (QA ud23 Q6 z1 z0 h18)<|.o (Qg Qaf z0)<|.o (Qf (u:=t12.Xb) QbG z0 rfl)<|.q 7 rfl<|.o (QA ud52 Q4 z1 z0 h19)<|.o (Qw Q4 z0)<|.m [] [5] rfl rfl rfl (QV (R:=Qe) (a:=zz0) Q4 QgM)<|.e [] [5] [6] rfl rfl rfl rfl (QG (R:=Qe) (a:=t13) Q4 z0 z1 (leb rfl))<|.n) λ_ a w H=>?_;replace H:St _ _ _ [_,_,_,_,_,_,_,_,_] [_,_,_,_,_] _ _:=((((H.pick [9,11,12,13,14,15,16,17,18]).Xj [5,0,1,2,3,4] rfl).Xk 0 rfl).add 0 rfl (λ_ _ _ h=>h.2)).pick [0,3,4,5,6,7,8,9,10];refine sr mx [] H (λ_=>.o (Qg QbY z0)<|.o (Qf (u:=t13.Xh) tok3 z0 rfl)<|.o (Qau z0 .k)<|.q 0 rfl<|.g rfl rfl bq0 (λ_=>Qg QbY z4)<|.g rfl rfl bq1 (λhc=>Qf (u:=t13.Xh) tok3 (.cond z0 hc) rfl)<|.g rfl rfl bq2 (λhc=>Qau (.cond z0 hc) .k)<|.o (Qbo z3 (λhp=>(.cond z0 (beqF hp))))<|.o (Qc z0)<|.n) λ_ a w H=>?_;have H:=H.t10_5 [8,9,10,11,12,13,14,15,16,17];refine wp_seq_k (λK8 k13=>?_);have⟨t14,h20,h⟩:=bs h;refine sr mx [] H (λ_=>.q 3 rfl<|.q 9 rfl<|.o (Qau z1 z0)<|.q 0 rfl<|.g rfl rfl bq0 (λ_=>Qg QbY z5)<|.g rfl rfl bq1 (λhc=>Qf (u:=t13.Xh) tok3 (.cond z0 hc) rfl)<|.g rfl rfl bq2 (λhc=>Qau (.cond z0 hc) .k)<|.o (Qby z3 (λhp=>(.cond z0 (beqT hp))))<|.q 0 rfl<|.g rfl rfl bq0 (λ_=>QL z9)<|.g rfl rfl bq1 (λhc=>QL (.cond z0 hc))<|.g rfl rfl (.c 0 rfl) (λ_=>Qw QH z16)<|.g rfl rfl (.c 1 rfl) (λ_=>QL z15)<|.g rfl rfl (.c 2 rfl) (λ_=>QL z15)<|.g rfl rfl (.c 3 rfl) (λhc=>Qq QuD (QnG.ok (QaZ h20 hc)) (.cons (.of (.cond z2 hc))<|.cons (.of (.cond z1 hc))<|.cons (.of (.cond z0 hc))<|.nil))<|.g rfl rfl (.c 4 rfl) (λ_=>QL z23)<|.g rfl rfl (.c 5 rfl) (λhc=>Qau (.cond z1 hc) (.cond z0 hc))<|.g rfl rfl bq8 (λhc=>Qby (.cond z6 hc) (λhp=>(.cond z0 (QfD hc (beqT hp)))))<|.o (Qbo z9 (λhp=>(.cond z0 (beqF hp))))<|.n) λ_ a w H=>?_;have H:=H.to [18,19,20,21,22,23,24,25,26,27,28] [_,_,_,_,_,_,_,_,_,_,_] [_,_,_,_,_] rfl rfl;have⟨p4,h21,h⟩:=bs h;have J4:∀a w,St M w0 173 [(13,tb ((t13.Xh==7)||(t13.Xh==8))),(12,tptr (Qe.cs t13)),(11,ti s2.1),(10,ti s1.1),(9,tv (m1 2)),(4,tptr (Qb.cs x_)),(5,tptr (Qx.cs o_)),(8,tv (m0 2)),(2,ti k_),(3,ti f_)] [deep dF54 54 ([]:List Qh) nilV,box ([ti (0:Int),tvs (dh nilV),tsl Qo ([]:(List Qr)),tsl Ql ([]:(List Qm))]) (m0 2),own Ql 62 t0.Xc (gh (m1 1) 1),box ([ti t0.Version,tvs (dh (gh (m1 1) 0)),tsl Qo t0.Xd,tvs (gh (m1 1) 1)]) (m1 2),deep dF54 54 p4 (gh (m1 1) 0)] a w->K8 a w:=by
    intro a w H;refine k13 _ _ ?_;refine sr mx [] H (λ_=>.q 3 rfl<|.q 9 rfl<|.o (Qau z1 z0)<|.q 0 rfl<|.g rfl rfl bq0 (λ_=>QL z4)<|.o (Qby z1 (λhp=>(.cond z0 (beqT hp))))<|.n) λ_ a w H=>?_;have H:=H.t10_5 [5,7,8,9,10,11,12,13,14,15];have⟨p5,h22,h⟩:=bs h;have J5:∀a w,St M w0 173 [(11,ti s2.1),(10,ti s1.1),(9,tv (m1 2)),(4,tptr (Qb.cs x_)),(5,tptr (Qx.cs o_)),(8,tv (m0 2)),(2,ti k_),(3,ti f_)] [deep dF54 54 ([]:List Qh) nilV,box ([ti (0:Int),tvs (dh nilV),tsl Qo ([]:(List Qr)),tsl Ql ([]:(List Qm))]) (m0 2),own Ql 62 t0.Xc (gh (m1 1) 1),box ([ti t0.Version,tvs (dh (gh (m1 1) 0)),tsl Qo t0.Xd,tvs (gh (m1 1) 1)]) (m1 2),deep dF54 54 p5 (gh (m1 1) 0)] a w->K7 a w:=by
     intro a w H;refine k12 _ _ ?_;refine wr mx [] H (λ_=>.q 0 rfl<|.o (Qab z0 .k)<|.o (Qc z0)<|.n) λ_ a w H=>?_;have H:=H.t8_5 [2,3,4,5,6,7,8,9];exact k10 _ _ _ (sj h).symm ((H.pick [0,1,2,3,4,5,6,7]).Xj [0,1,4,2,3] rfl)
    replace h:=h22;clear h22;refine wi H h (λb4 h=>?_) (λb4 h=>?_)
    ·have⟨r4,h23,t15,h24,r5,h25,m361,hm361,h⟩:=bs4 h;have⟨m362,hm362,h⟩:=bs h;refine wr mx [v0 (deep dF54 54 m362 (gh (m1 1) 0))] H (λ_=>.u [3] rfl rfl (QC QZ z4)<|.u [3] rfl rfl (QX (u:=(dh (gh (m1 1) 0))) Qa7 z0 rfl)<|.q 5 rfl<|.u [4] rfl rfl (Qal ud23 Q6 z1 z0 h23)<|.u [4] rfl rfl (Qah Qaf z0 rfl h23)<|.u [4] rfl rfl (Qbt (QaA (R2:=rVal) (f:=dh (ds (gh (m1 1) 0) (s1.1).toNat)) Qbe z0 h23 rfl) (λ_ _ _ _ h=>h.1))<|.q 8 rfl<|.o (Qg Qlo z8)<|.o (Qf (u:=t13.Up) tok9 z0 rfl)<|.o (Qg Qin z15)<|.o (Qf (u:=o_.Field) tok9 z0 rfl)<|.o (Qg QeX z17)<|.o (Qf (u:=o_.Xi) tok9 z0 rfl)<|.o (Qq Qoy (QgN.ok h24) (.cons (.of z4)<|.cons (.of z2)<|.cons (.of z0)<|.nil))<|.u [4] rfl rfl (.part (Qaj h23 .refl) (Qar ud52 Q4 z8 z7 h25))<|.u [4] rfl rfl (.part (Qaj h23 .refl) (Qas Qlo z0 (Qav h25)))<|.e [] [4] [5] rfl rfl rfl rfl (.focus (QcY h23 hm362 (.refl λ_=>Iff.rfl)) (QaT (u:={ r5 with Up:=t15 }) tok9 z0 z2 h25 hm361 (leb rfl) rfl))<|.n) λ_ a w H=>?_;have H:=H.t9_5 [1,18,19,20,21,22,23,24,25];obtain rfl:=sj h;exact J5 _ _ (H.pick [1,2,3,4,5,6,7,8])
    refine wp_skip ?_;obtain rfl:=sj h;exact J5 _ _ (H.pick [2,3,4,5,6,7,8,9])
   replace h:=h21;clear h21;refine wi H h (λb5 h=>?_) (λb5 h=>?_)
   ·have⟨r6,h26,t16,h27,r7,h28,m366,hm366,h⟩:=bs4 h;have⟨m367,hm367,h⟩:=bs h;refine wr mx [v0 (deep dF54 54 m367 (gh (m1 1) 0))] H (λ_=>.u [4] rfl rfl (QC QZ z5)<|.u [4] rfl rfl (QX (u:=(dh (gh (m1 1) 0))) Qa7 z0 rfl)<|.q 6 rfl<|.u [2] rfl rfl (Qal ud23 Q6 z1 z0 h26)<|.u [2] rfl rfl (Qah Qaf z0 rfl h26)<|.u [2] rfl rfl (Qbt (QaA (R2:=rVal) (f:=dh (ds (gh (m1 1) 0) (s1.1).toNat)) Qbe z0 h26 rfl) (λ_ _ _ _ h=>h.1))<|.q 9 rfl<|.o (Qg Qio z9)<|.o (Qf (u:=t13.Of) tok9 z0 rfl)<|.o (Qg Qin z16)<|.o (Qf (u:=o_.Field) tok9 z0 rfl)<|.o (Qg QeX z18)<|.o (Qf (u:=o_.Xi) tok9 z0 rfl)<|.o (Qq Qoy (QgN.ok h27) (.cons (.of z4)<|.cons (.of z2)<|.cons (.of z0)<|.nil))<|.u [2] rfl rfl (.part (Qaj h26 .refl) (Qar ud52 Q4 z8 z7 h28))<|.u [2] rfl rfl (.part (Qaj h26 .refl) (Qas Qio z0 (Qav h28)))<|.e [] [2] [5] rfl rfl rfl rfl (.focus (QcY h26 hm367 (.refl λ_=>Iff.rfl)) (QaT (u:={ r7 with Of:=t16 }) tok9 z0 z2 h28 hm366 (leb rfl) rfl))<|.n) λ_ a w H=>?_;have H:=H.to [1,17,18,19,20,21,22,23,24,25,26] [_,_,_,_,_,_,_,_,_,_,_] [_,_,_,_,_] rfl rfl;obtain rfl:=sj h;exact J4 _ _ (H.pick [1,2,3,4,5,6,7,8,9,10])
   refine wp_skip ?_;obtain rfl:=sj h;exact J4 _ _ ((H.pick [1,2,3,4,5,6,7,8,9,10]).Xj [0,1,3,4,2] rfl)
  refine wp_exit ?_;exact J3 _ _ _ (ho _ (sj h).symm) (H.pick [2,3,4,5,6,7,8])
 refine wp_exit ?_;exact J0 _ _ _ (ho _ (sj h).symm) (H.pick [2,3,4,5,6,7])
def Qa2 (n_:Int) (least_:Int) (most_:Int):Option (Bool):=(some ((decide (n_>=least_))&&(decide (n_<=most_))))
instance QwR:Spc3 prog 75 Qa2 (λn_ least_ most_=>[ti n_,ti least_,ti most_]) tb:=.mk λ{n_ least_ most_ r} h=>by
 unfold Qa2 at h
 refine Fe func75 ntmps75 λM0 M w0 hpl=>?_
 refine QyV [1,2,3] ?_
 refine QyV [8] ?_
 exact QyZ h (·▸QyX hpl)
def Qe0 (c_:Int):Option (Bool):=(some ((decide (c_>=97))&&(decide (c_<=122))))
instance QwS:Spc1 prog 135 Qe0 (λc_=>[tv (.int .u8 c_)]) tb:=.mk λ{c_ r} h=>by
 unfold Qe0 at h
 refine Fe func135 ntmps135 λM0 M w0 hpl=>?_
 refine QyV [1] ?_
 refine QyV [6] ?_
 exact QyZ h (·▸QyX hpl)
def Qiz (c_:Int):Option (Bool):=(some ((decide (c_>=48))&&(decide (c_<=57))))
instance Qx3:Spc1 prog 136 Qiz (λc_=>[tv (.int .u8 c_)]) tb:=.mk λ{c_ r} h=>by
 unfold Qiz at h
 refine Fe func136 ntmps136 λM0 M w0 hpl=>?_
 refine QyV [1] ?_
 refine QyV [6] ?_
 exact QyZ h (·▸QyX hpl)
def Qbj (s_:Str):Option (Bool):=(opt (((decide ((s_.length:Int)<1))||(decide ((s_.length:Int)>12)))==false) (idx s_ 0) default).bind λt0=>(opt (((decide ((s_.length:Int)<1))||(decide ((s_.length:Int)>12)))==false) (Qe0 (t0.toNat:Int)) default).bind λt1=>(if (((decide ((s_.length:Int)<1))||(decide ((s_.length:Int)>12)))||(!t1))=true then (some false) else (Qz (λ(s0:Int)=>((if (decide (s0<(s_.length:Int)))=true then (idx s_ s0).bind λt2=>(Qe0 (t2.toNat:Int)).bind λt3=>(opt ((!t3)==true) (idx s_ s0) default).bind λt4=>(opt ((!t3)==true) (Qiz (t4.toNat:Int)) default).bind λt5=>(if ((!t3)&&(!t5))=true then (some (.inr (.inr false))) else (some (.inl (i64.wrap (s0+1))))) else (some (.inr (.inl ())))):Option ((Int)⊕((Unit)⊕(Bool))))) (0:Int)).bind λe0=>(match e0 with | .inl _=>(some true) | .inr p0=>(some p0)))
instance QwT:Spc1 prog 98 Qbj (λs_=>[tv (.string (sB s_))]) tb:=.mk λ{s_ r} h=>by
 unfold Qbj at h
 refine Fe func98 ntmps98 λM0 M w0 hpl=>?_
 refine QyV [1] ?_
 have⟨_,_,_,_,h⟩:=bs2 h
 refine tIfs h [13,14] (λ_ h=>?_) (λ_ h=>?_)
 ·refine QyV [0] ?_
  exact QyZ h (·▸QyX hpl)
 refine QyY λK0 k0=>?_
 refine QyV [0,2] ?_
 have⟨e0,h0,h⟩:=bs h
 have J0:∀(p0:Unit),(.inl p0)=e0->To M w0 36 [] [] K0:=by
  intro p0 he;subst he;simp only at h;refine k0 <|QyV [0] ?_;exact QyZ h (·▸QyX hpl)
 have J1:∀(p1:Bool),(.inr p1)=e0->To M w0 36 [(2,tb p1)] [] (Ret prog f98 M0 [] w0 (λ_=>[]) (λ_=>tb r) .ret):=by
  intro p1 he;subst he;simp only at h;obtain rfl:=sj h;exact QyX hpl
 refine Qy1 <|Qzb h0 (λ(s0:Int)=>[(3,ti s0),(0,tv (.string (sB s_)))]) (λ(s0:Int)=>[]) [0,1] ?_;clear h;intro s0 o K1 h ho k1;refine QyY λ_ k2=>QyV [3,4,5] ?_;refine Qy0 h (λ_ h=>?_) (λ_ h=>?_)
 ·refine Qy2 <|k2 <|QyY λ_ k3=>Qy1 ?_;have⟨_,_,_,_,_,_,_,_,h⟩:=bs4 h;refine QyV [11,13,14] ?_;refine Qy0 h (λ_ h=>?_) (λ_ h=>?_)
  ·refine QyV [0] ?_;refine Qzd ?_;exact Qy4 J1 (ho _ (sj h).symm) [0]
  refine Qy2 <|k3 <|Qy6 [2,4] ?_;exact Qy4 k1 ((sj h).symm) [0,1]
 refine Qy7 <|Qy4 J0 (ho _ (sj h).symm) []
def QdL (lo_:Int) (hi_:Int) (least_:Int) (most_:Int):Option (Bool):=(some (((decide (lo_>=least_))&&(decide (lo_<=hi_)))&&(decide (hi_<=most_))))
instance QyN:Spc4 prog 99 QdL (λlo_ hi_ least_ most_=>[ti lo_,ti hi_,ti least_,ti most_]) tb:=.mk λ{lo_ hi_ least_ most_ r} h=>by
 unfold QdL at h
 refine Fe func99 ntmps99 λM0 M w0 hpl=>?_
 refine QyV [1,2,3,4] ?_
 refine QyV [13] ?_
 exact QyZ h (·▸QyX hpl)
def QbL (kind_:Int):Option (Bool×Bool×Bool×Bool×Bool):=(some (((((((kind_==1)||(kind_==4))||(kind_==5))||(kind_==6))||(kind_==7))||(kind_==8)),((kind_==7)||(kind_==8)),((((((kind_==1)||(kind_==2))||(kind_==4))||(kind_==5))||(kind_==7))||(kind_==0)),(((((kind_==1)||(kind_==2))||(kind_==4))||(kind_==5))||(kind_==7)),(kind_==3)))
instance QyO:Spc1 prog 137 QbL (λkind_=>[ti kind_]) (λr=>ttup [tb r.1,tb r.2.1,tb r.2.2.1,tb r.2.2.2.1,tb r.2.2.2.2]):=.mk λ{kind_ r} h=>by
 unfold QbL at h
 refine Fe func137 ntmps137 λM0 M w0 hpl=>?_
 refine QyV [5] ?_
 refine QyV [22,23] ?_
 refine QyV [6,7,8] ?_
 refine QyV [18,19,20,21] ?_
 refine QyV [10,11,12,13,14] ?_
 exact QyZ h (·▸QyX hpl)
def QfG (l_:(List Str)):Option (Bool):=(Qz (λ(s0:Int)=>((if (decide (s0<(l_.length:Int)))=true then (idx l_ s0).bind λt0=>(Qbj t0).bind λt1=>(if (!t1)=true then (some (.inr (.inr false))) else (some (.inl (i64.wrap (s0+1))))) else (some (.inr (.inl ())))):Option ((Int)⊕((Unit)⊕(Bool))))) (0:Int)).bind λe0=>(match e0 with | .inl _=>(some true) | .inr p0=>(some p0))
instance Qx4:Spc1 prog 101 QfG (λl_=>[tsl rS l_]) tb:=.mk λ{l_ r} h=>by
 unfold QfG at h
 refine Fe func101 ntmps101 λM0 M w0 hpl=>?_
 refine QyV [1] ?_
 refine QyY λK0 k0=>?_
 refine QyV [0,1] ?_
 have⟨e0,h0,h⟩:=bs h
 have J0:∀(p0:Unit),(.inl p0)=e0->To M w0 16 [] [] K0:=by
  intro p0 he;subst he;simp only at h;refine k0 <|QyV [0] ?_;exact QyZ h (·▸QyX hpl)
 have J1:∀(p1:Bool),(.inr p1)=e0->To M w0 16 [(2,tb p1)] [] (Ret prog f101 M0 [] w0 (λ_=>[]) (λ_=>tb r) .ret):=by
  intro p1 he;subst he;simp only at h;obtain rfl:=sj h;exact QyX hpl
 refine Qy1 <|Qzb h0 (λ(s0:Int)=>[(3,ti s0),(0,tsl rS l_)]) (λ(s0:Int)=>[]) [0,1] ?_;clear h;intro s0 o K1 h ho k1;refine QyY λ_ k2=>QyV [3,4,5] ?_;refine Qy0 h (λ_ h=>?_) (λ_ h=>?_)
 ·refine Qy2 <|k2 <|QyY λ_ k3=>Qy1 ?_;have⟨_,_,_,_,h⟩:=bs2 h;refine QyV [5,7,8] ?_;refine Qy0 h (λ_ h=>?_) (λ_ h=>?_)
  ·refine QyV [0] ?_;refine Qzd ?_;exact Qy4 J1 (ho _ (sj h).symm) [0]
  refine Qy2 <|k3 <|Qy6 [2,4] ?_;exact Qy4 k1 ((sj h).symm) [0,1]
 refine Qy7 <|Qy4 J0 (ho _ (sj h).symm) []
def Qgk (f_:Qd):Option (Bool):=(Qz (λ(s0:Int×Int)=>((if (decide (s0.1<(f_.Xf.length:Int)))=true then (idx f_.Xf s0.1).bind λt0=>(Qa2 t0 0 1048576).bind λt1=>(if (!t1)=true then (some (.inr (.inr false))) else (idx f_.Xf s0.1).bind λt2=>(some (.inl ((i64.wrap (s0.1+1)),(i64.wrap (s0.2+t2)))))) else (some (.inr (.inl s0.2)))):Option ((Int×Int)⊕((Int)⊕(Bool))))) ((0:Int),(0:Int))).bind λe0=>(match e0 with | .inl p0=>(Qa2 (f_.Words.length:Int) 1 12).bind λt3=>(opt (((t3&&((f_.Words.length:Int)==(f_.Xf.length:Int)))&&(decide (p0>0)))==true) (QfG f_.Words) default).bind λt4=>(some (((t3&&((f_.Words.length:Int)==(f_.Xf.length:Int)))&&(decide (p0>0)))&&t4)) | .inr p1=>(some p1))
instance QwU:Spc1 prog 138 Qgk (λf_=>[Qe.ty f_]) tb:=.mk λ{f_ r} h=>by
 unfold Qgk at h
 refine Fe func138 ntmps138 λM0 M w0 hpl=>?_
 refine QyV [0] ?_
 refine QyV [0,1] ?_
 refine QyY λK0 k0=>?_
 refine QyV [0,1,2] ?_
 have⟨e0,h0,h⟩:=bs h
 have J0:∀(p0:Int),(.inl p0)=e0->To M w0 48 [(3,ti p0),(1,tptr (Qe.cs f_))] [] K0:=by
  intro p0 he;subst he;simp only at h;refine k0 ?_;have⟨_,_,_,_,h⟩:=bs2 h;refine QyV [22] ?_;exact QyZ h (·▸QyX hpl)
 have J1:∀(p1:Bool),(.inr p1)=e0->To M w0 48 [(2,tb p1)] [] (Ret prog f138 M0 [] w0 (λ_=>[]) (λ_=>tb r) .ret):=by
  intro p1 he;subst he;simp only at h;obtain rfl:=sj h;exact QyX hpl
 refine Qy1 <|Qzb h0 (λ(s0:Int×Int)=>[(4,ti s0.1),(3,ti s0.2),(1,tptr (Qe.cs f_))]) (λ(s0:Int×Int)=>[]) [0,1,2] ?_;clear h;intro s0 o K1 h ho k1;refine QyY λ_ k2=>QyV [4,5,6,7] ?_;refine Qy0 h (λ_ h=>?_) (λ_ h=>?_)
 ·refine Qy2 <|k2 <|QyY λ_ k3=>Qy1 ?_;have⟨_,_,_,_,h⟩:=bs2 h;refine tIfs h [6,8,9,10] (λ_ h=>?_) (λ_ h=>?_)
  ·refine QyV [0] ?_;refine Qzd ?_;exact Qy4 J1 (ho _ (sj h).symm) [0]
  have⟨_,_,h⟩:=bs h;refine Qy6 [7,9,10] ?_;refine k3 <|Qy6 [2,3,4] ?_;exact Qy4 k1 ((sj h).symm) [0,1,2]
 refine Qy7 <|Qy4 J0 (ho _ (sj h).symm) [2,3]

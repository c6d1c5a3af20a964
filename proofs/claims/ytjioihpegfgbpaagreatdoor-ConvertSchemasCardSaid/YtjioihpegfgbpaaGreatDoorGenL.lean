/- The walk. No condition. -/
import Derived.Test.YtjioihpegfgbpaaGreatDoorGenK
set_option linter.all false
open List Go.Proofs.Tryz Go.IntKind
namespace Go.Proofs.YtjioihpegfgbpaaGreatDoor
noncomputable section
open Go.Sim
set_option maxRecDepth 100000
set_option maxHeartbeats 4000000
def Qb8 (x_:Qa) (o_:Qn) (p_:Qj):Option (Qa):=(QbM (Qa.mk x_.Version x_.Xa x_.Xd x_.Xc)).bind λt0=>(idx x_.Xa p_.kind).bind λr2=>(Qz (λ(s0:Int×List Qh)=>((if (decide (s0.1<(x_.Xa.length:Int)))=true then (idx s0.2 s0.1).bind λr3=>(Qz (λ(s1:Int×List Qh)=>((if (decide (s1.1<(r3.Xb.length:Int)))=true then ((idx s1.2 s0.1).bind λr4=>(idx r4.Xb s1.1).bind λr5=>(opt ((s0.1==p_.kind)==true) (idx s1.2 s0.1) default).bind λr6=>(opt ((s0.1==p_.kind)==true) (idx r6.Xb s1.1) default).bind λr7=>((if ((s0.1==p_.kind)&&(r7.Xh==4))=true then (idx s1.2 s0.1).bind λr8=>(idx r8.Xb s1.1).bind λr9=>(setAt r8.Xb s1.1 { r9 with Of:=Qfy r9.Of o_ }).bind λm1525=>(setAt s1.2 s0.1 { r8 with Xb:=m1525 }).bind λm1526=>(some m1526) else (some s1.2))).bind λp0=>(idx p0 s0.1).bind λr10=>(idx r10.Xb s1.1).bind λr11=>(opt ((r11.Xh !=7)==true) (idx p0 s0.1) default).bind λr12=>(opt ((r11.Xh !=7)==true) (idx r12.Xb s1.1) default).bind λr13=>(if ((r11.Xh !=7)&&(r13.Xh !=8))=true then (some p0) else ((if (s0.1==p_.kind)=true then (idx p0 s0.1).bind λr14=>(idx r14.Xb s1.1).bind λr15=>(setAt r14.Xb s1.1 { r15 with Up:=Qfy r15.Up o_ }).bind λm1519=>(setAt p0 s0.1 { r14 with Xb:=m1519 }).bind λm1520=>(some m1520) else (some p0))).bind λp1=>(Qdh (Qa.mk t0.Version t0.Xa t0.Xd t0.Xc) s0.1 s1.1).bind λt1=>((if (t1==p_.kind)=true then (idx p1 s0.1).bind λr16=>(idx r16.Xb s1.1).bind λr17=>(setAt r16.Xb s1.1 { r17 with Of:=Qfy r17.Of o_ }).bind λm1514=>(setAt p1 s0.1 { r16 with Xb:=m1514 }).bind λm1515=>(some m1515) else (some p1))).bind λp2=>(some p2))).bind λp3=>(some (.inl ((i64.wrap (s1.1+1)),p3))) else (some (.inr s1.2))):Option ((Int×List Qh)⊕((List Qh))))) ((0:Int),s0.2)).bind λp4=>(some (.inl ((i64.wrap (s0.1+1)),p4))) else (some (.inr s0.2))):Option ((Int×List Qh)⊕((List Qh))))) ((0:Int),x_.Xa)).bind λp5=>(Qz (λ(s2:Int×List Qm)=>((if (decide (s2.1<(x_.Xc.length:Int)))=true then (idx s2.2 s2.1).bind λr18=>(idx s2.2 s2.1).bind λr19=>((if (r19.Xh==r2.Xi)=true then (idx s2.2 s2.1).bind λr20=>(setAt s2.2 s2.1 { r20 with A:=Qfy r20.A o_ }).bind λm1192=>(idx m1192 s2.1).bind λr21=>(setAt m1192 s2.1 { r21 with B:=Qfy r21.B o_ }).bind λm1194=>(some m1194) else (some s2.2))).bind λp6=>(some (.inl ((i64.wrap (s2.1+1)),p6))) else (some (.inr s2.2))):Option ((Int×List Qm)⊕((List Qm))))) ((0:Int),x_.Xc)).bind λp7=>(idx p5 p_.kind).bind λr22=>(idx r22.Xb p_.field).bind λr23=>(setAt r22.Xb p_.field { r23 with Xi:=o_.Xi }).bind λm1172=>(setAt p5 p_.kind { r22 with Xb:=m1172 }).bind λm1173=>(some (Qa.mk x_.Version m1173 x_.Xd p7))
instance Qny:SpcS prog 229 (∀{q0:Value} {vh0_1:Value} {vh0_3:Value} {x_:Qa} {o_:Qn} {p_:Qj} {r:Qa},Qb8 x_ o_ p_=some r->FnOk prog 229 [tv q0,Qv.ty o_,Qi.ty p_] [box ([ti x_.Version,tvs (dh vh0_1),tsl Qo x_.Xd,tvs vh0_3]) q0,deep dF54 54 x_.Xa vh0_1,own Ql 62 x_.Xc vh0_3] (λ_=>[box (Qb.cs r) q0]) (λ_=>ttup [])):=.mk λ{q0 vh0_1 vh0_3 x_ o_ p_ r} h=>by
 unfold Qb8 at h
 refine Fe func229 ntmps229 λM0 M w0 hpl=>?_
 refine QyV [0,1,2] ?_
 have⟨t0,h0,h⟩:=bs h
 intro a w H
 refine sr mx [v1 3 (λv0=>deep dK67 54 t0.Xa (gh v0 0)),v1 3 (λv0=>deep dL91 59 t0.Xd (gh v0 1)),v1 3 (λv0=>own Ql 62 t0.Xc (gh v0 2)),v1 4 (λv0=>box (Qb.cs zz4) v0),v2 3 4 (λv0 v1=>box ([ti t0.Version,tvs (dh (gh v0 0)),tvs (dh (gh v0 1)),tvs (gh v0 2)]) v1)] H (λm0=>.q 2 rfl<|.u [0] rfl rfl (Qa5 z0)<|.u [0] rfl rfl (Qbm (R:=(rAgg ([ti x_.Version,tvs (dh vh0_1),tsl Qo x_.Xd,tvs vh0_3]) (Qk (QO rfl) (Qk QU (Qk QaH (Qk QU Q5)))))) (u:=()) (tokA QH (Qk (QO rfl) (Qk QU (Qk QaH (Qk QU Q5)))) rfl rfl) z0 rfl)<|.m [1,2] [3,4,5] rfl rfl rfl (Qjj [deep dF54 54 x_.Xa vh0_1,own Ql 62 x_.Xc vh0_3] Qrj (QhE.ok h0) (.cons (Qtr z0 (.head _) (.tail _ (.head _)))<|.nil) Qrr Qrs)<|.m [] [6] rfl rfl rfl (QV (R:=Qb) (a:=zz4) QH QdK)<|.e [] [6] [7] rfl rfl rfl rfl (QG (R:=(rAgg ([ti t0.Version,tvs (dh (gh (m0 3) 0)),tvs (dh (gh (m0 3) 1)),tvs (gh (m0 3) 2)]) (Qk (QO rfl) (Qk QU (Qk QU (Qk QU Q5)))))) (a:=()) (tokA QH (Qk (QO rfl) (Qk QU (Qk QU (Qk QU Q5)))) rfl rfl) z0 z1 (leb rfl))<|.n) λm0 a w H=>?_
 have H:=H.to [4,5,6,7] [_,_,_,_] [_,_,_,_,_,_,_] rfl rfl
 refine Qze H ?_
 refine QyY λ_ k0=>?_
 have⟨r2,h1,h⟩:=bs h
 intro a w H
 refine wr mx [] H (λ_=>.q 3 rfl<|.u [0] rfl rfl (Qa5 z0)<|.u [0] rfl rfl (QC QZ z0)<|.u [0] rfl rfl (QX (u:=(dh vh0_1)) Qa7 z0 rfl)<|.o (Qg Qa1 z6)<|.o (Qf (u:=p_.kind) tok3 z0 rfl)<|.u [1] rfl rfl (Qal ud23 Q6 z2 z0 h1)<|.u [1] rfl rfl (Qah Qgv z0 rfl h1)<|.u [1] rfl rfl (QaA (R2:=rS) (f:=r2.Xi) tok9 z0 h1 rfl)<|.o (Qc z0)<|.n) λ_ a w H=>?_
 have H:=H.to [3,9,10,11,12,13] [_,_,_,_,_,_] [_,_,_,_,_,_,_] rfl rfl
 refine Qzh H ?_
 refine k0 ?_
 refine QyV [1,2,3,4,5,6,7] ?_
 refine QyY λK0 k1=>?_
 intro a w H
 refine sr mx [] H (λ_=>.q 6 rfl<|.u [0] rfl rfl (Qa5 z0)<|.u [0] rfl rfl (QC QZ z0)<|.u [0] rfl rfl (QX (u:=(dh vh0_1)) Qa7 z0 rfl)<|.u [1] rfl rfl (Qlj ud23 z0)<|.o (QL .k)<|.n) λ_ a w H=>?_
 have H:=H.to [3,4,5,6,7,8,9,10,11,12] [_,_,_,_,_,_,_,_,_,_] [_,_,_,_,_,_,_] rfl rfl
 refine Qze H ?_
 refine Qy9 (As'':=[box ([ti t0.Version,tsl Qp t0.Xa,tvs (dh (gh (m0 3) 1)),tvs (gh (m0 3) 2)]) (m0 4),box ([ti x_.Version,tvs (dh vh0_1),tsl Qo x_.Xd,tvs vh0_3]) q0,deep dF54 54 x_.Xa vh0_1,own Ql 62 x_.Xc vh0_3,deep dL91 59 t0.Xd (gh (m0 3) 1),own Ql 62 t0.Xc (gh (m0 3) 2)]) (λ_ _ H=>((H.pick [0,1,2,3,4,5,6,7,8,9]).Xj [3,6,0,1,2,4,5] rfl).shareCD 1 rfl) ?_
 refine Qy9 (As'':=[box ([ti t0.Version,tsl Qp t0.Xa,tsl Qo t0.Xd,tvs (gh (m0 3) 2)]) (m0 4),box ([ti x_.Version,tvs (dh vh0_1),tsl Qo x_.Xd,tvs vh0_3]) q0,deep dF54 54 x_.Xa vh0_1,own Ql 62 x_.Xc vh0_3,own Ql 62 t0.Xc (gh (m0 3) 2)]) (λ_ _ H=>((H.pick [0,1,2,3,4,5,6,7,8,9]).Xj [4,0,1,2,3,5] rfl).shareCD 2 rfl) ?_
 refine Qy9 (As'':=[box (Qb.cs (Qa.mk t0.Version t0.Xa t0.Xd t0.Xc)) (m0 4),box ([ti x_.Version,tvs (dh vh0_1),tsl Qo x_.Xd,tvs vh0_3]) q0,deep dF54 54 x_.Xa vh0_1,own Ql 62 x_.Xc vh0_3]) (λ_ _ H=>((H.pick [0,1,2,3,4,5,6,7,8,9]).Xj [4,0,1,2,3] rfl).Xl 3 rfl) ?_
 have⟨e0,h2,h⟩:=bs h
 have J0:∀(p0:List Qh),p0=e0->To M w0 155 [(8,Qcc 244 [tptr (Qv.cs o_)]),(7,tv (.string (sB r2.Xi))),(4,tptr (Qv.cs o_)),(5,tptr (Qi.cs p_)),(0,tv q0)] [box ([ti x_.Version,tvs (dh vh0_1),tsl Qo x_.Xd,tvs vh0_3]) q0,deep dF54 54 p0 vh0_1,own Ql 62 x_.Xc vh0_3] K0:=by
  intro p0 he;subst he;refine k1 <|QyY λK1 k2=>QyV [3,4,5,6,7,8,9,10] ?_;have⟨e1,h3,h⟩:=bs h;have J1:∀(p1:List Qm),p1=e1->To M w0 155 [(4,tptr (Qv.cs o_)),(5,tptr (Qi.cs p_)),(0,tv q0)] [box ([ti x_.Version,tvs (dh vh0_1),tsl Qo x_.Xd,tvs vh0_3]) q0,deep dF54 54 p0 vh0_1,own Ql 62 p1 vh0_3] K1:=by
   intro p1 he;subst he;refine k2 ?_;have⟨r3,h4,r4,h5,m1172,hm1172,m1173,hm1173,h⟩:=bs4 h;intro a w H;refine wr mx [v0 (deep dF54 54 m1173 vh0_1)] H (λ_=>.q 2 rfl<|.u [0] rfl rfl (Qa5 z0)<|.u [0] rfl rfl (QC QZ z0)<|.u [0] rfl rfl (QX (u:=(dh vh0_1)) Qa7 z0 rfl)<|.o (Qg Qa1 z5)<|.o (Qf (u:=p_.kind) tok3 z0 rfl)<|.u [1] rfl rfl (Qal ud23 Q6 z2 z0 h4)<|.u [1] rfl rfl (Qah Qaf z0 rfl h4)<|.u [1] rfl rfl (Qbt (QaA (R2:=rVal) (f:=dh (ds vh0_1 (p_.kind).toNat)) Qbe z0 h4 rfl) (λ_ _ _ _ h=>h.1))<|.o (Qg QdD z10)<|.o (Qf (u:=p_.field) tok3 z0 rfl)<|.o (Qg Qlp z11)<|.o (Qf (u:=o_.Xi) tok9 z0 rfl)<|.u [1] rfl rfl (.part (Qaj h4 .refl) (Qar ud52 Q4 z4 z2 h5))<|.u [1] rfl rfl (.part (Qaj h4 .refl) (Qas QeY z0 (Qav h5)))<|.e [] [1] [3] rfl rfl rfl rfl (.focus (QcY h4 hm1173 (.refl λ_=>Iff.rfl)) (QaT (u:={ r4 with Xi:=o_.Xi }) tok9 z0 z2 h5 hm1172 (leb rfl) rfl))<|.n) λ_ a w H=>?_;have H:=H.t2_3 [3,17];replace H:St _ _ _ [_] [_,_] _ _:=((H.pick [1]).Xj [2,0,1] rfl).shareCD 1 rfl;replace H:St _ _ _ [_] [_] _ _:=((H.pick [0]).Xj [1,0] rfl).Xl 3 rfl;refine Qzh H ?_;obtain rfl:=sj h;exact QBP undef [0] hpl
  refine Qy1 <|Qzb h3 (λ(s0:Int×List Qm)=>[(113,ti (x_.Xc.length:Int)),(114,ti s0.1),(8,Qcc 244 [tptr (Qv.cs o_)]),(7,tv (.string (sB r2.Xi))),(4,tptr (Qv.cs o_)),(5,tptr (Qi.cs p_)),(0,tv q0)]) (λ(s0:Int×List Qm)=>[box ([ti x_.Version,tvs (dh vh0_1),tsl Qo x_.Xd,tvs vh0_3]) q0,deep dF54 54 p0 vh0_1,own Ql 62 s0.2 vh0_3]) [1,2,3,4,5,6,7] ?_;clear h;intro s0 o K2 h ho k3;refine QyV [0,1,2,3,4,5,6,7] ?_;refine QyY λ_ k4=>Qy0 h (λ_ h=>?_) (λ_ h=>?_)
  ·refine Qy2 <|k4 <|QyY λK3 k5=>Qy1 <|QyV [1,3,4,5,6,7,8,9] ?_;refine QyY λ_ k6=>?_;have⟨r5,h6,h⟩:=bs h;refine Qy6 [3,6,8,9,10,11,12,13,14] ?_;refine k6 <|QyY λ_ k7=>?_;have⟨r6,h7,h⟩:=bs h;intro a w H;refine wr mx [] H (λ_=>.q 1 rfl<|.u [2] rfl rfl (QdU z0 (Qav h7))<|.u [2] rfl rfl (Qas Qht z0 (Qav h7))<|.u [2] rfl rfl (Qb0 (R2:=rS) (f:=r6.Xh) tok9 z0 h7 rfl)<|.q 9 rfl<|.o (QdB z1 z0)<|.n) λ_ a w H=>?_;have H:=H.to [5,6,7,8,9,10,11,12,13,14] [_,_,_,_,_,_,_,_,_,_] [_,_,_] rfl rfl;refine Qzh H ?_;refine k7 ?_;have⟨p2,h8,h⟩:=bs h;have J2:To M w0 155 [(113,ti (x_.Xc.length:Int)),(114,ti s0.1),(8,Qcc 244 [tptr (Qv.cs o_)]),(7,tv (.string (sB r2.Xi))),(4,tptr (Qv.cs o_)),(5,tptr (Qi.cs p_)),(0,tv q0)] [box ([ti x_.Version,tvs (dh vh0_1),tsl Qo x_.Xd,tvs vh0_3]) q0,deep dF54 54 p0 vh0_1,own Ql 62 p2 vh0_3] K3:=by
    refine k5 <|Qy6 [1,2,3,4,5,6,7] ?_;exact Qy4 k3 ((sj h).symm) [1,0,2,3,4,5,6]
   replace h:=h8;clear h8;refine Qy0 h (λ_ h=>?_) (λ_ h=>?_)
   ·refine QyY λ_ k8=>?_;have⟨r7,h9,m1192,hm1192,h⟩:=bs2 h;intro a w H;refine wr mx [v0 (own Ql 62 m1192 vh0_3)] H (λ_=>.q 5 rfl<|.q 3 rfl<|.u [2] rfl rfl (QdU z0 (Qav h9))<|.u [2] rfl rfl (Qas Qil z0 (Qav h9))<|.e [] [2] [3] rfl rfl rfl rfl (Qcz Qlq (Qdw (u:={ r7 with A:=Qfy r7.A o_ }) (s:=r7.A) h9 hm1192 (leb rfl) rfl rfl) z3 (.cons (.of z0)<|.nil))<|.n) λ_ a w H=>?_;have H:=H.to [6,7,8,9,10,11,12,13,14] [_,_,_,_,_,_,_,_,_] [_,_,_] rfl rfl;refine Qzh H ?_;refine k8 ?_;have⟨r8,h10,m1194,hm1194,h⟩:=bs2 h;intro a w H;refine wr mx [v0 (own Ql 62 m1194 vh0_3)] H (λ_=>.q 4 rfl<|.q 2 rfl<|.u [2] rfl rfl (QdU z0 (Qav h10))<|.u [2] rfl rfl (Qas Qim z0 (Qav h10))<|.e [] [2] [3] rfl rfl rfl rfl (Qcz Qlq (Qdw (u:={ r8 with B:=Qfy r8.B o_ }) (s:=r8.B) h10 hm1194 (leb rfl) rfl rfl) z3 (.cons (.of z0)<|.nil))<|.n) λ_ a w H=>?_;have H:=H.to [5,7,8,9,10,11,12,13] [_,_,_,_,_,_,_,_] [_,_,_] rfl rfl;refine Qzh H ?_;obtain rfl:=sj h;exact Qy3 J2 [1,2,3,4,5,6,7]
   refine Qy2 ?_;obtain rfl:=sj h;exact Qy3 J2 [3,4,5,6,7,8,9]
  refine Qy7 <|Qy4 J1 (ho _ (sj h).symm) [5,6,7]
 refine Qy1 <|Qzb h2 (λ(s1:Int×List Qh)=>[(32,ti (x_.Xa.length:Int)),(33,ti s1.1),(8,Qcc 244 [tptr (Qv.cs o_)]),(7,tv (.string (sB r2.Xi))),(6,tv (m0 4)),(4,tptr (Qv.cs o_)),(5,tptr (Qi.cs p_)),(0,tv q0)]) (λ(s1:Int×List Qh)=>[box (Qb.cs (Qa.mk t0.Version t0.Xa t0.Xd t0.Xc)) (m0 4),box ([ti x_.Version,tvs (dh vh0_1),tsl Qo x_.Xd,tvs vh0_3]) q0,deep dF54 54 s1.2 vh0_1,own Ql 62 x_.Xc vh0_3]) [1,2,3,5,6,7,8,9] ?_;clear h;intro s1 o K4 h ho k9;refine QyV [0,1,2,3,4,5,6,7,8] ?_;refine QyY λ_ k10=>Qy0 h (λ_ h=>?_) (λ_ h=>?_)
 ·refine Qy2 <|k10 <|QyY λK5 k11=>Qy1 <|QyV [1,3,4,5,6,7,8,9,10] ?_;refine QyY λ_ k12=>?_;have⟨r9,h11,h⟩:=bs h;intro a w H;refine wr mx [] H (λ_=>.q 8 rfl<|.u [1] rfl rfl (Qa5 z0)<|.u [1] rfl rfl (QC QZ z0)<|.u [1] rfl rfl (QX (u:=(dh vh0_1)) Qa7 z0 rfl)<|.q 4 rfl<|.u [2] rfl rfl (Qal ud23 Q6 z1 z0 h11)<|.u [2] rfl rfl (Qah Qaf z0 rfl h11)<|.u [2] rfl rfl (Qbt (QaA (R2:=rVal) (f:=dh (ds vh0_1 (s1.1).toNat)) Qbe z0 h11 rfl) (λ_ _ _ _ h=>h.1))<|.u [2] rfl rfl (.part (Qaj h11 .refl) (Qdn ud52 z0))<|.o (QL .k)<|.n) λ_ a w H=>?_;have H:=H.to [3,8,9,10,11,12,13,14,15,16,17,18] [_,_,_,_,_,_,_,_,_,_,_,_] [_,_,_,_] rfl rfl;refine Qzh H ?_;refine k12 ?_;have⟨e2,h12,h⟩:=bs h;have J3:∀(p3:List Qh),p3=e2->To M w0 155 [(32,ti (x_.Xa.length:Int)),(33,ti s1.1),(8,Qcc 244 [tptr (Qv.cs o_)]),(7,tv (.string (sB r2.Xi))),(6,tv (m0 4)),(4,tptr (Qv.cs o_)),(5,tptr (Qi.cs p_)),(0,tv q0)] [box (Qb.cs (Qa.mk t0.Version t0.Xa t0.Xd t0.Xc)) (m0 4),box ([ti x_.Version,tvs (dh vh0_1),tsl Qo x_.Xd,tvs vh0_3]) q0,deep dF54 54 p3 vh0_1,own Ql 62 x_.Xc vh0_3] K5:=by
   intro p3 he;subst he;refine k11 <|Qy6 [1,2,3,4,5,6,7,8] ?_;exact Qy4 k9 ((sj h).symm) [1,0,2,3,4,5,6,7]
  refine Qy1 <|Qzb h12 (λ(s2:Int×List Qh)=>[(44,ti (r9.Xb.length:Int)),(45,ti s2.1),(9,ti s1.1),(32,ti (x_.Xa.length:Int)),(33,ti s1.1),(8,Qcc 244 [tptr (Qv.cs o_)]),(7,tv (.string (sB r2.Xi))),(6,tv (m0 4)),(4,tptr (Qv.cs o_)),(5,tptr (Qi.cs p_)),(0,tv q0)]) (λ(s2:Int×List Qh)=>[box (Qb.cs (Qa.mk t0.Version t0.Xa t0.Xd t0.Xc)) (m0 4),box ([ti x_.Version,tvs (dh vh0_1),tsl Qo x_.Xd,tvs vh0_3]) q0,deep dF54 54 s2.2 vh0_1,own Ql 62 x_.Xc vh0_3]) [1,2,3,4,5,6,7,8,9,10,11] ?_;clear h;intro s2 o K6 h ho k13;refine QyV [0,1,2,3,4,5,6,7,8,9,10,11] ?_;refine QyY λ_ k14=>Qy0 h (λ_ h=>?_) (λ_ h=>?_)
  ·refine Qy2 <|k14 <|QyY λK7 k15=>?_;have⟨p4,h13,h⟩:=bs h;have J4:To M w0 155 [(44,ti (r9.Xb.length:Int)),(45,ti s2.1),(9,ti s1.1),(32,ti (x_.Xa.length:Int)),(33,ti s1.1),(8,Qcc 244 [tptr (Qv.cs o_)]),(7,tv (.string (sB r2.Xi))),(6,tv (m0 4)),(4,tptr (Qv.cs o_)),(5,tptr (Qi.cs p_)),(0,tv q0)] [box (Qb.cs (Qa.mk t0.Version t0.Xa t0.Xd t0.Xc)) (m0 4),box ([ti x_.Version,tvs (dh vh0_1),tsl Qo x_.Xd,tvs vh0_3]) q0,own Ql 62 x_.Xc vh0_3,deep dF54 54 p4 vh0_1] K7:=by
    refine k15 <|Qy6 [1,2,3,4,5,6,7,8,9,10,11] ?_;refine Qzc (λ_ _ H=>(H.pick [1,0,2,3,4,5,6,7,8,9,10]).Xj [0,1,3,2] rfl) ?_;exact Qy4 k13 ((sj h).symm) [0,1,2,3,4,5,6,7,8,9,10]
   replace h:=h13;clear h13;refine Qy1 <|QyV [1,3,4,5,6,7,8,9,10,11,12,13] ?_;refine QyY λ_ k16=>?_;have⟨r10,h14,r11,h15,h⟩:=bs2 h;intro a w H;refine wr mx [] H (λ_=>.q 11 rfl<|.u [1] rfl rfl (Qa5 z0)<|.u [1] rfl rfl (QC QZ z0)<|.u [1] rfl rfl (QX (u:=(dh vh0_1)) Qa7 z0 rfl)<|.q 7 rfl<|.u [2] rfl rfl (Qal ud23 Q6 z1 z0 h14)<|.u [2] rfl rfl (Qah Qaf z0 rfl h14)<|.u [2] rfl rfl (Qbt (QaA (R2:=rVal) (f:=dh (ds vh0_1 (s1.1).toNat)) Qbe z0 h14 rfl) (λ_ _ _ _ h=>h.1))<|.q 8 rfl<|.u [2] rfl rfl (.part (Qaj h14 .refl) (Qar ud52 Q4 z1 z0 h15))<|.o (Qc z0)<|.n) λ_ a w H=>?_;have H:=H.to [3,10,11,12,13,14,15,16,17,18,19,20,21,22] [_,_,_,_,_,_,_,_,_,_,_,_,_,_] [_,_,_,_] rfl rfl;refine Qzh H ?_;refine k16 <|QyY λK8 k17=>QyY λ_ k18=>?_;have⟨r12,h16,r13,h17,h⟩:=bs2 h;intro a w H;refine wr mx [] H (λ_=>.q 5 rfl<|.o (Qg Qa1 z13)<|.o (Qf (u:=p_.kind) tok3 z0 rfl)<|.o (Qau z2 z0)<|.q 0 rfl<|.g rfl rfl bq0 (λ_=>QL z6)<|.gu [2] rfl rfl rfl bq1 (λhc=>.part (Qaj (QaZ h16 hc) .refl) (QdU (.cond z0 hc) (Qav (QaZ h17 hc))))<|.gu [2] rfl rfl rfl bq2 (λhc=>.part (Qaj (QaZ h16 hc) .refl) (Qas QbY (.cond z0 hc) (Qav (QaZ h17 hc))))<|.gu [2] rfl rfl rfl bq3 (λhc=>.part (Qaj (QaZ h16 hc) .refl) (Qb0 (R2:=rI) (f:=r13.Xh) tok3 (.cond z0 hc) (QaZ h17 hc) rfl))<|.g rfl rfl bq4 (λhc=>Qau (.cond z0 hc) .k)<|.o (Qby z5 (λhp=>(.cond z0 (beqT hp))))<|.n) λ_ a w H=>?_;have H:=H.to [10,11,12,13,14,15,16,17,18,19,20,21,22,23,24] [_,_,_,_,_,_,_,_,_,_,_,_,_,_,_] [_,_,_,_] rfl rfl;refine Qzh H ?_;refine k18 ?_;have⟨p5,h18,h⟩:=bs h;have J5:To M w0 155 [(11,tv (QaX (dh (ds vh0_1 (s1.1).toNat)) ((s2.1).toNat * Qe.n))),(10,ti s2.1),(44,ti (r9.Xb.length:Int)),(45,ti s2.1),(9,ti s1.1),(32,ti (x_.Xa.length:Int)),(33,ti s1.1),(8,Qcc 244 [tptr (Qv.cs o_)]),(7,tv (.string (sB r2.Xi))),(6,tv (m0 4)),(4,tptr (Qv.cs o_)),(5,tptr (Qi.cs p_)),(0,tv q0)] [box (Qb.cs (Qa.mk t0.Version t0.Xa t0.Xd t0.Xc)) (m0 4),box ([ti x_.Version,tvs (dh vh0_1),tsl Qo x_.Xd,tvs vh0_3]) q0,own Ql 62 x_.Xc vh0_3,deep dF54 54 p5 vh0_1] K8:=by
    refine k17 <|QyY λ_ k19=>QyY λ_ k20=>?_;have⟨r14,h19,r15,h20,r16,h21,r17,h22,h⟩:=bs4 h;intro a w H;refine wr mx [] H (λ_=>.q 0 rfl<|.u [3] rfl rfl (.part (Qaj h19 .refl) (QdU z0 (Qav h20)))<|.u [3] rfl rfl (.part (Qaj h19 .refl) (Qas QbY z0 (Qav h20)))<|.u [3] rfl rfl (.part (Qaj h19 .refl) (Qb0 (R2:=rI) (f:=r15.Xh) tok3 z0 h20 rfl))<|.o (QaI z0 .k)<|.q 0 rfl<|.g rfl rfl bq0 (λ_=>QL z6)<|.gu [3] rfl rfl rfl bq1 (λhc=>.part (Qaj (QaZ h21 hc) .refl) (QdU (.cond z0 hc) (Qav (QaZ h22 hc))))<|.gu [3] rfl rfl rfl bq2 (λhc=>.part (Qaj (QaZ h21 hc) .refl) (Qas QbY (.cond z0 hc) (Qav (QaZ h22 hc))))<|.gu [3] rfl rfl rfl bq3 (λhc=>.part (Qaj (QaZ h21 hc) .refl) (Qb0 (R2:=rI) (f:=r17.Xh) tok3 (.cond z0 hc) (QaZ h22 hc) rfl))<|.g rfl rfl bq4 (λhc=>QaI (.cond z0 hc) .k)<|.o (Qby z5 (λhp=>(.cond z0 (beqT hp))))<|.n) λ_ a w H=>?_;have H:=H.to [11,12,13,14,15,16,17,18,19,20,21,22,23,24] [_,_,_,_,_,_,_,_,_,_,_,_,_,_] [_,_,_,_] rfl rfl;refine Qzh H ?_;refine k20 <|Qy0 h (λ_ h=>?_) (λ_ h=>?_)
    ·refine Qy7 ?_;obtain rfl:=sj h;exact Qy3 J4 [3,4,5,6,7,8,9,10,11,12,13]
    refine Qy2 <|k19 <|QyY λK9 k21=>QyV [3,5,6,7,8,9,10,11,12,13,14,15,16,17] ?_;have⟨p6,h23,h⟩:=bs h;have J6:To M w0 155 [(11,tv (QaX (dh (ds vh0_1 (s1.1).toNat)) ((s2.1).toNat * Qe.n))),(10,ti s2.1),(44,ti (r9.Xb.length:Int)),(45,ti s2.1),(9,ti s1.1),(32,ti (x_.Xa.length:Int)),(33,ti s1.1),(8,Qcc 244 [tptr (Qv.cs o_)]),(7,tv (.string (sB r2.Xi))),(6,tv (m0 4)),(4,tptr (Qv.cs o_)),(5,tptr (Qi.cs p_)),(0,tv q0)] [box (Qb.cs (Qa.mk t0.Version t0.Xa t0.Xd t0.Xc)) (m0 4),box ([ti x_.Version,tvs (dh vh0_1),tsl Qo x_.Xd,tvs vh0_3]) q0,own Ql 62 x_.Xc vh0_3,deep dF54 54 p6 vh0_1] K9:=by
     refine k21 ?_;have⟨_,_,h⟩:=bs h;refine QyV [6,7,9,10,11,12,13,14,15,16,17,18,19] ?_;have⟨p7,h24,h⟩:=bs h;have J7:To M w0 155 [(44,ti (r9.Xb.length:Int)),(45,ti s2.1),(9,ti s1.1),(32,ti (x_.Xa.length:Int)),(33,ti s1.1),(8,Qcc 244 [tptr (Qv.cs o_)]),(7,tv (.string (sB r2.Xi))),(6,tv (m0 4)),(4,tptr (Qv.cs o_)),(5,tptr (Qi.cs p_)),(0,tv q0)] [box (Qb.cs (Qa.mk t0.Version t0.Xa t0.Xd t0.Xc)) (m0 4),box ([ti x_.Version,tvs (dh vh0_1),tsl Qo x_.Xd,tvs vh0_3]) q0,own Ql 62 x_.Xc vh0_3,deep dF54 54 p7 vh0_1] K7:=by
      obtain rfl:=sj h;exact Qy3 J4 [0,1,2,3,4,5,6,7,8,9,10]
     replace h:=h24;clear h24;refine Qy0 h (λ_ h=>?_) (λ_ h=>?_)
     ·have⟨r18,h25,r19,h26,m1514,hm1514,m1515,hm1515,h⟩:=bs4 h;intro a w H;refine wr mx [v0 (deep dF54 54 m1515 vh0_1)] H (λ_=>.q 7 rfl<|.q 2 rfl<|.u [3] rfl rfl (.part (Qaj h25 .refl) (QdU z0 (Qav h26)))<|.u [3] rfl rfl (.part (Qaj h25 .refl) (Qas Qio z0 (Qav h26)))<|.e [] [3] [4] rfl rfl rfl rfl (.focus (QcY h25 hm1515 (.refl λ_=>Iff.rfl)) (Qcz Qlq (Qdw (u:={ r19 with Of:=Qfy r19.Of o_ }) (s:=r19.Of) h26 hm1514 (leb rfl) rfl rfl) z3 (.cons (.of z0)<|.nil)))<|.n) λ_ a w H=>?_;have H:=H.to [7,8,9,10,11,12,13,14,15,16,17] [_,_,_,_,_,_,_,_,_,_,_] [_,_,_,_] rfl rfl;refine Qzh H ?_;obtain rfl:=sj h;exact Qy3 J7 [0,1,2,3,4,5,6,7,8,9,10]
     refine Qy2 ?_;obtain rfl:=sj h;exact Qy3 J7 [2,3,4,5,6,7,8,9,10,11,12]
    replace h:=h23;clear h23;refine Qy0 h (λ_ h=>?_) (λ_ h=>?_)
    ·have⟨r20,h27,r21,h28,m1519,hm1519,m1520,hm1520,h⟩:=bs4 h;intro a w H;refine wr mx [v0 (deep dF54 54 m1520 vh0_1)] H (λ_=>.q 8 rfl<|.q 2 rfl<|.u [3] rfl rfl (.part (Qaj h27 .refl) (QdU z0 (Qav h28)))<|.u [3] rfl rfl (.part (Qaj h27 .refl) (Qas Qlo z0 (Qav h28)))<|.e [] [3] [4] rfl rfl rfl rfl (.focus (QcY h27 hm1520 (.refl λ_=>Iff.rfl)) (Qcz Qlq (Qdw (u:={ r21 with Up:=Qfy r21.Up o_ }) (s:=r21.Up) h28 hm1519 (leb rfl) rfl rfl) z3 (.cons (.of z0)<|.nil)))<|.n) λ_ a w H=>?_;have H:=H.to [6,7,8,9,10,11,12,13,14,15,16,17,18] [_,_,_,_,_,_,_,_,_,_,_,_,_] [_,_,_,_] rfl rfl;refine Qzh H ?_;obtain rfl:=sj h;exact Qy3 J6 [0,1,2,3,4,5,6,7,8,9,10,11,12]
    refine Qy2 ?_;obtain rfl:=sj h;exact Qy3 J6 [1,2,3,4,5,6,7,8,9,10,11,12,13]
   replace h:=h18;clear h18;refine Qy0 h (λ_ h=>?_) (λ_ h=>?_)
   ·have⟨r22,h29,r23,h30,m1525,hm1525,m1526,hm1526,h⟩:=bs4 h;intro a w H;refine wr mx [v0 (deep dF54 54 m1526 vh0_1)] H (λ_=>.q 9 rfl<|.q 3 rfl<|.u [2] rfl rfl (.part (Qaj h29 .refl) (QdU z0 (Qav h30)))<|.u [2] rfl rfl (.part (Qaj h29 .refl) (Qas Qio z0 (Qav h30)))<|.e [] [2] [4] rfl rfl rfl rfl (.focus (QcY h29 hm1526 (.refl λ_=>Iff.rfl)) (Qcz Qlq (Qdw (u:={ r23 with Of:=Qfy r23.Of o_ }) (s:=r23.Of) h30 hm1525 (leb rfl) rfl rfl) z3 (.cons (.of z0)<|.nil)))<|.n) λ_ a w H=>?_;have H:=H.to [6,7,8,9,10,11,12,13,14,15,16,17,18,19] [_,_,_,_,_,_,_,_,_,_,_,_,_,_] [_,_,_,_] rfl rfl;refine Qzh H ?_;obtain rfl:=sj h;exact Qy3 J5 [1,2,3,4,5,6,7,8,9,10,11,12,13]
   refine Qy2 ?_;obtain rfl:=sj h;refine Qzc (λ_ _ H=>(H.pick [2,3,4,5,6,7,8,9,10,11,12,13,14]).Xj [0,1,3,2] rfl) ?_;exact Qy3 J5 [0,1,2,3,4,5,6,7,8,9,10,11,12]
  refine Qy7 <|Qy4 J3 (ho _ (sj h).symm) [4,5,6,7,8,9,10,11]
 refine Qy7 <|Qzc (λ_ _ H=>(H.pick [3,4,6,7,8]).Xj [1,2,3] rfl) ?_;exact Qy4 J0 (ho _ (sj h).symm) [0,1,2,3,4]
def Qbn (x_:Qa) (o_:Qn) (p_:Qj):Option (Qa):=(idx x_.Xa p_.kind).bind λr2=>(idx r2.Xb p_.field).bind λr3=>(idx x_.Xa p_.kind).bind λr4=>(idx r4.Xb p_.field).bind λr5=>(setAt r4.Xb p_.field { r5 with Lo:=(i64.wrap ((i64.wrap (r5.Lo * o_.N))+o_.M)) }).bind λm10=>(setAt x_.Xa p_.kind { r4 with Xb:=m10 }).bind λm11=>(idx m11 p_.kind).bind λr6=>(idx r6.Xb p_.field).bind λr7=>(setAt r6.Xb p_.field { r7 with Hi:=(i64.wrap ((i64.wrap (r5.Hi * o_.N))+o_.M)) }).bind λm14=>(setAt m11 p_.kind { r6 with Xb:=m14 }).bind λm15=>(some (Qa.mk x_.Version m15 x_.Xd x_.Xc))
instance QmV:SpcS prog 232 (∀{q0:Value} {vh0_1:Value} {vh0_3:Value} {x_:Qa} {o_:Qn} {p_:Qj} {r:Qa},Qbn x_ o_ p_=some r->FnOk prog 232 [tv q0,Qv.ty o_,Qi.ty p_] [box ([ti x_.Version,tvs (dh vh0_1),tsl Qo x_.Xd,tvs vh0_3]) q0,deep dF54 54 x_.Xa vh0_1,own Ql 62 x_.Xc vh0_3] (λ_=>[box (Qb.cs r) q0]) (λ_=>ttup [])):=.mk λ{q0 vh0_1 vh0_3 x_ o_ p_ r} h=>by
 unfold Qbn at h
 refine Fe func232 ntmps232 λM0 M w0 hpl=>?_
 refine QyV [0,1,2] ?_
 refine QyY λ_ k0=>?_
 have⟨r2,h0,r3,h1,h⟩:=bs2 h
 intro a w H
 refine wr mx [] H (λ_=>.q 2 rfl<|.u [0] rfl rfl (Qa5 z0)<|.u [0] rfl rfl (QC QZ z0)<|.u [0] rfl rfl (QX (u:=(dh vh0_1)) Qa7 z0 rfl)<|.o (Qg Qa1 z5)<|.o (Qf (u:=p_.kind) tok3 z0 rfl)<|.u [1] rfl rfl (Qal ud23 Q6 z2 z0 h0)<|.u [1] rfl rfl (Qah Qaf z0 rfl h0)<|.u [1] rfl rfl (Qbt (QaA (R2:=rVal) (f:=dh (ds vh0_1 (p_.kind).toNat)) Qbe z0 h0 rfl) (λ_ _ _ _ h=>h.1))<|.o (Qg QdD z10)<|.o (Qf (u:=p_.field) tok3 z0 rfl)<|.u [1] rfl rfl (.part (Qaj h0 .refl) (Qar ud52 Q4 z2 z0 h1))<|.o (Qc z0)<|.n) λ_ a w H=>?_
 have H:=H.t4_3 [3,12,13,15]
 refine Qzh H ?_
 refine k0 ?_
 have⟨r4,h2,r5,h3,m10,hm10,m11,hm11,h⟩:=bs4 h
 have⟨r6,h4,r7,h5,m14,hm14,m15,hm15,h⟩:=bs4 h
 intro a w H
 refine wr mx [v0 (deep dF54 54 m11 vh0_1),v0 (deep dF54 54 m15 vh0_1)] H (λ_=>.q 1 rfl<|.q 2 rfl<|.q 3 rfl<|.u [1] rfl rfl (.part (Qaj h2 .refl) (QdU z0 (Qav h3)))<|.u [1] rfl rfl (.part (Qaj h2 .refl) (Qas Qip z0 (Qav h3)))<|.u [1] rfl rfl (.part (Qaj h2 .refl) (Qb0 (R2:=rI) (f:=r5.Lo) tok3 z0 h3 rfl))<|.o (Qg Qgy z8)<|.o (Qf (u:=o_.N) tok3 z0 rfl)<|.o (Qlb z2 z0)<|.o (Qg Qiq z11)<|.o (Qf (u:=o_.M) tok3 z0 rfl)<|.o (Qab z2 z0)<|.q 13 rfl<|.u [1] rfl rfl (.part (Qaj h2 .refl) (QdU z0 (Qav h3)))<|.u [1] rfl rfl (.part (Qaj h2 .refl) (Qas QiV z0 (Qav h3)))<|.u [1] rfl rfl (.part (Qaj h2 .refl) (Qb0 (R2:=rI) (f:=r5.Hi) tok3 z0 h3 rfl))<|.o (Qg Qgy z18)<|.o (Qf (u:=o_.N) tok3 z0 rfl)<|.o (Qlb z2 z0)<|.o (Qg Qiq z21)<|.o (Qf (u:=o_.M) tok3 z0 rfl)<|.o (Qab z2 z0)<|.u [1] rfl rfl (.part (Qaj h2 .refl) (QdU z21 (Qav h3)))<|.u [1] rfl rfl (.part (Qaj h2 .refl) (Qas Qip z0 (Qav h3)))<|.e [] [1] [3] rfl rfl rfl rfl (.focus (QcY h2 hm11 (.refl λ_=>Iff.rfl)) (QaT (u:={ r5 with Lo:=(i64.wrap ((i64.wrap (r5.Lo * o_.N))+o_.M)) }) tok3 z0 z12 h3 hm10 (leb rfl) rfl))<|.u [3] rfl rfl (.part (Qaj h4 .refl) (QdU z22 (Qav h5)))<|.u [3] rfl rfl (.part (Qaj h4 .refl) (Qas QiV z0 (Qav h5)))<|.e [] [3] [4] rfl rfl rfl rfl (.focus (QcY h4 hm15 (.refl λ_=>Iff.rfl)) (QaT (u:={ r7 with Hi:=(i64.wrap ((i64.wrap (r5.Hi * o_.N))+o_.M)) }) tok3 z0 z4 h5 hm14 (leb rfl) rfl))<|.n) λ_ a w H=>?_
 have H:=H.t2_3 [26,29]
 replace H:St _ _ _ [_] [_,_] _ _:=((H.pick [1]).Xj [2,0,1] rfl).shareCD 1 rfl
 replace H:St _ _ _ [_] [_] _ _:=((H.pick [0]).Xj [1,0] rfl).Xl 3 rfl
 refine Qzh H ?_
 obtain rfl:=sj h
 exact QBP undef [0] hpl
def Qck (x_:Qa) (o_:Qn) (p_:Qj):Option Qa:=(idx x_.Xa p_.kind).bind λk=>(idx k.Xb p_.field).bind λf=>(rm (f.Words.length+1)).bind λ_=>(rm (f.Xf.length+1)).bind λ_=>(setAt k.Xb p_.field { f with Words:=f.Words++[o_.Xi],Xf:=f.Xf++[o_.N] }).bind λfs=>(setAt x_.Xa p_.kind { k with Xb:=fs }).bind λks=>some { x_ with Xa:=ks }
instance QmW:SpcS prog 236 (∀{q_ g1 g3:Value} {x_:Qa} {o_:Qn} {p_:Qj} {r:Qa},Qck x_ o_ p_=some r->FnOk prog 236 [tv q_,Qv.ty o_,Qi.ty p_] [box ([ti x_.Version,tvs (dh g1),tsl Qo x_.Xd,tvs g3]) q_,deep dK67 54 x_.Xa g1,own Ql 62 x_.Xc g3] (λ_=>[box (Qb.cs r) q_]) (λ_=>ttup [])):=.mk λ{q_ g1 g3 x_ o_ p_ r} h=>by
 unfold Qck at h
 have⟨k,hk,f,hf,u0,h0,u1,h1,h⟩:=bs4 h
 have⟨fs,hfs,ks,hks,h⟩:=bs2 h
 obtain rfl:=sj h
 clear h
 refine fe func236 ntmps236 λM0 M w0 a hpl H=>?_
 refine wp_seq_k (λK0 k0=>?_)
 refine wr mx [] H (λ_=>.o (Q9 (R:=Qv) (u:=o_) z1)<|.o (Q9 (R:=Qi) (u:=p_) z3)<|.n) λ_ a w H=>?_
 have H:=H.to [0,1,2] [_,_,_] [_,_,_] rfl rfl
 refine k0 _ _ ?_
 clear k0 K0
 refine wp_seq_k (λK0 k0=>?_)
 refine wr mx [] H (λ_=>.q 2 rfl<|.u [0] rfl rfl (Qa5 z0)<|.u [0] rfl rfl (QC QZ z0)<|.u [0] rfl rfl (QX (u:=(dh g1)) Qa7 z0 rfl)<|.o (Qg Qa1 z5)<|.o (Qf (u:=p_.kind) tok3 z0 rfl)<|.u [1] rfl rfl (Qal ud23 Q6 z2 z0 hk)<|.u [1] rfl rfl (Qah Qaf z0 rfl hk)<|.u [1] rfl rfl (Qbt (QaA (R2:=rVal) (f:=(dh (ds g1 (p_.kind).toNat))) Qbe z0 hk rfl) (λ_ _ _ _ h=>h.1))<|.o (Qg QdD z10)<|.o (Qf (u:=p_.field) tok3 z0 rfl)<|.u [1] rfl rfl (.part (Qaj hk .refl) (Qal (D:=dW70) ud52 Q4 z2 z0 hf))<|.o (Qc z0)<|.n) λ_ a w H=>?_
 have H:=H.t2_3 [12,13]
 refine k0 _ _ ?_
 clear k0 K0
 replace H:=(H.Xj [1,0,2] rfl).openD hk
 replace H:=(St.openD (D:=dW70) hf H).unjoin
 replace H:St _ _ _ [_,_] [_,_,_,_,_,_] _ _:=H
 have hlt:(p_.field).toNat<k.Xb.length:=(QcG hf).2.1
 have e0:∀v v',dW70.cs f (dmk nilV [dmk v [],dmk v' []])=splice (dW70.cs f (ds (dset k.Xb.length (ds g1 (p_.kind).toNat) (p_.field).toNat (dmk nilV [dmk v [],ds (ds (ds g1 (p_.kind).toNat) (p_.field).toNat) 1])) (p_.field).toNat)) 7 [tvs v']:=λv v'=>by rw[QeW hlt];rfl
 have e1:∀v,rVal.cs (dh (ds (ds (ds g1 (p_.kind).toNat) (p_.field).toNat) 1))=((dW70.cs f (ds (dset k.Xb.length (ds g1 (p_.kind).toNat) (p_.field).toNat (dmk nilV [dmk v [],ds (ds (ds g1 (p_.kind).toNat) (p_.field).toNat) 1])) (p_.field).toNat)).drop 7).take 1:=λv=>by rw[QeW hlt];rfl
 refine QbA mixed [v1 9 (λx0=>own rS 9 (f.Words++[o_.Xi]) x0),v1 17 (λx0=>own rI 3 (f.Xf++[o_.N]) x0),v1 9 (λx0=>Qaq dW70 70 k.Xb (dset k.Xb.length (ds g1 (p_.kind).toNat) (p_.field).toNat (dmk nilV [dmk x0 [],ds (ds (ds g1 (p_.kind).toNat) (p_.field).toNat) 1])) (some (p_.field).toNat)),v2 9 17 (λx0 x1=>Qaq dW70 70 k.Xb (dset k.Xb.length (dset k.Xb.length (ds g1 (p_.kind).toNat) (p_.field).toNat (dmk nilV [dmk x0 [],ds (ds (ds g1 (p_.kind).toNat) (p_.field).toNat) 1])) (p_.field).toNat (dmk nilV [dmk x0 [],dmk x1 []])) (some (p_.field).toNat))] H (λm0=>.q 0 rfl<|.q 1 rfl<|.q 2 rfl<|.u [2] rfl rfl (QdC z0 hf)<|.u [2] rfl rfl (Qah Qgw z0 rfl hf)<|.u [2] rfl rfl (Qbt (QaA (R2:=rVal) (f:=(dh (ds (ds (ds g1 (p_.kind).toNat) (p_.field).toNat) 0))) Qov z0 hf rfl) (λ_ _ _ _ h=>h.1))<|.o (Qg Qlp z7)<|.o (Qf (u:=o_.Xi) tok9 z0 rfl)<|.o (QK (R:=rS) (us:=[o_.Xi]) ud56 tok9 (.cons z0<|.nil _) rfl (leb rfl))<|.e [] [0] [6] rfl rfl rfl rfl (QS (R:=rS) ud56 tok9 (leb rfl) z3 z0 h0)<|.q 10 rfl<|.u [2] rfl rfl (QdC z0 hf)<|.u [2] rfl rfl (Qah Qgx z0 rfl hf)<|.u [2] rfl rfl (Qbt (QaA (R2:=rVal) (f:=(dh (ds (ds (ds g1 (p_.kind).toNat) (p_.field).toNat) 1))) Qjm z0 hf rfl) (λ_ _ _ _ h=>h.1))<|.o (Qg Qgy z15)<|.o (Qf (u:=o_.N) tok3 z0 rfl)<|.o (QK (R:=rI) (us:=[o_.N]) ud22 tok3 (.cons z0<|.nil _) rfl (leb rfl))<|.e [] [1] [7] rfl rfl rfl rfl (QS (R:=rI) ud22 tok3 (leb rfl) z3 z0 h1)<|.u [2] rfl rfl (QdC z17 hf)<|.u [2] rfl rfl (Qah Qgw z0 rfl hf)<|.e [6] [2] [8] rfl rfl rfl rfl (QcQ (B:=own rS 9 (f.Words++[o_.Xi]) (m0 9)) (hv:=(m0 9)) (g2:=(dmk nilV [dmk (m0 9) [],ds (ds (ds g1 (p_.kind).toNat) (p_.field).toNat) 1])) (λ_ _ h=>Qdo h) Qov z0 z10 hf (leb rfl) rfl)<|.u [8] rfl rfl (QdC z18 hf)<|.u [8] rfl rfl (Qah Qgx z0 rfl hf)<|.e [7] [8] [9] rfl rfl rfl rfl (QcQ (B:=own rI 3 (f.Xf++[o_.N]) (m0 17)) (hv:=(m0 17)) (g2:=(dmk nilV [dmk (m0 9) [],dmk (m0 17) []])) (λ_ _ h=>Qdo h) Qjm z0 z4 hf (leb rfl) (e0 (m0 9) (m0 17)))<|.nil _ _) (by kernel_rfl) (λm0 a w H=>?_)
 replace H:St _ _ _ [] [_,_,_,_,_,_] _ _:=(H.pick []).Xj [3,4,5,0,1,2] rfl
 replace H:=St.shutN (D:=dW70) (x:=f) (y:={ f with Words:=f.Words++[o_.Xi],Xf:=f.Xf++[o_.N] }) (g2:=(dmk nilV [dmk (m0 9) [],dmk (m0 17) []])) hf hfs (St.join (l:=[_,_]) H)
 replace H:=St.shutD (D:=dK67) (x:=k) (y:={ k with Xb:=fs }) (g2:=(dset k.Xb.length (dset k.Xb.length (ds g1 (p_.kind).toNat) (p_.field).toNat (dmk nilV [dmk (m0 9) [],ds (ds (ds g1 (p_.kind).toNat) (p_.field).toNat) 1])) (p_.field).toNat (dmk nilV [dmk (m0 9) [],dmk (m0 17) []]))) hk hks rfl H
 replace H:=H.shareCD 1 rfl
 replace H:=(H.Xj [1,0] rfl).Xl 3 rfl
 exact QeU undef [0] hpl H rfl .nil rfl rfl rfl
def Qdx (s_:List Qm) (i_ j_:Int):Option (List Qm):=if 0<=i_/\i_<j_/\j_<=s_.length then some (s_.take i_.toNat++s_.drop j_.toNat) else none
instance Qlx:SpcS prog 239 (∀{v_:Value} {s_ r:List Qm} {i_ j_:Int},Qdx s_ i_ j_=some r->FnOk prog 239 [tv v_,ti i_,ti j_] [own Ql 62 s_ v_] (λx=>[own Ql 62 r x]) (λx=>tv x)):=.mk λ{v_ s_ r i_ j_} h=>by
 unfold Qdx at h
 split at h
 case isFalse=>cases h
 rename_i hl
 obtain⟨hi,hij,hj⟩:=hl
 obtain rfl:=sj h
 clear h
 have hi0:sub s_ 0 i_=some (s_.take i_.toNat):=by unfold sub;rw[Ze ⟨ZF _,hi,by omega⟩];simp
 have hj0:sub s_ j_ s_.length=some (s_.drop j_.toNat):=by unfold sub;rw[Ze ⟨by omega,hj,ZF _⟩,Zt,ZI (by rw[ZR];exact Zp _)]
 refine fe func239 ntmps239 λM0 M w0 a hpl H=>?_
 refine wp_seq_k (λK0 k0=>?_)
 refine wr mx [] H (λ_=>.o (Qc .k)<|.n) λ_ a w H=>?_
 have H:=H.t3_1 [1,2,3]
 refine k0 _ _ ?_
 clear k0 K0
 refine wp_seq_k (λK0 k0=>?_)
 refine wr mx [] H (λ_=>.q 0 rfl<|.q 2 rfl<|.q 4 rfl<|.q 3 rfl<|.u [0] rfl rfl (Qdn ud25 z0)<|.u [0] rfl rfl (Qsu (R:=Ql) ud25 Qbp z4 z3 z2 z0 hi (Int.le_of_lt hij) hj (ZF _))<|.n) λ_ a w H=>?_
 have H:=H.t3_1 [6,7,8]
 refine k0 _ _ ?_
 clear k0 K0
 refine wp_seq_k (λK0 k0=>?_)
 refine wp_seq_k (λK1 k1=>?_)
 refine wr mx [] H (λ_=>.q 1 rfl<|.q 3 rfl<|.o (Qau z1 z0)<|.n) λ_ a w H=>?_
 have H:=H.t4_1 [2,3,4,5]
 refine k1 _ _ ?_
 clear k1 K1
 refine wt H (λb=>absurd b (by simp;omega)) (λb=>?_)
 clear b
 refine wp_skip (k0 _ _ ?_)
 clear k0 K0
 refine wp_seq_k (λK0 k0=>?_)
 have H:=H.t3_1 [1,2,3]
 refine wr mx [] H (λ_=>.q 0 rfl<|.u [0] rfl rfl (Qdn ud25 z0)<|.o (Qc z0)<|.n) λ_ a w H=>?_
 have H:=H.t4_1 [2,3,4,5]
 refine k0 _ _ ?_
 clear k0 K0
 refine wp_seq_k (λK0 k0=>?_)
 refine wr mx [v0 (own Ql 62 ((s_.take i_.toNat)++(s_.drop j_.toNat)++s_.drop (i_.toNat+(s_.drop j_.toNat).length)) v_)] H (λ_=>.q 1 rfl<|.q 3 rfl<|.u [0] rfl rfl (Qoc (R:=Ql) ud25 Qbp z1 (.no _) (.op z0) hi0)<|.q 4 rfl<|.q 7 rfl<|.u [0] rfl rfl (Qoc (R:=Ql) ud25 Qbp z1 (.op z0) (.no _) hj0)<|.e [] [0] [1] rfl rfl rfl rfl (Qon (R:=Ql) ud25 Qbp z3 z0 hi0 hj0 (Int.le_of_lt hij) (by omega))<|.o (Qc z0)<|.n) λ_ a w H=>?_
 have H:=H.t2_1 [7,8]
 refine k0 _ _ ?_
 clear k0 K0
 have hfl:((s_.take i_.toNat)++(s_.drop j_.toNat)++s_.drop (i_.toNat+(s_.drop j_.toNat).length)).length=s_.length:=by rw[Zd,Zd,ZE,ZR,ZR];omega
 have hn0:sub ((s_.take i_.toNat)++(s_.drop j_.toNat)++s_.drop (i_.toNat+(s_.drop j_.toNat).length)) 0 (i_+((s_.drop j_.toNat).length:Int))=some ((s_.take i_.toNat)++(s_.drop j_.toNat)):=by
  unfold sub;rw[Ze ⟨ZF _,by omega,by rw[hfl,ZR];omega⟩];simp only[Int.toNat_zero,drop_zero,Nat.sub_zero];rw[take_left' (by rw[Zd,ZE];omega)]
 obtain⟨zs,hzs⟩:∃zs,sub ((s_.take i_.toNat)++(s_.drop j_.toNat)++s_.drop (i_.toNat+(s_.drop j_.toNat).length)) (i_+((s_.drop j_.toNat).length:Int)) (((s_.take i_.toNat)++(s_.drop j_.toNat)++s_.drop (i_.toNat+(s_.drop j_.toNat).length)).length:Int)=some zs:=⟨_,by unfold sub;rw[Ze ⟨by omega,by rw[hfl,ZR];omega,ZF _⟩]⟩;have h0:0<((s_.take i_.toNat)++(s_.drop j_.toNat)++s_.drop (i_.toNat+(s_.drop j_.toNat).length)).length:=by rw[hfl];omega
 rw[<-hfl] at H;refine wp_seq_k (λK0 k0=>?_);refine wr mx [v0 (own Ql 62 (((s_.take i_.toNat)++(s_.drop j_.toNat)++s_.drop (i_.toNat+(s_.drop j_.toNat).length)).take (i_+((s_.drop j_.toNat).length:Int)).toNat++replicate zs.length zz3) v_)] H (λ_=>.q 0 rfl<|.q 1 rfl<|.u [0] rfl rfl (QpN ud25 z0 hn0)<|.q 4 rfl<|.u [0] rfl rfl (QpO (R:=Ql) ud25 Qbp z3 z1 z0 hn0 h0)<|.e [] [0] [1] rfl rfl rfl rfl (QnE (R:=Ql) ud25 Qbp zok62 z0 hzs)<|.n) λ_ a w H=>?_;have H:=H.t1_1 [5];refine k0 _ _ ?_;clear k0 K0;have h1:sub (((s_.take i_.toNat)++(s_.drop j_.toNat)++s_.drop (i_.toNat+(s_.drop j_.toNat).length)).take (i_+((s_.drop j_.toNat).length:Int)).toNat++replicate zs.length zz3) 0 (i_+((s_.drop j_.toNat).length:Int))=some ((s_.take i_.toNat)++(s_.drop j_.toNat)):=by
  obtain⟨_,_,q2,q3,_⟩:=QgX hn0;unfold sub;rw[Ze ⟨ZF _,by omega,by rw[Zd,ZE,Nat.min_eq_left q2];omega⟩];simp only[Int.toNat_zero,drop_zero,Nat.sub_zero] at q3 ⊢;rw[take_left' (by rw[ZE,Nat.min_eq_left q2])];exact Zu some q3.symm
 replace H:St _ _ _ [_] [_] _ _:=H.cut0 h1;refine wp_seq_k (λK0 k0=>?_);refine wr mx [] H (λ_=>.q 0 rfl<|.o (Qc z0)<|.n) λ_ a w H=>?_;have H:=H.t1_1 [1];refine k0 _ _ ?_;clear k0 K0;refine wp_ret ?_;exact rt (cutV Ql.n v_ 0 (i_+((s_.drop j_.toNat).length:Int))) [0] hpl H (.tmp z0 .nil)
def QcD (x_:Qa) (o_:Qn) (p_:Qj):Option (Qa):=(Qdx x_.Xc p_.rule (i64.wrap (p_.rule+1))).bind λt0=>(some (Qa.mk x_.Version x_.Xa x_.Xd t0))
instance Qmg:SpcS prog 238 (∀{q0:Value} {vh0_1:Value} {vh0_3:Value} {x_:Qa} {o_:Qn} {p_:Qj} {r:Qa},QcD x_ o_ p_=some r->FnOk prog 238 [tv q0,Qv.ty o_,Qi.ty p_] [box ([ti x_.Version,tvs (dh vh0_1),tsl Qo x_.Xd,tvs vh0_3]) q0,deep dF54 54 x_.Xa vh0_1,own Ql 62 x_.Xc vh0_3] (λ_=>[box (Qb.cs r) q0]) (λ_=>ttup [])):=.mk λ{q0 vh0_1 vh0_3 x_ o_ p_ r} h=>by
 unfold QcD at h
 refine Fe func238 ntmps238 λM0 M w0 hpl=>?_
 refine QyV [1,2] ?_
 have⟨t0,_,h⟩:=bs h
 refine Qza [v1 10 (λv0=>own Ql 62 t0 v0),v1 10 (λv0=>box ([ti x_.Version,tvs (dh vh0_1),tsl Qo x_.Xd,tvs v0]) q0)] [11,14] [10,14] λm0=>?_
 refine Qzc (As'':=[box ([ti x_.Version,tsl Qp x_.Xa,tsl Qo x_.Xd,tvs (m0 10)]) q0,own Ql 62 t0 (m0 10)]) (λ_ _ H=>((H.pick [0,1]).Xj [0,2,1] rfl).shareCD 1 rfl) ?_
 refine Qzc (As'':=[box (Qb.cs (Qa.mk x_.Version x_.Xa x_.Xd t0)) q0]) (λ_ _ H=>((H.pick [1]).Xj [1,0] rfl).Xl 3 rfl) ?_
 obtain rfl:=sj h
 exact QBP undef [0] hpl
def Qb1 (x_:Qa) (o_:Qn) (p_:Qj):Option (Qa):=(idx x_.Xa p_.kind).bind λr2=>(idx x_.Xa p_.kind).bind λr3=>(setAt x_.Xa p_.kind { r3 with Lo:=(i64.wrap (r3.Lo - o_.N)) }).bind λm8=>(idx m8 p_.kind).bind λr4=>(setAt m8 p_.kind { r4 with Hi:=(i64.wrap (r3.Hi+o_.M)) }).bind λm10=>(some (Qa.mk x_.Version m10 x_.Xd x_.Xc))
instance Qmh:SpcS prog 243 (∀{q0:Value} {vh0_1:Value} {vh0_3:Value} {x_:Qa} {o_:Qn} {p_:Qj} {r:Qa},Qb1 x_ o_ p_=some r->FnOk prog 243 [tv q0,Qv.ty o_,Qi.ty p_] [box ([ti x_.Version,tvs (dh vh0_1),tsl Qo x_.Xd,tvs vh0_3]) q0,deep dF54 54 x_.Xa vh0_1,own Ql 62 x_.Xc vh0_3] (λ_=>[box (Qb.cs r) q0]) (λ_=>ttup [])):=.mk λ{q0 vh0_1 vh0_3 x_ o_ p_ r} h=>by
 unfold Qb1 at h
 refine Fe func243 ntmps243 λM0 M w0 hpl=>?_
 refine QyV [0,1,2] ?_
 refine QyY λ_ k0=>?_
 have⟨r2,h0,h⟩:=bs h
 intro a w H
 refine wr mx [] H (λ_=>.q 2 rfl<|.u [0] rfl rfl (Qa5 z0)<|.u [0] rfl rfl (QC QZ z0)<|.u [0] rfl rfl (QX (u:=(dh vh0_1)) Qa7 z0 rfl)<|.o (Qg Qa1 z5)<|.o (Qf (u:=p_.kind) tok3 z0 rfl)<|.u [1] rfl rfl (Qal ud23 Q6 z2 z0 h0)<|.o (Qc z0)<|.n) λ_ a w H=>?_
 have H:=H.t4_3 [3,7,8,10]
 refine Qzh H ?_
 refine k0 ?_
 have⟨r3,h1,m8,hm8,r4,h2,m10,hm10,h⟩:=bs4 h
 intro a w H
 refine wr mx [v0 (deep dF54 54 m8 vh0_1),v0 (deep dF54 54 m10 vh0_1)] H (λ_=>.q 1 rfl<|.q 2 rfl<|.q 3 rfl<|.u [1] rfl rfl (QdC z0 h1)<|.u [1] rfl rfl (Qah Qij z0 rfl h1)<|.u [1] rfl rfl (QaA (R2:=rI) (f:=r3.Lo) tok3 z0 h1 rfl)<|.o (Qg Qgy z8)<|.o (Qf (u:=o_.N) tok3 z0 rfl)<|.o (Qdv z2 z0)<|.q 10 rfl<|.u [1] rfl rfl (QdC z0 h1)<|.u [1] rfl rfl (Qah Qik z0 rfl h1)<|.u [1] rfl rfl (QaA (R2:=rI) (f:=r3.Hi) tok3 z0 h1 rfl)<|.o (Qg Qiq z15)<|.o (Qf (u:=o_.M) tok3 z0 rfl)<|.o (Qab z2 z0)<|.u [1] rfl rfl (QdC z15 h1)<|.u [1] rfl rfl (Qah Qij z0 rfl h1)<|.e [] [1] [3] rfl rfl rfl rfl (QjL (u:={ r3 with Lo:=(i64.wrap (r3.Lo - o_.N)) }) tok3 z0 z9 h1 hm8 (leb rfl) rfl rfl)<|.u [3] rfl rfl (QdC z16 h2)<|.u [3] rfl rfl (Qah Qik z0 rfl h2)<|.e [] [3] [4] rfl rfl rfl rfl (QjL (u:={ r4 with Hi:=(i64.wrap (r3.Hi+o_.M)) }) tok3 z0 z4 h2 hm10 (leb rfl) rfl rfl)<|.n) λ_ a w H=>?_
 have H:=H.t2_3 [20,23]
 replace H:St _ _ _ [_] [_,_] _ _:=((H.pick [1]).Xj [2,0,1] rfl).shareCD 1 rfl
 replace H:St _ _ _ [_] [_] _ _:=((H.pick [0]).Xj [1,0] rfl).Xl 3 rfl
 refine Qzh H ?_
 obtain rfl:=sj h
 exact QBP undef [0] hpl
def QlS (n:Nat) (x:Qa) (o:Qn) (p:Qj):Option Qa:=if n=222 then Qci x o p else if n=225 then Qcj x o p else if n=229 then Qb8 x o p else if n=232 then Qbn x o p else if n=236 then Qck x o p else if n=238 then QcD x o p else if n=243 then Qb1 x o p else none
theorem Qts {n:Nat} {x:Qa} {o:Qn} {p:Qj} {r:Qa} (h:QlS n x o p=some r):QB prog n:=by
 unfold QlS at h;by_cases h222:n=222
 ·subst h222;exact QxD
 rw[Zb h222] at h;by_cases h225:n=225
 ·subst h225;exact QxE
 rw[Zb h225] at h;by_cases h229:n=229
 ·subst h229;exact QxG
 rw[Zb h229] at h;by_cases h232:n=232
 ·subst h232;exact QxI
 rw[Zb h232] at h;by_cases h236:n=236
 ·subst h236;exact QxM
 rw[Zb h236] at h;by_cases h238:n=238
 ·subst h238;exact QxN
 rw[Zb h238] at h;by_cases h243:n=243
 ·subst h243;exact QxQ
 rw[Zb h243] at h;cases h
theorem Qwu {q g1 g3:Value} {n:Nat} {x:Qa} {o:Qn} {p:Qj} {r:Qa} (h:QlS n x o p=some r):FnOk prog n [tv q,Qv.ty o,Qi.ty p] [box ([ti x.Version,tvs (dh g1),tsl Qo x.Xd,tvs g3]) q,deep dK67 54 x.Xa g1,own Ql 62 x.Xc g3] (λ_=>[box (Qb.cs r) q]) (λ_=>ttup []):=by
 unfold QlS at h;by_cases h222:n=222
 ·subst h222;exact .flatE Qhy (QmT.ok h)
 rw[Zb h222] at h;by_cases h225:n=225
 ·subst h225;exact .flatE Qhy (QmU.ok h)
 rw[Zb h225] at h;by_cases h229:n=229
 ·subst h229;exact .flatE Qhy (Qny.ok h)
 rw[Zb h229] at h;by_cases h232:n=232
 ·subst h232;exact .flatE Qhy (QmV.ok h)
 rw[Zb h232] at h;by_cases h236:n=236
 ·subst h236;exact QmW.ok h
 rw[Zb h236] at h;by_cases h238:n=238
 ·subst h238;exact .flatE Qhy (Qmg.ok h)
 rw[Zb h238] at h;by_cases h243:n=243
 ·subst h243;exact .flatE Qhy (Qmh.ok h)
 rw[Zb h243] at h;cases h
def QbU (x_:Qa) (o_:Qn):Option (Qa×Qj×Int):=(QaR x_ o_).bind λt0=>(if (t0.2.2 !=0)=true then (some (zz4,t0.2.1,t0.2.2)) else (QbM x_).bind λt1=>((t0.1).next').bind λf18=>(QlS f18 (Qa.mk (i64.wrap (t1.Version+1)) t1.Xa t1.Xd t1.Xc) o_ t0.2.1).bind λt2=>(Qc2 t2).bind λt3=>(some (t2,t0.2.1,t3)))
instance QoK:SpcS prog 42 (∀{x_:Qa} {o_:Qn} {r:Qa×Qj×Int},QbU x_ o_=some r->FnOk prog 42 [Qb.ty x_,Qv.ty o_] [glo] (λ_=>[]) (λ_=>ttup [Qb.ty r.1,Qi.ty r.2.1,ti r.2.2])):=.mk λ{x_ o_ r} h=>by
 unfold QbU at h
 refine Fe func42 ntmps42 λM0 M w0 hpl=>?_
 refine Qy5 [v1 2 (λv0=>box (Qb.cs zz4) v0),v1 3 (λv0=>box (Qi.cs zz6) v0)] [3,4] [0,1,2,3] λm0=>?_
 have⟨t0,_,h⟩:=bs h
 refine Qy5 [v1 7 (λv0=>box (QN.cs (Qs.mk false false false none none none none)) v0),v1 8 (λv0=>box (Qi.cs zz6) v0),v1 7 (λv0=>box (QN.cs t0.1) v0),v1 8 (λv0=>box (Qi.cs t0.2.1) v0)] [8,9,10,11] [7,8,9,10,11,12,13] λm1=>?_
 refine Qy9 (λ_ _ H=>(((((((H.Xj [3,0,1,2,4] rfl).Xk 0 rfl).add 0 rfl (λ_ _ _ h=>h.2)).pick [0,3,4,5,6,7,8]).Xj [3,0,1,2] rfl).Xk 1 rfl).add 0 rfl (λ_ _ _ h=>h.2)).pick [0,2,4,5,6,7,8]) ?_
 refine tIfs h [1,2,3,4,5,6,7,8] (λ_ h=>?_) (λ_ h=>?_)
 ·refine Qy5 [v0 (box (Qb.cs zz4) (m0 2)),v0 (box (Qi.cs t0.2.1) (m0 3))] [4,5] [3,10,11] λm2=>?_
  exact QyZ h (·▸QyX hpl)
 have⟨t1,h0,h⟩:=bs h
 intro a w H
 refine sr mx [v1 1 (λv0=>deep dK67 54 t1.Xa (gh v0 0)),v1 1 (λv0=>deep dL91 59 t1.Xd (gh v0 1)),v1 1 (λv0=>own Ql 62 t1.Xc (gh v0 2)),v1 2 (λv0=>box (Qb.cs zz4) v0),v2 1 2 (λv0 v1=>box ([ti t1.Version,tvs (dh (gh v0 0)),tvs (dh (gh v0 1)),tvs (gh v0 2)]) v1)] H (λm3=>.p rfl (Qw QH z4)<|.m [] [3,4,5] rfl rfl rfl (Qq Qrj (QhE.ok h0) (.cons (.of z0)<|.nil))<|.m [] [6] rfl rfl rfl (QV (R:=Qb) (a:=zz4) QH QdK)<|.e [] [6] [7] rfl rfl rfl rfl (QG (R:=(rAgg ([ti t1.Version,tvs (dh (gh (m3 1) 0)),tvs (dh (gh (m3 1) 1)),tvs (gh (m3 1) 2)]) (Qk (QO rfl) (Qk QU (Qk QU (Qk QU Q5)))))) (a:=()) (tokA QH (Qk (QO rfl) (Qk QU (Qk QU (Qk QU Q5)))) rfl rfl) z0 z1 (leb rfl))<|.n) λm3 a w H=>?_
 have H:=H.to [2,4,5,8,9,10] [_,_,_,_,_,_] [_,_,_,_,_,_,_] rfl rfl
 refine Qze H ?_
 refine Qy5 [v0 (box ([ti (i64.wrap (t1.Version+1)),tvs (dh (gh (m3 1) 0)),tvs (dh (gh (m3 1) 1)),tvs (gh (m3 1) 2)]) (m3 2))] [5] [4,5,6,7,8,9] λm4=>?_
 refine QyY λ_ k0=>?_
 refine Qy9 (As'':=[box ([ti (i64.wrap (t1.Version+1)),tvs (dh (gh (m3 1) 0)),tsl Qo t1.Xd,tvs (gh (m3 1) 2)]) (m3 2),glo,box (Qb.cs zz4) (m0 2),box (Qi.cs zz6) (m0 3),deep dK67 54 t1.Xa (gh (m3 1) 0),own Ql 62 t1.Xc (gh (m3 1) 2)]) (λ_ _ H=>((H.pick [0,1,2,3,4,5]).Xj [4,6,0,1,2,3,5] rfl).shareCD 2 rfl) ?_
 have⟨f18,hf18,t2,h1,h⟩:=bs2 h
 intro a w H
 refine wr mx [v0 (box (Qb.cs t2) (m3 2))] H (λ_=>.o (Qg Qv9 z2)<|.o (Qf (u:=(t0.1).next') Qum z0 rfl)<|.o (Qw Qde z5)<|.o (Qw QaB z4)<|.e [] [0,4,5] [6] rfl rfl rfl rfl (Qcz (Qts h1) (Qwu h1) (.fidO hf18 z2) (.cons (.of z4)<|.cons (.of z1)<|.cons (.of z0)<|.nil))<|.n) λ_ a w H=>?_
 have H:=H.to [5,6,9,10] [_,_,_,_] [_,_,_,_] rfl rfl
 refine Qzh H ?_
 refine k0 ?_
 have⟨_,_,h⟩:=bs h
 refine Qy5 [v0 (box (Qb.cs t2) (m0 2)),v0 (box (Qi.cs t0.2.1) (m0 3))] [5,6] [4,7,8] λm5=>?_
 refine Qy9 (λ_ _ H=>H.Xj [0,2,3] rfl) ?_
 exact QyZ h (·▸QyX hpl)
def QbJ (x_:Qa) (l_:(List Qn)):Option ((List Qa)×(List Qj)×Int):=(Qc2 x_).bind λt0=>(if (t0 !=0)=true then (some (([]:List Qa),([]:List Qj),t0)) else (if (decide ((l_.length:Int)>32))=true then (some (([]:List Qa),([]:List Qj),(4:Int))) else (QbM x_).bind λt1=>(Qz (λ(s0:Int×List Qj×List Qa)=>((if (decide (s0.1<(l_.length:Int)))=true then (idx l_ s0.1).bind λt2=>(idx s0.2.2 (i64.wrap ((s0.2.2.length:Int) - 1))).bind λt3=>(QbU t3 t2).bind λt4=>(if (t4.2.2 !=0)=true then (some (.inr (.inr (([]:List Qa),([]:List Qj),t4.2.2)))) else (rm (s0.2.2.length+[t4.1].length)).bind λ_=>(rm (s0.2.1.length+[t4.2.1].length)).bind λ_=>(some (.inl ((i64.wrap (s0.1+1)),(s0.2.1++[t4.2.1]),(s0.2.2++[t4.1]))))) else (some (.inr (.inl (s0.2.1,s0.2.2))))):Option ((Int×List Qj×List Qa)⊕((List Qj×List Qa)⊕((List Qa)×(List Qj)×Int))))) ((0:Int),([]:List Qj),[t1])).bind λe0=>(match e0 with | .inl p0=>(some (p0.2,p0.1,(0:Int))) | .inr p1=>(some (p1.1,p1.2.1,p1.2.2)))))
instance QiW:SpcS prog 22 (∀{x_:Qa} {l_:(List Qn)} {r:(List Qa)×(List Qj)×Int},QbJ x_ l_=some r->FnOk prog 22 [Qb.ty x_,tsl Qv l_] [glo] (λ_=>[]) (λ_=>ttup [tsl Qb r.1,tsl Qi r.2.1,ti r.2.2])):=.mk λ{x_ l_ r} h=>by
 unfold QbJ at h
 refine Fe func22 ntmps22 λM0 M w0 hpl=>?_
 refine QyV [0,5] ?_
 refine QyY λ_ k0=>?_
 have⟨_,_,h⟩:=bs h
 refine QyV [2,3,4] ?_
 refine QyV [1,2,3,4] ?_
 refine Qy0 h (λ_ h=>?_) (λ_ h=>?_)
 ·refine QyV [1,2,3] ?_
  exact QyZ h (·▸QyX hpl)
 refine Qy2 ?_
 refine k0 ?_
 refine tIfs h [2,5,6] (λ_ h=>?_) (λ_ h=>?_)
 ·refine QyV [0,1,2] ?_
  exact QyZ h (·▸QyX hpl)
 have⟨t0,h0,h⟩:=bs h
 intro a w H
 refine sr mx [v1 2 (λv0=>own Qb 27 [t0] v0)] H (λ_=>.o (Qw QH z1)<|.o (Qq Qrj (QmQ h0) (.cons (.of z0)<|.nil))<|.m [] [1] rfl rfl rfl (QaS (R:=Qb) (us:=[t0]) ud33 QH (.cons z0<|.nil _) rfl (leb rfl) (leb rfl))<|.ud (f:=λv=>tv v) 2 rfl [] rfl rfl (Qc z0)<|.n) λm0 a w H=>?_
 have H:=H.to [2,3,6] [_,_,_] [_,_] rfl rfl
 refine Qze H ?_
 refine QyV [0,1,2,3] ?_
 refine Qy9 (λ_ _ H=>H.nil (Qi) 104) ?_
 refine QyY λK0 k1=>?_
 refine QyV [0,1,2,3,4,5] ?_
 have⟨e0,h1,h⟩:=bs h
 have J0:∀(p0:List Qj×List Qa) (y0:Value) (y1:Value),(.inl p0)=e0->To M w0 58 [(9,tv y0),(8,tv y1)] [own Qi 104 p0.1 y0,glo,own Qb 27 p0.2 y1] K0:=by
  intro p0 y0 y1 he;subst he;simp only at h;refine k1 <|QyV [0,1,2,3,4,5,6] ?_;refine Qzd ?_;refine Qzc (by intro _ _ H;exact ((H.Xj [2,0,1] rfl).Xm 2 rfl).pick [0,2,4,5,6]) ?_;refine Qzc (by intro _ _ H;exact (H.Xm 2 rfl).pick [0,1,4]) ?_;obtain rfl:=sj h;exact QyX hpl
 have J1:∀(p1:(List Qa)×(List Qj)×Int),(.inr p1)=e0->To M w0 58 [(4,tsl Qb p1.1),(5,tsl Qi p1.2.1),(6,ti p1.2.2)] [glo] (Ret prog f22 M0 [glo] w0 (λ_=>[]) (λ_=>ttup [tsl Qb r.1,tsl Qi r.2.1,ti r.2.2]) .ret):=by
  intro p1 he;subst he;simp only at h;obtain rfl:=sj h;exact QyX hpl
 refine Qy1 <|tLoopW h1 (λ(s0:Int×List Qj×List Qa) (y2:Value) (y3:Value)=>[(26,tsl Qv l_),(27,ti (l_.length:Int)),(28,ti s0.1),(9,tv y2),(8,tv y3)]) (λ(s0:Int×List Qj×List Qa) (y2:Value) (y3:Value)=>[own Qi 104 s0.2.1 y2,glo,own Qb 27 s0.2.2 y3]) (.slice none 0 0) (m0 2) [0,1,2,3,5] ?_;clear h;intro s0 y2 y3 o K1 h ho k2;refine QyV [0,1,2,3,4,5] ?_;refine QyY λ_ k3=>Qy0 h (λ_ h=>?_) (λ_ h=>?_)
 ·refine Qy2 <|k3 <|QyY λ_ k4=>Qy1 ?_;have⟨t1,_,h⟩:=bs h;refine Qy5 [v1 2 (λv0=>box (Qv.cs zz5) v0),v1 2 (λv0=>box (Qv.cs t1) v0)] [3,4] [2,4,5,6,7,8] λm1=>?_;refine Qy9 (λ_ _ H=>(((H.Xj [3,0,1,2] rfl).Xk 0 rfl).add 0 rfl (λ_ _ _ h=>h.2)).pick [0,3,4,5,6,7]) ?_;have⟨_,h2,t2,h3,h⟩:=bs2 h;intro a w H;refine sr mx [v1 12 (λv0=>box (Qb.cs zz4) v0),v1 13 (λv0=>box (Qi.cs zz6) v0),v1 12 (λv0=>box (Qb.cs t2.1) v0),v1 13 (λv0=>box (Qi.cs t2.2.1) v0)] H (λ_=>.q 5 rfl<|.q 6 rfl<|.u [2] rfl rfl (Qdn ud33 z0)<|.o (Qdv z0 .k)<|.u [2] rfl rfl (Qar ud33 QH z3 z0 h2)<|.u [2] rfl rfl (QiQ QH z0 h2)<|.o (Qw Qde z6)<|.u [1] rfl rfl ((Qq QAb (QoK.ok h3) (.cons (.of z1)<|.cons (.of z0)<|.nil)).glo)<|.q 0 rfl<|.o (QQ z0 rfl)<|.o (QQ z1 rfl)<|.o (QQ z2 rfl)<|.m [] [3] rfl rfl rfl (QV (R:=Qb) (a:=zz4) QH QdK)<|.m [] [4] rfl rfl rfl (QV (R:=Qi) (a:=zz6) QaB Qj9)<|.e [] [3] [5] rfl rfl rfl rfl (QG (R:=Qb) (a:=t2.1) QH z1 z4 (leb rfl))<|.e [] [4] [6] rfl rfl rfl rfl (QG (R:=Qi) (a:=t2.2.1) QaB z0 z3 (leb rfl))<|.o (Qc z2)<|.n) λ_ a w H=>?_;replace H:St _ _ _ [_,_,_,_,_,_,_,_,_,_] [_,_,_] _ _:=((((((((H.pick [0,1,12,13,14,16,17,18,19,20]).Xj [3,0,1,2,4] rfl).Xk 2 rfl).add 0 rfl (λ_ _ _ h=>h.2)).pick [0,2,3,5,6,7,8,9,10,11]).Xj [3,0,1,2] rfl).Xk 3 rfl).add 0 rfl (λ_ _ _ h=>h.2)).pick [0,2,3,4,6,7,8,9,10,11];refine Qze H ?_;refine tIfs h [1,2,3,4,5,6,7,8,9,10,11] (λ_ h=>?_) (λ_ h=>?_)
  ·refine QyV [1,2,3,7,8,13,14] ?_;refine Qzd ?_;refine Qzc (λ_ _ H=>(H.pick [0,1,2]).Xj [1] rfl) ?_;exact Qy4 J1 (ho _ (sj h).symm) [0,1,2]
  have⟨_,_,_,_,h⟩:=bs2 h;refine Qza [v1 3 (λv0=>own Qb 27 (s0.2.2++[t2.1]) v0),v1 7 (λv0=>own Qi 104 (s0.2.1++[t2.2.1]) v0)] [4,8] [3,7,8,9,16,17,18] λm2=>?_;refine k4 <|Qy6 [1,2,3,4,5,6,7] ?_;refine Qzc (λ_ _ H=>(H.pick [5,6,0,4,3]).Xj [2,0,1] rfl) ?_;exact QBQ k2 (m2 7) (m2 3) ((sj h).symm) [0,1,2,3,4]
 refine Qy7 <|QBQ J0 y2 y3 (ho _ (sj h).symm) [4,5]
def Qbl (x_:Qa) (l_:(List Qn)):Option (Qa×Int):=(QbJ x_ l_).bind λt0=>(if (t0.2.2 !=0)=true then (some (zz4,t0.2.2)) else (idx t0.1 (l_.length:Int)).bind λt1=>(some (t1,(0:Int))))
instance QhF:SpcS prog 9 (∀{x_:Qa} {l_:(List Qn)} {r:Qa×Int},Qbl x_ l_=some r->FnOk prog 9 [Qb.ty x_,tsl Qv l_] [glo] (λ_=>[]) (λ_=>ttup [Qb.ty r.1,ti r.2])):=.mk λ{x_ l_ r} h=>by
 unfold Qbl at h
 refine Fe func9 ntmps9 λM0 M w0 hpl=>?_
 refine Qy5 [v1 1 (λv0=>box (Qb.cs zz4) v0)] [2] [0,1,4] λm0=>?_
 have⟨_,_,h⟩:=bs h
 refine QyV [7,9,11,12] ?_
 refine tIfs h [1,2,3,4,5] (λ_ h=>?_) (λ_ h=>?_)
 ·refine Qy5 [v0 (box (Qb.cs zz4) (m0 1))] [3] [2,6] λm1=>?_
  exact QyZ h (·▸QyX hpl)
 have⟨t0,_,h⟩:=bs h
 refine Qy5 [v0 (box (Qb.cs t0) (m0 1))] [6] [5,9] λm2=>?_
 exact QyZ h (·▸QyX hpl)
def Qbx (x_:Qa) (l_:(List Qt)):Option ((List Qa)×Int):=(QeA x_).bind λt0=>(if (decide ((t0.length:Int)>0))=true then (idx t0 0).bind λt1=>(some (([]:List Qa),t1.Code)) else (if (decide ((l_.length:Int)>32))=true then (some (([]:List Qa),(4:Int))) else (Qz (λ(s0:Int×List Qa)=>((if (decide (s0.1<(l_.length:Int)))=true then (idx s0.2 s0.1).bind λt2=>(idx l_ s0.1).bind λt3=>(Qbf t2 t3).bind λt4=>(if (t4.2 !=0)=true then (some (.inr (.inr (([]:List Qa),t4.2)))) else (rm (s0.2.length+[t4.1].length)).bind λ_=>(some (.inl ((i64.wrap (s0.1+1)),(s0.2++[t4.1]))))) else (some (.inr (.inl s0.2)))):Option ((Int×List Qa)⊕((List Qa)⊕((List Qa)×Int))))) ((0:Int),[x_])).bind λe0=>(match e0 with | .inl p0=>(some (p0,(0:Int))) | .inr p1=>(some (p1.1,p1.2)))))
instance Qkf:Spc2 prog 23 Qbx (λx_ l_=>[Qb.ty x_,tsl Qx l_]) (λr=>ttup [tsl Qb r.1,ti r.2]):=.mk λ{x_ l_ r} h=>by
 unfold Qbx at h
 refine Fe func23 ntmps23 λM0 M w0 hpl=>?_
 refine QyV [0,4] ?_
 have⟨_,_,h⟩:=bs h
 refine QyV [2,3,4] ?_
 refine tIfs h [2,3,4,5] (λ_ h=>?_) (λ_ h=>?_)
 ·have⟨_,_,h⟩:=bs h
  refine QyV [4,5] ?_
  exact QyZ h (·▸QyX hpl)
 refine tIfs h [2,5,6] (λ_ h=>?_) (λ_ h=>?_)
 ·refine QyV [0,1] ?_
  exact QyZ h (·▸QyX hpl)
 refine Qy5 [v1 1 (λv0=>own Qb 27 [x_] v0)] [2] [1,2,5] λm0=>?_
 refine QyY λK0 k0=>?_
 refine QyV [0,1,2,3] ?_
 have⟨e0,h0,h⟩:=bs h
 have J0:∀(p0:List Qa) (y0:Value),(.inl p0)=e0->To M w0 51 [(7,tv y0)] [own Qb 27 p0 y0] K0:=by
  intro p0 y0 he;subst he;simp only at h;refine k0 <|QyV [0,1,2,3] ?_;refine Qzd ?_;refine Qzc (by intro _ _ H;exact (H.Xm 1 rfl).pick [0,3]) ?_;obtain rfl:=sj h;exact QyX hpl
 have J1:∀(p1:(List Qa)×Int),(.inr p1)=e0->To M w0 51 [(4,tsl Qb p1.1),(5,ti p1.2)] [] (Ret prog f23 M0 [] w0 (λ_=>[]) (λ_=>ttup [tsl Qb r.1,ti r.2]) .ret):=by
  intro p1 he;subst he;simp only at h;obtain rfl:=sj h;exact QyX hpl
 refine Qy1 <|Qzf h0 (λ(s0:Int×List Qa) (y1:Value)=>[(8,ti s0.1),(7,tv y1),(1,tsl Qx l_)]) (λ(s0:Int×List Qa) (y1:Value)=>[own Qb 27 s0.2 y1]) (m0 1) [0,2,3] ?_;clear h;intro s0 y1 o K1 h ho k1;refine QyY λ_ k2=>QyV [3,4,5,6] ?_;refine Qy0 h (λ_ h=>?_) (λ_ h=>?_)
 ·refine Qy2 <|k2 <|QyY λ_ k3=>Qy1 ?_;have⟨_,_,_,_,t0,_,h⟩:=bs3 h;refine Qy5 [v1 12 (λv0=>box (Qb.cs zz4) v0),v1 12 (λv0=>box (Qb.cs t0.1) v0)] [13,14] [0,12,13,15,16,17] λm1=>?_;refine Qy9 (λ_ _ H=>(((H.Xj [1,0] rfl).Xk 1 rfl).add 0 rfl (λ_ _ _ h=>h.2)).pick [0,2,4,5,6,7]) ?_;refine tIfs h [1,2,3,4,5,6,7] (λ_ h=>?_) (λ_ h=>?_)
  ·refine QyV [1,2,5,8] ?_;refine Qzd ?_;refine Qzc (λ_ _ H=>(H.pick [0,1]).Xj [] rfl) ?_;exact Qy4 J1 (ho _ (sj h).symm) [0,1]
  have⟨_,_,h⟩:=bs h;refine Qza [v1 3 (λv0=>own Qb 27 (s0.2++[t0.1]) v0)] [4] [3,4,9,10] λm2=>?_;refine k3 <|Qy6 [2,3,4,5] ?_;exact Qy8 k1 (m2 3) ((sj h).symm) [0,2,3]
 refine Qy7 <|Qy8 J0 y1 (ho _ (sj h).symm) [2]
def Qe1 (x_:Qa) (l_:(List Qt)):Option (Qa×Int):=(Qbx x_ l_).bind λt0=>(if (t0.2 !=0)=true then (some (zz4,t0.2)) else (idx t0.1 (l_.length:Int)).bind λt1=>(some (t1,(0:Int))))
instance QoL:Spc2 prog 11 Qe1 (λx_ l_=>[Qb.ty x_,tsl Qx l_]) (λr=>ttup [Qb.ty r.1,ti r.2]):=.mk λ{x_ l_ r} h=>by
 unfold Qe1 at h
 refine Fe func11 ntmps11 λM0 M w0 hpl=>?_
 refine Qy5 [v1 1 (λv0=>box (Qb.cs zz4) v0)] [2] [0,1,4] λm0=>?_
 have⟨_,_,h⟩:=bs h
 refine QyV [6,7,9,10] ?_
 refine tIfs h [1,2,3,4,5] (λ_ h=>?_) (λ_ h=>?_)
 ·refine Qy5 [v0 (box (Qb.cs zz4) (m0 1))] [3] [2,6] λm1=>?_
  exact QyZ h (·▸QyX hpl)
 have⟨t0,_,h⟩:=bs h
 refine Qy5 [v0 (box (Qb.cs t0) (m0 1))] [6] [5,9] λm2=>?_
 exact QyZ h (·▸QyX hpl)
def Qcw (s_:(List Qn)) (f_:(Qn->Option Bool)):Option (Int):=(Qz (λ(s0:Int)=>((if (decide (s0<(s_.length:Int)))=true then (idx s_ s0).bind λt0=>(f_ t0).bind λt1=>(if t1=true then (some (.inr (.inr s0))) else (some (.inl (i64.wrap (s0+1))))) else (some (.inr (.inl ())))):Option ((Int)⊕((Unit)⊕(Int))))) (0:Int)).bind λe0=>(match e0 with | .inl _=>(some (-1:Int)) | .inr p0=>(some p0))
instance Qk4:Spc2 prog 43 Qcw (λs_ f_=>[tsl Qv s_,rF79.ty f_]) ti:=.mk λ{s_ f_ r} h=>by
 unfold Qcw at h
 refine Fe func43 ntmps43 λM0 M w0 hpl=>?_
 refine QyV [1,2] ?_
 refine QyY λK0 k0=>?_
 refine QyV [1,2,3,4] ?_
 have⟨e0,h0,h⟩:=bs h
 have J0:∀(p0:Unit),(.inl p0)=e0->To M w0 19 [] [] K0:=by
  intro p0 he;subst he;simp only at h;refine k0 <|QyV [0] ?_;exact QyZ h (·▸QyX hpl)
 have J1:∀(p1:Int),(.inr p1)=e0->To M w0 19 [(4,ti p1)] [] (Ret prog f43 M0 [] w0 (λ_=>[]) (λ_=>ti r) .ret):=by
  intro p1 he;subst he;simp only at h;obtain rfl:=sj h;exact QyX hpl
 refine Qy1 <|Qzb h0 (λ(s0:Int)=>[(7,ti (s_.length:Int)),(8,ti s0),(0,tsl Qv s_),(1,rF79.ty f_)]) (λ(s0:Int)=>[]) [0,1,2,3] ?_;clear h;intro s0 o K1 h ho k1;refine QyV [0,1,2,3,4] ?_;refine QyY λ_ k2=>Qy0 h (λ_ h=>?_) (λ_ h=>?_)
 ·refine Qy2 <|k2 <|QyY λ_ k3=>Qy1 <|QyV [1,3,4,5,6] ?_;have⟨_,_,_,_,h⟩:=bs2 h;refine QyV [5,6,7,8,9,10] ?_;refine Qy0 h (λ_ h=>?_) (λ_ h=>?_)
  ·refine QyV [1] ?_;refine Qzd ?_;exact Qy4 J1 (ho _ (sj h).symm) [0]
  refine Qy2 <|k3 <|Qy6 [1,4,5,6] ?_;exact Qy4 k1 ((sj h).symm) [1,0,2,3]
 refine Qy7 <|Qy4 J0 (ho _ (sj h).symm) []
def Qbr (s_:(List Qn)) (f_:(Qn->Option Bool)):Option (Bool):=(Qcw s_ f_).bind λt0=>(some (decide (t0>=0)))
instance QjN:Spc2 prog 24 Qbr (λs_ f_=>[tsl Qv s_,rF79.ty f_]) tb:=.mk λ{s_ f_ r} h=>by
 unfold Qbr at h
 refine Fe func24 ntmps24 λM0 M w0 hpl=>?_
 refine QyV [1,2] ?_
 have⟨_,_,h⟩:=bs h
 refine QyV [4] ?_
 exact QyZ h (·▸QyX hpl)
def Qd0 (o_:Qn):Option (Bool):=(some (o_.Op==1))
instance Qnz:Spc1 prog 25 Qd0 (λo_=>[Qv.ty o_]) tb:=.mk λ{o_ r} h=>by
 unfold Qd0 at h
 refine Fe func25 ntmps25 λM0 M w0 hpl=>?_
 refine QyV [0] ?_
 refine QyV [3] ?_
 exact QyZ h (·▸QyX hpl)

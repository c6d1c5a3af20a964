/- The walk. No condition. -/
import Derived.Test.YtlajingmjmnfgaaGreatDoorGenL
set_option linter.all false
open Go.Proofs.Tryz Go.IntKind
namespace Go.Proofs.YtlajingmjmnfgaaGreatDoor
noncomputable section
open Go.Sim
set_option maxRecDepth 100000
set_option maxHeartbeats 4000000
def Qc7 (lo_:Int):Option (Qb):=(some (Qb.mk 0 [(Qg.mk ([97]:Str) lo_ 5 [(Qc.mk ([107]:Str) ([]:Str) ([]:Str) 0 0 0 ([]:(List Str)) ([]:(List Int))),(Qc.mk ([110]:Str) ([]:Str) ([]:Str) 2 0 3 ([]:(List Str)) ([]:(List Int)))])] ([]:(List QA)) [(Qs.mk ([114]:Str) ([97]:Str) ([]:Str) ([110]:Str) (-9))]))
instance Qnb:Spc1 prog 49 Qc7 (λlo_=>[ti lo_]) Qd.ty:=.mk λ{lo_ r} h=>by
 unfold Qc7 at h
 refine Fe func49 ntmps49 λM0 M w0 hpl=>?_
 refine QM [v1 0 (λv0=>box (Qd.cs zz4) v0)] [1] [0,1] λm0=>?_
 refine QM [v1 5 (λv0=>box (Qk.cs zz1) v0),v1 5 (λv0=>box (Qk.cs (Qg.mk ([97]:Str) lo_ (5:Int) [(Qc.mk ([107]:Str) ([]:Str) ([]:Str) (0:Int) (0:Int) (0:Int) ([]:(List Str)) ([]:(List Int))),(Qc.mk ([110]:Str) ([]:Str) ([]:Str) (2:Int) (0:Int) (3:Int) ([]:(List Str)) ([]:(List Int)))])) v0)] [6,7] [5,6] λm1=>?_
 refine Q1 (λ_ _ H=>(((H.Xk [1,0] rfl).Xl 0 rfl).add 0 rfl (λ_ _ _ h=>h.2)).pick [0,3]) ?_
 refine QM [v0 (box (Qd.cs (Qb.mk (0:Int) [(Qg.mk ([97]:Str) lo_ (5:Int) [(Qc.mk ([107]:Str) ([]:Str) ([]:Str) (0:Int) (0:Int) (0:Int) ([]:(List Str)) ([]:(List Int))),(Qc.mk ([110]:Str) ([]:Str) ([]:Str) (2:Int) (0:Int) (3:Int) ([]:(List Str)) ([]:(List Int)))])] ([]:(List QA)) [(Qs.mk ([114]:Str) ([97]:Str) ([]:Str) ([110]:Str) (-9:Int))])) (m0 0))] [6] [6] λm2=>?_
 exact Qo h (·▸Qm hpl)
def Qem (a_:(List Str)) (b_:(List Str)):Option (Bool):=(if ((a_.length:Int) !=(b_.length:Int))=true then (some false) else (Ql (λ(s0:Int)=>((if (decide (s0<(a_.length:Int)))=true then (idx a_ s0).bind λt0=>(idx b_ s0).bind λt1=>(if (t0 !=t1)=true then (some (.inr (.inr false))) else (some (.inl (i64.wrap (s0+1))))) else (some (.inr (.inl ())))):Option ((Int)⊕((Unit)⊕(Bool))))) (0:Int)).bind λe0=>(match e0 with | .inl _=>(some true) | .inr p0=>(some p0)))
instance QlS:Spc2 prog 20 Qem (λa_ b_=>[tsl rS a_,tsl rS b_]) tb:=.mk λ{a_ b_ r} h=>by
 unfold Qem at h
 refine Fe func20 ntmps20 λM0 M w0 hpl=>?_
 refine Qa [1,2] ?_
 refine tIfs h [4,5,6] (λ_ h=>?_) (λ_ h=>?_)
 ·refine Qa [0] ?_
  exact Qo h (·▸Qm hpl)
 refine Qf λK0 k0=>?_
 refine Qa [0,2,3] ?_
 have⟨e0,h0,h⟩:=bs h
 have J0:∀(p0:Unit),(.inl p0)=e0->To M w0 26 [] [] K0:=by
  intro p0 he;subst he;simp only at h;refine k0 <|Qa [0] ?_;exact Qo h (·▸Qm hpl)
 have J1:∀(p1:Bool),(.inr p1)=e0->To M w0 26 [(4,tb p1)] [] (Ret prog f20 M0 [] w0 (λ_=>[]) (λ_=>tb r) .ret):=by
  intro p1 he;subst he;simp only at h;obtain rfl:=sj h;exact Qm hpl
 refine Qj <|Qai h0 (λ(s0:Int)=>[(5,ti s0),(0,tsl rS a_),(1,tsl rS b_)]) (λ(s0:Int)=>[]) [0,1,2] ?_;clear h;intro s0 o K1 h ho k1;refine Qf λ_ k2=>Qa [3,4,5,6] ?_;refine Qn h (λ_ h=>?_) (λ_ h=>?_)
 ·refine Qq <|k2 <|Qf λ_ k3=>Qj ?_;have⟨_,_,_,_,h⟩:=bs2 h;refine Qa [8,10,11,12] ?_;refine Qn h (λ_ h=>?_) (λ_ h=>?_)
  ·refine Qa [0] ?_;refine Qal ?_;exact Qu J1 (ho _ (sj h).symm) [0]
  refine Qq <|k3 <|QJ [2,4,5] ?_;exact Qu k1 ((sj h).symm) [0,1,2]
 refine QN <|Qu J0 (ho _ (sj h).symm) []
def Qgy:Option (Bool):=(Qc7 1).bind λt0=>(Qgu t0).bind λt1=>(Qc7 0).bind λt2=>(Qgu t2).bind λt3=>(opt (((t1.2==0)&&(t3.2==6))==true) (Qem t1.1 [([97,32,108,101,97,115,116]:Str),([97,46,110,32,104,105,103,104]:Str),([114,117,108,101,58,114]:Str)]) default).bind λt4=>(opt ((((t1.2==0)&&(t3.2==6))&&t4)==true) (Qc7 1) default).bind λt5=>(opt ((((t1.2==0)&&(t3.2==6))&&t4)==true) (QcN t5 t1.1) default).bind λt6=>(some ((((t1.2==0)&&(t3.2==6))&&t4)&&(t6==0)))
instance QoW:SpcS prog 13 (∀{r:Bool},Qgy=some r->FnOk prog 13 [] [glo] (λ_=>[]) (λ_=>tb r)):=.mk λ{r} h=>by
 unfold Qgy at h
 refine Fe func13 ntmps13 λM0 M w0 hpl=>?_
 refine Qa [] ?_
 have⟨_,_,t0,_,h⟩:=bs2 h
 refine Qa [5,6] ?_
 have⟨_,_,t1,_,h⟩:=bs2 h
 refine Qa [6,7,8] ?_
 have⟨t2,h0,_,h1,t3,h2,h⟩:=bs3 h
 intro a w H
 refine sr mx [] H (λ_=>.q 2 rfl<|.o (QcO z0 .k)<|.q 0 rfl<|.g rfl rfl bq0 (λ_=>Qat z3)<|.g rfl rfl bq1 (λhc=>QcO (.cond z0 hc) .k)<|.o (QdO z2 (λhp=>(.cond z0 (beqT hp))))<|.q 0 rfl<|.g rfl rfl bq0 (λ_=>Qat z8)<|.g rfl rfl bq1 (λ_=>Qam (R:=rS) (us:=[([97,32,108,101,97,115,116]:Str),([97,46,110,32,104,105,103,104]:Str),([114,117,108,101,58,114]:Str)]) ud25 tok9 (.cons .k<|.cons .k<|.cons .k<|.nil _) rfl (leb rfl))<|.g rfl rfl bq2 (λhc=>QL QvO (QlS.ok (QgH h0 hc)) (.cons (.of (.cond z1 hc))<|.cons (.of (.cond z0 hc))<|.nil))<|.o (QdO z3 (λhp=>(.cond z0 (beqT hp))))<|.q 0 rfl<|.g rfl rfl bq0 (λhc=>QL QvZ (Qnb.ok (QgH h1 hc)) (.cons (.of .k)<|.nil))<|.g rfl rfl bq1 (λ_=>Qat z14)<|.gu [0] rfl rfl rfl bq2 (λhc=>(QL QvL (Qqg.ok (QgH h2 hc)) (.cons (.of (.cond z1 hc))<|.cons (.of (.cond z0 hc))<|.nil)).glo)<|.g rfl rfl bq3 (λhc=>QcO (.cond z0 hc) .k)<|.o (QdO z4 (λhp=>(.cond z0 (beqT hp))))<|.o (Qp z0)<|.n) λ_ a w H=>?_
 have H:=H.to [17] [_] [_] rfl rfl
 refine Q6 H ?_
 exact Qo h (·▸Qm hpl)
def QdS (l_:(List Int)) (m_:(List Int)) (pick_:(List Int)) (at_:Int) (by_:Int) (name_:Str):Option (Bool):=(Qb7 l_).bind λt0=>(Qgh t0 m_).bind λt1=>(Qe8 t1).bind λt2=>(Ql (λ(s0:Int×List Str)=>((if (decide (s0.1<(t2.1.length:Int)))=true then (QbG pick_ s0.1 2).bind λt3=>((if (t3==1)=true then (idx t2.1 s0.1).bind λt4=>(rm (s0.2.length+[t4].length)).bind λ_=>(some (s0.2++[t4])) else (some s0.2))).bind λp0=>(some (.inl ((i64.wrap (s0.1+1)),p0))) else (some (.inr s0.2))):Option ((Int×List Str)⊕((List Str))))) ((0:Int),([]:List Str))).bind λp1=>(Qgu t1).bind λt5=>(rm (([]:List Str).length+p1.length)).bind λ_=>(rm ((([]:List Str)++p1).length+p1.length)).bind λ_=>(rm (([]:List Str).length+t5.1.length)).bind λ_=>(rm ((([]:List Str)++t5.1).length+[name_].length)).bind λ_=>(jn (λ(p2:List (List Str))=>(Ql (λ(s1:Int)=>((if (decide (s1<(p2.length:Int)))=true then (idx p2 s1).bind λt6=>(QcN t1 t6).bind λt7=>(idx p2 s1).bind λt8=>(Qdt t1 t8).bind λt9=>(if (t7 !=t9)=true then (some (.inr (.inr false))) else (some (.inl (i64.wrap (s1+1))))) else (some (.inr (.inl ())))):Option ((Int)⊕((Unit)⊕(Bool))))) (0:Int)).bind λe0=>(match e0 with | .inl _=>(opt ((((t5.2==0)||(t5.2==6))||(t5.2==4))==true) (Qgy) default).bind λt10=>(some ((((t5.2==0)||(t5.2==6))||(t5.2==4))&&t10)) | .inr p3=>(some p3))) λj50=>(if (decide ((t5.1.length:Int)>0))=true then (Qb6 at_ (t5.1.length:Int)).bind λt11=>(sub t5.1 0 t11).bind λt12=>(rm (([]:List Str).length+t12.length)).bind λ_=>(sub t5.1 (i64.wrap (t11+1)) (t5.1.length:Int)).bind λt13=>(rm ((([]:List Str)++t12).length+t13.length)).bind λ_=>(QcN t1 ((([]:List Str)++t12)++t13)).bind λt14=>(if (t14 !=15)=true then (some false) else (rm ([p1,t2.1,([]:(List Str)),[name_],((([]:List Str)++p1)++p1),t5.1,((([]:List Str)++t5.1)++[name_])].length+[((([]:List Str)++t12)++t13)].length)).bind λ_=>(j50 ([p1,t2.1,([]:(List Str)),[name_],((([]:List Str)++p1)++p1),t5.1,((([]:List Str)++t5.1)++[name_])]++[((([]:List Str)++t12)++t13)]))) else (j50 [p1,t2.1,([]:(List Str)),[name_],((([]:List Str)++p1)++p1),t5.1,((([]:List Str)++t5.1)++[name_])])))
instance Qlo:SpcS prog 4 (∀{l_:(List Int)} {m_:(List Int)} {pick_:(List Int)} {at_:Int} {by_:Int} {name_:Str} {r:Bool},QdS l_ m_ pick_ at_ by_ name_=some r->FnOk prog 4 [tsl rI l_,tsl rI m_,tsl rI pick_,ti at_,ti by_,tv (.string (sB name_))] [glo] (λ_=>[]) (λ_=>tb r)):=.mk λ{l_ m_ pick_ at_ by_ name_ r} h=>by
 unfold QdS at h
 refine Fe func4 ntmps4 λM0 M w0 hpl=>?_
 refine Qa [1,2,3,4,6] ?_
 have⟨_,_,t0,_,h⟩:=bs2 h
 refine QM [v1 4 (λv0=>box (Qd.cs zz4) v0),v1 4 (λv0=>box (Qd.cs t0) v0)] [5,6] [4,7,8,9] λm0=>?_
 refine Q1 (λ_ _ H=>(((H.Xk [1,0] rfl).Xl 0 rfl).add 0 rfl (λ_ _ _ h=>h.2)).pick [0,3,4,5]) ?_
 have⟨t1,_,h⟩:=bs h
 refine Qa [5,7,8,9,10] ?_
 refine Qa [0,1,2,3,4,5] ?_
 refine Q1 (λ_ _ H=>H.nil (rS) 9) ?_
 refine Qf λK0 k0=>?_
 refine Qa [0,1,2,3,4,5,6] ?_
 have⟨e0,h0,h⟩:=bs h
 have J0:∀(p0:List Str) (y0:Value),p0=e0->To M w0 129 [(16,tv y0),(14,tsl rS t1.1),(13,tptr (Qd.cs t0)),(3,ti at_),(5,tv (.string (sB name_)))] [own rS 9 p0 y0,glo] K0:=by
  intro p0 y0 he;subst he;refine k0 ?_;have⟨t2,h1,h⟩:=bs h;intro a w H;refine sr mx [] H (λ_=>.o (Qae Qcm z2)<|.u [1] rfl rfl ((QL call9 (Qso.ok h1) (.cons (.of z0)<|.nil)).glo)<|.q 0 rfl<|.o (Qag z0 rfl)<|.o (Qag z1 rfl)<|.o (Qp z1)<|.o (Qp z1)<|.n) λ_ a w H=>?_;have H:=H.to [5,6,7,8,9,10,11] [_,_,_,_,_,_,_] [_,_] rfl rfl;refine Q6 H ?_;refine Q1 (by intro _ _ H;exact (H.Xn 2 rfl).pick [0,1,2,4,5,6,7]) ?_;have⟨_,h2,_,h3,_,h4,_,h5,h⟩:=bs4 h;intro a w H;refine sr mx [v1 4 (λv0=>own rS 9 ([]:List Str) v0),v1 6 (λv0=>own rS 9 (([]:List Str)++p0) v0),v1 10 (λv0=>own rS 9 ([]:List Str) v0),v1 12 (λv0=>own rS 9 (([]:List Str)++t2.1) v0),v1 16 (λv0=>own (rSl rS) 25 [p0,t1.1,([]:(List Str)),[name_],((([]:List Str)++p0)++p0),t2.1,((([]:List Str)++t2.1)++[name_])] v0)] H (λ_=>.q 0 rfl<|.q 4 rfl<|.q 8 rfl<|.o (Qam (R:=rS) (us:=[name_]) ud25 tok9 (.cons z0<|.nil _) rfl (leb rfl))<|.m [] [1] rfl rfl rfl (Qdb (R:=rS) (us:=([]:List Str)) ud25 tok9 (.nil _) rfl (leb rfl) (leb rfl))<|.q 5 rfl<|.e [] [1] [2] rfl rfl rfl rfl (QaD (R:=rS) ud25 tok9 (leb rfl) z1 z0 h2)<|.q 7 rfl<|.e [] [2] [] rfl rfl rfl rfl (.roE (QaD (R:=rS) ud25 tok9 (leb rfl) z1 z0 h3))<|.q 10 rfl<|.m [] [3] rfl rfl rfl (Qdb (R:=rS) (us:=([]:List Str)) ud25 tok9 (.nil _) rfl (leb rfl) (leb rfl))<|.q 12 rfl<|.e [] [3] [4] rfl rfl rfl rfl (QaD (R:=rS) ud25 tok9 (leb rfl) z1 z0 h4)<|.q 19 rfl<|.o (Qam (R:=rS) (us:=[name_]) ud25 tok9 (.cons z0<|.nil _) rfl (leb rfl))<|.e [] [4] [] rfl rfl rfl rfl (.roE (QaD (R:=rS) ud25 tok9 (leb rfl) z2 z0 h5))<|.m [] [5] rfl rfl rfl (Qdb (R:=(rSl rS)) (us:=[p0,t1.1,([]:(List Str)),[name_],((([]:List Str)++p0)++p0),t2.1,((([]:List Str)++t2.1)++[name_])]) underlying42 QiR (.cons z15<|.cons z14<|.cons .nilsl<|.cons z12<|.cons z7<|.cons z6<|.cons z0<|.nil _) rfl (leb rfl) (leb rfl))<|.ud (f:=λv=>tv v) 16 rfl [] rfl rfl (Qp z0)<|.n) λm1 a w H=>?_;have H:=H.to [16,17,19,20,22,23] [_,_,_,_,_,_] [_,_] rfl rfl;refine Q6 H ?_;refine Qf λK1 k1=>Qa [2,3,4,5,6,7,8] ?_;obtain⟨j50,hj50,h⟩:=QhO h;have J1:∀(p1:List (List Str)) (y1:Value),j50 p1=some r->To M w0 129 [(20,tv y1),(19,ti t2.2),(13,tptr (Qd.cs t0))] [glo,own (rSl rS) 25 p1 y1] K1:=by
   intro p1 y1 h;rw[hj50] at h;clear hj50;refine k1 <|Qf λK2 k2=>Qa [0,1,2,3] ?_;have⟨e1,h6,h⟩:=bs h;have J2:∀(p2:Unit),(.inl p2)=e1->To M w0 129 [(19,ti t2.2)] [glo] K2:=by
    intro p2 he;subst he;simp only at h;refine k2 ?_;have⟨t3,h7,h⟩:=bs h;intro a w H;refine sr mx [] H (λ_=>.q 0 rfl<|.o (QcO z0 .k)<|.q 0 rfl<|.g rfl rfl bq0 (λ_=>Qat z3)<|.g rfl rfl bq1 (λhc=>QcO (.cond z0 hc) .k)<|.o (Qny z2 (λhp=>(.cond z0 (beqF hp))))<|.q 0 rfl<|.g rfl rfl bq0 (λ_=>Qat z7)<|.g rfl rfl bq1 (λhc=>QcO (.cond z0 hc) .k)<|.o (Qny z2 (λhp=>(.cond z0 (beqF hp))))<|.q 0 rfl<|.gu [0] rfl rfl rfl bq0 (λhc=>(QL QvM (QoW.ok (QgH h7 hc)) (.nil)).glo)<|.o (QdO z1 (λhp=>(.cond z0 (beqT hp))))<|.o (Qp z0)<|.n) λ_ a w H=>?_;have H:=H.to [13] [_] [_] rfl rfl;refine Q6 H ?_;exact Qo h (·▸Qm hpl)
   have J3:∀(p3:Bool),(.inr p3)=e1->To M w0 129 [(12,tb p3)] [glo] (Ret prog f4 M0 [glo] w0 (λ_=>[]) (λ_=>tb r) .ret):=by
    intro p3 he;subst he;simp only at h;obtain rfl:=sj h;exact Qm hpl
   refine Qj <|Qai h6 (λ(s0:Int)=>[(23,ti s0),(20,tv y1),(19,ti t2.2),(13,tptr (Qd.cs t0))]) (λ(s0:Int)=>[glo,own (rSl rS) 25 p1 y1]) [0,1,2,3] ?_;clear h;intro s0 o K3 h ho k3;refine Qf λ_ k4=>Qa [1,3,4,5,6,7] ?_;refine QfI 1 (λb0=>?_) (λb0=>?_)
   ·replace h:=Qdc b0 h;refine Qq <|k4 <|Qf λ_ k5=>Qj ?_;have⟨_,h8,_,_,h⟩:=bs2 h;replace h:=bk h8 h;have⟨_,_,h⟩:=bs h;refine Qa [1,7,12,13,15,16,17,18] ?_;refine QfI 2 (λb1=>?_) (λb1=>?_)
    ·replace h:=Qdc b1 h;refine Qa [0,1,2,4,6] ?_;refine Qal ?_;refine Qah (λ_ _ H=>(H.pick [0]).Xk [0] rfl) ?_;exact Qu J3 (ho _ (sj h).symm) [0]
    replace h:=Qdd b1 h;refine Qq <|k5 <|QJ [2,3,4,6,7,8,9] ?_;exact Qu k3 ((sj h).symm) [0,4,5,6]
   replace h:=Qdd b0 h;refine QN <|Qah (λ_ _ H=>(H.pick [4]).Xk [0] rfl) ?_;exact Qu J2 (ho _ (sj h).symm) [0]
  clear hj50;refine Qn h (λ_ h=>?_) (λ_ h=>?_)
  ·have⟨_,_,h⟩:=bs h;refine Qa [4,6,7,8,9,10] ?_;have⟨t4,h9,_,h10,t5,h11,_,h12,h⟩:=bs4 h;intro a w H;refine sr mx [v1 0 (λv0=>own rS 9 ([]:List Str) v0),v1 4 (λv0=>own rS 9 (([]:List Str)++t4) v0)] H (λ_=>.m [] [2] rfl rfl rfl (Qdb (R:=rS) (us:=([]:List Str)) ud25 tok9 (.nil _) rfl (leb rfl) (leb rfl))<|.q 4 rfl<|.q 2 rfl<|.o (Qjk ud25 tok9 z1 (.no _) (.op z0) h9)<|.e [] [2] [3] rfl rfl rfl rfl (QaD (R:=rS) ud25 tok9 (leb rfl) z3 z0 h10)<|.q 8 rfl<|.q 6 rfl<|.o (QaI z0 .k)<|.o (Qjk ud25 tok9 z2 (.op z0) (.no _) h11)<|.e [] [3] [] rfl rfl rfl rfl (.roE (QaD (R:=rS) ud25 tok9 (leb rfl) z4 z0 h12))<|.o (Qp z0)<|.n) λ_ a w H=>?_;have H:=H.to [10,12,13,15,16] [_,_,_,_,_] [_,_] rfl rfl;refine Q6 H ?_;have⟨_,_,h⟩:=bs h;refine tIfs h [3,4,5,6,7,8] (λ_ h=>?_) (λ_ h=>?_)
   ·refine Qa [0,3,4] ?_;exact Qo h (·▸Qm hpl)
   have⟨_,_,h⟩:=bs h;refine Qau [v1 3 (λv0=>own (rSl rS) 25 ([p0,t1.1,([]:(List Str)),[name_],((([]:List Str)++p0)++p0),t2.1,((([]:List Str)++t2.1)++[name_])]++[((([]:List Str)++t4)++t5)]) v0)] [4] [3,4,8,9] λm2=>?_;exact QX J1 (m2 3) h [1,2,3]
  refine Qq <|QX J1 (m1 16) h [2,4,5]
 refine Qj <|QaF h0 (λ(s1:Int×List Str) (y2:Value)=>[(17,ti s1.1),(16,tv y2),(14,tsl rS t1.1),(13,tptr (Qd.cs t0)),(2,tsl rI pick_),(3,ti at_),(5,tv (.string (sB name_)))]) (λ(s1:Int×List Str) (y2:Value)=>[own rS 9 s1.2 y2,glo]) (.slice none 0 0) [0,1,2,3,4,5,6] ?_;clear h;intro s1 y2 o K4 h ho k6;refine Qf λ_ k7=>Qa [3,4,5,6,7,8,9,10] ?_;refine Qn h (λ_ h=>?_) (λ_ h=>?_)
 ·refine Qq <|k7 <|Qf λK5 k8=>Qj ?_;have⟨_,_,h⟩:=bs h;refine Qa [3,5,6,7,8,9,10,11] ?_;have⟨p4,h13,h⟩:=bs h;have J4:∀(y3:Value),To M w0 129 [(16,tv y3),(17,ti s1.1),(14,tsl rS t1.1),(13,tptr (Qd.cs t0)),(2,tsl rI pick_),(3,ti at_),(5,tv (.string (sB name_)))] [glo,own rS 9 p4 y3] K5:=by
   intro y3;refine k8 <|QJ [2,3,4,5,6,7,8] ?_;refine Qah (λ_ _ H=>(H.pick [0,1,2,3,4,5,6]).Xk [1,0] rfl) ?_;exact QX k6 y3 ((sj h).symm) [0,1,2,3,4,5,6]
  replace h:=h13;clear h13;refine Qn h (λ_ h=>?_) (λ_ h=>?_)
  ·have⟨t6,_,_,_,h⟩:=bs2 h;refine Qau [v1 6 (λv0=>own rS 9 (s1.2++[t6]) v0)] [7] [6,7,9,10,11,12,13,14] λm3=>?_;obtain rfl:=sj h;exact QR (J4 (m3 6)) [1,2,3,4,5,6,7]
  refine Qq ?_;obtain rfl:=sj h;refine Qah (λ_ _ H=>(H.pick [2,1,3,4,5,6,7]).Xk [1,0] rfl) ?_;exact QR (J4 y2) [0,1,2,3,4,5,6]
 refine QN <|QX J0 y2 (ho _ (sj h).symm) [2,3,4,6,7]

/- The walk. No condition. -/
import Derived.Test.YtjioihpegfgbpaaGreatDoorGenO
set_option linter.all false
open Go.Proofs.Tryz Go.IntKind
namespace Go.Proofs.YtjioihpegfgbpaaGreatDoor
noncomputable section
open Go.Sim
set_option maxRecDepth 100000
set_option maxHeartbeats 4000000
def QfQ:Option (Bool):=(Qbl (Qa.mk 0 [(Qh.mk ([97]:Str) 0 9 [(Qd.mk ([105,100]:Str) ([]:Str) ([]:Str) 0 0 0 ([]:(List Str)) ([]:(List Int))),(Qd.mk ([110]:Str) ([]:Str) ([]:Str) 2 0 9 ([]:(List Str)) ([]:(List Int)))])] ([]:(List Qr)) ([]:(List Qm))) [(Qn.mk 3 ([97]:Str) ([110]:Str) ([]:Str) 10 5)]).bind λt0=>(QfP (Qa.mk 0 [(Qh.mk ([97]:Str) 0 9 [(Qd.mk ([105,100]:Str) ([]:Str) ([]:Str) 0 0 0 ([]:(List Str)) ([]:(List Int))),(Qd.mk ([110]:Str) ([]:Str) ([]:Str) 2 0 9 ([]:(List Str)) ([]:(List Int)))])] ([]:(List Qr)) ([]:(List Qm))) [[[(0:Int),(4:Int)]]] [(Qn.mk 3 ([97]:Str) ([110]:Str) ([]:Str) 10 5)]).bind λt1=>(Qe3 (Qa.mk 0 [(Qh.mk ([97]:Str) 0 9 [(Qd.mk ([105,100]:Str) ([]:Str) ([]:Str) 0 0 0 ([]:(List Str)) ([]:(List Int))),(Qd.mk ([110]:Str) ([]:Str) ([]:Str) 2 0 9 ([]:(List Str)) ([]:(List Int)))])] ([]:(List Qr)) ([]:(List Qm))) [[[(0:Int),(46:Int)]]] [(Qn.mk 3 ([97]:Str) ([110]:Str) ([]:Str) 10 5)]).bind λt2=>(Qe3 (Qa.mk 0 [(Qh.mk ([97]:Str) 0 9 [(Qd.mk ([105,100]:Str) ([]:Str) ([]:Str) 0 0 0 ([]:(List Str)) ([]:(List Int))),(Qd.mk ([110]:Str) ([]:Str) ([]:Str) 2 0 9 ([]:(List Str)) ([]:(List Int)))])] ([]:(List Qr)) ([]:(List Qm))) t1.1 [(Qn.mk 3 ([97]:Str) ([110]:Str) ([]:Str) 10 5)]).bind λt3=>(QcS (Qa.mk 0 [(Qh.mk ([97]:Str) 0 9 [(Qd.mk ([105,100]:Str) ([]:Str) ([]:Str) 0 0 0 ([]:(List Str)) ([]:(List Int))),(Qd.mk ([110]:Str) ([]:Str) ([]:Str) 2 0 9 ([]:(List Str)) ([]:(List Int)))])] ([]:(List Qr)) ([]:(List Qm))) [(Qn.mk 3 ([97]:Str) ([110]:Str) ([]:Str) 10 5)]).bind λt4=>(if ((((((((t0.2 !=0)||(t1.2 !=0))||(t2.2 !=16))||(t3.2 !=0))||(t4.2 !=0))||t4.1)||(((t0.1).Xa.length:Int) !=1))||((t0.1).Version !=1))=true then (some false) else (idx (t0.1).Xa (0:Int)).bind λt5=>(opt (((t5.Xb.length:Int) !=2)==false) (idx (t0.1).Xa (0:Int)) default).bind λt6=>(opt (((t5.Xb.length:Int) !=2)==false) (idx t6.Xb 1) default).bind λt7=>(opt ((((t5.Xb.length:Int) !=2)||(t7.Lo !=5))==false) (idx (t0.1).Xa (0:Int)) default).bind λt8=>(opt ((((t5.Xb.length:Int) !=2)||(t7.Lo !=5))==false) (idx t8.Xb 1) default).bind λt9=>(if ((((t5.Xb.length:Int) !=2)||(t7.Lo !=5))||(t9.Hi !=95))=true then (some false) else (QgC t1.1 [[[(0:Int),(45:Int)]]]).bind λt10=>(opt (t10==true) (QgC t3.1 [[[(0:Int),(4:Int)]]]) default).bind λt11=>(some (t10&&t11))))
instance Qpp:SpcS prog 15 (∀{r:Bool},QfQ=some r->FnOk prog 15 [] [glo] (λ_=>[]) (λ_=>tb r)):=.mk λ{r} h=>by
 unfold QfQ at h
 refine Fe func15 ntmps15 λM0 M w0 hpl=>?_
 refine QyV [] ?_
 refine Qy5 [v1 6 (λv0=>box (Qb.cs zz4) v0),v1 6 (λv0=>box (Qb.cs (Qa.mk (0:Int) [(Qh.mk ([97]:Str) (0:Int) (9:Int) [(Qd.mk ([105,100]:Str) ([]:Str) ([]:Str) (0:Int) (0:Int) (0:Int) ([]:(List Str)) ([]:(List Int))),(Qd.mk ([110]:Str) ([]:Str) ([]:Str) (2:Int) (0:Int) (9:Int) ([]:(List Str)) ([]:(List Int)))])] ([]:(List Qr)) ([]:(List Qm)))) v0)] [7,8] [6] λm0=>?_
 refine Qy9 (λ_ _ H=>(((H.Xj [1,0] rfl).Xk 0 rfl).add 0 rfl (λ_ _ _ h=>h.2)).pick [0]) ?_
 refine tWeak (Γ':=[(1,tptr (Qb.cs (Qa.mk (0:Int) [(Qh.mk ([97]:Str) (0:Int) (9:Int) [(Qd.mk ([105,100]:Str) ([]:Str) ([]:Str) (0:Int) (0:Int) (0:Int) ([]:(List Str)) ([]:(List Int))),(Qd.mk ([110]:Str) ([]:Str) ([]:Str) (2:Int) (0:Int) (9:Int) ([]:(List Str)) ([]:(List Int)))])] ([]:(List Qr)) ([]:(List Qm)))))]) ?_
 intro a w H
 refine sr mx [] H (λ_=>.p (T:=Qv.ty (Qn.mk (3:Int) ([97]:Str) ([110]:Str) ([]:Str) (10:Int) (5:Int))) rfl (QaD underlying75 pl75 zv75 zc75 (.cons (R:=rI) (u:=(3:Int)) rfl .k (leb rfl)<|.cons (R:=rS) (u:=([97]:Str)) rfl .k (leb rfl)<|.cons (R:=rS) (u:=([110]:Str)) rfl .k (leb rfl)<|.cons (R:=rI) (u:=(10:Int)) rfl .k (leb rfl)<|.cons (R:=rI) (u:=(5:Int)) rfl .k (leb rfl)<|.nil _))<|.o (QK (R:=Qv) (us:=[(Qn.mk (3:Int) ([97]:Str) ([110]:Str) ([]:Str) (10:Int) (5:Int))]) ud39 Qde (.cons z0<|.nil _) rfl (leb rfl))<|.o (Qc z0)<|.n) λ_ a w H=>?_
 have H:=H.t2_1 [2,3]
 refine Qze H ?_
 have⟨t0,_,h⟩:=bs h
 refine Qy5 [v1 6 (λv0=>box (Qb.cs zz4) v0),v1 6 (λv0=>box (Qb.cs t0.1) v0)] [7,8] [6,7,8,9] λm1=>?_
 refine Qy9 (λ_ _ H=>(((H.Xj [1,0] rfl).Xk 0 rfl).add 0 rfl (λ_ _ _ h=>h.2)).pick [0,3,4,5]) ?_
 have⟨_,_,h⟩:=bs h
 refine QyV [9,10,11,12,13,14] ?_
 have⟨_,_,h⟩:=bs h
 refine QyV [10,11,12,13,14,15,16] ?_
 have⟨_,_,h⟩:=bs h
 refine QyV [7,8,9,10,11,12,13,14,15] ?_
 have⟨_,_,h⟩:=bs h
 refine QyV [6,7,8,9,10,11,12,13,14] ?_
 refine tIfs h [31,34,37,39] (λ_ h=>?_) (λ_ h=>?_)
 ·refine QyV [0] ?_
  exact QyZ h (·▸QyX hpl)
 have⟨_,_,_,_,_,_,_,_,h⟩:=bs4 h
 have⟨_,_,h⟩:=bs h
 refine tIfs h [28,30,31] (λ_ h=>?_) (λ_ h=>?_)
 ·refine QyV [0] ?_
  exact QyZ h (·▸QyX hpl)
 have⟨_,_,_,_,h⟩:=bs2 h
 refine QyV [12] ?_
 exact QyZ h (·▸QyX hpl)
def Qc7 (l_:(List Int)) (m_:(List Int)) (at_:Int) (how_:Int) (by_:Int) (other_:Int):Option (Bool):=(Qgj l_).bind λt0=>(Qg6 t0 m_ 5).bind λt1=>(Qgz t1 at_ how_ by_).bind λt2=>(Qgp t0 at_ how_ by_).bind λt3=>(Qgz t2 by_ other_ at_).bind λt4=>(Q2 other_ 5).bind λt5=>(mk (i64.wrap ((30:Int)+t5)) zz7).bind λt6=>(Qz (λ(s0:Int)=>((if (decide (s0<2))=true then (Qz (λ(s1:Int)=>((if (decide (s1<([t1,t2,t4,t6,([]:(List Qt))].length:Int)))=true then (idx [t0,t3] s0).bind λt7=>(idx [t1,t2,t4,t6,([]:(List Qt))] s1).bind λt8=>(QfJ t8).bind λt9=>(Qbl t7 t9).bind λt10=>(idx [t0,t3] s0).bind λt11=>(idx [t1,t2,t4,t6,([]:(List Qt))] s1).bind λt12=>(Qe1 t11 t12).bind λt13=>(idx [t0,t3] s0).bind λt14=>(idx [t1,t2,t4,t6,([]:(List Qt))] s1).bind λt15=>(QfJ t15).bind λt16=>(QcS t14 t16).bind λt17=>(idx [t0,t3] s0).bind λt18=>(idx [t1,t2,t4,t6,([]:(List Qt))] s1).bind λt19=>(QgA t18 t19).bind λt20=>(opt ((((t10.2 !=t13.2)||(t17.2 !=t20.2))||(t17.1 !=t20.1))==false) (QgB t10.1 t13.1) default).bind λt21=>(if ((((t10.2 !=t13.2)||(t17.2 !=t20.2))||(t17.1 !=t20.1))||(!t21))=true then (some (.inr (.inr false))) else (some (.inl (i64.wrap (s1+1))))) else (some (.inr (.inl ())))):Option ((Int)⊕((Unit)⊕(Bool))))) (0:Int)).bind λe0=>(match e0 with | .inl _=>(some (.inl (i64.wrap (s0+1)))) | .inr p0=>(some (.inr (.inr p0)))) else (some (.inr (.inl ())))):Option ((Int)⊕((Unit)⊕(Bool))))) (0:Int)).bind λe1=>(match e1 with | .inl _=>QfQ.bind λt22=>(some t22) | .inr p1=>(some p1))
instance Qkx:SpcS prog 3 (∀{l_:(List Int)} {m_:(List Int)} {at_:Int} {how_:Int} {by_:Int} {other_:Int} {r:Bool},Qc7 l_ m_ at_ how_ by_ other_=some r->FnOk prog 3 [tsl rI l_,tsl rI m_,ti at_,ti how_,ti by_,ti other_] [glo] (λ_=>[]) (λ_=>tb r)):=.mk λ{l_ m_ at_ how_ by_ other_ r} h=>by
 unfold Qc7 at h
 refine Fe func3 ntmps3 λM0 M w0 hpl=>?_
 refine QyV [1,2,3,4,5,6] ?_
 have⟨t0,_,h⟩:=bs h
 refine Qy5 [v1 2 (λv0=>box (Qb.cs zz4) v0),v1 2 (λv0=>box (Qb.cs t0) v0)] [3,4] [2,4,5,6,7,8] λm0=>?_
 refine Qy9 (λ_ _ H=>(((H.Xj [1,0] rfl).Xk 0 rfl).add 0 rfl (λ_ _ _ h=>h.2)).pick [0,3,4,5,6,7]) ?_
 have⟨t1,_,h⟩:=bs h
 refine QyV [3,4,6,7,8,9] ?_
 have⟨t2,_,h⟩:=bs h
 refine QyV [5,6,7,8,9,10,11] ?_
 have⟨t3,_,h⟩:=bs h
 refine QyV [7,8,9,11,13,14] ?_
 have⟨t4,h0,_,h1,t5,h2,h⟩:=bs3 h
 intro a w H
 refine sr mx [] H (λ_=>.q 2 rfl<|.q 2 rfl<|.q 3 rfl<|.q 7 rfl<|.q 9 rfl<|.q 8 rfl<|.o (Qq call6 (Qmc.ok h0) (.cons (.of z3)<|.cons (.of z2)<|.cons (.of z1)<|.cons (.of z0)<|.nil))<|.q 12 rfl<|.o (Qq Qfw (QaM.ok h1) (.cons (.of z0)<|.cons (.of .k)<|.nil))<|.o (Qab .k z0)<|.o (Qso (R:=Qx) ud29 Qa6 zok66 (leb rfl) z0 z0 h2)<|.o (QK (R:=(rSl Qx)) (us:=[t1,t2,t4,t5,([]:(List Qt))]) underlying35 tok29 (.cons z10<|.cons z9<|.cons z4<|.cons z0<|.cons .nilsl<|.nil _) rfl (leb rfl))<|.o (Qc z0)<|.n) λ_ a w H=>?_
 have H:=H.t2_1 [12,13]
 refine Qze H ?_
 refine QyY λK0 k0=>?_
 refine QyV [0,1,2] ?_
 have⟨e0,h3,h⟩:=bs h
 have J0:∀(p0:Unit),(.inl p0)=e0->To M w0 137 [] [glo] K0:=by
  intro p0 he;subst he;simp only at h;refine k0 ?_;have⟨_,_,h⟩:=bs h;refine QyV [1] ?_;exact QyZ h (·▸QyX hpl)
 have J1:∀(p1:Bool),(.inr p1)=e0->To M w0 137 [(12,tb p1)] [glo] (Ret prog f3 M0 [glo] w0 (λ_=>[]) (λ_=>tb r) .ret):=by
  intro p1 he;subst he;simp only at h;obtain rfl:=sj h;exact QyX hpl
 refine Qy1 <|Qzb h3 (λ(s0:Int)=>[(18,ti s0),(17,tsl (rSl Qx) [t1,t2,t4,t5,([]:(List Qt))]),(16,tsl Qb [t0,t3])]) (λ(s0:Int)=>[glo]) [0,1,2] ?_;clear h;intro s0 o K1 h ho k1;refine QyY λ_ k2=>QyV [1,2,3,4] ?_;refine Qy0 h (λ_ h=>?_) (λ_ h=>?_)
 ·refine Qy2 <|k2 <|QyY λK2 k3=>Qy1 <|QyV [0,2,3,4] ?_;have⟨e1,h4,h⟩:=bs h;have J2:∀(p2:Unit),(.inl p2)=e1->To M w0 137 [(18,ti s0),(17,tsl (rSl Qx) [t1,t2,t4,t5,([]:(List Qt))]),(16,tsl Qb [t0,t3])] [glo] K2:=by
   intro p2 he;subst he;simp only at h;refine k3 <|Qy6 [2,3,4] ?_;exact Qy4 k1 ((sj h).symm) [0,1,2]
  have J3:∀(p3:Bool),(.inr p3)=e1->To M w0 137 [(12,tb p3)] [glo] (Ret prog f3 M0 [glo] w0 (λ_=>[]) (λ_=>tb r) .ret):=by
   intro p3 he;subst he;simp only at h;exact Qy4 J1 (ho _ (sj h).symm) [0]
  refine Qy1 <|Qzb h4 (λ(s1:Int)=>[(19,ti s1),(18,ti s0),(17,tsl (rSl Qx) [t1,t2,t4,t5,([]:(List Qt))]),(16,tsl Qb [t0,t3])]) (λ(s1:Int)=>[glo]) [0,1,2,3] ?_;clear h;intro s1 o K3 h ho k4;refine QyY λ_ k5=>QyV [3,4,5,6,7] ?_;refine Qy0 h (λ_ h=>?_) (λ_ h=>?_)
  ·refine Qy2 <|k5 <|QyY λ_ k6=>Qy1 ?_;have⟨_,_,_,_,_,_,t6,_,h⟩:=bs4 h;refine Qy5 [v1 13 (λv0=>box (Qb.cs zz4) v0),v1 13 (λv0=>box (Qb.cs t6.1) v0)] [14,15] [13,14,16,17,18,19] λm1=>?_;refine Qy9 (λ_ _ H=>(((H.Xj [1,0] rfl).Xk 0 rfl).add 0 rfl (λ_ _ _ h=>h.2)).pick [0,3,4,5,6,7]) ?_;have⟨_,_,_,_,t7,_,h⟩:=bs3 h;refine Qy5 [v1 12 (λv0=>box (Qb.cs zz4) v0),v1 12 (λv0=>box (Qb.cs t7.1) v0)] [13,14] [12,13,14,15,16,17,18,19] λm2=>?_;refine Qy9 (λ_ _ H=>(((H.Xj [1,0] rfl).Xk 0 rfl).add 0 rfl (λ_ _ _ h=>h.2)).pick [0,3,4,5,6,7,8,9]) ?_;have⟨_,_,_,_,_,_,t8,_,h⟩:=bs4 h;refine QyV [13,14,15,16,17,18,19,20,21,22] ?_;have⟨_,_,_,_,t9,_,h⟩:=bs3 h;refine QyV [12,13,14,15,16,17,18,19,20,21,22,23] ?_;have⟨t10,h5,h⟩:=bs h;refine tWeak (Γ':=[(26,tb t9.1),(27,ti t9.2),(24,tb t8.1),(25,ti t8.2),(22,tptr (Qb.cs t7.1)),(23,ti t7.2),(20,tptr (Qb.cs t6.1)),(21,ti t6.2),(19,ti s1),(18,ti s0),(17,tsl (rSl Qx) [t1,t2,t4,t5,([]:(List Qt))]),(16,tsl Qb [t0,t3])]) ?_;intro a w H;refine sr mx [] H (λ_=>.q 7 rfl<|.q 6 rfl<|.o (QaI z1 z0)<|.q 0 rfl<|.g rfl rfl bq0 (λ_=>QL z7)<|.g rfl rfl bq1 (λ_=>QL z6)<|.g rfl rfl bq2 (λhc=>QaI (.cond z1 hc) (.cond z0 hc))<|.o (Qbo z3 (λhp=>(.cond z0 (beqF hp))))<|.q 0 rfl<|.g rfl rfl bq0 (λ_=>QL z11)<|.g rfl rfl bq1 (λ_=>QL z10)<|.g rfl rfl bq2 (λhc=>Qw9 underlying4 (.cond z1 hc) (.cond z0 hc))<|.o (Qbo z3 (λhp=>(.cond z0 (beqF hp))))<|.q 0 rfl<|.g rfl rfl bq0 (λ_=>Qw QH z20)<|.g rfl rfl bq1 (λ_=>Qw QH z19)<|.g rfl rfl bq2 (λhc=>Qq Qz0 (Qqk.ok (QaZ h5 hc)) (.cons (.of (.cond z1 hc))<|.cons (.of (.cond z0 hc))<|.nil))<|.g rfl rfl bq3 (λhc=>Qex (.cond z0 hc))<|.o (Qbo z4 (λhp=>(.cond z0 (beqF hp))))<|.n) λ_ a w H=>?_;have H:=H.to [18,27,28,29,30] [_,_,_,_,_] [_] rfl rfl;refine Qze H ?_;refine Qy0 h (λ_ h=>?_) (λ_ h=>?_)
   ·refine QyV [0] ?_;refine Qzd ?_;exact Qy4 J3 (ho _ (sj h).symm) [0]
   refine Qy2 <|k6 <|Qy6 [2,4,5,6] ?_;exact Qy4 k4 ((sj h).symm) [0,1,2,3]
  refine Qy7 <|Qy4 J2 (ho _ (sj h).symm) [2,3,4]
 refine Qy7 <|Qy4 J0 (ho _ (sj h).symm) []

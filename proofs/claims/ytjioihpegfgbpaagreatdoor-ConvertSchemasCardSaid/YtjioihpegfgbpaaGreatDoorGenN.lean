/- The walk. No condition. -/
import Derived.Test.YtjioihpegfgbpaaGreatDoorGenM
set_option linter.all false
open Go.Proofs.Tryz Go.IntKind
namespace Go.Proofs.YtjioihpegfgbpaaGreatDoor
noncomputable section
open Go.Sim
set_option maxRecDepth 100000
set_option maxHeartbeats 4000000
def Qed (x_:Qa) (w_:(List (List (List Int)))):Option (Qam×Int):=(Qd4 x_).bind λt0=>(if (decide ((t0.length:Int)>0))=true then none else (if ((w_.length:Int) !=(x_.Xa.length:Int))=true then none else (Qz (λ(s0:Int)=>((if (decide (s0<(x_.Xa.length:Int)))=true then (idx x_.Xa s0).bind λt1=>(Qz (λ(s1:Int)=>((if (decide (s1<(t1.Xb.length:Int)))=true then (idx t1.Xb s1).bind λt2=>(if (t2.Xh==1)=true then none else (some (.inl (i64.wrap (s1+1))))) else (some (.inr ()))):Option ((Int)⊕((Unit))))) (0:Int)).bind λ_=>(some (.inl (i64.wrap (s0+1)))) else (some (.inr ()))):Option ((Int)⊕((Unit))))) (0:Int)).bind λ_=>(Qz (λ(s2:Int)=>((if (decide (s2<(w_.length:Int)))=true then (idx w_ s2).bind λt3=>(opt ((decide ((t3.length:Int)>512))==false) (Qca t3 (λx0=>Qdy x0 x_ s2)) default).bind λt4=>(if ((decide ((t3.length:Int)>512))||t4)=true then none else (some (.inl (i64.wrap (s2+1))))) else (some (.inr ()))):Option ((Int)⊕((Unit))))) (0:Int)).bind λ_=>(Qz (λ(s3:Unit)=>((if (decide ((0:Int)<(([]:(List QJ)).length:Int)))=true then none else (some (.inr ()))):Option ((Unit)⊕((Unit))))) ()).bind λ_=>(Qcy (λ(s4:Unit) (m110:(Int×Qr))=>(none:Option ((Unit)⊕(Unit)))) () x_.Xd).bind λt5=>(match t5 with | .inl s4=>(some ((Qam.mk x_ w_ ([]:(List QJ)) () () ([]:List Qy)),(0:Int))) | .inr _=>none)))
instance Qmi:SpcS prog 93 (∀{x_:Qa} {w_:(List (List (List Int)))} {r:Qam×Int},Qed x_ w_=some r->FnOk prog 93 [Qb.ty x_,tsl (rSl (rSl rI)) w_] [glo] (λv=>[box (Qb.cs (r.1).x++[tsl (rSl (rSl rI)) (r.1).w,tsl QY (r.1).links,tone,tone,tvs (gh v 1)]) (gh v 0),own QM 152 (r.1).out (gh v 1)]) (λv=>ttup [tv (gh v 0),ti r.2])):=.mk λ{x_ w_ r} h=>by
 unfold Qed at h
 refine FnOk.enterM func93 rfl ntmps93 (leb rfl) (λM0 M w0 a hpl H=>?_)
 replace H:St M w0 177 [(0,Qb.ty x_),(1,tsl (rSl (rSl rI)) w_)] [glo] a w0:=H
 refine sr mx [] H (λ_=>.o (Q9 (R:=Qb) (u:=x_) z0)<|.o (Qc .k)<|.o (Qc .k)<|.n) λ_ a w H=>?_
 have H:=H.t2_1 [0,4]
 refine wp_seq_k (λ_ k0=>?_)
 have⟨t0,h0,h⟩:=bs h
 refine sr mx [] H (λ_=>.o (Qw QH z0)<|.u [0] rfl rfl ((Qq QuE (QkL.ok h0) (.cons (.of z0)<|.nil)).glo)<|.o (Qc z0)<|.n) λ_ a w H=>?_
 have H:=H.t3_1 [2,3,4]
 refine sr mx [] H (λ_=>.q 0 rfl<|.o (Q1 underlying135 z0)<|.o (QcK z0 .k)<|.n) λ_ a w H=>?_
 have H:=H.t3_1 [2,4,5]
 refine wi H h (λb0 h=>?_) (λb0 h=>?_)
 ·cases h
 refine wp_skip (k0 _ _ ?_)
 refine sr mx [v1 5 (λv0=>box (Qb.cs x_++[tsl (rSl (rSl rI)) w_,tsl QY ([]:(List QJ)),tone,tone,tvs nilV]) v0),v1 6 (λv0=>box [tvs (.pointer none)] v0),v2 5 6 (λv0 v1=>box [tvs v0] v1)] H (λ_=>.o (Qw QH z1)<|.q 3 rfl<|.o (QnF)<|.o (QnF)<|.p (T:=tagg (Qb.cs x_++[tsl (rSl (rSl rI)) w_,tsl QY ([]:(List QJ)),tone,tone,tvs nilV])) rfl (QaD underlying186 pl186 zv186 Qup.1 (.cons (R:=Qb) (u:=x_) rfl z3 (leb rfl)<|.cons (R:=(rSl (rSl (rSl rI)))) (u:=w_) rfl z2 (leb rfl)<|.cons (R:=rOne) (u:=()) rfl z1 (leb rfl)<|.cons (R:=rOne) (u:=()) rfl z0 (leb rfl)<|.nil _))<|.m [] [1] rfl rfl rfl (Qn4 (R:=(rAgg (Qb.cs x_++[tsl (rSl (rSl rI)) w_,tsl QY ([]:(List QJ)),tone,tone,tvs nilV]) (Qna (Qm9 Qb) (Qk QaH (Qk QaH (Qk Qj8 (Qk Qj8 (Qk QU Q5)))))))) (u:=()) z0)<|.m [] [2] rfl rfl rfl (QV (R:=rVal) (a:=.pointer none) Qnk zokP)<|.e [1] [2] [3] rfl rfl rfl rfl (Qub Qnk z0 z1)<|.n) λm0 a w H=>?_
 replace H:St _ _ _ [_,_,_] [_,_,_] _ _:=(((((H.pick [6,8,9]).nil (QM) 152).Xj [3,0,1,2] rfl).Xk 0 rfl).add 0 rfl (λ_ _ _ h=>h.2)).pick [0,3,4]
 refine wp_seq_k (λ_ k1=>?_)
 refine sr mx [] H (λ_=>.q 2 rfl<|.o (Q1 ud84 z0)<|.o (Qg QZ z3)<|.o (Qf (u:=x_.Xa) Qa0 z0 rfl)<|.o (Q1 ud23 z0)<|.o (QaI z3 z0)<|.n) λ_ a w H=>?_
 have H:=H.t4_3 [5,6,7,8]
 refine wi H h (λb1 h=>?_) (λb1 h=>?_)
 ·cases h
 refine wp_skip (k1 _ _ ?_)
 refine wp_seq_k (λK0 k2=>?_)
 refine sr mx [] H (λ_=>.o (Qg QZ z2)<|.o (Qf (u:=x_.Xa) Qa0 z0 rfl)<|.o (Q1 ud23 z0)<|.o (QL .k)<|.n) λ_ a w H=>?_
 have H:=H.t6_3 [1,2,3,5,6,7]
 have⟨e0,h1,h⟩:=bs h
 have J0:∀(p0:Unit) a w,p0=e0->St M w0 177 [(7,tptr (rVal.cs (m0 5))),(2,tptr (Qb.cs x_)),(1,tsl (rSl (rSl rI)) w_)] [own QM 152 ([]:List Qy) nilV,glo,box (Qb.cs x_++[tsl (rSl (rSl rI)) w_,tsl QY ([]:(List QJ)),tone,tone,tvs nilV]) (m0 5)] a w->K0 a w:=by
  intro p0 a w he H;subst he;refine k2 _ _ ?_;refine wp_seq_k (λK1 k3=>?_);refine sr mx [] H (λ_=>.q 2 rfl<|.o (Q1 ud84 z0)<|.o (QL .k)<|.n) λ_ a w H=>?_;have H:=H.to [0,1,2,3,4] [_,_,_,_,_] [_,_,_] rfl rfl;have⟨e1,h2,h⟩:=bs h;have J1:∀(p1:Unit) a w,p1=e1->St M w0 177 [(7,tptr (rVal.cs (m0 5))),(2,tptr (Qb.cs x_))] [own QM 152 ([]:List Qy) nilV,glo,box (Qb.cs x_++[tsl (rSl (rSl rI)) w_,tsl QY ([]:(List QJ)),tone,tone,tvs nilV]) (m0 5)] a w->K1 a w:=by
   intro p1 a w he H;subst he;refine k3 _ _ ?_;refine wp_seq_k (λK2 k4=>?_);refine sr mx [] H (λ_=>.o (QqU Qnk z0)<|.u [2] rfl rfl (Qa5 z0)<|.u [2] rfl rfl (QC Qrh z0)<|.u [2] rfl rfl (QaY (R:=(rSl QY)) (u:=([]:(List QJ))) Qrb z0 rfl)<|.o (Q1 underlying182 z0)<|.o (QL .k)<|.n) λ_ a w H=>?_;have H:=H.t4_3 [4,5,6,7];have⟨e2,h3,h⟩:=bs h;have J2:∀(p2:Unit) a w,p2=e2->St M w0 177 [(7,tptr (rVal.cs (m0 5))),(2,tptr (Qb.cs x_))] [own QM 152 ([]:List Qy) nilV,glo,box (Qb.cs x_++[tsl (rSl (rSl rI)) w_,tsl QY ([]:(List QJ)),tone,tone,tvs nilV]) (m0 5)] a w->K2 a w:=by
    intro p2 a w he H;subst he;refine k4 _ _ ?_;refine wp_seq_k (λ_ k5=>?_);refine sr mx [] H (λ_=>.o (Qg Qct z1)<|.o (Qf (u:=x_.Xd) Qiw z0 rfl)<|.o (Qq Qxv Qkw (.cons (.of z0)<|.nil))<|.n) λ_ a w H=>?_;have H:=H.t2_3 [2,3];refine wp_block ?_;have⟨t1,h4,h⟩:=bs h;have H:=H.t2_3 [0,1];refine Qom (va:=λ(i:Int×Qr)=>.int .i64 i.1) (vb:=λ(i:Int×Qr)=>val59 i.2) (A:=(λ(s1:Unit) _=>[own QM 152 ([]:List Qy) nilV,glo,box (Qb.cs x_++[tsl (rSl (rSl rI)) w_,tsl QY ([]:(List QJ)),tone,tone,tvs nilV]) (m0 5)])) (s0:=()) (g0:=undef) (jump:=.ret) (jx:=.ret) .ret H z0 QxA (QjA h4) (by decide) (by decide) (by decide) rfl (λs1 _ m110 r h M0 M w0 a l LR112 LB112 K Q hLB112 hpl H hK hN hX=>?_) (λs1 _ D a w M he hpm H=>?_) (λs1 _ D a w M he hpm H=>?_)
    ·cases h
    ·subst he;simp only at h;replace hpl:=hpm _ _ hpl;have H:=H.to [1] [_] [_,_,_,_] rfl rfl;refine k5 _ _ ?_;refine sr mx [] H (λ_=>.o (QqU Qnk z0)<|.o (Qc z0)<|.o (Qc .k)<|.n) λ_ a w H=>?_;have H:=H.to [1,2] [_,_] [_,_,_,_] rfl rfl;refine wp_ret ?_;obtain rfl:=sj h;exact QlK (.tuple #[(m0 5),nilV]) [3,1] hpl H rfl (.tmp z0 (.tmp z1 .nil)) rfl rfl rfl
    subst he;simp only at h;cases h
   refine wp_block ?_;refine Qag _ (λ(s2:Unit) a w=>St M w0 177 [(99,ti (([]:(List QJ)).length:Int)),(100,ti (0:Int)),(7,tptr (rVal.cs (m0 5))),(2,tptr (Qb.cs x_))] [own QM 152 ([]:List Qy) nilV,glo,box (Qb.cs x_++[tsl (rSl (rSl rI)) w_,tsl QY ([]:(List QJ)),tone,tone,tvs nilV]) (m0 5)] a w) _ _ h3 (H.pick [0,1,2,3]) ?_;clear h;intro s2 o a w K3 hI h ho k6;have H:=hI;clear hI;refine sr mx [] H (λ_=>.o (Q8 z1 z0)<|.n) λ_ a w H=>?_;have H:=H.to [0,3,4] [_,_,_] [_,_,_] rfl rfl;refine wp_seq_k (λ_ k7=>?_);refine wi H h (λb2 h=>?_) (λb2 h=>?_)
   ·cases h
   refine wp_exit ?_;exact J2 _ _ _ (ho _ (sj h).symm) (H.pick [1,2])
  refine wp_block ?_;refine Qag _ (λ(s3:Int) a w=>St M w0 177 [(79,tsl (rSl (rSl rI)) w_),(80,ti (w_.length:Int)),(81,ti s3),(7,tptr (rVal.cs (m0 5))),(2,tptr (Qb.cs x_))] [own QM 152 ([]:List Qy) nilV,glo,box (Qb.cs x_++[tsl (rSl (rSl rI)) w_,tsl QY ([]:(List QJ)),tone,tone,tvs nilV]) (m0 5)] a w) _ _ h2 (H.pick [0,1,2,3,4]) ?_;clear h;intro s3 o a w K4 hI h ho k8;have H:=hI;clear hI;refine sr mx [] H (λ_=>.o (Q8 z2 z1)<|.n) λ_ a w H=>?_;have H:=H.t6_3 [0,1,2,3,4,5];refine wp_seq_k (λ_ k9=>?_);refine wi H h (λb3 h=>?_) (λb3 h=>?_)
  ·refine wp_skip (k9 _ _ ?_);refine wp_seq_k (λ_ k10=>?_);refine wp_block ?_;have⟨t2,h5,h⟩:=bs h;refine sr mx [v1 3 (λv0=>box (rI.cs (0:Int)) v0),v1 3 (λv0=>box (rI.cs s3) v0)] H (λ_=>.q 3 rfl<|.o (QA ud84 QbX z2 z4 h5)<|.o (Qw QbX z0)<|.m [] [3] rfl rfl rfl (QV (R:=rI) (a:=(0:Int)) tok3 zok3)<|.e [] [3] [4] rfl rfl rfl rfl (QG (R:=rI) (a:=s3) tok3 z0 z3 (leb rfl))<|.o (Qc z1)<|.n) λ_ a w H=>?_;replace H:St _ _ _ [_,_,_,_,_,_,_] [_,_,_] _ _:=((((H.pick [3,4,6,7,8,9,10]).Xj [3,0,1,2] rfl).Xk 0 rfl).add 0 rfl (λ_ _ _ h=>h.2)).pick [0,3,4,5,6,7,8];have⟨t3,h6,h⟩:=bs h;refine sr mx [] H (λ_=>.q 1 rfl<|.o (Q1 ud87 z0)<|.o (QcK z0 .k)<|.q 0 rfl<|.g rfl rfl bq0 (λ_=>QL z5)<|.g rfl rfl bq1 (λ_=>Qjk (.cons z11<|.cons z5<|.nil))<|.g rfl rfl bq2 (λhc=>Qq Qxr (Qjq.ok (QaZ h6 hc)) (.cons (.of (.cond z1 hc))<|.cons (.of (Fct.Xn (.cond z0 hc) (Qlf Qxs (λ_ _ hq=>Qly.ok hq))))<|.nil))<|.o (Qbo z3 (λhp=>(.cond z0 (beqF hp))))<|.n) λ_ a w H=>?_;have H:=H.t6_3 [7,10,11,12,13,14];refine wi H h (λb4 h=>?_) (λb4 h=>?_)
   ·cases h
   refine wp_skip (k10 _ _ ?_);refine wr mx [] H (λ_=>.o (Qab z3 .k)<|.q 0 rfl<|.n) λ_ a w H=>?_;have H:=H.to [1,3,4,5,6] [_,_,_,_,_] [_,_,_] rfl rfl;exact k8 _ _ _ (sj h).symm (H.pick [1,2,0,3,4])
  refine wp_exit ?_;exact J1 _ _ _ (ho _ (sj h).symm) (H.pick [4,5])
 refine wp_block ?_;refine Qag _ (λ(s4:Int) a w=>St M w0 177 [(43,tsl Qp x_.Xa),(44,ti (x_.Xa.length:Int)),(45,ti s4),(7,tptr (rVal.cs (m0 5))),(2,tptr (Qb.cs x_)),(1,tsl (rSl (rSl rI)) w_)] [own QM 152 ([]:List Qy) nilV,glo,box (Qb.cs x_++[tsl (rSl (rSl rI)) w_,tsl QY ([]:(List QJ)),tone,tone,tvs nilV]) (m0 5)] a w) _ _ h1 (H.pick [0,1,2,3,4,5]) ?_;clear h;intro s4 o a w K5 hI h ho k11;have H:=hI;clear hI;refine sr mx [] H (λ_=>.o (Q8 z2 z1)<|.n) λ_ a w H=>?_;have H:=H.to [0,1,2,3,4,5,6] [_,_,_,_,_,_,_] [_,_,_] rfl rfl;refine wp_seq_k (λ_ k12=>?_);refine wi H h (λb5 h=>?_) (λb5 h=>?_)
 ·refine wp_skip (k12 _ _ ?_);refine wp_seq_k (λK6 k13=>?_);refine wp_block ?_;have⟨t4,h7,h⟩:=bs h;refine sr mx [v1 3 (λv0=>box (Qp.cs zz1) v0),v1 3 (λv0=>box (Qp.cs t4) v0)] H (λ_=>.q 3 rfl<|.o (QA ud23 Q6 z2 z4 h7)<|.o (Qw Q6 z0)<|.m [] [3] rfl rfl rfl (QV (R:=Qp) (a:=zz1) Q6 QkF)<|.o (Qc z3)<|.e [] [3] [4] rfl rfl rfl rfl (QG (R:=Qp) (a:=t4) Q6 z1 z2 (leb rfl))<|.n) λ_ a w H=>?_;replace H:St _ _ _ [_,_,_,_,_,_,_] [_,_,_] _ _:=((((H.pick [3,6,7,8,9,10,11]).Xj [3,0,1,2] rfl).Xk 0 rfl).add 0 rfl (λ_ _ _ h=>h.2)).pick [0,3,4,5,6,7,8];refine sr mx [] H (λ_=>.o (Qg Qaf z0)<|.o (Qf (u:=t4.Xb) QbG z0 rfl)<|.o (Q1 ud52 z0)<|.o (QL .k)<|.n) λ_ a w H=>?_;have H:=H.to [1,2,3,5,6,7,8,9,10] [_,_,_,_,_,_,_,_,_] [_,_,_] rfl rfl;have⟨e3,h8,h⟩:=bs h;have J3:∀(p3:Unit) a w,p3=e3->St M w0 177 [(43,tsl Qp x_.Xa),(44,ti (x_.Xa.length:Int)),(45,ti s4),(7,tptr (rVal.cs (m0 5))),(2,tptr (Qb.cs x_)),(1,tsl (rSl (rSl rI)) w_)] [own QM 152 ([]:List Qy) nilV,glo,box (Qb.cs x_++[tsl (rSl (rSl rI)) w_,tsl QY ([]:(List QJ)),tone,tone,tvs nilV]) (m0 5)] a w->K6 a w:=by
   intro p3 a w he H;subst he;refine k13 _ _ ?_;refine wr mx [] H (λ_=>.o (Qab z2 .k)<|.q 0 rfl<|.n) λ_ a w H=>?_;have H:=H.t6_3 [1,2,3,4,5,6];exact k11 _ _ _ (sj h).symm (H.pick [1,2,0,3,4,5])
  refine wp_block ?_;refine Qag _ (λ(s5:Int) a w=>St M w0 177 [(51,tsl Qe t4.Xb),(52,ti (t4.Xb.length:Int)),(53,ti s5),(43,tsl Qp x_.Xa),(44,ti (x_.Xa.length:Int)),(45,ti s4),(7,tptr (rVal.cs (m0 5))),(2,tptr (Qb.cs x_)),(1,tsl (rSl (rSl rI)) w_)] [own QM 152 ([]:List Qy) nilV,glo,box (Qb.cs x_++[tsl (rSl (rSl rI)) w_,tsl QY ([]:(List QJ)),tone,tone,tvs nilV]) (m0 5)] a w) _ _ h8 (H.pick [0,1,2,3,4,5,6,7,8]) ?_;clear h;intro s5 o a w K7 hI h ho k14;have H:=hI;clear hI;refine sr mx [] H (λ_=>.o (Q8 z2 z1)<|.n) λ_ a w H=>?_;have H:=H.to [0,1,2,3,4,5,6,7,8,9] [_,_,_,_,_,_,_,_,_,_] [_,_,_] rfl rfl;refine wp_seq_k (λ_ k15=>?_);refine wi H h (λb6 h=>?_) (λb6 h=>?_)
  ·refine wp_skip (k15 _ _ ?_);refine wp_seq_k (λ_ k16=>?_);refine wp_block ?_;have⟨t5,h9,h⟩:=bs h;refine sr mx [v1 3 (λv0=>box (Qe.cs zz0) v0),v1 3 (λv0=>box (Qe.cs t5) v0)] H (λ_=>.q 3 rfl<|.o (QA ud52 Q4 z2 z4 h9)<|.o (Qw Q4 z0)<|.m [] [3] rfl rfl rfl (QV (R:=Qe) (a:=zz0) Q4 QgM)<|.o (Qc z3)<|.e [] [3] [4] rfl rfl rfl rfl (QG (R:=Qe) (a:=t5) Q4 z1 z2 (leb rfl))<|.n) λ_ a w H=>?_;replace H:St _ _ _ [_,_,_,_,_,_,_,_,_,_] [_,_,_] _ _:=((((H.pick [3,6,7,8,9,10,11,12,13,14]).Xj [3,0,1,2] rfl).Xk 0 rfl).add 0 rfl (λ_ _ _ h=>h.2)).pick [0,3,4,5,6,7,8,9,10,11];refine sr mx [] H (λ_=>.o (Qg QbY z0)<|.o (Qf (u:=t5.Xh) tok3 z0 rfl)<|.o (Qau z0 .k)<|.n) λ_ a w H=>?_;have H:=H.to [2,4,5,6,7,8,9,10,11,12] [_,_,_,_,_,_,_,_,_,_] [_,_,_] rfl rfl;refine wi H h (λb7 h=>?_) (λb7 h=>?_)
   ·cases h
   refine wp_skip (k16 _ _ ?_);refine wr mx [] H (λ_=>.o (Qab z3 .k)<|.q 0 rfl<|.n) λ_ a w H=>?_;have H:=H.to [1,3,4,5,6,7,8,9,10] [_,_,_,_,_,_,_,_,_] [_,_,_] rfl rfl;exact k14 _ _ _ (sj h).symm (H.pick [1,2,0,3,4,5,6,7,8])
  refine wp_exit ?_;exact J3 _ _ _ (ho _ (sj h).symm) (H.pick [4,5,6,7,8,9])
 refine wp_exit ?_;exact J0 _ _ _ (ho _ (sj h).symm) (H.pick [4,5,6])
def Qen (is_:Bool) (e_:Int):Option (Int):=(if is_=true then (some e_) else (some (0:Int)))
instance Qh4:Spc2 prog 95 Qen (λis_ e_=>[tb is_,ti e_]) ti:=.mk λ{is_ e_ r} h=>by
 unfold Qen at h
 refine Fe func95 ntmps95 λM0 M w0 hpl=>?_
 refine QyV [1,2] ?_
 refine tIfs h [0,2] (λ_ h=>?_) (λ_ h=>?_)
 ·refine QyV [1] ?_
  exact QyZ h (·▸QyX hpl)
 refine QyV [0] ?_
 exact QyZ h (·▸QyX hpl)
def Qcm (c_:Qam) (kind_:Int) (index_:Int) (field_:Int) (codes_:(List Int)):Option (Qam):=(Qz (λ(s0:Int×List Qy)=>((if (decide (s0.1<(codes_.length:Int)))=true then (idx codes_ s0.1).bind λt0=>((if (t0 !=0)=true then (rm (s0.2.length+[(Qy.mk kind_ index_ field_ t0)].length)).bind λ_=>(some (s0.2++[(Qy.mk kind_ index_ field_ t0)])) else (some s0.2))).bind λp0=>(some (.inl ((i64.wrap (s0.1+1)),p0))) else (some (.inr s0.2))):Option ((Int×List Qy)⊕((List Qy))))) ((0:Int),c_.out)).bind λp1=>(some (Qam.mk c_.x c_.w c_.links () () p1))
instance Qf8:SpcS prog 94 (∀{q0:Value} {vh0_5:Value} {c_:Qam} {kind_:Int} {index_:Int} {field_:Int} {codes_:(List Int)} {r:Qam},Qcm c_ kind_ index_ field_ codes_=some r->FnOk prog 94 [tv q0,ti kind_,ti index_,ti field_,tsl rI codes_] [box (Qb.cs c_.x++[tsl (rSl (rSl rI)) c_.w,tsl QY c_.links,tone,tone,tvs vh0_5]) q0,own QM 152 c_.out vh0_5] (λv=>[box (Qb.cs r.x++[tsl (rSl (rSl rI)) r.w,tsl QY r.links,tone,tone,tvs v]) q0,own QM 152 r.out v]) (λ_=>ttup [])):=.mk λ{q0 vh0_5 c_ kind_ index_ field_ codes_ r} h=>by
 unfold Qcm at h
 refine Fe func94 ntmps94 λM0 M w0 hpl=>?_
 refine QyV [0,1,2,3,4,5,6] ?_
 have⟨e0,h0,h⟩:=bs h
 have J0:∀(p0:List Qy) (y0:Value),p0=e0->To M w0 35 [(0,tv q0)] [box (Qb.cs c_.x++[tsl (rSl (rSl rI)) c_.w,tsl QY c_.links,tone,tone,tvs y0]) q0,own QM 152 p0 y0] (Ret prog f94 M0 [box (Qb.cs c_.x++[tsl (rSl (rSl rI)) c_.w,tsl QY c_.links,tone,tone,tvs vh0_5]) q0,own QM 152 c_.out vh0_5] w0 (λv=>[box (Qb.cs r.x++[tsl (rSl (rSl rI)) r.w,tsl QY r.links,tone,tone,tvs v]) q0,own QM 152 r.out v]) (λ_=>ttup []) .normal):=by
  intro p0 y0 he;subst he;obtain rfl:=sj h;exact QBP y0 [0,1] hpl
 refine Qy1 <|Qzf h0 (λ(s0:Int×List Qy) (y1:Value)=>[(12,tsl rI codes_),(13,ti (codes_.length:Int)),(14,ti s0.1),(0,tv q0),(1,ti kind_),(2,ti index_),(3,ti field_)]) (λ(s0:Int×List Qy) (y1:Value)=>[box (Qb.cs c_.x++[tsl (rSl (rSl rI)) c_.w,tsl QY c_.links,tone,tone,tvs y1]) q0,own QM 152 s0.2 y1]) vh0_5 [0,1,2,3,4,5,6] ?_;clear h;intro s0 y1 o K0 h ho k0;refine QyV [0,1,2,3,4,5,6,7] ?_;refine QyY λ_ k1=>Qy0 h (λ_ h=>?_) (λ_ h=>?_)
 ·refine Qy2 <|k1 <|QyY λK1 k2=>Qy1 ?_;have⟨t0,_,h⟩:=bs h;refine QyV [2,4,5,6,7,8,9,10] ?_;refine QyV [1,2,3,4,5,6,7,8,9] ?_;have⟨p1,h1,h⟩:=bs h;have J1:∀(y2:Value),To M w0 35 [(12,tsl rI codes_),(13,ti (codes_.length:Int)),(14,ti s0.1),(0,tv q0),(1,ti kind_),(2,ti index_),(3,ti field_)] [own QM 152 p1 y2,box (Qb.cs c_.x++[tsl (rSl (rSl rI)) c_.w,tsl QY c_.links,tone,tone,tvs y2]) q0] K1:=by
   intro y2;refine k2 <|Qy6 [1,2,3,4,5,6,7] ?_;refine Qzc (λ_ _ H=>(H.pick [1,2,0,3,4,5,6]).Xj [1,0] rfl) ?_;exact Qy8 k0 y2 ((sj h).symm) [0,1,2,3,4,5,6]
  replace h:=h1;clear h1;refine Qy0 h (λ_ h=>?_) (λ_ h=>?_)
  ·have⟨_,_,h⟩:=bs h;refine Qza [v1 11 (λv0=>own QM 152 (s0.2++[(Qy.mk kind_ index_ field_ t0)]) v0),v1 11 (λv0=>box (Qb.cs c_.x++[tsl (rSl (rSl rI)) c_.w,tsl QY c_.links,tone,tone,tvs v0]) q0)] [12,15] [11,16,17,18,19,20,21,22] λm0=>?_;obtain rfl:=sj h;exact Qy3 (J1 (m0 11)) [1,2,3,4,5,6,7]
  refine Qy2 ?_;obtain rfl:=sj h;refine Qzc (λ_ _ H=>(H.pick [2,3,4,5,6,7,8]).Xj [1,0] rfl) ?_;exact Qy3 (J1 y1) [0,1,2,3,4,5,6]
 refine Qy7 <|Qy8 J0 y1 (ho _ (sj h).symm) [4]
def QcP (n_:Int) (c0_:Qd):Option (Int):=(Qen ((decide (n_<c0_.Lo))||(decide (n_>c0_.Hi))) 5).bind λt0=>(some t0)
instance Qkh:Spc2 prog 128 QcP (λn_ c0_=>[ti n_,tptr (Qe.cs c0_)]) ti:=.mk λ{n_ c0_ r} h=>by
 unfold QcP at h
 refine Fe func128 ntmps128 λM0 M w0 hpl=>?_
 refine QyV [1,2] ?_
 have⟨_,_,h⟩:=bs h
 refine QyV [11] ?_
 exact QyZ h (·▸QyX hpl)
def Qdj (c_:Qam) (k_:Int) (i_:Int) (f_:Int) (keys_:(Mp Bool)):Option (Int×(Mp Bool)):=(idx (c_.x).Xa k_).bind λt0=>(idx c_.w k_).bind λt1=>(idx t1 i_).bind λt2=>(idx t0.Xb f_).bind λt3=>(idx t2 f_).bind λt4=>(if (t3.Xh==0)=true then (if (decide (t4<t3.Lo))=true then none else (mput keys_ t4 true).bind λm15=>(Qen ((QkB keys_ t4).getD false) 7).bind λt5=>(some (t5,m15))) else (if (t3.Xh==2)=true then (if (t3.Xh==2)=true then (QcP t4 t3).bind λt6=>(some (t6,keys_)) else none) else none))
instance Qk5:SpcS prog 96 (∀{vh4:Value} {c_:Qam} {k_:Int} {i_:Int} {f_:Int} {keys_:(Mp Bool)} {r:Int×(Mp Bool)},Qdj c_ k_ i_ f_ keys_=some r->FnOk prog 96 [tptr (QkH.cs c_),ti k_,ti i_,ti f_,tv vh4] [omap QgL keys_ vh4] (λ_=>[omap QgL r.2 vh4]) (λ_=>ti r.1)):=.mk λ{vh4 c_ k_ i_ f_ keys_ r} h=>by
 unfold Qdj at h
 refine Fe func96 ntmps96 λM0 M w0 hpl=>?_
 refine QyV [1,2,3,4,5] ?_
 have⟨t0,_,_,_,_,_,h⟩:=bs3 h
 refine Qy5 [v1 18 (λv0=>box (Qp.cs zz1) v0),v1 18 (λv0=>box (Qp.cs t0) v0)] [19,20] [18,19,23,24] λm0=>?_
 refine Qy9 (λ_ _ H=>(((H.Xj [1,0] rfl).Xk 0 rfl).add 0 rfl (λ_ _ _ h=>h.2)).pick [0,3,4,5]) ?_
 have⟨t1,_,t2,_,h⟩:=bs2 h
 refine Qy5 [v1 9 (λv0=>box (Qe.cs zz0) v0),v1 9 (λv0=>box (Qe.cs t1) v0)] [10,11] [9,10,14] λm1=>?_
 refine Qy9 (λ_ _ H=>(((H.Xj [1,0] rfl).Xk 0 rfl).add 0 rfl (λ_ _ _ h=>h.2)).pick [0,3,4]) ?_
 refine QyV [1,2,3,4] ?_
 refine QyY λ_ _=>?_
 refine QyV [1,2,3,4,5] ?_
 refine Qy1 ?_
 refine QyV [1,2,3,4,5,6] ?_
 refine Qy0 h (λ_ h=>?_) (λ_ h=>?_)
 ·refine tIfs h [3,8,9] (λ_ h=>?_) (λ_ h=>?_)
  ·cases h
  intro a w H
  refine sr mx [] H (λ_=>.q 2 rfl<|.q 2 rfl<|.u [0] rfl rfl (QvU (x0:=false) underlying179 ud3 tok4 zok4 z1 z0)<|.o (Qc z0)<|.n) λ_ a w H=>?_
  have H:=H.t4_1 [0,3,5,6]
  refine Qze H ?_
  refine QyY λ_ k0=>?_
  have⟨m15,hm15,h⟩:=bs h
  intro a w H
  refine wr mx [v0 (omap QgL m15 vh4)] H (λ_=>.q 3 rfl<|.q 3 rfl<|.e [] [0] [1] rfl rfl rfl rfl (Qt9 underlying179 ud3 z1 z0 .k hm15)<|.n) λ_ a w H=>?_
  have H:=H.t4_1 [0,2,3,5]
  refine Qzh H ?_
  refine k0 ?_
  have⟨_,_,h⟩:=bs h
  refine QyV [2,3,4,6] ?_
  exact QyZ h (·▸Qzi undef [0] hpl)
 refine QyY λ_ k1=>?_
 refine QyV [1,4,6,7] ?_
 refine Qy0 h (λ_ h=>?_) (λ_ h=>?_)
 ·refine Qy2 ?_
  refine k1 ?_
  refine Qy0 h (λ_ h=>?_) (λ_ h=>?_)
  ·have⟨t3,h0,h⟩:=bs h
   intro a w H
   refine sr mx [] H (λ_=>.q 1 rfl<|.q 3 rfl<|.o (Qcz Qxw (Qkh.ok h0) z1 (.cons (.of z0)<|.nil))<|.o (Qc z0)<|.n) λ_ a w H=>?_
   have H:=H.t2_1 [3,7]
   refine Qze H ?_
   exact QyZ h (·▸Qzi undef [0] hpl)
  cases h
 cases h
def Qes (name_:Str) (c0_:(List Int)) (c1_:Qh):Option (Int):=(if (name_==([]:Str))=true then (some (0:Int)) else (Qbk c1_ name_).bind λt0=>(idx c0_ t0).bind λt1=>(some t1))
instance Qki:Spc3 prog 134 Qes (λname_ c0_ c1_=>[tv (.string (sB name_)),tptr ((rSl rI).cs c0_),tptr (Qp.cs c1_)]) ti:=.mk λ{name_ c0_ c1_ r} h=>by
 unfold Qes at h
 refine Fe func134 ntmps134 λM0 M w0 hpl=>?_
 refine QyV [1,2,3] ?_
 refine tIfs h [1,2,3,4] (λ_ h=>?_) (λ_ h=>?_)
 ·refine QyV [0] ?_
  exact QyZ h (·▸QyX hpl)
 have⟨_,_,_,_,h⟩:=bs2 h
 refine QyV [6] ?_
 exact QyZ h (·▸QyX hpl)
def Qhe (k_:Qh) (r_:(List Int)) (rule_:Qm):Option (Bool):=(Qes rule_.A r_ k_).bind λt0=>(Qes rule_.B r_ k_).bind λt1=>(some (decide (t0<=(i64.wrap (t1+rule_.N)))))
instance Qpn:Spc3 prog 97 Qhe (λk_ r_ rule_=>[Qp.ty k_,tsl rI r_,Ql.ty rule_]) tb:=.mk λ{k_ r_ rule_ r} h=>by
 unfold Qhe at h
 refine Fe func97 ntmps97 λM0 M w0 hpl=>?_
 refine QyV [0,1,2] ?_
 refine QyV [1,4] ?_
 have⟨t0,h0,t1,h1,h⟩:=bs2 h
 intro a w H
 refine sr mx [] H (λ_=>.q 0 rfl<|.o (Qg Qil z2)<|.o (Qf (u:=rule_.A) tok9 z0 rfl)<|.o (Qcz Qsx (Qki.ok h0) z2 (.cons (.of z0)<|.nil))<|.q 4 rfl<|.o (Qg Qim z6)<|.o (Qf (u:=rule_.B) tok9 z0 rfl)<|.o (Qcz Qsx (Qki.ok h1) z2 (.cons (.of z0)<|.nil))<|.o (Qg Qpe z9)<|.o (Qf (u:=rule_.N) tok3 z0 rfl)<|.o (Qab z2 z0)<|.o (QtZ z7 z0)<|.o (Qc z0)<|.n) λ_ a w H=>?_
 have H:=H.t1_0 [12]
 refine Qze H ?_
 exact QyZ h (·▸QyX hpl)

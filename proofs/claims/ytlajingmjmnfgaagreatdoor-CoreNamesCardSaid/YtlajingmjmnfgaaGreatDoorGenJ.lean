/- The walk. No condition. -/
import Derived.Test.YtlajingmjmnfgaaGreatDoorGenI
set_option linter.all false
open List Go.Proofs.Tryz Go.IntKind
namespace Go.Proofs.YtlajingmjmnfgaaGreatDoor
noncomputable section
open Go.Sim
set_option maxRecDepth 100000
set_option maxHeartbeats 4000000
def Qcg (a_:(List Str)) (b_:(List Str)):Option (Bool):=(if ((a_.length:Int) !=(b_.length:Int))=true then (some false) else (Qu (λ(s0:Int)=>((if (decide (s0<(a_.length:Int)))=true then (idx a_ s0).bind λt0=>(idx b_ s0).bind λt1=>(if (t0 !=t1)=true then (some (.inr (.inr false))) else (some (.inl (i64.wrap (s0+1))))) else (some (.inr (.inl ())))):Option ((Int)⊕((Unit)⊕(Bool))))) (0:Int)).bind λe0=>(match e0 with | .inl _=>(some true) | .inr p0=>(some p0)))
instance QmJ:Spc2 prog 20 Qcg (λa_ b_=>[tsl rS a_,tsl rS b_]) tb:=.mk λ{a_ b_ r} h=>by
 unfold Qcg at h
 refine Fe func20 ntmps20 λM0 M w0 hpl=>?_
 refine Qa [1,2] ?_
 refine tIfs h [4,5,6] (λ_ h=>?_) (λ_ h=>?_)
 ·refine Qa [0] ?_
  exact Qo h (·▸Ql hpl)
 refine Qi λK0 k0=>?_
 refine Qa [0,2,3] ?_
 have⟨e0,h0,h⟩:=bs h
 have J0:∀(p0:Unit),(.inl p0)=e0->To M w0 26 [] [] K0:=by
  intro p0 he;subst he;simp only at h;refine k0 <|Qa [0] ?_;exact Qo h (·▸Ql hpl)
 have J1:∀(p1:Bool),(.inr p1)=e0->To M w0 26 [(4,tb p1)] [] (Ret prog f20 M0 [] w0 (λ_=>[]) (λ_=>tb r) .ret):=by
  intro p1 he;subst he;simp only at h;obtain rfl:=sj h;exact Ql hpl
 refine Qm <|Qan h0 (λ(s0:Int)=>[(5,ti s0),(0,tsl rS a_),(1,tsl rS b_)]) (λ(s0:Int)=>[]) [0,1,2] ?_;clear h;intro s0 o K1 h ho k1;refine Qi λ_ k2=>Qa [3,4,5,6] ?_;refine Qq h (λ_ h=>?_) (λ_ h=>?_)
 ·refine Qt <|k2 <|Qi λ_ k3=>Qm ?_;have⟨_,_,_,_,h⟩:=bs2 h;refine Qa [8,10,11,12] ?_;refine Qq h (λ_ h=>?_) (λ_ h=>?_)
  ·refine Qa [0] ?_;refine Qap ?_;exact Qz J1 (ho _ (sj h).symm) [0]
  refine Qt <|k3 <|QL [2,4,5] ?_;exact Qz k1 ((sj h).symm) [0,1,2]
 refine QP <|Qz J0 (ho _ (sj h).symm) []
def Qbv (s_:(List Str)) (v_:Str):Option (Int):=(Qu (λ(s0:Int)=>((if (decide (s0<(s_.length:Int)))=true then (idx s_ s0).bind λt0=>(if (v_==t0)=true then (some (.inr (.inr s0))) else (some (.inl (i64.wrap (s0+1))))) else (some (.inr (.inl ())))):Option ((Int)⊕((Unit)⊕(Int))))) (0:Int)).bind λe0=>(match e0 with | .inl _=>(some (-1:Int)) | .inr p0=>(some p0))
instance Qry:Spc2 prog 44 Qbv (λs_ v_=>[tsl rS s_,tv (.string (sB v_))]) ti:=.mk λ{s_ v_ r} h=>by
 unfold Qbv at h
 refine Fe func44 ntmps44 λM0 M w0 hpl=>?_
 refine Qa [1,2] ?_
 refine Qi λK0 k0=>?_
 refine Qa [1,2,3,4] ?_
 have⟨e0,h0,h⟩:=bs h
 have J0:∀(p0:Unit),(.inl p0)=e0->To M w0 19 [] [] K0:=by
  intro p0 he;subst he;simp only at h;refine k0 <|Qa [0] ?_;exact Qo h (·▸Ql hpl)
 have J1:∀(p1:Int),(.inr p1)=e0->To M w0 19 [(4,ti p1)] [] (Ret prog f44 M0 [] w0 (λ_=>[]) (λ_=>ti r) .ret):=by
  intro p1 he;subst he;simp only at h;obtain rfl:=sj h;exact Ql hpl
 refine Qm <|Qan h0 (λ(s0:Int)=>[(7,ti (s_.length:Int)),(8,ti s0),(0,tsl rS s_),(1,tv (.string (sB v_)))]) (λ(s0:Int)=>[]) [0,1,2,3] ?_;clear h;intro s0 o K1 h ho k1;refine Qa [0,1,2,3,4] ?_;refine Qi λ_ k2=>Qq h (λ_ h=>?_) (λ_ h=>?_)
 ·refine Qt <|k2 <|Qi λ_ k3=>Qm <|Qa [1,3,4,5,6] ?_;have⟨_,_,h⟩:=bs h;refine Qa [5,6,7,8,9,10] ?_;refine Qq h (λ_ h=>?_) (λ_ h=>?_)
  ·refine Qa [1] ?_;refine Qap ?_;exact Qz J1 (ho _ (sj h).symm) [0]
  refine Qt <|k3 <|QL [1,4,5,6] ?_;exact Qz k1 ((sj h).symm) [1,0,2,3]
 refine QP <|Qz J0 (ho _ (sj h).symm) []
def QbP (s_:(List Str)) (v_:Str):Option (Bool):=(Qbv s_ v_).bind λt0=>(some (decide (t0>=0)))
instance QjQ:Spc2 prog 56 QbP (λs_ v_=>[tsl rS s_,tv (.string (sB v_))]) tb:=.mk λ{s_ v_ r} h=>by
 unfold QbP at h
 refine Fe func56 ntmps56 λM0 M w0 hpl=>?_
 refine Qa [1,2] ?_
 have⟨_,_,h⟩:=bs h
 refine Qa [4] ?_
 exact Qo h (·▸Ql hpl)
theorem QoT:TOk prog 120 (rMpS Qaq) 8 (.map none):=⟨⟨_,Qm8,rfl⟩,by kernel_rfl,rfl⟩
theorem QnC:TOk prog 120 rVal 8 (.map none):=⟨⟨_,Qm8,rfl⟩,by kernel_rfl,rfl⟩
theorem QoU:Qj prog 57:=⟨⟨_,func57,by kernel_rfl,rfl⟩⟩
def widB (m:List (Str×Bool)) (s:Str):Bool:=(Qjk (some m) s).getD false
def QeO (m:List (Str×Bool)) (name_ least_ most_:Str) (from_ to_ lo_ hi_:Int):Option (Int×Int):=(cat (name_.length+least_.length)).bind λ_=>(cat (name_.length+most_.length)).bind λ_=>some (if widB m (name_++least_)=true then lo_ else from_,if widB m (name_++most_)=true then hi_ else to_)
theorem QiK {α:Type} {R:Rep α} {e:TypeId} {xs:List α} {v:Value} {i:Int} {lo hi:Nat} {U:Int->Int->α} {m:List (Str×Bool)} {name_ least_ most_:Str} {from_ to_ lo_ hi_:Int} {r:Int×Int} (h:QeO m name_ least_ most_ from_ to_ lo_ hi_=some r)
  (hx:idx xs i=some (U lo_ hi_)) (h1:∀a b c,R.cs (U c b)=splice (R.cs (U a b)) lo (rI.cs c)) (h2:∀a b c,R.cs (U a c)=splice (R.cs (U a b)) hi (rI.cs c)) (g1:lo+1<=R.n) (g2:hi+1<=R.n):
  FnOk prog 57 [tv (padd (Qav v (i.toNat * R.n)) lo),tv (padd (Qav v (i.toNat * R.n)) hi),tv (.string (sB name_)),tv (.string (sB least_)),tv (.string (sB most_)),ti from_,ti to_,tptr [Qco Qaq (some m)]] [own R e xs v] (λ_=>[own R e (xs.set i.toNat (U r.1 r.2)) v]) (λ_=>ttup []):=by
 obtain⟨i0,i1,i2⟩:=QhX hx;have hi3:i<(xs.length:Int):=by omega
 have idxs:∀u:α,idx (xs.set i.toNat u) i=some u:=λu=>by unfold idx;rw[Zb i0,getElem?_set_self i1]
 have sets:∀u u':α,setAt (xs.set i.toNat u) i u'=some (xs.set i.toNat u'):=λu u'=>by unfold setAt;rw[Zb ⟨i0,by rw[Yk];exact hi3⟩,List.set_set]
 have e0:xs.set i.toNat (U lo_ hi_)=xs:=by
  apply ext_getElem?;intro j;rw[getElem?_set];split
  ·rename_i hj;subst hj;exact i2.symm
  rfl
 have key:∀A:Atom,own R e (xs.set i.toNat (U lo_ hi_)) v=A->FnOk prog 57 [tv (padd (Qav v (i.toNat * R.n)) lo),tv (padd (Qav v (i.toNat * R.n)) hi),tv (.string (sB name_)),tv (.string (sB least_)),tv (.string (sB most_)),ti from_,ti to_,tptr [Qco Qaq (some m)]] [A] (λ_=>[own R e (xs.set i.toNat (U r.1 r.2)) v]) (λ_=>ttup []):=by
  rintro _ rfl;unfold QeO at h;have⟨h0,hc1,h3,hc2,h⟩:=bs2 h;obtain rfl:=sj h;have hne:∀u:α,xs.set i.toNat u≠[]:=λu=>QaR (idxs u);refine fe func57 ntmps57 λM0 M w0 a hpl H=>?_;refine wp_seq_k (λK0 k0=>?_);refine wp_seq_k (λK1 k1=>?_);refine wr mx [] H (λ_=>.o (Q9 (R:=rMpS Qaq) (u:=some m) QoT z7)<|.q 3 rfl<|.q 5 rfl<|.o (Qcn z1 z0 hc1)<|.o (Qmt (R:=Qaq) (x0:=false) (m:=some m) Qm8 ud9 tok4 (λ_ _=>rfl) z3 z0)<|.o (QgK z0)<|.n) λ_ a w H=>?_;have H:=H.to [5,6,7,8,10,11,12,13] [_,_,_,_,_,_,_,_] [_] rfl rfl;refine k1 _ _ ?_;clear k1 K1;have hJ:∀a w,St M w0 33 [(0,tv (padd (Qav v (i.toNat * R.n)) lo)),(1,tv (padd (Qav v (i.toNat * R.n)) hi)),(2,tv (.string (sB name_))),(4,tv (.string (sB most_))),(5,ti from_),(6,ti to_),(7,tptr [Qco Qaq (some m)])] [own R e (xs.set i.toNat (U (if widB m (name_++least_)=true then lo_ else from_) hi_)) v] a w->K0 a w:=by
   intro a w H;refine k0 _ _ ?_;clear k0 K0;refine wp_seq_k (λK1 k1=>?_);refine wr mx [] H (λ_=>.o (Q9 (R:=rMpS Qaq) (u:=some m) QoT z6)<|.q 3 rfl<|.q 5 rfl<|.o (Qcn z1 z0 hc2)<|.o (Qmt (R:=Qaq) (x0:=false) (m:=some m) Qm8 ud9 tok4 (λ_ _=>rfl) z3 z0)<|.o (QgK z0)<|.n) λ_ a w H=>?_;have H:=H.to [5,7,11] [_,_,_] [_] rfl rfl;refine k1 _ _ ?_;clear k1 K1;refine wt H (λb=>?_) (λb=>?_)
   ·refine wr mx [v0 (own R e (xs.set i.toNat (U (if widB m (name_++least_)=true then lo_ else from_) to_)) v)] H (λ_=>.q 1 rfl<|.q 3 rfl<|.u [0] rfl rfl (Qqu z1 (hne _))<|.e [] [0] [1] rfl rfl rfl rfl (Qh9 (R2:=rI) (u2:=to_) tok3 z0 z1 (idxs _) (sets _ _) g2 (h2 _ _ _))<|.n) λm0 a w H=>?_;have ee:(if widB m (name_++most_)=true then hi_ else to_)=to_:=Zc (by simpa[widB] using b);simp only[ee];exact QmZ undef [0] hpl (H.pick []) rfl .nil rfl rfl rfl
   refine wp_skip ?_;have ee:(if widB m (name_++most_)=true then hi_ else to_)=hi_:=Zb (by simpa[widB] using b);simp only[ee];exact QmZ undef [0] hpl (H.pick []) rfl .nil rfl rfl rfl
  clear k0;refine wt H (λb=>?_) (λb=>?_)
  ·refine wr mx [v0 (own R e (xs.set i.toNat (U from_ hi_)) v)] H (λ_=>.q 1 rfl<|.q 6 rfl<|.u [0] rfl rfl (Qqu z1 (hne _))<|.e [] [0] [1] rfl rfl rfl rfl (Qh9 (R2:=rI) (u2:=from_) tok3 z0 z1 (idxs _) (sets _ _) g1 (h1 _ _ _))<|.n) λm0 a w H=>?_;have ee:(if widB m (name_++least_)=true then lo_ else from_)=from_:=Zc (by simpa[widB] using b);simp only[ee] at hJ;exact hJ _ _ (H.pick [4,5,6,7,8,9,10])
  refine wp_skip ?_;have ee:(if widB m (name_++least_)=true then lo_ else from_)=lo_:=Zb (by simpa[widB] using b);simp only[ee] at hJ;exact hJ _ _ (H.pick [1,2,3,4,5,6,7])
 exact key _ (by rw[e0])
def Qe9 (s_:(List Qf)):Option ((List Qf)):=(rm (([]:List Qf).length+s_.length)).bind λ_=>(some (([]:List Qf)++s_))
instance QlQ:SpcS prog 58 (∀{s_:(List Qf)} {r:(List Qf)},Qe9 s_=some r->FnOk prog 58 [tsl Qg s_] [] (λv=>[own Qg 47 r v]) (λv=>tv v)):=.mk λ{s_ r} h=>by
 unfold Qe9 at h
 refine Fe func58 ntmps58 λM0 M w0 hpl=>?_
 refine Qa [1] ?_
 refine Qi λ_ k0=>?_
 refine Qa [1,2] ?_
 refine Qof 0 (λb0=>?_) ?_
 ·replace h:(some ([]:List Qf))=some r:=by
   have⟨_,_,h⟩:=bs h;rw[b0] at h;exact h
  refine Qa [0] ?_;refine QN (λ_ _ H=>H.nil (Qg) 47) ?_;exact Qo h (·▸QbR (.slice none 0 0) [0] hpl)
 refine Qt <|k0 ?_;have⟨_,_,h⟩:=bs h;refine QB [v1 0 (λv0=>own Qg 47 ([]:List Qf) v0),v1 2 (λv0=>own Qg 47 (([]:List Qf)++s_) v0)] [1,3] [2,3] λm0=>?_;exact Qo h (·▸QbR (m0 2) [0] hpl)
def QeV (s_:(List Qb)):Option ((List Qb)):=(rm (([]:List Qb).length+s_.length)).bind λ_=>(some (([]:List Qb)++s_))
instance Qlg:SpcS prog 59 (∀{s_:(List Qb)} {r:(List Qb)},QeV s_=some r->FnOk prog 59 [tsl Qd s_] [] (λv=>[own Qd 49 r v]) (λv=>tv v)):=.mk λ{s_ r} h=>by
 unfold QeV at h
 refine Fe func59 ntmps59 λM0 M w0 hpl=>?_
 refine Qa [1] ?_
 refine Qi λ_ k0=>?_
 refine Qa [1,2] ?_
 refine Qof 0 (λb0=>?_) ?_
 ·replace h:(some ([]:List Qb))=some r:=by
   have⟨_,_,h⟩:=bs h;rw[b0] at h;exact h
  refine Qa [0] ?_;refine QN (λ_ _ H=>H.nil (Qd) 49) ?_;exact Qo h (·▸QbR (.slice none 0 0) [0] hpl)
 refine Qt <|k0 ?_;have⟨_,_,h⟩:=bs h;refine QB [v1 0 (λv0=>own Qd 49 ([]:List Qb) v0),v1 2 (λv0=>own Qd 49 (([]:List Qb)++s_) v0)] [1,3] [2,3] λm0=>?_;exact Qo h (·▸QbR (m0 2) [0] hpl)
def Qfa (s_:(List Qh)):Option ((List Qh)):=(rm (([]:List Qh).length+s_.length)).bind λ_=>(some (([]:List Qh)++s_))
instance QlR:SpcS prog 61 (∀{s_:(List Qh)} {r:(List Qh)},Qfa s_=some r->FnOk prog 61 [tsl Qk s_] [] (λv=>[own Qk 104 r v]) (λv=>tv v)):=.mk λ{s_ r} h=>by
 unfold Qfa at h
 refine Fe func61 ntmps61 λM0 M w0 hpl=>?_
 refine Qa [1] ?_
 refine Qi λ_ k0=>?_
 refine Qa [1,2] ?_
 refine Qof 0 (λb0=>?_) ?_
 ·replace h:(some ([]:List Qh))=some r:=by
   have⟨_,_,h⟩:=bs h;rw[b0] at h;exact h
  refine Qa [0] ?_;refine QN (λ_ _ H=>H.nil (Qk) 104) ?_;exact Qo h (·▸QbR (.slice none 0 0) [0] hpl)
 refine Qt <|k0 ?_;have⟨_,_,h⟩:=bs h;refine QB [v1 0 (λv0=>own Qk 104 ([]:List Qh) v0),v1 2 (λv0=>own Qk 104 (([]:List Qh)++s_) v0)] [1,3] [2,3] λm0=>?_;exact Qo h (·▸QbR (m0 2) [0] hpl)
theorem QzO:Qj prog 62:=⟨⟨_,func62,by kernel_rfl,rfl⟩⟩
def Qik (m:List (Str×Bool)) (r_:Qh):Option Bool:=(cat (([114,117,108,101,58]:Str).length+r_.Xj.length)).bind λ_=>some (!widB m (([114,117,108,101,58]:Str)++r_.Xj))
theorem QoV {m:List (Str×Bool)} {r_:Qh} {b:Bool} (h:Qik m r_=some b):FnOk prog 62 [Qk.ty r_,tptr [Qco Qaq (some m)]] [] (λ_=>[]) (λ_=>tb b):=by
 unfold Qik at h;have⟨u0,hc1,h⟩:=bs h;obtain rfl:=sj h;refine fe func62 ntmps62 λM0 M w0 a hpl H=>?_;refine wp_seq_k (λK0 k0=>?_);refine wr mx [] H (λ_=>.o (QkY (R:=Qk) (u:=r_) z0)<|.o (Qp .k)<|.n) λ_ a w H=>?_;have H:=H.t2_0 [0,3];refine k0 _ _ ?_;clear k0 K0;refine wp_seq_k (λK0 k0=>?_);refine wr mx [] H (λ_=>.o (Q9 (R:=rMpS Qaq) (u:=some m) QoT z1)<|.o (Q4 Qkh z1)<|.o (Q2 (u:=r_.Xj) tok9 z0 rfl)<|.o (Qcn .k z0 hc1)<|.o (Qmt (R:=Qaq) (x0:=false) (m:=some m) Qm8 ud9 tok4 (λ_ _=>rfl) z3 z0)<|.o (QgK z0)<|.o (Qp z0)<|.n) λ_ a w H=>?_;have H:=H.t1_0 [6];refine k0 _ _ ?_;refine wp_ret ?_;exact rt undef [] hpl H (.tmp z0 .nil)
theorem QzP:Qj prog 60:=⟨⟨_,func60,by kernel_rfl,rfl⟩⟩
def Qcs (s_:List Qh) (del_:Qh->Option Bool):Option (List Qh):=(QaK s_ del_).bind λt0=>(if (t0==(-1:Int))=true then some s_ else (Qu (λ(s0:Int×Int×List Qh)=>((if (decide (s0.1<(s0.2.2.length:Int)))=true then (idx s0.2.2 s0.1).bind λt1=>(del_ t1).bind λt2=>(if (!t2)=true then (setAt s0.2.2 s0.2.1 t1).bind λys=>some (.inl (i64.wrap (s0.1+1),i64.wrap (s0.2.1+1),ys)) else some (.inl (i64.wrap (s0.1+1),s0.2.1,s0.2.2))) else (some (.inr (s0.2.1,s0.2.2)))):Option ((Int×Int×List Qh)⊕(Int×List Qh)))) (i64.wrap (t0+1),t0,s_)).bind λe0=>(sub e0.2 e0.1 (e0.2.length:Int)).bind λ_=>sub e0.2 0 e0.1)
instance QjR:SpcS prog 60 (∀{v_:Value} {s_ r:List Qh} {del_:Qh->Option Bool},Qcs s_ del_=some r->FnOk prog 60 [tv v_,Qi5.ty del_] [own Qk 104 s_ v_] (λx=>[own Qk 104 r x]) (λx=>tv x)):=.mk λ{v_ s_ r del_} h=>by
 unfold Qcs at h
 refine fe func60 ntmps60 λM0 M w0 a hpl H=>?_
 refine wp_seq_k (λK0 k0=>?_)
 refine wr mx [] H (λ_=>.o (Qp .k)<|.n) λ_ a w H=>?_
 have H:=H.t2_1 [1,2]
 refine k0 _ _ ?_
 clear k0 K0
 refine wp_seq_k (λK0 k0=>?_)
 have⟨t0,h0,h⟩:=bs h
 refine wr mx [] H (λ_=>.q 0 rfl<|.q 2 rfl<|.u [0] rfl rfl (QfL [own Qk 104 s_ v_] Qr1 (Qki.ok h0) (.cons (.own z1 (.head _))<|.cons (.of z0)<|.nil) (λ_=>Qd1) (λ_=>Qib (x:=undef)))<|.o (Qp z0)<|.n) λ_ a w H=>?_
 have H:=H.to [3,4,5] [_,_,_] [_] rfl rfl
 refine k0 _ _ ?_
 clear k0 K0
 refine wp_seq_k (λK0 k0=>?_)
 refine wp_seq_k (λK1 k1=>?_)
 refine wr mx [] H (λ_=>.q 0 rfl<|.o (QcS z0 .k)<|.n) λ_ a w H=>?_
 have H:=H.t4_1 [1,2,3,4]
 refine k1 _ _ ?_
 clear k1 K1
 refine wi H h (λb0 h=>?_) (λb0 h=>?_)
 ·refine wp_seq_k (λK1 k1=>?_)
  refine wr mx [] H (λ_=>.q 2 rfl<|.o (Qp z0)<|.n) λm0 a w H=>?_
  have H:=H.to [1] [_] [_] rfl rfl
  refine k1 _ _ ?_
  exact r0 h (·▸rt v_ [0] hpl H (.tmp z0 .nil))
 refine wp_skip (k0 _ _ ?_)
 clear k0 K0
 refine wp_seq_k (λK0 k0=>?_)
 refine wp_seq_k (λK1 k1=>?_)
 refine wr mx [] H (λ_=>.q 1 rfl<|.o (QaI z0 .k)<|.o (Qp z0)<|.n) λm0 a w H=>?_
 have H:=H.t4_1 [2,4,5,6]
 refine k1 _ _ ?_
 clear k1 K1
 have⟨e0,h1,h⟩:=bs h
 have hJ:∀a w,St M w0 42 [(5,ti e0.1),(0,tv v_)] [own Qk 104 e0.2 v_] a w->K0 a w:=by
  intro a w H;have⟨u0,h2,h⟩:=bs h;have hc:0<=e0.1/\e0.1.toNat<=e0.2.length:=by obtain⟨q0,q1,q2,_⟩:=Qge h2;exact⟨q0,by omega⟩
  have hr:r=e0.2.take e0.1.toNat:=by obtain⟨_,_,_,q3,_⟩:=Qge h;simpa using q3
  have hs2:sub (e0.2.take e0.1.toNat++replicate u0.length zz3) 0 e0.1=some r:=by
   unfold sub;rw[Zb ⟨ZM _,hc.1,by rw[Zd,ZE];omega⟩,hr];simp only[Int.toNat_zero,drop_zero,Nat.sub_zero];rw[take_left' (by rw[ZE];omega)]
  refine k0 _ _ ?_;clear k0 K0;refine wp_seq_k (λK0 k0=>?_);refine wr mx [v0 (own Qk 104 (e0.2.take e0.1.toNat++replicate u0.length zz3) v_)] H (λ_=>.q 1 rfl<|.q 1 rfl<|.u [0] rfl rfl (Qk2 (R:=Qk) ud31 Qdb z1 (.op z0) (.no _) h2)<|.e [] [0] [1] rfl rfl rfl rfl (Qrr (R:=Qk) ud31 Qdb Qqx z0 h2)<|.n) λm0 a w H=>?_;have H:=H.t2_1 [3,4];refine k0 _ _ ?_;clear k0 K0;refine wp_seq_k (λK0 k0=>?_);refine wr mx [] H (λ_=>.q 1 rfl<|.q 1 rfl<|.u [0] rfl rfl (Qk2 (R:=Qk) ud31 Qdb z1 (.no _) (.op z0) hs2)<|.o (Qp z0)<|.n) λ_ a w H=>?_;replace H:St _ _ _ [_] [_] _ _:=(H.pick [3]).cut0 hs2;refine k0 _ _ ?_;refine wp_ret ?_;exact rt (cutV Qk.n v_ 0 e0.1) [0] hpl H (.tmp z0 .nil)
 clear h k0;refine wp_block ?_;refine QeH _ (λ(s0:Int×Int×List Qh) a w=>St M w0 42 [(6,ti s0.1),(5,ti s0.2.1),(0,tv v_),(1,Qi5.ty del_)] [own Qk 104 s0.2.2 v_] a w) _ _ h1 H ?_;clear h1;intro s0 o a w K2 H h ho k2;refine wp_seq_k (λK3 k3=>?_);refine wp_seq_k (λK4 k4=>?_);refine wr mx [] H (λ_=>.q 0 rfl<|.q 3 rfl<|.u [0] rfl rfl (Qdp ud31 z0)<|.o (QcD z2 z0)<|.n) λ_ a w H=>?_;have H:=H.to [3,4,5,6,7] [_,_,_,_,_] [_] rfl rfl;refine k4 _ _ ?_;clear k4 K4;refine wi H h (λb1 h=>?_) (λb1 h=>?_)
 ·have⟨t1,h3,t2,h4,h⟩:=bs2 h;refine wp_skip (k3 _ _ ?_);clear k3 K3;refine wp_seq_k (λK3 k3=>?_);refine wp_block ?_;refine wp_seq_k (λK4 k4=>?_);refine wr mx [v1 4 (λv0=>box (Qk.cs zz3) v0),v1 4 (λv0=>box (Qk.cs t1) v0)] H (λ_=>.q 3 rfl<|.q 2 rfl<|.u [0] rfl rfl (QaM ud31 Qdb z1 z0 h3)<|.u [0] rfl rfl (Qea Qdb z0 h3)<|.m [] [1] rfl rfl rfl (Qbo (R:=Qk) (a:=zz3) Qdb Qqx)<|.e [] [1] [2] rfl rfl rfl rfl (QaL (R:=Qk) (a:=t1) Qdb z0 z1 (leb rfl))<|.n) λ_ a w H=>?_;have H:=H.to [4,6,7,8,9] [_,_,_,_,_] [_,_] rfl rfl;refine k4 _ _ ?_;clear k4 K4;refine wp_seq_k (λK4 k4=>?_);refine wr mx [] H (λ_=>.q 4 rfl<|.u [1] rfl rfl (QgL (R:=Qk) (u:=t1) Qdb z1 rfl)<|.o (Qke (u:=t1) z1 (.cons (.of z0)<|.nil) h4)<|.o (QgK z0)<|.n) λ_ a w H=>?_;have H:=H.to [3,4,5,6,7,8] [_,_,_,_,_,_] [_,_] rfl rfl;refine k4 _ _ ?_;clear k4 K4;have hN:∀(i:Int) (ys:List Qh) a w,o=.inl (i64.wrap (s0.1+1),i,ys)->St M w0 42 [(6,ti s0.1),(5,ti i),(0,tv v_),(1,Qi5.ty del_)] [own Qk 104 ys v_] a w->K3 a w:=by
   intro i ys a w he H;refine k3 _ _ ?_;refine wr mx [] H (λ_=>.q 0 rfl<|.o (QaI z0 .k)<|.o (Qp z0)<|.n) λm1 a w H=>?_;exact k2 _ _ _ he (H.pick [2,3,4,5])
  clear k3 k2;refine wi H h (λb2 h=>?_) (λb2 h=>?_)
  ·have⟨ys,hys,h⟩:=bs h;refine wp_seq_k (λK4 k4=>?_);refine wr mx [v0 (own Qk 104 ys v_)] H (λ_=>.q 4 rfl<|.q 4 rfl<|.u [1] rfl rfl (QgL (R:=Qk) (u:=t1) Qdb z3 rfl)<|.u [0] rfl rfl (Qia ud31 Qdb z2 z1 hys)<|.e [] [0] [2] rfl rfl rfl rfl (Qji Qdb z0 z1 hys)<|.n) λ_ a w H=>?_;replace H:St _ _ _ [_,_,_,_] [_] _ _:=(H.pick [6,7,8,9]).Xk [1] rfl;refine k4 _ _ ?_;refine wr mx [] H (λ_=>.q 1 rfl<|.o (QaI z0 .k)<|.o (Qp z0)<|.n) λm1 a w H=>?_;exact hN _ _ _ _ (sj h).symm (H.pick [3,2,4,5])
  refine wp_skip ?_;exact hN _ _ _ _ (sj h).symm ((H.pick [2,3,4,5]).Xk [0] rfl)
 refine wp_exit ?_;obtain rfl:=ho _ (sj h).symm;exact hJ _ _ (H.pick [2,3])
theorem QzQ:Qj prog 58:=⟨⟨_,func58,by kernel_rfl,rfl⟩⟩
theorem QzR:Qj prog 59:=⟨⟨_,func59,by kernel_rfl,rfl⟩⟩
theorem QzS:Qj prog 61:=⟨⟨_,func61,by kernel_rfl,rfl⟩⟩
theorem QzT:Qj prog 56:=⟨⟨_,func56,by kernel_rfl,rfl⟩⟩
def Qok (m:List (Str×Bool)) (q:Str) (fs:List Qb) (j:Int) (f:Qb):Option (List Qb):=(if (f.Xi==1)=true then (cat (q.length+([46]:Str).length)).bind λ_=>(cat ((q++([46]:Str)).length+f.Xj.length)).bind λ_=>(QeO m ((q++([46]:Str))++f.Xj) ([32,108,101,97,115,116]:Str) ([32,109,111,115,116]:Str) 0 65536 f.Lo f.Hi).bind λw=>some (fs.set j.toNat (Qb.mk f.Xj f.Of f.Up f.Xi w.1 w.2 f.Words f.Xf)) else (if ((f.Xi==2)||(f.Xi==4))=true then (cat (q.length+([46]:Str).length)).bind λ_=>(cat ((q++([46]:Str)).length+f.Xj.length)).bind λ_=>(QeO m ((q++([46]:Str))++f.Xj) ([32,108,111,119]:Str) ([32,104,105,103,104]:Str) (-1048576) 1048576 f.Lo f.Hi).bind λw=>some (fs.set j.toNat (Qb.mk f.Xj f.Of f.Up f.Xi w.1 w.2 f.Words f.Xf)) else some fs))
def Qhb (x_:Qe) (names_:List Str):Option (Qe×Int):=(Qc5 x_).bind λt0=>(if (t0.2 !=0)=true then some (zz4,t0.2) else (Qu (λ(s0:Int×List (Str×Bool))=>((if (decide (s0.1<(names_.length:Int)))=true then (idx names_ s0.1).bind λt1=>(QbP t0.1 t1).bind λt2=>(if (!t2)=true then some (.inr (.inr ())) else some (.inl (i64.wrap (s0.1+1),QhK s0.2 t1 true))) else (some (.inr (.inl s0.2)))):Option ((Int×List (Str×Bool))⊕(List (Str×Bool)⊕Unit)))) ((0:Int),[])).bind λe0=>(match e0 with | .inr _=>some (zz4,(12:Int)) | .inl m_=>(Qe9 x_.Xa).bind λt3=>(Qu (λ(s1:Int×List Qf)=>((if (decide (s1.1<(t3.length:Int)))=true then (idx s1.2 s1.1).bind λu=>(QeO m_ u.Xj ([32,108,101,97,115,116]:Str) ([32,109,111,115,116]:Str) 0 65536 u.Lo u.Hi).bind λw=>(QeV u.Xb).bind λt4=>(Qu (λ(s2:Int×List Qb)=>((if (decide (s2.1<(t4.length:Int)))=true then (idx s2.2 s2.1).bind λf=>(Qok m_ u.Xj s2.2 s2.1 f).bind λp=>some (.inl (i64.wrap (s2.1+1),p)) else (some (.inr s2.2))):Option ((Int×List Qb)⊕List Qb))) ((0:Int),t4)).bind λfs=>some (.inl (i64.wrap (s1.1+1),(s1.2.set s1.1.toNat (Qf.mk u.Xj w.1 w.2 u.Xb)).set s1.1.toNat (Qf.mk u.Xj w.1 w.2 fs))) else (some (.inr s1.2))):Option ((Int×List Qf)⊕List Qf))) ((0:Int),t3)).bind λks=>(Qfa x_.Xc).bind λt5=>(Qcs t5 (Qik m_)).bind λrs=>some (Qe.mk x_.Version ks x_.Xd rs,(0:Int))))
instance QAq:SpcS prog 21 (∀{x_:Qe} {names_:(List Str)} {r:Qe×Int},Qhb x_ names_=some r->FnOk prog 21 [Qc.ty x_,tsl rS names_] [glo] (λ_=>[]) (λ_=>ttup [Qc.ty r.1,ti r.2])):=.mk λ{x_ names_ r} h=>by
 unfold Qhb at h
 refine fe func21 ntmps21 λM0 M w0 a hpl H=>?_
 refine wp_seq_k (λK0 k0=>?_)
 refine wr mx [v1 0 (λv0=>box (Qc.cs x_) v0),v1 1 (λv0=>box (Qc.cs zz4) v0)] H (λ_=>.m [] [1] rfl rfl rfl (Qqh (R:=Qc) (u:=x_) z0)<|.m [] [2] rfl rfl rfl (Qbo (R:=Qc) (a:=zz4) QbJ QpY)<|.o (Qp .k)<|.n) λm0 a w H=>?_
 have H:=H.to [0,1,4] [_,_,_] [_,_,_] rfl rfl
 refine k0 _ _ ?_
 clear k0 K0
 refine wp_seq_k (λK0 k0=>?_)
 have⟨t0,h0,h⟩:=bs h
 refine wr mx [] H (λ_=>.u [1] rfl rfl (QgL (R:=Qc) (u:=x_) QbJ z0 rfl)<|.u [0] rfl rfl ((QJ QqG (Qma.ok h0) (.cons (.of z0)<|.nil)).glo)<|.q 0 rfl<|.o (Qam z0 rfl)<|.o (Qam z1 rfl)<|.o (Qp z1)<|.o (Qp z1)<|.n) λ_ a w H=>?_
 have H:=H.to [5,6,7,8,9] [_,_,_,_,_] [_,_,_] rfl rfl
 refine k0 _ _ ?_
 clear k0 K0
 refine wp_seq_k (λK0 k0=>?_)
 refine wp_seq_k (λK1 k1=>?_)
 refine wr mx [] H (λ_=>.q 1 rfl<|.o (QnO z0 .k)<|.n) λ_ a w H=>?_
 have H:=H.to [1,2,3,4,5,6] [_,_,_,_,_,_] [_,_,_] rfl rfl
 refine k1 _ _ ?_
 clear k1 K1
 refine wi H h (λb0 h=>?_) (λb0 h=>?_)
 ·refine wp_seq_k (λK1 k1=>?_)
  refine wr mx [v0 (box (Qc.cs zz4) (m0 1))] H (λ_=>.p (T:=Qc.ty zz4) rfl (QaF ud33 pl33 zv33 zc33 (.nil _))<|.q 3 rfl<|.e [] [2] [3] rfl rfl rfl rfl (QaL (R:=Qc) (a:=zz4) QbJ z6 z1 (leb rfl))<|.o (Qp z0)<|.n) λm1 a w H=>?_
  replace H:St _ _ _ [_,_] [_] _ _:=(H.pick [2,7]).Xk [2] rfl
  refine k1 _ _ ?_
  clear k1 K1
  exact r0 h (·▸r1 hpl H (.cell (R:=Qc) (u:=zz4) QbJ z1 0 rfl rfl (.tmp z0 .nil)))
 refine wp_skip (k0 _ _ ?_)
 clear k0 K0
 refine wp_seq_k (λK0 k0=>?_)
 refine wr mx [v1 0 (λv0=>QeU Qaq (some []) v0),v1 1 (λv0=>box (rVal.cs (.map none)) v0),v2 0 1 (λv0 v1=>box (rVal.cs v0) v1)] H (λ_=>.m [] [3] rfl rfl rfl (Qrp Qaq)<|.m [] [4] rfl rfl rfl (Qbo (R:=rVal) (a:=(.map none)) QnC zokMp)<|.e [3] [4] [5] rfl rfl rfl rfl (QsI QnC z0 z1)<|.n) λm1 a w H=>?_
 have H:=H.to [1,0,3,5,6,7] [_,_,_,_,_,_] [_,_,_,_,_] rfl rfl
 refine k0 _ _ ?_
 clear k0 K0
 refine wp_seq_k (λK0 k0=>?_)
 refine wp_seq_k (λK1 k1=>?_)
 refine wr mx [] H (λ_=>.q 5 rfl<|.o (Qgd ud25 z0)<|.o (Qar .k)<|.n) λ_ a w H=>?_
 have H:=H.to [2,1,0,3,4,5,6,7] [_,_,_,_,_,_,_,_] [_,_,_,_,_] rfl rfl
 refine k1 _ _ ?_
 clear k1 K1
 have⟨e0,h1,h⟩:=bs h
 have hX:∀a w,e0=.inr ()->St M w0 143 [(5,ti (12:Int)),(4,tv (m0 1))] [box (Qc.cs zz4) (m0 1)] a w->Ret prog f21 M0 [glo] w0 (λ_=>[]) (λ_=>ttup [Qc.ty r.1,ti r.2]) .ret a w:=by
  intro a w he H;subst he;simp only at h;obtain rfl:=sj h;exact rt undef [] hpl H (.cell (R:=Qc) (u:=zz4) QbJ z1 0 rfl rfl (.tmp z0 .nil))
 have hJ:∀m_ a w,e0=.inl m_->St M w0 143 [(8,tv (m1 1)),(25,tv (m1 0)),(2,tv (m0 0)),(4,tv (m0 1))] [glo,box (Qc.cs x_) (m0 0),box (Qc.cs zz4) (m0 1),QeU Qaq (some m_) (m1 0),box (rVal.cs (m1 0)) (m1 1)] a w->K0 a w:=by
  intro m_ a w he H;subst he;simp only at h;clear hX h1;replace H:=((H.Xk [3,4,0,1,2] rfl).shareCM 0 rfl).Xl 0 rfl;replace H:St _ _ _ [_,_,_] [_,_,_] _ _:=(H.add 0 rfl (λ_ _ _ h=>h.2)).pick [0,4,5];refine k0 _ _ ?_;clear k0 K0;refine wp_seq_k (λK0 k0=>?_);refine wr mx [] H (λ_=>.o (Qic (.cons z0<|.nil))<|.o (Qp z0)<|.n) λ_ a w H=>?_;have H:=H.to [1,2,3,4] [_,_,_,_] [_,_,_] rfl rfl;refine k0 _ _ ?_;clear k0 K0;refine wp_seq_k (λK0 k0=>?_);have⟨t1,h2,h⟩:=bs h;refine wr mx [v1 2 (λv0=>own Qg 47 t1 v0),v1 2 (λv0=>box [ti x_.Version,tvs v0,tsl Qn x_.Xd,tsl Qk x_.Xc] (m0 0))] H (λ_=>.u [1] rfl rfl (Qal QcU z2)<|.u [1] rfl rfl (QhW (R:=(rSl Qg)) (u:=x_.Xa) QlE z0 rfl)<|.m [] [3] rfl rfl rfl (QJ QzQ (QlQ.ok h2) (.cons (.of z0)<|.nil))<|.u [1] rfl rfl (Qal QcU z5)<|.e [3] [1] [4] rfl rfl rfl rfl (Qey (Ts:=Qc.cs x_) (off:=1) Qgf z0 z1 (leb rfl))<|.n) λm2 a w H=>?_;have H:=H.to [4,5,6,7] [_,_,_,_] [_,_,_,_] rfl rfl;refine k0 _ _ ?_;clear k0 K0;refine wp_seq_k (λK0 k0=>?_);refine wp_seq_k (λK1 k1=>?_);refine wr mx [] H (λ_=>.u [3] rfl rfl (Qal QcU z2)<|.u [3] rfl rfl (QaU (u:=(m2 2)) Qgf z0 rfl)<|.u [2] rfl rfl (Qdp ud29 z0)<|.o (Qar .k)<|.n) λ_ a w H=>?_;have H:=H.t6_4 [3,2,4,5,6,7];refine k1 _ _ ?_;clear k1 K1;have⟨ks,hks,h⟩:=bs h;have j0:∀a w,St M w0 143 [(11,QaN 57 [tptr [Qco Qaq (some m_)]]),(8,tptr [Qco Qaq (some m_)]),(2,tv (m0 0)),(4,tv (m0 1))] [glo,box (Qc.cs zz4) (m0 1),own Qg 47 ks (m2 2),box [ti x_.Version,tvs (m2 2),tsl Qn x_.Xd,tsl Qk x_.Xc] (m0 0)] a w->K0 a w:=by
   intro a w H;have⟨t2,h3,rs,hrs,h⟩:=bs2 h;obtain rfl:=sj h;replace H:St _ _ _ [_,_,_,_] [_,_,_] _ _:=((H.Xk [2,3,0,1] rfl).Xm 1 rfl).Xk [1,2,0] rfl;refine k0 _ _ ?_;clear k0 K0;refine wp_seq_k (λK0 k0=>?_);refine wr mx [v1 2 (λv0=>own Qk 104 t2 v0),v1 4 (λv0=>own Qk 104 rs v0),v1 4 (λv0=>box [ti x_.Version,tsl Qg ks,tsl Qn x_.Xd,tvs v0] (m0 0))] H (λ_=>.u [2] rfl rfl (Qal QiI z2)<|.u [2] rfl rfl (QhW (R:=(rSl Qk)) (u:=x_.Xc) QsU z0 rfl)<|.m [] [3] rfl rfl rfl (QJ QzS (QlR.ok h3) (.cons (.of z0)<|.nil))<|.o (Qic (.cons z4<|.nil))<|.e [] [3] [4] rfl rfl rfl rfl (QJ QzP (QjR.ok hrs) (.cons (.of z1)<|.cons (.of (Fct.Xp z0 (Qe2 QzO (λ_ _ hq=>QoV hq))))<|.nil))<|.u [2] rfl rfl (Qal QiI z7)<|.e [4] [2] [5] rfl rfl rfl rfl (Qey (off:=3) Qlb z0 z1 (leb rfl))<|.n) λ_ a w H=>?_;have H:=H.to [8,9] [_,_] [_,_,_,_] rfl rfl;replace H:St _ _ _ [_,_] [_,_,_] _ _:=((H.Xk [2,3,0,1] rfl).Xm 3 rfl).Xk [1,2,0] rfl;refine k0 _ _ ?_;clear k0 K0;refine wp_seq_k (λK0 k0=>?_);refine wr mx [v0 (box (Qc.cs (Qe.mk x_.Version ks x_.Xd rs)) (m0 1))] H (λ_=>.u [2] rfl rfl (QgL (R:=Qc) (u:=(Qe.mk x_.Version ks x_.Xd rs)) QbJ z0 rfl)<|.e [] [1] [3] rfl rfl rfl rfl (QaL (R:=Qc) (a:=(Qe.mk x_.Version ks x_.Xd rs)) QbJ z2 z0 (leb rfl))<|.o (Qp .k)<|.n) λ_ a w H=>?_;replace H:St _ _ _ [_,_] [_] _ _:=(H.pick [1,3]).Xk [2] rfl;refine k0 _ _ ?_;clear k0 K0;refine wp_ret ?_;exact rt undef [] hpl H (.cell (R:=Qc) (u:=(Qe.mk x_.Version ks x_.Xd rs)) QbJ z1 0 rfl rfl (.tmp z0 .nil))
  clear h k0;refine wp_block ?_;refine QeH _ (λ(s0:Int×List Qf) a w=>St M w0 143 [(48,ti s0.1),(47,ti (t1.length:Int)),(11,QaN 57 [tptr [Qco Qaq (some m_)]]),(8,tptr [Qco Qaq (some m_)]),(2,tv (m0 0)),(4,tv (m0 1))] [glo,box (Qc.cs zz4) (m0 1),own Qg 47 s0.2 (m2 2),box [ti x_.Version,tvs (m2 2),tsl Qn x_.Xd,tsl Qk x_.Xc] (m0 0)] a w) _ _ hks H ?_;clear hks;intro s0 o a w K2 H h ho k2;refine wp_seq_k (λK3 k3=>?_);refine wr mx [] H (λ_=>.o (QcD z0 z1)<|.n) λm3 a w H=>?_;replace H:St _ _ _ [_,_,_,_,_,_,_] [_,_,_,_] _ _:=H;refine k3 _ _ ?_;clear k3 K3;refine wp_seq_k (λK3 k3=>?_);refine wi H h (λb1 h=>?_) (λb1 h=>?_)
  ·have⟨u,hu,q,hq,t3,h4,fs,hfs,h⟩:=bs4 h;refine wp_skip (k3 _ _ ?_);clear k3 K3;refine wp_seq_k (λK3 k3=>?_);refine wp_block ?_;refine wp_seq_k (λK4 k4=>?_);refine wr mx [] H (λ_=>.q 1 rfl<|.o (Qp z0)<|.n) λm4 a w H=>?_;have H:=H.to [1,3,4,5,6,7,8] [_,_,_,_,_,_,_] [_,_,_,_] rfl rfl;refine k4 _ _ ?_;clear k4 K4;refine wp_seq_k (λK4 k4=>?_);refine wr mx [] H (λ_=>.u [3] rfl rfl (Qal QcU z5)<|.u [3] rfl rfl (QaU (u:=(m2 2)) Qgf z0 rfl)<|.q 2 rfl<|.u [2] rfl rfl (QaM ud29 Qda z1 z0 hu)<|.o (Qp z0)<|.n) λm5 a w H=>?_;have H:=H.to [4,8,6,7,9,10,11] [_,_,_,_,_,_,_] [_,_,_,_] rfl rfl;refine k4 _ _ ?_;clear k4 K4;refine wp_seq_k (λK4 k4=>?_);refine wr mx [v0 (own Qg 47 (s0.2.set s0.1.toNat (Qf.mk u.Xj q.1 q.2 u.Xb)) (m2 2))] H (λ_=>.q 1 rfl<|.q 1 rfl<|.u [2] rfl rfl (QeC z0 (QaR hu))<|.u [2] rfl rfl (Qa4 Qm6 z0 (QaR hu))<|.q 4 rfl<|.u [2] rfl rfl (QeC z0 (QaR hu))<|.u [2] rfl rfl (Qa4 Qm7 z0 (QaR hu))<|.q 7 rfl<|.u [2] rfl rfl (QeC z0 (QaR hu))<|.u [2] rfl rfl (Qa4 Qfu z0 (QaR hu))<|.u [2] rfl rfl (Qcx (R2:=rS) (f:=u.Xj) tok9 z0 hu rfl)<|.e [] [2] [4] rfl rfl rfl rfl (QeI (Tc:=[tptr [Qco Qaq (some m_)]]) (Ts:=[tv (padd (Qav (m2 2) (s0.1.toNat * Qg.n)) 1),tv (padd (Qav (m2 2) (s0.1.toNat * Qg.n)) 2),tv (.string (sB u.Xj)),tv (.string (sB ([32,108,101,97,115,116]:Str))),tv (.string (sB ([32,109,111,115,116]:Str))),ti (0:Int),ti (65536:Int)]) QoU (QiK (R:=Qg) (i:=s0.1) (lo:=1) (hi:=2) (U:=λa b=>Qf.mk u.Xj a b u.Xb) hq hu (λ_ _ _=>rfl) (λ_ _ _=>rfl) (leb rfl) (leb rfl)) z10 (.cons (.of z7)<|.cons (.of z4)<|.cons (.of z0)<|.cons (.of .k)<|.cons (.of .k)<|.cons (.of .k)<|.cons (.of .k)<|.nil))<|.n) λm6 a w H=>?_;replace H:St _ _ _ [_,_,_,_,_,_,_] [_,_,_,_] _ _:=(H.pick [12,13,14,15,16,17,18]).Xk [0,1,3,2] rfl;refine k4 _ _ ?_;clear k4 K4;have h5:idx (s0.2.set s0.1.toNat (Qf.mk u.Xj q.1 q.2 u.Xb)) s0.1=some (Qf.mk u.Xj q.1 q.2 u.Xb):=by
    obtain⟨i0,i1,i2⟩:=QhX hu;unfold idx;rw[Zb i0,getElem?_set_self i1]
   refine wp_seq_k (λK4 k4=>?_);refine wr mx [v1 5 (λv0=>own Qd 49 t3 v0),v1 5 (λv0=>own (Qbn Qg 3) 47 (QbD (s0.2.set s0.1.toNat (Qf.mk u.Xj q.1 q.2 u.Xb)) s0.1 v0) (m2 2))] H (λ_=>.q 0 rfl<|.q 1 rfl<|.u [2] rfl rfl (QeC z0 (QaR h5))<|.u [2] rfl rfl (Qa4 QbO z0 (QaR h5))<|.u [2] rfl rfl (Qcx (R2:=(rSl Qd)) (f:=u.Xb) Qkw z0 h5 rfl)<|.m [] [4] rfl rfl rfl (QJ QzR (Qlg.ok h4) (.cons (.of z0)<|.nil))<|.u [2] rfl rfl (QeC z5 (QaR h5))<|.u [2] rfl rfl (Qa4 QbO z0 (QaR h5))<|.e [4] [2] [5] rfl rfl rfl rfl (Qpj (R:=Qg) (R2:=Qd) (e2:=49) (ys:=t3) Qej z0 z2 h5 (leb rfl))<|.n) λm7 a w H=>?_;have H:=H.to [8,9,10,11,12,13,14] [_,_,_,_,_,_,_] [_,_,_,_,_] rfl rfl;refine k4 _ _ ?_;clear k4 K4;refine wp_seq_k (λK4 k4=>?_);refine wr mx [] H (λ_=>.q 0 rfl<|.u [4] rfl rfl (Qm3 z0 h5)<|.u [4] rfl rfl (QgM QbO z0 h5)<|.u [4] rfl rfl (Qkf (R:=Qg) (k:=3) Qej z0 h5 (leb rfl))<|.u [3] rfl rfl (Qdp ud45 z0)<|.o (Qar .k)<|.n) λ_ a w H=>?_;have H:=H.t9_5 [5,4,6,7,8,9,10,11,12];refine k4 _ _ ?_;clear k4 K4;have j1:∀a w,St M w0 143 [(13,tv (Qav (m2 2) (s0.1.toNat * Qg.n))),(11,QaN 57 [tptr [Qco Qaq (some m_)]]),(48,ti s0.1),(47,ti (t1.length:Int)),(8,tptr [Qco Qaq (some m_)]),(2,tv (m0 0)),(4,tv (m0 1))] [glo,box (Qc.cs zz4) (m0 1),box [ti x_.Version,tvs (m2 2),tsl Qn x_.Xd,tsl Qk x_.Xc] (m0 0),own Qd 49 fs (m7 5),own (Qbn Qg 3) 47 (QbD (s0.2.set s0.1.toNat (Qf.mk u.Xj q.1 q.2 u.Xb)) s0.1 (m7 5)) (m2 2)] a w->K3 a w:=by
    intro a w H;replace H:St _ _ _ [_,_,_,_,_,_,_] [_,_,_,_] _ _:=(H.Xk [3,4,0,1,2] rfl).closeH (u':=(Qf.mk u.Xj q.1 q.2 fs)) h5 (leb rfl) rfl;refine k3 _ _ ?_;refine wr mx [] H (λ_=>.o (QaI z2 .k)<|.q 0 rfl<|.n) λ_ a w H=>?_;exact k2 _ _ _ (sj h).symm ((H.pick [1,4,3,5,6,7]).Xk [1,2,0,3] rfl)
   clear h k3 k2 ho;refine wp_block ?_;refine QeH _ (λ(s1:Int×List Qb) a w=>St M w0 143 [(80,ti s1.1),(79,ti (t3.length:Int)),(13,tv (Qav (m2 2) (s0.1.toNat * Qg.n))),(11,QaN 57 [tptr [Qco Qaq (some m_)]]),(48,ti s0.1),(47,ti (t1.length:Int)),(8,tptr [Qco Qaq (some m_)]),(2,tv (m0 0)),(4,tv (m0 1))] [glo,box (Qc.cs zz4) (m0 1),box [ti x_.Version,tvs (m2 2),tsl Qn x_.Xd,tsl Qk x_.Xc] (m0 0),own Qd 49 s1.2 (m7 5),own (Qbn Qg 3) 47 (QbD (s0.2.set s0.1.toNat (Qf.mk u.Xj q.1 q.2 u.Xb)) s0.1 (m7 5)) (m2 2)] a w) _ _ hfs H ?_;clear hfs;intro s1 o3 a w K5 H h ho k5;refine wp_seq_k (λK6 k6=>?_);refine wr mx [] H (λ_=>.o (QcD z0 z1)<|.n) λ_ a w H=>?_;replace H:St _ _ _ [_,_,_,_,_,_,_,_,_,_] [_,_,_,_,_] _ _:=H;refine k6 _ _ ?_;clear k6 K6;refine wp_seq_k (λK6 k6=>?_);refine wi H h (λb2 h=>?_) (λb2 h=>?_)
   ·have⟨f,hf,p,hp,h⟩:=bs2 h;refine wp_skip (k6 _ _ ?_);clear k6 K6;refine wp_seq_k (λK6 k6=>?_);refine wp_block ?_;refine wp_seq_k (λK7 k7=>?_);refine wr mx [] H (λ_=>.q 1 rfl<|.o (Qp z0)<|.n) λ_ a w H=>?_;have H:=H.t10_5 [1,3,4,5,6,7,8,9,10,11];refine k7 _ _ ?_;clear k7 K7;refine wp_seq_k (λK7 k7=>?_);refine wr mx [] H (λ_=>.q 3 rfl<|.u [4] rfl rfl (Qm3 z0 h5)<|.u [4] rfl rfl (QgM QbO z0 h5)<|.u [4] rfl rfl (Qkf (R:=Qg) (k:=3) Qej z0 h5 (leb rfl))<|.q 4 rfl<|.u [3] rfl rfl (QaM ud45 QaY z1 z0 hf)<|.o (Qp z0)<|.n) λ_ a w H=>?_;have H:=H.t10_5 [6,10,11,8,9,12,13,14,15,16];refine k7 _ _ ?_;clear k7 K7;refine wp_seq_k (λK7 k7=>?_);refine wr mx [] H (λ_=>.q 0 rfl<|.u [3] rfl rfl (QeC z0 (QaR hf))<|.u [3] rfl rfl (Qa4 QhZ z0 (QaR hf))<|.u [3] rfl rfl (Qcx (R2:=rI) (f:=f.Xi) tok3 z0 hf rfl)<|.n) λ_ a w H=>?_;have H:=H.to [3,4,5,6,7,8,9,10,11,12,13] [_,_,_,_,_,_,_,_,_,_,_] [_,_,_,_,_] rfl rfl;refine k7 _ _ ?_;clear k7 K7;have j2:∀a w,St M w0 143 [(15,tv (Qav (m7 5) (s1.1.toNat * Qd.n))),(13,tv (Qav (m2 2) (s0.1.toNat * Qg.n))),(11,QaN 57 [tptr [Qco Qaq (some m_)]]),(80,ti s1.1),(79,ti (t3.length:Int)),(48,ti s0.1),(47,ti (t1.length:Int)),(8,tptr [Qco Qaq (some m_)]),(2,tv (m0 0)),(4,tv (m0 1))] [glo,box (Qc.cs zz4) (m0 1),box [ti x_.Version,tvs (m2 2),tsl Qn x_.Xd,tsl Qk x_.Xc] (m0 0),own Qd 49 p (m7 5),own (Qbn Qg 3) 47 (QbD (s0.2.set s0.1.toNat (Qf.mk u.Xj q.1 q.2 u.Xb)) s0.1 (m7 5)) (m2 2)] a w->K6 a w:=by
     intro a w H;refine k6 _ _ ?_;refine wr mx [] H (λ_=>.o (QaI z3 .k)<|.q 0 rfl<|.n) λ_ a w H=>?_;exact k5 _ _ _ (sj h).symm (H.pick [1,5,3,4,6,7,8,9,10])
    clear h k6 k5 ho;unfold Qok at hp;refine wp_block ?_;refine wp_seq_k (λK7 k7=>?_);refine wr mx [] H (λ_=>.o (QcS z0 .k)<|.o (Qp z0)<|.n) λ_ a w H=>?_;have H:=H.to [1,2,3,4,5,6,7,8,9,10,11,12] [_,_,_,_,_,_,_,_,_,_,_,_] [_,_,_,_,_] rfl rfl;refine k7 _ _ ?_;clear k7 K7;refine wt H (λb3=>?_) (λb3=>?_)
    ·replace hp:=QdJ b3 hp;have H:=H.t10_5 [2,3,4,5,6,7,8,9,10,11];obtain⟨c1,hc1,hp⟩:=bind_some hp;obtain⟨c2,hc2,hp⟩:=bind_some hp;obtain⟨z,hz,hp⟩:=bind_some hp;obtain rfl:=sj hp;refine wr mx [v0 (own Qd 49 (s1.2.set s1.1.toNat (Qb.mk f.Xj f.Of f.Up f.Xi z.1 z.2 f.Words f.Xf)) (m7 5))] H (λ_=>.q 2 rfl<|.q 1 rfl<|.u [3] rfl rfl (QeC z0 (QaR hf))<|.u [3] rfl rfl (Qa4 Qj6 z0 (QaR hf))<|.q 4 rfl<|.u [3] rfl rfl (QeC z0 (QaR hf))<|.u [3] rfl rfl (Qa4 Qj7 z0 (QaR hf))<|.q 8 rfl<|.u [4] rfl rfl (Qm3 z0 h5)<|.u [4] rfl rfl (QgM Qfu z0 h5)<|.u [4] rfl rfl (Qpk (R2:=rS) (f:=u.Xj) (off:=0) tok9 z0 h5 rfl)<|.o (Qcn z0 .k hc1)<|.q 12 rfl<|.u [3] rfl rfl (QeC z0 (QaR hf))<|.u [3] rfl rfl (Qa4 Qj5 z0 (QaR hf))<|.u [3] rfl rfl (Qcx (R2:=rS) (f:=f.Xj) tok9 z0 hf rfl)<|.o (Qcn z4 z0 hc2)<|.e [] [3] [5] rfl rfl rfl rfl (QeI (Tc:=[tptr [Qco Qaq (some m_)]]) (Ts:=[tv (padd (Qav (m7 5) (s1.1.toNat * Qd.n)) 4),tv (padd (Qav (m7 5) (s1.1.toNat * Qd.n)) 5),tv (.string (sB ((u.Xj++([46]:Str))++f.Xj))),tv (.string (sB ([32,108,101,97,115,116]:Str))),tv (.string (sB ([32,109,111,115,116]:Str))),ti (0:Int),ti (65536:Int)]) QoU (QiK (R:=Qd) (i:=s1.1) (lo:=4) (hi:=5) (U:=λa b=>Qb.mk f.Xj f.Of f.Up f.Xi a b f.Words f.Xf) hz hf (λ_ _ _=>rfl) (λ_ _ _=>rfl) (leb rfl) (leb rfl)) z16 (.cons (.of z13)<|.cons (.of z10)<|.cons (.of z0)<|.cons (.of .k)<|.cons (.of .k)<|.cons (.of .k)<|.cons (.of .k)<|.nil))<|.n) λ_ a w H=>?_;exact j2 _ _ ((H.pick [18,19,20,21,22,23,24,25,26,27]).Xk [0,1,2,4,3] rfl)
    replace hp:=QdK b3 hp;refine wp_seq_k (λK7 k7=>?_);have j3:∀a w,St M w0 143 [(113,tb ((f.Xi==2)||(f.Xi==4))),(15,tv (Qav (m7 5) (s1.1.toNat * Qd.n))),(13,tv (Qav (m2 2) (s0.1.toNat * Qg.n))),(11,QaN 57 [tptr [Qco Qaq (some m_)]]),(80,ti s1.1),(79,ti (t3.length:Int)),(48,ti s0.1),(47,ti (t1.length:Int)),(8,tptr [Qco Qaq (some m_)]),(2,tv (m0 0)),(4,tv (m0 1))] [glo,box (Qc.cs zz4) (m0 1),box [ti x_.Version,tvs (m2 2),tsl Qn x_.Xd,tsl Qk x_.Xc] (m0 0),own Qd 49 s1.2 (m7 5),own (Qbn Qg 3) 47 (QbD (s0.2.set s0.1.toNat (Qf.mk u.Xj q.1 q.2 u.Xb)) s0.1 (m7 5)) (m2 2)] a w->K7 a w:=by
     intro a w H;refine k7 _ _ ?_;refine wt H (λb4=>?_) (λb4=>?_)
     ·replace hp:=QdJ b4 hp;have H:=H.t10_5 [1,2,3,4,5,6,7,8,9,10];obtain⟨c1,hc1,hp⟩:=bind_some hp;obtain⟨c2,hc2,hp⟩:=bind_some hp;obtain⟨z,hz,hp⟩:=bind_some hp;obtain rfl:=sj hp;refine wr mx [v0 (own Qd 49 (s1.2.set s1.1.toNat (Qb.mk f.Xj f.Of f.Up f.Xi z.1 z.2 f.Words f.Xf)) (m7 5))] H (λ_=>.q 2 rfl<|.q 1 rfl<|.u [3] rfl rfl (QeC z0 (QaR hf))<|.u [3] rfl rfl (Qa4 Qj6 z0 (QaR hf))<|.q 4 rfl<|.u [3] rfl rfl (QeC z0 (QaR hf))<|.u [3] rfl rfl (Qa4 Qj7 z0 (QaR hf))<|.q 8 rfl<|.u [4] rfl rfl (Qm3 z0 h5)<|.u [4] rfl rfl (QgM Qfu z0 h5)<|.u [4] rfl rfl (Qpk (R2:=rS) (f:=u.Xj) (off:=0) tok9 z0 h5 rfl)<|.o (Qcn z0 .k hc1)<|.q 12 rfl<|.u [3] rfl rfl (QeC z0 (QaR hf))<|.u [3] rfl rfl (Qa4 Qj5 z0 (QaR hf))<|.u [3] rfl rfl (Qcx (R2:=rS) (f:=f.Xj) tok9 z0 hf rfl)<|.o (Qcn z4 z0 hc2)<|.e [] [3] [5] rfl rfl rfl rfl (QeI (Tc:=[tptr [Qco Qaq (some m_)]]) (Ts:=[tv (padd (Qav (m7 5) (s1.1.toNat * Qd.n)) 4),tv (padd (Qav (m7 5) (s1.1.toNat * Qd.n)) 5),tv (.string (sB ((u.Xj++([46]:Str))++f.Xj))),tv (.string (sB ([32,108,111,119]:Str))),tv (.string (sB ([32,104,105,103,104]:Str))),ti (-1048576:Int),ti (1048576:Int)]) QoU (QiK (R:=Qd) (i:=s1.1) (lo:=4) (hi:=5) (U:=λa b=>Qb.mk f.Xj f.Of f.Up f.Xi a b f.Words f.Xf) hz hf (λ_ _ _=>rfl) (λ_ _ _=>rfl) (leb rfl) (leb rfl)) z16 (.cons (.of z13)<|.cons (.of z10)<|.cons (.of z0)<|.cons (.of .k)<|.cons (.of .k)<|.cons (.of .k)<|.cons (.of .k)<|.nil))<|.n) λ_ a w H=>?_;exact j2 _ _ ((H.pick [18,19,20,21,22,23,24,25,26,27]).Xk [0,1,2,4,3] rfl)
     replace hp:=QdK b4 hp;refine wp_skip ?_;obtain rfl:=sj hp;exact j2 _ _ (H.pick [1,2,3,4,5,6,7,8,9,10])
    clear k7 hp;refine wp_seq_k (λK8 k8=>?_);refine wr mx [] H (λ_=>.o (QcS z1 .k)<|.o (Qp z0)<|.n) λ_ a w H=>?_;have H:=H.to [1,3,4,5,6,7,8,9,10,11,12,13] [_,_,_,_,_,_,_,_,_,_,_,_] [_,_,_,_,_] rfl rfl;refine k8 _ _ ?_;clear k8 K8;refine wt H (λb5=>?_) (λb5=>?_)
    ·refine wp_skip ?_;rw[b5,Bool.true_or] at j3;rw[b5] at H;exact j3 _ _ (H.pick [0,2,3,4,5,6,7,8,9,10,11])
    rw[b5,Bool.false_or] at j3;refine wr mx [] H (λ_=>.o (QcS z1 .k)<|.o (Qp z0)<|.n) λ_ a w H=>?_;exact j3 _ _ (H.pick [1,3,4,5,6,7,8,9,10,11,12])
   refine wp_exit ?_;obtain rfl:=ho _ (sj h).symm;exact j1 _ _ (H.pick [3,4,5,6,7,8,9])
  refine wp_exit ?_;obtain rfl:=ho _ (sj h).symm;exact j0 _ _ (H.pick [3,4,5,6])
 clear h k0;refine wp_block ?_;refine QeH _ (λ(s2:Int×List (Str×Bool)) a w=>St M w0 143 [(28,ti s2.1),(27,ti (names_.length:Int)),(26,tsl rS names_),(8,tv (m1 1)),(25,tv (m1 0)),(6,tsl rS t0.1),(2,tv (m0 0)),(4,tv (m0 1))] [glo,box (Qc.cs x_) (m0 0),box (Qc.cs zz4) (m0 1),QeU Qaq (some s2.2) (m1 0),box (rVal.cs (m1 0)) (m1 1)] a w) _ _ h1 H ?_;clear h1;intro s2 o a w K2 H h ho k2;refine wp_seq_k (λK3 k3=>?_);refine wr mx [] H (λ_=>.o (QcD z0 z1)<|.n) λm3 a w H=>?_;replace H:St _ _ _ [_,_,_,_,_,_,_,_,_] [_,_,_,_,_] _ _:=H;refine k3 _ _ ?_;clear k3 K3;refine wp_seq_k (λK3 k3=>?_);refine wi H h (λb1 h=>?_) (λb1 h=>?_)
 ·have⟨t4,h6,t5,h7,h⟩:=bs2 h;refine wp_skip (k3 _ _ ?_);clear k3 K3;refine wp_seq_k (λK3 k3=>?_);refine wp_block ?_;refine wp_seq_k (λK4 k4=>?_);refine wr mx [] H (λ_=>.o (QcL ud25 tok9 z3 z1 h6)<|.o (Q9 tok9 z0)<|.o (Qp z0)<|.n) λm4 a w H=>?_;have H:=H.t9_5 [2,4,5,6,7,8,9,10,11];refine k4 _ _ ?_;clear k4 K4;refine wp_seq_k (λK4 k4=>?_);refine wp_seq_k (λK5 k5=>?_);refine wr mx [] H (λ_=>.q 6 rfl<|.q 1 rfl<|.o (QJ QzT (QjQ.ok h7) (.cons (.of z1)<|.cons (.of z0)<|.nil))<|.o (QgK z0)<|.n) λm5 a w H=>?_;have H:=H.t10_5 [3,4,5,6,7,8,9,10,11,12];refine k5 _ _ ?_;clear k5 K5;refine wi H h (λb2 h=>?_) (λb2 h=>?_)
  ·refine wp_seq_k (λK5 k5=>?_);refine wr mx [v0 (box (Qc.cs zz4) (m0 1))] H (λ_=>.p (T:=Qc.ty zz4) rfl (QaF ud33 pl33 zv33 zc33 (.nil _))<|.e [] [2] [5] rfl rfl rfl rfl (QaL (R:=Qc) (a:=zz4) QbJ z10 z0 (leb rfl))<|.o (Qp .k)<|.n) λm6 a w H=>?_;refine k5 _ _ ?_;refine wp_ret ?_;exact hX _ _ (ho _ (sj h).symm).symm ((H.pick [1,11]).Xk [4] rfl)
  refine wp_skip (k4 _ _ ?_);refine wr mx [v0 (QeU Qaq (some (QhK s2.2 t4 true)) (m1 0))] H (λ_=>.u [4] rfl rfl (Qbm QnC z5)<|.q 2 rfl<|.e [] [3] [5] rfl rfl rfl rfl (QsC (R:=Qaq) (u:=true) Qm8 ud9 z1 z0 .k rfl)<|.n) λm6 a w H=>?_;replace H:St _ _ _ [_,_,_,_,_,_,_,_] [_,_,_,_,_] _ _:=(H.pick [4,5,6,7,8,9,10,11]).Xk [0,1,2,4,3] rfl;refine k3 _ _ ?_;refine wr mx [] H (λ_=>.o (QaI z0 .k)<|.q 0 rfl<|.n) λm7 a w H=>?_;exact k2 _ _ _ (sj h).symm (H.pick [1,2,3,4,5,6,7,8])
 refine wp_exit ?_;exact hJ _ _ _ (ho _ (sj h).symm).symm (H.pick [4,5,7,8])
def Qcr (l_:(List Str)) (name_:Str):Option (Bool):=(Qu (λ(s0:Int)=>((if (decide (s0<(l_.length:Int)))=true then (idx l_ s0).bind λt0=>(if (t0==name_)=true then (some (.inr (.inr true))) else (some (.inl (i64.wrap (s0+1))))) else (some (.inr (.inl ())))):Option ((Int)⊕((Unit)⊕(Bool))))) (0:Int)).bind λe0=>(match e0 with | .inl _=>(some false) | .inr p0=>(some p0))
instance QAr:Spc2 prog 63 Qcr (λl_ name_=>[tsl rS l_,tv (.string (sB name_))]) tb:=.mk λ{l_ name_ r} h=>by
 unfold Qcr at h
 refine Fe func63 ntmps63 λM0 M w0 hpl=>?_
 refine Qa [1,2] ?_
 refine Qi λK0 k0=>?_
 refine Qa [0,1,2] ?_
 have⟨e0,h0,h⟩:=bs h
 have J0:∀(p0:Unit),(.inl p0)=e0->To M w0 18 [] [] K0:=by
  intro p0 he;subst he;simp only at h;refine k0 <|Qa [0] ?_;exact Qo h (·▸Ql hpl)
 have J1:∀(p1:Bool),(.inr p1)=e0->To M w0 18 [(4,tb p1)] [] (Ret prog f63 M0 [] w0 (λ_=>[]) (λ_=>tb r) .ret):=by
  intro p1 he;subst he;simp only at h;obtain rfl:=sj h;exact Ql hpl
 refine Qm <|Qan h0 (λ(s0:Int)=>[(5,ti s0),(0,tsl rS l_),(1,tv (.string (sB name_)))]) (λ(s0:Int)=>[]) [0,1,2] ?_;clear h;intro s0 o K1 h ho k1;refine Qi λ_ k2=>Qa [3,4,5,6] ?_;refine Qq h (λ_ h=>?_) (λ_ h=>?_)
 ·refine Qt <|k2 <|Qi λ_ k3=>Qm ?_;have⟨_,_,h⟩:=bs h;refine Qa [5,7,8,9] ?_;refine Qq h (λ_ h=>?_) (λ_ h=>?_)
  ·refine Qa [0] ?_;refine Qap ?_;exact Qz J1 (ho _ (sj h).symm) [0]
  refine Qt <|k3 <|QL [2,4,5] ?_;exact Qz k1 ((sj h).symm) [0,1,2]
 refine QP <|Qz J0 (ho _ (sj h).symm) []
def Qhw (x_:Qe) (names_:(List Str)):Option (Qe×Int):=(QfA x_).bind λt0=>(if (t0.2 !=0)=true then (some (zz4,t0.2)) else (Qu (λ(s0:Int)=>((if (decide (s0<(names_.length:Int)))=true then (idx names_ s0).bind λt1=>(Qcr t0.1 t1).bind λt2=>(if (!t2)=true then (some (.inr (.inr (12:Int)))) else (some (.inl (i64.wrap (s0+1))))) else (some (.inr (.inl ())))):Option ((Int)⊕((Unit)⊕(Int))))) (0:Int)).bind λe0=>(match e0 with | .inl _=>(Qu (λ(s1:Int×List Qf)=>((if (decide (s1.1<(x_.Xa.length:Int)))=true then (idx x_.Xa s1.1).bind λt3=>(cat (t3.Xj.length+([32,108,101,97,115,116]:Str).length)).bind λ_=>(Qcr names_ (t3.Xj++([32,108,101,97,115,116]:Str))).bind λt4=>((if (!t4)=true then (some (Qf.mk t3.Xj 0 t3.Hi t3.Xb)) else (some t3))).bind λp0=>(cat (p0.Xj.length+([32,109,111,115,116]:Str).length)).bind λ_=>(Qcr names_ (p0.Xj++([32,109,111,115,116]:Str))).bind λt5=>((if (!t5)=true then (some (Qf.mk p0.Xj p0.Lo 65536 p0.Xb)) else (some p0))).bind λp1=>(Qu (λ(s2:Int×List Qb)=>((idx x_.Xa s1.1).bind λt6=>(if (decide (s2.1<(t6.Xb.length:Int)))=true then (idx x_.Xa s1.1).bind λt7=>(idx t7.Xb s2.1).bind λt8=>(cat (p1.Xj.length+([46]:Str).length)).bind λ_=>(cat ((p1.Xj++([46]:Str)).length+t8.Xj.length)).bind λ_=>(opt ((t8.Xi==1)==true) (cat (((p1.Xj++([46]:Str))++t8.Xj).length+([32,108,101,97,115,116]:Str).length)) default).bind λ_=>(opt ((t8.Xi==1)==true) (Qcr names_ (((p1.Xj++([46]:Str))++t8.Xj)++([32,108,101,97,115,116]:Str))) default).bind λt9=>((if ((t8.Xi==1)&&(!t9))=true then (some (Qb.mk t8.Xj t8.Of t8.Up t8.Xi 0 t8.Hi t8.Words t8.Xf)) else (some t8))).bind λp2=>(opt ((p2.Xi==1)==true) (cat (((p1.Xj++([46]:Str))++t8.Xj).length+([32,109,111,115,116]:Str).length)) default).bind λ_=>(opt ((p2.Xi==1)==true) (Qcr names_ (((p1.Xj++([46]:Str))++t8.Xj)++([32,109,111,115,116]:Str))) default).bind λt10=>((if ((p2.Xi==1)&&(!t10))=true then (some (Qb.mk p2.Xj p2.Of p2.Up p2.Xi p2.Lo 65536 p2.Words p2.Xf)) else (some p2))).bind λp3=>(opt (((t8.Xi==2)||(t8.Xi==4))==true) (cat (((p1.Xj++([46]:Str))++t8.Xj).length+([32,108,111,119]:Str).length)) default).bind λ_=>(opt (((t8.Xi==2)||(t8.Xi==4))==true) (Qcr names_ (((p1.Xj++([46]:Str))++t8.Xj)++([32,108,111,119]:Str))) default).bind λt11=>((if (((t8.Xi==2)||(t8.Xi==4))&&(!t11))=true then (some (Qb.mk p3.Xj p3.Of p3.Up p3.Xi (-1048576) p3.Hi p3.Words p3.Xf)) else (some p3))).bind λp4=>(opt (((t8.Xi==2)||(t8.Xi==4))==true) (cat (((p1.Xj++([46]:Str))++t8.Xj).length+([32,104,105,103,104]:Str).length)) default).bind λ_=>(opt (((t8.Xi==2)||(t8.Xi==4))==true) (Qcr names_ (((p1.Xj++([46]:Str))++t8.Xj)++([32,104,105,103,104]:Str))) default).bind λt12=>((if (((t8.Xi==2)||(t8.Xi==4))&&(!t12))=true then (some (Qb.mk p4.Xj p4.Of p4.Up p4.Xi p4.Lo 1048576 p4.Words p4.Xf)) else (some p4))).bind λp5=>(rm (s2.2.length+[p5].length)).bind λ_=>(some (.inl ((i64.wrap (s2.1+1)),(s2.2++[p5])))) else (some (.inr s2.2))):Option ((Int×List Qb)⊕((List Qb))))) ((0:Int),([]:List Qb))).bind λp6=>(rm (s1.2.length+[(Qf.mk p1.Xj p1.Lo p1.Hi p6)].length)).bind λ_=>(some (.inl ((i64.wrap (s1.1+1)),(s1.2++[(Qf.mk p1.Xj p1.Lo p1.Hi p6)])))) else (some (.inr s1.2))):Option ((Int×List Qf)⊕((List Qf))))) ((0:Int),([]:List Qf))).bind λp7=>(Qu (λ(s3:Int×List Qh)=>((if (decide (s3.1<(x_.Xc.length:Int)))=true then (idx x_.Xc s3.1).bind λt13=>(cat (([114,117,108,101,58]:Str).length+t13.Xj.length)).bind λ_=>(Qcr names_ (([114,117,108,101,58]:Str)++t13.Xj)).bind λt14=>((if t14=true then (idx x_.Xc s3.1).bind λt15=>(rm (s3.2.length+[t15].length)).bind λ_=>(some (s3.2++[t15])) else (some s3.2))).bind λp8=>(some (.inl ((i64.wrap (s3.1+1)),p8))) else (some (.inr s3.2))):Option ((Int×List Qh)⊕((List Qh))))) ((0:Int),([]:List Qh))).bind λp9=>(some ((Qe.mk x_.Version p7 x_.Xd p9),(0:Int))) | .inr p10=>(some (zz4,p10))))
instance QAk:Spc2 prog 22 Qhw (λx_ names_=>[Qc.ty x_,tsl rS names_]) (λr=>ttup [Qc.ty r.1,ti r.2]):=.mk λ{x_ names_ r} h=>by
 unfold Qhw at h
 refine Fe func22 ntmps22 λM0 M w0 hpl=>?_
 refine QB [v1 1 (λv0=>box (Qc.cs zz4) v0)] [2] [0,1,4] λm0=>?_
 have⟨t0,_,h⟩:=bs h
 refine Qa [5,6,7,8,9] ?_
 refine tIfs h [1,2,3,4,5,6] (λ_ h=>?_) (λ_ h=>?_)
 ·refine QB [v0 (box (Qc.cs zz4) (m0 1))] [3] [2,7] λm1=>?_
  exact Qo h (·▸Ql hpl)
 refine Qi λK0 k0=>?_
 refine Qa [0,2,4,5,6] ?_
 have⟨e0,h0,h⟩:=bs h
 have J0:∀(p0:Unit),(.inl p0)=e0->To M w0 185 [(2,tptr (Qc.cs x_)),(4,tv (m0 1)),(1,tsl rS names_)] [box (Qc.cs zz4) (m0 1)] K0:=by
  intro p0 he;subst he;simp only at h;refine k0 ?_;intro a w H;refine sr mx [v1 5 (λv0=>box (Qc.cs zz4) v0),v1 5 (λv0=>box ([ti x_.Version,tvs nilV,tsl Qn x_.Xd,tvs nilV]) v0)] H (λ_=>.o (Q4 QoG z0)<|.o (Q2 (u:=x_.Version) tok3 z0 rfl)<|.o (Q4 QrW z2)<|.o (Q2 (u:=x_.Xd) QsR z0 rfl)<|.p (T:=tagg ([ti x_.Version,tvs nilV,tsl Qn x_.Xd,tvs nilV])) rfl (QaF ud33 pl33 zv33 QsV.1 (.cons (R:=rI) (u:=x_.Version) rfl z2 (leb rfl)<|.cons (R:=(rSl Qn)) (u:=x_.Xd) rfl z0 (leb rfl)<|.nil _))<|.m [] [1] rfl rfl rfl (Qbo (R:=Qc) (a:=zz4) QbJ QpY)<|.e [] [1] [2] rfl rfl rfl rfl (QaL (R:=(rAgg ([ti x_.Version,tvs nilV,tsl Qn x_.Xd,tvs nilV]) (Qv (Q6 rfl) (Qv QcB (Qv QbV (Qv QcB Qaa)))))) (a:=()) (tokA QbJ (Qv (Q6 rfl) (Qv QcB (Qv QbV (Qv QcB Qaa)))) rfl rfl) z0 z1 (leb rfl))<|.n) λm2 a w H=>?_;replace H:St _ _ _ [_,_,_,_] [_,_,_,_] _ _:=((H.pick [5,6,7,8]).nil (Qg) 47).nil (Qk) 104;refine Q8 H ?_;refine Qi λK1 k1=>Qa [0,1,2,3,4] ?_;have⟨e1,h1,h⟩:=bs h;have J1:∀(p1:List Qf) (y0:Value),p1=e1->To M w0 185 [(9,tv (m2 5)),(2,tptr (Qc.cs x_)),(4,tv (m0 1)),(1,tsl rS names_)] [own Qk 104 ([]:List Qh) nilV,own Qg 47 p1 y0,box (Qc.cs zz4) (m0 1),box ([ti x_.Version,tvs y0,tsl Qn x_.Xd,tvs nilV]) (m2 5)] K1:=by
   intro p1 y0 he;subst he;refine k1 <|Qi λK2 k2=>Qa [0,1,2,3,4] ?_;have⟨e2,h2,h⟩:=bs h;have J2:∀(p2:List Qh) (y1:Value),p2=e2->To M w0 185 [(9,tv (m2 5)),(4,tv (m0 1))] [own Qk 104 p2 y1,own Qg 47 p1 y0,box (Qc.cs zz4) (m0 1),box ([ti x_.Version,tvs y0,tsl Qn x_.Xd,tvs y1]) (m2 5)] K2:=by
    intro p2 y1 he;subst he;refine k2 <|QN (As'':=[box ([ti x_.Version,tsl Qg p1,tsl Qn x_.Xd,tvs y1]) (m2 5),own Qk 104 p2 y1,box (Qc.cs zz4) (m0 1)]) (λ_ _ H=>((H.pick [0,1]).Xk [1,3,0,2] rfl).Xm 1 rfl) ?_;refine QN (As'':=[box (Qc.cs (Qe.mk x_.Version p1 x_.Xd p2)) (m2 5),box (Qc.cs zz4) (m0 1)]) (λ_ _ H=>((H.pick [0,1]).Xk [1,0,2] rfl).Xm 3 rfl) ?_;refine QB [v0 (box (Qc.cs (Qe.mk x_.Version p1 x_.Xd p2)) (m0 1))] [2] [1,3] λm3=>?_;refine QN (λ_ _ H=>H.Xk [1] rfl) ?_;exact Qo h (·▸Ql hpl)
   refine Qm <|QaJ h2 (λ(s0:Int×List Qh) (y2:Value)=>[(16,ti s0.1),(9,tv (m2 5)),(2,tptr (Qc.cs x_)),(4,tv (m0 1)),(1,tsl rS names_)]) (λ(s0:Int×List Qh) (y2:Value)=>[own Qk 104 s0.2 y2,own Qg 47 p1 y0,box (Qc.cs zz4) (m0 1),box ([ti x_.Version,tvs y0,tsl Qn x_.Xd,tvs y2]) (m2 5)]) nilV [0,1,2,3,4] ?_;clear h;intro s0 y2 o K3 h ho k3;refine Qi λ_ k4=>Qa [4,5,6,7,8,9] ?_;refine Qq h (λ_ h=>?_) (λ_ h=>?_)
   ·refine Qt <|k4 <|Qi λK4 k5=>Qm ?_;have⟨_,_,_,_,_,_,h⟩:=bs3 h;refine Qa [8,10,11,12,13,14] ?_;have⟨p3,h3,h⟩:=bs h;have J3:∀(y3:Value),To M w0 185 [(16,ti s0.1),(9,tv (m2 5)),(2,tptr (Qc.cs x_)),(4,tv (m0 1)),(1,tsl rS names_)] [own Qg 47 p1 y0,box (Qc.cs zz4) (m0 1),own Qk 104 p3 y3,box ([ti x_.Version,tvs y0,tsl Qn x_.Xd,tvs y3]) (m2 5)] K4:=by
     intro y3;refine k5 <|QL [2,3,4,5,6] ?_;refine Qae (λ_ _ H=>(H.pick [0,1,2,3,4]).Xk [2,0,1,3] rfl) ?_;exact QX k3 y3 ((sj h).symm) [0,1,2,3,4]
    replace h:=h3;clear h3;refine Qq h (λ_ h=>?_) (λ_ h=>?_)
    ·have⟨t1,_,_,_,h⟩:=bs2 h;refine Qah [v1 8 (λv0=>own Qk 104 (s0.2++[t1]) v0),v1 8 (λv0=>box ([ti x_.Version,tvs y0,tsl Qn x_.Xd,tvs v0]) (m2 5))] [9,11] [8,11,12,13,14,15] λm4=>?_;obtain rfl:=sj h;exact QI (J3 (m4 8)) [1,2,3,4,5]
    refine Qt ?_;obtain rfl:=sj h;refine Qae (λ_ _ H=>(H.pick [1,2,3,4,5]).Xk [1,2,0,3] rfl) ?_;exact QI (J3 y2) [0,1,2,3,4]
   refine QP <|QX J2 y2 (ho _ (sj h).symm) [2,4]
  refine Qm <|QaJ h1 (λ(s1:Int×List Qf) (y4:Value)=>[(10,ti s1.1),(9,tv (m2 5)),(2,tptr (Qc.cs x_)),(4,tv (m0 1)),(1,tsl rS names_)]) (λ(s1:Int×List Qf) (y4:Value)=>[own Qk 104 ([]:List Qh) nilV,own Qg 47 s1.2 y4,box (Qc.cs zz4) (m0 1),box ([ti x_.Version,tvs y4,tsl Qn x_.Xd,tvs nilV]) (m2 5)]) nilV [0,1,2,3,4] ?_;clear h;intro s1 y4 o K5 h ho k6;refine Qi λ_ k7=>Qa [4,5,6,7,8,9] ?_;refine Qq h (λ_ h=>?_) (λ_ h=>?_)
  ·refine Qt <|k7 <|Qi λ_ k8=>Qm ?_;have⟨t2,_,h⟩:=bs h;refine QB [v1 5 (λv0=>box (Qg.cs zz1) v0),v1 5 (λv0=>box (Qg.cs t2) v0)] [6,7] [5,7,8,9,10,11] λm5=>?_;refine Qi λK6 k9=>?_;have⟨_,_,_,_,h⟩:=bs2 h;refine Qa [5,6,7,8,9,10,11] ?_;have⟨p4,h4,h⟩:=bs h;have J4:To M w0 185 [(11,tv (m5 5)),(10,ti s1.1),(9,tv (m2 5)),(2,tptr (Qc.cs x_)),(4,tv (m0 1)),(1,tsl rS names_)] [own Qk 104 ([]:List Qh) nilV,own Qg 47 s1.2 y4,box (Qc.cs zz4) (m0 1),box ([ti x_.Version,tvs y4,tsl Qn x_.Xd,tvs nilV]) (m2 5),box (Qg.cs p4) (m5 5)] K6:=by
    refine k9 <|Qi λK7 k10=>?_;have⟨_,_,_,_,h⟩:=bs2 h;refine Qa [5,6,7,8,9,10,11] ?_;have⟨p5,h5,h⟩:=bs h;have J5:To M w0 185 [(11,tv (m5 5)),(10,ti s1.1),(9,tv (m2 5)),(2,tptr (Qc.cs x_)),(4,tv (m0 1)),(1,tsl rS names_)] [own Qk 104 ([]:List Qh) nilV,own Qg 47 s1.2 y4,box (Qc.cs zz4) (m0 1),box ([ti x_.Version,tvs y4,tsl Qn x_.Xd,tvs nilV]) (m2 5),box (Qg.cs p5) (m5 5)] K7:=by
     refine k10 ?_;intro a w H;refine sr mx [v0 (box ([tv (.string (sB p5.Xj)),ti p5.Lo,ti p5.Hi,tvs nilV]) (m5 5))] H (λ_=>.u [4] rfl rfl (Qal QbO z0)<|.e [] [4] [5] rfl rfl rfl rfl (Qlu (R:=rVal) (a:=nilV) (Ts:=(Qg.cs p5)) (off:=3) Qej z0 .nilV (leb rfl))<|.n) λ_ a w H=>?_;replace H:St _ _ _ [_,_,_,_,_,_] [_,_,_,_,_,_] _ _:=(H.pick [1,2,3,4,5,6]).nil (Qd) 49;refine Q8 H ?_;refine Qi λK8 k11=>Qa [0,1,2,3,4,5,6] ?_;have⟨e3,h6,h⟩:=bs h;have J6:∀(p6:List Qb) (y5:Value),p6=e3->To M w0 185 [(11,tv (m5 5)),(10,ti s1.1),(9,tv (m2 5)),(2,tptr (Qc.cs x_)),(4,tv (m0 1)),(1,tsl rS names_)] [own Qd 49 p6 y5,own Qk 104 ([]:List Qh) nilV,own Qg 47 s1.2 y4,box (Qc.cs zz4) (m0 1),box ([ti x_.Version,tvs y4,tsl Qn x_.Xd,tvs nilV]) (m2 5),box ([tv (.string (sB p5.Xj)),ti p5.Lo,ti p5.Hi,tvs y5]) (m5 5)] K8:=by
      intro p6 y5 he;subst he;refine k11 <|QN (As'':=[box (Qg.cs (Qf.mk p5.Xj p5.Lo p5.Hi p6)) (m5 5),own Qk 104 ([]:List Qh) nilV,own Qg 47 s1.2 y4,box (Qc.cs zz4) (m0 1),box ([ti x_.Version,tvs y4,tsl Qn x_.Xd,tvs nilV]) (m2 5)]) (λ_ _ H=>((H.pick [0,1,2,3,4,5]).Xk [0,5,1,2,3,4] rfl).Xm 3 rfl) ?_;have⟨_,_,h⟩:=bs h;refine Qah [v1 4 (λv0=>own Qg 47 (s1.2++[(Qf.mk p5.Xj p5.Lo p5.Hi p6)]) v0),v1 4 (λv0=>box ([ti x_.Version,tvs v0,tsl Qn x_.Xd,tvs nilV]) (m2 5))] [5,7] [4,7,8,9,10,11] λm6=>?_;refine Qae (λ_ _ H=>H.Xk [1,2,3,4] rfl) ?_;refine k8 <|QL [2,3,4,5,6,7] ?_;refine Qae (λ_ _ H=>(H.pick [0,2,3,4,5]).Xk [0,2,1,3] rfl) ?_;exact QX k6 (m6 4) ((sj h).symm) [0,1,2,3,4]
     refine Qm <|QaJ h6 (λ(s2:Int×List Qb) (y6:Value)=>[(12,ti s2.1),(11,tv (m5 5)),(10,ti s1.1),(9,tv (m2 5)),(2,tptr (Qc.cs x_)),(4,tv (m0 1)),(1,tsl rS names_)]) (λ(s2:Int×List Qb) (y6:Value)=>[own Qd 49 s2.2 y6,own Qk 104 ([]:List Qh) nilV,own Qg 47 s1.2 y4,box (Qc.cs zz4) (m0 1),box ([ti x_.Version,tvs y4,tsl Qn x_.Xd,tvs nilV]) (m2 5),box ([tv (.string (sB p5.Xj)),ti p5.Lo,ti p5.Hi,tvs y6]) (m5 5)]) nilV [0,1,2,3,4,5,6] ?_;clear h;intro s2 y6 o K9 h ho k12;refine Qi λ_ k13=>?_;have⟨_,_,h⟩:=bs h;refine Qa [8,9,10,11,12,13,14,15] ?_;refine Qq h (λ_ h=>?_) (λ_ h=>?_)
     ·refine Qt <|k13 <|Qi λ_ k14=>Qm ?_;have⟨_,_,t3,_,h⟩:=bs2 h;refine QB [v1 9 (λv0=>box (Qd.cs zz0) v0),v1 9 (λv0=>box (Qd.cs t3) v0)] [10,11] [9,11,12,13,14,15,16,17] λm7=>?_;have⟨_,_,_,_,h⟩:=bs2 h;refine Qa [6,7,8,9,10,11,12,13,14] ?_;refine Qa [8,9,10,11,12,13,14,15,16,17] ?_;refine Qi λK10 k15=>?_;have⟨_,_,_,_,h⟩:=bs2 h;refine Qa [9,10,11,12,13,14,15,16,17,18,19] ?_;have⟨p7,h7,h⟩:=bs h;have J7:To M w0 185 [(15,tb ((t3.Xi==2)||(t3.Xi==4))),(14,tv (.string (sB ((p5.Xj++([46]:Str))++t3.Xj)))),(13,tv (m7 9)),(12,ti s2.1),(11,tv (m5 5)),(10,ti s1.1),(9,tv (m2 5)),(2,tptr (Qc.cs x_)),(4,tv (m0 1)),(1,tsl rS names_)] [own Qd 49 s2.2 y6,own Qk 104 ([]:List Qh) nilV,own Qg 47 s1.2 y4,box (Qc.cs zz4) (m0 1),box ([ti x_.Version,tvs y4,tsl Qn x_.Xd,tvs nilV]) (m2 5),box ([tv (.string (sB p5.Xj)),ti p5.Lo,ti p5.Hi,tvs y6]) (m5 5),box (Qd.cs p7) (m7 9)] K10:=by
       refine k15 <|Qi λK11 k16=>?_;have⟨_,_,_,_,h⟩:=bs2 h;refine Qa [9,10,11,12,13,14,15,16,17,18,19] ?_;have⟨p8,h8,h⟩:=bs h;have J8:To M w0 185 [(15,tb ((t3.Xi==2)||(t3.Xi==4))),(14,tv (.string (sB ((p5.Xj++([46]:Str))++t3.Xj)))),(13,tv (m7 9)),(12,ti s2.1),(11,tv (m5 5)),(10,ti s1.1),(9,tv (m2 5)),(2,tptr (Qc.cs x_)),(4,tv (m0 1)),(1,tsl rS names_)] [own Qd 49 s2.2 y6,own Qk 104 ([]:List Qh) nilV,own Qg 47 s1.2 y4,box (Qc.cs zz4) (m0 1),box ([ti x_.Version,tvs y4,tsl Qn x_.Xd,tvs nilV]) (m2 5),box ([tv (.string (sB p5.Xj)),ti p5.Lo,ti p5.Hi,tvs y6]) (m5 5),box (Qd.cs p8) (m7 9)] K11:=by
        refine k16 <|Qi λK12 k17=>?_;have⟨_,_,_,_,h⟩:=bs2 h;refine Qa [7,8,9,10,11,12,13,14,15,16,17] ?_;have⟨p9,h9,h⟩:=bs h;have J9:To M w0 185 [(15,tb ((t3.Xi==2)||(t3.Xi==4))),(14,tv (.string (sB ((p5.Xj++([46]:Str))++t3.Xj)))),(13,tv (m7 9)),(12,ti s2.1),(11,tv (m5 5)),(10,ti s1.1),(9,tv (m2 5)),(2,tptr (Qc.cs x_)),(4,tv (m0 1)),(1,tsl rS names_)] [own Qd 49 s2.2 y6,own Qk 104 ([]:List Qh) nilV,own Qg 47 s1.2 y4,box (Qc.cs zz4) (m0 1),box ([ti x_.Version,tvs y4,tsl Qn x_.Xd,tvs nilV]) (m2 5),box ([tv (.string (sB p5.Xj)),ti p5.Lo,ti p5.Hi,tvs y6]) (m5 5),box (Qd.cs p9) (m7 9)] K12:=by
         refine k17 <|Qi λK13 k18=>?_;have⟨_,_,_,_,h⟩:=bs2 h;refine Qa [7,10,11,12,13,14,15,16,17] ?_;have⟨p10,h10,h⟩:=bs h;have J10:To M w0 185 [(13,tv (m7 9)),(12,ti s2.1),(11,tv (m5 5)),(10,ti s1.1),(9,tv (m2 5)),(2,tptr (Qc.cs x_)),(4,tv (m0 1)),(1,tsl rS names_)] [own Qd 49 s2.2 y6,own Qk 104 ([]:List Qh) nilV,own Qg 47 s1.2 y4,box (Qc.cs zz4) (m0 1),box ([ti x_.Version,tvs y4,tsl Qn x_.Xd,tvs nilV]) (m2 5),box ([tv (.string (sB p5.Xj)),ti p5.Lo,ti p5.Hi,tvs y6]) (m5 5),box (Qd.cs p10) (m7 9)] K13:=by
          refine k18 ?_;have⟨_,_,h⟩:=bs h;refine Qah [v1 4 (λv0=>own Qd 49 (s2.2++[p10]) v0),v1 4 (λv0=>box ([tv (.string (sB p5.Xj)),ti p5.Lo,ti p5.Hi,tvs v0]) (m5 5))] [5,7] [4,7,8,9,10,11,12,13] λm8=>?_;refine Qae (λ_ _ H=>H.Xk [0,1,2,3,5,6] rfl) ?_;refine k14 <|QL [2,3,4,5,6,7,8,9] ?_;refine Qae (λ_ _ H=>(H.pick [0,2,3,4,5,6,7]).Xk [4,0,1,2,3,5] rfl) ?_;exact QX k12 (m8 4) ((sj h).symm) [0,1,2,3,4,5,6]
         replace h:=h10;clear h10;refine Qq h (λ_ h=>?_) (λ_ h=>?_)
         ·refine Qah [v0 (box (Qd.cs (Qb.mk p9.Xj p9.Of p9.Up p9.Xi p9.Lo (1048576:Int) p9.Words p9.Xf)) (m7 9))] [2] [2,3,4,5,6,7,8,9] λm9=>?_;obtain rfl:=sj h;exact QI J10 [0,1,2,3,4,5,6,7]
         refine Qt ?_;obtain rfl:=sj h;exact QI J10 [1,2,3,4,5,6,7,8]
        replace h:=h9;clear h9;refine Qq h (λ_ h=>?_) (λ_ h=>?_)
        ·refine Qah [v0 (box (Qd.cs (Qb.mk p8.Xj p8.Of p8.Up p8.Xi (-1048576:Int) p8.Hi p8.Words p8.Xf)) (m7 9))] [2] [2,3,4,5,6,7,8,9,10,11] λm10=>?_;obtain rfl:=sj h;exact QI J9 [0,1,2,3,4,5,6,7,8,9]
        refine Qt ?_;obtain rfl:=sj h;exact QI J9 [1,2,3,4,5,6,7,8,9,10]
       replace h:=h8;clear h8;refine Qq h (λ_ h=>?_) (λ_ h=>?_)
       ·refine Qah [v0 (box (Qd.cs (Qb.mk p7.Xj p7.Of p7.Up p7.Xi p7.Lo (65536:Int) p7.Words p7.Xf)) (m7 9))] [2] [2,3,4,5,6,7,8,9,10,11] λm11=>?_;obtain rfl:=sj h;exact QI J8 [0,1,2,3,4,5,6,7,8,9]
       refine Qt ?_;obtain rfl:=sj h;exact QI J8 [1,2,3,4,5,6,7,8,9,10]
      replace h:=h7;clear h7;refine Qq h (λ_ h=>?_) (λ_ h=>?_)
      ·refine Qah [v0 (box (Qd.cs (Qb.mk t3.Xj t3.Of t3.Up t3.Xi (0:Int) t3.Hi t3.Words t3.Xf)) (m7 9))] [2] [2,3,4,5,6,7,8,9,10,11] λm12=>?_;obtain rfl:=sj h;exact QI J7 [0,1,2,3,4,5,6,7,8,9]
      refine Qt ?_;obtain rfl:=sj h;exact QI J7 [1,2,3,4,5,6,7,8,9,10]
     refine QP <|QX J6 y6 (ho _ (sj h).symm) [2,3,4,5,6,7]
    replace h:=h5;clear h5;refine Qq h (λ_ h=>?_) (λ_ h=>?_)
    ·refine Qah [v0 (box (Qg.cs (Qf.mk p4.Xj p4.Lo (65536:Int) p4.Xb)) (m5 5))] [2] [2,3,4,5,6,7] λm13=>?_;obtain rfl:=sj h;exact QI J5 [0,1,2,3,4,5]
    refine Qt ?_;obtain rfl:=sj h;exact QI J5 [1,2,3,4,5,6]
   replace h:=h4;clear h4;refine Qq h (λ_ h=>?_) (λ_ h=>?_)
   ·refine Qah [v0 (box (Qg.cs (Qf.mk t2.Xj (0:Int) t2.Hi t2.Xb)) (m5 5))] [2] [2,3,4,5,6,7] λm14=>?_;obtain rfl:=sj h;exact QI J4 [0,1,2,3,4,5]
   refine Qt ?_;obtain rfl:=sj h;exact QI J4 [1,2,3,4,5,6]
  refine QP <|QX J1 y4 (ho _ (sj h).symm) [2,3,4,5]
 have J11:∀(p11:Int),(.inr p11)=e0->To M w0 185 [(5,ti p11),(4,tv (m0 1))] [box (Qc.cs zz4) (m0 1)] (Ret prog f22 M0 [] w0 (λ_=>[]) (λ_=>ttup [Qc.ty r.1,ti r.2]) .ret):=by
  intro p11 he;subst he;simp only at h;obtain rfl:=sj h;exact Ql hpl
 refine Qm <|Qan h0 (λ(s3:Int)=>[(8,ti s3),(6,tsl rS t0.1),(2,tptr (Qc.cs x_)),(4,tv (m0 1)),(1,tsl rS names_)]) (λ(s3:Int)=>[box (Qc.cs zz4) (m0 1)]) [0,1,2,3,4] ?_;clear h;intro s3 o K14 h ho k19;refine Qi λ_ k20=>Qa [3,4,5,6,7,8] ?_;refine Qq h (λ_ h=>?_) (λ_ h=>?_)
 ·refine Qt <|k20 <|Qi λ_ k21=>Qm ?_;have⟨_,_,_,_,h⟩:=bs2 h;refine Qa [6,8,9,10,11,12] ?_;refine Qq h (λ_ h=>?_) (λ_ h=>?_)
  ·refine QB [v0 (box (Qc.cs zz4) (m0 1))] [2] [1,6] λm15=>?_;refine Qap ?_;exact Qz J11 (ho _ (sj h).symm) [0,1]
  refine Qt <|k21 <|QL [2,4,5,6,7] ?_;exact Qz k19 ((sj h).symm) [0,1,2,3,4]
 refine QP <|Qz J0 (ho _ (sj h).symm) [3,4,5]
def QcF (s1_:(List Qf)) (s2_:(List Qf)) (eq_:(Qf->Qf->Option Bool)):Option (Bool):=(if ((s1_.length:Int) !=(s2_.length:Int))=true then (some false) else (Qu (λ(s0:Int)=>((if (decide (s0<(s1_.length:Int)))=true then (idx s1_ s0).bind λt0=>(idx s2_ s0).bind λt1=>(eq_ t0 t1).bind λt2=>(if (!t2)=true then (some (.inr (.inr false))) else (some (.inl (i64.wrap (s0+1))))) else (some (.inr (.inl ())))):Option ((Int)⊕((Unit)⊕(Bool))))) (0:Int)).bind λe0=>(match e0 with | .inl _=>(some true) | .inr p0=>(some p0)))
instance QqW:Spc3 prog 64 QcF (λs1_ s2_ eq_=>[tsl Qg s1_,tsl Qg s2_,Qp2.ty eq_]) tb:=.mk λ{s1_ s2_ eq_ r} h=>by
 unfold QcF at h
 refine Fe func64 ntmps64 λM0 M w0 hpl=>?_
 refine Qa [1,2,3] ?_
 refine tIfs h [4,5,6,7] (λ_ h=>?_) (λ_ h=>?_)
 ·refine Qa [0] ?_
  exact Qo h (·▸Ql hpl)
 refine Qi λK0 k0=>?_
 refine Qa [0,1,2,5,6] ?_
 have⟨e0,h0,h⟩:=bs h
 have J0:∀(p0:Unit),(.inl p0)=e0->To M w0 32 [] [] K0:=by
  intro p0 he;subst he;simp only at h;refine k0 <|Qa [0] ?_;exact Qo h (·▸Ql hpl)
 have J1:∀(p1:Bool),(.inr p1)=e0->To M w0 32 [(6,tb p1)] [] (Ret prog f64 M0 [] w0 (λ_=>[]) (λ_=>tb r) .ret):=by
  intro p1 he;subst he;simp only at h;obtain rfl:=sj h;exact Ql hpl
 refine Qm <|Qan h0 (λ(s0:Int)=>[(15,tsl Qg s1_),(16,ti (s1_.length:Int)),(17,ti s0),(1,tsl Qg s2_),(2,Qp2.ty eq_)]) (λ(s0:Int)=>[]) [0,1,2,3,4] ?_;clear h;intro s0 o K1 h ho k1;refine Qa [0,1,2,3,4,5] ?_;refine Qi λ_ k2=>Qq h (λ_ h=>?_) (λ_ h=>?_)
 ·refine Qt <|k2 <|Qi λ_ k3=>Qm ?_;have⟨t0,_,h⟩:=bs h;refine QB [v1 3 (λv0=>box (Qg.cs zz1) v0),v1 3 (λv0=>box (Qg.cs t0) v0)] [4,6] [3,4,6,7,8,9,10] λm0=>?_;refine QN (λ_ _ H=>((H.Xl 0 rfl).add 0 rfl (λ_ _ _ h=>h.2)).pick [0,3,4,5,6,7,8]) ?_;have⟨t1,_,h⟩:=bs h;refine QB [v1 4 (λv0=>box (Qg.cs zz1) v0),v1 4 (λv0=>box (Qg.cs t1) v0)] [5,6] [4,5,7,8,9,10,11] λm1=>?_;refine QN (λ_ _ H=>((H.Xl 0 rfl).add 0 rfl (λ_ _ _ h=>h.2)).pick [0,3,4,5,6,7,8]) ?_;have⟨_,_,h⟩:=bs h;refine Qa [4,7,8,9,10,11] ?_;refine Qq h (λ_ h=>?_) (λ_ h=>?_)
  ·refine Qa [0] ?_;refine Qap ?_;exact Qz J1 (ho _ (sj h).symm) [0]
  refine Qt <|k3 <|QL [1,3,4,5,6] ?_;exact Qz k1 ((sj h).symm) [1,2,0,3,4]
 refine QP <|Qz J0 (ho _ (sj h).symm) []
def Qct (s1_:(List Qb)) (s2_:(List Qb)) (eq_:(Qb->Qb->Option Bool)):Option (Bool):=(if ((s1_.length:Int) !=(s2_.length:Int))=true then (some false) else (Qu (λ(s0:Int)=>((if (decide (s0<(s1_.length:Int)))=true then (idx s1_ s0).bind λt0=>(idx s2_ s0).bind λt1=>(eq_ t0 t1).bind λt2=>(if (!t2)=true then (some (.inr (.inr false))) else (some (.inl (i64.wrap (s0+1))))) else (some (.inr (.inl ())))):Option ((Int)⊕((Unit)⊕(Bool))))) (0:Int)).bind λe0=>(match e0 with | .inl _=>(some true) | .inr p0=>(some p0)))
instance Qp8:Spc3 prog 66 Qct (λs1_ s2_ eq_=>[tsl Qd s1_,tsl Qd s2_,Qp1.ty eq_]) tb:=.mk λ{s1_ s2_ eq_ r} h=>by
 unfold Qct at h
 refine Fe func66 ntmps66 λM0 M w0 hpl=>?_
 refine Qa [1,2,3] ?_
 refine tIfs h [4,5,6,7] (λ_ h=>?_) (λ_ h=>?_)
 ·refine Qa [0] ?_
  exact Qo h (·▸Ql hpl)
 refine Qi λK0 k0=>?_
 refine Qa [0,1,2,5,6] ?_
 have⟨e0,h0,h⟩:=bs h
 have J0:∀(p0:Unit),(.inl p0)=e0->To M w0 32 [] [] K0:=by
  intro p0 he;subst he;simp only at h;refine k0 <|Qa [0] ?_;exact Qo h (·▸Ql hpl)
 have J1:∀(p1:Bool),(.inr p1)=e0->To M w0 32 [(6,tb p1)] [] (Ret prog f66 M0 [] w0 (λ_=>[]) (λ_=>tb r) .ret):=by
  intro p1 he;subst he;simp only at h;obtain rfl:=sj h;exact Ql hpl
 refine Qm <|Qan h0 (λ(s0:Int)=>[(15,tsl Qd s1_),(16,ti (s1_.length:Int)),(17,ti s0),(1,tsl Qd s2_),(2,Qp1.ty eq_)]) (λ(s0:Int)=>[]) [0,1,2,3,4] ?_;clear h;intro s0 o K1 h ho k1;refine Qa [0,1,2,3,4,5] ?_;refine Qi λ_ k2=>Qq h (λ_ h=>?_) (λ_ h=>?_)
 ·refine Qt <|k2 <|Qi λ_ k3=>Qm ?_;have⟨t0,_,h⟩:=bs h;refine QB [v1 3 (λv0=>box (Qd.cs zz0) v0),v1 3 (λv0=>box (Qd.cs t0) v0)] [4,6] [3,4,6,7,8,9,10] λm0=>?_;refine QN (λ_ _ H=>((H.Xl 0 rfl).add 0 rfl (λ_ _ _ h=>h.2)).pick [0,3,4,5,6,7,8]) ?_;have⟨t1,_,h⟩:=bs h;refine QB [v1 4 (λv0=>box (Qd.cs zz0) v0),v1 4 (λv0=>box (Qd.cs t1) v0)] [5,6] [4,5,7,8,9,10,11] λm1=>?_;refine QN (λ_ _ H=>((H.Xl 0 rfl).add 0 rfl (λ_ _ _ h=>h.2)).pick [0,3,4,5,6,7,8]) ?_;have⟨_,_,h⟩:=bs h;refine Qa [4,7,8,9,10,11] ?_;refine Qq h (λ_ h=>?_) (λ_ h=>?_)
  ·refine Qa [0] ?_;refine Qap ?_;exact Qz J1 (ho _ (sj h).symm) [0]
  refine Qt <|k3 <|QL [1,3,4,5,6] ?_;exact Qz k1 ((sj h).symm) [1,2,0,3,4]
 refine QP <|Qz J0 (ho _ (sj h).symm) []
def QfB (x_:Qf) (y_:Qf):Option (Bool):=(opt ((((x_.Xj==y_.Xj)&&(x_.Lo==y_.Lo))&&(x_.Hi==y_.Hi))==true) (Qct x_.Xb y_.Xb (λx0 x1=>QbE x0 x1)) default).bind λt0=>(some ((((x_.Xj==y_.Xj)&&(x_.Lo==y_.Lo))&&(x_.Hi==y_.Hi))&&t0))
instance QwO:Spc2 prog 65 QfB (λx_ y_=>[Qg.ty x_,Qg.ty y_]) tb:=.mk λ{x_ y_ r} h=>by
 unfold QfB at h
 refine Fe func65 ntmps65 λM0 M w0 hpl=>?_
 refine Qa [0,1] ?_
 have⟨_,_,h⟩:=bs h
 refine Qa [26] ?_
 exact Qo h (·▸Ql hpl)
def QcG (s1_:(List Qs)) (s2_:(List Qs)) (eq_:(Qs->Qs->Option Bool)):Option (Bool):=(if ((s1_.length:Int) !=(s2_.length:Int))=true then (some false) else (Qu (λ(s0:Int)=>((if (decide (s0<(s1_.length:Int)))=true then (idx s1_ s0).bind λt0=>(idx s2_ s0).bind λt1=>(eq_ t0 t1).bind λt2=>(if (!t2)=true then (some (.inr (.inr false))) else (some (.inl (i64.wrap (s0+1))))) else (some (.inr (.inl ())))):Option ((Int)⊕((Unit)⊕(Bool))))) (0:Int)).bind λe0=>(match e0 with | .inl _=>(some true) | .inr p0=>(some p0)))
instance QqX:Spc3 prog 68 QcG (λs1_ s2_ eq_=>[tsl Qn s1_,tsl Qn s2_,Qp3.ty eq_]) tb:=.mk λ{s1_ s2_ eq_ r} h=>by
 unfold QcG at h
 refine Fe func68 ntmps68 λM0 M w0 hpl=>?_
 refine Qa [1,2,3] ?_
 refine tIfs h [4,5,6,7] (λ_ h=>?_) (λ_ h=>?_)
 ·refine Qa [0] ?_
  exact Qo h (·▸Ql hpl)
 refine Qi λK0 k0=>?_
 refine Qa [0,1,2,5,6] ?_
 have⟨e0,h0,h⟩:=bs h
 have J0:∀(p0:Unit),(.inl p0)=e0->To M w0 32 [] [] K0:=by
  intro p0 he;subst he;simp only at h;refine k0 <|Qa [0] ?_;exact Qo h (·▸Ql hpl)
 have J1:∀(p1:Bool),(.inr p1)=e0->To M w0 32 [(6,tb p1)] [] (Ret prog f68 M0 [] w0 (λ_=>[]) (λ_=>tb r) .ret):=by
  intro p1 he;subst he;simp only at h;obtain rfl:=sj h;exact Ql hpl
 refine Qm <|Qan h0 (λ(s0:Int)=>[(15,tsl Qn s1_),(16,ti (s1_.length:Int)),(17,ti s0),(1,tsl Qn s2_),(2,Qp3.ty eq_)]) (λ(s0:Int)=>[]) [0,1,2,3,4] ?_;clear h;intro s0 o K1 h ho k1;refine Qa [0,1,2,3,4,5] ?_;refine Qi λ_ k2=>Qq h (λ_ h=>?_) (λ_ h=>?_)
 ·refine Qt <|k2 <|Qi λ_ k3=>Qm ?_;have⟨t0,_,h⟩:=bs h;refine QB [v1 3 (λv0=>box (Qn.cs zz2) v0),v1 3 (λv0=>box (Qn.cs t0) v0)] [4,6] [3,4,6,7,8,9,10] λm0=>?_;refine QN (λ_ _ H=>((H.Xl 0 rfl).add 0 rfl (λ_ _ _ h=>h.2)).pick [0,3,4,5,6,7,8]) ?_;have⟨t1,_,h⟩:=bs h;refine QB [v1 4 (λv0=>box (Qn.cs zz2) v0),v1 4 (λv0=>box (Qn.cs t1) v0)] [5,6] [4,5,7,8,9,10,11] λm1=>?_;refine QN (λ_ _ H=>((H.Xl 0 rfl).add 0 rfl (λ_ _ _ h=>h.2)).pick [0,3,4,5,6,7,8]) ?_;have⟨_,_,h⟩:=bs h;refine Qa [4,7,8,9,10,11] ?_;refine Qq h (λ_ h=>?_) (λ_ h=>?_)
  ·refine Qa [0] ?_;refine Qap ?_;exact Qz J1 (ho _ (sj h).symm) [0]
  refine Qt <|k3 <|QL [1,3,4,5,6] ?_;exact Qz k1 ((sj h).symm) [1,2,0,3,4]
 refine QP <|Qz J0 (ho _ (sj h).symm) []
def Qdg (s1_:(List QF)) (s2_:(List QF)):Option (Bool):=(if ((s1_.length:Int) !=(s2_.length:Int))=true then (some false) else (Qu (λ(s0:Int)=>((if (decide (s0<(s1_.length:Int)))=true then (idx s1_ s0).bind λt0=>(idx s2_ s0).bind λt1=>(if (!QlF t0 t1)=true then (some (.inr (.inr false))) else (some (.inl (i64.wrap (s0+1))))) else (some (.inr (.inl ())))):Option ((Int)⊕((Unit)⊕(Bool))))) (0:Int)).bind λe0=>(match e0 with | .inl _=>(some true) | .inr p0=>(some p0)))
instance Qrz:Spc2 prog 71 Qdg (λs1_ s2_=>[tsl Qai s1_,tsl Qai s2_]) tb:=.mk λ{s1_ s2_ r} h=>by
 unfold Qdg at h
 refine Fe func71 ntmps71 λM0 M w0 hpl=>?_
 refine Qa [1,2] ?_
 refine tIfs h [4,5,6] (λ_ h=>?_) (λ_ h=>?_)
 ·refine Qa [0] ?_
  exact Qo h (·▸Ql hpl)
 refine Qi λK0 k0=>?_
 refine Qa [1,2,4,5] ?_
 have⟨e0,h0,h⟩:=bs h
 have J0:∀(p0:Unit),(.inl p0)=e0->To M w0 26 [] [] K0:=by
  intro p0 he;subst he;simp only at h;refine k0 <|Qa [0] ?_;exact Qo h (·▸Ql hpl)
 have J1:∀(p1:Bool),(.inr p1)=e0->To M w0 26 [(4,tb p1)] [] (Ret prog f71 M0 [] w0 (λ_=>[]) (λ_=>tb r) .ret):=by
  intro p1 he;subst he;simp only at h;obtain rfl:=sj h;exact Ql hpl
 refine Qm <|Qan h0 (λ(s0:Int)=>[(12,ti (s1_.length:Int)),(13,ti s0),(0,tsl Qai s1_),(1,tsl Qai s2_)]) (λ(s0:Int)=>[]) [0,1,2,3] ?_;clear h;intro s0 o K1 h ho k1;refine Qa [0,1,2,3,4] ?_;refine Qi λ_ k2=>Qq h (λ_ h=>?_) (λ_ h=>?_)
 ·refine Qt <|k2 <|Qi λ_ k3=>Qm <|Qa [1,3,4,5,6] ?_;have⟨t0,h1,t1,h2,h⟩:=bs2 h;intro a w H;refine sr mx [] H (λ_=>.q 3 rfl<|.q 1 rfl<|.o (QcL underlying77 Qk8 z1 z0 h1)<|.o (Q9 Qk8 z0)<|.q 8 rfl<|.q 5 rfl<|.o (QcL underlying77 Qk8 z1 z0 h2)<|.o (Q9 Qk8 z0)<|.o (Qrs z4 z0)<|.n) λ_ a w H=>?_;have H:=H.to [8,10,11,12,13] [_,_,_,_,_] [] rfl rfl;refine Q8 H ?_;refine Qq h (λ_ h=>?_) (λ_ h=>?_)
  ·refine Qa [0] ?_;refine Qap ?_;exact Qz J1 (ho _ (sj h).symm) [0]
  refine Qt <|k3 <|QL [1,3,4,5] ?_;exact Qz k1 ((sj h).symm) [1,0,2,3]
 refine QP <|Qz J0 (ho _ (sj h).symm) []

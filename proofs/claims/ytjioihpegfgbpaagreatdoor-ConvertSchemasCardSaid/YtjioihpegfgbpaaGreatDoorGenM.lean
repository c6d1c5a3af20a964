/- The walk. No condition. -/
import Derived.Test.YtjioihpegfgbpaaGreatDoorGenL
set_option linter.all false
open Go.Proofs.Tryz Go.IntKind
namespace Go.Proofs.YtjioihpegfgbpaaGreatDoor
noncomputable section
open Go.Sim
set_option maxRecDepth 100000
set_option maxHeartbeats 4000000
def QcS (x_:Qa) (l_:(List Qn)):Option (Bool×Int):=(Qbl x_ l_).bind λt0=>(if (t0.2 !=0)=true then (some (false,t0.2)) else (Qbr l_ (λx0=>Qd0 x0)).bind λt1=>(some (t1,(0:Int))))
instance QkM:SpcS prog 12 (∀{x_:Qa} {l_:(List Qn)} {r:Bool×Int},QcS x_ l_=some r->FnOk prog 12 [Qb.ty x_,tsl Qv l_] [glo] (λ_=>[]) (λ_=>ttup [tb r.1,ti r.2])):=.mk λ{x_ l_ r} h=>by
 unfold QcS at h
 refine Fe func12 ntmps12 λM0 M w0 hpl=>?_
 refine QyV [0,4] ?_
 refine QyY λ_ k0=>?_
 have⟨t0,_,h⟩:=bs h
 refine Qy5 [v1 6 (λv0=>box (Qb.cs zz4) v0),v1 6 (λv0=>box (Qb.cs t0.1) v0)] [7,8] [7,9] λm0=>?_
 refine Qy9 (λ_ _ H=>H.Xj [0] rfl) ?_
 refine QyV [1,2,3] ?_
 refine Qy0 h (λ_ h=>?_) (λ_ h=>?_)
 ·refine QyV [1,2] ?_
  exact QyZ h (·▸QyX hpl)
 refine Qy2 ?_
 refine k0 ?_
 have⟨_,_,h⟩:=bs h
 refine QyV [2,3] ?_
 exact QyZ h (·▸QyX hpl)
def QgA (x_:Qa) (l_:(List Qt)):Option (Bool×Int):=(Qbx x_ l_).bind λt0=>(if (t0.2 !=0)=true then (some (false,t0.2)) else (Qz (λ(s0:Int)=>((if (decide (s0<(l_.length:Int)))=true then (idx l_ s0).bind λt1=>(if (t1.Op==1)=true then (some (.inr (.inr (true,(0:Int))))) else (some (.inl (i64.wrap (s0+1))))) else (some (.inr (.inl ())))):Option ((Int)⊕((Unit)⊕(Bool×Int))))) (0:Int)).bind λe0=>(match e0 with | .inl _=>(some (false,(0:Int))) | .inr p0=>(some (p0.1,p0.2))))
instance Qqi:Spc2 prog 13 QgA (λx_ l_=>[Qb.ty x_,tsl Qx l_]) (λr=>ttup [tb r.1,ti r.2]):=.mk λ{x_ l_ r} h=>by
 unfold QgA at h
 refine Fe func13 ntmps13 λM0 M w0 hpl=>?_
 refine QyV [0,4] ?_
 have⟨_,_,h⟩:=bs h
 refine QyV [7,9] ?_
 refine tIfs h [1,2,3] (λ_ h=>?_) (λ_ h=>?_)
 ·refine QyV [1,2] ?_
  exact QyZ h (·▸QyX hpl)
 refine QyY λK0 k0=>?_
 refine QyV [0,3] ?_
 have⟨e0,h0,h⟩:=bs h
 have J0:∀(p0:Unit),(.inl p0)=e0->To M w0 30 [] [] K0:=by
  intro p0 he;subst he;simp only at h;refine k0 <|QyV [0,1] ?_;exact QyZ h (·▸QyX hpl)
 have J1:∀(p1:Bool×Int),(.inr p1)=e0->To M w0 30 [(4,tb p1.1),(5,ti p1.2)] [] (Ret prog f13 M0 [] w0 (λ_=>[]) (λ_=>ttup [tb r.1,ti r.2]) .ret):=by
  intro p1 he;subst he;simp only at h;obtain rfl:=sj h;exact QyX hpl
 refine Qy1 <|Qzb h0 (λ(s0:Int)=>[(8,ti s0),(1,tsl Qx l_)]) (λ(s0:Int)=>[]) [0,1] ?_;clear h;intro s0 o K1 h ho k1;refine QyY λ_ k2=>QyV [3,4,5] ?_;refine Qy0 h (λ_ h=>?_) (λ_ h=>?_)
 ·refine Qy2 <|k2 <|QyY λ_ k3=>Qy1 ?_;have⟨_,_,h⟩:=bs h;refine QyV [5,7,8] ?_;refine Qy0 h (λ_ h=>?_) (λ_ h=>?_)
  ·refine QyV [0,1] ?_;refine Qzd ?_;exact Qy4 J1 (ho _ (sj h).symm) [0,1]
  refine Qy2 <|k3 <|Qy6 [2,4] ?_;exact Qy4 k1 ((sj h).symm) [0,1]
 refine Qy7 <|Qy4 J0 (ho _ (sj h).symm) []
def Qb9 (n_:Int):Option ((List Int)):=((if (decide (n_<0))=true then (some (i64.wrap ((-1:Int) - n_))) else (some n_))).bind λp0=>(Qz (λ(s0:Int×List Int)=>((if (decide (s0.1>0))=true then (rm (s0.2.length+[(u8.wrap (Int.tmod s0.1 (256:Int)))].length)).bind λ_=>(some (.inl ((i64.wrap (Int.tdiv s0.1 (256:Int))),(s0.2++[(u8.wrap (Int.tmod s0.1 (256:Int)))])))) else (some (.inr s0.2))):Option ((Int×List Int)⊕((List Int))))) (p0,([]:List Int))).bind λp1=>((if (decide (n_>=0))=true then (rm (([]:List Int).length+[(u8.wrap (i64.wrap ((128:Int)+(p1.length:Int))))].length)).bind λ_=>(some (([]:List Int)++[(u8.wrap (i64.wrap ((128:Int)+(p1.length:Int))))])) else (rm (([]:List Int).length+[(u8.wrap (i64.wrap ((127:Int) - (p1.length:Int))))].length)).bind λ_=>(some (([]:List Int)++[(u8.wrap (i64.wrap ((127:Int) - (p1.length:Int))))])))).bind λp2=>(Qz (λ(s1:Int×List Int)=>((if (decide (s1.1>=0))=true then (idx p1 s1.1).bind λt0=>((if (decide (n_<0))=true then (some (u8.wrap ((255:Int) - t0))) else (some t0))).bind λp3=>(rm (s1.2.length+[p3].length)).bind λ_=>(some (.inl ((i64.wrap (s1.1 - 1)),(s1.2++[p3])))) else (some (.inr s1.2))):Option ((Int×List Int)⊕((List Int))))) ((i64.wrap ((p1.length:Int) - 1)),p2)).bind λp4=>(some p4)
instance QcN:SpcS prog 44 (∀{n_:Int} {r:(List Int)},Qb9 n_=some r->FnOk prog 44 [ti n_] [] (λv=>[own (rInt .u8) 5 r v]) (λv=>tv v)):=.mk λ{n_ r} h=>by
 unfold Qb9 at h
 refine fe func44 ntmps44 λM0 M w0 a hpl H=>?_
 refine sr mx [] H (λ_=>.o (Qc .k)<|.n) λ_ a w H=>?_
 have H:=H.t1_0 [1]
 refine sr mx [] H (λ_=>.q 0 rfl<|.o (Qc z0)<|.n) λ_ a w H=>?_
 have H:=H.t2_0 [1,2]
 refine wp_seq_k (λK0 k0=>?_)
 refine sr mx [] H (λ_=>.q 1 rfl<|.o (Q8 z0 .k)<|.n) λ_ a w H=>?_
 have H:=H.to [1,2,3] [_,_,_] [] rfl rfl
 have⟨p0,h0,h⟩:=bs h
 have J0:∀a w,St M w0 59 [(3,ti p0),(0,ti n_)] [] a w->K0 a w:=by
  intro a w H;refine k0 _ _ ?_;refine sr mx [] H (λ_=>.o (Qc .k)<|.n) λ_ a w H=>?_;replace H:St _ _ _ [_,_,_] [_] _ _:=(H.pick [0,1,2]).nil ((rInt .u8)) 5;refine wp_seq_k (λK1 k1=>?_);have⟨e0,h1,h⟩:=bs h;have J1:∀(p1:List Int) (y0:Value) a w,p1=e0->St M w0 59 [(4,tv y0),(0,ti n_)] [own (rInt .u8) 5 p1 y0] a w->K1 a w:=by
   intro p1 y0 a w he H;subst he;refine k1 _ _ ?_;refine sr mx [] H (λ_=>.q 0 rfl<|.u [0] rfl rfl (Qdn ud81 z0)<|.o (Qc z0)<|.n) λ_ a w H=>?_;have H:=H.t4_1 [0,2,3,4];refine sr mx [] H (λ_=>.o (Qc .k)<|.n) λ_ a w H=>?_;replace H:St _ _ _ [_,_,_,_,_] [_,_] _ _:=(H.pick [0,1,2,3,4]).nil ((rInt .u8)) 5;refine wp_seq_k (λK2 k2=>?_);refine sr mx [] H (λ_=>.q 4 rfl<|.o (QfC z0 .k)<|.n) λ_ a w H=>?_;have H:=H.t6_2 [1,2,3,4,5,6];have⟨p2,h2,h⟩:=bs h;have J2:∀(y1:Value) a w,St M w0 59 [(6,tv y1),(5,ti (p1.length:Int)),(4,tv y0),(0,ti n_)] [own (rInt .u8) 5 p1 y0,own (rInt .u8) 5 p2 y1] a w->K2 a w:=by
    intro y1 a w H;refine k2 _ _ ?_;refine wp_seq_k (λK3 k3=>?_);refine sr mx [] H (λ_=>.q 1 rfl<|.o (Qdv z0 .k)<|.o (Qc z0)<|.n) λ_ a w H=>?_;have H:=H.to [2,3,5,6] [_,_,_,_] [_,_] rfl rfl;have⟨e1,h3,h⟩:=bs h;have J3:∀(p3:List Int) (y2:Value) a w,p3=e1->St M w0 59 [(6,tv y2)] [own (rInt .u8) 5 p3 y2] a w->K3 a w:=by
     intro p3 y2 a w he H;subst he;refine k3 _ _ ?_;refine sr mx [] H (λ_=>.q 0 rfl<|.o (Qc z0)<|.n) λ_ a w H=>?_;have H:=H.t3_1 [0,1,2];exact r0 h (·▸rt y2 [0] hpl H (.tmp z1 .nil))
    refine wp_block ?_;refine Qag _ (λ(s0:Int×List Int) a w=>∃y3:Value,St M w0 59 [(7,ti s0.1),(6,tv y3),(4,tv y0),(0,ti n_)] [own (rInt .u8) 5 p1 y0,own (rInt .u8) 5 s0.2 y3] a w) _ _ h3 ⟨y1,H.pick [0,1,2,3]⟩ ?_;clear h;intro s0 o a w K4 hI h ho k4;obtain⟨y3,H⟩:=hI;refine wp_seq_k (λ_ k5=>?_);refine sr mx [] H (λ_=>.q 0 rfl<|.o (QfC z0 .k)<|.n) λ_ a w H=>?_;have H:=H.t5_2 [1,2,3,4,5];refine wi H h (λb0 h=>?_) (λb0 h=>?_)
    ·refine wp_skip (k5 _ _ ?_);refine wp_seq_k (λ_ k6=>?_);refine wp_block ?_;have⟨t0,h4,h⟩:=bs h;refine sr mx [] H (λ_=>.q 3 rfl<|.q 2 rfl<|.u [0] rfl rfl (Qar ud81 tok5 z1 z0 h4)<|.u [0] rfl rfl (QiQ tok5 z0 h4)<|.o (Qc z0)<|.n) λ_ a w H=>?_;have H:=H.t6_2 [0,4,6,7,8,9];refine wp_seq_k (λK5 k7=>?_);refine sr mx [] H (λ_=>.q 5 rfl<|.o (Q8 z0 .k)<|.n) λ_ a w H=>?_;have H:=H.to [1,2,3,4,5,6,7] [_,_,_,_,_,_,_] [_,_] rfl rfl;have⟨p4,h5,h⟩:=bs h;have J4:∀a w,St M w0 59 [(8,tv (.int .u8 p4)),(7,ti s0.1),(6,tv y3),(4,tv y0),(0,ti n_)] [own (rInt .u8) 5 p1 y0,own (rInt .u8) 5 s0.2 y3] a w->K5 a w:=by
      intro a w H;refine k7 _ _ ?_;have⟨u0,h6,h⟩:=bs h;refine wr mx [v1 3 (λv0=>own (rInt .u8) 5 (s0.2++[p4]) v0)] H (λ_=>.q 2 rfl<|.q 1 rfl<|.o (QK (R:=(rInt .u8)) (us:=[p4]) ud81 tok5 (.cons z0<|.nil _) rfl (leb rfl))<|.e [] [1] [2] rfl rfl rfl rfl (QS (R:=(rInt .u8)) ud81 tok5 (leb rfl) z2 z0 h6)<|.ud (f:=λv=>tv v) 3 rfl [] rfl rfl (Qc z0)<|.n) λm0 a w H=>?_;have H:=H.t5_2 [3,4,6,7,8];refine k6 _ _ ?_;refine wr mx [] H (λ_=>.q 2 rfl<|.o (Qdv z0 .k)<|.o (Qc z0)<|.n) λ_ a w H=>?_;have H:=H.t5_2 [2,3,4,5,6];exact k4 _ _ _ (sj h).symm ⟨(m0 3),H.pick [0,2,3,4]⟩
     replace h:=h5;clear h5;refine wi H h (λb1 h=>?_) (λb1 h=>?_)
     ·refine wr mx [] H (λ_=>.q 2 rfl<|.o (Qdv .k z0)<|.o (Qc z0)<|.n) λ_ a w H=>?_;have H:=H.t6_2 [2,4,5,6,7,8];obtain rfl:=sj h;exact J4 _ _ (H.pick [0,2,3,4,5])
     refine wp_skip ?_;obtain rfl:=sj h;exact J4 _ _ (H.pick [2,3,4,5,6])
    refine wp_exit ?_;exact J3 _ y3 _ _ (ho _ (sj h).symm) ((H.pick [2]).Xj [1] rfl)
   replace h:=h2;clear h2;refine wi H h (λb2 h=>?_) (λb2 h=>?_)
   ·have⟨u1,h7,h⟩:=bs h;refine wr mx [v1 5 (λv0=>own (rInt .u8) 5 (([]:List Int)++[(u8.wrap (i64.wrap ((128:Int)+(p1.length:Int))))]) v0)] H (λ_=>.q 1 rfl<|.q 4 rfl<|.o (Qab .k z0)<|.o (Qlc ud3 ud5 z0)<|.o (QK (R:=(rInt .u8)) (us:=[(u8.wrap (i64.wrap ((128:Int)+(p1.length:Int))))]) ud81 tok5 (.cons z0<|.nil _) rfl (leb rfl))<|.e [] [0] [2] rfl rfl rfl rfl (QS (R:=(rInt .u8)) ud81 tok5 (leb rfl) z4 z0 h7)<|.ud (f:=λv=>tv v) 5 rfl [] rfl rfl (Qc z0)<|.n) λm1 a w H=>?_;have H:=H.t6_2 [5,6,8,9,10,11];obtain rfl:=sj h;exact J2 (m1 5) _ _ (H.pick [1,3,4,5])
   have⟨u2,h8,h⟩:=bs h;refine wr mx [v1 5 (λv0=>own (rInt .u8) 5 (([]:List Int)++[(u8.wrap (i64.wrap ((127:Int) - (p1.length:Int))))]) v0)] H (λ_=>.q 1 rfl<|.q 4 rfl<|.o (Qdv .k z0)<|.o (Qlc ud3 ud5 z0)<|.o (QK (R:=(rInt .u8)) (us:=[(u8.wrap (i64.wrap ((127:Int) - (p1.length:Int))))]) ud81 tok5 (.cons z0<|.nil _) rfl (leb rfl))<|.e [] [0] [2] rfl rfl rfl rfl (QS (R:=(rInt .u8)) ud81 tok5 (leb rfl) z4 z0 h8)<|.ud (f:=λv=>tv v) 5 rfl [] rfl rfl (Qc z0)<|.n) λm2 a w H=>?_;have H:=H.t6_2 [5,6,8,9,10,11];obtain rfl:=sj h;exact J2 (m2 5) _ _ (H.pick [1,3,4,5])
  refine wp_block ?_;refine Qag _ (λ(s1:Int×List Int) a w=>∃y4:Value,St M w0 59 [(4,tv y4),(3,ti s1.1),(0,ti n_)] [own (rInt .u8) 5 s1.2 y4] a w) _ _ h1 ⟨(.slice none 0 0),H.pick [0,1,2]⟩ ?_;clear h;intro s1 o a w K6 hI h ho k8;obtain⟨y4,H⟩:=hI;refine wp_seq_k (λ_ k9=>?_);refine sr mx [] H (λ_=>.q 1 rfl<|.o (QcK z0 .k)<|.n) λ_ a w H=>?_;have H:=H.t4_1 [1,2,3,4];refine wi H h (λb3 h=>?_) (λb3 h=>?_)
  ·refine wp_skip (k9 _ _ ?_);refine wp_block ?_;refine wp_seq_k (λ_ k10=>?_);have⟨u3,h9,h⟩:=bs h;refine wr mx [v1 5 (λv0=>own (rInt .u8) 5 (s1.2++[(u8.wrap (Int.tmod s1.1 (256:Int)))]) v0)] H (λ_=>.q 1 rfl<|.q 3 rfl<|.o (Qn3 z0 .k (by decide))<|.o (Qlc ud3 ud5 z0)<|.o (QK (R:=(rInt .u8)) (us:=[(u8.wrap (Int.tmod s1.1 (256:Int)))]) ud81 tok5 (.cons z0<|.nil _) rfl (leb rfl))<|.e [] [0] [1] rfl rfl rfl rfl (QS (R:=(rInt .u8)) ud81 tok5 (leb rfl) z4 z0 h9)<|.ud (f:=λv=>tv v) 5 rfl [] rfl rfl (Qc z0)<|.n) λm3 a w H=>?_;have H:=H.t4_1 [5,6,8,9];refine k10 _ _ ?_;refine wr mx [] H (λ_=>.q 2 rfl<|.o (Qmo z0 .k (by decide))<|.o (Qc z0)<|.n) λ_ a w H=>?_;have H:=H.t4_1 [2,3,4,5];exact k8 _ _ _ (sj h).symm ⟨(m3 5),H.pick [2,0,3]⟩
  refine wp_exit ?_;exact J1 _ y4 _ _ (ho _ (sj h).symm) (H.pick [1,3])
 replace h:=h0;clear h0;refine wi H h (λb4 h=>?_) (λb4 h=>?_)
 ·refine wr mx [] H (λ_=>.q 2 rfl<|.o (Qdv .k z0)<|.o (Qc z0)<|.n) λ_ a w H=>?_;have H:=H.t2_0 [2,4];obtain rfl:=sj h;exact J0 _ _ (H.pick [0,1])
 refine wp_skip ?_;obtain rfl:=sj h;exact J0 _ _ (H.pick [1,2])
def QeN (s_:Str):Option ((List Int)):=(Qb9 (s_.length:Int)).bind λt0=>(rm (t0.length+(Q3 s_).length)).bind λ_=>(some (t0++(Q3 s_)))
instance QiX:SpcS prog 45 (∀{s_:Str} {r:(List Int)},QeN s_=some r->FnOk prog 45 [tv (.string (sB s_))] [] (λv=>[own (rInt .u8) 5 r v]) (λv=>tv v)):=.mk λ{s_ r} h=>by
 unfold QeN at h
 refine Fe func45 ntmps45 λM0 M w0 hpl=>?_
 refine QyV [1] ?_
 have⟨t0,h0,u0,h1,h⟩:=bs2 h
 intro a w H
 refine sr mx [v1 2 (λv0=>own (rInt .u8) 5 t0 v0),v1 5 (λv0=>own (rInt .u8) 5 (t0++(Q3 s_)) v0)] H (λ_=>.q 0 rfl<|.o (op_lenS' ud9 z0)<|.m [] [0] rfl rfl rfl (Qq QhN (QcN.ok h0) (.cons (.of z0)<|.nil))<|.q 3 rfl<|.o (Qt6 ud9 ud81 ud5 z0)<|.e [] [0] [1] rfl rfl rfl rfl (QS (R:=(rInt .u8)) ud81 tok5 (leb rfl) z2 z0 h1)<|.ud (f:=λv=>tv v) 5 rfl [] rfl rfl (Qc z0)<|.n) λm0 a w H=>?_
 have H:=H.t2_1 [5,6]
 refine Qze H ?_
 exact QyZ h (·▸Qzi (m0 5) [0] hpl)
def Qem (l_:(List Int)):Option ((List Int)):=(Qb9 (l_.length:Int)).bind λt0=>(Qz (λ(s0:Int×List Int)=>((if (decide (s0.1<(l_.length:Int)))=true then (idx l_ s0.1).bind λt1=>(Qb9 t1).bind λt2=>(rm (s0.2.length+t2.length)).bind λ_=>(some (.inl ((i64.wrap (s0.1+1)),(s0.2++t2)))) else (some (.inr s0.2))):Option ((Int×List Int)⊕((List Int))))) ((0:Int),t0)).bind λp0=>(some p0)
instance Qh3:SpcS prog 46 (∀{l_:(List Int)} {r:(List Int)},Qem l_=some r->FnOk prog 46 [tsl rI l_] [] (λv=>[own (rInt .u8) 5 r v]) (λv=>tv v)):=.mk λ{l_ r} h=>by
 unfold Qem at h
 refine Fe func46 ntmps46 λM0 M w0 hpl=>?_
 refine QyV [1] ?_
 have⟨t0,_,h⟩:=bs h
 refine Qy5 [v1 2 (λv0=>own (rInt .u8) 5 t0 v0)] [3] [2,3,4] λm0=>?_
 refine QyY λK0 k0=>?_
 refine QyV [0,1,2,3] ?_
 have⟨e0,h0,h⟩:=bs h
 have J0:∀(p0:List Int) (y0:Value),p0=e0->To M w0 22 [(3,tv y0)] [own (rInt .u8) 5 p0 y0] K0:=by
  intro p0 y0 he;subst he;refine k0 <|QyV [0,1,2] ?_;exact QyZ h (·▸Qzi y0 [0] hpl)
 refine Qy1 <|Qzf h0 (λ(s0:Int×List Int) (y1:Value)=>[(4,ti s0.1),(3,tv y1),(0,tsl rI l_)]) (λ(s0:Int×List Int) (y1:Value)=>[own (rInt .u8) 5 s0.2 y1]) (m0 2) [0,2,3] ?_;clear h;intro s0 y1 o K1 h ho k1;refine QyY λ_ k2=>QyV [3,4,5,6] ?_;refine Qy0 h (λ_ h=>?_) (λ_ h=>?_)
 ·refine Qy2 <|k2 <|QyY λ_ k3=>Qy1 ?_;have⟨_,h1,t1,h2,_,h3,h⟩:=bs3 h;intro a w H;refine wr mx [v1 6 (λv0=>own (rInt .u8) 5 (s0.2++t1) v0)] H (λ_=>.q 2 rfl<|.q 4 rfl<|.q 3 rfl<|.o (QA ud22 tok3 z1 z0 h1)<|.o (Qw tok3 z0)<|.o (Qq QhN ((QcN.ok h2).ro Qcr) (.cons (.of z0)<|.nil))<|.e [] [0] [1] rfl rfl rfl rfl (QS (R:=(rInt .u8)) ud81 tok5 (leb rfl) z5 z0 h3)<|.ud (f:=λv=>tv v) 6 rfl [] rfl rfl (Qc z0)<|.n) λm1 a w H=>?_;have H:=H.t4_1 [6,7,9,10];refine Qzh H ?_;refine k3 <|Qy6 [2,3,4,5] ?_;exact Qy8 k1 (m1 6) ((sj h).symm) [0,2,3]
 refine Qy7 <|Qy8 J0 y1 (ho _ (sj h).symm) [2]
def Qc3 (l_:(List Str)):Option ((List Int)):=(Qb9 (l_.length:Int)).bind λt0=>(Qz (λ(s0:Int×List Int)=>((if (decide (s0.1<(l_.length:Int)))=true then (idx l_ s0.1).bind λt1=>(QeN t1).bind λt2=>(rm (s0.2.length+t2.length)).bind λ_=>(some (.inl ((i64.wrap (s0.1+1)),(s0.2++t2)))) else (some (.inr s0.2))):Option ((Int×List Int)⊕((List Int))))) ((0:Int),t0)).bind λp0=>(some p0)
instance Qf7:SpcS prog 47 (∀{l_:(List Str)} {r:(List Int)},Qc3 l_=some r->FnOk prog 47 [tsl rS l_] [] (λv=>[own (rInt .u8) 5 r v]) (λv=>tv v)):=.mk λ{l_ r} h=>by
 unfold Qc3 at h
 refine Fe func47 ntmps47 λM0 M w0 hpl=>?_
 refine QyV [1] ?_
 have⟨t0,_,h⟩:=bs h
 refine Qy5 [v1 2 (λv0=>own (rInt .u8) 5 t0 v0)] [3] [2,3,4] λm0=>?_
 refine QyY λK0 k0=>?_
 refine QyV [0,1,2,3] ?_
 have⟨e0,h0,h⟩:=bs h
 have J0:∀(p0:List Int) (y0:Value),p0=e0->To M w0 22 [(3,tv y0)] [own (rInt .u8) 5 p0 y0] K0:=by
  intro p0 y0 he;subst he;refine k0 <|QyV [0,1,2] ?_;exact QyZ h (·▸Qzi y0 [0] hpl)
 refine Qy1 <|Qzf h0 (λ(s0:Int×List Int) (y1:Value)=>[(4,ti s0.1),(3,tv y1),(0,tsl rS l_)]) (λ(s0:Int×List Int) (y1:Value)=>[own (rInt .u8) 5 s0.2 y1]) (m0 2) [0,2,3] ?_;clear h;intro s0 y1 o K1 h ho k1;refine QyY λ_ k2=>QyV [3,4,5,6] ?_;refine Qy0 h (λ_ h=>?_) (λ_ h=>?_)
 ·refine Qy2 <|k2 <|QyY λ_ k3=>Qy1 ?_;have⟨_,h1,t1,h2,_,h3,h⟩:=bs3 h;intro a w H;refine wr mx [v1 6 (λv0=>own (rInt .u8) 5 (s0.2++t1) v0)] H (λ_=>.q 2 rfl<|.q 4 rfl<|.q 3 rfl<|.o (QA ud56 tok9 z1 z0 h1)<|.o (Qw tok9 z0)<|.o (Qq Qrk ((QiX.ok h2).ro Qcr) (.cons (.of z0)<|.nil))<|.e [] [0] [1] rfl rfl rfl rfl (QS (R:=(rInt .u8)) ud81 tok5 (leb rfl) z5 z0 h3)<|.ud (f:=λv=>tv v) 6 rfl [] rfl rfl (Qc z0)<|.n) λm1 a w H=>?_;have H:=H.t4_1 [6,7,9,10];refine Qzh H ?_;refine k3 <|Qy6 [2,3,4,5] ?_;exact Qy8 k1 (m1 6) ((sj h).symm) [0,2,3]
 refine Qy7 <|Qy8 J0 y1 (ho _ (sj h).symm) [2]
def Qe2 (x_:Qa):Option ((List Int)):=(Qb9 x_.Version).bind λt0=>(Qb9 (x_.Xa.length:Int)).bind λt1=>(rm (t0.length+t1.length)).bind λ_=>(Qz (λ(s0:Int×List Int)=>((if (decide (s0.1<(x_.Xa.length:Int)))=true then (idx x_.Xa s0.1).bind λt2=>(QeN t2.Xi).bind λt3=>(rm (s0.2.length+t3.length)).bind λ_=>(Qem [t2.Lo,t2.Hi]).bind λt4=>(rm ((s0.2++t3).length+t4.length)).bind λ_=>(Qb9 (t2.Xb.length:Int)).bind λt5=>(rm (((s0.2++t3)++t4).length+t5.length)).bind λ_=>(Qz (λ(s1:Int×List Int)=>((if (decide (s1.1<(t2.Xb.length:Int)))=true then (idx t2.Xb s1.1).bind λt6=>(Qc3 [t6.Xi,t6.Of,t6.Up]).bind λt7=>(rm (s1.2.length+t7.length)).bind λ_=>(Qem [t6.Xh,t6.Lo,t6.Hi]).bind λt8=>(rm ((s1.2++t7).length+t8.length)).bind λ_=>(Qc3 t6.Words).bind λt9=>(rm (((s1.2++t7)++t8).length+t9.length)).bind λ_=>(Qem t6.Xf).bind λt10=>(rm ((((s1.2++t7)++t8)++t9).length+t10.length)).bind λ_=>(some (.inl ((i64.wrap (s1.1+1)),((((s1.2++t7)++t8)++t9)++t10)))) else (some (.inr s1.2))):Option ((Int×List Int)⊕((List Int))))) ((0:Int),(((s0.2++t3)++t4)++t5))).bind λp0=>(some (.inl ((i64.wrap (s0.1+1)),p0))) else (some (.inr s0.2))):Option ((Int×List Int)⊕((List Int))))) ((0:Int),(t0++t1))).bind λp1=>(Qb9 (x_.Xd.length:Int)).bind λt11=>(rm (p1.length+t11.length)).bind λ_=>(Qz (λ(s2:Int×List Int)=>((if (decide (s2.1<(x_.Xd.length:Int)))=true then (Qz (λ(s3:Int×List Int)=>((idx x_.Xd s2.1).bind λt12=>(if (decide (s3.1<(t12.Xg.length:Int)))=true then (idx x_.Xd s2.1).bind λt13=>(idx t13.Xg s3.1).bind λt14=>(idx x_.Xd s2.1).bind λt15=>(idx t15.Xg s3.1).bind λt16=>(rm (s3.2.length+[t14.a0,t16.a1].length)).bind λ_=>(some (.inl ((i64.wrap (s3.1+1)),(s3.2++[t14.a0,t16.a1])))) else (some (.inr s3.2))):Option ((Int×List Int)⊕((List Int))))) ((0:Int),([]:List Int))).bind λp2=>(idx x_.Xd s2.1).bind λt17=>(QeN t17.Xi).bind λt18=>(rm (s2.2.length+t18.length)).bind λ_=>(idx x_.Xd s2.1).bind λt19=>(Qc3 t19.Xe).bind λt20=>(rm ((s2.2++t18).length+t20.length)).bind λ_=>(Qem p2).bind λt21=>(rm (((s2.2++t18)++t20).length+t21.length)).bind λ_=>(some (.inl ((i64.wrap (s2.1+1)),(((s2.2++t18)++t20)++t21)))) else (some (.inr s2.2))):Option ((Int×List Int)⊕((List Int))))) ((0:Int),(p1++t11))).bind λp3=>(Qb9 (x_.Xc.length:Int)).bind λt22=>(rm (p3.length+t22.length)).bind λ_=>(Qz (λ(s4:Int×List Int)=>((if (decide (s4.1<(x_.Xc.length:Int)))=true then (idx x_.Xc s4.1).bind λt23=>(Qc3 [t23.Xi,t23.Xh,t23.A,t23.B]).bind λt24=>(rm (s4.2.length+t24.length)).bind λ_=>(Qb9 t23.N).bind λt25=>(rm ((s4.2++t24).length+t25.length)).bind λ_=>(some (.inl ((i64.wrap (s4.1+1)),((s4.2++t24)++t25)))) else (some (.inr s4.2))):Option ((Int×List Int)⊕((List Int))))) ((0:Int),(p3++t22))).bind λp4=>(some p4)
instance QkN:SpcS prog 27 (∀{x_:Qa} {r:(List Int)},Qe2 x_=some r->FnOk prog 27 [Qb.ty x_] [] (λv=>[own (rInt .u8) 5 r v]) (λv=>tv v)):=.mk λ{x_ r} h=>by
 unfold Qe2 at h
 refine Fe func27 ntmps27 λM0 M w0 hpl=>?_
 refine QyV [0] ?_
 have⟨t0,h0,t1,h1,_,h2,h⟩:=bs3 h
 intro a w H
 refine sr mx [v1 2 (λv0=>own (rInt .u8) 5 t0 v0),v1 7 (λv0=>own (rInt .u8) 5 (t0++t1) v0)] H (λ_=>.o (Qg QiT z0)<|.o (Qf (u:=x_.Version) tok3 z0 rfl)<|.m [] [0] rfl rfl rfl (Qq QhN (QcN.ok h0) (.cons (.of z0)<|.nil))<|.o (Qg QZ z3)<|.o (Qf (u:=x_.Xa) Qa0 z0 rfl)<|.o (Q1 ud23 z0)<|.o (Qq QhN ((QcN.ok h1).ro Qcr) (.cons (.of z0)<|.nil))<|.e [] [0] [1] rfl rfl rfl rfl (QS (R:=(rInt .u8)) ud81 tok5 (leb rfl) z4 z0 h2)<|.ud (f:=λv=>tv v) 7 rfl [] rfl rfl (Qc z0)<|.n) λm0 a w H=>?_
 have H:=H.t3_1 [7,8,9]
 refine Qze H ?_
 refine QyY λK0 k0=>?_
 refine QyV [0,1,2,3] ?_
 have⟨e0,h3,h⟩:=bs h
 have J0:∀(p0:List Int) (y0:Value),p0=e0->To M w0 194 [(3,tv y0),(1,tptr (Qb.cs x_))] [own (rInt .u8) 5 p0 y0] K0:=by
  intro p0 y0 he;subst he;refine k0 ?_;have⟨t2,h4,_,h5,h⟩:=bs2 h;intro a w H;refine sr mx [v1 5 (λv0=>own (rInt .u8) 5 (p0++t2) v0)] H (λ_=>.q 0 rfl<|.o (Qg Qct z2)<|.o (Qf (u:=x_.Xd) Qiw z0 rfl)<|.o (Q1 ud24 z0)<|.o (Qq QhN ((QcN.ok h4).ro Qcr) (.cons (.of z0)<|.nil))<|.e [] [0] [1] rfl rfl rfl rfl (QS (R:=(rInt .u8)) ud81 tok5 (leb rfl) z4 z0 h5)<|.ud (f:=λv=>tv v) 5 rfl [] rfl rfl (Qc z0)<|.n) λm1 a w H=>?_;have H:=H.t3_1 [5,6,7];refine Qze H ?_;refine QyY λK1 k1=>QyV [0,1,2,3] ?_;have⟨e1,h6,h⟩:=bs h;have J1:∀(p1:List Int) (y1:Value),p1=e1->To M w0 194 [(3,tv y1),(1,tptr (Qb.cs x_))] [own (rInt .u8) 5 p1 y1] K1:=by
   intro p1 y1 he;subst he;refine k1 ?_;have⟨t3,h7,_,h8,h⟩:=bs2 h;intro a w H;refine sr mx [v1 5 (λv0=>own (rInt .u8) 5 (p1++t3) v0)] H (λ_=>.q 0 rfl<|.o (Qg QaO z2)<|.o (Qf (u:=x_.Xc) QcH z0 rfl)<|.o (Q1 ud25 z0)<|.o (Qq QhN ((QcN.ok h7).ro Qcr) (.cons (.of z0)<|.nil))<|.e [] [0] [1] rfl rfl rfl rfl (QS (R:=(rInt .u8)) ud81 tok5 (leb rfl) z4 z0 h8)<|.ud (f:=λv=>tv v) 5 rfl [] rfl rfl (Qc z0)<|.n) λm2 a w H=>?_;have H:=H.t3_1 [5,6,7];refine Qze H ?_;refine QyY λK2 k2=>QyV [0,1,2,3] ?_;have⟨e2,h9,h⟩:=bs h;have J2:∀(p2:List Int) (y2:Value),p2=e2->To M w0 194 [(3,tv y2)] [own (rInt .u8) 5 p2 y2] K2:=by
    intro p2 y2 he;subst he;refine k2 <|QyV [0,1,2] ?_;exact QyZ h (·▸Qzi y2 [0] hpl)
   refine Qy1 <|Qzf h9 (λ(s0:Int×List Int) (y3:Value)=>[(11,ti s0.1),(3,tv y3),(1,tptr (Qb.cs x_))]) (λ(s0:Int×List Int) (y3:Value)=>[own (rInt .u8) 5 s0.2 y3]) (m2 5) [0,2,3] ?_;clear h;intro s0 y3 o K3 h ho k3;refine QyY λ_ k4=>QyV [4,5,6,7] ?_;refine Qy0 h (λ_ h=>?_) (λ_ h=>?_)
   ·refine Qy2 <|k4 <|QyY λ_ k5=>Qy1 ?_;have⟨t4,_,h⟩:=bs h;refine Qy5 [v1 5 (λv0=>box (Ql.cs zz3) v0),v1 5 (λv0=>box (Ql.cs t4) v0)] [6,7] [5,7,8,9] λm3=>?_;refine Qy9 (λ_ _ H=>(((H.Xj [1,0] rfl).Xk 0 rfl).add 0 rfl (λ_ _ _ h=>h.2)).pick [0,3,4,5]) ?_;have⟨t5,h10,_,h11,t6,h12,_,h13,h⟩:=bs4 h;intro a w H;refine wr mx [v1 11 (λv0=>own (rInt .u8) 5 (s0.2++t5) v0),v1 15 (λv0=>own (rInt .u8) 5 ((s0.2++t5)++t6) v0)] H (λ_=>.q 2 rfl<|.o (Qg Qln z1)<|.o (Qf (u:=t4.Xi) tok9 z0 rfl)<|.o (Qg Qht z3)<|.o (Qf (u:=t4.Xh) tok9 z0 rfl)<|.o (Qg Qil z5)<|.o (Qf (u:=t4.A) tok9 z0 rfl)<|.o (Qg Qim z7)<|.o (Qf (u:=t4.B) tok9 z0 rfl)<|.o (QK (R:=rS) (us:=[t4.Xi,t4.Xh,t4.A,t4.B]) ud56 tok9 (.cons z6<|.cons z4<|.cons z2<|.cons z0<|.nil _) rfl (leb rfl))<|.o (Qq Qox ((Qf7.ok h10).ro Qcr) (.cons (.of z0)<|.nil))<|.e [] [0] [1] rfl rfl rfl rfl (QS (R:=(rInt .u8)) ud81 tok5 (leb rfl) z10 z0 h11)<|.o (Qg Qpe z12)<|.o (Qf (u:=t4.N) tok3 z0 rfl)<|.o (Qq QhN ((QcN.ok h12).ro Qcr) (.cons (.of z0)<|.nil))<|.e [] [1] [2] rfl rfl rfl rfl (QS (R:=(rInt .u8)) ud81 tok5 (leb rfl) z3 z0 h13)<|.ud (f:=λv=>tv v) 15 rfl [] rfl rfl (Qc z0)<|.n) λm4 a w H=>?_;have H:=H.t4_1 [15,16,18,19];refine Qzh H ?_;refine k5 <|Qy6 [2,3,4,5] ?_;exact Qy8 k3 (m4 15) ((sj h).symm) [0,2,3]
   refine Qy7 <|Qy8 J2 y3 (ho _ (sj h).symm) [2]
  refine Qy1 <|Qzf h6 (λ(s1:Int×List Int) (y4:Value)=>[(8,ti s1.1),(3,tv y4),(1,tptr (Qb.cs x_))]) (λ(s1:Int×List Int) (y4:Value)=>[own (rInt .u8) 5 s1.2 y4]) (m1 5) [0,2,3] ?_;clear h;intro s1 y4 o K4 h ho k6;refine QyY λ_ k7=>QyV [4,5,6,7] ?_;refine Qy0 h (λ_ h=>?_) (λ_ h=>?_)
  ·refine Qy2 <|k7 <|QyY λ_ k8=>Qy1 <|QyV [0,2,3,4] ?_;refine Qy9 (λ_ _ H=>H.nil (rI) 3) ?_;refine QyY λK5 k9=>QyV [0,1,2,3,4] ?_;have⟨e3,h14,h⟩:=bs h;have J3:∀(p3:List Int) (y5:Value),p3=e3->To M w0 194 [(9,tv y5),(8,ti s1.1),(3,tv y4),(1,tptr (Qb.cs x_))] [own rI 3 p3 y5,own (rInt .u8) 5 s1.2 y4] K5:=by
    intro p3 y5 he;subst he;refine k9 ?_;have⟨t7,h15,t8,h16,_,h17,h⟩:=bs3 h;replace h:=bk h15 h;have⟨t9,h18,_,h19,h⟩:=bs2 h;intro a w H;refine sr mx [v1 8 (λv0=>own (rInt .u8) 5 (s1.2++t8) v0),v1 16 (λv0=>own (rInt .u8) 5 ((s1.2++t8)++t9) v0)] H (λ_=>.q 2 rfl<|.o (Qg Qct z4)<|.o (Qf (u:=x_.Xd) Qiw z0 rfl)<|.q 4 rfl<|.o (QA ud24 Qe7 z1 z0 h15)<|.o (Qg Qxo z0)<|.o (Qf (u:=t7.Xi) tok9 z0 rfl)<|.o (Qq Qrk ((QiX.ok h16).ro Qcr) (.cons (.of z0)<|.nil))<|.e [] [1] [2] rfl rfl rfl rfl (QS (R:=(rInt .u8)) ud81 tok5 (leb rfl) z7 z0 h17)<|.o (Qg Qct z12)<|.o (Qf (u:=x_.Xd) Qiw z0 rfl)<|.q 12 rfl<|.o (QA ud24 Qe7 z1 z0 h15)<|.o (Qg Qlm z0)<|.o (Qf (u:=t7.Xe) Qhs z0 rfl)<|.o (Qq Qox ((Qf7.ok h18).ro Qcr) (.cons (.of z0)<|.nil))<|.e [] [2] [3] rfl rfl rfl rfl (QS (R:=(rInt .u8)) ud81 tok5 (leb rfl) z7 z0 h19)<|.ud (f:=λv=>tv v) 16 rfl [] rfl rfl (Qc z0)<|.n) λ_ a w H=>?_;have H:=H.t5_2 [16,17,18,19,20];refine Qze H ?_;refine Qy9 (by intro _ _ H;exact (H.Xm 2 rfl).pick [0,1,2,4,5]) ?_;have⟨t10,h20,_,h21,h⟩:=bs2 h;intro a w H;refine wr mx [v1 3 (λv0=>own (rInt .u8) 5 (((s1.2++t8)++t9)++t10) v0)] H (λ_=>.q 2 rfl<|.q 1 rfl<|.o (Qq Qow ((Qh3.ok h20).ro Qcr) (.cons (.of z0)<|.nil))<|.e [] [0] [1] rfl rfl rfl rfl (QS (R:=(rInt .u8)) ud81 tok5 (leb rfl) z2 z0 h21)<|.ud (f:=λv=>tv v) 3 rfl [] rfl rfl (Qc z0)<|.n) λm5 a w H=>?_;have H:=H.t4_1 [3,4,7,8];refine Qzh H ?_;refine k8 <|Qy6 [2,3,4,5] ?_;exact Qy8 k6 (m5 3) ((sj h).symm) [0,2,3]
   refine Qy1 <|Qzf h14 (λ(s2:Int×List Int) (y6:Value)=>[(10,ti s2.1),(9,tv y6),(8,ti s1.1),(3,tv y4),(1,tptr (Qb.cs x_))]) (λ(s2:Int×List Int) (y6:Value)=>[own rI 3 s2.2 y6,own (rInt .u8) 5 s1.2 y4]) (.slice none 0 0) [0,1,2,3,4] ?_;clear h;intro s2 y6 o K6 h ho k10;refine QyY λ_ k11=>?_;have⟨_,_,h⟩:=bs h;refine QyV [8,9,10,11,12,13] ?_;refine Qy0 h (λ_ h=>?_) (λ_ h=>?_)
   ·refine Qy2 <|k11 <|QyY λ_ k12=>Qy1 ?_;have⟨_,h22,t11,h23,h⟩:=bs2 h;replace h:=bk h22 h;replace h:=bk h23 h;have⟨_,_,h⟩:=bs h;refine Qza [v1 22 (λv0=>own rI 3 (s2.2++[t11.a0,t11.a1]) v0)] [23] [22,23,25,26,27,28] λm6=>?_;refine k12 <|Qy6 [2,3,4,5,6,7] ?_;refine Qzc (λ_ _ H=>(H.pick [0,2,3,4,5]).Xj [1,0] rfl) ?_;exact Qy8 k10 (m6 22) ((sj h).symm) [0,1,2,3,4]
   refine Qy7 <|Qy8 J3 y6 (ho _ (sj h).symm) [2,3,4,5]
  refine Qy7 <|Qy8 J1 y4 (ho _ (sj h).symm) [2,3]
 refine Qy1 <|Qzf h3 (λ(s3:Int×List Int) (y7:Value)=>[(4,ti s3.1),(3,tv y7),(1,tptr (Qb.cs x_))]) (λ(s3:Int×List Int) (y7:Value)=>[own (rInt .u8) 5 s3.2 y7]) (m0 7) [0,2,3] ?_;clear h;intro s3 y7 o K7 h ho k13;refine QyY λ_ k14=>QyV [4,5,6,7] ?_;refine Qy0 h (λ_ h=>?_) (λ_ h=>?_)
 ·refine Qy2 <|k14 <|QyY λK8 k15=>Qy1 ?_;have⟨t12,_,h⟩:=bs h;refine Qy5 [v1 5 (λv0=>box (Qp.cs zz1) v0),v1 5 (λv0=>box (Qp.cs t12) v0)] [6,7] [5,7,8,9] λm7=>?_;refine Qy9 (λ_ _ H=>(((H.Xj [1,0] rfl).Xk 0 rfl).add 0 rfl (λ_ _ _ h=>h.2)).pick [0,3,4,5]) ?_;have⟨t13,h24,_,h25,t14,h26,_,h27,h⟩:=bs4 h;intro a w H;refine sr mx [v1 4 (λv0=>own (rInt .u8) 5 (s3.2++t13) v0),v1 11 (λv0=>own (rInt .u8) 5 ((s3.2++t13)++t14) v0)] H (λ_=>.q 2 rfl<|.o (Qg Qgv z1)<|.o (Qf (u:=t12.Xi) tok9 z0 rfl)<|.o (Qq Qrk ((QiX.ok h24).ro Qcr) (.cons (.of z0)<|.nil))<|.e [] [0] [1] rfl rfl rfl rfl (QS (R:=(rInt .u8)) ud81 tok5 (leb rfl) z3 z0 h25)<|.o (Qg Qij z5)<|.o (Qf (u:=t12.Lo) tok3 z0 rfl)<|.o (Qg Qik z7)<|.o (Qf (u:=t12.Hi) tok3 z0 rfl)<|.o (QK (R:=rI) (us:=[t12.Lo,t12.Hi]) ud22 tok3 (.cons z2<|.cons z0<|.nil _) rfl (leb rfl))<|.o (Qq Qow ((Qh3.ok h26).ro Qcr) (.cons (.of z0)<|.nil))<|.e [] [1] [2] rfl rfl rfl rfl (QS (R:=(rInt .u8)) ud81 tok5 (leb rfl) z6 z0 h27)<|.ud (f:=λv=>tv v) 11 rfl [] rfl rfl (Qc z0)<|.n) λ_ a w H=>?_;have H:=H.to [11,12,13,14,15] [_,_,_,_,_] [_] rfl rfl;refine Qze H ?_;have⟨t15,h28,_,h29,h⟩:=bs2 h;intro a w H;refine sr mx [v1 5 (λv0=>own (rInt .u8) 5 (((s3.2++t13)++t14)++t15) v0)] H (λ_=>.q 1 rfl<|.o (Qg Qaf z3)<|.o (Qf (u:=t12.Xb) QbG z0 rfl)<|.o (Q1 ud52 z0)<|.o (Qq QhN ((QcN.ok h28).ro Qcr) (.cons (.of z0)<|.nil))<|.e [] [0] [1] rfl rfl rfl rfl (QS (R:=(rInt .u8)) ud81 tok5 (leb rfl) z4 z0 h29)<|.ud (f:=λv=>tv v) 5 rfl [] rfl rfl (Qc z0)<|.n) λm8 a w H=>?_;have H:=H.to [5,6,8,9,10] [_,_,_,_,_] [_] rfl rfl;refine Qze H ?_;refine QyV [0,1,2,3,4,5] ?_;have⟨e4,h30,h⟩:=bs h;have J4:∀(p4:List Int) (y8:Value),p4=e4->To M w0 194 [(3,tv y8),(4,ti s3.1),(1,tptr (Qb.cs x_))] [own (rInt .u8) 5 p4 y8] K8:=by
   intro p4 y8 he;subst he;refine k15 <|Qy6 [2,3,4] ?_;exact Qy8 k13 y8 ((sj h).symm) [0,1,2]
  refine Qy1 <|Qzf h30 (λ(s4:Int×List Int) (y9:Value)=>[(6,ti s4.1),(3,tv y9),(5,tptr (Qp.cs t12)),(4,ti s3.1),(1,tptr (Qb.cs x_))]) (λ(s4:Int×List Int) (y9:Value)=>[own (rInt .u8) 5 s4.2 y9]) (m8 5) [0,2,3,4,5] ?_;clear h;intro s4 y9 o K9 h ho k16;refine QyY λ_ k17=>QyV [4,5,6,7,8,9] ?_;refine Qy0 h (λ_ h=>?_) (λ_ h=>?_)
  ·refine Qy2 <|k17 <|QyY λ_ k18=>Qy1 ?_;have⟨t16,_,h⟩:=bs h;refine Qy5 [v1 5 (λv0=>box (Qe.cs zz0) v0),v1 5 (λv0=>box (Qe.cs t16) v0)] [6,7] [5,7,8,9,10,11] λm9=>?_;refine Qy9 (λ_ _ H=>(((H.Xj [1,0] rfl).Xk 0 rfl).add 0 rfl (λ_ _ _ h=>h.2)).pick [0,3,4,5,6,7]) ?_;have⟨t17,h31,_,h32,t18,h33,_,h34,h⟩:=bs4 h;intro a w H;refine sr mx [v1 9 (λv0=>own (rInt .u8) 5 (s4.2++t17) v0),v1 18 (λv0=>own (rInt .u8) 5 ((s4.2++t17)++t18) v0)] H (λ_=>.q 2 rfl<|.o (Qg QeY z1)<|.o (Qf (u:=t16.Xi) tok9 z0 rfl)<|.o (Qg Qio z3)<|.o (Qf (u:=t16.Of) tok9 z0 rfl)<|.o (Qg Qlo z5)<|.o (Qf (u:=t16.Up) tok9 z0 rfl)<|.o (QK (R:=rS) (us:=[t16.Xi,t16.Of,t16.Up]) ud56 tok9 (.cons z4<|.cons z2<|.cons z0<|.nil _) rfl (leb rfl))<|.o (Qq Qox ((Qf7.ok h31).ro Qcr) (.cons (.of z0)<|.nil))<|.e [] [0] [1] rfl rfl rfl rfl (QS (R:=(rInt .u8)) ud81 tok5 (leb rfl) z8 z0 h32)<|.o (Qg QbY z10)<|.o (Qf (u:=t16.Xh) tok3 z0 rfl)<|.o (Qg Qip z12)<|.o (Qf (u:=t16.Lo) tok3 z0 rfl)<|.o (Qg QiV z14)<|.o (Qf (u:=t16.Hi) tok3 z0 rfl)<|.o (QK (R:=rI) (us:=[t16.Xh,t16.Lo,t16.Hi]) ud22 tok3 (.cons z4<|.cons z2<|.cons z0<|.nil _) rfl (leb rfl))<|.o (Qq Qow ((Qh3.ok h33).ro Qcr) (.cons (.of z0)<|.nil))<|.e [] [1] [2] rfl rfl rfl rfl (QS (R:=(rInt .u8)) ud81 tok5 (leb rfl) z8 z0 h34)<|.ud (f:=λv=>tv v) 18 rfl [] rfl rfl (Qc z0)<|.n) λ_ a w H=>?_;have H:=H.to [18,19,20,21,22,23,24] [_,_,_,_,_,_,_] [_] rfl rfl;refine Qze H ?_;have⟨t19,h35,_,h36,t20,h37,_,h38,h⟩:=bs4 h;intro a w H;refine wr mx [v1 4 (λv0=>own (rInt .u8) 5 (((s4.2++t17)++t18)++t19) v0),v1 8 (λv0=>own (rInt .u8) 5 ((((s4.2++t17)++t18)++t19)++t20) v0)] H (λ_=>.q 1 rfl<|.o (Qg Qgw z3)<|.o (Qf (u:=t16.Words) Qhs z0 rfl)<|.o (Qq Qox ((Qf7.ok h35).ro Qcr) (.cons (.of z0)<|.nil))<|.e [] [0] [1] rfl rfl rfl rfl (QS (R:=(rInt .u8)) ud81 tok5 (leb rfl) z3 z0 h36)<|.o (Qg Qgx z7)<|.o (Qf (u:=t16.Xf) QbW z0 rfl)<|.o (Qq Qow ((Qh3.ok h37).ro Qcr) (.cons (.of z0)<|.nil))<|.e [] [1] [2] rfl rfl rfl rfl (QS (R:=(rInt .u8)) ud81 tok5 (leb rfl) z3 z0 h38)<|.ud (f:=λv=>tv v) 8 rfl [] rfl rfl (Qc z0)<|.n) λm10 a w H=>?_;have H:=H.to [8,9,12,13,14,15] [_,_,_,_,_,_] [_] rfl rfl;refine Qzh H ?_;refine k18 <|Qy6 [2,3,4,5,6,7] ?_;exact Qy8 k16 (m10 8) ((sj h).symm) [0,2,3,4,5]
  refine Qy7 <|Qy8 J4 y9 (ho _ (sj h).symm) [2,4,5]
 refine Qy7 <|Qy8 J0 y7 (ho _ (sj h).symm) [2,3]
def QhS (a_:(List Int)) (b_:(List Int)):Option (Bool):=(if ((a_.length:Int) !=(b_.length:Int))=true then (some false) else (Qz (λ(s0:Int)=>((if (decide (s0<(a_.length:Int)))=true then (idx a_ s0).bind λt0=>(idx b_ s0).bind λt1=>(if (t0 !=t1)=true then (some (.inr (.inr false))) else (some (.inl (i64.wrap (s0+1))))) else (some (.inr (.inl ())))):Option ((Int)⊕((Unit)⊕(Bool))))) (0:Int)).bind λe0=>(match e0 with | .inl _=>(some true) | .inr p0=>(some p0)))
instance Qqj:Spc2 prog 26 QhS (λa_ b_=>[tsl (rInt .u8) a_,tsl (rInt .u8) b_]) tb:=.mk λ{a_ b_ r} h=>by
 unfold QhS at h
 refine Fe func26 ntmps26 λM0 M w0 hpl=>?_
 refine QyV [1,2] ?_
 refine tIfs h [4,5,6] (λ_ h=>?_) (λ_ h=>?_)
 ·refine QyV [0] ?_
  exact QyZ h (·▸QyX hpl)
 refine QyY λK0 k0=>?_
 refine QyV [0,2,3] ?_
 have⟨e0,h0,h⟩:=bs h
 have J0:∀(p0:Unit),(.inl p0)=e0->To M w0 26 [] [] K0:=by
  intro p0 he;subst he;simp only at h;refine k0 <|QyV [0] ?_;exact QyZ h (·▸QyX hpl)
 have J1:∀(p1:Bool),(.inr p1)=e0->To M w0 26 [(4,tb p1)] [] (Ret prog f26 M0 [] w0 (λ_=>[]) (λ_=>tb r) .ret):=by
  intro p1 he;subst he;simp only at h;obtain rfl:=sj h;exact QyX hpl
 refine Qy1 <|Qzb h0 (λ(s0:Int)=>[(5,ti s0),(0,tsl (rInt .u8) a_),(1,tsl (rInt .u8) b_)]) (λ(s0:Int)=>[]) [0,1,2] ?_;clear h;intro s0 o K1 h ho k1;refine QyY λ_ k2=>QyV [3,4,5,6] ?_;refine Qy0 h (λ_ h=>?_) (λ_ h=>?_)
 ·refine Qy2 <|k2 <|QyY λ_ k3=>Qy1 ?_;have⟨_,_,_,_,h⟩:=bs2 h;refine QyV [8,10,11,12] ?_;refine Qy0 h (λ_ h=>?_) (λ_ h=>?_)
  ·refine QyV [0] ?_;refine Qzd ?_;exact Qy4 J1 (ho _ (sj h).symm) [0]
  refine Qy2 <|k3 <|Qy6 [2,4,5] ?_;exact Qy4 k1 ((sj h).symm) [0,1,2]
 refine Qy7 <|Qy4 J0 (ho _ (sj h).symm) []
def QgB (a_:Qa) (b_:Qa):Option (Bool):=(Qe2 a_).bind λt0=>(Qe2 b_).bind λt1=>(QhS t0 t1).bind λt2=>(some t2)
instance Qqk:Spc2 prog 14 QgB (λa_ b_=>[Qb.ty a_,Qb.ty b_]) tb:=.mk λ{a_ b_ r} h=>by
 unfold QgB at h
 refine Fe func14 ntmps14 λM0 M w0 hpl=>?_
 refine QyV [0,1] ?_
 have⟨_,h0,_,h1,t0,h2,h⟩:=bs3 h
 intro a w H
 refine sr mx [] H (λ_=>.o (Qw QH z0)<|.o (Qq Quu ((QkN.ok h0).ro Qcr) (.cons (.of z0)<|.nil))<|.o (Qw QH z3)<|.o (Qq Quu ((QkN.ok h1).ro Qcr) (.cons (.of z0)<|.nil))<|.o (Qq Qz6 (Qqj.ok h2) (.cons (.of z2)<|.cons (.of z0)<|.nil))<|.o (Qc z0)<|.n) λ_ a w H=>?_
 have H:=H.t1_0 [5]
 refine Qze H ?_
 exact QyZ h (·▸QyX hpl)
def Qc4 (s_:(List Int)) (f_:(Int->Option Bool)):Option (Int):=(Qz (λ(s0:Int)=>((if (decide (s0<(s_.length:Int)))=true then (idx s_ s0).bind λt0=>(f_ t0).bind λt1=>(if t1=true then (some (.inr (.inr s0))) else (some (.inl (i64.wrap (s0+1))))) else (some (.inr (.inl ())))):Option ((Int)⊕((Unit)⊕(Int))))) (0:Int)).bind λe0=>(match e0 with | .inl _=>(some (-1:Int)) | .inr p0=>(some p0))
instance Qku:Spc2 prog 158 Qc4 (λs_ f_=>[tsl rI s_,Qte.ty f_]) ti:=.mk λ{s_ f_ r} h=>by
 unfold Qc4 at h
 refine Fe func158 ntmps158 λM0 M w0 hpl=>?_
 refine QyV [1,2] ?_
 refine QyY λK0 k0=>?_
 refine QyV [1,2,3,4] ?_
 have⟨e0,h0,h⟩:=bs h
 have J0:∀(p0:Unit),(.inl p0)=e0->To M w0 19 [] [] K0:=by
  intro p0 he;subst he;simp only at h;refine k0 <|QyV [0] ?_;exact QyZ h (·▸QyX hpl)
 have J1:∀(p1:Int),(.inr p1)=e0->To M w0 19 [(4,ti p1)] [] (Ret prog f158 M0 [] w0 (λ_=>[]) (λ_=>ti r) .ret):=by
  intro p1 he;subst he;simp only at h;obtain rfl:=sj h;exact QyX hpl
 refine Qy1 <|Qzb h0 (λ(s0:Int)=>[(7,ti (s_.length:Int)),(8,ti s0),(0,tsl rI s_),(1,Qte.ty f_)]) (λ(s0:Int)=>[]) [0,1,2,3] ?_;clear h;intro s0 o K1 h ho k1;refine QyV [0,1,2,3,4] ?_;refine QyY λ_ k2=>Qy0 h (λ_ h=>?_) (λ_ h=>?_)
 ·refine Qy2 <|k2 <|QyY λ_ k3=>Qy1 <|QyV [1,3,4,5,6] ?_;have⟨_,_,_,_,h⟩:=bs2 h;refine QyV [5,6,7,8,9,10] ?_;refine Qy0 h (λ_ h=>?_) (λ_ h=>?_)
  ·refine QyV [1] ?_;refine Qzd ?_;exact Qy4 J1 (ho _ (sj h).symm) [0]
  refine Qy2 <|k3 <|Qy6 [1,4,5,6] ?_;exact Qy4 k1 ((sj h).symm) [1,0,2,3]
 refine Qy7 <|Qy4 J0 (ho _ (sj h).symm) []
def Qcl (s_:(List Int)) (f_:(Int->Option Bool)):Option (Bool):=(Qc4 s_ f_).bind λt0=>(some (decide (t0>=0)))
instance Qjz:Spc2 prog 125 Qcl (λs_ f_=>[tsl rI s_,Qte.ty f_]) tb:=.mk λ{s_ f_ r} h=>by
 unfold Qcl at h
 refine Fe func125 ntmps125 λM0 M w0 hpl=>?_
 refine QyV [1,2] ?_
 have⟨_,_,h⟩:=bs h
 refine QyV [4] ?_
 exact QyZ h (·▸QyX hpl)
def Qc5 (n_:Int):Option (Bool):=(some ((decide (n_<(-1099511627776:Int)))||(decide (n_>1099511627776))))
instance Qkv:Spc1 prog 126 Qc5 (λn_=>[ti n_]) tb:=.mk λ{n_ r} h=>by
 unfold Qc5 at h
 refine Fe func126 ntmps126 λM0 M w0 hpl=>?_
 refine QyV [1] ?_
 refine QyV [6] ?_
 exact QyZ h (·▸QyX hpl)
def Qdy (r_:(List Int)) (c0_:Qa) (c1_:Int):Option (Bool):=(idx c0_.Xa c1_).bind λt0=>(opt (((r_.length:Int) !=(t0.Xb.length:Int))==false) (Qcl r_ (λx0=>Qc5 x0)) default).bind λt1=>(some (((r_.length:Int) !=(t0.Xb.length:Int))||t1))
instance Qly:Spc3 prog 124 Qdy (λr_ c0_ c1_=>[tsl rI r_,tptr (Qb.cs c0_),tptr (rI.cs c1_)]) tb:=.mk λ{r_ c0_ c1_ r} h=>by
 unfold Qdy at h
 refine Fe func124 ntmps124 λM0 M w0 hpl=>?_
 refine QyV [1,2,3] ?_
 have⟨_,_,_,_,h⟩:=bs2 h
 refine QyV [14] ?_
 exact QyZ h (·▸QyX hpl)
def QcO (s_:(List (List Int))) (f_:((List Int)->Option Bool)):Option (Int):=(Qz (λ(s0:Int)=>((if (decide (s0<(s_.length:Int)))=true then (idx s_ s0).bind λt0=>(f_ t0).bind λt1=>(if t1=true then (some (.inr (.inr s0))) else (some (.inl (i64.wrap (s0+1))))) else (some (.inr (.inl ())))):Option ((Int)⊕((Unit)⊕(Int))))) (0:Int)).bind λe0=>(match e0 with | .inl _=>(some (-1:Int)) | .inr p0=>(some p0))
instance Qkg:Spc2 prog 157 QcO (λs_ f_=>[tsl (rSl rI) s_,Qtf.ty f_]) ti:=.mk λ{s_ f_ r} h=>by
 unfold QcO at h
 refine Fe func157 ntmps157 λM0 M w0 hpl=>?_
 refine QyV [1,2] ?_
 refine QyY λK0 k0=>?_
 refine QyV [1,2,3,4] ?_
 have⟨e0,h0,h⟩:=bs h
 have J0:∀(p0:Unit),(.inl p0)=e0->To M w0 19 [] [] K0:=by
  intro p0 he;subst he;simp only at h;refine k0 <|QyV [0] ?_;exact QyZ h (·▸QyX hpl)
 have J1:∀(p1:Int),(.inr p1)=e0->To M w0 19 [(4,ti p1)] [] (Ret prog f157 M0 [] w0 (λ_=>[]) (λ_=>ti r) .ret):=by
  intro p1 he;subst he;simp only at h;obtain rfl:=sj h;exact QyX hpl
 refine Qy1 <|Qzb h0 (λ(s0:Int)=>[(7,ti (s_.length:Int)),(8,ti s0),(0,tsl (rSl rI) s_),(1,Qtf.ty f_)]) (λ(s0:Int)=>[]) [0,1,2,3] ?_;clear h;intro s0 o K1 h ho k1;refine QyV [0,1,2,3,4] ?_;refine QyY λ_ k2=>Qy0 h (λ_ h=>?_) (λ_ h=>?_)
 ·refine Qy2 <|k2 <|QyY λ_ k3=>Qy1 <|QyV [1,3,4,5,6] ?_;have⟨_,_,_,_,h⟩:=bs2 h;refine QyV [5,6,7,8,9,10] ?_;refine Qy0 h (λ_ h=>?_) (λ_ h=>?_)
  ·refine QyV [1] ?_;refine Qzd ?_;exact Qy4 J1 (ho _ (sj h).symm) [0]
  refine Qy2 <|k3 <|Qy6 [1,4,5,6] ?_;exact Qy4 k1 ((sj h).symm) [1,0,2,3]
 refine Qy7 <|Qy4 J0 (ho _ (sj h).symm) []
def Qca (s_:(List (List Int))) (f_:((List Int)->Option Bool)):Option (Bool):=(QcO s_ f_).bind λt0=>(some (decide (t0>=0)))
instance Qjq:Spc2 prog 123 Qca (λs_ f_=>[tsl (rSl rI) s_,Qtf.ty f_]) tb:=.mk λ{s_ f_ r} h=>by
 unfold Qca at h
 refine Fe func123 ntmps123 λM0 M w0 hpl=>?_
 refine QyV [1,2] ?_
 have⟨_,_,h⟩:=bs h
 refine QyV [4] ?_
 exact QyZ h (·▸QyX hpl)
def Qcy {S:Type} (Y:S->Int×Qr->Option (S⊕S)) (s_:S) (l_:List Qr):Option (S⊕S):=(Qz (λ(s0:Int×S)=>((if (decide (s0.1>=0))=true then none else (some (.inr (.inl s0.2)))):Option ((Int×S)⊕(S⊕S)))) ((i64.wrap ((l_.length:Int) - 1)),s_))
theorem QjA {S:Type} {Y:S->Int×Qr->Option (S⊕S)} {s_:S} {l_:List Qr} {r:S⊕S} (h:Qcy Y s_ l_=some r):Qol prog 159 [tptr ((rSl Qo).cs l_)] (λi=>.int .i64 i.1) (λi=>val59 i.2) Y s_ r:=by
 intro l W g0 hY;refine⟨λ_=>ttup [],?_⟩;unfold Qcy at h;refine fe func159 ntmps159 λM0 M w0 a hpl H=>?_;refine wp_seq_k (λK0 k0=>?_);refine wr mx [] H (λ_=>.o (Qw (R:=(rSl Qo)) (u:=l_) Qiw z1)<|.o (Q1 ud24 z0)<|.o (Qdv z0 .k)<|.o (Qc z0)<|.n) λ_ a w H=>?_;have H:=H.t3_1 [3,4,5];refine k0 _ _ ?_;clear k0 K0;refine wp_block ?_;refine Qag _ (λ(s0:Int×S) a w=>∃g:Value,St M w0 19 [(3,ti s0.1),(0,tv (.func (.yield l) #[] #[])),(1,tptr ((rSl Qo).cs l_))] [W (.inl s0.2) g] a w) _ _ h ⟨g0,H⟩ ?_;clear h;intro s0 o a w K1 hI h ho k1;obtain⟨g1,H⟩:=hI;refine wp_seq_k (λ_ k2=>?_);refine wp_seq_k (λK2 k3=>?_);refine wr mx [] H (λ_=>.q 0 rfl<|.o (QfC z0 .k)<|.n) λ_ a w H=>?_;have H:=H.t4_1 [1,2,3,4];refine k3 _ _ ?_;clear k3 K2;refine wi H h (λb0 h=>?_) (λb0 h=>?_)
 ·cases h
 refine wp_exit ?_;obtain rfl:=ho _ (sj h).symm;exact QeU g1 [0] hpl H rfl .nil rfl rfl rfl
theorem Qkw {l_:List Qr}:FnOk prog 127 [tsl Qo l_] [] (λ_=>[]) (λ_=>Qcc 159 [tptr ((rSl Qo).cs l_)]):=by
 refine fe func127 ntmps127 λM0 M w0 a hpl H=>?_;refine wp_seq_k (λK0 k0=>?_);refine wr mx [] H (λ_=>.o (Q9 (R:=(rSl Qo)) (u:=l_) z0)<|.o (Qc .k)<|.n) λ_ a w H=>?_;have H:=H.t1_0 [0];refine k0 _ _ ?_;clear k0 K0;refine wp_seq_k (λ_ k1=>?_);refine wr mx [] H (λ_=>.o (Qjk (.cons z0<|.nil))<|.o (Qc z0)<|.n) λ_ a w H=>?_;have H:=H.t1_0 [1];refine k1 _ _ ?_;refine wp_ret ?_;exact rt undef [] hpl H (.tmp z0 .nil)

/- Go functions as Lean functions, and the proofs that they compute them, written by a program. No condition. -/
import Derived.Test.YtlajingmjmnfgaaGreatDoorGenH
set_option linter.all false
open List Go.Proofs.Tryz Go.IntKind
namespace Go.Proofs.YtlajingmjmnfgaaGreatDoor
noncomputable section
open Go.Sim
set_option maxRecDepth 100000
set_option maxHeartbeats 4000000
def QdW (a_:(List Str)) (b_:(List Str)):Option (Bool):=(if ((a_.length:Int) !=(b_.length:Int))=true then (some false) else (Ql (fun (s0:Int)=>((if (decide (s0<(a_.length:Int)))=true then (idx a_ s0).bind fun t0=>(idx b_ s0).bind fun t1=>(if (t0 !=t1)=true then (some (.inr (.inr false))) else (some (.inl (i64.wrap (s0+1))))) else (some (.inr (.inl ())))):Option ((Int)⊕((Unit)⊕(Bool))))) (0:Int)).bind fun e0=>(match e0 with | .inl _=>(some true) | .inr p0=>(some p0)))
instance Qlz:Spc2 prog 20 QdW (fun a_ b_=>[tsl rS a_,tsl rS b_]) tb:=.mk fun {a_ b_ r} h=>by
 unfold QdW at h
 refine Fe func20 ntmps20 fun M0 M w0 hpl=>?_
 refine Qb [1,2] ?_
 refine tIfs h [4,5,6] (fun _ h=>?_) (fun _ h=>?_)
 ·refine Qb [0] ?_
  exact Qu h (·▸Qq hpl)
 refine Qk fun K0 k0=>?_
 refine Qb [0,2,3] ?_
 have⟨e0,h0,h⟩:=bs h
 have J0:∀(p0:Unit),(.inl p0)=e0→To M w0 26 [] [] K0:=by
  intro p0 he;subst he;simp only at h;refine k0 ?_;refine Qb [0] ?_;exact Qu h (·▸Qq hpl)
 have J1:∀(p1:Bool),(.inr p1)=e0→To M w0 26 [(4,tb p1)] [] (Ret prog f20 M0 [] w0 (fun _=>[]) (fun _=>tb r) .ret):=by
  intro p1 he;subst he;simp only at h;obtain rfl:=sj h;exact Qq hpl
 refine Qs ?_;refine QaK h0 (fun (s0:Int)=>[(5,ti s0),(0,tsl rS a_),(1,tsl rS b_)]) (fun (s0:Int)=>[]) [0,1,2] ?_;clear h;intro s0 o K1 h ho k1;refine Qk fun _ k2=>?_;refine Qb [3,4,5,6] ?_;refine Qx h (fun _ h=>?_) (fun _ h=>?_)
 ·refine QE ?_;refine k2 ?_;refine Qk fun _ k3=>?_;refine Qs ?_;have⟨_,_,_,_,h⟩:=bs2 h;refine Qb [8,10,11,12] ?_;refine Qx h (fun _ h=>?_) (fun _ h=>?_)
  ·refine Qb [0] ?_;refine QaV ?_;exact QM J1 (ho _ (sj h).symm) [0]
  refine QE ?_;refine k3 ?_;refine Q4 [2,4,5] ?_;exact QM k1 ((sj h).symm) [0,1,2]
 refine Q7 ?_;exact QM J0 (ho _ (sj h).symm) []
def Qb1 (s_:(List Str)) (v_:Str):Option (Int):=(Ql (fun (s0:Int)=>((if (decide (s0<(s_.length:Int)))=true then (idx s_ s0).bind fun t0=>(if (v_==t0)=true then (some (.inr (.inr s0))) else (some (.inl (i64.wrap (s0+1))))) else (some (.inr (.inl ())))):Option ((Int)⊕((Unit)⊕(Int))))) (0:Int)).bind fun e0=>(match e0 with | .inl _=>(some (-1:Int)) | .inr p0=>(some p0))
instance Qsq:Spc2 prog 44 Qb1 (fun s_ v_=>[tsl rS s_,tv (.string (sB v_))]) ti:=.mk fun {s_ v_ r} h=>by
 unfold Qb1 at h
 refine Fe func44 ntmps44 fun M0 M w0 hpl=>?_
 refine Qb [1,2] ?_
 refine Qk fun K0 k0=>?_
 refine Qb [1,2,3,4] ?_
 have⟨e0,h0,h⟩:=bs h
 have J0:∀(p0:Unit),(.inl p0)=e0→To M w0 19 [] [] K0:=by
  intro p0 he;subst he;simp only at h;refine k0 ?_;refine Qb [0] ?_;exact Qu h (·▸Qq hpl)
 have J1:∀(p1:Int),(.inr p1)=e0→To M w0 19 [(4,ti p1)] [] (Ret prog f44 M0 [] w0 (fun _=>[]) (fun _=>ti r) .ret):=by
  intro p1 he;subst he;simp only at h;obtain rfl:=sj h;exact Qq hpl
 refine Qs ?_;refine QaK h0 (fun (s0:Int)=>[(7,ti (s_.length:Int)),(8,ti s0),(0,tsl rS s_),(1,tv (.string (sB v_)))]) (fun (s0:Int)=>[]) [0,1,2,3] ?_;clear h;intro s0 o K1 h ho k1;refine Qb [0,1,2,3,4] ?_;refine Qk fun _ k2=>?_;refine Qx h (fun _ h=>?_) (fun _ h=>?_)
 ·refine QE ?_;refine k2 ?_;refine Qk fun _ k3=>?_;refine Qs ?_;refine Qb [1,3,4,5,6] ?_;have⟨_,_,h⟩:=bs h;refine Qb [5,6,7,8,9,10] ?_;refine Qx h (fun _ h=>?_) (fun _ h=>?_)
  ·refine Qb [1] ?_;refine QaV ?_;exact QM J1 (ho _ (sj h).symm) [0]
  refine QE ?_;refine k3 ?_;refine Q4 [1,4,5,6] ?_;exact QM k1 ((sj h).symm) [1,0,2,3]
 refine Q7 ?_;exact QM J0 (ho _ (sj h).symm) []
def QeA (s_:(List Int)) (v_:Int):Option (Int):=(Ql (fun (s0:Int)=>((if (decide (s0<(s_.length:Int)))=true then (idx s_ s0).bind fun t0=>(if (v_==t0)=true then (some (.inr (.inr s0))) else (some (.inl (i64.wrap (s0+1))))) else (some (.inr (.inl ())))):Option ((Int)⊕((Unit)⊕(Int))))) (0:Int)).bind fun e0=>(match e0 with | .inl _=>(some (-1:Int)) | .inr p0=>(some p0))
instance Qvb:Spc2 prog 155 QeA (fun s_ v_=>[tsl rI s_,ti v_]) ti:=.mk fun {s_ v_ r} h=>by
 unfold QeA at h
 refine Fe func155 ntmps155 fun M0 M w0 hpl=>?_
 refine Qb [1,2] ?_
 refine Qk fun K0 k0=>?_
 refine Qb [1,2,3,4] ?_
 have⟨e0,h0,h⟩:=bs h
 have J0:∀(p0:Unit),(.inl p0)=e0→To M w0 19 [] [] K0:=by
  intro p0 he;subst he;simp only at h;refine k0 ?_;refine Qb [0] ?_;exact Qu h (·▸Qq hpl)
 have J1:∀(p1:Int),(.inr p1)=e0→To M w0 19 [(4,ti p1)] [] (Ret prog f155 M0 [] w0 (fun _=>[]) (fun _=>ti r) .ret):=by
  intro p1 he;subst he;simp only at h;obtain rfl:=sj h;exact Qq hpl
 refine Qs ?_;refine QaK h0 (fun (s0:Int)=>[(7,ti (s_.length:Int)),(8,ti s0),(0,tsl rI s_),(1,ti v_)]) (fun (s0:Int)=>[]) [0,1,2,3] ?_;clear h;intro s0 o K1 h ho k1;refine Qb [0,1,2,3,4] ?_;refine Qk fun _ k2=>?_;refine Qx h (fun _ h=>?_) (fun _ h=>?_)
 ·refine QE ?_;refine k2 ?_;refine Qk fun _ k3=>?_;refine Qs ?_;refine Qb [1,3,4,5,6] ?_;have⟨_,_,h⟩:=bs h;refine Qb [5,6,7,8,9,10] ?_;refine Qx h (fun _ h=>?_) (fun _ h=>?_)
  ·refine Qb [1] ?_;refine QaV ?_;exact QM J1 (ho _ (sj h).symm) [0]
  refine QE ?_;refine k3 ?_;refine Q4 [1,4,5,6] ?_;exact QM k1 ((sj h).symm) [1,0,2,3]
 refine Q7 ?_;exact QM J0 (ho _ (sj h).symm) []
def Qdv (s_:(List Int)) (v_:Int):Option (Bool):=(QeA s_ v_).bind fun t0=>(some (decide (t0≥0)))
instance Qsr:Spc2 prog 103 Qdv (fun s_ v_=>[tsl rI s_,ti v_]) tb:=.mk fun {s_ v_ r} h=>by
 unfold Qdv at h
 refine Fe func103 ntmps103 fun M0 M w0 hpl=>?_
 refine Qb [1,2] ?_
 have⟨_,_,h⟩:=bs h
 refine Qb [4] ?_
 exact Qu h (·▸Qq hpl)
def QaM (i_:Int) (c0_:(List Int)):Option (Bool):=(Qdv c0_ i_).bind fun t0=>(some t0)
instance QkB:Spc2 prog 102 QaM (fun i_ c0_=>[ti i_,tptr ((rSl rI).cs c0_)]) tb:=.mk fun {i_ c0_ r} h=>by
 unfold QaM at h
 refine Fe func102 ntmps102 fun M0 M w0 hpl=>?_
 refine Qb [1,2] ?_
 have⟨_,_,h⟩:=bs h
 refine Qb [3] ?_
 exact Qu h (·▸Qq hpl)
def Qcy (i_:Int) (c0_:(Int→Option Bool)) (c1_:QaX):Option (Bool):=(c0_ (i64.wrap ((c1_.limits.length:Int)+i_))).bind fun t0=>(some t0)
instance QkC:Spc3 prog 104 Qcy (fun i_ c0_ c1_=>[ti i_,tptr (rF81.cs c0_),tptr ((rPtr QS).cs c1_)]) tb:=.mk fun {i_ c0_ c1_ r} h=>by
 unfold Qcy at h
 refine Fe func104 ntmps104 fun M0 M w0 hpl=>?_
 refine Qb [1,2,3] ?_
 have⟨_,_,h⟩:=bs h
 refine Qb [9] ?_
 exact Qu h (·▸Qq hpl)
def Qel (k_:Int) (c0_:QaX) (c1_:(Int→Option Bool)):Option (Bool):=(QcJ c0_ k_ c1_).bind fun t0=>(some (!t0.isEmpty))
instance Quw:Spc3 prog 105 Qel (fun k_ c0_ c1_=>[ti k_,tptr ((rPtr QS).cs c0_),tptr (rF81.cs c1_)]) tb:=.mk fun {k_ c0_ c1_ r} h=>by
 unfold Qel at h
 refine Fe func105 ntmps105 fun M0 M w0 hpl=>?_
 refine Qb [1,2,3] ?_
 have⟨_,_,h⟩:=bs h
 refine Qb [5] ?_
 exact Qu h (·▸Qq hpl)
def QcY (s_:QaX) (some_:(List Int)):Option (Bool):=(QaD s_ (fun x0=>QaM x0 some_) (fun x0=>Qel x0 s_ (fun x0=>Qcy x0 (fun x0=>QaM x0 some_) s_))).bind fun t0=>(some t0)
instance QhV:Spc2 prog 45 QcY (fun s_ some_=>[tptr (QS.cs s_),tsl rI some_]) tb:=.mk fun {s_ some_ r} h=>by
 unfold QcY at h
 refine Fe func45 ntmps45 fun M0 M w0 hpl=>?_
 refine Qb [0,1] ?_
 intro a w H
 refine sr mx [v1 1 (fun v0=>box [tvs .nilFunc] v0),v1 1 (fun v0=>box (rF81.cs (fun x0=>QaM x0 some_)) v0)] H (fun _=>.o (Qg9 (.cons z1<|.nil))<|.m [] [0] rfl rfl rfl (QaP (R:=rVal) (a:=.nilFunc) Qtg zokPf)<|.e [] [0] [1] rfl rfl rfl rfl (QaB (R:=rF81) (a:=(fun x0=>QaM x0 some_)) Quh z0 (Fct.weak z1 (QeK QsX (fun _ _ hq=>QkB.ok hq))) (leb rfl))<|.n) fun _ a w H=>?_
 replace H:St _ _ _ [_,_] [] _ _:=(((H.pick [1,2]).shareB 0 rfl).add 0 rfl (fun _ _ _ h=>h.2)).pick [0,3]
 refine Q2 H ?_
 intro a w H
 refine sr mx [v1 1 (fun v0=>box [tvs .nilFunc] v0),v1 1 (fun v0=>box (rF81.cs (fun x0=>Qcy x0 (fun x0=>QaM x0 some_) s_)) v0)] H (fun _=>.o (Qg9 (.cons z0<|.cons z1<|.nil))<|.m [] [0] rfl rfl rfl (QaP (R:=rVal) (a:=.nilFunc) Qtg zokPf)<|.e [] [0] [1] rfl rfl rfl rfl (QaB (R:=rF81) (a:=(fun x0=>Qcy x0 (fun x0=>QaM x0 some_) s_)) Quh z0 (Fct.weak z1 (QeK QsY (fun _ _ hq=>QkC.ok hq))) (leb rfl))<|.n) fun _ a w H=>?_
 replace H:St _ _ _ [_,_,_] [] _ _:=(((H.pick [1,2,3]).shareB 0 rfl).add 0 rfl (fun _ _ _ h=>h.2)).pick [0,3,4]
 refine Q2 H ?_
 have⟨_,_,h⟩:=bs h
 refine Qb [4] ?_
 exact Qu h (·▸Qq hpl)
def Qgu (x_:Qa) (names_:(List Str)):Option (Int):=(Qfw x_).bind fun t0=>(if (t0.2 !=0)=true then (some t0.2) else (Qfx x_).bind fun t1=>(if (decide ((t1.limits.length:Int)>16))=true then (some (4:Int)) else (Ql (fun (s0:Int×List Int)=>((if (decide (s0.1<(names_.length:Int)))=true then (idx names_ s0.1).bind fun t2=>(Qb1 t0.1 t2).bind fun t3=>(opt (((decide (t3<0))==false)&&((decide ((s0.2.length:Int)>0))==true)) (idx s0.2 (i64.wrap ((s0.2.length:Int) - 1))) default).bind fun t4=>(if ((decide (t3<0))||((decide ((s0.2.length:Int)>0))&&(decide (t3≤t4))))=true then (some (.inr (.inr (12:Int)))) else (rm (s0.2.length+[t3].length)).bind fun _=>(some (.inl ((i64.wrap (s0.1+1)),(s0.2++[t3]))))) else (some (.inr (.inl s0.2)))):Option ((Int×List Int)⊕((List Int)⊕(Int))))) ((0:Int),([]:List Int))).bind fun e0=>(match e0 with | .inl p0=>(QcY t1 p0).bind fun t5=>(if t5=true then (some (15:Int)) else (Ql (fun (s1:Int)=>((if (decide (s1<(p0.length:Int)))=true then (QcK p0).bind fun t6=>(Qef t6 s1 (i64.wrap (s1+1))).bind fun t7=>(QcY t1 t7).bind fun t8=>(if (!t8)=true then (some (.inr (.inr (15:Int)))) else (some (.inl (i64.wrap (s1+1))))) else (some (.inr (.inl ())))):Option ((Int)⊕((Unit)⊕(Int))))) (0:Int)).bind fun e1=>(match e1 with | .inl _=>(some (0:Int)) | .inr p1=>(some p1))) | .inr p2=>(some p2))))
instance Qp7:SpcS prog 11 (∀{x_:Qa} {names_:(List Str)} {r:Int},Qgu x_ names_=some r→FnOk prog 11 [Qf.ty x_,tsl rS names_] [glo] (fun _=>[]) (fun _=>ti r)):=.mk fun {x_ names_ r} h=>by
 unfold Qgu at h
 refine Fe func11 ntmps11 fun M0 M w0 hpl=>?_
 refine Qb [0,3] ?_
 have⟨t0,_,h⟩:=bs h
 refine Qb [5,6,7,8] ?_
 refine tIfs h [1,2,3,4,5] (fun _ h=>?_) (fun _ h=>?_)
 ·refine Qb [1] ?_
  exact Qu h (·▸Qq hpl)
 have⟨t1,_,h⟩:=bs h
 refine Qb [2,4,7] ?_
 refine tIfs h [5,6,7,8] (fun _ h=>?_) (fun _ h=>?_)
 ·refine Qb [0] ?_
  exact Qu h (·▸Qq hpl)
 refine Qb [0,2,3,4] ?_
 refine Qaa (fun _ _ H=>H.nil (rI) 3) ?_
 refine Qk fun K0 k0=>?_
 refine Qb [0,1,2,3,4,5] ?_
 have⟨e0,h0,h⟩:=bs h
 have J0:∀(p0:List Int) (y0:Value),(.inl p0)=e0→To M w0 78 [(8,tv y0),(7,tptr (QS.cs t1))] [own rI 3 p0 y0,glo] K0:=by
  intro p0 y0 he;subst he;simp only at h;refine k0 ?_;refine Qk fun _ k1=>?_;have⟨t2,h1,h⟩:=bs h;intro a w H;refine sr mx [] H (fun _=>.q 1 rfl<|.q 1 rfl<|.u [0] rfl rfl (Qdy [own rI 3 p0 y0] Qq1 (QhV.ok h1) (.cons (.of z1)<|.cons (.own z0 (.head _))<|.nil) (fun _=>Qcd) (fun _=>Qgl (x:=undef)))<|.n) fun _ a w H=>?_;have H:=H.t4_2 [1,2,3,4];refine Q2 H ?_;refine Qgp 1 (fun b0=>?_) (fun b0=>?_)
  ·replace h:=QcM b0 h;refine Qb [0,1,3] ?_;exact Qu h (·▸Qq hpl)
  replace h:=QcN b0 h;refine QE ?_;refine k1 ?_;refine Qk fun K1 k2=>?_;refine Qb [0,1,2,3,5,6] ?_;have⟨e1,h2,h⟩:=bs h;have J1:∀(p1:Unit),(.inl p1)=e1→To M w0 78 [] [glo] K1:=by
   intro p1 he;subst he;simp only at h;refine k2 ?_;refine Qb [0] ?_;exact Qu h (·▸Qq hpl)
  have J2:∀(p2:Int),(.inr p2)=e1→To M w0 78 [(4,ti p2)] [glo] (Ret prog f11 M0 [glo] w0 (fun _=>[]) (fun _=>ti r) .ret):=by
   intro p2 he;subst he;simp only at h;obtain rfl:=sj h;exact Qq hpl
  refine Qs ?_;refine QaK h2 (fun (s0:Int)=>[(64,ti (p0.length:Int)),(65,ti s0),(8,tv y0),(7,tptr (QS.cs t1))]) (fun (s0:Int)=>[own rI 3 p0 y0,glo]) [1,2,4,5] ?_;clear h;intro s0 o K2 h ho k3;refine Qb [0,1,2,3,4] ?_;refine Qk fun _ k4=>?_;refine Qx h (fun _ h=>?_) (fun _ h=>?_)
  ·refine QE ?_;refine k4 ?_;refine Qk fun _ k5=>?_;refine Qs ?_;refine Qb [1,3,4,5,6] ?_;have⟨t3,h3,_,h4,t4,h5,h⟩:=bs3 h;intro a w H;refine sr mx [v1 2 (fun v0=>own rI 3 t3 v0)] H (fun _=>.q 4 rfl<|.q 4 rfl<|.m [0] [2] rfl rfl rfl (Qdy [own rI 3 p0 y0] Qq2 (Qhp.ok h3) (.cons (.own z0 (.head _))<|.nil) (fun _=>Qcd) (fun _=>Qvg (QqC (by intro x T h;simp at h;(first | (subst h;exact Qcd) | (rcases h with h | h | h<;>subst h<;>exact Qcd))))))<|.q 3 rfl<|.q 4 rfl<|.o (Qao z0 .k)<|.e [] [2] [] rfl rfl rfl rfl (QG Qv4 ((Qkx h4).roE Qz5) (.cons (.of z3)<|.cons (.of z2)<|.cons (.of z0)<|.nil))<|.o (QG Qq1 (QhV.ok h5) (.cons (.of z6)<|.cons (.of z0)<|.nil))<|.o (QiG z0)<|.n) fun _ a w H=>?_;have H:=H.t6_2 [1,8,10,11,12,13];refine Q2 H ?_;refine Qgp 1 (fun b1=>?_) (fun b1=>?_)
   ·replace h:=QcM b1 h;refine Qb [0,1,5] ?_;refine QaV ?_;refine Qar (fun _ _ H=>(H.pick [0]).selA [1] rfl) ?_;exact QM J2 (ho _ (sj h).symm) [0]
   replace h:=QcN b1 h;refine QE ?_;refine k5 ?_;refine Q4 [1,2,4,5,6] ?_;exact QM k3 ((sj h).symm) [2,0,3,4]
  refine Q7 ?_;refine Qar (fun _ _ H=>(H.pick []).selA [1] rfl) ?_;exact QM J1 (ho _ (sj h).symm) []
 have J3:∀(p3:Int),(.inr p3)=e0→To M w0 78 [(4,ti p3)] [glo] (Ret prog f11 M0 [glo] w0 (fun _=>[]) (fun _=>ti r) .ret):=by
  intro p3 he;subst he;simp only at h;obtain rfl:=sj h;exact Qq hpl
 refine Qs ?_;refine Qa6 h0 (fun (s1:Int×List Int) (y1:Value)=>[(29,tsl rS names_),(30,ti (names_.length:Int)),(31,ti s1.1),(8,tv y1),(7,tptr (QS.cs t1)),(5,tsl rS t0.1)]) (fun (s1:Int×List Int) (y1:Value)=>[own rI 3 s1.2 y1,glo]) (.slice none 0 0) [0,1,2,3,4,5] ?_;clear h;intro s1 y1 o K3 h ho k6;refine Qb [0,1,2,3,4,5,6] ?_;refine Qk fun _ k7=>?_;refine Qx h (fun _ h=>?_) (fun _ h=>?_)
 ·refine QE ?_;refine k7 ?_;refine Qk fun _ k8=>?_;refine Qs ?_;have⟨_,_,h⟩:=bs h;refine Qb [2,4,5,6,7,8,9] ?_;have⟨t5,_,h⟩:=bs h;refine Qb [3,5,6,7,8,9,10] ?_;have⟨_,_,h⟩:=bs h;refine tIfs h [16,17,18,19,20,21,22,23] (fun _ h=>?_) (fun _ h=>?_)
  ·refine Qb [0,6] ?_;refine QaV ?_;refine Qar (fun _ _ H=>(H.pick [0]).selA [1] rfl) ?_;exact QM J3 (ho _ (sj h).symm) [0]
  have⟨_,_,h⟩:=bs h;refine QaY [v1 3 (fun v0=>own rI 3 (s1.2++[t5]) v0)] [4] [3,4,7,8,9,10,11] fun m0=>?_;refine k8 ?_;refine Q4 [1,2,3,4,5,6,7] ?_;refine Qar (fun _ _ H=>(H.pick [3,4,0,2,5,6]).selA [1,0] rfl) ?_;exact Qae k6 (m0 3) ((sj h).symm) [0,1,2,3,4,5]
 refine Q7 ?_;exact Qae J0 y1 (ho _ (sj h).symm) [4,5]
def QeV:Option (Bool):=(QcX (1:Int)).bind fun t0=>(QfU t0).bind fun t1=>(QcX (0:Int)).bind fun t2=>(QfU t2).bind fun t3=>(opt (((t1.2==0)&&(t3.2==6))==true) (QdW t1.1 [([97,32,108,101,97,115,116]:Str),([97,46,110,32,104,105,103,104]:Str),([114,117,108,101,58,114]:Str)]) default).bind fun t4=>(opt ((((t1.2==0)&&(t3.2==6))&&t4)==true) (QcX (1:Int)) default).bind fun t5=>(opt ((((t1.2==0)&&(t3.2==6))&&t4)==true) (Qgu t5 t1.1) default).bind fun t6=>(some ((((t1.2==0)&&(t3.2==6))&&t4)&&(t6==0)))
instance QoH:SpcS prog 13 (∀{r:Bool},QeV=some r→FnOk prog 13 [] [glo] (fun _=>[]) (fun _=>tb r)):=.mk fun {r} h=>by
 unfold QeV at h
 refine Fe func13 ntmps13 fun M0 M w0 hpl=>?_
 refine Qb [] ?_
 have⟨_,_,t0,_,h⟩:=bs2 h
 refine Qb [5,6] ?_
 have⟨_,_,t1,_,h⟩:=bs2 h
 refine Qb [6,7,8] ?_
 have⟨t2,h0,_,h1,t3,h2,h⟩:=bs3 h
 intro a w H
 refine sr mx [] H (fun _=>.q 2 rfl<|.o (Qct z0 .k)<|.q 0 rfl<|.g rfl rfl bq0 (fun _=>Qad z3)<|.g rfl rfl bq1 (fun hc=>Qct (.cond z0 hc) .k)<|.o (Qcj z2 (fun hp=>(.cond z0 (beqT hp))))<|.q 0 rfl<|.g rfl rfl bq0 (fun _=>Qad z8)<|.g rfl rfl bq1 (fun _=>Qah (R:=rS) (us:=[([97,32,108,101,97,115,116]:Str),([97,46,110,32,104,105,103,104]:Str),([114,117,108,101,58,114]:Str)]) ud25 tok9 (.cons .k<|.cons .k<|.cons .k<|.nil _) rfl (leb rfl))<|.g rfl rfl bq2 (fun hc=>QG QvX (Qlz.ok (Qex h0 hc)) (.cons (.of (.cond z1 hc))<|.cons (.of (.cond z0 hc))<|.nil))<|.o (Qcj z3 (fun hp=>(.cond z0 (beqT hp))))<|.q 0 rfl<|.g rfl rfl bq0 (fun hc=>QG Qv5 (QmW.ok (Qex h1 hc)) (.cons (.of .k)<|.nil))<|.g rfl rfl bq1 (fun _=>Qad z14)<|.gu [0] rfl rfl rfl bq2 (fun hc=>(QG QvU (Qp7.ok (Qex h2 hc)) (.cons (.of (.cond z1 hc))<|.cons (.of (.cond z0 hc))<|.nil)).glo)<|.g rfl rfl bq3 (fun hc=>Qct (.cond z0 hc) .k)<|.o (Qcj z4 (fun hp=>(.cond z0 (beqT hp))))<|.o (Qi z0)<|.n) fun _ a w H=>?_
 have H:=H.t1_1 [17]
 refine Q2 H ?_
 exact Qu h (·▸Qq hpl)
def Qdb (k_:Qg) (name_:Str):Option (Int):=(Ql (fun (s0:Int)=>((if (decide (s0<(k_.Fields.length:Int)))=true then (idx k_.Fields s0).bind fun t0=>(if (t0.Name==name_)=true then (some (.inr (.inr s0))) else (some (.inl (i64.wrap (s0+1))))) else (some (.inr (.inl ())))):Option ((Int)⊕((Unit)⊕(Int))))) (0:Int)).bind fun e0=>(match e0 with | .inl _=>(some (-1:Int)) | .inr p0=>(some p0))
instance QBJ:Spc2 prog 85 Qdb (fun k_ name_=>[Qh.ty k_,tv (.string (sB name_))]) ti:=.mk fun {k_ name_ r} h=>by
 unfold Qdb at h
 refine Fe func85 ntmps85 fun M0 M w0 hpl=>?_
 refine Qb [0,3] ?_
 refine Qk fun K0 k0=>?_
 refine Qb [0,1,2] ?_
 have⟨e0,h0,h⟩:=bs h
 have J0:∀(p0:Unit),(.inl p0)=e0→To M w0 22 [] [] K0:=by
  intro p0 he;subst he;simp only at h;refine k0 ?_;refine Qb [0] ?_;exact Qu h (·▸Qq hpl)
 have J1:∀(p1:Int),(.inr p1)=e0→To M w0 22 [(4,ti p1)] [] (Ret prog f85 M0 [] w0 (fun _=>[]) (fun _=>ti r) .ret):=by
  intro p1 he;subst he;simp only at h;obtain rfl:=sj h;exact Qq hpl
 refine Qs ?_;refine QaK h0 (fun (s0:Int)=>[(5,ti s0),(2,tptr (Qh.cs k_)),(1,tv (.string (sB name_)))]) (fun (s0:Int)=>[]) [0,1,2] ?_;clear h;intro s0 o K1 h ho k1;refine Qk fun _ k2=>?_;refine Qb [4,5,6,7] ?_;refine Qx h (fun _ h=>?_) (fun _ h=>?_)
 ·refine QE ?_;refine k2 ?_;refine Qk fun _ k3=>?_;refine Qs ?_;have⟨_,_,h⟩:=bs h;refine Qb [7,9,10,11] ?_;refine Qx h (fun _ h=>?_) (fun _ h=>?_)
  ·refine Qb [1] ?_;refine QaV ?_;exact QM J1 (ho _ (sj h).symm) [0]
  refine QE ?_;refine k3 ?_;refine Q4 [2,4,5] ?_;exact QM k1 ((sj h).symm) [0,1,2]
 refine Q7 ?_;exact QM J0 (ho _ (sj h).symm) []
def Qgv (x_:Qa) (name_:Str):Option (Int):=(Ql (fun (s0:Int)=>((if (decide (s0<(x_.Kinds.length:Int)))=true then (idx x_.Kinds s0).bind fun t0=>(if (t0.Name==name_)=true then (some (.inr (.inr s0))) else (some (.inl (i64.wrap (s0+1))))) else (some (.inr (.inl ())))):Option ((Int)⊕((Unit)⊕(Int))))) (0:Int)).bind fun e0=>(match e0 with | .inl _=>(some (-1:Int)) | .inr p0=>(some p0))
instance QCv:Spc2 prog 86 Qgv (fun x_ name_=>[Qf.ty x_,tv (.string (sB name_))]) ti:=.mk fun {x_ name_ r} h=>by
 unfold Qgv at h
 refine Fe func86 ntmps86 fun M0 M w0 hpl=>?_
 refine Qb [0,3] ?_
 refine Qk fun K0 k0=>?_
 refine Qb [0,1,2] ?_
 have⟨e0,h0,h⟩:=bs h
 have J0:∀(p0:Unit),(.inl p0)=e0→To M w0 22 [] [] K0:=by
  intro p0 he;subst he;simp only at h;refine k0 ?_;refine Qb [0] ?_;exact Qu h (·▸Qq hpl)
 have J1:∀(p1:Int),(.inr p1)=e0→To M w0 22 [(4,ti p1)] [] (Ret prog f86 M0 [] w0 (fun _=>[]) (fun _=>ti r) .ret):=by
  intro p1 he;subst he;simp only at h;obtain rfl:=sj h;exact Qq hpl
 refine Qs ?_;refine QaK h0 (fun (s0:Int)=>[(5,ti s0),(2,tptr (Qf.cs x_)),(1,tv (.string (sB name_)))]) (fun (s0:Int)=>[]) [0,1,2] ?_;clear h;intro s0 o K1 h ho k1;refine Qk fun _ k2=>?_;refine Qb [4,5,6,7] ?_;refine Qx h (fun _ h=>?_) (fun _ h=>?_)
 ·refine QE ?_;refine k2 ?_;refine Qk fun _ k3=>?_;refine Qs ?_;have⟨_,_,h⟩:=bs h;refine Qb [7,9,10,11] ?_;refine Qx h (fun _ h=>?_) (fun _ h=>?_)
  ·refine Qb [1] ?_;refine QaV ?_;exact QM J1 (ho _ (sj h).symm) [0]
  refine QE ?_;refine k3 ?_;refine Q4 [2,4,5] ?_;exact QM k1 ((sj h).symm) [0,1,2]
 refine Q7 ?_;exact QM J0 (ho _ (sj h).symm) []
def QfV (x_:Qa):Option ((List QP)):=(Ql (fun (s0:Int×List QP)=>((if (decide (s0.1<(x_.Kinds.length:Int)))=true then (idx x_.Kinds s0.1).bind fun t0=>(Ql (fun (s1:Int×List QP)=>((if (decide (s1.1<(t0.Fields.length:Int)))=true then ((idx t0.Fields s1.1).bind fun t1=>(if ((t1.Kind !=2)&&(t1.Kind !=4))=true then (some s1.2) else ((if ((t1.Kind==4)&&(t1.Of !=([]:Str)))=true then (Qdb t0 t1.Of).bind fun t2=>(some t2) else (some (-1:Int)))).bind fun p0=>(cat (t0.Name.length+([46]:Str).length)).bind fun _=>(cat ((t0.Name++([46]:Str)).length+t1.Name.length)).bind fun _=>(cat (((t0.Name++([46]:Str))++t1.Name).length+([32,108,111,119]:Str).length)).bind fun _=>(rm (s1.2.length+[(QP.mk s0.1 (((t0.Name++([46]:Str))++t1.Name)++([32,108,111,119]:Str)) (Qz.mk p0 s1.1 (i64.wrap (0 - t1.Lo))))].length)).bind fun _=>(cat (((t0.Name++([46]:Str))++t1.Name).length+([32,104,105,103,104]:Str).length)).bind fun _=>(rm ((s1.2++[(QP.mk s0.1 (((t0.Name++([46]:Str))++t1.Name)++([32,108,111,119]:Str)) (Qz.mk p0 s1.1 (i64.wrap (0 - t1.Lo))))]).length+[(QP.mk s0.1 (((t0.Name++([46]:Str))++t1.Name)++([32,104,105,103,104]:Str)) (Qz.mk s1.1 p0 t1.Hi))].length)).bind fun _=>(some ((s1.2++[(QP.mk s0.1 (((t0.Name++([46]:Str))++t1.Name)++([32,108,111,119]:Str)) (Qz.mk p0 s1.1 (i64.wrap (0 - t1.Lo))))])++[(QP.mk s0.1 (((t0.Name++([46]:Str))++t1.Name)++([32,104,105,103,104]:Str)) (Qz.mk s1.1 p0 t1.Hi))])))).bind fun p1=>(some (.inl ((i64.wrap (s1.1+1)),p1))) else (some (.inr s1.2))):Option ((Int×List QP)⊕((List QP))))) ((0:Int),s0.2)).bind fun p2=>(some (.inl ((i64.wrap (s0.1+1)),p2))) else (some (.inr s0.2))):Option ((Int×List QP)⊕((List QP))))) ((0:Int),([]:List QP))).bind fun p3=>(Ql (fun (s2:Int×List QP)=>((if (decide (s2.1<(x_.Rules.length:Int)))=true then (idx x_.Rules s2.1).bind fun t3=>(Qgv x_ t3.Kind).bind fun t4=>(idx x_.Kinds t4).bind fun t5=>(Qdb t5 t3.A).bind fun t6=>(idx x_.Kinds t4).bind fun t7=>(Qdb t7 t3.B).bind fun t8=>(cat (([114,117,108,101,58]:Str).length+t3.Name.length)).bind fun _=>(rm (s2.2.length+[(QP.mk t4 (([114,117,108,101,58]:Str)++t3.Name) (Qz.mk t6 t8 t3.N))].length)).bind fun _=>(some (.inl ((i64.wrap (s2.1+1)),(s2.2++[(QP.mk t4 (([114,117,108,101,58]:Str)++t3.Name) (Qz.mk t6 t8 t3.N))])))) else (some (.inr s2.2))):Option ((Int×List QP)⊕((List QP))))) ((0:Int),p3)).bind fun p4=>(some p4)
instance QBK:Spc1 prog 26 QfV (fun x_=>[Qf.ty x_]) (tsl Q5):=.mk fun {x_ r} h=>by
 unfold QfV at h
 refine Fe func26 ntmps26 fun M0 M w0 hpl=>?_
 refine Qb [0] ?_
 refine Qb [0,1] ?_
 refine Qaa (fun _ _ H=>H.nil (Q5) 66) ?_
 refine Qk fun K0 k0=>?_
 refine Qb [0,1,2] ?_
 have⟨e0,h0,h⟩:=bs h
 have J0:∀(p0:List QP) (y0:Value),p0=e0→To M w0 134 [(3,tv y0),(1,tptr (Qf.cs x_))] [own Q5 66 p0 y0] K0:=by
  intro p0 y0 he;subst he;refine k0 ?_;refine Qk fun K1 k1=>?_;refine Qb [0,1,2] ?_;have⟨e1,h1,h⟩:=bs h;have J1:∀(p1:List QP) (y1:Value),p1=e1→To M w0 134 [(3,tv y1)] [own Q5 66 p1 y1] K1:=by
   intro p1 y1 he;subst he;refine k1 ?_;refine Qb [0,1,2] ?_;refine QaV ?_;refine Qar (by intro _ _ H;exact (H.shareO 1 rfl).pick [0]) ?_;obtain rfl:=sj h;exact Qq hpl
  refine Qs ?_;refine Qa6 h1 (fun (s0:Int×List QP) (y2:Value)=>[(10,ti s0.1),(3,tv y2),(1,tptr (Qf.cs x_))]) (fun (s0:Int×List QP) (y2:Value)=>[own Q5 66 s0.2 y2]) y0 [0,1,2] ?_;clear h;intro s0 y2 o K2 h ho k2;refine Qk fun _ k3=>?_;refine Qb [4,5,6,7] ?_;refine Qx h (fun _ h=>?_) (fun _ h=>?_)
  ·refine QE ?_;refine k3 ?_;refine Qk fun _ k4=>?_;refine Qs ?_;have⟨t0,_,h⟩:=bs h;refine QV [v1 5 (fun v0=>box (QF.cs zz3) v0),v1 5 (fun v0=>box (QF.cs t0) v0)] [6,7] [5,7,8,9] fun m0=>?_;refine Qaa (fun _ _ H=>(((H.selA [1,0] rfl).shareB 0 rfl).add 0 rfl (fun _ _ _ h=>h.2)).pick [0,3,4,5]) ?_;have⟨t1,_,h⟩:=bs h;refine Qb [4,5,6,7,8] ?_;have⟨_,h2,t2,_,h⟩:=bs2 h;replace h:=bk h2 h;have⟨t3,_,h⟩:=bs h;refine QV [v1 19 (fun v0=>box (Qaj.cs (Qz.mk (0:Int) (0:Int) (0:Int))) v0),v1 19 (fun v0=>box (Qaj.cs (Qz.mk t2 t3 t0.N)) v0)] [20,21] [19,20,21,22,23,24] fun m1=>?_;refine Qaa (fun _ _ H=>(((H.selA [1,0] rfl).shareB 0 rfl).add 0 rfl (fun _ _ _ h=>h.2)).pick [0,3,4,5,6,7]) ?_;have⟨_,h3,_,h4,h⟩:=bs2 h;intro a w H;refine wr mx [v1 8 (fun v0=>own Q5 66 (s0.2++[(QP.mk t1 (([114,117,108,101,58]:Str)++t0.Name) (Qz.mk t2 t3 t0.N))]) v0)] H (fun _=>.q 4 rfl<|.q 2 rfl<|.o (QO Qku z4)<|.o (QN (u:=t0.Name) tok9 z0 rfl)<|.o (Qfs .k z0 h3)<|.o (QU Qqd z5)<|.p (T:=Q5.ty (QP.mk t1 (([114,117,108,101,58]:Str)++t0.Name) (Qz.mk t2 t3 t0.N))) rfl (QaJ underlying66 pl66 zv66 zc66 (.cons (R:=rI) (u:=t1) rfl z4 (leb rfl)<|.cons (R:=rS) (u:=(([114,117,108,101,58]:Str)++t0.Name)) rfl z1 (leb rfl)<|.cons (R:=Qaj) (u:=(Qz.mk t2 t3 t0.N)) rfl z0 (leb rfl)<|.nil _))<|.o (Qah (R:=Q5) (us:=[(QP.mk t1 (([114,117,108,101,58]:Str)++t0.Name) (Qz.mk t2 t3 t0.N))]) ud60 Qjc (.cons z0<|.nil _) rfl (leb rfl))<|.e [] [0] [1] rfl rfl rfl rfl (QaL (R:=Q5) ud60 Qjc (leb rfl) z7 z0 h4)<|.ud (f:=fun v=>tv v) 8 rfl [] rfl rfl (Qi z0)<|.n) fun m2 a w H=>?_;have H:=H.t4_1 [8,9,13,14];refine QbD H ?_;refine k4 ?_;refine Q4 [2,3,4,5] ?_;exact Qae k2 (m2 8) ((sj h).symm) [0,2,3]
  refine Q7 ?_;exact Qae J1 y2 (ho _ (sj h).symm) [2]
 refine Qs ?_;refine Qa6 h0 (fun (s1:Int×List QP) (y3:Value)=>[(4,ti s1.1),(3,tv y3),(1,tptr (Qf.cs x_))]) (fun (s1:Int×List QP) (y3:Value)=>[own Q5 66 s1.2 y3]) (.slice none 0 0) [0,1,2] ?_;clear h;intro s1 y3 o K3 h ho k5;refine Qk fun _ k6=>?_;refine Qb [4,5,6,7] ?_;refine Qx h (fun _ h=>?_) (fun _ h=>?_)
 ·refine QE ?_;refine k6 ?_;refine Qk fun K4 k7=>?_;refine Qs ?_;have⟨t4,_,h⟩:=bs h;refine QV [v1 5 (fun v0=>box (Qh.cs zz1) v0),v1 5 (fun v0=>box (Qh.cs t4) v0)] [6,7] [5,7,8,9] fun m3=>?_;refine Qaa (fun _ _ H=>(((H.selA [1,0] rfl).shareB 0 rfl).add 0 rfl (fun _ _ _ h=>h.2)).pick [0,3,4,5]) ?_;refine Qb [0,1,2,3,4] ?_;have⟨e2,h5,h⟩:=bs h;have J2:∀(p2:List QP) (y4:Value),p2=e2→To M w0 134 [(4,ti s1.1),(3,tv y4),(1,tptr (Qf.cs x_))] [own Q5 66 p2 y4] K4:=by
   intro p2 y4 he;subst he;refine k7 ?_;refine Q4 [2,3,4] ?_;exact Qae k5 y4 ((sj h).symm) [0,1,2]
  refine Qs ?_;refine Qa6 h5 (fun (s2:Int×List QP) (y5:Value)=>[(6,ti s2.1),(5,tptr (Qh.cs t4)),(4,ti s1.1),(3,tv y5),(1,tptr (Qf.cs x_))]) (fun (s2:Int×List QP) (y5:Value)=>[own Q5 66 s2.2 y5]) y3 [0,1,2,3,4] ?_;clear h;intro s2 y5 o K5 h ho k8;refine Qk fun _ k9=>?_;refine Qb [4,5,6,7,8,9] ?_;refine Qx h (fun _ h=>?_) (fun _ h=>?_)
  ·refine QE ?_;refine k9 ?_;refine Qk fun K6 k10=>?_;have⟨p3,h6,h⟩:=bs h;have J3:∀(y6:Value),To M w0 134 [(6,ti s2.1),(5,tptr (Qh.cs t4)),(4,ti s1.1),(3,tv y6),(1,tptr (Qf.cs x_))] [own Q5 66 p3 y6] K6:=by
    intro y6;refine k10 ?_;refine Q4 [2,3,4,5,6] ?_;exact Qae k8 y6 ((sj h).symm) [0,1,2,3,4]
   replace h:=h6;clear h6;refine Qs ?_;have⟨t5,_,h⟩:=bs h;refine QV [v1 5 (fun v0=>box (Qd.cs zz0) v0),v1 5 (fun v0=>box (Qd.cs t5) v0)] [6,7] [5,7,8,9,10,11] fun m4=>?_;refine Qaa (fun _ _ H=>(((H.selA [1,0] rfl).shareB 0 rfl).add 0 rfl (fun _ _ _ h=>h.2)).pick [0,3,4,5,6,7]) ?_;refine tIfs h [7,8,9,10,11,12,13] (fun _ h=>?_) (fun _ h=>?_)
   ·refine Q7 ?_;obtain rfl:=sj h;exact Q3 (J3 y5) [2,3,4,5,6]
   refine Qb [0,2,3,4,5,6,7] ?_;refine Qk fun K7 k11=>?_;refine Qb [7,8,9,10,11,12,13,14] ?_;have⟨p4,h7,h⟩:=bs h;have J4:To M w0 134 [(8,ti p4),(7,tptr (Qd.cs t5)),(6,ti s2.1),(5,tptr (Qh.cs t4)),(4,ti s1.1),(3,tv y5),(1,tptr (Qf.cs x_))] [own Q5 66 s2.2 y5] K7:=by
    refine k11 ?_;have⟨_,_,_,_,h⟩:=bs2 h;refine Qb [6,7,8,9,10,11,12,13] ?_;have⟨_,h8,_,h9,h⟩:=bs2 h;intro a w H;refine sr mx [v1 12 (fun v0=>own Q5 66 (s2.2++[(QP.mk s1.1 (((t4.Name++([46]:Str))++t5.Name)++([32,108,111,119]:Str)) (Qz.mk p4 s2.1 (i64.wrap (0 - t5.Lo))))]) v0)] H (fun _=>.q 6 rfl<|.q 6 rfl<|.q 2 rfl<|.o (Qfs z0 .k h8)<|.q 5 rfl<|.q 8 rfl<|.o (QO Qmc z8)<|.o (QN (u:=t5.Lo) tok3 z0 rfl)<|.o (Qqv z0)<|.p (T:=Qaj.ty (Qz.mk p4 s2.1 (i64.wrap (0 - t5.Lo)))) rfl (QaJ underlying64 pl64 zv64 zc64 (.cons (R:=rI) (u:=p4) rfl z4 (leb rfl)<|.cons (R:=rI) (u:=s2.1) rfl z3 (leb rfl)<|.cons (R:=rI) (u:=(i64.wrap (0 - t5.Lo))) rfl z0 (leb rfl)<|.nil _))<|.p (T:=Q5.ty (QP.mk s1.1 (((t4.Name++([46]:Str))++t5.Name)++([32,108,111,119]:Str)) (Qz.mk p4 s2.1 (i64.wrap (0 - t5.Lo))))) rfl (QaJ underlying66 pl66 zv66 zc66 (.cons (R:=rI) (u:=s1.1) rfl z8 (leb rfl)<|.cons (R:=rS) (u:=(((t4.Name++([46]:Str))++t5.Name)++([32,108,111,119]:Str))) rfl z6 (leb rfl)<|.cons (R:=Qaj) (u:=(Qz.mk p4 s2.1 (i64.wrap (0 - t5.Lo)))) rfl z0 (leb rfl)<|.nil _))<|.o (Qah (R:=Q5) (us:=[(QP.mk s1.1 (((t4.Name++([46]:Str))++t5.Name)++([32,108,111,119]:Str)) (Qz.mk p4 s2.1 (i64.wrap (0 - t5.Lo))))]) ud60 Qjc (.cons z0<|.nil _) rfl (leb rfl))<|.e [] [0] [1] rfl rfl rfl rfl (QaL (R:=Q5) ud60 Qjc (leb rfl) z11 z0 h9)<|.ud (f:=fun v=>tv v) 12 rfl [] rfl rfl (Qi z0)<|.n) fun _ a w H=>?_;have H:=H.to [12,13,14,15,16,17,18,19,20] [_,_,_,_,_,_,_,_,_] [_] rfl rfl;refine Q2 H ?_;have⟨_,h10,_,h11,h⟩:=bs2 h;intro a w H;refine wr mx [v1 11 (fun v0=>own Q5 66 ((s2.2++[(QP.mk s1.1 (((t4.Name++([46]:Str))++t5.Name)++([32,108,111,119]:Str)) (Qz.mk p4 s2.1 (i64.wrap (0 - t5.Lo))))])++[(QP.mk s1.1 (((t4.Name++([46]:Str))++t5.Name)++([32,104,105,103,104]:Str)) (Qz.mk s2.1 p4 t5.Hi))]) v0)] H (fun _=>.q 1 rfl<|.q 8 rfl<|.q 4 rfl<|.o (Qfs z0 .k h10)<|.q 9 rfl<|.q 8 rfl<|.o (QO Qmd z10)<|.o (QN (u:=t5.Hi) tok3 z0 rfl)<|.p (T:=Qaj.ty (Qz.mk s2.1 p4 t5.Hi)) rfl (QaJ underlying64 pl64 zv64 zc64 (.cons (R:=rI) (u:=s2.1) rfl z3 (leb rfl)<|.cons (R:=rI) (u:=p4) rfl z2 (leb rfl)<|.cons (R:=rI) (u:=t5.Hi) rfl z0 (leb rfl)<|.nil _))<|.p (T:=Q5.ty (QP.mk s1.1 (((t4.Name++([46]:Str))++t5.Name)++([32,104,105,103,104]:Str)) (Qz.mk s2.1 p4 t5.Hi))) rfl (QaJ underlying66 pl66 zv66 zc66 (.cons (R:=rI) (u:=s1.1) rfl z7 (leb rfl)<|.cons (R:=rS) (u:=(((t4.Name++([46]:Str))++t5.Name)++([32,104,105,103,104]:Str))) rfl z5 (leb rfl)<|.cons (R:=Qaj) (u:=(Qz.mk s2.1 p4 t5.Hi)) rfl z0 (leb rfl)<|.nil _))<|.o (Qah (R:=Q5) (us:=[(QP.mk s1.1 (((t4.Name++([46]:Str))++t5.Name)++([32,104,105,103,104]:Str)) (Qz.mk s2.1 p4 t5.Hi))]) ud60 Qjc (.cons z0<|.nil _) rfl (leb rfl))<|.e [] [0] [1] rfl rfl rfl rfl (QaL (R:=Q5) ud60 Qjc (leb rfl) z10 z0 h11)<|.ud (f:=fun v=>tv v) 11 rfl [] rfl rfl (Qi z0)<|.n) fun m5 a w H=>?_;have H:=H.to [11,12,17,18,19,20] [_,_,_,_,_,_] [_] rfl rfl;refine QbD H ?_;obtain rfl:=sj h;exact Q3 (J3 (m5 11)) [2,3,4,1,5]
   replace h:=h7;clear h7;refine Qx h (fun _ h=>?_) (fun _ h=>?_)
   ·have⟨_,_,h⟩:=bs h;refine Q4 [4,6,7,8,9,10,11] ?_;obtain rfl:=sj h;exact Q3 J4 [0,1,2,3,4,5,6]
   refine QE ?_;obtain rfl:=sj h;exact Q3 J4 [1,2,3,4,5,6,7]
  refine Q7 ?_;exact Qae J2 y5 (ho _ (sj h).symm) [3,4,5]
 refine Q7 ?_;exact Qae J0 y3 (ho _ (sj h).symm) [2,3]
def QeW (n_:Int) (l_:(List Q0)):Option ((List (List Int))×Bool):=(mk (i64.wrap (n_+1)) ([]:(List Int))).bind fun t0=>(Ql (fun (s0:Int×List (List Int))=>((if (decide (s0.1<(t0.length:Int)))=true then (Qcx [(1099511627776:Int)] (i64.wrap (n_+1))).bind fun t1=>(setAt s0.2 s0.1 t1).bind fun w31s=>(idx w31s s0.1).bind fun r2=>(setAt r2 s0.1 (0:Int)).bind fun t2=>(setAt w31s s0.1 t2).bind fun m1106=>(some (.inl ((i64.wrap (s0.1+1)),m1106))) else (some (.inr s0.2))):Option ((Int×List (List Int))⊕((List (List Int)))))) ((0:Int),t0)).bind fun p0=>(Ql (fun (s1:Int×List (List Int))=>((if (decide (s1.1<(l_.length:Int)))=true then (idx l_ s1.1).bind fun t3=>(idx s1.2 t3.a).bind fun r3=>(idx r3 t3.b).bind fun t4=>(setAt r3 t3.b (imin t4 t3.n)).bind fun t5=>(setAt s1.2 t3.a t5).bind fun m1096=>(some (.inl ((i64.wrap (s1.1+1)),m1096))) else (some (.inr s1.2))):Option ((Int×List (List Int))⊕((List (List Int)))))) ((0:Int),p0)).bind fun p1=>(Ql (fun (s2:Int×List (List Int))=>((if (decide (s2.1<(p1.length:Int)))=true then (mk (i64.wrap (n_+1)) (0:Int)).bind fun t6=>(idx s2.2 s2.1).bind fun r4=>(Ql (fun (s3:Int×List (List Int))=>((if (decide (s3.1<(s2.2.length:Int)))=true then ((idx s3.2 s3.1).bind fun r5=>(idx s3.2 s3.1).bind fun r6=>(idx r6 s2.1).bind fun t7=>(if (decide (t7≥1099511627776))=true then (some s3.2) else (Ql (fun (s4:Int×List (List Int))=>((if (decide (s4.1<((cpy t6 r4).length:Int)))=true then (idx (cpy t6 r4) s4.1).bind fun t8=>((if (decide (t8<1099511627776))=true then (idx s4.2 s3.1).bind fun r7=>(idx r7 s4.1).bind fun t9=>(idx r7 s2.1).bind fun t10=>(setAt r7 s4.1 (imin t9 (i64.wrap (t10+t8)))).bind fun t11=>(setAt s4.2 s3.1 t11).bind fun m1083=>(some m1083) else (some s4.2))).bind fun p2=>(some (.inl ((i64.wrap (s4.1+1)),p2))) else (some (.inr s4.2))):Option ((Int×List (List Int))⊕((List (List Int)))))) ((0:Int),s3.2)).bind fun p3=>(some p3))).bind fun p4=>(some (.inl ((i64.wrap (s3.1+1)),p4))) else (some (.inr s3.2))):Option ((Int×List (List Int))⊕((List (List Int)))))) ((0:Int),s2.2)).bind fun p5=>(some (.inl ((i64.wrap (s2.1+1)),p5))) else (some (.inr s2.2))):Option ((Int×List (List Int))⊕((List (List Int)))))) ((0:Int),p1)).bind fun p6=>(Ql (fun (s5:Int)=>((if (decide (s5<(p6.length:Int)))=true then (idx p6 s5).bind fun r8=>(idx r8 s5).bind fun t12=>(if (decide (t12<0))=true then (some (.inr (.inr (false,([]:List (List Int)))))) else (some (.inl (i64.wrap (s5+1))))) else (some (.inr (.inl ())))):Option ((Int)⊕((Unit)⊕(Bool×List (List Int)))))) (0:Int)).bind fun e0=>(match e0 with | .inl _=>(some (p6,true)) | .inr p7=>(some (p7.2,p7.1)))
instance QmX:SpcS prog 88 (∀{n_:Int} {l_:(List Q0)} {r:(List (List Int))×Bool},QeW n_ l_=some r→FnOk prog 88 [ti n_,tsl QL l_] [] (fun v=>[own rVal 22 (tabU v) (tabV v),rows rI 3 r.1 (tabU v)]) (fun v=>ttup [tv (tabV v),tb r.2])):=.mk fun {n_ l_ r} h=>by
 unfold QeW at h
 refine Fe func88 ntmps88 fun M0 M w0 hpl=>?_
 refine Qb [2,3] ?_
 have⟨t0,h0,h⟩:=bs h
 intro a w H
 refine sr mx [v1 2 (fun v0=>own rVal 22 (replicate ((i64.wrap (n_+1))).toNat nilV) v0)] H (fun _=>.q 0 rfl<|.o (Qao z0 .k)<|.m [] [0] rfl rfl rfl (QxZ (α:=Int) ud68 Qau (leb rfl) z0 z0 h0)<|.ud (f:=fun v=>tv v) 2 rfl [] rfl rfl (Qi z0)<|.n) fun m0 a w H=>?_
 replace H:St _ _ _ [_,_,_,_] [_,_] _ _:=(H.pick [2,3,4,5]).rowsM (rI) 3 h0
 refine Q2 H ?_
 refine Qk fun K0 k0=>?_
 intro a w H
 refine sr mx [] H (fun _=>.q 1 rfl<|.u [1,0] rfl rfl (Ql2 ud68 z0)<|.o (Qad .k)<|.n) fun _ a w H=>?_
 have H:=H.t7_2 [0,1,2,3,4,5,6]
 refine Q2 H ?_
 have⟨e0,h1,h⟩:=bs h
 have J0:∀(p0:List (List Int)) (us30:List Value) (y0:Value),p0=e0→To M w0 136 [(6,tv y0),(0,ti n_),(1,tsl QL l_)] [rows rI 3 p0 us30,own rVal 22 us30 y0] K0:=by
  intro p0 us30 y0 he;subst he;refine k0 ?_;refine Qk fun K1 k1=>?_;refine Qb [0,1,2,3,4] ?_;have⟨e3,h2,h⟩:=bs h;have J1:∀(p1:List (List Int)),p1=e3→To M w0 136 [(6,tv y0),(0,ti n_)] [rows rI 3 p1 us30,own rVal 22 us30 y0] K1:=by
   intro p1 he;subst he;refine k1 ?_;refine Qk fun K2 k2=>?_;intro a w H;refine sr mx [] H (fun _=>.q 0 rfl<|.u [1,0] rfl rfl (Ql2 ud68 z0)<|.o (Qad .k)<|.n) fun _ a w H=>?_;have H:=H.t5_2 [0,1,2,3,4];refine Q2 H ?_;have⟨e4,h3,h⟩:=bs h;have J2:∀(p2:List (List Int)),p2=e4→To M w0 136 [(6,tv y0)] [rows rI 3 p2 us30,own rVal 22 us30 y0] K2:=by
    intro p2 he;subst he;refine k2 ?_;refine Qk fun K3 k3=>?_;intro a w H;refine sr mx [] H (fun _=>.q 0 rfl<|.u [1,0] rfl rfl (Ql2 ud68 z0)<|.o (Qad .k)<|.n) fun _ a w H=>?_;have H:=H.t4_2 [0,1,2,3];refine Q2 H ?_;have⟨e5,h4,h⟩:=bs h;have J3:∀(p3:Unit),(.inl p3)=e5→To M w0 136 [(6,tv y0)] [rows rI 3 p2 us30,own rVal 22 us30 y0] K3:=by
     intro p3 he;subst he;simp only at h;refine k3 ?_;refine Qb [0,1,2,3] ?_;exact Qu h (·▸QcD (tabX y0 us30) [1,0] hpl)
    have J4:∀(p4:Bool×List (List Int)) (us744:List Value) (y1:Value),(.inr p4)=e5→To M w0 136 [(4,tv y1),(5,tb p4.1)] [rows rI 3 p4.2 us744,own rVal 22 us744 y1] (Ret prog f88 M0 [] w0 (fun v=>[own rVal 22 (tabU v) (tabV v),rows rI 3 r.1 (tabU v)]) (fun v=>ttup [tv (tabV v),tb r.2]) .ret):=by
     intro p4 us744 y1 he;subst he;simp only at h;obtain rfl:=sj h;exact QcD (tabX y1 us744) [1,0] hpl
    refine Qs ?_;refine QaK h4 (fun (s0:Int)=>[(122,ti (p2.length:Int)),(123,ti s0),(6,tv y0)]) (fun (s0:Int)=>[rows rI 3 p2 us30,own rVal 22 us30 y0]) [1,2,3] ?_;clear h;intro s0 o K4 h ho k4;refine Qb [0,1,2,3] ?_;refine Qk fun _ k5=>?_;refine Qx h (fun _ h=>?_) (fun _ h=>?_)
    ·refine QE ?_;refine k5 ?_;refine Qk fun _ k6=>?_;refine Qs ?_;refine Qb [1,3,4,5] ?_;refine Qk fun _ k7=>?_;have⟨r2,h5,t1,h6,h⟩:=bs2 h;intro a w H;refine wr mx [] H (fun _=>.q 3 rfl<|.q 1 rfl<|.u [1,0] rfl rfl (Qdz ud68 Qau z1 z0 h5)<|.u [1,0] rfl rfl (Qec Qau z0 h5)<|.q 4 rfl<|.u [0] rfl rfl (Qf6 ud22 tok3 z1 z0 h5 h6)<|.u [0] rfl rfl (Qhs tok3 z0 h5 h6)<|.o (Qbt z0 .k)<|.n) fun _ a w H=>?_;have H:=H.t5_2 [0,7,9,10,11];refine QbD H ?_;refine k7 ?_;refine Qgp 1 (fun b0=>?_) (fun b0=>?_)
     ·replace h:=QcM b0 h;refine Qb [0,1,2,6] ?_;refine Qaa (As'':=[rows rI 3 ([]:List (List Int)) ([]:List Value),own rVal 22 ([]:List Value) (.slice none 0 0),rows rI 3 p2 us30,own rVal 22 us30 y0]) (fun _ _ H=>(H.nil rVal 22).rowsN (rI) 3) ?_;refine QaV ?_;refine Qar (fun _ _ H=>(H.pick [0,1]).selA [0,1] rfl) ?_;exact QiP J4 ([]:List Value) (.slice none 0 0) (ho _ (sj h).symm) [0,1]
     replace h:=QcN b0 h;refine QE ?_;refine k6 ?_;refine Q4 [1,2,4,5] ?_;exact QM k4 ((sj h).symm) [2,0,3]
    refine Q7 ?_;exact QM J3 (ho _ (sj h).symm) [3]
   refine Qs ?_;refine QaK h3 (fun (s1:Int×List (List Int))=>[(67,ti (p1.length:Int)),(68,ti s1.1),(6,tv y0),(0,ti n_)]) (fun (s1:Int×List (List Int))=>[rows rI 3 s1.2 us30,own rVal 22 us30 y0]) [1,2,3,4] ?_;clear h;intro s1 o K5 h ho k8;refine Qb [0,1,2,3,4] ?_;refine Qk fun _ k9=>?_;refine Qx h (fun _ h=>?_) (fun _ h=>?_)
   ·refine QE ?_;refine k9 ?_;refine Qk fun K6 k10=>?_;refine Qs ?_;refine Qb [1,3,4,5,6] ?_;have⟨t2,_,h⟩:=bs h;refine QV [v1 2 (fun v0=>own rI 3 t2 v0)] [3] [2,3,4,5,6,7,8] fun m1=>?_;refine Qk fun _ k11=>?_;have⟨r3,h7,h⟩:=bs h;intro a w H;refine wr mx [v0 (own rI 3 (cpy t2 r3) (m1 2))] H (fun _=>.q 1 rfl<|.q 6 rfl<|.q 4 rfl<|.u [1,0] rfl rfl (Qdz ud68 Qau z1 z0 h7)<|.u [1,0] rfl rfl (Qec Qau z0 h7)<|.e [0] [2] [3] rfl rfl rfl rfl (Qx3 (R:=rI) ud22 rfl tok3 z4 z0 h7)<|.n) fun _ a w H=>?_;have H:=H.to [0,1,6,7,8,9,10,11,12] [_,_,_,_,_,_,_,_,_] [_,_,_] rfl rfl;refine QbD H ?_;refine k11 ?_;intro a w H;refine sr mx [] H (fun _=>.q 7 rfl<|.u [1,0] rfl rfl (Ql2 ud68 z0)<|.o (Qad .k)<|.n) fun _ a w H=>?_;have H:=H.to [0,1,2,3,4,5,6,7,8,9,10,11] [_,_,_,_,_,_,_,_,_,_,_,_] [_,_,_] rfl rfl;refine Q2 H ?_;have⟨e6,h8,h⟩:=bs h;have J5:∀(p5:List (List Int)),p5=e6→To M w0 136 [(67,ti (p1.length:Int)),(68,ti s1.1),(6,tv y0),(0,ti n_)] [rows rI 3 p5 us30,own rVal 22 us30 y0] K6:=by
     intro p5 he;subst he;refine k10 ?_;refine Q4 [1,2,3,4] ?_;exact QM k8 ((sj h).symm) [1,0,2,3]
    refine Qs ?_;refine QaK h8 (fun (s2:Int×List (List Int))=>[(80,tv y0),(81,ti (s1.2.length:Int)),(82,ti s2.1),(11,tv (m1 2)),(10,ti s1.1),(67,ti (p1.length:Int)),(68,ti s1.1),(6,tv y0),(0,ti n_)]) (fun (s2:Int×List (List Int))=>[rows rI 3 s2.2 us30,own rVal 22 us30 y0,own rI 3 (cpy t2 r3) (m1 2)]) [0,1,2,6,7,8,9,10,11] ?_;clear h;intro s2 o K7 h ho k12;refine Qb [0,1,2,3,4,5,6,7,8,9] ?_;refine Qk fun _ k13=>?_;refine Qx h (fun _ h=>?_) (fun _ h=>?_)
    ·refine QE ?_;refine k13 ?_;refine Qk fun K8 k14=>?_;have⟨p6,h9,h⟩:=bs h;have J6:To M w0 136 [(80,tv y0),(81,ti (s1.2.length:Int)),(82,ti s2.1),(11,tv (m1 2)),(10,ti s1.1),(67,ti (p1.length:Int)),(68,ti s1.1),(6,tv y0),(0,ti n_)] [rows rI 3 p6 us30,own rVal 22 us30 y0,own rI 3 (cpy t2 r3) (m1 2)] K8:=by
      refine k14 ?_;refine Q4 [1,2,3,4,5,6,7,8,9] ?_;exact QM k12 ((sj h).symm) [1,2,0,3,4,5,6,7,8]
     replace h:=h9;clear h9;refine Qs ?_;refine Qk fun _ k15=>?_;have⟨r4,h10,h⟩:=bs h;intro a w H;refine wr mx [] H (fun _=>.q 3 rfl<|.u [1,0] rfl rfl (Qdz ud68 Qau z2 z4 h10)<|.u [1,0] rfl rfl (Qec Qau z0 h10)<|.o (Qi z2)<|.o (Qi z1)<|.n) fun _ a w H=>?_;have H:=H.to [3,4,6,7,8,9,10,11,12,13,14] [_,_,_,_,_,_,_,_,_,_,_] [_,_,_] rfl rfl;refine QbD H ?_;refine k15 ?_;refine Qk fun _ k16=>?_;refine Qk fun _ k17=>?_;have⟨r5,h11,t3,h12,h⟩:=bs2 h;intro a w H;refine wr mx [] H (fun _=>.q 1 rfl<|.q 7 rfl<|.u [0] rfl rfl (Qf6 ud22 tok3 z1 z0 h11 h12)<|.u [0] rfl rfl (Qhs tok3 z0 h11 h12)<|.o (QiF z0 .k)<|.n) fun _ a w H=>?_;have H:=H.to [4,5,6,7,8,9,10,11,12,13,14,15] [_,_,_,_,_,_,_,_,_,_,_,_] [_,_,_] rfl rfl;refine QbD H ?_;refine k17 ?_;refine Qx h (fun _ h=>?_) (fun _ h=>?_)
     ·refine Q7 ?_;obtain rfl:=sj h;exact Q3 J6 [3,4,5,6,7,8,9,10,11]
     refine QE ?_;refine k16 ?_;refine Qb [0,1,2,4,5,6,7,8,9,10,11,12,13,14] ?_;have⟨e7,h13,h⟩:=bs h;have J7:∀(p7:List (List Int)),p7=e7→To M w0 136 [(80,tv y0),(81,ti (s1.2.length:Int)),(82,ti s2.1),(11,tv (m1 2)),(10,ti s1.1),(67,ti (p1.length:Int)),(68,ti s1.1),(6,tv y0),(0,ti n_)] [rows rI 3 p7 us30,own rVal 22 us30 y0,own rI 3 (cpy t2 r3) (m1 2)] K8:=by
      intro p7 he;subst he;obtain rfl:=sj h;exact Q3 J6 [0,1,2,3,4,5,6,7,8]
     refine Qs ?_;refine QaK h13 (fun (s3:Int×List (List Int))=>[(92,tv (m1 2)),(93,ti ((cpy t2 r3).length:Int)),(94,ti s3.1),(12,ti s2.1),(13,tv (usAt us30 s2.1)),(80,tv y0),(81,ti (s1.2.length:Int)),(82,ti s2.1),(11,tv (m1 2)),(10,ti s1.1),(67,ti (p1.length:Int)),(68,ti s1.1),(6,tv y0),(0,ti n_)]) (fun (s3:Int×List (List Int))=>[rows rI 3 s3.2 us30,own rVal 22 us30 y0,own rI 3 (cpy t2 r3) (m1 2)]) [0,1,2,3,4,5,6,7,8,9,10,11,12,13] ?_;clear h;intro s3 o K9 h ho k18;refine Qb [0,1,2,3,4,5,6,7,8,9,10,11,12,13,14] ?_;refine Qk fun _ k19=>?_;refine Qx h (fun _ h=>?_) (fun _ h=>?_)
     ·refine QE ?_;refine k19 ?_;refine Qk fun K10 k20=>?_;refine Qs ?_;have⟨_,_,h⟩:=bs h;refine Qb [3,4,6,7,8,9,10,11,12,13,14,15,16,17,18,19] ?_;refine Qb [1,2,3,4,5,6,7,8,9,10,11,12,13,14,15,16,17] ?_;have⟨p8,h14,h⟩:=bs h;have J8:To M w0 136 [(92,tv (m1 2)),(93,ti ((cpy t2 r3).length:Int)),(94,ti s3.1),(12,ti s2.1),(13,tv (usAt us30 s2.1)),(80,tv y0),(81,ti (s1.2.length:Int)),(82,ti s2.1),(11,tv (m1 2)),(10,ti s1.1),(67,ti (p1.length:Int)),(68,ti s1.1),(6,tv y0),(0,ti n_)] [own rVal 22 us30 y0,own rI 3 (cpy t2 r3) (m1 2),rows rI 3 p8 us30] K10:=by
       refine k20 ?_;refine Q4 [1,2,3,4,5,6,7,8,9,10,11,12,13,14] ?_;refine Qar (fun _ _ H=>(H.pick [1,2,0,3,4,5,6,7,8,9,10,11,12,13]).selA [2,0,1] rfl) ?_;exact QM k18 ((sj h).symm) [0,1,2,3,4,5,6,7,8,9,10,11,12,13]
      replace h:=h14;clear h14;refine Qx h (fun _ h=>?_) (fun _ h=>?_)
      ·have⟨r6,h15,_,h16,_,h17,_,h18,h⟩:=bs4 h;have⟨m1083,hm1083,h⟩:=bs h;intro a w H;refine wr mx [v0 (rows rI 3 m1083 us30)] H (fun _=>.q 15 rfl<|.q 7 rfl<|.u [1,0] rfl rfl (Qdz ud68 Qau z1 z0 h15)<|.u [1,0] rfl rfl (Qec Qau z0 h15)<|.q 5 rfl<|.q 12 rfl<|.q 7 rfl<|.u [0] rfl rfl (Qf6 ud22 tok3 z1 z0 h15 h16)<|.u [0] rfl rfl (Qhs tok3 z0 h15 h16)<|.q 16 rfl<|.q 22 rfl<|.u [0] rfl rfl (Qf6 ud22 tok3 z1 z0 h15 h17)<|.u [0] rfl rfl (Qhs tok3 z0 h15 h17)<|.q 15 rfl<|.o (Qao z1 z0)<|.o (QjB z6 z0)<|.u [0] rfl rfl (Qie ud22 tok3 z12 z11 h15 h18)<|.e [] [0] [3] rfl rfl rfl rfl (Qi8 tok3 z0 z1 h15 h18 hm1083)<|.n) fun _ a w H=>?_;have H:=H.to [0,20,21,22,23,24,25,26,27,28,29,30,31,32,33] [_,_,_,_,_,_,_,_,_,_,_,_,_,_,_] [_,_,_] rfl rfl;refine QbD H ?_;obtain rfl:=sj h;exact Q3 J8 [1,2,3,4,5,6,7,8,9,10,11,12,13,14]
      refine QE ?_;obtain rfl:=sj h;refine Qar (fun _ _ H=>(H.pick [3,4,5,6,7,8,9,10,11,12,13,14,15,16]).selA [1,2,0] rfl) ?_;exact Q3 J8 [0,1,2,3,4,5,6,7,8,9,10,11,12,13]
     refine Q7 ?_;exact QM J7 (ho _ (sj h).symm) [6,7,8,9,10,11,12,13,14]
    refine Q7 ?_;refine Qar (fun _ _ H=>(H.pick [6,7,8,9]).selA [0,1] rfl) ?_;exact QM J5 (ho _ (sj h).symm) [0,1,2,3]
   refine Q7 ?_;exact QM J2 (ho _ (sj h).symm) [3]
  refine Qs ?_;refine QaK h2 (fun (s4:Int×List (List Int))=>[(39,tsl QL l_),(40,ti (l_.length:Int)),(41,ti s4.1),(6,tv y0),(0,ti n_)]) (fun (s4:Int×List (List Int))=>[rows rI 3 s4.2 us30,own rVal 22 us30 y0]) [0,1,2,3,4] ?_;clear h;intro s4 o K11 h ho k21;refine Qb [0,1,2,3,4,5] ?_;refine Qk fun _ k22=>?_;refine Qx h (fun _ h=>?_) (fun _ h=>?_)
  ·refine QE ?_;refine k22 ?_;refine Qk fun _ k23=>?_;refine Qs ?_;have⟨t4,_,h⟩:=bs h;refine QV [v1 2 (fun v0=>box (QL.cs zz5) v0),v1 2 (fun v0=>box (QL.cs t4) v0)] [3,4] [2,4,5,6,7,8] fun m2=>?_;refine Qaa (fun _ _ H=>(((H.selA [2,0,1] rfl).shareB 0 rfl).add 0 rfl (fun _ _ _ h=>h.2)).pick [0,3,4,5,6,7]) ?_;have⟨r7,h19,_,h20,_,h21,m1096,hm1096,h⟩:=bs4 h;intro a w H;refine wr mx [v0 (rows rI 3 m1096 us30)] H (fun _=>.q 4 rfl<|.o (QO QgJ z1)<|.o (QN (u:=t4.a) tok3 z0 rfl)<|.u [1,0] rfl rfl (Qdz ud68 Qau z2 z0 h19)<|.u [1,0] rfl rfl (Qec Qau z0 h19)<|.o (QO QgK z5)<|.o (QN (u:=t4.b) tok3 z0 rfl)<|.q 11 rfl<|.o (QO QgJ z8)<|.o (QN (u:=t4.a) tok3 z0 rfl)<|.u [1,0] rfl rfl (Qdz ud68 Qau z2 z0 h19)<|.u [1,0] rfl rfl (Qec Qau z0 h19)<|.o (QO QgK z12)<|.o (QN (u:=t4.b) tok3 z0 rfl)<|.u [0] rfl rfl (Qf6 ud22 tok3 z2 z0 h19 h20)<|.u [0] rfl rfl (Qhs tok3 z0 h19 h20)<|.o (QO Qhz z16)<|.o (QN (u:=t4.n) tok3 z0 rfl)<|.o (QjB z2 z0)<|.u [0] rfl rfl (Qie ud22 tok3 z14 z12 h19 h21)<|.e [] [0] [2] rfl rfl rfl rfl (Qi8 tok3 z0 z1 h19 h21 hm1096)<|.n) fun _ a w H=>?_;have H:=H.t7_2 [0,7,21,22,23,24,25];refine QbD H ?_;refine k23 ?_;refine Q4 [1,2,3,4,5,6,7] ?_;refine Qar (fun _ _ H=>(H.pick [3,4,0,5,6]).selA [1,0] rfl) ?_;exact QM k21 ((sj h).symm) [0,1,2,3,4]
  refine Q7 ?_;exact QM J1 (ho _ (sj h).symm) [4,5]
 refine Qs ?_;refine Qq9 h1 (fun (s5:Int×List (List Int)) (us18:List Value) (y2:Value)=>[(21,ti (t0.length:Int)),(22,ti s5.1),(6,tv y2),(0,ti n_),(1,tsl QL l_)]) (fun (s5:Int×List (List Int)) (us18:List Value) (y2:Value)=>[rows rI 3 s5.2 us18,own rVal 22 us18 y2]) (replicate ((i64.wrap (n_+1))).toNat nilV) (m0 2) [1,2,4,5,6] ?_;clear h;intro s5 us18 y2 o K12 h ho k24;refine Qb [0,1,2,3,4,5] ?_;refine Qk fun _ k25=>?_;refine Qx h (fun _ h=>?_) (fun _ h=>?_)
 ·refine QE ?_;refine k25 ?_;refine Qk fun _ k26=>?_;refine Qs ?_;refine Qb [1,3,4,5,6,7] ?_;refine Qk fun _ k27=>?_;have⟨t5,h22,w31s,hw31s,h⟩:=bs2 h;intro a w H;refine wr mx [v1 5 (fun v0=>own rI 3 t5 v0),v1 5 (fun v0=>own rVal 22 (us18.set (s5.1).toNat v0) y2)] H (fun _=>.q 3 rfl<|.q 1 rfl<|.o (Qah (R:=rI) (us:=[(1099511627776:Int)]) ud22 tok3 (.cons .k<|.nil _) rfl (leb rfl))<|.q 7 rfl<|.o (Qao z0 .k)<|.m [] [2] rfl rfl rfl (QG Qme (Qfb.ok h22) (.cons (.of z2)<|.cons (.of z0)<|.nil))<|.u [1,0] rfl rfl (QtW ud68 Qau z5 z4 hw31s)<|.e [0,2] [1] [3] rfl rfl rfl rfl (Qz8 (e1:=22) (e2:=3) Qau z0 z1 hw31s)<|.n) fun m3 a w H=>?_;replace H:St _ _ _ [_,_,_,_,_,_,_,_] [_,_] _ _:=((H.pick [0,5,7,8,9,10,11,12]).selA [1,0,2] rfl).put (s5.1) hw31s;refine QbD H ?_;refine k27 ?_;have⟨r8,h23,_,h24,m1106,hm1106,h⟩:=bs3 h;intro a w H;refine wr mx [v0 (rows rI 3 m1106 (us18.set (s5.1).toNat (m3 5)))] H (fun _=>.q 5 rfl<|.q 3 rfl<|.u [1,0] rfl rfl (Qdz ud68 Qau z1 z0 h23)<|.u [1,0] rfl rfl (Qec Qau z0 h23)<|.q 6 rfl<|.u [0] rfl rfl (Qie ud22 tok3 z1 z0 h23 h24)<|.e [] [0] [2] rfl rfl rfl rfl (Qi8 tok3 z0 .k h23 h24 hm1106)<|.n) fun _ a w H=>?_;have H:=H.t7_2 [0,6,9,10,11,12,13];refine QbD H ?_;refine k26 ?_;refine Q4 [1,2,3,4,5,6,7] ?_;refine Qar (fun _ _ H=>(H.pick [3,0,4,5,6]).selA [1,0] rfl) ?_;exact QiP k24 (us18.set (s5.1).toNat (m3 5)) y2 ((sj h).symm) [0,1,2,3,4]
 refine Q7 ?_;exact QiP J0 us18 y2 (ho _ (sj h).symm) [3,4,5]
def Qd6 (n_:Int) (l_:(List Qz)):Option ((List (List Int))×Int):=(Qd5 n_ l_).bind fun t0=>(if (t0.2 !=0)=true then (some (([]:List (List Int)),t0.2)) else (QeW n_ t0.1).bind fun t1=>(if (!t1.2)=true then (some (([]:List (List Int)),(14:Int))) else (some (t1.1,(0:Int)))))
instance QzV:Spc2 prog 27 Qd6 (fun n_ l_=>[ti n_,tsl Qaj l_]) (fun r=>ttup [tsl (rSl rI) r.1,ti r.2]):=.mk fun {n_ l_ r} h=>by
 unfold Qd6 at h
 refine Fe func27 ntmps27 fun M0 M w0 hpl=>?_
 refine Qb [2,3] ?_
 have⟨t0,h0,h⟩:=bs h
 intro a w H
 refine sr mx [] H (fun _=>.q 0 rfl<|.q 2 rfl<|.o (QG Qq3 ((Qjf.ok h0).ro QsN) (.cons (.of z1)<|.cons (.of z0)<|.nil))<|.q 0 rfl<|.o (Qac z0 rfl)<|.o (Qac z1 rfl)<|.o (Qi z1)<|.o (Qi z1)<|.n) fun _ a w H=>?_
 have H:=H.t3_0 [6,7,8]
 refine Q2 H ?_
 refine tIfs h [1,2,3,4] (fun _ h=>?_) (fun _ h=>?_)
 ·refine Qb [1,2] ?_
  exact Qu h (·▸Qq hpl)
 have⟨t1,h1,h⟩:=bs h
 intro a w H
 refine sr mx [] H (fun _=>.q 3 rfl<|.q 2 rfl<|.o (QG Qwd ((QmX.ok h1).roT Qx4) (.cons (.of z1)<|.cons (.of z0)<|.nil))<|.q 0 rfl<|.o (Qac z0 rfl)<|.o (Qac z1 rfl)<|.o (Qi z1)<|.o (Qi z1)<|.n) fun _ a w H=>?_
 have H:=H.to [6,7] [_,_] [] rfl rfl
 refine Q2 H ?_
 refine tIfs h [1,2] (fun _ h=>?_) (fun _ h=>?_)
 ·refine Qb [0,1] ?_
  exact Qu h (·▸Qq hpl)
 refine Qb [1,2] ?_
 exact Qu h (·▸Qq hpl)

/- The walk. No condition. -/
import Derived.Test.YtlajingmjmnfgaaGreatDoorGenF
set_option linter.all false
open Go.Proofs.Tryz Go.IntKind
namespace Go.Proofs.YtlajingmjmnfgaaGreatDoor
noncomputable section
open Go.Sim
set_option maxRecDepth 100000
set_option maxHeartbeats 4000000
def Qgk (f_:Qb):Option (Bool):=(Qu (λ(s0:Int×Int)=>((if (decide (s0.1<(f_.Xf.length:Int)))=true then (idx f_.Xf s0.1).bind λt0=>(QaT t0 0 1048576).bind λt1=>(if (!t1)=true then (some (.inr (.inr false))) else (idx f_.Xf s0.1).bind λt2=>(some (.inl ((i64.wrap (s0.1+1)),(i64.wrap (s0.2+t2)))))) else (some (.inr (.inl s0.2)))):Option ((Int×Int)⊕((Int)⊕(Bool))))) ((0:Int),(0:Int))).bind λe0=>(match e0 with | .inl p0=>(QaT (f_.Words.length:Int) 1 12).bind λt3=>(opt (((t3&&((f_.Words.length:Int)==(f_.Xf.length:Int)))&&(decide (p0>0)))==true) (Qfv f_.Words) default).bind λt4=>(some (((t3&&((f_.Words.length:Int)==(f_.Xf.length:Int)))&&(decide (p0>0)))&&t4)) | .inr p1=>(some p1))
instance Qxp:Spc1 prog 229 Qgk (λf_=>[Qd.ty f_]) tb:=.mk λ{f_ r} h=>by
 unfold Qgk at h
 refine Fe func229 ntmps229 λM0 M w0 hpl=>?_
 refine Qa [0] ?_
 refine Qa [0,1] ?_
 refine Qi λK0 k0=>?_
 refine Qa [0,1,2] ?_
 have⟨e0,h0,h⟩:=bs h
 have J0:∀(p0:Int),(.inl p0)=e0->To M w0 48 [(3,ti p0),(1,tptr (Qd.cs f_))] [] K0:=by
  intro p0 he;subst he;simp only at h;refine k0 ?_;have⟨_,_,_,_,h⟩:=bs2 h;refine Qa [22] ?_;exact Qo h (·▸Ql hpl)
 have J1:∀(p1:Bool),(.inr p1)=e0->To M w0 48 [(2,tb p1)] [] (Ret prog f229 M0 [] w0 (λ_=>[]) (λ_=>tb r) .ret):=by
  intro p1 he;subst he;simp only at h;obtain rfl:=sj h;exact Ql hpl
 refine Qm <|Qan h0 (λ(s0:Int×Int)=>[(4,ti s0.1),(3,ti s0.2),(1,tptr (Qd.cs f_))]) (λ(s0:Int×Int)=>[]) [0,1,2] ?_;clear h;intro s0 o K1 h ho k1;refine Qi λ_ k2=>Qa [4,5,6,7] ?_;refine Qq h (λ_ h=>?_) (λ_ h=>?_)
 ·refine Qt <|k2 <|Qi λ_ k3=>Qm ?_;have⟨_,_,_,_,h⟩:=bs2 h;refine tIfs h [6,8,9,10] (λ_ h=>?_) (λ_ h=>?_)
  ·refine Qa [0] ?_;refine Qap ?_;exact Qz J1 (ho _ (sj h).symm) [0]
  have⟨_,_,h⟩:=bs h;refine QL [7,9,10] ?_;refine k3 <|QL [2,3,4] ?_;exact Qz k1 ((sj h).symm) [0,1,2]
 refine QP <|Qz J0 (ho _ (sj h).symm) [2,3]
def Qfw (f_:Qb):Option (Bool):=(QbL f_.Xi).bind λt0=>(opt (((decide (f_.Xi<0))||(decide (f_.Xi>=9)))==false) (Qbe f_.Xj) default).bind λt1=>(if ((((((((decide (f_.Xi<0))||(decide (f_.Xi>=9)))||(!t1))||((!t0.1)&&(f_.Of !=([]:Str))))||((!t0.2.1)&&(f_.Up !=([]:Str))))||((!t0.2.2.1)&&(f_.Lo !=0)))||((!t0.2.2.2.1)&&(f_.Hi !=0)))||((!t0.2.2.2.2)&&(decide ((i64.wrap ((f_.Words.length:Int)+(f_.Xf.length:Int)))>0))))=true then (some false) else (opt (t0.1==true) (Qbe f_.Of) default).bind λt2=>(opt ((((t0.1&&(!t2))&&((f_.Xi !=4)||(f_.Of !=([]:Str))))==false)&&(t0.2.1==true)) (Qbe f_.Up) default).bind λt3=>(if (((t0.1&&(!t2))&&((f_.Xi !=4)||(f_.Of !=([]:Str))))||(t0.2.1&&(!t3)))=true then (some false) else (if (f_.Xi==0)=true then (QaT f_.Lo (-1048576) 1048576).bind λt4=>(some t4) else (if (f_.Xi==1)=true then (QdN f_.Lo f_.Hi 0 65536).bind λt5=>(some t5) else (if (f_.Xi==2)=true then (QdN f_.Lo f_.Hi (-1048576) 1048576).bind λt6=>(some t6) else (if (f_.Xi==4)=true then (QdN f_.Lo f_.Hi (-1048576) 1048576).bind λt7=>(some t7) else (if (f_.Xi==5)=true then (QdN f_.Lo f_.Hi 0 32).bind λt8=>(some t8) else (if (f_.Xi==7)=true then (QdN f_.Lo f_.Hi 0 1048576).bind λt9=>(some t9) else (if (f_.Xi==3)=true then (Qgk f_).bind λt10=>(some t10) else (some true))))))))))
instance QwM:Spc1 prog 215 Qfw (λf_=>[Qd.ty f_]) tb:=.mk λ{f_ r} h=>by
 unfold Qfw at h
 refine Fe func215 ntmps215 λM0 M w0 hpl=>?_
 refine Qa [0] ?_
 have⟨_,_,h⟩:=bs h
 refine Qa [9,10,11,12,13,14] ?_
 have⟨_,_,h⟩:=bs h
 refine tIfs h [63,64,65,69] (λ_ h=>?_) (λ_ h=>?_)
 ·refine Qa [0] ?_
  exact Qo h (·▸Ql hpl)
 have⟨_,_,_,_,h⟩:=bs2 h
 refine tIfs h [25,29] (λ_ h=>?_) (λ_ h=>?_)
 ·refine Qa [0] ?_
  exact Qo h (·▸Ql hpl)
 refine Qi λ_ k0=>?_
 refine Qa [1,3] ?_
 refine Qm ?_
 refine Qa [1,2,3] ?_
 refine Qq h (λ_ h=>?_) (λ_ h=>?_)
 ·have⟨_,_,h⟩:=bs h
  refine Qa [3] ?_
  exact Qo h (·▸Ql hpl)
 refine Qa [1,3,4] ?_
 refine Qq h (λ_ h=>?_) (λ_ h=>?_)
 ·have⟨_,_,h⟩:=bs h
  refine Qa [5] ?_
  exact Qo h (·▸Ql hpl)
 refine Qa [1,3,4] ?_
 refine Qq h (λ_ h=>?_) (λ_ h=>?_)
 ·have⟨_,_,h⟩:=bs h
  refine Qa [5] ?_
  exact Qo h (·▸Ql hpl)
 refine Qa [1,3,4] ?_
 refine Qq h (λ_ h=>?_) (λ_ h=>?_)
 ·have⟨_,_,h⟩:=bs h
  refine Qa [5] ?_
  exact Qo h (·▸Ql hpl)
 refine Qa [1,3,4] ?_
 refine Qq h (λ_ h=>?_) (λ_ h=>?_)
 ·have⟨_,_,h⟩:=bs h
  refine Qa [5] ?_
  exact Qo h (·▸Ql hpl)
 refine Qa [1,3,4] ?_
 refine Qq h (λ_ h=>?_) (λ_ h=>?_)
 ·have⟨_,_,h⟩:=bs h
  refine Qa [5] ?_
  exact Qo h (·▸Ql hpl)
 refine Qa [1,4] ?_
 refine Qq h (λ_ h=>?_) (λ_ h=>?_)
 ·have⟨_,_,h⟩:=bs h
  refine Qa [2] ?_
  exact Qo h (·▸Ql hpl)
 refine Qt ?_
 refine k0 ?_
 refine Qa [0] ?_
 exact Qo h (·▸Ql hpl)
def Qgl (k_:Qf):Option (Bool):=(Qbe k_.Xj).bind λt0=>(opt ((!t0)==false) (QdN k_.Lo k_.Hi 0 65536) default).bind λt1=>(if (((!t0)||(!t1))||(decide ((k_.Xb.length:Int)>10)))=true then (some false) else (Qu (λ(s0:Int)=>((if (decide (s0<(k_.Xb.length:Int)))=true then (idx k_.Xb s0).bind λt2=>(Qfw t2).bind λt3=>(if (!t3)=true then (some (.inr (.inr false))) else (some (.inl (i64.wrap (s0+1))))) else (some (.inr (.inl ())))):Option ((Int)⊕((Unit)⊕(Bool))))) (0:Int)).bind λe0=>(match e0 with | .inl _=>(some true) | .inr p0=>(some p0)))
instance Qxq:Spc1 prog 186 Qgl (λk_=>[Qg.ty k_]) tb:=.mk λ{k_ r} h=>by
 unfold Qgl at h
 refine Fe func186 ntmps186 λM0 M w0 hpl=>?_
 refine Qa [0] ?_
 have⟨_,_,_,_,h⟩:=bs2 h
 refine tIfs h [17,18] (λ_ h=>?_) (λ_ h=>?_)
 ·refine Qa [0] ?_
  exact Qo h (·▸Ql hpl)
 refine Qi λK0 k0=>?_
 refine Qa [0,2] ?_
 have⟨e0,h0,h⟩:=bs h
 have J0:∀(p0:Unit),(.inl p0)=e0->To M w0 36 [] [] K0:=by
  intro p0 he;subst he;simp only at h;refine k0 <|Qa [0] ?_;exact Qo h (·▸Ql hpl)
 have J1:∀(p1:Bool),(.inr p1)=e0->To M w0 36 [(2,tb p1)] [] (Ret prog f186 M0 [] w0 (λ_=>[]) (λ_=>tb r) .ret):=by
  intro p1 he;subst he;simp only at h;obtain rfl:=sj h;exact Ql hpl
 refine Qm <|Qan h0 (λ(s0:Int)=>[(3,ti s0),(1,tptr (Qg.cs k_))]) (λ(s0:Int)=>[]) [0,1] ?_;clear h;intro s0 o K1 h ho k1;refine Qi λ_ k2=>Qa [4,5,6] ?_;refine Qq h (λ_ h=>?_) (λ_ h=>?_)
 ·refine Qt <|k2 <|Qi λ_ k3=>Qm ?_;have⟨_,_,_,_,h⟩:=bs2 h;refine Qa [6,8,9] ?_;refine Qq h (λ_ h=>?_) (λ_ h=>?_)
  ·refine Qa [0] ?_;refine Qap ?_;exact Qz J1 (ho _ (sj h).symm) [0]
  refine Qt <|k3 <|QL [2,4] ?_;exact Qz k1 ((sj h).symm) [0,1]
 refine QP <|Qz J0 (ho _ (sj h).symm) []
def Qgm (x_:Qs):Option (Bool):=(Qbe x_.Xj).bind λt0=>(opt ((!t0)==false) (QaT (x_.Xe.length:Int) 1 12) default).bind λt1=>(opt (((!t0)||(!t1))==false) (Qfv x_.Xe) default).bind λt2=>(if ((((!t0)||(!t1))||(!t2))||(decide ((x_.Xg.length:Int)>32)))=true then (some false) else (Qu (λ(s0:Int)=>((if (decide (s0<(x_.Xg.length:Int)))=true then (idx x_.Xg s0).bind λt3=>(QaT t3.a0 0 (i64.wrap ((x_.Xe.length:Int) - 1))).bind λt4=>(opt ((!t4)==false) (idx x_.Xg s0) default).bind λt5=>(opt ((!t4)==false) (QaT t5.a1 0 (i64.wrap ((x_.Xe.length:Int) - 1))) default).bind λt6=>(if ((!t4)||(!t6))=true then (some (.inr (.inr false))) else (some (.inl (i64.wrap (s0+1))))) else (some (.inr (.inl ())))):Option ((Int)⊕((Unit)⊕(Bool))))) (0:Int)).bind λe0=>(match e0 with | .inl _=>(some true) | .inr p0=>(some p0)))
instance Qxr:Spc1 prog 187 Qgm (λx_=>[Qn.ty x_]) tb:=.mk λ{x_ r} h=>by
 unfold Qgm at h
 refine Fe func187 ntmps187 λM0 M w0 hpl=>?_
 refine Qa [0] ?_
 have⟨_,_,_,_,_,_,h⟩:=bs3 h
 refine tIfs h [22,23] (λ_ h=>?_) (λ_ h=>?_)
 ·refine Qa [0] ?_
  exact Qo h (·▸Ql hpl)
 refine Qi λK0 k0=>?_
 refine Qa [0,2] ?_
 have⟨e0,h0,h⟩:=bs h
 have J0:∀(p0:Unit),(.inl p0)=e0->To M w0 60 [] [] K0:=by
  intro p0 he;subst he;simp only at h;refine k0 <|Qa [0] ?_;exact Qo h (·▸Ql hpl)
 have J1:∀(p1:Bool),(.inr p1)=e0->To M w0 60 [(2,tb p1)] [] (Ret prog f187 M0 [] w0 (λ_=>[]) (λ_=>tb r) .ret):=by
  intro p1 he;subst he;simp only at h;obtain rfl:=sj h;exact Ql hpl
 refine Qm <|Qan h0 (λ(s0:Int)=>[(3,ti s0),(1,tptr (Qn.cs x_))]) (λ(s0:Int)=>[]) [0,1] ?_;clear h;intro s0 o K1 h ho k1;refine Qi λ_ k2=>Qa [4,5,6] ?_;refine Qq h (λ_ h=>?_) (λ_ h=>?_)
 ·refine Qt <|k2 <|Qi λ_ k3=>Qm ?_;have⟨_,_,_,_,_,_,_,_,h⟩:=bs4 h;refine Qa [25,27,28] ?_;refine Qq h (λ_ h=>?_) (λ_ h=>?_)
  ·refine Qa [0] ?_;refine Qap ?_;exact Qz J1 (ho _ (sj h).symm) [0]
  refine Qt <|k3 <|QL [2,4] ?_;exact Qz k1 ((sj h).symm) [0,1]
 refine QP <|Qz J0 (ho _ (sj h).symm) []
def Qgn (r_:Qh):Option (Bool):=(opt ((r_.A !=([]:Str))==true) (Qbe r_.A) default).bind λt0=>(opt ((((r_.A !=([]:Str))&&(!t0))==false)&&((r_.B !=([]:Str))==true)) (Qbe r_.B) default).bind λt1=>(if ((((r_.A !=([]:Str))&&(!t0))||((r_.B !=([]:Str))&&(!t1)))||((r_.A==([]:Str))&&(r_.B==([]:Str))))=true then (some false) else (Qbe r_.Xj).bind λt2=>(opt (t2==true) (Qbe r_.Xi) default).bind λt3=>(opt ((t2&&t3)==true) (QaT r_.N (-1048576) 1048576) default).bind λt4=>(some ((t2&&t3)&&t4)))
instance Qxs:Spc1 prog 188 Qgn (λr_=>[Qk.ty r_]) tb:=.mk λ{r_ r} h=>by
 unfold Qgn at h
 refine Fe func188 ntmps188 λM0 M w0 hpl=>?_
 refine Qa [0] ?_
 have⟨_,_,_,_,h⟩:=bs2 h
 refine tIfs h [29,30] (λ_ h=>?_) (λ_ h=>?_)
 ·refine Qa [0] ?_
  exact Qo h (·▸Ql hpl)
 have⟨_,_,_,_,_,_,h⟩:=bs3 h
 refine Qa [13] ?_
 exact Qo h (·▸Ql hpl)
def Qdf (self:Int->Option (Str)) (n_:Int):Option (Str):=(if (decide (n_<0))=true then (self (i64.wrap (0 - n_))).bind λt0=>(cat (([45]:Str).length+t0.length)).bind λ_=>(some (([45]:Str)++t0)) else (if (decide (n_<10))=true then (some (QjN [(u8.wrap (i64.wrap ((48:Int)+n_)))])) else (self (i64.wrap (Int.tdiv n_ (10:Int)))).bind λt1=>(cat (t1.length+(QjN [(u8.wrap (i64.wrap ((48:Int)+(Int.tmod n_ (10:Int)))))]).length)).bind λ_=>(some (t1++(QjN [(u8.wrap (i64.wrap ((48:Int)+(Int.tmod n_ (10:Int)))))])))))
theorem Qng {self:Int->Option (Str)} (hself:∀(n_:Int) (r:Str),self n_=some r->FnOk prog 230 [ti n_] [] (λ_=>[]) (λ_=>tv (.string (sB r)))) {n_:Int} {r:Str} (h:Qdf self n_=some r):FnOk prog 230 [ti n_] [] (λ_=>[]) (λ_=>tv (.string (sB r))):=by
 unfold Qdf at h;refine fe func230 ntmps230 λM0 M w0 a hpl H=>?_;refine sr mx [] H (λ_=>.o (Qp .k)<|.n) λ_ a w H=>?_;have H:=H.t1_0 [1];refine wp_seq_k (λ_ k0=>?_);refine sr mx [] H (λ_=>.q 0 rfl<|.o (QcD z0 .k)<|.n) λ_ a w H=>?_;have H:=H.t2_0 [1,2];refine wi H h (λb0 h=>?_) (λb0 h=>?_)
 ·refine wp_seq_k (λ_ k1=>?_);have⟨t0,h0,u0,h1,h⟩:=bs2 h;refine wr mx [] H (λ_=>.q 1 rfl<|.o (QnP z0)<|.o (QJ QoP (hself _ _ h0) (.cons (.of z0)<|.nil))<|.o (Qcn .k z0 h1)<|.o (Qp z0)<|.n) λ_ a w H=>?_;have H:=H.t1_0 [4];refine k1 _ _ ?_;exact r0 h (·▸r1 hpl H (.tmp z0 .nil))
 refine wp_skip (k0 _ _ ?_);refine wp_seq_k (λ_ k2=>?_);refine sr mx [] H (λ_=>.q 1 rfl<|.o (QcD z0 .k)<|.n) λ_ a w H=>?_;have H:=H.t2_0 [1,3];refine wi H h (λb1 h=>?_) (λb1 h=>?_)
 ·refine sr mx [] H (λ_=>.q 1 rfl<|.o (QaI .k z0)<|.o (Qfp ud3 ud5 z0)<|.o (Qak (R:=(rInt .u8)) (us:=[(u8.wrap (i64.wrap ((48:Int)+n_)))]) Qob tok5 (.cons z0<|.nil _) rfl (leb rfl))<|.o (QtR Qob ud5 ud9 z0)<|.o (Qp z0)<|.n) λ_ a w H=>?_;have H:=H.t1_0 [5];exact r0 h (·▸r1 hpl H (.tmp z0 .nil))
 refine wp_skip (k2 _ _ ?_);refine wp_seq_k (λ_ k3=>?_);have⟨t1,h2,u1,h3,h⟩:=bs2 h;refine wr mx [] H (λ_=>.q 1 rfl<|.o (QnM z0 .k (by decide))<|.o (QJ QoP (hself _ _ h2) (.cons (.of z0)<|.nil))<|.q 4 rfl<|.o (QtG z0 .k (by decide))<|.o (QaI .k z0)<|.o (Qfp ud3 ud5 z0)<|.o (Qak (R:=(rInt .u8)) (us:=[(u8.wrap (i64.wrap ((48:Int)+(Int.tmod n_ (10:Int)))))]) Qob tok5 (.cons z0<|.nil _) rfl (leb rfl))<|.o (QtR Qob ud5 ud9 z0)<|.o (Qcn z6 z0 h3)<|.o (Qp z0)<|.n) λ_ a w H=>?_;have H:=H.t1_0 [10];refine k3 _ _ ?_;exact r0 h (·▸r1 hpl H (.tmp z0 .nil))
def Qd4:Nat->Int->Option (Str)
 | 0=>λ_=>none
 | n+1=>Qdf (Qd4 n)
theorem Qjn:∀(n:Nat) (n_:Int) (r:Str),Qd4 n n_=some r->FnOk prog 230 [ti n_] [] (λ_=>[]) (λ_=>tv (.string (sB r)))
 | 0,_,r,h=>by cases h
 | n+1,n_,r,h=>Qng (λn_ r h=>Qjn n n_ r h) h
def Qfx (n_:Int):Option (Str):=Qd4 (n_.natAbs+2) n_
theorem QnB {n_:Int} {r:Str} (h:Qfx n_=some r):FnOk prog 230 [ti n_] [] (λ_=>[]) (λ_=>tv (.string (sB r))):=Qjn _ _ _ h
instance :Spc1 prog 230 (λ(n_:Int)=>Qfx n_) (λ(n_:Int)=>[ti n_]) (λ(r:Str)=>tv (.string (sB r))):=⟨λh=>QnB h⟩
def QbG (s_:Str) (n_:Int):Option (Str):=(cat (s_.length+([32]:Str).length)).bind λ_=>(Qfx n_).bind λt0=>(cat ((s_++([32]:Str)).length+t0.length)).bind λ_=>(some ((s_++([32]:Str))++t0))
instance QAn:Spc2 prog 217 QbG (λs_ n_=>[tv (.string (sB s_)),ti n_]) (λr=>tv (.string (sB r))):=.mk λ{s_ n_ r} h=>by
 unfold QbG at h
 refine Fe func217 ntmps217 λM0 M w0 hpl=>?_
 refine Qa [1,2] ?_
 have⟨_,_,_,_,_,_,h⟩:=bs3 h
 refine Qa [5] ?_
 exact Qo h (·▸Ql hpl)
def QbU:Option ((List Str)):=(some [([107,101,121]:Str),([114,101,102]:Str),([110,117,109]:Str),([112,105,99,107]:Str),([100,97,121]:Str),([115,116,101,112]:Str),([115,117,109]:Str),([115,104,97,114,101]:Str),([99,111,112,121]:Str)])
instance QzC:Spc0 prog 231 (QbU) ([]) (tsl rS):=.mk λ{r} h=>by
 unfold QbU at h
 refine Fe func231 ntmps231 λM0 M w0 hpl=>?_
 refine Qa [] ?_
 refine Qa [1] ?_
 exact Qo h (·▸Ql hpl)
def QeN (s_:Str):Option (Str):=(if (s_==([]:Str))=true then (some ([45]:Str)) else (some s_))
instance QzD:Spc1 prog 219 QeN (λs_=>[tv (.string (sB s_))]) (λr=>tv (.string (sB r))):=.mk λ{s_ r} h=>by
 unfold QeN at h
 refine Fe func219 ntmps219 λM0 M w0 hpl=>?_
 refine Qa [1] ?_
 refine tIfs h [1,2] (λ_ h=>?_) (λ_ h=>?_)
 ·refine Qa [0] ?_
  exact Qo h (·▸Ql hpl)
 refine Qa [1] ?_
 exact Qo h (·▸Ql hpl)
def QaD (f_:Qb):Option (Str):=(QbL f_.Xi).bind λt0=>QbU.bind λt1=>(idx t1 f_.Xi).bind λt2=>(cat (([10]:Str).length+t2.length)).bind λ_=>(cat ((([10]:Str)++t2).length+([32]:Str).length)).bind λ_=>(cat (((([10]:Str)++t2)++([32]:Str)).length+f_.Xj.length)).bind λ_=>((if t0.2.1=true then (cat ((((([10]:Str)++t2)++([32]:Str))++f_.Xj).length+([32]:Str).length)).bind λ_=>(cat (((((([10]:Str)++t2)++([32]:Str))++f_.Xj)++([32]:Str)).length+f_.Up.length)).bind λ_=>(some (((((([10]:Str)++t2)++([32]:Str))++f_.Xj)++([32]:Str))++f_.Up)) else (some (((([10]:Str)++t2)++([32]:Str))++f_.Xj)))).bind λp0=>((if t0.1=true then (cat (p0.length+([32]:Str).length)).bind λ_=>(QeN f_.Of).bind λt3=>(cat ((p0++([32]:Str)).length+t3.length)).bind λ_=>(some ((p0++([32]:Str))++t3)) else (some p0))).bind λp1=>((if t0.2.2.1=true then (QbG p1 f_.Lo).bind λt4=>(some t4) else (some p1))).bind λp2=>((if t0.2.2.2.1=true then (QbG p2 f_.Hi).bind λt5=>(some t5) else (some p2))).bind λp3=>((if t0.2.2.2.2=true then (QbG p3 (f_.Words.length:Int)).bind λt6=>(Qu (λ(s0:Int×Str)=>((if (decide (s0.1<(f_.Words.length:Int)))=true then (cat (s0.2.length+([32]:Str).length)).bind λ_=>(idx f_.Words s0.1).bind λt7=>(cat ((s0.2++([32]:Str)).length+t7.length)).bind λ_=>(idx f_.Xf s0.1).bind λt8=>(QbG ((s0.2++([32]:Str))++t7) t8).bind λt9=>(some (.inl ((i64.wrap (s0.1+1)),t9))) else (some (.inr s0.2))):Option ((Int×Str)⊕((Str))))) ((0:Int),t6)).bind λp4=>(some p4) else (some p3))).bind λp5=>(some p5)
instance QAh:Spc1 prog 218 QaD (λf_=>[Qd.ty f_]) (λr=>tv (.string (sB r))):=.mk λ{f_ r} h=>by
 unfold QaD at h
 refine Fe func218 ntmps218 λM0 M w0 hpl=>?_
 refine Qa [0] ?_
 have⟨t0,_,h⟩:=bs h
 refine Qa [9,10,11,12,13,14] ?_
 have⟨_,_,_,_,_,_,_,_,h⟩:=bs4 h
 have⟨_,_,h⟩:=bs h
 refine Qa [10,11,12,13,14,15,16] ?_
 refine Qi λK0 k0=>?_
 refine Qa [0,1,2,4,5,6,7] ?_
 have⟨p0,h0,h⟩:=bs h
 have J0:To M w0 80 [(8,tv (.string (sB p0))),(3,tb t0.1),(5,tb t0.2.2.1),(6,tb t0.2.2.2.1),(7,tb t0.2.2.2.2),(1,tptr (Qd.cs f_))] [] K0:=by
  refine k0 <|Qi λK1 k1=>Qa [0,1,3,4,5,6] ?_;have⟨p1,h1,h⟩:=bs h;have J1:To M w0 80 [(8,tv (.string (sB p1))),(5,tb t0.2.2.1),(6,tb t0.2.2.2.1),(7,tb t0.2.2.2.2),(1,tptr (Qd.cs f_))] [] K1:=by
   refine k1 <|Qi λK2 k2=>Qa [0,1,3,4,5] ?_;have⟨p2,h2,h⟩:=bs h;have J2:To M w0 80 [(8,tv (.string (sB p2))),(6,tb t0.2.2.2.1),(7,tb t0.2.2.2.2),(1,tptr (Qd.cs f_))] [] K2:=by
    refine k2 <|Qi λK3 k3=>Qa [0,1,3,4] ?_;have⟨p3,h3,h⟩:=bs h;have J3:To M w0 80 [(8,tv (.string (sB p3))),(7,tb t0.2.2.2.2),(1,tptr (Qd.cs f_))] [] K3:=by
     refine k3 <|Qi λK4 k4=>Qa [0,1,3] ?_;have⟨p4,h4,h⟩:=bs h;have J4:To M w0 80 [(8,tv (.string (sB p4)))] [] K4:=by
      refine k4 <|Qa [1] ?_;exact Qo h (·▸Ql hpl)
     replace h:=h4;clear h4;refine Qq h (λ_ h=>?_) (λ_ h=>?_)
     ·have⟨_,_,h⟩:=bs h;refine Qa [5,7] ?_;refine Qa [0,1,2] ?_;have⟨e0,h5,h⟩:=bs h;have J5:∀(p5:Str),p5=e0->To M w0 80 [(8,tv (.string (sB p5)))] [] K4:=by
       intro p5 he;subst he;obtain rfl:=sj h;exact QI J4 [0]
      refine Qm <|Qan h5 (λ(s0:Int×Str)=>[(9,ti s0.1),(8,tv (.string (sB s0.2))),(1,tptr (Qd.cs f_))]) (λ(s0:Int×Str)=>[]) [0,1,2] ?_;clear h;intro s0 o K5 h ho k5;refine Qi λ_ k6=>Qa [4,5,6,7] ?_;refine Qq h (λ_ h=>?_) (λ_ h=>?_)
      ·refine Qt <|k6 <|Qi λ_ k7=>Qm ?_;have⟨_,_,_,_,_,_,_,_,h⟩:=bs4 h;have⟨_,_,h⟩:=bs h;refine QL [14,16,17] ?_;refine k7 <|QL [2,3,4] ?_;exact Qz k5 ((sj h).symm) [0,1,2]
      refine QP <|Qz J5 (ho _ (sj h).symm) [2]
     refine Qt ?_;obtain rfl:=sj h;exact QI J4 [1]
    replace h:=h3;clear h3;refine Qq h (λ_ h=>?_) (λ_ h=>?_)
    ·have⟨_,_,h⟩:=bs h;refine QL [4,6,7] ?_;obtain rfl:=sj h;exact QI J3 [0,1,2]
    refine Qt ?_;obtain rfl:=sj h;exact QI J3 [1,2,3]
   replace h:=h2;clear h2;refine Qq h (λ_ h=>?_) (λ_ h=>?_)
   ·have⟨_,_,h⟩:=bs h;refine QL [4,6,7,8] ?_;obtain rfl:=sj h;exact QI J2 [0,1,2,3]
   refine Qt ?_;obtain rfl:=sj h;exact QI J2 [1,2,3,4]
  replace h:=h1;clear h1;refine Qq h (λ_ h=>?_) (λ_ h=>?_)
  ·have⟨_,_,_,_,_,_,h⟩:=bs3 h;refine QL [6,8,9,10,11] ?_;obtain rfl:=sj h;exact QI J1 [0,1,2,3,4]
  refine Qt ?_;obtain rfl:=sj h;exact QI J1 [1,2,3,4,5]
 replace h:=h0;clear h0;refine Qq h (λ_ h=>?_) (λ_ h=>?_)
 ·have⟨_,_,_,_,h⟩:=bs2 h;refine QL [5,7,8,9,10,11] ?_;obtain rfl:=sj h;exact QI J0 [0,1,2,3,4,5]
 refine Qt ?_;obtain rfl:=sj h;exact QI J0 [1,2,3,4,5,6]

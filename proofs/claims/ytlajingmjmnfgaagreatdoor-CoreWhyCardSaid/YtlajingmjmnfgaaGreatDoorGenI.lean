/- The walk. No condition. -/
import Derived.Test.YtlajingmjmnfgaaGreatDoorGenH
set_option linter.all false
open Go.Proofs.Tryz Go.IntKind
namespace Go.Proofs.YtlajingmjmnfgaaGreatDoor
noncomputable section
open Go.Sim
set_option maxRecDepth 100000
set_option maxHeartbeats 4000000
def QeZ (f_:Qd):Option (Bool):=(Qbr f_.Xi).bind λt0=>(opt (((decide (f_.Xi<0))||(decide (f_.Xi>=9)))==false) (Qa4 f_.Xj) default).bind λt1=>(if ((((((((decide (f_.Xi<0))||(decide (f_.Xi>=9)))||(!t1))||((!t0.1)&&(f_.Of !=([]:Str))))||((!t0.2.1)&&(f_.Up !=([]:Str))))||((!t0.2.2.1)&&(f_.Lo !=0)))||((!t0.2.2.2.1)&&(f_.Hi !=0)))||((!t0.2.2.2.2)&&(decide ((i64.wrap ((f_.Words.length:Int)+(f_.Xf.length:Int)))>0))))=true then (some false) else (opt (t0.1==true) (Qa4 f_.Of) default).bind λt2=>(opt ((((t0.1&&(!t2))&&((f_.Xi !=4)||(f_.Of !=([]:Str))))==false)&&(t0.2.1==true)) (Qa4 f_.Up) default).bind λt3=>(if (((t0.1&&(!t2))&&((f_.Xi !=4)||(f_.Of !=([]:Str))))||(t0.2.1&&(!t3)))=true then (some false) else (if (f_.Xi==0)=true then (QaO f_.Lo (-1048576) 1048576).bind λt4=>(some t4) else (if (f_.Xi==1)=true then (Qdd f_.Lo f_.Hi 0 65536).bind λt5=>(some t5) else (if (f_.Xi==2)=true then (Qdd f_.Lo f_.Hi (-1048576) 1048576).bind λt6=>(some t6) else (if (f_.Xi==4)=true then (Qdd f_.Lo f_.Hi (-1048576) 1048576).bind λt7=>(some t7) else (if (f_.Xi==5)=true then (Qdd f_.Lo f_.Hi 0 32).bind λt8=>(some t8) else (if (f_.Xi==7)=true then (Qdd f_.Lo f_.Hi 0 1048576).bind λt9=>(some t9) else (if (f_.Xi==3)=true then (QfB f_).bind λt10=>(some t10) else (some true))))))))))
instance Qx7:Spc1 prog 215 QeZ (λf_=>[Qe.ty f_]) tb:=.mk λ{f_ r} h=>by
 unfold QeZ at h
 refine Fe func215 ntmps215 λM0 M w0 hpl=>?_
 refine Qa [0] ?_
 have⟨_,_,h⟩:=bs h
 refine Qa [9,10,11,12,13,14] ?_
 have⟨_,_,h⟩:=bs h
 refine tIfs h [63,64,65,69] (λ_ h=>?_) (λ_ h=>?_)
 ·refine Qa [0] ?_
  exact Qo h (·▸Ql hpl)
 have⟨_,_,_,_,h⟩:=bs2 h
 refine tIfs h [25,29] (λ_ h=>?_) (λ_ h=>?_)
 ·refine Qa [0] ?_
  exact Qo h (·▸Ql hpl)
 refine Qf λ_ k0=>?_
 refine Qa [1,3] ?_
 refine Qj ?_
 refine Qa [1,2,3] ?_
 refine Qn h (λ_ h=>?_) (λ_ h=>?_)
 ·have⟨_,_,h⟩:=bs h
  refine Qa [3] ?_
  exact Qo h (·▸Ql hpl)
 refine Qa [1,3,4] ?_
 refine Qn h (λ_ h=>?_) (λ_ h=>?_)
 ·have⟨_,_,h⟩:=bs h
  refine Qa [5] ?_
  exact Qo h (·▸Ql hpl)
 refine Qa [1,3,4] ?_
 refine Qn h (λ_ h=>?_) (λ_ h=>?_)
 ·have⟨_,_,h⟩:=bs h
  refine Qa [5] ?_
  exact Qo h (·▸Ql hpl)
 refine Qa [1,3,4] ?_
 refine Qn h (λ_ h=>?_) (λ_ h=>?_)
 ·have⟨_,_,h⟩:=bs h
  refine Qa [5] ?_
  exact Qo h (·▸Ql hpl)
 refine Qa [1,3,4] ?_
 refine Qn h (λ_ h=>?_) (λ_ h=>?_)
 ·have⟨_,_,h⟩:=bs h
  refine Qa [5] ?_
  exact Qo h (·▸Ql hpl)
 refine Qa [1,3,4] ?_
 refine Qn h (λ_ h=>?_) (λ_ h=>?_)
 ·have⟨_,_,h⟩:=bs h
  refine Qa [5] ?_
  exact Qo h (·▸Ql hpl)
 refine Qa [1,4] ?_
 refine Qn h (λ_ h=>?_) (λ_ h=>?_)
 ·have⟨_,_,h⟩:=bs h
  refine Qa [2] ?_
  exact Qo h (·▸Ql hpl)
 refine Qq ?_
 refine k0 ?_
 refine Qa [0] ?_
 exact Qo h (·▸Ql hpl)
def QfC (k_:Qi):Option (Bool):=(Qa4 k_.Xj).bind λt0=>(opt ((!t0)==false) (Qdd k_.Lo k_.Hi 0 65536) default).bind λt1=>(if (((!t0)||(!t1))||(decide ((k_.Xb.length:Int)>10)))=true then (some false) else (Qm (λ(s0:Int)=>((if (decide (s0<(k_.Xb.length:Int)))=true then (idx k_.Xb s0).bind λt2=>(QeZ t2).bind λt3=>(if (!t3)=true then (some (.inr (.inr false))) else (some (.inl (i64.wrap (s0+1))))) else (some (.inr (.inl ())))):Option ((Int)⊕((Unit)⊕(Bool))))) (0:Int)).bind λe0=>(match e0 with | .inl _=>(some true) | .inr p0=>(some p0)))
instance Qy3:Spc1 prog 186 QfC (λk_=>[Qg.ty k_]) tb:=.mk λ{k_ r} h=>by
 unfold QfC at h
 refine Fe func186 ntmps186 λM0 M w0 hpl=>?_
 refine Qa [0] ?_
 have⟨_,_,_,_,h⟩:=bs2 h
 refine tIfs h [17,18] (λ_ h=>?_) (λ_ h=>?_)
 ·refine Qa [0] ?_
  exact Qo h (·▸Ql hpl)
 refine Qf λK0 k0=>?_
 refine Qa [0,2] ?_
 have⟨e0,h0,h⟩:=bs h
 have J0:∀(p0:Unit),(.inl p0)=e0->To M w0 36 [] [] K0:=by
  intro p0 he;subst he;simp only at h;refine k0 <|Qa [0] ?_;exact Qo h (·▸Ql hpl)
 have J1:∀(p1:Bool),(.inr p1)=e0->To M w0 36 [(2,tb p1)] [] (Ret prog f186 M0 [] w0 (λ_=>[]) (λ_=>tb r) .ret):=by
  intro p1 he;subst he;simp only at h;obtain rfl:=sj h;exact Ql hpl
 refine Qj <|Qai h0 (λ(s0:Int)=>[(3,ti s0),(1,tptr (Qg.cs k_))]) (λ(s0:Int)=>[]) [0,1] ?_;clear h;intro s0 o K1 h ho k1;refine Qf λ_ k2=>Qa [4,5,6] ?_;refine Qn h (λ_ h=>?_) (λ_ h=>?_)
 ·refine Qq <|k2 <|Qf λ_ k3=>Qj ?_;have⟨_,_,_,_,h⟩:=bs2 h;refine Qa [6,8,9] ?_;refine Qn h (λ_ h=>?_) (λ_ h=>?_)
  ·refine Qa [0] ?_;refine Qam ?_;exact Qu J1 (ho _ (sj h).symm) [0]
  refine Qq <|k3 <|QL [2,4] ?_;exact Qu k1 ((sj h).symm) [0,1]
 refine QO <|Qu J0 (ho _ (sj h).symm) []
def QfD (x_:QC):Option (Bool):=(Qa4 x_.Xj).bind λt0=>(opt ((!t0)==false) (QaO (x_.Xe.length:Int) 1 12) default).bind λt1=>(opt (((!t0)||(!t1))==false) (QeY x_.Xe) default).bind λt2=>(if ((((!t0)||(!t1))||(!t2))||(decide ((x_.Xg.length:Int)>32)))=true then (some false) else (Qm (λ(s0:Int)=>((if (decide (s0<(x_.Xg.length:Int)))=true then (idx x_.Xg s0).bind λt3=>(QaO t3.a0 0 (i64.wrap ((x_.Xe.length:Int) - 1))).bind λt4=>(opt ((!t4)==false) (idx x_.Xg s0) default).bind λt5=>(opt ((!t4)==false) (QaO t5.a1 0 (i64.wrap ((x_.Xe.length:Int) - 1))) default).bind λt6=>(if ((!t4)||(!t6))=true then (some (.inr (.inr false))) else (some (.inl (i64.wrap (s0+1))))) else (some (.inr (.inl ())))):Option ((Int)⊕((Unit)⊕(Bool))))) (0:Int)).bind λe0=>(match e0 with | .inl _=>(some true) | .inr p0=>(some p0)))
instance Qy4:Spc1 prog 187 QfD (λx_=>[QA.ty x_]) tb:=.mk λ{x_ r} h=>by
 unfold QfD at h
 refine Fe func187 ntmps187 λM0 M w0 hpl=>?_
 refine Qa [0] ?_
 have⟨_,_,_,_,_,_,h⟩:=bs3 h
 refine tIfs h [22,23] (λ_ h=>?_) (λ_ h=>?_)
 ·refine Qa [0] ?_
  exact Qo h (·▸Ql hpl)
 refine Qf λK0 k0=>?_
 refine Qa [0,2] ?_
 have⟨e0,h0,h⟩:=bs h
 have J0:∀(p0:Unit),(.inl p0)=e0->To M w0 60 [] [] K0:=by
  intro p0 he;subst he;simp only at h;refine k0 <|Qa [0] ?_;exact Qo h (·▸Ql hpl)
 have J1:∀(p1:Bool),(.inr p1)=e0->To M w0 60 [(2,tb p1)] [] (Ret prog f187 M0 [] w0 (λ_=>[]) (λ_=>tb r) .ret):=by
  intro p1 he;subst he;simp only at h;obtain rfl:=sj h;exact Ql hpl
 refine Qj <|Qai h0 (λ(s0:Int)=>[(3,ti s0),(1,tptr (QA.cs x_))]) (λ(s0:Int)=>[]) [0,1] ?_;clear h;intro s0 o K1 h ho k1;refine Qf λ_ k2=>Qa [4,5,6] ?_;refine Qn h (λ_ h=>?_) (λ_ h=>?_)
 ·refine Qq <|k2 <|Qf λ_ k3=>Qj ?_;have⟨_,_,_,_,_,_,_,_,h⟩:=bs4 h;refine Qa [25,27,28] ?_;refine Qn h (λ_ h=>?_) (λ_ h=>?_)
  ·refine Qa [0] ?_;refine Qam ?_;exact Qu J1 (ho _ (sj h).symm) [0]
  refine Qq <|k3 <|QL [2,4] ?_;exact Qu k1 ((sj h).symm) [0,1]
 refine QO <|Qu J0 (ho _ (sj h).symm) []
def QfE (r_:Qp):Option (Bool):=(opt ((r_.A !=([]:Str))==true) (Qa4 r_.A) default).bind λt0=>(opt ((((r_.A !=([]:Str))&&(!t0))==false)&&((r_.B !=([]:Str))==true)) (Qa4 r_.B) default).bind λt1=>(if ((((r_.A !=([]:Str))&&(!t0))||((r_.B !=([]:Str))&&(!t1)))||((r_.A==([]:Str))&&(r_.B==([]:Str))))=true then (some false) else (Qa4 r_.Xj).bind λt2=>(opt (t2==true) (Qa4 r_.Xi) default).bind λt3=>(opt ((t2&&t3)==true) (QaO r_.N (-1048576) 1048576) default).bind λt4=>(some ((t2&&t3)&&t4)))
instance Qy5:Spc1 prog 188 QfE (λr_=>[Qt.ty r_]) tb:=.mk λ{r_ r} h=>by
 unfold QfE at h
 refine Fe func188 ntmps188 λM0 M w0 hpl=>?_
 refine Qa [0] ?_
 have⟨_,_,_,_,h⟩:=bs2 h
 refine tIfs h [29,30] (λ_ h=>?_) (λ_ h=>?_)
 ·refine Qa [0] ?_
  exact Qo h (·▸Ql hpl)
 have⟨_,_,_,_,_,_,h⟩:=bs3 h
 refine Qa [13] ?_
 exact Qo h (·▸Ql hpl)
def QcL (self:Int->Option (Str)) (n_:Int):Option (Str):=(if (decide (n_<0))=true then (self (i64.wrap (0 - n_))).bind λt0=>(cat (([45]:Str).length+t0.length)).bind λ_=>(some (([45]:Str)++t0)) else (if (decide (n_<10))=true then (some (Qiy [(u8.wrap (i64.wrap ((48:Int)+n_)))])) else (self (i64.wrap (Int.tdiv n_ (10:Int)))).bind λt1=>(cat (t1.length+(Qiy [(u8.wrap (i64.wrap ((48:Int)+(Int.tmod n_ (10:Int)))))]).length)).bind λ_=>(some (t1++(Qiy [(u8.wrap (i64.wrap ((48:Int)+(Int.tmod n_ (10:Int)))))])))))
theorem Qmz {self:Int->Option (Str)} (hself:∀(n_:Int) (r:Str),self n_=some r->FnOk prog 230 [ti n_] [] (λ_=>[]) (λ_=>tv (.string (sB r)))) {n_:Int} {r:Str} (h:QcL self n_=some r):FnOk prog 230 [ti n_] [] (λ_=>[]) (λ_=>tv (.string (sB r))):=by
 unfold QcL at h;refine fe func230 ntmps230 λM0 M w0 a hpl H=>?_;refine sr mx [] H (λ_=>.o (Qr .k)<|.n) λ_ a w H=>?_;have H:=H.t1_0 [1];refine wp_seq_k (λ_ k0=>?_);refine sr mx [] H (λ_=>.q 0 rfl<|.o (Qck z0 .k)<|.n) λ_ a w H=>?_;have H:=H.t2_0 [1,2];refine wi H h (λb0 h=>?_) (λb0 h=>?_)
 ·refine wp_seq_k (λ_ k1=>?_);have⟨t0,h0,u0,h1,h⟩:=bs2 h;refine wr mx [] H (λ_=>.q 1 rfl<|.o (Qnp z0)<|.o (QN QoH (hself _ _ h0) (.cons (.of z0)<|.nil))<|.o (Qec .k z0 h1)<|.o (Qr z0)<|.n) λ_ a w H=>?_;have H:=H.t1_0 [4];refine k1 _ _ ?_;exact r0 h (·▸r1 hpl H (.tmp z0 .nil))
 refine wp_skip (k0 _ _ ?_);refine wp_seq_k (λ_ k2=>?_);refine sr mx [] H (λ_=>.q 1 rfl<|.o (Qck z0 .k)<|.n) λ_ a w H=>?_;have H:=H.t2_0 [1,3];refine wi H h (λb1 h=>?_) (λb1 h=>?_)
 ·refine sr mx [] H (λ_=>.q 1 rfl<|.o (QaH .k z0)<|.o (QcZ ud3 ud5 z0)<|.o (Qaq (R:=(rInt .u8)) (us:=[(u8.wrap (i64.wrap ((48:Int)+n_)))]) QnP tok5 (.cons z0<|.nil _) rfl (leb rfl))<|.o (QuN QnP ud5 ud9 z0)<|.o (Qr z0)<|.n) λ_ a w H=>?_;have H:=H.t1_0 [5];exact r0 h (·▸r1 hpl H (.tmp z0 .nil))
 refine wp_skip (k2 _ _ ?_);refine wp_seq_k (λ_ k3=>?_);have⟨t1,h2,u1,h3,h⟩:=bs2 h;refine wr mx [] H (λ_=>.q 1 rfl<|.o (Qnm z0 .k (by decide))<|.o (QN QoH (hself _ _ h2) (.cons (.of z0)<|.nil))<|.q 4 rfl<|.o (Qnn z0 .k (by decide))<|.o (QaH .k z0)<|.o (QcZ ud3 ud5 z0)<|.o (Qaq (R:=(rInt .u8)) (us:=[(u8.wrap (i64.wrap ((48:Int)+(Int.tmod n_ (10:Int)))))]) QnP tok5 (.cons z0<|.nil _) rfl (leb rfl))<|.o (QuN QnP ud5 ud9 z0)<|.o (Qec z6 z0 h3)<|.o (Qr z0)<|.n) λ_ a w H=>?_;have H:=H.t1_0 [10];refine k3 _ _ ?_;exact r0 h (·▸r1 hpl H (.tmp z0 .nil))
def Qdp:Nat->Int->Option (Str)
 | 0=>λ_=>none
 | n+1=>QcL (Qdp n)
theorem Qia:∀(n:Nat) (n_:Int) (r:Str),Qdp n n_=some r->FnOk prog 230 [ti n_] [] (λ_=>[]) (λ_=>tv (.string (sB r)))
 | 0,_,r,h=>by cases h
 | n+1,n_,r,h=>Qmz (λn_ r h=>Qia n n_ r h) h
def Qe0 (n_:Int):Option (Str):=Qdp (n_.natAbs+2) n_
theorem QmX {n_:Int} {r:Str} (h:Qe0 n_=some r):FnOk prog 230 [ti n_] [] (λ_=>[]) (λ_=>tv (.string (sB r))):=Qia _ _ _ h
instance :Spc1 prog 230 (λ(n_:Int)=>Qe0 n_) (λ(n_:Int)=>[ti n_]) (λ(r:Str)=>tv (.string (sB r))):=⟨λh=>QmX h⟩
def Qbm (s_:Str) (n_:Int):Option (Str):=(cat (s_.length+([32]:Str).length)).bind λ_=>(Qe0 n_).bind λt0=>(cat ((s_++([32]:Str)).length+t0.length)).bind λ_=>(some ((s_++([32]:Str))++t0))
instance QCr:Spc2 prog 217 Qbm (λs_ n_=>[tv (.string (sB s_)),ti n_]) (λr=>tv (.string (sB r))):=.mk λ{s_ n_ r} h=>by
 unfold Qbm at h
 refine Fe func217 ntmps217 λM0 M w0 hpl=>?_
 refine Qa [1,2] ?_
 have⟨_,_,_,_,_,_,h⟩:=bs3 h
 refine Qa [5] ?_
 exact Qo h (·▸Ql hpl)
def QbB:Option ((List Str)):=(some [([107,101,121]:Str),([114,101,102]:Str),([110,117,109]:Str),([112,105,99,107]:Str),([100,97,121]:Str),([115,116,101,112]:Str),([115,117,109]:Str),([115,104,97,114,101]:Str),([99,111,112,121]:Str)])
instance QBo:Spc0 prog 231 (QbB) ([]) (tsl rS):=.mk λ{r} h=>by
 unfold QbB at h
 refine Fe func231 ntmps231 λM0 M w0 hpl=>?_
 refine Qa [] ?_
 refine Qa [1] ?_
 exact Qo h (·▸Ql hpl)
def Qd6 (s_:Str):Option (Str):=(if (s_==([]:Str))=true then (some ([45]:Str)) else (some s_))
instance QBp:Spc1 prog 219 Qd6 (λs_=>[tv (.string (sB s_))]) (λr=>tv (.string (sB r))):=.mk λ{s_ r} h=>by
 unfold Qd6 at h
 refine Fe func219 ntmps219 λM0 M w0 hpl=>?_
 refine Qa [1] ?_
 refine tIfs h [1,2] (λ_ h=>?_) (λ_ h=>?_)
 ·refine Qa [0] ?_
  exact Qo h (·▸Ql hpl)
 refine Qa [1] ?_
 exact Qo h (·▸Ql hpl)
def QaD (f_:Qd):Option (Str):=(Qbr f_.Xi).bind λt0=>QbB.bind λt1=>(idx t1 f_.Xi).bind λt2=>(cat (([10]:Str).length+t2.length)).bind λ_=>(cat ((([10]:Str)++t2).length+([32]:Str).length)).bind λ_=>(cat (((([10]:Str)++t2)++([32]:Str)).length+f_.Xj.length)).bind λ_=>((if t0.2.1=true then (cat ((((([10]:Str)++t2)++([32]:Str))++f_.Xj).length+([32]:Str).length)).bind λ_=>(cat (((((([10]:Str)++t2)++([32]:Str))++f_.Xj)++([32]:Str)).length+f_.Up.length)).bind λ_=>(some (((((([10]:Str)++t2)++([32]:Str))++f_.Xj)++([32]:Str))++f_.Up)) else (some (((([10]:Str)++t2)++([32]:Str))++f_.Xj)))).bind λp0=>((if t0.1=true then (cat (p0.length+([32]:Str).length)).bind λ_=>(Qd6 f_.Of).bind λt3=>(cat ((p0++([32]:Str)).length+t3.length)).bind λ_=>(some ((p0++([32]:Str))++t3)) else (some p0))).bind λp1=>((if t0.2.2.1=true then (Qbm p1 f_.Lo).bind λt4=>(some t4) else (some p1))).bind λp2=>((if t0.2.2.2.1=true then (Qbm p2 f_.Hi).bind λt5=>(some t5) else (some p2))).bind λp3=>((if t0.2.2.2.2=true then (Qbm p3 (f_.Words.length:Int)).bind λt6=>(Qm (λ(s0:Int×Str)=>((if (decide (s0.1<(f_.Words.length:Int)))=true then (cat (s0.2.length+([32]:Str).length)).bind λ_=>(idx f_.Words s0.1).bind λt7=>(cat ((s0.2++([32]:Str)).length+t7.length)).bind λ_=>(idx f_.Xf s0.1).bind λt8=>(Qbm ((s0.2++([32]:Str))++t7) t8).bind λt9=>(some (.inl ((i64.wrap (s0.1+1)),t9))) else (some (.inr s0.2))):Option ((Int×Str)⊕((Str))))) ((0:Int),t6)).bind λp4=>(some p4) else (some p3))).bind λp5=>(some p5)
instance QCl:Spc1 prog 218 QaD (λf_=>[Qe.ty f_]) (λr=>tv (.string (sB r))):=.mk λ{f_ r} h=>by
 unfold QaD at h
 refine Fe func218 ntmps218 λM0 M w0 hpl=>?_
 refine Qa [0] ?_
 have⟨t0,_,h⟩:=bs h
 refine Qa [9,10,11,12,13,14] ?_
 have⟨_,_,_,_,_,_,_,_,h⟩:=bs4 h
 have⟨_,_,h⟩:=bs h
 refine Qa [10,11,12,13,14,15,16] ?_
 refine Qf λK0 k0=>?_
 refine Qa [0,1,2,4,5,6,7] ?_
 have⟨p0,h0,h⟩:=bs h
 have J0:To M w0 80 [(8,tv (.string (sB p0))),(3,tb t0.1),(5,tb t0.2.2.1),(6,tb t0.2.2.2.1),(7,tb t0.2.2.2.2),(1,tptr (Qe.cs f_))] [] K0:=by
  refine k0 <|Qf λK1 k1=>Qa [0,1,3,4,5,6] ?_;have⟨p1,h1,h⟩:=bs h;have J1:To M w0 80 [(8,tv (.string (sB p1))),(5,tb t0.2.2.1),(6,tb t0.2.2.2.1),(7,tb t0.2.2.2.2),(1,tptr (Qe.cs f_))] [] K1:=by
   refine k1 <|Qf λK2 k2=>Qa [0,1,3,4,5] ?_;have⟨p2,h2,h⟩:=bs h;have J2:To M w0 80 [(8,tv (.string (sB p2))),(6,tb t0.2.2.2.1),(7,tb t0.2.2.2.2),(1,tptr (Qe.cs f_))] [] K2:=by
    refine k2 <|Qf λK3 k3=>Qa [0,1,3,4] ?_;have⟨p3,h3,h⟩:=bs h;have J3:To M w0 80 [(8,tv (.string (sB p3))),(7,tb t0.2.2.2.2),(1,tptr (Qe.cs f_))] [] K3:=by
     refine k3 <|Qf λK4 k4=>Qa [0,1,3] ?_;have⟨p4,h4,h⟩:=bs h;have J4:To M w0 80 [(8,tv (.string (sB p4)))] [] K4:=by
      refine k4 <|Qa [1] ?_;exact Qo h (·▸Ql hpl)
     replace h:=h4;clear h4;refine Qn h (λ_ h=>?_) (λ_ h=>?_)
     ·have⟨_,_,h⟩:=bs h;refine Qa [5,7] ?_;refine Qa [0,1,2] ?_;have⟨e0,h5,h⟩:=bs h;have J5:∀(p5:Str),p5=e0->To M w0 80 [(8,tv (.string (sB p5)))] [] K4:=by
       intro p5 he;subst he;obtain rfl:=sj h;exact QK J4 [0]
      refine Qj <|Qai h5 (λ(s0:Int×Str)=>[(9,ti s0.1),(8,tv (.string (sB s0.2))),(1,tptr (Qe.cs f_))]) (λ(s0:Int×Str)=>[]) [0,1,2] ?_;clear h;intro s0 o K5 h ho k5;refine Qf λ_ k6=>Qa [4,5,6,7] ?_;refine Qn h (λ_ h=>?_) (λ_ h=>?_)
      ·refine Qq <|k6 <|Qf λ_ k7=>Qj ?_;have⟨_,_,_,_,_,_,_,_,h⟩:=bs4 h;have⟨_,_,h⟩:=bs h;refine QL [14,16,17] ?_;refine k7 <|QL [2,3,4] ?_;exact Qu k5 ((sj h).symm) [0,1,2]
      refine QO <|Qu J5 (ho _ (sj h).symm) [2]
     refine Qq ?_;obtain rfl:=sj h;exact QK J4 [1]
    replace h:=h3;clear h3;refine Qn h (λ_ h=>?_) (λ_ h=>?_)
    ·have⟨_,_,h⟩:=bs h;refine QL [4,6,7] ?_;obtain rfl:=sj h;exact QK J3 [0,1,2]
    refine Qq ?_;obtain rfl:=sj h;exact QK J3 [1,2,3]
   replace h:=h2;clear h2;refine Qn h (λ_ h=>?_) (λ_ h=>?_)
   ·have⟨_,_,h⟩:=bs h;refine QL [4,6,7,8] ?_;obtain rfl:=sj h;exact QK J2 [0,1,2,3]
   refine Qq ?_;obtain rfl:=sj h;exact QK J2 [1,2,3,4]
  replace h:=h1;clear h1;refine Qn h (λ_ h=>?_) (λ_ h=>?_)
  ·have⟨_,_,_,_,_,_,h⟩:=bs3 h;refine QL [6,8,9,10,11] ?_;obtain rfl:=sj h;exact QK J1 [0,1,2,3,4]
  refine Qq ?_;obtain rfl:=sj h;exact QK J1 [1,2,3,4,5]
 replace h:=h0;clear h0;refine Qn h (λ_ h=>?_) (λ_ h=>?_)
 ·have⟨_,_,_,_,h⟩:=bs2 h;refine QL [5,7,8,9,10,11] ?_;obtain rfl:=sj h;exact QK J0 [0,1,2,3,4,5]
 refine Qq ?_;obtain rfl:=sj h;exact QK J0 [1,2,3,4,5,6]
def QfF (x_:Qb):Option (Str):=(Qbm ([115,99,104,101,109,97]:Str) x_.Version).bind λt0=>(Qm (λ(s0:Int×Str)=>((if (decide (s0.1<(x_.Xa.length:Int)))=true then (idx x_.Xa s0.1).bind λt1=>(cat (s0.2.length+([10,107,105,110,100,32]:Str).length)).bind λ_=>(cat ((s0.2++([10,107,105,110,100,32]:Str)).length+t1.Xj.length)).bind λ_=>(Qbm ((s0.2++([10,107,105,110,100,32]:Str))++t1.Xj) t1.Lo).bind λt2=>(Qbm t2 t1.Hi).bind λt3=>(Qm (λ(s1:Int×Str)=>((if (decide (s1.1<(t1.Xb.length:Int)))=true then (idx t1.Xb s1.1).bind λt4=>(QaD t4).bind λt5=>(cat (s1.2.length+t5.length)).bind λ_=>(some (.inl ((i64.wrap (s1.1+1)),(s1.2++t5)))) else (some (.inr s1.2))):Option ((Int×Str)⊕((Str))))) ((0:Int),t3)).bind λp0=>(some (.inl ((i64.wrap (s0.1+1)),p0))) else (some (.inr s0.2))):Option ((Int×Str)⊕((Str))))) ((0:Int),t0)).bind λp1=>(Qm (λ(s2:Int×Str)=>((if (decide (s2.1<(x_.Xd.length:Int)))=true then (idx x_.Xd s2.1).bind λt6=>(cat (s2.2.length+([10,108,105,102,101,32]:Str).length)).bind λ_=>(cat ((s2.2++([10,108,105,102,101,32]:Str)).length+t6.Xj.length)).bind λ_=>(Qbm ((s2.2++([10,108,105,102,101,32]:Str))++t6.Xj) (t6.Xe.length:Int)).bind λt7=>(Qm (λ(s3:Int×Str)=>((if (decide (s3.1<(t6.Xe.length:Int)))=true then (cat (s3.2.length+([32]:Str).length)).bind λ_=>(idx t6.Xe s3.1).bind λt8=>(cat ((s3.2++([32]:Str)).length+t8.length)).bind λ_=>(some (.inl ((i64.wrap (s3.1+1)),((s3.2++([32]:Str))++t8)))) else (some (.inr s3.2))):Option ((Int×Str)⊕((Str))))) ((0:Int),t7)).bind λp2=>(Qm (λ(s4:Int×Str)=>((if (decide (s4.1<(t6.Xg.length:Int)))=true then (cat (s4.2.length+([10,109,111,118,101]:Str).length)).bind λ_=>(idx t6.Xg s4.1).bind λt9=>(Qbm (s4.2++([10,109,111,118,101]:Str)) t9.a0).bind λt10=>(idx t6.Xg s4.1).bind λt11=>(Qbm t10 t11.a1).bind λt12=>(some (.inl ((i64.wrap (s4.1+1)),t12))) else (some (.inr s4.2))):Option ((Int×Str)⊕((Str))))) ((0:Int),p2)).bind λp3=>(some (.inl ((i64.wrap (s2.1+1)),p3))) else (some (.inr s2.2))):Option ((Int×Str)⊕((Str))))) ((0:Int),p1)).bind λp4=>(Qm (λ(s5:Int×Str)=>((if (decide (s5.1<(x_.Xc.length:Int)))=true then (idx x_.Xc s5.1).bind λt13=>(cat (s5.2.length+([10,114,117,108,101,32]:Str).length)).bind λ_=>(cat ((s5.2++([10,114,117,108,101,32]:Str)).length+t13.Xj.length)).bind λ_=>(cat (((s5.2++([10,114,117,108,101,32]:Str))++t13.Xj).length+([32]:Str).length)).bind λ_=>(cat ((((s5.2++([10,114,117,108,101,32]:Str))++t13.Xj)++([32]:Str)).length+t13.Xi.length)).bind λ_=>(cat (((((s5.2++([10,114,117,108,101,32]:Str))++t13.Xj)++([32]:Str))++t13.Xi).length+([32]:Str).length)).bind λ_=>(Qd6 t13.A).bind λt14=>(cat ((((((s5.2++([10,114,117,108,101,32]:Str))++t13.Xj)++([32]:Str))++t13.Xi)++([32]:Str)).length+t14.length)).bind λ_=>(cat (((((((s5.2++([10,114,117,108,101,32]:Str))++t13.Xj)++([32]:Str))++t13.Xi)++([32]:Str))++t14).length+([32]:Str).length)).bind λ_=>(Qd6 t13.B).bind λt15=>(cat ((((((((s5.2++([10,114,117,108,101,32]:Str))++t13.Xj)++([32]:Str))++t13.Xi)++([32]:Str))++t14)++([32]:Str)).length+t15.length)).bind λ_=>(Qbm ((((((((s5.2++([10,114,117,108,101,32]:Str))++t13.Xj)++([32]:Str))++t13.Xi)++([32]:Str))++t14)++([32]:Str))++t15) t13.N).bind λt16=>(some (.inl ((i64.wrap (s5.1+1)),t16))) else (some (.inr s5.2))):Option ((Int×Str)⊕((Str))))) ((0:Int),p4)).bind λp5=>(cat (p5.length+([10]:Str).length)).bind λ_=>(some (p5++([10]:Str)))
instance Qy6:Spc1 prog 189 QfF (λx_=>[Qc.ty x_]) (λr=>tv (.string (sB r))):=.mk λ{x_ r} h=>by
 unfold QfF at h
 refine Fe func189 ntmps189 λM0 M w0 hpl=>?_
 refine Qa [0] ?_
 have⟨_,_,h⟩:=bs h
 refine Qa [3,4] ?_
 refine Qf λK0 k0=>?_
 refine Qa [0,1,2] ?_
 have⟨e0,h0,h⟩:=bs h
 have J0:∀(p0:Str),p0=e0->To M w0 149 [(3,tv (.string (sB p0))),(1,tptr (Qc.cs x_))] [] K0:=by
  intro p0 he;subst he;refine k0 <|Qf λK1 k1=>Qa [0,1,2] ?_;have⟨e1,h1,h⟩:=bs h;have J1:∀(p1:Str),p1=e1->To M w0 149 [(3,tv (.string (sB p1))),(1,tptr (Qc.cs x_))] [] K1:=by
   intro p1 he;subst he;refine k1 <|Qf λK2 k2=>Qa [0,1,2] ?_;have⟨e2,h2,h⟩:=bs h;have J2:∀(p2:Str),p2=e2->To M w0 149 [(3,tv (.string (sB p2)))] [] K2:=by
    intro p2 he;subst he;refine k2 ?_;have⟨_,_,h⟩:=bs h;refine Qa [2] ?_;exact Qo h (·▸Ql hpl)
   refine Qj <|Qai h2 (λ(s0:Int×Str)=>[(11,ti s0.1),(3,tv (.string (sB s0.2))),(1,tptr (Qc.cs x_))]) (λ(s0:Int×Str)=>[]) [0,1,2] ?_;clear h;intro s0 o K3 h ho k3;refine Qf λ_ k4=>Qa [4,5,6,7] ?_;refine Qn h (λ_ h=>?_) (λ_ h=>?_)
   ·refine Qq <|k4 <|Qf λ_ k5=>Qj ?_;have⟨t0,_,h⟩:=bs h;refine QJ [v1 5 (λv0=>box (Qt.cs zz3) v0),v1 5 (λv0=>box (Qt.cs t0) v0)] [6,7] [5,7,8,9] λm0=>?_;refine QY (λ_ _ H=>((H.Xl 0 rfl).add 0 rfl (λ_ _ _ h=>h.2)).pick [0,3,4,5]) ?_;have⟨_,_,_,_,_,_,_,_,h⟩:=bs4 h;have⟨_,_,_,_,_,_,_,_,h⟩:=bs4 h;have⟨_,_,_,_,_,_,h⟩:=bs3 h;refine QL [22,24,25] ?_;refine k5 <|QL [2,3,4] ?_;exact Qu k3 ((sj h).symm) [0,1,2]
   refine QO <|Qu J2 (ho _ (sj h).symm) [2]
  refine Qj <|Qai h1 (λ(s1:Int×Str)=>[(7,ti s1.1),(3,tv (.string (sB s1.2))),(1,tptr (Qc.cs x_))]) (λ(s1:Int×Str)=>[]) [0,1,2] ?_;clear h;intro s1 o K4 h ho k6;refine Qf λ_ k7=>Qa [4,5,6,7] ?_;refine Qn h (λ_ h=>?_) (λ_ h=>?_)
  ·refine Qq <|k7 <|Qf λK5 k8=>Qj ?_;have⟨t1,_,h⟩:=bs h;refine QJ [v1 5 (λv0=>box (QA.cs zz2) v0),v1 5 (λv0=>box (QA.cs t1) v0)] [6,7] [5,7,8,9] λm1=>?_;refine QY (λ_ _ H=>((H.Xl 0 rfl).add 0 rfl (λ_ _ _ h=>h.2)).pick [0,3,4,5]) ?_;have⟨_,_,_,_,_,_,h⟩:=bs3 h;refine Qa [9,10,11,12] ?_;refine Qf λK6 k9=>Qa [0,1,2,3,4] ?_;have⟨e3,h3,h⟩:=bs h;have J3:∀(p3:Str),p3=e3->To M w0 149 [(3,tv (.string (sB p3))),(8,tptr (QA.cs t1)),(7,ti s1.1),(1,tptr (Qc.cs x_))] [] K6:=by
    intro p3 he;subst he;refine k9 <|Qa [0,1,2,3,4] ?_;have⟨e4,h4,h⟩:=bs h;have J4:∀(p4:Str),p4=e4->To M w0 149 [(3,tv (.string (sB p4))),(7,ti s1.1),(1,tptr (Qc.cs x_))] [] K5:=by
     intro p4 he;subst he;refine k8 <|QL [2,3,4] ?_;exact Qu k6 ((sj h).symm) [0,1,2]
    refine Qj <|Qai h4 (λ(s2:Int×Str)=>[(10,ti s2.1),(3,tv (.string (sB s2.2))),(8,tptr (QA.cs t1)),(7,ti s1.1),(1,tptr (Qc.cs x_))]) (λ(s2:Int×Str)=>[]) [0,1,2,3,4] ?_;clear h;intro s2 o K7 h ho k10;refine Qf λ_ k11=>Qa [4,5,6,7,8,9] ?_;refine Qn h (λ_ h=>?_) (λ_ h=>?_)
    ·refine Qq <|k11 <|Qf λ_ k12=>Qj ?_;have⟨_,_,_,h5,_,_,h⟩:=bs3 h;replace h:=bk h5 h;have⟨_,_,h⟩:=bs h;refine QL [16,18,19,20,21] ?_;refine k12 <|QL [2,3,4,5,6] ?_;exact Qu k10 ((sj h).symm) [0,1,2,3,4]
    refine QO <|Qu J4 (ho _ (sj h).symm) [2,4,5]
   refine Qj <|Qai h3 (λ(s3:Int×Str)=>[(9,ti s3.1),(3,tv (.string (sB s3.2))),(8,tptr (QA.cs t1)),(7,ti s1.1),(1,tptr (Qc.cs x_))]) (λ(s3:Int×Str)=>[]) [0,1,2,3,4] ?_;clear h;intro s3 o K8 h ho k13;refine Qf λ_ k14=>Qa [4,5,6,7,8,9] ?_;refine Qn h (λ_ h=>?_) (λ_ h=>?_)
   ·refine Qq <|k14 <|Qf λ_ k15=>Qj ?_;have⟨_,_,_,_,_,_,h⟩:=bs3 h;refine QL [8,10,11,12,13] ?_;refine k15 <|QL [2,3,4,5,6] ?_;exact Qu k13 ((sj h).symm) [0,1,2,3,4]
   refine QO <|Qu J3 (ho _ (sj h).symm) [2,3,4,5]
  refine QO <|Qu J1 (ho _ (sj h).symm) [2,3]
 refine Qj <|Qai h0 (λ(s4:Int×Str)=>[(4,ti s4.1),(3,tv (.string (sB s4.2))),(1,tptr (Qc.cs x_))]) (λ(s4:Int×Str)=>[]) [0,1,2] ?_;clear h;intro s4 o K9 h ho k16;refine Qf λ_ k17=>Qa [4,5,6,7] ?_;refine Qn h (λ_ h=>?_) (λ_ h=>?_)
 ·refine Qq <|k17 <|Qf λK10 k18=>Qj ?_;have⟨t2,_,h⟩:=bs h;refine QJ [v1 5 (λv0=>box (Qg.cs zz1) v0),v1 5 (λv0=>box (Qg.cs t2) v0)] [6,7] [5,7,8,9] λm2=>?_;refine QY (λ_ _ H=>((H.Xl 0 rfl).add 0 rfl (λ_ _ _ h=>h.2)).pick [0,3,4,5]) ?_;have⟨_,_,_,_,_,_,_,_,h⟩:=bs4 h;refine Qa [11,12,13,14] ?_;refine Qa [0,1,2,3,4] ?_;have⟨e5,h6,h⟩:=bs h;have J5:∀(p5:Str),p5=e5->To M w0 149 [(3,tv (.string (sB p5))),(4,ti s4.1),(1,tptr (Qc.cs x_))] [] K10:=by
   intro p5 he;subst he;refine k18 <|QL [2,3,4] ?_;exact Qu k16 ((sj h).symm) [0,1,2]
  refine Qj <|Qai h6 (λ(s5:Int×Str)=>[(6,ti s5.1),(3,tv (.string (sB s5.2))),(5,tptr (Qg.cs t2)),(4,ti s4.1),(1,tptr (Qc.cs x_))]) (λ(s5:Int×Str)=>[]) [0,1,2,3,4] ?_;clear h;intro s5 o K11 h ho k19;refine Qf λ_ k20=>Qa [4,5,6,7,8,9] ?_;refine Qn h (λ_ h=>?_) (λ_ h=>?_)
  ·refine Qq <|k20 <|Qf λ_ k21=>Qj ?_;have⟨_,_,_,_,_,_,h⟩:=bs3 h;refine QL [8,10,11,12,13] ?_;refine k21 <|QL [2,3,4,5,6] ?_;exact Qu k19 ((sj h).symm) [0,1,2,3,4]
  refine QO <|Qu J5 (ho _ (sj h).symm) [2,4,5]
 refine QO <|Qu J0 (ho _ (sj h).symm) [2,3]

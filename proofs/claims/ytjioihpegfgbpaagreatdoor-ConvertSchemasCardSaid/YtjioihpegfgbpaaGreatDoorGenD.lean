/- The walk. No condition. -/
import Derived.Test.YtjioihpegfgbpaaGreatDoorGenC
set_option linter.all false
open Go.Proofs.Tryz Go.IntKind
namespace Go.Proofs.YtjioihpegfgbpaaGreatDoor
noncomputable section
open Go.Sim
set_option maxRecDepth 100000
set_option maxHeartbeats 4000000
def QfH (f_:Qd):Option (Bool):=(QbL f_.Xh).bind λt0=>(opt (((decide (f_.Xh<0))||(decide (f_.Xh>=9)))==false) (Qbj f_.Xi) default).bind λt1=>(if ((((((((decide (f_.Xh<0))||(decide (f_.Xh>=9)))||(!t1))||((!t0.1)&&(f_.Of !=([]:Str))))||((!t0.2.1)&&(f_.Up !=([]:Str))))||((!t0.2.2.1)&&(f_.Lo !=0)))||((!t0.2.2.2.1)&&(f_.Hi !=0)))||((!t0.2.2.2.2)&&(decide ((i64.wrap ((f_.Words.length:Int)+(f_.Xf.length:Int)))>0))))=true then (some false) else (opt (t0.1==true) (Qbj f_.Of) default).bind λt2=>(opt ((((t0.1&&(!t2))&&((f_.Xh !=4)||(f_.Of !=([]:Str))))==false)&&(t0.2.1==true)) (Qbj f_.Up) default).bind λt3=>(if (((t0.1&&(!t2))&&((f_.Xh !=4)||(f_.Of !=([]:Str))))||(t0.2.1&&(!t3)))=true then (some false) else (if (f_.Xh==0)=true then (Qa2 f_.Lo (-1048576) 1048576).bind λt4=>(some t4) else (if (f_.Xh==1)=true then (QdL f_.Lo f_.Hi 0 65536).bind λt5=>(some t5) else (if (f_.Xh==2)=true then (QdL f_.Lo f_.Hi (-1048576) 1048576).bind λt6=>(some t6) else (if (f_.Xh==4)=true then (QdL f_.Lo f_.Hi (-1048576) 1048576).bind λt7=>(some t7) else (if (f_.Xh==5)=true then (QdL f_.Lo f_.Hi 0 32).bind λt8=>(some t8) else (if (f_.Xh==7)=true then (QdL f_.Lo f_.Hi 0 1048576).bind λt9=>(some t9) else (if (f_.Xh==3)=true then (Qgk f_).bind λt10=>(some t10) else (some true))))))))))
instance Qwi:Spc1 prog 100 QfH (λf_=>[Qe.ty f_]) tb:=.mk λ{f_ r} h=>by
 unfold QfH at h
 refine Fe func100 ntmps100 λM0 M w0 hpl=>?_
 refine QyV [0] ?_
 have⟨_,_,h⟩:=bs h
 refine QyV [9,10,11,12,13,14] ?_
 have⟨_,_,h⟩:=bs h
 refine tIfs h [63,64,65,69] (λ_ h=>?_) (λ_ h=>?_)
 ·refine QyV [0] ?_
  exact QyZ h (·▸QyX hpl)
 have⟨_,_,_,_,h⟩:=bs2 h
 refine tIfs h [25,29] (λ_ h=>?_) (λ_ h=>?_)
 ·refine QyV [0] ?_
  exact QyZ h (·▸QyX hpl)
 refine QyY λ_ k0=>?_
 refine QyV [1,3] ?_
 refine Qy1 ?_
 refine QyV [1,2,3] ?_
 refine Qy0 h (λ_ h=>?_) (λ_ h=>?_)
 ·have⟨_,_,h⟩:=bs h
  refine QyV [3] ?_
  exact QyZ h (·▸QyX hpl)
 refine QyV [1,3,4] ?_
 refine Qy0 h (λ_ h=>?_) (λ_ h=>?_)
 ·have⟨_,_,h⟩:=bs h
  refine QyV [5] ?_
  exact QyZ h (·▸QyX hpl)
 refine QyV [1,3,4] ?_
 refine Qy0 h (λ_ h=>?_) (λ_ h=>?_)
 ·have⟨_,_,h⟩:=bs h
  refine QyV [5] ?_
  exact QyZ h (·▸QyX hpl)
 refine QyV [1,3,4] ?_
 refine Qy0 h (λ_ h=>?_) (λ_ h=>?_)
 ·have⟨_,_,h⟩:=bs h
  refine QyV [5] ?_
  exact QyZ h (·▸QyX hpl)
 refine QyV [1,3,4] ?_
 refine Qy0 h (λ_ h=>?_) (λ_ h=>?_)
 ·have⟨_,_,h⟩:=bs h
  refine QyV [5] ?_
  exact QyZ h (·▸QyX hpl)
 refine QyV [1,3,4] ?_
 refine Qy0 h (λ_ h=>?_) (λ_ h=>?_)
 ·have⟨_,_,h⟩:=bs h
  refine QyV [5] ?_
  exact QyZ h (·▸QyX hpl)
 refine QyV [1,4] ?_
 refine Qy0 h (λ_ h=>?_) (λ_ h=>?_)
 ·have⟨_,_,h⟩:=bs h
  refine QyV [2] ?_
  exact QyZ h (·▸QyX hpl)
 refine Qy2 ?_
 refine k0 ?_
 refine QyV [0] ?_
 exact QyZ h (·▸QyX hpl)
def Qgl (k_:Qh):Option (Bool):=(Qbj k_.Xi).bind λt0=>(opt ((!t0)==false) (QdL k_.Lo k_.Hi 0 65536) default).bind λt1=>(if (((!t0)||(!t1))||(decide ((k_.Xb.length:Int)>10)))=true then (some false) else (Qz (λ(s0:Int)=>((if (decide (s0<(k_.Xb.length:Int)))=true then (idx k_.Xb s0).bind λt2=>(QfH t2).bind λt3=>(if (!t3)=true then (some (.inr (.inr false))) else (some (.inl (i64.wrap (s0+1))))) else (some (.inr (.inl ())))):Option ((Int)⊕((Unit)⊕(Bool))))) (0:Int)).bind λe0=>(match e0 with | .inl _=>(some true) | .inr p0=>(some p0)))
instance QwV:Spc1 prog 76 Qgl (λk_=>[Qp.ty k_]) tb:=.mk λ{k_ r} h=>by
 unfold Qgl at h
 refine Fe func76 ntmps76 λM0 M w0 hpl=>?_
 refine QyV [0] ?_
 have⟨_,_,_,_,h⟩:=bs2 h
 refine tIfs h [17,18] (λ_ h=>?_) (λ_ h=>?_)
 ·refine QyV [0] ?_
  exact QyZ h (·▸QyX hpl)
 refine QyY λK0 k0=>?_
 refine QyV [0,2] ?_
 have⟨e0,h0,h⟩:=bs h
 have J0:∀(p0:Unit),(.inl p0)=e0->To M w0 36 [] [] K0:=by
  intro p0 he;subst he;simp only at h;refine k0 <|QyV [0] ?_;exact QyZ h (·▸QyX hpl)
 have J1:∀(p1:Bool),(.inr p1)=e0->To M w0 36 [(2,tb p1)] [] (Ret prog f76 M0 [] w0 (λ_=>[]) (λ_=>tb r) .ret):=by
  intro p1 he;subst he;simp only at h;obtain rfl:=sj h;exact QyX hpl
 refine Qy1 <|Qzb h0 (λ(s0:Int)=>[(3,ti s0),(1,tptr (Qp.cs k_))]) (λ(s0:Int)=>[]) [0,1] ?_;clear h;intro s0 o K1 h ho k1;refine QyY λ_ k2=>QyV [4,5,6] ?_;refine Qy0 h (λ_ h=>?_) (λ_ h=>?_)
 ·refine Qy2 <|k2 <|QyY λ_ k3=>Qy1 ?_;have⟨_,_,_,_,h⟩:=bs2 h;refine QyV [6,8,9] ?_;refine Qy0 h (λ_ h=>?_) (λ_ h=>?_)
  ·refine QyV [0] ?_;refine Qzd ?_;exact Qy4 J1 (ho _ (sj h).symm) [0]
  refine Qy2 <|k3 <|Qy6 [2,4] ?_;exact Qy4 k1 ((sj h).symm) [0,1]
 refine Qy7 <|Qy4 J0 (ho _ (sj h).symm) []
def Qgm (x_:Qr):Option (Bool):=(Qbj x_.Xi).bind λt0=>(opt ((!t0)==false) (Qa2 (x_.Xe.length:Int) 1 12) default).bind λt1=>(opt (((!t0)||(!t1))==false) (QfG x_.Xe) default).bind λt2=>(if ((((!t0)||(!t1))||(!t2))||(decide ((x_.Xg.length:Int)>32)))=true then (some false) else (Qz (λ(s0:Int)=>((if (decide (s0<(x_.Xg.length:Int)))=true then (idx x_.Xg s0).bind λt3=>(Qa2 t3.a0 0 (i64.wrap ((x_.Xe.length:Int) - 1))).bind λt4=>(opt ((!t4)==false) (idx x_.Xg s0) default).bind λt5=>(opt ((!t4)==false) (Qa2 t5.a1 0 (i64.wrap ((x_.Xe.length:Int) - 1))) default).bind λt6=>(if ((!t4)||(!t6))=true then (some (.inr (.inr false))) else (some (.inl (i64.wrap (s0+1))))) else (some (.inr (.inl ())))):Option ((Int)⊕((Unit)⊕(Bool))))) (0:Int)).bind λe0=>(match e0 with | .inl _=>(some true) | .inr p0=>(some p0)))
instance QwW:Spc1 prog 77 Qgm (λx_=>[Qo.ty x_]) tb:=.mk λ{x_ r} h=>by
 unfold Qgm at h
 refine Fe func77 ntmps77 λM0 M w0 hpl=>?_
 refine QyV [0] ?_
 have⟨_,_,_,_,_,_,h⟩:=bs3 h
 refine tIfs h [22,23] (λ_ h=>?_) (λ_ h=>?_)
 ·refine QyV [0] ?_
  exact QyZ h (·▸QyX hpl)
 refine QyY λK0 k0=>?_
 refine QyV [0,2] ?_
 have⟨e0,h0,h⟩:=bs h
 have J0:∀(p0:Unit),(.inl p0)=e0->To M w0 60 [] [] K0:=by
  intro p0 he;subst he;simp only at h;refine k0 <|QyV [0] ?_;exact QyZ h (·▸QyX hpl)
 have J1:∀(p1:Bool),(.inr p1)=e0->To M w0 60 [(2,tb p1)] [] (Ret prog f77 M0 [] w0 (λ_=>[]) (λ_=>tb r) .ret):=by
  intro p1 he;subst he;simp only at h;obtain rfl:=sj h;exact QyX hpl
 refine Qy1 <|Qzb h0 (λ(s0:Int)=>[(3,ti s0),(1,tptr (Qo.cs x_))]) (λ(s0:Int)=>[]) [0,1] ?_;clear h;intro s0 o K1 h ho k1;refine QyY λ_ k2=>QyV [4,5,6] ?_;refine Qy0 h (λ_ h=>?_) (λ_ h=>?_)
 ·refine Qy2 <|k2 <|QyY λ_ k3=>Qy1 ?_;have⟨_,_,_,_,_,_,_,_,h⟩:=bs4 h;refine QyV [25,27,28] ?_;refine Qy0 h (λ_ h=>?_) (λ_ h=>?_)
  ·refine QyV [0] ?_;refine Qzd ?_;exact Qy4 J1 (ho _ (sj h).symm) [0]
  refine Qy2 <|k3 <|Qy6 [2,4] ?_;exact Qy4 k1 ((sj h).symm) [0,1]
 refine Qy7 <|Qy4 J0 (ho _ (sj h).symm) []
def Qgn (r_:Qm):Option (Bool):=(opt ((r_.A !=([]:Str))==true) (Qbj r_.A) default).bind λt0=>(opt ((((r_.A !=([]:Str))&&(!t0))==false)&&((r_.B !=([]:Str))==true)) (Qbj r_.B) default).bind λt1=>(if ((((r_.A !=([]:Str))&&(!t0))||((r_.B !=([]:Str))&&(!t1)))||((r_.A==([]:Str))&&(r_.B==([]:Str))))=true then (some false) else (Qbj r_.Xi).bind λt2=>(opt (t2==true) (Qbj r_.Xh) default).bind λt3=>(opt ((t2&&t3)==true) (Qa2 r_.N (-1048576) 1048576) default).bind λt4=>(some ((t2&&t3)&&t4)))
instance QwX:Spc1 prog 78 Qgn (λr_=>[Ql.ty r_]) tb:=.mk λ{r_ r} h=>by
 unfold Qgn at h
 refine Fe func78 ntmps78 λM0 M w0 hpl=>?_
 refine QyV [0] ?_
 have⟨_,_,_,_,h⟩:=bs2 h
 refine tIfs h [29,30] (λ_ h=>?_) (λ_ h=>?_)
 ·refine QyV [0] ?_
  exact QyZ h (·▸QyX hpl)
 have⟨_,_,_,_,_,_,h⟩:=bs3 h
 refine QyV [13] ?_
 exact QyZ h (·▸QyX hpl)
def Qdf (self:Int->Option (Str)) (n_:Int):Option (Str):=(if (decide (n_<0))=true then (self (i64.wrap (0 - n_))).bind λt0=>(cat (([45]:Str).length+t0.length)).bind λ_=>(some (([45]:Str)++t0)) else (if (decide (n_<10))=true then (some (QjJ [(u8.wrap (i64.wrap ((48:Int)+n_)))])) else (self (i64.wrap (Int.tdiv n_ (10:Int)))).bind λt1=>(cat (t1.length+(QjJ [(u8.wrap (i64.wrap ((48:Int)+(Int.tmod n_ (10:Int)))))]).length)).bind λ_=>(some (t1++(QjJ [(u8.wrap (i64.wrap ((48:Int)+(Int.tmod n_ (10:Int)))))])))))
theorem Qnu {self:Int->Option (Str)} (hself:∀(n_:Int) (r:Str),self n_=some r->FnOk prog 139 [ti n_] [] (λ_=>[]) (λ_=>tv (.string (sB r)))) {n_:Int} {r:Str} (h:Qdf self n_=some r):FnOk prog 139 [ti n_] [] (λ_=>[]) (λ_=>tv (.string (sB r))):=by
 unfold Qdf at h;refine fe func139 ntmps139 λM0 M w0 a hpl H=>?_;refine sr mx [] H (λ_=>.o (Qc .k)<|.n) λ_ a w H=>?_;have H:=H.t1_0 [1];refine wp_seq_k (λ_ k0=>?_);refine sr mx [] H (λ_=>.q 0 rfl<|.o (Q8 z0 .k)<|.n) λ_ a w H=>?_;have H:=H.t2_0 [1,2];refine wi H h (λb0 h=>?_) (λb0 h=>?_)
 ·refine wp_seq_k (λ_ k1=>?_);have⟨t0,h0,u0,h1,h⟩:=bs2 h;refine wr mx [] H (λ_=>.q 1 rfl<|.o (Qt0 z0)<|.o (Qq Qsy (hself _ _ h0) (.cons (.of z0)<|.nil))<|.o (Qpa .k z0 h1)<|.o (Qc z0)<|.n) λ_ a w H=>?_;have H:=H.t1_0 [4];refine k1 _ _ ?_;exact r0 h (·▸r1 hpl H (.tmp z0 .nil))
 refine wp_skip (k0 _ _ ?_);refine wp_seq_k (λ_ k2=>?_);refine sr mx [] H (λ_=>.q 1 rfl<|.o (Q8 z0 .k)<|.n) λ_ a w H=>?_;have H:=H.t2_0 [1,3];refine wi H h (λb1 h=>?_) (λb1 h=>?_)
 ·refine sr mx [] H (λ_=>.q 1 rfl<|.o (Qab .k z0)<|.o (Qlc ud3 ud5 z0)<|.o (QK (R:=(rInt .u8)) (us:=[(u8.wrap (i64.wrap ((48:Int)+n_)))]) ud81 tok5 (.cons z0<|.nil _) rfl (leb rfl))<|.o (Qt7 ud81 ud5 ud9 z0)<|.o (Qc z0)<|.n) λ_ a w H=>?_;have H:=H.t1_0 [5];exact r0 h (·▸r1 hpl H (.tmp z0 .nil))
 refine wp_skip (k2 _ _ ?_);refine wp_seq_k (λ_ k3=>?_);have⟨t1,h2,u1,h3,h⟩:=bs2 h;refine wr mx [] H (λ_=>.q 1 rfl<|.o (Qmo z0 .k (by decide))<|.o (Qq Qsy (hself _ _ h2) (.cons (.of z0)<|.nil))<|.q 4 rfl<|.o (Qn3 z0 .k (by decide))<|.o (Qab .k z0)<|.o (Qlc ud3 ud5 z0)<|.o (QK (R:=(rInt .u8)) (us:=[(u8.wrap (i64.wrap ((48:Int)+(Int.tmod n_ (10:Int)))))]) ud81 tok5 (.cons z0<|.nil _) rfl (leb rfl))<|.o (Qt7 ud81 ud5 ud9 z0)<|.o (Qpa z6 z0 h3)<|.o (Qc z0)<|.n) λ_ a w H=>?_;have H:=H.t1_0 [10];refine k3 _ _ ?_;exact r0 h (·▸r1 hpl H (.tmp z0 .nil))
def QdW:Nat->Int->Option (Str)
 | 0=>λ_=>none
 | n+1=>Qdf (QdW n)
theorem Qjn:∀(n:Nat) (n_:Int) (r:Str),QdW n n_=some r->FnOk prog 139 [ti n_] [] (λ_=>[]) (λ_=>tv (.string (sB r)))
 | 0,_,r,h=>by cases h
 | n+1,n_,r,h=>Qnu (λn_ r h=>Qjn n n_ r h) h
def QfI (n_:Int):Option (Str):=QdW (n_.natAbs+2) n_
theorem QnU {n_:Int} {r:Str} (h:QfI n_=some r):FnOk prog 139 [ti n_] [] (λ_=>[]) (λ_=>tv (.string (sB r))):=Qjn _ _ _ h
instance :Spc1 prog 139 (λ(n_:Int)=>QfI n_) (λ(n_:Int)=>[ti n_]) (λ(r:Str)=>tv (.string (sB r))):=⟨λh=>QnU h⟩
def QbH (s_:Str) (n_:Int):Option (Str):=(cat (s_.length+([32]:Str).length)).bind λ_=>(QfI n_).bind λt0=>(cat ((s_++([32]:Str)).length+t0.length)).bind λ_=>(some ((s_++([32]:Str))++t0))
instance QyS:Spc2 prog 102 QbH (λs_ n_=>[tv (.string (sB s_)),ti n_]) (λr=>tv (.string (sB r))):=.mk λ{s_ n_ r} h=>by
 unfold QbH at h
 refine Fe func102 ntmps102 λM0 M w0 hpl=>?_
 refine QyV [1,2] ?_
 have⟨_,_,_,_,_,_,h⟩:=bs3 h
 refine QyV [5] ?_
 exact QyZ h (·▸QyX hpl)
def QbS:Option ((List Str)):=(some [([107,101,121]:Str),([114,101,102]:Str),([110,117,109]:Str),([112,105,99,107]:Str),([100,97,121]:Str),([115,116,101,112]:Str),([115,117,109]:Str),([115,104,97,114,101]:Str),([99,111,112,121]:Str)])
instance Qx5:Spc0 prog 140 (QbS) ([]) (tsl rS):=.mk λ{r} h=>by
 unfold QbS at h
 refine Fe func140 ntmps140 λM0 M w0 hpl=>?_
 refine QyV [] ?_
 refine QyV [1] ?_
 exact QyZ h (·▸QyX hpl)
def Qez (s_:Str):Option (Str):=(if (s_==([]:Str))=true then (some ([45]:Str)) else (some s_))
instance Qx6:Spc1 prog 104 Qez (λs_=>[tv (.string (sB s_))]) (λr=>tv (.string (sB r))):=.mk λ{s_ r} h=>by
 unfold Qez at h
 refine Fe func104 ntmps104 λM0 M w0 hpl=>?_
 refine QyV [1] ?_
 refine tIfs h [1,2] (λ_ h=>?_) (λ_ h=>?_)
 ·refine QyV [0] ?_
  exact QyZ h (·▸QyX hpl)
 refine QyV [1] ?_
 exact QyZ h (·▸QyX hpl)
def QaN (f_:Qd):Option (Str):=(QbL f_.Xh).bind λt0=>QbS.bind λt1=>(idx t1 f_.Xh).bind λt2=>(cat (([10]:Str).length+t2.length)).bind λ_=>(cat ((([10]:Str)++t2).length+([32]:Str).length)).bind λ_=>(cat (((([10]:Str)++t2)++([32]:Str)).length+f_.Xi.length)).bind λ_=>((if t0.2.1=true then (cat ((((([10]:Str)++t2)++([32]:Str))++f_.Xi).length+([32]:Str).length)).bind λ_=>(cat (((((([10]:Str)++t2)++([32]:Str))++f_.Xi)++([32]:Str)).length+f_.Up.length)).bind λ_=>(some (((((([10]:Str)++t2)++([32]:Str))++f_.Xi)++([32]:Str))++f_.Up)) else (some (((([10]:Str)++t2)++([32]:Str))++f_.Xi)))).bind λp0=>((if t0.1=true then (cat (p0.length+([32]:Str).length)).bind λ_=>(Qez f_.Of).bind λt3=>(cat ((p0++([32]:Str)).length+t3.length)).bind λ_=>(some ((p0++([32]:Str))++t3)) else (some p0))).bind λp1=>((if t0.2.2.1=true then (QbH p1 f_.Lo).bind λt4=>(some t4) else (some p1))).bind λp2=>((if t0.2.2.2.1=true then (QbH p2 f_.Hi).bind λt5=>(some t5) else (some p2))).bind λp3=>((if t0.2.2.2.2=true then (QbH p3 (f_.Words.length:Int)).bind λt6=>(Qz (λ(s0:Int×Str)=>((if (decide (s0.1<(f_.Words.length:Int)))=true then (cat (s0.2.length+([32]:Str).length)).bind λ_=>(idx f_.Words s0.1).bind λt7=>(cat ((s0.2++([32]:Str)).length+t7.length)).bind λ_=>(idx f_.Xf s0.1).bind λt8=>(QbH ((s0.2++([32]:Str))++t7) t8).bind λt9=>(some (.inl ((i64.wrap (s0.1+1)),t9))) else (some (.inr s0.2))):Option ((Int×Str)⊕((Str))))) ((0:Int),t6)).bind λp4=>(some p4) else (some p3))).bind λp5=>(some p5)
instance QyP:Spc1 prog 103 QaN (λf_=>[Qe.ty f_]) (λr=>tv (.string (sB r))):=.mk λ{f_ r} h=>by
 unfold QaN at h
 refine Fe func103 ntmps103 λM0 M w0 hpl=>?_
 refine QyV [0] ?_
 have⟨t0,_,h⟩:=bs h
 refine QyV [9,10,11,12,13,14] ?_
 have⟨_,_,_,_,_,_,_,_,h⟩:=bs4 h
 have⟨_,_,h⟩:=bs h
 refine QyV [10,11,12,13,14,15,16] ?_
 refine QyY λK0 k0=>?_
 refine QyV [0,1,2,4,5,6,7] ?_
 have⟨p0,h0,h⟩:=bs h
 have J0:To M w0 80 [(8,tv (.string (sB p0))),(3,tb t0.1),(5,tb t0.2.2.1),(6,tb t0.2.2.2.1),(7,tb t0.2.2.2.2),(1,tptr (Qe.cs f_))] [] K0:=by
  refine k0 <|QyY λK1 k1=>QyV [0,1,3,4,5,6] ?_;have⟨p1,h1,h⟩:=bs h;have J1:To M w0 80 [(8,tv (.string (sB p1))),(5,tb t0.2.2.1),(6,tb t0.2.2.2.1),(7,tb t0.2.2.2.2),(1,tptr (Qe.cs f_))] [] K1:=by
   refine k1 <|QyY λK2 k2=>QyV [0,1,3,4,5] ?_;have⟨p2,h2,h⟩:=bs h;have J2:To M w0 80 [(8,tv (.string (sB p2))),(6,tb t0.2.2.2.1),(7,tb t0.2.2.2.2),(1,tptr (Qe.cs f_))] [] K2:=by
    refine k2 <|QyY λK3 k3=>QyV [0,1,3,4] ?_;have⟨p3,h3,h⟩:=bs h;have J3:To M w0 80 [(8,tv (.string (sB p3))),(7,tb t0.2.2.2.2),(1,tptr (Qe.cs f_))] [] K3:=by
     refine k3 <|QyY λK4 k4=>QyV [0,1,3] ?_;have⟨p4,h4,h⟩:=bs h;have J4:To M w0 80 [(8,tv (.string (sB p4)))] [] K4:=by
      refine k4 <|QyV [1] ?_;exact QyZ h (·▸QyX hpl)
     replace h:=h4;clear h4;refine Qy0 h (λ_ h=>?_) (λ_ h=>?_)
     ·have⟨_,_,h⟩:=bs h;refine QyV [5,7] ?_;refine QyV [0,1,2] ?_;have⟨e0,h5,h⟩:=bs h;have J5:∀(p5:Str),p5=e0->To M w0 80 [(8,tv (.string (sB p5)))] [] K4:=by
       intro p5 he;subst he;obtain rfl:=sj h;exact Qy3 J4 [0]
      refine Qy1 <|Qzb h5 (λ(s0:Int×Str)=>[(9,ti s0.1),(8,tv (.string (sB s0.2))),(1,tptr (Qe.cs f_))]) (λ(s0:Int×Str)=>[]) [0,1,2] ?_;clear h;intro s0 o K5 h ho k5;refine QyY λ_ k6=>QyV [4,5,6,7] ?_;refine Qy0 h (λ_ h=>?_) (λ_ h=>?_)
      ·refine Qy2 <|k6 <|QyY λ_ k7=>Qy1 ?_;have⟨_,_,_,_,_,_,_,_,h⟩:=bs4 h;have⟨_,_,h⟩:=bs h;refine Qy6 [14,16,17] ?_;refine k7 <|Qy6 [2,3,4] ?_;exact Qy4 k5 ((sj h).symm) [0,1,2]
      refine Qy7 <|Qy4 J5 (ho _ (sj h).symm) [2]
     refine Qy2 ?_;obtain rfl:=sj h;exact Qy3 J4 [1]
    replace h:=h3;clear h3;refine Qy0 h (λ_ h=>?_) (λ_ h=>?_)
    ·have⟨_,_,h⟩:=bs h;refine Qy6 [4,6,7] ?_;obtain rfl:=sj h;exact Qy3 J3 [0,1,2]
    refine Qy2 ?_;obtain rfl:=sj h;exact Qy3 J3 [1,2,3]
   replace h:=h2;clear h2;refine Qy0 h (λ_ h=>?_) (λ_ h=>?_)
   ·have⟨_,_,h⟩:=bs h;refine Qy6 [4,6,7,8] ?_;obtain rfl:=sj h;exact Qy3 J2 [0,1,2,3]
   refine Qy2 ?_;obtain rfl:=sj h;exact Qy3 J2 [1,2,3,4]
  replace h:=h1;clear h1;refine Qy0 h (λ_ h=>?_) (λ_ h=>?_)
  ·have⟨_,_,_,_,_,_,h⟩:=bs3 h;refine Qy6 [6,8,9,10,11] ?_;obtain rfl:=sj h;exact Qy3 J1 [0,1,2,3,4]
  refine Qy2 ?_;obtain rfl:=sj h;exact Qy3 J1 [1,2,3,4,5]
 replace h:=h0;clear h0;refine Qy0 h (λ_ h=>?_) (λ_ h=>?_)
 ·have⟨_,_,_,_,h⟩:=bs2 h;refine Qy6 [5,7,8,9,10,11] ?_;obtain rfl:=sj h;exact Qy3 J0 [0,1,2,3,4,5]
 refine Qy2 ?_;obtain rfl:=sj h;exact Qy3 J0 [1,2,3,4,5,6]
def Qgo (x_:Qa):Option (Str):=(QbH ([115,99,104,101,109,97]:Str) x_.Version).bind λt0=>(Qz (λ(s0:Int×Str)=>((if (decide (s0.1<(x_.Xa.length:Int)))=true then (idx x_.Xa s0.1).bind λt1=>(cat (s0.2.length+([10,107,105,110,100,32]:Str).length)).bind λ_=>(cat ((s0.2++([10,107,105,110,100,32]:Str)).length+t1.Xi.length)).bind λ_=>(QbH ((s0.2++([10,107,105,110,100,32]:Str))++t1.Xi) t1.Lo).bind λt2=>(QbH t2 t1.Hi).bind λt3=>(Qz (λ(s1:Int×Str)=>((if (decide (s1.1<(t1.Xb.length:Int)))=true then (idx t1.Xb s1.1).bind λt4=>(QaN t4).bind λt5=>(cat (s1.2.length+t5.length)).bind λ_=>(some (.inl ((i64.wrap (s1.1+1)),(s1.2++t5)))) else (some (.inr s1.2))):Option ((Int×Str)⊕((Str))))) ((0:Int),t3)).bind λp0=>(some (.inl ((i64.wrap (s0.1+1)),p0))) else (some (.inr s0.2))):Option ((Int×Str)⊕((Str))))) ((0:Int),t0)).bind λp1=>(Qz (λ(s2:Int×Str)=>((if (decide (s2.1<(x_.Xd.length:Int)))=true then (idx x_.Xd s2.1).bind λt6=>(cat (s2.2.length+([10,108,105,102,101,32]:Str).length)).bind λ_=>(cat ((s2.2++([10,108,105,102,101,32]:Str)).length+t6.Xi.length)).bind λ_=>(QbH ((s2.2++([10,108,105,102,101,32]:Str))++t6.Xi) (t6.Xe.length:Int)).bind λt7=>(Qz (λ(s3:Int×Str)=>((if (decide (s3.1<(t6.Xe.length:Int)))=true then (cat (s3.2.length+([32]:Str).length)).bind λ_=>(idx t6.Xe s3.1).bind λt8=>(cat ((s3.2++([32]:Str)).length+t8.length)).bind λ_=>(some (.inl ((i64.wrap (s3.1+1)),((s3.2++([32]:Str))++t8)))) else (some (.inr s3.2))):Option ((Int×Str)⊕((Str))))) ((0:Int),t7)).bind λp2=>(Qz (λ(s4:Int×Str)=>((if (decide (s4.1<(t6.Xg.length:Int)))=true then (cat (s4.2.length+([10,109,111,118,101]:Str).length)).bind λ_=>(idx t6.Xg s4.1).bind λt9=>(QbH (s4.2++([10,109,111,118,101]:Str)) t9.a0).bind λt10=>(idx t6.Xg s4.1).bind λt11=>(QbH t10 t11.a1).bind λt12=>(some (.inl ((i64.wrap (s4.1+1)),t12))) else (some (.inr s4.2))):Option ((Int×Str)⊕((Str))))) ((0:Int),p2)).bind λp3=>(some (.inl ((i64.wrap (s2.1+1)),p3))) else (some (.inr s2.2))):Option ((Int×Str)⊕((Str))))) ((0:Int),p1)).bind λp4=>(Qz (λ(s5:Int×Str)=>((if (decide (s5.1<(x_.Xc.length:Int)))=true then (idx x_.Xc s5.1).bind λt13=>(cat (s5.2.length+([10,114,117,108,101,32]:Str).length)).bind λ_=>(cat ((s5.2++([10,114,117,108,101,32]:Str)).length+t13.Xi.length)).bind λ_=>(cat (((s5.2++([10,114,117,108,101,32]:Str))++t13.Xi).length+([32]:Str).length)).bind λ_=>(cat ((((s5.2++([10,114,117,108,101,32]:Str))++t13.Xi)++([32]:Str)).length+t13.Xh.length)).bind λ_=>(cat (((((s5.2++([10,114,117,108,101,32]:Str))++t13.Xi)++([32]:Str))++t13.Xh).length+([32]:Str).length)).bind λ_=>(Qez t13.A).bind λt14=>(cat ((((((s5.2++([10,114,117,108,101,32]:Str))++t13.Xi)++([32]:Str))++t13.Xh)++([32]:Str)).length+t14.length)).bind λ_=>(cat (((((((s5.2++([10,114,117,108,101,32]:Str))++t13.Xi)++([32]:Str))++t13.Xh)++([32]:Str))++t14).length+([32]:Str).length)).bind λ_=>(Qez t13.B).bind λt15=>(cat ((((((((s5.2++([10,114,117,108,101,32]:Str))++t13.Xi)++([32]:Str))++t13.Xh)++([32]:Str))++t14)++([32]:Str)).length+t15.length)).bind λ_=>(QbH ((((((((s5.2++([10,114,117,108,101,32]:Str))++t13.Xi)++([32]:Str))++t13.Xh)++([32]:Str))++t14)++([32]:Str))++t15) t13.N).bind λt16=>(some (.inl ((i64.wrap (s5.1+1)),t16))) else (some (.inr s5.2))):Option ((Int×Str)⊕((Str))))) ((0:Int),p4)).bind λp5=>(cat (p5.length+([10]:Str).length)).bind λ_=>(some (p5++([10]:Str)))
instance QwY:Spc1 prog 79 Qgo (λx_=>[Qb.ty x_]) (λr=>tv (.string (sB r))):=.mk λ{x_ r} h=>by
 unfold Qgo at h
 refine Fe func79 ntmps79 λM0 M w0 hpl=>?_
 refine QyV [0] ?_
 have⟨_,_,h⟩:=bs h
 refine QyV [3,4] ?_
 refine QyY λK0 k0=>?_
 refine QyV [0,1,2] ?_
 have⟨e0,h0,h⟩:=bs h
 have J0:∀(p0:Str),p0=e0->To M w0 149 [(3,tv (.string (sB p0))),(1,tptr (Qb.cs x_))] [] K0:=by
  intro p0 he;subst he;refine k0 <|QyY λK1 k1=>QyV [0,1,2] ?_;have⟨e1,h1,h⟩:=bs h;have J1:∀(p1:Str),p1=e1->To M w0 149 [(3,tv (.string (sB p1))),(1,tptr (Qb.cs x_))] [] K1:=by
   intro p1 he;subst he;refine k1 <|QyY λK2 k2=>QyV [0,1,2] ?_;have⟨e2,h2,h⟩:=bs h;have J2:∀(p2:Str),p2=e2->To M w0 149 [(3,tv (.string (sB p2)))] [] K2:=by
    intro p2 he;subst he;refine k2 ?_;have⟨_,_,h⟩:=bs h;refine QyV [2] ?_;exact QyZ h (·▸QyX hpl)
   refine Qy1 <|Qzb h2 (λ(s0:Int×Str)=>[(11,ti s0.1),(3,tv (.string (sB s0.2))),(1,tptr (Qb.cs x_))]) (λ(s0:Int×Str)=>[]) [0,1,2] ?_;clear h;intro s0 o K3 h ho k3;refine QyY λ_ k4=>QyV [4,5,6,7] ?_;refine Qy0 h (λ_ h=>?_) (λ_ h=>?_)
   ·refine Qy2 <|k4 <|QyY λ_ k5=>Qy1 ?_;have⟨t0,_,h⟩:=bs h;refine Qy5 [v1 5 (λv0=>box (Ql.cs zz3) v0),v1 5 (λv0=>box (Ql.cs t0) v0)] [6,7] [5,7,8,9] λm0=>?_;refine Qy9 (λ_ _ H=>((H.Xk 0 rfl).add 0 rfl (λ_ _ _ h=>h.2)).pick [0,3,4,5]) ?_;have⟨_,_,_,_,_,_,_,_,h⟩:=bs4 h;have⟨_,_,_,_,_,_,_,_,h⟩:=bs4 h;have⟨_,_,_,_,_,_,h⟩:=bs3 h;refine Qy6 [22,24,25] ?_;refine k5 <|Qy6 [2,3,4] ?_;exact Qy4 k3 ((sj h).symm) [0,1,2]
   refine Qy7 <|Qy4 J2 (ho _ (sj h).symm) [2]
  refine Qy1 <|Qzb h1 (λ(s1:Int×Str)=>[(7,ti s1.1),(3,tv (.string (sB s1.2))),(1,tptr (Qb.cs x_))]) (λ(s1:Int×Str)=>[]) [0,1,2] ?_;clear h;intro s1 o K4 h ho k6;refine QyY λ_ k7=>QyV [4,5,6,7] ?_;refine Qy0 h (λ_ h=>?_) (λ_ h=>?_)
  ·refine Qy2 <|k7 <|QyY λK5 k8=>Qy1 ?_;have⟨t1,_,h⟩:=bs h;refine Qy5 [v1 5 (λv0=>box (Qo.cs zz2) v0),v1 5 (λv0=>box (Qo.cs t1) v0)] [6,7] [5,7,8,9] λm1=>?_;refine Qy9 (λ_ _ H=>((H.Xk 0 rfl).add 0 rfl (λ_ _ _ h=>h.2)).pick [0,3,4,5]) ?_;have⟨_,_,_,_,_,_,h⟩:=bs3 h;refine QyV [9,10,11,12] ?_;refine QyY λK6 k9=>QyV [0,1,2,3,4] ?_;have⟨e3,h3,h⟩:=bs h;have J3:∀(p3:Str),p3=e3->To M w0 149 [(3,tv (.string (sB p3))),(8,tptr (Qo.cs t1)),(7,ti s1.1),(1,tptr (Qb.cs x_))] [] K6:=by
    intro p3 he;subst he;refine k9 <|QyV [0,1,2,3,4] ?_;have⟨e4,h4,h⟩:=bs h;have J4:∀(p4:Str),p4=e4->To M w0 149 [(3,tv (.string (sB p4))),(7,ti s1.1),(1,tptr (Qb.cs x_))] [] K5:=by
     intro p4 he;subst he;refine k8 <|Qy6 [2,3,4] ?_;exact Qy4 k6 ((sj h).symm) [0,1,2]
    refine Qy1 <|Qzb h4 (λ(s2:Int×Str)=>[(10,ti s2.1),(3,tv (.string (sB s2.2))),(8,tptr (Qo.cs t1)),(7,ti s1.1),(1,tptr (Qb.cs x_))]) (λ(s2:Int×Str)=>[]) [0,1,2,3,4] ?_;clear h;intro s2 o K7 h ho k10;refine QyY λ_ k11=>QyV [4,5,6,7,8,9] ?_;refine Qy0 h (λ_ h=>?_) (λ_ h=>?_)
    ·refine Qy2 <|k11 <|QyY λ_ k12=>Qy1 ?_;have⟨_,_,_,h5,_,_,h⟩:=bs3 h;replace h:=bk h5 h;have⟨_,_,h⟩:=bs h;refine Qy6 [16,18,19,20,21] ?_;refine k12 <|Qy6 [2,3,4,5,6] ?_;exact Qy4 k10 ((sj h).symm) [0,1,2,3,4]
    refine Qy7 <|Qy4 J4 (ho _ (sj h).symm) [2,4,5]
   refine Qy1 <|Qzb h3 (λ(s3:Int×Str)=>[(9,ti s3.1),(3,tv (.string (sB s3.2))),(8,tptr (Qo.cs t1)),(7,ti s1.1),(1,tptr (Qb.cs x_))]) (λ(s3:Int×Str)=>[]) [0,1,2,3,4] ?_;clear h;intro s3 o K8 h ho k13;refine QyY λ_ k14=>QyV [4,5,6,7,8,9] ?_;refine Qy0 h (λ_ h=>?_) (λ_ h=>?_)
   ·refine Qy2 <|k14 <|QyY λ_ k15=>Qy1 ?_;have⟨_,_,_,_,_,_,h⟩:=bs3 h;refine Qy6 [8,10,11,12,13] ?_;refine k15 <|Qy6 [2,3,4,5,6] ?_;exact Qy4 k13 ((sj h).symm) [0,1,2,3,4]
   refine Qy7 <|Qy4 J3 (ho _ (sj h).symm) [2,3,4,5]
  refine Qy7 <|Qy4 J1 (ho _ (sj h).symm) [2,3]
 refine Qy1 <|Qzb h0 (λ(s4:Int×Str)=>[(4,ti s4.1),(3,tv (.string (sB s4.2))),(1,tptr (Qb.cs x_))]) (λ(s4:Int×Str)=>[]) [0,1,2] ?_;clear h;intro s4 o K9 h ho k16;refine QyY λ_ k17=>QyV [4,5,6,7] ?_;refine Qy0 h (λ_ h=>?_) (λ_ h=>?_)
 ·refine Qy2 <|k17 <|QyY λK10 k18=>Qy1 ?_;have⟨t2,_,h⟩:=bs h;refine Qy5 [v1 5 (λv0=>box (Qp.cs zz1) v0),v1 5 (λv0=>box (Qp.cs t2) v0)] [6,7] [5,7,8,9] λm2=>?_;refine Qy9 (λ_ _ H=>((H.Xk 0 rfl).add 0 rfl (λ_ _ _ h=>h.2)).pick [0,3,4,5]) ?_;have⟨_,_,_,_,_,_,_,_,h⟩:=bs4 h;refine QyV [11,12,13,14] ?_;refine QyV [0,1,2,3,4] ?_;have⟨e5,h6,h⟩:=bs h;have J5:∀(p5:Str),p5=e5->To M w0 149 [(3,tv (.string (sB p5))),(4,ti s4.1),(1,tptr (Qb.cs x_))] [] K10:=by
   intro p5 he;subst he;refine k18 <|Qy6 [2,3,4] ?_;exact Qy4 k16 ((sj h).symm) [0,1,2]
  refine Qy1 <|Qzb h6 (λ(s5:Int×Str)=>[(6,ti s5.1),(3,tv (.string (sB s5.2))),(5,tptr (Qp.cs t2)),(4,ti s4.1),(1,tptr (Qb.cs x_))]) (λ(s5:Int×Str)=>[]) [0,1,2,3,4] ?_;clear h;intro s5 o K11 h ho k19;refine QyY λ_ k20=>QyV [4,5,6,7,8,9] ?_;refine Qy0 h (λ_ h=>?_) (λ_ h=>?_)
  ·refine Qy2 <|k20 <|QyY λ_ k21=>Qy1 ?_;have⟨_,_,_,_,_,_,h⟩:=bs3 h;refine Qy6 [8,10,11,12,13] ?_;refine k21 <|Qy6 [2,3,4,5,6] ?_;exact Qy4 k19 ((sj h).symm) [0,1,2,3,4]
  refine Qy7 <|Qy4 J5 (ho _ (sj h).symm) [2,4,5]
 refine Qy7 <|Qy4 J0 (ho _ (sj h).symm) [2,3]

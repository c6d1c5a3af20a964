/- Go functions as Lean functions, and the proofs that they compute them, written by a program. No condition. -/
import Derived.Test.YtlajingmjmnfgaaGreatDoorGenE
set_option linter.all false
open Go.Proofs.Tryz Go.IntKind
namespace Go.Proofs.YtlajingmjmnfgaaGreatDoor
noncomputable section
open Go.Sim
set_option maxRecDepth 100000
set_option maxHeartbeats 4000000
def Qfv (x_:Qa):Option ((List QT)):=(Ql (fun (s0:Int×List QT)=>((if (decide (s0.1<(x_.Kinds.length:Int)))=true then (idx x_.Kinds s0.1).bind fun t0=>(Ql (fun (s1:Int×List QT)=>((if (decide (s1.1<(t0.Fields.length:Int)))=true then ((idx t0.Fields s1.1).bind fun t1=>(if ((t1.Kind !=2)&&(t1.Kind !=4))=true then (some s1.2) else ((if ((t1.Kind==4)&&(t1.Of !=([]:Str)))=true then (QdB t0 t1.Of).bind fun t2=>(some t2) else (some (-1:Int)))).bind fun p0=>(cat (t0.Name.length+([46]:Str).length)).bind fun _=>(cat ((t0.Name++([46]:Str)).length+t1.Name.length)).bind fun _=>(cat (((t0.Name++([46]:Str))++t1.Name).length+([32,108,111,119]:Str).length)).bind fun _=>(cat (((t0.Name++([46]:Str))++t1.Name).length+([32,104,105,103,104]:Str).length)).bind fun _=>(rm (s1.2.length+[(QT.mk s0.1 (((t0.Name++([46]:Str))++t1.Name)++([32,108,111,119]:Str)) (Qz.mk p0 s1.1 (i64.wrap (0 - t1.Lo)))),(QT.mk s0.1 (((t0.Name++([46]:Str))++t1.Name)++([32,104,105,103,104]:Str)) (Qz.mk s1.1 p0 t1.Hi))].length)).bind fun _=>(some (s1.2++[(QT.mk s0.1 (((t0.Name++([46]:Str))++t1.Name)++([32,108,111,119]:Str)) (Qz.mk p0 s1.1 (i64.wrap (0 - t1.Lo)))),(QT.mk s0.1 (((t0.Name++([46]:Str))++t1.Name)++([32,104,105,103,104]:Str)) (Qz.mk s1.1 p0 t1.Hi))])))).bind fun p1=>(some (.inl ((i64.wrap (s1.1+1)),p1))) else (some (.inr s1.2))):Option ((Int×List QT)⊕((List QT))))) ((0:Int),s0.2)).bind fun p2=>(some (.inl ((i64.wrap (s0.1+1)),p2))) else (some (.inr s0.2))):Option ((Int×List QT)⊕((List QT))))) ((0:Int),([]:List QT))).bind fun p3=>(Ql (fun (s2:Int×List QT)=>((if (decide (s2.1<(x_.Rules.length:Int)))=true then (idx x_.Rules s2.1).bind fun t3=>(QbR x_ t3.Kind).bind fun t4=>(idx x_.Kinds t4).bind fun t5=>(cat (([114,117,108,101,58]:Str).length+t3.Name.length)).bind fun _=>(QdB t5 t3.A).bind fun t6=>(QdB t5 t3.B).bind fun t7=>(rm (s2.2.length+[(QT.mk t4 (([114,117,108,101,58]:Str)++t3.Name) (Qz.mk t6 t7 t3.N))].length)).bind fun _=>(some (.inl ((i64.wrap (s2.1+1)),(s2.2++[(QT.mk t4 (([114,117,108,101,58]:Str)++t3.Name) (Qz.mk t6 t7 t3.N))])))) else (some (.inr s2.2))):Option ((Int×List QT)⊕((List QT))))) ((0:Int),p3)).bind fun p4=>(some p4)
instance QpY:Spc1 prog 55 Qfv (fun x_=>[Qf.ty x_]) (tsl QR):=.mk fun {x_ r} h=>by
 unfold Qfv at h
 refine Fe func55 ntmps55 fun M0 M w0 hpl=>?_
 refine Qb [0] ?_
 refine Qb [0,1] ?_
 refine Qaa (fun _ _ H=>H.nil (QR) 119) ?_
 refine Qk fun K0 k0=>?_
 refine Qb [1,2,3,4,5] ?_
 have⟨e0,h0,h⟩:=bs h
 have J0:∀(p0:List QT) (y0:Value),p0=e0→To M w0 117 [(3,tv y0),(1,tptr (Qf.cs x_))] [own QR 119 p0 y0] K0:=by
  intro p0 y0 he;subst he;refine k0 ?_;refine Qk fun K1 k1=>?_;refine Qb [1,2,3,4,5] ?_;have⟨e1,h1,h⟩:=bs h;have J1:∀(p1:List QT) (y1:Value),p1=e1→To M w0 117 [(3,tv y1)] [own QR 119 p1 y1] K1:=by
   intro p1 y1 he;subst he;refine k1 ?_;refine Qb [0,1,2] ?_;refine QaV ?_;refine Qar (by intro _ _ H;exact (H.shareO 1 rfl).pick [0]) ?_;obtain rfl:=sj h;exact Qq hpl
  refine Qs ?_;refine Qa6 h1 (fun (s0:Int×List QT) (y2:Value)=>[(81,tsl QF x_.Rules),(82,ti (x_.Rules.length:Int)),(83,ti s0.1),(3,tv y2),(1,tptr (Qf.cs x_))]) (fun (s0:Int×List QT) (y2:Value)=>[own QR 119 s0.2 y2]) y0 [0,1,2,3,4] ?_;clear h;intro s0 y2 o K2 h ho k2;refine Qb [0,1,2,3,4,5] ?_;refine Qk fun _ k3=>?_;refine Qx h (fun _ h=>?_) (fun _ h=>?_)
  ·refine QE ?_;refine k3 ?_;refine Qk fun _ k4=>?_;refine Qs ?_;have⟨t0,_,h⟩:=bs h;refine QV [v1 2 (fun v0=>box (QF.cs zz3) v0),v1 2 (fun v0=>box (QF.cs t0) v0)] [3,4] [2,4,5,6,7,8] fun m0=>?_;refine Qaa (fun _ _ H=>(((H.selA [1,0] rfl).shareB 0 rfl).add 0 rfl (fun _ _ _ h=>h.2)).pick [0,3,4,5,6,7]) ?_;have⟨t1,_,h⟩:=bs h;refine Qb [4,5,6,7,8,9,10] ?_;have⟨t2,_,h⟩:=bs h;refine QV [v1 5 (fun v0=>box (Qh.cs zz1) v0),v1 5 (fun v0=>box (Qh.cs t2) v0)] [6,7] [5,6,7,8,9,10,11,12] fun m1=>?_;refine Qaa (fun _ _ H=>(((H.selA [1,0] rfl).shareB 0 rfl).add 0 rfl (fun _ _ _ h=>h.2)).pick [0,3,4,5,6,7,8,9]) ?_;have⟨_,h2,t3,h3,t4,h4,_,h5,h⟩:=bs4 h;intro a w H;refine wr mx [v1 18 (fun v0=>own QR 119 (s0.2++[(QT.mk t1 (([114,117,108,101,58]:Str)++t0.Name) (Qz.mk t3 t4 t0.N))]) v0)] H (fun _=>.q 6 rfl<|.q 2 rfl<|.o (QO Qku z4)<|.o (QN (u:=t0.Name) tok9 z0 rfl)<|.o (Qfs .k z0 h2)<|.o (QU QcO z5)<|.o (QO QmT z8)<|.o (QN (u:=t0.A) tok9 z0 rfl)<|.o (QG QoA (QkY.ok h3) (.cons (.of z2)<|.cons (.of z0)<|.nil))<|.o (QU QcO z9)<|.o (QO QmU z12)<|.o (QN (u:=t0.B) tok9 z0 rfl)<|.o (QG QoA (QkY.ok h4) (.cons (.of z2)<|.cons (.of z0)<|.nil))<|.o (QO QmV z15)<|.o (QN (u:=t0.N) tok3 z0 rfl)<|.p (T:=Qaj.ty (Qz.mk t3 t4 t0.N)) rfl (QaJ underlying67 pl67 zv67 zc67 (.cons (R:=rI) (u:=t3) rfl z6 (leb rfl)<|.cons (R:=rI) (u:=t4) rfl z2 (leb rfl)<|.cons (R:=rI) (u:=t0.N) rfl z0 (leb rfl)<|.nil _))<|.p (T:=QR.ty (QT.mk t1 (([114,117,108,101,58]:Str)++t0.Name) (Qz.mk t3 t4 t0.N))) rfl (QaJ underlying119 Qqf Qqe QnF (.cons (R:=rI) (u:=t1) rfl z14 (leb rfl)<|.cons (R:=rS) (u:=(([114,117,108,101,58]:Str)++t0.Name)) rfl z11 (leb rfl)<|.cons (R:=Qaj) (u:=(Qz.mk t3 t4 t0.N)) rfl z0 (leb rfl)<|.nil _))<|.o (Qah (R:=QR) (us:=[(QT.mk t1 (([114,117,108,101,58]:Str)++t0.Name) (Qz.mk t3 t4 t0.N))]) ud76 Qgo (.cons z0<|.nil _) rfl (leb rfl))<|.e [] [0] [1] rfl rfl rfl rfl (QaL (R:=QR) ud76 Qgo (leb rfl) z17 z0 h5)<|.ud (f:=fun v=>tv v) 18 rfl [] rfl rfl (Qi z0)<|.n) fun m2 a w H=>?_;have H:=H.to [18,19,23,24,25,26] [_,_,_,_,_,_] [_] rfl rfl;refine QbD H ?_;refine k4 ?_;refine Q4 [1,2,3,4,5,6] ?_;exact Qae k2 (m2 18) ((sj h).symm) [3,4,0,2,5]
  refine Q7 ?_;exact Qae J1 y2 (ho _ (sj h).symm) [4]
 refine Qs ?_;refine Qa6 h0 (fun (s1:Int×List QT) (y3:Value)=>[(15,tsl Qh x_.Kinds),(16,ti (x_.Kinds.length:Int)),(17,ti s1.1),(3,tv y3),(1,tptr (Qf.cs x_))]) (fun (s1:Int×List QT) (y3:Value)=>[own QR 119 s1.2 y3]) (.slice none 0 0) [0,1,2,3,4] ?_;clear h;intro s1 y3 o K3 h ho k5;refine Qb [0,1,2,3,4,5] ?_;refine Qk fun _ k6=>?_;refine Qx h (fun _ h=>?_) (fun _ h=>?_)
 ·refine QE ?_;refine k6 ?_;refine Qk fun K4 k7=>?_;refine Qs ?_;have⟨t5,_,h⟩:=bs h;refine QV [v1 3 (fun v0=>box (Qh.cs zz1) v0),v1 3 (fun v0=>box (Qh.cs t5) v0)] [4,6] [3,4,6,7,8,9,10] fun m3=>?_;refine Qaa (fun _ _ H=>(((H.selA [1,0] rfl).shareB 0 rfl).add 0 rfl (fun _ _ _ h=>h.2)).pick [0,3,4,5,6,7,8]) ?_;refine Qb [1,2,3,4,5,6,7,8,9,10] ?_;have⟨e2,h6,h⟩:=bs h;have J2:∀(p2:List QT) (y4:Value),p2=e2→To M w0 117 [(15,tsl Qh x_.Kinds),(16,ti (x_.Kinds.length:Int)),(17,ti s1.1),(3,tv y4),(1,tptr (Qf.cs x_))] [own QR 119 p2 y4] K4:=by
   intro p2 y4 he;subst he;refine k7 ?_;refine Q4 [1,2,3,4,5] ?_;exact Qae k5 y4 ((sj h).symm) [1,2,0,3,4]
  refine Qs ?_;refine Qa6 h6 (fun (s2:Int×List QT) (y5:Value)=>[(23,tsl Qd t5.Fields),(24,ti (t5.Fields.length:Int)),(25,ti s2.1),(5,tptr (Qh.cs t5)),(4,ti s1.1),(15,tsl Qh x_.Kinds),(16,ti (x_.Kinds.length:Int)),(17,ti s1.1),(3,tv y5),(1,tptr (Qf.cs x_))]) (fun (s2:Int×List QT) (y5:Value)=>[own QR 119 s2.2 y5]) y3 [0,1,2,3,4,5,6,7,8,9] ?_;clear h;intro s2 y5 o K5 h ho k8;refine Qb [0,1,2,3,4,5,6,7,8,9,10] ?_;refine Qk fun _ k9=>?_;refine Qx h (fun _ h=>?_) (fun _ h=>?_)
  ·refine QE ?_;refine k9 ?_;refine Qk fun K6 k10=>?_;have⟨p3,h7,h⟩:=bs h;have J3:∀(y6:Value),To M w0 117 [(23,tsl Qd t5.Fields),(24,ti (t5.Fields.length:Int)),(25,ti s2.1),(5,tptr (Qh.cs t5)),(4,ti s1.1),(15,tsl Qh x_.Kinds),(16,ti (x_.Kinds.length:Int)),(17,ti s1.1),(3,tv y6),(1,tptr (Qf.cs x_))] [own QR 119 p3 y6] K6:=by
    intro y6;refine k10 ?_;refine Q4 [1,2,3,4,5,6,7,8,9,10] ?_;exact Qae k8 y6 ((sj h).symm) [1,2,0,3,4,5,6,7,8,9]
   replace h:=h7;clear h7;refine Qs ?_;have⟨t6,_,h⟩:=bs h;refine QV [v1 3 (fun v0=>box (Qd.cs zz0) v0),v1 3 (fun v0=>box (Qd.cs t6) v0)] [4,6] [3,4,6,7,8,9,10,11,12,13,14,15] fun m4=>?_;refine Qaa (fun _ _ H=>(((H.selA [1,0] rfl).shareB 0 rfl).add 0 rfl (fun _ _ _ h=>h.2)).pick [0,3,4,5,6,7,8,9,10,11,12,13]) ?_;refine tIfs h [7,8,9,10,11,12,13,14,15,16,17,18,19] (fun _ h=>?_) (fun _ h=>?_)
   ·refine Q7 ?_;obtain rfl:=sj h;exact Q3 (J3 y5) [3,4,5,6,7,8,9,10,11,12]
   refine Qb [0,2,3,4,5,6,7,8,9,10,11,12,13] ?_;refine Qk fun K7 k11=>?_;refine Qb [7,8,9,10,11,12,13,14,15,16,17,18,19,20] ?_;have⟨p4,h8,h⟩:=bs h;have J4:To M w0 117 [(8,ti p4),(7,tptr (Qd.cs t6)),(6,ti s2.1),(23,tsl Qd t5.Fields),(24,ti (t5.Fields.length:Int)),(25,ti s2.1),(5,tptr (Qh.cs t5)),(4,ti s1.1),(15,tsl Qh x_.Kinds),(16,ti (x_.Kinds.length:Int)),(17,ti s1.1),(3,tv y5),(1,tptr (Qf.cs x_))] [own QR 119 s2.2 y5] K7:=by
    refine k11 ?_;have⟨_,_,_,_,h⟩:=bs2 h;refine Qb [6,7,8,9,10,11,12,13,14,15,16,17,18,19] ?_;have⟨_,h9,_,h10,_,h11,h⟩:=bs3 h;intro a w H;refine wr mx [v1 21 (fun v0=>own QR 119 (s2.2++[(QT.mk s1.1 (((t5.Name++([46]:Str))++t6.Name)++([32,108,111,119]:Str)) (Qz.mk p4 s2.1 (i64.wrap (0 - t6.Lo)))),(QT.mk s1.1 (((t5.Name++([46]:Str))++t6.Name)++([32,104,105,103,104]:Str)) (Qz.mk s2.1 p4 t6.Hi))]) v0)] H (fun _=>.q 12 rfl<|.q 9 rfl<|.q 2 rfl<|.o (Qfs z0 .k h9)<|.q 5 rfl<|.q 8 rfl<|.o (QO Qmc z8)<|.o (QN (u:=t6.Lo) tok3 z0 rfl)<|.o (Qqv z0)<|.p (T:=Qaj.ty (Qz.mk p4 s2.1 (i64.wrap (0 - t6.Lo)))) rfl (QaJ underlying67 pl67 zv67 zc67 (.cons (R:=rI) (u:=p4) rfl z4 (leb rfl)<|.cons (R:=rI) (u:=s2.1) rfl z3 (leb rfl)<|.cons (R:=rI) (u:=(i64.wrap (0 - t6.Lo))) rfl z0 (leb rfl)<|.nil _))<|.p (T:=QR.ty (QT.mk s1.1 (((t5.Name++([46]:Str))++t6.Name)++([32,108,111,119]:Str)) (Qz.mk p4 s2.1 (i64.wrap (0 - t6.Lo))))) rfl (QaJ underlying119 Qqf Qqe QnF (.cons (R:=rI) (u:=s1.1) rfl z8 (leb rfl)<|.cons (R:=rS) (u:=(((t5.Name++([46]:Str))++t6.Name)++([32,108,111,119]:Str))) rfl z6 (leb rfl)<|.cons (R:=Qaj) (u:=(Qz.mk p4 s2.1 (i64.wrap (0 - t6.Lo)))) rfl z0 (leb rfl)<|.nil _))<|.q 19 rfl<|.q 12 rfl<|.o (Qfs z0 .k h10)<|.q 17 rfl<|.q 16 rfl<|.o (QO Qmd z18)<|.o (QN (u:=t6.Hi) tok3 z0 rfl)<|.p (T:=Qaj.ty (Qz.mk s2.1 p4 t6.Hi)) rfl (QaJ underlying67 pl67 zv67 zc67 (.cons (R:=rI) (u:=s2.1) rfl z3 (leb rfl)<|.cons (R:=rI) (u:=p4) rfl z2 (leb rfl)<|.cons (R:=rI) (u:=t6.Hi) rfl z0 (leb rfl)<|.nil _))<|.p (T:=QR.ty (QT.mk s1.1 (((t5.Name++([46]:Str))++t6.Name)++([32,104,105,103,104]:Str)) (Qz.mk s2.1 p4 t6.Hi))) rfl (QaJ underlying119 Qqf Qqe QnF (.cons (R:=rI) (u:=s1.1) rfl z7 (leb rfl)<|.cons (R:=rS) (u:=(((t5.Name++([46]:Str))++t6.Name)++([32,104,105,103,104]:Str))) rfl z5 (leb rfl)<|.cons (R:=Qaj) (u:=(Qz.mk s2.1 p4 t6.Hi)) rfl z0 (leb rfl)<|.nil _))<|.o (Qah (R:=QR) (us:=[(QT.mk s1.1 (((t5.Name++([46]:Str))++t6.Name)++([32,108,111,119]:Str)) (Qz.mk p4 s2.1 (i64.wrap (0 - t6.Lo)))),(QT.mk s1.1 (((t5.Name++([46]:Str))++t6.Name)++([32,104,105,103,104]:Str)) (Qz.mk s2.1 p4 t6.Hi))]) ud76 Qgo (.cons z9<|.cons z0<|.nil _) rfl (leb rfl))<|.e [] [0] [1] rfl rfl rfl rfl (QaL (R:=QR) ud76 Qgo (leb rfl) z20 z0 h11)<|.ud (f:=fun v=>tv v) 21 rfl [] rfl rfl (Qi z0)<|.n) fun m5 a w H=>?_;have H:=H.to [21,22,27,28,29,30,31,32,33,34,35] [_,_,_,_,_,_,_,_,_,_,_] [_] rfl rfl;refine QbD H ?_;obtain rfl:=sj h;exact Q3 (J3 (m5 21)) [2,3,4,5,6,7,8,9,1,10]
   replace h:=h8;clear h8;refine Qx h (fun _ h=>?_) (fun _ h=>?_)
   ·have⟨_,_,h⟩:=bs h;refine Q4 [4,6,7,8,9,10,11,12,13,14,15,16,17] ?_;obtain rfl:=sj h;exact Q3 J4 [0,1,2,3,4,5,6,7,8,9,10,11,12]
   refine QE ?_;obtain rfl:=sj h;exact Q3 J4 [1,2,3,4,5,6,7,8,9,10,11,12,13]
  refine Q7 ?_;exact Qae J2 y5 (ho _ (sj h).symm) [6,7,8,9,10]
 refine Q7 ?_;exact Qae J0 y3 (ho _ (sj h).symm) [4,5]
def Qfw (x_:Qa):Option ((List Str)×Int):=(Qfo x_).bind fun t0=>(if (t0 !=0)=true then (some (([]:List Str),t0)) else (Qb0 x_).bind fun t1=>(Qfv x_).bind fun t2=>(Ql (fun (s0:Int×List Str)=>((if (decide (s0.1<(t2.length:Int)))=true then (idx t2 s0.1).bind fun t3=>(rm (s0.2.length+[t3.name].length)).bind fun _=>(some (.inl ((i64.wrap (s0.1+1)),(s0.2++[t3.name])))) else (some (.inr s0.2))):Option ((Int×List Str)⊕((List Str))))) ((0:Int),t1.2.1)).bind fun p0=>(some (p0,(0:Int))))
instance QpZ:SpcS prog 19 (∀{x_:Qa} {r:(List Str)×Int},Qfw x_=some r→FnOk prog 19 [Qf.ty x_] [glo] (fun _=>[]) (fun _=>ttup [tsl rS r.1,ti r.2])):=.mk fun {x_ r} h=>by
 unfold Qfw at h
 refine Fe func19 ntmps19 fun M0 M w0 hpl=>?_
 refine Qb [0] ?_
 refine Qk fun _ k0=>?_
 have⟨_,_,h⟩:=bs h
 refine Qb [2,3] ?_
 refine Qb [1,2,3] ?_
 refine Qx h (fun _ h=>?_) (fun _ h=>?_)
 ·refine Qb [1,2] ?_
  exact Qu h (·▸Qq hpl)
 refine QE ?_
 refine k0 ?_
 have⟨t0,h0,h⟩:=bs h
 intro a w H
 refine sr mx [v1 1 (fun v0=>own rS 9 t0.2.1 v0)] H (fun _=>.o (QU Qc2 z2)<|.m [0] [1] rfl rfl rfl ((QG QnI (QgN.ok h0) (.cons (.of z0)<|.nil)).glo)<|.ud (f:=fun v=>ttup [tsl Qr t0.1,tv v,ti t0.2.2]) 1 rfl [] rfl rfl (Qad z0)<|.o (Qac z0 rfl)<|.ud (f:=fun v=>tv v) 1 rfl [] rfl rfl (Qac z1 rfl)<|.o (Qac z2 rfl)<|.o (Qi z2)<|.ud (f:=fun v=>tv v) 1 rfl [] rfl rfl (Qi z2)<|.o (Qi z2)<|.n) fun m0 a w H=>?_
 have H:=H.to [4,7,11] [_,_,_] [_,_] rfl rfl
 refine Q2 H ?_
 refine Qk fun K0 k1=>?_
 have⟨t1,_,h⟩:=bs h
 refine Qb [1,2,3,4,5] ?_
 have⟨e0,h1,h⟩:=bs h
 have J0:∀(p0:List Str) (y0:Value),p0=e0→To M w0 35 [(6,tv y0)] [glo,own rS 9 p0 y0] K0:=by
  intro p0 y0 he;subst he;refine k1 ?_;refine Qb [0,1,2,3] ?_;refine QaV ?_;refine Qar (by intro _ _ H;exact ((H.selA [1,0] rfl).shareO 1 rfl).pick [0,3]) ?_;obtain rfl:=sj h;exact Qq hpl
 refine Qs ?_;refine Qa6 h1 (fun (s0:Int×List Str) (y1:Value)=>[(22,tsl QR t1),(23,ti (t1.length:Int)),(24,ti s0.1),(6,tv y1)]) (fun (s0:Int×List Str) (y1:Value)=>[glo,own rS 9 s0.2 y1]) (m0 1) [0,1,2,4] ?_;clear h;intro s0 y1 o K1 h ho k2;refine Qb [0,1,2,3,4] ?_;refine Qk fun _ k3=>?_;refine Qx h (fun _ h=>?_) (fun _ h=>?_)
 ·refine QE ?_;refine k3 ?_;refine Qk fun _ k4=>?_;refine Qs ?_;have⟨t2,_,h⟩:=bs h;refine QV [v1 2 (fun v0=>box (QR.cs (QT.mk (0:Int) ([]:Str) (Qz.mk (0:Int) (0:Int) (0:Int)))) v0),v1 2 (fun v0=>box (QR.cs t2) v0)] [3,4] [2,4,5,6,7] fun m1=>?_;refine Qaa (fun _ _ H=>(((H.selA [2,0,1] rfl).shareB 0 rfl).add 0 rfl (fun _ _ _ h=>h.2)).pick [0,3,4,5,6]) ?_;have⟨_,_,h⟩:=bs h;refine QaY [v1 4 (fun v0=>own rS 9 (s0.2++[t2.name]) v0)] [5] [4,5,7,8,9] fun m2=>?_;refine k4 ?_;refine Q4 [1,2,3,4,5] ?_;exact Qae k2 (m2 4) ((sj h).symm) [3,4,0,2]
 refine Q7 ?_;exact Qae J0 y1 (ho _ (sj h).symm) [4]
def Qfx (x_:Qa):Option (QaX):=(Qb0 x_).bind fun t0=>(Qfv x_).bind fun t1=>(Ql (fun (s0:Int×List QK)=>((if (decide (s0.1<(x_.Kinds.length:Int)))=true then (idx x_.Kinds s0.1).bind fun t2=>(Ql (fun (s1:Int×List QK)=>((if (decide (s1.1<(t2.Fields.length:Int)))=true then (idx t2.Fields s1.1).bind fun t3=>((if (t3.Kind==1)=true then (Qei x_ s0.1 s1.1).bind fun t4=>(rm (s1.2.length+[(QK.mk s0.1 t4)].length)).bind fun _=>(some (s1.2++[(QK.mk s0.1 t4)])) else (some s1.2))).bind fun p0=>(some (.inl ((i64.wrap (s1.1+1)),p0))) else (some (.inr s1.2))):Option ((Int×List QK)⊕((List QK))))) ((0:Int),s0.2)).bind fun p1=>(some (.inl ((i64.wrap (s0.1+1)),p1))) else (some (.inr s0.2))):Option ((Int×List QK)⊕((List QK))))) ((0:Int),([]:List QK))).bind fun p2=>(some (QaX.mk x_ t0.1 t1 p2))
instance Qp0:SpcS prog 29 (∀{x_:Qa} {r:QaX},Qfx x_=some r→FnOk prog 29 [Qf.ty x_] [glo] (fun _=>[]) (fun _=>tptr (QS.cs r))):=.mk fun {x_ r} h=>by
 unfold Qfx at h
 refine Fe func29 ntmps29 fun M0 M w0 hpl=>?_
 refine Qb [0] ?_
 have⟨t0,h0,h⟩:=bs h
 intro a w H
 refine sr mx [] H (fun _=>.o (QU Qc2 z0)<|.u [0] rfl rfl ((QG QnI ((QgN.ok h0).roE (T':=ttup [tsl Qr t0.1,tsl rS t0.2.1,ti t0.2.2]) QsO) (.cons (.of z0)<|.nil)).glo)<|.q 0 rfl<|.o (Qac z0 rfl)<|.o (Qac z1 rfl)<|.o (Qac z2 rfl)<|.o (Qi z2)<|.o (Qi z2)<|.o (Qi z2)<|.n) fun _ a w H=>?_
 have H:=H.t2_1 [6,9]
 refine Q2 H ?_
 have⟨t1,h1,h⟩:=bs h
 intro a w H
 refine sr mx [v1 5 (fun v0=>box (Qf.cs x_++[tsl Qr t0.1,tsl QR t1,tvs nilV]) v0)] H (fun _=>.o (QU Qc2 z1)<|.q 1 rfl<|.o (QU Qc2 z3)<|.o (QG Qv7 (QpY.ok h1) (.cons (.of z0)<|.nil))<|.p (T:=tagg (Qf.cs x_++[tsl Qr t0.1,tsl QR t1,tvs nilV])) rfl (QaJ underlying79 pl79 zv79 Qyk.1 (.cons (R:=Qf) (u:=x_) rfl z3 (leb rfl)<|.cons (R:=(rSl Qr)) (u:=t0.1) rfl z2 (leb rfl)<|.cons (R:=(rSl QR)) (u:=t1) rfl z0 (leb rfl)<|.nil _))<|.m [] [1] rfl rfl rfl (Qqx (R:=(rAgg (Qf.cs x_++[tsl Qr t0.1,tsl QR t1,tvs nilV]) (Qd4 (Qft Qf) (Qp Qba (Qp Qba (Qp QcU Qaf)))))) (u:=()) z0)<|.ud (f:=fun v=>tv v) 5 rfl [] rfl rfl (Qi z0)<|.n) fun m0 a w H=>?_
 replace H:St _ _ _ [_,_] [_,_,_] _ _:=(H.pick [6,8]).nil (Qal) 112
 refine Q2 H ?_
 refine Qk fun K0 k0=>?_
 refine Qb [1,2,3,4,5] ?_
 have⟨e0,h2,h⟩:=bs h
 have J0:∀(p0:List QK) (y0:Value),p0=e0→To M w0 60 [(6,tv (m0 5))] [own Qal 112 p0 y0,glo,box (Qf.cs x_++[tsl Qr t0.1,tsl QR t1,tvs y0]) (m0 5)] K0:=by
  intro p0 y0 he;subst he;refine k0 ?_;refine Qb [1] ?_;refine QaV ?_;refine Qar (As'':=[box (QS.cs (QaX.mk x_ t0.1 t1 p0)) (m0 5),glo]) (fun _ _ H=>((H.pick [0]).selA [0,2,1] rfl).shareC 6 rfl) ?_;refine Qar (fun _ _ H=>((H.shareB 0 rfl).add 0 rfl (fun _ _ _ h=>h.2)).pick [0]) ?_;obtain rfl:=sj h;exact Qq hpl
 refine Qs ?_;refine Qa6 h2 (fun (s0:Int×List QK) (y1:Value)=>[(24,tsl Qh x_.Kinds),(25,ti (x_.Kinds.length:Int)),(26,ti s0.1),(6,tv (m0 5)),(1,tptr (Qf.cs x_))]) (fun (s0:Int×List QK) (y1:Value)=>[own Qal 112 s0.2 y1,glo,box (Qf.cs x_++[tsl Qr t0.1,tsl QR t1,tvs y1]) (m0 5)]) nilV [0,1,2,3,4] ?_;clear h;intro s0 y1 o K1 h ho k1;refine Qb [0,1,2,3,4,5] ?_;refine Qk fun _ k2=>?_;refine Qx h (fun _ h=>?_) (fun _ h=>?_)
 ·refine QE ?_;refine k2 ?_;refine Qk fun K2 k3=>?_;refine Qs ?_;have⟨t2,_,h⟩:=bs h;refine QV [v1 3 (fun v0=>box (Qh.cs zz1) v0),v1 3 (fun v0=>box (Qh.cs t2) v0)] [4,6] [3,4,6,7,8,9,10] fun m1=>?_;refine Qaa (fun _ _ H=>(((H.selA [3,0,1,2] rfl).shareB 0 rfl).add 0 rfl (fun _ _ _ h=>h.2)).pick [0,3,4,5,6,7,8]) ?_;refine Qb [1,2,3,5,6,7,8,9,10] ?_;have⟨e1,h3,h⟩:=bs h;have J1:∀(p1:List QK) (y2:Value),p1=e1→To M w0 60 [(24,tsl Qh x_.Kinds),(25,ti (x_.Kinds.length:Int)),(26,ti s0.1),(6,tv (m0 5)),(1,tptr (Qf.cs x_))] [own Qal 112 p1 y2,glo,box (Qf.cs x_++[tsl Qr t0.1,tsl QR t1,tvs y2]) (m0 5)] K2:=by
   intro p1 y2 he;subst he;refine k3 ?_;refine Q4 [1,2,3,4,5] ?_;exact Qae k1 y2 ((sj h).symm) [1,2,0,3,4]
  refine Qs ?_;refine Qa6 h3 (fun (s1:Int×List QK) (y3:Value)=>[(32,tsl Qd t2.Fields),(33,ti (t2.Fields.length:Int)),(34,ti s1.1),(7,ti s0.1),(24,tsl Qh x_.Kinds),(25,ti (x_.Kinds.length:Int)),(26,ti s0.1),(6,tv (m0 5)),(1,tptr (Qf.cs x_))]) (fun (s1:Int×List QK) (y3:Value)=>[own Qal 112 s1.2 y3,glo,box (Qf.cs x_++[tsl Qr t0.1,tsl QR t1,tvs y3]) (m0 5)]) y1 [0,1,2,3,4,5,6,7,8] ?_;clear h;intro s1 y3 o K3 h ho k4;refine Qb [0,1,2,3,4,5,6,7,8,9] ?_;refine Qk fun _ k5=>?_;refine Qx h (fun _ h=>?_) (fun _ h=>?_)
  ·refine QE ?_;refine k5 ?_;refine Qk fun K4 k6=>?_;refine Qs ?_;have⟨t3,_,h⟩:=bs h;refine QV [v1 3 (fun v0=>box (Qd.cs zz0) v0),v1 3 (fun v0=>box (Qd.cs t3) v0)] [4,6] [3,4,6,7,8,9,10,11,12,13,14] fun m2=>?_;refine Qaa (fun _ _ H=>(((H.selA [3,0,1,2] rfl).shareB 0 rfl).add 0 rfl (fun _ _ _ h=>h.2)).pick [0,3,4,5,6,7,8,9,10,11,12]) ?_;refine Qb [2,4,5,6,7,8,9,10,11,12,13] ?_;have⟨p2,h4,h⟩:=bs h;have J2:∀(y4:Value),To M w0 60 [(32,tsl Qd t2.Fields),(33,ti (t2.Fields.length:Int)),(34,ti s1.1),(7,ti s0.1),(24,tsl Qh x_.Kinds),(25,ti (x_.Kinds.length:Int)),(26,ti s0.1),(6,tv (m0 5)),(1,tptr (Qf.cs x_))] [glo,own Qal 112 p2 y4,box (Qf.cs x_++[tsl Qr t0.1,tsl QR t1,tvs y4]) (m0 5)] K4:=by
    intro y4;refine k6 ?_;refine Q4 [1,2,3,4,5,6,7,8,9] ?_;refine Qar (fun _ _ H=>(H.pick [1,2,0,3,4,5,6,7,8]).selA [1,0,2] rfl) ?_;exact Qae k4 y4 ((sj h).symm) [0,1,2,3,4,5,6,7,8]
   replace h:=h4;clear h4;refine Qx h (fun _ h=>?_) (fun _ h=>?_)
   ·have⟨t4,_,_,_,h⟩:=bs2 h;refine QaY [v1 12 (fun v0=>own Qal 112 (s1.2++[(QK.mk s0.1 t4)]) v0),v1 12 (fun v0=>box (Qf.cs x_++[tsl Qr t0.1,tsl QR t1,tvs v0]) (m0 5))] [13,16] [12,17,18,19,20,21,22,23,24,25] fun m3=>?_;obtain rfl:=sj h;exact Q3 (J2 (m3 12)) [1,2,3,4,5,6,7,8,9]
   refine QE ?_;obtain rfl:=sj h;refine Qar (fun _ _ H=>(H.pick [2,3,4,5,6,7,8,9,10]).selA [1,0,2] rfl) ?_;exact Q3 (J2 y3) [0,1,2,3,4,5,6,7,8]
  refine Q7 ?_;exact Qae J1 y3 (ho _ (sj h).symm) [5,6,7,8,9]
 refine Q7 ?_;exact Qae J0 y1 (ho _ (sj h).symm) [4]
def Qd5 (n_:Int) (l_:(List Qz)):Option ((List Q0)×Int):=(if ((decide (n_>10))||(decide ((l_.length:Int)>64)))=true then (some (([]:List Q0),(4:Int))) else (if (decide (n_<0))=true then (some (([]:List Q0),(1:Int))) else (mk (l_.length:Int) zz5).bind fun t0=>(Ql (fun (s0:Int×List Q0)=>((if (decide (s0.1<(l_.length:Int)))=true then (idx l_ s0.1).bind fun t1=>(if (((((decide ((imin t1.A t1.B)<(-1:Int)))||(decide ((imax t1.A t1.B)≥n_)))||(t1.A==t1.B))||(decide (t1.N<(-2097152:Int))))||(decide (t1.N>2097152)))=true then (some (.inr (.inr ((1:Int),([]:List Q0))))) else (nz (i64.wrap (n_+1))).bind fun _=>(nz (i64.wrap (n_+1))).bind fun _=>(setAt s0.2 s0.1 (Q0.mk (Int.tmod (i64.wrap ((i64.wrap (t1.A+n_))+1)) (i64.wrap (n_+1))) (Int.tmod (i64.wrap ((i64.wrap (t1.B+n_))+1)) (i64.wrap (n_+1))) t1.N)).bind fun t2=>(some (.inl ((i64.wrap (s0.1+1)),t2)))) else (some (.inr (.inl s0.2)))):Option ((Int×List Q0)⊕((List Q0)⊕(Int×List Q0))))) ((0:Int),t0)).bind fun e0=>(match e0 with | .inl p0=>(some (p0,(0:Int))) | .inr p1=>(some (p1.2,p1.1)))))
instance Qjf:SpcS prog 87 (∀{n_:Int} {l_:(List Qz)} {r:(List Q0)×Int},Qd5 n_ l_=some r→FnOk prog 87 [ti n_,tsl Qaj l_] [] (fun v=>[own QL 212 r.1 v]) (fun v=>ttup [tv v,ti r.2])):=.mk fun {n_ l_ r} h=>by
 unfold Qd5 at h
 refine Fe func87 ntmps87 fun M0 M w0 hpl=>?_
 refine Qb [2,3] ?_
 refine tIfs h [6,7,8] (fun _ h=>?_) (fun _ h=>?_)
 ·refine Qb [0,1] ?_
  refine Qaa (fun _ _ H=>H.nil (QL) 212) ?_
  exact Qu h (·▸QcD (.slice none 0 0) [0] hpl)
 refine tIfs h [1,3,4] (fun _ h=>?_) (fun _ h=>?_)
 ·refine Qb [0,1] ?_
  refine Qaa (fun _ _ H=>H.nil (QL) 212) ?_
  exact Qu h (·▸QcD (.slice none 0 0) [0] hpl)
 have⟨t0,_,h⟩:=bs h
 refine QV [v1 2 (fun v0=>own QL 212 t0 v0)] [3] [2,3,5,6] fun m0=>?_
 refine Qk fun K0 k0=>?_
 refine Qb [0,1,2,3,4,5] ?_
 have⟨e0,h0,h⟩:=bs h
 have J0:∀(p0:List Q0),(.inl p0)=e0→To M w0 84 [(6,tv (m0 2))] [own QL 212 p0 (m0 2)] K0:=by
  intro p0 he;subst he;simp only at h;refine k0 ?_;refine Qb [0,1,2,3] ?_;exact Qu h (·▸QcD (m0 2) [0] hpl)
 have J1:∀(p1:Int×List Q0) (y0:Value),(.inr p1)=e0→To M w0 84 [(4,tv y0),(5,ti p1.1)] [own QL 212 p1.2 y0] (Ret prog f87 M0 [] w0 (fun v=>[own QL 212 r.1 v]) (fun v=>ttup [tv v,ti r.2]) .ret):=by
  intro p1 y0 he;subst he;simp only at h;obtain rfl:=sj h;exact QcD y0 [0] hpl
 refine Qs ?_;refine QaK h0 (fun (s0:Int×List Q0)=>[(21,tsl Qaj l_),(22,ti (l_.length:Int)),(23,ti s0.1),(6,tv (m0 2)),(0,ti n_)]) (fun (s0:Int×List Q0)=>[own QL 212 s0.2 (m0 2)]) [0,1,2,4,5] ?_;clear h;intro s0 o K1 h ho k1;refine Qb [0,1,2,3,4,5] ?_;refine Qk fun _ k2=>?_;refine Qx h (fun _ h=>?_) (fun _ h=>?_)
 ·refine QE ?_;refine k2 ?_;refine Qk fun _ k3=>?_;refine Qs ?_;have⟨t1,_,h⟩:=bs h;refine QV [v1 3 (fun v0=>box (Qaj.cs (Qz.mk (0:Int) (0:Int) (0:Int))) v0),v1 3 (fun v0=>box (Qaj.cs t1) v0)] [4,6] [3,4,6,7,8,9,10] fun m1=>?_;refine Qaa (fun _ _ H=>(((H.selA [1,0] rfl).shareB 0 rfl).add 0 rfl (fun _ _ _ h=>h.2)).pick [0,3,4,5,6,7,8]) ?_;refine tIfs h [31,32,33,34,35,36,37,38] (fun _ h=>?_) (fun _ h=>?_)
  ·refine Qb [0,1,8] ?_;refine Qaa (fun _ _ H=>H.nil (QL) 212) ?_;refine QaV ?_;refine Qar (fun _ _ H=>(H.pick [0,1]).selA [0] rfl) ?_;exact Qae J1 (.slice none 0 0) (ho _ (sj h).symm) [0,1]
  have⟨_,_,_,_,t2,_,h⟩:=bs3 h;refine QaY [v0 (own QL 212 t2 (m0 2))] [23] [0,25,26,27,28,29] fun m2=>?_;refine k3 ?_;refine Q4 [1,2,3,4,5,6] ?_;exact QM k1 ((sj h).symm) [2,3,0,4,5]
 refine Q7 ?_;exact QM J0 (ho _ (sj h).symm) [4]
def QmF (x_:Int) (y_:Int):Option (Int×Int):=(some ((u32.wrap (ishr .u64 (u64.wrap ((u64.wrap x_) * (u64.wrap y_))) (32:Int))),(u32.wrap (u64.wrap ((u64.wrap x_) * (u64.wrap y_))))))
instance QCt:Spc2 prog 210 QmF (fun x_ y_=>[tv (.int .u32 x_),tv (.int .u32 y_)]) (fun r=>ttup [tv (.int .u32 r.1),tv (.int .u32 r.2)]):=.mk fun {x_ y_ r} h=>by
 unfold QmF at h
 refine Fe func210 ntmps210 fun M0 M w0 hpl=>?_
 refine Qb [2,3] ?_
 intro a w H
 refine sr mx [] H (fun _=>.q 0 rfl<|.o (Qf5 Qqh QnJ z0)<|.q 3 rfl<|.o (Qf5 Qqh QnJ z0)<|.o (Qnl z2 z0)<|.o (Qi z0)<|.n) fun _ a w H=>?_
 have H:=H.t1_0 [5]
 refine Q2 H ?_
 intro a w H
 refine sr mx [] H (fun _=>.q 0 rfl<|.o (QbY z0 .k (by decide))<|.o (Qf5 QnJ Qqh z0)<|.q 3 rfl<|.o (Qf5 QnJ Qqh z0)<|.o (Qi z2)<|.o (Qi z1)<|.n) fun _ a w H=>?_
 have H:=H.to [5,6] [_,_] [] rfl rfl
 refine Q2 H ?_
 exact Qu h (·▸Qq hpl)
def Qjw (x_:Int) (y_:Int):Option (Int×Int):=(some ((u64.wrap ((u64.wrap ((u64.wrap ((ishr .u64 x_ (32:Int)) * (ishr .u64 y_ (32:Int))))+(ishr .u64 (u64.wrap ((u64.wrap ((ishr .u64 x_ (32:Int)) * (iand .u64 y_ (4294967295:Int))))+(ishr .u64 (u64.wrap ((iand .u64 x_ (4294967295:Int)) * (iand .u64 y_ (4294967295:Int)))) (32:Int)))) (32:Int))))+(ishr .u64 (u64.wrap ((iand .u64 (u64.wrap ((u64.wrap ((ishr .u64 x_ (32:Int)) * (iand .u64 y_ (4294967295:Int))))+(ishr .u64 (u64.wrap ((iand .u64 x_ (4294967295:Int)) * (iand .u64 y_ (4294967295:Int)))) (32:Int)))) (4294967295:Int))+(u64.wrap ((iand .u64 x_ (4294967295:Int)) * (ishr .u64 y_ (32:Int)))))) (32:Int)))),(u64.wrap (x_ * y_))))
instance QCu:Spc2 prog 211 Qjw (fun x_ y_=>[tv (.int .u64 x_),tv (.int .u64 y_)]) (fun r=>ttup [tv (.int .u64 r.1),tv (.int .u64 r.2)]):=.mk fun {x_ y_ r} h=>by
 unfold Qjw at h
 refine Fe func211 ntmps211 fun M0 M w0 hpl=>?_
 refine Qb [2,3] ?_
 intro a w H
 refine sr mx [] H (fun _=>.q 0 rfl<|.o (QcI z0 .k)<|.o (Qi z0)<|.n) fun _ a w H=>?_
 have H:=H.t3_0 [2,3,4]
 refine Q2 H ?_
 intro a w H
 refine sr mx [] H (fun _=>.q 1 rfl<|.o (QbY z0 .k (by decide))<|.o (Qi z0)<|.n) fun _ a w H=>?_
 have H:=H.to [2,3,4,5] [_,_,_,_] [] rfl rfl
 refine Q2 H ?_
 intro a w H
 refine sr mx [] H (fun _=>.q 3 rfl<|.o (QcI z0 .k)<|.o (Qi z0)<|.n) fun _ a w H=>?_
 have H:=H.to [2,3,4,5,6] [_,_,_,_,_] [] rfl rfl
 refine Q2 H ?_
 intro a w H
 refine sr mx [] H (fun _=>.q 4 rfl<|.o (QbY z0 .k (by decide))<|.o (Qi z0)<|.n) fun _ a w H=>?_
 have H:=H.to [2,3,4,5,6,7] [_,_,_,_,_,_] [] rfl rfl
 refine Q2 H ?_
 refine Qb [3,4,5,6,7,8,9] ?_
 intro a w H
 refine sr mx [] H (fun _=>.q 3 rfl<|.q 3 rfl<|.o (Qnl z1 z0)<|.q 3 rfl<|.o (QbY z0 .k (by decide))<|.o (Qao z2 z0)<|.o (Qi z0)<|.n) fun _ a w H=>?_
 have H:=H.to [6,8,10,11,12,13] [_,_,_,_,_,_] [] rfl rfl
 refine Q2 H ?_
 intro a w H
 refine sr mx [] H (fun _=>.q 0 rfl<|.o (QcI z0 .k)<|.o (Qi z0)<|.n) fun _ a w H=>?_
 have H:=H.to [2,3,4,5,6,7,8] [_,_,_,_,_,_,_] [] rfl rfl
 refine Q2 H ?_
 intro a w H
 refine sr mx [] H (fun _=>.q 1 rfl<|.o (QbY z0 .k (by decide))<|.o (Qi z0)<|.n) fun _ a w H=>?_
 have H:=H.to [2,3,5,6,7,8,9] [_,_,_,_,_,_,_] [] rfl rfl
 refine Q2 H ?_
 refine Qb [5,6,7,8,10,11] ?_
 intro a w H
 refine sr mx [] H (fun _=>.q 3 rfl<|.q 3 rfl<|.o (Qnl z1 z0)<|.q 4 rfl<|.o (Qao z1 z0)<|.q 5 rfl<|.o (QbY z0 .k (by decide))<|.o (Qao z2 z0)<|.o (Qi z0)<|.n) fun _ a w H=>?_
 have H:=H.t3_0 [8,13,14]
 refine Q2 H ?_
 refine Qb [3,4] ?_
 exact Qu h (·▸Qq hpl)
def Qlx (x_:Int) (y_:Int):Option (Int×Int):=(Qjw x_ y_).bind fun t0=>(some (t0.1,t0.2))
instance Qsp:Spc2 prog 177 Qlx (fun x_ y_=>[tv (.int .u64 x_),tv (.int .u64 y_)]) (fun r=>ttup [tv (.int .u64 r.1),tv (.int .u64 r.2)]):=.mk fun {x_ y_ r} h=>by
 unfold Qlx at h
 refine Fe func177 ntmps177 fun M0 M w0 hpl=>?_
 refine Qb [2,3] ?_
 refine Qk fun _ k0=>?_
 refine Qtj ?_
 refine QE ?_
 refine k0 ?_
 have⟨_,_,h⟩:=bs h
 refine Qb [6,7] ?_
 refine Qb [2,3] ?_
 exact Qu h (·▸Qq hpl)
def Qcx (x_:(List Int)) (count_:Int):Option ((List Int)):=(if (decide (count_<0))=true then none else (Qlx (u64.wrap (x_.length:Int)) (u64.wrap count_)).bind fun t0=>(if ((decide (t0.1>0))||(decide (t0.2>9223372036854775807)))=true then none else (mk (i64.wrap t0.2) (0:Int)).bind fun t1=>(Ql (fun (s0:Int×List Int)=>((if (decide (s0.1<(s0.2.length:Int)))=true then (sub s0.2 s0.1 (s0.2.length:Int)).bind fun t2=>(sub s0.2 (0:Int) s0.1).bind fun t3=>(some (.inl ((i64.wrap (s0.1+(Nat.min t3.length t2.length:Int))),(s0.2.take (s0.1).toNat++cpy t2 t3++s0.2.drop ((s0.2.length:Int)).toNat)))) else (some (.inr s0.2))):Option ((Int×List Int)⊕((List Int))))) ((Nat.min x_.length t1.length:Int),(cpy t1 x_))).bind fun p0=>(some p0)))
instance Qfb:SpcS prog 133 (∀{x_:(List Int)} {count_:Int} {r:(List Int)},Qcx x_ count_=some r→FnOk prog 133 [tsl rI x_,ti count_] [] (fun v=>[own rI 3 r v]) (fun v=>tv v)):=.mk fun {x_ count_ r} h=>by
 unfold Qcx at h
 refine Fe func133 ntmps133 fun M0 M w0 hpl=>?_
 refine Qb [1,2] ?_
 refine tIfs h [1,2,3] (fun _ h=>?_) (fun _ h=>?_)
 ·cases h
 have⟨t0,h0,h⟩:=bs h
 intro a w H
 refine sr mx [] H (fun _=>.q 1 rfl<|.o (Qcu ud22 z0)<|.o (Qf5 ud3 underlying86 z0)<|.q 5 rfl<|.o (Qf5 ud3 underlying86 z0)<|.o (QG Qs5 (Qsp.ok h0) (.cons (.of z2)<|.cons (.of z0)<|.nil))<|.q 0 rfl<|.o (Qac z0 rfl)<|.o (Qac z1 rfl)<|.o (Qi z1)<|.o (Qi z1)<|.n) fun _ a w H=>?_
 have H:=H.t3_0 [9,10,12]
 refine Q2 H ?_
 refine tIfs h [5,7,8] (fun _ h=>?_) (fun _ h=>?_)
 ·cases h
 have⟨t1,h1,h⟩:=bs h
 intro a w H
 refine sr mx [v1 2 (fun v0=>own rI 3 t1 v0)] H (fun _=>.q 1 rfl<|.o (Qf5 underlying86 ud3 z0)<|.m [] [0] rfl rfl rfl (QgH (R:=rI) ud22 tok3 zok3 (leb rfl) z0 z0 h1)<|.ud (f:=fun v=>tv v) 2 rfl [] rfl rfl (Qi z0)<|.n) fun m0 a w H=>?_
 have H:=H.to [2,3,6] [_,_,_] [_] rfl rfl
 refine Q2 H ?_
 intro a w H
 refine sr mx [v0 (own rI 3 (cpy t1 x_) (m0 2))] H (fun _=>.q 1 rfl<|.q 3 rfl<|.e [] [0] [1] rfl rfl rfl rfl (QAa (R:=rI) ud22 rfl tok3 z1 z0)<|.o (Qi z0)<|.n) fun _ a w H=>?_
 have H:=H.t4_1 [0,3,4,5]
 refine Q2 H ?_
 refine Qk fun K0 k0=>?_
 have⟨e0,h2,h⟩:=bs h
 have J0:∀(p0:List Int),p0=e0→To M w0 48 [(7,tv (m0 2))] [own rI 3 p0 (m0 2)] K0:=by
  intro p0 he;subst he;refine k0 ?_;refine Qb [0,1,2] ?_;exact Qu h (·▸QcD (m0 2) [0] hpl)
 refine Qs ?_;refine QaK h2 (fun (s0:Int×List Int)=>[(8,ti s0.1),(7,tv (m0 2))]) (fun (s0:Int×List Int)=>[own rI 3 s0.2 (m0 2)]) [1,3] ?_;clear h;intro s0 o K1 h ho k1;refine Qk fun _ k2=>?_;refine Qb [1,3,4,5] ?_;refine Qgp 1 (fun b0=>?_) (fun b0=>?_)
 ·replace h:=QcM b0 h;refine QE ?_;refine k2 ?_;refine Qs ?_;have⟨t2,h3,t3,h4,h⟩:=bs2 h;intro a w H;refine wr mx [v0 (own rI 3 (s0.2.take (s0.1).toNat++cpy t2 t3++s0.2.drop ((s0.2.length:Int)).toNat) (m0 2))] H (fun _=>.q 2 rfl<|.q 4 rfl<|.q 4 rfl<|.u [0] rfl rfl (Qvj (R:=rI) ud22 tok3 z1 (.op z0) (.no _) h3)<|.q 7 rfl<|.q 7 rfl<|.u [0] rfl rfl (Qvj (R:=rI) ud22 tok3 z1 (.no _) (.op z0) h4)<|.e [] [0] [1] rfl rfl rfl rfl (QtZ (R:=rI) (xs:=s0.2) ud22 rfl tok3 z3 z0 h3 h4)<|.o (Qao z7 z0)<|.o (Qi z0)<|.n) fun _ a w H=>?_;have H:=H.to [1,4,9,10,12] [_,_,_,_,_] [_] rfl rfl;refine QbD H ?_;exact QM k1 ((sj h).symm) [2,4]
 replace h:=QcN b0 h;refine Q7 ?_;exact QM J0 (ho _ (sj h).symm) [3]
def Qca (v_:Int) (s_:Int) (n_:Int) (c0_:(List (List Int))) (c1_:Int):Option (Bool):=(idx c0_ s_).bind fun t0=>(idx t0 v_).bind fun t1=>(opt ((decide (t1<1099511627776))==true) (idx c0_ s_) default).bind fun t2=>(opt ((decide (t1<1099511627776))==true) (idx t2 v_) default).bind fun t3=>(some ((decide (t1<1099511627776))&&(decide ((i64.wrap ((i64.wrap (c1_+n_))+t3))<0))))
instance Qh8:Spc5 prog 178 Qca (fun v_ s_ n_ c0_ c1_=>[ti v_,ti s_,ti n_,tptr ((rSl (rSl rI)).cs c0_),tptr (rI.cs c1_)]) tb:=.mk fun {v_ s_ n_ c0_ c1_ r} h=>by
 unfold Qca at h
 refine Fe func178 ntmps178 fun M0 M w0 hpl=>?_
 refine Qb [1,2,3,4,5] ?_
 have⟨_,_,_,_,_,_,_,_,h⟩:=bs4 h
 refine Qb [22] ?_
 exact Qu h (·▸Qq hpl)

/- The walk. No condition. -/
import Derived.Test.YtohojolgolinoaaGreatDoorLib
import Derived.Test.YtohojolgolinoaaGreatDoorBaseI
set_option linter.all false
open List Go.Proofs.Tryz Go.IntKind
namespace Go.Proofs.YtohojolgolinoaaGreatDoor
noncomputable section
open Go.Sim
set_option maxRecDepth 100000
set_option maxHeartbeats 4000000
def MF (b:QA):Option Int:=(Qr (λ(s0:Int)=>((if decide (s0<(b.Xb.length:Int)) then (idx b.Xb s0).bind λa=>if (((a.Xi !=0)&&(a.Xi !=1))&&(a.Xi !=6))&&(a.Xi !=7) then some (.inr (.inr s0)) else some (.inl (i64.wrap (s0+1))) else some (.inr (.inl ()))):Option (Int⊕(Unit⊕Int)))) 0).bind λc=>(match c with | .inl _=>(some (-1)) | .inr d=>some d)
instance pB:Spc1 prog 107 MF (λc=>[Qq.ty c]) ti:=.mk λ{c r} h=>by
 refine Fe func107 ntmps107 λs M i a=>?_
 apply Qa 2
 refine Qf λj k=>?_
 apply Qa 6
 have⟨d,h0,h⟩:=bs h
 have l:∀e,(.inl e)=d->To M i 33 [] [] j:=by
  intro e b;subst b;simp only at h;refine k <|Qa 2 ?_;exact tRE h a
 refine tJr (λf=>[(2,ti f)]) 1 (λ_=>[]) 0 (.inr ·=d) (λf b=>?_) λm=>?_
 ·subst b;simp only at h;exact oRE h a
 refine Qk <|AC h0 (λs0=>[(3,ti s0)]) 385 (λs0=>[]) 0 6 ?_;intro s0 o t h g n;refine Qf λ_ p=>Qa 224 ?_;apply Qo h<;>intro _ h
 ·refine Qu <|p <|Qf λ_ q=>Qk ?_;have⟨_,_,h⟩:=bs h;apply Qa 1664;apply Qa 212992;apply Qo h<;>intro _ h
  ·apply Qa 4;apply AG;exact Qx m (g _ (sy h)) 2
  refine Qu <|q <|QJ 40 ?_;exact Qx n (sy h) 6
 refine QQ <|Qx l (g _ (sy h)) 0
def Da (a:Int):Option (Bool×Bool×Bool×Bool×Bool):=some (((((((a==1)||(a==4))||(a==5))||(a==6))||(a==7))||(a==8)),((a==7)||(a==8)),((((((a==1)||(a==2))||(a==4))||(a==5))||(a==7))||(a==0)),(((((a==1)||(a==2))||(a==4))||(a==5))||(a==7)),a==3)
instance pC:Spc1 prog 258 Da (λa=>[ti a]) (λr=>ttup [tb r.1,tb r.2.1,tb r.2.2.1,tb r.2.2.2.1,tb r.2.2.2.2]):=.mk λ{a r} h=>by
 refine Fe func258 ntmps258 λc M d b=>?_
 apply Qa 64
 apply Qa 25165824
 apply Qa 896
 apply Qa 7864320
 apply Qa 63488
 exact tRE h b
def MG (a:(List Qe)):Option Bool:=if (a.length:Int)==0 then some false else (idx a 0).bind λb=>some (b.Xi==0)
instance pD:Spc1 prog 150 MG (λb=>[tsl Qd b]) tb:=.mk λ{b r} h=>by
 refine Fe func150 ntmps150 λc M d a=>?_
 apply Qa 4
 refine tIfs h 24 (λ_ h=>?_) λ_ h=>?_
 ·apply Qa 2
  exact tRE h a
 have⟨_,_,h⟩:=bs h
 apply Qa 64
 exact tRE h a
def Kv (b:Qc) (a:(List Bool)):Option Bool:=(Qr (λ(s0:Int×Int)=>if decide (s0.1<(b.Xa.length:Int)) then (idx a s0.1).bind λc=>(if c&&(decide (s0.2<=131072)) then (idx b.Xa s0.1).bind λd=>(idx b.Xa s0.1).bind λe=>some (i64.wrap (s0.2 * (i64.wrap ((i64.wrap (d.Hi - e.Lo))+1)))) else some s0.2).bind λf=>some (.inl (i64.wrap (s0.1+1),f)) else some (.inr s0.2)) (0,1)).bind λg=>some (decide (g<=131072))
instance pE:Spc2 prog 113 Kv (λd a=>[Qb.ty d,tsl AE a]) tb:=.mk λ{d a r} h=>by
 refine Fe func113 ntmps113 λw M f b=>?_
 apply Qa 18
 apply Qa 14
 refine Qf λg i=>?_
 apply Qa 30
 have⟨j,h0,h⟩:=bs h
 have k:∀c,c=j->To M f 40 [(5,ti c)] [] g:=by
  intro c l;subst l;refine i <|Qa 8 ?_;exact tRE h b
 refine Qk <|AC h0 (λs0=>[(6,ti s0.1),(5,ti s0.2)]) 10551425 (λs0=>[]) 0 30 ?_;intro s0 o x h m n;refine Qf λ_ p=>Qa 992 ?_;apply Qo h<;>intro _ h
 ·refine Qu <|p <|Qf λq s=>Qk ?_;have⟨_,_,t,u,h⟩:=bs2 h;apply Qa 15616;refine tJ0 [(5,ti t)] 12665217 [] 0 q ?_ λe=>?_
  ·refine s <|QJ 120 ?_;exact Qx n (sy h) 30
  replace h:=u;apply Qo h<;>intro _ h
  ·have⟨_,v,h⟩:=bs h;replace h:=bk v h;apply QJ 3801088;cases sj h;exact QN e 30
  apply Qu;cases sj h;exact QN e 21103111
 refine QQ <|Qx k (m _ (sy h)) 8
def LL (a:Qw):Option Lz:=(mk a.n 0).bind λd=>(Qr (λ(s0:Int×Lz)=>if decide (s0.1<(a.l.length:Int)) then (idx a.l s0.1).bind λb=>(idx s0.2 b.To).bind λe=>(idx a.flow s0.1).bind λf=>(setAt s0.2 b.To (i64.wrap (e+f))).bind λc=>(idx c b.From).bind λg=>(idx a.flow s0.1).bind λh=>(setAt c b.From (i64.wrap (g - h))).bind λi=>some (.inl (i64.wrap (s0.1+1),i)) else some (.inr s0.2)) (0,d)).bind λj=>some j
instance eD:SpcS prog 166 (∀{b r},LL b=some r->FnOk prog 166 [tptr (HD.cs b)] [] (λv=>[own rI 3 r v]) (λv=>tv v)):=.mk λ{b r} h=>by
 refine Fe func166 ntmps166 λw M e c=>?_
 apply Qa 4
 have⟨f,_,g,h0,h⟩:=bs2 h
 refine QU [vo 4 rI 3 f] [5] 224 λa=>?_
 refine Qf λi j=>?_
 apply Qa 1008
 have k:∀d,d=g->To M e 51 [(3,tv (a 4))] [own rI 3 d (a 4)] i:=by
  intro d l;subst l;refine j <|Qa 14 ?_;exact Qp h (·▸AO (a 4) [0] c)
 refine Qk <|AC h0 (λs0=>[(16,ti s0.1)]) 1891647874 (λs0=>[own rI 3 s0.2 (a 4)]) 1 110 ?_;intro s0 o x h m n;apply Qa 126;refine Qf λ_ p=>Qo h (λ_ h=>?_) λ_ h=>?_
 ·refine Qu <|p <|Qf λ_ q=>Qk ?_;have⟨s,_,_,_,_,_,t,_,h⟩:=bs4 h;refine QU [vb 3 (QE.cs (Qi.mk (0:Int) (0:Int) (0:Int) (0:Int) (0:Int))),vb 3 (QE.cs s)] [4,6] 4016 λy=>?_;apply tFz 1;refine QU [v0 (own rI 3 t (a 4))] [15] 4161538 λz=>?_;have⟨_,_,_,_,u,_,h⟩:=bs3 h;refine AB [v0 (own rI 3 u (a 4))] [15] 8159234 λA=>?_;refine q <|QJ 508 ?_;exact Qx n (sy h) 3783296265
 refine QQ <|Qx k (m _ (sy h)) 32
def Tn (b:QA) (a:(QA->Option Bool)):Option Bool:=(a b).bind λc=>some (!c)
instance pF:Spc2 prog 205 Tn (λc a=>[Qq.ty c,tptr (HA.cs a)]) tb:=.mk λ{c a r} h=>by
 refine Fe func205 ntmps205 λd M e b=>?_
 apply Qa 18
 have⟨_,_,h⟩:=bs h
 apply Qa 32
 exact tRE h b
def I6 (a:(List QA)) (b:(QA->Option Bool)):Option Int:=(Qr (λ(s0:Int)=>((if decide (s0<(a.length:Int)) then (idx a s0).bind λc=>(b c).bind λd=>if d then some (.inr (.inr s0)) else some (.inl (i64.wrap (s0+1))) else some (.inr (.inl ()))):Option (Int⊕(Unit⊕Int)))) 0).bind λe=>(match e with | .inl _=>(some (-1)) | .inr f=>some f)
instance pG:Spc2 prog 90 I6 (λc d=>[tsl Qq c,HA.ty d]) ti:=.mk λ{c d r} h=>by
 refine Fe func90 ntmps90 λt M j a=>?_
 apply Qa 12
 refine Qf λk l=>?_
 apply Qa 60
 have⟨e,h0,h⟩:=bs h
 have m:∀f,(.inl f)=e->To M j 19 [] [] k:=by
  intro f b;subst b;simp only at h;refine l <|Qa 2 ?_;exact tRE h a
 refine tJr (λg=>[(4,ti g)]) 1 (λ_=>[]) 0 (.inr ·=e) (λg b=>?_) λn=>?_
 ·subst b;simp only at h;exact oRE h a
 refine Qk <|AC h0 (λs0=>[(8,ti s0)]) 10551426 (λs0=>[]) 0 30 ?_;intro s0 o u h i p;apply Qa 62;refine Qf λ_ q=>Qo h (λ_ h=>?_) λ_ h=>?_
 ·refine Qu <|q <|Qf λ_ s=>Qk <|Qa 244 ?_;have⟨_,_,_,_,h⟩:=bs2 h;apply Qa 4032;apply Qo h<;>intro _ h
  ·apply Qa 4;apply AG;exact Qx n (i _ (sy h)) 2
  refine Qu <|s <|QJ 228 ?_;exact Qx p (sy h) 16875781
 refine QQ <|Qx m (i _ (sy h)) 0
def MH (a:(List QA)) (b:(QA->Option Bool)):Option Bool:=(I6 a b).bind λc=>some (decide (c>=0))
instance pH:Spc2 prog 204 MH (λb c=>[tsl Qq b,HA.ty c]) tb:=.mk λ{b c r} h=>by
 refine Fe func204 ntmps204 λd M e a=>?_
 apply Qa 12
 have⟨_,_,h⟩:=bs h
 apply Qa 32
 exact tRE h a
def MI (b:(List QA)) (a:(QA->Option Bool)):Option Bool:=(MH b (λx0=>Tn x0 a)).bind λc=>some (!c)
instance pJ:Spc2 prog 178 MI (λc a=>[tsl Qq c,HA.ty a]) tb:=.mk λ{c a r} h=>by
 refine Fe func178 ntmps178 λd M e b=>?_
 apply Qa 10
 have⟨_,_,h⟩:=bs h
 apply Qa 32
 exact tRE h b
def Gc (c:Int) (d:Int) (a:Int) (b:Int):Option Bool:=some (((decide (c>=a))&&(decide (c<=d)))&&(decide (d<=b)))
instance pK:Spc4 prog 207 Gc (λc d a b=>[ti c,ti d,ti a,ti b]) tb:=.mk λ{c d a b r} h=>by
 refine Fe func207 ntmps207 λf M g e=>?_
 apply Qa 60
 apply Qa 16384
 exact tRE h e
def Tp (b:Qe) (a:(Qe->Option Bool)):Option Bool:=(a b).bind λc=>some (!c)
instance pL:Spc2 prog 245 Tp (λc a=>[Qd.ty c,tptr (HG.cs a)]) tb:=.mk λ{c a r} h=>by
 refine Fe func245 ntmps245 λd M e b=>?_
 apply Qa 18
 have⟨_,_,h⟩:=bs h
 apply Qa 32
 exact tRE h b
def I7 (a:(List Qe)) (b:(Qe->Option Bool)):Option Int:=(Qr (λ(s0:Int)=>((if decide (s0<(a.length:Int)) then (idx a s0).bind λc=>(b c).bind λd=>if d then some (.inr (.inr s0)) else some (.inl (i64.wrap (s0+1))) else some (.inr (.inl ()))):Option (Int⊕(Unit⊕Int)))) 0).bind λe=>(match e with | .inl _=>(some (-1)) | .inr f=>some f)
instance pM:Spc2 prog 135 I7 (λc d=>[tsl Qd c,HG.ty d]) ti:=.mk λ{c d r} h=>by
 refine Fe func135 ntmps135 λt M j a=>?_
 apply Qa 12
 refine Qf λk l=>?_
 apply Qa 60
 have⟨e,h0,h⟩:=bs h
 have m:∀f,(.inl f)=e->To M j 19 [] [] k:=by
  intro f b;subst b;simp only at h;refine l <|Qa 2 ?_;exact tRE h a
 refine tJr (λg=>[(4,ti g)]) 1 (λ_=>[]) 0 (.inr ·=e) (λg b=>?_) λn=>?_
 ·subst b;simp only at h;exact oRE h a
 refine Qk <|AC h0 (λs0=>[(8,ti s0)]) 10551426 (λs0=>[]) 0 30 ?_;intro s0 o u h i p;apply Qa 62;refine Qf λ_ q=>Qo h (λ_ h=>?_) λ_ h=>?_
 ·refine Qu <|q <|Qf λ_ s=>Qk <|Qa 244 ?_;have⟨_,_,_,_,h⟩:=bs2 h;apply Qa 4032;apply Qo h<;>intro _ h
  ·apply Qa 4;apply AG;exact Qx n (i _ (sy h)) 2
  refine Qu <|s <|QJ 228 ?_;exact Qx p (sy h) 16875781
 refine QQ <|Qx m (i _ (sy h)) 0
def MJ (a:(List Qe)) (b:(Qe->Option Bool)):Option Bool:=(I7 a b).bind λc=>some (decide (c>=0))
instance pN:Spc2 prog 244 MJ (λb c=>[tsl Qd b,HG.ty c]) tb:=.mk λ{b c r} h=>by
 refine Fe func244 ntmps244 λd M e a=>?_
 apply Qa 12
 have⟨_,_,h⟩:=bs h
 apply Qa 32
 exact tRE h a
def MK (b:(List Qe)) (a:(Qe->Option Bool)):Option Bool:=(MJ b (λx0=>Tp x0 a)).bind λc=>some (!c)
instance pO:Spc2 prog 208 MK (λc a=>[tsl Qd c,HG.ty a]) tb:=.mk λ{c a r} h=>by
 refine Fe func208 ntmps208 λd M e b=>?_
 apply Qa 10
 have⟨_,_,h⟩:=bs h
 apply Qa 32
 exact tRE h b
def Tt (b:Qm) (a:(Qm->Option Bool)):Option Bool:=(a b).bind λc=>some (!c)
instance pP:Spc2 prog 210 Tt (λc a=>[Qs.ty c,tptr (G9.cs a)]) tb:=.mk λ{c a r} h=>by
 refine Fe func210 ntmps210 λd M e b=>?_
 apply Qa 18
 have⟨_,_,h⟩:=bs h
 apply Qa 32
 exact tRE h b
def I8 (a:(List Qm)) (b:(Qm->Option Bool)):Option Int:=(Qr (λ(s0:Int)=>((if decide (s0<(a.length:Int)) then (idx a s0).bind λc=>(b c).bind λd=>if d then some (.inr (.inr s0)) else some (.inl (i64.wrap (s0+1))) else some (.inr (.inl ()))):Option (Int⊕(Unit⊕Int)))) 0).bind λe=>(match e with | .inl _=>(some (-1)) | .inr f=>some f)
instance pR:Spc2 prog 74 I8 (λc d=>[tsl Qs c,G9.ty d]) ti:=.mk λ{c d r} h=>by
 refine Fe func74 ntmps74 λt M j a=>?_
 apply Qa 12
 refine Qf λk l=>?_
 apply Qa 60
 have⟨e,h0,h⟩:=bs h
 have m:∀f,(.inl f)=e->To M j 19 [] [] k:=by
  intro f b;subst b;simp only at h;refine l <|Qa 2 ?_;exact tRE h a
 refine tJr (λg=>[(4,ti g)]) 1 (λ_=>[]) 0 (.inr ·=e) (λg b=>?_) λn=>?_
 ·subst b;simp only at h;exact oRE h a
 refine Qk <|AC h0 (λs0=>[(8,ti s0)]) 10551426 (λs0=>[]) 0 30 ?_;intro s0 o u h i p;apply Qa 62;refine Qf λ_ q=>Qo h (λ_ h=>?_) λ_ h=>?_
 ·refine Qu <|q <|Qf λ_ s=>Qk <|Qa 244 ?_;have⟨_,_,_,_,h⟩:=bs2 h;apply Qa 4032;apply Qo h<;>intro _ h
  ·apply Qa 4;apply AG;exact Qx n (i _ (sy h)) 2
  refine Qu <|s <|QJ 228 ?_;exact Qx p (sy h) 16875781
 refine QQ <|Qx m (i _ (sy h)) 0
def Hw (a:(List Qm)) (b:(Qm->Option Bool)):Option Bool:=(I8 a b).bind λc=>some (decide (c>=0))
instance pS:Spc2 prog 140 Hw (λb c=>[tsl Qs b,G9.ty c]) tb:=.mk λ{b c r} h=>by
 refine Fe func140 ntmps140 λd M e a=>?_
 apply Qa 12
 have⟨_,_,h⟩:=bs h
 apply Qa 32
 exact tRE h a
def ML (b:(List Qm)) (a:(Qm->Option Bool)):Option Bool:=(Hw b (λx0=>Tt x0 a)).bind λc=>some (!c)
instance pT:Spc2 prog 180 ML (λc a=>[tsl Qs c,G9.ty a]) tb:=.mk λ{c a r} h=>by
 refine Fe func180 ntmps180 λd M e b=>?_
 apply Qa 10
 have⟨_,_,h⟩:=bs h
 apply Qa 32
 exact tRE h b
def Ga (b:Int) (a:Int) (c:Int) (e:Int) (d:(List QI)):Option (List QI):=(if e !=0 then (rm (d.length+[QI.mk b a c e].length)).bind λ_=>some (d++[QI.mk b a c e]) else some d).bind λf=>some f
instance MM:SpcS prog 139 (∀{f d b a c g e r},Ga b a c g e=some r->FnOk prog 139 [ti b,ti a,ti c,ti g,tv f] [box (rVal.cs d) f,own BE 148 e d] (λv=>[box (rVal.cs v) f,own BE 148 r v]) (λ_=>ttup [])):=.mk λ{f d b a c g e r} h=>by
 refine Fe func139 ntmps139 λm M k j=>?_
 apply Qa 252
 have⟨n,h0,h⟩:=bs h
 have l:∀i,To M k 19 [(4,tv f)] [own BE 148 n i,box (rVal.cs i) f] (Ret prog f139 m [box (rVal.cs d) f,own BE 148 e d] k (λv=>[box (rVal.cs v) f,own BE 148 r v]) (λ_=>ttup []) .normal):=by
  intro i;cases sj h;exact Fo i [1,0] j
 replace h:=h0;apply Qo h<;>intro _ h
 ·have⟨_,_,h⟩:=bs h;refine AB [vo 7 BE 148 (e++[QI.mk b a c g]),v1 7 (λv0=>box (rVal.cs v0) f)] [8,9] 16640 λo=>?_;cases sj h;exact QN (l (o 7)) 4
 apply Qu;cases sj h;refine AA (λ_ _ H=>(H.pick [5]).Xk [1,0] rfl) ?_;exact QN (l d) 2
def PM (b:Qm) (a:Qm):Option Bool:=some (b.Xj==a.Xj)
instance pU:Spc2 prog 141 PM (λc a=>[Qs.ty c,tptr (Qs.cs a)]) tb:=.mk λ{c a r} h=>by
 refine Fe func141 ntmps141 λd M e b=>?_
 apply Qa 18
 apply Qa 64
 exact tRE h b
def CB (a:(List A1)):Option Int:=(Qr (λ(s0:Int)=>((if decide (s0<(a.length:Int)) then (idx a s0).bind λb=>if b.is then some (.inr (.inr b.code)) else some (.inl (i64.wrap (s0+1))) else some (.inr (.inl ()))):Option (Int⊕(Unit⊕Int)))) 0).bind λc=>(match c with | .inl _=>(some 0) | .inr d=>some d)
instance pV:Spc1 prog 142 CB (λc=>[tsl Ep c]) ti:=.mk λ{c r} h=>by
 refine Fe func142 ntmps142 λt M i a=>?_
 apply Qa 4
 refine Qf λj k=>?_
 apply Qa 14
 have⟨d,h0,h⟩:=bs h
 have l:∀e,(.inl e)=d->To M i 16 [] [] j:=by
  intro e b;subst b;simp only at h;refine k <|Qa 2 ?_;exact tRE h a
 refine tJr (λf=>[(2,ti f)]) 1 (λ_=>[]) 0 (.inr ·=d) (λf b=>?_) λm=>?_
 ·subst b;simp only at h;exact oRE h a
 refine Qk <|AC h0 (λs0=>[(7,ti s0)]) 16770 (λs0=>[]) 0 14 ?_;intro s0 o u h g n;apply Qa 30;refine Qf λ_ p=>Qo h (λ_ h=>?_) λ_ h=>?_
 ·refine Qu <|p <|Qf λ_ q=>Qk ?_;have⟨s,_,h⟩:=bs h;refine QU [vb 2 (Ep.cs (A1.mk false (0:Int))),vb 2 (Ep.cs s)] [3,4] 232 λv=>?_;apply tFz 0;apply Qa 124;apply Qo h<;>intro _ h
  ·apply Qa 8;apply AG;exact Qx m (g _ (sy h)) 2
  refine Qu <|q <|QJ 100 ?_;exact Qx n (sy h) 33541
 refine QQ <|Qx l (g _ (sy h)) 0
def PY (b:QA) (a:Str):Option Bool:=some (b.Xj==a)
instance pW:Spc2 prog 91 PY (λc a=>[Qq.ty c,tptr (rS.cs a)]) tb:=.mk λ{c a r} h=>by
 refine Fe func91 ntmps91 λd M e b=>?_
 apply Qa 18
 apply Qa 32
 exact tRE h b
def EX (b:Qc) (a:Str):Option Int:=(I6 b.Xa (λx0=>PY x0 a)).bind λc=>some c
instance eE:Spc2 prog 35 EX (λc a=>[Qb.ty c,tv (.string (sB a))]) ti:=.mk λ{c a r} h=>by
 refine Fe func35 ntmps35 λd M e b=>?_
 apply Qa 6
 have⟨_,_,h⟩:=bs h
 apply Qa 32
 exact tRE h b
def Lq (b:Qc) (c:Int):Option Int:=(idx b.Xa c).bind λa=>(EX b a.Xj).bind λd=>(opt (((a.Xb.length:Int)==0)==false) (idx a.Xb 0) default).bind λe=>(CB [A1.mk (decide (d<c)) 7,A1.mk (((a.Xb.length:Int)==0)||(e.Xi !=0)) 11]).bind λf=>some f
instance pX:Spc2 prog 143 Lq (λb c=>[Qb.ty b,ti c]) ti:=.mk λ{b c r} h=>by
 refine Fe func143 ntmps143 λe M f a=>?_
 apply Qa 18
 have⟨d,_,_,_,_,_,_,_,h⟩:=bs4 h
 refine QU [vb 5 (Qq.cs zz1),vb 5 (Qq.cs d)] [6,7] 448 λg=>?_
 apply tFz 0
 apply Qa 8388608
 exact tRE h a
def PZ (b:Qe) (a:Str):Option Bool:=some (b.Xj==a)
instance pY:Spc2 prog 136 PZ (λc a=>[Qd.ty c,tptr (rS.cs a)]) tb:=.mk λ{c a r} h=>by
 refine Fe func136 ntmps136 λd M e b=>?_
 apply Qa 18
 apply Qa 32
 exact tRE h b
def CW (b:QA) (a:Str):Option Int:=(I7 b.Xb (λx0=>PZ x0 a)).bind λc=>some c
instance eF:Spc2 prog 78 CW (λc a=>[Qq.ty c,tv (.string (sB a))]) ti:=.mk λ{c a r} h=>by
 refine Fe func78 ntmps78 λd M e b=>?_
 apply Qa 6
 have⟨_,_,h⟩:=bs h
 apply Qa 32
 exact tRE h b
def EW (c:Qc) (a:Int) (b:Int):Option (Qe×Bool):=(opt ((((decide (a<0))||(decide (a>=(c.Xa.length:Int))))||(decide (b<0)))==false) (idx c.Xa a) default).bind λd=>(if (((decide (a<0))||(decide (a>=(c.Xa.length:Int))))||(decide (b<0)))||(decide (b>=(d.Xb.length:Int))) then some (zz0,false) else (idx c.Xa a).bind λe=>(idx e.Xb b).bind λf=>some (f,true))
instance Tu:Spc3 prog 124 EW (λd b a=>[Qb.ty d,ti b,ti a]) (λr=>ttup [Qd.ty r.1,tb r.2]):=.mk λ{d b a r} h=>by
 refine Fe func124 ntmps124 λg M i c=>?_
 refine QU [vb 1 (Qd.cs zz0)] [2] 102 λe=>?_
 have⟨_,_,h⟩:=bs h
 refine tIfs h 520093696 (λ_ h=>?_) λ_ h=>?_
 ·refine QU [v0 (box (Qd.cs zz0) (e 1))] [2] 36 λj=>?_
  exact tRE h c
 have⟨_,_,f,_,h⟩:=bs2 h
 refine QU [v0 (box (Qd.cs f) (e 1))] [10] 9216 λk=>?_
 exact tRE h c
def Ls (a:Ba):Option Int:=(CB [A1.mk (decide (a.field>0)) 13]).bind λb=>some b
instance eG:Spc1 prog 303 Ls (λb=>[Cw.ty b]) ti:=.mk λ{b r} h=>by
 refine Fe func303 ntmps303 λc M d a=>?_
 apply Qa 2
 have⟨_,_,h⟩:=bs h
 apply Qa 128
 exact tRE h a
def Fp (d:Qc->Int->Int->Option Int) (e:Qc) (a:Int) (b:Int):Option Int:=(EW e a b).bind λc=>if !c.2 then some (-1) else (if ((c.1).Xi==7)||((c.1).Xi==8) then (idx e.Xa a).bind λi=>(CW i (c.1).Up).bind λf=>(EW e a f).bind λg=>if (g.2&&(decide (f<b)))&&((g.1).Xi==1) then (d e a f).bind λj=>some j else some (-1) else if (c.1).Xi !=1 then some (-1) else (EX e (c.1).Of).bind λh=>if decide (h<a) then some h else some (-1))
def PQ:Nat->Qc->Int->Int->Option Int
 | 0=>λ_ _ _=>none
 | n+1=>Fp (PQ n)
def Lu (a:Ba):Option Int:=(idx (a.x).Xa a.kind).bind λc=>(CW c (a.f).Of).bind λb=>(EW a.x a.kind b).bind λd=>(CB [A1.mk (((a.f).Of !=([]:Str))&&(((decide (b<0))||(decide (b>=a.field)))||((d.1).Xi !=4))) 12]).bind λe=>some e
instance eH:Spc1 prog 305 Lu (λb=>[Cw.ty b]) ti:=.mk λ{b r} h=>by
 refine Fe func305 ntmps305 λd M e a=>?_
 apply Qa 2
 have⟨_,_,_,_,c,_,_,_,h⟩:=bs4 h
 apply Qa 12288
 refine QU [vb 9 (Qd.cs zz0),vb 9 (Qd.cs c.1)] [10,11] 13312 λf=>?_
 apply tFz 0
 apply Qa 8388608
 exact tRE h a
def PI (b:Qm) (a:Ba):Option Bool:=some (b.Xj==(a.f).Of)
instance pZ:Spc2 prog 307 PI (λc a=>[Qs.ty c,tptr (Cw.cs a)]) tb:=.mk λ{c a r} h=>by
 refine Fe func307 ntmps307 λd M e b=>?_
 apply Qa 18
 apply Qa 128
 exact tRE h b
def Lv (a:Ba):Option Int:=(Hw (a.x).Xd (λx0=>PI x0 a)).bind λb=>(CB [A1.mk (!b) 12]).bind λc=>some c
instance eI:Spc1 prog 306 Lv (λb=>[Cw.ty b]) ti:=.mk λ{b r} h=>by
 refine Fe func306 ntmps306 λc M d a=>?_
 apply Qa 2
 have⟨_,_,_,_,h⟩:=bs2 h
 apply Qa 64
 apply Qa 64
 exact tRE h a
def Hx (c:Qm) (a:Int):Option Lz:=(Qr (λ(s0:Int×Lz)=>if decide (s0.1<(c.Xg.length:Int)) then (idx c.Xg s0.1).bind λb=>(if b.a0==a then (rm (s0.2.length+[b.a1].length)).bind λ_=>some (s0.2++[b.a1]) else some s0.2).bind λd=>some (.inl (i64.wrap (s0.1+1),d)) else some (.inr s0.2)) (0,[])).bind λe=>some e
instance pQ:Spc2 prog 132 Hx (λg a=>[Qs.ty g,ti a]) (tsl rI):=.mk λ{g a r} h=>by
 refine Fe func132 ntmps132 λA M k d=>?_
 apply Qa 18
 apply Qa 14
 apply tNl rI 3
 refine Qf λl m=>?_
 apply Qa 188
 have⟨n,h0,h⟩:=bs h
 have p:∀e f,e=n->To M k 26 [(5,tv f)] [own rI 3 e f] l:=by
  intro e f q;subst q;refine m <|Qa 14 ?_;apply AG;refine AA (by intro _ _ H;exact (H.Xn 1 rfl).pick [0]) ?_;exact oRE h d
 refine Qk <|AT h0 (λs0 b=>[(11,ti s0.1),(5,tv b)]) 1612726658 (λs0 b=>[own rI 3 s0.2 b]) 1 (.slice none 0 0) 62 ?_;intro s0 b o B h s t;apply Qa 126;refine Qf λ_ u=>Qo h (λ_ h=>?_) λ_ h=>?_
 ·refine Qu <|u <|Qf λv w=>Qk ?_;have⟨i,_,x,y,h⟩:=bs2 h;refine QU [vb 2 (Af.cs (AS.mk (0:Int) (0:Int))),vb 2 (Af.cs i)] [3,4] 1000 λC=>?_;apply tFz 1;apply Qa 2032;refine tJ1 (λc=>[(5,tv c)]) 2160148993 (λc=>[own rI 3 x c]) 1 v (λc=>?_) λj=>?_
  ·refine w <|QJ 124 ?_;exact Q7 t c (sy h) 2692776967
  replace h:=y;apply Qo h<;>intro _ h
  ·have⟨_,_,h⟩:=bs h;refine AB [vo 4 rI 3 (s0.2++[i.a1])] [5] 7776 λz=>?_;cases sj h;exact QN (j (z 4)) 124
  apply Qu;cases sj h;exact QN (j b) 3779199757
 refine QQ <|Q7 p b (s _ (sy h)) 32
def I9 (a:Str) (b:Lz) (c:QA):Option Int:=if a==([]:Str) then some 0 else (CW c a).bind λd=>(idx b d).bind λe=>some e
instance Tv:Spc3 prog 92 I9 (λa b c=>[tv (.string (sB a)),tptr ((rSl rI).cs b),tptr (Qq.cs c)]) ti:=.mk λ{a b c r} h=>by
 refine Fe func92 ntmps92 λe M f d=>?_
 apply Qa 28
 refine tIfs h 60 (λ_ h=>?_) λ_ h=>?_
 ·apply Qa 2
  exact tRE h d
 have⟨_,_,_,_,h⟩:=bs2 h
 apply Qa 128
 exact tRE h d
def Pa (a:Int):Option Bool:=some (decide (a<0))
instance p9:Spc1 prog 64 Pa (λb=>[ti b]) tb:=.mk λ{b r} h=>by
 refine Fe func64 ntmps64 λc M d a=>?_
 apply Qa 4
 apply Qa 8
 exact tRE h a
def Tw (b:Int) (a:Qe):Option Bool:=(opt (((decide (b>=0))&&(decide (b<(a.Xf.length:Int))))==true) (idx a.Xf b) default).bind λc=>some (((decide (b>=0))&&(decide (b<(a.Xf.length:Int))))&&(decide (c>0)))
instance rA:Spc2 prog 73 Tw (λc a=>[ti c,tptr (Qd.cs a)]) tb:=.mk λ{c a r} h=>by
 refine Fe func73 ntmps73 λd M e b=>?_
 apply Qa 12
 have⟨_,_,h⟩:=bs h
 apply Qa 262144
 exact tRE h b

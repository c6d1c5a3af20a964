/- The walk. No condition. -/
import Derived.Test.YtohojolgolinoaaGreatDoorGenA
import Derived.Test.YtohojolgolinoaaGreatDoorGenB
import Derived.Test.YtohojolgolinoaaGreatDoorGenC
import Derived.Test.YtohojolgolinoaaGreatDoorGenD
set_option linter.all false
open List Go.Proofs.Tryz Go.IntKind
namespace Go.Proofs.YtohojolgolinoaaGreatDoor
noncomputable section
open Go.Sim
set_option maxRecDepth 100000
set_option maxHeartbeats 4000000
def E5 (b:Az) (a:Int):Option Int:=(mk (b.used.length:Int) 0).bind λk=>(sub b.old a (b.old.length:Int)).bind λi=>(Qr (λ(s0:Int×Lz)=>if decide (s0.1<(i.length:Int)) then (idx i s0.1).bind λh=>(if (decide (h>=0))&&(decide (h<(s0.2.length:Int))) then (idx s0.2 h).bind λl=>(setAt s0.2 h (i64.wrap (l+1))).bind λm=>some m else some s0.2).bind λn=>some (.inl (i64.wrap (s0.1+1),n)) else some (.inr s0.2)) (0,k)).bind λj=>(Qr (λ(c:Int×Int×Int×Int×Int)=>if decide (c.1<(j.length:Int)) then (idx j c.1).bind λe=>(idx b.used c.1).bind λf=>(idx b.used c.1).bind λg=>some (.inl (i64.wrap (c.1+1),i64.wrap (c.2.1+(imax (imax 0 (i64.wrap (b.lo - f))) (imin e (i64.wrap (b.hi - g))))),i64.wrap (c.2.2.1+(imin e (imax (imax 0 (i64.wrap (b.lo - f))) (imin e (i64.wrap (b.hi - g)))))),i64.wrap ((i64.wrap (c.2.2.2.1+(i64.wrap (b.hi - g)))) - (imax (imax 0 (i64.wrap (b.lo - f))) (imin e (i64.wrap (b.hi - g))))),i64.wrap ((i64.wrap (c.2.2.2.2+(imax (imax 0 (i64.wrap (b.lo - f))) (imin e (i64.wrap (b.hi - g)))))) - (imax 0 (i64.wrap (b.lo - f)))))) else some (.inr (c.2.1,c.2.2.1,c.2.2.2.1,c.2.2.2.2))) (0,0,0,0,0)).bind λd=>(if (decide ((i64.wrap (d.1 - (i64.wrap ((b.old.length:Int) - a))))>d.2.2.2))||(decide ((i64.wrap ((i64.wrap ((b.old.length:Int) - a)) - d.1))>d.2.2.1)) then some (-1) else some (i64.wrap (d.2.1 - (imax 0 (i64.wrap (d.1 - (i64.wrap ((b.old.length:Int) - a))))))))
instance UN:Spc2 prog 59 E5 (λi a=>[tptr (OB.cs i),ti a]) ti:=.mk λ{i a r} h=>by
 refine Fe func59 ntmps59 λL M N b=>?_
 apply Qa 12
 have⟨l,_,_,_,m,h0,h⟩:=bs3 h
 refine QU [vo 5 rI 3 l] [6] 960 λd=>?_
 refine Qf λn p=>?_
 apply Qa 8128
 refine tJp (λ_=>[]) 16262 (λj=>[own rI 3 j (d 5)]) 1 n (·=m) (λj f=>?_) λq=>?_
 ·subst f
  apply p
  apply Qa 1792
  apply Qa 254
  refine Qf λs t=>?_
  apply Qa 2046
  have⟨u,v,h⟩:=bs h
  refine tJp (λc=>[(9,ti c.1),(10,ti c.2.1),(11,ti c.2.2.1),(12,ti c.2.2.2)]) 2418032769 (λ_=>[]) 0 s (·=u) (λc f=>?_) λw=>?_
  ·subst f
   apply t
   refine tIfs h 159744 (λ_ h=>?_) λ_ h=>?_
   ·apply Qa 2
    exact tRE h b
   apply Qa 128
   exact tRE h b
  apply Qk
  refine AC v (λs0=>[(59,ti s0.1),(9,ti s0.2.1),(10,ti s0.2.2.1),(11,ti s0.2.2.2.1),(12,ti s0.2.2.2.2)]) 797704516674797954 (λs0=>[]) 2 1534 ?_
  intro s0 o O h g x
  apply Qa 2046
  refine Qf λ_ y=>?_
  apply Qo h<;>intro _ h
  ·apply Qu
   apply y
   refine Qf λ_ z=>?_
   apply Qk
   have⟨_,_,_,A,h⟩:=bs2 h
   apply Qa 65456
   replace h:=bk A h
   apply Qa 549420269568
   apply Qa 524224
   apply QJ 4168613888
   apply z
   apply QJ 2044
   exact Qx x (sy h) 1306088148899497741
  apply QQ
  refine AA (λ_ _ H=>(H.pick [4,5,6,7,8]).Xk [] rfl) ?_
  exact Qx w (g _ (sy h)) 62
 apply Qk
 refine AC h0 (λe=>[(31,ti e.1)]) 34103902594 (λe=>[own rI 3 e.2 (d 5)]) 1 238 ?_
 intro e o P h g B
 apply Qa 254
 refine Qf λ_ C=>?_
 apply Qo h<;>intro _ h
 ·apply Qu
  apply C
  refine Qf λD E=>?_
  apply Qk
  have⟨_,_,F,I,h⟩:=bs2 h
  apply Qa 2024
  apply Qa 65280
  refine tJ0 [] 16260 [own rI 3 F (d 5)] 1 D ?_ λk=>?_
  ·apply E
   apply QJ 252
   exact Qx B (sy h) 415018025733
  replace h:=I
  apply Qo h<;>intro _ h
  ·have⟨_,_,K,_,h⟩:=bs2 h
   refine AB [v0 (own rI 3 K (d 5))] [7] 32258 λQ=>?_
   cases sj h
   exact QN k 252
  apply Qu
  cases sj h
  exact QN k 504
 apply QQ
 exact Qx q (g _ (sy h)) 224
def GR (b:Int) (a:Az) (e:Int) (f:Int) (c:Int):Option (Bool×Az):=(idx a.used b).bind λi=>if decide (i>=a.hi) then some (false,Az.mk a.old a.used a.lo a.hi) else (idx a.used b).bind λj=>(setAt a.used b (i64.wrap (j+1))).bind λd=>(E5 (Az.mk a.old d a.lo a.hi) (i64.wrap (e+1))).bind λg=>(if (decide (g>=0))&&(b==f) then some (i64.wrap (g+1)) else some g).bind λh=>(if h !=c then (idx d b).bind λk=>(setAt d b (i64.wrap (k - 1))).bind λl=>some l else some d).bind λm=>some (h==c,Az.mk a.old m a.lo a.hi)
instance fM:SpcS prog 60 (∀{f a i b c d e r},GR i b c d e=some r->FnOk prog 60 [ti i,tptr (rVal.cs f),tptr (rI.cs c),tptr (rI.cs d),tptr (rI.cs e)] [box ([tsl rI b.old,tvs a,ti b.lo,ti b.hi]) f,own rI 3 b.used a] (λ_=>[box ([tsl rI (r.2).old,tvs a,ti (r.2).lo,ti (r.2).hi]) f,own rI 3 (r.2).used a]) (λ_=>tb r.1)):=.mk λ{f a i b c d e r} h=>by
 refine Fe func60 ntmps60 λz M A g=>?_
 apply Qa 124
 refine Qf λ_ n=>?_
 have⟨_,_,h⟩:=bs h
 refine Qa 258064 ?_ (λ_=>by refine' rx (.p rfl (Ck EA z1)) 6 ?_;refine' rx (.p rfl (Ck EA z8)) 4 ?_;exact rnn)
 refine DJ 1 (λj=>?_) λj=>?_
 ·replace h:=C6 j h
  apply Qa 38
  exact Qp h (·▸AO undef [0,1] g)
 replace h:=C7 j h
 apply Qu
 apply n
 have⟨_,_,k,_,_,h0,o,p,h⟩:=bs4 h
 refine QU [v0 (own rI 3 k a)] [10] 128016 (λB=>?_) (λ_=>by refine' rx (.p rfl (Ck EA z3)) 9 ?_;exact rnn)
 refine Qa 7136 ?_ (λ_=>by refine' rx (.p rfl (Ck EA z3)) 2 ?_;refine' rx (.u [0,1] rfl rfl (CY [box ([tsl rI b.old,tvs a,ti b.lo,ti b.hi]) f,own rI 3 k a] cal (UN.ok h0) (.cons (.boxP 1 z2 (.head _) (.tail _ (.head _)) rfl)<|.cons (.of z0)<|.nil) (λ_=>Ah) (λ_=>EY (x:=undef)))) 1 ?_;exact rnn)
 refine Qf λq s=>?_
 apply Qa 24448
 refine tJ0 [(7,ti o)] 2081537 [] 127 q ?_ λl=>?_
 ·apply s
  refine Qf λt u=>?_
  apply Qa 248
  have⟨v,w,h⟩:=bs h
  refine tJ0 [] 98947 [own rI 3 v a] 130 t ?_ λm=>?_
  ·apply u
   apply Qa 80
   exact Qp h (·▸AO undef [0,1] g)
  replace h:=w
  apply Qo h<;>intro _ h
  ·have⟨_,_,y,_,h⟩:=bs2 h
   refine AB [v0 (own rI 3 y a)] [10] 26640 (λC=>?_) (λ_=>by refine' rx (.p rfl (Ck EA z3)) 9 ?_;exact rnn)
   cases sj h
   exact QN m 28
  apply Qu
  cases sj h
  exact QN m 52
 replace h:=p
 apply Qo h<;>intro _ h
 ·apply QJ 1000
  cases sj h
  exact QN l 114
 apply Qu
 cases sj h
 exact QN l 228
def Lc (d:Int) (b:(List Qi)):Option Qw:=(mk (b.length:Int) 0).bind λe=>(Qr (λ(s0:Int×List Qg×Lz)=>if decide (s0.1<(b.length:Int)) then (idx b s0.1).bind λa=>(setAt s0.2.2 s0.1 a.Lo).bind λf=>(rm (s0.2.1.length+[Qg.mk s0.1 a.From a.To a.Cost 1,Qg.mk s0.1 a.To a.From (i64.wrap (0 - a.Cost)) (-1)].length)).bind λ_=>some (.inl (i64.wrap (s0.1+1),s0.2.1++[Qg.mk s0.1 a.From a.To a.Cost 1,Qg.mk s0.1 a.To a.From (i64.wrap (0 - a.Cost)) (-1)],f)) else some (.inr (s0.2.1,s0.2.2))) (0,[],e)).bind λc=>some (Qw.mk d b c.2 c.1)
instance fN:SpcS prog 118 (∀{b c r},Lc b c=some r->FnOk prog 118 [ti b,tsl QE c] [] (λv=>[bxN r.n r.l (gh v 1) r.arcs (gh v 0),own rI 3 r.flow (gh v 1)]) (λv=>tv (gh v 0))):=.mk λ{b c r} h=>by
 refine Fe func118 ntmps118 λD M l i=>?_
 apply Qa 12
 have⟨k,_,m,h0,h⟩:=bs2 h
 refine QU [vo 4 rI 3 k,v2 4 6 (λv0 v1=>box ([ti b,tsl QE c,tvs v0,tvs nilV]) v1)] [5,7] 1312 (λa=>?_) (λa=>by refine' pr 5 ?_;refine' rx (.ud (f:=λv=>tagg ([ti b,tsl QE c,tvs v,tvs nilV])) 4 rfl [0] rfl rfl (.say (A:=own rI 3 k (a 4)) (.head _) (λ_ _ h=>EQ h) λn=>OpJ.Xq (U:=[]) (λA hA=>by cases hA) (Cm underlying197 pl197 zv197 Wj.1 (.cons (R:=rI) (u:=b) rfl z4 (leb rfl)<|.cons (R:=(rSl QE)) (u:=c) rfl z3 (leb rfl)<|.cons (R:=rVal) (u:=(a 4)) rfl (Fct.Xo z0 λ_ _ _ h=>⟨h,n⟩) (leb rfl)<|.nil _)))) 0 ?_;refine' rx (.m [] [1] rfl rfl rfl (JR (R:=(rAgg ([ti b,tsl QE c,tvs (a 4),tvs nilV]) (Qt (QZ rfl) (Qt DB (Qt BV (Qt BV Ae)))))) (u:=()) z0)) 1 ?_;exact rnn)
 apply tNl Qv 256
 refine Qf λp q=>?_
 apply Qa 62
 have s:∀e j,e=m->To M l 58 [(5,tv (a 6))] [own Qv 256 e.1 j,own rI 3 e.2 (a 4),box ([ti b,tsl QE c,tvs (a 4),tvs j]) (a 6)] p:=by
  intro e j t;subst t;refine q <|Qa 4 ?_;apply AG;refine AA (As'':=[bxN b c (a 4) e.1 (a 6),own rI 3 e.2 (a 4)]) (λ_ _ H=>((H.pick [0]).Xk [0,2,1] rfl).Xm 3 rfl) ?_;cases sj h;exact AO (.tuple #[a 6,a 4]) [0,1] i
 refine Qk <|AT h0 (λs0 g=>[(17,ti s0.1)]) 12599682 (λs0 g=>[own Qv 256 s0.2.1 g,own rI 3 s0.2.2 (a 4),box ([ti b,tsl QE c,tvs (a 4),tvs g]) (a 6)]) 16513 nilV 46 ?_;intro s0 g o E h w x;apply Qa 62;refine Qf λ_ y=>Qo h (λ_ h=>?_) λ_ h=>?_
 ·refine Qu <|y <|Qf λ_ z=>Qk ?_;have⟨d,_,B,_,_,_,h⟩:=bs3 h;refine QU [vb 3 (QE.cs (Qi.mk (0:Int) (0:Int) (0:Int) (0:Int) (0:Int))),vb 3 (QE.cs d)] [4,6] 1968 λF=>?_;apply tFz 3;refine QU [v0 (own rI 3 B (a 4))] [9] 32272 λI=>?_;refine AB [vo 23 Qv 256 (s0.2.1++[Qg.mk s0.1 d.From d.To d.Cost (1:Int),Qg.mk s0.1 d.To d.From (i64.wrap (0 - d.Cost)) (-1:Int)]),v1 23 (λv0=>box ([ti b,tsl QE c,tvs (a 4),tvs v0]) (a 6))] [24,27] 16257122304 λC=>?_;refine z <|QJ 252 ?_;refine AA (λ_ _ H=>(H.pick [3,4,0,5]).Xk [1,0,2] rfl) ?_;exact Q7 x (C 23) (sy h) 30
 refine QQ <|Q7 s g (w _ (sy h)) 32
def Ms (d:Qw):Option (Lz×(Mp Qg)×Int):=(mk d.n 0).bind λj=>(Qr (λ(s0:Int×Lz×Mp Qg)=>(Qr (λ(a:Int×Int×Lz×Mp Qg)=>if decide (a.1<(d.arcs.length:Int)) then (idx d.arcs a.1).bind λb=>(Fs d b).bind λg=>(opt ((decide (g>0))==true) (idx a.2.2.1 b.from') default).bind λk=>(opt ((decide (g>0))==true) (idx a.2.2.1 b.to) default).bind λl=>(if (decide (g>0))&&(decide ((i64.wrap (k+b.cost))<l)) then (idx a.2.2.1 b.from').bind λm=>(setAt a.2.2.1 b.to (i64.wrap (m+b.cost))).bind λn=>(mput a.2.2.2 b.to b).bind λe=>some (b.to,n,e) else some (a.2.1,a.2.2.1,a.2.2.2)).bind λh=>some (.inl (i64.wrap (a.1+1),h.1,h.2.1,h.2.2)) else some (.inr (a.2.1,a.2.2.1,a.2.2.2))) (0,-1,s0.2.1,s0.2.2)).bind λc=>if decide (c.1<0) then some (.inr (0,(none:Mp Qg),c.2.1)) else if decide (s0.1<d.n) then some (.inl (i64.wrap (s0.1+1),c.2.1,c.2.2)) else (Qr (λ(f:Int×Int)=>if decide (f.1<d.n) then some (.inl (i64.wrap (f.1+1),((AY c.2.2 f.2).getD zz6).from')) else some (.inr f.2)) (0,c.1)).bind λo=>some (.inr (o,c.2.2,[]))) (0,j,(some []:Mp Qg))).bind λi=>some (i.2.2,i.2.1,i.1)
instance fO:SpcS prog 120 (∀{n r},Ms n=some r->FnOk prog 120 [tptr (HD.cs n)] [] (λv=>[own rI 3 r.1 (gh v 0),omap Qv r.2.1 (gh v 1)]) (λv=>ttup [tv (gh v 0),tv (gh v 1),ti r.2.2])):=.mk λ{n r} h=>by
 refine Fe func120 ntmps120 λy M t p=>?_
 apply Qa 16
 have⟨z,_,A,h0,h⟩:=bs2 h
 refine QU [vo 4 rI 3 z] [5] 224 λa=>?_
 refine QU [v1 0 (λv0=>omap Qv (some []:Mp Qg) v0)] [1] 62 (λb=>?_) (λ_=>by refine' rx (.m [] [1] rfl rfl rfl (Mr Qv)) 1 ?_;exact rnn)
 apply Qa 126
 have u:∀g k l,g=A->To M t 89 [(2,tv l),(3,tv k),(4,ti g.1)] [omap Qv g.2.1 k,own rI 3 g.2.2 l] (Ret prog f120 y [] t (λv=>[own rI 3 r.1 (gh v 0),omap Qv r.2.1 (gh v 1)]) (λv=>ttup [tv (gh v 0),tv (gh v 1),ti r.2.2]) .ret):=by
  intro g k l i;subst i;cases sj h;exact AO (.tuple #[l,k]) [1,0] p
 refine Qk <|AC h0 (λs0=>[(7,ti s0.1)]) 14778881 (λs0=>[own rI 3 s0.2.1 (a 4),omap Qv s0.2.2 (b 0)]) 129 106 ?_;intro s0 o K0 h e B;refine Qf λ_ C=>Qk <|Qa 62 ?_;refine Qf λD E=>Qa 4080 ?_;have⟨F,I,h⟩:=bs h;refine tJp (λc=>[(8,ti c.1)]) 2081537 (λc=>[own rI 3 c.2.1 (a 4),omap Qv c.2.2 (b 0)]) 129 D (·=F) (λc i=>?_) λK=>?_
 ·subst i;refine E <|tIfs h 252 (λ_ h=>?_) λ_ h=>?_
  ·apply Qa 798;refine Q1 (As'':=[omap Qv (none:Mp Qg) (.map none),own rI 3 c.2.1 (a 4),omap Qv c.2.2 (b 0)]) (λ_ _ H=>H.nilM Qv) ?_;apply AG;refine AA (λ_ _ H=>(H.pick [1,2,3]).Xk [0,1] rfl) ?_;exact D2 u (.map none) (a 4) (e _ (sy h)) 14
  refine tIfs h 8000 (λ_ h=>?_) λ_ h=>?_
  ·refine QQ <|C <|QJ 456 ?_;exact Qx B (sy h) 30
  refine Qf λL N=>Qa 1712 ?_;have⟨O,P,h⟩:=bs h;refine tJp (λw=>[(8,ti w)]) 641 (λ_=>[]) 3 L (·=O) (λw i=>?_) λQ=>?_
  ·subst i;refine N <|Qa 186 ?_;apply tNl rI 3;apply AG;refine AA (λ_ _ H=>(H.pick [1,2,3]).Xk [1,0] rfl) ?_;exact D2 u (b 0) (.slice none 0 0) (e _ (sy h)) 14
  refine Qk <|Q1 (λ_ _ H=>(H.pick [0,1,2,3]).Xk [1] rfl) ?_;refine AC P (λm=>[(80,ti m.1),(8,ti m.2)]) 10502274 (λm=>[]) 2 30 ?_;intro m o K3 h e R;apply Qa 62;refine Qf λ_ S=>Qo h (λ_ h=>?_) λ_ h=>?_
  ·refine Qu <|S <|Qf λ_ T=>Qk ?_;refine QJ 930 ?_ (λ_=>by refine' pr 2 ?_;refine' rx (.u [0] rfl rfl (Mt (x0:=zz6) FO ud3 F7 HC z1 z0)) 0 ?_;refine' rx (.p rfl (fP YS z0 rfl)) 1 ?_;exact rnn);refine T <|QJ 124 ?_;exact Qx R (sy h) 21070089
  refine QQ <|Qx Q (e _ (sy h)) 48
 refine Qk <|AC I (λf=>[(24,ti f.1),(8,ti f.2.1)]) 4365299499394 (λf=>[own rI 3 f.2.2.1 (a 4),omap Qv f.2.2.2 (b 0)]) 129 510 ?_;intro f o K4 h e U;apply Qa 1022;refine Qf λ_ V=>Qo h (λ_ h=>?_) λ_ h=>?_
 ·refine Qu <|V <|Qf λW X=>Qk ?_;have⟨Y,_,_,_,_,_,_,_,h⟩:=bs4 h;refine QU [vb 2 (Qv.cs zz6),vb 2 (Qv.cs Y)] [3,4] 8168 λm2=>?_;apply tFz 2;apply Qa 1072693248;have⟨q,Z,h⟩:=bs h;refine tJ0 [(8,ti q.1)] 4365846921729 [own rI 3 q.2.1 (a 4),omap Qv q.2.2 (b 0)] 129 W ?_ λx=>?_
  ·refine X <|QJ 1020 ?_;exact Qx U (sy h) 9069186915533831
  replace h:=Z;apply Qo h<;>intro _ h
  ·have⟨_,_,t2,_,h⟩:=bs2 h;refine QU [v0 (own rI 3 t2 (a 4))] [13] 8110098 λm3=>?_;refine Qf λ_ s=>?_;have⟨j,d,h⟩:=bs h;refine AB [v0 (omap Qv j (b 0))] [5] 32738 (λm4=>?_) (λ_=>by refine' pr 4 ?_;refine' rx (.e [] [0] [2] rfl rfl rfl rfl (JP FO ud3 z3 z1 z0 d)) 0 ?_;exact rnn);refine s <|QJ 32632 ?_;cases sj h;exact QN x 4066
  apply Qu;cases sj h;exact QN x 11338717440639757
 refine QQ <|Qx K (e _ (sy h)) 992
def Mu (a:Qm):Option Bool:=(By a.Xj).bind λb=>(opt (b==true) (Dq (a.Xe.length:Int) 1 12) default).bind λc=>(opt ((b&&c)==true) (JI a.Xe (λx0=>By x0)) default).bind λd=>(opt ((((b&&c)&&d)&&(decide ((a.Xg.length:Int)<=32)))==true) (Ma a.Xg (λx0=>Mi x0 (a.Xe.length:Int))) default).bind λe=>some ((((b&&c)&&d)&&(decide ((a.Xg.length:Int)<=32)))&&e)
instance uS:Spc1 prog 181 Mu (λa=>[Qs.ty a]) tb:=.mk λ{a r} h=>by
 refine Fe func181 ntmps181 λc M d b=>?_
 apply Qa 2
 refine QU [vb 3 (rI.cs (0:Int)),vb 3 (rI.cs (a.Xe.length:Int))] [4,5] 48 λe=>?_
 apply tFz 0
 have⟨_,_,_,_,_,_,_,_,h⟩:=bs4 h
 apply Qa 33554432
 exact tRE h b
def Mv (a:QL):Option Bool:=(By a.Xj).bind λb=>(opt (b==true) (By a.Xi) default).bind λc=>(opt (((b&&c)==true)&&((a.A==([]:Str))==false)) (By a.A) default).bind λd=>(opt ((((b&&c)&&((a.A==([]:Str))||d))==true)&&((a.B==([]:Str))==false)) (By a.B) default).bind λe=>(opt ((((b&&c)&&((a.A==([]:Str))||d))&&((a.B==([]:Str))||e))==true) (cat (a.A.length+a.B.length)) default).bind λ_=>(opt (((((b&&c)&&((a.A==([]:Str))||d))&&((a.B==([]:Str))||e))&&((a.A++a.B) !=([]:Str)))==true) (Dq a.N (-1048576) 1048576) default).bind λf=>some (((((b&&c)&&((a.A==([]:Str))||d))&&((a.B==([]:Str))||e))&&((a.A++a.B) !=([]:Str)))&&f)
instance uT:Spc1 prog 183 Mv (λb=>[QV.ty b]) tb:=.mk λ{b r} h=>by
 refine Fe func183 ntmps183 λc M d a=>?_
 apply Qa 2
 have⟨_,_,_,_,_,_,_,_,h⟩:=bs4 h
 have⟨_,_,_,_,h⟩:=bs2 h
 apply Qa 4398046511104
 exact tRE h a
def L0 (b:Qc) (e:Int):Option Int:=(idx b.Xc e).bind λa=>(sub b.Xc 0 e).bind λi=>(JC i (λx0=>PJ x0 a)).bind λj=>(EX b a.Xi).bind λc=>(Qr (λ(s0:Int×Bool×Bool)=>if decide (s0.1<([a.A,a.B].length:Int)) then ((idx [a.A,a.B] s0.1).bind λf=>(if (f==([]:Str))||(decide (c<0)) then some (s0.2.1,s0.2.2) else (idx b.Xa c).bind λk=>(CW k f).bind λl=>(EW b c l).bind λd=>some ((s0.2.1||(!d.2)),(s0.2.2||(((d.1).Xi !=2)&&((d.1).Xi !=4)))))).bind λg=>some (.inl (i64.wrap (s0.1+1),g.1,g.2)) else some (.inr (s0.2.1,s0.2.2))) (0,decide (c<0),false)).bind λh=>(CB [A1.mk j 7,A1.mk h.1 12,A1.mk h.2 13,A1.mk (a.A==a.B) 1]).bind λm=>some m
instance uU:Spc2 prog 144 L0 (λc d=>[Qb.ty c,ti d]) ti:=.mk λ{c d r} h=>by
 refine Fe func144 ntmps144 λw M x a=>?_
 apply Qa 18
 have⟨g,_,_,_,_,_,_,_,h⟩:=bs4 h
 refine QU [vb 5 (QV.cs zz3),vb 5 (QV.cs g)] [6,7] 448 λy=>?_
 apply tFz 0
 apply Qa 896
 apply Qa 480
 apply Qa 504
 refine Qf λi j=>?_
 apply Qa 16352
 have⟨k,h0,h⟩:=bs h
 refine tJp (λb=>[(8,tb b.1),(9,tb b.2)]) 19005569 (λ_=>[]) 0 i (·=k) (λb l=>?_) λm=>?_
 ·subst l
  apply j
  have⟨_,_,h⟩:=bs h
  apply Qa 32768
  exact tRE h a
 apply Qk
 refine AC h0 (λs0=>[(37,ti s0.1),(8,tb s0.2.1),(9,tb s0.2.2)]) 558792695628162 (λs0=>[]) 0 1022 ?_
 intro s0 o z h n p
 apply Qa 2046
 refine Qf λ_ q=>?_
 apply Qo h<;>intro _ h
 ·apply Qu
  apply q
  refine Qf λs t=>?_
  have⟨e,u,h⟩:=bs h
  refine tJ0 [(8,tb e.1),(9,tb e.2)] 558827055432195 [] 0 s ?_ λf=>?_
  ·apply t
   apply QJ 2044
   exact Qx p (sy h) 1306105879606625029
  replace h:=u
  apply Qk
  have⟨_,_,h⟩:=bs h
  apply Qa 16360
  refine tIfs h 131008 (λ_ h=>?_) λ_ h=>?_
  ·apply QQ
   cases sj h
   exact QN f 4088
  have⟨_,_,_,_,v,_,h⟩:=bs3 h
  refine QU [vb 13 (Qd.cs zz0),vb 13 (Qd.cs v.1)] [14,15] 134004736 λA=>?_
  apply tFz 0
  apply Qa 130752
  apply QJ 4173824
  cases sj h
  exact QN f 1306105877450884103
 apply QQ
 exact Qx m (n _ (sy h)) 864
theorem fR {e:Qc->Int->Int->Option Int} (f:∀(g:Qc) (c:Int) (b:Int) (r:Int),e g c b=some r->FnOk prog 68 [Qb.ty g,ti c,ti b] [] (λ_=>[]) (λ_=>ti r)) {g:Qc} {c:Int} {b:Int} {r:Int} (h:Fp e g c b=some r):FnOk prog 68 [Qb.ty g,ti c,ti b] [] (λ_=>[]) (λ_=>ti r):=by
 unfold Fp at h;refine fe func68 ntmps68 λA M B a d H=>?_;refine sr mx [] H (λ_=>.o (Mj (R:=Qb) (u:=g) z0)<|.o (Ql .k)<|.n) λ_ a w H=>?_;have H:=H.to [0,3,4] [_,_,_] [] rfl rfl;have⟨i,h0,h⟩:=bs h;refine sr mx [v1 7 (λv0=>box (Qd.cs zz0) v0),v1 7 (λv0=>box (Qd.cs i.1) v0)] H (λ_=>.o (Q4 D8 z0)<|.q 2 rfl<|.q 4 rfl<|.o (QO cal (Tu.ok h0) (.cons (.of z2)<|.cons (.of z1)<|.cons (.of z0)<|.nil))<|.q 0 rfl<|.o (Ea z0 rfl)<|.o (Ea z1 rfl)<|.m [] [0] rfl rfl rfl (Eb (R:=Qd) (a:=zz0) Em N2)<|.e [] [0] [1] rfl rfl rfl rfl (Ec (R:=Qd) (a:=i.1) Em z0 z2 (leb rfl))<|.o (Ql z1)<|.n) λ_ a w H=>?_;replace H:St _ _ _ [_,_,_,_,_] [] _ _:=(((H.pick [7,8,9,10,11]).Xl 0 rfl).add 0 rfl (λ_ _ _ h=>h.2)).pick [0,3,4,5,6];refine wp_seq_k (λ_ k=>?_);apply wp_block;refine sr mx [] H (λ_=>.q 1 rfl<|.o (Mo z0)<|.o (Ql z0)<|.n) λ_ a w H=>?_;have H:=H.to [2,3,5,6,7] [_,_,_,_,_] [] rfl rfl;refine wi H h (λl h=>?_) (λl h=>?_)
 ·refine sr mx [] H (λ_=>.o (Ql .k)<|.n) λ_ a w H=>?_;have H:=H.t1_0 [0];exact r0 h (·▸r1 d H (.tmp z0 .nil))
 refine sr mx [] H (λ_=>.o (QP IK z1)<|.o (QM (u:=(i.1).Xi) tok3 z0 rfl)<|.o (JS z0 .k)<|.q 0 rfl<|.g rfl rfl bq0 (λ_=>QP IK z5)<|.g rfl rfl bq1 (λhc=>QM (u:=(i.1).Xi) tok3 (.cond z0 hc) rfl)<|.g rfl rfl bq2 (λhc=>JS (.cond z0 hc) .k)<|.o (op_or z3 (λhp=>.cond z0 (beqF hp)))<|.o (Ql z0)<|.n) λ_ a w H=>?_;have H:=H.to [8,10,11,12,13] [_,_,_,_,_] [] rfl rfl;refine wi H h (λm h=>?_) (λm h=>?_)
 ·have⟨C,n,D,o,h⟩:=bs2 h;refine sr mx [] H (λ_=>.o (QP Er z2)<|.o (QM (u:=g.Xa) N3 z0 rfl)<|.q 5 rfl<|.o (JN underlying23 IH z1 z0 n)<|.o (Q4 IH z0)<|.o (QP SA z6)<|.o (QM (u:=(i.1).Up) tok9 z0 rfl)<|.o (QO cal (eF.ok o) (.cons (.of z2)<|.cons (.of z0)<|.nil))<|.o (Ql z0)<|.n) λ_ a w H=>?_;have H:=H.to [8,11,12,13] [_,_,_,_] [] rfl rfl;refine wp_seq_k (λ_ p=>?_);have⟨j,q,h⟩:=bs h;refine sr mx [v1 7 (λv0=>box (Qd.cs zz0) v0),v1 7 (λv0=>box (Qd.cs j.1) v0)] H (λ_=>.o (Q4 D8 z1)<|.q 3 rfl<|.q 2 rfl<|.o (QO cal (Tu.ok q) (.cons (.of z2)<|.cons (.of z1)<|.cons (.of z0)<|.nil))<|.q 0 rfl<|.o (Ea z0 rfl)<|.o (Ea z1 rfl)<|.m [] [0] rfl rfl rfl (Eb (R:=Qd) (a:=zz0) Em N2)<|.e [] [0] [1] rfl rfl rfl rfl (Ec (R:=Qd) (a:=j.1) Em z0 z2 (leb rfl))<|.o (Ql z1)<|.n) λ_ a w H=>?_;replace H:St _ _ _ [_,_,_,_,_,_] [] _ _:=(((H.pick [7,8,9,10,11,12]).Xl 0 rfl).add 0 rfl (λ_ _ _ h=>h.2)).pick [0,3,4,5,6,7];refine sr mx [] H (λ_=>.q 1 rfl<|.q 0 rfl<|.g rfl rfl bq0 (λ_=>CS z4)<|.g rfl rfl bq1 (λ_=>CS z8)<|.g rfl rfl bq2 (λhc=>JA (.cond z1 hc) (.cond z0 hc))<|.o (Pl z3 (λhp=>.cond z0 (beqT hp)))<|.q 0 rfl<|.g rfl rfl bq0 (λ_=>QP IK z7)<|.g rfl rfl bq1 (λhc=>QM (u:=(j.1).Xi) tok3 (.cond z0 hc) rfl)<|.g rfl rfl bq2 (λhc=>JS (.cond z0 hc) .k)<|.o (Pl z3 (λhp=>.cond z0 (beqT hp)))<|.n) λ_ a w H=>?_;have H:=H.to [10,13,14,15] [_,_,_,_] [] rfl rfl;refine wi H h (λs h=>?_) (λs h=>?_)
  ·have⟨E,t,h⟩:=bs h;refine sr mx [] H (λ_=>.o (Q4 D8 z2)<|.q 4 rfl<|.q 3 rfl<|.o (QO cal (f _ _ _ _ t) (.cons (.of z2)<|.cons (.of z1)<|.cons (.of z0)<|.nil))<|.o (Ql z0)<|.n) λ_ a w H=>?_;have H:=H.t1_0 [4];exact r0 h (·▸r1 d H (.tmp z0 .nil))
  refine wp_skip (p _ _ ?_);refine sr mx [] H (λ_=>.o (Ql .k)<|.n) λ_ a w H=>?_;have H:=H.t1_0 [0];exact r0 h (·▸r1 d H (.tmp z0 .nil))
 refine sr mx [] H (λ_=>.o (QP IK z1)<|.o (QM (u:=(i.1).Xi) tok3 z0 rfl)<|.o (UO z0 .k)<|.o (Ql z0)<|.n) λ_ a w H=>?_;have H:=H.to [3,5,6,7] [_,_,_,_] [] rfl rfl;refine wi H h (λv h=>?_) (λv h=>?_)
 ·refine sr mx [] H (λ_=>.o (Ql .k)<|.n) λ_ a w H=>?_;have H:=H.t1_0 [0];exact r0 h (·▸r1 d H (.tmp z0 .nil))
 refine wp_skip (k _ _ ?_);refine wp_seq_k (λ_ x=>?_);have⟨F,y,h⟩:=bs h;refine sr mx [] H (λ_=>.o (Q4 D8 z2)<|.o (QP R9 z2)<|.o (QM (u:=(i.1).Of) tok9 z0 rfl)<|.o (QO cal (eE.ok y) (.cons (.of z2)<|.cons (.of z0)<|.nil))<|.o (Ql z0)<|.n) λ_ a w H=>?_;have H:=H.to [4,8] [_,_] [] rfl rfl;refine sr mx [] H (λ_=>.q 0 rfl<|.q 2 rfl<|.o (JA z1 z0)<|.n) λ_ a w H=>?_;have H:=H.to [2,3] [_,_] [] rfl rfl;refine wi H h (λz h=>?_) (λz h=>?_)
 ·refine sr mx [] H (λ_=>.q 1 rfl<|.o (Ql z0)<|.n) λ_ a w H=>?_;have H:=H.t1_0 [1];exact r0 h (·▸r1 d H (.tmp z0 .nil))
 refine wp_skip (x _ _ ?_);refine sr mx [] H (λ_=>.o (Ql .k)<|.n) λ_ a w H=>?_;have H:=H.t1_0 [0];exact r0 h (·▸r1 d H (.tmp z0 .nil))
theorem UP:∀(n:Nat) (c:Qc) (b:Int) (a:Int) (r:Int),PQ n c b a=some r->FnOk prog 68 [Qb.ty c,ti b,ti a] [] (λ_=>[]) (λ_=>ti r)
 | 0,_,_,_,r,h=>by cases h
 | n+1,c,b,a,r,h=>fR (λc b a r h=>UP n c b a r h) h

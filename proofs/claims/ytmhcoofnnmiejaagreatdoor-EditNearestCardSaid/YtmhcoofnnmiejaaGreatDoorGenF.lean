/- The walk. No condition. -/
import Derived.Test.YtmhcoofnnmiejaaGreatDoorGenA
import Derived.Test.YtmhcoofnnmiejaaGreatDoorGenC
import Derived.Test.YtmhcoofnnmiejaaGreatDoorGenD
set_option linter.all false
open List Go.Proofs.Tryz Go.IntKind
namespace Go.Proofs.YtmhcoofnnmiejaaGreatDoor
noncomputable section
open Go.Sim
set_option maxRecDepth 100000
set_option maxHeartbeats 4000000
def Qgt (d:Int) (b:(List Qi)):Option (Qw):=(mk (b.length:Int) (0:Int)).bind λe=>(Qr (λ(s0:Int×List Qg×List Int)=>(if (decide (s0.1<(b.length:Int)))=true then (idx b s0.1).bind λa=>(setAt s0.2.2 s0.1 a.Lo).bind λf=>(rm (s0.2.1.length+[(Qg.mk s0.1 a.From a.To a.Cost 1),(Qg.mk s0.1 a.To a.From (i64.wrap (0 - a.Cost)) (-1))].length)).bind λ_=>(some (.inl ((i64.wrap (s0.1+1)),(s0.2.1++[(Qg.mk s0.1 a.From a.To a.Cost 1),(Qg.mk s0.1 a.To a.From (i64.wrap (0 - a.Cost)) (-1))]),f))) else (some (.inr (s0.2.1,s0.2.2))))) ((0:Int),([]:List Qg),e)).bind λc=>(some (Qw.mk d b c.2 c.1))
instance Qtb:SpcS prog 69 (∀{b c r},Qgt b c=some r->FnOk prog 69 [ti b,tsl QE c] [] (λv=>[bxN r.n r.l (gh v 1) r.arcs (gh v 0),own rI 3 r.flow (gh v 1)]) (λv=>tv (gh v 0))):=.mk λ{b c r} h=>by
 unfold Qgt at h
 refine Fe func69 ntmps69 λD M l i=>?_
 refine Qa 12 ?_
 have⟨k,_,h⟩:=bs h
 refine QU [v1 4 (λv0=>own rI 3 k v0),v2 4 6 (λv0 v1=>box ([ti b,tsl QE c,tvs v0,tvs nilV]) v1)] [5,7] 1312 (λa=>?_) (λa=>by refine' pr 5 ?_;refine' rx (.ud (f:=λv=>tagg ([ti b,tsl QE c,tvs v,tvs nilV])) 4 rfl [0] rfl rfl (.say (A:=own rI 3 k (a 4)) (.head _) (λ_ _ h=>Qg6 h) λh0=>OpJ.Xq (U:=[]) (λA hA=>by cases hA) (Qby underlying152 pl152 zv152 QxM.1 (.cons (R:=rI) (u:=b) rfl z4 (leb rfl)<|.cons (R:=(rSl QE)) (u:=c) rfl z3 (leb rfl)<|.cons (R:=rVal) (u:=(a 4)) rfl (Fct.Xo z0 λ_ _ _ h=>⟨h,h0⟩) (leb rfl)<|.nil _)))) 0 ?_;refine' rx (.m [] [1] rfl rfl rfl (QlO (R:=(rAgg ([ti b,tsl QE c,tvs (a 4),tvs nilV]) (Qt (QZ rfl) (Qt Qbj (Qt Qb9 (Qt Qb9 Qak)))))) (u:=()) z0)) 1 ?_;exact rnn)
 refine Q1 (λ_ _ H=>H.nil (Qv) 198) ?_
 refine Qf λm n=>?_
 refine Qa 62 ?_
 have⟨p,q,h⟩:=bs h
 have s:∀e j,e=p->To M l 58 [(5,tv (a 6))] [own Qv 198 e.1 j,own rI 3 e.2 (a 4),box ([ti b,tsl QE c,tvs (a 4),tvs j]) (a 6)] m:=by
  intro e j t;subst t;refine n <|Qa 4 ?_;refine QaA ?_;refine Qan (As'':=[bxN b c (a 4) e.1 (a 6),own rI 3 e.2 (a 4)]) (λ_ _ H=>((H.pick [0]).Xk [0,2,1] rfl).Xm 3 rfl) ?_;obtain rfl:=sj h;exact QaQ (.tuple #[(a 6),(a 4)]) [0,1] i
 refine Qk <|QaU q (λs0 g=>[(17,ti s0.1)]) 12599682 (λs0 g=>[own Qv 198 s0.2.1 g,own rI 3 s0.2.2 (a 4),box ([ti b,tsl QE c,tvs (a 4),tvs g]) (a 6)]) 16513 nilV 46 ?_;clear h;intro s0 g o E h w x;refine Qa 62 ?_;refine Qf λ_ y=>Qo h (λ_ h=>?_) λ_ h=>?_
 ·refine Qu <|y <|Qf λ_ z=>Qk ?_;have⟨d,_,h⟩:=bs h;refine QU [v1 3 (λv0=>box (QE.cs (Qi.mk (0:Int) (0:Int) (0:Int) (0:Int) (0:Int))) v0),v1 3 (λv0=>box (QE.cs d) v0)] [4,6] 1968 λF=>?_;refine Q1 (λ_ _ H=>(((H.Xk [3,0,1,2] rfl).Xl 0 rfl).add 0 rfl (λ_ _ _ h=>h.2)).pick [0,3,4,5,6,7]) ?_;have⟨B,_,h⟩:=bs h;refine QU [v0 (own rI 3 B (a 4))] [9] 32272 λI=>?_;have⟨_,_,h⟩:=bs h;refine QaG [v1 23 (λv0=>own Qv 198 (s0.2.1++[(Qg.mk s0.1 d.From d.To d.Cost (1:Int)),(Qg.mk s0.1 d.To d.From (i64.wrap (0 - d.Cost)) (-1:Int))]) v0),v1 23 (λv0=>box ([ti b,tsl QE c,tvs (a 4),tvs v0]) (a 6))] [24,27] 16257122304 λC=>?_;refine z <|QJ 252 ?_;refine Qan (λ_ _ H=>(H.pick [3,4,0,5]).Xk [1,0,2] rfl) ?_;exact Q7 x (C 23) ((sj h).symm) 30
 refine QQ <|Q7 s g (w _ (sj h).symm) 32
def Qda (d:Qw):Option ((List Int)×(Mp Qg)×Int):=(mk d.n (0:Int)).bind λj=>(Qr (λ(s0:Int×List Int×Mp Qg)=>((Qr (λ(a:Int×Int×List Int×Mp Qg)=>(if (decide (a.1<(d.arcs.length:Int)))=true then (idx d.arcs a.1).bind λb=>(QbW d b).bind λg=>(opt ((decide (g>0))==true) (idx a.2.2.1 b.from') default).bind λk=>(opt ((decide (g>0))==true) (idx a.2.2.1 b.to) default).bind λl=>((if ((decide (g>0))&&(decide ((i64.wrap (k+b.cost))<l)))=true then (idx a.2.2.1 b.from').bind λm=>(setAt a.2.2.1 b.to (i64.wrap (m+b.cost))).bind λn=>(mput a.2.2.2 b.to b).bind λe=>(some (b.to,n,e)) else (some (a.2.1,a.2.2.1,a.2.2.2)))).bind λh=>(some (.inl ((i64.wrap (a.1+1)),h.1,h.2.1,h.2.2))) else (some (.inr (a.2.1,a.2.2.1,a.2.2.2))))) ((0:Int),(-1:Int),s0.2.1,s0.2.2)).bind λc=>(if (decide (c.1<0))=true then (some (.inr ((0:Int),(none:Mp Qg),c.2.1))) else (if (decide (s0.1<d.n))=true then (some (.inl ((i64.wrap (s0.1+1)),c.2.1,c.2.2))) else (Qr (λ(f:Int×Int)=>(if (decide (f.1<d.n))=true then (some (.inl ((i64.wrap (f.1+1)),(((QaX c.2.2 f.2).getD zz6)).from'))) else (some (.inr f.2)))) ((0:Int),c.1)).bind λo=>(some (.inr (o,c.2.2,([]:List Int)))))))) ((0:Int),j,(some []:Mp Qg))).bind λi=>(some (i.2.2,i.2.1,i.1))
instance Qnw:SpcS prog 71 (∀{n r},Qda n=some r->FnOk prog 71 [tptr (Qbf.cs n)] [] (λv=>[own rI 3 r.1 (gh v 0),omap Qv r.2.1 (gh v 1)]) (λv=>ttup [tv (gh v 0),tv (gh v 1),ti r.2.2])):=.mk λ{n r} h=>by
 unfold Qda at h
 refine Fe func71 ntmps71 λz M t p=>?_
 refine Qa 16 ?_
 have⟨A,_,h⟩:=bs h
 refine QU [v1 4 (λv0=>own rI 3 A v0)] [5] 224 λa=>?_
 refine QU [v1 0 (λv0=>omap Qv (some []:Mp Qg) v0)] [1] 62 (λb=>?_) (λ_=>by refine' rx (.m [] [1] rfl rfl rfl (Qkm Qv)) 1 ?_;exact rnn)
 refine Qa 126 ?_
 have⟨B,h0,h⟩:=bs h
 have u:∀g k l,g=B->To M t 89 [(2,tv l),(3,tv k),(4,ti g.1)] [omap Qv g.2.1 k,own rI 3 g.2.2 l] (Ret prog f71 z [] t (λv=>[own rI 3 r.1 (gh v 0),omap Qv r.2.1 (gh v 1)]) (λv=>ttup [tv (gh v 0),tv (gh v 1),ti r.2.2]) .ret):=by
  intro g k l i;subst i;obtain rfl:=sj h;exact QaQ (.tuple #[l,k]) [1,0] p
 refine Qk <|Qaf h0 (λs0=>[(7,ti s0.1)]) 14778881 (λs0=>[own rI 3 s0.2.1 (a 4),omap Qv s0.2.2 (b 0)]) 129 106 ?_;clear h;intro s0 o K0 h e C;refine Qf λ_ D=>Qk <|Qa 62 ?_;refine Qf λE F=>Qa 4080 ?_;have⟨I,K,h⟩:=bs h;refine tJp (λc=>[(8,ti c.1)]) 2081537 (λc=>[own rI 3 c.2.1 (a 4),omap Qv c.2.2 (b 0)]) 129 E (·=I) (λc i=>?_) λL=>?_
 ·subst i;refine F <|tIfs h 252 (λ_ h=>?_) λ_ h=>?_
  ·refine Qa 798 ?_;refine Q1 (As'':=[omap Qv (none:Mp Qg) (.map none),own rI 3 c.2.1 (a 4),omap Qv c.2.2 (b 0)]) (λ_ _ H=>H.nilM (Qv)) ?_;refine QaA ?_;refine Qan (λ_ _ H=>(H.pick [1,2,3]).Xk [0,1] rfl) ?_;exact Qhq u (.map none) (a 4) (e _ (sj h).symm) 14
  refine tIfs h 8000 (λ_ h=>?_) λ_ h=>?_
  ·refine QQ <|D <|QJ 456 ?_;exact Qx C ((sj h).symm) 30
  refine Qf λN O=>Qa 1712 ?_;have⟨P,Q,h⟩:=bs h;refine tJp (λw=>[(8,ti w)]) 641 (λ_=>[]) 3 N (·=P) (λw i=>?_) λR=>?_
  ·subst i;refine O <|Qa 186 ?_;refine Q1 (λ_ _ H=>H.nil (rI) 3) ?_;refine QaA ?_;refine Qan (λ_ _ H=>(H.pick [1,2,3]).Xk [1,0] rfl) ?_;exact Qhq u (b 0) (.slice none 0 0) (e _ (sj h).symm) 14
  refine Qk <|Q1 (λ_ _ H=>(H.pick [0,1,2,3]).Xk [1] rfl) ?_;refine Qaf Q (λm=>[(80,ti m.1),(8,ti m.2)]) 10502274 (λm=>[]) 2 30 ?_;clear h;intro m o K3 h e S;refine Qa 62 ?_;refine Qf λ_ T=>Qo h (λ_ h=>?_) λ_ h=>?_
  ·refine Qu <|T <|Qf λ_ U=>Qk ?_;refine QJ 930 ?_ (λ_=>by refine' pr 2 ?_;refine' rx (.u [0] rfl rfl (Qmr (x0:=zz6) Qlk ud3 Qdd Qid z1 z0)) 0 ?_;refine' rx (.p rfl (Qxw Qx3 z0 rfl)) 1 ?_;exact rnn);refine U <|QJ 124 ?_;exact Qx S ((sj h).symm) 21070089
  refine QQ <|Qx R (e _ (sj h).symm) 48
 refine Qk <|Qaf K (λf=>[(24,ti f.1),(8,ti f.2.1)]) 4365299499394 (λf=>[own rI 3 f.2.2.1 (a 4),omap Qv f.2.2.2 (b 0)]) 129 510 ?_;clear h;intro f o K4 h e V;refine Qa 1022 ?_;refine Qf λ_ W=>Qo h (λ_ h=>?_) λ_ h=>?_
 ·refine Qu <|W <|Qf λX Y=>Qk ?_;have⟨Z,_,h⟩:=bs h;refine QU [v1 2 (λv0=>box (Qv.cs zz6) v0),v1 2 (λv0=>box (Qv.cs Z) v0)] [3,4] 8168 λm2=>?_;refine Q1 (λ_ _ H=>(((H.Xk [2,0,1] rfl).Xl 0 rfl).add 0 rfl (λ_ _ _ h=>h.2)).pick [0,3,4,5,6,7,8,9,10]) ?_;have⟨_,_,_,_,_,_,h⟩:=bs3 h;refine Qa 1072693248 ?_;have⟨q,x,h⟩:=bs h;refine tJ0 [(8,ti q.1)] 4365846921729 [own rI 3 q.2.1 (a 4),omap Qv q.2.2 (b 0)] 129 X ?_ λy=>?_
  ·refine Y <|QJ 1020 ?_;exact Qx V ((sj h).symm) 9069186915533831
  replace h:=x;clear x;refine Qo h (λ_ h=>?_) λ_ h=>?_
  ·have⟨_,_,t2,_,h⟩:=bs2 h;refine QU [v0 (own rI 3 t2 (a 4))] [13] 8110098 λm3=>?_;refine Qf λ_ s=>?_;have⟨j,d,h⟩:=bs h;refine QaG [v0 (omap Qv j (b 0))] [5] 32738 (λm4=>?_) (λ_=>by refine' pr 4 ?_;refine' rx (.e [] [0] [2] rfl rfl rfl rfl (QjS Qlk ud3 z3 z1 z0 d)) 0 ?_;exact rnn);refine s <|QJ 32632 ?_;obtain rfl:=sj h;exact QN y 4066
  refine Qu ?_;obtain rfl:=sj h;exact QN y 11338717440639757
 refine QQ <|Qx L (e _ (sj h).symm) 992
def Qf3 (a:QL):Option (Bool):=(QaI a.Xj).bind λb=>(opt (b==true) (QaI a.Xi) default).bind λc=>(opt (((b&&c)==true)&&((a.A==([]:Str))==false)) (QaI a.A) default).bind λd=>(opt ((((b&&c)&&((a.A==([]:Str))||d))==true)&&((a.B==([]:Str))==false)) (QaI a.B) default).bind λe=>(opt ((((b&&c)&&((a.A==([]:Str))||d))&&((a.B==([]:Str))||e))==true) (cat (a.A.length+a.B.length)) default).bind λ_=>(opt (((((b&&c)&&((a.A==([]:Str))||d))&&((a.B==([]:Str))||e))&&((a.A++a.B) !=([]:Str)))==true) (QbJ a.N (-1048576) 1048576) default).bind λf=>(some (((((b&&c)&&((a.A==([]:Str))||d))&&((a.B==([]:Str))||e))&&((a.A++a.B) !=([]:Str)))&&f))
instance QBi:Spc1 prog 168 Qf3 (λb=>[QV.ty b]) tb:=.mk λ{b r} h=>by
 unfold Qf3 at h
 refine Fe func168 ntmps168 λc M d a=>?_
 refine Qa 2 ?_
 have⟨_,_,_,_,_,_,_,_,h⟩:=bs4 h
 have⟨_,_,_,_,h⟩:=bs2 h
 refine Qa 4398046511104 ?_
 exact Qp h (·▸Qn a)
def Qa5 (a:Str) (d:(List AnyV)):Option (Str):=(QbI ([]:Str) a).bind λf=>(Qr (λ(s0:Int×Str)=>(if (decide (s0.1<(d.length:Int)))=true then (idx d s0.1).bind λb=>(QjM s0.2 (32:Int)).bind λc=>((if b.asInt.2=true then (QpT b.asInt.1).bind λg=>(QbI c g).bind λh=>(some h) else ((if b.asStr.2=true then (QbI c b.asStr.1).bind λi=>(some i) else (some c))).bind λj=>(some j))).bind λk=>(some (.inl ((i64.wrap (s0.1+1)),k))) else (some (.inr s0.2)))) ((0:Int),f)).bind λl=>(QiB l).bind λe=>(cat (e.length+([10]:Str).length)).bind λ_=>(some (e++([10]:Str)))
instance QeN:SpcS prog 198 (∀{a d r},Qa5 a d=some r->FnOk prog 198 [tv (.string (sB a)),tsl (rAny 3 9) d] [glo] (λ_=>[]) (λ_=>tv (.string (sB r)))):=.mk λ{a d r} h=>by
 unfold Qa5 at h
 refine Fe func198 ntmps198 λU M q e=>?_
 refine Qa 12 ?_
 refine QU [v1 0 (λv0=>bld ([]:Str) v0 nilV)] [1] 14 (λb=>?_) (λ_=>by refine' rx (.m [] [1] rfl rfl rfl (Qq4 bInfo)) 0 ?_;exact rnn)
 have⟨s,h0,h⟩:=bs h
 refine QU [v1 1 (λv0=>bld s (b 0) v0)] [2] 40 (λt=>?_) (λ_=>by refine' pr 1 ?_;refine' rx (.e [] [1] [2] rfl rfl rfl rfl (QO Qh0 (Qcr h0) (.cons (.of z1)<|.cons (.of z0)<|.nil))) 0 ?_;exact rnn)
 refine Qf λu v=>?_
 refine Qa 30 ?_
 have⟨w,x,h⟩:=bs h
 have y:∀f j,f=w->To M q 34 [(5,tv (b 0))] [glo,bld f (b 0) j] u:=by
  intro f j z;subst z;refine v ?_;have⟨_,A,_,_,h⟩:=bs2 h;refine QU [] [] 8 (λV=>?_) (λ_=>by refine' rx (.e [] [1] [] rfl rfl rfl rfl (QO Qvi (QpU A) (.cons (.of z0)<|.nil))) 2 ?_;exact rnn);exact Qp h (·▸Qn e)
 refine Qk <|QaU x (λs0 c=>[(14,ti s0.1)]) 10502530 (λs0 c=>[bld s0.2 (b 0) c]) 130 (t 1) 30 ?_;clear h;intro s0 c o W h B C;refine Qa 62 ?_;refine Qf λ_ D=>Qo h (λ_ h=>?_) λ_ h=>?_
 ·refine Qu <|D <|Qf λk E=>Qk ?_;have⟨_,_,h⟩:=bs h;refine Qa 488 ?_;have⟨F,H,h⟩:=bs h;refine QU [v1 0 (λv0=>bld F (b 0) v0)] [1] 124 (λI=>?_) (λ_=>by refine' rx (.e [] [1] [2] rfl rfl rfl rfl (QO QEK (QrO H) (.cons (.of z4)<|.cons (.of .k)<|.nil))) 0 ?_;exact rnn);refine Qa 122 ?_;refine Qk ?_;refine Qa 508 ?_ (λ_=>by refine' rx (.p rfl (op_asI (by decide) tok3 ud3 z0)) 2 ?_;exact rnn);have⟨K,l,h⟩:=bs h;refine tJ1 (λ_=>[]) 16261 (λg=>[bld K (b 0) g]) 130 k (λg=>?_) λm=>?_
  ·refine E <|QJ 60 ?_;exact Q7 C g ((sj h).symm) 16810757
  replace h:=l;clear l;refine Qo h (λ_ h=>?_) λ_ h=>?_
  ·refine Qa 482 ?_;have⟨_,L,N,O,h⟩:=bs2 h;refine QaG [v1 2 (λv0=>bld N (b 0) v0)] [3] 480 (λP=>?_) (λ_=>by refine' pr 1 ?_;refine' rx (.u [0] rfl rfl ((QO QEL (QEM L) (.cons (.of z0)<|.nil)).glo)) 0 ?_;refine' rx (.e [] [1] [2] rfl rfl rfl rfl (QO Qh0 (Qcr O) (.cons (.of z6)<|.cons (.of z0)<|.nil))) 0 ?_;exact rnn);obtain rfl:=sj h;exact QN (m (P 2)) 30
  refine Qa 1932 ?_ (λ_=>by refine' rx (.p rfl (op_asS (by decide) tok9 ud9 z2)) 2 ?_;exact rnn);have⟨Q,n,h⟩:=bs h;refine tJ1 (λ_=>[]) 16260 (λi=>[bld Q (b 0) i]) 130 k (λi=>?_) λp=>?_
  ·obtain rfl:=sj h;exact QN (m i) 30
  replace h:=n;clear n;refine Qo h (λ_ h=>?_) λ_ h=>?_
  ·refine Qa 242 ?_;have⟨R,S,h⟩:=bs h;refine QaG [v1 1 (λv0=>bld R (b 0) v0)] [2] 240 (λT=>?_) (λ_=>by refine' pr 1 ?_;refine' rx (.e [] [1] [2] rfl rfl rfl rfl (QO Qh0 (Qcr S) (.cons (.of z5)<|.cons (.of z0)<|.nil))) 0 ?_;exact rnn);obtain rfl:=sj h;exact QN (p (T 1)) 30
  refine Qu ?_;obtain rfl:=sj h;exact QN (p (I 0)) 120
 refine QQ <|Q7 y c (B _ (sj h).symm) 32
def QgU (a:Qe):Option (Str):=(idx QlZ a.Xi).bind λb=>(if (a.Xi==0)=true then (Qa5 b [(AnyV.str a.Xj),(AnyV.int a.Lo)]).bind λf=>(some f) else (if (a.Xi==2)=true then (Qa5 b [(AnyV.str a.Xj),(AnyV.int a.Lo),(AnyV.int a.Hi)]).bind λg=>(some g) else (if (a.Xi==3)=true then (Qr (λ(s0:Int×List AnyV)=>(if (decide (s0.1<(a.Words.length:Int)))=true then (idx a.Words s0.1).bind λd=>(idx a.Xf s0.1).bind λe=>(rm (s0.2.length+[(AnyV.str d),(AnyV.int e)].length)).bind λ_=>(some (.inl ((i64.wrap (s0.1+1)),(s0.2++[(AnyV.str d),(AnyV.int e)])))) else (some (.inr s0.2)))) ((0:Int),[(AnyV.str a.Xj),(AnyV.int (a.Words.length:Int))])).bind λh=>(Qa5 b h).bind λi=>(some i) else (if (a.Xi==6)=true then (Qa5 b [(AnyV.str a.Xj),(AnyV.str a.Of)]).bind λj=>(some j) else (if (a.Xi==7)=true then (Qa5 b [(AnyV.str a.Xj),(AnyV.str a.Up),(AnyV.str a.Of),(AnyV.int a.Lo),(AnyV.int a.Hi)]).bind λk=>(some k) else (if (a.Xi==8)=true then (Qa5 b [(AnyV.str a.Xj),(AnyV.str a.Up),(AnyV.str a.Of)]).bind λl=>(some l) else (Qem a.Of).bind λm=>(Qa5 b [(AnyV.str a.Xj),(AnyV.str m),(AnyV.int a.Lo),(AnyV.int a.Hi)]).bind λc=>(some c)))))))
instance Qp1:SpcS prog 199 (∀{b r},QgU b=some r->FnOk prog 199 [Qd.ty b] [glo] (λ_=>[]) (λ_=>tv (.string (sB r)))):=.mk λ{b r} h=>by
 unfold QgU at h
 refine Fe func199 ntmps199 λB M f a=>?_
 refine Qa 2 ?_
 have⟨g,h0,h⟩:=bs h
 refine Qa 96 ?_ (λ_=>by refine' pr 2 ?_;refine' rx (.u [0] rfl rfl (QAp underlying308 tok9 QAD rfl z0 rfl h0)) 2 ?_;exact rnn)
 refine Qf λ_ i=>?_
 refine Qa 28 ?_
 refine Qk ?_
 refine Qa 60 ?_
 refine Qo h (λ_ h=>?_) λ_ h=>?_
 ·have⟨_,_,h⟩:=bs h
  refine Qa 1024 ?_
  exact Qp h (·▸Qn a)
 refine Qa 116 ?_
 refine Qo h (λ_ h=>?_) λ_ h=>?_
 ·have⟨_,_,h⟩:=bs h
  refine Qa 8192 ?_
  exact Qp h (·▸Qn a)
 refine Qa 116 ?_
 refine Qo h (λ_ h=>?_) λ_ h=>?_
 ·refine QU [v1 7 (λv0=>own (rAny 3 9) 20 [(AnyV.str b.Xj),(AnyV.int (b.Words.length:Int))] v0)] [8] 13056 λj=>?_
  refine Qf λk l=>?_
  refine Qa 508 ?_
  have⟨m,n,h⟩:=bs h
  have p:∀d e,d=m->To M f 132 [(4,tv e),(3,tv (.string (sB g)))] [glo,own (rAny 3 9) 20 d e] k:=by
   intro d e q;subst q;refine l ?_;have⟨_,s,h⟩:=bs h;refine Qa 52 ?_ (λ_=>by refine' pr 2 ?_;refine' rx (.u [0,1] rfl rfl ((Qb2 [own (rAny 3 9) 20 d e] Qjs (QeN.ok s) (.cons (.of z1)<|.cons (.own z0 (.head _))<|.nil) (λ_=>Qa8) (λ_=>Qib (x:=undef))).glo)) 1 ?_;exact rnn);exact Qp h (·▸Qn a)
  refine Qk <|QaU n (λs0 c=>[(51,ti s0.1),(4,tv c)]) 276759069058 (λs0 c=>[own (rAny 3 9) 20 s0.2 c]) 130 (j 7) 238 ?_;clear h;intro s0 c o C h t u;refine Qa 254 ?_;refine Qf λ_ v=>Qo h (λ_ h=>?_) λ_ h=>?_
  ·refine Qu <|v <|Qf λ_ w=>Qk ?_;have⟨y,_,h⟩:=bs h;refine Qa 8112 ?_;have⟨z,_,_,_,h⟩:=bs2 h;refine QaG [v1 10 (λv0=>own (rAny 3 9) 20 (s0.2++[(AnyV.str y),(AnyV.int z)]) v0)] [11] 1021952 λA=>?_;refine w <|QJ 508 ?_;exact Q7 u (A 10) ((sj h).symm) 484270179593
  refine QQ <|Q7 p c (t _ (sj h).symm) 96
 refine Qa 116 ?_;refine Qo h (λ_ h=>?_) λ_ h=>?_
 ·have⟨_,_,h⟩:=bs h;refine Qa 1024 ?_;exact Qp h (·▸Qn a)
 refine Qa 116 ?_;refine Qo h (λ_ h=>?_) λ_ h=>?_
 ·have⟨_,_,h⟩:=bs h;refine Qa 524288 ?_;exact Qp h (·▸Qn a)
 refine Qa 100 ?_;refine Qo h (λ_ h=>?_) λ_ h=>?_
 ·have⟨_,_,h⟩:=bs h;refine Qa 8192 ?_;exact Qp h (·▸Qn a)
 refine Qu <|i ?_;have⟨_,_,_,_,h⟩:=bs2 h;refine Qa 131072 ?_;exact Qp h (·▸Qn a)
theorem QrS {f:Qc->Int->Int->Option (Int)} (g:∀(i:Qc) (c:Int) (b:Int) (r:Int),f i c b=some r->FnOk prog 44 [Qb.ty i,ti c,ti b] [] (λ_=>[]) (λ_=>ti r)) {i:Qc} {c:Int} {b:Int} {r:Int} (h:QeM f i c b=some r):FnOk prog 44 [Qb.ty i,ti c,ti b] [] (λ_=>[]) (λ_=>ti r):=by
 unfold QeM at h;refine fe func44 ntmps44 λB M C a d H=>?_;refine sr mx [] H (λ_=>.o (Qg4 (R:=Qb) (u:=i) z0)<|.o (Ql .k)<|.n) λ_ a w H=>?_;have H:=H.to [0,3,4] [_,_,_] [] rfl rfl;have⟨j,h0,h⟩:=bs h;refine sr mx [v1 7 (λv0=>box (Qd.cs zz0) v0),v1 7 (λv0=>box (Qd.cs j.1) v0)] H (λ_=>.o (Q4 QcK z0)<|.q 2 rfl<|.q 4 rfl<|.o (QO Qs3 (Qny.ok h0) (.cons (.of z2)<|.cons (.of z1)<|.cons (.of z0)<|.nil))<|.q 0 rfl<|.o (Qas z0 rfl)<|.o (Qas z1 rfl)<|.m [] [0] rfl rfl rfl (QaL (R:=Qd) (a:=zz0) QaY QjK)<|.e [] [0] [1] rfl rfl rfl rfl (Qay (R:=Qd) (a:=j.1) QaY z0 z2 (leb rfl))<|.o (Ql z1)<|.n) λ_ a w H=>?_;replace H:St _ _ _ [_,_,_,_,_] [] _ _:=(((H.pick [7,8,9,10,11]).Xl 0 rfl).add 0 rfl (λ_ _ _ h=>h.2)).pick [0,3,4,5,6];refine wp_seq_k (λ_ l=>?_);refine wp_block ?_;refine sr mx [] H (λ_=>.q 1 rfl<|.o (QkL z0)<|.o (Ql z0)<|.n) λ_ a w H=>?_;have H:=H.to [2,3,5,6,7] [_,_,_,_,_] [] rfl rfl;refine wi H h (λm h=>?_) (λm h=>?_)
 ·refine sr mx [] H (λ_=>.o (Ql .k)<|.n) λ_ a w H=>?_;have H:=H.t1_0 [0];exact r0 h (·▸r1 d H (.tmp z0 .nil))
 refine sr mx [] H (λ_=>.o (QP Qfh z1)<|.o (QM (u:=(j.1).Xi) tok3 z0 rfl)<|.o (Qd0 z0 .k)<|.q 0 rfl<|.g rfl rfl bq0 (λ_=>QP Qfh z5)<|.g rfl rfl bq1 (λe=>QM (u:=(j.1).Xi) tok3 (.cond z0 e) rfl)<|.g rfl rfl bq2 (λe=>Qd0 (.cond z0 e) .k)<|.o (op_or z3 (λhp=>(.cond z0 (beqF hp))))<|.o (Ql z0)<|.n) λ_ a w H=>?_;have H:=H.to [8,10,11,12,13] [_,_,_,_,_] [] rfl rfl;refine wi H h (λn h=>?_) (λn h=>?_)
 ·have⟨D,o,E,p,h⟩:=bs2 h;refine sr mx [] H (λ_=>.o (QP Qcv z2)<|.o (QM (u:=i.Xa) Qfd z0 rfl)<|.q 5 rfl<|.o (Qam underlying23 Qbn z1 z0 o)<|.o (Q4 Qbn z0)<|.o (QP QqD z6)<|.o (QM (u:=(j.1).Up) tok9 z0 rfl)<|.o (QO QpO (Qi5.ok p) (.cons (.of z2)<|.cons (.of z0)<|.nil))<|.o (Ql z0)<|.n) λ_ a w H=>?_;have H:=H.to [8,11,12,13] [_,_,_,_] [] rfl rfl;refine wp_seq_k (λ_ q=>?_);have⟨k,s,h⟩:=bs h;refine sr mx [v1 7 (λv0=>box (Qd.cs zz0) v0),v1 7 (λv0=>box (Qd.cs k.1) v0)] H (λ_=>.o (Q4 QcK z1)<|.q 3 rfl<|.q 2 rfl<|.o (QO Qs3 (Qny.ok s) (.cons (.of z2)<|.cons (.of z1)<|.cons (.of z0)<|.nil))<|.q 0 rfl<|.o (Qas z0 rfl)<|.o (Qas z1 rfl)<|.m [] [0] rfl rfl rfl (QaL (R:=Qd) (a:=zz0) QaY QjK)<|.e [] [0] [1] rfl rfl rfl rfl (Qay (R:=Qd) (a:=k.1) QaY z0 z2 (leb rfl))<|.o (Ql z1)<|.n) λ_ a w H=>?_;replace H:St _ _ _ [_,_,_,_,_,_] [] _ _:=(((H.pick [7,8,9,10,11,12]).Xl 0 rfl).add 0 rfl (λ_ _ _ h=>h.2)).pick [0,3,4,5,6,7];refine sr mx [] H (λ_=>.q 1 rfl<|.q 0 rfl<|.g rfl rfl bq0 (λ_=>Qaa z4)<|.g rfl rfl bq1 (λ_=>Qaa z8)<|.g rfl rfl bq2 (λe=>QbO (.cond z1 e) (.cond z0 e))<|.o (Qfr z3 (λhp=>(.cond z0 (beqT hp))))<|.q 0 rfl<|.g rfl rfl bq0 (λ_=>QP Qfh z7)<|.g rfl rfl bq1 (λe=>QM (u:=(k.1).Xi) tok3 (.cond z0 e) rfl)<|.g rfl rfl bq2 (λe=>Qd0 (.cond z0 e) .k)<|.o (Qfr z3 (λhp=>(.cond z0 (beqT hp))))<|.n) λ_ a w H=>?_;have H:=H.to [10,13,14,15] [_,_,_,_] [] rfl rfl;refine wi H h (λt h=>?_) (λt h=>?_)
  ·have⟨F,v,h⟩:=bs h;refine sr mx [] H (λ_=>.o (Q4 QcK z2)<|.q 4 rfl<|.q 3 rfl<|.o (QO QpN (g _ _ _ _ v) (.cons (.of z2)<|.cons (.of z1)<|.cons (.of z0)<|.nil))<|.o (Ql z0)<|.n) λ_ a w H=>?_;have H:=H.t1_0 [4];exact r0 h (·▸r1 d H (.tmp z0 .nil))
  refine wp_skip (q _ _ ?_);refine sr mx [] H (λ_=>.o (Ql .k)<|.n) λ_ a w H=>?_;have H:=H.t1_0 [0];exact r0 h (·▸r1 d H (.tmp z0 .nil))
 refine sr mx [] H (λ_=>.o (QP Qfh z1)<|.o (QM (u:=(j.1).Xi) tok3 z0 rfl)<|.o (QlN z0 .k)<|.o (Ql z0)<|.n) λ_ a w H=>?_;have H:=H.to [3,5,6,7] [_,_,_,_] [] rfl rfl;refine wi H h (λx h=>?_) (λx h=>?_)
 ·refine sr mx [] H (λ_=>.o (Ql .k)<|.n) λ_ a w H=>?_;have H:=H.t1_0 [0];exact r0 h (·▸r1 d H (.tmp z0 .nil))
 refine wp_skip (l _ _ ?_);refine wp_seq_k (λ_ y=>?_);have⟨I,z,h⟩:=bs h;refine sr mx [] H (λ_=>.o (Q4 QcK z2)<|.o (QP Ql3 z2)<|.o (QM (u:=(j.1).Of) tok9 z0 rfl)<|.o (QO QpQ (Qjt.ok z) (.cons (.of z2)<|.cons (.of z0)<|.nil))<|.o (Ql z0)<|.n) λ_ a w H=>?_;have H:=H.to [4,8] [_,_] [] rfl rfl;refine sr mx [] H (λ_=>.q 0 rfl<|.q 2 rfl<|.o (QbO z1 z0)<|.n) λ_ a w H=>?_;have H:=H.to [2,3] [_,_] [] rfl rfl;refine wi H h (λA h=>?_) (λA h=>?_)
 ·refine sr mx [] H (λ_=>.q 1 rfl<|.o (Ql z0)<|.n) λ_ a w H=>?_;have H:=H.t1_0 [1];exact r0 h (·▸r1 d H (.tmp z0 .nil))
 refine wp_skip (y _ _ ?_);refine sr mx [] H (λ_=>.o (Ql .k)<|.n) λ_ a w H=>?_;have H:=H.t1_0 [0];exact r0 h (·▸r1 d H (.tmp z0 .nil))
def QgZ (b:Int) (c:(List QH)):Option ((List Qaj)×Int):=(if ((decide (b>10))||(decide ((c.length:Int)>64)))=true then (some (([]:List Qaj),(4:Int))) else (if (decide (b<0))=true then (some (([]:List Qaj),(1:Int))) else (mk (c.length:Int) (Qaj.mk 0 0 0)).bind λe=>(Qr (λ(s0:Int×List Qaj)=>((if (decide (s0.1<(c.length:Int)))=true then (idx c s0.1).bind λa=>(if (((((decide ((imin a.A a.B)<(-1:Int)))||(decide ((imax a.A a.B)>=b)))||(a.A==a.B))||(decide (a.N<(-2097152:Int))))||(decide (a.N>2097152)))=true then (some (.inr (.inr ((1:Int),([]:List Qaj))))) else (nz (i64.wrap (b+1))).bind λ_=>(nz (i64.wrap (b+1))).bind λ_=>(setAt s0.2 s0.1 (Qaj.mk (Int.tmod (i64.wrap ((i64.wrap (a.A+b))+1)) (i64.wrap (b+1))) (Int.tmod (i64.wrap ((i64.wrap (a.B+b))+1)) (i64.wrap (b+1))) a.N)).bind λf=>(some (.inl ((i64.wrap (s0.1+1)),f)))) else (some (.inr (.inl s0.2)))):Option ((Int×List Qaj)⊕((List Qaj)⊕(Int×List Qaj))))) ((0:Int),e)).bind λg=>(match g with | .inl h=>(some (h,(0:Int))) | .inr d=>(some (d.2,d.1)))))
instance Qp5:SpcS prog 25 (∀{e f r},QgZ e f=some r->FnOk prog 25 [ti e,tsl Qah f] [] (λv=>[own QaK 128 r.1 v]) (λv=>ttup [tv v,ti r.2])):=.mk λ{e f r} h=>by
 unfold QgZ at h
 refine Fe func25 ntmps25 λm M g a=>?_
 refine Qa 24 ?_
 refine tIfs h 896 (λ_ h=>?_) λ_ h=>?_
 ·refine Qa 6 ?_
  refine Q1 (λ_ _ H=>H.nil (QaK) 128) ?_
  exact Qp h (·▸QaQ (.slice none 0 0) [0] a)
 refine tIfs h 52 (λ_ h=>?_) λ_ h=>?_
 ·refine Qa 6 ?_
  refine Q1 (λ_ _ H=>H.nil (QaK) 128) ?_
  exact Qp h (·▸QaQ (.slice none 0 0) [0] a)
 have⟨n,_,h⟩:=bs h
 refine QU [v1 2 (λv0=>own QaK 128 n v0)] [3] 216 λb=>?_
 refine Qf λp q=>?_
 refine Qa 126 ?_
 have⟨k,h0,h⟩:=bs h
 have s:∀i,(.inl i)=k->To M g 84 [(6,tv (b 2))] [own QaK 128 i (b 2)] p:=by
  intro i j;subst j;simp only at h;refine q <|Qa 30 ?_;exact Qp h (·▸QaQ (b 2) [0] a)
 have t:∀c d,(.inr c)=k->To M g 84 [(4,tv d),(5,ti c.1)] [own QaK 128 c.2 d] (Ret prog f25 m [] g (λv=>[own QaK 128 r.1 v]) (λv=>ttup [tv v,ti r.2]) .ret):=by
  intro c d j;subst j;simp only at h;obtain rfl:=sj h;exact QaQ d [0] a
 refine Qk <|Qaf h0 (λs0=>[(23,ti s0.1)]) 1891647874 (λs0=>[own QaK 128 s0.2 (b 2)]) 1 110 ?_;clear h;intro s0 o A h l u;refine Qa 126 ?_;refine Qf λ_ w=>Qo h (λ_ h=>?_) λ_ h=>?_
 ·refine Qu <|w <|Qf λ_ x=>Qk ?_;have⟨y,_,h⟩:=bs h;refine QU [v1 3 (λv0=>box (Qah.cs (QH.mk (0:Int) (0:Int) (0:Int))) v0),v1 3 (λv0=>box (Qah.cs y) v0)] [4,6] 4016 λB=>?_;refine Q1 (λ_ _ H=>(((H.Xk [1,0] rfl).Xl 0 rfl).add 0 rfl (λ_ _ _ h=>h.2)).pick [0,3,4,5,6,7,8]) ?_;refine tIfs h 1095216660480 (λ_ h=>?_) λ_ h=>?_
  ·refine Qa 518 ?_;refine Q1 (λ_ _ H=>H.nil (QaK) 128) ?_;refine QaA ?_;refine Qan (λ_ _ H=>(H.pick [0,1]).Xk [0] rfl) ?_;exact Q7 t (.slice none 0 0) (l _ (sj h).symm) 6
  have⟨_,_,_,_,z,_,h⟩:=bs3 h;refine QaG [v0 (own QaK 128 z (b 2))] [23] 2080374786 λC=>?_;refine x <|QJ 252 ?_;exact Qx u ((sj h).symm) 3242230791
 refine QQ <|Qx s (l _ (sj h).symm) 32

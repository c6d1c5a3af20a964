/- The walk. No condition. -/
import Derived.Test.YtohojolgolinoaaGreatDoorGenA
import Derived.Test.YtohojolgolinoaaGreatDoorGenB
import Derived.Test.YtohojolgolinoaaGreatDoorGenC
import Derived.Test.YtohojolgolinoaaGreatDoorGenD
set_option linter.all false
open List Go.Proofs.Tryz Go.IntKind
namespace Go.Proofs.YtohojolgolinoaaGreatDoor
noncomputable section
open Go.Sim
set_option maxRecDepth 100000
set_option maxHeartbeats 4000000
def Kt (d:QR) (a:QA):Option (QL×Bool×QR):=(Gg a.Xb ([108,111,119]:Str)).bind λb=>(Gg a.Xb ([115,105,122,101]:Str)).bind λg=>(opt ((decide (b>=0))==true) (QS d 3) default).bind λe=>if (decide (b>=0))&&(decide (e.1>0)) then (sub a.Xj 0 1).bind λh=>(cat (([111,114,100,101,114]:Str).length+h.length)).bind λ_=>(QS (bif ((decide (b>=0))==true) then e.2 else d) 8).bind λi=>some (QL.mk (([111,114,100,101,114]:Str)++h) a.Xj ([108,111,119]:Str) ([104,105,103,104]:Str) (i64.wrap (i.1 - 2)),true,i.2) else if decide (g<0) then some (zz3,false,bif ((decide (b>=0))==true) then e.2 else d) else (idx a.Xb g).bind λj=>(QS (bif ((decide (b>=0))==true) then e.2 else d) 2).bind λf=>if f.1==0 then (sub a.Xj 0 1).bind λk=>(cat (([109,111,115,116]:Str).length+k.length)).bind λ_=>(QS f.2 12).bind λl=>some (QL.mk (([109,111,115,116]:Str)++k) a.Xj ([115,105,122,101]:Str) ([]:Str) (i64.wrap (j.Lo+l.1)),true,l.2) else (sub a.Xj 0 1).bind λm=>(cat (([108,101,97,115,116]:Str).length+m.length)).bind λ_=>(QS f.2 12).bind λc=>some (QL.mk (([108,101,97,115,116]:Str)++m) a.Xj ([]:Str) ([115,105,122,101]:Str) (i64.wrap (c.1 - j.Hi)),true,c.2)
instance uL:SpcS prog 54 (∀{a e d r},Kt e d=some r->FnOk prog 54 [tv a,Qq.ty d] [box (QC.cs e) a] (λ_=>[box (QC.cs r.2.2) a]) (λ_=>ttup [QV.ty r.1,tb r.2.1])):=.mk λ{a e d r} h=>by
 refine Fe func54 ntmps54 λu M v b=>?_
 refine QU [vb 1 (QV.cs zz3)] [2] 22 λf=>?_
 have⟨m,_,_,_,i,h0,h⟩:=bs3 h
 apply Qa 240
 apply Qa 496
 refine Qf λ_ n=>?_
 refine QU [v0 (box (QC.cs (bif ((decide (m>=0))==true) then i.2 else e)) a)] [5] 7552 (λw=>?_) (λ_=>by refine' pr 4 ?_;refine' rx (.ge (N:=λc _=>[box (QC.cs (bif c then i.2 else e)) a]) [] [0] [2] rfl rfl rfl rfl rfl bq1 (λhc=>QO cal (MZ.ok (Dm h0 hc)) (.cons (.of (.cond z0 hc))<|.cons (.of .k)<|.nil)) rfl) 2 ?_;exact rnn)
 apply Qo h<;>intro _ h
 ·have⟨o,_,_,_,j,_,h⟩:=bs3 h
  refine QU [v0 (box (QC.cs j.2) a),v0 (box (QV.cs (QL.mk (([111,114,100,101,114]:Str)++o) d.Xj ([108,111,119]:Str) ([104,105,103,104]:Str) (i64.wrap (j.1 - 2)))) (f 1))] [8,11] 100352 λx=>?_
  exact Qp h (·▸AO undef [0] b)
 apply Qu
 apply n
 refine tIfs h 244 (λ_ h=>?_) λ_ h=>?_
 ·refine QU [v0 (box (QV.cs zz3) (f 1))] [2] 196 λy=>?_
  exact Qp h (·▸AO undef [0] b)
 have⟨g,_,p,_,h⟩:=bs2 h
 refine QU [vb 5 (Qd.cs zz0),vb 5 (Qd.cs g)] [6,7] 3648 λz=>?_
 apply tFz 2
 refine Qf λ_ q=>?_
 refine QU [v0 (box (QC.cs p.2) a)] [2] 248 λA=>?_
 apply Qo h<;>intro _ h
 ·have⟨s,_,_,_,k,_,h⟩:=bs3 h
  refine QU [v0 (box (QC.cs k.2) a),v0 (box (QV.cs (QL.mk (([109,111,115,116]:Str)++s) d.Xj ([115,105,122,101]:Str) ([]:Str) (i64.wrap (g.Lo+k.1)))) (f 1))] [10,13] 401408 λB=>?_
  exact Qp h (·▸AO undef [0] b)
 apply Qu
 apply q
 have⟨t,_,_,_,l,_,h⟩:=bs3 h
 refine QU [v0 (box (QC.cs l.2) a),v0 (box (QV.cs (QL.mk (([108,101,97,115,116]:Str)++t) d.Xj ([]:Str) ([115,105,122,101]:Str) (i64.wrap (l.1 - g.Hi)))) (f 1))] [8,13] 401408 λC=>?_
 exact Qp h (·▸AO undef [0] b)
theorem UH:∀(n:Nat) (a:Int) (r:Str),Ht n a=some r->FnOk prog 260 [ti a] [] (λ_=>[]) (λ_=>tv (.string (sB r)))
 | 0,_,r,h=>by cases h
 | n+1,a,r,h=>eJ (λa r h=>UH n a r h) h
def I3 (a:Int):Option Str:=Ht (a.natAbs+2) a
theorem fA {a:Int} {r:Str} (h:I3 a=some r):FnOk prog 260 [ti a] [] (λ_=>[]) (λ_=>tv (.string (sB r))):=UH _ _ _ h
instance :Spc1 prog 260 (λ(a:Int)=>I3 a) (λ(a:Int)=>[ti a]) (λ(r:Str)=>tv (.string (sB r))):=⟨λh=>fA h⟩
def C5 (a:Str) (c:Int):Option Str:=(cat (a.length+([32]:Str).length)).bind λ_=>(I3 c).bind λb=>(cat ((a++([32]:Str)).length+b.length)).bind λ_=>some ((a++([32]:Str))++b)
instance uM:Spc2 prog 225 C5 (λb c=>[tv (.string (sB b)),ti c]) (λr=>tv (.string (sB r))):=.mk λ{b c r} h=>by
 refine Fe func225 ntmps225 λd M e a=>?_
 apply Qa 12
 have⟨_,_,_,_,_,_,h⟩:=bs3 h
 apply Qa 64
 exact tRE h a
def Bi (a:Qe):Option Str:=(Da a.Xi).bind λc=>D1.bind λj=>(idx j a.Xi).bind λb=>(cat (([10]:Str).length+b.length)).bind λ_=>(cat ((([10]:Str)++b).length+([32]:Str).length)).bind λ_=>(cat (((([10]:Str)++b)++([32]:Str)).length+a.Xj.length)).bind λ_=>(if c.2.1 then (cat ((((([10]:Str)++b)++([32]:Str))++a.Xj).length+([32]:Str).length)).bind λ_=>(cat (((((([10]:Str)++b)++([32]:Str))++a.Xj)++([32]:Str)).length+a.Up.length)).bind λ_=>some (((((([10]:Str)++b)++([32]:Str))++a.Xj)++([32]:Str))++a.Up) else some (((([10]:Str)++b)++([32]:Str))++a.Xj)).bind λd=>(if c.1 then (cat (d.length+([32]:Str).length)).bind λ_=>(Hu a.Of).bind λe=>(cat ((d++([32]:Str)).length+e.length)).bind λ_=>some ((d++([32]:Str))++e) else some d).bind λf=>(if c.2.2.1 then (C5 f a.Lo).bind λk=>some k else some f).bind λg=>(if c.2.2.2.1 then (C5 g a.Hi).bind λl=>some l else some g).bind λh=>(if c.2.2.2.2 then (C5 h (a.Words.length:Int)).bind λm=>(Qr (λ(s0:Int×Str)=>if decide (s0.1<(a.Words.length:Int)) then (cat (s0.2.length+([32]:Str).length)).bind λ_=>(idx a.Words s0.1).bind λi=>(cat ((s0.2++([32]:Str)).length+i.length)).bind λ_=>(idx a.Xf s0.1).bind λn=>(C5 ((s0.2++([32]:Str))++i) n).bind λo=>some (.inl (i64.wrap (s0.1+1),o)) else some (.inr s0.2)) (0,m)).bind λp=>some p else some h).bind λq=>some q
instance uN:Spc1 prog 226 Bi (λc=>[Qd.ty c]) (λr=>tv (.string (sB r))):=.mk λ{c r} h=>by
 refine Fe func226 ntmps226 λQ M d a=>?_
 apply Qa 2
 have⟨_,_,_,_,_,_,_,_,h⟩:=bs4 h
 apply Qa 64512
 have⟨_,_,_,_,l,h0,h⟩:=bs3 h
 apply Qa 260096
 refine Qf λm n=>?_
 apply Qa 494
 refine tJ0 [(8,tv (.string (sB l)))] 2081281 [] 0 m ?_ λe=>?_
 ·apply n
  refine Qf λp q=>?_
  apply Qa 246
  have⟨s,t,h⟩:=bs h
  refine tJ0 [(8,tv (.string (sB s)))] 2081281 [] 0 p ?_ λf=>?_
  ·apply q
   refine Qf λu v=>?_
   apply Qa 118
   have⟨w,x,h⟩:=bs h
   refine tJ0 [(8,tv (.string (sB w)))] 2081281 [] 0 u ?_ λg=>?_
   ·apply v
    refine Qf λy z=>?_
    apply Qa 54
    have⟨A,B,h⟩:=bs h
    refine tJ0 [(8,tv (.string (sB A)))] 82433 [] 0 y ?_ λi=>?_
    ·apply z
     refine Qf λj C=>?_
     apply Qa 22
     have⟨D,E,h⟩:=bs h
     have k:To M d 80 [(8,tv (.string (sB D)))] [] j:=by
      refine C <|Qa 4 ?_;exact tRE h a
     replace h:=E;apply Qo h<;>intro _ h
     ·have⟨_,_,F,H,h⟩:=bs2 h;apply Qa 320;apply Qa 14;have I:∀b,b=F->To M d 80 [(8,tv (.string (sB b)))] [] j:=by
       intro b K;subst K;cases sj h;exact QN k 2
      refine Qk <|AC H (λs0=>[(9,ti s0.1),(8,tv (.string (sB s0.2)))]) 65665 (λs0=>[]) 0 14 ?_;intro s0 o R h L N;refine Qf λ_ O=>Qa 480 ?_;apply Qo h<;>intro _ h
      ·refine Qu <|O <|Qf λ_ P=>Qk ?_;have⟨_,_,_,_,_,_,_,_,h⟩:=bs4 h;have⟨_,_,h⟩:=bs h;apply QJ 425984;refine P <|QJ 56 ?_;exact Qx N (sy h) 14
      refine QQ <|Qx I (L _ (sy h)) 8
     apply Qu;cases sj h;exact QN k 4
    replace h:=B;apply Qo h<;>intro _ h
    ·have⟨_,_,h⟩:=bs h;apply QJ 416;cases sj h;exact QN i 14
    apply Qu;cases sj h;exact QN i 28
   replace h:=x;apply Qo h<;>intro _ h
   ·have⟨_,_,h⟩:=bs h;apply QJ 928;cases sj h;exact QN g 30
   apply Qu;cases sj h;exact QN g 60
  replace h:=t;apply Qo h<;>intro _ h
  ·have⟨_,_,_,_,_,_,h⟩:=bs3 h;apply QJ 7808;cases sj h;exact QN f 62
  apply Qu;cases sj h;exact QN f 124
 replace h:=h0;apply Qo h<;>intro _ h
 ·have⟨_,_,_,_,h⟩:=bs2 h;apply QJ 8000;cases sj h;exact QN e 126
 apply Qu;cases sj h;exact QN e 252
def LV (e:Qw) (a:Int):Option (Mp Qg):=(Qr (λ(s0:Lz×Mp Qg)=>if decide ((s0.1.length:Int)>0) then (idx s0.1 0).bind λf=>(sub s0.1 1 (s0.1.length:Int)).bind λi=>(Qr (λ(b:Int×Mp Qg×Lz)=>if decide (b.1<(e.arcs.length:Int)) then ((idx e.arcs b.1).bind λc=>(opt ((((c.from' !=f)||(c.to==a))||(AY b.2.1 c.to).isSome)==false) (Fs e c) default).bind λj=>(if (((c.from' !=f)||(c.to==a))||(AY b.2.1 c.to).isSome)||(j==0) then some (b.2.1,b.2.2) else (mput b.2.1 c.to c).bind λd=>(rm (b.2.2.length+[c.to].length)).bind λ_=>some (d,b.2.2++[c.to]))).bind λg=>some (.inl (i64.wrap (b.1+1),g.1,g.2)) else some (.inr (b.2.1,b.2.2))) (0,s0.2,i)).bind λh=>some (.inl (h.2,h.1)) else some (.inr s0.2)) ([a],(some []:Mp Qg))).bind λk=>some k
instance fB:SpcS prog 167 (∀{k a r},LV k a=some r->FnOk prog 167 [tptr (HD.cs k),ti a] [] (λv=>[omap Qv r v]) (λv=>tv v)):=.mk λ{k a r} h=>by
 refine Fe func167 ntmps167 λM0 M z l=>?_
 apply Qa 12
 refine QU [v1 0 (λv0=>omap Qv (some []:Mp Qg) v0)] [1] 30 (λb=>?_) (λ_=>by refine' rx (.m [] [0] rfl rfl rfl (Mr Qv)) 1 ?_;exact rnn)
 refine QU [vo 1 rI 3 [a]] [2] 252 λu=>?_
 refine Q1 (As'':=[ownq rI 3 [a] (u 1),omap Qv (some []:Mp Qg) (b 0)]) (λ_ _ H=>(H.Xk [1,0] rfl).toQ) ?_
 refine Qf λA B=>?_
 have⟨C,h0,h⟩:=bs h
 have D:∀m,m=C->To M z 69 [(5,tv (b 0))] [omap Qv m (b 0)] A:=by
  intro m n;subst n;refine B <|Qa 14 ?_;exact Qp h (·▸AO (b 0) [0] l)
 refine Qk <|AT h0 (λs0 j=>[(6,tv j)]) 2081409 (λs0 j=>[ownq rI 3 s0.1 j,omap Qv s0.2 (b 0)]) 129 (u 1) 116 ?_;intro s0 j o E h p F;refine Qf λ_ I=>?_;refine Qa 250 ?_ (λ_=>by refine' pr 1 ?_;refine' rx (.u [0] rfl rfl (fC ud22 z0)) 1 ?_;exact rnn);refine DJ 1 (λq=>?_) λq=>?_
 ·replace h:=C6 q h;refine Qu <|I <|Qk ?_;have⟨_,w,K,L,N,O,h⟩:=bs3 h;refine Qa 1970 ?_ (λ_=>by refine' pr 1 ?_;refine' rx (.u [0] rfl rfl (fD ud22 tok3 z0 .k w)) 0 ?_;refine' rx (.u [0] rfl rfl (fE tok3 z0 w)) 1 ?_;exact rnn);refine QU [v1 1 (λv0=>ownq rI 3 K v0)] [2] 940 (λP=>?_) (λ_=>by refine' pr 1 ?_;refine' rx (.e [] [0] [2] rfl rfl rfl rfl (fF (R:=rI) ud22 tok3 z0 .k L)) 1 ?_;exact rnn);apply Qa 8176;refine tJq (λ_ f=>[(6,tv f)]) 2081793 (λs f=>[omap Qv s.1 (b 0),ownq rI 3 s.2 f]) 129 E (·=N) (λs f n=>?_) λQ=>?_
  ·subst n;refine AA (λ_ _ H=>(H.pick [0,1,2,3]).Xk [1,0] rfl) ?_;exact Q7 F f (sy h) 30
  refine Qk <|AT O (λc e=>[(28,ti c.1),(6,tv e)]) 4365567934850 (λc e=>[omap Qv c.2.1 (b 0),ownq rI 3 c.2.2 e]) 129 (P 1) 1006 ?_;intro c e o K2 h p S;apply Qa 1022;refine Qf λ_ T=>Qo h (λ_ h=>?_) λ_ h=>?_
  ·refine Qu <|T <|Qf λU V=>?_;have⟨x,W,h⟩:=bs h;refine tJ1 (λg=>[(6,tv g)]) 4365568000515 (λg=>[omap Qv x.1 (b 0),ownq rI 3 x.2 g]) 129 U (λg=>?_) λy=>?_
   ·refine V <|QJ 1020 ?_;exact Q7 S g (sy h) 9069186923922181
   replace h:=W;apply Qk;have⟨t,_,_,_,h⟩:=bs2 h;refine QU [vb 2 (Qv.cs zz6),vb 2 (Qv.cs t)] [3,4] 8168 λm3=>?_;apply tFz 2;refine Qf λ_ X=>?_;refine QU [vb 7 (Qv.cs zz6),vb 7 (Qv.cs ((AY c.2.1 t.to).getD zz6))] [8,9] 523778 (λm4=>?_) (λ_=>by refine' pr 3 ?_;refine' rx (.u [0] rfl rfl (UI (x0:=zz6) FO ud3 F7 HC z2 z0)) 6 ?_;exact rnn);apply tSl [0,1];apply Qa 2144862208;apply Qo h<;>intro _ h
   ·apply QQ;cases sj h;exact QN (y e) 4080
   refine Qu <|X <|Qf λ_ Y=>?_;have⟨i,d,h⟩:=bs h;refine AB [v0 (omap Qv i (b 0))] [5] 65474 (λm5=>?_) (λ_=>by refine' pr 4 ?_;refine' rx (.e [] [0] [2] rfl rfl rfl rfl (JP FO ud3 z3 z1 z0 d)) 0 ?_;exact rnn);apply Y;have⟨_,Z,h⟩:=bs h;refine AB [v1 4 (λv0=>ownq rI 3 (c.2.2++[t.to]) v0)] [5] 130528 (λm6=>?_) (λ_=>by refine' pr 4 ?_;refine' rx (.e [] [0] [2] rfl rfl rfl rfl (fG (R:=rI) ud22 tok3 (leb rfl) z3 z0 sm Z)) 1 ?_;exact rnn);cases sj h;exact QN (y (m6 4)) 12473482684368395
  refine QQ <|Q7 Q e (p _ (sy h)) 928
 replace h:=C7 q h;refine QQ <|AA (λ_ _ H=>(H.pick [3]).Xk [1] rfl) ?_;exact Qx D (p _ (sy h)) 2
def Hs (b:(List Str)) (a:Lz):Option Bool:=(Qr (λ(s0:Int×Int)=>((if decide (s0.1<(a.length:Int)) then (idx a s0.1).bind λc=>(Dq c 0 1048576).bind λf=>if !f then some (.inr (.inr false)) else some (.inl (i64.wrap (s0.1+1),i64.wrap (s0.2+c))) else some (.inr (.inl s0.2))):Option ((Int×Int)⊕(Int⊕Bool)))) (0,0)).bind λg=>(match g with | .inl d=>(Dq (b.length:Int) 1 12).bind λe=>(opt (((e&&((b.length:Int)==(a.length:Int)))&&(decide (d>0)))==true) (JI b (λx0=>By x0)) default).bind λh=>(some (((e&&((b.length:Int)==(a.length:Int)))&&(decide (d>0)))&&h)) | .inr i=>some i)
instance uO:Spc2 prog 248 Hs (λb a=>[tsl rS b,tsl rI a]) tb:=.mk λ{b a r} h=>by
 refine Fe func248 ntmps248 λs M t c=>?_
 apply Qa 12
 apply Qa 14
 refine Qf λj k=>?_
 apply Qa 126
 have⟨e,h0,h⟩:=bs h
 refine tJp (λf=>[(5,ti f)]) 115457 (λ_=>[]) 0 j (.inl ·=e) (λf d=>?_) λl=>?_
 ·subst d
  simp only at h
  apply k
  have⟨_,_,_,_,h⟩:=bs2 h
  apply Qa 524288
  exact tRE h c
 refine tJr (λg=>[(4,tb g)]) 1 (λ_=>[]) 0 (.inr ·=e) (λg d=>?_) λm=>?_
 ·subst d
  simp only at h
  exact oRE h c
 apply Qk
 refine AC h0 (λs0=>[(10,ti s0.1),(5,ti s0.2)]) 242130895234 (λs0=>[]) 0 126 ?_
 intro s0 o u h i n
 apply Qa 254
 refine Qf λ_ p=>?_
 apply Qo h<;>intro _ h
 ·apply Qu
  apply p
  refine Qf λ_ q=>?_
  apply Qk
  have⟨_,_,_,_,h⟩:=bs2 h
  apply Qa 2024
  refine tIfs h 2040 (λ_ h=>?_) λ_ h=>?_
  ·apply Qa 2
   apply AG
   exact Qx m (i _ (sy h)) 2
  apply QJ 3984
  apply q
  apply QJ 252
  exact Qx n (sy h) 415009637383
 apply QQ
 exact Qx l (i _ (sy h)) 224
def CR (a:Str) (d:(List AnyV)):Option Str:=(DW ([]:Str) a).bind λf=>(Qr (λ(s0:Int×Str)=>if decide (s0.1<(d.length:Int)) then (idx d s0.1).bind λb=>(Lh s0.2 32).bind λc=>(if b.asInt.2 then (Ix b.asInt.1).bind λg=>(DW c g).bind λh=>some h else (if b.asStr.2 then (DW c b.asStr.1).bind λi=>some i else some c).bind λj=>some j).bind λk=>some (.inl (i64.wrap (s0.1+1),k)) else some (.inr s0.2)) (0,f)).bind λl=>(GW l).bind λe=>(cat (e.length+([10]:Str).length)).bind λ_=>some (e++([10]:Str))
instance UJ:SpcS prog 216 (∀{a d r},CR a d=some r->FnOk prog 216 [tv (.string (sB a)),tsl (rAny 3 9) d] [glo] (λ_=>[]) (λ_=>tv (.string (sB r)))):=.mk λ{a d r} h=>by
 refine Fe func216 ntmps216 λU M n e=>?_
 apply Qa 12
 refine QU [v1 0 (λv0=>bld ([]:Str) v0 nilV)] [1] 14 (λb=>?_) (λ_=>by refine' rx (.m [] [1] rfl rfl rfl (UK bInfo)) 0 ?_;exact rnn)
 have⟨p,h0,q,s,h⟩:=bs2 h
 refine QU [v1 1 (λv0=>bld p (b 0) v0)] [2] 40 (λt=>?_) (λ_=>by refine' pr 1 ?_;refine' rx (.e [] [1] [2] rfl rfl rfl rfl (QO cal (FB h0) (.cons (.of z1)<|.cons (.of z0)<|.nil))) 0 ?_;exact rnn)
 refine Qf λu v=>?_
 apply Qa 30
 have w:∀f j,f=q->To M n 34 [(5,tv (b 0))] [glo,bld f (b 0) j] u:=by
  intro f j x;subst x;apply v;have⟨_,y,_,_,h⟩:=bs2 h;refine QU [] [] 8 (λV=>?_) (λ_=>by refine' rx (.e [] [1] [] rfl rfl rfl rfl (QO cal (UL y) (.cons (.of z0)<|.nil))) 2 ?_;exact rnn);exact tRE h e
 refine Qk <|AT s (λs0 c=>[(14,ti s0.1)]) 10502530 (λs0 c=>[bld s0.2 (b 0) c]) 130 (t 1) 30 ?_;intro s0 c o W h z A;apply Qa 62;refine Qf λ_ B=>Qo h (λ_ h=>?_) λ_ h=>?_
 ·refine Qu <|B <|Qf λk C=>Qk ?_;have⟨_,_,D,E,F,H,h⟩:=bs3 h;apply Qa 488;refine QU [v1 0 (λv0=>bld D (b 0) v0)] [1] 124 (λI=>?_) (λ_=>by refine' rx (.e [] [1] [2] rfl rfl rfl rfl (QO cal (fH E) (.cons (.of z4)<|.cons (.of .k)<|.nil))) 0 ?_;exact rnn);apply Qa 122;apply Qk;refine Qa 508 ?_ (λ_=>by refine' rx (.p rfl (op_asI dc tok3 ud3 z0)) 2 ?_;exact rnn);refine tJ1 (λ_=>[]) 16261 (λg=>[bld F (b 0) g]) 130 k (λg=>?_) λl=>?_
  ·refine C <|QJ 60 ?_;exact Q7 A g (sy h) 16810757
  replace h:=H;apply Qo h<;>intro _ h
  ·apply Qa 482;have⟨_,K,L,N,h⟩:=bs2 h;refine AB [v1 2 (λv0=>bld L (b 0) v0)] [3] 480 (λO=>?_) (λ_=>by refine' pr 1 ?_;refine' rx (.u [0] rfl rfl ((QO cal (fI K) (.cons (.of z0)<|.nil)).glo)) 0 ?_;refine' rx (.e [] [1] [2] rfl rfl rfl rfl (QO cal (FB N) (.cons (.of z6)<|.cons (.of z0)<|.nil))) 0 ?_;exact rnn);cases sj h;exact QN (l (O 2)) 30
  refine Qa 1932 ?_ (λ_=>by refine' rx (.p rfl (op_asS dc tok9 ud9 z2)) 2 ?_;exact rnn);have⟨P,Q,h⟩:=bs h;refine tJ1 (λ_=>[]) 16260 (λi=>[bld P (b 0) i]) 130 k (λi=>?_) λm=>?_
  ·cases sj h;exact QN (l i) 30
  replace h:=Q;apply Qo h<;>intro _ h
  ·apply Qa 242;have⟨R,S,h⟩:=bs h;refine AB [v1 1 (λv0=>bld R (b 0) v0)] [2] 240 (λT=>?_) (λ_=>by refine' pr 1 ?_;refine' rx (.e [] [1] [2] rfl rfl rfl rfl (QO cal (FB S) (.cons (.of z5)<|.cons (.of z0)<|.nil))) 0 ?_;exact rnn);cases sj h;exact QN (m (T 1)) 30
  apply Qu;cases sj h;exact QN (m (I 0)) 120
 refine QQ <|Q7 w c (z _ (sy h)) 32
def Lj (a:Qe):Option Str:=(idx G4 a.Xi).bind λb=>if a.Xi==0 then (CR b [AnyV.str a.Xj,AnyV.int a.Lo]).bind λf=>some f else if a.Xi==2 then (CR b [AnyV.str a.Xj,AnyV.int a.Lo,AnyV.int a.Hi]).bind λg=>some g else if a.Xi==3 then (Qr (λ(s0:Int×List AnyV)=>if decide (s0.1<(a.Words.length:Int)) then (idx a.Words s0.1).bind λd=>(idx a.Xf s0.1).bind λe=>(rm (s0.2.length+[AnyV.str d,AnyV.int e].length)).bind λ_=>some (.inl (i64.wrap (s0.1+1),s0.2++[AnyV.str d,AnyV.int e])) else some (.inr s0.2)) (0,[AnyV.str a.Xj,AnyV.int (a.Words.length:Int)])).bind λh=>(CR b h).bind λi=>some i else if a.Xi==6 then (CR b [AnyV.str a.Xj,AnyV.str a.Of]).bind λj=>some j else if a.Xi==7 then (CR b [AnyV.str a.Xj,AnyV.str a.Up,AnyV.str a.Of,AnyV.int a.Lo,AnyV.int a.Hi]).bind λk=>some k else if a.Xi==8 then (CR b [AnyV.str a.Xj,AnyV.str a.Up,AnyV.str a.Of]).bind λl=>some l else (Ho a.Of).bind λm=>(CR b [AnyV.str a.Xj,AnyV.str m,AnyV.int a.Lo,AnyV.int a.Hi]).bind λc=>some c
instance uP:SpcS prog 217 (∀{b r},Lj b=some r->FnOk prog 217 [Qd.ty b] [glo] (λ_=>[]) (λ_=>tv (.string (sB r)))):=.mk λ{b r} h=>by
 refine Fe func217 ntmps217 λB M f a=>?_
 apply Qa 2
 have⟨g,h0,h⟩:=bs h
 refine Qa 96 ?_ (λ_=>by refine' pr 2 ?_;refine' rx (.u [0] rfl rfl (fJ underlying325 tok9 WW rfl z0 rfl h0)) 2 ?_;exact rnn)
 refine Qf λ_ i=>?_
 apply Qa 28
 apply Qk
 apply Qa 60
 apply Qo h<;>intro _ h
 ·have⟨_,_,h⟩:=bs h
  apply Qa 1024
  exact tRE h a
 apply Qa 116
 apply Qo h<;>intro _ h
 ·have⟨_,_,h⟩:=bs h
  apply Qa 8192
  exact tRE h a
 apply Qa 116
 apply Qo h<;>intro _ h
 ·refine QU [vo 7 (rAny 3 9) 20 [AnyV.str b.Xj,AnyV.int (b.Words.length:Int)]] [8] 13056 λj=>?_
  refine Qf λk l=>?_
  apply Qa 508
  have⟨m,n,h⟩:=bs h
  have p:∀d e,d=m->To M f 132 [(4,tv e),(3,tv (.string (sB g)))] [glo,own (rAny 3 9) 20 d e] k:=by
   intro d e q;subst q;apply l;have⟨_,s,h⟩:=bs h;refine Qa 52 ?_ (λ_=>by refine' pr 2 ?_;refine' rx (.u [0,1] rfl rfl ((CY [own (rAny 3 9) 20 d e] cal (UJ.ok s) (.cons (.of z1)<|.cons (.own z0 (.head _))<|.nil) (λ_=>Ah) (λ_=>EY (x:=undef))).glo)) 1 ?_;exact rnn);exact tRE h a
  refine Qk <|AT n (λs0 c=>[(51,ti s0.1),(4,tv c)]) 276759069058 (λs0 c=>[own (rAny 3 9) 20 s0.2 c]) 130 (j 7) 238 ?_;intro s0 c o C h t u;apply Qa 254;refine Qf λ_ v=>Qo h (λ_ h=>?_) λ_ h=>?_
  ·refine Qu <|v <|Qf λ_ w=>Qk ?_;have⟨y,_,z,_,_,_,h⟩:=bs3 h;apply Qa 8112;refine AB [vo 10 (rAny 3 9) 20 (s0.2++[AnyV.str y,AnyV.int z])] [11] 1021952 λA=>?_;refine w <|QJ 508 ?_;exact Q7 u (A 10) (sy h) 484270179593
  refine QQ <|Q7 p c (t _ (sy h)) 96
 apply Qa 116;apply Qo h<;>intro _ h
 ·have⟨_,_,h⟩:=bs h;apply Qa 1024;exact tRE h a
 apply Qa 116;apply Qo h<;>intro _ h
 ·have⟨_,_,h⟩:=bs h;apply Qa 524288;exact tRE h a
 apply Qa 100;apply Qo h<;>intro _ h
 ·have⟨_,_,h⟩:=bs h;apply Qa 8192;exact tRE h a
 refine Qu <|i ?_;have⟨_,_,_,_,h⟩:=bs2 h;apply Qa 131072;exact tRE h a
def F8 (b:Lz) (a:Int):Option Lz:=if decide (a<0) then none else (MB (u64.wrap (b.length:Int)) (u64.wrap a)).bind λc=>(if (decide (c.1>0))||(decide (c.2>9223372036854775807)) then none else (mk (i64.wrap c.2) 0).bind λd=>(Qr (λ(s0:Int×Lz)=>if decide (s0.1<(s0.2.length:Int)) then (sub s0.2 s0.1 (s0.2.length:Int)).bind λe=>(sub s0.2 0 s0.1).bind λf=>some (.inl (i64.wrap (s0.1+(Nat.min f.length e.length:Int)),s0.2.take (s0.1).toNat++cpy e f++s0.2.drop ((s0.2.length:Int)).toNat)) else some (.inr s0.2)) ((Nat.min b.length d.length:Int),cpy d b)).bind λg=>some g)
instance uR:SpcS prog 67 (∀{c a r},F8 c a=some r->FnOk prog 67 [tsl rI c,ti a] [] (λv=>[own rI 3 r v]) (λv=>tv v)):=.mk λ{c a r} h=>by
 refine Fe func67 ntmps67 λy M k d=>?_
 apply Qa 12
 refine tIfs h 28 (λ_ h=>?_) λ_ h=>?_
 ·cases h
 have⟨_,_,h⟩:=bs h
 refine Qa 11264 ?_ (λ_=>by refine' pr 2 ?_;refine' rx (.p rfl (JB ud3 underlying200 z0)) 1 ?_;refine' rx (.p rfl (JB ud3 underlying200 z0)) 6 ?_;exact rnn)
 refine tIfs h 832 (λ_ h=>?_) λ_ h=>?_
 ·cases h
 have⟨g,_,l,h0,h⟩:=bs2 h
 refine QU [vo 2 rI 3 g] [3] 152 (λb=>?_) (λ_=>by refine' pr 1 ?_;refine' rx (.p rfl (JB underlying200 ud3 z0)) 2 ?_;exact rnn)
 refine QU [v0 (own rI 3 (cpy g c) (b 2))] [3] 114 (λz=>?_) (λ_=>by refine' pr 2 ?_;refine' rx (.e [] [0] [1] rfl rfl rfl rfl (fK (R:=rI) ud22 rfl tok3 z1 z0)) 1 ?_;exact rnn)
 refine Qf λm n=>?_
 have p:∀e,e=l->To M k 48 [(7,tv (b 2))] [own rI 3 e (b 2)] m:=by
  intro e q;subst q;refine n <|Qa 14 ?_;exact Qp h (·▸AO (b 2) [0] d)
 refine Qk <|AC h0 (λs0=>[(8,ti s0.1)]) 641 (λs0=>[own rI 3 s0.2 (b 2)]) 1 20 ?_;intro s0 o A h s t;refine Qf λ_ u=>Qa 116 ?_;refine DJ 1 (λf=>?_) λf=>?_
 ·replace h:=C6 f h;refine Qu <|u <|Qk ?_;have⟨w,i,x,j,h⟩:=bs2 h;refine AB [v0 (own rI 3 (s0.2.take (s0.1).toNat++cpy w x++s0.2.drop ((s0.2.length:Int)).toNat) (b 2))] [8] 11300 (λB=>?_) (λ_=>by refine' pr 3 ?_;refine' rx (.u [0] rfl rfl (UM (R:=rI) ud22 tok3 z1 (.op z0) (.no _) i)) 2 ?_;refine' rx (.u [0] rfl rfl (UM (R:=rI) ud22 tok3 z1 (.no _) (.op z0) j)) 0 ?_;refine' rx (.e [] [0] [1] rfl rfl rfl rfl (fL (R:=rI) (xs:=s0.2) ud22 rfl tok3 z3 z0 i j)) 2 ?_;exact rnn);exact Qx t (sy h) 40
 replace h:=C7 f h;refine QQ <|Qx p (s _ (sy h)) 16

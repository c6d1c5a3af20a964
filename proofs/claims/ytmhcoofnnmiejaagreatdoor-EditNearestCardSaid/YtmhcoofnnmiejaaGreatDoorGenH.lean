/- The walk. No condition. -/
import Derived.Test.YtmhcoofnnmiejaaGreatDoorGenA
import Derived.Test.YtmhcoofnnmiejaaGreatDoorGenB
import Derived.Test.YtmhcoofnnmiejaaGreatDoorGenD
set_option linter.all false
open List Go.Proofs.Tryz Go.IntKind
namespace Go.Proofs.YtmhcoofnnmiejaaGreatDoor
noncomputable section
open Go.Sim
set_option maxRecDepth 100000
set_option maxHeartbeats 4000000
theorem QjU:∀(n:Nat) (a:Int) (r:Str),Qed n a=some r->FnOk prog 207 [ti a] [] (λ_=>[]) (λ_=>tv (.string (sB r)))
 | 0,_,r,h=>by cases h
 | n+1,a,r,h=>QoA (λa r h=>QjU n a r h) h
def QfY (a:Int):Option (Str):=Qed (a.natAbs+2) a
theorem Qo2 {a:Int} {r:Str} (h:QfY a=some r):FnOk prog 207 [ti a] [] (λ_=>[]) (λ_=>tv (.string (sB r))):=QjU _ _ _ h
instance :Spc1 prog 207 (λ(a:Int)=>QfY a) (λ(a:Int)=>[ti a]) (λ(r:Str)=>tv (.string (sB r))):=⟨λh=>Qo2 h⟩
def QbS (a:Str) (c:Int):Option (Str):=(cat (a.length+([32]:Str).length)).bind λ_=>(QfY c).bind λb=>(cat ((a++([32]:Str)).length+b.length)).bind λ_=>(some ((a++([32]:Str))++b))
instance QFZ:Spc2 prog 176 QbS (λb c=>[tv (.string (sB b)),ti c]) (λr=>tv (.string (sB r))):=.mk λ{b c r} h=>by
 unfold QbS at h
 refine Fe func176 ntmps176 λd M e a=>?_
 refine Qa 12 ?_
 have⟨_,_,_,_,_,_,h⟩:=bs3 h
 refine Qa 64 ?_
 exact Qp h (·▸Qn a)
def QbL (b:Qav) (a:Int):Option ((List Qi)):=(mk a (0:Int)).bind λh=>(Qr (λ(s0:Int×List Int)=>(if (decide (s0.1<(b.old.length:Int)))=true then (idx b.old s0.1).bind λd=>((if ((decide (d>=0))&&(decide (d<a)))=true then (idx s0.2 d).bind λi=>(setAt s0.2 d (i64.wrap (i+1))).bind λj=>(some j) else (some s0.2))).bind λk=>(some (.inl ((i64.wrap (s0.1+1)),k))) else (some (.inr s0.2)))) ((0:Int),h)).bind λe=>(Qr (λ(c:Int×List Qi)=>(if (decide (c.1<(e.length:Int)))=true then (idx e c.1).bind λf=>(rm (c.2.length+[(Qi.mk a c.1 0 f 0),(Qi.mk a c.1 0 (b.old.length:Int) 1),(Qi.mk c.1 (i64.wrap (a+1)) b.lo b.hi 0)].length)).bind λ_=>(some (.inl ((i64.wrap (c.1+1)),(c.2++[(Qi.mk a c.1 0 f 0),(Qi.mk a c.1 0 (b.old.length:Int) 1),(Qi.mk c.1 (i64.wrap (a+1)) b.lo b.hi 0)])))) else (some (.inr c.2)))) ((0:Int),([]:List Qi))).bind λg=>(rm (g.length+[(Qi.mk (i64.wrap (a+1)) a (b.old.length:Int) (b.old.length:Int) 0)].length)).bind λ_=>(some (g++[(Qi.mk (i64.wrap (a+1)) a (b.old.length:Int) (b.old.length:Int) 0)]))
instance Qlz:SpcS prog 36 (∀{b a r},QbL b a=some r->FnOk prog 36 [tptr (Qbd.cs b),ti a] [] (λv=>[own QE 142 r v]) (λv=>tv v)):=.mk λ{b a r} h=>by
 unfold QbL at h
 refine Fe func36 ntmps36 λR M S g=>?_
 refine Qa 12 ?_
 refine Qa 448 ?_
 have⟨p,_,h⟩:=bs h
 refine QU [v1 1 (λv0=>own rI 3 p v0)] [2] 124 λd=>?_
 refine Qf λq s=>?_
 refine Qa 4080 ?_
 have⟨t,h0,h⟩:=bs h
 refine tJp (λ_=>[]) 16262 (λl=>[own rI 3 l (d 1)]) 1 q (·=t) (λl i=>?_) λu=>?_
 ·subst i
  refine s ?_
  refine Qa 62 ?_
  refine Q1 (λ_ _ H=>H.nil (QE) 142) ?_
  refine Qf λw x=>?_
  refine Qa 510 ?_
  have⟨y,z,h⟩:=bs h
  refine tJq (λ_ e=>[(9,tv e)]) 148353 (λj e=>[own QE 142 j e]) 1 w (·=y) (λj e i=>?_) λA=>?_
  ·subst i
   refine x ?_
   have⟨_,_,h⟩:=bs h
   refine QU [v1 8 (λv0=>own QE 142 (j++[(Qi.mk (i64.wrap (a+1)) a (b.old.length:Int) (b.old.length:Int) (0:Int))]) v0)] [9] 1536 λB=>?_
   exact Qp h (·▸QaQ (B 8) [0] g)
  refine Qk ?_
  refine QaU z (λs0 c=>[(44,ti s0.1),(9,tv c)]) 4365567934850 (λs0 c=>[own QE 142 s0.2 c]) 385 (.slice none 0 0) 478 ?_
  clear h
  intro s0 c o T h k C
  refine Qa 510 ?_
  refine Qf λ_ D=>?_
  refine Qo h (λ_ h=>?_) λ_ h=>?_
  ·refine Qu ?_
   refine D ?_
   refine Qf λ_ E=>?_
   refine Qk ?_
   have⟨F,_,h⟩:=bs h
   refine Qa 16304 ?_
   have⟨_,_,h⟩:=bs h
   refine QaG [v1 22 (λv0=>own QE 142 (s0.2++[(Qi.mk a s0.1 (0:Int) F (0:Int)),(Qi.mk a s0.1 (0:Int) (b.old.length:Int) (1:Int)),(Qi.mk s0.1 (i64.wrap (a+1)) b.lo b.hi (0:Int))]) v0)] [23] 8480882688 λI=>?_
   refine E ?_
   refine QJ 1020 ?_
   refine Qan (λ_ _ H=>(H.pick [3,4,0,2,5,6,7]).Xk [1,0] rfl) ?_
   exact Q7 C (I 22) ((sj h).symm) 254
  refine QQ ?_
  refine Qan (λ_ _ H=>(H.pick [4,5,7]).Xk [0] rfl) ?_
  exact Q7 A c (k _ (sj h).symm) 14
 refine Qk ?_
 refine Qaf h0 (λf=>[(24,ti f.1)]) 34103902594 (λf=>[own rI 3 f.2 (d 1)]) 1 494 ?_
 clear h
 intro f o U h k K
 refine Qa 510 ?_
 refine Qf λ_ L=>?_
 refine Qo h (λ_ h=>?_) λ_ h=>?_
 ·refine Qu ?_
  refine L ?_
  refine Qf λN O=>?_
  refine Qk ?_
  have⟨_,_,h⟩:=bs h
  refine Qa 4072 ?_
  refine Qa 65408 ?_
  have⟨P,m,h⟩:=bs h
  refine tJ0 [] 16260 [own rI 3 P (d 1)] 1 N ?_ λn=>?_
  ·refine O ?_
   refine QJ 508 ?_
   exact Qx K ((sj h).symm) 61987669181189
  replace h:=m
  clear m
  refine Qo h (λ_ h=>?_) λ_ h=>?_
  ·have⟨_,_,Q,_,h⟩:=bs2 h
   refine QaG [v0 (own rI 3 Q (d 1))] [7] 65026 λV=>?_
   obtain rfl:=sj h
   exact QN n 508
  refine Qu ?_
  obtain rfl:=sj h
  exact QN n 1016
 refine QQ ?_
 exact Qx u (k _ (sj h).symm) 480
def Qdt (e:Qw) (a:Int):Option ((Mp Qg)):=(Qr (λ(s0:List Int×Mp Qg)=>(if (decide ((s0.1.length:Int)>0))=true then (idx s0.1 0).bind λf=>(sub s0.1 1 (s0.1.length:Int)).bind λi=>(Qr (λ(b:Int×Mp Qg×List Int)=>(if (decide (b.1<(e.arcs.length:Int)))=true then ((idx e.arcs b.1).bind λc=>(opt ((((c.from' !=f)||(c.to==a))||(QaX b.2.1 c.to).isSome)==false) (QbW e c) default).bind λj=>(if ((((c.from' !=f)||(c.to==a))||(QaX b.2.1 c.to).isSome)||(j==0))=true then (some (b.2.1,b.2.2)) else (mput b.2.1 c.to c).bind λd=>(rm (b.2.2.length+[c.to].length)).bind λ_=>(some (d,(b.2.2++[c.to]))))).bind λg=>(some (.inl ((i64.wrap (b.1+1)),g.1,g.2))) else (some (.inr (b.2.1,b.2.2))))) ((0:Int),s0.2,i)).bind λh=>(some (.inl (h.2,h.1))) else (some (.inr s0.2)))) ([a],(some []:Mp Qg))).bind λk=>(some k)
instance QoC:SpcS prog 101 (∀{k a r},Qdt k a=some r->FnOk prog 101 [tptr (Qbf.cs k),ti a] [] (λv=>[omap Qv r v]) (λv=>tv v)):=.mk λ{k a r} h=>by
 unfold Qdt at h
 refine Fe func101 ntmps101 λM0 M A l=>?_
 refine Qa 12 ?_
 refine QU [v1 0 (λv0=>omap Qv (some []:Mp Qg) v0)] [1] 30 (λb=>?_) (λ_=>by refine' rx (.m [] [0] rfl rfl rfl (Qkm Qv)) 1 ?_;exact rnn)
 refine QU [v1 1 (λv0=>own rI 3 [a] v0)] [2] 252 λu=>?_
 refine Q1 (As'':=[ownq rI 3 [a] (u 1),omap Qv (some []:Mp Qg) (b 0)]) (λ_ _ H=>(H.Xk [1,0] rfl).toQ) ?_
 refine Qf λB C=>?_
 have⟨D,h0,h⟩:=bs h
 have E:∀m,m=D->To M A 69 [(5,tv (b 0))] [omap Qv m (b 0)] B:=by
  intro m n;subst n;refine C <|Qa 14 ?_;exact Qp h (·▸QaQ (b 0) [0] l)
 refine Qk <|QaU h0 (λs0 j=>[(6,tv j)]) 2081409 (λs0 j=>[ownq rI 3 s0.1 j,omap Qv s0.2 (b 0)]) 129 (u 1) 116 ?_;clear h;intro s0 j o F h p I;refine Qf λ_ K=>?_;refine Qa 250 ?_ (λ_=>by refine' pr 1 ?_;refine' rx (.u [0] rfl rfl (QC2 ud22 z0)) 1 ?_;exact rnn);refine QgJ 1 (λq=>?_) λq=>?_
 ·replace h:=QhV q h;refine Qu <|K <|Qk ?_;have⟨_,w,h⟩:=bs h;refine Qa 1970 ?_ (λ_=>by refine' pr 1 ?_;refine' rx (.u [0] rfl rfl (Qxu ud22 tok3 z0 .k w)) 0 ?_;refine' rx (.u [0] rfl rfl (QAw tok3 z0 w)) 1 ?_;exact rnn);have⟨L,N,h⟩:=bs h;refine QU [v1 1 (λv0=>ownq rI 3 L v0)] [2] 940 (λO=>?_) (λ_=>by refine' pr 1 ?_;refine' rx (.e [] [0] [2] rfl rfl rfl rfl (QAx (R:=rI) ud22 tok3 z0 .k N)) 1 ?_;exact rnn);refine Qa 8176 ?_;have⟨P,Q,h⟩:=bs h;refine tJq (λ_ f=>[(6,tv f)]) 2081793 (λs f=>[omap Qv s.1 (b 0),ownq rI 3 s.2 f]) 129 F (·=P) (λs f n=>?_) λS=>?_
  ·subst n;refine Qan (λ_ _ H=>(H.pick [0,1,2,3]).Xk [1,0] rfl) ?_;exact Q7 I f ((sj h).symm) 30
  refine Qk <|QaU Q (λc e=>[(28,ti c.1),(6,tv e)]) 4365567934850 (λc e=>[omap Qv c.2.1 (b 0),ownq rI 3 c.2.2 e]) 129 (O 1) 1006 ?_;clear h;intro c e o K2 h p T;refine Qa 1022 ?_;refine Qf λ_ U=>Qo h (λ_ h=>?_) λ_ h=>?_
  ·refine Qu <|U <|Qf λV W=>?_;have⟨x,y,h⟩:=bs h;refine tJ1 (λg=>[(6,tv g)]) 4365568000515 (λg=>[omap Qv x.1 (b 0),ownq rI 3 x.2 g]) 129 V (λg=>?_) λz=>?_
   ·refine W <|QJ 1020 ?_;exact Q7 T g ((sj h).symm) 9069186923922181
   replace h:=y;clear y;refine Qk ?_;have⟨t,_,h⟩:=bs h;refine QU [v1 2 (λv0=>box (Qv.cs zz6) v0),v1 2 (λv0=>box (Qv.cs t) v0)] [3,4] 8168 λm3=>?_;refine Q1 (λ_ _ H=>(((H.Xk [2,0,1] rfl).Xl 0 rfl).add 0 rfl (λ_ _ _ h=>h.2)).pick [0,3,4,5,6,7,8,9,10]) ?_;refine Qf λ_ X=>?_;refine QU [v1 7 (λv0=>box (Qv.cs zz6) v0),v1 7 (λv0=>box (Qv.cs ((QaX c.2.1 t.to).getD zz6)) v0)] [8,9] 523778 (λm4=>?_) (λ_=>by refine' pr 3 ?_;refine' rx (.u [0] rfl rfl (Qq8 (x0:=zz6) Qlk ud3 Qdd Qid z2 z0)) 6 ?_;exact rnn);refine Q1 (λ_ _ H=>H.Xk [0,1] rfl) ?_;have⟨_,_,h⟩:=bs h;refine Qa 2144862208 ?_;refine Qo h (λ_ h=>?_) λ_ h=>?_
   ·refine QQ ?_;obtain rfl:=sj h;exact QN (z e) 4080
   refine Qu <|X <|Qf λ_ Y=>?_;have⟨i,d,h⟩:=bs h;refine QaG [v0 (omap Qv i (b 0))] [5] 65474 (λm5=>?_) (λ_=>by refine' pr 4 ?_;refine' rx (.e [] [0] [2] rfl rfl rfl rfl (QjS Qlk ud3 z3 z1 z0 d)) 0 ?_;exact rnn);refine Y ?_;have⟨_,Z,h⟩:=bs h;refine QaG [v1 4 (λv0=>ownq rI 3 (c.2.2++[t.to]) v0)] [5] 130528 (λm6=>?_) (λ_=>by refine' pr 4 ?_;refine' rx (.e [] [0] [2] rfl rfl rfl rfl (Qv4 (R:=rI) ud22 tok3 (leb rfl) z3 z0 (by simp) Z)) 1 ?_;exact rnn);obtain rfl:=sj h;exact QN (z (m6 4)) 12473482684368395
  refine QQ <|Q7 S e (p _ (sj h).symm) 928
 replace h:=QhW q h;refine QQ <|Qan (λ_ _ H=>(H.pick [3]).Xk [1] rfl) ?_;exact Qx E (p _ (sj h).symm) 2
def Qcc (e:Int) (b:Qw) (f:Int) (c:(Mp Qg)) (g:Int):Option (Int×Qw):=(Qr (λ(s0:Int×Int×Int×(List Qi)×(List Qg)×List Int)=>((QdM ((QaX c s0.1).getD zz6) s0.2.1 (Qw.mk s0.2.2.1 s0.2.2.2.1 s0.2.2.2.2.2 s0.2.2.2.2.1)).bind λa=>(if ((((QaX c s0.1).getD zz6)).from'==g)=true then (some (.inr (a.1,(a.2).n,(a.2).l,(a.2).arcs,(a.2).flow))) else (some (.inl ((((QaX c s0.1).getD zz6)).from',a.1,(a.2).n,(a.2).l,(a.2).arcs,(a.2).flow)))))) (f,e,b.n,b.l,b.arcs,b.flow)).bind λd=>(some (d.1,(Qw.mk d.2.1 d.2.2.1 d.2.2.2.2 d.2.2.2.1)))
instance QlA:SpcS prog 104 (∀{b c a f d g e i r},Qcc f d g e i=some r->FnOk prog 104 [Qbu 105 [tv b,tptr (rVal.cs c)],tptr (rI.cs g),tptr ((rMp Qv).cs e),tptr (rI.cs i)] [box (rI.cs f) b,bxN d.n d.l a d.arcs c,own rI 3 d.flow a] (λ_=>[box (rI.cs r.1) b,bxN (r.2).n (r.2).l a (r.2).arcs c,own rI 3 (r.2).flow a]) (λ_=>ttup [])):=.mk λ{b c a f d g e i r} h=>by
 unfold Qcc at h
 refine Fe func104 ntmps104 λu M v l=>?_
 refine Qa 108 ?_
 have⟨m,h0,h⟩:=bs h
 refine tJr (λ_=>[]) 3 (λj=>[box (rI.cs j.1) b,bxN j.2.1 j.2.2.1 a j.2.2.2.1 c,own rI 3 j.2.2.2.2 a]) 16513 (·=m) (λj n=>?_) λp=>?_
 ·subst n
  obtain rfl:=sj h
  exact QaQ undef [0,1,2] l
 refine Qk ?_
 refine Qaf h0 (λs0=>[(5,ti s0.1)]) 2081153 (λs0=>[box (rI.cs s0.2.1) b,bxN s0.2.2.1 s0.2.2.2.1 a s0.2.2.2.2.1 c,own rI 3 s0.2.2.2.2.2 a]) 16513 30 ?_
 clear h
 intro s0 o w h q s
 refine Qk ?_
 refine QU [v1 3 (λv0=>box (Qv.cs zz6) v0),v1 3 (λv0=>box (Qv.cs ((QaX e s0.1).getD zz6)) v0)] [4,5] 464 (λx=>?_) (λ_=>by refine' pr 2 ?_;refine' rx (.p rfl (Qsr (x0:=zz6) Qlk ud3 Qdd Qid z1 z0)) 2 ?_;exact rnn)
 refine Q1 (λ_ _ H=>(((H.Xk [3,0,1,2] rfl).Xl 0 rfl).add 0 rfl (λ_ _ _ h=>h.2)).pick [0,3,4,5]) ?_
 have⟨k,t,h⟩:=bs h
 refine QU [v0 (box (rI.cs k.1) b),v0 (bxN (k.2).n (k.2).l a (k.2).arcs c),v0 (own rI 3 (k.2).flow a)] [3,3,3] 240 (λy=>?_) (λ_=>by refine' pr 2 ?_;refine' rx (.e [] [0,1,2] [3,4,5] rfl rfl rfl rfl (Qdr QuY (Qnu.ok t) z1 (.cons (.of z0)<|.nil))) 0 ?_;exact rnn)
 refine Qa 232 ?_
 refine Qa 248 ?_
 refine Qo h (λ_ h=>?_) λ_ h=>?_
 ·refine QaA ?_
  exact Qx p (q _ (sj h).symm) 8
 refine Qu ?_
 exact Qx s ((sj h).symm) 60
def Qcd (b:Qw) (e:Int) (f:Int) (c:(Mp Qg)) (g:Int):Option (Qw×Int):=(Qr (λ(s0:Int×Int×(List Qi)×(List Qg)×List Int×Int)=>((QdN ((QaX c s0.1).getD zz6) (Qw.mk s0.2.1 s0.2.2.1 s0.2.2.2.2.1 s0.2.2.2.1) s0.2.2.2.2.2).bind λa=>(if ((((QaX c s0.1).getD zz6)).from'==g)=true then (some (.inr ((a.1).n,(a.1).l,(a.1).arcs,(a.1).flow,a.2))) else (some (.inl ((((QaX c s0.1).getD zz6)).from',(a.1).n,(a.1).l,(a.1).arcs,(a.1).flow,a.2)))))) (f,b.n,b.l,b.arcs,b.flow,e)).bind λd=>(some ((Qw.mk d.1 d.2.1 d.2.2.2.1 d.2.2.1),d.2.2.2.2))
instance QlB:SpcS prog 104 (∀{b a c d f g e i r},Qcd d f g e i=some r->FnOk prog 104 [Qbu 106 [tptr (rVal.cs b),tv c],tptr (rI.cs g),tptr ((rMp Qv).cs e),tptr (rI.cs i)] [bxN d.n d.l a d.arcs b,own rI 3 d.flow a,box (rI.cs f) c] (λ_=>[bxN (r.1).n (r.1).l a (r.1).arcs b,own rI 3 (r.1).flow a,box (rI.cs r.2) c]) (λ_=>ttup [])):=.mk λ{b a c d f g e i r} h=>by
 unfold Qcd at h
 refine Fe func104 ntmps104 λu M v l=>?_
 refine Qa 108 ?_
 have⟨m,h0,h⟩:=bs h
 refine tJr (λ_=>[]) 3 (λj=>[bxN j.1 j.2.1 a j.2.2.1 b,own rI 3 j.2.2.2.1 a,box (rI.cs j.2.2.2.2) c]) 16513 (·=m) (λj n=>?_) λp=>?_
 ·subst n
  obtain rfl:=sj h
  exact QaQ undef [0,1,2] l
 refine Qk ?_
 refine Qaf h0 (λs0=>[(5,ti s0.1)]) 2081153 (λs0=>[bxN s0.2.1 s0.2.2.1 a s0.2.2.2.1 b,own rI 3 s0.2.2.2.2.1 a,box (rI.cs s0.2.2.2.2.2) c]) 16513 30 ?_
 clear h
 intro s0 o w h q s
 refine Qk ?_
 refine QU [v1 3 (λv0=>box (Qv.cs zz6) v0),v1 3 (λv0=>box (Qv.cs ((QaX e s0.1).getD zz6)) v0)] [4,5] 464 (λx=>?_) (λ_=>by refine' pr 2 ?_;refine' rx (.p rfl (Qsr (x0:=zz6) Qlk ud3 Qdd Qid z1 z0)) 2 ?_;exact rnn)
 refine Q1 (λ_ _ H=>(((H.Xk [3,0,1,2] rfl).Xl 0 rfl).add 0 rfl (λ_ _ _ h=>h.2)).pick [0,3,4,5]) ?_
 have⟨k,t,h⟩:=bs h
 refine QU [v0 (bxN (k.1).n (k.1).l a (k.1).arcs b),v0 (own rI 3 (k.1).flow a),v0 (box (rI.cs k.2) c)] [3,3,3] 240 (λy=>?_) (λ_=>by refine' pr 2 ?_;refine' rx (.e [] [0,1,2] [3,4,5] rfl rfl rfl rfl (Qdr QuZ (Qnv.ok t) z1 (.cons (.of z0)<|.nil))) 0 ?_;exact rnn)
 refine Qa 232 ?_
 refine Qa 248 ?_
 refine Qo h (λ_ h=>?_) λ_ h=>?_
 ·refine QaA ?_
  exact Qx p (q _ (sj h).symm) 8
 refine Qu ?_
 exact Qx s ((sj h).symm) 60
def Qdg (g:Qw) (a:(Mp Qg)) (b:Int) (d:Int) (c:Int):Option (Int×Qw):=(Qcc c (Qw.mk g.n g.l g.flow g.arcs) d a b).bind λe=>(Qcd (Qw.mk (e.2).n (e.2).l (e.2).flow (e.2).arcs) e.1 d a b).bind λf=>(some (f.2,(Qw.mk (f.1).n (f.1).l (f.1).flow (f.1).arcs)))
instance Qk0:SpcS prog 72 (∀{f a g b d e c r},Qdg g b d e c=some r->FnOk prog 72 [tv f,tmap Qv b,ti d,ti e,ti c] [bxN g.n g.l a g.arcs f,own rI 3 g.flow a] (λ_=>[bxN (r.2).n (r.2).l a (r.2).arcs f,own rI 3 (r.2).flow a]) (λ_=>ti r.1)):=.mk λ{f a g b d e c r} h=>by
 unfold Qdg at h
 refine Fe func72 ntmps72 λn M o k=>?_
 refine QU [v1 4 (λv0=>box (rI.cs c) v0)] [5] 190 (λl=>?_) (λ_=>by refine' rx (.u [0] rfl rfl (QC0 z0)) 5 ?_;exact rnn)
 refine Qa 396 ?_
 have⟨i,h0,h⟩:=bs h
 refine QU [v0 (box (rI.cs i.1) (l 4)),v0 (bxN (i.2).n (i.2).l a (i.2).arcs f),v0 (own rI 3 (i.2).flow a)] [3,3,3] 240 (λp=>?_) (λ_=>by refine' pr 2 ?_;refine' rx (.e [] [2,0,1] [3,4,5] rfl rfl rfl rfl (Qdr QqE (QlA.ok h0) z1 (.cons (.of z0)<|.nil))) 0 ?_;exact rnn)
 have⟨j,m,h⟩:=bs h
 refine QU [v0 (bxN (j.1).n (j.1).l a (j.1).arcs f),v0 (own rI 3 (j.1).flow a),v0 (box (rI.cs j.2) (l 4))] [3,3,3] 192 (λq=>?_) (λ_=>by refine' pr 2 ?_;refine' rx (.e [] [1,2,0] [3,4,5] rfl rfl rfl rfl (Qdr QqE (QlB.ok m) z1 (.cons (.of z0)<|.nil))) 0 ?_;exact rnn)
 refine Qa 20 ?_
 refine Q1 (λ_ _ H=>H.Xk [0,1] rfl) ?_
 exact Qp h (·▸QaQ undef [0,1] k)
def Qhz (a:Qe):Option (Qe):=((if (a.Xi==0)=true then (some (Qe.mk a.Xj ([]:Str) ([]:Str) a.Xi a.Lo 0 ([]:(List Str)) ([]:(List Int)))) else ((if (a.Xi==1)=true then (some (a.Xi==1)) else ((if (a.Xi==4)=true then (some (a.Xi==4)) else (some (a.Xi==5)))).bind λb=>(some b))).bind λc=>((if c=true then (some (Qe.mk a.Xj a.Of ([]:Str) a.Xi a.Lo a.Hi ([]:(List Str)) ([]:(List Int)))) else ((if (a.Xi==2)=true then (some (Qe.mk a.Xj ([]:Str) ([]:Str) a.Xi a.Lo a.Hi ([]:(List Str)) ([]:(List Int)))) else ((if (a.Xi==3)=true then (some (Qe.mk a.Xj ([]:Str) ([]:Str) a.Xi 0 0 a.Words a.Xf)) else ((if (a.Xi==6)=true then (some (Qe.mk a.Xj a.Of ([]:Str) a.Xi 0 0 ([]:(List Str)) ([]:(List Int)))) else ((if (a.Xi==7)=true then (some (Qe.mk a.Xj a.Of a.Up a.Xi a.Lo a.Hi ([]:(List Str)) ([]:(List Int)))) else ((if (a.Xi==8)=true then (some (Qe.mk a.Xj a.Of a.Up a.Xi 0 0 ([]:(List Str)) ([]:(List Int)))) else (some (Qe.mk a.Xj ([]:Str) ([]:Str) a.Xi 0 0 ([]:(List Str)) ([]:(List Int)))))).bind λd=>(some d))).bind λe=>(some e))).bind λf=>(some f))).bind λg=>(some g))).bind λh=>(some h))).bind λi=>(some i))).bind λj=>(some j)
instance QE8:Spc1 prog 217 Qhz (λa=>[Qd.ty a]) Qd.ty:=.mk λ{a r} h=>by
 unfold Qhz at h
 refine Fe func217 ntmps217 λO M P e=>?_
 refine QU [v1 1 (λv0=>box (Qd.cs zz0) v0)] [2] 6 λc=>?_
 refine QU [v1 5 (λv0=>box (Qd.cs zz0) v0),v1 5 (λv0=>box (Qd.cs (Qe.mk a.Xj ([]:Str) ([]:Str) a.Xi (0:Int) (0:Int) ([]:(List Str)) ([]:(List Int)))) v0)] [6,7] 448 λb=>?_
 refine Qf λd A=>?_
 refine Qa 60 ?_
 refine Qk ?_
 refine Qa 124 ?_
 have⟨f,h0,h⟩:=bs h
 refine tJ0 [] 772 [box (Qd.cs zz0) (c 1),box (Qd.cs f) (b 5)] 129 d ?_ λg=>?_
 ·refine A ?_
  refine QU [v0 (box (Qd.cs f) (c 1))] [2] 8 λQ=>?_
  refine Q1 (λ_ _ H=>H.Xk [1] rfl) ?_
  exact Qp h (·▸Qn e)
 replace h:=h0
 clear h0
 refine Qo h (λ_ h=>?_) λ_ h=>?_
 ·refine QaG [v0 (box (Qd.cs (Qe.mk a.Xj ([]:Str) ([]:Str) a.Xi a.Lo (0:Int) ([]:(List Str)) ([]:(List Int)))) (b 5))] [4] 320 λR=>?_
  obtain rfl:=sj h
  exact QN g 6
 refine Qf λi B=>?_
 refine Qa 244 ?_
 have⟨C,j,h⟩:=bs h
 refine tJ0 [(16,tb C)] 2081153 [box (Qd.cs zz0) (c 1),box (Qd.cs (Qe.mk a.Xj ([]:Str) ([]:Str) a.Xi (0:Int) (0:Int) ([]:(List Str)) ([]:(List Int)))) (b 5)] 129 i ?_ λk=>?_
 ·refine B ?_
  have⟨D,l,h⟩:=bs h
  refine tJ0 [] 772 [box (Qd.cs zz0) (c 1),box (Qd.cs D) (b 5)] 129 d ?_ λm=>?_
  ·obtain rfl:=sj h
   exact QN g 6
  replace h:=l
  clear l
  refine Qo h (λ_ h=>?_) λ_ h=>?_
  ·refine QaG [v0 (box (Qd.cs (Qe.mk a.Xj a.Of ([]:Str) a.Xi (0:Int) (0:Int) ([]:(List Str)) ([]:(List Int)))) (b 5)),v0 (box (Qd.cs (Qe.mk a.Xj a.Of ([]:Str) a.Xi a.Lo (0:Int) ([]:(List Str)) ([]:(List Int)))) (b 5)),v0 (box (Qd.cs (Qe.mk a.Xj a.Of ([]:Str) a.Xi a.Lo a.Hi ([]:(List Str)) ([]:(List Int)))) (b 5))] [8,10,12] 20480 λS=>?_
   obtain rfl:=sj h
   exact QN m 6
  refine Qa 244 ?_
  have⟨E,n,h⟩:=bs h
  refine tJ0 [] 772 [box (Qd.cs zz0) (c 1),box (Qd.cs E) (b 5)] 129 d ?_ λo=>?_
  ·obtain rfl:=sj h
   exact QN m 6
  replace h:=n
  clear n
  refine Qo h (λ_ h=>?_) λ_ h=>?_
  ·refine QaG [v0 (box (Qd.cs (Qe.mk a.Xj ([]:Str) ([]:Str) a.Xi a.Lo (0:Int) ([]:(List Str)) ([]:(List Int)))) (b 5)),v0 (box (Qd.cs (Qe.mk a.Xj ([]:Str) ([]:Str) a.Xi a.Lo a.Hi ([]:(List Str)) ([]:(List Int)))) (b 5))] [6,8] 2560 λT=>?_
   obtain rfl:=sj h
   exact QN o 6
  refine Qa 244 ?_
  have⟨F,p,h⟩:=bs h
  refine tJ0 [] 772 [box (Qd.cs zz0) (c 1),box (Qd.cs F) (b 5)] 129 d ?_ λq=>?_
  ·obtain rfl:=sj h
   exact QN o 6
  replace h:=p
  clear p
  refine Qo h (λ_ h=>?_) λ_ h=>?_
  ·refine QaG [v0 (box (Qd.cs (Qe.mk a.Xj ([]:Str) ([]:Str) a.Xi (0:Int) (0:Int) a.Words ([]:(List Int)))) (b 5)),v0 (box (Qd.cs (Qe.mk a.Xj ([]:Str) ([]:Str) a.Xi (0:Int) (0:Int) a.Words a.Xf)) (b 5))] [6,8] 2560 λU=>?_
   obtain rfl:=sj h
   exact QN q 6
  refine Qa 244 ?_
  have⟨I,s,h⟩:=bs h
  refine tJ0 [] 772 [box (Qd.cs zz0) (c 1),box (Qd.cs I) (b 5)] 129 d ?_ λt=>?_
  ·obtain rfl:=sj h
   exact QN q 6
  replace h:=s
  clear s
  refine Qo h (λ_ h=>?_) λ_ h=>?_
  ·refine QaG [v0 (box (Qd.cs (Qe.mk a.Xj a.Of ([]:Str) a.Xi (0:Int) (0:Int) ([]:(List Str)) ([]:(List Int)))) (b 5))] [4] 320 λV=>?_
   obtain rfl:=sj h
   exact QN t 6
  refine Qa 244 ?_
  have⟨K,u,h⟩:=bs h
  refine tJ0 [] 772 [box (Qd.cs zz0) (c 1),box (Qd.cs K) (b 5)] 129 d ?_ λv=>?_
  ·obtain rfl:=sj h
   exact QN t 6
  replace h:=u
  clear u
  refine Qo h (λ_ h=>?_) λ_ h=>?_
  ·refine QaG [v0 (box (Qd.cs (Qe.mk a.Xj a.Of ([]:Str) a.Xi (0:Int) (0:Int) ([]:(List Str)) ([]:(List Int)))) (b 5)),v0 (box (Qd.cs (Qe.mk a.Xj a.Of a.Up a.Xi (0:Int) (0:Int) ([]:(List Str)) ([]:(List Int)))) (b 5)),v0 (box (Qd.cs (Qe.mk a.Xj a.Of a.Up a.Xi a.Lo (0:Int) ([]:(List Str)) ([]:(List Int)))) (b 5)),v0 (box (Qd.cs (Qe.mk a.Xj a.Of a.Up a.Xi a.Lo a.Hi ([]:(List Str)) ([]:(List Int)))) (b 5))] [10,12,14,16] 163840 λW=>?_
   obtain rfl:=sj h
   exact QN v 6
  refine Qa 228 ?_
  have⟨L,w,h⟩:=bs h
  refine tJ0 [] 643 [box (Qd.cs zz0) (c 1),box (Qd.cs L) (b 5)] 129 d ?_ λx=>?_
  ·obtain rfl:=sj h
   exact QN v 6
  replace h:=w
  clear w
  refine Qo h (λ_ h=>?_) λ_ h=>?_
  ·refine QaG [v0 (box (Qd.cs (Qe.mk a.Xj a.Of ([]:Str) a.Xi (0:Int) (0:Int) ([]:(List Str)) ([]:(List Int)))) (b 5)),v0 (box (Qd.cs (Qe.mk a.Xj a.Of a.Up a.Xi (0:Int) (0:Int) ([]:(List Str)) ([]:(List Int)))) (b 5))] [6,8] 1280 λX=>?_
   obtain rfl:=sj h
   exact QN x 6
  refine Qu ?_
  obtain rfl:=sj h
  exact QN x 20
 replace h:=j
 clear j
 refine Qo h (λ_ h=>?_) λ_ h=>?_
 ·refine Qu ?_
  obtain rfl:=sj h
  exact QN k 62
 refine Qa 124 ?_
 have⟨N,y,h⟩:=bs h
 refine tJ0 [(16,tb N)] 2081153 [box (Qd.cs zz0) (c 1),box (Qd.cs (Qe.mk a.Xj ([]:Str) ([]:Str) a.Xi (0:Int) (0:Int) ([]:(List Str)) ([]:(List Int)))) (b 5)] 129 i ?_ λz=>?_
 ·obtain rfl:=sj h
  exact QN k 62
 replace h:=y
 clear y
 refine Qo h (λ_ h=>?_) λ_ h=>?_
 ·refine Qu ?_
  obtain rfl:=sj h
  exact QN z 62
 refine QJ 124 ?_
 obtain rfl:=sj h
 exact QN z 62
def QhG (b:QA) (c:(List Int)) (a:QL):Option (Bool):=(QeQ a.A c b).bind λd=>(QeQ a.B c b).bind λe=>(some (decide (d<=(i64.wrap (e+a.N)))))
instance QqN:Spc3 prog 78 QhG (λc d a=>[Qq.ty c,tsl rI d,QV.ty a]) tb:=.mk λ{c d a r} h=>by
 unfold QhG at h
 refine Fe func78 ntmps78 λf M g b=>?_
 refine Qa 14 ?_
 refine Qa 36 ?_
 have⟨_,h0,_,e,h⟩:=bs2 h
 refine Qa 8192 ?_ (λ_=>by refine' pr 3 ?_;refine' rx (.p rfl (Qdr QqG (Qk3.ok h0) z2 (.cons (.of z0)<|.nil))) 3 ?_;refine' rx (.p rfl (Qdr QqG (Qk3.ok e) z2 (.cons (.of z0)<|.nil))) 5 ?_;exact rnn)
 exact Qp h (·▸Qn b)
def Qb6 (b:(List Int)) (a:Int):Option ((List Int)):=(if (decide (a<0))=true then none else (QjY (u64.wrap (b.length:Int)) (u64.wrap a)).bind λc=>(if ((decide (c.1>0))||(decide (c.2>9223372036854775807)))=true then none else (mk (i64.wrap c.2) (0:Int)).bind λd=>(Qr (λ(s0:Int×List Int)=>(if (decide (s0.1<(s0.2.length:Int)))=true then (sub s0.2 s0.1 (s0.2.length:Int)).bind λe=>(sub s0.2 0 s0.1).bind λf=>(some (.inl ((i64.wrap (s0.1+(Nat.min f.length e.length:Int))),(s0.2.take (s0.1).toNat++cpy e f++s0.2.drop ((s0.2.length:Int)).toNat)))) else (some (.inr s0.2)))) ((Nat.min b.length d.length:Int),(cpy d b))).bind λg=>(some g)))
instance Qi6:SpcS prog 43 (∀{c a r},Qb6 c a=some r->FnOk prog 43 [tsl rI c,ti a] [] (λv=>[own rI 3 r v]) (λv=>tv v)):=.mk λ{c a r} h=>by
 unfold Qb6 at h
 refine Fe func43 ntmps43 λy M k d=>?_
 refine Qa 12 ?_
 refine tIfs h 28 (λ_ h=>?_) λ_ h=>?_
 ·cases h
 have⟨_,_,h⟩:=bs h
 refine Qa 11264 ?_ (λ_=>by refine' pr 2 ?_;refine' rx (.p rfl (QhU ud3 underlying169 z0)) 1 ?_;refine' rx (.p rfl (QhU ud3 underlying169 z0)) 6 ?_;exact rnn)
 refine tIfs h 832 (λ_ h=>?_) λ_ h=>?_
 ·cases h
 have⟨g,_,h⟩:=bs h
 refine QU [v1 2 (λv0=>own rI 3 g v0)] [3] 152 (λb=>?_) (λ_=>by refine' pr 1 ?_;refine' rx (.p rfl (QhU underlying169 ud3 z0)) 2 ?_;exact rnn)
 refine QU [v0 (own rI 3 (cpy g c) (b 2))] [3] 114 (λz=>?_) (λ_=>by refine' pr 2 ?_;refine' rx (.e [] [0] [1] rfl rfl rfl rfl (QCQ (R:=rI) ud22 rfl tok3 z1 z0)) 1 ?_;exact rnn)
 refine Qf λl m=>?_
 have⟨n,h0,h⟩:=bs h
 have p:∀e,e=n->To M k 48 [(7,tv (b 2))] [own rI 3 e (b 2)] l:=by
  intro e q;subst q;refine m <|Qa 14 ?_;exact Qp h (·▸QaQ (b 2) [0] d)
 refine Qk <|Qaf h0 (λs0=>[(8,ti s0.1)]) 641 (λs0=>[own rI 3 s0.2 (b 2)]) 1 20 ?_;clear h;intro s0 o A h s t;refine Qf λ_ u=>Qa 116 ?_;refine QgJ 1 (λf=>?_) λf=>?_
 ·replace h:=QhV f h;refine Qu <|u <|Qk ?_;have⟨w,i,x,j,h⟩:=bs2 h;refine QaG [v0 (own rI 3 (s0.2.take (s0.1).toNat++cpy w x++s0.2.drop ((s0.2.length:Int)).toNat) (b 2))] [8] 11300 (λB=>?_) (λ_=>by refine' pr 3 ?_;refine' rx (.u [0] rfl rfl (Qxk (R:=rI) ud22 tok3 z1 (.op z0) (.no _) i)) 2 ?_;refine' rx (.u [0] rfl rfl (Qxk (R:=rI) ud22 tok3 z1 (.no _) (.op z0) j)) 0 ?_;refine' rx (.e [] [0] [1] rfl rfl rfl rfl (QvY (R:=rI) (xs:=s0.2) ud22 rfl tok3 z3 z0 i j)) 2 ?_;exact rnn);exact Qx t ((sj h).symm) 40
 replace h:=QhW f h;refine QQ <|Qx p (s _ (sj h).symm) 16

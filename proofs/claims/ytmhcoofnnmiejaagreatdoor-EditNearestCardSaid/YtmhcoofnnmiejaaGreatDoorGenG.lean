/- The walk. No condition. -/
import Derived.Test.YtmhcoofnnmiejaaGreatDoorGenA
import Derived.Test.YtmhcoofnnmiejaaGreatDoorGenB
import Derived.Test.YtmhcoofnnmiejaaGreatDoorGenC
import Derived.Test.YtmhcoofnnmiejaaGreatDoorGenD
set_option linter.all false
open List Go.Proofs.Tryz Go.IntKind
namespace Go.Proofs.YtmhcoofnnmiejaaGreatDoor
noncomputable section
open Go.Sim
set_option maxRecDepth 100000
set_option maxHeartbeats 4000000
def Qes (d:QR) (a:QA):Option (QL×Bool×QR):=(Qfv a.Xb ([108,111,119]:Str)).bind λb=>(Qfv a.Xb ([115,105,122,101]:Str)).bind λg=>(opt ((decide (b>=0))==true) (QS d 3) default).bind λe=>(if ((decide (b>=0))&&(decide (e.1>0)))=true then (sub a.Xj 0 1).bind λh=>(cat (([111,114,100,101,114]:Str).length+h.length)).bind λ_=>(QS (bif ((decide (b>=0))==true) then e.2 else d) 8).bind λi=>(some ((QL.mk (([111,114,100,101,114]:Str)++h) a.Xj ([108,111,119]:Str) ([104,105,103,104]:Str) (i64.wrap (i.1 - 2))),true,i.2)) else (if (decide (g<0))=true then (some (zz3,false,(bif ((decide (b>=0))==true) then e.2 else d))) else (idx a.Xb g).bind λj=>(QS (bif ((decide (b>=0))==true) then e.2 else d) 2).bind λf=>(if (f.1==0)=true then (sub a.Xj 0 1).bind λk=>(cat (([109,111,115,116]:Str).length+k.length)).bind λ_=>(QS f.2 12).bind λl=>(some ((QL.mk (([109,111,115,116]:Str)++k) a.Xj ([115,105,122,101]:Str) ([]:Str) (i64.wrap (j.Lo+l.1))),true,l.2)) else (sub a.Xj 0 1).bind λm=>(cat (([108,101,97,115,116]:Str).length+m.length)).bind λ_=>(QS f.2 12).bind λc=>(some ((QL.mk (([108,101,97,115,116]:Str)++m) a.Xj ([]:Str) ([115,105,122,101]:Str) (i64.wrap (c.1 - j.Hi))),true,c.2)))))
instance Qw7:SpcS prog 29 (∀{a e d r},Qes e d=some r->FnOk prog 29 [tv a,Qq.ty d] [box (QC.cs e) a] (λ_=>[box (QC.cs r.2.2) a]) (λ_=>ttup [QV.ty r.1,tb r.2.1])):=.mk λ{a e d r} h=>by
 unfold Qes at h
 refine Fe func29 ntmps29 λv M w b=>?_
 refine QU [v1 1 (λv0=>box (QV.cs zz3) v0)] [2] 22 λf=>?_
 have⟨n,_,h⟩:=bs h
 refine Qa 240 ?_
 have⟨_,_,h⟩:=bs h
 refine Qa 496 ?_
 refine Qf λ_ o=>?_
 have⟨i,h0,h⟩:=bs h
 refine QU [v0 (box (QC.cs (bif ((decide (n>=0))==true) then i.2 else e)) a)] [5] 7552 (λx=>?_) (λ_=>by refine' pr 4 ?_;refine' rx (.ge (N:=λc _=>[box (QC.cs (bif c then i.2 else e)) a]) [] [0] [2] rfl rfl rfl rfl rfl bq1 (λj=>QO QgI (Qa9.ok (Qfc h0 j)) (.cons (.of (.cond z0 j))<|.cons (.of .k)<|.nil)) rfl) 2 ?_;exact rnn)
 refine Qo h (λ_ h=>?_) λ_ h=>?_
 ·have⟨p,_,_,_,k,_,h⟩:=bs3 h
  refine QU [v0 (box (QC.cs k.2) a),v0 (box (QV.cs (QL.mk (([111,114,100,101,114]:Str)++p) d.Xj ([108,111,119]:Str) ([104,105,103,104]:Str) (i64.wrap (k.1 - 2)))) (f 1))] [8,11] 100352 λy=>?_
  exact Qp h (·▸QaQ undef [0] b)
 refine Qu ?_
 refine o ?_
 refine tIfs h 244 (λ_ h=>?_) λ_ h=>?_
 ·refine QU [v0 (box (QV.cs zz3) (f 1))] [2] 196 λz=>?_
  exact Qp h (·▸QaQ undef [0] b)
 have⟨g,_,h⟩:=bs h
 refine QU [v1 5 (λv0=>box (Qd.cs zz0) v0),v1 5 (λv0=>box (Qd.cs g) v0)] [6,7] 3648 λA=>?_
 refine Q1 (λ_ _ H=>(((H.Xk [2,0,1] rfl).Xl 0 rfl).add 0 rfl (λ_ _ _ h=>h.2)).pick [0,3,4,5]) ?_
 refine Qf λ_ q=>?_
 have⟨s,_,h⟩:=bs h
 refine QU [v0 (box (QC.cs s.2) a)] [2] 248 λB=>?_
 refine Qo h (λ_ h=>?_) λ_ h=>?_
 ·have⟨t,_,_,_,l,_,h⟩:=bs3 h
  refine QU [v0 (box (QC.cs l.2) a),v0 (box (QV.cs (QL.mk (([109,111,115,116]:Str)++t) d.Xj ([115,105,122,101]:Str) ([]:Str) (i64.wrap (g.Lo+l.1)))) (f 1))] [10,13] 401408 λC=>?_
  exact Qp h (·▸QaQ undef [0] b)
 refine Qu ?_
 refine q ?_
 have⟨u,_,_,_,m,_,h⟩:=bs3 h
 refine QU [v0 (box (QC.cs m.2) a),v0 (box (QV.cs (QL.mk (([108,101,97,115,116]:Str)++u) d.Xj ([]:Str) ([115,105,122,101]:Str) (i64.wrap (m.1 - g.Hi)))) (f 1))] [8,13] 401408 λD=>?_
 exact Qp h (·▸QaQ undef [0] b)
def Qig (b:(List QK)) (a:(List Int)):Option (Int×Int):=(Qr (λ(s0:Int×Int×Int)=>(if (decide (s0.1<(b.length:Int)))=true then ((idx b s0.1).bind λc=>(opt ((c.A !=(a.length:Int))==false) (idx b s0.1) default).bind λi=>(if ((c.A !=(a.length:Int))||(decide (i.B>=(a.length:Int))))=true then (some (s0.2.1,s0.2.2)) else (idx b s0.1).bind λd=>(idx b s0.1).bind λj=>((if (decide (j.B>=0))=true then (idx b s0.1).bind λk=>(idx a k.B).bind λl=>(some (i64.wrap (d.Mul * l))) else (some d.Mul))).bind λe=>(idx b s0.1).bind λm=>((if m.Xh=true then (some ((imax s0.2.2 e),s0.2.1)) else (some (s0.2.2,(imin s0.2.1 e))))).bind λf=>(some (f.2,f.1)))).bind λg=>(some (.inl ((i64.wrap (s0.1+1)),g.1,g.2))) else (some (.inr (s0.2.1,s0.2.2))))) ((0:Int),(65536:Int),(0:Int))).bind λh=>(some (h.2,h.1))
instance QrP:Spc2 prog 95 Qig (λd a=>[tsl Qap d,tsl rI a]) (λr=>ttup [ti r.1,ti r.2]):=.mk λ{d a r} h=>by
 unfold Qig at h
 refine Fe func95 ntmps95 λD M p c=>?_
 refine Qa 24 ?_
 refine Qa 56 ?_
 refine Qa 30 ?_
 refine Qa 62 ?_
 refine Qf λq s=>?_
 refine Qa 126 ?_
 have⟨t,h0,h⟩:=bs h
 have u:∀b,b=t->To M p 69 [(8,ti b.1),(7,ti b.2)] [] q:=by
  intro b v;subst v;refine s <|Qa 24 ?_;exact Qp h (·▸Qn c)
 refine Qk <|Qaf h0 (λs0=>[(9,ti s0.1),(8,ti s0.2.1),(7,ti s0.2.2)]) 34101805185 (λs0=>[]) 0 126 ?_;clear h;intro s0 o E h w x;refine Qf λ_ y=>Qa 2032 ?_;refine Qo h (λ_ h=>?_) λ_ h=>?_
 ·refine Qu <|y <|Qf λe z=>?_;have⟨f,g,h⟩:=bs h;refine tJ0 [(8,ti f.1),(7,ti f.2)] 34103902339 [] 0 e ?_ λi=>?_
  ·refine z <|QJ 504 ?_;exact Qx x ((sj h).symm) 126
  replace h:=g;clear g;refine Qk ?_;have⟨_,_,_,_,h⟩:=bs2 h;refine tIfs h 16580608 (λ_ h=>?_) λ_ h=>?_
  ·refine QQ ?_;obtain rfl:=sj h;exact QN i 252
  have⟨_,_,h⟩:=bs h;refine Qa 16192 ?_;refine Qf λA B=>?_;have⟨_,_,h⟩:=bs h;refine Qa 16320 ?_;have⟨C,j,h⟩:=bs h;refine tJ0 [(10,ti C)] 2081281 [] 0 A ?_ λk=>?_
  ·refine B ?_;have⟨_,_,h⟩:=bs h;refine Qa 8160 ?_;have⟨l,m,h⟩:=bs h;refine tJ0 [(7,ti l.1),(8,ti l.2)] 34105999873 [] 0 e ?_ λn=>?_
   ·obtain rfl:=sj h;exact QN i 415018025733
   replace h:=m;clear m;refine Qo h (λ_ h=>?_) λ_ h=>?_
   ·refine QJ 3984 ?_;obtain rfl:=sj h;exact QN n 126
   refine QJ 3984 ?_;obtain rfl:=sj h;exact QN n 415018025479
  replace h:=j;clear j;refine Qo h (λ_ h=>?_) λ_ h=>?_
  ·have⟨_,_,_,_,h⟩:=bs2 h;refine QJ 518144 ?_;obtain rfl:=sj h;exact QN k 254
  refine Qu ?_;obtain rfl:=sj h;exact QN k 508
 refine QQ <|Qx u (w _ (sj h).symm) 24
def QgT (a:(List Int)) (b:(List Int)) (c:(List Int)):Option ((List Int)):=(if ((b.length:Int)==0)=true then (some c) else (if ((c.length:Int)==0)=true then (some b) else (QcT a b).bind λd=>(QcT a c).bind λe=>(if (d !=e)=true then (QcT a b).bind λf=>(QcT a c).bind λg=>(if (decide (f<g))=true then (some b) else (some c)) else (QgS c b).bind λh=>(if h=true then (some c) else (some b)))))
instance QpZ:Spc3 prog 96 QgT (λb c d=>[tsl rI b,tsl rI c,tsl rI d]) (tsl rI):=.mk λ{b c d r} h=>by
 unfold QgT at h
 refine Fe func96 ntmps96 λe M f a=>?_
 refine Qa 28 ?_
 refine tIfs h 120 (λ_ h=>?_) λ_ h=>?_
 ·refine Qa 4 ?_
  exact Qp h (·▸Qn a)
 refine tIfs h 232 (λ_ h=>?_) λ_ h=>?_
 ·refine Qa 4 ?_
  exact Qp h (·▸Qn a)
 have⟨_,_,_,_,h⟩:=bs2 h
 refine tIfs h 3712 (λ_ h=>?_) λ_ h=>?_
 ·have⟨_,_,_,_,h⟩:=bs2 h
  refine tIfs h 3200 (λ_ h=>?_) λ_ h=>?_
  ·refine Qa 4 ?_
   exact Qp h (·▸Qn a)
  refine Qa 4 ?_
  exact Qp h (·▸Qn a)
 have⟨_,_,h⟩:=bs h
 refine tIfs h 200 (λ_ h=>?_) λ_ h=>?_
 ·refine Qa 4 ?_
  exact Qp h (·▸Qn a)
 refine Qa 4 ?_
 exact Qp h (·▸Qn a)
def Qfx (d:(List QK)->(List Bool)->(List Int)->(List Int)->Option ((List Int))) (f:(List QK)) (c:(List Bool)) (b:(List Int)) (a:(List Int)):Option ((List Int)):=(if ((a.length:Int)==(b.length:Int))=true then (rm (([]:List Int).length+a.length)).bind λ_=>(some (([]:List Int)++a)) else (Qig f a).bind λe=>(if (decide (e.1>e.2))=true then (some ([]:List Int)) else (idx c (a.length:Int)).bind λh=>(if (!h)=true then (idx b (a.length:Int)).bind λg=>(rm (([]:List Int).length+a.length)).bind λ_=>(rm ((([]:List Int)++a).length+[(imin (imax g e.1) e.2)].length)).bind λ_=>(d f c b ((([]:List Int)++a)++[(imin (imax g e.1) e.2)])).bind λi=>(some i) else (Qr (λ(s0:Int×(List Int))=>(if (decide (s0.1<=e.2))=true then (rm (([]:List Int).length+a.length)).bind λ_=>(rm ((([]:List Int)++a).length+[s0.1].length)).bind λ_=>(d f c b ((([]:List Int)++a)++[s0.1])).bind λj=>(QgT b s0.2 j).bind λk=>(some (.inl ((i64.wrap (s0.1+1)),k))) else (some (.inr s0.2)))) (e.1,([]:List Int))).bind λl=>(some l))))
def Qee:Nat->(List QK)->(List Bool)->(List Int)->(List Int)->Option ((List Int))
 | 0=>λ_ _ _ _=>none
 | n+1=>Qfx (Qee n)
def Qcp (b:Qav) (a:Int):Option (Int):=(mk (b.used.length:Int) (0:Int)).bind λk=>(sub b.old a (b.old.length:Int)).bind λi=>(Qr (λ(s0:Int×List Int)=>(if (decide (s0.1<(i.length:Int)))=true then (idx i s0.1).bind λh=>((if ((decide (h>=0))&&(decide (h<(s0.2.length:Int))))=true then (idx s0.2 h).bind λl=>(setAt s0.2 h (i64.wrap (l+1))).bind λm=>(some m) else (some s0.2))).bind λn=>(some (.inl ((i64.wrap (s0.1+1)),n))) else (some (.inr s0.2)))) ((0:Int),k)).bind λj=>(Qr (λ(c:Int×Int×Int×Int×Int)=>(if (decide (c.1<(j.length:Int)))=true then (idx j c.1).bind λe=>(idx b.used c.1).bind λf=>(idx b.used c.1).bind λg=>(some (.inl ((i64.wrap (c.1+1)),(i64.wrap (c.2.1+(imax (imax 0 (i64.wrap (b.lo - f))) (imin e (i64.wrap (b.hi - g)))))),(i64.wrap (c.2.2.1+(imin e (imax (imax 0 (i64.wrap (b.lo - f))) (imin e (i64.wrap (b.hi - g))))))),(i64.wrap ((i64.wrap (c.2.2.2.1+(i64.wrap (b.hi - g)))) - (imax (imax 0 (i64.wrap (b.lo - f))) (imin e (i64.wrap (b.hi - g)))))),(i64.wrap ((i64.wrap (c.2.2.2.2+(imax (imax 0 (i64.wrap (b.lo - f))) (imin e (i64.wrap (b.hi - g)))))) - (imax 0 (i64.wrap (b.lo - f)))))))) else (some (.inr (c.2.1,c.2.2.1,c.2.2.2.1,c.2.2.2.2))))) ((0:Int),(0:Int),(0:Int),(0:Int),(0:Int))).bind λd=>(if ((decide ((i64.wrap (d.1 - (i64.wrap ((b.old.length:Int) - a))))>d.2.2.2))||(decide ((i64.wrap ((i64.wrap ((b.old.length:Int) - a)) - d.1))>d.2.2.1)))=true then (some (-1:Int)) else (some (i64.wrap (d.2.1 - (imax 0 (i64.wrap (d.1 - (i64.wrap ((b.old.length:Int) - a)))))))))
instance Qjn:Spc2 prog 34 Qcp (λi a=>[tptr (Qbd.cs i),ti a]) ti:=.mk λ{i a r} h=>by
 unfold Qcp at h
 refine Fe func34 ntmps34 λL M N b=>?_
 refine Qa 12 ?_
 have⟨m,_,h⟩:=bs h
 refine QU [v1 5 (λv0=>own rI 3 m v0)] [6] 960 λd=>?_
 refine Qf λn p=>?_
 have⟨_,_,h⟩:=bs h
 refine Qa 8128 ?_
 have⟨q,h0,h⟩:=bs h
 refine tJp (λ_=>[]) 16262 (λj=>[own rI 3 j (d 5)]) 1 n (·=q) (λj f=>?_) λs=>?_
 ·subst f
  refine p ?_
  refine Qa 1792 ?_
  refine Qa 254 ?_
  refine Qf λt u=>?_
  refine Qa 2046 ?_
  have⟨v,w,h⟩:=bs h
  refine tJp (λc=>[(9,ti c.1),(10,ti c.2.1),(11,ti c.2.2.1),(12,ti c.2.2.2)]) 2418032769 (λ_=>[]) 0 t (·=v) (λc f=>?_) λx=>?_
  ·subst f
   refine u ?_
   refine tIfs h 159744 (λ_ h=>?_) λ_ h=>?_
   ·refine Qa 2 ?_
    exact Qp h (·▸Qn b)
   refine Qa 128 ?_
   exact Qp h (·▸Qn b)
  refine Qk ?_
  refine Qaf w (λs0=>[(59,ti s0.1),(9,ti s0.2.1),(10,ti s0.2.2.1),(11,ti s0.2.2.2.1),(12,ti s0.2.2.2.2)]) 797704516674797954 (λs0=>[]) 2 1534 ?_
  clear h
  intro s0 o O h g y
  refine Qa 2046 ?_
  refine Qf λ_ z=>?_
  refine Qo h (λ_ h=>?_) λ_ h=>?_
  ·refine Qu ?_
   refine z ?_
   refine Qf λ_ A=>?_
   refine Qk ?_
   have⟨_,_,h⟩:=bs h
   refine Qa 65456 ?_
   have⟨_,B,h⟩:=bs h
   replace h:=bk B h
   refine Qa 549420269568 ?_
   refine Qa 524224 ?_
   refine QJ 4168613888 ?_
   refine A ?_
   refine QJ 2044 ?_
   exact Qx y ((sj h).symm) 1306088148899497741
  refine QQ ?_
  refine Qan (λ_ _ H=>(H.pick [4,5,6,7,8]).Xk [] rfl) ?_
  exact Qx x (g _ (sj h).symm) 62
 refine Qk ?_
 refine Qaf h0 (λe=>[(31,ti e.1)]) 34103902594 (λe=>[own rI 3 e.2 (d 5)]) 1 238 ?_
 clear h
 intro e o P h g C
 refine Qa 254 ?_
 refine Qf λ_ D=>?_
 refine Qo h (λ_ h=>?_) λ_ h=>?_
 ·refine Qu ?_
  refine D ?_
  refine Qf λE F=>?_
  refine Qk ?_
  have⟨_,_,h⟩:=bs h
  refine Qa 2024 ?_
  refine Qa 65280 ?_
  have⟨I,k,h⟩:=bs h
  refine tJ0 [] 16260 [own rI 3 I (d 5)] 1 E ?_ λl=>?_
  ·refine F ?_
   refine QJ 252 ?_
   exact Qx C ((sj h).symm) 415018025733
  replace h:=k
  clear k
  refine Qo h (λ_ h=>?_) λ_ h=>?_
  ·have⟨_,_,K,_,h⟩:=bs2 h
   refine QaG [v0 (own rI 3 K (d 5))] [7] 32258 λQ=>?_
   obtain rfl:=sj h
   exact QN l 252
  refine Qu ?_
  obtain rfl:=sj h
  exact QN l 504
 refine QQ ?_
 exact Qx s (g _ (sj h).symm) 224
def QeU (b:Int) (a:Qav) (e:Int) (f:Int) (c:Int):Option (Bool×Qav):=(idx a.used b).bind λi=>(if (decide (i>=a.hi))=true then (some (false,(Qav.mk a.old a.used a.lo a.hi))) else (idx a.used b).bind λj=>(setAt a.used b (i64.wrap (j+1))).bind λd=>(Qcp (Qav.mk a.old d a.lo a.hi) (i64.wrap (e+1))).bind λg=>((if ((decide (g>=0))&&(b==f))=true then (some (i64.wrap (g+1))) else (some g))).bind λh=>((if (h !=c)=true then (idx d b).bind λk=>(setAt d b (i64.wrap (k - 1))).bind λl=>(some l) else (some d))).bind λm=>(some ((h==c),(Qav.mk a.old m a.lo a.hi))))
instance QqJ:SpcS prog 35 (∀{f a i b c d e r},QeU i b c d e=some r->FnOk prog 35 [ti i,tptr (rVal.cs f),tptr (rI.cs c),tptr (rI.cs d),tptr (rI.cs e)] [box ([tsl rI b.old,tvs a,ti b.lo,ti b.hi]) f,own rI 3 b.used a] (λ_=>[box ([tsl rI (r.2).old,tvs a,ti (r.2).lo,ti (r.2).hi]) f,own rI 3 (r.2).used a]) (λ_=>tb r.1)):=.mk λ{f a i b c d e r} h=>by
 unfold QeU at h
 refine Fe func35 ntmps35 λz M A g=>?_
 refine Qa 124 ?_
 refine Qf λ_ p=>?_
 have⟨_,_,h⟩:=bs h
 refine Qa 258064 ?_ (λ_=>by refine' rx (.p rfl (QcN Qie z1)) 6 ?_;refine' rx (.p rfl (QcN Qie z8)) 4 ?_;exact rnn)
 refine QgJ 1 (λj=>?_) λj=>?_
 ·replace h:=QhV j h
  refine Qa 38 ?_
  exact Qp h (·▸QaQ undef [0,1] g)
 replace h:=QhW j h
 refine Qu ?_
 refine p ?_
 have⟨_,_,k,_,h⟩:=bs2 h
 refine QU [v0 (own rI 3 k a)] [10] 128016 (λB=>?_) (λ_=>by refine' rx (.p rfl (QcN Qie z3)) 9 ?_;exact rnn)
 have⟨_,h0,h⟩:=bs h
 refine Qa 7136 ?_ (λ_=>by refine' rx (.p rfl (QcN Qie z3)) 2 ?_;refine' rx (.u [0,1] rfl rfl (Qb2 [box ([tsl rI b.old,tvs a,ti b.lo,ti b.hi]) f,own rI 3 k a] QsV (Qjn.ok h0) (.cons (.boxP 1 z2 (.head _) (.tail _ (.head _)) rfl)<|.cons (.of z0)<|.nil) (λ_=>Qa8) (λ_=>Qib (x:=undef)))) 1 ?_;exact rnn)
 refine Qf λq s=>?_
 refine Qa 24448 ?_
 have⟨t,l,h⟩:=bs h
 refine tJ0 [(7,ti t)] 2081537 [] 127 q ?_ λm=>?_
 ·refine s ?_
  refine Qf λu v=>?_
  refine Qa 248 ?_
  have⟨w,n,h⟩:=bs h
  refine tJ0 [] 98947 [own rI 3 w a] 130 u ?_ λo=>?_
  ·refine v ?_
   refine Qa 80 ?_
   exact Qp h (·▸QaQ undef [0,1] g)
  replace h:=n
  clear n
  refine Qo h (λ_ h=>?_) λ_ h=>?_
  ·have⟨_,_,y,_,h⟩:=bs2 h
   refine QaG [v0 (own rI 3 y a)] [10] 26640 (λC=>?_) (λ_=>by refine' rx (.p rfl (QcN Qie z3)) 9 ?_;exact rnn)
   obtain rfl:=sj h
   exact QN o 28
  refine Qu ?_
  obtain rfl:=sj h
  exact QN o 52
 replace h:=l
 clear l
 refine Qo h (λ_ h=>?_) λ_ h=>?_
 ·refine QJ 1000 ?_
  obtain rfl:=sj h
  exact QN m 114
 refine Qu ?_
 obtain rfl:=sj h
 exact QN m 228
def QfI (a:Int) (b:(List Qi)):Option (Int):=(if ((decide (a>64))||(decide ((b.length:Int)>256)))=true then (some (4:Int)) else (opt ((decide (a<0))==false) (Qbo b (λx0=>Qel x0 (λx0=>QcI x0 a))) default).bind λc=>(if ((decide (a<0))||c)=true then (some (1:Int)) else (some (0:Int))))
instance QFR:Spc2 prog 68 QfI (λc d=>[ti c,tsl QE d]) ti:=.mk λ{c d r} h=>by
 unfold QfI at h
 refine Fe func68 ntmps68 λe M f b=>?_
 refine Qa 18 ?_
 refine tIfs h 896 (λ_ h=>?_) λ_ h=>?_
 ·refine Qa 2 ?_
  exact Qp h (·▸Qn b)
 refine QU [v1 1 (λv0=>box [tvs .nilFunc] v0),v1 1 (λv0=>box (QhY.cs (λx0=>QcI x0 c)) v0)] [2,3] 52 (λg=>?_) (λ_=>by refine' pr 1 ?_;refine' rx (.m [] [0] rfl rfl rfl (QaL (R:=rVal) (a:=.nilFunc) Qs5 zokPf)) 1 ?_;exact rnn)
 refine Q1 (λ_ _ H=>((H.Xl 0 rfl).add 0 rfl (λ_ _ _ h=>h.2)).pick [0,3,4]) ?_
 refine Qa 52 ?_
 have⟨_,_,h⟩:=bs h
 refine tIfs h 128 (λ_ h=>?_) λ_ h=>?_
 ·refine Qa 2 ?_
  exact Qp h (·▸Qn b)
 refine Qa 2 ?_
 exact Qp h (·▸Qn b)
def Qf2 (a:Qm):Option (Bool):=(QaI a.Xj).bind λb=>(opt (b==true) (QbJ (a.Xe.length:Int) 1 12) default).bind λc=>(opt ((b&&c)==true) (Qdh a.Xe (λx0=>QaI x0)) default).bind λd=>(opt ((((b&&c)&&d)&&(decide ((a.Xg.length:Int)<=32)))==true) (Qd6 a.Xg (λx0=>QeY x0 (a.Xe.length:Int))) default).bind λe=>(some ((((b&&c)&&d)&&(decide ((a.Xg.length:Int)<=32)))&&e))
instance QBh:Spc1 prog 166 Qf2 (λa=>[Qs.ty a]) tb:=.mk λ{a r} h=>by
 unfold Qf2 at h
 refine Fe func166 ntmps166 λc M d b=>?_
 refine Qa 2 ?_
 refine QU [v1 3 (λv0=>box (rI.cs (0:Int)) v0),v1 3 (λv0=>box (rI.cs (a.Xe.length:Int)) v0)] [4,5] 48 λe=>?_
 refine Q1 (λ_ _ H=>((H.Xl 0 rfl).add 0 rfl (λ_ _ _ h=>h.2)).pick [0,3]) ?_
 have⟨_,_,_,_,_,_,_,_,h⟩:=bs4 h
 refine Qa 33554432 ?_
 exact Qp h (·▸Qn b)
def QhD (b:Qc) (e:Int):Option (Int):=(idx b.Xc e).bind λa=>(sub b.Xc 0 e).bind λi=>(QbN i (λx0=>Qh4 x0 a)).bind λj=>(QcE b a.Xi).bind λc=>(Qr (λ(s0:Int×Bool×Bool)=>(if (decide (s0.1<([a.A,a.B].length:Int)))=true then ((idx [a.A,a.B] s0.1).bind λf=>(if ((f==([]:Str))||(decide (c<0)))=true then (some (s0.2.1,s0.2.2)) else (idx b.Xa c).bind λk=>(Qa4 k f).bind λl=>(Qdw b c l).bind λd=>(some ((s0.2.1||(!d.2)),(s0.2.2||(((d.1).Xi !=2)&&((d.1).Xi !=4))))))).bind λg=>(some (.inl ((i64.wrap (s0.1+1)),g.1,g.2))) else (some (.inr (s0.2.1,s0.2.2))))) ((0:Int),(decide (c<0)),false)).bind λh=>(QaS [(Qaq.mk j 7),(Qaq.mk h.1 12),(Qaq.mk h.2 13),(Qaq.mk (a.A==a.B) 1)]).bind λm=>(some m)
instance QqM:Spc2 prog 140 QhD (λc d=>[Qb.ty c,ti d]) ti:=.mk λ{c d r} h=>by
 unfold QhD at h
 refine Fe func140 ntmps140 λw M x a=>?_
 refine Qa 18 ?_
 have⟨i,_,h⟩:=bs h
 refine QU [v1 5 (λv0=>box (QV.cs zz3) v0),v1 5 (λv0=>box (QV.cs i) v0)] [6,7] 448 λy=>?_
 refine Q1 (λ_ _ H=>((H.Xl 0 rfl).add 0 rfl (λ_ _ _ h=>h.2)).pick [0,3,4]) ?_
 have⟨_,_,_,_,h⟩:=bs2 h
 refine Qa 896 ?_
 have⟨_,_,h⟩:=bs h
 refine Qa 480 ?_
 refine Qa 504 ?_
 refine Qf λj k=>?_
 refine Qa 16352 ?_
 have⟨l,h0,h⟩:=bs h
 refine tJp (λb=>[(8,tb b.1),(9,tb b.2)]) 19005569 (λ_=>[]) 0 j (·=l) (λb m=>?_) λn=>?_
 ·subst m
  refine k ?_
  have⟨_,_,h⟩:=bs h
  refine Qa 32768 ?_
  exact Qp h (·▸Qn a)
 refine Qk ?_
 refine Qaf h0 (λs0=>[(37,ti s0.1),(8,tb s0.2.1),(9,tb s0.2.2)]) 558792695628162 (λs0=>[]) 0 1022 ?_
 clear h
 intro s0 o z h p q
 refine Qa 2046 ?_
 refine Qf λ_ s=>?_
 refine Qo h (λ_ h=>?_) λ_ h=>?_
 ·refine Qu ?_
  refine s ?_
  refine Qf λt u=>?_
  have⟨e,f,h⟩:=bs h
  refine tJ0 [(8,tb e.1),(9,tb e.2)] 558827055432195 [] 0 t ?_ λg=>?_
  ·refine u ?_
   refine QJ 2044 ?_
   exact Qx q ((sj h).symm) 1306105879606625029
  replace h:=f
  clear f
  refine Qk ?_
  have⟨_,_,h⟩:=bs h
  refine Qa 16360 ?_
  refine tIfs h 131008 (λ_ h=>?_) λ_ h=>?_
  ·refine QQ ?_
   obtain rfl:=sj h
   exact QN g 4088
  have⟨_,_,_,_,v,_,h⟩:=bs3 h
  refine QU [v1 13 (λv0=>box (Qd.cs zz0) v0),v1 13 (λv0=>box (Qd.cs v.1) v0)] [14,15] 134004736 λA=>?_
  refine Q1 (λ_ _ H=>((H.Xl 0 rfl).add 0 rfl (λ_ _ _ h=>h.2)).pick [0,3,4,5,6,7,8,9,10,11,12]) ?_
  refine Qa 130752 ?_
  refine QJ 4173824 ?_
  obtain rfl:=sj h
  exact QN g 1306105877450884103
 refine QQ ?_
 exact Qx n (p _ (sj h).symm) 864
def QhI (c:Qc) (b:Int):Option ((List QH)):=(idx c.Xa b).bind λe=>(Qen e).bind λf=>(Qr (λ(s0:Int×List QH)=>(if (decide (s0.1<(f.length:Int)))=true then (idx f s0.1).bind λr=>(idx e.Xb r).bind λd=>((if ((d.Xi==4)&&(d.Of !=([]:Str)))=true then (Qbi e d.Of).bind λs=>(Qea f s).bind λt=>(some t) else (some (-1:Int)))).bind λg=>(rm (s0.2.length+[(QH.mk s0.1 g d.Hi),(QH.mk g s0.1 (i64.wrap (0 - d.Lo)))].length)).bind λ_=>(some (.inl ((i64.wrap (s0.1+1)),(s0.2++[(QH.mk s0.1 g d.Hi),(QH.mk g s0.1 (i64.wrap (0 - d.Lo)))])))) else (some (.inr s0.2)))) ((0:Int),([]:List QH))).bind λu=>(Qr (λ(a:Int×List QH)=>(if (decide (a.1<(c.Xc.length:Int)))=true then ((idx c.Xc a.1).bind λv=>(QcH c v.Xi).bind λw=>(if (w !=b)=true then (some a.2) else (idx c.Xc a.1).bind λp=>(idx c.Xc a.1).bind λx=>((if (x.A !=([]:Str))=true then (idx c.Xc a.1).bind λh=>(Qbi e h.A).bind λi=>(Qea f i).bind λj=>(some (QH.mk j (-1) p.N)) else (some (QH.mk (-1) (-1) p.N)))).bind λk=>(idx c.Xc a.1).bind λl=>((if (l.B !=([]:Str))=true then (idx c.Xc a.1).bind λm=>(Qbi e m.B).bind λn=>(Qea f n).bind λo=>(some (QH.mk k.A o k.N)) else (some k))).bind λq=>(rm (a.2.length+[q].length)).bind λ_=>(some (a.2++[q])))).bind λy=>(some (.inl ((i64.wrap (a.1+1)),y))) else (some (.inr a.2)))) ((0:Int),u)).bind λz=>(some z)
instance QFb:Spc2 prog 24 QhI (λt a=>[Qb.ty t,ti a]) (tsl Qah):=.mk λ{t a r} h=>by
 unfold QhI at h
 refine Fe func24 ntmps24 λM0 M F i=>?_
 refine Qa 18 ?_
 have⟨I,_,h⟩:=bs h
 refine QU [v1 5 (λv0=>box (Qq.cs zz1) v0),v1 5 (λv0=>box (Qq.cs I) v0)] [6,7] 448 λm0=>?_
 refine Q1 (λ_ _ H=>((H.Xl 0 rfl).add 0 rfl (λ_ _ _ h=>h.2)).pick [0,3,4]) ?_
 have⟨_,_,h⟩:=bs h
 refine Qa 120 ?_
 refine Qa 62 ?_
 refine Q1 (λ_ _ H=>H.nil (Qah) 73) ?_
 refine Qf λK L=>?_
 refine Qa 126 ?_
 have⟨N,h0,h⟩:=bs h
 refine tJq (λ_ d=>[(7,tv d)]) 2081281 (λu d=>[own Qah 73 u d]) 1 K (·=N) (λu d j=>?_) λO=>?_
 ·subst j
  refine L ?_
  refine Qf λP Q=>?_
  refine Qa 126 ?_
  have⟨R,S,h⟩:=bs h
  have T:∀k l,k=R->To M F 127 [(7,tv l)] [own Qah 73 k l] P:=by
   intro k l j;subst j;refine Q <|Qa 14 ?_;refine QaA ?_;refine Qan (by intro _ _ H;exact (H.Xn 1 rfl).pick [0]) ?_;obtain rfl:=sj h;exact Qn i
  refine Qk <|QaU S (λs0 c=>[(11,ti s0.1),(7,tv c)]) 266403969 (λs0 c=>[own Qah 73 s0.2 c]) 1 d 126 ?_;clear h;intro s0 c o K2 h m U;refine Qf λ_ V=>Qa 4064 ?_;refine Qo h (λ_ h=>?_) λ_ h=>?_
  ·refine Qu <|V <|Qf λW X=>?_;have⟨Y,v,h⟩:=bs h;refine tJ1 (λe=>[(7,tv e)]) 266420355 (λe=>[own Qah 73 Y e]) 1 W (λe=>?_) λw=>?_
   ·refine X <|QJ 504 ?_;exact Q7 U e ((sj h).symm) 126
   replace h:=v;clear v;refine Qk ?_;have⟨_,_,_,_,h⟩:=bs2 h;refine tIfs h 259072 (λ_ h=>?_) λ_ h=>?_
   ·refine QQ ?_;obtain rfl:=sj h;exact QN (w c) 252
   have⟨x,_,h⟩:=bs h;refine QU [v1 7 (λv0=>box (Qah.cs (QH.mk (0:Int) (0:Int) (0:Int))) v0),v1 7 (λv0=>box (Qah.cs (QH.mk (-1:Int) (-1:Int) x.N)) v0)] [8,9] 64768 λg=>?_;refine Qf λZ k5=>?_;have⟨_,_,h⟩:=bs h;refine Qa 32640 ?_;have⟨n,y,h⟩:=bs h;refine tJ0 [] 16259 [box (Qah.cs n) (g 7)] 130 Z ?_ λz=>?_
   ·refine k5 <|Qf λK5 k6=>?_;have⟨_,_,h⟩:=bs h;refine Qa 32640 ?_;have⟨A,B,h⟩:=bs h;refine tJ0 [] 16259 [box (Qah.cs A) (g 7)] 130 K5 ?_ λC=>?_
    ·refine k6 ?_;have⟨_,_,h⟩:=bs h;refine QaG [v1 3 (λv0=>own Qah 73 (s0.2++[A]) v0)] [4] 4016 λm2=>?_;refine Qan (λ_ _ H=>H.Xk [1] rfl) ?_;obtain rfl:=sj h;exact QN (w (m2 3)) 484278665735
    replace h:=B;clear B;refine Qo h (λ_ h=>?_) λ_ h=>?_
    ·have⟨_,_,_,_,t2,_,h⟩:=bs3 h;refine QaG [v0 (box (Qah.cs (QH.mk n.A t2 n.N)) (g 7))] [12] 1040384 λm3=>?_;obtain rfl:=sj h;exact QN C 254
    refine Qu ?_;obtain rfl:=sj h;exact QN C 508
   replace h:=y;clear y;refine Qo h (λ_ h=>?_) λ_ h=>?_
   ·have⟨_,_,_,_,t3,_,h⟩:=bs3 h;refine QaG [v0 (box (Qah.cs (QH.mk t3 (-1:Int) x.N)) (g 7))] [12] 1040384 λm4=>?_;obtain rfl:=sj h;exact QN z 254
   refine Qu ?_;obtain rfl:=sj h;exact QN z 508
  refine QQ <|Q7 T c (m _ (sj h).symm) 8
 refine Qk <|QaU h0 (λb f=>[(8,ti b.1),(7,tv f)]) 266403969 (λb f=>[own Qah 73 b.2 f]) 1 (.slice none 0 0) 126 ?_;clear h;intro b f o K6 h m k7;refine Qf λ_ k8=>Qa 2032 ?_;refine Qo h (λ_ h=>?_) λ_ h=>?_
 ·refine Qu <|k8 <|Qf λ_ k9=>Qk ?_;have⟨_,_,p,_,h⟩:=bs2 h;refine QU [v1 8 (λv0=>box (Qd.cs zz0) v0),v1 8 (λv0=>box (Qd.cs p) v0)] [9,10] 129536 λm5=>?_;refine Q1 (λ_ _ H=>(((H.Xk [1,0] rfl).Xl 0 rfl).add 0 rfl (λ_ _ _ h=>h.2)).pick [0,3,4,5,6,7,8]) ?_;refine Qa 510 ?_;refine Qf λK7 q=>Qa 130816 ?_;have⟨s,D,h⟩:=bs h;refine tJ0 [(10,ti s)] 2081281 [] 2 K7 ?_ λE=>?_
  ·refine q ?_;have⟨_,_,h⟩:=bs h;refine QaG [v1 13 (λv0=>own Qah 73 (b.2++[(QH.mk b.1 s p.Hi),(QH.mk s b.1 (i64.wrap (0 - p.Lo)))]) v0)] [14] 8175616 λm6=>?_;refine k9 <|QJ 1016 ?_;exact Q7 k7 (m6 13) ((sj h).symm) 250
  replace h:=D;clear D;refine Qo h (λ_ h=>?_) λ_ h=>?_
  ·have⟨_,_,_,_,h⟩:=bs2 h;refine QJ 65152 ?_;obtain rfl:=sj h;exact QN E 510
  refine Qu ?_;obtain rfl:=sj h;exact QN E 1020
 refine QQ <|Q7 O f (m _ (sj h).symm) 248

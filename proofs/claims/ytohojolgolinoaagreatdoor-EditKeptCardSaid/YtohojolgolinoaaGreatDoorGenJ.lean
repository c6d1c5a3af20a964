/- The walk. No condition. -/
import Derived.Test.YtohojolgolinoaaGreatDoorGenF
set_option linter.all false
open List Go.Proofs.Tryz Go.IntKind
namespace Go.Proofs.YtohojolgolinoaaGreatDoor
noncomputable section
open Go.Sim
set_option maxRecDepth 100000
set_option maxHeartbeats 4000000
def M4 (e:Qc):Option Str:=(C5 ([115,99,104,101,109,97]:Str) e.Version).bind λs=>(Qr (λ(s0:Int×Str)=>if decide (s0.1<(e.Xa.length:Int)) then (idx e.Xa s0.1).bind λi=>(cat (s0.2.length+([10,107,105,110,100,32]:Str).length)).bind λ_=>(cat ((s0.2++([10,107,105,110,100,32]:Str)).length+i.Xj.length)).bind λ_=>(C5 ((s0.2++([10,107,105,110,100,32]:Str))++i.Xj) i.Lo).bind λt=>(C5 t i.Hi).bind λu=>(Qr (λ(j:Int×Str)=>if decide (j.1<(i.Xb.length:Int)) then (idx i.Xb j.1).bind λv=>(Bi v).bind λp=>(cat (j.2.length+p.length)).bind λ_=>some (.inl (i64.wrap (j.1+1),j.2++p)) else some (.inr j.2)) (0,u)).bind λw=>some (.inl (i64.wrap (s0.1+1),w)) else some (.inr s0.2)) (0,s)).bind λx=>(Qr (λ(f:Int×Str)=>if decide (f.1<(e.Xd.length:Int)) then (idx e.Xd f.1).bind λd=>(cat (f.2.length+([10,108,105,102,101,32]:Str).length)).bind λ_=>(cat ((f.2++([10,108,105,102,101,32]:Str)).length+d.Xj.length)).bind λ_=>(C5 ((f.2++([10,108,105,102,101,32]:Str))++d.Xj) (d.Xe.length:Int)).bind λy=>(Qr (λ(g:Int×Str)=>if decide (g.1<(d.Xe.length:Int)) then (cat (g.2.length+([32]:Str).length)).bind λ_=>(idx d.Xe g.1).bind λq=>(cat ((g.2++([32]:Str)).length+q.length)).bind λ_=>some (.inl (i64.wrap (g.1+1),(g.2++([32]:Str))++q)) else some (.inr g.2)) (0,y)).bind λz=>(Qr (λ(h:Int×Str)=>if decide (h.1<(d.Xg.length:Int)) then (cat (h.2.length+([10,109,111,118,101]:Str).length)).bind λ_=>(idx d.Xg h.1).bind λA=>(C5 (h.2++([10,109,111,118,101]:Str)) A.a0).bind λl=>(idx d.Xg h.1).bind λm=>(C5 l m.a1).bind λn=>some (.inl (i64.wrap (h.1+1),n)) else some (.inr h.2)) (0,z)).bind λB=>some (.inl (i64.wrap (f.1+1),B)) else some (.inr f.2)) (0,x)).bind λC=>(Qr (λ(b:Int×Str)=>if decide (b.1<(e.Xc.length:Int)) then (idx e.Xc b.1).bind λa=>(cat (b.2.length+([10,114,117,108,101,32]:Str).length)).bind λ_=>(cat ((b.2++([10,114,117,108,101,32]:Str)).length+a.Xj.length)).bind λ_=>(cat (((b.2++([10,114,117,108,101,32]:Str))++a.Xj).length+([32]:Str).length)).bind λ_=>(cat ((((b.2++([10,114,117,108,101,32]:Str))++a.Xj)++([32]:Str)).length+a.Xi.length)).bind λ_=>(cat (((((b.2++([10,114,117,108,101,32]:Str))++a.Xj)++([32]:Str))++a.Xi).length+([32]:Str).length)).bind λ_=>(Hu a.A).bind λc=>(cat ((((((b.2++([10,114,117,108,101,32]:Str))++a.Xj)++([32]:Str))++a.Xi)++([32]:Str)).length+c.length)).bind λ_=>(cat (((((((b.2++([10,114,117,108,101,32]:Str))++a.Xj)++([32]:Str))++a.Xi)++([32]:Str))++c).length+([32]:Str).length)).bind λ_=>(Hu a.B).bind λk=>(cat ((((((((b.2++([10,114,117,108,101,32]:Str))++a.Xj)++([32]:Str))++a.Xi)++([32]:Str))++c)++([32]:Str)).length+k.length)).bind λ_=>(C5 ((((((((b.2++([10,114,117,108,101,32]:Str))++a.Xj)++([32]:Str))++a.Xi)++([32]:Str))++c)++([32]:Str))++k) a.N).bind λo=>some (.inl (i64.wrap (b.1+1),o)) else some (.inr b.2)) (0,C)).bind λr=>(cat (r.length+([10]:Str).length)).bind λ_=>some (r++([10]:Str))
instance vF:Spc1 prog 191 M4 (λz=>[Qb.ty z]) (λr=>tv (.string (sB r))):=.mk λ{z r} h=>by
 refine Fe func191 ntmps191 λM0 M F i=>?_
 apply Qa 2
 have⟨_,_,H,h0,h⟩:=bs2 h
 apply Qa 48
 refine Qf λI K=>?_
 apply Qa 14
 refine tJp (λA=>[(3,tv (.string (sB A)))]) 513 (λ_=>[]) 0 I (·=H) (λA a=>?_) λL=>?_
 ·subst a
  apply K
  refine Qf λN O=>?_
  apply Qa 14
  have⟨P,Q,h⟩:=bs h
  refine tJp (λB=>[(3,tv (.string (sB B)))]) 513 (λ_=>[]) 0 N (·=P) (λB a=>?_) λR=>?_
  ·subst a
   apply O
   refine Qf λS T=>?_
   apply Qa 14
   have⟨U,V,h⟩:=bs h
   have W:∀j,j=U->To M F 149 [(3,tv (.string (sB j)))] [] S:=by
    intro j a;subst a;apply T;have⟨_,_,h⟩:=bs h;apply Qa 8;exact tRE h i
   refine Qk <|AC V (λs0=>[(11,ti s0.1),(3,tv (.string (sB s0.2)))]) 65665 (λs0=>[]) 0 14 ?_;intro s0 o K3 h b X;refine Qf λ_ Y=>Qa 480 ?_;apply Qo h<;>intro _ h
   ·refine Qu <|Y <|Qf λ_ Z=>Qk ?_;have⟨t0,_,_,_,_,_,_,_,h⟩:=bs4 h;refine QU [vb 5 (QV.cs zz3),vb 5 (QV.cs t0)] [6,7] 1856 λm0=>?_;apply tFz 0;have⟨_,_,_,_,_,_,_,_,h⟩:=bs4 h;have⟨_,_,_,_,_,_,_,_,h⟩:=bs4 h;apply QJ 109051904;refine Z <|QJ 56 ?_;exact Qx X (sy h) 14
   refine QQ <|Qx W (b _ (sy h)) 8
  refine Qk <|AC Q (λc=>[(7,ti c.1),(3,tv (.string (sB c.2)))]) 65665 (λc=>[]) 0 14 ?_;intro c o K4 h b k6;refine Qf λ_ k7=>Qa 480 ?_;apply Qo h<;>intro _ h
  ·refine Qu <|k7 <|Qf λK5 k8=>Qk ?_;have⟨t1,_,_,_,_,_,_,_,h⟩:=bs4 h;refine QU [vb 5 (Qs.cs zz2),vb 5 (Qs.cs t1)] [6,7] 1856 λm1=>?_;apply tFz 0;apply Qa 15360;refine Qf λK6 k9=>Qa 62 ?_;have⟨e6,h3,h⟩:=bs h;refine tJp (λC=>[(3,tv (.string (sB C)))]) 2081281 (λ_=>[]) 0 K6 (·=e6) (λC a=>?_) λJ3=>?_
   ·subst a;refine k9 <|Qa 62 ?_;have⟨e7,h4,h⟩:=bs h;refine tJp (λD=>[(3,tv (.string (sB D)))]) 98945 (λ_=>[]) 0 K5 (·=e7) (λD a=>?_) λJ4=>?_
    ·subst a;refine k8 <|QJ 56 ?_;exact Qx k6 (sy h) 14
    refine Qk <|AC h4 (λd=>[(10,ti d.1),(3,tv (.string (sB d.2)))]) 266403969 (λd=>[]) 0 62 ?_;intro d o K7 h b k;refine Qf λ_ l=>Qa 2016 ?_;apply Qo h<;>intro _ h
    ·refine Qu <|l <|Qf λ_ m=>Qk ?_;have⟨_,_,_,h5,_,_,h⟩:=bs3 h;replace h:=bk h5 h;have⟨_,_,h⟩:=bs h;apply QJ 7995392;refine m <|QJ 248 ?_;exact Qx k (sy h) 62
    refine QQ <|Qx J4 (b _ (sy h)) 104
   refine Qk <|AC h3 (λe=>[(9,ti e.1),(3,tv (.string (sB e.2)))]) 266403969 (λe=>[]) 0 62 ?_;intro e o K8 h b n;refine Qf λ_ p=>Qa 2016 ?_;apply Qo h<;>intro _ h
   ·refine Qu <|p <|Qf λ_ q=>Qk ?_;have⟨_,_,_,_,_,_,h⟩:=bs3 h;apply QJ 31232;refine q <|QJ 248 ?_;exact Qx n (sy h) 62
   refine QQ <|Qx J3 (b _ (sy h)) 120
  refine QQ <|Qx R (b _ (sy h)) 24
 refine Qk <|AC h0 (λf=>[(4,ti f.1),(3,tv (.string (sB f.2)))]) 65665 (λf=>[]) 0 14 ?_;intro f o K9 h b s;refine Qf λ_ t=>Qa 480 ?_;apply Qo h<;>intro _ h
 ·refine Qu <|t <|Qf λu v=>Qk ?_;have⟨t2,_,_,_,_,_,_,_,h⟩:=bs4 h;refine QU [vb 5 (Qq.cs zz1),vb 5 (Qq.cs t2)] [6,7] 1856 λm2=>?_;apply tFz 0;have⟨_,_,e8,h6,h⟩:=bs2 h;apply Qa 61440;apply Qa 62;refine tJp (λE=>[(3,tv (.string (sB E)))]) 98945 (λ_=>[]) 0 u (·=e8) (λE a=>?_) λJ5=>?_
  ·subst a;refine v <|QJ 56 ?_;exact Qx s (sy h) 14
  refine Qk <|AC h6 (λg=>[(6,ti g.1),(3,tv (.string (sB g.2)))]) 266403969 (λg=>[]) 0 62 ?_;intro g o a0 h b w;refine Qf λ_ x=>Qa 2016 ?_;apply Qo h<;>intro _ h
  ·refine Qu <|x <|Qf λ_ y=>Qk ?_;have⟨_,_,_,_,_,_,h⟩:=bs3 h;apply QJ 31232;refine y <|QJ 248 ?_;exact Qx w (sy h) 62
  refine QQ <|Qx J5 (b _ (sy h)) 104
 refine QQ <|Qx L (b _ (sy h)) 24
def Kg (c:Q2) (b:Int):Option Q2:=(idx (c.x).Xa b).bind λy=>(idx y.Xb 0).bind λr=>(idx c.w b).bind λz=>(mk (z.length:Int) false).bind λA=>(GD (Q2.mk c.x c.old c.w) b 0).bind λs=>(Qr (λ(s0:Int×List (List Lz)×Mp Bool×List Bool)=>if decide (s0.1<(s.length:Int)) then (idx s s0.1).bind λm=>(setAt s0.2.2.2 s0.1 ((decide (m>=r.Lo))&&(!((AY s0.2.2.1 m).getD false)))).bind λt=>(idx t s0.1).bind λB=>(if B then (idx s0.2.1 b).bind λu=>(idx u s0.1).bind λv=>(idx v 0).bind λI=>(setAt v 0 m).bind λd=>(setAt u s0.1 d).bind λe=>(setAt s0.2.1 b e).bind λf=>(mput s0.2.2.1 m true).bind λg=>some (f,g) else some (s0.2.1,s0.2.2.1)).bind λw=>some (.inl (i64.wrap (s0.1+1),w.1,w.2,t)) else some (.inr (s0.2.1,s0.2.2.1,s0.2.2.2))) (0,c.w,(some []:Mp Bool),A)).bind λn=>(idx n.1 b).bind λC=>(Qr (λ(a:Int×Int×List (List Lz)×Mp Bool)=>if decide (a.1<(C.length:Int)) then ((idx a.2.2.1 b).bind λD=>(idx D a.1).bind λK=>(idx n.2.2 a.1).bind λE=>if E then some (a.2.1,a.2.2.1,a.2.2.2) else (Qr (λ(o:Int)=>if (AY a.2.2.2 o).getD false then some (.inl (i64.wrap (o+1))) else some (.inr o)) a.2.1).bind λp=>(idx a.2.2.1 b).bind λx=>(idx x a.1).bind λh=>(idx h 0).bind λF=>(setAt h 0 p).bind λi=>(setAt x a.1 i).bind λj=>(setAt a.2.2.1 b j).bind λk=>(mput a.2.2.2 p true).bind λl=>some (p,k,l)).bind λq=>some (.inl (i64.wrap (a.1+1),q.1,q.2.1,q.2.2)) else some (.inr a.2.2.1)) (0,r.Lo,n.1,n.2.1)).bind λH=>some (Q2.mk c.x c.old H)
instance f9:SpcS prog 25 (∀{e a c B r},Kg c B=some r->FnOk prog 25 [tv e,ti B] [bxM c.x c.old (dh a) e,deep (dRow (dOwn rI 3) 22) 51 c.w a] (λ_=>[bxM r.x r.old (dh a) e,deep (dRow (dOwn rI 3) 22) 51 r.w a]) (λ_=>ttup [])):=.mk λ{e a c B r} h=>by
 refine Fe func25 ntmps25 λM0 M w0 C=>?_
 have⟨_,_,_,_,h⟩:=bs2 h
 refine Qa 57344 ?_ (λ_=>by refine' pr 3 ?_;refine' rx (.u [0] rfl rfl (FC Er z0)) 9 ?_;exact rnn)
 refine QU [v1 0 (λv0=>omap AE (some []:Mp Bool) v0)] [1] 62 (λf=>?_) (λ_=>by refine' rx (.m [] [2] rfl rfl rfl (Mr AE)) 1 ?_;exact rnn)
 refine Qf λ_ k0=>?_
 have⟨r2,h0,t0,_,h⟩:=bs2 h
 refine AB [vo 8 AE 4 t0] [9] 65040 (λD=>?_) (λ_=>by refine' pr 5 ?_;refine' rx (.u [1] rfl rfl (Ay ud29 BZ z1 z0 h0)) 0 ?_;refine' rx (.u [1] rfl rfl (A9 Bb z0 h0)) 0 ?_;refine' rx (.u [1] rfl rfl (.part (Q9 h0 .refl) (Ee ud51 z0))) 2 ?_;exact rnn)
 apply k0
 refine Qf λK0 k1=>?_
 have⟨t1,h1,e3,h2,h⟩:=bs2 h
 refine QU [vo 2 rI 3 t1] [3] 16376 (λm2=>?_) (λ_=>by refine' pr 2 ?_;refine' rx (.m [0,1] [4] rfl rfl rfl (CY [bxM c.x c.old (dh a) e,deep (dRow (dOwn rI 3) 22) 51 c.w a] cal (UE.ok h1) (.cons (.boxPD 5 z1 (.head _) (.tail _ (.head _)) rfl)<|.cons (.of z0)<|.cons (.of .k)<|.nil) (λ_=>Ah) (λ_=>Hq (JV (by intro x T h;simp at h;(first | (subst h;exact Ah) | (rcases h with h | h | h<;>subst h<;>exact Ah))))))) 2 ?_;exact rnn)
 refine tJp (λ_=>[]) 2081927 (λA=>[deep (dRow (dOwn rI 3) 22) 51 A.1 a,omap AE A.2.1 (f 0),own AE 4 A.2.2 (D 8)]) 2113666 K0 (·=e3) (λA s=>?_) λJ0=>?_
 ·subst s
  apply k1
  apply Qa 220
  refine Qf λ_ k2=>?_
  have⟨r3,E,h⟩:=bs h
  refine QJ 16272 ?_ (λ_=>by refine' pr 5 ?_;refine' rx (.u [1] rfl rfl (Ay ud29 BZ z1 z0 E)) 0 ?_;refine' rx (.u [1] rfl rfl (A9 Bb z0 E)) 0 ?_;refine' rx (.u [1] rfl rfl (.part (Q9 E .refl) (Ee ud51 z0))) 1 ?_;exact rnn)
  apply k2
  have⟨e4,h4,h⟩:=bs h
  refine tJp (λ_=>[]) 9 (λW=>[deep (dRow (dOwn rI 3) 22) 51 W a]) 130 (Ret prog f25 M0 [bxM c.x c.old (dh a) e,deep (dRow (dOwn rI 3) 22) 51 c.w a] w0 (λ_=>[bxM r.x r.old (dh a) e,deep (dRow (dOwn rI 3) 22) 51 r.w a]) (λ_=>ttup []) .normal) (·=e4) (λW s=>?_) λJ1=>?_
  ·subst s
   cases sj h
   exact Fo undef [0,1] C
  apply Qk
  refine AC h4 (λs0=>[(83,ti s0.1),(9,ti s0.2.1)]) 4365567934979 (λs0=>[deep (dRow (dOwn rI 3) 22) 51 s0.2.2.1 a,omap AE s0.2.2.2 (f 0)]) 10502274 508 ?_
  intro s0 o K1 h t k3
  apply Qa 510
  refine Qf λ_ k4=>?_
  apply Qo h<;>intro _ h
  ·apply Qu
   apply k4
   refine Qf λK2 k5=>?_
   have⟨F,h5,h⟩:=bs h
   refine tJ0 [(9,ti F.1)] 4365568000515 [deep (dRow (dOwn rI 3) 22) 51 F.2.1 a,omap AE F.2.2 (f 0)] 10502274 K2 ?_ λX=>?_
   ·apply k5
    apply QJ 508
    exact Qx k3 (sy h) 61987669181189
   replace h:=h5
   apply Qk
   refine Qf λ_ k6=>?_
   have⟨r4,Y,r5,Z,h⟩:=bs2 h
   refine QJ 16304 ?_ (λ_=>by refine' pr 1 ?_;refine' rx (.u [1] rfl rfl (.part (Q9 Y .refl) (Ay ud51 B6 z2 z4 Z))) 0 ?_;refine' rx (.u [1] rfl rfl (.part (Q9 Y .refl) (A9 Ak z0 Z))) 2 ?_;exact rnn)
   apply k6
   refine Qf λ_ k7=>?_
   have⟨_,_,h⟩:=bs h
   apply Qa 16338
   refine DJ 1 (λI=>?_) λI=>?_
   ·replace h:=C6 I h
    apply QQ
    cases sj h
    exact QN X 2032
   replace h:=C7 I h
   apply Qu
   apply k7
   refine Qf λK3 k8=>?_
   have⟨e5,h8,h⟩:=bs h
   refine tJp (λp3=>[(9,ti p3)]) 558861427769988 (λ_=>[]) 127 K3 (·=e5) (λp3 s=>?_) λJ3=>?_
   ·subst s
    apply k8
    have⟨r6,h9,r7,u,r8,K,a0,g,h⟩:=bs4 h
    have⟨a1,i,v,j,w,k,h⟩:=bs3 h
    refine AB [v0 (deep (dRow (dOwn rI 3) 22) 51 v a),v0 (omap AE w (f 0))] [6,7] 16260 (λm3=>?_) (λ_=>by refine' pr 4 ?_;refine' rx (.u [1] rfl rfl (.part (Q9 h9 (Q9 u .refl)) (CC ud22 tok3 z3 .k K))) 0 ?_;refine' rx (.e [] [1] [4] rfl rfl rfl rfl (.focus (Bz h9 j (Bz u i (.refl λ_=>Iff.rfl))) (Db tok3 z0 z1 g))) 0 ?_;refine' rx (.e [] [2] [5] rfl rfl rfl rfl (JP ud81 ud3 z3 z2 .k k)) 0 ?_;exact rnn)
    cases sj h
    refine AA (λ_ _ H=>(H.pick [1,2,3,4,5,6,7]).Xk [0,2,3,1] rfl) ?_
    exact QN X 254
   apply Qk
   refine AC h8 (λL=>[(9,ti L)]) 558861427769988 (λL=>[]) 127 2040 ?_
   intro L o K4 h t k9
   refine Qf λ_ N=>?_
   refine Qa 4090 ?_ (λ_=>by refine' pr 2 ?_;refine' rx (.u [2] rfl rfl (Mt (x0:=false) ud81 ud3 tok4 zok4 z1 z0)) 0 ?_;exact rnn)
   refine DJ 1 (λO=>?_) λO=>?_
   ·replace h:=C6 O h
    apply Qu
    apply N
    apply Qk
    apply QJ 8152
    exact Qx k9 (sy h) 10203949504300039
   replace h:=C7 O h
   apply QQ
   exact Qx J3 (t _ (sy h)) 2040
  apply QQ
  refine AA (λ_ _ H=>(H.pick [7]).Xk [0,1] rfl) ?_
  exact Qx J1 (t _ (sy h)) 2
 apply Qk
 refine AC h2 (λq=>[(38,ti q.1)]) 4366117388674 (λq=>[deep (dRow (dOwn rI 3) 22) 51 q.2.1 a,omap AE q.2.2.1 (f 0),own AE 4 q.2.2.2 (D 8)]) 1612726402 3918 ?_
 intro q o K5 h t P
 apply Qa 1022
 refine Qf λ_ Q=>?_
 apply Qo h<;>intro _ h
 ·apply Qu
  apply Q
  refine Qf λK6 R=>?_
  apply Qk
  have⟨_,_,t2,_,_,_,p4,S,h⟩:=bs4 h
  apply Qa 32688
  refine QU [v0 (own AE 4 t2 (D 8))] [13] 8380418 (λm4=>?_) (λ_=>by refine' pr 8 ?_;refine' rx (.gu [2] rfl rfl rfl bq2 (λhc=>Mt (x0:=false) ud81 ud3 tok4 zok4 (.cond z1 hc) (.cond z0 hc))) 4 ?_;exact rnn)
  apply Qa 65522
  refine tJ0 [] 16263 [deep (dRow (dOwn rI 3) 22) 51 p4.1 a,omap AE p4.2 (f 0)] 270631554 K6 ?_ λJ4=>?_
  ·apply R
   apply QJ 1020
   refine AA (λ_ _ H=>(H.pick [1,2,0,3,4,5,6,7]).Xk [0,3,4,2,1] rfl) ?_
   exact Qx P (sy h) 510
  replace h:=S
  refine DJ 1 (λU=>?_) λU=>?_
  ·replace h:=C6 U h
   have⟨r9,b,a4,d,a5,V,a2,l,h⟩:=bs4 h
   have⟨a3,m,y,n,z,p,h⟩:=bs3 h
   refine AB [v0 (deep (dRow (dOwn rI 3) 22) 51 y a),v0 (omap AE z (f 0))] [15,16] 267552784 (λm5=>?_) (λ_=>by refine' pr 5 ?_;refine' rx (.u [1] rfl rfl (Ay ud29 BZ z1 z0 b)) 0 ?_;refine' rx (.u [1] rfl rfl (A9 Bb z0 b)) 1 ?_;refine' rx (.u [1] rfl rfl (.part (Q9 b .refl) (Ay ud51 B6 z1 z0 d))) 0 ?_;refine' rx (.u [1] rfl rfl (.part (Q9 b .refl) (A9 Ak z0 d))) 3 ?_;refine' rx (.u [1] rfl rfl (.part (Q9 b (Q9 d .refl)) (CC ud22 tok3 z3 .k V))) 0 ?_;refine' rx (.e [] [1] [5] rfl rfl rfl rfl (.focus (Bz b n (Bz d m (.refl λ_=>Iff.rfl))) (Db tok3 z0 z1 l))) 0 ?_;refine' rx (.e [] [2] [6] rfl rfl rfl rfl (JP ud81 ud3 z3 z2 .k p)) 0 ?_;exact rnn)
   cases sj h
   exact QN J4 8160
  replace h:=C7 U h
  apply Qu
  cases sj h
  refine AA (λ_ _ H=>(H.pick [5,6,7,8,9,10,11,12]).Xk [0,3,4,1,2] rfl) ?_
  exact QN J4 510
 apply QQ
 refine AA (λ_ _ H=>(H.pick [4,5,6,7,8]).Xk [0,1,2,3] rfl) ?_
 exact Qx J0 (t _ (sy h)) 62
def KW (b:(List Lz)) (a:Lz):Option (Int×Int×Int):=(opt (((decide ((i64.wrap ((b.length:Int) - 1))<0))||(decide ((i64.wrap ((b.length:Int) - 1))>10)))==false) (EE a (λx0=>F9 x0)) default).bind λk=>(opt ((((decide ((i64.wrap ((b.length:Int) - 1))<0))||(decide ((i64.wrap ((b.length:Int) - 1))>10)))||k)==false) (HT b (λx0=>KX x0 (i64.wrap ((b.length:Int) - 1)) (λx0=>F9 x0))) default).bind λt1=>(if (((decide ((i64.wrap ((b.length:Int) - 1))<0))||(decide ((i64.wrap ((b.length:Int) - 1))>10)))||k)||t1 then some (0,0,1) else if decide ((a.length:Int)>=(i64.wrap ((b.length:Int) - 1))) then some (0,0,6) else (EV a).bind λg=>(rm (g.length+[0].length)).bind λ_=>(Qr (λ(s0:Int×Lz×Lz)=>if decide (s0.1<((g++[0]).length:Int)) then (idx (g++[0]) s0.1).bind λd=>(if s0.1==(a.length:Int) then some (i64.wrap ((b.length:Int) - 1)) else some s0.1).bind λe=>(idx b e).bind λo=>(idx o (a.length:Int)).bind λp=>(if decide (p<1099511627776) then (idx b e).bind λq=>(idx q (a.length:Int)).bind λl=>(rm (s0.2.2.length+[i64.wrap (d - l)].length)).bind λ_=>some (s0.2.2++[i64.wrap (d - l)]) else some s0.2.2).bind λr=>(idx b (a.length:Int)).bind λs=>(idx s e).bind λt=>(if decide (t<1099511627776) then (idx b (a.length:Int)).bind λh=>(idx h e).bind λc=>(rm (s0.2.1.length+[i64.wrap (d+c)].length)).bind λ_=>some (s0.2.1++[i64.wrap (d+c)]) else some s0.2.1).bind λu=>some (.inl (i64.wrap (s0.1+1),u,r)) else some (.inr (s0.2.1,s0.2.2))) (0,[],[])).bind λf=>(if decide ((f.2.length:Int)>0) then (IR f.2).bind λi=>some i else some (-1099511627776)).bind λm=>(if decide ((f.1.length:Int)>0) then (IS f.1).bind λj=>some j else some 1099511627776).bind λn=>if decide (m>n) then some (0,0,14) else some (m,n,0))
instance gA:Spc2 prog 71 KW (λg b=>[tsl (rSl rI) g,tsl rI b]) (λr=>ttup [ti r.1,ti r.2.1,ti r.2.2]):=.mk λ{g b r} h=>by
 refine Fe func71 ntmps71 λM0 M p c=>?_
 apply Qa 48
 refine QU [vb 5 (rI.cs (0:Int)),vb 5 (rI.cs (i64.wrap ((g.length:Int) - 1)))] [6,7] 960 λm0=>?_
 apply tFz 0
 refine QU [vb 0 [tvs .nilFunc],vb 0 (Eo.cs (λx0=>F9 x0))] [1,2] 62 (λm1=>?_) (λ_=>by refine' rx (.m [] [0] rfl rfl rfl (Eb (R:=rVal) (a:=.nilFunc) SF zokPf)) 1 ?_;exact rnn)
 apply tFz 0
 have⟨_,_,_,_,h⟩:=bs2 h
 refine tIfs h 3997696 (λ_ h=>?_) λ_ h=>?_
 ·apply Qa 14
  exact tRE h c
 refine tIfs h 488 (λ_ h=>?_) λ_ h=>?_
 ·apply Qa 14
  exact tRE h c
 apply Qa 246
 refine Q1 (λ_ _ H=>(H.nil rI 3).nil rI 3) ?_
 refine Qf λz A=>?_
 have⟨B,_,_,h0,h⟩:=bs2 h
 apply Pr (Γ':=[(10,tv (.slice none 0 0)),(11,tv (.slice none 0 0)),(7,tptr (rI.cs (i64.wrap ((g.length:Int) - 1)))),(8,ti (b.length:Int)),(0,tsl (rSl rI) g),(1,tsl rI b)])
 refine QU [vo 1 rI 3 B] [2] 4080 (λm2=>?_) (λ_=>by refine' pr 3 ?_;refine' rx (.e [] [2] [] rfl rfl rfl rfl (.roE (Ef (R:=rI) ud22 tok3 (leb rfl) z1 z0 h0))) 2 ?_;exact rnn)
 have⟨C,D,h⟩:=bs h
 have E:∀d k l,d=C->To M p 110 [(10,tv l),(11,tv k)] [own rI 3 d.1 k,own rI 3 d.2 l] z:=by
  intro d k l F;subst F;refine A <|Qa 30 ?_;refine Qf λI K=>Qa 250 ?_;have⟨q,L,h⟩:=bs h;refine tJ0 [(14,ti q)] 115329 [] 2 I ?_ λs=>?_
  ·refine K <|Qf λN O=>Qa 122 ?_;have⟨P,Q,h⟩:=bs h;have t:To M p 110 [(15,ti P),(14,ti q)] [] N:=by
    refine O <|tIfs h 56 (λ_ h=>?_) λ_ h=>?_
    ·apply Qa 14;exact tRE h c
    apply Qa 56;exact tRE h c
   replace h:=Q;refine DJ 1 (λm=>?_) λm=>?_
   ·replace h:=C6 m h;have⟨_,S,h⟩:=bs h;refine QJ 218 ?_ (λ_=>by refine' pr 1 ?_;refine' rx (.u [0] rfl rfl (CY [own rI 3 d.1 k] cal (eW.ok S) (.cons (.own z0 (.head _))<|.nil) (λ_=>Ah) (λ_=>EY (x:=undef)))) 1 ?_;exact rnn);cases sj h;refine AA (λ_ _ H=>(H.pick [1,3]).Xk [] rfl) ?_;exact QN t 6
   replace h:=C7 m h;apply Qu;cases sj h;refine AA (λ_ _ H=>(H.pick [3,2]).Xk [] rfl) ?_;exact QN t 6
  replace h:=L;refine DJ 1 (λn=>?_) λn=>?_
  ·replace h:=C6 n h;have⟨_,T,h⟩:=bs h;refine QJ 474 ?_ (λ_=>by refine' pr 1 ?_;refine' rx (.u [1] rfl rfl (CY [own rI 3 d.2 l] cal (eS.ok T) (.cons (.own z0 (.head _))<|.nil) (λ_=>Ah) (λ_=>EY (x:=undef)))) 1 ?_;exact rnn);cases sj h;refine AA (λ_ _ H=>(H.pick [1,3,5]).Xk [0] rfl) ?_;exact QN s 14
  replace h:=C7 n h;apply Qu;cases sj h;refine AA (λ_ _ H=>(H.pick [2,3,5]).Xk [0] rfl) ?_;exact QN s 14
 refine Qk <|M5 D (λs0 e f=>[(45,ti s0.1),(10,tv f),(11,tv e)]) 558792695628162 (λs0 e f=>[own rI 3 s0.2.1 e,own rI 3 s0.2.2 f]) 129 (.slice none 0 0) (.slice none 0 0) 510 ?_;intro s0 e f o K3 h U V;apply Qa 1022;refine Qf λ_ W=>Qo h (λ_ h=>?_) λ_ h=>?_
 ·refine Qu <|W <|Qf λX Y=>Qk ?_;have⟨u,_,Z,h6,h⟩:=bs2 h;apply Qa 32688;refine Qf λK5 k6=>Qa 16376 ?_;refine tJ0 [(12,ti Z)] 2081281 [] 127 K5 ?_ λv=>?_
  ·refine k6 <|Qf λK6 k7=>?_;have⟨_,_,_,_,p4,h7,h⟩:=bs3 h;apply Qa 524032;refine tJ1 (λi=>[(10,tv i)]) 71534468642439553 (λi=>[own rI 3 p4 i]) 130 K6 (λi=>?_) λw=>?_
   ·apply k7;have⟨_,_,_,_,p5,h8,h⟩:=bs3 h;apply Qa 524032;refine tJ1 (λj=>[(11,tv j)]) 558897666556289 (λj=>[own rI 3 p5 j]) 131 X (λj=>?_) λy=>?_
    ·refine Y <|QJ 1020 ?_;refine AA (λ_ _ H=>(H.pick [3,4,0,2,1,5,6,7]).Xk [1,0] rfl) ?_;exact D2 V j i (sy h) 510
    replace h:=h8;apply Qo h<;>intro _ h
    ·have⟨_,_,t2,_,_,_,h⟩:=bs3 h;refine AB [vo 11 rI 3 (s0.2.1++[i64.wrap (u+t2)])] [12] 16560128 λm3=>?_;cases sj h;exact QN (y (m3 11)) 1020
    apply Qu;cases sj h;refine AA (λ_ _ H=>(H.pick [7,1,4,5,6,8,9,10]).Xk [1,0] rfl) ?_;exact QN (y e) 510
   replace h:=h7;apply Qo h<;>intro _ h
   ·have⟨_,_,t3,_,_,_,h⟩:=bs3 h;refine AB [vo 11 rI 3 (s0.2.2++[i64.wrap (u - t3)])] [12] 16756736 λm4=>?_;cases sj h;exact QN (w (m4 11)) 4092
   apply Qu;cases sj h;exact QN (w f) 204365540574487478799
  replace h:=h6;apply Qo h<;>intro _ h
  ·apply QJ 8180;cases sj h;exact QN v 2046
  apply Qu;cases sj h;exact QN v 4092
 refine QQ <|D2 E e f (U _ (sy h)) 96

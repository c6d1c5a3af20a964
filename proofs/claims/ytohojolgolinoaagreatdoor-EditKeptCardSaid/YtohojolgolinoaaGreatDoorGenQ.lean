/- The walk. No condition. -/
import Derived.Test.YtohojolgolinoaaGreatDoorGenM
import Derived.Test.YtohojolgolinoaaGreatDoorGenN
import Derived.Test.YtohojolgolinoaaGreatDoorGenO
import Derived.Test.YtohojolgolinoaaGreatDoorGenP
set_option linter.all false
open List Go.Proofs.Tryz Go.IntKind
namespace Go.Proofs.YtohojolgolinoaaGreatDoor
noncomputable section
open Go.Sim
set_option maxRecDepth 100000
set_option maxHeartbeats 4000000
def Ie (j:Lz):Option Qc:=(sub j 0 (imin (j.length:Int) 200)).bind λp=>(QS (QR.mk p 0) 4).bind λk=>(QS k.2 3).bind λf=>(Qr (λ(s0:Int×List QA×QR)=>if decide (s0.1<(i64.wrap (1+f.1))) then (Ko s0.2.2 s0.2.1).bind λc=>(rm (c.2.2.length+[c.1].length)).bind λ_=>some (.inl (i64.wrap (s0.1+1),c.2.2++[c.1],c.2.1)) else some (.inr (s0.2.1,s0.2.2))) (0,[],f.2)).bind λg=>(QS g.2 3).bind λl=>(sub [([110,101,119]:Str),([111,112,101,110]:Str),([100,111,110,101]:Str),([115,104,117,116]:Str)] 0 (i64.wrap (2+l.1))).bind λd=>(Qr (λ(a:Int×List AS)=>if decide ((i64.wrap (a.1+1))<(d.length:Int)) then (rm (a.2.length+[AS.mk a.1 (i64.wrap (a.1+1))].length)).bind λ_=>some (.inl (i64.wrap (a.1+1),a.2++[AS.mk a.1 (i64.wrap (a.1+1))])) else some (.inr a.2)) (0,[])).bind λh=>(QS l.2 2).bind λm=>(if m.1==0 then (rm (h.length+[AS.mk 1 0].length)).bind λ_=>some (h++[AS.mk 1 0]) else some h).bind λi=>(QS m.2 3).bind λn=>(if n.1==0 then (rm (i.length+[AS.mk 0 (i64.wrap ((d.length:Int) - 1))].length)).bind λ_=>some (i++[AS.mk 0 (i64.wrap ((d.length:Int) - 1))]) else some i).bind λo=>(rm (([]:List Qm).length+[Qm.mk ([108,105,102,101]:Str) d o].length)).bind λ_=>(Qr (λ(b:Int×List QL×QR)=>if (decide (b.1<(i64.wrap (1+f.1))))&&(decide ((b.2.1.length:Int)<2)) then (idx g.1 b.1).bind λq=>(Kt b.2.2 q).bind λe=>(if e.2.1 then (rm (b.2.1.length+[e.1].length)).bind λ_=>some (b.2.1++[e.1]) else some b.2.1).bind λr=>some (.inl (i64.wrap (b.1+1),r,e.2.2)) else some (.inr b.2.1)) (0,[],n.2)).bind λs=>some (Qc.mk k.1 g.1 ([]++[Qm.mk ([108,105,102,101]:Str) d o]) s)
instance vT:Spc1 prog 17 Ie (λV=>[tsl rI V]) Qb.ty:=.mk λ{V r} h=>by
 refine Fe func17 ntmps17 λM0 M w0 C=>?_
 refine QU [vb 0 (Qb.cs zz4)] [1] 6 λe=>?_
 have⟨t0,_,b,_,t2,_,e3,h0,h⟩:=bs4 h
 refine QU [vb 6 (QC.cs (QR.mk t0 (0:Int)))] [7] 768 λg=>?_
 refine QU [v0 (box (QC.cs b.2) (g 6)),vb 3 (Qb.cs zz4),vb 3 ([ti b.1,tvs nilV,tvs nilV,tvs nilV])] [2,4,5] 112 (λd=>?_) (λ_=>by refine' pr 2 ?_;refine' rx (.p (T:=tagg ([ti b.1,tvs nilV,tvs nilV,tvs nilV])) rfl (Cm underlying27 pl27 zv27 Wa.1 (.cons (R:=rI) (u:=b.1) rfl z0 (leb rfl)<|.nil _))) 1 ?_;refine' rx (.e [] [3] [4] rfl rfl rfl rfl (Ec (R:=(rAgg ([ti b.1,tvs nilV,tvs nilV,tvs nilV]) (Qt (QZ rfl) (Qt BV (Qt BV (Qt BV Ae)))))) (a:=()) (tokA D8 (Qt (QZ rfl) (Qt BV (Qt BV (Qt BV Ae)))) rfl rfl) z0 z1 (leb rfl))) 0 ?_;exact rnn)
 refine Q1 (λ_ _ H=>((H.nil Qq 41).nil Qs 103).nil QV 84) ?_
 refine QU [v0 (box (QC.cs t2.2) (g 6))] [2] 240 λm3=>?_
 refine Qf λK0 k0=>?_
 apply Qa 62
 refine tJq (λ_ _=>[]) 16259 (λk f=>[own QV 84 ([]:List QL) nilV,own Qs 103 ([]:List Qm) nilV,own Qq 41 k.1 f,box (Qb.cs zz4) (e 0),box ([ti b.1,tvs f,tvs nilV,tvs nilV]) (d 3),box (QC.cs k.2) (g 6)]) 34630287489 K0 (·=e3) (λk f t=>?_) λJ0=>?_
 ·subst t
  apply k0
  have⟨t3,_,c,_,e4,h1,h⟩:=bs3 h
  refine QU [v0 (box (QC.cs t3.2) (g 6))] [3] 1984 λm4=>?_
  refine QU [vb 2 (Qs.cs zz2),vb 2 ([tv (.string (sB ([108,105,102,101]:Str))),tsl rS c,tvs nilV])] [3,4] 504 (λl=>?_) (λ_=>by refine' pr 1 ?_;refine' rx (.p (T:=tagg ([tv (.string (sB ([108,105,102,101]:Str))),tsl rS c,tvs nilV])) rfl (Cm underlying103 pl103 zv103 WQ.1 (.cons (R:=rS) (u:=([108,105,102,101]:Str)) rfl .k (leb rfl)<|.cons (R:=(rSl rS)) (u:=c) rfl z0 (leb rfl)<|.nil _))) 1 ?_;refine' rx (.e [] [6] [7] rfl rfl rfl rfl (Ec (R:=(rAgg ([tv (.string (sB ([108,105,102,101]:Str))),tsl rS c,tvs nilV]) (Qt (QZ rfl) (Qt DB (Qt BV Ae))))) (a:=()) (tokA En (Qt (QZ rfl) (Qt DB (Qt BV Ae))) rfl rfl) z0 z1 (leb rfl))) 0 ?_;exact rnn)
  apply tNl Af 104
  refine Qf λK1 k1=>?_
  apply Qa 254
  refine tJq (λ_ _=>[]) 16259 (λD y=>[own Af 104 D y,own QV 84 ([]:List QL) nilV,own Qs 103 ([]:List Qm) nilV,box (Qb.cs zz4) (e 0),box ([ti b.1,tvs f,tvs nilV,tvs nilV]) (d 3),box ([tv (.string (sB ([108,105,102,101]:Str))),tsl rS c,tvs y]) (l 2)]) 598168964186241 K1 (·=e4) (λD y t=>?_) λJ1=>?_
  ·subst t
   apply k1
   refine Qf λK2 k2=>?_
   have⟨t5,_,W,h2,h⟩:=bs2 h
   refine QU [v0 (box (QC.cs t5.2) (g 6))] [2] 1016 λm6=>?_
   refine tJ1 (λ_=>[]) 16259 (λz=>[own QV 84 ([]:List QL) nilV,own Qs 103 ([]:List Qm) nilV,box (Qb.cs zz4) (e 0),box ([ti b.1,tvs f,tvs nilV,tvs nilV]) (d 3),own Af 104 W z,box ([tv (.string (sB ([108,105,102,101]:Str))),tsl rS c,tvs z]) (l 2)]) 567657508192385 K2 (λz=>?_) λX=>?_
   ·apply k2
    refine Qf λK3 k3=>?_
    have⟨Y,_,i,h3,h⟩:=bs2 h
    refine QU [v0 (box (QC.cs Y.2) (g 6))] [2] 1016 λm7=>?_
    refine tJ1 (λ_=>[]) 2081411 (λE=>[own QV 84 ([]:List QL) nilV,own Qs 103 ([]:List Qm) nilV,box (Qb.cs zz4) (e 0),box ([ti b.1,tvs f,tvs nilV,tvs nilV]) (d 3),own Af 104 i E,box ([tv (.string (sB ([108,105,102,101]:Str))),tsl rS c,tvs E]) (l 2)]) 567657508176001 K3 (λE=>?_) λZ=>?_
    ·apply k3
     refine Q1 (As'':=[box (Qs.cs (Qm.mk ([108,105,102,101]:Str) c i)) (l 2),own QV 84 ([]:List QL) nilV,own Qs 103 ([]:List Qm) nilV,own Qq 41 k.1 f,box (Qb.cs zz4) (e 0),box ([ti b.1,tvs f,tvs nilV,tvs nilV]) (d 3),box (QC.cs Y.2) (g 6)]) (λ_ _ H=>((H.pick [0,1,2,3,4]).Xk [6,7,0,1,2,3,4,5] rfl).Xm 2 rfl) ?_
     have⟨_,_,e5,h4,h⟩:=bs2 h
     refine QU [vo 4 Qs 103 (([]:List Qm)++[Qm.mk ([108,105,102,101]:Str) c i]),v1 4 (λv0=>box ([ti b.1,tvs f,tvs v0,tvs nilV]) (d 3))] [5,7] 3872 λj=>?_
     apply tSl [1,2,3,4,5,6]
     refine Qf λK4 k4=>?_
     apply Qa 126
     refine tJq (λ_ _=>[]) 901 (λq m=>[own QV 84 q m,box (Qb.cs zz4) (e 0),own Qs 103 (([]:List Qm)++[Qm.mk ([108,105,102,101]:Str) c i]) (j 4),box ([ti b.1,tvs f,tvs (j 4),tvs m]) (d 3)]) 270549377 K4 (·=e5) (λq m t=>?_) λJ4=>?_
     ·subst t
      apply k4
      refine Q1 (As'':=[box ([ti b.1,tsl Qq k.1,tvs (j 4),tvs m]) (d 3),own QV 84 q m,box (Qb.cs zz4) (e 0),own Qs 103 (([]:List Qm)++[Qm.mk ([108,105,102,101]:Str) c i]) (j 4)]) (λ_ _ H=>((H.pick [0,1]).Xk [1,4,0,2,3] rfl).Xm 1 rfl) ?_
      refine Q1 (As'':=[box ([ti b.1,tsl Qq k.1,tsl Qs (([]:List Qm)++[Qm.mk ([108,105,102,101]:Str) c i]),tvs m]) (d 3),own QV 84 q m,box (Qb.cs zz4) (e 0)]) (λ_ _ H=>((H.pick [0,1]).Xk [3,0,1,2] rfl).Xm 2 rfl) ?_
      refine Q1 (As'':=[box (Qb.cs (Qc.mk b.1 k.1 (([]:List Qm)++[Qm.mk ([108,105,102,101]:Str) c i]) q)) (d 3),box (Qb.cs zz4) (e 0)]) (λ_ _ H=>((H.pick [0,1]).Xk [1,0,2] rfl).Xm 3 rfl) ?_
      refine QU [v0 (box (Qb.cs (Qc.mk b.1 k.1 (([]:List Qm)++[Qm.mk ([108,105,102,101]:Str) c i]) q)) (e 0))] [2] 8 λm9=>?_
      apply tSl [1]
      exact tRE h C
     apply Qk
     refine AT h4 (λs0 n=>[(10,ti s0.1)]) 2081281 (λs0 n=>[own QV 84 s0.2.1 n,box (Qb.cs zz4) (e 0),box (QC.cs s0.2.2) (g 6),own Qs 103 (([]:List Qm)++[Qm.mk ([108,105,102,101]:Str) c i]) (j 4),box ([ti b.1,tvs f,tvs (j 4),tvs n]) (d 3)]) 34630287745 nilV 122 ?_
     intro s0 n o K5 h v k5
     refine Qf λ_ k6=>?_
     refine Qa 32256 ?_ (λ_=>by refine' pr 5 ?_;refine' rx (.gu [5] rfl rfl rfl bq1 (λhc=>Fx (u:=n) R4 (.cond z0 hc) rfl)) 3 ?_;exact rnn)
     apply Qo h<;>intro _ h
     ·apply Qu
      apply k6
      refine Qf λK6 k7=>?_
      apply Qk
      have⟨_,_,F,_,p5,h5,h⟩:=bs3 h
      refine QU [v0 (box (QC.cs F.2.2) (g 6)),vb 10 (QV.cs zz3),vb 10 (QV.cs F.1)] [7,11,12] 514056 λa0=>?_
      refine Q1 (λ_ _ H=>(((H.Xk [6,0,1,2,3,4,5] rfl).Xl 1 rfl).add 0 rfl (λ_ _ _ h=>h.2)).pick [0,2,4,5,6,7,8,9]) ?_
      apply Qa 1006
      refine tJ1 (λ_=>[]) 16261 (λA=>[box (Qb.cs zz4) (e 0),own Qs 103 (([]:List Qm)++[Qm.mk ([108,105,102,101]:Str) c i]) (j 4),own QV 84 p5 A,box ([ti b.1,tvs f,tvs (j 4),tvs A]) (d 3)]) 34642870403 K6 (λA=>?_) λJ5=>?_
      ·apply k7
       apply QJ 248
       refine AA (λ_ _ H=>(H.pick [0,1,2,3,4]).Xk [4,0,1,3,2,5] rfl) ?_
       exact Q7 k5 A (sy h) 62
      replace h:=h5
      apply Qo h<;>intro _ h
      ·have⟨_,_,h⟩:=bs h
       refine AB [vo 4 QV 84 (s0.2.1++[F.1]),v1 4 (λv0=>box ([ti b.1,tvs f,tvs (j 4),tvs v0]) (d 3))] [5,7] 32288 λI=>?_
       cases sj h
       exact QN (J5 (I 4)) 248
      apply Qu
      cases sj h
      refine AA (λ_ _ H=>(H.pick [3,4,5,6,7]).Xk [1,2,3,5,0,4] rfl) ?_
      exact QN (J5 n) 62
     apply QQ
     refine AA (λ_ _ H=>(H.pick [3,5]).Xk [0,1,2,4,5] rfl) ?_
     exact Q7 J4 n (v _ (sy h)) 6
    replace h:=h3
    apply Qo h<;>intro _ h
    ·have⟨_,_,h⟩:=bs h
     refine AB [vo 7 Af 104 (W++[AS.mk (0:Int) (i64.wrap ((c.length:Int) - 1))]),v1 7 (λv0=>box ([tv (.string (sB ([108,105,102,101]:Str))),tsl rS c,tvs v0]) (l 2))] [8,10] 125184 λK=>?_
     cases sj h
     exact QN (Z (K 7)) 124
    apply Qu
    cases sj h
    refine AA (λ_ _ H=>(H.pick [1,3,4,5,6]).Xk [0,1,2,3,4,7,5,6] rfl) ?_
    exact QN (Z z) 62
   replace h:=h2
   apply Qo h<;>intro _ h
   ·have⟨_,_,h⟩:=bs h
    refine AB [vo 4 Af 104 (D++[AS.mk (1:Int) (0:Int)]),v1 4 (λv0=>box ([tv (.string (sB ([108,105,102,101]:Str))),tsl rS c,tvs v0]) (l 2))] [5,7] 16160 λL=>?_
    cases sj h
    exact QN (X (L 4)) 252
   apply Qu
   cases sj h
   refine AA (λ_ _ H=>(H.pick [1,2,3,4,5,6]).Xk [1,2,3,4,5,7,0,6] rfl) ?_
   exact QN (X y) 126
  apply Qk
  refine AT h1 (λp w=>[(9,ti p.1)]) 2081153 (λp w=>[own Af 104 p.2 w,own QV 84 ([]:List QL) nilV,own Qs 103 ([]:List Qm) nilV,box (Qb.cs zz4) (e 0),box ([ti b.1,tvs f,tvs nilV,tvs nilV]) (d 3),box ([tv (.string (sB ([108,105,102,101]:Str))),tsl rS c,tvs w]) (l 2)]) 598168964186241 nilV 254 ?_
  intro p w o K7 h v k8
  refine Qf λ_ k9=>?_
  apply Qa 8160
  apply Qo h<;>intro _ h
  ·apply Qu
   apply k9
   refine Qf λ_ N=>?_
   apply Qk
   have⟨_,_,h⟩:=bs h
   refine AB [vo 7 Af 104 (p.2++[AS.mk p.1 (i64.wrap (p.1+1))]),v1 7 (λv0=>box ([tv (.string (sB ([108,105,102,101]:Str))),tsl rS c,tvs v0]) (l 2))] [8,10] 260352 λO=>?_
   apply N
   apply QJ 2040
   refine AA (λ_ _ H=>(H.pick [0,2,3,4,5,6,7]).Xk [6,0,1,2,3,4,5,7] rfl) ?_
   exact Q7 k8 (O 7) (sy h) 254
  apply QQ
  exact Q7 J1 w (v _ (sy h)) 504
 apply Qk
 refine AT h0 (λx s=>[(6,ti x.1)]) 2081153 (λx s=>[own QV 84 ([]:List QL) nilV,own Qs 103 ([]:List Qm) nilV,own Qq 41 x.2.1 s,box (Qb.cs zz4) (e 0),box ([ti b.1,tvs s,tvs nilV,tvs nilV]) (d 3),box (QC.cs x.2.2) (g 6)]) 34630287489 nilV 62 ?_
 intro x s o K8 h v P
 refine Qf λ_ Q=>?_
 apply Qa 504
 apply Qo h<;>intro _ h
 ·apply Qu
  apply Q
  refine Qf λ_ S=>?_
  apply Qk
  have⟨B,h6,_,_,h⟩:=bs2 h
  refine AB [v0 (box (QC.cs B.2.1) (g 6)),v0 (own Qq 41 B.2.2 s),vo 7 Qq 41 (B.2.2++[B.1]),v1 7 (λv0=>box ([ti b.1,tvs v0,tvs nilV,tvs nilV]) (d 3))] [6,6,8,10] 63744 (λU=>?_) (λ_=>by refine' pr 5 ?_;refine' rx (.e [] [5,2] [6,7] rfl rfl rfl rfl (QO cal (gP.ok h6) (.cons (.of z2)<|.cons (.of z0)<|.nil))) 4 ?_;exact rnn)
  apply S
  apply QJ 504
  refine AA (λ_ _ H=>(H.pick [0,2,3,4,5]).Xk [0,1,4,2,5,3] rfl) ?_
  exact Q7 P (U 7) (sy h) 62
 apply QQ
 exact Q7 J0 s (v _ (sy h)) 120
def Ki (d:Qc):Option ((List QK)×(List Str)×Int):=(NE d).bind λf=>if decide ((f.length:Int)>0) then (idx f 0).bind λj=>some ([],[],j.Code) else (Qr (λ(s0:Int×List Str×List QK)=>if decide (s0.1<(d.Xa.length:Int)) then (idx d.Xa s0.1).bind λa=>(rm (s0.2.2.length+[QK.mk s0.1 (-1) a.Lo true,QK.mk s0.1 (-1) a.Hi false].length)).bind λ_=>(cat (a.Xj.length+([32,108,101,97,115,116]:Str).length)).bind λ_=>(cat (a.Xj.length+([32,109,111,115,116]:Str).length)).bind λ_=>(rm (s0.2.1.length+[a.Xj++([32,108,101,97,115,116]:Str),a.Xj++([32,109,111,115,116]:Str)].length)).bind λ_=>(Qr (λ(c:Int×List QK×List Str)=>if decide (c.1<(a.Xb.length:Int)) then (idx a.Xb c.1).bind λb=>(if b.Xi==1 then (EZ d b.Of).bind λe=>(rm (c.2.1.length+[QK.mk s0.1 e b.Lo true,QK.mk s0.1 e b.Hi false].length)).bind λ_=>(cat (a.Xj.length+([46]:Str).length)).bind λ_=>(cat ((a.Xj++([46]:Str)).length+b.Xj.length)).bind λ_=>(cat (((a.Xj++([46]:Str))++b.Xj).length+([32,108,101,97,115,116]:Str).length)).bind λ_=>(cat (a.Xj.length+([46]:Str).length)).bind λ_=>(cat ((a.Xj++([46]:Str)).length+b.Xj.length)).bind λ_=>(cat (((a.Xj++([46]:Str))++b.Xj).length+([32,109,111,115,116]:Str).length)).bind λ_=>(rm (c.2.2.length+[((a.Xj++([46]:Str))++b.Xj)++([32,108,101,97,115,116]:Str),((a.Xj++([46]:Str))++b.Xj)++([32,109,111,115,116]:Str)].length)).bind λ_=>some (c.2.1++[QK.mk s0.1 e b.Lo true,QK.mk s0.1 e b.Hi false],c.2.2++[((a.Xj++([46]:Str))++b.Xj)++([32,108,101,97,115,116]:Str),((a.Xj++([46]:Str))++b.Xj)++([32,109,111,115,116]:Str)]) else some (c.2.1,c.2.2)).bind λg=>some (.inl (i64.wrap (c.1+1),g.1,g.2)) else some (.inr (c.2.1,c.2.2))) (0,s0.2.2++[QK.mk s0.1 (-1) a.Lo true,QK.mk s0.1 (-1) a.Hi false],s0.2.1++[a.Xj++([32,108,101,97,115,116]:Str),a.Xj++([32,109,111,115,116]:Str)])).bind λh=>some (.inl (i64.wrap (s0.1+1),h.2,h.1)) else some (.inr (s0.2.1,s0.2.2))) (0,[],[])).bind λi=>some (i.2,i.1,0)
instance gW:SpcS prog 110 (∀{e r},Ki e=some r->FnOk prog 110 [Qb.ty e] [] (λv=>[own rS 9 r.2.1 v]) (λv=>ttup [tsl BL r.1,tv v,ti r.2.2])):=.mk λ{e r} h=>by
 refine Fe func110 ntmps110 λZ M t f=>?_
 apply Qa 2
 have⟨_,_,h⟩:=bs h
 apply Qa 24
 refine tIfs h 56 (λ_ h=>?_) λ_ h=>?_
 ·have⟨_,_,h⟩:=bs h
  apply Qa 224
  apply tNl rS 9
  exact Qp h (·▸AO (.slice none 0 0) [0] f)
 apply Qa 18
 apply tNl BL 250
 apply Qa 14
 apply tNl rS 9
 refine Qf λB C=>?_
 apply Qa 30
 have⟨D,h0,h⟩:=bs h
 have E:∀k l u,k=D->To M t 105 [(7,tv l),(6,tv u)] [own rS 9 k.1 l,own BL 250 k.2 u] B:=by
  intro k l u w;subst w;refine C <|Qa 254 ?_;apply AG;refine AA (by intro _ _ H;exact ((H.Xk [1,0] rfl).Xn 2 rfl).pick [0,2,4,5,6]) ?_;cases sj h;exact AO l [0] f
 refine Qk <|M5 h0 (λs0 g i=>[(8,ti s0.1),(7,tv g),(6,tv i)]) 10502273 (λs0 g i=>[own rS 9 s0.2.1 g,own BL 250 s0.2.2 i]) 129 (.slice none 0 0) (.slice none 0 0) 30 ?_;intro s0 g i o K1 h x F;refine Qf λ_ I=>Qa 992 ?_;apply Qo h<;>intro _ h
 ·refine Qu <|I <|Qf λK L=>Qk ?_;have⟨a,_,_,_,_,_,_,_,h⟩:=bs4 h;refine QU [vb 5 (Qq.cs zz1),vb 5 (Qq.cs a)] [6,7] 3904 λm0=>?_;apply tFz 2;refine QU [vo 10 BL 250 (s0.2.2++[QK.mk s0.1 (-1:Int) a.Lo true,QK.mk s0.1 (-1:Int) a.Hi false])] [11] 129024 λN=>?_;have⟨_,_,O,P,h⟩:=bs2 h;refine QU [vo 8 rS 9 (s0.2.1++[a.Xj++([32,108,101,97,115,116]:Str),a.Xj++([32,109,111,115,116]:Str)])] [9] 65024 λQ=>?_;apply Qa 510;have R:∀m n p,m=O->To M t 105 [(7,tv p),(6,tv n),(8,ti s0.1),(1,tptr (Qb.cs e))] [own BL 250 m.1 n,own rS 9 m.2 p] K:=by
   intro m n p w;subst w;refine L <|QJ 120 ?_;refine AA (λ_ _ H=>(H.pick [0,1,2,3]).Xk [1,0] rfl) ?_;exact D2 F p n (sy h) 30
  refine Qk <|M5 P (λb c d=>[(10,ti b.1),(7,tv d),(6,tv c)]) 34105999489 (λb c d=>[own BL 250 b.2.1 c,own rS 9 b.2.2 d]) 129 (N 10) (Q 8) 490 ?_;intro b c d o K3 h x S;refine Qf λ_ T=>Qa 4064 ?_;apply Qo h<;>intro _ h
  ·refine Qu <|T <|Qf λU V=>Qk ?_;have⟨j,_,y,W,h⟩:=bs2 h;refine QU [vb 5 (Qd.cs zz0),vb 5 (Qd.cs j)] [6,7] 16192 λm3=>?_;apply tFz 2;apply Qa 2040;have z:∀q s,To M t 105 [(7,tv s),(6,tv q),(10,ti b.1),(9,tptr (Qq.cs a)),(8,ti s0.1),(1,tptr (Qb.cs e))] [own BL 250 y.1 q,own rS 9 y.2 s] U:=by
    intro q s;refine V <|QJ 504 ?_;exact D2 S q s (sy h) 126
   replace h:=W;apply Qo h<;>intro _ h
   ·have⟨A,_,_,_,_,_,_,_,h⟩:=bs4 h;apply Qa 16288;refine QU [vo 12 BL 250 (b.2.1++[QK.mk s0.1 A j.Lo true,QK.mk s0.1 A j.Hi false])] [13] 4153344 λX=>?_;have⟨_,_,_,_,_,_,_,_,h⟩:=bs4 h;have⟨_,_,h⟩:=bs h;refine AB [vo 16 rS 9 (b.2.2++[((a.Xj++([46]:Str))++j.Xj)++([32,108,101,97,115,116]:Str),((a.Xj++([46]:Str))++j.Xj)++([32,109,111,115,116]:Str)])] [17] 64880640 λY=>?_;cases sj h;exact QN (z (X 12) (Y 16)) 500
   apply Qu;cases sj h;exact QN (z c d) 553539175689
  refine QQ <|D2 R c d (x _ (sy h)) 216
 refine QQ <|D2 E g i (x _ (sy h)) 24
def LB (b:Qc) (a:Lz):Option (Lz×Int):=(Ki b).bind λc=>if c.2.2 !=0 then some ([],c.2.2) else (opt (((a.length:Int) !=(b.Xa.length:Int))==false) (LA a) default).bind λf=>(if ((a.length:Int) !=(b.Xa.length:Int))||(!f) then some ([],1) else (Ku (a.length:Int) c.1).bind λd=>(Kv b d).bind λg=>if !g then some ([],4) else if (a.length:Int)==0 then some ([],0) else (LC c.1 d a ([]:Lz)).bind λe=>if (e.length:Int)==0 then some ([],14) else some (e,0))
instance vU:Spc2 prog 56 LB (λd b=>[Qb.ty d,tsl rI b]) (λr=>ttup [tsl rI r.1,ti r.2]):=.mk λ{d b r} h=>by
 refine Fe func56 ntmps56 λe M f a=>?_
 apply Qa 34
 have⟨c,h0,h⟩:=bs h
 refine Qa 3712 ?_ (λ_=>by refine' pr 1 ?_;refine' rx (.p rfl (QO cal ((gW.ok h0).ro (T':=ttup [tsl BL c.1,tsl rS c.2.1,ti c.2.2]) gX) (.cons (.of z0)<|.nil))) 7 ?_;exact rnn)
 refine tIfs h 124 (λ_ h=>?_) λ_ h=>?_
 ·apply Qa 12
  exact tRE h a
 have⟨_,_,h⟩:=bs h
 refine tIfs h 108544 (λ_ h=>?_) λ_ h=>?_
 ·apply Qa 6
  exact tRE h a
 have⟨_,_,_,_,h⟩:=bs2 h
 apply Qa 928
 refine tIfs h 368 (λ_ h=>?_) λ_ h=>?_
 ·apply Qa 6
  exact tRE h a
 refine tIfs h 232 (λ_ h=>?_) λ_ h=>?_
 ·apply Qa 6
  exact tRE h a
 have⟨_,_,h⟩:=bs h
 apply Qa 32
 refine tIfs h 24 (λ_ h=>?_) λ_ h=>?_
 ·apply Qa 6
  exact tRE h a
 apply Qa 12
 exact tRE h a
def Ih (a:Qc) (d:Lz):Option (Lz×Bool):=(Qr (λ(s0:Int×Lz)=>if decide (s0.1<(a.Xa.length:Int)) then (EM d s0.1 9).bind λb=>(rm (s0.2.length+[b].length)).bind λ_=>some (.inl (i64.wrap (s0.1+1),s0.2++[b])) else some (.inr s0.2)) (0,[])).bind λe=>(LB a e).bind λc=>some (c.1,c.2==0)
instance vV:Spc2 prog 18 Ih (λb f=>[Qb.ty b,tsl rI f]) (λr=>ttup [tsl rI r.1,tb r.2]):=.mk λ{b f r} h=>by
 refine Fe func18 ntmps18 λv M g c=>?_
 apply Qa 34
 apply Qa 14
 apply tNl rI 3
 refine Qf λi j=>?_
 apply Qa 30
 have⟨k,h0,h⟩:=bs h
 have l:∀d e,d=k->To M g 32 [(6,tv e),(2,tptr (Qb.cs b))] [own rI 3 d e] i:=by
  intro d e m;subst m;refine j <|Q1 (by intro _ _ H;exact (H.Xn 0 rfl).pick [0,2]) ?_;have⟨_,_,h⟩:=bs h;apply Qa 384;apply Qa 48;exact tRE h c
 refine Qk <|AT h0 (λs0 a=>[(7,ti s0.1),(6,tv a)]) 10551425 (λs0 a=>[own rI 3 s0.2 a]) 1 (.slice none 0 0) 30 ?_;intro s0 a o w h n p;refine Qf λ_ q=>Qa 992 ?_;apply Qo h<;>intro _ h
 ·refine Qu <|q <|Qf λ_ s=>Qk ?_;have⟨t,_,_,_,h⟩:=bs2 h;refine AB [vo 5 rI 3 (s0.2++[t])] [6] 3776 λu=>?_;refine s <|QJ 248 ?_;exact Q7 p (u 5) (sy h) 58
 refine QQ <|Q7 l a (n _ (sy h)) 24
def LG (e:Lz) (d:Lz) (f:Lz):Option (Qc×(List (List Lz))×Lz×Bool):=(Ie e).bind λa=>(Ih a d).bind λb=>(Ih a f).bind λc=>(opt (((!b.2)||(!c.2))==false) (LD a b.1) default).bind λg=>(if ((!b.2)||(!c.2))||(!g) then some (a,[],[],false) else (LF a b.1 d).bind λh=>some (a,h,c.1,true))
instance vW:Spc3 prog 5 LG (λc d e=>[tsl rI c,tsl rI d,tsl rI e]) (λ(r:Qc×(List (List Lz))×Lz×Bool)=>ttup [Qb.ty r.1,tsl (rSl (rSl rI)) r.2.1,tsl rI r.2.2.1,tb r.2.2.2]):=.mk λ{c d e r} h=>by
 refine Fe func5 ntmps5 λg M i a=>?_
 refine QU [vb 0 (Qb.cs zz4)] [1] 226 λf=>?_
 have⟨b,_,_,_,_,_,_,_,h⟩:=bs4 h
 refine QU [vb 2 (Qb.cs zz4),vb 2 (Qb.cs b)] [3,4] 216 λj=>?_
 apply tFz 1
 apply Qa 8064
 apply Qa 16256
 refine tIfs h 962560 (λ_ h=>?_) λ_ h=>?_
 ·refine QU [v0 (box (Qb.cs b) (f 0))] [2] 540 λk=>?_
  exact tRE h a
 have⟨_,h0,h⟩:=bs h
 refine QU [v0 (box (Qb.cs b) (f 0))] [7] 17280 (λl=>?_) (λ_=>by refine' pr 4 ?_;refine' rx (.p rfl (QO cal ((gB.ok h0).roD Uf) (.cons (.of z2)<|.cons (.of z1)<|.cons (.of z0)<|.nil))) 5 ?_;exact rnn)
 exact tRE h a
def Fn:Option Bool:=(Dk [0,0,0,1] 2 2 2).bind λb=>(Dk [0,0,5] 3 1 1).bind λd=>(Dk [0] 2 1 1).bind λf=>(if ((b.2.2 !=0)||(d.2.2 !=0))||(f.2.2 !=14) then some false else (Hv b.1 [0,0,1,1]).bind λa=>(opt (a==true) (Hv (b.2.1).Flow [2,0,2,1,1,2,4]) default).bind λc=>(opt ((a&&c)==true) (Hv d.1 [0,1,2]) default).bind λe=>(opt (((a&&c)&&e)==true) (FQ 7 0 5) default).bind λg=>some (((a&&c)&&e)&&(g==5)))
instance vX:Spc0 prog 6 Fn ([]) tb:=.mk λ{r} h=>by
 refine Fe func6 ntmps6 λe M f a=>?_
 apply Qa 0
 have⟨b,_,c,_,d,_,h⟩:=bs3 h
 refine QU [vb 6 (AW.cs zz5),vb 6 (AW.cs b.2.1)] [7,9] 896 λg=>?_
 apply tFz 0
 refine QU [vb 6 (AW.cs zz5),vb 6 (AW.cs c.2.1)] [7,9] 7936 λi=>?_
 refine Q1 (λ_ _ H=>H.Xk [] rfl) ?_
 refine QU [vb 6 (AW.cs zz5),vb 6 (AW.cs d.2.1)] [7,9] 32256 λj=>?_
 refine Q1 (λ_ _ H=>H.Xk [] rfl) ?_
 refine tIfs h 54272 (λ_ h=>?_) λ_ h=>?_
 ·apply Qa 2
  exact tRE h a
 have⟨_,_,_,_,_,_,_,_,h⟩:=bs4 h
 apply Qa 524288
 exact tRE h a
def JZ (d:Qc) (f:(List (List Lz))):Option ((Option Cv)×Int):=(L4 d).bind λt=>if decide ((t.length:Int)>0) then (idx t 0).bind λx=>some (none,x.Code) else if (f.length:Int) !=(d.Xa.length:Int) then some (none,2) else (Qr (λ(s0:Int×List Qh)=>if decide (s0.1<(d.Xa.length:Int)) then (idx d.Xa s0.1).bind λu=>(Qr (λ(a:Int×List Qh)=>if decide (a.1<(u.Xb.length:Int)) then (idx u.Xb a.1).bind λy=>(if y.Xi==1 then (D3 d s0.1 a.1).bind λv=>(rm (a.2.length+[Qh.mk s0.1 a.1 v].length)).bind λ_=>some (a.2++[Qh.mk s0.1 a.1 v]) else some a.2).bind λz=>some (.inl (i64.wrap (a.1+1),z)) else some (.inr a.2)) (0,s0.2)).bind λA=>some (.inl (i64.wrap (s0.1+1),A)) else some (.inr s0.2)) (0,[])).bind λo=>(Qr (λ(n:Int)=>((if decide (n<(f.length:Int)) then (idx f n).bind λp=>(opt ((decide ((p.length:Int)>512))==false) (HT p (λx0=>Il x0 d n)) default).bind λt6=>(if (decide ((p.length:Int)>512))||t6 then some (.inr (.inr 2)) else some (.inl (i64.wrap (n+1)))) else some (.inr (.inl ()))):Option (Int⊕(Unit⊕Int)))) 0).bind λB=>(match B with | .inl _=>(Qr (λ(h:Int×MpK Qh (List Lz))=>((if decide (h.1<(o.length:Int)) then (idx o h.1).bind λg=>(idx f g.to).bind λC=>(mk (C.length:Int) ([]:Lz)).bind λD=>(idx f g.kind).bind λi=>(Qr (λ(b:Int×List Lz)=>((if decide (b.1<(i.length:Int)) then (idx i b.1).bind λj=>(idx j g.field).bind λc=>(opt ((decide (c<0))==false) (idx j g.field) default).bind λq=>(if (decide (c<0))||(decide (q>=(b.2.length:Int))) then some (.inr (.inr 2)) else (idx b.2 c).bind λw=>(rm (w.length+[b.1].length)).bind λ_=>(setAt b.2 c (w++[b.1])).bind λk=>some (.inl (i64.wrap (b.1+1),k))) else some (.inr (.inl b.2))):Option ((Int×List Lz)⊕((List Lz)⊕Int)))) (0,D)).bind λE=>(match E with | .inl F=>(E3 h.2 g F).bind λl=>(F6 g).bind λ_=>(some (.inl (i64.wrap (h.1+1),l))) | .inr H=>some (.inr (.inr H))) else some (.inr (.inl h.2))):Option ((Int×MpK Qh (List Lz))⊕((MpK Qh (List Lz))⊕Int)))) (0,(some []:MpK Qh (List Lz)))).bind λI=>(match I with | .inl K=>(JD (λ(r:MpK Str Qm) (e:(Int×Qm))=>((E3 r (e.2).Xj e.2).bind λm=>(some (.inl m)):Option ((MpK Str Qm)⊕(MpK Str Qm)))) (some []:MpK Str Qm) d.Xd).bind λs=>(match s with | .inl r=>(some (some (Cv.mk d f o K r []),0)) | .inr _=>none) | .inr L=>some (none,L)) | .inr M=>some (none,M))
instance gY:SpcS prog 31 (∀{c d r},JZ c d=some r->FnOk prog 31 [Qb.ty c,tsl (rSl (rSl rI)) d] [glo] (λv=>[optA (r.1).isSome (bxC ((r.1).getD default).x ((r.1).getD default).w ((r.1).getD default).links ((r.1).getD default).refs ((r.1).getD default).lives (gh v 1) (gh v 0)),optA (r.1).isSome (own QG 78 ((r.1).getD default).out (gh v 1))]) (λv=>ttup [tv (gh v 0),ti r.2])):=.mk λ{c d r} h=>by
 unfold JZ at h
 refine FeM func31 ntmps31 λM0 M w0 k=>?_
 apply Qa 34
 refine Qf λ_ k0=>?_
 have⟨_,_,h⟩:=bs h
 apply Qa 56
 apply Qa 120
 apply Qo h<;>intro _ h
 ·have⟨_,_,h⟩:=bs h
  apply Qa 96
  apply AG
  refine AA (As'':=[Sim.emp,Sim.emp,glo]) (λ_ _ H=>H.emp.emp) ?_
  cases sj h
  exact NG (AO (.tuple #[.pointer none,undef]) [0,1] k)
 apply Qu
 apply k0
 refine QU [v1 2 (λv0=>AJ (rSl (rSl rI)) (some []:MpK Qh (List Lz)) v0),v1 3 (λv0=>AJ Qs (some []:MpK Str Qm) v0),v3 2 3 5 (λv0 v1 v2=>box (Qb.cs c++[tsl (rSl (rSl rI)) d,tvs nilV,tvs v0,tvs v1,tvs nilV]) v2),v1 6 (λv0=>box [tvs (.pointer none)] v0),v2 5 6 (λv0 v1=>box [tvs v0] v1)] [3,4,6,7,8] 3224 (λb=>?_) (λb=>by refine' pr 2 ?_;refine' rx (.m [] [1] rfl rfl rfl (Po Qh (rSl (rSl rI)))) 0 ?_;refine' rx (.m [] [2] rfl rfl rfl (Po Str Qs)) 0 ?_;refine' rx (.ud2 (f:=λv0 v1=>tagg (Qb.cs c++[tsl (rSl (rSl rI)) d,tvs nilV,tvs v0,tvs v1,tvs nilV])) 2 3 rfl rfl [1,2] rfl rfl (.say (A:=AJ (rSl (rSl rI)) (some []:MpK Qh (List Lz)) (b 2)) (.head _) (λ_ _ h=>Uh h) λh0=>.say (A:=AJ Qs (some []:MpK Str Qm) (b 3)) (.tail _ (.head _)) (λ_ _ h=>Uh h) λh1=>OpJ.Xq (U:=[]) (λA hA=>by cases hA) (Cm underlying91 pl91 zv91 Wc.1 (.cons (R:=Qb) (u:=c) rfl z3 (leb rfl)<|.cons (R:=(rSl (rSl (rSl rI)))) (u:=d) rfl z2 (leb rfl)<|.cons (R:=rVal) (u:=(b 2)) rfl (Fct.Xo z1 λ_ _ _ h=>⟨h,h0⟩) (leb rfl)<|.cons (R:=rVal) (u:=(b 3)) rfl (Fct.Xo z0 λ_ _ _ h=>⟨h,h1⟩) (leb rfl)<|.nil _)))) 0 ?_;refine' rx (.m [] [3] rfl rfl rfl (JR (R:=(rAgg (Qb.cs c++[tsl (rSl (rSl rI)) d,tvs nilV,tvs (b 2),tvs (b 3),tvs nilV]) (G6 (G7 Qb) (Qt DB (Qt BV (Qt BV (Qt BV (Qt BV Ae)))))))) (u:=()) z0)) 0 ?_;refine' rx (.m [] [4] rfl rfl rfl (Eb (R:=rVal) (a:=.pointer none) FM zokP)) 0 ?_;refine' rx (.e [3] [4] [5] rfl rfl rfl rfl (Ug FM z0 z1)) 0 ?_;exact rnn)
 refine Q1 (λ_ _ H=>(((((H.nil QF 93).nil QG 78).Xk [6,0,1,2,3,4,5] rfl).Xl 2 rfl).add 0 rfl (λ_ _ _ h=>h.2)).pick [0,2,3,5,6]) ?_
 refine tIfs h 4032 (λ_ h=>?_) λ_ h=>?_
 ·apply Qa 102
  refine Q1 (λ_ _ H=>H.Xk [2,3,4] rfl) ?_
  apply AG
  refine AA (As'':=[Sim.emp,Sim.emp,glo,AJ (rSl (rSl rI)) (some []:MpK Qh (List Lz)) (b 2),AJ Qs (some []:MpK Str Qm) (b 3)]) (λ_ _ H=>H.emp.emp) ?_
  cases sj h
  exact NG (AO (.tuple #[.pointer none,undef]) [0,1] k)
 refine Qf λK0 k1=>?_
 apply Qa 2012
 have⟨e3,h2,h⟩:=bs h
 refine tJq (λ_ _=>[]) 148485 (λp e=>[own QG 78 ([]:List Qy) nilV,own QF 93 p e,AJ (rSl (rSl rI)) (some []:MpK Qh (List Lz)) (b 2),AJ Qs (some []:MpK Str Qm) (b 3),box (Qb.cs c++[tsl (rSl (rSl rI)) d,tvs e,tvs (b 2),tvs (b 3),tvs nilV]) (b 5)]) 34630336641 K0 (·=e3) (λp e j=>?_) λJ0=>?_
 ·subst j
  apply k1
  refine Qf λK1 k2=>?_
  apply Qa 126
  have⟨e4,h3,h⟩:=bs h
  refine tJp (λ_=>[]) 16261 (λ_=>[own QG 78 ([]:List Qy) nilV,AJ (rSl (rSl rI)) (some []:MpK Qh (List Lz)) (b 2),AJ Qs (some []:MpK Str Qm) (b 3),box (Qb.cs c++[tsl (rSl (rSl rI)) d,tvs e,tvs (b 2),tvs (b 3),tvs nilV]) (b 5)]) 34630336897 K1 (.inl ·=e4) (λp1 j=>?_) λJ1=>?_
  ·subst j
   simp only at h
   apply k2
   refine Qf λK2 k3=>?_
   refine Qa 1008 ?_ (λ_=>by refine' rx (.p rfl (Ck FM z0)) 5 ?_;exact rnn)
   have⟨e5,h4,h⟩:=bs h
   refine tJp (λ_=>[]) 773 (λx=>[own QG 78 ([]:List Qy) nilV,AJ (rSl (rSl rI)) x (b 2),AJ Qs (some []:MpK Str Qm) (b 3),box (Qb.cs c++[tsl (rSl (rSl rI)) d,tvs e,tvs (b 2),tvs (b 3),tvs nilV]) (b 5)]) 34630336897 K2 (.inl ·=e5) (λx j=>?_) λJ2=>?_
   ·subst j
    simp only at h
    apply k3
    intro a w H
    refine wp_seq_k (λ_ k4=>?_)
    apply tAtSt H
    refine Qa 24 ?_ (λ_=>by refine' pr 2 ?_;refine' rx (.p rfl (QO cal eU (.cons (.of z0)<|.nil))) 0 ?_;exact rnn)
    apply Qk
    have⟨_,h5,h⟩:=bs h
    refine Q1 (λ_ _ H=>H.pick [0,1]) ?_
    intro a w H
    refine gZ (va:=λ(i:Int×Qm)=>.int .i64 i.1) (vb:=λ(i:Int×Qm)=>Qs.ty i.2) (A:=(λ(s:MpK Str Qm) _=>[own QG 78 ([]:List Qy) nilV,own QF 93 p e,glo,AJ (rSl (rSl rI)) x (b 2),AJ Qs s (b 3),box (Qb.cs c++[tsl (rSl (rSl rI)) d,tvs e,tvs (b 2),tvs (b 3),tvs nilV]) (b 5)])) (s0:=(some []:MpK Str Qm)) (g0:=undef) (jump:=.ret) (jx:=.ret) .ret H z0 cal (eY h5) dc dc dc rfl (λs _ g r h M0 M w0 a l z a2 K Q a1 k H hK hN hX=>?_) (λs _ D a w M j T H=>?_) (λs _ D a w M j T H=>?_)
    ·replace H:St M w0 177 [(167,ti g.1),(168,Qs.ty g.2),(7,tptr (rVal.cs (b 5)))] [z,own QG 78 ([]:List Qy) nilV,own QF 93 p e,glo,AJ (rSl (rSl rI)) x (b 2),AJ Qs s (b 3),box (Qb.cs c++[tsl (rSl (rSl rI)) d,tvs e,tvs (b 2),tvs (b 3),tvs nilV]) (b 5)] a w0:=H.pick [0,1,3]
     refine Ui mixed [v1 0 (λv0=>box (Qs.cs zz2) v0),v1 0 (λv0=>box (Qs.cs g.2) v0)] H (λ_=>.m [] [7] rfl rfl rfl (Eb (R:=Qs) (a:=zz2) En N6)<|.e [] [7] [8] rfl rfl rfl rfl (Ec (R:=Qs) (a:=g.2) En z0 z2 (leb rfl))<|.nil _ _) kr (λ_ a w H=>?_)
     replace H:St _ _ _ [_,_] [_,_,_,_,_,_,_] _ _:=((((H.pick [0,3]).Xk [7,0,1,2,3,4,5,6] rfl).Xl 0 rfl).add 0 rfl (λ_ _ _ h=>h.2)).pick [0,3]
     refine hK _ _ _ _ H (λw H=>?_)
     apply gQ
     have⟨V,C,h⟩:=bs h
     refine Ui mixed [v0 (AJ Qs V (b 3))] H (λ_=>.o (Ck FM z1)<|.u [6] rfl rfl (Fy z0)<|.u [6] rfl rfl (Q5 SB z0)<|.u [6] rfl rfl (Fx (u:=(b 3)) R6 z0 rfl)<|.o (QP SC z4)<|.o (QM (u:=(g.2).Xj) tok9 z0 rfl)<|.o (Q4 En z6)<|.e [] [5] [7] rfl rfl rfl rfl (M3 (i:=(g.2).Xj) trivial underlying89 (Gi ud9) z3 z1 z0 C)<|.nil _ _) kr (λ_ a w H=>?_)
     have H:=H.to [3,8] [_,_] [_,_,_,_,_,_,_] rfl rfl
     cases sj h
     exact hN _ undef _ [0,1,2,3,4,5,6] _ _ _ rfl (H.Xk [0,1,2,3,4,6,5] rfl) rfl (λ_=>rfl)
    ·subst j
     simp only at h
     replace k:=T _ _ k
     have H:=H.to [1] [_] [_,_,_,_,_,_,_] rfl rfl
     refine k4 _ _ (tAtSt H ?_)
     refine Qa 12 ?_ (λ_=>by refine' rx (.p rfl (Ck FM z0)) 2 ?_;exact rnn)
     apply AG
     refine AA (As'':=[box (Qb.cs c++[tsl (rSl (rSl rI)) d,tsl QF p,tvs (b 2),tvs (b 3),tvs nilV]) (b 5),objA D defO,own QG 78 ([]:List Qy) nilV,glo,AJ (rSl (rSl rI)) x (b 2),AJ Qs s (b 3)]) (λ_ _ H=>((H.pick [0,1]).Xk [2,6,0,1,3,4,5] rfl).Xm 5 rfl) ?_
     refine AA (As'':=[box (Qb.cs c++[tsl (rSl (rSl rI)) d,tsl QF p,Bk (rSl (rSl rI)) x,tvs (b 3),tvs nilV]) (b 5),objA D defO,own QG 78 ([]:List Qy) nilV,glo,AJ Qs s (b 3)]) (λ_ _ H=>((H.pick [0,1]).Xk [4,0,1,2,3,5] rfl).shareCMK 6 rfl) ?_
     refine AA (As'':=[bxC c d p x s nilV (b 5),objA D defO,own QG 78 ([]:List Qy) nilV,glo]) (λ_ _ H=>((H.pick [0,1]).Xk [4,0,1,2,3] rfl).shareCMK 7 rfl) ?_
     refine AA (λ_ _ H=>H.Xk [1,0,2,3] rfl) ?_
     cases sj h
     exact λ_ _ H=>hH (.tuple #[b 5,nilV]) [1,2] k H rfl (.tmp z0 (.tmp z1 .nil)) rfl rfl rfl
    subst j
    simp only at h
    cases h
   refine tJr (λp3=>[(4,tv (.pointer none)),(5,ti p3)]) 129 (λ_=>[]) 4 (.inr ·=e5) (λp3 j=>?_) λJ3=>?_
   ·subst j
    simp only at h
    refine AA (As'':=[Sim.emp,Sim.emp,glo]) (λ_ _ H=>H.emp.emp) ?_
    cases sj h
    exact NG (AO (.tuple #[.pointer none,undef]) [0,1] k)
   apply Qk
   refine AC h4 (λt=>[(100,ti t.1)]) 34101805442 (λt=>[own QG 78 ([]:List Qy) nilV,AJ (rSl (rSl rI)) t.2 (b 2),AJ Qs (some []:MpK Str Qm) (b 3),box (Qb.cs c++[tsl (rSl (rSl rI)) d,tvs e,tvs (b 2),tvs (b 3),tvs nilV]) (b 5)]) 34630336897 126 ?_
   clear h
   intro t o K3 h m k5
   apply Qa 254
   refine Qf λ_ k6=>?_
   apply Qo h<;>intro _ h
   ·apply Qu
    apply k6
    refine Qf λ_ k7=>?_
    apply Qk
    have⟨W,_,h⟩:=bs h
    refine QU [v1 2 (λv0=>box (QF.cs (Qh.mk (0:Int) (0:Int) (0:Int))) v0),v1 2 (λv0=>box (QF.cs W) v0)] [3,4] 2024 λm1=>?_
    refine Q1 (λ_ _ H=>(((H.Xk [6,0,1,2,3,4,5] rfl).Xl 0 rfl).add 0 rfl (λ_ _ _ h=>h.2)).pick [0,3,4,5,6,7,8]) ?_
    have⟨t1,_,t2,h6,h⟩:=bs2 h
    refine QU [v1 6 (λv0=>own rVal 22 (replicate ((t1.length:Int)).toNat nilV) v0)] [7] 65280 (λm2=>?_) (λ_=>by refine' pr 6 ?_;refine' rx (.m [] [6] rfl rfl rfl (M6 (α:=Int) ud51 Ak (leb rfl) z0 z0 h6)) 0 ?_;refine' rx (.ud (f:=λv=>tv (dh (dmk v []))) 6 rfl [] rfl rfl (Ql z0)) 0 ?_;exact rnn)
    refine Q1 (As'':=[deep (dOwn rI 3) 22 t2 (dmk (m2 6) []),own QG 78 ([]:List Qy) nilV,own QF 93 p e,glo,AJ (rSl (rSl rI)) t.2 (b 2),AJ Qs (some []:MpK Str Qm) (b 3),box (Qb.cs c++[tsl (rSl (rSl rI)) d,tvs e,tvs (b 2),tvs (b 3),tvs nilV]) (b 5)]) (λ_ _ H=>(H.Xk [6,0,1,2,3,4,5] rfl).makeD hP rfl rfl h6) ?_
    refine Qf λK4 k8=>?_
    have⟨_,_,h⟩:=bs h
    apply Qa 65504
    have⟨e6,h7,h⟩:=bs h
    refine tJq (λ_ y1=>[(16,tv (dh y1))]) 2081537 (λp4 y1=>[deep (dOwn rI 3) 22 p4 y1,own QG 78 ([]:List Qy) nilV,AJ Qs (some []:MpK Str Qm) (b 3),box (Qb.cs c++[tsl (rSl (rSl rI)) d,tvs e,tvs (b 2),tvs (b 3),tvs nilV]) (b 5)]) 4434027413633 K4 (.inl ·=e6) (λp4 y1 j=>?_) λJ4=>?_
    ·subst j
     simp only at h
     apply k8
     refine Q1 (As'':=[own QG 78 ([]:List Qy) nilV,own QF 93 p e,glo,AJ (rSl (rSl rI)) t.2 (b 2),AJ Qs (some []:MpK Str Qm) (b 3),box (Qb.cs c++[tsl (rSl (rSl rI)) d,tvs e,tvs (b 2),tvs (b 3),tvs nilV]) (b 5)]) (λ_ _ H=>(H.shareD 0 rfl).pick [0,2,3,4,5,6,7,8]) ?_
     have⟨X,E,_,h8,h⟩:=bs2 h
     refine AB [v0 (AJ (rSl (rSl rI)) X (b 2))] [7] 32272 (λm3=>?_) (λ_=>by refine' rx (.p rfl (Ck FM z5)) 5 ?_;refine' rx (.e [] [3] [6] rfl rfl rfl rfl (M3 (i:=W) (N7 h8) underlying88 N8 z2 (Fct.ints [W.kind,W.field,W.to] z1) z0 E)) 0 ?_;exact rnn)
     apply k7
     apply QJ 508
     refine AA (λ_ _ H=>(H.pick [2,3,0,4,5,6]).Xk [0,1,2,5,3,4] rfl) ?_
     exact Qx k5 (sy h) 126
    refine tJr (λp5=>[(4,tv (.pointer none)),(5,ti p5)]) 129 (λ_=>[]) 5 (.inr ·=e6) (λp5 j=>?_) λJ5=>?_
    ·subst j
     simp only at h
     exact Qx J3 (m _ (sy h)) 6
    apply Qk
    refine AT h7 (λn q=>[(117,ti n.1),(16,tv (dh q))]) 4365299499394 (λn q=>[deep (dOwn rI 3) 22 n.2 q,own QG 78 ([]:List Qy) nilV,AJ Qs (some []:MpK Str Qm) (b 3),box (Qb.cs c++[tsl (rSl (rSl rI)) d,tvs e,tvs (b 2),tvs (b 3),tvs nilV]) (b 5)]) 4434027413633 (dmk (m2 6) []) 4094 ?_
    clear h
    intro n q o K5 h m k9
    apply Qa 8190
    refine Qf λ_ a3=>?_
    apply Qo h<;>intro _ h
    ·apply Qu
     apply a3
     refine Qf λ_ a4=>?_
     apply Qk
     have⟨_,_,h⟩:=bs h
     apply Qa 262064
     refine Qf λ_ a5=>?_
     have⟨I,_,_,_,h⟩:=bs2 h
     refine Qa 1073676288 ?_ (λ_=>by refine' pr 13 ?_;refine' rx (.gu [0] rfl rfl rfl bq6 (λhc=>Ee ud51 (.cond z0 hc))) 2 ?_;exact rnn)
     apply Qo h<;>intro _ h
     ·apply Qa 2566
      refine Q1 (λ_ _ H=>H.Xk [0,2,3] rfl) ?_
      apply AG
      refine AA (λ_ _ H=>(H.pick [0,1]).Xk [2] rfl) ?_
      exact Qx J5 (m _ (sy h)) 6
     apply Qu
     apply a5
     have⟨r2,L,h⟩:=bs h
     refine Q1 (As'':=[own rI 3 r2 (dh (ds q I.toNat)),Ad (dOwn rI 3) 22 n.2 q (some I.toNat),own QG 78 ([]:List Qy) nilV,own QF 93 p e,glo,AJ (rSl (rSl rI)) t.2 (b 2),AJ Qs (some []:MpK Str Qm) (b 3),box (Qb.cs c++[tsl (rSl (rSl rI)) d,tvs e,tvs (b 2),tvs (b 3),tvs nilV]) (b 5)]) (λ_ _ H=>H.openD L) ?_
     have⟨_,_,Y,F,h⟩:=bs2 h
     refine AB [v1 16 (λv0=>own rI 3 (r2++[n.1]) v0),v1 16 (λv0=>Ad (dOwn rI 3) 22 n.2 (dset (n.2).length q I.toNat (dmk v0 [])) (some I.toNat))] [17,19] 8585740418 (λN=>?_) (λN=>by refine' pr 12 ?_;refine' rx (.u [1] rfl rfl (Ay ud51 B6 z5 z0 L)) 0 ?_;refine' rx (.u [1] rfl rfl (A9 Ak z0 L)) 3 ?_;refine' rx (.u [1] rfl rfl (Ay ud51 B6 z16 z11 L)) 0 ?_;refine' rx (.e [8] [1] [9] rfl rfl rfl rfl (Ps (B:=own rI 3 (r2++[n.1]) (N 16)) (g2:=(dmk (N 16) [])) (λ_ _ h=>EQ h) Ak z0 z1 L (leb rfl) rfl)) 0 ?_;exact rnn)
     refine AA (As'':=[deep (dOwn rI 3) 22 Y (dset (n.2).length q I.toNat (dmk (N 16) [])),own QG 78 ([]:List Qy) nilV,own QF 93 p e,glo,AJ (rSl (rSl rI)) t.2 (b 2),AJ Qs (some []:MpK Str Qm) (b 3),box (Qb.cs c++[tsl (rSl (rSl rI)) d,tvs e,tvs (b 2),tvs (b 3),tvs nilV]) (b 5)]) (λ_ _ H=>(H.Xk [6,7,0,1,2,3,4,5] rfl).shutN (D:=(dOwn rI 3)) (y:=(r2++[n.1])) (g2:=(dmk (N 16) [])) L F) ?_
     apply a4
     apply QJ 32764
     exact Q7 k9 (dset (n.2).length q I.toNat (dmk (N 16) [])) (sy h) 30918339673323487659273
    apply QQ
    exact Q7 J4 q (m _ (sy h)) 8160
   apply QQ
   exact Qx J2 (m _ (sy h)) 96
  refine tJr (λp6=>[(4,tv (.pointer none)),(5,ti p6)]) 129 (λ_=>[]) 4 (.inr ·=e4) (λp6 j=>?_) λJ6=>?_
  ·subst j
   simp only at h
   refine AA (As'':=[Sim.emp,Sim.emp,glo]) (λ_ _ H=>H.emp.emp) ?_
   cases sj h
   exact NG (AO (.tuple #[.pointer none,undef]) [0,1] k)
  apply Qk
  refine AC h3 (λs5=>[(81,ti s5)]) 34101805442 (λs5=>[own QG 78 ([]:List Qy) nilV,AJ (rSl (rSl rI)) (some []:MpK Qh (List Lz)) (b 2),AJ Qs (some []:MpK Str Qm) (b 3),box (Qb.cs c++[tsl (rSl (rSl rI)) d,tvs e,tvs (b 2),tvs (b 3),tvs nilV]) (b 5)]) 34630336897 126 ?_
  clear h
  intro s5 o K6 h m a6
  apply Qa 254
  refine Qf λ_ a7=>?_
  apply Qo h<;>intro _ h
  ·apply Qu
   apply a7
   refine Qf λ_ a8=>?_
   apply Qk
   have⟨_,_,h⟩:=bs h
   refine QU [v1 3 (λv0=>box (rI.cs (0:Int)) v0),v1 3 (λv0=>box (rI.cs s5) v0)] [4,5] 8112 λm5=>?_
   refine Q1 (λ_ _ H=>(((H.Xk [6,0,1,2,3,4,5] rfl).Xl 0 rfl).add 0 rfl (λ_ _ _ h=>h.2)).pick [0,3,4,5,6,7,8,9]) ?_
   have⟨_,_,h⟩:=bs h
   apply Qa 129280
   apply Qo h<;>intro _ h
   ·apply Qa 6
    refine Q1 (λ_ _ H=>H.Xk [2] rfl) ?_
    apply AG
    exact Qx J6 (m _ (sy h)) 6
   apply Qu
   apply a8
   apply QJ 500
   exact Qx a6 (sy h) 415018025733
  apply QQ
  exact Qx J1 (m _ (sy h)) 224
 apply Qk
 refine AT h2 (λZ O=>[(45,ti Z.1)]) 311395631490 (λZ O=>[own QG 78 ([]:List Qy) nilV,own QF 93 Z.2 O,AJ (rSl (rSl rI)) (some []:MpK Qh (List Lz)) (b 2),AJ Qs (some []:MpK Str Qm) (b 3),box (Qb.cs c++[tsl (rSl (rSl rI)) d,tvs O,tvs (b 2),tvs (b 3),tvs nilV]) (b 5)]) 34630336641 nilV 414 ?_
 clear h
 intro Z O o K7 h m a9
 apply Qa 254
 refine Qf λ_ b0=>?_
 apply Qo h<;>intro _ h
 ·apply Qu
  apply b0
  refine Qf λK8 b1=>?_
  apply Qk
  have⟨t4,_,h⟩:=bs h
  refine QU [v1 3 (λv0=>box (Qq.cs zz1) v0),v1 3 (λv0=>box (Qq.cs t4) v0)] [4,6] 8112 λm6=>?_
  refine Q1 (λ_ _ H=>(((H.Xk [6,0,1,2,3,4,5] rfl).Xl 0 rfl).add 0 rfl (λ_ _ _ h=>h.2)).pick [0,3,4,5,6,7,8,9]) ?_
  apply Qa 8156
  have⟨e7,b2,h⟩:=bs h
  refine tJq (λ_ _=>[]) 16262 (λp7 y4=>[own QG 78 ([]:List Qy) nilV,own QF 93 p7 y4,AJ (rSl (rSl rI)) (some []:MpK Qh (List Lz)) (b 2),AJ Qs (some []:MpK Str Qm) (b 3),box (Qb.cs c++[tsl (rSl (rSl rI)) d,tvs y4,tvs (b 2),tvs (b 3),tvs nilV]) (b 5)]) 34630336641 K8 (·=e7) (λp7 y4 j=>?_) λJ7=>?_
  ·subst j
   apply b1
   apply QJ 252
   exact Q7 a9 y4 (sy h) 415018025733
  apply Qk
  refine AT b2 (λP S=>[(53,ti P.1)]) 34101805442 (λP S=>[own QG 78 ([]:List Qy) nilV,own QF 93 P.2 S,AJ (rSl (rSl rI)) (some []:MpK Qh (List Lz)) (b 2),AJ Qs (some []:MpK Str Qm) (b 3),box (Qb.cs c++[tsl (rSl (rSl rI)) d,tvs S,tvs (b 2),tvs (b 3),tvs nilV]) (b 5)]) 34630336641 O 2046 ?_
  clear h
  intro P S o K9 h m b3
  apply Qa 4094
  refine Qf λ_ b4=>?_
  apply Qo h<;>intro _ h
  ·apply Qu
   apply b4
   refine Qf λb5 b6=>?_
   apply Qk
   have⟨t5,_,h⟩:=bs h
   refine QU [v1 3 (λv0=>box (Qd.cs zz0) v0),v1 3 (λv0=>box (Qd.cs t5) v0)] [4,6] 130992 λm7=>?_
   refine Q1 (λ_ _ H=>(((H.Xk [6,0,1,2,3,4,5] rfl).Xl 0 rfl).add 0 rfl (λ_ _ _ h=>h.2)).pick [0,3,4,5,6,7,8,9,10,11,12,13]) ?_
   apply Qa 65512
   have⟨p8,a0,h⟩:=bs h
   refine tJ1 (λ_=>[]) 16260 (λy6=>[own QG 78 ([]:List Qy) nilV,AJ (rSl (rSl rI)) (some []:MpK Qh (List Lz)) (b 2),AJ Qs (some []:MpK Str Qm) (b 3),own QF 93 p8 y6,box (Qb.cs c++[tsl (rSl (rSl rI)) d,tvs y6,tvs (b 2),tvs (b 3),tvs nilV]) (b 5)]) 34630287873 b5 (λy6=>?_) λJ8=>?_
   ·apply b6
    apply QJ 4092
    refine AA (λ_ _ H=>(H.pick [1,2,0,3,4,5,6,7,8,9]).Xk [0,4,1,2,3,5] rfl) ?_
    exact Q7 b3 y6 (sy h) 2046
   replace h:=a0
   clear a0
   apply Qo h<;>intro _ h
   ·have⟨t6,_,_,_,h⟩:=bs2 h
    refine AB [v1 13 (λv0=>own QF 93 (P.2++[Qh.mk Z.1 P.1 t6]) v0),v1 13 (λv0=>box (Qb.cs c++[tsl (rSl (rSl rI)) d,tvs v0,tvs (b 2),tvs (b 3),tvs nilV]) (b 5))] [14,17] 536363008 (λm8=>?_) (λ_=>by refine' rx (.p rfl (Ck FM z9)) 0 ?_;refine' rx (.p rfl (Ck FM z10)) 15 ?_;exact rnn)
    cases sj h
    exact QN (J8 (m8 13)) 4092
   apply Qu
   cases sj h
   refine AA (λ_ _ H=>(H.pick [2,3,4,5,6,7,8,9,10,11]).Xk [0,2,3,4,1,5] rfl) ?_
   exact QN (J8 S) 2046
  apply QQ
  exact Q7 J7 S (m _ (sy h)) 4032
 apply QQ
 exact Q7 J0 O (m _ (sy h)) 224
def JQ (k:Qc) (u:(List (List Lz))):Option (List Qy):=(JZ k u).bind λy=>if y.2 !=0 then some [Qy.mk (-1) (-1) (-1) y.2] else (y.1).bind λh=>(Qr (λ(s0:Int×Qc×(List (List Lz))×(List Qh)×(MpK Qh (List Lz))×(MpK Str Qm)×List Qy)=>if decide (s0.1<(u.length:Int)) then (idx u s0.1).bind λz=>(idx k.Xa s0.1).bind λF=>(opt ((decide ((z.length:Int)<F.Lo))==false) (idx k.Xa s0.1) default).bind λL=>(Dh ((decide ((z.length:Int)<F.Lo))||(decide ((z.length:Int)>L.Hi))) 4).bind λM=>(Dw (Cv.mk s0.2.1 s0.2.2.1 s0.2.2.2.1 s0.2.2.2.2.1 s0.2.2.2.2.2.1 s0.2.2.2.2.2.2) s0.1 (-1) (-1) [M]).bind λo=>some (.inl (i64.wrap (s0.1+1),o.x,o.w,o.links,o.refs,o.lives,o.out)) else some (.inr (s0.2.1,s0.2.2.1,s0.2.2.2.1,s0.2.2.2.2.1,s0.2.2.2.2.2.1,s0.2.2.2.2.2.2))) (0,h.x,h.w,h.links,h.refs,h.lives,h.out)).bind λp=>(Qr (λ(b:Int×Qc×(List (List Lz))×(List Qh)×(MpK Qh (List Lz))×(MpK Str Qm)×List Qy)=>if decide (b.1<(u.length:Int)) then (idx u b.1).bind λH=>(Qr (λ(c:Int×Qc×(List (List Lz))×(List Qh)×(MpK Qh (List Lz))×(MpK Str Qm)×List Qy×Mp Bool)=>if decide (c.1<(H.length:Int)) then (idx H c.1).bind λI=>(Qr (λ(a:Int×Qc×(List (List Lz))×(List Qh)×(MpK Qh (List Lz))×(MpK Str Qm)×List Qy×Mp Bool)=>if decide (a.1<(I.length:Int)) then (NA (Cv.mk a.2.1 a.2.2.1 a.2.2.2.1 a.2.2.2.2.1 a.2.2.2.2.2.1 a.2.2.2.2.2.2.1) b.1 c.1 a.1 a.2.2.2.2.2.2.2).bind λK=>(Dw (Cv.mk a.2.1 a.2.2.1 a.2.2.2.1 a.2.2.2.2.1 a.2.2.2.2.2.1 a.2.2.2.2.2.2.1) b.1 c.1 a.1 [K.1]).bind λq=>some (.inl (i64.wrap (a.1+1),q.x,q.w,q.links,q.refs,q.lives,q.out,K.2)) else some (.inr (a.2.1,a.2.2.1,a.2.2.2.1,a.2.2.2.2.1,a.2.2.2.2.2.1,a.2.2.2.2.2.2.1,a.2.2.2.2.2.2.2))) (0,c.2.1,c.2.2.1,c.2.2.2.1,c.2.2.2.2.1,c.2.2.2.2.2.1,c.2.2.2.2.2.2.1,c.2.2.2.2.2.2.2)).bind λm=>(Qr (λ(f:Int×Qc×(List (List Lz))×(List Qh)×(MpK Qh (List Lz))×(MpK Str Qm)×List Qy)=>if decide (f.1<(k.Xc.length:Int)) then (idx k.Xc f.1).bind λv=>(EX k v.Xi).bind λn=>(opt ((n==b.1)==true) (idx k.Xa b.1) default).bind λA=>(opt ((n==b.1)==true) (Mq A I v) default).bind λB=>(Dh ((n==b.1)&&(!B)) 24).bind λC=>(Dw (Cv.mk f.2.1 f.2.2.1 f.2.2.2.1 f.2.2.2.2.1 f.2.2.2.2.2.1 f.2.2.2.2.2.2) b.1 c.1 (-1) [C]).bind λi=>some (.inl (i64.wrap (f.1+1),i.x,i.w,i.links,i.refs,i.lives,i.out)) else some (.inr (f.2.1,f.2.2.1,f.2.2.2.1,f.2.2.2.2.1,f.2.2.2.2.2.1,f.2.2.2.2.2.2))) (0,m.1,m.2.1,m.2.2.1,m.2.2.2.1,m.2.2.2.2.1,m.2.2.2.2.2.1)).bind λr=>some (.inl (i64.wrap (c.1+1),r.1,r.2.1,r.2.2.1,r.2.2.2.1,r.2.2.2.2.1,r.2.2.2.2.2,m.2.2.2.2.2.2)) else some (.inr (c.2.1,c.2.2.1,c.2.2.2.1,c.2.2.2.2.1,c.2.2.2.2.2.1,c.2.2.2.2.2.2.1))) (0,b.2.1,b.2.2.1,b.2.2.2.1,b.2.2.2.2.1,b.2.2.2.2.2.1,b.2.2.2.2.2.2,(some []:Mp Bool))).bind λs=>some (.inl (i64.wrap (b.1+1),s.1,s.2.1,s.2.2.1,s.2.2.2.1,s.2.2.2.2.1,s.2.2.2.2.2)) else some (.inr (b.2.1,b.2.2.1,b.2.2.2.1,b.2.2.2.2.1,b.2.2.2.2.2.1,b.2.2.2.2.2.2))) (0,p.1,p.2.1,p.2.2.1,p.2.2.2.1,p.2.2.2.2.1,p.2.2.2.2.2)).bind λl=>(Qr (λ(d:Int×Qc×(List (List Lz))×(List Qh)×(MpK Qh (List Lz))×(MpK Str Qm)×List Qy)=>if decide (d.1<(l.2.2.1.length:Int)) then (idx l.2.2.1 d.1).bind λg=>(idx k.Xa g.kind).bind λD=>(idx D.Xb g.field).bind λw=>(F6 g).bind λ_=>(Qr (λ(e:Int×Qc×(List (List Lz))×(List Qh)×(MpK Qh (List Lz))×(MpK Str Qm)×List Qy)=>if decide (e.1<(((Ax d.2.2.2.2.1 g).getD ([]:(List Lz))).length:Int)) then (idx ((Ax d.2.2.2.2.1 g).getD ([]:(List Lz))) e.1).bind λx=>(Dh ((decide ((x.length:Int)<w.Lo))||(decide ((x.length:Int)>w.Hi))) 11).bind λE=>(Dw (Cv.mk e.2.1 e.2.2.1 e.2.2.2.1 e.2.2.2.2.1 e.2.2.2.2.2.1 e.2.2.2.2.2.2) g.kind e.1 g.field [E]).bind λj=>some (.inl (i64.wrap (e.1+1),j.x,j.w,j.links,j.refs,j.lives,j.out)) else some (.inr (e.2.1,e.2.2.1,e.2.2.2.1,e.2.2.2.2.1,e.2.2.2.2.2.1,e.2.2.2.2.2.2))) (0,d.2.1,d.2.2.1,d.2.2.2.1,d.2.2.2.2.1,d.2.2.2.2.2.1,d.2.2.2.2.2.2)).bind λt=>some (.inl (i64.wrap (d.1+1),t.1,t.2.1,t.2.2.1,t.2.2.2.1,t.2.2.2.2.1,t.2.2.2.2.2)) else some (.inr (d.2.1,d.2.2.1,d.2.2.2.1,d.2.2.2.2.1,d.2.2.2.2.2.1,d.2.2.2.2.2.2))) (0,l.1,l.2.1,l.2.2.1,l.2.2.2.1,l.2.2.2.2.1,l.2.2.2.2.2)).bind λN=>some N.2.2.2.2.2
instance vY:SpcS prog 8 (∀{R Y r},JQ R Y=some r->FnOk prog 8 [Qb.ty R,tsl (rSl (rSl rI)) Y] [glo] (λ_=>[]) (λ_=>tsl QG r)):=.mk λ{R Y r} h=>by
 refine Fe func8 ntmps8 λM0 M w0 O=>?_
 apply Qa 18
 have⟨p,h0,h⟩:=bs h
 refine QU [v1 2 (λv0=>optA (p.1).isSome (bxC ((p.1).getD default).x ((p.1).getD default).w ((p.1).getD default).links ((p.1).getD default).refs ((p.1).getD default).lives (gh v0 1) (gh v0 0))),v1 2 (λv0=>optA (p.1).isSome (own QG 78 ((p.1).getD default).out (gh v0 1)))] [3,3] 1920 (λa=>?_) (λ_=>by refine' pr 2 ?_;refine' rx (.m [0] [1,2] rfl rfl rfl ((QO cal (gY.ok h0) (.cons (.of z1)<|.cons (.of z0)<|.nil)).glo)) 0 ?_;refine' rx (.ud (f:=λv=>ttup [tv (gh v 0),ti p.2]) 2 rfl [] rfl rfl (CS z0)) 0 ?_;refine' rx (.ud (f:=λv=>tv (gh v 0)) 2 rfl [] rfl rfl (Ea z0 rfl)) 1 ?_;refine' rx (.ud (f:=λv=>tv (gh v 0)) 2 rfl [] rfl rfl (Ql z1)) 1 ?_;exact rnn)
 refine tIfs h 124 (λ_ h=>?_) λ_ h=>?_
 ·apply Qa 16
  apply tSl [0]
  exact tRE h O
 refine Qf λK0 k0=>?_
 refine Qf λ_ k1=>?_
 have⟨d,P,h⟩:=bs h
 rw[P]
 refine Q1 (As':=[glo,bxC d.x d.w d.links d.refs d.lives (gh (a 2) 1) (gh (a 2) 0),own QG 78 d.out (gh (a 2) 1)]) (λ_ _ H=>H) ?_
 apply QJ 430
 apply k1
 have⟨e3,h1,h⟩:=bs h
 refine tJq (λ_ _=>[]) 16261 (λz S=>[bxC z.1 z.2.1 z.2.2.1 z.2.2.2.1 z.2.2.2.2.1 S (gh (a 2) 0),own QG 78 z.2.2.2.2.2 S]) 16514 K0 (·=e3) (λz S e=>?_) λJ0=>?_
 ·subst e
  apply k0
  refine Qf λK1 k2=>?_
  apply Qa 62
  have⟨e4,h2,h⟩:=bs h
  refine tJq (λ_ _=>[]) 773 (λq T=>[bxC q.1 q.2.1 q.2.2.1 q.2.2.2.1 q.2.2.2.2.1 T (gh (a 2) 0),own QG 78 q.2.2.2.2.2 T]) 16514 K1 (·=e4) (λq T e=>?_) λJ1=>?_
  ·subst e
   apply k2
   refine Qf λK2 k3=>?_
   apply Qa 496
   have⟨e5,h3,h⟩:=bs h
   have J2:∀x Z,x=e5->To M w0 191 [(5,tv (gh (a 2) 0))] [glo,bxC x.1 x.2.1 x.2.2.1 x.2.2.2.1 x.2.2.2.2.1 Z (gh (a 2) 0),own QG 78 x.2.2.2.2.2 Z] K2:=by
    intro x Z e;subst e;refine k3 <|Qa 48 ?_;apply tSl [0,2];apply AG;refine AA (by intro _ _ H;exact ((H.Xk [1,0] rfl).Xn 1 rfl).pick [0]) ?_;exact oRE h O
   refine Qk <|AT h3 (λs0 D=>[(137,ti s0.1)]) 1621115266 (λs0 D=>[bxC s0.2.1 s0.2.2.1 s0.2.2.2.1 s0.2.2.2.2.1 s0.2.2.2.2.2.1 D (gh (a 2) 0),own QG 78 s0.2.2.2.2.2.2 D]) 16514 T 62 ?_;intro s0 D o K3 h g k4;apply Qa 126;refine Qf λ_ k5=>Qo h (λ_ h=>?_) λ_ h=>?_
   ·refine Qu <|k5 <|Qf λK4 k6=>Qk ?_;have⟨m,_,_,_,t2,_,_,h4,h⟩:=bs4 h;refine QU [vb 2 (QF.cs (Qh.mk (0:Int) (0:Int) (0:Int))),vb 2 (QF.cs m)] [3,4] 1000 λm1=>?_;apply tFz 3;refine QU [vb 11 (Qd.cs zz0),vb 11 (Qd.cs t2)] [12,13] 520192 λm2=>?_;apply tFz 3;refine Qa 65472 ?_ (λ_=>by refine' pr 5 ?_;refine' rx (.p rfl (Pm (x0:=([]:(List Lz))) (i:=m) (N7 h4) underlying88 N8 BZ zok51 z1 (Fct.ints [m.kind,m.field,m.to] z0))) 2 ?_;exact rnn);have⟨e6,h5,h⟩:=bs h;refine tJq (λ_ _=>[]) 16263 (λA U=>[bxC A.1 A.2.1 A.2.2.1 A.2.2.2.1 A.2.2.2.2.1 U (gh (a 2) 0),own QG 78 A.2.2.2.2.2 U]) 16514 K4 (·=e6) (λA U e=>?_) λJ3=>?_
    ·subst e;refine k6 <|QJ 124 ?_;exact Q7 k4 U (sy h) 2701165317
    refine Qk <|AT h5 (λj Q=>[(157,tsl (rSl rI) ((Ax s0.2.2.2.2.1 m).getD ([]:(List Lz)))),(158,ti (((Ax s0.2.2.2.2.1 m).getD ([]:(List Lz))).length:Int)),(159,ti j.1)]) 34101805185 (λj Q=>[bxC j.2.1 j.2.2.1 j.2.2.2.1 j.2.2.2.2.1 j.2.2.2.2.2.1 Q (gh (a 2) 0),own QG 78 j.2.2.2.2.2.2 Q]) 16514 D 2046 ?_;intro j Q o K5 h g k7;apply Qa 4094;refine Qf λ_ k8=>Qo h (λ_ h=>?_) λ_ h=>?_
    ·refine Qu <|k8 <|Qf λ_ k9=>Qk ?_;have⟨t3,_,_,_,E,h6,h⟩:=bs3 h;apply Qa 130992;apply Pr (Γ':=[(20,ti j.1),(21,tsl rI t3),(157,tsl (rSl rI) ((Ax s0.2.2.2.2.1 m).getD ([]:(List Lz)))),(158,ti (((Ax s0.2.2.2.2.1 m).getD ([]:(List Lz))).length:Int)),(159,ti j.1),(19,tptr (Qd.cs t2)),(18,tptr (QF.cs m)),(135,tsl QF q.2.2.1),(136,ti (q.2.2.1.length:Int)),(137,ti s0.1),(5,tv (gh (a 2) 0)),(2,tptr (Qb.cs R))]);refine AB [v1 20 (λv0=>bxC E.x E.w E.links E.refs E.lives v0 (gh (a 2) 0)),vo 20 QG 78 E.out] [21,21] 17163091968 (λm3=>?_) (λ_=>by refine' pr 20 ?_;refine' rx (.e [] [1,2] [3,4] rfl rfl rfl rfl (QO cal (Mb.ok h6) (.cons (.of z19)<|.cons (.of z17)<|.cons (.of z16)<|.cons (.of z14)<|.cons (.of z0)<|.nil))) 0 ?_;exact rnn);refine k9 <|QJ 4092 ?_;exact Q7 k7 (m3 20) (sy h) 185773546616702141189
    refine QQ <|Q7 J3 Q (g _ (sy h)) 3968
   refine QQ <|Q7 J2 D (g _ (sy h)) 32
  refine Qk <|AT h2 (λs F=>[(68,ti s.1)]) 1621115266 (λs F=>[bxC s.2.1 s.2.2.1 s.2.2.2.1 s.2.2.2.2.1 s.2.2.2.2.2.1 F (gh (a 2) 0),own QG 78 s.2.2.2.2.2.2 F]) 16514 S 62 ?_;intro s F o K6 h g a0;apply Qa 126;refine Qf λ_ a1=>Qo h (λ_ h=>?_) λ_ h=>?_
  ·refine Qu <|a1 <|Qf λK7 a2=>Qk ?_;have⟨_,_,e7,h7,h⟩:=bs2 h;apply Qa 4016;refine QU [v1 0 (λv0=>omap AE (some []:Mp Bool) v0)] [1] 1022 (λV=>?_) (λ_=>by refine' rx (.m [] [3] rfl rfl rfl (Mr AE)) 1 ?_;exact rnn);apply Qa 8062;refine tJq (λ_ _=>[]) 16264 (λB W=>[bxC B.1 B.2.1 B.2.2.1 B.2.2.2.1 B.2.2.2.2.1 W (gh (a 2) 0),own QG 78 B.2.2.2.2.2 W]) 16514 K7 (·=e7) (λB W e=>?_) λJ4=>?_
   ·subst e;refine a2 <|QJ 124 ?_;exact Q7 a0 W (sy h) 2701165317
   refine Qk <|AT h7 (λn I=>[(76,ti n.1)]) 34103902594 (λn I=>[bxC n.2.1 n.2.2.1 n.2.2.2.1 n.2.2.2.2.1 n.2.2.2.2.2.1 I (gh (a 2) 0),own QG 78 n.2.2.2.2.2.2.1 I,omap AE n.2.2.2.2.2.2.2 (V 0)]) 2113666 F 4078 ?_;intro n I o K8 h g a3;apply Qa 4094;refine Qf λ_ a4=>Qo h (λ_ h=>?_) λ_ h=>?_
   ·refine Qu <|a4 <|Qf λK9 a5=>Qk ?_;have⟨_,_,e8,h8,h⟩:=bs2 h;apply Qa 130992;refine Qf λa6 a7=>Qa 65532 ?_;refine tJq (λ_ _=>[]) 16260 (λy X=>[bxC y.1 y.2.1 y.2.2.1 y.2.2.2.1 y.2.2.2.2.1 X (gh (a 2) 0),own QG 78 y.2.2.2.2.2.1 X,omap AE y.2.2.2.2.2.2 (V 0)]) 2113666 a6 (·=e8) (λy X e=>?_) λJ5=>?_
    ·subst e;refine a7 <|Qa 131068 ?_;have⟨e9,h9,h⟩:=bs h;refine tJq (λ_ _=>[]) 16263 (λC t=>[bxC C.1 C.2.1 C.2.2.1 C.2.2.2.1 C.2.2.2.2.1 t (gh (a 2) 0),own QG 78 C.2.2.2.2.2 t]) 10502274 K9 (·=e9) (λC t e=>?_) λJ6=>?_
     ·subst e;refine a5 <|QJ 4092 ?_;exact Q7 a3 t (sy h) 185773546616702141189
     refine Qk <|AT h9 (λu k=>[(102,ti u.1)]) 34101805442 (λu k=>[bxC u.2.1 u.2.2.1 u.2.2.2.1 u.2.2.2.2.1 u.2.2.2.2.2.1 k (gh (a 2) 0),own QG 78 u.2.2.2.2.2.2 k]) 10502274 X 65534 ?_;intro u k o c1 h g a8;apply Qa 131070;refine Qf λ_ a9=>Qo h (λ_ h=>?_) λ_ h=>?_
     ·refine Qu <|a9 <|Qf λ_ b0=>Qk ?_;have⟨t5,_,_,_,_,_,_,_,h⟩:=bs4 h;refine QU [vb 2 (QV.cs zz3),vb 2 (QV.cs t5)] [3,4] 1048552 λm5=>?_;apply tFz 4;have⟨_,_,K,b1,h⟩:=bs2 h;refine AB [v1 22 (λv0=>bxC K.x K.w K.links K.refs K.lives v0 (gh (a 2) 0)),vo 22 QG 78 K.out] [23,23] 1099478073344 (λm6=>?_) (λ_=>by refine' pr 22 ?_;refine' rx (.e [] [1,2] [4,5] rfl rfl rfl rfl (QO cal (Mb.ok b1) (.cons (.of z21)<|.cons (.of z20)<|.cons (.of z19)<|.cons (.of .k)<|.cons (.of z0)<|.nil))) 0 ?_;exact rnn);refine b0 <|QJ 131068 ?_;refine AA (λ_ _ H=>(H.pick [1,2,0,3,4,5,6,7,8,9,10,11,12,13,14]).Xk [0,2,3,1] rfl) ?_;exact Q7 a8 (m6 22) (sy h) 65534
     refine QQ <|Q7 J6 k (g _ (sy h)) 130944
    refine Qk <|AT h8 (λb c=>[(83,ti b.1)]) 266403970 (λb c=>[bxC b.2.1 b.2.2.1 b.2.2.2.1 b.2.2.2.2.1 b.2.2.2.2.2.1 c (gh (a 2) 0),own QG 78 b.2.2.2.2.2.2.1 c,omap AE b.2.2.2.2.2.2.2 (V 0)]) 2113666 I 32766 ?_;intro b c o c2 h g b2;apply Qa 65534;refine Qf λ_ b3=>Qo h (λ_ h=>?_) λ_ h=>?_
    ·refine Qu <|b3 <|Qf λ_ b4=>Qk <|Qa 262132 ?_;have⟨t7,b5,L,b6,h⟩:=bs2 h;refine AB [v0 (omap AE t7.2 (V 0)),v1 11 (λv0=>bxC L.x L.w L.links L.refs L.lives v0 (gh (a 2) 0)),vo 11 QG 78 L.out] [10,12,12] 268419584 (λm7=>?_) (λ_=>by refine' pr 9 ?_;refine' rx (.e [1,2] [3] [4] rfl rfl rfl rfl (CY [bxC b.2.1 b.2.2.1 b.2.2.2.1 b.2.2.2.2.1 b.2.2.2.2.2.1 c (gh (a 2) 0),own QG 78 b.2.2.2.2.2.2.1 c] cal (gH.ok b5) (.cons (.boxP 8 z4 (.head _) (.tail _ (.head _)) rfl)<|.cons (.of z3)<|.cons (.of z2)<|.cons (.of z1)<|.cons (.of z0)<|.nil) (λ_=>Ah) (λ_=>Hq (Pt (λ_=>Ah))))) 1 ?_;refine' rx (.e [] [1,2] [5,6] rfl rfl rfl rfl (QO cal (Mb.ok b6) (.cons (.of z10)<|.cons (.of z9)<|.cons (.of z8)<|.cons (.of z7)<|.cons (.of z0)<|.nil))) 0 ?_;exact rnn);refine b4 <|QJ 131068 ?_;refine AA (λ_ _ H=>(H.pick [2,0,3,4,5,6,7,8,9,10,11,12,13,14]).Xk [0,2,3,1] rfl) ?_;exact Q7 b2 (m7 11) (sy h) 32766
    refine QQ <|Q7 J5 c (g _ (sy h)) 65520
   refine QQ <|AA (λ_ _ H=>(H.pick [6,7,8,9,10]).Xk [0,1,2] rfl) ?_;exact Q7 J4 I (g _ (sy h)) 62
  refine QQ <|Q7 J1 F (g _ (sy h)) 96
 refine Qk <|AT h1 (λw l=>[(35,ti w.1)]) 34101805442 (λw l=>[bxC w.2.1 w.2.2.1 w.2.2.2.1 w.2.2.2.2.1 w.2.2.2.2.2.1 l (gh (a 2) 0),own QG 78 w.2.2.2.2.2.2 l]) 16514 (gh (a 2) 1) 126 ?_;intro w l o c3 h g b7;apply Qa 254;refine Qf λ_ b8=>Qo h (λ_ h=>?_) λ_ h=>?_
 ·refine Qu <|b8 <|Qf λ_ b9=>Qk ?_;have⟨_,_,_,_,_,_,_,_,h⟩:=bs4 h;apply Qa 8112;have⟨N,c0,h⟩:=bs h;refine AB [v1 24 (λv0=>bxC N.x N.w N.links N.refs N.lives v0 (gh (a 2) 0)),vo 24 QG 78 N.out] [25,25] 16911433728 (λm8=>?_) (λ_=>by refine' pr 24 ?_;refine' rx (.e [] [1,2] [3,4] rfl rfl rfl rfl (QO cal (Mb.ok c0) (.cons (.of z23)<|.cons (.of z22)<|.cons (.of .k)<|.cons (.of .k)<|.cons (.of z0)<|.nil))) 0 ?_;exact rnn);refine b9 <|QJ 252 ?_;exact Q7 b7 (m8 24) (sy h) 415018025733
 refine QQ <|Q7 J0 l (g _ (sy h)) 224
def NH (b:Qc) (f:(List (List Lz))) (a:Lz):Option Int:=(JQ b f).bind λc=>(opt ((decide ((c.length:Int)>0))==true) (idx c 0) default).bind λg=>if (decide ((c.length:Int)>0))&&(decide (g.Xi<0)) then (idx c 0).bind λh=>some h.Code else (opt (((a.length:Int) !=(b.Xa.length:Int))==false) (EE a (λx0=>Pa x0)) default).bind λt3=>(if ((a.length:Int) !=(b.Xa.length:Int))||t3 then some 1 else (EE a (λx0=>MW x0)).bind λi=>if i then some 4 else (Qr (λ(s0:Int)=>((if decide (s0<(a.length:Int)) then (idx a s0).bind λd=>(idx b.Xa s0).bind λe=>(opt ((decide (d<e.Lo))==false) (idx b.Xa s0) default).bind λj=>(if (decide (d<e.Lo))||(decide (d>j.Hi)) then some (.inr (.inr 14)) else some (.inl (i64.wrap (s0+1)))) else some (.inr (.inl ()))):Option (Int⊕(Unit⊕Int)))) 0).bind λk=>(match k with | .inl _=>(some 0) | .inr l=>some l))
instance vZ:SpcS prog 24 (∀{c d a r},NH c d a=some r->FnOk prog 24 [Qb.ty c,tsl (rSl (rSl rI)) d,tsl rI a] [glo] (λ_=>[]) (λ_=>ti r)):=.mk λ{c d a r} h=>by
 refine Fe func24 ntmps24 λv M k b=>?_
 apply Qa 50
 refine Qf λ_ l=>?_
 have⟨_,_,_,_,h⟩:=bs2 h
 apply Qa 176
 apply Qk
 apply Qa 30720
 apply Qo h<;>intro _ h
 ·have⟨_,_,h⟩:=bs h
  apply Qa 32
  exact tRE h b
 have⟨_,_,h⟩:=bs h
 apply Qa 51200
 apply Qo h<;>intro _ h
 ·apply Qa 2
  exact tRE h b
 have⟨_,_,h⟩:=bs h
 apply Qa 104
 apply Qo h<;>intro _ h
 ·apply Qa 2
  exact tRE h b
 apply Qu
 apply l
 refine Qf λm n=>?_
 apply Qa 46
 have⟨f,h0,h⟩:=bs h
 have p:∀g,(.inl g)=f->To M k 68 [] [glo] m:=by
  intro g e;subst e;simp only at h;refine n <|Qa 2 ?_;exact tRE h b
 refine tJr (λi=>[(6,ti i)]) 1 (λ_=>[]) 2 (.inr ·=f) (λi e=>?_) λq=>?_
 ·subst e;simp only at h;exact oRE h b
 refine Qk <|AC h0 (λs0=>[(44,ti s0)]) 10502530 (λs0=>[]) 2 30 ?_;intro s0 o w h j s;apply Qa 62;refine Qf λ_ t=>Qo h (λ_ h=>?_) λ_ h=>?_
 ·refine Qu <|t <|Qf λ_ u=>Qk ?_;have⟨_,_,_,_,_,_,h⟩:=bs3 h;apply Qa 1968;apply Qa 31719424;apply Qo h<;>intro _ h
  ·apply Qa 2;apply AG;exact Qx q (j _ (sy h)) 2
  refine Qu <|u <|QJ 116 ?_;exact Qx s (sy h) 16810757
 refine QQ <|Qx p (j _ (sy h)) 0
def NI (a:Q2) (b:Int) (c:Int):Option (Int×Q2):=(idx (a.x).Xa b).bind λk=>(idx k.Xb c).bind λh=>(idx a.w b).bind λl=>(F8 [-1] (l.length:Int)).bind λm=>(GD (Q2.mk a.x a.old a.w) b c).bind λn=>(D3 a.x b c).bind λo=>(idx a.w o).bind λp=>(Dk (cpy m n) (p.length:Int) h.Lo h.Hi).bind λd=>if d.2.2 !=0 then some (14,Q2.mk a.x a.old a.w) else (Qr (λ(s0:Int×List (List Lz))=>if decide (s0.1<(d.1.length:Int)) then (idx d.1 s0.1).bind λq=>(idx s0.2 b).bind λi=>(idx i s0.1).bind λj=>(idx j c).bind λs=>(setAt j c q).bind λe=>(setAt i s0.1 e).bind λf=>(setAt s0.2 b f).bind λg=>some (.inl (i64.wrap (s0.1+1),g)) else some (.inr s0.2)) (0,a.w)).bind λr=>some (0,Q2.mk a.x a.old r)
instance iA:SpcS prog 26 (∀{d a b k l r},NI b k l=some r->FnOk prog 26 [tv d,ti k,ti l] [bxM b.x b.old (dh a) d,deep (dRow (dOwn rI 3) 22) 51 b.w a] (λ_=>[bxM (r.2).x (r.2).old (dh a) d,deep (dRow (dOwn rI 3) 22) 51 (r.2).w a]) (λ_=>ti r.1)):=.mk λ{d a b k l r} h=>by
 refine Fe func26 ntmps26 λS M U e=>?_
 apply Qa 28
 have⟨_,_,t,_,h⟩:=bs2 h
 refine QU [vb 12 (Qd.cs zz0),vb 12 (Qd.cs t)] [13,14] 122880 (λV=>?_) (λ_=>by refine' pr 3 ?_;refine' rx (.u [0] rfl rfl (FC Er z0)) 10 ?_;exact rnn)
 apply tFz 2
 refine Qf λ_ u=>?_
 have⟨W,h0,p,_,h⟩:=bs2 h
 refine AB [vo 9 rI 3 p] [10] 64544 (λv=>?_) (λ_=>by refine' pr 6 ?_;refine' rx (.u [1] rfl rfl (Ay ud29 BZ z1 z0 h0)) 0 ?_;refine' rx (.u [1] rfl rfl (A9 Bb z0 h0)) 0 ?_;refine' rx (.u [1] rfl rfl (.part (Q9 h0 .refl) (Ee ud51 z0))) 2 ?_;exact rnn)
 apply u
 have⟨q,w,_,_,h⟩:=bs2 h
 refine QU [vo 4 rI 3 q,v0 (own rI 3 (cpy p q) (v 9))] [5,6] 16290 (λX=>?_) (λ_=>by refine' pr 4 ?_;refine' rx (.m [0,1] [3] rfl rfl rfl (CY [bxM b.x b.old (dh a) d,deep (dRow (dOwn rI 3) 22) 51 b.w a] cal (UE.ok w) (.cons (.boxPD 5 z2 (.head _) (.tail _ (.head _)) rfl)<|.cons (.of z1)<|.cons (.of z0)<|.nil) (λ_=>Ah) (λ_=>Hq (JV (by intro x T h;simp at h;(first | (subst h;exact Ah) | (rcases h with h | h | h<;>subst h<;>exact Ah))))))) 0 ?_;refine' rx (.e [3] [2] [4] rfl rfl rfl rfl (Uj (R:=rI) ud22 rfl tok3 z4 z0)) 0 ?_;exact rnn)
 refine Qf λ_ y=>?_
 apply Q1 (by intro _ _ H;exact ((H.Xk [3,0,1,2] rfl).Xn 4 rfl).pick [0,2,3,6,7,8,9])
 have⟨Y,m,z,_,h⟩:=bs2 h
 refine AB [vb 24 (AW.cs zz5),vb 24 (AW.cs z.2.1)] [25,27] 31876710432 (λZ=>?_) (λ_=>by refine' pr 12 ?_;refine' rx (.u [1] rfl rfl (Ay ud29 BZ z7 z0 m)) 0 ?_;refine' rx (.u [1] rfl rfl (A9 Bb z0 m)) 0 ?_;refine' rx (.u [1] rfl rfl (.part (Q9 m .refl) (Ee ud51 z0))) 13 ?_;exact rnn)
 refine AA (λ_ _ H=>H.Xk [0,1,2] rfl) ?_
 apply y
 refine tIfs h 2012 (λ_ h=>?_) λ_ h=>?_
 ·apply Qa 234
  exact Qp h (·▸AO undef [0,1] e)
 refine Qf λA B=>?_
 apply Qa 4014
 have⟨C,D,h⟩:=bs h
 refine tJp (λ_=>[]) 8 (λs=>[deep (dRow (dOwn rI 3) 22) 51 s a]) 130 A (·=C) (λs E=>?_) λF=>?_
 ·subst E
  apply B
  apply Qa 6
  exact Qp h (·▸AO undef [0,1] e)
 apply Qk
 refine Q1 (λ_ _ H=>(H.pick [0,1,2,6,7,8]).Xk [0,1] rfl) ?_
 refine AC D (λs0=>[(70,ti s0.1)]) 34101805442 (λs0=>[deep (dRow (dOwn rI 3) 22) 51 s0.2 a]) 130 126 ?_
 intro s0 o K1 h I K
 apply Qa 254
 refine Qf λ_ L=>?_
 apply Qo h<;>intro _ h
 ·apply Qu
  apply L
  refine Qf λ_ N=>?_
  apply Qk
  have⟨_,_,h⟩:=bs h
  apply Qa 8112
  have⟨r4,c,r5,j,r6,O,P,f,h⟩:=bs4 h
  have⟨Q,g,n,i,h⟩:=bs2 h
  refine AB [v0 (deep (dRow (dOwn rI 3) 22) 51 n a)] [14] 4128784 (λm4=>?_) (λ_=>by refine' pr 5 ?_;refine' rx (.u [1] rfl rfl (Ay ud29 BZ z1 z0 c)) 0 ?_;refine' rx (.u [1] rfl rfl (A9 Bb z0 c)) 1 ?_;refine' rx (.u [1] rfl rfl (.part (Q9 c .refl) (Ay ud51 B6 z1 z0 j))) 0 ?_;refine' rx (.u [1] rfl rfl (.part (Q9 c .refl) (A9 Ak z0 j))) 2 ?_;refine' rx (.u [1] rfl rfl (.part (Q9 c (Q9 j .refl)) (CC ud22 tok3 z2 z1 O))) 0 ?_;refine' rx (.e [] [1] [2] rfl rfl rfl rfl (.focus (Bz c i (Bz j g (.refl λ_=>Iff.rfl))) (Db tok3 z0 z1 f))) 0 ?_;exact rnn)
  apply N
  apply QJ 508
  exact Qx K (sy h) 484278567943
 apply QQ
 exact Qx F (I _ (sy h)) 32
def Gk (l:Qc) (n:(List (List Lz))) (a:Lz):Option ((List (List Lz))×Int×Int):=(NH l n a).bind λv=>if v !=0 then some ([],0,v) else (mk (a.length:Int) ([]:(List Lz))).bind λz=>(Qr (λ(s0:Int×List (List Lz))=>if decide (s0.1<(a.length:Int)) then (idx a s0.1).bind λA=>(Qr (λ(h:Int×List (List Lz))=>if decide (h.1<A) then (idx h.2 s0.1).bind λw=>(idx l.Xa s0.1).bind λB=>(mk (B.Xb.length:Int) 0).bind λC=>(rm (w.length+1)).bind λ_=>(setAt h.2 s0.1 (w++[C])).bind λi=>some (.inl (i64.wrap (h.1+1),i)) else some (.inr h.2)) (0,s0.2)).bind λD=>some (.inl (i64.wrap (s0.1+1),D)) else some (.inr s0.2)) (0,z)).bind λE=>(Qr (λ(c:Int×List (List Lz)×Qc×(List (List Lz)))=>((if decide (c.1<(a.length:Int)) then (Kg (Q2.mk c.2.2.1 c.2.2.2 c.2.1) c.1).bind λo=>(idx l.Xa c.1).bind λx=>(Qr (λ(b:Int×Qc×(List (List Lz))×List (List Lz))=>((if decide (b.1<(x.Xb.length:Int)) then (idx x.Xb b.1).bind λj=>(opt ((j.Xi==1)==true) (NI (Q2.mk b.2.1 b.2.2.1 b.2.2.2) c.1 b.1) default).bind λm=>if (j.Xi==1)&&(m.1 !=0) then some (.inr (.inr ([],0,14))) else some (.inl (i64.wrap (b.1+1),(bif ((j.Xi==1)==true) then m.2 else Q2.mk b.2.1 b.2.2.1 b.2.2.2).x,(bif ((j.Xi==1)==true) then m.2 else Q2.mk b.2.1 b.2.2.1 b.2.2.2).old,(bif ((j.Xi==1)==true) then m.2 else Q2.mk b.2.1 b.2.2.1 b.2.2.2).w)) else some (.inr (.inl (b.2.1,b.2.2.1,b.2.2.2)))):Option ((Int×Qc×(List (List Lz))×List (List Lz))⊕((Qc×(List (List Lz))×List (List Lz))⊕((List (List Lz))×Int×Int))))) (0,o.x,o.old,o.w)).bind λF=>(match F with | .inl p=>(JY (Q2.mk p.1 p.2.1 p.2.2) c.1).bind λk=>(if k.1 !=0 then some (.inr (.inr ([],0,14))) else (idx (k.2).w c.1).bind λH=>(Qr (λ(d:Int×Qc×(List (List Lz))×List (List Lz))=>if decide (d.1<(H.length:Int)) then (NF (Q2.mk d.2.1 d.2.2.1 d.2.2.2) c.1 d.1).bind λf=>some (.inl (i64.wrap (d.1+1),f.x,f.old,f.w)) else some (.inr (d.2.1,d.2.2.1,d.2.2.2))) (0,(k.2).x,(k.2).old,(k.2).w)).bind λq=>some (.inl (i64.wrap (c.1+1),q.2.2,q.1,q.2.1))) | .inr r=>some (.inr (.inr (r.1,r.2.1,r.2.2)))) else some (.inr (.inl (c.2.1,c.2.2.1,c.2.2.2)))):Option ((Int×List (List Lz)×Qc×(List (List Lz)))⊕((List (List Lz)×Qc×(List (List Lz)))⊕((List (List Lz))×Int×Int))))) (0,E,l,n)).bind λI=>(match I with | .inl s=>(Qr (λ(e:Int×List (List Lz)×Qc×(List (List Lz)))=>if decide (e.1<(a.length:Int)) then (NC (Q2.mk e.2.2.1 e.2.2.2 e.2.1) e.1).bind λg=>some (.inl (i64.wrap (e.1+1),g.w,g.x,g.old)) else some (.inr (e.2.1,e.2.2.1,e.2.2.2))) (0,s.1,s.2.1,s.2.2)).bind λy=>(GF n y.1).bind λt=>(some (y.1,t,0)) | .inr u=>some (u.1,u.2.1,u.2.2))
instance iB:SpcS prog 7 (∀{l m a r},Gk l m a=some r->FnOk prog 7 [Qb.ty l,tsl (rSl (rSl rI)) m,tsl rI a] [glo] (λ_=>[]) (λ_=>ttup [tsl (rSl (rSl rI)) r.1,ti r.2.1,ti r.2.2])):=.mk λ{l m a r} h=>by
 refine Fe func7 ntmps7 λM0 M w0 w=>?_
 apply Qa 194
 refine Qf λ_ k0=>?_
 have⟨_,_,h⟩:=bs h
 apply Qa 480
 apply Qa 124
 apply Qo h<;>intro _ h
 ·apply Qa 28
  exact tRE h w
 apply Qu
 apply k0
 have⟨t0,h0,e3,h1,h⟩:=bs2 h
 refine QU [vo 4 rVal 51 (replicate ((a.length:Int)).toNat nilV),v2 4 6 (λv0 v1=>bxM l m (dh (dmk v0 [])) v1)] [5,7] 14592 (λd=>?_) (λd=>by refine' pr 4 ?_;refine' rx (.m [] [1] rfl rfl rfl (M6 (α:=Lz) ud29 Bb (leb rfl) z0 z0 h0)) 0 ?_;refine' rx (.ud (f:=λv=>tagg (Qb.cs l++[tsl (rSl (rSl rI)) m,tvs (dh (dmk v []))])) 4 rfl [1] rfl rfl (.say (A:=own rVal 51 (replicate ((a.length:Int)).toNat nilV) (d 4)) (.head _) (λ_ _ h=>EQ h) λh2=>OpJ.Xq (U:=[]) (λA hA=>by cases hA) (Cm underlying68 pl68 zv68 zc68 (.cons (R:=Qb) (u:=l) rfl z4 (leb rfl)<|.cons (R:=(rSl (rSl (rSl rI)))) (u:=m) rfl z3 (leb rfl)<|.cons (R:=rVal) (u:=(dh (dmk (d 4) []))) rfl (Fct.Xo z0 λ_ _ _ h=>⟨h,h2⟩) (leb rfl)<|.nil _)))) 0 ?_;refine' rx (.m [] [2] rfl rfl rfl (JR (R:=(rAgg (Qb.cs l++[tsl (rSl (rSl rI)) m,tvs (dh (dmk (d 4) []))]) (G6 (G7 Qb) (Qt DB (Qt BV Ae))))) (u:=()) z0)) 1 ?_;exact rnn)
 refine Q1 (As'':=[deep (dRow (dOwn rI 3) 22) 51 t0 (dmk (d 4) []),glo,bxM l m (dh (dmk (d 4) [])) (d 6)]) (λ_ _ H=>(H.Xk [1,0,2] rfl).makeD UT rfl rfl h0) ?_
 refine Qf λK0 k1=>?_
 apply Qa 254
 refine tJq (λ_ _=>[]) 16261 (λp0 b=>[deep (dRow (dOwn rI 3) 22) 51 p0 b,bxM l m (dh b) (d 6)]) 16769 K0 (·=e3) (λp0 b k=>?_) λJ0=>?_
 ·subst k
  apply k1
  refine Qf λK1 k2=>?_
  apply Qa 252
  have⟨e4,h3,h⟩:=bs h
  refine tJp (λ_=>[]) 115460 (λQ=>[deep (dRow (dOwn rI 3) 22) 51 Q.1 b,bxM Q.2.1 Q.2.2 (dh b) (d 6)]) 16769 K1 (.inl ·=e4) (λQ k=>?_) λJ1=>?_
  ·subst k
   simp only at h
   apply k2
   refine Qf λK2 k3=>?_
   apply Qa 60
   have⟨e5,h4,h⟩:=bs h
   refine tJp (λ_=>[]) 644 (λO=>[deep (dRow (dOwn rI 3) 22) 51 O.1 b,bxM O.2.1 O.2.2 (dh b) (d 6)]) 16769 K2 (·=e5) (λO k=>?_) λJ2=>?_
   ·subst k
    apply k3
    have⟨_,h5,h⟩:=bs h
    refine Qa 14864 ?_ (λ_=>by refine' pr 9 ?_;refine' rx (.u [0] rfl rfl (CY [deep (dRow (dOwn rI 3) 22) 51 O.1 b] cal (eQ.ok h5) (.cons (.of z4)<|.cons (.deep z0 (.head _))<|.nil) (λ_=>Ah) (λ_=>EY (x:=undef)))) 3 ?_;exact rnn)
    apply tSl [0,1]
    apply AG
    refine AA (As'':=[glo]) (λ_ _ H=>(H.shareD 2 rfl).pick [0,4,5]) ?_
    exact oRE h w
   apply Qk
   refine AC h4 (λs0=>[(121,ti s0.1)]) 10551426 (λs0=>[deep (dRow (dOwn rI 3) 22) 51 s0.2.1 b,bxM s0.2.2.1 s0.2.2.2 (dh b) (d 6)]) 16769 30 ?_
   intro s0 o K3 h n k4
   apply Qa 62
   refine Qf λ_ k5=>?_
   apply Qo h<;>intro _ h
   ·apply Qu
    apply k5
    refine Qf λ_ k6=>?_
    apply Qk
    apply Qa 244
    have⟨Z,h6,h⟩:=bs h
    refine AB [v0 (bxM Z.x Z.old (dh b) (d 6)),v0 (deep (dRow (dOwn rI 3) 22) 51 Z.w b)] [3,3] 480 (λm1=>?_) (λ_=>by refine' pr 2 ?_;refine' rx (.e [] [2,0] [3,4] rfl rfl rfl rfl (QO cal (gR.ok h6) (.cons (.of z1)<|.cons (.of z0)<|.nil))) 0 ?_;exact rnn)
    apply k6
    apply QJ 60
    refine AA (λ_ _ H=>(H.pick [1,0,2,3]).Xk [2,0,1] rfl) ?_
    exact Qx k4 (sy h) 30
   apply QQ
   exact Qx J2 (n _ (sy h)) 48
  refine tJr (λS=>[(6,tsl (rSl (rSl rI)) S.1),(7,ti S.2.1),(8,ti S.2.2)]) 16513 (λ_=>[]) 3 (.inr ·=e4) (λS k=>?_) λJ3=>?_
  ·subst k
   simp only at h
   exact oRE h w
  apply Qk
  refine AC h3 (λE=>[(69,ti E.1)]) 266403970 (λE=>[deep (dRow (dOwn rI 3) 22) 51 E.2.1 b,bxM E.2.2.1 E.2.2.2 (dh b) (d 6)]) 16769 126 ?_
  intro E o K4 h n k7
  apply Qa 254
  refine Qf λ_ k8=>?_
  apply Qo h<;>intro _ h
  ·apply Qu
   apply k8
   refine Qf λK5 k9=>?_
   apply Qk
   apply Qa 1012
   have⟨t2,h7,_,_,e6,h8,h⟩:=bs3 h
   refine QU [v0 (bxM t2.x t2.old (dh b) (d 6)),v0 (deep (dRow (dOwn rI 3) 22) 51 t2.w b)] [3,3] 2032 (λm2=>?_) (λ_=>by refine' pr 2 ?_;refine' rx (.e [] [2,0] [3,4] rfl rfl rfl rfl (QO cal (f9.ok h7) (.cons (.of z1)<|.cons (.of z0)<|.nil))) 0 ?_;exact rnn)
   refine Qf λK6 a0=>?_
   apply Qa 65472
   refine tJp (λ_=>[]) 16261 (λT=>[bxM T.1 T.2.1 (dh b) (d 6),deep (dRow (dOwn rI 3) 22) 51 T.2.2 b]) 16514 K6 (.inl ·=e6) (λT k=>?_) λJ4=>?_
   ·subst k
    simp only at h
    apply a0
    refine Qf λ_ a1=>?_
    have⟨t3,h9,h⟩:=bs h
    refine QU [v0 (bxM (t3.2).x (t3.2).old (dh b) (d 6)),v0 (deep (dRow (dOwn rI 3) 22) 51 (t3.2).w b)] [3,3] 4080 (λm3=>?_) (λ_=>by refine' pr 2 ?_;refine' rx (.e [] [1,2] [3,4] rfl rfl rfl rfl (QO cal (gO.ok h9) (.cons (.of z1)<|.cons (.of z0)<|.nil))) 1 ?_;exact rnn)
    apply Qo h<;>intro _ h
    ·apply Qa 14
     apply tSl [0]
     apply AG
     exact Qx J3 (n _ (sy h)) 14
    apply Qu
    apply a1
    refine Qf λ_ a2=>?_
    have⟨r2,z,h⟩:=bs h
    refine QJ 260880 ?_ (λ_=>by refine' pr 5 ?_;refine' rx (.u [2] rfl rfl (Ay ud29 BZ z1 z0 z)) 0 ?_;refine' rx (.u [2] rfl rfl (A9 Bb z0 z)) 0 ?_;refine' rx (.u [2] rfl rfl (.part (Q9 z .refl) (Ee ud51 z0))) 1 ?_;exact rnn)
    apply a2
    have⟨e7,a3,h⟩:=bs h
    refine tJp (λ_=>[]) 16262 (λV=>[bxM V.1 V.2.1 (dh b) (d 6),deep (dRow (dOwn rI 3) 22) 51 V.2.2 b]) 16514 K5 (·=e7) (λV k=>?_) λJ5=>?_
    ·subst k
     apply k9
     apply QJ 252
     refine AA (λ_ _ H=>(H.pick [1,0,2,3,4,5]).Xk [2,0,1] rfl) ?_
     exact Qx k7 (sy h) 126
    apply Qk
    refine AC a3 (λF=>[(110,ti F.1)]) 266420355 (λF=>[bxM F.2.1 F.2.2.1 (dh b) (d 6),deep (dRow (dOwn rI 3) 22) 51 F.2.2.2 b]) 16514 2044 ?_
    intro F o K7 h n a4
    apply Qa 2046
    refine Qf λ_ a5=>?_
    apply Qo h<;>intro _ h
    ·apply Qu
     apply a5
     refine Qf λ_ a6=>?_
     apply Qk
     apply Qa 8180
     have⟨t4,a7,h⟩:=bs h
     refine AB [v0 (bxM t4.x t4.old (dh b) (d 6)),v0 (deep (dRow (dOwn rI 3) 22) 51 t4.w b)] [4,4] 32704 (λm4=>?_) (λ_=>by refine' pr 3 ?_;refine' rx (.e [] [1,2] [3,4] rfl rfl rfl rfl (QO cal (gV.ok a7) (.cons (.of z2)<|.cons (.of z1)<|.cons (.of z0)<|.nil))) 0 ?_;exact rnn)
     apply a6
     apply QJ 2044
     exact Qx a4 (sy h) 1306105879606690053
    apply QQ
    exact Qx J5 (n _ (sy h)) 2016
   refine tJr (λW=>[(6,tsl (rSl (rSl rI)) W.1),(7,ti W.2.1),(8,ti W.2.2)]) 16513 (λ_=>[]) 2 (.inr ·=e6) (λW k=>?_) λJ6=>?_
   ·subst k
    simp only at h
    exact Qx J3 (n _ (sy h)) 14
   apply Qk
   refine AC h8 (λg=>[(82,ti g.1)]) 34101805442 (λg=>[bxM g.2.1 g.2.2.1 (dh b) (d 6),deep (dRow (dOwn rI 3) 22) 51 g.2.2.2 b]) 16514 2046 ?_
   intro g o K8 h n a8
   apply Qa 4094
   refine Qf λ_ a9=>?_
   apply Qo h<;>intro _ h
   ·apply Qu
    apply a9
    refine Qf λ_ b0=>?_
    apply Qk
    have⟨X,_,I,b1,h⟩:=bs2 h
    refine QU [vb 3 (Qd.cs zz0),vb 3 (Qd.cs X)] [4,6] 130992 λm5=>?_
    apply tFz 3
    refine QU [v0 (bxM (bif ((X.Xi==1)==true) then I.2 else Q2.mk g.2.1 g.2.2.1 g.2.2.2).x (bif ((X.Xi==1)==true) then I.2 else Q2.mk g.2.1 g.2.2.1 g.2.2.2).old (dh b) (d 6)),v0 (deep (dRow (dOwn rI 3) 22) 51 (bif ((X.Xi==1)==true) then I.2 else Q2.mk g.2.1 g.2.2.1 g.2.2.2).w b)] [8,8] 8381440 (λm6=>?_) (λ_=>by refine' pr 7 ?_;refine' rx (.ge (N:=λc _=>[bxM (bif c then I.2 else Q2.mk g.2.1 g.2.2.1 g.2.2.2).x (bif c then I.2 else Q2.mk g.2.1 g.2.2.1 g.2.2.2).old (dh b) (d 6),deep (dRow (dOwn rI 3) 22) 51 (bif c then I.2 else Q2.mk g.2.1 g.2.2.1 g.2.2.2).w b]) [] [1,2] [3,4] rfl rfl rfl rfl rfl bq3 (λhc=>QO cal (iA.ok (Dm b1 hc)) (.cons (.of (.cond z2 hc))<|.cons (.of (.cond z1 hc))<|.cons (.of (.cond z0 hc))<|.nil)) rfl) 2 ?_;exact rnn)
    apply Qo h<;>intro _ h
    ·apply Qa 14
     apply tSl [0]
     apply AG
     exact Qx J6 (n _ (sy h)) 14
    apply Qu
    apply b0
    apply QJ 8180
    exact Qx a8 (sy h) 185773546616702141189
   apply QQ
   exact Qx J4 (n _ (sy h)) 4064
  apply QQ
  exact Qx J1 (n _ (sy h)) 208
 apply Qk
 refine AT h1 (λj K=>[(34,ti j.1)]) 34101805442 (λj K=>[deep (dRow (dOwn rI 3) 22) 51 j.2 K,bxM l m (dh K) (d 6)]) 16769 (dmk (d 4) []) 254 ?_
 intro j K o K9 h n b2
 apply Qa 510
 refine Qf λ_ b3=>?_
 apply Qo h<;>intro _ h
 ·apply Qu
  apply b3
  refine Qf λb4 b5=>?_
  apply Qk
  have⟨_,_,e8,b6,h⟩:=bs2 h
  apply Qa 16304
  apply Qa 4078
  refine tJq (λ_ _=>[]) 16261 (λp7 Y=>[deep (dRow (dOwn rI 3) 22) 51 p7 Y,bxM l m (dh Y) (d 6)]) 16769 b4 (·=e8) (λp7 Y k=>?_) λJ7=>?_
  ·subst k
   apply b5
   apply QJ 508
   exact Q7 b2 Y (sy h) 61987669181189
  apply Qk
  refine AT b6 (λt i=>[(40,ti t.1)]) 266403970 (λt i=>[deep (dRow (dOwn rI 3) 22) 51 t.2 i,bxM l m (dh i) (d 6)]) 16769 K 2046 ?_
  intro t i o c1 h n b7
  apply Qa 4094
  refine Qf λ_ b8=>?_
  apply Qo h<;>intro _ h
  ·apply Qu
   apply b8
   refine Qf λ_ b9=>?_
   apply Qk
   have⟨s,p,h⟩:=bs h
   refine Q1 (As'':=[deep (dOwn rI 3) 22 s (ds i (j.1).toNat),Ad (dRow (dOwn rI 3) 22) 51 t.2 i (some (j.1).toNat),glo,bxM l m (dh i) (d 6)]) (λ_ _ H=>H.openD p) ?_
   have⟨_,_,L,_,_,c0,h⟩:=bs3 h
   have⟨P,C,h⟩:=bs h
   refine AB [vo 19 rI 3 L,v2 19 21 (λv0 v1=>deep (dOwn rI 3) 22 (s++[L]) (BW s.length (ds i (j.1).toNat) v1 (dmk v0 []))),v2 19 21 (λv0 v1=>Ad (dRow (dOwn rI 3) 22) 51 t.2 (dset (t.2).length i (j.1).toNat (BW s.length (ds i (j.1).toNat) v1 (dmk v0 []))) (some (j.1).toNat))] [20,22,24] 34326184464 (λq=>?_) (λq=>by refine' pr 10 ?_;refine' rx (.u [1] rfl rfl (Ay ud29 BZ z1 z0 p)) 0 ?_;refine' rx (.u [1] rfl rfl (A9 Bb z0 p)) 8 ?_;refine' rx (.ud (f:=λv=>tsl rVal [v]) 19 rfl [4] rfl rfl (UU (R:=rI) (e:=3) (xs:=L) ud51 Ak z0)) 0 ?_;refine' rx (.e [] [0,4] [5] rfl rfl rfl rfl (UV (D:=(dOwn rI 3)) (y:=L) (gy:=(dmk (q 19) [])) ud51 B6 (leb rfl) z9 (.hdrD rfl rfl z0) c0)) 0 ?_;refine' rx (.u [1] rfl rfl (Ay ud29 BZ z18 z17 p)) 0 ?_;refine' rx (.e [5] [1] [6] rfl rfl rfl rfl (Ps (B:=deep (dOwn rI 3) 22 (s++[L]) (BW s.length (ds i (j.1).toNat) (q 21) (dmk (q 19) []))) (g2:=(BW s.length (ds i (j.1).toNat) (q 21) (dmk (q 19) []))) (λ_ _ h=>UW h) Bb z0 z1 p (leb rfl) rfl)) 0 ?_;exact rnn)
   refine AA (As'':=[deep (dRow (dOwn rI 3) 22) 51 P (dset (t.2).length i (j.1).toNat (BW s.length (ds i (j.1).toNat) (q 21) (dmk (q 19) []))),glo,bxM l m (dh i) (d 6)]) (λ_ _ H=>(H.Xk [2,3,0,1] rfl).shutN (D:=(dRow (dOwn rI 3) 22)) (y:=(s++[L])) (g2:=(BW s.length (ds i (j.1).toNat) (q 21) (dmk (q 19) []))) p C) ?_
   apply b9
   apply QJ 16380
   exact Q7 b7 (dset (t.2).length i (j.1).toNat (BW s.length (ds i (j.1).toNat) (q 21) (dmk (q 19) []))) (sy h) 222957534670793900297
  apply QQ
  exact Q7 J7 i (n _ (sy h)) 4064
 apply QQ
 exact Q7 J0 K (n _ (sy h)) 480
def NJ (r:Lz) (s:Lz) (t:Lz) (h:Int):Option Bool:=(LG r s t).bind λa=>if !a.2.2.2 then Fn.bind λu=>some u else (Gk a.1 a.2.1 a.2.2.1).bind λd=>if d.2.2 !=0 then (opt ((d.2.2==14)==true) Fn default).bind λv=>some ((d.2.2==14)&&v) else (JQ a.1 d.1).bind λw=>if decide ((w.length:Int)>0) then some false else (Gk a.1 d.1 a.2.2.1).bind λc=>(rm (([]:List QA).length+(a.1).Xa.length)).bind λ_=>(Gf h (([]++(a.1).Xa).length:Int)).bind λi=>(idx ([]++(a.1).Xa) i).bind λq=>(rm (([]:List Qe).length+q.Xb.length)).bind λ_=>(Qr (λ(s0:Int×List Qe)=>if decide (s0.1<(s0.2.length:Int)) then (idx s0.2 s0.1).bind λx=>(if x.Xi==2 then (idx s0.2 s0.1).bind λy=>(idx s0.2 s0.1).bind λj=>(setAt s0.2 s0.1 { j with Lo:=(i64.wrap (y.Lo - 1)) }).bind λe=>(idx e s0.1).bind λk=>(idx e s0.1).bind λl=>(setAt e s0.1 { l with Hi:=(i64.wrap (k.Hi+1)) }).bind λm=>some m else some s0.2).bind λz=>some (.inl (i64.wrap (s0.1+1),z)) else some (.inr s0.2)) (0,[]++q.Xb)).bind λA=>(idx ([]++(a.1).Xa) i).bind λn=>(setAt ([]++(a.1).Xa) i { n with Xb:=A }).bind λo=>(Gk (Qc.mk (a.1).Version o (a.1).Xd (a.1).Xc) d.1 a.2.2.1).bind λb=>(opt (((c.2.2==0)&&(c.2.1==0))==true) (JO d.1 c.1) default).bind λf=>(opt ((((((c.2.2==0)&&(c.2.1==0))&&f)&&(b.2.2==0))&&(b.2.1==0))==true) (JO d.1 b.1) default).bind λg=>(opt (((((((c.2.2==0)&&(c.2.1==0))&&f)&&(b.2.2==0))&&(b.2.1==0))&&g)==true) Fn default).bind λp=>some (((((((c.2.2==0)&&(c.2.1==0))&&f)&&(b.2.2==0))&&(b.2.1==0))&&g)&&p)
instance eA:SpcS prog 3 (∀{f g i c r},NJ f g i c=some r->FnOk prog 3 [tsl rI f,tsl rI g,tsl rI i,ti c] [glo] (λ_=>[]) (λ_=>tb r)):=.mk λ{f g i c r} h=>by
 refine Fe func3 ntmps3 λN M O b=>?_
 apply Qa 60
 have⟨a,_,h⟩:=bs h
 refine QU [vb 9 (Qb.cs zz4),vb 9 (Qb.cs a.1)] [10,11] 146432 λP=>?_
 apply tFz 1
 refine tIfs h 188 (λ_ h=>?_) λ_ h=>?_
 ·have⟨_,_,h⟩:=bs h
  apply Qa 4
  exact tRE h b
 have⟨_,_,h⟩:=bs h
 apply Qa 109056
 refine tIfs h 252 (λ_ h=>?_) λ_ h=>?_
 ·have⟨_,_,h⟩:=bs h
  apply Qa 64
  exact tRE h b
 have⟨_,_,h⟩:=bs h
 refine tIfs h 3744 (λ_ h=>?_) λ_ h=>?_
 ·apply Qa 2
  exact tRE h b
 have⟨_,_,_,_,_,_,q,_,h⟩:=bs4 h
 apply Qa 126464
 refine QU [vb 1 (Qb.cs zz4),vb 1 (Qb.cs a.1)] [2,3] 1020 λl=>?_
 refine QU [vo 0 Qq 41 ([]:List QA),vo 3 Qq 41 (([]:List QA)++(a.1).Xa),v1 3 (λv0=>box ([ti (a.1).Version,tvs v0,tsl Qs (a.1).Xd,tsl QV (a.1).Xc]) (l 1))] [1,4,6] 14288 λe=>?_
 apply Qa 16328
 have⟨_,_,s,h0,h⟩:=bs2 h
 refine QU [vo 0 Qd 44 ([]:List Qe),vo 7 Qd 44 (([]:List Qe)++q.Xb)] [1,8] 524040 λd=>?_
 refine Qf λt u=>?_
 apply Qa 16382
 refine tJp (λ_=>[]) 266486661 (λm=>[own Qq 41 (([]:List QA)++(a.1).Xa) (e 3),own Qd 44 m (d 7)]) 2162818 t (·=s) (λm v=>?_) λw=>?_
 ·subst v
  apply u
  apply Q1 (by intro _ _ H;exact ((H.Xk [3,0,1,2] rfl).Xn 0 rfl).pick [0,2,3,4,5,6,7,8])
  have⟨_,_,n,_,_,x,_,_,h⟩:=bs4 h
  refine QU [v0 (own Qq 41 n (e 3))] [7] 32260 λQ=>?_
  refine Q1 (As'':=[box (Qb.cs (Qc.mk (a.1).Version n (a.1).Xd (a.1).Xc)) (l 1),glo]) (λ_ _ H=>((H.pick [1,2,3,4,5,6]).Xk [2,1,0] rfl).Xm 1 rfl) ?_
  refine Qa 126464 ?_ (λ_=>by refine' pr 3 ?_;refine' rx (.u [1] rfl rfl ((QO cal (iB.ok x) (.cons (.of z2)<|.cons (.of z1)<|.cons (.of z0)<|.nil)).glo)) 7 ?_;exact rnn)
  apply tSl [1]
  have⟨_,_,_,_,h⟩:=bs2 h
  apply Qa 268435456
  exact tRE h b
 apply Qk
 refine AC h0 (λs0=>[(22,ti s0.1)]) 34110292609 (λs0=>[own Qq 41 (([]:List QA)++(a.1).Xa) (e 3),own Qd 44 s0.2 (d 7)]) 2162818 16210 ?_
 intro s0 o R h y z
 refine Qf λ_ A=>?_
 apply Qa 16372
 refine DJ 1 (λj=>?_) λj=>?_
 ·replace h:=C6 j h
  apply Qu
  apply A
  refine Qf λB C=>?_
  apply Qk
  have⟨_,_,D,E,h⟩:=bs2 h
  apply Qa 261826
  refine tJ0 [] 16261 [own Qq 41 (([]:List QA)++(a.1).Xa) (e 3),own Qd 44 D (d 7)] 2162818 B ?_ λp=>?_
  ·apply C
   apply QJ 4088
   exact Qx z (sy h) 1022
  replace h:=E
  refine DJ 1 (λk=>?_) λk=>?_
  ·replace h:=C6 k h
   have⟨_,F,h⟩:=bs h
   replace h:=bk F h
   have⟨I,_,_,K,h⟩:=bs2 h
   refine QU [v0 (own Qd 44 I (d 7))] [11] 8382474 λS=>?_
   replace h:=bk K h
   have⟨L,_,h⟩:=bs h
   refine AB [v0 (own Qd 44 L (d 7))] [11] 16775178 λT=>?_
   cases sj h
   exact QN p 65408
  replace h:=C7 k h
  apply Qu
  cases sj h
  exact QN p 8176
 replace h:=C7 j h
 apply QQ
 exact Qx w (y _ (sy h)) 4080

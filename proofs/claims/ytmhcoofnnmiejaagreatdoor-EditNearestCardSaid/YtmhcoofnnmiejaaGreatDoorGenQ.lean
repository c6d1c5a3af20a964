/- The walk. No condition. -/
import Derived.Test.YtmhcoofnnmiejaaGreatDoorGenM
import Derived.Test.YtmhcoofnnmiejaaGreatDoorGenN
import Derived.Test.YtmhcoofnnmiejaaGreatDoorGenO
import Derived.Test.YtmhcoofnnmiejaaGreatDoorGenP
set_option linter.all false
open List Go.Proofs.Tryz Go.IntKind
namespace Go.Proofs.YtmhcoofnnmiejaaGreatDoor
noncomputable section
open Go.Sim
set_option maxRecDepth 100000
set_option maxHeartbeats 4000000
def Qfj (j:(List Int)):Option (Qc):=(sub j 0 (imin (j.length:Int) 200)).bind λp=>(QS (QR.mk p 0) 4).bind λk=>(QS k.2 3).bind λf=>(Qr (λ(s0:Int×List QA×QR)=>(if (decide (s0.1<(i64.wrap ((1:Int)+f.1))))=true then (Qer s0.2.2 s0.2.1).bind λc=>(rm (c.2.2.length+[c.1].length)).bind λ_=>(some (.inl ((i64.wrap (s0.1+1)),(c.2.2++[c.1]),c.2.1))) else (some (.inr (s0.2.1,s0.2.2))))) ((0:Int),([]:List QA),f.2)).bind λg=>(QS g.2 3).bind λl=>(sub [([110,101,119]:Str),([111,112,101,110]:Str),([100,111,110,101]:Str),([115,104,117,116]:Str)] 0 (i64.wrap ((2:Int)+l.1))).bind λd=>(Qr (λ(a:Int×List Qar)=>(if (decide ((i64.wrap (a.1+1))<(d.length:Int)))=true then (rm (a.2.length+[(Qar.mk a.1 (i64.wrap (a.1+1)))].length)).bind λ_=>(some (.inl ((i64.wrap (a.1+1)),(a.2++[(Qar.mk a.1 (i64.wrap (a.1+1)))])))) else (some (.inr a.2)))) ((0:Int),([]:List Qar))).bind λh=>(QS l.2 2).bind λm=>((if (m.1==0)=true then (rm (h.length+[(Qar.mk 1 0)].length)).bind λ_=>(some (h++[(Qar.mk 1 0)])) else (some h))).bind λi=>(QS m.2 3).bind λn=>((if (n.1==0)=true then (rm (i.length+[(Qar.mk 0 (i64.wrap ((d.length:Int) - 1)))].length)).bind λ_=>(some (i++[(Qar.mk 0 (i64.wrap ((d.length:Int) - 1)))])) else (some i))).bind λo=>(rm (([]:List Qm).length+[(Qm.mk ([108,105,102,101]:Str) d o)].length)).bind λ_=>(Qr (λ(b:Int×List QL×QR)=>(if ((decide (b.1<(i64.wrap ((1:Int)+f.1))))&&(decide ((b.2.1.length:Int)<2)))=true then (idx g.1 b.1).bind λq=>(Qes b.2.2 q).bind λe=>((if e.2.1=true then (rm (b.2.1.length+[e.1].length)).bind λ_=>(some (b.2.1++[e.1])) else (some b.2.1))).bind λr=>(some (.inl ((i64.wrap (b.1+1)),r,e.2.2))) else (some (.inr b.2.1)))) ((0:Int),([]:List QL),n.2)).bind λs=>(some (Qc.mk k.1 g.1 (([]:List Qm)++[(Qm.mk ([108,105,102,101]:Str) d o)]) s))
instance QCm:Spc1 prog 10 Qfj (λV=>[tsl rI V]) Qb.ty:=.mk λ{V r} h=>by
 unfold Qfj at h
 refine Fe func10 ntmps10 λM0 M w0 C=>?_
 refine QU [v1 0 (λv0=>box (Qb.cs zz4) v0)] [1] 6 λe=>?_
 have⟨t0,_,h⟩:=bs h
 refine QU [v1 6 (λv0=>box (QC.cs (QR.mk t0 (0:Int))) v0)] [7] 768 λg=>?_
 have⟨b,_,h⟩:=bs h
 refine QU [v0 (box (QC.cs b.2) (g 6)),v1 3 (λv0=>box (Qb.cs zz4) v0),v1 3 (λv0=>box ([ti b.1,tvs nilV,tvs nilV,tvs nilV]) v0)] [2,4,5] 112 (λd=>?_) (λ_=>by refine' pr 2 ?_;refine' rx (.p (T:=tagg ([ti b.1,tvs nilV,tvs nilV,tvs nilV])) rfl (Qby underlying27 pl27 zv27 QsD.1 (.cons (R:=rI) (u:=b.1) rfl z0 (leb rfl)<|.nil _))) 1 ?_;refine' rx (.e [] [3] [4] rfl rfl rfl rfl (Qay (R:=(rAgg ([ti b.1,tvs nilV,tvs nilV,tvs nilV]) (Qt (QZ rfl) (Qt Qb9 (Qt Qb9 (Qt Qb9 Qak)))))) (a:=()) (tokA QcK (Qt (QZ rfl) (Qt Qb9 (Qt Qb9 (Qt Qb9 Qak)))) rfl rfl) z0 z1 (leb rfl))) 0 ?_;exact rnn)
 refine Q1 (λ_ _ H=>((H.nil (Qq) 39).nil (Qs) 86).nil (QV) 89) ?_
 have⟨t2,_,h⟩:=bs h
 refine QU [v0 (box (QC.cs t2.2) (g 6))] [2] 240 λm3=>?_
 refine Qf λK0 k0=>?_
 refine Qa 62 ?_
 have⟨e3,h0,h⟩:=bs h
 refine tJq (λ_ _=>[]) 16259 (λk f=>[own QV 89 ([]:List QL) nilV,own Qs 86 ([]:List Qm) nilV,own Qq 39 k.1 f,box (Qb.cs zz4) (e 0),box ([ti b.1,tvs f,tvs nilV,tvs nilV]) (d 3),box (QC.cs k.2) (g 6)]) 34630287489 K0 (·=e3) (λk f t=>?_) λJ0=>?_
 ·subst t
  refine k0 ?_
  have⟨t3,_,c,_,h⟩:=bs2 h
  refine QU [v0 (box (QC.cs t3.2) (g 6))] [3] 1984 λm4=>?_
  refine QU [v1 2 (λv0=>box (Qs.cs zz2) v0),v1 2 (λv0=>box ([tv (.string (sB ([108,105,102,101]:Str))),tsl rS c,tvs nilV]) v0)] [3,4] 504 (λl=>?_) (λ_=>by refine' pr 1 ?_;refine' rx (.p (T:=tagg ([tv (.string (sB ([108,105,102,101]:Str))),tsl rS c,tvs nilV])) rfl (Qby underlying86 pl86 zv86 QAG.1 (.cons (R:=rS) (u:=([108,105,102,101]:Str)) rfl .k (leb rfl)<|.cons (R:=(rSl rS)) (u:=c) rfl z0 (leb rfl)<|.nil _))) 1 ?_;refine' rx (.e [] [6] [7] rfl rfl rfl rfl (Qay (R:=(rAgg ([tv (.string (sB ([108,105,102,101]:Str))),tsl rS c,tvs nilV]) (Qt (QZ rfl) (Qt Qbj (Qt Qb9 Qak))))) (a:=()) (tokA Qhh (Qt (QZ rfl) (Qt Qbj (Qt Qb9 Qak))) rfl rfl) z0 z1 (leb rfl))) 0 ?_;exact rnn)
  refine Q1 (λ_ _ H=>H.nil (QaR) 87) ?_
  refine Qf λK1 k1=>?_
  refine Qa 254 ?_
  have⟨e4,h1,h⟩:=bs h
  refine tJq (λ_ _=>[]) 16259 (λD y=>[own QaR 87 D y,own QV 89 ([]:List QL) nilV,own Qs 86 ([]:List Qm) nilV,box (Qb.cs zz4) (e 0),box ([ti b.1,tvs f,tvs nilV,tvs nilV]) (d 3),box ([tv (.string (sB ([108,105,102,101]:Str))),tsl rS c,tvs y]) (l 2)]) 598168964186241 K1 (·=e4) (λD y t=>?_) λJ1=>?_
  ·subst t
   refine k1 ?_
   refine Qf λK2 k2=>?_
   have⟨t5,_,h⟩:=bs h
   refine QU [v0 (box (QC.cs t5.2) (g 6))] [2] 1016 λm6=>?_
   have⟨W,X,h⟩:=bs h
   refine tJ1 (λ_=>[]) 16259 (λz=>[own QV 89 ([]:List QL) nilV,own Qs 86 ([]:List Qm) nilV,box (Qb.cs zz4) (e 0),box ([ti b.1,tvs f,tvs nilV,tvs nilV]) (d 3),own QaR 87 W z,box ([tv (.string (sB ([108,105,102,101]:Str))),tsl rS c,tvs z]) (l 2)]) 567657508192385 K2 (λz=>?_) λY=>?_
   ·refine k2 ?_
    refine Qf λK3 k3=>?_
    have⟨Z,_,h⟩:=bs h
    refine QU [v0 (box (QC.cs Z.2) (g 6))] [2] 1016 λm7=>?_
    have⟨i,h3,h⟩:=bs h
    refine tJ1 (λ_=>[]) 2081411 (λE=>[own QV 89 ([]:List QL) nilV,own Qs 86 ([]:List Qm) nilV,box (Qb.cs zz4) (e 0),box ([ti b.1,tvs f,tvs nilV,tvs nilV]) (d 3),own QaR 87 i E,box ([tv (.string (sB ([108,105,102,101]:Str))),tsl rS c,tvs E]) (l 2)]) 567657508176001 K3 (λE=>?_) λJ3=>?_
    ·refine k3 ?_
     refine Q1 (As'':=[box (Qs.cs (Qm.mk ([108,105,102,101]:Str) c i)) (l 2),own QV 89 ([]:List QL) nilV,own Qs 86 ([]:List Qm) nilV,own Qq 39 k.1 f,box (Qb.cs zz4) (e 0),box ([ti b.1,tvs f,tvs nilV,tvs nilV]) (d 3),box (QC.cs Z.2) (g 6)]) (λ_ _ H=>((H.pick [0,1,2,3,4]).Xk [6,7,0,1,2,3,4,5] rfl).Xm 2 rfl) ?_
     have⟨_,_,h⟩:=bs h
     refine QU [v1 4 (λv0=>own Qs 86 (([]:List Qm)++[(Qm.mk ([108,105,102,101]:Str) c i)]) v0),v1 4 (λv0=>box ([ti b.1,tvs f,tvs v0,tvs nilV]) (d 3))] [5,7] 3872 λj=>?_
     refine Q1 (λ_ _ H=>H.Xk [1,2,3,4,5,6] rfl) ?_
     refine Qf λK4 k4=>?_
     refine Qa 126 ?_
     have⟨e5,h4,h⟩:=bs h
     refine tJq (λ_ _=>[]) 901 (λq m=>[own QV 89 q m,box (Qb.cs zz4) (e 0),own Qs 86 (([]:List Qm)++[(Qm.mk ([108,105,102,101]:Str) c i)]) (j 4),box ([ti b.1,tvs f,tvs (j 4),tvs m]) (d 3)]) 270549377 K4 (·=e5) (λq m t=>?_) λJ4=>?_
     ·subst t
      refine k4 ?_
      refine Q1 (As'':=[box ([ti b.1,tsl Qq k.1,tvs (j 4),tvs m]) (d 3),own QV 89 q m,box (Qb.cs zz4) (e 0),own Qs 86 (([]:List Qm)++[(Qm.mk ([108,105,102,101]:Str) c i)]) (j 4)]) (λ_ _ H=>((H.pick [0,1]).Xk [1,4,0,2,3] rfl).Xm 1 rfl) ?_
      refine Q1 (As'':=[box ([ti b.1,tsl Qq k.1,tsl Qs (([]:List Qm)++[(Qm.mk ([108,105,102,101]:Str) c i)]),tvs m]) (d 3),own QV 89 q m,box (Qb.cs zz4) (e 0)]) (λ_ _ H=>((H.pick [0,1]).Xk [3,0,1,2] rfl).Xm 2 rfl) ?_
      refine Q1 (As'':=[box (Qb.cs (Qc.mk b.1 k.1 (([]:List Qm)++[(Qm.mk ([108,105,102,101]:Str) c i)]) q)) (d 3),box (Qb.cs zz4) (e 0)]) (λ_ _ H=>((H.pick [0,1]).Xk [1,0,2] rfl).Xm 3 rfl) ?_
      refine QU [v0 (box (Qb.cs (Qc.mk b.1 k.1 (([]:List Qm)++[(Qm.mk ([108,105,102,101]:Str) c i)]) q)) (e 0))] [2] 8 λm9=>?_
      refine Q1 (λ_ _ H=>H.Xk [1] rfl) ?_
      exact Qp h (·▸Qn C)
     refine Qk ?_
     refine QaU h4 (λs0 n=>[(10,ti s0.1)]) 2081281 (λs0 n=>[own QV 89 s0.2.1 n,box (Qb.cs zz4) (e 0),box (QC.cs s0.2.2) (g 6),own Qs 86 (([]:List Qm)++[(Qm.mk ([108,105,102,101]:Str) c i)]) (j 4),box ([ti b.1,tvs f,tvs (j 4),tvs n]) (d 3)]) 34630287745 nilV 122 ?_
     clear h
     intro s0 n o K5 h v k5
     refine Qf λ_ k6=>?_
     refine Qa 32256 ?_ (λ_=>by refine' pr 5 ?_;refine' rx (.gu [5] rfl rfl rfl bq1 (λhc=>Qat (u:=n) Qx2 (.cond z0 hc) rfl)) 3 ?_;exact rnn)
     refine Qo h (λ_ h=>?_) λ_ h=>?_
     ·refine Qu ?_
      refine k6 ?_
      refine Qf λK6 k7=>?_
      refine Qk ?_
      have⟨_,_,F,_,h⟩:=bs2 h
      refine QU [v0 (box (QC.cs F.2.2) (g 6)),v1 10 (λv0=>box (QV.cs zz3) v0),v1 10 (λv0=>box (QV.cs F.1) v0)] [7,11,12] 514056 λa0=>?_
      refine Q1 (λ_ _ H=>(((H.Xk [6,0,1,2,3,4,5] rfl).Xl 1 rfl).add 0 rfl (λ_ _ _ h=>h.2)).pick [0,2,4,5,6,7,8,9]) ?_
      refine Qa 1006 ?_
      have⟨p5,h5,h⟩:=bs h
      refine tJ1 (λ_=>[]) 16261 (λA=>[box (Qb.cs zz4) (e 0),own Qs 86 (([]:List Qm)++[(Qm.mk ([108,105,102,101]:Str) c i)]) (j 4),own QV 89 p5 A,box ([ti b.1,tvs f,tvs (j 4),tvs A]) (d 3)]) 34642870403 K6 (λA=>?_) λJ5=>?_
      ·refine k7 ?_
       refine QJ 248 ?_
       refine Qan (λ_ _ H=>(H.pick [0,1,2,3,4]).Xk [4,0,1,3,2,5] rfl) ?_
       exact Q7 k5 A ((sj h).symm) 62
      replace h:=h5
      clear h5
      refine Qo h (λ_ h=>?_) λ_ h=>?_
      ·have⟨_,_,h⟩:=bs h
       refine QaG [v1 4 (λv0=>own QV 89 (s0.2.1++[F.1]) v0),v1 4 (λv0=>box ([ti b.1,tvs f,tvs (j 4),tvs v0]) (d 3))] [5,7] 32288 λI=>?_
       obtain rfl:=sj h
       exact QN (J5 (I 4)) 248
      refine Qu ?_
      obtain rfl:=sj h
      refine Qan (λ_ _ H=>(H.pick [3,4,5,6,7]).Xk [1,2,3,5,0,4] rfl) ?_
      exact QN (J5 n) 62
     refine QQ ?_
     refine Qan (λ_ _ H=>(H.pick [3,5]).Xk [0,1,2,4,5] rfl) ?_
     exact Q7 J4 n (v _ (sj h).symm) 6
    replace h:=h3
    clear h3
    refine Qo h (λ_ h=>?_) λ_ h=>?_
    ·have⟨_,_,h⟩:=bs h
     refine QaG [v1 7 (λv0=>own QaR 87 (W++[(Qar.mk (0:Int) (i64.wrap ((c.length:Int) - 1)))]) v0),v1 7 (λv0=>box ([tv (.string (sB ([108,105,102,101]:Str))),tsl rS c,tvs v0]) (l 2))] [8,10] 125184 λK=>?_
     obtain rfl:=sj h
     exact QN (J3 (K 7)) 124
    refine Qu ?_
    obtain rfl:=sj h
    refine Qan (λ_ _ H=>(H.pick [1,3,4,5,6]).Xk [0,1,2,3,4,7,5,6] rfl) ?_
    exact QN (J3 z) 62
   replace h:=X
   clear X
   refine Qo h (λ_ h=>?_) λ_ h=>?_
   ·have⟨_,_,h⟩:=bs h
    refine QaG [v1 4 (λv0=>own QaR 87 (D++[(Qar.mk (1:Int) (0:Int))]) v0),v1 4 (λv0=>box ([tv (.string (sB ([108,105,102,101]:Str))),tsl rS c,tvs v0]) (l 2))] [5,7] 16160 λL=>?_
    obtain rfl:=sj h
    exact QN (Y (L 4)) 252
   refine Qu ?_
   obtain rfl:=sj h
   refine Qan (λ_ _ H=>(H.pick [1,2,3,4,5,6]).Xk [1,2,3,4,5,7,0,6] rfl) ?_
   exact QN (Y y) 126
  refine Qk ?_
  refine QaU h1 (λp w=>[(9,ti p.1)]) 2081153 (λp w=>[own QaR 87 p.2 w,own QV 89 ([]:List QL) nilV,own Qs 86 ([]:List Qm) nilV,box (Qb.cs zz4) (e 0),box ([ti b.1,tvs f,tvs nilV,tvs nilV]) (d 3),box ([tv (.string (sB ([108,105,102,101]:Str))),tsl rS c,tvs w]) (l 2)]) 598168964186241 nilV 254 ?_
  clear h
  intro p w o K7 h v k8
  refine Qf λ_ k9=>?_
  refine Qa 8160 ?_
  refine Qo h (λ_ h=>?_) λ_ h=>?_
  ·refine Qu ?_
   refine k9 ?_
   refine Qf λ_ N=>?_
   refine Qk ?_
   have⟨_,_,h⟩:=bs h
   refine QaG [v1 7 (λv0=>own QaR 87 (p.2++[(Qar.mk p.1 (i64.wrap (p.1+1)))]) v0),v1 7 (λv0=>box ([tv (.string (sB ([108,105,102,101]:Str))),tsl rS c,tvs v0]) (l 2))] [8,10] 260352 λO=>?_
   refine N ?_
   refine QJ 2040 ?_
   refine Qan (λ_ _ H=>(H.pick [0,2,3,4,5,6,7]).Xk [6,0,1,2,3,4,5,7] rfl) ?_
   exact Q7 k8 (O 7) ((sj h).symm) 254
  refine QQ ?_
  exact Q7 J1 w (v _ (sj h).symm) 504
 refine Qk ?_
 refine QaU h0 (λx s=>[(6,ti x.1)]) 2081153 (λx s=>[own QV 89 ([]:List QL) nilV,own Qs 86 ([]:List Qm) nilV,own Qq 39 x.2.1 s,box (Qb.cs zz4) (e 0),box ([ti b.1,tvs s,tvs nilV,tvs nilV]) (d 3),box (QC.cs x.2.2) (g 6)]) 34630287489 nilV 62 ?_
 clear h
 intro x s o K8 h v P
 refine Qf λ_ Q=>?_
 refine Qa 504 ?_
 refine Qo h (λ_ h=>?_) λ_ h=>?_
 ·refine Qu ?_
  refine Q ?_
  refine Qf λ_ S=>?_
  refine Qk ?_
  have⟨B,h6,_,_,h⟩:=bs2 h
  refine QaG [v0 (box (QC.cs B.2.1) (g 6)),v0 (own Qq 39 B.2.2 s),v1 7 (λv0=>own Qq 39 (B.2.2++[B.1]) v0),v1 7 (λv0=>box ([ti b.1,tvs v0,tvs nilV,tvs nilV]) (d 3))] [6,6,8,10] 63744 (λU=>?_) (λ_=>by refine' pr 5 ?_;refine' rx (.e [] [5,2] [6,7] rfl rfl rfl rfl (QO Qyf (Qm3.ok h6) (.cons (.of z2)<|.cons (.of z0)<|.nil))) 4 ?_;exact rnn)
  refine S ?_
  refine QJ 504 ?_
  refine Qan (λ_ _ H=>(H.pick [0,2,3,4,5]).Xk [0,1,4,2,5,3] rfl) ?_
  exact Q7 P (U 7) ((sj h).symm) 62
 refine QQ ?_
 exact Q7 J0 s (v _ (sj h).symm) 120
def QgQ (d:Qc):Option ((List QK)×(List Str)×Int):=(Qhw d).bind λf=>(if (decide ((f.length:Int)>0))=true then (idx f 0).bind λj=>(some (([]:List QK),([]:List Str),j.Code)) else (Qr (λ(s0:Int×List Str×List QK)=>(if (decide (s0.1<(d.Xa.length:Int)))=true then (idx d.Xa s0.1).bind λa=>(rm (s0.2.2.length+[(QK.mk s0.1 (-1) a.Lo true),(QK.mk s0.1 (-1) a.Hi false)].length)).bind λ_=>(cat (a.Xj.length+([32,108,101,97,115,116]:Str).length)).bind λ_=>(cat (a.Xj.length+([32,109,111,115,116]:Str).length)).bind λ_=>(rm (s0.2.1.length+[(a.Xj++([32,108,101,97,115,116]:Str)),(a.Xj++([32,109,111,115,116]:Str))].length)).bind λ_=>(Qr (λ(c:Int×List QK×List Str)=>(if (decide (c.1<(a.Xb.length:Int)))=true then (idx a.Xb c.1).bind λb=>((if (b.Xi==1)=true then (QcH d b.Of).bind λe=>(rm (c.2.1.length+[(QK.mk s0.1 e b.Lo true),(QK.mk s0.1 e b.Hi false)].length)).bind λ_=>(cat (a.Xj.length+([46]:Str).length)).bind λ_=>(cat ((a.Xj++([46]:Str)).length+b.Xj.length)).bind λ_=>(cat (((a.Xj++([46]:Str))++b.Xj).length+([32,108,101,97,115,116]:Str).length)).bind λ_=>(cat (a.Xj.length+([46]:Str).length)).bind λ_=>(cat ((a.Xj++([46]:Str)).length+b.Xj.length)).bind λ_=>(cat (((a.Xj++([46]:Str))++b.Xj).length+([32,109,111,115,116]:Str).length)).bind λ_=>(rm (c.2.2.length+[(((a.Xj++([46]:Str))++b.Xj)++([32,108,101,97,115,116]:Str)),(((a.Xj++([46]:Str))++b.Xj)++([32,109,111,115,116]:Str))].length)).bind λ_=>(some ((c.2.1++[(QK.mk s0.1 e b.Lo true),(QK.mk s0.1 e b.Hi false)]),(c.2.2++[(((a.Xj++([46]:Str))++b.Xj)++([32,108,101,97,115,116]:Str)),(((a.Xj++([46]:Str))++b.Xj)++([32,109,111,115,116]:Str))]))) else (some (c.2.1,c.2.2)))).bind λg=>(some (.inl ((i64.wrap (c.1+1)),g.1,g.2))) else (some (.inr (c.2.1,c.2.2))))) ((0:Int),(s0.2.2++[(QK.mk s0.1 (-1) a.Lo true),(QK.mk s0.1 (-1) a.Hi false)]),(s0.2.1++[(a.Xj++([32,108,101,97,115,116]:Str)),(a.Xj++([32,109,111,115,116]:Str))]))).bind λh=>(some (.inl ((i64.wrap (s0.1+1)),h.2,h.1))) else (some (.inr (s0.2.1,s0.2.2))))) ((0:Int),([]:List Str),([]:List QK))).bind λi=>(some (i.2,i.1,(0:Int))))
instance QpY:SpcS prog 62 (∀{e r},QgQ e=some r->FnOk prog 62 [Qb.ty e] [] (λv=>[own rS 9 r.2.1 v]) (λv=>ttup [tsl Qap r.1,tv v,ti r.2.2])):=.mk λ{e r} h=>by
 unfold QgQ at h
 refine Fe func62 ntmps62 λZ M t f=>?_
 refine Qa 2 ?_
 have⟨_,_,h⟩:=bs h
 refine Qa 24 ?_
 refine tIfs h 56 (λ_ h=>?_) λ_ h=>?_
 ·have⟨_,_,h⟩:=bs h
  refine Qa 224 ?_
  refine Q1 (λ_ _ H=>H.nil (rS) 9) ?_
  exact Qp h (·▸QaQ (.slice none 0 0) [0] f)
 refine Qa 18 ?_
 refine Q1 (λ_ _ H=>H.nil (Qap) 192) ?_
 refine Qa 14 ?_
 refine Q1 (λ_ _ H=>H.nil (rS) 9) ?_
 refine Qf λC D=>?_
 refine Qa 30 ?_
 have⟨E,h0,h⟩:=bs h
 have F:∀k l u,k=E->To M t 105 [(7,tv l),(6,tv u)] [own rS 9 k.1 l,own Qap 192 k.2 u] C:=by
  intro k l u w;subst w;refine D <|Qa 254 ?_;refine QaA ?_;refine Qan (by intro _ _ H;exact ((H.Xk [1,0] rfl).Xn 2 rfl).pick [0,2,4,5,6]) ?_;obtain rfl:=sj h;exact QaQ l [0] f
 refine Qk <|QpX h0 (λs0 g i=>[(8,ti s0.1),(7,tv g),(6,tv i)]) 10502273 (λs0 g i=>[own rS 9 s0.2.1 g,own Qap 192 s0.2.2 i]) 129 (.slice none 0 0) (.slice none 0 0) 30 ?_;clear h;intro s0 g i o K1 h x I;refine Qf λ_ K=>Qa 992 ?_;refine Qo h (λ_ h=>?_) λ_ h=>?_
 ·refine Qu <|K <|Qf λL N=>Qk ?_;have⟨a,_,h⟩:=bs h;refine QU [v1 5 (λv0=>box (Qq.cs zz1) v0),v1 5 (λv0=>box (Qq.cs a) v0)] [6,7] 3904 λm0=>?_;refine Q1 (λ_ _ H=>(((H.Xk [2,0,1] rfl).Xl 0 rfl).add 0 rfl (λ_ _ _ h=>h.2)).pick [0,3,4,5,6]) ?_;have⟨_,_,h⟩:=bs h;refine QU [v1 10 (λv0=>own Qap 192 (s0.2.2++[(QK.mk s0.1 (-1:Int) a.Lo true),(QK.mk s0.1 (-1:Int) a.Hi false)]) v0)] [11] 129024 λO=>?_;have⟨_,_,_,_,_,_,h⟩:=bs3 h;refine QU [v1 8 (λv0=>own rS 9 (s0.2.1++[(a.Xj++([32,108,101,97,115,116]:Str)),(a.Xj++([32,109,111,115,116]:Str))]) v0)] [9] 65024 λP=>?_;refine Qa 510 ?_;have⟨Q,R,h⟩:=bs h;have S:∀m n p,m=Q->To M t 105 [(7,tv p),(6,tv n),(8,ti s0.1),(1,tptr (Qb.cs e))] [own Qap 192 m.1 n,own rS 9 m.2 p] L:=by
   intro m n p w;subst w;refine N <|QJ 120 ?_;refine Qan (λ_ _ H=>(H.pick [0,1,2,3]).Xk [1,0] rfl) ?_;exact Qhq I p n ((sj h).symm) 30
  refine Qk <|QpX R (λb c d=>[(10,ti b.1),(7,tv d),(6,tv c)]) 34105999489 (λb c d=>[own Qap 192 b.2.1 c,own rS 9 b.2.2 d]) 129 (O 10) (P 8) 490 ?_;clear h;intro b c d o K3 h x T;refine Qf λ_ U=>Qa 4064 ?_;refine Qo h (λ_ h=>?_) λ_ h=>?_
  ·refine Qu <|U <|Qf λV W=>Qk ?_;have⟨j,_,h⟩:=bs h;refine QU [v1 5 (λv0=>box (Qd.cs zz0) v0),v1 5 (λv0=>box (Qd.cs j) v0)] [6,7] 16192 λm3=>?_;refine Q1 (λ_ _ H=>(((H.Xk [2,0,1] rfl).Xl 0 rfl).add 0 rfl (λ_ _ _ h=>h.2)).pick [0,3,4,5,6,7,8]) ?_;refine Qa 2040 ?_;have⟨y,z,h⟩:=bs h;have A:∀q s,To M t 105 [(7,tv s),(6,tv q),(10,ti b.1),(9,tptr (Qq.cs a)),(8,ti s0.1),(1,tptr (Qb.cs e))] [own Qap 192 y.1 q,own rS 9 y.2 s] V:=by
    intro q s;refine W <|QJ 504 ?_;exact Qhq T q s ((sj h).symm) 126
   replace h:=z;clear z;refine Qo h (λ_ h=>?_) λ_ h=>?_
   ·have⟨B,_,h⟩:=bs h;refine Qa 16288 ?_;have⟨_,_,h⟩:=bs h;refine QU [v1 12 (λv0=>own Qap 192 (b.2.1++[(QK.mk s0.1 B j.Lo true),(QK.mk s0.1 B j.Hi false)]) v0)] [13] 4153344 λX=>?_;have⟨_,_,_,_,_,_,_,_,h⟩:=bs4 h;have⟨_,_,_,_,_,_,h⟩:=bs3 h;refine QaG [v1 16 (λv0=>own rS 9 (b.2.2++[(((a.Xj++([46]:Str))++j.Xj)++([32,108,101,97,115,116]:Str)),(((a.Xj++([46]:Str))++j.Xj)++([32,109,111,115,116]:Str))]) v0)] [17] 64880640 λY=>?_;obtain rfl:=sj h;exact QN (A (X 12) (Y 16)) 500
   refine Qu ?_;obtain rfl:=sj h;exact QN (A c d) 553539175689
  refine QQ <|Qhq S c d (x _ (sj h).symm) 216
 refine QQ <|Qhq F g i (x _ (sj h).symm) 24
def Qih (b:Qc) (a:(List Int)):Option ((List Int)×Int):=(QgQ b).bind λc=>(if (c.2.2 !=0)=true then (some (([]:List Int),c.2.2)) else (opt (((a.length:Int) !=(b.Xa.length:Int))==false) (QfZ a) default).bind λf=>(if (((a.length:Int) !=(b.Xa.length:Int))||(!f))=true then (some (([]:List Int),(1:Int))) else (Qhx (a.length:Int) c.1).bind λd=>(QgR b d).bind λg=>(if (!g)=true then (some (([]:List Int),(4:Int))) else (if ((a.length:Int)==0)=true then (some (([]:List Int),(0:Int))) else (Qh1 c.1 d a ([]:(List Int))).bind λe=>(if ((e.length:Int)==0)=true then (some (([]:List Int),(14:Int))) else (some (e,(0:Int))))))))
instance QFP:Spc2 prog 31 Qih (λd b=>[Qb.ty d,tsl rI b]) (λr=>ttup [tsl rI r.1,ti r.2]):=.mk λ{d b r} h=>by
 unfold Qih at h
 refine Fe func31 ntmps31 λe M f a=>?_
 refine Qa 34 ?_
 have⟨c,h0,h⟩:=bs h
 refine Qa 3712 ?_ (λ_=>by refine' pr 1 ?_;refine' rx (.p rfl (QO Qyp ((QpY.ok h0).ro (T':=ttup [tsl Qap c.1,tsl rS c.2.1,ti c.2.2]) QCO) (.cons (.of z0)<|.nil))) 7 ?_;exact rnn)
 refine tIfs h 124 (λ_ h=>?_) λ_ h=>?_
 ·refine Qa 12 ?_
  exact Qp h (·▸Qn a)
 have⟨_,_,h⟩:=bs h
 refine tIfs h 108544 (λ_ h=>?_) λ_ h=>?_
 ·refine Qa 6 ?_
  exact Qp h (·▸Qn a)
 have⟨_,_,h⟩:=bs h
 refine Qa 928 ?_
 have⟨_,_,h⟩:=bs h
 refine tIfs h 368 (λ_ h=>?_) λ_ h=>?_
 ·refine Qa 6 ?_
  exact Qp h (·▸Qn a)
 refine tIfs h 232 (λ_ h=>?_) λ_ h=>?_
 ·refine Qa 6 ?_
  exact Qp h (·▸Qn a)
 have⟨_,_,h⟩:=bs h
 refine Qa 32 ?_
 refine tIfs h 24 (λ_ h=>?_) λ_ h=>?_
 ·refine Qa 6 ?_
  exact Qp h (·▸Qn a)
 refine Qa 12 ?_
 exact Qp h (·▸Qn a)
def Qfl (a:Qc) (d:(List Int)):Option ((List Int)×Bool):=(Qr (λ(s0:Int×List Int)=>(if (decide (s0.1<(a.Xa.length:Int)))=true then (Qd3 d s0.1 9).bind λb=>(rm (s0.2.length+[b].length)).bind λ_=>(some (.inl ((i64.wrap (s0.1+1)),(s0.2++[b])))) else (some (.inr s0.2)))) ((0:Int),([]:List Int))).bind λe=>(Qih a e).bind λc=>(some (c.1,(c.2==0)))
instance QCx:Spc2 prog 11 Qfl (λb f=>[Qb.ty b,tsl rI f]) (λr=>ttup [tsl rI r.1,tb r.2]):=.mk λ{b f r} h=>by
 unfold Qfl at h
 refine Fe func11 ntmps11 λv M g c=>?_
 refine Qa 34 ?_
 refine Qa 14 ?_
 refine Q1 (λ_ _ H=>H.nil (rI) 3) ?_
 refine Qf λi j=>?_
 refine Qa 30 ?_
 have⟨k,h0,h⟩:=bs h
 have l:∀d e,d=k->To M g 32 [(6,tv e),(2,tptr (Qb.cs b))] [own rI 3 d e] i:=by
  intro d e m;subst m;refine j <|Q1 (by intro _ _ H;exact (H.Xn 0 rfl).pick [0,2]) ?_;have⟨_,_,h⟩:=bs h;refine Qa 384 ?_;refine Qa 48 ?_;exact Qp h (·▸Qn c)
 refine Qk <|QaU h0 (λs0 a=>[(7,ti s0.1),(6,tv a)]) 10551425 (λs0 a=>[own rI 3 s0.2 a]) 1 (.slice none 0 0) 30 ?_;clear h;intro s0 a o w h n p;refine Qf λ_ q=>Qa 992 ?_;refine Qo h (λ_ h=>?_) λ_ h=>?_
 ·refine Qu <|q <|Qf λ_ s=>Qk ?_;have⟨t,_,_,_,h⟩:=bs2 h;refine QaG [v1 5 (λv0=>own rI 3 (s0.2++[t]) v0)] [6] 3776 λu=>?_;refine s <|QJ 248 ?_;exact Q7 p (u 5) ((sj h).symm) 58
 refine QQ <|Q7 l a (n _ (sj h).symm) 24
def Qii (e:(List Int)) (d:(List Int)) (f:(List Int)):Option (Qc×(List (List (List Int)))×(List Int)×Bool):=(Qfj e).bind λa=>(Qfl a d).bind λb=>(Qfl a f).bind λc=>(opt (((!b.2)||(!c.2))==false) (Qf0 a b.1) default).bind λg=>(if (((!b.2)||(!c.2))||(!g))=true then (some (a,([]:List (List (List Int))),([]:List Int),false)) else (Qi3 a b.1 d).bind λh=>(some (a,h,c.1,true)))
instance QFQ:Spc3 prog 4 Qii (λc d e=>[tsl rI c,tsl rI d,tsl rI e]) (λ(r:Qc×(List (List (List Int)))×(List Int)×Bool)=>ttup [Qb.ty r.1,tsl (rSl (rSl rI)) r.2.1,tsl rI r.2.2.1,tb r.2.2.2]):=.mk λ{c d e r} h=>by
 unfold Qii at h
 refine Fe func4 ntmps4 λg M i a=>?_
 refine QU [v1 0 (λv0=>box (Qb.cs zz4) v0)] [1] 226 λf=>?_
 have⟨b,_,h⟩:=bs h
 refine QU [v1 2 (λv0=>box (Qb.cs zz4) v0),v1 2 (λv0=>box (Qb.cs b) v0)] [3,4] 216 λj=>?_
 refine Q1 (λ_ _ H=>(((H.Xk [1,0] rfl).Xl 0 rfl).add 0 rfl (λ_ _ _ h=>h.2)).pick [0,3,4,5]) ?_
 have⟨_,_,h⟩:=bs h
 refine Qa 8064 ?_
 have⟨_,_,h⟩:=bs h
 refine Qa 16256 ?_
 have⟨_,_,h⟩:=bs h
 refine tIfs h 962560 (λ_ h=>?_) λ_ h=>?_
 ·refine QU [v0 (box (Qb.cs b) (f 0))] [2] 540 λk=>?_
  exact Qp h (·▸Qn a)
 have⟨_,h0,h⟩:=bs h
 refine QU [v0 (box (Qb.cs b) (f 0))] [7] 17280 (λl=>?_) (λ_=>by refine' pr 4 ?_;refine' rx (.p rfl (QO Qx4 ((Qs9.ok h0).roD QuC) (.cons (.of z2)<|.cons (.of z1)<|.cons (.of z0)<|.nil))) 5 ?_;exact rnn)
 exact Qp h (·▸Qn a)
def Qd4:Option (Bool):=(QdV [(0:Int),(0:Int),(0:Int),(1:Int)] 2 2 2).bind λb=>(QdV [(0:Int),(0:Int),(5:Int)] 3 1 1).bind λd=>(QdV [(0:Int)] 2 1 1).bind λf=>(if (((b.2.2 !=0)||(d.2.2 !=0))||(f.2.2 !=14))=true then (some false) else (Qdu b.1 [(0:Int),(0:Int),(1:Int),(1:Int)]).bind λa=>(opt (a==true) (Qdu (b.2.1).Flow [(2:Int),(0:Int),(2:Int),(1:Int),(1:Int),(2:Int),(4:Int)]) default).bind λc=>(opt ((a&&c)==true) (Qdu d.1 [(0:Int),(1:Int),(2:Int)]) default).bind λe=>(opt (((a&&c)&&e)==true) (QeD 7 0 5) default).bind λg=>(some (((a&&c)&&e)&&(g==5))))
instance QE6:Spc0 prog 5 (Qd4) ([]) tb:=.mk λ{r} h=>by
 unfold Qd4 at h
 refine Fe func5 ntmps5 λe M f a=>?_
 refine Qa 0 ?_
 have⟨b,_,h⟩:=bs h
 refine QU [v1 6 (λv0=>box (Qad.cs zz5) v0),v1 6 (λv0=>box (Qad.cs b.2.1) v0)] [7,9] 896 λg=>?_
 refine Q1 (λ_ _ H=>((H.Xl 0 rfl).add 0 rfl (λ_ _ _ h=>h.2)).pick [0,3,4]) ?_
 have⟨c,_,h⟩:=bs h
 refine QU [v1 6 (λv0=>box (Qad.cs zz5) v0),v1 6 (λv0=>box (Qad.cs c.2.1) v0)] [7,9] 7936 λi=>?_
 refine Q1 (λ_ _ H=>H.Xk [] rfl) ?_
 have⟨d,_,h⟩:=bs h
 refine QU [v1 6 (λv0=>box (Qad.cs zz5) v0),v1 6 (λv0=>box (Qad.cs d.2.1) v0)] [7,9] 32256 λj=>?_
 refine Q1 (λ_ _ H=>H.Xk [] rfl) ?_
 refine tIfs h 54272 (λ_ h=>?_) λ_ h=>?_
 ·refine Qa 2 ?_
  exact Qp h (·▸Qn a)
 have⟨_,_,_,_,_,_,_,_,h⟩:=bs4 h
 refine Qa 524288 ?_
 exact Qp h (·▸Qn a)
def Qew (d:Qc) (f:(List (List (List Int)))):Option ((Option QaB)×Int):=(QgW d).bind λt=>(if (decide ((t.length:Int)>0))=true then (idx t 0).bind λx=>(some (none,x.Code)) else (if ((f.length:Int) !=(d.Xa.length:Int))=true then (some (none,(2:Int))) else (Qr (λ(s0:Int×List Qh)=>(if (decide (s0.1<(d.Xa.length:Int)))=true then (idx d.Xa s0.1).bind λu=>(Qr (λ(a:Int×List Qh)=>(if (decide (a.1<(u.Xb.length:Int)))=true then (idx u.Xb a.1).bind λy=>((if (y.Xi==1)=true then (Qdx d s0.1 a.1).bind λv=>(rm (a.2.length+[(Qh.mk s0.1 a.1 v)].length)).bind λ_=>(some (a.2++[(Qh.mk s0.1 a.1 v)])) else (some a.2))).bind λz=>(some (.inl ((i64.wrap (a.1+1)),z))) else (some (.inr a.2)))) ((0:Int),s0.2)).bind λA=>(some (.inl ((i64.wrap (s0.1+1)),A))) else (some (.inr s0.2)))) ((0:Int),([]:List Qh))).bind λo=>(Qr (λ(n:Int)=>((if (decide (n<(f.length:Int)))=true then (idx f n).bind λp=>(opt ((decide ((p.length:Int)>512))==false) (Qbq p (λx0=>QcY x0 d n)) default).bind λB=>(if ((decide ((p.length:Int)>512))||B)=true then (some (.inr (.inr (2:Int)))) else (some (.inl (i64.wrap (n+1))))) else (some (.inr (.inl ())))):Option ((Int)⊕((Unit)⊕(Int))))) (0:Int)).bind λC=>(match C with | .inl _=>(Qr (λ(h:Int×MpK Qh (List (List Int)))=>((if (decide (h.1<(o.length:Int)))=true then (idx o h.1).bind λg=>(idx f g.to).bind λD=>(mk (D.length:Int) ([]:(List Int))).bind λE=>(idx f g.kind).bind λi=>(Qr (λ(b:Int×List (List Int))=>((if (decide (b.1<(i.length:Int)))=true then (idx i b.1).bind λj=>(idx j g.field).bind λc=>(opt ((decide (c<0))==false) (idx j g.field) default).bind λq=>(if ((decide (c<0))||(decide (q>=(b.2.length:Int))))=true then (some (.inr (.inr (2:Int)))) else (idx b.2 c).bind λw=>(rm (w.length+[b.1].length)).bind λ_=>(setAt b.2 c (w++[b.1])).bind λk=>(some (.inl ((i64.wrap (b.1+1)),k)))) else (some (.inr (.inl b.2)))):Option ((Int×List (List Int))⊕((List (List Int))⊕(Int))))) ((0:Int),E)).bind λF=>(match F with | .inl H=>(Qlj h.2 g H).bind λl=>(Qek g).bind λ_=>(some (.inl ((i64.wrap (h.1+1)),l))) | .inr I=>(some (.inr (.inr I)))) else (some (.inr (.inl h.2)))):Option ((Int×MpK Qh (List (List Int)))⊕((MpK Qh (List (List Int)))⊕(Int))))) ((0:Int),(some []:MpK Qh (List (List Int))))).bind λK=>(match K with | .inl L=>(QcM (λ(r:MpK Str Qm) (e:(Int×Qm))=>((Qlj r (e.2).Xj e.2).bind λm=>(some (.inl m)):Option ((MpK Str Qm)⊕(MpK Str Qm)))) (some []:MpK Str Qm) d.Xd).bind λs=>(match s with | .inl r=>(some ((some (QaB.mk d f o L r ([]:List Qy))),(0:Int))) | .inr _=>none) | .inr M=>(some (none,M))) | .inr N=>(some (none,N)))))
instance Qm5:SpcS prog 73 (∀{c d r},Qew c d=some r->FnOk prog 73 [Qb.ty c,tsl (rSl (rSl rI)) d] [glo] (λv=>[optA (r.1).isSome (bxC (((r.1).getD default)).x (((r.1).getD default)).w (((r.1).getD default)).links (((r.1).getD default)).refs (((r.1).getD default)).lives (gh v 1) (gh v 0)),optA (r.1).isSome (own QG 108 (((r.1).getD default)).out (gh v 1))]) (λv=>ttup [tv (gh v 0),ti r.2])):=.mk λ{c d r} h=>by
 unfold Qew at h
 refine FeM func73 ntmps73 λM0 M w0 k=>?_
 refine Qa 34 ?_
 refine Qf λ_ k0=>?_
 have⟨_,_,h⟩:=bs h
 refine Qa 56 ?_
 refine Qa 120 ?_
 refine Qo h (λ_ h=>?_) λ_ h=>?_
 ·have⟨_,_,h⟩:=bs h
  refine Qa 96 ?_
  refine QaA ?_
  refine Qan (As'':=[Sim.emp,Sim.emp,glo]) (λ_ _ H=>H.emp.emp) ?_
  obtain rfl:=sj h
  exact QF5 (QaQ (.tuple #[(.pointer none),undef]) [0,1] k)
 refine Qu ?_
 refine k0 ?_
 refine QU [v1 2 (λv0=>QaM (rSl (rSl rI)) (some []:MpK Qh (List (List Int))) v0),v1 3 (λv0=>QaM Qs (some []:MpK Str Qm) v0),v3 2 3 5 (λv0 v1 v2=>box (Qb.cs c++[tsl (rSl (rSl rI)) d,tvs nilV,tvs v0,tvs v1,tvs nilV]) v2),v1 6 (λv0=>box [tvs (.pointer none)] v0),v2 5 6 (λv0 v1=>box [tvs v0] v1)] [3,4,6,7,8] 3224 (λb=>?_) (λb=>by refine' pr 2 ?_;refine' rx (.m [] [1] rfl rfl rfl (Qly Qh (rSl (rSl rI)))) 0 ?_;refine' rx (.m [] [2] rfl rfl rfl (Qly Str Qs)) 0 ?_;refine' rx (.ud2 (f:=λv0 v1=>tagg (Qb.cs c++[tsl (rSl (rSl rI)) d,tvs nilV,tvs v0,tvs v1,tvs nilV])) 2 3 rfl rfl [1,2] rfl rfl (.say (A:=QaM (rSl (rSl rI)) (some []:MpK Qh (List (List Int))) (b 2)) (.head _) (λ_ _ h=>Qrf h) λh0=>.say (A:=QaM Qs (some []:MpK Str Qm) (b 3)) (.tail _ (.head _)) (λ_ _ h=>Qrf h) λh1=>OpJ.Xq (U:=[]) (λA hA=>by cases hA) (Qby underlying165 pl165 zv165 Qua.1 (.cons (R:=Qb) (u:=c) rfl z3 (leb rfl)<|.cons (R:=(rSl (rSl (rSl rI)))) (u:=d) rfl z2 (leb rfl)<|.cons (R:=rVal) (u:=(b 2)) rfl (Fct.Xo z1 λ_ _ _ h=>⟨h,h0⟩) (leb rfl)<|.cons (R:=rVal) (u:=(b 3)) rfl (Fct.Xo z0 λ_ _ _ h=>⟨h,h1⟩) (leb rfl)<|.nil _)))) 0 ?_;refine' rx (.m [] [3] rfl rfl rfl (QlO (R:=(rAgg (Qb.cs c++[tsl (rSl (rSl rI)) d,tvs nilV,tvs (b 2),tvs (b 3),tvs nilV]) (QkB (QkA Qb) (Qt Qbj (Qt Qb9 (Qt Qb9 (Qt Qb9 (Qt Qb9 Qak)))))))) (u:=()) z0)) 0 ?_;refine' rx (.m [] [4] rfl rfl rfl (QaL (R:=rVal) (a:=.pointer none) QiN zokP)) 0 ?_;refine' rx (.e [3] [4] [5] rfl rfl rfl rfl (Qra QiN z0 z1)) 0 ?_;exact rnn)
 refine Q1 (λ_ _ H=>(((((H.nil (QF) 167).nil (QG) 108).Xk [6,0,1,2,3,4,5] rfl).Xl 2 rfl).add 0 rfl (λ_ _ _ h=>h.2)).pick [0,2,3,5,6]) ?_
 refine tIfs h 4032 (λ_ h=>?_) λ_ h=>?_
 ·refine Qa 102 ?_
  refine Q1 (λ_ _ H=>H.Xk [2,3,4] rfl) ?_
  refine QaA ?_
  refine Qan (As'':=[Sim.emp,Sim.emp,glo,QaM (rSl (rSl rI)) (some []:MpK Qh (List (List Int))) (b 2),QaM Qs (some []:MpK Str Qm) (b 3)]) (λ_ _ H=>H.emp.emp) ?_
  obtain rfl:=sj h
  exact QF5 (QaQ (.tuple #[(.pointer none),undef]) [0,1] k)
 refine Qf λK0 k1=>?_
 refine Qa 2012 ?_
 have⟨e3,h2,h⟩:=bs h
 refine tJq (λ_ _=>[]) 148485 (λp e=>[own QG 108 ([]:List Qy) nilV,own QF 167 p e,QaM (rSl (rSl rI)) (some []:MpK Qh (List (List Int))) (b 2),QaM Qs (some []:MpK Str Qm) (b 3),box (Qb.cs c++[tsl (rSl (rSl rI)) d,tvs e,tvs (b 2),tvs (b 3),tvs nilV]) (b 5)]) 34630336641 K0 (·=e3) (λp e j=>?_) λJ0=>?_
 ·subst j
  refine k1 ?_
  refine Qf λK1 k2=>?_
  refine Qa 126 ?_
  have⟨e4,h3,h⟩:=bs h
  refine tJp (λ_=>[]) 16261 (λ_=>[own QG 108 ([]:List Qy) nilV,QaM (rSl (rSl rI)) (some []:MpK Qh (List (List Int))) (b 2),QaM Qs (some []:MpK Str Qm) (b 3),box (Qb.cs c++[tsl (rSl (rSl rI)) d,tvs e,tvs (b 2),tvs (b 3),tvs nilV]) (b 5)]) 34630336897 K1 (.inl ·=e4) (λp1 j=>?_) λJ1=>?_
  ·subst j
   simp only at h
   refine k2 ?_
   refine Qf λK2 k3=>?_
   refine Qa 1008 ?_ (λ_=>by refine' rx (.p rfl (QcN QiN z0)) 5 ?_;exact rnn)
   have⟨e5,h4,h⟩:=bs h
   refine tJp (λ_=>[]) 773 (λx=>[own QG 108 ([]:List Qy) nilV,QaM (rSl (rSl rI)) x (b 2),QaM Qs (some []:MpK Str Qm) (b 3),box (Qb.cs c++[tsl (rSl (rSl rI)) d,tvs e,tvs (b 2),tvs (b 3),tvs nilV]) (b 5)]) 34630336897 K2 (.inl ·=e5) (λx j=>?_) λJ2=>?_
   ·subst j
    simp only at h
    refine k3 ?_
    intro a w H
    refine wp_seq_k (λ_ k4=>?_)
    refine tAtSt H ?_
    refine Qa 24 ?_ (λ_=>by refine' pr 2 ?_;refine' rx (.p rfl (QO Qu2 Qlf (.cons (.of z0)<|.nil))) 0 ?_;exact rnn)
    refine Qk ?_
    have⟨_,h5,h⟩:=bs h
    refine Q1 (λ_ _ H=>H.pick [0,1]) ?_
    intro a w H
    refine Qwe (va:=λ(i:Int×Qm)=>.int .i64 i.1) (vb:=λ(i:Int×Qm)=>Qs.ty i.2) (A:=(λ(s:MpK Str Qm) _=>[own QG 108 ([]:List Qy) nilV,own QF 167 p e,glo,QaM (rSl (rSl rI)) x (b 2),QaM Qs s (b 3),box (Qb.cs c++[tsl (rSl (rSl rI)) d,tvs e,tvs (b 2),tvs (b 3),tvs nilV]) (b 5)])) (s0:=(some []:MpK Str Qm)) (g0:=undef) (jump:=.ret) (jx:=.ret) .ret H z0 Qu6 (Qj9 h5) (by decide) (by decide) (by decide) rfl (λs _ g r h M0 M w0 a l z a2 K Q a1 k H hK hN hX=>?_) (λs _ D a w M j T H=>?_) (λs _ D a w M j T H=>?_)
    ·replace H:St M w0 177 [(167,ti g.1),(168,Qs.ty g.2),(7,tptr (rVal.cs (b 5)))] [z,own QG 108 ([]:List Qy) nilV,own QF 167 p e,glo,QaM (rSl (rSl rI)) x (b 2),QaM Qs s (b 3),box (Qb.cs c++[tsl (rSl (rSl rI)) d,tvs e,tvs (b 2),tvs (b 3),tvs nilV]) (b 5)] a w0:=H.pick [0,1,3]
     refine QuH mixed [v1 0 (λv0=>box (Qs.cs zz2) v0),v1 0 (λv0=>box (Qs.cs g.2) v0)] H (λ_=>.m [] [7] rfl rfl rfl (QaL (R:=Qs) (a:=zz2) Qhh Qr2)<|.e [] [7] [8] rfl rfl rfl rfl (Qay (R:=Qs) (a:=g.2) Qhh z0 z2 (leb rfl))<|.nil _ _) (by kernel_rfl) (λ_ a w H=>?_)
     replace H:St _ _ _ [_,_] [_,_,_,_,_,_,_] _ _:=((((H.pick [0,3]).Xk [7,0,1,2,3,4,5,6] rfl).Xl 0 rfl).add 0 rfl (λ_ _ _ h=>h.2)).pick [0,3]
     refine hK _ _ _ _ H (λw H=>?_)
     refine Qxy ?_
     have⟨V,C,h⟩:=bs h
     refine QuH mixed [v0 (QaM Qs V (b 3))] H (λ_=>.o (QcN QiN z1)<|.u [6] rfl rfl (Qax z0)<|.u [6] rfl rfl (Q5 Qo1 z0)<|.u [6] rfl rfl (Qat (u:=(b 3)) QuM z0 rfl)<|.o (QP QuQ z4)<|.o (QM (u:=(g.2).Xj) tok9 z0 rfl)<|.o (Q4 Qhh z6)<|.e [] [5] [7] rfl rfl rfl rfl (Qkn (i:=(g.2).Xj) trivial underlying163 (Qiy ud9) z3 z1 z0 C)<|.nil _ _) (by kernel_rfl) (λ_ a w H=>?_)
     have H:=H.to [3,8] [_,_] [_,_,_,_,_,_,_] rfl rfl
     obtain rfl:=sj h
     exact hN _ undef _ [0,1,2,3,4,5,6] _ _ _ rfl (H.Xk [0,1,2,3,4,6,5] rfl) rfl (λ_=>rfl)
    ·subst j
     simp only at h
     replace k:=T _ _ k
     have H:=H.to [1] [_] [_,_,_,_,_,_,_] rfl rfl
     refine k4 _ _ (tAtSt H ?_)
     refine Qa 12 ?_ (λ_=>by refine' rx (.p rfl (QcN QiN z0)) 2 ?_;exact rnn)
     refine QaA ?_
     refine Qan (As'':=[box (Qb.cs c++[tsl (rSl (rSl rI)) d,tsl QF p,tvs (b 2),tvs (b 3),tvs nilV]) (b 5),objA D defO,own QG 108 ([]:List Qy) nilV,glo,QaM (rSl (rSl rI)) x (b 2),QaM Qs s (b 3)]) (λ_ _ H=>((H.pick [0,1]).Xk [2,6,0,1,3,4,5] rfl).Xm 5 rfl) ?_
     refine Qan (As'':=[box (Qb.cs c++[tsl (rSl (rSl rI)) d,tsl QF p,Qao (rSl (rSl rI)) x,tvs (b 3),tvs nilV]) (b 5),objA D defO,own QG 108 ([]:List Qy) nilV,glo,QaM Qs s (b 3)]) (λ_ _ H=>((H.pick [0,1]).Xk [4,0,1,2,3,5] rfl).shareCMK 6 rfl) ?_
     refine Qan (As'':=[bxC c d p x s nilV (b 5),objA D defO,own QG 108 ([]:List Qy) nilV,glo]) (λ_ _ H=>((H.pick [0,1]).Xk [4,0,1,2,3] rfl).shareCMK 7 rfl) ?_
     refine Qan (λ_ _ H=>H.Xk [1,0,2,3] rfl) ?_
     obtain rfl:=sj h
     exact λ_ _ H=>Qv7 (.tuple #[(b 5),nilV]) [1,2] k H rfl (.tmp z0 (.tmp z1 .nil)) rfl rfl rfl
    subst j
    simp only at h
    cases h
   refine tJr (λp3=>[(4,tv (.pointer none)),(5,ti p3)]) 129 (λ_=>[]) 4 (.inr ·=e5) (λp3 j=>?_) λJ3=>?_
   ·subst j
    simp only at h
    refine Qan (As'':=[Sim.emp,Sim.emp,glo]) (λ_ _ H=>H.emp.emp) ?_
    obtain rfl:=sj h
    exact QF5 (QaQ (.tuple #[(.pointer none),undef]) [0,1] k)
   refine Qk ?_
   refine Qaf h4 (λt=>[(100,ti t.1)]) 34101805442 (λt=>[own QG 108 ([]:List Qy) nilV,QaM (rSl (rSl rI)) t.2 (b 2),QaM Qs (some []:MpK Str Qm) (b 3),box (Qb.cs c++[tsl (rSl (rSl rI)) d,tvs e,tvs (b 2),tvs (b 3),tvs nilV]) (b 5)]) 34630336897 126 ?_
   clear h
   intro t o K3 h m k5
   refine Qa 254 ?_
   refine Qf λ_ k6=>?_
   refine Qo h (λ_ h=>?_) λ_ h=>?_
   ·refine Qu ?_
    refine k6 ?_
    refine Qf λ_ k7=>?_
    refine Qk ?_
    have⟨W,_,h⟩:=bs h
    refine QU [v1 2 (λv0=>box (QF.cs (Qh.mk (0:Int) (0:Int) (0:Int))) v0),v1 2 (λv0=>box (QF.cs W) v0)] [3,4] 2024 λm1=>?_
    refine Q1 (λ_ _ H=>(((H.Xk [6,0,1,2,3,4,5] rfl).Xl 0 rfl).add 0 rfl (λ_ _ _ h=>h.2)).pick [0,3,4,5,6,7,8]) ?_
    have⟨t1,_,t2,h6,h⟩:=bs2 h
    refine QU [v1 6 (λv0=>own rVal 22 (replicate ((t1.length:Int)).toNat nilV) v0)] [7] 65280 (λm2=>?_) (λ_=>by refine' pr 6 ?_;refine' rx (.m [] [6] rfl rfl rfl (Qmn (α:=Int) ud40 Qbh (leb rfl) z0 z0 h6)) 0 ?_;refine' rx (.ud (f:=λv=>tv (dh (dmk v []))) 6 rfl [] rfl rfl (Ql z0)) 0 ?_;exact rnn)
    refine Q1 (As'':=[deep (dOwn rI 3) 22 t2 (dmk (m2 6) []),own QG 108 ([]:List Qy) nilV,own QF 167 p e,glo,QaM (rSl (rSl rI)) t.2 (b 2),QaM Qs (some []:MpK Str Qm) (b 3),box (Qb.cs c++[tsl (rSl (rSl rI)) d,tvs e,tvs (b 2),tvs (b 3),tvs nilV]) (b 5)]) (λ_ _ H=>(H.Xk [6,0,1,2,3,4,5] rfl).makeD QAA rfl rfl h6) ?_
    refine Qf λK4 k8=>?_
    have⟨_,_,h⟩:=bs h
    refine Qa 65504 ?_
    have⟨e6,h7,h⟩:=bs h
    refine tJq (λ_ y1=>[(16,tv (dh y1))]) 2081537 (λp4 y1=>[deep (dOwn rI 3) 22 p4 y1,own QG 108 ([]:List Qy) nilV,QaM Qs (some []:MpK Str Qm) (b 3),box (Qb.cs c++[tsl (rSl (rSl rI)) d,tvs e,tvs (b 2),tvs (b 3),tvs nilV]) (b 5)]) 4434027413633 K4 (.inl ·=e6) (λp4 y1 j=>?_) λJ4=>?_
    ·subst j
     simp only at h
     refine k8 ?_
     refine Q1 (As'':=[own QG 108 ([]:List Qy) nilV,own QF 167 p e,glo,QaM (rSl (rSl rI)) t.2 (b 2),QaM Qs (some []:MpK Str Qm) (b 3),box (Qb.cs c++[tsl (rSl (rSl rI)) d,tvs e,tvs (b 2),tvs (b 3),tvs nilV]) (b 5)]) (λ_ _ H=>(H.shareD 0 rfl).pick [0,2,3,4,5,6,7,8]) ?_
     have⟨X,E,_,h8,h⟩:=bs2 h
     refine QaG [v0 (QaM (rSl (rSl rI)) X (b 2))] [7] 32272 (λm3=>?_) (λ_=>by refine' rx (.p rfl (QcN QiN z5)) 5 ?_;refine' rx (.e [] [3] [6] rfl rfl rfl rfl (Qkn (i:=W) (Qiz h8) underlying162 QqA z2 (Fct.ints [W.kind,W.field,W.to] z1) z0 E)) 0 ?_;exact rnn)
     refine k7 ?_
     refine QJ 508 ?_
     refine Qan (λ_ _ H=>(H.pick [2,3,0,4,5,6]).Xk [0,1,2,5,3,4] rfl) ?_
     exact Qx k5 ((sj h).symm) 126
    refine tJr (λp5=>[(4,tv (.pointer none)),(5,ti p5)]) 129 (λ_=>[]) 5 (.inr ·=e6) (λp5 j=>?_) λJ5=>?_
    ·subst j
     simp only at h
     exact Qx J3 (m _ (sj h).symm) 6
    refine Qk ?_
    refine QaU h7 (λn q=>[(117,ti n.1),(16,tv (dh q))]) 4365299499394 (λn q=>[deep (dOwn rI 3) 22 n.2 q,own QG 108 ([]:List Qy) nilV,QaM Qs (some []:MpK Str Qm) (b 3),box (Qb.cs c++[tsl (rSl (rSl rI)) d,tvs e,tvs (b 2),tvs (b 3),tvs nilV]) (b 5)]) 4434027413633 (dmk (m2 6) []) 4094 ?_
    clear h
    intro n q o K5 h m k9
    refine Qa 8190 ?_
    refine Qf λ_ a3=>?_
    refine Qo h (λ_ h=>?_) λ_ h=>?_
    ·refine Qu ?_
     refine a3 ?_
     refine Qf λ_ a4=>?_
     refine Qk ?_
     have⟨_,_,h⟩:=bs h
     refine Qa 262064 ?_
     refine Qf λ_ a5=>?_
     have⟨I,_,_,_,h⟩:=bs2 h
     refine Qa 1073676288 ?_ (λ_=>by refine' pr 13 ?_;refine' rx (.gu [0] rfl rfl rfl bq6 (λhc=>Qg9 ud40 (.cond z0 hc))) 2 ?_;exact rnn)
     refine Qo h (λ_ h=>?_) λ_ h=>?_
     ·refine Qa 2566 ?_
      refine Q1 (λ_ _ H=>H.Xk [0,2,3] rfl) ?_
      refine QaA ?_
      refine Qan (λ_ _ H=>(H.pick [0,1]).Xk [2] rfl) ?_
      exact Qx J5 (m _ (sj h).symm) 6
     refine Qu ?_
     refine a5 ?_
     have⟨r2,L,h⟩:=bs h
     refine Q1 (As'':=[own rI 3 r2 (dh (ds q I.toNat)),QbQ (dOwn rI 3) 22 n.2 q (some I.toNat),own QG 108 ([]:List Qy) nilV,own QF 167 p e,glo,QaM (rSl (rSl rI)) t.2 (b 2),QaM Qs (some []:MpK Str Qm) (b 3),box (Qb.cs c++[tsl (rSl (rSl rI)) d,tvs e,tvs (b 2),tvs (b 3),tvs nilV]) (b 5)]) (λ_ _ H=>H.openD L) ?_
     have⟨_,_,Y,F,h⟩:=bs2 h
     refine QaG [v1 16 (λv0=>own rI 3 (r2++[n.1]) v0),v1 16 (λv0=>QbQ (dOwn rI 3) 22 n.2 (dset (n.2).length q I.toNat (dmk v0 [])) (some I.toNat))] [17,19] 8585740418 (λN=>?_) (λN=>by refine' pr 12 ?_;refine' rx (.u [1] rfl rfl (QaV ud40 Qci z5 z0 L)) 0 ?_;refine' rx (.u [1] rfl rfl (Qa7 Qbh z0 L)) 3 ?_;refine' rx (.u [1] rfl rfl (QaV ud40 Qci z16 z11 L)) 0 ?_;refine' rx (.e [8] [1] [9] rfl rfl rfl rfl (Qlx (B:=own rI 3 (r2++[n.1]) (N 16)) (g2:=(dmk (N 16) [])) (λ_ _ h=>Qg6 h) Qbh z0 z1 L (leb rfl) rfl)) 0 ?_;exact rnn)
     refine Qan (As'':=[deep (dOwn rI 3) 22 Y (dset (n.2).length q I.toNat (dmk (N 16) [])),own QG 108 ([]:List Qy) nilV,own QF 167 p e,glo,QaM (rSl (rSl rI)) t.2 (b 2),QaM Qs (some []:MpK Str Qm) (b 3),box (Qb.cs c++[tsl (rSl (rSl rI)) d,tvs e,tvs (b 2),tvs (b 3),tvs nilV]) (b 5)]) (λ_ _ H=>(H.Xk [6,7,0,1,2,3,4,5] rfl).shutN (D:=(dOwn rI 3)) (y:=(r2++[n.1])) (g2:=(dmk (N 16) [])) L F) ?_
     refine a4 ?_
     refine QJ 32764 ?_
     exact Q7 k9 (dset (n.2).length q I.toNat (dmk (N 16) [])) ((sj h).symm) 30918339673323487659273
    refine QQ ?_
    exact Q7 J4 q (m _ (sj h).symm) 8160
   refine QQ ?_
   exact Qx J2 (m _ (sj h).symm) 96
  refine tJr (λp6=>[(4,tv (.pointer none)),(5,ti p6)]) 129 (λ_=>[]) 4 (.inr ·=e4) (λp6 j=>?_) λJ6=>?_
  ·subst j
   simp only at h
   refine Qan (As'':=[Sim.emp,Sim.emp,glo]) (λ_ _ H=>H.emp.emp) ?_
   obtain rfl:=sj h
   exact QF5 (QaQ (.tuple #[(.pointer none),undef]) [0,1] k)
  refine Qk ?_
  refine Qaf h3 (λs5=>[(81,ti s5)]) 34101805442 (λs5=>[own QG 108 ([]:List Qy) nilV,QaM (rSl (rSl rI)) (some []:MpK Qh (List (List Int))) (b 2),QaM Qs (some []:MpK Str Qm) (b 3),box (Qb.cs c++[tsl (rSl (rSl rI)) d,tvs e,tvs (b 2),tvs (b 3),tvs nilV]) (b 5)]) 34630336897 126 ?_
  clear h
  intro s5 o K6 h m a6
  refine Qa 254 ?_
  refine Qf λ_ a7=>?_
  refine Qo h (λ_ h=>?_) λ_ h=>?_
  ·refine Qu ?_
   refine a7 ?_
   refine Qf λ_ a8=>?_
   refine Qk ?_
   have⟨_,_,h⟩:=bs h
   refine QU [v1 3 (λv0=>box (rI.cs (0:Int)) v0),v1 3 (λv0=>box (rI.cs s5) v0)] [4,5] 8112 λm5=>?_
   refine Q1 (λ_ _ H=>(((H.Xk [6,0,1,2,3,4,5] rfl).Xl 0 rfl).add 0 rfl (λ_ _ _ h=>h.2)).pick [0,3,4,5,6,7,8,9]) ?_
   have⟨_,_,h⟩:=bs h
   refine Qa 129280 ?_
   refine Qo h (λ_ h=>?_) λ_ h=>?_
   ·refine Qa 6 ?_
    refine Q1 (λ_ _ H=>H.Xk [2] rfl) ?_
    refine QaA ?_
    exact Qx J6 (m _ (sj h).symm) 6
   refine Qu ?_
   refine a8 ?_
   refine QJ 500 ?_
   exact Qx a6 ((sj h).symm) 415018025733
  refine QQ ?_
  exact Qx J1 (m _ (sj h).symm) 224
 refine Qk ?_
 refine QaU h2 (λZ O=>[(45,ti Z.1)]) 311395631490 (λZ O=>[own QG 108 ([]:List Qy) nilV,own QF 167 Z.2 O,QaM (rSl (rSl rI)) (some []:MpK Qh (List (List Int))) (b 2),QaM Qs (some []:MpK Str Qm) (b 3),box (Qb.cs c++[tsl (rSl (rSl rI)) d,tvs O,tvs (b 2),tvs (b 3),tvs nilV]) (b 5)]) 34630336641 nilV 414 ?_
 clear h
 intro Z O o K7 h m a9
 refine Qa 254 ?_
 refine Qf λ_ b0=>?_
 refine Qo h (λ_ h=>?_) λ_ h=>?_
 ·refine Qu ?_
  refine b0 ?_
  refine Qf λK8 b1=>?_
  refine Qk ?_
  have⟨t4,_,h⟩:=bs h
  refine QU [v1 3 (λv0=>box (Qq.cs zz1) v0),v1 3 (λv0=>box (Qq.cs t4) v0)] [4,6] 8112 λm6=>?_
  refine Q1 (λ_ _ H=>(((H.Xk [6,0,1,2,3,4,5] rfl).Xl 0 rfl).add 0 rfl (λ_ _ _ h=>h.2)).pick [0,3,4,5,6,7,8,9]) ?_
  refine Qa 8156 ?_
  have⟨e7,b2,h⟩:=bs h
  refine tJq (λ_ _=>[]) 16262 (λp7 y4=>[own QG 108 ([]:List Qy) nilV,own QF 167 p7 y4,QaM (rSl (rSl rI)) (some []:MpK Qh (List (List Int))) (b 2),QaM Qs (some []:MpK Str Qm) (b 3),box (Qb.cs c++[tsl (rSl (rSl rI)) d,tvs y4,tvs (b 2),tvs (b 3),tvs nilV]) (b 5)]) 34630336641 K8 (·=e7) (λp7 y4 j=>?_) λJ7=>?_
  ·subst j
   refine b1 ?_
   refine QJ 252 ?_
   exact Q7 a9 y4 ((sj h).symm) 415018025733
  refine Qk ?_
  refine QaU b2 (λP S=>[(53,ti P.1)]) 34101805442 (λP S=>[own QG 108 ([]:List Qy) nilV,own QF 167 P.2 S,QaM (rSl (rSl rI)) (some []:MpK Qh (List (List Int))) (b 2),QaM Qs (some []:MpK Str Qm) (b 3),box (Qb.cs c++[tsl (rSl (rSl rI)) d,tvs S,tvs (b 2),tvs (b 3),tvs nilV]) (b 5)]) 34630336641 O 2046 ?_
  clear h
  intro P S o K9 h m b3
  refine Qa 4094 ?_
  refine Qf λ_ b4=>?_
  refine Qo h (λ_ h=>?_) λ_ h=>?_
  ·refine Qu ?_
   refine b4 ?_
   refine Qf λb5 b6=>?_
   refine Qk ?_
   have⟨t5,_,h⟩:=bs h
   refine QU [v1 3 (λv0=>box (Qd.cs zz0) v0),v1 3 (λv0=>box (Qd.cs t5) v0)] [4,6] 130992 λm7=>?_
   refine Q1 (λ_ _ H=>(((H.Xk [6,0,1,2,3,4,5] rfl).Xl 0 rfl).add 0 rfl (λ_ _ _ h=>h.2)).pick [0,3,4,5,6,7,8,9,10,11,12,13]) ?_
   refine Qa 65512 ?_
   have⟨p8,a0,h⟩:=bs h
   refine tJ1 (λ_=>[]) 16260 (λy6=>[own QG 108 ([]:List Qy) nilV,QaM (rSl (rSl rI)) (some []:MpK Qh (List (List Int))) (b 2),QaM Qs (some []:MpK Str Qm) (b 3),own QF 167 p8 y6,box (Qb.cs c++[tsl (rSl (rSl rI)) d,tvs y6,tvs (b 2),tvs (b 3),tvs nilV]) (b 5)]) 34630287873 b5 (λy6=>?_) λJ8=>?_
   ·refine b6 ?_
    refine QJ 4092 ?_
    refine Qan (λ_ _ H=>(H.pick [1,2,0,3,4,5,6,7,8,9]).Xk [0,4,1,2,3,5] rfl) ?_
    exact Q7 b3 y6 ((sj h).symm) 2046
   replace h:=a0
   clear a0
   refine Qo h (λ_ h=>?_) λ_ h=>?_
   ·have⟨t6,_,_,_,h⟩:=bs2 h
    refine QaG [v1 13 (λv0=>own QF 167 (P.2++[(Qh.mk Z.1 P.1 t6)]) v0),v1 13 (λv0=>box (Qb.cs c++[tsl (rSl (rSl rI)) d,tvs v0,tvs (b 2),tvs (b 3),tvs nilV]) (b 5))] [14,17] 536363008 (λm8=>?_) (λ_=>by refine' rx (.p rfl (QcN QiN z9)) 0 ?_;refine' rx (.p rfl (QcN QiN z10)) 15 ?_;exact rnn)
    obtain rfl:=sj h
    exact QN (J8 (m8 13)) 4092
   refine Qu ?_
   obtain rfl:=sj h
   refine Qan (λ_ _ H=>(H.pick [2,3,4,5,6,7,8,9,10,11]).Xk [0,2,3,4,1,5] rfl) ?_
   exact QN (J8 S) 2046
  refine QQ ?_
  exact Q7 J7 S (m _ (sj h).symm) 4032
 refine QQ ?_
 exact Q7 J0 O (m _ (sj h).symm) 224
def QhH (k:Qc) (u:(List (List (List Int)))):Option ((List Qy)):=(Qew k u).bind λy=>(if (y.2 !=0)=true then (some [(Qy.mk (-1) (-1) (-1) y.2)]) else (y.1).bind λh=>(Qr (λ(s0:Int×Qc×(List (List (List Int)))×(List Qh)×(MpK Qh (List (List Int)))×(MpK Str Qm)×List Qy)=>(if (decide (s0.1<(u.length:Int)))=true then (idx u s0.1).bind λz=>(idx k.Xa s0.1).bind λF=>(opt ((decide ((z.length:Int)<F.Lo))==false) (idx k.Xa s0.1) default).bind λL=>(Qb0 ((decide ((z.length:Int)<F.Lo))||(decide ((z.length:Int)>L.Hi))) 4).bind λM=>(Qb5 (QaB.mk s0.2.1 s0.2.2.1 s0.2.2.2.1 s0.2.2.2.2.1 s0.2.2.2.2.2.1 s0.2.2.2.2.2.2) s0.1 (-1) (-1) [M]).bind λo=>(some (.inl ((i64.wrap (s0.1+1)),o.x,o.w,o.links,o.refs,o.lives,o.out))) else (some (.inr (s0.2.1,s0.2.2.1,s0.2.2.2.1,s0.2.2.2.2.1,s0.2.2.2.2.2.1,s0.2.2.2.2.2.2))))) ((0:Int),h.x,h.w,h.links,h.refs,h.lives,h.out)).bind λp=>(Qr (λ(b:Int×Qc×(List (List (List Int)))×(List Qh)×(MpK Qh (List (List Int)))×(MpK Str Qm)×List Qy)=>(if (decide (b.1<(u.length:Int)))=true then (idx u b.1).bind λH=>(Qr (λ(c:Int×Qc×(List (List (List Int)))×(List Qh)×(MpK Qh (List (List Int)))×(MpK Str Qm)×List Qy×Mp Bool)=>(if (decide (c.1<(H.length:Int)))=true then (idx H c.1).bind λI=>(Qr (λ(a:Int×Qc×(List (List (List Int)))×(List Qh)×(MpK Qh (List (List Int)))×(MpK Str Qm)×List Qy×Mp Bool)=>(if (decide (a.1<(I.length:Int)))=true then (Qdz (QaB.mk a.2.1 a.2.2.1 a.2.2.2.1 a.2.2.2.2.1 a.2.2.2.2.2.1 a.2.2.2.2.2.2.1) b.1 c.1 a.1 a.2.2.2.2.2.2.2).bind λK=>(Qb5 (QaB.mk a.2.1 a.2.2.1 a.2.2.2.1 a.2.2.2.2.1 a.2.2.2.2.2.1 a.2.2.2.2.2.2.1) b.1 c.1 a.1 [K.1]).bind λq=>(some (.inl ((i64.wrap (a.1+1)),q.x,q.w,q.links,q.refs,q.lives,q.out,K.2))) else (some (.inr (a.2.1,a.2.2.1,a.2.2.2.1,a.2.2.2.2.1,a.2.2.2.2.2.1,a.2.2.2.2.2.2.1,a.2.2.2.2.2.2.2))))) ((0:Int),c.2.1,c.2.2.1,c.2.2.2.1,c.2.2.2.2.1,c.2.2.2.2.2.1,c.2.2.2.2.2.2.1,c.2.2.2.2.2.2.2)).bind λm=>(Qr (λ(f:Int×Qc×(List (List (List Int)))×(List Qh)×(MpK Qh (List (List Int)))×(MpK Str Qm)×List Qy)=>(if (decide (f.1<(k.Xc.length:Int)))=true then (idx k.Xc f.1).bind λv=>(QcE k v.Xi).bind λn=>(opt ((n==b.1)==true) (idx k.Xa b.1) default).bind λA=>(opt ((n==b.1)==true) (QhG A I v) default).bind λB=>(Qb0 ((n==b.1)&&(!B)) 24).bind λC=>(Qb5 (QaB.mk f.2.1 f.2.2.1 f.2.2.2.1 f.2.2.2.2.1 f.2.2.2.2.2.1 f.2.2.2.2.2.2) b.1 c.1 (-1) [C]).bind λi=>(some (.inl ((i64.wrap (f.1+1)),i.x,i.w,i.links,i.refs,i.lives,i.out))) else (some (.inr (f.2.1,f.2.2.1,f.2.2.2.1,f.2.2.2.2.1,f.2.2.2.2.2.1,f.2.2.2.2.2.2))))) ((0:Int),m.1,m.2.1,m.2.2.1,m.2.2.2.1,m.2.2.2.2.1,m.2.2.2.2.2.1)).bind λr=>(some (.inl ((i64.wrap (c.1+1)),r.1,r.2.1,r.2.2.1,r.2.2.2.1,r.2.2.2.2.1,r.2.2.2.2.2,m.2.2.2.2.2.2))) else (some (.inr (c.2.1,c.2.2.1,c.2.2.2.1,c.2.2.2.2.1,c.2.2.2.2.2.1,c.2.2.2.2.2.2.1))))) ((0:Int),b.2.1,b.2.2.1,b.2.2.2.1,b.2.2.2.2.1,b.2.2.2.2.2.1,b.2.2.2.2.2.2,(some []:Mp Bool))).bind λs=>(some (.inl ((i64.wrap (b.1+1)),s.1,s.2.1,s.2.2.1,s.2.2.2.1,s.2.2.2.2.1,s.2.2.2.2.2))) else (some (.inr (b.2.1,b.2.2.1,b.2.2.2.1,b.2.2.2.2.1,b.2.2.2.2.2.1,b.2.2.2.2.2.2))))) ((0:Int),p.1,p.2.1,p.2.2.1,p.2.2.2.1,p.2.2.2.2.1,p.2.2.2.2.2)).bind λl=>(Qr (λ(d:Int×Qc×(List (List (List Int)))×(List Qh)×(MpK Qh (List (List Int)))×(MpK Str Qm)×List Qy)=>(if (decide (d.1<(l.2.2.1.length:Int)))=true then (idx l.2.2.1 d.1).bind λg=>(idx k.Xa g.kind).bind λD=>(idx D.Xb g.field).bind λw=>(Qek g).bind λ_=>(Qr (λ(e:Int×Qc×(List (List (List Int)))×(List Qh)×(MpK Qh (List (List Int)))×(MpK Str Qm)×List Qy)=>(if (decide (e.1<(((QbF d.2.2.2.2.1 g).getD ([]:(List (List Int)))).length:Int)))=true then (idx ((QbF d.2.2.2.2.1 g).getD ([]:(List (List Int)))) e.1).bind λx=>(Qb0 ((decide ((x.length:Int)<w.Lo))||(decide ((x.length:Int)>w.Hi))) 11).bind λE=>(Qb5 (QaB.mk e.2.1 e.2.2.1 e.2.2.2.1 e.2.2.2.2.1 e.2.2.2.2.2.1 e.2.2.2.2.2.2) g.kind e.1 g.field [E]).bind λj=>(some (.inl ((i64.wrap (e.1+1)),j.x,j.w,j.links,j.refs,j.lives,j.out))) else (some (.inr (e.2.1,e.2.2.1,e.2.2.2.1,e.2.2.2.2.1,e.2.2.2.2.2.1,e.2.2.2.2.2.2))))) ((0:Int),d.2.1,d.2.2.1,d.2.2.2.1,d.2.2.2.2.1,d.2.2.2.2.2.1,d.2.2.2.2.2.2)).bind λt=>(some (.inl ((i64.wrap (d.1+1)),t.1,t.2.1,t.2.2.1,t.2.2.2.1,t.2.2.2.2.1,t.2.2.2.2.2))) else (some (.inr (d.2.1,d.2.2.1,d.2.2.2.1,d.2.2.2.2.1,d.2.2.2.2.2.1,d.2.2.2.2.2.2))))) ((0:Int),l.1,l.2.1,l.2.2.1,l.2.2.2.1,l.2.2.2.2.1,l.2.2.2.2.2)).bind λN=>(some N.2.2.2.2.2))
instance QFa:SpcS prog 38 (∀{R Y r},QhH R Y=some r->FnOk prog 38 [Qb.ty R,tsl (rSl (rSl rI)) Y] [glo] (λ_=>[]) (λ_=>tsl QG r)):=.mk λ{R Y r} h=>by
 unfold QhH at h
 refine Fe func38 ntmps38 λM0 M w0 O=>?_
 refine Qa 18 ?_
 have⟨p,h0,h⟩:=bs h
 refine QU [v1 2 (λv0=>optA (p.1).isSome (bxC (((p.1).getD default)).x (((p.1).getD default)).w (((p.1).getD default)).links (((p.1).getD default)).refs (((p.1).getD default)).lives (gh v0 1) (gh v0 0))),v1 2 (λv0=>optA (p.1).isSome (own QG 108 (((p.1).getD default)).out (gh v0 1)))] [3,3] 1920 (λa=>?_) (λ_=>by refine' pr 2 ?_;refine' rx (.m [0] [1,2] rfl rfl rfl ((QO Qyt (Qm5.ok h0) (.cons (.of z1)<|.cons (.of z0)<|.nil)).glo)) 0 ?_;refine' rx (.ud (f:=λv=>ttup [tv (gh v 0),ti p.2]) 2 rfl [] rfl rfl (Qaa z0)) 0 ?_;refine' rx (.ud (f:=λv=>tv (gh v 0)) 2 rfl [] rfl rfl (Qas z0 rfl)) 1 ?_;refine' rx (.ud (f:=λv=>tv (gh v 0)) 2 rfl [] rfl rfl (Ql z1)) 1 ?_;exact rnn)
 refine tIfs h 124 (λ_ h=>?_) λ_ h=>?_
 ·refine Qa 16 ?_
  refine Q1 (λ_ _ H=>H.Xk [0] rfl) ?_
  exact Qp h (·▸Qn O)
 refine Qf λK0 k0=>?_
 refine Qf λ_ k1=>?_
 have⟨d,P,h⟩:=bs h
 rw[P]
 refine Q1 (As':=[glo,bxC d.x d.w d.links d.refs d.lives (gh (a 2) 1) (gh (a 2) 0),own QG 108 d.out (gh (a 2) 1)]) (λ_ _ H=>H) ?_
 refine QJ 430 ?_
 refine k1 ?_
 have⟨e3,h1,h⟩:=bs h
 refine tJq (λ_ _=>[]) 16261 (λz S=>[bxC z.1 z.2.1 z.2.2.1 z.2.2.2.1 z.2.2.2.2.1 S (gh (a 2) 0),own QG 108 z.2.2.2.2.2 S]) 16514 K0 (·=e3) (λz S e=>?_) λJ0=>?_
 ·subst e
  refine k0 ?_
  refine Qf λK1 k2=>?_
  refine Qa 62 ?_
  have⟨e4,h2,h⟩:=bs h
  refine tJq (λ_ _=>[]) 773 (λq T=>[bxC q.1 q.2.1 q.2.2.1 q.2.2.2.1 q.2.2.2.2.1 T (gh (a 2) 0),own QG 108 q.2.2.2.2.2 T]) 16514 K1 (·=e4) (λq T e=>?_) λJ1=>?_
  ·subst e
   refine k2 ?_
   refine Qf λK2 k3=>?_
   refine Qa 496 ?_
   have⟨e5,h3,h⟩:=bs h
   have J2:∀x Z,x=e5->To M w0 191 [(5,tv (gh (a 2) 0))] [glo,bxC x.1 x.2.1 x.2.2.1 x.2.2.2.1 x.2.2.2.2.1 Z (gh (a 2) 0),own QG 108 x.2.2.2.2.2 Z] K2:=by
    intro x Z e;subst e;refine k3 <|Qa 48 ?_;refine Q1 (λ_ _ H=>H.Xk [0,2] rfl) ?_;refine QaA ?_;refine Qan (by intro _ _ H;exact ((H.Xk [1,0] rfl).Xn 1 rfl).pick [0]) ?_;obtain rfl:=sj h;exact Qn O
   refine Qk <|QaU h3 (λs0 D=>[(137,ti s0.1)]) 1621115266 (λs0 D=>[bxC s0.2.1 s0.2.2.1 s0.2.2.2.1 s0.2.2.2.2.1 s0.2.2.2.2.2.1 D (gh (a 2) 0),own QG 108 s0.2.2.2.2.2.2 D]) 16514 T 62 ?_;clear h;intro s0 D o K3 h g k4;refine Qa 126 ?_;refine Qf λ_ k5=>Qo h (λ_ h=>?_) λ_ h=>?_
   ·refine Qu <|k5 <|Qf λK4 k6=>Qk ?_;have⟨m,_,h⟩:=bs h;refine QU [v1 2 (λv0=>box (QF.cs (Qh.mk (0:Int) (0:Int) (0:Int))) v0),v1 2 (λv0=>box (QF.cs m) v0)] [3,4] 1000 λm1=>?_;refine Q1 (λ_ _ H=>(((H.Xk [3,0,1,2] rfl).Xl 0 rfl).add 0 rfl (λ_ _ _ h=>h.2)).pick [0,3,4,5,6,7]) ?_;have⟨_,_,t2,_,h⟩:=bs2 h;refine QU [v1 11 (λv0=>box (Qd.cs zz0) v0),v1 11 (λv0=>box (Qd.cs t2) v0)] [12,13] 520192 λm2=>?_;refine Q1 (λ_ _ H=>(((H.Xk [3,0,1,2] rfl).Xl 0 rfl).add 0 rfl (λ_ _ _ h=>h.2)).pick [0,3,4,5,6,7,8]) ?_;have⟨_,h4,h⟩:=bs h;refine Qa 65472 ?_ (λ_=>by refine' pr 5 ?_;refine' rx (.p rfl (Qnn (x0:=([]:(List (List Int)))) (i:=m) (Qiz h4) underlying162 QqA QbR zok40 z1 (Fct.ints [m.kind,m.field,m.to] z0))) 2 ?_;exact rnn);have⟨e6,h5,h⟩:=bs h;refine tJq (λ_ _=>[]) 16263 (λA U=>[bxC A.1 A.2.1 A.2.2.1 A.2.2.2.1 A.2.2.2.2.1 U (gh (a 2) 0),own QG 108 A.2.2.2.2.2 U]) 16514 K4 (·=e6) (λA U e=>?_) λJ3=>?_
    ·subst e;refine k6 <|QJ 124 ?_;exact Q7 k4 U ((sj h).symm) 2701165317
    refine Qk <|QaU h5 (λj Q=>[(157,tsl (rSl rI) ((QbF s0.2.2.2.2.1 m).getD ([]:(List (List Int))))),(158,ti (((QbF s0.2.2.2.2.1 m).getD ([]:(List (List Int)))).length:Int)),(159,ti j.1)]) 34101805185 (λj Q=>[bxC j.2.1 j.2.2.1 j.2.2.2.1 j.2.2.2.2.1 j.2.2.2.2.2.1 Q (gh (a 2) 0),own QG 108 j.2.2.2.2.2.2 Q]) 16514 D 2046 ?_;clear h;intro j Q o K5 h g k7;refine Qa 4094 ?_;refine Qf λ_ k8=>Qo h (λ_ h=>?_) λ_ h=>?_
    ·refine Qu <|k8 <|Qf λ_ k9=>Qk ?_;have⟨t3,_,h⟩:=bs h;refine Qa 130992 ?_;have⟨_,_,E,h6,h⟩:=bs2 h;refine QF6 (Γ':=[(20,ti j.1),(21,tsl rI t3),(157,tsl (rSl rI) ((QbF s0.2.2.2.2.1 m).getD ([]:(List (List Int))))),(158,ti (((QbF s0.2.2.2.2.1 m).getD ([]:(List (List Int)))).length:Int)),(159,ti j.1),(19,tptr (Qd.cs t2)),(18,tptr (QF.cs m)),(135,tsl QF q.2.2.1),(136,ti (q.2.2.1.length:Int)),(137,ti s0.1),(5,tv (gh (a 2) 0)),(2,tptr (Qb.cs R))]) ?_;refine QaG [v1 20 (λv0=>bxC E.x E.w E.links E.refs E.lives v0 (gh (a 2) 0)),v1 20 (λv0=>own QG 108 E.out v0)] [21,21] 17163091968 (λm3=>?_) (λ_=>by refine' pr 20 ?_;refine' rx (.e [] [1,2] [3,4] rfl rfl rfl rfl (QO Qnq (QeE.ok h6) (.cons (.of z19)<|.cons (.of z17)<|.cons (.of z16)<|.cons (.of z14)<|.cons (.of z0)<|.nil))) 0 ?_;exact rnn);refine k9 <|QJ 4092 ?_;exact Q7 k7 (m3 20) ((sj h).symm) 185773546616702141189
    refine QQ <|Q7 J3 Q (g _ (sj h).symm) 3968
   refine QQ <|Q7 J2 D (g _ (sj h).symm) 32
  refine Qk <|QaU h2 (λs F=>[(68,ti s.1)]) 1621115266 (λs F=>[bxC s.2.1 s.2.2.1 s.2.2.2.1 s.2.2.2.2.1 s.2.2.2.2.2.1 F (gh (a 2) 0),own QG 108 s.2.2.2.2.2.2 F]) 16514 S 62 ?_;clear h;intro s F o K6 h g a0;refine Qa 126 ?_;refine Qf λ_ a1=>Qo h (λ_ h=>?_) λ_ h=>?_
  ·refine Qu <|a1 <|Qf λK7 a2=>Qk ?_;have⟨_,_,h⟩:=bs h;refine Qa 4016 ?_;refine QU [v1 0 (λv0=>omap Qag (some []:Mp Bool) v0)] [1] 1022 (λV=>?_) (λ_=>by refine' rx (.m [] [3] rfl rfl rfl (Qkm Qag)) 1 ?_;exact rnn);refine Qa 8062 ?_;have⟨e7,h7,h⟩:=bs h;refine tJq (λ_ _=>[]) 16264 (λB W=>[bxC B.1 B.2.1 B.2.2.1 B.2.2.2.1 B.2.2.2.2.1 W (gh (a 2) 0),own QG 108 B.2.2.2.2.2 W]) 16514 K7 (·=e7) (λB W e=>?_) λJ4=>?_
   ·subst e;refine a2 <|QJ 124 ?_;exact Q7 a0 W ((sj h).symm) 2701165317
   refine Qk <|QaU h7 (λn I=>[(76,ti n.1)]) 34103902594 (λn I=>[bxC n.2.1 n.2.2.1 n.2.2.2.1 n.2.2.2.2.1 n.2.2.2.2.2.1 I (gh (a 2) 0),own QG 108 n.2.2.2.2.2.2.1 I,omap Qag n.2.2.2.2.2.2.2 (V 0)]) 2113666 F 4078 ?_;clear h;intro n I o K8 h g a3;refine Qa 4094 ?_;refine Qf λ_ a4=>Qo h (λ_ h=>?_) λ_ h=>?_
   ·refine Qu <|a4 <|Qf λK9 a5=>Qk ?_;have⟨_,_,h⟩:=bs h;refine Qa 130992 ?_;refine Qf λa6 a7=>Qa 65532 ?_;have⟨e8,h8,h⟩:=bs h;refine tJq (λ_ _=>[]) 16260 (λy X=>[bxC y.1 y.2.1 y.2.2.1 y.2.2.2.1 y.2.2.2.2.1 X (gh (a 2) 0),own QG 108 y.2.2.2.2.2.1 X,omap Qag y.2.2.2.2.2.2 (V 0)]) 2113666 a6 (·=e8) (λy X e=>?_) λJ5=>?_
    ·subst e;refine a7 <|Qa 131068 ?_;have⟨e9,h9,h⟩:=bs h;refine tJq (λ_ _=>[]) 16263 (λC t=>[bxC C.1 C.2.1 C.2.2.1 C.2.2.2.1 C.2.2.2.2.1 t (gh (a 2) 0),own QG 108 C.2.2.2.2.2 t]) 10502274 K9 (·=e9) (λC t e=>?_) λJ6=>?_
     ·subst e;refine a5 <|QJ 4092 ?_;exact Q7 a3 t ((sj h).symm) 185773546616702141189
     refine Qk <|QaU h9 (λu k=>[(102,ti u.1)]) 34101805442 (λu k=>[bxC u.2.1 u.2.2.1 u.2.2.2.1 u.2.2.2.2.1 u.2.2.2.2.2.1 k (gh (a 2) 0),own QG 108 u.2.2.2.2.2.2 k]) 10502274 X 65534 ?_;clear h;intro u k o c1 h g a8;refine Qa 131070 ?_;refine Qf λ_ a9=>Qo h (λ_ h=>?_) λ_ h=>?_
     ·refine Qu <|a9 <|Qf λ_ b0=>Qk ?_;have⟨t5,_,h⟩:=bs h;refine QU [v1 2 (λv0=>box (QV.cs zz3) v0),v1 2 (λv0=>box (QV.cs t5) v0)] [3,4] 1048552 λm5=>?_;refine Q1 (λ_ _ H=>(((H.Xk [4,0,1,2,3] rfl).Xl 0 rfl).add 0 rfl (λ_ _ _ h=>h.2)).pick [0,3,4,5,6,7,8,9,10,11,12,13,14,15,16,17]) ?_;have⟨_,_,_,_,_,_,_,_,h⟩:=bs4 h;have⟨K,b1,h⟩:=bs h;refine QaG [v1 22 (λv0=>bxC K.x K.w K.links K.refs K.lives v0 (gh (a 2) 0)),v1 22 (λv0=>own QG 108 K.out v0)] [23,23] 1099478073344 (λm6=>?_) (λ_=>by refine' pr 22 ?_;refine' rx (.e [] [1,2] [4,5] rfl rfl rfl rfl (QO Qnq (QeE.ok b1) (.cons (.of z21)<|.cons (.of z20)<|.cons (.of z19)<|.cons (.of .k)<|.cons (.of z0)<|.nil))) 0 ?_;exact rnn);refine b0 <|QJ 131068 ?_;refine Qan (λ_ _ H=>(H.pick [1,2,0,3,4,5,6,7,8,9,10,11,12,13,14]).Xk [0,2,3,1] rfl) ?_;exact Q7 a8 (m6 22) ((sj h).symm) 65534
     refine QQ <|Q7 J6 k (g _ (sj h).symm) 130944
    refine Qk <|QaU h8 (λb c=>[(83,ti b.1)]) 266403970 (λb c=>[bxC b.2.1 b.2.2.1 b.2.2.2.1 b.2.2.2.2.1 b.2.2.2.2.2.1 c (gh (a 2) 0),own QG 108 b.2.2.2.2.2.2.1 c,omap Qag b.2.2.2.2.2.2.2 (V 0)]) 2113666 I 32766 ?_;clear h;intro b c o c2 h g b2;refine Qa 65534 ?_;refine Qf λ_ b3=>Qo h (λ_ h=>?_) λ_ h=>?_
    ·refine Qu <|b3 <|Qf λ_ b4=>Qk <|Qa 262132 ?_;have⟨t7,b5,L,b6,h⟩:=bs2 h;refine QaG [v0 (omap Qag t7.2 (V 0)),v1 11 (λv0=>bxC L.x L.w L.links L.refs L.lives v0 (gh (a 2) 0)),v1 11 (λv0=>own QG 108 L.out v0)] [10,12,12] 268419584 (λm7=>?_) (λ_=>by refine' pr 9 ?_;refine' rx (.e [1,2] [3] [4] rfl rfl rfl rfl (Qb2 [bxC b.2.1 b.2.2.1 b.2.2.2.1 b.2.2.2.2.1 b.2.2.2.2.2.1 c (gh (a 2) 0),own QG 108 b.2.2.2.2.2.2.1 c] Qyu (QlD.ok b5) (.cons (.boxP 8 z4 (.head _) (.tail _ (.head _)) rfl)<|.cons (.of z3)<|.cons (.of z2)<|.cons (.of z1)<|.cons (.of z0)<|.nil) (λ_=>Qa8) (λ_=>QlR (QoV (λ_=>Qa8))))) 1 ?_;refine' rx (.e [] [1,2] [5,6] rfl rfl rfl rfl (QO Qnq (QeE.ok b6) (.cons (.of z10)<|.cons (.of z9)<|.cons (.of z8)<|.cons (.of z7)<|.cons (.of z0)<|.nil))) 0 ?_;exact rnn);refine b4 <|QJ 131068 ?_;refine Qan (λ_ _ H=>(H.pick [2,0,3,4,5,6,7,8,9,10,11,12,13,14]).Xk [0,2,3,1] rfl) ?_;exact Q7 b2 (m7 11) ((sj h).symm) 32766
    refine QQ <|Q7 J5 c (g _ (sj h).symm) 65520
   refine QQ <|Qan (λ_ _ H=>(H.pick [6,7,8,9,10]).Xk [0,1,2] rfl) ?_;exact Q7 J4 I (g _ (sj h).symm) 62
  refine QQ <|Q7 J1 F (g _ (sj h).symm) 96
 refine Qk <|QaU h1 (λw l=>[(35,ti w.1)]) 34101805442 (λw l=>[bxC w.2.1 w.2.2.1 w.2.2.2.1 w.2.2.2.2.1 w.2.2.2.2.2.1 l (gh (a 2) 0),own QG 108 w.2.2.2.2.2.2 l]) 16514 (gh (a 2) 1) 126 ?_;clear h;intro w l o c3 h g b7;refine Qa 254 ?_;refine Qf λ_ b8=>Qo h (λ_ h=>?_) λ_ h=>?_
 ·refine Qu <|b8 <|Qf λ_ b9=>Qk ?_;have⟨_,_,h⟩:=bs h;refine Qa 8112 ?_;have⟨_,_,_,_,_,_,N,c0,h⟩:=bs4 h;refine QaG [v1 24 (λv0=>bxC N.x N.w N.links N.refs N.lives v0 (gh (a 2) 0)),v1 24 (λv0=>own QG 108 N.out v0)] [25,25] 16911433728 (λm8=>?_) (λ_=>by refine' pr 24 ?_;refine' rx (.e [] [1,2] [3,4] rfl rfl rfl rfl (QO Qnq (QeE.ok c0) (.cons (.of z23)<|.cons (.of z22)<|.cons (.of .k)<|.cons (.of .k)<|.cons (.of z0)<|.nil))) 0 ?_;exact rnn);refine b9 <|QJ 252 ?_;exact Q7 b7 (m8 24) ((sj h).symm) 415018025733
 refine QQ <|Q7 J0 l (g _ (sj h).symm) 224
def Qil (b:Qc) (f:(List (List (List Int)))) (a:(List Int)):Option (Int):=(QhH b f).bind λc=>(opt ((decide ((c.length:Int)>0))==true) (idx c 0) default).bind λg=>(if ((decide ((c.length:Int)>0))&&(decide (g.Xi<0)))=true then (idx c 0).bind λh=>(some h.Code) else (opt (((a.length:Int) !=(b.Xa.length:Int))==false) (QaO a (λx0=>Qit x0)) default).bind λi=>(if (((a.length:Int) !=(b.Xa.length:Int))||i)=true then (some (1:Int)) else (QaO a (λx0=>QgY x0)).bind λj=>(if j=true then (some (4:Int)) else (Qr (λ(s0:Int)=>((if (decide (s0<(a.length:Int)))=true then (idx a s0).bind λd=>(idx b.Xa s0).bind λe=>(opt ((decide (d<e.Lo))==false) (idx b.Xa s0) default).bind λk=>(if ((decide (d<e.Lo))||(decide (d>k.Hi)))=true then (some (.inr (.inr (14:Int)))) else (some (.inl (i64.wrap (s0+1))))) else (some (.inr (.inl ())))):Option ((Int)⊕((Unit)⊕(Int))))) (0:Int)).bind λl=>(match l with | .inl _=>(some (0:Int)) | .inr m=>(some m)))))
instance QFU:SpcS prog 17 (∀{c d a r},Qil c d a=some r->FnOk prog 17 [Qb.ty c,tsl (rSl (rSl rI)) d,tsl rI a] [glo] (λ_=>[]) (λ_=>ti r)):=.mk λ{c d a r} h=>by
 unfold Qil at h
 refine Fe func17 ntmps17 λv M k b=>?_
 refine Qa 50 ?_
 refine Qf λ_ l=>?_
 have⟨_,_,h⟩:=bs h
 refine Qa 176 ?_
 refine Qk ?_
 have⟨_,_,h⟩:=bs h
 refine Qa 30720 ?_
 refine Qo h (λ_ h=>?_) λ_ h=>?_
 ·have⟨_,_,h⟩:=bs h
  refine Qa 32 ?_
  exact Qp h (·▸Qn b)
 have⟨_,_,h⟩:=bs h
 refine Qa 51200 ?_
 refine Qo h (λ_ h=>?_) λ_ h=>?_
 ·refine Qa 2 ?_
  exact Qp h (·▸Qn b)
 have⟨_,_,h⟩:=bs h
 refine Qa 104 ?_
 refine Qo h (λ_ h=>?_) λ_ h=>?_
 ·refine Qa 2 ?_
  exact Qp h (·▸Qn b)
 refine Qu ?_
 refine l ?_
 refine Qf λm n=>?_
 refine Qa 46 ?_
 have⟨f,h0,h⟩:=bs h
 have p:∀g,(.inl g)=f->To M k 68 [] [glo] m:=by
  intro g e;subst e;simp only at h;refine n <|Qa 2 ?_;exact Qp h (·▸Qn b)
 refine tJr (λi=>[(6,ti i)]) 1 (λ_=>[]) 2 (.inr ·=f) (λi e=>?_) λq=>?_
 ·subst e;simp only at h;obtain rfl:=sj h;exact Qn b
 refine Qk <|Qaf h0 (λs0=>[(44,ti s0)]) 10502530 (λs0=>[]) 2 30 ?_;clear h;intro s0 o w h j s;refine Qa 62 ?_;refine Qf λ_ t=>Qo h (λ_ h=>?_) λ_ h=>?_
 ·refine Qu <|t <|Qf λ_ u=>Qk ?_;have⟨_,_,h⟩:=bs h;refine Qa 1968 ?_;have⟨_,_,_,_,h⟩:=bs2 h;refine Qa 31719424 ?_;refine Qo h (λ_ h=>?_) λ_ h=>?_
  ·refine Qa 2 ?_;refine QaA ?_;exact Qx q (j _ (sj h).symm) 2
  refine Qu <|u <|QJ 116 ?_;exact Qx s ((sj h).symm) 16810757
 refine QQ <|Qx p (j _ (sj h).symm) 0
def Qe8 (a:Q2) (b:Int) (c:Int):Option (Int×Q2):=(idx (a.x).Xa b).bind λk=>(idx k.Xb c).bind λh=>(idx a.w b).bind λl=>(Qb6 [(-1:Int)] (l.length:Int)).bind λm=>(Qeg (Q2.mk a.x a.old a.w) b c).bind λn=>(Qdx a.x b c).bind λo=>(idx a.w o).bind λp=>(QdV (cpy m n) (p.length:Int) h.Lo h.Hi).bind λd=>(if (d.2.2 !=0)=true then (some ((14:Int),(Q2.mk a.x a.old a.w))) else (Qr (λ(s0:Int×List (List (List Int)))=>(if (decide (s0.1<(d.1.length:Int)))=true then (idx d.1 s0.1).bind λq=>(idx s0.2 b).bind λi=>(idx i s0.1).bind λj=>(idx j c).bind λs=>(setAt j c q).bind λe=>(setAt i s0.1 e).bind λf=>(setAt s0.2 b f).bind λg=>(some (.inl ((i64.wrap (s0.1+1)),g))) else (some (.inr s0.2)))) ((0:Int),a.w)).bind λr=>(some ((0:Int),(Q2.mk a.x a.old r))))
instance QnH:SpcS prog 19 (∀{d a b k l r},Qe8 b k l=some r->FnOk prog 19 [tv d,ti k,ti l] [bxM b.x b.old (dh a) d,deep (dRow (dOwn rI 3) 22) 40 b.w a] (λ_=>[bxM (r.2).x (r.2).old (dh a) d,deep (dRow (dOwn rI 3) 22) 40 (r.2).w a]) (λ_=>ti r.1)):=.mk λ{d a b k l r} h=>by
 unfold Qe8 at h
 refine Fe func19 ntmps19 λS M U e=>?_
 refine Qa 28 ?_
 have⟨_,_,t,_,h⟩:=bs2 h
 refine QU [v1 12 (λv0=>box (Qd.cs zz0) v0),v1 12 (λv0=>box (Qd.cs t) v0)] [13,14] 122880 (λV=>?_) (λ_=>by refine' pr 3 ?_;refine' rx (.u [0] rfl rfl (QeB Qcv z0)) 10 ?_;exact rnn)
 refine Q1 (λ_ _ H=>(((H.Xk [2,0,1] rfl).Xl 0 rfl).add 0 rfl (λ_ _ _ h=>h.2)).pick [0,3,4,5]) ?_
 refine Qf λ_ u=>?_
 have⟨W,h0,p,_,h⟩:=bs2 h
 refine QaG [v1 9 (λv0=>own rI 3 p v0)] [10] 64544 (λv=>?_) (λ_=>by refine' pr 6 ?_;refine' rx (.u [1] rfl rfl (QaV ud29 QbR z1 z0 h0)) 0 ?_;refine' rx (.u [1] rfl rfl (Qa7 Qc0 z0 h0)) 0 ?_;refine' rx (.u [1] rfl rfl (.part (Q9 h0 .refl) (Qg9 ud40 z0))) 2 ?_;exact rnn)
 refine u ?_
 have⟨q,w,h⟩:=bs h
 refine QU [v1 4 (λv0=>own rI 3 q v0),v0 (own rI 3 (cpy p q) (v 9))] [5,6] 16290 (λX=>?_) (λ_=>by refine' pr 4 ?_;refine' rx (.m [0,1] [3] rfl rfl rfl (Qb2 [bxM b.x b.old (dh a) d,deep (dRow (dOwn rI 3) 22) 40 b.w a] QsW (Qke.ok w) (.cons (.boxPD 5 z2 (.head _) (.tail _ (.head _)) rfl)<|.cons (.of z1)<|.cons (.of z0)<|.nil) (λ_=>Qa8) (λ_=>QlR (QkP (by intro x T h;simp at h;(first | (subst h;exact Qa8) | (rcases h with h | h | h<;>subst h<;>exact Qa8))))))) 0 ?_;refine' rx (.e [3] [2] [4] rfl rfl rfl rfl (Qsn (R:=rI) ud22 rfl tok3 z4 z0)) 0 ?_;exact rnn)
 refine Qf λ_ y=>?_
 refine Q1 (by intro _ _ H;exact ((H.Xk [3,0,1,2] rfl).Xn 4 rfl).pick [0,2,3,6,7,8,9]) ?_
 have⟨_,_,Y,m,z,_,h⟩:=bs3 h
 refine QaG [v1 24 (λv0=>box (Qad.cs zz5) v0),v1 24 (λv0=>box (Qad.cs z.2.1) v0)] [25,27] 31876710432 (λZ=>?_) (λ_=>by refine' pr 12 ?_;refine' rx (.u [1] rfl rfl (QaV ud29 QbR z7 z0 m)) 0 ?_;refine' rx (.u [1] rfl rfl (Qa7 Qc0 z0 m)) 0 ?_;refine' rx (.u [1] rfl rfl (.part (Q9 m .refl) (Qg9 ud40 z0))) 13 ?_;exact rnn)
 refine Qan (λ_ _ H=>H.Xk [0,1,2] rfl) ?_
 refine y ?_
 refine tIfs h 2012 (λ_ h=>?_) λ_ h=>?_
 ·refine Qa 234 ?_
  exact Qp h (·▸QaQ undef [0,1] e)
 refine Qf λA B=>?_
 refine Qa 4014 ?_
 have⟨C,D,h⟩:=bs h
 refine tJp (λ_=>[]) 8 (λs=>[deep (dRow (dOwn rI 3) 22) 40 s a]) 130 A (·=C) (λs E=>?_) λF=>?_
 ·subst E
  refine B ?_
  refine Qa 6 ?_
  exact Qp h (·▸QaQ undef [0,1] e)
 refine Qk ?_
 refine Q1 (λ_ _ H=>(H.pick [0,1,2,6,7,8]).Xk [0,1] rfl) ?_
 refine Qaf D (λs0=>[(70,ti s0.1)]) 34101805442 (λs0=>[deep (dRow (dOwn rI 3) 22) 40 s0.2 a]) 130 126 ?_
 clear h
 intro s0 o K1 h I K
 refine Qa 254 ?_
 refine Qf λ_ L=>?_
 refine Qo h (λ_ h=>?_) λ_ h=>?_
 ·refine Qu ?_
  refine L ?_
  refine Qf λ_ N=>?_
  refine Qk ?_
  have⟨_,_,h⟩:=bs h
  refine Qa 8112 ?_
  have⟨r4,c,r5,j,r6,O,P,f,h⟩:=bs4 h
  have⟨Q,g,n,i,h⟩:=bs2 h
  refine QaG [v0 (deep (dRow (dOwn rI 3) 22) 40 n a)] [14] 4128784 (λm4=>?_) (λ_=>by refine' pr 5 ?_;refine' rx (.u [1] rfl rfl (QaV ud29 QbR z1 z0 c)) 0 ?_;refine' rx (.u [1] rfl rfl (Qa7 Qc0 z0 c)) 1 ?_;refine' rx (.u [1] rfl rfl (.part (Q9 c .refl) (QaV ud40 Qci z1 z0 j))) 0 ?_;refine' rx (.u [1] rfl rfl (.part (Q9 c .refl) (Qa7 Qbh z0 j))) 2 ?_;refine' rx (.u [1] rfl rfl (.part (Q9 c (Q9 j .refl)) (Qaz ud22 tok3 z2 z1 O))) 0 ?_;refine' rx (.e [] [1] [2] rfl rfl rfl rfl (.focus (QbC c i (QbC j g (.refl λ_=>Iff.rfl))) (QbP tok3 z0 z1 f))) 0 ?_;exact rnn)
  refine N ?_
  refine QJ 508 ?_
  exact Qx K ((sj h).symm) 484278567943
 refine QQ ?_
 exact Qx F (I _ (sj h).symm) 32
def Qin (l:Qc) (n:(List (List (List Int)))) (a:(List Int)):Option ((List (List (List Int)))×Int×Int):=(Qil l n a).bind λv=>(if (v !=0)=true then (some (([]:List (List (List Int))),(0:Int),v)) else (mk (a.length:Int) ([]:(List (List Int)))).bind λz=>(Qr (λ(s0:Int×List (List (List Int)))=>(if (decide (s0.1<(a.length:Int)))=true then (idx a s0.1).bind λA=>(Qr (λ(h:Int×List (List (List Int)))=>(if (decide (h.1<A))=true then (idx h.2 s0.1).bind λw=>(idx l.Xa s0.1).bind λB=>(mk (B.Xb.length:Int) (0:Int)).bind λC=>(rm (w.length+1)).bind λ_=>(setAt h.2 s0.1 (w++[C])).bind λi=>(some (.inl ((i64.wrap (h.1+1)),i))) else (some (.inr h.2)))) ((0:Int),s0.2)).bind λD=>(some (.inl ((i64.wrap (s0.1+1)),D))) else (some (.inr s0.2)))) ((0:Int),z)).bind λE=>(Qr (λ(c:Int×List (List (List Int))×Qc×(List (List (List Int))))=>((if (decide (c.1<(a.length:Int)))=true then (Qe7 (Q2.mk c.2.2.1 c.2.2.2 c.2.1) c.1).bind λo=>(idx l.Xa c.1).bind λx=>(Qr (λ(b:Int×Qc×(List (List (List Int)))×List (List (List Int)))=>((if (decide (b.1<(x.Xb.length:Int)))=true then (idx x.Xb b.1).bind λj=>(opt ((j.Xi==1)==true) (Qe8 (Q2.mk b.2.1 b.2.2.1 b.2.2.2) c.1 b.1) default).bind λm=>(if ((j.Xi==1)&&(m.1 !=0))=true then (some (.inr (.inr (([]:List (List (List Int))),(0:Int),(14:Int))))) else (some (.inl ((i64.wrap (b.1+1)),((bif ((j.Xi==1)==true) then m.2 else (Q2.mk b.2.1 b.2.2.1 b.2.2.2))).x,((bif ((j.Xi==1)==true) then m.2 else (Q2.mk b.2.1 b.2.2.1 b.2.2.2))).old,((bif ((j.Xi==1)==true) then m.2 else (Q2.mk b.2.1 b.2.2.1 b.2.2.2))).w)))) else (some (.inr (.inl (b.2.1,b.2.2.1,b.2.2.2))))):Option ((Int×Qc×(List (List (List Int)))×List (List (List Int)))⊕((Qc×(List (List (List Int)))×List (List (List Int)))⊕((List (List (List Int)))×Int×Int))))) ((0:Int),o.x,o.old,o.w)).bind λF=>(match F with | .inl p=>(Qd8 (Q2.mk p.1 p.2.1 p.2.2) c.1).bind λk=>(if (k.1 !=0)=true then (some (.inr (.inr (([]:List (List (List Int))),(0:Int),(14:Int))))) else (idx (k.2).w c.1).bind λH=>(Qr (λ(d:Int×Qc×(List (List (List Int)))×List (List (List Int)))=>(if (decide (d.1<(H.length:Int)))=true then (Qd9 (Q2.mk d.2.1 d.2.2.1 d.2.2.2) c.1 d.1).bind λf=>(some (.inl ((i64.wrap (d.1+1)),f.x,f.old,f.w))) else (some (.inr (d.2.1,d.2.2.1,d.2.2.2))))) ((0:Int),(k.2).x,(k.2).old,(k.2).w)).bind λq=>(some (.inl ((i64.wrap (c.1+1)),q.2.2,q.1,q.2.1)))) | .inr r=>(some (.inr (.inr (r.1,r.2.1,r.2.2))))) else (some (.inr (.inl (c.2.1,c.2.2.1,c.2.2.2))))):Option ((Int×List (List (List Int))×Qc×(List (List (List Int))))⊕((List (List (List Int))×Qc×(List (List (List Int))))⊕((List (List (List Int)))×Int×Int))))) ((0:Int),E,l,n)).bind λI=>(match I with | .inl s=>(Qr (λ(e:Int×List (List (List Int))×Qc×(List (List (List Int))))=>(if (decide (e.1<(a.length:Int)))=true then (Qe9 (Q2.mk e.2.2.1 e.2.2.2 e.2.1) e.1).bind λg=>(some (.inl ((i64.wrap (e.1+1)),g.w,g.x,g.old))) else (some (.inr (e.2.1,e.2.2.1,e.2.2.2))))) ((0:Int),s.1,s.2.1,s.2.2)).bind λy=>(Qi7 n y.1).bind λt=>(some (y.1,t,(0:Int))) | .inr u=>(some (u.1,u.2.1,u.2.2))))
instance QFY:SpcS prog 6 (∀{l m a r},Qin l m a=some r->FnOk prog 6 [Qb.ty l,tsl (rSl (rSl rI)) m,tsl rI a] [glo] (λ_=>[]) (λ_=>ttup [tsl (rSl (rSl rI)) r.1,ti r.2.1,ti r.2.2])):=.mk λ{l m a r} h=>by
 unfold Qin at h
 refine Fe func6 ntmps6 λM0 M w0 w=>?_
 refine Qa 194 ?_
 refine Qf λ_ k0=>?_
 have⟨_,_,h⟩:=bs h
 refine Qa 480 ?_
 refine Qa 124 ?_
 refine Qo h (λ_ h=>?_) λ_ h=>?_
 ·refine Qa 28 ?_
  exact Qp h (·▸Qn w)
 refine Qu ?_
 refine k0 ?_
 have⟨t0,h0,h⟩:=bs h
 refine QU [v1 4 (λv0=>own rVal 40 (replicate ((a.length:Int)).toNat nilV) v0),v2 4 6 (λv0 v1=>bxM l m (dh (dmk v0 [])) v1)] [5,7] 14592 (λd=>?_) (λd=>by refine' pr 4 ?_;refine' rx (.m [] [1] rfl rfl rfl (Qmn (α:=(List Int)) ud29 Qc0 (leb rfl) z0 z0 h0)) 0 ?_;refine' rx (.ud (f:=λv=>tagg (Qb.cs l++[tsl (rSl (rSl rI)) m,tvs (dh (dmk v []))])) 4 rfl [1] rfl rfl (.say (A:=own rVal 40 (replicate ((a.length:Int)).toNat nilV) (d 4)) (.head _) (λ_ _ h=>Qg6 h) λh1=>OpJ.Xq (U:=[]) (λA hA=>by cases hA) (Qby underlying62 pl62 zv62 zc62 (.cons (R:=Qb) (u:=l) rfl z4 (leb rfl)<|.cons (R:=(rSl (rSl (rSl rI)))) (u:=m) rfl z3 (leb rfl)<|.cons (R:=rVal) (u:=(dh (dmk (d 4) []))) rfl (Fct.Xo z0 λ_ _ _ h=>⟨h,h1⟩) (leb rfl)<|.nil _)))) 0 ?_;refine' rx (.m [] [2] rfl rfl rfl (QlO (R:=(rAgg (Qb.cs l++[tsl (rSl (rSl rI)) m,tvs (dh (dmk (d 4) []))]) (QkB (QkA Qb) (Qt Qbj (Qt Qb9 Qak))))) (u:=()) z0)) 1 ?_;exact rnn)
 refine Q1 (As'':=[deep (dRow (dOwn rI 3) 22) 40 t0 (dmk (d 4) []),glo,bxM l m (dh (dmk (d 4) [])) (d 6)]) (λ_ _ H=>(H.Xk [1,0,2] rfl).makeD Qsw rfl rfl h0) ?_
 refine Qf λK0 k1=>?_
 refine Qa 254 ?_
 have⟨e3,h2,h⟩:=bs h
 refine tJq (λ_ _=>[]) 16261 (λp0 b=>[deep (dRow (dOwn rI 3) 22) 40 p0 b,bxM l m (dh b) (d 6)]) 16769 K0 (·=e3) (λp0 b k=>?_) λJ0=>?_
 ·subst k
  refine k1 ?_
  refine Qf λK1 k2=>?_
  refine Qa 252 ?_
  have⟨e4,h3,h⟩:=bs h
  refine tJp (λ_=>[]) 115460 (λQ=>[deep (dRow (dOwn rI 3) 22) 40 Q.1 b,bxM Q.2.1 Q.2.2 (dh b) (d 6)]) 16769 K1 (.inl ·=e4) (λQ k=>?_) λJ1=>?_
  ·subst k
   simp only at h
   refine k2 ?_
   refine Qf λK2 k3=>?_
   refine Qa 60 ?_
   have⟨e5,h4,h⟩:=bs h
   refine tJp (λ_=>[]) 644 (λO=>[deep (dRow (dOwn rI 3) 22) 40 O.1 b,bxM O.2.1 O.2.2 (dh b) (d 6)]) 16769 K2 (·=e5) (λO k=>?_) λJ2=>?_
   ·subst k
    refine k3 ?_
    have⟨_,h5,h⟩:=bs h
    refine Qa 14864 ?_ (λ_=>by refine' pr 9 ?_;refine' rx (.u [0] rfl rfl (Qb2 [deep (dRow (dOwn rI 3) 22) 40 O.1 b] Qyc (Qti.ok h5) (.cons (.of z4)<|.cons (.deep z0 (.head _))<|.nil) (λ_=>Qa8) (λ_=>Qib (x:=undef)))) 3 ?_;exact rnn)
    refine Q1 (λ_ _ H=>H.Xk [0,1] rfl) ?_
    refine QaA ?_
    refine Qan (As'':=[glo]) (λ_ _ H=>(H.shareD 2 rfl).pick [0,4,5]) ?_
    obtain rfl:=sj h
    exact Qn w
   refine Qk ?_
   refine Qaf h4 (λs0=>[(121,ti s0.1)]) 10551426 (λs0=>[deep (dRow (dOwn rI 3) 22) 40 s0.2.1 b,bxM s0.2.2.1 s0.2.2.2 (dh b) (d 6)]) 16769 30 ?_
   clear h
   intro s0 o K3 h n k4
   refine Qa 62 ?_
   refine Qf λ_ k5=>?_
   refine Qo h (λ_ h=>?_) λ_ h=>?_
   ·refine Qu ?_
    refine k5 ?_
    refine Qf λ_ k6=>?_
    refine Qk ?_
    refine Qa 244 ?_
    have⟨t1,h6,h⟩:=bs h
    refine QaG [v0 (bxM t1.x t1.old (dh b) (d 6)),v0 (deep (dRow (dOwn rI 3) 22) 40 t1.w b)] [3,3] 480 (λm1=>?_) (λ_=>by refine' pr 2 ?_;refine' rx (.e [] [2,0] [3,4] rfl rfl rfl rfl (QO Qyb (QnI.ok h6) (.cons (.of z1)<|.cons (.of z0)<|.nil))) 0 ?_;exact rnn)
    refine k6 ?_
    refine QJ 60 ?_
    refine Qan (λ_ _ H=>(H.pick [1,0,2,3]).Xk [2,0,1] rfl) ?_
    exact Qx k4 ((sj h).symm) 30
   refine QQ ?_
   exact Qx J2 (n _ (sj h).symm) 48
  refine tJr (λS=>[(6,tsl (rSl (rSl rI)) S.1),(7,ti S.2.1),(8,ti S.2.2)]) 16513 (λ_=>[]) 3 (.inr ·=e4) (λS k=>?_) λJ3=>?_
  ·subst k
   simp only at h
   obtain rfl:=sj h
   exact Qn w
  refine Qk ?_
  refine Qaf h3 (λE=>[(69,ti E.1)]) 266403970 (λE=>[deep (dRow (dOwn rI 3) 22) 40 E.2.1 b,bxM E.2.2.1 E.2.2.2 (dh b) (d 6)]) 16769 126 ?_
  clear h
  intro E o K4 h n k7
  refine Qa 254 ?_
  refine Qf λ_ k8=>?_
  refine Qo h (λ_ h=>?_) λ_ h=>?_
  ·refine Qu ?_
   refine k8 ?_
   refine Qf λK5 k9=>?_
   refine Qk ?_
   refine Qa 1012 ?_
   have⟨t2,h7,h⟩:=bs h
   refine QU [v0 (bxM t2.x t2.old (dh b) (d 6)),v0 (deep (dRow (dOwn rI 3) 22) 40 t2.w b)] [3,3] 2032 (λm2=>?_) (λ_=>by refine' pr 2 ?_;refine' rx (.e [] [2,0] [3,4] rfl rfl rfl rfl (QO Qx7 (QnG.ok h7) (.cons (.of z1)<|.cons (.of z0)<|.nil))) 0 ?_;exact rnn)
   refine Qf λK6 a0=>?_
   have⟨_,_,h⟩:=bs h
   refine Qa 65472 ?_
   have⟨e6,h8,h⟩:=bs h
   refine tJp (λ_=>[]) 16261 (λT=>[bxM T.1 T.2.1 (dh b) (d 6),deep (dRow (dOwn rI 3) 22) 40 T.2.2 b]) 16514 K6 (.inl ·=e6) (λT k=>?_) λJ4=>?_
   ·subst k
    simp only at h
    refine a0 ?_
    refine Qf λ_ a1=>?_
    have⟨t3,h9,h⟩:=bs h
    refine QU [v0 (bxM (t3.2).x (t3.2).old (dh b) (d 6)),v0 (deep (dRow (dOwn rI 3) 22) 40 (t3.2).w b)] [3,3] 4080 (λm3=>?_) (λ_=>by refine' pr 2 ?_;refine' rx (.e [] [1,2] [3,4] rfl rfl rfl rfl (QO Qx9 (QmE.ok h9) (.cons (.of z1)<|.cons (.of z0)<|.nil))) 1 ?_;exact rnn)
    refine Qo h (λ_ h=>?_) λ_ h=>?_
    ·refine Qa 14 ?_
     refine Q1 (λ_ _ H=>H.Xk [0] rfl) ?_
     refine QaA ?_
     exact Qx J3 (n _ (sj h).symm) 14
    refine Qu ?_
    refine a1 ?_
    refine Qf λ_ a2=>?_
    have⟨r2,z,h⟩:=bs h
    refine QJ 260880 ?_ (λ_=>by refine' pr 5 ?_;refine' rx (.u [2] rfl rfl (QaV ud29 QbR z1 z0 z)) 0 ?_;refine' rx (.u [2] rfl rfl (Qa7 Qc0 z0 z)) 0 ?_;refine' rx (.u [2] rfl rfl (.part (Q9 z .refl) (Qg9 ud40 z0))) 1 ?_;exact rnn)
    refine a2 ?_
    have⟨e7,a3,h⟩:=bs h
    refine tJp (λ_=>[]) 16262 (λV=>[bxM V.1 V.2.1 (dh b) (d 6),deep (dRow (dOwn rI 3) 22) 40 V.2.2 b]) 16514 K5 (·=e7) (λV k=>?_) λJ5=>?_
    ·subst k
     refine k9 ?_
     refine QJ 252 ?_
     refine Qan (λ_ _ H=>(H.pick [1,0,2,3,4,5]).Xk [2,0,1] rfl) ?_
     exact Qx k7 ((sj h).symm) 126
    refine Qk ?_
    refine Qaf a3 (λF=>[(110,ti F.1)]) 266420355 (λF=>[bxM F.2.1 F.2.2.1 (dh b) (d 6),deep (dRow (dOwn rI 3) 22) 40 F.2.2.2 b]) 16514 2044 ?_
    clear h
    intro F o K7 h n a4
    refine Qa 2046 ?_
    refine Qf λ_ a5=>?_
    refine Qo h (λ_ h=>?_) λ_ h=>?_
    ·refine Qu ?_
     refine a5 ?_
     refine Qf λ_ a6=>?_
     refine Qk ?_
     refine Qa 8180 ?_
     have⟨t4,a7,h⟩:=bs h
     refine QaG [v0 (bxM t4.x t4.old (dh b) (d 6)),v0 (deep (dRow (dOwn rI 3) 22) 40 t4.w b)] [4,4] 32704 (λm4=>?_) (λ_=>by refine' pr 3 ?_;refine' rx (.e [] [1,2] [3,4] rfl rfl rfl rfl (QO Qya (QmF.ok a7) (.cons (.of z2)<|.cons (.of z1)<|.cons (.of z0)<|.nil))) 0 ?_;exact rnn)
     refine a6 ?_
     refine QJ 2044 ?_
     exact Qx a4 ((sj h).symm) 1306105879606690053
    refine QQ ?_
    exact Qx J5 (n _ (sj h).symm) 2016
   refine tJr (λW=>[(6,tsl (rSl (rSl rI)) W.1),(7,ti W.2.1),(8,ti W.2.2)]) 16513 (λ_=>[]) 2 (.inr ·=e6) (λW k=>?_) λJ6=>?_
   ·subst k
    simp only at h
    exact Qx J3 (n _ (sj h).symm) 14
   refine Qk ?_
   refine Qaf h8 (λg=>[(82,ti g.1)]) 34101805442 (λg=>[bxM g.2.1 g.2.2.1 (dh b) (d 6),deep (dRow (dOwn rI 3) 22) 40 g.2.2.2 b]) 16514 2046 ?_
   clear h
   intro g o K8 h n a8
   refine Qa 4094 ?_
   refine Qf λ_ a9=>?_
   refine Qo h (λ_ h=>?_) λ_ h=>?_
   ·refine Qu ?_
    refine a9 ?_
    refine Qf λ_ b0=>?_
    refine Qk ?_
    have⟨X,_,h⟩:=bs h
    refine QU [v1 3 (λv0=>box (Qd.cs zz0) v0),v1 3 (λv0=>box (Qd.cs X) v0)] [4,6] 130992 λm5=>?_
    refine Q1 (λ_ _ H=>(((H.Xk [3,0,1,2] rfl).Xl 0 rfl).add 0 rfl (λ_ _ _ h=>h.2)).pick [0,3,4,5,6,7,8,9,10,11,12,13]) ?_
    have⟨I,b1,h⟩:=bs h
    refine QU [v0 (bxM ((bif ((X.Xi==1)==true) then I.2 else (Q2.mk g.2.1 g.2.2.1 g.2.2.2))).x ((bif ((X.Xi==1)==true) then I.2 else (Q2.mk g.2.1 g.2.2.1 g.2.2.2))).old (dh b) (d 6)),v0 (deep (dRow (dOwn rI 3) 22) 40 ((bif ((X.Xi==1)==true) then I.2 else (Q2.mk g.2.1 g.2.2.1 g.2.2.2))).w b)] [8,8] 8381440 (λm6=>?_) (λ_=>by refine' pr 7 ?_;refine' rx (.ge (N:=λc _=>[bxM ((bif c then I.2 else (Q2.mk g.2.1 g.2.2.1 g.2.2.2))).x ((bif c then I.2 else (Q2.mk g.2.1 g.2.2.1 g.2.2.2))).old (dh b) (d 6),deep (dRow (dOwn rI 3) 22) 40 ((bif c then I.2 else (Q2.mk g.2.1 g.2.2.1 g.2.2.2))).w b]) [] [1,2] [3,4] rfl rfl rfl rfl rfl bq3 (λY=>QO Qx8 (QnH.ok (Qfc b1 Y)) (.cons (.of (.cond z2 Y))<|.cons (.of (.cond z1 Y))<|.cons (.of (.cond z0 Y))<|.nil)) rfl) 2 ?_;exact rnn)
    refine Qo h (λ_ h=>?_) λ_ h=>?_
    ·refine Qa 14 ?_
     refine Q1 (λ_ _ H=>H.Xk [0] rfl) ?_
     refine QaA ?_
     exact Qx J6 (n _ (sj h).symm) 14
    refine Qu ?_
    refine b0 ?_
    refine QJ 8180 ?_
    exact Qx a8 ((sj h).symm) 185773546616702141189
   refine QQ ?_
   exact Qx J4 (n _ (sj h).symm) 4064
  refine QQ ?_
  exact Qx J1 (n _ (sj h).symm) 208
 refine Qk ?_
 refine QaU h2 (λj K=>[(34,ti j.1)]) 34101805442 (λj K=>[deep (dRow (dOwn rI 3) 22) 40 j.2 K,bxM l m (dh K) (d 6)]) 16769 (dmk (d 4) []) 254 ?_
 clear h
 intro j K o K9 h n b2
 refine Qa 510 ?_
 refine Qf λ_ b3=>?_
 refine Qo h (λ_ h=>?_) λ_ h=>?_
 ·refine Qu ?_
  refine b3 ?_
  refine Qf λb4 b5=>?_
  refine Qk ?_
  have⟨_,_,h⟩:=bs h
  refine Qa 16304 ?_
  refine Qa 4078 ?_
  have⟨e8,b6,h⟩:=bs h
  refine tJq (λ_ _=>[]) 16261 (λp7 Z=>[deep (dRow (dOwn rI 3) 22) 40 p7 Z,bxM l m (dh Z) (d 6)]) 16769 b4 (·=e8) (λp7 Z k=>?_) λJ7=>?_
  ·subst k
   refine b5 ?_
   refine QJ 508 ?_
   exact Q7 b2 Z ((sj h).symm) 61987669181189
  refine Qk ?_
  refine QaU b6 (λt i=>[(40,ti t.1)]) 266403970 (λt i=>[deep (dRow (dOwn rI 3) 22) 40 t.2 i,bxM l m (dh i) (d 6)]) 16769 K 2046 ?_
  clear h
  intro t i o c1 h n b7
  refine Qa 4094 ?_
  refine Qf λ_ b8=>?_
  refine Qo h (λ_ h=>?_) λ_ h=>?_
  ·refine Qu ?_
   refine b8 ?_
   refine Qf λ_ b9=>?_
   refine Qk ?_
   have⟨s,p,h⟩:=bs h
   refine Q1 (As'':=[deep (dOwn rI 3) 22 s (ds i (j.1).toNat),QbQ (dRow (dOwn rI 3) 22) 40 t.2 i (some (j.1).toNat),glo,bxM l m (dh i) (d 6)]) (λ_ _ H=>H.openD p) ?_
   have⟨_,_,L,_,_,c0,P,C,h⟩:=bs4 h
   refine QaG [v1 19 (λv0=>own rI 3 L v0),v2 19 21 (λv0 v1=>deep (dOwn rI 3) 22 (s++[L]) (Qec s.length (ds i (j.1).toNat) v1 (dmk v0 []))),v2 19 21 (λv0 v1=>QbQ (dRow (dOwn rI 3) 22) 40 t.2 (dset (t.2).length i (j.1).toNat (Qec s.length (ds i (j.1).toNat) v1 (dmk v0 []))) (some (j.1).toNat))] [20,22,24] 34326184464 (λq=>?_) (λq=>by refine' pr 10 ?_;refine' rx (.u [1] rfl rfl (QaV ud29 QbR z1 z0 p)) 0 ?_;refine' rx (.u [1] rfl rfl (Qa7 Qc0 z0 p)) 8 ?_;refine' rx (.ud (f:=λv=>tsl rVal [v]) 19 rfl [4] rfl rfl (Qxj (R:=rI) (e:=3) (xs:=L) ud40 Qbh z0)) 0 ?_;refine' rx (.e [] [0,4] [5] rfl rfl rfl rfl (Qsx (D:=(dOwn rI 3)) (y:=L) (gy:=(dmk (q 19) [])) ud40 Qci (leb rfl) z9 (.hdrD rfl rfl z0) c0)) 0 ?_;refine' rx (.u [1] rfl rfl (QaV ud29 QbR z18 z17 p)) 0 ?_;refine' rx (.e [5] [1] [6] rfl rfl rfl rfl (Qlx (B:=deep (dOwn rI 3) 22 (s++[L]) (Qec s.length (ds i (j.1).toNat) (q 21) (dmk (q 19) []))) (g2:=(Qec s.length (ds i (j.1).toNat) (q 21) (dmk (q 19) []))) (λ_ _ h=>Qsv h) Qc0 z0 z1 p (leb rfl) rfl)) 0 ?_;exact rnn)
   refine Qan (As'':=[deep (dRow (dOwn rI 3) 22) 40 P (dset (t.2).length i (j.1).toNat (Qec s.length (ds i (j.1).toNat) (q 21) (dmk (q 19) []))),glo,bxM l m (dh i) (d 6)]) (λ_ _ H=>(H.Xk [2,3,0,1] rfl).shutN (D:=(dRow (dOwn rI 3) 22)) (y:=(s++[L])) (g2:=(Qec s.length (ds i (j.1).toNat) (q 21) (dmk (q 19) []))) p C) ?_
   refine b9 ?_
   refine QJ 16380 ?_
   exact Q7 b7 (dset (t.2).length i (j.1).toNat (Qec s.length (ds i (j.1).toNat) (q 21) (dmk (q 19) []))) ((sj h).symm) 222957534670793900297
  refine QQ ?_
  exact Q7 J7 i (n _ (sj h).symm) 4064
 refine QQ ?_
 exact Q7 J0 K (n _ (sj h).symm) 480
def Qeb (t:(List Int)) (u:(List Int)) (v:(List Int)):Option (Bool):=(Qii t u v).bind λc=>(if (!c.2.2.2)=true then Qd4.bind λw=>(some w) else (Qin c.1 c.2.1 c.2.2.1).bind λd=>(if (d.2.2 !=0)=true then (opt ((d.2.2==14)==true) (Qd4) default).bind λx=>(some ((d.2.2==14)&&x)) else (Qr (λ(s0:Int)=>((if (decide (s0<(d.1.length:Int)))=true then (idx (c.1).Xa s0).bind λy=>(Qen y).bind λe=>(Qr (λ(f:Int)=>((idx d.1 s0).bind λz=>(idx c.2.1 s0).bind λA=>(if (decide (f<(imin (z.length:Int) (A.length:Int))))=true then (Qi8 c.1 s0).bind λB=>(Qr (λ(b:Int×List QH)=>((if (decide (b.1<(e.length:Int)))=true then (idx d.1 s0).bind λC=>(idx C f).bind λh=>(idx (c.1).Xa s0).bind λi=>(if ((h.length:Int) !=(i.Xb.length:Int))=true then (some (.inr (.inr false))) else (idx d.1 s0).bind λj=>(idx j f).bind λk=>(idx e b.1).bind λl=>(idx k l).bind λa=>(idx c.2.1 s0).bind λm=>(idx m f).bind λn=>(idx e b.1).bind λo=>(idx n o).bind λg=>((if (decide (g>a))=true then (some (QH.mk (-1) b.1 (i64.wrap ((i64.wrap (0 - a)) - 1)))) else (some (QH.mk b.1 (-1) (i64.wrap (a - 1)))))).bind λs=>(rm (([]:List QH).length+b.2.length)).bind λ_=>(rm ((([]:List QH)++b.2).length+[s].length)).bind λ_=>(QdI (e.length:Int) ((([]:List QH)++b.2)++[s])).bind λp=>(if ((g !=a)&&(p.2 !=14))=true then (some (.inr (.inr false))) else (rm (b.2.length+[(QH.mk b.1 (-1) a),(QH.mk (-1) b.1 (i64.wrap (0 - a)))].length)).bind λ_=>(some (.inl ((i64.wrap (b.1+1)),(b.2++[(QH.mk b.1 (-1) a),(QH.mk (-1) b.1 (i64.wrap (0 - a)))])))))) else (some (.inr (.inl b.2)))):Option ((Int×List QH)⊕((List QH)⊕(Bool))))) ((0:Int),B)).bind λD=>(match D with | .inl E=>(QdI (e.length:Int) E).bind λq=>(if (q.2 !=0)=true then (some (.inr (.inr false))) else (some (.inl (i64.wrap (f+1))))) | .inr F=>(some (.inr (.inr F)))) else (some (.inr (.inl ())))):Option ((Int)⊕((Unit)⊕(Bool))))) (0:Int)).bind λH=>(match H with | .inl _=>(some (.inl (i64.wrap (s0+1)))) | .inr I=>(some (.inr (.inr I)))) else (some (.inr (.inl ())))):Option ((Int)⊕((Unit)⊕(Bool))))) (0:Int)).bind λK=>(match K with | .inl _=>Qd4.bind λr=>(some r) | .inr L=>(some L))))
instance QmG:SpcS prog 3 (∀{i j k r},Qeb i j k=some r->FnOk prog 3 [tsl rI i,tsl rI j,tsl rI k] [glo] (λ_=>[]) (λ_=>tb r)):=.mk λ{i j k r} h=>by
 unfold Qeb at h
 refine Fe func3 ntmps3 λM0 M D d=>?_
 refine Qa 28 ?_
 have⟨E,_,h⟩:=bs h
 refine QU [v1 9 (λv0=>box (Qb.cs zz4) v0),v1 9 (λv0=>box (Qb.cs E.1) v0)] [10,11] 15360 λm0=>?_
 refine Q1 (λ_ _ H=>(((H.Xk [1,0] rfl).Xl 0 rfl).add 0 rfl (λ_ _ _ h=>h.2)).pick [0,3,4,5]) ?_
 refine tIfs h 60 (λ_ h=>?_) λ_ h=>?_
 ·have⟨_,_,h⟩:=bs h
  refine Qa 4 ?_
  exact Qp h (·▸Qn d)
 have⟨_,_,h⟩:=bs h
 refine Qa 27136 ?_
 refine tIfs h 124 (λ_ h=>?_) λ_ h=>?_
 ·have⟨_,_,h⟩:=bs h
  refine Qa 64 ?_
  exact Qp h (·▸Qn d)
 refine Qf λF I=>?_
 refine Qa 106 ?_
 have⟨p,h0,h⟩:=bs h
 have K:∀q,(.inl q)=p->To M D 182 [] [glo] F:=by
  intro q a;subst a;simp only at h;refine I ?_;have⟨_,_,h⟩:=bs h;refine Qa 4 ?_;exact Qp h (·▸Qn d)
 refine tJr (λs=>[(6,tb s)]) 1 (λ_=>[]) 2 (.inr ·=p) (λs a=>?_) λL=>?_
 ·subst a;simp only at h;obtain rfl:=sj h;exact Qn d
 refine Qk <|Qaf h0 (λs0=>[(14,ti s0)]) 2081153 (λs0=>[]) 2 30 ?_;clear h;intro s0 o K1 h b N;refine Qf λ_ O=>Qa 496 ?_;refine Qo h (λ_ h=>?_) λ_ h=>?_
 ·refine Qu <|O <|Qf λP Q=>Qk ?_;have⟨_,_,_,_,h⟩:=bs2 h;refine Qa 7808 ?_;refine Qa 126 ?_;have⟨t,S,h⟩:=bs h;refine tJp (λ_=>[]) 16260 (λ_=>[]) 2 P (.inl ·=t) (λp2 a=>?_) λT=>?_
  ·subst a;simp only at h;refine Q <|QJ 120 ?_;exact Qx N ((sj h).symm) 30
  refine tJr (λu=>[(6,tb u)]) 1 (λ_=>[]) 2 (.inr ·=t) (λu a=>?_) λv=>?_
  ·subst a;simp only at h;exact Qx L (b _ (sj h).symm) 2
  refine Qk <|Qaf S (λl=>[(16,ti l)]) 2081153 (λl=>[]) 2 126 ?_;clear h;intro l o K3 h b U;refine Qf λ_ V=>?_;have⟨_,_,_,_,h⟩:=bs2 h;refine Qa 1040384 ?_;refine Qo h (λ_ h=>?_) λ_ h=>?_
  ·refine Qu <|V <|Qf λ_ W=>Qk ?_;have⟨X,_,h⟩:=bs h;refine QU [v1 2 (λv0=>own Qah 44 X v0)] [3] 4056 λY=>?_;refine Qf λZ k7=>Qa 1022 ?_;have⟨w,h2,h⟩:=bs h;refine tJq (λ_ f=>[(17,tv f)]) 2081409 (λx f=>[own Qah 44 x f]) 130 Z (.inl ·=w) (λx f a=>?_) λJ4=>?_
   ·subst a;simp only at h;refine k7 <|Q1 (by intro _ _ H;exact ((H.Xk [1,0] rfl).Xn 0 rfl).pick [0,2,3,4,5,6,7]) ?_;have⟨_,_,h⟩:=bs h;refine Qa 129536 ?_;refine Qa 1012 ?_;refine Qo h (λ_ h=>?_) λ_ h=>?_
    ·refine Qa 2 ?_;refine QaA ?_;exact Qx v (b _ (sj h).symm) 2
    refine Qu <|W <|QJ 1000 ?_;exact Qx U ((sj h).symm) 126
   refine tJr (λy=>[(6,tb y)]) 1 (λ_=>[]) 2 (.inr ·=w) (λy a=>?_) λz=>?_
   ·subst a;simp only at h;exact Qx v (b _ (sj h).symm) 2
   refine Qk <|QaU h2 (λc e=>[(18,ti c.1),(17,tv e)]) 266420353 (λc e=>[own Qah 44 c.2 e]) 130 (Y 2) 1018 ?_;clear h;intro c e o K5 h b k8;refine Qf λ_ k9=>Qa 8176 ?_;refine Qo h (λ_ h=>?_) λ_ h=>?_
   ·refine Qu <|k9 <|Qf λ_ m=>Qk ?_;have⟨_,_,_,_,_,_,h⟩:=bs3 h;refine tIfs h 66912256 (λ_ h=>?_) λ_ h=>?_
    ·refine Qa 18 ?_;refine QaA ?_;refine Qan (λ_ _ H=>(H.pick [0]).Xk [0] rfl) ?_;exact Qx z (b _ (sj h).symm) 2
    have⟨_,_,_,_,_,_,g,_,h⟩:=bs4 h;refine Qa 16728064 ?_;have⟨_,_,_,_,_,_,_,_,h⟩:=bs4 h;refine Qa 16760832 ?_;refine QU [v1 4 (λv0=>box (Qah.cs (QH.mk (0:Int) (0:Int) (0:Int))) v0),v1 4 (λv0=>box (Qah.cs (QH.mk c.1 (-1:Int) (i64.wrap (g - 1)))) v0)] [5,6] 65504 λA=>?_;refine Qf λK6 n=>Qa 32760 ?_;have⟨p6,B,h⟩:=bs h;refine tJ0 [] 16259 [box (Qah.cs p6) (A 4)] 16770 K6 ?_ λC=>?_
    ·refine n ?_;have⟨_,h4,_,h5,_,_,h⟩:=bs3 h;refine QU [v1 2 (λv0=>own Qah 44 ([]:List QH) v0),v1 4 (λv0=>own Qah 44 (([]:List QH)++c.2) v0)] [3,5] 67059728 (λm3=>?_) (λ_=>by refine' pr 4 ?_;refine' rx (.e [1] [3] [4] rfl rfl rfl rfl (Qwf (R:=Qah) underlying41 QiY (leb rfl) z1 z0 h4)) 2 ?_;refine' rx (.e [] [4] [] rfl rfl rfl rfl (.roE (Qbr (R:=Qah) underlying41 QiY (leb rfl) z2 z0 h5))) 6 ?_;exact rnn);refine Q1 (λ_ _ H=>H.Xk [0,1] rfl) ?_;refine tIfs h 1046912 (λ_ h=>?_) λ_ h=>?_
     ·refine Qa 74 ?_;refine QaA ?_;refine Qan (λ_ _ H=>(H.pick [0]).Xk [0] rfl) ?_;exact Qx z (b _ (sj h).symm) 2
     have⟨_,_,h⟩:=bs h;refine QaG [v1 9 (λv0=>own Qah 44 (c.2++[(QH.mk c.1 (-1:Int) g),(QH.mk (-1:Int) c.1 (i64.wrap (0 - g)))]) v0)] [10] 4164608 λm4=>?_;refine m <|QJ 4088 ?_;exact Q7 k8 (m4 9) ((sj h).symm) 1018
    replace h:=B;clear B;refine Qo h (λ_ h=>?_) λ_ h=>?_
    ·refine QaG [v0 (box (Qah.cs (QH.mk (-1:Int) c.1 (i64.wrap ((i64.wrap (0 - g)) - 1)))) (A 4))] [6] 262016 λm5=>?_;obtain rfl:=sj h;exact QN C 4094
    refine Qu ?_;obtain rfl:=sj h;exact QN C 8188
   refine QQ <|Q7 J4 e (b _ (sj h).symm) 1016
  refine QQ <|Qx T (b _ (sj h).symm) 240
 refine QQ <|Qx K (b _ (sj h).symm) 0

/- The walk. No condition. -/
import Derived.Test.YtohojolgolinoaaGreatDoorGenI
import Derived.Test.YtohojolgolinoaaGreatDoorGenK
set_option linter.all false
open List Go.Proofs.Tryz Go.IntKind
namespace Go.Proofs.YtohojolgolinoaaGreatDoor
noncomputable section
open Go.Sim
set_option maxRecDepth 100000
set_option maxHeartbeats 4000000
def GS (f:Int) (g:(List Qi)):Option (BQ×Lz×Int):=(La f g).bind λh=>if h !=0 then some (zz5,[],h) else (Lc f g).bind λc=>(LX (Qw.mk c.n c.l c.flow c.arcs)).bind λa=>if !a.1.isEmpty then some (zz5,a.1,14) else (Qr (λ(s0:Int×(List Qi)×(List Qg)×Lz)=>(Ms (Qw.mk s0.1 s0.2.1 s0.2.2.2 s0.2.2.1)).bind λb=>if b.2.1.isNone then some (.inr ([],0,BQ.mk s0.2.2.2 b.1)) else (JT (Qw.mk s0.1 s0.2.1 s0.2.2.2 s0.2.2.1) b.2.1 b.2.2 b.2.2 1000).bind λd=>some (.inl ((d.2).n,(d.2).l,(d.2).arcs,(d.2).flow))) ((a.2).n,(a.2).l,(a.2).arcs,(a.2).flow)).bind λe=>some (e.2.2,e.1,e.2.1)
instance vM:Spc2 prog 62 GS (λm n=>[ti m,tsl QE n]) (λr=>ttup [AW.ty r.1,tsl rI r.2.1,ti r.2.2]):=.mk λ{m n r} h=>by
 refine Fe func62 ntmps62 λE M F b=>?_
 refine QU [vb 0 (AW.cs zz5)] [1] 50 λc=>?_
 refine Qf λ_ p=>?_
 have⟨_,_,h⟩:=bs h
 apply Qa 240
 apply Qa 124
 apply Qo h<;>intro _ h
 ·refine QU [v0 (box (AW.cs zz5) (c 0))] [3] 152 λI=>?_
  exact tRE h b
 apply Qu
 apply p
 have⟨g,h0,i,q,h⟩:=bs2 h
 refine QU [v1 2 (λv0=>bxN g.n g.l (gh v0 1) g.arcs (gh v0 0)),v1 2 (λv0=>own rI 3 g.flow (gh v0 1))] [3,3] 144 (λa=>?_) (λ_=>by refine' pr 2 ?_;refine' rx (.m [] [1,2] rfl rfl rfl (QO cal (fN.ok h0) (.cons (.of z1)<|.cons (.of z0)<|.nil))) 0 ?_;refine' rx (.ud (f:=λv=>tv (gh v 0)) 2 rfl [] rfl rfl (Ql z0)) 0 ?_;exact rnn)
 refine Qf λ_ s=>?_
 refine QU [v0 (bxN (i.2).n (i.2).l (gh (a 2) 1) (i.2).arcs (gh (a 2) 0)),v0 (own rI 3 (i.2).flow (gh (a 2) 1))] [2,2] 56 (λK=>?_) (λ_=>by refine' pr 1 ?_;refine' rx (.e [] [1,2] [3,4] rfl rfl rfl rfl (QO cal (gC.ok q) (.cons (.of z0)<|.nil))) 1 ?_;exact rnn)
 apply Qa 60
 apply Qo h<;>intro _ h
 ·refine QU [v0 (box (AW.cs zz5) (c 0))] [3] 280 λL=>?_
  apply tSl [2]
  exact tRE h b
 apply Qu
 apply s
 have⟨t,u,h⟩:=bs h
 refine tJr (λe=>[(5,tsl rI e.1),(6,ti e.2.1)]) 82049 (λe=>[box (AW.cs e.2.2) (c 0)]) 1 (·=t) (λe w=>?_) λy=>?_
 ·subst w
  exact oRE h b
 apply Qk
 refine AC u (λs0=>[]) 644 (λs0=>[box (AW.cs zz5) (c 0),bxN s0.1 s0.2.1 (gh (a 2) 1) s0.2.2.1 (gh (a 2) 0),own rI 3 s0.2.2.2 (gh (a 2) 1)]) 16513 24 ?_
 intro s0 o N h z A
 apply Qk
 have⟨d,B,h⟩:=bs h
 refine QU [v1 1 (λv0=>own rI 3 d.1 (gh v0 0)),v1 1 (λv0=>omap Qv d.2.1 (gh v0 1))] [2,2] 4016 (λk=>?_) (λ_=>by refine' pr 1 ?_;refine' rx (.m [1,2] [3,4] rfl rfl rfl (CY [bxN s0.1 s0.2.1 (gh (a 2) 1) s0.2.2.1 (gh (a 2) 0),own rI 3 s0.2.2.2 (gh (a 2) 1)] cal (fO.ok B) (.cons (.boxP 2 z0 (.head _) (.tail _ (.head _)) rfl)<|.nil) (λ_=>Ud (H1 Ah (H1 Ah (H1 Ah Ue)))) (λ_=>flatN2 (JV (by intro x T h;simp at h;(first | (subst h;exact Ah) | (rcases h with h | h | h<;>subst h<;>exact Ah)))) (Pt SD)))) 0 ?_;refine' rx (.ud (f:=λv=>ttup [tv (gh v 0),tv (gh v 1),ti d.2.2]) 1 rfl [] rfl rfl (CS z0)) 0 ?_;refine' rx (.ud (f:=λv=>tv (gh v 0)) 1 rfl [] rfl rfl (Ea z0 rfl)) 0 ?_;refine' rx (.ud (f:=λv=>tv (gh v 1)) 1 rfl [] rfl rfl (Ea z1 rfl)) 1 ?_;refine' rx (.ud (f:=λv=>tv (gh v 0)) 1 rfl [] rfl rfl (Ql z2)) 0 ?_;refine' rx (.ud (f:=λv=>tv (gh v 1)) 1 rfl [] rfl rfl (Ql z2)) 1 ?_;exact rnn)
 refine Qf λ_ C=>?_
 refine Qa 1022 ?_ (λ_=>by refine' pr 1 ?_;refine' rx (.u [4] rfl rfl (gS FO z0)) 0 ?_;exact rnn)
 refine DJ 1 (λl=>?_) λl=>?_
 ·replace h:=C6 l h
  refine Q1 (As'':=[box (HD.cs (Qw.mk s0.1 s0.2.1 s0.2.2.2 s0.2.2.1)) (gh (a 2) 0),box (AW.cs zz5) (c 0),own rI 3 d.1 (gh (k 1) 0),omap Qv d.2.1 (gh (k 1) 1)]) (λ_ _ H=>((H.pick [0,1,2,3,4,5,6,7,8]).Xk [2,1,0,3,4] rfl).Xm 2 rfl) ?_
  apply Q1 (by intro _ _ H;exact ((H.Xk [2,0,1,3] rfl).Xn 4 rfl).pick [0,1,2,4,6,7,8,9])
  refine QU [v0 (box (AW.cs (BQ.mk s0.2.2.2 d.1)) (c 0))] [7] 79232 λO=>?_
  apply tSl [1,2]
  apply AG
  refine AA (λ_ _ H=>(H.pick [0,1,5]).Xk [1] rfl) ?_
  exact Qx y (z _ (sy h)) 14
 replace h:=C7 l h
 apply Qu
 apply C
 refine Q1 (As'':=[box (AW.cs zz5) (c 0),bxN s0.1 s0.2.1 (gh (a 2) 1) s0.2.2.1 (gh (a 2) 0),own rI 3 s0.2.2.2 (gh (a 2) 1),own rI 3 d.1 (gh (k 1) 0)]) (λ_ _ H=>((H.Xk [4,0,1,2,3] rfl).shareM 5 rfl).pick [0,2,3,5,7,8,9]) ?_
 have⟨j,D,h⟩:=bs h
 refine AB [v0 (bxN (j.2).n (j.2).l (gh (a 2) 1) (j.2).arcs (gh (a 2) 0)),v0 (own rI 3 (j.2).flow (gh (a 2) 1))] [5,5] 6912 (λP=>?_) (λ_=>by refine' pr 4 ?_;refine' rx (.e [] [1,2] [4,5] rfl rfl rfl rfl (QO cal (US.ok D) (.cons (.of z3)<|.cons (.of z2)<|.cons (.of z1)<|.cons (.of z0)<|.cons (.of .k)<|.nil))) 0 ?_;exact rnn)
 refine AA (λ_ _ H=>(H.pick [2,3]).Xk [0,2,3] rfl) ?_
 exact Qx A (sy h) 6
def Dk (a:Lz) (b:Int) (d:Int) (g:Int):Option (Lz×BQ×Int):=(if (decide ((a.length:Int)>512))||(decide (b>62)) then some ([],zz5,4) else (if ((decide (b<0))||(decide (d<0)))||(decide (d>g)) then some ([],zz5,1) else (if (decide ((a.length:Int)<(i64.wrap (b * (imin d 1000)))))||(decide ((a.length:Int)>(i64.wrap (b * (imin g (a.length:Int)))))) then some ([],zz5,14) else (EV a).bind λk=>(mk b 0).bind λv=>(Qr (λ(s0:Int×Lz×Lz×Lz×Int×Int)=>if decide (s0.1<(k.length:Int)) then (idx k s0.1).bind λw=>(E5 (Az.mk s0.2.2.2.1 s0.2.2.1 s0.2.2.2.2.1 s0.2.2.2.2.2) s0.1).bind λx=>(Qr (λ(c:Int×Lz×Lz×Int×Int)=>if decide (c.1<b) then (GR c.1 (Az.mk c.2.2.1 c.2.1 c.2.2.2.1 c.2.2.2.2) s0.1 w x).bind λe=>if e.1 then (rm (s0.2.1.length+[c.1].length)).bind λ_=>some (.inr ((e.2).old,(e.2).lo,(e.2).hi,(e.2).used,s0.2.1++[c.1])) else some (.inl (i64.wrap (c.1+1),(e.2).used,(e.2).old,(e.2).lo,(e.2).hi)) else some (.inr (c.2.2.1,c.2.2.2.1,c.2.2.2.2,c.2.1,s0.2.1))) (0,s0.2.2.1,s0.2.2.2.1,s0.2.2.2.2.1,s0.2.2.2.2.2)).bind λj=>some (.inl (i64.wrap (s0.1+1),j.2.2.2.2,j.2.2.2.1,j.1,j.2.1,j.2.2.1)) else some (.inr (s0.2.1,s0.2.2.1,s0.2.2.2.1,s0.2.2.2.2.1,s0.2.2.2.2.2))) (0,[],v,k,d,imin g (a.length:Int))).bind λh=>(GT (Az.mk h.2.2.1 h.2.1 h.2.2.2.1 h.2.2.2.2) b).bind λl=>(GS (i64.wrap (b+2)) l).bind λt=>if t.2.2 !=0 then some ([],zz5,14) else (mk (l.length:Int) 0).bind λy=>(setAt y (i64.wrap ((l.length:Int) - 1)) (a.length:Int)).bind λz=>(Qr (λ(f:Int×Lz)=>if decide (f.1<(h.1.length:Int)) then (idx h.1 f.1).bind λi=>(idx a f.1).bind λm=>(if m !=i then (idx f.2 (i64.wrap ((i64.wrap (3 * i))+1))).bind λn=>(setAt f.2 (i64.wrap ((i64.wrap (3 * i))+1)) (i64.wrap (n+1))).bind λo=>some o else (idx f.2 (i64.wrap (3 * i))).bind λp=>(setAt f.2 (i64.wrap (3 * i)) (i64.wrap (p+1))).bind λq=>some q).bind λu=>(idx u (i64.wrap ((i64.wrap (3 * i))+2))).bind λr=>(setAt u (i64.wrap ((i64.wrap (3 * i))+2)) (i64.wrap (r+1))).bind λs=>some (.inl (i64.wrap (f.1+1),s)) else some (.inr f.2)) (0,z)).bind λA=>some (h.1,BQ.mk A (t.1).Level,0))))
instance vN:Spc4 prog 21 Dk (λc n g i=>[tsl rI c,ti n,ti g,ti i]) (λr=>ttup [tsl rI r.1,AW.ty r.2.1,ti r.2.2]):=.mk λ{c n g i r} h=>by
 refine Fe func21 ntmps21 λM0 M w0 j=>?_
 refine QU [vb 1 (AW.cs zz5)] [2] 244 λd=>?_
 refine Qf λ_ S=>?_
 apply Qa 504
 apply Qk
 apply Qa 16256
 apply Qo h<;>intro _ h
 ·refine QU [v0 (box (AW.cs zz5) (d 1))] [3] 76 λm1=>?_
  exact tRE h j
 apply Qa 1036288
 apply Qo h<;>intro _ h
 ·refine QU [v0 (box (AW.cs zz5) (d 1))] [3] 76 λm2=>?_
  exact tRE h j
 apply Qa 16318464
 apply Qo h<;>intro _ h
 ·refine QU [v0 (box (AW.cs zz5) (d 1))] [3] 44 λm3=>?_
  exact tRE h j
 apply Qu
 apply S
 have⟨B,h0,N,_,h⟩:=bs2 h
 refine QU [vo 3 rI 3 N,v2 3 10 (λv0 v1=>box ([tsl rI B,tvs v0,ti g,ti (imin i (c.length:Int))]) v1),vb 11 [tvs (.pointer none)],v2 10 11 (λv0 v1=>box [tvs v0] v1)] [4,11,12,13] 118800 (λb=>?_) (λb=>by refine' pr 1 ?_;refine' rx (.p rfl (QO cal ((eR.ok h0).ro Uf) (.cons (.of z0)<|.nil))) 7 ?_;refine' rx (.ud (f:=λv=>tagg ([tsl rI B,tvs v,ti g,ti (imin i (c.length:Int))])) 3 rfl [1] rfl rfl (.say (A:=own rI 3 N (b 3)) (.head _) (λ_ _ h=>EQ h) λV=>OpJ.Xq (U:=[]) (λA hA=>by cases hA) (Cm underlying122 pl122 zv122 Wg (.cons (R:=(rSl rI)) (u:=B) rfl z7 (leb rfl)<|.cons (R:=rVal) (u:=(b 3)) rfl (Fct.Xo z5 λ_ _ _ h=>⟨h,V⟩) (leb rfl)<|.cons (R:=rI) (u:=g) rfl z4 (leb rfl)<|.cons (R:=rI) (u:=(imin i (c.length:Int))) rfl z0 (leb rfl)<|.nil _)))) 0 ?_;refine' rx (.m [] [2] rfl rfl rfl (JR (R:=(rAgg ([tsl rI B,tvs (b 3),ti g,ti (imin i (c.length:Int))]) (Qt DB (Qt BV (Qt (QZ rfl) (Qt (QZ rfl) Ae)))))) (u:=()) z0)) 0 ?_;refine' rx (.m [] [3] rfl rfl rfl (Eb (R:=rVal) (a:=.pointer none) EA zokP)) 0 ?_;refine' rx (.e [2] [3] [4] rfl rfl rfl rfl (Ug EA z0 z1)) 0 ?_;exact rnn)
 refine Q1 (λ_ _ H=>(((H.Xk [3,0,1,2] rfl).Xl 1 rfl).add 0 rfl (λ_ _ _ h=>h.2)).pick [0,2,4,5,6]) ?_
 apply Qa 126
 apply tNl rI 3
 refine Qf λW X=>?_
 apply Pr (Γ':=[(13,tv (.slice none 0 0)),(12,tptr (rVal.cs (b 10))),(68,tv (b 3)),(9,tv (d 1)),(0,tsl rI c),(1,ti n)])
 refine Qa 8176 ?_ (λ_=>by refine' rx (.p rfl (Ck EA z1)) 5 ?_;exact rnn)
 have⟨Y,Z,h⟩:=bs h
 refine tJq (λ_ w=>[(13,tv w)]) 266470145 (λk w=>[own rI 3 k.1 w,box (AW.cs zz5) (d 1),own rI 3 k.2.1 (b 3),box ([tsl rI k.2.2.1,tvs (b 3),ti k.2.2.2.1,ti k.2.2.2.2]) (b 10)]) 2113665 W (·=Y) (λk w y=>?_) λJ0=>?_
 ·subst y
  apply X
  have⟨t2,h3,C,_,h⟩:=bs2 h
  refine QU [vo 2 QE 187 t2] [3] 952 (λm5=>?_) (λ_=>by refine' rx (.p rfl (Ck EA z1)) 1 ?_;refine' rx (.m [3,2] [4] rfl rfl rfl (CY [box ([tsl rI k.2.2.1,tvs (b 3),ti k.2.2.2.1,ti k.2.2.2.2]) (b 10),own rI 3 k.2.1 (b 3)] cal (eX.ok h3) (.cons (.boxP 1 z1 (.head _) (.tail _ (.head _)) rfl)<|.cons (.of z0)<|.nil) (λ_=>Ah) (λ_=>Hq (JV (by intro x T h;simp at h;rcases h with h | h | h | h | h<;>subst h<;>exact Ah))))) 1 ?_;exact rnn)
  apply tSl [0,1,4]
  apply Q1 (by intro _ _ H;exact ((H.Xk [2,0,1] rfl).Xn 1 rfl).pick [0,3,4,5,6])
  refine QU [vb 8 (AW.cs zz5),vb 8 (AW.cs C.1)] [9,10] 64000 λO=>?_
  refine tIfs h 492 (λ_ h=>?_) λ_ h=>?_
  ·refine QU [v0 (box (AW.cs zz5) (d 1))] [3] 396 λm7=>?_
   apply tSl [0,2]
   exact tRE h j
  have⟨t4,_,t5,_,e4,h4,h⟩:=bs3 h
  refine QU [vo 2 rI 3 t4,v1 2 (λv0=>box ([tvs v0,tsl rI (C.1).Level]) (O 8))] [3,5] 1992 λp=>?_
  refine QU [v0 (own rI 3 t5 (p 2))] [9] 30212 λm9=>?_
  refine Qf λK1 k2=>?_
  apply Qa 1022
  refine tJp (λ_=>[]) 148487 (λD=>[box (AW.cs zz5) (d 1),own rI 3 D (p 2)]) 2162818 K1 (·=e4) (λD y=>?_) λJ1=>?_
  ·subst y
   apply k2
   refine Q1 (As'':=[box (AW.cs (BQ.mk D (C.1).Level)) (O 8),own rI 3 k.1 w,box (AW.cs zz5) (d 1)]) (λ_ _ H=>((H.pick [0,1,2]).Xk [3,2,0,1] rfl).Xm 0 rfl) ?_
   refine QU [v0 (box (AW.cs (BQ.mk D (C.1).Level)) (d 1))] [4] 218 λa0=>?_
   apply tSl [1,2]
   apply AG
   refine AA (by intro _ _ H;exact (H.Xn 1 rfl).pick [0,3,5]) ?_
   exact oRE h j
  apply Qk
  refine AC h4 (λs0=>[(131,ti s0.1)]) 34105999746 (λs0=>[box (AW.cs zz5) (d 1),own rI 3 s0.2 (p 2)]) 2162818 974 ?_
  intro s0 o K2 h q k3
  apply Qa 510
  refine Qf λ_ k4=>?_
  apply Qo h<;>intro _ h
  ·apply Qu
   apply k4
   refine Qf λ_ k5=>?_
   apply Qk
   have⟨_,_,_,_,p2,h5,h⟩:=bs3 h
   apply Qa 16304
   refine Qf λK3 k6=>?_
   apply Qa 65344
   refine tJ0 [] 16259 [box (AW.cs zz5) (d 1),own rI 3 p2 (p 2)] 2162818 K3 ?_ λP=>?_
   ·apply k6
    have⟨_,_,t6,_,h⟩:=bs2 h
    refine AB [v0 (own rI 3 t6 (p 2))] [10] 260100 λa1=>?_
    apply k5
    apply QJ 1020
    exact Qx k3 (sy h) 70853022745607
   replace h:=h5
   apply Qo h<;>intro _ h
   ·have⟨_,_,t7,_,h⟩:=bs2 h
    refine AB [v0 (own rI 3 t7 (p 2))] [10] 522244 λa2=>?_
    cases sj h
    exact QN P 1020
   have⟨_,_,t8,_,h⟩:=bs2 h
   refine AB [v0 (own rI 3 t8 (p 2))] [9] 261124 λa3=>?_
   cases sj h
   exact QN P 1020
  apply QQ
  exact Qx J1 (q _ (sy h)) 224
 apply Qk
 refine AT Z (λe s=>[(81,ti e.1),(13,tv s)]) 558828397543810 (λe s=>[own rI 3 e.2.1 s,box (AW.cs zz5) (d 1),own rI 3 e.2.2.1 (b 3),box ([tsl rI e.2.2.2.1,tvs (b 3),ti e.2.2.2.2.1,ti e.2.2.2.2.2]) (b 10)]) 2113665 (.slice none 0 0) 958 ?_
 intro e s o K4 h q k7
 apply Qa 1022
 refine Qf λ_ k8=>?_
 apply Qo h<;>intro _ h
 ·apply Qu
  apply k8
  refine Qf λK5 k9=>?_
  apply Qk
  have⟨t9,_,E,h6,e5,h7,h⟩:=bs3 h
  refine QU [vb 3 (rI.cs (0:Int)),vb 4 (rI.cs (0:Int)),vb 3 (rI.cs e.1),vb 4 (rI.cs t9)] [4,5,6,7] 32688 λa4=>?_
  refine Q1 (λ_ _ H=>(((((((H.Xk [4,0,1,2,3,5] rfl).Xl 0 rfl).add 0 rfl (λ_ _ _ h=>h.2)).pick [0,3,4,5,6,7,8,9,10,11]).Xk [4,0,1,2,3] rfl).Xl 1 rfl).add 0 rfl (λ_ _ _ h=>h.2)).pick [0,2,4,5,6,7,8,9,10,11]) ?_
  refine QU [vb 3 (rI.cs (0:Int)),vb 3 (rI.cs E)] [4,5] 32752 (λa5=>?_) (λ_=>by refine' rx (.p rfl (Ck EA z6)) 1 ?_;refine' rx (.u [3,2] rfl rfl (CY [box ([tsl rI e.2.2.2.1,tvs (b 3),ti e.2.2.2.2.1,ti e.2.2.2.2.2]) (b 10),own rI 3 e.2.2.1 (b 3)] cal (UN.ok h6) (.cons (.boxP 1 z1 (.head _) (.tail _ (.head _)) rfl)<|.cons (.of z0)<|.nil) (λ_=>Ah) (λ_=>EY (x:=undef)))) 2 ?_;exact rnn)
  apply tFz 4
  apply Qa 16324
  apply Qa 4094
  refine tJq (λ_ z=>[(13,tv z)]) 4366117470849 (λt z=>[box (AW.cs zz5) (d 1),box ([tsl rI t.1,tvs (b 3),ti t.2.1,ti t.2.2.1]) (b 10),own rI 3 t.2.2.2.1 (b 3),own rI 3 t.2.2.2.2 z]) 2113665 K5 (·=e5) (λt z y=>?_) λQ=>?_
  ·subst y
   apply k9
   apply QJ 1020
   refine AA (λ_ _ H=>(H.pick [2,3,0,1,4,5,6,7]).Xk [3,0,2,1] rfl) ?_
   exact Q7 k7 z (sy h) 510
  apply Qk
  refine AC h7 (λm=>[(91,ti m.1)]) 266403970 (λm=>[box (AW.cs zz5) (d 1),own rI 3 m.2.1 (b 3),box ([tsl rI m.2.2.1,tvs (b 3),ti m.2.2.2.1,ti m.2.2.2.2]) (b 10)]) 2113666 4094 ?_
  intro m o K6 h q F
  apply Qa 8190
  refine Qf λ_ I=>?_
  apply Qo h<;>intro _ h
  ·apply Qu
   apply I
   refine Qf λ_ K=>?_
   apply Qk
   apply Qa 32756
   have⟨l,h8,h⟩:=bs h
   refine QU [v0 (box ([tsl rI (l.2).old,tvs (b 3),ti (l.2).lo,ti (l.2).hi]) (b 10)),v0 (own rI 3 (l.2).used (b 3))] [3,3] 65528 (λa6=>?_) (λ_=>by refine' pr 2 ?_;refine' rx (.e [] [3,2] [4,5] rfl rfl rfl rfl (DK cal (fM.ok h8) z1 (.cons (.of z0)<|.nil))) 0 ?_;exact rnn)
   apply Qo h<;>intro _ h
   ·have⟨_,_,h⟩:=bs h
    refine QU [vo 3 rI 3 (e.2.1++[m.1])] [4] 260144 λL=>?_
    apply QQ
    exact Q7 Q (L 3) (q _ (sy h)) 1020
   apply Qu
   apply K
   apply QJ 32740
   refine AA (λ_ _ H=>(H.pick [1,0,2,3,4,5,6,7,8,9,10]).Xk [0,1,3,2] rfl) ?_
   exact Qx F (sy h) 4094
  apply QQ
  refine AA (λ_ _ H=>(H.pick [7,4,5,6,8,9,10,11]).Xk [1,3,2,0] rfl) ?_
  exact Q7 Q s (q _ (sy h)) 510
 apply QQ
 exact Q7 J0 s (q _ (sy h)) 992
def Lp (a:Qc):Option Int:=(Dq a.Version 0 1048576).bind λb=>(opt (((((!b)||(decide ((a.Xa.length:Int)>6)))||(decide ((a.Xd.length:Int)>6)))||(decide ((a.Xc.length:Int)>16)))==false) (MI a.Xa (λx0=>M8 x0)) default).bind λc=>(opt ((((((!b)||(decide ((a.Xa.length:Int)>6)))||(decide ((a.Xd.length:Int)>6)))||(decide ((a.Xc.length:Int)>16)))||(!c))==false) (ML a.Xd (λx0=>Mu x0)) default).bind λd=>(opt (((((((!b)||(decide ((a.Xa.length:Int)>6)))||(decide ((a.Xd.length:Int)>6)))||(decide ((a.Xc.length:Int)>16)))||(!c))||(!d))==false) (MU a.Xc (λx0=>Mv x0)) default).bind λe=>(if ((((((!b)||(decide ((a.Xa.length:Int)>6)))||(decide ((a.Xd.length:Int)>6)))||(decide ((a.Xc.length:Int)>16)))||(!c))||(!d))||(!e) then some 1 else (Ln a).bind λf=>if decide ((f.length:Int)>8192) then some 4 else some 0)
instance vO:SpcS prog 138 (∀{b r},Lp b=some r->FnOk prog 138 [Qb.ty b] [glo] (λ_=>[]) (λ_=>ti r)):=.mk λ{b r} h=>by
 refine Fe func138 ntmps138 λd M e a=>?_
 apply Qa 2
 refine Qf λ_ c=>?_
 apply Qk
 have⟨_,_,_,_,_,_,_,_,h⟩:=bs4 h
 apply Qa 6597069766656
 apply Qo h<;>intro _ h
 ·apply Qa 2
  exact tRE h a
 have⟨_,_,h⟩:=bs h
 apply Qa 32
 apply Qo h<;>intro _ h
 ·apply Qa 2
  exact tRE h a
 apply Qu
 apply c
 apply Qa 2
 exact tRE h a
def L4 (a:Qc):Option (List QI):=(Lp a).bind λm=>if m !=0 then some [QI.mk (-1) (-1) (-1) m] else (Qr (λ(s0:Int×List QI)=>if decide (s0.1<(a.Xd.length:Int)) then (idx a.Xd s0.1).bind λn=>(sub a.Xd 0 s0.1).bind λo=>(Hw o (λx0=>PM x0 n)).bind λp=>(CB [A1.mk p 7]).bind λq=>(Ga (-1) s0.1 (-1) q s0.2).bind λr=>some (.inl (i64.wrap (s0.1+1),r)) else some (.inr s0.2)) (0,[])).bind λs=>(Qr (λ(b:Int×List QI)=>if decide (b.1<(a.Xa.length:Int)) then (idx a.Xa b.1).bind λg=>(Lq a b.1).bind λt=>(Ga b.1 (-1) (-1) t b.2).bind λu=>(Qr (λ(c:Int×List QI)=>if decide (c.1<(g.Xb.length:Int)) then (idx g.Xb c.1).bind λf=>(CW g f.Xj).bind λh=>(CB [A1.mk (decide (h<c.1)) 7]).bind λe=>(if (Bw f.Xi).isSome&&(e==0) then (Hr (DO.mk (Bw f.Xi)).check (Ba.mk a b.1 c.1 f)).bind λi=>some i else some e).bind λv=>(Ga b.1 c.1 (-1) v c.2).bind λj=>some (.inl (i64.wrap (c.1+1),j)) else some (.inr c.2)) (0,u)).bind λw=>some (.inl (i64.wrap (b.1+1),w)) else some (.inr b.2)) (0,s)).bind λx=>(Qr (λ(d:Int×List QI)=>if decide (d.1<(a.Xc.length:Int)) then (L0 a d.1).bind λk=>(Ga (-1) (-1) d.1 k d.2).bind λl=>some (.inl (i64.wrap (d.1+1),l)) else some (.inr d.2)) (0,x)).bind λy=>some y
instance vP:SpcS prog 80 (∀{l r},L4 l=some r->FnOk prog 80 [Qb.ty l] [glo] (λ_=>[]) (λ_=>tsl BE r)):=.mk λ{l r} h=>by
 refine Fe func80 ntmps80 λM0 M K d=>?_
 apply Qa 2
 refine Qf λ_ L=>?_
 have⟨_,_,h⟩:=bs h
 apply Qa 24
 apply Qa 28
 apply Qo h<;>intro _ h
 ·apply Qa 16
  exact tRE h d
 apply Qu
 apply L
 refine QU [vb 0 (rVal.cs nilV)] [1] 18 (λa=>?_) (λ_=>by refine' rx (.m [] [1] rfl rfl rfl (Uc R8)) 0 ?_;exact rnn)
 apply tNl BE 148
 apply Qa 28
 refine Qf λN O=>?_
 apply Qa 252
 have⟨P,h0,h⟩:=bs h
 refine tJq (λ_ _=>[]) 16261 (λD m=>[own BE 148 D m,box (rVal.cs m) (a 0)]) 16769 N (·=P) (λD m b=>?_) λQ=>?_
 ·subst b
  apply O
  refine Qf λS T=>?_
  apply Qa 252
  have⟨U,V,h⟩:=bs h
  refine tJq (λ_ _=>[]) 16261 (λE n=>[own BE 148 E n,box (rVal.cs n) (a 0)]) 16769 S (·=U) (λE n b=>?_) λW=>?_
  ·subst b
   apply T
   refine Qf λX Y=>?_
   apply Qa 248
   have⟨Z,h2,h⟩:=bs h
   have J2:∀t v,t=Z->To M K 119 [(4,tv (a 0))] [own BE 148 t v,glo,box (rVal.cs v) (a 0)] X:=by
    intro t v b;subst b;refine Y <|Qa 6 ?_;apply tSl [0,1];apply AG;refine AA (by intro _ _ H;exact (H.Xn 1 rfl).pick [0]) ?_;exact oRE h d
   refine Qk <|AT h2 (λs0 e=>[(108,ti s0.1)]) 266403970 (λs0 e=>[own BE 148 s0.2 e,box (rVal.cs e) (a 0)]) 16769 n 62 ?_;intro s0 e o K3 h c k4;apply Qa 126;refine Qf λ_ k5=>Qo h (λ_ h=>?_) λ_ h=>?_
   ·refine Qu <|k5 <|Qf λ_ k6=>Qk <|Qa 500 ?_;have⟨_,_,t0,h3,h⟩:=bs2 h;refine AB [v1 5 (λv0=>box (rVal.cs v0) (a 0)),vo 5 BE 148 t0] [6,6] 7936 (λm1=>?_) (λ_=>by refine' pr 5 ?_;refine' rx (.e [] [2,0] [3,4] rfl rfl rfl rfl (DK cal (MM.ok h3) z4 (.cons (.of .k)<|.cons (.of .k)<|.cons (.of z3)<|.cons (.of z0)<|.nil))) 0 ?_;exact rnn);refine k6 <|QJ 124 ?_;refine AA (λ_ _ H=>(H.pick [1,0,2,3,4]).Xk [2,0,1] rfl) ?_;exact Q7 k4 (m1 5) (sy h) 62
   refine QQ <|Q7 J2 e (c _ (sy h)) 32
  refine Qk <|AT V (λf g=>[(50,ti f.1)]) 34101805442 (λf g=>[own BE 148 f.2 g,box (rVal.cs g) (a 0)]) 16769 m 126 ?_;intro f g o K4 h c k7;apply Qa 254;refine Qf λ_ k8=>Qo h (λ_ h=>?_) λ_ h=>?_
  ·refine Qu <|k8 <|Qf λK5 k9=>Qk ?_;have⟨t1,_,_,_,t2,h4,e6,h5,h⟩:=bs4 h;refine QU [vb 3 (Qq.cs zz1),vb 3 (Qq.cs t1)] [4,6] 8112 λm2=>?_;apply tFz 3;refine QU [v1 5 (λv0=>box (rVal.cs v0) (a 0)),vo 5 BE 148 t2] [6,6] 32640 (λm3=>?_) (λ_=>by refine' pr 5 ?_;refine' rx (.e [] [2,0] [3,4] rfl rfl rfl rfl (DK cal (MM.ok h4) z4 (.cons (.of z3)<|.cons (.of .k)<|.cons (.of .k)<|.cons (.of z0)<|.nil))) 0 ?_;exact rnn);apply Qa 8188;refine tJq (λ_ _=>[]) 16263 (λF p=>[box (rVal.cs p) (a 0),own BE 148 F p]) 16514 K5 (·=e6) (λF p b=>?_) λJ3=>?_
   ·subst b;refine k9 <|QJ 252 ?_;refine AA (λ_ _ H=>(H.pick [1,2,0,3,4,5]).Xk [2,0,1] rfl) ?_;exact Q7 k7 p (sy h) 126
   refine Qk <|AT h5 (λi j=>[(64,ti i.1)]) 34101805442 (λi j=>[box (rVal.cs j) (a 0),own BE 148 i.2 j]) 16514 (m3 5) 4094 ?_;intro i j o K6 h c w;apply Qa 8190;refine Qf λ_ x=>Qo h (λ_ h=>?_) λ_ h=>?_
   ·refine Qu <|x <|Qf λ_ y=>Qk ?_;have⟨q,_,_,_,_,_,p4,h6,h⟩:=bs4 h;refine QU [vb 3 (Qd.cs zz0),vb 3 (Qd.cs q)] [4,6] 262064 λm4=>?_;apply tFz 3;apply Qa 16776192;refine Qf λK7 z=>?_;refine QU [vb 7 (D9.cs (DO.mk none)),vb 7 (D9.cs (DO.mk (Bw q.Xi)))] [8,9] 16776960 (λm5=>?_) (λ_=>by refine' rx (.u [0] rfl rfl (gT (R:=rMapC D7) (u:=()) WU tokM0 rfl)) 2 ?_;refine' rx (.p rfl (f6 z2 z0)) 6 ?_;exact rnn);apply tFz 3;apply Qa 4194144;refine tJ0 [(13,ti p4)] 2081537 [] 127 K7 ?_ λI=>?_
    ·apply z;have⟨t4,h7,h⟩:=bs h;refine AB [v1 4 (λv0=>box (rVal.cs v0) (a 0)),vo 4 BE 148 t4] [5,5] 524032 (λm6=>?_) (λ_=>by refine' pr 4 ?_;refine' rx (.e [] [1,2] [3,4] rfl rfl rfl rfl (DK cal (MM.ok h7) z3 (.cons (.of z2)<|.cons (.of z1)<|.cons (.of .k)<|.cons (.of z0)<|.nil))) 0 ?_;exact rnn);refine y <|QJ 8188 ?_;exact Q7 w (m6 4) (sy h) 26158789202399750816517
    replace h:=h6;apply Qo h<;>intro _ h
    ·have⟨_,h8,h⟩:=bs h;refine QJ 33546752 ?_ (λ_=>by refine' pr 1 ?_;refine' rx (.p rfl (QM (u:=(DO.mk (Bw q.Xi)).check) Wn z0 rfl)) 5 ?_;refine' rx (.p rfl (gU (u:=(Ba.mk l f.1 i.1 q)) z5 (.cons (.of z0)<|.nil) h8)) 1 ?_;exact rnn);cases sj h;exact QN I 16382
    apply Qu;cases sj h;exact QN I 131048
   refine QQ <|Q7 J3 j (c _ (sy h)) 8064
  refine QQ <|Q7 W g (c _ (sy h)) 224
 refine Qk <|AT h0 (λs k=>[(28,ti s.1)]) 34101805442 (λs k=>[own BE 148 s.2 k,box (rVal.cs k) (a 0)]) 16769 nilV 126 ?_;intro s k o K8 h c A;apply Qa 254;refine Qf λ_ B=>Qo h (λ_ h=>?_) λ_ h=>?_
 ·refine Qu <|B <|Qf λ_ C=>Qk ?_;have⟨t5,_,_,_,_,_,_,_,h⟩:=bs4 h;refine QU [vb 3 (Qs.cs zz2),vb 3 (Qs.cs t5)] [4,6] 8112 λm7=>?_;apply tFz 3;apply Qa 65152;have⟨t6,h9,h⟩:=bs h;refine AB [v1 6 (λv0=>box (rVal.cs v0) (a 0)),vo 6 BE 148 t6] [7,7] 64512 (λm8=>?_) (λ_=>by refine' pr 6 ?_;refine' rx (.e [] [2,0] [3,4] rfl rfl rfl rfl (DK cal (MM.ok h9) z5 (.cons (.of .k)<|.cons (.of z4)<|.cons (.of .k)<|.cons (.of z0)<|.nil))) 0 ?_;exact rnn);refine C <|QJ 252 ?_;refine AA (λ_ _ H=>(H.pick [1,2,0,3,4,5]).Xk [2,0,1] rfl) ?_;exact Q7 A (m8 6) (sy h) 126
 refine QQ <|Q7 Q k (c _ (sy h)) 224

/- The walk. No condition. -/
import Derived.Test.YtohojolgolinoaaGreatDoorGenI
import Derived.Test.YtohojolgolinoaaGreatDoorGenL
set_option linter.all false
open List Go.Proofs.Tryz Go.IntKind
namespace Go.Proofs.YtohojolgolinoaaGreatDoor
noncomputable section
open Go.Sim
set_option maxRecDepth 100000
set_option maxHeartbeats 4000000
def Ko (O:QR) (a:(List QA)):Option (QA×QR×(List QA)):=(QS O 6).bind λF=>(idx [0,1,2,4,1,2] F.1).bind λH=>(idx [([112,101,114,115,111,110]:Str),([111,114,100,101,114]:Str),([105,116,101,109]:Str)] (a.length:Int)).bind λu=>(QS F.2 5).bind λI=>(QS I.2 4).bind λv=>(idx [0,1,100,-3] v.1).bind λo=>(rm (([]:List Qe).length+[Qe.mk ([105,100]:Str) ([]:Str) ([]:Str) 0 o 0 ([]:(List Str)) ([]:Lz)].length)).bind λ_=>(if decide ((a.length:Int)>0) then (QS v.2 (a.length:Int)).bind λi=>(idx a i.1).bind λK=>(QS i.2 4).bind λL=>(idx [4,3,8,2] L.1).bind λM=>(QS L.2 5).bind λe=>(if e.1==0 then some (Qe.mk ([111,102]:Str) K.Xj ([]:Str) 1 1 M ([]:(List Str)) ([]:Lz)) else some (Qe.mk ([111,102]:Str) K.Xj ([]:Str) 1 0 M ([]:(List Str)) ([]:Lz))).bind λt=>(rm (([]++[Qe.mk ([105,100]:Str) ([]:Str) ([]:Str) 0 o 0 ([]:(List Str)) ([]:Lz)]).length+[t].length)).bind λ_=>(idx a i.1).bind λw=>(MF w).bind λd=>(opt ((decide (d>=0))==true) (QS e.2 2) default).bind λg=>(if (decide (d>=0))&&(g.1==0) then (idx a i.1).bind λx=>(idx x.Xb d).bind λq=>(rm ((([]++[Qe.mk ([105,100]:Str) ([]:Str) ([]:Str) 0 o 0 ([]:(List Str)) ([]:Lz)])++[t]).length+[Qe.mk ([115,97,109,101]:Str) q.Xj ([111,102]:Str) 8 0 0 ([]:(List Str)) ([]:Lz)].length)).bind λ_=>some ((([]++[Qe.mk ([105,100]:Str) ([]:Str) ([]:Str) 0 o 0 ([]:(List Str)) ([]:Lz)])++[t])++[Qe.mk ([115,97,109,101]:Str) q.Xj ([111,102]:Str) 8 0 0 ([]:(List Str)) ([]:Lz)]) else some (([]++[Qe.mk ([105,100]:Str) ([]:Str) ([]:Str) 0 o 0 ([]:(List Str)) ([]:Lz)])++[t])).bind λy=>(idx a i.1).bind λz=>(Gg z.Xb ([116,111,116,97,108]:Str)).bind λh=>(opt ((decide (h<0))==true) (QS (bif ((decide (d>=0))==true) then g.2 else e.2) 3) default).bind λj=>(if (decide (h<0))&&(j.1==0) then (QS (bif ((decide (h<0))==true) then j.2 else bif ((decide (d>=0))==true) then g.2 else e.2) 3).bind λf=>(QS f.2 8).bind λk=>(rm (y.length+[Qe.mk ([112,97,114,116]:Str) ([116,111,116,97,108]:Str) ([111,102]:Str) 7 f.1 (i64.wrap (f.1+k.1)) ([]:(List Str)) ([]:Lz)].length)).bind λ_=>(idx a i.1).bind λl=>(rm (([]:List Qe).length+l.Xb.length)).bind λ_=>(rm (([]++l.Xb).length+[Qe.mk ([116,111,116,97,108]:Str) u ([]:Str) 6 0 0 ([]:(List Str)) ([]:Lz)].length)).bind λ_=>(idx a i.1).bind λA=>(setAt a i.1 { A with Xb:=(([]++l.Xb)++[Qe.mk ([116,111,116,97,108]:Str) u ([]:Str) 6 0 0 ([]:(List Str)) ([]:Lz)]) }).bind λB=>some (k.2,y++[Qe.mk ([112,97,114,116]:Str) ([116,111,116,97,108]:Str) ([111,102]:Str) 7 f.1 (i64.wrap (f.1+k.1)) ([]:(List Str)) ([]:Lz)],B) else some (bif ((decide (h<0))==true) then j.2 else bif ((decide (d>=0))==true) then g.2 else e.2,y,a)).bind λC=>some (C.1,C.2.1,C.2.2) else some (v.2,[]++[Qe.mk ([105,100]:Str) ([]:Str) ([]:Str) 0 o 0 ([]:(List Str)) ([]:Lz)],a)).bind λm=>(opt ((decide ((a.length:Int)>1))==true) (QS m.1 3) default).bind λr=>(if (decide ((a.length:Int)>1))&&(r.1==0) then (idx m.2.2 0).bind λs=>(rm (m.2.1.length+[Qe.mk ([98,121]:Str) s.Xj ([]:Str) 1 0 8 ([]:(List Str)) ([]:Lz)].length)).bind λ_=>some (m.2.1++[Qe.mk ([98,121]:Str) s.Xj ([]:Str) 1 0 8 ([]:(List Str)) ([]:Lz)]) else some m.2.1).bind λp=>(Ib (bif ((decide ((a.length:Int)>1))==true) then r.2 else m.1)).bind λb=>(rm (p.length+b.1.length)).bind λ_=>(QS b.2 2).bind λn=>(if n.1==0 then (Ib n.2).bind λc=>(opt ((decide ((c.1.length:Int)>0))==true) (idx c.1 0) default).bind λD=>(opt ((decide ((c.1.length:Int)>0))==true) (Gg (p++b.1) D.Xj) default).bind λE=>(if (decide ((c.1.length:Int)>0))&&(decide (E<0)) then (rm ((p++b.1).length+c.1.length)).bind λ_=>some ((p++b.1)++c.1) else some (p++b.1)).bind λP=>some (c.2,P) else some (n.2,p++b.1)).bind λN=>some (QA.mk u H (i64.wrap (H+I.1)) N.2,N.1,m.2.2)
instance gP:SpcS prog 53 (∀{d g O A r},Ko O A=some r->FnOk prog 53 [tv d,tv g] [box (QC.cs O) d,own Qq 41 A g] (λ_=>[box (QC.cs r.2.1) d,own Qq 41 r.2.2 g]) (λ_=>Qq.ty r.1)):=.mk λ{d g O A r} h=>by
 refine Fe func53 ntmps53 λM0 M w0 P=>?_
 refine QU [vb 0 (Qq.cs zz1)] [1] 14 λl=>?_
 apply Qa 122
 have⟨t0,_,b,_,e,_,f,_,h⟩:=bs4 h
 refine QU [v0 (box (QC.cs t0.2) d)] [3] 4032 λm1=>?_
 refine QU [v0 (box (QC.cs f.2) d),vb 10 (Qq.cs zz1),vb 10 ([tv (.string (sB e)),ti b,ti (i64.wrap (b+f.1)),tvs nilV])] [8,11,12] 256000 (λj=>?_) (λ_=>by refine' pr 9 ?_;refine' rx (.p (T:=tagg ([tv (.string (sB e)),ti b,ti (i64.wrap (b+f.1)),tvs nilV])) rfl (Cm underlying41 pl41 zv41 WZ.1 (.cons (R:=rS) (u:=e) rfl z5 (leb rfl)<|.cons (R:=rI) (u:=b) rfl z4 (leb rfl)<|.cons (R:=rI) (u:=(i64.wrap (b+f.1))) rfl z0 (leb rfl)<|.nil _))) 1 ?_;refine' rx (.e [] [4] [5] rfl rfl rfl rfl (Ec (R:=(rAgg ([tv (.string (sB e)),ti b,ti (i64.wrap (b+f.1)),tvs nilV]) (Qt (QZ rfl) (Qt (QZ rfl) (Qt (QZ rfl) (Qt BV Ae)))))) (a:=()) (tokA IH (Qt (QZ rfl) (Qt (QZ rfl) (Qt (QZ rfl) (Qt BV Ae)))) rfl rfl) z0 z1 (leb rfl))) 0 ?_;exact rnn)
 apply tNl Qd 44
 have⟨t4,_,B,_,_,_,q,h0,h⟩:=bs4 h
 refine QU [v0 (box (QC.cs t4.2) d),vo 9 Qd 44 (([]:List Qe)++[Qe.mk ([105,100]:Str) ([]:Str) ([]:Str) (0:Int) B (0:Int) ([]:(List Str)) ([]:Lz)]),v1 9 (λv0=>box ([tv (.string (sB e)),ti b,ti (i64.wrap (b+f.1)),tvs v0]) (j 10))] [5,10,12] 259072 λm3=>?_
 refine Qf λK0 k0=>?_
 apply Qa 1020
 refine tJ1 (λ_=>[]) 2081540 (λC=>[box (Qq.cs zz1) (l 0),box (QC.cs q.1) d,own Qd 44 q.2.1 C,box ([tv (.string (sB e)),ti b,ti (i64.wrap (b+f.1)),tvs C]) (j 10),own Qq 41 q.2.2 g]) 270549121 K0 (λC=>?_) λJ0=>?_
 ·apply k0
  refine Qf λK1 k1=>?_
  have⟨t6,h1,D,h2,h⟩:=bs2 h
  refine QU [v0 (box (QC.cs (bif ((decide ((A.length:Int)>1))==true) then t6.2 else q.1)) d)] [5] 7552 (λm4=>?_) (λ_=>by refine' pr 4 ?_;refine' rx (.ge (N:=λc _=>[box (QC.cs (bif c then t6.2 else q.1)) d]) [] [1] [5] rfl rfl rfl rfl rfl bq1 (λhc=>QO cal (MZ.ok (Dm h1 hc)) (.cons (.of (.cond z0 hc))<|.cons (.of .k)<|.nil)) rfl) 2 ?_;exact rnn)
  refine tJ1 (λ_=>[]) 16259 (λQ=>[box (Qq.cs zz1) (l 0),own Qd 44 D Q,box ([tv (.string (sB e)),ti b,ti (i64.wrap (b+f.1)),tvs Q]) (j 10)]) 270631553 K1 (λQ=>?_) λJ1=>?_
  ·apply k1
   have⟨E,_,_,_,t8,_,w,h3,h⟩:=bs4 h
   refine QU [v0 (box (QC.cs E.2) d)] [2] 248 λm5=>?_
   refine QU [vo 3 Qd 44 (D++E.1),v1 3 (λv0=>box ([tv (.string (sB e)),ti b,ti (i64.wrap (b+f.1)),tvs v0]) (j 10))] [4,6] 1936 λF=>?_
   refine Qf λK2 k2=>?_
   refine QU [v0 (box (QC.cs t8.2) d)] [2] 504 λm7=>?_
   refine tJ1 (λ_=>[]) 16260 (λS=>[box (Qq.cs zz1) (l 0),box (QC.cs w.1) d,own Qd 44 w.2 S,box ([tv (.string (sB e)),ti b,ti (i64.wrap (b+f.1)),tvs S]) (j 10)]) 270549377 K2 (λS=>?_) λJ2=>?_
   ·apply k2
    refine Q1 (As'':=[box (Qq.cs (QA.mk e b (i64.wrap (b+f.1)) w.2)) (j 10),box (Qq.cs zz1) (l 0),own Qq 41 q.2.2 g,box (QC.cs w.1) d]) (λ_ _ H=>((H.pick [0,1,2,3]).Xk [3,4,0,1,2] rfl).Xm 3 rfl) ?_
    refine QU [v0 (box (Qq.cs (QA.mk e b (i64.wrap (b+f.1)) w.2)) (l 0))] [2] 56 λm8=>?_
    apply tSl [1,2,3]
    exact Qp h (·▸AO undef [1,0] P)
   replace h:=h3
   apply Qo h<;>intro _ h
   ·have⟨t9,_,_,_,_,h4,p3,h5,h⟩:=bs4 h
    refine QU [v0 (box (QC.cs t9.2) d)] [2] 1000 λm9=>?_
    refine Qa 1040384 ?_ (λ_=>by refine' pr 5 ?_;refine' rx (.gu [3] rfl rfl rfl bq1 (λhc=>Fx (u:=(F 3)) R5 (.cond z0 hc) rfl)) 4 ?_;refine' rx (.gu [2] rfl rfl rfl bq6 (λhc=>CY [own Qd 44 (D++E.1) (F 3)] cal (eP.ok (Dm h4 hc)) (.cons (.own (.cond z4 hc) (.head _))<|.cons (.of (.cond z0 hc))<|.nil) (λ_=>Ah) (λ_=>EY (x:=undef)))) 2 ?_;exact rnn)
    refine tJ1 (λ_=>[]) 16261 (λI=>[box (Qq.cs zz1) (l 0),own Qd 44 p3 I,box ([tv (.string (sB e)),ti b,ti (i64.wrap (b+f.1)),tvs I]) (j 10)]) 270631297 K2 (λI=>?_) λJ3=>?_
    ·cases sj h
     exact QN (J2 I) 30
    replace h:=h5
    apply Qo h<;>intro _ h
    ·have⟨_,_,h⟩:=bs h
     refine AB [vo 3 Qd 44 ((D++E.1)++t9.1),v1 3 (λv0=>box ([tv (.string (sB e)),ti b,ti (i64.wrap (b+f.1)),tvs v0]) (j 10))] [4,6] 7696 λU=>?_
     cases sj h
     exact QN (J3 (U 3)) 60
    apply Qu
    cases sj h
    refine AA (λ_ _ H=>(H.pick [3,4,5,6]).Xk [0,1,4,2,3] rfl) ?_
    exact QN (J3 (F 3)) 30
   apply Qu
   cases sj h
   refine AA (λ_ _ H=>(H.pick [2,3,4,5]).Xk [0,1,4,2,3] rfl) ?_
   exact QN (J2 (F 3)) 30
  replace h:=h2
  apply Qo h<;>intro _ h
  ·have⟨s,_,_,_,h⟩:=bs2 h
   refine AB [vo 8 Qd 44 (q.2.1++[Qe.mk ([98,121]:Str) s.Xj ([]:Str) (1:Int) (0:Int) (8:Int) ([]:(List Str)) ([]:Lz)]),v1 8 (λv0=>box ([tv (.string (sB e)),ti b,ti (i64.wrap (b+f.1)),tvs v0]) (j 10))] [9,11] 61960 (λV=>?_) (λ_=>by refine' pr 6 ?_;refine' rx (.p (T:=Qd.ty (Qe.mk ([98,121]:Str) s.Xj ([]:Str) (1:Int) (0:Int) (8:Int) ([]:(List Str)) ([]:Lz))) rfl (Cm ud44 pl44 zv44 zc44 (.cons (R:=rS) (u:=([98,121]:Str)) rfl .k (leb rfl)<|.cons (R:=rI) (u:=(1:Int)) rfl .k (leb rfl)<|.cons (R:=rS) (u:=s.Xj) rfl z0 (leb rfl)<|.cons (R:=rI) (u:=(8:Int)) rfl .k (leb rfl)<|.nil _))) 4 ?_;exact rnn)
   cases sj h
   exact QN (J1 (V 8)) 120
  apply Qu
  cases sj h
  refine AA (λ_ _ H=>(H.pick [1,2,3,4]).Xk [0,3,4,1,2] rfl) ?_
  exact QN (J1 C) 30
 replace h:=h0
 apply Qo h<;>intro _ h
 ·have⟨W,_,m,_,X,_,n,_,h⟩:=bs4 h
  refine QU [v0 (box (QC.cs W.2) d)] [3] 8144 λa8=>?_
  refine QU [v0 (box (QC.cs X.2) d),vb 11 (Qd.cs zz0),vb 11 (Qd.cs (Qe.mk ([111,102]:Str) m.Xj ([]:Str) (1:Int) (0:Int) n ([]:(List Str)) ([]:Lz)))] [8,12,13] 2093058 (λy=>?_) (λ_=>by refine' pr 10 ?_;refine' rx (.p (T:=Qd.ty (Qe.mk ([111,102]:Str) m.Xj ([]:Str) (1:Int) (0:Int) n ([]:(List Str)) ([]:Lz))) rfl (Cm ud44 pl44 zv44 zc44 (.cons (R:=rS) (u:=([111,102]:Str)) rfl .k (leb rfl)<|.cons (R:=rI) (u:=(1:Int)) rfl .k (leb rfl)<|.cons (R:=rS) (u:=m.Xj) rfl z5 (leb rfl)<|.cons (R:=rI) (u:=n) rfl z0 (leb rfl)<|.nil _))) 2 ?_;exact rnn)
  refine Qf λK3 k3=>?_
  have⟨k,_,Y,h6,h⟩:=bs2 h
  refine QU [v0 (box (QC.cs k.2) d)] [2] 16376 λa9=>?_
  refine tJ0 [] 34110292612 [box (Qq.cs zz1) (l 0),own Qd 44 (([]:List Qe)++[Qe.mk ([105,100]:Str) ([]:Str) ([]:Str) (0:Int) B (0:Int) ([]:(List Str)) ([]:Lz)]) (m3 9),box (Qd.cs Y) (y 11)] 36249288834 K3 ?_ λJ4=>?_
  ·apply k3
   have⟨_,_,_,_,t,_,o,h7,h⟩:=bs4 h
   refine QU [vo 4 Qd 44 ((([]:List Qe)++[Qe.mk ([105,100]:Str) ([]:Str) ([]:Str) (0:Int) B (0:Int) ([]:(List Str)) ([]:Lz)])++[Y]),v1 4 (λv0=>box ([tv (.string (sB e)),ti b,ti (i64.wrap (b+f.1)),tvs v0]) (j 10))] [5,7] 16160 λZ=>?_
   apply tSl [0,1,2,4,5]
   apply Qa 16322
   refine Qf λK4 k4=>?_
   refine QU [v0 (box (QC.cs (bif ((decide (t>=0))==true) then o.2 else k.2)) d)] [5] 130944 (λb1=>?_) (λ_=>by refine' pr 4 ?_;refine' rx (.ge (N:=λc _=>[box (QC.cs (bif c then o.2 else k.2)) d]) [] [2] [5] rfl rfl rfl rfl rfl bq1 (λhc=>QO cal (MZ.ok (Dm h7 hc)) (.cons (.of (.cond z0 hc))<|.cons (.of .k)<|.nil)) rfl) 2 ?_;exact rnn)
   have⟨p5,h8,h⟩:=bs h
   refine tJ1 (λ_=>[]) 16262 (λK=>[box (Qq.cs zz1) (l 0),own Qd 44 p5 K,box ([tv (.string (sB e)),ti b,ti (i64.wrap (b+f.1)),tvs K]) (j 10)]) 270631042 K4 (λK=>?_) λJ5=>?_
   ·apply k4
    have⟨_,_,a0,_,z,h9,p6,a1,h⟩:=bs4 h
    refine QU [v0 (box (QC.cs (bif ((decide (a0<0))==true) then z.2 else bif ((decide (t>=0))==true) then o.2 else k.2)) d)] [10] 520194 (λb2=>?_) (λ_=>by refine' pr 9 ?_;refine' rx (.ge (N:=λc _=>[box (QC.cs (bif c then z.2 else bif ((decide (t>=0))==true) then o.2 else k.2)) d]) [] [2] [5] rfl rfl rfl rfl rfl bq1 (λhc=>QO cal (MZ.ok (Dm h9 hc)) (.cons (.of (.cond z0 hc))<|.cons (.of .k)<|.nil)) rfl) 2 ?_;exact rnn)
    refine tJ1 (λ_=>[]) 16261 (λL=>[box (Qq.cs zz1) (l 0),box (QC.cs p6.1) d,own Qd 44 p6.2.1 L,box ([tv (.string (sB e)),ti b,ti (i64.wrap (b+f.1)),tvs L]) (j 10),own Qq 41 p6.2.2 g]) 270549121 K0 (λL=>?_) λJ6=>?_
    ·cases sj h
     exact QN (J0 L) 62
    replace h:=a1
    refine DJ 1 (λb0=>?_) λb0=>?_
    ·replace h:=C6 b0 h
     have⟨i,_,p,_,_,_,a2,a3,h⟩:=bs4 h
     refine QU [v0 (box (QC.cs i.2) d)] [2] 4056 λb3=>?_
     refine QU [v0 (box (QC.cs p.2) d),vo 9 Qd 44 (p5++[Qe.mk ([112,97,114,116]:Str) ([116,111,116,97,108]:Str) ([111,102]:Str) (7:Int) i.1 (i64.wrap (i.1+p.1)) ([]:(List Str)) ([]:Lz)]),v1 9 (λv0=>box ([tv (.string (sB e)),ti b,ti (i64.wrap (b+f.1)),tvs v0]) (j 10))] [6,10,12] 1041408 (λa4=>?_) (λ_=>by refine' pr 7 ?_;refine' rx (.p (T:=Qd.ty (Qe.mk ([112,97,114,116]:Str) ([116,111,116,97,108]:Str) ([111,102]:Str) (7:Int) i.1 (i64.wrap (i.1+p.1)) ([]:(List Str)) ([]:Lz))) rfl (Cm ud44 pl44 zv44 zc44 (.cons (R:=rS) (u:=([112,97,114,116]:Str)) rfl .k (leb rfl)<|.cons (R:=rI) (u:=(7:Int)) rfl .k (leb rfl)<|.cons (R:=rS) (u:=([111,102]:Str)) rfl .k (leb rfl)<|.cons (R:=rS) (u:=([116,111,116,97,108]:Str)) rfl .k (leb rfl)<|.cons (R:=rI) (u:=i.1) rfl z4 (leb rfl)<|.cons (R:=rI) (u:=(i64.wrap (i.1+p.1))) rfl z0 (leb rfl)<|.nil _))) 4 ?_;exact rnn)
     have⟨_,_,_,a5,h⟩:=bs2 h
     replace h:=bk a3 h
     have⟨a6,_,h⟩:=bs h
     refine AB [vo 2 Qd 44 ([]:List Qe),vo 8 Qd 44 (([]:List Qe)++a2.Xb),v0 (own Qq 41 a6 g)] [3,9,17] 32899090 (λb4=>?_) (λ_=>by refine' pr 11 ?_;refine' rx (.p (T:=Qd.ty (Qe.mk ([116,111,116,97,108]:Str) e ([]:Str) (6:Int) (0:Int) (0:Int) ([]:(List Str)) ([]:Lz))) rfl (Cm ud44 pl44 zv44 zc44 (.cons (R:=rS) (u:=([116,111,116,97,108]:Str)) rfl .k (leb rfl)<|.cons (R:=rI) (u:=(6:Int)) rfl .k (leb rfl)<|.cons (R:=rS) (u:=e) rfl z0 (leb rfl)<|.nil _))) 1 ?_;refine' rx (.e [] [6] [] rfl rfl rfl rfl (.roE (Ef (R:=Qd) underlying39 Em (leb rfl) z4 z0 a5))) 3 ?_;exact rnn)
     cases sj h
     exact QN (J6 (a4 9)) 992
    replace h:=C7 b0 h
    apply Qu
    cases sj h
    refine AA (λ_ _ H=>(H.pick [3,4,5,6,7]).Xk [1,4,2,3,0] rfl) ?_
    exact QN (J6 K) 62
   replace h:=h8
   apply Qo h<;>intro _ h
   ·have⟨_,_,v,_,_,_,h⟩:=bs3 h
    refine AB [vo 13 Qd 44 (((([]:List Qe)++[Qe.mk ([105,100]:Str) ([]:Str) ([]:Str) (0:Int) B (0:Int) ([]:(List Str)) ([]:Lz)])++[Y])++[Qe.mk ([115,97,109,101]:Str) v.Xj ([111,102]:Str) (8:Int) (0:Int) (0:Int) ([]:(List Str)) ([]:Lz)]),v1 13 (λv0=>box ([tv (.string (sB e)),ti b,ti (i64.wrap (b+f.1)),tvs v0]) (j 10))] [14,16] 66207752 (λa7=>?_) (λ_=>by refine' pr 11 ?_;refine' rx (.p (T:=Qd.ty (Qe.mk ([115,97,109,101]:Str) v.Xj ([111,102]:Str) (8:Int) (0:Int) (0:Int) ([]:(List Str)) ([]:Lz))) rfl (Cm ud44 pl44 zv44 zc44 (.cons (R:=rS) (u:=([115,97,109,101]:Str)) rfl .k (leb rfl)<|.cons (R:=rI) (u:=(8:Int)) rfl .k (leb rfl)<|.cons (R:=rS) (u:=([111,102]:Str)) rfl .k (leb rfl)<|.cons (R:=rS) (u:=v.Xj) rfl z0 (leb rfl)<|.nil _))) 4 ?_;exact rnn)
    cases sj h
    exact QN (J5 (a7 13)) 1008
   apply Qu
   cases sj h
   refine AA (λ_ _ H=>(H.pick [4,5,6,7,8,9]).Xk [0,1,4,2,3] rfl) ?_
   exact QN (J5 (Z 4)) 126
  replace h:=h6
  apply Qo h<;>intro _ h
  ·refine AB [v0 (box (Qd.cs (Qe.mk ([111,102]:Str) m.Xj ([]:Str) (1:Int) (1:Int) n ([]:(List Str)) ([]:Lz))) (y 11))] [2] 8184 λb5=>?_
   cases sj h
   exact QN J4 1964
  apply Qu
  cases sj h
  refine AA (λ_ _ H=>(H.pick [2,3,5,7,8,9,10]).Xk [0,1,2,3,5,4] rfl) ?_
  exact QN J4 254
 apply Qu
 cases sj h
 refine AA (λ_ _ H=>(H.pick [2,4,5,6,7]).Xk [1,2,3,4,0] rfl) ?_
 exact QN (J0 (m3 9)) 62
def NC (b:Q2) (g:Int):Option Q2:=(idx (b.x).Xa g).bind λj=>(Qr (λ(s0:Int×List (List Lz))=>if decide (s0.1<(j.Xb.length:Int)) then ((idx j.Xb s0.1).bind λo=>if o.Xi !=6 then some s0.2 else (Ik b.x g s0.1).bind λc=>(idx (b.x).Xa c.1).bind λp=>(idx (b.x).Xa c.1).bind λq=>(idx q.Xb c.2).bind λr=>(CW p r.Up).bind λs=>(idx s0.2 c.1).bind λt=>(Qr (λ(a:Int×List (List Lz))=>if decide (a.1<(t.length:Int)) then (idx a.2 c.1).bind λu=>(idx u a.1).bind λz=>(idx a.2 g).bind λk=>(idx a.2 c.1).bind λv=>(idx v a.1).bind λl=>(idx l s).bind λm=>(idx k m).bind λn=>(idx n s0.1).bind λh=>(idx l c.2).bind λi=>(setAt n s0.1 (i64.wrap (h+i))).bind λd=>(setAt k m d).bind λe=>(setAt a.2 g e).bind λf=>some (.inl (i64.wrap (a.1+1),f)) else some (.inr a.2)) (0,s0.2)).bind λw=>some w).bind λx=>some (.inl (i64.wrap (s0.1+1),x)) else some (.inr s0.2)) (0,b.w)).bind λy=>some (Q2.mk b.x b.old y)
instance gR:SpcS prog 29 (∀{j a c s r},NC c s=some r->FnOk prog 29 [tv j,ti s] [bxM c.x c.old (dh a) j,deep (dRow (dOwn rI 3) 22) 51 c.w a] (λ_=>[bxM r.x r.old (dh a) j,deep (dRow (dOwn rI 3) 22) 51 r.w a]) (λ_=>ttup [])):=.mk λ{j a c s r} h=>by
 refine Fe func29 ntmps29 λF M H t=>?_
 have⟨_,_,I,h0,h⟩:=bs2 h
 refine Qa 15872 ?_ (λ_=>by refine' pr 3 ?_;refine' rx (.u [0] rfl rfl (FC Er z0)) 7 ?_;exact rnn)
 refine tJp (λ_=>[]) 5 (λx=>[deep (dRow (dOwn rI 3) 22) 51 x a]) 130 (Ret prog f29 F [bxM c.x c.old (dh a) j,deep (dRow (dOwn rI 3) 22) 51 c.w a] H (λ_=>[bxM r.x r.old (dh a) j,deep (dRow (dOwn rI 3) 22) 51 r.w a]) (λ_=>ttup []) .normal) (·=I) (λx u=>?_) λK=>?_
 ·subst u
  cases sj h
  exact Fo undef [0,1] t
 apply Qk
 refine AC h0 (λs0=>[(21,ti s0.1)]) 1621115266 (λs0=>[deep (dRow (dOwn rI 3) 22) 51 s0.2 a]) 130 62 ?_
 intro s0 o K0 h v L
 apply Qa 126
 refine Qf λ_ N=>?_
 apply Qo h<;>intro _ h
 ·apply Qu
  apply N
  refine Qf λy O=>?_
  have⟨P,Q,h⟩:=bs h
  refine tJ0 [] 16259 [deep (dRow (dOwn rI 3) 22) 51 P a] 130 y ?_ λz=>?_
  ·apply O
   apply QJ 124
   exact Qx L (sy h) 2701165317
  replace h:=Q
  apply Qk
  have⟨R,_,h⟩:=bs h
  refine QU [vb 3 (Qd.cs zz0),vb 3 (Qd.cs R)] [4,6] 4016 λm0=>?_
  apply tFz 2
  refine tIfs h 2024 (λ_ h=>?_) λ_ h=>?_
  ·apply QQ
   cases sj h
   exact QN z 248
  have⟨_,_,_,S,h⟩:=bs2 h
  apply Qa 1038336
  replace h:=bk S h
  have⟨_,_,_,_,h⟩:=bs2 h
  refine Qa 4286578688 ?_ (λ_=>by refine' pr 3 ?_;refine' rx (.u [0] rfl rfl (FC Er z0)) 7 ?_;refine' rx (.u [0] rfl rfl (FC Er z0)) 11 ?_;exact rnn)
  refine Qf λ_ T=>?_
  have⟨r2,w,h⟩:=bs h
  refine QJ 522128 ?_ (λ_=>by refine' pr 5 ?_;refine' rx (.u [1] rfl rfl (Ay ud29 BZ z1 z0 w)) 0 ?_;refine' rx (.u [1] rfl rfl (A9 Bb z0 w)) 0 ?_;refine' rx (.u [1] rfl rfl (.part (Q9 w .refl) (Ee ud51 z0))) 1 ?_;exact rnn)
  apply T
  have⟨U,V,h⟩:=bs h
  refine tJp (λ_=>[]) 16265 (λA=>[deep (dRow (dOwn rI 3) 22) 51 A a]) 130 y (·=U) (λA u=>?_) λW=>?_
  ·subst u
   cases sj h
   exact QN z 62
  apply Qk
  refine AC V (λn=>[(69,ti n.1)]) 34103902723 (λn=>[deep (dRow (dOwn rI 3) 22) 51 n.2 a]) 130 8188 ?_
  intro n o K2 h v X
  apply Qa 8190
  refine Qf λ_ Y=>?_
  apply Qo h<;>intro _ h
  ·apply Qu
   apply Y
   refine Qf λ_ Z=>?_
   apply Qk
   refine Qf λ_ k7=>?_
   have⟨r3,B,r4,C,h⟩:=bs2 h
   refine QJ 65512 ?_ (λ_=>by refine' rx (.u [1] rfl rfl (.part (Q9 B .refl) (Ay ud51 B6 z1 z3 C))) 0 ?_;refine' rx (.u [1] rfl rfl (.part (Q9 B .refl) (A9 Ak z0 C))) 1 ?_;exact rnn)
   apply k7
   have⟨r5,d,r6,p,r7,q,r8,k,h⟩:=bs4 h
   have⟨r9,b,a0,e,a1,l,D,f,h⟩:=bs4 h
   have⟨E,g,m,i,h⟩:=bs2 h
   refine AB [v0 (deep (dRow (dOwn rI 3) 22) 51 m a)] [23] 34342961168 (λm1=>?_) (λ_=>by refine' pr 5 ?_;refine' rx (.u [1] rfl rfl (Ay ud29 BZ z1 z0 d)) 0 ?_;refine' rx (.u [1] rfl rfl (A9 Bb z0 d)) 2 ?_;refine' rx (.u [1] rfl rfl (.part (Q9 p (Q9 q .refl)) (CC ud22 tok3 z1 z0 k))) 0 ?_;refine' rx (.u [1] rfl rfl (.part (Q9 p (Q9 q .refl)) (FD tok3 z0 k))) 0 ?_;refine' rx (.u [1] rfl rfl (.part (Q9 d .refl) (Ay ud51 B6 z4 z0 b))) 0 ?_;refine' rx (.u [1] rfl rfl (.part (Q9 d .refl) (A9 Ak z0 b))) 1 ?_;refine' rx (.u [1] rfl rfl (.part (Q9 d (Q9 b .refl)) (CC ud22 tok3 z1 z0 e))) 0 ?_;refine' rx (.u [1] rfl rfl (.part (Q9 d (Q9 b .refl)) (FD tok3 z0 e))) 2 ?_;refine' rx (.u [1] rfl rfl (.part (Q9 p (Q9 q .refl)) (CC ud22 tok3 z1 z0 l))) 0 ?_;refine' rx (.u [1] rfl rfl (.part (Q9 p (Q9 q .refl)) (FD tok3 z0 l))) 1 ?_;refine' rx (.u [1] rfl rfl (.part (Q9 d (Q9 b .refl)) (CC ud22 tok3 z8 z7 e))) 0 ?_;refine' rx (.e [] [1] [2] rfl rfl rfl rfl (.focus (Bz d i (Bz b g (.refl λ_=>Iff.rfl))) (Db tok3 z0 z1 f))) 0 ?_;exact rnn)
   apply Z
   apply QJ 16380
   exact Qx X (sy h) 28538564437861619237895
  apply QQ
  exact Qx W (v _ (sy h)) 7936
 apply QQ
 exact Qx K (v _ (sy h)) 32

/- The walk. No condition. -/
import Derived.Test.YtmhcoofnnmiejaaGreatDoorGenI
import Derived.Test.YtmhcoofnnmiejaaGreatDoorGenK
import Derived.Test.YtmhcoofnnmiejaaGreatDoorGenL
set_option linter.all false
open List Go.Proofs.Tryz Go.IntKind
namespace Go.Proofs.YtmhcoofnnmiejaaGreatDoor
noncomputable section
open Go.Sim
set_option maxRecDepth 100000
set_option maxHeartbeats 4000000
def Qer (O:QR) (a:(List QA)):Option (QA×QR×(List QA)):=(QS O 6).bind λF=>(idx [(0:Int),(1:Int),(2:Int),(4:Int),(1:Int),(2:Int)] F.1).bind λH=>(idx [([112,101,114,115,111,110]:Str),([111,114,100,101,114]:Str),([105,116,101,109]:Str)] (a.length:Int)).bind λu=>(QS F.2 5).bind λI=>(QS I.2 4).bind λv=>(idx [(0:Int),(1:Int),(100:Int),(-3:Int)] v.1).bind λo=>(rm (([]:List Qe).length+[(Qe.mk ([105,100]:Str) ([]:Str) ([]:Str) 0 o 0 ([]:(List Str)) ([]:(List Int)))].length)).bind λ_=>((if (decide ((a.length:Int)>0))=true then (QS v.2 (a.length:Int)).bind λi=>(idx a i.1).bind λK=>(QS i.2 4).bind λL=>(idx [(4:Int),(3:Int),(8:Int),(2:Int)] L.1).bind λM=>(QS L.2 5).bind λe=>((if (e.1==0)=true then (some (Qe.mk ([111,102]:Str) K.Xj ([]:Str) 1 1 M ([]:(List Str)) ([]:(List Int)))) else (some (Qe.mk ([111,102]:Str) K.Xj ([]:Str) 1 0 M ([]:(List Str)) ([]:(List Int)))))).bind λt=>(rm ((([]:List Qe)++[(Qe.mk ([105,100]:Str) ([]:Str) ([]:Str) 0 o 0 ([]:(List Str)) ([]:(List Int)))]).length+[t].length)).bind λ_=>(idx a i.1).bind λw=>(QgK w).bind λd=>(opt ((decide (d>=0))==true) (QS e.2 2) default).bind λg=>((if ((decide (d>=0))&&(g.1==0))=true then (idx a i.1).bind λx=>(idx x.Xb d).bind λq=>(rm (((([]:List Qe)++[(Qe.mk ([105,100]:Str) ([]:Str) ([]:Str) 0 o 0 ([]:(List Str)) ([]:(List Int)))])++[t]).length+[(Qe.mk ([115,97,109,101]:Str) q.Xj ([111,102]:Str) 8 0 0 ([]:(List Str)) ([]:(List Int)))].length)).bind λ_=>(some (((([]:List Qe)++[(Qe.mk ([105,100]:Str) ([]:Str) ([]:Str) 0 o 0 ([]:(List Str)) ([]:(List Int)))])++[t])++[(Qe.mk ([115,97,109,101]:Str) q.Xj ([111,102]:Str) 8 0 0 ([]:(List Str)) ([]:(List Int)))])) else (some ((([]:List Qe)++[(Qe.mk ([105,100]:Str) ([]:Str) ([]:Str) 0 o 0 ([]:(List Str)) ([]:(List Int)))])++[t])))).bind λy=>(idx a i.1).bind λz=>(Qfv z.Xb ([116,111,116,97,108]:Str)).bind λh=>(opt ((decide (h<0))==true) (QS (bif ((decide (d>=0))==true) then g.2 else e.2) 3) default).bind λj=>((if ((decide (h<0))&&(j.1==0))=true then (QS (bif ((decide (h<0))==true) then j.2 else (bif ((decide (d>=0))==true) then g.2 else e.2)) 3).bind λf=>(QS f.2 8).bind λk=>(rm (y.length+[(Qe.mk ([112,97,114,116]:Str) ([116,111,116,97,108]:Str) ([111,102]:Str) 7 f.1 (i64.wrap (f.1+k.1)) ([]:(List Str)) ([]:(List Int)))].length)).bind λ_=>(idx a i.1).bind λl=>(rm (([]:List Qe).length+l.Xb.length)).bind λ_=>(rm ((([]:List Qe)++l.Xb).length+[(Qe.mk ([116,111,116,97,108]:Str) u ([]:Str) 6 0 0 ([]:(List Str)) ([]:(List Int)))].length)).bind λ_=>(idx a i.1).bind λA=>(setAt a i.1 { A with Xb:=((([]:List Qe)++l.Xb)++[(Qe.mk ([116,111,116,97,108]:Str) u ([]:Str) 6 0 0 ([]:(List Str)) ([]:(List Int)))]) }).bind λB=>(some (k.2,(y++[(Qe.mk ([112,97,114,116]:Str) ([116,111,116,97,108]:Str) ([111,102]:Str) 7 f.1 (i64.wrap (f.1+k.1)) ([]:(List Str)) ([]:(List Int)))]),B)) else (some ((bif ((decide (h<0))==true) then j.2 else (bif ((decide (d>=0))==true) then g.2 else e.2)),y,a)))).bind λC=>(some (C.1,C.2.1,C.2.2)) else (some (v.2,(([]:List Qe)++[(Qe.mk ([105,100]:Str) ([]:Str) ([]:Str) 0 o 0 ([]:(List Str)) ([]:(List Int)))]),a)))).bind λm=>(opt ((decide ((a.length:Int)>1))==true) (QS m.1 3) default).bind λr=>((if ((decide ((a.length:Int)>1))&&(r.1==0))=true then (idx m.2.2 0).bind λs=>(rm (m.2.1.length+[(Qe.mk ([98,121]:Str) s.Xj ([]:Str) 1 0 8 ([]:(List Str)) ([]:(List Int)))].length)).bind λ_=>(some (m.2.1++[(Qe.mk ([98,121]:Str) s.Xj ([]:Str) 1 0 8 ([]:(List Str)) ([]:(List Int)))])) else (some m.2.1))).bind λp=>(Qdf (bif ((decide ((a.length:Int)>1))==true) then r.2 else m.1)).bind λb=>(rm (p.length+b.1.length)).bind λ_=>(QS b.2 2).bind λn=>((if (n.1==0)=true then (Qdf n.2).bind λc=>(opt ((decide ((c.1.length:Int)>0))==true) (idx c.1 0) default).bind λD=>(opt ((decide ((c.1.length:Int)>0))==true) (Qfv (p++b.1) D.Xj) default).bind λE=>((if ((decide ((c.1.length:Int)>0))&&(decide (E<0)))=true then (rm ((p++b.1).length+c.1.length)).bind λ_=>(some ((p++b.1)++c.1)) else (some (p++b.1)))).bind λP=>(some (c.2,P)) else (some (n.2,(p++b.1))))).bind λN=>(some ((QA.mk u H (i64.wrap (H+I.1)) N.2),N.1,m.2.2))
instance Qm3:SpcS prog 28 (∀{d g Q C r},Qer Q C=some r->FnOk prog 28 [tv d,tv g] [box (QC.cs Q) d,own Qq 39 C g] (λ_=>[box (QC.cs r.2.1) d,own Qq 39 r.2.2 g]) (λ_=>Qq.ty r.1)):=.mk λ{d g Q C r} h=>by
 unfold Qer at h
 refine Fe func28 ntmps28 λM0 M w0 S=>?_
 refine QU [v1 0 (λv0=>box (Qq.cs zz1) v0)] [1] 14 λm=>?_
 refine Qa 122 ?_
 have⟨t0,_,b,_,h⟩:=bs2 h
 refine QU [v0 (box (QC.cs t0.2) d)] [3] 4032 λm1=>?_
 have⟨e,_,f,_,h⟩:=bs2 h
 refine QU [v0 (box (QC.cs f.2) d),v1 10 (λv0=>box (Qq.cs zz1) v0),v1 10 (λv0=>box ([tv (.string (sB e)),ti b,ti (i64.wrap (b+f.1)),tvs nilV]) v0)] [8,11,12] 256000 (λj=>?_) (λ_=>by refine' pr 9 ?_;refine' rx (.p (T:=tagg ([tv (.string (sB e)),ti b,ti (i64.wrap (b+f.1)),tvs nilV])) rfl (Qby underlying39 pl39 zv39 QAF.1 (.cons (R:=rS) (u:=e) rfl z5 (leb rfl)<|.cons (R:=rI) (u:=b) rfl z4 (leb rfl)<|.cons (R:=rI) (u:=(i64.wrap (b+f.1))) rfl z0 (leb rfl)<|.nil _))) 1 ?_;refine' rx (.e [] [4] [5] rfl rfl rfl rfl (Qay (R:=(rAgg ([tv (.string (sB e)),ti b,ti (i64.wrap (b+f.1)),tvs nilV]) (Qt (QZ rfl) (Qt (QZ rfl) (Qt (QZ rfl) (Qt Qb9 Qak)))))) (a:=()) (tokA Qbn (Qt (QZ rfl) (Qt (QZ rfl) (Qt (QZ rfl) (Qt Qb9 Qak)))) rfl rfl) z0 z1 (leb rfl))) 0 ?_;exact rnn)
 refine Q1 (λ_ _ H=>H.nil (Qd) 66) ?_
 have⟨t4,_,D,_,_,_,h⟩:=bs3 h
 refine QU [v0 (box (QC.cs t4.2) d),v1 9 (λv0=>own Qd 66 (([]:List Qe)++[(Qe.mk ([105,100]:Str) ([]:Str) ([]:Str) (0:Int) D (0:Int) ([]:(List Str)) ([]:(List Int)))]) v0),v1 9 (λv0=>box ([tv (.string (sB e)),ti b,ti (i64.wrap (b+f.1)),tvs v0]) (j 10))] [5,10,12] 259072 λm3=>?_
 refine Qf λK0 k0=>?_
 refine Qa 1020 ?_
 have⟨s,h0,h⟩:=bs h
 refine tJ1 (λ_=>[]) 2081540 (λE=>[box (Qq.cs zz1) (m 0),box (QC.cs s.1) d,own Qd 66 s.2.1 E,box ([tv (.string (sB e)),ti b,ti (i64.wrap (b+f.1)),tvs E]) (j 10),own Qq 39 s.2.2 g]) 270549121 K0 (λE=>?_) λJ0=>?_
 ·refine k0 ?_
  refine Qf λK1 k1=>?_
  have⟨t6,h1,h⟩:=bs h
  refine QU [v0 (box (QC.cs (bif ((decide ((C.length:Int)>1))==true) then t6.2 else s.1)) d)] [5] 7552 (λm4=>?_) (λ_=>by refine' pr 4 ?_;refine' rx (.ge (N:=λc _=>[box (QC.cs (bif c then t6.2 else s.1)) d]) [] [1] [5] rfl rfl rfl rfl rfl bq1 (λk=>QO QgI (Qa9.ok (Qfc h1 k)) (.cons (.of (.cond z0 k))<|.cons (.of .k)<|.nil)) rfl) 2 ?_;exact rnn)
  have⟨F,h2,h⟩:=bs h
  refine tJ1 (λ_=>[]) 16259 (λU=>[box (Qq.cs zz1) (m 0),own Qd 66 F U,box ([tv (.string (sB e)),ti b,ti (i64.wrap (b+f.1)),tvs U]) (j 10)]) 270631553 K1 (λU=>?_) λJ1=>?_
  ·refine k1 ?_
   have⟨I,_,h⟩:=bs h
   refine QU [v0 (box (QC.cs I.2) d)] [2] 248 λm5=>?_
   have⟨_,_,h⟩:=bs h
   refine QU [v1 3 (λv0=>own Qd 66 (F++I.1) v0),v1 3 (λv0=>box ([tv (.string (sB e)),ti b,ti (i64.wrap (b+f.1)),tvs v0]) (j 10))] [4,6] 1936 λK=>?_
   refine Qf λK2 k2=>?_
   have⟨t8,_,h⟩:=bs h
   refine QU [v0 (box (QC.cs t8.2) d)] [2] 504 λm7=>?_
   have⟨y,h3,h⟩:=bs h
   refine tJ1 (λ_=>[]) 16260 (λV=>[box (Qq.cs zz1) (m 0),box (QC.cs y.1) d,own Qd 66 y.2 V,box ([tv (.string (sB e)),ti b,ti (i64.wrap (b+f.1)),tvs V]) (j 10)]) 270549377 K2 (λV=>?_) λJ2=>?_
   ·refine k2 ?_
    refine Q1 (As'':=[box (Qq.cs (QA.mk e b (i64.wrap (b+f.1)) y.2)) (j 10),box (Qq.cs zz1) (m 0),own Qq 39 s.2.2 g,box (QC.cs y.1) d]) (λ_ _ H=>((H.pick [0,1,2,3]).Xk [3,4,0,1,2] rfl).Xm 3 rfl) ?_
    refine QU [v0 (box (Qq.cs (QA.mk e b (i64.wrap (b+f.1)) y.2)) (m 0))] [2] 56 λm8=>?_
    refine Q1 (λ_ _ H=>H.Xk [1,2,3] rfl) ?_
    exact Qp h (·▸QaQ undef [1,0] S)
   replace h:=h3
   clear h3
   refine Qo h (λ_ h=>?_) λ_ h=>?_
   ·have⟨t9,_,h⟩:=bs h
    refine QU [v0 (box (QC.cs t9.2) d)] [2] 1000 λm9=>?_
    have⟨_,_,_,h4,h⟩:=bs2 h
    refine Qa 1040384 ?_ (λ_=>by refine' pr 5 ?_;refine' rx (.gu [3] rfl rfl rfl bq1 (λk=>Qat (u:=(K 3)) QjT (.cond z0 k) rfl)) 4 ?_;refine' rx (.gu [2] rfl rfl rfl bq6 (λk=>Qb2 [own Qd 66 (F++I.1) (K 3)] Qs0 (Qns.ok (Qfc h4 k)) (.cons (.own (.cond z4 k) (.head _))<|.cons (.of (.cond z0 k))<|.nil) (λ_=>Qa8) (λ_=>Qib (x:=undef)))) 2 ?_;exact rnn)
    have⟨p3,h5,h⟩:=bs h
    refine tJ1 (λ_=>[]) 16261 (λL=>[box (Qq.cs zz1) (m 0),own Qd 66 p3 L,box ([tv (.string (sB e)),ti b,ti (i64.wrap (b+f.1)),tvs L]) (j 10)]) 270631297 K2 (λL=>?_) λJ3=>?_
    ·obtain rfl:=sj h
     exact QN (J2 L) 30
    replace h:=h5
    clear h5
    refine Qo h (λ_ h=>?_) λ_ h=>?_
    ·have⟨_,_,h⟩:=bs h
     refine QaG [v1 3 (λv0=>own Qd 66 ((F++I.1)++t9.1) v0),v1 3 (λv0=>box ([tv (.string (sB e)),ti b,ti (i64.wrap (b+f.1)),tvs v0]) (j 10))] [4,6] 7696 λW=>?_
     obtain rfl:=sj h
     exact QN (J3 (W 3)) 60
    refine Qu ?_
    obtain rfl:=sj h
    refine Qan (λ_ _ H=>(H.pick [3,4,5,6]).Xk [0,1,4,2,3] rfl) ?_
    exact QN (J3 (K 3)) 30
   refine Qu ?_
   obtain rfl:=sj h
   refine Qan (λ_ _ H=>(H.pick [2,3,4,5]).Xk [0,1,4,2,3] rfl) ?_
   exact QN (J2 (K 3)) 30
  replace h:=h2
  clear h2
  refine Qo h (λ_ h=>?_) λ_ h=>?_
  ·have⟨t,_,_,_,h⟩:=bs2 h
   refine QaG [v1 8 (λv0=>own Qd 66 (s.2.1++[(Qe.mk ([98,121]:Str) t.Xj ([]:Str) (1:Int) (0:Int) (8:Int) ([]:(List Str)) ([]:(List Int)))]) v0),v1 8 (λv0=>box ([tv (.string (sB e)),ti b,ti (i64.wrap (b+f.1)),tvs v0]) (j 10))] [9,11] 61960 (λX=>?_) (λ_=>by refine' pr 6 ?_;refine' rx (.p (T:=Qd.ty (Qe.mk ([98,121]:Str) t.Xj ([]:Str) (1:Int) (0:Int) (8:Int) ([]:(List Str)) ([]:(List Int)))) rfl (Qby ud66 pl66 zv66 zc66 (.cons (R:=rS) (u:=([98,121]:Str)) rfl .k (leb rfl)<|.cons (R:=rI) (u:=(1:Int)) rfl .k (leb rfl)<|.cons (R:=rS) (u:=t.Xj) rfl z0 (leb rfl)<|.cons (R:=rI) (u:=(8:Int)) rfl .k (leb rfl)<|.nil _))) 4 ?_;exact rnn)
   obtain rfl:=sj h
   exact QN (J1 (X 8)) 120
  refine Qu ?_
  obtain rfl:=sj h
  refine Qan (λ_ _ H=>(H.pick [1,2,3,4]).Xk [0,3,4,1,2] rfl) ?_
  exact QN (J1 E) 30
 replace h:=h0
 clear h0
 refine Qo h (λ_ h=>?_) λ_ h=>?_
 ·have⟨Y,_,h⟩:=bs h
  refine QU [v0 (box (QC.cs Y.2) d)] [3] 8144 λa8=>?_
  have⟨n,_,Z,_,o,_,h⟩:=bs3 h
  refine QU [v0 (box (QC.cs Z.2) d),v1 11 (λv0=>box (Qd.cs zz0) v0),v1 11 (λv0=>box (Qd.cs (Qe.mk ([111,102]:Str) n.Xj ([]:Str) (1:Int) (0:Int) o ([]:(List Str)) ([]:(List Int)))) v0)] [8,12,13] 2093058 (λz=>?_) (λ_=>by refine' pr 10 ?_;refine' rx (.p (T:=Qd.ty (Qe.mk ([111,102]:Str) n.Xj ([]:Str) (1:Int) (0:Int) o ([]:(List Str)) ([]:(List Int)))) rfl (Qby ud66 pl66 zv66 zc66 (.cons (R:=rS) (u:=([111,102]:Str)) rfl .k (leb rfl)<|.cons (R:=rI) (u:=(1:Int)) rfl .k (leb rfl)<|.cons (R:=rS) (u:=n.Xj) rfl z5 (leb rfl)<|.cons (R:=rI) (u:=o) rfl z0 (leb rfl)<|.nil _))) 2 ?_;exact rnn)
  refine Qf λK3 k3=>?_
  have⟨l,_,h⟩:=bs h
  refine QU [v0 (box (QC.cs l.2) d)] [2] 16376 λa9=>?_
  have⟨p4,h6,h⟩:=bs h
  refine tJ0 [] 34110292612 [box (Qq.cs zz1) (m 0),own Qd 66 (([]:List Qe)++[(Qe.mk ([105,100]:Str) ([]:Str) ([]:Str) (0:Int) D (0:Int) ([]:(List Str)) ([]:(List Int)))]) (m3 9),box (Qd.cs p4) (z 11)] 36249288834 K3 ?_ λJ4=>?_
  ·refine k3 ?_
   have⟨_,_,h⟩:=bs h
   refine QU [v1 4 (λv0=>own Qd 66 ((([]:List Qe)++[(Qe.mk ([105,100]:Str) ([]:Str) ([]:Str) (0:Int) D (0:Int) ([]:(List Str)) ([]:(List Int)))])++[p4]) v0),v1 4 (λv0=>box ([tv (.string (sB e)),ti b,ti (i64.wrap (b+f.1)),tvs v0]) (j 10))] [5,7] 16160 λa0=>?_
   refine Q1 (λ_ _ H=>H.Xk [0,1,2,4,5] rfl) ?_
   have⟨_,_,v,_,h⟩:=bs2 h
   refine Qa 16322 ?_
   refine Qf λK4 k4=>?_
   have⟨p,h7,h⟩:=bs h
   refine QU [v0 (box (QC.cs (bif ((decide (v>=0))==true) then p.2 else l.2)) d)] [5] 130944 (λb1=>?_) (λ_=>by refine' pr 4 ?_;refine' rx (.ge (N:=λc _=>[box (QC.cs (bif c then p.2 else l.2)) d]) [] [2] [5] rfl rfl rfl rfl rfl bq1 (λk=>QO QgI (Qa9.ok (Qfc h7 k)) (.cons (.of (.cond z0 k))<|.cons (.of .k)<|.nil)) rfl) 2 ?_;exact rnn)
   have⟨p5,h8,h⟩:=bs h
   refine tJ1 (λ_=>[]) 16262 (λO=>[box (Qq.cs zz1) (m 0),own Qd 66 p5 O,box ([tv (.string (sB e)),ti b,ti (i64.wrap (b+f.1)),tvs O]) (j 10)]) 270631042 K4 (λO=>?_) λJ5=>?_
   ·refine k4 ?_
    have⟨_,_,a1,_,A,h9,h⟩:=bs3 h
    refine QU [v0 (box (QC.cs (bif ((decide (a1<0))==true) then A.2 else (bif ((decide (v>=0))==true) then p.2 else l.2))) d)] [10] 520194 (λb2=>?_) (λ_=>by refine' pr 9 ?_;refine' rx (.ge (N:=λc _=>[box (QC.cs (bif c then A.2 else (bif ((decide (v>=0))==true) then p.2 else l.2))) d]) [] [2] [5] rfl rfl rfl rfl rfl bq1 (λk=>QO QgI (Qa9.ok (Qfc h9 k)) (.cons (.of (.cond z0 k))<|.cons (.of .k)<|.nil)) rfl) 2 ?_;exact rnn)
    have⟨p6,B,h⟩:=bs h
    refine tJ1 (λ_=>[]) 16261 (λP=>[box (Qq.cs zz1) (m 0),box (QC.cs p6.1) d,own Qd 66 p6.2.1 P,box ([tv (.string (sB e)),ti b,ti (i64.wrap (b+f.1)),tvs P]) (j 10),own Qq 39 p6.2.2 g]) 270549121 K0 (λP=>?_) λJ6=>?_
    ·obtain rfl:=sj h
     exact QN (J0 P) 62
    replace h:=B
    clear B
    refine QgJ 1 (λb0=>?_) λb0=>?_
    ·replace h:=QhV b0 h
     have⟨i,_,h⟩:=bs h
     refine QU [v0 (box (QC.cs i.2) d)] [2] 4056 λb3=>?_
     have⟨q,_,_,_,h⟩:=bs2 h
     refine QU [v0 (box (QC.cs q.2) d),v1 9 (λv0=>own Qd 66 (p5++[(Qe.mk ([112,97,114,116]:Str) ([116,111,116,97,108]:Str) ([111,102]:Str) (7:Int) i.1 (i64.wrap (i.1+q.1)) ([]:(List Str)) ([]:(List Int)))]) v0),v1 9 (λv0=>box ([tv (.string (sB e)),ti b,ti (i64.wrap (b+f.1)),tvs v0]) (j 10))] [6,10,12] 1041408 (λa2=>?_) (λ_=>by refine' pr 7 ?_;refine' rx (.p (T:=Qd.ty (Qe.mk ([112,97,114,116]:Str) ([116,111,116,97,108]:Str) ([111,102]:Str) (7:Int) i.1 (i64.wrap (i.1+q.1)) ([]:(List Str)) ([]:(List Int)))) rfl (Qby ud66 pl66 zv66 zc66 (.cons (R:=rS) (u:=([112,97,114,116]:Str)) rfl .k (leb rfl)<|.cons (R:=rI) (u:=(7:Int)) rfl .k (leb rfl)<|.cons (R:=rS) (u:=([111,102]:Str)) rfl .k (leb rfl)<|.cons (R:=rS) (u:=([116,111,116,97,108]:Str)) rfl .k (leb rfl)<|.cons (R:=rI) (u:=i.1) rfl z4 (leb rfl)<|.cons (R:=rI) (u:=(i64.wrap (i.1+q.1))) rfl z0 (leb rfl)<|.nil _))) 4 ?_;exact rnn)
     have⟨a3,a4,_,_,_,a5,h⟩:=bs3 h
     replace h:=bk a4 h
     have⟨a6,_,h⟩:=bs h
     refine QaG [v1 2 (λv0=>own Qd 66 ([]:List Qe) v0),v1 8 (λv0=>own Qd 66 (([]:List Qe)++a3.Xb) v0),v0 (own Qq 39 a6 g)] [3,9,17] 32899090 (λb4=>?_) (λ_=>by refine' pr 11 ?_;refine' rx (.p (T:=Qd.ty (Qe.mk ([116,111,116,97,108]:Str) e ([]:Str) (6:Int) (0:Int) (0:Int) ([]:(List Str)) ([]:(List Int)))) rfl (Qby ud66 pl66 zv66 zc66 (.cons (R:=rS) (u:=([116,111,116,97,108]:Str)) rfl .k (leb rfl)<|.cons (R:=rI) (u:=(6:Int)) rfl .k (leb rfl)<|.cons (R:=rS) (u:=e) rfl z0 (leb rfl)<|.nil _))) 1 ?_;refine' rx (.e [] [6] [] rfl rfl rfl rfl (.roE (Qbr (R:=Qd) underlying37 QaY (leb rfl) z4 z0 a5))) 3 ?_;exact rnn)
     obtain rfl:=sj h
     exact QN (J6 (a2 9)) 992
    replace h:=QhW b0 h
    refine Qu ?_
    obtain rfl:=sj h
    refine Qan (λ_ _ H=>(H.pick [3,4,5,6,7]).Xk [1,4,2,3,0] rfl) ?_
    exact QN (J6 O) 62
   replace h:=h8
   clear h8
   refine Qo h (λ_ h=>?_) λ_ h=>?_
   ·have⟨_,_,w,_,_,_,h⟩:=bs3 h
    refine QaG [v1 13 (λv0=>own Qd 66 (((([]:List Qe)++[(Qe.mk ([105,100]:Str) ([]:Str) ([]:Str) (0:Int) D (0:Int) ([]:(List Str)) ([]:(List Int)))])++[p4])++[(Qe.mk ([115,97,109,101]:Str) w.Xj ([111,102]:Str) (8:Int) (0:Int) (0:Int) ([]:(List Str)) ([]:(List Int)))]) v0),v1 13 (λv0=>box ([tv (.string (sB e)),ti b,ti (i64.wrap (b+f.1)),tvs v0]) (j 10))] [14,16] 66207752 (λa7=>?_) (λ_=>by refine' pr 11 ?_;refine' rx (.p (T:=Qd.ty (Qe.mk ([115,97,109,101]:Str) w.Xj ([111,102]:Str) (8:Int) (0:Int) (0:Int) ([]:(List Str)) ([]:(List Int)))) rfl (Qby ud66 pl66 zv66 zc66 (.cons (R:=rS) (u:=([115,97,109,101]:Str)) rfl .k (leb rfl)<|.cons (R:=rI) (u:=(8:Int)) rfl .k (leb rfl)<|.cons (R:=rS) (u:=([111,102]:Str)) rfl .k (leb rfl)<|.cons (R:=rS) (u:=w.Xj) rfl z0 (leb rfl)<|.nil _))) 4 ?_;exact rnn)
    obtain rfl:=sj h
    exact QN (J5 (a7 13)) 1008
   refine Qu ?_
   obtain rfl:=sj h
   refine Qan (λ_ _ H=>(H.pick [4,5,6,7,8,9]).Xk [0,1,4,2,3] rfl) ?_
   exact QN (J5 (a0 4)) 126
  replace h:=h6
  clear h6
  refine Qo h (λ_ h=>?_) λ_ h=>?_
  ·refine QaG [v0 (box (Qd.cs (Qe.mk ([111,102]:Str) n.Xj ([]:Str) (1:Int) (1:Int) o ([]:(List Str)) ([]:(List Int)))) (z 11))] [2] 8184 λb5=>?_
   obtain rfl:=sj h
   exact QN J4 1964
  refine Qu ?_
  obtain rfl:=sj h
  refine Qan (λ_ _ H=>(H.pick [2,3,5,7,8,9,10]).Xk [0,1,2,3,5,4] rfl) ?_
  exact QN J4 254
 refine Qu ?_
 obtain rfl:=sj h
 refine Qan (λ_ _ H=>(H.pick [2,4,5,6,7]).Xk [1,2,3,4,0] rfl) ?_
 exact QN (J0 (m3 9)) 62
def Qd9 (e:Q2) (a:Int) (c:Int):Option (Q2):=(idx (e.x).Xa a).bind λC=>(idx e.w a).bind λU=>(idx U c).bind λr3=>(idx e.old a).bind λV=>((if (decide (c<(V.length:Int)))=true then (idx e.old a).bind λW=>(idx W c).bind λO=>(neL O).bind λ_=>(some O) else (some ([]:List Int)))).bind λB=>(Qr (λ(s0:Int×List (List (List Int)))=>(if (decide (s0.1<(C.Xb.length:Int)))=true then (idx C.Xb s0.1).bind λd=>((if (!B.isEmpty)=true then (sub B s0.1 (i64.wrap (s0.1+1))).bind λX=>(some X) else (some ([]:List Int)))).bind λP=>((if (d.Xi==3)=true then (Qhc (λx0=>Qgw x0 d) P).bind λY=>(idx s0.2 a).bind λQ=>(idx Q c).bind λR=>(idx R s0.1).bind λr6=>(setAt R s0.1 Y).bind λf=>(setAt Q c f).bind λg=>(setAt s0.2 a g).bind λh=>(some h) else ((if (d.Xi==5)=true then (Qcl (e.x).Xd (λx0=>QeF x0 d)).bind λZ=>(idx (e.x).Xd Z).bind λt8=>(Qha t8 d.Lo d.Hi).bind λt9=>(Qhc (λx0=>Qgx x0 t9) P).bind λD=>(idx s0.2 a).bind λS=>(idx S c).bind λT=>(idx T s0.1).bind λr9=>(setAt T s0.1 D).bind λi=>(setAt S c i).bind λj=>(setAt s0.2 a j).bind λk=>(some k) else ((if (d.Xi==7)=true then (idx s0.2 a).bind λu=>(idx u c).bind λv=>(idx v s0.1).bind λa0=>(setAt v s0.1 d.Lo).bind λl=>(setAt u c l).bind λm=>(setAt s0.2 a m).bind λb=>((if (!B.isEmpty)=true then (idx B s0.1).bind λE=>(QeD E d.Lo d.Hi).bind λF=>(idx b a).bind λw=>(idx w c).bind λx=>(idx x s0.1).bind λa1=>(setAt x s0.1 F).bind λn=>(setAt w c n).bind λo=>(setAt b a o).bind λp=>(some p) else (some b))).bind λp2=>(some p2) else ((if (d.Xi==8)=true then (Qa4 C d.Up).bind λy=>(Qdx e.x a y).bind λz=>(idx s0.2 z).bind λH=>(idx s0.2 a).bind λA=>(idx A c).bind λq=>(idx q y).bind λI=>(idx H I).bind λK=>(idx (e.x).Xa z).bind λL=>(Qa4 L d.Of).bind λM=>(idx K M).bind λN=>(idx q s0.1).bind λa2=>(setAt q s0.1 N).bind λr=>(setAt A c r).bind λs=>(setAt s0.2 a s).bind λt=>(some t) else (some s0.2))).bind λp3=>(some p3))).bind λp4=>(some p4))).bind λp5=>(some p5))).bind λp6=>(some (.inl ((i64.wrap (s0.1+1)),p6))) else (some (.inr s0.2)))) ((0:Int),e.w)).bind λp7=>(some (Q2.mk e.x e.old p7))
instance QmF:SpcS prog 21 (∀{E b x W X r},Qd9 x W X=some r->FnOk prog 21 [tv E,ti W,ti X] [bxM x.x x.old (dh b) E,deep (dRow (dOwn rI 3) 22) 40 x.w b] (λ_=>[bxM r.x r.old (dh b) E,deep (dRow (dOwn rI 3) 22) 40 r.w b]) (λ_=>ttup [])):=.mk λ{E b x W X r} h=>by
 unfold Qd9 at h
 refine Fe func21 ntmps21 λM0 M w0 Y=>?_
 refine Qf λ_ k0=>?_
 have⟨t0,_,r2,h0,r3,h1,h⟩:=bs3 h
 refine QaG [v1 18 (λv0=>box (Qq.cs zz1) v0),v1 18 (λv0=>box (Qq.cs t0) v0)] [19,20] 16257024 (λm0=>?_) (λ_=>by refine' pr 3 ?_;refine' rx (.u [0] rfl rfl (QeB Qcv z0)) 9 ?_;refine' rx (.u [1] rfl rfl (QaV ud29 QbR z1 z0 h0)) 0 ?_;refine' rx (.u [1] rfl rfl (Qa7 Qc0 z0 h0)) 1 ?_;refine' rx (.u [1] rfl rfl (.part (Q9 h0 .refl) (QaV ud40 Qci z1 z0 h1))) 0 ?_;refine' rx (.u [1] rfl rfl (.part (Q9 h0 .refl) (Qa7 Qbh z0 h1))) 3 ?_;exact rnn)
 refine Qan (λ_ _ H=>(((H.Xk [2,0,1] rfl).Xl 1 rfl).add 0 rfl (λ_ _ _ h=>h.2)).pick [0,2,4,5,6,7]) ?_
 refine k0 ?_
 refine Qa 254 ?_ (λ_=>by refine' rx (.p rfl (Ql (.nilsn (R:=rI)))) 0 ?_;exact rnn)
 refine Qf λK0 k1=>?_
 have⟨_,_,h⟩:=bs h
 refine Qa 261120 ?_
 have⟨y,h2,h⟩:=bs h
 refine tJ0 [(8,tsn rI y)] 2162262529 [] 127 K0 ?_ λJ0=>?_
 ·refine k1 ?_
  refine Qa 1020 ?_
  have⟨e3,h3,h⟩:=bs h
  refine tJp (λ_=>[]) 8 (λp1=>[deep (dRow (dOwn rI 3) 22) 40 p1 b]) 130 (Ret prog f21 M0 [bxM x.x x.old (dh b) E,deep (dRow (dOwn rI 3) 22) 40 x.w b] w0 (λ_=>[bxM r.x r.old (dh b) E,deep (dRow (dOwn rI 3) 22) 40 r.w b]) (λ_=>ttup []) .normal) (·=e3) (λp1 he=>?_) λJ1=>?_
  ·subst he
   obtain rfl:=sj h
   exact Qll undef [0,1] Y
  refine Qk ?_
  refine Qaf h3 (λs0=>[(57,ti s0.1),(8,tsn rI y)]) 4365299499394 (λs0=>[deep (dRow (dOwn rI 3) 22) 40 s0.2 b]) 130 510 ?_
  clear h
  intro s0 o K1 h ho k2
  refine Qa 1022 ?_
  refine Qf λ_ k3=>?_
  refine Qo h (λ_ h=>?_) λ_ h=>?_
  ·refine Qu ?_
   refine k3 ?_
   refine Qf λF k4=>?_
   refine Qk ?_
   have⟨t1,_,h⟩:=bs h
   refine QU [v1 3 (λv0=>box (Qd.cs zz0) v0),v1 3 (λv0=>box (Qd.cs t1) v0)] [4,6] 32688 λm1=>?_
   refine Q1 (λ_ _ H=>(((H.Xk [2,0,1] rfl).Xl 0 rfl).add 0 rfl (λ_ _ _ h=>h.2)).pick [0,3,4,5,6,7,8,9,10,11]) ?_
   refine Qa 4094 ?_
   refine Qf λK3 k5=>?_
   refine Qa 16380 ?_
   have⟨p2,h4,h⟩:=bs h
   refine tJ0 [(11,tsl rI p2),(8,tsn rI y)] 9156948617167192577 [] 127 K3 ?_ λJ2=>?_
   ·refine k5 ?_
    refine Qa 16380 ?_
    refine Qk ?_
    refine Qa 32764 ?_
    have⟨p3,h5,h⟩:=bs h
    refine tJ0 [(8,tsn rI y)] 4366641808391 [deep (dRow (dOwn rI 3) 22) 40 p3 b] 130 F ?_ λJ3=>?_
    ·refine k4 ?_
     refine QJ 1020 ?_
     exact Qx k2 ((sj h).symm) 9069186923922181
    replace h:=h5
    clear h5
    refine Qo h (λ_ h=>?_) λ_ h=>?_
    ·have⟨_,_,r4,h6,r5,h7,r6,h8,h⟩:=bs4 h
     have⟨Z,d,a0,e,z,f,h⟩:=bs3 h
     refine QaG [v0 (deep (dRow (dOwn rI 3) 22) 40 z b)] [7] 1044480 (λm2=>?_) (λ_=>by refine' pr 5 ?_;refine' rx (.u [1] rfl rfl (.part (Q9 h6 (Q9 h7 .refl)) (Qaz ud22 tok3 z4 z3 h8))) 0 ?_;refine' rx (.e [] [1] [2] rfl rfl rfl rfl (.focus (QbC h6 f (QbC h7 e (.refl λ_=>Iff.rfl))) (QbP tok3 z0 z1 d))) 0 ?_;exact rnn)
     obtain rfl:=sj h
     exact QN J3 510
    refine Qa 65524 ?_
    have⟨p4,h9,h⟩:=bs h
    refine tJ0 [(8,tsn rI y)] 4366641808391 [deep (dRow (dOwn rI 3) 22) 40 p4 b] 130 F ?_ λJ4=>?_
    ·obtain rfl:=sj h
     exact QN J3 510
    replace h:=h9
    clear h9
    refine Qo h (λ_ h=>?_) λ_ h=>?_
    ·have⟨_,_,h⟩:=bs h
     refine Qa 4192512 ?_ (λ_=>by refine' pr 3 ?_;refine' rx (.u [0] rfl rfl (QeB Qn8 z0)) 4 ?_;exact rnn)
     have⟨_,_,t2,_,h⟩:=bs2 h
     refine QU [v1 13 (λv0=>box ((rSl Qag).cs ([]:(List Bool))) v0),v1 13 (λv0=>box ((rSl Qag).cs t2) v0)] [14,15] 134037504 (λm3=>?_) (λ_=>by refine' pr 3 ?_;refine' rx (.u [0] rfl rfl (QeB Qn8 z0)) 9 ?_;refine' rx (.m [] [2] rfl rfl rfl (QaL (R:=(rSl Qag)) (a:=([]:(List Bool))) QsG zok111)) 1 ?_;exact rnn)
     refine Q1 (λ_ _ H=>(((H.Xk [2,0,1] rfl).Xl 0 rfl).add 0 rfl (λ_ _ _ h=>h.2)).pick [0,3,4,5,6,7,8,9,10,11,12]) ?_
     have⟨_,_,r7,I,r8,K,r9,a1,h⟩:=bs4 h
     have⟨a2,g,a3,i,A,j,h⟩:=bs3 h
     refine QaG [v0 (deep (dRow (dOwn rI 3) 22) 40 A b)] [7] 261120 (λm4=>?_) (λ_=>by refine' pr 5 ?_;refine' rx (.u [1] rfl rfl (.part (Q9 I (Q9 K .refl)) (Qaz ud22 tok3 z4 z3 a1))) 0 ?_;refine' rx (.e [] [1] [2] rfl rfl rfl rfl (.focus (QbC I j (QbC K i (.refl λ_=>Iff.rfl))) (QbP tok3 z0 z1 g))) 0 ?_;exact rnn)
     obtain rfl:=sj h
     exact QN J4 510
    refine Qa 65492 ?_
    have⟨p5,L,h⟩:=bs h
    refine tJ0 [(8,tsn rI y)] 4366373356422 [deep (dRow (dOwn rI 3) 22) 40 p5 b] 130 F ?_ λJ5=>?_
    ·obtain rfl:=sj h
     exact QN J4 510
    replace h:=L
    clear L
    refine Qo h (λ_ h=>?_) λ_ h=>?_
    ·refine Qf λ_ k6=>?_
     have⟨b4,N,b5,O,b6,a4,a5,k,h⟩:=bs4 h
     have⟨a6,l,B,m,h⟩:=bs2 h
     refine QaG [v0 (deep (dRow (dOwn rI 3) 22) 40 B b)] [6] 261888 (λm5=>?_) (λ_=>by refine' pr 4 ?_;refine' rx (.u [1] rfl rfl (.part (Q9 N (Q9 O .refl)) (Qaz ud22 tok3 z3 z2 a4))) 0 ?_;refine' rx (.e [] [1] [2] rfl rfl rfl rfl (.focus (QbC N m (QbC O l (.refl λ_=>Iff.rfl))) (QbP tok3 z0 z1 k))) 0 ?_;exact rnn)
     refine k6 ?_
     refine Qa 8188 ?_
     have⟨p6,P,h⟩:=bs h
     refine tJ0 [(8,tsn rI y)] 4366104904453 [deep (dRow (dOwn rI 3) 22) 40 p6 b] 130 F ?_ λJ6=>?_
     ·obtain rfl:=sj h
      exact QN J5 510
     replace h:=P
     clear P
     refine Qo h (λ_ h=>?_) λ_ h=>?_
     ·have⟨_,_,_,_,b7,Q,b8,S,h⟩:=bs4 h
      have⟨b9,a7,a8,n,a9,p,C,q,h⟩:=bs4 h
      refine QaG [v0 (deep (dRow (dOwn rI 3) 22) 40 C b)] [13] 16711680 (λm6=>?_) (λ_=>by refine' pr 11 ?_;refine' rx (.u [1] rfl rfl (.part (Q9 Q (Q9 S .refl)) (Qaz ud22 tok3 z10 z9 a7))) 0 ?_;refine' rx (.e [] [1] [2] rfl rfl rfl rfl (.focus (QbC Q q (QbC S p (.refl λ_=>Iff.rfl))) (QbP tok3 z0 z1 n))) 0 ?_;exact rnn)
      obtain rfl:=sj h
      exact QN J6 510
     refine Qu ?_
     obtain rfl:=sj h
     exact QN J6 4080
    refine Qa 32740 ?_
    have⟨p7,T,h⟩:=bs h
    refine tJ0 [(8,tsn rI y)] 4366104904453 [deep (dRow (dOwn rI 3) 22) 40 p7 b] 130 F ?_ λJ7=>?_
    ·obtain rfl:=sj h
     exact QN J5 510
    replace h:=T
    clear T
    refine Qo h (λ_ h=>?_) λ_ h=>?_
    ·have⟨_,_,h⟩:=bs h
     refine Qa 130976 ?_
     have⟨_,_,h⟩:=bs h
     refine Qa 1048320 ?_
     have⟨c0,c,c1,s,c2,h24,c3,U,h⟩:=bs4 h
     have⟨c4,t,_,_,_,_,c5,V,h⟩:=bs4 h
     have⟨c6,b0,b1,u,b2,v,D,w,h⟩:=bs4 h
     refine QaG [v0 (deep (dRow (dOwn rI 3) 22) 40 D b)] [30] 4380866641984 (λm7=>?_) (λ_=>by refine' pr 7 ?_;refine' rx (.u [1] rfl rfl (QaV ud29 QbR z1 z0 c)) 0 ?_;refine' rx (.u [1] rfl rfl (Qa7 Qc0 z0 c)) 2 ?_;refine' rx (.u [1] rfl rfl (.part (Q9 s (Q9 h24 .refl)) (Qaz ud22 tok3 z1 z0 U))) 0 ?_;refine' rx (.u [1] rfl rfl (.part (Q9 s (Q9 h24 .refl)) (QcA tok3 z0 U))) 0 ?_;refine' rx (.u [1] rfl rfl (.part (Q9 c .refl) (QaV ud40 Qci z4 z0 t))) 0 ?_;refine' rx (.u [1] rfl rfl (.part (Q9 c .refl) (Qa7 Qbh z0 t))) 3 ?_;refine' rx (.u [0] rfl rfl (QeB Qcv z0)) 7 ?_;refine' rx (.u [1] rfl rfl (.part (Q9 c (Q9 t .refl)) (Qaz ud22 tok3 z11 z0 V))) 0 ?_;refine' rx (.u [1] rfl rfl (.part (Q9 c (Q9 t .refl)) (QcA tok3 z0 V))) 0 ?_;refine' rx (.u [1] rfl rfl (.part (Q9 s (Q9 h24 .refl)) (Qaz ud22 tok3 z27 z26 b0))) 0 ?_;refine' rx (.e [] [1] [2] rfl rfl rfl rfl (.focus (QbC s w (QbC h24 v (.refl λ_=>Iff.rfl))) (QbP tok3 z0 z1 u))) 0 ?_;exact rnn)
     obtain rfl:=sj h
     exact QN J7 1020
    refine Qu ?_
    obtain rfl:=sj h
    exact QN J7 4080
   replace h:=h4
   clear h4
   refine Qo h (λ_ h=>?_) λ_ h=>?_
   ·have⟨_,_,h⟩:=bs h
    refine QJ 261952 ?_
    obtain rfl:=sj h
    exact QN J2 4094
   refine Qu ?_
   obtain rfl:=sj h
   exact QN J2 8188
  refine QQ ?_
  exact Qx J1 (ho _ (sj h).symm) 256
 replace h:=h2
 clear h2
 refine Qo h (λ_ h=>?_) λ_ h=>?_
 ·have⟨_,_,_,_,_,b3,h⟩:=bs3 h
  refine QJ 256000 ?_ (λ_=>by refine' pr 10 ?_;refine' rx (.p rfl (Ql (.toN z0 b3))) 0 ?_;exact rnn)
  obtain rfl:=sj h
  exact QN J0 118
 refine Qu ?_
 obtain rfl:=sj h
 exact QN J0 236

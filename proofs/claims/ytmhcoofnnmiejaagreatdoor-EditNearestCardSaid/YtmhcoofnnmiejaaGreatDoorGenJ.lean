/- The walk. No condition. -/
import Derived.Test.YtmhcoofnnmiejaaGreatDoorGenE
import Derived.Test.YtmhcoofnnmiejaaGreatDoorGenH
set_option linter.all false
open List Go.Proofs.Tryz Go.IntKind
namespace Go.Proofs.YtmhcoofnnmiejaaGreatDoor
noncomputable section
open Go.Sim
set_option maxRecDepth 100000
set_option maxHeartbeats 4000000
def QfX (a:Qe):Option (Bool):=(QbZ a.Xi).bind λb=>(opt (((decide (a.Xi<0))||(decide (a.Xi>=9)))==false) (Qbw a.Xj) default).bind λe=>(if ((((((((decide (a.Xi<0))||(decide (a.Xi>=9)))||(!e))||((!b.1)&&(a.Of !=([]:Str))))||((!b.2.1)&&(a.Up !=([]:Str))))||((!b.2.2.1)&&(a.Lo !=0)))||((!b.2.2.2.1)&&(a.Hi !=0)))||((!b.2.2.2.2)&&(decide ((i64.wrap ((a.Words.length:Int)+(a.Xf.length:Int)))>0))))=true then (some false) else (opt (b.1==true) (Qbw a.Of) default).bind λd=>(opt ((((b.1&&(!d))&&((a.Xi !=4)||(a.Of !=([]:Str))))==false)&&(b.2.1==true)) (Qbw a.Up) default).bind λf=>(if (((b.1&&(!d))&&((a.Xi !=4)||(a.Of !=([]:Str))))||(b.2.1&&(!f)))=true then (some false) else (if (a.Xi==0)=true then (Qbe a.Lo (-1048576) 1048576).bind λg=>(some g) else (if (a.Xi==1)=true then (QdU a.Lo a.Hi 0 65536).bind λh=>(some h) else (if (a.Xi==2)=true then (QdU a.Lo a.Hi (-1048576) 1048576).bind λi=>(some i) else (if (a.Xi==4)=true then (QdU a.Lo a.Hi (-1048576) 1048576).bind λj=>(some j) else (if (a.Xi==5)=true then (QdU a.Lo a.Hi 0 32).bind λk=>(some k) else (if (a.Xi==7)=true then (QdU a.Lo a.Hi 0 1048576).bind λl=>(some l) else (if (a.Xi==3)=true then (QgL a).bind λc=>(some c) else (some true))))))))))
instance QBa:Spc1 prog 174 QfX (λb=>[Qd.ty b]) tb:=.mk λ{b r} h=>by
 unfold QfX at h
 refine Fe func174 ntmps174 λd M e a=>?_
 refine Qa 2 ?_
 have⟨_,_,h⟩:=bs h
 refine Qa 64512 ?_
 have⟨_,_,h⟩:=bs h
 refine tIfs h 1309718829233378164736 (λ_ h=>?_) λ_ h=>?_
 ·refine Qa 2 ?_
  exact Qp h (·▸Qn a)
 have⟨_,_,_,_,h⟩:=bs2 h
 refine tIfs h 1140850688 (λ_ h=>?_) λ_ h=>?_
 ·refine Qa 2 ?_
  exact Qp h (·▸Qn a)
 refine Qf λ_ c=>?_
 refine Qa 20 ?_
 refine Qk ?_
 refine Qa 28 ?_
 refine Qo h (λ_ h=>?_) λ_ h=>?_
 ·have⟨_,_,h⟩:=bs h
  refine Qa 16 ?_
  exact Qp h (·▸Qn a)
 refine Qa 52 ?_
 refine Qo h (λ_ h=>?_) λ_ h=>?_
 ·have⟨_,_,h⟩:=bs h
  refine Qa 64 ?_
  exact Qp h (·▸Qn a)
 refine Qa 52 ?_
 refine Qo h (λ_ h=>?_) λ_ h=>?_
 ·have⟨_,_,h⟩:=bs h
  refine Qa 64 ?_
  exact Qp h (·▸Qn a)
 refine Qa 52 ?_
 refine Qo h (λ_ h=>?_) λ_ h=>?_
 ·have⟨_,_,h⟩:=bs h
  refine Qa 64 ?_
  exact Qp h (·▸Qn a)
 refine Qa 52 ?_
 refine Qo h (λ_ h=>?_) λ_ h=>?_
 ·have⟨_,_,h⟩:=bs h
  refine Qa 64 ?_
  exact Qp h (·▸Qn a)
 refine Qa 52 ?_
 refine Qo h (λ_ h=>?_) λ_ h=>?_
 ·have⟨_,_,h⟩:=bs h
  refine Qa 64 ?_
  exact Qp h (·▸Qn a)
 refine Qa 36 ?_
 refine Qo h (λ_ h=>?_) λ_ h=>?_
 ·have⟨_,_,h⟩:=bs h
  refine Qa 8 ?_
  exact Qp h (·▸Qn a)
 refine Qu ?_
 refine c ?_
 refine Qa 2 ?_
 exact Qp h (·▸Qn a)
def QgM (a:QA):Option (Bool):=(Qbw a.Xj).bind λb=>(opt ((!b)==false) (QdU a.Lo a.Hi 0 65536) default).bind λc=>(if (((!b)||(!c))||(decide ((a.Xb.length:Int)>10)))=true then (some false) else (Qr (λ(s0:Int)=>((if (decide (s0<(a.Xb.length:Int)))=true then (idx a.Xb s0).bind λd=>(QfX d).bind λe=>(if (!e)=true then (some (.inr (.inr false))) else (some (.inl (i64.wrap (s0+1))))) else (some (.inr (.inl ())))):Option ((Int)⊕((Unit)⊕(Bool))))) (0:Int)).bind λf=>(match f with | .inl _=>(some true) | .inr g=>(some g)))
instance QCr:Spc1 prog 145 QgM (λc=>[Qq.ty c]) tb:=.mk λ{c r} h=>by
 unfold QgM at h
 refine Fe func145 ntmps145 λs M i a=>?_
 refine Qa 2 ?_
 have⟨_,_,_,_,h⟩:=bs2 h
 refine tIfs h 786432 (λ_ h=>?_) λ_ h=>?_
 ·refine Qa 2 ?_
  exact Qp h (·▸Qn a)
 refine Qf λj k=>?_
 refine Qa 10 ?_
 have⟨d,h0,h⟩:=bs h
 have l:∀e,(.inl e)=d->To M i 36 [] [] j:=by
  intro e b;subst b;simp only at h;refine k <|Qa 2 ?_;exact Qp h (·▸Qn a)
 refine tJr (λf=>[(2,tb f)]) 1 (λ_=>[]) 0 (.inr ·=d) (λf b=>?_) λm=>?_
 ·subst b;simp only at h;obtain rfl:=sj h;exact Qn a
 refine Qk <|Qaf h0 (λs0=>[(3,ti s0)]) 385 (λs0=>[]) 0 6 ?_;clear h;intro s0 o t h g n;refine Qf λ_ p=>Qa 224 ?_;refine Qo h (λ_ h=>?_) λ_ h=>?_
 ·refine Qu <|p <|Qf λ_ q=>Qk ?_;have⟨_,_,_,_,h⟩:=bs2 h;refine Qa 1664 ?_;refine Qo h (λ_ h=>?_) λ_ h=>?_
  ·refine Qa 2 ?_;refine QaA ?_;exact Qx m (g _ (sj h).symm) 2
  refine Qu <|q <|QJ 40 ?_;exact Qx n ((sj h).symm) 6
 refine QQ <|Qx l (g _ (sj h).symm) 0
def Qa0 (a:Qe):Option (Str):=(QbZ a.Xi).bind λc=>Qcg.bind λj=>(idx j a.Xi).bind λb=>(cat (([10]:Str).length+b.length)).bind λ_=>(cat ((([10]:Str)++b).length+([32]:Str).length)).bind λ_=>(cat (((([10]:Str)++b)++([32]:Str)).length+a.Xj.length)).bind λ_=>((if c.2.1=true then (cat ((((([10]:Str)++b)++([32]:Str))++a.Xj).length+([32]:Str).length)).bind λ_=>(cat (((((([10]:Str)++b)++([32]:Str))++a.Xj)++([32]:Str)).length+a.Up.length)).bind λ_=>(some (((((([10]:Str)++b)++([32]:Str))++a.Xj)++([32]:Str))++a.Up)) else (some (((([10]:Str)++b)++([32]:Str))++a.Xj)))).bind λd=>((if c.1=true then (cat (d.length+([32]:Str).length)).bind λ_=>(QeT a.Of).bind λe=>(cat ((d++([32]:Str)).length+e.length)).bind λ_=>(some ((d++([32]:Str))++e)) else (some d))).bind λf=>((if c.2.2.1=true then (QbS f a.Lo).bind λk=>(some k) else (some f))).bind λg=>((if c.2.2.2.1=true then (QbS g a.Hi).bind λl=>(some l) else (some g))).bind λh=>((if c.2.2.2.2=true then (QbS h (a.Words.length:Int)).bind λm=>(Qr (λ(s0:Int×Str)=>(if (decide (s0.1<(a.Words.length:Int)))=true then (cat (s0.2.length+([32]:Str).length)).bind λ_=>(idx a.Words s0.1).bind λi=>(cat ((s0.2++([32]:Str)).length+i.length)).bind λ_=>(idx a.Xf s0.1).bind λn=>(QbS ((s0.2++([32]:Str))++i) n).bind λo=>(some (.inl ((i64.wrap (s0.1+1)),o))) else (some (.inr s0.2)))) ((0:Int),m)).bind λp=>(some p) else (some h))).bind λq=>(some q)
instance QFM:Spc1 prog 177 Qa0 (λc=>[Qd.ty c]) (λr=>tv (.string (sB r))):=.mk λ{c r} h=>by
 unfold Qa0 at h
 refine Fe func177 ntmps177 λQ M d a=>?_
 refine Qa 2 ?_
 have⟨_,_,h⟩:=bs h
 refine Qa 64512 ?_
 have⟨_,_,_,_,_,_,_,_,h⟩:=bs4 h
 have⟨_,_,h⟩:=bs h
 refine Qa 260096 ?_
 refine Qf λq s=>?_
 refine Qa 494 ?_
 have⟨t,h0,h⟩:=bs h
 refine tJ0 [(8,tv (.string (sB t)))] 2081281 [] 0 q ?_ λe=>?_
 ·refine s ?_
  refine Qf λu v=>?_
  refine Qa 246 ?_
  have⟨w,f,h⟩:=bs h
  refine tJ0 [(8,tv (.string (sB w)))] 2081281 [] 0 u ?_ λg=>?_
  ·refine v ?_
   refine Qf λx y=>?_
   refine Qa 118 ?_
   have⟨z,i,h⟩:=bs h
   refine tJ0 [(8,tv (.string (sB z)))] 2081281 [] 0 x ?_ λj=>?_
   ·refine y ?_
    refine Qf λA B=>?_
    refine Qa 54 ?_
    have⟨C,k,h⟩:=bs h
    refine tJ0 [(8,tv (.string (sB C)))] 82433 [] 0 A ?_ λl=>?_
    ·refine B ?_
     refine Qf λm D=>?_
     refine Qa 22 ?_
     have⟨E,n,h⟩:=bs h
     have p:To M d 80 [(8,tv (.string (sB E)))] [] m:=by
      refine D <|Qa 4 ?_;exact Qp h (·▸Qn a)
     replace h:=n;clear n;refine Qo h (λ_ h=>?_) λ_ h=>?_
     ·have⟨_,_,h⟩:=bs h;refine Qa 320 ?_;refine Qa 14 ?_;have⟨F,H,h⟩:=bs h;have I:∀b,b=F->To M d 80 [(8,tv (.string (sB b)))] [] m:=by
       intro b K;subst K;obtain rfl:=sj h;exact QN p 2
      refine Qk <|Qaf H (λs0=>[(9,ti s0.1),(8,tv (.string (sB s0.2)))]) 65665 (λs0=>[]) 0 14 ?_;clear h;intro s0 o R h L N;refine Qf λ_ O=>Qa 480 ?_;refine Qo h (λ_ h=>?_) λ_ h=>?_
      ·refine Qu <|O <|Qf λ_ P=>Qk ?_;have⟨_,_,_,_,_,_,_,_,h⟩:=bs4 h;have⟨_,_,h⟩:=bs h;refine QJ 425984 ?_;refine P <|QJ 56 ?_;exact Qx N ((sj h).symm) 14
      refine QQ <|Qx I (L _ (sj h).symm) 8
     refine Qu ?_;obtain rfl:=sj h;exact QN p 4
    replace h:=k;clear k;refine Qo h (λ_ h=>?_) λ_ h=>?_
    ·have⟨_,_,h⟩:=bs h;refine QJ 416 ?_;obtain rfl:=sj h;exact QN l 14
    refine Qu ?_;obtain rfl:=sj h;exact QN l 28
   replace h:=i;clear i;refine Qo h (λ_ h=>?_) λ_ h=>?_
   ·have⟨_,_,h⟩:=bs h;refine QJ 928 ?_;obtain rfl:=sj h;exact QN j 30
   refine Qu ?_;obtain rfl:=sj h;exact QN j 60
  replace h:=f;clear f;refine Qo h (λ_ h=>?_) λ_ h=>?_
  ·have⟨_,_,_,_,_,_,h⟩:=bs3 h;refine QJ 7808 ?_;obtain rfl:=sj h;exact QN g 62
  refine Qu ?_;obtain rfl:=sj h;exact QN g 124
 replace h:=h0;clear h0;refine Qo h (λ_ h=>?_) λ_ h=>?_
 ·have⟨_,_,_,_,h⟩:=bs2 h;refine QJ 8000 ?_;obtain rfl:=sj h;exact QN e 126
 refine Qu ?_;obtain rfl:=sj h;exact QN e 252
def QgP (e:Qc):Option (Str):=(QbS ([115,99,104,101,109,97]:Str) e.Version).bind λs=>(Qr (λ(s0:Int×Str)=>(if (decide (s0.1<(e.Xa.length:Int)))=true then (idx e.Xa s0.1).bind λi=>(cat (s0.2.length+([10,107,105,110,100,32]:Str).length)).bind λ_=>(cat ((s0.2++([10,107,105,110,100,32]:Str)).length+i.Xj.length)).bind λ_=>(QbS ((s0.2++([10,107,105,110,100,32]:Str))++i.Xj) i.Lo).bind λt=>(QbS t i.Hi).bind λu=>(Qr (λ(j:Int×Str)=>(if (decide (j.1<(i.Xb.length:Int)))=true then (idx i.Xb j.1).bind λv=>(Qa0 v).bind λp=>(cat (j.2.length+p.length)).bind λ_=>(some (.inl ((i64.wrap (j.1+1)),(j.2++p)))) else (some (.inr j.2)))) ((0:Int),u)).bind λw=>(some (.inl ((i64.wrap (s0.1+1)),w))) else (some (.inr s0.2)))) ((0:Int),s)).bind λx=>(Qr (λ(f:Int×Str)=>(if (decide (f.1<(e.Xd.length:Int)))=true then (idx e.Xd f.1).bind λd=>(cat (f.2.length+([10,108,105,102,101,32]:Str).length)).bind λ_=>(cat ((f.2++([10,108,105,102,101,32]:Str)).length+d.Xj.length)).bind λ_=>(QbS ((f.2++([10,108,105,102,101,32]:Str))++d.Xj) (d.Xe.length:Int)).bind λy=>(Qr (λ(g:Int×Str)=>(if (decide (g.1<(d.Xe.length:Int)))=true then (cat (g.2.length+([32]:Str).length)).bind λ_=>(idx d.Xe g.1).bind λq=>(cat ((g.2++([32]:Str)).length+q.length)).bind λ_=>(some (.inl ((i64.wrap (g.1+1)),((g.2++([32]:Str))++q)))) else (some (.inr g.2)))) ((0:Int),y)).bind λz=>(Qr (λ(h:Int×Str)=>(if (decide (h.1<(d.Xg.length:Int)))=true then (cat (h.2.length+([10,109,111,118,101]:Str).length)).bind λ_=>(idx d.Xg h.1).bind λA=>(QbS (h.2++([10,109,111,118,101]:Str)) A.a0).bind λl=>(idx d.Xg h.1).bind λm=>(QbS l m.a1).bind λn=>(some (.inl ((i64.wrap (h.1+1)),n))) else (some (.inr h.2)))) ((0:Int),z)).bind λB=>(some (.inl ((i64.wrap (f.1+1)),B))) else (some (.inr f.2)))) ((0:Int),x)).bind λC=>(Qr (λ(b:Int×Str)=>(if (decide (b.1<(e.Xc.length:Int)))=true then (idx e.Xc b.1).bind λa=>(cat (b.2.length+([10,114,117,108,101,32]:Str).length)).bind λ_=>(cat ((b.2++([10,114,117,108,101,32]:Str)).length+a.Xj.length)).bind λ_=>(cat (((b.2++([10,114,117,108,101,32]:Str))++a.Xj).length+([32]:Str).length)).bind λ_=>(cat ((((b.2++([10,114,117,108,101,32]:Str))++a.Xj)++([32]:Str)).length+a.Xi.length)).bind λ_=>(cat (((((b.2++([10,114,117,108,101,32]:Str))++a.Xj)++([32]:Str))++a.Xi).length+([32]:Str).length)).bind λ_=>(QeT a.A).bind λc=>(cat ((((((b.2++([10,114,117,108,101,32]:Str))++a.Xj)++([32]:Str))++a.Xi)++([32]:Str)).length+c.length)).bind λ_=>(cat (((((((b.2++([10,114,117,108,101,32]:Str))++a.Xj)++([32]:Str))++a.Xi)++([32]:Str))++c).length+([32]:Str).length)).bind λ_=>(QeT a.B).bind λk=>(cat ((((((((b.2++([10,114,117,108,101,32]:Str))++a.Xj)++([32]:Str))++a.Xi)++([32]:Str))++c)++([32]:Str)).length+k.length)).bind λ_=>(QbS ((((((((b.2++([10,114,117,108,101,32]:Str))++a.Xj)++([32]:Str))++a.Xi)++([32]:Str))++c)++([32]:Str))++k) a.N).bind λo=>(some (.inl ((i64.wrap (b.1+1)),o))) else (some (.inr b.2)))) ((0:Int),C)).bind λr=>(cat (r.length+([10]:Str).length)).bind λ_=>(some (r++([10]:Str)))
instance QCu:Spc1 prog 148 QgP (λz=>[Qb.ty z]) (λr=>tv (.string (sB r))):=.mk λ{z r} h=>by
 unfold QgP at h
 refine Fe func148 ntmps148 λM0 M F i=>?_
 refine Qa 2 ?_
 have⟨_,_,h⟩:=bs h
 refine Qa 48 ?_
 refine Qf λI K=>?_
 refine Qa 14 ?_
 have⟨L,h0,h⟩:=bs h
 refine tJp (λA=>[(3,tv (.string (sB A)))]) 513 (λ_=>[]) 0 I (·=L) (λA a=>?_) λN=>?_
 ·subst a
  refine K ?_
  refine Qf λO P=>?_
  refine Qa 14 ?_
  have⟨Q,R,h⟩:=bs h
  refine tJp (λB=>[(3,tv (.string (sB B)))]) 513 (λ_=>[]) 0 O (·=Q) (λB a=>?_) λS=>?_
  ·subst a
   refine P ?_
   refine Qf λT U=>?_
   refine Qa 14 ?_
   have⟨V,W,h⟩:=bs h
   have X:∀j,j=V->To M F 149 [(3,tv (.string (sB j)))] [] T:=by
    intro j a;subst a;refine U ?_;have⟨_,_,h⟩:=bs h;refine Qa 8 ?_;exact Qp h (·▸Qn i)
   refine Qk <|Qaf W (λs0=>[(11,ti s0.1),(3,tv (.string (sB s0.2)))]) 65665 (λs0=>[]) 0 14 ?_;clear h;intro s0 o K3 h b Y;refine Qf λ_ Z=>Qa 480 ?_;refine Qo h (λ_ h=>?_) λ_ h=>?_
   ·refine Qu <|Z <|Qf λ_ k5=>Qk ?_;have⟨t0,_,h⟩:=bs h;refine QU [v1 5 (λv0=>box (QV.cs zz3) v0),v1 5 (λv0=>box (QV.cs t0) v0)] [6,7] 1856 λm0=>?_;refine Q1 (λ_ _ H=>((H.Xl 0 rfl).add 0 rfl (λ_ _ _ h=>h.2)).pick [0,3,4,5]) ?_;have⟨_,_,_,_,_,_,_,_,h⟩:=bs4 h;have⟨_,_,_,_,_,_,_,_,h⟩:=bs4 h;have⟨_,_,_,_,_,_,h⟩:=bs3 h;refine QJ 109051904 ?_;refine k5 <|QJ 56 ?_;exact Qx Y ((sj h).symm) 14
   refine QQ <|Qx X (b _ (sj h).symm) 8
  refine Qk <|Qaf R (λc=>[(7,ti c.1),(3,tv (.string (sB c.2)))]) 65665 (λc=>[]) 0 14 ?_;clear h;intro c o K4 h b k6;refine Qf λ_ k7=>Qa 480 ?_;refine Qo h (λ_ h=>?_) λ_ h=>?_
  ·refine Qu <|k7 <|Qf λK5 k8=>Qk ?_;have⟨t1,_,h⟩:=bs h;refine QU [v1 5 (λv0=>box (Qs.cs zz2) v0),v1 5 (λv0=>box (Qs.cs t1) v0)] [6,7] 1856 λm1=>?_;refine Q1 (λ_ _ H=>((H.Xl 0 rfl).add 0 rfl (λ_ _ _ h=>h.2)).pick [0,3,4,5]) ?_;have⟨_,_,_,_,_,_,h⟩:=bs3 h;refine Qa 15360 ?_;refine Qf λK6 k9=>Qa 62 ?_;have⟨e6,h3,h⟩:=bs h;refine tJp (λC=>[(3,tv (.string (sB C)))]) 2081281 (λ_=>[]) 0 K6 (·=e6) (λC a=>?_) λJ3=>?_
   ·subst a;refine k9 <|Qa 62 ?_;have⟨e7,h4,h⟩:=bs h;refine tJp (λD=>[(3,tv (.string (sB D)))]) 98945 (λ_=>[]) 0 K5 (·=e7) (λD a=>?_) λJ4=>?_
    ·subst a;refine k8 <|QJ 56 ?_;exact Qx k6 ((sj h).symm) 14
    refine Qk <|Qaf h4 (λd=>[(10,ti d.1),(3,tv (.string (sB d.2)))]) 266403969 (λd=>[]) 0 62 ?_;clear h;intro d o K7 h b k;refine Qf λ_ l=>Qa 2016 ?_;refine Qo h (λ_ h=>?_) λ_ h=>?_
    ·refine Qu <|l <|Qf λ_ m=>Qk ?_;have⟨_,_,_,h5,_,_,h⟩:=bs3 h;replace h:=bk h5 h;have⟨_,_,h⟩:=bs h;refine QJ 7995392 ?_;refine m <|QJ 248 ?_;exact Qx k ((sj h).symm) 62
    refine QQ <|Qx J4 (b _ (sj h).symm) 104
   refine Qk <|Qaf h3 (λe=>[(9,ti e.1),(3,tv (.string (sB e.2)))]) 266403969 (λe=>[]) 0 62 ?_;clear h;intro e o K8 h b n;refine Qf λ_ p=>Qa 2016 ?_;refine Qo h (λ_ h=>?_) λ_ h=>?_
   ·refine Qu <|p <|Qf λ_ q=>Qk ?_;have⟨_,_,_,_,_,_,h⟩:=bs3 h;refine QJ 31232 ?_;refine q <|QJ 248 ?_;exact Qx n ((sj h).symm) 62
   refine QQ <|Qx J3 (b _ (sj h).symm) 120
  refine QQ <|Qx S (b _ (sj h).symm) 24
 refine Qk <|Qaf h0 (λf=>[(4,ti f.1),(3,tv (.string (sB f.2)))]) 65665 (λf=>[]) 0 14 ?_;clear h;intro f o K9 h b s;refine Qf λ_ t=>Qa 480 ?_;refine Qo h (λ_ h=>?_) λ_ h=>?_
 ·refine Qu <|t <|Qf λu v=>Qk ?_;have⟨t2,_,h⟩:=bs h;refine QU [v1 5 (λv0=>box (Qq.cs zz1) v0),v1 5 (λv0=>box (Qq.cs t2) v0)] [6,7] 1856 λm2=>?_;refine Q1 (λ_ _ H=>((H.Xl 0 rfl).add 0 rfl (λ_ _ _ h=>h.2)).pick [0,3,4,5]) ?_;have⟨_,_,_,_,_,_,_,_,h⟩:=bs4 h;refine Qa 61440 ?_;refine Qa 62 ?_;have⟨e8,h6,h⟩:=bs h;refine tJp (λE=>[(3,tv (.string (sB E)))]) 98945 (λ_=>[]) 0 u (·=e8) (λE a=>?_) λJ5=>?_
  ·subst a;refine v <|QJ 56 ?_;exact Qx s ((sj h).symm) 14
  refine Qk <|Qaf h6 (λg=>[(6,ti g.1),(3,tv (.string (sB g.2)))]) 266403969 (λg=>[]) 0 62 ?_;clear h;intro g o a0 h b w;refine Qf λ_ x=>Qa 2016 ?_;refine Qo h (λ_ h=>?_) λ_ h=>?_
  ·refine Qu <|x <|Qf λ_ y=>Qk ?_;have⟨_,_,_,_,_,_,h⟩:=bs3 h;refine QJ 31232 ?_;refine y <|QJ 248 ?_;exact Qx w ((sj h).symm) 62
  refine QQ <|Qx J5 (b _ (sj h).symm) 104
 refine QQ <|Qx N (b _ (sj h).symm) 24
def Qhb (g:Qc) (k:Int):Option ((List Int)×(List QH)):=(idx g.Xa k).bind λi=>(Qlj (some []:MpK Str Int) ([]:Str) (-1:Int)).bind λm=>(Qr (λ(s0:Int×List Int×MpK Str Int)=>(if (decide (s0.1<(i.Xb.length:Int)))=true then (idx i.Xb s0.1).bind λj=>((if ((j.Xi==2)||(j.Xi==4))=true then (Qlj s0.2.2 j.Xj (s0.2.1.length:Int)).bind λf=>(rm (s0.2.1.length+[s0.1].length)).bind λ_=>(some (f,(s0.2.1++[s0.1]))) else (some (s0.2.2,s0.2.1)))).bind λl=>(some (.inl ((i64.wrap (s0.1+1)),l.2,l.1))) else (some (.inr (s0.2.1,s0.2.2))))) ((0:Int),([]:List Int),m)).bind λb=>(Qr (λ(a:Int×List QH)=>(if (decide (a.1<(b.1.length:Int)))=true then (idx b.1 a.1).bind λn=>(idx i.Xb n).bind λe=>((if (e.Xi==4)=true then (some ((QbF b.2 e.Of).getD (0:Int))) else (some (-1:Int)))).bind λh=>(rm (a.2.length+[(QH.mk a.1 h e.Hi),(QH.mk h a.1 (i64.wrap (0 - e.Lo)))].length)).bind λ_=>(some (.inl ((i64.wrap (a.1+1)),(a.2++[(QH.mk a.1 h e.Hi),(QH.mk h a.1 (i64.wrap (0 - e.Lo)))])))) else (some (.inr a.2)))) ((0:Int),([]:List QH))).bind λo=>(Qr (λ(c:Int×List QH)=>(if (decide (c.1<(g.Xc.length:Int)))=true then (idx g.Xc c.1).bind λd=>(QcE g d.Xi).bind λp=>((if (p==k)=true then (rm (c.2.length+[(QH.mk ((QbF b.2 d.A).getD (0:Int)) ((QbF b.2 d.B).getD (0:Int)) d.N)].length)).bind λ_=>(some (c.2++[(QH.mk ((QbF b.2 d.A).getD (0:Int)) ((QbF b.2 d.B).getD (0:Int)) d.N)])) else (some c.2))).bind λq=>(some (.inl ((i64.wrap (c.1+1)),q))) else (some (.inr c.2)))) ((0:Int),o)).bind λr=>(some (b.1,r))
instance QFX:Spc2 prog 45 Qhb (λF I=>[Qb.ty F,ti I]) (λr=>ttup [tsl rI r.1,tsl Qah r.2]):=.mk λ{F I r} h=>by
 unfold Qhb at h
 refine Fe func45 ntmps45 λM0 M U v=>?_
 refine Qa 34 ?_
 have⟨V,_,h⟩:=bs h
 refine QU [v1 5 (λv0=>box (Qq.cs zz1) v0),v1 5 (λv0=>box (Qq.cs V) v0)] [6,7] 448 λm0=>?_
 refine Q1 (λ_ _ H=>((H.Xl 0 rfl).add 0 rfl (λ_ _ _ h=>h.2)).pick [0,3,4]) ?_
 refine Qa 30 ?_
 refine Q1 (λ_ _ H=>H.nil (rI) 3) ?_
 refine Qf λ_ W=>?_
 have⟨X,w,h⟩:=bs h
 refine QaG [v1 0 (λv0=>QaM rI (some []:MpK Str Int) v0),v1 0 (λv0=>QaM rI X v0)] [1,2] 254 (λt=>?_) (λ_=>by refine' rx (.m [] [1] rfl rfl rfl (Qly Str rI)) 0 ?_;refine' rx (.e [] [1] [2] rfl rfl rfl rfl (Qwb (i:=([]:Str)) trivial QpR (Qiy ud9) z0 .k .k w)) 2 ?_;exact rnn)
 refine W ?_
 refine Qf λY Z=>?_
 refine Qa 4092 ?_
 have⟨e3,h0,h⟩:=bs h
 refine tJq (λ_ d=>[(7,tv d)]) 266485895 (λe d=>[own rI 3 e.1 d,QaM rI e.2 (t 0)]) 129 Y (·=e3) (λe d k=>?_) λJ0=>?_
 ·subst k
  refine Z ?_
  refine Qa 126 ?_
  refine Q1 (λ_ _ H=>H.nil (Qah) 44) ?_
  refine Qf λK1 k2=>?_
  refine Qa 1022 ?_
  have⟨e4,h1,h⟩:=bs h
  refine tJq (λ_ l=>[(11,tv l)]) 2703344385 (λK l=>[own Qah 44 K l]) 65921 K1 (·=e4) (λK l k=>?_) λJ1=>?_
  ·subst k
   refine k2 ?_
   refine Qf λK2 k3=>?_
   refine Qa 1020 ?_
   have⟨e5,h2,h⟩:=bs h
   have J2:∀x y,x=e5->To M U 115 [(11,tv y),(7,tv d)] [own Qah 44 x y,own rI 3 e.1 d] K2:=by
    intro x y k;subst k;refine k3 <|Qa 126 ?_;refine QaA ?_;refine Qan (by intro _ _ H;exact ((H.Xk [1,0] rfl).Xn 2 rfl).pick [0,2,4,5]) ?_;refine Qan (by intro _ _ H;exact (H.Xn 2 rfl).pick [0,1]) ?_;obtain rfl:=sj h;exact Qn v
   refine Qk <|QaU h2 (λs0 f=>[(88,ti s0.1),(11,tv f)]) 4365299499394 (λs0 f=>[own Qah 44 s0.2 f]) 65921 l 510 ?_;clear h;intro s0 f o K3 h m k4;refine Qa 1022 ?_;refine Qf λ_ k5=>Qo h (λ_ h=>?_) λ_ h=>?_
   ·refine Qu <|k5 <|Qf λK4 k6=>Qk ?_;have⟨g,_,h⟩:=bs h;refine QU [v1 2 (λv0=>box (QV.cs zz3) v0),v1 2 (λv0=>box (QV.cs g) v0)] [3,4] 8168 λm2=>?_;refine Q1 (λ_ _ H=>(((H.Xk [3,0,1,2] rfl).Xl 0 rfl).add 0 rfl (λ_ _ _ h=>h.2)).pick [0,3,4,5,6,7,8,9,10]) ?_;have⟨_,_,h⟩:=bs h;refine Qa 65472 ?_;have⟨p3,L,h⟩:=bs h;refine tJ1 (λn=>[(11,tv n)]) 4365846921729 (λn=>[own Qah 44 p3 n]) 16899 K4 (λn=>?_) λN=>?_
    ·refine k6 <|QJ 1020 ?_;refine Qan (λ_ _ H=>(H.pick [2,3,0,1,4,5,6,7]).Xk [2,0,1] rfl) ?_;exact Q7 k4 n ((sj h).symm) 510
    replace h:=L;clear L;refine Qo h (λ_ h=>?_) λ_ h=>?_
    ·have⟨_,_,h⟩:=bs h;refine QaG [v1 13 (λv0=>own Qah 44 (s0.2++[(QH.mk ((QbF e.2 g.A).getD (0:Int)) ((QbF e.2 g.B).getD (0:Int)) g.N)]) v0)] [14] 33341508 (λm3=>?_) (λ_=>by refine' pr 4 ?_;refine' rx (.u [2] rfl rfl (Qnm (x0:=(0:Int)) (i:=g.A) trivial QpR (Qiy ud9) tok3 zok3 z2 z0)) 3 ?_;refine' rx (.u [2] rfl rfl (Qnm (x0:=(0:Int)) (i:=g.B) trivial QpR (Qiy ud9) tok3 zok3 z2 z0)) 6 ?_;exact rnn);obtain rfl:=sj h;exact QN (N (m3 13)) 4080
    refine Qu ?_;obtain rfl:=sj h;refine Qan (λ_ _ H=>(H.pick [5,2,3,4,6,7,8,9]).Xk [1,2,0] rfl) ?_;exact QN (N f) 510
   refine QQ <|Qan (λ_ _ H=>(H.pick [4,6]).Xk [0,1] rfl) ?_;exact Q7 J2 f (m _ (sj h).symm) 6
  refine Qk <|QaU h1 (λa p=>[(53,ti a.1),(11,tv p)]) 4365299499394 (λa p=>[own Qah 44 a.2 p]) 65921 (.slice none 0 0) 1022 ?_;clear h;intro a p o K5 h m k7;refine Qa 2046 ?_;refine Qf λ_ k8=>Qo h (λ_ h=>?_) λ_ h=>?_
  ·refine Qu <|k8 <|Qf λ_ k9=>Qk ?_;have⟨_,_,h⟩:=bs h;refine Qa 65456 ?_;have⟨u,_,h⟩:=bs h;refine QU [v1 5 (λv0=>box (Qd.cs zz0) v0),v1 5 (λv0=>box (Qd.cs u) v0)] [6,7] 261824 λm4=>?_;refine Q1 (λ_ _ H=>(((H.Xk [3,0,1,2] rfl).Xl 0 rfl).add 0 rfl (λ_ _ _ h=>h.2)).pick [0,3,4,5,6,7,8,9,10,11,12]) ?_;refine Qa 8190 ?_;refine Qf λK6 z=>Qa 65528 ?_;have⟨A,O,h⟩:=bs h;refine tJ0 [(15,ti A)] 2081281 [] 127 K6 ?_ λP=>?_
   ·refine z ?_;have⟨_,_,h⟩:=bs h;refine QaG [v1 13 (λv0=>own Qah 44 (a.2++[(QH.mk a.1 A u.Hi),(QH.mk A a.1 (i64.wrap (0 - u.Lo)))]) v0)] [14] 133742592 λm5=>?_;refine k9 <|QJ 4092 ?_;refine Qan (λ_ _ H=>(H.pick [3,4,0,2,5,6,7,8,9]).Xk [2,0,1] rfl) ?_;exact Q7 k7 (m5 13) ((sj h).symm) 1022
   replace h:=O;clear O;refine Qo h (λ_ h=>?_) λ_ h=>?_
   ·refine QJ 262050 ?_ (λ_=>by refine' pr 3 ?_;refine' rx (.u [2] rfl rfl (Qnm (x0:=(0:Int)) (i:=u.Of) trivial QpR (Qiy ud9) tok3 zok3 z2 z0)) 1 ?_;exact rnn);obtain rfl:=sj h;exact QN P 16380
   refine Qu ?_;obtain rfl:=sj h;exact QN P 16380
  refine QQ <|Q7 J1 p (m _ (sj h).symm) 1760
 refine Qk <|QaU h0 (λb j=>[(28,ti b.1),(7,tv j)]) 558861427687810 (λb j=>[own rI 3 b.2.1 j,QaM rI b.2.2 (t 0)]) 129 (.slice none 0 0) 1998 ?_;clear h;intro b j o K7 h m B;refine Qa 1022 ?_;refine Qf λ_ C=>Qo h (λ_ h=>?_) λ_ h=>?_
 ·refine Qu <|C <|Qf λK8 D=>Qk ?_;have⟨Q,_,h⟩:=bs h;refine QU [v1 3 (λv0=>box (Qd.cs zz0) v0),v1 3 (λv0=>box (Qd.cs Q) v0)] [4,6] 32688 λm6=>?_;refine Q1 (λ_ _ H=>(((H.Xk [2,0,1] rfl).Xl 0 rfl).add 0 rfl (λ_ _ _ h=>h.2)).pick [0,3,4,5,6,7,8,9,10,11]) ?_;refine Qa 524032 ?_;have⟨R,S,h⟩:=bs h;refine tJ1 (λq=>[(7,tv q)]) 558897666556545 (λq=>[QaM rI R.1 (t 0),own rI 3 R.2 q]) 129 K8 (λq=>?_) λT=>?_
  ·refine D <|QJ 1020 ?_;refine Qan (λ_ _ H=>(H.pick [2,3,0,4,1,5,6,7]).Xk [1,0] rfl) ?_;exact Q7 B q ((sj h).symm) 510
  replace h:=S;clear S;refine Qo h (λ_ h=>?_) λ_ h=>?_
  ·refine Qf λ_ E=>?_;have⟨s,c,h⟩:=bs h;refine QaG [v0 (QaM rI s (t 0))] [6] 130834 (λm7=>?_) (λ_=>by refine' pr 5 ?_;refine' rx (.e [] [1] [2] rfl rfl rfl rfl (Qkn (i:=Q.Xj) trivial QpR (Qiy ud9) z4 z2 z0 c)) 0 ?_;exact rnn);refine E ?_;have⟨_,_,h⟩:=bs h;refine QaG [v1 3 (λv0=>own rI 3 (b.2.1++[b.1]) v0)] [4] 65136 λm9=>?_;obtain rfl:=sj h;exact QN (T (m9 3)) 2036
  refine Qu ?_;obtain rfl:=sj h;refine Qan (λ_ _ H=>(H.pick [7,3,4,5,6,8,9,10]).Xk [1,0] rfl) ?_;exact QN (T j) 510
 refine QQ <|Q7 J0 j (m _ (sj h).symm) 992

/- typing.Check. No condition. -/
import Derived.Test.YtlajingmjmnfgaaGreatDoorCtA
set_option linter.all false
open List Go.IntKind
namespace Go.Proofs.YtlajingmjmnfgaaGreatDoor
open Go.Sim
def Qa5:List Qaf->Int
 | []=>0
 | f::r=>if f.is=true then f.code else Qa5 r
def Qg9 {l:List Qaf} (hl:l.length<=1000):Qax l=some (Qa5 l):=by
 have key:Ok (Qax l) (λr=>r=Qa5 l):=by
  unfold Qax;refine Ok.bind (P:=λe:Unit⊕Int=>(match e with | .inl _=>0 | .inr r=>r)=Qa5 l) (Ok.loop (λm s=>0<=s/\s+m=l.length/\Qa5 (l.drop s.toNat)=Qa5 l) l.length ⟨ZR _,by omega,by simp⟩ λm s hs=>?_) λe he=>by cases e<;>exact Ok.mk he
  obtain⟨h1,h2,h3⟩:=hs;obtain⟨k,rfl⟩:=Zy h1;rw[Zq] at h3;refine Ok.ite (λhk=>?_) (λhk=>?_)
  ·have hk':k<l.length:=by simpa using hk
   rw[QI hk'];simp only[Za];rw[Yl hk',Qa5] at h3;refine Ok.ite (λhi=>Ok.mk ?_) (λhi=>Ok.mk ⟨m - 1,by omega,?_⟩)
   ·rw[Zc hi] at h3;exact h3
   ·rw[Zd (by rw[hi];decide)] at h3;rw[Qw hk' (by omega)];exact⟨by omega,by omega,by rw[Zq];exact h3⟩
  ·have hk':¬k<l.length:=by simpa using hk
   rw[drop_of_length_le (by omega)] at h3;exact Ok.mk h3
 obtain⟨r,hr,rfl⟩:=key;exact hr
def topS (x:Qb) (k j:Int) (f:Qd):Qd×Bool:=
 if upIx x k j<0 then (QcA,false)
 else match idx x.Xa (upIx x k j) with
  | none=>(QcA,false)
  | some q=>match field? x (upIx x k j) (Q8 q f.Of) with | some g=>(g,true) | none=>(QcA,false)
def Qwd (g:Qd):Bool:=((((g.Xi==2)||(g.Xi==3))||(g.Xi==4))||(g.Xi==5))||(g.Xi==8)
def Qhy (x:Qb) (q:Qi) (k j:Int) (f:Qd):Int:=
 if f.Xi=0 then Qa5 [⟨decide (j>0),13⟩]
 else if f.Xi=1 then Qa5 [⟨decide (upIx x k j<0),12⟩]
 else if f.Xi=4 then Qa5 [⟨(f.Of !=[])&&(((decide (Q8 q f.Of<0))||(decide (Q8 q f.Of>=j)))||((match field? x k (Q8 q f.Of) with | some g=>(g,true) | none=>(QcA,false)).1.Xi !=4)),12⟩]
 else if f.Xi=5 then Qa5 [⟨!(x.Xd.any λl=>l.Xj==f.Of),12⟩]
 else if f.Xi=6 then Qa5 [⟨decide ((Qjx x k f).1<0),12⟩,⟨((Qjx x k f).2.length:Int) !=1,11⟩]
 else if f.Xi=7 then Qa5 [⟨decide (upIx x k j<0),12⟩,⟨((!(topS x k j f).2)||((topS x k j f).1.Xi !=6))||(QQ x (topS x k j f).1.Of !=k),13⟩]
 else if f.Xi=8 then Qa5 [⟨decide (upIx x k j<0),12⟩,⟨(!(topS x k j f).2)||(!Qwd (topS x k j f).1),13⟩]
 else 0
def QoQ (x:Qb) (k j:Int) (hk:0<=k):upIx x k j<k/\-1<=upIx x k j:=by
 have hr:∀g,Qhu x k g<k/\-1<=Qhu x k g:=λg=>by have:=Qid x g.Of;unfold Qhu;split<;>omega
 unfold upIx
 cases field? x k j with
 | none=>exact⟨by dsimp only;omega,by dsimp only;omega⟩
 | some f=>
  dsimp only;split
  ·split
   ·omega
   ·split
    ·split
     ·split
      ·exact hr _
      ·omega
     ·omega
    ·omega
  ·split
   ·exact hr _
   ·omega
def Qwe {x:Qb} {k j:Int} {f:Qd} (hx:Few x) (hk:0<=k) (hkl:k<x.Xa.length):Qc2 ⟨x,k,j,f⟩=some (topS x k j f):=by
 unfold Qc2 topS;rw[Qhv hx];simp only[Za];by_cases hu:upIx x k j<0
 ·rw[Zc (by simpa using hu),Zc hu];rfl
 ·rw[Zd (by simpa using hu),Zd hu];have h1:=QoQ x k j hk;obtain⟨q,hq,hqm⟩:=Qct (l:=x.Xa) (i:=upIx x k j) (by omega) (by omega);rw[hq];simp only[Za];rw[Qch (by have:=hx.2 q hqm;omega)];simp only[Za];rw[QkL];cases field? x (upIx x k j) (Q8 q f.Of)<;>rfl
def QoR {x:Qb} {k j:Int} {f:Qd} (hx:Few x):Qb7 ⟨x,k,j,f⟩=some (decide (upIx x k j<0)):=by unfold Qb7;rw[Qhv hx];rfl
def Qyg {x:Qb} {k j:Int} {q:Qi} {f:Qd} (hx:Few x) (hl:x.Xd.length<=1000) (hq:idx x.Xa k=some q) (hf:field? x k j=some f) (h:(QbE f.Xi).isSome=true):Qma (QbR.mk (QbE f.Xi)).check ⟨x,k,j,f⟩=some (Qhy x q k j f):=by
 obtain⟨q',hk,hj,hq',hqf,hqm,hkl,hjl⟩:=QbM hf;rw[hq] at hq';cases hq';have one:∀a,Qax [a]=some (Qa5 [a]):=λa=>Qg9 (by simp);have two:∀a b,Qax [a,b]=some (Qa5 [a,b]):=λa b=>Qg9 (by simp);unfold Qhy;dsimp only;by_cases c0:f.Xi=0
 ·rw[Zc c0,c0];show QdZ _=_;unfold QdZ;rw[one];rfl
 rw[Zd c0];by_cases c1:f.Xi=1
 ·rw[Zc c1,c1];show Qd0 _=_;unfold Qd0;rw[QoR hx];simp only[Za];rw[one];rfl
 rw[Zd c1];by_cases c4:f.Xi=4
 ·rw[Zc c4,c4];show Qd1 _=_;unfold Qd1;dsimp only;rw[hq];simp only[Za];rw[Qch (by have:=hx.2 q hqm;omega)];simp only[Za];rw[QkL];simp only[Za];rw[one];rfl
 rw[Zd c4];by_cases c5:f.Xi=5
 ·rw[Zc c5,c5];show Qd2 _=_;unfold Qd2;dsimp only;rw[Qjb (s:=x.Xd) (f:=λx0=>Qeq x0 ⟨x,k,j,f⟩) (p:=λl=>l.Xj==f.Of) (by omega) (λl _=>rfl)];simp only[Za];rw[one];rfl
 rw[Zd c5];by_cases c6:f.Xi=6
 ·rw[Zc c6];show Qma (QbE f.Xi) _=_;rw[c6];show Qd3 _=_;unfold Qd3;dsimp only;rw[QvZ hx hk];simp only[Za];rw[two];rfl
 rw[Zd c6];by_cases c7:f.Xi=7
 ·rw[Zc c7];show Qma (QbE f.Xi) _=_;rw[c7];show Qd4 _=_;unfold Qd4;rw[Qwe hx hk hkl,QoR hx];simp only[Za];rw[Qc8 (by have:=hx.1;omega)]
  cases hc:((!(topS x k j f).2)||((topS x k j f).1.Xi !=6)) with
  | true=>simp only[Sim.opt,Bool.true_or];show (Qax _).bind _=_;rw[two];rfl
  | false=>simp only[Sim.opt,beq_self_eq_true,if_true,Za];rw[two];rfl
 rw[Zd c7];by_cases c8:f.Xi=8
 ·rw[Zc c8];show Qma (QbE f.Xi) _=_;rw[c8];show Qd5 _=_;unfold Qd5;rw[Qwe hx hk hkl,QoR hx];simp only[Za];rw[two];rfl
 rw[QbE,Zd c0,Zd c1,Zd c4,Zd c5,Zd c6,Zd c7,Zd c8] at h;cases h
def Qyh {x:Qb} {k j:Int} {q:Qi} {f:Qd} (h:(QbE f.Xi).isSome=false):Qhy x q k j f=0:=by
 unfold Qhy;by_cases c0:f.Xi=0
 ·rw[c0] at h;cases h
 by_cases c1:f.Xi=1
 ·rw[c1] at h;cases h
 by_cases c4:f.Xi=4
 ·rw[c4] at h;cases h
 by_cases c5:f.Xi=5
 ·rw[c5] at h;cases h
 by_cases c6:f.Xi=6
 ·rw[c6] at h;cases h
 by_cases c7:f.Xi=7
 ·rw[c7] at h;cases h
 by_cases c8:f.Xi=8
 ·rw[c8] at h;cases h
 rw[Zd c0,Zd c1,Zd c4,Zd c5,Zd c6,Zd c7,Zd c8]
def Qhz (x:Qb) (i:Int) (q:Qi):Int:=Qa5 [⟨decide (QQ x q.Xj<i),7⟩,⟨((q.Xb.length:Int)==0)||((q.Xb.headD QcA).Xi !=0),11⟩]
def QBR {x:Qb} {i:Int} {q:Qi} (hx:Few x) (hq:idx x.Xa i=some q):Qf9 x i=some (Qhz x i q):=by
 unfold Qf9 Qhz;rw[hq];simp only[Za];rw[Qc8 (by have:=hx.1;omega)];simp only[Za]
 cases hf:q.Xb with
 | nil=>show (Qax _).bind _=_;rw[Qg9 (by simp)];rfl
 | cons f fs=>
  have e:(((f::fs).length:Int)==0)=false:=by simp;omega
  rw[e];simp only[Sim.opt,beq_self_eq_true,if_true];rw[show idx (f::fs) (0:Int)=some f from rfl];simp only[Za];rw[Qg9 (by simp)];rfl
def Qj8 (x:Qb) (k:Int) (n:Str):Qd×Bool:=match idx x.Xa k with | none=>(QcA,false) | some q=>match field? x k (Q8 q n) with | some g=>(g,true) | none=>(QcA,false)
def QcE (x:Qb) (k:Int) (n:Str):Bool:=!((n==[])||decide (k<0))&&!(Qj8 x k n).2
def QcN (x:Qb) (k:Int) (n:Str):Bool:=!((n==[])||decide (k<0))&&(((Qj8 x k n).1.Xi !=2)&&((Qj8 x k n).1.Xi !=4))
def QiB (x:Qb) (i:Nat) (r:Qp):Int:=Qa5 [⟨(x.Xc.take i).any λs=>s.Xj==r.Xj,7⟩,⟨(decide (QQ x r.Xi<0)||QcE x (QQ x r.Xi) r.A)||QcE x (QQ x r.Xi) r.B,12⟩,⟨QcN x (QQ x r.Xi) r.A||QcN x (QQ x r.Xi) r.B,13⟩,⟨r.A==r.B,1⟩]
def Qpr {β:Type} {x:Qb} {k:Int} {n:Str} {a b:Bool} (hx:Few x) (hk:k<x.Xa.length) (g:Bool×Bool->β):
  (if ((n==([]:Str))||(decide (k<0)))=true then some (g (a,b)) else (idx x.Xa k).bind λt53=>(QbA t53 n).bind λt56=>(Qdc x k t56).bind λt57=>some (g ((a||(!t57.2)),(b||((t57.1.Xi !=2)&&(t57.1.Xi !=4))))))=some (g (a||QcE x k n,b||QcN x k n)):=by
 unfold QcE QcN
 cases hc:((n==([]:Str))||(decide (k<0))) with
 | true=>rw[Zc rfl];simp
 | false=>rw[Zd (by decide)];simp only[Bool.or_eq_false_iff,ZJ] at hc;obtain⟨q,hq,hqm⟩:=Qct (l:=x.Xa) (i:=k) (by omega) hk;unfold Qj8;rw[hq];simp only[Za];rw[Qch (by have:=hx.2 q hqm;omega)];simp only[Za];rw[QkL];cases field? x k (Q8 q n)<;>simp
def QBS {x:Qb} {i:Nat} {r:Qp} (hx:Few x) (hl:x.Xc.length<=1000) (hi:i<x.Xc.length) (hr:x.Xc[i]?=some r):Qga x (i:Int)=some (QiB x i r):=by
 unfold Qga;rw[Qc6,hr];simp only[Za];have hs:Sim.sub x.Xc 0 (i:Int)=some (x.Xc.take i):=by unfold Sim.sub;rw[Zc ⟨by decide,by omega,by omega⟩];simp
 rw[hs];simp only[Za];rw[QlL (f:=λx0=>Qgy x0 r) (p:=λs=>s.Xj==r.Xj) (by rw[Yc];omega) (λs _=>rfl)];simp only[Za];rw[Qc8 (by have:=hx.1;omega)];simp only[Za];have hk:=(Qid x r.Xi).2
 let st:Nat->Int×Bool×Bool:=λn=>match n with
  | 0=>(0,decide (QQ x r.Xi<0),false)
  | 1=>(1,decide (QQ x r.Xi<0)||QcE x (QQ x r.Xi) r.A,false||QcN x (QQ x r.Xi) r.A)
  | _=>(2,(decide (QQ x r.Xi<0)||QcE x (QQ x r.Xi) r.A)||QcE x (QQ x r.Xi) r.B,(false||QcN x (QQ x r.Xi) r.A)||QcN x (QQ x r.Xi) r.B)
 refine Qb8 2 st ((st 2).2.1,(st 2).2.2) rfl (λn hn=>?_) rfl ?_
 ·have:n=0\/n=1:=by omega
  rcases this with rfl | rfl
  ·have h:=Qpr (x:=x) (k:=QQ x r.Xi) (n:=r.A) (a:=decide (QQ x r.Xi<0)) (b:=false) hx hk id;show (Option.bind (if _ then _ else _) _:Option _)=_;exact (Ya (λo=>Option.bind o (λp55:Bool×Bool=>some (Sum.inl ((i64.wrap ((0:Int)+(1:Int))),p55.1,p55.2)))) h:_)
  ·have h:=Qpr (x:=x) (k:=QQ x r.Xi) (n:=r.B) (a:=decide (QQ x r.Xi<0)||QcE x (QQ x r.Xi) r.A) (b:=false||QcN x (QQ x r.Xi) r.A) hx hk id;show (Option.bind (if _ then _ else _) _:Option _)=_;exact (Ya (λo=>Option.bind o (λp55:Bool×Bool=>some (Sum.inl ((i64.wrap ((1:Int)+(1:Int))),p55.1,p55.2)))) h:_)
 ·dsimp only;rw[Qg9 (by simp)];simp[st,QiB]
def Qca {β:Type} (n:Nat) (g:Nat->List β) (B:Nat) (hB:∀k,k<n->(g k).length<=B) (a0:List β) {body:Int×List β->Option ((Int×List β)⊕List β)}
  (hs:∀k,k<n->∀acc:List β,acc.length<=a0.length+k * B->body ((k:Int),acc)=some (.inl (((k+1:Nat):Int),acc++g k))) (he:∀acc,body ((n:Int),acc)=some (.inr acc)):
  Qm body ((0:Int),a0)=some (a0++(range n).flatMap g):=by
 have hlen:∀m,m<=n->((range m).flatMap g).length<=m * B:=λm=>by
  induction m with
  | zero=>intro _;simp
  | succ m ih=>intro hm;rw[ZX,ZF,Ze,Nat.succ_mul];have h1:=ih (by omega);have h2:=hB m (by omega);simp only[flatMap_cons,flatMap_nil,Yh];omega
 have h:=QbZ (body:=body) n (λm=>((m:Int),a0++(range m).flatMap g)) (a0++(range n).flatMap g) (λk hk=>?_) ?_
 ·simpa using h
 ·rw[hs k hk _ (by rw[Ze];have:=hlen k (by omega);omega),ZX,ZF];simp
 ·rw[he]
def prob (k j r e:Int):List QB:=if e=0 then [] else [⟨k,j,r,e⟩]
def Qha (k j r e:Int):(prob k j r e).length<=1:=by unfold prob;split<;>simp
def Qn8 {k j r e:Int} {l:List QB} (h:l.length<=1000000000):Qce k j r e l=some (l++prob k j r e):=by
 unfold Qce prob;by_cases he:e=0
 ·rw[Zd (by simp[he]),Zc he,Yh];rfl
 ·rw[Zc (by simpa using he),Zd he,QaT (by rw[length_singleton];omega)];rfl
def Qt0 (x:Qb) (i:Nat) (l:QC):Int:=Qa5 [⟨(x.Xd.take i).any λm=>m.Xj==l.Xj,7⟩]
def Qjc (x:Qb) (q:Qi) (k j:Int) (f:Qd):Int:=if Q8 q f.Xj<j then 7 else Qhy x q k j f
def QfZ (x:Qb) (i:Nat):List QB:=match x.Xd[i]? with | some l=>prob (-1) (i:Int) (-1) (Qt0 x i l) | none=>[]
def Qgr (x:Qb) (i:Nat) (q:Qi) (j:Nat):List QB:=match q.Xb[j]? with | some f=>prob (i:Int) (j:Int) (-1) (Qjc x q (i:Int) (j:Int) f) | none=>[]
def Qj9 (x:Qb) (i:Nat) (q:Qi):List QB:=(range q.Xb.length).flatMap (Qgr x i q)
def QeK (x:Qb) (i:Nat):List QB:=match x.Xa[i]? with | some q=>prob (i:Int) (-1) (-1) (Qhz x (i:Int) q)++Qj9 x i q | none=>[]
def QiC (x:Qb) (i:Nat):List QB:=match x.Xc[i]? with | some r=>prob (-1) (-1) (i:Int) (QiB x i r) | none=>[]
def QdF (x:Qb):List QB:=(range x.Xd.length).flatMap (QfZ x)
def Qgs (x:Qb):List QB:=(range x.Xa.length).flatMap (QeK x)
def Qwf (x:Qb):List QB:=(range x.Xc.length).flatMap (QiC x)
def Qjz (x:Qb) (i:Nat):(QfZ x i).length<=1:=by unfold QfZ;cases x.Xd[i]? with | none=>simp | some f=>exact Qha _ _ _ _
def QkO (x:Qb) (i:Nat) (q:Qi) (j:Nat):(Qgr x i q j).length<=1:=by unfold Qgr;cases q.Xb[j]? with | none=>simp | some f=>exact Qha _ _ _ _
def Qps (x:Qb) (i:Nat):(QiC x i).length<=1:=by unfold QiC;cases x.Xc[i]? with | none=>simp | some f=>exact Qha _ _ _ _
def QZ (x:Qb):List QB:=if QfI x=0 then QdF x++Qgs x++Qwf x else [⟨-1,-1,-1,QfI x⟩]
def Qa7 {β:Type} (n:Nat) (g:Nat->List β) (B:Nat) (hB:∀k,k<n->(g k).length<=B):((range n).flatMap g).length<=n * B:=by
 induction n with
 | zero=>simp
 | succ n ih=>rw[ZX,ZF,Ze,Nat.succ_mul];have h1:=ih λk hk=>hB k (by omega);have h2:=hB n (by omega);simp only[flatMap_cons,flatMap_nil,Yh];omega
structure Qb4 (x:Qb):Prop where
 few:Few x
 fine:Fine x
 lives:x.Xd.length<=1000
 rules:x.Xc.length<=1000
def Sz.short {x:Qb} (h:Sz x):Qb4 x:=⟨h.few,h.fine,by have:=h.2.1.1;omega,by have:=h.2.2.1;omega⟩
def QmK {x:Qb} {i:Nat} {q:Qi} (h:q.Xb.length<=1000):(Qj9 x i q).length<=1000:=by have:=Qa7 q.Xb.length (Qgr x i q) 1 (λj _=>QkO x i q j);unfold Qj9;omega
def Qrb {x:Qb} (h:Qb4 x):Qed x=some (QZ x):=by
 obtain⟨hx,hfine,hlv,hrl⟩:=h;unfold Qed;rw[Qyf hfine];simp only[Za];unfold QZ;by_cases hv:QfI x=0
 ·rw[Zd (by simp[hv]),Zc hv];have b1:(QdF x).length<=1000:=by
   have:=Qa7 x.Xd.length (QfZ x) 1 (λj _=>Qjz x j);unfold QdF;omega
  have kl:∀k,k<x.Xa.length->(QeK x k).length<=1001:=λk hk=>by unfold QeK;rw[Zb hk];dsimp only;have:=QmK (x:=x) (i:=k) (hx.2 _ (Zk hk));have:=Qha k (-1) (-1) (Qhz x k x.Xa[k]);rw[Ze];omega
  have b2:(Qgs x).length<=1001000:=by have:=Qa7 x.Xa.length _ 1001 kl;have:=hx.1;unfold Qgs;omega
  have hk1:=hx.1;rw[Qca x.Xd.length (QfZ x) 1 (λj _=>Qjz x j) [] (λk hk acc hacc=>?_) (λacc=>Zd (by simp))]
  ·rw[show ([]:List QB)++(range x.Xd.length).flatMap (QfZ x)=QdF x from rfl];simp only[Za];rw[Qca x.Xa.length (QeK x) 1001 kl (QdF x) (λk hk acc hacc=>?_) (λacc=>Zd (by simp))]
   ·rw[show QdF x++(range x.Xa.length).flatMap (QeK x)=QdF x++Qgs x from rfl];simp only[Za];rw[Qca x.Xc.length (QiC x) 1 (λj _=>Qps x j) (QdF x++Qgs x) (λk hk acc hacc=>?_) (λacc=>Zd (by simp))]
    ·rfl
    ·rw[Ze] at hacc;rw[Zc (by simpa using hk)];dsimp only;rw[QBS hx hrl hk (Zb hk)];simp only[Za];rw[Qn8 (by omega)];simp only[Za];unfold QiC;rw[Qw hk (by omega),Zb hk]
   ·have hq:=QI hk;have hqf:=hx.2 _ (Zk hk);rw[Zc (by simpa using hk)];dsimp only;rw[hq];simp only[Za];rw[QBR hx hq];simp only[Za];rw[Qn8 (by omega)];simp only[Za];have pl:=Qha k (-1) (-1) (Qhz x k x.Xa[k]);rw[Qca x.Xa[k].Xb.length (Qgr x k x.Xa[k]) 1 (λj _=>QkO x k _ j) _ (λj hj acc2 hacc2=>?_) (λacc=>Zd (by simp))]
    ·simp only[Za];unfold QeK;rw[Qw hk (by omega),Zb hk,ZA];rfl
    ·rw[Ze] at hacc2;rw[Zc (by simpa using hj)];dsimp only;rw[QI hj];simp only[Za];rw[Qch (by omega)];simp only[Za];rw[Qg9 (by simp)];simp only[Za];have hf:field? x (k:Int) (j:Int)=some x.Xa[k].Xb[j]:=Qgo (by omega) (by omega) hq (QI hj);have e:(if ((QbE x.Xa[k].Xb[j].Xi).isSome&&(Qa5 [⟨decide (Q8 x.Xa[k] x.Xa[k].Xb[j].Xj<(j:Int)),7⟩]==0))=true then (Qma (QbR.mk (QbE x.Xa[k].Xb[j].Xi)).check ⟨x,k,j,x.Xa[k].Xb[j]⟩).bind λt97=>some t97 else some (Qa5 [⟨decide (Q8 x.Xa[k] x.Xa[k].Xb[j].Xj<(j:Int)),7⟩]))=some (Qjc x x.Xa[k] k j x.Xa[k].Xb[j]):=by
      unfold Qjc;by_cases hd:Q8 x.Xa[k] x.Xa[k].Xb[j].Xj<(j:Int)
      ·rw[Zc hd,Zd (by simp[Qa5,hd])];simp[Qa5,hd]
      ·rw[Zd hd];have e0:Qa5 [⟨decide (Q8 x.Xa[k] x.Xa[k].Xb[j].Xj<(j:Int)),7⟩]=0:=by simp[Qa5,hd]
       rw[e0]
       cases hs:(QbE x.Xa[k].Xb[j].Xi).isSome with
       | true=>rw[Zc (by simp),Qyg hx hlv hq hf hs];rfl
       | false=>rw[Zd (by simp),Qyh hs]
     rw[e];simp only[Za];rw[Qn8 (by omega)];simp only[Za];unfold Qgr;rw[Qw hj (by omega),Zb hj]
  ·rw[Zl] at hacc;rw[Zc (by simpa using hk)];dsimp only;rw[QI hk];simp only[Za];have hs:Sim.sub x.Xd 0 (k:Int)=some (x.Xd.take k):=by
    unfold Sim.sub;rw[Zc ⟨by decide,by omega,by omega⟩];simp
   rw[hs];simp only[Za];rw[Qjb (f:=λx0=>QfW x0 x.Xd[k]) (p:=λm=>m.Xj==x.Xd[k].Xj) (by rw[Yc];omega) (λl _=>rfl)];simp only[Za];rw[Qg9 (by simp)];simp only[Za];rw[Qn8 (by omega)];simp only[Za];unfold QfZ;rw[Qw hk (by omega),Zb hk];rfl
 ·rw[Zc (by simpa using hv),Zd hv]
def out_or (n:Nat):((decide ((n:Int)<1))||(decide ((n:Int)>12)))=!inW (n:Int) 1 12:=by
 unfold inW;by_cases h1:(n:Int)<1
 ·rw[decide_eq_true h1,decide_eq_false (by omega:¬(n:Int)>=1)];rfl
 ·rw[decide_eq_false h1,decide_eq_true (by omega:(n:Int)>=1)];by_cases h2:(n:Int)>12
  ·rw[decide_eq_true h2,decide_eq_false (by omega:¬(n:Int)<=12)];rfl
  ·rw[decide_eq_false h2,decide_eq_true (by omega:(n:Int)<=12)];rfl
def Qif (s:Str):Qa4 s=some (Q3 s):=by
 unfold Qa4 Q3;rw[out_or]
 cases s with
 | nil=>rfl
 | cons c s=>
  cases h:inW ((c::s).length:Int) 1 12 with
  | false=>rfl
  | true=>
   have hl:=(Qb5 h).2;rw[show idx (c::s) (0:Int)=some c from rfl];simp only[Sim.opt,Bool.not_true,beq_self_eq_true,if_true,Za];rw[show Qee (c.toNat:Int)=some (QcQ (c.toNat:Int)) from rfl];simp only[Za]
   cases hc:QcQ (c.toNat:Int) with
   | false=>simp[hc]
   | true=>
    rw[Zd (by decide),QcM (c::s) (λb=>QcQ (b.toNat:Int)||QgV (b.toNat:Int)) false (λk hk=>?_) (Zd (by simp))]
    ·have e:(Q0 (c::s)).all (λc=>QcQ c||QgV c)=(c::s).all (λb=>QcQ (b.toNat:Int)||QgV (b.toNat:Int)):=by
      unfold Q0;rw[all_map];rfl
     rw[e];simp only[headD_cons,hc,Bool.true_and,Za];cases (c::s).all (λb=>QcQ (b.toNat:Int)||QgV (b.toNat:Int))<;>rfl
    ·rw[Zc (decide_eq_true (ZQ.2 hk)),QI hk];simp only[Za];rw[show Qee (((c::s)[k]).toNat:Int)=some (QcQ (((c::s)[k]).toNat:Int)) from rfl];simp only[Za];rw[Qw hk (by omega)]
     cases QcQ (((c::s)[k]).toNat:Int) with
     | true=>rfl
     | false=>simp only[Bool.not_false,beq_self_eq_true,if_true,Za,Bool.true_and,Bool.false_or];rw[show Qhp (((c::s)[k]).toNat:Int)=some (QgV (((c::s)[k]).toNat:Int)) from rfl];simp only[Za];cases QgV (((c::s)[k]).toNat:Int)<;>rfl
def Qrc {l:List Str} (hl:l.length<=1000000):QeY l=some (l.all Q3):=by
 unfold QeY;rw[QcM l Q3 false (λk hk=>?_) (Zd (by simp))]
 ·cases l.all Q3<;>rfl
 ·rw[Zc (by simpa using hk),QI hk];simp only[Za];rw[Qif];simp only[Za];rw[Qw hk (by omega)];cases Q3 l[k]<;>rfl
def Qyi {x:QC} (h1:x.Xe.length<=1000000) (h2:x.Xg.length<=1000000):QfD x=some (Qfn x):=by
 unfold QfD Qfn;rw[Qif];simp only[Za]
 cases Q3 x.Xj with
 | false=>rfl
 | true=>
  rw[show QaO (x.Xe.length:Int) 1 12=some (inW (x.Xe.length:Int) 1 12) from rfl];simp only[Sim.opt,Bool.not_true,beq_self_eq_true,if_true,Za,Bool.true_and,Bool.false_or]
  cases inW (x.Xe.length:Int) 1 12 with
  | false=>rfl
  | true=>
   rw[Qrc h1];simp only[Bool.not_true,beq_self_eq_true,if_true,Za,Bool.true_and,Bool.false_or]
   cases x.Xe.all Q3 with
   | false=>rfl
   | true=>
    by_cases hm:(x.Xg.length:Int)<=32
    ·rw[Zd (by simp;omega),decide_eq_true hm,QcM x.Xg (QhW (x.Xe.length:Int)) false (λk hk=>?_) (Zd (by simp))]
     ·simp only[Bool.true_and,Za];cases x.Xg.all (QhW (x.Xe.length:Int))<;>rfl
     ·rw[Zc (decide_eq_true (ZQ.2 hk)),QI hk,w64 (n:=(x.Xe.length:Int) - 1) (by omega) (by omega)];simp only[Za];rw[show QaO x.Xg[k].a0 0 ((x.Xe.length:Int) - 1)=some (inW x.Xg[k].a0 0 ((x.Xe.length:Int) - 1)) from rfl];simp only[Za];rw[Qw hk (by omega)];unfold QhW
      cases inW x.Xg[k].a0 0 ((x.Xe.length:Int) - 1) with
      | false=>rfl
      | true=>simp only[Bool.not_true,beq_self_eq_true,if_true,Za,Bool.true_and,Bool.false_or];rw[show QaO x.Xg[k].a1 0 ((x.Xe.length:Int) - 1)=some (inW x.Xg[k].a1 0 ((x.Xe.length:Int) - 1)) from rfl];simp only[Za];cases inW x.Xg[k].a1 0 ((x.Xe.length:Int) - 1)<;>rfl
    ·rw[Zc (by simp;omega),decide_eq_false hm];rfl
def Qyj (r:Qp):QfE r=some (QdK r):=by
 unfold QfE QdK;simp only[Qif];rw[show QaO r.N (-1048576) 1048576=some (inW r.N (-1048576) 1048576) from rfl];have ne:∀s:Str,(s !=([]:Str))=!(s==[]):=λs=>rfl;have ap:∀a b:Str,((a++b) !=([]:Str))=!((a==[])&&(b==[])):=λa b=>by cases a<;>cases b<;>rfl
 rw[ne,ne,ap];cases (r.A==[])<;>cases (r.B==[])<;>cases Q3 r.A<;>cases Q3 r.B<;>cases Q3 r.Xj<;>cases Q3 r.Xi<;>rfl
def Qyk {f:Qd} (hw:f.Words.length<=1000000) (hg:f.Xf.length<=1000000):QfB f=some (QiA f.Words f.Xf):=by
 rw[<-Qpo hw hg];unfold QfB Qc1;have e:(λs5:Int×Int=>((if (decide (s5.1<(f.Xf.length:Int)))=true then (idx f.Xf s5.1).bind λt15=>(QaO t15 (0:Int) (1048576:Int)).bind λt17=>(if (!t17)=true then (some (.inr (.inr false))) else (idx f.Xf s5.1).bind λt23=>(some (.inl ((i64.wrap (s5.1+(1:Int))),(i64.wrap (s5.2+t23)))))) else (some (.inr (.inl s5.2)))):Option ((Int×Int)⊕((Int)⊕(Bool)))))=
   λs5:Int×Int=>((if (decide (s5.1<(f.Xf.length:Int)))=true then (idx f.Xf s5.1).bind λt12=>(Qbb t12 (0:Int) (1048576:Int)).bind λt15=>(if (!t15)=true then (some (.inr (.inr false))) else (some (.inl ((i64.wrap (s5.1+(1:Int))),(i64.wrap (s5.2+t12)))))) else (some (.inr (.inl s5.2)))):Option ((Int×Int)⊕((Int)⊕(Bool)))):=by
  funext s
  split
  ·cases hi:idx f.Xf s.1 with
   | none=>rfl
   | some v=>rfl
  ·rfl
 rw[e];congr 1
 funext o
 cases o with
 | inr p=>rfl
 | inl p=>dsimp only;rw[Qrc hw,QlM (p:=Q3) hw (λs _=>Qfd s)];rfl
def QBT {w:List Str} {g:List Int} (hw:w.length<=1000000) (hg:g.length<=1000000):decide (i64.wrap ((w.length:Int)+(g.length:Int))>0)=!(decide (w=[])&&decide (g=[])):=by
 rw[w64 (by omega) (by omega)]
 cases w with
 | nil=>cases g with
  | nil=>rfl
  | cons b g=>simp
 | cons a w=>simp;omega
def Qwg {f:Qd} (hw:f.Words.length<=1000000) (hg:f.Xf.length<=1000000):QeZ f=some (QaG f):=by
 have e1:=QBT hw hg;have hp:=Qyk hw hg;unfold QeZ;rw[e1,hp];clear e1 hp hw hg;obtain⟨n,o,u,k,lo,hi,w,g⟩:=f;simp only[Qbr,Qif,Za];have ne:∀s:Str,(s !=([]:Str))=!(s==[]):=λs=>rfl;have ni:∀a:Int,(a !=0)=!(a==0):=λa=>rfl;by_cases k0:k=0
 ·subst k0;have e:QaG ⟨n,o,u,0,lo,hi,w,g⟩=((Q3 n&&(((((o==[])&&(u==[]))&&(hi==0))&&decide (w=[]))&&decide (g=[])))&&inW lo (-1048576) 1048576):=by
   unfold QaG QgD QgC QeJ;simp
  rw[e];simp only[ne,ni];cases Q3 n<;>cases (o==[])<;>cases (u==[])<;>cases (hi==0)<;>cases decide (w=[])<;>cases decide (g=[])<;>rfl
 by_cases k1:k=1
 ·subst k1;have e:QaG ⟨n,o,u,1,lo,hi,w,g⟩=((Q3 n&&(((u==[])&&decide (w=[]))&&decide (g=[])))&&(Q3 o&&Qet lo hi 0 65536)):=by
   unfold QaG QgD QgC QeJ;simp
  rw[e];simp only[ne,ni];cases Q3 n<;>cases (u==[])<;>cases decide (w=[])<;>cases decide (g=[])<;>cases Q3 o<;>rfl
 by_cases k2:k=2
 ·subst k2;have e:QaG ⟨n,o,u,2,lo,hi,w,g⟩=((Q3 n&&((((o==[])&&(u==[]))&&decide (w=[]))&&decide (g=[])))&&Qet lo hi (-1048576) 1048576):=by
   unfold QaG QgD QgC QeJ;simp
  rw[e];simp only[ne,ni];cases Q3 n<;>cases (o==[])<;>cases (u==[])<;>cases decide (w=[])<;>cases decide (g=[])<;>rfl
 by_cases k3:k=3
 ·subst k3;have e:QaG ⟨n,o,u,3,lo,hi,w,g⟩=((Q3 n&&((((o==[])&&(u==[]))&&(lo==0))&&(hi==0)))&&QiA w g):=by
   unfold QaG QgD QgC QeJ;simp
  rw[e];simp only[ne,ni];cases Q3 n<;>cases (o==[])<;>cases (u==[])<;>cases (lo==0)<;>cases (hi==0)<;>rfl
 by_cases k4:k=4
 ·subst k4;have e:QaG ⟨n,o,u,4,lo,hi,w,g⟩=((Q3 n&&(((u==[])&&decide (w=[]))&&decide (g=[])))&&(((o==[])||Q3 o)&&Qet lo hi (-1048576) 1048576)):=by
   unfold QaG QgD QgC QeJ;simp
  rw[e];simp only[ne,ni];cases Q3 n<;>cases (u==[])<;>cases decide (w=[])<;>cases decide (g=[])<;>cases Q3 o<;>cases (o==[])<;>rfl
 by_cases k5:k=5
 ·subst k5;have e:QaG ⟨n,o,u,5,lo,hi,w,g⟩=((Q3 n&&(((u==[])&&decide (w=[]))&&decide (g=[])))&&(Q3 o&&Qet lo hi 0 32)):=by
   unfold QaG QgD QgC QeJ;simp
  rw[e];simp only[ne,ni];cases Q3 n<;>cases (u==[])<;>cases decide (w=[])<;>cases decide (g=[])<;>cases Q3 o<;>rfl
 by_cases k6:k=6
 ·subst k6;have e:QaG ⟨n,o,u,6,lo,hi,w,g⟩=((Q3 n&&(((((u==[])&&(lo==0))&&(hi==0))&&decide (w=[]))&&decide (g=[])))&&Q3 o):=by
   unfold QaG QgD QgC QeJ;simp
  rw[e];simp only[ne,ni];cases Q3 n<;>cases (u==[])<;>cases (lo==0)<;>cases (hi==0)<;>cases decide (w=[])<;>cases decide (g=[])<;>cases Q3 o<;>rfl
 by_cases k7:k=7
 ·subst k7;have e:QaG ⟨n,o,u,7,lo,hi,w,g⟩=((Q3 n&&(decide (w=[])&&decide (g=[])))&&((Q3 o&&Q3 u)&&Qet lo hi 0 1048576)):=by
   unfold QaG QgD QgC QeJ;simp
  rw[e];simp only[ne,ni];cases Q3 n<;>cases decide (w=[])<;>cases decide (g=[])<;>cases Q3 o<;>cases Q3 u<;>rfl
 by_cases k8:k=8
 ·subst k8;have e:QaG ⟨n,o,u,8,lo,hi,w,g⟩=((Q3 n&&((((lo==0)&&(hi==0))&&decide (w=[]))&&decide (g=[])))&&(Q3 o&&Q3 u)):=by
   unfold QaG QgD QgC QeJ;simp
  rw[e];simp only[ne,ni];cases Q3 n<;>cases (lo==0)<;>cases (hi==0)<;>cases decide (w=[])<;>cases decide (g=[])<;>cases Q3 o<;>cases Q3 u<;>rfl
 have hr:((decide (k<0))||(decide (k>=9)))=true:=by simp;omega
 have e:QaG ⟨n,o,u,k,lo,hi,w,g⟩=false:=by unfold QaG QeJ;simp[k0,k1,k2,k3,k4,k5,k6,k7,k8]
 rw[e,hr];rfl
def Qyl {k:Qi} (h:QlN k.Xb):QfC k=some (Qdq k):=by
 unfold QfC Qdq;rw[Qif];simp only[Za]
 cases Q3 k.Xj with
 | false=>rfl
 | true=>
  rw[show Qdd k.Lo k.Hi 0 65536=some (Qet k.Lo k.Hi 0 65536) from rfl];simp only[Sim.opt,Bool.not_true,beq_self_eq_true,if_true,Za,Bool.true_and,Bool.false_or]
  cases Qet k.Lo k.Hi 0 65536 with
  | false=>rfl
  | true=>
   by_cases hm:(k.Xb.length:Int)<=10
   ·rw[Zd (by simp;omega),decide_eq_true hm,QcM k.Xb QaG false (λi hi=>?_) (Zd (by simp))]
    ·simp only[Bool.true_and,Za];cases k.Xb.all QaG<;>rfl
    ·have hf:=h.2 _ (Zk hi);have hl:=h.1;rw[Zc (decide_eq_true (ZQ.2 hi)),QI hi];simp only[Za];rw[Qwg hf.1 hf.2];simp only[Za];rw[Qw hi (by omega)];cases QaG k.Xb[i]<;>rfl
   ·rw[Zc (by simp;omega),decide_eq_false hm];rfl
def Qrd {u:Nat} (h:u<10):Qiy [u8.wrap (i64.wrap ((48:Int)+(u:Int)))]=[UInt8.ofNat (48+u)]:=by
 have:u=0\/u=1\/u=2\/u=3\/u=4\/u=5\/u=6\/u=7\/u=8\/u=9:=by omega
 rcases this with rfl | rfl | rfl | rfl | rfl | rfl | rfl | rfl | rfl | rfl<;>rfl
def decN:∀(k u:Nat),k<=1000000000000->u<10 ^ (k+1)->u<=1000000000->Qdp (k+1) (u:Int)=some (Lib.decDigits u)
 | k,u,hk,hu,hb=>by
  show QcL (Qdp k) (u:Int)=_;unfold QcL;rw[Zd (by simp)];rw[Lib.decDigits];by_cases h:u<10
  ·rw[Zc (by simp;omega),dif_pos h,Qrd h]
  ·rw[Zd (by simp;omega),dif_neg h]
   cases k with
   | zero=>simp at hu;omega
   | succ k=>
    have e1:i64.wrap (Int.tdiv (u:Int) 10)=((u / 10:Nat):Int):=by rw[Int.tdiv_eq_ediv_of_nonneg (by omega),w64 (by omega) (by omega)];rfl
    have e2:Int.tmod (u:Int) 10=((u % 10:Nat):Int):=by rw[Int.tmod_eq_emod_of_nonneg (by omega)];rfl
    rw[e1,e2,decN k (u / 10) (by omega) (by rw[Nat.pow_succ] at hu;omega) (by omega)];simp only[Za];rw[Qrd (by omega)];have hl:=Qhx 18 (u / 10) (by omega);have ec:cat ((Lib.decDigits (u / 10)).length+([UInt8.ofNat (48+u % 10)]:Str).length)=some ():=Zc (by rw[length_singleton];omega);rw[ec];rfl
def Qn9 (u:Nat):u<10 ^ (u+1):=by have h:u+1<10 ^ (u+1):=Nat.lt_pow_self (by decide);omega
def Qt1 {n:Int} (h:-1000000000<=n/\n<=1000000000):Qe0 n=some (Lib.itoa n):=by
 unfold Qe0 Lib.itoa;by_cases hn:n<0
 ·show QcL (Qdp (n.natAbs+1)) n=_;unfold QcL;have e:i64.wrap (0 - n)=(n.natAbs:Int):=by rw[w64 (by omega) (by omega)];omega
  rw[Zc (decide_eq_true hn),Zc hn,e,decN n.natAbs n.natAbs (by omega) (Qn9 _) (by omega)];simp only[Za];have hl:=Qhx 18 n.natAbs (by omega);have ec:cat (([45]:Str).length+(Lib.decDigits n.natAbs).length)=some ():=Zc (by rw[length_singleton];omega);rw[ec];rfl
 ·rw[Zd hn];have e:n=(n.toNat:Int):=by omega
  have e2:n.natAbs+2=(n.natAbs+1)+1:=rfl;rw[e2];have:=decN (n.natAbs+1) n.toNat (by omega) (ZK (Qn9 n.toNat) (Nat.pow_le_pow_right (by decide) (by omega))) (by omega);rw[<-e] at this;exact this
def Qah {n:Nat} (h:n<=1000000000000):cat n=some ():=Zc (by omega)
def QcB {s:Str} {n:Int} (hs:s.length<=100000000000) (h:-1000000000<=n/\n<=1000000000):Qbm s n=some (s++(32::Lib.itoa n)):=by have hl:=Qb9 (n:=n) (by unfold I64;omega);unfold Qbm;rw[Qah (by rw[length_singleton];omega)];simp only[Za];rw[Qt1 h];simp only[Za];rw[Qah (by rw[Ze,length_singleton];omega)];simp
def Qff (s:Str):Qd6 s=some (Qa2 s):=by
 unfold Qd6 Qa2;by_cases h:s=[]
 ·rw[Zc (by simp[h]),Zc h]
 ·rw[Zd (by simpa using h),Zd h]
def QkP {s:Str} (h:Q3 s=true):Qa2 s=s:=by unfold Qa2;rw[Zd];rintro rfl;cases h
def rLine0 {n o u:Str} {lo hi:Int} {w:List Str} {g:List Int} (hn:n.length<=12) (hlo:-1000000000<=lo/\lo<=1000000000):QaD ⟨n,o,u,0,lo,hi,w,g⟩=some (10::([107,101,121]++toks [.str n,.int lo])):=by unfold QaD Qbr QbB;simp only[Za];rw[show idx ([([107,101,121]:Str),([114,101,102]:Str),([110,117,109]:Str),([112,105,99,107]:Str),([100,97,121]:Str),([115,116,101,112]:Str),([115,117,109]:Str),([115,104,97,114,101]:Str),([99,111,112,121]:Str)]) (0:Int)=some [107,101,121] from rfl];simp only[Za];rw[Qah (by simp),Qah (by simp only[Ze,Zj,Zl];omega),Qah (by simp only[Ze,Zj,Zl];omega)];simp only[Za];rw[Zd (by decide)];simp only[Za];rw[Zd (by decide)];simp only[Za];have l1:=Qb9 (n:=lo) (by unfold I64;omega);rw[Zc (by decide),QcB (by simp only[Ze,Zj,Zl];omega) hlo];simp only[Za];rw[Zd (by decide)];simp only[Za];rw[Zd (by decide)];simp[toks,Qdr]
def rLine1 {n o u:Str} {lo hi:Int} {w:List Str} {g:List Int} (hn:n.length<=12) (ho:(Qa2 o).length<=12) (hlo:-1000000000<=lo/\lo<=1000000000) (hhi:-1000000000<=hi/\hi<=1000000000):QaD ⟨n,o,u,1,lo,hi,w,g⟩=some (10::([114,101,102]++toks [.str n,.str (Qa2 o),.int lo,.int hi])):=by unfold QaD Qbr QbB;simp only[Za];rw[show idx ([([107,101,121]:Str),([114,101,102]:Str),([110,117,109]:Str),([112,105,99,107]:Str),([100,97,121]:Str),([115,116,101,112]:Str),([115,117,109]:Str),([115,104,97,114,101]:Str),([99,111,112,121]:Str)]) (1:Int)=some [114,101,102] from rfl];simp only[Za];rw[Qah (by simp),Qah (by simp only[Ze,Zj,Zl];omega),Qah (by simp only[Ze,Zj,Zl];omega)];simp only[Za];rw[Zd (by decide)];simp only[Za];rw[Zc (by decide),Qah (by simp only[Ze,Zj,Zl];omega),Qff];simp only[Za];rw[Qah (by simp only[Ze,Zj,Zl];omega)];simp only[Za];have l1:=Qb9 (n:=lo) (by unfold I64;omega);rw[Zc (by decide),QcB (by simp only[Ze,Zj,Zl];omega) hlo];simp only[Za];rw[Zc (by decide),QcB (by simp only[Ze,Zj,Zl];omega) hhi];simp only[Za];rw[Zd (by decide)];simp[toks,Qdr]
def rLine2 {n o u:Str} {lo hi:Int} {w:List Str} {g:List Int} (hn:n.length<=12) (hlo:-1000000000<=lo/\lo<=1000000000) (hhi:-1000000000<=hi/\hi<=1000000000):QaD ⟨n,o,u,2,lo,hi,w,g⟩=some (10::([110,117,109]++toks [.str n,.int lo,.int hi])):=by unfold QaD Qbr QbB;simp only[Za];rw[show idx ([([107,101,121]:Str),([114,101,102]:Str),([110,117,109]:Str),([112,105,99,107]:Str),([100,97,121]:Str),([115,116,101,112]:Str),([115,117,109]:Str),([115,104,97,114,101]:Str),([99,111,112,121]:Str)]) (2:Int)=some [110,117,109] from rfl];simp only[Za];rw[Qah (by simp),Qah (by simp only[Ze,Zj,Zl];omega),Qah (by simp only[Ze,Zj,Zl];omega)];simp only[Za];rw[Zd (by decide)];simp only[Za];rw[Zd (by decide)];simp only[Za];have l1:=Qb9 (n:=lo) (by unfold I64;omega);rw[Zc (by decide),QcB (by simp only[Ze,Zj,Zl];omega) hlo];simp only[Za];rw[Zc (by decide),QcB (by simp only[Ze,Zj,Zl];omega) hhi];simp only[Za];rw[Zd (by decide)];simp[toks,Qdr]
def rLine4 {n o u:Str} {lo hi:Int} {w:List Str} {g:List Int} (hn:n.length<=12) (ho:(Qa2 o).length<=12) (hlo:-1000000000<=lo/\lo<=1000000000) (hhi:-1000000000<=hi/\hi<=1000000000):QaD ⟨n,o,u,4,lo,hi,w,g⟩=some (10::([100,97,121]++toks [.str n,.str (Qa2 o),.int lo,.int hi])):=by unfold QaD Qbr QbB;simp only[Za];rw[show idx ([([107,101,121]:Str),([114,101,102]:Str),([110,117,109]:Str),([112,105,99,107]:Str),([100,97,121]:Str),([115,116,101,112]:Str),([115,117,109]:Str),([115,104,97,114,101]:Str),([99,111,112,121]:Str)]) (4:Int)=some [100,97,121] from rfl];simp only[Za];rw[Qah (by simp),Qah (by simp only[Ze,Zj,Zl];omega),Qah (by simp only[Ze,Zj,Zl];omega)];simp only[Za];rw[Zd (by decide)];simp only[Za];rw[Zc (by decide),Qah (by simp only[Ze,Zj,Zl];omega),Qff];simp only[Za];rw[Qah (by simp only[Ze,Zj,Zl];omega)];simp only[Za];have l1:=Qb9 (n:=lo) (by unfold I64;omega);rw[Zc (by decide),QcB (by simp only[Ze,Zj,Zl];omega) hlo];simp only[Za];rw[Zc (by decide),QcB (by simp only[Ze,Zj,Zl];omega) hhi];simp only[Za];rw[Zd (by decide)];simp[toks,Qdr]
def rLine5 {n o u:Str} {lo hi:Int} {w:List Str} {g:List Int} (hn:n.length<=12) (ho:(Qa2 o).length<=12) (hlo:-1000000000<=lo/\lo<=1000000000) (hhi:-1000000000<=hi/\hi<=1000000000):QaD ⟨n,o,u,5,lo,hi,w,g⟩=some (10::([115,116,101,112]++toks [.str n,.str (Qa2 o),.int lo,.int hi])):=by unfold QaD Qbr QbB;simp only[Za];rw[show idx ([([107,101,121]:Str),([114,101,102]:Str),([110,117,109]:Str),([112,105,99,107]:Str),([100,97,121]:Str),([115,116,101,112]:Str),([115,117,109]:Str),([115,104,97,114,101]:Str),([99,111,112,121]:Str)]) (5:Int)=some [115,116,101,112] from rfl];simp only[Za];rw[Qah (by simp),Qah (by simp only[Ze,Zj,Zl];omega),Qah (by simp only[Ze,Zj,Zl];omega)];simp only[Za];rw[Zd (by decide)];simp only[Za];rw[Zc (by decide),Qah (by simp only[Ze,Zj,Zl];omega),Qff];simp only[Za];rw[Qah (by simp only[Ze,Zj,Zl];omega)];simp only[Za];have l1:=Qb9 (n:=lo) (by unfold I64;omega);rw[Zc (by decide),QcB (by simp only[Ze,Zj,Zl];omega) hlo];simp only[Za];rw[Zc (by decide),QcB (by simp only[Ze,Zj,Zl];omega) hhi];simp only[Za];rw[Zd (by decide)];simp[toks,Qdr]
def rLine6 {n o u:Str} {lo hi:Int} {w:List Str} {g:List Int} (hn:n.length<=12) (ho:(Qa2 o).length<=12) (hno:Qa2 o=o):QaD ⟨n,o,u,6,lo,hi,w,g⟩=some (10::([115,117,109]++toks [.str n,.str o])):=by unfold QaD Qbr QbB;simp only[Za];rw[show idx ([([107,101,121]:Str),([114,101,102]:Str),([110,117,109]:Str),([112,105,99,107]:Str),([100,97,121]:Str),([115,116,101,112]:Str),([115,117,109]:Str),([115,104,97,114,101]:Str),([99,111,112,121]:Str)]) (6:Int)=some [115,117,109] from rfl];simp only[Za];rw[Qah (by simp),Qah (by simp only[Ze,Zj,Zl];omega),Qah (by simp only[Ze,Zj,Zl];omega)];simp only[Za];rw[Zd (by decide)];simp only[Za];rw[Zc (by decide),Qah (by simp only[Ze,Zj,Zl];omega),Qff];simp only[Za];rw[Qah (by simp only[Ze,Zj,Zl];omega)];simp only[Za];rw[Zd (by decide)];simp only[Za];rw[Zd (by decide)];simp only[Za];rw[Zd (by decide)];simp[toks,Qdr,hno]
def rLine7 {n o u:Str} {lo hi:Int} {w:List Str} {g:List Int} (hn:n.length<=12) (hu:u.length<=12) (ho:(Qa2 o).length<=12) (hno:Qa2 o=o) (hlo:-1000000000<=lo/\lo<=1000000000) (hhi:-1000000000<=hi/\hi<=1000000000):QaD ⟨n,o,u,7,lo,hi,w,g⟩=some (10::([115,104,97,114,101]++toks [.str n,.str u,.str o,.int lo,.int hi])):=by unfold QaD Qbr QbB;simp only[Za];rw[show idx ([([107,101,121]:Str),([114,101,102]:Str),([110,117,109]:Str),([112,105,99,107]:Str),([100,97,121]:Str),([115,116,101,112]:Str),([115,117,109]:Str),([115,104,97,114,101]:Str),([99,111,112,121]:Str)]) (7:Int)=some [115,104,97,114,101] from rfl];simp only[Za];rw[Qah (by simp),Qah (by simp only[Ze,Zj,Zl];omega),Qah (by simp only[Ze,Zj,Zl];omega)];simp only[Za];rw[Zc (by decide),Qah (by simp only[Ze,Zj,Zl];omega),Qah (by simp only[Ze,Zj,Zl];omega)];simp only[Za];rw[Zc (by decide),Qah (by simp only[Ze,Zj,Zl];omega),Qff];simp only[Za];rw[Qah (by simp only[Ze,Zj,Zl];omega)];simp only[Za];have l1:=Qb9 (n:=lo) (by unfold I64;omega);rw[Zc (by decide),QcB (by simp only[Ze,Zj,Zl];omega) hlo];simp only[Za];rw[Zc (by decide),QcB (by simp only[Ze,Zj,Zl];omega) hhi];simp only[Za];rw[Zd (by decide)];simp[toks,Qdr,hno]
def rLine8 {n o u:Str} {lo hi:Int} {w:List Str} {g:List Int} (hn:n.length<=12) (hu:u.length<=12) (ho:(Qa2 o).length<=12) (hno:Qa2 o=o):QaD ⟨n,o,u,8,lo,hi,w,g⟩=some (10::([99,111,112,121]++toks [.str n,.str u,.str o])):=by unfold QaD Qbr QbB;simp only[Za];rw[show idx ([([107,101,121]:Str),([114,101,102]:Str),([110,117,109]:Str),([112,105,99,107]:Str),([100,97,121]:Str),([115,116,101,112]:Str),([115,117,109]:Str),([115,104,97,114,101]:Str),([99,111,112,121]:Str)]) (8:Int)=some [99,111,112,121] from rfl];simp only[Za];rw[Qah (by simp),Qah (by simp only[Ze,Zj,Zl];omega),Qah (by simp only[Ze,Zj,Zl];omega)];simp only[Za];rw[Zc (by decide),Qah (by simp only[Ze,Zj,Zl];omega),Qah (by simp only[Ze,Zj,Zl];omega)];simp only[Za];rw[Zc (by decide),Qah (by simp only[Ze,Zj,Zl];omega),Qff];simp only[Za];rw[Qah (by simp only[Ze,Zj,Zl];omega)];simp only[Za];rw[Zd (by decide)];simp only[Za];rw[Zd (by decide)];simp only[Za];rw[Zd (by decide)];simp[toks,Qdr,hno]
def Qmn (f:Qd):Str:=QkN f++toks (QaM f)
def Qt2 (l:List (Str×Int)):toks (l.flatMap λp=>[AnyV.str p.1,AnyV.int p.2])=l.flatMap λp=>(32::p.1)++(32::Lib.itoa p.2):=by
 induction l with
 | nil=>rfl
 | cons a l ih=>rw[flatMap_cons,flatMap_cons,<-ih];simp[toks,Qdr]
def rLine3 {n o u:Str} {lo hi:Int} {w:List Str} {g:List Int} (hn:n.length<=12) (hl:w.length=g.length) (h12:w.length<=12) (hw:∀s∈w,s.length<=12) (hg:∀x∈g,0<=x/\x<=1048576):
  QaD ⟨n,o,u,3,lo,hi,w,g⟩=some (10::([112,105,99,107]++toks ([.str n,.int (w.length:Int)]++(w.zip g).flatMap λp=>[.str p.1,.int p.2]))):=by
 have hz:(w.zip g).length=w.length:=by rw[length_zip];omega
 unfold QaD Qbr QbB;simp only[Za];rw[show idx ([([107,101,121]:Str),([114,101,102]:Str),([110,117,109]:Str),([112,105,99,107]:Str),([100,97,121]:Str),([115,116,101,112]:Str),([115,117,109]:Str),([115,104,97,114,101]:Str),([99,111,112,121]:Str)]) (3:Int)=some [112,105,99,107] from rfl];simp only[Za];rw[Qah (by simp),Qah (by simp only[Ze,Zj,Zl];omega),Qah (by simp only[Ze,Zj,Zl];omega)];simp only[Za];rw[Zd (by decide)];simp only[Za];rw[Zd (by decide)];simp only[Za];rw[Zd (by decide)];simp only[Za];rw[Zd (by decide)];simp only[Za];have l1:=Qb9 (n:=(w.length:Int)) (by unfold I64;omega);rw[Zc (by decide),QcB (by simp only[Ze,Zj,Zl];omega) (by omega)];simp only[Za];have lp:∀p∈w.zip g,p.1.length<=12/\0<=p.2/\p.2<=1048576/\(Lib.itoa p.2).length<=20:=λp hp=>by obtain⟨a,b⟩:=p;have h:=of_mem_zip hp;have h2:=hg b h.2;exact⟨hw a h.1,h2.1,h2.2,Qb9 (by unfold I64;dsimp only;omega)⟩
 rw[Qdy (w.zip g) (λp=>(32::p.1)++(32::Lib.itoa p.2)) 40 (λp hp=>?_) _ (λk hk acc hacc=>?_) (λacc=>?_)]
 ·simp only[Za];have e:∀a b:List AnyV,toks (a++b)=toks a++toks b:=λa b=>by unfold toks;rw[ZF]
  rw[e,Qt2];simp[toks,Qdr]
 ·have:=lp p hp;simp only[Ze,Zj];omega
 ·have hk':k<w.length:=by omega
  have hp:=lp _ (Zk hk);rw[getElem_zip] at hp ⊢;dsimp only at hp ⊢;simp only[Ze,Zj,Zl] at hacc;rw[Zc (decide_eq_true (ZQ.2 hk')),Qah (by rw[length_singleton];omega),QI hk',QI (show k<g.length by omega)];simp only[Za];rw[Qah (by rw[Ze,length_singleton];omega)];simp only[Za];rw[QcB (by rw[Ze,Ze,length_singleton];omega) (by omega),Qw hk' (by omega)];simp
 ·rw[hz,Zd (by simp)]
def Qym {f:Qd} (h:QaG f=true):QaD f=some (10::Qmn f):=by
 unfold QaG at h;simp only[Zi] at h;obtain⟨⟨hn,_⟩,hp⟩:=h;have hnl:=Qbw hn;obtain⟨n,o,u,k,lo,hi,w,g⟩:=f;have nl:∀{s:Str},Q3 s=true->(Qa2 s).length<=12:=λ{s} hs=>by rw[QkP hs];exact Qbw hs
 unfold QeJ at hp;dsimp only at hp hn hnl;by_cases c0:k=0
 ·subst c0;rw[Zc rfl] at hp;have:=Qb5 hp;rw[rLine0 hnl (by omega)];rfl
 rw[Zd c0] at hp;by_cases c1:k=1
 ·subst c1;rw[Zc rfl] at hp;simp only[Zi] at hp;have:=QcR hp.2;rw[rLine1 hnl (nl hp.1) (by omega) (by omega)];rfl
 rw[Zd c1] at hp;by_cases c2:k=2
 ·subst c2;rw[Zc rfl] at hp;have:=QcR hp;rw[rLine2 hnl (by omega) (by omega)];rfl
 rw[Zd c2] at hp;by_cases c3:k=3
 ·subst c3;rw[Zc rfl] at hp;simp only[QiA,Zi,ZH,ZW] at hp;obtain⟨hg,⟨⟨hw,hl⟩,_⟩,hws⟩:=hp;have hw':=(Qb5 hw).2;rw[rLine3 hnl (by omega) (by omega) (λs hs=>Qbw (hws s hs)) (λx hx=>Qb5 (hg x hx))];rfl
 rw[Zd c3] at hp;by_cases c4:k=4
 ·subst c4;rw[Zc rfl] at hp;simp only[Zi] at hp;have:=QcR hp.2;have ho:(Qa2 o).length<=12:=by
   by_cases hs:o=[]
   ·subst hs;decide
   ·exact nl (by simpa[hs] using hp.1)
  rw[rLine4 hnl ho (by omega) (by omega)];rfl
 rw[Zd c4] at hp;by_cases c5:k=5
 ·subst c5;rw[Zc rfl] at hp;simp only[Zi] at hp;have:=QcR hp.2;rw[rLine5 hnl (nl hp.1) (by omega) (by omega)];rfl
 rw[Zd c5] at hp;by_cases c6:k=6
 ·subst c6;rw[Zc rfl] at hp;rw[rLine6 hnl (nl hp) (QkP hp)];rfl
 rw[Zd c6] at hp;by_cases c7:k=7
 ·subst c7;rw[Zc rfl] at hp;simp only[Zi] at hp;have:=QcR hp.2;rw[rLine7 hnl (Qbw hp.1.2) (nl hp.1.1) (QkP hp.1.1) (by omega) (by omega)];rfl
 rw[Zd c7] at hp;by_cases c8:k=8
 ·subst c8;rw[Zc rfl] at hp;simp only[Zi] at hp;rw[rLine8 hnl (Qbw hp.2) (nl hp.1) (QkP hp.1)];rfl
 rw[Zd c8] at hp;cases hp
def QiD (k:Qi):Str:=(10::([107,105,110,100]++toks [.str k.Xj,.int k.Lo,.int k.Hi]))++k.Xb.flatMap λf=>10::Qmn f
def Qoa (m:QR):Str:=10::([109,111,118,101]++toks [.int m.a0,.int m.a1])
def QjA (l:QC):Str:=(10::([108,105,102,101]++toks ([.str l.Xj,.int (l.Xe.length:Int)]++l.Xe.map .str)))++l.Xg.flatMap Qoa
def Qmo (r:Qp):Str:=10::([114,117,108,101]++toks (Qfe r))
def QhZ (x:Qb):Str:=[115,99,104,101,109,97]++(32::Lib.itoa x.Version)
def srcR (x:Qb):Str:=QhZ x++x.Xa.flatMap QiD++x.Xd.flatMap QjA++x.Xc.flatMap Qmo
def shift {α:Type} {l:List α} {g h:α->Str} (e:∀a∈l,[10]++g a=h a++[10]):[10]++l.flatMap g=l.flatMap h++[10]:=by
 induction l with
 | nil=>rfl
 | cons a l ih=>rw[flatMap_cons,flatMap_cons,<-ZA,e a Zn,ZA,ih λb hb=>e b (Zs _ hb),ZA]
def Qob (k:Qi):[10]++Qe5 k=QiD k++[10]:=by have:=shift (l:=k.Xb) (g:=Qeu) (h:=λf=>10::Qmn f) λf _=>rfl;unfold Qe5 QiD Qeb;rw[ZA _ [10],this];simp
def Qoc (l:QC):[10]++QfS l=QjA l++[10]:=by have:=shift (l:=l.Xg) (g:=Qhd) (h:=Qoa) λm _=>rfl;unfold QfS QjA Qeb;rw[ZA _ [10],this];simp
def Qwh (x:Qb):srcS x=srcR x++[10]:=by
 have e1:=shift (l:=x.Xa) (g:=Qe5) (h:=QiD) λk _=>Qob k;have e2:=shift (l:=x.Xd) (g:=QfS) (h:=QjA) λk _=>Qoc k;have e3:=shift (l:=x.Xc) (g:=QhN) (h:=Qmo) λk _=>rfl;have e0:Qeb [115,99,104,101,109,97] [.int x.Version]=QhZ x++[10]:=by simp[Qeb,QhZ,toks,Qdr]
 unfold srcS srcR;rw[e0,ZA (QhZ x),e1,<-ZA,ZA _ [10],e2,<-ZA,ZA _ [10],e3];simp
def Qig {a b:Str} (h:[10]++a=b++[10]):a.length=b.length:=by have:=Ya length h;simp only[Ze,Zj,Zl] at this;omega
def Qt3 {x:Qb} (h:Qe6 x):QfF x=some (srcR x++[10]):=by
 have hv:=h.version;have l0:(QhZ x).length<=30:=by have:=Qb9 (n:=x.Version) (by unfold I64;omega);unfold QhZ;simp only[Ze,Zj,Zl];omega
 have kl:∀k∈x.Xa,(QiD k).length<=50000:=λk hk=>by rw[<-Qig (Qob k)];exact QjM (h.kind k hk)
 have ll:∀k∈x.Xd,(QjA k).length<=20000:=λk hk=>by rw[<-Qig (Qoc k)];exact QhY (h.life k hk)
 have rl:∀k∈x.Xc,(Qmo k).length<=1000:=λk hk=>by have e:[10]++QhN k=Qmo k++[10]:=rfl;rw[<-Qig e];exact QjN (h.rule k hk)
 have lk:=Qgq kl;have ll':=Qgq ll;have lr:=Qgq rl;have nk:=h.kinds;have nl:=h.lives;have nr:=h.rules;unfold QfF;have e0:Qbm [115,99,104,101,109,97] x.Version=some (QhZ x):=QcB (by decide) (by omega);rw[e0];simp only[Za];rw[Qdy x.Xa QiD 50000 kl (QhZ x) (λk hk acc hacc=>?_) (λacc=>Zd (by simp))]
 ·simp only[Za];rw[Qdy x.Xd QjA 20000 ll (QhZ x++x.Xa.flatMap QiD) (λk hk acc hacc=>?_) (λacc=>Zd (by simp))]
  ·simp only[Za];rw[Qdy x.Xc Qmo 1000 rl (QhZ x++x.Xa.flatMap QiD++x.Xd.flatMap QjA) (λk hk acc hacc=>?_) (λacc=>Zd (by simp))]
   ·simp only[Za];rw[Qah (by simp only[Ze,Zj,Zl];omega)];rfl
   ·have hr:=h.rule _ (Zk hk);simp only[QdK,Zi] at hr;obtain⟨⟨⟨⟨⟨h1,h2⟩,h3⟩,h4⟩,_⟩,h5⟩:=hr;have hN:=Qb5 h5;have n1:=Qbw h1;have n2:=Qbw h2;have na:=QkM (QhM h3);have nb:=QkM (QhM h4);have na':(Qa2 x.Xc[k].A).length<=100:=na;have nb':(Qa2 x.Xc[k].B).length<=100:=nb;simp only[Ze] at hacc;rw[Zc (decide_eq_true (ZQ.2 hk))];dsimp only;rw[QI hk];simp only[Za];rw[Qff,Qff];simp only[Za];rw[Qah (by simp only[Zj,Zl];omega),Qah (by simp only[Ze,Zj,Zl];omega),
     Qah (by simp only[Ze,Zj,Zl];omega),Qah (by simp only[Ze,Zj,Zl];omega),
     Qah (by simp only[Ze,Zj,Zl];omega),Qah (by simp only[Ze,Zj,Zl];omega),
     Qah (by simp only[Ze,Zj,Zl];omega),Qah (by simp only[Ze,Zj,Zl];omega)]
    simp only[Za];rw[QcB (by simp only[Ze,Zj,Zl];omega) (by omega),Qw hk (by omega)];simp[Qmo,Qfe,toks,Qdr]
  ·have hl:=h.life _ (Zk hk);simp only[Qfn,Zi,ZH,Zo] at hl;obtain⟨⟨⟨⟨h1,h2⟩,h3⟩,h4⟩,h5⟩:=hl;have hS:=Qb5 h2;have n1:=Qbw h1;have l1:=Qb9 (n:=(x.Xd[k].Xe.length:Int)) (by unfold I64;omega);simp only[Ze] at hacc;rw[Zc (decide_eq_true (ZQ.2 hk))];dsimp only;rw[QI hk];simp only[Za];rw[Qah (by simp only[Zj,Zl];omega),Qah (by simp only[Ze,Zj,Zl];omega)];simp only[Za];rw[QcB (by simp only[Ze,Zj,Zl];omega) (by omega)];simp only[Za];rw[Qdy x.Xd[k].Xe (λs=>32::s) 20 (λs hs=>by have:=Qbw (h3 s hs);rw[Zj];omega) _ (λq hq acc2 hacc2=>?_) (λacc=>Zd (by simp))]
   ·simp only[Za];have ls:=Qgq (l:=x.Xd[k].Xe) (g:=λs=>32::s) (B:=20) (λs hs=>by have:=Qbw (h3 s hs);rw[Zj];omega);rw[Qdy x.Xd[k].Xg Qoa 300 (λm hm=>?_) _ (λq hq acc2 hacc2=>?_) (λacc=>Zd (by simp))]
    ·simp only[Za];rw[Qw hk (by omega)];have e:(x.Xd[k].Xe.map AnyV.str).flatMap (λv=>32::Qdr v)=x.Xd[k].Xe.flatMap λs=>32::s:=by
      rw[flatMap_map];rfl
     simp[QjA,toks,Qdr,<-e]
    ·have e:[10]++Qhd m=Qoa m++[10]:=rfl;rw[<-Qig e];exact QhX (Qv9 (by omega) (h5 m hm))
    ·have hm:=h5 _ (Zk hq);simp only[QhW,Zi] at hm;have m1:=Qb5 hm.1;have m2:=Qb5 hm.2;have i1:=Qb9 (n:=x.Xd[k].Xg[q].a0) (by unfold I64;omega);simp only[Ze,Zj,Zl] at hacc2;rw[Zc (decide_eq_true (ZQ.2 hq))];dsimp only;rw[Qah (by simp only[Zj,Zl];omega),QI hq];simp only[Za];rw[QcB (by simp only[Ze,Zj,Zl];omega) (by omega)];simp only[Za];rw[QcB (by simp only[Ze,Zj,Zl];omega) (by omega),Qw hq (by omega)];simp[Qoa,toks,Qdr]
   ·have hs:=Qbw (h3 _ (Zk hq));simp only[Ze,Zj,Zl] at hacc2;rw[Zc (decide_eq_true (ZQ.2 hq))];dsimp only;rw[Qah (by simp only[Zj,Zl];omega),QI hq];simp only[Za];rw[Qah (by simp only[Ze,Zj,Zl];omega),Qw hq (by omega)];simp
 ·have hk':=h.kind _ (Zk hk);simp only[Qdq,Zi,ZH,Zo] at hk';obtain⟨⟨⟨h1,h2⟩,h3⟩,h4⟩:=hk';have hS:=QcR h2;have n1:=Qbw h1;have l1:=Qb9 (n:=x.Xa[k].Lo) (by unfold I64;omega);have l2:=Qb9 (n:=x.Xa[k].Hi) (by unfold I64;omega);rw[Zc (decide_eq_true (ZQ.2 hk))];dsimp only;rw[QI hk];simp only[Za];rw[Qah (by simp only[Zj,Zl];omega),Qah (by simp only[Ze,Zj,Zl];omega)];simp only[Za];rw[QcB (by simp only[Ze,Zj,Zl];omega) (by omega)];simp only[Za];rw[QcB (by simp only[Ze,Zj,Zl];omega) (by omega)];simp only[Za];have fl:∀f∈x.Xa[k].Xb,(10::Qmn f).length<=4000:=λf hf=>by
   have e:[10]++Qeu f=(10::Qmn f)++[10]:=rfl;rw[<-Qig e];exact Qg0 (Qie (h4 f hf))
  rw[Qdy x.Xa[k].Xb (λf=>10::Qmn f) 4000 fl _ (λq hq acc2 hacc2=>?_) (λacc=>Zd (by simp))]
  ·simp only[Za];rw[Qw hk (by omega)];simp[QiD,toks,Qdr]
  ·have hf:=fl _ (Zk hq);simp only[Ze,Zj,Zl] at hacc2;rw[Zc (decide_eq_true (ZQ.2 hq))];dsimp only;rw[QI hq];simp only[Za];rw[Qym (h4 _ (Zk hq))];simp only[Za];rw[Qah (by omega),Qw hq (by omega)];rfl
def Qwi {x:Qb} (h:Fine x):Qgd x=some (QfI x):=by
 obtain⟨⟨a1,a2⟩,⟨b1,b2⟩,c⟩:=h;have n1:∀(n:Nat) (m:Int),decide ((n:Int)>m)=!decide ((n:Int)<=m):=λn m=>by
  by_cases h:(n:Int)<=m
  ·rw[decide_eq_true h,decide_eq_false (by omega)];rfl
  ·rw[decide_eq_false h,decide_eq_true (by omega)];rfl
 unfold Qgd;rw[show QaO x.Version 0 1048576=some (inW x.Version 0 1048576) from rfl];simp only[Za];rw[n1,n1,n1,QcM x.Xa Qdq 1 (λk hk=>?_) (Zd (by simp)),QcM x.Xd Qfn 1 (λk hk=>?_) (Zd (by simp)),QcM x.Xc QdK 1 (λk hk=>?_) (Zd (by simp))]
 ·unfold QfI
  cases hv:QgW x with
  | true=>
   have hs:=Qt3 (Qjy hv);rw[<-Qwh] at hs;simp only[QgW,Zi] at hv;obtain⟨⟨⟨⟨⟨⟨h1,h2⟩,h3⟩,h4⟩,h5⟩,h6⟩,h7⟩:=hv;rw[h1,h2,h3,h4,h5,h6,h7,hs];simp only[Bool.not_true,Bool.or_self,if_true,Za];rw[Zd (by decide)];by_cases hl:(srcS x).length>8192
   ·rw[Zc (by simp;omega),Zc hl]
   ·rw[Zd (by simp;omega),Zd hl]
  | false=>
   show _=some (1:Int);unfold QgW at hv
   cases h1:inW x.Version 0 1048576<;>cases h2:decide ((x.Xa.length:Int)<=6)<;>cases h3:decide ((x.Xd.length:Int)<=6)<;>cases h4:decide ((x.Xc.length:Int)<=16)<;>
    cases h5:x.Xa.all Qdq<;>cases h6:x.Xd.all Qfn<;>cases h7:x.Xc.all QdK<;>first | rfl | (rw[h1,h2,h3,h4,h5,h6,h7] at hv;cases hv)
 ·rw[Zc (decide_eq_true (ZQ.2 hk)),QI hk];simp only[Za];rw[Qyj];simp only[Za];rw[Qw hk (by omega)];cases QdK x.Xc[k]<;>rfl
 ·have hl:=b2 _ (Zk hk);rw[Zc (decide_eq_true (ZQ.2 hk)),QI hk];simp only[Za];rw[Qyi hl.1 hl.2];simp only[Za];rw[Qw hk (by omega)];cases Qfn x.Xd[k]<;>rfl
 ·rw[Zc (decide_eq_true (ZQ.2 hk)),QI hk];simp only[Za];rw[Qyl (a2 _ (Zk hk))];simp only[Za];rw[Qw hk (by omega)];cases Qdq x.Xa[k]<;>rfl
def Qdz {x:Qb} {n:Str} (hx:x.Xa.length<=1000000):QbY x n=some (QQ x n):=by
 unfold QbY;rw[Qcq x.Xa (λk=>k.Xj==n) (λk hk=>?_) ?_]
 ·unfold QQ QaR;cases x.Xa.findIdx? _<;>rfl
 ·rw[Zd (by simp)]
 ·rw[Zc (by simpa using hk),QI hk,Qw hk (by omega)];rfl
def QcC {q:Qi} {n:Str} (hx:q.Xb.length<=1000000):Qbg q n=some (Q8 q n):=by
 unfold Qbg;rw[Qcq q.Xb (λk=>k.Xj==n) (λk hk=>?_) ?_]
 ·unfold Q8 QaR;cases q.Xb.findIdx? _<;>rfl
 ·rw[Zd (by simp)]
 ·rw[Zc (by simpa using hk),QI hk,Qw hk (by omega)];rfl
def has_is (x:Qb) (k j:Int):Qhq x k j=some (field? x k j).isSome:=by
 unfold Qhq;by_cases hc:(0<=k/\k<x.Xa.length)/\0<=j
 ·obtain⟨⟨h1,h2⟩,h3⟩:=hc;obtain⟨q,hq,_⟩:=Qct h1 h2;rw[Zd (by simp;omega),hq];show some (decide (j<(q.Xb.length:Int)))=_;by_cases h4:j<q.Xb.length
  ·obtain⟨f,hf,_⟩:=Qct h3 h4;rw[Qgo h1 h3 hq hf];simpa using h4
  ·cases h:field? x k j with
   | none=>simpa using h4
   | some f=>obtain⟨q',_,_,e1,e2,_,_,e3⟩:=QbM h;rw[hq] at e1;cases e1;exact (h4 e3).elim
 ·rw[Zc (by simp;omega)]
  cases h:field? x k j with
  | none=>rfl
  | some f=>obtain⟨q',e1,e2,_,_,_,e3,_⟩:=QbM h;exact (hc ⟨⟨e1,e3⟩,e2⟩).elim
def Qh0 {x:Qb} {k j:Int} (hx:Few x):Qfb x k j=some (upIx x k j):=by
 have fin:∀g:Qd,(if (g.Xi !=1)=true then some (-1) else (QbY x g.Of).bind λt62=>if decide (t62>=k)=true then some (-1) else some t62)=some (if g.Xi=1 then Qhu x k g else -1):=λg=>by
  by_cases hg:g.Xi=1
  ·rw[Zd (by simp[hg]),Zc hg,Qdz (by have:=hx.1;omega)];show (if decide (QQ x g.Of>=k)=true then some (-1) else some (QQ x g.Of))=_;unfold Qhu;by_cases hk:QQ x g.Of<k
   ·rw[Zd (by simp;omega),Zc hk]
   ·rw[Zc (by simp;omega),Zd hk]
  ·rw[Zc (by simp[hg]),Zd hg]
 unfold Qfb;rw[has_is];unfold upIx
 cases hf:field? x k j with
 | none=>rfl
 | some f=>
  obtain⟨q,hk,hj,hq,hqf,hqm,_,hjl⟩:=QbM hf;simp only[Za,Option.isSome_some,Bool.not_true];rw[Zd (by decide),hq];simp only[Za];rw[hqf];simp only[Za];unfold jn;dsimp only;by_cases c:f.Xi=7\/f.Xi=8
  ·rw[Zc (by simpa using c),Zc c];rw[QcC (by have:=hx.2 q hqm;omega)];simp only[Za];have hr:=Qc7 q.Xb λg=>g.Xj==f.Up;have hr1:-1<=Q8 q f.Up:=hr.1;have hr2:Q8 q f.Up<q.Xb.length:=hr.2;by_cases hu:0<=Q8 q f.Up/\Q8 q f.Up<j
   ·obtain⟨g,hg,_⟩:=Qct hu.1 hr2;rw[Zd (by simp;omega),Zc hu.2,Qgo hk hu.1 hq hg,hg];exact fin g
   ·rw[Zc (by simp;omega)];by_cases hu2:Q8 q f.Up<j
    ·rw[Zc hu2];have:field? x k (Q8 q f.Up)=none:=by
      cases hg:field? x k (Q8 q f.Up) with
      | none=>rfl
      | some g=>obtain⟨_,_,e,_⟩:=QbM hg;exact (hu ⟨e,hu2⟩).elim
     rw[this]
    ·rw[Zd hu2]
  ·rw[Zd (by simpa using c),Zd c];exact fin f
def QBU {x:Qb} {k j:Int} {f:Qd} (hx:Few x) (hf:field? x k j=some f):QgT x k j=some (Qjx x k f):=by
 obtain⟨q0,hk,hj,hq0,hqf,hqm0,_,hjl⟩:=QbM hf;unfold QgT;rw[hq0];simp only[Za];rw[hqf];simp only[Za];rw[Qdz (by have:=hx.1;omega)];simp only[Za];unfold Qjx;by_cases c:f.Xi≠6\/QQ x f.Of<=k
 ·rw[Zc (by simpa using c),Zc c]
 rw[Zd (by simpa using c),Zd c];have c':k<QQ x f.Of:=by
  rcases Int.lt_or_le k (QQ x f.Of) with h | h
  ·exact h
  ·exact (c (.inr h)).elim
 obtain⟨q,hq,hqm⟩:=Qct (l:=x.Xa) (i:=QQ x f.Of) (by omega) (Qid x f.Of).2;have hl:=hx.2 q hqm;rw[hq];simp only[Za];refine Qb8 q.Xb.length (λn=>((n:Int),((range n).filter (Qhw x (QQ x f.Of) k f.Xj q.Xb)).map Int.ofNat)) _ rfl (λn hn=>?_) (Zd (by simp)) ?_
 ·rw[Zc (by simpa using hn),QI hn];simp only[Za];rw[Qh0 hx];have e:Qhw x (QQ x f.Of) k f.Xj q.Xb n=(q.Xb[n].Xi==7&&q.Xb[n].Of==f.Xj&&upIx x (QQ x f.Of) (n:Int)==k):=by
   unfold Qhw;rw[Zb hn]
  have hle:=Qq7 (Qhw x (QQ x f.Of) k f.Xj q.Xb) n;rw[Qpn,e,Qw hn (by omega)]
  cases h0:(q.Xb[n].Xi==7) with
  | false=>rfl
  | true=>
   simp only[Sim.opt,Bool.true_and,if_true,beq_self_eq_true,Za]
   cases h1:(q.Xb[n].Of==f.Xj) with
   | false=>rfl
   | true=>
    simp only[Bool.true_and,if_true,beq_self_eq_true,Za]
    cases h2:upIx x (QQ x f.Of) (n:Int)==k with
    | false=>rfl
    | true=>rw[Zc rfl,Zc rfl,QaT (by rw[length_singleton];omega)];rfl
 ·unfold shl;rw[hq]
def Qpt {x:Qb} {k j:Int} (h:j<0):field? x k j=none:=by unfold field?;rw[Zd (by omega)]
def Qwj {x:Qb} {k j:Int} {f:Qd} (h:field? x k j=some f):∃q∈x.Xa,f∈q.Xb:=by obtain⟨q,_,hj,_,hf,hm,_⟩:=QbM h;rw[QgA _ hj] at hf;exact⟨q,hm,Zr hf⟩
def Qwk {x:Qb} {k j:Int} {q:Qi} {f:Qd} (hx:Few x) (hq:idx x.Xa k=some q) (hf:field? x k j=some f):
  Qgf x k j=some (if (topS x k j f).2=true then ((topS x k j f).1.Xi,(topS x k j f).1) else (-1,QcA)):=by
 obtain⟨q',hk,hj,hq',hqf,hqm,hkl,hjl⟩:=QbM hf;rw[hq] at hq';cases hq';unfold Qgf topS;rw[Qh0 hx];simp only[Za];by_cases hu:upIx x k j<0
 ·rw[Zc (by simpa using hu),Zc hu];rfl
 ·rw[Zd (by simpa using hu),Zd hu];have h1:=QoQ x k j hk;obtain⟨r,hr,hrm⟩:=Qct (l:=x.Xa) (i:=upIx x k j) (by omega) (by omega);rw[hr,hq];simp only[Za];rw[hqf];simp only[Za];rw[QcC (by have:=hx.2 r hrm;omega)];simp only[Za];have hrange:=Qc7 r.Xb λg=>g.Xj==f.Of;have hr2:Q8 r f.Of<r.Xb.length:=hrange.2;by_cases hi:Q8 r f.Of<0
  ·rw[Zc (by simpa using hi),Qpt hi];rfl
  ·rw[Zd (by simpa using hi)];obtain⟨g,hg,_⟩:=Qct (l:=r.Xb) (i:=Q8 r f.Of) (by omega) hr2;rw[Qgo (by omega) (by omega) hr hg,hg];rfl
def QBV {x:Qb} {k j:Int} {f:Qd} (h:(topS x k j f).2=true):∃q∈x.Xa,(topS x k j f).1∈q.Xb:=by
 unfold topS at h ⊢;split at h
 ·cases h
 ·rename_i hu;rw[Zd hu];split at h
  ·cases h
  ·rename_i q hq
   cases hf:field? x (upIx x k j) (Q8 q f.Of) with
   | none=>rw[hf] at h;cases h
   | some g=>exact Qwj hf
def Known (x:Qb):Prop:=∀q∈x.Xa,∀g∈q.Xb,0<=g.Xi/\g.Xi<=8
def Qsa {x:Qb} (h:QfI x=0):Known x:=by
 intro q hq g hg;unfold QfI at h;split at h
 ·rename_i hv;exact (Qie ((QbW ((Qjy hv).kind q hq)).2.2 g hg)).kind
 ·cases h
def Qod (a:Bool) (c:Int):Qa5 [⟨a,c⟩]=if a=true then c else 0:=rfl
def Qka (a b:Bool) (c d:Int):Qa5 [⟨a,c⟩,⟨b,d⟩]=if a=true then c else if b=true then d else 0:=rfl
def Qwl {x:Qb} {k j:Int} {q:Qi} {f:Qd} (hx:Few x) (hl:x.Xd.length<=1000) (hn:Known x) (hq:idx x.Xa k=some q) (hf:field? x k j=some f):Qgg x k j=some (Qhy x q k j f):=by
 obtain⟨q',hk,hj,hq',hqf,hqm,hkl,hjl⟩:=QbM hf;rw[hq] at hq';cases hq';have hab:=Qwk hx hq hf;have hkind:0<=f.Xi/\f.Xi<=8:=by rw[QgA _ hj] at hqf;exact hn q hqm f (Zr hqf)
 unfold Qgg;rw[hq];simp only[Za];rw[hqf];simp only[Za];rw[Qh0 hx,QcC (by have:=hx.2 q hqm;omega),QBU hx hf];simp only[Za];unfold jn;dsimp only;unfold Qhy;by_cases c0:f.Xi=0
 ·rw[Zc c0,Qod,c0];by_cases hj0:j>0
  ·rw[decide_eq_true hj0];rfl
  ·rw[decide_eq_false hj0];rfl
 have n0:(f.Xi==0)=false:=by simpa using c0
 rw[Zd c0,n0];simp only[Bool.false_and];rw[Zd (by decide),Zd (by decide)];by_cases c1:f.Xi=1
 ·rw[Zc c1,Qod,c1];show (if decide (upIx x k j<0)=true then some 12 else some 0)=_;by_cases hu:upIx x k j<0
  ·rw[Zc (by simpa using hu),Zc (by simpa using hu)]
  ·rw[Zd (by simpa using hu),Zd (by simpa using hu)]
 rw[Zd c1];by_cases c2:f.Xi=2
 ·rw[c2];rfl
 by_cases c3:f.Xi=3
 ·rw[c3];rfl
 have n1:(f.Xi==1)=false:=by simpa using c1
 have n2:(f.Xi==2)=false:=by simpa using c2
 have n3:(f.Xi==3)=false:=by simpa using c3
 rw[n1,n2,n3];simp only[ZB,if_false,Za];by_cases c4:f.Xi=4
 ·rw[Zc c4,Qod,Zc (by simp[c4])];by_cases ho:f.Of=[]
  ·rw[Zc (by simp[ho]),Zd (by simp[ho])]
  ·rw[Zd (by simpa using ho)];have ho':(f.Of !=[])=true:=by simpa using ho
   rw[ho',Bool.true_and];by_cases hr:Q8 q f.Of<0\/Q8 q f.Of>=j
   ·have:(decide (Q8 q f.Of<0)||decide (Q8 q f.Of>=j))=true:=by simpa using hr
    rw[this,Bool.true_or];rfl
   ·have e:(decide (Q8 q f.Of<0)||decide (Q8 q f.Of>=j))=false:=by
     rw[Bool.eq_false_iff];simpa using hr
    obtain⟨g,hg,_⟩:=Qct (l:=q.Xb) (i:=Q8 q f.Of) (by omega) (by omega);rw[e,Bool.false_or,Qgo hk (by omega) hq hg,hg];rw[Zd (by decide)];simp only[Za];cases g.Xi !=4<;>rfl
 have n4:(f.Xi==4)=false:=by simpa using c4
 rw[Zd c4,n4,Zd (by decide)];by_cases c5:f.Xi=5
 ·rw[Zc c5,Qod,Zc (by simp[c5]),QcM x.Xd (λl=>!(l.Xj==f.Of)) (0:Int) (λn hn=>?_) (Zd (by simp))]
  ·simp only[Za];have e:(x.Xd.all λl=>!(l.Xj==f.Of))=!(x.Xd.any λl=>l.Xj==f.Of):=by
    rw[not_any_eq_all_not]
   rw[e];cases (x.Xd.any λl=>l.Xj==f.Of)<;>rfl
  ·rw[Zc (decide_eq_true (ZQ.2 hn)),QI hn];simp only[Za];rw[Qw hn (by omega)];cases x.Xd[n].Xj==f.Of<;>rfl
 have n5:(f.Xi==5)=false:=by simpa using c5
 rw[Zd c5,n5,Zd (by decide)];by_cases c6:f.Xi=6
 ·rw[Zc c6,Qka,Zc (by simp[c6])];cases decide ((Qjx x k f).1<0)<;>cases ((Qjx x k f).2.length:Int) !=1<;>rfl
 have n6:(f.Xi==6)=false:=by simpa using c6
 rw[Zd c6,n6,Zd (by decide)];unfold Qhr;rw[hab,hq];simp only[Za];rw[hqf];simp only[Za];by_cases hu:upIx x k j<0
 ·rw[Zc (by simpa using hu)];by_cases c7:f.Xi=7
  ·rw[Zc c7,Qka,Zc (by simpa using hu)];rfl
  ·have c8:f.Xi=8:=by omega
   rw[Zd c7,Zc c8,Qka,Zc (by simpa using hu)];rfl
 rw[Zd (by simpa using hu)];have hud:decide (upIx x k j<0)=false:=by simpa using hu
 by_cases c7:f.Xi=7
 ·have e7:(f.Xi==7)=true:=by simp[c7]
  rw[Zc c7,Qka,hud,e7]
  cases ht:(topS x k j f).2 with
  | false=>rfl
  | true=>
   simp only[ZB,if_false,if_true];rw[Qdz (by have:=hx.1;omega)]
   cases h6:((topS x k j f).1.Xi !=6) with
   | true=>rfl
   | false=>simp only[Sim.opt,beq_self_eq_true,if_true,Za];cases QQ x (topS x k j f).1.Of !=k<;>rfl
 ·have c8:f.Xi=8:=by omega
  have n7:(f.Xi==7)=false:=by simpa using c7
  rw[Zd c7,Zc c8,Qka,hud,n7]
  cases ht:(topS x k j f).2 with
  | false=>rfl
  | true=>
   obtain⟨r,hr,hg⟩:=QBV ht;have hgk:=hn r hr _ hg;have hz:(topS x k j f).1.Xi=0\/(topS x k j f).1.Xi=1\/(topS x k j f).1.Xi=2\/(topS x k j f).1.Xi=3\/(topS x k j f).1.Xi=4\/(topS x k j f).1.Xi=5\/(topS x k j f).1.Xi=6\/(topS x k j f).1.Xi=7\/(topS x k j f).1.Xi=8:=by omega
   simp only[ZB,if_false,if_true];unfold Qwd;rcases hz with h | h | h | h | h | h | h | h | h<;>rw[h]<;>rfl
def toR (p:QB):QH:=⟨p.Xi,p.Field,p.Rule,p.Code⟩
def Qt4 {x:Qb} {k:Int} {q:Qi} {n:Str} (hk:0<=k) (hq:idx x.Xa k=some q) (hn:(n==([]:Str))=false):
  (QcE x k n=true/\Q8 q n<0)\/∃g,QcE x k n=false/\0<=Q8 q n/\idx q.Xb (Q8 q n)=some g/\QcN x k n=((g.Xi !=2)&&(g.Xi !=4)):=by
 have hd:decide (k<0)=false:=decide_eq_false (by omega);have hr2:Q8 q n<q.Xb.length:=(Qc7 q.Xb λg=>g.Xj==n).2;unfold QcE QcN Qj8;rw[hq,hn,hd];dsimp only;by_cases hi:Q8 q n<0
 ·rw[Qpt hi];exact .inl ⟨rfl,hi⟩
 ·obtain⟨g,hg,_⟩:=Qct (l:=q.Xb) (i:=Q8 q n) (by omega) hr2;rw[Qgo hk (by omega) hq hg];exact .inr ⟨g,rfl,by omega,hg,by simp⟩
def Qwm {x:Qb} {i:Nat} {r:Qp} (hx:Few x) (hl:x.Xc.length<=1000) (hi:i<x.Xc.length) (hr:x.Xc[i]?=some r):Qgh x (i:Int)=some (QiB x i r):=by
 unfold Qgh;rw[Qc6,hr];simp only[Za];have hil:(x.Xc.take i).length=i:=by rw[Yc];omega
 rw[QcM (x.Xc.take i) (λs=>!(s.Xj==r.Xj)) (7:Int) (λn hn=>?_) (by rw[hil];exact Zd (by simp))]
 ·simp only[Za];have e:((x.Xc.take i).all λs=>!(s.Xj==r.Xj))=!((x.Xc.take i).any λs=>s.Xj==r.Xj):=by
   rw[not_any_eq_all_not]
  rw[e];unfold QiB
  cases hany:((x.Xc.take i).any λs=>s.Xj==r.Xj) with
  | true=>rfl
  | false=>
   simp only[Bool.not_false,if_true];rw[Qdz (by have:=hx.1;omega)];simp only[Za];by_cases hk:QQ x r.Xi<0
   ·rw[Zc (by simpa using hk),decide_eq_true hk];rfl
   ·rw[Zd (by simpa using hk),decide_eq_false hk];obtain⟨q,hq,hqm⟩:=Qct (l:=x.Xa) (i:=QQ x r.Xi) (by omega) (Qid x r.Xi).2;rw[hq];unfold jn;dsimp only;have fin:∀{body:Int×Bool->Option ((Int×Bool)⊕(Bool⊕Int))},(∀b,body (0,b)=if QcE x (QQ x r.Xi) r.A=true then some (.inr (.inr 12)) else some (.inl (1,b||QcN x (QQ x r.Xi) r.A)))->
      (∀b,body (1,b)=if QcE x (QQ x r.Xi) r.B=true then some (.inr (.inr 12)) else some (.inl (2,b||QcN x (QQ x r.Xi) r.B)))->(∀b,body (2,b)=some (.inr (.inl b)))->
      Qm body (0,false)=some (if (QcE x (QQ x r.Xi) r.A||QcE x (QQ x r.Xi) r.B)=true then .inr 12 else .inl (QcN x (QQ x r.Xi) r.A||QcN x (QQ x r.Xi) r.B)):=λh0 h1 h2=>by
     rw[Qac,h0]
     cases QcE x (QQ x r.Xi) r.A with
     | true=>rfl
     | false=>
      rw[Zd (by decide)];dsimp only;rw[Qac,h1]
      cases QcE x (QQ x r.Xi) r.B with
      | true=>rfl
      | false=>rw[Zd (by decide)];dsimp only;rw[Qac,h2];simp
    have step:∀(n:Str) (b:Bool) (c:Bool->Option ((Int×Bool)⊕(Bool⊕Int))),(if (n==([]:Str))=true then c b else (Option.some q).bind λt55=>(Option.some n).bind λt59=>(Qbg t55 t59).bind λt61=>if decide (t61<0)=true then some (.inr (.inr 12)) else (Option.some q).bind λt67=>(idx t67.Xb t61).bind λt71=>c (b||((t71.Xi !=2)&&(t71.Xi !=4))))=
      if QcE x (QQ x r.Xi) n=true then some (.inr (.inr 12)) else c (b||QcN x (QQ x r.Xi) n):=λn b c=>by
     cases hn:(n==([]:Str)) with
     | true=>
      have hm:QcE x (QQ x r.Xi) n=false:=by unfold QcE;rw[hn];rfl
      have hw:QcN x (QQ x r.Xi) n=false:=by unfold QcN;rw[hn];rfl
      rw[hm,hw,Zc rfl,Zd (by decide),Bool.or_false]
     | false=>
      rw[Zd (by decide)];simp only[Za];rw[QcC (by have:=hx.2 q hqm;omega)];simp only[Za];rcases Qt4 (by omega) hq hn with⟨hm,hi⟩ | ⟨g,hm,hi,hg,hw⟩
      ·rw[hm,Zc (by simpa using hi),Zc rfl]
      ·rw[hm,hw,Zd (by simp;omega),Zd (by decide),hg];rfl
    rw[fin (λb=>(step r.A b λp=>some (.inl (1,p)))) (λb=>(step r.B b λp=>some (.inl (2,p)))) (λb=>rfl)];simp only[Za];cases QcE x (QQ x r.Xi) r.A<;>cases QcE x (QQ x r.Xi) r.B<;>cases QcN x (QQ x r.Xi) r.A<;>cases QcN x (QQ x r.Xi) r.B<;>cases (r.A==r.B)<;>rfl
 ·have hn':n<i:=by omega
  rw[Zc (decide_eq_true (ZQ.2 hn')),QI (show n<x.Xc.length by omega)];simp only[Za];rw[Qw hn' (by omega),getElem_take];cases x.Xc[n].Xj==r.Xj<;>rfl
def QhO {k j r e:Int} {l:List QH} (h:l.length<=1000000000):Qb2 l k j r e=some (l++(prob k j r e).map toR):=by
 unfold Qb2 prob;by_cases he:e=0
 ·rw[Zc (by simp[he]),Zc he,Yu,Yh]
 ·rw[Zd (by simpa using he),Zd he,QaT (by rw[length_singleton];omega)];rfl
def Qyn (l:List Qd):Qge l=some (!(((l.length:Int)==0)||((l.headD QcA).Xi !=0))):=by
 unfold Qge
 cases l with
 | nil=>rfl
 | cons f l=>
  have e:(((f::l).length:Int)==0)=false:=by simp;omega
  rw[e,show idx (f::l) (0:Int)=some f from rfl,Zd (by decide)];simp[bne]
def Qpu {x:Qb} (h:Qb4 x):Qe1 x=some ((QZ x).map toR):=by
 obtain⟨hx,hfine,hlv,hrl⟩:=h;unfold Qe1;rw[Qwi hfine];simp only[Za];unfold QZ;by_cases hv:QfI x=0
 ·rw[Zd (by simp[hv]),Zc hv];have hn:=Qsa hv;have one:∀k j r e,((prob k j r e).map toR).length<=1:=λk j r e=>by rw[Zv];exact Qha k j r e
  have b0:∀j,((QfZ x j).map toR).length<=1:=λj=>by rw[Zv];exact Qjz x j
  have b1:((QdF x).map toR).length<=1000:=by have:=Qa7 x.Xd.length (QfZ x) 1 (λj _=>Qjz x j);rw[Zv];unfold QdF;omega
  have kl:∀k,k<x.Xa.length->((QeK x k).map toR).length<=1001:=λk hk=>by rw[Zv];unfold QeK;rw[Zb hk];dsimp only;have:=QmK (x:=x) (i:=k) (hx.2 _ (Zk hk));have:=Qha k (-1) (-1) (Qhz x k x.Xa[k]);rw[Ze];omega
  have b2:((Qgs x).map toR).length<=1001000:=by have:=Qa7 x.Xa.length (λk=>(QeK x k).map toR) 1001 kl;have:=hx.1;unfold Qgs;rw[map_flatMap];omega
  have hk1:=hx.1;rw[Qca x.Xd.length (λk=>(QfZ x k).map toR) 1 (λj _=>b0 j) [] (λk hk acc hacc=>?_) (λacc=>Zd (by simp))]
  ·rw[show ([]:List QH)++(range x.Xd.length).flatMap (λk=>(QfZ x k).map toR)=(QdF x).map toR by unfold QdF;rw[map_flatMap];rfl];simp only[Za];rw[Qca x.Xa.length (λk=>(QeK x k).map toR) 1001 kl ((QdF x).map toR) (λk hk acc hacc=>?_) (λacc=>Zd (by simp))]
   ·rw[show (QdF x).map toR++(range x.Xa.length).flatMap (λk=>(QeK x k).map toR)=(QdF x).map toR++(Qgs x).map toR by unfold Qgs;rw[map_flatMap]];simp only[Za];rw[Qca x.Xc.length (λk=>(QiC x k).map toR) 1 (λj _=>by rw[Zv];exact Qps x j) ((QdF x).map toR++(Qgs x).map toR) (λk hk acc hacc=>?_) (λacc=>Zd (by simp))]
    ·simp only[Za];rw[ZT,ZT];unfold Qwf;rw[map_flatMap]
    ·rw[Ze] at hacc;rw[Zc (decide_eq_true (ZQ.2 hk))];dsimp only;rw[Qwm hx hrl hk (Zb hk)];simp only[Za];rw[QhO (by omega)];simp only[Za];unfold QiC;rw[Qw hk (by omega),Zb hk]
   ·have hq:=QI hk;have hqf:=hx.2 _ (Zk hk);rw[Zc (decide_eq_true (ZQ.2 hk))];dsimp only;rw[hq];simp only[Za];rw[Qdz (by omega),Qyn];simp only[Za];have ek:(if decide (QQ x x.Xa[k].Xj<(k:Int))=true then (Qb2 acc (k:Int) (-1) (-1) 7).bind λt70=>some t70 else (if (!!(((x.Xa[k].Xb.length:Int)==0)||((x.Xa[k].Xb.headD QcA).Xi !=0)))=true then (Qb2 acc (k:Int) (-1) (-1) 11).bind λt76=>some t76 else some acc).bind λp320=>some p320)=
      some (acc++(prob (k:Int) (-1) (-1) (Qhz x k x.Xa[k])).map toR):=by
     unfold Qhz;rw[Qka,QhO (by omega),QhO (by omega),Bool.not_not]
     cases decide (QQ x x.Xa[k].Xj<(k:Int)) with
     | true=>rfl
     | false=>
      cases (((x.Xa[k].Xb.length:Int)==0)||((x.Xa[k].Xb.headD QcA).Xi !=0)) with
      | true=>rfl
      | false=>simp[prob]
    rw[ek];simp only[Za];have pl:=one k (-1) (-1) (Qhz x k x.Xa[k]);rw[Qca x.Xa[k].Xb.length (λj=>(Qgr x k x.Xa[k] j).map toR) 1 (λj _=>by rw[Zv];exact QkO x k _ j) _ (λj hj acc2 hacc2=>?_) (λacc=>Zd (by simp))]
    ·simp only[Za];unfold QeK;rw[Qw hk (by omega),Zb hk,ZA,ZT];unfold Qj9;rw[map_flatMap]
    ·rw[Ze] at hacc2;rw[Zc (decide_eq_true (ZQ.2 hj))];dsimp only;rw[QI hj];simp only[Za];rw[QcC (by omega)];simp only[Za];have hf:field? x (k:Int) (j:Int)=some x.Xa[k].Xb[j]:=Qgo (by omega) (by omega) hq (QI hj);rw[Qwl hx hlv hn hq hf];simp only[Za];rw[QhO (by omega),QhO (by omega)];simp only[Za];unfold Qgr Qjc;rw[Qw hj (by omega),Zb hj];dsimp only;by_cases hd:Q8 x.Xa[k] x.Xa[k].Xb[j].Xj<(j:Int)
     ·rw[Zc (by simpa using hd),Zc hd];rfl
     ·rw[Zd (by simpa using hd),Zd hd];rfl
  ·rw[Zl] at hacc;rw[Zc (decide_eq_true (ZQ.2 hk))];dsimp only;rw[QhO (by omega)];simp only[Za];have hil:(x.Xd.take k).length=k:=by rw[Yc];omega
   have hget:∀n,n<k->∀h:n<x.Xd.length,(x.Xd.take k)[n]?=some x.Xd[n]:=λn hn h=>by rw[getElem?_take,Zc hn,Zb h]
   refine QlI k (λn=>match x.Xd[n]? with | some m=>m.Xj==x.Xd[k].Xj | none=>false) acc (λ_=>acc++(prob (-1) (k:Int) (-1) 7).map toR) (λn hn hp=>?_) (λn hn hp=>?_) (Zd (by simp)) (λhp=>?_) (λn hn hp=>?_)
   ·rw[Zb (show n<x.Xd.length by omega)] at hp;dsimp only at hp;rw[Zc (decide_eq_true (ZQ.2 hn)),QI (show n<x.Xd.length by omega),QI hk];simp only[Za];rw[hp,Zd (by decide),Qw hn (by omega)]
   ·rw[Zb (show n<x.Xd.length by omega)] at hp;dsimp only at hp;rw[Zc (decide_eq_true (ZQ.2 hn)),QI (show n<x.Xd.length by omega),QI hk];simp only[Za];rw[hp,Zc rfl]
   ·have e:((x.Xd.take k).any λm=>m.Xj==x.Xd[k].Xj)=false:=by
     rw[any_eq_false];intro m hm;obtain⟨n,hn,rfl⟩:=ZY hm;have h1:=hp n (by omega);rw[Zb (show n<x.Xd.length by omega)] at h1;dsimp only at h1;rw[getElem_take,h1];decide
    rw[Qw hk (by omega)];unfold QfZ Qt0;rw[Zb hk];dsimp only;rw[e];simp[Qa5,prob]
   ·have e:((x.Xd.take k).any λm=>m.Xj==x.Xd[k].Xj)=true:=by
     rw[Zb (show n<x.Xd.length by omega)] at hp;exact Yn.2 ⟨x.Xd[n],Zr (hget n hn (by omega)),hp⟩
    rw[Qw hk (by omega)];unfold QfZ Qt0;rw[Zb hk];dsimp only;rw[e];rfl
 ·rw[Zc (by simpa using hv),Zd hv,QhO (by simp)];unfold prob;rw[Zd hv];rfl

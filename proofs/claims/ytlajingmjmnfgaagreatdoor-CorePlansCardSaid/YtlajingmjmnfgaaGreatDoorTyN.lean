/- typing.Check: the error of a field, of a kind, of a rule, as plain functions. No condition. -/
import Derived.Test.YtlajingmjmnfgaaGreatDoorCtA
set_option linter.all false
open List Go.IntKind
namespace Go.Proofs.YtlajingmjmnfgaaGreatDoor
open Go.Sim
def QaZ:List Q6→Int
 | []=>0
 | f::r=>if f.is=true then f.code else QaZ r
def QgQ {l:List Q6} (hl:l.length≤1000):Qaw l=some (QaZ l):=by
 have key:Ok (Qaw l) (fun r=>r=QaZ l):=by
  unfold Qaw;refine Ok.bind (P:=fun e:Unit⊕Int=>(match e with | .inl _=>0 | .inr r=>r)=QaZ l) (Ok.loop (fun m s=>0≤s∧s+m=l.length∧QaZ (l.drop s.toNat)=QaZ l) l.length ⟨Zy _,by omega,by simp⟩ fun m s hs=>?_) fun e he=>by cases e<;>exact Ok.mk he
  obtain⟨h1,h2,h3⟩:=hs;obtain⟨k,rfl⟩:=Zw h1;rw[Zr] at h3;refine Ok.ite (fun hk=>?_) (fun hk=>?_)
  ·have hk':k<l.length:=by simpa using hk
   rw[QX hk'];simp only[Za];rw[Yk hk',QaZ] at h3;refine Ok.ite (fun hi=>Ok.mk ?_) (fun hi=>Ok.mk ⟨m - 1,by omega,?_⟩)
   ·rw[Zc hi] at h3;exact h3
   ·rw[Zd (by rw[hi];decide)] at h3;rw[QH hk' (by omega)];exact⟨by omega,by omega,by rw[Zr];exact h3⟩
  ·have hk':¬k<l.length:=by simpa using hk
   rw[drop_of_length_le (by omega)] at h3;exact Ok.mk h3
 obtain⟨r,hr,rfl⟩:=key;exact hr
def topS (x:Qa) (k j:Int) (f:Qc):Qc×Bool:=
 if upIx x k j<0 then (Qem,false)
 else match idx x.Kinds (upIx x k j) with
  | none=>(Qem,false)
  | some q=>match field? x (upIx x k j) (Qai q f.Of) with | some g=>(g,true) | none=>(Qem,false)
def QwQ (g:Qc):Bool:=((((g.Kind==2)||(g.Kind==3))||(g.Kind==4))||(g.Kind==5))||(g.Kind==8)
def Qhi (x:Qa) (q:Qg) (k j:Int) (f:Qc):Int:=
 if f.Kind=0 then QaZ [⟨decide (j>0),13⟩]
 else if f.Kind=1 then QaZ [⟨decide (upIx x k j<0),12⟩]
 else if f.Kind=4 then QaZ [⟨(f.Of !=[])&&(((decide (Qai q f.Of<0))||(decide (Qai q f.Of≥j)))||((match field? x k (Qai q f.Of) with | some g=>(g,true) | none=>(Qem,false)).1.Kind !=4)),12⟩]
 else if f.Kind=5 then QaZ [⟨!(x.Lives.any fun l=>l.Name==f.Of),12⟩]
 else if f.Kind=6 then QaZ [⟨decide ((Qmj x k f).1<0),12⟩,⟨((Qmj x k f).2.length:Int) !=1,11⟩]
 else if f.Kind=7 then QaZ [⟨decide (upIx x k j<0),12⟩,⟨((!(topS x k j f).2)||((topS x k j f).1.Kind !=6))||(Q9 x (topS x k j f).1.Of !=k),13⟩]
 else if f.Kind=8 then QaZ [⟨decide (upIx x k j<0),12⟩,⟨(!(topS x k j f).2)||(!QwQ (topS x k j f).1),13⟩]
 else 0
def Qtt (x:Qa) (k j:Int) (hk:0≤k):upIx x k j<k∧-1≤upIx x k j:=by
 have hr:∀g,QgF x k g<k∧-1≤QgF x k g:=fun g=>by have:=QlE x g.Of;unfold QgF;split<;>omega
 unfold upIx
 cases field? x k j with
 | none=>exact⟨by dsimp only;omega,by dsimp only;omega⟩
 | some f=>
  dsimp only;split
  ·split
   ·omega
   ·split
    ·split
     ·split
      ·exact hr _
      ·omega
     ·omega
    ·omega
  ·split
   ·exact hr _
   ·omega
def QwR {x:Qa} {k j:Int} {f:Qc} (hx:Few x) (hk:0≤k) (hkl:k<x.Kinds.length):QcV ⟨x,k,j,f⟩=some (topS x k j f):=by
 unfold QcV topS;rw[Qhg hx];simp only[Za];by_cases hu:upIx x k j<0
 ·rw[Zc (by simpa using hu),Zc hu];rfl
 ·rw[Zd (by simpa using hu),Zd hu];have h1:=Qtt x k j hk;obtain⟨q,hq,hqm⟩:=QhE (l:=x.Kinds) (i:=upIx x k j) (by omega) (by omega);rw[hq];simp only[Za];rw[Qcc (by have:=hx.2 q hqm;omega)];simp only[Za];rw[QkF];cases field? x (upIx x k j) (Qai q f.Of)<;>rfl
def QoM {x:Qa} {k j:Int} {f:Qc} (hx:Few x):Qb4 ⟨x,k,j,f⟩=some (decide (upIx x k j<0)):=by unfold Qb4;rw[Qhg hx];rfl
def Qy3 {x:Qa} {k j:Int} {q:Qg} {f:Qc} (hx:Few x) (hl:x.Lives.length≤1000) (hq:idx x.Kinds k=some q) (hf:field? x k j=some f) (h:(Qby f.Kind).isSome=true):Ql3 (QbO.mk (Qby f.Kind)).check ⟨x,k,j,f⟩=some (Qhi x q k j f):=by
 obtain⟨q',hk,hj,hq',hqf,hqm,hkl,hjl⟩:=Qgd hf;rw[hq] at hq';cases hq';have one:∀a,Qaw [a]=some (QaZ [a]):=fun a=>QgQ (by simp);have two:∀a b,Qaw [a,b]=some (QaZ [a,b]):=fun a b=>QgQ (by simp);unfold Qhi;dsimp only;by_cases c0:f.Kind=0
 ·rw[Zc c0,c0];show QdP _=_;unfold QdP;rw[one];rfl
 rw[Zd c0];by_cases c1:f.Kind=1
 ·rw[Zc c1,c1];show QdQ _=_;unfold QdQ;rw[QoM hx];simp only[Za];rw[one];rfl
 rw[Zd c1];by_cases c4:f.Kind=4
 ·rw[Zc c4,c4];show QdR _=_;unfold QdR;dsimp only;rw[hq];simp only[Za];rw[Qcc (by have:=hx.2 q hqm;omega)];simp only[Za];rw[QkF];simp only[Za];rw[one];rfl
 rw[Zd c4];by_cases c5:f.Kind=5
 ·rw[Zc c5,c5];show QdS _=_;unfold QdS;dsimp only;rw[QiU (s:=x.Lives) (f:=fun x0=>Qej x0 ⟨x,k,j,f⟩) (p:=fun l=>l.Name==f.Of) (by omega) (fun l _=>rfl)];simp only[Za];rw[one];rfl
 rw[Zd c5];by_cases c6:f.Kind=6
 ·rw[Zc c6];show Ql3 (Qby f.Kind) _=_;rw[c6];show QdT _=_;unfold QdT;dsimp only;rw[QwC hx hk];simp only[Za];rw[two];rfl
 rw[Zd c6];by_cases c7:f.Kind=7
 ·rw[Zc c7];show Ql3 (Qby f.Kind) _=_;rw[c7];show QdU _=_;unfold QdU;rw[QwR hx hk hkl,QoM hx];simp only[Za];rw[Qc0 (by have:=hx.1;omega)]
  cases hc:((!(topS x k j f).2)||((topS x k j f).1.Kind !=6)) with
  | true=>simp only[Sim.opt,Bool.true_or];show (Qaw _).bind _=_;rw[two];rfl
  | false=>simp only[Sim.opt,beq_self_eq_true,if_true,Za];rw[two];rfl
 rw[Zd c7];by_cases c8:f.Kind=8
 ·rw[Zc c8];show Ql3 (Qby f.Kind) _=_;rw[c8];show QdV _=_;unfold QdV;rw[QwR hx hk hkl,QoM hx];simp only[Za];rw[two];rfl
 rw[Qby,Zd c0,Zd c1,Zd c4,Zd c5,Zd c6,Zd c7,Zd c8] at h;cases h
def Qy4 {x:Qa} {k j:Int} {q:Qg} {f:Qc} (h:(Qby f.Kind).isSome=false):Qhi x q k j f=0:=by
 unfold Qhi;by_cases c0:f.Kind=0
 ·rw[c0] at h;cases h
 by_cases c1:f.Kind=1
 ·rw[c1] at h;cases h
 by_cases c4:f.Kind=4
 ·rw[c4] at h;cases h
 by_cases c5:f.Kind=5
 ·rw[c5] at h;cases h
 by_cases c6:f.Kind=6
 ·rw[c6] at h;cases h
 by_cases c7:f.Kind=7
 ·rw[c7] at h;cases h
 by_cases c8:f.Kind=8
 ·rw[c8] at h;cases h
 rw[Zd c0,Zd c1,Zd c4,Zd c5,Zd c6,Zd c7,Zd c8]
def Qji (x:Qa) (i:Int) (q:Qg):Int:=QaZ [⟨decide (Q9 x q.Name<i),7⟩,⟨((q.Fields.length:Int)==0)||((q.Fields.headD Qem).Kind !=0),11⟩]
def QBW {x:Qa} {i:Int} {q:Qg} (hx:Few x) (hq:idx x.Kinds i=some q):QfR x i=some (Qji x i q):=by
 unfold QfR Qji;rw[hq];simp only[Za];rw[Qc0 (by have:=hx.1;omega)];simp only[Za]
 cases hf:q.Fields with
 | nil=>show (Qaw _).bind _=_;rw[QgQ (by simp)];rfl
 | cons f fs=>
  have e:(((f::fs).length:Int)==0)=false:=by simp;omega
  rw[e];simp only[Sim.opt,beq_self_eq_true,if_true];rw[show idx (f::fs) (0:Int)=some f from rfl];simp only[Za];rw[QgQ (by simp)];rfl
def QiX (x:Qa) (k:Int) (n:Str):Qc×Bool:=match idx x.Kinds k with | none=>(Qem,false) | some q=>match field? x k (Qai q n) with | some g=>(g,true) | none=>(Qem,false)
def Qfg (x:Qa) (k:Int) (n:Str):Bool:=!((n==[])||decide (k<0))&&!(QiX x k n).2
def Qe0 (x:Qa) (k:Int) (n:Str):Bool:=!((n==[])||decide (k<0))&&(((QiX x k n).1.Kind !=2)&&((QiX x k n).1.Kind !=4))
def Qii (x:Qa) (i:Nat) (r:Qo):Int:=QaZ [⟨(x.Rules.take i).any fun s=>s.Name==r.Name,7⟩,⟨(decide (Q9 x r.Kind<0)||Qfg x (Q9 x r.Kind) r.A)||Qfg x (Q9 x r.Kind) r.B,12⟩,⟨Qe0 x (Q9 x r.Kind) r.A||Qe0 x (Q9 x r.Kind) r.B,13⟩,⟨r.A==r.B,1⟩]
def Qpp {β:Type} {x:Qa} {k:Int} {n:Str} {a b:Bool} (hx:Few x) (hk:k<x.Kinds.length) (g:Bool×Bool→β):
  (if ((n==([]:Str))||(decide (k<0)))=true then some (g (a,b)) else (idx x.Kinds k).bind fun t53=>(Qbw t53 n).bind fun t56=>(Qc4 x k t56).bind fun t57=>some (g ((a||(!t57.2)),(b||((t57.1.Kind !=2)&&(t57.1.Kind !=4))))))=some (g (a||Qfg x k n,b||Qe0 x k n)):=by
 unfold Qfg Qe0
 cases hc:((n==([]:Str))||(decide (k<0))) with
 | true=>rw[Zc rfl];simp
 | false=>rw[Zd (by decide)];simp only[Bool.or_eq_false_iff,ZI] at hc;obtain⟨q,hq,hqm⟩:=QhE (l:=x.Kinds) (i:=k) (by omega) hk;unfold QiX;rw[hq];simp only[Za];rw[Qcc (by have:=hx.2 q hqm;omega)];simp only[Za];rw[QkF];cases field? x k (Qai q n)<;>simp
def QBX {x:Qa} {i:Nat} {r:Qo} (hx:Few x) (hl:x.Rules.length≤1000) (hi:i<x.Rules.length) (hr:x.Rules[i]?=some r):QfS x (i:Int)=some (Qii x i r):=by
 unfold QfS;rw[Qci,hr];simp only[Za];have hs:Sim.sub x.Rules 0 (i:Int)=some (x.Rules.take i):=by unfold Sim.sub;rw[Zc ⟨by decide,by omega,by omega⟩];simp
 rw[hs];simp only[Za];rw[QlF (f:=fun x0=>Qgb x0 r) (p:=fun s=>s.Name==r.Name) (by rw[Yb];omega) (fun s _=>rfl)];simp only[Za];rw[Qc0 (by have:=hx.1;omega)];simp only[Za];have hk:=(QlE x r.Kind).2
 let st:Nat→Int×Bool×Bool:=fun n=>match n with
  | 0=>(0,decide (Q9 x r.Kind<0),false)
  | 1=>(1,decide (Q9 x r.Kind<0)||Qfg x (Q9 x r.Kind) r.A,false||Qe0 x (Q9 x r.Kind) r.A)
  | _=>(2,(decide (Q9 x r.Kind<0)||Qfg x (Q9 x r.Kind) r.A)||Qfg x (Q9 x r.Kind) r.B,(false||Qe0 x (Q9 x r.Kind) r.A)||Qe0 x (Q9 x r.Kind) r.B)
 refine QbT 2 st ((st 2).2.1,(st 2).2.2) rfl (fun n hn=>?_) rfl ?_
 ·have:n=0∨n=1:=by omega
  rcases this with rfl | rfl
  ·have h:=Qpp (x:=x) (k:=Q9 x r.Kind) (n:=r.A) (a:=decide (Q9 x r.Kind<0)) (b:=false) hx hk id;show (Option.bind (if _ then _ else _) _:Option _)=_;exact (ZF (fun o=>Option.bind o (fun p55:Bool×Bool=>some (Sum.inl ((i64.wrap ((0:Int)+(1:Int))),p55.1,p55.2)))) h:_)
  ·have h:=Qpp (x:=x) (k:=Q9 x r.Kind) (n:=r.B) (a:=decide (Q9 x r.Kind<0)||Qfg x (Q9 x r.Kind) r.A) (b:=false||Qe0 x (Q9 x r.Kind) r.A) hx hk id;show (Option.bind (if _ then _ else _) _:Option _)=_;exact (ZF (fun o=>Option.bind o (fun p55:Bool×Bool=>some (Sum.inl ((i64.wrap ((1:Int)+(1:Int))),p55.1,p55.2)))) h:_)
 ·dsimp only;rw[QgQ (by simp)];simp[st,Qii]
def Qdn {β:Type} (n:Nat) (g:Nat→List β) (B:Nat) (hB:∀k,k<n→(g k).length≤B) (a0:List β) {body:Int×List β→Option ((Int×List β)⊕List β)}
  (hs:∀k,k<n→∀acc:List β,acc.length≤a0.length+k * B→body ((k:Int),acc)=some (.inl (((k+1:Nat):Int),acc++g k))) (he:∀acc,body ((n:Int),acc)=some (.inr acc)):
  Ql body ((0:Int),a0)=some (a0++(range n).flatMap g):=by
 have hlen:∀m,m≤n→((range m).flatMap g).length≤m * B:=fun m=>by
  induction m with
  | zero=>intro _;simp
  | succ m ih=>intro hm;rw[Yf,ZM,Zi,Nat.succ_mul];have h1:=ih (by omega);have h2:=hB m (by omega);simp only[flatMap_cons,flatMap_nil,Yh];omega
 have h:=Qcn (body:=body) n (fun m=>((m:Int),a0++(range m).flatMap g)) (a0++(range n).flatMap g) (fun k hk=>?_) ?_
 ·simpa using h
 ·rw[hs k hk _ (by rw[Zi];have:=hlen k (by omega);omega),Yf,ZM];simp
 ·rw[he]
def prob (k j r e:Int):List Qv:=if e=0 then [] else [⟨k,j,r,e⟩]
def QiY (k j r e:Int):(prob k j r e).length≤1:=by unfold prob;split<;>simp
def QnX {k j r e:Int} {l:List Qv} (h:l.length≤1000000000):Qb9 k j r e l=some (l++prob k j r e):=by
 unfold Qb9 prob;by_cases he:e=0
 ·rw[Zd (by simp[he]),Zc he,Yh];rfl
 ·rw[Zc (by simpa using he),Zd he,Qb2 (by rw[length_singleton];omega)];rfl
def lifeE (x:Qa) (i:Nat) (l:QB):Int:=QaZ [⟨(x.Lives.take i).any fun m=>m.Name==l.Name,7⟩]
def QiZ (x:Qa) (q:Qg) (k j:Int) (f:Qc):Int:=if Qai q f.Name<j then 7 else Qhi x q k j f
def Qij (x:Qa) (i:Nat):List Qv:=match x.Lives[i]? with | some l=>prob (-1) (i:Int) (-1) (lifeE x i l) | none=>[]
def Qgx (x:Qa) (i:Nat) (q:Qg) (j:Nat):List Qv:=match q.Fields[j]? with | some f=>prob (i:Int) (j:Int) (-1) (QiZ x q (i:Int) (j:Int) f) | none=>[]
def QjT (x:Qa) (i:Nat) (q:Qg):List Qv:=(range q.Fields.length).flatMap (Qgx x i q)
def Qhj (x:Qa) (i:Nat):List Qv:=match x.Kinds[i]? with | some q=>prob (i:Int) (-1) (-1) (Qji x (i:Int) q)++QjT x i q | none=>[]
def Qjj (x:Qa) (i:Nat):List Qv:=match x.Rules[i]? with | some r=>prob (-1) (-1) (i:Int) (Qii x i r) | none=>[]
def Qgy (x:Qa):List Qv:=(range x.Lives.length).flatMap (Qij x)
def QhX (x:Qa):List Qv:=(range x.Kinds.length).flatMap (Qhj x)
def Qrq (x:Qa):List Qv:=(range x.Rules.length).flatMap (Qjj x)
def Qpq (x:Qa) (i:Nat):(Qij x i).length≤1:=by unfold Qij;cases x.Lives[i]? with | none=>simp | some f=>exact QiY _ _ _ _
def QnY (x:Qa) (i:Nat) (q:Qg) (j:Nat):(Qgx x i q j).length≤1:=by unfold Qgx;cases q.Fields[j]? with | none=>simp | some f=>exact QiY _ _ _ _
def QwS (x:Qa) (i:Nat):(Qjj x i).length≤1:=by unfold Qjj;cases x.Rules[i]? with | none=>simp | some f=>exact QiY _ _ _ _
def QY (x:Qa):List Qv:=if Qgw x=0 then Qgy x++QhX x++Qrq x else [⟨-1,-1,-1,Qgw x⟩]
def Qa7 {β:Type} (n:Nat) (g:Nat→List β) (B:Nat) (hB:∀k,k<n→(g k).length≤B):((range n).flatMap g).length≤n * B:=by
 induction n with
 | zero=>simp
 | succ n ih=>rw[Yf,ZM,Zi,Nat.succ_mul];have h1:=ih fun k hk=>hB k (by omega);have h2:=hB n (by omega);simp only[flatMap_cons,flatMap_nil,Yh];omega
structure Qfh (x:Qa):Prop where
 few:Few x
 fine:Fine x
 lives:x.Lives.length≤1000
 rules:x.Rules.length≤1000
def Sz.short {x:Qa} (h:Sz x):Qfh x:=⟨h.few,h.fine,by have:=h.2.1.1;omega,by have:=h.2.2.1;omega⟩
def Qsu {x:Qa} {i:Nat} {q:Qg} (h:q.Fields.length≤1000):(QjT x i q).length≤1000:=by have:=Qa7 q.Fields.length (Qgx x i q) 1 (fun j _=>QnY x i q j);unfold QjT;omega
def Qm2 {x:Qa} (h:Qfh x):Qdk x=some (QY x):=by
 obtain⟨hx,hfine,hlv,hrl⟩:=h;unfold Qdk;rw[Qy2 hfine];simp only[Za];unfold QY;by_cases hv:Qgw x=0
 ·rw[Zd (by simp[hv]),Zc hv];have b1:(Qgy x).length≤1000:=by
   have:=Qa7 x.Lives.length (Qij x) 1 (fun j _=>Qpq x j);unfold Qgy;omega
  have kl:∀k,k<x.Kinds.length→(Qhj x k).length≤1001:=fun k hk=>by unfold Qhj;rw[Zb hk];dsimp only;have:=Qsu (x:=x) (i:=k) (hx.2 _ (Zn hk));have:=QiY k (-1) (-1) (Qji x k x.Kinds[k]);rw[Zi];omega
  have b2:(QhX x).length≤1001000:=by have:=Qa7 x.Kinds.length _ 1001 kl;have:=hx.1;unfold QhX;omega
  have hk1:=hx.1;rw[Qdn x.Lives.length (Qij x) 1 (fun j _=>Qpq x j) [] (fun k hk acc hacc=>?_) (fun acc=>Zd (by simp))]
  ·rw[show ([]:List Qv)++(range x.Lives.length).flatMap (Qij x)=Qgy x from rfl];simp only[Za];rw[Qdn x.Kinds.length (Qhj x) 1001 kl (Qgy x) (fun k hk acc hacc=>?_) (fun acc=>Zd (by simp))]
   ·rw[show Qgy x++(range x.Kinds.length).flatMap (Qhj x)=Qgy x++QhX x from rfl];simp only[Za];rw[Qdn x.Rules.length (Qjj x) 1 (fun j _=>QwS x j) (Qgy x++QhX x) (fun k hk acc hacc=>?_) (fun acc=>Zd (by simp))]
    ·rfl
    ·rw[Zi] at hacc;rw[Zc (by simpa using hk)];dsimp only;rw[QBX hx hrl hk (Zb hk)];simp only[Za];rw[QnX (by omega)];simp only[Za];unfold Qjj;rw[QH hk (by omega),Zb hk]
   ·have hq:=QX hk;have hqf:=hx.2 _ (Zn hk);rw[Zc (by simpa using hk)];dsimp only;rw[hq];simp only[Za];rw[QBW hx hq];simp only[Za];rw[QnX (by omega)];simp only[Za];have pl:=QiY k (-1) (-1) (Qji x k x.Kinds[k]);rw[Qdn x.Kinds[k].Fields.length (Qgx x k x.Kinds[k]) 1 (fun j _=>QnY x k _ j) _ (fun j hj acc2 hacc2=>?_) (fun acc=>Zd (by simp))]
    ·simp only[Za];unfold Qhj;rw[QH hk (by omega),Zb hk,ZW];rfl
    ·rw[Zi] at hacc2;rw[Zc (by simpa using hj)];dsimp only;rw[QX hj];simp only[Za];rw[Qcc (by omega)];simp only[Za];rw[QgQ (by simp)];simp only[Za];have hf:field? x (k:Int) (j:Int)=some x.Kinds[k].Fields[j]:=QmZ (by omega) (by omega) hq (QX hj);have e:(if ((Qby x.Kinds[k].Fields[j].Kind).isSome&&(QaZ [⟨decide (Qai x.Kinds[k] x.Kinds[k].Fields[j].Name<(j:Int)),7⟩]==0))=true then (Ql3 (QbO.mk (Qby x.Kinds[k].Fields[j].Kind)).check ⟨x,k,j,x.Kinds[k].Fields[j]⟩).bind fun t97=>some t97 else some (QaZ [⟨decide (Qai x.Kinds[k] x.Kinds[k].Fields[j].Name<(j:Int)),7⟩]))=some (QiZ x x.Kinds[k] k j x.Kinds[k].Fields[j]):=by
      unfold QiZ;by_cases hd:Qai x.Kinds[k] x.Kinds[k].Fields[j].Name<(j:Int)
      ·rw[Zc hd,Zd (by simp[QaZ,hd])];simp[QaZ,hd]
      ·rw[Zd hd];have e0:QaZ [⟨decide (Qai x.Kinds[k] x.Kinds[k].Fields[j].Name<(j:Int)),7⟩]=0:=by simp[QaZ,hd]
       rw[e0]
       cases hs:(Qby x.Kinds[k].Fields[j].Kind).isSome with
       | true=>rw[Zc (by simp),Qy3 hx hlv hq hf hs];rfl
       | false=>rw[Zd (by simp),Qy4 hs]
     rw[e];simp only[Za];rw[QnX (by omega)];simp only[Za];unfold Qgx;rw[QH hj (by omega),Zb hj]
  ·rw[ZS] at hacc;rw[Zc (by simpa using hk)];dsimp only;rw[QX hk];simp only[Za];have hs:Sim.sub x.Lives 0 (k:Int)=some (x.Lives.take k):=by
    unfold Sim.sub;rw[Zc ⟨by decide,by omega,by omega⟩];simp
   rw[hs];simp only[Za];rw[QiU (f:=fun x0=>QfC x0 x.Lives[k]) (p:=fun m=>m.Name==x.Lives[k].Name) (by rw[Yb];omega) (fun l _=>rfl)];simp only[Za];rw[QgQ (by simp)];simp only[Za];rw[QnX (by omega)];simp only[Za];unfold Qij;rw[QH hk (by omega),Zb hk];rfl
 ·rw[Zc (by simpa using hv),Zd hv]
def Qp9 {x:Qa} {n:Str} (hx:x.Kinds.length≤1000000):Qgv x n=some (Q9 x n):=by
 unfold Qgv;rw[Qcp x.Kinds (fun k=>k.Name==n) (fun k hk=>?_) ?_]
 ·unfold Q9 QaF;cases x.Kinds.findIdx? _<;>rfl
 ·rw[Zd (by simp)]
 ·rw[Zc (by simpa using hk),QX hk,QH hk (by omega)];rfl
def QhG {q:Qg} {n:Str} (hx:q.Fields.length≤1000000):Qdb q n=some (Qai q n):=by
 unfold Qdb;rw[Qcp q.Fields (fun k=>k.Name==n) (fun k hk=>?_) ?_]
 ·unfold Qai QaF;cases q.Fields.findIdx? _<;>rfl
 ·rw[Zd (by simp)]
 ·rw[Zc (by simpa using hk),QX hk,QH hk (by omega)];rfl

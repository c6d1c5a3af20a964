/- typing.Check. No condition. -/
import Derived.Test.YtlajingmjmnfgaaGreatDoorCtA
set_option linter.all false
open List Go.IntKind
namespace Go.Proofs.YtlajingmjmnfgaaGreatDoor
open Go.Sim
def QaR:List Qab->Int
 | []=>0
 | f::r=>if f.is=true then f.code else QaR r
def Qhk {l:List Qab} (hl:l.length<=1000):Qax l=some (QaR l):=by
 have key:Ok (Qax l) (λr=>r=QaR l):=by
  unfold Qax;refine Ok.bind (P:=λe:Unit⊕Int=>(match e with | .inl _=>0 | .inr r=>r)=QaR l) (Ok.loop (λm s=>0<=s/\s+m=l.length/\QaR (l.drop s.toNat)=QaR l) l.length ⟨ZO _,by omega,by simp⟩ λm s hs=>?_) λe he=>by cases e<;>exact Ok.mk he
  obtain⟨h1,h2,h3⟩:=hs;obtain⟨k,rfl⟩:=Zx h1;rw[Zv] at h3;refine Ok.ite (λhk=>?_) (λhk=>?_)
  ·have hk':k<l.length:=by simpa using hk
   rw[QG hk'];simp only[Za];rw[Yp hk',QaR] at h3;refine Ok.ite (λhi=>Ok.mk ?_) (λhi=>Ok.mk ⟨m - 1,by omega,?_⟩)
   ·rw[Zc hi] at h3;exact h3
   ·rw[Zd (by rw[hi];decide)] at h3;rw[Qw hk' (by omega)];exact⟨by omega,by omega,by rw[Zv];exact h3⟩
  ·have hk':¬k<l.length:=by simpa using hk
   rw[drop_of_length_le (by omega)] at h3;exact Ok.mk h3
 obtain⟨r,hr,rfl⟩:=key;exact hr
def topS (x:Qb) (k j:Int) (f:Qc):Qc×Bool:=
 if upIx x k j<0 then (QcI,false)
 else match idx x.Xa (upIx x k j) with
  | none=>(QcI,false)
  | some q=>match field? x (upIx x k j) (Q2 q f.Of) with | some g=>(g,true) | none=>(QcI,false)
def Qro (g:Qc):Bool:=((((g.Xi==2)||(g.Xi==3))||(g.Xi==4))||(g.Xi==5))||(g.Xi==8)
def QgP (x:Qb) (q:Qg) (k j:Int) (f:Qc):Int:=
 if f.Xi=0 then QaR [⟨decide (j>0),13⟩]
 else if f.Xi=1 then QaR [⟨decide (upIx x k j<0),12⟩]
 else if f.Xi=4 then QaR [⟨(f.Of !=[])&&(((decide (Q2 q f.Of<0))||(decide (Q2 q f.Of>=j)))||((match field? x k (Q2 q f.Of) with | some g=>(g,true) | none=>(QcI,false)).1.Xi !=4)),12⟩]
 else if f.Xi=5 then QaR [⟨!(x.Xd.any λl=>l.Xj==f.Of),12⟩]
 else if f.Xi=6 then QaR [⟨decide ((Qia x k f).1<0),12⟩,⟨((Qia x k f).2.length:Int) !=1,11⟩]
 else if f.Xi=7 then QaR [⟨decide (upIx x k j<0),12⟩,⟨((!(topS x k j f).2)||((topS x k j f).1.Xi !=6))||(QQ x (topS x k j f).1.Of !=k),13⟩]
 else if f.Xi=8 then QaR [⟨decide (upIx x k j<0),12⟩,⟨(!(topS x k j f).2)||(!Qro (topS x k j f).1),13⟩]
 else 0
def Qo0 (x:Qb) (k j:Int) (hk:0<=k):upIx x k j<k/\-1<=upIx x k j:=by
 have hr:∀g,QgO x k g<k/\-1<=QgO x k g:=λg=>by have:=Qiv x g.Of;unfold QgO;split<;>omega
 unfold upIx
 cases field? x k j with
 | none=>exact⟨by dsimp only;omega,by dsimp only;omega⟩
 | some f=>
  dsimp only;split
  ·split
   ·omega
   ·split
    ·split
     ·split
      ·exact hr _
      ·omega
     ·omega
    ·omega
  ·split
   ·exact hr _
   ·omega
def QwH {x:Qb} {k j:Int} {f:Qc} (hx:Few x) (hk:0<=k) (hkl:k<x.Xa.length):Qc4 ⟨x,k,j,f⟩=some (topS x k j f):=by
 unfold Qc4 topS;rw[QhF hx];simp only[Za];by_cases hu:upIx x k j<0
 ·rw[Zc (by simpa using hu),Zc hu];rfl
 ·rw[Zd (by simpa using hu),Zd hu];have h1:=Qo0 x k j hk;obtain⟨q,hq,hqm⟩:=QcC (l:=x.Xa) (i:=upIx x k j) (by omega) (by omega);rw[hq];simp only[Za];rw[Qcq (by have:=hx.2 q hqm;omega)];simp only[Za];rw[QkV];cases field? x (upIx x k j) (Q2 q f.Of)<;>rfl
def Qo1 {x:Qb} {k j:Int} {f:Qc} (hx:Few x):Qch ⟨x,k,j,f⟩=some (decide (upIx x k j<0)):=by unfold Qch;rw[QhF hx];rfl
def QyM {x:Qb} {k j:Int} {q:Qg} {f:Qc} (hx:Few x) (hl:x.Xd.length<=1000) (hq:idx x.Xa k=some q) (hf:field? x k j=some f) (h:(QbE f.Xi).isSome=true):Qml (QbZ.mk (QbE f.Xi)).check ⟨x,k,j,f⟩=some (QgP x q k j f):=by
 obtain⟨q',hk,hj,hq',hqf,hqm,hkl,hjl⟩:=QbN hf;rw[hq] at hq';cases hq';have one:∀a,Qax [a]=some (QaR [a]):=λa=>Qhk (by simp);have two:∀a b,Qax [a,b]=some (QaR [a,b]):=λa b=>Qhk (by simp);unfold QgP;dsimp only;by_cases c0:f.Xi=0
 ·rw[Zc c0,c0];show Qef _=_;unfold Qef;rw[one];rfl
 rw[Zd c0];by_cases c1:f.Xi=1
 ·rw[Zc c1,c1];show Qeg _=_;unfold Qeg;rw[Qo1 hx];simp only[Za];rw[one];rfl
 rw[Zd c1];by_cases c4:f.Xi=4
 ·rw[Zc c4,c4];show Qeh _=_;unfold Qeh;dsimp only;rw[hq];simp only[Za];rw[Qcq (by have:=hx.2 q hqm;omega)];simp only[Za];rw[QkV];simp only[Za];rw[one];rfl
 rw[Zd c4];by_cases c5:f.Xi=5
 ·rw[Zc c5,c5];show Qei _=_;unfold Qei;dsimp only;rw[Qjs (s:=x.Xd) (f:=λx0=>QeG x0 ⟨x,k,j,f⟩) (p:=λl=>l.Xj==f.Of) (by omega) (λl _=>rfl)];simp only[Za];rw[one];rfl
 rw[Zd c5];by_cases c6:f.Xi=6
 ·rw[Zc c6];show Qml (QbE f.Xi) _=_;rw[c6];show Qej _=_;unfold Qej;dsimp only;rw[Qwt hx hk];simp only[Za];rw[two];rfl
 rw[Zd c6];by_cases c7:f.Xi=7
 ·rw[Zc c7];show Qml (QbE f.Xi) _=_;rw[c7];show Qek _=_;unfold Qek;rw[QwH hx hk hkl,Qo1 hx];simp only[Za];rw[Qc9 (by have:=hx.1;omega)]
  cases hc:((!(topS x k j f).2)||((topS x k j f).1.Xi !=6)) with
  | true=>simp only[Sim.opt,Bool.true_or];show (Qax _).bind _=_;rw[two];rfl
  | false=>simp only[Sim.opt,beq_self_eq_true,if_true,Za];rw[two];rfl
 rw[Zd c7];by_cases c8:f.Xi=8
 ·rw[Zc c8];show Qml (QbE f.Xi) _=_;rw[c8];show Qel _=_;unfold Qel;rw[QwH hx hk hkl,Qo1 hx];simp only[Za];rw[two];rfl
 rw[QbE,Zd c0,Zd c1,Zd c4,Zd c5,Zd c6,Zd c7,Zd c8] at h;cases h
def QyN {x:Qb} {k j:Int} {q:Qg} {f:Qc} (h:(QbE f.Xi).isSome=false):QgP x q k j f=0:=by
 unfold QgP;by_cases c0:f.Xi=0
 ·rw[c0] at h;cases h
 by_cases c1:f.Xi=1
 ·rw[c1] at h;cases h
 by_cases c4:f.Xi=4
 ·rw[c4] at h;cases h
 by_cases c5:f.Xi=5
 ·rw[c5] at h;cases h
 by_cases c6:f.Xi=6
 ·rw[c6] at h;cases h
 by_cases c7:f.Xi=7
 ·rw[c7] at h;cases h
 by_cases c8:f.Xi=8
 ·rw[c8] at h;cases h
 rw[Zd c0,Zd c1,Zd c4,Zd c5,Zd c6,Zd c7,Zd c8]
def Qha (x:Qb) (i:Int) (q:Qg):Int:=QaR [⟨decide (QQ x q.Xj<i),7⟩,⟨((q.Xb.length:Int)==0)||((q.Xb.headD QcI).Xi !=0),11⟩]
def QCs {x:Qb} {i:Int} {q:Qg} (hx:Few x) (hq:idx x.Xa i=some q):Qgr x i=some (Qha x i q):=by
 unfold Qgr Qha;rw[hq];simp only[Za];rw[Qc9 (by have:=hx.1;omega)];simp only[Za]
 cases hf:q.Xb with
 | nil=>show (Qax _).bind _=_;rw[Qhk (by simp)];rfl
 | cons f fs=>
  have e:(((f::fs).length:Int)==0)=false:=by simp;omega
  rw[e];simp only[Sim.opt,beq_self_eq_true,if_true];rw[show idx (f::fs) (0:Int)=some f from rfl];simp only[Za];rw[Qhk (by simp)];rfl
def Qix (x:Qb) (k:Int) (n:Str):Qc×Bool:=match idx x.Xa k with | none=>(QcI,false) | some q=>match field? x k (Q2 q n) with | some g=>(g,true) | none=>(QcI,false)
def QbP (x:Qb) (k:Int) (n:Str):Bool:=!((n==[])||decide (k<0))&&!(Qix x k n).2
def QbQ (x:Qb) (k:Int) (n:Str):Bool:=!((n==[])||decide (k<0))&&(((Qix x k n).1.Xi !=2)&&((Qix x k n).1.Xi !=4))
def QhG (x:Qb) (i:Nat) (r:Qs):Int:=QaR [⟨(x.Xc.take i).any λs=>s.Xj==r.Xj,7⟩,⟨(decide (QQ x r.Xi<0)||QbP x (QQ x r.Xi) r.A)||QbP x (QQ x r.Xi) r.B,12⟩,⟨QbQ x (QQ x r.Xi) r.A||QbQ x (QQ x r.Xi) r.B,13⟩,⟨r.A==r.B,1⟩]
def QpE {β:Type} {x:Qb} {k:Int} {n:Str} {a b:Bool} (hx:Few x) (hk:k<x.Xa.length) (g:Bool×Bool->β):
  (if ((n==([]:Str))||(decide (k<0)))=true then some (g (a,b)) else (idx x.Xa k).bind λt53=>(QbB t53 n).bind λt56=>(Qdk x k t56).bind λt57=>some (g ((a||(!t57.2)),(b||((t57.1.Xi !=2)&&(t57.1.Xi !=4))))))=some (g (a||QbP x k n,b||QbQ x k n)):=by
 unfold QbP QbQ
 cases hc:((n==([]:Str))||(decide (k<0))) with
 | true=>rw[Zc rfl];simp
 | false=>rw[Zd (by decide)];simp only[Bool.or_eq_false_iff,ZK] at hc;obtain⟨q,hq,hqm⟩:=QcC (l:=x.Xa) (i:=k) (by omega) hk;unfold Qix;rw[hq];simp only[Za];rw[Qcq (by have:=hx.2 q hqm;omega)];simp only[Za];rw[QkV];cases field? x k (Q2 q n)<;>simp
def QCt {x:Qb} {i:Nat} {r:Qs} (hx:Few x) (hl:x.Xc.length<=1000) (hi:i<x.Xc.length) (hr:x.Xc[i]?=some r):Qgs x (i:Int)=some (QhG x i r):=by
 unfold Qgs;rw[QbS,hr];simp only[Za];have hs:Sim.sub x.Xc 0 (i:Int)=some (x.Xc.take i):=by unfold Sim.sub;rw[Zc ⟨by decide,by omega,by omega⟩];simp
 rw[hs];simp only[Za];rw[QlW (f:=λx0=>QgL x0 r) (p:=λs=>s.Xj==r.Xj) (by rw[Yh];omega) (λs _=>rfl)];simp only[Za];rw[Qc9 (by have:=hx.1;omega)];simp only[Za];have hk:=(Qiv x r.Xi).2
 let st:Nat->Int×Bool×Bool:=λn=>match n with
  | 0=>(0,decide (QQ x r.Xi<0),false)
  | 1=>(1,decide (QQ x r.Xi<0)||QbP x (QQ x r.Xi) r.A,false||QbQ x (QQ x r.Xi) r.A)
  | _=>(2,(decide (QQ x r.Xi<0)||QbP x (QQ x r.Xi) r.A)||QbP x (QQ x r.Xi) r.B,(false||QbQ x (QQ x r.Xi) r.A)||QbQ x (QQ x r.Xi) r.B)
 refine QdK 2 st ((st 2).2.1,(st 2).2.2) rfl (λn hn=>?_) rfl ?_
 ·have:n=0\/n=1:=by omega
  rcases this with rfl | rfl
  ·have h:=QpE (x:=x) (k:=QQ x r.Xi) (n:=r.A) (a:=decide (QQ x r.Xi<0)) (b:=false) hx hk id;show (Option.bind (if _ then _ else _) _:Option _)=_;exact (ZH (λo=>Option.bind o (λp55:Bool×Bool=>some (Sum.inl ((i64.wrap ((0:Int)+(1:Int))),p55.1,p55.2)))) h:_)
  ·have h:=QpE (x:=x) (k:=QQ x r.Xi) (n:=r.B) (a:=decide (QQ x r.Xi<0)||QbP x (QQ x r.Xi) r.A) (b:=false||QbQ x (QQ x r.Xi) r.A) hx hk id;show (Option.bind (if _ then _ else _) _:Option _)=_;exact (ZH (λo=>Option.bind o (λp55:Bool×Bool=>some (Sum.inl ((i64.wrap ((1:Int)+(1:Int))),p55.1,p55.2)))) h:_)
 ·dsimp only;rw[Qhk (by simp)];simp[st,QhG]
def Qcj {β:Type} (n:Nat) (g:Nat->List β) (B:Nat) (hB:∀k,k<n->(g k).length<=B) (a0:List β) {body:Int×List β->Option ((Int×List β)⊕List β)}
  (hs:∀k,k<n->∀acc:List β,acc.length<=a0.length+k * B->body ((k:Int),acc)=some (.inl (((k+1:Nat):Int),acc++g k))) (he:∀acc,body ((n:Int),acc)=some (.inr acc)):
  Ql body ((0:Int),a0)=some (a0++(range n).flatMap g):=by
 have hlen:∀m,m<=n->((range m).flatMap g).length<=m * B:=λm=>by
  induction m with
  | zero=>intro _;simp
  | succ m ih=>intro hm;rw[Yl,ZQ,Ze,Nat.succ_mul];have h1:=ih (by omega);have h2:=hB m (by omega);simp only[flatMap_cons,flatMap_nil,Yj];omega
 have h:=Qb9 (body:=body) n (λm=>((m:Int),a0++(range m).flatMap g)) (a0++(range n).flatMap g) (λk hk=>?_) ?_
 ·simpa using h
 ·rw[hs k hk _ (by rw[Ze];have:=hlen k (by omega);omega),Yl,ZQ];simp
 ·rw[he]
def prob (k j r e:Int):List Qz:=if e=0 then [] else [⟨k,j,r,e⟩]
def Qhl (k j r e:Int):(prob k j r e).length<=1:=by unfold prob;split<;>simp
def Qod {k j r e:Int} {l:List Qz} (h:l.length<=1000000000):Qcn k j r e l=some (l++prob k j r e):=by
 unfold Qcn prob;by_cases he:e=0
 ·rw[Zd (by simp[he]),Zc he,Yj];rfl
 ·rw[Zc (by simpa using he),Zd he,QaW (by rw[length_singleton];omega)];rfl
def Qul (x:Qb) (i:Nat) (l:QA):Int:=QaR [⟨(x.Xd.take i).any λm=>m.Xj==l.Xj,7⟩]
def Qiy (x:Qb) (q:Qg) (k j:Int) (f:Qc):Int:=if Q2 q f.Xj<j then 7 else QgP x q k j f
def QfC (x:Qb) (i:Nat):List Qz:=match x.Xd[i]? with | some l=>prob (-1) (i:Int) (-1) (Qul x i l) | none=>[]
def QfV (x:Qb) (i:Nat) (q:Qg) (j:Nat):List Qz:=match q.Xb[j]? with | some f=>prob (i:Int) (j:Int) (-1) (Qiy x q (i:Int) (j:Int) f) | none=>[]
def Qi8 (x:Qb) (i:Nat) (q:Qg):List Qz:=(range q.Xb.length).flatMap (QfV x i q)
def QeJ (x:Qb) (i:Nat):List Qz:=match x.Xa[i]? with | some q=>prob (i:Int) (-1) (-1) (Qha x (i:Int) q)++Qi8 x i q | none=>[]
def Qid (x:Qb) (i:Nat):List Qz:=match x.Xc[i]? with | some r=>prob (-1) (-1) (i:Int) (QhG x i r) | none=>[]
def Qc1 (x:Qb):List Qz:=(range x.Xd.length).flatMap (QfC x)
def Qfi (x:Qb):List Qz:=(range x.Xa.length).flatMap (QeJ x)
def Qoe (x:Qb):List Qz:=(range x.Xc.length).flatMap (Qid x)
def QjJ (x:Qb) (i:Nat):(QfC x i).length<=1:=by unfold QfC;cases x.Xd[i]? with | none=>simp | some f=>exact Qhl _ _ _ _
def QkX (x:Qb) (i:Nat) (q:Qg) (j:Nat):(QfV x i q j).length<=1:=by unfold QfV;cases q.Xb[j]? with | none=>simp | some f=>exact Qhl _ _ _ _
def QpF (x:Qb) (i:Nat):(Qid x i).length<=1:=by unfold Qid;cases x.Xc[i]? with | none=>simp | some f=>exact Qhl _ _ _ _
def Q0 (x:Qb):List Qz:=if Qep x=0 then Qc1 x++Qfi x++Qoe x else [⟨-1,-1,-1,Qep x⟩]
def Qbh {β:Type} (n:Nat) (g:Nat->List β) (B:Nat) (hB:∀k,k<n->(g k).length<=B):((range n).flatMap g).length<=n * B:=by
 induction n with
 | zero=>simp
 | succ n ih=>rw[Yl,ZQ,Ze,Nat.succ_mul];have h1:=ih λk hk=>hB k (by omega);have h2:=hB n (by omega);simp only[flatMap_cons,flatMap_nil,Yj];omega
structure QcZ (x:Qb):Prop where
 few:Few x
 fine:Fine x
 lives:x.Xd.length<=1000
 rules:x.Xc.length<=1000
def Sz.short {x:Qb} (h:Sz x):QcZ x:=⟨h.few,h.fine,by have:=h.2.1.1;omega,by have:=h.2.2.1;omega⟩
def QmZ {x:Qb} {i:Nat} {q:Qg} (h:q.Xb.length<=1000):(Qi8 x i q).length<=1000:=by have:=Qbh q.Xb.length (QfV x i q) 1 (λj _=>QkX x i q j);unfold Qi8;omega
def Qrp {x:Qb} (h:QcZ x):Qeu x=some (Q0 x):=by
 obtain⟨hx,hfine,hlv,hrl⟩:=h;unfold Qeu;rw[QyL hfine];simp only[Za];unfold Q0;by_cases hv:Qep x=0
 ·rw[Zd (by simp[hv]),Zc hv];have b1:(Qc1 x).length<=1000:=by
   have:=Qbh x.Xd.length (QfC x) 1 (λj _=>QjJ x j);unfold Qc1;omega
  have kl:∀k,k<x.Xa.length->(QeJ x k).length<=1001:=λk hk=>by unfold QeJ;rw[Zb hk];dsimp only;have:=QmZ (x:=x) (i:=k) (hx.2 _ (Zm hk));have:=Qhl k (-1) (-1) (Qha x k x.Xa[k]);rw[Ze];omega
  have b2:(Qfi x).length<=1001000:=by have:=Qbh x.Xa.length _ 1001 kl;have:=hx.1;unfold Qfi;omega
  have hk1:=hx.1;rw[Qcj x.Xd.length (QfC x) 1 (λj _=>QjJ x j) [] (λk hk acc hacc=>?_) (λacc=>Zd (by simp))]
  ·rw[show ([]:List Qz)++(range x.Xd.length).flatMap (QfC x)=Qc1 x from rfl];simp only[Za];rw[Qcj x.Xa.length (QeJ x) 1001 kl (Qc1 x) (λk hk acc hacc=>?_) (λacc=>Zd (by simp))]
   ·rw[show Qc1 x++(range x.Xa.length).flatMap (QeJ x)=Qc1 x++Qfi x from rfl];simp only[Za];rw[Qcj x.Xc.length (Qid x) 1 (λj _=>QpF x j) (Qc1 x++Qfi x) (λk hk acc hacc=>?_) (λacc=>Zd (by simp))]
    ·rfl
    ·rw[Ze] at hacc;rw[Zc (by simpa using hk)];dsimp only;rw[QCt hx hrl hk (Zb hk)];simp only[Za];rw[Qod (by omega)];simp only[Za];unfold Qid;rw[Qw hk (by omega),Zb hk]
   ·have hq:=QG hk;have hqf:=hx.2 _ (Zm hk);rw[Zc (by simpa using hk)];dsimp only;rw[hq];simp only[Za];rw[QCs hx hq];simp only[Za];rw[Qod (by omega)];simp only[Za];have pl:=Qhl k (-1) (-1) (Qha x k x.Xa[k]);rw[Qcj x.Xa[k].Xb.length (QfV x k x.Xa[k]) 1 (λj _=>QkX x k _ j) _ (λj hj acc2 hacc2=>?_) (λacc=>Zd (by simp))]
    ·simp only[Za];unfold QeJ;rw[Qw hk (by omega),Zb hk,ZF];rfl
    ·rw[Ze] at hacc2;rw[Zc (by simpa using hj)];dsimp only;rw[QG hj];simp only[Za];rw[Qcq (by omega)];simp only[Za];rw[Qhk (by simp)];simp only[Za];have hf:field? x (k:Int) (j:Int)=some x.Xa[k].Xb[j]:=Qfz (by omega) (by omega) hq (QG hj);have e:(if ((QbE x.Xa[k].Xb[j].Xi).isSome&&(QaR [⟨decide (Q2 x.Xa[k] x.Xa[k].Xb[j].Xj<(j:Int)),7⟩]==0))=true then (Qml (QbZ.mk (QbE x.Xa[k].Xb[j].Xi)).check ⟨x,k,j,x.Xa[k].Xb[j]⟩).bind λt97=>some t97 else some (QaR [⟨decide (Q2 x.Xa[k] x.Xa[k].Xb[j].Xj<(j:Int)),7⟩]))=some (Qiy x x.Xa[k] k j x.Xa[k].Xb[j]):=by
      unfold Qiy;by_cases hd:Q2 x.Xa[k] x.Xa[k].Xb[j].Xj<(j:Int)
      ·rw[Zc hd,Zd (by simp[QaR,hd])];simp[QaR,hd]
      ·rw[Zd hd];have e0:QaR [⟨decide (Q2 x.Xa[k] x.Xa[k].Xb[j].Xj<(j:Int)),7⟩]=0:=by simp[QaR,hd]
       rw[e0]
       cases hs:(QbE x.Xa[k].Xb[j].Xi).isSome with
       | true=>rw[Zc (by simp),QyM hx hlv hq hf hs];rfl
       | false=>rw[Zd (by simp),QyN hs]
     rw[e];simp only[Za];rw[Qod (by omega)];simp only[Za];unfold QfV;rw[Qw hj (by omega),Zb hj]
  ·rw[Zl] at hacc;rw[Zc (by simpa using hk)];dsimp only;rw[QG hk];simp only[Za];have hs:Sim.sub x.Xd 0 (k:Int)=some (x.Xd.take k):=by
    unfold Sim.sub;rw[Zc ⟨by decide,by omega,by omega⟩];simp
   rw[hs];simp only[Za];rw[Qjs (f:=λx0=>Qf9 x0 x.Xd[k]) (p:=λm=>m.Xj==x.Xd[k].Xj) (by rw[Yh];omega) (λl _=>rfl)];simp only[Za];rw[Qhk (by simp)];simp only[Za];rw[Qod (by omega)];simp only[Za];unfold QfC;rw[Qw hk (by omega),Zb hk];rfl
 ·rw[Zc (by simpa using hv),Zd hv]
def out_or (n:Nat):((decide ((n:Int)<1))||(decide ((n:Int)>12)))=!inW (n:Int) 1 12:=by
 unfold inW;by_cases h1:(n:Int)<1
 ·rw[decide_eq_true h1,decide_eq_false (by omega:¬(n:Int)>=1)];rfl
 ·rw[decide_eq_false h1,decide_eq_true (by omega:(n:Int)>=1)];by_cases h2:(n:Int)>12
  ·rw[decide_eq_true h2,decide_eq_false (by omega:¬(n:Int)<=12)];rfl
  ·rw[decide_eq_false h2,decide_eq_true (by omega:(n:Int)<=12)];rfl
def Qiz (s:Str):Qa0 s=some (QK s):=by
 unfold Qa0 QK;rw[out_or]
 cases s with
 | nil=>rfl
 | cons c s=>
  cases h:inW ((c::s).length:Int) 1 12 with
  | false=>rfl
  | true=>
   have hl:=(Qa1 h).2;rw[show idx (c::s) (0:Int)=some c from rfl];simp only[Sim.opt,Bool.not_true,beq_self_eq_true,if_true,Za];rw[show Qet (c.toNat:Int)=some (Qcf (c.toNat:Int)) from rfl];simp only[Za]
   cases hc:Qcf (c.toNat:Int) with
   | false=>simp[hc]
   | true=>
    rw[Zd (by decide),QcS (c::s) (λb=>Qcf (b.toNat:Int)||Qff (b.toNat:Int)) false (λk hk=>?_) (Zd (by simp))]
    ·have e:(QZ (c::s)).all (λc=>Qcf c||Qff c)=(c::s).all (λb=>Qcf (b.toNat:Int)||Qff (b.toNat:Int)):=by
      unfold QZ;rw[all_map];rfl
     rw[e];simp only[headD_cons,hc,Bool.true_and,Za];cases (c::s).all (λb=>Qcf (b.toNat:Int)||Qff (b.toNat:Int))<;>rfl
    ·rw[Zc (decide_eq_true (Yb.2 hk)),QG hk];simp only[Za];rw[show Qet (((c::s)[k]).toNat:Int)=some (Qcf (((c::s)[k]).toNat:Int)) from rfl];simp only[Za];rw[Qw hk (by omega)]
     cases Qcf (((c::s)[k]).toNat:Int) with
     | true=>rfl
     | false=>simp only[Bool.not_false,beq_self_eq_true,if_true,Za,Bool.true_and,Bool.false_or];rw[show Qhz (((c::s)[k]).toNat:Int)=some (Qff (((c::s)[k]).toNat:Int)) from rfl];simp only[Za];cases Qff (((c::s)[k]).toNat:Int)<;>rfl
def Qrq {l:List Str} (hl:l.length<=1000000):Qe2 l=some (l.all QK):=by
 unfold Qe2;rw[QcS l QK false (λk hk=>?_) (Zd (by simp))]
 ·cases l.all QK<;>rfl
 ·rw[Zc (by simpa using hk),QG hk];simp only[Za];rw[Qiz];simp only[Za];rw[Qw hk (by omega)];cases QK l[k]<;>rfl
def QyO {x:QA} (h1:x.Xe.length<=1000000) (h2:x.Xg.length<=1000000):QfL x=some (QdX x):=by
 unfold QfL QdX;rw[Qiz];simp only[Za]
 cases QK x.Xj with
 | false=>rfl
 | true=>
  rw[show QaN (x.Xe.length:Int) 1 12=some (inW (x.Xe.length:Int) 1 12) from rfl];simp only[Sim.opt,Bool.not_true,beq_self_eq_true,if_true,Za,Bool.true_and,Bool.false_or]
  cases inW (x.Xe.length:Int) 1 12 with
  | false=>rfl
  | true=>
   rw[Qrq h1];simp only[Bool.not_true,beq_self_eq_true,if_true,Za,Bool.true_and,Bool.false_or]
   cases x.Xe.all QK with
   | false=>rfl
   | true=>
    by_cases hm:(x.Xg.length:Int)<=32
    ·rw[Zd (by simp;omega),decide_eq_true hm,QcS x.Xg (QdA (x.Xe.length:Int)) false (λk hk=>?_) (Zd (by simp))]
     ·simp only[Bool.true_and,Za];cases x.Xg.all (QdA (x.Xe.length:Int))<;>rfl
     ·rw[Zc (decide_eq_true (Yb.2 hk)),QG hk,w64 (n:=(x.Xe.length:Int) - 1) (by omega) (by omega)];simp only[Za];rw[show QaN x.Xg[k].a0 0 ((x.Xe.length:Int) - 1)=some (inW x.Xg[k].a0 0 ((x.Xe.length:Int) - 1)) from rfl];simp only[Za];rw[Qw hk (by omega)];unfold QdA
      cases inW x.Xg[k].a0 0 ((x.Xe.length:Int) - 1) with
      | false=>rfl
      | true=>simp only[Bool.not_true,beq_self_eq_true,if_true,Za,Bool.true_and,Bool.false_or];rw[show QaN x.Xg[k].a1 0 ((x.Xe.length:Int) - 1)=some (inW x.Xg[k].a1 0 ((x.Xe.length:Int) - 1)) from rfl];simp only[Za];cases inW x.Xg[k].a1 0 ((x.Xe.length:Int) - 1)<;>rfl
    ·rw[Zc (by simp;omega),decide_eq_false hm];rfl
def QyP (r:Qs):QfM r=some (QbX r):=by
 unfold QfM QbX;simp only[Qiz];rw[show QaN r.N (-1048576) 1048576=some (inW r.N (-1048576) 1048576) from rfl];have ne:∀s:Str,(s !=([]:Str))=!(s==[]):=λs=>rfl;have ap:∀a b:Str,((a++b) !=([]:Str))=!((a==[])&&(b==[])):=λa b=>by cases a<;>cases b<;>rfl
 rw[ne,ne,ap];cases (r.A==[])<;>cases (r.B==[])<;>cases QK r.A<;>cases QK r.B<;>cases QK r.Xj<;>cases QK r.Xi<;>rfl
def QyQ {f:Qc} (hw:f.Words.length<=1000000) (hg:f.Xf.length<=1000000):QfJ f=some (Qg8 f.Words f.Xf):=by
 rw[<-QpD hw hg];unfold QfJ Qc3;have e:(λs5:Int×Int=>((if (decide (s5.1<(f.Xf.length:Int)))=true then (idx f.Xf s5.1).bind λt15=>(QaN t15 (0:Int) (1048576:Int)).bind λt17=>(if (!t17)=true then (some (.inr (.inr false))) else (idx f.Xf s5.1).bind λt23=>(some (.inl ((i64.wrap (s5.1+(1:Int))),(i64.wrap (s5.2+t23)))))) else (some (.inr (.inl s5.2)))):Option ((Int×Int)⊕((Int)⊕(Bool)))))=
   λs5:Int×Int=>((if (decide (s5.1<(f.Xf.length:Int)))=true then (idx f.Xf s5.1).bind λt12=>(Qba t12 (0:Int) (1048576:Int)).bind λt15=>(if (!t15)=true then (some (.inr (.inr false))) else (some (.inl ((i64.wrap (s5.1+(1:Int))),(i64.wrap (s5.2+t12)))))) else (some (.inr (.inl s5.2)))):Option ((Int×Int)⊕((Int)⊕(Bool)))):=by
  funext s
  split
  ·cases hi:idx f.Xf s.1 with
   | none=>rfl
   | some v=>rfl
  ·rfl
 rw[e];congr 1
 funext o
 cases o with
 | inr p=>rfl
 | inl p=>dsimp only;rw[Qrq hw,QlX (p:=QK) hw (λs _=>Qfp s)];rfl
def QCu {w:List Str} {g:List Int} (hw:w.length<=1000000) (hg:g.length<=1000000):decide (i64.wrap ((w.length:Int)+(g.length:Int))>0)=!(decide (w=[])&&decide (g=[])):=by
 rw[w64 (by omega) (by omega)]
 cases w with
 | nil=>cases g with
  | nil=>rfl
  | cons b g=>simp
 | cons a w=>simp;omega
def QwI {f:Qc} (hw:f.Words.length<=1000000) (hg:f.Xf.length<=1000000):Qe3 f=some (fieldS f):=by
 have e1:=QCu hw hg;have hp:=QyQ hw hg;unfold Qe3;rw[e1,hp];clear e1 hp hw hg;obtain⟨n,o,u,k,lo,hi,w,g⟩:=f;simp only[Qbr,Qiz,Za];have ne:∀s:Str,(s !=([]:Str))=!(s==[]):=λs=>rfl;have ni:∀a:Int,(a !=0)=!(a==0):=λa=>rfl;by_cases k0:k=0
 ·subst k0;have e:fieldS ⟨n,o,u,0,lo,hi,w,g⟩=((QK n&&(((((o==[])&&(u==[]))&&(hi==0))&&decide (w=[]))&&decide (g=[])))&&inW lo (-1048576) 1048576):=by
   unfold fieldS Qcy Qcx QbO;simp
  rw[e];simp only[ne,ni];cases QK n<;>cases (o==[])<;>cases (u==[])<;>cases (hi==0)<;>cases decide (w=[])<;>cases decide (g=[])<;>rfl
 by_cases k1:k=1
 ·subst k1;have e:fieldS ⟨n,o,u,1,lo,hi,w,g⟩=((QK n&&(((u==[])&&decide (w=[]))&&decide (g=[])))&&(QK o&&Qdl lo hi 0 65536)):=by
   unfold fieldS Qcy Qcx QbO;simp
  rw[e];simp only[ne,ni];cases QK n<;>cases (u==[])<;>cases decide (w=[])<;>cases decide (g=[])<;>cases QK o<;>rfl
 by_cases k2:k=2
 ·subst k2;have e:fieldS ⟨n,o,u,2,lo,hi,w,g⟩=((QK n&&((((o==[])&&(u==[]))&&decide (w=[]))&&decide (g=[])))&&Qdl lo hi (-1048576) 1048576):=by
   unfold fieldS Qcy Qcx QbO;simp
  rw[e];simp only[ne,ni];cases QK n<;>cases (o==[])<;>cases (u==[])<;>cases decide (w=[])<;>cases decide (g=[])<;>rfl
 by_cases k3:k=3
 ·subst k3;have e:fieldS ⟨n,o,u,3,lo,hi,w,g⟩=((QK n&&((((o==[])&&(u==[]))&&(lo==0))&&(hi==0)))&&Qg8 w g):=by
   unfold fieldS Qcy Qcx QbO;simp
  rw[e];simp only[ne,ni];cases QK n<;>cases (o==[])<;>cases (u==[])<;>cases (lo==0)<;>cases (hi==0)<;>rfl
 by_cases k4:k=4
 ·subst k4;have e:fieldS ⟨n,o,u,4,lo,hi,w,g⟩=((QK n&&(((u==[])&&decide (w=[]))&&decide (g=[])))&&(((o==[])||QK o)&&Qdl lo hi (-1048576) 1048576)):=by
   unfold fieldS Qcy Qcx QbO;simp
  rw[e];simp only[ne,ni];cases QK n<;>cases (u==[])<;>cases decide (w=[])<;>cases decide (g=[])<;>cases QK o<;>cases (o==[])<;>rfl
 by_cases k5:k=5
 ·subst k5;have e:fieldS ⟨n,o,u,5,lo,hi,w,g⟩=((QK n&&(((u==[])&&decide (w=[]))&&decide (g=[])))&&(QK o&&Qdl lo hi 0 32)):=by
   unfold fieldS Qcy Qcx QbO;simp
  rw[e];simp only[ne,ni];cases QK n<;>cases (u==[])<;>cases decide (w=[])<;>cases decide (g=[])<;>cases QK o<;>rfl
 by_cases k6:k=6
 ·subst k6;have e:fieldS ⟨n,o,u,6,lo,hi,w,g⟩=((QK n&&(((((u==[])&&(lo==0))&&(hi==0))&&decide (w=[]))&&decide (g=[])))&&QK o):=by
   unfold fieldS Qcy Qcx QbO;simp
  rw[e];simp only[ne,ni];cases QK n<;>cases (u==[])<;>cases (lo==0)<;>cases (hi==0)<;>cases decide (w=[])<;>cases decide (g=[])<;>cases QK o<;>rfl
 by_cases k7:k=7
 ·subst k7;have e:fieldS ⟨n,o,u,7,lo,hi,w,g⟩=((QK n&&(decide (w=[])&&decide (g=[])))&&((QK o&&QK u)&&Qdl lo hi 0 1048576)):=by
   unfold fieldS Qcy Qcx QbO;simp
  rw[e];simp only[ne,ni];cases QK n<;>cases decide (w=[])<;>cases decide (g=[])<;>cases QK o<;>cases QK u<;>rfl
 by_cases k8:k=8
 ·subst k8;have e:fieldS ⟨n,o,u,8,lo,hi,w,g⟩=((QK n&&((((lo==0)&&(hi==0))&&decide (w=[]))&&decide (g=[])))&&(QK o&&QK u)):=by
   unfold fieldS Qcy Qcx QbO;simp
  rw[e];simp only[ne,ni];cases QK n<;>cases (lo==0)<;>cases (hi==0)<;>cases decide (w=[])<;>cases decide (g=[])<;>cases QK o<;>cases QK u<;>rfl
 have hr:((decide (k<0))||(decide (k>=9)))=true:=by simp;omega
 have e:fieldS ⟨n,o,u,k,lo,hi,w,g⟩=false:=by unfold fieldS QbO;simp[k0,k1,k2,k3,k4,k5,k6,k7,k8]
 rw[e,hr];rfl
def QyR {k:Qg} (h:QlY k.Xb):QfK k=some (kindS k):=by
 unfold QfK kindS;rw[Qiz];simp only[Za]
 cases QK k.Xj with
 | false=>rfl
 | true=>
  rw[show Qdj k.Lo k.Hi 0 65536=some (Qdl k.Lo k.Hi 0 65536) from rfl];simp only[Sim.opt,Bool.not_true,beq_self_eq_true,if_true,Za,Bool.true_and,Bool.false_or]
  cases Qdl k.Lo k.Hi 0 65536 with
  | false=>rfl
  | true=>
   by_cases hm:(k.Xb.length:Int)<=10
   ·rw[Zd (by simp;omega),decide_eq_true hm,QcS k.Xb fieldS false (λi hi=>?_) (Zd (by simp))]
    ·simp only[Bool.true_and,Za];cases k.Xb.all fieldS<;>rfl
    ·have hf:=h.2 _ (Zm hi);have hl:=h.1;rw[Zc (decide_eq_true (Yb.2 hi)),QG hi];simp only[Za];rw[QwI hf.1 hf.2];simp only[Za];rw[Qw hi (by omega)];cases fieldS k.Xb[i]<;>rfl
   ·rw[Zc (by simp;omega),decide_eq_false hm];rfl
def Qrr {u:Nat} (h:u<10):QiQ [u8.wrap (i64.wrap ((48:Int)+(u:Int)))]=[UInt8.ofNat (48+u)]:=by
 have:u=0\/u=1\/u=2\/u=3\/u=4\/u=5\/u=6\/u=7\/u=8\/u=9:=by omega
 rcases this with rfl | rfl | rfl | rfl | rfl | rfl | rfl | rfl | rfl | rfl<;>rfl
def decN:∀(k u:Nat),k<=1000000000000->u<10 ^ (k+1)->u<=1000000000->Qdy (k+1) (u:Int)=some (Lib.decDigits u)
 | k,u,hk,hu,hb=>by
  show QcQ (Qdy k) (u:Int)=_;unfold QcQ;rw[Zd (by simp)];rw[Lib.decDigits];by_cases h:u<10
  ·rw[Zc (by simp;omega),dif_pos h,Qrr h]
  ·rw[Zd (by simp;omega),dif_neg h]
   cases k with
   | zero=>simp at hu;omega
   | succ k=>
    have e1:i64.wrap (Int.tdiv (u:Int) 10)=((u / 10:Nat):Int):=by rw[Int.tdiv_eq_ediv_of_nonneg (by omega),w64 (by omega) (by omega)];rfl
    have e2:Int.tmod (u:Int) 10=((u % 10:Nat):Int):=by rw[Int.tmod_eq_emod_of_nonneg (by omega)];rfl
    rw[e1,e2,decN k (u / 10) (by omega) (by rw[Nat.pow_succ] at hu;omega) (by omega)];simp only[Za];rw[Qrr (by omega)];have hl:=QfA 18 (u / 10) (by omega);have ec:cat ((Lib.decDigits (u / 10)).length+([UInt8.ofNat (48+u % 10)]:Str).length)=some ():=Zc (by rw[length_singleton];omega);rw[ec];rfl
def Qof (u:Nat):u<10 ^ (u+1):=by have h:u+1<10 ^ (u+1):=Nat.lt_pow_self (by decide);omega
def Qum {n:Int} (h:-1000000000<=n/\n<=1000000000):Qe4 n=some (Lib.itoa n):=by
 unfold Qe4 Lib.itoa;by_cases hn:n<0
 ·show QcQ (Qdy (n.natAbs+1)) n=_;unfold QcQ;have e:i64.wrap (0 - n)=(n.natAbs:Int):=by rw[w64 (by omega) (by omega)];omega
  rw[Zc (decide_eq_true hn),Zc hn,e,decN n.natAbs n.natAbs (by omega) (Qof _) (by omega)];simp only[Za];have hl:=QfA 18 n.natAbs (by omega);have ec:cat (([45]:Str).length+(Lib.decDigits n.natAbs).length)=some ():=Zc (by rw[length_singleton];omega);rw[ec];rfl
 ·rw[Zd hn];have e:n=(n.toNat:Int):=by omega
  have e2:n.natAbs+2=(n.natAbs+1)+1:=rfl;rw[e2];have:=decN (n.natAbs+1) n.toNat (by omega) (ZV (Qof n.toNat) (Nat.pow_le_pow_right (by decide) (by omega))) (by omega);rw[<-e] at this;exact this
def Qaf {n:Nat} (h:n<=1000000000000):cat n=some ():=Zc (by omega)
def QcJ {s:Str} {n:Int} (hs:s.length<=100000000000) (h:-1000000000<=n/\n<=1000000000):Qbo s n=some (s++(32::Lib.itoa n)):=by have hl:=Qci (n:=n) (by unfold I64;omega);unfold Qbo;rw[Qaf (by rw[length_singleton];omega)];simp only[Za];rw[Qum h];simp only[Za];rw[Qaf (by rw[Ze,length_singleton];omega)];simp
def Qfq (s:Str):Qd9 s=some (QaL s):=by
 unfold Qd9 QaL;by_cases h:s=[]
 ·rw[Zc (by simp[h]),Zc h]
 ·rw[Zd (by simpa using h),Zd h]
def QkY {s:Str} (h:QK s=true):QaL s=s:=by unfold QaL;rw[Zd];rintro rfl;cases h
def rLine0 {n o u:Str} {lo hi:Int} {w:List Str} {g:List Int} (hn:n.length<=12) (hlo:-1000000000<=lo/\lo<=1000000000):QaC ⟨n,o,u,0,lo,hi,w,g⟩=some (10::([107,101,121]++toks [.str n,.int lo])):=by unfold QaC Qbr Qbz;simp only[Za];rw[show idx ([([107,101,121]:Str),([114,101,102]:Str),([110,117,109]:Str),([112,105,99,107]:Str),([100,97,121]:Str),([115,116,101,112]:Str),([115,117,109]:Str),([115,104,97,114,101]:Str),([99,111,112,121]:Str)]) (0:Int)=some [107,101,121] from rfl];simp only[Za];rw[Qaf (by simp),Qaf (by simp only[Ze,Zj,Zl];omega),Qaf (by simp only[Ze,Zj,Zl];omega)];simp only[Za];rw[Zd (by decide)];simp only[Za];rw[Zd (by decide)];simp only[Za];have l1:=Qci (n:=lo) (by unfold I64;omega);rw[Zc (by decide),QcJ (by simp only[Ze,Zj,Zl];omega) hlo];simp only[Za];rw[Zd (by decide)];simp only[Za];rw[Zd (by decide)];simp[toks,QcY]
def rLine1 {n o u:Str} {lo hi:Int} {w:List Str} {g:List Int} (hn:n.length<=12) (ho:(QaL o).length<=12) (hlo:-1000000000<=lo/\lo<=1000000000) (hhi:-1000000000<=hi/\hi<=1000000000):QaC ⟨n,o,u,1,lo,hi,w,g⟩=some (10::([114,101,102]++toks [.str n,.str (QaL o),.int lo,.int hi])):=by unfold QaC Qbr Qbz;simp only[Za];rw[show idx ([([107,101,121]:Str),([114,101,102]:Str),([110,117,109]:Str),([112,105,99,107]:Str),([100,97,121]:Str),([115,116,101,112]:Str),([115,117,109]:Str),([115,104,97,114,101]:Str),([99,111,112,121]:Str)]) (1:Int)=some [114,101,102] from rfl];simp only[Za];rw[Qaf (by simp),Qaf (by simp only[Ze,Zj,Zl];omega),Qaf (by simp only[Ze,Zj,Zl];omega)];simp only[Za];rw[Zd (by decide)];simp only[Za];rw[Zc (by decide),Qaf (by simp only[Ze,Zj,Zl];omega),Qfq];simp only[Za];rw[Qaf (by simp only[Ze,Zj,Zl];omega)];simp only[Za];have l1:=Qci (n:=lo) (by unfold I64;omega);rw[Zc (by decide),QcJ (by simp only[Ze,Zj,Zl];omega) hlo];simp only[Za];rw[Zc (by decide),QcJ (by simp only[Ze,Zj,Zl];omega) hhi];simp only[Za];rw[Zd (by decide)];simp[toks,QcY]
def rLine2 {n o u:Str} {lo hi:Int} {w:List Str} {g:List Int} (hn:n.length<=12) (hlo:-1000000000<=lo/\lo<=1000000000) (hhi:-1000000000<=hi/\hi<=1000000000):QaC ⟨n,o,u,2,lo,hi,w,g⟩=some (10::([110,117,109]++toks [.str n,.int lo,.int hi])):=by unfold QaC Qbr Qbz;simp only[Za];rw[show idx ([([107,101,121]:Str),([114,101,102]:Str),([110,117,109]:Str),([112,105,99,107]:Str),([100,97,121]:Str),([115,116,101,112]:Str),([115,117,109]:Str),([115,104,97,114,101]:Str),([99,111,112,121]:Str)]) (2:Int)=some [110,117,109] from rfl];simp only[Za];rw[Qaf (by simp),Qaf (by simp only[Ze,Zj,Zl];omega),Qaf (by simp only[Ze,Zj,Zl];omega)];simp only[Za];rw[Zd (by decide)];simp only[Za];rw[Zd (by decide)];simp only[Za];have l1:=Qci (n:=lo) (by unfold I64;omega);rw[Zc (by decide),QcJ (by simp only[Ze,Zj,Zl];omega) hlo];simp only[Za];rw[Zc (by decide),QcJ (by simp only[Ze,Zj,Zl];omega) hhi];simp only[Za];rw[Zd (by decide)];simp[toks,QcY]
def rLine4 {n o u:Str} {lo hi:Int} {w:List Str} {g:List Int} (hn:n.length<=12) (ho:(QaL o).length<=12) (hlo:-1000000000<=lo/\lo<=1000000000) (hhi:-1000000000<=hi/\hi<=1000000000):QaC ⟨n,o,u,4,lo,hi,w,g⟩=some (10::([100,97,121]++toks [.str n,.str (QaL o),.int lo,.int hi])):=by unfold QaC Qbr Qbz;simp only[Za];rw[show idx ([([107,101,121]:Str),([114,101,102]:Str),([110,117,109]:Str),([112,105,99,107]:Str),([100,97,121]:Str),([115,116,101,112]:Str),([115,117,109]:Str),([115,104,97,114,101]:Str),([99,111,112,121]:Str)]) (4:Int)=some [100,97,121] from rfl];simp only[Za];rw[Qaf (by simp),Qaf (by simp only[Ze,Zj,Zl];omega),Qaf (by simp only[Ze,Zj,Zl];omega)];simp only[Za];rw[Zd (by decide)];simp only[Za];rw[Zc (by decide),Qaf (by simp only[Ze,Zj,Zl];omega),Qfq];simp only[Za];rw[Qaf (by simp only[Ze,Zj,Zl];omega)];simp only[Za];have l1:=Qci (n:=lo) (by unfold I64;omega);rw[Zc (by decide),QcJ (by simp only[Ze,Zj,Zl];omega) hlo];simp only[Za];rw[Zc (by decide),QcJ (by simp only[Ze,Zj,Zl];omega) hhi];simp only[Za];rw[Zd (by decide)];simp[toks,QcY]
def rLine5 {n o u:Str} {lo hi:Int} {w:List Str} {g:List Int} (hn:n.length<=12) (ho:(QaL o).length<=12) (hlo:-1000000000<=lo/\lo<=1000000000) (hhi:-1000000000<=hi/\hi<=1000000000):QaC ⟨n,o,u,5,lo,hi,w,g⟩=some (10::([115,116,101,112]++toks [.str n,.str (QaL o),.int lo,.int hi])):=by unfold QaC Qbr Qbz;simp only[Za];rw[show idx ([([107,101,121]:Str),([114,101,102]:Str),([110,117,109]:Str),([112,105,99,107]:Str),([100,97,121]:Str),([115,116,101,112]:Str),([115,117,109]:Str),([115,104,97,114,101]:Str),([99,111,112,121]:Str)]) (5:Int)=some [115,116,101,112] from rfl];simp only[Za];rw[Qaf (by simp),Qaf (by simp only[Ze,Zj,Zl];omega),Qaf (by simp only[Ze,Zj,Zl];omega)];simp only[Za];rw[Zd (by decide)];simp only[Za];rw[Zc (by decide),Qaf (by simp only[Ze,Zj,Zl];omega),Qfq];simp only[Za];rw[Qaf (by simp only[Ze,Zj,Zl];omega)];simp only[Za];have l1:=Qci (n:=lo) (by unfold I64;omega);rw[Zc (by decide),QcJ (by simp only[Ze,Zj,Zl];omega) hlo];simp only[Za];rw[Zc (by decide),QcJ (by simp only[Ze,Zj,Zl];omega) hhi];simp only[Za];rw[Zd (by decide)];simp[toks,QcY]
def rLine6 {n o u:Str} {lo hi:Int} {w:List Str} {g:List Int} (hn:n.length<=12) (ho:(QaL o).length<=12) (hno:QaL o=o):QaC ⟨n,o,u,6,lo,hi,w,g⟩=some (10::([115,117,109]++toks [.str n,.str o])):=by unfold QaC Qbr Qbz;simp only[Za];rw[show idx ([([107,101,121]:Str),([114,101,102]:Str),([110,117,109]:Str),([112,105,99,107]:Str),([100,97,121]:Str),([115,116,101,112]:Str),([115,117,109]:Str),([115,104,97,114,101]:Str),([99,111,112,121]:Str)]) (6:Int)=some [115,117,109] from rfl];simp only[Za];rw[Qaf (by simp),Qaf (by simp only[Ze,Zj,Zl];omega),Qaf (by simp only[Ze,Zj,Zl];omega)];simp only[Za];rw[Zd (by decide)];simp only[Za];rw[Zc (by decide),Qaf (by simp only[Ze,Zj,Zl];omega),Qfq];simp only[Za];rw[Qaf (by simp only[Ze,Zj,Zl];omega)];simp only[Za];rw[Zd (by decide)];simp only[Za];rw[Zd (by decide)];simp only[Za];rw[Zd (by decide)];simp[toks,QcY,hno]
def rLine7 {n o u:Str} {lo hi:Int} {w:List Str} {g:List Int} (hn:n.length<=12) (hu:u.length<=12) (ho:(QaL o).length<=12) (hno:QaL o=o) (hlo:-1000000000<=lo/\lo<=1000000000) (hhi:-1000000000<=hi/\hi<=1000000000):QaC ⟨n,o,u,7,lo,hi,w,g⟩=some (10::([115,104,97,114,101]++toks [.str n,.str u,.str o,.int lo,.int hi])):=by unfold QaC Qbr Qbz;simp only[Za];rw[show idx ([([107,101,121]:Str),([114,101,102]:Str),([110,117,109]:Str),([112,105,99,107]:Str),([100,97,121]:Str),([115,116,101,112]:Str),([115,117,109]:Str),([115,104,97,114,101]:Str),([99,111,112,121]:Str)]) (7:Int)=some [115,104,97,114,101] from rfl];simp only[Za];rw[Qaf (by simp),Qaf (by simp only[Ze,Zj,Zl];omega),Qaf (by simp only[Ze,Zj,Zl];omega)];simp only[Za];rw[Zc (by decide),Qaf (by simp only[Ze,Zj,Zl];omega),Qaf (by simp only[Ze,Zj,Zl];omega)];simp only[Za];rw[Zc (by decide),Qaf (by simp only[Ze,Zj,Zl];omega),Qfq];simp only[Za];rw[Qaf (by simp only[Ze,Zj,Zl];omega)];simp only[Za];have l1:=Qci (n:=lo) (by unfold I64;omega);rw[Zc (by decide),QcJ (by simp only[Ze,Zj,Zl];omega) hlo];simp only[Za];rw[Zc (by decide),QcJ (by simp only[Ze,Zj,Zl];omega) hhi];simp only[Za];rw[Zd (by decide)];simp[toks,QcY,hno]
def rLine8 {n o u:Str} {lo hi:Int} {w:List Str} {g:List Int} (hn:n.length<=12) (hu:u.length<=12) (ho:(QaL o).length<=12) (hno:QaL o=o):QaC ⟨n,o,u,8,lo,hi,w,g⟩=some (10::([99,111,112,121]++toks [.str n,.str u,.str o])):=by unfold QaC Qbr Qbz;simp only[Za];rw[show idx ([([107,101,121]:Str),([114,101,102]:Str),([110,117,109]:Str),([112,105,99,107]:Str),([100,97,121]:Str),([115,116,101,112]:Str),([115,117,109]:Str),([115,104,97,114,101]:Str),([99,111,112,121]:Str)]) (8:Int)=some [99,111,112,121] from rfl];simp only[Za];rw[Qaf (by simp),Qaf (by simp only[Ze,Zj,Zl];omega),Qaf (by simp only[Ze,Zj,Zl];omega)];simp only[Za];rw[Zc (by decide),Qaf (by simp only[Ze,Zj,Zl];omega),Qaf (by simp only[Ze,Zj,Zl];omega)];simp only[Za];rw[Zc (by decide),Qaf (by simp only[Ze,Zj,Zl];omega),Qfq];simp only[Za];rw[Qaf (by simp only[Ze,Zj,Zl];omega)];simp only[Za];rw[Zd (by decide)];simp only[Za];rw[Zd (by decide)];simp only[Za];rw[Zd (by decide)];simp[toks,QcY,hno]
def Qmy (f:Qc):Str:=QjI f++toks (Qaj f)
def Qun (l:List (Str×Int)):toks (l.flatMap λp=>[AnyV.str p.1,AnyV.int p.2])=l.flatMap λp=>(32::p.1)++(32::Lib.itoa p.2):=by
 induction l with
 | nil=>rfl
 | cons a l ih=>rw[flatMap_cons,flatMap_cons,<-ih];simp[toks,QcY]
def rLine3 {n o u:Str} {lo hi:Int} {w:List Str} {g:List Int} (hn:n.length<=12) (hl:w.length=g.length) (h12:w.length<=12) (hw:∀s∈w,s.length<=12) (hg:∀x∈g,0<=x/\x<=1048576):
  QaC ⟨n,o,u,3,lo,hi,w,g⟩=some (10::([112,105,99,107]++toks ([.str n,.int (w.length:Int)]++(w.zip g).flatMap λp=>[.str p.1,.int p.2]))):=by
 have hz:(w.zip g).length=w.length:=by rw[length_zip];omega
 unfold QaC Qbr Qbz;simp only[Za];rw[show idx ([([107,101,121]:Str),([114,101,102]:Str),([110,117,109]:Str),([112,105,99,107]:Str),([100,97,121]:Str),([115,116,101,112]:Str),([115,117,109]:Str),([115,104,97,114,101]:Str),([99,111,112,121]:Str)]) (3:Int)=some [112,105,99,107] from rfl];simp only[Za];rw[Qaf (by simp),Qaf (by simp only[Ze,Zj,Zl];omega),Qaf (by simp only[Ze,Zj,Zl];omega)];simp only[Za];rw[Zd (by decide)];simp only[Za];rw[Zd (by decide)];simp only[Za];rw[Zd (by decide)];simp only[Za];rw[Zd (by decide)];simp only[Za];have l1:=Qci (n:=(w.length:Int)) (by unfold I64;omega);rw[Zc (by decide),QcJ (by simp only[Ze,Zj,Zl];omega) (by omega)];simp only[Za];have lp:∀p∈w.zip g,p.1.length<=12/\0<=p.2/\p.2<=1048576/\(Lib.itoa p.2).length<=20:=λp hp=>by obtain⟨a,b⟩:=p;have h:=of_mem_zip hp;have h2:=hg b h.2;exact⟨hw a h.1,h2.1,h2.2,Qci (by unfold I64;dsimp only;omega)⟩
 rw[QdM (w.zip g) (λp=>(32::p.1)++(32::Lib.itoa p.2)) 40 (λp hp=>?_) _ (λk hk acc hacc=>?_) (λacc=>?_)]
 ·simp only[Za];have e:∀a b:List AnyV,toks (a++b)=toks a++toks b:=λa b=>by unfold toks;rw[ZQ]
  rw[e,Qun];simp[toks,QcY]
 ·have:=lp p hp;simp only[Ze,Zj];omega
 ·have hk':k<w.length:=by omega
  have hp:=lp _ (Zm hk);rw[getElem_zip] at hp ⊢;dsimp only at hp ⊢;simp only[Ze,Zj,Zl] at hacc;rw[Zc (decide_eq_true (Yb.2 hk')),Qaf (by rw[length_singleton];omega),QG hk',QG (show k<g.length by omega)];simp only[Za];rw[Qaf (by rw[Ze,length_singleton];omega)];simp only[Za];rw[QcJ (by rw[Ze,Ze,length_singleton];omega) (by omega),Qw hk' (by omega)];simp
 ·rw[hz,Zd (by simp)]
def QyS {f:Qc} (h:fieldS f=true):QaC f=some (10::Qmy f):=by
 unfold fieldS at h;simp only[Zf] at h;obtain⟨⟨hn,_⟩,hp⟩:=h;have hnl:=Qa5 hn;obtain⟨n,o,u,k,lo,hi,w,g⟩:=f;have nl:∀{s:Str},QK s=true->(QaL s).length<=12:=λ{s} hs=>by rw[QkY hs];exact Qa5 hs
 unfold QbO at hp;dsimp only at hp hn hnl;by_cases c0:k=0
 ·subst c0;rw[Zc rfl] at hp;have:=Qa1 hp;rw[rLine0 hnl (by omega)];rfl
 rw[Zd c0] at hp;by_cases c1:k=1
 ·subst c1;rw[Zc rfl] at hp;simp only[Zf] at hp;have:=Qbw hp.2;rw[rLine1 hnl (nl hp.1) (by omega) (by omega)];rfl
 rw[Zd c1] at hp;by_cases c2:k=2
 ·subst c2;rw[Zc rfl] at hp;have:=Qbw hp;rw[rLine2 hnl (by omega) (by omega)];rfl
 rw[Zd c2] at hp;by_cases c3:k=3
 ·subst c3;rw[Zc rfl] at hp;simp only[Qg8,Zf,Zu,Yd] at hp;obtain⟨hg,⟨⟨hw,hl⟩,_⟩,hws⟩:=hp;have hw':=(Qa1 hw).2;rw[rLine3 hnl (by omega) (by omega) (λs hs=>Qa5 (hws s hs)) (λx hx=>Qa1 (hg x hx))];rfl
 rw[Zd c3] at hp;by_cases c4:k=4
 ·subst c4;rw[Zc rfl] at hp;simp only[Zf] at hp;have:=Qbw hp.2;have ho:(QaL o).length<=12:=by
   by_cases hs:o=[]
   ·subst hs;decide
   ·exact nl (by simpa[hs] using hp.1)
  rw[rLine4 hnl ho (by omega) (by omega)];rfl
 rw[Zd c4] at hp;by_cases c5:k=5
 ·subst c5;rw[Zc rfl] at hp;simp only[Zf] at hp;have:=Qbw hp.2;rw[rLine5 hnl (nl hp.1) (by omega) (by omega)];rfl
 rw[Zd c5] at hp;by_cases c6:k=6
 ·subst c6;rw[Zc rfl] at hp;rw[rLine6 hnl (nl hp) (QkY hp)];rfl
 rw[Zd c6] at hp;by_cases c7:k=7
 ·subst c7;rw[Zc rfl] at hp;simp only[Zf] at hp;have:=Qbw hp.2;rw[rLine7 hnl (Qa5 hp.1.2) (nl hp.1.1) (QkY hp.1.1) (by omega) (by omega)];rfl
 rw[Zd c7] at hp;by_cases c8:k=8
 ·subst c8;rw[Zc rfl] at hp;simp only[Zf] at hp;rw[rLine8 hnl (Qa5 hp.2) (nl hp.1) (QkY hp.1)];rfl
 rw[Zd c8] at hp;cases hp
def QiT (k:Qg):Str:=(10::([107,105,110,100]++toks [.str k.Xj,.int k.Lo,.int k.Hi]))++k.Xb.flatMap λf=>10::Qmy f
def Qog (m:QO):Str:=10::([109,111,118,101]++toks [.int m.a0,.int m.a1])
def QjK (l:QA):Str:=(10::([108,105,102,101]++toks ([.str l.Xj,.int (l.Xe.length:Int)]++l.Xe.map .str)))++l.Xg.flatMap Qog
def Qmz (r:Qs):Str:=10::([114,117,108,101]++toks (Qdu r))
def Qie (x:Qb):Str:=[115,99,104,101,109,97]++(32::Lib.itoa x.Version)
def srcR (x:Qb):Str:=Qie x++x.Xa.flatMap QiT++x.Xd.flatMap QjK++x.Xc.flatMap Qmz
def shift {α:Type} {l:List α} {g h:α->Str} (e:∀a∈l,[10]++g a=h a++[10]):[10]++l.flatMap g=l.flatMap h++[10]:=by
 induction l with
 | nil=>rfl
 | cons a l ih=>rw[flatMap_cons,flatMap_cons,<-ZF,e a Zn,ZF,ih λb hb=>e b (Zq _ hb),ZF]
def Qoh (k:Qg):[10]++QdC k=QiT k++[10]:=by have:=shift (l:=k.Xb) (g:=QcW) (h:=λf=>10::Qmy f) λf _=>rfl;unfold QdC QiT QdB;rw[ZF _ [10],this];simp
def Qoi (l:QA):[10]++Qd5 l=QjK l++[10]:=by have:=shift (l:=l.Xg) (g:=Qf4) (h:=Qog) λm _=>rfl;unfold Qd5 QjK QdB;rw[ZF _ [10],this];simp
def QwJ (x:Qb):srcS x=srcR x++[10]:=by
 have e1:=shift (l:=x.Xa) (g:=QdC) (h:=QiT) λk _=>Qoh k;have e2:=shift (l:=x.Xd) (g:=Qd5) (h:=QjK) λk _=>Qoi k;have e3:=shift (l:=x.Xc) (g:=Qf5) (h:=Qmz) λk _=>rfl;have e0:QdB [115,99,104,101,109,97] [.int x.Version]=Qie x++[10]:=by simp[QdB,Qie,toks,QcY]
 unfold srcS srcR;rw[e0,ZF (Qie x),e1,<-ZF,ZF _ [10],e2,<-ZF,ZF _ [10],e3];simp
def QiA {a b:Str} (h:[10]++a=b++[10]):a.length=b.length:=by have:=ZH length h;simp only[Ze,Zj,Zl] at this;omega
def Quo {x:Qb} (h:Qfh x):QfN x=some (srcR x++[10]):=by
 have hv:=h.version;have l0:(Qie x).length<=30:=by have:=Qci (n:=x.Version) (by unfold I64;omega);unfold Qie;simp only[Ze,Zj,Zl];omega
 have kl:∀k∈x.Xa,(QiT k).length<=50000:=λk hk=>by rw[<-QiA (Qoh k)];exact QjZ (h.kind k hk)
 have ll:∀k∈x.Xd,(QjK k).length<=20000:=λk hk=>by rw[<-QiA (Qoi k)];exact Qic (h.life k hk)
 have rl:∀k∈x.Xc,(Qmz k).length<=1000:=λk hk=>by have e:[10]++Qf5 k=Qmz k++[10]:=rfl;rw[<-QiA e];exact Qj0 (h.rule k hk)
 have lk:=Qda kl;have ll':=Qda ll;have lr:=Qda rl;have nk:=h.kinds;have nl:=h.lives;have nr:=h.rules;unfold QfN;have e0:Qbo [115,99,104,101,109,97] x.Version=some (Qie x):=QcJ (by decide) (by omega);rw[e0];simp only[Za];rw[QdM x.Xa QiT 50000 kl (Qie x) (λk hk acc hacc=>?_) (λacc=>Zd (by simp))]
 ·simp only[Za];rw[QdM x.Xd QjK 20000 ll (Qie x++x.Xa.flatMap QiT) (λk hk acc hacc=>?_) (λacc=>Zd (by simp))]
  ·simp only[Za];rw[QdM x.Xc Qmz 1000 rl (Qie x++x.Xa.flatMap QiT++x.Xd.flatMap QjK) (λk hk acc hacc=>?_) (λacc=>Zd (by simp))]
   ·simp only[Za];rw[Qaf (by simp only[Ze,Zj,Zl];omega)];rfl
   ·have hr:=h.rule _ (Zm hk);simp only[QbX,Zf] at hr;obtain⟨⟨⟨⟨⟨h1,h2⟩,h3⟩,h4⟩,_⟩,h5⟩:=hr;have hN:=Qa1 h5;have n1:=Qa5 h1;have n2:=Qa5 h2;have na:=QkW (QhZ h3);have nb:=QkW (QhZ h4);have na':(QaL x.Xc[k].A).length<=100:=na;have nb':(QaL x.Xc[k].B).length<=100:=nb;simp only[Ze] at hacc;rw[Zc (decide_eq_true (Yb.2 hk))];dsimp only;rw[QG hk];simp only[Za];rw[Qfq,Qfq];simp only[Za];rw[Qaf (by simp only[Zj,Zl];omega),Qaf (by simp only[Ze,Zj,Zl];omega),
     Qaf (by simp only[Ze,Zj,Zl];omega),Qaf (by simp only[Ze,Zj,Zl];omega),
     Qaf (by simp only[Ze,Zj,Zl];omega),Qaf (by simp only[Ze,Zj,Zl];omega),
     Qaf (by simp only[Ze,Zj,Zl];omega),Qaf (by simp only[Ze,Zj,Zl];omega)]
    simp only[Za];rw[QcJ (by simp only[Ze,Zj,Zl];omega) (by omega),Qw hk (by omega)];simp[Qmz,Qdu,toks,QcY]
  ·have hl:=h.life _ (Zm hk);simp only[QdX,Zf,Zu,Zk] at hl;obtain⟨⟨⟨⟨h1,h2⟩,h3⟩,h4⟩,h5⟩:=hl;have hS:=Qa1 h2;have n1:=Qa5 h1;have l1:=Qci (n:=(x.Xd[k].Xe.length:Int)) (by unfold I64;omega);simp only[Ze] at hacc;rw[Zc (decide_eq_true (Yb.2 hk))];dsimp only;rw[QG hk];simp only[Za];rw[Qaf (by simp only[Zj,Zl];omega),Qaf (by simp only[Ze,Zj,Zl];omega)];simp only[Za];rw[QcJ (by simp only[Ze,Zj,Zl];omega) (by omega)];simp only[Za];rw[QdM x.Xd[k].Xe (λs=>32::s) 20 (λs hs=>by have:=Qa5 (h3 s hs);rw[Zj];omega) _ (λq hq acc2 hacc2=>?_) (λacc=>Zd (by simp))]
   ·simp only[Za];have ls:=Qda (l:=x.Xd[k].Xe) (g:=λs=>32::s) (B:=20) (λs hs=>by have:=Qa5 (h3 s hs);rw[Zj];omega);rw[QdM x.Xd[k].Xg Qog 300 (λm hm=>?_) _ (λq hq acc2 hacc2=>?_) (λacc=>Zd (by simp))]
    ·simp only[Za];rw[Qw hk (by omega)];have e:(x.Xd[k].Xe.map AnyV.str).flatMap (λv=>32::QcY v)=x.Xd[k].Xe.flatMap λs=>32::s:=by
      rw[flatMap_map];rfl
     simp[QjK,toks,QcY,<-e]
    ·have e:[10]++Qf4 m=Qog m++[10]:=rfl;rw[<-QiA e];exact Qib (QwD (by omega) (h5 m hm))
    ·have hm:=h5 _ (Zm hq);simp only[QdA,Zf] at hm;have m1:=Qa1 hm.1;have m2:=Qa1 hm.2;have i1:=Qci (n:=x.Xd[k].Xg[q].a0) (by unfold I64;omega);simp only[Ze,Zj,Zl] at hacc2;rw[Zc (decide_eq_true (Yb.2 hq))];dsimp only;rw[Qaf (by simp only[Zj,Zl];omega),QG hq];simp only[Za];rw[QcJ (by simp only[Ze,Zj,Zl];omega) (by omega)];simp only[Za];rw[QcJ (by simp only[Ze,Zj,Zl];omega) (by omega),Qw hq (by omega)];simp[Qog,toks,QcY]
   ·have hs:=Qa5 (h3 _ (Zm hq));simp only[Ze,Zj,Zl] at hacc2;rw[Zc (decide_eq_true (Yb.2 hq))];dsimp only;rw[Qaf (by simp only[Zj,Zl];omega),QG hq];simp only[Za];rw[Qaf (by simp only[Ze,Zj,Zl];omega),Qw hq (by omega)];simp
 ·have hk':=h.kind _ (Zm hk);simp only[kindS,Zf,Zu,Zk] at hk';obtain⟨⟨⟨h1,h2⟩,h3⟩,h4⟩:=hk';have hS:=Qbw h2;have n1:=Qa5 h1;have l1:=Qci (n:=x.Xa[k].Lo) (by unfold I64;omega);have l2:=Qci (n:=x.Xa[k].Hi) (by unfold I64;omega);rw[Zc (decide_eq_true (Yb.2 hk))];dsimp only;rw[QG hk];simp only[Za];rw[Qaf (by simp only[Zj,Zl];omega),Qaf (by simp only[Ze,Zj,Zl];omega)];simp only[Za];rw[QcJ (by simp only[Ze,Zj,Zl];omega) (by omega)];simp only[Za];rw[QcJ (by simp only[Ze,Zj,Zl];omega) (by omega)];simp only[Za];have fl:∀f∈x.Xa[k].Xb,(10::Qmy f).length<=4000:=λf hf=>by
   have e:[10]++QcW f=(10::Qmy f)++[10]:=rfl;rw[<-QiA e];exact Qg9 (Qho (h4 f hf))
  rw[QdM x.Xa[k].Xb (λf=>10::Qmy f) 4000 fl _ (λq hq acc2 hacc2=>?_) (λacc=>Zd (by simp))]
  ·simp only[Za];rw[Qw hk (by omega)];simp[QiT,toks,QcY]
  ·have hf:=fl _ (Zm hq);simp only[Ze,Zj,Zl] at hacc2;rw[Zc (decide_eq_true (Yb.2 hq))];dsimp only;rw[QG hq];simp only[Za];rw[QyS (h4 _ (Zm hq))];simp only[Za];rw[Qaf (by omega),Qw hq (by omega)];rfl
def QwK {x:Qb} (h:Fine x):Qgi x=some (Qep x):=by
 obtain⟨⟨a1,a2⟩,⟨b1,b2⟩,c⟩:=h;have n1:∀(n:Nat) (m:Int),decide ((n:Int)>m)=!decide ((n:Int)<=m):=λn m=>by
  by_cases h:(n:Int)<=m
  ·rw[decide_eq_true h,decide_eq_false (by omega)];rfl
  ·rw[decide_eq_false h,decide_eq_true (by omega)];rfl
 unfold Qgi;rw[show QaN x.Version 0 1048576=some (inW x.Version 0 1048576) from rfl];simp only[Za];rw[n1,n1,n1,QcS x.Xa kindS 1 (λk hk=>?_) (Zd (by simp)),QcS x.Xd QdX 1 (λk hk=>?_) (Zd (by simp)),QcS x.Xc QbX 1 (λk hk=>?_) (Zd (by simp))]
 ·unfold Qep
  cases hv:Qeo x with
  | true=>
   have hs:=Quo (Qiw hv);rw[<-QwJ] at hs;simp only[Qeo,Zf] at hv;obtain⟨⟨⟨⟨⟨⟨h1,h2⟩,h3⟩,h4⟩,h5⟩,h6⟩,h7⟩:=hv;rw[h1,h2,h3,h4,h5,h6,h7,hs];simp only[Bool.not_true,Bool.or_self,if_true,Za];rw[Zd (by decide)];by_cases hl:(srcS x).length>8192
   ·rw[Zc (by simp;omega),Zc hl]
   ·rw[Zd (by simp;omega),Zd hl]
  | false=>
   show _=some (1:Int);unfold Qeo at hv
   cases h1:inW x.Version 0 1048576<;>cases h2:decide ((x.Xa.length:Int)<=6)<;>cases h3:decide ((x.Xd.length:Int)<=6)<;>cases h4:decide ((x.Xc.length:Int)<=16)<;>
    cases h5:x.Xa.all kindS<;>cases h6:x.Xd.all QdX<;>cases h7:x.Xc.all QbX<;>first | rfl | (rw[h1,h2,h3,h4,h5,h6,h7] at hv;cases hv)
 ·rw[Zc (decide_eq_true (Yb.2 hk)),QG hk];simp only[Za];rw[QyP];simp only[Za];rw[Qw hk (by omega)];cases QbX x.Xc[k]<;>rfl
 ·have hl:=b2 _ (Zm hk);rw[Zc (decide_eq_true (Yb.2 hk)),QG hk];simp only[Za];rw[QyO hl.1 hl.2];simp only[Za];rw[Qw hk (by omega)];cases QdX x.Xd[k]<;>rfl
 ·rw[Zc (decide_eq_true (Yb.2 hk)),QG hk];simp only[Za];rw[QyR (a2 _ (Zm hk))];simp only[Za];rw[Qw hk (by omega)];cases kindS x.Xa[k]<;>rfl
def QdN {x:Qb} {n:Str} (hx:x.Xa.length<=1000000):Qb8 x n=some (QQ x n):=by
 unfold Qb8;rw[Qcw x.Xa (λk=>k.Xj==n) (λk hk=>?_) ?_]
 ·unfold QQ QaJ;cases x.Xa.findIdx? _<;>rfl
 ·rw[Zd (by simp)]
 ·rw[Zc (by simpa using hk),QG hk,Qw hk (by omega)];rfl
def QcK {q:Qg} {n:Str} (hx:q.Xb.length<=1000000):Qbg q n=some (Q2 q n):=by
 unfold Qbg;rw[Qcw q.Xb (λk=>k.Xj==n) (λk hk=>?_) ?_]
 ·unfold Q2 QaJ;cases q.Xb.findIdx? _<;>rfl
 ·rw[Zd (by simp)]
 ·rw[Zc (by simpa using hk),QG hk,Qw hk (by omega)];rfl
def has_is (x:Qb) (k j:Int):QhA x k j=some (field? x k j).isSome:=by
 unfold QhA;by_cases hc:(0<=k/\k<x.Xa.length)/\0<=j
 ·obtain⟨⟨h1,h2⟩,h3⟩:=hc;obtain⟨q,hq,_⟩:=QcC h1 h2;rw[Zd (by simp;omega),hq];show some (decide (j<(q.Xb.length:Int)))=_;by_cases h4:j<q.Xb.length
  ·obtain⟨f,hf,_⟩:=QcC h3 h4;rw[Qfz h1 h3 hq hf];simpa using h4
  ·cases h:field? x k j with
   | none=>simpa using h4
   | some f=>obtain⟨q',_,_,e1,e2,_,_,e3⟩:=QbN h;rw[hq] at e1;cases e1;exact (h4 e3).elim
 ·rw[Zc (by simp;omega)]
  cases h:field? x k j with
  | none=>rfl
  | some f=>obtain⟨q',e1,e2,_,_,_,e3,_⟩:=QbN h;exact (hc ⟨⟨e1,e3⟩,e2⟩).elim
def Qif {x:Qb} {k j:Int} (hx:Few x):Qfn x k j=some (upIx x k j):=by
 have fin:∀g:Qc,(if (g.Xi !=1)=true then some (-1) else (Qb8 x g.Of).bind λt62=>if decide (t62>=k)=true then some (-1) else some t62)=some (if g.Xi=1 then QgO x k g else -1):=λg=>by
  by_cases hg:g.Xi=1
  ·rw[Zd (by simp[hg]),Zc hg,QdN (by have:=hx.1;omega)];show (if decide (QQ x g.Of>=k)=true then some (-1) else some (QQ x g.Of))=_;unfold QgO;by_cases hk:QQ x g.Of<k
   ·rw[Zd (by simp;omega),Zc hk]
   ·rw[Zc (by simp;omega),Zd hk]
  ·rw[Zc (by simp[hg]),Zd hg]
 unfold Qfn;rw[has_is];unfold upIx
 cases hf:field? x k j with
 | none=>rfl
 | some f=>
  obtain⟨q,hk,hj,hq,hqf,hqm,_,hjl⟩:=QbN hf;simp only[Za,Option.isSome_some,Bool.not_true];rw[Zd (by decide),hq];simp only[Za];rw[hqf];simp only[Za];unfold jn;dsimp only;by_cases c:f.Xi=7\/f.Xi=8
  ·rw[Zc (by simpa using c),Zc c];rw[QcK (by have:=hx.2 q hqm;omega)];simp only[Za];have hr:=Qc8 q.Xb λg=>g.Xj==f.Up;have hr1:-1<=Q2 q f.Up:=hr.1;have hr2:Q2 q f.Up<q.Xb.length:=hr.2;by_cases hu:0<=Q2 q f.Up/\Q2 q f.Up<j
   ·obtain⟨g,hg,_⟩:=QcC hu.1 hr2;rw[Zd (by simp;omega),Zc hu.2,Qfz hk hu.1 hq hg,hg];exact fin g
   ·rw[Zc (by simp;omega)];by_cases hu2:Q2 q f.Up<j
    ·rw[Zc hu2];have:field? x k (Q2 q f.Up)=none:=by
      cases hg:field? x k (Q2 q f.Up) with
      | none=>rfl
      | some g=>obtain⟨_,_,e,_⟩:=QbN hg;exact (hu ⟨e,hu2⟩).elim
     rw[this]
    ·rw[Zd hu2]
  ·rw[Zd (by simpa using c),Zd c];exact fin f
def QCv {x:Qb} {k j:Int} {f:Qc} (hx:Few x) (hf:field? x k j=some f):QgY x k j=some (Qia x k f):=by
 obtain⟨q0,hk,hj,hq0,hqf,hqm0,_,hjl⟩:=QbN hf;unfold QgY;rw[hq0];simp only[Za];rw[hqf];simp only[Za];rw[QdN (by have:=hx.1;omega)];simp only[Za];unfold Qia;by_cases c:f.Xi≠6\/QQ x f.Of<=k
 ·rw[Zc (by simpa using c),Zc c]
 rw[Zd (by simpa using c),Zd c];have c':k<QQ x f.Of:=by
  rcases Int.lt_or_le k (QQ x f.Of) with h | h
  ·exact h
  ·exact (c (.inr h)).elim
 obtain⟨q,hq,hqm⟩:=QcC (l:=x.Xa) (i:=QQ x f.Of) (by omega) (Qiv x f.Of).2;have hl:=hx.2 q hqm;rw[hq];simp only[Za];refine QdK q.Xb.length (λn=>((n:Int),((range n).filter (QgC x (QQ x f.Of) k f.Xj q.Xb)).map Int.ofNat)) _ rfl (λn hn=>?_) (Zd (by simp)) ?_
 ·rw[Zc (by simpa using hn),QG hn];simp only[Za];rw[Qif hx];have e:QgC x (QQ x f.Of) k f.Xj q.Xb n=(q.Xb[n].Xi==7&&q.Xb[n].Of==f.Xj&&upIx x (QQ x f.Of) (n:Int)==k):=by
   unfold QgC;rw[Zb hn]
  have hle:=Qrk (QgC x (QQ x f.Of) k f.Xj q.Xb) n;rw[QpC,e,Qw hn (by omega)]
  cases h0:(q.Xb[n].Xi==7) with
  | false=>rfl
  | true=>
   simp only[Sim.opt,Bool.true_and,if_true,beq_self_eq_true,Za]
   cases h1:(q.Xb[n].Of==f.Xj) with
   | false=>rfl
   | true=>
    simp only[Bool.true_and,if_true,beq_self_eq_true,Za]
    cases h2:upIx x (QQ x f.Of) (n:Int)==k with
    | false=>rfl
    | true=>rw[Zc rfl,Zc rfl,QaW (by rw[length_singleton];omega)];rfl
 ·unfold shl;rw[hq]
def QpG {x:Qb} {k j:Int} (h:j<0):field? x k j=none:=by unfold field?;rw[Zd (by omega)]
def QwL {x:Qb} {k j:Int} {f:Qc} (h:field? x k j=some f):∃q∈x.Xa,f∈q.Xb:=by obtain⟨q,_,hj,_,hf,hm,_⟩:=QbN h;rw[QgN _ hj] at hf;exact⟨q,hm,Zr hf⟩
def QwM {x:Qb} {k j:Int} {q:Qg} {f:Qc} (hx:Few x) (hq:idx x.Xa k=some q) (hf:field? x k j=some f):
  Qgk x k j=some (if (topS x k j f).2=true then ((topS x k j f).1.Xi,(topS x k j f).1) else (-1,QcI)):=by
 obtain⟨q',hk,hj,hq',hqf,hqm,hkl,hjl⟩:=QbN hf;rw[hq] at hq';cases hq';unfold Qgk topS;rw[Qif hx];simp only[Za];by_cases hu:upIx x k j<0
 ·rw[Zc (by simpa using hu),Zc hu];rfl
 ·rw[Zd (by simpa using hu),Zd hu];have h1:=Qo0 x k j hk;obtain⟨r,hr,hrm⟩:=QcC (l:=x.Xa) (i:=upIx x k j) (by omega) (by omega);rw[hr,hq];simp only[Za];rw[hqf];simp only[Za];rw[QcK (by have:=hx.2 r hrm;omega)];simp only[Za];have hrange:=Qc8 r.Xb λg=>g.Xj==f.Of;have hr2:Q2 r f.Of<r.Xb.length:=hrange.2;by_cases hi:Q2 r f.Of<0
  ·rw[Zc (by simpa using hi),QpG hi];rfl
  ·rw[Zd (by simpa using hi)];obtain⟨g,hg,_⟩:=QcC (l:=r.Xb) (i:=Q2 r f.Of) (by omega) hr2;rw[Qfz (by omega) (by omega) hr hg,hg];rfl
def QCw {x:Qb} {k j:Int} {f:Qc} (h:(topS x k j f).2=true):∃q∈x.Xa,(topS x k j f).1∈q.Xb:=by
 unfold topS at h ⊢;split at h
 ·cases h
 ·rename_i hu;rw[Zd hu];split at h
  ·cases h
  ·rename_i q hq
   cases hf:field? x (upIx x k j) (Q2 q f.Of) with
   | none=>rw[hf] at h;cases h
   | some g=>exact QwL hf
def Known (x:Qb):Prop:=∀q∈x.Xa,∀g∈q.Xb,0<=g.Xi/\g.Xi<=8
def Qst {x:Qb} (h:Qep x=0):Known x:=by
 intro q hq g hg;unfold Qep at h;split at h
 ·rename_i hv;exact (Qho ((Qb4 ((Qiw hv).kind q hq)).2.2 g hg)).kind
 ·cases h
def Qoj (a:Bool) (c:Int):QaR [⟨a,c⟩]=if a=true then c else 0:=rfl
def Qkj (a b:Bool) (c d:Int):QaR [⟨a,c⟩,⟨b,d⟩]=if a=true then c else if b=true then d else 0:=rfl
def QwN {x:Qb} {k j:Int} {q:Qg} {f:Qc} (hx:Few x) (hl:x.Xd.length<=1000) (hn:Known x) (hq:idx x.Xa k=some q) (hf:field? x k j=some f):Qgl x k j=some (QgP x q k j f):=by
 obtain⟨q',hk,hj,hq',hqf,hqm,hkl,hjl⟩:=QbN hf;rw[hq] at hq';cases hq';have hab:=QwM hx hq hf;have hkind:0<=f.Xi/\f.Xi<=8:=by rw[QgN _ hj] at hqf;exact hn q hqm f (Zr hqf)
 unfold Qgl;rw[hq];simp only[Za];rw[hqf];simp only[Za];rw[Qif hx,QcK (by have:=hx.2 q hqm;omega),QCv hx hf];simp only[Za];unfold jn;dsimp only;unfold QgP;by_cases c0:f.Xi=0
 ·rw[Zc c0,Qoj,c0];by_cases hj0:j>0
  ·rw[decide_eq_true hj0];rfl
  ·rw[decide_eq_false hj0];rfl
 have n0:(f.Xi==0)=false:=by simpa using c0
 rw[Zd c0,n0];simp only[Bool.false_and];rw[Zd (by decide),Zd (by decide)];by_cases c1:f.Xi=1
 ·rw[Zc c1,Qoj,c1];show (if decide (upIx x k j<0)=true then some 12 else some 0)=_;by_cases hu:upIx x k j<0
  ·rw[Zc (by simpa using hu),Zc (by simpa using hu)]
  ·rw[Zd (by simpa using hu),Zd (by simpa using hu)]
 rw[Zd c1];by_cases c2:f.Xi=2
 ·rw[c2];rfl
 by_cases c3:f.Xi=3
 ·rw[c3];rfl
 have n1:(f.Xi==1)=false:=by simpa using c1
 have n2:(f.Xi==2)=false:=by simpa using c2
 have n3:(f.Xi==3)=false:=by simpa using c3
 rw[n1,n2,n3];simp only[ZL,if_false,Za];by_cases c4:f.Xi=4
 ·rw[Zc c4,Qoj,Zc (by simp[c4])];by_cases ho:f.Of=[]
  ·rw[Zc (by simp[ho]),Zd (by simp[ho])]
  ·rw[Zd (by simpa using ho)];have ho':(f.Of !=[])=true:=by simpa using ho
   rw[ho',Bool.true_and];by_cases hr:Q2 q f.Of<0\/Q2 q f.Of>=j
   ·have:(decide (Q2 q f.Of<0)||decide (Q2 q f.Of>=j))=true:=by simpa using hr
    rw[this,Bool.true_or];rfl
   ·have e:(decide (Q2 q f.Of<0)||decide (Q2 q f.Of>=j))=false:=by
     rw[Bool.eq_false_iff];simpa using hr
    obtain⟨g,hg,_⟩:=QcC (l:=q.Xb) (i:=Q2 q f.Of) (by omega) (by omega);rw[e,Bool.false_or,Qfz hk (by omega) hq hg,hg];rw[Zd (by decide)];simp only[Za];cases g.Xi !=4<;>rfl
 have n4:(f.Xi==4)=false:=by simpa using c4
 rw[Zd c4,n4,Zd (by decide)];by_cases c5:f.Xi=5
 ·rw[Zc c5,Qoj,Zc (by simp[c5]),QcS x.Xd (λl=>!(l.Xj==f.Of)) (0:Int) (λn hn=>?_) (Zd (by simp))]
  ·simp only[Za];have e:(x.Xd.all λl=>!(l.Xj==f.Of))=!(x.Xd.any λl=>l.Xj==f.Of):=by
    rw[not_any_eq_all_not]
   rw[e];cases (x.Xd.any λl=>l.Xj==f.Of)<;>rfl
  ·rw[Zc (decide_eq_true (Yb.2 hn)),QG hn];simp only[Za];rw[Qw hn (by omega)];cases x.Xd[n].Xj==f.Of<;>rfl
 have n5:(f.Xi==5)=false:=by simpa using c5
 rw[Zd c5,n5,Zd (by decide)];by_cases c6:f.Xi=6
 ·rw[Zc c6,Qkj,Zc (by simp[c6])];cases decide ((Qia x k f).1<0)<;>cases ((Qia x k f).2.length:Int) !=1<;>rfl
 have n6:(f.Xi==6)=false:=by simpa using c6
 rw[Zd c6,n6,Zd (by decide)];unfold QhB;rw[hab,hq];simp only[Za];rw[hqf];simp only[Za];by_cases hu:upIx x k j<0
 ·rw[Zc (by simpa using hu)];by_cases c7:f.Xi=7
  ·rw[Zc c7,Qkj,Zc (by simpa using hu)];rfl
  ·have c8:f.Xi=8:=by omega
   rw[Zd c7,Zc c8,Qkj,Zc (by simpa using hu)];rfl
 rw[Zd (by simpa using hu)];have hud:decide (upIx x k j<0)=false:=by simpa using hu
 by_cases c7:f.Xi=7
 ·have e7:(f.Xi==7)=true:=by simp[c7]
  rw[Zc c7,Qkj,hud,e7]
  cases ht:(topS x k j f).2 with
  | false=>rfl
  | true=>
   simp only[ZL,if_false,if_true];rw[QdN (by have:=hx.1;omega)]
   cases h6:((topS x k j f).1.Xi !=6) with
   | true=>rfl
   | false=>simp only[Sim.opt,beq_self_eq_true,if_true,Za];cases QQ x (topS x k j f).1.Of !=k<;>rfl
 ·have c8:f.Xi=8:=by omega
  have n7:(f.Xi==7)=false:=by simpa using c7
  rw[Zd c7,Zc c8,Qkj,hud,n7]
  cases ht:(topS x k j f).2 with
  | false=>rfl
  | true=>
   obtain⟨r,hr,hg⟩:=QCw ht;have hgk:=hn r hr _ hg;have hz:(topS x k j f).1.Xi=0\/(topS x k j f).1.Xi=1\/(topS x k j f).1.Xi=2\/(topS x k j f).1.Xi=3\/(topS x k j f).1.Xi=4\/(topS x k j f).1.Xi=5\/(topS x k j f).1.Xi=6\/(topS x k j f).1.Xi=7\/(topS x k j f).1.Xi=8:=by omega
   simp only[ZL,if_false,if_true];unfold Qro;rcases hz with h | h | h | h | h | h | h | h | h<;>rw[h]<;>rfl
def toR (p:Qz):QF:=⟨p.Xi,p.Field,p.Rule,p.Code⟩
def Qup {x:Qb} {k:Int} {q:Qg} {n:Str} (hk:0<=k) (hq:idx x.Xa k=some q) (hn:(n==([]:Str))=false):
  (QbP x k n=true/\Q2 q n<0)\/∃g,QbP x k n=false/\0<=Q2 q n/\idx q.Xb (Q2 q n)=some g/\QbQ x k n=((g.Xi !=2)&&(g.Xi !=4)):=by
 have hd:decide (k<0)=false:=decide_eq_false (by omega);have hr2:Q2 q n<q.Xb.length:=(Qc8 q.Xb λg=>g.Xj==n).2;unfold QbP QbQ Qix;rw[hq,hn,hd];dsimp only;by_cases hi:Q2 q n<0
 ·rw[QpG hi];exact .inl ⟨rfl,hi⟩
 ·obtain⟨g,hg,_⟩:=QcC (l:=q.Xb) (i:=Q2 q n) (by omega) hr2;rw[Qfz hk (by omega) hq hg];exact .inr ⟨g,rfl,by omega,hg,by simp⟩
def QwO {x:Qb} {i:Nat} {r:Qs} (hx:Few x) (hl:x.Xc.length<=1000) (hi:i<x.Xc.length) (hr:x.Xc[i]?=some r):Qgm x (i:Int)=some (QhG x i r):=by
 unfold Qgm;rw[QbS,hr];simp only[Za];have hil:(x.Xc.take i).length=i:=by rw[Yh];omega
 rw[QcS (x.Xc.take i) (λs=>!(s.Xj==r.Xj)) (7:Int) (λn hn=>?_) (by rw[hil];exact Zd (by simp))]
 ·simp only[Za];have e:((x.Xc.take i).all λs=>!(s.Xj==r.Xj))=!((x.Xc.take i).any λs=>s.Xj==r.Xj):=by
   rw[not_any_eq_all_not]
  rw[e];unfold QhG
  cases hany:((x.Xc.take i).any λs=>s.Xj==r.Xj) with
  | true=>rfl
  | false=>
   simp only[Bool.not_false,if_true];rw[QdN (by have:=hx.1;omega)];simp only[Za];by_cases hk:QQ x r.Xi<0
   ·rw[Zc (by simpa using hk),decide_eq_true hk];rfl
   ·rw[Zd (by simpa using hk),decide_eq_false hk];obtain⟨q,hq,hqm⟩:=QcC (l:=x.Xa) (i:=QQ x r.Xi) (by omega) (Qiv x r.Xi).2;rw[hq];unfold jn;dsimp only;have fin:∀{body:Int×Bool->Option ((Int×Bool)⊕(Bool⊕Int))},(∀b,body (0,b)=if QbP x (QQ x r.Xi) r.A=true then some (.inr (.inr 12)) else some (.inl (1,b||QbQ x (QQ x r.Xi) r.A)))->
      (∀b,body (1,b)=if QbP x (QQ x r.Xi) r.B=true then some (.inr (.inr 12)) else some (.inl (2,b||QbQ x (QQ x r.Xi) r.B)))->(∀b,body (2,b)=some (.inr (.inl b)))->
      Ql body (0,false)=some (if (QbP x (QQ x r.Xi) r.A||QbP x (QQ x r.Xi) r.B)=true then .inr 12 else .inl (QbQ x (QQ x r.Xi) r.A||QbQ x (QQ x r.Xi) r.B)):=λh0 h1 h2=>by
     rw[Qac,h0]
     cases QbP x (QQ x r.Xi) r.A with
     | true=>rfl
     | false=>
      rw[Zd (by decide)];dsimp only;rw[Qac,h1]
      cases QbP x (QQ x r.Xi) r.B with
      | true=>rfl
      | false=>rw[Zd (by decide)];dsimp only;rw[Qac,h2];simp
    have step:∀(n:Str) (b:Bool) (c:Bool->Option ((Int×Bool)⊕(Bool⊕Int))),(if (n==([]:Str))=true then c b else (Option.some q).bind λt55=>(Option.some n).bind λt59=>(Qbg t55 t59).bind λt61=>if decide (t61<0)=true then some (.inr (.inr 12)) else (Option.some q).bind λt67=>(idx t67.Xb t61).bind λt71=>c (b||((t71.Xi !=2)&&(t71.Xi !=4))))=
      if QbP x (QQ x r.Xi) n=true then some (.inr (.inr 12)) else c (b||QbQ x (QQ x r.Xi) n):=λn b c=>by
     cases hn:(n==([]:Str)) with
     | true=>
      have hm:QbP x (QQ x r.Xi) n=false:=by unfold QbP;rw[hn];rfl
      have hw:QbQ x (QQ x r.Xi) n=false:=by unfold QbQ;rw[hn];rfl
      rw[hm,hw,Zc rfl,Zd (by decide),Bool.or_false]
     | false=>
      rw[Zd (by decide)];simp only[Za];rw[QcK (by have:=hx.2 q hqm;omega)];simp only[Za];rcases Qup (by omega) hq hn with⟨hm,hi⟩ | ⟨g,hm,hi,hg,hw⟩
      ·rw[hm,Zc (by simpa using hi),Zc rfl]
      ·rw[hm,hw,Zd (by simp;omega),Zd (by decide),hg];rfl
    rw[fin (λb=>(step r.A b λp=>some (.inl (1,p)))) (λb=>(step r.B b λp=>some (.inl (2,p)))) (λb=>rfl)];simp only[Za];cases QbP x (QQ x r.Xi) r.A<;>cases QbP x (QQ x r.Xi) r.B<;>cases QbQ x (QQ x r.Xi) r.A<;>cases QbQ x (QQ x r.Xi) r.B<;>cases (r.A==r.B)<;>rfl
 ·have hn':n<i:=by omega
  rw[Zc (decide_eq_true (Yb.2 hn')),QG (show n<x.Xc.length by omega)];simp only[Za];rw[Qw hn' (by omega),getElem_take];cases x.Xc[n].Xj==r.Xj<;>rfl
def Qh0 {k j r e:Int} {l:List QF} (h:l.length<=1000000000):Qcd l k j r e=some (l++(prob k j r e).map toR):=by
 unfold Qcd prob;by_cases he:e=0
 ·rw[Zc (by simp[he]),Zc he,Yx,Yj]
 ·rw[Zd (by simpa using he),Zd he,QaW (by rw[length_singleton];omega)];rfl
def QyT (l:List Qc):Qgj l=some (!(((l.length:Int)==0)||((l.headD QcI).Xi !=0))):=by
 unfold Qgj
 cases l with
 | nil=>rfl
 | cons f l=>
  have e:(((f::l).length:Int)==0)=false:=by simp;omega
  rw[e,show idx (f::l) (0:Int)=some f from rfl,Zd (by decide)];simp[bne]
def QpH {x:Qb} (h:QcZ x):Qe5 x=some ((Q0 x).map toR):=by
 obtain⟨hx,hfine,hlv,hrl⟩:=h;unfold Qe5;rw[QwK hfine];simp only[Za];unfold Q0;by_cases hv:Qep x=0
 ·rw[Zd (by simp[hv]),Zc hv];have hn:=Qst hv;have one:∀k j r e,((prob k j r e).map toR).length<=1:=λk j r e=>by rw[Zz];exact Qhl k j r e
  have b0:∀j,((QfC x j).map toR).length<=1:=λj=>by rw[Zz];exact QjJ x j
  have b1:((Qc1 x).map toR).length<=1000:=by have:=Qbh x.Xd.length (QfC x) 1 (λj _=>QjJ x j);rw[Zz];unfold Qc1;omega
  have kl:∀k,k<x.Xa.length->((QeJ x k).map toR).length<=1001:=λk hk=>by rw[Zz];unfold QeJ;rw[Zb hk];dsimp only;have:=QmZ (x:=x) (i:=k) (hx.2 _ (Zm hk));have:=Qhl k (-1) (-1) (Qha x k x.Xa[k]);rw[Ze];omega
  have b2:((Qfi x).map toR).length<=1001000:=by have:=Qbh x.Xa.length (λk=>(QeJ x k).map toR) 1001 kl;have:=hx.1;unfold Qfi;rw[map_flatMap];omega
  have hk1:=hx.1;rw[Qcj x.Xd.length (λk=>(QfC x k).map toR) 1 (λj _=>b0 j) [] (λk hk acc hacc=>?_) (λacc=>Zd (by simp))]
  ·rw[show ([]:List QF)++(range x.Xd.length).flatMap (λk=>(QfC x k).map toR)=(Qc1 x).map toR by unfold Qc1;rw[map_flatMap];rfl];simp only[Za];rw[Qcj x.Xa.length (λk=>(QeJ x k).map toR) 1001 kl ((Qc1 x).map toR) (λk hk acc hacc=>?_) (λacc=>Zd (by simp))]
   ·rw[show (Qc1 x).map toR++(range x.Xa.length).flatMap (λk=>(QeJ x k).map toR)=(Qc1 x).map toR++(Qfi x).map toR by unfold Qfi;rw[map_flatMap]];simp only[Za];rw[Qcj x.Xc.length (λk=>(Qid x k).map toR) 1 (λj _=>by rw[Zz];exact QpF x j) ((Qc1 x).map toR++(Qfi x).map toR) (λk hk acc hacc=>?_) (λacc=>Zd (by simp))]
    ·simp only[Za];rw[ZM,ZM];unfold Qoe;rw[map_flatMap]
    ·rw[Ze] at hacc;rw[Zc (decide_eq_true (Yb.2 hk))];dsimp only;rw[QwO hx hrl hk (Zb hk)];simp only[Za];rw[Qh0 (by omega)];simp only[Za];unfold Qid;rw[Qw hk (by omega),Zb hk]
   ·have hq:=QG hk;have hqf:=hx.2 _ (Zm hk);rw[Zc (decide_eq_true (Yb.2 hk))];dsimp only;rw[hq];simp only[Za];rw[QdN (by omega),QyT];simp only[Za];have ek:(if decide (QQ x x.Xa[k].Xj<(k:Int))=true then (Qcd acc (k:Int) (-1) (-1) 7).bind λt70=>some t70 else (if (!!(((x.Xa[k].Xb.length:Int)==0)||((x.Xa[k].Xb.headD QcI).Xi !=0)))=true then (Qcd acc (k:Int) (-1) (-1) 11).bind λt76=>some t76 else some acc).bind λp320=>some p320)=
      some (acc++(prob (k:Int) (-1) (-1) (Qha x k x.Xa[k])).map toR):=by
     unfold Qha;rw[Qkj,Qh0 (by omega),Qh0 (by omega),Bool.not_not]
     cases decide (QQ x x.Xa[k].Xj<(k:Int)) with
     | true=>rfl
     | false=>
      cases (((x.Xa[k].Xb.length:Int)==0)||((x.Xa[k].Xb.headD QcI).Xi !=0)) with
      | true=>rfl
      | false=>simp[prob]
    rw[ek];simp only[Za];have pl:=one k (-1) (-1) (Qha x k x.Xa[k]);rw[Qcj x.Xa[k].Xb.length (λj=>(QfV x k x.Xa[k] j).map toR) 1 (λj _=>by rw[Zz];exact QkX x k _ j) _ (λj hj acc2 hacc2=>?_) (λacc=>Zd (by simp))]
    ·simp only[Za];unfold QeJ;rw[Qw hk (by omega),Zb hk,ZF,ZM];unfold Qi8;rw[map_flatMap]
    ·rw[Ze] at hacc2;rw[Zc (decide_eq_true (Yb.2 hj))];dsimp only;rw[QG hj];simp only[Za];rw[QcK (by omega)];simp only[Za];have hf:field? x (k:Int) (j:Int)=some x.Xa[k].Xb[j]:=Qfz (by omega) (by omega) hq (QG hj);rw[QwN hx hlv hn hq hf];simp only[Za];rw[Qh0 (by omega),Qh0 (by omega)];simp only[Za];unfold QfV Qiy;rw[Qw hj (by omega),Zb hj];dsimp only;by_cases hd:Q2 x.Xa[k] x.Xa[k].Xb[j].Xj<(j:Int)
     ·rw[Zc (by simpa using hd),Zc hd];rfl
     ·rw[Zd (by simpa using hd),Zd hd];rfl
  ·rw[Zl] at hacc;rw[Zc (decide_eq_true (Yb.2 hk))];dsimp only;rw[Qh0 (by omega)];simp only[Za];have hil:(x.Xd.take k).length=k:=by rw[Yh];omega
   have hget:∀n,n<k->∀h:n<x.Xd.length,(x.Xd.take k)[n]?=some x.Xd[n]:=λn hn h=>by rw[getElem?_take,Zc hn,Zb h]
   refine QlT k (λn=>match x.Xd[n]? with | some m=>m.Xj==x.Xd[k].Xj | none=>false) acc (λ_=>acc++(prob (-1) (k:Int) (-1) 7).map toR) (λn hn hp=>?_) (λn hn hp=>?_) (Zd (by simp)) (λhp=>?_) (λn hn hp=>?_)
   ·rw[Zb (show n<x.Xd.length by omega)] at hp;dsimp only at hp;rw[Zc (decide_eq_true (Yb.2 hn)),QG (show n<x.Xd.length by omega),QG hk];simp only[Za];rw[hp,Zd (by decide),Qw hn (by omega)]
   ·rw[Zb (show n<x.Xd.length by omega)] at hp;dsimp only at hp;rw[Zc (decide_eq_true (Yb.2 hn)),QG (show n<x.Xd.length by omega),QG hk];simp only[Za];rw[hp,Zc rfl]
   ·have e:((x.Xd.take k).any λm=>m.Xj==x.Xd[k].Xj)=false:=by
     rw[any_eq_false];intro m hm;obtain⟨n,hn,rfl⟩:=Ye hm;have h1:=hp n (by omega);rw[Zb (show n<x.Xd.length by omega)] at h1;dsimp only at h1;rw[getElem_take,h1];decide
    rw[Qw hk (by omega)];unfold QfC Qul;rw[Zb hk];dsimp only;rw[e];simp[QaR,prob]
   ·have e:((x.Xd.take k).any λm=>m.Xj==x.Xd[k].Xj)=true:=by
     rw[Zb (show n<x.Xd.length by omega)] at hp;exact Yo.2 ⟨x.Xd[n],Zr (hget n hn (by omega)),hp⟩
    rw[Qw hk (by omega)];unfold QfC Qul;rw[Zb hk];dsimp only;rw[e];rfl
 ·rw[Zc (by simpa using hv),Zd hv,Qh0 (by simp)];unfold prob;rw[Zd hv];rfl

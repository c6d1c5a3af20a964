/- typing.Check. No condition. -/
import Derived.Test.YtlajingmjmnfgaaGreatDoorCtA
set_option linter.all false
open List Go.IntKind
namespace Go.Proofs.YtlajingmjmnfgaaGreatDoor
open Go.Sim
def Qz6 {x:Qe} {i:Nat} {r:Qh} (hx:Few x) (hl:x.Xc.length<=1000) (hi:i<x.Xc.length) (hr:x.Xc[i]?=some r):QeM x (i:Int)=some (Ql1 x i r):=by
 unfold QeM;rw[QeY,hr];simp only[Za];have hs:Sim.sub x.Xc 0 (i:Int)=some (x.Xc.take i):=by unfold Sim.sub;rw[Zb ⟨by decide,by omega,by omega⟩];simp
 rw[hs];simp only[Za];rw[QmO (f:=λx0=>QeG x0 r) (p:=λs=>s.Xj==r.Xj) (by rw[ZE];omega) (λs _=>rfl)];simp only[Za];rw[QdF (by have:=hx.1;omega)];simp only[Za];have hk:=(Qjq x r.Xi).2
 let st:Nat->Int×Bool×Bool:=λn=>match n with
  | 0=>(0,decide (QW x r.Xi<0),false)
  | 1=>(1,decide (QW x r.Xi<0)||Qdu x (QW x r.Xi) r.A,false||Qdk x (QW x r.Xi) r.A)
  | _=>(2,(decide (QW x r.Xi<0)||Qdu x (QW x r.Xi) r.A)||Qdu x (QW x r.Xi) r.B,(false||Qdk x (QW x r.Xi) r.A)||Qdk x (QW x r.Xi) r.B)
 refine Qkl 2 st ((st 2).2.1,(st 2).2.2) rfl (λn hn=>?_) rfl ?_
 ·have:n=0\/n=1:=by omega
  rcases this with rfl | rfl
  ·have h:=Qpx (x:=x) (k:=QW x r.Xi) (n:=r.A) (a:=decide (QW x r.Xi<0)) (b:=false) hx hk id;show (Option.bind (if _ then _ else _) _:Option _)=_;exact (ZQ (λo=>Option.bind o (λp55:Bool×Bool=>some (Sum.inl ((i64.wrap ((0:Int)+(1:Int))),p55.1,p55.2)))) h:_)
  ·have h:=Qpx (x:=x) (k:=QW x r.Xi) (n:=r.B) (a:=decide (QW x r.Xi<0)||Qdu x (QW x r.Xi) r.A) (b:=false||Qdk x (QW x r.Xi) r.A) hx hk id;show (Option.bind (if _ then _ else _) _:Option _)=_;exact (ZQ (λo=>Option.bind o (λp55:Bool×Bool=>some (Sum.inl ((i64.wrap ((1:Int)+(1:Int))),p55.1,p55.2)))) h:_)
 ·dsimp only;rw[QhO (by simp)];simp[st,Ql1]
def Qdl {β:Type} (n:Nat) (g:Nat->List β) (B:Nat) (hB:∀k,k<n->(g k).length<=B) (a0:List β) {body:Int×List β->Option ((Int×List β)⊕List β)}
  (hs:∀k,k<n->∀acc:List β,acc.length<=a0.length+k * B->body ((k:Int),acc)=some (.inl (((k+1:Nat):Int),acc++g k))) (he:∀acc,body ((n:Int),acc)=some (.inr acc)):
  Qu body ((0:Int),a0)=some (a0++(range n).flatMap g):=by
 have hlen:∀m,m<=n->((range m).flatMap g).length<=m * B:=λm=>by
  induction m with
  | zero=>intro _;simp
  | succ m ih=>intro hm;rw[Yr,Zx,Zd,Nat.succ_mul];have h1:=ih (by omega);have h2:=hB m (by omega);simp only[flatMap_cons,flatMap_nil,ZX];omega
 have h:=QeA (body:=body) n (λm=>((m:Int),a0++(range m).flatMap g)) (a0++(range n).flatMap g) (λk hk=>?_) ?_
 ·simpa using h
 ·rw[hs k hk _ (by rw[Zd];have:=hlen k (by omega);omega),Yr,Zx];simp
 ·rw[he]
def prob (k j r e:Int):List Qr:=if e=0 then [] else [⟨k,j,r,e⟩]
def QhP (k j r e:Int):(prob k j r e).length<=1:=by unfold prob;split<;>simp
def Qor {k j r e:Int} {l:List Qr} (h:l.length<=1000000000):QbK k j r e l=some (l++prob k j r e):=by
 unfold QbK prob;by_cases he:e=0
 ·rw[Zc (by simp[he]),Zb he,ZX];rfl
 ·rw[Zb (by simpa using he),Zc he,Qb4 (by rw[length_singleton];omega)];rfl
def Qtd (x:Qe) (i:Nat) (l:Qs):Int:=Qbi [⟨(x.Xd.take i).any λm=>m.Xj==l.Xj,7⟩]
def Qos (x:Qe) (q:Qf) (k j:Int) (f:Qb):Int:=if Qaf q f.Xj<j then 7 else Ql0 x q k j f
def QgF (x:Qe) (i:Nat):List Qr:=match x.Xd[i]? with | some l=>prob (-1) (i:Int) (-1) (Qtd x i l) | none=>[]
def Qio (x:Qe) (i:Nat) (q:Qf) (j:Nat):List Qr:=match q.Xb[j]? with | some f=>prob (i:Int) (j:Int) (-1) (Qos x q (i:Int) (j:Int) f) | none=>[]
def Qnb (x:Qe) (i:Nat) (q:Qf):List Qr:=(range q.Xb.length).flatMap (Qio x i q)
def Qhe (x:Qe) (i:Nat):List Qr:=match x.Xa[i]? with | some q=>prob (i:Int) (-1) (-1) (QjT x (i:Int) q)++Qnb x i q | none=>[]
def QjU (x:Qe) (i:Nat):List Qr:=match x.Xc[i]? with | some r=>prob (-1) (-1) (i:Int) (Ql1 x i r) | none=>[]
def Qep (x:Qe):List Qr:=(range x.Xd.length).flatMap (QgF x)
def QhF (x:Qe):List Qr:=(range x.Xa.length).flatMap (Qhe x)
def Qvm (x:Qe):List Qr:=(range x.Xc.length).flatMap (QjU x)
def QkD (x:Qe) (i:Nat):(QgF x i).length<=1:=by unfold QgF;cases x.Xd[i]? with | none=>simp | some f=>exact QhP _ _ _ _
def Ql2 (x:Qe) (i:Nat) (q:Qf) (j:Nat):(Qio x i q j).length<=1:=by unfold Qio;cases q.Xb[j]? with | none=>simp | some f=>exact QhP _ _ _ _
def Qpy (x:Qe) (i:Nat):(QjU x i).length<=1:=by unfold QjU;cases x.Xc[i]? with | none=>simp | some f=>exact QhP _ _ _ _
def Qa0 (x:Qe):List Qr:=if Qgt x=0 then Qep x++QhF x++Qvm x else [⟨-1,-1,-1,Qgt x⟩]
def Qci {β:Type} (n:Nat) (g:Nat->List β) (B:Nat) (hB:∀k,k<n->(g k).length<=B):((range n).flatMap g).length<=n * B:=by
 induction n with
 | zero=>simp
 | succ n ih=>rw[Yr,Zx,Zd,Nat.succ_mul];have h1:=ih λk hk=>hB k (by omega);have h2:=hB n (by omega);simp only[flatMap_cons,flatMap_nil,ZX];omega
structure Qd8 (x:Qe):Prop where
 few:Few x
 fine:Fine x
 lives:x.Xd.length<=1000
 rules:x.Xc.length<=1000
def Sz.short {x:Qe} (h:Sz x):Qd8 x:=⟨h.few,h.fine,by have:=h.2.1.1;omega,by have:=h.2.2.1;omega⟩
def Qnr {x:Qe} {i:Nat} {q:Qf} (h:q.Xb.length<=1000):(Qnb x i q).length<=1000:=by have:=Qci q.Xb.length (Qio x i q) 1 (λj _=>Ql2 x i q j);unfold Qnb;omega
def Qq6 {x:Qe} (h:Qd8 x):Qds x=some (Qa0 x):=by
 obtain⟨hx,hfine,hlv,hrl⟩:=h;unfold Qds;rw[QwS hfine];simp only[Za];unfold Qa0;by_cases hv:Qgt x=0
 ·rw[Zc (by simp[hv]),Zb hv];have b1:(Qep x).length<=1000:=by
   have:=Qci x.Xd.length (QgF x) 1 (λj _=>QkD x j);unfold Qep;omega
  have kl:∀k,k<x.Xa.length->(Qhe x k).length<=1001:=λk hk=>by unfold Qhe;rw[Ze hk];dsimp only;have:=Qnr (x:=x) (i:=k) (hx.2 _ (Zl hk));have:=QhP k (-1) (-1) (QjT x k x.Xa[k]);rw[Zd];omega
  have b2:(QhF x).length<=1001000:=by have:=Qci x.Xa.length _ 1001 kl;have:=hx.1;unfold QhF;omega
  have hk1:=hx.1;rw[Qdl x.Xd.length (QgF x) 1 (λj _=>QkD x j) [] (λk hk acc hacc=>?_) (λacc=>Zc (by simp))]
  ·rw[show ([]:List Qr)++(range x.Xd.length).flatMap (QgF x)=Qep x from rfl];simp only[Za];rw[Qdl x.Xa.length (Qhe x) 1001 kl (Qep x) (λk hk acc hacc=>?_) (λacc=>Zc (by simp))]
   ·rw[show Qep x++(range x.Xa.length).flatMap (Qhe x)=Qep x++QhF x from rfl];simp only[Za];rw[Qdl x.Xc.length (QjU x) 1 (λj _=>Qpy x j) (Qep x++QhF x) (λk hk acc hacc=>?_) (λacc=>Zc (by simp))]
    ·rfl
    ·rw[Zd] at hacc;rw[Zb (by simpa using hk)];dsimp only;rw[Qz6 hx hrl hk (Ze hk)];simp only[Za];rw[Qor (by omega)];simp only[Za];unfold QjU;rw[QH hk (by omega),Ze hk]
   ·have hq:=QY hk;have hqf:=hx.2 _ (Zl hk);rw[Zb (by simpa using hk)];dsimp only;rw[hq];simp only[Za];rw[Qz5 hx hq];simp only[Za];rw[Qor (by omega)];simp only[Za];have pl:=QhP k (-1) (-1) (QjT x k x.Xa[k]);rw[Qdl x.Xa[k].Xb.length (Qio x k x.Xa[k]) 1 (λj _=>Ql2 x k _ j) _ (λj hj acc2 hacc2=>?_) (λacc=>Zc (by simp))]
    ·simp only[Za];unfold Qhe;rw[QH hk (by omega),Ze hk,Zu];rfl
    ·rw[Zd] at hacc2;rw[Zb (by simpa using hj)];dsimp only;rw[QY hj];simp only[Za];rw[QcA (by omega)];simp only[Za];rw[QhO (by simp)];simp only[Za];have hf:field? x (k:Int) (j:Int)=some x.Xa[k].Xb[j]:=QgY (by omega) (by omega) hq (QY hj);have e:(if ((QbA x.Xa[k].Xb[j].Xi).isSome&&(Qbi [⟨decide (Qaf x.Xa[k] x.Xa[k].Xb[j].Xj<(j:Int)),7⟩]==0))=true then (QlA (QbY.mk (QbA x.Xa[k].Xb[j].Xi)).check ⟨x,k,j,x.Xa[k].Xb[j]⟩).bind λt97=>some t97 else some (Qbi [⟨decide (Qaf x.Xa[k] x.Xa[k].Xb[j].Xj<(j:Int)),7⟩]))=some (Qos x x.Xa[k] k j x.Xa[k].Xb[j]):=by
      unfold Qos;by_cases hd:Qaf x.Xa[k] x.Xa[k].Xb[j].Xj<(j:Int)
      ·rw[Zb hd,Zc (by simp[Qbi,hd])];simp[Qbi,hd]
      ·rw[Zc hd];have e0:Qbi [⟨decide (Qaf x.Xa[k] x.Xa[k].Xb[j].Xj<(j:Int)),7⟩]=0:=by simp[Qbi,hd]
       rw[e0]
       cases hs:(QbA x.Xa[k].Xb[j].Xi).isSome with
       | true=>rw[Zb (by simp),QwT hx hlv hq hf hs];rfl
       | false=>rw[Zc (by simp),QwU hs]
     rw[e];simp only[Za];rw[Qor (by omega)];simp only[Za];unfold Qio;rw[QH hj (by omega),Ze hj]
  ·rw[Zi] at hacc;rw[Zb (by simpa using hk)];dsimp only;rw[QY hk];simp only[Za];have hs:Sim.sub x.Xd 0 (k:Int)=some (x.Xd.take k):=by
    unfold Sim.sub;rw[Zb ⟨by decide,by omega,by omega⟩];simp
   rw[hs];simp only[Za];rw[Qkn (f:=λx0=>Qd2 x0 x.Xd[k]) (p:=λm=>m.Xj==x.Xd[k].Xj) (by rw[ZE];omega) (λl _=>rfl)];simp only[Za];rw[QhO (by simp)];simp only[Za];rw[Qor (by omega)];simp only[Za];unfold QgF;rw[QH hk (by omega),Ze hk];rfl
 ·rw[Zb (by simpa using hv),Zc hv]
def out_or (n:Nat):((decide ((n:Int)<1))||(decide ((n:Int)>12)))=!inW (n:Int) 1 12:=by
 unfold inW;by_cases h1:(n:Int)<1
 ·rw[decide_eq_true h1,decide_eq_false (by omega:¬(n:Int)>=1)];rfl
 ·rw[decide_eq_false h1,decide_eq_true (by omega:(n:Int)>=1)];by_cases h2:(n:Int)>12
  ·rw[decide_eq_true h2,decide_eq_false (by omega:¬(n:Int)<=12)];rfl
  ·rw[decide_eq_false h2,decide_eq_true (by omega:(n:Int)<=12)];rfl
def Qjs (s:Str):Qbe s=some (Q3 s):=by
 unfold Qbe Q3;rw[out_or]
 cases s with
 | nil=>rfl
 | cons c s=>
  cases h:inW ((c::s).length:Int) 1 12 with
  | false=>rfl
  | true=>
   have hl:=(Qdi h).2;rw[show idx (c::s) (0:Int)=some c from rfl];simp only[Sim.opt,Bool.not_true,beq_self_eq_true,if_true,Za];rw[show QeX (c.toNat:Int)=some (QdG (c.toNat:Int)) from rfl];simp only[Za]
   cases hc:QdG (c.toNat:Int) with
   | false=>simp[hc]
   | true=>
    rw[Zc (by decide),QbT (c::s) (λb=>QdG (b.toNat:Int)||Qim (b.toNat:Int)) false (λk hk=>?_) (Zc (by simp))]
    ·have e:(QZ (c::s)).all (λc=>QdG c||Qim c)=(c::s).all (λb=>QdG (b.toNat:Int)||Qim (b.toNat:Int)):=by
      unfold QZ;rw[all_map];rfl
     rw[e];simp only[headD_cons,hc,Bool.true_and,Za];cases (c::s).all (λb=>QdG (b.toNat:Int)||Qim (b.toNat:Int))<;>rfl
    ·rw[Zb (decide_eq_true (Zv.2 hk)),QY hk];simp only[Za];rw[show QeX (((c::s)[k]).toNat:Int)=some (QdG (((c::s)[k]).toNat:Int)) from rfl];simp only[Za];rw[QH hk (by omega)]
     cases QdG (((c::s)[k]).toNat:Int) with
     | true=>rfl
     | false=>simp only[Bool.not_false,beq_self_eq_true,if_true,Za,Bool.true_and,Bool.false_or];rw[show Qih (((c::s)[k]).toNat:Int)=some (Qim (((c::s)[k]).toNat:Int)) from rfl];simp only[Za];cases Qim (((c::s)[k]).toNat:Int)<;>rfl
def Qq7 {l:List Str} (hl:l.length<=1000000):Qfv l=some (l.all Q3):=by
 unfold Qfv;rw[QbT l Q3 false (λk hk=>?_) (Zc (by simp))]
 ·cases l.all Q3<;>rfl
 ·rw[Zb (by simpa using hk),QY hk];simp only[Za];rw[Qjs];simp only[Za];rw[QH hk (by omega)];cases Q3 l[k]<;>rfl
def QwV {x:Qs} (h1:x.Xe.length<=1000000) (h2:x.Xg.length<=1000000):Qgm x=some (QfU x):=by
 unfold Qgm QfU;rw[Qjs];simp only[Za]
 cases Q3 x.Xj with
 | false=>rfl
 | true=>
  rw[show QaT (x.Xe.length:Int) 1 12=some (inW (x.Xe.length:Int) 1 12) from rfl];simp only[Sim.opt,Bool.not_true,beq_self_eq_true,if_true,Za,Bool.true_and,Bool.false_or]
  cases inW (x.Xe.length:Int) 1 12 with
  | false=>rfl
  | true=>
   rw[Qq7 h1];simp only[Bool.not_true,beq_self_eq_true,if_true,Za,Bool.true_and,Bool.false_or]
   cases x.Xe.all Q3 with
   | false=>rfl
   | true=>
    by_cases hm:(x.Xg.length:Int)<=32
    ·rw[Zc (by simp;omega),decide_eq_true hm,QbT x.Xg (Qi8 (x.Xe.length:Int)) false (λk hk=>?_) (Zc (by simp))]
     ·simp only[Bool.true_and,Za];cases x.Xg.all (Qi8 (x.Xe.length:Int))<;>rfl
     ·rw[Zb (decide_eq_true (Zv.2 hk)),QY hk,w64 (n:=(x.Xe.length:Int) - 1) (by omega) (by omega)];simp only[Za];rw[show QaT x.Xg[k].a0 0 ((x.Xe.length:Int) - 1)=some (inW x.Xg[k].a0 0 ((x.Xe.length:Int) - 1)) from rfl];simp only[Za];rw[QH hk (by omega)];unfold Qi8
      cases inW x.Xg[k].a0 0 ((x.Xe.length:Int) - 1) with
      | false=>rfl
      | true=>simp only[Bool.not_true,beq_self_eq_true,if_true,Za,Bool.true_and,Bool.false_or];rw[show QaT x.Xg[k].a1 0 ((x.Xe.length:Int) - 1)=some (inW x.Xg[k].a1 0 ((x.Xe.length:Int) - 1)) from rfl];simp only[Za];cases inW x.Xg[k].a1 0 ((x.Xe.length:Int) - 1)<;>rfl
    ·rw[Zb (by simp;omega),decide_eq_false hm];rfl
def QwW (r:Qh):Qgn r=some (Qfd r):=by
 unfold Qgn Qfd;simp only[Qjs];rw[show QaT r.N (-1048576) 1048576=some (inW r.N (-1048576) 1048576) from rfl];have ne:∀s:Str,(s !=([]:Str))=!(s==[]):=λs=>rfl;have ap:∀a b:Str,((a++b) !=([]:Str))=!((a==[])&&(b==[])):=λa b=>by cases a<;>cases b<;>rfl
 rw[ne,ne,ap];cases (r.A==[])<;>cases (r.B==[])<;>cases Q3 r.A<;>cases Q3 r.B<;>cases Q3 r.Xj<;>cases Q3 r.Xi<;>rfl
def QwX {f:Qb} (hw:f.Words.length<=1000000) (hg:f.Xf.length<=1000000):Qgk f=some (QjS f.Words f.Xf):=by
 rw[<-Qpu hw hg];unfold Qgk Qcp;have e:(λs5:Int×Int=>((if (decide (s5.1<(f.Xf.length:Int)))=true then (idx f.Xf s5.1).bind λt15=>(QaT t15 (0:Int) (1048576:Int)).bind λt17=>(if (!t17)=true then (some (.inr (.inr false))) else (idx f.Xf s5.1).bind λt23=>(some (.inl ((i64.wrap (s5.1+(1:Int))),(i64.wrap (s5.2+t23)))))) else (some (.inr (.inl s5.2)))):Option ((Int×Int)⊕((Int)⊕(Bool)))))=
   λs5:Int×Int=>((if (decide (s5.1<(f.Xf.length:Int)))=true then (idx f.Xf s5.1).bind λt12=>(QaZ t12 (0:Int) (1048576:Int)).bind λt15=>(if (!t15)=true then (some (.inr (.inr false))) else (some (.inl ((i64.wrap (s5.1+(1:Int))),(i64.wrap (s5.2+t12)))))) else (some (.inr (.inl s5.2)))):Option ((Int×Int)⊕((Int)⊕(Bool)))):=by
  funext s
  split
  ·cases hi:idx f.Xf s.1 with
   | none=>rfl
   | some v=>rfl
  ·rfl
 rw[e];congr 1
 funext o
 cases o with
 | inr p=>rfl
 | inl p=>dsimp only;rw[Qq7 hw,QmP (p:=Q3) hw (λs _=>QfN s)];rfl
def Qz7 {w:List Str} {g:List Int} (hw:w.length<=1000000) (hg:g.length<=1000000):decide (i64.wrap ((w.length:Int)+(g.length:Int))>0)=!(decide (w=[])&&decide (g=[])):=by
 rw[w64 (by omega) (by omega)]
 cases w with
 | nil=>cases g with
  | nil=>rfl
  | cons b g=>simp
 | cons a w=>simp;omega
def Qvn {f:Qb} (hw:f.Words.length<=1000000) (hg:f.Xf.length<=1000000):Qfw f=some (QaX f):=by
 have e1:=Qz7 hw hg;have hp:=QwX hw hg;unfold Qfw;rw[e1,hp];clear e1 hp hw hg;obtain⟨n,o,u,k,lo,hi,w,g⟩:=f;simp only[QbL,Qjs,Za];have ne:∀s:Str,(s !=([]:Str))=!(s==[]):=λs=>rfl;have ni:∀a:Int,(a !=0)=!(a==0):=λa=>rfl;by_cases k0:k=0
 ·subst k0;have e:QaX ⟨n,o,u,0,lo,hi,w,g⟩=((Q3 n&&(((((o==[])&&(u==[]))&&(hi==0))&&decide (w=[]))&&decide (g=[])))&&inW lo (-1048576) 1048576):=by
   unfold QaX QgD Qhd QgE;simp
  rw[e];simp only[ne,ni];cases Q3 n<;>cases (o==[])<;>cases (u==[])<;>cases (hi==0)<;>cases decide (w=[])<;>cases decide (g=[])<;>rfl
 by_cases k1:k=1
 ·subst k1;have e:QaX ⟨n,o,u,1,lo,hi,w,g⟩=((Q3 n&&(((u==[])&&decide (w=[]))&&decide (g=[])))&&(Q3 o&&Qfb lo hi 0 65536)):=by
   unfold QaX QgD Qhd QgE;simp
  rw[e];simp only[ne,ni];cases Q3 n<;>cases (u==[])<;>cases decide (w=[])<;>cases decide (g=[])<;>cases Q3 o<;>rfl
 by_cases k2:k=2
 ·subst k2;have e:QaX ⟨n,o,u,2,lo,hi,w,g⟩=((Q3 n&&((((o==[])&&(u==[]))&&decide (w=[]))&&decide (g=[])))&&Qfb lo hi (-1048576) 1048576):=by
   unfold QaX QgD Qhd QgE;simp
  rw[e];simp only[ne,ni];cases Q3 n<;>cases (o==[])<;>cases (u==[])<;>cases decide (w=[])<;>cases decide (g=[])<;>rfl
 by_cases k3:k=3
 ·subst k3;have e:QaX ⟨n,o,u,3,lo,hi,w,g⟩=((Q3 n&&((((o==[])&&(u==[]))&&(lo==0))&&(hi==0)))&&QjS w g):=by
   unfold QaX QgD Qhd QgE;simp
  rw[e];simp only[ne,ni];cases Q3 n<;>cases (o==[])<;>cases (u==[])<;>cases (lo==0)<;>cases (hi==0)<;>rfl
 by_cases k4:k=4
 ·subst k4;have e:QaX ⟨n,o,u,4,lo,hi,w,g⟩=((Q3 n&&(((u==[])&&decide (w=[]))&&decide (g=[])))&&(((o==[])||Q3 o)&&Qfb lo hi (-1048576) 1048576)):=by
   unfold QaX QgD Qhd QgE;simp
  rw[e];simp only[ne,ni];cases Q3 n<;>cases (u==[])<;>cases decide (w=[])<;>cases decide (g=[])<;>cases Q3 o<;>cases (o==[])<;>rfl
 by_cases k5:k=5
 ·subst k5;have e:QaX ⟨n,o,u,5,lo,hi,w,g⟩=((Q3 n&&(((u==[])&&decide (w=[]))&&decide (g=[])))&&(Q3 o&&Qfb lo hi 0 32)):=by
   unfold QaX QgD Qhd QgE;simp
  rw[e];simp only[ne,ni];cases Q3 n<;>cases (u==[])<;>cases decide (w=[])<;>cases decide (g=[])<;>cases Q3 o<;>rfl
 by_cases k6:k=6
 ·subst k6;have e:QaX ⟨n,o,u,6,lo,hi,w,g⟩=((Q3 n&&(((((u==[])&&(lo==0))&&(hi==0))&&decide (w=[]))&&decide (g=[])))&&Q3 o):=by
   unfold QaX QgD Qhd QgE;simp
  rw[e];simp only[ne,ni];cases Q3 n<;>cases (u==[])<;>cases (lo==0)<;>cases (hi==0)<;>cases decide (w=[])<;>cases decide (g=[])<;>cases Q3 o<;>rfl
 by_cases k7:k=7
 ·subst k7;have e:QaX ⟨n,o,u,7,lo,hi,w,g⟩=((Q3 n&&(decide (w=[])&&decide (g=[])))&&((Q3 o&&Q3 u)&&Qfb lo hi 0 1048576)):=by
   unfold QaX QgD Qhd QgE;simp
  rw[e];simp only[ne,ni];cases Q3 n<;>cases decide (w=[])<;>cases decide (g=[])<;>cases Q3 o<;>cases Q3 u<;>rfl
 by_cases k8:k=8
 ·subst k8;have e:QaX ⟨n,o,u,8,lo,hi,w,g⟩=((Q3 n&&((((lo==0)&&(hi==0))&&decide (w=[]))&&decide (g=[])))&&(Q3 o&&Q3 u)):=by
   unfold QaX QgD Qhd QgE;simp
  rw[e];simp only[ne,ni];cases Q3 n<;>cases (lo==0)<;>cases (hi==0)<;>cases decide (w=[])<;>cases decide (g=[])<;>cases Q3 o<;>cases Q3 u<;>rfl
 have hr:((decide (k<0))||(decide (k>=9)))=true:=by simp;omega
 have e:QaX ⟨n,o,u,k,lo,hi,w,g⟩=false:=by unfold QaX QgE;simp[k0,k1,k2,k3,k4,k5,k6,k7,k8]
 rw[e,hr];rfl
def QwY {k:Qf} (h:QmR k.Xb):Qgl k=some (Qfc k):=by
 unfold Qgl Qfc;rw[Qjs];simp only[Za]
 cases Q3 k.Xj with
 | false=>rfl
 | true=>
  rw[show QdN k.Lo k.Hi 0 65536=some (Qfb k.Lo k.Hi 0 65536) from rfl];simp only[Sim.opt,Bool.not_true,beq_self_eq_true,if_true,Za,Bool.true_and,Bool.false_or]
  cases Qfb k.Lo k.Hi 0 65536 with
  | false=>rfl
  | true=>
   by_cases hm:(k.Xb.length:Int)<=10
   ·rw[Zc (by simp;omega),decide_eq_true hm,QbT k.Xb QaX false (λi hi=>?_) (Zc (by simp))]
    ·simp only[Bool.true_and,Za];cases k.Xb.all QaX<;>rfl
    ·have hf:=h.2 _ (Zl hi);have hl:=h.1;rw[Zb (decide_eq_true (Zv.2 hi)),QY hi];simp only[Za];rw[Qvn hf.1 hf.2];simp only[Za];rw[QH hi (by omega)];cases QaX k.Xb[i]<;>rfl
   ·rw[Zb (by simp;omega),decide_eq_false hm];rfl
def Qq8 {u:Nat} (h:u<10):QjN [u8.wrap (i64.wrap ((48:Int)+(u:Int)))]=[UInt8.ofNat (48+u)]:=by
 have:u=0\/u=1\/u=2\/u=3\/u=4\/u=5\/u=6\/u=7\/u=8\/u=9:=by omega
 rcases this with rfl | rfl | rfl | rfl | rfl | rfl | rfl | rfl | rfl | rfl<;>rfl
def decN:∀(k u:Nat),k<=1000000000000->u<10 ^ (k+1)->u<=1000000000->Qd4 (k+1) (u:Int)=some (Lib.decDigits u)
 | k,u,hk,hu,hb=>by
  show Qdf (Qd4 k) (u:Int)=_;unfold Qdf;rw[Zc (by simp)];rw[Lib.decDigits];by_cases h:u<10
  ·rw[Zb (by simp;omega),dif_pos h,Qq8 h]
  ·rw[Zc (by simp;omega),dif_neg h]
   cases k with
   | zero=>simp at hu;omega
   | succ k=>
    have e1:i64.wrap (Int.tdiv (u:Int) 10)=((u / 10:Nat):Int):=by rw[Int.tdiv_eq_ediv_of_nonneg (by omega),w64 (by omega) (by omega)];rfl
    have e2:Int.tmod (u:Int) 10=((u % 10:Nat):Int):=by rw[Int.tmod_eq_emod_of_nonneg (by omega)];rfl
    rw[e1,e2,decN k (u / 10) (by omega) (by rw[Nat.pow_succ] at hu;omega) (by omega)];simp only[Za];rw[Qq8 (by omega)];have hl:=Qin 18 (u / 10) (by omega);have ec:cat ((Lib.decDigits (u / 10)).length+([UInt8.ofNat (48+u % 10)]:Str).length)=some ():=Zb (by rw[length_singleton];omega);rw[ec];rfl
def Qot (u:Nat):u<10 ^ (u+1):=by have h:u+1<10 ^ (u+1):=Nat.lt_pow_self (by decide);omega
def Qte {n:Int} (h:-1000000000<=n/\n<=1000000000):Qfx n=some (Lib.itoa n):=by
 unfold Qfx Lib.itoa;by_cases hn:n<0
 ·show Qdf (Qd4 (n.natAbs+1)) n=_;unfold Qdf;have e:i64.wrap (0 - n)=(n.natAbs:Int):=by rw[w64 (by omega) (by omega)];omega
  rw[Zb (decide_eq_true hn),Zb hn,e,decN n.natAbs n.natAbs (by omega) (Qot _) (by omega)];simp only[Za];have hl:=Qin 18 n.natAbs (by omega);have ec:cat (([45]:Str).length+(Lib.decDigits n.natAbs).length)=some ():=Zb (by rw[length_singleton];omega);rw[ec];rfl
 ·rw[Zc hn];have e:n=(n.toNat:Int):=by omega
  have e2:n.natAbs+2=(n.natAbs+1)+1:=rfl;rw[e2];have:=decN (n.natAbs+1) n.toNat (by omega) (ZB (Qot n.toNat) (Nat.pow_le_pow_right (by decide) (by omega))) (by omega);rw[<-e] at this;exact this
def Qac {n:Nat} (h:n<=1000000000000):cat n=some ():=Zb (by omega)
def Qc0 {s:Str} {n:Int} (hs:s.length<=100000000000) (h:-1000000000<=n/\n<=1000000000):QbG s n=some (s++(32::Lib.itoa n)):=by have hl:=Qcw (n:=n) (by unfold I64;omega);unfold QbG;rw[Qac (by rw[length_singleton];omega)];simp only[Za];rw[Qte h];simp only[Za];rw[Qac (by rw[Zd,length_singleton];omega)];simp
def QfP (s:Str):QeN s=some (Qbc s):=by
 unfold QeN Qbc;by_cases h:s=[]
 ·rw[Zb (by simp[h]),Zb h]
 ·rw[Zc (by simpa using h),Zc h]
def Ql3 {s:Str} (h:Q3 s=true):Qbc s=s:=by unfold Qbc;rw[Zc];rintro rfl;cases h
def rLine0 {n o u:Str} {lo hi:Int} {w:List Str} {g:List Int} (hn:n.length<=12) (hlo:-1000000000<=lo/\lo<=1000000000):QaD ⟨n,o,u,0,lo,hi,w,g⟩=some (10::([107,101,121]++toks [.str n,.int lo])):=by unfold QaD QbL QbU;simp only[Za];rw[show idx ([([107,101,121]:Str),([114,101,102]:Str),([110,117,109]:Str),([112,105,99,107]:Str),([100,97,121]:Str),([115,116,101,112]:Str),([115,117,109]:Str),([115,104,97,114,101]:Str),([99,111,112,121]:Str)]) (0:Int)=some [107,101,121] from rfl];simp only[Za];rw[Qac (by simp),Qac (by simp only[Zd,Zh,Zi];omega),Qac (by simp only[Zd,Zh,Zi];omega)];simp only[Za];rw[Zc (by decide)];simp only[Za];rw[Zc (by decide)];simp only[Za];have l1:=Qcw (n:=lo) (by unfold I64;omega);rw[Zb (by decide),Qc0 (by simp only[Zd,Zh,Zi];omega) hlo];simp only[Za];rw[Zc (by decide)];simp only[Za];rw[Zc (by decide)];simp[toks,Qd7]
def rLine1 {n o u:Str} {lo hi:Int} {w:List Str} {g:List Int} (hn:n.length<=12) (ho:(Qbc o).length<=12) (hlo:-1000000000<=lo/\lo<=1000000000) (hhi:-1000000000<=hi/\hi<=1000000000):QaD ⟨n,o,u,1,lo,hi,w,g⟩=some (10::([114,101,102]++toks [.str n,.str (Qbc o),.int lo,.int hi])):=by unfold QaD QbL QbU;simp only[Za];rw[show idx ([([107,101,121]:Str),([114,101,102]:Str),([110,117,109]:Str),([112,105,99,107]:Str),([100,97,121]:Str),([115,116,101,112]:Str),([115,117,109]:Str),([115,104,97,114,101]:Str),([99,111,112,121]:Str)]) (1:Int)=some [114,101,102] from rfl];simp only[Za];rw[Qac (by simp),Qac (by simp only[Zd,Zh,Zi];omega),Qac (by simp only[Zd,Zh,Zi];omega)];simp only[Za];rw[Zc (by decide)];simp only[Za];rw[Zb (by decide),Qac (by simp only[Zd,Zh,Zi];omega),QfP];simp only[Za];rw[Qac (by simp only[Zd,Zh,Zi];omega)];simp only[Za];have l1:=Qcw (n:=lo) (by unfold I64;omega);rw[Zb (by decide),Qc0 (by simp only[Zd,Zh,Zi];omega) hlo];simp only[Za];rw[Zb (by decide),Qc0 (by simp only[Zd,Zh,Zi];omega) hhi];simp only[Za];rw[Zc (by decide)];simp[toks,Qd7]
def rLine2 {n o u:Str} {lo hi:Int} {w:List Str} {g:List Int} (hn:n.length<=12) (hlo:-1000000000<=lo/\lo<=1000000000) (hhi:-1000000000<=hi/\hi<=1000000000):QaD ⟨n,o,u,2,lo,hi,w,g⟩=some (10::([110,117,109]++toks [.str n,.int lo,.int hi])):=by unfold QaD QbL QbU;simp only[Za];rw[show idx ([([107,101,121]:Str),([114,101,102]:Str),([110,117,109]:Str),([112,105,99,107]:Str),([100,97,121]:Str),([115,116,101,112]:Str),([115,117,109]:Str),([115,104,97,114,101]:Str),([99,111,112,121]:Str)]) (2:Int)=some [110,117,109] from rfl];simp only[Za];rw[Qac (by simp),Qac (by simp only[Zd,Zh,Zi];omega),Qac (by simp only[Zd,Zh,Zi];omega)];simp only[Za];rw[Zc (by decide)];simp only[Za];rw[Zc (by decide)];simp only[Za];have l1:=Qcw (n:=lo) (by unfold I64;omega);rw[Zb (by decide),Qc0 (by simp only[Zd,Zh,Zi];omega) hlo];simp only[Za];rw[Zb (by decide),Qc0 (by simp only[Zd,Zh,Zi];omega) hhi];simp only[Za];rw[Zc (by decide)];simp[toks,Qd7]
def rLine4 {n o u:Str} {lo hi:Int} {w:List Str} {g:List Int} (hn:n.length<=12) (ho:(Qbc o).length<=12) (hlo:-1000000000<=lo/\lo<=1000000000) (hhi:-1000000000<=hi/\hi<=1000000000):QaD ⟨n,o,u,4,lo,hi,w,g⟩=some (10::([100,97,121]++toks [.str n,.str (Qbc o),.int lo,.int hi])):=by unfold QaD QbL QbU;simp only[Za];rw[show idx ([([107,101,121]:Str),([114,101,102]:Str),([110,117,109]:Str),([112,105,99,107]:Str),([100,97,121]:Str),([115,116,101,112]:Str),([115,117,109]:Str),([115,104,97,114,101]:Str),([99,111,112,121]:Str)]) (4:Int)=some [100,97,121] from rfl];simp only[Za];rw[Qac (by simp),Qac (by simp only[Zd,Zh,Zi];omega),Qac (by simp only[Zd,Zh,Zi];omega)];simp only[Za];rw[Zc (by decide)];simp only[Za];rw[Zb (by decide),Qac (by simp only[Zd,Zh,Zi];omega),QfP];simp only[Za];rw[Qac (by simp only[Zd,Zh,Zi];omega)];simp only[Za];have l1:=Qcw (n:=lo) (by unfold I64;omega);rw[Zb (by decide),Qc0 (by simp only[Zd,Zh,Zi];omega) hlo];simp only[Za];rw[Zb (by decide),Qc0 (by simp only[Zd,Zh,Zi];omega) hhi];simp only[Za];rw[Zc (by decide)];simp[toks,Qd7]
def rLine5 {n o u:Str} {lo hi:Int} {w:List Str} {g:List Int} (hn:n.length<=12) (ho:(Qbc o).length<=12) (hlo:-1000000000<=lo/\lo<=1000000000) (hhi:-1000000000<=hi/\hi<=1000000000):QaD ⟨n,o,u,5,lo,hi,w,g⟩=some (10::([115,116,101,112]++toks [.str n,.str (Qbc o),.int lo,.int hi])):=by unfold QaD QbL QbU;simp only[Za];rw[show idx ([([107,101,121]:Str),([114,101,102]:Str),([110,117,109]:Str),([112,105,99,107]:Str),([100,97,121]:Str),([115,116,101,112]:Str),([115,117,109]:Str),([115,104,97,114,101]:Str),([99,111,112,121]:Str)]) (5:Int)=some [115,116,101,112] from rfl];simp only[Za];rw[Qac (by simp),Qac (by simp only[Zd,Zh,Zi];omega),Qac (by simp only[Zd,Zh,Zi];omega)];simp only[Za];rw[Zc (by decide)];simp only[Za];rw[Zb (by decide),Qac (by simp only[Zd,Zh,Zi];omega),QfP];simp only[Za];rw[Qac (by simp only[Zd,Zh,Zi];omega)];simp only[Za];have l1:=Qcw (n:=lo) (by unfold I64;omega);rw[Zb (by decide),Qc0 (by simp only[Zd,Zh,Zi];omega) hlo];simp only[Za];rw[Zb (by decide),Qc0 (by simp only[Zd,Zh,Zi];omega) hhi];simp only[Za];rw[Zc (by decide)];simp[toks,Qd7]
def rLine6 {n o u:Str} {lo hi:Int} {w:List Str} {g:List Int} (hn:n.length<=12) (ho:(Qbc o).length<=12) (hno:Qbc o=o):QaD ⟨n,o,u,6,lo,hi,w,g⟩=some (10::([115,117,109]++toks [.str n,.str o])):=by unfold QaD QbL QbU;simp only[Za];rw[show idx ([([107,101,121]:Str),([114,101,102]:Str),([110,117,109]:Str),([112,105,99,107]:Str),([100,97,121]:Str),([115,116,101,112]:Str),([115,117,109]:Str),([115,104,97,114,101]:Str),([99,111,112,121]:Str)]) (6:Int)=some [115,117,109] from rfl];simp only[Za];rw[Qac (by simp),Qac (by simp only[Zd,Zh,Zi];omega),Qac (by simp only[Zd,Zh,Zi];omega)];simp only[Za];rw[Zc (by decide)];simp only[Za];rw[Zb (by decide),Qac (by simp only[Zd,Zh,Zi];omega),QfP];simp only[Za];rw[Qac (by simp only[Zd,Zh,Zi];omega)];simp only[Za];rw[Zc (by decide)];simp only[Za];rw[Zc (by decide)];simp only[Za];rw[Zc (by decide)];simp[toks,Qd7,hno]
def rLine7 {n o u:Str} {lo hi:Int} {w:List Str} {g:List Int} (hn:n.length<=12) (hu:u.length<=12) (ho:(Qbc o).length<=12) (hno:Qbc o=o) (hlo:-1000000000<=lo/\lo<=1000000000) (hhi:-1000000000<=hi/\hi<=1000000000):QaD ⟨n,o,u,7,lo,hi,w,g⟩=some (10::([115,104,97,114,101]++toks [.str n,.str u,.str o,.int lo,.int hi])):=by unfold QaD QbL QbU;simp only[Za];rw[show idx ([([107,101,121]:Str),([114,101,102]:Str),([110,117,109]:Str),([112,105,99,107]:Str),([100,97,121]:Str),([115,116,101,112]:Str),([115,117,109]:Str),([115,104,97,114,101]:Str),([99,111,112,121]:Str)]) (7:Int)=some [115,104,97,114,101] from rfl];simp only[Za];rw[Qac (by simp),Qac (by simp only[Zd,Zh,Zi];omega),Qac (by simp only[Zd,Zh,Zi];omega)];simp only[Za];rw[Zb (by decide),Qac (by simp only[Zd,Zh,Zi];omega),Qac (by simp only[Zd,Zh,Zi];omega)];simp only[Za];rw[Zb (by decide),Qac (by simp only[Zd,Zh,Zi];omega),QfP];simp only[Za];rw[Qac (by simp only[Zd,Zh,Zi];omega)];simp only[Za];have l1:=Qcw (n:=lo) (by unfold I64;omega);rw[Zb (by decide),Qc0 (by simp only[Zd,Zh,Zi];omega) hlo];simp only[Za];rw[Zb (by decide),Qc0 (by simp only[Zd,Zh,Zi];omega) hhi];simp only[Za];rw[Zc (by decide)];simp[toks,Qd7,hno]
def rLine8 {n o u:Str} {lo hi:Int} {w:List Str} {g:List Int} (hn:n.length<=12) (hu:u.length<=12) (ho:(Qbc o).length<=12) (hno:Qbc o=o):QaD ⟨n,o,u,8,lo,hi,w,g⟩=some (10::([99,111,112,121]++toks [.str n,.str u,.str o])):=by unfold QaD QbL QbU;simp only[Za];rw[show idx ([([107,101,121]:Str),([114,101,102]:Str),([110,117,109]:Str),([112,105,99,107]:Str),([100,97,121]:Str),([115,116,101,112]:Str),([115,117,109]:Str),([115,104,97,114,101]:Str),([99,111,112,121]:Str)]) (8:Int)=some [99,111,112,121] from rfl];simp only[Za];rw[Qac (by simp),Qac (by simp only[Zd,Zh,Zi];omega),Qac (by simp only[Zd,Zh,Zi];omega)];simp only[Za];rw[Zb (by decide),Qac (by simp only[Zd,Zh,Zi];omega),Qac (by simp only[Zd,Zh,Zi];omega)];simp only[Za];rw[Zb (by decide),Qac (by simp only[Zd,Zh,Zi];omega),QfP];simp only[Za];rw[Qac (by simp only[Zd,Zh,Zi];omega)];simp only[Za];rw[Zc (by decide)];simp only[Za];rw[Zc (by decide)];simp only[Za];rw[Zc (by decide)];simp[toks,Qd7,hno]
def Qnc (f:Qb):Str:=QlZ f++toks (QaP f)
def Qtf (l:List (Str×Int)):toks (l.flatMap λp=>[AnyV.str p.1,AnyV.int p.2])=l.flatMap λp=>(32::p.1)++(32::Lib.itoa p.2):=by
 induction l with
 | nil=>rfl
 | cons a l ih=>rw[flatMap_cons,flatMap_cons,<-ih];simp[toks,Qd7]
def rLine3 {n o u:Str} {lo hi:Int} {w:List Str} {g:List Int} (hn:n.length<=12) (hl:w.length=g.length) (h12:w.length<=12) (hw:∀s∈w,s.length<=12) (hg:∀x∈g,0<=x/\x<=1048576):
  QaD ⟨n,o,u,3,lo,hi,w,g⟩=some (10::([112,105,99,107]++toks ([.str n,.int (w.length:Int)]++(w.zip g).flatMap λp=>[.str p.1,.int p.2]))):=by
 have hz:(w.zip g).length=w.length:=by rw[length_zip];omega
 unfold QaD QbL QbU;simp only[Za];rw[show idx ([([107,101,121]:Str),([114,101,102]:Str),([110,117,109]:Str),([112,105,99,107]:Str),([100,97,121]:Str),([115,116,101,112]:Str),([115,117,109]:Str),([115,104,97,114,101]:Str),([99,111,112,121]:Str)]) (3:Int)=some [112,105,99,107] from rfl];simp only[Za];rw[Qac (by simp),Qac (by simp only[Zd,Zh,Zi];omega),Qac (by simp only[Zd,Zh,Zi];omega)];simp only[Za];rw[Zc (by decide)];simp only[Za];rw[Zc (by decide)];simp only[Za];rw[Zc (by decide)];simp only[Za];rw[Zc (by decide)];simp only[Za];have l1:=Qcw (n:=(w.length:Int)) (by unfold I64;omega);rw[Zb (by decide),Qc0 (by simp only[Zd,Zh,Zi];omega) (by omega)];simp only[Za];have lp:∀p∈w.zip g,p.1.length<=12/\0<=p.2/\p.2<=1048576/\(Lib.itoa p.2).length<=20:=λp hp=>by obtain⟨a,b⟩:=p;have h:=of_mem_zip hp;have h2:=hg b h.2;exact⟨hw a h.1,h2.1,h2.2,Qcw (by unfold I64;dsimp only;omega)⟩
 rw[Qef (w.zip g) (λp=>(32::p.1)++(32::Lib.itoa p.2)) 40 (λp hp=>?_) _ (λk hk acc hacc=>?_) (λacc=>?_)]
 ·simp only[Za];have e:∀a b:List AnyV,toks (a++b)=toks a++toks b:=λa b=>by unfold toks;rw[Zx]
  rw[e,Qtf];simp[toks,Qd7]
 ·have:=lp p hp;simp only[Zd,Zh];omega
 ·have hk':k<w.length:=by omega
  have hp:=lp _ (Zl hk);rw[getElem_zip] at hp ⊢;dsimp only at hp ⊢;simp only[Zd,Zh,Zi] at hacc;rw[Zb (decide_eq_true (Zv.2 hk')),Qac (by rw[length_singleton];omega),QY hk',QY (show k<g.length by omega)];simp only[Za];rw[Qac (by rw[Zd,length_singleton];omega)];simp only[Za];rw[Qc0 (by rw[Zd,Zd,length_singleton];omega) (by omega),QH hk' (by omega)];simp
 ·rw[hz,Zc (by simp)]
def QwZ {f:Qb} (h:QaX f=true):QaD f=some (10::Qnc f):=by
 unfold QaX at h;simp only[Zk] at h;obtain⟨⟨hn,_⟩,hp⟩:=h;have hnl:=QbN hn;obtain⟨n,o,u,k,lo,hi,w,g⟩:=f;have nl:∀{s:Str},Q3 s=true->(Qbc s).length<=12:=λ{s} hs=>by rw[Ql3 hs];exact QbN hs
 unfold QgE at hp;dsimp only at hp hn hnl;by_cases c0:k=0
 ·subst c0;rw[Zb rfl] at hp;have:=Qdi hp;rw[rLine0 hnl (by omega)];rfl
 rw[Zc c0] at hp;by_cases c1:k=1
 ·subst c1;rw[Zb rfl] at hp;simp only[Zk] at hp;have:=QeZ hp.2;rw[rLine1 hnl (nl hp.1) (by omega) (by omega)];rfl
 rw[Zc c1] at hp;by_cases c2:k=2
 ·subst c2;rw[Zb rfl] at hp;have:=QeZ hp;rw[rLine2 hnl (by omega) (by omega)];rfl
 rw[Zc c2] at hp;by_cases c3:k=3
 ·subst c3;rw[Zb rfl] at hp;simp only[QjS,Zk,Zw,Yo] at hp;obtain⟨hg,⟨⟨hw,hl⟩,_⟩,hws⟩:=hp;have hw':=(Qdi hw).2;rw[rLine3 hnl (by omega) (by omega) (λs hs=>QbN (hws s hs)) (λx hx=>Qdi (hg x hx))];rfl
 rw[Zc c3] at hp;by_cases c4:k=4
 ·subst c4;rw[Zb rfl] at hp;simp only[Zk] at hp;have:=QeZ hp.2;have ho:(Qbc o).length<=12:=by
   by_cases hs:o=[]
   ·subst hs;decide
   ·exact nl (by simpa[hs] using hp.1)
  rw[rLine4 hnl ho (by omega) (by omega)];rfl
 rw[Zc c4] at hp;by_cases c5:k=5
 ·subst c5;rw[Zb rfl] at hp;simp only[Zk] at hp;have:=QeZ hp.2;rw[rLine5 hnl (nl hp.1) (by omega) (by omega)];rfl
 rw[Zc c5] at hp;by_cases c6:k=6
 ·subst c6;rw[Zb rfl] at hp;rw[rLine6 hnl (nl hp) (Ql3 hp)];rfl
 rw[Zc c6] at hp;by_cases c7:k=7
 ·subst c7;rw[Zb rfl] at hp;simp only[Zk] at hp;have:=QeZ hp.2;rw[rLine7 hnl (QbN hp.1.2) (nl hp.1.1) (Ql3 hp.1.1) (by omega) (by omega)];rfl
 rw[Zc c7] at hp;by_cases c8:k=8
 ·subst c8;rw[Zb rfl] at hp;simp only[Zk] at hp;rw[rLine8 hnl (QbN hp.2) (nl hp.1) (Ql3 hp.1)];rfl
 rw[Zc c8] at hp;cases hp
def QjV (k:Qf):Str:=(10::([107,105,110,100]++toks [.str k.Xj,.int k.Lo,.int k.Hi]))++k.Xb.flatMap λf=>10::Qnc f
def Qou (m:QF):Str:=10::([109,111,118,101]++toks [.int m.a0,.int m.a1])
def QkE (l:Qs):Str:=(10::([108,105,102,101]++toks ([.str l.Xj,.int (l.Xe.length:Int)]++l.Xe.map .str)))++l.Xg.flatMap Qou
def Qnd (r:Qh):Str:=10::([114,117,108,101]++toks (QfO r))
def Qjb (x:Qe):Str:=[115,99,104,101,109,97]++(32::Lib.itoa x.Version)
def srcR (x:Qe):Str:=Qjb x++x.Xa.flatMap QjV++x.Xd.flatMap QkE++x.Xc.flatMap Qnd
def shift {α:Type} {l:List α} {g h:α->Str} (e:∀a∈l,[10]++g a=h a++[10]):[10]++l.flatMap g=l.flatMap h++[10]:=by
 induction l with
 | nil=>rfl
 | cons a l ih=>rw[flatMap_cons,flatMap_cons,<-Zu,e a Zp,Zu,ih λb hb=>e b (ZP _ hb),Zu]
def Qov (k:Qf):[10]++QfH k=QjV k++[10]:=by have:=shift (l:=k.Xb) (g:=Qfe) (h:=λf=>10::Qnc f) λf _=>rfl;unfold QfH QjV QeW;rw[Zu _ [10],this];simp
def Qow (l:Qs):[10]++Qgz l=QkE l++[10]:=by have:=shift (l:=l.Xg) (g:=Qh3) (h:=Qou) λm _=>rfl;unfold Qgz QkE QeW;rw[Zu _ [10],this];simp
def Qvo (x:Qe):srcS x=srcR x++[10]:=by
 have e1:=shift (l:=x.Xa) (g:=QfH) (h:=QjV) λk _=>Qov k;have e2:=shift (l:=x.Xd) (g:=Qgz) (h:=QkE) λk _=>Qow k;have e3:=shift (l:=x.Xc) (g:=QiN) (h:=Qnd) λk _=>rfl;have e0:QeW [115,99,104,101,109,97] [.int x.Version]=Qjb x++[10]:=by simp[QeW,Qjb,toks,Qd7]
 unfold srcS srcR;rw[e0,Zu (Qjb x),e1,<-Zu,Zu _ [10],e2,<-Zu,Zu _ [10],e3];simp
def Qjt {a b:Str} (h:[10]++a=b++[10]):a.length=b.length:=by have:=ZQ length h;simp only[Zd,Zh,Zi] at this;omega
def Qtg {x:Qe} (h:Qh4 x):Qgo x=some (srcR x++[10]):=by
 have hv:=h.version;have l0:(Qjb x).length<=30:=by have:=Qcw (n:=x.Version) (by unfold I64;omega);unfold Qjb;simp only[Zd,Zh,Zi];omega
 have kl:∀k∈x.Xa,(QjV k).length<=50000:=λk hk=>by rw[<-Qjt (Qov k)];exact QkM (h.kind k hk)
 have ll:∀k∈x.Xd,(QkE k).length<=20000:=λk hk=>by rw[<-Qjt (Qow k)];exact Qja (h.life k hk)
 have rl:∀k∈x.Xc,(Qnd k).length<=1000:=λk hk=>by have e:[10]++QiN k=Qnd k++[10]:=rfl;rw[<-Qjt e];exact QkN (h.rule k hk)
 have lk:=Qg0 kl;have ll':=Qg0 ll;have lr:=Qg0 rl;have nk:=h.kinds;have nl:=h.lives;have nr:=h.rules;unfold Qgo;have e0:QbG [115,99,104,101,109,97] x.Version=some (Qjb x):=Qc0 (by decide) (by omega);rw[e0];simp only[Za];rw[Qef x.Xa QjV 50000 kl (Qjb x) (λk hk acc hacc=>?_) (λacc=>Zc (by simp))]
 ·simp only[Za];rw[Qef x.Xd QkE 20000 ll (Qjb x++x.Xa.flatMap QjV) (λk hk acc hacc=>?_) (λacc=>Zc (by simp))]
  ·simp only[Za];rw[Qef x.Xc Qnd 1000 rl (Qjb x++x.Xa.flatMap QjV++x.Xd.flatMap QkE) (λk hk acc hacc=>?_) (λacc=>Zc (by simp))]
   ·simp only[Za];rw[Qac (by simp only[Zd,Zh,Zi];omega)];rfl
   ·have hr:=h.rule _ (Zl hk);simp only[Qfd,Zk] at hr;obtain⟨⟨⟨⟨⟨h1,h2⟩,h3⟩,h4⟩,_⟩,h5⟩:=hr;have hN:=Qdi h5;have n1:=QbN h1;have n2:=QbN h2;have na:=QlY (QiM h3);have nb:=QlY (QiM h4);have na':(Qbc x.Xc[k].A).length<=100:=na;have nb':(Qbc x.Xc[k].B).length<=100:=nb;simp only[Zd] at hacc;rw[Zb (decide_eq_true (Zv.2 hk))];dsimp only;rw[QY hk];simp only[Za];rw[QfP,QfP];simp only[Za];rw[Qac (by simp only[Zh,Zi];omega),Qac (by simp only[Zd,Zh,Zi];omega),
     Qac (by simp only[Zd,Zh,Zi];omega),Qac (by simp only[Zd,Zh,Zi];omega),
     Qac (by simp only[Zd,Zh,Zi];omega),Qac (by simp only[Zd,Zh,Zi];omega),
     Qac (by simp only[Zd,Zh,Zi];omega),Qac (by simp only[Zd,Zh,Zi];omega)]
    simp only[Za];rw[Qc0 (by simp only[Zd,Zh,Zi];omega) (by omega),QH hk (by omega)];simp[Qnd,QfO,toks,Qd7]
  ·have hl:=h.life _ (Zl hk);simp only[QfU,Zk,Zw,ZA] at hl;obtain⟨⟨⟨⟨h1,h2⟩,h3⟩,h4⟩,h5⟩:=hl;have hS:=Qdi h2;have n1:=QbN h1;have l1:=Qcw (n:=(x.Xd[k].Xe.length:Int)) (by unfold I64;omega);simp only[Zd] at hacc;rw[Zb (decide_eq_true (Zv.2 hk))];dsimp only;rw[QY hk];simp only[Za];rw[Qac (by simp only[Zh,Zi];omega),Qac (by simp only[Zd,Zh,Zi];omega)];simp only[Za];rw[Qc0 (by simp only[Zd,Zh,Zi];omega) (by omega)];simp only[Za];rw[Qef x.Xd[k].Xe (λs=>32::s) 20 (λs hs=>by have:=QbN (h3 s hs);rw[Zh];omega) _ (λq hq acc2 hacc2=>?_) (λacc=>Zc (by simp))]
   ·simp only[Za];have ls:=Qg0 (l:=x.Xd[k].Xe) (g:=λs=>32::s) (B:=20) (λs hs=>by have:=QbN (h3 s hs);rw[Zh];omega);rw[Qef x.Xd[k].Xg Qou 300 (λm hm=>?_) _ (λq hq acc2 hacc2=>?_) (λacc=>Zc (by simp))]
    ·simp only[Za];rw[QH hk (by omega)];have e:(x.Xd[k].Xe.map AnyV.str).flatMap (λv=>32::Qd7 v)=x.Xd[k].Xe.flatMap λs=>32::s:=by
      rw[flatMap_map];rfl
     simp[QkE,toks,Qd7,<-e]
    ·have e:[10]++Qh3 m=Qou m++[10]:=rfl;rw[<-Qjt e];exact Qi9 (Qvg (by omega) (h5 m hm))
    ·have hm:=h5 _ (Zl hq);simp only[Qi8,Zk] at hm;have m1:=Qdi hm.1;have m2:=Qdi hm.2;have i1:=Qcw (n:=x.Xd[k].Xg[q].a0) (by unfold I64;omega);simp only[Zd,Zh,Zi] at hacc2;rw[Zb (decide_eq_true (Zv.2 hq))];dsimp only;rw[Qac (by simp only[Zh,Zi];omega),QY hq];simp only[Za];rw[Qc0 (by simp only[Zd,Zh,Zi];omega) (by omega)];simp only[Za];rw[Qc0 (by simp only[Zd,Zh,Zi];omega) (by omega),QH hq (by omega)];simp[Qou,toks,Qd7]
   ·have hs:=QbN (h3 _ (Zl hq));simp only[Zd,Zh,Zi] at hacc2;rw[Zb (decide_eq_true (Zv.2 hq))];dsimp only;rw[Qac (by simp only[Zh,Zi];omega),QY hq];simp only[Za];rw[Qac (by simp only[Zd,Zh,Zi];omega),QH hq (by omega)];simp
 ·have hk':=h.kind _ (Zl hk);simp only[Qfc,Zk,Zw,ZA] at hk';obtain⟨⟨⟨h1,h2⟩,h3⟩,h4⟩:=hk';have hS:=QeZ h2;have n1:=QbN h1;have l1:=Qcw (n:=x.Xa[k].Lo) (by unfold I64;omega);have l2:=Qcw (n:=x.Xa[k].Hi) (by unfold I64;omega);rw[Zb (decide_eq_true (Zv.2 hk))];dsimp only;rw[QY hk];simp only[Za];rw[Qac (by simp only[Zh,Zi];omega),Qac (by simp only[Zd,Zh,Zi];omega)];simp only[Za];rw[Qc0 (by simp only[Zd,Zh,Zi];omega) (by omega)];simp only[Za];rw[Qc0 (by simp only[Zd,Zh,Zi];omega) (by omega)];simp only[Za];have fl:∀f∈x.Xa[k].Xb,(10::Qnc f).length<=4000:=λf hf=>by
   have e:[10]++Qfe f=(10::Qnc f)++[10]:=rfl;rw[<-Qjt e];exact QhL (Qjr (h4 f hf))
  rw[Qef x.Xa[k].Xb (λf=>10::Qnc f) 4000 fl _ (λq hq acc2 hacc2=>?_) (λacc=>Zc (by simp))]
  ·simp only[Za];rw[QH hk (by omega)];simp[QjV,toks,Qd7]
  ·have hf:=fl _ (Zl hq);simp only[Zd,Zh,Zi] at hacc2;rw[Zb (decide_eq_true (Zv.2 hq))];dsimp only;rw[QY hq];simp only[Za];rw[QwZ (h4 _ (Zl hq))];simp only[Za];rw[Qac (by omega),QH hq (by omega)];rfl
def Qvp {x:Qe} (h:Fine x):QgQ x=some (Qgt x):=by
 obtain⟨⟨a1,a2⟩,⟨b1,b2⟩,c⟩:=h;have n1:∀(n:Nat) (m:Int),decide ((n:Int)>m)=!decide ((n:Int)<=m):=λn m=>by
  by_cases h:(n:Int)<=m
  ·rw[decide_eq_true h,decide_eq_false (by omega)];rfl
  ·rw[decide_eq_false h,decide_eq_true (by omega)];rfl
 unfold QgQ;rw[show QaT x.Version 0 1048576=some (inW x.Version 0 1048576) from rfl];simp only[Za];rw[n1,n1,n1,QbT x.Xa Qfc 1 (λk hk=>?_) (Zc (by simp)),QbT x.Xd QfU 1 (λk hk=>?_) (Zc (by simp)),QbT x.Xc Qfd 1 (λk hk=>?_) (Zc (by simp))]
 ·unfold Qgt
  cases hv:QhE x with
  | true=>
   have hs:=Qtg (QkC hv);rw[<-Qvo] at hs;simp only[QhE,Zk] at hv;obtain⟨⟨⟨⟨⟨⟨h1,h2⟩,h3⟩,h4⟩,h5⟩,h6⟩,h7⟩:=hv;rw[h1,h2,h3,h4,h5,h6,h7,hs];simp only[Bool.not_true,Bool.or_self,if_true,Za];rw[Zc (by decide)];by_cases hl:(srcS x).length>8192
   ·rw[Zb (by simp;omega),Zb hl]
   ·rw[Zc (by simp;omega),Zc hl]
  | false=>
   show _=some (1:Int);unfold QhE at hv
   cases h1:inW x.Version 0 1048576<;>cases h2:decide ((x.Xa.length:Int)<=6)<;>cases h3:decide ((x.Xd.length:Int)<=6)<;>cases h4:decide ((x.Xc.length:Int)<=16)<;>
    cases h5:x.Xa.all Qfc<;>cases h6:x.Xd.all QfU<;>cases h7:x.Xc.all Qfd<;>first | rfl | (rw[h1,h2,h3,h4,h5,h6,h7] at hv;cases hv)
 ·rw[Zb (decide_eq_true (Zv.2 hk)),QY hk];simp only[Za];rw[QwW];simp only[Za];rw[QH hk (by omega)];cases Qfd x.Xc[k]<;>rfl
 ·have hl:=b2 _ (Zl hk);rw[Zb (decide_eq_true (Zv.2 hk)),QY hk];simp only[Za];rw[QwV hl.1 hl.2];simp only[Za];rw[QH hk (by omega)];cases QfU x.Xd[k]<;>rfl
 ·rw[Zb (decide_eq_true (Zv.2 hk)),QY hk];simp only[Za];rw[QwY (a2 _ (Zl hk))];simp only[Za];rw[QH hk (by omega)];cases Qfc x.Xa[k]<;>rfl
def Qeg {x:Qe} {n:Str} (hx:x.Xa.length<=1000000):Qck x n=some (QW x n):=by
 unfold Qck;rw[QcJ x.Xa (λk=>k.Xj==n) (λk hk=>?_) ?_]
 ·unfold QW Qbh;cases x.Xa.findIdx? _<;>rfl
 ·rw[Zc (by simp)]
 ·rw[Zb (by simpa using hk),QY hk,QH hk (by omega)];rfl
def Qc1 {q:Qf} {n:Str} (hx:q.Xb.length<=1000000):Qbu q n=some (Qaf q n):=by
 unfold Qbu;rw[QcJ q.Xb (λk=>k.Xj==n) (λk hk=>?_) ?_]
 ·unfold Qaf Qbh;cases q.Xb.findIdx? _<;>rfl
 ·rw[Zc (by simp)]
 ·rw[Zb (by simpa using hk),QY hk,QH hk (by omega)];rfl
def has_is (x:Qe) (k j:Int):Qii x k j=some (field? x k j).isSome:=by
 unfold Qii;by_cases hc:(0<=k/\k<x.Xa.length)/\0<=j
 ·obtain⟨⟨h1,h2⟩,h3⟩:=hc;obtain⟨q,hq,_⟩:=QcR h1 h2;rw[Zc (by simp;omega),hq];show some (decide (j<(q.Xb.length:Int)))=_;by_cases h4:j<q.Xb.length
  ·obtain⟨f,hf,_⟩:=QcR h3 h4;rw[QgY h1 h3 hq hf];simpa using h4
  ·cases h:field? x k j with
   | none=>simpa using h4
   | some f=>obtain⟨q',_,_,e1,e2,_,_,e3⟩:=QcK h;rw[hq] at e1;cases e1;exact (h4 e3).elim
 ·rw[Zb (by simp;omega)]
  cases h:field? x k j with
  | none=>rfl
  | some f=>obtain⟨q',e1,e2,_,_,_,e3,_⟩:=QcK h;exact (hc ⟨⟨e1,e3⟩,e2⟩).elim
def QkO {x:Qe} {k j:Int} (hx:Few x):QgS x k j=some (upIx x k j):=by
 have fin:∀g:Qb,(if (g.Xi !=1)=true then some (-1) else (Qck x g.Of).bind λt62=>if decide (t62>=k)=true then some (-1) else some t62)=some (if g.Xi=1 then Qi7 x k g else -1):=λg=>by
  by_cases hg:g.Xi=1
  ·rw[Zc (by simp[hg]),Zb hg,Qeg (by have:=hx.1;omega)];show (if decide (QW x g.Of>=k)=true then some (-1) else some (QW x g.Of))=_;unfold Qi7;by_cases hk:QW x g.Of<k
   ·rw[Zc (by simp;omega),Zb hk]
   ·rw[Zb (by simp;omega),Zc hk]
  ·rw[Zb (by simp[hg]),Zc hg]
 unfold QgS;rw[has_is];unfold upIx
 cases hf:field? x k j with
 | none=>rfl
 | some f=>
  obtain⟨q,hk,hj,hq,hqf,hqm,_,hjl⟩:=QcK hf;simp only[Za,Option.isSome_some,Bool.not_true];rw[Zc (by decide),hq];simp only[Za];rw[hqf];simp only[Za];unfold jn;dsimp only;by_cases c:f.Xi=7\/f.Xi=8
  ·rw[Zb (by simpa using c),Zb c];rw[Qc1 (by have:=hx.2 q hqm;omega)];simp only[Za];have hr:=QfF q.Xb λg=>g.Xj==f.Up;have hr1:-1<=Qaf q f.Up:=hr.1;have hr2:Qaf q f.Up<q.Xb.length:=hr.2;by_cases hu:0<=Qaf q f.Up/\Qaf q f.Up<j
   ·obtain⟨g,hg,_⟩:=QcR hu.1 hr2;rw[Zc (by simp;omega),Zb hu.2,QgY hk hu.1 hq hg,hg];exact fin g
   ·rw[Zb (by simp;omega)];by_cases hu2:Qaf q f.Up<j
    ·rw[Zb hu2];have:field? x k (Qaf q f.Up)=none:=by
      cases hg:field? x k (Qaf q f.Up) with
      | none=>rfl
      | some g=>obtain⟨_,_,e,_⟩:=QcK hg;exact (hu ⟨e,hu2⟩).elim
     rw[this]
    ·rw[Zc hu2]
  ·rw[Zc (by simpa using c),Zc c];exact fin f
def Qz8 {x:Qe} {k j:Int} {f:Qb} (hx:Few x) (hf:field? x k j=some f):Qhv x k j=some (QkB x k f):=by
 obtain⟨q0,hk,hj,hq0,hqf,hqm0,_,hjl⟩:=QcK hf;unfold Qhv;rw[hq0];simp only[Za];rw[hqf];simp only[Za];rw[Qeg (by have:=hx.1;omega)];simp only[Za];unfold QkB;by_cases c:f.Xi≠6\/QW x f.Of<=k
 ·rw[Zb (by simpa using c),Zb c]
 rw[Zc (by simpa using c),Zc c];have c':k<QW x f.Of:=by
  rcases Int.lt_or_le k (QW x f.Of) with h | h
  ·exact h
  ·exact (c (.inr h)).elim
 obtain⟨q,hq,hqm⟩:=QcR (l:=x.Xa) (i:=QW x f.Of) (by omega) (Qjq x f.Of).2;have hl:=hx.2 q hqm;rw[hq];simp only[Za];refine Qkl q.Xb.length (λn=>((n:Int),((range n).filter (Qil x (QW x f.Of) k f.Xj q.Xb)).map Int.ofNat)) _ rfl (λn hn=>?_) (Zc (by simp)) ?_
 ·rw[Zb (by simpa using hn),QY hn];simp only[Za];rw[QkO hx];have e:Qil x (QW x f.Of) k f.Xj q.Xb n=(q.Xb[n].Xi==7&&q.Xb[n].Of==f.Xj&&upIx x (QW x f.Of) (n:Int)==k):=by
   unfold Qil;rw[Ze hn]
  have hle:=Qq2 (Qil x (QW x f.Of) k f.Xj q.Xb) n;rw[Qpt,e,QH hn (by omega)]
  cases h0:(q.Xb[n].Xi==7) with
  | false=>rfl
  | true=>
   simp only[Sim.opt,Bool.true_and,if_true,beq_self_eq_true,Za]
   cases h1:(q.Xb[n].Of==f.Xj) with
   | false=>rfl
   | true=>
    simp only[Bool.true_and,if_true,beq_self_eq_true,Za]
    cases h2:upIx x (QW x f.Of) (n:Int)==k with
    | false=>rfl
    | true=>rw[Zb rfl,Zb rfl,Qb4 (by rw[length_singleton];omega)];rfl
 ·unfold shl;rw[hq]
def Qpz {x:Qe} {k j:Int} (h:j<0):field? x k j=none:=by unfold field?;rw[Zc (by omega)]
def Qvq {x:Qe} {k j:Int} {f:Qb} (h:field? x k j=some f):∃q∈x.Xa,f∈q.Xb:=by obtain⟨q,_,hj,_,hf,hm,_⟩:=QcK h;rw[Qh2 _ hj] at hf;exact⟨q,hm,Zm hf⟩
def Qvr {x:Qe} {k j:Int} {q:Qf} {f:Qb} (hx:Few x) (hq:idx x.Xa k=some q) (hf:field? x k j=some f):
  QgT x k j=some (if (topS x k j f).2=true then ((topS x k j f).1.Xi,(topS x k j f).1) else (-1,QcZ)):=by
 obtain⟨q',hk,hj,hq',hqf,hqm,hkl,hjl⟩:=QcK hf;rw[hq] at hq';cases hq';unfold QgT topS;rw[QkO hx];simp only[Za];by_cases hu:upIx x k j<0
 ·rw[Zb (by simpa using hu),Zb hu];rfl
 ·rw[Zc (by simpa using hu),Zc hu];have h1:=Qsk x k j hk;obtain⟨r,hr,hrm⟩:=QcR (l:=x.Xa) (i:=upIx x k j) (by omega) (by omega);rw[hr,hq];simp only[Za];rw[hqf];simp only[Za];rw[Qc1 (by have:=hx.2 r hrm;omega)];simp only[Za];have hrange:=QfF r.Xb λg=>g.Xj==f.Of;have hr2:Qaf r f.Of<r.Xb.length:=hrange.2;by_cases hi:Qaf r f.Of<0
  ·rw[Zb (by simpa using hi),Qpz hi];rfl
  ·rw[Zc (by simpa using hi)];obtain⟨g,hg,_⟩:=QcR (l:=r.Xb) (i:=Qaf r f.Of) (by omega) hr2;rw[QgY (by omega) (by omega) hr hg,hg];rfl
def Qz9 {x:Qe} {k j:Int} {f:Qb} (h:(topS x k j f).2=true):∃q∈x.Xa,(topS x k j f).1∈q.Xb:=by
 unfold topS at h ⊢;split at h
 ·cases h
 ·rename_i hu;rw[Zc hu];split at h
  ·cases h
  ·rename_i q hq
   cases hf:field? x (upIx x k j) (Qaf q f.Of) with
   | none=>rw[hf] at h;cases h
   | some g=>exact Qvq hf
def Known (x:Qe):Prop:=∀q∈x.Xa,∀g∈q.Xb,0<=g.Xi/\g.Xi<=8
def QrF {x:Qe} (h:Qgt x=0):Known x:=by
 intro q hq g hg;unfold Qgt at h;split at h
 ·rename_i hv;exact (Qjr ((Qdj ((QkC hv).kind q hq)).2.2 g hg)).kind
 ·cases h
def Qox (a:Bool) (c:Int):Qbi [⟨a,c⟩]=if a=true then c else 0:=rfl
def Qli (a b:Bool) (c d:Int):Qbi [⟨a,c⟩,⟨b,d⟩]=if a=true then c else if b=true then d else 0:=rfl
def Qvs {x:Qe} {k j:Int} {q:Qf} {f:Qb} (hx:Few x) (hl:x.Xd.length<=1000) (hn:Known x) (hq:idx x.Xa k=some q) (hf:field? x k j=some f):QgU x k j=some (Ql0 x q k j f):=by
 obtain⟨q',hk,hj,hq',hqf,hqm,hkl,hjl⟩:=QcK hf;rw[hq] at hq';cases hq';have hab:=Qvr hx hq hf;have hkind:0<=f.Xi/\f.Xi<=8:=by rw[Qh2 _ hj] at hqf;exact hn q hqm f (Zm hqf)
 unfold QgU;rw[hq];simp only[Za];rw[hqf];simp only[Za];rw[QkO hx,Qc1 (by have:=hx.2 q hqm;omega),Qz8 hx hf];simp only[Za];unfold jn;dsimp only;unfold Ql0;by_cases c0:f.Xi=0
 ·rw[Zb c0,Qox,c0];by_cases hj0:j>0
  ·rw[decide_eq_true hj0];rfl
  ·rw[decide_eq_false hj0];rfl
 have n0:(f.Xi==0)=false:=by simpa using c0
 rw[Zc c0,n0];simp only[Bool.false_and];rw[Zc (by decide),Zc (by decide)];by_cases c1:f.Xi=1
 ·rw[Zb c1,Qox,c1];show (if decide (upIx x k j<0)=true then some 12 else some 0)=_;by_cases hu:upIx x k j<0
  ·rw[Zb (by simpa using hu),Zb (by simpa using hu)]
  ·rw[Zc (by simpa using hu),Zc (by simpa using hu)]
 rw[Zc c1];by_cases c2:f.Xi=2
 ·rw[c2];rfl
 by_cases c3:f.Xi=3
 ·rw[c3];rfl
 have n1:(f.Xi==1)=false:=by simpa using c1
 have n2:(f.Xi==2)=false:=by simpa using c2
 have n3:(f.Xi==3)=false:=by simpa using c3
 rw[n1,n2,n3];simp only[ZL,if_false,Za];by_cases c4:f.Xi=4
 ·rw[Zb c4,Qox,Zb (by simp[c4])];by_cases ho:f.Of=[]
  ·rw[Zb (by simp[ho]),Zc (by simp[ho])]
  ·rw[Zc (by simpa using ho)];have ho':(f.Of !=[])=true:=by simpa using ho
   rw[ho',Bool.true_and];by_cases hr:Qaf q f.Of<0\/Qaf q f.Of>=j
   ·have:(decide (Qaf q f.Of<0)||decide (Qaf q f.Of>=j))=true:=by simpa using hr
    rw[this,Bool.true_or];rfl
   ·have e:(decide (Qaf q f.Of<0)||decide (Qaf q f.Of>=j))=false:=by
     rw[Bool.eq_false_iff];simpa using hr
    obtain⟨g,hg,_⟩:=QcR (l:=q.Xb) (i:=Qaf q f.Of) (by omega) (by omega);rw[e,Bool.false_or,QgY hk (by omega) hq hg,hg];rw[Zc (by decide)];simp only[Za];cases g.Xi !=4<;>rfl
 have n4:(f.Xi==4)=false:=by simpa using c4
 rw[Zc c4,n4,Zc (by decide)];by_cases c5:f.Xi=5
 ·rw[Zb c5,Qox,Zb (by simp[c5]),QbT x.Xd (λl=>!(l.Xj==f.Of)) (0:Int) (λn hn=>?_) (Zc (by simp))]
  ·simp only[Za];have e:(x.Xd.all λl=>!(l.Xj==f.Of))=!(x.Xd.any λl=>l.Xj==f.Of):=by
    rw[not_any_eq_all_not]
   rw[e];cases (x.Xd.any λl=>l.Xj==f.Of)<;>rfl
  ·rw[Zb (decide_eq_true (Zv.2 hn)),QY hn];simp only[Za];rw[QH hn (by omega)];cases x.Xd[n].Xj==f.Of<;>rfl
 have n5:(f.Xi==5)=false:=by simpa using c5
 rw[Zc c5,n5,Zc (by decide)];by_cases c6:f.Xi=6
 ·rw[Zb c6,Qli,Zb (by simp[c6])];cases decide ((QkB x k f).1<0)<;>cases ((QkB x k f).2.length:Int) !=1<;>rfl
 have n6:(f.Xi==6)=false:=by simpa using c6
 rw[Zc c6,n6,Zc (by decide)];unfold Qij;rw[hab,hq];simp only[Za];rw[hqf];simp only[Za];by_cases hu:upIx x k j<0
 ·rw[Zb (by simpa using hu)];by_cases c7:f.Xi=7
  ·rw[Zb c7,Qli,Zb (by simpa using hu)];rfl
  ·have c8:f.Xi=8:=by omega
   rw[Zc c7,Zb c8,Qli,Zb (by simpa using hu)];rfl
 rw[Zc (by simpa using hu)];have hud:decide (upIx x k j<0)=false:=by simpa using hu
 by_cases c7:f.Xi=7
 ·have e7:(f.Xi==7)=true:=by simp[c7]
  rw[Zb c7,Qli,hud,e7]
  cases ht:(topS x k j f).2 with
  | false=>rfl
  | true=>
   simp only[ZL,if_false,if_true];rw[Qeg (by have:=hx.1;omega)]
   cases h6:((topS x k j f).1.Xi !=6) with
   | true=>rfl
   | false=>simp only[Sim.opt,beq_self_eq_true,if_true,Za];cases QW x (topS x k j f).1.Of !=k<;>rfl
 ·have c8:f.Xi=8:=by omega
  have n7:(f.Xi==7)=false:=by simpa using c7
  rw[Zc c7,Zb c8,Qli,hud,n7]
  cases ht:(topS x k j f).2 with
  | false=>rfl
  | true=>
   obtain⟨r,hr,hg⟩:=Qz9 ht;have hgk:=hn r hr _ hg;have hz:(topS x k j f).1.Xi=0\/(topS x k j f).1.Xi=1\/(topS x k j f).1.Xi=2\/(topS x k j f).1.Xi=3\/(topS x k j f).1.Xi=4\/(topS x k j f).1.Xi=5\/(topS x k j f).1.Xi=6\/(topS x k j f).1.Xi=7\/(topS x k j f).1.Xi=8:=by omega
   simp only[ZL,if_false,if_true];unfold Qvk;rcases hz with h | h | h | h | h | h | h | h | h<;>rw[h]<;>rfl
def toR (p:Qr):QG:=⟨p.Xi,p.Field,p.Rule,p.Code⟩
def Qth {x:Qe} {k:Int} {q:Qf} {n:Str} (hk:0<=k) (hq:idx x.Xa k=some q) (hn:(n==([]:Str))=false):
  (Qdu x k n=true/\Qaf q n<0)\/∃g,Qdu x k n=false/\0<=Qaf q n/\idx q.Xb (Qaf q n)=some g/\Qdk x k n=((g.Xi !=2)&&(g.Xi !=4)):=by
 have hd:decide (k<0)=false:=decide_eq_false (by omega);have hr2:Qaf q n<q.Xb.length:=(QfF q.Xb λg=>g.Xj==n).2;unfold Qdu Qdk QmS;rw[hq,hn,hd];dsimp only;by_cases hi:Qaf q n<0
 ·rw[Qpz hi];exact .inl ⟨rfl,hi⟩
 ·obtain⟨g,hg,_⟩:=QcR (l:=q.Xb) (i:=Qaf q n) (by omega) hr2;rw[QgY hk (by omega) hq hg];exact .inr ⟨g,rfl,by omega,hg,by simp⟩
def Qvt {x:Qe} {i:Nat} {r:Qh} (hx:Few x) (hl:x.Xc.length<=1000) (hi:i<x.Xc.length) (hr:x.Xc[i]?=some r):QgV x (i:Int)=some (Ql1 x i r):=by
 unfold QgV;rw[QeY,hr];simp only[Za];have hil:(x.Xc.take i).length=i:=by rw[ZE];omega
 rw[QbT (x.Xc.take i) (λs=>!(s.Xj==r.Xj)) (7:Int) (λn hn=>?_) (by rw[hil];exact Zc (by simp))]
 ·simp only[Za];have e:((x.Xc.take i).all λs=>!(s.Xj==r.Xj))=!((x.Xc.take i).any λs=>s.Xj==r.Xj):=by
   rw[not_any_eq_all_not]
  rw[e];unfold Ql1
  cases hany:((x.Xc.take i).any λs=>s.Xj==r.Xj) with
  | true=>rfl
  | false=>
   simp only[Bool.not_false,if_true];rw[Qeg (by have:=hx.1;omega)];simp only[Za];by_cases hk:QW x r.Xi<0
   ·rw[Zb (by simpa using hk),decide_eq_true hk];rfl
   ·rw[Zc (by simpa using hk),decide_eq_false hk];obtain⟨q,hq,hqm⟩:=QcR (l:=x.Xa) (i:=QW x r.Xi) (by omega) (Qjq x r.Xi).2;rw[hq];unfold jn;dsimp only;have fin:∀{body:Int×Bool->Option ((Int×Bool)⊕(Bool⊕Int))},(∀b,body (0,b)=if Qdu x (QW x r.Xi) r.A=true then some (.inr (.inr 12)) else some (.inl (1,b||Qdk x (QW x r.Xi) r.A)))->
      (∀b,body (1,b)=if Qdu x (QW x r.Xi) r.B=true then some (.inr (.inr 12)) else some (.inl (2,b||Qdk x (QW x r.Xi) r.B)))->(∀b,body (2,b)=some (.inr (.inl b)))->
      Qu body (0,false)=some (if (Qdu x (QW x r.Xi) r.A||Qdu x (QW x r.Xi) r.B)=true then .inr 12 else .inl (Qdk x (QW x r.Xi) r.A||Qdk x (QW x r.Xi) r.B)):=λh0 h1 h2=>by
     rw[Qc8,h0]
     cases Qdu x (QW x r.Xi) r.A with
     | true=>rfl
     | false=>
      rw[Zc (by decide)];dsimp only;rw[Qc8,h1]
      cases Qdu x (QW x r.Xi) r.B with
      | true=>rfl
      | false=>rw[Zc (by decide)];dsimp only;rw[Qc8,h2];simp
    have step:∀(n:Str) (b:Bool) (c:Bool->Option ((Int×Bool)⊕(Bool⊕Int))),(if (n==([]:Str))=true then c b else (Option.some q).bind λt55=>(Option.some n).bind λt59=>(Qbu t55 t59).bind λt61=>if decide (t61<0)=true then some (.inr (.inr 12)) else (Option.some q).bind λt67=>(idx t67.Xb t61).bind λt71=>c (b||((t71.Xi !=2)&&(t71.Xi !=4))))=
      if Qdu x (QW x r.Xi) n=true then some (.inr (.inr 12)) else c (b||Qdk x (QW x r.Xi) n):=λn b c=>by
     cases hn:(n==([]:Str)) with
     | true=>
      have hm:Qdu x (QW x r.Xi) n=false:=by unfold Qdu;rw[hn];rfl
      have hw:Qdk x (QW x r.Xi) n=false:=by unfold Qdk;rw[hn];rfl
      rw[hm,hw,Zb rfl,Zc (by decide),Bool.or_false]
     | false=>
      rw[Zc (by decide)];simp only[Za];rw[Qc1 (by have:=hx.2 q hqm;omega)];simp only[Za];rcases Qth (by omega) hq hn with⟨hm,hi⟩ | ⟨g,hm,hi,hg,hw⟩
      ·rw[hm,Zb (by simpa using hi),Zb rfl]
      ·rw[hm,hw,Zc (by simp;omega),Zc (by decide),hg];rfl
    rw[fin (λb=>(step r.A b λp=>some (.inl (1,p)))) (λb=>(step r.B b λp=>some (.inl (2,p)))) (λb=>rfl)];simp only[Za];cases Qdu x (QW x r.Xi) r.A<;>cases Qdu x (QW x r.Xi) r.B<;>cases Qdk x (QW x r.Xi) r.A<;>cases Qdk x (QW x r.Xi) r.B<;>cases (r.A==r.B)<;>rfl
 ·have hn':n<i:=by omega
  rw[Zb (decide_eq_true (Zv.2 hn')),QY (show n<x.Xc.length by omega)];simp only[Za];rw[QH hn' (by omega),getElem_take];cases x.Xc[n].Xj==r.Xj<;>rfl
def QiO {k j r e:Int} {l:List QG} (h:l.length<=1000000000):Qcq l k j r e=some (l++(prob k j r e).map toR):=by
 unfold Qcq prob;by_cases he:e=0
 ·rw[Zb (by simp[he]),Zb he,Yn,ZX]
 ·rw[Zc (by simpa using he),Zc he,Qb4 (by rw[length_singleton];omega)];rfl
def Qw0 (l:List Qb):QgR l=some (!(((l.length:Int)==0)||((l.headD QcZ).Xi !=0))):=by
 unfold QgR
 cases l with
 | nil=>rfl
 | cons f l=>
  have e:(((f::l).length:Int)==0)=false:=by simp;omega
  rw[e,show idx (f::l) (0:Int)=some f from rfl,Zc (by decide)];simp[bne]
def QpA {x:Qe} (h:Qd8 x):Qfy x=some ((Qa0 x).map toR):=by
 obtain⟨hx,hfine,hlv,hrl⟩:=h;unfold Qfy;rw[Qvp hfine];simp only[Za];unfold Qa0;by_cases hv:Qgt x=0
 ·rw[Zc (by simp[hv]),Zb hv];have hn:=QrF hv;have one:∀k j r e,((prob k j r e).map toR).length<=1:=λk j r e=>by rw[Zy];exact QhP k j r e
  have b0:∀j,((QgF x j).map toR).length<=1:=λj=>by rw[Zy];exact QkD x j
  have b1:((Qep x).map toR).length<=1000:=by have:=Qci x.Xd.length (QgF x) 1 (λj _=>QkD x j);rw[Zy];unfold Qep;omega
  have kl:∀k,k<x.Xa.length->((Qhe x k).map toR).length<=1001:=λk hk=>by rw[Zy];unfold Qhe;rw[Ze hk];dsimp only;have:=Qnr (x:=x) (i:=k) (hx.2 _ (Zl hk));have:=QhP k (-1) (-1) (QjT x k x.Xa[k]);rw[Zd];omega
  have b2:((QhF x).map toR).length<=1001000:=by have:=Qci x.Xa.length (λk=>(Qhe x k).map toR) 1001 kl;have:=hx.1;unfold QhF;rw[map_flatMap];omega
  have hk1:=hx.1;rw[Qdl x.Xd.length (λk=>(QgF x k).map toR) 1 (λj _=>b0 j) [] (λk hk acc hacc=>?_) (λacc=>Zc (by simp))]
  ·rw[show ([]:List QG)++(range x.Xd.length).flatMap (λk=>(QgF x k).map toR)=(Qep x).map toR by unfold Qep;rw[map_flatMap];rfl];simp only[Za];rw[Qdl x.Xa.length (λk=>(Qhe x k).map toR) 1001 kl ((Qep x).map toR) (λk hk acc hacc=>?_) (λacc=>Zc (by simp))]
   ·rw[show (Qep x).map toR++(range x.Xa.length).flatMap (λk=>(Qhe x k).map toR)=(Qep x).map toR++(QhF x).map toR by unfold QhF;rw[map_flatMap]];simp only[Za];rw[Qdl x.Xc.length (λk=>(QjU x k).map toR) 1 (λj _=>by rw[Zy];exact Qpy x j) ((Qep x).map toR++(QhF x).map toR) (λk hk acc hacc=>?_) (λacc=>Zc (by simp))]
    ·simp only[Za];rw[Yc,Yc];unfold Qvm;rw[map_flatMap]
    ·rw[Zd] at hacc;rw[Zb (decide_eq_true (Zv.2 hk))];dsimp only;rw[Qvt hx hrl hk (Ze hk)];simp only[Za];rw[QiO (by omega)];simp only[Za];unfold QjU;rw[QH hk (by omega),Ze hk]
   ·have hq:=QY hk;have hqf:=hx.2 _ (Zl hk);rw[Zb (decide_eq_true (Zv.2 hk))];dsimp only;rw[hq];simp only[Za];rw[Qeg (by omega),Qw0];simp only[Za];have ek:(if decide (QW x x.Xa[k].Xj<(k:Int))=true then (Qcq acc (k:Int) (-1) (-1) 7).bind λt70=>some t70 else (if (!!(((x.Xa[k].Xb.length:Int)==0)||((x.Xa[k].Xb.headD QcZ).Xi !=0)))=true then (Qcq acc (k:Int) (-1) (-1) 11).bind λt76=>some t76 else some acc).bind λp320=>some p320)=
      some (acc++(prob (k:Int) (-1) (-1) (QjT x k x.Xa[k])).map toR):=by
     unfold QjT;rw[Qli,QiO (by omega),QiO (by omega),Bool.not_not]
     cases decide (QW x x.Xa[k].Xj<(k:Int)) with
     | true=>rfl
     | false=>
      cases (((x.Xa[k].Xb.length:Int)==0)||((x.Xa[k].Xb.headD QcZ).Xi !=0)) with
      | true=>rfl
      | false=>simp[prob]
    rw[ek];simp only[Za];have pl:=one k (-1) (-1) (QjT x k x.Xa[k]);rw[Qdl x.Xa[k].Xb.length (λj=>(Qio x k x.Xa[k] j).map toR) 1 (λj _=>by rw[Zy];exact Ql2 x k _ j) _ (λj hj acc2 hacc2=>?_) (λacc=>Zc (by simp))]
    ·simp only[Za];unfold Qhe;rw[QH hk (by omega),Ze hk,Zu,Yc];unfold Qnb;rw[map_flatMap]
    ·rw[Zd] at hacc2;rw[Zb (decide_eq_true (Zv.2 hj))];dsimp only;rw[QY hj];simp only[Za];rw[Qc1 (by omega)];simp only[Za];have hf:field? x (k:Int) (j:Int)=some x.Xa[k].Xb[j]:=QgY (by omega) (by omega) hq (QY hj);rw[Qvs hx hlv hn hq hf];simp only[Za];rw[QiO (by omega),QiO (by omega)];simp only[Za];unfold Qio Qos;rw[QH hj (by omega),Ze hj];dsimp only;by_cases hd:Qaf x.Xa[k] x.Xa[k].Xb[j].Xj<(j:Int)
     ·rw[Zb (by simpa using hd),Zb hd];rfl
     ·rw[Zc (by simpa using hd),Zc hd];rfl
  ·rw[Zi] at hacc;rw[Zb (decide_eq_true (Zv.2 hk))];dsimp only;rw[QiO (by omega)];simp only[Za];have hil:(x.Xd.take k).length=k:=by rw[ZE];omega
   have hget:∀n,n<k->∀h:n<x.Xd.length,(x.Xd.take k)[n]?=some x.Xd[n]:=λn hn h=>by rw[getElem?_take,Zb hn,Ze h]
   refine Qu0 k (λn=>match x.Xd[n]? with | some m=>m.Xj==x.Xd[k].Xj | none=>false) acc (λ_=>acc++(prob (-1) (k:Int) (-1) 7).map toR) (λn hn hp=>?_) (λn hn hp=>?_) (Zc (by simp)) (λhp=>?_) (λn hn hp=>?_)
   ·rw[Ze (show n<x.Xd.length by omega)] at hp;dsimp only at hp;rw[Zb (decide_eq_true (Zv.2 hn)),QY (show n<x.Xd.length by omega),QY hk];simp only[Za];rw[hp,Zc (by decide),QH hn (by omega)]
   ·rw[Ze (show n<x.Xd.length by omega)] at hp;dsimp only at hp;rw[Zb (decide_eq_true (Zv.2 hn)),QY (show n<x.Xd.length by omega),QY hk];simp only[Za];rw[hp,Zb rfl]
   ·have e:((x.Xd.take k).any λm=>m.Xj==x.Xd[k].Xj)=false:=by
     rw[any_eq_false];intro m hm;obtain⟨n,hn,rfl⟩:=Ye hm;have h1:=hp n (by omega);rw[Ze (show n<x.Xd.length by omega)] at h1;dsimp only at h1;rw[getElem_take,h1];decide
    rw[QH hk (by omega)];unfold QgF Qtd;rw[Ze hk];dsimp only;rw[e];simp[Qbi,prob]
   ·have e:((x.Xd.take k).any λm=>m.Xj==x.Xd[k].Xj)=true:=by
     rw[Ze (show n<x.Xd.length by omega)] at hp;exact any_eq_true.2 ⟨x.Xd[n],Zm (hget n hn (by omega)),hp⟩
    rw[QH hk (by omega)];unfold QgF Qtd;rw[Ze hk];dsimp only;rw[e];rfl
 ·rw[Zb (by simpa using hv),Zc hv,QiO (by simp)];unfold prob;rw[Zc hv];rfl

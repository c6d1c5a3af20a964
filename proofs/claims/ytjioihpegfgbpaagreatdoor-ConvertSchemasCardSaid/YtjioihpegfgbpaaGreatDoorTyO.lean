/- typing.Check. No condition. -/
import Derived.Test.YtjioihpegfgbpaaGreatDoorTyA
set_option linter.all false
open List Go.IntKind
namespace Go.Proofs.YtjioihpegfgbpaaGreatDoor
open Go.Sim
def Qyo {x:Qa} {i:Nat} {r:Qm} (hx:Few x) (hl:x.Xc.length<=1000) (hi:i<x.Xc.length) (hr:x.Xc[i]?=some r):Qhc x (i:Int)=some (QoP x i r):=by
 unfold Qhc;rw[Qj2,hr];simp only[Za];have hs:Sim.sub x.Xc 0 (i:Int)=some (x.Xc.take i):=by unfold Sim.sub;rw[Ze ⟨by decide,by omega,by omega⟩];simp
 rw[hs];simp only[Za];rw[Qkn (f:=λx0=>Qhx x0 r) (p:=λs=>s.Xi==r.Xi) (by rw[ZE];omega) (λs _=>rfl)];simp only[Za];rw[Qc8 (by have:=hx.1;omega)];simp only[Za];have hk:=(Qhi x r.Xh).2
 let st:Nat->Int×Bool×Bool:=λn=>match n with
  | 0=>(0,decide (QR x r.Xh<0),false)
  | 1=>(1,decide (QR x r.Xh<0)||Qdu x (QR x r.Xh) r.A,false||Qdl x (QR x r.Xh) r.A)
  | _=>(2,(decide (QR x r.Xh<0)||Qdu x (QR x r.Xh) r.A)||Qdu x (QR x r.Xh) r.B,(false||Qdl x (QR x r.Xh) r.A)||Qdl x (QR x r.Xh) r.B)
 refine Qkl 2 st ((st 2).2.1,(st 2).2.2) rfl (λn hn=>?_) rfl ?_
 ·have:n=0\/n=1:=by omega
  rcases this with rfl | rfl
  ·have h:=QpZ (x:=x) (k:=QR x r.Xh) (n:=r.A) (a:=decide (QR x r.Xh<0)) (b:=false) hx hk id;show (Option.bind (if _ then _ else _) _:Option _)=_;exact (Zu (λo=>Option.bind o (λp55:Bool×Bool=>some (Sum.inl ((i64.wrap ((0:Int)+(1:Int))),p55.1,p55.2)))) h:_)
  ·have h:=QpZ (x:=x) (k:=QR x r.Xh) (n:=r.B) (a:=decide (QR x r.Xh<0)||Qdu x (QR x r.Xh) r.A) (b:=false||Qdl x (QR x r.Xh) r.A) hx hk id;show (Option.bind (if _ then _ else _) _:Option _)=_;exact (Zu (λo=>Option.bind o (λp55:Bool×Bool=>some (Sum.inl ((i64.wrap ((1:Int)+(1:Int))),p55.1,p55.2)))) h:_)
 ·dsimp only;rw[Qie (by simp)];simp[st,QoP]
def Qhm {β:Type} (n:Nat) (g:Nat->List β) (B:Nat) (hB:∀k,k<n->(g k).length<=B) (a0:List β) {body:Int×List β->Option ((Int×List β)⊕List β)}
  (hs:∀k,k<n->∀acc:List β,acc.length<=a0.length+k * B->body ((k:Int),acc)=some (.inl (((k+1:Nat):Int),acc++g k))) (he:∀acc,body ((n:Int),acc)=some (.inr acc)):
  Qz body ((0:Int),a0)=some (a0++(range n).flatMap g):=by
 have hlen:∀m,m<=n->((range m).flatMap g).length<=m * B:=λm=>by
  induction m with
  | zero=>intro _;simp
  | succ m ih=>intro hm;rw[range_succ,ZN,Zd,Nat.succ_mul];have h1:=ih (by omega);have h2:=hB m (by omega);simp only[flatMap_cons,flatMap_nil,Yd];omega
 have h:=QgD (body:=body) n (λm=>((m:Int),a0++(range m).flatMap g)) (a0++(range n).flatMap g) (λk hk=>?_) ?_
 ·simpa using h
 ·rw[hs k hk _ (by rw[Zd];have:=hlen k (by omega);omega),range_succ,ZN];simp
 ·rw[he]
def prob (k j r e:Int):List QF:=if e=0 then [] else [⟨k,j,r,e⟩]
def Qif (k j r e:Int):(prob k j r e).length<=1:=by unfold prob;split<;>simp
def QoQ {k j r e:Int} {l:List QF} (h:l.length<=1000000000):QcI k j r e l=some (l++prob k j r e):=by
 unfold QcI prob;by_cases he:e=0
 ·rw[Zb (by simp[he]),Ze he,Yd];rfl
 ·rw[Ze (by simpa using he),Zb he,Qcx (by rw[length_singleton];omega)];rfl
def Qtv (x:Qa) (i:Nat) (l:Qr):Int:=QbE [⟨(x.Xd.take i).any λm=>m.Xi==l.Xi,7⟩]
def QoR (x:Qa) (q:Qh) (k j:Int) (f:Qd):Int:=if Qan q f.Xi<j then 7 else QlX x q k j f
def QgQ (x:Qa) (i:Nat):List QF:=match x.Xd[i]? with | some l=>prob (-1) (i:Int) (-1) (Qtv x i l) | none=>[]
def QiH (x:Qa) (i:Nat) (q:Qh) (j:Nat):List QF:=match q.Xb[j]? with | some f=>prob (i:Int) (j:Int) (-1) (QoR x q (i:Int) (j:Int) f) | none=>[]
def Qnn (x:Qa) (i:Nat) (q:Qh):List QF:=(range q.Xb.length).flatMap (QiH x i q)
def QhA (x:Qa) (i:Nat):List QF:=match x.Xa[i]? with | some q=>prob (i:Int) (-1) (-1) (QjO x (i:Int) q)++Qnn x i q | none=>[]
def QkQ (x:Qa) (i:Nat):List QF:=match x.Xc[i]? with | some r=>prob (-1) (-1) (i:Int) (QoP x i r) | none=>[]
def Qee (x:Qa):List QF:=(range x.Xd.length).flatMap (QgQ x)
def QhT (x:Qa):List QF:=(range x.Xa.length).flatMap (QhA x)
def Qvc (x:Qa):List QF:=(range x.Xc.length).flatMap (QkQ x)
def QkR (x:Qa) (i:Nat):(QgQ x i).length<=1:=by unfold QgQ;cases x.Xd[i]? with | none=>simp | some f=>exact Qif _ _ _ _
def QlY (x:Qa) (i:Nat) (q:Qh) (j:Nat):(QiH x i q j).length<=1:=by unfold QiH;cases q.Xb[j]? with | none=>simp | some f=>exact Qif _ _ _ _
def Qp0 (x:Qa) (i:Nat):(QkQ x i).length<=1:=by unfold QkQ;cases x.Xc[i]? with | none=>simp | some f=>exact Qif _ _ _ _
def Qfi (x:Qa):List QF:=if QfU x=0 then Qee x++QhT x++Qvc x else [⟨-1,-1,-1,QfU x⟩]
def Qjs {β:Type} (n:Nat) (g:Nat->List β) (B:Nat) (hB:∀k,k<n->(g k).length<=B):((range n).flatMap g).length<=n * B:=by
 induction n with
 | zero=>simp
 | succ n ih=>rw[range_succ,ZN,Zd,Nat.succ_mul];have h1:=ih λk hk=>hB k (by omega);have h2:=hB n (by omega);simp only[flatMap_cons,flatMap_nil,Yd];omega
structure QlZ (x:Qa):Prop where
 few:Few x
 fine:Fine x
 lives:x.Xd.length<=1000
 rules:x.Xc.length<=1000
def Sz.short {x:Qa} (h:Sz x):QlZ x:=⟨h.few,h.fine,by have:=h.2.1.1;omega,by have:=h.2.2.1;omega⟩
def QnH {x:Qa} {i:Nat} {q:Qh} (h:q.Xb.length<=1000):(Qnn x i q).length<=1000:=by have:=Qjs q.Xb.length (QiH x i q) 1 (λj _=>QlY x i q j);unfold Qnn;omega
def QrC {x:Qa} (h:QlZ x):Qd4 x=some (Qfi x):=by
 obtain⟨hx,hfine,hlv,hrl⟩:=h;unfold Qd4;rw[QwA hfine];simp only[Za];unfold Qfi;by_cases hv:QfU x=0
 ·rw[Zb (by simp[hv]),Ze hv];have b1:(Qee x).length<=1000:=by
   have:=Qjs x.Xd.length (QgQ x) 1 (λj _=>QkR x j);unfold Qee;omega
  have kl:∀k,k<x.Xa.length->(QhA x k).length<=1001:=λk hk=>by unfold QhA;rw[Zf hk];dsimp only;have:=QnH (x:=x) (i:=k) (hx.2 _ (Zn hk));have:=Qif k (-1) (-1) (QjO x k x.Xa[k]);rw[Zd];omega
  have b2:(QhT x).length<=1001000:=by have:=Qjs x.Xa.length _ 1001 kl;have:=hx.1;unfold QhT;omega
  have hk1:=hx.1;rw[Qhm x.Xd.length (QgQ x) 1 (λj _=>QkR x j) [] (λk hk acc hacc=>?_) (λacc=>Zb (by simp))]
  ·rw[show ([]:List QF)++(range x.Xd.length).flatMap (QgQ x)=Qee x from rfl];simp only[Za];rw[Qhm x.Xa.length (QhA x) 1001 kl (Qee x) (λk hk acc hacc=>?_) (λacc=>Zb (by simp))]
   ·rw[show Qee x++(range x.Xa.length).flatMap (QhA x)=Qee x++QhT x from rfl];simp only[Za];rw[Qhm x.Xc.length (QkQ x) 1 (λj _=>Qp0 x j) (Qee x++QhT x) (λk hk acc hacc=>?_) (λacc=>Zb (by simp))]
    ·rfl
    ·rw[Zd] at hacc;rw[Ze (by simpa using hk)];dsimp only;rw[Qyo hx hrl hk (Zf hk)];simp only[Za];rw[QoQ (by omega)];simp only[Za];unfold QkQ;rw[QT hk (by omega),Zf hk]
   ·have hq:=Qaa hk;have hqf:=hx.2 _ (Zn hk);rw[Ze (by simpa using hk)];dsimp only;rw[hq];simp only[Za];rw[Qyn hx hq];simp only[Za];rw[QoQ (by omega)];simp only[Za];have pl:=Qif k (-1) (-1) (QjO x k x.Xa[k]);rw[Qhm x.Xa[k].Xb.length (QiH x k x.Xa[k]) 1 (λj _=>QlY x k _ j) _ (λj hj acc2 hacc2=>?_) (λacc=>Zb (by simp))]
    ·simp only[Za];unfold QhA;rw[QT hk (by omega),Zf hk,ZC];rfl
    ·rw[Zd] at hacc2;rw[Ze (by simpa using hj)];dsimp only;rw[Qaa hj];simp only[Za];rw[Qd1 (by omega)];simp only[Za];rw[Qie (by simp)];simp only[Za];have hf:field? x (k:Int) (j:Int)=some x.Xa[k].Xb[j]:=Qhg (by omega) (by omega) hq (Qaa hj);have e:(if ((QbZ x.Xa[k].Xb[j].Xh).isSome&&(QbE [⟨decide (Qan x.Xa[k] x.Xa[k].Xb[j].Xi<(j:Int)),7⟩]==0))=true then (Qnb (QcU.mk (QbZ x.Xa[k].Xb[j].Xh)).check ⟨x,k,j,x.Xa[k].Xb[j]⟩).bind λt97=>some t97 else some (QbE [⟨decide (Qan x.Xa[k] x.Xa[k].Xb[j].Xi<(j:Int)),7⟩]))=some (QoR x x.Xa[k] k j x.Xa[k].Xb[j]):=by
      unfold QoR;by_cases hd:Qan x.Xa[k] x.Xa[k].Xb[j].Xi<(j:Int)
      ·rw[Ze hd,Zb (by simp[QbE,hd])];simp[QbE,hd]
      ·rw[Zb hd];have e0:QbE [⟨decide (Qan x.Xa[k] x.Xa[k].Xb[j].Xi<(j:Int)),7⟩]=0:=by simp[QbE,hd]
       rw[e0]
       cases hs:(QbZ x.Xa[k].Xb[j].Xh).isSome with
       | true=>rw[Ze (by simp),QwB hx hlv hq hf hs];rfl
       | false=>rw[Zb (by simp),QwC hs]
     rw[e];simp only[Za];rw[QoQ (by omega)];simp only[Za];unfold QiH;rw[QT hj (by omega),Zf hj]
  ·rw[Zk] at hacc;rw[Ze (by simpa using hk)];dsimp only;rw[Qaa hk];simp only[Za];have hs:Sim.sub x.Xd 0 (k:Int)=some (x.Xd.take k):=by
    unfold Sim.sub;rw[Ze ⟨by decide,by omega,by omega⟩];simp
   rw[hs];simp only[Za];rw[Qkm (f:=λx0=>QgO x0 x.Xd[k]) (p:=λm=>m.Xi==x.Xd[k].Xi) (by rw[ZE];omega) (λl _=>rfl)];simp only[Za];rw[Qie (by simp)];simp only[Za];rw[QoQ (by omega)];simp only[Za];unfold QgQ;rw[QT hk (by omega),Zf hk];rfl
 ·rw[Ze (by simpa using hv),Zb hv]
def out_or (n:Nat):((decide ((n:Int)<1))||(decide ((n:Int)>12)))=!inW (n:Int) 1 12:=by
 unfold inW;by_cases h1:(n:Int)<1
 ·rw[decide_eq_true h1,decide_eq_false (by omega:¬(n:Int)>=1)];rfl
 ·rw[decide_eq_false h1,decide_eq_true (by omega:(n:Int)>=1)];by_cases h2:(n:Int)>12
  ·rw[decide_eq_true h2,decide_eq_false (by omega:¬(n:Int)<=12)];rfl
  ·rw[decide_eq_false h2,decide_eq_true (by omega:(n:Int)<=12)];rfl
def Qjt (s:Str):Qbj s=some (Q7 s):=by
 unfold Qbj Q7;rw[out_or]
 cases s with
 | nil=>rfl
 | cons c s=>
  cases h:inW ((c::s).length:Int) 1 12 with
  | false=>rfl
  | true=>
   have hl:=(QbK h).2;rw[show idx (c::s) (0:Int)=some c from rfl];simp only[Sim.opt,Bool.not_true,beq_self_eq_true,if_true,Za];rw[show Qe0 (c.toNat:Int)=some (QdJ (c.toNat:Int)) from rfl];simp only[Za]
   cases hc:QdJ (c.toNat:Int) with
   | false=>simp[hc]
   | true=>
    rw[Zb (by decide),QcV (c::s) (λb=>QdJ (b.toNat:Int)||QiE (b.toNat:Int)) false (λk hk=>?_) (Zb (by simp))]
    ·have e:(Q3 (c::s)).all (λc=>QdJ c||QiE c)=(c::s).all (λb=>QdJ (b.toNat:Int)||QiE (b.toNat:Int)):=by
      unfold Q3;rw[all_map];rfl
     rw[e];simp only[headD_cons,hc,Bool.true_and,Za];cases (c::s).all (λb=>QdJ (b.toNat:Int)||QiE (b.toNat:Int))<;>rfl
    ·rw[Ze (decide_eq_true (ZL.2 hk)),Qaa hk];simp only[Za];rw[show Qe0 (((c::s)[k]).toNat:Int)=some (QdJ (((c::s)[k]).toNat:Int)) from rfl];simp only[Za];rw[QT hk (by omega)]
     cases QdJ (((c::s)[k]).toNat:Int) with
     | true=>rfl
     | false=>simp only[Bool.not_false,beq_self_eq_true,if_true,Za,Bool.true_and,Bool.false_or];rw[show Qiz (((c::s)[k]).toNat:Int)=some (QiE (((c::s)[k]).toNat:Int)) from rfl];simp only[Za];cases QiE (((c::s)[k]).toNat:Int)<;>rfl
def QrD {l:List Str} (hl:l.length<=1000000):QfG l=some (l.all Q7):=by
 unfold QfG;rw[QcV l Q7 false (λk hk=>?_) (Zb (by simp))]
 ·cases l.all Q7<;>rfl
 ·rw[Ze (by simpa using hk),Qaa hk];simp only[Za];rw[Qjt];simp only[Za];rw[QT hk (by omega)];cases Q7 l[k]<;>rfl
def QwD {x:Qr} (h1:x.Xe.length<=1000000) (h2:x.Xg.length<=1000000):Qgm x=some (QfA x):=by
 unfold Qgm QfA;rw[Qjt];simp only[Za]
 cases Q7 x.Xi with
 | false=>rfl
 | true=>
  rw[show Qa2 (x.Xe.length:Int) 1 12=some (inW (x.Xe.length:Int) 1 12) from rfl];simp only[Sim.opt,Bool.not_true,beq_self_eq_true,if_true,Za,Bool.true_and,Bool.false_or]
  cases inW (x.Xe.length:Int) 1 12 with
  | false=>rfl
  | true=>
   rw[QrD h1];simp only[Bool.not_true,beq_self_eq_true,if_true,Za,Bool.true_and,Bool.false_or]
   cases x.Xe.all Q7 with
   | false=>rfl
   | true=>
    by_cases hm:(x.Xg.length:Int)<=32
    ·rw[Zb (by simp;omega),decide_eq_true hm,QcV x.Xg (QiF (x.Xe.length:Int)) false (λk hk=>?_) (Zb (by simp))]
     ·simp only[Bool.true_and,Za];cases x.Xg.all (QiF (x.Xe.length:Int))<;>rfl
     ·rw[Ze (decide_eq_true (ZL.2 hk)),Qaa hk,w64 (n:=(x.Xe.length:Int) - 1) (by omega) (by omega)];simp only[Za];rw[show Qa2 x.Xg[k].a0 0 ((x.Xe.length:Int) - 1)=some (inW x.Xg[k].a0 0 ((x.Xe.length:Int) - 1)) from rfl];simp only[Za];rw[QT hk (by omega)];unfold QiF
      cases inW x.Xg[k].a0 0 ((x.Xe.length:Int) - 1) with
      | false=>rfl
      | true=>simp only[Bool.not_true,beq_self_eq_true,if_true,Za,Bool.true_and,Bool.false_or];rw[show Qa2 x.Xg[k].a1 0 ((x.Xe.length:Int) - 1)=some (inW x.Xg[k].a1 0 ((x.Xe.length:Int) - 1)) from rfl];simp only[Za];cases inW x.Xg[k].a1 0 ((x.Xe.length:Int) - 1)<;>rfl
    ·rw[Ze (by simp;omega),decide_eq_false hm];rfl
def QwE (r:Qm):Qgn r=some (QfB r):=by
 unfold Qgn QfB;simp only[Qjt];rw[show Qa2 r.N (-1048576) 1048576=some (inW r.N (-1048576) 1048576) from rfl];have ne:∀s:Str,(s !=([]:Str))=!(s==[]):=λs=>rfl;have ap:∀a b:Str,((a++b) !=([]:Str))=!((a==[])&&(b==[])):=λa b=>by cases a<;>cases b<;>rfl
 rw[ne,ne,ap];cases (r.A==[])<;>cases (r.B==[])<;>cases Q7 r.A<;>cases Q7 r.B<;>cases Q7 r.Xi<;>cases Q7 r.Xh<;>rfl
def QwF {f:Qd} (hw:f.Words.length<=1000000) (hg:f.Xf.length<=1000000):Qgk f=some (Qh5 f.Words f.Xf):=by
 rw[<-QpW hw hg];unfold Qgk QdE;have e:(λs5:Int×Int=>((if (decide (s5.1<(f.Xf.length:Int)))=true then (idx f.Xf s5.1).bind λt15=>(Qa2 t15 (0:Int) (1048576:Int)).bind λt17=>(if (!t17)=true then (some (.inr (.inr false))) else (idx f.Xf s5.1).bind λt23=>(some (.inl ((i64.wrap (s5.1+(1:Int))),(i64.wrap (s5.2+t23)))))) else (some (.inr (.inl s5.2)))):Option ((Int×Int)⊕((Int)⊕(Bool)))))=
   λs5:Int×Int=>((if (decide (s5.1<(f.Xf.length:Int)))=true then (idx f.Xf s5.1).bind λt12=>(Qbw t12 (0:Int) (1048576:Int)).bind λt15=>(if (!t15)=true then (some (.inr (.inr false))) else (some (.inl ((i64.wrap (s5.1+(1:Int))),(i64.wrap (s5.2+t12)))))) else (some (.inr (.inl s5.2)))):Option ((Int×Int)⊕((Int)⊕(Bool)))):=by
  funext s
  split
  ·cases hi:idx f.Xf s.1 with
   | none=>rfl
   | some v=>rfl
  ·rfl
 rw[e];congr 1
 funext o
 cases o with
 | inr p=>rfl
 | inl p=>dsimp only;rw[QrD hw,Qm0 (p:=Q7) hw (λs _=>QfZ s)];rfl
def Qyp {w:List Str} {g:List Int} (hw:w.length<=1000000) (hg:g.length<=1000000):decide (i64.wrap ((w.length:Int)+(g.length:Int))>0)=!(decide (w=[])&&decide (g=[])):=by
 rw[w64 (by omega) (by omega)]
 cases w with
 | nil=>cases g with
  | nil=>rfl
  | cons b g=>simp
 | cons a w=>simp;omega
def Qvd {f:Qd} (hw:f.Words.length<=1000000) (hg:f.Xf.length<=1000000):QfH f=some (Qa4 f):=by
 have e1:=Qyp hw hg;have hp:=QwF hw hg;unfold QfH;rw[e1,hp];clear e1 hp hw hg;obtain⟨n,o,u,k,lo,hi,w,g⟩:=f;simp only[QbL,Qjt,Za];have ne:∀s:Str,(s !=([]:Str))=!(s==[]):=λs=>rfl;have ni:∀a:Int,(a !=0)=!(a==0):=λa=>rfl;by_cases k0:k=0
 ·subst k0;have e:Qa4 ⟨n,o,u,0,lo,hi,w,g⟩=((Q7 n&&(((((o==[])&&(u==[]))&&(hi==0))&&decide (w=[]))&&decide (g=[])))&&inW lo (-1048576) 1048576):=by
   unfold Qa4 QgP Qhz Qf9;simp
  rw[e];simp only[ne,ni];cases Q7 n<;>cases (o==[])<;>cases (u==[])<;>cases (hi==0)<;>cases decide (w=[])<;>cases decide (g=[])<;>rfl
 by_cases k1:k=1
 ·subst k1;have e:Qa4 ⟨n,o,u,1,lo,hi,w,g⟩=((Q7 n&&(((u==[])&&decide (w=[]))&&decide (g=[])))&&(Q7 o&&Qdk lo hi 0 65536)):=by
   unfold Qa4 QgP Qhz Qf9;simp
  rw[e];simp only[ne,ni];cases Q7 n<;>cases (u==[])<;>cases decide (w=[])<;>cases decide (g=[])<;>cases Q7 o<;>rfl
 by_cases k2:k=2
 ·subst k2;have e:Qa4 ⟨n,o,u,2,lo,hi,w,g⟩=((Q7 n&&((((o==[])&&(u==[]))&&decide (w=[]))&&decide (g=[])))&&Qdk lo hi (-1048576) 1048576):=by
   unfold Qa4 QgP Qhz Qf9;simp
  rw[e];simp only[ne,ni];cases Q7 n<;>cases (o==[])<;>cases (u==[])<;>cases decide (w=[])<;>cases decide (g=[])<;>rfl
 by_cases k3:k=3
 ·subst k3;have e:Qa4 ⟨n,o,u,3,lo,hi,w,g⟩=((Q7 n&&((((o==[])&&(u==[]))&&(lo==0))&&(hi==0)))&&Qh5 w g):=by
   unfold Qa4 QgP Qhz Qf9;simp
  rw[e];simp only[ne,ni];cases Q7 n<;>cases (o==[])<;>cases (u==[])<;>cases (lo==0)<;>cases (hi==0)<;>rfl
 by_cases k4:k=4
 ·subst k4;have e:Qa4 ⟨n,o,u,4,lo,hi,w,g⟩=((Q7 n&&(((u==[])&&decide (w=[]))&&decide (g=[])))&&(((o==[])||Q7 o)&&Qdk lo hi (-1048576) 1048576)):=by
   unfold Qa4 QgP Qhz Qf9;simp
  rw[e];simp only[ne,ni];cases Q7 n<;>cases (u==[])<;>cases decide (w=[])<;>cases decide (g=[])<;>cases Q7 o<;>cases (o==[])<;>rfl
 by_cases k5:k=5
 ·subst k5;have e:Qa4 ⟨n,o,u,5,lo,hi,w,g⟩=((Q7 n&&(((u==[])&&decide (w=[]))&&decide (g=[])))&&(Q7 o&&Qdk lo hi 0 32)):=by
   unfold Qa4 QgP Qhz Qf9;simp
  rw[e];simp only[ne,ni];cases Q7 n<;>cases (u==[])<;>cases decide (w=[])<;>cases decide (g=[])<;>cases Q7 o<;>rfl
 by_cases k6:k=6
 ·subst k6;have e:Qa4 ⟨n,o,u,6,lo,hi,w,g⟩=((Q7 n&&(((((u==[])&&(lo==0))&&(hi==0))&&decide (w=[]))&&decide (g=[])))&&Q7 o):=by
   unfold Qa4 QgP Qhz Qf9;simp
  rw[e];simp only[ne,ni];cases Q7 n<;>cases (u==[])<;>cases (lo==0)<;>cases (hi==0)<;>cases decide (w=[])<;>cases decide (g=[])<;>cases Q7 o<;>rfl
 by_cases k7:k=7
 ·subst k7;have e:Qa4 ⟨n,o,u,7,lo,hi,w,g⟩=((Q7 n&&(decide (w=[])&&decide (g=[])))&&((Q7 o&&Q7 u)&&Qdk lo hi 0 1048576)):=by
   unfold Qa4 QgP Qhz Qf9;simp
  rw[e];simp only[ne,ni];cases Q7 n<;>cases decide (w=[])<;>cases decide (g=[])<;>cases Q7 o<;>cases Q7 u<;>rfl
 by_cases k8:k=8
 ·subst k8;have e:Qa4 ⟨n,o,u,8,lo,hi,w,g⟩=((Q7 n&&((((lo==0)&&(hi==0))&&decide (w=[]))&&decide (g=[])))&&(Q7 o&&Q7 u)):=by
   unfold Qa4 QgP Qhz Qf9;simp
  rw[e];simp only[ne,ni];cases Q7 n<;>cases (lo==0)<;>cases (hi==0)<;>cases decide (w=[])<;>cases decide (g=[])<;>cases Q7 o<;>cases Q7 u<;>rfl
 have hr:((decide (k<0))||(decide (k>=9)))=true:=by simp;omega
 have e:Qa4 ⟨n,o,u,k,lo,hi,w,g⟩=false:=by unfold Qa4 Qf9;simp[k0,k1,k2,k3,k4,k5,k6,k7,k8]
 rw[e,hr];rfl
def QwG {k:Qh} (h:Qm1 k.Xb):Qgl k=some (Qfz k):=by
 unfold Qgl Qfz;rw[Qjt];simp only[Za]
 cases Q7 k.Xi with
 | false=>rfl
 | true=>
  rw[show QdL k.Lo k.Hi 0 65536=some (Qdk k.Lo k.Hi 0 65536) from rfl];simp only[Sim.opt,Bool.not_true,beq_self_eq_true,if_true,Za,Bool.true_and,Bool.false_or]
  cases Qdk k.Lo k.Hi 0 65536 with
  | false=>rfl
  | true=>
   by_cases hm:(k.Xb.length:Int)<=10
   ·rw[Zb (by simp;omega),decide_eq_true hm,QcV k.Xb Qa4 false (λi hi=>?_) (Zb (by simp))]
    ·simp only[Bool.true_and,Za];cases k.Xb.all Qa4<;>rfl
    ·have hf:=h.2 _ (Zn hi);have hl:=h.1;rw[Ze (decide_eq_true (ZL.2 hi)),Qaa hi];simp only[Za];rw[Qvd hf.1 hf.2];simp only[Za];rw[QT hi (by omega)];cases Qa4 k.Xb[i]<;>rfl
   ·rw[Ze (by simp;omega),decide_eq_false hm];rfl
def QrE {u:Nat} (h:u<10):QjJ [u8.wrap (i64.wrap ((48:Int)+(u:Int)))]=[UInt8.ofNat (48+u)]:=by
 have:u=0\/u=1\/u=2\/u=3\/u=4\/u=5\/u=6\/u=7\/u=8\/u=9:=by omega
 rcases this with rfl | rfl | rfl | rfl | rfl | rfl | rfl | rfl | rfl | rfl<;>rfl
def decN:∀(k u:Nat),k<=1000000000000->u<10 ^ (k+1)->u<=1000000000->QdW (k+1) (u:Int)=some (Lib.decDigits u)
 | k,u,hk,hu,hb=>by
  show Qdf (QdW k) (u:Int)=_;unfold Qdf;rw[Zb (by simp)];rw[Lib.decDigits];by_cases h:u<10
  ·rw[Ze (by simp;omega),dif_pos h,QrE h]
  ·rw[Zb (by simp;omega),dif_neg h]
   cases k with
   | zero=>simp at hu;omega
   | succ k=>
    have e1:i64.wrap (Int.tdiv (u:Int) 10)=((u / 10:Nat):Int):=by rw[Int.tdiv_eq_ediv_of_nonneg (by omega),w64 (by omega) (by omega)];rfl
    have e2:Int.tmod (u:Int) 10=((u % 10:Nat):Int):=by rw[Int.tmod_eq_emod_of_nonneg (by omega)];rfl
    rw[e1,e2,decN k (u / 10) (by omega) (by rw[Nat.pow_succ] at hu;omega) (by omega)];simp only[Za];rw[QrE (by omega)];have hl:=QiG 18 (u / 10) (by omega);have ec:cat ((Lib.decDigits (u / 10)).length+([UInt8.ofNat (48+u % 10)]:Str).length)=some ():=Ze (by rw[length_singleton];omega);rw[ec];rfl
def QoS (u:Nat):u<10 ^ (u+1):=by have h:u+1<10 ^ (u+1):=Nat.lt_pow_self (by decide);omega
def Qtw {n:Int} (h:-1000000000<=n/\n<=1000000000):QfI n=some (Lib.itoa n):=by
 unfold QfI Lib.itoa;by_cases hn:n<0
 ·show Qdf (QdW (n.natAbs+1)) n=_;unfold Qdf;have e:i64.wrap (0 - n)=(n.natAbs:Int):=by rw[w64 (by omega) (by omega)];omega
  rw[Ze (decide_eq_true hn),Ze hn,e,decN n.natAbs n.natAbs (by omega) (QoS _) (by omega)];simp only[Za];have hl:=QiG 18 n.natAbs (by omega);have ec:cat (([45]:Str).length+(Lib.decDigits n.natAbs).length)=some ():=Ze (by rw[length_singleton];omega);rw[ec];rfl
 ·rw[Zb hn];have e:n=(n.toNat:Int):=by omega
  have e2:n.natAbs+2=(n.natAbs+1)+1:=rfl;rw[e2];have:=decN (n.natAbs+1) n.toNat (by omega) (ZG (QoS n.toNat) (Nat.pow_le_pow_right (by decide) (by omega))) (by omega);rw[<-e] at this;exact this
def Qao {n:Nat} (h:n<=1000000000000):cat n=some ():=Ze (by omega)
def Qc9 {s:Str} {n:Int} (hs:s.length<=100000000000) (h:-1000000000<=n/\n<=1000000000):QbH s n=some (s++(32::Lib.itoa n)):=by have hl:=QcE (n:=n) (by unfold I64;omega);unfold QbH;rw[Qao (by rw[length_singleton];omega)];simp only[Za];rw[Qtw h];simp only[Za];rw[Qao (by rw[Zd,length_singleton];omega)];simp
def Qf1 (s:Str):Qez s=some (Qbi s):=by
 unfold Qez Qbi;by_cases h:s=[]
 ·rw[Ze (by simp[h]),Ze h]
 ·rw[Zb (by simpa using h),Zb h]
def Ql0 {s:Str} (h:Q7 s=true):Qbi s=s:=by unfold Qbi;rw[Zb];rintro rfl;cases h
def rLine0 {n o u:Str} {lo hi:Int} {w:List Str} {g:List Int} (hn:n.length<=12) (hlo:-1000000000<=lo/\lo<=1000000000):QaN ⟨n,o,u,0,lo,hi,w,g⟩=some (10::([107,101,121]++toks [.str n,.int lo])):=by unfold QaN QbL QbS;simp only[Za];rw[show idx ([([107,101,121]:Str),([114,101,102]:Str),([110,117,109]:Str),([112,105,99,107]:Str),([100,97,121]:Str),([115,116,101,112]:Str),([115,117,109]:Str),([115,104,97,114,101]:Str),([99,111,112,121]:Str)]) (0:Int)=some [107,101,121] from rfl];simp only[Za];rw[Qao (by simp),Qao (by simp only[Zd,Zi,Zk];omega),Qao (by simp only[Zd,Zi,Zk];omega)];simp only[Za];rw[Zb (by decide)];simp only[Za];rw[Zb (by decide)];simp only[Za];have l1:=QcE (n:=lo) (by unfold I64;omega);rw[Ze (by decide),Qc9 (by simp only[Zd,Zi,Zk];omega) hlo];simp only[Za];rw[Zb (by decide)];simp only[Za];rw[Zb (by decide)];simp[toks,Qd2]
def rLine1 {n o u:Str} {lo hi:Int} {w:List Str} {g:List Int} (hn:n.length<=12) (ho:(Qbi o).length<=12) (hlo:-1000000000<=lo/\lo<=1000000000) (hhi:-1000000000<=hi/\hi<=1000000000):QaN ⟨n,o,u,1,lo,hi,w,g⟩=some (10::([114,101,102]++toks [.str n,.str (Qbi o),.int lo,.int hi])):=by unfold QaN QbL QbS;simp only[Za];rw[show idx ([([107,101,121]:Str),([114,101,102]:Str),([110,117,109]:Str),([112,105,99,107]:Str),([100,97,121]:Str),([115,116,101,112]:Str),([115,117,109]:Str),([115,104,97,114,101]:Str),([99,111,112,121]:Str)]) (1:Int)=some [114,101,102] from rfl];simp only[Za];rw[Qao (by simp),Qao (by simp only[Zd,Zi,Zk];omega),Qao (by simp only[Zd,Zi,Zk];omega)];simp only[Za];rw[Zb (by decide)];simp only[Za];rw[Ze (by decide),Qao (by simp only[Zd,Zi,Zk];omega),Qf1];simp only[Za];rw[Qao (by simp only[Zd,Zi,Zk];omega)];simp only[Za];have l1:=QcE (n:=lo) (by unfold I64;omega);rw[Ze (by decide),Qc9 (by simp only[Zd,Zi,Zk];omega) hlo];simp only[Za];rw[Ze (by decide),Qc9 (by simp only[Zd,Zi,Zk];omega) hhi];simp only[Za];rw[Zb (by decide)];simp[toks,Qd2]
def rLine2 {n o u:Str} {lo hi:Int} {w:List Str} {g:List Int} (hn:n.length<=12) (hlo:-1000000000<=lo/\lo<=1000000000) (hhi:-1000000000<=hi/\hi<=1000000000):QaN ⟨n,o,u,2,lo,hi,w,g⟩=some (10::([110,117,109]++toks [.str n,.int lo,.int hi])):=by unfold QaN QbL QbS;simp only[Za];rw[show idx ([([107,101,121]:Str),([114,101,102]:Str),([110,117,109]:Str),([112,105,99,107]:Str),([100,97,121]:Str),([115,116,101,112]:Str),([115,117,109]:Str),([115,104,97,114,101]:Str),([99,111,112,121]:Str)]) (2:Int)=some [110,117,109] from rfl];simp only[Za];rw[Qao (by simp),Qao (by simp only[Zd,Zi,Zk];omega),Qao (by simp only[Zd,Zi,Zk];omega)];simp only[Za];rw[Zb (by decide)];simp only[Za];rw[Zb (by decide)];simp only[Za];have l1:=QcE (n:=lo) (by unfold I64;omega);rw[Ze (by decide),Qc9 (by simp only[Zd,Zi,Zk];omega) hlo];simp only[Za];rw[Ze (by decide),Qc9 (by simp only[Zd,Zi,Zk];omega) hhi];simp only[Za];rw[Zb (by decide)];simp[toks,Qd2]
def rLine4 {n o u:Str} {lo hi:Int} {w:List Str} {g:List Int} (hn:n.length<=12) (ho:(Qbi o).length<=12) (hlo:-1000000000<=lo/\lo<=1000000000) (hhi:-1000000000<=hi/\hi<=1000000000):QaN ⟨n,o,u,4,lo,hi,w,g⟩=some (10::([100,97,121]++toks [.str n,.str (Qbi o),.int lo,.int hi])):=by unfold QaN QbL QbS;simp only[Za];rw[show idx ([([107,101,121]:Str),([114,101,102]:Str),([110,117,109]:Str),([112,105,99,107]:Str),([100,97,121]:Str),([115,116,101,112]:Str),([115,117,109]:Str),([115,104,97,114,101]:Str),([99,111,112,121]:Str)]) (4:Int)=some [100,97,121] from rfl];simp only[Za];rw[Qao (by simp),Qao (by simp only[Zd,Zi,Zk];omega),Qao (by simp only[Zd,Zi,Zk];omega)];simp only[Za];rw[Zb (by decide)];simp only[Za];rw[Ze (by decide),Qao (by simp only[Zd,Zi,Zk];omega),Qf1];simp only[Za];rw[Qao (by simp only[Zd,Zi,Zk];omega)];simp only[Za];have l1:=QcE (n:=lo) (by unfold I64;omega);rw[Ze (by decide),Qc9 (by simp only[Zd,Zi,Zk];omega) hlo];simp only[Za];rw[Ze (by decide),Qc9 (by simp only[Zd,Zi,Zk];omega) hhi];simp only[Za];rw[Zb (by decide)];simp[toks,Qd2]
def rLine5 {n o u:Str} {lo hi:Int} {w:List Str} {g:List Int} (hn:n.length<=12) (ho:(Qbi o).length<=12) (hlo:-1000000000<=lo/\lo<=1000000000) (hhi:-1000000000<=hi/\hi<=1000000000):QaN ⟨n,o,u,5,lo,hi,w,g⟩=some (10::([115,116,101,112]++toks [.str n,.str (Qbi o),.int lo,.int hi])):=by unfold QaN QbL QbS;simp only[Za];rw[show idx ([([107,101,121]:Str),([114,101,102]:Str),([110,117,109]:Str),([112,105,99,107]:Str),([100,97,121]:Str),([115,116,101,112]:Str),([115,117,109]:Str),([115,104,97,114,101]:Str),([99,111,112,121]:Str)]) (5:Int)=some [115,116,101,112] from rfl];simp only[Za];rw[Qao (by simp),Qao (by simp only[Zd,Zi,Zk];omega),Qao (by simp only[Zd,Zi,Zk];omega)];simp only[Za];rw[Zb (by decide)];simp only[Za];rw[Ze (by decide),Qao (by simp only[Zd,Zi,Zk];omega),Qf1];simp only[Za];rw[Qao (by simp only[Zd,Zi,Zk];omega)];simp only[Za];have l1:=QcE (n:=lo) (by unfold I64;omega);rw[Ze (by decide),Qc9 (by simp only[Zd,Zi,Zk];omega) hlo];simp only[Za];rw[Ze (by decide),Qc9 (by simp only[Zd,Zi,Zk];omega) hhi];simp only[Za];rw[Zb (by decide)];simp[toks,Qd2]
def rLine6 {n o u:Str} {lo hi:Int} {w:List Str} {g:List Int} (hn:n.length<=12) (ho:(Qbi o).length<=12) (hno:Qbi o=o):QaN ⟨n,o,u,6,lo,hi,w,g⟩=some (10::([115,117,109]++toks [.str n,.str o])):=by unfold QaN QbL QbS;simp only[Za];rw[show idx ([([107,101,121]:Str),([114,101,102]:Str),([110,117,109]:Str),([112,105,99,107]:Str),([100,97,121]:Str),([115,116,101,112]:Str),([115,117,109]:Str),([115,104,97,114,101]:Str),([99,111,112,121]:Str)]) (6:Int)=some [115,117,109] from rfl];simp only[Za];rw[Qao (by simp),Qao (by simp only[Zd,Zi,Zk];omega),Qao (by simp only[Zd,Zi,Zk];omega)];simp only[Za];rw[Zb (by decide)];simp only[Za];rw[Ze (by decide),Qao (by simp only[Zd,Zi,Zk];omega),Qf1];simp only[Za];rw[Qao (by simp only[Zd,Zi,Zk];omega)];simp only[Za];rw[Zb (by decide)];simp only[Za];rw[Zb (by decide)];simp only[Za];rw[Zb (by decide)];simp[toks,Qd2,hno]
def rLine7 {n o u:Str} {lo hi:Int} {w:List Str} {g:List Int} (hn:n.length<=12) (hu:u.length<=12) (ho:(Qbi o).length<=12) (hno:Qbi o=o) (hlo:-1000000000<=lo/\lo<=1000000000) (hhi:-1000000000<=hi/\hi<=1000000000):QaN ⟨n,o,u,7,lo,hi,w,g⟩=some (10::([115,104,97,114,101]++toks [.str n,.str u,.str o,.int lo,.int hi])):=by unfold QaN QbL QbS;simp only[Za];rw[show idx ([([107,101,121]:Str),([114,101,102]:Str),([110,117,109]:Str),([112,105,99,107]:Str),([100,97,121]:Str),([115,116,101,112]:Str),([115,117,109]:Str),([115,104,97,114,101]:Str),([99,111,112,121]:Str)]) (7:Int)=some [115,104,97,114,101] from rfl];simp only[Za];rw[Qao (by simp),Qao (by simp only[Zd,Zi,Zk];omega),Qao (by simp only[Zd,Zi,Zk];omega)];simp only[Za];rw[Ze (by decide),Qao (by simp only[Zd,Zi,Zk];omega),Qao (by simp only[Zd,Zi,Zk];omega)];simp only[Za];rw[Ze (by decide),Qao (by simp only[Zd,Zi,Zk];omega),Qf1];simp only[Za];rw[Qao (by simp only[Zd,Zi,Zk];omega)];simp only[Za];have l1:=QcE (n:=lo) (by unfold I64;omega);rw[Ze (by decide),Qc9 (by simp only[Zd,Zi,Zk];omega) hlo];simp only[Za];rw[Ze (by decide),Qc9 (by simp only[Zd,Zi,Zk];omega) hhi];simp only[Za];rw[Zb (by decide)];simp[toks,Qd2,hno]
def rLine8 {n o u:Str} {lo hi:Int} {w:List Str} {g:List Int} (hn:n.length<=12) (hu:u.length<=12) (ho:(Qbi o).length<=12) (hno:Qbi o=o):QaN ⟨n,o,u,8,lo,hi,w,g⟩=some (10::([99,111,112,121]++toks [.str n,.str u,.str o])):=by unfold QaN QbL QbS;simp only[Za];rw[show idx ([([107,101,121]:Str),([114,101,102]:Str),([110,117,109]:Str),([112,105,99,107]:Str),([100,97,121]:Str),([115,116,101,112]:Str),([115,117,109]:Str),([115,104,97,114,101]:Str),([99,111,112,121]:Str)]) (8:Int)=some [99,111,112,121] from rfl];simp only[Za];rw[Qao (by simp),Qao (by simp only[Zd,Zi,Zk];omega),Qao (by simp only[Zd,Zi,Zk];omega)];simp only[Za];rw[Ze (by decide),Qao (by simp only[Zd,Zi,Zk];omega),Qao (by simp only[Zd,Zi,Zk];omega)];simp only[Za];rw[Ze (by decide),Qao (by simp only[Zd,Zi,Zk];omega),Qf1];simp only[Za];rw[Qao (by simp only[Zd,Zi,Zk];omega)];simp only[Za];rw[Zb (by decide)];simp only[Za];rw[Zb (by decide)];simp only[Za];rw[Zb (by decide)];simp[toks,Qd2,hno]
def Qno (f:Qd):Str:=QlW f++toks (QaW f)
def Qtx (l:List (Str×Int)):toks (l.flatMap λp=>[AnyV.str p.1,AnyV.int p.2])=l.flatMap λp=>(32::p.1)++(32::Lib.itoa p.2):=by
 induction l with
 | nil=>rfl
 | cons a l ih=>rw[flatMap_cons,flatMap_cons,<-ih];simp[toks,Qd2]
def rLine3 {n o u:Str} {lo hi:Int} {w:List Str} {g:List Int} (hn:n.length<=12) (hl:w.length=g.length) (h12:w.length<=12) (hw:∀s∈w,s.length<=12) (hg:∀x∈g,0<=x/\x<=1048576):
  QaN ⟨n,o,u,3,lo,hi,w,g⟩=some (10::([112,105,99,107]++toks ([.str n,.int (w.length:Int)]++(w.zip g).flatMap λp=>[.str p.1,.int p.2]))):=by
 have hz:(w.zip g).length=w.length:=by rw[length_zip];omega
 unfold QaN QbL QbS;simp only[Za];rw[show idx ([([107,101,121]:Str),([114,101,102]:Str),([110,117,109]:Str),([112,105,99,107]:Str),([100,97,121]:Str),([115,116,101,112]:Str),([115,117,109]:Str),([115,104,97,114,101]:Str),([99,111,112,121]:Str)]) (3:Int)=some [112,105,99,107] from rfl];simp only[Za];rw[Qao (by simp),Qao (by simp only[Zd,Zi,Zk];omega),Qao (by simp only[Zd,Zi,Zk];omega)];simp only[Za];rw[Zb (by decide)];simp only[Za];rw[Zb (by decide)];simp only[Za];rw[Zb (by decide)];simp only[Za];rw[Zb (by decide)];simp only[Za];have l1:=QcE (n:=(w.length:Int)) (by unfold I64;omega);rw[Ze (by decide),Qc9 (by simp only[Zd,Zi,Zk];omega) (by omega)];simp only[Za];have lp:∀p∈w.zip g,p.1.length<=12/\0<=p.2/\p.2<=1048576/\(Lib.itoa p.2).length<=20:=λp hp=>by obtain⟨a,b⟩:=p;have h:=of_mem_zip hp;have h2:=hg b h.2;exact⟨hw a h.1,h2.1,h2.2,QcE (by unfold I64;dsimp only;omega)⟩
 rw[Qd5 (w.zip g) (λp=>(32::p.1)++(32::Lib.itoa p.2)) 40 (λp hp=>?_) _ (λk hk acc hacc=>?_) (λacc=>?_)]
 ·simp only[Za];have e:∀a b:List AnyV,toks (a++b)=toks a++toks b:=λa b=>by unfold toks;rw[ZN]
  rw[e,Qtx];simp[toks,Qd2]
 ·have:=lp p hp;simp only[Zd,Zi];omega
 ·have hk':k<w.length:=by omega
  have hp:=lp _ (Zn hk);rw[getElem_zip] at hp ⊢;dsimp only at hp ⊢;simp only[Zd,Zi,Zk] at hacc;rw[Ze (decide_eq_true (ZL.2 hk')),Qao (by rw[length_singleton];omega),Qaa hk',Qaa (show k<g.length by omega)];simp only[Za];rw[Qao (by rw[Zd,length_singleton];omega)];simp only[Za];rw[Qc9 (by rw[Zd,Zd,length_singleton];omega) (by omega),QT hk' (by omega)];simp
 ·rw[hz,Zb (by simp)]
def QwH {f:Qd} (h:Qa4 f=true):QaN f=some (10::Qno f):=by
 unfold Qa4 at h;simp only[Zh] at h;obtain⟨⟨hn,_⟩,hp⟩:=h;have hnl:=QaE hn;obtain⟨n,o,u,k,lo,hi,w,g⟩:=f;have nl:∀{s:Str},Q7 s=true->(Qbi s).length<=12:=λ{s} hs=>by rw[Ql0 hs];exact QaE hs
 unfold Qf9 at hp;dsimp only at hp hn hnl;by_cases c0:k=0
 ·subst c0;rw[Ze rfl] at hp;have:=QbK hp;rw[rLine0 hnl (by omega)];rfl
 rw[Zb c0] at hp;by_cases c1:k=1
 ·subst c1;rw[Ze rfl] at hp;simp only[Zh] at hp;have:=Qev hp.2;rw[rLine1 hnl (nl hp.1) (by omega) (by omega)];rfl
 rw[Zb c1] at hp;by_cases c2:k=2
 ·subst c2;rw[Ze rfl] at hp;have:=Qev hp;rw[rLine2 hnl (by omega) (by omega)];rfl
 rw[Zb c2] at hp;by_cases c3:k=3
 ·subst c3;rw[Ze rfl] at hp;simp only[Qh5,Zh,Zs,Ye] at hp;obtain⟨hg,⟨⟨hw,hl⟩,_⟩,hws⟩:=hp;have hw':=(QbK hw).2;rw[rLine3 hnl (by omega) (by omega) (λs hs=>QaE (hws s hs)) (λx hx=>QbK (hg x hx))];rfl
 rw[Zb c3] at hp;by_cases c4:k=4
 ·subst c4;rw[Ze rfl] at hp;simp only[Zh] at hp;have:=Qev hp.2;have ho:(Qbi o).length<=12:=by
   by_cases hs:o=[]
   ·subst hs;decide
   ·exact nl (by simpa[hs] using hp.1)
  rw[rLine4 hnl ho (by omega) (by omega)];rfl
 rw[Zb c4] at hp;by_cases c5:k=5
 ·subst c5;rw[Ze rfl] at hp;simp only[Zh] at hp;have:=Qev hp.2;rw[rLine5 hnl (nl hp.1) (by omega) (by omega)];rfl
 rw[Zb c5] at hp;by_cases c6:k=6
 ·subst c6;rw[Ze rfl] at hp;rw[rLine6 hnl (nl hp) (Ql0 hp)];rfl
 rw[Zb c6] at hp;by_cases c7:k=7
 ·subst c7;rw[Ze rfl] at hp;simp only[Zh] at hp;have:=Qev hp.2;rw[rLine7 hnl (QaE hp.1.2) (nl hp.1.1) (Ql0 hp.1.1) (by omega) (by omega)];rfl
 rw[Zb c7] at hp;by_cases c8:k=8
 ·subst c8;rw[Ze rfl] at hp;simp only[Zh] at hp;rw[rLine8 hnl (QaE hp.2) (nl hp.1) (Ql0 hp.1)];rfl
 rw[Zb c8] at hp;cases hp
def QjP (k:Qh):Str:=(10::([107,105,110,100]++toks [.str k.Xi,.int k.Lo,.int k.Hi]))++k.Xb.flatMap λf=>10::Qno f
def QoT (m:Qac):Str:=10::([109,111,118,101]++toks [.int m.a0,.int m.a1])
def QkS (l:Qr):Str:=(10::([108,105,102,101]++toks ([.str l.Xi,.int (l.Xe.length:Int)]++l.Xe.map .str)))++l.Xg.flatMap QoT
def Qnp (r:Qm):Str:=10::([114,117,108,101]++toks (Qf0 r))
def Qje (x:Qa):Str:=[115,99,104,101,109,97]++(32::Lib.itoa x.Version)
def srcR (x:Qa):Str:=Qje x++x.Xa.flatMap QjP++x.Xd.flatMap QkS++x.Xc.flatMap Qnp
def QoU {α:Type} {l:List α} {g h:α->Str} (e:∀a∈l,[10]++g a=h a++[10]):[10]++l.flatMap g=l.flatMap h++[10]:=by
 induction l with
 | nil=>rfl
 | cons a l ih=>rw[flatMap_cons,flatMap_cons,<-ZC,e a Zl,ZC,ih λb hb=>e b (Zy _ hb),ZC]
def QoV (k:Qh):[10]++QfT k=QjP k++[10]:=by have:=QoU (l:=k.Xb) (g:=Qfh) (h:=λf=>10::Qno f) λf _=>rfl;unfold QfT QjP QeQ;rw[ZC _ [10],this];simp
def QoW (l:Qr):[10]++QgE l=QkS l++[10]:=by have:=QoU (l:=l.Xg) (g:=Qis) (h:=QoT) λm _=>rfl;unfold QgE QkS QeQ;rw[ZC _ [10],this];simp
def Qve (x:Qa):srcS x=srcR x++[10]:=by
 have e1:=QoU (l:=x.Xa) (g:=QfT) (h:=QjP) λk _=>QoV k;have e2:=QoU (l:=x.Xd) (g:=QgE) (h:=QkS) λk _=>QoW k;have e3:=QoU (l:=x.Xc) (g:=Qi0) (h:=Qnp) λk _=>rfl;have e0:QeQ [115,99,104,101,109,97] [.int x.Version]=Qje x++[10]:=by simp[QeQ,Qje,toks,Qd2]
 unfold srcS srcR;rw[e0,ZC (Qje x),e1,<-ZC,ZC _ [10],e2,<-ZC,ZC _ [10],e3];simp
def Qju {a b:Str} (h:[10]++a=b++[10]):a.length=b.length:=by have:=Zu length h;simp only[Zd,Zi,Zk] at this;omega
def Qty {x:Qa} (h:Qpu x):Qgo x=some (srcR x++[10]):=by
 have hv:=h.version;have l0:(Qje x).length<=30:=by have:=QcE (n:=x.Version) (by unfold I64;omega);unfold Qje;simp only[Zd,Zi,Zk];omega
 have kl:∀k∈x.Xa,(QjP k).length<=50000:=λk hk=>by rw[<-Qju (QoV k)];exact Qk6 (h.kind k hk)
 have ll:∀k∈x.Xd,(QkS k).length<=20000:=λk hk=>by rw[<-Qju (QoW k)];exact Qjd (h.life k hk)
 have rl:∀k∈x.Xc,(Qnp k).length<=1000:=λk hk=>by have e:[10]++Qi0 k=Qnp k++[10]:=rfl;rw[<-Qju e];exact Qk7 (h.rule k hk)
 have lk:=Qhk kl;have ll':=Qhk ll;have lr:=Qhk rl;have nk:=h.kinds;have nl:=h.lives;have nr:=h.rules;unfold Qgo;have e0:QbH [115,99,104,101,109,97] x.Version=some (Qje x):=Qc9 (by decide) (by omega);rw[e0];simp only[Za];rw[Qd5 x.Xa QjP 50000 kl (Qje x) (λk hk acc hacc=>?_) (λacc=>Zb (by simp))]
 ·simp only[Za];rw[Qd5 x.Xd QkS 20000 ll (Qje x++x.Xa.flatMap QjP) (λk hk acc hacc=>?_) (λacc=>Zb (by simp))]
  ·simp only[Za];rw[Qd5 x.Xc Qnp 1000 rl (Qje x++x.Xa.flatMap QjP++x.Xd.flatMap QkS) (λk hk acc hacc=>?_) (λacc=>Zb (by simp))]
   ·simp only[Za];rw[Qao (by simp only[Zd,Zi,Zk];omega)];rfl
   ·have hr:=h.rule _ (Zn hk);simp only[QfB,Zh] at hr;obtain⟨⟨⟨⟨⟨h1,h2⟩,h3⟩,h4⟩,_⟩,h5⟩:=hr;have hN:=QbK h5;have n1:=QaE h1;have n2:=QaE h2;have na:=QlV (QiZ h3);have nb:=QlV (QiZ h4);have na':(Qbi x.Xc[k].A).length<=100:=na;have nb':(Qbi x.Xc[k].B).length<=100:=nb;simp only[Zd] at hacc;rw[Ze (decide_eq_true (ZL.2 hk))];dsimp only;rw[Qaa hk];simp only[Za];rw[Qf1,Qf1];simp only[Za];rw[Qao (by simp only[Zi,Zk];omega),Qao (by simp only[Zd,Zi,Zk];omega),
     Qao (by simp only[Zd,Zi,Zk];omega),Qao (by simp only[Zd,Zi,Zk];omega),
     Qao (by simp only[Zd,Zi,Zk];omega),Qao (by simp only[Zd,Zi,Zk];omega),
     Qao (by simp only[Zd,Zi,Zk];omega),Qao (by simp only[Zd,Zi,Zk];omega)]
    simp only[Za];rw[Qc9 (by simp only[Zd,Zi,Zk];omega) (by omega),QT hk (by omega)];simp[Qnp,Qf0,toks,Qd2]
  ·have hl:=h.life _ (Zn hk);simp only[QfA,Zh,Zs,ZA] at hl;obtain⟨⟨⟨⟨h1,h2⟩,h3⟩,h4⟩,h5⟩:=hl;have hS:=QbK h2;have n1:=QaE h1;have l1:=QcE (n:=(x.Xd[k].Xe.length:Int)) (by unfold I64;omega);simp only[Zd] at hacc;rw[Ze (decide_eq_true (ZL.2 hk))];dsimp only;rw[Qaa hk];simp only[Za];rw[Qao (by simp only[Zi,Zk];omega),Qao (by simp only[Zd,Zi,Zk];omega)];simp only[Za];rw[Qc9 (by simp only[Zd,Zi,Zk];omega) (by omega)];simp only[Za];rw[Qd5 x.Xd[k].Xe (λs=>32::s) 20 (λs hs=>by have:=QaE (h3 s hs);rw[Zi];omega) _ (λq hq acc2 hacc2=>?_) (λacc=>Zb (by simp))]
   ·simp only[Za];have ls:=Qhk (l:=x.Xd[k].Xe) (g:=λs=>32::s) (B:=20) (λs hs=>by have:=QaE (h3 s hs);rw[Zi];omega);rw[Qd5 x.Xd[k].Xg QoT 300 (λm hm=>?_) _ (λq hq acc2 hacc2=>?_) (λacc=>Zb (by simp))]
    ·simp only[Za];rw[QT hk (by omega)];have e:(x.Xd[k].Xe.map AnyV.str).flatMap (λv=>32::Qd2 v)=x.Xd[k].Xe.flatMap λs=>32::s:=by
      rw[flatMap_map];rfl
     simp[QkS,toks,Qd2,<-e]
    ·have e:[10]++Qis m=QoT m++[10]:=rfl;rw[<-Qju e];exact Qjc (Qu6 (by omega) (h5 m hm))
    ·have hm:=h5 _ (Zn hq);simp only[QiF,Zh] at hm;have m1:=QbK hm.1;have m2:=QbK hm.2;have i1:=QcE (n:=x.Xd[k].Xg[q].a0) (by unfold I64;omega);simp only[Zd,Zi,Zk] at hacc2;rw[Ze (decide_eq_true (ZL.2 hq))];dsimp only;rw[Qao (by simp only[Zi,Zk];omega),Qaa hq];simp only[Za];rw[Qc9 (by simp only[Zd,Zi,Zk];omega) (by omega)];simp only[Za];rw[Qc9 (by simp only[Zd,Zi,Zk];omega) (by omega),QT hq (by omega)];simp[QoT,toks,Qd2]
   ·have hs:=QaE (h3 _ (Zn hq));simp only[Zd,Zi,Zk] at hacc2;rw[Ze (decide_eq_true (ZL.2 hq))];dsimp only;rw[Qao (by simp only[Zi,Zk];omega),Qaa hq];simp only[Za];rw[Qao (by simp only[Zd,Zi,Zk];omega),QT hq (by omega)];simp
 ·have hk':=h.kind _ (Zn hk);simp only[Qfz,Zh,Zs,ZA] at hk';obtain⟨⟨⟨h1,h2⟩,h3⟩,h4⟩:=hk';have hS:=Qev h2;have n1:=QaE h1;have l1:=QcE (n:=x.Xa[k].Lo) (by unfold I64;omega);have l2:=QcE (n:=x.Xa[k].Hi) (by unfold I64;omega);rw[Ze (decide_eq_true (ZL.2 hk))];dsimp only;rw[Qaa hk];simp only[Za];rw[Qao (by simp only[Zi,Zk];omega),Qao (by simp only[Zd,Zi,Zk];omega)];simp only[Za];rw[Qc9 (by simp only[Zd,Zi,Zk];omega) (by omega)];simp only[Za];rw[Qc9 (by simp only[Zd,Zi,Zk];omega) (by omega)];simp only[Za];have fl:∀f∈x.Xa[k].Xb,(10::Qno f).length<=4000:=λf hf=>by
   have e:[10]++Qfh f=(10::Qno f)++[10]:=rfl;rw[<-Qju e];exact Qh6 (Qjr (h4 f hf))
  rw[Qd5 x.Xa[k].Xb (λf=>10::Qno f) 4000 fl _ (λq hq acc2 hacc2=>?_) (λacc=>Zb (by simp))]
  ·simp only[Za];rw[QT hk (by omega)];simp[QjP,toks,Qd2]
  ·have hf:=fl _ (Zn hq);simp only[Zd,Zi,Zk] at hacc2;rw[Ze (decide_eq_true (ZL.2 hq))];dsimp only;rw[Qaa hq];simp only[Za];rw[QwH (h4 _ (Zn hq))];simp only[Za];rw[Qao (by omega),QT hq (by omega)];rfl
def Qvf {x:Qa} (h:Fine x):Qg1 x=some (QfU x):=by
 obtain⟨⟨a1,a2⟩,⟨b1,b2⟩,c⟩:=h;have n1:∀(n:Nat) (m:Int),decide ((n:Int)>m)=!decide ((n:Int)<=m):=λn m=>by
  by_cases h:(n:Int)<=m
  ·rw[decide_eq_true h,decide_eq_false (by omega)];rfl
  ·rw[decide_eq_false h,decide_eq_true (by omega)];rfl
 unfold Qg1;rw[show Qa2 x.Version 0 1048576=some (inW x.Version 0 1048576) from rfl];simp only[Za];rw[n1,n1,n1,QcV x.Xa Qfz 1 (λk hk=>?_) (Zb (by simp)),QcV x.Xd QfA 1 (λk hk=>?_) (Zb (by simp)),QcV x.Xc QfB 1 (λk hk=>?_) (Zb (by simp))]
 ·unfold QfU
  cases hv:Qhl x with
  | true=>
   have hs:=Qty (Qm2 hv);rw[<-Qve] at hs;simp only[Qhl,Zh] at hv;obtain⟨⟨⟨⟨⟨⟨h1,h2⟩,h3⟩,h4⟩,h5⟩,h6⟩,h7⟩:=hv;rw[h1,h2,h3,h4,h5,h6,h7,hs];simp only[Bool.not_true,Bool.or_self,if_true,Za];rw[Zb (by decide)];by_cases hl:(srcS x).length>8192
   ·rw[Ze (by simp;omega),Ze hl]
   ·rw[Zb (by simp;omega),Zb hl]
  | false=>
   show _=some (1:Int);unfold Qhl at hv
   cases h1:inW x.Version 0 1048576<;>cases h2:decide ((x.Xa.length:Int)<=6)<;>cases h3:decide ((x.Xd.length:Int)<=6)<;>cases h4:decide ((x.Xc.length:Int)<=16)<;>
    cases h5:x.Xa.all Qfz<;>cases h6:x.Xd.all QfA<;>cases h7:x.Xc.all QfB<;>first | rfl | (rw[h1,h2,h3,h4,h5,h6,h7] at hv;cases hv)
 ·rw[Ze (decide_eq_true (ZL.2 hk)),Qaa hk];simp only[Za];rw[QwE];simp only[Za];rw[QT hk (by omega)];cases QfB x.Xc[k]<;>rfl
 ·have hl:=b2 _ (Zn hk);rw[Ze (decide_eq_true (ZL.2 hk)),Qaa hk];simp only[Za];rw[QwD hl.1 hl.2];simp only[Za];rw[QT hk (by omega)];cases QfA x.Xd[k]<;>rfl
 ·rw[Ze (decide_eq_true (ZL.2 hk)),Qaa hk];simp only[Za];rw[QwG (a2 _ (Zn hk))];simp only[Za];rw[QT hk (by omega)];cases Qfz x.Xa[k]<;>rfl
def Qdt {x:Qa} {n:Str} (hx:x.Xa.length<=1000000):Qcp x n=some (QR x n):=by
 unfold Qcp;rw[QbV x.Xa (λk=>k.Xi==n) (λk hk=>?_) ?_]
 ·unfold QR Qa3;cases x.Xa.findIdx? _<;>rfl
 ·rw[Zb (by simp)]
 ·rw[Ze (by simpa using hk),Qaa hk,QT hk (by omega)];rfl
def Qew {q:Qh} {n:Str} (hx:q.Xb.length<=1000000):Qcf q n=some (Qan q n):=by
 unfold Qcf;rw[QbV q.Xb (λk=>k.Xi==n) (λk hk=>?_) ?_]
 ·unfold Qan Qa3;cases q.Xb.findIdx? _<;>rfl
 ·rw[Zb (by simp)]
 ·rw[Ze (by simpa using hk),Qaa hk,QT hk (by omega)];rfl
def has_is (x:Qa) (k j:Int):Qiy x k j=some (field? x k j).isSome:=by
 unfold Qiy;by_cases hc:(0<=k/\k<x.Xa.length)/\0<=j
 ·obtain⟨⟨h1,h2⟩,h3⟩:=hc;obtain⟨q,hq,_⟩:=Qb2 h1 h2;rw[Zb (by simp;omega),hq];show some (decide (j<(q.Xb.length:Int)))=_;by_cases h4:j<q.Xb.length
  ·obtain⟨f,hf,_⟩:=Qb2 h3 h4;rw[Qhg h1 h3 hq hf];simpa using h4
  ·cases h:field? x k j with
   | none=>simpa using h4
   | some f=>obtain⟨q',_,_,e1,e2,_,_,e3⟩:=QcT h;rw[hq] at e1;cases e1;exact (h4 e3).elim
 ·rw[Ze (by simp;omega)]
  cases h:field? x k j with
  | none=>rfl
  | some f=>obtain⟨q',e1,e2,_,_,_,e3,_⟩:=QcT h;exact (hc ⟨⟨e1,e3⟩,e2⟩).elim
def QhU {x:Qa} {k j:Int} (hx:Few x):Qfa x k j=some (upIx x k j):=by
 have fin:∀g:Qd,(if (g.Xh !=1)=true then some (-1) else (Qcp x g.Of).bind λt62=>if decide (t62>=k)=true then some (-1) else some t62)=some (if g.Xh=1 then Qjb x k g else -1):=λg=>by
  by_cases hg:g.Xh=1
  ·rw[Zb (by simp[hg]),Ze hg,Qdt (by have:=hx.1;omega)];show (if decide (QR x g.Of>=k)=true then some (-1) else some (QR x g.Of))=_;unfold Qjb;by_cases hk:QR x g.Of<k
   ·rw[Zb (by simp;omega),Ze hk]
   ·rw[Ze (by simp;omega),Zb hk]
  ·rw[Ze (by simp[hg]),Zb hg]
 unfold Qfa;rw[has_is];unfold upIx
 cases hf:field? x k j with
 | none=>rfl
 | some f=>
  obtain⟨q,hk,hj,hq,hqf,hqm,_,hjl⟩:=QcT hf;simp only[Za,Option.isSome_some,Bool.not_true];rw[Zb (by decide),hq];simp only[Za];rw[hqf];simp only[Za];unfold jn;dsimp only;by_cases c:f.Xh=7\/f.Xh=8
  ·rw[Ze (by simpa using c),Ze c];rw[Qew (by have:=hx.2 q hqm;omega)];simp only[Za];have hr:=Qeu q.Xb λg=>g.Xi==f.Up;have hr1:-1<=Qan q f.Up:=hr.1;have hr2:Qan q f.Up<q.Xb.length:=hr.2;by_cases hu:0<=Qan q f.Up/\Qan q f.Up<j
   ·obtain⟨g,hg,_⟩:=Qb2 hu.1 hr2;rw[Zb (by simp;omega),Ze hu.2,Qhg hk hu.1 hq hg,hg];exact fin g
   ·rw[Ze (by simp;omega)];by_cases hu2:Qan q f.Up<j
    ·rw[Ze hu2];have:field? x k (Qan q f.Up)=none:=by
      cases hg:field? x k (Qan q f.Up) with
      | none=>rfl
      | some g=>obtain⟨_,_,e,_⟩:=QcT hg;exact (hu ⟨e,hu2⟩).elim
     rw[this]
    ·rw[Zb hu2]
  ·rw[Zb (by simpa using c),Zb c];exact fin f
def Qyq {x:Qa} {k j:Int} {f:Qd} (hx:Few x) (hf:field? x k j=some f):QhQ x k j=some (QkP x k f):=by
 obtain⟨q0,hk,hj,hq0,hqf,hqm0,_,hjl⟩:=QcT hf;unfold QhQ;rw[hq0];simp only[Za];rw[hqf];simp only[Za];rw[Qdt (by have:=hx.1;omega)];simp only[Za];unfold QkP;by_cases c:f.Xh≠6\/QR x f.Of<=k
 ·rw[Ze (by simpa using c),Ze c]
 rw[Zb (by simpa using c),Zb c];have c':k<QR x f.Of:=by
  rcases Int.lt_or_le k (QR x f.Of) with h | h
  ·exact h
  ·exact (c (.inr h)).elim
 obtain⟨q,hq,hqm⟩:=Qb2 (l:=x.Xa) (i:=QR x f.Of) (by omega) (Qhi x f.Of).2;have hl:=hx.2 q hqm;rw[hq];simp only[Za];refine Qkl q.Xb.length (λn=>((n:Int),((range n).filter (QiD x (QR x f.Of) k f.Xi q.Xb)).map Int.ofNat)) _ rfl (λn hn=>?_) (Zb (by simp)) ?_
 ·rw[Ze (by simpa using hn),Qaa hn];simp only[Za];rw[QhU hx];have e:QiD x (QR x f.Of) k f.Xi q.Xb n=(q.Xb[n].Xh==7&&q.Xb[n].Of==f.Xi&&upIx x (QR x f.Of) (n:Int)==k):=by
   unfold QiD;rw[Zf hn]
  have hle:=Qrx (QiD x (QR x f.Of) k f.Xi q.Xb) n;rw[QpU,e,QT hn (by omega)]
  cases h0:(q.Xb[n].Xh==7) with
  | false=>rfl
  | true=>
   simp only[Sim.opt,Bool.true_and,if_true,beq_self_eq_true,Za]
   cases h1:(q.Xb[n].Of==f.Xi) with
   | false=>rfl
   | true=>
    simp only[Bool.true_and,if_true,beq_self_eq_true,Za]
    cases h2:upIx x (QR x f.Of) (n:Int)==k with
    | false=>rfl
    | true=>rw[Ze rfl,Ze rfl,Qcx (by rw[length_singleton];omega)];rfl
 ·unfold shl;rw[hq]
def Qp1 {x:Qa} {k j:Int} (h:j<0):field? x k j=none:=by unfold field?;rw[Zb (by omega)]
def Qvg {x:Qa} {k j:Int} {f:Qd} (h:field? x k j=some f):∃q∈x.Xa,f∈q.Xb:=by obtain⟨q,_,hj,_,hf,hm,_⟩:=QcT h;rw[QfR _ hj] at hf;exact⟨q,hm,Zo hf⟩
def Qvh {x:Qa} {k j:Int} {q:Qh} {f:Qd} (hx:Few x) (hq:idx x.Xa k=some q) (hf:field? x k j=some f):
  Qg3 x k j=some (if (topS x k j f).2=true then ((topS x k j f).1.Xh,(topS x k j f).1) else (-1,Qds)):=by
 obtain⟨q',hk,hj,hq',hqf,hqm,hkl,hjl⟩:=QcT hf;rw[hq] at hq';cases hq';unfold Qg3 topS;rw[QhU hx];simp only[Za];by_cases hu:upIx x k j<0
 ·rw[Ze (by simpa using hu),Ze hu];rfl
 ·rw[Zb (by simpa using hu),Zb hu];have h1:=QsD x k j hk;obtain⟨r,hr,hrm⟩:=Qb2 (l:=x.Xa) (i:=upIx x k j) (by omega) (by omega);rw[hr,hq];simp only[Za];rw[hqf];simp only[Za];rw[Qew (by have:=hx.2 r hrm;omega)];simp only[Za];have hrange:=Qeu r.Xb λg=>g.Xi==f.Of;have hr2:Qan r f.Of<r.Xb.length:=hrange.2;by_cases hi:Qan r f.Of<0
  ·rw[Ze (by simpa using hi),Qp1 hi];rfl
  ·rw[Zb (by simpa using hi)];obtain⟨g,hg,_⟩:=Qb2 (l:=r.Xb) (i:=Qan r f.Of) (by omega) hr2;rw[Qhg (by omega) (by omega) hr hg,hg];rfl
def Qyr {x:Qa} {k j:Int} {f:Qd} (h:(topS x k j f).2=true):∃q∈x.Xa,(topS x k j f).1∈q.Xb:=by
 unfold topS at h ⊢;split at h
 ·cases h
 ·rename_i hu;rw[Zb hu];split at h
  ·cases h
  ·rename_i q hq
   cases hf:field? x (upIx x k j) (Qan q f.Of) with
   | none=>rw[hf] at h;cases h
   | some g=>exact Qvg hf
def Known (x:Qa):Prop:=∀q∈x.Xa,∀g∈q.Xb,0<=g.Xh/\g.Xh<=8
def Qr9 {x:Qa} (h:QfU x=0):Known x:=by
 intro q hq g hg;unfold QfU at h;split at h
 ·rename_i hv;exact (Qjr ((QrB ((Qm2 hv).kind q hq)).2.2 g hg)).kind
 ·cases h
def QoX (a:Bool) (c:Int):QbE [⟨a,c⟩]=if a=true then c else 0:=rfl
def QlC (a b:Bool) (c d:Int):QbE [⟨a,c⟩,⟨b,d⟩]=if a=true then c else if b=true then d else 0:=rfl
def Qvi {x:Qa} {k j:Int} {q:Qh} {f:Qd} (hx:Few x) (hl:x.Xd.length<=1000) (hn:Known x) (hq:idx x.Xa k=some q) (hf:field? x k j=some f):Qg4 x k j=some (QlX x q k j f):=by
 obtain⟨q',hk,hj,hq',hqf,hqm,hkl,hjl⟩:=QcT hf;rw[hq] at hq';cases hq';have hab:=Qvh hx hq hf;have hkind:0<=f.Xh/\f.Xh<=8:=by rw[QfR _ hj] at hqf;exact hn q hqm f (Zo hqf)
 unfold Qg4;rw[hq];simp only[Za];rw[hqf];simp only[Za];rw[QhU hx,Qew (by have:=hx.2 q hqm;omega),Qyq hx hf];simp only[Za];unfold jn;dsimp only;unfold QlX;by_cases c0:f.Xh=0
 ·rw[Ze c0,QoX,c0];by_cases hj0:j>0
  ·rw[decide_eq_true hj0];rfl
  ·rw[decide_eq_false hj0];rfl
 have n0:(f.Xh==0)=false:=by simpa using c0
 rw[Zb c0,n0];simp only[Bool.false_and];rw[Zb (by decide),Zb (by decide)];by_cases c1:f.Xh=1
 ·rw[Ze c1,QoX,c1];show (if decide (upIx x k j<0)=true then some 12 else some 0)=_;by_cases hu:upIx x k j<0
  ·rw[Ze (by simpa using hu),Ze (by simpa using hu)]
  ·rw[Zb (by simpa using hu),Zb (by simpa using hu)]
 rw[Zb c1];by_cases c2:f.Xh=2
 ·rw[c2];rfl
 by_cases c3:f.Xh=3
 ·rw[c3];rfl
 have n1:(f.Xh==1)=false:=by simpa using c1
 have n2:(f.Xh==2)=false:=by simpa using c2
 have n3:(f.Xh==3)=false:=by simpa using c3
 rw[n1,n2,n3];simp only[ZP,if_false,Za];by_cases c4:f.Xh=4
 ·rw[Ze c4,QoX,Ze (by simp[c4])];by_cases ho:f.Of=[]
  ·rw[Ze (by simp[ho]),Zb (by simp[ho])]
  ·rw[Zb (by simpa using ho)];have ho':(f.Of !=[])=true:=by simpa using ho
   rw[ho',Bool.true_and];by_cases hr:Qan q f.Of<0\/Qan q f.Of>=j
   ·have:(decide (Qan q f.Of<0)||decide (Qan q f.Of>=j))=true:=by simpa using hr
    rw[this,Bool.true_or];rfl
   ·have e:(decide (Qan q f.Of<0)||decide (Qan q f.Of>=j))=false:=by
     rw[Bool.eq_false_iff];simpa using hr
    obtain⟨g,hg,_⟩:=Qb2 (l:=q.Xb) (i:=Qan q f.Of) (by omega) (by omega);rw[e,Bool.false_or,Qhg hk (by omega) hq hg,hg];rw[Zb (by decide)];simp only[Za];cases g.Xh !=4<;>rfl
 have n4:(f.Xh==4)=false:=by simpa using c4
 rw[Zb c4,n4,Zb (by decide)];by_cases c5:f.Xh=5
 ·rw[Ze c5,QoX,Ze (by simp[c5]),QcV x.Xd (λl=>!(l.Xi==f.Of)) (0:Int) (λn hn=>?_) (Zb (by simp))]
  ·simp only[Za];have e:(x.Xd.all λl=>!(l.Xi==f.Of))=!(x.Xd.any λl=>l.Xi==f.Of):=by
    rw[not_any_eq_all_not]
   rw[e];cases (x.Xd.any λl=>l.Xi==f.Of)<;>rfl
  ·rw[Ze (decide_eq_true (ZL.2 hn)),Qaa hn];simp only[Za];rw[QT hn (by omega)];cases x.Xd[n].Xi==f.Of<;>rfl
 have n5:(f.Xh==5)=false:=by simpa using c5
 rw[Zb c5,n5,Zb (by decide)];by_cases c6:f.Xh=6
 ·rw[Ze c6,QlC,Ze (by simp[c6])];cases decide ((QkP x k f).1<0)<;>cases ((QkP x k f).2.length:Int) !=1<;>rfl
 have n6:(f.Xh==6)=false:=by simpa using c6
 rw[Zb c6,n6,Zb (by decide)];unfold QiA;rw[hab,hq];simp only[Za];rw[hqf];simp only[Za];by_cases hu:upIx x k j<0
 ·rw[Ze (by simpa using hu)];by_cases c7:f.Xh=7
  ·rw[Ze c7,QlC,Ze (by simpa using hu)];rfl
  ·have c8:f.Xh=8:=by omega
   rw[Zb c7,Ze c8,QlC,Ze (by simpa using hu)];rfl
 rw[Zb (by simpa using hu)];have hud:decide (upIx x k j<0)=false:=by simpa using hu
 by_cases c7:f.Xh=7
 ·have e7:(f.Xh==7)=true:=by simp[c7]
  rw[Ze c7,QlC,hud,e7]
  cases ht:(topS x k j f).2 with
  | false=>rfl
  | true=>
   simp only[ZP,if_false,if_true];rw[Qdt (by have:=hx.1;omega)]
   cases h6:((topS x k j f).1.Xh !=6) with
   | true=>rfl
   | false=>simp only[Sim.opt,beq_self_eq_true,if_true,Za];cases QR x (topS x k j f).1.Of !=k<;>rfl
 ·have c8:f.Xh=8:=by omega
  have n7:(f.Xh==7)=false:=by simpa using c7
  rw[Zb c7,Ze c8,QlC,hud,n7]
  cases ht:(topS x k j f).2 with
  | false=>rfl
  | true=>
   obtain⟨r,hr,hg⟩:=Qyr ht;have hgk:=hn r hr _ hg;have hz:(topS x k j f).1.Xh=0\/(topS x k j f).1.Xh=1\/(topS x k j f).1.Xh=2\/(topS x k j f).1.Xh=3\/(topS x k j f).1.Xh=4\/(topS x k j f).1.Xh=5\/(topS x k j f).1.Xh=6\/(topS x k j f).1.Xh=7\/(topS x k j f).1.Xh=8:=by omega
   simp only[ZP,if_false,if_true];unfold Qva;rcases hz with h | h | h | h | h | h | h | h | h<;>rw[h]<;>rfl
def toR (p:QF):QP:=⟨p.Xh,p.Field,p.Rule,p.Code⟩
def Qtz {x:Qa} {k:Int} {q:Qh} {n:Str} (hk:0<=k) (hq:idx x.Xa k=some q) (hn:(n==([]:Str))=false):
  (Qdu x k n=true/\Qan q n<0)\/∃g,Qdu x k n=false/\0<=Qan q n/\idx q.Xb (Qan q n)=some g/\Qdl x k n=((g.Xh !=2)&&(g.Xh !=4)):=by
 have hd:decide (k<0)=false:=decide_eq_false (by omega);have hr2:Qan q n<q.Xb.length:=(Qeu q.Xb λg=>g.Xi==n).2;unfold Qdu Qdl Qm3;rw[hq,hn,hd];dsimp only;by_cases hi:Qan q n<0
 ·rw[Qp1 hi];exact .inl ⟨rfl,hi⟩
 ·obtain⟨g,hg,_⟩:=Qb2 (l:=q.Xb) (i:=Qan q n) (by omega) hr2;rw[Qhg hk (by omega) hq hg];exact .inr ⟨g,rfl,by omega,hg,by simp⟩
def Qvj {x:Qa} {i:Nat} {r:Qm} (hx:Few x) (hl:x.Xc.length<=1000) (hi:i<x.Xc.length) (hr:x.Xc[i]?=some r):Qg5 x (i:Int)=some (QoP x i r):=by
 unfold Qg5;rw[Qj2,hr];simp only[Za];have hil:(x.Xc.take i).length=i:=by rw[ZE];omega
 rw[QcV (x.Xc.take i) (λs=>!(s.Xi==r.Xi)) (7:Int) (λn hn=>?_) (by rw[hil];exact Zb (by simp))]
 ·simp only[Za];have e:((x.Xc.take i).all λs=>!(s.Xi==r.Xi))=!((x.Xc.take i).any λs=>s.Xi==r.Xi):=by
   rw[not_any_eq_all_not]
  rw[e];unfold QoP
  cases hany:((x.Xc.take i).any λs=>s.Xi==r.Xi) with
  | true=>rfl
  | false=>
   simp only[Bool.not_false,if_true];rw[Qdt (by have:=hx.1;omega)];simp only[Za];by_cases hk:QR x r.Xh<0
   ·rw[Ze (by simpa using hk),decide_eq_true hk];rfl
   ·rw[Zb (by simpa using hk),decide_eq_false hk];obtain⟨q,hq,hqm⟩:=Qb2 (l:=x.Xa) (i:=QR x r.Xh) (by omega) (Qhi x r.Xh).2;rw[hq];unfold jn;dsimp only;have fin:∀{body:Int×Bool->Option ((Int×Bool)⊕(Bool⊕Int))},(∀b,body (0,b)=if Qdu x (QR x r.Xh) r.A=true then some (.inr (.inr 12)) else some (.inl (1,b||Qdl x (QR x r.Xh) r.A)))->
      (∀b,body (1,b)=if Qdu x (QR x r.Xh) r.B=true then some (.inr (.inr 12)) else some (.inl (2,b||Qdl x (QR x r.Xh) r.B)))->(∀b,body (2,b)=some (.inr (.inl b)))->
      Qz body (0,false)=some (if (Qdu x (QR x r.Xh) r.A||Qdu x (QR x r.Xh) r.B)=true then .inr 12 else .inl (Qdl x (QR x r.Xh) r.A||Qdl x (QR x r.Xh) r.B)):=λh0 h1 h2=>by
     rw[Qbc,h0]
     cases Qdu x (QR x r.Xh) r.A with
     | true=>rfl
     | false=>
      rw[Zb (by decide)];dsimp only;rw[Qbc,h1]
      cases Qdu x (QR x r.Xh) r.B with
      | true=>rfl
      | false=>rw[Zb (by decide)];dsimp only;rw[Qbc,h2];simp
    have step:∀(n:Str) (b:Bool) (c:Bool->Option ((Int×Bool)⊕(Bool⊕Int))),(if (n==([]:Str))=true then c b else (Option.some q).bind λt55=>(Option.some n).bind λt59=>(Qcf t55 t59).bind λt61=>if decide (t61<0)=true then some (.inr (.inr 12)) else (Option.some q).bind λt67=>(idx t67.Xb t61).bind λt71=>c (b||((t71.Xh !=2)&&(t71.Xh !=4))))=
      if Qdu x (QR x r.Xh) n=true then some (.inr (.inr 12)) else c (b||Qdl x (QR x r.Xh) n):=λn b c=>by
     cases hn:(n==([]:Str)) with
     | true=>
      have hm:Qdu x (QR x r.Xh) n=false:=by unfold Qdu;rw[hn];rfl
      have hw:Qdl x (QR x r.Xh) n=false:=by unfold Qdl;rw[hn];rfl
      rw[hm,hw,Ze rfl,Zb (by decide),Bool.or_false]
     | false=>
      rw[Zb (by decide)];simp only[Za];rw[Qew (by have:=hx.2 q hqm;omega)];simp only[Za];rcases Qtz (by omega) hq hn with⟨hm,hi⟩ | ⟨g,hm,hi,hg,hw⟩
      ·rw[hm,Ze (by simpa using hi),Ze rfl]
      ·rw[hm,hw,Zb (by simp;omega),Zb (by decide),hg];rfl
    rw[fin (λb=>(step r.A b λp=>some (.inl (1,p)))) (λb=>(step r.B b λp=>some (.inl (2,p)))) (λb=>rfl)];simp only[Za];cases Qdu x (QR x r.Xh) r.A<;>cases Qdu x (QR x r.Xh) r.B<;>cases Qdl x (QR x r.Xh) r.A<;>cases Qdl x (QR x r.Xh) r.B<;>cases (r.A==r.B)<;>rfl
 ·have hn':n<i:=by omega
  rw[Ze (decide_eq_true (ZL.2 hn')),Qaa (show n<x.Xc.length by omega)];simp only[Za];rw[QT hn' (by omega),getElem_take];cases x.Xc[n].Xi==r.Xi<;>rfl
def Qi1 {k j r e:Int} {l:List QP} (h:l.length<=1000000000):Qcu l k j r e=some (l++(prob k j r e).map toR):=by
 unfold Qcu prob;by_cases he:e=0
 ·rw[Ze (by simp[he]),Ze he,Yi,Yd]
 ·rw[Zb (by simpa using he),Zb he,Qcx (by rw[length_singleton];omega)];rfl
def QwI (l:List Qd):Qg2 l=some (!(((l.length:Int)==0)||((l.headD Qds).Xh !=0))):=by
 unfold Qg2
 cases l with
 | nil=>rfl
 | cons f l=>
  have e:(((f::l).length:Int)==0)=false:=by simp;omega
  rw[e,show idx (f::l) (0:Int)=some f from rfl,Zb (by decide)];simp[bne]
def QkT {x:Qa} (h:QlZ x):QeA x=some ((Qfi x).map toR):=by
 obtain⟨hx,hfine,hlv,hrl⟩:=h;unfold QeA;rw[Qvf hfine];simp only[Za];unfold Qfi;by_cases hv:QfU x=0
 ·rw[Zb (by simp[hv]),Ze hv];have hn:=Qr9 hv;have one:∀k j r e,((prob k j r e).map toR).length<=1:=λk j r e=>by rw[ZY];exact Qif k j r e
  have b0:∀j,((QgQ x j).map toR).length<=1:=λj=>by rw[ZY];exact QkR x j
  have b1:((Qee x).map toR).length<=1000:=by have:=Qjs x.Xd.length (QgQ x) 1 (λj _=>QkR x j);rw[ZY];unfold Qee;omega
  have kl:∀k,k<x.Xa.length->((QhA x k).map toR).length<=1001:=λk hk=>by rw[ZY];unfold QhA;rw[Zf hk];dsimp only;have:=QnH (x:=x) (i:=k) (hx.2 _ (Zn hk));have:=Qif k (-1) (-1) (QjO x k x.Xa[k]);rw[Zd];omega
  have b2:((QhT x).map toR).length<=1001000:=by have:=Qjs x.Xa.length (λk=>(QhA x k).map toR) 1001 kl;have:=hx.1;unfold QhT;rw[map_flatMap];omega
  have hk1:=hx.1;rw[Qhm x.Xd.length (λk=>(QgQ x k).map toR) 1 (λj _=>b0 j) [] (λk hk acc hacc=>?_) (λacc=>Zb (by simp))]
  ·rw[show ([]:List QP)++(range x.Xd.length).flatMap (λk=>(QgQ x k).map toR)=(Qee x).map toR by unfold Qee;rw[map_flatMap];rfl];simp only[Za];rw[Qhm x.Xa.length (λk=>(QhA x k).map toR) 1001 kl ((Qee x).map toR) (λk hk acc hacc=>?_) (λacc=>Zb (by simp))]
   ·rw[show (Qee x).map toR++(range x.Xa.length).flatMap (λk=>(QhA x k).map toR)=(Qee x).map toR++(QhT x).map toR by unfold QhT;rw[map_flatMap]];simp only[Za];rw[Qhm x.Xc.length (λk=>(QkQ x k).map toR) 1 (λj _=>by rw[ZY];exact Qp0 x j) ((Qee x).map toR++(QhT x).map toR) (λk hk acc hacc=>?_) (λacc=>Zb (by simp))]
    ·simp only[Za];rw[Yn,Yn];unfold Qvc;rw[map_flatMap]
    ·rw[Zd] at hacc;rw[Ze (decide_eq_true (ZL.2 hk))];dsimp only;rw[Qvj hx hrl hk (Zf hk)];simp only[Za];rw[Qi1 (by omega)];simp only[Za];unfold QkQ;rw[QT hk (by omega),Zf hk]
   ·have hq:=Qaa hk;have hqf:=hx.2 _ (Zn hk);rw[Ze (decide_eq_true (ZL.2 hk))];dsimp only;rw[hq];simp only[Za];rw[Qdt (by omega),QwI];simp only[Za];have ek:(if decide (QR x x.Xa[k].Xi<(k:Int))=true then (Qcu acc (k:Int) (-1) (-1) 7).bind λt70=>some t70 else (if (!!(((x.Xa[k].Xb.length:Int)==0)||((x.Xa[k].Xb.headD Qds).Xh !=0)))=true then (Qcu acc (k:Int) (-1) (-1) 11).bind λt76=>some t76 else some acc).bind λp320=>some p320)=
      some (acc++(prob (k:Int) (-1) (-1) (QjO x k x.Xa[k])).map toR):=by
     unfold QjO;rw[QlC,Qi1 (by omega),Qi1 (by omega),Bool.not_not]
     cases decide (QR x x.Xa[k].Xi<(k:Int)) with
     | true=>rfl
     | false=>
      cases (((x.Xa[k].Xb.length:Int)==0)||((x.Xa[k].Xb.headD Qds).Xh !=0)) with
      | true=>rfl
      | false=>simp[prob]
    rw[ek];simp only[Za];have pl:=one k (-1) (-1) (QjO x k x.Xa[k]);rw[Qhm x.Xa[k].Xb.length (λj=>(QiH x k x.Xa[k] j).map toR) 1 (λj _=>by rw[ZY];exact QlY x k _ j) _ (λj hj acc2 hacc2=>?_) (λacc=>Zb (by simp))]
    ·simp only[Za];unfold QhA;rw[QT hk (by omega),Zf hk,ZC,Yn];unfold Qnn;rw[map_flatMap]
    ·rw[Zd] at hacc2;rw[Ze (decide_eq_true (ZL.2 hj))];dsimp only;rw[Qaa hj];simp only[Za];rw[Qew (by omega)];simp only[Za];have hf:field? x (k:Int) (j:Int)=some x.Xa[k].Xb[j]:=Qhg (by omega) (by omega) hq (Qaa hj);rw[Qvi hx hlv hn hq hf];simp only[Za];rw[Qi1 (by omega),Qi1 (by omega)];simp only[Za];unfold QiH QoR;rw[QT hj (by omega),Zf hj];dsimp only;by_cases hd:Qan x.Xa[k] x.Xa[k].Xb[j].Xi<(j:Int)
     ·rw[Ze (by simpa using hd),Ze hd];rfl
     ·rw[Zb (by simpa using hd),Zb hd];rfl
  ·rw[Zk] at hacc;rw[Ze (decide_eq_true (ZL.2 hk))];dsimp only;rw[Qi1 (by omega)];simp only[Za];have hil:(x.Xd.take k).length=k:=by rw[ZE];omega
   have hget:∀n,n<k->∀h:n<x.Xd.length,(x.Xd.take k)[n]?=some x.Xd[n]:=λn hn h=>by rw[getElem?_take,Ze hn,Zf h]
   refine QuT k (λn=>match x.Xd[n]? with | some m=>m.Xi==x.Xd[k].Xi | none=>false) acc (λ_=>acc++(prob (-1) (k:Int) (-1) 7).map toR) (λn hn hp=>?_) (λn hn hp=>?_) (Zb (by simp)) (λhp=>?_) (λn hn hp=>?_)
   ·rw[Zf (show n<x.Xd.length by omega)] at hp;dsimp only at hp;rw[Ze (decide_eq_true (ZL.2 hn)),Qaa (show n<x.Xd.length by omega),Qaa hk];simp only[Za];rw[hp,Zb (by decide),QT hn (by omega)]
   ·rw[Zf (show n<x.Xd.length by omega)] at hp;dsimp only at hp;rw[Ze (decide_eq_true (ZL.2 hn)),Qaa (show n<x.Xd.length by omega),Qaa hk];simp only[Za];rw[hp,Ze rfl]
   ·have e:((x.Xd.take k).any λm=>m.Xi==x.Xd[k].Xi)=false:=by
     rw[any_eq_false];intro m hm;obtain⟨n,hn,rfl⟩:=getElem_of_mem hm;have h1:=hp n (by omega);rw[Zf (show n<x.Xd.length by omega)] at h1;dsimp only at h1;rw[getElem_take,h1];decide
    rw[QT hk (by omega)];unfold QgQ Qtv;rw[Zf hk];dsimp only;rw[e];simp[QbE,prob]
   ·have e:((x.Xd.take k).any λm=>m.Xi==x.Xd[k].Xi)=true:=by
     rw[Zf (show n<x.Xd.length by omega)] at hp;exact any_eq_true.2 ⟨x.Xd[n],Zo (hget n hn (by omega)),hp⟩
    rw[QT hk (by omega)];unfold QgQ Qtv;rw[Zf hk];dsimp only;rw[e];rfl
 ·rw[Ze (by simpa using hv),Zb hv,Qi1 (by simp)];unfold prob;rw[Zb hv];rfl

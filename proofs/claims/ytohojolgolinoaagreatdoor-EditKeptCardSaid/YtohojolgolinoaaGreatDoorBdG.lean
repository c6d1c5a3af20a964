/- Package bounds. No condition. -/
import Derived.Test.YtohojolgolinoaaGreatDoorCtI
set_option linter.all false
open List Go.IntKind
namespace Go.Proofs.YtohojolgolinoaaGreatDoor
open Go.Sim
variable {i:Nat} {vs:Lz} {j:Nat} {ph:Nat->Nat->Int} {v:Nat->Int} {V:Wd} {M:Nat} {A:Nat->Nat->Nat->Prop} {R:Nat->Int} {D:Nat->Prop} {v':Nat->Int} {x:Qc} {co c:Nat->Nat} {old W:Wd} {k:Nat}
def YT (n:Nat) (p:Nat->Bool) (h:∃k,k<n/\p k=true):∃k,k<n/\p k=true/\∀j,j<k->p j=false:=by
 induction n with
 | zero=>have⟨k,b,_⟩:=h;omega
 | succ n f=>
  by_cases d:∃k,k<n/\p k=true
  ·have⟨k,b,hp,hm⟩:=f d;exact⟨k,om,hp,hm⟩
  ·have⟨k,b,hp⟩:=h;have e:k=n:=by
    rcases Nat.lt_or_ge k n with a | a
    ·exact (d ⟨k,a,hp⟩).elim
    ·omega
   subst e;refine⟨k,b,hp,λj g=>?_⟩;rw[<-Ye];exact λa=>d ⟨j,g,a⟩
def badD (n:Int) (d:QH):Bool:=((((((decide (d.A< -1)||decide (d.A>=n))||decide (d.B< -1))||decide (d.B>=n))||d.A==d.B)||decide (d.N< -2097152))||decide (d.N>2097152))
def Bn (n:Int) (l:List QH):Int:=if decide (n>10)||decide ((l.length:Int)>64) then 4 else if decide (n<0) then 1 else if l.any (badD n) then 1 else 0
def valid0 {n:Int} {l:List QH} (h:Bn n l=0):0<=n/\n<=10/\l.length<=64/\∀d∈l,-1<=d.A/\d.A<n/\-1<=d.B/\d.B<n/\d.A≠d.B/\-2097152<=d.N/\d.N<=2097152:=by
 unfold Bn at h;split at h
 ·cases h
 ·rename_i a;split at h
  ·cases h
  ·rename_i b;split at h
   ·cases h
   ·rename_i e;simp only[ZG,Zk,not_or] at a b;refine⟨om,om,om,λd f=>?_⟩;have:badD n d=false:=by
     rw[<-Ye];intro hb;exact e (Yp.2 ⟨d,f,hb⟩)
    simp only[badD,Bool.or_eq_false_iff,ZI,beq_eq_false_iff_ne,ne_eq] at this;have⟨⟨⟨⟨⟨⟨a1,a2⟩,a3⟩,a4⟩,a5⟩,a6⟩,a7⟩:=this;exact⟨om,om,om,om,a5,om,om⟩
def rowN (m:Nat) (a:Int):Nat:=if a<0 then m - 1 else a.toNat
def edN (m:Nat) (d:QH):Ed:=⟨rowN m d.A,rowN m d.B,d.N⟩
def edS (m:Nat) (d:QH):BM:=⟨(rowN m d.A:Int),(rowN m d.B:Int),d.N⟩
def FP {m:Nat} {a:Int} (b:-1<=a) (d:a<(m:Int) - 1):rowN m a<m:=by unfold rowN;split<;>omega
def SH {m:Nat} {a:Int} (hm:1<=m) (b:m<=11) (d:-1<=a) (e:a<(m:Int) - 1):Int.tmod (i64.wrap (i64.wrap (a+((m:Int) - 1))+1)) (m:Int)=(rowN m a:Int):=by
 rw[w64 (n:=a+((m:Int) - 1)) om om,w64 om om];unfold rowN;split
 ·have:a=-1:=by omega
  subst this;rw[Int.tmod_eq_emod_of_nonneg om,Int.emod_eq_of_lt om om];omega
 ·rw[Int.tmod_eq_emod_of_nonneg om];have:a+((m:Int) - 1)+1=a+m:=by omega
  rw[this,Int.add_emod_right,Int.emod_eq_of_lt om om];omega
def SI (n:Int) (d:QH):(((((decide (imin d.A d.B< -1))||(decide (imax d.A d.B>=n)))||(d.A==d.B))||(decide (d.N< -2097152)))||(decide (d.N>2097152)))=badD n d:=by
 have e:(decide (imin d.A d.B< -1)||decide (imax d.A d.B>=n))=((decide (d.A< -1)||decide (d.A>=n))||decide (d.B< -1)||decide (d.B>=n)):=by
  have a:imin d.A d.B< -1↔(d.A< -1\/d.B< -1):=by unfold imin;split<;>omega
  have b:imax d.A d.B>=n↔(d.A>=n\/d.B>=n):=by unfold imax;split<;>omega
  rw[YA];simp only[ZG,Zk,a,b];omega
 unfold badD;rw[e]
def YU (n:Int) (l:List QH):KI n l=some (if Bn n l=0 then (l.map (edS (n+1).toNat),0) else ([],Bn n l)):=by
 unfold KI;by_cases d:(decide (n>10)||decide ((l.length:Int)>64))=true
 ·have e:Bn n l=4:=by unfold Bn;rw[Zc d]
  rw[Zc d,e];rfl
 ·rw[Zb d];by_cases b:decide (n<0)=true
  ·have e:Bn n l=1:=by unfold Bn;rw[Zb d,Zc b]
   rw[Zc b,e];rfl
  ·rw[Zb b];have hl:l.length<=64:=by simp only[ZG,Zk,not_or] at d;omega
   have B:0<=n/\n<=10:=by simp only[ZG,Zk,not_or] at d b;omega
   obtain⟨m,hm⟩:∃m:Nat,n=(m:Int) - 1:=⟨(n+1).toNat,om⟩;subst hm;have t:((m:Int) - 1+1).toNat=m:=by omega
   rw[t,Dp _ _ om];simp only[Za];have y:i64.wrap ((m:Int) - 1+1)=(m:Int):=by rw[w64 om om];omega
   rw[y];have u:∀k,k<l.length->badD ((m:Int) - 1) (l.getD k default)=false->∀z:List BM,z.length=l.length->
     (idx l (k:Int)).bind (λt26=>(if ((((decide (imin t26.A t26.B< -1))||(decide (imax t26.A t26.B>=(m:Int) - 1)))||(t26.A==t26.B))||(decide (t26.N< -2097152)))||(decide (t26.N>2097152)) then (some (.inr (.inr ((1:Int),([]:List BM)))):Option ((Int×List BM)⊕((List BM)⊕(Int×List BM)))) else (nz (m:Int)).bind λ_=>(nz (m:Int)).bind λ_=>(setAt z (k:Int) (BM.mk (Int.tmod (i64.wrap (i64.wrap (t26.A+((m:Int) - 1))+1)) (m:Int)) (Int.tmod (i64.wrap (i64.wrap (t26.B+((m:Int) - 1))+1)) (m:Int)) t26.N)).bind λg=>some (.inl (i64.wrap ((k:Int)+1),g))))=
     some (.inl (((k+1:Nat):Int),z.set k (edS m (l.getD k default)))):=by
    intro k a hb z hz;rw[Zg,Zd a] at hb ⊢;simp only[ZS] at hb ⊢;rw[QY a];simp only[Za];rw[SI,hb,Zb sm];simp only[badD,Bool.or_eq_false_iff,ZI,beq_eq_false_iff_ne,ne_eq] at hb;have⟨⟨⟨⟨⟨⟨a1,a2⟩,a3⟩,a4⟩,a5⟩,a6⟩,a7⟩:=hb;rw[nz_of om];simp only[Za];rw[SH om om om om,SH om om om om,Cx om];simp only[Za];rw[QD (n:=l.length) a om];rfl
   by_cases hb:l.any (badD ((m:Int) - 1))=true
   ·have e:Bn ((m:Int) - 1) l=1:=by unfold Bn;rw[Zb d,Zb b,Zc hb]
    rw[e,Zb dc];have⟨w,f,h,o⟩:=YT l.length (λk=>badD ((m:Int) - 1) (l.getD k default)) (by have⟨x,hx,hp⟩:=Yp.1 hb;obtain⟨k,a,rfl⟩:=Yv hx;exact⟨k,a,by rw[Zg,Zd a];exact hp⟩);refine DP w (λk=>((k:Int),(l.map (edS m)).take k++(replicate l.length (BM.mk 0 0 0)).drop k)) (.inr ((1:Int),([]:List BM))) sm ?_ ?_ rfl
    ·intro k a;simp only;rw[Zc so,u k om (o k a) _ so];have b:edS m (l.getD k default)=(l.map (edS m))[k]' so:=by
      rw[Zg,Zd om];simp
     rw[b,SJ _ _ so so]
    ·simp only;rw[Zc (sa f),QY f];simp only[Za];rw[Zg,Zd f] at h;rw[SI,Zc (show badD _ l[w]=true from h)]
   ·have r:l.any (badD ((m:Int) - 1))=false:=by simpa using hb
    have e:Bn ((m:Int) - 1) l=0:=by unfold Bn;rw[Zb d,Zb b,Zb hb]
    rw[e,Zc rfl];have s:∀k,k<l.length->badD ((m:Int) - 1) (l.getD k default)=false:=by intro k a;rw[any_eq_false] at r;have:=r _ (Zr a);rw[Zg,Zd a];simpa using this
    refine DP l.length (λk=>((k:Int),(l.map (edS m)).take k++(replicate l.length (BM.mk 0 0 0)).drop k)) (.inl (l.map (edS m))) sm ?_ ?_ rfl
    ·intro k a;simp only;rw[Zc (sa a),u k a (s k a) _ so];have b:edS m (l.getD k default)=(l.map (edS m))[k]'(sa a):=by
      rw[Zg,Zd a];simp
     rw[b,SJ _ _ (sa a) (sa a)]
    ·simp only;rw[Zb sm];simp[Zw]
structure DD (m:Nat) (l:List QH):Prop where
 m1:1<=m
 m11:m<=11
 len:l.length<=64
 ok:∀d∈l,-1<=d.A/\d.A<(m:Int) - 1/\-1<=d.B/\d.B<(m:Int) - 1/\d.A≠d.B/\-2097152<=d.N/\d.N<=2097152
def SK {n:Int} {l:List QH} (h:Bn n l=0):∃m:Nat,n=(m:Int) - 1/\DD m l:=by have⟨f,g,a,b⟩:=valid0 h;refine⟨(n+1).toNat,om,om,om,a,λd e=>?_⟩;have⟨a1,a2,a3,a4,a5,a6,a7⟩:=b d e;exact⟨a1,om,a3,om,a5,a6,a7⟩
def T0 (i k:Nat):Int:=if i=k then 0 else INF
def edT (G:Nat->Nat->Int) (e:Ed):Nat->Nat->Int:=upd1 G e.a (upd1 (G e.a) e.b (imin (G e.a e.b) e.w))
def edsT (E:List Ed):Nat->Nat->Int:=E.foldl edT T0
def half (m i:Nat):List Lz:=rowL m λp=>if p<i then rowL m (T0 p) else []
def YV (m:Nat):half m 0=replicate m []:=by unfold half;rw[<-YW];exact HN λk _=>by simp
def YX (m:Nat):half m m=tab m T0:=HN λk a=>by rw[Zc a]
def YY {m:Nat}:rowL m (upd1 (λp=>if p<i then rowL m (T0 p) else []) i (rowL m (T0 i)))=half m (i+1):=by
 unfold half;refine HN λk _=>?_;unfold upd1;by_cases h:k=i
 ·subst h;rw[Zc rfl,Zc om]
 ·rw[Zb h];dsimp only;by_cases a:k<i
  ·rw[Zc a,Zc om]
  ·rw[Zb a,Zb om]
def SL (E:List Ed) (e:Ed):edsT (E++[e])=edT (edsT E) e:=by unfold edsT;rw[foldl_append];rfl
def YZ {m:Nat} {l:List QH} (z:DD m l):∀t,t<=l.length->EB (l.map (edN m)) m 2097152 2097152 (edsT ((l.map (edN m)).take t))/\∀e∈(l.map (edN m)).take t,edsT ((l.map (edN m)).take t) e.a e.b<=e.w:=by
 intro t
 induction t with
 | zero=>
  intro _;refine⟨⟨λi hi=>⟨λq b=>?_,λq b=>?_,λq b hf=>?_,λq b hf=>?_⟩,λi hi=>?_⟩,λe r=>by simp at r⟩
  ·show -2097152<=T0 i q;unfold T0;split<;>decide
  ·show T0 i q<=INF;unfold T0;split<;>decide
  ·have a:T0 i q<INF:=hf;show T0 i q<=2097152;unfold T0 at a ⊢;split
   ·decide
   ·rename_i h;rw[Zb h] at a;exact absurd a (Int.lt_irrefl _)
  ·have a:T0 i q<INF:=hf;show Way _ i q (T0 i q);unfold T0 at a ⊢;split
   ·rename_i h;subst h;exact .nil _
   ·rename_i h;rw[Zb h] at a;exact absurd a (Int.lt_irrefl _)
  ·show T0 i i<=0;unfold T0;rw[Zc rfl];exact Zx _
 | succ t H=>
  intro ht;have⟨n,B⟩:=H om;have o:t<(l.map (edN m)).length:=by simp;omega
  obtain⟨e,r⟩:∃e,(l.map (edN m))[t]=e:=⟨_,rfl⟩;have g:e∈l.map (edN m):=by rw[<-r];exact Zr o
  rw[Zz o,r,SL];generalize edsT ((l.map (edN m)).take t)=G at n B;have⟨d,I,f⟩:=ZR.1 g;have⟨a1,a2,a3,a4,a5,a6,a7⟩:=z.ok d I;have K:e.a<m:=by rw[<-f];exact FP a1 a2
  have u:e.b<m:=by rw[<-f];exact FP a3 a4
  have O:-2097152<=e.w/\e.w<=2097152:=by rw[<-f];exact⟨a6,a7⟩
  have w:e.a≠e.b:=by have L:=z.m1;rw[<-f];show rowN m d.A≠rowN m d.B;unfold rowN;split<;>split<;>omega
  have⟨L,N,E⟩:=KJ (G e.a e.b) e.w;have val:∀i k,edT G e i k=if i=e.a/\k=e.b then imin (G e.a e.b) e.w else G i k:=by
   intro i k;unfold edT upd1;by_cases hi:i=e.a
   ·subst hi;rw[Zc rfl];by_cases s:k=e.b
    ·rw[Zc s,Zc ⟨rfl,s⟩]
    ·rw[Zb s,Zb (λh=>s h.2)]
   ·rw[Zb hi,Zb (λh=>hi h.1)]
  have ok:=n.row e.a K;have P:INF=1099511627776:=rfl;refine⟨⟨λi hi=>⟨λq b=>?_,λq b=>?_,λq b hf=>?_,λq b hf=>?_⟩,λi hi=>?_⟩,λe' y=>?_⟩
  ·rw[val];split
   ·have:=ok.lo e.b u;rcases E with h | h<;>rw[h]<;>omega
   ·exact (n.row i hi).lo q b
  ·rw[val];split
   ·have:=ok.hi e.b u;omega
   ·exact (n.row i hi).hi q b
  ·rw[val] at hf ⊢;split
   ·omega
   ·rename_i h;rw[Zb h] at hf;exact (n.row i hi).up q b hf
  ·rw[val] at hf ⊢;split
   ·rename_i h;rw[Zc h] at hf;obtain⟨rfl,rfl⟩:=h;rcases E with h | h
    ·rw[h] at hf ⊢;exact ok.way _ u hf
    ·rw[h];exact .one g
   ·rename_i h;rw[Zb h] at hf;exact (n.row i hi).way q b hf
  ·rw[val,Zb (λh=>w (h.1.symm.trans h.2))];exact n.diag i hi
  ·rw[val];rcases ZH.1 y with h | h
   ·have:=B e' h;split
    ·rename_i F;rw[F.1,F.2] at this;omega
    ·exact this
   ·obtain rfl:=Zi.1 h;rw[Zc ⟨rfl,rfl⟩];exact N
def OM {m:Nat} {l:List QH} (a:DD m l):EB (l.map (edN m)) m 2097152 2097152 (edsT (l.map (edN m)))/\∀e∈l.map (edN m),e.a<m/\e.b<m/\edsT (l.map (edN m)) e.a e.b<=e.w:=by
 have h:=YZ a l.length (Zq _);rw[Zw sm] at h;refine⟨h.1,λe b=>⟨?_,?_,h.2 e b⟩⟩
 ·obtain⟨d,f,rfl⟩:=ZR.1 b;have⟨a1,a2,_⟩:=a.ok d f;exact FP a1 a2
 ·obtain⟨d,f,rfl⟩:=ZR.1 b;have⟨_,_,a3,a4,_⟩:=a.ok d f;exact FP a3 a4
def eds_w {m:Nat} {l:List QH} (a:DD m l):∀e∈l.map (edN m),e.a<m/\e.b<m/\e.w<=2097152:=by intro e b;obtain⟨d,f,rfl⟩:=ZR.1 b;have⟨a1,a2,a3,a4,_,_,a7⟩:=a.ok d f;exact⟨FP a1 a2,FP a3 a4,a7⟩
def tP (m:Nat) (l:List QH):Nat->Nat->Int:=Cd (λj G=>phP m j G) (edsT (l.map (edN m))) m
def KK {m:Nat} {l:List QH} (a:DD m l):Fin (l.map (edN m)) m (tP m l):=YQ (SM _ m) (OM a).1 a.m11 (OM a).2
def m_wrap {m:Nat} (hm:m<=11):i64.wrap ((m:Int) - 1+1)=(m:Int):=by rw[w64 om om];omega
def Y0 {m:Nat} (a:1<=m) (b:m<=11):F8 [(1099511627776:Int)] (m:Int)=some (rowL m λ_=>INF):=by
 have key:∀m:Nat,m<12->1<=m->HO 20 [(1099511627776:Int)] (m:Int)=some (rowL m λ_=>INF):=by decide+kernel
 exact LeC.le (x:=HO 20 [(1099511627776:Int)] (m:Int)) _ (key m om a)
def Y1 {T:Nat->Int} (h:¬R j<INF):∀n,A5 j T R n=R:=by
 intro n
 induction n with
 | zero=>rfl
 | succ n a=>rw[KL,a];unfold HP;rw[Zb (λb=>h b.1)]
def Y2 {m:Nat} (R:Nat->Int) (z:Lz) (h:z.length=m):cpy z (rowL m R)=rowL m R:=by unfold cpy;rw[Zw (by rw[Es];omega),drop_of_length_le (by rw[Es];omega),Yg]
def part (ph:Nat->Nat->Int) (G:Nat->Nat->Int) (i:Nat):Nat->Nat->Int:=λp=>if p<i then ph p else G p
def ON {G:Nat->Nat->Int}:part ph G i i=G i:=Zb (Nat.lt_irrefl _)
def KM {G:Nat->Nat->Int} {p:Nat} (h:p<i):part ph G i p=ph p:=Zc h
def SO {G:Nat->Nat->Int} {p:Nat} (h:i<=p):part ph G i p=G p:=Zb om
def SP {m:Nat} {G:Nat->Nat->Int} (h:∀k,k<m->R k=ph i k):tab m (upd1 (part ph G i) i R)=tab m (part ph G (i+1)):=by
 refine SR λp k _ a=>?_;unfold upd1;by_cases hp:p=i
 ·subst hp;rw[Zc rfl,KM om];exact h k a
 ·rw[Zb hp];by_cases b:p<i
  ·rw[KM b,KM om]
  ·rw[SO om,SO om]
def Y3 {m:Nat} {G:Nat->Nat->Int}:tab m (part ph G m)=tab m ph:=SR λp k hp _=>by rw[KM hp]
def negB (m:Nat) (G:Nat->Nat->Int):Bool:=(range m).any λi=>decide (G i i<0)
def KN {m:Nat} {G:Nat->Nat->Int}:negB m G=false↔∀i,i<m->0<=G i i:=by
 unfold negB;rw[any_eq_false];constructor
 ·intro h i hi;have:=h i (sa hi);simpa using this
 ·intro h i hi;have:=h i (sa hi);simpa using this
def Y4 {m:Nat} {G:Nat->Nat->Int} (hi:i<m) (h:decide (G i i<0)=true):negB m G=true:=Yp.2 ⟨i,by simpa using hi,h⟩
def wsum {x y:Int} (a:-4611686018427387904<=x/\x<=4611686018427387903) (b:-4611686018427387904<=y/\y<=4611686018427387903):i64.wrap (x+y)=x+y:=w64 om om
def Y5 {m:Nat} {l:List QH} (u:DD m l):KO ((m:Int) - 1) (l.map (edS m))=some (if negB m (tP m l)=true then ([],false) else (tab m (tP m l),true)):=by
 have O:=u.m1;have r:=u.m11;unfold KO;rw[m_wrap r,Dp _ _ om,Y0 O r];simp only[Za];refine DP m (λi=>((i:Int),half m i)) (half m m) (by rw[YV];rfl) ?_ ?_ ?_
 ·intro i hi;simp only;rw[Zc (sa hi)];have e1:setAt (half m i) (i:Int) (rowL m λ_=>INF)=some (rowL m (upd1 (λp=>if p<i then rowL m (T0 p) else []) i (rowL m λ_=>INF))):=by unfold half;exact HR hi _
  rw[e1];simp only[Za];rw[Et hi,Eu];simp only[Za];rw[HR hi];simp only[Za];rw[HR hi,SS];simp only[Za];have e2:rowL m (upd1 (λ_=>INF) i 0)=rowL m (T0 i):=HN λk _=>by
   unfold upd1 T0;by_cases h:k=i
   ·rw[Zc h,Zc h.symm]
   ·rw[Zb h,Zb (λB=>h B.symm)]
  rw[e2,YY,QD (n:=m) hi om]
 ·simp only;rw[Zb sm]
 ·rw[YX];refine DP l.length (λt=>((t:Int),tab m (edsT ((l.map (edN m)).take t)))) (tab m (edsT (l.map (edN m)))) rfl ?_ ?_ ?_
  ·intro t ht;have E:t<(l.map (edN m)).length:=by simpa using ht
   have F:t<(l.map (edS m)).length:=by simpa using ht
   simp only;rw[Zc (sa ht),QY F];simp only[Za,getElem_map];have⟨a1,a2,a3,a4,_⟩:=u.ok _ (Zr ht);have K:=FP a1 a2;have L:=FP a3 a4;rw[show (edS m l[t]).a=((rowN m l[t].A:Nat):Int) from rfl,show (edS m l[t]).b=((rowN m l[t].B:Nat):Int) from rfl,HS K];simp only[Za];rw[Et L];simp only[Za];rw[HR L];simp only[Za];rw[ST K];simp only[Za];rw[QD (n:=l.length) ht (by have:=u.len;omega),Zz E,SL];simp only[getElem_map];rfl
  ·simp only;rw[Zb sm,Zw sm]
  ·have Q:=λn S=>KP (SM (l.map (edN m)) m) (OM u).1 r n S;refine DP m (λj=>((j:Int),tab m (Cd (λj G=>phP m j G) (edsT (l.map (edN m))) j))) (tab m (tP m l)) rfl ?_ ?_ ?_
   ·intro j g;have o:=Q j om;have hb:=IN j om;rw[KS];generalize Cd (λj G=>phP m j G) (edsT (l.map (edN m))) j=G at o ⊢;simp only;rw[Zc (by rw[DE];simpa using g),Dp _ _ om,HS g];simp only[Za];rw[Y2 (G j) _ sm];refine DP m (λi=>((i:Int),tab m (part (phP m j G) G i))) (tab m (phP m j G)) rfl ?_ ?_ ?_
    ·intro i hi;simp only;rw[Zc (by rw[DE];simpa using hi),HS hi,ON];simp only[Za];rw[Et g];simp only[Za];by_cases hc:G i j<INF
     ·rw[Zb (sa hc)];have key:((Qr (λ(a:Int×List Lz)=>((if decide (a.1<((rowL m (G j)).length:Int)) then (idx (rowL m (G j)) a.1).bind λt97=>(if decide (t97<(1099511627776:Int)) then (idx a.2 (i:Int)).bind λb=>(idx b a.1).bind λt108=>(idx b (j:Int)).bind λt112=>(setAt b a.1 (imin t108 (i64.wrap (t112+t97)))).bind λd=>(setAt a.2 (i:Int) d).bind λf=>some f else some a.2).bind λ(w:List Lz)=>some (.inl (i64.wrap (a.1+(1:Int)),w)) else some (.inr a.2)):Option ((Int×List Lz)⊕(List Lz)))) ((0:Int),tab m (part (phP m j G) G i))).bind λ(y:(List Lz))=>some y)=some (tab m (part (phP m j G) G (i+1))):=by
       refine DP m (λk=>((k:Int),tab m (upd1 (part (phP m j G) G i) i (A5 j (G j) (G i) k)))) (tab m (part (phP m j G) G (i+1))) ?_ ?_ ?_ rfl
       ·have:upd1 (part (phP m j G) G i) i (A5 j (G j) (G i) 0)=part (phP m j G) G i:=by
         have e:A5 j (G j) (G i) 0=part (phP m j G) G i i:=by rw[ON];rfl
         rw[e,SU]
        simp only[this];rfl
       ·intro k s;have⟨T,N,U,Y,X⟩:=KT g (o.row i hi) (o.row j g) hb.1 hb.1 hb.2.2.1 k om;simp only;rw[Zc (by rw[Es];simpa using s),Et s];simp only[Za];have e1:(if decide (G j k<1099511627776) then (idx (tab m (upd1 (part (phP m j G) G i) i (A5 j (G j) (G i) k))) (i:Int)).bind λb=>(idx b (k:Int)).bind λt108=>(idx b (j:Int)).bind λt112=>(setAt b (k:Int) (imin t108 (i64.wrap (t112+G j k)))).bind λd=>(setAt (tab m (upd1 (part (phP m j G) G i) i (A5 j (G j) (G i) k))) (i:Int) d).bind λf=>some f else some (tab m (upd1 (part (phP m j G) G i) i (A5 j (G j) (G i) k))))=some (tab m (upd1 (part (phP m j G) G i) i (A5 j (G j) (G i) (k+1)))):=by
         rw[KL];generalize Z:A5 j (G j) (G i) k=P at T N U X;have H:P j<INF:=by have:=N j g;omega
         unfold HP;by_cases h:G j k<INF
         ·rw[Zc (sa h),Zc ⟨H,h⟩,HS hi,Eu];simp only[Za];rw[Et s,Et g];simp only[Za];have l3:=(o.row j g).lo k s;have u0:INF=1099511627776:=rfl;rw[wsum ⟨om,om⟩ ⟨om,om⟩,HR s];simp only[Za];rw[ST hi,SS];rfl
         ·rw[Zb (sa h),Zb (λB=>h B.2)]
        rw[e1];simp only[Za];rw[QD (n:=m) s om]
       ·simp only;rw[Zb (by rw[Es];simp)];congr 2;exact SP λk _=>rfl
      refine Eq.trans (ZU (λz=>Option.bind z _) key) ?_;simp only[Za];rw[QD (n:=m) hi om]
     ·rw[Zc (sa hc)];simp only[Za];rw[QD (n:=m) hi om];have e:tab m (part (phP m j G) G (i+1))=tab m (part (phP m j G) G i):=by
       rw[<-SP (R:=G i) (λk _=>by show G i k=A5 j (G j) (G i) m k;rw[Y1 hc])];have:upd1 (part (phP m j G) G i) i (G i)=part (phP m j G) G i:=by
        have e:G i=part (phP m j G) G i i:=ON.symm
        conv=>lhs;rw[e]
        exact SU
       rw[this]
      rw[e]
    ·simp only;rw[Zb (by rw[DE];simp),Y3]
    ·rw[QD (n:=m) g om]
   ·simp only;rw[Zb (by rw[DE];simp)];rfl
   ·refine SV m (λi=>decide (tP m l i i<0)) (.inl ()) (λ_=>.inr (false,[])) ?_ ?_ ?_ ?_ ?_
    ·intro i hi hp;rw[Zc (by rw[DE];simpa using hi),HS hi];simp only[Za];rw[Et hi];simp only[Za];rw[hp,Zb sm,QD (n:=m) hi om]
    ·intro i hi hp;rw[Zc (by rw[DE];simpa using hi),HS hi];simp only[Za];rw[Et hi];simp only[Za];rw[hp,Zc rfl]
    ·rw[Zb (by rw[DE];simp)]
    ·intro I;have:negB m (tP m l)=false:=KN.2 λi hi=>by simpa using I i hi
     simp only[this];rfl
    ·intro i hi hp;rw[Y4 hi hp];rfl
def EC (n:Int) (l:List QH):List Lz×Int:=if Bn n l≠0 then ([],Bn n l) else if negB (n+1).toNat (tP (n+1).toNat l)=true then ([],14) else (tab (n+1).toNat (tP (n+1).toNat l),0)
def Y6 (n:Int) (l:List QH):KU n l=some (EC n l):=by
 unfold KU EC;rw[YU];simp only[Za];by_cases h:Bn n l=0
 ·obtain⟨m,rfl,b⟩:=SK h;have a:((m:Int) - 1+1).toNat=m:=by omega
  rw[h,Zc rfl,Zb sm,Zb (λh=>h rfl),a,Y5 b];simp only[Za];cases negB m (tP m l)<;>rfl
 ·rw[Zb h,Zc (sa h),Zc h]
def wild (x:Int):Bool:=decide (x< -1099511627776)||decide (x>1099511627776)
def ED (m:Nat) (r:Lz):Bool:=(r.length !=m)||r.any wild
def badT (c:List Lz) (vs:Lz):Bool:=(decide (c.length=0)||decide (c.length>11))||(vs.any wild||c.any (ED c.length))
def AM (c:List Lz) (vs:Lz) (j:Nat):Nat:=if j=vs.length then c.length - 1 else j
def A6 (vs:Lz) (j:Nat):Int:=(vs++[0]).getD j 0
def loF (c:List Lz) (vs:Lz) (M:Nat):Lz:=(range M).filterMap λj=>if at2B c (AM c vs j) vs.length<1099511627776 then some (i64.wrap (A6 vs j - at2B c (AM c vs j) vs.length)) else none
def hiF (c:List Lz) (vs:Lz) (M:Nat):Lz:=(range M).filterMap λj=>if at2B c vs.length (AM c vs j)<1099511627776 then some (i64.wrap (A6 vs j+at2B c vs.length (AM c vs j))) else none
def loB (c:List Lz) (vs:Lz) (M:Nat):Bool×Int:=best imax (-1099511627776) (loF c vs M)
def hiB (c:List Lz) (vs:Lz) (M:Nat):Bool×Int:=best imin 1099511627776 (hiF c vs M)
def Ac (c:List Lz) (vs:Lz):Int×Int×Int:=
 if badT c vs=true then (0,0,1) else if decide ((vs.length:Int)>=(c.length:Int) - 1) then (0,0,6) else
  if decide ((loB c vs (vs.length+1)).2>(hiB c vs (vs.length+1)).2) then (0,0,14) else ((loB c vs (vs.length+1)).2,(hiB c vs (vs.length+1)).2,0)
def OO (c:List Lz) (vs:Lz) (M:Nat):loF c vs (M+1)=loF c vs M++(if at2B c (AM c vs M) vs.length<1099511627776 then [i64.wrap (A6 vs M - at2B c (AM c vs M) vs.length)] else []):=by unfold loF;rw[Ym,filterMap_append];congr 1;simp only[filterMap_cons,filterMap_nil];split<;>rename_i h<;>split at h<;>simp_all
def OP (c:List Lz) (vs:Lz) (M:Nat):hiF c vs (M+1)=hiF c vs M++(if at2B c vs.length (AM c vs M)<1099511627776 then [i64.wrap (A6 vs M+at2B c vs.length (AM c vs M))] else []):=by unfold hiF;rw[Ym,filterMap_append];congr 1;simp only[filterMap_cons,filterMap_nil];split<;>rename_i h<;>split at h<;>simp_all
def SW (c:List Lz) (vs:Lz) (M:Nat):(loF c vs M).length<=M:=by have:=length_filterMap_le (λj=>if at2B c (AM c vs j) vs.length<1099511627776 then some (i64.wrap (A6 vs j - at2B c (AM c vs j) vs.length)) else none) (range M);simpa[loF] using this
def SX (c:List Lz) (vs:Lz) (M:Nat):(hiF c vs M).length<=M:=by have:=length_filterMap_le (λj=>if at2B c vs.length (AM c vs j)<1099511627776 then some (i64.wrap (A6 vs j+at2B c vs.length (AM c vs j))) else none) (range M);simpa[hiF] using this
def bad_sq {c:List Lz} (h:¬badT c vs=true):Sq c.length c/\1<=c.length/\c.length<=11:=by simp only[badT,ED,ZG,Zk,not_or,Yp,not_exists,not_and,Ye] at h;have⟨⟨d,e⟩,_,a⟩:=h;refine⟨⟨rfl,λr b=>?_⟩,om,om⟩;have:=(a r b).1;simpa using this
def Y7 (c:List Lz) (vs:Lz) (hc:c.length<1000000) (N:vs.length<1000000) (E:∀r∈c,r.length<1000000):KW c vs=some (Ac c vs):=by
 unfold KW;have F:i64.wrap ((c.length:Int) - 1)=(c.length:Int) - 1:=w64 om om;have t:i64.wrap ((c.length:Int) - 1+1)=(c.length:Int):=by rw[w64 om om];omega
 rw[F];have u:EE vs (λx=>F9 x)=some (vs.any wild):=IP vs _ wild (λx _=>rfl) om;have w:HT c (λx=>KX x ((c.length:Int) - 1) (λx=>F9 x))=some (c.any (ED c.length)):=by
  refine SY c _ _ (λr y=>?_) om;unfold KX;rw[t,IP r (λx=>F9 x) wild (λx _=>rfl) (by have:=E r y;omega)];have e:((r.length:Int) !=(c.length:Int))=(r.length !=c.length):=by rw[YA];simp;omega
  unfold ED;rw[e];cases (r.length !=c.length)<;>rfl
 rw[u,w];have e1:(decide ((c.length:Int) - 1<0)||decide ((c.length:Int) - 1>10))=(decide (c.length=0)||decide (c.length>11)):=by rw[YA];simp only[ZG,Zk];omega
 rw[e1];have key:((opt ((decide (c.length=0)||decide (c.length>11))==false) (some (vs.any wild)) default).bind λt30=>
   (opt (((decide (c.length=0)||decide (c.length>11))||t30)==false) (some (c.any (ED c.length))) default).bind λt35=>(some (((decide (c.length=0)||decide (c.length>11))||t30)||t35):Option Bool))=some (badT c vs):=by
  unfold badT;cases (decide (c.length=0)||decide (c.length>11))<;>cases vs.any wild<;>cases c.any (ED c.length)<;>rfl
 have f:∀(g:Bool->Option (Int×Int×Int)),((opt ((decide (c.length=0)||decide (c.length>11))==false) (some (vs.any wild)) default).bind λt30=>
   (opt (((decide (c.length=0)||decide (c.length>11))||t30)==false) (some (c.any (ED c.length))) default).bind λt35=>g (((decide (c.length=0)||decide (c.length>11))||t30)||t35))=g (badT c vs):=by
  intro g;unfold badT;cases (decide (c.length=0)||decide (c.length>11))<;>cases vs.any wild<;>cases c.any (ED c.length)<;>rfl
 clear key;refine Eq.trans (f (λb=>if b then _ else _)) ?_;unfold Ac;by_cases hb:badT c vs=true
 ·rw[Zc hb,Zc hb]
 ·rw[Zb hb,Zb hb];have⟨o,O,H⟩:=bad_sq hb;by_cases s:(vs.length:Int)>=(c.length:Int) - 1
  ·rw[Zc (sa s),Zc (sa s)]
  ·rw[Zb (sa s),Zb (sa s),Y8 vs om];simp only[Za];rw[CK so];simp only[Za];refine DP (vs.length+1) (λj=>((j:Int),hiF c vs j,loF c vs j)) (hiF c vs (vs.length+1),loF c vs (vs.length+1)) rfl ?_ ?_ ?_
   ·intro j B;have m:j<(vs++[0]).length:=by simpa using B
    simp only;rw[Zc so,QY m];simp only[Za];have z:(vs++[(0:Int)])[j]=A6 vs j:=by unfold A6;rw[Zg,Zd m];rfl
    rw[z];have n:(if (j:Int)==(vs.length:Int) then some ((c.length:Int) - 1) else some (j:Int))=some ((AM c vs j:Nat):Int):=by
     unfold AM;by_cases h:j=vs.length
     ·rw[Zc so,Zc h];congr 1;omega
     ·rw[Zb so,Zb h]
    rw[n];simp only[Za];have a:AM c vs j<c.length:=by unfold AM;split<;>omega
    have d:vs.length<c.length:=by omega
    rw[(o.idx a).1,(o.idx d).1];simp only[Za];rw[o.idx2 a d,o.idx2 d a];simp only[Za];have a1:=SW c vs j;have a2:=SX c vs j;have e2:(if decide (at2B c (AM c vs j) vs.length<1099511627776) then (rm ((loF c vs j).length+[i64.wrap (A6 vs j - at2B c (AM c vs j) vs.length)].length)).bind λ_=>some (loF c vs j++[i64.wrap (A6 vs j - at2B c (AM c vs j) vs.length)]) else some (loF c vs j))=some (loF c vs (j+1)):=by
     rw[OO];by_cases h:at2B c (AM c vs j) vs.length<1099511627776
     ·rw[Zc (sa h),Zc h,CK so];rfl
     ·rw[Zb (sa h),Zb h,Yg]
    have I:(if decide (at2B c vs.length (AM c vs j)<1099511627776) then (rm ((hiF c vs j).length+[i64.wrap (A6 vs j+at2B c vs.length (AM c vs j))].length)).bind λ_=>some (hiF c vs j++[i64.wrap (A6 vs j+at2B c vs.length (AM c vs j))]) else some (hiF c vs j))=some (hiF c vs (j+1)):=by
     rw[OP];by_cases h:at2B c vs.length (AM c vs j)<1099511627776
     ·rw[Zc (sa h),Zc h,CK so];rfl
     ·rw[Zb (sa h),Zb h,Yg]
    rw[e2];simp only[Za];rw[I];simp only[Za];rw[QD B om]
   ·simp only;rw[Zb sm]
   ·simp only;have K:∀(l:Lz),l.length<=1000000->(if decide ((l.length:Int)>0) then (IR l).bind λt99=>some t99 else some (-1099511627776))=some (best imax (-1099511627776) l).2:=by
     intro l hl
     cases l with
     | nil=>rfl
     | cons x xs=>rw[Zc sm,max_eq x xs (by simp at hl;omega),KY];rfl
    have L:∀(l:Lz),l.length<=1000000->(if decide ((l.length:Int)>0) then (IS l).bind λt99=>some t99 else some 1099511627776)=some (best imin 1099511627776 l).2:=by
     intro l hl
     cases l with
     | nil=>rfl
     | cons x xs=>rw[Zc sm,min_eq x xs (by simp at hl;omega),KY];rfl
    rw[K _ (by have:=SW c vs (vs.length+1);omega)];simp only[Za];rw[L _ (by have:=SX c vs (vs.length+1);omega)];simp only[Za];unfold loB hiB;split<;>rfl
def Y9 (a b:Int):imax a b=a\/imax a b=b:=by unfold imax;split<;>simp
def Z0 (a b:Int):imin a b=a\/imin a b=b:=by unfold imin;split<;>simp
def KZ {x:Int}:wild x=false↔-1099511627776<=x/\x<=1099511627776:=by unfold wild;simp only[Bool.or_eq_false_iff,ZI];omega
def SZ {c:List Lz} (h:¬badT c vs=true):(∀x∈vs,wild x=false)/\∀r∈c,r.length=c.length/\∀x∈r,wild x=false:=by
 have a:badT c vs=false:=by simpa using h
 unfold badT at a;simp only[Bool.or_eq_false_iff] at a;have⟨_,b,d⟩:=a;refine⟨λx hx=>by simpa using any_eq_false.1 b x hx,λr e=>?_⟩;have:=any_eq_false.1 d r e;unfold ED at this;simp only[ZG,not_or,Ye,any_eq_false] at this;exact⟨by simpa using this.1,λx hx=>by simpa using this.2 x hx⟩
def KQ {c:List Lz} (h:¬badT c vs=true) (i k:Nat):-1099511627776<=at2B c i k/\at2B c i k<=1099511627776:=by
 unfold at2B;rw[Zg,Zg]
 cases hi:c[i]? with
 | none=>simp
 | some r=>
  simp only[ZS]
  cases a:r[k]? with
  | none=>simp
  | some x=>exact KZ.1 (((SZ h).2 r (Zo hi)).2 x (Zo a))
def Ka {c:List Lz} (h:¬badT c vs=true) (j:Nat):-1099511627776<=A6 vs j/\A6 vs j<=1099511627776:=by
 unfold A6;rw[Zg]
 cases a:(vs++[0])[j]? with
 | none=>simp
 | some x=>
  have:=Zo a;rcases ZH.1 this with hx | hx
  ·exact KZ.1 ((SZ h).1 x hx)
  ·obtain rfl:=Zi.1 hx;simp
def SQ {c:List Lz} {x:Int} (h:x∈loF c vs M):∃j,j<M/\at2B c (AM c vs j) vs.length<1099511627776/\x=i64.wrap (A6 vs j - at2B c (AM c vs j) vs.length):=by
 induction M with
 | zero=>unfold loF at h;simp at h
 | succ M a=>
  rw[OO] at h;rcases ZH.1 h with h | h
  ·have⟨j,b,r⟩:=a h;exact⟨j,om,r⟩
  ·split at h
   ·exact⟨M,om,by assumption,Zi.1 h⟩
   ·cases h
def Sa {c:List Lz} {x:Int} (h:x∈hiF c vs M):∃j,j<M/\at2B c vs.length (AM c vs j)<1099511627776/\x=i64.wrap (A6 vs j+at2B c vs.length (AM c vs j)):=by
 induction M with
 | zero=>unfold hiF at h;simp at h
 | succ M a=>
  rw[OP] at h;rcases ZH.1 h with h | h
  ·have⟨j,b,r⟩:=a h;exact⟨j,om,r⟩
  ·split at h
   ·exact⟨M,om,by assumption,Zi.1 h⟩
   ·cases h
def Sb {c:List Lz} (h:(Ac c vs).2.2=0):¬badT c vs=true/\vs.length+1<c.length/\(Ac c vs).1=(loB c vs (vs.length+1)).2/\(Ac c vs).2.1=(hiB c vs (vs.length+1)).2/\(loB c vs (vs.length+1)).2<=(hiB c vs (vs.length+1)).2:=by
 unfold Ac at h ⊢;by_cases a:badT c vs=true
 ·rw[Zc a] at h;simp at h
 ·rw[Zb a] at h ⊢;by_cases b:decide ((vs.length:Int)>=(c.length:Int) - 1)=true
  ·rw[Zc b] at h;simp at h
  ·rw[Zb b] at h ⊢;by_cases d:decide ((loB c vs (vs.length+1)).2>(hiB c vs (vs.length+1)).2)=true
   ·rw[Zc d] at h;simp at h
   ·rw[Zb d];simp only[Zk] at b d;exact⟨a,om,rfl,rfl,om⟩
def Z1 {n:Int} {l:List QH} (h:(EC n l).2=0):∃m:Nat,n=(m:Int) - 1/\DD m l/\Bn n l=0/\negB m (tP m l)=false/\(EC n l).1=tab m (tP m l):=by
 unfold EC at h ⊢;by_cases a:Bn n l=0
 ·obtain⟨m,rfl,hm⟩:=SK a;have e:((m:Int) - 1+1).toNat=m:=by omega
  rw[Zb (sa a),e] at h ⊢;by_cases b:negB m (tP m l)=true
  ·rw[Zc b] at h;simp at h
  ·rw[Zb b];exact⟨m,rfl,hm,a,by simpa using b,rfl⟩
 ·rw[Zc a] at h;exact (a h).elim
def Seen (m k i:Nat):Prop:=i<k\/i=m - 1
def vv (m:Nat) (vs:Lz) (i:Nat):Int:=if i=m - 1 then 0 else vs.getD i 0
def Kb {m:Nat} {G:Nat->Nat->Int} {k:Nat} (hi:i<m) (a:k<m):at2B (tab m G) i k=G i k:=by unfold at2B tab rowL;rw[Zg,Zg];simp[hi,a]
def Dd {m:Nat} {G:Nat->Nat->Int} (h:vs.length+1<m) (b:j<vs.length+1):Seen m vs.length (AM (tab m G) vs j)/\AM (tab m G) vs j<m/\A6 vs j=vv m vs (AM (tab m G) vs j):=by
 unfold AM A6 vv Seen;rw[DE];by_cases a:j=vs.length
 ·rw[Zc a,Zc rfl];refine⟨.inr rfl,om,?_⟩;rw[a,Zg];simp
 ·rw[Zb a,Zb om];refine⟨.inl om,om,?_⟩;rw[Zg,Zg,Zv om]
def Sc {m:Nat} {G:Nat->Nat->Int} (h:vs.length+1<m) (hi:Seen m vs.length i):∃j,j<vs.length+1/\AM (tab m G) vs j=i:=by
 unfold AM;rw[DE];rcases hi with a | a
 ·exact⟨i,om,Zb om⟩
 ·exact⟨vs.length,om,by rw[Zc rfl,a]⟩
def loF_in {c:List Lz} (b:j<M) (hf:at2B c (AM c vs j) vs.length<1099511627776):i64.wrap (A6 vs j - at2B c (AM c vs j) vs.length)∈loF c vs M:=by
 induction M with
 | zero=>omega
 | succ M a=>
  rw[OO];by_cases h:j=M
  ·subst h;rw[Zc hf];exact mem_append_right _ (Zi.2 rfl)
  ·exact mem_append_left _ (a om)
def hiF_in {c:List Lz} (b:j<M) (hf:at2B c vs.length (AM c vs j)<1099511627776):i64.wrap (A6 vs j+at2B c vs.length (AM c vs j))∈hiF c vs M:=by
 induction M with
 | zero=>omega
 | succ M a=>
  rw[OP];by_cases h:j=M
  ·subst h;rw[Zc hf];exact mem_append_right _ (Zi.2 rfl)
  ·exact mem_append_left _ (a om)
def Z2:∀(l:Lz) (x:Int),(∀y∈x::l,y<=l.foldl imax x)/\l.foldl imax x∈x::l:=by
 intro l
 induction l with
 | nil=>intro x;exact⟨λy hy=>by obtain rfl:=Zi.1 hy;exact Zx _,Zs ..⟩
 | cons z l b=>
  intro x;rw[foldl_cons];have⟨a,d⟩:=b (imax x z);have hm:x<=imax x z/\z<=imax x z:=by unfold imax;split<;>omega
  have h0:=a _ (Zs ..);refine⟨λy hy=>?_,?_⟩
  ·rcases Zp.1 hy with rfl | hy
   ·omega
   ·rcases Zp.1 hy with rfl | hy
    ·omega
    ·exact a y (ZE _ hy)
  ·rcases Zp.1 d with h | h
   ·rw[h];rcases Y9 x z with e | e<;>rw[e]<;>simp
   ·exact ZE _ (ZE _ h)
def Z3:∀(l:Lz) (x:Int),(∀y∈x::l,l.foldl imin x<=y)/\l.foldl imin x∈x::l:=by
 intro l
 induction l with
 | nil=>intro x;exact⟨λy hy=>by obtain rfl:=Zi.1 hy;exact Zx _,Zs ..⟩
 | cons z l b=>
  intro x;rw[foldl_cons];have⟨a,d⟩:=b (imin x z);have hm:imin x z<=x/\imin x z<=z:=by unfold imin;split<;>omega
  have h0:=a _ (Zs ..);refine⟨λy hy=>?_,?_⟩
  ·rcases Zp.1 hy with rfl | hy
   ·omega
   ·rcases Zp.1 hy with rfl | hy
    ·omega
    ·exact a y (ZE _ hy)
  ·rcases Zp.1 d with h | h
   ·rw[h];rcases Z0 x z with e | e<;>rw[e]<;>simp
   ·exact ZE _ (ZE _ h)
def OR {d:Int} {l:Lz} (h:l≠[]):(∀y∈l,y<=(best imax d l).2)/\(best imax d l).2∈l:=by
 cases l with
 | nil=>exact (h rfl).elim
 | cons x l=>rw[KY];exact Z2 l x
def OS {d:Int} {l:Lz} (h:l≠[]):(∀y∈l,(best imin d l).2<=y)/\(best imin d l).2∈l:=by
 cases l with
 | nil=>exact (h rfl).elim
 | cons x l=>rw[KY];exact Z3 l x
def Kc {m:Nat} {v:Int} (h:vs.length+1<m) (i:Nat) (hi:Seen m vs.length i):vv m (vs++[v]) i=vv m vs i:=by
 unfold vv;by_cases a:i=m - 1
 ·rw[Zc a,Zc a]
 ·rw[Zb a,Zb a,Zg,Zg,Zv];rcases hi with b | b
  ·exact b
  ·exact (a b).elim
def Sd {m:Nat} {v:Int} (h:vs.length+1<m):vv m (vs++[v]) vs.length=v:=by unfold vv;rw[Zb om,Zg];simp
def SolE (m:Nat) (v:Nat->Int) (l:List QH):Prop:=∀x∈l,v (rowN m x.A)<=v (rowN m x.B)+x.N
def Se {m:Nat} {l:List QH} (a:SolE m v l) {k:Nat} {w:Int} (h:Way (l.map (edN m)) i k w):v i<=v k+w:=by
 induction h with
 | nil i=>omega
 | cons b _ e=>obtain⟨d,f,rfl⟩:=ZR.1 b;have:=a d f;have e1:(edN m d).a=rowN m d.A:=rfl;have e2:(edN m d).b=rowN m d.B:=rfl;have g:(edN m d).w=d.N:=rfl;rw[e2] at e;rw[e1,g];omega
def Z4 {m:Nat} {l:List QH} (a:DD m l) (b:SolE m v l):negB m (tP m l)=false:=by rw[KN];intro i hi;have hf:=KK a;have d:INF=1099511627776:=rfl;have e:=hf.diag i hi;have:=Se b (hf.way i i hi hi om);omega
def Sf {m:Nat} {l:List QH} (a:DD m l) (b:SolE m v l) (hi:i<m) (d:j<m) (hf:tP m l i j<INF):v i<=v j+tP m l i j:=Se b ((KK a).way i j hi d hf)
def rg_lo {m:Nat} {G:Nat->Nat->Int} (h:(Ac (tab m G) vs).2.2=0):vs.length+1<m/\(Ac (tab m G) vs).1<=(Ac (tab m G) vs).2.1/\(∀i,Seen m vs.length i->G i vs.length<INF->vv m vs i - G i vs.length<=(Ac (tab m G) vs).1)/\((Ac (tab m G) vs).1=-1099511627776\/∃i,Seen m vs.length i/\G i vs.length<INF/\(Ac (tab m G) vs).1=vv m vs i - G i vs.length):=by
  have⟨hb,b,e1,e2,g⟩:=Sb h;rw[DE] at b;have val:∀j,j<vs.length+1->at2B (tab m G) (AM (tab m G) vs j) vs.length=G (AM (tab m G) vs j) vs.length:=λj a=>Kb (Dd b a).2.1 om;have wr:∀j,j<vs.length+1->i64.wrap (A6 vs j - at2B (tab m G) (AM (tab m G) vs j) vs.length)=vv m vs (AM (tab m G) vs j) - G (AM (tab m G) vs j) vs.length:=by intro j a;have n:=Ka hb j;have o:=KQ hb (AM (tab m G) vs j) vs.length;rw[w64 om om,val j a,(Dd (G:=G) b a).2.2]
  refine⟨b,by rw[e1,e2];exact g,?_⟩;rw[e1];refine⟨λi hi hf=>?_,?_⟩
  · obtain⟨j,a,rfl⟩:=Sc (G:=G) b hi;have hm:=loF_in (c:=tab m G) (vs:=vs) (M:=vs.length+1) a (by rw[val j a];exact hf);rw[wr j a] at hm;exact (OR (ne_nil_of_mem hm)).1 _ hm
  · by_cases l:loF (tab m G) vs (vs.length+1)=[]
    · left;unfold loB;rw[l];rfl
    · right;have⟨j,a,f,e⟩:=SQ (OR (d:=-1099511627776) l).2;rw[wr j a] at e;rw[val j a] at f;exact⟨_,(Dd (G:=G) b a).1,f,e⟩
def rg_hi {m:Nat} {G:Nat->Nat->Int} (h:(Ac (tab m G) vs).2.2=0):(∀i,Seen m vs.length i->G vs.length i<INF->(Ac (tab m G) vs).2.1<=vv m vs i+G vs.length i)/\((Ac (tab m G) vs).2.1=1099511627776\/∃i,Seen m vs.length i/\G vs.length i<INF/\(Ac (tab m G) vs).2.1=vv m vs i+G vs.length i):=by
  have⟨hb,b,e1,e2,l⟩:=Sb h;rw[DE] at b;have val:∀j,j<vs.length+1->at2B (tab m G) vs.length (AM (tab m G) vs j)=G vs.length (AM (tab m G) vs j):=λj a=>Kb om (Dd b a).2.1;have wr:∀j,j<vs.length+1->i64.wrap (A6 vs j+at2B (tab m G) vs.length (AM (tab m G) vs j))=vv m vs (AM (tab m G) vs j)+G vs.length (AM (tab m G) vs j):=by intro j a;have n:=Ka hb j;have o:=KQ hb vs.length (AM (tab m G) vs j);rw[w64 om om,val j a,(Dd (G:=G) b a).2.2]
  rw[e2];refine⟨λi hi hf=>?_,?_⟩
  · obtain⟨j,a,rfl⟩:=Sc (G:=G) b hi;have hm:=hiF_in (c:=tab m G) (vs:=vs) (M:=vs.length+1) a (by rw[val j a];exact hf);rw[wr j a] at hm;exact (OS (ne_nil_of_mem hm)).1 _ hm
  · by_cases g:hiF (tab m G) vs (vs.length+1)=[]
    · left;unfold hiB;rw[g];rfl
    · right;have⟨j,a,f,e⟩:=Sa (OS (d:=1099511627776) g).2;rw[wr j a] at e;rw[val j a] at f;exact⟨_,(Dd (G:=G) b a).1,f,e⟩
def IT (m:Nat) (G:Nat->Nat->Int) (vs:Lz):Prop:=∀i j,Seen m vs.length i->Seen m vs.length j->G i j<INF->vv m vs i<=vv m vs j+G i j
def Z5 {m:Nat} {G:Nat->Nat->Int} (d:1<=m) (a:∀i,i<m->0<=G i i):IT m G []:=by intro i j hi b _;have e:∀i,Seen m ([]:Lz).length i->i=m - 1:=λi h=>h.elim (λh=>(Nat.not_lt_zero _ h).elim) id;rw[e i hi,e j b];have:=a (m - 1) om;omega
def Z6 {m:Nat} {G:Nat->Nat->Int} (e:∀i,i<m->0<=G i i) (f:IT m G vs) (h:(Ac (tab m G) vs).2.2=0) {v:Int} (l:(Ac (tab m G) vs).1<=v) (d:v<=(Ac (tab m G) vs).2.1):IT m G (vs++[v]):=by
  have⟨b,_,hl,_⟩:=rg_lo h;have g:=(rg_hi h).1;intro i j hi a hf;have split:∀i,Seen m (vs++[v]).length i->i=vs.length\/Seen m vs.length i:=by
    intro i h;rcases h with h | h
    · simp only[Ze,Zj,Zm] at h;by_cases d:i=vs.length
      · exact .inl d
      · exact .inr (.inl om)
    · exact .inr (.inr h)
  rcases split i hi with rfl | hi
  · rcases split j a with rfl | a
    · have:=e vs.length om;omega
    · rw[Sd b,Kc b j a];have:=g j a hf;omega
  · rcases split j a with rfl | a
    · rw[Sd b,Kc b i hi];have:=hl i hi hf;omega
    · rw[Kc b i hi,Kc b j a];exact f i j hi a hf
def Z7 {m:Nat} {l:List QH} {p:Lz} (b:DD m l) (hl:p.length=m - 1) (d:IT m (tP m l) p):SolE m (vv m p) l:=by
  intro x hx;have hf:=KK b;have a:=eds_w b (edN m x) (mem_map_of_mem hx);have e:=hf.edge (edN m x) (mem_map_of_mem hx);have g:INF=1099511627776:=rfl;have e1:(edN m x).a=rowN m x.A:=rfl;have e2:(edN m x).b=rowN m x.B:=rfl;have f:(edN m x).w=x.N:=rfl;rw[e1,e2,f] at e a;have seen:∀i,i<m->Seen m p.length i:=λi hi=>by unfold Seen;omega
  have:=d (rowN m x.A) (rowN m x.B) (seen _ a.1) (seen _ a.2.1) om;omega
def OT (m j:Nat):rowN m (j:Int)=j:=by unfold rowN;rw[Zb om];omega
def Sg (m:Nat):rowN m (-1)=m - 1:=by unfold rowN;rw[Zc dc]
section
variable (p:Nat->Bool)
def OU (n:Nat):(range (n+1)).filter p=(range n).filter p++(if p n=true then [n] else []):=by
  rw[Ym,filter_append];congr 1;by_cases h:p n=true
  · rw[Zc h];simp[h]
  · rw[Zb h];simp[h]
def Si {g:Nat}:∀{n i:Nat},g<=n->i<((range g).filter p).length->((range n).filter p)[i]?=((range g).filter p)[i]?
  | 0,i,hg,hi=>by
    have:g=0:=by omega
    subst this;rfl
  | n+1,i,hg,hi=>by
    by_cases h:g=n+1
    · subst h;rfl
    · have a:=Si (g:=g) (n:=n) (i:=i) om hi;rw[OU,Zv,a];rw[Zd hi] at a;exact (Zf.1 a).1
def fr_at {g n:Nat} (a:g<n) (hp:p g=true):((range n).filter p)[((range g).filter p).length]?=some g:=by
  have e:((range (g+1)).filter p)[((range g).filter p).length]?=some g:=by rw[OU,Zc hp,ZA (Zq _),Nat.sub_self];rfl
  rw[Si p (g:=g+1) (n:=n) a (Zf.1 e).1,e]
end
def isV (x:Qc) (k f:Nat):Bool:=((fd x k f).Xi==2)||((fd x k f).Xi==4)
def vals (x:Qc) (k:Nat):List Nat:=(range (nf x k)).filter (isV x k)
def Au (x:Qc) (k g:Nat):Nat:=((range g).filter (isV x k)).length
def natI (l:List Nat):Lz:=l.map Int.ofNat
def Bc (x:Qc) (k f:Nat):Int:=if (fd x k f).Xi=4/\(fd x k f).Of≠[] then (Au x k (AD (kd x k) (fd x k f).Of).toNat:Int) else -1
def Cy (x:Qc) (k i:Nat):List QH:=[⟨i,Bc x k ((vals x k).getD i 0),(fd x k ((vals x k).getD i 0)).Hi⟩,⟨Bc x k ((vals x k).getD i 0),i,-(fd x k ((vals x k).getD i 0)).Lo⟩]
def Bo (x:Qc) (k:Nat) (n:Str):Int:=if n=[] then -1 else (Au x k (AD (kd x k) n).toNat:Int)
def EF (x:Qc) (k j:Nat):List QH:=match x.Xc[j]? with | some r=>if Q3 x r.Xi=k then [⟨Bo x k r.A,Bo x k r.B,r.N⟩] else [] | none=>[]
def dfS (x:Qc) (k:Nat):List QH:=([]++(range (vals x k).length).flatMap (Cy x k))++(range x.Xc.length).flatMap (EF x k)
def IU (l:List Nat):(natI l).length=l.length:=Yh ..
def Sj {l:List Nat} (h:i<l.length):idx (natI l) (i:Int)=some ((l.getD i 0:Nat):Int):=by rw[BN,natI,Yc,Zg,Zd h];rfl
def GA (h:i<(vals x k).length):(vals x k).getD i 0<nf x k/\isV x k ((vals x k).getD i 0)=true:=by have hm:(vals x k).getD i 0∈vals x k:=Dr h;have⟨a,b⟩:=Yn.1 hm;exact⟨Yd.1 a,b⟩
def FT {g:Nat} (a:g<nf x k) (b:isV x k g=true):Au x k g<(vals x k).length/\(vals x k).getD (Au x k g) 0=g:=by have e:(vals x k)[Au x k g]?=some g:=fr_at (isV x k) a b;refine⟨(Zf.1 e).1,?_⟩;rw[Zg,e];rfl
def IV:(vals x k).length<=nf x k:=by have:=length_filter_le (isV x k) (range (nf x k));rw[YB] at this;exact this
def Sk (n:Nat):natI ((range (n+1)).filter (isV x k))=if isV x k n=true then natI ((range n).filter (isV x k))++[(n:Int)] else natI ((range n).filter (isV x k)):=by unfold natI;rw[OU,Yu];split<;>simp
def Z8 (hc:AN x=[]) (b:k<x.Xa.length) {f:Nat} (hf:f<nf x k):(fd x k f).Xj≠[]:=by have a:=(Cz ((Ce hc).kind _ (Cq b))).2.2 _ (Ev hf);intro e;unfold AH at a;rw[e] at a;simp[QX] at a;exact absurd a.1.1.1 dc
def Z9 (d:Gx x) (e:k<x.Xa.length) (hi:i<(vals x k).length):Bc x k ((vals x k).getD i 0)=(if (fd x k ((vals x k).getD i 0)).Xi=4 then Bo x k (fd x k ((vals x k).getD i 0)).Of else -1)/\i64.wrap (0 - (fd x k ((vals x k).getD i 0)).Lo)=-(fd x k ((vals x k).getD i 0)).Lo:=by
  have hb:=d.fd e (GA hi).1;generalize (vals x k).getD i 0=f at hb ⊢;refine⟨?_,by rw[w64 om om];omega⟩;unfold Bc Bo;by_cases a:(fd x k f).Xi=4
  · by_cases b:(fd x k f).Of=[]
    · rw[Zb (λh=>h.2 b),Zc a,Zc b]
    · rw[Zc ⟨a,b⟩,Zc a,Zb b]
  · rw[Zb (λh=>a h.1),Zb a]
def OV {L:List (Str×Int)} (h0:A2 L []=some (-1)) (b:∀g,g<nf x k->isV x k g=true->A2 L (fd x k g).Xj=some (Au x k g:Int)) {n:Str}
    (d:n≠[]->∃g:Nat,AD (kd x k) n=g/\g<nf x k/\isV x k g=true/\(fd x k g).Xj=n):(Ax (some L:MpK Str Int) n).getD 0=Bo x k n:=by
  unfold Bo;by_cases h:n=[]
  · rw[Zc h,h];show (A2 L []).getD 0=-1;rw[h0];rfl
  · rw[Zb h];have⟨g,e,f,l,a⟩:=d h;rw[e,Zu];show (A2 L n).getD 0=_;rw[<-a,b g f l];rfl
def aA (hc:AN x=[]) (b:k<x.Xa.length) {f:Nat} (hf:f<nf x k) (d:(fd x k f).Xi=4):(fd x k f).Of≠[]->∃g:Nat,AD (kd x k) (fd x k f).Of=g/\g<nf x k/\isV x k g=true/\(fd x k g).Xj=(fd x k f).Of:=λh=>by have⟨g,e,m,a,l⟩:=HU hc b hf d h;exact⟨g,e,om,by unfold isV;rw[a];rfl,l⟩
def HV (hc:AN x=[]) {r:QL} (d:r∈x.Xc) (o:Q3 x r.Xi=k) {n:Str} (f:n=r.A\/n=r.B):n≠[]->∃g:Nat,AD (kd x k) n=g/\g<nf x k/\isV x k g=true/\(fd x k g).Xj=n:=λhne=>by
  have⟨l,e,_,_,h⟩:=Kd hc d;have:l=k:=by omega
  subst this;have⟨g,e2,m,a,b⟩:=h n f hne;exact⟨g,e2,m,by unfold isV;rcases a with h | h<;>rw[h]<;>rfl,b⟩
def OW (i:Nat):(Cy x k i).length<=2:=by simp[Cy]
def Sl (j:Nat):(EF x k j).length<=1:=by
  unfold EF;split
  · split<;>simp
  · simp
def aB (a:nf x k<=9) (b:x.Xc.length<=16):(dfS x k).length<=34:=by have d:=DR (vals x k).length (Cy x k) 2 λi _=>OW i;have e:=DR x.Xc.length (EF x k) 1 λi _=>Sl i;have f:=IV (x:=x) (k:=k);unfold dfS;rw[Ze,Yl];omega
def aC (z:Gx x) (hc:AN x=[]) (n:k<x.Xa.length):IW x k=some (natI (vals x k),dfS x k):=by
  have B:=z.kd n;have s:=Ce hc;have H:=s.kinds;have I:=s.rules;have K:=IV (x:=x) (k:=k);have key:Ok (IW x k) (λr=>r=(natI (vals x k),dfS x k)):=by
    unfold IW;rw[AQ n];dsimp only[ob];rw[Ke rfl];dsimp only[ob];refine Ok.bind (P:=λp:Lz×MpK Str Int=>p.1=natI (vals x k)/\∃L,p.2=some L/\A2 L []=some (-1)/\∀g,g<nf x k->isV x k g=true->A2 L (fd x k g).Xj=some (Au x k g:Int))
      (Ok.cnt (kd x k).Xb.length (λf p=>p.1=natI ((range f).filter (isV x k))/\∃L,p.2=some L/\A2 L []=some (-1)/\∀g,g<f->isV x k g=true->A2 L (fd x k g).Xj=some (Au x k g:Int)) ⟨rfl,_,rfl,by simp[Ds,A2],λg z=>om⟩ (λf p hf hp=>?_) λp hp=>by rw[AK];exact Ok.mk hp) λp hp=>?_
    · have⟨a,m⟩:=p;obtain⟨rfl,L,e,h0,t⟩:=hp;dsimp only at e ⊢;subst e;have u:f<nf x k:=hf;rw[AL hf,fd_idx' k hf];dsimp only[ob];have E:=length_filter_le (isV x k) (range f);rw[YB] at E;refine Ok.bind (P:=λp:MpK Str Int×Lz=>p.2=natI ((range (f+1)).filter (isV x k))/\∃L,p.1=some L/\A2 L []=some (-1)/\∀g,g<f+1->isV x k g=true->A2 L (fd x k g).Xj=some (Au x k g:Int)) (Ok.ite (λh=>?_) λh=>Ok.mk ⟨?_,L,rfl,h0,λg w l=>?_⟩) λp hp=>Ok.mk ⟨QD hf (by unfold nf at B;omega),hp⟩
      · have s:isV x k f=true:=h;rw[Ke rfl];refine Ok.rm (by rw[IU];simp;omega) (Ok.mk ⟨by rw[Sk,Zc s],_,rfl,?_,λg w l=>?_⟩)
        · rw[Dt,Zb (λe=>Z8 hc n u e.symm),h0]
        · rw[Dt];by_cases e:g=f
          · subst e;rw[Zc rfl,IU];rfl
          · rw[Zb,t g om l];intro N;have O:=Sm hc n (f:=g) om;have S:=Sm hc n u;rw[N] at O;omega
      · have s:¬isV x k f=true:=by
          have:isV x k f=false:=h;rw[this];decide
        rw[Sk,Zb s]
      · rcases Nat.lt_succ_iff_lt_or_eq.1 w with F | F
        · exact t g F l
        · subst F;have:isV x k g=false:=h;rw[this] at l;cases l
    · have⟨a,m⟩:=p;obtain⟨rfl,L,e,h0,t⟩:=hp;dsimp only at e ⊢;subst e;rw[EG (vals x k).length (Cy x k) 2 (λi _=>OW i) [] (λi hi o b=>?_) (λo=>by rw[IU,AK])]
      · dsimp only[ob];rw[EG x.Xc.length (EF x k) 1 (λi _=>Sl i) _ (λi hi o b=>?_) (λo=>by rw[AK])]
        · exact Ok.mk rfl
        · rw[AL hi,QY hi];dsimp only[ob];rw[GB om];dsimp only[ob];have hl:=DR (vals x k).length (Cy x k) 2 λi _=>OW i;rw[Ze] at b;dsimp only[length_nil] at b;have e1:EF x k i=if Q3 x x.Xc[i].Xi=k then [⟨Bo x k x.Xc[i].A,Bo x k x.Xc[i].B,x.Xc[i].N⟩] else []:=by unfold EF;rw[Zd hi]
          rw[e1];by_cases d:Q3 x x.Xc[i].Xi=k
          · rw[Zc (sa d),Zc d,OV h0 t (HV hc (Zr hi) d (.inl rfl)),OV h0 t (HV hc (Zr hi) d (.inr rfl)),CK so,QD hi om];rfl
          · rw[Zb (sa d),Zb d,QD hi om,Yg];rfl
      · rw[IU,AL hi,Sj hi];dsimp only[ob];have hf:=(GA hi).1;rw[C0 hf];dsimp only[ob];have⟨d1,d2⟩:=Z9 z n hi;have e1:(if (fd x k ((vals x k).getD i 0)).Xi==(4:Int) then some ((Ax (some L:MpK Str Int) (fd x k ((vals x k).getD i 0)).Of).getD (0:Int)) else some (-1:Int))=some (Bc x k ((vals x k).getD i 0)):=by
          rw[d1];by_cases y:(fd x k ((vals x k).getD i 0)).Xi=4
          · rw[Zc (sa y),Zc y,OV h0 t (aA hc n hf y)]
          · rw[Zb (sa y),Zb y]
        rw[e1];dsimp only[ob];dsimp only[length_nil] at b;rw[CK so,d2,QD hi om];rfl
  obtain⟨r,Q,rfl⟩:=key;exact Q
def colW (n:Nat) (W:Wd) (k f:Nat):Lz:=(range n).map λi=>g3 W k i f
def GC (n:Nat) (W:Wd) (k f:Nat):(colW n W k f).length=n:=by simp[colW]
def Kf {n:Nat} (hi:i<n) (W:Wd) (k f:Nat):(colW n W k f).getD i 0=g3 W k i f:=by rw[Zg,colW,Yc,Yz hi];rfl
def aD {n:Nat} {l:Lz} (hl:l.length=n) {W:Wd} {k f:Nat} (h:∀i,i<n->g3 W k i f=l.getD i 0):colW n W k f=l:=by
  refine ext_getElem? λi=>?_;by_cases hi:i<n
  · have e:=h i hi;rw[Zg,Zd om] at e;rw[colW,Yc,Yz hi,Zd om,Yb,e];rfl
  · rw[getElem?_eq_none (by rw[GC];omega),getElem?_eq_none om]
structure IX (lo:Int) (n:Nat) (v:Nat->Int):Prop where
  lo:∀i,i<n->lo<=v i
  ne:∀i j,j<i->i<n->v j≠v i
def Sn (h:Old x co old) (g:Sh x.Xa.length c (nf x) W) {k f:Nat} (a:k<x.Xa.length) (hf:f<nf x k):GD ⟨x,old,W⟩ k f=some (colW (min (co k) (c k)) old k f):=by
  have l:=h.le k a;have key:Ok (GD ⟨x,old,W⟩ k f) (λr=>r=colW (min (co k) (c k)) old k f):=by
    unfold GD;dsimp only;refine Ok.g1 h.sh a (Ok.g1 g a ?_);rw[h.sh.row k a,g.row k a];have hm:imin ((co k:Nat):Int) ((c k:Nat):Int)=((min (co k) (c k):Nat):Int):=by unfold imin;split<;>omega
    rw[hm];refine Ok.bind (P:=λr=>r=colW (min (co k) (c k)) old k f) (Ok.cnt (min (co k) (c k)) (λi r=>r=colW i old k f) rfl (λi r hi b=>?_) λr b=>by rw[AK];exact Ok.mk b) λr b=>Ok.mk b;rw[AL hi];have d:i<co k:=by omega
    subst b;refine Ok.g1 h.sh a (Ok.g2 h.sh a d (Ok.g3 h.sh a d hf (Ok.rm (by rw[GC];simp;omega) (Ok.mk ⟨QD hi om,?_⟩))));unfold colW;rw[Ym,Yu];rfl
  obtain⟨r,e,rfl⟩:=key;exact e
def OX {l:List (Int×Bool)} (ht:∀v b,mget l v=some b->b=true) {v:Int}:(AY (some l:Mp Bool) v).getD false=true↔mget l v≠none:=by
  show (mget l v).getD false=true↔_
  cases e:mget l v with
  | none=>simp
  | some b=>rw[ht v b e];simp
structure KeyI (lo:Int) (n:Nat) (D:Nat->Prop) (v:Nat->Int) (l:List (Int×Bool)):Prop where
  tr:∀v b,mget l v=some b->b=true
  inm:∀j,j<n->D j->lo<=v j/\mget l (v j)≠none
  ne:∀i j,j<i->i<n->D j->D i->v j≠v i
def KeyI.put {lo:Int} {n:Nat} {l:List (Int×Bool)} (h:KeyI lo n D v l) {s:Int} (w:mget l s=none) (o:lo<=s) (e:v' i=s) (d:∀j,j≠i->v' j=v j):KeyI lo n (λj=>D j\/j=i) v' (mset l s true):=by
  refine⟨λu b hb=>?_,λj y z=>?_,λa b r ha f g=>?_⟩
  · rw[BO] at hb;by_cases e:u=s
    · rw[Zc e] at hb;exact (Zn hb).symm
    · rw[Zb e] at hb;exact h.tr u b hb
  · by_cases q:j=i
    · subst q;rw[e,BO,Zc rfl];exact⟨o,sm⟩
    · rw[d j q,BO];have:=h.inm j y (z.resolve_right q);refine⟨this.1,?_⟩;split
      · simp
      · exact this.2
  · by_cases m:a=i
    · subst m;have hb:b≠a:=by omega
      rw[e,d b hb];intro q;exact (h.inm b om (f.resolve_right hb)).2 (by rw[q];exact w)
    · by_cases t:b=i
      · subst t;rw[e,d a m];intro q;exact (h.inm a ha (g.resolve_right m)).2 (by rw[<-q];exact w)
      · rw[d a m,d b t];exact h.ne a b r ha (f.resolve_right t) (g.resolve_right m)
def KeyI.Xo {lo:Int} {n:Nat} {E:Nat->Prop} {l:List (Int×Bool)} (h:KeyI lo n D v l) (a:∀j,j<n->E j->D j) (e:∀j,v' j=v j):KeyI lo n E v' l:=⟨h.tr,λj g m=>by rw[e];exact h.inm j g (a j g m),λi j b hi d f=>by rw[e,e];exact h.ne i j b hi (a j om d) (a i hi f)⟩
def aE (h:Old x co old) (hw:Sh x.Xa.length c (nf x) W) {k:Nat} (g:k<x.Xa.length) (hc:c k<=60) {S:Int} (hS:1010<=S/\S<=4000000) (a1:∀i,i<co k->g3 old k i 0<=S):
    Ok (Kg ⟨x,old,W⟩ k) (λm=>∃Q,m=⟨x,old,Q⟩/\Sh x.Xa.length c (nf x) Q/\Kp (B8 k (·=0)) W Q/\IX (fd x k 0).Lo (c k) (λi=>g3 Q k i 0)/\(∀i,i<c k->g3 Q k i 0<=S+60)/\(c k<=co k->IX (fd x k 0).Lo (c k) (λi=>g3 old k i 0)->∀i,i<c k->g3 Q k i 0=g3 old k i 0)):=by
  have⟨y,a5⟩:=HW h.clean g;have a6:=h.gx.fd g y;unfold Kg;dsimp only;rw[AQ g];dsimp only[ob];rw[show idx (kd x k).Xb (0:Int)=some (fd x k 0) from C0 y];dsimp only[ob];apply Ok.g1 hw g;rw[hw.row k g,Dp _ _ om];dsimp only[ob];rw[show GD ⟨x,old,W⟩ (k:Int) 0=some (colW (min (co k) (c k)) old k 0) from Sn h hw g y];dsimp only[ob];rw[GC]
  let I1:Nat->Wd×Mp Bool×List Bool->Prop:=λi p=>Sh x.Xa.length c (nf x) p.1/\Kp (B8 k (·=0)) W p.1/\p.2.2.length=c k/\(∀j,i<=j->p.2.2.getD j false=false)/\(∃l,p.2.1=some l/\KeyI (fd x k 0).Lo (c k) (λj=>p.2.2.getD j false=true) (λj=>g3 p.1 k j 0) l/\∀v,mget l v≠none->v<=S/\∃j,j<i/\g3 old k j 0=v)/\(c k<=co k->IX (fd x k 0).Lo (c k) (λi=>g3 old k i 0)->∀j,j<i->p.2.2.getD j false=true/\g3 p.1 k j 0=g3 old k j 0)
  refine Ok.bind (P:=I1 (min (co k) (c k))) (Ok.cnt (min (co k) (c k)) I1 ⟨hw,Kp.refl _ _,sm,λj _=>by rw[Zg,getElem?_replicate];split<;>rfl,⟨[],rfl,⟨λv b hb=>(nomatch hb),λj _ o=>?_,λi j _ _ o=>?_⟩,λv z=>(z rfl).elim⟩,λ_ _ j o=>om⟩ (λi p hi hp=>?_) λp hp=>by rw[AK];exact Ok.mk hp) λp hp=>?_
  · have:(replicate (c k) false).getD j false=false:=by rw[Zg,getElem?_replicate];split<;>rfl
    dsimp only at o;rw[this] at o;cases o
  · have:(replicate (c k) false).getD j false=false:=by rw[Zg,getElem?_replicate];split<;>rfl
    dsimp only at o;rw[this] at o;cases o
  · have⟨V,has,kept⟩:=p;have⟨w,T,Y,Z,⟨l,e,K,L⟩,p7⟩:=hp;dsimp only at w T Y Z e K L p7 ⊢;subst e;have u:i<c k:=by omega
    have a2:i<co k:=by omega
    rw[AL hi,Ai (d:=0) (by rw[GC];exact hi),Kf hi];dsimp only[ob];rw[Cx om];dsimp only[ob];rw[Ai (d:=false) (show i<(kept.set i _).length by rw[ZK];omega)];dsimp only[ob];have X:∀b j,(kept.set i b).getD j false=if j=i then b else kept.getD j false:=λb j=>by
      rw[C1];by_cases q:j=i
      · rw[Zc ⟨q,om⟩,Zc q]
      · rw[Zb (λr=>q r.1),Zb q]
    have a0:=OX (l:=l) K.tr (v:=g3 old k i 0);rw[X,Zc rfl];refine Ok.bind (P:=λq:Wd×Mp Bool=>I1 (i+1) (q.1,q.2,kept.set i (decide (g3 old k i 0>=(fd x k 0).Lo)&&!((AY (some l:Mp Bool) (g3 old k i 0)).getD false)))) (Ok.ite (λF=>?_) λF=>Ok.mk ⟨w,T,?_,?_,?_,?_⟩) λq B=>Ok.mk ⟨QD hi om,B⟩
    · have a3:=F;rw[Zh,Yk,Zk] at F;have N:mget l (g3 old k i 0)=none:=by
        cases B:mget l (g3 old k i 0) with
        | none=>rfl
        | some b=>have:=a0.2 (by rw[B];simp);rw[F.2] at this;cases this
      rw[a3];refine Ok.g1 w g (Ok.g2 w g u (Ok.g3 (f:=0) w g u y (Ok.put (f:=0) w g u y ?_)));show Ok ((some (some (mset l _ true)):Option (Mp Bool)).bind _) _;refine Ok.mk ⟨w.s g u,T.step (w.kp g u y ⟨rfl,rfl⟩),by rw[ZK];exact Y,λj o=>?_,⟨_,rfl,(K.put (v':=λj=>g3 (s3 V k i 0 (g3 old k i 0)) k j 0) (i:=i) N F.1 ?_ λj o=>?_).Xo (λj o t=>?_) λ_=>rfl,λv z=>?_⟩,λa b j o=>?_⟩
      · dsimp only;rw[X,Zb om];exact Z j om
      · rw[w.g3s g u y,Zc ⟨rfl,rfl,rfl⟩]
      · rw[w.g3s g u y,Zb (λq=>o q.2.1)]
      · dsimp only at t;rw[X] at t;by_cases q:j=i
        · exact .inr q
        · rw[Zb q] at t;exact .inl t
      · rw[BO] at z;by_cases q:v=g3 old k i 0
        · exact⟨by rw[q];exact a1 i a2,i,om,q.symm⟩
        · rw[Zb q] at z;have⟨a,j,b,c⟩:=L v z;exact⟨a,j,om,c⟩
      · dsimp only;rw[X,w.g3s g u y];by_cases q:j=i
        · subst q;rw[Zc rfl,Zc ⟨rfl,rfl,rfl⟩];exact⟨rfl,rfl⟩
        · rw[Zb q,Zb (λr=>q r.2.1)];exact p7 a b j om
    · dsimp only;rw[ZK];exact Y
    · intro j o;dsimp only;rw[X,Zb om];exact Z j om
    · refine⟨l,rfl,K.Xo (λj o t=>?_) λ_=>rfl,λv z=>?_⟩
      · dsimp only at t;rw[X,F] at t;by_cases q:j=i
        · rw[Zc q] at t;cases t
        · rw[Zb q] at t;exact t
      · have⟨a,j,b,c⟩:=L v z;exact⟨a,j,om,c⟩
    · intro a b j o;dsimp only;have O:(decide (g3 old k i 0>=(fd x k 0).Lo)&&!((AY (some l:Mp Bool) (g3 old k i 0)).getD false))=true:=by
        rw[Zh,Yk,Zk];refine⟨b.lo i u,?_⟩
        cases B:(AY (some l:Mp Bool) (g3 old k i 0)).getD false with
        | false=>rfl
        | true=>have⟨_,j,o,e⟩:=L _ (a0.1 B);exact (b.ne i j o u e).elim
      rw[O] at F;cases F
  · have⟨V,has,kept⟩:=p;have⟨w,T,Y,Z,⟨l,e,K,L⟩,p7⟩:=hp;dsimp only at w T Y Z e K L p7 ⊢;subst e;apply Ok.g1 w g;rw[w.row k g]
    let I2:Nat->Int×Wd×Mp Bool->Prop:=λi q=>((fd x k 0).Lo<=q.1/\q.1<=S+1+i)/\Sh x.Xa.length c (nf x) q.2.1/\Kp (B8 k (·=0)) W q.2.1/\(∃l,q.2.2=some l/\KeyI (fd x k 0).Lo (c k) (λj=>kept.getD j false=true\/j<i) (λj=>g3 q.2.1 k j 0) l/\∀v,mget l v≠none->v<=S+i)/\∀j,kept.getD j false=true->g3 q.2.1 k j 0=g3 V k j 0
    refine Ok.bind (P:=λU=>∃n l,I2 (c k) (n,U,l)) (Ok.cnt (c k) I2 ⟨⟨Zx _,by dsimp only;omega⟩,w,T,⟨l,rfl,K.Xo (λj o t=>t.resolve_right om) λ_=>rfl,λv z=>by have:=(L v z).1;omega⟩,λ_ _=>rfl⟩ (λi q hi B=>?_) λq B=>by rw[AK];exact Ok.mk ⟨q.1,q.2.2,B⟩) λU hU=>?_
    · have⟨nx,U,m⟩:=q;have⟨q0,E,q2,⟨l,e,q3,q4⟩,q5⟩:=B;dsimp only at q0 E q2 e q3 q4 q5 ⊢;subst e;rw[AL hi];refine Ok.bind (P:=I2 (i+1)) ?_ λq B=>Ok.mk ⟨QD hi om,B⟩;refine Ok.g1 E g (Ok.g2 E g hi ?_);rw[Ai (d:=false) (show i<kept.length by omega)];dsimp only[ob];refine Ok.ite (λI=>Ok.mk ⟨⟨q0.1,by dsimp only;omega⟩,E,q2,⟨l,rfl,q3.Xo (λj o t=>?_) λ_=>rfl,λv z=>by have:=q4 v z;omega⟩,q5⟩) λI=>?_
      · rcases t with t | t
        · exact .inl t
        · by_cases q:j=i
          · rw[q];exact .inl I
          · exact .inr om
      refine Ok.bind (P:=λs:Int=>(fd x k 0).Lo<=s/\s<=S+1+i/\mget l s=none) (Ok.loop (λn s=>(fd x k 0).Lo<=s/\s+n=S+1+i) (S+1+i - nx).toNat ⟨q0.1,om⟩ λn s H=>?_) λs H=>?_
      · refine Ok.ite (λF=>?_) λF=>Ok.mk ?_
        · have:=q4 _ ((OX q3.tr).1 F);rw[w64 (n:=s+1) om om];exact Ok.mk ⟨n - 1,om,om,om⟩
        · refine⟨H.1,om,?_⟩
          cases B:mget l s with
          | none=>rfl
          | some b=>have:=(OX q3.tr (v:=s)).2 (by rw[B];simp);rw[F] at this;cases this
      · refine Ok.g1 E g (Ok.g2 E g hi (Ok.g3 (f:=0) E g hi y (Ok.put (f:=0) E g hi y ?_)));show Ok ((some (some (mset l _ true)):Option (Mp Bool)).bind _) _;refine Ok.mk ⟨⟨H.1,by dsimp only;omega⟩,E.s g hi,q2.step (E.kp g hi y ⟨rfl,rfl⟩),⟨_,rfl,(q3.put (v':=λj=>g3 (s3 U k i 0 s) k j 0) (i:=i) H.2.2 H.1 ?_ λj o=>?_).Xo (λj o t=>?_) λ_=>rfl,λv z=>?_⟩,λj o=>?_⟩
        · rw[E.g3s g hi y,Zc ⟨rfl,rfl,rfl⟩]
        · rw[E.g3s g hi y,Zb (λq=>o q.2.1)]
        · rcases t with t | t
          · exact .inl (.inl t)
          · by_cases q:j=i
            · exact .inr q
            · exact .inl (.inr om)
        · rw[BO] at z;by_cases q:v=s
          · omega
          · rw[Zb q] at z;have:=q4 v z;omega
        · dsimp only;rw[E.g3s g hi y,Zb]
          · exact q5 j o
          · rintro ⟨_,rfl,_⟩;rw[o] at I;cases I
    · have⟨n,m,_,u1,u2,⟨l',e,u3,u4⟩,u5⟩:=hU;refine Ok.mk ⟨U,rfl,u1,u2,⟨λi hi=>(u3.inm i hi (.inr hi)).1,λi j a4 hi=>u3.ne i j a4 hi (.inr om) (.inr hi)⟩,λi hi=>?_,λa b i hi=>?_⟩
      · have:=u4 _ (u3.inm i hi (.inr hi)).2;dsimp only at this;omega
      · have:=p7 a b i om;rw[u5 i this.1,this.2]
def GE (o lo hi:Int):Int:=if o<lo then lo else imin o hi
section
variable (x:Qc) (old:Wd) (co:Nat->Nat) (k i:Nat) (C:List Lz)
def So (vs:Lz) (j:Nat) (v:Int):Prop:=(Ac C vs).2.2=0/\v=if i<co k then GE (g3 old k i ((vals x k).getD j 0)) (Ac C vs).1 (Ac C vs).2.1 else (Ac C vs).1
def rowV (W:Wd):Lz:=(vals x k).map (g3 W k i)
def Ew (W:Wd):Prop:=∀j,j<(vals x k).length->So x old co k i C ((rowV x k i W).take j) j ((rowV x k i W).getD j 0)
end
def OY (b:j<(vals x k).length) (a:i<j):(vals x k).getD i 0≠(vals x k).getD j 0:=by
  have hi:i<(vals x k).length:=by omega
  have d:(vals x k).Pairwise (·< ·):=Pairwise.filter _ pairwise_lt_range;have:=pairwise_iff_getElem.1 d _ _ hi b a;rw[Zg,Zd hi,Zg,Zd b];simp only[ZS];omega
def Kh {W:Wd} (h:∀f,isV x k f=true->g3 V k i f=g3 W k i f):rowV x k i V=rowV x k i W:=by unfold rowV;refine map_congr_left λf hf=>h f ?_;exact (Yn.1 hf).2
def Ew.kp {C:List Lz} {W:Wd} (h:Ew x old co k i C W) (a:Kp A W V) (ha:∀f,isV x k f=true->¬A k i f):Ew x old co k i C V:=by have e:rowV x k i V=rowV x k i W:=Kh λf hf=>a k i f (ha f hf);unfold Ew;rw[e];exact h
def aF {n:Nat} {c d nf:Nat->Nat} {W:Wd} (e:Sh n c nf W) (h:Sh n d nf V) (o:n<=1000) (hc:∀k,k<n->c k<=1000) (hf:∀k,k<n->nf k<=1000):Ok (GF W V) (λ_=>True):=by
  unfold GF;refine Ok.bind (P:=λ_=>True) (Ok.cnt W.length (λ_ _=>True) trivial (λk s m _=>?_) λs _=>by rw[AK];exact Ok.mk trivial) λr _=>Ok.mk trivial;have a:k<n:=by rw[<-e.len];exact m
  have t:=hc k a;rw[AL m];refine Ok.g1 e a (Ok.g1 h a ?_);rw[e.row k a,h.row k a];have hm:imin ((c k:Nat):Int) ((d k:Nat):Int)=((min (c k) (d k):Nat):Int):=by unfold imin;split<;>omega
  rw[hm];refine Ok.bind (P:=λ_=>True) (Ok.cnt (min (c k) (d k)) (λ_ _=>True) trivial (λi s hi _=>?_) λs _=>by rw[AK];exact Ok.mk trivial) λr _=>Ok.mk ⟨QD m (by rw[e.len];omega),trivial⟩;have g:i<c k:=by omega
  have l:i<d k:=by omega
  rw[AL hi];refine Ok.g1 e a (Ok.g2 e a g ?_);rw[e.fld k i a g];have u:=hf k a;refine Ok.bind (P:=λ_=>True) (Ok.cnt (nf k) (λ_ _=>True) trivial (λf s b _=>?_) λs _=>by rw[AK];exact Ok.mk trivial) λr _=>Ok.mk ⟨QD hi om,trivial⟩;rw[AL b];refine Ok.g3 e a g b (Ok.g1 h a (Ok.g2 h a l (Ok.g3 h a l b ?_)));refine Ok.bind (P:=λ_=>True) (Ok.ite (λ_=>Ok.mk trivial) λ_=>Ok.mk trivial) λr _=>Ok.mk ⟨QD b om,trivial⟩
section
variable {q:Lz}
def aG (x:Qc) (co c:Nat->Nat) (old:Wd) (k:Nat) (W:Wd):Prop:=0<c k->(EC ((vals x k).length:Int) (dfS x k)).2=0/\∀i,i<c k->Ew x old co k i (EC ((vals x k).length:Int) (dfS x k)).1 W
def Done (x:Qc) (co c:Nat->Nat) (old:Wd) (k:Nat) (W:Wd):Prop:=Ex x c k W/\aG x co c old k W
def FU {k f:Nat} (h:isV x k f=true):(fd x k f).Xi=2\/(fd x k f).Xi=4:=by unfold isV at h;simpa using h
def aH (h:Old x co old) (hl:q.length=x.Xa.length) (z:CL x q):
    Ok (Qr (λ(b:Int×List (List Lz))=>((if decide (b.1<(q.length:Int)) then (idx q b.1).bind λt37=>(Qr (λ(g:Int×List (List Lz))=>((if decide (g.1<t37) then (idx g.2 b.1).bind λm=>(idx x.Xa b.1).bind λt57=>(mk (t57.Xb.length:Int) (0:Int)).bind λt61=>(rm (m.length+1)).bind λ_=>(setAt g.2 b.1 (m++[t61])).bind λo=>some (.inl (i64.wrap (g.1+(1:Int)),o)) else some (.inr g.2)):Option ((Int×List (List Lz))⊕(List (List Lz))))) ((0:Int),b.2)).bind λ(s:(List (List Lz)))=>some (.inl (i64.wrap (b.1+(1:Int)),s)) else some (.inr b.2)):Option ((Int×List (List Lz))⊕(List (List Lz))))) ((0:Int),replicate q.length ([]:List Lz)))
      (λZ=>Sh x.Xa.length (cN q) (nf x) Z/\∀k i f,g3 Z k i f=0):=by
  have B:=h.kinds;refine (Ok.cnt (Q:=λZ=>RIw x (cN q) (λk r=>r=replicate (nf x k) 0) q.length 0 Z) q.length (λk Z=>RIw x (cN q) (λk r=>r=replicate (nf x k) 0) k 0 Z) (RIw.start hl) (λk Z l a=>?_) λZ a=>by rw[AK];exact Ok.mk a).Xo λZ a=>?_
  · have n:k<x.Xa.length:=by omega
    have u:=Ey z l;have E:=(z.2 k l).2;have w:=h.gx.kd n;rw[AL l,Ai (d:=0) l,u];dsimp only[ob];refine Ok.bind (P:=λZ=>RIw x (cN q) (λk r=>r=replicate (nf x k) 0) k (cN q k) Z) (Ok.cnt (cN q k) (λi Z=>RIw x (cN q) (λk r=>r=replicate (nf x k) 0) k i Z) a (λi Z hi a=>?_) λZ a=>by rw[AK];exact Ok.mk a) λZ a=>Ok.mk ⟨QD l om,a.next⟩;rw[AL hi,show idx Z (k:Int)=some (g1 Z k) from Ai (by rw[a.len];omega),AQ n];dsimp only[ob];rw[Dp _ _ (by unfold nf at w;omega)];dsimp only[ob];apply Ok.rm (by rw[a.at'];omega);rw[Cx (by rw[a.len];omega)];exact Ok.mk ⟨QD hi om,a.add n rfl⟩
  · rw[hl] at a;have t:∀k,k<x.Xa.length->(g1 Z k).length=cN q k:=a.lo;have F:∀k i,k<x.Xa.length->i<cN q k->g2 Z k i=replicate (nf x k) 0:=λk i l hi=>a.good k _ (Dr (by rw[t k l];exact hi));refine⟨⟨a.len,t,λk i l hi=>by rw[F k i l hi,Yr]⟩,λk i f=>?_⟩;have y:g2 Z k i=replicate (nf x k) 0\/g2 Z k i=[]:=by
      by_cases hi:i<(g1 Z k).length
      · exact .inl (a.good k _ (Dr hi))
      · right;unfold g2;rw[Zg,getElem?_eq_none om];rfl
    unfold g3;rcases y with e | e
    · rw[e,Zg,getElem?_replicate];split<;>rfl
    · rw[e];rfl
end

/- Edit: the excess of a flow at the nodes, and sums. No condition. -/
import Derived.Test.YtohojolgolinoaaGreatDoorTyA
set_option linter.all false
open List Go.IntKind
namespace Go.Proofs.YtohojolgolinoaaGreatDoor
open Go.Sim
variable {lo hi:Int} {used:Lz} {j i:Nat} {rest:Lz} {x':Qw} {old:Lz} {mp:Mp Qg} {w g':Nat->Int} {τ:Int->Int}
def one (p:Prop) [Decidable p]:Int:=if p then 1 else 0
theorem Ol (p:Prop) [Decidable p]:0<=one p/\one p<=1:=by unfold one;split<;>omega
theorem S5 (a v:Int):one (a=v)=if v=a then 1 else 0:=by unfold one;split<;>split<;>omega
def ex (v:Int) (e:Qi):Int:=one (e.To=v) - one (e.From=v)
theorem Dx {g:Nat->Int}:∀{n:Nat},(∀i,i<n->g i<=g' i)->psum g n<=psum g' n
  | 0,_=>Zx _
  | n+1,h=>by show psum g n+g n<=psum g' n+g' n;have:=Dx (n:=n) λi hi=>h i om;have:=h n om;omega
theorem GN {g:Nat->Int}:∀{n:Nat} (k:Nat),(∀i,i<n->g i<=g' i)->k<n->g k<g' k->psum g n<psum g' n
  | 0,k,_,hk,_=>absurd hk om
  | n+1,k,h,hk,hl=>by
    show psum g n+g n<psum g' n+g' n;by_cases e:k=n
    · subst e;have:=Dx (n:=k) λi hi=>h i om;omega
    · have:=GN (n:=n) k (λi hi=>h i om) om hl;have:=h n om;omega
theorem DI {g:Nat->Int}:∀{n:Nat},(∀i,i<n->g i=0)->psum g n=0
  | 0,_=>rfl
  | n+1,h=>by show psum g n+g n=0;rw[DI λi hi=>h i om,h n om];rfl
theorem LH {g:Nat->Int}:∀{n:Nat},(∀i,i<n->0<=g i)->0<=psum g n
  | 0,_=>Zx _
  | n+1,h=>by show 0<=psum g n+g n;have:=LH (n:=n) λi hi=>h i om;have:=h n om;omega
theorem Hg (r:Int->Int):∀(n:Nat) (v:Int),psum (λi=>r i * one (v=(i:Int))) n=if 0<=v/\v<n then r v else 0
  | 0,v=>by show (0:Int)=_;rw[Zb om]
  | n+1,v=>by
    show psum (λi=>r i * one (v=(i:Int))) n+r n * one (v=(n:Int))=_;rw[Hg r n v];unfold one;by_cases e:v=(n:Int)
    · subst e;rw[Zb om,Zc rfl,Zc om];omega
    · rw[Zb e];by_cases h:0<=v/\v<(n:Int)
      · rw[Zc h,Zc om];omega
      · rw[Zb h,Zb om];omega
theorem EO {g h:Nat->Int}:∀{n:Nat},psum (λi=>g i - h i) n=psum g n - psum h n
  | 0=>rfl
  | n+1=>by show psum (λi=>g i - h i) n+(g n - h n)=psum g n+g n - (psum h n+ h n);rw[EO];omega
theorem Om (r:Int->Int) {n:Nat} {e:Qi} (h:Hh n e):psum (λi=>r i * ex i e) n=r e.To - r e.From:=by
  have:psum (λi=>r i * ex i e) n=psum (λi=>r i * one (e.To=(i:Int)) - r i * one (e.From=(i:Int))) n:=Bt λi _=>by unfold ex;rw[Int.mul_sub]
  rw[this,EO,Hg,Hg,Zc ⟨h.t0,h.t1⟩,Zc ⟨h.f0,h.f1⟩]
theorem Im {a b:Qi->Int}:∀{l:List Qi} {f:Lz},(∀e∈l,a e=b e)->lin a l f=lin b l f
  | [],_,_=>rfl
  | _::_,[],_=>rfl
  | e::l,y::f,h=>by show a e * y+lin a l f=b e * y+lin b l f;rw[h e sm,Im λe c=>h e (by simp[c])]
theorem On:∀{l:List Qi} {f:Lz},lin (λ_=>0) l f=0
  | [],_=>rfl
  | _::_,[]=>rfl
  | e::l,y::f=>by show 0 * y+lin (λ_=>0) l f=0;rw[On];omega
theorem Oo (a b:Qi->Int):∀(l:List Qi) (f:Lz),lin (λe=>a e+b e) l f=lin a l f+lin b l f
  | [],_=>rfl
  | _::_,[]=>rfl
  | e::l,y::f=>by show (a e+b e) * y+lin (λe=>a e+b e) l f=a e * y+lin a l f+(b e * y+lin b l f);rw[Oo a b l f,Int.add_mul];omega
theorem Ot (c:Int) (a:Qi->Int):∀(l:List Qi) (f:Lz),lin (λe=>c * a e) l f=c * lin a l f
  | [],_=>by show (0:Int)=c * 0;omega
  | _::_,[]=>by show (0:Int)=c * 0;omega
  | e::l,y::f=>by show c * a e * y+lin (λe=>c * a e) l f=c * (a e * y+lin a l f);rw[Ot c a l f,Int.mul_add,Int.mul_assoc]
theorem LJ (r:Nat->Int) (a:Nat->Qi->Int) (l:List Qi) (f:Lz):∀n,psum (λi=>r i * lin (a i) l f) n=lin (λe=>psum (λi=>r i * a i e) n) l f
  | 0=>On.symm
  | n+1=>by show psum (λi=>r i * lin (a i) l f) n+r n * lin (a n) l f=lin (λe=>psum (λi=>r i * a i e) n+r n * a n e) l f;rw[Oo,LJ r a l f n,Ot]
theorem LK (c:Qi->Int):∀{l:List Qi} {f g:Lz},f.length=l.length->g.length=l.length->(∀(k:Nat) e y z,l[k]?=some e->f[k]?=some y->g[k]?=some z->c e * y<=c e * z)->lin c l f<=lin c l g
  | [],_,_,_,_,_=>by simp[lin]
  | e::l,[],_,h,_,_=>by simp at h
  | e::l,_::_,[],_,h,_=>by simp at h
  | e::l,y::f,z::g,h1,h2,h=>by show c e * y+lin c l f<=c e * z+lin c l g;have a:=h 0 e y z rfl rfl rfl;have b:=LK c (l:=l) (f:=f) (g:=g) (sa h1) (sa h2) λk e y z d m n=>h (k+1) e y z (sa d) (sa m) (sa n);omega
theorem S6 (c:Qi->Int):∀{l:List Qi} {f g:Lz},f.length=l.length->g.length=l.length->(∀(k:Nat) e y z,l[k]?=some e->f[k]?=some y->g[k]?=some z->c e * y<=c e * z)->lin c l f=lin c l g->∀(k:Nat) e y z,l[k]?=some e->f[k]?=some y->g[k]?=some z->c e * y=c e * z
  | [],_,_,_,_,_,_,k,e,y,z,h,_,_=>by simp at h
  | e::l,[],_,h,_,_,_,_,_,_,_,_,_,_=>by simp at h
  | e::l,_::_,[],_,h,_,_,_,_,_,_,_,_,_=>by simp at h
  | e::l,y::f,z::g,h1,h2,h,o,k,e',y',z',d,m,n=>by
    have o:c e * y+lin c l f=c e * z+lin c l g:=o;have a:=h 0 e y z rfl rfl rfl;have p:∀(k:Nat) e y z,l[k]?=some e->f[k]?=some y->g[k]?=some z->c e * y<=c e * z:=λk e y z d m n=>h (k+1) e y z (sa d) (sa m) (sa n);have b:=LK c (l:=l) (f:=f) (g:=g) (sa h1) (sa h2) p
    cases k with
    | zero=>simp at d m n;subst d;subst m;subst n;omega
    | succ k=>exact S6 c (sa h1) (sa h2) p om k e' y' z' (sa d) (sa m) (sa n)
theorem Hj (c:Qi->Int):∀{l:List Qi} {f:Lz} {k:Nat} {e:Qi} {y:Int},l[k]?=some e->f[k]?=some y->lin c (l.take (k+1)) (f.take (k+1))=lin c (l.take k) (f.take k)+c e * y
  | [],_,_,_,_,h,_=>by simp at h
  | _::_,[],_,_,_,_,h=>by simp at h
  | a::l,b::f,0,e,y,h1,h2=>by simp at h1 h2;subst h1;subst h2;simp[lin]
  | a::l,b::f,k+1,e,y,h1,h2=>by simp only[getElem?_cons_succ] at h1 h2;have:=Hj c h1 h2;simp only[take_succ_cons,lin];rw[this];omega
theorem bW {x:Qw} (hx:Bh x):Ok (LL x) (λE=>(E.length:Int)=x.n/\∀v,0<=v->v<x.n->lv E v=lin (ex v) x.l x.flow/\-1000000<=lv E v/\lv E v<=1000000):=by
  have m:=hx.n0;have t:=hx.n1;have hl:=hx.l1;unfold LL;apply Ok.mk' m om;refine Ok.bind (P:=λE=>(E.length:Int)=x.n/\∀v,0<=v->v<x.n->lv E v=lin (ex v) x.l x.flow/\-1000000<=lv E v/\lv E v<=1000000) (Ok.loop (λg s=>∃k:Nat,s.1=k/\k+g=x.l.length/\(s.2.length:Int)=x.n/\∀v,0<=v->v<x.n->lv s.2 v=lin (ex v) (x.l.take k) (x.flow.take k)/\-1000 * k<=lv s.2 v/\lv s.2 v<=1000 * k) x.l.length ⟨0,rfl,om,so,λv v0 v1=>?_⟩ λg s z=>?_) λr A=>Ok.mk A
  · have:lv (replicate x.n.toNat 0) v=0:=by
      unfold lv;rw[getElem?_replicate];split<;>rfl
    dsimp only;rw[this];exact⟨rfl,om,om⟩
  · have⟨k,o,D,p,d⟩:=z;have⟨F,E⟩:=s;dsimp only at o p d ⊢;subst o;refine Ok.ite (λc=>?_) (λc=>?_)
    · have c:(k:Int)<x.l.length:=Zt c;refine Ok.idx om c λe H a=>?_;have a:x.l[k]?=some e:=by simpa using a
      have⟨y,hy,I,K,b,_,hf⟩:=Ou hx a;have t0:=b.t0;have t1:=b.t1;have f0:=b.f0;have f1:=b.f1;have e0:=b.lo;have e1:=b.hi;have hne:=b.ne;apply Ok.lv t0 om;have n:idx x.flow (k:Int)=some y:=by rw[BN,hy]
      rw[n];simp only[Za];have L:=(d e.To t0 t1).2;have M:=(d e.From f0 f1).2;rw[w64 om om];apply Ok.setAt t0 om;apply Ok.lv f0 (by rw[ZK];omega);rw[EP t0 om _ f0,Zb hne,w64 om om];refine Ok.setAt f0 (by rw[ZK];omega) (Ok.mk ⟨g - 1,om,k+1,by rw[w64 om om];rfl,om,by rw[ZK,ZK];omega,λv v0 v1=>?_⟩);rw[Hj (ex v) a hy,EP f0 (by rw[ZK];omega) _ v0,EP t0 om _ v0];have⟨l,B,C⟩:=d v v0 v1;rw[<-l];unfold ex;rw[S5,S5];by_cases f:v=e.From
      · have h:¬v=e.To:=λq=>hne (f.symm.trans q);simp only[Zc f,Zb h];rw[<-f];omega
      · by_cases h:v=e.To
        · simp only[Zb f,Zc h];rw[<-h];omega
        · simp only[Zb f,Zb h];omega
    · have c:¬(k:Int)<x.l.length:=Zy c;have:k=x.l.length:=by omega
      subst this;refine Ok.mk ⟨p,λv v0 v1=>?_⟩;have⟨l,B,C⟩:=d v v0 v1;rw[Zw (Zq _),Zw (by rw[hx.flow.1];exact Zq _)] at l;exact⟨l,om,om⟩
theorem GO {g h:Nat->Int}:∀{n:Nat},psum (λi=>g i+ h i) n=psum g n+psum h n
  | 0=>rfl
  | n+1=>by show psum (λi=>g i+ h i) n+(g n+ h n)=psum g n+g n+(psum h n+ h n);rw[GO];omega
def up (g:Nat->Int) (j:Nat) (d:Int):Nat->Int:=λi=>if i=j then g i+d else g i
theorem Bu (g:Nat->Int) (j:Nat) (d:Int):up g j d j=g j+d:=Zc rfl
theorem CA (g:Nat->Int) (d:Int) (h:i≠j):up g j d i=g i:=Zb h
theorem Fc (g:Nat->Int) (j:Nat) (d:Int):∀n,psum (up g j d) n=psum g n+if j<n then d else 0
  | 0=>by rw[Zb om];rfl
  | n+1=>by
    show psum (up g j d) n+up g j d n=psum g n+g n+_;rw[Fc g j d n];by_cases e:n=j
    · subst e;rw[Bu,Zb om,Zc om];omega
    · rw[CA g d e];by_cases h:j<n
      · rw[Zc h,Zc om];omega
      · rw[Zb h,Zb om];omega
theorem Io (l h:Nat->Int):∀(n:Nat) (s:Int),(∀j,j<n->l j<=h j)->psum l n<=s->s<=psum h n->∃t:Nat->Int,(∀j,j<n->l j<=t j/\t j<=h j)/\psum t n=s
  | 0,s,_,a,b=>⟨λ_=>0,λj c=>absurd c om,by have a:(0:Int)<=s:=a;have b:s<=(0:Int):=b;show (0:Int)=s;omega⟩
  | n+1,s,hlh,a,b=>by
    have a:psum l n+l n<=s:=a;have b:s<=psum h n+ h n:=b;have f:=hlh n om;have d:psum l n<=psum h n:=Dx λj c=>hlh j om
    -- the last one takes what the others cannot
    let y:Int:=max (l n) (s - psum h n)
    have⟨t,t1,t2⟩:=Io l h n (s - y) (λj c=>hlh j om) (by show psum l n<=s - max (l n) (s - psum h n);omega) (by show s - max (l n) (s - psum h n)<=psum h n;omega);refine⟨λj=>if j=n then y else t j,λj c=>?_,?_⟩
    · by_cases e:j=n
      · subst e;dsimp only;rw[Zc rfl];show l j<=max (l j) (s - psum h j)/\max (l j) (s - psum h j)<=h j;omega
      · dsimp only;rw[Zb e];exact t1 j om
    · have:psum (λj=>if j=n then y else t j) n=psum t n:=Bt λj c=>Zb om;show psum (λj=>if j=n then y else t j) n+(if n=n then y else t n)=s;rw[this,Zc rfl,t2];omega
section
variable (lo hi:Int)
def lowP (u:Int):Int:=max 0 (lo - u)
def aP (k u:Int):Int:=max (lowP lo u) (min k (hi - u))
structure Fits (to:Nat) (u:Nat->Int) (left:Int) (t:Nat->Int):Prop where
  bd:∀j,j<to->lowP lo (u j)<=t j/\t j<=hi - u j
  sum:psum t to=left
def valP (to:Nat) (k t:Nat->Int):Int:=psum (λj=>min (k j) (t j)) to
def Am (to:Nat) (k u:Nat->Int) (left:Int):Int:=
  if psum (λj=>aP lo hi (k j) (u j)) to - left>psum (λj=>aP lo hi (k j) (u j) - lowP lo (u j)) to\/left - psum (λj=>aP lo hi (k j) (u j)) to>psum (λj=>hi - u j - aP lo hi (k j) (u j)) to then -1
  else psum (λj=>min (k j) (aP lo hi (k j) (u j))) to - max 0 (psum (λj=>aP lo hi (k j) (u j)) to - left)
variable {lo hi} {to:Nat} {k u:Nat->Int} {left:Int}
theorem GP {t:Nat->Int} (ht:Fits lo hi to u left t):valP to k t<=Am lo hi to k u left/\
    ¬(psum (λj=>aP lo hi (k j) (u j)) to - left>psum (λj=>aP lo hi (k j) (u j) - lowP lo (u j)) to\/left - psum (λj=>aP lo hi (k j) (u j)) to>psum (λj=>hi - u j - aP lo hi (k j) (u j)) to):=by
  have c:psum (λj=>lowP lo (u j)) to<=psum t to:=Dx λj a=>(ht.bd j a).1;have d:psum t to<=psum (λj=>hi - u j) to:=Dx λj a=>(ht.bd j a).2;rw[ht.sum] at c d;have b:¬(psum (λj=>aP lo hi (k j) (u j)) to - left>psum (λj=>aP lo hi (k j) (u j) - lowP lo (u j)) to\/left - psum (λj=>aP lo hi (k j) (u j)) to>psum (λj=>hi - u j - aP lo hi (k j) (u j)) to):=by rw[EO (g:=λj=>aP lo hi (k j) (u j)) (h:=λj=>lowP lo (u j)),EO (g:=λj=>hi - u j) (h:=λj=>aP lo hi (k j) (u j))];omega
  refine⟨?_,b⟩;unfold Am;rw[Zb b];have g1:valP to k t<=psum (λj=>min (k j) (aP lo hi (k j) (u j))) to:=Dx λj a=>by have:=ht.bd j a;unfold aP;omega
  have g2:valP to k t<=psum (λj=>min (k j) (aP lo hi (k j) (u j))+(t j - aP lo hi (k j) (u j))) to:=Dx λj a=>by have:=ht.bd j a;unfold aP;omega
  rw[GO,EO (g:=t),ht.sum] at g2;omega
theorem LM (e:lo<=hi) (hu:∀j,j<to->u j<=hi) (h:0<=Am lo hi to k u left):∃t,Fits lo hi to u left t/\valP to k t=Am lo hi to k u left:=by
  unfold Am at h ⊢;by_cases b:psum (λj=>aP lo hi (k j) (u j)) to - left>psum (λj=>aP lo hi (k j) (u j) - lowP lo (u j)) to\/left - psum (λj=>aP lo hi (k j) (u j)) to>psum (λj=>hi - u j - aP lo hi (k j) (u j)) to
  · rw[Zc b] at h;omega
  · rw[Zb b] at h ⊢;have ha:∀j,j<to->lowP lo (u j)<=aP lo hi (k j) (u j)/\aP lo hi (k j) (u j)<=hi - u j:=λj a=>by
      have:=hu j a;unfold aP lowP;omega
    rw[EO (g:=λj=>aP lo hi (k j) (u j)) (h:=λj=>lowP lo (u j)),EO (g:=λj=>hi - u j) (h:=λj=>aP lo hi (k j) (u j))] at b;by_cases hl:psum (λj=>aP lo hi (k j) (u j)) to<=left
    · have⟨t,t1,t2⟩:=Io (λj=>aP lo hi (k j) (u j)) (λj=>hi - u j) to left (λj a=>(ha j a).2) hl om;refine⟨t,⟨λj a=>⟨Int.le_trans (ha j a).1 (t1 j a).1,(t1 j a).2⟩,t2⟩,?_⟩;have:valP to k t=psum (λj=>min (k j) (aP lo hi (k j) (u j))) to:=Bt λj a=>by
        have c:=t1 j a;have d:=ha j a;unfold aP at c d ⊢;omega
      rw[this];omega
    · have⟨t,t1,t2⟩:=Io (λj=>lowP lo (u j)) (λj=>aP lo hi (k j) (u j)) to left (λj a=>(ha j a).1) om om;refine⟨t,⟨λj a=>⟨(t1 j a).1,Int.le_trans (t1 j a).2 (ha j a).2⟩,t2⟩,?_⟩;have:valP to k t=psum (λj=>min (k j) (aP lo hi (k j) (u j))+(t j - aP lo hi (k j) (u j))) to:=Bt λj a=>by
        have c:=t1 j a;have d:=ha j a;unfold aP at c d ⊢;omega
      rw[this,GO,EO (g:=t),t2];omega
theorem Ov (b:lo<=hi) (hu:∀j,j<to->u j<=hi) (c:∀j,j<to->0<=k j) {t:Nat->Int} (ht:Fits lo hi to u left t):0<=Am lo hi to k u left:=by
  have h:=(GP (k:=k) ht).1;have:0<=valP to k t:=LH λj a=>by have:=(ht.bd j a).1;have:=c j a;unfold lowP at *;omega
  omega
theorem bX (b:lo<=hi) (hu:∀j,j<to->u j<=hi) (m:∀j,j<to->0<=k j) {c:Nat} (hc:c<to) (n:1<=k c) (o:u c<hi) {t:Nat->Int} (ht:Fits lo hi to u left t) (r:valP to k t=Am lo hi to k u left) (p:1<=t c):
    Am lo hi to (up k c (-1)) (up u c 1) (left - 1)+1=Am lo hi to k u left/\0<=Am lo hi to (up k c (-1)) (up u c 1) (left - 1):=by
  have d:∀j,j<to->up u c 1 j<=hi:=λj a=>by
    by_cases e:j=c
    · subst e;rw[Bu];omega
    · rw[CA _ _ e];exact hu j a
  have g:∀j,j<to->0<=up k c (-1) j:=λj a=>by
    by_cases e:j=c
    · subst e;rw[Bu];omega
    · rw[CA _ _ e];exact m j a
  have f:Fits lo hi to (up u c 1) (left - 1) (up t c (-1)):=⟨λj a=>by
    have:=ht.bd j a;unfold lowP at *;by_cases e:j=c
    · subst e;rw[Bu,Bu];omega
    · rw[CA _ _ e,CA _ _ e];omega,by rw[Fc,Zc hc,ht.sum];omega⟩
  have v1:valP to (up k c (-1)) (up t c (-1))=valP to k t - 1:=by
    have:psum (λj=>min (up k c (-1) j) (up t c (-1) j)) to=psum (up (λj=>min (k j) (t j)) c (-1)) to:=Bt λj _=>by
      by_cases e:j=c
      · subst e;rw[Bu,Bu,Bu];omega
      · rw[CA _ _ e,CA _ _ e,CA _ _ e]
    unfold valP;rw[this,Fc,Zc hc];omega
  have v:=(GP (k:=up k c (-1)) f).1;have h:=Ov b d g f;have⟨s,l,x⟩:=LM b d h;have q:Fits lo hi to u left (up s c 1):=⟨λj a=>by
    have:=l.bd j a;unfold lowP at *;by_cases e:j=c
    · subst e;rw[Bu] at this ⊢;omega
    · rw[CA _ _ e] at this ⊢;omega,by rw[Fc,Zc hc,l.sum];omega⟩
  have v2:valP to k (up s c 1)=valP to (up k c (-1)) s+1:=by
    have:psum (λj=>min (k j) (up s c 1 j)) to=psum (up (λj=>min (up k c (-1) j) (s j)) c 1) to:=Bt λj _=>by
      by_cases e:j=c
      · subst e;rw[Bu,Bu,Bu];omega
      · rw[CA _ _ e,CA _ _ e,CA _ _ e]
    unfold valP;rw[this,Fc,Zc hc]
  have y:=(GP (k:=k) q).1;exact⟨om,h⟩
theorem bY (f:lo<=hi) (hu:∀j,j<to->u j<=hi) {b:Nat->Int} (m:∀j,j<to->0<=b j) {c:Nat} (hc:c<to) (o:u c<hi) {t:Nat->Int} (ht:Fits lo hi to u left t) (z:valP to k t=Am lo hi to k u left) (p:k c<t c) (d:∀j,j<to->b j<=k j) (g:∀j,j<to->b j<k j->t j=0/\j≠c):
    Am lo hi to b (up u c 1) (left - 1)=Am lo hi to k u left:=by
  have h:∀j,j<to->up u c 1 j<=hi:=λj a=>by
    by_cases e:j=c
    · subst e;rw[Bu];omega
    · rw[CA _ _ e];exact hu j a
  have kc:b c=k c:=by
    have:=d c hc;by_cases e:b c<k c
    · exact absurd rfl (g c hc e).2
    · omega
  have A:=m c hc;have l:Fits lo hi to (up u c 1) (left - 1) (up t c (-1)):=⟨λj a=>by
    have:=ht.bd j a;unfold lowP at *;by_cases e:j=c
    · subst e;rw[Bu,Bu];omega
    · rw[CA _ _ e,CA _ _ e];omega,by rw[Fc,Zc hc,ht.sum];omega⟩
  have v1:valP to b (up t c (-1))=valP to k t:=Bt λj a=>by
    have r:=ht.bd j a;have B:=m j a;have v:=d j a;unfold lowP at r;by_cases e:j=c
    · subst e;rw[Bu];omega
    · rw[CA _ _ e];by_cases q:b j<k j
      · have:=(g j a q).1;omega
      · omega
  have C:=(GP (k:=b) l).1;have x:=Ov f h m l;have⟨s,n,D⟩:=LM f h x;have y:Fits lo hi to u left (up s c 1):=⟨λj a=>by
    have:=n.bd j a;unfold lowP at *;by_cases e:j=c
    · subst e;rw[Bu] at this ⊢;omega
    · rw[CA _ _ e] at this ⊢;omega,by rw[Fc,Zc hc,n.sum];omega⟩
  have v2:valP to b s<=valP to k (up s c 1):=Dx λj a=>by
    have v:=d j a;by_cases e:j=c
    · subst e;rw[Bu];omega
    · rw[CA _ _ e];omega
  have E:=(GP (k:=k) y).1;omega
end
theorem Ow (a b:Int):imax a b=max a b:=by unfold imax;split<;>omega
theorem LN (a b:Int):imin a b=min a b:=by unfold imin;split<;>omega
def kc (l:Lz) (j:Nat):Int:=(l.count (j:Int):Int)
def uf (l:Lz) (j:Nat):Int:=lv l (j:Int)
theorem CP (l:Lz) (j:Nat):0<=kc l j/\kc l j<=l.length:=by unfold kc;have:=count_le_length (a:=(j:Int)) (l:=l);omega
structure Di (used:Lz) (lo hi:Int):Prop where
  len:used.length<=62
  bd:∀u∈used,0<=u/\u<=600/\0<=lo/\lo<=600/\0<=hi/\hi<=600
theorem Di.at (h:Di used lo hi) (a:j<used.length):used[j]?=some (uf used j)/\0<=uf used j/\uf used j<=600/\0<=lo/\lo<=600/\0<=hi/\hi<=600:=by
  have e:uf used j=used[j]:=by unfold uf lv;rw[Zu,Zd a];rfl
  rw[e];exact⟨Zd a,h.bd _ (Zr a)⟩
section
variable (lo hi:Int) (k u:Nat->Int)
def sA (j:Nat):Int:=psum (λj=>aP lo hi (k j) (u j)) j
def sK (j:Nat):Int:=psum (λj=>min (k j) (aP lo hi (k j) (u j))) j
def sD (j:Nat):Int:=psum (λj=>aP lo hi (k j) (u j) - lowP lo (u j)) j
def sU (j:Nat):Int:=psum (λj=>hi - u j - aP lo hi (k j) (u j)) j
end
theorem LO (h:Di used lo hi) {k:Nat->Int} (a:∀j,0<=k j/\k j<=600):∀j,j<=used.length->
    (-1000 * (j:Int)<=sA lo hi k (uf used) j/\sA lo hi k (uf used) j<=1000 * j)/\(-1000 * (j:Int)<=sK lo hi k (uf used) j/\sK lo hi k (uf used) j<=1000 * j)/\(-2000 * (j:Int)<=sD lo hi k (uf used) j/\sD lo hi k (uf used) j<=2000 * j)/\(-2000 * (j:Int)<=sU lo hi k (uf used) j/\sU lo hi k (uf used) j<=2000 * j)
  | 0,_=>by refine⟨⟨?_,?_⟩,⟨?_,?_⟩,⟨?_,?_⟩,?_,?_⟩<;>exact Zx 0
  | j+1,hj=>by
    have⟨⟨a1,a2⟩,⟨a3,a4⟩,⟨a5,a6⟩,a7,a8⟩:=LO h a j om;have⟨_,e,f,g,l,m,n⟩:=h.at (j:=j) om;have c:=a j;have e1:sA lo hi k (uf used) (j+1)=sA lo hi k (uf used) j+aP lo hi (k j) (uf used j):=rfl;have e2:sK lo hi k (uf used) (j+1)=sK lo hi k (uf used) j+min (k j) (aP lo hi (k j) (uf used j)):=rfl;have b:sD lo hi k (uf used) (j+1)=sD lo hi k (uf used) j+(aP lo hi (k j) (uf used j) - lowP lo (uf used j)):=rfl;have d:sU lo hi k (uf used) (j+1)=sU lo hi k (uf used) j+(hi - uf used j - aP lo hi (k j) (uf used j)):=rfl;rw[e1,e2,b,d];unfold aP lowP
    push_cast
    refine⟨⟨?_,?_⟩,⟨?_,?_⟩,⟨?_,?_⟩,?_,?_⟩<;>omega
theorem bZ (h:Di used lo hi) {k:Nat->Int} (c:∀j,0<=k j/\k j<=600) {left:Int} (hl:0<=left/\left<=600) {A K U D:Int} (hA:A=sA lo hi k (uf used) used.length) (a:K=sK lo hi k (uf used) used.length) (hU:U=sU lo hi k (uf used) used.length) (b:D=sD lo hi k (uf used) used.length):
    (if (decide ((i64.wrap (A - left))>D))||(decide ((i64.wrap (left - A))>U)) then some (-1:Int) else some (i64.wrap (K - (imax (0:Int) (i64.wrap (A - left))))))=some (Am lo hi used.length k (uf used) left):=by
  have⟨⟨a1,a2⟩,⟨a3,a4⟩,⟨a5,a6⟩,a7,a8⟩:=LO h c used.length (Zq _);have:=h.len;rw[w64 (n:=A - left) om om,w64 (n:=left - A) om om,Ow,w64 om om];unfold Am;unfold sA at hA;unfold sK at a;unfold sU at hU;unfold sD at b;rw[<-hA,<-a,<-hU,<-b];by_cases hc:A - left>D\/left - A>U
  · rw[Zc (sa hc),Zc hc]
  · rw[Zb (sa hc),Zb hc]
theorem S7 (h:Di used lo hi) (ho:old.length<=600) (L:i<=old.length):E5 ⟨old,used,lo,hi⟩ (i:Int)=some (Am lo hi used.length (kc (old.drop i)) (uf used) ((old.drop i).length:Int)):=by
  have hlen:=h.len;have M:(old.drop i).length=old.length - i:=Yi;have C:∀j,0<=kc (old.drop i) j/\kc (old.drop i) j<=600:=λj=>by have:=CP (old.drop i) j;omega
  have key:Ok (E5 ⟨old,used,lo,hi⟩ (i:Int)) (λr=>r=Am lo hi used.length (kc (old.drop i)) (uf used) ((old.drop i).length:Int)):=by
    unfold E5;dsimp only;apply Ok.mk' om om;have N:sub old (i:Int) (old.length:Int)=some (old.drop i):=by unfold sub;rw[Zc ⟨om,om,Zx _⟩];simp only[Zu];exact ZU some (Zw om)
    rw[N];simp only[Za];generalize E:old.drop i=rest at *;refine Ok.bind (P:=λc=>c.length=used.length/\∀j,j<used.length->uf c j=kc rest j) (Ok.loop (λg s=>∃q:Nat,s.1=q/\q+g=rest.length/\s.2.length=used.length/\∀j,j<used.length->uf s.2 j=kc (rest.take q) j) rest.length ⟨0,rfl,om,sm,λj a=>?_⟩ λg s F=>?_) λc hc=>?_
    · show uf (replicate _ 0) j=0;unfold uf lv;rw[getElem?_replicate];split<;>rfl
    · have⟨q,x,O,m,d⟩:=F;have⟨sq,c⟩:=s;dsimp only at x m d ⊢;subst x;refine Ok.ite (λt=>?_) (λt=>?_)
      · have t:(q:Int)<rest.length:=Zt t;refine Ok.idx om t λv hv f=>?_;have f:rest[q]?=some v:=by simpa using f
        have y:q<rest.length:=by omega
        have e1:rest.take (q+1)=rest.take q++[v]:=by rw[Zz y];rw[Zd y] at f;rw[Zn f]
        have e2:∀j,kc (rest.take (q+1)) j=kc (rest.take q) j+one (v=(j:Int)):=λj=>by
          unfold kc one;rw[e1,count_append,count_singleton];by_cases e:v=(j:Int)
          · rw[Zc (sa e),Zc e];rfl
          · rw[Zb (sa e),Zb e];omega
        refine Ok.bind (P:=λc=>c.length=used.length/\∀j,j<used.length->uf c j=kc (rest.take (q+1)) j) (Ok.ite (λz=>?_) (λz=>?_)) λc' B=>Ok.mk ⟨g - 1,om,q+1,by rw[w64 om om];rfl,om,B.1,B.2⟩
        · simp only[Zh,Zk] at z;have⟨v0,v1⟩:=z;refine Ok.lv v0 v1 (Ok.setAt v0 v1 (Ok.mk ⟨by rw[ZK];exact m,λj a=>?_⟩));have b:=CP (rest.take q) v.toNat;have Q:=ZY (i:=q) (l:=rest);have o:=d v.toNat om;unfold uf at o;have R:((v.toNat:Nat):Int)=v:=by omega
          rw[R] at o;show lv (c.set v.toNat _) (j:Int)=_;rw[EP v0 v1 _ om,e2,w64 om om];unfold one;by_cases e:(j:Int)=v
          · have:j=v.toNat:=by omega
            subst this;rw[Zc e,Zc e.symm,o]
          · rw[Zb e,Zb (λq=>e q.symm)];have:=d j a;unfold uf at this;omega
        · refine Ok.mk ⟨m,λj a=>?_⟩;rw[e2,d j a];unfold one;rw[Zb]
          · omega
          · intro e;subst e;have:(decide ((j:Int)>=0)&&decide ((j:Int)<(c.length:Int)))=true:=by
              rw[decide_eq_true om,decide_eq_true om];rfl
            rw[this] at z;cases z
      · have t:¬(q:Int)<rest.length:=Zy t;have:q=rest.length:=by omega
        subst this;refine Ok.mk ⟨m,λj a=>?_⟩;rw[d j a,Zw (Zq _)]
    · have⟨c1,S⟩:=hc;have C:∀j,0<=kc rest j/\kc rest j<=600:=λj=>by have:=CP rest j;omega
      refine Ok.bind (P:=λp=>p.1=sA lo hi (kc rest) (uf used) used.length/\p.2.1=sK lo hi (kc rest) (uf used) used.length/\p.2.2.1=sU lo hi (kc rest) (uf used) used.length/\p.2.2.2=sD lo hi (kc rest) (uf used) used.length) (Ok.loop (λg s=>∃j:Nat,s.1=j/\j+g=used.length/\s.2.1=sA lo hi (kc rest) (uf used) j/\s.2.2.1=sK lo hi (kc rest) (uf used) j/\s.2.2.2.1=sU lo hi (kc rest) (uf used) j/\s.2.2.2.2=sD lo hi (kc rest) (uf used) j) used.length ⟨0,rfl,om,rfl,rfl,rfl,rfl⟩ λg s F=>?_) λp hp=>?_
      · have⟨j,x,O,m,d,H,I⟩:=F;have⟨sj,A,K,U,D⟩:=s;dsimp only at x m d H I ⊢;subst x;refine Ok.ite (λa=>?_) (λa=>?_)
        · have a:(j:Int)<c.length:=Zt a;have⟨e,b1,b2,b3,b4,b5,b6⟩:=h.at (j:=j) om;have⟨⟨a1,a2⟩,⟨a3,a4⟩,⟨a5,a6⟩,a7,a8⟩:=LO h C j om;have cc:=C j;have T:idx used (j:Int)=some (uf used j):=by rw[BN,e]
          have V:idx c (j:Int)=some (kc rest j):=by rw[LP om a];exact ZU some (S j om)
          rw[V];simp only[Za];rw[T];simp only[Za];rw[Ow,Ow,LN,LN,w64 (n:=lo - uf used j) om om,w64 (n:=hi - uf used j) om om];have W:max (max 0 (lo - uf used j)) (min (kc rest j) (hi - uf used j))=aP lo hi (kc rest j) (uf used j):=rfl;have X:max 0 (lo - uf used j)=lowP lo (uf used j):=rfl;rw[W,X];have q1:-1000<=aP lo hi (kc rest j) (uf used j)/\aP lo hi (kc rest j) (uf used j)<=1000:=by unfold aP lowP;omega
          have q2:0<=lowP lo (uf used j)/\lowP lo (uf used j)<=1000:=by unfold lowP;omega
          refine Ok.mk ⟨g - 1,om,j+1,by rw[w64 om om];rfl,om,?_,?_,?_,?_⟩
          · dsimp only;rw[w64 (n:=A+_) om om,m];rfl
          · dsimp only;rw[w64 (n:=K+_) om om,d];rfl
          · dsimp only;rw[w64 (n:=U+_) om om,w64 om om,H];show _=sU lo hi (kc rest) (uf used) j+(hi - uf used j - aP lo hi (kc rest j) (uf used j));omega
          · dsimp only;rw[w64 (n:=D+_) om om,w64 om om,I];show _=sD lo hi (kc rest) (uf used) j+(aP lo hi (kc rest j) (uf used j) - lowP lo (uf used j));omega
        · have a:¬(j:Int)<c.length:=Zy a;have:j=used.length:=by omega
          subst this;exact Ok.mk ⟨m,d,H,I⟩
      · have⟨Y,Z,p3,p4⟩:=hp;have ew:i64.wrap ((old.length:Int) - (i:Int))=(rest.length:Int):=by rw[w64 om om];omega
        rw[ew,bZ h C (left:=rest.length) om Y Z p3 p4];exact Ok.mk rfl
  obtain⟨r,hr,rfl⟩:=key;exact hr
def seek (p:Nat->Bool):Nat->Nat->Option Nat
  | _,0=>none
  | j,g+1=>if p j=true then some j else seek p (j+1) g
theorem Ox {p:Nat->Bool}:∀{j g r:Nat},seek p j g=some r->j<=r/\r<j+g/\p r=true
  | _,0,_,h=>by cases h
  | j,g+1,r,h=>by
    unfold seek at h;by_cases e:p j=true
    · rw[Zc e] at h;obtain rfl:=Zn h;exact⟨Zq _,om,e⟩
    · rw[Zb e] at h;have⟨a,b,c⟩:=Ox h;exact⟨om,om,c⟩
theorem S8 {p:Nat->Bool}:∀{j g:Nat},seek p j g=none->∀r,j<=r->r<j+g->p r=false
  | _,0,_,r,h1,h2=>absurd h2 om
  | j,g+1,h,r,h1,h2=>by
    unfold seek at h;by_cases e:p j=true
    · rw[Zc e] at h;cases h
    · rw[Zb e] at h;by_cases q:r=j
      · subst q;simpa using e
      · exact S8 h r om om
section
variable (lo hi:Int)
def ER (rest:Lz) (c:Int) (used:Lz) (j:Nat):Int:=if decide (Am lo hi used.length (kc rest) (up (uf used) j 1) rest.length>=0)&&((j:Int)==c) then Am lo hi used.length (kc rest) (up (uf used) j 1) rest.length+1 else Am lo hi used.length (kc rest) (up (uf used) j 1) rest.length
def allP (rest:Lz) (used:Lz):Int:=Am lo hi used.length (kc rest) (uf used) rest.length
def fit (rest:Lz) (c:Int) (used:Lz) (j:Nat):Bool:=decide (uf used j<hi)&&(ER lo hi rest c used j==allP lo hi (c::rest) used)
def more (used:Lz) (j:Nat):Lz:=used.set j (uf used j+1)
def G:Lz->Lz->Lz×Lz
  | [],used=>([],used)
  | c::rest,used=>match seek (fit lo hi rest c used) 0 used.length with
    | some j=>((j:Int)::(G rest (more used j)).1,(G rest (more used j)).2)
    | none=>G rest used
end
theorem Hk (h:j<used.length):uf (more used j)=up (uf used) j 1:=by
  funext i
  unfold uf more;have:=EP (L:=used) (v:=(j:Int)) (y:=uf used j+1) om om (i:Int) om;rw[Zu] at this;rw[this];unfold up;by_cases e:i=j
  · subst e;rw[Zc rfl,Zc rfl];rfl
  · rw[Zb om,Zb e]
theorem Dy (used:Lz) (j:Nat):(more used j).length=used.length:=ZK
theorem Oy (h:Di used lo hi) (c:j<used.length) (hu:uf used j<hi):Di (more used j) lo hi:=by
  have⟨_,d,e,f,g,l,m⟩:=h.at c;refine⟨by rw[Dy];exact h.len,λu a=>?_⟩;rcases mem_or_eq_of_mem_set a with b | b
  · exact h.bd u b
  · rw[b];omega
theorem bQ (h:Di used lo hi) (a:rest.length<=600):-1000000<=Am lo hi used.length (kc rest) (uf used) rest.length/\Am lo hi used.length (kc rest) (uf used) rest.length<=1000000:=by have⟨⟨a1,a2⟩,⟨a3,a4⟩,_⟩:=LO h (k:=kc rest) (λj=>by have:=CP rest j;omega) used.length (Zq _);have hlen:=h.len;unfold sA at a1 a2;unfold sK at a3 a4;unfold Am;split<;>omega
theorem cA (h:Di used lo hi) (m:old.length<=600) {c:Int} (l:old.drop i=c::rest) (b:j<used.length):
    GR (j:Int) ⟨old,used,lo,hi⟩ (i:Int) c (allP lo hi (c::rest) used)=some (fit lo hi rest c used j,⟨old,if fit lo hi rest c used j=true then more used j else used,lo,hi⟩):=by
  have⟨e,v,x,z,A,B,C⟩:=h.at b;have n:i<old.length:=by have:=ZU length l;rw[Yi,Zj] at this;omega
  have a:old.drop (i+1)=rest:=by have:=ZU tail l;rw[tail_drop] at this;exact this
  unfold GR;dsimp only;have o:idx used (j:Int)=some (uf used j):=by rw[BN,e]
  rw[o];simp only[Za];by_cases hu:uf used j>=hi
  · rw[Zc (decide_eq_true hu)];have:fit lo hi rest c used j=false:=by unfold fit;rw[decide_eq_false om];rfl
    rw[this,Zb dc]
  · rw[Zb (by rw[decide_eq_false hu];decide),w64 om om,Cx b];simp only[Za];have em:used.set j (uf used j+1)=more used j:=rfl;have p:i64.wrap ((i:Int)+1)=((i+1:Nat):Int):=by rw[w64 om om];rfl
    rw[em,p,S7 (Oy h b om) m om,a,Hk b,Dy];simp only[Za];have d:∀y:Int,-1000000<=y->y<=1000000->((if decide (y>=0)&&((j:Int)==c) then some (i64.wrap (y+1)) else some y):Option Int)=some (if decide (y>=0)&&((j:Int)==c) then y+1 else y):=λy D E=>by
      split
      · rw[w64 om om]
      · rfl
    have hb:=bQ (Oy h b om) (rest:=rest) (by have:=ZU length a;rw[Yi] at this;omega);rw[Hk b,Dy] at hb;rw[d _ hb.1 hb.2];have q:(if decide (Am lo hi used.length (kc rest) (up (uf used) j 1) rest.length>=0)&&((j:Int)==c) then Am lo hi used.length (kc rest) (up (uf used) j 1) rest.length+1 else Am lo hi used.length (kc rest) (up (uf used) j 1) rest.length)=ER lo hi rest c used j:=rfl;rw[q];simp only[Za];have r:fit lo hi rest c used j=(ER lo hi rest c used j==allP lo hi (c::rest) used):=by unfold fit;rw[decide_eq_true om,Bool.true_and]
    rw[r];by_cases f:ER lo hi rest c used j=allP lo hi (c::rest) used
    · rw[f];simp
    · have s:(ER lo hi rest c used j !=allP lo hi (c::rest) used)=true:=by simpa using f
      have t:(ER lo hi rest c used j==allP lo hi (c::rest) used)=false:=by simpa using f
      rw[Zc s,t,Zb dc];have g:j<(more used j).length:=by rw[Dy];exact b
      have e1:idx (more used j) (j:Int)=some (uf used j+1):=by rw[LP om om];have:=congrFun (Hk b) j;rw[Bu] at this;exact ZU some this
      rw[e1];simp only[Za];rw[w64 om om,Cx g];simp only[Za];have e2:(more used j).set j (uf used j+1 - 1)=used:=by
        unfold more;rw[List.set_set,show uf used j+1 - 1=uf used j by omega];have:uf used j=used[j]:=by unfold uf lv;rw[Zu,Zd b];rfl
        rw[this,set_getElem_self]
      rw[e2]
theorem S9 {c:Int}:G lo hi (c::rest) used=(match seek (fit lo hi rest c used) 0 used.length with
    | some j=>((j:Int)::(G lo hi rest (more used j)).1,(G lo hi rest (more used j)).2)
    | none=>G lo hi rest used):=rfl
theorem TA {c:Int} (h:fit lo hi rest c used j=true):uf used j<hi:=by unfold fit at h;simp only[Zh,Zk] at h;exact h.1
theorem cB {p:Nat->Bool} {g:Nat} (a:p j=true):seek p j (g+1)=some j:=Zc a
theorem cC {p:Nat->Bool} {g:Nat} (a:p j=false):seek p j (g+1)=seek p (j+1) g:=Zb (by rw[a];decide)
theorem cD {a:Lz} (h:Di a lo hi) (E:old.length<=600):
    Ok (Qr (λ(b:Int×Lz×Lz×Lz×Int×Int)=>((if decide (b.1<(old.length:Int)) then (idx old b.1).bind λt84=>(E5 (Az.mk b.2.2.2.1 b.2.2.1 b.2.2.2.2.1 b.2.2.2.2.2) b.1).bind λt88=>(Qr (λ(d:Int×Lz×Lz×Int×Int)=>((if decide (d.1<(a.length:Int)) then (GR d.1 (Az.mk d.2.2.1 d.2.1 d.2.2.2.1 d.2.2.2.2) b.1 t84 t88).bind λt96=>if t96.1 then (rm (b.2.1.length+[d.1].length)).bind λ_=>some (.inr ((t96.2).old,(t96.2).lo,(t96.2).hi,(t96.2).used,b.2.1++[d.1])) else some (.inl (i64.wrap (d.1+(1:Int)),(t96.2).used,(t96.2).old,(t96.2).lo,(t96.2).hi)) else some (.inr (d.2.2.1,d.2.2.2.1,d.2.2.2.2,d.2.1,b.2.1))):Option ((Int×Lz×Lz×Int×Int)⊕(Lz×Int×Int×Lz×Lz)))) ((0:Int),b.2.2.1,b.2.2.2.1,b.2.2.2.2.1,b.2.2.2.2.2)).bind λ(f:(Lz×Int×Int×Lz×Lz))=>some (.inl (i64.wrap (b.1+(1:Int)),f.2.2.2.2,f.2.2.2.1,f.1,f.2.1,f.2.2.1)) else some (.inr (b.2.1,b.2.2.1,b.2.2.2.1,b.2.2.2.2.1,b.2.2.2.2.2))):Option ((Int×Lz×Lz×Lz×Int×Int)⊕(Lz×Lz×Lz×Int×Int)))) ((0:Int),([]:Lz),a,old,lo,hi)) (λp=>p=((G lo hi old a).1,(G lo hi old a).2,old,lo,hi)):=by
  refine Ok.loop (λg s=>∃i:Nat,s.1=i/\i+g=old.length/\s.2.1.length<=i/\Di s.2.2.1 lo hi/\s.2.2.1.length=a.length/\s.2.2.2.1=old/\s.2.2.2.2.1=lo/\s.2.2.2.2.2=hi/\s.2.1++(G lo hi (old.drop i) s.2.2.1).1=(G lo hi old a).1/\(G lo hi (old.drop i) s.2.2.1).2=(G lo hi old a).2) old.length ⟨0,rfl,om,Zq _,h,rfl,rfl,rfl,rfl,rfl,rfl⟩ λg s z=>?_;have⟨i,F,h2,U,v,A,H,I,K,m,e⟩:=z;have⟨si,out,used,so,n,o⟩:=s;dsimp only at F U v A H I K m e ⊢;subst F;subst H;subst I;subst K;refine Ok.ite (λl=>?_) (λl=>?_)
  · have l:(i:Int)<so.length:=Zt l;refine Ok.idx om l λc hc q=>?_;have x:i<so.length:=by omega
    have B:so.drop i=c::so.drop (i+1):=by
      rw[Yq x];have q:so[i]?=some c:=by simpa using q
      rw[Zd x] at q;rw[Zn q]
    rw[S7 v E om,B];simp only[Za];have V:Am n o used.length (kc (c::so.drop (i+1))) (uf used) ((c::so.drop (i+1)).length:Nat)=allP n o (c::so.drop (i+1)) used:=rfl;rw[V];rw[B,S9] at m e;have hlen:=v.len;refine Ok.bind (P:=λp=>p.1=so/\p.2.1=n/\p.2.2.1=o/\(match seek (fit n o (so.drop (i+1)) c used) 0 used.length with | some j=>p.2.2.2.1=more used j/\p.2.2.2.2=out++[(j:Int)] | none=>p.2.2.2.1=used/\p.2.2.2.2=out)) (Ok.loop (λg s=>∃j:Nat,s.1=j/\j+g=used.length/\s.2.1=used/\s.2.2.1=so/\s.2.2.2.1=n/\s.2.2.2.2=o/\seek (fit n o (so.drop (i+1)) c used) 0 used.length=seek (fit n o (so.drop (i+1)) c used) j g) used.length ⟨0,rfl,om,rfl,rfl,rfl,rfl,rfl⟩ λg' s z=>?_) λp hp=>?_
    · have⟨j,L,j2,M,N,O,Q,C⟩:=z;have⟨sj,u,W,X,Y⟩:=s;dsimp only at L M N O Q ⊢;subst L;subst M;subst N;subst O;subst Q;refine Ok.ite (λy=>?_) (λy=>?_)
      · have y:(j:Int)<a.length:=Zt y
        cases g' with
        | zero=>omega
        | succ g'=>
          rw[cA v E B om];simp only[Za];refine Ok.ite (λhf=>?_) (λhf=>?_)
          · rw[Zc hf];refine Ok.rm so (Ok.mk ⟨rfl,rfl,rfl,?_⟩);rw[C,cB hf];exact⟨rfl,rfl⟩
          · rw[hf,Zb dc];exact Ok.mk ⟨g',om,j+1,by rw[w64 om om];rfl,om,rfl,rfl,rfl,rfl,by rw[C,cC hf]⟩
      · have y:¬(j:Int)<a.length:=Zy y;have:g'=0:=by omega
        subst this;refine Ok.mk ⟨rfl,rfl,rfl,?_⟩;rw[C];exact⟨rfl,rfl⟩
    · have⟨R,S,T,r⟩:=hp;have⟨a1,a2,a3,a4,a5⟩:=p;dsimp only at R S T r ⊢;subst R;subst S;subst T
      cases t:seek (fit a2 a3 (a1.drop (i+1)) c used) 0 used.length with
      | none=>rw[t] at r m e;have⟨r,D⟩:=r;subst r;subst D;exact Ok.mk ⟨g - 1,om,i+1,by rw[w64 om om];rfl,om,by dsimp only;omega,v,A,rfl,rfl,rfl,m,e⟩
      | some j=>rw[t] at r m e;have⟨r,D⟩:=r;subst r;subst D;have⟨_,q1,Z⟩:=Ox t;refine Ok.mk ⟨g - 1,om,i+1,by rw[w64 om om];rfl,om,so,Oy v om (TA Z),by dsimp only;rw[Dy];exact A,rfl,rfl,rfl,?_,e⟩;rw[<-m];simp
  · have l:¬(i:Int)<so.length:=Zy l;have:i=so.length:=by omega
    subst this;rw[drop_length] at m e;apply Ok.mk;have m:out++[]=(G n o so a).1:=m;have e:used=(G n o so a).2:=e;rw[Yg] at m;rw[m,e]
def C3:Lz->Lz->Int
  | a::l,b::m=>(if b=a then 1 else 0)+C3 l m
  | _,_=>0
theorem ES (c:Int) (l:Lz) (j:Nat):kc (c::l) j=kc l j+one (c=(j:Int)):=by
  unfold kc one;rw[count_cons];by_cases e:c=(j:Int)
  · rw[Zc (sa e),Zc e];omega
  · rw[Zb (sa e),Zb e];omega
theorem Oz:∀(l:Lz) (n:Nat),psum (kc l) n<=l.length
  | [],n=>by rw[DI (g:=kc []) λi _=>rfl];exact Zx _
  | c::l,n=>by
    have:psum (kc (c::l)) n=psum (kc l) n+psum (λj=>(1:Int) * one (c=(j:Int))) n:=by rw[<-GO];exact Bt λj _=>by rw[ES];omega
    rw[this,Hg (λ_=>1) n c];have a:=Oz l n;simp only[Zj];split<;>omega
theorem fit_ex (m:lo<=hi) {c:Int} (hu:∀j,j<used.length->uf used j<=hi) (hm:0<=allP lo hi (c::rest) used):∃j,j<used.length/\fit lo hi rest c used j=true:=by
  have⟨t,t1,t2⟩:=LM m hu hm;have v:∀j,j<used.length->0<=kc rest j:=λj _=>(CP rest j).1;have o:∀j,j<used.length->0<=kc (c::rest) j:=λj _=>(CP (c::rest) j).1;have x:∀j,j<used.length->0<=t j:=λj b=>by have:=(t1.bd j b).1;unfold lowP at this;omega
  have y:∀j,kc rest j<=kc (c::rest) j:=λj=>by rw[ES];have:=Ol (c=(j:Int));omega
  have d:((c::rest).length:Int) - 1=rest.length:=by simp
  have sc:∀j,j<used.length->uf used j<hi->(j:Int)≠c->Am lo hi used.length (kc rest) (up (uf used) j 1) rest.length=allP lo hi (c::rest) used->fit lo hi rest c used j=true:=λj _ b hne L=>by
    unfold fit ER;have:((j:Int)==c)=false:=by simpa using hne
    rw[this,Bool.and_false,Zb dc,L,decide_eq_true b];simp
  have F:∀j,j<used.length->(j:Int)≠c->kc (c::rest) j<t j->(∀i,i<used.length->kc rest i<kc (c::rest) i->t i=0/\i≠j)->∃j,j<used.length/\fit lo hi rest c used j=true:=λj b hne z H=>by
    have p:uf used j<hi:=by have:=(t1.bd j b).2;have:=o j b;omega
    have:=bY m hu v b p t1 t2 z (λi _=>y i) H;rw[d] at this;exact⟨j,b,sc j b p hne this⟩
  by_cases hc:0<=c/\c<used.length
  · obtain⟨a,rfl⟩:=ZB hc.1;have l:a<used.length:=by omega
    have A:kc ((a:Int)::rest) a=kc rest a+1:=by rw[ES];unfold one;rw[Zc rfl]
    have B:kc rest=up (kc ((a:Int)::rest)) a (-1):=by
      funext i
      unfold up;by_cases e:i=a
      · subst e;rw[Zc rfl,A];omega
      · rw[Zb e,ES];unfold one;rw[Zb om];omega
    by_cases C:1<=t a
    · have r:uf used a<hi:=by have:=(t1.bd a l).2;omega
      have⟨I,K⟩:=bX m hu o l (by have:=(CP rest a).1;omega) r t1 t2 C;rw[d,<-B] at I K;refine⟨a,l,?_⟩;unfold fit ER;have q:(decide (Am lo hi used.length (kc rest) (up (uf used) a 1) rest.length>=0)&&((a:Int)==(a:Int)))=true:=by rw[decide_eq_true K];simp
      rw[Zc q,I,decide_eq_true r];simp[allP]
    · -- another one that has more than keep
      by_cases f:∃j,j<used.length/\j≠a/\kc ((a:Int)::rest) j<t j
      · have⟨j,D,M,E⟩:=f;refine F j D om E λi n g=>?_;have:i=a:=by
          by_cases e:i=a
          · exact e
          · rw[ES] at g;unfold one at g;rw[Zb om] at g;omega
        subst this;exact⟨by have:=x i n;omega,λe=>M e.symm⟩
      · have h:∀j,j<used.length->t j<=kc ((a:Int)::rest) j:=λj b=>by
          by_cases e:j=a
          · subst e;have:=(CP rest j).1;omega
          · by_cases q:kc ((a:Int)::rest) j<t j
            · exact absurd ⟨j,b,e,q⟩ f
            · omega
        have:=GN a h l (by have:=(CP rest a).1;omega);have:=Oz ((a:Int)::rest) used.length;have:=t1.sum;omega
  · have s:∀j,j<used.length->kc (c::rest) j=kc rest j:=λj b=>by
      rw[ES];unfold one;rw[Zb om];omega
    by_cases f:∃j,j<used.length/\kc (c::rest) j<t j
    · have⟨j,D,E⟩:=f;exact F j D om E λi n g=>by rw[s i n] at g;omega
    · have h:∀j,j<used.length->t j<=kc rest j:=λj b=>by
        by_cases q:kc (c::rest) j<t j
        · exact absurd ⟨j,b,q⟩ f
        · rw[s j b] at q;omega
      have O:=Dx h;have H:=Oz rest used.length;have N:=t1.sum;rw[Zj] at N;omega
structure GOkE (lo hi:Int) (rest used out used':Lz):Prop where
  len:out.length=rest.length
  mem:∀x∈out,0<=x/\x<used.length
  ulen:used'.length=used.length
  use:∀j,j<used.length->uf used' j=uf used j+kc out j
  keep:C3 rest out=allP lo hi rest used
  bd:∀j,j<used.length->lo<=uf used' j/\uf used' j<=hi
theorem G_ok (h:lo<=hi):∀(rest used:Lz),(∀j,j<used.length->uf used j<=hi)->0<=allP lo hi rest used->GOkE lo hi rest used (G lo hi rest used).1 (G lo hi rest used).2
  | [],used,hu,hm=>by
    have⟨t,t1,t2⟩:=LM h hu hm;have m:∀j,j<used.length->0<=t j:=λj b=>by have:=(t1.bd j b).1;unfold lowP at this;omega
    have hz:∀j,j<used.length->t j=0:=λj b=>by
      have a:=m j b;by_cases e:t j=0
      · exact e
      · have:=GN (g:=λ_=>0) (g':=t) j m b om;rw[DI λ_ _=>rfl,t1.sum] at this;simp at this
    refine⟨rfl,λx hx=>(by cases hx),rfl,λj _=>?_,?_,λj b=>?_⟩
    · show uf used j=uf used j+0;omega
    · have:valP used.length (kc []) t=0:=DI λj b=>by rw[hz j b];rfl
      show (0:Int)=allP lo hi [] used;unfold allP;rw[<-t2,this]
    · have:=(t1.bd j b).1;have:=hz j b;have:=hu j b;show lo<=uf used j/\uf used j<=hi;unfold lowP at *;omega
  | c::rest,used,hu,hm=>by
    have⟨v,y,r⟩:=fit_ex h hu hm;rw[S9]
    cases n:seek (fit lo hi rest c used) 0 used.length with
    | none=>have:=S8 n v om om;rw[r] at this;cases this
    | some j=>
      have⟨_,B,q⟩:=Ox n;have b:j<used.length:=by omega
      have z:=TA q;have f:ER lo hi rest c used j=allP lo hi (c::rest) used:=by unfold fit at q;simp only[Zh,Yj] at q;exact q.2
      have A:Am lo hi used.length (kc rest) (up (uf used) j 1) rest.length=allP lo hi rest (more used j):=by unfold allP;rw[Hk b,Dy]
      have o:0<=allP lo hi rest (more used j)/\(if (j:Int)=c then 1 else 0)+allP lo hi rest (more used j)=allP lo hi (c::rest) used:=by
        unfold ER at f;rw[A] at f;split at f
        · rename_i p;simp only[Zh,Zk,Yj] at p;rw[Zc p.2];omega
        · rename_i p;rw[f] at p ⊢;have hne:¬(j:Int)=c:=λe=>p (by rw[decide_eq_true hm];simpa using e);rw[Zb hne];omega
      have s:∀i,i<(more used j).length->uf (more used j) i<=hi:=λi d=>by
        rw[Dy] at d;rw[Hk b];by_cases e:i=j
        · subst e;rw[Bu];omega
        · rw[CA _ _ e];exact hu i d
      have l:=G_ok h rest (more used j) s o.1;refine⟨by simp[l.len],λx hx=>?_,by rw[l.ulen,Dy],λi d=>?_,?_,λi d=>l.bd i (by rw[Dy];exact d)⟩
      · rcases Zp.1 hx with rfl | hx
        · omega
        · have:=l.mem x hx;rw[Dy] at this;exact this
      · have:=l.use i (by rw[Dy];exact d);dsimp only;rw[this,Hk b,ES];unfold up one;by_cases e:i=j
        · subst e;rw[Zc rfl,Zc rfl];omega
        · rw[Zb e,Zb om];omega
      · show (if (j:Int)=c then 1 else 0)+C3 rest (G lo hi rest (more used j)).1=_;rw[l.keep];exact o.2
def BJ (m:List (Int×Qg)) (n:Nat):Int:=psum (λi=>one (mget m (i:Int)=none)) n
def In (m:List (Int×Qg)) (f v:Int):Prop:=v=f\/∃a,mget m v=some a
structure RI (x:Qw) (f:Int) (m:List (Int×Qg)) (τ:Int->Int) (t:Int):Prop where
  ent:∀v a,mget m v=some a->a∈x.arcs/\a.to=v/\v≠f/\1<=room x a/\In m f a.from'/\τ a.from'<τ v
  le:∀v,τ v<=t
  ge:∀v,0<=τ v
theorem LS (m:List (Int×Qg)) (n:Nat):0<=BJ m n:=LH λ_ _=>(Ol _).1
theorem cE {m:List (Int×Qg)} {n:Nat} {v:Int} (a:Qg) (h0:0<=v) (c:v<n) (b:mget m v=none):BJ (mset m v a) n+1<=BJ m n:=by
  have:BJ (mset m v a) n<BJ m n:=by
    refine GN v.toNat (λi _=>?_) om ?_
    · unfold one;by_cases e:mget m (i:Int)=none
      · rw[Zc e];split<;>omega
      · rw[Zb e,Zb]
        · exact Zx _
        · rw[BO];split
          · exact λq=>by cases q
          · exact e
    · have e:(v.toNat:Int)=v:=by omega
      rw[e];unfold one;rw[Zc b,Zb]
      · decide
      · rw[BO,Zc rfl];exact λq=>by cases q
  omega
theorem RI.put {x:Qw} {f:Int} {m:List (Int×Qg)} {t:Int} (h:RI x f m τ t) {a:Qg} (ha:a∈x.arcs) (g:1<=room x a) (hf:a.to≠f) (l:mget m a.to=none) (hi:In m f a.from'):
    RI x f (mset m a.to a) (λv=>if v=a.to then t+1 else τ v) (t+1):=by
  have c:∀v,In m f v->In (mset m a.to a) f v/\v≠a.to:=λv n=>by
    rcases n with rfl | ⟨b,hb⟩
    · exact⟨.inl rfl,λe=>hf e.symm⟩
    · have:v≠a.to:=λe=>by rw[e,l] at hb;cases hb
      exact⟨.inr ⟨b,by rw[BO,Zb this];exact hb⟩,this⟩
  refine⟨λv b hb=>?_,λv=>?_,λv=>?_⟩
  · rw[BO] at hb;by_cases e:v=a.to
    · rw[Zc e] at hb;obtain rfl:=Zn hb;subst e;have:=c _ hi;have:=h.le a.from';exact⟨ha,rfl,hf,g,(c _ hi).1,by rw[Zc rfl,Zb (c _ hi).2];omega⟩
    · rw[Zb e] at hb;have⟨g1,g2,g3,o,d,p⟩:=h.ent v b hb;exact⟨g1,g2,g3,o,(c _ d).1,by rw[Zb e,Zb (c _ d).2];exact p⟩
  · have:=h.le v;split<;>omega
  · have:=h.le v;have:=h.ge v;split<;>omega
def LU (x:Qw) (f:Int) (m:List (Int×Qg)):Prop:=(∃τ t,RI x f m τ t)/\∀a∈x.arcs,1<=room x a->In m f a.from'->In m f a.to
theorem cF {x:Qw} (hx:Bh x) {f:Int} (f0:0<=f) (f1:f<x.n):Ok (LV x f) (λr=>∃m,r=some m/\LU x f m):=by
  have a3:=hx.n0;have a4:=hx.n1;have a5:=hx.alen;unfold LV;refine Ok.bind (P:=λr=>∃m,r=some m/\LU x f m) (Ok.loop (λg s=>∃m τ t,s.2=some m/\RI x f m τ t/\(2 * BJ m x.n.toNat+s.1.length)=g/\(∀v∈s.1,In m f v)/\s.1.length+BJ m x.n.toNat<=65/\∀a∈x.arcs,1<=room x a->In m f a.from'->a.from'∈s.1\/In m f a.to) (2 * BJ [] x.n.toNat+1).toNat ⟨[],λ_=>0,0,rfl,⟨λv a h=>by simp[mget] at h,λv=>Zx _,λv=>Zx _⟩,?_,λv R=>.inl (Zi.1 R),?_,λa ha l hi=>?_⟩ λg s S=>?_) λr l=>Ok.mk l
  · have:=LS [] x.n.toNat;simp;omega
  · have:BJ [] x.n.toNat<=x.n.toNat:=by
      unfold BJ;generalize x.n.toNat=n
      induction n with
      | zero=>exact Zx _
      | succ n ih=>
        have:=(Ol (mget ([]:List (Int×Qg)) (n:Int)=none)).2;show psum _ n+_<=_
        push_cast
        omega
    simp;omega
  · rcases hi with hi | ⟨b,hb⟩
    · exact .inl (by simp[hi])
    · simp[mget] at hb
  · have⟨m,τ,t,h1,h2,h3,T,h5,U⟩:=S;have⟨q,mm⟩:=s;dsimp only at h1 h3 T h5 U ⊢;subst h1;refine Ok.ite (λA=>?_) (λA=>?_)
    · have A:(q.length:Int)>0:=Zt A
      cases q with
      | nil=>simp at A
      | cons v q=>
        have e1:idx (v::q) (0:Int)=some v:=rfl;have e2:sub (v::q) (1:Int) (((v::q).length:Nat):Int)=some q:=by unfold sub;rw[Zc ⟨dc,so,Zx _⟩];simp
        rw[e1,e2];simp only[Za];have R:=T v sm;have a6:=LS m x.n.toNat;simp only[Zj] at h3 h5;refine Ok.bind (P:=λp=>∃c τ t,p.1=some c/\RI x f c τ t/\2 * BJ c x.n.toNat+p.2.length<=2 * BJ m x.n.toNat+q.length/\(∀v∈p.2,In c f v)/\p.2.length+BJ c x.n.toNat<=64/\
            ∀a∈x.arcs,1<=room x a->In c f a.from'->a.from'∈p.2\/In c f a.to) (Ok.loop (λg s=>∃(i:Nat) (c:List (Int×Qg)) (τ:Int->Int) (t:Int),s.1=i/\i+g=x.arcs.length/\s.2.1=some c/\RI x f c τ t/\2 * BJ c x.n.toNat+s.2.2.length<=2 * BJ m x.n.toNat+q.length/\(∀v∈s.2.2,In c f v)/\s.2.2.length+BJ c x.n.toNat<=64/\In c f v/\
            ∀(j:Nat) a,x.arcs[j]?=some a->1<=room x a->In c f a.from'->a.from'∈s.2.2\/In c f a.to\/(a.from'=v/\i<=j)) x.arcs.length ⟨0,m,τ,t,rfl,om,rfl,h2,Zx _,λu hu=>T u (by simp[hu]),by dsimp only;omega,R,λj a y l hi=>?_⟩ λg' s S=>?_) λp hp=>?_
        · rcases U a (Zo y) l hi with h | h
          · rcases Zp.1 h with h | h
            · exact .inr (.inr ⟨h,om⟩)
            · exact .inl h
          · exact .inr (.inl h)
        · obtain⟨i,c,B,N,i1,i2,i3,V,W,O,X,i8,Q⟩:=S;obtain⟨si,a7,q'⟩:=s;dsimp only at i1 i3 W O X Q ⊢;subst i1;subst i3;refine Ok.ite (λhi=>?_) (λhi=>?_)
          · have hi:(i:Int)<x.arcs.length:=Zt hi;refine Ok.bind (P:=λp=>∃c τ t,p.1=some c/\RI x f c τ t/\2 * BJ c x.n.toNat+p.2.length<=2 * BJ m x.n.toNat+q.length/\(∀v∈p.2,In c f v)/\p.2.length+BJ c x.n.toNat<=64/\In c f v/\
              ∀(j:Nat) a,x.arcs[j]?=some a->1<=room x a->In c f a.from'->a.from'∈p.2\/In c f a.to\/(a.from'=v/\i+1<=j)) ?_ λp hp=>?_
            · refine Ok.idx om hi λa ha C=>?_;have C:x.arcs[i]?=some a:=by simpa using C
              have⟨hA,a8,a9,at0,at1,hne,_,_⟩:=Ch hx ha;have E:(1<=room x a->a.from'=v->In c f a.to)->Ok (some ((some c:Mp Qg),q')) (λp=>∃c τ t,p.1=some c/\RI x f c τ t/\2 * BJ c x.n.toNat+p.2.length<=2 * BJ m x.n.toNat+q.length/\(∀v∈p.2,In c f v)/\p.2.length+BJ c x.n.toNat<=64/\In c f v/\
                ∀(j:Nat) a,x.arcs[j]?=some a->1<=room x a->In c f a.from'->a.from'∈p.2\/In c f a.to\/(a.from'=v/\i+1<=j)):=λhk=>by
                refine Ok.mk ⟨c,B,N,rfl,V,W,O,X,i8,λj b y l o=>?_⟩;rcases Q j b y l o with h | h | ⟨h,F⟩
                · exact .inl h
                · exact .inr (.inl h)
                · by_cases e:i=j
                  · subst e;rw[C] at y;obtain rfl:=Zn y;exact .inr (.inl (hk l h))
                  · exact .inr (.inr ⟨h,om⟩)
              refine Ok.opt (P:=λr=>r=room x a) (λ_=>⟨_,(LW hx hA).1,rfl⟩) λr l=>?_;refine Ok.ite (λhc=>E λb0 H=>?_) (λhc=>?_)
              · simp only[ZG,bne_iff_ne,Yj] at hc;rcases hc with ((hc | hc) | hc) | hc
                · exact absurd H hc
                · exact .inl hc
                · have⟨b,hb⟩:=Option.isSome_iff_exists.1 hc;exact .inr ⟨b,hb⟩
                · by_cases D:(((a.from' !=v)||(a.to==f))||(AY (some c) a.to).isSome)=true
                  · simp only[ZG,bne_iff_ne,Yj] at D;rcases D with (hc | hc) | hc
                    · exact absurd H hc
                    · exact .inl hc
                    · have⟨b,hb⟩:=Option.isSome_iff_exists.1 hc;exact .inr ⟨b,hb⟩
                  · have:=l (by simp only[Ye] at D;rw[D];rfl);omega
              · simp only[Bool.or_eq_false_iff,bne_eq_false_iff_eq,beq_eq_false_iff_ne] at hc;have⟨⟨⟨c1,c2⟩,Y⟩,c4⟩:=hc;have b1:=l (by rw[show ((a.from' !=v)=false) from by simpa using c1,show ((a.to==f)=false) from by simpa using c2,Y];rfl);have⟨_,r0,r1⟩:=LW hx hA;have z:mget c a.to=none:=by
                  cases A:mget c a.to with
                  | none=>rfl
                  | some b=>have:AY (some c) a.to=some b:=A;rw[this] at Y;cases Y
                have I:=V.put ha om c2 z (by rw[c1];exact i8);have b2:=cE (n:=x.n.toNat) a at0 om z;have K:=LS (mset c a.to a) x.n.toNat;have o:∀u,In c f u->In (mset c a.to a) f u:=λu hu=>by
                  rcases hu with rfl | ⟨b,hb⟩
                  · exact .inl rfl
                  · refine .inr ?_;rw[BO];split
                    · exact⟨_,rfl⟩
                    · exact⟨b,hb⟩
                have L:In (mset c a.to a) f a.to:=.inr ⟨a,by rw[BO,Zc rfl]⟩;show Ok ((some (some (mset c a.to a))).bind _) _;simp only[Za];refine Ok.rm so (Ok.mk ⟨mset c a.to a,_,_,rfl,I,so,λu hu=>?_,so,o v i8,λj b y l hb=>?_⟩)
                · rcases ZH.1 hu with hu | hu
                  · exact o u (O u hu)
                  · rw[Zi.1 hu];exact L
                · by_cases eb:b.from'=a.to
                  · exact .inl (by simp[eb])
                  · have Z:In c f b.from':=by
                      rcases hb with hb | ⟨d,hd⟩
                      · exact .inl hb
                      · rw[BO,Zb eb] at hd;exact .inr ⟨d,hd⟩
                    rcases Q j b y l Z with h | h | ⟨h,F⟩
                    · exact .inl (by simp[h])
                    · exact .inr (.inl (o _ h))
                    · by_cases e:i=j
                      · subst e;rw[C] at y;obtain rfl:=Zn y;exact .inr (.inl L)
                      · exact .inr (.inr ⟨h,om⟩)
            · have⟨a0,M,a1,k1,k2,k3,k4,k5,k6,k7⟩:=hp;exact Ok.mk ⟨g' - 1,om,i+1,a0,M,a1,by rw[w64 om om];rfl,om,k1,k2,k3,k4,k5,k6,k7⟩
          · have hi:¬(i:Int)<x.arcs.length:=Zy hi;refine Ok.mk ⟨c,B,N,rfl,V,W,O,X,λa ha l o=>?_⟩;have⟨j,y,a2⟩:=mem_iff_getElem.1 ha;rcases Q j a (by rw[Zd y,a2]) l o with h | h | ⟨_,F⟩
            · exact .inl h
            · exact .inr h
            · omega
        · have⟨c,B,N,k1,k2,k3,k4,k5,k6⟩:=hp;have K:=LS c x.n.toNat;refine Ok.mk ⟨(2 * BJ c x.n.toNat+p.2.length).toNat,om,c,B,N,k1,k2,by dsimp only;omega,k4,by dsimp only;omega,k6⟩
    · have A:¬(q.length:Int)>0:=Zy A;have:q=[]:=by cases q with | nil=>rfl | cons=>simp at A
      subst this;refine Ok.mk ⟨m,rfl,⟨τ,t,h2⟩,λa ha l hi=>?_⟩;rcases U a ha l hi with h | h
      · cases h
      · exact h
theorem tele (g:Nat->Int):∀n,psum (λi=>g i - g (i+1)) n=g 0 - g n
  | 0=>by show (0:Int)=g 0 - g 0;omega
  | n+1=>by show psum (λi=>g i - g (i+1)) n+(g n - g (n+1))=_;rw[tele g n];omega
theorem cG {l:List Qi} {c:Nat->Qg} (h:E6 l (c i)) (v:Int):ET l c (ex v) i=one ((c i).to=v) - one ((c i).from'=v):=by
  have⟨e,f,g⟩:=h.ex;unfold ET;rw[f];unfold ex;rcases g with⟨a,b,d,_⟩ | ⟨a,b,d,_⟩
  · simp only[a,b,d];omega
  · simp only[a,b,d];omega
theorem cH {l:List Qi} {c:Nat->Qg} (h:E6 l (c i)):ET l c (·.Cost) i=(c i).cost:=by
  have⟨e,d,f⟩:=h.ex;unfold ET;rw[d];rcases f with⟨a,_,_,b⟩ | ⟨a,_,_,b⟩
  · simp only[a,b];omega
  · simp only[a,b];omega
theorem TB {x:Qw} {c:Nat->Qg} {p:Nat} {m:Int} (h:Fd x mp w c p) (hp:Ir x x' c p m) (v:Int):
    lin (ex v) x.l x'.flow=lin (ex v) x.l x.flow+m * (one (w 0=v) - one (w p=v)):=by
  rw[hp.lin (ex v)];have e:psum (ET x.l c (ex v)) p=psum (λi=>one (w i=v) - one (w (i+1)=v)) p:=Bt λi hi=>(cG (h.arc i hi) v).trans (by rw[h.to i hi,h.from' i hi]);rw[e,tele λi=>one (w i=v)]
theorem cI {x:Qw} {c:Nat->Qg} {p:Nat} {m:Int} (h:Fd x mp w c p) (hp:Ir x x' c p m):
    lin (·.Cost) x.l x'.flow=lin (·.Cost) x.l x.flow+m * psum (λi=>(c i).cost) p:=by
  rw[hp.lin (·.Cost)];have e:psum (ET x.l c (·.Cost)) p=psum (λi=>(c i).cost) p:=Bt λi hi=>cH (h.arc i hi);rw[e]
theorem TC {x:Qw} (hx:Bh x) {f:Int} {m:List (Int×Qg)} {t:Int} (h:RI x f m τ t):∀(n:Nat) (w:Int) a,τ w<=n->mget m w=some a->
    ∃p,1<=p/\back m w p=f/\(∀i,i<p->∃b,mget m (back m w i)=some b)
  | n,w,a,hn,ha=>by
    have⟨g1,g2,g3,g,c,l⟩:=h.ent w a ha;have e1:back m w 1=a.from':=by show ((mget m w).getD zarc).from'=_;rw[ha];rfl
    rcases c with c | ⟨b,hb⟩
    · exact⟨1,Zq _,by rw[e1,c],λi hi=>by
        have:i=0:=by omega
        subst this;exact⟨a,ha⟩⟩
    · cases n with
      | zero=>have:=h.ge a.from';omega
      | succ n=>
        have⟨p,o,d,e⟩:=TC hx h n a.from' b om hb;refine⟨1+p,om,by rw[Ff,e1,d],λi hi=>?_⟩
        cases i with
        | zero=>exact⟨a,ha⟩
        | succ i=>rw[Nat.add_comm i 1,Ff,e1];exact e i om
theorem cJ {x:Qw} (hx:Bh x) {f:Int} {m:List (Int×Qg)} (h:LU x f m) {w:Int} {a:Qg} (ha:mget m w=some a):
    ∃u c p,Fd x (some m) u c p/\u 0=w/\u p=f:=by
  have⟨⟨τ,t,h⟩,_⟩:=h;have⟨p,E,A,F⟩:=TC hx h (τ w).toNat w a om ha
  let c:=λi=>(mget m (back m w i)).getD zarc
  have hc:∀i,i<p->mget m (back m w i)=some (c i):=λi hi=>by have⟨b,hb⟩:=F i hi;show _=some ((mget m (back m w i)).getD zarc);rw[hb];rfl
  have d:=λi hi=>h.ent _ _ (hc i hi);have l:∀i,i<p->τ (back m w (i+1))<τ (back m w i):=λi hi=>(d i hi).2.2.2.2.2;have g:∀i j,i<j->j<=p->τ (back m w j)<τ (back m w i):=λi j o=>by
    induction j with
    | zero=>omega
    | succ j H=>
      intro n;have s:=l j om;by_cases e:i=j
      · subst e;exact s
      · have:=H om om;omega
  refine⟨back m w,c,p,⟨E,hc,λi hi=>(Ch hx (d i hi).1).1,λi hi=>(d i hi).2.1,λi _=>rfl,λi hi=>(d i hi).2.2.2.1,λi _ I=>by rw[A];exact (d i I).2.2.1,λi j o n K=>?_⟩,rfl,A⟩;have N:(c i).from'=back m w (i+1):=rfl;have B:(c j).from'=back m w (j+1):=rfl;have ti:=(d i om).2.1;have C:=(d j n).2.1;have⟨e,q,L⟩:=(Ch hx (d i om).1).1.ex;have⟨e',v,oj⟩:=(Ch hx (d j n).1).1.ex;rw[K,v] at q;obtain rfl:=Zn q;have D:=g i j o om;have r:=g i (j+1) om om;rcases L with⟨_,a1,a2,a3⟩ | ⟨_,a1,a2,a3⟩<;>rcases oj with⟨_,y,z,M⟩ | ⟨_,y,z,M⟩
  · have:back m w i=back m w j:=by rw[<-ti,<-C,a2,z]
    rw[this] at D;omega
  · have:back m w i=back m w (j+1):=by rw[<-ti,<-B,a2,y]
    rw[this] at r;omega
  · have:back m w i=back m w (j+1):=by rw[<-ti,<-B,a2,y]
    rw[this] at r;omega
  · have:back m w i=back m w j:=by rw[<-ti,<-C,a2,z]
    rw[this] at D;omega
def Circ (l:List Qi) (n:Int) (f:Lz):Prop:=∀v,0<=v->v<n->lin (ex v) l f=0
theorem cut_ok {x:Qw} (hx:Bh x) (t:∀(k:Nat) e,x.l[k]?=some e->∀fw:Bool,∃a∈x.arcs,a.edge=k/\a.forward=(if fw then 1 else -1)) {f:Int} {m:List (Int×Qg)} (h:LU x f m) {g:Lz} (H:BK x.l g) (hc:Circ x.l x.n g) (r:Int->Int) (I:∀v,(r v=1/\In m f v)\/(r v=0/\¬In m f v)):
    psum (λi=>r i * lin (ex i) x.l x.flow) x.n.toNat<=0:=by
  have E:=hx.n0;have e1:∀f,psum (λi=>r i * lin (ex i) x.l f) x.n.toNat=lin (λe=>r e.To - r e.From) x.l f:=λf=>by rw[LJ (λi=>r i) (λi=>ex i)];refine Im λe K=>?_;have:=hx.edges e K;exact Om r (by rw[Int.toNat_of_nonneg E];exact this)
  have e2:psum (λi=>r i * lin (ex i) x.l g) x.n.toNat=0:=DI λi hi=>by rw[hc i om om];omega
  rw[e1] at e2;rw[e1,<-e2];refine LK _ hx.flow.1 H.1 λk e y z s hy hz=>?_;have M:=hx.flow.2 k e y s hy;have N:=H.2 k e z s hz;have A:∀fw:Bool,∀a∈x.arcs,a.edge=k->a.forward=(if fw then 1 else -1)->In m f a.from'->¬In m f a.to->(a.from'=if fw then e.From else e.To)/\(a.to=if fw then e.To else e.From)/\room x a=(if fw then e.Hi - y else y - e.Lo):=λfw a ha B b _ _=>by
    have hA:=(Ch hx ha).1;have⟨e',c,C⟩:=hA.ex;have:a.edge.toNat=k:=by omega
    rw[this,s] at c;obtain rfl:=Zn c;have d:room x a=if a.forward>0 then e.Hi - y else y - e.Lo:=by unfold room;rw[this,s,hy]
    cases fw with
    | true=>
      rw[Zc rfl] at b;rcases C with⟨l,o,p,_⟩ | ⟨l,_⟩
      · rw[d,b];exact⟨o,p,rfl⟩
      · rw[l] at b;cases b
    | false=>
      rw[Zb dc] at b;rcases C with⟨l,_⟩ | ⟨l,o,p,_⟩
      · rw[l] at b;cases b
      · rw[d,b];exact⟨o,p,rfl⟩
  have n:∀fw:Bool,In m f (if fw then e.From else e.To)->¬In m f (if fw then e.To else e.From)->(if fw then e.Hi - y else y - e.Lo)<=0:=λfw hi q=>by
    have⟨a,ha,B,b⟩:=t k e s fw;have hA:=(Ch hx ha).1;have⟨e',c,C⟩:=hA.ex;have F:a.edge.toNat=k:=by omega
    rw[F,s] at c;obtain rfl:=Zn c;have D:a.from'=(if fw then e.From else e.To)/\a.to=(if fw then e.To else e.From):=by
      cases fw with
      | true=>
        rw[Zc rfl] at b;rcases C with⟨l,o,p,_⟩ | ⟨l,_⟩
        · exact⟨o,p⟩
        · rw[l] at b;cases b
      | false=>
        rw[Zb dc] at b;rcases C with⟨l,_⟩ | ⟨l,o,p,_⟩
        · rw[l] at b;cases b
        · exact⟨o,p⟩
    rw[<-D.1] at hi;rw[<-D.2] at q;have O:=(A fw a ha B b hi q).2.2;by_cases L:1<=room x a
    · exact absurd (h.2 a ha L hi) q
    · omega
  rcases I e.To with⟨t1,t2⟩ | ⟨t1,t2⟩<;>rcases I e.From with⟨f1,f2⟩ | ⟨f1,f2⟩
  · rw[t1,f1];omega
  · have:=n false t2 f2;rw[Zb dc] at this;rw[t1,f1];omega
  · have:=n true f2 t2;rw[Zc rfl] at this;rw[t1,f1];omega
  · rw[t1,f1];omega
def Full (l:List Qi) (b:List Qg):Prop:=∀(k:Nat) e,l[k]?=some e->∀fw:Bool,∃a∈b,a.edge=k/\a.forward=(if fw then 1 else -1)
def posp (y:Int):Int:=if 0<y then y else 0
def pot (l:List Qi) (n:Int) (f:Lz):Int:=psum (λi=>posp (lin (ex i) l f)) n.toNat
theorem TD (l:List Qi) (n:Int) (f:Lz):0<=pot l n f:=LH λ_ _=>by unfold posp;split<;>omega
theorem cK {x:Qw} {c:Nat->Qg} {p:Nat} {m:Int} (h:Fd x mp w c p) (hp:Ir x x' c p m) (hm:1<=m) (v0:0<=w p) (v1:w p<x.n) (d:m<=lin (ex (w p)) x.l x.flow) (b:m<=-lin (ex (w 0)) x.l x.flow):pot x.l x.n x'.flow<pot x.l x.n x.flow:=by
  have hne:w 0≠w p:=λe=>by rw[e] at b;omega
  have a:=TB h hp;refine GN (w p).toNat (λi _=>?_) om ?_
  · rw[a];unfold one;by_cases e0:w 0=(i:Int)
    · rw[Zc e0,Zb (λe=>hne (e0.trans e.symm)),<-e0];unfold posp;split<;>split<;>omega
    · by_cases e1:w p=(i:Int)
      · rw[Zb e0,Zc e1];unfold posp;split<;>split<;>omega
      · rw[Zb e0,Zb e1];rw[show m * (0 - 0)=0 by omega,Int.add_zero];exact Zx _
  · have e:((w p).toNat:Int)=w p:=by omega
    rw[e,a];unfold one;rw[Zb hne,Zc rfl];unfold posp;split<;>split<;>omega
theorem cL {x:Qw} (hx:Bh x) (hf:Full x.l x.arcs) {g:Lz} (hg:BK x.l g) (hc:Circ x.l x.n g):
    Ok (LX x) (λr=>r.1=[]/\∃f,r.2=Qw.mk x.n x.l f x.arcs/\BK x.l f/\Circ x.l x.n f):=by
  have R:=hx.n0;have a0:=hx.n1;have net:∀f,BK x.l f->Bh (Qw.mk x.n x.l f x.arcs):=λf h=>⟨hx.n0,hx.n1,hx.l1,hx.edges,h,hx.arcs,hx.alen⟩;unfold LX;refine Ok.bind (P:=λp=>p.1=[]/\p.2.1=x.n/\p.2.2.1=x.l/\p.2.2.2.1=x.arcs/\BK x.l p.2.2.2.2/\Circ x.l x.n p.2.2.2.2) (Ok.loop (λk s=>s.1=x.n/\s.2.1=x.l/\s.2.2.1=x.arcs/\BK x.l s.2.2.2/\pot x.l x.n s.2.2.2=k) (pot x.l x.n x.flow).toNat ⟨rfl,rfl,rfl,hx.flow,by have:=TD x.l x.n x.flow;dsimp only;omega⟩ λk s D=>?_) λp hp=>?_
  · have⟨Q,S,F,T,h5⟩:=D;have⟨n,l,ar,f⟩:=s;dsimp only at Q S F T h5 ⊢;subst Q;subst S;subst F;have hy:=net f T;refine (bW hy).bind λE hE=>?_;have⟨e1,e2⟩:=hE;dsimp only at e1 e2;refine Ok.bind (P:=λr=>match r with | .inl _=>∀v,0<=v->v<x.n->lv E v<=0 | .inr p=>p.1=x.n/\p.2.1=x.l/\p.2.2.1=x.arcs/\BK x.l p.2.2.2/\pot x.l x.n p.2.2.2<k)
      (Ok.loop (λg s=>∃i:Nat,s=i/\i+g=E.length/\∀v:Int,0<=v->v<i->lv E v<=0) E.length ⟨0,rfl,om,λv v0 v1=>absurd v1 om⟩ λg' s D=>?_) λr b=>?_
    · have⟨i,Q,S,F⟩:=D;subst Q;refine Ok.ite (λhi=>?_) (λhi=>?_)
      · have hi:(i:Int)<E.length:=Zt hi;unfold jn;apply Ok.lv om hi;refine Ok.ite (λB=>?_) (λB=>?_)
        · have B:lv E i<=0:=Zt B;refine Ok.mk ⟨g' - 1,om,i+1,by rw[w64 om om];rfl,om,λv v0 v1=>?_⟩;by_cases e:v=i
          · rw[e];exact B
          · exact F v v0 om
        · have B:¬lv E i<=0:=Zy B;refine (cF hy (f:=(i:Int)) om (by show (i:Int)<x.n;omega)).bind λmm hm=>?_;obtain⟨m,rfl,H⟩:=hm;refine Ok.bind (P:=λr=>match r with | .inl _=>False | .inr p=>p.1=x.n/\p.2.1=x.l/\p.2.2.1=x.arcs/\BK x.l p.2.2.2/\pot x.l x.n p.2.2.2<k)
            (Ok.loop (λg s=>∃j:Nat,s=j/\j+g=x.n.toNat/\∀w:Int,0<=w->w<j->(∃a,mget m w=some a)->0<=lv E w) x.n.toNat ⟨0,rfl,om,λv v0 v1=>absurd v1 om⟩ λI s D=>?_) λr b=>?_
          · have⟨j,j1,j2,U⟩:=D;subst j1;refine Ok.ite (λC=>?_) (λC=>?_)
            · have C:(j:Int)<x.n:=Zt C;refine Ok.opt (P:=λr=>r=lv E j) (λ_=>?_) λr b=>?_
              · exact⟨_,LP om om,rfl⟩
              · cases t:mget m (j:Int) with
                | none=>
                  have e:AY (some m) (j:Int)=none:=t;rw[e];refine Ok.mk ⟨I - 1,om,j+1,by rw[w64 om om];rfl,om,λw V w1 o=>?_⟩;by_cases e:w=j
                  · have⟨a,ha⟩:=o;rw[e,t] at ha;cases ha
                  · exact U w V om o
                | some a=>
                  have e:AY (some m) (j:Int)=some a:=t;rw[e] at b ⊢;have b:=b rfl;subst b;simp only[Option.isSome_some,Bool.true_and];refine Ok.ite (λo=>?_) (λo=>?_)
                  · have o:lv E j<0:=Zt o;apply Ok.lv om om;have⟨b1,b2,b3⟩:=e2 j om C;have⟨d1,d2,d3⟩:=e2 i om om;rw[w64 om om];have⟨u,c,p,K,L,y⟩:=cJ hy H t;have q1:=TE (lv E i) (0 - lv E j);have q2:=TF (lv E i) (0 - lv E j);have d:=TG hy K (most:=imin (lv E i) (0 - lv E j)) (TH om om);rw[L,y] at d;refine d.bind λr b=>?_;have⟨r1,r2,M⟩:=b;refine Ok.mk ⟨M.n,M.l,M.arcs,M.flow,?_⟩;have W:=cK K M r1 (by rw[y];omega) (by rw[y];show (i:Int)<x.n;omega) (by rw[y];show r.1<=lin (ex i) x.l f;omega) (by rw[L];show r.1<=-lin (ex j) x.l f;omega);dsimp only at W ⊢;omega
                  · have o:¬lv E j<0:=Zy o;refine Ok.mk ⟨I - 1,om,j+1,by rw[w64 om om];rfl,om,λw V w1 o=>?_⟩;by_cases e:w=j
                    · rw[e];omega
                    · exact U w V om o
            · have C:¬(j:Int)<x.n:=Zy C;apply Ok.mk
              -- no node that can be reached lacks: a cut
              classical
              have z:=cut_ok hy hf H hg hc (λv=>if In m i v then 1 else 0) (λv=>by
                by_cases e:In m i v
                · exact .inl ⟨Zc e,e⟩
                · exact .inr ⟨Zb e,e⟩)
              have A:psum (λ_=>0) x.n.toNat<psum (λN=>(if In m i (N:Int) then (1:Int) else 0) * lin (ex N) x.l f) x.n.toNat:=by
                refine GN i (λq hq=>?_) om ?_
                · by_cases e:In m i (q:Int)
                  · rw[Zc e,Int.one_mul,<-(e2 q om om).1];rcases e with e | e
                    · rw[e];omega
                    · exact U q om om e
                  · rw[Zb e];omega
                · rw[Zc (.inl rfl),Int.one_mul,<-(e2 i om om).1];omega
              have hz:psum (λ_=>0) x.n.toNat=0:=DI λ_ _=>rfl;rw[hz] at A;have z:psum (λN=>(if In m i (N:Int) then (1:Int) else 0) * lin (ex N) x.l f) x.n.toNat<=0:=z;exact absurd A om
          · cases r with
            | inl u=>exact b.elim
            | inr p=>exact Ok.mk b
      · have hi:¬(i:Int)<E.length:=Zy hi;exact Ok.mk λv v0 v1=>F v v0 om
    · cases r with
      | inl u=>
        refine Ok.mk ⟨rfl,rfl,rfl,rfl,T,?_⟩;have b:∀v,0<=v->v<x.n->lv E v<=0:=b;have O:psum (λi=>(1:Int) * lin (ex i) x.l f) x.n.toNat=0:=by
          rw[LJ (λ_=>1) (λi=>ex i)];have:lin (λe=>psum (λi=>(1:Int) * ex i e) x.n.toNat) x.l f=lin (λ_=>0) x.l f:=Im λe he=>by have:=Om (λ_=>1) (n:=x.n.toNat) (e:=e) (by rw[Int.toNat_of_nonneg R];exact hx.edges e he);rw[this];omega
          rw[this,On]
        intro v v0 v1;have⟨a1,_⟩:=e2 v v0 v1;have a2:=b v v0 v1;show lin (ex v) x.l f=0;by_cases hz:lin (ex v) x.l f=0
        · exact hz
        · have:psum (λi=>(1:Int) * lin (ex i) x.l f) x.n.toNat<psum (λ_=>0) x.n.toNat:=GN v.toNat (λi hi=>by
            have b1:=(e2 i om om).1;have b2:=b i om om;show (1:Int) * lin (ex i) x.l f<=0;omega) om (by
            have e:((v.toNat:Nat):Int)=v:=by omega
            show (1:Int) * lin (ex ((v.toNat:Nat):Int)) x.l f<0;rw[e];omega)
          rw[O,DI λ_ _=>rfl] at this;omega
      | inr p=>have⟨X,Y,Z,p4,p5⟩:=b;have:=TD x.l x.n p.2.2.2;refine Ok.mk ⟨(pot x.l x.n p.2.2.2).toNat,om,X,Y,Z,p4,by dsimp only;omega⟩
  · have⟨X,Y,Z,p4,p5,p6⟩:=hp;refine Ok.mk ⟨X,p.2.2.2.2,?_,p5,p6⟩;rw[Y,Z,p4]
theorem cM {l:List Qi} {f:Qi->Option Bool} (hl:l.length<=1000000000) (h:∀e∈l,f e=some false):Is l f=some (-1):=by
  have key:Ok (Is l f) (λr=>r=-1):=by
    unfold Is;refine Ok.bind (P:=λr=>r=.inl ()) (Ok.loop (λg s=>∃i:Nat,s=i/\i+g=l.length) l.length ⟨0,rfl,om⟩ λg s b=>?_) λr a=>by subst a;exact Ok.mk rfl
    have⟨i,c,m⟩:=b;subst c;refine Ok.ite (λhi=>?_) (λ_=>Ok.mk rfl);have hi:(i:Int)<l.length:=Zt hi;refine Ok.idx om hi λe d _=>?_;rw[h e d];exact Ok.mk ⟨g - 1,om,i+1,by rw[w64 om om];rfl,om⟩
  obtain⟨r,a,rfl⟩:=key;exact a
theorem cO {l:List Qi} {f:Qi->Option Bool} (hl:l.length<=1000000000) (h:∀e∈l,f e=some false):LY l f=some false:=by unfold LY;rw[cM hl h];rfl
structure LZ (n:Int) (l:List Qi):Prop where
  n0:0<=n
  n1:n<=64
  len:l.length<=256
  edges:∀e∈l,Hh n e
theorem cP {n:Int} {l:List Qi} (h:LZ n l):La n l=some 0:=by
  have h0:=h.n0;have d:=h.n1;have f:=h.len;have b:∀e∈l,Lb e (λx0=>Hl x0 n)=some false:=λe c=>by
    have a:=h.edges e c;have a1:=a.f0;have a2:=a.f1;have a3:=a.t0;have a4:=a.t1;have a5:=a.lo;have a6:=a.le;have a7:=a.hi;have a8:=a.c0;have a9:=a.c1;have q:∀v,0<=v->v<n->Hl v n=some true:=λv v0 v1=>by unfold Hl;rw[decide_eq_true (show v>=0 from v0),decide_eq_true v1];rfl
    unfold Lb;dsimp only;rw[q _ a1 a2];simp only[Za];rw[show ((!true)==false)=true from rfl,TI,q _ a3 a4];simp only[Za];rw[decide_eq_false (show ¬e.Lo<0 by omega),decide_eq_false (show ¬e.Lo>e.Hi by omega),decide_eq_false (show ¬e.Hi>1000 by omega),decide_eq_false (show ¬e.Cost< -1000 by omega),decide_eq_false (show ¬e.Cost>1000 by omega)];rfl
  unfold La;rw[decide_eq_false (show ¬n>64 by omega),decide_eq_false (show ¬(l.length:Int)>256 by omega),decide_eq_false (show ¬n<0 by omega),cO om b];rfl
theorem cR {n:Int} {l:List Qi} (h:LZ n l):Ok (Lc n l) (λx=>x.n=n/\x.l=l/\Bh x/\Full l x.arcs):=by
  have h0:=h.n0;have A:=h.n1;have B:=h.len;unfold Lc;apply Ok.mk' om om;refine Ok.bind (P:=λp=>p.1.length=2 * l.length/\(∀a∈p.1,E6 l a)/\Full l p.1/\BK l p.2) (Ok.loop (λg s=>∃i:Nat,s.1=i/\i+g=l.length/\s.2.1.length=2 * i/\(∀a∈s.2.1,E6 l a)/\(∀(k:Nat) e,k<i->l[k]?=some e->∀fw:Bool,∃a∈s.2.1,a.edge=k/\a.forward=(if fw then 1 else -1))/\s.2.2.length=l.length/\∀(k:Nat) e,k<i->l[k]?=some e->s.2.2[k]?=some e.Lo) l.length ⟨0,rfl,om,rfl,λa ha=>(by cases ha),λk e b=>absurd b om,sm,λk e b=>absurd b om⟩ λg s C=>?_) λp hp=>?_
  · have⟨i,t,I,v,f,m,o,q⟩:=C;have⟨K,L,fl⟩:=s;dsimp only at t v f m o q ⊢;subst t;refine Ok.ite (λhi=>?_) (λhi=>?_)
    · have hi:(i:Int)<l.length:=Zt hi;refine Ok.idx om hi λe D d=>?_;have d:l[i]?=some e:=by simpa using d
      have z:=h.edges e D;have M:=z.c0;have N:=z.c1;refine Ok.setAt om om (Ok.rm so ?_);rw[w64 (n:=0 - e.Cost) om om];refine Ok.mk ⟨g - 1,om,i+1,by rw[w64 om om];rfl,om,so,λa ha=>?_,λk e' b c fw=>?_,by rw[ZK];exact o,λk e' b c=>?_⟩
      · rcases ZH.1 ha with ha | ha
        · exact f a ha
        · have hx:l[((i:Int)).toNat]?=some e:=by simpa using d
          rcases Zp.1 ha with rfl | ha
          · exact⟨by dsimp only;omega,e,hx,.inl ⟨rfl,rfl,rfl,rfl⟩⟩
          · rw[Zi.1 ha];exact⟨by dsimp only;omega,e,hx,.inr ⟨rfl,rfl,rfl,by dsimp only;omega⟩⟩
      · by_cases r:k=i
        · subst r
          cases fw with
          | true=>exact⟨_,mem_append_right _ (Zs ..),rfl,rfl⟩
          | false=>exact⟨_,mem_append_right _ (ZE _ (Zs ..)),rfl,rfl⟩
        · have⟨a,ha,hb⟩:=m k e' om c fw;exact⟨a,mem_append_left _ ha,hb⟩
      · dsimp only;rw[getElem?_set];by_cases r:i=k
        · subst r;rw[d] at c;obtain rfl:=Zn c;rw[Zc om,Zc om]
        · rw[Zb om];exact q k e' om c
    · have hi:¬(i:Int)<l.length:=Zy hi;have:i=l.length:=by omega
      subst this;refine Ok.mk ⟨v,f,λk e b fw=>m k e (Zf.1 b).1 b fw,o,λk e y b hy=>?_⟩;have:=q k e (Zf.1 b).1 b;dsimp only at hy;rw[this] at hy;obtain rfl:=Zn hy;exact⟨Zx _,(h.edges e (Zo b)).le⟩
  · have⟨O,E,F,H⟩:=hp;exact Ok.mk ⟨rfl,rfl,⟨h0,A,B,h.edges,H,E,by dsimp only;omega⟩,F⟩
theorem TJ (a:Qi->Int):∀{l:List Qi} {f:Lz},(∀e∈l,-1000<=a e/\a e<=1000)->(∀y∈f,0<=y/\y<=1000)->-1000000 * (l.length:Int)<=lin a l f
  | [],_,_,_=>by simp[lin]
  | e::l,[],_,_=>by simp[lin];omega
  | e::l,y::f,h1,h2=>by
    have d:=TJ a (l:=l) (f:=f) (λe b=>h1 e (by simp[b])) (λy hy=>h2 y (by simp[hy]));have⟨a1,a2⟩:=h1 e sm;have⟨c,g⟩:=h2 y sm;have:-1000 * y<=a e * y:=Int.mul_le_mul_of_nonneg_right a1 c;show _<=a e * y+lin a l f;simp only[Zj]
    push_cast
    omega
structure Best (n:Int) (l:List Qi) (f L:Lz):Prop where
  within:BK l f
  circ:Circ l n f
  len:(L.length:Int)=n
  bd:∀v,0<=v->v<n->-100000000<=lv L v/\lv L v<=0
  slack:∀(k:Nat) e y,l[k]?=some e->f[k]?=some y->(y<e.Hi->lv L e.To<=lv L e.From+e.Cost)/\(e.Lo<y->lv L e.From<=lv L e.To - e.Cost)
theorem cS {n:Int} {l:List Qi} (h:∀e∈l,Hh n e) {f:Lz} (hf:BK l f):∀y∈f,0<=y/\y<=1000:=λy hy=>by
  obtain⟨k,d,rfl⟩:=mem_iff_getElem.1 hy;have c:k<l.length:=by rw[<-hf.1];exact d
  have⟨a,b⟩:=hf.2 k _ _ (Zd c) (Zd d);have g:=h _ (Zr c);have:=g.lo;have:=g.hi;omega
theorem TK {n:Int} {l:List Qi} (h:LZ n l) {g:Lz} (hg:BK l g) (hc:Circ l n g):
    Ok (GS n l) (λr=>r.2.2=0/\Best n l r.1.Flow r.1.Level):=by
  unfold GS;rw[cP h];simp only[Za];rw[Zb dc];refine (cR h).bind λx hx=>?_;have⟨x1,x2,t,N⟩:=hx;subst x1;subst x2;refine (cL t N hg hc).bind λr O=>?_;have⟨r1,f,r2,Y,r4⟩:=O;rw[r1,r2];simp only[isEmpty_nil,Bool.not_true];rw[Zb dc];have net:∀f,BK x.l f->Bh (Qw.mk x.n x.l f x.arcs):=λf h=>⟨t.n0,t.n1,t.l1,t.edges,h,t.arcs,t.alen⟩;have low:∀f,BK x.l f->-256000000<=lin (·.Cost) x.l f:=λf hf=>by have:=TJ (·.Cost) (l:=x.l) (f:=f) (λe Z=>⟨(t.edges e Z).c0,(t.edges e Z).c1⟩) (cS t.edges hf);have:=t.l1;omega
  refine Ok.bind (P:=λp=>p.2.1=0/\Best x.n x.l p.2.2.Flow p.2.2.Level) (Ok.loop (λk s=>s.1=x.n/\s.2.1=x.l/\s.2.2.1=x.arcs/\BK x.l s.2.2.2/\Circ x.l x.n s.2.2.2/\lin (·.Cost) x.l s.2.2.2+256000000=k) (lin (·.Cost) x.l f+256000000).toNat ⟨rfl,rfl,rfl,Y,r4,by have:=low f Y;dsimp only;omega⟩ λk s hs=>?_) λp hp=>Ok.mk hp;have⟨h1,h2,h3,Q,R,h6⟩:=hs;have⟨n',l',ar,S⟩:=s;dsimp only at h1 h2 h3 Q R h6 ⊢;subst h1;subst h2;subst h3;have hy:=net S Q;refine (cT hy).bind λr O=>?_;rcases O with⟨hn,hl⟩ | ⟨m,hm,T⟩
  · rw[hn];refine Ok.mk ⟨rfl,Q,R,hl.1,hl.2.1,λk e y M E=>?_⟩;have z:∀a:Qg,a.edge=k->room (Qw.mk x.n x.l S x.arcs) a=if a.forward>0 then e.Hi - y else y - e.Lo:=λa ha=>by
      have:a.edge.toNat=k:=by omega
      have E:S[k]?=some y:=E;unfold room;rw[this];dsimp only;rw[M,E]
    have B:∀a,a∈x.arcs->a.edge=k->(a.forward=1->a.from'=e.From/\a.to=e.To/\a.cost=e.Cost)/\(a.forward=-1->a.from'=e.To/\a.to=e.From/\a.cost=-e.Cost):=λa ha o=>by
      have⟨e',K,ho⟩:=(t.arcs a ha).ex;have:a.edge.toNat=k:=by omega
      rw[this,M] at K;obtain rfl:=Zn K;rcases ho with⟨C,D,d,U⟩ | ⟨C,D,d,U⟩
      · exact⟨λ_=>⟨D,d,U⟩,λq=>(by rw[C] at q;cases q)⟩
      · exact⟨λq=>(by rw[C] at q;cases q),λ_=>⟨D,d,U⟩⟩
    refine⟨λV=>?_,λV=>?_⟩
    · have⟨a,ha,o,b⟩:=N k e M true;rw[Zc rfl] at b;have⟨C,D,d⟩:=(B a ha o).1 b;have:=hl.2.2 a ha (by rw[z a o,b,Zc dc];omega);rw[C,D,d] at this;exact this
    · have⟨a,ha,o,b⟩:=N k e M false;rw[Zb dc] at b;have⟨C,D,d⟩:=(B a ha o).2 b;have:=hl.2.2 a ha (by rw[z a o,b,Zb dc];omega);rw[C,D,d] at this;dsimp only;omega
  · rw[hm];have⟨w,c,p,F,w0,wp,L⟩:=T;simp only[Option.isNone_some];rw[Zb dc];have A:=TG hy F (most:=1000) dc;rw[w0,wp] at A;refine A.bind λq hq=>?_;have⟨C,D,d⟩:=hq;have W:=d.flow;have H:=cI F d;dsimp only at H W;have I:Circ x.l x.n q.2.flow:=λv v0 v1=>by
      have:=TB F d v;rw[w0,wp] at this;have X:=R v v0 v1;dsimp only at this;rw[this,X,Int.sub_self];omega
    have a1:=low q.2.flow W;have a0:q.1 * psum (λi=>(c i).cost) p<=-1:=by have:q.1 * psum (λi=>(c i).cost) p<=q.1 * (-1):=Int.mul_le_mul_of_nonneg_left L om;omega
    exact Ok.mk ⟨(lin (·.Cost) x.l q.2.flow+256000000).toNat,om,d.n,d.l,d.arcs,W,I,by dsimp only;omega⟩
section
variable (old:Lz) (to:Nat) (lo hi:Int)
def e0 (j:Nat):Qi:=⟨to,j,0,kc old j,0⟩
def e1 (j:Nat):Qi:=⟨to,j,0,old.length,1⟩
def e2 (j:Nat):Qi:=⟨j,(to:Int)+1,lo,hi,0⟩
def eb:Qi:=⟨(to:Int)+1,to,old.length,old.length,0⟩
def netN:Nat->List Qi
  | 0=>[]
  | n+1=>netN n++[e0 old to n,e1 old to n,e2 to lo hi n]
def net:List Qi:=netN old to lo hi to++[eb old to]
variable {old to lo hi}
theorem Fg:∀n,(netN old to lo hi n).length=3 * n
  | 0=>rfl
  | n+1=>by show (netN old to lo hi n++_).length=_;rw[Ze,Fg n];simp;omega
theorem Hm:(net old to lo hi).length=3 * to+1:=by unfold net;rw[Ze,Fg];rfl
theorem TL:∀(n j:Nat),j<n->(netN old to lo hi n)[3 * j]?=some (e0 old to j)/\(netN old to lo hi n)[3 * j+1]?=some (e1 old to j)/\(netN old to lo hi n)[3 * j+2]?=some (e2 to lo hi j)
  | 0,j,h=>absurd h om
  | n+1,j,h=>by
    have hl:=Fg (old:=old) (to:=to) (lo:=lo) (hi:=hi) n;show (netN old to lo hi n++_)[3 * j]?=_/\(netN old to lo hi n++_)[3 * j+1]?=_/\(netN old to lo hi n++_)[3 * j+2]?=_;by_cases e:j=n
    · subst e;rw[ZA om,ZA om,ZA om,hl];rw[show 3 * j - 3 * j=0 by omega,show 3 * j+1 - 3 * j=1 by omega,show 3 * j+2 - 3 * j=2 by omega];exact⟨rfl,rfl,rfl⟩
    · rw[Zv om,Zv om,Zv om];exact TL n j om
theorem It (h:j<to):(net old to lo hi)[3 * j]?=some (e0 old to j)/\(net old to lo hi)[3 * j+1]?=some (e1 old to j)/\(net old to lo hi)[3 * j+2]?=some (e2 to lo hi j):=by have hl:=Fg (old:=old) (to:=to) (lo:=lo) (hi:=hi) to;unfold net;rw[Zv om,Zv om,Zv om];exact TL to j h
theorem Oq:(net old to lo hi)[3 * to]?=some (eb old to):=by unfold net;rw[ZA (by rw[Fg];exact Zq _),Fg,Nat.sub_self];rfl
theorem TM {e:Qi} (h:(net old to lo hi)[i]?=some e):(∃j,j<to/\((i=3 * j/\e=e0 old to j)\/(i=3 * j+1/\e=e1 old to j)\/(i=3 * j+2/\e=e2 to lo hi j)))\/(i=3 * to/\e=eb old to):=by
  have a:=(Zf.1 h).1;rw[Hm] at a;by_cases e':i=3 * to
  · subst e';rw[Oq] at h;exact .inr ⟨rfl,(Zn h).symm⟩
  · refine .inl ⟨i / 3,om,?_⟩;have⟨h0,b,c⟩:=It (old:=old) (to:=to) (lo:=lo) (hi:=hi) (j:=i / 3) om;have:i % 3=0\/i % 3=1\/i % 3=2:=by omega
    rcases this with q | q | q
    · rw[show i=3 * (i / 3) by omega,h0] at h;exact .inl ⟨om,(Zn h).symm⟩
    · rw[show i=3 * (i / 3)+1 by omega,b] at h;exact .inr (.inl ⟨om,(Zn h).symm⟩)
    · rw[show i=3 * (i / 3)+2 by omega,c] at h;exact .inr (.inr ⟨om,(Zn h).symm⟩)
theorem Dj {f:Lz} (h:i<f.length):f[i]?=some (uf f i):=by unfold uf lv;rw[Zu,Zd h];rfl
theorem TN (a:Qi->Int) {f:Lz} (hf:f.length=3 * to+1):
    lin a (net old to lo hi) f=psum (λj=>a (e0 old to j) * uf f (3 * j)+a (e1 old to j) * uf f (3 * j+1)+a (e2 to lo hi j) * uf f (3 * j+2)) to+a (eb old to) * uf f (3 * to):=by
  have key:∀n,n<=to->lin a ((net old to lo hi).take (3 * n)) (f.take (3 * n))=psum (λj=>a (e0 old to j) * uf f (3 * j)+a (e1 old to j) * uf f (3 * j+1)+a (e2 to lo hi j) * uf f (3 * j+2)) n:=λn=>by
    induction n with
    | zero=>intro _;rfl
    | succ n b=>intro e;have⟨h0,c,d⟩:=It (old:=old) (to:=to) (lo:=lo) (hi:=hi) (j:=n) om;rw[show 3 * (n+1)=3 * n+1+1+1 by omega,Hj a (k:=3 * n+1+1) d (Dj om),Hj a (k:=3 * n+1) c (Dj om),Hj a (k:=3 * n) h0 (Dj om),b om];show psum (λj=>a (e0 old to j) * uf f (3 * j)+a (e1 old to j) * uf f (3 * j+1)+a (e2 to lo hi j) * uf f (3 * j+2)) n+a (e0 old to n) * uf f (3 * n)+a (e1 old to n) * uf f (3 * n+1)+a (e2 to lo hi n) * uf f (3 * n+2)=psum _ n+(a (e0 old to n) * uf f (3 * n)+a (e1 old to n) * uf f (3 * n+1)+a (e2 to lo hi n) * uf f (3 * n+2));omega
  have h:=Hj a (Oq (old:=old) (to:=to) (lo:=lo) (hi:=hi)) (Dj (f:=f) (i:=3 * to) om);rw[key to (Zq _),Zw (by rw[Hm];exact Zq _),Zw om] at h;exact h
structure Iu (old:Lz) (to:Nat) (lo hi:Int):Prop where
  nl:old.length<=512
  tl:to<=62
  b:0<to->0<=lo/\lo<=hi/\hi<=old.length
theorem O0 (h:Iu old to lo hi):LZ ((to:Int)+2) (net old to lo hi):=by
  have c:=h.nl;have d:=h.tl;refine⟨om,om,by rw[Hm];omega,λe b=>?_⟩;obtain⟨i,a,rfl⟩:=mem_iff_getElem.1 b;have:=Zd a;generalize (net old to lo hi)[i]=e at *;rcases TM this with⟨j,f,⟨_,rfl⟩ | ⟨_,rfl⟩ | ⟨_,rfl⟩⟩ | ⟨_,rfl⟩
  · have:=CP old j;refine⟨?_,?_,?_,?_,?_,?_,?_,?_,?_,?_⟩<;>(show _)<;>(unfold e0;dsimp only;omega)
  · refine⟨?_,?_,?_,?_,?_,?_,?_,?_,?_,?_⟩<;>(unfold e1;dsimp only;omega)
  · have⟨g,l,m⟩:=h.b om;refine⟨?_,?_,?_,?_,?_,?_,?_,?_,?_,?_⟩<;>(unfold e2;dsimp only;omega)
  · refine⟨?_,?_,?_,?_,?_,?_,?_,?_,?_,?_⟩<;>(unfold eb;dsimp only;omega)
structure BU (old:Lz) (to:Nat) (lo hi:Int) (f:Lz):Prop where
  len:f.length=3 * to+1
  a:∀j,j<to->0<=uf f (3 * j)/\uf f (3 * j)<=kc old j
  b:∀j,j<to->0<=uf f (3 * j+1)/\uf f (3 * j+1)<=old.length
  c:∀j,j<to->lo<=uf f (3 * j+2)/\uf f (3 * j+2)<=hi
  z:uf f (3 * to)=old.length
  s:∀j,j<to->uf f (3 * j)+uf f (3 * j+1)=uf f (3 * j+2)
  t:psum (λj=>uf f (3 * j+2)) to=old.length
theorem O1 {f:Lz} (hf:f.length=3 * to+1) (v:Int):
    lin (ex v) (net old to lo hi) f=psum (λj=>(uf f (3 * j)+uf f (3 * j+1) - uf f (3 * j+2)) * one ((j:Int)=v)) to+one ((to:Int)=v) * (uf f (3 * to) - psum (λj=>uf f (3 * j)+uf f (3 * j+1)) to)+one ((to:Int)+1=v) * (psum (λj=>uf f (3 * j+2)) to - uf f (3 * to)):=by
  rw[TN (ex v) hf];have e:psum (λj=>ex v (e0 old to j) * uf f (3 * j)+ex v (e1 old to j) * uf f (3 * j+1)+ex v (e2 to lo hi j) * uf f (3 * j+2)) to
      =psum (λj=>(uf f (3 * j)+uf f (3 * j+1) - uf f (3 * j+2)) * one ((j:Int)=v)+(one ((to:Int)+1=v) * uf f (3 * j+2) - one ((to:Int)=v) * (uf f (3 * j)+uf f (3 * j+1)))) to:=Bt λj _=>by
    unfold ex e0 e1 e2;dsimp only;generalize one ((j:Int)=v)=x;generalize one ((to:Int)=v)=y;generalize one ((to:Int)+1=v)=w;generalize uf f (3 * j)=a;generalize uf f (3 * j+1)=b;generalize uf f (3 * j+2)=c;simp only[Int.sub_mul,Int.mul_add,Int.add_mul,Int.mul_comm a x,Int.mul_comm b x,Int.mul_comm c x];omega
  rw[e,GO,EO (g:=λj=>one ((to:Int)+1=v) * uf f (3 * j+2))];have d:∀(y:Int) (g:Nat->Int) n,psum (λj=>y * g j) n=y * psum g n:=λy g n=>by
    induction n with
    | zero=>show (0:Int)=y * 0;omega
    | succ n h=>show psum (λj=>y * g j) n+y * g n=y * (psum g n+g n);rw[h,Int.mul_add]
  rw[d,d _ (λj=>uf f (3 * j)+uf f (3 * j+1))];have l:ex v (eb old to)=one ((to:Int)=v) - one ((to:Int)+1=v):=rfl;rw[l];generalize psum (λj=>uf f (3 * j+2)) to=P;generalize psum (λj=>uf f (3 * j)+uf f (3 * j+1)) to=R;generalize one ((to:Int)=v)=y;generalize one ((to:Int)+1=v)=w;generalize uf f (3 * to)=z;simp only[Int.sub_mul,Int.mul_sub];omega
theorem O2 {f:Lz} (h:BU old to lo hi f):BK (net old to lo hi) f/\Circ (net old to lo hi) ((to:Int)+2) f:=by
  refine⟨⟨by rw[h.len,Hm],λi e y c hy=>?_⟩,λv _ _=>?_⟩
  · have b:i<f.length:=(Zf.1 hy).1;rw[Dj b] at hy;obtain rfl:=Zn hy;rcases TM c with⟨j,a,⟨rfl,rfl⟩ | ⟨rfl,rfl⟩ | ⟨rfl,rfl⟩⟩ | ⟨rfl,rfl⟩
    · exact h.a j a
    · exact h.b j a
    · exact h.c j a
    · rw[h.z];exact⟨Zx _,Zx _⟩
  · rw[O1 h.len];have e1:psum (λj=>(uf f (3 * j)+uf f (3 * j+1) - uf f (3 * j+2)) * one ((j:Int)=v)) to=0:=DI λj a=>by
      have:=h.s j a;rw[show uf f (3 * j)+uf f (3 * j+1) - uf f (3 * j+2)=0 by omega];omega
    have e2:psum (λj=>uf f (3 * j)+uf f (3 * j+1)) to=old.length:=by rw[<-h.t];exact Bt λj a=>h.s j a
    rw[e1,e2,h.t,h.z];simp
theorem cU {f:Lz} (b:BK (net old to lo hi) f) (hc:Circ (net old to lo hi) ((to:Int)+2) f):BU old to lo hi f:=by
  have hl:f.length=3 * to+1:=by rw[b.1,Hm]
  have hz:uf f (3 * to)=old.length:=by have:=b.2 (3 * to) _ _ Oq (Dj om);unfold eb at this;dsimp only at this;omega
  have g:∀j,j<to->uf f (3 * j)+uf f (3 * j+1)=uf f (3 * j+2):=λj a=>by
    have:=hc j om om;rw[O1 hl] at this;have c:one ((to:Int)=(j:Int))=0:=by unfold one;rw[Zb om]
    have d:one ((to:Int)+1=(j:Int))=0:=by unfold one;rw[Zb om]
    rw[c,d] at this;have e:psum (λi=>(uf f (3 * i)+uf f (3 * i+1) - uf f (3 * i+2)) * one ((i:Int)=(j:Int))) to=psum (up (λ_=>0) j (uf f (3 * j)+uf f (3 * j+1) - uf f (3 * j+2))) to:=Bt λi _=>by
      unfold up one;by_cases q:i=j
      · subst q;rw[Zc rfl,Zc rfl];show (uf f (3 * i)+uf f (3 * i+1) - uf f (3 * i+2)) * 1=(0:Int)+(uf f (3 * i)+uf f (3 * i+1) - uf f (3 * i+2));omega
      · rw[Zb om,Zb q];show (uf f (3 * i)+uf f (3 * i+1) - uf f (3 * i+2)) * 0=(0:Int);omega
    rw[e,Fc,Zc a,DI λ_ _=>rfl] at this;omega
  have ht:psum (λj=>uf f (3 * j+2)) to=old.length:=by
    have:=hc ((to:Int)+1) om om;rw[O1 hl] at this;have c:one ((to:Int)=(to:Int)+1)=0:=by unfold one;rw[Zb om]
    have d:one ((to:Int)+1=(to:Int)+1)=1:=by unfold one;rw[Zc rfl]
    have e:psum (λi=>(uf f (3 * i)+uf f (3 * i+1) - uf f (3 * i+2)) * one ((i:Int)=(to:Int)+1)) to=0:=DI λi h=>by unfold one;rw[Zb om];omega
    rw[c,d,e] at this;omega
  refine⟨hl,λj a=>?_,λj a=>?_,λj a=>?_,hz,g,ht⟩
  · exact b.2 (3 * j) _ _ (It a).1 (Dj om)
  · exact b.2 (3 * j+1) _ _ (It a).2.1 (Dj om)
  · exact b.2 (3 * j+2) _ _ (It a).2.2 (Dj om)
theorem TO {f:Lz} (h:BU old to lo hi f):lin (·.Cost) (net old to lo hi) f=old.length - psum (λj=>uf f (3 * j)) to:=by
  rw[TN _ h.len];have:psum (λj=>(e0 old to j).Cost * uf f (3 * j)+(e1 old to j).Cost * uf f (3 * j+1)+(e2 to lo hi j).Cost * uf f (3 * j+2)) to=psum (λj=>uf f (3 * j+2) - uf f (3 * j)) to:=Bt λj a=>by have:=h.s j a;show 0 * uf f (3 * j)+1 * uf f (3 * j+1)+0 * uf f (3 * j+2)=_;omega
  rw[this,EO (g:=λj=>uf f (3 * j+2)),h.t];show _+0 * _=_;omega
end
theorem cV {n:Int} {l:List Qi} (hl:∀e∈l,Hh n e) {f L g:Lz} (h:Best n l f L) (m:BK l g) (hc:Circ l n g):lin (·.Cost) l f<=lin (·.Cost) l g/\(lin (·.Cost) l g<=lin (·.Cost) l f->Best n l g L):=by
  -- the reduced costs
  have p:0<=n:=by have:=h.len;omega
  have b:∀q,Circ l n q->lin (λe=>e.Cost+(lv L e.From - lv L e.To)) l q=lin (·.Cost) l q:=λq A=>by
    have:lin (λe=>e.Cost+(lv L e.From - lv L e.To)) l q=lin (·.Cost) l q+lin (λe=>-1 * (lv L e.To - lv L e.From)) l q:=by rw[<-Oo];exact Im λe _=>by omega
    rw[this,Ot];have B:lin (λe=>lv L e.To - lv L e.From) l q=psum (λi=>lv L (i:Int) * lin (ex i) l q) n.toNat:=by rw[LJ (λi=>lv L (i:Int)) (λi=>ex i)];exact Im λe a=>(Om (λv=>lv L v) (by rw[Int.toNat_of_nonneg p];exact hl e a)).symm
    rw[B,DI λi hi=>by rw[A i om om];omega];omega
  have c:∀(k:Nat) e y z,l[k]?=some e->f[k]?=some y->g[k]?=some z->(e.Cost+(lv L e.From - lv L e.To)) * y<=(e.Cost+(lv L e.From - lv L e.To)) * z:=λk e y z a hy hz=>by
    have⟨r,s⟩:=h.slack k e y a hy;have⟨g1,g2⟩:=m.2 k e z a hz;have⟨f1,f2⟩:=h.within.2 k e y a hy;by_cases q:y<=z
    · by_cases C:y=z
      · rw[C];exact Zx _
      · have:=r om;exact Int.mul_le_mul_of_nonneg_left q om
    · have:=s om;have h0:0<=-(e.Cost+(lv L e.From - lv L e.To)):=by omega
      have:=Int.mul_le_mul_of_nonneg_left (show z<=y by omega) h0;rw[Int.neg_mul,Int.neg_mul] at this;omega
  have o:=LK _ h.within.1 m.1 c;rw[b f h.circ,b g hc] at o;refine⟨o,λD=>⟨m,hc,h.len,h.bd,λk e z a hz=>?_⟩⟩;have t:k<l.length:=(Zf.1 a).1;have d:k<f.length:=by rw[h.within.1];exact t
  have hy:f[k]?=some (f[k]'d):=Zd d;generalize f[k]'d=y at hy;have x:lin (λe=>e.Cost+(lv L e.From - lv L e.To)) l f=lin (λe=>e.Cost+(lv L e.From - lv L e.To)) l g:=by rw[b f h.circ,b g hc];omega
  have E:=S6 _ h.within.1 m.1 c x k e y z a hy hz;have⟨r,s⟩:=h.slack k e y a hy;have⟨g1,g2⟩:=m.2 k e z a hz;have⟨f1,f2⟩:=h.within.2 k e y a hy;by_cases q:y=z
  · subst q;exact⟨r,s⟩
  · have F:e.Cost+(lv L e.From - lv L e.To)=0:=by
      have:(e.Cost+(lv L e.From - lv L e.To)) * (y - z)=0:=by rw[Int.mul_sub];omega
      rcases Int.mul_eq_zero.1 this with h | h
      · exact h
      · omega
    exact⟨λ_=>om,λ_=>om⟩

/- Edit: both programs make the network. No condition. -/
import Derived.Test.YtohojolgolinoaaGreatDoorEdD
set_option linter.all false
open List Go.IntKind
namespace Go.Proofs.YtohojolgolinoaaGreatDoor
open Go.Sim
variable {old:Lz} {lo:Int} {hi:Int} {j:Int} {out:Lz} {used:Lz} {i:Nat} {β:Type} {rest:Lz} {F:Lz} {y:Int} {r:QL} {used':Lz} {Q:β->Prop}
theorem cW {to:Nat} (ht:to<=62) (B:rest.length<=600) {body:Int×Lz->Option ((Int×Lz)⊕Lz)} (hb:∀s:Int×Lz,body s=((if decide (s.1<(rest.length:Int)) then (idx rest s.1).bind λt26=>(if (decide (t26>=(0:Int)))&&(decide (t26<(to:Int))) then (idx s.2 t26).bind λt37=>(setAt s.2 t26 (i64.wrap (t37+(1:Int)))).bind λk=>some k else some s.2).bind λ(u:Lz)=>some (.inl (i64.wrap (s.1+(1:Int)),u)) else some (.inr s.2)):Option ((Int×Lz)⊕Lz))):
    Ok (Qr body ((0:Int),replicate to (0:Int))) (λc=>c.length=to/\∀j,j<to->uf c j=kc rest j):=by
  refine Ok.loop (λg s=>∃q:Nat,s.1=q/\q+g=rest.length/\s.2.length=to/\∀j,j<to->uf s.2 j=kc (rest.take q) j) rest.length ⟨0,rfl,om,sm,λj f=>?_⟩ λg s x=>?_
  · show uf (replicate _ 0) j=0;unfold uf lv;rw[getElem?_replicate];split<;>rfl
  · have⟨q,w,C,t,m⟩:=x;rw[hb];have⟨D,c⟩:=s;dsimp only at w t m ⊢;subst w;refine Ok.ite (λh=>?_) (λh=>?_)
    · have h:(q:Int)<rest.length:=Zt h;refine Ok.idx om h λv E a=>?_;have a:rest[q]?=some v:=by simpa using a
      have n:q<rest.length:=by omega
      have e1:rest.take (q+1)=rest.take q++[v]:=by rw[Zz n];rw[Zd n] at a;rw[Zn a]
      have e2:∀j,kc (rest.take (q+1)) j=kc (rest.take q) j+one (v=(j:Int)):=λj=>by
        unfold kc one;rw[e1,count_append,count_singleton];by_cases e:v=(j:Int)
        · rw[Zc (sa e),Zc e];rfl
        · rw[Zb (sa e),Zb e];omega
      refine Ok.bind (P:=λc=>c.length=to/\∀j,j<to->uf c j=kc (rest.take (q+1)) j) (Ok.ite (λo=>?_) (λo=>?_)) λH p=>Ok.mk ⟨g - 1,om,q+1,by rw[w64 om om];rfl,om,p.1,p.2⟩
      · simp only[Zh,Zk] at o;have⟨v0,v1⟩:=o;refine Ok.lv v0 om (Ok.setAt v0 om (Ok.mk ⟨by rw[ZK];exact t,λj f=>?_⟩));have b:=CP (rest.take q) v.toNat;have z:=ZY (i:=q) (l:=rest);have d:=m v.toNat om;unfold uf at d;have A:((v.toNat:Nat):Int)=v:=by omega
        rw[A] at d;show lv (c.set v.toNat _) (j:Int)=_;rw[EP v0 om _ om,e2,w64 om om];unfold one;by_cases e:(j:Int)=v
        · have:j=v.toNat:=by omega
          subst this;rw[Zc e,Zc e.symm,d]
        · rw[Zb e,Zb (λq=>e q.symm)];have:=m j f;unfold uf at this;omega
      · refine Ok.mk ⟨t,λj f=>?_⟩;rw[e2,m j f];unfold one;rw[Zb]
        · omega
        · intro e;subst e;have:(decide ((j:Int)>=0)&&decide ((j:Int)<(to:Int)))=true:=by
            rw[decide_eq_true om,decide_eq_true om];rfl
          rw[this] at o;cases o
    · have h:¬(q:Int)<rest.length:=Zy h;have:q=rest.length:=by omega
      subst this;refine Ok.mk ⟨t,λj f=>?_⟩;rw[m j f,Zw (Zq _)]
theorem cX {to:Nat} (ht:to<=62) (n:old.length<=512):GT ⟨old,used,lo,hi⟩ (to:Int)=some (net old to lo hi):=by
  have key:Ok (GT ⟨old,used,lo,hi⟩ (to:Int)) (λr=>r=net old to lo hi):=by
    unfold GT;dsimp only;apply Ok.mk' om om;refine (cW ht om (rest:=old) (λs=>rfl)).bind λc hc=>?_;have⟨o,f⟩:=hc;have h:i64.wrap ((to:Int)+1)=(to:Int)+1:=w64 om om;rw[h];refine Ok.bind (P:=λr=>r=netN old to lo hi to) (Ok.loop (λg s=>∃j:Nat,s.1=j/\j+g=to/\s.2=netN old to lo hi j) to ⟨0,rfl,om,rfl⟩ λg s k=>?_) λr b=>?_
    · have⟨j,d,p,e⟩:=k;have⟨sj,l⟩:=s;dsimp only at d e ⊢;subst d;subst e;have hl:=Fg (old:=old) (to:=to) (lo:=lo) (hi:=hi) j;refine Ok.ite (λa=>?_) (λa=>?_)
      · have a:(j:Int)<c.length:=Zt a;have m:idx c (j:Int)=some (kc old j):=by
          rw[LP om a];exact ZU some (f j om)
        rw[m];simp only[Za];refine Ok.rm so (Ok.mk ⟨g - 1,om,j+1,by rw[w64 om om];rfl,om,rfl⟩)
      · have a:¬(j:Int)<c.length:=Zy a;have:j=to:=by omega
        subst this;exact Ok.mk rfl
    · subst b;have hl:=Fg (old:=old) (to:=to) (lo:=lo) (hi:=hi) to;exact Ok.rm so (Ok.mk rfl)
  obtain⟨r,b,rfl⟩:=key;exact b
def kp:Lz->Lz->Nat->Int
  | a::l,b::m,j=>(if b=(j:Int)/\a=(j:Int) then 1 else 0)+kp l m j
  | _,_,_=>0
theorem Iv:∀(l m:Lz) (j:Nat),0<=kp l m j/\kp l m j<=kc l j/\kp l m j<=kc m j
  | [],m,j=>by have:=CP m j;show 0<=(0:Int)/\(0:Int)<=kc [] j/\(0:Int)<=kc m j;exact⟨Zx _,Zx _,this.1⟩
  | a::l,[],j=>by have:=CP (a::l) j;show 0<=(0:Int)/\(0:Int)<=kc (a::l) j/\(0:Int)<=kc [] j;exact⟨Zx _,this.1,Zx _⟩
  | a::l,b::m,j=>by have⟨c,d,e⟩:=Iv l m j;rw[ES,ES];show 0<=(if b=(j:Int)/\a=(j:Int) then 1 else 0)+kp l m j/\(if b=(j:Int)/\a=(j:Int) then 1 else 0)+kp l m j<=_/\(if b=(j:Int)/\a=(j:Int) then 1 else 0)+kp l m j<=_;unfold one;by_cases e1:b=(j:Int)<;>by_cases e2:a=(j:Int)<;>simp only[e1,e2,if_true,if_false,and_self,and_true,true_and,and_false,false_and]<;>omega
theorem TP:∀{l m:Lz} {k:Nat} {a b:Int} (j:Nat),l[k]?=some a->m[k]?=some b->kp (l.take (k+1)) (m.take (k+1)) j=kp (l.take k) (m.take k) j+(if b=(j:Int)/\a=(j:Int) then 1 else 0)
  | [],_,_,_,_,_,h,_=>by simp at h
  | _::_,[],_,_,_,_,_,h=>by simp at h
  | x::l,y::m,0,a,b,j,h1,h2=>by simp at h1 h2;subst h1;subst h2;show (if y=(j:Int)/\x=(j:Int) then 1 else 0)+kp (l.take 0) (m.take 0) j=0+_;simp[kp]
  | x::l,y::m,k+1,a,b,j,h1,h2=>by simp only[getElem?_cons_succ] at h1 h2;have:=TP j h1 h2;show (if y=(j:Int)/\x=(j:Int) then 1 else 0)+kp (l.take (k+1)) (m.take (k+1)) j=(if y=(j:Int)/\x=(j:Int) then 1 else 0)+kp (l.take k) (m.take k) j+_;rw[this];omega
theorem cY {l:Lz} {k:Nat} {a:Int} (j:Nat) (h:l[k]?=some a):kc (l.take (k+1)) j=kc (l.take k) j+one (a=(j:Int)):=by
  have b:k<l.length:=(Zf.1 h).1;have e1:l.take (k+1)=l.take k++[a]:=by rw[Zz b];rw[Zd b] at h;rw[Zn h]
  unfold kc one;rw[e1,count_append,count_singleton];by_cases e:a=(j:Int)
  · rw[Zc (sa e),Zc e];rfl
  · rw[Zb (sa e),Zb e];omega
theorem O3 {n:Nat}:∀{l m:Lz},(∀x∈m,0<=x/\x<n)->psum (kp l m) n=C3 l m
  | [],m,_=>DI λ_ _=>rfl
  | a::l,[],_=>DI λ_ _=>rfl
  | a::l,b::m,h=>by
    have c:=O3 (l:=l) (m:=m) λx hx=>h x (by simp[hx]);have⟨d,f⟩:=h b sm;have e:psum (kp (a::l) (b::m)) n=psum (λj=>(if b=a then (1:Int) else 0) * one (b=(j:Int))) n+psum (kp l m) n:=by
      rw[<-GO];refine Bt λj _=>?_;show (if b=(j:Int)/\a=(j:Int) then 1 else 0)+kp l m j=_;unfold one;by_cases e1:b=(j:Int)
      · by_cases e2:a=(j:Int)
        · rw[Zc ⟨e1,e2⟩,Zc om,Zc e1];omega
        · rw[Zb (λh=>e2 h.2),Zb om,Zc e1];omega
      · rw[Zb (λh=>e1 h.1),Zb e1];omega
    rw[e,Hg (λ_=>if b=a then (1:Int) else 0) n b,Zc ⟨d,f⟩,c];rfl
theorem O4 {n:Nat}:∀{m:Lz},(∀x∈m,0<=x/\x<n)->psum (kc m) n=m.length
  | [],_=>DI λ_ _=>rfl
  | b::m,h=>by
    have a:=O4 (m:=m) λx hx=>h x (by simp[hx]);have⟨c,d⟩:=h b sm;have e:psum (kc (b::m)) n=psum (kc m) n+psum (λj=>(1:Int) * one (b=(j:Int))) n:=by rw[<-GO];exact Bt λj _=>by rw[ES];omega
    rw[e,Hg (λ_=>1) n b,Zc ⟨c,d⟩,a];simp
def EU (old out:Lz):Nat->Lz
  | 0=>[]
  | n+1=>EU old out n++[kp old out n,kc out n - kp old out n,kc out n]
def CV (old out:Lz) (to:Nat):Lz:=EU old out to++[(old.length:Int)]
theorem Ld:∀n,(EU old out n).length=3 * n
  | 0=>rfl
  | n+1=>by show (EU old out n++_).length=_;rw[Ze,Ld n];simp;omega
theorem TR {to:Nat}:(CV old out to).length=3 * to+1:=by unfold CV;rw[Ze,Ld];rfl
theorem TS:∀(n j:Nat),j<n->(EU old out n)[3 * j]?=some (kp old out j)/\(EU old out n)[3 * j+1]?=some (kc out j - kp old out j)/\(EU old out n)[3 * j+2]?=some (kc out j)
  | 0,j,h=>absurd h om
  | n+1,j,h=>by
    have hl:=Ld (old:=old) (out:=out) n;show (EU old out n++_)[3 * j]?=_/\(EU old out n++_)[3 * j+1]?=_/\(EU old out n++_)[3 * j+2]?=_;by_cases e:j=n
    · subst e;rw[ZA om,ZA om,ZA om,hl];rw[show 3 * j - 3 * j=0 by omega,show 3 * j+1 - 3 * j=1 by omega,show 3 * j+2 - 3 * j=2 by omega];exact⟨rfl,rfl,rfl⟩
    · rw[Zv om,Zv om,Zv om];exact TS n j om
theorem Lf {f:Lz} (h:f[i]?=some y):uf f i=y:=by unfold uf lv;rw[Zu,h];rfl
theorem O5 {to:Nat}:(∀j,j<to->uf (CV old out to) (3 * j)=kp old out j/\uf (CV old out to) (3 * j+1)=kc out j - kp old out j/\uf (CV old out to) (3 * j+2)=kc out j)/\uf (CV old out to) (3 * to)=old.length:=by
  have hl:=Ld (old:=old) (out:=out) to;refine⟨λj h=>?_,?_⟩
  · have⟨h0,a,b⟩:=TS (old:=old) (out:=out) to j h;unfold CV;refine⟨Lf ?_,Lf ?_,Lf ?_⟩
    · rw[Zv om];exact h0
    · rw[Zv om];exact a
    · rw[Zv om];exact b
  · unfold CV;apply Lf;rw[ZA om,hl,Nat.sub_self];rfl
theorem uf_ext {f g:Lz} (hl:f.length=g.length) (h:∀i,i<f.length->uf f i=uf g i):f=g:=by
  refine ext_getElem? λi=>?_;by_cases hi:i<f.length
  · rw[Dj hi,Dj om,h i hi]
  · rw[getElem?_eq_none om,getElem?_eq_none om]
theorem cZ {to:Nat} {f:Lz} (hl:f.length=3 * to+1) (hp:∀j,j<to->uf f (3 * j)=kp old out j/\uf f (3 * j+1)=kc out j - kp old out j/\uf f (3 * j+2)=kc out j) (hz:uf f (3 * to)=old.length):f=CV old out to:=by
  refine uf_ext (by rw[hl,TR]) λi hi=>?_;have⟨g,h⟩:=O5 (old:=old) (out:=out) (to:=to);by_cases e:i=3 * to
  · subst e;rw[hz,h]
  · have d:i / 3<to:=by omega
    have⟨a,b,c⟩:=hp _ d;have⟨k,l,m⟩:=g _ d;have:i % 3=0\/i % 3=1\/i % 3=2:=by omega
    rcases this with q | q | q
    · rw[show i=3 * (i / 3) by omega,a,k]
    · rw[show i=3 * (i / 3)+1 by omega,b,l]
    · rw[show i=3 * (i / 3)+2 by omega,c,m]
theorem TT {to:Nat} (hu:used.length=to) (h0:∀j,j<to->uf used j=0) (h:GOkE lo hi old used out used'):BU old to lo hi (CV old out to):=by
  have⟨e,f⟩:=O5 (old:=old) (out:=out) (to:=to);have hm:∀x∈out,0<=x/\x<(to:Int):=λx hx=>by have:=h.mem x hx;rw[hu] at this;exact this
  refine⟨TR,λj d=>?_,λj d=>?_,λj d=>?_,f,λj d=>?_,?_⟩
  · rw[(e j d).1];have:=Iv old out j;exact⟨this.1,this.2.1⟩
  · rw[(e j d).2.1];have:=Iv old out j;have:=CP out j;have:=h.len;omega
  · rw[(e j d).2.2];have a:=h.use j om;have b:=h.bd j om;rw[a,h0 j d] at b;omega
  · have⟨a,b,c⟩:=e j d;rw[a,b,c];omega
  · have:psum (λj=>uf (CV old out to) (3 * j+2)) to=psum (kc out) to:=Bt λj d=>(e j d).2.2;rw[this,O4 hm,h.len]
theorem cQ {to:Nat} (ha:Iu old to lo hi) (hu:used.length=to) (h0:∀j,j<to->uf used j=0) (h:GOkE lo hi old used out used') {f L:Lz} (hb:Best ((to:Int)+2) (net old to lo hi) f L):Best ((to:Int)+2) (net old to lo hi) (CV old out to) L:=by
  have hp:=TT hu h0 h;have⟨b,hc⟩:=O2 hp;have hf:=cU hb.within hb.circ;refine (cV (O0 ha).edges hb b hc).2 ?_;rw[TO hp,TO hf];have hm:∀x∈out,0<=x/\x<(to:Int):=λx hx=>by have:=h.mem x hx;rw[hu] at this;exact this
  have e1:psum (λj=>uf (CV old out to) (3 * j)) to=C3 old out:=by rw[<-O3 (l:=old) hm];exact Bt λj a=>(O5.1 j a).1
  rw[e1,h.keep];have ht:Fits lo hi to (uf used) old.length (λj=>uf f (3 * j+2)):=⟨λj a=>by have⟨d,e,g⟩:=ha.b om;have:=hf.c j a;have:=h0 j a;unfold lowP;omega,hf.t⟩;have c:=(GP (k:=kc old) ht).1;have m:psum (λj=>uf f (3 * j)) to<=valP to (kc old) (λj=>uf f (3 * j+2)):=Dx λj a=>by have:=hf.a j a;have:=hf.b j a;have:=hf.s j a;dsimp only;omega
  unfold allP;rw[hu];omega
theorem GU {k:Nat} (a:k<F.length) (i:Nat):uf (F.set k y) i=if i=k then y else uf F i:=by
  have:=EP (L:=F) (v:=(k:Int)) (y:=y) om om (i:Int) om;rw[Zu] at this;show lv (F.set k y) (i:Int)=_;rw[this];by_cases e:i=k
  · rw[Zc om,Zc e]
  · rw[Zb om,Zb e];rfl
theorem Ok.at_uf {v:Int} {k:Nat} (a:v=k) (b:k<F.length) {f:Int->Option β} (h:Ok (f (uf F k)) Q):Ok ((idx F v).bind f) Q:=by subst a;exact Ok.lv om om h
theorem Ok.set_uf {v:Int} {k:Nat} (a:v=k) (b:k<F.length) {f:Lz->Option β} (h:Ok (f (F.set k y)) Q):Ok ((setAt F v y).bind f) Q:=by subst a;exact Ok.setAt om om (by rw[Zu];exact h)
def Part (old out:Lz) (to i:Nat) (F:Lz):Prop:=F.length=3 * to+1/\uf F (3 * to)=old.length/\∀j,j<to->uf F (3 * j)=kp (old.take i) (out.take i) j/\uf F (3 * j+1)=kc (out.take i) j - kp (old.take i) (out.take i) j/\uf F (3 * j+2)=kc (out.take i) j
theorem dA {to:Nat} (h:Part old out to i F) {a:Int} {j:Nat} (ha:old[i]?=some a) (hb:out[i]?=some (j:Int)) (k:j<to) {F':Lz} (hl:F'.length=F.length) (b:∀q,uf F' q=(if q=3 * j+2 then uf F q+1 else if a≠(j:Int)/\q=3 * j+1 then uf F q+1 else if a=(j:Int)/\q=3 * j then uf F q+1 else uf F q)):Part old out to (i+1) F':=by
  have⟨c,d,f⟩:=h;refine⟨hl.trans c,?_,λq g=>?_⟩
  · rw[b,Zb om,Zb om,Zb om];exact d
  · have⟨a1,a2,a3⟩:=f q g;rw[TP q ha hb,cY q hb,b,b,b,a1,a2,a3];unfold one;by_cases e:q=j
    · subst e;by_cases e2:a=(q:Int)
      · rw[Zb om,Zb om,Zc ⟨e2,rfl⟩,Zc ⟨rfl,e2⟩,Zb om,Zb (λh=>h.1 e2),Zb om,Zc rfl,Zc rfl];omega
      · rw[Zb om,Zb om,Zb (λh=>e2 h.1),Zb (λh=>e2 h.2),Zb om,Zc ⟨e2,rfl⟩,Zc rfl,Zc rfl];omega
    · rw[Zb om,Zb om,Zb om,Zb om,Zb om,Zb om,Zb om,Zb om,Zb om,Zb om];omega
def errR (old:Lz) (to lo hi:Int):Int:=if (old.length:Int)>512\/to>62 then 4 else if to<0\/lo<0\/lo>hi then 1 else if (old.length:Int)<to * min lo 1000\/(old.length:Int)>to * min hi old.length then 14 else 0
def BH (to:Nat):Lz:=replicate to 0
theorem Fh (to j:Nat):uf (BH to) j=0:=by unfold uf lv BH;rw[getElem?_replicate];split<;>rfl
theorem TU {to:Int} (h:errR old to lo hi=0):∃t:Nat,to=t/\t<=62/\old.length<=512/\0<=lo/\lo<=hi/\(0<t->lo<=min hi old.length)/\to * lo<=old.length * 1+(if t=0 then to * lo else 0)/\(old.length:Int)<=to * min hi old.length:=by
  unfold errR at h;split at h
  · cases h
  · split at h
    · cases h
    · split at h
      · cases h
      · rename_i c d b;obtain⟨t,rfl⟩:=ZB (show 0<=to by omega);have a:0<t->lo<=old.length:=λht=>by
          have:1 * min lo 1000<=(t:Int) * min lo 1000:=Int.mul_le_mul_of_nonneg_right om om;omega
        refine⟨t,rfl,om,om,om,om,λht=>by have:=a ht;omega,?_,om⟩;by_cases ht:t=0
        · subst ht;rw[Zc rfl];omega
        · have:=a om;have e:min lo 1000=lo:=by omega
          rw[e] at b;rw[Zb ht];omega
theorem Iw (y:Int):∀n:Nat,psum (λ_=>y) n=n * y
  | 0=>by show (0:Int)=((0:Nat):Int) * y;simp
  | n+1=>by show psum (λ_=>y) n+y=((n+1:Nat):Int) * y;rw[Iw y n];push_cast;rw[Int.add_mul];omega
theorem O6 {t:Nat} (h:errR old t lo hi=0):Di (BH t) lo (min hi old.length)/\Iu old t lo (min hi old.length)/\GOkE lo (min hi old.length) old (BH t) (G lo (min hi old.length) old (BH t)).1 (G lo (min hi old.length) old (BH t)).2:=by
  have⟨b,k,e,l,m,s,d,n,f⟩:=TU h;have:b=t:=by omega
  subst this;have hz:(BH b).length=b:=Yr;refine⟨⟨by rw[hz];exact e,λu hu=>?_⟩,⟨l,e,λht=>⟨m,d ht,om⟩⟩,?_⟩
  · obtain⟨g,rfl⟩:=mem_replicate.1 hu;have:=d om;omega
  · by_cases ht:b=0
    · subst ht;have g:old=[]:=by
        have:(old.length:Int)<=0:=by simpa using f
        cases old with
        | nil=>rfl
        | cons=>simp at this;omega
      subst g;refine⟨rfl,λx hx=>(by cases hx),rfl,λj c=>absurd c (by simp[BH]),?_,λj c=>absurd c (by simp[BH])⟩;rfl
    · have a:=d om;rw[Zb ht] at n;refine G_ok a old (BH b) (λj c=>by rw[Fh];omega) ?_;have⟨q,o,p⟩:=Io (λ_=>lo) (λ_=>min hi old.length) b old.length (λj _=>a) (by rw[Iw];omega) (by rw[Iw];exact f);unfold allP;rw[hz];refine Ov a (λj _=>by rw[Fh];omega) (λj _=>(CP old j).1) (t:=q) ⟨λj c=>?_,p⟩;have:=o j c;rw[Fh];unfold lowP;omega
theorem dB {l:Lz} (h:l.length<=68719476736):EV l=some l:=by unfold EV;rw[CK (sa h)];simp
theorem TV {to:Int} (hl:old.length<=1000000):
    Ok (Dk old to lo hi) (λr=>(errR old to lo hi≠0/\r=([],⟨[],[]⟩,errR old to lo hi))\/(errR old to lo hi=0/\∃(t:Nat) (L:Lz),to=t/\r=((G lo (min hi old.length) old (BH t)).1,⟨CV old (G lo (min hi old.length) old (BH t)).1 t,L⟩,0)/\Best ((t:Int)+2) (net old t lo (min hi old.length)) (CV old (G lo (min hi old.length) old (BH t)).1 t) L)):=by
  unfold Dk;have d:∀{x:Int},errR old to lo hi=x->x≠0->Ok (some ((([]:Lz),BQ.mk ([]:Lz) ([]:Lz),x))) (λr=>(errR old to lo hi≠0/\r=([],⟨[],[]⟩,errR old to lo hi))\/
      (errR old to lo hi=0/\∃(t:Nat) (L:Lz),to=t/\r=((G lo (min hi old.length) old (BH t)).1,⟨CV old (G lo (min hi old.length) old (BH t)).1 t,L⟩,0)/\Best ((t:Int)+2) (net old t lo (min hi old.length)) (CV old (G lo (min hi old.length) old (BH t)).1 t) L)):=λh hx=>
    Ok.mk (.inl ⟨by rw[h];exact hx,by rw[h]⟩)
  by_cases v:(old.length:Int)>512\/to>62
  · rw[Zc (sa v)];exact d (by unfold errR;rw[Zc v]) dc
  rw[Zb (sa v)];by_cases B:to<0\/lo<0\/lo>hi
  · rw[Zc (by rcases B with h | h | h<;>simp[h])];exact d (by unfold errR;rw[Zb v,Zc B]) dc
  rw[Zb (by simp only[ZG,Zk];omega)];obtain⟨t,rfl⟩:=ZB (show 0<=to by omega);have m1:(t:Int) * min lo 1000<=62 * 1000:=Int.mul_le_mul om om om om;have m2:(t:Int) * min hi old.length<=62 * 512:=Int.mul_le_mul om om om om;have m3:0<=(t:Int) * min lo 1000:=Int.mul_nonneg om om;have m4:0<=(t:Int) * min hi old.length:=Int.mul_nonneg om om;rw[LN,LN,w64 (n:=(t:Int) * min lo 1000) om om,w64 (n:=(t:Int) * min hi old.length) om om];by_cases C:(old.length:Int)<t * min lo 1000\/(old.length:Int)>t * min hi old.length
  · rw[Zc (sa C)];exact d (by unfold errR;rw[Zb v,Zb B,Zc C]) dc
  rw[Zb (sa C)];have h0:errR old t lo hi=0:=by unfold errR;rw[Zb v,Zb B,Zb C]
  have⟨H,ha,D⟩:=O6 h0;rw[dB om];simp only[Za];apply Ok.mk' om om;rw[Zu];have hz:(BH t).length=t:=Yr;have w:=cD H (old:=old) om;rw[hz] at w;refine w.bind λp hp=>?_;subst hp;dsimp only;generalize m:(G lo (min hi old.length) old (BH t)).1=out at *;generalize (G lo (min hi old.length) old (BH t)).2=used' at *;rw[cX om om];simp only[Za];have S:i64.wrap ((t:Int)+2)=(t:Int)+2:=w64 om om;rw[S];have⟨T,U⟩:=O2 (TT hz (λj _=>Fh t j) D);refine (TK (O0 ha) T U).bind λr V=>?_;have⟨r1,W⟩:=V;have hb:=cQ ha hz (λj _=>Fh t j) D W;rw[r1,Zb dc];have I:=Hm (old:=old) (to:=t) (lo:=lo) (hi:=min hi old.length);rw[I];apply Ok.mk' om om;have z:(replicate (((3 * t+1:Nat):Int)).toNat (0:Int)).length=3 * t+1:=by rw[Yr];omega
  have f:∀i,uf (replicate (((3 * t+1:Nat):Int)).toNat (0:Int)) i=0:=λi=>Fh _ i;generalize replicate (((3 * t+1:Nat):Int)).toNat (0:Int)=F0 at z f;apply Ok.set_uf (k:=3 * t) (by rw[w64 om om];omega) om;have hm:∀x∈out,0<=x/\x<(t:Int):=λx hx=>by have:=D.mem x hx;rw[hz] at this;exact this
  have X:=D.len;refine Ok.bind (P:=λF=>Part old out t out.length F) (Ok.loop (λg s=>∃i:Nat,s.1=i/\i+g=out.length/\Part old out t i s.2) out.length ⟨0,rfl,om,by dsimp only;rw[ZK];exact z,by dsimp only;rw[GU om,Zc rfl],λj K=>by dsimp only;rw[GU om,GU om,GU om,Zb om,Zb om,Zb om,f,f,f];exact⟨rfl,rfl,rfl⟩⟩ λg s H=>?_) λF Y=>?_
  · have⟨i,R,h2,A⟩:=H;have⟨si,F⟩:=s;dsimp only at R A ⊢;subst R;refine Ok.ite (λc=>?_) (λc=>?_)
    · have c:(i:Int)<out.length:=Zt c;refine Ok.idx om c λb M o=>?_;have o:out[i]?=some b:=by simpa using o
      have⟨Z,b1⟩:=hm b M;obtain⟨j,rfl⟩:=ZB Z;have K:j<t:=by omega
      refine Ok.idx om om λa a0 u=>?_;have u:old[i]?=some a:=by simpa using u
      have a1:=A.1;have⟨q1,q2,q3⟩:=A.2.2 j K;have k1:=Iv (old.take i) (out.take i) j;have k2:=CP (out.take i) j;have k3:=ZY (i:=i) (l:=out);have w3:i64.wrap ((3:Int) * (j:Int))=3 * (j:Int):=w64 om om;rw[w3];refine Ok.bind (P:=λE=>E.length=F.length/\∀q,uf E q=if a≠(j:Int)/\q=3 * j+1 then uf F q+1 else if a=(j:Int)/\q=3 * j then uf F q+1 else uf F q) (Ok.ite (λhc=>?_) (λhc=>?_)) λE N=>?_
      · have hc:a≠(j:Int):=by simpa using hc
        apply Ok.at_uf (k:=3 * j+1) (by rw[w64 om om];omega) om;rw[w64 (n:=uf F (3 * j+1)+1) om om];refine Ok.set_uf (k:=3 * j+1) (by rw[w64 om om];omega) om (Ok.mk ⟨by rw[ZK],λq=>?_⟩);rw[GU om];by_cases e:q=3 * j+1
        · subst e;rw[Zc rfl,Zc ⟨hc,rfl⟩]
        · rw[Zb e,Zb (λh=>e h.2),Zb (λh=>hc h.1)]
      · have hc:a=(j:Int):=by simpa using hc
        apply Ok.at_uf (k:=3 * j) om om;rw[w64 (n:=uf F (3 * j)+1) om om];refine Ok.set_uf (k:=3 * j) om om (Ok.mk ⟨by rw[ZK],λq=>?_⟩);rw[GU om];by_cases e:q=3 * j
        · subst e;rw[Zc rfl,Zb (λh=>h.1 hc),Zc ⟨hc,rfl⟩]
        · rw[Zb e,Zb (λh=>h.1 hc),Zb (λh=>e h.2)]
      · have⟨f1,f2⟩:=N;have e2:=f2 (3 * j+2);rw[Zb om,Zb om] at e2;apply Ok.at_uf (k:=3 * j+2) (by rw[w64 om om];omega) om;rw[w64 (n:=uf E (3 * j+2)+1) om om];refine Ok.set_uf (k:=3 * j+2) (by rw[w64 om om];omega) om (Ok.mk ⟨g - 1,om,i+1,by rw[w64 om om];rfl,om,dA A u o K (by dsimp only;rw[ZK];exact f1) λq=>?_⟩);dsimp only;rw[GU om];by_cases e:q=3 * j+2
        · subst e;rw[Zc rfl,Zc rfl,e2]
        · rw[Zb e,Zb e];exact f2 q
    · have c:¬(i:Int)<out.length:=Zy c;have:i=out.length:=by omega
      subst this;exact Ok.mk A
  · have⟨f1,f2,f3⟩:=Y;rw[Zw (Zq _),Zw om] at f3;have O:=cZ f1 f3 f2;subst O;exact Ok.mk (.inr ⟨h0,t,r.1.Level,rfl,by rw[m],by rw[m];exact hb⟩)
def GV (t:Nat) (n:Int) (q:Nat->Int):Lz:=(range (3 * t+1)).map λi=>if i=3 * t then n else if i % 3=0 then 0 else q (i / 3)
theorem Fi {t:Nat} {n:Int} {q:Nat->Int} (h:i<3 * t+1):uf (GV t n q) i=if i=3 * t then n else if i % 3=0 then 0 else q (i / 3):=by
  have hl:(GV t n q).length=3 * t+1:=by unfold GV;rw[Yh,YB]
  have:=Dj (f:=GV t n q) (i:=i) (by rw[hl];exact h);unfold GV at this;rw[Yc,Yz h] at this;exact (Zn this).symm
theorem TW {t:Nat} (h:Iu old t lo hi) {q:Nat->Int} (b:∀j,j<t->lo<=q j/\q j<=hi) (c:psum q t=old.length):∃g,BK (net old t lo hi) g/\Circ (net old t lo hi) ((t:Int)+2) g:=by
  refine⟨GV t old.length q,O2 ⟨?_,λj a=>?_,λj a=>?_,λj a=>?_,?_,λj a=>?_,?_⟩⟩
  · unfold GV;rw[Yh,YB]
  · rw[Fi om,Zb om,Zc om];exact⟨Zx _,(CP old j).1⟩
  · rw[Fi om,Zb om,Zb om,show (3 * j+1) / 3=j by omega];have:=b j a;have:=h.b om;omega
  · rw[Fi om,Zb om,Zb om,show (3 * j+2) / 3=j by omega];exact b j a
  · rw[Fi om,Zc rfl]
  · rw[Fi om,Fi om,Fi om,Zb om,Zc om,Zb om,Zb om,Zb om,Zb om,show (3 * j+1) / 3=j by omega,show (3 * j+2) / 3=j by omega];omega
  · rw[<-c];refine Bt λj a=>?_;rw[Fi om,Zb om,Zb om,show (3 * j+2) / 3=j by omega]
theorem TX {t:Nat} (h0:errR old t lo hi=0):Ok (GS ((t:Int)+2) (net old t lo (min hi old.length))) (λr=>r.2.2=0):=by
  have⟨a,k,_,l,m,s,e,n,f⟩:=TU h0;have:a=t:=by omega
  subst this;have ha:Iu old a lo (min hi old.length):=⟨l,om,λht=>⟨m,e ht,om⟩⟩;obtain⟨g,b,c⟩:∃g,BK (net old a lo (min hi old.length)) g/\Circ (net old a lo (min hi old.length)) ((a:Int)+2) g:=by
    by_cases ht:a=0
    · subst ht;have u:(old.length:Int)<=0:=by simpa using f
      refine TW ha (q:=λ_=>0) (λj v=>om) ?_;show (0:Int)=old.length;omega
    · have d:=e om;rw[Zb ht] at n;have⟨q,o,p⟩:=Io (λ_=>lo) (λ_=>min hi old.length) a old.length (λj _=>d) (by rw[Iw];omega) (by rw[Iw];exact f);exact TW ha o p
  exact (TK (O0 ha) b c).Xo λ_ h=>h.1
structure O7 (to:Nat) (lo hi:Int) (used rest m:Lz):Prop where
  len:m.length=rest.length
  mem:∀x∈m,0<=x/\x<(to:Int)
  bd:∀j,j<to->lo<=uf used j+kc m j/\uf used j+kc m j<=hi
theorem dC {to:Nat} {m:Lz} (h:O7 to lo hi used rest m):Fits lo hi to (uf used) rest.length (kc m):=⟨λj a=>by have:=h.bd j a;have:=(CP m j).1;unfold lowP;omega,by rw[O4 h.mem,h.len]⟩
theorem dD {to:Nat} {m:Lz} (hm:∀x∈m,0<=x/\x<(to:Int)):C3 rest m<=valP to (kc rest) (kc m):=by rw[<-O3 (l:=rest) hm];exact Dx λj _=>by have:=Iv rest m j;omega
theorem dE {m:Lz} (h:O7 used.length lo hi used rest m):C3 rest m<=allP lo hi rest used:=Int.le_trans (dD h.mem) (GP (k:=kc rest) (dC h)).1
theorem TY:∀l:Lz,C3 l l=l.length
  | []=>rfl
  | c::l=>by show (if c=c then 1 else 0)+C3 l l=_;rw[TY l,Zc rfl];simp;omega
theorem TZ:∀{l m:Lz},m.length=l.length->(l.length:Int)<=C3 l m->m=l
  | [],[],_,_=>rfl
  | [],_::_,h,_=>by simp at h
  | _::_,[],h,_=>by simp at h
  | c::l,d::m,h,hk=>by
    have a:((c::l).length:Int)<=(if d=c then 1 else 0)+C3 l m:=hk;have hb:=keeps_le l m;simp only[Zj] at h a;have hl:m.length=l.length:=by omega
    by_cases e:d=c
    · subst e;rw[Zc rfl] at a;rw[TZ hl om]
    · rw[Zb e] at a;omega
where
  keeps_le:∀l m:Lz,C3 l m<=m.length
    | [],_=>by simp[C3]
    | _::_,[]=>by simp[C3]
    | c::l,d::m=>by show (if d=c then 1 else 0)+C3 l m<=_;have:=keeps_le l m;simp only[Zj];split<;>omega
theorem dF {a b:Lz} (h:a.length=b.length) (to lo hi:Int):errR a to lo hi=errR b to lo hi:=by unfold errR;rw[h]
structure RK (l:Lz) (t:Nat) (lo hi:Int):Prop where
  refs:Ok (Dk l (t:Int) lo hi) (λr=>r.1=l/\r.2.2=0)
  deg:∀j,j<t->lo<=kc l j/\kc l j<=hi
  mem:∀v∈l,0<=v/\v<(t:Int)
theorem dG {to:Int} (hl:old.length<=1000):Ok (Dk old to lo hi) (λr=>r.2.2=0->r.1.length=old.length/\∃t:Nat,to=t/\RK r.1 t lo hi):=by
  refine (TV om).Xo λr g h0=>?_;rcases g with⟨f,rfl⟩ | ⟨f,t,L,rfl,rfl,_⟩
  · exact (f h0).elim
  have⟨_,_,a⟩:=O6 f;have hz:(BH t).length=t:=Yr;have hlen:=a.len;dsimp only at hlen ⊢;generalize o:(G lo (min hi old.length) old (BH t)).1=out at a hlen ⊢;have b:errR out t lo hi=0:=by rw[dF hlen];exact f
  have c:∀j,j<t->lo<=kc out j/\kc out j<=min hi old.length:=λj h=>by have k:=a.bd j om;rw[a.use j om,Fh] at k;omega
  have⟨_,_,hc⟩:=O6 b;have l:O7 (BH t).length lo (min hi out.length) (BH t) out out:=⟨rfl,λx hx=>a.mem x hx,λj h=>by have:=c j om;rw[Fh];omega⟩;have d:=dE l;rw[TY,<-hc.keep] at d;have e:(G lo (min hi out.length) out (BH t)).1=out:=TZ hc.len d;refine⟨hlen,t,rfl,?_,λj h=>by have:=c j h;omega,λv m=>by have:=a.mem v m;omega⟩;refine (TV om).Xo λr g=>?_;rcases g with⟨k,rfl⟩ | ⟨_,n,p,ht,rfl,_⟩
  · exact (k b).elim
  · have:n=t:=by omega
    subst this;exact⟨e,rfl⟩
theorem GJ:∀(k u:Nat),u<10 ^ (k+1)->(Lib.decDigits u).length<=k+1
 | 0,u,h=>by rw[Lib.decDigits,dif_pos (sa h)];simp
 | k+1,u,h=>by
  rw[Lib.decDigits];split
  ·simp
  ·have:=GJ k (u / 10) (by rw[Nat.pow_succ] at h;omega);rw[Ze,length_singleton];omega
theorem Ci {n:Int} (h:I64 n):(Lib.itoa n).length<=20:=by
 unfold I64 at h;unfold Lib.itoa;split
 ·have:=GJ 18 n.natAbs om;rw[Zj];omega
 ·have:=GJ 18 n.toNat om;omega
theorem dH {n:Int} (h:I64 n):Ix n=some (Lib.itoa n):=Zc h
def BR:AnyV->Str
 | .int n=>Lib.itoa n
 | .str s=>s
def VOk:AnyV->Prop
 | .int n=>I64 n
 | .str s=>s.length<=100
theorem Lg {v:AnyV} (h:VOk v):(BR v).length<=100:=by
 cases v with
 | int n=>have:=Ci h;show (Lib.itoa n).length<=100;omega
 | str s=>exact h
def toks (l:List AnyV):Str:=l.flatMap λv=>32::BR v
theorem O8 {l:List AnyV} (h:∀v∈l,VOk v):(toks l).length<=l.length * 101:=by
 induction l with
 | nil=>simp[toks]
 | cons v l a=>have b:=a λu hu=>h u (ZE _ hu);have c:=Lg (h v Zs);have e:toks (v::l)=(32::BR v)++toks l:=rfl;rw[e,Ze,Zj,Zj];omega
def Bp (w:Str) (l:List AnyV):Str:=w++toks l++[10]
theorem E7 {a b:Str} (h:a.length+b.length<=68719476736):DW a b=some (a++b):=Zc h
theorem Hn {w:Str} {l:List AnyV} (x:1<=w.length) (z:w.length<=10) (hl:l.length<=1000) (e:∀v∈l,VOk v):CR w l=some (Bp w l):=by
 have key:Ok (CR w l) (λr=>r=Bp w l):=by
  unfold CR;rw[E7 so];simp only[Za,Yl];refine Ok.bind (P:=λr=>r=w++toks l) (Ok.loop (λm s=>0<=s.1/\s.1+m=l.length/\s.2=w++toks (l.take s.1.toNat)) l.length ⟨Zx _,by dsimp only;omega,by simp[toks]⟩ λm s q=>?_) λr f=>?_
  ·have⟨i,t⟩:=s;have⟨e1,e2,g⟩:=q;dsimp only at e1 e2 g;obtain⟨k,rfl⟩:=ZB e1;rw[Zu] at g;subst g;refine Ok.ite (λo=>?_) (λo=>?_)
   ·have b:k<l.length:=by simpa using o
    have a:=e _ (Zr b);have hlen:=O8 (l:=l.take k) λv hm=>e v (mem_of_mem_take hm);have c:=Lg a;have u:(l.take k).length<=1000:=by rw[ZY];omega
    dsimp only;rw[QY b];simp only[Za];have eb:Lh (w++toks (l.take k)) 32=some (w++toks (l.take k)++[32]):=Zc ⟨dc,dc,by rw[Ze];omega⟩;rw[eb];simp only[Za];refine Ok.bind (P:=λp=>p=w++toks (l.take k)++[32]++BR l[k]) ?_ λp hp=>Ok.mk ⟨m - 1,om,?_⟩
    ·cases d:l[k] with
     | int n=>rw[d] at a c;show Ok (if true then _ else _) _;rw[Zc rfl];show Ok ((Ix n).bind _) _;rw[dH a];simp only[Za];have hi:=Ci a;rw[E7 (by simp only[Ze,length_singleton];omega)];exact Ok.mk rfl
     | str s=>rw[d] at a c;show Ok (if false then _ else (if true then (DW (w++toks (l.take k)++[32]) s).bind _ else _).bind _) _;rw[Zb dc,Zc rfl];have q:s.length<=100:=a;rw[E7 (by simp only[Ze,length_singleton];omega)];exact Ok.mk rfl
    ·subst hp;dsimp only;rw[QD b om];refine⟨om,om,?_⟩;rw[Zu,Zz b];simp only[toks,ZM,flatMap_cons,flatMap_nil,Yg,ZJ,cons_append,Yl]
   ·have b:¬k<l.length:=by simpa using o
    apply Ok.mk;dsimp only;rw[Zw om]
  ·subst f;have hlen:=O8 e;have eb:GW (w++toks l)=some (w++toks l):=Zb λh=>by
    have:=ZU length h;rw[Ze,Zm] at this;omega
   rw[eb];simp only[Za];exact Ok.cat (by rw[Ze,length_singleton];omega) (Ok.mk rfl)
 obtain⟨r,f,rfl⟩:=key;exact f
theorem Fj {w:Str} {l:List AnyV} (b:w.length<=10) (a:∀v∈l,VOk v):(Bp w l).length<=11+l.length * 101:=by have:=O8 a;unfold Bp;rw[Ze,Ze,length_singleton];omega
def Aa (s:Str):Str:=if s=[] then [45] else s
theorem O9 (s:Str):Ho s=some (Aa s):=by
 unfold Ho PA;have key:∀body:Int->Option (Int⊕(Unit⊕Str)),(body 0=if s !=[] then some (.inr (.inr s)) else some (.inl 1))->body 1=some (.inr (.inr [45]))->
   Qr body 0=some (.inr (Aa s)):=λbody h0 b=>by
  rw[Dz,h0];unfold Aa;by_cases a:s=[]
  ·rw[Zb (by simp[a]),Zc a];show Qr body 1=_;rw[Dz,b]
  ·rw[Zc (sa a),Zb a]
 rw[key _ rfl rfl];rfl
def AP (f:Qe):List AnyV:=
 if f.Xi=0 then [.str f.Xj,.int f.Lo]
 else if f.Xi=2 then [.str f.Xj,.int f.Lo,.int f.Hi]
 else if f.Xi=3 then [.str f.Xj,.int (f.Words.length:Int)]++(f.Words.zip f.Xf).flatMap λp=>[.str p.1,.int p.2]
 else if f.Xi=6 then [.str f.Xj,.str f.Of]
 else if f.Xi=7 then [.str f.Xj,.str f.Up,.str f.Of,.int f.Lo,.int f.Hi]
 else if f.Xi=8 then [.str f.Xj,.str f.Up,.str f.Of]
 else [.str f.Xj,.str (Aa f.Of),.int f.Lo,.int f.Hi]
def FY (f:Qe):Str:=G4[f.Xi.toNat]?.getD []
def Df (f:Qe):Str:=Bp (FY f) (AP f)
theorem DX {s:Str} (h:QX s=true):VOk (.str s):=by have:=CM h;show s.length<=100;omega
theorem GX {s:Str} (h:((s==[])||QX s)=true):VOk (.str (Aa s)):=by
 unfold Aa;by_cases a:s=[]
 ·rw[Zc a];show ([45]:Str).length<=100;decide
 ·rw[Zb a];have:QX s=true:=by simpa[a] using h
  exact DX this
theorem Bv {n:Int} (h:-100000000<=n/\n<=100000000):VOk (.int n):=by show I64 n;unfold I64;omega
theorem dI {l:List Str} {g:Lz} (h:l.length=g.length) (k:Nat) (a:k<l.length):(((l.zip g).take k).flatMap λp=>[AnyV.str p.1,AnyV.int p.2])++[AnyV.str l[k],AnyV.int (g[k]' om)]=((l.zip g).take (k+1)).flatMap λp=>[AnyV.str p.1,AnyV.int p.2]:=by rw[Zz (by rw[length_zip];omega),ZM,getElem_zip];rfl
theorem Ob (l:List (Str×Int)):(l.flatMap λp=>[AnyV.str p.1,AnyV.int p.2]).length=2 * l.length:=by
 induction l with
 | nil=>rfl
 | cons a l b=>rw[flatMap_cons,Ze,b];simp;omega
structure Li (f:Qe):Prop where
 kind:0<=f.Xi/\f.Xi<=8
 items:∀v∈AP f,VOk v
 count:(AP f).length<=30
 pick:f.Xi=3->f.Words.length=f.Xf.length/\f.Words.length<=12
theorem BS {a b:Int} (h:Bg lo hi a b=true):a<=lo/\lo<=hi/\hi<=b:=by simp only[Bg,Zh,Zk] at h;omega
theorem EJ {f:Qe} (h:AH f=true):Li f:=by
 unfold AH at h;simp only[Zh] at h;have⟨⟨x,_⟩,hp⟩:=h;have c:=DX x;unfold Av at hp;by_cases g:f.Xi=0
 ·rw[Zc g] at hp;have e:AP f=[.str f.Xj,.int f.Lo]:=by unfold AP;rw[Zc g]
  refine⟨om,?_,by rw[e];simp,λh=>om⟩;have:=Aq hp;rw[e];simp only[Zp,ZF,ZN,ZL,forall_eq];exact⟨c,Bv om⟩
 rw[Zb g] at hp;by_cases k:f.Xi=1
 ·rw[Zc k] at hp;simp only[Zh] at hp;have e:AP f=[.str f.Xj,.str (Aa f.Of),.int f.Lo,.int f.Hi]:=by unfold AP;simp[k]
  have:=BS hp.2;refine⟨om,?_,by rw[e];simp,λh=>om⟩;rw[e];simp only[Zp,ZF,ZN,ZL,forall_eq];exact⟨c,GX (by rw[hp.1];simp),Bv om,Bv om⟩
 rw[Zb k] at hp;by_cases l:f.Xi=2
 ·rw[Zc l] at hp;have e:AP f=[.str f.Xj,.int f.Lo,.int f.Hi]:=by unfold AP;simp[l]
  have:=BS hp;refine⟨om,?_,by rw[e];simp,λh=>om⟩;rw[e];simp only[Zp,ZF,ZN,ZL,forall_eq];exact⟨c,Bv om,Bv om⟩
 rw[Zb l] at hp;by_cases m:f.Xi=3
 ·rw[Zc m] at hp;simp only[DT,Zh,ZD,Yj] at hp;have⟨z,⟨⟨A,hl⟩,_⟩,n⟩:=hp;have B:=(Aq A).2;have o:f.Words.length=f.Xf.length:=by omega
  have e:AP f=[.str f.Xj,.int (f.Words.length:Int)]++(f.Words.zip f.Xf).flatMap λp=>[.str p.1,.int p.2]:=by unfold AP;simp[m]
  refine⟨om,?_,?_,λ_=>⟨o,om⟩⟩
  ·rw[e];intro v d;rcases ZH.1 d with d | d
   ·simp only[Zp,ZF,ZN] at d;rcases d with rfl | rfl
    ·exact c
    ·exact Bv om
   ·have⟨p,hp,d⟩:=Ya.1 d;have⟨a,b⟩:=p;have hz:=of_mem_zip hp;simp only[Zp,ZF,ZN] at d;rcases d with rfl | rfl
    ·exact DX (n _ hz.1)
    ·have:=Aq (z _ hz.2);exact Bv om
  ·rw[e,Ze,Ob,length_zip];simp only[Zj,Zm];omega
 rw[Zb m] at hp;by_cases q:f.Xi=4
 ·rw[Zc q] at hp;simp only[Zh] at hp;have e:AP f=[.str f.Xj,.str (Aa f.Of),.int f.Lo,.int f.Hi]:=by unfold AP;simp[q]
  have:=BS hp.2;refine⟨om,?_,by rw[e];simp,λh=>om⟩;rw[e];simp only[Zp,ZF,ZN,ZL,forall_eq];exact⟨c,GX hp.1,Bv om,Bv om⟩
 rw[Zb q] at hp;by_cases s:f.Xi=5
 ·rw[Zc s] at hp;simp only[Zh] at hp;have e:AP f=[.str f.Xj,.str (Aa f.Of),.int f.Lo,.int f.Hi]:=by unfold AP;simp[s]
  have:=BS hp.2;refine⟨om,?_,by rw[e];simp,λh=>om⟩;rw[e];simp only[Zp,ZF,ZN,ZL,forall_eq];exact⟨c,GX (by rw[hp.1];simp),Bv om,Bv om⟩
 rw[Zb s] at hp;by_cases t:f.Xi=6
 ·rw[Zc t] at hp;have e:AP f=[.str f.Xj,.str f.Of]:=by unfold AP;simp[t]
  refine⟨om,?_,by rw[e];simp,λh=>om⟩;rw[e];simp only[Zp,ZF,ZN,ZL,forall_eq];exact⟨c,DX hp⟩
 rw[Zb t] at hp;by_cases u:f.Xi=7
 ·rw[Zc u] at hp;simp only[Zh] at hp;have e:AP f=[.str f.Xj,.str f.Up,.str f.Of,.int f.Lo,.int f.Hi]:=by unfold AP;simp[u]
  have:=BS hp.2;refine⟨om,?_,by rw[e];simp,λh=>om⟩;rw[e];simp only[Zp,ZF,ZN,ZL,forall_eq];exact⟨c,DX hp.1.2,DX hp.1.1,Bv om,Bv om⟩
 rw[Zb u] at hp;by_cases w:f.Xi=8
 ·rw[Zc w] at hp;simp only[Zh] at hp;have e:AP f=[.str f.Xj,.str f.Up,.str f.Of]:=by unfold AP;simp[w]
  refine⟨om,?_,by rw[e];simp,λh=>om⟩;rw[e];simp only[Zp,ZF,ZN,ZL,forall_eq];exact⟨c,DX hp.2,DX hp.1⟩
 rw[Zb w] at hp;cases hp
theorem Oc {f:Qe} (h:0<=f.Xi/\f.Xi<=8):idx G4 f.Xi=some (FY f)/\1<=(FY f).length/\(FY f).length<=10:=by
 have⟨k,a⟩:=ZB h.1;have b:k<=8:=by omega
 unfold FY;rw[a,BN,Zu];have:k=0\/k=1\/k=2\/k=3\/k=4\/k=5\/k=6\/k=7\/k=8:=by omega
 rcases this with rfl | rfl | rfl | rfl | rfl | rfl | rfl | rfl | rfl<;>exact⟨rfl,dc,dc⟩
theorem dJ {f:Qe} (h:Li f):Lj f=some (Df f):=by
 have⟨e0,o,q⟩:=Oc h.kind;have a:CR (FY f) (AP f)=some (Df f):=Hn o q (by have:=h.count;omega) h.items;unfold Lj;rw[e0];simp only[Za];by_cases c:f.Xi=0
 ·rw[Zc (by simp[c])];have e:AP f=[.str f.Xj,.int f.Lo]:=by unfold AP;simp[c]
  rw[<-e,a];rfl
 rw[Zb (sa c)];by_cases d:f.Xi=2
 ·rw[Zc (by simp[d])];have e:AP f=[.str f.Xj,.int f.Lo,.int f.Hi]:=by unfold AP;simp[d]
  rw[<-e,a];rfl
 rw[Zb (sa d)];by_cases b:f.Xi=3
 ·rw[Zc (by simp[b])];have⟨s,t⟩:=h.pick b;have e:AP f=[.str f.Xj,.int (f.Words.length:Int)]++(f.Words.zip f.Xf).flatMap λp=>[.str p.1,.int p.2]:=by unfold AP;simp[b]
  refine DP f.Words.length (λn=>((n:Int),[.str f.Xj,.int (f.Words.length:Int)]++((f.Words.zip f.Xf).take n).flatMap λp=>[.str p.1,.int p.2])) _ sm (λn g=>?_) (Zb sm) ?_
  ·have hlen:(((f.Words.zip f.Xf).take n).flatMap λp=>[AnyV.str p.1,AnyV.int p.2]).length<=100:=by
    rw[Ob,ZY,length_zip];omega
   rw[Zc (sa g)];dsimp only;rw[QY g,QY om];simp only[Za];rw[CK sf,QD g om,<-dI s n g,ZJ];rfl
  ·dsimp only;rw[Zw (by rw[length_zip];omega),<-e,a];rfl
 rw[Zb (sa b)];by_cases k:f.Xi=6
 ·rw[Zc (by simp[k])];have e:AP f=[.str f.Xj,.str f.Of]:=by unfold AP;simp[k]
  rw[<-e,a];rfl
 rw[Zb (sa k)];by_cases l:f.Xi=7
 ·rw[Zc (by simp[l])];have e:AP f=[.str f.Xj,.str f.Up,.str f.Of,.int f.Lo,.int f.Hi]:=by unfold AP;simp[l]
  rw[<-e,a];rfl
 rw[Zb (sa l)];by_cases m:f.Xi=8
 ·rw[Zc (by simp[m])];have e:AP f=[.str f.Xj,.str f.Up,.str f.Of]:=by unfold AP;simp[m]
  rw[<-e,a];rfl
 rw[Zb (sa m),O9];simp only[Za];have e:AP f=[.str f.Xj,.str (Aa f.Of),.int f.Lo,.int f.Hi]:=by unfold AP;simp[c,d,b,k,l,m]
 rw[<-e,a];rfl
theorem Lk {f:Qe} (h:Li f):(Df f).length<=4000:=by have:=Fj (Oc h.kind).2.2 h.items;have:=h.count;unfold Df;omega
theorem Dl {α:Type} (l:List α) (g:α->Str) (B:Nat) (d:∀a∈l,(g a).length<=B) (a0:Str) {body:Int×Str->Option ((Int×Str)⊕Str)}
  (e:∀k (h:k<l.length) b,b.length<=a0.length+k * B->body ((k:Int),b)=some (.inl (((k+1:Nat):Int),b++g l[k]))) (f:∀b,body ((l.length:Int),b)=some (.inr b)):
  Qr body ((0:Int),a0)=some (a0++l.flatMap g):=by
 have hlen:∀n,n<=l.length->((l.take n).flatMap g).length<=n * B:=λn=>by
  induction n with
  | zero=>intro _;simp
  | succ n m=>intro o;rw[Zz om,ZM,Ze,Nat.succ_mul];have p:=m om;have q:=d _ (Zr (show n<l.length by omega));simp only[flatMap_cons,flatMap_nil,Yg];omega
 have h:=IY (body:=body) l.length (λn=>((n:Int),a0++(l.take n).flatMap g)) (a0++l.flatMap g) (λk c=>?_) ?_
 ·simpa using h
 ·rw[e k c _ (by rw[Ze];have:=hlen k om;omega),Zz c,ZM];simp
 ·rw[f];simp
def DH (k:QA):Str:=Bp [107,105,110,100] [.str k.Xj,.int k.Lo,.int k.Hi]++k.Xb.flatMap Df
def EK (m:AS):Str:=Bp [109,111,118,101] [.int m.a0,.int m.a1]
def DV (l:Qm):Str:=Bp [108,105,102,101] ([.str l.Xj,.int (l.Xe.length:Int)]++l.Xe.map .str)++l.Xg.flatMap EK
def Dv (r:QL):List AnyV:=[.str r.Xj,.str r.Xi,.str (Aa r.A),.str (Aa r.B),.int r.N]
def EL (r:QL):Str:=Bp [114,117,108,101] (Dv r)
def srcS (x:Qc):Str:=Bp [115,99,104,101,109,97] [.int x.Version]++x.Xa.flatMap DH++x.Xd.flatMap DV++x.Xc.flatMap EL
theorem Cz {k:QA} (h:BI k=true):(∀v∈[AnyV.str k.Xj,.int k.Lo,.int k.Hi],VOk v)/\k.Xb.length<=10/\∀f∈k.Xb,AH f=true:=by simp only[BI,Zh,ZD,Zk] at h;have⟨⟨⟨a,b⟩,d⟩,c⟩:=h;have:=BS b;refine⟨?_,om,c⟩;simp only[Zp,ZF,ZN,ZL,forall_eq];exact⟨DX a,Bv om,Bv om⟩
theorem DU {α:Type} {l:List α} {g:α->Str} {B:Nat} (h:∀a∈l,(g a).length<=B):(l.flatMap g).length<=l.length * B:=by
 induction l with
 | nil=>simp
 | cons a l c=>have d:=c λb hb=>h b (ZE _ hb);have e:=h a Zs;rw[flatMap_cons,Ze,Zj,Nat.succ_mul];omega
theorem PB {k:QA} (h:BI k=true):(DH k).length<=50000:=by have⟨a,c,b⟩:=Cz h;have e1:=Fj (w:=[107,105,110,100]) dc a;have e2:=DU (l:=k.Xb) (g:=Df) (B:=4000) λf hf=>Lk (EJ (b f hf));unfold DH;rw[Ze];simp only[Zj,Zm] at e1;omega
theorem TQ {n:Int} (a:n<=1000) {m:AS} (h:Bf n m=true):∀v∈[AnyV.int m.a0,.int m.a1],VOk v:=by simp only[Bf,Zh] at h;have b:=Aq h.1;have c:=Aq h.2;simp only[Zp,ZF,ZN,ZL,forall_eq];exact⟨Bv om,Bv om⟩
theorem Ta {l:Qm} (h:BT l=true):(∀v∈[AnyV.str l.Xj,.int (l.Xe.length:Int)]++l.Xe.map .str,VOk v)/\l.Xe.length<=12/\l.Xg.length<=32/\∀m∈l.Xg,∀v∈[AnyV.int m.a0,.int m.a1],VOk v:=by
 simp only[BT,Zh,ZD,Zk] at h;have⟨⟨⟨⟨b,c⟩,d⟩,g⟩,e⟩:=h;have hl:=(Aq c).2;refine⟨λv a=>?_,om,om,λm hm=>TQ om (e m hm)⟩;rcases ZH.1 a with a | a
 ·simp only[Zp,ZF,ZN] at a;rcases a with rfl | rfl
  ·exact DX b
  ·exact Bv om
 ·obtain⟨s,f,rfl⟩:=ZR.1 a;exact DX (d s f)
theorem Ll {m:AS} (h:∀v∈[AnyV.int m.a0,.int m.a1],VOk v):(EK m).length<=300:=by have:=Fj (w:=[109,111,118,101]) dc h;simp only[Zj,Zm] at this;unfold EK;omega
theorem Lm {l:Qm} (h:BT l=true):(DV l).length<=20000:=by have⟨a,c,d,b⟩:=Ta h;have e1:=Fj (w:=[108,105,102,101]) dc a;have e2:=DU (l:=l.Xg) (g:=EK) (B:=300) λm hm=>Ll (b m hm);unfold DV;rw[Ze];simp only[Ze,Zj,Zm,Yh] at e1;omega
theorem Tb (h:BF r=true):∀v∈Dv r,VOk v:=by simp only[BF,Zh] at h;have⟨⟨⟨⟨⟨a,b⟩,c⟩,d⟩,_⟩,e⟩:=h;have:=Aq e;unfold Dv;simp only[Zp,ZF,ZN,ZL,forall_eq];exact⟨DX a,DX b,GX c,GX d,Bv om⟩
theorem PC (h:BF r=true):(EL r).length<=1000:=by have:=Fj (w:=[114,117,108,101]) dc (Tb h);have e:(Dv r).length=5:=rfl;unfold EL;omega
def CU (x:Qc):Bool:=((((inW x.Version 0 1048576&&decide ((x.Xa.length:Int)<=6))&&decide ((x.Xd.length:Int)<=6))&&decide ((x.Xc.length:Int)<=16))&&x.Xa.all BI)&&x.Xd.all BT&&x.Xc.all BF
structure HY (x:Qc):Prop where
 version:0<=x.Version/\x.Version<=1048576
 kinds:x.Xa.length<=6
 lives:x.Xd.length<=6
 rules:x.Xc.length<=16
 kind:∀k∈x.Xa,BI k=true
 life:∀l∈x.Xd,BT l=true
 rule:∀r∈x.Xc,BF r=true
theorem HZ {x:Qc} (h:CU x=true):HY x:=by simp only[CU,Zh,ZD,Zk] at h;have⟨⟨⟨⟨⟨⟨a,e⟩,f⟩,g⟩,b⟩,c⟩,d⟩:=h;exact⟨Aq a,om,om,om,b,c,d⟩
theorem dK {x:Qc} (h:HY x):Ln x=some (srcS x):=by
 have O:=h.version;have v0:∀v∈[AnyV.int x.Version],VOk v:=by simp only[Zp,ZF,ZN,forall_eq];exact Bv om
 have H:=Fj (w:=[115,99,104,101,109,97]) dc v0;simp only[Zj,Zm] at H;have P:=DU (l:=x.Xa) (g:=DH) (B:=50000) λk a=>PB (h.kind k a);have R:=DU (l:=x.Xd) (g:=DV) (B:=20000) λk a=>Lm (h.life k a);have S:=h.kinds;have T:=h.lives;have U:=h.rules;unfold Ln;rw[Hn dc dc sm v0];simp only[Za];rw[E7 (by rw[Zm];omega)];simp only[Za,Yl];rw[Dl x.Xa DH 50000 (λk a=>PB (h.kind k a)) (Bp [115,99,104,101,109,97] [.int x.Version]) (λk a b d=>?_) (λb=>Zb sm)]
 ·simp only[Za];rw[Dl x.Xd DV 20000 (λk a=>Lm (h.life k a)) (Bp [115,99,104,101,109,97] [.int x.Version]++x.Xa.flatMap DH) (λk a b d=>?_) (λb=>Zb sm)]
  ·simp only[Za];rw[Dl x.Xc EL 1000 (λk a=>PC (h.rule k a)) (Bp [115,99,104,101,109,97] [.int x.Version]++x.Xa.flatMap DH++x.Xd.flatMap DV) (λk a b d=>?_) (λb=>Zb sm)]
   ·simp only[Za];have e:GW (srcS x)=some (srcS x):=Zb λh=>by
     have:=ZU length h;simp only[srcS,Bp,Ze,Zj,Zm] at this;omega
    show (GW (srcS x)).bind _=_;rw[e];rfl
   ·have D:=h.rule _ (Zr a);have I:=PC D;rw[Zc (sa a)];dsimp only;rw[QY a];simp only[Za];rw[O9,O9];simp only[Za];show (CR [114,117,108,101] (Dv x.Xc[k])).bind _=_;rw[Hn dc dc (by simp[Dv]) (Tb D)];simp only[Za];rw[Ze,Ze] at d;rw[E7 (by show b.length+(EL x.Xc[k]).length<=_;omega),QD a om];rfl
  ·have hl:=h.life _ (Zr a);have⟨s,K,z,E⟩:=Ta hl;have L:=Lm hl;rw[Zc (sa a)];dsimp only;rw[QY a];simp only[Za];have t:∀n,n<=x.Xd[k].Xe.length->([AnyV.str x.Xd[k].Xj,.int (x.Xd[k].Xe.length:Int)]++(x.Xd[k].Xe.take n).map AnyV.str).length<=100:=λn u=>by
    simp only[Ze,Zj,Zm,Yh,ZY];omega
   refine DP x.Xd[k].Xe.length (λn=>((n:Int),[AnyV.str x.Xd[k].Xj,.int (x.Xd[k].Xe.length:Int)]++(x.Xd[k].Xe.take n).map AnyV.str)) _ sm (λn u=>?_) (Zb sm) ?_
   ·rw[Zc (sa u)];dsimp only;rw[QY u];simp only[Za];rw[CK (by have:=t n om;rw[length_singleton];omega),QD u om,Zz u,Yu,<-ZJ];rfl
   ·dsimp only;rw[Zw (Zq _),Hn dc dc (by have:=t _ (Zq _);rw[Zw (Zq _)] at this;omega) s];simp only[Za];have A:=Fj (w:=[108,105,102,101]) dc s;simp only[Ze,Zj,Zm,Yh] at A;rw[Ze] at d;rw[E7 om];simp only[Za];rw[Dl x.Xd[k].Xg EK 300 (λm hm=>Ll (E m hm)) _ (λq o p c=>?_) (λb=>Zb sm)]
    ·simp only[Za];rw[QD a om];simp[DV]
    ·have hm:=E _ (Zr o);have M:=Ll hm;rw[Zc (sa o)];dsimp only;rw[QY o];simp only[Za];rw[Hn dc dc sm hm];simp only[Za];rw[Ze] at c;rw[E7 (by show p.length+(EK x.Xd[k].Xg[q]).length<=_;omega),QD o om];rfl
 ·have C:=h.kind _ (Zr a);have⟨s,K,z⟩:=Cz C;have A:=Fj (w:=[107,105,110,100]) dc s;simp only[Zj,Zm] at A;rw[Zc (sa a)];dsimp only;rw[QY a];simp only[Za];rw[Hn dc dc sm s];simp only[Za];rw[E7 om];simp only[Za];rw[Dl x.Xa[k].Xb Df 4000 (λf hf=>Lk (EJ (z f hf))) _ (λq o p c=>?_) (λb=>Zb sm)]
  ·simp only[Za];rw[QD a om];simp[DH]
  ·have hf:=EJ (z _ (Zr o));have N:=Lk hf;rw[Zc (sa o)];dsimp only;rw[QY o];simp only[Za];rw[dJ hf];simp only[Za];rw[Ze] at c;rw[E7 om,QD o om];rfl
def CT (x:Qc):Int:=if CU x=true then if (srcS x).length>8192 then 4 else 0 else 1
def Fine (x:Qc):Prop:=(x.Xa.length<=1000000/\∀k∈x.Xa,PD k.Xb)/\(x.Xd.length<=1000000/\∀l∈x.Xd,l.Xe.length<=1000000/\l.Xg.length<=1000000)/\x.Xc.length<=1000000
theorem dL {x:Qc} (h:Fine x):Lp x=some (CT x):=by
 have⟨⟨a1,a2⟩,⟨u,t⟩,c⟩:=h;unfold Lp;rw[dM (p:=BI) a1 (λk v=>dN (a2 k v)),dO (p:=BT) u (λl hl=>dP (t l hl).1 (t l hl).2),dR (p:=BF) c (λr _=>dS r)];show (some (inW x.Version 0 1048576)).bind _=_;simp only[Za];have b:∀(n:Nat) (m:Int),decide ((n:Int)>m)=!decide ((n:Int)<=m):=λn m=>by
  by_cases h:(n:Int)<=m
  ·rw[decide_eq_true h,decide_eq_false om];rfl
  ·rw[decide_eq_false h,decide_eq_true om];rfl
 rw[b,b,b];unfold CT
 cases a:CU x with
 | true=>
  have w:=dK (HZ a);simp only[CU,Zh] at a;have⟨⟨⟨⟨⟨⟨d,e⟩,f⟩,g⟩,o⟩,q⟩,s⟩:=a;simp only[d,e,f,g,o,q,s,Sim.opt,Bool.not_true,Bool.or_self,beq_self_eq_true,if_true,Za];rw[Zb dc,w];simp only[Za];by_cases hl:(srcS x).length>8192
  ·rw[Zc so,Zc hl]
  ·rw[Zb so,Zb hl]
 | false=>
  rw[Zb dc];unfold CU at a
  cases d:inW x.Version 0 1048576<;>cases e:decide ((x.Xa.length:Int)<=6)<;>cases f:decide ((x.Xd.length:Int)<=6)<;>cases g:decide ((x.Xc.length:Int)<=16)<;>
   cases o:x.Xa.all BI<;>cases q:x.Xd.all BT<;>cases s:x.Xc.all BF<;>first | rfl | (rw[d,e,f,g,o,q,s] at a;cases a)
def Ap:List A1->Int
 | []=>0
 | f::r=>if f.is then f.code else Ap r
theorem GY {l:List A1} (hl:l.length<=1000):CB l=some (Ap l):=by
 have key:Ok (CB l) (λr=>r=Ap l):=by
  unfold CB;refine Ok.bind (P:=λe:Unit⊕Int=>(match e with | .inl _=>0 | .inr r=>r)=Ap l) (Ok.loop (λm s=>0<=s/\s+m=l.length/\Ap (l.drop s.toNat)=Ap l) l.length ⟨Zx _,om,sm⟩ λm s d=>?_) λe f=>by cases e<;>exact Ok.mk f
  have⟨g,n,b⟩:=d;obtain⟨k,rfl⟩:=ZB g;rw[Zu] at b;refine Ok.ite (λc=>?_) (λc=>?_)
  ·have a:k<l.length:=by simpa using c
   rw[QY a];simp only[Za];rw[Yq a,Ap] at b;refine Ok.ite (λhi=>Ok.mk ?_) (λhi=>Ok.mk ⟨m - 1,om,?_⟩)
   ·rw[Zc hi] at b;exact b
   ·rw[Zb (by rw[hi];decide)] at b;rw[QD a om];exact⟨om,om,by rw[Zu];exact b⟩
  ·have a:¬k<l.length:=by simpa using c
   rw[drop_of_length_le om] at b;exact Ok.mk b
 obtain⟨r,h,rfl⟩:=key;exact h
def topS (x:Qc) (k j:Int) (f:Qe):Qe×Bool:=
 if upIx x k j<0 then (Ar,false)
 else match idx x.Xa (upIx x k j) with
  | none=>(Ar,false)
  | some q=>match field? x (upIx x k j) (AD q f.Of) with | some g=>(g,true) | none=>(Ar,false)
def Lr (g:Qe):Bool:=((((g.Xi==2)||(g.Xi==3))||(g.Xi==4))||(g.Xi==5))||(g.Xi==8)
def Be (x:Qc) (q:QA) (k j:Int) (f:Qe):Int:=
 if f.Xi=0 then Ap [⟨decide (j>0),13⟩]
 else if f.Xi=1 then Ap [⟨decide (upIx x k j<0),12⟩]
 else if f.Xi=4 then Ap [⟨(f.Of !=[])&&(((decide (AD q f.Of<0))||(decide (AD q f.Of>=j)))||((match field? x k (AD q f.Of) with | some g=>(g,true) | none=>(Ar,false)).1.Xi !=4)),12⟩]
 else if f.Xi=5 then Ap [⟨!(x.Xd.any λl=>l.Xj==f.Of),12⟩]
 else if f.Xi=6 then Ap [⟨decide ((B9 x k f).1<0),12⟩,⟨((B9 x k f).2.length:Int) !=1,11⟩]
 else if f.Xi=7 then Ap [⟨decide (upIx x k j<0),12⟩,⟨((!(topS x k j f).2)||((topS x k j f).1.Xi !=6))||(Q3 x (topS x k j f).1.Of !=k),13⟩]
 else if f.Xi=8 then Ap [⟨decide (upIx x k j<0),12⟩,⟨(!(topS x k j f).2)||(!Lr (topS x k j f).1),13⟩]
 else 0
theorem Kn (x:Qc) (k j:Int) (b:0<=k):upIx x k j<k/\-1<=upIx x k j:=by
 have a:∀g,DY x k g<k/\-1<=DY x k g:=λg=>by have:=FX x g.Of;unfold DY;split<;>omega
 unfold upIx
 cases field? x k j with
 | none=>exact⟨by dsimp only;omega,by dsimp only;omega⟩
 | some f=>
  dsimp only;split
  ·split
   ·omega
   ·split
    ·split
     ·split
      ·exact a _
      ·omega
     ·omega
    ·omega
  ·split
   ·exact a _
   ·omega
theorem Td {x:Qc} {k:Int} {f:Qe} (hx:Few x) (b:0<=k) (c:k<x.Xa.length):Iy ⟨x,k,j,f⟩=some (topS x k j f):=by
 unfold Iy topS;rw[GZ hx];simp only[Za];by_cases hu:upIx x k j<0
 ·rw[Zc (sa hu),Zc hu];rfl
 ·rw[Zb (sa hu),Zb hu];have e:=Kn x k j b;have⟨q,d,a⟩:=Cj (l:=x.Xa) (i:=upIx x k j) om om;rw[d];simp only[Za];rw[DZ (by have:=hx.2 q a;omega)];simp only[Za];rw[FZ];cases field? x (upIx x k j) (AD q f.Of)<;>rfl
theorem PE {x:Qc} {k:Int} {f:Qe} (hx:Few x):Hp ⟨x,k,j,f⟩=some (decide (upIx x k j<0)):=by unfold Hp;rw[GZ hx];rfl
theorem dT {x:Qc} {k:Int} {q:QA} {f:Qe} (hx:Few x) (hl:x.Xd.length<=1000) (A:idx x.Xa k=some q) (hf:field? x k j=some f) (h:(Bw f.Xi).isSome=true):Hr (DO.mk (Bw f.Xi)).check ⟨x,k,j,f⟩=some (Be x q k j f):=by
 have⟨D,v,E,d,B,w,e,C⟩:=Cg hf;rw[A] at d;cases d;have one:∀a,CB [a]=some (Ap [a]):=λa=>GY sm;have c:∀a b,CB [a,b]=some (Ap [a,b]):=λa b=>GY sm;unfold Be;dsimp only;by_cases g:f.Xi=0
 ·rw[Zc g,g];show Ls _=_;unfold Ls;rw[one];rfl
 rw[Zb g];by_cases m:f.Xi=1
 ·rw[Zc m,m];show Lt _=_;unfold Lt;rw[PE hx];simp only[Za];rw[one];rfl
 rw[Zb m];by_cases n:f.Xi=4
 ·rw[Zc n,n];show Lu _=_;unfold Lu;dsimp only;rw[A];simp only[Za];rw[DZ (by have:=hx.2 q w;omega)];simp only[Za];rw[FZ];simp only[Za];rw[one];rfl
 rw[Zb n];by_cases o:f.Xi=5
 ·rw[Zc o,o];show Lv _=_;unfold Lv;dsimp only;rw[PF (s:=x.Xd) (f:=λx0=>PI x0 ⟨x,k,j,f⟩) (p:=λl=>l.Xj==f.Of) om (λl _=>rfl)];simp only[Za];rw[one];rfl
 rw[Zb o];by_cases t:f.Xi=6
 ·rw[Zc t];show Hr (Bw f.Xi) _=_;rw[t];show Lw _=_;unfold Lw;dsimp only;rw[S2 hx v];simp only[Za];rw[c];rfl
 rw[Zb t];by_cases u:f.Xi=7
 ·rw[Zc u];show Hr (Bw f.Xi) _=_;rw[u];show Lx _=_;unfold Lx;rw[Td hx v e,PE hx];simp only[Za];rw[GB (by have:=hx.1;omega)]
  cases hc:((!(topS x k j f).2)||((topS x k j f).1.Xi !=6)) with
  | true=>simp only[Sim.opt,Bool.true_or];show (CB _).bind _=_;rw[c];rfl
  | false=>simp only[Sim.opt,beq_self_eq_true,if_true,Za];rw[c];rfl
 rw[Zb u];by_cases z:f.Xi=8
 ·rw[Zc z];show Hr (Bw f.Xi) _=_;rw[z];show Ly _=_;unfold Ly;rw[Td hx v e,PE hx];simp only[Za];rw[c];rfl
 rw[Bw,Zb g,Zb m,Zb n,Zb o,Zb t,Zb u,Zb z] at h;cases h
theorem dU {x:Qc} {k:Int} {q:QA} {f:Qe} (h:(Bw f.Xi).isSome=false):Be x q k j f=0:=by
 unfold Be;by_cases a:f.Xi=0
 ·rw[a] at h;cases h
 by_cases b:f.Xi=1
 ·rw[b] at h;cases h
 by_cases c:f.Xi=4
 ·rw[c] at h;cases h
 by_cases d:f.Xi=5
 ·rw[d] at h;cases h
 by_cases e:f.Xi=6
 ·rw[e] at h;cases h
 by_cases g:f.Xi=7
 ·rw[g] at h;cases h
 by_cases l:f.Xi=8
 ·rw[l] at h;cases h
 rw[Zb a,Zb b,Zb c,Zb d,Zb e,Zb g,Zb l]
def kindE (x:Qc) (i:Int) (q:QA):Int:=Ap [⟨decide (Q3 x q.Xj<i),7⟩,⟨((q.Xb.length:Int)==0)||((q.Xb.headD Ar).Xi !=0),11⟩]
theorem dW {x:Qc} {i:Int} {q:QA} (hx:Few x) (b:idx x.Xa i=some q):Lq x i=some (kindE x i q):=by
 unfold Lq kindE;rw[b];simp only[Za];rw[GB (by have:=hx.1;omega)];simp only[Za]
 cases hf:q.Xb with
 | nil=>show (CB _).bind _=_;rw[GY sm];rfl
 | cons f a=>
  have e:(((f::a).length:Int)==0)=false:=by simp;omega
  rw[e];simp only[Sim.opt,beq_self_eq_true,if_true];rw[show idx (f::a) (0:Int)=some f from rfl];simp only[Za];rw[GY sm];rfl
def ruleAt (x:Qc) (k:Int) (n:Str):Qe×Bool:=match idx x.Xa k with | none=>(Ar,false) | some q=>match field? x k (AD q n) with | some g=>(g,true) | none=>(Ar,false)
def A7 (x:Qc) (k:Int) (n:Str):Bool:=!((n==[])||decide (k<0))&&!(ruleAt x k n).2
def BP (x:Qc) (k:Int) (n:Str):Bool:=!((n==[])||decide (k<0))&&(((ruleAt x k n).1.Xi !=2)&&((ruleAt x k n).1.Xi !=4))
def E1 (x:Qc) (i:Nat) (r:QL):Int:=Ap [⟨(x.Xc.take i).any λs=>s.Xj==r.Xj,7⟩,⟨(decide (Q3 x r.Xi<0)||A7 x (Q3 x r.Xi) r.A)||A7 x (Q3 x r.Xi) r.B,12⟩,⟨BP x (Q3 x r.Xi) r.A||BP x (Q3 x r.Xi) r.B,13⟩,⟨r.A==r.B,1⟩]
theorem Te {x:Qc} {k:Int} {n:Str} {a b:Bool} (hx:Few x) (d:k<x.Xa.length) (g:Bool×Bool->β):
  (if (n==([]:Str))||(decide (k<0)) then some (g (a,b)) else (idx x.Xa k).bind λt53=>(CW t53 n).bind λt56=>(EW x k t56).bind λt57=>some (g ((a||(!t57.2)),(b||((t57.1.Xi !=2)&&(t57.1.Xi !=4))))))=some (g (a||A7 x k n,b||BP x k n)):=by
 unfold A7 BP
 cases hc:((n==([]:Str))||(decide (k<0))) with
 | true=>rw[Zc rfl];simp
 | false=>rw[Zb dc];simp only[Bool.or_eq_false_iff,ZI] at hc;have⟨q,e,c⟩:=Cj (l:=x.Xa) (i:=k) om d;unfold ruleAt;rw[e];simp only[Za];rw[DZ (by have:=hx.2 q c;omega)];simp only[Za];rw[FZ];cases field? x k (AD q n)<;>simp
theorem dX {x:Qc} (hx:Few x) (hl:x.Xc.length<=1000) (hi:i<x.Xc.length) (g:x.Xc[i]?=some r):L0 x (i:Int)=some (E1 x i r):=by
 unfold L0;rw[BN,g];simp only[Za];have l:Sim.sub x.Xc 0 (i:Int)=some (x.Xc.take i):=by unfold Sim.sub;rw[Zc ⟨dc,om,om⟩];simp
 rw[l];simp only[Za];rw[Tf (f:=λx0=>PJ x0 r) (p:=λs=>s.Xj==r.Xj) (by rw[ZY];omega) (λs _=>rfl)];simp only[Za];rw[GB (by have:=hx.1;omega)];simp only[Za];have e:=(FX x r.Xi).2
 let d:Nat->Int×Bool×Bool:=λn=>match n with
  | 0=>(0,decide (Q3 x r.Xi<0),false)
  | 1=>(1,decide (Q3 x r.Xi<0)||A7 x (Q3 x r.Xi) r.A,false||BP x (Q3 x r.Xi) r.A)
  | _=>(2,(decide (Q3 x r.Xi<0)||A7 x (Q3 x r.Xi) r.A)||A7 x (Q3 x r.Xi) r.B,(false||BP x (Q3 x r.Xi) r.A)||BP x (Q3 x r.Xi) r.B)
 refine DP 2 d ((d 2).2.1,(d 2).2.2) rfl (λn m=>?_) rfl ?_
 ·have:n=0\/n=1:=by omega
  rcases this with rfl | rfl
  ·have h:=Te (x:=x) (k:=Q3 x r.Xi) (n:=r.A) (a:=decide (Q3 x r.Xi<0)) (b:=false) hx e id;show (Option.bind (if _ then _ else _) _:Option _)=_;exact (ZU (λo=>Option.bind o (λc:Bool×Bool=>some (Sum.inl (i64.wrap ((0:Int)+(1:Int)),c.1,c.2)))) h:_)
  ·have h:=Te (x:=x) (k:=Q3 x r.Xi) (n:=r.B) (a:=decide (Q3 x r.Xi<0)||A7 x (Q3 x r.Xi) r.A) (b:=false||BP x (Q3 x r.Xi) r.A) hx e id;show (Option.bind (if _ then _ else _) _:Option _)=_;exact (ZU (λo=>Option.bind o (λc:Bool×Bool=>some (Sum.inl (i64.wrap ((1:Int)+(1:Int)),c.1,c.2)))) h:_)
 ·dsimp only;rw[GY sm];simp[d,E1]
theorem EG (n:Nat) (g:Nat->List β) (B:Nat) (b:∀k,k<n->(g k).length<=B) (a0:List β) {body:Int×List β->Option ((Int×List β)⊕List β)} (c:∀k,k<n->∀a:List β,a.length<=a0.length+k * B->body ((k:Int),a)=some (.inl (((k+1:Nat):Int),a++g k))) (d:∀a,body ((n:Int),a)=some (.inr a)):
  Qr body ((0:Int),a0)=some (a0++(range n).flatMap g):=by
 have hlen:∀m,m<=n->((range m).flatMap g).length<=m * B:=λm=>by
  induction m with
  | zero=>intro _;simp
  | succ m e=>intro hm;rw[Ym,ZM,Ze,Nat.succ_mul];have l:=e om;have o:=b m om;simp only[flatMap_cons,flatMap_nil,Yg];omega
 have h:=IY (body:=body) n (λm=>((m:Int),a0++(range m).flatMap g)) (a0++(range n).flatMap g) (λk f=>?_) ?_
 ·simpa using h
 ·rw[c k f _ (by rw[Ze];have:=hlen k om;omega),Ym,ZM];simp
 ·rw[d]
def prob (k j r e:Int):List QI:=if e=0 then [] else [⟨k,j,r,e⟩]
theorem GQ (k j r e:Int):(prob k j r e).length<=1:=by unfold prob;split<;>simp
theorem L1 {k r e:Int} {l:List QI} (h:l.length<=1000000000):Ga k j r e l=some (l++prob k j r e):=by
 unfold Ga prob;by_cases a:e=0
 ·rw[Zb (by simp[a]),Zc a,Yg];rfl
 ·rw[Zc (sa a),Zb a,CK (by rw[length_singleton];omega)];rfl
def L2 (x:Qc) (i:Nat) (l:Qm):Int:=Ap [⟨(x.Xd.take i).any λm=>m.Xj==l.Xj,7⟩]
def FW (x:Qc) (q:QA) (k j:Int) (f:Qe):Int:=if AD q f.Xj<j then 7 else Be x q k j f
def C2 (x:Qc) (i:Nat):List QI:=match x.Xd[i]? with | some l=>prob (-1) (i:Int) (-1) (L2 x i l) | none=>[]
def De (x:Qc) (i:Nat) (q:QA) (j:Nat):List QI:=match q.Xb[j]? with | some f=>prob (i:Int) (j:Int) (-1) (FW x q (i:Int) (j:Int) f) | none=>[]
def GG (x:Qc) (i:Nat) (q:QA):List QI:=(range q.Xb.length).flatMap (De x i q)
def Cf (x:Qc) (i:Nat):List QI:=match x.Xa[i]? with | some q=>prob (i:Int) (-1) (-1) (kindE x (i:Int) q)++GG x i q | none=>[]
def EH (x:Qc) (i:Nat):List QI:=match x.Xc[i]? with | some r=>prob (-1) (-1) (i:Int) (E1 x i r) | none=>[]
def CX (x:Qc):List QI:=(range x.Xd.length).flatMap (C2 x)
def DF (x:Qc):List QI:=(range x.Xa.length).flatMap (Cf x)
def IQ (x:Qc):List QI:=(range x.Xc.length).flatMap (EH x)
theorem L3 (x:Qc) (i:Nat):(C2 x i).length<=1:=by unfold C2;cases x.Xd[i]? with | none=>simp | some f=>exact GQ _ _ _ _
theorem PK (x:Qc) (i:Nat) (q:QA) (j:Nat):(De x i q j).length<=1:=by unfold De;cases q.Xb[j]? with | none=>simp | some f=>exact GQ _ _ _ _
theorem Tg (x:Qc) (i:Nat):(EH x i).length<=1:=by unfold EH;cases x.Xc[i]? with | none=>simp | some f=>exact GQ _ _ _ _
def AN (x:Qc):List QI:=if CT x=0 then CX x++DF x++IQ x else [⟨-1,-1,-1,CT x⟩]
theorem DR (n:Nat) (g:Nat->List β) (B:Nat) (a:∀k,k<n->(g k).length<=B):((range n).flatMap g).length<=n * B:=by
 induction n with
 | zero=>simp
 | succ n b=>rw[Ym,ZM,Ze,Nat.succ_mul];have c:=b λk d=>a k om;have e:=a n om;simp only[flatMap_cons,flatMap_nil,Yg];omega
structure IZ (x:Qc):Prop where
 few:Few x
 fine:Fine x
 lives:x.Xd.length<=1000
 rules:x.Xc.length<=1000
theorem Th {x:Qc} {q:QA} (h:q.Xb.length<=1000):(GG x i q).length<=1000:=by have:=DR q.Xb.length (De x i q) 1 (λj _=>PK x i q j);unfold GG;omega
theorem dY {x:Qc} (h:IZ x):L4 x=some (AN x):=by
 have⟨hx,d,u,v⟩:=h;unfold L4;rw[dL d];simp only[Za];unfold AN;by_cases q:CT x=0
 ·rw[Zb (by simp[q]),Zc q];have C:(CX x).length<=1000:=by
   have:=DR x.Xd.length (C2 x) 1 (λj _=>L3 x j);unfold CX;omega
  have w:∀k,k<x.Xa.length->(Cf x k).length<=1001:=λk a=>by unfold Cf;rw[Zd a];dsimp only;have:=Th (x:=x) (i:=k) (hx.2 _ (Zr a));have:=GQ k (-1) (-1) (kindE x k x.Xa[k]);rw[Ze];omega
  have D:(DF x).length<=1001000:=by have:=DR x.Xa.length _ 1001 w;have:=hx.1;unfold DF;omega
  have A:=hx.1;rw[EG x.Xd.length (C2 x) 1 (λj _=>L3 x j) [] (λk a c b=>?_) (λc=>Zb sm)]
  ·rw[show ([]:List QI)++(range x.Xd.length).flatMap (C2 x)=CX x from rfl];simp only[Za];rw[EG x.Xa.length (Cf x) 1001 w (CX x) (λk a c b=>?_) (λc=>Zb sm)]
   ·rw[show CX x++(range x.Xa.length).flatMap (Cf x)=CX x++DF x from rfl];simp only[Za];rw[EG x.Xc.length (EH x) 1 (λj _=>Tg x j) (CX x++DF x) (λk a c b=>?_) (λc=>Zb sm)]
    ·rfl
    ·rw[Ze] at b;rw[Zc (sa a)];dsimp only;rw[dX hx v a (Zd a)];simp only[Za];rw[L1 om];simp only[Za];unfold EH;rw[QD a om,Zd a]
   ·have s:=QY a;have B:=hx.2 _ (Zr a);rw[Zc (sa a)];dsimp only;rw[s];simp only[Za];rw[dW hx s];simp only[Za];rw[L1 om];simp only[Za];have pl:=GQ k (-1) (-1) (kindE x k x.Xa[k]);rw[EG x.Xa[k].Xb.length (De x k x.Xa[k]) 1 (λj _=>PK x k _ j) _ (λj n z g=>?_) (λc=>Zb sm)]
    ·simp only[Za];unfold Cf;rw[QD a om,Zd a,ZJ];rfl
    ·rw[Ze] at g;rw[Zc (sa n)];dsimp only;rw[QY n];simp only[Za];rw[DZ om];simp only[Za];rw[GY sm];simp only[Za];have hf:field? x (k:Int) (j:Int)=some x.Xa[k].Xb[j]:=E0 om om s (QY n);have e:(if (Bw x.Xa[k].Xb[j].Xi).isSome&&(Ap [⟨decide (AD x.Xa[k] x.Xa[k].Xb[j].Xj<(j:Int)),7⟩]==0) then (Hr (DO.mk (Bw x.Xa[k].Xb[j].Xi)).check ⟨x,k,j,x.Xa[k].Xb[j]⟩).bind λt97=>some t97 else some (Ap [⟨decide (AD x.Xa[k] x.Xa[k].Xb[j].Xj<(j:Int)),7⟩]))=some (FW x x.Xa[k] k j x.Xa[k].Xb[j]):=by
      unfold FW;by_cases o:AD x.Xa[k] x.Xa[k].Xb[j].Xj<(j:Int)
      ·rw[Zc o,Zb (by simp[Ap,o])];simp[Ap,o]
      ·rw[Zb o];have e0:Ap [⟨decide (AD x.Xa[k] x.Xa[k].Xb[j].Xj<(j:Int)),7⟩]=0:=by simp[Ap,o]
       rw[e0]
       cases t:(Bw x.Xa[k].Xb[j].Xi).isSome with
       | true=>rw[Zc sm,dT hx u s hf t];rfl
       | false=>rw[Zb sm,dU t]
     rw[e];simp only[Za];rw[L1 om];simp only[Za];unfold De;rw[QD n om,Zd n]
  ·rw[Zm] at b;rw[Zc (sa a)];dsimp only;rw[QY a];simp only[Za];have t:Sim.sub x.Xd 0 (k:Int)=some (x.Xd.take k):=by
    unfold Sim.sub;rw[Zc ⟨dc,om,om⟩];simp
   rw[t];simp only[Za];rw[PF (f:=λx0=>PM x0 x.Xd[k]) (p:=λm=>m.Xj==x.Xd[k].Xj) (by rw[ZY];omega) (λl _=>rfl)];simp only[Za];rw[GY sm];simp only[Za];rw[L1 om];simp only[Za];unfold C2;rw[QD a om,Zd a];rfl
 ·rw[Zc (sa q),Zb q]
theorem Km {k r e:Int} (h:prob k j r e=[]):e=0:=by
 unfold prob at h;split at h
 ·assumption
 ·cases h
theorem clean {x:Qc} (hc:AN x=[]) {k:Int} {q:QA} {f:Qe} (e:idx x.Xa k=some q) (hf:field? x k j=some f):Be x q k j f=0:=by
 have⟨t,m,o,a,b,_,p,s⟩:=Cg hf;rw[e] at a;cases a;obtain⟨i,rfl⟩:=ZB m;obtain⟨n,rfl⟩:=ZB o;rw[BN] at e b;unfold AN at hc;split at hc
 ·simp only[append_eq_nil_iff] at hc;have g:=hc.1.2;unfold DF at g;rw[flatMap_eq_nil_iff] at g;have c:=g i (Yd.2 om);unfold Cf at c;rw[e] at c;dsimp only at c;rw[append_eq_nil_iff] at c;have h:=c.2;unfold GG at h;rw[flatMap_eq_nil_iff] at h;have l:=h n (Yd.2 om);unfold De at l;rw[b] at l;have d:=Km l;unfold FW at d;split at d
  ·cases d
  ·exact d
 ·cases hc
theorem CN {a:Bool} {c:Int} {r:List A1} (h:Ap (⟨a,c⟩::r)=0) (hc:c≠0):a=false/\Ap r=0:=by
 unfold Ap at h
 cases a with
 | true=>exact (hc h).elim
 | false=>exact⟨rfl,h⟩
theorem aR {x:Qc} {q:QA} {k:Int} {f:Qe} (h:Be x q k j f=0) (a:f.Xi=1\/f.Xi=7\/f.Xi=8):0<=upIx x k j:=by
 unfold Be at h;rcases a with a | a | a
 ·rw[Zb om,Zc a] at h;have:=(CN h dc).1;simpa using this
 ·rw[Zb om,Zb om,Zb om,Zb om,Zb om,Zc a] at h;have:=(CN h dc).1;simpa using this
 ·rw[Zb om,Zb om,Zb om,Zb om,Zb om,Zb om,Zc a] at h;have:=(CN h dc).1;simpa using this
theorem aT {x:Qc} {q:QA} {k:Int} {f:Qe} (hf:field? x k j=some f) (h:Be x q k j f=0) (g:f.Xi=6):∃o a,Du x k j=(o,a)/\k<o/\upIx x o a=k:=by
 have⟨_,m,_⟩:=Cg hf;unfold Be at h;rw[Zb om,Zb om,Zb om,Zb om,Zc g] at h;have⟨e1,h⟩:=CN h dc;have⟨e2,_⟩:=CN h dc;have b:¬(B9 x k f).1<0:=by simpa using e1
 have c:(B9 x k f).2.length=1:=by
  have:((B9 x k f).2.length:Int)=1:=by simpa using e2
  omega
 have⟨a,ha⟩:=length_eq_one_iff.1 c;unfold B9 at b ha;split at b
 ·exact (b dc).elim
 ·rename_i hc;rw[Zb hc] at ha;have d:k<Q3 x f.Of:=by
   rcases Int.lt_or_le k (Q3 x f.Of) with h | h
   ·exact h
   ·exact (hc (.inr h)).elim
  refine⟨Q3 x f.Of,a,?_,d,?_⟩
  ·unfold Du;rw[hf];dsimp only;unfold B9;rw[Zb hc];dsimp only at ha ⊢;rw[ha]
  ·dsimp only at ha;unfold shl at ha;split at ha
   ·rename_i e _;have hm:a∈((range e.Xb.length).filter (DG x (Q3 x f.Of) k f.Xj e.Xb)).map Int.ofNat:=by rw[ha];exact mem_singleton_self _
    obtain⟨n,l,rfl⟩:=ZR.1 hm;have hp:=(Yn.1 l).2;unfold DG at hp;split at hp
    ·simp only[Zh,Yj] at hp;exact hp.2
    ·cases hp
   ·cases ha
theorem out_or (n:Nat):((decide ((n:Int)<1))||(decide ((n:Int)>12)))=!inW (n:Int) 1 12:=by
 unfold inW;by_cases a:(n:Int)<1
 ·rw[decide_eq_true a,decide_eq_false (by omega:¬(n:Int)>=1)];rfl
 ·rw[decide_eq_false a,decide_eq_true (by omega:(n:Int)>=1)];by_cases b:(n:Int)>12
  ·rw[decide_eq_true b,decide_eq_false (by omega:¬(n:Int)<=12)];rfl
  ·rw[decide_eq_false b,decide_eq_true (by omega:(n:Int)<=12)];rfl
theorem Iz (s:Str):DQ s=some (QX s):=by
 unfold DQ QX;rw[out_or]
 cases s with
 | nil=>rfl
 | cons c s=>
  cases h:inW ((c::s).length:Int) 1 12 with
  | false=>rfl
  | true=>
   have hl:=(Aq h).2;rw[show idx (c::s) (0:Int)=some c from rfl];simp only[Sim.opt,Bool.not_true,beq_self_eq_true,if_true,Za];rw[show Iq (c.toNat:Int)=some (CO (c.toNat:Int)) from rfl];simp only[Za]
   cases hc:CO (c.toNat:Int) with
   | false=>simp[hc]
   | true=>
    rw[Zb dc,E8 (c::s) (λb=>CO (b.toNat:Int)||Dg (b.toNat:Int)) false (λk a=>?_) (Zb sm)]
    ·have e:(AF (c::s)).all (λc=>CO c||Dg c)=(c::s).all (λb=>CO (b.toNat:Int)||Dg (b.toNat:Int)):=by
      unfold AF;rw[all_map];rfl
     rw[e];simp only[headD_cons,hc,Bool.true_and,Za];cases (c::s).all (λb=>CO (b.toNat:Int)||Dg (b.toNat:Int))<;>rfl
    ·rw[Zc (decide_eq_true (ZT.2 a)),QY a];simp only[Za];rw[show Iq (((c::s)[k]).toNat:Int)=some (CO (((c::s)[k]).toNat:Int)) from rfl];simp only[Za];rw[QD a om]
     cases CO (((c::s)[k]).toNat:Int) with
     | true=>rfl
     | false=>simp only[Bool.not_false,beq_self_eq_true,if_true,Za,Bool.true_and,Bool.false_or];rw[show PN (((c::s)[k]).toNat:Int)=some (Dg (((c::s)[k]).toNat:Int)) from rfl];simp only[Za];cases Dg (((c::s)[k]).toNat:Int)<;>rfl
theorem Ti {l:List Str} (hl:l.length<=1000000):I0 l=some (l.all QX):=by
 unfold I0;rw[E8 l QX false (λk a=>?_) (Zb sm)]
 ·cases l.all QX<;>rfl
 ·rw[Zc (sa a),QY a];simp only[Za];rw[Iz];simp only[Za];rw[QD a om];cases QX l[k]<;>rfl
theorem dZ {x:Qm} (b:x.Xe.length<=1000000) (c:x.Xg.length<=1000000):L5 x=some (BT x):=by
 unfold L5 BT;rw[Iz];simp only[Za]
 cases QX x.Xj with
 | false=>rfl
 | true=>
  rw[show C4 (x.Xe.length:Int) 1 12=some (inW (x.Xe.length:Int) 1 12) from rfl];simp only[Sim.opt,Bool.not_true,beq_self_eq_true,if_true,Za,Bool.true_and,Bool.false_or]
  cases inW (x.Xe.length:Int) 1 12 with
  | false=>rfl
  | true=>
   rw[Ti b];simp only[Bool.not_true,beq_self_eq_true,if_true,Za,Bool.true_and,Bool.false_or]
   cases x.Xe.all QX with
   | false=>rfl
   | true=>
    by_cases hm:(x.Xg.length:Int)<=32
    ·rw[Zb so,decide_eq_true hm,E8 x.Xg (Bf (x.Xe.length:Int)) false (λk a=>?_) (Zb sm)]
     ·simp only[Bool.true_and,Za];cases x.Xg.all (Bf (x.Xe.length:Int))<;>rfl
     ·rw[Zc (decide_eq_true (ZT.2 a)),QY a,w64 (n:=(x.Xe.length:Int) - 1) om om];simp only[Za];rw[show C4 x.Xg[k].a0 0 ((x.Xe.length:Int) - 1)=some (inW x.Xg[k].a0 0 ((x.Xe.length:Int) - 1)) from rfl];simp only[Za];rw[QD a om];unfold Bf
      cases inW x.Xg[k].a0 0 ((x.Xe.length:Int) - 1) with
      | false=>rfl
      | true=>simp only[Bool.not_true,beq_self_eq_true,if_true,Za,Bool.true_and,Bool.false_or];rw[show C4 x.Xg[k].a1 0 ((x.Xe.length:Int) - 1)=some (inW x.Xg[k].a1 0 ((x.Xe.length:Int) - 1)) from rfl];simp only[Za];cases inW x.Xg[k].a1 0 ((x.Xe.length:Int) - 1)<;>rfl
    ·rw[Zc so,decide_eq_false hm];rfl
theorem dQ (r:QL):L6 r=some (BF r):=by
 unfold L6 BF;simp only[Iz];rw[show C4 r.N (-1048576) 1048576=some (inW r.N (-1048576) 1048576) from rfl];have ne:∀s:Str,(s !=([]:Str))=!(s==[]):=λs=>rfl;have c:∀a b:Str,((a++b) !=([]:Str))=!((a==[])&&(b==[])):=λa b=>by cases a<;>cases b<;>rfl
 rw[ne,ne,c];cases (r.A==[])<;>cases (r.B==[])<;>cases QX r.A<;>cases QX r.B<;>cases QX r.Xj<;>cases QX r.Xi<;>rfl
theorem d4 {f:Qe} (b:f.Words.length<=1000000) (c:f.Xf.length<=1000000):L7 f=some (DT f.Words f.Xf):=by
 rw[<-Tj b c];unfold L7 Hs;have e:(λa:Int×Int=>((if decide (a.1<(f.Xf.length:Int)) then (idx f.Xf a.1).bind λt15=>(C4 t15 (0:Int) (1048576:Int)).bind λt17=>if !t17 then some (.inr (.inr false)) else (idx f.Xf a.1).bind λt23=>some (.inl (i64.wrap (a.1+(1:Int)),i64.wrap (a.2+t23))) else some (.inr (.inl a.2))):Option ((Int×Int)⊕(Int⊕Bool))))=
   λa:Int×Int=>((if decide (a.1<(f.Xf.length:Int)) then (idx f.Xf a.1).bind λt12=>(Dq t12 (0:Int) (1048576:Int)).bind λt15=>if !t15 then some (.inr (.inr false)) else some (.inl (i64.wrap (a.1+(1:Int)),i64.wrap (a.2+t12))) else some (.inr (.inl a.2))):Option ((Int×Int)⊕(Int⊕Bool))):=by
  funext s
  split
  ·cases hi:idx f.Xf s.1 with
   | none=>rfl
   | some v=>rfl
  ·rfl
 rw[e];congr 1
 funext o
 cases o with
 | inr p=>rfl
 | inl p=>dsimp only;rw[Ti b,PO (p:=QX) b (λs _=>Fk s)];rfl
theorem d5 {w:List Str} {g:Lz} (c:w.length<=1000000) (d:g.length<=1000000):decide (i64.wrap ((w.length:Int)+(g.length:Int))>0)=!(decide (w=[])&&decide (g=[])):=by
 rw[w64 om om]
 cases w with
 | nil=>cases g with
  | nil=>rfl
  | cons b g=>simp
 | cons a w=>simp;omega
theorem d6 {f:Qe} (c:f.Words.length<=1000000) (d:f.Xf.length<=1000000):L8 f=some (AH f):=by
 have e1:=d5 c d;have hp:=d4 c d;unfold L8;rw[e1,hp];clear e1 hp c d;have⟨n,o,u,k,lo,hi,w,g⟩:=f;simp only[Da,Iz,Za];have ne:∀s:Str,(s !=([]:Str))=!(s==[]):=λs=>rfl;have b:∀a:Int,(a !=0)=!(a==0):=λa=>rfl;by_cases h:k=0
 ·subst h;have e:AH ⟨n,o,u,0,lo,hi,w,g⟩=((QX n&&(((((o==[])&&(u==[]))&&(hi==0))&&decide (w=[]))&&decide (g=[])))&&inW lo (-1048576) 1048576):=by
   unfold AH BG A8 Av;simp
  rw[e];simp only[ne,b];cases QX n<;>cases (o==[])<;>cases (u==[])<;>cases (hi==0)<;>cases decide (w=[])<;>cases decide (g=[])<;>rfl
 by_cases l:k=1
 ·subst l;have e:AH ⟨n,o,u,1,lo,hi,w,g⟩=((QX n&&(((u==[])&&decide (w=[]))&&decide (g=[])))&&(QX o&&Bg lo hi 0 65536)):=by
   unfold AH BG A8 Av;simp
  rw[e];simp only[ne,b];cases QX n<;>cases (u==[])<;>cases decide (w=[])<;>cases decide (g=[])<;>cases QX o<;>rfl
 by_cases m:k=2
 ·subst m;have e:AH ⟨n,o,u,2,lo,hi,w,g⟩=((QX n&&((((o==[])&&(u==[]))&&decide (w=[]))&&decide (g=[])))&&Bg lo hi (-1048576) 1048576):=by
   unfold AH BG A8 Av;simp
  rw[e];simp only[ne,b];cases QX n<;>cases (o==[])<;>cases (u==[])<;>cases decide (w=[])<;>cases decide (g=[])<;>rfl
 by_cases p:k=3
 ·subst p;have e:AH ⟨n,o,u,3,lo,hi,w,g⟩=((QX n&&((((o==[])&&(u==[]))&&(lo==0))&&(hi==0)))&&DT w g):=by
   unfold AH BG A8 Av;simp
  rw[e];simp only[ne,b];cases QX n<;>cases (o==[])<;>cases (u==[])<;>cases (lo==0)<;>cases (hi==0)<;>rfl
 by_cases q:k=4
 ·subst q;have e:AH ⟨n,o,u,4,lo,hi,w,g⟩=((QX n&&(((u==[])&&decide (w=[]))&&decide (g=[])))&&(((o==[])||QX o)&&Bg lo hi (-1048576) 1048576)):=by
   unfold AH BG A8 Av;simp
  rw[e];simp only[ne,b];cases QX n<;>cases (u==[])<;>cases decide (w=[])<;>cases decide (g=[])<;>cases QX o<;>cases (o==[])<;>rfl
 by_cases t:k=5
 ·subst t;have e:AH ⟨n,o,u,5,lo,hi,w,g⟩=((QX n&&(((u==[])&&decide (w=[]))&&decide (g=[])))&&(QX o&&Bg lo hi 0 32)):=by
   unfold AH BG A8 Av;simp
  rw[e];simp only[ne,b];cases QX n<;>cases (u==[])<;>cases decide (w=[])<;>cases decide (g=[])<;>cases QX o<;>rfl
 by_cases v:k=6
 ·subst v;have e:AH ⟨n,o,u,6,lo,hi,w,g⟩=((QX n&&(((((u==[])&&(lo==0))&&(hi==0))&&decide (w=[]))&&decide (g=[])))&&QX o):=by
   unfold AH BG A8 Av;simp
  rw[e];simp only[ne,b];cases QX n<;>cases (u==[])<;>cases (lo==0)<;>cases (hi==0)<;>cases decide (w=[])<;>cases decide (g=[])<;>cases QX o<;>rfl
 by_cases x:k=7
 ·subst x;have e:AH ⟨n,o,u,7,lo,hi,w,g⟩=((QX n&&(decide (w=[])&&decide (g=[])))&&((QX o&&QX u)&&Bg lo hi 0 1048576)):=by
   unfold AH BG A8 Av;simp
  rw[e];simp only[ne,b];cases QX n<;>cases decide (w=[])<;>cases decide (g=[])<;>cases QX o<;>cases QX u<;>rfl
 by_cases z:k=8
 ·subst z;have e:AH ⟨n,o,u,8,lo,hi,w,g⟩=((QX n&&((((lo==0)&&(hi==0))&&decide (w=[]))&&decide (g=[])))&&(QX o&&QX u)):=by
   unfold AH BG A8 Av;simp
  rw[e];simp only[ne,b];cases QX n<;>cases (lo==0)<;>cases (hi==0)<;>cases decide (w=[])<;>cases decide (g=[])<;>cases QX o<;>cases QX u<;>rfl
 have A:((decide (k<0))||(decide (k>=9)))=true:=by simp;omega
 have e:AH ⟨n,o,u,k,lo,hi,w,g⟩=false:=by unfold AH Av;simp[h,l,m,p,q,t,v,x,z]
 rw[e,A];rfl
theorem d7 {k:QA} (h:PD k.Xb):L9 k=some (BI k):=by
 unfold L9 BI;rw[Iz];simp only[Za]
 cases QX k.Xj with
 | false=>rfl
 | true=>
  rw[show Fl k.Lo k.Hi 0 65536=some (Bg k.Lo k.Hi 0 65536) from rfl];simp only[Sim.opt,Bool.not_true,beq_self_eq_true,if_true,Za,Bool.true_and,Bool.false_or]
  cases Bg k.Lo k.Hi 0 65536 with
  | false=>rfl
  | true=>
   by_cases hm:(k.Xb.length:Int)<=10
   ·rw[Zb so,decide_eq_true hm,E8 k.Xb AH false (λi hi=>?_) (Zb sm)]
    ·simp only[Bool.true_and,Za];cases k.Xb.all AH<;>rfl
    ·have hf:=h.2 _ (Zr hi);have hl:=h.1;rw[Zc (decide_eq_true (ZT.2 hi)),QY hi];simp only[Za];rw[d6 hf.1 hf.2];simp only[Za];rw[QD hi om];cases AH k.Xb[i]<;>rfl
   ·rw[Zc so,decide_eq_false hm];rfl
theorem Tk {u:Nat} (h:u<10):E9 [u8.wrap (i64.wrap ((48:Int)+(u:Int)))]=[UInt8.ofNat (48+u)]:=by
 have:u=0\/u=1\/u=2\/u=3\/u=4\/u=5\/u=6\/u=7\/u=8\/u=9:=by omega
 rcases this with rfl | rfl | rfl | rfl | rfl | rfl | rfl | rfl | rfl | rfl<;>rfl
theorem decN:∀(k u:Nat),k<=1000000000000->u<10 ^ (k+1)->u<=1000000000->Ht (k+1) (u:Int)=some (Lib.decDigits u)
 | k,u,hk,hu,hb=>by
  show Gb (Ht k) (u:Int)=_;unfold Gb;rw[Zb sm];rw[Lib.decDigits];by_cases h:u<10
  ·rw[Zc so,dif_pos h,Tk h]
  ·rw[Zb so,dif_neg h]
   cases k with
   | zero=>simp at hu;omega
   | succ k=>
    have e1:i64.wrap (Int.tdiv (u:Int) 10)=((u / 10:Nat):Int):=by rw[Int.tdiv_eq_ediv_of_nonneg om,w64 om om];rfl
    have e2:Int.tmod (u:Int) 10=((u % 10:Nat):Int):=by rw[Int.tmod_eq_emod_of_nonneg om];rfl
    rw[e1,e2,decN k (u / 10) om (by rw[Nat.pow_succ] at hu;omega) om];simp only[Za];rw[Tk om];have hl:=GJ 18 (u / 10) om;have a:cat ((Lib.decDigits (u / 10)).length+([UInt8.ofNat (48+u % 10)]:Str).length)=some ():=Zc (by rw[length_singleton];omega);rw[a];rfl
theorem Tl (u:Nat):u<10 ^ (u+1):=by have h:u+1<10 ^ (u+1):=Nat.lt_pow_self dc;omega
theorem d8 {n:Int} (h:-1000000000<=n/\n<=1000000000):I3 n=some (Lib.itoa n):=by
 unfold I3 Lib.itoa;by_cases a:n<0
 ·show Gb (Ht (n.natAbs+1)) n=_;unfold Gb;have e:i64.wrap (0 - n)=(n.natAbs:Int):=by rw[w64 om om];omega
  rw[Zc (decide_eq_true a),Zc a,e,decN n.natAbs n.natAbs om (Tl _) om];simp only[Za];have hl:=GJ 18 n.natAbs om;have b:cat (([45]:Str).length+(Lib.decDigits n.natAbs).length)=some ():=Zc (by rw[length_singleton];omega);rw[b];rfl
 ·rw[Zb a];have e:n=(n.toNat:Int):=by omega
  have e2:n.natAbs+2=(n.natAbs+1)+1:=rfl;rw[e2];have:=decN (n.natAbs+1) n.toNat om (ZP (Tl n.toNat) (Nat.pow_le_pow_right dc om)) om;rw[<-e] at this;exact this
theorem AI {n:Nat} (h:n<=1000000000000):cat n=some ():=Zc om
theorem Bx {s:Str} {n:Int} (a:s.length<=100000000000) (h:-1000000000<=n/\n<=1000000000):C5 s n=some (s++(32::Lib.itoa n)):=by have hl:=Ci (n:=n) ui;unfold C5;rw[AI (by rw[length_singleton];omega)];simp only[Za];rw[d8 h];simp only[Za];rw[AI (by rw[Ze,length_singleton];omega)];simp
theorem Fm (s:Str):Hu s=some (Aa s):=by
 unfold Hu Aa;by_cases h:s=[]
 ·rw[Zc (by simp[h]),Zc h]
 ·rw[Zb (sa h),Zb h]

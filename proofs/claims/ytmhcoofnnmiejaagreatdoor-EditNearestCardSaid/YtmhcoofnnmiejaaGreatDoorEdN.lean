/- Edit: the network of targets, and that the levels of a least flow hold for the flow of the greedy choice. No condition. -/
import Derived.Test.YtmhcoofnnmiejaaGreatDoorNeH
set_option linter.all false
open List Go.IntKind
namespace Go.Proofs.YtmhcoofnnmiejaaGreatDoor
open Go.Sim
variable {i:Nat} {α:Type} {j:Nat} {R:Nat->α} {old:List Int} {lo:Int} {hi:Int} {ph:Nat->Nat->Int} {B:Int} {used:List Int} {v:α} {H:Nat->Nat->Int} {U:Int} {T:Nat->Int}
section
variable (old:List Int) (to:Nat) (lo hi:Int)
def e0 (j:Nat):Qi:=⟨to,j,0,kc old j,0⟩
def e1 (j:Nat):Qi:=⟨to,j,0,old.length,1⟩
def e2 (j:Nat):Qi:=⟨j,(to:Int)+1,lo,hi,0⟩
def eb:Qi:=⟨(to:Int)+1,to,old.length,old.length,0⟩
def netN:Nat->List Qi
  | 0=>[]
  | n+1=>netN n++[e0 old to n,e1 old to n,e2 to lo hi n]
def net:List Qi:=netN old to lo hi to++[eb old to]
variable {old to lo hi}
theorem QhP:∀n,(netN old to lo hi n).length=3 * n
  | 0=>rfl
  | n+1=>by show (netN old to lo hi n++_).length=_;rw[Zf,QhP n];simp;omega
theorem Qme:(net old to lo hi).length=3 * to+1:=by unfold net;rw[Zf,QhP];rfl
theorem QvB:∀(n j:Nat),j<n->(netN old to lo hi n)[3 * j]?=some (e0 old to j)/\(netN old to lo hi n)[3 * j+1]?=some (e1 old to j)/\(netN old to lo hi n)[3 * j+2]?=some (e2 to lo hi j)
  | 0,j,h=>absurd h (by omega)
  | n+1,j,h=>by
    have hl:=QhP (old:=old) (to:=to) (lo:=lo) (hi:=hi) n;show (netN old to lo hi n++_)[3 * j]?=_/\(netN old to lo hi n++_)[3 * j+1]?=_/\(netN old to lo hi n++_)[3 * j+2]?=_;by_cases e:j=n
    · subst e;rw[Zy (by omega),Zy (by omega),Zy (by omega),hl];rw[show 3 * j - 3 * j=0 by omega,show 3 * j+1 - 3 * j=1 by omega,show 3 * j+2 - 3 * j=2 by omega];exact⟨rfl,rfl,rfl⟩
    · rw[Zv (by omega),Zv (by omega),Zv (by omega)];exact QvB n j (by omega)
theorem QzD (h:j<to):(net old to lo hi)[3 * j]?=some (e0 old to j)/\(net old to lo hi)[3 * j+1]?=some (e1 old to j)/\(net old to lo hi)[3 * j+2]?=some (e2 to lo hi j):=by have hl:=QhP (old:=old) (to:=to) (lo:=lo) (hi:=hi) to;unfold net;rw[Zv (by omega),Zv (by omega),Zv (by omega)];exact QvB to j h
theorem QtD:(net old to lo hi)[3 * to]?=some (eb old to):=by unfold net;rw[Zy (by rw[QhP];exact Zr _),QhP,Nat.sub_self];rfl
theorem QrA {e:Qi} (h:(net old to lo hi)[i]?=some e):(∃j,j<to/\((i=3 * j/\e=e0 old to j)\/(i=3 * j+1/\e=e1 old to j)\/(i=3 * j+2/\e=e2 to lo hi j)))\/(i=3 * to/\e=eb old to):=by
  have a:=(Ze.1 h).1;rw[Qme] at a;by_cases e':i=3 * to
  · subst e';rw[QtD] at h;exact .inr ⟨rfl,(Zn h).symm⟩
  · refine .inl ⟨i / 3,by omega,?_⟩;obtain⟨h0,b,d⟩:=QzD (old:=old) (to:=to) (lo:=lo) (hi:=hi) (j:=i / 3) (by omega);have:i % 3=0\/i % 3=1\/i % 3=2:=by omega
    rcases this with q | q | q
    · rw[show i=3 * (i / 3) by omega,h0] at h;exact .inl ⟨by omega,(Zn h).symm⟩
    · rw[show i=3 * (i / 3)+1 by omega,b] at h;exact .inr (.inl ⟨by omega,(Zn h).symm⟩)
    · rw[show i=3 * (i / 3)+2 by omega,d] at h;exact .inr (.inr ⟨by omega,(Zn h).symm⟩)
theorem Qov {f:List Int} (h:i<f.length):f[i]?=some (uf f i):=by unfold uf lv;rw[ZF,Zd h];rfl
theorem QFt (a:Qi->Int) {f:List Int} (hf:f.length=3 * to+1):
    lin a (net old to lo hi) f=psum (λj=>a (e0 old to j) * uf f (3 * j)+a (e1 old to j) * uf f (3 * j+1)+a (e2 to lo hi j) * uf f (3 * j+2)) to+a (eb old to) * uf f (3 * to):=by
  have key:∀n,n<=to->lin a ((net old to lo hi).take (3 * n)) (f.take (3 * n))=psum (λj=>a (e0 old to j) * uf f (3 * j)+a (e1 old to j) * uf f (3 * j+1)+a (e2 to lo hi j) * uf f (3 * j+2)) n:=λn=>by
    induction n with
    | zero=>intro _;rfl
    | succ n b=>intro g;obtain⟨h0,d,e⟩:=QzD (old:=old) (to:=to) (lo:=lo) (hi:=hi) (j:=n) (by omega);rw[show 3 * (n+1)=3 * n+1+1+1 by omega,QjB a (k:=3 * n+1+1) e (Qov (by omega)),QjB a (k:=3 * n+1) d (Qov (by omega)),QjB a (k:=3 * n) h0 (Qov (by omega)),b (by omega)];show psum (λj=>a (e0 old to j) * uf f (3 * j)+a (e1 old to j) * uf f (3 * j+1)+a (e2 to lo hi j) * uf f (3 * j+2)) n+a (e0 old to n) * uf f (3 * n)+a (e1 old to n) * uf f (3 * n+1)+a (e2 to lo hi n) * uf f (3 * n+2)=psum _ n+(a (e0 old to n) * uf f (3 * n)+a (e1 old to n) * uf f (3 * n+1)+a (e2 to lo hi n) * uf f (3 * n+2));omega
  have h:=QjB a (QtD (old:=old) (to:=to) (lo:=lo) (hi:=hi)) (Qov (f:=f) (i:=3 * to) (by omega));rw[key to (Zr _),Zu (by rw[Qme];exact Zr _),Zu (by omega)] at h;exact h
structure QqV (old:List Int) (to:Nat) (lo hi:Int):Prop where
  nl:old.length<=512
  tl:to<=62
  b:0<to->0<=lo/\lo<=hi/\hi<=old.length
theorem net_ok (h:QqV old to lo hi):Qqq ((to:Int)+2) (net old to lo hi):=by
  have d:=h.nl;have f:=h.tl;refine⟨by omega,by omega,by rw[Qme];omega,λe b=>?_⟩;obtain⟨i,a,rfl⟩:=mem_iff_getElem.1 b;have:=Zd a;generalize (net old to lo hi)[i]=e at *;rcases QrA this with⟨j,g,⟨_,rfl⟩ | ⟨_,rfl⟩ | ⟨_,rfl⟩⟩ | ⟨_,rfl⟩
  · have:=QwL old j;refine⟨?_,?_,?_,?_,?_,?_,?_,?_,?_,?_⟩<;>(show _)<;>(unfold e0;dsimp only;omega)
  · refine⟨?_,?_,?_,?_,?_,?_,?_,?_,?_,?_⟩<;>(unfold e1;dsimp only;omega)
  · obtain⟨l,m,n⟩:=h.b (by omega);refine⟨?_,?_,?_,?_,?_,?_,?_,?_,?_,?_⟩<;>(unfold e2;dsimp only;omega)
  · refine⟨?_,?_,?_,?_,?_,?_,?_,?_,?_,?_⟩<;>(unfold eb;dsimp only;omega)
structure Qdo (old:List Int) (to:Nat) (lo hi:Int) (f:List Int):Prop where
  len:f.length=3 * to+1
  a:∀j,j<to->0<=uf f (3 * j)/\uf f (3 * j)<=kc old j
  b:∀j,j<to->0<=uf f (3 * j+1)/\uf f (3 * j+1)<=old.length
  c:∀j,j<to->lo<=uf f (3 * j+2)/\uf f (3 * j+2)<=hi
  z:uf f (3 * to)=old.length
  s:∀j,j<to->uf f (3 * j)+uf f (3 * j+1)=uf f (3 * j+2)
  t:psum (λj=>uf f (3 * j+2)) to=old.length
theorem ex_net {f:List Int} (hf:f.length=3 * to+1) (v:Int):
    lin (ex v) (net old to lo hi) f=psum (λj=>(uf f (3 * j)+uf f (3 * j+1) - uf f (3 * j+2)) * one ((j:Int)=v)) to+one ((to:Int)=v) * (uf f (3 * to) - psum (λj=>uf f (3 * j)+uf f (3 * j+1)) to)+one ((to:Int)+1=v) * (psum (λj=>uf f (3 * j+2)) to - uf f (3 * to)):=by
  rw[QFt (ex v) hf];have e:psum (λj=>ex v (e0 old to j) * uf f (3 * j)+ex v (e1 old to j) * uf f (3 * j+1)+ex v (e2 to lo hi j) * uf f (3 * j+2)) to
      =psum (λj=>(uf f (3 * j)+uf f (3 * j+1) - uf f (3 * j+2)) * one ((j:Int)=v)+(one ((to:Int)+1=v) * uf f (3 * j+2) - one ((to:Int)=v) * (uf f (3 * j)+uf f (3 * j+1)))) to:=QfF λj _=>by
    unfold ex e0 e1 e2;dsimp only;generalize one ((j:Int)=v)=x;generalize one ((to:Int)=v)=y;generalize one ((to:Int)+1=v)=w;generalize uf f (3 * j)=a;generalize uf f (3 * j+1)=b;generalize uf f (3 * j+2)=c;simp only[Int.sub_mul,Int.mul_add,Int.add_mul,Int.mul_comm a x,Int.mul_comm b x,Int.mul_comm c x];omega
  rw[e,QtC,Qpc (g:=λj=>one ((to:Int)+1=v) * uf f (3 * j+2))];have d:∀(y:Int) (g:Nat->Int) n,psum (λj=>y * g j) n=y * psum g n:=λy g n=>by
    induction n with
    | zero=>show (0:Int)=y * 0;omega
    | succ n h=>show psum (λj=>y * g j) n+y * g n=y * (psum g n+g n);rw[h,Int.mul_add]
  rw[d,d _ (λj=>uf f (3 * j)+uf f (3 * j+1))];have l:ex v (eb old to)=one ((to:Int)=v) - one ((to:Int)+1=v):=rfl;rw[l];generalize psum (λj=>uf f (3 * j+2)) to=P;generalize psum (λj=>uf f (3 * j)+uf f (3 * j+1)) to=R;generalize one ((to:Int)=v)=y;generalize one ((to:Int)+1=v)=w;generalize uf f (3 * to)=z;simp only[Int.sub_mul,Int.mul_sub];omega
theorem QwS {f:List Int} (h:Qdo old to lo hi f):Qc4 (net old to lo hi) f/\Circ (net old to lo hi) ((to:Int)+2) f:=by
  refine⟨⟨by rw[h.len,Qme],λi e y d hy=>?_⟩,λv _ _=>?_⟩
  · have b:i<f.length:=(Ze.1 hy).1;rw[Qov b] at hy;obtain rfl:=Zn hy;rcases QrA d with⟨j,a,⟨rfl,rfl⟩ | ⟨rfl,rfl⟩ | ⟨rfl,rfl⟩⟩ | ⟨rfl,rfl⟩
    · exact h.a j a
    · exact h.b j a
    · exact h.c j a
    · rw[h.z];exact⟨Zx _,Zx _⟩
  · rw[ex_net h.len];have e1:psum (λj=>(uf f (3 * j)+uf f (3 * j+1) - uf f (3 * j+2)) * one ((j:Int)=v)) to=0:=Qj2 λj a=>by
      have:=h.s j a;rw[show uf f (3 * j)+uf f (3 * j+1) - uf f (3 * j+2)=0 by omega];omega
    have e2:psum (λj=>uf f (3 * j)+uf f (3 * j+1)) to=old.length:=by rw[<-h.t];exact QfF λj a=>h.s j a
    rw[e1,e2,h.t,h.z];simp
end
theorem QwT {rest:List Int} {to:Nat} (ht:to<=62) (D:rest.length<=600) {body:Int×List Int->Option ((Int×List Int)⊕List Int)}
    (hb:∀s:Int×List Int,body s=((if (decide (s.1<(rest.length:Int)))=true then (idx rest s.1).bind λt26=>((if ((decide (t26>=(0:Int)))&&(decide (t26<(to:Int))))=true then (idx s.2 t26).bind λt37=>(setAt s.2 t26 (i64.wrap (t37+(1:Int)))).bind λm=>(some m) else (some s.2))).bind λ(w:List Int)=>(some (.inl ((i64.wrap (s.1+(1:Int))),w))) else (some (.inr s.2))):Option ((Int×List Int)⊕((List Int))))):
    Ok (Qr body ((0:Int),replicate to (0:Int))) (λc=>c.length=to/\∀j,j<to->uf c j=kc rest j):=by
  refine Ok.loop (λg s=>∃q:Nat,s.1=q/\q+g=rest.length/\s.2.length=to/\∀j,j<to->uf s.2 j=kc (rest.take q) j) rest.length ⟨0,rfl,by omega,by simp,λj f=>?_⟩ λg s z=>?_
  · show uf (replicate _ 0) j=0;unfold uf lv;rw[getElem?_replicate];split<;>rfl
  · obtain⟨q,y,F,u,n⟩:=z;rw[hb];obtain⟨I,c⟩:=s;dsimp only at y u n ⊢;subst y;refine Ok.ite (λh=>?_) (λh=>?_)
    · have h:(q:Int)<rest.length:=Zt h;refine Ok.idx (by omega) h λv K a=>?_;have a:rest[q]?=some v:=by simpa using a
      have o:q<rest.length:=by omega
      have e1:rest.take (q+1)=rest.take q++[v]:=by rw[Zw o];rw[Zd o] at a;rw[Zn a]
      have e2:∀j,kc (rest.take (q+1)) j=kc (rest.take q) j+one (v=(j:Int)):=λj=>by
        unfold kc one;rw[e1,count_append,count_singleton];by_cases e:v=(j:Int)
        · rw[Zc (by simpa using e),Zc e];rfl
        · rw[Zb (by simpa using e),Zb e];omega
      refine Ok.bind (P:=λc=>c.length=to/\∀j,j<to->uf c j=kc (rest.take (q+1)) j) (Ok.ite (λr=>?_) (λr=>?_)) λL t=>Ok.mk ⟨g - 1,by omega,q+1,by rw[w64 (by omega) (by omega)];rfl,by omega,t.1,t.2⟩
      · simp only[Zi,Zs] at r;obtain⟨v0,v1⟩:=r;refine Ok.lv v0 (by omega) (Ok.setAt v0 (by omega) (Ok.mk ⟨by rw[ZH];exact u,λj f=>?_⟩));have b:=QwL (rest.take q) v.toNat;have A:=ZU (i:=q) (l:=rest);have d:=n v.toNat (by omega);unfold uf at d;have C:((v.toNat:Nat):Int)=v:=by omega
        rw[C] at d;show lv (c.set v.toNat _) (j:Int)=_;rw[Qlb v0 (by omega) _ (by omega),e2,w64 (by omega) (by omega)];unfold one;by_cases e:(j:Int)=v
        · have:j=v.toNat:=by omega
          subst this;rw[Zc e,Zc e.symm,d]
        · rw[Zb e,Zb (λq=>e q.symm)];have:=n j f;unfold uf at this;omega
      · refine Ok.mk ⟨u,λj f=>?_⟩;rw[e2,n j f];unfold one;rw[Zb]
        · omega
        · intro e;subst e;have:(decide ((j:Int)>=0)&&decide ((j:Int)<(to:Int)))=true:=by
            rw[decide_eq_true (by omega),decide_eq_true (by omega)];rfl
          rw[this] at r;cases r
    · have h:¬(q:Int)<rest.length:=ZA h;have:q=rest.length:=by omega
      subst this;refine Ok.mk ⟨u,λj f=>?_⟩;rw[n j f,Zu (Zr _)]
theorem QwU {to:Nat} (ht:to<=62) (q:old.length<=512):QbL ⟨old,used,lo,hi⟩ (to:Int)=some (net old to lo hi):=by
  have key:Ok (QbL ⟨old,used,lo,hi⟩ (to:Int)) (λr=>r=net old to lo hi):=by
    unfold QbL;dsimp only;refine Ok.mk' (by omega) (by omega) ?_;refine (QwT ht (by omega) (rest:=old) (λs=>rfl)).bind λc f=>?_;obtain⟨t,h⟩:=f;have m:i64.wrap ((to:Int)+1)=(to:Int)+1:=w64 (by omega) (by omega);rw[m];refine Ok.bind (P:=λr=>r=netN old to lo hi to) (Ok.loop (λg s=>∃j:Nat,s.1=j/\j+g=to/\s.2=netN old to lo hi j) to ⟨0,rfl,by omega,rfl⟩ λg s n=>?_) λr b=>?_
    · obtain⟨j,d,u,e⟩:=n;obtain⟨sj,l⟩:=s;dsimp only at d e ⊢;subst d;subst e;have hl:=QhP (old:=old) (to:=to) (lo:=lo) (hi:=hi) j;refine Ok.ite (λa=>?_) (λa=>?_)
      · have a:(j:Int)<c.length:=Zt a;have o:idx c (j:Int)=some (kc old j):=by
          rw[Qzu (by omega) a];exact Ya some (h j (by omega))
        rw[o];simp only[Za];refine Ok.rm (by simp;omega) (Ok.mk ⟨g - 1,by omega,j+1,by rw[w64 (by omega) (by omega)];rfl,by omega,rfl⟩)
      · have a:¬(j:Int)<c.length:=ZA a;have:j=to:=by omega
        subst this;exact Ok.mk rfl
    · subst b;have hl:=QhP (old:=old) (to:=to) (lo:=lo) (hi:=hi) to;exact Ok.rm (by simp;omega) (Ok.mk rfl)
  obtain⟨r,b,rfl⟩:=key;exact b
def kp:List Int->List Int->Nat->Int
  | a::l,b::m,j=>(if b=(j:Int)/\a=(j:Int) then 1 else 0)+kp l m j
  | _,_,_=>0
def Part (old a:List Int) (to i:Nat) (F:List Int):Prop:=F.length=3 * to+1/\uf F (3 * to)=old.length/\∀j,j<to->uf F (3 * j)=kp (old.take i) (a.take i) j/\uf F (3 * j+1)=kc (a.take i) j - kp (old.take i) (a.take i) j/\uf F (3 * j+2)=kc (a.take i) j
def errR (old:List Int) (to lo hi:Int):Int:=if (old.length:Int)>512\/to>62 then 4 else if to<0\/lo<0\/lo>hi then 1 else if (old.length:Int)<to * min lo 1000\/(old.length:Int)>to * min hi old.length then 14 else 0
theorem QFu {to:Int} (h:errR old to lo hi=0):∃t:Nat,to=t/\t<=62/\old.length<=512/\0<=lo/\lo<=hi/\(0<t->lo<=min hi old.length)/\to * lo<=old.length * 1+(if t=0 then to * lo else 0)/\(old.length:Int)<=to * min hi old.length:=by
  unfold errR at h;split at h
  · cases h
  · split at h
    · cases h
    · split at h
      · cases h
      · rename_i d f b;obtain⟨t,rfl⟩:=ZG (show 0<=to by omega);have a:0<t->lo<=old.length:=λht=>by
          have:1 * min lo 1000<=(t:Int) * min lo 1000:=Int.mul_le_mul_of_nonneg_right (by omega) (by omega);omega
        refine⟨t,rfl,by omega,by omega,by omega,by omega,λht=>by have:=a ht;omega,?_,by omega⟩;by_cases ht:t=0
        · subst ht;rw[Zc rfl];omega
        · have:=a (by omega);have e:min lo 1000=lo:=by omega
          rw[e] at b;rw[Zb ht];omega
theorem QmT (y:Int):∀n:Nat,psum (λ_=>y) n=n * y
  | 0=>by show (0:Int)=((0:Nat):Int) * y;simp
  | n+1=>by show psum (λ_=>y) n+y=((n+1:Nat):Int) * y;rw[QmT y n];push_cast;rw[Int.add_mul];omega
theorem QBY {l:List Int} (h:l.length<=68719476736):QbE l=some l:=by unfold QbE;rw[QdX (by simpa using h)];simp
theorem QtE (hu:used.length<=1000) (g:old.length<=1000) (e:i<=old.length):Ok (Qcp ⟨old,used,lo,hi⟩ (i:Int)) (λ_=>True):=by
  unfold Qcp;dsimp only;rw[Qf6 _ _ (by omega)];dsimp only[Option.bind_some];refine Ok.sub (by omega) (by omega) (by omega) λr l _=>?_;refine Ok.bind (P:=λs:List Int=>s.length=used.length) (Ok.cnt r.length (λ_ s=>s.length=used.length) (by simp) (λj s a b=>?_) λs b=>by rw[QaE];exact Ok.mk b) λs b=>?_
  · rw[QaC a,QY a];dsimp only[Option.bind_some];refine Ok.bind (P:=λs:List Int=>s.length=used.length) (Ok.ite (λh=>?_) λ_=>Ok.mk b) λq f=>Ok.mk ⟨QD a (by omega),f⟩;simp only[Zi,Zs] at h;exact Ok.idx h.1 h.2 λv _ _=>Ok.setAt h.1 h.2 (Ok.mk (by rw[ZH];exact b))
  · refine Ok.bind (P:=λ_=>True) (Ok.cnt s.length (λ_ _=>True) trivial (λj q a _=>?_) λq _=>by rw[QaE];exact Ok.mk trivial) λq _=>Ok.ite (λ_=>Ok.mk trivial) λ_=>Ok.mk trivial;rw[QaC a,QY a];dsimp only[Option.bind_some];have d:j<used.length:=by omega
    rw[QY d];exact Ok.mk ⟨QD a (by omega),trivial⟩
theorem QBZ {k all:Int} (hu:used.length<=1000) (d:old.length<=1000) (b:i<old.length) (a:j<used.length):Ok (QeU (j:Int) ⟨old,used,lo,hi⟩ (i:Int) k all) (λr=>∃u,r.2=⟨old,u,lo,hi⟩/\u.length=used.length):=by unfold QeU;dsimp only;rw[QY a];dsimp only[Option.bind_some];refine Ok.ite (λ_=>Ok.mk ⟨used,rfl,rfl⟩) λ_=>?_;rw[QdQ a,QD b (by omega)];dsimp only[Option.bind_some];refine (QtE (by rw[ZH];exact hu) d (by omega)).bind λt _=>?_;refine Ok.bind (P:=λ_=>True) (Ok.ite (λ_=>Ok.mk trivial) λ_=>Ok.mk trivial) λp _=>?_;refine Ok.bind (P:=λs:List Int=>s.length=used.length) (Ok.ite (λ_=>?_) λ_=>Ok.mk (by rw[ZH])) λu hu=>Ok.mk ⟨u,rfl,hu⟩;rw[QY (by rw[ZH];exact a)];dsimp only[Option.bind_some];rw[QdQ (by rw[ZH];exact a)];exact Ok.mk (by rw[ZH,ZH])
def QmU (t:Nat) (n:Int) (q:Nat->Int):List Int:=(range (3 * t+1)).map λi=>if i=3 * t then n else if i % 3=0 then 0 else q (i / 3)
theorem QhQ {t:Nat} {n:Int} {q:Nat->Int} (h:i<3 * t+1):uf (QmU t n q) i=if i=3 * t then n else if i % 3=0 then 0 else q (i / 3):=by
  have hl:(QmU t n q).length=3 * t+1:=by unfold QmU;rw[Yd,Yy]
  have:=Qov (f:=QmU t n q) (i:=i) (by rw[hl];exact h);unfold QmU at this;rw[Ye,getElem?_range h] at this;exact (Zn this).symm
theorem QrB {t:Nat} (h:QqV old t lo hi) {q:Nat->Int} (b:∀j,j<t->lo<=q j/\q j<=hi) (d:psum q t=old.length):∃g,Qc4 (net old t lo hi) g/\Circ (net old t lo hi) ((t:Int)+2) g:=by
  refine⟨QmU t old.length q,QwS ⟨?_,λj a=>?_,λj a=>?_,λj a=>?_,?_,λj a=>?_,?_⟩⟩
  · unfold QmU;rw[Yd,Yy]
  · rw[QhQ (by omega),Zb (by omega),Zc (by omega)];exact⟨Zx _,(QwL old j).1⟩
  · rw[QhQ (by omega),Zb (by omega),Zb (by omega),show (3 * j+1) / 3=j by omega];have:=b j a;have:=h.b (by omega);omega
  · rw[QhQ (by omega),Zb (by omega),Zb (by omega),show (3 * j+2) / 3=j by omega];exact b j a
  · rw[QhQ (by omega),Zc rfl]
  · rw[QhQ (by omega),QhQ (by omega),QhQ (by omega),Zb (by omega),Zc (by omega),Zb (by omega),Zb (by omega),Zb (by omega),Zb (by omega),show (3 * j+1) / 3=j by omega,show (3 * j+2) / 3=j by omega];omega
  · rw[<-d];refine QfF λj a=>?_;rw[QhQ (by omega),Zb (by omega),Zb (by omega),show (3 * j+2) / 3=j by omega]
theorem QGy {t:Nat} (h0:errR old t lo hi=0):Ok (QfJ ((t:Int)+2) (net old t lo (min hi old.length))) (λr=>r.2.2=0):=by
  obtain⟨a,m,_,n,o,y,f,s,l⟩:=QFu h0;have:a=t:=by omega
  subst this;have ha:QqV old a lo (min hi old.length):=⟨n,by omega,λht=>⟨o,f ht,by omega⟩⟩;obtain⟨g,b,d⟩:∃g,Qc4 (net old a lo (min hi old.length)) g/\Circ (net old a lo (min hi old.length)) ((a:Int)+2) g:=by
    by_cases ht:a=0
    · subst ht;have z:(old.length:Int)<=0:=by simpa using l
      refine QrB ha (q:=λ_=>0) (λj A=>by omega) ?_;show (0:Int)=old.length;omega
    · have e:=f (by omega);rw[Zb ht] at s;obtain⟨q,u,w⟩:=QqU (λ_=>lo) (λ_=>min hi old.length) a old.length (λj _=>e) (by rw[QmT];omega) (by rw[QmT];exact l);exact QrB ha u w
  exact (QBX (net_ok ha) b d).Xo λ_ h=>h.1
theorem QB0 {to:Int} (hl:old.length<=1000):Ok (QdV old to lo hi) (λr=>r.2.2=0->(r.1.length<=old.length/\∀j∈r.1,0<=j/\j<to)/\(0<old.length->0<to)):=by
  unfold QdV;have m:∀{x:Int},x≠0->Ok (some ((([]:List Int),(Qa1.mk ([]:(List Int)) ([]:(List Int))),x))) (λr=>r.2.2=0->(r.1.length<=old.length/\∀j∈r.1,0<=j/\j<to)/\(0<old.length->0<to)):=λhx=>Ok.mk λh=>(hx h).elim;refine Ok.ite (λ_=>m (by decide)) λM=>Ok.ite (λ_=>m (by decide)) λN=>?_;simp only[Bool.or_eq_false_iff,ZI] at M N;obtain⟨t,rfl⟩:=ZG (show 0<=to by omega);have m1:(t:Int) * min lo 1000<=62 * 1000:=Int.mul_le_mul (by omega) (by omega) (by omega) (by omega);have m2:(t:Int) * min hi old.length<=62 * 512:=Int.mul_le_mul (by omega) (by omega) (by omega) (by omega);have m3:0<=(t:Int) * min lo 1000:=Int.mul_nonneg (by omega) (by omega);have m4:0<=(t:Int) * min hi old.length:=Int.mul_nonneg (by omega) (by omega);rw[Qvy,Qvy,w64 (n:=(t:Int) * min lo 1000) (by omega) (by omega),w64 (n:=(t:Int) * min hi old.length) (by omega) (by omega)];refine Ok.ite (λ_=>m (by decide)) λO=>?_;have h0:errR old t lo hi=0:=by simp only[Bool.or_eq_false_iff,ZI] at O;unfold errR;rw[Zb (by omega),Zb (by omega),Zb (by omega)]
  obtain⟨d,Q,_,L,S,h4,V,h6,X⟩:=QFu h0;have:d=t:=by omega
  subst this;have ha:QqV old d lo (min hi old.length):=⟨L,by omega,λht=>⟨S,V ht,by omega⟩⟩;rw[QBY (by omega)];dsimp only[Option.bind_some];rw[Qf6 _ _ (by omega)];dsimp only[Option.bind_some];refine Ok.bind (P:=λp=>(p.1.length<=old.length/\∀j∈p.1,0<=j/\j<(d:Int))/\∃u,p.2=(u,old,lo,min hi old.length)/\u.length=d) (Ok.cnt old.length (λi s=>(s.1.length<=i/\∀j∈s.1,0<=j/\j<(d:Int))/\∃u,s.2=(u,old,lo,min hi old.length)/\u.length=d) ⟨⟨by simp,λj l=>(by cases l)⟩,_,rfl,by simp⟩ (λi s a f=>?_) λs f=>by rw[QaE];exact Ok.mk f) λp hp=>?_
  · obtain⟨o,rest⟩:=s;obtain⟨w,u,e,hu⟩:=f;dsimp only at w e ⊢;subst e;rw[QaC a,QY a];dsimp only[Option.bind_some];refine (QtE (by omega) hl (by omega)).bind λall _=>?_;refine Ok.bind (P:=λq:List Int×Int×Int×List Int×List Int=>q.1=old/\q.2.1=lo/\q.2.2.1=min hi old.length/\q.2.2.2.1.length=d/\q.2.2.2.2.length<=i+1/\∀j∈q.2.2.2.2,0<=j/\j<(d:Int))
      (Ok.cnt d (λj s=>∃u,s=(u,old,lo,min hi old.length)/\u.length=d) ⟨u,rfl,hu⟩ (λj s l f=>?_) λs f=>?_) λq Y=>?_
    · obtain⟨u,rfl,hu⟩:=f;rw[QaC l];refine (QBZ (by dsimp only;omega) hl a (by dsimp only;omega)).bind λr y=>?_;obtain⟨Z,e,z⟩:=y;dsimp only at z;rw[e];refine Ok.ite (λ_=>Ok.rm (by simp;omega) (Ok.mk ⟨rfl,rfl,rfl,by dsimp only;omega,by simp;omega,λj' A=>?_⟩)) λ_=>Ok.mk ⟨QD l (by omega),Z,rfl,by omega⟩;rcases ZB.1 A with h | h
      · exact w.2 j' h
      · rw[Zg.1 h];dsimp only;omega
    · obtain⟨u,rfl,hu⟩:=f;rw[QaE];exact Ok.mk ⟨rfl,rfl,rfl,hu,by dsimp only;omega,w.2⟩
    · obtain⟨q1,q2,q3,q4,q5⟩:=Y;rw[q1,q2,q3];exact Ok.mk ⟨QD a (by omega),q5,_,rfl,q4⟩
  · obtain⟨hp,u,e,hu⟩:=hp;rw[e];dsimp only;rw[QwU (by omega) L];dsimp only[Option.bind_some];have ew:i64.wrap ((d:Int)+2)=(d:Int)+2:=w64 (by omega) (by omega);rw[ew];refine (QGy h0).bind λr y=>?_;rw[y,Zb (by decide)];have C:=Qme (old:=old) (to:=d) (lo:=lo) (hi:=min hi old.length);rw[C,Qf6 _ _ (by omega)];dsimp only[Option.bind_some];refine Ok.setAt (by rw[w64 (by omega) (by omega)];omega) (by rw[w64 (by omega) (by omega)];simp;omega) ?_;refine Ok.bind (P:=λ_=>True) (Ok.cnt p.1.length (λ_ F=>F.length=3 * d+1) (by simp) (λi F a D=>?_) λF D=>by rw[QaE];exact Ok.mk trivial) λF _=>Ok.mk λ_=>⟨hp,λh=>by
      rcases Nat.eq_zero_or_pos d with g | g
      · subst g;have:(old.length:Int)<=0:=by simpa using X
        omega
      · omega⟩
    rw[QaC a,QY a];dsimp only[Option.bind_some];obtain⟨b0,b1⟩:=hp.2 _ (Zo a);have I:i<old.length:=by omega
    rw[QY I];dsimp only[Option.bind_some];generalize p.1[i]=b at b0 b1 ⊢;rw[w64 (n:=3 * b) (by omega) (by omega),w64 (n:=3 * b+1) (by omega) (by omega),w64 (n:=3 * b+2) (by omega) (by omega)];refine Ok.bind (P:=λF:List Int=>F.length=3 * d+1) (Ok.ite (λ_=>Ok.idx (by omega) (by omega) λv _ _=>Ok.setAt (by omega) (by omega) (Ok.mk (by rw[ZH];exact D))) λ_=>Ok.idx (by omega) (by omega) λv _ _=>Ok.setAt (by omega) (by omega) (Ok.mk (by rw[ZH];exact D))) λF2 K=>?_;exact Ok.idx (by omega) (by omega) λv _ _=>Ok.setAt (by omega) (by omega) (Ok.mk ⟨QD a (by omega),by rw[ZH];exact K⟩)
section
variable {x:Qc} {co c:Nat->Nat} {old W:Wd}
theorem QzE (h:Old x co old) (g:Sh x.Xa.length c (nf x) W) {k f:Nat} (a:k<x.Xa.length) (hf:f<nf x k):Ok (Qeg ⟨x,old,W⟩ k f) (λr=>r.length<=c k/\∀v∈r,-2000000<=v/\v<=2000000):=by
  have l:=h.le k a;unfold Qeg;dsimp only;refine Ok.g1 h.sh a (Ok.g1 g a ?_);rw[h.sh.row k a,g.row k a];have hm:imin ((co k:Nat):Int) ((c k:Nat):Int)=((min (co k) (c k):Nat):Int):=by unfold imin;split<;>omega
  rw[hm];refine Ok.bind (P:=λr=>r.length<=c k/\∀v∈r,-2000000<=v/\v<=2000000) (Ok.cnt (min (co k) (c k)) (λi r=>r.length<=i/\∀v∈r,-2000000<=v/\v<=2000000) ⟨by simp,λv d=>(by cases d)⟩ (λi r hi b=>?_) λr b=>by rw[QaE];exact Ok.mk ⟨by have:=b.1;dsimp only;omega,b.2⟩) λr b=>Ok.mk b;rw[QaC hi];have e:i<co k:=by omega
  refine Ok.g1 h.sh a (Ok.g2 h.sh a e (Ok.g3 h.sh a e hf (Ok.rm (by have:=b.1;simp;omega) (Ok.mk ⟨QD hi (by omega),by have:=b.1;simp;omega,λv d=>?_⟩))));rcases ZB.1 d with d | d
  · exact b.2 v d
  · rw[Zg.1 d];exact ((h.row k i a e).2 f hf).1
def MapB (B:Int) (m:Mp Bool):Prop:=∃l,m=some l/\∀i,mget l i≠none->i<=B
theorem MapB.put {v:Int} {m:Mp Bool} (h:MapB B m) (d:v<=B) (b:Bool):∃a,mput m v b=some a/\MapB B a:=by
  obtain⟨l,rfl,hl⟩:=h;refine⟨_,rfl,_,rfl,λi hi=>?_⟩;rw[Qb3] at hi;by_cases e:i=v
  · omega
  · rw[Zb e] at hi;exact hl i hi
theorem MapB.Xo {C:Int} {m:Mp Bool} (h:MapB B m) (hb:B<=C):MapB C m:=by obtain⟨l,e,hl⟩:=h;exact⟨l,e,λi hi=>Int.le_trans (hl i hi) hb⟩
theorem MapB.has {i:Int} {m:Mp Bool} (h:MapB B m) (hi:(QaX m i).getD false=true):i<=B:=by obtain⟨l,rfl,hl⟩:=h;refine hl i λe=>?_;have:QaX (some l) i=none:=e;rw[this] at hi;cases hi
def Qbc (k:Nat) (P:Nat->Prop):Nat->Nat->Nat->Prop:=λa _ f=>a=k/\P f
theorem QFv (h:Old x co old) (y:Sh x.Xa.length c (nf x) W) {k:Nat} (a:k<x.Xa.length) (O:c k<=60):Ok (Qe7 ⟨x,old,W⟩ k) (λm=>∃C,m=⟨x,old,C⟩/\Sh x.Xa.length c (nf x) C/\Kp (Qbc k (·=0)) W C):=by
  obtain⟨l,K⟩:=Qtu h.clean a;have w:=h.gx.fd a l;unfold Qe7;dsimp only;rw[Qbl a];dsimp only[Option.bind_some];rw[show idx (kd x k).Xb (0:Int)=some (fd x k 0) from Qgf l];dsimp only[Option.bind_some];refine Ok.g1 y a ?_;rw[y.row k a,Qf6 _ _ (by omega)];dsimp only[Option.bind_some];refine Ok.bind (QzE h y a l) λt ht=>?_;obtain⟨t1,t2⟩:=ht;refine Ok.bind (P:=λp=>Sh x.Xa.length c (nf x) p.1/\Kp (Qbc k (·=0)) W p.1/\MapB 2000000 p.2.1/\p.2.2.length=c k) (Ok.cnt t.length (λ_ p=>Sh x.Xa.length c (nf x) p.1/\Kp (Qbc k (·=0)) W p.1/\MapB 2000000 p.2.1/\p.2.2.length=c k) ⟨y,Kp.refl _ _,⟨_,rfl,λi hi=>(hi rfl).elim⟩,by simp⟩ (λi p hi hp=>?_) λp hp=>by rw[QaE];exact Ok.mk hp) λp hp=>?_
  · obtain⟨V,has,kept⟩:=p;obtain⟨b,r,u,z⟩:=hp;dsimp only at b r u z ⊢;rw[QaC hi,QY hi];dsimp only[Option.bind_some];have d:i<c k:=by omega
    rw[QdQ (by omega)];dsimp only[Option.bind_some];rw[QY (by rw[ZH];omega)];dsimp only[Option.bind_some];refine Ok.bind (P:=λq=>Sh x.Xa.length c (nf x) q.1/\Kp (Qbc k (·=0)) W q.1/\MapB 2000000 q.2) (Ok.ite (λ_=>?_) λ_=>Ok.mk ⟨b,r,u⟩) λq e=>Ok.mk ⟨QD hi (by omega),e.1,e.2.1,e.2.2,by rw[ZH];exact z⟩;obtain⟨L,em,o⟩:=u.put (v:=t[i]) (t2 _ (Zo hi)).2 true;refine Ok.g1 b a (Ok.g2 b a d (Ok.g3 (f:=0) b a d l (Ok.put (f:=0) b a d l ?_)));rw[em];exact Ok.mk ⟨b.s a d,r.step (b.kp a d l ⟨rfl,rfl⟩),o⟩
  · obtain⟨V,has,kept⟩:=p;obtain⟨b,r,u,z⟩:=hp;dsimp only at b r u z ⊢;refine Ok.g1 b a ?_;refine Ok.bind (P:=λV=>Sh x.Xa.length c (nf x) V/\Kp (Qbc k (·=0)) W V) (Ok.cnt (g1 V k).length (λi q=>(-1000<=q.1/\q.1<=2000001+i)/\Sh x.Xa.length c (nf x) q.2.1/\Kp (Qbc k (·=0)) W q.2.1/\MapB (2000000+i) q.2.2) ⟨⟨w.1.1,by have:=w.1.2;omega⟩,b,r,by simpa using u⟩ (λi q hi e=>?_) λq e=>by rw[QaE];exact Ok.mk ⟨e.2.1,e.2.2.1⟩) λV hV=>Ok.mk ⟨V,rfl,hV⟩;rw[b.row k a] at hi;obtain⟨M,U,Q⟩:=q;obtain⟨I,g,D,A⟩:=e;dsimp only at I g D A ⊢;rw[b.row k a,QaC hi];refine Ok.bind (P:=λq=>(-1000<=q.1/\q.1<=2000001+((i+1:Nat):Int))/\Sh x.Xa.length c (nf x) q.2.1/\Kp (Qbc k (·=0)) W q.2.1/\MapB (2000000+((i+1:Nat):Int)) q.2.2) ?_ λq e=>Ok.mk ⟨QD hi (by omega),e⟩;refine Ok.g1 g a (Ok.g2 g a hi ?_);rw[QY (by omega)];dsimp only[Option.bind_some];refine Ok.ite (λ_=>Ok.mk ⟨by dsimp only;omega,g,D,A.Xo (by omega)⟩) λ_=>?_;refine Ok.bind (P:=λs:Int=>-1000<=s/\s<=2000001+i) (Ok.loop (λn s=>-1000<=s/\s+n=2000001+i) (2000001+i - M).toNat ⟨I.1,by omega⟩ λn s F=>?_) λs F=>?_
    · refine Ok.ite (λN=>?_) λ_=>Ok.mk (by dsimp only;omega);have:=A.has N;rw[w64 (n:=s+1) (by omega) (by omega)];exact Ok.mk ⟨n - 1,by omega,by omega,by omega⟩
    · obtain⟨L,em,o⟩:=(A.Xo (show (2000000:Int)+i<=2000000+((i+1:Nat):Int) by omega)).put (v:=s) (by omega) true;refine Ok.g1 g a (Ok.g2 g a hi (Ok.g3 (f:=0) g a hi l (Ok.put (f:=0) g a hi l ?_)));rw[em];exact Ok.mk ⟨by dsimp only;omega,g.s a hi,D.step (g.kp a hi l ⟨rfl,rfl⟩),o⟩
theorem QwV {m:Nat} (h:m<=60):Qb6 [(-1:Int)] (m:Int)=some (replicate m (-1)):=by
  have key:∀m:Nat,m<61->Qdk 20 [(-1:Int)] (m:Int)=some (replicate m (-1)):=by decide+kernel
  exact LeC.le (x:=Qdk 20 [(-1:Int)] (m:Int)) _ (key m (by omega))
theorem QB1 (h:Old x co old) (d:Sh x.Xa.length c (nf x) W) {k f u:Nat} (b:k<x.Xa.length) (q:∀k,k<x.Xa.length->c k<=60) (hf:f<nf x k) (hu:upIx x k f=u) (s:u<k) (hz:∀i,i<c k->g3 W k i f=0):
    Ok (Qe8 ⟨x,old,W⟩ k f) (λr=>∃g,r.2=⟨x,old,g⟩/\Sh x.Xa.length c (nf x) g/\(r.1=0->Kp (Qbc k (·=f)) W g/\∀i,i<c k->∃j:Nat,g3 g k i f=j/\j<c u)):=by
  have l:=q k b;have e:u<x.Xa.length:=by omega
  unfold Qe8;dsimp only;rw[Qbl b];dsimp only[Option.bind_some];rw[Qgf hf];dsimp only[Option.bind_some];refine Ok.g1 d b ?_;rw[d.row k b,QwV l];dsimp only[Option.bind_some];refine Ok.bind (QzE h d b hf) λt _=>?_;rw[Qfa h.few,hu];dsimp only[Option.bind_some];refine Ok.g1 d e ?_;have hlen:(cpy (replicate (c k) (-1:Int)) t).length=c k:=by rw[Qqv,length_replicate]
  refine Ok.bind (QB0 (by rw[hlen];omega)) λr w=>?_;refine Ok.ite (λhne=>Ok.mk ⟨W,rfl,d,λh0=>absurd (show (14:Int)=0 from h0) (by decide)⟩) λy=>?_;obtain⟨⟨r1,o⟩,m⟩:=w (by simpa using y);rw[hlen] at r1 m;rw[d.row u e] at o m;refine Ok.bind (P:=λV=>Sh x.Xa.length c (nf x) V/\Kp (Qbc k (·=f)) W V/\∀i,i<c k->∃j:Nat,g3 V k i f=j/\j<c u) (Ok.cnt r.1.length (λi V=>Sh x.Xa.length c (nf x) V/\Kp (Qbc k (·=f)) W V/\∀i,i<c k->∃j:Nat,g3 V k i f=j/\j<c u) ⟨d,Kp.refl _ _,λi hi=>⟨0,hz i hi,by have:=m (by omega);omega⟩⟩ (λi V hi hV=>?_) λV hV=>by rw[QaE];exact Ok.mk hV) λV hV=>Ok.mk ⟨V,rfl,hV.1,λ_=>hV.2⟩;obtain⟨v1,v2,v3⟩:=hV;rw[QaC hi,QY hi];dsimp only[Option.bind_some];have a:i<c k:=by omega
  obtain⟨A,C⟩:=o _ (Zo hi);refine Ok.g1 v1 b (Ok.g2 v1 b a (Ok.g3 v1 b a hf (Ok.put v1 b a hf (Ok.mk ⟨QD hi (by omega),v1.s b a,v2.step (v1.kp b a hf ⟨rfl,rfl⟩),λz n=>?_⟩))));rw[v1.g3s b a hf];split
  · exact⟨r.1[i].toNat,by omega,by omega⟩
  · exact v3 z n
theorem QzF {l:List Int} {f:Int->Option Bool} (hl:l.length<=1000) (hf:∀n,∃b,f n=some b):Ok (QbX l f) (λr=>r<l.length):=by
  unfold QbX;refine Ok.bind (P:=λe:Unit⊕Int=>match e with | .inl _=>True | .inr r=>r<l.length) (Ok.cnt0 l.length (λ_=>True) trivial (λi hi _=>?_) λ_=>by rw[QaE];exact Ok.mk trivial) λr a=>by cases r<;>exact Ok.mk (by dsimp only at a ⊢;omega)
  rw[QaC hi,QY hi];dsimp only[Option.bind_some];obtain⟨b,e⟩:=hf l[i];rw[e];exact Ok.ite (λ_=>Ok.mk (by dsimp only;omega)) λ_=>Ok.mk ⟨QD hi (by omega),trivial⟩
theorem QrC {l:List Int} {f:Int->Option Bool} (hl:l.length<=1000) (hf:∀n,∃b,f n=some b):Ok (Qhc f l) (λ_=>True):=by unfold Qhc;refine (QzF hl hf).bind λr a=>Ok.ite (λh=>Ok.idx (Zt h) a λ_ _ _=>Ok.mk trivial) λ_=>?_;refine Ok.bind (P:=λ_=>True) (Ok.loop (λn s=>0<=s/\s+n=13) 13 ⟨by decide,by decide⟩ λn s d=>?_) λr _=>Ok.mk trivial;obtain⟨b,e⟩:=hf s;rw[e];refine Ok.ite (λh=>?_) λ_=>Ok.mk trivial;simp only[Zi,Zs] at h;rw[w64 (n:=s+1) (by omega) (by omega)];exact Ok.mk ⟨n - 1,by omega,by omega,by omega⟩
theorem QvC [Inhabited α] {l:List α} {n:Int} (g:α->Bool):∃b,((opt (((decide (n>=(0:Int)))&&(decide (n<(l.length:Int))))==true) (idx l n) default).bind λt=>(some (((decide (n>=(0:Int)))&&(decide (n<(l.length:Int))))&&g t):Option Bool))=some b:=by
  cases h:((decide (n>=(0:Int)))&&(decide (n<(l.length:Int)))) with
  | false=>exact⟨_,rfl⟩
  | true=>simp only[Zi,Zs] at h;obtain⟨v,e,_⟩:=QcF h.1 h.2;exact⟨_,by show (idx l n).bind _=_;rw[e];rfl⟩
theorem QvD (o lo hi:Int):QeD o lo hi=some (if o<lo then lo else imin o hi):=by
  unfold QeD;by_cases h:o<lo
  · rw[Zc (by simpa using h),Zc h]
  · rw[Zb (by simpa using h),Zb h]
def Qj3 (x:Qc) (c:Nat->Nat) (k:Nat) (W:Wd):Prop:=∀i f u:Nat,i<c k->f<nf x k->(fd x k f).Xi=1->upIx x k f=u->∃j:Nat,g3 W k i f=j/\j<c u
def Qco (x:Qc) (k f:Nat):Prop:=(fd x k f).Xi=3\/(fd x k f).Xi=5\/(fd x k f).Xi=7\/(fd x k f).Xi=8
theorem Qj3.kp {k:Nat} {A:Nat->Nat->Nat->Prop} {V:Wd} (h:Qj3 x c k W) (b:Kp A W V) (ha:∀i f,(fd x k f).Xi=1->¬A k i f):Qj3 x c k V:=λi f u hi hf a hu=>by rw[b k i f (ha i f a)];exact h i f u hi hf a hu
theorem QzG (h:Old x co old) (K:Sh x.Xa.length c (nf x) W) {k:Nat} (a:k<x.Xa.length) (hi:i<c k) (S:Qj3 x c k W):
    Ok (Qd9 ⟨x,old,W⟩ k i) (λm=>∃L,m=⟨x,old,L⟩/\Sh x.Xa.length c (nf x) L/\Kp (Qbc k (Qco x k)) W L):=by
  have X:=h.nf a;obtain⟨hn,_⟩:=Qtu h.clean a;unfold Qd9;dsimp only;rw[Qbl a];dsimp only[Option.bind_some];refine Ok.g1 K a (Ok.g2 K a hi (Ok.g1 h.sh a ?_));rw[h.sh.row k a];refine Ok.bind (P:=λo:List Int=>o=[]\/o.length=nf x k) (Ok.ite (λs=>?_) λ_=>Ok.mk (.inl rfl)) λo z=>?_
  · have q:i<co k:=by have:=Zt s;omega
    refine Ok.g1 h.sh a (Ok.g2 h.sh a q ?_);have hl:=h.sh.fld k i a q;have:neL (g2 old k i)=some ():=by unfold neL;rw[Zb];intro e;rw[isEmpty_iff] at e;rw[e] at hl;simp at hl;omega
    rw[this];exact Ok.mk (.inr hl)
  · refine Ok.bind (P:=λV=>Sh x.Xa.length c (nf x) V/\Kp (Qbc k (Qco x k)) W V) (Ok.cnt (kd x k).Xb.length (λ_ V=>Sh x.Xa.length c (nf x) V/\Kp (Qbc k (Qco x k)) W V) ⟨K,Kp.refl _ _⟩ (λf V hf hV=>?_) λV hV=>by rw[QaE];exact Ok.mk hV) λV hV=>Ok.mk ⟨V,rfl,hV⟩;obtain⟨v1,v2⟩:=hV;have b:f<nf x k:=hf;dsimp only;rw[QaC hf,fd_idx' k hf];dsimp only[Option.bind_some];have A:∀i f,(fd x k f).Xi=1->¬Qbc k (Qco x k) k i f:=λi f Y d=>by unfold Qbc Qco at d;omega
    have M:=S.kp v2 A;have I:∀{v:Int},Qco x k f->Sh x.Xa.length c (nf x) (s3 V k i f v)/\Kp (Qbc k (Qco x k)) W (s3 V k i f v):=λd=>⟨v1.s a hi,v2.step (v1.kp a hi b ⟨rfl,d⟩)⟩;refine Ok.bind (P:=λl:List Int=>l.length<=1) (Ok.ite (λhne=>?_) λ_=>Ok.mk (by simp)) λl hl=>?_
    · rcases z with rfl | z
      · cases hne
      · unfold nf at X z;rw[w64 (n:=(f:Int)+1) (by omega) (by omega)];refine Ok.sub (by omega) (by omega) (by omega) λr S _=>Ok.mk (by omega)
    · refine Ok.bind (P:=λV=>Sh x.Xa.length c (nf x) V/\Kp (Qbc k (Qco x k)) W V) ?_ λV hV=>Ok.mk ⟨QD hf (by unfold nf at X;omega),hV⟩;refine Ok.ite (λh3=>?_) λ_=>?_
      · have d:Qco x k f:=.inl (by simpa using h3);refine (QrC (by omega) λn=>QvC (l:=(fd x k f).Xf) (λt=>decide (t>0))).bind λv _=>?_;exact Ok.g1 v1 a (Ok.g2 v1 a hi (Ok.g3 v1 a hi b (Ok.put v1 a hi b (Ok.mk (I d)))))
      refine Ok.bind (P:=λV=>Sh x.Xa.length c (nf x) V/\Kp (Qbc k (Qco x k)) W V) ?_ λV hV=>Ok.mk hV;refine Ok.ite (λh5=>?_) λ_=>?_
      · have C:(fd x k f).Xi=5:=by simpa using h5
        have d:Qco x k f:=.inr (.inl C);have a0:=h.gx.short.lives;rw[Qrp (f:=λx0=>QeF x0 (fd x k f)) (p:=λl=>l.Xj==(fd x k f).Of) (by omega) (λl _=>rfl)];dsimp only[Option.bind_some];have D:=QFm h.clean a b C;have N:0<=Qa2 x.Xd (λl=>l.Xj==(fd x k f).Of):=by
          unfold Qa2
          cases e:x.Xd.findIdx? (λl=>l.Xj==(fd x k f).Of) with
          | none=>obtain⟨l,hl,hp⟩:=Yl.1 D;have:=findIdx?_eq_none_iff.1 e l hl;rw[hp] at this;cases this
          | some n=>dsimp only;omega
        refine Ok.idx N (Qf7 _ _).2 λlf _ _=>(Qrx lf _ _).bind λrc _=>?_;refine (QrC (by omega) λn=>QvC (l:=rc) (λt=>t)).bind λv _=>?_;exact Ok.g1 v1 a (Ok.g2 v1 a hi (Ok.g3 v1 a hi b (Ok.put v1 a hi b (Ok.mk (I d)))))
      refine Ok.bind (P:=λV=>Sh x.Xa.length c (nf x) V/\Kp (Qbc k (Qco x k)) W V) ?_ λV hV=>Ok.mk hV;refine Ok.ite (λh7=>?_) λ_=>?_
      · have d:Qco x k f:=.inr (.inr (.inl (by simpa using h7)));refine Ok.g1 v1 a (Ok.g2 v1 a hi (Ok.g3 v1 a hi b (Ok.put v1 a hi b ?_)));obtain⟨w,u2⟩:=I (v:=(fd x k f).Lo) d;refine Ok.bind (P:=λV=>Sh x.Xa.length c (nf x) V/\Kp (Qbc k (Qco x k)) W V) (Ok.ite (λhne=>?_) λ_=>Ok.mk ⟨w,u2⟩) λV hV=>Ok.mk hV;rcases z with rfl | z
        · cases hne
        · refine Ok.idx (by omega) (by omega) λt _ _=>?_;rw[QvD];dsimp only[Option.bind_some];exact Ok.g1 w a (Ok.g2 w a hi (Ok.g3 w a hi b (Ok.put w a hi b (Ok.mk ⟨w.s a hi,u2.step (w.kp a hi b ⟨rfl,d⟩)⟩))))
      refine Ok.bind (P:=λV=>Sh x.Xa.length c (nf x) V/\Kp (Qbc k (Qco x k)) W V) ?_ λV hV=>Ok.mk hV;refine Ok.ite (λh8=>?_) λ_=>Ok.mk ⟨v1,v2⟩;have y:(fd x k f).Xi=8:=by simpa using h8
      have d:Qco x k f:=.inr (.inr (.inr y));obtain⟨g,u,e,Z,Y,F,O,s⟩:=Qqm h.clean a b (.inr y);obtain⟨g',e2,Q⟩:=Qvm h.clean a b y O s;obtain⟨j,ej,hj⟩:=M i g u hi Z Y F;have hu:u<x.Xa.length:=by omega
      rw[Qbk (h.fields a),e];dsimp only[Option.bind_some];rw[Qfa h.few,F];dsimp only[Option.bind_some];refine Ok.g1 v1 hu (Ok.g1 v1 a (Ok.g2 v1 a hi (Ok.g3 v1 a hi Z ?_)));rw[ej];refine Ok.g2 v1 hu hj ?_;rw[Qbl hu];dsimp only[Option.bind_some];rw[Qbk (h.fields hu),e2];dsimp only[Option.bind_some];exact Ok.g3 v1 hu hj Q (Ok.g3 v1 a hi b (Ok.put v1 a hi b (Ok.mk (I d))))
theorem QFw (h:Old x co old) (A:Sh x.Xa.length c (nf x) W) {k:Nat} (l:k<x.Xa.length) (C:∀k,k<x.Xa.length->c k<=60) (D:∀k,k<x.Xa.length->Qj3 x c k W):
    Ok (Qe9 ⟨x,old,W⟩ k) (λm=>∃s,m=⟨x,old,s⟩/\Sh x.Xa.length c (nf x) s/\Kp (Qbc k (λf=>(fd x k f).Xi=6)) W s):=by
  have F:=h.nf l;unfold Qe9;dsimp only;rw[Qbl l];dsimp only[Option.bind_some];refine Ok.bind (P:=λV=>Sh x.Xa.length c (nf x) V/\Kp (Qbc k (λf=>(fd x k f).Xi=6)) W V) (Ok.cnt (kd x k).Xb.length (λ_ V=>Sh x.Xa.length c (nf x) V/\Kp (Qbc k (λf=>(fd x k f).Xi=6)) W V) ⟨A,Kp.refl _ _⟩ (λf V hf hV=>?_) λV hV=>by rw[QaE];exact Ok.mk hV) λV hV=>Ok.mk ⟨V,rfl,hV⟩;have n:f<nf x k:=hf;rw[QaC hf,fd_idx' k hf];dsimp only[Option.bind_some];refine Ok.bind (P:=λV=>Sh x.Xa.length c (nf x) V/\Kp (Qbc k (λf=>(fd x k f).Xi=6)) W V) (Ok.ite (λ_=>Ok.mk hV) λI=>?_) λV hV=>Ok.mk ⟨QD hf (by unfold nf at F;omega),hV⟩;have r:(fd x k f).Xi=6:=by simpa using I
  obtain⟨o,a,e,K,d,ha,L,M⟩:=Qzi h.clean l n r;obtain⟨g,u,e2,y,z,t,N,O⟩:=Qqm h.clean d ha (.inl L);have:u=k:=by omega
  subst this;have Q:=C o d;rw[Qk8 h.few,e];dsimp only[Option.bind_some];rw[Qbl d];dsimp only[Option.bind_some];rw[Qgf ha];dsimp only[Option.bind_some];rw[Qbk (h.fields d),e2];dsimp only[Option.bind_some];refine Ok.g1 hV.1 d ?_;rw[hV.1.row o d];refine Ok.bind (P:=λV=>Sh x.Xa.length c (nf x) V/\Kp (Qbc u (λf=>(fd x u f).Xi=6)) W V) (Ok.cnt (c o) (λ_ V=>Sh x.Xa.length c (nf x) V/\Kp (Qbc u (λf=>(fd x u f).Xi=6)) W V) hV (λj V q hV=>?_) λV hV=>by rw[QaE];exact Ok.mk hV) λV hV=>Ok.mk hV;obtain⟨v1,v2⟩:=hV;have w:=(D o d).kp v2 (λi f z S=>by unfold Qbc at S;omega);obtain⟨b,eb,hb⟩:=w j g u q y z t;rw[QaC q];refine Ok.g1 v1 d (Ok.g2 v1 d q (Ok.g1 v1 l (Ok.g1 v1 d (Ok.g2 v1 d q (Ok.g3 v1 d q y ?_)))));rw[eb];exact Ok.g2 v1 l hb (Ok.g3 v1 l hb n (Ok.g3 v1 d q ha (Ok.put v1 l hb n (Ok.mk ⟨QD q (by omega),v1.s l hb,v2.step (v1.kp l hb n ⟨rfl,r⟩)⟩))))
end
section
variable (p:Nat->Bool)
theorem QqW (n:Nat):(range (n+1)).filter p=(range n).filter p++(if p n=true then [n] else []):=by
  rw[Yp,filter_append];congr 1;by_cases h:p n=true
  · rw[Zc h];simp[h]
  · rw[Zb h];simp[h]
theorem QtF {g:Nat}:∀{n i:Nat},g<=n->i<((range g).filter p).length->((range n).filter p)[i]?=((range g).filter p)[i]?
  | 0,i,hg,hi=>by
    have:g=0:=by omega
    subst this;rfl
  | n+1,i,hg,hi=>by
    by_cases h:g=n+1
    · subst h;rfl
    · have a:=QtF (g:=g) (n:=n) (i:=i) (by omega) hi;rw[QqW,Zv,a];rw[Zd hi] at a;exact (Ze.1 a).1
theorem fr_at {g n:Nat} (a:g<n) (hp:p g=true):((range n).filter p)[((range g).filter p).length]?=some g:=by
  have e:((range (g+1)).filter p)[((range g).filter p).length]?=some g:=by rw[QqW,Zc hp,Zy (Zr _),Nat.sub_self];rfl
  rw[QtF p (g:=g+1) (n:=n) a (Ze.1 e).1,e]
end
def isV (x:Qc) (k f:Nat):Bool:=((fd x k f).Xi==2)||((fd x k f).Xi==4)
def vals (x:Qc) (k:Nat):List Nat:=(range (nf x k)).filter (isV x k)
def QeK (x:Qc) (k g:Nat):Nat:=((range g).filter (isV x k)).length
def natI (l:List Nat):List Int:=l.map Int.ofNat
def Qji (x:Qc) (k f:Nat):Int:=if (fd x k f).Xi=4/\(fd x k f).Of≠[] then (QeK x k (Qal (kd x k) (fd x k f).Of).toNat:Int) else -1
def Qjj (x:Qc) (k i:Nat):List QH:=[⟨i,Qji x k ((vals x k).getD i 0),(fd x k ((vals x k).getD i 0)).Hi⟩,⟨Qji x k ((vals x k).getD i 0),i,-(fd x k ((vals x k).getD i 0)).Lo⟩]
def QgF (x:Qc) (k:Nat) (n:Str):Int:=if n=[] then -1 else (QeK x k (Qal (kd x k) n).toNat:Int)
def QjR (x:Qc) (k j:Nat):List QH:=match x.Xc[j]? with | some r=>if Q3 x r.Xi=k then [⟨QgF x k r.A,QgF x k r.B,r.N⟩] else [] | none=>[]
def dfS (x:Qc) (k:Nat):List QH:=([]++(range (vals x k).length).flatMap (Qjj x k))++(range x.Xc.length).flatMap (QjR x k)
section
variable {x:Qc} {k:Nat}
theorem QdF (l:List Nat):(natI l).length=l.length:=Yd ..
theorem QjC {l:List Nat} (h:i<l.length):idx (natI l) (i:Int)=some ((l.getD i 0:Nat):Int):=by rw[Qhd,natI,Ye,Zh,Zd h];rfl
theorem QjD (h:i<(vals x k).length):(vals x k).getD i 0<nf x k/\isV x k ((vals x k).getD i 0)=true:=by have hm:(vals x k).getD i 0∈vals x k:=Qju h;obtain⟨a,b⟩:=Yi.1 hm;exact⟨Ym.1 a,b⟩
theorem QtG {g:Nat} (a:g<nf x k) (b:isV x k g=true):QeK x k g<(vals x k).length/\(vals x k).getD (QeK x k g) 0=g:=by have e:(vals x k)[QeK x k g]?=some g:=fr_at (isV x k) a b;refine⟨(Ze.1 e).1,?_⟩;rw[Zh,e];rfl
theorem Qus {g:Nat} (b:g<nf x k) (hi:i<QeK x k g):(vals x k).getD i 0<g:=by have e:(vals x k)[i]?=((range g).filter (isV x k))[i]?:=QtF (isV x k) (by omega) hi;have a:i<((range g).filter (isV x k)).length:=hi;rw[Zh,e,Zd a];exact Ym.1 (Yi.1 (Zo a)).1
theorem QjE:(vals x k).length<=nf x k:=by have:=length_filter_le (isV x k) (range (nf x k));rw[Yy] at this;exact this
theorem Qlu (n:Nat):natI ((range (n+1)).filter (isV x k))=if isV x k n=true then natI ((range n).filter (isV x k))++[(n:Int)] else natI ((range n).filter (isV x k)):=by unfold natI;rw[QqW,Yz];split<;>simp
theorem QoR (l:k<x.Xa.length) (d:nf x k<=1000):Qen (kd x k)=some (natI (vals x k)):=by
  have key:Ok (Qen (kd x k)) (λr=>r=natI (vals x k)):=by
    unfold Qen;refine Ok.bind (P:=λr=>r=natI (vals x k)) (Ok.cnt (kd x k).Xb.length (λf r=>r=natI ((range f).filter (isV x k))) rfl (λf r hf a=>?_) λr a=>by rw[QaE];exact Ok.mk a) λr a=>Ok.mk a;subst a;have g:f<nf x k:=hf;rw[QaC hf,fd_idx' k hf];dsimp only[Option.bind_some];refine Ok.opt (P:=λy=>y=fd x k f) (λ_=>Ok.mk rfl) λy hy=>?_;have b:=length_filter_le (isV x k) (range f);rw[Yy] at b;have e:(((fd x k f).Xi==2)||(y.Xi==4))=isV x k f:=by
      unfold isV
      cases h:((fd x k f).Xi==2) with
      | true=>rfl
      | false=>rw[hy (by rw[h];rfl)]
    rw[e];refine Ok.bind (P:=λr=>r=natI ((range (f+1)).filter (isV x k))) (Ok.ite (λh=>Ok.rm (by rw[QdF];simp;omega) (Ok.mk ?_)) λh=>Ok.mk ?_) λr a=>Ok.mk ⟨QD hf (by unfold nf at d;omega),a⟩
    · rw[Qlu,Zc h]
    · rw[Qlu,Zb (by rw[h];decide)]
  obtain⟨r,a,rfl⟩:=key;exact a
theorem QvE {g:Nat} (e:g<nf x k) (f:isV x k g=true) (o:nf x k<=1000):Qea (natI (vals x k)) (g:Int)=some (QeK x k g:Int):=by
  obtain⟨hp,d⟩:=QtG e f;have hl:=QjE (x:=x) (k:=k);have l:∀i,i<(vals x k).length->((vals x k).getD i 0==g)=false->(if decide ((i:Int)<((natI (vals x k)).length:Int))=true then (idx (natI (vals x k)) (i:Int)).bind λt14=>if (t14==(g:Int))=true then some (.inr (.inr (i:Int))) else some (.inl (i64.wrap ((i:Int)+1))) else some (.inr (.inl ())))=(some (.inl ((i+1:Nat):Int)):Option (Int⊕(Unit⊕Int))):=λi hi b=>by
    rw[QdF,QaC hi,QjC hi];dsimp only[Option.bind_some];rw[Zb,QD hi (by omega)];intro h;have:((vals x k).getD i 0:Int)=g:=by simpa using h
    simp only[beq_eq_false_iff_ne] at b;omega
  have m:∀i,i<(vals x k).length->((vals x k).getD i 0==g)=true->(if decide ((i:Int)<((natI (vals x k)).length:Int))=true then (idx (natI (vals x k)) (i:Int)).bind λt14=>if (t14==(g:Int))=true then some (.inr (.inr (i:Int))) else some (.inl (i64.wrap ((i:Int)+1))) else some (.inr (.inl ())))=(some (.inr (.inr (i:Int))):Option (Int⊕(Unit⊕Int))):=λi hi b=>by rw[QdF,QaC hi,QjC hi];dsimp only[Option.bind_some];rw[Zc];simp only[Yf] at b;rw[b];simp
  unfold Qea;refine QnJ (vals x k).length (λi=>(vals x k).getD i 0==g) (.inl ()) (λi=>.inr (i:Int)) l m (by rw[QdF,QaE]) (λa=>?_) λi hi a=>?_
  · have:=a _ hp;simp only[d,beq_self_eq_true] at this;cases this
  · have a:(vals x k).getD i 0=g:=by simpa using a
    have:i=QeK x k g:=by
      rcases Nat.lt_trichotomy i (QeK x k g) with h | h | h
      · have:=Qus e h;omega
      · exact h
      · have n:(vals x k).Pairwise (·< ·):=Pairwise.filter _ pairwise_lt_range;have:=pairwise_iff_getElem.1 n _ _ hp hi h;rw[Zh,Zd hp] at d;rw[Zh,Zd hi] at a;simp only[ZQ] at d a;omega
    rw[this]
theorem QFx (b:Qbb x=[]) (d:k<x.Xa.length) {f:Nat} (hf:f<nf x k):(fd x k f).Xj≠[]:=by have a:=(Qip ((QdZ b).kind _ (Qmc d))).2.2 _ (Qts hf);intro e;unfold QaN at a;rw[e] at a;simp[QX] at a;exact absurd a.1.1.1 (by decide)
theorem QtH (d:Gx x) (e:k<x.Xa.length) (hi:i<(vals x k).length):Qji x k ((vals x k).getD i 0)=(if (fd x k ((vals x k).getD i 0)).Xi=4 then QgF x k (fd x k ((vals x k).getD i 0)).Of else -1)/\i64.wrap (0 - (fd x k ((vals x k).getD i 0)).Lo)=-(fd x k ((vals x k).getD i 0)).Lo:=by
  have hb:=d.fd e (QjD hi).1;generalize (vals x k).getD i 0=f at hb ⊢;refine⟨?_,by rw[w64 (by omega) (by omega)];omega⟩;unfold Qji QgF;by_cases a:(fd x k f).Xi=4
  · by_cases b:(fd x k f).Of=[]
    · rw[Zb (λh=>h.2 b),Zc a,Zc b]
    · rw[Zc ⟨a,b⟩,Zc a,Zb b]
  · rw[Zb (λh=>a h.1),Zb a]
theorem QqX {L:List (Str×Int)} (h0:Qc5 L []=some (-1)) (b:∀g,g<nf x k->isV x k g=true->Qc5 L (fd x k g).Xj=some (QeK x k g:Int)) {n:Str}
    (d:n≠[]->∃g:Nat,Qal (kd x k) n=g/\g<nf x k/\isV x k g=true/\(fd x k g).Xj=n):(QbF (some L:MpK Str Int) n).getD 0=QgF x k n:=by
  unfold QgF;by_cases h:n=[]
  · rw[Zc h,h];show (Qc5 L []).getD 0=-1;rw[h0];rfl
  · rw[Zb h];obtain⟨g,e,f,l,a⟩:=d h;rw[e,ZF];show (Qc5 L n).getD 0=_;rw[<-a,b g f l];rfl
theorem QtI (b:Qbb x=[]) (d:k<x.Xa.length) {f:Nat} (hf:f<nf x k) (h:(fd x k f).Xi=4):(fd x k f).Of≠[]->∃g:Nat,Qal (kd x k) (fd x k f).Of=g/\g<nf x k/\isV x k g=true/\(fd x k g).Xj=(fd x k f).Of:=λl=>by obtain⟨g,e,n,a,m⟩:=Qtv b d hf h l;exact⟨g,e,by omega,by unfold isV;rw[a];rfl,m⟩
theorem QnT (d:Qbb x=[]) {r:QL} (f:r∈x.Xc) (q:Q3 x r.Xi=k) {n:Str} (l:n=r.A\/n=r.B):n≠[]->∃g:Nat,Qal (kd x k) n=g/\g<nf x k/\isV x k g=true/\(fd x k g).Xj=n:=λhne=>by
  obtain⟨m,e,_,_,h⟩:=Qvn d f;have:m=k:=by omega
  subst this;obtain⟨g,e2,o,a,b⟩:=h n l hne;exact⟨g,e2,o,by unfold isV;rcases a with h | h<;>rw[h]<;>rfl,b⟩
theorem Qlc (i:Nat):(Qjj x k i).length<=2:=by simp[Qjj]
theorem Qpf (j:Nat):(QjR x k j).length<=1:=by
  unfold QjR;split
  · split<;>simp
  · simp
theorem QvF (a:nf x k<=9) (b:x.Xc.length<=16):(dfS x k).length<=34:=by have d:=QcW (vals x k).length (Qjj x k) 2 λi _=>Qlc i;have e:=QcW x.Xc.length (QjR x k) 1 λi _=>Qpf i;have f:=QjE (x:=x) (k:=k);unfold dfS;rw[Zf,Yj];omega
theorem QB2 (z:Gx x) (n:Qbb x=[]) (o:k<x.Xa.length):Qhb x k=some (natI (vals x k),dfS x k):=by
  have A:=z.kd o;have s:=QdZ n;have F:=s.kinds;have I:=s.rules;have K:=QjE (x:=x) (k:=k);have key:Ok (Qhb x k) (λr=>r=(natI (vals x k),dfS x k)):=by
    unfold Qhb;rw[Qbl o];dsimp only[Option.bind_some];rw[QmR rfl];dsimp only[Option.bind_some];refine Ok.bind (P:=λp:List Int×MpK Str Int=>p.1=natI (vals x k)/\∃L,p.2=some L/\Qc5 L []=some (-1)/\∀g,g<nf x k->isV x k g=true->Qc5 L (fd x k g).Xj=some (QeK x k g:Int))
      (Ok.cnt (kd x k).Xb.length (λf p=>p.1=natI ((range f).filter (isV x k))/\∃L,p.2=some L/\Qc5 L []=some (-1)/\∀g,g<f->isV x k g=true->Qc5 L (fd x k g).Xj=some (QeK x k g:Int)) ⟨rfl,_,rfl,by simp[QjI,Qc5],λg z=>by omega⟩ (λf p hf hp=>?_) λp hp=>by rw[QaE];exact Ok.mk hp) λp hp=>?_
    · obtain⟨a,m⟩:=p;obtain⟨rfl,L,e,h0,t⟩:=hp;dsimp only at e ⊢;subst e;have u:f<nf x k:=hf;rw[QaC hf,fd_idx' k hf];dsimp only[Option.bind_some];have C:=length_filter_le (isV x k) (range f);rw[Yy] at C;refine Ok.bind (P:=λp:MpK Str Int×List Int=>p.2=natI ((range (f+1)).filter (isV x k))/\∃L,p.1=some L/\Qc5 L []=some (-1)/\∀g,g<f+1->isV x k g=true->Qc5 L (fd x k g).Xj=some (QeK x k g:Int)) (Ok.ite (λh=>?_) λh=>Ok.mk ⟨?_,L,rfl,h0,λg w l=>?_⟩) λp hp=>Ok.mk ⟨QD hf (by unfold nf at A;omega),hp⟩
      · have s:isV x k f=true:=h;rw[QmR rfl];refine Ok.rm (by rw[QdF];simp;omega) (Ok.mk ⟨by rw[Qlu,Zc s],_,rfl,?_,λg w l=>?_⟩)
        · rw[QdT,Zb (λe=>QFx n o u e.symm),h0]
        · rw[QdT];by_cases e:g=f
          · subst e;rw[Zc rfl,QdF];rfl
          · rw[Zb,t g (by omega) l];intro M;have N:=Qvl n o (f:=g) (by omega);have Q:=Qvl n o u;rw[M] at N;omega
      · have s:¬isV x k f=true:=by
          have:isV x k f=false:=h;rw[this];decide
        rw[Qlu,Zb s]
      · rcases Nat.lt_succ_iff_lt_or_eq.1 w with D | D
        · exact t g D l
        · subst D;have:isV x k g=false:=h;rw[this] at l;cases l
    · obtain⟨a,m⟩:=p;obtain⟨rfl,L,e,h0,t⟩:=hp;dsimp only at e ⊢;subst e;rw[Qep (vals x k).length (Qjj x k) 2 (λi _=>Qlc i) [] (λi hi q b=>?_) (λq=>by rw[QdF,QaE])]
      · dsimp only[Option.bind_some];rw[Qep x.Xc.length (QjR x k) 1 (λi _=>Qpf i) _ (λi hi q b=>?_) (λq=>by rw[QaE])]
        · exact Ok.mk rfl
        · rw[QaC hi,QY hi];dsimp only[Option.bind_some];rw[QdR (by omega)];dsimp only[Option.bind_some];have hl:=QcW (vals x k).length (Qjj x k) 2 λi _=>Qlc i;rw[Zf] at b;dsimp only[length_nil] at b;have e1:QjR x k i=if Q3 x x.Xc[i].Xi=k then [⟨QgF x k x.Xc[i].A,QgF x k x.Xc[i].B,x.Xc[i].N⟩] else []:=by unfold QjR;rw[Zd hi]
          rw[e1];by_cases d:Q3 x x.Xc[i].Xi=k
          · rw[Zc (by simpa using d),Zc d,QqX h0 t (QnT n (Zo hi) d (.inl rfl)),QqX h0 t (QnT n (Zo hi) d (.inr rfl)),QdX (by simp;omega),QD hi (by omega)];rfl
          · rw[Zb (by simpa using d),Zb d,QD hi (by omega),Yc];rfl
      · rw[QdF,QaC hi,QjC hi];dsimp only[Option.bind_some];have hf:=(QjD hi).1;rw[Qgf hf];dsimp only[Option.bind_some];obtain⟨d1,d2⟩:=QtH z o hi;have e1:(if ((fd x k ((vals x k).getD i 0)).Xi==(4:Int))=true then some ((QbF (some L:MpK Str Int) (fd x k ((vals x k).getD i 0)).Of).getD (0:Int)) else some (-1:Int))=some (Qji x k ((vals x k).getD i 0)):=by
          rw[d1];by_cases y:(fd x k ((vals x k).getD i 0)).Xi=4
          · rw[Zc (by simpa using y),Zc y,QqX h0 t (QtI n o hf y)]
          · rw[Zb (by simpa using y),Zb y]
        rw[e1];dsimp only[Option.bind_some];dsimp only[length_nil] at b;rw[QdX (by simp;omega),d2,QD hi (by omega)];rfl
  obtain⟨r,O,rfl⟩:=key;exact O
theorem own_is (z:Gx x) (w:Qbb x=[]) (r:k<x.Xa.length):Qi8 x k=some (dfS x k):=by
  have s:=z.kd r;have A:=QdZ w;have D:=A.kinds;have y:=A.rules;have F:=QjE (x:=x) (k:=k);have I:=QvF (x:=x) (k:=k) s.1 y;have u:(kd x k).Xb.length<=1000000:=by unfold nf at s;omega
  have K:QhI x k=some (dfS x k):=by
    unfold QhI;rw[Qbl r];dsimp only[Option.bind_some];rw[QoR r (by omega)];dsimp only[Option.bind_some];rw[Qep (vals x k).length (Qjj x k) 2 (λi _=>Qlc i) [] (λi hi f b=>?_) (λf=>by rw[QdF,QaE])]
    · dsimp only[Option.bind_some];rw[Qep x.Xc.length (QjR x k) 1 (λi _=>Qpf i) _ (λi hi f b=>?_) (λf=>by rw[QaE])]
      · rfl
      · have hl:=QcW (vals x k).length (Qjj x k) 2 λi _=>Qlc i;rw[Zf] at b;dsimp only[length_nil] at b;rw[QaC hi,QY hi];dsimp only[Option.bind_some];rw[Qeq (by omega)];dsimp only[Option.bind_some];have e1:QjR x k i=if Q3 x x.Xc[i].Xi=k then [⟨QgF x k x.Xc[i].A,QgF x k x.Xc[i].B,x.Xc[i].N⟩] else []:=by unfold QjR;rw[Zd hi]
        rw[e1];by_cases d:Q3 x x.Xc[i].Xi=k
        · have C:∀n,n=x.Xc[i].A\/n=x.Xc[i].B->n≠[]->(Qbi (kd x k) n).bind (λt=>Qea (natI (vals x k)) t)=some (QgF x k n):=λn o hne=>by
            obtain⟨g,e,l,m,_⟩:=QnT w (Zo hi) d o hne;rw[QdS u,e];dsimp only[Option.bind_some];rw[QvE l m (by omega)];unfold QgF;rw[Zb hne,e,ZF]
          have ne:∀n:Str,n=[]->QgF x k n=-1:=λn h=>Zc h;rw[Zb (by simpa using d),Zc d];have L:(if (x.Xc[i].A !=([]:Str))=true then (Qbi (kd x k) x.Xc[i].A).bind λt101=>(Qea (natI (vals x k)) t101).bind λt102=>(some (QH.mk t102 (-1:Int) x.Xc[i].N)) else (some (QH.mk (-1:Int) (-1:Int) x.Xc[i].N)))=some (QH.mk (QgF x k x.Xc[i].A) (-1) x.Xc[i].N):=by
            by_cases h:x.Xc[i].A=[]
            · rw[Zb (by simp[h]),ne _ h]
            · have:=C _ (.inl rfl) h;rw[Zc (by simpa using h)];obtain⟨t,e1,e2⟩:=Yw.1 this;rw[e1];dsimp only[Option.bind_some];rw[e2];rfl
          have M:∀a n:Int,(if (x.Xc[i].B !=([]:Str))=true then (Qbi (kd x k) x.Xc[i].B).bind λt119=>(Qea (natI (vals x k)) t119).bind λt120=>(some (QH.mk a t120 n)) else (some (QH.mk a (-1:Int) n)))=some (QH.mk a (QgF x k x.Xc[i].B) n):=λa n=>by
            by_cases h:x.Xc[i].B=[]
            · rw[Zb (by simp[h]),ne _ h]
            · have:=C _ (.inr rfl) h;rw[Zc (by simpa using h)];obtain⟨t,e1,e2⟩:=Yw.1 this;rw[e1];dsimp only[Option.bind_some];rw[e2];rfl
          rw[L];dsimp only[Option.bind_some];rw[M];dsimp only[Option.bind_some];rw[QdX (by simp;omega),QD hi (by omega)];rfl
        · rw[Zc (by simpa using d),Zb d,QD hi (by omega),Yc];rfl
    · rw[QdF,QaC hi,QjC hi];dsimp only[Option.bind_some];have hf:=(QjD hi).1;rw[Qgf hf];dsimp only[Option.bind_some];obtain⟨d1,d2⟩:=QtH z r hi;have e1:(if (((fd x k ((vals x k).getD i 0)).Xi==(4:Int))&&((fd x k ((vals x k).getD i 0)).Of !=([]:Str)))=true then (Qbi (kd x k) (fd x k ((vals x k).getD i 0)).Of).bind λt46=>(Qea (natI (vals x k)) t46).bind λt47=>(some t47) else (some (-1:Int)))=some (Qji x k ((vals x k).getD i 0)):=by
        unfold Qji;by_cases q:(fd x k ((vals x k).getD i 0)).Xi=4/\(fd x k ((vals x k).getD i 0)).Of≠[]
        · obtain⟨g,e,l,m,_⟩:=QtI w r hf q.1 q.2;rw[Zc (by simpa using q),Zc q,QdS u,e];dsimp only[Option.bind_some];rw[QvE l m (by omega),ZF];rfl
        · rw[Zb (by simpa using q),Zb q]
      rw[e1];dsimp only[Option.bind_some];dsimp only[length_nil] at b;rw[QdX (by simp;omega),d2,QD hi (by omega)];rfl
  unfold Qi8;rw[K];dsimp only[Option.bind_some];refine QdA (dfS x k).length (λn=>((n:Int),(dfS x k).take n)) (dfS x k) rfl (λn o=>?_) ?_ rfl
  · dsimp only;rw[QaC o,QY o];dsimp only[Option.bind_some];rw[QdX (by simp;omega),QD o (by omega),Zw o];rfl
  · dsimp only;rw[QaE,Zu (Zr _)]
end
def upd1 (R:Nat->α) (k:Nat) (v:α):Nat->α:=λq=>if q=k then v else R q
theorem QfG {k:Nat}:upd1 R k v k=v:=Zc rfl
theorem QiP {k q:Nat} (h:q≠k):upd1 R k v q=R q:=Zb h
theorem QrD {k:Nat} {w:α}:upd1 (upd1 R k v) k w=upd1 R k w:=by funext q;unfold upd1;split<;>rfl
theorem QrE {k:Nat}:upd1 R k (R k)=R:=by
 funext q;unfold upd1;split
 ·rename_i h;rw[h]
 ·rfl
def rowL (m:Nat) (R:Nat->α):List α:=(range m).map R
def tab (m:Nat) (G:Nat->Nat->Int):List (List Int):=rowL m λi=>rowL m (G i)
theorem QhR {m:Nat}:(rowL m R).length=m:=by simp[rowL]
theorem Qfn {m:Nat} {G:Nat->Nat->Int}:(tab m G).length=m:=QhR
theorem QgG {m:Nat} {k:Nat} (h:k<m):idx (rowL m R) (k:Int)=some (R k):=by rw[QY (by rw[QhR];exact h)];simp[rowL]
theorem QjF {m:Nat} {k:Nat} (h:k<m) (v:α):setAt (rowL m R) (k:Int) v=some (rowL m (upd1 R k v)):=by
 rw[QdQ (by rw[QhR];exact h)];congr 1;apply ext_getElem
 ·simp[rowL]
 ·intro i a b;simp only[rowL,getElem_set,getElem_map,getElem_range,upd1];by_cases hi:k=i
  ·rw[Zc hi,Zc hi.symm]
  ·rw[Zb hi,Zb (λh=>hi h.symm)]
theorem QkI {m:Nat} {G:Nat->Nat->Int} (h:i<m):idx (tab m G) (i:Int)=some (rowL m (G i)):=QgG h
theorem QvG {m:Nat} {G:Nat->Nat->Int} (h:i<m) (R:Nat->Int):setAt (tab m G) (i:Int) (rowL m R)=some (tab m (upd1 G i R)):=by unfold tab;rw[QjF h];congr 1;unfold rowL;apply map_congr_left;intro p _;unfold upd1;split<;>rfl
theorem Qh6 {m:Nat} {S:Nat->α} (h:∀k,k<m->R k=S k):rowL m R=rowL m S:=by unfold rowL;apply map_congr_left;intro k a;exact h k (by simpa using a)
theorem QrF {m:Nat} {G:Nat->Nat->Int} (h:∀i k,i<m->k<m->G i k=H i k):tab m G=tab m H:=Qh6 λi hi=>Qh6 λk a=>h i k hi a
theorem QB3 (m:Nat) (v:α):rowL m (λ_=>v)=replicate m v:=by unfold rowL;rw[map_const'];simp
abbrev INF:Int:=1099511627776
structure Ed where
 a:Nat
 b:Nat
 w:Int
variable {E:List Ed}
inductive Way (E:List Ed):Nat->Nat->Int->Prop where
 | nil (i:Nat):Way E i i 0
 | cons {e:Ed} {k:Nat} {w:Int} (he:e∈E) (h:Way E e.b k w):Way E e.a k (e.w+w)
theorem Way.trans {k:Nat} {v w:Int} (h:Way E i j v) (g:Way E j k w):Way E i k (v+w):=by
 induction h with
 | nil i=>simpa using g
 | cons a _ b=>
  have:=Way.cons a (b g)
  rwa [<-Int.add_assoc] at this
theorem Way.one {e:Ed} (a:e∈E):Way E e.a e.b e.w:=by simpa using Way.cons a (Way.nil e.b)
def Qow (j:Nat) (T R:Nat->Int) (k:Nat):Nat->Int:=if R j<INF/\T k<INF then upd1 R k (imin (R k) (R j+T k)) else R
def Qc8 (j:Nat) (T R:Nat->Int) (n:Nat):Nat->Int:=(range n).foldl (Qow j T) R
theorem Qkt (j:Nat) (T R:Nat->Int) (n:Nat):Qc8 j T R (n+1)=Qow j T (Qc8 j T R n) n:=by unfold Qc8;rw[Yp,foldl_append];rfl
structure QmV (E:List Ed) (m:Nat) (B U:Int) (i:Nat) (R:Nat->Int):Prop where
 lo:∀q,q<m->-B<=R q
 hi:∀q,q<m->R q<=INF
 up:∀q,q<m->R q<INF->R q<=U
 way:∀q,q<m->R q<INF->Way E i q (R q)
theorem QmV.mono {m:Nat} {b d:Int} {R:Nat->Int} (h:QmV E m B U i R) (e:B<=b) (hU:U<=d):QmV E m b d i R:=⟨λq a=>by have:=h.lo q a;omega,h.hi,λq a hf=>by have:=h.up q a hf;omega,h.way⟩
theorem Qox (a b:Int):imin a b<=a/\imin a b<=b/\(imin a b=a\/imin a b=b):=by unfold imin;split<;>omega
theorem QmW {m:Nat} {b t:Int} {R:Nat->Int} (l:j<m) (s:QmV E m b U i R) (z:QmV E m t U j T) (h0:0<=b) (K:0<=t) (hU:0<=U):
  ∀n,n<=m->QmV E m (b+t+t) (U+U) i (Qc8 j T R n)/\(∀q,q<m->Qc8 j T R n q<=R q)/\(-(b+t)<=Qc8 j T R n j)/\(n<=j->Qc8 j T R n j=R j)/\(Qc8 j T R n j<INF->R j<INF):=by
 intro n
 induction n with
 | zero=>intro _;refine⟨s.mono (by omega) (by omega),λq _=>Zx _,?_,λ_=>rfl,λh=>h⟩;have:=s.lo j l;show -(b+t)<=R j;omega
 | succ n D=>
  intro L;obtain⟨f,o,A,u,y⟩:=D (by omega);rw[Qkt];generalize M:Qc8 j T R n=P at f o A u y;unfold Qow;by_cases g:P j<INF/\T n<INF
  ·rw[Zc g];obtain⟨N,O,C⟩:=Qox (P n) (P j+T n);have Q:=o j l;have u2:=s.up j l (y g.1);have S:=z.up n (by omega) g.2;have V:=z.lo n (by omega);have X:=f.lo n (by omega);have F:=f.hi n (by omega);have w:Way E i n (P j+T n):=(f.way j l g.1).trans (z.way n (by omega) g.2);refine⟨⟨λq d=>?_,λq d=>?_,λq d hf=>?_,λq d hf=>?_⟩,λq d=>?_,?_,?_,?_⟩
   ·by_cases a:q=n
    ·subst a;rw[QfG];rcases C with h | h<;>rw[h]<;>omega
    ·rw[QiP a];exact f.lo q d
   ·by_cases a:q=n
    ·subst a;rw[QfG];omega
    ·rw[QiP a];exact f.hi q d
   ·by_cases a:q=n
    ·subst a;rw[QfG];omega
    ·rw[QiP a] at hf ⊢;exact f.up q d hf
   ·by_cases a:q=n
    ·subst a;rw[QfG] at hf ⊢;rcases C with h | h
     ·rw[h] at hf ⊢;exact f.way q d hf
     ·rw[h];exact w
    ·rw[QiP a] at hf ⊢;exact f.way q d hf
   ·by_cases a:q=n
    ·subst a;rw[QfG];have:=o q d;omega
    ·rw[QiP a];exact o q d
   ·by_cases r:j=n
    ·subst r;rw[QfG];have e:=u (Zr _);have Y:=s.lo j l;rcases C with h | h<;>rw[h]<;>omega
    ·rw[QiP r];exact A
   ·intro I;rw[QiP (by omega)];exact u (by omega)
   ·intro _;exact y g.1
  ·rw[Zb g];exact⟨f,o,A,λh=>u (by omega),y⟩
theorem Qut {m:Nat} {R:Nat->Int} (r:j<m) (h0:T j=0) (t:∀q,q<m->R q<=INF):∀n,n<=m->∀q,q<m->Qc8 j T R n q=if q<n/\R j<INF/\T q<INF then imin (R q) (R j+T q) else R q:=by
 intro n
 induction n with
 | zero=>intro _ q _;rw[Zb (by omega)];rfl
 | succ n l=>
  intro u q s;have o:Qc8 j T R n j=R j:=by
   rw[l (by omega) j r];split
   ·rw[h0,Int.add_zero];unfold imin;split<;>omega
   ·rfl
  have d:Qc8 j T R n n=R n:=by rw[l (by omega) n (by omega),Zb (by omega)]
  rw[Qkt];unfold Qow;rw[o,d];by_cases f:q=n
  ·subst f;by_cases g:R j<INF/\T q<INF
   ·rw[Zc g,QfG,Zc ⟨by omega,g⟩]
   ·rw[Zb g,d,Zb (λh=>g h.2)]
  ·have e:(if q<n+1/\R j<INF/\T q<INF then imin (R q) (R j+T q) else R q)=if q<n/\R j<INF/\T q<INF then imin (R q) (R j+T q) else R q:=by
    have:(q<n+1/\R j<INF/\T q<INF)↔(q<n/\R j<INF/\T q<INF):=by
     constructor
     ·rintro ⟨a,b⟩;exact⟨by omega,b⟩
     ·rintro ⟨a,b⟩;exact⟨by omega,b⟩
    simp only[this]
   rw[e,<-l (by omega) q s];split
   ·rw[QiP f]
   ·rfl
structure Qir (E:List Ed) (m:Nat) (B U:Int) (G:Nat->Nat->Int):Prop where
 row:∀i,i<m->QmV E m B U i (G i)
 diag:∀i,i<m->G i i<=0
def fw (j:Nat) (G:Nat->Nat->Int) (i k:Nat):Int:=if G i j<INF/\G j k<INF then imin (G i k) (G i j+G j k) else G i k
structure PhOk (E:List Ed) (m:Nat) (ph:Nat->(Nat->Nat->Int)->Nat->Nat->Int):Prop where
 ok:∀j B U G,j<m->0<=B->0<=U->Qir E m B U G->Qir E m (8 * B) (2 * U) (ph j G)
 le:∀j B U G,j<m->0<=B->0<=U->Qir E m B U G->∀i k,i<m->k<m->ph j G i k<=G i k
 exact:∀j B U G,j<m->0<=B->0<=U->Qir E m B U G->G j j=0->∀i k,i<m->k<m->ph j G i k=fw j G i k
def phP (m j:Nat) (G:Nat->Nat->Int) (i:Nat):Nat->Int:=Qc8 j (G j) (G i) m
theorem QzH (E:List Ed) (m:Nat):PhOk E m (λj G=>phP m j G):=by
 refine⟨λj B U G a b hU h=>⟨λi hi=>?_,λi hi=>?_⟩,λj B U G a b hU h i k hi d=>?_,λj B U G a b hU h h0 i k hi d=>?_⟩
 ·exact (QmW a (h.row i hi) (h.row j a) b b hU m (Zr _)).1.mono (by omega) (by omega)
 ·have:=(QmW a (h.row i hi) (h.row j a) b b hU m (Zr _)).2.1 i hi;have:=h.diag i hi;show Qc8 j (G j) (G i) m i<=0;omega
 ·exact (QmW a (h.row i hi) (h.row j a) b b hU m (Zr _)).2.1 k d
 ·show Qc8 j (G j) (G i) m k=_;rw[Qut a h0 (h.row i hi).hi m (Zr _) k d];unfold fw;simp only[d,true_and]
def QfS (ph:Nat->(Nat->Nat->Int)->Nat->Nat->Int) (G:Nat->Nat->Int) (n:Nat):Nat->Nat->Int:=(range n).foldl (λH j=>ph j H) G
theorem Qku (ph:Nat->(Nat->Nat->Int)->Nat->Nat->Int) (G:Nat->Nat->Int) (n:Nat):QfS ph G (n+1)=ph n (QfS ph G n):=by unfold QfS;rw[Yp,foldl_append];rfl
def Tri (m p:Nat) (G:Nat->Nat->Int):Prop:=∀i k,i<m->k<m->G i p<INF->G p k<INF->G i k<=G i p+G p k
theorem fw_tri {m p:Nat} {G:Nat->Nat->Int} (f:j<m) (hp:p<m) (hU:2 * U<INF) (d:∀i k,i<m->k<m->G i k<INF->G i k<=U) (h0:G j j=0) (r:∀i k,i<m->k<m->H i k=fw j G i k) (ht:Tri m p G):Tri m p H:=by
 have le:∀i k,i<m->k<m->H i k<=G i k/\(G i j<INF->G j k<INF->H i k<=G i j+G j k)/\(H i k=G i k\/(G i j<INF/\G j k<INF/\H i k=G i j+G j k)):=by
  intro i k hi e;rw[r i k hi e];unfold fw;obtain⟨s,u,w⟩:=Qox (G i k) (G i j+G j k);by_cases g:G i j<INF/\G j k<INF
  ·rw[Zc g];exact⟨s,λ_ _=>u,w.imp id (λh=>⟨g.1,g.2,h⟩)⟩
  ·rw[Zb g];exact⟨Zx _,λa b=>(g ⟨a,b⟩).elim,.inl rfl⟩
 intro i k hi e z A;obtain⟨a1,a2,_⟩:=le i k hi e;rcases (le i p hi hp).2.2 with b | ⟨o,l,C⟩<;>rcases (le p k hp e).2.2 with c | ⟨n,q,D⟩
 ·have:=ht i k hi e (by omega) (by omega);omega
 ·have t:=ht i j hi f (by omega) n;have y:=d i p hi hp (by omega);have u2:=d p j hp f n;have:=a2 (by unfold INF at *;omega) q;omega
 ·have t:=ht j k f e l (by omega);have y:=d j p f hp l;have u2:=d p k hp e (by omega);have:=a2 o (by unfold INF at *;omega);omega
 ·have t:=ht j j f f l n;have:=a2 o q;omega
theorem QFy {m:Nat} {G:Nat->Nat->Int} (b:j<m) (h0:G j j=0) (a:∀i k,i<m->k<m->H i k=fw j G i k):Tri m j H:=by
 intro i k hi d e f;have e1:H i j=G i j:=by
  rw[a i j hi b];unfold fw;split
  ·rw[h0,Int.add_zero];unfold imin;split<;>rfl
  ·rfl
 have e2:H j k=G j k:=by
  rw[a j k b d];unfold fw;split
  ·rw[h0,Int.zero_add];unfold imin;split<;>rfl
  ·rfl
 rw[e1] at e ⊢;rw[e2] at f ⊢;rw[a i k hi d];unfold fw;rw[Zc ⟨e,f⟩];exact (Qox _ _).2.1
structure Fin (E:List Ed) (m:Nat) (G:Nat->Nat->Int):Prop where
 hi:∀i k,i<m->k<m->G i k<=INF
 up:∀i k,i<m->k<m->G i k<INF->G i k<=4294967296
 way:∀i k,i<m->k<m->G i k<INF->Way E i k (G i k)
 diag:∀i,i<m->G i i<=0
 tri:(∀i,i<m->0<=G i i)->∀p,p<m->Tri m p G
 edge:∀e∈E,G e.a e.b<=e.w
theorem Qj4:∀n,n<=11->(0:Int)<=8 ^ n * 2097152/\(8:Int) ^ n * 2097152<=18014398509481984/\(0:Int)<=2 ^ n * 2097152/\(2:Int) ^ n * 2097152<=4294967296:=by decide
theorem Qkv {m:Nat} {ph:Nat->(Nat->Nat->Int)->Nat->Nat->Int} (a:PhOk E m ph) {G:Nat->Nat->Int} (h:Qir E m 2097152 2097152 G) (hm:m<=11):
  ∀n,n<=m->Qir E m (8 ^ n * 2097152) (2 ^ n * 2097152) (QfS ph G n):=by
 intro n
 induction n with
 | zero=>intro _;simpa[QfS] using h
 | succ n b=>
  intro d;have hb:=Qj4 n (by omega);rw[Qku];have:=a.ok n _ _ _ (by omega) hb.1 hb.2.2.1 (b (by omega));have e1:(8:Int) ^ (n+1) * 2097152=8 * (8 ^ n * 2097152):=by rw[Int.pow_succ];omega
  have e2:(2:Int) ^ (n+1) * 2097152=2 * (2 ^ n * 2097152):=by rw[Int.pow_succ];omega
  rw[e1,e2];exact this
theorem QtJ {m:Nat} {ph:Nat->(Nat->Nat->Int)->Nat->Nat->Int} (a:PhOk E m ph) {G:Nat->Nat->Int} (h:Qir E m 2097152 2097152 G) (hm:m<=11) {k:Nat} (hi:i<m) (b:k<m):
  ∀d n,n+d<=m->QfS ph G (n+d) i k<=QfS ph G n i k:=by
 intro d
 induction d with
 | zero=>intro n _;exact Zx _
 | succ d e=>intro n f;have g:=e n (by omega);have hb:=Qj4 (n+d) (by omega);have l:=a.le (n+d) _ _ _ (by omega) hb.1 hb.2.2.1 (Qkv a h hm (n+d) (by omega)) i k hi b;rw[<-YA,Qku];omega
theorem QzI {m:Nat} {ph:Nat->(Nat->Nat->Int)->Nat->Nat->Int} (a:PhOk E m ph) {G:Nat->Nat->Int} (h:Qir E m 2097152 2097152 G) (hm:m<=11) (t:∀e∈E,e.a<m/\e.b<m/\G e.a e.b<=e.w):Fin E m (QfS ph G m):=by
 have g:=Qkv a h hm m (Zr _);have hb:=Qj4 m hm;refine⟨λi k hi b=>(g.row i hi).hi k b,λi k hi b hf=>by have:=(g.row i hi).up k b hf;omega,λi k hi b hf=>(g.row i hi).way k b hf,g.diag,λu=>?_,λe w=>?_⟩
 ·have key:∀n,n<=m->∀p,p<n->Tri m p (QfS ph G n):=by
   intro n
   induction n with
   | zero=>intro _ p hp;omega
   | succ n y=>
    intro z p hp;have d:=Qkv a h hm n (by omega);have f:=Qj4 n (by omega);have h0:QfS ph G n n n=0:=by have r:=d.diag n (by omega);have l:=QtJ a h hm (i:=n) (k:=n) (by omega) (by omega) (m - n) n (by omega);have A:=u n (by omega);rw[show n+(m - n)=m by omega] at l;omega
    have s:∀i k,i<m->k<m->QfS ph G (n+1) i k=fw n (QfS ph G n) i k:=by intro i k hi b;rw[Qku];exact a.exact n _ _ _ (by omega) f.1 f.2.2.1 d h0 i k hi b
    by_cases o:p=n
    ·subst o;exact QFy (by omega) h0 s
    ·exact fw_tri (U:=4294967296) (by omega) (by omega) (by decide) (λi k hi b hf=>by have:=(d.row i hi).up k b hf;omega) h0 s (y (by omega) p (by omega))
  exact key m (Zr _)
 ·obtain⟨r,l,A⟩:=t e w;have:=QtJ a h hm r l m 0 (by omega);rw[Nat.zero_add] at this;have q:QfS ph G 0=G:=rfl;rw[q] at this;omega
theorem way_le {m:Nat} {G:Nat->Nat->Int} (hf:Fin E m G) (g:∀i,i<m->0<=G i i) (l:∀e∈E,e.a<m/\e.b<m/\e.w<=2097152) {k:Nat} {w:Int} (h:Way E i k w):i<m->k<m->G i k<INF/\G i k<=w:=by
 induction h with
 | nil i=>intro hi _;have:=hf.diag i hi;unfold INF;omega
 | @cons e k w b _ n=>
  intro hi a;obtain⟨a1,a2,a3⟩:=l e b;obtain⟨d,o⟩:=n a2 a;have q:=hf.edge e b;have f:G e.a e.b<INF:=by unfold INF;omega
  have r:=hf.tri g e.b a2 e.a k a1 a f d;have s:=hf.up e.a e.b a1 a2 f;have t:=hf.up e.b k a2 a d;refine⟨?_,by omega⟩;unfold INF at *;omega
theorem QwW (n:Nat) (p:Nat->Bool) (h:∃k,k<n/\p k=true):∃k,k<n/\p k=true/\∀j,j<k->p j=false:=by
 induction n with
 | zero=>obtain⟨k,b,_⟩:=h;omega
 | succ n f=>
  by_cases d:∃k,k<n/\p k=true
  ·obtain⟨k,b,hp,hm⟩:=f d;exact⟨k,by omega,hp,hm⟩
  ·obtain⟨k,b,hp⟩:=h;have e:k=n:=by
    rcases Nat.lt_or_ge k n with a | a
    ·exact (d ⟨k,a,hp⟩).elim
    ·omega
   subst e;refine⟨k,b,hp,λj g=>?_⟩;rw[<-Yq];exact λa=>d ⟨j,g,a⟩
def badD (n:Int) (d:QH):Bool:=((((((decide (d.A< -1)||decide (d.A>=n))||decide (d.B< -1))||decide (d.B>=n))||d.A==d.B)||decide (d.N< -2097152))||decide (d.N>2097152))
def Qcx (n:Int) (l:List QH):Int:=if (decide (n>10)||decide ((l.length:Int)>64))=true then 4 else if decide (n<0)=true then 1 else if l.any (badD n)=true then 1 else 0
theorem valid0 {n:Int} {l:List QH} (h:Qcx n l=0):0<=n/\n<=10/\l.length<=64/\∀d∈l,-1<=d.A/\d.A<n/\-1<=d.B/\d.B<n/\d.A≠d.B/\-2097152<=d.N/\d.N<=2097152:=by
 unfold Qcx at h;split at h
 ·cases h
 ·rename_i a;split at h
  ·cases h
  ·rename_i b;split at h
   ·cases h
   ·rename_i e;simp only[ZJ,Zs,not_or] at a b;refine⟨by omega,by omega,by omega,λd f=>?_⟩;have:badD n d=false:=by
     rw[<-Yq];intro hb;exact e (Yl.2 ⟨d,f,hb⟩)
    simp only[badD,Bool.or_eq_false_iff,ZI,beq_eq_false_iff_ne,ne_eq] at this;obtain⟨⟨⟨⟨⟨⟨a1,a2⟩,a3⟩,a4⟩,a5⟩,a6⟩,a7⟩:=this;exact⟨by omega,by omega,by omega,by omega,a5,by omega,by omega⟩
def rowN (m:Nat) (a:Int):Nat:=if a<0 then m - 1 else a.toNat
def edN (m:Nat) (d:QH):Ed:=⟨rowN m d.A,rowN m d.B,d.N⟩
def edS (m:Nat) (d:QH):Qaj:=⟨(rowN m d.A:Int),(rowN m d.B:Int),d.N⟩
theorem QiQ {m:Nat} {a:Int} (b:-1<=a) (d:a<(m:Int) - 1):rowN m a<m:=by unfold rowN;split<;>omega
theorem QvH {m:Nat} {a:Int} (hm:1<=m) (b:m<=11) (d:-1<=a) (e:a<(m:Int) - 1):Int.tmod (i64.wrap (i64.wrap (a+((m:Int) - 1))+1)) (m:Int)=(rowN m a:Int):=by
 rw[w64 (n:=a+((m:Int) - 1)) (by omega) (by omega),w64 (by omega) (by omega)];unfold rowN;split
 ·have:a=-1:=by omega
  subst this;rw[Int.tmod_eq_emod_of_nonneg (by omega),Int.emod_eq_of_lt (by omega) (by omega)];omega
 ·rw[Int.tmod_eq_emod_of_nonneg (by omega)];have:a+((m:Int) - 1)+1=a+m:=by omega
  rw[this,Int.add_emod_right,Int.emod_eq_of_lt (by omega) (by omega)];omega
theorem QnU (n:Int) (d:QH):(((((decide (imin d.A d.B< -1))||(decide (imax d.A d.B>=n)))||(d.A==d.B))||(decide (d.N< -2097152)))||(decide (d.N>2097152)))=badD n d:=by
 have e:(decide (imin d.A d.B< -1)||decide (imax d.A d.B>=n))=((decide (d.A< -1)||decide (d.A>=n))||decide (d.B< -1)||decide (d.B>=n)):=by
  have a:imin d.A d.B< -1↔(d.A< -1\/d.B< -1):=by unfold imin;split<;>omega
  have b:imax d.A d.B>=n↔(d.A>=n\/d.B>=n):=by unfold imax;split<;>omega
  rw[Yx];simp only[ZJ,Zs,a,b];omega
 unfold badD;rw[e]
theorem QB4 (n:Int) (l:List QH):QgZ n l=some (if Qcx n l=0 then (l.map (edS (n+1).toNat),0) else ([],Qcx n l)):=by
 unfold QgZ;by_cases d:(decide (n>10)||decide ((l.length:Int)>64))=true
 ·have e:Qcx n l=4:=by unfold Qcx;rw[Zc d]
  rw[Zc d,e];rfl
 ·rw[Zb d];by_cases b:decide (n<0)=true
  ·have e:Qcx n l=1:=by unfold Qcx;rw[Zb d,Zc b]
   rw[Zc b,e];rfl
  ·rw[Zb b];have hl:l.length<=64:=by simp only[ZJ,Zs,not_or] at d;omega
   have y:0<=n/\n<=10:=by simp only[ZJ,Zs,not_or] at d b;omega
   obtain⟨m,hm⟩:∃m:Nat,n=(m:Int) - 1:=⟨(n+1).toNat,by omega⟩;subst hm;have s:((m:Int) - 1+1).toNat=m:=by omega
   rw[s,Qf6 _ _ (by omega)];simp only[Za];have w:i64.wrap ((m:Int) - 1+1)=(m:Int):=by rw[w64 (by omega) (by omega)];omega
   rw[w];have t:∀k,k<l.length->badD ((m:Int) - 1) (l.getD k default)=false->∀z:List Qaj,z.length=l.length->
     (idx l (k:Int)).bind (λt26=>(if (((((decide (imin t26.A t26.B< -1))||(decide (imax t26.A t26.B>=(m:Int) - 1)))||(t26.A==t26.B))||(decide (t26.N< -2097152)))||(decide (t26.N>2097152)))=true then (some (.inr (.inr ((1:Int),([]:List Qaj)))):Option ((Int×List Qaj)⊕((List Qaj)⊕(Int×List Qaj)))) else (nz (m:Int)).bind λ_=>(nz (m:Int)).bind λ_=>(setAt z (k:Int) (Qaj.mk (Int.tmod (i64.wrap (i64.wrap (t26.A+((m:Int) - 1))+1)) (m:Int)) (Int.tmod (i64.wrap (i64.wrap (t26.B+((m:Int) - 1))+1)) (m:Int)) t26.N)).bind λg=>some (.inl (i64.wrap ((k:Int)+1),g))))=
     some (.inl (((k+1:Nat):Int),z.set k (edS m (l.getD k default)))):=by
    intro k a hb z hz;rw[Zh,Zd a] at hb ⊢;simp only[ZQ] at hb ⊢;rw[QY a];simp only[Za];rw[QnU,hb,Zb (by simp)];simp only[badD,Bool.or_eq_false_iff,ZI,beq_eq_false_iff_ne,ne_eq] at hb;obtain⟨⟨⟨⟨⟨⟨a1,a2⟩,a3⟩,a4⟩,a5⟩,a6⟩,a7⟩:=hb;rw[nz_of (by omega)];simp only[Za];rw[QvH (by omega) (by omega) (by omega) (by omega),QvH (by omega) (by omega) (by omega) (by omega),QdQ (by omega)];simp only[Za];rw[QD (n:=l.length) a (by omega)];rfl
   by_cases hb:l.any (badD ((m:Int) - 1))=true
   ·have e:Qcx ((m:Int) - 1) l=1:=by unfold Qcx;rw[Zb d,Zb b,Zc hb]
    rw[e,Zb (by decide)];obtain⟨u,f,h,o⟩:=QwW l.length (λk=>badD ((m:Int) - 1) (l.getD k default)) (by obtain⟨x,hx,hp⟩:=Yl.1 hb;obtain⟨k,a,rfl⟩:=Ys hx;exact⟨k,a,by rw[Zh,Zd a];exact hp⟩);refine QdA u (λk=>((k:Int),(l.map (edS m)).take k++(replicate l.length (Qaj.mk 0 0 0)).drop k)) (.inr ((1:Int),([]:List Qaj))) (by simp) ?_ ?_ rfl
    ·intro k a;simp only;rw[Zc (by simp;omega),t k (by omega) (o k a) _ (by simp;omega)];have b:edS m (l.getD k default)=(l.map (edS m))[k]'(by simp;omega):=by
      rw[Zh,Zd (by omega)];simp
     rw[b,Qtk _ _ (by simp;omega) (by simp;omega)]
    ·simp only;rw[Zc (by simpa using f),QY f];simp only[Za];rw[Zh,Zd f] at h;rw[QnU,Zc (show badD _ l[u]=true from h)]
   ·have q:l.any (badD ((m:Int) - 1))=false:=by simpa using hb
    have e:Qcx ((m:Int) - 1) l=0:=by unfold Qcx;rw[Zb d,Zb b,Zb hb]
    rw[e,Zc rfl];have r:∀k,k<l.length->badD ((m:Int) - 1) (l.getD k default)=false:=by intro k a;rw[any_eq_false] at q;have:=q _ (Zo a);rw[Zh,Zd a];simpa using this
    refine QdA l.length (λk=>((k:Int),(l.map (edS m)).take k++(replicate l.length (Qaj.mk 0 0 0)).drop k)) (.inl (l.map (edS m))) (by simp) ?_ ?_ rfl
    ·intro k a;simp only;rw[Zc (by simpa using a),t k a (r k a) _ (by simp;omega)];have b:edS m (l.getD k default)=(l.map (edS m))[k]'(by simpa using a):=by
      rw[Zh,Zd a];simp
     rw[b,Qtk _ _ (by simpa using a) (by simpa using a)]
    ·simp only;rw[Zb (by simp)];simp[Zu]
structure QdK (m:Nat) (l:List QH):Prop where
 m1:1<=m
 m11:m<=11
 len:l.length<=64
 ok:∀d∈l,-1<=d.A/\d.A<(m:Int) - 1/\-1<=d.B/\d.B<(m:Int) - 1/\d.A≠d.B/\-2097152<=d.N/\d.N<=2097152
theorem QtK {n:Int} {l:List QH} (h:Qcx n l=0):∃m:Nat,n=(m:Int) - 1/\QdK m l:=by obtain⟨f,g,a,b⟩:=valid0 h;refine⟨(n+1).toNat,by omega,by omega,by omega,a,λd e=>?_⟩;obtain⟨a1,a2,a3,a4,a5,a6,a7⟩:=b d e;exact⟨a1,by omega,a3,by omega,a5,a6,a7⟩
def T0 (i k:Nat):Int:=if i=k then 0 else INF
def edT (G:Nat->Nat->Int) (e:Ed):Nat->Nat->Int:=upd1 G e.a (upd1 (G e.a) e.b (imin (G e.a e.b) e.w))
def edsT (E:List Ed):Nat->Nat->Int:=E.foldl edT T0
def half (m i:Nat):List (List Int):=rowL m λp=>if p<i then rowL m (T0 p) else []
theorem QzJ (m:Nat):half m 0=replicate m []:=by unfold half;rw[<-QB3];exact Qh6 λk _=>by simp
theorem QzK (m:Nat):half m m=tab m T0:=Qh6 λk a=>by rw[Zc a]
theorem QB5 {m:Nat}:rowL m (upd1 (λp=>if p<i then rowL m (T0 p) else []) i (rowL m (T0 i)))=half m (i+1):=by
 unfold half;refine Qh6 λk _=>?_;unfold upd1;by_cases h:k=i
 ·subst h;rw[Zc rfl,Zc (by omega)]
 ·rw[Zb h];dsimp only;by_cases a:k<i
  ·rw[Zc a,Zc (by omega)]
  ·rw[Zb a,Zb (by omega)]
theorem QrG (E:List Ed) (e:Ed):edsT (E++[e])=edT (edsT E) e:=by unfold edsT;rw[foldl_append];rfl
theorem QB6 {m:Nat} {l:List QH} (z:QdK m l):∀t,t<=l.length->Qir (l.map (edN m)) m 2097152 2097152 (edsT ((l.map (edN m)).take t))/\∀e∈(l.map (edN m)).take t,edsT ((l.map (edN m)).take t) e.a e.b<=e.w:=by
 intro t
 induction t with
 | zero=>
  intro _;refine⟨⟨λi hi=>⟨λq b=>?_,λq b=>?_,λq b hf=>?_,λq b hf=>?_⟩,λi hi=>?_⟩,λe r=>by simp at r⟩
  ·show -2097152<=T0 i q;unfold T0;split<;>decide
  ·show T0 i q<=INF;unfold T0;split<;>decide
  ·have a:T0 i q<INF:=hf;show T0 i q<=2097152;unfold T0 at a ⊢;split
   ·decide
   ·rename_i h;rw[Zb h] at a;exact absurd a (Int.lt_irrefl _)
  ·have a:T0 i q<INF:=hf;show Way _ i q (T0 i q);unfold T0 at a ⊢;split
   ·rename_i h;subst h;exact .nil _
   ·rename_i h;rw[Zb h] at a;exact absurd a (Int.lt_irrefl _)
  ·show T0 i i<=0;unfold T0;rw[Zc rfl];exact Zx _
 | succ t F=>
  intro ht;obtain⟨n,A⟩:=F (by omega);have o:t<(l.map (edN m)).length:=by simp;omega
  obtain⟨e,r⟩:∃e,(l.map (edN m))[t]=e:=⟨_,rfl⟩;have g:e∈l.map (edN m):=by rw[<-r];exact Zo o
  rw[Zw o,r,QrG];generalize edsT ((l.map (edN m)).take t)=G at n A;obtain⟨d,I,f⟩:=ZP.1 g;obtain⟨a1,a2,a3,a4,a5,a6,a7⟩:=z.ok d I;have K:e.a<m:=by rw[<-f];exact QiQ a1 a2
  have u:e.b<m:=by rw[<-f];exact QiQ a3 a4
  have N:-2097152<=e.w/\e.w<=2097152:=by rw[<-f];exact⟨a6,a7⟩
  have w:e.a≠e.b:=by have L:=z.m1;rw[<-f];show rowN m d.A≠rowN m d.B;unfold rowN;split<;>split<;>omega
  obtain⟨L,M,C⟩:=Qox (G e.a e.b) e.w;have val:∀i k,edT G e i k=if i=e.a/\k=e.b then imin (G e.a e.b) e.w else G i k:=by
   intro i k;unfold edT upd1;by_cases hi:i=e.a
   ·subst hi;rw[Zc rfl];by_cases s:k=e.b
    ·rw[Zc s,Zc ⟨rfl,s⟩]
    ·rw[Zb s,Zb (λh=>s h.2)]
   ·rw[Zb hi,Zb (λh=>hi h.1)]
  have ok:=n.row e.a K;have O:INF=1099511627776:=rfl;refine⟨⟨λi hi=>⟨λq b=>?_,λq b=>?_,λq b hf=>?_,λq b hf=>?_⟩,λi hi=>?_⟩,λe' y=>?_⟩
  ·rw[val];split
   ·have:=ok.lo e.b u;rcases C with h | h<;>rw[h]<;>omega
   ·exact (n.row i hi).lo q b
  ·rw[val];split
   ·have:=ok.hi e.b u;omega
   ·exact (n.row i hi).hi q b
  ·rw[val] at hf ⊢;split
   ·omega
   ·rename_i h;rw[Zb h] at hf;exact (n.row i hi).up q b hf
  ·rw[val] at hf ⊢;split
   ·rename_i h;rw[Zc h] at hf;obtain⟨rfl,rfl⟩:=h;rcases C with h | h
    ·rw[h] at hf ⊢;exact ok.way _ u hf
    ·rw[h];exact .one g
   ·rename_i h;rw[Zb h] at hf;exact (n.row i hi).way q b hf
  ·rw[val,Zb (λh=>w (h.1.symm.trans h.2))];exact n.diag i hi
  ·rw[val];rcases ZB.1 y with h | h
   ·have:=A e' h;split
    ·rename_i D;rw[D.1,D.2] at this;omega
    ·exact this
   ·obtain rfl:=Zg.1 h;rw[Zc ⟨rfl,rfl⟩];exact M
theorem QtL {m:Nat} {l:List QH} (a:QdK m l):Qir (l.map (edN m)) m 2097152 2097152 (edsT (l.map (edN m)))/\∀e∈l.map (edN m),e.a<m/\e.b<m/\edsT (l.map (edN m)) e.a e.b<=e.w:=by
 have h:=QB6 a l.length (Zr _);rw[Zu (by simp)] at h;refine⟨h.1,λe b=>⟨?_,?_,h.2 e b⟩⟩
 ·obtain⟨d,f,rfl⟩:=ZP.1 b;obtain⟨a1,a2,_⟩:=a.ok d f;exact QiQ a1 a2
 ·obtain⟨d,f,rfl⟩:=ZP.1 b;obtain⟨_,_,a3,a4,_⟩:=a.ok d f;exact QiQ a3 a4
theorem eds_w {m:Nat} {l:List QH} (a:QdK m l):∀e∈l.map (edN m),e.a<m/\e.b<m/\e.w<=2097152:=by intro e b;obtain⟨d,f,rfl⟩:=ZP.1 b;obtain⟨a1,a2,a3,a4,_,_,a7⟩:=a.ok d f;exact⟨QiQ a1 a2,QiQ a3 a4,a7⟩
def tP (m:Nat) (l:List QH):Nat->Nat->Int:=QfS (λj G=>phP m j G) (edsT (l.map (edN m))) m
theorem QnV {m:Nat} {l:List QH} (a:QdK m l):Fin (l.map (edN m)) m (tP m l):=QzI (QzH _ m) (QtL a).1 a.m11 (QtL a).2
theorem m_wrap {m:Nat} (hm:m<=11):i64.wrap ((m:Int) - 1+1)=(m:Int):=by rw[w64 (by omega) (by omega)];omega
theorem QzL {m:Nat} (a:1<=m) (b:m<=11):Qb6 [(1099511627776:Int)] (m:Int)=some (rowL m λ_=>INF):=by
 have key:∀m:Nat,m<12->1<=m->Qdk 20 [(1099511627776:Int)] (m:Int)=some (rowL m λ_=>INF):=by decide+kernel
 exact LeC.le (x:=Qdk 20 [(1099511627776:Int)] (m:Int)) _ (key m (by omega) a)
theorem QwX {R:Nat->Int} (h:¬R j<INF):∀n,Qc8 j T R n=R:=by
 intro n
 induction n with
 | zero=>rfl
 | succ n a=>rw[Qkt,a];unfold Qow;rw[Zb (λb=>h b.1)]
theorem QFz {m:Nat} (R:Nat->Int) (z:List Int) (h:z.length=m):cpy z (rowL m R)=rowL m R:=by unfold cpy;rw[Zu (by rw[QhR];omega),drop_of_length_le (by rw[QhR];omega),Yc]
def part (ph:Nat->Nat->Int) (G:Nat->Nat->Int) (i:Nat):Nat->Nat->Int:=λp=>if p<i then ph p else G p
theorem QnW {G:Nat->Nat->Int}:part ph G i i=G i:=Zb (Nat.lt_irrefl _)
theorem Qoy {G:Nat->Nat->Int} {p:Nat} (h:p<i):part ph G i p=ph p:=Zc h
theorem QvI {G:Nat->Nat->Int} {p:Nat} (h:i<=p):part ph G i p=G p:=Zb (by omega)
theorem QrH {m:Nat} {G:Nat->Nat->Int} {R:Nat->Int} (h:∀k,k<m->R k=ph i k):tab m (upd1 (part ph G i) i R)=tab m (part ph G (i+1)):=by
 refine QrF λp k _ a=>?_;unfold upd1;by_cases hp:p=i
 ·subst hp;rw[Zc rfl,Qoy (by omega)];exact h k a
 ·rw[Zb hp];by_cases b:p<i
  ·rw[Qoy b,Qoy (by omega)]
  ·rw[QvI (by omega),QvI (by omega)]
theorem QzM {m:Nat} {G:Nat->Nat->Int}:tab m (part ph G m)=tab m ph:=QrF λp k hp _=>by rw[Qoy hp]
def negB (m:Nat) (G:Nat->Nat->Int):Bool:=(range m).any λi=>decide (G i i<0)
theorem Qjk {m:Nat} {G:Nat->Nat->Int}:negB m G=false↔∀i,i<m->0<=G i i:=by
 unfold negB;rw[any_eq_false];constructor
 ·intro h i hi;have:=h i (by simpa using hi);simpa using this
 ·intro h i hi;have:=h i (by simpa using hi);simpa using this
theorem QzN {m:Nat} {G:Nat->Nat->Int} (hi:i<m) (h:decide (G i i<0)=true):negB m G=true:=Yl.2 ⟨i,by simpa using hi,h⟩
theorem wsum {x y:Int} (a:-4611686018427387904<=x/\x<=4611686018427387903) (b:-4611686018427387904<=y/\y<=4611686018427387903):i64.wrap (x+y)=x+y:=w64 (by omega) (by omega)
theorem QzO {m:Nat} {l:List QH} (s:QdK m l):Qf5 ((m:Int) - 1) (l.map (edS m))=some (if negB m (tP m l)=true then ([],false) else (tab m (tP m l),true)):=by
 have N:=s.m1;have q:=s.m11;unfold Qf5;rw[m_wrap q,Qf6 _ _ (by omega),QzL N q];simp only[Za];refine QdA m (λi=>((i:Int),half m i)) (half m m) (by rw[QzJ];rfl) ?_ ?_ ?_
 ·intro i hi;simp only;rw[Zc (by simpa using hi)];have e1:setAt (half m i) (i:Int) (rowL m λ_=>INF)=some (rowL m (upd1 (λp=>if p<i then rowL m (T0 p) else []) i (rowL m λ_=>INF))):=by unfold half;exact QjF hi _
  rw[e1];simp only[Za];rw[QgG hi,QfG];simp only[Za];rw[QjF hi];simp only[Za];rw[QjF hi,QrD];simp only[Za];have e2:rowL m (upd1 (λ_=>INF) i 0)=rowL m (T0 i):=Qh6 λk _=>by
   unfold upd1 T0;by_cases h:k=i
   ·rw[Zc h,Zc h.symm]
   ·rw[Zb h,Zb (λy=>h y.symm)]
  rw[e2,QB5,QD (n:=m) hi (by omega)]
 ·simp only;rw[Zb (by simp)]
 ·rw[QzK];refine QdA l.length (λt=>((t:Int),tab m (edsT ((l.map (edN m)).take t)))) (tab m (edsT (l.map (edN m)))) rfl ?_ ?_ ?_
  ·intro t ht;have A:t<(l.map (edN m)).length:=by simpa using ht
   have C:t<(l.map (edS m)).length:=by simpa using ht
   simp only;rw[Zc (by simpa using ht),QY C];simp only[Za,getElem_map];obtain⟨a1,a2,a3,a4,_⟩:=s.ok _ (Zo ht);have K:=QiQ a1 a2;have L:=QiQ a3 a4;rw[show (edS m l[t]).a=((rowN m l[t].A:Nat):Int) from rfl,show (edS m l[t]).b=((rowN m l[t].B:Nat):Int) from rfl,QkI K];simp only[Za];rw[QgG L];simp only[Za];rw[QjF L];simp only[Za];rw[QvG K];simp only[Za];rw[QD (n:=l.length) ht (by have:=s.len;omega),Zw A,QrG];simp only[getElem_map];rfl
  ·simp only;rw[Zb (by simp),Zu (by simp)]
  ·have O:=λn Q=>Qkv (QzH (l.map (edN m)) m) (QtL s).1 q n Q;refine QdA m (λj=>((j:Int),tab m (QfS (λj G=>phP m j G) (edsT (l.map (edN m))) j))) (tab m (tP m l)) rfl ?_ ?_ ?_
   ·intro j g;have o:=O j (by omega);have hb:=Qj4 j (by omega);rw[Qku];generalize QfS (λj G=>phP m j G) (edsT (l.map (edN m))) j=G at o ⊢;simp only;rw[Zc (by rw[Qfn];simpa using g),Qf6 _ _ (by omega),QkI g];simp only[Za];rw[QFz (G j) _ (by simp)];refine QdA m (λi=>((i:Int),tab m (part (phP m j G) G i))) (tab m (phP m j G)) rfl ?_ ?_ ?_
    ·intro i hi;simp only;rw[Zc (by rw[Qfn];simpa using hi),QkI hi,QnW];simp only[Za];rw[QgG g];simp only[Za];by_cases D:G i j<INF
     ·rw[Zb (by simpa using D)];have key:((Qr (λ(a:Int×List (List Int))=>((if (decide (a.1<((rowL m (G j)).length:Int)))=true then (idx (rowL m (G j)) a.1).bind λt97=>((if (decide (t97<(1099511627776:Int)))=true then (idx a.2 (i:Int)).bind λb=>(idx b a.1).bind λt108=>(idx b (j:Int)).bind λt112=>(setAt b a.1 (imin t108 (i64.wrap (t112+t97)))).bind λd=>(setAt a.2 (i:Int) d).bind λf=>(some f) else (some a.2))).bind λ(u:List (List Int))=>(some (.inl ((i64.wrap (a.1+(1:Int))),u))) else (some (.inr a.2))):Option ((Int×List (List Int))⊕((List (List Int)))))) ((0:Int),tab m (part (phP m j G) G i))).bind λ(w:(List (List Int)))=>(some w))=some (tab m (part (phP m j G) G (i+1))):=by
       refine QdA m (λk=>((k:Int),tab m (upd1 (part (phP m j G) G i) i (Qc8 j (G j) (G i) k)))) (tab m (part (phP m j G) G (i+1))) ?_ ?_ ?_ rfl
       ·have:upd1 (part (phP m j G) G i) i (Qc8 j (G j) (G i) 0)=part (phP m j G) G i:=by
         have e:Qc8 j (G j) (G i) 0=part (phP m j G) G i i:=by rw[QnW];rfl
         rw[e,QrE]
        simp only[this];rfl
       ·intro k r;obtain⟨S,M,V,Y,X⟩:=QmW g (o.row i hi) (o.row j g) hb.1 hb.1 hb.2.2.1 k (by omega);simp only;rw[Zc (by rw[QhR];simpa using r),QgG r];simp only[Za];have e1:(if decide (G j k<1099511627776)=true then (idx (tab m (upd1 (part (phP m j G) G i) i (Qc8 j (G j) (G i) k))) (i:Int)).bind λb=>(idx b (k:Int)).bind λt108=>(idx b (j:Int)).bind λt112=>(setAt b (k:Int) (imin t108 (i64.wrap (t112+G j k)))).bind λd=>(setAt (tab m (upd1 (part (phP m j G) G i) i (Qc8 j (G j) (G i) k))) (i:Int) d).bind λf=>some f else some (tab m (upd1 (part (phP m j G) G i) i (Qc8 j (G j) (G i) k))))=some (tab m (upd1 (part (phP m j G) G i) i (Qc8 j (G j) (G i) (k+1)))):=by
         rw[Qkt];generalize Z:Qc8 j (G j) (G i) k=P at S M V X;have F:P j<INF:=by have:=M j g;omega
         unfold Qow;by_cases h:G j k<INF
         ·rw[Zc (by simpa using h),Zc ⟨F,h⟩,QkI hi,QfG];simp only[Za];rw[QgG r,QgG g];simp only[Za];have l3:=(o.row j g).lo k r;have u0:INF=1099511627776:=rfl;rw[wsum ⟨by omega,by omega⟩ ⟨by omega,by omega⟩,QjF r];simp only[Za];rw[QvG hi,QrD];rfl
         ·rw[Zb (by simpa using h),Zb (λy=>h y.2)]
        rw[e1];simp only[Za];rw[QD (n:=m) r (by omega)]
       ·simp only;rw[Zb (by rw[QhR];simp)];congr 2;exact QrH λk _=>rfl
      refine Eq.trans (Ya (λz=>Option.bind z _) key) ?_;simp only[Za];rw[QD (n:=m) hi (by omega)]
     ·rw[Zc (by simpa using D)];simp only[Za];rw[QD (n:=m) hi (by omega)];have e:tab m (part (phP m j G) G (i+1))=tab m (part (phP m j G) G i):=by
       rw[<-QrH (R:=G i) (λk _=>by show G i k=Qc8 j (G j) (G i) m k;rw[QwX D])];have:upd1 (part (phP m j G) G i) i (G i)=part (phP m j G) G i:=by
        have e:G i=part (phP m j G) G i i:=QnW.symm
        conv=>lhs;rw[e]
        exact QrE
       rw[this]
      rw[e]
    ·simp only;rw[Zb (by rw[Qfn];simp),QzM]
    ·rw[QD (n:=m) g (by omega)]
   ·simp only;rw[Zb (by rw[Qfn];simp)];rfl
   ·refine QnJ m (λi=>decide (tP m l i i<0)) (.inl ()) (λ_=>.inr (false,[])) ?_ ?_ ?_ ?_ ?_
    ·intro i hi hp;rw[Zc (by rw[Qfn];simpa using hi),QkI hi];simp only[Za];rw[QgG hi];simp only[Za];rw[hp,Zb (by simp),QD (n:=m) hi (by omega)]
    ·intro i hi hp;rw[Zc (by rw[Qfn];simpa using hi),QkI hi];simp only[Za];rw[QgG hi];simp only[Za];rw[hp,Zc rfl]
    ·rw[Zb (by rw[Qfn];simp)]
    ·intro I;have:negB m (tP m l)=false:=Qjk.2 λi hi=>by simpa using I i hi
     simp only[this];rfl
    ·intro i hi hp;rw[QzN hi hp];rfl
def Qgg (n:Int) (l:List QH):List (List Int)×Int:=if Qcx n l≠0 then ([],Qcx n l) else if negB (n+1).toNat (tP (n+1).toNat l)=true then ([],14) else (tab (n+1).toNat (tP (n+1).toNat l),0)
theorem Qpg (n:Int) (l:List QH):QdI n l=some (Qgg n l):=by
 unfold QdI Qgg;rw[QB4];simp only[Za];by_cases h:Qcx n l=0
 ·obtain⟨m,rfl,b⟩:=QtK h;have a:((m:Int) - 1+1).toNat=m:=by omega
  rw[h,Zc rfl,Zb (by simp),Zb (λh=>h rfl),a,QzO b];simp only[Za];cases negB m (tP m l)<;>rfl
 ·rw[Zb h,Zc (by simpa using h),Zc h]

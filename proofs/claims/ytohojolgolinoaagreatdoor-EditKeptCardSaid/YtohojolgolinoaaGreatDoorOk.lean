/- A calculus for partial functions. No condition. -/
import Derived.Test.YtohojolgolinoaaGreatDoorPlain
set_option linter.all false
open List
namespace Go.Sim
def Ok {α:Type} (x:Option α) (Q:α->Prop):Prop:=∃r,x=some r/\Q r
section
variable {α β σ ρ:Type} {Q:β->Prop} {P:α->Prop}
def Ok.mk {r:β} (h:Q r):Ok (some r) Q:=⟨r,rfl,h⟩
def Ok.bind {x:Option α} {f:α->Option β} (h:Ok x P) (k:∀r,P r->Ok (f r) Q):Ok (x.bind f) Q:=by obtain⟨r,rfl,a⟩:=h;exact k r a
def Ok.Xo {x:Option β} {R:β->Prop} (h:Ok x R) (k:∀r,R r->Q r):Ok x Q:=by obtain⟨r,rfl,a⟩:=h;exact⟨r,rfl,k r a⟩
def Ok.ite {c:Bool} {x y:Option β} (h:c=true->Ok x Q) (k:c=false->Ok y Q):Ok (if c then x else y) Q:=by
 cases c with
 | true=>exact h rfl
 | false=>exact k rfl
def Ok.opt {c:Bool} {x:Option α} {d:α} {f:α->Option β} (h:c=true->Ok x P) (k:∀r,(c=true->P r)->Ok (f r) Q):Ok ((Sim.opt c x d).bind f) Q:=by
 cases c with
 | true=>exact (h rfl).bind λr a=>k r λ_=>a
 | false=>exact k d λh=>by cases h
def Ok.rm {n:Nat} {f:Unit->Option β} (h:n<=68719476736) (k:Ok (f ()) Q):Ok ((Sim.rm n).bind f) Q:=by rw[CK h];exact k
def Ok.cat {n:Nat} {f:Unit->Option β} (h:n<=9223372036854775807) (k:Ok (f ()) Q):Ok ((Sim.cat n).bind f) Q:=by unfold Sim.cat;rw[Zc h];exact k
def Ok.idx {l:List α} {i:Int} {f:α->Option β} (h0:0<=i) (b:i<l.length) (k:∀v,v∈l->l[i.toNat]?=some v->Ok (f v) Q):Ok ((Sim.idx l i).bind f) Q:=by
 have a:i.toNat<l.length:=by omega
 rw[Ca l h0,Zd a];exact k _ (Zr a) (Zd a)
def Ok.setAt {l:List α} {i:Int} {x:α} {f:List α->Option β} (h0:0<=i) (a:i<l.length) (k:Ok (f (l.set i.toNat x)) Q):Ok ((Sim.setAt l i x).bind f) Q:=by unfold Sim.setAt;rw[Zc ⟨h0,a⟩];exact k
def Ok.sub {l:List α} {a b:Int} {f:List α->Option β} (h0:0<=a) (c:a<=b) (d:b<=l.length) (k:∀r:List α,r.length=(b - a).toNat->(∀x∈r,x∈l)->Ok (f r) Q):Ok ((Sim.sub l a b).bind f) Q:=by unfold Sim.sub;rw[Zc ⟨h0,c,d⟩];exact k _ so λx hx=>mem_of_mem_drop (mem_of_mem_take hx)
def Ok.mk' {n:Int} {z:α} {f:List α->Option β} (h0:0<=n) (a:n<=68719476736) (k:Ok (f (replicate n.toNat z)) Q):Ok ((Sim.mk n z).bind f) Q:=by unfold Sim.mk;rw[Zc ⟨h0,a⟩];exact k
def Ok.loop {body:σ->Option (σ⊕β)} {s:σ} (Inv:Nat->σ->Prop) (n:Nat) (h0:Inv n s) (d:∀k s,Inv k s->Ok (body s) (λo=>match o with | .inl b=>∃a,a<k/\Inv a b | .inr r=>Q r)):Ok (Qr body s) Q:=by
 induction n using Nat.strongRecOn generalizing s with
 | _ n e=>
  have⟨o,f,c⟩:=d n s h0;rw[Ok,Dz,f]
  cases o with
  | inl b=>have⟨a,g,hi⟩:=c;exact e a g hi
  | inr r=>exact⟨r,rfl,c⟩
end
def E8 {α ρ:Type} (l:List α) (p:α->Bool) (a:ρ) {body:Int->Option (Int⊕(Unit⊕ρ))}
  (hb:∀k (h:k<l.length),body (k:Int)=if p l[k]=true then some (.inl ((k+1:Nat):Int)) else some (.inr (.inr a))) (d:body (l.length:Int)=some (.inr (.inl ()))):
  Qr body (0:Int)=some (if l.all p=true then .inl () else .inr a):=by
 have key:Ok (Qr body (0:Int)) (λr=>r=if l.all p=true then .inl () else .inr a):=by
  refine Ok.loop (λm s=>0<=s/\s+m=l.length/\(l.take s.toNat).all p=true) l.length ⟨Zx _,om,sm⟩ λm s e=>?_;have⟨f,i,b⟩:=e;obtain⟨k,rfl⟩:=ZB f;rw[Zu] at b;by_cases c:k<l.length
  ·rw[hb k c];by_cases hp:p l[k]=true
   ·rw[Zc hp];refine Ok.mk ⟨m - 1,om,om,om,?_⟩;rw[Zu,Zz c,all_append,b];simp[hp]
   ·rw[Zb hp];apply Ok.mk;dsimp only;rw[Zb];intro ha;exact hp (ZD.1 ha _ (Zr c))
  ·have:k=l.length:=by omega
   subst this;rw[d];rw[Zw (Zq _)] at b;exact Ok.mk (by dsimp only;rw[Zc b])
 obtain⟨r,g,rfl⟩:=key;exact g

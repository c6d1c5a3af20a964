/- A calculus for partial functions. No condition. -/
import Derived.Test.YtjioihpegfgbpaaGreatDoorPlain
import Derived.Test.YtjioihpegfgbpaaGreatDoorSimP
set_option linter.all false
open List
namespace Go.Sim
def Ok {α:Type} (x:Option α) (Q:α->Prop):Prop:=∃r,x=some r/\Q r
section
variable {α β σ ρ:Type} {Q:β->Prop} {P:α->Prop}
def Ok.mk {r:β} (h:Q r):Ok (some r) Q:=⟨r,rfl,h⟩
def Ok.bind {x:Option α} {f:α->Option β} (h:Ok x P) (k:∀r,P r->Ok (f r) Q):Ok (x.bind f) Q:=by obtain⟨r,rfl,hr⟩:=h;exact k r hr
def Ok.Xn {x:Option β} {R:β->Prop} (h:Ok x R) (k:∀r,R r->Q r):Ok x Q:=by obtain⟨r,rfl,hr⟩:=h;exact⟨r,rfl,k r hr⟩
def Ok.ite {c:Bool} {x y:Option β} (h:c=true->Ok x Q) (k:c=false->Ok y Q):Ok (if c=true then x else y) Q:=by
 cases c with
 | true=>exact h rfl
 | false=>exact k rfl
def Ok.opt {c:Bool} {x:Option α} {d:α} {f:α->Option β} (h:c=true->Ok x P) (k:∀r,(c=true->P r)->Ok (f r) Q):Ok ((Sim.opt c x d).bind f) Q:=by
 cases c with
 | true=>exact (h rfl).bind λr hr=>k r λ_=>hr
 | false=>exact k d λh=>by cases h
def Ok.rm {n:Nat} {f:Unit->Option β} (h:n<=68719476736) (k:Ok (f ()) Q):Ok ((Sim.rm n).bind f) Q:=by rw[Qcx h];exact k
def Ok.cat {n:Nat} {f:Unit->Option β} (h:n<=9223372036854775807) (k:Ok (f ()) Q):Ok ((Sim.cat n).bind f) Q:=by unfold Sim.cat;rw[Ze h];exact k
def Ok.idx {l:List α} {i:Int} {f:α->Option β} (h0:0<=i) (h1:i<l.length) (k:∀v,v∈l->l[i.toNat]?=some v->Ok (f v) Q):Ok ((Sim.idx l i).bind f) Q:=by
 have hlt:i.toNat<l.length:=by omega
 rw[QfR l h0,Zf hlt];exact k _ (Zn hlt) (Zf hlt)
def Ok.setAt {l:List α} {i:Int} {x:α} {f:List α->Option β} (h0:0<=i) (h1:i<l.length) (k:Ok (f (l.set i.toNat x)) Q):Ok ((Sim.setAt l i x).bind f) Q:=by unfold Sim.setAt;rw[Ze ⟨h0,h1⟩];exact k
def Ok.sub {l:List α} {a b:Int} {f:List α->Option β} (h0:0<=a) (h1:a<=b) (h2:b<=l.length) (k:∀r:List α,r.length=(b - a).toNat->(∀x∈r,x∈l)->Ok (f r) Q):Ok ((Sim.sub l a b).bind f) Q:=by unfold Sim.sub;rw[Ze ⟨h0,h1,h2⟩];exact k _ (by simp;omega) λx hx=>mem_of_mem_drop (mem_of_mem_take hx)
def Ok.mk' {n:Int} {z:α} {f:List α->Option β} (h0:0<=n) (h1:n<=68719476736) (k:Ok (f (replicate n.toNat z)) Q):Ok ((Sim.mk n z).bind f) Q:=by unfold Sim.mk;rw[Ze ⟨h0,h1⟩];exact k
def Ok.loop {body:σ->Option (σ⊕β)} {s:σ} (Inv:Nat->σ->Prop) (n:Nat) (h0:Inv n s) (hs:∀k s,Inv k s->Ok (body s) (λo=>match o with | .inl s'=>∃k',k'<k/\Inv k' s' | .inr r=>Q r)):Ok (Qz body s) Q:=by
 induction n using Nat.strongRecOn generalizing s with
 | _ n ih=>
  obtain⟨o,ho,hq⟩:=hs n s h0;rw[Ok,Qbc,ho]
  cases o with
  | inl s'=>obtain⟨k',hk,hi⟩:=hq;exact ih k' hk hi
  | inr r=>exact⟨r,rfl,hq⟩
end
def QcV {α ρ:Type} (l:List α) (p:α->Bool) (bad:ρ) {body:Int->Option (Int⊕(Unit⊕ρ))}
  (hb:∀k (h:k<l.length),body (k:Int)=if p l[k]=true then some (.inl ((k+1:Nat):Int)) else some (.inr (.inr bad))) (he:body (l.length:Int)=some (.inr (.inl ()))):
  Qz body (0:Int)=some (if l.all p=true then .inl () else .inr bad):=by
 have key:Ok (Qz body (0:Int)) (λr=>r=if l.all p=true then .inl () else .inr bad):=by
  refine Ok.loop (λm s=>0<=s/\s+m=l.length/\(l.take s.toNat).all p=true) l.length ⟨ZF _,by omega,by simp⟩ λm s hs=>?_;obtain⟨h1,h2,h3⟩:=hs;obtain⟨k,rfl⟩:=ZK h1;rw[Zt] at h3;by_cases hk:k<l.length
  ·rw[hb k hk];by_cases hp:p l[k]=true
   ·rw[Ze hp];refine Ok.mk ⟨m - 1,by omega,by omega,by omega,?_⟩;rw[Zt,Zx hk,all_append,h3];simp[hp]
   ·rw[Zb hp];refine Ok.mk ?_;dsimp only;rw[Zb];intro ha;exact hp (Zs.1 ha _ (Zn hk))
  ·have:k=l.length:=by omega
   subst this;rw[he];rw[ZI (Zp _)] at h3;exact Ok.mk (by dsimp only;rw[Ze h3])
 obtain⟨r,hr,rfl⟩:=key;exact hr
def Qru {α β:Type} (l:List α) (g:α->β) {body:Int×List β->Option ((Int×List β)⊕List β)}
  (hs:∀k (h:k<l.length) (acc:List β),acc.length=k->body ((k:Int),acc)=some (.inl (((k+1:Nat):Int),acc++[g l[k]]))) (he:∀acc,body ((l.length:Int),acc)=some (.inr acc)):
  Qz body ((0:Int),[])=some (l.map g):=by
 have h:=QgD (body:=body) l.length (λn=>((n:Int),(l.take n).map g)) (l.map g) (λk hk=>?_) ?_
 ·simpa using h
 ·rw[hs k hk _ (by rw[ZY,ZE];omega),Qql g l hk]
 ·rw[he];simp

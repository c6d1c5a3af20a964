/- Plain lemmas on the partial functions that the generator writes. No condition. -/
import Derived.Test.YtjioihpegfgbpaaGreatDoorSimG
set_option linter.all false
open List Go.IntKind
namespace Go.Sim
def I64 (n:Int):Prop:=-9223372036854775808<=n/\n<=9223372036854775807
def w64 {n:Int} (h:-9223372036854775808<=n) (h':n<=9223372036854775807):i64.wrap n=n:=by rw[IntKind.wrap_i64];omega
def Qir (n:Int):I64 (i64.wrap n):=by rw[IntKind.wrap_i64];unfold I64;omega
def QT {k n:Nat} (h:k<n) (hn:n<=9223372036854775807):i64.wrap ((k:Int)+1)=((k+1:Nat):Int):=by rw[w64 (by omega) (by omega)];rfl
def QgD {σ ρ:Type} {body:σ->Option (σ⊕ρ)} (n:Nat) (f:Nat->σ) (r:ρ) (hs:∀k,k<n->body (f k)=some (.inl (f (k+1)))) (he:body (f n)=some (.inr r)):Qz body (f 0)=some r:=by
 have key:∀m k,k+m=n->Qz body (f k)=some r:=by
  intro m
  induction m with
  | zero=>intro k hk;rw[Qbc,show k=n by omega,he]
  | succ m ih=>intro k hk;rw[Qbc,hs k (by omega)];exact ih (k+1) (by omega)
 exact key n 0 (by omega)
def QmZ {ρ:Type} {body:Int->Option (Int⊕ρ)} (n:Nat) (p:Nat->Bool) (r1:ρ) (r2:Nat->ρ) (h1:∀k,k<n->p k=false->body (k:Int)=some (.inl ((k+1:Nat):Int)))
  (h2:∀k,k<n->p k=true->body (k:Int)=some (.inr (r2 k))) (h3:body (n:Int)=some (.inr r1)):
  ((∃k,k<n/\p k=true/\(∀j,j<k->p j=false)/\Qz body (0:Int)=some (r2 k))\/((∀k,k<n->p k=false)/\Qz body (0:Int)=some r1)):=by
 have key:∀m k,k+m=n->(∀j,j<k->p j=false)->((∃i,i<n/\p i=true/\(∀j,j<i->p j=false)/\Qz body (k:Int)=some (r2 i))\/((∀k,k<n->p k=false)/\Qz body (k:Int)=some r1)):=by
  intro m
  induction m with
  | zero=>
   intro k hk hp;have:k=n:=by omega
   subst this;exact .inr ⟨hp,by rw[Qbc,h3]⟩
  | succ m ih=>
   intro k hk hp
   cases hpk:p k with
   | true=>exact .inl ⟨k,by omega,hpk,hp,by rw[Qbc,h2 k (by omega) hpk]⟩
   | false=>
    rw[Qbc,h1 k (by omega) hpk];exact ih (k+1) (by omega) (λj hj=>by
     rcases Nat.lt_succ_iff_lt_or_eq.1 hj with h | h
     ·exact hp j h
     ·rw[h];exact hpk)
 exact key n 0 (by omega) (λj hj=>by omega)
def QuT {ρ β:Type} {body:Int->Option (Int⊕ρ)} {g:ρ->Option β} {out:Option β} (n:Nat) (p:Nat->Bool) (r1:ρ) (r2:Nat->ρ) (h1:∀k,k<n->p k=false->body (k:Int)=some (.inl ((k+1:Nat):Int)))
  (h2:∀k,k<n->p k=true->body (k:Int)=some (.inr (r2 k))) (h3:body (n:Int)=some (.inr r1))
  (e1:(∀k,k<n->p k=false)->g r1=out) (e2:∀k,k<n->p k=true->g (r2 k)=out):(Qz body (0:Int)).bind g=out:=by
 rcases QmZ n p r1 r2 h1 h2 h3 with⟨k,hk,hp,_,he⟩ | ⟨hp,he⟩
 ·rw[he];exact e2 k hk hp
 ·rw[he];exact e1 hp
def Qkl {σ ρ β:Type} {body:σ->Option (σ⊕ρ)} {g:ρ->Option β} {out:Option β} {s0:σ} (n:Nat) (f:Nat->σ) (r:ρ) (h0:f 0=s0) (hs:∀k,k<n->body (f k)=some (.inl (f (k+1)))) (he:body (f n)=some (.inr r)) (e:g r=out):
  (Qz body s0).bind g=out:=by
 rw[<-h0,QgD n f r hs he];exact e
def Qj2 {α:Type} (xs:List α) (k:Nat):idx xs (k:Int)=xs[k]?:=by simp[idx]
def QfR {α:Type} (xs:List α) {i:Int} (h:0<=i):idx xs i=xs[i.toNat]?:=by simp[idx,h]
def Qaa {α:Type} {xs:List α} {k:Nat} (h:k<xs.length):idx xs (k:Int)=some xs[k]:=by rw[Qj2,Zf h]
def Qww {α:Type} {xs:List α} {k:Nat} (h:k<xs.length) (v:α):setAt xs (k:Int) v=some (xs.set k v):=by unfold setAt;rw[Ze ⟨by omega,by omega⟩];simp
def Qcx {n:Nat} (h:n<=68719476736):rm n=some ():=by unfold rm;rw[Ze h]
def nz_of {n:Int} (h:n≠0):nz n=some ():=by unfold nz;rw[Ze h]
def Qrt {α:Type} (x:Option α) (d:α):opt true x d=x:=rfl
def QpR {α:Type} (x:Option α) (d:α):opt false x d=some d:=rfl
def Qql {α β:Type} (g:α->β) (l:List α) {k:Nat} (h:k<l.length):(l.take k).map g++[g l[k]]=(l.take (k+1)).map g:=by rw[Zx h,Yn];rfl
def Qyf {σ ρ:Type} {body:σ->Option (σ⊕ρ)} (n:Nat) (I:Nat->σ->Prop) (O:ρ->Prop) {s0:σ} (h0:I 0 s0) (hs:∀k s,k<n->I k s->∃s',body s=some (.inl s')/\I (k+1) s') (he:∀s,I n s->∃r,body s=some (.inr r)/\O r):
  ∃r,Qz body s0=some r/\O r:=by
 have key:∀m k s,k+m=n->I k s->∃r,Qz body s=some r/\O r:=by
  intro m
  induction m with
  | zero=>
   intro k s hk h;have:k=n:=by omega
   subst this;obtain⟨r,h1,h2⟩:=he s h;exact⟨r,by rw[Qbc,h1],h2⟩
  | succ m ih=>intro k s hk h;obtain⟨s',h1,h2⟩:=hs k s (by omega) h;rw[Qbc,h1];exact ih (k+1) s' (by omega) h2
 exact key n 0 s0 (by omega) h0
def Sm (l:List Int) (B:Int):Prop:=∀x∈l,0<=x/\x<=B
def Sm.sum {l:List Int} {B:Int} (h:Sm l B):0<=l.sum/\l.sum<=l.length * B:=by
 induction l with
 | nil=>simp
 | cons x l ih=>have h1:=h x (by simp);have h2:=ih (λy hy=>h y (by simp[hy]));simp only[sum_cons,Zi,Int.natCast_add];rw[Int.add_mul];omega
def Sm.mono {l:List Int} {B C:Int} (h:Sm l B) (hc:B<=C):Sm l C:=λx hx=>⟨(h x hx).1,Int.le_trans (h x hx).2 hc⟩

/- Plain lemmas on the partial functions that the generator writes. No condition. -/
import Derived.Test.YtmhcoofnnmiejaaGreatDoorSimL
set_option linter.all false
open List Go.IntKind
namespace Go.Sim
variable {α:Type} {ρ:Type} {xs:List α}
def I64 (n:Int):Prop:=-9223372036854775808<=n/\n<=9223372036854775807
def w64 {n:Int} (h:-9223372036854775808<=n) (a:n<=9223372036854775807):i64.wrap n=n:=by rw[IntKind.wrap_i64];omega
def QD {k n:Nat} (h:k<n) (a:n<=9223372036854775807):i64.wrap ((k:Int)+1)=((k+1:Nat):Int):=by rw[w64 (by omega) (by omega)];rfl
def Qio {a:Type} {body:a->Option (a⊕ρ)} (n:Nat) (f:Nat->a) (r:ρ) (b:∀k,k<n->body (f k)=some (.inl (f (k+1)))) (c:body (f n)=some (.inr r)):Qr body (f 0)=some r:=by
 have key:∀m k,k+m=n->Qr body (f k)=some r:=by
  intro m
  induction m with
  | zero=>intro k d;rw[Qdp,show k=n by omega,c]
  | succ m e=>intro k d;rw[Qdp,b k (by omega)];exact e (k+1) (by omega)
 exact key n 0 (by omega)
def Qk4 {body:Int->Option (Int⊕ρ)} (n:Nat) (p:Nat->Bool) (r1:ρ) (b:Nat->ρ) (d:∀k,k<n->p k=false->body (k:Int)=some (.inl ((k+1:Nat):Int))) (e:∀k,k<n->p k=true->body (k:Int)=some (.inr (b k))) (f:body (n:Int)=some (.inr r1)):
  ((∃k,k<n/\p k=true/\(∀j,j<k->p j=false)/\Qr body (0:Int)=some (b k))\/((∀k,k<n->p k=false)/\Qr body (0:Int)=some r1)):=by
 have key:∀m k,k+m=n->(∀j,j<k->p j=false)->((∃i,i<n/\p i=true/\(∀j,j<i->p j=false)/\Qr body (k:Int)=some (b i))\/((∀k,k<n->p k=false)/\Qr body (k:Int)=some r1)):=by
  intro m
  induction m with
  | zero=>
   intro k g hp;have:k=n:=by omega
   subst this;exact .inr ⟨hp,by rw[Qdp,f]⟩
  | succ m l=>
   intro k g hp
   cases a:p k with
   | true=>exact .inl ⟨k,by omega,a,hp,by rw[Qdp,e k (by omega) a]⟩
   | false=>
    rw[Qdp,d k (by omega) a];exact l (k+1) (by omega) (λj c=>by
     rcases Nat.lt_succ_iff_lt_or_eq.1 c with h | h
     ·exact hp j h
     ·rw[h];exact a)
 exact key n 0 (by omega) (λj c=>by omega)
def QnJ {d:Type} {body:Int->Option (Int⊕ρ)} {g:ρ->Option d} {a:Option d} (n:Nat) (p:Nat->Bool) (r1:ρ) (b:Nat->ρ) (e:∀k,k<n->p k=false->body (k:Int)=some (.inl ((k+1:Nat):Int))) (f:∀k,k<n->p k=true->body (k:Int)=some (.inr (b k))) (h:body (n:Int)=some (.inr r1)) (e1:(∀k,k<n->p k=false)->g r1=a) (e2:∀k,k<n->p k=true->g (b k)=a):(Qr body (0:Int)).bind g=a:=by
 rcases Qk4 n p r1 b e f h with⟨k,i,hp,_,c⟩ | ⟨hp,c⟩
 ·rw[c];exact e2 k i hp
 ·rw[c];exact e1 hp
def QdA {b c:Type} {body:b->Option (b⊕ρ)} {g:ρ->Option c} {a:Option c} {s0:b} (n:Nat) (f:Nat->b) (r:ρ) (h0:f 0=s0) (d:∀k,k<n->body (f k)=some (.inl (f (k+1)))) (h:body (f n)=some (.inr r)) (e:g r=a):
  (Qr body s0).bind g=a:=by
 rw[<-h0,Qio n f r d h];exact e
def Qhd (xs:List α) (k:Nat):idx xs (k:Int)=xs[k]?:=by simp[idx]
def QeR (xs:List α) {i:Int} (h:0<=i):idx xs i=xs[i.toNat]?:=by simp[idx,h]
def QY {k:Nat} (h:k<xs.length):idx xs (k:Int)=some xs[k]:=by rw[Qhd,Zd h]
def QdQ {k:Nat} (h:k<xs.length) (v:α):setAt xs (k:Int) v=some (xs.set k v):=by unfold setAt;rw[Zc ⟨by omega,by omega⟩];simp
def QdX {n:Nat} (h:n<=68719476736):rm n=some ():=by unfold rm;rw[Zc h]
def nz_of {n:Int} (h:n≠0):nz n=some ():=by unfold nz;rw[Zc h]
def Qf6 (n:Nat) (z:α) (h:n<=68719476736):mk (n:Int) z=some (replicate n z):=by unfold mk;rw[Zc ⟨by omega,by omega⟩];simp
def Qtj (x:Option α) (d:α):opt true x d=x:=rfl
def QyT (x:Option α) (d:α):opt false x d=some d:=rfl
def Qtk (os z:List α) {k:Nat} (h:k<os.length) (hz:k<z.length):(os.take k++z.drop k).set k os[k]=os.take (k+1)++z.drop (k+1):=by
 have e:(os.take k).length=k:=by simp;omega
 rw[Zw h,set_append_right _ _ (by omega),e,Nat.sub_self,ZE];congr 1;rw[drop_eq_getElem_cons hz];rfl
def Sm (l:List Int) (B:Int):Prop:=∀x∈l,0<=x/\x<=B
def Sm.sum {l:List Int} {B:Int} (h:Sm l B):0<=l.sum/\l.sum<=l.length * B:=by
 induction l with
 | nil=>simp
 | cons x l a=>have b:=h x (by simp);have c:=a (λy hy=>h y (by simp[hy]));simp only[sum_cons,Zk,Int.natCast_add];rw[Int.add_mul];omega
def Sm.mono {l:List Int} {B C:Int} (h:Sm l B) (a:B<=C):Sm l C:=λx hx=>⟨(h x hx).1,Int.le_trans (h x hx).2 a⟩
def lg (l:List Int):Nat:=l.foldl (λg x=>Nat.gcd x.toNat g) 0
def low (l:List Int):List Int:=l.map λx=>x / ((max (lg l) 1:Nat):Int)

/- Plain lemmas on the partial functions that the generator writes. No condition. -/
import Derived.Test.YtohojolgolinoaaGreatDoorSimL
set_option linter.all false
open List Go.IntKind
namespace Go.Sim
variable {α:Type} {ρ:Type} {xs:List α}
def I64 (n:Int):Prop:=-9223372036854775808<=n/\n<=9223372036854775807
def w64 {n:Int} (h:-9223372036854775808<=n) (a:n<=9223372036854775807):i64.wrap n=n:=by rw[IntKind.wrap_i64];omega
def QD {k n:Nat} (h:k<n) (a:n<=9223372036854775807):i64.wrap ((k:Int)+1)=((k+1:Nat):Int):=by rw[w64 om om];rfl
def IY {a:Type} {body:a->Option (a⊕ρ)} (n:Nat) (f:Nat->a) (r:ρ) (b:∀k,k<n->body (f k)=some (.inl (f (k+1)))) (c:body (f n)=some (.inr r)):Qr body (f 0)=some r:=by
 have key:∀m k,k+m=n->Qr body (f k)=some r:=by
  intro m
  induction m with
  | zero=>intro k d;rw[Dz,show k=n by omega,c]
  | succ m e=>intro k d;rw[Dz,b k om];exact e (k+1) om
 exact key n 0 om
def P8 {body:Int->Option (Int⊕ρ)} (n:Nat) (p:Nat->Bool) (r1:ρ) (b:Nat->ρ) (d:∀k,k<n->p k=false->body (k:Int)=some (.inl ((k+1:Nat):Int))) (e:∀k,k<n->p k=true->body (k:Int)=some (.inr (b k))) (f:body (n:Int)=some (.inr r1)):
  ((∃k,k<n/\p k=true/\(∀j,j<k->p j=false)/\Qr body (0:Int)=some (b k))\/((∀k,k<n->p k=false)/\Qr body (0:Int)=some r1)):=by
 have key:∀m k,k+m=n->(∀j,j<k->p j=false)->((∃i,i<n/\p i=true/\(∀j,j<i->p j=false)/\Qr body (k:Int)=some (b i))\/((∀k,k<n->p k=false)/\Qr body (k:Int)=some r1)):=by
  intro m
  induction m with
  | zero=>
   intro k g hp;have:k=n:=by omega
   subst this;exact .inr ⟨hp,by rw[Dz,f]⟩
  | succ m l=>
   intro k g hp
   cases a:p k with
   | true=>exact .inl ⟨k,om,a,hp,by rw[Dz,e k om a]⟩
   | false=>
    rw[Dz,d k om a];exact l (k+1) om (λj c=>by
     rcases Nat.lt_succ_iff_lt_or_eq.1 c with h | h
     ·exact hp j h
     ·rw[h];exact a)
 exact key n 0 om (λj c=>om)
def SV {c:Type} {body:Int->Option (Int⊕ρ)} {g:ρ->Option c} {out:Option c} (n:Nat) (p:Nat->Bool) (r1:ρ) (a:Nat->ρ) (d:∀k,k<n->p k=false->body (k:Int)=some (.inl ((k+1:Nat):Int))) (e:∀k,k<n->p k=true->body (k:Int)=some (.inr (a k))) (f:body (n:Int)=some (.inr r1)) (e1:(∀k,k<n->p k=false)->g r1=out) (e2:∀k,k<n->p k=true->g (a k)=out):(Qr body (0:Int)).bind g=out:=by
 rcases P8 n p r1 a d e f with⟨k,h,hp,_,b⟩ | ⟨hp,b⟩
 ·rw[b];exact e2 k h hp
 ·rw[b];exact e1 hp
def DP {a b:Type} {body:a->Option (a⊕ρ)} {g:ρ->Option b} {out:Option b} {s0:a} (n:Nat) (f:Nat->a) (r:ρ) (h0:f 0=s0) (c:∀k,k<n->body (f k)=some (.inl (f (k+1)))) (d:body (f n)=some (.inr r)) (e:g r=out):
  (Qr body s0).bind g=out:=by
 rw[<-h0,IY n f r c d];exact e
def BN (xs:List α) (k:Nat):idx xs (k:Int)=xs[k]?:=by simp[idx]
def Ca (xs:List α) {i:Int} (h:0<=i):idx xs i=xs[i.toNat]?:=by simp[idx,h]
def QY {k:Nat} (h:k<xs.length):idx xs (k:Int)=some xs[k]:=by rw[BN,Zd h]
def Cx {k:Nat} (h:k<xs.length) (v:α):setAt xs (k:Int) v=some (xs.set k v):=by unfold setAt;rw[Zc ⟨om,om⟩];simp
def CK {n:Nat} (h:n<=68719476736):rm n=some ():=by unfold rm;rw[Zc h]
def nz_of {n:Int} (h:n≠0):nz n=some ():=by unfold nz;rw[Zc h]
def Dp (n:Nat) (z:α) (h:n<=68719476736):mk (n:Int) z=some (replicate n z):=by unfold mk;rw[Zc ⟨om,om⟩];simp
def TI (x:Option α) (d:α):opt true x d=x:=rfl
def jZ (x:Option α) (d:α):opt false x d=some d:=rfl
def SJ (os z:List α) {k:Nat} (h:k<os.length) (hz:k<z.length):(os.take k++z.drop k).set k os[k]=os.take (k+1)++z.drop (k+1):=by
 have e:(os.take k).length=k:=by simp;omega
 rw[Zz h,set_append_right _ _ om,e,Nat.sub_self,ZJ];congr 1;rw[Yq hz];rfl
def lg (l:Lz):Nat:=l.foldl (λg x=>Nat.gcd x.toNat g) 0
def low (l:Lz):Lz:=l.map λx=>x / ((max (lg l) 1:Nat):Int)

/- Plain lemmas on the partial functions that the generator writes. No condition. -/
import Derived.Test.YtlajingmjmnfgaaGreatDoorSimL
set_option linter.all false
open List Go.IntKind
namespace Go.Sim
def I64 (n:Int):Prop:=-9223372036854775808≤n∧n≤9223372036854775807
theorem w64 {n:Int} (h:-9223372036854775808≤n) (h':n≤9223372036854775807):i64.wrap n=n:=by rw[IntKind.wrap_i64];omega
theorem Qnx (n:Int):I64 (i64.wrap n):=by rw[IntKind.wrap_i64];unfold I64;omega
theorem QK {k n:Nat} (h:k<n) (hn:n≤9223372036854775807):i64.wrap ((k:Int)+1)=((k+1:Nat):Int):=by rw[w64 (by omega) (by omega)];rfl
theorem Qca {σ ρ:Type} {body:σ→Option (σ⊕ρ)} (n:Nat) (f:Nat→σ) (r:ρ) (hs:∀k,k<n→body (f k)=some (.inl (f (k+1)))) (he:body (f n)=some (.inr r)):Qo body (f 0)=some r:=by
 have key:∀m k,k+m=n→Qo body (f k)=some r:=by
  intro m
  induction m with
  | zero=>intro k hk;rw[Qan,show k=n by omega,he]
  | succ m ih=>intro k hk;rw[Qan,hs k (by omega)];exact ih (k+1) (by omega)
 exact key n 0 (by omega)
/-- A loop that stops early at the first place that p holds at. -/
theorem QhE {ρ:Type} {body:Int→Option (Int⊕ρ)} (n:Nat) (p:Nat→Bool) (r1:ρ) (r2:Nat→ρ) (h1:∀k,k<n→p k=false→body (k:Int)=some (.inl ((k+1:Nat):Int)))
  (h2:∀k,k<n→p k=true→body (k:Int)=some (.inr (r2 k))) (h3:body (n:Int)=some (.inr r1)):
  ((∃k,k<n∧p k=true∧(∀j,j<k→p j=false)∧Qo body (0:Int)=some (r2 k))∨((∀k,k<n→p k=false)∧Qo body (0:Int)=some r1)):=by
 have key:∀m k,k+m=n→(∀j,j<k→p j=false)→((∃i,i<n∧p i=true∧(∀j,j<i→p j=false)∧Qo body (k:Int)=some (r2 i))∨((∀k,k<n→p k=false)∧Qo body (k:Int)=some r1)):=by
  intro m
  induction m with
  | zero=>
   intro k hk hp
   have:k=n:=by omega
   subst this
   exact .inr ⟨hp,by rw[Qan,h3]⟩
  | succ m ih=>
   intro k hk hp
   cases hpk:p k with
   | true=>exact .inl ⟨k,by omega,hpk,hp,by rw[Qan,h2 k (by omega) hpk]⟩
   | false=>
    rw[Qan,h1 k (by omega) hpk]
    exact ih (k+1) (by omega) (fun j hj=>by
     rcases Nat.lt_succ_iff_lt_or_eq.1 hj with h | h
     ·exact hp j h
     ·rw[h];exact hpk)
 exact key n 0 (by omega) (fun j hj=>by omega)
theorem Qeu {σ ρ β:Type} {body:σ→Option (σ⊕ρ)} {g:ρ→Option β} {out:Option β} {s0:σ} (n:Nat) (f:Nat→σ) (r:ρ) (h0:f 0=s0) (hs:∀k,k<n→body (f k)=some (.inl (f (k+1)))) (he:body (f n)=some (.inr r)) (e:g r=out):
  (Qo body s0).bind g=out:=by
 rw[←h0,Qca n f r hs he];exact e
theorem QaU {α:Type} (xs:List α) (k:Nat):idx xs (k:Int)=xs[k]?:=by simp[idx]
theorem Qgx {α:Type} (xs:List α) {i:Int} (h:0≤i):idx xs i=xs[i.toNat]?:=by simp[idx,h]
theorem QY {α:Type} {xs:List α} {k:Nat} (h:k<xs.length):idx xs (k:Int)=some xs[k]:=by rw[QaU,getElem?_eq_getElem h]
theorem QbL {α:Type} {xs:List α} {k:Nat} (h:k<xs.length) (v:α):setAt xs (k:Int) v=some (xs.set k v):=by
 unfold setAt;rw[if_pos ⟨by omega,by omega⟩];simp
theorem Qcj {n:Nat} (h:n≤68719476736):rm n=some ():=by unfold rm;rw[if_pos h]
theorem Qok {n:Int} (h:n≠0):nz n=some ():=by unfold nz;rw[if_pos h]
theorem Qme {α:Type} (n:Nat) (z:α) (h:n≤68719476736):mk (n:Int) z=some (replicate n z):=by
 unfold mk;rw[if_pos ⟨by omega,by omega⟩];simp
theorem Qo9 {α:Type} (x:Option α) (d:α):opt true x d=x:=rfl
theorem Qny {α:Type} (x:Option α) (d:α):opt false x d=some d:=rfl
theorem QjC {α β:Type} (g:α→β) (l:List α) {k:Nat} (h:k<l.length):(l.take k).map g++[g l[k]]=(l.take (k+1)).map g:=by
 rw[take_succ_eq_append_getElem h,map_append];rfl
theorem Qpa {α:Type} (os z:List α) {k:Nat} (h:k<os.length) (hz:k<z.length):(os.take k++z.drop k).set k os[k]=os.take (k+1)++z.drop (k+1):=by
 have e:(os.take k).length=k:=by simp;omega
 rw[take_succ_eq_append_getElem h,set_append_right _ _ (by omega),e,Nat.sub_self,append_assoc]
 congr 1
 rw[drop_eq_getElem_cons hz]
 rfl
/-- Numbers from 0 to B. -/
def Sm (l:List Int) (B:Int):Prop:=∀x∈l,0≤x∧x≤B
theorem Sm.sum {l:List Int} {B:Int} (h:Sm l B):0≤l.sum∧l.sum≤l.length * B:=by
 induction l with
 | nil=>simp
 | cons x l ih=>
  have h1:=h x (by simp)
  have h2:=ih (fun y hy=>h y (by simp[hy]))
  simp only[sum_cons,length_cons,Int.natCast_add]
  rw[Int.add_mul]
  omega
theorem Sm.mono {l:List Int} {B C:Int} (h:Sm l B) (hc:B≤C):Sm l C:=fun x hx=>⟨(h x hx).1,Int.le_trans (h x hx).2 hc⟩
/-! Greatest common divisors of lists -/
def lg (l:List Int):Nat:=l.foldl (fun g x=>Nat.gcd x.toNat g) 0
/-- Weights in lowest terms. -/
def low (l:List Int):List Int:=l.map fun x=>x / ((max (lg l) 1:Nat):Int)
end Go.Sim

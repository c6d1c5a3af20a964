/- Plain lemmas on the partial functions that the generator writes. No condition. -/
import Derived.Test.YtbggdodepjhliaaSimG
namespace Go.Sim

def I64 (n:Int):Prop:=-9223372036854775808≤n∧n≤9223372036854775807
theorem w64 {n:Int} (h:-9223372036854775808≤n) (h':n≤9223372036854775807):IntKind.i64.wrap n=n:=by rw[IntKind.wrap_i64];omega
theorem Qdr {α:Type} (xs:List α) (k:Nat):idx xs (k:Int)=xs[k]?:=by simp[idx]
theorem Qch {α:Type} (xs:List α) {i:Int} (h:0≤i):idx xs i=xs[i.toNat]?:=by simp[idx,h]
theorem idx_lt {α:Type} {xs:List α} {k:Nat} (h:k<xs.length):idx xs (k:Int)=some xs[k]:=by rw[Qdr,List.getElem?_eq_getElem h]
theorem Qfj {α:Type} {xs:List α} {k:Nat} (h:k<xs.length) (v:α):setAt xs (k:Int) v=some (xs.set k v):=by
 unfold setAt;rw[if_pos ⟨by omega,by omega⟩];simp
theorem rm_le {n:Nat} (h:n≤68719476736):rm n=some ():=by unfold rm;rw[if_pos h]
theorem nz_of {n:Int} (h:n≠0):nz n=some ():=by unfold nz;rw[if_pos h]
theorem Qfk {α:Type} (x:Option α) (d:α):opt true x d=x:=rfl
theorem QgL {α:Type} (x:Option α) (d:α):opt false x d=some d:=rfl

/-- Numbers from 0 to B. -/
def Sm (l:List Int) (B:Int):Prop:=∀x∈l,0≤x∧x≤B
theorem Sm.sum {l:List Int} {B:Int} (h:Sm l B):0≤l.sum∧l.sum≤l.length * B:=by
 induction l with
 | nil=>simp
 | cons x l ih=>
  have h1:=h x (by simp)
  have h2:=ih (fun y hy=>h y (by simp[hy]))
  simp only[List.sum_cons,List.length_cons,Int.natCast_add]
  rw[Int.add_mul]
  omega
theorem Sm.mono {l:List Int} {B C:Int} (h:Sm l B) (hc:B≤C):Sm l C:=fun x hx=>⟨(h x hx).1,Int.le_trans (h x hx).2 hc⟩

/-! Greatest common divisors of lists -/

def lg (l:List Int):Nat:=l.foldl (fun g x=>Nat.gcd x.toNat g) 0
/-- Weights in lowest terms. -/
def low (l:List Int):List Int:=l.map fun x=>x / ((max (lg l) 1:Nat):Int)
end Go.Sim

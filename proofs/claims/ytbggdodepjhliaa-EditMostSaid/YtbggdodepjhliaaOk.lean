/- A calculus for partial functions: they give a result, and it is so. No condition. -/
import Derived.Test.YtbggdodepjhliaaPlain
import Derived.Test.YtbggdodepjhliaaSimG
namespace Go.Sim

/-- x gives a result, and Q holds of it. -/
def Ok {α:Type} (x:Option α) (Q:α→Prop):Prop:=∃r,x=some r∧Q r
section
variable {α β σ ρ:Type} {Q:β→Prop} {P:α→Prop}
theorem Ok.mk {r:β} (h:Q r):Ok (some r) Q:=⟨r,rfl,h⟩
theorem Ok.bind {x:Option α} {f:α→Option β} (h:Ok x P) (k:∀r,P r→Ok (f r) Q):Ok (x.bind f) Q:=by
 obtain⟨r,rfl,hr⟩:=h;exact k r hr
theorem Ok.weak {x:Option β} {R:β→Prop} (h:Ok x R) (k:∀r,R r→Q r):Ok x Q:=by
 obtain⟨r,rfl,hr⟩:=h;exact⟨r,rfl,k r hr⟩
theorem Ok.ite {c:Bool} {x y:Option β} (h:c=true→Ok x Q) (k:c=false→Ok y Q):Ok (if c=true then x else y) Q:=by
 cases c with
 | true=>exact h rfl
 | false=>exact k rfl
theorem Ok.opt {c:Bool} {x:Option α} {d:α} {f:α→Option β} (h:c=true→Ok x P) (k:∀r,(c=true→P r)→Ok (f r) Q):Ok ((Sim.opt c x d).bind f) Q:=by
 cases c with
 | true=>exact (h rfl).bind fun r hr=>k r fun _=>hr
 | false=>exact k d fun h=>by cases h
theorem Ok.rm {n:Nat} {f:Unit→Option β} (h:n≤68719476736) (k:Ok (f ()) Q):Ok ((Sim.rm n).bind f) Q:=by rw[rm_le h];exact k
theorem Ok.idx {l:List α} {i:Int} {f:α→Option β} (h0:0≤i) (h1:i<l.length) (k:∀v,v∈l→l[i.toNat]?=some v→Ok (f v) Q):Ok ((Sim.idx l i).bind f) Q:=by
 have hlt:i.toNat<l.length:=by omega
 rw[Qch l h0,List.getElem?_eq_getElem hlt]
 exact k _ (List.getElem_mem hlt) (List.getElem?_eq_getElem hlt)
theorem Ok.setAt {l:List α} {i:Int} {x:α} {f:List α→Option β} (h0:0≤i) (h1:i<l.length) (k:Ok (f (l.set i.toNat x)) Q):Ok ((Sim.setAt l i x).bind f) Q:=by
 unfold Sim.setAt;rw[if_pos ⟨h0,h1⟩];exact k
theorem Ok.sub {l:List α} {a b:Int} {f:List α→Option β} (h0:0≤a) (h1:a≤b) (h2:b≤l.length) (k:∀r:List α,r.length=(b - a).toNat→(∀x∈r,x∈l)→Ok (f r) Q):Ok ((Sim.sub l a b).bind f) Q:=by
 unfold Sim.sub;rw[if_pos ⟨h0,h1,h2⟩]
 exact k _ (by simp;omega) fun x hx=>List.mem_of_mem_drop (List.mem_of_mem_take hx)
theorem Ok.mk' {n:Int} {z:α} {f:List α→Option β} (h0:0≤n) (h1:n≤68719476736) (k:Ok (f (List.replicate n.toNat z)) Q):Ok ((Sim.mk n z).bind f) Q:=by
 unfold Sim.mk;rw[if_pos ⟨h0,h1⟩];exact k
theorem Ok.loop {body:σ→Option (σ⊕β)} {s:σ} (Inv:Nat→σ→Prop) (n:Nat) (h0:Inv n s) (hs:∀k s,Inv k s→Ok (body s) (fun o=>match o with | .inl s'=>∃k',k'<k∧Inv k' s' | .inr r=>Q r)):Ok (Ql body s) Q:=by
 induction n using Nat.strongRecOn generalizing s with
 | _ n ih=>
  obtain⟨o,ho,hq⟩:=hs n s h0
  rw[Ok,QdY,ho]
  cases o with
  | inl s'=>obtain⟨k',hk,hi⟩:=hq;exact ih k' hk hi
  | inr r=>exact⟨r,rfl,hq⟩
end
end Go.Sim

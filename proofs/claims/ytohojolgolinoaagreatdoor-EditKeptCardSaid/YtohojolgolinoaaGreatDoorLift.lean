/- From the row's data to the logic's types. No condition. -/
import Derived.Test.YtohojolgolinoaaGreatDoorPlain
import Derived.Test.YtohojolgolinoaaGreatDoorSimT
import Derived.ProofKit
set_option linter.all false
open List
namespace Go.Sim
open Go.ChangeShapes Go.WideShapes Go.ChangeAt Go.RowKit
theorem Un {n:Int} (h:(Lit.int .i64 n).wf=true):I64 n:=by simp[Lit.wf,IntKind.min,IntKind.max,IntKind.signed,IntKind.bits] at h;unfold I64;omega
theorem nones (w:World) (k:Nat):free (λ_=>False) w k↔k<w.heap.size:=⟨λh=>h.1,λh=>⟨h,λf=>f⟩⟩
theorem iP {w:World} {a:Addr} {u:Value} (h:w.cell? a=some u):a.block<w.heap.size:=by refine Nat.lt_of_not_le λb=>?_;have:w.heap[a.block]?=none:=Array.getElem?_eq_none b;simp[World.cell?,this] at h
section
variable {H:Type} {enc:TypeId×Value->H} {P:Program} {W:World} {base:Nat}
theorem d9 {t:TypeId} {v:Value} {d:DataW H} {e:List MemPlace} {b:Bool} {a:Nat->Bool} {f:Nat} (ht:P.underlying t=some (.int .i64)) (c:Value.okWide P W .any f t v) (g:DataW.Trod enc P W base a b t v d e):
  ∃n,I64 n/\∀F w,(tv (.int .i64 n)).ok F w v:=by
 obtain⟨n,rfl,_,_,h⟩:=open_int ht c g;exact⟨n,Un h,λ_ _=>rfl⟩
theorem iR {t e:TypeId} {cs:List Value} {x:DataW H×List MemPlace} {g:Bool} {fuel:Nat} (ht:P.underlying t=some (.slice e)) (q:P.underlying e=some (.int .i64)) (hc:P.cellsOf e=1) (hf:DataW.trod enc P W base (λ_=>true) g fuel t cs=some x):
  ∃v,cs=[v]/\∃xs:Lz,(∀x∈xs,I64 x)/\(tsl rI xs).ok (free (λ_=>False) W) W v:=by
 rcases open_ints ht q hc hf with⟨d,_⟩ | ⟨a,len,cap,zs,d,_,hl,_,m,_,c,n⟩
 ·exact⟨_,d,[],λx hx=>(by cases hx),none,0,rfl,Nat.le_refl _,λh=>(h rfl).elim⟩
 ·simp only[if_true] at m;have hlen:(zs.take len).length=len:=by simp;omega
  refine⟨_,d,zs.take len,λx hx=>Un (n x (mem_of_mem_take hx)),some a,cap,by rw[hlen],by rw[hlen];exact hl,λhne=>?_⟩;have p:0<len:=by
   rcases Nat.eq_zero_or_pos len with h | h
   ·exact (hne (by rw[h];simp)).elim
   ·exact h
  have h0:=c 0 om;have⟨b,off,i⟩:=a;have f:i=none:=by simpa[Addr.add] using World.cell?_spot h0
  subst f;refine⟨b,off,rfl,(nones _ _).2 (iP h0),λj T k=>?_⟩;have o:(zs.take len).flatMap rI.cs=(zs.take len).map (λx=>tv (.int .i64 x)):=by
   induction (zs.take len) with
   | nil=>rfl
   | cons x l r=>simp[flatMap_cons,r]
  rw[o,getElem?_map] at k
  cases hz:(zs.take len)[j]? with
  | none=>rw[hz] at k;cases k
  | some x=>
   rw[hz] at k;cases k;have s:j<len:=by have:=(List.getElem?_eq_some_iff.1 hz).1;omega
   refine⟨.int .i64 x,?_,rfl⟩;have:=c j om;rw[Aj] at this;rw[this];congr 2;rw[getElem?_take,if_pos s] at hz;rw[getD_eq_getElem?_getD,hz];rfl
theorem PP {t e:TypeId} {v:Value} {d:DataW H} {i:List MemPlace} {a:Bool} {j:Nat} (ht:P.underlying t=some (.slice e)) (k:P.underlying e=some (.int .i64)) (hc:P.cellsOf e=1) (b:Value.okWide P W .any j t v) (l:DataW.Trod enc P W base (λ_=>true) a t v d i):
  ∃xs:Lz,(∀x∈xs,I64 x)/\(tsl rI xs).ok (free (λ_=>False) W) W v:=by
 obtain⟨a0,c,f,rfl⟩:=okWide_slice ht b;have⟨fuel,hf⟩:=l;have⟨v,g,h⟩:=iR ht k hc hf;simp[Value.cells] at g;subst g;exact h
end
theorem Grow.below {w w':World} (h:Grow w w'):Below w.heap.size w w':=⟨h.os,h.tape,h.output,h.size,λk a=>h.same k a (λf=>f)⟩

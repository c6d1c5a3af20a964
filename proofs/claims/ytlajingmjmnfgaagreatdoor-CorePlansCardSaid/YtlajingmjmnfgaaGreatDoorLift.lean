/- From the row's data to the logic's types, and back. No condition. -/
import Derived.Test.YtlajingmjmnfgaaGreatDoorPlain
import Derived.Test.YtlajingmjmnfgaaGreatDoorSimT
import Derived.ProofKit
set_option linter.all false
open List
namespace Go.Sim
open Go.ChangeShapes Go.WideShapes Go.ChangeAt Go.RowKit
theorem QxK {n:Int} (h:(Lit.int .i64 n).wf=true):I64 n:=by simp[Lit.wf,IntKind.min,IntKind.max,IntKind.signed,IntKind.bits] at h;unfold I64;omega
theorem nones (w:World) (k:Nat):free (fun _=>False) w k↔k<w.heap.size:=⟨fun h=>h.1,fun h=>⟨h,fun f=>f⟩⟩
theorem QCs {w:World} {a:Addr} {u:Value} (h:w.cell? a=some u):a.block<w.heap.size:=by refine Nat.lt_of_not_le fun hle=>?_;have:w.heap[a.block]?=none:=Array.getElem?_eq_none hle;simp[World.cell?,this] at h
section
variable {H:Type} {enc:TypeId×Value→H} {P:Program} {W:World} {base:Nat}
theorem Qu2 {t e:TypeId} {cs:List Value} {x:DataW H×List MemPlace} {held:Bool} {fuel:Nat} (ht:P.underlying t=some (.slice e)) (he:P.underlying e=some (.int .i64)) (hc:P.cellsOf e=1) (hf:DataW.trod enc P W base (fun _=>true) held fuel t cs=some x):
  ∃v,cs=[v]∧∃xs:List Int,(∀x∈xs,I64 x)∧(tsl rI xs).ok (free (fun _=>False) W) W v:=by
 rcases open_ints ht he hc hf with⟨hcs,_⟩ | ⟨a,len,cap,zs,hcs,_,hl,_,hzl,_,hcell,hwf⟩
 ·exact⟨_,hcs,[],fun x hx=>(by cases hx),none,0,rfl,Nat.le_refl _,fun h=>(h rfl).elim⟩
 ·simp only[if_true] at hzl;have hlen:(zs.take len).length=len:=by simp;omega
  refine⟨_,hcs,zs.take len,fun x hx=>QxK (hwf x (mem_of_mem_take hx)),some a,cap,by rw[hlen],by rw[hlen];exact hl,fun hne=>?_⟩;have hpos:0<len:=by
   rcases Nat.eq_zero_or_pos len with h | h
   ·exact (hne (by rw[h];simp)).elim
   ·exact h
  have h0:=hcell 0 (by omega);obtain⟨b,off,spot⟩:=a;have hspot:spot=none:=by simpa[Addr.add] using World.cell?_spot h0
  subst hspot;refine⟨b,off,rfl,(nones _ _).2 (QCs h0),fun j T hT=>?_⟩;have hfm:(zs.take len).flatMap rI.cs=(zs.take len).map (fun x=>tv (.int .i64 x)):=by
   induction (zs.take len) with
   | nil=>rfl
   | cons x l ih=>simp[flatMap_cons,ih]
  rw[hfm,getElem?_map] at hT
  cases hz:(zs.take len)[j]? with
  | none=>rw[hz] at hT;cases hT
  | some x=>
   rw[hz] at hT;cases hT;have hj:j<len:=by have:=(List.getElem?_eq_some_iff.1 hz).1;omega
   refine⟨.int .i64 x,?_,rfl⟩;have:=hcell j (by omega);rw[QaI] at this;rw[this];congr 2;rw[getElem?_take,if_pos hj] at hz;rw[getD_eq_getElem?_getD,hz];rfl
theorem QlY {t e:TypeId} {v:Value} {d:DataW H} {ps:List MemPlace} {held:Bool} {b0:Nat} (ht:P.underlying t=some (.slice e)) (he:P.underlying e=some (.int .i64)) (hc:P.cellsOf e=1) (hval:Value.okWide P W .any b0 t v) (hd:DataW.Trod enc P W base (fun _=>true) held t v d ps):
  ∃xs:List Int,(∀x∈xs,I64 x)∧(tsl rI xs).ok (free (fun _=>False) W) W v:=by
 obtain⟨a0,len0,cap0,rfl⟩:=okWide_slice ht hval;obtain⟨fuel,hf⟩:=hd;obtain⟨v,hv,h⟩:=Qu2 ht he hc hf;simp[Value.cells] at hv;subst hv;exact h
end
theorem Grow.below {w w':World} (h:Grow w w'):Below w.heap.size w w':=⟨h.os,h.tape,h.output,h.size,fun k hk=>h.same k hk (fun f=>f)⟩

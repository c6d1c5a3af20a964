/- From the row's data to the logic's types. No condition. -/
import Derived.Test.YtjioihpegfgbpaaGreatDoorPlain
import Derived.Test.YtjioihpegfgbpaaGreatDoorSimT
import Derived.ProofKit
set_option linter.all false
open List
namespace Go.Sim
open Go.ChangeShapes Go.WideShapes Go.ChangeAt Go.RowKit
theorem Qp6 {n:Int} (h:(Lit.int .i64 n).wf=true):I64 n:=by simp[Lit.wf,IntKind.min,IntKind.max,IntKind.signed,IntKind.bits] at h;unfold I64;omega
theorem nones (w:World) (k:Nat):free (λ_=>False) w k↔k<w.heap.size:=⟨λh=>h.1,λh=>⟨h,λf=>f⟩⟩
theorem Qyv {w:World} {a:Addr} {u:Value} (h:w.cell? a=some u):a.block<w.heap.size:=by refine Nat.lt_of_not_le λhle=>?_;have:w.heap[a.block]?=none:=Array.getElem?_eq_none hle;simp[World.cell?,this] at h
section
variable {H:Type} {enc:TypeId×Value->H} {P:Program} {W:World} {base:Nat}
theorem Ql7 {t:TypeId} {v:Value} {d:DataW H} {ps:List MemPlace} {held:Bool} {spare:Nat->Bool} {b0:Nat} (ht:P.underlying t=some (.int .i64)) (hval:Value.okWide P W .any b0 t v) (hd:DataW.Trod enc P W base spare held t v d ps):
  ∃n,I64 n/\∀F w,(tv (.int .i64 n)).ok F w v:=by
 obtain⟨n,rfl,_,_,hw⟩:=open_int ht hval hd;exact⟨n,Qp6 hw,λ_ _=>rfl⟩
theorem QtR {t e:TypeId} {cs:List Value} {x:DataW H×List MemPlace} {held:Bool} {fuel:Nat} (ht:P.underlying t=some (.slice e)) (he:P.underlying e=some (.int .i64)) (hc:P.cellsOf e=1) (hf:DataW.trod enc P W base (λ_=>true) held fuel t cs=some x):
  ∃v,cs=[v]/\∃xs:List Int,(∀x∈xs,I64 x)/\(tsl rI xs).ok (free (λ_=>False) W) W v:=by
 rcases open_ints ht he hc hf with⟨hcs,_⟩ | ⟨a,len,cap,zs,hcs,_,hl,_,hzl,_,hcell,hwf⟩
 ·exact⟨_,hcs,[],λx hx=>(by cases hx),none,0,rfl,Nat.le_refl _,λh=>(h rfl).elim⟩
 ·simp only[if_true] at hzl;have hlen:(zs.take len).length=len:=by simp;omega
  refine⟨_,hcs,zs.take len,λx hx=>Qp6 (hwf x (mem_of_mem_take hx)),some a,cap,by rw[hlen],by rw[hlen];exact hl,λhne=>?_⟩;have hpos:0<len:=by
   rcases Nat.eq_zero_or_pos len with h | h
   ·exact (hne (by rw[h];simp)).elim
   ·exact h
  have h0:=hcell 0 (by omega);obtain⟨b,off,spot⟩:=a;have hspot:spot=none:=by simpa[Addr.add] using World.cell?_spot h0
  subst hspot;refine⟨b,off,rfl,(nones _ _).2 (Qyv h0),λj T hT=>?_⟩;have hfm:(zs.take len).flatMap rI.cs=(zs.take len).map (λx=>tv (.int .i64 x)):=by
   induction (zs.take len) with
   | nil=>rfl
   | cons x l ih=>simp[flatMap_cons,ih]
  rw[hfm,getElem?_map] at hT
  cases hz:(zs.take len)[j]? with
  | none=>rw[hz] at hT;cases hT
  | some x=>
   rw[hz] at hT;cases hT;have hj:j<len:=by have:=(List.getElem?_eq_some_iff.1 hz).1;omega
   refine⟨.int .i64 x,?_,rfl⟩;have:=hcell j (by omega);rw[Qbb] at this;rw[this];congr 2;rw[getElem?_take,if_pos hj] at hz;rw[getD_eq_getElem?_getD,hz];rfl
theorem Qp7 {t e:TypeId} {v:Value} {d:DataW H} {ps:List MemPlace} {held:Bool} {b0:Nat} (ht:P.underlying t=some (.slice e)) (he:P.underlying e=some (.int .i64)) (hc:P.cellsOf e=1) (hval:Value.okWide P W .any b0 t v) (hd:DataW.Trod enc P W base (λ_=>true) held t v d ps):
  ∃xs:List Int,(∀x∈xs,I64 x)/\(tsl rI xs).ok (free (λ_=>False) W) W v:=by
 obtain⟨a0,len0,cap0,rfl⟩:=okWide_slice ht hval;obtain⟨fuel,hf⟩:=hd;obtain⟨v,hv,h⟩:=QtR ht he hc hf;simp[Value.cells] at hv;subst hv;exact h
end
theorem Grow.below {w w':World} (h:Grow w w'):Below w.heap.size w w':=⟨h.os,h.tape,h.output,h.size,λk hk=>h.same k hk (λf=>f)⟩

/- Counts: the generators of limits and of numbers give a result; Holds, both ways. No condition. -/
import Derived.Test.YtlajingmjmnfgaaGreatDoorGenAll
import Derived.Test.YtlajingmjmnfgaaGreatDoorOk
set_option linter.all false
open List Go.IntKind
namespace Go.Proofs.YtlajingmjmnfgaaGreatDoor
open Go.Sim
theorem QyH {p n:Int} (hp:I64 p):Ok (Qa1 p n) (fun r=>0≤r∧(1≤n→r<n)):=by
 have hp':=hp
 unfold I64 at hp'
 have key:∀q:Int,0≤q→Ok (if decide (n<1)=true then some 0 else (nz n).bind fun _=>some (Int.tmod q n)) (fun r=>0≤r∧(1≤n→r<n)):=fun q hq=>by
  refine Ok.ite (fun h=>?_) (fun h=>?_)
  ·have:n<1:=of_decide_eq_true h
   exact Ok.mk ⟨Int.le_refl _,fun h=>by omega⟩
  ·have:¬n<1:=of_decide_eq_false h
   rw[Qok (by omega)]
   exact Ok.mk ⟨Int.tmod_nonneg _ hq,fun _=>Int.tmod_lt_of_pos _ (by omega)⟩
 unfold Qa1
 refine Ok.bind (P:=fun q=>0≤q) (Ok.ite (fun h=>?_) (fun h=>?_)) (fun q hq=>key q hq)
 ·have:p<0:=of_decide_eq_true h
  refine Ok.mk ?_
  have e1:i64.wrap (p+1)=p+1:=w64 (by omega) (by omega)
  rw[e1,w64 (by omega) (by omega)];omega
 ·have:¬p<0:=of_decide_eq_false h
  exact Ok.mk (by omega)
section
variable {β:Type} {Q:β→Prop}
theorem Ok.arnd {p n:Int} {f:Int→Option β} (hp:I64 p) (hn:1≤n) (k:∀r,0≤r→r<n→Ok (f r) Q):Ok ((Qa1 p n).bind f) Q:=
 (QyH hp).bind fun r h=>k r h.1 (h.2 hn)
theorem at_ok {l:List Int} {i n:Int} (hl:∀x∈l,I64 x) (hn:1≤n):Ok (QbQ l i n) (fun r=>0≤r∧r<n):=by
 unfold QbQ
 refine Ok.ite (fun h=>Ok.mk ⟨Int.le_refl _,by omega⟩) (fun h=>?_)
 simp only[Bool.or_eq_false_iff,decide_eq_false_iff_not] at h
 refine Ok.idx (by omega) (by omega) fun v hv _=>?_
 exact Ok.arnd (hl v hv) hn fun r h0 h1=>Ok.mk ⟨h0,h1⟩
theorem Ok.at1 {l:List Int} {i n:Int} {f:Int→Option β} (hl:∀x∈l,I64 x) (hn:1≤n) (k:∀r,0≤r→r<n→Ok (f r) Q):Ok ((QbQ l i n).bind f) Q:=
 (at_ok hl hn).bind fun r h=>k r h.1 h.2
end
/-! Holds -/
def nth (c:List Int) (i:Int):Int:=c.getD i.toNat 0
def bndS (l:Qg) (c:List Int):Int:=if l.B<0 then l.Mul else l.Mul * nth c l.B
def Qe0 (l:Qg) (c:List Int):Bool:=if l.Least=true then decide (nth c l.A≥bndS l c) else decide (nth c l.A≤bndS l c)
structure VL (l:Qg) (n:Int):Prop where
 a0:0≤l.A
 a1:l.A<n
 b0:-1≤l.B
 b1:l.B<n
 m0:0≤l.Mul
 m1:l.Mul≤65536
theorem QiF {c:List Int} {i:Int} (h0:0≤i) (h1:i<c.length):idx c i=some (nth c i):=by
 have hlt:i.toNat<c.length:=by omega
 rw[Qgx c h0,getElem?_eq_getElem hlt]
 unfold nth
 rw[getD_eq_getElem?_getD,getElem?_eq_getElem hlt]
 rfl
theorem Qb8 {c:List Int} {i:Int} (h0:0≤i) (h1:i<c.length):nth c i∈c:=by
 have hlt:i.toNat<c.length:=by omega
 unfold nth
 rw[getD_eq_getElem?_getD,getElem?_eq_getElem hlt]
 exact getElem_mem hlt
theorem QyJ {a b:Int} (a0:0≤a) (a1:a≤65536) (b0:0≤b) (b1:b≤65536):0≤a * b∧a * b≤4294967296:=
 ⟨Int.mul_nonneg a0 b0,Int.le_trans (Int.mul_le_mul a1 b1 b0 (by decide)) (by decide)⟩
/-- The index of the first element that is so; -1: none is. -/
def fIx {α:Type} (s:List α) (p:α→Bool):Int:=match s.findIdx? p with | some k=>(k:Int) | none=>-1
theorem QyK {α:Type} (s:List α) (p:α→Bool):decide (fIx s p≥0)=s.any p:=by
 unfold fIx
 cases h:s.findIdx? p with
 | none=>
  rw[findIdx?_eq_none_iff] at h
  have:s.any p=false:=by rw[any_eq_false];intro x hx;simpa using h x hx
  rw[this];rfl
 | some k=>
  obtain⟨hk,hp,_⟩:=findIdx?_eq_some_iff_getElem.1 h
  have:s.any p=true:=any_eq_true.2 ⟨_,getElem_mem hk,hp⟩
  rw[this]
  exact decide_eq_true (Int.natCast_nonneg k)
theorem Qmg {α:Type} (s:List α) (p:α→Bool) {body:Int→Option (Int⊕(Unit⊕Int))}
  (hb:∀k (h:k<s.length),body (k:Int)=if p s[k]=true then some (.inr (.inr (k:Int))) else some (.inl ((k+1:Nat):Int))) (he:body (s.length:Int)=some (.inr (.inl ()))):
  Qo body (0:Int)=some (match s.findIdx? p with | some k=>.inr (k:Int) | none=>.inl ()):=by
 obtain⟨q,hq⟩:∃q:Nat→Bool,∀k (h:k<s.length),q k=p s[k]:=⟨fun k=>if h:k<s.length then p s[k] else false,fun k h=>dif_pos h⟩
 rcases QhE (ρ:=Unit⊕Int) s.length q (.inl ()) (fun k=>.inr (k:Int))
  (fun k hk hp=>by rw[hb k hk,if_neg (by rw[←hq k hk,hp];decide)]) (fun k hk hp=>by rw[hb k hk,if_pos (by rw[←hq k hk,hp])]) he with⟨k,hk,hp,hj,e⟩ | ⟨hp,e⟩
 ·have:s.findIdx? p=some k:=by
   rw[findIdx?_eq_some_iff_getElem]
   refine⟨hk,by rw[←hq k hk,hp],fun j hj'=>?_⟩
   have:=hj j hj'
   rw[hq j (by omega)] at this
   simp[this]
  rw[e,this]
 ·have:s.findIdx? p=none:=by
   rw[findIdx?_eq_none_iff]
   intro x hx
   obtain⟨k,hk,rfl⟩:=getElem_of_mem hx
   have:=hp k hk
   rwa [hq k hk] at this
  rw[e,this]
end Go.Proofs.YtlajingmjmnfgaaGreatDoor
namespace Go.Proofs.YtlajingmjmnfgaaGreatDoor
open Go.Sim
theorem QkF {l:List Int} {k:Nat} (h:k<l.length):nth l (k:Int)=l[k]:=by simp[nth,getD_eq_getElem?_getD,h]
theorem Qq8 {l:List Int} {i j n:Int} (hi:0≤i) (hj:0≤j) (h:i<l.length):nth (l.set i.toNat n) j=if i=j then n else nth l j:=by
 obtain⟨a,rfl⟩:=Int.eq_ofNat_of_zero_le hi
 obtain⟨b,rfl⟩:=Int.eq_ofNat_of_zero_le hj
 unfold nth
 simp only[Int.toNat_natCast,getD_eq_getElem?_getD,getElem?_set]
 by_cases e:a=b
 ·subst e;have:a<l.length:=by omega
  simp[this]
 ·have e':¬((a:Int)=(b:Int)):=by omega
  rw[if_neg e,if_neg e']
theorem QkG {a m x:Int} (hm:0<m):(a+m - 1) / m≤x↔a≤m * x:=by
 constructor
 ·intro h
  have h1:=Int.lt_mul_ediv_self_add (x:=a+m - 1) hm
  have h2:m * ((a+m - 1) / m)≤m * x:=Int.mul_le_mul_of_nonneg_left h (by omega)
  omega
 ·intro h
  have h1:(a+m - 1) / m<x+1:=by
   rw[Int.ediv_lt_iff_lt_mul hm,Int.add_mul,Int.one_mul,Int.mul_comm x m]
   omega
  omega
/-! The program's way -/
end Go.Proofs.YtlajingmjmnfgaaGreatDoor
namespace Go.Proofs.YtlajingmjmnfgaaGreatDoor
open Go.Sim
end Go.Proofs.YtlajingmjmnfgaaGreatDoor
namespace Go.Proofs.YtlajingmjmnfgaaGreatDoor
open Go.Sim
theorem u64w {n:Int} (h0:0≤n) (h1:n<18446744073709551616):u64.wrap n=n:=by
 simp only[IntKind.wrap,IntKind.bits,IntKind.signed]
 simp;omega
theorem Qmh {m:Nat} (h:m<2 ^ 64):(BitVec.ofInt 64 (m:Int)).toNat=m:=by
 rw[BitVec.toNat_ofInt]
 have:((m:Int) % ((2 ^ 64:Nat):Int))=m:=Int.emod_eq_of_lt (by omega) (by omega)
 rw[this];simp
theorem Qgy {a b:Nat} (ha:a<2 ^ 64) (hb:b<2 ^ 64):iand .u64 (a:Int) (b:Int)=((a&&& b:Nat):Int):=by
 unfold iand
 show u64.wrap (((BitVec.ofInt 64 (a:Int)&&& BitVec.ofInt 64 (b:Int)).toNat:Nat):Int)=_
 rw[BitVec.toNat_and,Qmh ha,Qmh hb]
 have:=Nat.and_lt_two_pow a hb
 exact u64w (by omega) (by omega)
def num (S:List Nat):Nat:=S.foldr (fun i a=>2 ^ i+a) 0
def Up (S:List Nat):Prop:=S.Pairwise (·< ·)
/-! The lowest bit -/
theorem QyL (q j:Nat):(2 * q+1).testBit (j+1)=q.testBit j:=by
 rw[Nat.testBit_succ];congr 1;omega
theorem Qwd (q j:Nat):(2 * q).testBit (j+1)=q.testBit j:=by
 rw[Nat.testBit_succ];congr 1;omega
theorem Qwe (q:Nat):(2 * q+1).testBit 0=true:=by simp
theorem Qt4 (q:Nat):(2 * q).testBit 0=false:=by simp
end Go.Proofs.YtlajingmjmnfgaaGreatDoor
namespace Go.Proofs.YtlajingmjmnfgaaGreatDoor
open Go.Sim
/-! How many bits are set -/
def oh1 (x:Nat):Nat:=((x>>>1)&&& 6148914691236517205)+(x&&& 6148914691236517205)
def oh2 (x:Nat):Nat:=((x>>>2)&&& 3689348814741910323)+(x&&& 3689348814741910323)
def oh3 (x:Nat):Nat:=((x>>>4)+x)&&& 1085102592571150095
def oh4 (x:Nat):Nat:=x+(x>>>8)
def oh5 (x:Nat):Nat:=x+(x>>>16)
def oh6 (x:Nat):Nat:=(x+(x>>>32))&&& 127
def ones (x:Nat):Nat:=oh6 (oh5 (oh4 (oh3 (oh2 (oh1 x)))))
def og1 (x:Int):Int:=u64.wrap ((iand .u64 (ishr .u64 x (1:Int)) (6148914691236517205:Int))+(iand .u64 x (6148914691236517205:Int)))
def og2 (x:Int):Int:=u64.wrap ((iand .u64 (ishr .u64 x (2:Int)) (3689348814741910323:Int))+(iand .u64 x (3689348814741910323:Int)))
def og3 (x:Int):Int:=iand .u64 (u64.wrap ((ishr .u64 x (4:Int))+x)) (1085102592571150095:Int)
def og4 (x:Int):Int:=u64.wrap (x+(ishr .u64 x (8:Int)))
def og5 (x:Int):Int:=u64.wrap (x+(ishr .u64 x (16:Int)))
def og6 (x:Int):Int:=iand .i64 (i64.wrap (u64.wrap (x+(ishr .u64 x (32:Int))))) (127:Int)
theorem Qsa (x:Int):QdW x=some (og6 (og5 (og4 (og3 (og2 (og1 x)))))):=rfl
theorem QfX (m k:Nat) (hk:k≤64):ishr .u64 (m:Int) (k:Int)=((m>>>k:Nat):Int):=by
 unfold ishr
 rw[Int.toNat_natCast,show u64.bits=64 from rfl,Nat.min_eq_left hk,Int.fdiv_eq_ediv_of_nonneg _ (by exact_mod_cast Nat.zero_le (2 ^ k)),Nat.shiftRight_eq_div_pow]
 norm_cast
theorem QhF (m k:Nat):m>>>k≤m:=by rw[Nat.shiftRight_eq_div_pow];exact Nat.div_le_self _ _
theorem uadd {a b:Nat} (h:a+b<18446744073709551616):u64.wrap ((a:Int)+(b:Int))=((a+b:Nat):Int):=by rw[u64w (by omega) (by omega)];omega
theorem og1_is {x:Nat} (h:x<2 ^ 64):og1 (x:Int)=(oh1 x:Int)∧oh1 x<2 ^ 64:=by
 have h1:=Nat.and_le_right (n:=x>>>1) (m:=6148914691236517205)
 have h2:=Nat.and_le_right (n:=x) (m:=6148914691236517205)
 have h3:=QhF x 1
 refine⟨?_,by unfold oh1;omega⟩
 unfold og1 oh1
 rw[show (1:Int)=((1:Nat):Int) from rfl,QfX _ _ (by omega),show (6148914691236517205:Int)=((6148914691236517205:Nat):Int) from rfl,Qgy (by omega) (by omega),Qgy h (by omega),uadd (by omega)]
theorem og2_is {x:Nat} (h:x<2 ^ 64):og2 (x:Int)=(oh2 x:Int)∧oh2 x<2 ^ 63:=by
 have h1:=Nat.and_le_right (n:=x>>>2) (m:=3689348814741910323)
 have h2:=Nat.and_le_right (n:=x) (m:=3689348814741910323)
 have h3:=QhF x 2
 refine⟨?_,by unfold oh2;omega⟩
 unfold og2 oh2
 rw[show (2:Int)=((2:Nat):Int) from rfl,QfX _ _ (by omega),show (3689348814741910323:Int)=((3689348814741910323:Nat):Int) from rfl,Qgy (by omega) (by omega),Qgy h (by omega),uadd (by omega)]
theorem og3_is {x:Nat} (h:x<2 ^ 63):og3 (x:Int)=(oh3 x:Int)∧oh3 x<2 ^ 60:=by
 have h3:=QhF x 4
 refine⟨?_,by unfold oh3;have h1:=Nat.and_le_right (n:=(x>>>4)+x) (m:=1085102592571150095);omega⟩
 unfold og3 oh3
 rw[show (4:Int)=((4:Nat):Int) from rfl,QfX _ _ (by omega),uadd (by omega),show (1085102592571150095:Int)=((1085102592571150095:Nat):Int) from rfl,Qgy (by omega) (by omega)]
theorem og4_is {x:Nat} (h:x<2 ^ 60):og4 (x:Int)=(oh4 x:Int)∧oh4 x<2 ^ 61:=by
 have h3:=QhF x 8
 refine⟨?_,by unfold oh4;omega⟩
 unfold og4 oh4
 rw[show (8:Int)=((8:Nat):Int) from rfl,QfX _ _ (by omega),uadd (by omega)]
theorem og5_is {x:Nat} (h:x<2 ^ 61):og5 (x:Int)=(oh5 x:Int)∧oh5 x<2 ^ 62:=by
 have h3:=QhF x 16
 refine⟨?_,by unfold oh5;omega⟩
 unfold og5 oh5
 rw[show (16:Int)=((16:Nat):Int) from rfl,QfX _ _ (by omega),uadd (by omega)]
theorem og6_is {x:Nat} (h:x<2 ^ 62):og6 (x:Int)=(oh6 x:Int):=by
 have h3:=QhF x 32
 unfold og6 oh6
 rw[show (32:Int)=((32:Nat):Int) from rfl,QfX _ _ (by omega),uadd (by omega),w64 (by omega) (by omega)]
 unfold iand
 rw[show (127:Int)=((127:Nat):Int) from rfl]
 show i64.wrap (((BitVec.ofInt 64 (((x+x>>>32:Nat)):Int)&&& BitVec.ofInt 64 ((127:Nat):Int)).toNat:Nat):Int)=_
 rw[BitVec.toNat_and,Qmh (by omega),Qmh (by omega)]
 have:=Nat.and_le_right (n:=x+x>>>32) (m:=127)
 exact w64 (by omega) (by omega)
theorem Qq9 {x:Nat} (h:x<2 ^ 64):QbT (x:Int)=some ((ones x:Nat):Int):=by
 unfold QbT
 rw[Qsa]
 obtain⟨e1,b1⟩:=og1_is h
 obtain⟨e2,b2⟩:=og2_is b1
 obtain⟨e3,b3⟩:=og3_is b2
 obtain⟨e4,b4⟩:=og4_is b3
 obtain⟨e5,b5⟩:=og5_is b4
 rw[e1,e2,e3,e4,e5,og6_is b5]
 rfl
def QkH:Nat→Nat→Bool
 | 0,m=>ones m==ones (m / 2)+m % 2
 | f+1,m=>QkH f (2 * m)&&QkH f (2 * m+1)
theorem Qt5:QkH 16 0=true:=by decide+kernel
theorem Qln:∀f m k,QkH f m=true→m * 2 ^ f≤k→k<(m+1) * 2 ^ f→ones k=ones (k / 2)+k % 2
 | 0,m,k,h,h0,h1=>by
  have:k=m:=by omega
  subst this
  simpa[QkH] using h
 | f+1,m,k,h,h0,h1=>by
  unfold QkH at h
  rw[Bool.and_eq_true] at h
  rw[Nat.pow_succ] at h0 h1
  have e1:m * (2 ^ f * 2)=2 * m * 2 ^ f:=by rw[Nat.mul_comm (2 ^ f) 2,←Nat.mul_assoc,Nat.mul_comm m 2]
  have e2:(m+1) * (2 ^ f * 2)=(2 * m+2) * 2 ^ f:=by rw[Nat.mul_comm (2 ^ f) 2,←Nat.mul_assoc];congr 1;omega
  rw[e1] at h0
  rw[e2] at h1
  by_cases hk:k<(2 * m+1) * 2 ^ f
  ·exact Qln f (2 * m) k h.1 h0 hk
  ·exact Qln f (2 * m+1) k h.2 (by omega) h1
theorem Qt6 {m:Nat} (h:m<2 ^ 16):ones m=ones (m / 2)+m % 2:=Qln 16 0 m Qt5 (by omega) (by omega)
end Go.Proofs.YtlajingmjmnfgaaGreatDoor
namespace Go.Proofs.YtlajingmjmnfgaaGreatDoor
open Go.Sim
/-- The indices whose bits are set. -/
def setL (f m:Nat):List Nat:=(range f).filter fun i=>m.testBit i
theorem Qfj {f m i:Nat}:i∈setL f m↔i<f∧m.testBit i=true:=by unfold setL;rw[mem_filter,mem_range]
theorem Qev:∀(f m:Nat),f≤16→m<2 ^ f→(setL f m).length=ones m
 | 0,m,_,h=>by
  have:m=0:=by omega
  subst this
  decide
 | f+1,m,hf,h=>by
  have h16:m<2 ^ 16:=Nat.lt_of_lt_of_le h (Nat.pow_le_pow_right (by omega) hf)
  rw[Qt6 h16]
  rw[Nat.pow_succ] at h
  have ih:=Qev f (m / 2) (by omega) (by omega)
  unfold setL at ih ⊢
  rw[range_succ_eq_map,filter_cons,filter_map,←ih]
  have e:((fun i=>m.testBit i) ∘ Nat.succ)=fun i=>(m / 2).testBit i:=by
   funext i
   exact Nat.testBit_succ m i
  rw[e,Nat.testBit_zero]
  by_cases hb:m % 2=1
  ·rw[if_pos (by simpa using hb),length_cons,length_map,hb]
  ·rw[if_neg (by simpa using hb),length_map];omega
/-- All sets of n things by their size. -/
def Qc0 (n:Nat):List Nat:=(range (n+1)).flatMap fun k=>(range (2 ^ n)).filter fun m=>ones m==k
theorem Qel {n m:Nat} (hn:n≤16):m∈Qc0 n↔m<2 ^ n:=by
 unfold Qc0
 simp only[mem_flatMap,mem_filter,mem_range,beq_iff_eq]
 constructor
 ·rintro ⟨k,_,h,_⟩;exact h
 ·intro h
  refine⟨ones m,?_,h,rfl⟩
  rw[←Qev n m hn h]
  have:=length_filter_le (fun i=>m.testBit i) (range n)
  rw[length_range] at this
  unfold setL;omega
theorem Qnz {α:Type} (R:α→α→Prop) (F:Nat→List α):∀n,(∀i,i<n→(F i).Pairwise R)→(∀i j,i<j→j<n→∀a∈F i,∀b∈F j,R a b)→((range n).flatMap F).Pairwise R
 | 0,_,_=>by simp
 | n+1,h1,h2=>by
  rw[range_succ,flatMap_append,flatMap_singleton,pairwise_append]
  refine⟨Qnz R F n (fun i hi=>h1 i (by omega)) (fun i j hij hj=>h2 i j hij (by omega)),h1 n (by omega),fun a ha b hb=>?_⟩
  obtain⟨i,hi,ha⟩:=mem_flatMap.1 ha
  exact h2 i n (mem_range.1 hi) (by omega) a ha b hb
theorem Qpd (n:Nat):(Qc0 n).Pairwise fun a b=>ones a≤ones b:=by
 refine Qnz _ _ _ (fun i _=>?_) (fun i j hij _ a ha b hb=>?_)
 ·refine Pairwise.imp_of_mem (R:=fun _ _=>True) (fun {a b} ha hb _=>?_) (pairwise_of_forall (fun _ _=>trivial))
  have h1:=(mem_filter.1 ha).2
  have h2:=(mem_filter.1 hb).2
  simp only[beq_iff_eq] at h1 h2
  omega
 ·have h1:=(mem_filter.1 ha).2
  have h2:=(mem_filter.1 hb).2
  simp only[beq_iff_eq] at h1 h2
  omega
/-! The range over all sets -/
section
variable {S:Type}
def goS (Y:S→Int→Option (S⊕S)):List Nat→S→Option (S⊕S)
 | [],s=>some (.inl s)
 | m::l,s=>(Y s (m:Int)).bind fun r=>match r with | .inl s'=>goS Y l s' | .inr s'=>some (.inr s')
theorem Qgz (Y:S→Int→Option (S⊕S)) (m:Nat) (l:List Nat) (s:S):goS Y (m::l) s=(Y s (m:Int)).bind fun r=>match r with | .inl s'=>goS Y l s' | .inr s'=>some (.inr s'):=rfl
theorem Qra (Y:S→Int→Option (S⊕S)):∀(a b:List Nat) (s:S),goS Y (a++b) s=(goS Y a s).bind fun r=>match r with | .inl s'=>goS Y b s' | .inr s'=>some (.inr s')
 | [],b,s=>rfl
 | m::a,b,s=>by
  rw[cons_append,Qgz,Qgz]
  cases h:Y s (m:Int) with
  | none=>rfl
  | some r=>
   simp only[Option.bind_some]
   cases r with
   | inl s'=>exact Qra Y a b s'
   | inr s'=>rfl
/-- A loop that goes through numbers, and may stop. -/
theorem Qkb {ρ:Type} {Y:S→Int→Option (S⊕S)} (w:Int→Int) (n:Nat) (hw:∀k,k<n→w ((k:Int)+1)=((k+1:Nat):Int)) (F:Nat→List Nat) (o:S⊕S→ρ) (i:S→ρ) {body:Int×S→Option ((Int×S)⊕ρ)}
  (hb:∀k,k<n→∀s,body ((k:Int),s)=(goS Y (F k) s).bind fun r=>match r with | .inl s'=>some (.inl (w ((k:Int)+1),s')) | .inr s'=>some (.inr (o (.inr s')))) (he:∀s,body ((n:Int),s)=some (.inr (o (.inl s)))) (s:S):
  Qo body ((0:Int),s)=(goS Y ((range n).flatMap F) s).map o:=by
 have key:∀m k s,k+m=n→Qo body ((k:Int),s)=(goS Y ((range' k m).flatMap F) s).map o:=by
  intro m
  induction m with
  | zero=>
   intro k s hk
   have:k=n:=by omega
   subst this
   rw[Qan,he];rfl
  | succ m ih=>
   intro k s hk
   rw[Qan,hb k (by omega),range'_succ,flatMap_cons,Qra]
   cases h:goS Y (F k) s with
   | none=>rfl
   | some r=>
    simp only[Option.bind_some]
    cases r with
    | inr s'=>rfl
    | inl s'=>
     dsimp only
     rw[hw k (by omega)]
     exact ih (k+1) s' (by omega)
 have:=key n 0 s (by omega)
 rw[range_eq_range']
 exact this
theorem Qji (Y:S→Int→Option (S⊕S)) (p:Nat→Bool):∀(l:List Nat) (s:S),goS Y (l.filter p) s=goS (fun s m=>if p m.toNat=true then Y s m else some (.inl s)) l s
 | [],s=>rfl
 | m::l,s=>by
  rw[filter_cons,Qgz,Int.toNat_natCast]
  cases hp:p m with
  | true=>
   rw[if_pos rfl,if_pos rfl,Qgz]
   congr 1
   funext r
   cases r with
   | inl s'=>exact Qji Y p l s'
   | inr s'=>rfl
  | false=>
   rw[if_neg (by simp),if_neg (by simp)]
   simp only[Option.bind_some]
   exact Qji Y p l s
theorem QyM (Y:S→Int→Option (S⊕S)):∀(l:List Nat) (s:S),goS Y (l.flatMap fun m=>[m]) s=goS Y l s:=fun l s=>by
 rw[flatMap_singleton']
theorem Qrb {Y:S→Int→Option (S⊕S)} {n:Nat} (hn:n≤16) (s:S):Qec Y s (n:Int)=goS Y (Qc0 n) s:=by
 have hp:2 ^ n≤2 ^ 16:=Nat.pow_le_pow_right (by omega) hn
 have hsh:ishl .u64 (1:Int) (n:Int)=((2 ^ n:Nat):Int):=by
  have e:(2:Int) ^ n=((2 ^ n:Nat):Int):=by push_cast;rfl
  unfold ishl
  rw[Int.toNat_natCast,show u64.bits=64 from rfl,Nat.min_eq_left (by omega),Int.one_mul,e]
  exact u64w (Int.natCast_nonneg _) (by omega)
 unfold Qec
 rw[w64 (by omega) (by omega),hsh]
 refine (Qkb (Y:=Y) i64.wrap (n+1) (fun k hk=>QK hk (by omega)) (fun k=>(range (2 ^ n)).filter fun m=>ones m==k) (fun r=>r) (fun s=>.inl s) (fun k hk s=>?_) (fun s=>by rw[if_neg (by simp)]) s).trans ?_
 ·rw[if_pos (decide_eq_true (by omega))]
  rw[show nn (n:Int)=some () by unfold nn;rw[if_pos (by omega)]]
  simp only[Option.bind_some]
  rw[Qji,←QyM _ (range (2 ^ n))]
  rw[Qkb (Y:=fun s m=>if (ones m.toNat==k)=true then Y s m else some (.inl s)) u64.wrap (2 ^ n) (fun k hk=>by rw[u64w (by omega) (by omega)];omega) (fun m=>[m]) (fun r=>r) (fun s=>.inl s) (fun m hm s=>?_) (fun s=>by rw[if_neg (by simp)]) s]
  ·cases goS (fun s m=>if (ones m.toNat==k)=true then Y s m else some (.inl s)) ((range (2 ^ n)).flatMap fun m=>[m]) s with
   | none=>rfl
   | some r=>cases r<;>rfl
  ·rw[if_pos (decide_eq_true (Int.ofNat_lt.2 hm)),Qq9 (by omega)]
   simp only[Option.bind_some,goS,Int.toNat_natCast]
   have e:(((ones m:Nat):Int)==(k:Int))=(ones m==k):=by
    rw[Bool.eq_iff_iff];simp;omega
   rw[e]
   cases (if (ones m==k)=true then Y s (m:Int) else some (.inl s)) with
   | none=>rfl
   | some r=>cases r<;>rfl
 ·unfold Qc0
  cases goS Y ((range (n+1)).flatMap fun k=>(range (2 ^ n)).filter fun m=>ones m==k) s<;>rfl
end
/-- A bit is set. -/
theorem Qmi {m k:Nat} (hm:m<2 ^ 64) (hk:k≤64):(iand .u64 (ishr .u64 (m:Int) (k:Int)) (1:Int)==(1:Int))=m.testBit k:=by
 have:=QhF m k
 rw[QfX _ _ hk,show (1:Int)=((1:Nat):Int) from rfl,Qgy (by omega) (by omega)]
 rw[Bool.eq_iff_iff]
 unfold Nat.testBit
 rw[Nat.and_comm 1]
 have h2:m>>>k&&& 1=m>>>k % 2:=Nat.and_one_is_mod _
 rw[h2]
 simp only[beq_iff_eq,bne_iff_ne,ne_eq]
 omega
end Go.Proofs.YtlajingmjmnfgaaGreatDoor
namespace Go.Proofs.YtlajingmjmnfgaaGreatDoor
open Go.Sim
theorem Qt7 {p n:Int} (hp:I64 p):Ok (Qa1 p n) (fun r=>0≤r∧(1≤n→r<n)∧(n≤0→r=0)):=by
 have hp':=hp
 unfold I64 at hp'
 have key:∀q:Int,0≤q→Ok (if decide (n<1)=true then some 0 else (nz n).bind fun _=>some (Int.tmod q n)) (fun r=>0≤r∧(1≤n→r<n)∧(n≤0→r=0)):=fun q hq=>by
  refine Ok.ite (fun h=>?_) (fun h=>?_)
  ·have:n<1:=of_decide_eq_true h
   exact Ok.mk ⟨Int.le_refl _,fun h=>by omega,fun _=>rfl⟩
  ·have:¬n<1:=of_decide_eq_false h
   rw[Qok (by omega)]
   exact Ok.mk ⟨Int.tmod_nonneg _ hq,fun _=>Int.tmod_lt_of_pos _ (by omega),fun h=>by omega⟩
 unfold Qa1
 refine Ok.bind (P:=fun q=>0≤q) (Ok.ite (fun h=>?_) (fun h=>?_)) (fun q hq=>key q hq)
 ·have:p<0:=of_decide_eq_true h
  refine Ok.mk ?_
  have e1:i64.wrap (p+1)=p+1:=w64 (by omega) (by omega)
  rw[e1,w64 (by omega) (by omega)];omega
 ·have:¬p<0:=of_decide_eq_false h
  exact Ok.mk (by omega)
section
variable {β:Type} {Q:β→Prop}
theorem Ok.around {p n:Int} {f:Int→Option β} (hp:I64 p) (hn:1≤n) (k:∀r,0≤r→r<n→Ok (f r) Q):Ok ((Qa1 p n).bind f) Q:=
 (Qt7 hp).bind fun r h=>k r h.1 (h.2.1 hn)
def MOk (m:Qm):Prop:=∀x∈m.L,I64 x
theorem Qc9 {m:Qm} {n:Int} (hm:MOk m) (hn:1≤n):Ok (Qx m n) (fun r=>0≤r.1∧r.1<n∧MOk r.2):=by
 unfold Qx QbQ
 refine Ok.bind (P:=fun r=>0≤r∧r<n) (Ok.ite (fun h=>Ok.mk ⟨Int.le_refl _,by omega⟩) (fun h=>?_)) (fun r hr=>Ok.mk ⟨hr.1,hr.2,hm⟩)
 simp only[Bool.or_eq_false_iff,decide_eq_false_iff_not] at h
 refine Ok.idx (by omega) (by omega) fun v hv _=>?_
 exact Ok.around (hm v hv) hn fun r h0 h1=>Ok.mk ⟨h0,h1⟩
theorem Ok.take {m:Qm} {n:Int} {f:Int×Qm→Option β} (hm:MOk m) (hn:1≤n) (k:∀r m',0≤r→r<n→MOk m'→Ok (f (r,m')) Q):Ok ((Qx m n).bind f) Q:=
 (Qc9 hm hn).bind fun r h=>k r.1 r.2 h.1 h.2.1 h.2.2
end
/-- A name of the generators: it is short and does not begin with a z. -/
def SN (s:Str):Prop:=s.length≤20∧s.head?≠some 122
/-- The names of a field. -/
def FN (f:Qb):Prop:=SN f.Name∧SN f.Of∧SN f.Up
/-- A field of the generators. -/
def FOk (f:Qb):Prop:=f.Words.length≤6∧f.Weights.length≤6∧FN f
/-- A kind of the generators, with at most n fields. -/
def KOk (n:Nat) (k:Qe):Prop:=k.Fields.length≤n∧(∀f∈k.Fields,FOk f)∧SN k.Name
theorem QgQ {l:List Qb} {name:Str} (hl:l.length≤1000):Ok (Qcv l name) (fun r=>-1≤r∧r<l.length):=by
 unfold Qcv
 refine Ok.bind (P:=fun e=>match e with | .inl _=>True | .inr r=>0≤r∧r<l.length) (Ok.loop (fun k s=>0≤s∧s+k=l.length) l.length ⟨by omega,by omega⟩ fun k s hs=>?_) (fun e he=>?_)
 ·refine Ok.ite (fun h=>?_) (fun h=>Ok.mk trivial)
  have h':s<l.length:=of_decide_eq_true h
  refine Ok.idx hs.1 h' fun v _ _=>Ok.ite (fun _=>Ok.mk ⟨hs.1,h'⟩) (fun _=>Ok.mk ?_)
  rw[w64 (by omega) (by omega)]
  exact⟨k - 1,by omega,by omega,by omega⟩
 ·rcases e with e | e
  ·exact Ok.mk ⟨by omega,by omega⟩
  ·exact Ok.mk ⟨by omega,he.2⟩
theorem QnA {k:Qe} (hl:k.Fields.length≤1000):Ok (QcJ k) (fun r=>-1≤r∧r<k.Fields.length):=by
 unfold QcJ
 refine Ok.bind (P:=fun e=>match e with | .inl _=>True | .inr r=>0≤r∧r<k.Fields.length) (Ok.loop (fun n s=>0≤s∧s+n=k.Fields.length) k.Fields.length ⟨by omega,by omega⟩ fun n s hs=>?_) (fun e he=>?_)
 ·refine Ok.ite (fun h=>?_) (fun h=>Ok.mk trivial)
  have h':s<k.Fields.length:=of_decide_eq_true h
  refine Ok.idx hs.1 h' fun v _ _=>Ok.ite (fun _=>Ok.mk ⟨hs.1,h'⟩) (fun _=>Ok.mk ?_)
  rw[w64 (by omega) (by omega)]
  exact⟨n - 1,by omega,by omega,by omega⟩
 ·rcases e with e | e
  ·exact Ok.mk ⟨by omega,by omega⟩
  ·exact Ok.mk ⟨by omega,he.2⟩
theorem Qpe {m:Qm} (hm:MOk m):Ok (QaC m) (fun r=>r.1.length≤2∧(∀f∈r.1,FOk f)∧MOk r.2):=by
 unfold QaC
 refine Ok.take hm (by decide) fun r m1 _ _ h1=>?_
 refine Ok.ite (fun _=>?_) (fun _=>?_)
 ·refine Ok.take h1 (by decide) fun r2 m2 _ _ h2=>Ok.take h2 (by decide) fun r3 m3 _ _ h3=>Ok.mk ⟨by simp,by simp[FOk,FN,SN],h3⟩
 refine Ok.ite (fun _=>?_) (fun _=>?_)
 ·refine Ok.take h1 (by decide) fun r2 m2 h20 h21 h2=>?_
  have hr2:i64.wrap (1+r2)=1+r2:=w64 (by omega) (by omega)
  refine Ok.sub (by decide) (by dsimp only;rw[hr2];omega) (by dsimp only;rw[hr2];simp;omega) fun w hw _=>?_
  dsimp only at hw
  rw[hr2] at hw
  have hwl:1≤w.length∧w.length≤3:=by omega
  refine Ok.bind (P:=fun r=>r.1.length=w.length∧MOk r.2) (Ok.loop (fun k s=>0≤s.1∧s.1+k=w.length∧s.2.1.length=s.1∧MOk s.2.2) w.length ⟨Int.le_refl _,by simp,by simp,h2⟩ fun k s hs=>?_) (fun p hp=>?_)
  ·obtain⟨i,ws,m3⟩:=s
   obtain⟨e1,e2,e3,e4⟩:=hs
   dsimp only at e1 e2 e3 e4
   refine Ok.ite (fun h=>?_) (fun h=>?_)
   ·have h':i<w.length:=of_decide_eq_true h
    refine Ok.take e4 (by decide) fun r4 m4 _ _ h4=>Ok.rm (by simp;omega) (Ok.mk ?_)
    dsimp only
    rw[w64 (by omega) (by omega)]
    exact⟨k - 1,by omega,by omega,by omega,by simp;omega,h4⟩
   ·have h':¬i<w.length:=of_decide_eq_false h
    exact Ok.mk ⟨by dsimp only;omega,e4⟩
  ·refine Ok.take hp.2 (by omega) fun r4 m4 h40 h41 h4=>Ok.take h4 (by decide) fun r5 m5 _ _ h5=>?_
   refine Ok.setAt h40 (by dsimp only;omega) (Ok.mk ⟨by simp,?_,h5⟩)
   intro f hf
   rw[mem_singleton] at hf
   subst hf
   exact⟨by dsimp only;omega,by simp only[length_set];omega,by simp[FN,SN]⟩
 refine Ok.ite (fun _=>?_) (fun _=>?_)
 ·refine Ok.take h1 (by decide) fun r2 m2 _ _ h2=>Ok.take h2 (by decide) fun r3 m3 _ _ h3=>Ok.take h3 (by decide) fun r4 m4 _ _ h4=>Ok.take h4 (by decide) fun r5 m5 _ _ h5=>Ok.mk ⟨by simp,by simp[FOk,FN,SN],h5⟩
 refine Ok.ite (fun _=>?_) (fun _=>?_)
 ·refine Ok.take h1 (by decide) fun r2 m2 _ _ h2=>Ok.take h2 (by decide) fun r3 m3 _ _ h3=>Ok.mk ⟨by simp,by simp[FOk,FN,SN],h3⟩
 refine Ok.ite (fun _=>?_) (fun _=>?_)
 ·refine Ok.take h1 (by decide) fun r2 m2 _ _ h2=>Ok.take h2 (by decide) fun r3 m3 _ _ h3=>Ok.take h3 (by decide) fun r4 m4 _ _ h4=>Ok.take h4 (by decide) fun r5 m5 _ _ h5=>Ok.mk ⟨by simp,by simp[FOk,FN,SN],h5⟩
 ·exact Ok.mk ⟨by simp,by simp,h1⟩
end Go.Proofs.YtlajingmjmnfgaaGreatDoor
namespace Go.Proofs.YtlajingmjmnfgaaGreatDoor
open Go.Sim
/-- A kind of the generator: its name is not empty. -/
def GOk (n:Nat) (k:Qe):Prop:=KOk n k∧1≤k.Name.length∧k.Name.length≤6
theorem GOk.weak {a b:Nat} {k:Qe} (h:GOk a k) (hab:a≤b):GOk b k:=⟨⟨by have:=h.1.1;omega,h.1.2⟩,h.2⟩
theorem fok {n o u:Str} {k lo hi:Int} (h1:SN n) (h2:SN o) (h3:SN u):FOk ⟨n,o,u,k,lo,hi,[],[]⟩:=⟨by simp,by simp,h1,h2,h3⟩
theorem Qmj:SN []:=by simp[SN]
theorem QcM {c:Bool} {a b:Qm} (h:c=true→MOk a) (k:MOk b):MOk (bif c==true then a else b):=by
 cases c with
 | true=>exact h rfl
 | false=>exact k
set_option maxHeartbeats 1000000 in
theorem QyN {m:Qm} {l:List Qe} {N:Nat} (hm:MOk m) (hl:l.length≤2) (hN:N≤20) (hk:∀k∈l,GOk N k):
  Ok (QaZ m l) (fun r=>GOk 9 r.1∧MOk r.2.1∧r.2.2.length=l.length∧∀k∈r.2.2,GOk (N+1) k):=by
 unfold QaZ
 refine Ok.take hm (by decide) fun r1 m1 a1 b1 h1=>?_
 refine Ok.idx a1 (by simpa using b1) fun lo _ _=>?_
 refine Ok.idx (by omega) (by simp;omega) fun name hname _=>?_
 have hn:1≤name.length∧name.length≤6:=by
  simp only[mem_cons,not_mem_nil,or_false] at hname
  rcases hname with rfl | rfl | rfl<;>decide
 have hsn:SN name:=by
  simp only[mem_cons,not_mem_nil,or_false] at hname
  rcases hname with rfl | rfl | rfl<;>simp[SN]
 refine Ok.take h1 (by decide) fun r2 m2 _ _ h2=>?_
 refine Ok.take h2 (by decide) fun r3 m3 a3 b3 h3=>?_
 refine Ok.idx a3 (by simpa using b3) fun id0 _ _=>?_
 refine Ok.rm (by simp) ?_
 refine Ok.bind (P:=fun p:Qm×List Qb×List Qe=>MOk p.1∧p.2.1.length≤4∧(∀f∈p.2.1,FOk f)∧p.2.2.length=l.length∧∀k∈p.2.2,GOk (N+1) k)
  (Ok.ite (fun hpos=>?_) (fun _=>Ok.mk ⟨h3,by simp,by simp[FOk,FN,SN],rfl,fun k h=>(hk k h).weak (by omega)⟩)) fun p hp=>?_
 ·have hpos':(0:Int)<l.length:=of_decide_eq_true hpos
  refine Ok.take h3 (by omega) fun to m4 a4 b4 h4=>?_
  refine Ok.idx a4 b4 fun kt hkt ekt=>?_
  refine Ok.take h4 (by decide) fun r5 m5 a5 b5 h5=>?_
  refine Ok.idx a5 (by simpa using b5) fun hi _ _=>?_
  refine Ok.take h5 (by decide) fun r6 m6 _ _ h6=>?_
  have skt:=(hk kt hkt).1.2.2
  refine Ok.bind (P:=FOk) (Ok.ite (fun _=>Ok.mk (fok (by simp[SN]) skt Qmj)) (fun _=>Ok.mk (fok (by simp[SN]) skt Qmj))) fun f hf=>?_
  refine Ok.rm (by simp) ?_
  refine Ok.idx a4 b4 fun kt1 hkt1 _=>?_
  refine (QnA (by have:=(hk _ hkt1).1.1;omega)).bind fun c hc=>?_
  refine Ok.opt (P:=fun r:Int×Qm=>MOk r.2) (fun h=>(Qc9 h6 (by decide)).weak fun r h=>h.2.2) fun r7 h7=>?_
  have m7:MOk (bif (decide (c≥(0:Int)))==true then r7.2 else m6):=QcM (fun h=>h7 (by rw[h];rfl)) h6
  refine Ok.bind (P:=fun p:List Qb=>p.length≤3∧∀f∈p,FOk f) (Ok.ite (fun h=>?_) (fun _=>Ok.mk ⟨by simp,?_⟩)) fun fs hfs=>?_
  ·simp only[Bool.and_eq_true,decide_eq_true_eq] at h
   refine Ok.idx a4 b4 fun kt2 hkt2 ekt2=>?_
   have e:kt2=kt1:=by simp_all
   subst e
   refine Ok.idx h.1 hc.2 fun g hg _=>Ok.rm (by simp) (Ok.mk ⟨by simp,?_⟩)
   have sg:=((hk _ hkt1).1.2.1 g hg).2.2.1
   intro x hx
   simp only[nil_append,cons_append,mem_cons,not_mem_nil,or_false] at hx
   rcases hx with rfl | rfl | rfl
   ·simp[FOk,FN,SN]
   ·exact hf
   ·exact fok (by simp[SN]) sg (by simp[SN])
  ·intro x hx
   simp only[nil_append,cons_append,mem_cons,not_mem_nil,or_false] at hx
   rcases hx with rfl | rfl
   ·simp[FOk,FN,SN]
   ·exact hf
  ·refine Ok.idx a4 b4 fun kt3 hkt3 ekt3=>?_
   refine (QgQ (by have:=(hk _ hkt3).1.1;omega)).bind fun tot htot=>?_
   refine Ok.opt (P:=fun r:Int×Qm=>MOk r.2) (fun h=>(Qc9 m7 (by decide)).weak fun r h=>h.2.2) fun r8 h8=>?_
   have m8:MOk (bif (decide (tot<(0:Int)))==true then r8.2 else (bif (decide (c≥(0:Int)))==true then r7.2 else m6)):=QcM (fun h=>h8 (by rw[h];rfl)) m7
   refine Ok.bind (P:=fun p:Qm×List Qb×List Qe=>MOk p.1∧p.2.1.length≤4∧(∀f∈p.2.1,FOk f)∧p.2.2.length=l.length∧∀k∈p.2.2,GOk (N+1) k)
    (Ok.ite (fun h=>?_) (fun _=>Ok.mk ⟨m8,by have:=hfs.1;dsimp only;omega,hfs.2,rfl,fun k h=>(hk k h).weak (by omega)⟩)) fun p hp=>Ok.mk hp
   refine Ok.take m8 (by decide) fun r9 m9 _ _ h9=>Ok.take h9 (by decide) fun r10 m10 _ _ h10=>?_
   refine Ok.rm (by have:=hfs.1;simp;omega) ?_
   refine Ok.idx a4 b4 fun kt4 hkt4 ekt4=>?_
   have hk4:=hk _ hkt4
   have hk41:=hk4.1.1
   refine Ok.rm (by simp;omega) (Ok.rm (by simp;omega) ?_)
   refine Ok.idx a4 b4 fun kt5 hkt5 ekt5=>?_
   have e:kt5=kt4:=by simp_all
   subst e
   refine Ok.setAt a4 b4 (Ok.mk ⟨h10,?_,?_,?_,?_⟩)
   ·have:=hfs.1;simp;omega
   ·intro x hx
    rcases mem_append.1 hx with hx | hx
    ·exact hfs.2 x hx
    ·rw[mem_singleton] at hx;subst hx;simp[FOk,FN,SN]
   ·simp
   ·intro k hkm
    rcases mem_or_eq_of_mem_set hkm with hkm | rfl
    ·exact (hk k hkm).weak (by omega)
    ·refine⟨⟨?_,?_,hk4.1.2.2⟩,hk4.2⟩
     ·simp;omega
     ·intro x hx
      rcases mem_append.1 hx with hx | hx
      ·exact hk4.1.2.1 x (by simpa using hx)
      ·rw[mem_singleton] at hx;subst hx;exact fok (by simp[SN]) hsn Qmj
 ·obtain⟨q1,q2,q3,q4,q5⟩:=hp
  refine Ok.opt (P:=fun r:Int×Qm=>MOk r.2) (fun h=>(Qc9 q1 (by decide)).weak fun r h=>h.2.2) fun r11 h11=>?_
  have m11:MOk (bif (decide ((l.length:Int)>(1:Int)))==true then r11.2 else p.1):=QcM (fun h=>h11 (by rw[h];rfl)) q1
  refine Ok.bind (P:=fun p:List Qb=>p.length≤5∧∀f∈p,FOk f) (Ok.ite (fun h=>?_) (fun _=>Ok.mk ⟨by omega,q3⟩)) fun fs hfs=>?_
  ·simp only[Bool.and_eq_true,decide_eq_true_eq] at h
   refine Ok.idx (by decide) (by omega) fun k0 hk0 _=>Ok.rm (by simp;omega) (Ok.mk ⟨by simp;omega,?_⟩)
   intro x hx
   rcases mem_append.1 hx with hx | hx
   ·exact q3 x hx
   ·rw[mem_singleton] at hx;subst hx;exact fok (by simp[SN]) (q5 k0 hk0).1.2.2 Qmj
  ·refine (Qpe m11).bind fun r12 h12=>?_
   obtain⟨c1,c2,c3⟩:=h12
   obtain⟨f1,f2⟩:=hfs
   refine Ok.rm (by omega) ?_
   refine Ok.take c3 (by decide) fun r13 m13 _ _ h13=>?_
   have all7:∀f∈fs++r12.1,FOk f:=fun x hx=>(mem_append.1 hx).elim (f2 x) (c2 x)
   have len7:(fs++r12.1).length≤7:=by simp;omega
   refine Ok.bind (P:=fun p:Qm×List Qb=>MOk p.1∧p.2.length≤9∧∀f∈p.2,FOk f) (Ok.ite (fun h=>?_) (fun _=>Ok.mk ⟨h13,by dsimp only;omega,all7⟩)) fun p52 hp52=>Ok.mk ⟨⟨⟨hp52.2.1,hp52.2.2,hsn⟩,hn⟩,hp52.1,q4,q5⟩
   refine (Qpe h13).bind fun r14 h14=>?_
   obtain⟨d1,d2,d3⟩:=h14
   refine Ok.opt (P:=fun _=>True) (fun h=>?_) fun g _=>?_
   ·have h':(r14.1.length:Int)>0:=by simpa using h
    exact (Ok.idx (by decide) (by omega) fun v _ _=>Ok.mk trivial:Ok ((idx r14.1 0).bind some) _).weak (fun _ h=>h) |> fun h=>by simpa using h
   refine Ok.opt (P:=fun _=>True) (fun h=>(QgQ (by omega)).weak fun _ _=>trivial) fun g2 _=>?_
   refine Ok.bind (P:=fun p:List Qb=>p.length≤9∧∀f∈p,FOk f) (Ok.ite (fun h=>Ok.rm (by omega) (Ok.mk ⟨by rw[length_append];omega,fun x hx=>(mem_append.1 hx).elim (all7 x) (d2 x)⟩)) (fun _=>Ok.mk ⟨by omega,all7⟩)) fun p64 hp64=>Ok.mk ⟨d3,hp64.1,hp64.2⟩
end Go.Proofs.YtlajingmjmnfgaaGreatDoor
namespace Go.Proofs.YtlajingmjmnfgaaGreatDoor
open Go.Sim
/-- The names of a rule. -/
def RN (r:Qj):Prop:=SN r.Name∧SN r.Kind∧SN r.A∧SN r.B
theorem Qpf {a r:Str} (h1:1≤a.length) (h2:a.length≤10) (h:a.head?≠some 122) (hr:r.length=1):SN (a++r):=by
 refine⟨by rw[length_append];omega,?_⟩
 cases a with
 | nil=>simp at h1
 | cons c a=>simpa using h
theorem QyO {m:Qm} {k:Qe} (hm:MOk m) (hk:GOk 12 k):Ok (Qa0 m k) (fun r=>RN r.1∧MOk r.2.2):=by
 unfold Qa0
 obtain⟨⟨k1,k2,ks⟩,k3,k4⟩:=hk
 refine (QgQ (by omega)).bind fun a ha=>(QgQ (by omega)).bind fun b hb=>?_
 refine Ok.opt (P:=fun r:Int×Qm=>MOk r.2) (fun h=>(Qc9 hm (by decide)).weak fun r h=>h.2.2) fun r1 h1=>?_
 have m1:MOk (bif (decide (a≥(0:Int)))==true then r1.2 else m):=QcM (fun h=>h1 (by rw[h];rfl)) hm
 have nm:∀{β:Type} {Q:β→Prop} {f:Str→Option β},(∀r:Str,r.length=1→Ok (f r) Q)→Ok ((sub k.Name 0 1).bind f) Q:=fun h=>Ok.sub (by decide) (by decide) (by omega) fun r hr _=>h r (by simpa using hr)
 refine Ok.ite (fun _=>nm fun r hr=>Ok.cat (by simp;omega) (Ok.take m1 (by decide) fun _ m2 _ _ h2=>Ok.mk ⟨⟨Qpf (by simp) (by simp) (by simp) hr,ks,by simp[SN],by simp[SN]⟩,h2⟩)) (fun _=>?_)
 refine Ok.ite (fun _=>Ok.mk ⟨by simp[RN,SN],m1⟩) (fun h=>?_)
 have hb0:¬b<0:=of_decide_eq_false h
 refine Ok.idx (by omega) hb.2 fun f _ _=>Ok.take m1 (by decide) fun r2 m2 _ _ h2=>?_
 refine Ok.ite (fun _=>nm fun r hr=>Ok.cat (by simp;omega) (Ok.take h2 (by decide) fun _ m2 _ _ h2=>Ok.mk ⟨⟨Qpf (by simp) (by simp) (by simp) hr,ks,by simp[SN],by simp[SN]⟩,h2⟩)) (fun _=>nm fun r hr=>Ok.cat (by simp;omega) (Ok.take h2 (by decide) fun _ m2 _ _ h2=>Ok.mk ⟨⟨Qpf (by simp) (by simp) (by simp) hr,ks,by simp[SN],by simp[SN]⟩,h2⟩))
/-- A schema of the generators. -/
def SOk (n:Nat) (x:Qa):Prop:=x.Kinds.length≤3∧(∀k∈x.Kinds,KOk 14 k)∧x.Lives.length≤1∧(∀m∈x.Lives,m.States.length≤6∧m.Moves.length≤8∧SN m.Name)∧x.Rules.length≤n∧∀r∈x.Rules,RN r
theorem Qt8 {l:List Int} (hl:∀x∈l,I64 x):Ok (QbF l) (SOk 2):=by
 unfold QbF
 refine Ok.sub (by decide) (by unfold imin;split<;>omega) (by unfold imin;split<;>omega) fun w _ hw=>?_
 have h0:MOk (Qm.mk w 0):=fun x hx=>hl x (hw x hx)
 refine Ok.take h0 (by decide) fun v m1 _ _ h1=>Ok.take h1 (by decide) fun n m2 a2 b2 h2=>?_
 have en:i64.wrap (1+n)=1+n:=w64 (by omega) (by omega)
 refine Ok.bind (P:=fun p:List Qe×Qm=>p.1.length=1+n∧(∀k∈p.1,GOk 12 k)∧MOk p.2)
  (Ok.loop (fun k s=>0≤s.1∧s.1+k=1+n∧s.2.1.length=s.1∧(∀q∈s.2.1,GOk (9+s.1.toNat) q)∧MOk s.2.2) (1+n).toNat ⟨Int.le_refl _,by dsimp only;omega,by simp,by simp,h2⟩ fun k s hs=>?_) (fun p hp=>?_)
 ·obtain⟨i,ks,m3⟩:=s
  obtain⟨e1,e2,e3,e4,e5⟩:=hs
  dsimp only at e1 e2 e3 e4 e5
  refine Ok.ite (fun h=>?_) (fun h=>?_)
  ·have h':i<1+n:=by have:=of_decide_eq_true h;rwa [en] at this
   refine (QyN (N:=9+i.toNat) e5 (by omega) (by omega) e4).bind fun r hr=>?_
   obtain⟨r1,r2,r3,r4⟩:=hr
   refine Ok.rm (by simp;omega) (Ok.mk ?_)
   have ei:i64.wrap (i+1)=i+1:=w64 (by omega) (by omega)
   refine⟨k - 1,by omega,?_⟩
   dsimp only
   rw[ei]
   refine⟨by omega,by omega,by simp;omega,fun q hq=>?_,r2⟩
   rcases mem_append.1 hq with hq | hq
   ·exact (r4 q hq).weak (by omega)
   ·rw[mem_singleton] at hq;subst hq;exact r1.weak (by omega)
  ·have h':¬i<1+n:=by have:=of_decide_eq_false h;rwa [en] at this
   refine Ok.mk ⟨by dsimp only;omega,fun q hq=>(e4 q hq).weak (by omega),e5⟩
 obtain⟨p1,p2,p3⟩:=hp
 refine Ok.take p3 (by decide) fun t m4 a4 b4 h4=>?_
 have et:i64.wrap (2+t)=2+t:=w64 (by omega) (by omega)
 refine Ok.sub (by decide) (by dsimp only;rw[et];omega) (by dsimp only;rw[et];simp;omega) fun st hst _=>?_
 dsimp only at hst
 rw[et] at hst
 have hsl:2≤st.length∧st.length≤4:=by omega
 refine Ok.bind (P:=fun p:List QE=>p.length≤3) (Ok.loop (fun k s=>0≤s.1∧s.1+1+k=st.length∧s.2.length=s.1) (st.length - 1) ⟨Int.le_refl _,by dsimp only;omega,by simp⟩ fun k s hs=>?_) (fun mv hmv=>?_)
 ·obtain⟨i,ms⟩:=s
  obtain⟨e1,e2,e3⟩:=hs
  dsimp only at e1 e2 e3
  have ei:i64.wrap (i+1)=i+1:=w64 (by omega) (by omega)
  refine Ok.ite (fun h=>?_) (fun h=>?_)
  ·have h':i+1<st.length:=by have:=of_decide_eq_true h;rwa [ei] at this
   refine Ok.rm (by simp;omega) (Ok.mk ⟨k - 1,by omega,?_⟩)
   dsimp only
   rw[ei]
   exact⟨by omega,by omega,by simp;omega⟩
  ·have h':¬i+1<st.length:=by have:=of_decide_eq_false h;rwa [ei] at this
   exact Ok.mk (by dsimp only;omega)
 refine Ok.take h4 (by decide) fun r5 m5 _ _ h5=>?_
 refine Ok.bind (P:=fun p:List QE=>p.length≤4) (Ok.ite (fun _=>Ok.rm (by simp;omega) (Ok.mk (by simp;omega))) (fun _=>Ok.mk (by omega))) fun mv2 hmv2=>?_
 refine Ok.take h5 (by decide) fun r6 m6 _ _ h6=>?_
 refine Ok.bind (P:=fun p:List QE=>p.length≤5) (Ok.ite (fun _=>Ok.rm (by simp;omega) (Ok.mk (by simp;omega))) (fun _=>Ok.mk (by omega))) fun mv3 hmv3=>?_
 refine Ok.rm (by simp) ?_
 refine Ok.bind (P:=fun p:List Qj=>p.length≤2∧∀r∈p,RN r) (Ok.loop (fun k s=>0≤s.1∧s.1+k=1+n∧(s.2.1.length≤2∧∀r∈s.2.1,RN r)∧MOk s.2.2) (1+n).toNat ⟨Int.le_refl _,by dsimp only;omega,by simp,h6⟩ fun k s hs=>?_) (fun rs hrs=>?_)
 ·obtain⟨i,rs,m7⟩:=s
  obtain⟨e1,e2,e3,e4⟩:=hs
  dsimp only at e1 e2 e3 e4
  refine Ok.ite (fun h=>?_) (fun h=>Ok.mk e3)
  simp only[Bool.and_eq_true,decide_eq_true_eq,en] at h
  refine Ok.idx e1 (by omega) fun q hq _=>(QyO e4 (p2 q hq)).bind fun r hr=>?_
  refine Ok.bind (P:=fun p:List Qj=>p.length≤2∧∀r∈p,RN r) (Ok.ite (fun _=>Ok.rm (by simp;omega) (Ok.mk ⟨by simp;omega,fun y hy=>(mem_append.1 hy).elim (e3.2 y) fun hy=>by rw[mem_singleton] at hy;subst hy;exact hr.1⟩)) (fun _=>Ok.mk e3)) fun rs2 hrs2=>Ok.mk ⟨k - 1,by omega,?_⟩
  dsimp only
  rw[w64 (n:=i+1) (by omega) (by omega)]
  exact⟨by omega,by omega,hrs2,hr.2⟩
 ·refine Ok.mk ⟨by dsimp only;omega,fun q hq=>⟨by have:=(p2 q hq).1.1;omega,(p2 q hq).1.2⟩,by simp,?_,hrs⟩
  intro q hq
  simp only[nil_append,mem_singleton] at hq
  subst hq
  exact⟨by dsimp only;omega,by dsimp only;omega,by simp[SN]⟩
end Go.Proofs.YtlajingmjmnfgaaGreatDoor
namespace Go.Proofs.YtlajingmjmnfgaaGreatDoor
open Go.Sim
end Go.Proofs.YtlajingmjmnfgaaGreatDoor
namespace Go.Proofs.YtlajingmjmnfgaaGreatDoor
open Go.Sim
def FZ (f:Qb):Prop:=f.Words.length≤7∧f.Weights.length≤7∧FN f
def KA (l:List Qe):Prop:=l.length≤3∧∀k∈l,k.Fields.length≤14∧(∀f∈k.Fields,FZ f)∧SN k.Name
def LA (l:List Qw):Prop:=l.length≤1∧∀m∈l,m.States.length≤7∧m.Moves.length≤9∧SN m.Name
/-- A schema of the laws. -/
def RA (l:List Qj):Prop:=l.length≤4∧∀r∈l,RN r
def Sz (x:Qa):Prop:=KA x.Kinds∧LA x.Lives∧RA x.Rules
theorem FOk.z {f:Qb} (h:FOk f):FZ f:=⟨by have:=h.1;omega,by have:=h.2.1;omega,h.2.2⟩
theorem SOk.sz {n:Nat} {x:Qa} (h:SOk n x) (hn:n≤4):Sz x:=
 ⟨⟨h.1,fun k hk=>⟨(h.2.1 k hk).1,fun f hf=>((h.2.1 k hk).2.1 f hf).z,(h.2.1 k hk).2.2⟩⟩,⟨h.2.2.1,fun m hm=>⟨by have:=(h.2.2.2.1 m hm).1;omega,by have:=(h.2.2.2.1 m hm).2.1;omega,(h.2.2.2.1 m hm).2.2⟩⟩,Nat.le_trans h.2.2.2.2.1 hn,h.2.2.2.2.2⟩
end Go.Proofs.YtlajingmjmnfgaaGreatDoor
namespace Go.Proofs.YtlajingmjmnfgaaGreatDoor
open Go.Sim
/-- The index of the first element that is so; -1: none is. -/
def Qau {α:Type} (s:List α) (p:α→Bool):Int:=match s.findIdx? p with | some k=>(k:Int) | none=>-1
theorem Qfv {α:Type} (s:List α) (p:α→Bool):-1≤Qau s p∧Qau s p<s.length:=by
 unfold Qau
 cases h:s.findIdx? p with
 | none=>exact⟨by decide,by show (-1:Int)<_;omega⟩
 | some k=>
  have:=(findIdx?_eq_some_iff_getElem.1 h).1
  exact⟨by show (-1:Int)≤(k:Int);omega,by show (k:Int)<_;omega⟩
theorem QcN {α:Type} (s:List α) (p:α→Bool) {body:Int→Option (Int⊕(Unit⊕Int))}
  (hb:∀k (h:k<s.length),body (k:Int)=if p s[k]=true then some (.inr (.inr (k:Int))) else some (.inl ((k+1:Nat):Int))) (he:body (s.length:Int)=some (.inr (.inl ()))):
  Qo body (0:Int)=some (match s.findIdx? p with | some k=>.inr (k:Int) | none=>.inl ()):=by
 obtain⟨q,hq⟩:∃q:Nat→Bool,∀k (h:k<s.length),q k=p s[k]:=⟨fun k=>if h:k<s.length then p s[k] else false,fun k h=>dif_pos h⟩
 rcases QhE (ρ:=Unit⊕Int) s.length q (.inl ()) (fun k=>.inr (k:Int))
  (fun k hk hp=>by rw[hb k hk,if_neg (by rw[←hq k hk,hp];decide)]) (fun k hk hp=>by rw[hb k hk,if_pos (by rw[←hq k hk,hp])]) he with⟨k,hk,hp,hj,e⟩ | ⟨hp,e⟩
 ·have:s.findIdx? p=some k:=by
   rw[findIdx?_eq_some_iff_getElem]
   refine⟨hk,by rw[←hq k hk,hp],fun j hj'=>?_⟩
   have:=hj j hj'
   rw[hq j (by omega)] at this
   simp[this]
  rw[e,this]
 ·have:s.findIdx? p=none:=by
   rw[findIdx?_eq_none_iff]
   intro x hx
   obtain⟨k,hk,rfl⟩:=getElem_of_mem hx
   have:=hp k hk
   rwa [hq k hk] at this
  rw[e,this]
section
variable {p:Qe→Bool} {q:Qb→Bool}
theorem QnB {s:List Qe} {f:Qe→Option Bool} (hs:s.length≤1000000) (hf:∀x∈s,f x=some (p x)):Qbi s f=some (Qau s p):=by
 unfold Qbi
 rw[QcN s p (fun k hk=>?_) ?_]
 ·unfold Qau;cases s.findIdx? p<;>rfl
 ·rw[if_neg (by simp)]
 ·rw[if_pos (by simpa using hk),QY hk]
  show (f s[k]).bind _=_
  rw[hf _ (getElem_mem hk),QK hk (by omega)];rfl
theorem Qmk {s:List Qb} {f:Qb→Option Bool} (hs:s.length≤1000000) (hf:∀x∈s,f x=some (q x)):Qba s f=some (Qau s q):=by
 unfold Qba
 rw[QcN s q (fun k hk=>?_) ?_]
 ·unfold Qau;cases s.findIdx? q<;>rfl
 ·rw[if_neg (by simp)]
 ·rw[if_pos (by simpa using hk),QY hk]
  show (f s[k]).bind _=_
  rw[hf _ (getElem_mem hk),QK hk (by omega)];rfl
end
/-- The kind, the field with a name. -/
def kindIx (x:Qa) (n:Str):Int:=Qau x.Kinds fun k=>k.Name==n
def fieldIx (k:Qe) (n:Str):Int:=Qau k.Fields fun f=>f.Name==n
theorem Qcq {x:Qa} {n:Str} (hx:x.Kinds.length≤1000000):QbC x n=some (kindIx x n):=by
 unfold QbC
 rw[QnB (f:=fun x0=>Qft x0 n) (p:=fun k=>k.Name==n) hx (fun k _=>rfl)];rfl
theorem QbU {k:Qe} {n:Str} (hx:k.Fields.length≤1000000):Qbh k n=some (fieldIx k n):=by
 unfold Qbh
 rw[Qmk (f:=fun x0=>QeZ x0 n) (q:=fun k=>k.Name==n) hx (fun k _=>rfl)];rfl
/-- The field of a schema, if there is one. -/
def field? (x:Qa) (k j:Int):Option Qb:=if 0≤k∧0≤j then x.Kinds[k.toNat]?.bind fun q=>q.Fields[j.toNat]? else none
def QdJ:Qb:=Qb.mk [] [] [] 0 0 0 [] []
theorem Qfw {x:Qa} {k j:Int} {f:Qb} (h:field? x k j=some f):∃q,0≤k∧0≤j∧idx x.Kinds k=some q∧idx q.Fields j=some f∧q∈x.Kinds∧k<x.Kinds.length∧j<q.Fields.length:=by
 unfold field? at h
 split at h
 ·rename_i hk
  obtain⟨q,h1,h2⟩:=Option.bind_eq_some_iff.1 h
  refine⟨q,hk.1,hk.2,by rw[Qgx _ hk.1,h1],by rw[Qgx _ hk.2,h2],mem_of_getElem? h1,?_,?_⟩
  ·have:=(List.getElem?_eq_some_iff.1 h1).1;omega
  ·have:=(List.getElem?_eq_some_iff.1 h2).1;omega
 ·cases h
theorem Qlo {x:Qa} {k j:Int} {q:Qe} {f:Qb} (hk:0≤k) (hj:0≤j) (h1:idx x.Kinds k=some q) (h2:idx q.Fields j=some f):field? x k j=some f:=by
 rw[Qgx _ hk] at h1;rw[Qgx _ hj] at h2
 unfold field?
 rw[if_pos ⟨hk,hj⟩,h1];exact h2
theorem QgA {α:Type} {l:List α} {i:Int} (h0:0≤i) (h1:i<l.length):∃v,idx l i=some v∧v∈l:=by
 have hlt:i.toNat<l.length:=by omega
 exact⟨l[i.toNat],by rw[Qgx l h0,getElem?_eq_getElem hlt],getElem_mem hlt⟩
theorem Qjj (x:Qa) (k j:Int):Qcw x k j=some (match field? x k j with | some f=>(f,true) | none=>(QdJ,false)):=by
 unfold Qcw
 by_cases hc:(0≤k∧k<x.Kinds.length)∧0≤j
 ·obtain⟨⟨h1,h2⟩,h3⟩:=hc
  obtain⟨q,hq,_⟩:=QgA h1 h2
  have c:((decide (k<0)||decide (k≥(x.Kinds.length:Int)))||decide (j<0))=false:=by simp;omega
  rw[c,hq]
  show (if (false||decide (j≥(q.Fields.length:Int)))=true then _ else _)=_
  by_cases h4:j<q.Fields.length
  ·obtain⟨f,hf,_⟩:=QgA h3 h4
   rw[if_neg (by simp;omega),Qlo h1 h3 hq hf]
   show (idx q.Fields j).bind _=_
   rw[hf];rfl
  ·rw[if_pos (by simp;omega)]
   have:field? x k j=none:=by
    cases h:field? x k j with
    | none=>rfl
    | some f=>
     obtain⟨q',_,_,e1,e2,_,_,e3⟩:=Qfw h
     rw[hq] at e1;cases e1;exact (h4 e3).elim
   rw[this];rfl
 ·have c:((decide (k<0)||decide (k≥(x.Kinds.length:Int)))||decide (j<0))=true:=by simp;omega
  rw[c]
  have:field? x k j=none:=by
   cases h:field? x k j with
   | none=>rfl
   | some f=>
    obtain⟨q',e1,e2,_,_,_,e3,_⟩:=Qfw h
    exact (hc ⟨⟨e1,e3⟩,e2⟩).elim
  rw[this];rfl
end Go.Proofs.YtlajingmjmnfgaaGreatDoor
namespace Go.Proofs.YtlajingmjmnfgaaGreatDoor
open Go.Sim
/-- What the way up needs of a schema: it is small. -/
def Few (x:Qa):Prop:=x.Kinds.length≤1000∧∀k∈x.Kinds,k.Fields.length≤1000
theorem Sz.few {x:Qa} (h:Sz x):Few x:=⟨by have:=h.1.1;omega,fun k hk=>by have:=(h.1.2 k hk).1;omega⟩
def Qgc (x:Qa) (k:Int) (g:Qb):Int:=if kindIx x g.Of<k then kindIx x g.Of else -1
/-- The kind to which a field leads. -/
def upIx (x:Qa) (k j:Int):Int:=
 match field? x k j with
 | none=>-1
 | some f=>
  if f.Kind=7∨f.Kind=8 then
   match idx x.Kinds k with
   | none=>-1
   | some q=>if fieldIx q f.Up<j then (match field? x k (fieldIx q f.Up) with | some g=>if g.Kind=1 then Qgc x k g else -1 | none=>-1) else -1
  else if f.Kind=1 then Qgc x k f else -1
theorem Qrc {x:Qa} {k j:Int} {g:Qb} {self:Qa→Int→Int→Option Int} (hx:Few x) (h:field? x k j=some g) (hg:g.Kind=1):Qc2 self x k j=some (Qgc x k g):=by
 unfold Qc2
 rw[Qjj,h]
 simp only[Option.bind_some,Bool.not_true,hg]
 rw[if_neg (by decide),if_neg (by decide),if_neg (by decide),Qcq (by have:=hx.1;omega)]
 simp only[Option.bind_some,Qgc]
 by_cases hl:kindIx x g.Of<k
 ·rw[if_pos (by simpa using hl),if_pos hl]
 ·rw[if_neg (by simpa using hl),if_neg hl]
theorem upS_is {x:Qa} {k j:Int} {self:Qa→Int→Int→Option Int} (hx:Few x) (hs:∀u g,field? x k u=some g→g.Kind=1→self x k u=some (Qgc x k g)):Qc2 self x k j=some (upIx x k j):=by
 cases hf:field? x k j with
 | none=>
  unfold Qc2 upIx
  rw[Qjj,hf];rfl
 | some f=>
  by_cases h1:f.Kind=1
  ·rw[Qrc hx hf h1]
   unfold upIx
   rw[hf]
   simp[h1]
  unfold Qc2 upIx
  rw[Qjj,hf]
  simp only[Option.bind_some,Bool.not_true]
  rw[if_neg (by decide)]
  by_cases c:f.Kind=7∨f.Kind=8
  ·obtain⟨q,hk,hj,hq,hqf,hqm,_,_⟩:=Qfw hf
   rw[if_pos (by simpa using c),if_pos c,hq]
   simp only[Option.bind_some]
   rw[QbU (by have:=hx.2 q hqm;omega)]
   simp only[Option.bind_some]
   rw[Qjj]
   simp only[Option.bind_some]
   cases hg:field? x k (fieldIx q f.Up) with
   | none=>simp
   | some g=>
    simp only
    by_cases hu:fieldIx q f.Up<j
    ·by_cases hg1:g.Kind=1
     ·rw[if_pos (by simp[hu,hg1]),hs _ g hg hg1,if_pos hu,if_pos hg1];rfl
     ·rw[if_neg (by simp[hg1]),if_pos hu,if_neg hg1]
    ·rw[if_neg (by simp[hu]),if_neg hu]
  ·rw[if_neg (by simpa using c),if_neg c,if_pos (by simpa using h1),if_neg h1]
theorem Qgd {x:Qa} {k j:Int} (hx:Few x):QdF x k j=some (upIx x k j):=by
 unfold QdF
 exact upS_is hx fun u g h hg=>Qrc hx h hg
/-! Shares -/
theorem Qt9 (p:Nat→Bool) (k:Nat):((range (k+1)).filter p).map Int.ofNat=if p k=true then ((range k).filter p).map Int.ofNat++[(k:Int)] else ((range k).filter p).map Int.ofNat:=by
 rw[range_succ,filter_append,map_append]
 by_cases h:p k=true
 ·rw[if_pos h];simp[h]
 ·rw[if_neg h];simp[h]
theorem Qwf (p:Nat→Bool) (k:Nat):(((range k).filter p).map Int.ofNat).length≤k:=by
 rw[length_map]
 have:=length_filter_le p (range k)
 simpa using this
def QhG (x:Qa) (o k:Int) (nm:Str) (fs:List Qb) (i:Nat):Bool:=match fs[i]? with | some g=>g.Kind==7&&g.Of==nm&&upIx x o (i:Int)==k | none=>false
def shl (x:Qa) (o k:Int) (nm:Str):List Int:=match idx x.Kinds o with | some q=>((range q.Fields.length).filter (QhG x o k nm q.Fields)).map Int.ofNat | none=>[]
def QkI (x:Qa) (k:Int) (f:Qb):Int×List Int:=if f.Kind≠6∨kindIx x f.Of≤k then (-1,[]) else (kindIx x f.Of,shl x (kindIx x f.Of) k f.Name)
theorem Qkc (x:Qa) (n:Str):-1≤kindIx x n∧kindIx x n<x.Kinds.length:=Qfv _ _
theorem Qua {x:Qa} {k:Int} {f:Qb} (hx:Few x) (hk:0≤k):Qeb x k f=some (QkI x k f):=by
 unfold Qeb
 rw[Qcq (by have:=hx.1;omega)]
 simp only[Option.bind_some]
 unfold QkI
 by_cases c:f.Kind≠6∨kindIx x f.Of≤k
 ·rw[if_pos (by simpa using c),if_pos c]
 rw[if_neg (by simpa using c),if_neg c]
 have c':k<kindIx x f.Of:=by
  rcases Int.lt_or_le k (kindIx x f.Of) with h | h
  ·exact h
  ·exact (c (.inr h)).elim
 obtain⟨q,hq,hqm⟩:=QgA (l:=x.Kinds) (i:=kindIx x f.Of) (by omega) (Qkc x f.Of).2
 have hl:=hx.2 q hqm
 rw[hq]
 simp only[Option.bind_some]
 refine Qeu q.Fields.length (fun n=>((n:Int),((range n).filter (QhG x (kindIx x f.Of) k f.Name q.Fields)).map Int.ofNat)) _ rfl (fun n hn=>?_) (if_neg (by simp)) ?_
 ·rw[if_pos (by simpa using hn),QY hn]
  simp only[Option.bind_some]
  rw[Qgd hx]
  have e:QhG x (kindIx x f.Of) k f.Name q.Fields n=(q.Fields[n].Kind==7&&q.Fields[n].Of==f.Name&&upIx x (kindIx x f.Of) (n:Int)==k):=by
   unfold QhG;rw[getElem?_eq_getElem hn]
  have hle:=Qwf (QhG x (kindIx x f.Of) k f.Name q.Fields) n
  rw[Qt9,e,QK hn (by omega)]
  cases h1:(q.Fields[n].Kind==7&&q.Fields[n].Of==f.Name) with
  | false=>rfl
  | true=>
   simp only[Sim.opt,Bool.true_and,if_true,beq_self_eq_true,Option.bind_some]
   cases h2:upIx x (kindIx x f.Of) (n:Int)==k with
   | false=>rfl
   | true=>
    rw[if_pos rfl,if_pos rfl,Qcj (by rw[length_singleton];omega)]
    rfl
 ·unfold shl;rw[hq]
end Go.Proofs.YtlajingmjmnfgaaGreatDoor
namespace Go.Proofs.YtlajingmjmnfgaaGreatDoor
open Go.Sim
theorem Qdq {α:Type} (s:List α) (p:α→Bool):decide (Qau s p≥0)=s.any p:=by
 unfold Qau
 cases h:s.findIdx? p with
 | none=>
  have:=findIdx?_eq_none_iff.1 h
  rw[Eq.comm,any_eq_false.2 (fun x hx=>by simp[this x hx])]
  rfl
 | some k=>
  obtain⟨hk,hp,_⟩:=findIdx?_eq_some_iff_getElem.1 h
  rw[Eq.comm,any_eq_true.2 ⟨_,getElem_mem hk,hp⟩,Eq.comm]
  exact decide_eq_true (Int.natCast_nonneg k)
theorem QgB {α:Type} (s:List α) (p:α→Bool):(!s.any fun x=>!p x)=s.all p:=by
 induction s with
 | nil=>rfl
 | cons a s ih=>simp only[any_cons,all_cons,Bool.not_or,Bool.not_not,ih]
theorem Qub {s:List Qw} {f:Qw→Option Bool} {p:Qw→Bool} (hs:s.length≤1000000) (hf:∀x∈s,f x=some (p x)):QbX s f=some (Qau s p):=by
 unfold QbX
 rw[QcN s p (fun k hk=>?_) ?_]
 ·unfold Qau;cases s.findIdx? p<;>rfl
 ·rw[if_neg (by simp)]
 ·rw[if_pos (by simpa using hk),QY hk]
  show (f s[k]).bind _=_
  rw[hf _ (getElem_mem hk),QK hk (by omega)];rfl
theorem Quc {s:List Qj} {f:Qj→Option Bool} {p:Qj→Bool} (hs:s.length≤1000000) (hf:∀x∈s,f x=some (p x)):QbY s f=some (Qau s p):=by
 unfold QbY
 rw[QcN s p (fun k hk=>?_) ?_]
 ·unfold Qau;cases s.findIdx? p<;>rfl
 ·rw[if_neg (by simp)]
 ·rw[if_pos (by simpa using hk),QY hk]
  show (f s[k]).bind _=_
  rw[hf _ (getElem_mem hk),QK hk (by omega)];rfl
theorem Qud {s:List Int} {f:Int→Option Bool} {p:Int→Bool} (hs:s.length≤1000000) (hf:∀x∈s,f x=some (p x)):QbW s f=some (Qau s p):=by
 unfold QbW
 rw[QcN s p (fun k hk=>?_) ?_]
 ·unfold Qau;cases s.findIdx? p<;>rfl
 ·rw[if_neg (by simp)]
 ·rw[if_pos (by simpa using hk),QY hk]
  show (f s[k]).bind _=_
  rw[hf _ (getElem_mem hk),QK hk (by omega)];rfl
theorem Qqn {s:List Str} {f:Str→Option Bool} {p:Str→Bool} (hs:s.length≤1000000) (hf:∀x∈s,f x=some (p x)):QbA s f=some (Qau s p):=by
 unfold QbA
 rw[QcN s p (fun k hk=>?_) ?_]
 ·unfold Qau;cases s.findIdx? p<;>rfl
 ·rw[if_neg (by simp)]
 ·rw[if_pos (by simpa using hk),QY hk]
  show (f s[k]).bind _=_
  rw[hf _ (getElem_mem hk),QK hk (by omega)];rfl
theorem Qqo {s:List QE} {f:QE→Option Bool} {p:QE→Bool} (hs:s.length≤1000000) (hf:∀x∈s,f x=some (p x)):QbB s f=some (Qau s p):=by
 unfold QbB
 rw[QcN s p (fun k hk=>?_) ?_]
 ·unfold Qau;cases s.findIdx? p<;>rfl
 ·rw[if_neg (by simp)]
 ·rw[if_pos (by simpa using hk),QY hk]
  show (f s[k]).bind _=_
  rw[hf _ (getElem_mem hk),QK hk (by omega)];rfl
theorem Qpg {s:List Qe} {f:Qe→Option Bool} {p:Qe→Bool} (hs:s.length≤1000000) (hf:∀x∈s,f x=some (p x)):Qbq s f=some (s.any p):=by
 unfold Qbq
 rw[QnB hs hf,←Qdq];rfl
theorem QyP {s:List Qe} {f:Qe→Option Bool} {p:Qe→Bool} (hs:s.length≤1000000) (hf:∀x∈s,f x=some (p x)):Qdc s f=some (s.all p):=by
 unfold Qdc
 rw[Qpg (p:=fun x=>!p x) hs (fun x hx=>by show (f x).bind _=_;rw[hf x hx];rfl),←QgB];rfl
theorem Qoa {s:List Qb} {f:Qb→Option Bool} {p:Qb→Bool} (hs:s.length≤1000000) (hf:∀x∈s,f x=some (p x)):Qbg s f=some (s.any p):=by
 unfold Qbg
 rw[Qmk hs hf,←Qdq];rfl
theorem Qwg {s:List Qb} {f:Qb→Option Bool} {p:Qb→Bool} (hs:s.length≤1000000) (hf:∀x∈s,f x=some (p x)):QcQ s f=some (s.all p):=by
 unfold QcQ
 rw[Qoa (p:=fun x=>!p x) hs (fun x hx=>by show (f x).bind _=_;rw[hf x hx];rfl),←QgB];rfl
theorem QhH {s:List Qw} {f:Qw→Option Bool} {p:Qw→Bool} (hs:s.length≤1000000) (hf:∀x∈s,f x=some (p x)):QaA s f=some (s.any p):=by
 unfold QaA
 rw[Qub hs hf,←Qdq];rfl
theorem QyQ {s:List Qw} {f:Qw→Option Bool} {p:Qw→Bool} (hs:s.length≤1000000) (hf:∀x∈s,f x=some (p x)):Qde s f=some (s.all p):=by
 unfold Qde
 rw[QhH (p:=fun x=>!p x) hs (fun x hx=>by show (f x).bind _=_;rw[hf x hx];rfl),←QgB];rfl
theorem Qkd {s:List Qj} {f:Qj→Option Bool} {p:Qj→Bool} (hs:s.length≤1000000) (hf:∀x∈s,f x=some (p x)):QaT s f=some (s.any p):=by
 unfold QaT
 rw[Quc hs hf,←Qdq];rfl
theorem QyR {s:List Qj} {f:Qj→Option Bool} {p:Qj→Bool} (hs:s.length≤1000000) (hf:∀x∈s,f x=some (p x)):Qdg s f=some (s.all p):=by
 unfold Qdg
 rw[Qkd (p:=fun x=>!p x) hs (fun x hx=>by show (f x).bind _=_;rw[hf x hx];rfl),←QgB];rfl
theorem Qph {s:List Int} {f:Int→Option Bool} {p:Int→Bool} (hs:s.length≤1000000) (hf:∀x∈s,f x=some (p x)):Qbr s f=some (s.any p):=by
 unfold Qbr
 rw[Qud hs hf,←Qdq];rfl
theorem Qm0 {s:List Str} {f:Str→Option Bool} {p:Str→Bool} (hs:s.length≤1000000) (hf:∀x∈s,f x=some (p x)):Qa8 s f=some (s.any p):=by
 unfold Qa8
 rw[Qqn hs hf,←Qdq];rfl
theorem QnC {s:List Str} {f:Str→Option Bool} {p:Str→Bool} (hs:s.length≤1000000) (hf:∀x∈s,f x=some (p x)):Qb6 s f=some (s.all p):=by
 unfold Qb6
 rw[Qm0 (p:=fun x=>!p x) hs (fun x hx=>by show (f x).bind _=_;rw[hf x hx];rfl),←QgB];rfl
theorem Qm1 {s:List QE} {f:QE→Option Bool} {p:QE→Bool} (hs:s.length≤1000000) (hf:∀x∈s,f x=some (p x)):Qa9 s f=some (s.any p):=by
 unfold Qa9
 rw[Qqo hs hf,←Qdq];rfl
theorem Que {s:List QE} {f:QE→Option Bool} {p:QE→Bool} (hs:s.length≤1000000) (hf:∀x∈s,f x=some (p x)):QcD s f=some (s.all p):=by
 unfold QcD
 rw[Qm1 (p:=fun x=>!p x) hs (fun x hx=>by show (f x).bind _=_;rw[hf x hx];rfl),←QgB];rfl
def inW (n a b:Int):Bool:=decide (n≥a)&&decide (n≤b)
theorem QbD {n a b:Int} (h:inW n a b=true):a≤n∧n≤b:=by simpa[inW] using h
def Qed (c:Int):Bool:=inW c 97 122
def QhI (c:Int):Bool:=inW c 48 57
def Qew (lo hi a b:Int):Bool:=(decide (lo≥a)&&decide (lo≤hi))&&decide (hi≤b)
/-- A name. -/
def QX (s:Str):Bool:=inW (s.length:Int) 1 12&&(Qed ((s.headD 0).toNat:Int)&&(QL s).all fun c=>Qed c||QhI c)
theorem Qfk (s:Str):Q9 s=some (QX s):=by
 unfold Q9 QX
 cases s with
 | nil=>rfl
 | cons c s=>
  show (some (inW ((c::s).length:Int) 1 12)).bind _=_
  simp only[Option.bind_some]
  cases h:inW ((c::s).length:Int) 1 12 with
  | false=>rfl
  | true=>
   have hl:=(QbD h).2
   rw[show idx (c::s) (0:Int)=some c from rfl]
   simp only[Sim.opt,Bool.not_true,beq_self_eq_true,if_true,Option.bind_some]
   rw[show Qdd (c.toNat:Int)=some (Qed (c.toNat:Int)) from rfl]
   simp only[Option.bind_some]
   cases hc:Qed (c.toNat:Int) with
   | false=>simp[hc]
   | true=>
    rw[if_neg (by decide),Qph (p:=fun c=>!(Qed c||QhI c)) (by simp only[QL,length_map];omega) (fun x _=>?_)]
    ·simp only[Option.bind_some]
     rw[QgB]
     simp[hc]
    ·show (some (Qed x)).bind _=_
     simp only[Option.bind_some]
     cases h1:Qed x with
     | true=>rfl
     | false=>show some (true&&!QhI x)=_;rfl
theorem Qwh {a b:List Str} (ha:a.length≤1000000):Qcd a b=some (decide (a=b)):=by
 unfold Qcd
 by_cases hl:a.length=b.length
 ·rw[if_neg (by simp[hl])]
  have:Ok ((Qo (fun (s7:Int)=>((if (decide (s7<(a.length:Int)))=true then (idx a s7).bind fun t18=>(idx b s7).bind fun t22=>(if (t18 !=t22)=true then (some (.inr (.inr false))) else (some (.inl (i64.wrap (s7+(1:Int)))))) else (some (.inr (.inl ())))):Option ((Int)⊕((Unit)⊕(Bool))))) (0:Int)).bind fun (e8:(Unit)⊕(Bool))=>(match e8 with | .inl _=>(some true) | .inr p26=>(some p26))) (fun r=>r=decide (a=b)):=by
   refine Ok.bind (P:=fun e:Unit⊕Bool=>(match e with | .inl _=>true | .inr p=>p)=decide (a=b)) (Ok.loop (fun m s=>0≤s∧s+m=a.length∧a.take s.toNat=b.take s.toNat) a.length ⟨Int.le_refl _,by omega,by simp⟩ fun m s hs=>?_) fun e he=>by cases e<;>exact Ok.mk he
   obtain⟨h1,h2,h3⟩:=hs
   obtain⟨k,rfl⟩:=Int.eq_ofNat_of_zero_le h1
   simp only[Int.toNat_natCast] at h3
   refine Ok.ite (fun hk=>?_) (fun hk=>?_)
   ·have hk':k<a.length:=by simpa using hk
    rw[QY hk',QY (by omega)]
    simp only[Option.bind_some]
    refine Ok.ite (fun hne=>Ok.mk ?_) (fun heq=>Ok.mk ⟨m - 1,by omega,?_⟩)
    ·show false=_
     rw[Eq.comm,decide_eq_false_iff_not]
     rintro rfl
     simp at hne
    ·have heq':a[k]=b[k]:=by simpa using heq
     rw[QK hk' (by omega)]
     refine⟨by omega,by omega,?_⟩
     rw[Int.toNat_natCast,take_succ_eq_append_getElem hk',take_succ_eq_append_getElem (by omega),h3,heq']
   ·have hk':¬k<a.length:=by simpa using hk
    refine Ok.mk ?_
    show true=_
    rw[take_of_length_le (by omega),take_of_length_le (by omega)] at h3
    simp[h3]
  obtain⟨r,hr,rfl⟩:=this
  exact hr
 ·rw[if_pos (by simp;omega)]
  have:a≠b:=fun h=>hl (by rw[h])
  simp[this]
theorem eqInt {a b:List Int} (ha:a.length≤1000000):QcR a b=some (decide (a=b)):=by
 unfold QcR
 by_cases hl:a.length=b.length
 ·rw[if_neg (by simp[hl])]
  have:Ok ((Qo (fun (s7:Int)=>((if (decide (s7<(a.length:Int)))=true then (idx a s7).bind fun t18=>(idx b s7).bind fun t22=>(if (t18 !=t22)=true then (some (.inr (.inr false))) else (some (.inl (i64.wrap (s7+(1:Int)))))) else (some (.inr (.inl ())))):Option ((Int)⊕((Unit)⊕(Bool))))) (0:Int)).bind fun (e8:(Unit)⊕(Bool))=>(match e8 with | .inl _=>(some true) | .inr p26=>(some p26))) (fun r=>r=decide (a=b)):=by
   refine Ok.bind (P:=fun e:Unit⊕Bool=>(match e with | .inl _=>true | .inr p=>p)=decide (a=b)) (Ok.loop (fun m s=>0≤s∧s+m=a.length∧a.take s.toNat=b.take s.toNat) a.length ⟨Int.le_refl _,by omega,by simp⟩ fun m s hs=>?_) fun e he=>by cases e<;>exact Ok.mk he
   obtain⟨h1,h2,h3⟩:=hs
   obtain⟨k,rfl⟩:=Int.eq_ofNat_of_zero_le h1
   simp only[Int.toNat_natCast] at h3
   refine Ok.ite (fun hk=>?_) (fun hk=>?_)
   ·have hk':k<a.length:=by simpa using hk
    rw[QY hk',QY (by omega)]
    simp only[Option.bind_some]
    refine Ok.ite (fun hne=>Ok.mk ?_) (fun heq=>Ok.mk ⟨m - 1,by omega,?_⟩)
    ·show false=_
     rw[Eq.comm,decide_eq_false_iff_not]
     rintro rfl
     simp at hne
    ·have heq':a[k]=b[k]:=by simpa using heq
     rw[QK hk' (by omega)]
     refine⟨by omega,by omega,?_⟩
     rw[Int.toNat_natCast,take_succ_eq_append_getElem hk',take_succ_eq_append_getElem (by omega),h3,heq']
   ·have hk':¬k<a.length:=by simpa using hk
    refine Ok.mk ?_
    show true=_
    rw[take_of_length_le (by omega),take_of_length_le (by omega)] at h3
    simp[h3]
  obtain⟨r,hr,rfl⟩:=this
  exact hr
 ·rw[if_pos (by simp;omega)]
  have:a≠b:=fun h=>hl (by rw[h])
  simp[this]
end Go.Proofs.YtlajingmjmnfgaaGreatDoor
namespace Go.Proofs.YtlajingmjmnfgaaGreatDoor
open Go.Sim
theorem Quf (l:List Int) {k:Nat} (h:k<l.length):(l.take (k+1)).sum=(l.take k).sum+l[k]:=by
  rw[take_succ_eq_append_getElem h,sum_append];simp
/-- Words and weights are right. -/
def Qhb (ws:List Str) (gs:List Int):Bool:=(gs.all fun g=>inW g 0 1048576)&&(((inW (ws.length:Int) 1 12&&((ws.length:Int)==(gs.length:Int)))&&decide (gs.sum>0))&&ws.all QX)
theorem Qug {ws:List Str} {gs:List Int} (hw:ws.length≤1000000) (hg:gs.length≤1000000):Qc6 ws gs=some (Qhb ws gs):=by
  have key:Ok (Qc6 ws gs) (fun r=>r=Qhb ws gs):=by
    unfold Qc6
    refine Ok.bind (P:=fun e:Int⊕Bool=>match e with | .inl s=>(gs.all fun g=>inW g 0 1048576)=true∧s=gs.sum | .inr p=>p=false∧(gs.all fun g=>inW g 0 1048576)=false)
      (Ok.loop (fun m s=>0≤s.1∧s.1+m=gs.length∧((gs.take s.1.toNat).all fun g=>inW g 0 1048576)=true∧s.2=(gs.take s.1.toNat).sum∧0≤s.2∧s.2≤s.1 * 1048576) gs.length ⟨Int.le_refl _,by dsimp only;omega,by simp,by simp,by simp,by simp⟩ fun m s hs=>?_) fun e he=>?_
    · obtain⟨i,t⟩:=s
      obtain⟨h1,h2,h3,h4,h5,h6⟩:=hs
      dsimp only at h1 h2 h3 h4 h5 h6
      obtain⟨k,rfl⟩:=Int.eq_ofNat_of_zero_le h1
      simp only[Int.toNat_natCast] at h3 h4
      refine Ok.ite (fun hk=>?_) (fun hk=>?_)
      · have hk':k<gs.length:=by simpa using hk
        dsimp only
        rw[QY hk']
        simp only[Option.bind_some]
        show Ok ((some (inW gs[k] 0 1048576)).bind _) _
        simp only[Option.bind_some]
        refine Ok.ite (fun hn=>Ok.mk ⟨rfl,?_⟩) (fun hy=>Ok.mk ⟨m - 1,by omega,?_⟩)
        · rw[all_eq_false]
          exact⟨_,getElem_mem hk',by simpa using hn⟩
        · have hy':inW gs[k] 0 1048576=true:=by simpa using hy
          have hb:=QbD hy'
          dsimp only
          rw[QK hk' (by omega),w64 (n:=t+gs[k]) (by omega) (by omega)]
          refine⟨by omega,by omega,?_,?_,by omega,by omega⟩
          · rw[Int.toNat_natCast,take_succ_eq_append_getElem hk',all_append,h3];simp[hy']
          · rw[Int.toNat_natCast,Quf gs hk',h4]
      · have hk':¬k<gs.length:=by simpa using hk
        rw[take_of_length_le (by omega)] at h3 h4
        exact Ok.mk ⟨h3,h4⟩
    · cases e with
      | inr p=>obtain⟨rfl,hp⟩:=he;refine Ok.mk ?_;unfold Qhb;rw[hp];rfl
      | inl s=>
        obtain⟨hp,rfl⟩:=he
        dsimp only
        show Ok ((some (inW (ws.length:Int) 1 12)).bind _) _
        simp only[Option.bind_some]
        rw[QnC (p:=QX) hw (fun x _=>Qfk x)]
        unfold Qhb
        rw[hp,Bool.true_and]
        cases (inW (ws.length:Int) 1 12&&((ws.length:Int)==(gs.length:Int)))&&decide (gs.sum>0) with
        | false=>exact Ok.mk rfl
        | true=>exact Ok.mk rfl
  obtain⟨r,hr,rfl⟩:=key
  exact hr
/-- A field with what its kind uses alone. -/
def QdZ (f:Qb):Qb:=
  if f.Kind=0 then ⟨f.Name,[],[],f.Kind,f.Lo,0,[],[]⟩
  else if f.Kind=1∨f.Kind=4∨f.Kind=5 then ⟨f.Name,f.Of,[],f.Kind,f.Lo,f.Hi,[],[]⟩
  else if f.Kind=2 then ⟨f.Name,[],[],f.Kind,f.Lo,f.Hi,[],[]⟩
  else if f.Kind=3 then ⟨f.Name,[],[],f.Kind,0,0,f.Words,f.Weights⟩
  else if f.Kind=6 then ⟨f.Name,f.Of,[],f.Kind,0,0,[],[]⟩
  else if f.Kind=7 then ⟨f.Name,f.Of,f.Up,f.Kind,f.Lo,f.Hi,[],[]⟩
  else if f.Kind=8 then ⟨f.Name,f.Of,f.Up,f.Kind,0,0,[],[]⟩
  else ⟨f.Name,[],[],f.Kind,0,0,[],[]⟩
theorem QyS (f:Qb):Qfc f=some (QdZ f):=by
  obtain⟨n,o,u,k,lo,hi,w,g⟩:=f
  unfold Qfc QdZ
  by_cases h0:k=0
  · subst h0;rfl
  by_cases h1:k=1
  · subst h1;rfl
  by_cases h4:k=4
  · subst h4;rfl
  by_cases h5:k=5
  · subst h5;rfl
  by_cases h2:k=2
  · subst h2;rfl
  by_cases h3:k=3
  · subst h3;rfl
  by_cases h6:k=6
  · subst h6;rfl
  by_cases h7:k=7
  · subst h7;rfl
  by_cases h8:k=8
  · subst h8;rfl
  simp[h0,h1,h2,h3,h4,h5,h6,h7,h8]
/-- Two fields are equal. -/
def Qd0 (a b:Qb):Bool:=(((((((a.Name==b.Name)&&(a.Of==b.Of))&&(a.Up==b.Up))&&(a.Kind==b.Kind))&&(a.Lo==b.Lo))&&(a.Hi==b.Hi))&&decide (a.Words=b.Words))&&decide (a.Weights=b.Weights)
theorem Qpi {a b:Qb} (h1:a.Words.length≤1000000) (h2:a.Weights.length≤1000000):QcS a b=some (Qd0 a b):=by
  unfold QcS Qd0
  rw[Qwh h1,eqInt h2]
  cases ((((((a.Name==b.Name)&&(a.Of==b.Of))&&(a.Up==b.Up))&&(a.Kind==b.Kind))&&(a.Lo==b.Lo))&&(a.Hi==b.Hi)) with
  | false=>rfl
  | true=>
    simp only[Sim.opt,Bool.true_and,beq_self_eq_true,if_true,Option.bind_some]
    cases decide (a.Words=b.Words)<;>rfl
def Qdt (f:Qb):Bool:=
  if f.Kind=0 then inW f.Lo (-1048576) 1048576
  else if f.Kind=1 then QX f.Of&&Qew f.Lo f.Hi 0 65536
  else if f.Kind=2 then Qew f.Lo f.Hi (-1048576) 1048576
  else if f.Kind=3 then Qhb f.Words f.Weights
  else if f.Kind=4 then ((f.Of==[])||QX f.Of)&&Qew f.Lo f.Hi (-1048576) 1048576
  else if f.Kind=5 then QX f.Of&&Qew f.Lo f.Hi 0 32
  else if f.Kind=6 then QX f.Of
  else if f.Kind=7 then (QX f.Of&&QX f.Up)&&Qew f.Lo f.Hi 0 1048576
  else if f.Kind=8 then QX f.Of&&QX f.Up
  else false
/-- A field is valid. -/
def fieldS (f:Qb):Bool:=(QX f.Name&&Qd0 f (QdZ f))&&Qdt f
theorem Qsb {f:Qb} (h1:f.Words.length≤1000000) (h2:f.Weights.length≤1000000):QdE f=some (fieldS f):=by
  unfold QdE fieldS
  rw[Qfk,QyS]
  simp only[Option.bind_some]
  cases QX f.Name with
  | false=>rfl
  | true=>
    simp only[Sim.opt,Bool.not_true,beq_self_eq_true,if_true,Option.bind_some]
    rw[Qpi h1 h2]
    simp only[Option.bind_some]
    cases Qd0 f (QdZ f) with
    | false=>rfl
    | true=>
      simp only[Qfk,Qug h1 h2,Bool.true_and,Bool.not_true,Bool.or_self]
      rw[if_neg (by decide)]
      unfold Qdt
      by_cases c0:f.Kind=0
      · rw[if_pos (by simp[c0]),if_pos c0];rfl
      rw[if_neg (by simpa using c0),if_neg c0]
      by_cases c1:f.Kind=1
      · rw[if_pos (by simp[c1]),if_pos c1];cases QX f.Of<;>rfl
      rw[if_neg (by simpa using c1),if_neg c1]
      by_cases c2:f.Kind=2
      · rw[if_pos (by simp[c2]),if_pos c2];rfl
      rw[if_neg (by simpa using c2),if_neg c2]
      by_cases c3:f.Kind=3
      · rw[if_pos (by simp[c3]),if_pos c3];rfl
      rw[if_neg (by simpa using c3),if_neg c3]
      by_cases c4:f.Kind=4
      · rw[if_pos (by simp[c4]),if_pos c4];cases (f.Of==[])<;>cases QX f.Of<;>rfl
      rw[if_neg (by simpa using c4),if_neg c4]
      by_cases c5:f.Kind=5
      · rw[if_pos (by simp[c5]),if_pos c5];cases QX f.Of<;>rfl
      rw[if_neg (by simpa using c5),if_neg c5]
      by_cases c6:f.Kind=6
      · rw[if_pos (by simp[c6]),if_pos c6];rfl
      rw[if_neg (by simpa using c6),if_neg c6]
      by_cases c7:f.Kind=7
      · rw[if_pos (by simp[c7]),if_pos c7];cases QX f.Of<;>cases QX f.Up<;>rfl
      rw[if_neg (by simpa using c7),if_neg c7]
      by_cases c8:f.Kind=8
      · rw[if_pos (by simp[c8]),if_pos c8];cases QX f.Of<;>rfl
      rw[if_neg (by simpa using c8),if_neg c8]
/-- A kind, a life, a rule is valid. -/
def kindS (k:Qe):Bool:=((QX k.Name&&Qew k.Lo k.Hi 0 65536)&&decide ((k.Fields.length:Int)≤10))&&k.Fields.all fieldS
def QnD (l:List Qb):Prop:=l.length≤1000000∧∀f∈l,f.Words.length≤1000000∧f.Weights.length≤1000000
theorem Quh {k:Qe} (h:QnD k.Fields):Qd7 k=some (kindS k):=by
  unfold Qd7 kindS
  rw[Qfk,Qwg (p:=fieldS) h.1 (fun f hf=>Qsb (h.2 f hf).1 (h.2 f hf).2)]
  simp only[Option.bind_some]
  cases QX k.Name with
  | false=>rfl
  | true=>
    show (opt true (some (Qew k.Lo k.Hi 0 65536)) default).bind _=_
    simp only[Sim.opt,Bool.true_and,if_true,Option.bind_some]
    cases Qew k.Lo k.Hi 0 65536 with
    | false=>rfl
    | true=>
      cases hd:decide ((k.Fields.length:Int)≤10) with
      | false=>rfl
      | true=>rfl
def Qd1 (n:Int) (m:QE):Bool:=inW m.a0 0 (n - 1)&&inW m.a1 0 (n - 1)
def Qfx (x:Qw):Bool:=(((QX x.Name&&inW (x.States.length:Int) 1 12)&&x.States.all QX)&&decide ((x.Moves.length:Int)≤32))&&x.Moves.all (Qd1 (x.States.length:Int))
theorem Qui {x:Qw} (h1:x.States.length≤1000000) (h2:x.Moves.length≤1000000):Qd8 x=some (Qfx x):=by
  have hm:∀m∈x.Moves,Qdf m (x.States.length:Int)=some (Qd1 (x.States.length:Int) m):=fun m _=>by
    unfold Qdf Qd1
    rw[w64 (by omega) (by omega)]
    show (some (inW m.a0 0 ((x.States.length:Int) - 1))).bind _=_
    simp only[Option.bind_some]
    cases inW m.a0 0 ((x.States.length:Int) - 1)<;>rfl
  unfold Qd8 Qfx
  rw[Qfk,QnC (p:=QX) h1 (fun s _=>Qfk s),Que (p:=Qd1 (x.States.length:Int)) h2 hm]
  simp only[Option.bind_some]
  cases QX x.Name with
  | false=>rfl
  | true=>
    show (opt true (some (inW (x.States.length:Int) 1 12)) default).bind _=_
    simp only[Sim.opt,Bool.true_and,if_true,Option.bind_some]
    cases inW (x.States.length:Int) 1 12 with
    | false=>rfl
    | true=>
      simp only[Bool.true_and,beq_self_eq_true,if_true,Option.bind_some]
      cases x.States.all QX with
      | false=>rfl
      | true=>cases decide ((x.Moves.length:Int)≤32)<;>rfl
def Qck (r:Qj):Bool:=((((QX r.Name&&QX r.Kind)&&((r.A==[])||QX r.A))&&((r.B==[])||QX r.B))&&(r.A++r.B !=[]))&&inW r.N (-1048576) 1048576
theorem Qem {s:Str} (h:QX s=true):s.length≤12:=by
  unfold QX at h
  simp only[Bool.and_eq_true] at h
  have:=(QbD h.1).2
  omega
theorem Quj (r:Qj):Qd9 r=some (Qck r):=by
  have len:∀s:Str,((s==[])||QX s)=true→s.length≤12:=fun s h=>by
    rcases Bool.or_eq_true _ _ |>.mp h with h | h
    · have:s=[]:=by simpa using h
      subst this;simp
    · exact Qem h
  unfold Qd9 Qck
  simp only[Qfk]
  simp only[Option.bind_some]
  cases QX r.Name with
  | false=>rfl
  | true=>
    simp only[Sim.opt,Bool.true_and,beq_self_eq_true,if_true,Option.bind_some]
    cases QX r.Kind with
    | false=>rfl
    | true=>
      simp only[Bool.true_and,beq_self_eq_true,Bool.true_and]
      have la:=len r.A
      have lb:=len r.B
      cases ha:(r.A==[])<;>cases hna:QX r.A<;>cases hb:(r.B==[])<;>cases hnb:QX r.B<;>first
        | rfl
        | (rw[ha,hna] at la;rw[hb,hnb] at lb
           have e:cat (r.A.length+r.B.length)=some ():=if_pos (by have:=la rfl;have:=lb rfl;omega)
           simp only[e,Bool.false_or,Bool.or_false,Bool.true_or,Bool.or_true,Bool.and_true,Bool.true_and,Bool.and_self,beq_self_eq_true,if_true,Option.bind_some]
           cases (r.A++r.B !=[])<;>rfl)
end Go.Proofs.YtlajingmjmnfgaaGreatDoor
namespace Go.Proofs.YtlajingmjmnfgaaGreatDoor
open Go.Sim
theorem Qge:∀(k u:Nat),u<10 ^ (k+1)→(Lib.decDigits u).length≤k+1
 | 0,u,h=>by rw[Lib.decDigits,dif_pos (by simpa using h)];simp
 | k+1,u,h=>by
  rw[Lib.decDigits]
  split
  ·simp
  ·have:=Qge k (u / 10) (by rw[Nat.pow_succ] at h;omega)
   rw[length_append,length_singleton];omega
theorem Qpj {n:Int} (h:I64 n):(Lib.itoa n).length≤20:=by
 unfold I64 at h
 unfold Lib.itoa
 split
 ·have:=Qge 18 n.natAbs (by omega)
  rw[length_cons];omega
 ·have:=Qge 18 n.toNat (by omega)
  omega
theorem QyT {n:Int} (h:I64 n):Ql4 n=some (Lib.itoa n):=if_pos h
/-- The text of a value. -/
def QkJ:AnyV→Str
 | .int n=>Lib.itoa n
 | .str s=>s
def VOk:AnyV→Prop
 | .int n=>I64 n
 | .str s=>s.length≤100
theorem Qpk {v:AnyV} (h:VOk v):(QkJ v).length≤100:=by
 cases v with
 | int n=>have:=Qpj h;show (Lib.itoa n).length≤100;omega
 | str s=>exact h
/-- A blank and a value, for each. -/
def toks (l:List AnyV):Str:=l.flatMap fun v=>32::QkJ v
theorem Qlp {l:List AnyV} (h:∀v∈l,VOk v):(toks l).length≤l.length * 101:=by
 induction l with
 | nil=>simp[toks]
 | cons v l ih=>
  have h1:=ih fun u hu=>h u (mem_cons_of_mem _ hu)
  have h2:=Qpk (h v mem_cons_self)
  have e:toks (v::l)=(32::QkJ v)++toks l:=rfl
  rw[e,length_append,length_cons,length_cons]
  omega
def Qd2 (w:Str) (l:List AnyV):Str:=w++toks l++[10]
theorem Qex {a b:Str} (h:a.length+b.length≤68719476736):QaM a b=some (a++b):=if_pos h
theorem Qhq {w:Str} {l:List AnyV} (h1:1≤w.length) (h2:w.length≤10) (hl:l.length≤1000) (hv:∀v∈l,VOk v):Qas w l=some (Qd2 w l):=by
 have key:Ok (Qas w l) (fun r=>r=Qd2 w l):=by
  unfold Qas
  rw[Qex (by simp;omega)]
  simp only[Option.bind_some,nil_append]
  refine Ok.bind (P:=fun r=>r=w++toks l) (Ok.loop (fun m s=>0≤s.1∧s.1+m=l.length∧s.2=w++toks (l.take s.1.toNat)) l.length ⟨Int.le_refl _,by dsimp only;omega,by simp[toks]⟩ fun m s hs=>?_) fun r hr=>?_
  ·obtain⟨i,t⟩:=s
   obtain⟨e1,e2,e3⟩:=hs
   dsimp only at e1 e2 e3
   obtain⟨k,rfl⟩:=Int.eq_ofNat_of_zero_le e1
   rw[Int.toNat_natCast] at e3
   subst e3
   refine Ok.ite (fun hk=>?_) (fun hk=>?_)
   ·have hk':k<l.length:=by simpa using hk
    have hvk:=hv _ (getElem_mem hk')
    have hlen:=Qlp (l:=l.take k) fun v hm=>hv v (mem_of_mem_take hm)
    have htl:=Qpk hvk
    have hlk:(l.take k).length≤1000:=by rw[length_take];omega
    dsimp only
    rw[QY hk']
    simp only[Option.bind_some]
    have eb:QgH (w++toks (l.take k)) 32=some (w++toks (l.take k)++[32]):=if_pos ⟨by decide,by decide,by rw[length_append];omega⟩
    rw[eb]
    simp only[Option.bind_some]
    refine Ok.bind (P:=fun p=>p=w++toks (l.take k)++[32]++QkJ l[k]) ?_ fun p hp=>Ok.mk ⟨m - 1,by omega,?_⟩
    ·cases hk2:l[k] with
     | int n=>
      rw[hk2] at hvk htl
      show Ok (if true=true then _ else _) _
      rw[if_pos rfl]
      show Ok ((Ql4 n).bind _) _
      rw[QyT hvk]
      simp only[Option.bind_some]
      have hi:=Qpj hvk
      rw[Qex (by simp only[length_append,length_singleton];omega)]
      exact Ok.mk rfl
     | str s=>
      rw[hk2] at hvk htl
      show Ok (if false=true then _ else ((if true=true then (QaM (w++toks (l.take k)++[32]) s).bind _ else _)).bind _) _
      rw[if_neg (by decide),if_pos rfl]
      have hs:s.length≤100:=hvk
      rw[Qex (by simp only[length_append,length_singleton];omega)]
      exact Ok.mk rfl
    ·subst hp
     dsimp only
     rw[QK hk' (by omega)]
     refine⟨by omega,by omega,?_⟩
     rw[Int.toNat_natCast,take_succ_eq_append_getElem hk']
     simp only[toks,flatMap_append,flatMap_cons,flatMap_nil,append_nil,append_assoc,cons_append,nil_append]
   ·have hk':¬k<l.length:=by simpa using hk
    refine Ok.mk ?_
    dsimp only
    rw[take_of_length_le (by omega)]
  ·subst hr
   have hlen:=Qlp hv
   have eb:QfV (w++toks l)=some (w++toks l):=if_neg fun h=>by
    have:=congrArg length h
    rw[length_append,length_nil] at this;omega
   rw[eb]
   simp only[Option.bind_some]
   exact Ok.cat (by rw[length_append,length_singleton];omega) (Ok.mk rfl)
 obtain⟨r,hr,rfl⟩:=key
 exact hr
theorem Qfl {w:Str} {l:List AnyV} (h2:w.length≤10) (hv:∀v∈l,VOk v):(Qd2 w l).length≤11+l.length * 101:=by
 have:=Qlp hv
 unfold Qd2
 rw[length_append,length_append,length_singleton];omega
/-- The token of a name that may be empty. -/
def QcG (s:Str):Str:=if s=[] then [45] else s
theorem Qlq (s:Str):QcK s=some (QcG s):=by
 unfold QcK Qfs
 have key:∀body:Int→Option (Int⊕(Unit⊕Str)),(body 0=if (s !=[])=true then some (.inr (.inr s)) else some (.inl 1))→body 1=some (.inr (.inr [45]))→
   Qo body 0=some (.inr (QcG s)):=fun body h0 h1=>by
  rw[Qan,h0]
  unfold QcG
  by_cases hs:s=[]
  ·rw[if_neg (by simp[hs]),if_pos hs]
   show Qo body 1=_
   rw[Qan,h1]
  ·rw[if_pos (by simpa using hs),if_neg hs]
 rw[key _ rfl rfl];rfl
/-- What a line of a field says. -/
def Q4 (f:Qb):List AnyV:=
 if f.Kind=0 then [.str f.Name,.int f.Lo]
 else if f.Kind=2 then [.str f.Name,.int f.Lo,.int f.Hi]
 else if f.Kind=3 then [.str f.Name,.int (f.Words.length:Int)]++(f.Words.zip f.Weights).flatMap fun p=>[.str p.1,.int p.2]
 else if f.Kind=6 then [.str f.Name,.str f.Of]
 else if f.Kind=7 then [.str f.Name,.str f.Up,.str f.Of,.int f.Lo,.int f.Hi]
 else if f.Kind=8 then [.str f.Name,.str f.Up,.str f.Of]
 else [.str f.Name,.str (QcG f.Of),.int f.Lo,.int f.Hi]
def Qjk (f:Qb):Str:=Qix[f.Kind.toNat]?.getD []
/-- The line of a field. -/
def Qc4 (f:Qb):Str:=Qd2 (Qjk f) (Q4 f)
end Go.Proofs.YtlajingmjmnfgaaGreatDoor
namespace Go.Proofs.YtlajingmjmnfgaaGreatDoor
open Go.Sim
theorem Qee {s:Str} (h:QX s=true):VOk (.str s):=by have:=Qem h;show s.length≤100;omega
theorem QiG {s:Str} (h:((s==[])||QX s)=true):VOk (.str (QcG s)):=by
 unfold QcG
 by_cases hs:s=[]
 ·rw[if_pos hs];show ([45]:Str).length≤100;decide
 ·rw[if_neg hs]
  have:QX s=true:=by simpa[hs] using h
  exact Qee this
theorem Qbt {n:Int} (h:-100000000≤n∧n≤100000000):VOk (.int n):=by show I64 n;unfold I64;omega
theorem Quk {l:List Str} {g:List Int} (h:l.length=g.length) (k:Nat) (hk:k<l.length):(((l.zip g).take k).flatMap fun p=>[AnyV.str p.1,AnyV.int p.2])++[AnyV.str l[k],AnyV.int (g[k]'(by omega))]=((l.zip g).take (k+1)).flatMap fun p=>[AnyV.str p.1,AnyV.int p.2]:=by
 rw[take_succ_eq_append_getElem (by rw[length_zip];omega),flatMap_append,getElem_zip]
 rfl
theorem Qke (l:List (Str×Int)):(l.flatMap fun p=>[AnyV.str p.1,AnyV.int p.2]).length=2 * l.length:=by
 induction l with
 | nil=>rfl
 | cons a l ih=>rw[flatMap_cons,length_append,ih];simp;omega
/-- What a valid field is. -/
structure Qm2 (f:Qb):Prop where
 kind:0≤f.Kind∧f.Kind≤8
 items:∀v∈Q4 f,VOk v
 count:(Q4 f).length≤30
 pick:f.Kind=3→f.Words.length=f.Weights.length∧f.Words.length≤12
theorem Qcg {lo hi a b:Int} (h:Qew lo hi a b=true):a≤lo∧lo≤hi∧hi≤b:=by
 simp only[Qew,Bool.and_eq_true,decide_eq_true_eq] at h;omega
theorem Qh1 {f:Qb} (h:fieldS f=true):Qm2 f:=by
 unfold fieldS at h
 simp only[Bool.and_eq_true] at h
 obtain⟨⟨hn,_⟩,hp⟩:=h
 have hnv:=Qee hn
 unfold Qdt at hp
 by_cases c0:f.Kind=0
 ·rw[if_pos c0] at hp
  have e:Q4 f=[.str f.Name,.int f.Lo]:=by unfold Q4;rw[if_pos c0]
  refine⟨by omega,?_,by rw[e];simp,fun h=>by omega⟩
  have:=QbD hp
  rw[e];simp only[mem_cons,not_mem_nil,or_false,forall_eq_or_imp,forall_eq]
  exact⟨hnv,Qbt (by omega)⟩
 rw[if_neg c0] at hp
 by_cases c1:f.Kind=1
 ·rw[if_pos c1] at hp
  simp only[Bool.and_eq_true] at hp
  have e:Q4 f=[.str f.Name,.str (QcG f.Of),.int f.Lo,.int f.Hi]:=by unfold Q4;simp[c1]
  have:=Qcg hp.2
  refine⟨by omega,?_,by rw[e];simp,fun h=>by omega⟩
  rw[e];simp only[mem_cons,not_mem_nil,or_false,forall_eq_or_imp,forall_eq]
  exact⟨hnv,QiG (by rw[hp.1];simp),Qbt (by omega),Qbt (by omega)⟩
 rw[if_neg c1] at hp
 by_cases c2:f.Kind=2
 ·rw[if_pos c2] at hp
  have e:Q4 f=[.str f.Name,.int f.Lo,.int f.Hi]:=by unfold Q4;simp[c2]
  have:=Qcg hp
  refine⟨by omega,?_,by rw[e];simp,fun h=>by omega⟩
  rw[e];simp only[mem_cons,not_mem_nil,or_false,forall_eq_or_imp,forall_eq]
  exact⟨hnv,Qbt (by omega),Qbt (by omega)⟩
 rw[if_neg c2] at hp
 by_cases c3:f.Kind=3
 ·rw[if_pos c3] at hp
  simp only[Qhb,Bool.and_eq_true,all_eq_true,beq_iff_eq] at hp
  obtain⟨hg,⟨⟨hw,hl⟩,_⟩,hws⟩:=hp
  have hw':=(QbD hw).2
  have hl':f.Words.length=f.Weights.length:=by omega
  have e:Q4 f=[.str f.Name,.int (f.Words.length:Int)]++(f.Words.zip f.Weights).flatMap fun p=>[.str p.1,.int p.2]:=by unfold Q4;simp[c3]
  refine⟨by omega,?_,?_,fun _=>⟨hl',by omega⟩⟩
  ·rw[e]
   intro v hv
   rcases mem_append.1 hv with hv | hv
   ·simp only[mem_cons,not_mem_nil,or_false] at hv
    rcases hv with rfl | rfl
    ·exact hnv
    ·exact Qbt (by omega)
   ·obtain⟨p,hp,hv⟩:=mem_flatMap.1 hv
    obtain⟨a,b⟩:=p
    have hz:=of_mem_zip hp
    simp only[mem_cons,not_mem_nil,or_false] at hv
    rcases hv with rfl | rfl
    ·exact Qee (hws _ hz.1)
    ·have:=QbD (hg _ hz.2);exact Qbt (by omega)
  ·rw[e,length_append,Qke,length_zip]
   simp only[length_cons,length_nil]
   omega
 rw[if_neg c3] at hp
 by_cases c4:f.Kind=4
 ·rw[if_pos c4] at hp
  simp only[Bool.and_eq_true] at hp
  have e:Q4 f=[.str f.Name,.str (QcG f.Of),.int f.Lo,.int f.Hi]:=by unfold Q4;simp[c4]
  have:=Qcg hp.2
  refine⟨by omega,?_,by rw[e];simp,fun h=>by omega⟩
  rw[e];simp only[mem_cons,not_mem_nil,or_false,forall_eq_or_imp,forall_eq]
  exact⟨hnv,QiG hp.1,Qbt (by omega),Qbt (by omega)⟩
 rw[if_neg c4] at hp
 by_cases c5:f.Kind=5
 ·rw[if_pos c5] at hp
  simp only[Bool.and_eq_true] at hp
  have e:Q4 f=[.str f.Name,.str (QcG f.Of),.int f.Lo,.int f.Hi]:=by unfold Q4;simp[c5]
  have:=Qcg hp.2
  refine⟨by omega,?_,by rw[e];simp,fun h=>by omega⟩
  rw[e];simp only[mem_cons,not_mem_nil,or_false,forall_eq_or_imp,forall_eq]
  exact⟨hnv,QiG (by rw[hp.1];simp),Qbt (by omega),Qbt (by omega)⟩
 rw[if_neg c5] at hp
 by_cases c6:f.Kind=6
 ·rw[if_pos c6] at hp
  have e:Q4 f=[.str f.Name,.str f.Of]:=by unfold Q4;simp[c6]
  refine⟨by omega,?_,by rw[e];simp,fun h=>by omega⟩
  rw[e];simp only[mem_cons,not_mem_nil,or_false,forall_eq_or_imp,forall_eq]
  exact⟨hnv,Qee hp⟩
 rw[if_neg c6] at hp
 by_cases c7:f.Kind=7
 ·rw[if_pos c7] at hp
  simp only[Bool.and_eq_true] at hp
  have e:Q4 f=[.str f.Name,.str f.Up,.str f.Of,.int f.Lo,.int f.Hi]:=by unfold Q4;simp[c7]
  have:=Qcg hp.2
  refine⟨by omega,?_,by rw[e];simp,fun h=>by omega⟩
  rw[e];simp only[mem_cons,not_mem_nil,or_false,forall_eq_or_imp,forall_eq]
  exact⟨hnv,Qee hp.1.2,Qee hp.1.1,Qbt (by omega),Qbt (by omega)⟩
 rw[if_neg c7] at hp
 by_cases c8:f.Kind=8
 ·rw[if_pos c8] at hp
  simp only[Bool.and_eq_true] at hp
  have e:Q4 f=[.str f.Name,.str f.Up,.str f.Of]:=by unfold Q4;simp[c8]
  refine⟨by omega,?_,by rw[e];simp,fun h=>by omega⟩
  rw[e];simp only[mem_cons,not_mem_nil,or_false,forall_eq_or_imp,forall_eq]
  exact⟨hnv,Qee hp.2,Qee hp.1⟩
 rw[if_neg c8] at hp
 cases hp
theorem Qkf {f:Qb} (h:0≤f.Kind∧f.Kind≤8):idx Qix f.Kind=some (Qjk f)∧1≤(Qjk f).length∧(Qjk f).length≤10:=by
 obtain⟨k,hk⟩:=Int.eq_ofNat_of_zero_le h.1
 have hk8:k≤8:=by omega
 unfold Qjk
 rw[hk,QaU,Int.toNat_natCast]
 have:k=0∨k=1∨k=2∨k=3∨k=4∨k=5∨k=6∨k=7∨k=8:=by omega
 rcases this with rfl | rfl | rfl | rfl | rfl | rfl | rfl | rfl | rfl<;>exact⟨rfl,by decide,by decide⟩
theorem Qwi {f:Qb} (h:Qm2 f):QeI f=some (Qc4 f):=by
 obtain⟨e0,w1,w2⟩:=Qkf h.kind
 have fin:Qas (Qjk f) (Q4 f)=some (Qc4 f):=Qhq w1 w2 (by have:=h.count;omega) h.items
 unfold QeI
 rw[e0]
 simp only[Option.bind_some]
 by_cases c0:f.Kind=0
 ·rw[if_pos (by simp[c0])]
  have e:Q4 f=[.str f.Name,.int f.Lo]:=by unfold Q4;simp[c0]
  rw[←e,fin];rfl
 rw[if_neg (by simpa using c0)]
 by_cases c2:f.Kind=2
 ·rw[if_pos (by simp[c2])]
  have e:Q4 f=[.str f.Name,.int f.Lo,.int f.Hi]:=by unfold Q4;simp[c2]
  rw[←e,fin];rfl
 rw[if_neg (by simpa using c2)]
 by_cases c3:f.Kind=3
 ·rw[if_pos (by simp[c3])]
  obtain⟨p1,p2⟩:=h.pick c3
  have e:Q4 f=[.str f.Name,.int (f.Words.length:Int)]++(f.Words.zip f.Weights).flatMap fun p=>[.str p.1,.int p.2]:=by unfold Q4;simp[c3]
  refine Qeu f.Words.length (fun n=>((n:Int),[.str f.Name,.int (f.Words.length:Int)]++((f.Words.zip f.Weights).take n).flatMap fun p=>[.str p.1,.int p.2])) _ (by simp) (fun n hn=>?_) (if_neg (by simp)) ?_
  ·have hlen:(((f.Words.zip f.Weights).take n).flatMap fun p=>[AnyV.str p.1,AnyV.int p.2]).length≤100:=by
    rw[Qke,length_take,length_zip];omega
   rw[if_pos (by simpa using hn)]
   dsimp only
   rw[QY hn,QY (by omega)]
   simp only[Option.bind_some]
   rw[Qcj (by simp only[length_append,length_cons,length_nil];omega),QK hn (by omega),←Quk p1 n hn,append_assoc]
   rfl
  ·dsimp only
   rw[take_of_length_le (by rw[length_zip];omega),←e,fin];rfl
 rw[if_neg (by simpa using c3)]
 by_cases c6:f.Kind=6
 ·rw[if_pos (by simp[c6])]
  have e:Q4 f=[.str f.Name,.str f.Of]:=by unfold Q4;simp[c6]
  rw[←e,fin];rfl
 rw[if_neg (by simpa using c6)]
 by_cases c7:f.Kind=7
 ·rw[if_pos (by simp[c7])]
  have e:Q4 f=[.str f.Name,.str f.Up,.str f.Of,.int f.Lo,.int f.Hi]:=by unfold Q4;simp[c7]
  rw[←e,fin];rfl
 rw[if_neg (by simpa using c7)]
 by_cases c8:f.Kind=8
 ·rw[if_pos (by simp[c8])]
  have e:Q4 f=[.str f.Name,.str f.Up,.str f.Of]:=by unfold Q4;simp[c8]
  rw[←e,fin];rfl
 rw[if_neg (by simpa using c8),Qlq]
 simp only[Option.bind_some]
 have e:Q4 f=[.str f.Name,.str (QcG f.Of),.int f.Lo,.int f.Hi]:=by unfold Q4;simp[c0,c2,c3,c6,c7,c8]
 rw[←e,fin];rfl
theorem Qg2 {f:Qb} (h:Qm2 f):(Qc4 f).length≤4000:=by
 have:=Qfl (Qkf h.kind).2.2 h.items
 have:=h.count
 unfold Qc4
 omega
end Go.Proofs.YtlajingmjmnfgaaGreatDoor
namespace Go.Proofs.YtlajingmjmnfgaaGreatDoor
open Go.Sim
/-- A loop that appends. -/
theorem QhJ {α:Type} (l:List α) (g:α→Str) (B:Nat) (hB:∀a∈l,(g a).length≤B) (a0:Str) {body:Int×Str→Option ((Int×Str)⊕Str)}
  (hs:∀k (h:k<l.length) acc,acc.length≤a0.length+k * B→body ((k:Int),acc)=some (.inl (((k+1:Nat):Int),acc++g l[k]))) (he:∀acc,body ((l.length:Int),acc)=some (.inr acc)):
  Qo body ((0:Int),a0)=some (a0++l.flatMap g):=by
 have hlen:∀n,n≤l.length→((l.take n).flatMap g).length≤n * B:=fun n=>by
  induction n with
  | zero=>intro _;simp
  | succ n ih=>
   intro hn
   rw[take_succ_eq_append_getElem (by omega),flatMap_append,length_append,Nat.succ_mul]
   have h1:=ih (by omega)
   have h2:=hB _ (getElem_mem (show n<l.length by omega))
   simp only[flatMap_cons,flatMap_nil,append_nil]
   omega
 have h:=Qca (body:=body) l.length (fun n=>((n:Int),a0++(l.take n).flatMap g)) (a0++l.flatMap g) (fun k hk=>?_) ?_
 ·simpa using h
 ·rw[hs k hk _ (by rw[length_append];have:=hlen k (by omega);omega),take_succ_eq_append_getElem hk,flatMap_append]
  simp
 ·rw[he];simp
def Qef (k:Qe):Str:=Qd2 [107,105,110,100] [.str k.Name,.int k.Lo,.int k.Hi]++k.Fields.flatMap Qc4
def Qf1 (m:QE):Str:=Qd2 [109,111,118,101] [.int m.a0,.int m.a1]
def QeT (l:Qw):Str:=Qd2 [108,105,102,101] ([.str l.Name,.int (l.States.length:Int)]++l.States.map .str)++l.Moves.flatMap Qf1
def QdK (r:Qj):List AnyV:=[.str r.Name,.str r.Kind,.str (QcG r.A),.str (QcG r.B),.int r.N]
def Qf2 (r:Qj):Str:=Qd2 [114,117,108,101] (QdK r)
/-- The source. -/
def srcS (x:Qa):Str:=Qd2 [115,99,104,101,109,97] [.int x.Version]++x.Kinds.flatMap Qef++x.Lives.flatMap QeT++x.Rules.flatMap Qf2
theorem Qcl {k:Qe} (h:kindS k=true):(∀v∈[AnyV.str k.Name,.int k.Lo,.int k.Hi],VOk v)∧k.Fields.length≤10∧∀f∈k.Fields,fieldS f=true:=by
 simp only[kindS,Bool.and_eq_true,all_eq_true,decide_eq_true_eq] at h
 obtain⟨⟨⟨h1,h2⟩,h3⟩,h4⟩:=h
 have:=Qcg h2
 refine⟨?_,by omega,h4⟩
 simp only[mem_cons,not_mem_nil,or_false,forall_eq_or_imp,forall_eq]
 exact⟨Qee h1,Qbt (by omega),Qbt (by omega)⟩
theorem Qey {α:Type} {l:List α} {g:α→Str} {B:Nat} (h:∀a∈l,(g a).length≤B):(l.flatMap g).length≤l.length * B:=by
 induction l with
 | nil=>simp
 | cons a l ih=>
  have h1:=ih fun b hb=>h b (mem_cons_of_mem _ hb)
  have h2:=h a mem_cons_self
  rw[flatMap_cons,length_append,length_cons,Nat.succ_mul];omega
theorem Qk7 {k:Qe} (h:kindS k=true):(Qef k).length≤50000:=by
 obtain⟨h1,h2,h3⟩:=Qcl h
 have e1:=Qfl (w:=[107,105,110,100]) (by decide) h1
 have e2:=Qey (l:=k.Fields) (g:=Qc4) (B:=4000) fun f hf=>Qg2 (Qh1 (h3 f hf))
 unfold Qef
 rw[length_append]
 simp only[length_cons,length_nil] at e1
 omega
theorem move_v {n:Int} (hn:n≤1000) {m:QE} (h:Qd1 n m=true):∀v∈[AnyV.int m.a0,.int m.a1],VOk v:=by
 simp only[Qd1,Bool.and_eq_true] at h
 have h1:=QbD h.1
 have h2:=QbD h.2
 simp only[mem_cons,not_mem_nil,or_false,forall_eq_or_imp,forall_eq]
 exact⟨Qbt (by omega),Qbt (by omega)⟩
theorem Qul {l:Qw} (h:Qfx l=true):(∀v∈[AnyV.str l.Name,.int (l.States.length:Int)]++l.States.map .str,VOk v)∧l.States.length≤12∧l.Moves.length≤32∧∀m∈l.Moves,∀v∈[AnyV.int m.a0,.int m.a1],VOk v:=by
 simp only[Qfx,Bool.and_eq_true,all_eq_true,decide_eq_true_eq] at h
 obtain⟨⟨⟨⟨h1,h2⟩,h3⟩,h4⟩,h5⟩:=h
 have hl:=(QbD h2).2
 refine⟨fun v hv=>?_,by omega,by omega,fun m hm=>move_v (by omega) (h5 m hm)⟩
 rcases mem_append.1 hv with hv | hv
 ·simp only[mem_cons,not_mem_nil,or_false] at hv
  rcases hv with rfl | rfl
  ·exact Qee h1
  ·exact Qbt (by omega)
 ·obtain⟨s,hs,rfl⟩:=mem_map.1 hv
  exact Qee (h3 s hs)
theorem Qij {m:QE} (h:∀v∈[AnyV.int m.a0,.int m.a1],VOk v):(Qf1 m).length≤300:=by
 have:=Qfl (w:=[109,111,118,101]) (by decide) h
 simp only[length_cons,length_nil] at this
 unfold Qf1;omega
theorem Qik {l:Qw} (h:Qfx l=true):(QeT l).length≤20000:=by
 obtain⟨h1,h2,h3,h4⟩:=Qul h
 have e1:=Qfl (w:=[108,105,102,101]) (by decide) h1
 have e2:=Qey (l:=l.Moves) (g:=Qf1) (B:=300) fun m hm=>Qij (h4 m hm)
 unfold QeT
 rw[length_append]
 simp only[length_append,length_cons,length_nil,length_map] at e1
 omega
theorem Qum {r:Qj} (h:Qck r=true):∀v∈QdK r,VOk v:=by
 simp only[Qck,Bool.and_eq_true] at h
 obtain⟨⟨⟨⟨⟨h1,h2⟩,h3⟩,h4⟩,_⟩,h5⟩:=h
 have:=QbD h5
 unfold QdK
 simp only[mem_cons,not_mem_nil,or_false,forall_eq_or_imp,forall_eq]
 exact⟨Qee h1,Qee h2,QiG h3,QiG h4,Qbt (by omega)⟩
theorem Qk8 {r:Qj} (h:Qck r=true):(Qf2 r).length≤1000:=by
 have:=Qfl (w:=[114,117,108,101]) (by decide) (Qum h)
 have e:(QdK r).length=5:=rfl
 unfold Qf2;omega
/-- A schema is valid, apart from the length of its source. -/
def Qeg (x:Qa):Bool:=((((inW x.Version 0 1048576&&decide ((x.Kinds.length:Int)≤6))&&decide ((x.Lives.length:Int)≤6))&&decide ((x.Rules.length:Int)≤16))&&x.Kinds.all kindS)&&x.Lives.all Qfx&&x.Rules.all Qck
structure QeU (x:Qa):Prop where
 version:0≤x.Version∧x.Version≤1048576
 kinds:x.Kinds.length≤6
 lives:x.Lives.length≤6
 rules:x.Rules.length≤16
 kind:∀k∈x.Kinds,kindS k=true
 life:∀l∈x.Lives,Qfx l=true
 rule:∀r∈x.Rules,Qck r=true
theorem Qkg {x:Qa} (h:Qeg x=true):QeU x:=by
 simp only[Qeg,Bool.and_eq_true,all_eq_true,decide_eq_true_eq] at h
 obtain⟨⟨⟨⟨⟨⟨h1,h2⟩,h3⟩,h4⟩,h5⟩,h6⟩,h7⟩:=h
 exact⟨QbD h1,by omega,by omega,by omega,h5,h6,h7⟩
theorem Qun {x:Qa} (h:QeU x):Qea x=some (srcS x):=by
 have hv:=h.version
 have v0:∀v∈[AnyV.int x.Version],VOk v:=by simp only[mem_cons,not_mem_nil,or_false,forall_eq];exact Qbt (by omega)
 have l0:=Qfl (w:=[115,99,104,101,109,97]) (by decide) v0
 simp only[length_cons,length_nil] at l0
 have lk:=Qey (l:=x.Kinds) (g:=Qef) (B:=50000) fun k hk=>Qk7 (h.kind k hk)
 have ll:=Qey (l:=x.Lives) (g:=QeT) (B:=20000) fun k hk=>Qik (h.life k hk)
 have nk:=h.kinds
 have nl:=h.lives
 have nr:=h.rules
 unfold Qea
 rw[Qhq (by decide) (by decide) (by simp) v0]
 simp only[Option.bind_some]
 rw[Qex (by rw[length_nil];omega)]
 simp only[Option.bind_some,nil_append]
 rw[QhJ x.Kinds Qef 50000 (fun k hk=>Qk7 (h.kind k hk)) (Qd2 [115,99,104,101,109,97] [.int x.Version]) (fun k hk acc hacc=>?_) (fun acc=>if_neg (by simp))]
 ·simp only[Option.bind_some]
  rw[QhJ x.Lives QeT 20000 (fun k hk=>Qik (h.life k hk)) (Qd2 [115,99,104,101,109,97] [.int x.Version]++x.Kinds.flatMap Qef) (fun k hk acc hacc=>?_) (fun acc=>if_neg (by simp))]
  ·simp only[Option.bind_some]
   rw[QhJ x.Rules Qf2 1000 (fun k hk=>Qk8 (h.rule k hk)) (Qd2 [115,99,104,101,109,97] [.int x.Version]++x.Kinds.flatMap Qef++x.Lives.flatMap QeT) (fun k hk acc hacc=>?_) (fun acc=>if_neg (by simp))]
   ·simp only[Option.bind_some]
    have e:QfV (srcS x)=some (srcS x):=if_neg fun h=>by
     have:=congrArg length h
     simp only[srcS,Qd2,length_append,length_cons,length_nil] at this;omega
    show (QfV (srcS x)).bind _=_
    rw[e];rfl
   ·have hr:=h.rule _ (getElem_mem hk)
    have hrl:=Qk8 hr
    rw[if_pos (by simpa using hk)]
    dsimp only
    rw[QY hk]
    simp only[Option.bind_some]
    rw[Qlq,Qlq]
    simp only[Option.bind_some]
    show (Qas [114,117,108,101] (QdK x.Rules[k])).bind _=_
    rw[Qhq (by decide) (by decide) (by simp[QdK]) (Qum hr)]
    simp only[Option.bind_some]
    rw[length_append,length_append] at hacc
    rw[Qex (by show acc.length+(Qf2 x.Rules[k]).length≤_;omega),QK hk (by omega)]
    rfl
  ·have hl:=h.life _ (getElem_mem hk)
   obtain⟨w1,w2,w3,w4⟩:=Qul hl
   have hll:=Qik hl
   rw[if_pos (by simpa using hk)]
   dsimp only
   rw[QY hk]
   simp only[Option.bind_some]
   have hst:∀n,n≤x.Lives[k].States.length→([AnyV.str x.Lives[k].Name,.int (x.Lives[k].States.length:Int)]++(x.Lives[k].States.take n).map AnyV.str).length≤100:=fun n hn=>by
    simp only[length_append,length_cons,length_nil,length_map,length_take];omega
   refine Qeu x.Lives[k].States.length (fun n=>((n:Int),[AnyV.str x.Lives[k].Name,.int (x.Lives[k].States.length:Int)]++(x.Lives[k].States.take n).map AnyV.str)) _ (by simp) (fun n hn=>?_) (if_neg (by simp)) ?_
   ·rw[if_pos (by simpa using hn)]
    dsimp only
    rw[QY hn]
    simp only[Option.bind_some]
    rw[Qcj (by have:=hst n (by omega);rw[length_singleton];omega),QK hn (by omega),take_succ_eq_append_getElem hn,map_append,←append_assoc]
    rfl
   ·dsimp only
    rw[take_of_length_le (Nat.le_refl _),Qhq (by decide) (by decide) (by have:=hst _ (Nat.le_refl _);rw[take_of_length_le (Nat.le_refl _)] at this;omega) w1]
    simp only[Option.bind_some]
    have l1:=Qfl (w:=[108,105,102,101]) (by decide) w1
    simp only[length_append,length_cons,length_nil,length_map] at l1
    rw[length_append] at hacc
    rw[Qex (by omega)]
    simp only[Option.bind_some]
    rw[QhJ x.Lives[k].Moves Qf1 300 (fun m hm=>Qij (w4 m hm)) _ (fun q hq acc2 hacc2=>?_) (fun acc=>if_neg (by simp))]
    ·simp only[Option.bind_some]
     rw[QK hk (by omega)]
     simp[QeT]
    ·have hm:=w4 _ (getElem_mem hq)
     have hml:=Qij hm
     rw[if_pos (by simpa using hq)]
     dsimp only
     rw[QY hq]
     simp only[Option.bind_some]
     rw[Qhq (by decide) (by decide) (by simp) hm]
     simp only[Option.bind_some]
     rw[length_append] at hacc2
     rw[Qex (by show acc2.length+(Qf1 x.Lives[k].Moves[q]).length≤_;omega),QK hq (by omega)]
     rfl
 ·have hk':=h.kind _ (getElem_mem hk)
  obtain⟨w1,w2,w3⟩:=Qcl hk'
  have l1:=Qfl (w:=[107,105,110,100]) (by decide) w1
  simp only[length_cons,length_nil] at l1
  rw[if_pos (by simpa using hk)]
  dsimp only
  rw[QY hk]
  simp only[Option.bind_some]
  rw[Qhq (by decide) (by decide) (by simp) w1]
  simp only[Option.bind_some]
  rw[Qex (by omega)]
  simp only[Option.bind_some]
  rw[QhJ x.Kinds[k].Fields Qc4 4000 (fun f hf=>Qg2 (Qh1 (w3 f hf))) _ (fun q hq acc2 hacc2=>?_) (fun acc=>if_neg (by simp))]
  ·simp only[Option.bind_some]
   rw[QK hk (by omega)]
   simp[Qef]
  ·have hf:=Qh1 (w3 _ (getElem_mem hq))
   have hfl:=Qg2 hf
   rw[if_pos (by simpa using hq)]
   dsimp only
   rw[QY hq]
   simp only[Option.bind_some]
   rw[Qwi hf]
   simp only[Option.bind_some]
   rw[length_append] at hacc2
   rw[Qex (by omega),QK hq (by omega)]
   rfl
/-- What Valid returns. -/
def QfJ (x:Qa):Int:=if Qeg x=true then (if (srcS x).length>8192 then 4 else 0) else 1
/-- A schema whose lists are not huge. -/
def Fine (x:Qa):Prop:=(x.Kinds.length≤1000000∧∀k∈x.Kinds,QnD k.Fields)∧(x.Lives.length≤1000000∧∀l∈x.Lives,l.States.length≤1000000∧l.Moves.length≤1000000)∧x.Rules.length≤1000000
theorem Sz.fine {x:Qa} (h:Sz x):Fine x:=by
 obtain⟨⟨a1,a2⟩,⟨b1,b2⟩,c,_⟩:=h
 refine⟨⟨by omega,fun k hk=>⟨by have:=(a2 k hk).1;omega,fun f hf=>?_⟩⟩,⟨by omega,fun l hl=>?_⟩,by omega⟩
 ·have:=(a2 k hk).2.1 f hf
  exact⟨by have:=this.1;omega,by have:=this.2.1;omega⟩
 ·have:=b2 l hl
  exact⟨by omega,by omega⟩
theorem Qwj {x:Qa} (h:Fine x):QeJ x=some (QfJ x):=by
 obtain⟨⟨a1,a2⟩,⟨b1,b2⟩,c⟩:=h
 unfold QeJ
 rw[QyP (p:=kindS) a1 (fun k hk=>Quh (a2 k hk)),QyQ (p:=Qfx) b1 (fun l hl=>Qui (b2 l hl).1 (b2 l hl).2),QyR (p:=Qck) c (fun r _=>Quj r)]
 show (some (inW x.Version 0 1048576)).bind _=_
 simp only[Option.bind_some]
 have n1:∀(n:Nat) (m:Int),decide ((n:Int)>m)=!decide ((n:Int)≤m):=fun n m=>by
  by_cases h:(n:Int)≤m
  ·rw[decide_eq_true h,decide_eq_false (by omega)];rfl
  ·rw[decide_eq_false h,decide_eq_true (by omega)];rfl
 rw[n1,n1,n1]
 unfold QfJ
 cases hv:Qeg x with
 | true=>
  have hs:=Qun (Qkg hv)
  simp only[Qeg,Bool.and_eq_true] at hv
  obtain⟨⟨⟨⟨⟨⟨h1,h2⟩,h3⟩,h4⟩,h5⟩,h6⟩,h7⟩:=hv
  simp only[h1,h2,h3,h4,h5,h6,h7,Sim.opt,Bool.not_true,Bool.or_self,beq_self_eq_true,if_true,Option.bind_some]
  rw[if_neg (by decide),hs]
  simp only[Option.bind_some]
  by_cases hl:(srcS x).length>8192
  ·rw[if_pos (by simp;omega),if_pos hl]
  ·rw[if_neg (by simp;omega),if_neg hl]
 | false=>
  rw[if_neg (by decide)]
  unfold Qeg at hv
  cases h1:inW x.Version 0 1048576<;>cases h2:decide ((x.Kinds.length:Int)≤6)<;>cases h3:decide ((x.Lives.length:Int)≤6)<;>cases h4:decide ((x.Rules.length:Int)≤16)<;>
   cases h5:x.Kinds.all kindS<;>cases h6:x.Lives.all Qfx<;>cases h7:x.Rules.all Qck<;>first | rfl | (rw[h1,h2,h3,h4,h5,h6,h7] at hv;cases hv)
end Go.Proofs.YtlajingmjmnfgaaGreatDoor

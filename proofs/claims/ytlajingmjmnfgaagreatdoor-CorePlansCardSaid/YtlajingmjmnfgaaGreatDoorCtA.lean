/- Counts: the generators of limits and of numbers give a result; Holds, both ways. No condition. -/
import Derived.Test.YtlajingmjmnfgaaGreatDoorGenAll
import Derived.Test.YtlajingmjmnfgaaGreatDoorOk
set_option linter.all false
open List Go.IntKind
namespace Go.Proofs.YtlajingmjmnfgaaGreatDoor
open Go.Sim
def QBL {p n:Int} (hp:I64 p):Ok (Qco p n) (fun r=>0≤r∧(1≤n→r<n)):=by
 have hp':=hp;unfold I64 at hp';have key:∀q:Int,0≤q→Ok (if decide (n<1)=true then some 0 else (nz n).bind fun _=>some (Int.tmod q n)) (fun r=>0≤r∧(1≤n→r<n)):=fun q hq=>by
  refine Ok.ite (fun h=>?_) (fun h=>?_)
  ·have:n<1:=ZA h;exact Ok.mk ⟨Zy _,fun h=>by omega⟩
  ·have:¬n<1:=ZL h;rw[Qqk (by omega)];exact Ok.mk ⟨Int.tmod_nonneg _ hq,fun _=>Int.tmod_lt_of_pos _ (by omega)⟩
 unfold Qco;refine Ok.bind (P:=fun q=>0≤q) (Ok.ite (fun h=>?_) (fun h=>?_)) (fun q hq=>key q hq)
 ·have:p<0:=ZA h;refine Ok.mk ?_;have e1:i64.wrap (p+1)=p+1:=w64 (by omega) (by omega);rw[e1,w64 (by omega) (by omega)];omega
 ·have:¬p<0:=ZL h;exact Ok.mk (by omega)
section
variable {β:Type} {Q:β→Prop}
theorem Ok.arnd {p n:Int} {f:Int→Option β} (hp:I64 p) (hn:1≤n) (k:∀r,0≤r→r<n→Ok (f r) Q):Ok ((Qco p n).bind f) Q:=(QBL hp).bind fun r h=>k r h.1 (h.2 hn)
theorem at_ok {l:List Int} {i n:Int} (hl:∀x∈l,I64 x) (hn:1≤n):Ok (QbB l i n) (fun r=>0≤r∧r<n):=by unfold QbB;refine Ok.ite (fun h=>Ok.mk ⟨Zy _,by omega⟩) (fun h=>?_);simp only[Bool.or_eq_false_iff,ZI] at h;refine Ok.idx (by omega) (by omega) fun v hv _=>?_;exact Ok.arnd (hl v hv) hn fun r h0 h1=>Ok.mk ⟨h0,h1⟩
theorem Ok.at1 {l:List Int} {i n:Int} {f:Int→Option β} (hl:∀x∈l,I64 x) (hn:1≤n) (k:∀r,0≤r→r<n→Ok (f r) Q):Ok ((QbB l i n).bind f) Q:=(at_ok hl hn).bind fun r h=>k r h.1 h.2
end
def isN (x:Int):Bool:=decide (0≤x)&&decide (x≤65536)
def numL (c:List Int):Bool:=c.all isN
def nth (c:List Int) (i:Int):Int:=c.getD i.toNat 0
def bndS (l:Qe) (c:List Int):Int:=if l.B<0 then l.Mul else l.Mul * nth c l.B
def QeB (l:Qe) (c:List Int):Bool:=if l.Least=true then decide (nth c l.A≥bndS l c) else decide (nth c l.A≤bndS l c)
structure VL (l:Qe) (n:Int):Prop where
 a0:0≤l.A
 a1:l.A<n
 b0:-1≤l.B
 b1:l.B<n
 m0:0≤l.Mul
 m1:l.Mul≤65536
def Qd7 {c:List Int} {i:Int} (h0:0≤i) (h1:i<c.length):idx c i=some (nth c i):=by
 have hlt:i.toNat<c.length:=by omega
 rw[QhB c h0,Zb hlt];unfold nth;rw[Zh,Zb hlt];rfl
def QcZ {c:List Int} {i:Int} (h0:0≤i) (h1:i<c.length):nth c i∈c:=by
 have hlt:i.toNat<c.length:=by omega
 unfold nth;rw[Zh,Zb hlt];exact Zn hlt
def Qtl {c:List Int} {i:Int} (hc:∀x∈c,0≤x∧x≤65536) (h0:0≤i) (h1:i<c.length):0≤nth c i∧nth c i≤65536:=hc _ (QcZ h0 h1)
def Qtm {a b:Int} (a0:0≤a) (a1:a≤65536) (b0:0≤b) (b1:b≤65536):0≤a * b∧a * b≤4294967296:=⟨Int.mul_nonneg a0 b0,Int.le_trans (Int.mul_le_mul a1 b1 b0 (by decide)) (by decide)⟩
def QyV {l:Qe} {c:List Int} (hv:VL l c.length) (hc:∀x∈c,0≤x∧x≤65536):Qcg l c=some (bndS l c):=by
 unfold Qcg bndS;by_cases hb:l.B<0
 ·rw[Zc (by simpa using hb),Zc hb]
 ·have hb0:0≤l.B:=by omega
  rw[Zd (by simpa using hb),Zd hb,Qd7 hb0 hv.b1];have hm:=Qtm hv.m0 hv.m1 (Qtl hc hb0 hv.b1).1 (Qtl hc hb0 hv.b1).2;show some (i64.wrap (l.Mul * nth c l.B))=_;rw[w64 (by omega) (by omega)]
def fIx {α:Type} (s:List α) (p:α→Bool):Int:=match s.findIdx? p with | some k=>(k:Int) | none=>-1
def Qtn {α:Type} (s:List α) (p:α→Bool):decide (fIx s p≥0)=s.any p:=by
 unfold fIx
 cases h:s.findIdx? p with
 | none=>
  rw[findIdx?_eq_none_iff] at h;have:s.any p=false:=by rw[any_eq_false];intro x hx;simpa using h x hx
  rw[this];rfl
 | some k=>obtain⟨hk,hp,_⟩:=ZP.1 h;have:s.any p=true:=Yj.2 ⟨_,Zn hk,hp⟩;rw[this];exact decide_eq_true (Int.natCast_nonneg k)
def QkD {α:Type} (s:List α) (p:α→Bool) {body:Int→Option (Int⊕(Unit⊕Int))}
  (hb:∀k (h:k<s.length),body (k:Int)=if p s[k]=true then some (.inr (.inr (k:Int))) else some (.inl ((k+1:Nat):Int))) (he:body (s.length:Int)=some (.inr (.inl ()))):
  Ql body (0:Int)=some (match s.findIdx? p with | some k=>.inr (k:Int) | none=>.inl ()):=by
 obtain⟨q,hq⟩:∃q:Nat→Bool,∀k (h:k<s.length),q k=p s[k]:=⟨fun k=>if h:k<s.length then p s[k] else false,fun k h=>dif_pos h⟩
 rcases Qhf (ρ:=Unit⊕Int) s.length q (.inl ()) (fun k=>.inr (k:Int))
  (fun k hk hp=>by rw[hb k hk,Zd (by rw[←hq k hk,hp];decide)]) (fun k hk hp=>by rw[hb k hk,Zc (by rw[←hq k hk,hp])]) he with⟨k,hk,hp,hj,e⟩ | ⟨hp,e⟩
 ·have:s.findIdx? p=some k:=by
   rw[ZP];refine⟨hk,by rw[←hq k hk,hp],fun j hj'=>?_⟩;have:=hj j hj';rw[hq j (by omega)] at this;simp[this]
  rw[e,this]
 ·have:s.findIdx? p=none:=by
   rw[findIdx?_eq_none_iff];intro x hx;obtain⟨k,hk,rfl⟩:=Yc hx;have:=hp k hk
   rwa [hq k hk] at this
  rw[e,this]
def anyInt {s:List Int} {f:Int→Option Bool} {p:Int→Bool} (hs:s.length≤1000000) (hf:∀x∈s,f x=some (p x)):QbS s f=some (s.any p):=by
 unfold QbS Qde;rw[QkD s p (fun k hk=>?_) ?_]
 ·rw[←Qtn];unfold fIx;cases s.findIdx? p<;>rfl
 ·rw[Zd (by simp)]
 ·rw[Zc (by simpa using hk),QX hk];show (f s[k]).bind _=_;rw[hf _ (Zn hk),QH hk (by omega)];rfl
def QoI {l:List Int} {k:Nat} (h:k<l.length):nth l (k:Int)=l[k]:=by simp[nth,Zh,h]
def QBM {l:List Int} {i j n:Int} (hi:0≤i) (hj:0≤j) (h:i<l.length):nth (l.set i.toNat n) j=if i=j then n else nth l j:=by
 obtain⟨a,rfl⟩:=Zw hi;obtain⟨b,rfl⟩:=Zw hj;unfold nth;simp only[Zr,Zh,getElem?_set];by_cases e:a=b
 ·subst e;have:a<l.length:=by omega
  simp[this]
 ·have e':¬((a:Int)=(b:Int)):=by omega
  rw[Zd e,Zd e']
def Qto {a m x:Int} (hm:0<m):(a+m - 1) / m≤x↔a≤m * x:=by
 constructor
 ·intro h;have h1:=Int.lt_mul_ediv_self_add (x:=a+m - 1) hm;have h2:m * ((a+m - 1) / m)≤m * x:=Int.mul_le_mul_of_nonneg_left h (by omega);omega
 ·intro h;have h1:(a+m - 1) / m<x+1:=by
   rw[Int.ediv_lt_iff_lt_mul hm,Int.add_mul,Int.one_mul,Int.mul_comm x m];omega
  omega
def u64w {n:Int} (h0:0≤n) (h1:n<18446744073709551616):u64.wrap n=n:=by simp only[IntKind.wrap,IntKind.bits,IntKind.signed];simp;omega
def QnT {m:Nat} (h:m<2 ^ 64):(BitVec.ofInt 64 (m:Int)).toNat=m:=by rw[BitVec.toNat_ofInt];have:((m:Int) % ((2 ^ 64:Nat):Int))=m:=Int.emod_eq_of_lt (by omega) (by omega);rw[this];simp
def QhC {a b:Nat} (ha:a<2 ^ 64) (hb:b<2 ^ 64):iand .u64 (a:Int) (b:Int)=((a&&& b:Nat):Int):=by unfold iand;show u64.wrap (((BitVec.ofInt 64 (a:Int)&&& BitVec.ofInt 64 (b:Int)).toNat:Nat):Int)=_;rw[BitVec.toNat_and,QnT ha,QnT hb];have:=Nat.and_lt_two_pow a hb;exact u64w (by omega) (by omega)
def num (S:List Nat):Nat:=S.foldr (fun i a=>2 ^ i+a) 0
def Up (S:List Nat):Prop:=S.Pairwise (·< ·)
def QBN (q j:Nat):(2 * q+1).testBit (j+1)=q.testBit j:=by rw[Nat.testBit_succ];congr 1;omega
def QyW (q j:Nat):(2 * q).testBit (j+1)=q.testBit j:=by rw[Nat.testBit_succ];congr 1;omega
def QyX (q:Nat):(2 * q+1).testBit 0=true:=by simp
def Qww (q:Nat):(2 * q).testBit 0=false:=by simp
def oh1 (x:Nat):Nat:=((x>>>1)&&& 6148914691236517205)+(x&&& 6148914691236517205)
def oh2 (x:Nat):Nat:=((x>>>2)&&& 3689348814741910323)+(x&&& 3689348814741910323)
def oh3 (x:Nat):Nat:=((x>>>4)+x)&&& 1085102592571150095
def oh4 (x:Nat):Nat:=x+(x>>>8)
def oh5 (x:Nat):Nat:=x+(x>>>16)
def oh6 (x:Nat):Nat:=(x+(x>>>32))&&& 127
def ones (x:Nat):Nat:=oh6 (oh5 (oh4 (oh3 (oh2 (oh1 x)))))
def og1 (x:Int):Int:=u64.wrap ((iand .u64 (ishr .u64 x (1:Int)) (6148914691236517205:Int))+(iand .u64 x (6148914691236517205:Int)))
def og2 (x:Int):Int:=u64.wrap ((iand .u64 (ishr .u64 x (2:Int)) (3689348814741910323:Int))+(iand .u64 x (3689348814741910323:Int)))
def og3 (x:Int):Int:=iand .u64 (u64.wrap ((ishr .u64 x (4:Int))+x)) (1085102592571150095:Int)
def og4 (x:Int):Int:=u64.wrap (x+(ishr .u64 x (8:Int)))
def og5 (x:Int):Int:=u64.wrap (x+(ishr .u64 x (16:Int)))
def og6 (x:Int):Int:=iand .i64 (i64.wrap (u64.wrap (x+(ishr .u64 x (32:Int))))) (127:Int)
def Qux (x:Int):Qez x=some (og6 (og5 (og4 (og3 (og2 (og1 x)))))):=rfl
def QgP (m k:Nat) (hk:k≤64):ishr .u64 (m:Int) (k:Int)=((m>>>k:Nat):Int):=by
 unfold ishr;rw[Zr,show u64.bits=64 from rfl,Nat.min_eq_left hk,Int.fdiv_eq_ediv_of_nonneg _ (by exact_mod_cast Nat.zero_le (2 ^ k)),Nat.shiftRight_eq_div_pow]
 norm_cast
def QiS (m k:Nat):m>>>k≤m:=by rw[Nat.shiftRight_eq_div_pow];exact Nat.div_le_self _ _
def uadd {a b:Nat} (h:a+b<18446744073709551616):u64.wrap ((a:Int)+(b:Int))=((a+b:Nat):Int):=by rw[u64w (by omega) (by omega)];omega
def og1_is {x:Nat} (h:x<2 ^ 64):og1 (x:Int)=(oh1 x:Int)∧oh1 x<2 ^ 64:=by have h1:=Nat.and_le_right (n:=x>>>1) (m:=6148914691236517205);have h2:=Nat.and_le_right (n:=x) (m:=6148914691236517205);have h3:=QiS x 1;refine⟨?_,by unfold oh1;omega⟩;unfold og1 oh1;rw[show (1:Int)=((1:Nat):Int) from rfl,QgP _ _ (by omega),show (6148914691236517205:Int)=((6148914691236517205:Nat):Int) from rfl,QhC (by omega) (by omega),QhC h (by omega),uadd (by omega)]
def og2_is {x:Nat} (h:x<2 ^ 64):og2 (x:Int)=(oh2 x:Int)∧oh2 x<2 ^ 63:=by have h1:=Nat.and_le_right (n:=x>>>2) (m:=3689348814741910323);have h2:=Nat.and_le_right (n:=x) (m:=3689348814741910323);have h3:=QiS x 2;refine⟨?_,by unfold oh2;omega⟩;unfold og2 oh2;rw[show (2:Int)=((2:Nat):Int) from rfl,QgP _ _ (by omega),show (3689348814741910323:Int)=((3689348814741910323:Nat):Int) from rfl,QhC (by omega) (by omega),QhC h (by omega),uadd (by omega)]
def og3_is {x:Nat} (h:x<2 ^ 63):og3 (x:Int)=(oh3 x:Int)∧oh3 x<2 ^ 60:=by have h3:=QiS x 4;refine⟨?_,by unfold oh3;have h1:=Nat.and_le_right (n:=(x>>>4)+x) (m:=1085102592571150095);omega⟩;unfold og3 oh3;rw[show (4:Int)=((4:Nat):Int) from rfl,QgP _ _ (by omega),uadd (by omega),show (1085102592571150095:Int)=((1085102592571150095:Nat):Int) from rfl,QhC (by omega) (by omega)]
def og4_is {x:Nat} (h:x<2 ^ 60):og4 (x:Int)=(oh4 x:Int)∧oh4 x<2 ^ 61:=by have h3:=QiS x 8;refine⟨?_,by unfold oh4;omega⟩;unfold og4 oh4;rw[show (8:Int)=((8:Nat):Int) from rfl,QgP _ _ (by omega),uadd (by omega)]
def og5_is {x:Nat} (h:x<2 ^ 61):og5 (x:Int)=(oh5 x:Int)∧oh5 x<2 ^ 62:=by have h3:=QiS x 16;refine⟨?_,by unfold oh5;omega⟩;unfold og5 oh5;rw[show (16:Int)=((16:Nat):Int) from rfl,QgP _ _ (by omega),uadd (by omega)]
def og6_is {x:Nat} (h:x<2 ^ 62):og6 (x:Int)=(oh6 x:Int):=by have h3:=QiS x 32;unfold og6 oh6;rw[show (32:Int)=((32:Nat):Int) from rfl,QgP _ _ (by omega),uadd (by omega),w64 (by omega) (by omega)];unfold iand;rw[show (127:Int)=((127:Nat):Int) from rfl];show i64.wrap (((BitVec.ofInt 64 (((x+x>>>32:Nat)):Int)&&& BitVec.ofInt 64 ((127:Nat):Int)).toNat:Nat):Int)=_;rw[BitVec.toNat_and,QnT (by omega),QnT (by omega)];have:=Nat.and_le_right (n:=x+x>>>32) (m:=127);exact w64 (by omega) (by omega)
def Qtp {x:Nat} (h:x<2 ^ 64):Qcb (x:Int)=some ((ones x:Nat):Int):=by unfold Qcb;rw[Qux];obtain⟨e1,b1⟩:=og1_is h;obtain⟨e2,b2⟩:=og2_is b1;obtain⟨e3,b3⟩:=og3_is b2;obtain⟨e4,b4⟩:=og4_is b3;obtain⟨e5,b5⟩:=og5_is b4;rw[e1,e2,e3,e4,e5,og6_is b5];rfl
def Qmi:Nat→Nat→Bool
 | 0,m=>ones m==ones (m / 2)+m % 2
 | f+1,m=>Qmi f (2 * m)&&Qmi f (2 * m+1)
def Qwx:Qmi 16 0=true:=by decide+kernel
def QmY:∀f m k,Qmi f m=true→m * 2 ^ f≤k→k<(m+1) * 2 ^ f→ones k=ones (k / 2)+k % 2
 | 0,m,k,h,h0,h1=>by
  have:k=m:=by omega
  subst this;simpa[Qmi] using h
 | f+1,m,k,h,h0,h1=>by
  unfold Qmi at h;rw[Zg] at h;rw[Nat.pow_succ] at h0 h1;have e1:m * (2 ^ f * 2)=2 * m * 2 ^ f:=by rw[Nat.mul_comm (2 ^ f) 2,←Nat.mul_assoc,Nat.mul_comm m 2]
  have e2:(m+1) * (2 ^ f * 2)=(2 * m+2) * 2 ^ f:=by rw[Nat.mul_comm (2 ^ f) 2,←Nat.mul_assoc];congr 1;omega
  rw[e1] at h0;rw[e2] at h1;by_cases hk:k<(2 * m+1) * 2 ^ f
  ·exact QmY f (2 * m) k h.1 h0 hk
  ·exact QmY f (2 * m+1) k h.2 (by omega) h1
def Qwy {m:Nat} (h:m<2 ^ 16):ones m=ones (m / 2)+m % 2:=QmY 16 0 m Qwx (by omega) (by omega)
def setL (f m:Nat):List Nat:=(range f).filter fun i=>m.testBit i
def QfX {f m i:Nat}:i∈setL f m↔i<f∧m.testBit i=true:=by unfold setL;rw[Yn,ZH]
def Qfd:∀(f m:Nat),f≤16→m<2 ^ f→(setL f m).length=ones m
 | 0,m,_,h=>by
  have:m=0:=by omega
  subst this
  decide
 | f+1,m,hf,h=>by
  have h16:m<2 ^ 16:=ZR h (Nat.pow_le_pow_right (by omega) hf);rw[Qwy h16];rw[Nat.pow_succ] at h;have ih:=Qfd f (m / 2) (by omega) (by omega);unfold setL at ih ⊢;rw[range_succ_eq_map,filter_cons,filter_map,←ih];have e:((fun i=>m.testBit i) ∘ Nat.succ)=fun i=>(m / 2).testBit i:=by
   funext i
   exact Nat.testBit_succ m i
  rw[e,Nat.testBit_zero];by_cases hb:m % 2=1
  ·rw[Zc (by simpa using hb),ZB,ZT,hb]
  ·rw[Zd (by simpa using hb),ZT];omega
def Qdw (n:Nat):List Nat:=(range (n+1)).flatMap fun k=>(range (2 ^ n)).filter fun m=>ones m==k
def Qe3 {n m:Nat} (hn:n≤16):m∈Qdw n↔m<2 ^ n:=by
 unfold Qdw;simp only[ZG,Yn,ZH,Ye];constructor
 ·rintro ⟨k,_,h,_⟩;exact h
 ·intro h;refine⟨ones m,?_,h,rfl⟩;rw[←Qfd n m hn h];have:=length_filter_le (fun i=>m.testBit i) (range n);rw[Yo] at this;unfold setL;omega
def Qpk {α:Type} (R:α→α→Prop) (F:Nat→List α):∀n,(∀i,i<n→(F i).Pairwise R)→(∀i j,i<j→j<n→∀a∈F i,∀b∈F j,R a b)→((range n).flatMap F).Pairwise R
 | 0,_,_=>by simp
 | n+1,h1,h2=>by rw[Yf,ZM,Yt,pairwise_append];refine⟨Qpk R F n (fun i hi=>h1 i (by omega)) (fun i j hij hj=>h2 i j hij (by omega)),h1 n (by omega),fun a ha b hb=>?_⟩;obtain⟨i,hi,ha⟩:=ZG.1 ha;exact h2 i n (ZH.1 hi) (by omega) a ha b hb
def Qri (n:Nat):(Qdw n).Pairwise fun a b=>ones a≤ones b:=by
 refine Qpk _ _ _ (fun i _=>?_) (fun i j hij _ a ha b hb=>?_)
 ·refine Pairwise.imp_of_mem (R:=fun _ _=>True) (fun {a b} ha hb _=>?_) (pairwise_of_forall (fun _ _=>trivial));have h1:=(Yn.1 ha).2;have h2:=(Yn.1 hb).2;simp only[Ye] at h1 h2;omega
 ·have h1:=(Yn.1 ha).2;have h2:=(Yn.1 hb).2;simp only[Ye] at h1 h2;omega
section
variable {S:Type}
def goS (Y:S→Int→Option (S⊕S)):List Nat→S→Option (S⊕S)
 | [],s=>some (.inl s)
 | m::l,s=>(Y s (m:Int)).bind fun r=>match r with | .inl s'=>goS Y l s' | .inr s'=>some (.inr s')
theorem QhD (Y:S→Int→Option (S⊕S)) (m:Nat) (l:List Nat) (s:S):goS Y (m::l) s=(Y s (m:Int)).bind fun r=>match r with | .inl s'=>goS Y l s' | .inr s'=>some (.inr s'):=rfl
theorem Qtq (Y:S→Int→Option (S⊕S)):∀(a b:List Nat) (s:S),goS Y (a++b) s=(goS Y a s).bind fun r=>match r with | .inl s'=>goS Y b s' | .inr s'=>some (.inr s')
 | [],b,s=>rfl
 | m::a,b,s=>by
  rw[Yq,QhD,QhD]
  cases h:Y s (m:Int) with
  | none=>rfl
  | some r=>
   simp only[Za]
   cases r with
   | inl s'=>exact Qtq Y a b s'
   | inr s'=>rfl
theorem QlD {ρ:Type} {Y:S→Int→Option (S⊕S)} (w:Int→Int) (n:Nat) (hw:∀k,k<n→w ((k:Int)+1)=((k+1:Nat):Int)) (F:Nat→List Nat) (o:S⊕S→ρ) (i:S→ρ) {body:Int×S→Option ((Int×S)⊕ρ)}
  (hb:∀k,k<n→∀s,body ((k:Int),s)=(goS Y (F k) s).bind fun r=>match r with | .inl s'=>some (.inl (w ((k:Int)+1),s')) | .inr s'=>some (.inr (o (.inr s')))) (he:∀s,body ((n:Int),s)=some (.inr (o (.inl s)))) (s:S):
  Ql body ((0:Int),s)=(goS Y ((range n).flatMap F) s).map o:=by
 have key:∀m k s,k+m=n→Ql body ((k:Int),s)=(goS Y ((range' k m).flatMap F) s).map o:=by
  intro m
  induction m with
  | zero=>
   intro k s hk;have:k=n:=by omega
   subst this;rw[Qas,he];rfl
  | succ m ih=>
   intro k s hk;rw[Qas,hb k (by omega),range'_succ,flatMap_cons,Qtq]
   cases h:goS Y (F k) s with
   | none=>rfl
   | some r=>
    simp only[Za]
    cases r with
    | inr s'=>rfl
    | inl s'=>dsimp only;rw[hw k (by omega)];exact ih (k+1) s' (by omega)
 have:=key n 0 s (by omega);rw[range_eq_range'];exact this
theorem QkE (Y:S→Int→Option (S⊕S)) (p:Nat→Bool):∀(l:List Nat) (s:S),goS Y (l.filter p) s=goS (fun s m=>if p m.toNat=true then Y s m else some (.inl s)) l s
 | [],s=>rfl
 | m::l,s=>by
  rw[filter_cons,QhD,Zr]
  cases hp:p m with
  | true=>
   rw[Zc rfl,Zc rfl,QhD];congr 1
   funext r
   cases r with
   | inl s'=>exact QkE Y p l s'
   | inr s'=>rfl
  | false=>rw[Zd (by simp),Zd (by simp)];simp only[Za];exact QkE Y p l s
theorem QBO (Y:S→Int→Option (S⊕S)):∀(l:List Nat) (s:S),goS Y (l.flatMap fun m=>[m]) s=goS Y l s:=fun l s=>by rw[flatMap_singleton']
theorem Qtr {Y:S→Int→Option (S⊕S)} {n:Nat} (hn:n≤16) (s:S):QeR Y s (n:Int)=goS Y (Qdw n) s:=by
 have hp:2 ^ n≤2 ^ 16:=Nat.pow_le_pow_right (by omega) hn;have hsh:ishl .u64 (1:Int) (n:Int)=((2 ^ n:Nat):Int):=by
  have e:(2:Int) ^ n=((2 ^ n:Nat):Int):=by push_cast;rfl
  unfold ishl;rw[Zr,show u64.bits=64 from rfl,Nat.min_eq_left (by omega),Int.one_mul,e];exact u64w (Int.natCast_nonneg _) (by omega)
 unfold QeR;rw[w64 (by omega) (by omega),hsh];refine (QlD (Y:=Y) i64.wrap (n+1) (fun k hk=>QH hk (by omega)) (fun k=>(range (2 ^ n)).filter fun m=>ones m==k) (fun r=>r) (fun s=>.inl s) (fun k hk s=>?_) (fun s=>by rw[Zd (by simp)]) s).trans ?_
 ·rw[Zc (decide_eq_true (by omega))];rw[show nn (n:Int)=some () by unfold nn;rw[Zc (by omega)]];simp only[Za];rw[QkE,←QBO _ (range (2 ^ n))];rw[QlD (Y:=fun s m=>if (ones m.toNat==k)=true then Y s m else some (.inl s)) u64.wrap (2 ^ n) (fun k hk=>by rw[u64w (by omega) (by omega)];omega) (fun m=>[m]) (fun r=>r) (fun s=>.inl s) (fun m hm s=>?_) (fun s=>by rw[Zd (by simp)]) s]
  ·cases goS (fun s m=>if (ones m.toNat==k)=true then Y s m else some (.inl s)) ((range (2 ^ n)).flatMap fun m=>[m]) s with
   | none=>rfl
   | some r=>cases r<;>rfl
  ·rw[Zc (decide_eq_true (Int.ofNat_lt.2 hm)),Qtp (by omega)];simp only[Za,goS,Zr];have e:(((ones m:Nat):Int)==(k:Int))=(ones m==k):=by
    rw[ZZ];simp;omega
   rw[e]
   cases (if (ones m==k)=true then Y s (m:Int) else some (.inl s)) with
   | none=>rfl
   | some r=>cases r<;>rfl
 ·unfold Qdw;cases goS Y ((range (n+1)).flatMap fun k=>(range (2 ^ n)).filter fun m=>ones m==k) s<;>rfl
end
def QnU {m k:Nat} (hm:m<2 ^ 64) (hk:k≤64):(iand .u64 (ishr .u64 (m:Int) (k:Int)) (1:Int)==(1:Int))=m.testBit k:=by have:=QiS m k;rw[QgP _ _ hk,show (1:Int)=((1:Nat):Int) from rfl,QhC (by omega) (by omega)];rw[ZZ];unfold Nat.testBit;rw[Nat.and_comm 1];have h2:m>>>k&&& 1=m>>>k % 2:=Nat.and_one_is_mod _;rw[h2];simp only[Ye,bne_iff_ne,YB];omega
def Qwz {p n:Int} (hp:I64 p):Ok (Qco p n) (fun r=>0≤r∧(1≤n→r<n)∧(n≤0→r=0)):=by
 have hp':=hp;unfold I64 at hp';have key:∀q:Int,0≤q→Ok (if decide (n<1)=true then some 0 else (nz n).bind fun _=>some (Int.tmod q n)) (fun r=>0≤r∧(1≤n→r<n)∧(n≤0→r=0)):=fun q hq=>by
  refine Ok.ite (fun h=>?_) (fun h=>?_)
  ·have:n<1:=ZA h;exact Ok.mk ⟨Zy _,fun h=>by omega,fun _=>rfl⟩
  ·have:¬n<1:=ZL h;rw[Qqk (by omega)];exact Ok.mk ⟨Int.tmod_nonneg _ hq,fun _=>Int.tmod_lt_of_pos _ (by omega),fun h=>by omega⟩
 unfold Qco;refine Ok.bind (P:=fun q=>0≤q) (Ok.ite (fun h=>?_) (fun h=>?_)) (fun q hq=>key q hq)
 ·have:p<0:=ZA h;refine Ok.mk ?_;have e1:i64.wrap (p+1)=p+1:=w64 (by omega) (by omega);rw[e1,w64 (by omega) (by omega)];omega
 ·have:¬p<0:=ZL h;exact Ok.mk (by omega)
section
variable {β:Type} {Q:β→Prop}
theorem Ok.around {p n:Int} {f:Int→Option β} (hp:I64 p) (hn:1≤n) (k:∀r,0≤r→r<n→Ok (f r) Q):Ok ((Qco p n).bind f) Q:=(Qwz hp).bind fun r h=>k r h.1 (h.2.1 hn)
def MOk (m:Qn):Prop:=∀x∈m.L,I64 x
theorem QdH {m:Qn} {n:Int} (hm:MOk m) (hn:1≤n):Ok (QD m n) (fun r=>0≤r.1∧r.1<n∧MOk r.2):=by unfold QD QbB;refine Ok.bind (P:=fun r=>0≤r∧r<n) (Ok.ite (fun h=>Ok.mk ⟨Zy _,by omega⟩) (fun h=>?_)) (fun r hr=>Ok.mk ⟨hr.1,hr.2,hm⟩);simp only[Bool.or_eq_false_iff,ZI] at h;refine Ok.idx (by omega) (by omega) fun v hv _=>?_;exact Ok.around (hm v hv) hn fun r h0 h1=>Ok.mk ⟨h0,h1⟩
theorem Ok.take {m:Qn} {n:Int} {f:Int×Qn→Option β} (hm:MOk m) (hn:1≤n) (k:∀r m',0≤r→r<n→MOk m'→Ok (f (r,m')) Q):Ok ((QD m n).bind f) Q:=(QdH hm hn).bind fun r h=>k r.1 r.2 h.1 h.2.1 h.2.2
end
def SN (s:Str):Prop:=s.length≤20∧s.head?≠some 122
def FN (f:Qc):Prop:=SN f.Name∧SN f.Of∧SN f.Up
def FOk (f:Qc):Prop:=f.Words.length≤6∧f.Weights.length≤6∧FN f
def KOk (n:Nat) (k:Qg):Prop:=k.Fields.length≤n∧(∀f∈k.Fields,FOk f)∧SN k.Name
def QhW {l:List Qc} {name:Str} (hl:l.length≤1000):Ok (Qc3 l name) (fun r=>-1≤r∧r<l.length):=by
 unfold Qc3;refine Ok.bind (P:=fun e=>match e with | .inl _=>True | .inr r=>0≤r∧r<l.length) (Ok.loop (fun k s=>0≤s∧s+k=l.length) l.length ⟨by omega,by omega⟩ fun k s hs=>?_) (fun e he=>?_)
 ·refine Ok.ite (fun h=>?_) (fun h=>Ok.mk trivial);have h':s<l.length:=ZA h;refine Ok.idx hs.1 h' fun v _ _=>Ok.ite (fun _=>Ok.mk ⟨hs.1,h'⟩) (fun _=>Ok.mk ?_);rw[w64 (by omega) (by omega)];exact⟨k - 1,by omega,by omega,by omega⟩
 ·rcases e with e | e
  ·exact Ok.mk ⟨by omega,by omega⟩
  ·exact Ok.mk ⟨by omega,he.2⟩
def Qpl {k:Qg} (hl:k.Fields.length≤1000):Ok (Qdi k) (fun r=>-1≤r∧r<k.Fields.length):=by
 unfold Qdi;refine Ok.bind (P:=fun e=>match e with | .inl _=>True | .inr r=>0≤r∧r<k.Fields.length) (Ok.loop (fun n s=>0≤s∧s+n=k.Fields.length) k.Fields.length ⟨by omega,by omega⟩ fun n s hs=>?_) (fun e he=>?_)
 ·refine Ok.ite (fun h=>?_) (fun h=>Ok.mk trivial);have h':s<k.Fields.length:=ZA h;refine Ok.idx hs.1 h' fun v _ _=>Ok.ite (fun _=>Ok.mk ⟨hs.1,h'⟩) (fun _=>Ok.mk ?_);rw[w64 (by omega) (by omega)];exact⟨n - 1,by omega,by omega,by omega⟩
 ·rcases e with e | e
  ·exact Ok.mk ⟨by omega,by omega⟩
  ·exact Ok.mk ⟨by omega,he.2⟩
def Qrj {m:Qn} (hm:MOk m):Ok (QaT m) (fun r=>r.1.length≤2∧(∀f∈r.1,FOk f)∧MOk r.2):=by
 unfold QaT;refine Ok.take hm (by decide) fun r m1 _ _ h1=>?_;refine Ok.ite (fun _=>?_) (fun _=>?_)
 ·refine Ok.take h1 (by decide) fun r2 m2 _ _ h2=>Ok.take h2 (by decide) fun r3 m3 _ _ h3=>Ok.mk ⟨by simp,by simp[FOk,FN,SN],h3⟩
 refine Ok.ite (fun _=>?_) (fun _=>?_)
 ·refine Ok.take h1 (by decide) fun r2 m2 h20 h21 h2=>?_;have hr2:i64.wrap (1+r2)=1+r2:=w64 (by omega) (by omega);refine Ok.sub (by decide) (by dsimp only;rw[hr2];omega) (by dsimp only;rw[hr2];simp;omega) fun w hw _=>?_;dsimp only at hw;rw[hr2] at hw;have hwl:1≤w.length∧w.length≤3:=by omega
  refine Ok.bind (P:=fun r=>r.1.length=w.length∧MOk r.2) (Ok.loop (fun k s=>0≤s.1∧s.1+k=w.length∧s.2.1.length=s.1∧MOk s.2.2) w.length ⟨Zy _,by simp,by simp,h2⟩ fun k s hs=>?_) (fun p hp=>?_)
  ·obtain⟨i,ws,m3⟩:=s;obtain⟨e1,e2,e3,e4⟩:=hs;dsimp only at e1 e2 e3 e4;refine Ok.ite (fun h=>?_) (fun h=>?_)
   ·have h':i<w.length:=ZA h;refine Ok.take e4 (by decide) fun r4 m4 _ _ h4=>Ok.rm (by simp;omega) (Ok.mk ?_);dsimp only;rw[w64 (by omega) (by omega)];exact⟨k - 1,by omega,by omega,by omega,by simp;omega,h4⟩
   ·have h':¬i<w.length:=ZL h;exact Ok.mk ⟨by dsimp only;omega,e4⟩
  ·refine Ok.take hp.2 (by omega) fun r4 m4 h40 h41 h4=>Ok.take h4 (by decide) fun r5 m5 _ _ h5=>?_;refine Ok.setAt h40 (by dsimp only;omega) (Ok.mk ⟨by simp,?_,h5⟩);intro f hf;rw[Ze] at hf;subst hf;exact⟨by dsimp only;omega,by simp only[Yv];omega,by simp[FN,SN]⟩
 refine Ok.ite (fun _=>?_) (fun _=>?_)
 ·refine Ok.take h1 (by decide) fun r2 m2 _ _ h2=>Ok.take h2 (by decide) fun r3 m3 _ _ h3=>Ok.take h3 (by decide) fun r4 m4 _ _ h4=>Ok.take h4 (by decide) fun r5 m5 _ _ h5=>Ok.mk ⟨by simp,by simp[FOk,FN,SN],h5⟩
 refine Ok.ite (fun _=>?_) (fun _=>?_)
 ·refine Ok.take h1 (by decide) fun r2 m2 _ _ h2=>Ok.take h2 (by decide) fun r3 m3 _ _ h3=>Ok.mk ⟨by simp,by simp[FOk,FN,SN],h3⟩
 refine Ok.ite (fun _=>?_) (fun _=>?_)
 ·refine Ok.take h1 (by decide) fun r2 m2 _ _ h2=>Ok.take h2 (by decide) fun r3 m3 _ _ h3=>Ok.take h3 (by decide) fun r4 m4 _ _ h4=>Ok.take h4 (by decide) fun r5 m5 _ _ h5=>Ok.mk ⟨by simp,by simp[FOk,FN,SN],h5⟩
 ·exact Ok.mk ⟨by simp,by simp,h1⟩
def GOk (n:Nat) (k:Qg):Prop:=KOk n k∧1≤k.Name.length∧k.Name.length≤6
def GOk.weak {a b:Nat} {k:Qg} (h:GOk a k) (hab:a≤b):GOk b k:=⟨⟨by have:=h.1.1;omega,h.1.2⟩,h.2⟩
def fok {n o u:Str} {k lo hi:Int} (h1:SN n) (h2:SN o) (h3:SN u):FOk ⟨n,o,u,k,lo,hi,[],[]⟩:=⟨by simp,by simp,h1,h2,h3⟩
def QnV:SN []:=by simp[SN]
def Qdm {c:Bool} {a b:Qn} (h:c=true→MOk a) (k:MOk b):MOk (bif c==true then a else b):=by
 cases c with
 | true=>exact h rfl
 | false=>exact k
set_option maxHeartbeats 1000000 in
def QBP {m:Qn} {l:List Qg} {N:Nat} (hm:MOk m) (hl:l.length≤2) (hN:N≤20) (hk:∀k∈l,GOk N k):
  Ok (Qbg m l) (fun r=>GOk 9 r.1∧MOk r.2.1∧r.2.2.length=l.length∧∀k∈r.2.2,GOk (N+1) k):=by
 unfold Qbg;refine Ok.take hm (by decide) fun r1 m1 a1 b1 h1=>?_;refine Ok.idx a1 (by simpa using b1) fun lo _ _=>?_;refine Ok.idx (by omega) (by simp;omega) fun name hname _=>?_;have hn:1≤name.length∧name.length≤6:=by simp only[Zm,Zv,ZE] at hname;rcases hname with rfl | rfl | rfl<;>decide
 have hsn:SN name:=by simp only[Zm,Zv,ZE] at hname;rcases hname with rfl | rfl | rfl<;>simp[SN]
 refine Ok.take h1 (by decide) fun r2 m2 _ _ h2=>?_;refine Ok.take h2 (by decide) fun r3 m3 a3 b3 h3=>?_;refine Ok.idx a3 (by simpa using b3) fun id0 _ _=>?_;refine Ok.rm (by simp) ?_;refine Ok.bind (P:=fun p:Qn×List Qc×List Qg=>MOk p.1∧p.2.1.length≤4∧(∀f∈p.2.1,FOk f)∧p.2.2.length=l.length∧∀k∈p.2.2,GOk (N+1) k)
  (Ok.ite (fun hpos=>?_) (fun _=>Ok.mk ⟨h3,by simp,by simp[FOk,FN,SN],rfl,fun k h=>(hk k h).weak (by omega)⟩)) fun p hp=>?_
 ·have hpos':(0:Int)<l.length:=ZA hpos;refine Ok.take h3 (by omega) fun to m4 a4 b4 h4=>?_;refine Ok.idx a4 b4 fun kt hkt ekt=>?_;refine Ok.take h4 (by decide) fun r5 m5 a5 b5 h5=>?_;refine Ok.idx a5 (by simpa using b5) fun hi _ _=>?_;refine Ok.take h5 (by decide) fun r6 m6 _ _ h6=>?_;have skt:=(hk kt hkt).1.2.2;refine Ok.bind (P:=FOk) (Ok.ite (fun _=>Ok.mk (fok (by simp[SN]) skt QnV)) (fun _=>Ok.mk (fok (by simp[SN]) skt QnV))) fun f hf=>?_;refine Ok.rm (by simp) ?_;refine Ok.idx a4 b4 fun kt1 hkt1 _=>?_;refine (Qpl (by have:=(hk _ hkt1).1.1;omega)).bind fun c hc=>?_;refine Ok.opt (P:=fun r:Int×Qn=>MOk r.2) (fun h=>(QdH h6 (by decide)).weak fun r h=>h.2.2) fun r7 h7=>?_;have m7:MOk (bif (decide (c≥(0:Int)))==true then r7.2 else m6):=Qdm (fun h=>h7 (by rw[h];rfl)) h6;refine Ok.bind (P:=fun p:List Qc=>p.length≤3∧∀f∈p,FOk f) (Ok.ite (fun h=>?_) (fun _=>Ok.mk ⟨by simp,?_⟩)) fun fs hfs=>?_
  ·simp only[Zg,Zj] at h;refine Ok.idx a4 b4 fun kt2 hkt2 ekt2=>?_;have e:kt2=kt1:=by simp_all
   subst e;refine Ok.idx h.1 hc.2 fun g hg _=>Ok.rm (by simp) (Ok.mk ⟨by simp,?_⟩);have sg:=((hk _ hkt1).1.2.1 g hg).2.2.1;intro x hx;simp only[Yg,Yq,Zm,Zv,ZE] at hx;rcases hx with rfl | rfl | rfl
   ·simp[FOk,FN,SN]
   ·exact hf
   ·exact fok (by simp[SN]) sg (by simp[SN])
  ·intro x hx;simp only[Yg,Yq,Zm,Zv,ZE] at hx;rcases hx with rfl | rfl
   ·simp[FOk,FN,SN]
   ·exact hf
  ·refine Ok.idx a4 b4 fun kt3 hkt3 ekt3=>?_;refine (QhW (by have:=(hk _ hkt3).1.1;omega)).bind fun tot htot=>?_;refine Ok.opt (P:=fun r:Int×Qn=>MOk r.2) (fun h=>(QdH m7 (by decide)).weak fun r h=>h.2.2) fun r8 h8=>?_;have m8:MOk (bif (decide (tot<(0:Int)))==true then r8.2 else (bif (decide (c≥(0:Int)))==true then r7.2 else m6)):=Qdm (fun h=>h8 (by rw[h];rfl)) m7;refine Ok.bind (P:=fun p:Qn×List Qc×List Qg=>MOk p.1∧p.2.1.length≤4∧(∀f∈p.2.1,FOk f)∧p.2.2.length=l.length∧∀k∈p.2.2,GOk (N+1) k)
    (Ok.ite (fun h=>?_) (fun _=>Ok.mk ⟨m8,by have:=hfs.1;dsimp only;omega,hfs.2,rfl,fun k h=>(hk k h).weak (by omega)⟩)) fun p hp=>Ok.mk hp
   refine Ok.take m8 (by decide) fun r9 m9 _ _ h9=>Ok.take h9 (by decide) fun r10 m10 _ _ h10=>?_;refine Ok.rm (by have:=hfs.1;simp;omega) ?_;refine Ok.idx a4 b4 fun kt4 hkt4 ekt4=>?_;have hk4:=hk _ hkt4;have hk41:=hk4.1.1;refine Ok.rm (by simp;omega) (Ok.rm (by simp;omega) ?_);refine Ok.idx a4 b4 fun kt5 hkt5 ekt5=>?_;have e:kt5=kt4:=by simp_all
   subst e;refine Ok.setAt a4 b4 (Ok.mk ⟨h10,?_,?_,?_,?_⟩)
   ·have:=hfs.1;simp;omega
   ·intro x hx;rcases Zp.1 hx with hx | hx
    ·exact hfs.2 x hx
    ·rw[Ze] at hx;subst hx;simp[FOk,FN,SN]
   ·simp
   ·intro k hkm;rcases mem_or_eq_of_mem_set hkm with hkm | rfl
    ·exact (hk k hkm).weak (by omega)
    ·refine⟨⟨?_,?_,hk4.1.2.2⟩,hk4.2⟩
     ·simp;omega
     ·intro x hx;rcases Zp.1 hx with hx | hx
      ·exact hk4.1.2.1 x (by simpa using hx)
      ·rw[Ze] at hx;subst hx;exact fok (by simp[SN]) hsn QnV
 ·obtain⟨q1,q2,q3,q4,q5⟩:=hp;refine Ok.opt (P:=fun r:Int×Qn=>MOk r.2) (fun h=>(QdH q1 (by decide)).weak fun r h=>h.2.2) fun r11 h11=>?_;have m11:MOk (bif (decide ((l.length:Int)>(1:Int)))==true then r11.2 else p.1):=Qdm (fun h=>h11 (by rw[h];rfl)) q1;refine Ok.bind (P:=fun p:List Qc=>p.length≤5∧∀f∈p,FOk f) (Ok.ite (fun h=>?_) (fun _=>Ok.mk ⟨by omega,q3⟩)) fun fs hfs=>?_
  ·simp only[Zg,Zj] at h;refine Ok.idx (by decide) (by omega) fun k0 hk0 _=>Ok.rm (by simp;omega) (Ok.mk ⟨by simp;omega,?_⟩);intro x hx;rcases Zp.1 hx with hx | hx
   ·exact q3 x hx
   ·rw[Ze] at hx;subst hx;exact fok (by simp[SN]) (q5 k0 hk0).1.2.2 QnV
  ·refine (Qrj m11).bind fun r12 h12=>?_;obtain⟨c1,c2,c3⟩:=h12;obtain⟨f1,f2⟩:=hfs;refine Ok.rm (by omega) ?_;refine Ok.take c3 (by decide) fun r13 m13 _ _ h13=>?_;have all7:∀f∈fs++r12.1,FOk f:=fun x hx=>(Zp.1 hx).elim (f2 x) (c2 x);have len7:(fs++r12.1).length≤7:=by simp;omega
   refine Ok.bind (P:=fun p:Qn×List Qc=>MOk p.1∧p.2.length≤9∧∀f∈p.2,FOk f) (Ok.ite (fun h=>?_) (fun _=>Ok.mk ⟨h13,by dsimp only;omega,all7⟩)) fun p52 hp52=>Ok.mk ⟨⟨⟨hp52.2.1,hp52.2.2,hsn⟩,hn⟩,hp52.1,q4,q5⟩;refine (Qrj h13).bind fun r14 h14=>?_;obtain⟨d1,d2,d3⟩:=h14;refine Ok.opt (P:=fun _=>True) (fun h=>?_) fun g _=>?_
   ·have h':(r14.1.length:Int)>0:=by simpa using h
    exact (Ok.idx (by decide) (by omega) fun v _ _=>Ok.mk trivial:Ok ((idx r14.1 0).bind some) _).weak (fun _ h=>h) |> fun h=>by simpa using h
   refine Ok.opt (P:=fun _=>True) (fun h=>(QhW (by omega)).weak fun _ _=>trivial) fun g2 _=>?_;refine Ok.bind (P:=fun p:List Qc=>p.length≤9∧∀f∈p,FOk f) (Ok.ite (fun h=>Ok.rm (by omega) (Ok.mk ⟨by rw[Zi];omega,fun x hx=>(Zp.1 hx).elim (all7 x) (d2 x)⟩)) (fun _=>Ok.mk ⟨by omega,all7⟩)) fun p64 hp64=>Ok.mk ⟨d3,hp64.1,hp64.2⟩
def RN (r:Qo):Prop:=SN r.Name∧SN r.Kind∧SN r.A∧SN r.B
def Qrk {a r:Str} (h1:1≤a.length) (h2:a.length≤10) (h:a.head?≠some 122) (hr:r.length=1):SN (a++r):=by
 refine⟨by rw[Zi];omega,?_⟩
 cases a with
 | nil=>simp at h1
 | cons c a=>simpa using h
def QBQ {m:Qn} {k:Qg} (hm:MOk m) (hk:GOk 12 k):Ok (Qbh m k) (fun r=>RN r.1∧MOk r.2.2):=by unfold Qbh;obtain⟨⟨k1,k2,ks⟩,k3,k4⟩:=hk;refine (QhW (by omega)).bind fun a ha=>(QhW (by omega)).bind fun b hb=>?_;refine Ok.opt (P:=fun r:Int×Qn=>MOk r.2) (fun h=>(QdH hm (by decide)).weak fun r h=>h.2.2) fun r1 h1=>?_;have m1:MOk (bif (decide (a≥(0:Int)))==true then r1.2 else m):=Qdm (fun h=>h1 (by rw[h];rfl)) hm;have nm:∀{β:Type} {Q:β→Prop} {f:Str→Option β},(∀r:Str,r.length=1→Ok (f r) Q)→Ok ((sub k.Name 0 1).bind f) Q:=fun h=>Ok.sub (by decide) (by decide) (by omega) fun r hr _=>h r (by simpa using hr);refine Ok.ite (fun _=>nm fun r hr=>Ok.cat (by simp;omega) (Ok.take m1 (by decide) fun _ m2 _ _ h2=>Ok.mk ⟨⟨Qrk (by simp) (by simp) (by simp) hr,ks,by simp[SN],by simp[SN]⟩,h2⟩)) (fun _=>?_);refine Ok.ite (fun _=>Ok.mk ⟨by simp[RN,SN],m1⟩) (fun h=>?_);have hb0:¬b<0:=ZL h;refine Ok.idx (by omega) hb.2 fun f _ _=>Ok.take m1 (by decide) fun r2 m2 _ _ h2=>?_;refine Ok.ite (fun _=>nm fun r hr=>Ok.cat (by simp;omega) (Ok.take h2 (by decide) fun _ m2 _ _ h2=>Ok.mk ⟨⟨Qrk (by simp) (by simp) (by simp) hr,ks,by simp[SN],by simp[SN]⟩,h2⟩)) (fun _=>nm fun r hr=>Ok.cat (by simp;omega) (Ok.take h2 (by decide) fun _ m2 _ _ h2=>Ok.mk ⟨⟨Qrk (by simp) (by simp) (by simp) hr,ks,by simp[SN],by simp[SN]⟩,h2⟩))
def SOk (n:Nat) (x:Qa):Prop:=x.Kinds.length≤3∧(∀k∈x.Kinds,KOk 14 k)∧x.Lives.length≤1∧(∀m∈x.Lives,m.States.length≤6∧m.Moves.length≤8∧SN m.Name)∧x.Rules.length≤n∧∀r∈x.Rules,RN r
def QwA {l:List Int} (hl:∀x∈l,I64 x):Ok (QbW l) (SOk 2):=by
 unfold QbW;refine Ok.sub (by decide) (by unfold imin;split<;>omega) (by unfold imin;split<;>omega) fun w _ hw=>?_;have h0:MOk (Qn.mk w 0):=fun x hx=>hl x (hw x hx);refine Ok.take h0 (by decide) fun v m1 _ _ h1=>Ok.take h1 (by decide) fun n m2 a2 b2 h2=>?_;have en:i64.wrap (1+n)=1+n:=w64 (by omega) (by omega);refine Ok.bind (P:=fun p:List Qg×Qn=>p.1.length=1+n∧(∀k∈p.1,GOk 12 k)∧MOk p.2)
  (Ok.loop (fun k s=>0≤s.1∧s.1+k=1+n∧s.2.1.length=s.1∧(∀q∈s.2.1,GOk (9+s.1.toNat) q)∧MOk s.2.2) (1+n).toNat ⟨Zy _,by dsimp only;omega,by simp,by simp,h2⟩ fun k s hs=>?_) (fun p hp=>?_)
 ·obtain⟨i,ks,m3⟩:=s;obtain⟨e1,e2,e3,e4,e5⟩:=hs;dsimp only at e1 e2 e3 e4 e5;refine Ok.ite (fun h=>?_) (fun h=>?_)
  ·have h':i<1+n:=by have:=ZA h;rwa [en] at this
   refine (QBP (N:=9+i.toNat) e5 (by omega) (by omega) e4).bind fun r hr=>?_;obtain⟨r1,r2,r3,r4⟩:=hr;refine Ok.rm (by simp;omega) (Ok.mk ?_);have ei:i64.wrap (i+1)=i+1:=w64 (by omega) (by omega);refine⟨k - 1,by omega,?_⟩;dsimp only;rw[ei];refine⟨by omega,by omega,by simp;omega,fun q hq=>?_,r2⟩;rcases Zp.1 hq with hq | hq
   ·exact (r4 q hq).weak (by omega)
   ·rw[Ze] at hq;subst hq;exact r1.weak (by omega)
  ·have h':¬i<1+n:=by have:=ZL h;rwa [en] at this
   refine Ok.mk ⟨by dsimp only;omega,fun q hq=>(e4 q hq).weak (by omega),e5⟩
 obtain⟨p1,p2,p3⟩:=hp;refine Ok.take p3 (by decide) fun t m4 a4 b4 h4=>?_;have et:i64.wrap (2+t)=2+t:=w64 (by omega) (by omega);refine Ok.sub (by decide) (by dsimp only;rw[et];omega) (by dsimp only;rw[et];simp;omega) fun st hst _=>?_;dsimp only at hst;rw[et] at hst;have hsl:2≤st.length∧st.length≤4:=by omega
 refine Ok.bind (P:=fun p:List QK=>p.length≤3) (Ok.loop (fun k s=>0≤s.1∧s.1+1+k=st.length∧s.2.length=s.1) (st.length - 1) ⟨Zy _,by dsimp only;omega,by simp⟩ fun k s hs=>?_) (fun mv hmv=>?_)
 ·obtain⟨i,ms⟩:=s;obtain⟨e1,e2,e3⟩:=hs;dsimp only at e1 e2 e3;have ei:i64.wrap (i+1)=i+1:=w64 (by omega) (by omega);refine Ok.ite (fun h=>?_) (fun h=>?_)
  ·have h':i+1<st.length:=by have:=ZA h;rwa [ei] at this
   refine Ok.rm (by simp;omega) (Ok.mk ⟨k - 1,by omega,?_⟩);dsimp only;rw[ei];exact⟨by omega,by omega,by simp;omega⟩
  ·have h':¬i+1<st.length:=by have:=ZL h;rwa [ei] at this
   exact Ok.mk (by dsimp only;omega)
 refine Ok.take h4 (by decide) fun r5 m5 _ _ h5=>?_;refine Ok.bind (P:=fun p:List QK=>p.length≤4) (Ok.ite (fun _=>Ok.rm (by simp;omega) (Ok.mk (by simp;omega))) (fun _=>Ok.mk (by omega))) fun mv2 hmv2=>?_;refine Ok.take h5 (by decide) fun r6 m6 _ _ h6=>?_;refine Ok.bind (P:=fun p:List QK=>p.length≤5) (Ok.ite (fun _=>Ok.rm (by simp;omega) (Ok.mk (by simp;omega))) (fun _=>Ok.mk (by omega))) fun mv3 hmv3=>?_;refine Ok.rm (by simp) ?_;refine Ok.bind (P:=fun p:List Qo=>p.length≤2∧∀r∈p,RN r) (Ok.loop (fun k s=>0≤s.1∧s.1+k=1+n∧(s.2.1.length≤2∧∀r∈s.2.1,RN r)∧MOk s.2.2) (1+n).toNat ⟨Zy _,by dsimp only;omega,by simp,h6⟩ fun k s hs=>?_) (fun rs hrs=>?_)
 ·obtain⟨i,rs,m7⟩:=s;obtain⟨e1,e2,e3,e4⟩:=hs;dsimp only at e1 e2 e3 e4;refine Ok.ite (fun h=>?_) (fun h=>Ok.mk e3);simp only[Zg,Zj,en] at h;refine Ok.idx e1 (by omega) fun q hq _=>(QBQ e4 (p2 q hq)).bind fun r hr=>?_;refine Ok.bind (P:=fun p:List Qo=>p.length≤2∧∀r∈p,RN r) (Ok.ite (fun _=>Ok.rm (by simp;omega) (Ok.mk ⟨by simp;omega,fun y hy=>(Zp.1 hy).elim (e3.2 y) fun hy=>by rw[Ze] at hy;subst hy;exact hr.1⟩)) (fun _=>Ok.mk e3)) fun rs2 hrs2=>Ok.mk ⟨k - 1,by omega,?_⟩;dsimp only;rw[w64 (n:=i+1) (by omega) (by omega)];exact⟨by omega,by omega,hrs2,hr.2⟩
 ·refine Ok.mk ⟨by dsimp only;omega,fun q hq=>⟨by have:=(p2 q hq).1.1;omega,(p2 q hq).1.2⟩,by simp,?_,hrs⟩;intro q hq;simp only[Yg,Ze] at hq;subst hq;exact⟨by dsimp only;omega,by dsimp only;omega,by simp[SN]⟩
def FZ (f:Qc):Prop:=f.Words.length≤7∧f.Weights.length≤7∧FN f
def KA (l:List Qg):Prop:=l.length≤3∧∀k∈l,k.Fields.length≤14∧(∀f∈k.Fields,FZ f)∧SN k.Name
def LA (l:List QB):Prop:=l.length≤1∧∀m∈l,m.States.length≤7∧m.Moves.length≤9∧SN m.Name
def RA (l:List Qo):Prop:=l.length≤4∧∀r∈l,RN r
def Sz (x:Qa):Prop:=KA x.Kinds∧LA x.Lives∧RA x.Rules
def FOk.z {f:Qc} (h:FOk f):FZ f:=⟨by have:=h.1;omega,by have:=h.2.1;omega,h.2.2⟩
def SOk.sz {n:Nat} {x:Qa} (h:SOk n x) (hn:n≤4):Sz x:=⟨⟨h.1,fun k hk=>⟨(h.2.1 k hk).1,fun f hf=>((h.2.1 k hk).2.1 f hf).z,(h.2.1 k hk).2.2⟩⟩,⟨h.2.2.1,fun m hm=>⟨by have:=(h.2.2.2.1 m hm).1;omega,by have:=(h.2.2.2.1 m hm).2.1;omega,(h.2.2.2.1 m hm).2.2⟩⟩,Yu h.2.2.2.2.1 hn,h.2.2.2.2.2⟩
def QaF {α:Type} (s:List α) (p:α→Bool):Int:=match s.findIdx? p with | some k=>(k:Int) | none=>-1
def Qgc {α:Type} (s:List α) (p:α→Bool):-1≤QaF s p∧QaF s p<s.length:=by
 unfold QaF
 cases h:s.findIdx? p with
 | none=>exact⟨by decide,by show (-1:Int)<_;omega⟩
 | some k=>have:=(ZP.1 h).1;exact⟨by show (-1:Int)≤(k:Int);omega,by show (k:Int)<_;omega⟩
def Qcp {α:Type} (s:List α) (p:α→Bool) {body:Int→Option (Int⊕(Unit⊕Int))}
  (hb:∀k (h:k<s.length),body (k:Int)=if p s[k]=true then some (.inr (.inr (k:Int))) else some (.inl ((k+1:Nat):Int))) (he:body (s.length:Int)=some (.inr (.inl ()))):
  Ql body (0:Int)=some (match s.findIdx? p with | some k=>.inr (k:Int) | none=>.inl ()):=by
 obtain⟨q,hq⟩:∃q:Nat→Bool,∀k (h:k<s.length),q k=p s[k]:=⟨fun k=>if h:k<s.length then p s[k] else false,fun k h=>dif_pos h⟩
 rcases Qhf (ρ:=Unit⊕Int) s.length q (.inl ()) (fun k=>.inr (k:Int))
  (fun k hk hp=>by rw[hb k hk,Zd (by rw[←hq k hk,hp];decide)]) (fun k hk hp=>by rw[hb k hk,Zc (by rw[←hq k hk,hp])]) he with⟨k,hk,hp,hj,e⟩ | ⟨hp,e⟩
 ·have:s.findIdx? p=some k:=by
   rw[ZP];refine⟨hk,by rw[←hq k hk,hp],fun j hj'=>?_⟩;have:=hj j hj';rw[hq j (by omega)] at this;simp[this]
  rw[e,this]
 ·have:s.findIdx? p=none:=by
   rw[findIdx?_eq_none_iff];intro x hx;obtain⟨k,hk,rfl⟩:=Yc hx;have:=hp k hk
   rwa [hq k hk] at this
  rw[e,this]
section
variable {p:Qg→Bool} {q:Qc→Bool}
theorem Qpm {s:List Qg} {f:Qg→Option Bool} (hs:s.length≤1000000) (hf:∀x∈s,f x=some (p x)):Qbx s f=some (QaF s p):=by
 unfold Qbx;rw[Qcp s p (fun k hk=>?_) ?_]
 ·unfold QaF;cases s.findIdx? p<;>rfl
 ·rw[Zd (by simp)]
 ·rw[Zc (by simpa using hk),QX hk];show (f s[k]).bind _=_;rw[hf _ (Zn hk),QH hk (by omega)];rfl
theorem QnW {s:List Qc} {f:Qc→Option Bool} (hs:s.length≤1000000) (hf:∀x∈s,f x=some (q x)):Qbs s f=some (QaF s q):=by
 unfold Qbs;rw[Qcp s q (fun k hk=>?_) ?_]
 ·unfold QaF;cases s.findIdx? q<;>rfl
 ·rw[Zd (by simp)]
 ·rw[Zc (by simpa using hk),QX hk];show (f s[k]).bind _=_;rw[hf _ (Zn hk),QH hk (by omega)];rfl
end
def Q9 (x:Qa) (n:Str):Int:=QaF x.Kinds fun k=>k.Name==n
def Qai (k:Qg) (n:Str):Int:=QaF k.Fields fun f=>f.Name==n
def Qc0 {x:Qa} {n:Str} (hx:x.Kinds.length≤1000000):QbR x n=some (Q9 x n):=by unfold QbR;rw[Qpm (f:=fun x0=>Qga x0 n) (p:=fun k=>k.Name==n) hx (fun k _=>rfl)];rfl
def Qcc {k:Qg} {n:Str} (hx:k.Fields.length≤1000000):Qbw k n=some (Qai k n):=by unfold Qbw;rw[QnW (f:=fun x0=>QfD x0 n) (q:=fun k=>k.Name==n) hx (fun k _=>rfl)];rfl
def field? (x:Qa) (k j:Int):Option Qc:=if 0≤k∧0≤j then x.Kinds[k.toNat]?.bind fun q=>q.Fields[j.toNat]? else none
def Qem:Qc:=Qc.mk [] [] [] 0 0 0 [] []
def Qgd {x:Qa} {k j:Int} {f:Qc} (h:field? x k j=some f):∃q,0≤k∧0≤j∧idx x.Kinds k=some q∧idx q.Fields j=some f∧q∈x.Kinds∧k<x.Kinds.length∧j<q.Fields.length:=by
 unfold field? at h;split at h
 ·rename_i hk;obtain⟨q,h1,h2⟩:=Option.bind_eq_some_iff.1 h;refine⟨q,hk.1,hk.2,by rw[QhB _ hk.1,h1],by rw[QhB _ hk.2,h2],Zq h1,?_,?_⟩
  ·have:=(Zf.1 h1).1;omega
  ·have:=(Zf.1 h2).1;omega
 ·cases h
def QmZ {x:Qa} {k j:Int} {q:Qg} {f:Qc} (hk:0≤k) (hj:0≤j) (h1:idx x.Kinds k=some q) (h2:idx q.Fields j=some f):field? x k j=some f:=by rw[QhB _ hk] at h1;rw[QhB _ hj] at h2;unfold field?;rw[Zc ⟨hk,hj⟩,h1];exact h2
def QhE {α:Type} {l:List α} {i:Int} (h0:0≤i) (h1:i<l.length):∃v,idx l i=some v∧v∈l:=by
 have hlt:i.toNat<l.length:=by omega
 exact⟨l[i.toNat],by rw[QhB l h0,Zb hlt],Zn hlt⟩
def QkF (x:Qa) (k j:Int):Qc4 x k j=some (match field? x k j with | some f=>(f,true) | none=>(Qem,false)):=by
 unfold Qc4;by_cases hc:(0≤k∧k<x.Kinds.length)∧0≤j
 ·obtain⟨⟨h1,h2⟩,h3⟩:=hc;obtain⟨q,hq,_⟩:=QhE h1 h2;have c:((decide (k<0)||decide (k≥(x.Kinds.length:Int)))||decide (j<0))=false:=by simp;omega
  rw[c,hq];show (if (false||decide (j≥(q.Fields.length:Int)))=true then _ else _)=_;by_cases h4:j<q.Fields.length
  ·obtain⟨f,hf,_⟩:=QhE h3 h4;rw[Zd (by simp;omega),QmZ h1 h3 hq hf];show (idx q.Fields j).bind _=_;rw[hf];rfl
  ·rw[Zc (by simp;omega)];have:field? x k j=none:=by
    cases h:field? x k j with
    | none=>rfl
    | some f=>obtain⟨q',_,_,e1,e2,_,_,e3⟩:=Qgd h;rw[hq] at e1;cases e1;exact (h4 e3).elim
   rw[this];rfl
 ·have c:((decide (k<0)||decide (k≥(x.Kinds.length:Int)))||decide (j<0))=true:=by simp;omega
  rw[c];have:field? x k j=none:=by
   cases h:field? x k j with
   | none=>rfl
   | some f=>obtain⟨q',e1,e2,_,_,_,e3,_⟩:=Qgd h;exact (hc ⟨⟨e1,e3⟩,e2⟩).elim
  rw[this];rfl
def Few (x:Qa):Prop:=x.Kinds.length≤1000∧∀k∈x.Kinds,k.Fields.length≤1000
def Sz.few {x:Qa} (h:Sz x):Few x:=⟨by have:=h.1.1;omega,fun k hk=>by have:=(h.1.2 k hk).1;omega⟩
def QgF (x:Qa) (k:Int) (g:Qc):Int:=if Q9 x g.Of<k then Q9 x g.Of else -1
def upIx (x:Qa) (k j:Int):Int:=
 match field? x k j with
 | none=>-1
 | some f=>
  if f.Kind=7∨f.Kind=8 then
   match idx x.Kinds k with
   | none=>-1
   | some q=>if Qai q f.Up<j then (match field? x k (Qai q f.Up) with | some g=>if g.Kind=1 then QgF x k g else -1 | none=>-1) else -1
  else if f.Kind=1 then QgF x k f else -1
def Qts {x:Qa} {k j:Int} {g:Qc} {self:Qa→Int→Int→Option Int} (hx:Few x) (h:field? x k j=some g) (hg:g.Kind=1):QdA self x k j=some (QgF x k g):=by
 unfold QdA;rw[QkF,h];simp only[Za,Bool.not_true,hg];rw[Zd (by decide),Zd (by decide),Zd (by decide),Qc0 (by have:=hx.1;omega)];simp only[Za,QgF];by_cases hl:Q9 x g.Of<k
 ·rw[Zc (by simpa using hl),Zc hl]
 ·rw[Zd (by simpa using hl),Zd hl]
def upS_is {x:Qa} {k j:Int} {self:Qa→Int→Int→Option Int} (hx:Few x) (hs:∀u g,field? x k u=some g→g.Kind=1→self x k u=some (QgF x k g)):QdA self x k j=some (upIx x k j):=by
 cases hf:field? x k j with
 | none=>unfold QdA upIx;rw[QkF,hf];rfl
 | some f=>
  by_cases h1:f.Kind=1
  ·rw[Qts hx hf h1];unfold upIx;rw[hf];simp[h1]
  unfold QdA upIx;rw[QkF,hf];simp only[Za,Bool.not_true];rw[Zd (by decide)];by_cases c:f.Kind=7∨f.Kind=8
  ·obtain⟨q,hk,hj,hq,hqf,hqm,_,_⟩:=Qgd hf;rw[Zc (by simpa using c),Zc c,hq];simp only[Za];rw[Qcc (by have:=hx.2 q hqm;omega)];simp only[Za];rw[QkF];simp only[Za]
   cases hg:field? x k (Qai q f.Up) with
   | none=>simp
   | some g=>
    simp only;by_cases hu:Qai q f.Up<j
    ·by_cases hg1:g.Kind=1
     ·rw[Zc (by simp[hu,hg1]),hs _ g hg hg1,Zc hu,Zc hg1];rfl
     ·rw[Zd (by simp[hg1]),Zc hu,Zd hg1]
    ·rw[Zd (by simp[hu]),Zd hu]
  ·rw[Zd (by simpa using c),Zd c,Zc (by simpa using h1),Zd h1]
def Qhg {x:Qa} {k j:Int} (hx:Few x):Qei x k j=some (upIx x k j):=by unfold Qei;exact upS_is hx fun u g h hg=>Qts hx h hg
def QwB (p:Nat→Bool) (k:Nat):((range (k+1)).filter p).map Int.ofNat=if p k=true then ((range k).filter p).map Int.ofNat++[(k:Int)] else ((range k).filter p).map Int.ofNat:=by
 rw[Yf,filter_append,ZV];by_cases h:p k=true
 ·rw[Zc h];simp[h]
 ·rw[Zd h];simp[h]
def QyY (p:Nat→Bool) (k:Nat):(((range k).filter p).map Int.ofNat).length≤k:=by rw[ZT];have:=length_filter_le p (range k);simpa using this
def QiT (x:Qa) (o k:Int) (nm:Str) (fs:List Qc) (i:Nat):Bool:=match fs[i]? with | some g=>g.Kind==7&&g.Of==nm&&upIx x o (i:Int)==k | none=>false
def shl (x:Qa) (o k:Int) (nm:Str):List Int:=match idx x.Kinds o with | some q=>((range q.Fields.length).filter (QiT x o k nm q.Fields)).map Int.ofNat | none=>[]
def Qmj (x:Qa) (k:Int) (f:Qc):Int×List Int:=if f.Kind≠6∨Q9 x f.Of≤k then (-1,[]) else (Q9 x f.Of,shl x (Q9 x f.Of) k f.Name)
def QlE (x:Qa) (n:Str):-1≤Q9 x n∧Q9 x n<x.Kinds.length:=Qgc _ _
def QwC {x:Qa} {k:Int} {f:Qc} (hx:Few x) (hk:0≤k):QeQ x k f=some (Qmj x k f):=by
 unfold QeQ;rw[Qc0 (by have:=hx.1;omega)];simp only[Za];unfold Qmj;by_cases c:f.Kind≠6∨Q9 x f.Of≤k
 ·rw[Zc (by simpa using c),Zc c]
 rw[Zd (by simpa using c),Zd c];have c':k<Q9 x f.Of:=by
  rcases Int.lt_or_le k (Q9 x f.Of) with h | h
  ·exact h
  ·exact (c (.inr h)).elim
 obtain⟨q,hq,hqm⟩:=QhE (l:=x.Kinds) (i:=Q9 x f.Of) (by omega) (QlE x f.Of).2;have hl:=hx.2 q hqm;rw[hq];simp only[Za];refine QbT q.Fields.length (fun n=>((n:Int),((range n).filter (QiT x (Q9 x f.Of) k f.Name q.Fields)).map Int.ofNat)) _ rfl (fun n hn=>?_) (Zd (by simp)) ?_
 ·rw[Zc (by simpa using hn),QX hn];simp only[Za];rw[Qhg hx];have e:QiT x (Q9 x f.Of) k f.Name q.Fields n=(q.Fields[n].Kind==7&&q.Fields[n].Of==f.Name&&upIx x (Q9 x f.Of) (n:Int)==k):=by
   unfold QiT;rw[Zb hn]
  have hle:=QyY (QiT x (Q9 x f.Of) k f.Name q.Fields) n;rw[QwB,e,QH hn (by omega)]
  cases h1:(q.Fields[n].Kind==7&&q.Fields[n].Of==f.Name) with
  | false=>rfl
  | true=>
   simp only[Sim.opt,Bool.true_and,if_true,beq_self_eq_true,Za]
   cases h2:upIx x (Q9 x f.Of) (n:Int)==k with
   | false=>rfl
   | true=>rw[Zc rfl,Zc rfl,Qb2 (by rw[length_singleton];omega)];rfl
 ·unfold shl;rw[hq]
def QdY {α:Type} (s:List α) (p:α→Bool):decide (QaF s p≥0)=s.any p:=by
 unfold QaF
 cases h:s.findIdx? p with
 | none=>have:=findIdx?_eq_none_iff.1 h;rw[Eq.comm,any_eq_false.2 (fun x hx=>by simp[this x hx])];rfl
 | some k=>obtain⟨hk,hp,_⟩:=ZP.1 h;rw[Eq.comm,Yj.2 ⟨_,Zn hk,hp⟩,Eq.comm];exact decide_eq_true (Int.natCast_nonneg k)
def QhF {α:Type} (s:List α) (p:α→Bool):(!s.any fun x=>!p x)=s.all p:=by
 induction s with
 | nil=>rfl
 | cons a s ih=>simp only[any_cons,all_cons,Bool.not_or,Bool.not_not,ih]
def QwD {s:List QB} {f:QB→Option Bool} {p:QB→Bool} (hs:s.length≤1000000) (hf:∀x∈s,f x=some (p x)):Qcl s f=some (QaF s p):=by
 unfold Qcl;rw[Qcp s p (fun k hk=>?_) ?_]
 ·unfold QaF;cases s.findIdx? p<;>rfl
 ·rw[Zd (by simp)]
 ·rw[Zc (by simpa using hk),QX hk];show (f s[k]).bind _=_;rw[hf _ (Zn hk),QH hk (by omega)];rfl
def QwE {s:List Qo} {f:Qo→Option Bool} {p:Qo→Bool} (hs:s.length≤1000000) (hf:∀x∈s,f x=some (p x)):Qcm s f=some (QaF s p):=by
 unfold Qcm;rw[Qcp s p (fun k hk=>?_) ?_]
 ·unfold QaF;cases s.findIdx? p<;>rfl
 ·rw[Zd (by simp)]
 ·rw[Zc (by simpa using hk),QX hk];show (f s[k]).bind _=_;rw[hf _ (Zn hk),QH hk (by omega)];rfl
def QwF {s:List Int} {f:Int→Option Bool} {p:Int→Bool} (hs:s.length≤1000000) (hf:∀x∈s,f x=some (p x)):Qck s f=some (QaF s p):=by
 unfold Qck;rw[Qcp s p (fun k hk=>?_) ?_]
 ·unfold QaF;cases s.findIdx? p<;>rfl
 ·rw[Zd (by simp)]
 ·rw[Zc (by simpa using hk),QX hk];show (f s[k]).bind _=_;rw[hf _ (Zn hk),QH hk (by omega)];rfl
def Qss {s:List Str} {f:Str→Option Bool} {p:Str→Bool} (hs:s.length≤1000000) (hf:∀x∈s,f x=some (p x)):QbP s f=some (QaF s p):=by
 unfold QbP;rw[Qcp s p (fun k hk=>?_) ?_]
 ·unfold QaF;cases s.findIdx? p<;>rfl
 ·rw[Zd (by simp)]
 ·rw[Zc (by simpa using hk),QX hk];show (f s[k]).bind _=_;rw[hf _ (Zn hk),QH hk (by omega)];rfl
def Qst {s:List QK} {f:QK→Option Bool} {p:QK→Bool} (hs:s.length≤1000000) (hf:∀x∈s,f x=some (p x)):QbQ s f=some (QaF s p):=by
 unfold QbQ;rw[Qcp s p (fun k hk=>?_) ?_]
 ·unfold QaF;cases s.findIdx? p<;>rfl
 ·rw[Zd (by simp)]
 ·rw[Zc (by simpa using hk),QX hk];show (f s[k]).bind _=_;rw[hf _ (Zn hk),QH hk (by omega)];rfl
def Qrl {s:List Qg} {f:Qg→Option Bool} {p:Qg→Bool} (hs:s.length≤1000000) (hf:∀x∈s,f x=some (p x)):QbE s f=some (s.any p):=by unfold QbE;rw[Qpm hs hf,←QdY];rfl
def QBR {s:List Qg} {f:Qg→Option Bool} {p:Qg→Bool} (hs:s.length≤1000000) (hf:∀x∈s,f x=some (p x)):QdK s f=some (s.all p):=by unfold QdK;rw[Qrl (p:=fun x=>!p x) hs (fun x hx=>by show (f x).bind _=_;rw[hf x hx];rfl),←QhF];rfl
def Qp8 {s:List Qc} {f:Qc→Option Bool} {p:Qc→Bool} (hs:s.length≤1000000) (hf:∀x∈s,f x=some (p x)):Qbv s f=some (s.any p):=by unfold Qbv;rw[QnW hs hf,←QdY];rfl
def QyZ {s:List Qc} {f:Qc→Option Bool} {p:Qc→Bool} (hs:s.length≤1000000) (hf:∀x∈s,f x=some (p x)):Qdo s f=some (s.all p):=by unfold Qdo;rw[Qp8 (p:=fun x=>!p x) hs (fun x hx=>by show (f x).bind _=_;rw[hf x hx];rfl),←QhF];rfl
def QiU {s:List QB} {f:QB→Option Bool} {p:QB→Bool} (hs:s.length≤1000000) (hf:∀x∈s,f x=some (p x)):QaR s f=some (s.any p):=by unfold QaR;rw[QwD hs hf,←QdY];rfl
def QBS {s:List QB} {f:QB→Option Bool} {p:QB→Bool} (hs:s.length≤1000000) (hf:∀x∈s,f x=some (p x)):QdM s f=some (s.all p):=by unfold QdM;rw[QiU (p:=fun x=>!p x) hs (fun x hx=>by show (f x).bind _=_;rw[hf x hx];rfl),←QhF];rfl
def QlF {s:List Qo} {f:Qo→Option Bool} {p:Qo→Bool} (hs:s.length≤1000000) (hf:∀x∈s,f x=some (p x)):Qbb s f=some (s.any p):=by unfold Qbb;rw[QwE hs hf,←QdY];rfl
def QBT {s:List Qo} {f:Qo→Option Bool} {p:Qo→Bool} (hs:s.length≤1000000) (hf:∀x∈s,f x=some (p x)):QdO s f=some (s.all p):=by unfold QdO;rw[QlF (p:=fun x=>!p x) hs (fun x hx=>by show (f x).bind _=_;rw[hf x hx];rfl),←QhF];rfl
def Qrm {s:List Int} {f:Int→Option Bool} {p:Int→Bool} (hs:s.length≤1000000) (hf:∀x∈s,f x=some (p x)):QbF s f=some (s.any p):=by unfold QbF;rw[QwF hs hf,←QdY];rfl
def QoJ {s:List Str} {f:Str→Option Bool} {p:Str→Bool} (hs:s.length≤1000000) (hf:∀x∈s,f x=some (p x)):Qbq s f=some (s.any p):=by unfold Qbq;rw[Qss hs hf,←QdY];rfl
def Qpn {s:List Str} {f:Str→Option Bool} {p:Str→Bool} (hs:s.length≤1000000) (hf:∀x∈s,f x=some (p x)):Qcw s f=some (s.all p):=by unfold Qcw;rw[QoJ (p:=fun x=>!p x) hs (fun x hx=>by show (f x).bind _=_;rw[hf x hx];rfl),←QhF];rfl
def QoK {s:List QK} {f:QK→Option Bool} {p:QK→Bool} (hs:s.length≤1000000) (hf:∀x∈s,f x=some (p x)):Qbr s f=some (s.any p):=by unfold Qbr;rw[Qst hs hf,←QdY];rfl
def QwG {s:List QK} {f:QK→Option Bool} {p:QK→Bool} (hs:s.length≤1000000) (hf:∀x∈s,f x=some (p x)):Qda s f=some (s.all p):=by unfold Qda;rw[QoK (p:=fun x=>!p x) hs (fun x hx=>by show (f x).bind _=_;rw[hf x hx];rfl),←QhF];rfl
def inW (n a b:Int):Bool:=decide (n≥a)&&decide (n≤b)
def QbU {n a b:Int} (h:inW n a b=true):a≤n∧n≤b:=by simpa[inW] using h
def QeX (c:Int):Bool:=inW c 97 122
def QiV (c:Int):Bool:=inW c 48 57
def QfE (lo hi a b:Int):Bool:=(decide (lo≥a)&&decide (lo≤hi))&&decide (hi≤b)
def Q8 (s:Str):Bool:=inW (s.length:Int) 1 12&&(QeX ((s.headD 0).toNat:Int)&&(QW s).all fun c=>QeX c||QiV c)
def QfY (s:Str):Qak s=some (Q8 s):=by
 unfold Qak Q8
 cases s with
 | nil=>rfl
 | cons c s=>
  show (some (inW ((c::s).length:Int) 1 12)).bind _=_;simp only[Za]
  cases h:inW ((c::s).length:Int) 1 12 with
  | false=>rfl
  | true=>
   have hl:=(QbU h).2;rw[show idx (c::s) (0:Int)=some c from rfl];simp only[Sim.opt,Bool.not_true,beq_self_eq_true,if_true,Za];rw[show QdL (c.toNat:Int)=some (QeX (c.toNat:Int)) from rfl];simp only[Za]
   cases hc:QeX (c.toNat:Int) with
   | false=>simp[hc]
   | true=>
    rw[Zd (by decide),Qrm (p:=fun c=>!(QeX c||QiV c)) (by simp only[QW,ZT];omega) (fun x _=>?_)]
    ·simp only[Za];rw[QhF];simp[hc]
    ·show (some (QeX x)).bind _=_;simp only[Za]
     cases h1:QeX x with
     | true=>rfl
     | false=>show some (true&&!QiV x)=_;rfl
def Qy0 {a b:List Str} (ha:a.length≤1000000):QcE a b=some (decide (a=b)):=by
 unfold QcE;by_cases hl:a.length=b.length
 ·rw[Zd (by simp[hl])];have:Ok ((Ql (fun (s7:Int)=>((if (decide (s7<(a.length:Int)))=true then (idx a s7).bind fun t18=>(idx b s7).bind fun t22=>(if (t18 !=t22)=true then (some (.inr (.inr false))) else (some (.inl (i64.wrap (s7+(1:Int)))))) else (some (.inr (.inl ())))):Option ((Int)⊕((Unit)⊕(Bool))))) (0:Int)).bind fun (e8:(Unit)⊕(Bool))=>(match e8 with | .inl _=>(some true) | .inr p26=>(some p26))) (fun r=>r=decide (a=b)):=by
   refine Ok.bind (P:=fun e:Unit⊕Bool=>(match e with | .inl _=>true | .inr p=>p)=decide (a=b)) (Ok.loop (fun m s=>0≤s∧s+m=a.length∧a.take s.toNat=b.take s.toNat) a.length ⟨Zy _,by omega,by simp⟩ fun m s hs=>?_) fun e he=>by cases e<;>exact Ok.mk he
   obtain⟨h1,h2,h3⟩:=hs;obtain⟨k,rfl⟩:=Zw h1;simp only[Zr] at h3;refine Ok.ite (fun hk=>?_) (fun hk=>?_)
   ·have hk':k<a.length:=by simpa using hk
    rw[QX hk',QX (by omega)];simp only[Za];refine Ok.ite (fun hne=>Ok.mk ?_) (fun heq=>Ok.mk ⟨m - 1,by omega,?_⟩)
    ·show false=_;rw[Eq.comm,ZI];rintro rfl;simp at hne
    ·have heq':a[k]=b[k]:=by simpa using heq
     rw[QH hk' (by omega)];refine⟨by omega,by omega,?_⟩;rw[Zr,Zu hk',Zu (by omega),h3,heq']
   ·have hk':¬k<a.length:=by simpa using hk
    refine Ok.mk ?_;show true=_;rw[ZD (by omega),ZD (by omega)] at h3;simp[h3]
  obtain⟨r,hr,rfl⟩:=this;exact hr
 ·rw[Zc (by simp;omega)];have:a≠b:=fun h=>hl (by rw[h]);simp[this]
def eqInt {a b:List Int} (ha:a.length≤1000000):Qdp a b=some (decide (a=b)):=by
 unfold Qdp;by_cases hl:a.length=b.length
 ·rw[Zd (by simp[hl])];have:Ok ((Ql (fun (s7:Int)=>((if (decide (s7<(a.length:Int)))=true then (idx a s7).bind fun t18=>(idx b s7).bind fun t22=>(if (t18 !=t22)=true then (some (.inr (.inr false))) else (some (.inl (i64.wrap (s7+(1:Int)))))) else (some (.inr (.inl ())))):Option ((Int)⊕((Unit)⊕(Bool))))) (0:Int)).bind fun (e8:(Unit)⊕(Bool))=>(match e8 with | .inl _=>(some true) | .inr p26=>(some p26))) (fun r=>r=decide (a=b)):=by
   refine Ok.bind (P:=fun e:Unit⊕Bool=>(match e with | .inl _=>true | .inr p=>p)=decide (a=b)) (Ok.loop (fun m s=>0≤s∧s+m=a.length∧a.take s.toNat=b.take s.toNat) a.length ⟨Zy _,by omega,by simp⟩ fun m s hs=>?_) fun e he=>by cases e<;>exact Ok.mk he
   obtain⟨h1,h2,h3⟩:=hs;obtain⟨k,rfl⟩:=Zw h1;simp only[Zr] at h3;refine Ok.ite (fun hk=>?_) (fun hk=>?_)
   ·have hk':k<a.length:=by simpa using hk
    rw[QX hk',QX (by omega)];simp only[Za];refine Ok.ite (fun hne=>Ok.mk ?_) (fun heq=>Ok.mk ⟨m - 1,by omega,?_⟩)
    ·show false=_;rw[Eq.comm,ZI];rintro rfl;simp at hne
    ·have heq':a[k]=b[k]:=by simpa using heq
     rw[QH hk' (by omega)];refine⟨by omega,by omega,?_⟩;rw[Zr,Zu hk',Zu (by omega),h3,heq']
   ·have hk':¬k<a.length:=by simpa using hk
    refine Ok.mk ?_;show true=_;rw[ZD (by omega),ZD (by omega)] at h3;simp[h3]
  obtain⟨r,hr,rfl⟩:=this;exact hr
 ·rw[Zc (by simp;omega)];have:a≠b:=fun h=>hl (by rw[h]);simp[this]
def QwH (l:List Int) {k:Nat} (h:k<l.length):(l.take (k+1)).sum=(l.take k).sum+l[k]:=by rw[Zu h,sum_append];simp
def Qih (ws:List Str) (gs:List Int):Bool:=(gs.all fun g=>inW g 0 1048576)&&(((inW (ws.length:Int) 1 12&&((ws.length:Int)==(gs.length:Int)))&&decide (gs.sum>0))&&ws.all Q8)
def QwI {ws:List Str} {gs:List Int} (hw:ws.length≤1000000) (hg:gs.length≤1000000):QdF ws gs=some (Qih ws gs):=by
  have key:Ok (QdF ws gs) (fun r=>r=Qih ws gs):=by
    unfold QdF;refine Ok.bind (P:=fun e:Int⊕Bool=>match e with | .inl s=>(gs.all fun g=>inW g 0 1048576)=true∧s=gs.sum | .inr p=>p=false∧(gs.all fun g=>inW g 0 1048576)=false)
      (Ok.loop (fun m s=>0≤s.1∧s.1+m=gs.length∧((gs.take s.1.toNat).all fun g=>inW g 0 1048576)=true∧s.2=(gs.take s.1.toNat).sum∧0≤s.2∧s.2≤s.1 * 1048576) gs.length ⟨Zy _,by dsimp only;omega,by simp,by simp,by simp,by simp⟩ fun m s hs=>?_) fun e he=>?_
    · obtain⟨i,t⟩:=s;obtain⟨h1,h2,h3,h4,h5,h6⟩:=hs;dsimp only at h1 h2 h3 h4 h5 h6;obtain⟨k,rfl⟩:=Zw h1;simp only[Zr] at h3 h4;refine Ok.ite (fun hk=>?_) (fun hk=>?_)
      · have hk':k<gs.length:=by simpa using hk
        dsimp only;rw[QX hk'];simp only[Za];show Ok ((some (inW gs[k] 0 1048576)).bind _) _;simp only[Za];refine Ok.ite (fun hn=>Ok.mk ⟨rfl,?_⟩) (fun hy=>Ok.mk ⟨m - 1,by omega,?_⟩)
        · rw[all_eq_false];exact⟨_,Zn hk',by simpa using hn⟩
        · have hy':inW gs[k] 0 1048576=true:=by simpa using hy
          have hb:=QbU hy';dsimp only;rw[QH hk' (by omega),w64 (n:=t+gs[k]) (by omega) (by omega)];refine⟨by omega,by omega,?_,?_,by omega,by omega⟩
          · rw[Zr,Zu hk',all_append,h3];simp[hy']
          · rw[Zr,QwH gs hk',h4]
      · have hk':¬k<gs.length:=by simpa using hk
        rw[ZD (by omega)] at h3 h4;exact Ok.mk ⟨h3,h4⟩
    · cases e with
      | inr p=>obtain⟨rfl,hp⟩:=he;refine Ok.mk ?_;unfold Qih;rw[hp];rfl
      | inl s=>
        obtain⟨hp,rfl⟩:=he;dsimp only;show Ok ((some (inW (ws.length:Int) 1 12)).bind _) _;simp only[Za];rw[Qpn (p:=Q8) hw (fun x _=>QfY x)];unfold Qih;rw[hp,Bool.true_and]
        cases (inW (ws.length:Int) 1 12&&((ws.length:Int)==(gs.length:Int)))&&decide (gs.sum>0) with
        | false=>exact Ok.mk rfl
        | true=>exact Ok.mk rfl
  obtain⟨r,hr,rfl⟩:=key;exact hr
def QeC (f:Qc):Qc:=
  if f.Kind=0 then ⟨f.Name,[],[],f.Kind,f.Lo,0,[],[]⟩
  else if f.Kind=1∨f.Kind=4∨f.Kind=5 then ⟨f.Name,f.Of,[],f.Kind,f.Lo,f.Hi,[],[]⟩
  else if f.Kind=2 then ⟨f.Name,[],[],f.Kind,f.Lo,f.Hi,[],[]⟩
  else if f.Kind=3 then ⟨f.Name,[],[],f.Kind,0,0,f.Words,f.Weights⟩
  else if f.Kind=6 then ⟨f.Name,f.Of,[],f.Kind,0,0,[],[]⟩
  else if f.Kind=7 then ⟨f.Name,f.Of,f.Up,f.Kind,f.Lo,f.Hi,[],[]⟩
  else if f.Kind=8 then ⟨f.Name,f.Of,f.Up,f.Kind,0,0,[],[]⟩
  else ⟨f.Name,[],[],f.Kind,0,0,[],[]⟩
def QBU (f:Qc):QfO f=some (QeC f):=by
  obtain⟨n,o,u,k,lo,hi,w,g⟩:=f;unfold QfO QeC;by_cases h0:k=0
  · subst h0;rfl
  by_cases h1:k=1
  · subst h1;rfl
  by_cases h4:k=4
  · subst h4;rfl
  by_cases h5:k=5
  · subst h5;rfl
  by_cases h2:k=2
  · subst h2;rfl
  by_cases h3:k=3
  · subst h3;rfl
  by_cases h6:k=6
  · subst h6;rfl
  by_cases h7:k=7
  · subst h7;rfl
  by_cases h8:k=8
  · subst h8;rfl
  simp[h0,h1,h2,h3,h4,h5,h6,h7,h8]
def QeD (a b:Qc):Bool:=(((((((a.Name==b.Name)&&(a.Of==b.Of))&&(a.Up==b.Up))&&(a.Kind==b.Kind))&&(a.Lo==b.Lo))&&(a.Hi==b.Hi))&&decide (a.Words=b.Words))&&decide (a.Weights=b.Weights)
def Qrn {a b:Qc} (h1:a.Words.length≤1000000) (h2:a.Weights.length≤1000000):Qdq a b=some (QeD a b):=by
  unfold Qdq QeD;rw[Qy0 h1,eqInt h2]
  cases ((((((a.Name==b.Name)&&(a.Of==b.Of))&&(a.Up==b.Up))&&(a.Kind==b.Kind))&&(a.Lo==b.Lo))&&(a.Hi==b.Hi)) with
  | false=>rfl
  | true=>simp only[Sim.opt,Bool.true_and,beq_self_eq_true,if_true,Za];cases decide (a.Words=b.Words)<;>rfl
def Qd0 (f:Qc):Bool:=
  if f.Kind=0 then inW f.Lo (-1048576) 1048576
  else if f.Kind=1 then Q8 f.Of&&QfE f.Lo f.Hi 0 65536
  else if f.Kind=2 then QfE f.Lo f.Hi (-1048576) 1048576
  else if f.Kind=3 then Qih f.Words f.Weights
  else if f.Kind=4 then ((f.Of==[])||Q8 f.Of)&&QfE f.Lo f.Hi (-1048576) 1048576
  else if f.Kind=5 then Q8 f.Of&&QfE f.Lo f.Hi 0 32
  else if f.Kind=6 then Q8 f.Of
  else if f.Kind=7 then (Q8 f.Of&&Q8 f.Up)&&QfE f.Lo f.Hi 0 1048576
  else if f.Kind=8 then Q8 f.Of&&Q8 f.Up
  else false
def fieldS (f:Qc):Bool:=(Q8 f.Name&&QeD f (QeC f))&&Qd0 f
def Quy {f:Qc} (h1:f.Words.length≤1000000) (h2:f.Weights.length≤1000000):Qeh f=some (fieldS f):=by
  unfold Qeh fieldS;rw[QfY,QBU];simp only[Za]
  cases Q8 f.Name with
  | false=>rfl
  | true=>
    simp only[Sim.opt,Bool.not_true,beq_self_eq_true,if_true,Za];rw[Qrn h1 h2];simp only[Za]
    cases QeD f (QeC f) with
    | false=>rfl
    | true=>
      simp only[QfY,QwI h1 h2,Bool.true_and,Bool.not_true,Bool.or_self];rw[Zd (by decide)];unfold Qd0;by_cases c0:f.Kind=0
      · rw[Zc (by simp[c0]),Zc c0];rfl
      rw[Zd (by simpa using c0),Zd c0];by_cases c1:f.Kind=1
      · rw[Zc (by simp[c1]),Zc c1];cases Q8 f.Of<;>rfl
      rw[Zd (by simpa using c1),Zd c1];by_cases c2:f.Kind=2
      · rw[Zc (by simp[c2]),Zc c2];rfl
      rw[Zd (by simpa using c2),Zd c2];by_cases c3:f.Kind=3
      · rw[Zc (by simp[c3]),Zc c3];rfl
      rw[Zd (by simpa using c3),Zd c3];by_cases c4:f.Kind=4
      · rw[Zc (by simp[c4]),Zc c4];cases (f.Of==[])<;>cases Q8 f.Of<;>rfl
      rw[Zd (by simpa using c4),Zd c4];by_cases c5:f.Kind=5
      · rw[Zc (by simp[c5]),Zc c5];cases Q8 f.Of<;>rfl
      rw[Zd (by simpa using c5),Zd c5];by_cases c6:f.Kind=6
      · rw[Zc (by simp[c6]),Zc c6];rfl
      rw[Zd (by simpa using c6),Zd c6];by_cases c7:f.Kind=7
      · rw[Zc (by simp[c7]),Zc c7];cases Q8 f.Of<;>cases Q8 f.Up<;>rfl
      rw[Zd (by simpa using c7),Zd c7];by_cases c8:f.Kind=8
      · rw[Zc (by simp[c8]),Zc c8];cases Q8 f.Of<;>rfl
      rw[Zd (by simpa using c8),Zd c8]
def kindS (k:Qg):Bool:=((Q8 k.Name&&QfE k.Lo k.Hi 0 65536)&&decide ((k.Fields.length:Int)≤10))&&k.Fields.all fieldS
def Qpo (l:List Qc):Prop:=l.length≤1000000∧∀f∈l,f.Words.length≤1000000∧f.Weights.length≤1000000
def QwJ {k:Qg} (h:Qpo k.Fields):QeM k=some (kindS k):=by
  unfold QeM kindS;rw[QfY,QyZ (p:=fieldS) h.1 (fun f hf=>Quy (h.2 f hf).1 (h.2 f hf).2)];simp only[Za]
  cases Q8 k.Name with
  | false=>rfl
  | true=>
    show (opt true (some (QfE k.Lo k.Hi 0 65536)) default).bind _=_;simp only[Sim.opt,Bool.true_and,if_true,Za]
    cases QfE k.Lo k.Hi 0 65536 with
    | false=>rfl
    | true=>
      cases hd:decide ((k.Fields.length:Int)≤10) with
      | false=>rfl
      | true=>rfl
def QeE (n:Int) (m:QK):Bool:=inW m.a0 0 (n - 1)&&inW m.a1 0 (n - 1)
def Qge (x:QB):Bool:=(((Q8 x.Name&&inW (x.States.length:Int) 1 12)&&x.States.all Q8)&&decide ((x.Moves.length:Int)≤32))&&x.Moves.all (QeE (x.States.length:Int))
def QwK {x:QB} (h1:x.States.length≤1000000) (h2:x.Moves.length≤1000000):QeN x=some (Qge x):=by
  have hm:∀m∈x.Moves,QdN m (x.States.length:Int)=some (QeE (x.States.length:Int) m):=fun m _=>by unfold QdN QeE;rw[w64 (by omega) (by omega)];show (some (inW m.a0 0 ((x.States.length:Int) - 1))).bind _=_;simp only[Za];cases inW m.a0 0 ((x.States.length:Int) - 1)<;>rfl
  unfold QeN Qge;rw[QfY,Qpn (p:=Q8) h1 (fun s _=>QfY s),QwG (p:=QeE (x.States.length:Int)) h2 hm];simp only[Za]
  cases Q8 x.Name with
  | false=>rfl
  | true=>
    show (opt true (some (inW (x.States.length:Int) 1 12)) default).bind _=_;simp only[Sim.opt,Bool.true_and,if_true,Za]
    cases inW (x.States.length:Int) 1 12 with
    | false=>rfl
    | true=>
      simp only[Bool.true_and,beq_self_eq_true,if_true,Za]
      cases x.States.all Q8 with
      | false=>rfl
      | true=>cases decide ((x.Moves.length:Int)≤32)<;>rfl
def QcQ (r:Qo):Bool:=((((Q8 r.Name&&Q8 r.Kind)&&((r.A==[])||Q8 r.A))&&((r.B==[])||Q8 r.B))&&(r.A++r.B !=[]))&&inW r.N (-1048576) 1048576
def Qe4 {s:Str} (h:Q8 s=true):s.length≤12:=by unfold Q8 at h;simp only[Zg] at h;have:=(QbU h.1).2;omega
def QwL (r:Qo):QeO r=some (QcQ r):=by
  have len:∀s:Str,((s==[])||Q8 s)=true→s.length≤12:=fun s h=>by
    rcases Zz _ _ |>.mp h with h | h
    · have:s=[]:=by simpa using h
      subst this;simp
    · exact Qe4 h
  unfold QeO QcQ;simp only[QfY];simp only[Za]
  cases Q8 r.Name with
  | false=>rfl
  | true=>
    simp only[Sim.opt,Bool.true_and,beq_self_eq_true,if_true,Za]
    cases Q8 r.Kind with
    | false=>rfl
    | true=>
      simp only[Bool.true_and,beq_self_eq_true,Bool.true_and];have la:=len r.A;have lb:=len r.B
      cases ha:(r.A==[])<;>cases hna:Q8 r.A<;>cases hb:(r.B==[])<;>cases hnb:Q8 r.B<;>first
        | rfl
        | (rw[ha,hna] at la;rw[hb,hnb] at lb
           have e:cat (r.A.length+r.B.length)=some ():=Zc (by have:=la rfl;have:=lb rfl;omega);simp only[e,Bool.false_or,Bool.or_false,Bool.true_or,Bool.or_true,Bool.and_true,Bool.true_and,Bool.and_self,beq_self_eq_true,if_true,Za];cases (r.A++r.B !=[])<;>rfl)
def Qhh:∀(k u:Nat),u<10 ^ (k+1)→(Lib.decDigits u).length≤k+1
 | 0,u,h=>by rw[Lib.decDigits,dif_pos (by simpa using h)];simp
 | k+1,u,h=>by
  rw[Lib.decDigits];split
  ·simp
  ·have:=Qhh k (u / 10) (by rw[Nat.pow_succ] at h;omega);rw[Zi,length_singleton];omega
def Qro {n:Int} (h:I64 n):(Lib.itoa n).length≤20:=by
 unfold I64 at h;unfold Lib.itoa;split
 ·have:=Qhh 18 n.natAbs (by omega);rw[ZB];omega
 ·have:=Qhh 18 n.toNat (by omega);omega
def QBV {n:Int} (h:I64 n):QnK n=some (Lib.itoa n):=Zc h
def Qmk:AnyV→Str
 | .int n=>Lib.itoa n
 | .str s=>s
def VOk:AnyV→Prop
 | .int n=>I64 n
 | .str s=>s.length≤100
def Qrp {v:AnyV} (h:VOk v):(Qmk v).length≤100:=by
 cases v with
 | int n=>have:=Qro h;show (Lib.itoa n).length≤100;omega
 | str s=>exact h
def toks (l:List AnyV):Str:=l.flatMap fun v=>32::Qmk v
def Qm0 {l:List AnyV} (h:∀v∈l,VOk v):(toks l).length≤l.length * 101:=by
 induction l with
 | nil=>simp[toks]
 | cons v l ih=>have h1:=ih fun u hu=>h u (Zl _ hu);have h2:=Qrp (h v Zk);have e:toks (v::l)=(32::Qmk v)++toks l:=rfl;rw[e,Zi,ZB,ZB];omega
def QeF (w:Str) (l:List AnyV):Str:=w++toks l++[10]
def Qfe {a b:Str} (h:a.length+b.length≤68719476736):Qa3 a b=some (a++b):=Zc h
def Qix {w:Str} {l:List AnyV} (h1:1≤w.length) (h2:w.length≤10) (hl:l.length≤1000) (hv:∀v∈l,VOk v):QaC w l=some (QeF w l):=by
 have key:Ok (QaC w l) (fun r=>r=QeF w l):=by
  unfold QaC;rw[Qfe (by simp;omega)];simp only[Za,Yg];refine Ok.bind (P:=fun r=>r=w++toks l) (Ok.loop (fun m s=>0≤s.1∧s.1+m=l.length∧s.2=w++toks (l.take s.1.toNat)) l.length ⟨Zy _,by dsimp only;omega,by simp[toks]⟩ fun m s hs=>?_) fun r hr=>?_
  ·obtain⟨i,t⟩:=s;obtain⟨e1,e2,e3⟩:=hs;dsimp only at e1 e2 e3;obtain⟨k,rfl⟩:=Zw e1;rw[Zr] at e3;subst e3;refine Ok.ite (fun hk=>?_) (fun hk=>?_)
   ·have hk':k<l.length:=by simpa using hk
    have hvk:=hv _ (Zn hk');have hlen:=Qm0 (l:=l.take k) fun v hm=>hv v (mem_of_mem_take hm);have htl:=Qrp hvk;have hlk:(l.take k).length≤1000:=by rw[Yb];omega
    dsimp only;rw[QX hk'];simp only[Za];have eb:QhO (w++toks (l.take k)) 32=some (w++toks (l.take k)++[32]):=Zc ⟨by decide,by decide,by rw[Zi];omega⟩;rw[eb];simp only[Za];refine Ok.bind (P:=fun p=>p=w++toks (l.take k)++[32]++Qmk l[k]) ?_ fun p hp=>Ok.mk ⟨m - 1,by omega,?_⟩
    ·cases hk2:l[k] with
     | int n=>rw[hk2] at hvk htl;show Ok (if true=true then _ else _) _;rw[Zc rfl];show Ok ((QnK n).bind _) _;rw[QBV hvk];simp only[Za];have hi:=Qro hvk;rw[Qfe (by simp only[Zi,length_singleton];omega)];exact Ok.mk rfl
     | str s=>rw[hk2] at hvk htl;show Ok (if false=true then _ else ((if true=true then (Qa3 (w++toks (l.take k)++[32]) s).bind _ else _)).bind _) _;rw[Zd (by decide),Zc rfl];have hs:s.length≤100:=hvk;rw[Qfe (by simp only[Zi,length_singleton];omega)];exact Ok.mk rfl
    ·subst hp;dsimp only;rw[QH hk' (by omega)];refine⟨by omega,by omega,?_⟩;rw[Zr,Zu hk'];simp only[toks,ZM,flatMap_cons,flatMap_nil,Yh,ZW,Yq,Yg]
   ·have hk':¬k<l.length:=by simpa using hk
    refine Ok.mk ?_;dsimp only;rw[ZD (by omega)]
  ·subst hr;have hlen:=Qm0 hv;have eb:QgL (w++toks l)=some (w++toks l):=Zd fun h=>by
    have:=ZF length h;rw[Zi,ZS] at this;omega
   rw[eb];simp only[Za];exact Ok.cat (by rw[Zi,length_singleton];omega) (Ok.mk rfl)
 obtain⟨r,hr,rfl⟩:=key;exact hr
def QfZ {w:Str} {l:List AnyV} (h2:w.length≤10) (hv:∀v∈l,VOk v):(QeF w l).length≤11+l.length * 101:=by have:=Qm0 hv;unfold QeF;rw[Zi,Zi,length_singleton];omega
def Qdc (s:Str):Str:=if s=[] then [45] else s
def Qm1 (s:Str):Qdj s=some (Qdc s):=by
 unfold Qdj Qf9;have key:∀body:Int→Option (Int⊕(Unit⊕Str)),(body 0=if (s !=[])=true then some (.inr (.inr s)) else some (.inl 1))→body 1=some (.inr (.inr [45]))→
   Ql body 0=some (.inr (Qdc s)):=fun body h0 h1=>by
  rw[Qas,h0];unfold Qdc;by_cases hs:s=[]
  ·rw[Zd (by simp[hs]),Zc hs];show Ql body 1=_;rw[Qas,h1]
  ·rw[Zc (by simpa using hs),Zd hs]
 rw[key _ rfl rfl];rfl
def Qag (f:Qc):List AnyV:=
 if f.Kind=0 then [.str f.Name,.int f.Lo]
 else if f.Kind=2 then [.str f.Name,.int f.Lo,.int f.Hi]
 else if f.Kind=3 then [.str f.Name,.int (f.Words.length:Int)]++(f.Words.zip f.Weights).flatMap fun p=>[.str p.1,.int p.2]
 else if f.Kind=6 then [.str f.Name,.str f.Of]
 else if f.Kind=7 then [.str f.Name,.str f.Up,.str f.Of,.int f.Lo,.int f.Hi]
 else if f.Kind=8 then [.str f.Name,.str f.Up,.str f.Of]
 else [.str f.Name,.str (Qdc f.Of),.int f.Lo,.int f.Hi]
def QkG (f:Qc):Str:=QjI[f.Kind.toNat]?.getD []
def QdD (f:Qc):Str:=QeF (QkG f) (Qag f)
def QeY {s:Str} (h:Q8 s=true):VOk (.str s):=by have:=Qe4 h;show s.length≤100;omega
def QjS {s:Str} (h:((s==[])||Q8 s)=true):VOk (.str (Qdc s)):=by
 unfold Qdc;by_cases hs:s=[]
 ·rw[Zc hs];show ([45]:Str).length≤100;decide
 ·rw[Zd hs];have:Q8 s=true:=by simpa[hs] using h
  exact QeY this
def QbJ {n:Int} (h:-100000000≤n∧n≤100000000):VOk (.int n):=by show I64 n;unfold I64;omega
def QwM {l:List Str} {g:List Int} (h:l.length=g.length) (k:Nat) (hk:k<l.length):(((l.zip g).take k).flatMap fun p=>[AnyV.str p.1,AnyV.int p.2])++[AnyV.str l[k],AnyV.int (g[k]'(by omega))]=((l.zip g).take (k+1)).flatMap fun p=>[AnyV.str p.1,AnyV.int p.2]:=by rw[Zu (by rw[length_zip];omega),ZM,getElem_zip];rfl
def QlG (l:List (Str×Int)):(l.flatMap fun p=>[AnyV.str p.1,AnyV.int p.2]).length=2 * l.length:=by
 induction l with
 | nil=>rfl
 | cons a l ih=>rw[flatMap_cons,Zi,ih];simp;omega
structure QoL (f:Qc):Prop where
 kind:0≤f.Kind∧f.Kind≤8
 items:∀v∈Qag f,VOk v
 count:(Qag f).length≤30
 pick:f.Kind=3→f.Words.length=f.Weights.length∧f.Words.length≤12
def Qcz {lo hi a b:Int} (h:QfE lo hi a b=true):a≤lo∧lo≤hi∧hi≤b:=by simp only[QfE,Zg,Zj] at h;omega
def Qjh {f:Qc} (h:fieldS f=true):QoL f:=by
 unfold fieldS at h;simp only[Zg] at h;obtain⟨⟨hn,_⟩,hp⟩:=h;have hnv:=QeY hn;unfold Qd0 at hp;by_cases c0:f.Kind=0
 ·rw[Zc c0] at hp;have e:Qag f=[.str f.Name,.int f.Lo]:=by unfold Qag;rw[Zc c0]
  refine⟨by omega,?_,by rw[e];simp,fun h=>by omega⟩;have:=QbU hp;rw[e];simp only[Zm,Zv,ZE,ZK,forall_eq];exact⟨hnv,QbJ (by omega)⟩
 rw[Zd c0] at hp;by_cases c1:f.Kind=1
 ·rw[Zc c1] at hp;simp only[Zg] at hp;have e:Qag f=[.str f.Name,.str (Qdc f.Of),.int f.Lo,.int f.Hi]:=by unfold Qag;simp[c1]
  have:=Qcz hp.2;refine⟨by omega,?_,by rw[e];simp,fun h=>by omega⟩;rw[e];simp only[Zm,Zv,ZE,ZK,forall_eq];exact⟨hnv,QjS (by rw[hp.1];simp),QbJ (by omega),QbJ (by omega)⟩
 rw[Zd c1] at hp;by_cases c2:f.Kind=2
 ·rw[Zc c2] at hp;have e:Qag f=[.str f.Name,.int f.Lo,.int f.Hi]:=by unfold Qag;simp[c2]
  have:=Qcz hp;refine⟨by omega,?_,by rw[e];simp,fun h=>by omega⟩;rw[e];simp only[Zm,Zv,ZE,ZK,forall_eq];exact⟨hnv,QbJ (by omega),QbJ (by omega)⟩
 rw[Zd c2] at hp;by_cases c3:f.Kind=3
 ·rw[Zc c3] at hp;simp only[Qih,Zg,Zt,Ye] at hp;obtain⟨hg,⟨⟨hw,hl⟩,_⟩,hws⟩:=hp;have hw':=(QbU hw).2;have hl':f.Words.length=f.Weights.length:=by omega
  have e:Qag f=[.str f.Name,.int (f.Words.length:Int)]++(f.Words.zip f.Weights).flatMap fun p=>[.str p.1,.int p.2]:=by unfold Qag;simp[c3]
  refine⟨by omega,?_,?_,fun _=>⟨hl',by omega⟩⟩
  ·rw[e];intro v hv;rcases Zp.1 hv with hv | hv
   ·simp only[Zm,Zv,ZE] at hv;rcases hv with rfl | rfl
    ·exact hnv
    ·exact QbJ (by omega)
   ·obtain⟨p,hp,hv⟩:=ZG.1 hv;obtain⟨a,b⟩:=p;have hz:=of_mem_zip hp;simp only[Zm,Zv,ZE] at hv;rcases hv with rfl | rfl
    ·exact QeY (hws _ hz.1)
    ·have:=QbU (hg _ hz.2);exact QbJ (by omega)
  ·rw[e,Zi,QlG,length_zip];simp only[ZB,ZS];omega
 rw[Zd c3] at hp;by_cases c4:f.Kind=4
 ·rw[Zc c4] at hp;simp only[Zg] at hp;have e:Qag f=[.str f.Name,.str (Qdc f.Of),.int f.Lo,.int f.Hi]:=by unfold Qag;simp[c4]
  have:=Qcz hp.2;refine⟨by omega,?_,by rw[e];simp,fun h=>by omega⟩;rw[e];simp only[Zm,Zv,ZE,ZK,forall_eq];exact⟨hnv,QjS hp.1,QbJ (by omega),QbJ (by omega)⟩
 rw[Zd c4] at hp;by_cases c5:f.Kind=5
 ·rw[Zc c5] at hp;simp only[Zg] at hp;have e:Qag f=[.str f.Name,.str (Qdc f.Of),.int f.Lo,.int f.Hi]:=by unfold Qag;simp[c5]
  have:=Qcz hp.2;refine⟨by omega,?_,by rw[e];simp,fun h=>by omega⟩;rw[e];simp only[Zm,Zv,ZE,ZK,forall_eq];exact⟨hnv,QjS (by rw[hp.1];simp),QbJ (by omega),QbJ (by omega)⟩
 rw[Zd c5] at hp;by_cases c6:f.Kind=6
 ·rw[Zc c6] at hp;have e:Qag f=[.str f.Name,.str f.Of]:=by unfold Qag;simp[c6]
  refine⟨by omega,?_,by rw[e];simp,fun h=>by omega⟩;rw[e];simp only[Zm,Zv,ZE,ZK,forall_eq];exact⟨hnv,QeY hp⟩
 rw[Zd c6] at hp;by_cases c7:f.Kind=7
 ·rw[Zc c7] at hp;simp only[Zg] at hp;have e:Qag f=[.str f.Name,.str f.Up,.str f.Of,.int f.Lo,.int f.Hi]:=by unfold Qag;simp[c7]
  have:=Qcz hp.2;refine⟨by omega,?_,by rw[e];simp,fun h=>by omega⟩;rw[e];simp only[Zm,Zv,ZE,ZK,forall_eq];exact⟨hnv,QeY hp.1.2,QeY hp.1.1,QbJ (by omega),QbJ (by omega)⟩
 rw[Zd c7] at hp;by_cases c8:f.Kind=8
 ·rw[Zc c8] at hp;simp only[Zg] at hp;have e:Qag f=[.str f.Name,.str f.Up,.str f.Of]:=by unfold Qag;simp[c8]
  refine⟨by omega,?_,by rw[e];simp,fun h=>by omega⟩;rw[e];simp only[Zm,Zv,ZE,ZK,forall_eq];exact⟨hnv,QeY hp.2,QeY hp.1⟩
 rw[Zd c8] at hp;cases hp
def QlH {f:Qc} (h:0≤f.Kind∧f.Kind≤8):idx QjI f.Kind=some (QkG f)∧1≤(QkG f).length∧(QkG f).length≤10:=by
 obtain⟨k,hk⟩:=Zw h.1;have hk8:k≤8:=by omega
 unfold QkG;rw[hk,Qci,Zr];have:k=0∨k=1∨k=2∨k=3∨k=4∨k=5∨k=6∨k=7∨k=8:=by omega
 rcases this with rfl | rfl | rfl | rfl | rfl | rfl | rfl | rfl | rfl<;>exact⟨rfl,by decide,by decide⟩
def Qy1 {f:Qc} (h:QoL f):Qfm f=some (QdD f):=by
 obtain⟨e0,w1,w2⟩:=QlH h.kind;have fin:QaC (QkG f) (Qag f)=some (QdD f):=Qix w1 w2 (by have:=h.count;omega) h.items;unfold Qfm;rw[e0];simp only[Za];by_cases c0:f.Kind=0
 ·rw[Zc (by simp[c0])];have e:Qag f=[.str f.Name,.int f.Lo]:=by unfold Qag;simp[c0]
  rw[←e,fin];rfl
 rw[Zd (by simpa using c0)];by_cases c2:f.Kind=2
 ·rw[Zc (by simp[c2])];have e:Qag f=[.str f.Name,.int f.Lo,.int f.Hi]:=by unfold Qag;simp[c2]
  rw[←e,fin];rfl
 rw[Zd (by simpa using c2)];by_cases c3:f.Kind=3
 ·rw[Zc (by simp[c3])];obtain⟨p1,p2⟩:=h.pick c3;have e:Qag f=[.str f.Name,.int (f.Words.length:Int)]++(f.Words.zip f.Weights).flatMap fun p=>[.str p.1,.int p.2]:=by unfold Qag;simp[c3]
  refine QbT f.Words.length (fun n=>((n:Int),[.str f.Name,.int (f.Words.length:Int)]++((f.Words.zip f.Weights).take n).flatMap fun p=>[.str p.1,.int p.2])) _ (by simp) (fun n hn=>?_) (Zd (by simp)) ?_
  ·have hlen:(((f.Words.zip f.Weights).take n).flatMap fun p=>[AnyV.str p.1,AnyV.int p.2]).length≤100:=by
    rw[QlG,Yb,length_zip];omega
   rw[Zc (by simpa using hn)];dsimp only;rw[QX hn,QX (by omega)];simp only[Za];rw[Qb2 (by simp only[Zi,ZB,ZS];omega),QH hn (by omega),←QwM p1 n hn,ZW];rfl
  ·dsimp only;rw[ZD (by rw[length_zip];omega),←e,fin];rfl
 rw[Zd (by simpa using c3)];by_cases c6:f.Kind=6
 ·rw[Zc (by simp[c6])];have e:Qag f=[.str f.Name,.str f.Of]:=by unfold Qag;simp[c6]
  rw[←e,fin];rfl
 rw[Zd (by simpa using c6)];by_cases c7:f.Kind=7
 ·rw[Zc (by simp[c7])];have e:Qag f=[.str f.Name,.str f.Up,.str f.Of,.int f.Lo,.int f.Hi]:=by unfold Qag;simp[c7]
  rw[←e,fin];rfl
 rw[Zd (by simpa using c7)];by_cases c8:f.Kind=8
 ·rw[Zc (by simp[c8])];have e:Qag f=[.str f.Name,.str f.Up,.str f.Of]:=by unfold Qag;simp[c8]
  rw[←e,fin];rfl
 rw[Zd (by simpa using c8),Qm1];simp only[Za];have e:Qag f=[.str f.Name,.str (Qdc f.Of),.int f.Lo,.int f.Hi]:=by unfold Qag;simp[c0,c2,c3,c6,c7,c8]
 rw[←e,fin];rfl
def Qh7 {f:Qc} (h:QoL f):(QdD f).length≤4000:=by have:=QfZ (QlH h.kind).2.2 h.items;have:=h.count;unfold QdD;omega
def QiW {α:Type} (l:List α) (g:α→Str) (B:Nat) (hB:∀a∈l,(g a).length≤B) (a0:Str) {body:Int×Str→Option ((Int×Str)⊕Str)}
  (hs:∀k (h:k<l.length) acc,acc.length≤a0.length+k * B→body ((k:Int),acc)=some (.inl (((k+1:Nat):Int),acc++g l[k]))) (he:∀acc,body ((l.length:Int),acc)=some (.inr acc)):
  Ql body ((0:Int),a0)=some (a0++l.flatMap g):=by
 have hlen:∀n,n≤l.length→((l.take n).flatMap g).length≤n * B:=fun n=>by
  induction n with
  | zero=>intro _;simp
  | succ n ih=>intro hn;rw[Zu (by omega),ZM,Zi,Nat.succ_mul];have h1:=ih (by omega);have h2:=hB _ (Zn (show n<l.length by omega));simp only[flatMap_cons,flatMap_nil,Yh];omega
 have h:=Qcn (body:=body) l.length (fun n=>((n:Int),a0++(l.take n).flatMap g)) (a0++l.flatMap g) (fun k hk=>?_) ?_
 ·simpa using h
 ·rw[hs k hk _ (by rw[Zi];have:=hlen k (by omega);omega),Zu hk,ZM];simp
 ·rw[he];simp
def QeZ (k:Qg):Str:=QeF [107,105,110,100] [.str k.Name,.int k.Lo,.int k.Hi]++k.Fields.flatMap QdD
def QgW (m:QK):Str:=QeF [109,111,118,101] [.int m.a0,.int m.a1]
def Qfy (l:QB):Str:=QeF [108,105,102,101] ([.str l.Name,.int (l.States.length:Int)]++l.States.map .str)++l.Moves.flatMap QgW
def Qen (r:Qo):List AnyV:=[.str r.Name,.str r.Kind,.str (Qdc r.A),.str (Qdc r.B),.int r.N]
def QgX (r:Qo):Str:=QeF [114,117,108,101] (Qen r)
def srcS (x:Qa):Str:=QeF [115,99,104,101,109,97] [.int x.Version]++x.Kinds.flatMap QeZ++x.Lives.flatMap Qfy++x.Rules.flatMap QgX
def QcF {k:Qg} (h:kindS k=true):(∀v∈[AnyV.str k.Name,.int k.Lo,.int k.Hi],VOk v)∧k.Fields.length≤10∧∀f∈k.Fields,fieldS f=true:=by simp only[kindS,Zg,Zt,Zj] at h;obtain⟨⟨⟨h1,h2⟩,h3⟩,h4⟩:=h;have:=Qcz h2;refine⟨?_,by omega,h4⟩;simp only[Zm,Zv,ZE,ZK,forall_eq];exact⟨QeY h1,QbJ (by omega),QbJ (by omega)⟩
def Qff {α:Type} {l:List α} {g:α→Str} {B:Nat} (h:∀a∈l,(g a).length≤B):(l.flatMap g).length≤l.length * B:=by
 induction l with
 | nil=>simp
 | cons a l ih=>have h1:=ih fun b hb=>h b (Zl _ hb);have h2:=h a Zk;rw[flatMap_cons,Zi,ZB,Nat.succ_mul];omega
def QmJ {k:Qg} (h:kindS k=true):(QeZ k).length≤50000:=by obtain⟨h1,h2,h3⟩:=QcF h;have e1:=QfZ (w:=[107,105,110,100]) (by decide) h1;have e2:=Qff (l:=k.Fields) (g:=QdD) (B:=4000) fun f hf=>Qh7 (Qjh (h3 f hf));unfold QeZ;rw[Zi];simp only[ZB,ZS] at e1;omega
def move_v {n:Int} (hn:n≤1000) {m:QK} (h:QeE n m=true):∀v∈[AnyV.int m.a0,.int m.a1],VOk v:=by simp only[QeE,Zg] at h;have h1:=QbU h.1;have h2:=QbU h.2;simp only[Zm,Zv,ZE,ZK,forall_eq];exact⟨QbJ (by omega),QbJ (by omega)⟩
def QwN {l:QB} (h:Qge l=true):(∀v∈[AnyV.str l.Name,.int (l.States.length:Int)]++l.States.map .str,VOk v)∧l.States.length≤12∧l.Moves.length≤32∧∀m∈l.Moves,∀v∈[AnyV.int m.a0,.int m.a1],VOk v:=by
 simp only[Qge,Zg,Zt,Zj] at h;obtain⟨⟨⟨⟨h1,h2⟩,h3⟩,h4⟩,h5⟩:=h;have hl:=(QbU h2).2;refine⟨fun v hv=>?_,by omega,by omega,fun m hm=>move_v (by omega) (h5 m hm)⟩;rcases Zp.1 hv with hv | hv
 ·simp only[Zm,Zv,ZE] at hv;rcases hv with rfl | rfl
  ·exact QeY h1
  ·exact QbJ (by omega)
 ·obtain⟨s,hs,rfl⟩:=ZC.1 hv;exact QeY (h3 s hs)
def Qjx {m:QK} (h:∀v∈[AnyV.int m.a0,.int m.a1],VOk v):(QgW m).length≤300:=by have:=QfZ (w:=[109,111,118,101]) (by decide) h;simp only[ZB,ZS] at this;unfold QgW;omega
def Qjy {l:QB} (h:Qge l=true):(Qfy l).length≤20000:=by obtain⟨h1,h2,h3,h4⟩:=QwN h;have e1:=QfZ (w:=[108,105,102,101]) (by decide) h1;have e2:=Qff (l:=l.Moves) (g:=QgW) (B:=300) fun m hm=>Qjx (h4 m hm);unfold Qfy;rw[Zi];simp only[Zi,ZB,ZS,ZT] at e1;omega
def QwO {r:Qo} (h:QcQ r=true):∀v∈Qen r,VOk v:=by simp only[QcQ,Zg] at h;obtain⟨⟨⟨⟨⟨h1,h2⟩,h3⟩,h4⟩,_⟩,h5⟩:=h;have:=QbU h5;unfold Qen;simp only[Zm,Zv,ZE,ZK,forall_eq];exact⟨QeY h1,QeY h2,QjS h3,QjS h4,QbJ (by omega)⟩
def QmK {r:Qo} (h:QcQ r=true):(QgX r).length≤1000:=by have:=QfZ (w:=[114,117,108,101]) (by decide) (QwO h);have e:(Qen r).length=5:=rfl;unfold QgX;omega
def Qfr (x:Qa):Bool:=((((inW x.Version 0 1048576&&decide ((x.Kinds.length:Int)≤6))&&decide ((x.Lives.length:Int)≤6))&&decide ((x.Rules.length:Int)≤16))&&x.Kinds.all kindS)&&x.Lives.all Qge&&x.Rules.all QcQ
structure Qfz (x:Qa):Prop where
 version:0≤x.Version∧x.Version≤1048576
 kinds:x.Kinds.length≤6
 lives:x.Lives.length≤6
 rules:x.Rules.length≤16
 kind:∀k∈x.Kinds,kindS k=true
 life:∀l∈x.Lives,Qge l=true
 rule:∀r∈x.Rules,QcQ r=true
def QlI {x:Qa} (h:Qfr x=true):Qfz x:=by simp only[Qfr,Zg,Zt,Zj] at h;obtain⟨⟨⟨⟨⟨⟨h1,h2⟩,h3⟩,h4⟩,h5⟩,h6⟩,h7⟩:=h;exact⟨QbU h1,by omega,by omega,by omega,h5,h6,h7⟩
def QwP {x:Qa} (h:Qfz x):QeP x=some (srcS x):=by
 have hv:=h.version;have v0:∀v∈[AnyV.int x.Version],VOk v:=by simp only[Zm,Zv,ZE,forall_eq];exact QbJ (by omega)
 have l0:=QfZ (w:=[115,99,104,101,109,97]) (by decide) v0;simp only[ZB,ZS] at l0;have lk:=Qff (l:=x.Kinds) (g:=QeZ) (B:=50000) fun k hk=>QmJ (h.kind k hk);have ll:=Qff (l:=x.Lives) (g:=Qfy) (B:=20000) fun k hk=>Qjy (h.life k hk);have nk:=h.kinds;have nl:=h.lives;have nr:=h.rules;unfold QeP;rw[Qix (by decide) (by decide) (by simp) v0];simp only[Za];rw[Qfe (by rw[ZS];omega)];simp only[Za,Yg];rw[QiW x.Kinds QeZ 50000 (fun k hk=>QmJ (h.kind k hk)) (QeF [115,99,104,101,109,97] [.int x.Version]) (fun k hk acc hacc=>?_) (fun acc=>Zd (by simp))]
 ·simp only[Za];rw[QiW x.Lives Qfy 20000 (fun k hk=>Qjy (h.life k hk)) (QeF [115,99,104,101,109,97] [.int x.Version]++x.Kinds.flatMap QeZ) (fun k hk acc hacc=>?_) (fun acc=>Zd (by simp))]
  ·simp only[Za];rw[QiW x.Rules QgX 1000 (fun k hk=>QmK (h.rule k hk)) (QeF [115,99,104,101,109,97] [.int x.Version]++x.Kinds.flatMap QeZ++x.Lives.flatMap Qfy) (fun k hk acc hacc=>?_) (fun acc=>Zd (by simp))]
   ·simp only[Za];have e:QgL (srcS x)=some (srcS x):=Zd fun h=>by
     have:=ZF length h;simp only[srcS,QeF,Zi,ZB,ZS] at this;omega
    show (QgL (srcS x)).bind _=_;rw[e];rfl
   ·have hr:=h.rule _ (Zn hk);have hrl:=QmK hr;rw[Zc (by simpa using hk)];dsimp only;rw[QX hk];simp only[Za];rw[Qm1,Qm1];simp only[Za];show (QaC [114,117,108,101] (Qen x.Rules[k])).bind _=_;rw[Qix (by decide) (by decide) (by simp[Qen]) (QwO hr)];simp only[Za];rw[Zi,Zi] at hacc;rw[Qfe (by show acc.length+(QgX x.Rules[k]).length≤_;omega),QH hk (by omega)];rfl
  ·have hl:=h.life _ (Zn hk);obtain⟨w1,w2,w3,w4⟩:=QwN hl;have hll:=Qjy hl;rw[Zc (by simpa using hk)];dsimp only;rw[QX hk];simp only[Za];have hst:∀n,n≤x.Lives[k].States.length→([AnyV.str x.Lives[k].Name,.int (x.Lives[k].States.length:Int)]++(x.Lives[k].States.take n).map AnyV.str).length≤100:=fun n hn=>by
    simp only[Zi,ZB,ZS,ZT,Yb];omega
   refine QbT x.Lives[k].States.length (fun n=>((n:Int),[AnyV.str x.Lives[k].Name,.int (x.Lives[k].States.length:Int)]++(x.Lives[k].States.take n).map AnyV.str)) _ (by simp) (fun n hn=>?_) (Zd (by simp)) ?_
   ·rw[Zc (by simpa using hn)];dsimp only;rw[QX hn];simp only[Za];rw[Qb2 (by have:=hst n (by omega);rw[length_singleton];omega),QH hn (by omega),Zu hn,ZV,←ZW];rfl
   ·dsimp only;rw[ZD (Zx _),Qix (by decide) (by decide) (by have:=hst _ (Zx _);rw[ZD (Zx _)] at this;omega) w1];simp only[Za];have l1:=QfZ (w:=[108,105,102,101]) (by decide) w1;simp only[Zi,ZB,ZS,ZT] at l1;rw[Zi] at hacc;rw[Qfe (by omega)];simp only[Za];rw[QiW x.Lives[k].Moves QgW 300 (fun m hm=>Qjx (w4 m hm)) _ (fun q hq acc2 hacc2=>?_) (fun acc=>Zd (by simp))]
    ·simp only[Za];rw[QH hk (by omega)];simp[Qfy]
    ·have hm:=w4 _ (Zn hq);have hml:=Qjx hm;rw[Zc (by simpa using hq)];dsimp only;rw[QX hq];simp only[Za];rw[Qix (by decide) (by decide) (by simp) hm];simp only[Za];rw[Zi] at hacc2;rw[Qfe (by show acc2.length+(QgW x.Lives[k].Moves[q]).length≤_;omega),QH hq (by omega)];rfl
 ·have hk':=h.kind _ (Zn hk);obtain⟨w1,w2,w3⟩:=QcF hk';have l1:=QfZ (w:=[107,105,110,100]) (by decide) w1;simp only[ZB,ZS] at l1;rw[Zc (by simpa using hk)];dsimp only;rw[QX hk];simp only[Za];rw[Qix (by decide) (by decide) (by simp) w1];simp only[Za];rw[Qfe (by omega)];simp only[Za];rw[QiW x.Kinds[k].Fields QdD 4000 (fun f hf=>Qh7 (Qjh (w3 f hf))) _ (fun q hq acc2 hacc2=>?_) (fun acc=>Zd (by simp))]
  ·simp only[Za];rw[QH hk (by omega)];simp[QeZ]
  ·have hf:=Qjh (w3 _ (Zn hq));have hfl:=Qh7 hf;rw[Zc (by simpa using hq)];dsimp only;rw[QX hq];simp only[Za];rw[Qy1 hf];simp only[Za];rw[Zi] at hacc2;rw[Qfe (by omega),QH hq (by omega)];rfl
def Qgw (x:Qa):Int:=if Qfr x=true then (if (srcS x).length>8192 then 4 else 0) else 1
def Fine (x:Qa):Prop:=(x.Kinds.length≤1000000∧∀k∈x.Kinds,Qpo k.Fields)∧(x.Lives.length≤1000000∧∀l∈x.Lives,l.States.length≤1000000∧l.Moves.length≤1000000)∧x.Rules.length≤1000000
def Sz.fine {x:Qa} (h:Sz x):Fine x:=by
 obtain⟨⟨a1,a2⟩,⟨b1,b2⟩,c,_⟩:=h;refine⟨⟨by omega,fun k hk=>⟨by have:=(a2 k hk).1;omega,fun f hf=>?_⟩⟩,⟨by omega,fun l hl=>?_⟩,by omega⟩
 ·have:=(a2 k hk).2.1 f hf;exact⟨by have:=this.1;omega,by have:=this.2.1;omega⟩
 ·have:=b2 l hl;exact⟨by omega,by omega⟩
def Qy2 {x:Qa} (h:Fine x):Qfn x=some (Qgw x):=by
 obtain⟨⟨a1,a2⟩,⟨b1,b2⟩,c⟩:=h;unfold Qfn;rw[QBR (p:=kindS) a1 (fun k hk=>QwJ (a2 k hk)),QBS (p:=Qge) b1 (fun l hl=>QwK (b2 l hl).1 (b2 l hl).2),QBT (p:=QcQ) c (fun r _=>QwL r)];show (some (inW x.Version 0 1048576)).bind _=_;simp only[Za];have n1:∀(n:Nat) (m:Int),decide ((n:Int)>m)=!decide ((n:Int)≤m):=fun n m=>by
  by_cases h:(n:Int)≤m
  ·rw[decide_eq_true h,decide_eq_false (by omega)];rfl
  ·rw[decide_eq_false h,decide_eq_true (by omega)];rfl
 rw[n1,n1,n1];unfold Qgw
 cases hv:Qfr x with
 | true=>
  have hs:=QwP (QlI hv);simp only[Qfr,Zg] at hv;obtain⟨⟨⟨⟨⟨⟨h1,h2⟩,h3⟩,h4⟩,h5⟩,h6⟩,h7⟩:=hv;simp only[h1,h2,h3,h4,h5,h6,h7,Sim.opt,Bool.not_true,Bool.or_self,beq_self_eq_true,if_true,Za];rw[Zd (by decide),hs];simp only[Za];by_cases hl:(srcS x).length>8192
  ·rw[Zc (by simp;omega),Zc hl]
  ·rw[Zd (by simp;omega),Zd hl]
 | false=>
  rw[Zd (by decide)];unfold Qfr at hv
  cases h1:inW x.Version 0 1048576<;>cases h2:decide ((x.Kinds.length:Int)≤6)<;>cases h3:decide ((x.Lives.length:Int)≤6)<;>cases h4:decide ((x.Rules.length:Int)≤16)<;>
   cases h5:x.Kinds.all kindS<;>cases h6:x.Lives.all Qge<;>cases h7:x.Rules.all QcQ<;>first | rfl | (rw[h1,h2,h3,h4,h5,h6,h7] at hv;cases hv)
